/-
The references' naturals (ulpref03): Shr.
The references' naturals (ulpref03): Mul. Printed by gen_nat6.py.
Dyadic numbers: their one form, sums, products, cuts, order. Plain: no program in sight.
Symbolic execution, sixteenth part: functions of bools, numbers, words, dyadic numbers and intervals; what they are shown to answer.
Types, and the words of packages limbs and ulpref03: out of their contracts.
Package raw: numbers, first part.
Package raw: numbers, second part.
Package raw: intervals.
Dyadic numbers: sizes of what is reckoned. Plain.
Package raw: intervals, reckoned with.
Symbolic execution, seventeenth part: words told by patterns; words that forget which memory is new; what can be known of arguments.
Dyadic numbers as rational numbers: what is reckoned, and order. Plain.
Package ulpref04.
The references' naturals (ulpref03): short.
Dyadic numbers as rational numbers: tops, narrowness, one form. Plain.
The next numbers of so many bits, down and up. Plain.
Quotients and roots: the next numbers of so many bits. Plain.
Roots; products and quotients of what lies between ends. Plain.
-/
import Derived.Test.YtdnbckfhfhfkoaaGreatDoorMg1
import Derived.Deep.QuietTactic
import Derived.BigQuiet
import Derived.StillTailTactics
namespace Go.Proofs.YtdnbckfhfhfkoaaGreatDoor
open Go.RowKit

theorem lostB_all {X : List Int} {n : Int} (hX : Words X) (hn : 64 * (X.length : Int) ≤ n) : lostB (val X) n.toNat = decide (0 < blen (val X)) := by
  have h0 := val_nonneg hX
  have h1 := val_lt hX
  rw [wpow_eq] at h1
  have h2 := two_pow_le (j := 64 * X.length) (k := n.toNat) (by omega)
  unfold lostB
  rw [Int.emod_eq_of_lt h0 (by omega), Bool.eq_iff_iff]
  simp only [decide_eq_true_eq]
  have := blen_zero_iff h0
  omega
theorem lostB_split {X : List Int} {q r : Nat} {n : Int} (hX : Words X) (hq : q ≤ X.length) (hr : r < 64) (hn : n = 64 * q + r) :
    lostB (val X) n.toNat = (decide (val (X.take q) ≠ 0) || decide (nth X q % 2 ^ r ≠ 0)) := by
  have s := val_split X q hq
  have a1 := val_lt (hX.take q)
  have a0 := val_nonneg (hX.take q)
  rw [List.length_take, Nat.min_eq_left hq] at a1
  have p := wpow_pos q
  have pr := two_pow_pos r
  have en : nth X q = nth (X.drop q) 0 := by rw [nth_drop]; rfl
  have e1 : val X % 2 ^ n.toNat = val (X.take q) + wpow q * (val (X.drop q) % 2 ^ r) := by
    rw [show n.toNat = 64 * q + r from by omega, Int.pow_add, ← wpow_eq]
    have h2 := Int.mul_ediv_add_emod (val (X.drop q)) (2 ^ r)
    have m0 := Int.emod_nonneg (val (X.drop q)) (show (2 : Int) ^ r ≠ 0 by omega)
    have m1 := Int.emod_lt_of_pos (val (X.drop q)) pr
    have key : val X = val (X.take q) + wpow q * (val (X.drop q) % 2 ^ r) + wpow q * 2 ^ r * (val (X.drop q) / 2 ^ r) := by
      rw [s]
      conv => lhs; rw [← h2]
      grind
    rw [key, Int.add_mul_emod_self_left]
    refine Int.emod_eq_of_lt (by have := Int.mul_nonneg (show 0 ≤ wpow q by omega) m0; omega) ?_
    have := Int.mul_le_mul_of_nonneg_left (show val (X.drop q) % 2 ^ r + 1 ≤ 2 ^ r by omega) (show 0 ≤ wpow q by omega)
    rw [Int.mul_add] at this
    omega
  have e2 : val (X.drop q) % 2 ^ r = nth X q % 2 ^ r := by
    rw [en]
    generalize X.drop q = Y
    cases Y with
    | nil => simp [nth, val]
    | cons y ys =>
      rw [nth_cons_zero, val_cons]
      have e : (18446744073709551616 : Int) = 2 ^ r * 2 ^ (64 - r) := by
        rw [← Int.pow_add, show r + (64 - r) = 64 from by omega]; decide
      rw [e, Int.mul_assoc, Int.add_mul_emod_self_left]
  unfold lostB
  rw [e1, e2, Bool.eq_iff_iff]
  have m0 := Int.emod_nonneg (nth X q) (show (2 : Int) ^ r ≠ 0 by omega)
  generalize nth X q % 2 ^ r = m at *
  simp only [Bool.or_eq_true, decide_eq_true_eq]
  have := Int.mul_nonneg (show 0 ≤ wpow q by omega) m0
  constructor
  · intro h
    by_cases hm : m = 0
    · rw [hm] at h; left; simpa using h
    · exact .inr hm
  · rintro (h | h)
    · omega
    · have := Int.mul_pos p (show 0 < m by omega); omega
/-- What is lost of a word divided by 2^r, as its bits moved up. -/
theorem lost_word {y : Int} {r : Nat} (_ : Word y) (hr0 : 0 < r) (hr : r < 64) : (IntKind.u64.wrap (y * 2 ^ (64 - r)) != 0) = decide (y % 2 ^ r ≠ 0) := by
  have p := two_pow_pos r
  have p2 := two_pow_pos (64 - r)
  have e : (18446744073709551616 : Int) = 2 ^ (64 - r) * 2 ^ r := by
    rw [← Int.pow_add, show 64 - r + r = 64 from by omega]; decide
  rw [wrap_lo]
  unfold lo64
  rw [e, Int.mul_comm y, Int.mul_emod_mul_of_pos _ _ p2, Bool.eq_iff_iff]
  have m0 := Int.emod_nonneg y (show (2 : Int) ^ r ≠ 0 by omega)
  generalize y % 2 ^ r = m at *
  simp only [bne_iff_ne, decide_eq_true_eq, ne_eq, Int.mul_eq_zero]
  omega
theorem take_ne {X : List Int} {k : Nat} (hX : Words X) : decide (val (X.take (k + 1)) ≠ 0) = (decide (val (X.take k) ≠ 0) || (nth X k != 0)) := by
  have a0 := val_nonneg (hX.take k)
  have w0 := (hX.nth k).1
  have p := wpow_pos k
  rw [val_take_more, Bool.eq_iff_iff]
  simp only [Bool.or_eq_true, decide_eq_true_eq, bne_iff_ne]
  have := Int.mul_nonneg (show 0 ≤ wpow k by omega) w0
  constructor
  · intro h
    by_cases hm : nth X k = 0
    · rw [hm] at h; left; simpa using h
    · exact .inr hm
  · rintro (h | h)
    · omega
    · have := Int.mul_pos p (show 0 < nth X k by omega); omega

set_option maxRecDepth 100000 in
set_option maxHeartbeats 3200000 in
theorem shr3_calls {B : Nat} {w : World} {v : Value} {xs : List Int} (n : Int) (h : NatAt B w v xs) (hn0 : 0 ≤ n) (hn : n ≤ 9007199254740992) :
    Calls Tryz.prog 79 #[v, .int .i64 n] w (RNatB w (ws (val xs / 2 ^ n.toNat)) (lostB (val xs) n.toNat)) := by
  obtain ⟨q, hq⟩ : ∃ q : Nat, n / 64 = (q : Int) := ⟨(n / 64).toNat, by omega⟩
  obtain ⟨r, hr⟩ : ∃ q : Nat, n % 64 = (q : Int) := ⟨(n % 64).toNat, by omega⟩
  have htd : n.tdiv 64 = (q : Int) := by rw [Int.tdiv_eq_ediv_of_nonneg hn0]; exact hq
  have htm : n.tmod 64 = (r : Int) := by rw [Int.tmod_eq_emod_of_nonneg hn0]; exact hr
  have hr' : (r : Int) < 64 := by omega
  have hnq : Hid (n = 64 * q + r) := by show _ = _; omega
  have HN := Lib.hid h
  obtain ⟨A, L, c, g, o, rfl, ha, hk, hq1, hL, hg, hc, e, wx⟩ := h.sub
  clear h
  go_enter Tryz.func79, Tryz.ntmps79
  by_cases hbig : 64 * (L : Int) ≤ n
  · have hv0 : Hid (val xs / 2 ^ n.toNat = 0) := by
      show _ = _
      exact val_shr_zero (q := L) wx.out (by rw [e.out]; omega) hbig
    have hlo : Hid (lostB (val xs) n.toNat = decide (0 < blen (val xs))) := lostB_all wx.out (by rw [e.out]; exact hbig)
    clear hq hr
    go_wp2_with fail
    refine (len3_calls HN.out).mono ?_
    rintro e' w1 ⟨rfl, hb⟩
    have HB := Lib.hid hb
    clear hb
    go_wp2
    go_ret2
    exact ⟨_, by rw [hlo.out]; rfl, by rw [hv0.out, ws_zero]; exact NatAt.nil _ _, HB.out⟩
  · have hqL : q < L := by omega
    have hqL1 : (q : Int) < (L : Int) := by omega
    have hlo : Hid (lostB (val xs) n.toNat = (decide (val (xs.take q) ≠ 0) || decide (nth xs q % 2 ^ r ≠ 0))) := lostB_split wx.out (by rw [e.out]; omega) (by omega) hnq.out
    have hvY : Hid (val (xs.drop q) / 2 ^ r = val xs / 2 ^ n.toNat) := shr_val wx.out (by rw [e.out]; omega) hnq.out
    obtain rfl := ha (by omega)
    have hcq := hc q hqL
    have hgL := hg (by omega)
    clear hq hr ha hg
    go_wp2_with (simp only [htd, htm])
    go_loopw [6, 26] (fun b i wr => ∃ (k : Nat) (t : Bool), k ≤ q ∧ i = .int .i64 k ∧ b = .bool t ∧ (∃ n, wr = w.drewN n) ∧ Hid (t = decide (val (xs.take k) ≠ 0))) (fun _ i _ => q - (intOf i).toNat)
    case atStart => exact ⟨0, false, by omega, rfl, rfl, ⟨0, rfl⟩, by simp [val, Hid]⟩
    case round =>
      obtain ⟨k, t, hk1, rfl, rfl, ⟨dn, rfl⟩, ht⟩ := hrel
      by_cases hlt : k < q
      · have hck := hc k (by omega)
        have hnew : Hid ((t || (nth xs k != 0)) = decide (val (xs.take (k + 1)) ≠ 0)) := by show _ = _; rw [take_ne wx.out, ht.out]
        cases t with
        | true =>
          go_wp2
          go_roundw
          case rel => exact ⟨k + 1, true, by omega, by go_num, rfl, ⟨_, rfl⟩, by show _ = _; simpa using hnew.out⟩
          case measure => simp [intOf]; omega
        | false =>
          have hnew2 : Hid ((nth xs k != 0) = decide (val (xs.take (k + 1)) ≠ 0)) := by show _ = _; simpa using hnew.out
          go_wp2
          go_roundw
          case rel => exact ⟨k + 1, _, by omega, by go_num, rfl, ⟨_, rfl⟩, hnew2⟩
          case measure => simp [intOf]; omega
      · obtain rfl : q = k := by omega
        have hlt2 : ¬ ((q : Int) < (q : Int)) := by omega
        obtain ⟨w0, hw0⟩ : ∃ w0 : World, w.drewN dn = w0 := ⟨_, rfl⟩
        have hbel0 : Hid (Below w.heap.size w w0) := by show Below _ _ _; rw [← hw0]; exact below_draws (Below.refl _ _) _
        have hc0 : ∀ j, j < L → w0.cell? ⟨g, o + j, none⟩ = some (.int .u64 (nth xs j)) := by rw [← hw0]; exact hc
        rw [hw0]
        clear hw0 hc hcq
        have wy : Hid (Words (xs.drop q)) := wx.out.drop q
        have hlenY : Hid ((xs.drop q).length = L - q) := by show _ = _; rw [List.length_drop, e.out]
        go_wp2_with (simp only [htd, htm])
        go_loopw [10, 11] (fun u i wr => ∃ (k : Nat) (zs : List Int), q + k ≤ L ∧ i = .int .i64 ((q + k : Nat) : Int) ∧ OwnL wr w.heap.size u zs ∧ Below w.heap.size w wr ∧ Hid (zs.length = k ∧ Words zs ∧ 2 ^ r * val zs + nth (xs.drop q) 0 % 2 ^ r = val ((xs.drop q).take k) + wpow k * (nth (xs.drop q) k % 2 ^ r))) (fun _ i _ => L - (intOf i).toNat)
        case atStart => exact ⟨0, [], by omega, by go_num, OwnL.nil _ _, hbel0.out, rfl, Words.nil, by simp [val, wpow]⟩
        case round =>
          obtain ⟨k, zs, hk1, rfl, ho, hbel, hrr⟩ := hrel
          obtain ⟨r1, r2, r3⟩ := hrr.out
          have HO := Lib.hid ho; have HB := Lib.hid hbel
          by_cases hlt : q + k < L
          · have hlz : Hid (zs.length + 1 ≤ 17592186044415) := by show _ ≤ _; omega
            have hlt3 : ((q + k : Nat) : Int) < (L : Int) := by omega
            have hyk : wr.cell? ⟨g, o + (q + k), none⟩ = some (.int .u64 (nth (xs.drop q) k)) := by rw [nth_drop]; exact ((bcell hbel).1 _ _ hgL).trans ((bcell hbel0.out).1 _ _ hgL ▸ hc0 (q + k) hlt)
            have wyk := wy.out.nth k
            have wyk1 := wy.out.nth (k + 1)
            by_cases hr0 : 0 < r
            · have hr1 : (0 : Int) < (r : Int) := by omega
              obtain ⟨V, hV0, wV, eV⟩ := shr_word wyk wyk1 hr0 (by omega)
              have hV := hV0.symm
              clear hV0
              have hword : Hid (Calls Tryz.prog 105 #[.slice (some ⟨g, o, none⟩) L c, .int .i64 (((q + k : Nat) : Int) + 1)] wr fun e w' => e = .returned (.int .u64 (nth (xs.drop q) (k + 1))) ∧ wr = w') := by
                rw [nth_drop]
                exact word_calls (HN.out.below hbel) _ (q + (k + 1)) (by omega)
              have hnew : Hid ((zs ++ [V]).length = k + 1 ∧ Words (zs ++ [V]) ∧ 2 ^ r * val (zs ++ [V]) + nth (xs.drop q) 0 % 2 ^ r = val ((xs.drop q).take (k + 1)) + wpow (k + 1) * (nth (xs.drop q) (k + 1) % 2 ^ r)) := ⟨by simp [r1], r2.append (Words.nil.cons wV), shr_next r1 r3 eV⟩
              have hx0 := wyk.1; have hx1 := wyk.2; have hx2 := wyk1.1; have hx3 := wyk1.2
              clear hrr r1 r2 r3 wV eV ho hbel wyk wyk1
              generalize nth (xs.drop q) k = x at *
              obtain ⟨x1, hxx⟩ : ∃ x1, Hid (nth (xs.drop q) (k + 1) = x1) := ⟨_, rfl⟩
              rw [hxx.out] at hword hV hx2 hx3
              go_wp2_with fail
              refine hword.out.mono ?_
              rintro e' w' ⟨rfl, rfl⟩
              go_wp2_with (at_builtin; refine wpList_append_word w.heap.size rfl (.tmp 64) (.tmp 66) 23 rfl Tryz.underlying23 _ zs V rfl rfl HO.out HB.out HB.out.size hlz.out ?_; intro v1 w1 ho1 hb1)
              have HO1 := Lib.hid ho1; have HB1 := Lib.hid hb1
              clear ho1 hb1
              go_wp2
              go_roundw
              case rel => exact ⟨k + 1, zs ++ [V], by omega, by go_num, HO1.out, HB1.out, hnew⟩
              case measure => simp [intOf]; omega
            · have hr1 : ¬ ((0 : Int) < (r : Int)) := by omega
              have hrz : Hid (r = 0) := by show _ = _; omega
              obtain ⟨V, hV⟩ : ∃ V, nth (xs.drop q) k / 2 ^ r = V := ⟨_, rfl⟩
              have hVx : V = nth (xs.drop q) k := by rw [← hV, hrz.out]; simp
              have wV : Word V := by rw [hVx]; exact wyk
              have eV : 2 ^ r * V + nth (xs.drop q) k % 2 ^ r = nth (xs.drop q) k + 18446744073709551616 * (nth (xs.drop q) (k + 1) % 2 ^ r) := by rw [hVx, hrz.out]; simp
              have hnew : Hid ((zs ++ [V]).length = k + 1 ∧ Words (zs ++ [V]) ∧ 2 ^ r * val (zs ++ [V]) + nth (xs.drop q) 0 % 2 ^ r = val ((xs.drop q).take (k + 1)) + wpow (k + 1) * (nth (xs.drop q) (k + 1) % 2 ^ r)) := ⟨by simp [r1], r2.append (Words.nil.cons wV), shr_next r1 r3 eV⟩
              have hx0 := wyk.1; have hx1 := wyk.2
              clear hrr r1 r2 r3 wV eV ho hbel wyk wyk1 hVx
              generalize nth (xs.drop q) k = x at *
              go_wp2_with (at_builtin; refine wpList_append_word w.heap.size rfl (.tmp 64) (.tmp 66) 23 rfl Tryz.underlying23 _ zs V rfl rfl HO.out HB.out HB.out.size hlz.out ?_; intro v1 w1 ho1 hb1)
              have HO1 := Lib.hid ho1; have HB1 := Lib.hid hb1
              clear ho1 hb1
              go_wp2
              go_roundw
              case rel => exact ⟨k + 1, zs ++ [V], by omega, by go_num, HO1.out, HB1.out, hnew⟩
              case measure => simp [intOf]; omega
          · have hlt3 : ¬ (((q + k : Nat) : Int) < (L : Int)) := by omega
            have hval : Hid (val zs = val xs / 2 ^ n.toNat) := by
              show _ = _
              rw [← hvY.out]; exact shr_end (k := k) (by rw [hlenY.out]; omega) wy.out (by omega) r3
            have hwz : Hid (Words zs) := r2
            have hlz : Hid (zs.length ≤ 17592186044415) := by show _ ≤ _; omega
            have hcq : wr.cell? ⟨g, o + q, none⟩ = some (.int .u64 (nth xs q)) := ((bcell hbel).1 _ _ hgL).trans ((bcell hbel0.out).1 _ _ hgL ▸ hc0 q (by omega))
            have hNZ := Lib.hid (HO.out.nat hlz.out hwz.out)
            clear hrr r1 r2 r3 ho hbel
            by_cases hr0 : 0 < r
            · have hr1 : (0 : Int) < (r : Int) := by omega
              have hlw : (IntKind.u64.wrap (nth xs q * 2 ^ (64 - r)) != 0) = decide (nth xs q % 2 ^ r ≠ 0) := lost_word (wx.out.nth q) hr0 (by omega)
              obtain ⟨b2, hb2⟩ : ∃ b, decide (nth xs q % 2 ^ r ≠ 0) = b := ⟨_, rfl⟩
              rw [hb2] at hlw
              have hlo2 : Hid (lostB (val xs) n.toNat = (t || b2)) := by show _ = _; rw [hlo.out, ht.out, hb2]
              have hx0 := (wx.out.nth q).1; have hx1 := (wx.out.nth q).2
              clear hb2 ht
              generalize nth xs q = x at *
              cases t with
              | true =>
                go_wp2_with fail
                refine (norm_calls hNZ.out).mono ?_
                rintro e' w2 ⟨v2, rfl, hn2, hb2⟩
                rw [hval.out] at hn2
                have HN2 := Lib.hid hn2; have HB2 := Lib.hid hb2
                clear hn2 hb2
                go_wp2
                go_ret2
                exact ⟨_, by rw [hlo2.out]; rfl, HN2.out.mono HB.out.size, below_then HB.out HB2.out⟩
              | false =>
                go_wp2_with (simp only [htd, htm])
                refine (norm_calls hNZ.out).mono ?_
                rintro e' w2 ⟨v2, rfl, hn2, hb2⟩
                rw [hval.out] at hn2
                have HN2 := Lib.hid hn2; have HB2 := Lib.hid hb2
                clear hn2 hb2
                go_wp2
                go_ret2
                exact ⟨_, by rw [hlo2.out]; rfl, HN2.out.mono HB.out.size, below_then HB.out HB2.out⟩
            · have hr1 : ¬ ((0 : Int) < (r : Int)) := by omega
              have hlo2 : Hid (lostB (val xs) n.toNat = t) := by
                show _ = _
                rw [hlo.out, ht.out, show r = 0 from by omega]; simp
              go_wp2_with fail
              refine (norm_calls hNZ.out).mono ?_
              rintro e' w2 ⟨v2, rfl, hn2, hb2⟩
              rw [hval.out] at hn2
              have HN2 := Lib.hid hn2; have HB2 := Lib.hid hb2
              clear hn2 hb2
              go_wp2
              go_ret2
              exact ⟨_, by rw [hlo2.out]; rfl, HN2.out.mono HB.out.size, below_then HB.out HB2.out⟩
end Go.Proofs.YtdnbckfhfhfkoaaGreatDoor

namespace Go.Proofs.YtdnbckfhfhfkoaaGreatDoor
open Go.RowKit

/-- One word by one word, added to what is there and a carry: low and high, and two carries told by 'less'. -/
theorem mul3step {x y cc ov : Int} (hx : Word x) (hy : Word y) (hc : Word cc) (ho : Word ov) :
    ∃ h l s t c1 c2 : Int, (∀ W, Calls Tryz.prog 140 #[.int .u64 x, .int .u64 y] W fun e w' => e = .returned (.tuple #[.int .u64 l, .int .u64 h]) ∧ W = w') ∧
      IntKind.u64.wrap (ov + l) = s ∧ IntKind.u64.wrap (s + cc) = t ∧ (s < l → c1 = 1) ∧ (¬ s < l → c1 = 0) ∧ (t < cc → c2 = 1) ∧ (¬ t < cc → c2 = 0) ∧
      0 ≤ h ∧ 0 ≤ c1 ∧ 0 ≤ c2 ∧ h + c1 + c2 ≤ 18446744073709551615 ∧ Hid (Word t ∧ t + 18446744073709551616 * (h + c1 + c2) = ov + cc + x * y) := by
  have e1 := lo_hi (x * y)
  have w1 := lo64_word (x * y)
  have p0 : 0 ≤ x * y := Int.mul_nonneg hx.1 hy.1
  have p1 : x * y ≤ 18446744073709551615 * 18446744073709551615 := by
    have := hx.2; have := hy.2
    exact Int.mul_le_mul (by omega) (by omega) hy.1 (by omega)
  have h0 : 0 ≤ hi64 (x * y) := by unfold hi64; omega
  refine ⟨hi64 (x * y), lo64 (x * y), lo64 (ov + lo64 (x * y)), lo64 (lo64 (ov + lo64 (x * y)) + cc), if lo64 (ov + lo64 (x * y)) < lo64 (x * y) then 1 else 0, if lo64 (lo64 (ov + lo64 (x * y)) + cc) < cc then 1 else 0, fun W => times_calls W hx hy, wrap_lo _, wrap_lo _, ?_⟩
  have hc2 := hc.2; have hc1 := hc.1; have ho1 := ho.1; have ho2 := ho.2
  generalize x * y = P at *
  have e2 := lo_hi (ov + lo64 P)
  have w2 := lo64_word (ov + lo64 P)
  generalize lo64 P = L at *
  generalize hi64 P = H at *
  have e3 := lo_hi (lo64 (ov + L) + cc)
  have w3 := lo64_word (lo64 (ov + L) + cc)
  generalize lo64 (ov + L) = S at *
  generalize hi64 (ov + L) = SH at *
  generalize lo64 (S + cc) = T at *
  generalize hi64 (S + cc) = TH at *
  have := w1.1; have := w1.2; have := w2.1; have := w2.2; have := w3.1; have := w3.2
  have k1 : (if S < L then (1 : Int) else 0) = SH := by split <;> omega
  have k2 : (if T < cc then (1 : Int) else 0) = TH := by split <;> omega
  refine ⟨fun h => if_pos h, fun h => if_neg h, fun h => if_pos h, fun h => if_neg h, h0, ?_, ?_, ?_, w3, ?_⟩
  all_goals rw [k1] at * <;> first | rw [k2] at * | skip
  all_goals omega

set_option maxRecDepth 100000 in
set_option maxHeartbeats 3200000 in
theorem mul3_calls {B B' : Nat} {w : World} {v v' : Value} {xs ys : List Int} (h : NatAt B w v xs) (h' : NatAt B' w v' ys) (hm : (ws (val xs)).length + (ws (val ys)).length ≤ 17592186044414) :
    Calls Tryz.prog 111 #[v, v'] w (RNat w (ws (val xs * val ys))) := by
  have hvx := val_nonneg h.words
  have hvy := val_nonneg h'.words
  have HY0 := Lib.hid h'
  clear h'
  go_enter Tryz.func111, Tryz.ntmps111
  go_wp2_with fail
  refine (norm_calls h).mono ?_
  rintro e w1 ⟨v1, rfl, hn0, hb1⟩
  have HB1 := Lib.hid hb1; have HN0 := Lib.hid hn0
  clear hb1 hn0 h
  go_wp2_with fail
  refine (norm_calls (HY0.out.below HB1.out)).mono ?_
  rintro e wm ⟨v2, rfl, hn', hb2⟩
  have HB : Hid (Below w.heap.size w wm) := below_then HB1.out hb2
  have hn := HN0.out.below hb2
  clear HB1 HN0 HY0 hb2
  obtain ⟨A1, L1, c1, g1, o1, rfl, a1, k1, q1, l1, hg1, hc1, e1, wx⟩ := hn.sub
  obtain ⟨A2, L2, c2, g2, o2, rfl, a2, k2, q2, l2, hg2, hc2, e2, wy⟩ := hn'.sub
  have vx : Hid (val (ws (val xs)) = val xs) := val_ws hvx
  have vy : Hid (val (ws (val ys)) = val ys) := val_ws hvy
  have hm' : L1 + L2 ≤ 17592186044414 := by have := e1.out; have := e2.out; omega
  clear hn hn' hvx hvy hm
  generalize val xs = nx at *
  generalize val ys = ny at *
  generalize ws nx = X at *
  generalize ws ny = Y at *
  have hmk := make_run 23 Tryz.underlying23 (L1 + L2 + 1) (by omega)
  rw [show ((L1 + L2 + 1 : Nat) : Int) = (L1 : Int) + (L2 : Int) + 1 from by omega] at hmk
  go_wp2
  go_loopw [28] (fun i wr => ∃ (k : Nat) (outs : List Int), k ≤ L1 ∧ i = .int .i64 k ∧ wm.heap.size < wr.heap.size ∧ RowAt wr wm.heap.size outs ∧ Below wm.heap.size wm wr ∧ Hid (outs.length = L1 + L2 + 1 ∧ Words outs ∧ val outs = val (X.take k) * val Y ∧ ∀ j, k + L2 ≤ j → nth outs j = 0)) (fun i _ => L1 - (intOf i).toNat)
  case atStart =>
    refine ⟨0, List.replicate (L1 + L2 + 1) 0, by omega, rfl, by simp, RowAt.made _ _, below_also _ _, by simp, Words.zeros _, ?_, fun j _ => nth_zeros _ _⟩
    rw [val_zeros]; simp [val]
  case round =>
    obtain ⟨k, outs, hk, rfl, hG, hrow, hbel, hr⟩ := hrel
    obtain ⟨wo, rfl⟩ : ∃ wo : World, wo = wr := ⟨_, rfl⟩
    by_cases hlt : k < L1
    · obtain rfl := a1 (by omega)
      have hg1' := hg1 (by omega)
      have hxk : wo.cell? ⟨g1, o1 + k, none⟩ = some (.int .u64 (nth X k)) := ((bcell hbel).1 _ _ hg1').trans (hc1 k hlt)
      go_wp2
      go_loopw [8, 35] (fun c j wr => ∃ (t : Nat) (cc : Int) (os : List Int), t ≤ L2 ∧ j = .int .i64 t ∧ c = .int .u64 cc ∧ wm.heap.size < wr.heap.size ∧ RowAt wr wm.heap.size os ∧ Below wm.heap.size wm wr ∧ Hid (Word cc ∧ os.length = L1 + L2 + 1 ∧ Words os ∧ val os + wpow (k + t) * cc = val outs + wpow k * (nth X k * val (Y.take t)) ∧ ∀ j, k + t ≤ j → nth os j = nth outs j)) (fun _ j _ => L2 - (intOf j).toNat)
      case atStart =>
        obtain ⟨r1, r2, r3, r4⟩ := hr.out
        refine ⟨0, 0, outs, by omega, rfl, rfl, hG, hrow, hbel, ⟨by omega, by omega⟩, r1, r2, ?_, fun _ _ => rfl⟩
        simp [val]
      case round =>
        obtain ⟨t, cc, os, ht, rfl, rfl, hG', hrow', hbel', hr'⟩ := hrel
        by_cases hlt2 : t < L2
        · obtain rfl := a2 (by omega)
          have hg2' := hg2 (by omega)
          have hyk : wr.cell? ⟨g2, o2 + t, none⟩ = some (.int .u64 (nth Y t)) := ((bcell hbel').1 _ _ hg2').trans (hc2 t hlt2)
          have hlen : k + t < os.length := by rw [hr'.out.2.1]; omega
          have hout : wr.cell? ⟨wm.heap.size, k + t, none⟩ = some (.int .u64 (nth os (k + t))) := hrow'.cell hlen
          have hfr : wr.frozen? ⟨wm.heap.size, k + t, none⟩ = false := hrow'.frozen _
          obtain ⟨hh, l, s, on, d1, d2, hmul, hs, hon, f1, f2, f3, f4, p1, p2, p3, p5, hfin⟩ := mul3step (wx.out.nth k) (wy.out.nth t) hr'.out.1 (hr'.out.2.2.1.nth (k + t))
          have hnew : Hid (RowAt (wr.setCell ⟨wm.heap.size, k + t, none⟩ (.int .u64 on)) wm.heap.size (os.set (k + t) on)) := hrow'.set _ _
          have hbel2 : Hid (Below wm.heap.size wm wr) := hbel'
          have hrel' : Hid (Word (hh + d1 + d2) ∧ (os.set (k + t) on).length = L1 + L2 + 1 ∧ Words (os.set (k + t) on) ∧ val (os.set (k + t) on) + wpow (k + (t + 1)) * (hh + d1 + d2) = val outs + wpow k * (nth X k * val (Y.take (t + 1))) ∧ ∀ j, k + (t + 1) ≤ j → nth (os.set (k + t) on) j = nth outs j) := by
            obtain ⟨q1, q2, q3, q4, q5⟩ := hr'.out
            obtain ⟨f1, f2⟩ := hfin.out
            refine ⟨⟨by omega, by omega⟩, by simp [q2], q3.set _ f1, mul_inner (by omega) (by rw [e2.out]; omega) q4 f2, fun j hj => ?_⟩
            rw [nth_set_ne _ (by omega), q5 j (by omega)]
          clear hfin hr' hrow' hbel' hlen hr hrow hbel hxk
          have HM := Lib.hid hmul; clear hmul
          generalize nth os (k + t) = ov at *
          by_cases hA : s < l
          · obtain rfl := f1 hA
            by_cases hB : on < cc
            · obtain rfl := f3 hB
              clear f1 f2 f3 f4
              go_wp2_with fail
              refine (HM.out _).mono ?_
              rintro e w' ⟨rfl, rfl⟩
              go_wp2
              go_roundw
              case rel => exact ⟨t + 1, _, _, by omega, by go_num, rfl, by simpa using hG', hnew.out, hbel2.out.setCell (Nat.le_refl _) _, hrel'⟩
              case measure => simp [intOf]; omega
            · obtain rfl := f4 hB
              clear f1 f2 f3 f4
              simp only [Int.add_zero] at hrel' p5
              go_wp2_with fail
              refine (HM.out _).mono ?_
              rintro e w' ⟨rfl, rfl⟩
              go_wp2
              go_roundw
              case rel => exact ⟨t + 1, _, _, by omega, by go_num, rfl, by simpa using hG', hnew.out, hbel2.out.setCell (Nat.le_refl _) _, hrel'⟩
              case measure => simp [intOf]; omega
          · obtain rfl := f2 hA
            by_cases hB : on < cc
            · obtain rfl := f3 hB
              clear f1 f2 f3 f4
              simp only [Int.add_zero] at hrel' p5
              go_wp2_with fail
              refine (HM.out _).mono ?_
              rintro e w' ⟨rfl, rfl⟩
              go_wp2
              go_roundw
              case rel => exact ⟨t + 1, _, _, by omega, by go_num, rfl, by simpa using hG', hnew.out, hbel2.out.setCell (Nat.le_refl _) _, hrel'⟩
              case measure => simp [intOf]; omega
            · obtain rfl := f4 hB
              clear f1 f2 f3 f4
              simp only [Int.add_zero] at hrel' p5
              go_wp2_with fail
              refine (HM.out _).mono ?_
              rintro e w' ⟨rfl, rfl⟩
              go_wp2
              go_roundw
              case rel => exact ⟨t + 1, _, _, by omega, by go_num, rfl, by simpa using hG', hnew.out, hbel2.out.setCell (Nat.le_refl _) _, hrel'⟩
              case measure => simp [intOf]; omega
        · obtain rfl : L2 = t := by omega
          have hlen : k + L2 < os.length := by rw [hr'.out.2.1]; omega
          have hout : wr.cell? ⟨wm.heap.size, k + L2, none⟩ = some (.int .u64 (nth os (k + L2))) := hrow'.cell hlen
          have hfr : wr.frozen? ⟨wm.heap.size, k + L2, none⟩ = false := hrow'.frozen _
          have hnew : Hid (RowAt (wr.setCell ⟨wm.heap.size, k + L2, none⟩ (.int .u64 cc)) wm.heap.size (os.set (k + L2) cc)) := hrow'.set _ _
          have hbel2 : Hid (Below wm.heap.size wm wr) := hbel'
          have hrel' : Hid ((os.set (k + L2) cc).length = L1 + L2 + 1 ∧ Words (os.set (k + L2) cc) ∧ val (os.set (k + L2) cc) = val (X.take (k + 1)) * val Y ∧ ∀ j, k + 1 + L2 ≤ j → nth (os.set (k + L2) cc) j = 0) := by
            obtain ⟨q1, q2, q3, q4, q5⟩ := hr'.out
            obtain ⟨r1, r2, r3, r4⟩ := hr.out
            refine ⟨by simp [q2], q3.set _ q1, ?_, fun j hj => ?_⟩
            · rw [val_set _ _ _ hlen, q5 _ (Nat.le_refl _), r4 _ (Nat.le_refl _), val_take_more]
              rw [val_take_all _ _ (by rw [e2.out]; omega), r3] at q4
              grind
            · rw [nth_set_ne _ (by omega), q5 j (by omega), r4 j (by omega)]
          clear hr' hrow' hbel' hlen hr hrow hbel hxk
          go_wp2
          go_roundw
          case rel => exact ⟨k + 1, _, by omega, by go_num, by simpa using hG', hnew.out, hbel2.out.setCell (Nat.le_refl _) _, hrel'⟩
          case measure => simp [intOf]; omega
    · obtain rfl : L1 = k := by omega
      obtain ⟨r1, r2, r3, r4⟩ := hr.out
      have hn : Hid (NatAt wm.heap.size wo (.slice (some ⟨wm.heap.size, 0, none⟩) (L1 + L2 + 1) (L1 + L2 + 1)) outs) := hrow.nat (Nat.le_refl _) r2 _ r1 (by rw [r1]; omega)
      have hval : Hid (val outs = nx * ny) := by
        show _ = _
        rw [r3, val_take_all _ _ (by rw [e1.out]; omega), vx.out, vy.out]
      have hbel2 : Hid (Below wm.heap.size wm wo) := hbel
      clear hr r1 r2 r3 r4 hrow hbel
      go_wp2_with fail
      refine (norm_calls hn.out).mono ?_
      rintro e w' ⟨v', rfl, hn', hb'⟩
      rw [hval.out] at hn'
      have HN' := Lib.hid hn'; have HB' := Lib.hid hb'
      clear hn' hb'
      go_wp2
      go_ret
      exact ⟨_, rfl, HN'.out.mono (Nat.le_trans HB.out.size hbel2.out.size), below_then (below_then HB.out hbel2.out) HB'.out⟩
end Go.Proofs.YtdnbckfhfhfkoaaGreatDoor

namespace Go.Proofs.YtdnbckfhfhfkoaaGreatDoor
open Go.RowKit

/-- A dyadic number as it stands: a sign, words, an exponent. -/
structure Dx where
  neg : Bool
  xs : List Int
  e : Int
/-- The amount over the exponent. -/
def Dx.m (d : Dx) : Int := val d.xs
/-- The one form. -/
def mkD (neg : Bool) (m e : Int) : Dx := if m = 0 then ⟨false, [], 0⟩ else ⟨neg, ws (m / 2 ^ tz m), e + tz m⟩
theorem tz_small {xs : List Int} (hw : Words xs) (hl : xs.length ≤ 17592186044415) : tz (val xs) ≤ 1125899906842560 := by
  have h0 := val_nonneg hw
  by_cases hp : 0 < val xs
  · have := tz_lt_blen hp
    have := blen_small hw hl
    omega
  · rw [show val xs = 0 from by omega, tz_zero]; omega
/-- Is it 0? -/
def Dx.zeroB (d : Dx) : Bool := decide (d.m = 0)
/-- -1, 0, 1. -/
def Dx.sgn (d : Dx) : Int := if d.m = 0 then 0 else if d.neg then -1 else 1
/-- Are words and exponent few enough? -/
def Dx.fitsB (d : Dx) : Bool := !greatB d.m && decide (-32768 ≤ d.e) && decide (d.e ≤ 32768)
/-- A number of no great size. -/
def Dx.Sm (N : Nat) (d : Dx) : Prop := blen d.m ≤ N ∧ -(N : Int) ≤ d.e ∧ d.e ≤ N
theorem ws_len_blen {n : Int} (h : 0 ≤ n) : 64 * (ws n).length ≤ blen n + 63 := by
  by_cases h0 : 0 < n
  · have := blen_last h0
    have h1 := ws_last_ne h0
    have h2 := (words_ws n).nth ((ws n).length - 1)
    have := blen_pos (n := nth (ws n) ((ws n).length - 1)) (by have := h2.1; omega)
    have := ws_len_pos h0
    omega
  · rw [ws_nonpos (by omega)]; simp
/-- The product. -/
def timesD (a b : Dx) : Dx := mkD (!(a.neg == b.neg)) (a.m * b.m) (a.e + b.e)
/-- The one form of a number. -/
def oneD (d : Dx) : Dx := mkD d.neg d.m d.e
/-- The number with the other sign. -/
def negD (d : Dx) : Dx := mkD (!d.neg) d.m d.e
/-- The amount with its sign. -/
def Dx.sm (d : Dx) : Int := if d.neg then -d.m else d.m
/-- A whole number times a power of 2. -/
def mkS (s e : Int) : Dx := mkD (decide (s < 0)) (s.natAbs : Int) e
/-- The sum of two numbers in their one form. -/
def plusX (x y : Dx) : Dx :=
  if x.m = 0 then y else if y.m = 0 then x else mkS (x.sm * 2 ^ (x.e - min x.e y.e).toNat + y.sm * 2 ^ (y.e - min x.e y.e).toNat) (min x.e y.e)
def plusD (a b : Dx) : Dx := plusX (oneD a) (oneD b)
theorem mkD_zero (neg : Bool) (e : Int) : mkD neg 0 e = ⟨false, [], 0⟩ := by unfold mkD; rw [if_pos rfl]
theorem mkD_m {neg : Bool} {m e : Int} (h : 0 ≤ m) : (mkD neg m e).m = m / 2 ^ tz m := by
  unfold mkD Dx.m
  split
  · rename_i h0; rw [h0]; simp [val]
  · exact val_ws (Int.ediv_nonneg h (by have := two_pow_pos (tz m); omega))
theorem tz_div {m : Int} (h : 0 < m) : m = 2 ^ tz m * (m / 2 ^ tz m) ∧ 0 < m / 2 ^ tz m := by
  obtain ⟨k, hk, e⟩ := tz_spec h
  have p := two_pow_pos (tz m)
  have e2 : m / 2 ^ tz m = 2 * k + 1 := by
    conv => lhs; lhs; rw [e]
    exact Int.mul_ediv_cancel_left _ (by omega)
  rw [e2]; exact ⟨e, by omega⟩
theorem mkD_m_zero {neg : Bool} {m e : Int} (h : 0 ≤ m) : (mkD neg m e).m = 0 ↔ m = 0 := by
  rw [mkD_m h]
  constructor
  · intro h0
    by_cases hp : 0 < m
    · have := (tz_div hp).2; omega
    · omega
  · rintro rfl; simp
theorem mkD_words (neg : Bool) (m e : Int) : Words (mkD neg m e).xs := by
  unfold mkD; split
  · exact Words.nil
  · exact words_ws _
theorem mkD_ws {neg : Bool} {m e : Int} (h : 0 ≤ m) : (mkD neg m e).xs = ws (mkD neg m e).m := by
  rw [mkD_m h]; unfold mkD; split
  · rename_i h0; rw [h0]; simp [ws_zero]
  · rfl
theorem mkD_sm {neg : Bool} {m e : Int} {N M : Nat} (h : 0 ≤ m) (hb : blen m ≤ N) (e0 : -(M : Int) ≤ e) (e1 : e ≤ M) : (mkD neg m e).Sm (N + M) := by
  by_cases hp : 0 < m
  · have t := tz_lt_blen hp
    refine ⟨?_, ?_, ?_⟩
    · rw [mkD_m h]
      have := blen_mono (m := m / 2 ^ tz m) (n := m) (Int.ediv_le_self _ h)
      omega
    · unfold mkD; rw [if_neg (by omega)]; show _ ≤ e + (tz m : Int); omega
    · unfold mkD; rw [if_neg (by omega)]; show e + (tz m : Int) ≤ _; omega
  · obtain rfl : m = 0 := by omega
    rw [mkD_zero]; exact ⟨by simp [Dx.m, val, blen], by show _ ≤ (0 : Int); omega, by show (0 : Int) ≤ _; omega⟩
theorem Dx.Sm.mono {N M : Nat} {d : Dx} (h : d.Sm N) (hm : N ≤ M) : d.Sm M := ⟨by have := h.1; omega, by have := h.2.1; omega, by have := h.2.2; omega⟩
theorem plus_same {n : Bool} {X Y e : Int} (_ : 0 ≤ X) (_ : 0 ≤ Y) (hp : 0 < X + Y) : mkD n (X + Y) e = mkS ((if n then -X else X) + (if n then -Y else Y)) e := by
  unfold mkS
  cases n with
  | true =>
    rw [show (decide ((if true = true then -X else X) + (if true = true then -Y else Y) < 0)) = true by simp; omega]
    congr 1
    simp; omega
  | false =>
    rw [show (decide ((if false = true then -X else X) + (if false = true then -Y else Y) < 0)) = false by simp; omega]
    congr 1
    simp; omega
theorem plus_diff {n : Bool} {X Y e : Int} (h : Y ≤ X) : mkD n (X - Y) e = mkS ((if n then -X else X) + (if !n then -Y else Y)) e := by
  unfold mkS
  by_cases hz : X = Y
  · subst hz
    rw [Int.sub_self, mkD_zero]
    cases n <;> simp [mkD_zero, Int.add_right_neg, Int.add_left_neg]
  · cases n with
    | true =>
      rw [show (decide ((if true = true then -X else X) + (if (!true) = true then -Y else Y) < 0)) = true by simp; omega]
      congr 1
      simp; omega
    | false =>
      rw [show (decide ((if false = true then -X else X) + (if (!false) = true then -Y else Y) < 0)) = false by simp; omega]
      congr 1
      simp; omega
theorem sm_mul (n : Bool) (m p : Int) : (if n then -m else m) * p = if n then -(m * p) else m * p := by
  cases n <;> simp [Int.neg_mul]

theorem scaled_len {m : Int} {k : Nat} (h : 0 < m) (hb : blen m ≤ 137438953472) (hk : k ≤ 274877906944) : 0 < m * 2 ^ k ∧ (ws (m * 2 ^ k)).length ≤ 17592186044414 := by
  have p := two_pow_pos k
  have h1 := Int.mul_pos h p
  refine ⟨h1, ?_⟩
  have := ws_len_blen (n := m * 2 ^ k) (by omega)
  rw [blen_mul_pow h] at this
  omega
theorem plus_parts {x y : Dx} (hx : 0 ≤ x.m) (hy : 0 ≤ y.m) (hx0 : x.m ≠ 0) (hy0 : y.m ≠ 0) (sx : x.Sm 137438953472) (sy : y.Sm 137438953472) :
    ∃ X Y mn : Int, x.m * 2 ^ (x.e - min x.e y.e).toNat = X ∧ y.m * 2 ^ (y.e - min x.e y.e).toNat = Y ∧ min x.e y.e = mn ∧ 0 < X ∧ 0 < Y ∧ (ws X).length ≤ 17592186044414 ∧ (ws Y).length ≤ 17592186044414 ∧
      -4611686018427387904 ≤ mn ∧ mn ≤ 4611686018427387904 ∧ (x.neg = y.neg → plusX x y = mkD x.neg (X + Y) mn) ∧ (x.neg ≠ y.neg → Y ≤ X → plusX x y = mkD x.neg (X - Y) mn) ∧ (x.neg ≠ y.neg → X ≤ Y → plusX x y = mkD y.neg (Y - X) mn) := by
  obtain ⟨s1, s2, s3⟩ := sx
  obtain ⟨s4, s5, s6⟩ := sy
  have l1 := scaled_len (m := x.m) (k := (x.e - min x.e y.e).toNat) (by omega) s1 (by omega)
  have l2 := scaled_len (m := y.m) (k := (y.e - min x.e y.e).toNat) (by omega) s4 (by omega)
  have e0 : plusX x y = mkS ((if x.neg then -(x.m * 2 ^ (x.e - min x.e y.e).toNat) else x.m * 2 ^ (x.e - min x.e y.e).toNat) + (if y.neg then -(y.m * 2 ^ (y.e - min x.e y.e).toNat) else y.m * 2 ^ (y.e - min x.e y.e).toNat)) (min x.e y.e) := by
    unfold plusX; rw [if_neg hx0, if_neg hy0]; unfold Dx.sm; rw [sm_mul, sm_mul]
  refine ⟨_, _, _, rfl, rfl, rfl, l1.1, l2.1, l1.2, l2.2, by omega, by omega, ?_, ?_, ?_⟩
  · intro h
    rw [e0, ← h]; exact (plus_same (by omega) (by omega) (by omega)).symm
  · intro h hle
    have : y.neg = !x.neg := by cases hxn : x.neg <;> cases hyn : y.neg <;> simp_all
    rw [e0, this]; exact (plus_diff hle).symm
  · intro h hle
    have : x.neg = !y.neg := by cases hxn : x.neg <;> cases hyn : y.neg <;> simp_all
    rw [e0, this, Int.add_comm]; exact (plus_diff hle).symm
/-- The difference. -/
def lessD (a b : Dx) : Dx := plusD a (negD b)
theorem negD_sm {d : Dx} {N : Nat} (h : d.Sm N) (hm : 0 ≤ d.m) : (negD d).Sm (N + N) := mkD_sm hm h.1 h.2.1 h.2.2
/-- An amount, doubled, with a last bit that tells whether anything was left. -/
def stickyM (a : Int) (more : Bool) : Int := a * 2 + if more then 1 else 0
/-- The next number of at most p bits, down or up, of one in its one form. -/
def cutX (x : Dx) (p : Int) (up : Bool) : Dx :=
  if (blen x.m : Int) - p ≤ 0 then x else mkD x.neg (x.m / 2 ^ ((blen x.m : Int) - p).toNat + if up == x.neg then 0 else 1) (x.e + ((blen x.m : Int) - p))
def cutD (d : Dx) (p : Int) (up : Bool) : Dx := cutX (oneD d) p up

/-- The amount with its sign, over the exponent mn. -/
def Dx.scl (d : Dx) (mn : Int) : Int := d.sm * 2 ^ (d.e - mn).toNat
/-- -1, 0, 1: two numbers held against each other. -/
def cmpD (a b : Dx) : Int := cmpI (a.scl (min a.e b.e)) (b.scl (min a.e b.e))
theorem scl_sgn {d : Dx} (h : 0 ≤ d.m) (mn : Int) : (d.sgn = 0 ∧ d.scl mn = 0) ∨ (d.sgn = 1 ∧ d.neg = false ∧ 0 < d.m ∧ d.scl mn = d.m * 2 ^ (d.e - mn).toNat ∧ 0 < d.m * 2 ^ (d.e - mn).toNat) ∨ (d.sgn = -1 ∧ d.neg = true ∧ 0 < d.m ∧ d.scl mn = -(d.m * 2 ^ (d.e - mn).toNat) ∧ 0 < d.m * 2 ^ (d.e - mn).toNat) := by
  by_cases h0 : d.m = 0
  · left; unfold Dx.sgn Dx.scl Dx.sm; rw [if_pos h0, h0]; simp
  · have hp : 0 < d.m := by omega
    have hq := Int.mul_pos hp (two_pow_pos (d.e - mn).toNat)
    cases hn : d.neg with
    | false => right; left; unfold Dx.sgn Dx.scl Dx.sm; rw [if_neg h0, hn]; simp [hp, hq]
    | true => right; right; unfold Dx.sgn Dx.scl Dx.sm; rw [if_neg h0, hn]; simp [hp, hq, Int.neg_mul]
theorem sgn_cases {d : Dx} : d.sgn = 0 ∨ d.sgn = 1 ∨ d.sgn = -1 := by
  unfold Dx.sgn; split
  · left; rfl
  · split
    · right; right; rfl
    · right; left; rfl
theorem cmpD_lt {a b : Dx} (ha : 0 ≤ a.m) (hb : 0 ≤ b.m) (h : a.sgn < b.sgn) : cmpD a b = -1 := by
  refine cmpI_of_lt ?_
  rcases scl_sgn ha (min a.e b.e) with ⟨h1, h2⟩ | ⟨h1, _, _, h2, h3⟩ | ⟨h1, _, _, h2, h3⟩ <;> rcases scl_sgn hb (min a.e b.e) with ⟨k1, k2⟩ | ⟨k1, _, _, k2, k3⟩ | ⟨k1, _, _, k2, k3⟩ <;> omega
theorem cmpD_gt {a b : Dx} (ha : 0 ≤ a.m) (hb : 0 ≤ b.m) (h : b.sgn < a.sgn) : cmpD a b = 1 := by
  refine cmpI_of_gt ?_
  rcases scl_sgn ha (min a.e b.e) with ⟨h1, h2⟩ | ⟨h1, _, _, h2, h3⟩ | ⟨h1, _, _, h2, h3⟩ <;> rcases scl_sgn hb (min a.e b.e) with ⟨k1, k2⟩ | ⟨k1, _, _, k2, k3⟩ | ⟨k1, _, _, k2, k3⟩ <;> omega
theorem cmpD_zero {a b : Dx} (ha : 0 ≤ a.m) (hb : 0 ≤ b.m) (h : a.sgn = 0) (h' : b.sgn = 0) : cmpD a b = 0 := by
  have e : a.scl (min a.e b.e) = b.scl (min a.e b.e) := by
    rcases scl_sgn ha (min a.e b.e) with ⟨h1, h2⟩ | ⟨h1, _, _, h2, h3⟩ | ⟨h1, _, _, h2, h3⟩ <;> rcases scl_sgn hb (min a.e b.e) with ⟨k1, k2⟩ | ⟨k1, _, _, k2, k3⟩ | ⟨k1, _, _, k2, k3⟩ <;> omega
  unfold cmpD; rw [e, cmpI_self]
/-- Both signs alike, no 0: the amounts decide. -/
theorem cmpD_same {a b : Dx} (ha : 0 ≤ a.m) (hb : 0 ≤ b.m) (h : a.sgn = b.sgn) (h0 : a.sgn ≠ 0) :
    0 < a.m ∧ 0 < b.m ∧ cmpD a b = a.sgn * cmpI (a.m * 2 ^ (a.e - min a.e b.e).toNat) (b.m * 2 ^ (b.e - min a.e b.e).toNat) := by
  unfold cmpD
  rcases scl_sgn ha (min a.e b.e) with ⟨h1, h2⟩ | ⟨h1, _, p1, h2, h3⟩ | ⟨h1, _, p1, h2, h3⟩ <;> rcases scl_sgn hb (min a.e b.e) with ⟨k1, k2⟩ | ⟨k1, _, p2, k2, k3⟩ | ⟨k1, _, p2, k2, k3⟩ <;> try omega
  · refine ⟨p1, p2, ?_⟩; rw [h1, h2, k2]; omega
  · refine ⟨p1, p2, ?_⟩; rw [h1, h2, k2]
    generalize a.m * 2 ^ (a.e - min a.e b.e).toNat = A
    generalize b.m * 2 ^ (b.e - min a.e b.e).toNat = B
    unfold cmpI
    split <;> split <;> (try split) <;> (try split) <;> omega
theorem cmpI_blen {A B : Int} (_ : 0 < A) (hb : 0 < B) (h : blen A < blen B) : A < B := by
  have h1 := blen_lt A
  have h2 := blen_ge hb
  have := two_pow_le (j := blen A) (k := blen B - 1) (by omega)
  omega
theorem cmpD_top {a b : Dx} (ha : 0 ≤ a.m) (hb : 0 ≤ b.m) (h : a.sgn = b.sgn) (h0 : a.sgn ≠ 0) :
    (a.e + blen a.m - 1 < b.e + blen b.m - 1 → cmpD a b = -a.sgn) ∧ (b.e + blen b.m - 1 < a.e + blen a.m - 1 → cmpD a b = a.sgn) := by
  obtain ⟨p1, p2, e⟩ := cmpD_same ha hb h h0
  have q1 := Int.mul_pos p1 (two_pow_pos (a.e - min a.e b.e).toNat)
  have q2 := Int.mul_pos p2 (two_pow_pos (b.e - min a.e b.e).toNat)
  have l1 := blen_mul_pow p1 (a.e - min a.e b.e).toNat
  have l2 := blen_mul_pow p2 (b.e - min a.e b.e).toNat
  rw [e]
  refine ⟨fun hlt => ?_, fun hlt => ?_⟩
  · rw [cmpI_of_lt (cmpI_blen q1 q2 (by omega))]; omega
  · rw [cmpI_of_gt (cmpI_blen q2 q1 (by omega))]; omega
theorem cmpI_mul {A B p : Int} (hp : 0 < p) : cmpI (A * p) (B * p) = cmpI A B := by
  rcases Int.lt_trichotomy A B with h | h | h
  · rw [cmpI_of_lt h, cmpI_of_lt (Int.mul_lt_mul_of_pos_right h hp)]
  · rw [h, cmpI_self, cmpI_self]
  · rw [cmpI_of_gt h, cmpI_of_gt (Int.mul_lt_mul_of_pos_right h hp)]
theorem one_scale {a : Dx} (h : 0 < a.m) {mn mn' : Int} (h1 : mn ≤ mn') (h2 : mn' ≤ (oneD a).e) : a.e ≤ (oneD a).e ∧ (mn ≤ a.e → a.m * 2 ^ (a.e - mn).toNat = (oneD a).m * 2 ^ ((oneD a).e - mn').toNat * 2 ^ (mn' - mn).toNat) := by
  have e1 : (oneD a).e = a.e + tz a.m := by unfold oneD mkD; rw [if_neg (by omega)]
  have e2 : (oneD a).m = a.m / 2 ^ tz a.m := mkD_m (by omega)
  obtain ⟨e3, p3⟩ := tz_div h
  refine ⟨by omega, fun h3 => ?_⟩
  rw [e2]
  rw [e1] at h2 ⊢
  generalize a.m / 2 ^ tz a.m = k at *
  conv => lhs; lhs; rw [e3]
  rw [Int.mul_comm (2 ^ tz a.m) k, Int.mul_assoc, Int.mul_assoc, ← Int.pow_add, ← Int.pow_add]
  congr 2; omega
theorem one_m_zero {a : Dx} (ha : 0 ≤ a.m) : (oneD a).m = 0 ↔ a.m = 0 := mkD_m_zero ha
theorem cmpD_one {a b : Dx} (ha : 0 ≤ a.m) (hb : 0 ≤ b.m) (h : a.sgn = b.sgn) (h0 : a.sgn ≠ 0) :
    cmpD a b = a.sgn * cmpI ((oneD a).m * 2 ^ ((oneD a).e - min (oneD a).e (oneD b).e).toNat) ((oneD b).m * 2 ^ ((oneD b).e - min (oneD a).e (oneD b).e).toNat) := by
  obtain ⟨p1, p2, e⟩ := cmpD_same ha hb h h0
  have g1 := (one_scale p1 (mn := min a.e b.e) (mn' := (oneD a).e) (by have : a.e ≤ (oneD a).e := by { unfold oneD mkD; rw [if_neg (by omega)]; show _ ≤ a.e + (tz a.m : Int); omega }
                                                                       omega) (by omega)).1
  have g2 := (one_scale p2 (mn := min a.e b.e) (mn' := (oneD b).e) (by have : b.e ≤ (oneD b).e := by { unfold oneD mkD; rw [if_neg (by omega)]; show _ ≤ b.e + (tz b.m : Int); omega }
                                                                       omega) (by omega)).1
  rw [e, (one_scale p1 (mn := min a.e b.e) (mn' := min (oneD a).e (oneD b).e) (by omega) (by omega)).2 (by omega), (one_scale p2 (mn := min a.e b.e) (mn' := min (oneD a).e (oneD b).e) (by omega) (by omega)).2 (by omega), cmpI_mul (two_pow_pos _)]
end Go.Proofs.YtdnbckfhfhfkoaaGreatDoor

namespace Go.Proofs.YtdnbckfhfhfkoaaGreatDoor
open Go.RowKit

/-- An interval as it stands. -/
structure Vx where
  lo : Dx
  hi : Dx
/-- A number in so many bits, with its error, as it stands. -/
structure Fw where
  xs : List Int
  e : Int
/-- Kinds of arguments. -/
inductive Ak where
  | fx
  | b
  | i (k : IntKind)
  | w
  | d
  | v
abbrev Ak.T : Ak → Type
  | .fx => Fw
  | .b => Bool
  | .i _ => Int
  | .w => List Int
  | .d => Dx
  | .v => Vx
/-- Words as they can lie in memory. -/
def WfW (xs : List Int) : Prop := Words xs ∧ xs.length ≤ 17592186044415
def Dx.Wf (d : Dx) : Prop := WfW d.xs
def Vx.Wf (v : Vx) : Prop := v.lo.Wf ∧ v.hi.Wf
def Ak.wf : (k : Ak) → k.T → Prop
  | .fx, x => WfW x.xs
  | .b, _ => True
  | .i _, _ => True
  | .w, xs => WfW xs
  | .d, x => Dx.Wf x
  | .v, x => Vx.Wf x
def dyL (nw : Bool) (d : Dx) : List At := [.bool d.neg, .words nw d.xs, .int .i64 d.e]
def ivL (nw : Bool) (v : Vx) : List At := [.bool v.lo.neg, .words nw v.lo.xs, .int .i64 v.lo.e, .bool v.hi.neg, .words nw v.hi.xs, .int .i64 v.hi.e]
def fwL (nw : Bool) (x : Fw) : List At := [.words nw x.xs, .int .u64 x.e]
def Ak.enc : (k : Ak) → k.T → Sv
  | .fx, x => .agg (fwL false x)
  | .b, x => .one (.bool x)
  | .i q, n => .one (.int q n)
  | .w, xs => .one (.words false xs)
  | .d, x => .agg (dyL false x)
  | .v, x => .agg (ivL false x)
def decB : Sv → Option Bool
  | .one (.bool x) => some x
  | _ => none
def decI (q : IntKind) : Sv → Option Int
  | .one (.int q' n) => match ikBeq q q' with | true => some n | false => none
  | _ => none
def decW : Sv → Option (List Int)
  | .one (.words _ xs) => some xs
  | _ => none
def decD : Sv → Option Dx
  | .agg [.bool n, .words _ xs, .int .i64 e] => some ⟨n, xs, e⟩
  | _ => none
def decV : Sv → Option Vx
  | .agg [.bool n, .words _ xs, .int .i64 e, .bool n', .words _ xs', .int .i64 e'] => some ⟨⟨n, xs, e⟩, ⟨n', xs', e'⟩⟩
  | _ => none
def decX : Sv → Option Fw
  | .agg [.words _ xs, .int .u64 e] => some ⟨xs, e⟩
  | _ => none
def Ak.dec : (k : Ak) → Sv → Option k.T
  | .fx => decX
  | .b => decB
  | .i q => decI q
  | .w => decW
  | .d => decD
  | .v => decV
/-- A function of arguments of such kinds. -/
def AFun : List Ak → Type
  | [] => Option Prop × Tv
  | k :: ks => k.T → AFun ks
def noSpec : Option Prop × Tv := (some False, .tup [])
def specK : (ks : List Ak) → AFun ks → Spec
  | [], g, [] => g
  | [], _, _ :: _ => noSpec
  | _ :: _, _, [] => noSpec
  | k :: ks, g, s :: l => match k.dec s with
    | some x => specK ks (g x) l
    | none => noSpec
theorem rep_wf {C : Base} {w : World} {v : Value} {nw : Bool} {xs : List Int} (h : Rep C noBox w v (.words nw xs)) : WfW xs ∧ Rep C noBox w v (.words false xs) := by
  cases h with
  | words h =>
    refine ⟨?_, .words (h.mono fun g _ hD => ⟨hD.1, by simp⟩)⟩
    obtain ⟨A, c, _, _, h2, h3, _⟩ := h
    exact ⟨h3, h2.2⟩
theorem dec_ok {C : Base} {w : World} {v : Value} {s : Sv} {k : Ak} {x : k.T} (hd : k.dec s = some x) (hr : RepS C noBox w v s) : k.wf x ∧ RepS C noBox w v (k.enc x) := by
  cases k with
  | fx =>
    have hd : decX s = some x := hd
    unfold decX at hd
    split at hd
    · cases hd
      obtain ⟨vs, rfl, hl⟩ := hr
      match vs, hl with
      | [a, b], ⟨h1, h2, _⟩ =>
        obtain ⟨h4, h5⟩ := rep_wf h1
        exact ⟨h4, _, rfl, h5, h2, trivial⟩
    · simp at hd
  | b =>
    have hd : decB s = some x := hd
    unfold decB at hd
    split at hd
    · cases hd; exact ⟨trivial, hr⟩
    · simp at hd
  | i q =>
    have hd : decI q s = some x := hd
    unfold decI at hd
    split at hd
    · split at hd
      · rename_i hq; cases hd; rw [← ikBeq_ok hq] at hr; exact ⟨trivial, hr⟩
      · simp at hd
    · simp at hd
  | w =>
    have hd : decW s = some x := hd
    unfold decW at hd
    split at hd
    · cases hd; exact rep_wf hr
    · simp at hd
  | d =>
    have hd : decD s = some x := hd
    unfold decD at hd
    split at hd
    · cases hd
      obtain ⟨vs, rfl, hl⟩ := hr
      match vs, hl with
      | [a, b, c], ⟨h1, h2, h3, _⟩ =>
        obtain ⟨h4, h5⟩ := rep_wf h2
        exact ⟨h4, _, rfl, h1, h5, h3, trivial⟩
    · simp at hd
  | v =>
    have hd : decV s = some x := hd
    unfold decV at hd
    split at hd
    · cases hd
      obtain ⟨vs, rfl, hl⟩ := hr
      match vs, hl with
      | [a, b, c, a', b', c'], ⟨h1, h2, h3, k1, k2, k3, _⟩ =>
        obtain ⟨h4, h5⟩ := rep_wf h2
        obtain ⟨k4, k5⟩ := rep_wf k2
        exact ⟨⟨h4, k4⟩, _, rfl, h1, h5, h3, k1, k5, k3, trivial⟩
    · simp at hd
/-- What is to be shown of a function: for arguments of its kinds its run comes to what its word says. -/
def VcK (E : Env) (fn : Func) : (ks : List Ak) → AFun ks → (List Sv → List Sv) → Prop
  | [], g, acc => (match g.1 with | none => True | some p => p) → ∃ inv fuel, execF E inv fuel fn (acc []) (fun t => t = g.2)
  | k :: ks, g, acc => ∀ x : k.T, k.wf x → VcK E fn ks (g x) (fun r => acc (k.enc x :: r))
theorem specK_ok {P : Program} {E : Env} (hE : EnvOk P E) (hm : P.follows .mixedOrders = true) {f : FuncId} {fn : Func} {c : Code} (hf : P.funcs[f]? = some fn) (hb : fn.body = some c) (hname : (fn.name == "runtime.NumGoroutine") = false) {ks : List Ak} {g : AFun ks} (hk : ks.length ≤ fn.ntmps)
    (h : VcK E fn ks g id) : SpecOk P f (specK ks g) := by
  refine ⟨⟨fn, c, hf, hname, hb⟩, fun C w vs l hC hX hT hvs hp => ?_⟩
  -- the arguments one by one
  have key : ∀ (ks : List Ak) (g : AFun ks) (acc : List Sv → List Sv) (l : List Sv) (vs : List Value), VcK E fn ks g acc → RepSs C noBox w vs l → (match (specK ks g l).1 with | none => True | some p => p) →
      l.length = ks.length ∧ ∃ l', RepSs C noBox w vs l' ∧ l'.length = ks.length ∧ ∃ inv fuel, execF E inv fuel fn (acc l') (fun t => t = (specK ks g l).2) := by
    intro ks
    induction ks with
    | nil =>
      intro g acc l vs h hr hp
      cases l with
      | nil => exact ⟨rfl, [], hr, rfl, h hp⟩
      | cons => exact hp.elim
    | cons k ks ih =>
      intro g acc l vs h hr hp
      cases l with
      | nil => exact hp.elim
      | cons s l =>
        cases vs with
        | nil => exact hr.elim
        | cons v vs =>
          have e : specK (k :: ks) g (s :: l) = (match k.dec s with | some x => specK ks (g x) l | none => noSpec) := rfl
          rw [e] at hp ⊢
          cases hd : k.dec s with
          | none => rw [hd] at hp; exact hp.elim
          | some x =>
            rw [hd] at hp
            obtain ⟨h1, h2⟩ := dec_ok hd hr.1
            obtain ⟨h3, l', h4, h5, h6⟩ := ih (g x) _ l vs (h x h1) hr.2 hp
            exact ⟨by simp [h3], k.enc x :: l', ⟨h2, h4⟩, by simp [h5], h6⟩
  obtain ⟨h1, l', h2, h3, inv, fuel, h4⟩ := key ks g id l vs h hvs hp
  refine (execF_ok hE hm hf h4 hC hX hT h2 (by rw [hvs.length, h1]; exact hk)).mono ?_
  rintro e w' ⟨v, t, rfl, rfl, h1, h2⟩
  exact ⟨v, rfl, h1, h2⟩

/-! ### A function's word, out of a contract that was shown by hand. -/
/-- What a contract by hand is to say. -/
def HandK (P : Program) (f : FuncId) : (ks : List Ak) → AFun ks → (C : Base) → (w : World) → (List Value → List Value) → Prop
  | [], g, C, w, acc => (match g.1 with | none => True | some p => p) → Calls P f (acc []).toArray w fun e w' => ∃ v, e = .returned v ∧ RepT C noBox w' v g.2 ∧ Below w.heap.size w w'
  | k :: ks, g, C, w, acc => ∀ x : k.T, k.wf x → ∀ v, RepS C noBox w v (k.enc x) → HandK P f ks (g x) C w (fun r => acc (v :: r))
theorem handK_ok {P : Program} {f : FuncId} {fn : Func} {c : Code} (hf : P.funcs[f]? = some fn) (hb : fn.body = some c) (hname : (fn.name == "runtime.NumGoroutine") = false) {ks : List Ak} {g : AFun ks}
    (h : ∀ (C : Base) (w : World), C.n = w.heap.size → (∀ g, C.X g → g < C.n) → Tab w → HandK P f ks g C w id) : SpecOk P f (specK ks g) := by
  refine ⟨⟨fn, c, hf, hname, hb⟩, fun C w vs l hC hX hT hvs hp => ?_⟩
  have key : ∀ (ks : List Ak) (g : AFun ks) (acc : List Value → List Value) (l : List Sv) (vs : List Value), HandK P f ks g C w acc → RepSs C noBox w vs l → (match (specK ks g l).1 with | none => True | some p => p) →
      Calls P f (acc vs).toArray w fun e w' => ∃ v, e = .returned v ∧ RepT C noBox w' v (specK ks g l).2 ∧ Below w.heap.size w w' := by
    intro ks
    induction ks with
    | nil =>
      intro g acc l vs h hr hp
      cases l with
      | nil => cases vs with | nil => exact h hp | cons => exact hr.elim
      | cons => exact hp.elim
    | cons k ks ih =>
      intro g acc l vs h hr hp
      cases l with
      | nil => exact hp.elim
      | cons s l =>
        cases vs with
        | nil => exact hr.elim
        | cons v vs =>
          have e : specK (k :: ks) g (s :: l) = (match k.dec s with | some x => specK ks (g x) l | none => noSpec) := rfl
          rw [e] at hp ⊢
          cases hd : k.dec s with
          | none => rw [hd] at hp; exact hp.elim
          | some x =>
            rw [hd] at hp
            obtain ⟨h1, h2⟩ := dec_ok hd hr.1
            exact ih (g x) _ l vs (h x h1 v h2) hr.2 hp
  exact key ks g id l vs (h C w hC hX hT) hvs hp
section
variable {C : Base} {w w' : World} {v : Value}
theorem rep_natAt {nw : Bool} {xs : List Int} (h : RepS C noBox w v (.one (.words nw xs))) : NatAt 0 w v xs := by
  cases (show Rep C noBox w v (.words nw xs) from h) with
  | words h => exact (h.mono (D' := fun g => 0 ≤ g) fun g _ _ => Nat.zero_le g).nat
/-- New words. -/
theorem rep_new (hC : C.n = w.heap.size) (hX : ∀ g, C.X g → g < C.n) {xs : List Int} (h : NatAt w.heap.size w' v xs) : Rep C noBox w' v (.words true xs) :=
  .words (h.isIn.mono fun g _ hD => ⟨⟨by simp, fun hx => by have := hX g hx; omega⟩, fun _ => by rw [hC]; exact hD⟩)
theorem repS_int {k : IntKind} {n : Int} (h : RepS C noBox w v (.one (.int k n))) : v = .int k n := rep_int (A := noBox) h
/-- What a function that answers one number, in new memory, is told by. -/
theorem nat_back {P : Program} {f : FuncId} {args : Array Value} {xs : List Int} (hC : C.n = w.heap.size) (hX : ∀ g, C.X g → g < C.n) (h : Calls P f args w (RNat w xs)) :
    Calls P f args w fun e w' => ∃ v, e = .returned v ∧ RepT C noBox w' v (.sv (.one (.words true xs))) ∧ Below w.heap.size w w' :=
  h.mono fun _ _ ⟨v, e, h1, h2⟩ => ⟨v, e, rep_new hC hX h1, h2⟩
theorem int_back {P : Program} {f : FuncId} {args : Array Value} {k : IntKind} {n : Int} (h : Calls P f args w (RVal w (.int k n))) :
    Calls P f args w fun e w' => ∃ v, e = .returned v ∧ RepT C noBox w' v (.sv (.one (.int k n))) ∧ Below w.heap.size w w' :=
  h.mono fun _ _ ⟨e, h2⟩ => ⟨_, e, Rep.int k n, h2⟩
theorem bool_back {P : Program} {f : FuncId} {args : Array Value} {b : Bool} (h : Calls P f args w (RVal w (.bool b))) :
    Calls P f args w fun e w' => ∃ v, e = .returned v ∧ RepT C noBox w' v (.sv (.one (.bool b))) ∧ Below w.heap.size w w' :=
  h.mono fun _ _ ⟨e, h2⟩ => ⟨_, e, Rep.bool b, h2⟩
end
/-- Words and their answers, one behind the other. -/
def SpecsOk (P : Program) : List (FuncId × Spec) → Prop
  | [] => True
  | p :: l => WordOk P p.1 p.2 ∧ SpecsOk P l
theorem SpecsOk.mem {P : Program} : ∀ {l : List (FuncId × Spec)}, SpecsOk P l → ∀ p ∈ l, WordOk P p.1 p.2
  | [], _, p, h => by simp at h
  | _ :: l, h, p, hp => by
    rcases List.mem_cons.1 hp with rfl | hp
    · exact h.1
    · exact SpecsOk.mem h.2 p hp
theorem SpecsOk.app {P : Program} : ∀ {l l' : List (FuncId × Spec)}, SpecsOk P l → SpecsOk P l' → SpecsOk P (l ++ l')
  | [], _, _, k => k
  | _ :: _, _, h, k => ⟨h.1, SpecsOk.app h.2 k⟩
def RowsOk (P : Program) : List TyRow → Prop
  | [] => True
  | r :: l => rowOf P r.id = some r ∧ RowsOk P l
theorem RowsOk.mem {P : Program} : ∀ {l : List TyRow}, RowsOk P l → ∀ r ∈ l, rowOf P r.id = some r
  | [], _, p, h => by simp at h
  | _ :: l, h, p, hp => by
    rcases List.mem_cons.1 hp with rfl | hp
    · exact h.1
    · exact RowsOk.mem h.2 p hp
theorem envOk {P : Program} {T : List TyRow} {S : List (FuncId × Spec)} (h : RowsOk P T) (k : SpecsOk P S) : EnvOk P ⟨T, S⟩ := ⟨h.mem, k.mem⟩
end Go.Proofs.YtdnbckfhfhfkoaaGreatDoor

namespace Go.Proofs.YtdnbckfhfhfkoaaGreatDoor
open Go.RowKit

def zD : List At := [.bool false, .words true [], .int .i64 0]
def tyD : TyRow := ⟨25, 3, true, zD, .struct [(0, 1, false), (1, 1, false), (2, 1, false)]⟩
def zV : List At := [.bool false, .words true [], .int .i64 0, .bool false, .words true [], .int .i64 0]
def tyV : TyRow := ⟨28, 6, true, zV, .struct [(0, 3, true), (3, 3, true)]⟩
def tyInt : TyRow := ⟨3, 1, false, [.int .i64 0], .int .i64⟩
def tyBool : TyRow := ⟨4, 1, false, [.bool false], .bool⟩
def tyNat : TyRow := ⟨23, 1, false, [.words true []], .slice 1 false true⟩
def tyWs : TyRow := ⟨22, 1, false, [.words true []], .slice 1 false true⟩
def tyU64 : TyRow := ⟨63, 1, false, [.int .u64 0], .int .u64⟩
def tyI64 : TyRow := ⟨2, 1, false, [.int .i64 0], .int .i64⟩
def tyErr : TyRow := ⟨29, 1, false, [.int .i64 0], .int .i64⟩
def tyDs : TyRow := ⟨77, 1, false, [.words true []], .slice 3 true false⟩
def tyVs : TyRow := ⟨122, 1, false, [.words true []], .slice 6 true false⟩
def tyU8 : TyRow := ⟨5, 1, false, [.int .u8 0], .int .u8⟩
def tys : List TyRow := [tyD, tyV, tyInt, tyBool, tyNat, tyWs, tyErr, tyU64, tyI64, tyDs, tyVs, tyU8]
theorem tys_ok : RowsOk Tryz.prog tys := ⟨by kernel_rfl, by kernel_rfl, by kernel_rfl, by kernel_rfl, by kernel_rfl, by kernel_rfl, by kernel_rfl, by kernel_rfl, by kernel_rfl, by kernel_rfl, by kernel_rfl, by kernel_rfl, trivial⟩
theorem mixed : Tryz.prog.follows .mixedOrders = true := by kernel_rfl
abbrev iT (n : Int) : Tv := .sv (.one (.int .i64 n))
abbrev bT (b : Bool) : Tv := .sv (.one (.bool b))
abbrev wT (xs : List Int) : Tv := .sv (.one (.words true xs))
abbrev dT (d : Dx) : Tv := .sv (.agg (dyL true d))
abbrev vT (v : Vx) : Tv := .sv (.agg (ivL true v))
theorem small_len {xs : List Int} (h : WfW xs) : (ws (val xs)).length ≤ xs.length := ws_length_of h.1

/-! ### Package limbs -/
section
variable {C : Base} {w w' : World} {v : Value}
theorem quiet_back {P : Program} {f : FuncId} {args : Array Value} {v : Value} (h : Calls P f args w fun e w' => e = .returned v ∧ w = w') : Calls P f args w (RVal w v) :=
  h.mono fun _ _ ⟨e, h2⟩ => ⟨e, by rw [h2]; exact .refl _ _⟩
theorem natB_back {P : Program} {f : FuncId} {args : Array Value} {xs : List Int} {b : Bool} (hC : C.n = w.heap.size) (hX : ∀ g, C.X g → g < C.n) (h : Calls P f args w (RNatB w xs b)) :
    Calls P f args w fun e w' => ∃ v, e = .returned v ∧ RepT C noBox w' v (.tup [.one (.words true xs), .one (.bool b)]) ∧ Below w.heap.size w w' :=
  h.mono fun _ _ ⟨v, e, h1, h2⟩ => ⟨_, e, ⟨[v, .bool b], rfl, rep_new hC hX h1, Rep.bool b, trivial⟩, h2⟩
theorem nat2_back {P : Program} {f : FuncId} {args : Array Value} {xs ys : List Int} (hC : C.n = w.heap.size) (hX : ∀ g, C.X g → g < C.n) (h : Calls P f args w (RNat2 w xs ys)) :
    Calls P f args w fun e w' => ∃ v, e = .returned v ∧ RepT C noBox w' v (.tup [.one (.words true xs), .one (.words true ys)]) ∧ Below w.heap.size w w' :=
  h.mono fun _ _ ⟨v, v', e, h1, h2, h3⟩ => ⟨_, e, ⟨[v, v'], rfl, rep_new hC hX h1, rep_new hC hX h2, trivial⟩, h3⟩
theorem natW_back {P : Program} {f : FuncId} {args : Array Value} {xs : List Int} {y : Int} (hC : C.n = w.heap.size) (hX : ∀ g, C.X g → g < C.n) (h : Calls P f args w (RNatW w xs y)) :
    Calls P f args w fun e w' => ∃ v, e = .returned v ∧ RepT C noBox w' v (.tup [.one (.words true xs), .one (.int .u64 y)]) ∧ Below w.heap.size w w' :=
  h.mono fun _ _ ⟨v, e, h1, h2⟩ => ⟨_, e, ⟨[v, .int .u64 y], rfl, rep_new hC hX h1, Rep.int _ _, trivial⟩, h2⟩
end
def lLen : Spec := specK [.w] fun (xs : List Int) => (none, iT (blen (val xs)))
theorem lLen_ok : SpecOk Tryz.prog 88 lLen :=
  handK_ok Tryz.func88 rfl (by decide) fun _ _ _ _ _ => fun _ _ _ h _ => int_back (quiet_back (len_calls (rep_natAt h)))
def lLow : Spec := specK [.w] fun (xs : List Int) => (none, iT (tz (val xs)))
theorem lLow_ok : SpecOk Tryz.prog 116 lLow :=
  handK_ok Tryz.func116 rfl (by decide) fun _ _ _ _ hT => fun _ _ _ h _ => int_back (quiet_back (low_calls hT (rep_natAt h)))
def lOf : Spec := specK [.i .u64] fun (x : Int) => (some (Word x), wT (ws x))
theorem lOf_ok : SpecOk Tryz.prog 115 lOf :=
  handK_ok Tryz.func115 rfl (by decide) fun _ _ hC hX _ => fun _ _ v h hp => by
    obtain rfl := repS_int h
    exact nat_back hC hX (of_calls _ _ hp)
def lCmp : Spec := specK [.w, .w] fun (xs : List Int) (ys : List Int) => (none, iT (cmpI (val xs) (val ys)))
theorem lCmp_ok : SpecOk Tryz.prog 114 lCmp :=
  handK_ok Tryz.func114 rfl (by decide) fun _ _ _ _ _ => fun _ _ _ h _ _ _ h' _ => int_back ((lcmp_calls (rep_natAt h) (rep_natAt h')).mono fun _ _ h => h)
def lAdd : Spec := specK [.w, .w] fun (xs : List Int) (ys : List Int) => (some (xs.length ≤ 17592186044414 ∧ ys.length ≤ 17592186044414), wT (ws (val xs + val ys)))
theorem lAdd_ok : SpecOk Tryz.prog 131 lAdd :=
  handK_ok Tryz.func131 rfl (by decide) fun _ _ hC hX _ => fun _ _ _ h _ _ _ h' hp => nat_back hC hX (ladd_calls (rep_natAt h) (rep_natAt h') hp.1 hp.2)
def lSub : Spec := specK [.w, .w] fun (xs : List Int) (ys : List Int) => (some (val ys ≤ val xs), wT (ws (val xs - val ys)))
theorem lSub_ok : SpecOk Tryz.prog 132 lSub :=
  handK_ok Tryz.func132 rfl (by decide) fun _ _ hC hX _ => fun _ _ _ h _ _ _ h' hp => nat_back hC hX (lsub_calls (rep_natAt h) (rep_natAt h') hp)
def lMul : Spec := specK [.w, .w] fun (xs : List Int) (ys : List Int) => (some ((ws (val xs)).length + (ws (val ys)).length ≤ 17592186044415), wT (ws (val xs * val ys)))
theorem lMul_ok : SpecOk Tryz.prog 145 lMul :=
  handK_ok Tryz.func145 rfl (by decide) fun _ _ hC hX _ => fun _ _ _ h _ _ _ h' hp => nat_back hC hX (lmul_calls (rep_natAt h) (rep_natAt h') hp)
def lShl : Spec := specK [.w, .i .i64] fun (xs : List Int) (n : Int) => (some (0 ≤ n ∧ n ≤ 1099511627776 ∧ (ws (val xs)).length ≤ 8796093022208), wT (ws (val xs * 2 ^ n.toNat)))
theorem lShl_ok : SpecOk Tryz.prog 141 lShl :=
  handK_ok Tryz.func141 rfl (by decide) fun _ _ hC hX _ => fun _ _ _ h n _ v h' hp => by
    obtain rfl := repS_int h'
    have h0 : (0 : Int) ≤ n := hp.1
    exact nat_back hC hX (lshl_calls n (n / 64).toNat (n % 64).toNat (rep_natAt h) hp.1 hp.2.1 (by have h0 : (0 : Int) ≤ n := hp.1; omega) (by omega) hp.2.2)
def lShr : Spec := specK [.w, .i .i64] fun (xs : List Int) (n : Int) => (some (0 ≤ n ∧ n ≤ 9007199254740992), .tup [.one (.words true (ws (val xs / 2 ^ n.toNat))), .one (.bool (lostB (val xs) n.toNat))])
theorem lShr_ok : SpecOk Tryz.prog 117 lShr :=
  handK_ok Tryz.func117 rfl (by decide) fun _ _ hC hX hT => fun _ _ _ h n _ v h' hp => by
    obtain rfl := repS_int h'
    have h0 : (0 : Int) ≤ n := hp.1
    exact natB_back hC hX (lshr_calls n (n / 64).toNat (n % 64).toNat hT (rep_natAt h) hp.1 hp.2 (by have h0 : (0 : Int) ≤ n := hp.1; omega) (by omega))
def lShort : Spec := specK [.w, .i .u64] fun (xs : List Int) (d : Int) => (some (Word d ∧ 0 < d), .tup [.one (.words true (ws (val xs / d))), .one (.int .u64 (val xs % d))])
theorem lShort_ok : SpecOk Tryz.prog 158 lShort :=
  handK_ok Tryz.func158 rfl (by decide) fun _ _ hC hX _ => fun _ _ _ h n _ v h' hp => by
    obtain rfl := repS_int h'
    exact natW_back hC hX (lshort_calls (rep_natAt h) hp.1 hp.2)
def lDiv : Spec := specK [.w, .w] fun (xs : List Int) (ys : List Int) => (some (0 < val ys ∧ (ws (val xs)).length ≤ 8796093022206), .tup [.one (.words true (ws (val xs / val ys))), .one (.words true (ws (val xs % val ys)))])
theorem lDiv_ok : SpecOk Tryz.prog 143 lDiv :=
  handK_ok Tryz.func143 rfl (by decide) fun _ _ hC hX hT => fun _ _ _ h _ _ _ h' hp => nat2_back hC hX (ldiv_calls hT (rep_natAt h) (rep_natAt h') hp.1 hp.2)
/-- Part of what was handed in. -/
def lTrim : Spec := specK [.w] fun (xs : List Int) => (none, .sv (.one (.words false (ws (val xs)))))
theorem trim_in {D : Nat → Prop} {w : World} {v : Value} {xs : List Int} (h : NatIn D w v xs) : Calls Tryz.prog 86 #[v] w fun e w' => ∃ v, e = .returned v ∧ NatIn D w v (ws (val xs)) ∧ w = w' := by
  obtain ⟨A, c, rfl, h1, ⟨h2, h2'⟩, h3, h5, h4⟩ := h
  by_cases hp : 0 < xs.length
  · obtain ⟨g, o, rfl, hD, hg, hcell⟩ := h4 hp
    refine (trim_core g o c xs w h1 h2 h2' hcell).mono ?_
    rintro e w' ⟨rfl, rfl⟩
    have hle := trimTo_le xs xs.length
    have htk := take_trimTo h3
    have hlen := trimTo_length h3
    refine ⟨_, rfl, ⟨some ⟨g, o, none⟩, trimTo xs xs.length, by rw [← hlen], by omega, ⟨by omega, by omega⟩, words_ws _, by simp, fun _ => ⟨g, o, rfl, hD, hg, fun j hj => ?_⟩⟩, rfl⟩
    rw [← hlen] at hj
    rw [hcell j (by omega), ← htk, nth_take hj]
  · obtain rfl : xs = [] := List.eq_nil_of_length_eq_zero (by omega)
    refine (trim_empty A c w h2).mono ?_
    rintro e w' ⟨⟨A', rfl⟩, rfl⟩
    refine ⟨_, rfl, ⟨A', 0, by simp [val, ws_zero], by simp [val, ws_zero], ⟨by omega, by simp [val, ws_zero]⟩, words_ws _, fun _ => rfl, fun hx => absurd hx (by simp [val, ws_zero])⟩, rfl⟩
theorem lTrim_ok : SpecOk Tryz.prog 86 lTrim :=
  handK_ok Tryz.func86 rfl (by decide) fun C w hC hX _ => fun xs _ v h _ => by
    cases (show Rep C noBox w v (.words false xs) from h) with
    | words h =>
      refine (trim_in h).mono ?_
      rintro e w' ⟨v, rfl, h, rfl⟩
      exact ⟨v, rfl, Rep.words h, .refl _ _⟩
/-! ### Package ulpref03 -/
def nNorm : Spec := specK [.w] fun (xs : List Int) => (none, wT (ws (val xs)))
theorem nNorm_ok : SpecOk Tryz.prog 85 nNorm :=
  handK_ok Tryz.func85 rfl (by decide) fun _ _ hC hX _ => fun _ _ _ h _ => nat_back hC hX (norm_calls (rep_natAt h))
def nGreat : Spec := specK [.w] fun (xs : List Int) => (none, bT (greatB (val xs)))
theorem nGreat_ok : SpecOk Tryz.prog 61 nGreat :=
  handK_ok Tryz.func61 rfl (by decide) fun _ _ _ _ _ => fun _ _ _ h _ => bool_back (quiet_back (great_calls (rep_natAt h)))
def nOf : Spec := specK [.i .u64] fun (x : Int) => (some (Word x), wT (ws x))
theorem nOf_ok : SpecOk Tryz.prog 59 nOf :=
  handK_ok Tryz.func59 rfl (by decide) fun _ _ hC hX _ => fun _ _ v h hp => by
    obtain rfl := repS_int h
    exact nat_back hC hX (of3_calls _ _ hp)
def nLen : Spec := specK [.w] fun (xs : List Int) => (none, iT (blen (val xs)))
theorem nLen_ok : SpecOk Tryz.prog 78 nLen :=
  handK_ok Tryz.func78 rfl (by decide) fun _ _ _ _ _ => fun _ _ _ h _ => int_back (len3_calls (rep_natAt h))
def nLow : Spec := specK [.w] fun (xs : List Int) => (none, iT (tz (val xs)))
theorem nLow_ok : SpecOk Tryz.prog 104 nLow :=
  handK_ok Tryz.func104 rfl (by decide) fun _ _ _ _ _ => fun _ _ _ h _ => int_back (low3_calls (rep_natAt h))
def nCmp : Spec := specK [.w, .w] fun (xs : List Int) (ys : List Int) => (none, iT (cmpI (val xs) (val ys)))
theorem nCmp_ok : SpecOk Tryz.prog 69 nCmp :=
  handK_ok Tryz.func69 rfl (by decide) fun _ _ _ _ _ => fun _ _ _ h _ _ _ h' _ => int_back (quiet_back (cmp3_calls (rep_natAt h) (rep_natAt h')))
def nSame : Spec := specK [.w, .w] fun (xs : List Int) (ys : List Int) => (none, bT (decide (xs = ys)))
theorem nSame_ok : SpecOk Tryz.prog 51 nSame :=
  handK_ok Tryz.func51 rfl (by decide) fun _ _ _ _ _ => fun _ _ _ h _ _ _ h' _ => bool_back (same3_calls (rep_natAt h) (rep_natAt h'))
def nAdd : Spec := specK [.w, .w] fun (xs : List Int) (ys : List Int) => (some (xs.length ≤ 17592186044414 ∧ ys.length ≤ 17592186044414), wT (ws (val xs + val ys)))
theorem nAdd_ok : SpecOk Tryz.prog 68 nAdd :=
  handK_ok Tryz.func68 rfl (by decide) fun _ _ hC hX _ => fun _ _ _ h _ _ _ h' hp => nat_back hC hX (add3_calls (rep_natAt h) (rep_natAt h') hp.1 hp.2)
def nSub : Spec := specK [.w, .w] fun (xs : List Int) (ys : List Int) => (some (val ys ≤ val xs ∧ xs.length ≤ 17592186044414 ∧ ys.length ≤ 17592186044414), wT (ws (val xs - val ys)))
theorem nSub_ok : SpecOk Tryz.prog 70 nSub :=
  handK_ok Tryz.func70 rfl (by decide) fun _ _ hC hX _ => fun _ _ _ h _ _ _ h' hp => nat_back hC hX (sub3_calls (rep_natAt h) (rep_natAt h') hp.2.1 hp.2.2 hp.1)
def nMul : Spec := specK [.w, .w] fun (xs : List Int) (ys : List Int) => (some ((ws (val xs)).length + (ws (val ys)).length ≤ 17592186044414), wT (ws (val xs * val ys)))
theorem nMul_ok : SpecOk Tryz.prog 111 nMul :=
  handK_ok Tryz.func111 rfl (by decide) fun _ _ hC hX _ => fun _ _ _ h _ _ _ h' hp => nat_back hC hX (mul3_calls (rep_natAt h) (rep_natAt h') hp)
def nShl : Spec := specK [.w, .i .i64] fun (xs : List Int) (n : Int) => (some (0 ≤ n ∧ n ≤ 1099511627776 ∧ xs.length ≤ 8796093022208), wT (ws (val xs * 2 ^ n.toNat)))
theorem nShl_ok : SpecOk Tryz.prog 67 nShl :=
  handK_ok Tryz.func67 rfl (by decide) fun _ _ hC hX _ => fun _ _ _ h n _ v h' hp => by
    obtain rfl := repS_int h'
    exact nat_back hC hX (shl3_calls n (rep_natAt h) hp.1 hp.2.1 hp.2.2)
def nShr : Spec := specK [.w, .i .i64] fun (xs : List Int) (n : Int) => (some (0 ≤ n ∧ n ≤ 9007199254740992), .tup [.one (.words true (ws (val xs / 2 ^ n.toNat))), .one (.bool (lostB (val xs) n.toNat))])
theorem nShr_ok : SpecOk Tryz.prog 79 nShr :=
  handK_ok Tryz.func79 rfl (by decide) fun _ _ hC hX _ => fun _ _ _ h n _ v h' hp => by
    obtain rfl := repS_int h'
    exact natB_back hC hX (shr3_calls n (rep_natAt h) hp.1 hp.2)
def sLimbs : List (FuncId × Spec) := [(88, lLen), (116, lLow), (115, lOf), (114, lCmp), (131, lAdd), (132, lSub), (145, lMul), (141, lShl),
  (117, lShr), (158, lShort), (143, lDiv), (86, lTrim)]
theorem sLimbs_ok : SpecsOk Tryz.prog sLimbs := ⟨lLen_ok, lLow_ok, lOf_ok, lCmp_ok, lAdd_ok, lSub_ok, lMul_ok, lShl_ok, lShr_ok, lShort_ok, lDiv_ok, lTrim_ok, trivial⟩
def sRef3 : List (FuncId × Spec) := [(85, nNorm), (61, nGreat), (59, nOf), (78, nLen), (104, nLow), (69, nCmp), (51, nSame),
  (68, nAdd), (70, nSub), (111, nMul), (67, nShl), (79, nShr)]
theorem sRef3_ok : SpecsOk Tryz.prog sRef3 := ⟨nNorm_ok, nGreat_ok, nOf_ok, nLen_ok, nLow_ok, nCmp_ok, nSame_ok, nAdd_ok, nSub_ok, nMul_ok, nShl_ok, nShr_ok, trivial⟩
end Go.Proofs.YtdnbckfhfhfkoaaGreatDoor

namespace Go.Proofs.YtdnbckfhfhfkoaaGreatDoor
open Go.RowKit
theorem eqI_true {a b : Int} : eqI a b = true ↔ a = b := by simp [eqI]
theorem eqI_false {a b : Int} : eqI a b = false ↔ a ≠ b := by simp [eqI]
theorem neI_true {a b : Int} : neI a b = true ↔ a ≠ b := by simp [neI]
theorem neI_false {a b : Int} : neI a b = false ↔ a = b := by simp [neI]
theorem ltI_true {a b : Int} : ltI a b = true ↔ a < b := by simp [ltI]
theorem ltI_false {a b : Int} : ltI a b = false ↔ ¬ a < b := by simp [ltI]
theorem leI_true {a b : Int} : leI a b = true ↔ a ≤ b := by simp [leI]
theorem leI_false {a b : Int} : leI a b = false ↔ ¬ a ≤ b := by simp [leI]
theorem WfW.val0 {xs : List Int} (h : WfW xs) : 0 ≤ val xs := val_nonneg h.1
theorem Dx.Wf.m0 {d : Dx} (h : d.Wf) : 0 ≤ d.m := val_nonneg h.1
theorem len_zero {n : Int} (h : 0 ≤ n) : eqI ((ws n).length : Nat) 0 = decide (n = 0) := by
  rw [Bool.eq_iff_iff, eqI_true, decide_eq_true_eq, ← ws_eq_nil h, ← List.length_eq_zero_iff]; omega
theorem len_pos {n : Int} (h : 0 ≤ n) : ltI 0 ((ws n).length : Nat) = decide (n ≠ 0) := by
  rw [Bool.eq_iff_iff, ltI_true, decide_eq_true_eq, ne_eq, ← ws_eq_nil h, ← List.length_eq_zero_iff]; omega
def rForm : Spec := specK [.b, .w, .i .i64] fun (neg : Bool) (xs : List Int) (e : Int) => (some (-4611686018427387904 ≤ e ∧ e ≤ 4611686018427387904), dT (mkD neg (val xs) e))
theorem rForm_vc (neg : Bool) (xs : List Int) (e : Int) (Q : Tv → Prop) : execF ⟨tys, sLimbs⟩ (fun _ => none) 0 Tryz.f87 [.one (.bool neg), .one (.words false xs), .one (.int .i64 e)] Q = (br (eqI (↑(List.length (ws (val xs))) : Int) (0 : Int)) (Q (Tv.sv (Sv.agg [At.bool false, At.words true [], At.int IntKind.i64 (0 : Int)]))) (((0 : Int) ≤ (↑(tz (val (ws (val xs)))) : Int) ∧ (↑(tz (val (ws (val xs)))) : Int) ≤ (9007199254740992 : Int)) ∧ inR (e + (↑(tz (val (ws (val xs)))) : Int)) ∧ Q (Tv.sv (Sv.agg [At.bool neg, At.words true (ws (val (ws (val xs)) / (2 : Int) ^ Int.toNat (↑(tz (val (ws (val xs)))) : Int))), At.int IntKind.i64 (e + (↑(tz (val (ws (val xs)))) : Int))])))) := by kernel_rfl
theorem rForm_ok : SpecOk Tryz.prog 87 rForm :=
  specK_ok (envOk tys_ok sLimbs_ok) mixed Tryz.func87 rfl (by decide) (by decide) fun neg _ xs hxs (e : Int) _ hp => ⟨fun _ => none, 0, by
    have h0 : -4611686018427387904 ≤ e := hp.1
    have h1 : e ≤ 4611686018427387904 := hp.2
    have hv := WfW.val0 hxs
    have ht := tz_small hxs.1 hxs.2
    refine (rForm_vc neg xs e _).mpr (br_intro (fun h => ?_) (fun h => ?_))
    · rw [len_zero hv, decide_eq_true_eq] at h
      show _ = dT (mkD neg (val xs) e)
      rw [h, mkD_zero]
      rfl
    · rw [len_zero hv, decide_eq_false_iff_not] at h
      rw [val_ws hv]
      refine ⟨⟨by omega, by omega⟩, ⟨by omega, by omega⟩, ?_⟩
      show _ = dT (mkD neg (val xs) e)
      rw [mkD, if_neg h, Int.toNat_natCast]
      rfl⟩
def rZero : Spec := specK [.d] fun (d : Dx) => (none, bT d.zeroB)
theorem rZero_vc (d : Dx) (Q : Tv → Prop) : execF ⟨tys, sLimbs⟩ (fun _ => none) 0 Tryz.f46 [.agg (dyL false d)] Q = (Q (Tv.sv (Sv.one (At.bool (eqI (↑(List.length (ws (val d.xs))) : Int) (0 : Int)))))) := by kernel_rfl
theorem rZero_ok : SpecOk Tryz.prog 46 rZero :=
  specK_ok (envOk tys_ok sLimbs_ok) mixed Tryz.func46 rfl (by decide) (by decide) fun (d : Dx) hd _ => ⟨fun _ => none, 0, by
    refine (rZero_vc d _).mpr ?_
    show _ = bT d.zeroB
    rw [len_zero (WfW.val0 hd)]
    rfl⟩
def rFits : Spec := specK [.d] fun (d : Dx) => (none, bT d.fitsB)
theorem rFits_vc (d : Dx) (Q : Tv → Prop) : execF ⟨tys, sLimbs⟩ (fun _ => none) 0 Tryz.f44 [.agg (dyL false d)] Q = (br (leI (↑(List.length (ws (val d.xs))) : Int) (1024 : Int)) (br (leI (-32768 : Int) d.e) (Q (Tv.sv (Sv.one (At.bool (leI d.e (32768 : Int)))))) (Q (Tv.sv (Sv.one (At.bool false))))) (Q (Tv.sv (Sv.one (At.bool false))))) := by kernel_rfl
theorem rFits_ok : SpecOk Tryz.prog 44 rFits :=
  specK_ok (envOk tys_ok sLimbs_ok) mixed Tryz.func44 rfl (by decide) (by decide) fun (d : Dx) hd _ => ⟨fun _ => none, 0, by
    refine (rFits_vc d _).mpr (br_intro (fun h => br_intro (fun h' => ?_) fun h' => ?_) fun h => ?_)
    · show _ = bT d.fitsB
      have e1 : greatB d.m = false := by rw [leI_true] at h; unfold greatB Dx.m; simp; omega
      rw [leI_true] at h'
      unfold Dx.fitsB; rw [e1]; simp only [leI, h', decide_true, Bool.not_false, Bool.true_and]
    · show _ = bT d.fitsB
      rw [leI_false] at h'
      unfold Dx.fitsB; simp only [h', decide_false, Bool.and_false, Bool.false_and]
    · show _ = bT d.fitsB
      have e1 : greatB d.m = true := by rw [leI_false] at h; unfold greatB Dx.m; simp; omega
      unfold Dx.fitsB; rw [e1]; rfl⟩
theorem blen_wf {xs : List Int} (h : WfW xs) : blen (val xs) ≤ 1125899906842560 := blen_small h.1 h.2
theorem Dx.Wf.blen {d : Dx} (h : d.Wf) : blen d.m ≤ 1125899906842560 := blen_small h.1 h.2
def rTop : Spec := specK [.d] fun (d : Dx) => (some (-2305843009213693952 ≤ d.e ∧ d.e ≤ 2305843009213693952), iT (d.e + blen d.m - 1))
theorem rTop_vc (d : Dx) (Q : Tv → Prop) : execF ⟨tys, sLimbs⟩ (fun _ => none) 0 Tryz.f47 [.agg (dyL false d)] Q = (inR (d.e + (↑(blen (val d.xs)) : Int)) ∧ inR (d.e + (↑(blen (val d.xs)) : Int) - (1 : Int)) ∧ true = true ∧ Q (Tv.sv (Sv.one (At.int IntKind.i64 (d.e + (↑(blen (val d.xs)) : Int) - (1 : Int)))))) := by kernel_rfl
theorem rTop_ok : SpecOk Tryz.prog 47 rTop :=
  specK_ok (envOk tys_ok sLimbs_ok) mixed Tryz.func47 rfl (by decide) (by decide) fun (d : Dx) hd hp => ⟨fun _ => none, 0, by
    have h0 : -2305843009213693952 ≤ Dx.e d := hp.1
    have h1 : Dx.e d ≤ 2305843009213693952 := hp.2
    have hb := Dx.Wf.blen hd
    unfold Dx.m at hb
    refine (rTop_vc d _).mpr ⟨⟨by omega, by omega⟩, ⟨by omega, by omega⟩, rfl, rfl⟩⟩
def rAmounts : Spec := specK [.d, .d] fun (d : Dx) (d' : Dx) => (some (d.Sm 274877906944 ∧ d'.Sm 274877906944),
  .tup [.one (.words true (ws (d.m * 2 ^ (d.e - min d.e d'.e).toNat))), .one (.words true (ws (d'.m * 2 ^ (d'.e - min d.e d'.e).toNat))), .one (.int .i64 (min d.e d'.e))])
theorem minI_eq (a b : Int) : minI a b = min a b := by unfold minI; omega
theorem maxI_eq (a b : Int) : maxI a b = max a b := by unfold maxI; omega
theorem ws_blen {n : Int} {k : Nat} (h0 : 0 ≤ n) (h : blen n ≤ 64 * k) : (ws n).length ≤ k := by have := ws_len_blen h0; omega
theorem rAmounts_vc (d d' : Dx) (Q : Tv → Prop) : execF ⟨tys, sLimbs⟩ (fun _ => none) 0 Tryz.f113 [.agg (dyL false d), .agg (dyL false d')] Q = (inR (d.e - minI d.e d'.e) ∧ ((0 : Int) ≤ d.e - minI d.e d'.e ∧ d.e - minI d.e d'.e ≤ (1099511627776 : Int) ∧ List.length (ws (val d.xs)) ≤ (8796093022208 : Nat)) ∧ inR (d'.e - minI d.e d'.e) ∧ ((0 : Int) ≤ d'.e - minI d.e d'.e ∧ d'.e - minI d.e d'.e ≤ (1099511627776 : Int) ∧ List.length (ws (val d'.xs)) ≤ (8796093022208 : Nat)) ∧ true = true ∧ Q (Tv.tup [Sv.one (At.words true (ws (val d.xs * (2 : Int) ^ Int.toNat (d.e - minI d.e d'.e)))), Sv.one (At.words true (ws (val d'.xs * (2 : Int) ^ Int.toNat (d'.e - minI d.e d'.e)))), Sv.one (At.int IntKind.i64 (minI d.e d'.e))])) := by kernel_rfl
theorem rAmounts_ok : SpecOk Tryz.prog 113 rAmounts :=
  specK_ok (envOk tys_ok sLimbs_ok) mixed Tryz.func113 rfl (by decide) (by decide) fun (d : Dx) hd (d' : Dx) hd' hp => ⟨fun _ => none, 0, by
    obtain ⟨⟨s1, s2, s3⟩, s4, s5, s6⟩ : Dx.Sm 274877906944 d ∧ Dx.Sm 274877906944 d' := hp
    have l1 := ws_blen (k := 8796093022208) (Dx.Wf.m0 hd) (by omega)
    have l2 := ws_blen (k := 8796093022208) (Dx.Wf.m0 hd') (by omega)
    refine (rAmounts_vc d d' _).mpr ?_
    rw [minI_eq]
    exact ⟨⟨by omega, by omega⟩, ⟨by omega, by omega, l1⟩, ⟨by omega, by omega⟩, ⟨by omega, by omega, l2⟩, rfl, rfl⟩⟩
def sRaw1 : List (FuncId × Spec) := [(87, rForm), (46, rZero), (44, rFits), (47, rTop), (113, rAmounts)] ++ sLimbs
theorem sRaw1_ok : SpecsOk Tryz.prog sRaw1 := ⟨rForm_ok, rZero_ok, rFits_ok, rTop_ok, rAmounts_ok, sLimbs_ok⟩

/-! ### Those that lean on these -/
def rOne : Spec := specK [.d] fun (d : Dx) => (some (-4611686018427387904 ≤ d.e ∧ d.e ≤ 4611686018427387904), dT (oneD d))
theorem rOne_vc (d : Dx) (Q : Tv → Prop) : execF ⟨tys, sRaw1⟩ (fun _ => none) 0 Tryz.f45 [.agg (dyL false d)] Q = (((-4611686018427387904 : Int) ≤ d.e ∧ d.e ≤ (4611686018427387904 : Int)) ∧ Q (Tv.sv (Sv.agg [At.bool (mkD d.neg (val d.xs) d.e).neg, At.words true (mkD d.neg (val d.xs) d.e).xs, At.int IntKind.i64 (mkD d.neg (val d.xs) d.e).e]))) := by kernel_rfl
theorem rOne_ok : SpecOk Tryz.prog 45 rOne :=
  specK_ok (envOk tys_ok sRaw1_ok) mixed Tryz.func45 rfl (by decide) (by decide) fun (d : Dx) hd hp => ⟨fun _ => none, 0, (rOne_vc d _).mpr ⟨hp, rfl⟩⟩
def rNeg : Spec := specK [.d] fun (d : Dx) => (some (-4611686018427387904 ≤ d.e ∧ d.e ≤ 4611686018427387904), dT (negD d))
theorem rNeg_vc (d : Dx) (Q : Tv → Prop) : execF ⟨tys, sRaw1⟩ (fun _ => none) 0 Tryz.f103 [.agg (dyL false d)] Q = (((-4611686018427387904 : Int) ≤ d.e ∧ d.e ≤ (4611686018427387904 : Int)) ∧ Q (Tv.sv (Sv.agg [At.bool (mkD (!d.neg) (val d.xs) d.e).neg, At.words true (mkD (!d.neg) (val d.xs) d.e).xs, At.int IntKind.i64 (mkD (!d.neg) (val d.xs) d.e).e]))) := by kernel_rfl
theorem rNeg_ok : SpecOk Tryz.prog 103 rNeg :=
  specK_ok (envOk tys_ok sRaw1_ok) mixed Tryz.func103 rfl (by decide) (by decide) fun (d : Dx) hd hp => ⟨fun _ => none, 0, (rNeg_vc d _).mpr ⟨hp, rfl⟩⟩
def absD (d : Dx) : Dx := mkD false d.m d.e
def rAbs : Spec := specK [.d] fun (d : Dx) => (some (-4611686018427387904 ≤ d.e ∧ d.e ≤ 4611686018427387904), dT (absD d))
theorem rAbs_vc (d : Dx) (Q : Tv → Prop) : execF ⟨tys, sRaw1⟩ (fun _ => none) 0 Tryz.f124 [.agg (dyL false d)] Q = (((-4611686018427387904 : Int) ≤ d.e ∧ d.e ≤ (4611686018427387904 : Int)) ∧ Q (Tv.sv (Sv.agg [At.bool (mkD false (val d.xs) d.e).neg, At.words true (mkD false (val d.xs) d.e).xs, At.int IntKind.i64 (mkD false (val d.xs) d.e).e]))) := by kernel_rfl
theorem rAbs_ok : SpecOk Tryz.prog 124 rAbs :=
  specK_ok (envOk tys_ok sRaw1_ok) mixed Tryz.func124 rfl (by decide) (by decide) fun (d : Dx) hd hp => ⟨fun _ => none, 0, (rAbs_vc d _).mpr ⟨hp, rfl⟩⟩
/-- Times a power of 2. -/
def shiftD (d : Dx) (n : Int) : Dx := mkD d.neg d.m (d.e + n)
def rShift : Spec := specK [.d, .i .i64] fun (d : Dx) (n : Int) => (some (-2305843009213693952 ≤ d.e ∧ d.e ≤ 2305843009213693952 ∧ -2305843009213693952 ≤ n ∧ n ≤ 2305843009213693952), dT (shiftD d n))
theorem rShift_vc (d : Dx) (n : Int) (Q : Tv → Prop) : execF ⟨tys, sRaw1⟩ (fun _ => none) 0 Tryz.f63 [.agg (dyL false d), .one (.int .i64 n)] Q = (inR (d.e + n) ∧ ((-4611686018427387904 : Int) ≤ d.e + n ∧ d.e + n ≤ (4611686018427387904 : Int)) ∧ Q (Tv.sv (Sv.agg [At.bool (mkD d.neg (val d.xs) (d.e + n)).neg, At.words true (mkD d.neg (val d.xs) (d.e + n)).xs, At.int IntKind.i64 (mkD d.neg (val d.xs) (d.e + n)).e]))) := by kernel_rfl
theorem rShift_ok : SpecOk Tryz.prog 63 rShift :=
  specK_ok (envOk tys_ok sRaw1_ok) mixed Tryz.func63 rfl (by decide) (by decide) fun (d : Dx) hd (n : Int) _ hp => ⟨fun _ => none, 0, by
    obtain ⟨h1, h2, h3, h4⟩ : (-2305843009213693952 ≤ Dx.e d ∧ Dx.e d ≤ 2305843009213693952 ∧ -2305843009213693952 ≤ (n : Int) ∧ (n : Int) ≤ 2305843009213693952) := hp
    have e0 : -4611686018427387904 ≤ Dx.e d + n := by omega
    have e1 : Dx.e d + n ≤ 4611686018427387904 := by omega
    exact (rShift_vc d n _).mpr ⟨⟨by omega, by omega⟩, ⟨e0, e1⟩, rfl⟩⟩
def rSign : Spec := specK [.d] fun (d : Dx) => (none, iT d.sgn)
theorem rSign_vc (d : Dx) (Q : Tv → Prop) : execF ⟨tys, sRaw1⟩ (fun _ => none) 0 Tryz.f82 [.agg (dyL false d)] Q = (br (Dx.zeroB d) (Q (Tv.sv (Sv.one (At.int IntKind.i64 (0 : Int))))) (br d.neg (Q (Tv.sv (Sv.one (At.int IntKind.i64 (-1 : Int))))) (Q (Tv.sv (Sv.one (At.int IntKind.i64 (1 : Int))))))) := by kernel_rfl
def rMul : Spec := specK [.d, .d] fun (d : Dx) (d' : Dx) => (some (d.Sm 274877906944 ∧ d'.Sm 274877906944), dT (timesD d d'))
theorem rSign_ok : SpecOk Tryz.prog 82 rSign :=
  specK_ok (envOk tys_ok sRaw1_ok) mixed Tryz.func82 rfl (by decide) (by decide) fun (d : Dx) hd _ => ⟨fun _ => none, 0, by
    refine (rSign_vc d _).mpr (br_intro (fun h => ?_) (fun h => br_intro (fun h' => ?_) fun h' => ?_))
    · show _ = iT d.sgn
      rw [Dx.sgn, if_pos (by simpa [Dx.zeroB] using h)]
    · show _ = iT d.sgn
      rw [Dx.sgn, if_neg (by simpa [Dx.zeroB] using h), if_pos h']
    · show _ = iT d.sgn
      rw [Dx.sgn, if_neg (by simpa [Dx.zeroB] using h), if_neg (by simp [h'])]⟩
theorem rMul_vc (d d' : Dx) (Q : Tv → Prop) : execF ⟨tys, sRaw1⟩ (fun _ => none) 0 Tryz.f123 [.agg (dyL false d), .agg (dyL false d')] Q = (List.length (ws (val d.xs)) + List.length (ws (val d'.xs)) ≤ (17592186044415 : Nat) ∧ inR (d.e + d'.e) ∧ ((-4611686018427387904 : Int) ≤ d.e + d'.e ∧ d.e + d'.e ≤ (4611686018427387904 : Int)) ∧ true = true ∧ Q (Tv.sv (Sv.agg [At.bool (mkD (!d.neg == d'.neg) (val (ws (val d.xs * val d'.xs))) (d.e + d'.e)).neg, At.words true (mkD (!d.neg == d'.neg) (val (ws (val d.xs * val d'.xs))) (d.e + d'.e)).xs, At.int IntKind.i64 (mkD (!d.neg == d'.neg) (val (ws (val d.xs * val d'.xs))) (d.e + d'.e)).e]))) := by kernel_rfl
theorem rMul_ok : SpecOk Tryz.prog 123 rMul :=
  specK_ok (envOk tys_ok sRaw1_ok) mixed Tryz.func123 rfl (by decide) (by decide) fun (d : Dx) hd (d' : Dx) hd' hp => ⟨fun _ => none, 0, by
    obtain ⟨⟨s1, s2, s3⟩, s4, s5, s6⟩ : Dx.Sm 274877906944 d ∧ Dx.Sm 274877906944 d' := hp
    have l1 := ws_blen (k := 8796093022207) (Dx.Wf.m0 hd) (by omega)
    have l2 := ws_blen (k := 8796093022207) (Dx.Wf.m0 hd') (by omega)
    unfold Dx.m at l1 l2
    have hv : 0 ≤ val d.xs * val d'.xs := Int.mul_nonneg (WfW.val0 hd) (WfW.val0 hd')
    refine (rMul_vc d d' _).mpr ?_
    rw [val_ws hv]
    exact ⟨by omega, ⟨by omega, by omega⟩, ⟨by omega, by omega⟩, rfl, rfl⟩⟩
def rSticky : Spec := specK [.b, .w, .b, .i .i64] fun (neg : Bool) (xs : List Int) (more : Bool) (e : Int) => (some ((ws (val xs)).length ≤ 8796093022207 ∧ -2305843009213693952 ≤ e ∧ e ≤ 2305843009213693952), dT (mkD neg (stickyM (val xs) more) (e - 1)))
theorem rSticky_vc (neg more : Bool) (xs : List Int) (e : Int) (Q : Tv → Prop) : execF ⟨tys, sRaw1⟩ (fun _ => none) 0 Tryz.f144 [.one (.bool neg), .one (.words false xs), .one (.bool more), .one (.int .i64 e)] Q = (((0 : Int) ≤ (1 : Int) ∧ (1 : Int) ≤ (1099511627776 : Int) ∧ List.length (ws (val xs)) ≤ (8796093022208 : Nat)) ∧ br more (Word (1 : Int) ∧ (List.length (ws (val xs * (2 : Int) ^ Int.toNat (1 : Int))) ≤ (17592186044414 : Nat) ∧ List.length (ws (1 : Int)) ≤ (17592186044414 : Nat)) ∧ inR (e - (1 : Int)) ∧ ((-4611686018427387904 : Int) ≤ e - (1 : Int) ∧ e - (1 : Int) ≤ (4611686018427387904 : Int)) ∧ Q (Tv.sv (Sv.agg [At.bool (mkD neg (val (ws (val (ws (val xs * (2 : Int) ^ Int.toNat (1 : Int))) + val (ws (1 : Int))))) (e - (1 : Int))).neg, At.words true (mkD neg (val (ws (val (ws (val xs * (2 : Int) ^ Int.toNat (1 : Int))) + val (ws (1 : Int))))) (e - (1 : Int))).xs, At.int IntKind.i64 (mkD neg (val (ws (val (ws (val xs * (2 : Int) ^ Int.toNat (1 : Int))) + val (ws (1 : Int))))) (e - (1 : Int))).e]))) (inR (e - (1 : Int)) ∧ ((-4611686018427387904 : Int) ≤ e - (1 : Int) ∧ e - (1 : Int) ≤ (4611686018427387904 : Int)) ∧ Q (Tv.sv (Sv.agg [At.bool (mkD neg (val (ws (val xs * (2 : Int) ^ Int.toNat (1 : Int)))) (e - (1 : Int))).neg, At.words true (mkD neg (val (ws (val xs * (2 : Int) ^ Int.toNat (1 : Int)))) (e - (1 : Int))).xs, At.int IntKind.i64 (mkD neg (val (ws (val xs * (2 : Int) ^ Int.toNat (1 : Int)))) (e - (1 : Int))).e])))) := by kernel_rfl
theorem word_one : Word 1 := ⟨by omega, by omega⟩
theorem ws_one : ws 1 = [1] := by rw [ws_pos (by omega), ws_nonpos (by omega)]; rfl
theorem val_ws_one : val (ws 1) = 1 := val_ws (by omega)
theorem ws_len_double {n : Int} (h : 0 ≤ n) : (ws (n * 2)).length ≤ (ws n).length + 1 := by
  have := lt_wpow_ws h
  refine ws_length_le ?_
  rw [wpow_succ]
  have := wpow_pos (ws n).length
  omega
theorem rSticky_ok : SpecOk Tryz.prog 144 rSticky :=
  specK_ok (envOk tys_ok sRaw1_ok) mixed Tryz.func144 rfl (by decide) (by decide) fun neg _ xs hxs more _ (e : Int) _ hp => ⟨fun _ => none, 0, by
    obtain ⟨h1, h2, h3⟩ : (ws (val xs)).length ≤ 8796093022207 ∧ -2305843009213693952 ≤ e ∧ e ≤ 2305843009213693952 := hp
    have v0 := WfW.val0 hxs
    have l2 := ws_len_double v0
    refine (rSticky_vc neg more xs e _).mpr ?_
    rw [show (2 : Int) ^ Int.toNat 1 = 2 from rfl, val_ws (n := val xs * 2) (by omega), val_ws_one, val_ws (n := val xs * 2 + 1) (by omega)]
    refine ⟨⟨by omega, by omega, by omega⟩, br_intro (fun h => ⟨word_one, ⟨by omega, by simp [ws_one]⟩, ⟨by omega, by omega⟩, ⟨by omega, by omega⟩, ?_⟩) (fun h => ⟨⟨by omega, by omega⟩, ⟨by omega, by omega⟩, ?_⟩)⟩
    · show _ = dT (mkD neg (stickyM (val xs) more) (e - 1))
      rw [h]; rfl
    · show _ = dT (mkD neg (stickyM (val xs) more) (e - 1))
      rw [h, show stickyM (val xs) false = val xs * 2 from by simp [stickyM]]; rfl⟩
def sRaw2 : List (FuncId × Spec) := [(45, rOne), (103, rNeg), (124, rAbs), (63, rShift), (82, rSign), (123, rMul), (144, rSticky)] ++ sRaw1
theorem sRaw2_ok : SpecsOk Tryz.prog sRaw2 := ⟨rOne_ok, rNeg_ok, rAbs_ok, rShift_ok, rSign_ok, rMul_ok, rSticky_ok, sRaw1_ok⟩
end Go.Proofs.YtdnbckfhfhfkoaaGreatDoor

namespace Go.Proofs.YtdnbckfhfhfkoaaGreatDoor
open Go.RowKit
def rAdd : Spec := specK [.d, .d] fun (a : Dx) (b : Dx) => (some (a.Sm 68719476736 ∧ b.Sm 68719476736), dT (plusD a b))
theorem rAdd_vc (a b : Dx) (Q : Tv → Prop) : execF ⟨tys, sRaw2⟩ (fun _ => none) 0 Tryz.f101 [.agg (dyL false a), .agg (dyL false b)] Q = (((-4611686018427387904 : Int) ≤ a.e ∧ a.e ≤ (4611686018427387904 : Int)) ∧ ((-4611686018427387904 : Int) ≤ b.e ∧ b.e ≤ (4611686018427387904 : Int)) ∧ true = true ∧ br (Dx.zeroB (oneD a)) (Q (Tv.sv (Sv.agg (dyL true (oneD b))))) (br (Dx.zeroB (oneD b)) (Q (Tv.sv (Sv.agg (dyL true (oneD a))))) ((Dx.Sm (274877906944 : Nat) (oneD a) ∧ Dx.Sm (274877906944 : Nat) (oneD b)) ∧ br ((oneD a).neg == (oneD b).neg) ((List.length (ws (Dx.m (oneD a) * (2 : Int) ^ Int.toNat ((oneD a).e - min (oneD a).e (oneD b).e))) ≤ (17592186044414 : Nat) ∧ List.length (ws (Dx.m (oneD b) * (2 : Int) ^ Int.toNat ((oneD b).e - min (oneD a).e (oneD b).e))) ≤ (17592186044414 : Nat)) ∧ ((-4611686018427387904 : Int) ≤ min (oneD a).e (oneD b).e ∧ min (oneD a).e (oneD b).e ≤ (4611686018427387904 : Int)) ∧ true = true ∧ Q (Tv.sv (Sv.agg (dyL true (mkD (oneD a).neg (val (ws (val (ws (Dx.m (oneD a) * (2 : Int) ^ Int.toNat ((oneD a).e - min (oneD a).e (oneD b).e))) + val (ws (Dx.m (oneD b) * (2 : Int) ^ Int.toNat ((oneD b).e - min (oneD a).e (oneD b).e)))))) (min (oneD a).e (oneD b).e)))))) (br (leI (0 : Int) (cmpI (val (ws (Dx.m (oneD a) * (2 : Int) ^ Int.toNat ((oneD a).e - min (oneD a).e (oneD b).e)))) (val (ws (Dx.m (oneD b) * (2 : Int) ^ Int.toNat ((oneD b).e - min (oneD a).e (oneD b).e)))))) (val (ws (Dx.m (oneD b) * (2 : Int) ^ Int.toNat ((oneD b).e - min (oneD a).e (oneD b).e))) ≤ val (ws (Dx.m (oneD a) * (2 : Int) ^ Int.toNat ((oneD a).e - min (oneD a).e (oneD b).e))) ∧ ((-4611686018427387904 : Int) ≤ min (oneD a).e (oneD b).e ∧ min (oneD a).e (oneD b).e ≤ (4611686018427387904 : Int)) ∧ true = true ∧ Q (Tv.sv (Sv.agg (dyL true (mkD (oneD a).neg (val (ws (val (ws (Dx.m (oneD a) * (2 : Int) ^ Int.toNat ((oneD a).e - min (oneD a).e (oneD b).e))) - val (ws (Dx.m (oneD b) * (2 : Int) ^ Int.toNat ((oneD b).e - min (oneD a).e (oneD b).e)))))) (min (oneD a).e (oneD b).e)))))) (val (ws (Dx.m (oneD a) * (2 : Int) ^ Int.toNat ((oneD a).e - min (oneD a).e (oneD b).e))) ≤ val (ws (Dx.m (oneD b) * (2 : Int) ^ Int.toNat ((oneD b).e - min (oneD a).e (oneD b).e))) ∧ ((-4611686018427387904 : Int) ≤ min (oneD a).e (oneD b).e ∧ min (oneD a).e (oneD b).e ≤ (4611686018427387904 : Int)) ∧ true = true ∧ Q (Tv.sv (Sv.agg (dyL true (mkD (oneD b).neg (val (ws (val (ws (Dx.m (oneD b) * (2 : Int) ^ Int.toNat ((oneD b).e - min (oneD a).e (oneD b).e))) - val (ws (Dx.m (oneD a) * (2 : Int) ^ Int.toNat ((oneD a).e - min (oneD a).e (oneD b).e)))))) (min (oneD a).e (oneD b).e)))))))))) := by kernel_rfl
theorem zeroB_true {d : Dx} : d.zeroB = true ↔ d.m = 0 := by simp [Dx.zeroB]
theorem zeroB_false {d : Dx} : d.zeroB = false ↔ d.m ≠ 0 := by simp [Dx.zeroB]
theorem one_m0 {d : Dx} (h : 0 ≤ d.m) : 0 ≤ (oneD d).m := by
  unfold oneD; rw [mkD_m h]; exact Int.ediv_nonneg h (by have := two_pow_pos (tz d.m); omega)
theorem one_sm {d : Dx} {N : Nat} (hd : 0 ≤ d.m) (h : d.Sm N) : (oneD d).Sm (N + N) := mkD_sm hd h.1 h.2.1 h.2.2
theorem cmpI_ge {a b : Int} : leI 0 (cmpI a b) = true ↔ b ≤ a := by
  rw [leI_true]; unfold cmpI; split
  · omega
  · split <;> omega
theorem rAdd_ok : SpecOk Tryz.prog 101 rAdd :=
  specK_ok (envOk tys_ok sRaw2_ok) mixed Tryz.func101 rfl (by decide) (by decide) fun (a : Dx) ha (b : Dx) hb hp => ⟨fun _ => none, 0, by
    obtain ⟨s1, s2⟩ : Dx.Sm 68719476736 a ∧ Dx.Sm 68719476736 b := hp
    have m1 := one_m0 (Dx.Wf.m0 ha)
    have m2 := one_m0 (Dx.Wf.m0 hb)
    have z1 := one_sm (Dx.Wf.m0 ha) s1
    have z2 := one_sm (Dx.Wf.m0 hb) s2
    have b1 := s1.2
    have b2 := s2.2
    refine (rAdd_vc a b _).mpr ⟨⟨by omega, by omega⟩, ⟨by omega, by omega⟩, rfl, br_intro (fun h => ?_) (fun h => br_intro (fun h' => ?_) fun h' => ?_)⟩
    · show _ = dT (plusX (oneD a) (oneD b))
      rw [plusX, if_pos (zeroB_true.1 h)]
    · show _ = dT (plusX (oneD a) (oneD b))
      rw [plusX, if_neg (zeroB_false.1 h), if_pos (zeroB_true.1 h')]
    · rw [zeroB_false] at h h'
      obtain ⟨X, Y, mn, hX, hY, hmn, pX, pY, lX, lY, mn0, mn1, hsame, hge, hlt⟩ := plus_parts m1 m2 h h' z1 z2
      rw [hX, hY, hmn, val_ws (n := X) (by omega), val_ws (n := Y) (by omega)]
      refine ⟨⟨z1.mono (by omega), z2.mono (by omega)⟩, br_intro (fun e => ?_) fun e => br_intro (fun e' => ?_) fun e' => ?_⟩
      · rw [val_ws (by omega)]
        refine ⟨⟨lX, lY⟩, ⟨mn0, mn1⟩, rfl, ?_⟩
        show _ = dT (plusX (oneD a) (oneD b))
        rw [hsame (by simpa using e)]
      · rw [cmpI_ge] at e'
        rw [val_ws (n := X - Y) (by omega)]
        refine ⟨e', ⟨mn0, mn1⟩, rfl, ?_⟩
        show _ = dT (plusX (oneD a) (oneD b))
        rw [hge (by simpa using e) e']
      · have e' : ¬ Y ≤ X := fun h => by rw [cmpI_ge.2 h] at e'; simp at e'
        rw [val_ws (n := Y - X) (by omega)]
        refine ⟨by omega, ⟨mn0, mn1⟩, rfl, ?_⟩
        show _ = dT (plusX (oneD a) (oneD b))
        rw [hlt (by simpa using e) (by omega)]⟩
def rCut : Spec := specK [.d, .i .i64, .b] fun (d : Dx) (p : Int) (up : Bool) => (some (d.Sm 34359738368 ∧ 0 ≤ p ∧ p ≤ 1099511627776), dT (cutD d p up))
theorem rCut_vc (d : Dx) (p : Int) (up : Bool) (Q : Tv → Prop) : execF ⟨tys, sRaw2⟩ (fun _ => none) 0 Tryz.f108 [.agg (dyL false d), .one (.int .i64 p), .one (.bool up)] Q = (((-4611686018427387904 : Int) ≤ d.e ∧ d.e ≤ (4611686018427387904 : Int)) ∧ inR ((↑(blen (val (oneD d).xs)) : Int) - p) ∧ br (leI ((↑(blen (val (oneD d).xs)) : Int) - p) (0 : Int)) (Q (Tv.sv (Sv.agg (dyL true (oneD d))))) (((0 : Int) ≤ (↑(blen (val (oneD d).xs)) : Int) - p ∧ (↑(blen (val (oneD d).xs)) : Int) - p ≤ (9007199254740992 : Int)) ∧ br (!up == (oneD d).neg) (Word (1 : Int) ∧ (List.length (ws (val (oneD d).xs / (2 : Int) ^ Int.toNat ((↑(blen (val (oneD d).xs)) : Int) - p))) ≤ (17592186044414 : Nat) ∧ List.length (ws (1 : Int)) ≤ (17592186044414 : Nat)) ∧ inR ((oneD d).e + ((↑(blen (val (oneD d).xs)) : Int) - p)) ∧ ((-4611686018427387904 : Int) ≤ (oneD d).e + ((↑(blen (val (oneD d).xs)) : Int) - p) ∧ (oneD d).e + ((↑(blen (val (oneD d).xs)) : Int) - p) ≤ (4611686018427387904 : Int)) ∧ Q (Tv.sv (Sv.agg (dyL true (mkD (oneD d).neg (val (ws (val (ws (val (oneD d).xs / (2 : Int) ^ Int.toNat ((↑(blen (val (oneD d).xs)) : Int) - p))) + val (ws (1 : Int))))) ((oneD d).e + ((↑(blen (val (oneD d).xs)) : Int) - p))))))) (inR ((oneD d).e + ((↑(blen (val (oneD d).xs)) : Int) - p)) ∧ ((-4611686018427387904 : Int) ≤ (oneD d).e + ((↑(blen (val (oneD d).xs)) : Int) - p) ∧ (oneD d).e + ((↑(blen (val (oneD d).xs)) : Int) - p) ≤ (4611686018427387904 : Int)) ∧ Q (Tv.sv (Sv.agg (dyL true (mkD (oneD d).neg (val (ws (val (oneD d).xs / (2 : Int) ^ Int.toNat ((↑(blen (val (oneD d).xs)) : Int) - p)))) ((oneD d).e + ((↑(blen (val (oneD d).xs)) : Int) - p))))))))) := by kernel_rfl
theorem rCut_ok : SpecOk Tryz.prog 108 rCut :=
  specK_ok (envOk tys_ok sRaw2_ok) mixed Tryz.func108 rfl (by decide) (by decide) fun (d : Dx) hd (p : Int) _ (up : Bool) _ hp => ⟨fun _ => none, 0, by
    obtain ⟨s1, p0, p1⟩ : Dx.Sm 34359738368 d ∧ 0 ≤ p ∧ p ≤ 1099511627776 := hp
    have m1 := one_m0 (Dx.Wf.m0 hd)
    obtain ⟨z1, z2, z3⟩ := one_sm (Dx.Wf.m0 hd) s1
    have b1 := s1.2
    refine (rCut_vc d p up _).mpr ?_
    show _ ∧ _
    unfold Dx.m at m1 z1
    generalize hn : ((blen (val (oneD d).xs) : Int) - p) = n
    have hq : 0 ≤ val (oneD d).xs / 2 ^ n.toNat := Int.ediv_nonneg m1 (by have := two_pow_pos n.toNat; omega)
    have hql : (ws (val (oneD d).xs / 2 ^ n.toNat)).length ≤ 1073741825 := ws_blen hq (by
      have := blen_mono (m := val (oneD d).xs / 2 ^ n.toNat) (n := val (oneD d).xs) (Int.ediv_le_self _ m1); omega)
    have goal : cutD d p up = if n ≤ 0 then oneD d else mkD (oneD d).neg (val (oneD d).xs / 2 ^ n.toNat + if up == (oneD d).neg then 0 else 1) ((oneD d).e + n) := by
      rw [← hn]; rfl
    refine ⟨⟨by omega, by omega⟩, ⟨by omega, by omega⟩, br_intro (fun h => ?_) fun h => ⟨⟨by rw [leI_false] at h; omega, by omega⟩, br_intro (fun h' => ?_) fun h' => ?_⟩⟩
    · show _ = dT (cutD d p up)
      rw [goal, if_pos (leI_true.1 h)]
    · rw [val_ws hq, val_ws_one, val_ws (by omega)]
      refine ⟨word_one, ⟨by omega, by simp [ws_one]⟩, ⟨by omega, by omega⟩, ⟨by omega, by omega⟩, ?_⟩
      show _ = dT (cutD d p up)
      rw [goal, if_neg (leI_false.1 h), if_neg (by cases up <;> cases hh : (oneD d).neg <;> simp_all)]
    · rw [val_ws hq]
      refine ⟨⟨by omega, by omega⟩, ⟨by omega, by omega⟩, ?_⟩
      show _ = dT (cutD d p up)
      rw [goal, if_neg (leI_false.1 h), if_pos (by cases up <;> cases hh : (oneD d).neg <;> simp_all), Int.add_zero]⟩
def rCmp : Spec := specK [.d, .d] fun (a : Dx) (b : Dx) => (some (a.Sm 68719476736 ∧ b.Sm 68719476736), iT (cmpD a b))
theorem rCmp_vc (a b : Dx) (Q : Tv → Prop) : execF ⟨tys, sRaw2⟩ (fun _ => none) 0 Tryz.f83 [.agg (dyL false a), .agg (dyL false b)] Q = (true = true ∧ br (ltI (Dx.sgn a) (Dx.sgn b)) (Q (Tv.sv (Sv.one (At.int IntKind.i64 (-1 : Int))))) (br (ltI (Dx.sgn b) (Dx.sgn a)) (Q (Tv.sv (Sv.one (At.int IntKind.i64 (1 : Int))))) (br (eqI (Dx.sgn a) (0 : Int)) (Q (Tv.sv (Sv.one (At.int IntKind.i64 (0 : Int))))) (((-2305843009213693952 : Int) ≤ a.e ∧ a.e ≤ (2305843009213693952 : Int)) ∧ ((-2305843009213693952 : Int) ≤ b.e ∧ b.e ≤ (2305843009213693952 : Int)) ∧ true = true ∧ br (neI (a.e + (↑(blen (Dx.m a)) : Int) - (1 : Int)) (b.e + (↑(blen (Dx.m b)) : Int) - (1 : Int))) (br (ltI (a.e + (↑(blen (Dx.m a)) : Int) - (1 : Int)) (b.e + (↑(blen (Dx.m b)) : Int) - (1 : Int))) (inR ((0 : Int) - Dx.sgn a) ∧ Q (Tv.sv (Sv.one (At.int IntKind.i64 ((0 : Int) - Dx.sgn a))))) (Q (Tv.sv (Sv.one (At.int IntKind.i64 (Dx.sgn a)))))) (((-4611686018427387904 : Int) ≤ a.e ∧ a.e ≤ (4611686018427387904 : Int)) ∧ ((-4611686018427387904 : Int) ≤ b.e ∧ b.e ≤ (4611686018427387904 : Int)) ∧ (Dx.Sm (274877906944 : Nat) (oneD a) ∧ Dx.Sm (274877906944 : Nat) (oneD b)) ∧ true = true ∧ inR (Dx.sgn a * cmpI (val (ws (Dx.m (oneD a) * (2 : Int) ^ Int.toNat ((oneD a).e - min (oneD a).e (oneD b).e)))) (val (ws (Dx.m (oneD b) * (2 : Int) ^ Int.toNat ((oneD b).e - min (oneD a).e (oneD b).e))))) ∧ Q (Tv.sv (Sv.one (At.int IntKind.i64 (Dx.sgn a * cmpI (val (ws (Dx.m (oneD a) * (2 : Int) ^ Int.toNat ((oneD a).e - min (oneD a).e (oneD b).e)))) (val (ws (Dx.m (oneD b) * (2 : Int) ^ Int.toNat ((oneD b).e - min (oneD a).e (oneD b).e))))))))))))) := by kernel_rfl
theorem rCmp_ok : SpecOk Tryz.prog 83 rCmp :=
  specK_ok (envOk tys_ok sRaw2_ok) mixed Tryz.func83 rfl (by decide) (by decide) fun (a : Dx) ha (b : Dx) hb hp => ⟨fun _ => none, 0, by
    obtain ⟨s1, s2⟩ : Dx.Sm 68719476736 a ∧ Dx.Sm 68719476736 b := hp
    have m1 := Dx.Wf.m0 ha
    have m2 := Dx.Wf.m0 hb
    have z1 := one_sm m1 s1
    have z2 := one_sm m2 s2
    have b1 := s1.2
    have b2 := s2.2
    have c1 := sgn_cases (d := a)
    refine (rCmp_vc a b _).mpr ⟨rfl, br_intro (fun h => ?_) fun h => br_intro (fun h' => ?_) fun h' => br_intro (fun h0 => ?_) fun h0 => ?_⟩
    · show _ = iT (cmpD a b)
      rw [cmpD_lt m1 m2 (ltI_true.1 h)]
    · show _ = iT (cmpD a b)
      rw [cmpD_gt m1 m2 (ltI_true.1 h')]
    · rw [ltI_false] at h h'; rw [eqI_true] at h0
      show _ = iT (cmpD a b)
      rw [cmpD_zero m1 m2 h0 (by omega)]
    · rw [ltI_false] at h h'; rw [eqI_false] at h0
      have hs : a.sgn = b.sgn := by omega
      obtain ⟨t1, t2⟩ := cmpD_top m1 m2 hs h0
      refine ⟨⟨by omega, by omega⟩, ⟨by omega, by omega⟩, rfl, br_intro (fun e => br_intro (fun e' => ?_) fun e' => ?_) fun e => ?_⟩
      · refine ⟨⟨by omega, by omega⟩, ?_⟩
        show _ = iT (cmpD a b)
        rw [t1 (ltI_true.1 e'), Int.zero_sub]
      · rw [ltI_false] at e'; rw [neI_true] at e
        show _ = iT (cmpD a b)
        rw [t2 (by omega)]
      · have hm1 := Int.mul_nonneg (one_m0 m1) (show (0 : Int) ≤ 2 ^ ((oneD a).e - min (oneD a).e (oneD b).e).toNat from by have := two_pow_pos ((oneD a).e - min (oneD a).e (oneD b).e).toNat; omega)
        have hm2 := Int.mul_nonneg (one_m0 m2) (show (0 : Int) ≤ 2 ^ ((oneD b).e - min (oneD a).e (oneD b).e).toNat from by have := two_pow_pos ((oneD b).e - min (oneD a).e (oneD b).e).toNat; omega)
        rw [val_ws hm1, val_ws hm2]
        refine ⟨⟨by omega, by omega⟩, ⟨by omega, by omega⟩, ⟨z1.mono (by omega), z2.mono (by omega)⟩, rfl, ?_, ?_⟩
        · generalize (oneD a).m * 2 ^ ((oneD a).e - min (oneD a).e (oneD b).e).toNat = X
          generalize (oneD b).m * 2 ^ ((oneD b).e - min (oneD a).e (oneD b).e).toNat = Y
          have : cmpI X Y = -1 ∨ cmpI X Y = 0 ∨ cmpI X Y = 1 := by unfold cmpI; split <;> (try split) <;> omega
          rcases c1 with c1 | c1 | c1 <;> rcases this with c | c | c <;> rw [c1, c] <;> exact ⟨by omega, by omega⟩
        · show _ = iT (cmpD a b)
          rw [cmpD_one m1 m2 hs h0]⟩
def sRaw3 : List (FuncId × Spec) := [(101, rAdd), (108, rCut), (83, rCmp)] ++ sRaw2
theorem sRaw3_ok : SpecsOk Tryz.prog sRaw3 := ⟨rAdd_ok, rCut_ok, rCmp_ok, sRaw2_ok⟩
def rSub : Spec := specK [.d, .d] fun (a : Dx) (b : Dx) => (some (a.Sm 34359738368 ∧ b.Sm 34359738368), dT (lessD a b))
theorem rSub_vc (a b : Dx) (Q : Tv → Prop) : execF ⟨tys, sRaw3⟩ (fun _ => none) 0 Tryz.f64 [.agg (dyL false a), .agg (dyL false b)] Q = (((-4611686018427387904 : Int) ≤ b.e ∧ b.e ≤ (4611686018427387904 : Int)) ∧ (Dx.Sm (68719476736 : Nat) a ∧ Dx.Sm (68719476736 : Nat) (negD b)) ∧ true = true ∧ Q (Tv.sv (Sv.agg (dyL true (plusD a (negD b)))))) := by kernel_rfl
theorem rSub_ok : SpecOk Tryz.prog 64 rSub :=
  specK_ok (envOk tys_ok sRaw3_ok) mixed Tryz.func64 rfl (by decide) (by decide) fun (a : Dx) ha (b : Dx) hb hp => ⟨fun _ => none, 0, by
    obtain ⟨s1, s2⟩ : Dx.Sm 34359738368 a ∧ Dx.Sm 34359738368 b := hp
    have b2 := s2.2
    exact (rSub_vc a b _).mpr ⟨⟨by omega, by omega⟩, ⟨s1.mono (by omega), (negD_sm s2 (Dx.Wf.m0 hb)).mono (by omega)⟩, rfl, rfl⟩⟩
/-- A quotient of two numbers in their one form, with a bit that tells whether anything was left, cut to p bits. -/
def overX (x y : Dx) (p : Int) (up : Bool) : Dx :=
  if x.m = 0 then ⟨false, [], 0⟩ else
  cutD (mkD (!(x.neg == y.neg)) (stickyM (x.m * 2 ^ (max (p + 2 + blen y.m - blen x.m) 0).toNat / y.m) (decide (x.m * 2 ^ (max (p + 2 + blen y.m - blen x.m) 0).toNat % y.m ≠ 0))) (x.e - y.e - max (p + 2 + blen y.m - blen x.m) 0 - 1)) p up
def overD (a b : Dx) (p : Int) (up : Bool) : Dx := overX (oneD a) (oneD b) p up
theorem blen_mul {m n : Int} (hm : 0 ≤ m) (_ : 0 ≤ n) : blen (m * n) ≤ blen m + blen n := by
  refine blen_le ?_
  rw [Int.pow_add]
  have h1 := blen_lt m
  have h2 := blen_lt n
  have p1 := two_pow_pos (blen m)
  exact Int.lt_of_le_of_lt (Int.mul_le_mul_of_nonneg_left (Int.le_of_lt h2) hm) (Int.mul_lt_mul_of_pos_right h1 (two_pow_pos _))
theorem sticky_blen {q : Int} {b : Bool} (h : 0 ≤ q) : 0 ≤ stickyM q b ∧ blen (stickyM q b) ≤ blen q + 1 := by
  have h1 := blen_lt q
  refine ⟨by unfold stickyM; split <;> omega, blen_le ?_⟩
  rw [Int.pow_succ]
  unfold stickyM; split <;> omega
def rOver : Spec := specK [.d, .d, .i .i64, .b] fun (a : Dx) (b : Dx) (p : Int) (up : Bool) => (some (a.Sm 67108864 ∧ b.Sm 67108864 ∧ b.m ≠ 0 ∧ 0 ≤ p ∧ p ≤ 67108864), dT (overD a b p up))
theorem rOver_vc (a b : Dx) (p : Int) (up : Bool) (Q : Tv → Prop) : execF ⟨tys, sRaw3⟩ (fun _ => none) 0 Tryz.f120 [.agg (dyL false a), .agg (dyL false b), .one (.int .i64 p), .one (.bool up)] Q = (((-4611686018427387904 : Int) ≤ a.e ∧ a.e ≤ (4611686018427387904 : Int)) ∧ ((-4611686018427387904 : Int) ≤ b.e ∧ b.e ≤ (4611686018427387904 : Int)) ∧ true = true ∧ br (Dx.zeroB (oneD a)) (Q (Tv.sv (Sv.agg [At.bool false, At.words true [], At.int IntKind.i64 (0 : Int)]))) (inR (p + (2 : Int)) ∧ inR (p + (2 : Int) + (↑(blen (val (oneD b).xs)) : Int)) ∧ inR (p + (2 : Int) + (↑(blen (val (oneD b).xs)) : Int) - (↑(blen (val (oneD a).xs)) : Int)) ∧ true = true ∧ ((0 : Int) ≤ maxI (p + (2 : Int) + (↑(blen (val (oneD b).xs)) : Int) - (↑(blen (val (oneD a).xs)) : Int)) (0 : Int) ∧ maxI (p + (2 : Int) + (↑(blen (val (oneD b).xs)) : Int) - (↑(blen (val (oneD a).xs)) : Int)) (0 : Int) ≤ (1099511627776 : Int) ∧ List.length (ws (val (oneD a).xs)) ≤ (8796093022208 : Nat)) ∧ ((0 : Int) < val (oneD b).xs ∧ List.length (ws (val (ws (val (oneD a).xs * (2 : Int) ^ Int.toNat (maxI (p + (2 : Int) + (↑(blen (val (oneD b).xs)) : Int) - (↑(blen (val (oneD a).xs)) : Int)) (0 : Int)))))) ≤ (8796093022206 : Nat)) ∧ true = true ∧ inR ((oneD a).e - (oneD b).e) ∧ inR ((oneD a).e - (oneD b).e - maxI (p + (2 : Int) + (↑(blen (val (oneD b).xs)) : Int) - (↑(blen (val (oneD a).xs)) : Int)) (0 : Int)) ∧ (List.length (ws (val (ws (val (ws (val (oneD a).xs * (2 : Int) ^ Int.toNat (maxI (p + (2 : Int) + (↑(blen (val (oneD b).xs)) : Int) - (↑(blen (val (oneD a).xs)) : Int)) (0 : Int)))) / val (oneD b).xs)))) ≤ (8796093022207 : Nat) ∧ (-2305843009213693952 : Int) ≤ (oneD a).e - (oneD b).e - maxI (p + (2 : Int) + (↑(blen (val (oneD b).xs)) : Int) - (↑(blen (val (oneD a).xs)) : Int)) (0 : Int) ∧ (oneD a).e - (oneD b).e - maxI (p + (2 : Int) + (↑(blen (val (oneD b).xs)) : Int) - (↑(blen (val (oneD a).xs)) : Int)) (0 : Int) ≤ (2305843009213693952 : Int)) ∧ (Dx.Sm (34359738368 : Nat) (mkD (!(oneD a).neg == (oneD b).neg) (stickyM (val (ws (val (ws (val (oneD a).xs * (2 : Int) ^ Int.toNat (maxI (p + (2 : Int) + (↑(blen (val (oneD b).xs)) : Int) - (↑(blen (val (oneD a).xs)) : Int)) (0 : Int)))) / val (oneD b).xs))) (ltI (0 : Int) (↑(List.length (ws (val (ws (val (oneD a).xs * (2 : Int) ^ Int.toNat (maxI (p + (2 : Int) + (↑(blen (val (oneD b).xs)) : Int) - (↑(blen (val (oneD a).xs)) : Int)) (0 : Int)))) % val (oneD b).xs))) : Int))) ((oneD a).e - (oneD b).e - maxI (p + (2 : Int) + (↑(blen (val (oneD b).xs)) : Int) - (↑(blen (val (oneD a).xs)) : Int)) (0 : Int) - (1 : Int))) ∧ (0 : Int) ≤ p ∧ p ≤ (1099511627776 : Int)) ∧ Q (Tv.sv (Sv.agg (dyL true (cutD (mkD (!(oneD a).neg == (oneD b).neg) (stickyM (val (ws (val (ws (val (oneD a).xs * (2 : Int) ^ Int.toNat (maxI (p + (2 : Int) + (↑(blen (val (oneD b).xs)) : Int) - (↑(blen (val (oneD a).xs)) : Int)) (0 : Int)))) / val (oneD b).xs))) (ltI (0 : Int) (↑(List.length (ws (val (ws (val (oneD a).xs * (2 : Int) ^ Int.toNat (maxI (p + (2 : Int) + (↑(blen (val (oneD b).xs)) : Int) - (↑(blen (val (oneD a).xs)) : Int)) (0 : Int)))) % val (oneD b).xs))) : Int))) ((oneD a).e - (oneD b).e - maxI (p + (2 : Int) + (↑(blen (val (oneD b).xs)) : Int) - (↑(blen (val (oneD a).xs)) : Int)) (0 : Int) - (1 : Int))) p up)))))) := by kernel_rfl
theorem rOver_ok : SpecOk Tryz.prog 120 rOver :=
  specK_ok (envOk tys_ok sRaw3_ok) mixed Tryz.func120 rfl (by decide) (by decide) fun (a : Dx) ha (b : Dx) hb (p : Int) _ (up : Bool) _ hp => ⟨fun _ => none, 0, by
    obtain ⟨s1, s2, hb0, p0, p1⟩ : Dx.Sm 67108864 a ∧ Dx.Sm 67108864 b ∧ Dx.m b ≠ 0 ∧ 0 ≤ p ∧ p ≤ 67108864 := hp
    have m1 := one_m0 (Dx.Wf.m0 ha)
    have m2 := one_m0 (Dx.Wf.m0 hb)
    have m2p : 0 < (oneD b).m := by have := (one_m_zero (Dx.Wf.m0 hb)).1; omega
    have z1 := one_sm (Dx.Wf.m0 ha) s1
    have z2 := one_sm (Dx.Wf.m0 hb) s2
    have b1 := s1.2
    have b2 := s2.2
    show execF _ _ _ _ _ (fun t => t = dT (overX (oneD a) (oneD b) p up))
    refine (rOver_vc a b p up _).mpr ⟨⟨by omega, by omega⟩, ⟨by omega, by omega⟩, rfl, ?_⟩
    generalize oneD a = x at *
    generalize oneD b = y at *
    refine br_intro (fun h => ?_) fun h => ?_
    · rw [overX, if_pos (zeroB_true.1 h)]; rfl
    · rw [zeroB_false] at h
      rw [overX, if_neg h]
      obtain ⟨s3, s4, s5⟩ := z1
      obtain ⟨s6, s7, s8⟩ := z2
      unfold Dx.m at *
      generalize val x.xs = X at *
      generalize val y.xs = Y at *
      rw [maxI_eq]
      generalize hk : max (p + 2 + (blen Y : Int) - (blen X : Int)) 0 = k
      have k0 : 0 ≤ k := by omega
      have k1 : k ≤ 201326596 := by omega
      have hM : 0 ≤ X * 2 ^ k.toNat := Int.mul_nonneg m1 (by have := two_pow_pos k.toNat; omega)
      have hMb : blen (X * 2 ^ k.toNat) ≤ 335544324 := by rw [blen_mul_pow (by omega)]; omega
      have hQ : 0 ≤ X * 2 ^ k.toNat / Y := Int.ediv_nonneg hM m2
      have hQb := blen_mono (m := X * 2 ^ k.toNat / Y) (n := X * 2 ^ k.toNat) (Int.ediv_le_self _ hM)
      have hR : 0 ≤ X * 2 ^ k.toNat % Y := Int.emod_nonneg _ (by omega)
      rw [val_ws hM, val_ws hQ, len_pos hR]
      have l1 := ws_blen (n := X) (k := 8796093022206) m1 (by omega)
      have l2 := ws_blen (k := 8796093022206) hM (by omega)
      have l3 := ws_blen (k := 8796093022206) hQ (by omega)
      obtain ⟨t1, t2⟩ := sticky_blen (b := decide (X * 2 ^ k.toNat % Y ≠ 0)) hQ
      refine ⟨⟨by omega, by omega⟩, ⟨by omega, by omega⟩, ⟨by omega, by omega⟩, rfl, ⟨by omega, by omega, by omega⟩, ⟨m2p, by omega⟩, rfl, ⟨by omega, by omega⟩, ⟨by omega, by omega⟩, ⟨by omega, by omega, by omega⟩, ⟨?_, by omega, by omega⟩, rfl⟩
      exact (mkD_sm (N := 1073741824) (M := 1073741824) t1 (by omega) (by omega) (by omega)).mono (by omega)⟩
theorem and_mask3 (n : Int) : bitsI .and .i64 n 3 = n % 4 := by
  have h1 : (BitVec.ofInt 64 3).toNat = 2 ^ 2 - 1 := by decide
  have key : (BitVec.ofInt 64 n &&& BitVec.ofInt 64 3).toNat = (n % ((2 ^ 64 : Nat) : Int)).toNat % 2 ^ 2 := by
    rw [BitVec.toNat_and, BitVec.toNat_ofInt, h1, Nat.and_two_pow_sub_one_eq_mod]
  show IntKind.i64.wrap ((BitVec.ofInt 64 n &&& BitVec.ofInt 64 3).toNat : Nat) = n % 4
  rw [key, IntKind.wrap_i64]
  omega
def sRaw4 : List (FuncId × Spec) := [(64, rSub), (120, rOver)] ++ sRaw3
theorem sRaw4_ok : SpecsOk Tryz.prog sRaw4 := ⟨rSub_ok, rOver_ok, sRaw3_ok⟩
end Go.Proofs.YtdnbckfhfhfkoaaGreatDoor

namespace Go.Proofs.YtdnbckfhfhfkoaaGreatDoor
open Go.RowKit
/-- A word told by patterns, out of its function's run. -/
theorem specOk_at {P : Program} {E : Env} (hE : EnvOk P E) (hm : P.follows .mixedOrders = true) {f : FuncId} {fn : Func} {c : Code} (hf : P.funcs[f]? = some fn) (hb : fn.body = some c) (hname : (fn.name == "runtime.NumGoroutine") = false) {sp : Spec} (k : Nat) (hk : k ≤ fn.ntmps)
    (h : ∀ l p t, sp l = (p, t) → (match p with | none => True | some p => p) → l.length ≤ k ∧ ∃ inv fuel, execF E inv fuel fn l (fun x => x = t)) : SpecOk P f sp :=
  specOk_of hE hm hf hb hname k hk fun l hp => h l (sp l).1 (sp l).2 rfl hp
def vF (v : Vx) : Tv := .sv (.agg (ivL false v))
/-- An interval widened to hold a number. -/
def spanS (v : Vx) (d : Dx) : Vx := ⟨if cmpD d v.lo < 0 then d else v.lo, if 0 < cmpD d v.hi then d else v.hi⟩
def Vx.Sm (N : Nat) (v : Vx) : Prop := v.lo.Sm N ∧ v.hi.Sm N
theorem spanS_sm {N : Nat} {v : Vx} {d : Dx} (h : v.Sm N) (k : d.Sm N) : (spanS v d).Sm N := by
  unfold spanS
  constructor
  · show Dx.Sm N (if _ then _ else _); split <;> first | exact k | exact h.1
  · show Dx.Sm N (if _ then _ else _); split <;> first | exact k | exact h.2
def spanL (a : Dx) (l : List Dx) : Vx := l.foldl spanS ⟨a, a⟩
def spK : LKeep := ⟨[14, 15, 16, 3, 2], [(0, 6), (8, 6)], 14⟩
def spSt (n : Nat) (cs : List At) (j : Int) (v : Vx) : List (Nat × Tv) × List (Nat × Nat × At) :=
  ([(14, .sv (.one (.rows false 3 n cs))), (15, iT n), (16, iT j), (3, .sv (.one (.ptr 8 0))), (2, .sv (.one (.ptr 0 0)))],
   [(0, 0, .bool false), (0, 1, .words true []), (0, 2, .int .i64 0), (0, 3, .bool false), (0, 4, .words true []), (0, 5, .int .i64 0), (8, 0, .bool v.lo.neg), (8, 1, .words false v.lo.xs), (8, 2, .int .i64 v.lo.e), (8, 3, .bool v.hi.neg), (8, 4, .words false v.hi.xs), (8, 5, .int .i64 v.hi.e)])
theorem rSpan2_vc (a b : Dx) (Q : Tv → Prop) : execF ⟨tys, sRaw4⟩ (invAt 3 (.cuts spK [spSt 1 (dyL false b) 0 ⟨a, a⟩, spSt 1 (dyL false b) 1 (spanS ⟨a, a⟩ b)])) 0 Tryz.f119 [.one (.rows false 3 2 (dyL false a ++ dyL false b))] Q = (((0 : Int) ≤ (0 : Int) ∧ (0 : Int) < (↑(2 : Nat) : Int)) ∧   ((0 : Int) ≤ (0 : Int) ∧ (0 : Int) < (↑(2 : Nat) : Int)) ∧     true = true ∧       ((0 : Int) ≤ (1 : Int) ∧ (1 : Int) < (↑(2 : Nat) : Int)) ∧         true = true ∧           Sg.mk [((14 : Nat), Tv.sv (Sv.one (At.rows false (3 : Nat) (1 : Nat) (dyL false b)))), ((15 : Nat), Tv.sv (Sv.one (At.int IntKind.i64 (↑(1 : Nat) : Int)))), ((16 : Nat), Tv.sv (Sv.one (At.int IntKind.i64 (0 : Int)))), ((3 : Nat), Tv.sv (Sv.one (At.ptr ((1 : Nat) + (7 : Nat)) (0 : Nat)))), ((2 : Nat), Tv.sv (Sv.one (At.ptr (0 : Nat) (0 : Nat))))] [((0 : Nat), (0 : Nat), At.bool false), ((0 : Nat), (1 : Nat), At.words true []), ((0 : Nat), (2 : Nat), At.int IntKind.i64 (0 : Int)), ((0 : Nat), (3 : Nat), At.bool false), ((0 : Nat), (4 : Nat), At.words true []), ((0 : Nat), (5 : Nat), At.int IntKind.i64 (0 : Int)), ((8 : Nat), (0 : Nat), At.bool a.neg), ((8 : Nat), (1 : Nat), At.words false a.xs), ((8 : Nat), (2 : Nat), At.int IntKind.i64 a.e), ((8 : Nat), (3 : Nat), At.bool a.neg), ((8 : Nat), (4 : Nat), At.words false a.xs), ((8 : Nat), (5 : Nat), At.int IntKind.i64 a.e)] (14 : Nat) = Sg.mk [((14 : Nat), Tv.sv (Sv.one (At.rows false (3 : Nat) (1 : Nat) (dyL false b)))), ((15 : Nat), Tv.sv (Sv.one (At.int IntKind.i64 (↑(1 : Nat) : Int)))), ((16 : Nat), Tv.sv (Sv.one (At.int IntKind.i64 (0 : Int)))), ((3 : Nat), Tv.sv (Sv.one (At.ptr (8 : Nat) (0 : Nat)))), ((2 : Nat), Tv.sv (Sv.one (At.ptr (0 : Nat) (0 : Nat))))] [((0 : Nat), (0 : Nat), At.bool false), ((0 : Nat), (1 : Nat), At.words true []), ((0 : Nat), (2 : Nat), At.int IntKind.i64 (0 : Int)), ((0 : Nat), (3 : Nat), At.bool false), ((0 : Nat), (4 : Nat), At.words true []), ((0 : Nat), (5 : Nat), At.int IntKind.i64 (0 : Int)), ((8 : Nat), (0 : Nat), At.bool a.neg), ((8 : Nat), (1 : Nat), At.words false a.xs), ((8 : Nat), (2 : Nat), At.int IntKind.i64 a.e), ((8 : Nat), (3 : Nat), At.bool a.neg), ((8 : Nat), (4 : Nat), At.words false a.xs), ((8 : Nat), (5 : Nat), At.int IntKind.i64 a.e)] (14 : Nat) ∧             (((0 : Int) ≤ (0 : Int) ∧ (0 : Int) < (↑(1 : Nat) : Int)) ∧                 (Dx.Sm (68719476736 : Nat) b ∧ Dx.Sm (68719476736 : Nat) a) ∧                   br (ltI (cmpD b a) (0 : Int))                     ((Dx.Sm (68719476736 : Nat) b ∧ Dx.Sm (68719476736 : Nat) a) ∧                       br (ltI (0 : Int) (cmpD b a)) (inR ((0 : Int) + (1 : Int)) ∧ true = true ∧ Sg.mk [((14 : Nat), Tv.sv (Sv.one (At.rows false (3 : Nat) (1 : Nat) (dyL false b)))), ((15 : Nat), Tv.sv (Sv.one (At.int IntKind.i64 (↑(1 : Nat) : Int)))), ((16 : Nat), Tv.sv (Sv.one (At.int IntKind.i64 ((0 : Int) + (1 : Int))))), ((3 : Nat), Tv.sv (Sv.one (At.ptr (8 : Nat) (0 : Nat)))), ((2 : Nat), Tv.sv (Sv.one (At.ptr (0 : Nat) (0 : Nat))))] [((0 : Nat), (0 : Nat), At.bool false), ((0 : Nat), (1 : Nat), At.words true []), ((0 : Nat), (2 : Nat), At.int IntKind.i64 (0 : Int)), ((0 : Nat), (3 : Nat), At.bool false), ((0 : Nat), (4 : Nat), At.words true []), ((0 : Nat), (5 : Nat), At.int IntKind.i64 (0 : Int)), ((8 : Nat), (0 : Nat), At.bool b.neg), ((8 : Nat), (1 : Nat), At.words false b.xs), ((8 : Nat), (2 : Nat), At.int IntKind.i64 b.e), ((8 : Nat), (3 : Nat), At.bool b.neg), ((8 : Nat), (4 : Nat), At.words false b.xs), ((8 : Nat), (5 : Nat), At.int IntKind.i64 b.e)] (14 : Nat) = Sg.mk [((14 : Nat), Tv.sv (Sv.one (At.rows false (3 : Nat) (1 : Nat) (dyL false b)))), ((15 : Nat), Tv.sv (Sv.one (At.int IntKind.i64 (↑(1 : Nat) : Int)))), ((16 : Nat), Tv.sv (Sv.one (At.int IntKind.i64 (1 : Int)))), ((3 : Nat), Tv.sv (Sv.one (At.ptr (8 : Nat) (0 : Nat)))), ((2 : Nat), Tv.sv (Sv.one (At.ptr (0 : Nat) (0 : Nat))))] [((0 : Nat), (0 : Nat), At.bool false), ((0 : Nat), (1 : Nat), At.words true []), ((0 : Nat), (2 : Nat), At.int IntKind.i64 (0 : Int)), ((0 : Nat), (3 : Nat), At.bool false), ((0 : Nat), (4 : Nat), At.words true []), ((0 : Nat), (5 : Nat), At.int IntKind.i64 (0 : Int)), ((8 : Nat), (0 : Nat), At.bool (spanS (Vx.mk a a) b).lo.neg), ((8 : Nat), (1 : Nat), At.words false (spanS (Vx.mk a a) b).lo.xs), ((8 : Nat), (2 : Nat), At.int IntKind.i64 (spanS (Vx.mk a a) b).lo.e), ((8 : Nat), (3 : Nat), At.bool (spanS (Vx.mk a a) b).hi.neg), ((8 : Nat), (4 : Nat), At.words false (spanS (Vx.mk a a) b).hi.xs), ((8 : Nat), (5 : Nat), At.int IntKind.i64 (spanS (Vx.mk a a) b).hi.e)] (14 : Nat)) (inR ((0 : Int) + (1 : Int)) ∧ true = true ∧ Sg.mk [((14 : Nat), Tv.sv (Sv.one (At.rows false (3 : Nat) (1 : Nat) (dyL false b)))), ((15 : Nat), Tv.sv (Sv.one (At.int IntKind.i64 (↑(1 : Nat) : Int)))), ((16 : Nat), Tv.sv (Sv.one (At.int IntKind.i64 ((0 : Int) + (1 : Int))))), ((3 : Nat), Tv.sv (Sv.one (At.ptr (8 : Nat) (0 : Nat)))), ((2 : Nat), Tv.sv (Sv.one (At.ptr (0 : Nat) (0 : Nat))))] [((0 : Nat), (0 : Nat), At.bool false), ((0 : Nat), (1 : Nat), At.words true []), ((0 : Nat), (2 : Nat), At.int IntKind.i64 (0 : Int)), ((0 : Nat), (3 : Nat), At.bool false), ((0 : Nat), (4 : Nat), At.words true []), ((0 : Nat), (5 : Nat), At.int IntKind.i64 (0 : Int)), ((8 : Nat), (0 : Nat), At.bool b.neg), ((8 : Nat), (1 : Nat), At.words false b.xs), ((8 : Nat), (2 : Nat), At.int IntKind.i64 b.e), ((8 : Nat), (3 : Nat), At.bool a.neg), ((8 : Nat), (4 : Nat), At.words false a.xs), ((8 : Nat), (5 : Nat), At.int IntKind.i64 a.e)] (14 : Nat) = Sg.mk [((14 : Nat), Tv.sv (Sv.one (At.rows false (3 : Nat) (1 : Nat) (dyL false b)))), ((15 : Nat), Tv.sv (Sv.one (At.int IntKind.i64 (↑(1 : Nat) : Int)))), ((16 : Nat), Tv.sv (Sv.one (At.int IntKind.i64 (1 : Int)))), ((3 : Nat), Tv.sv (Sv.one (At.ptr (8 : Nat) (0 : Nat)))), ((2 : Nat), Tv.sv (Sv.one (At.ptr (0 : Nat) (0 : Nat))))] [((0 : Nat), (0 : Nat), At.bool false), ((0 : Nat), (1 : Nat), At.words true []), ((0 : Nat), (2 : Nat), At.int IntKind.i64 (0 : Int)), ((0 : Nat), (3 : Nat), At.bool false), ((0 : Nat), (4 : Nat), At.words true []), ((0 : Nat), (5 : Nat), At.int IntKind.i64 (0 : Int)), ((8 : Nat), (0 : Nat), At.bool (spanS (Vx.mk a a) b).lo.neg), ((8 : Nat), (1 : Nat), At.words false (spanS (Vx.mk a a) b).lo.xs), ((8 : Nat), (2 : Nat), At.int IntKind.i64 (spanS (Vx.mk a a) b).lo.e), ((8 : Nat), (3 : Nat), At.bool (spanS (Vx.mk a a) b).hi.neg), ((8 : Nat), (4 : Nat), At.words false (spanS (Vx.mk a a) b).hi.xs), ((8 : Nat), (5 : Nat), At.int IntKind.i64 (spanS (Vx.mk a a) b).hi.e)] (14 : Nat)))                     ((Dx.Sm (68719476736 : Nat) b ∧ Dx.Sm (68719476736 : Nat) a) ∧                       br (ltI (0 : Int) (cmpD b a)) (inR ((0 : Int) + (1 : Int)) ∧ true = true ∧ Sg.mk [((14 : Nat), Tv.sv (Sv.one (At.rows false (3 : Nat) (1 : Nat) (dyL false b)))), ((15 : Nat), Tv.sv (Sv.one (At.int IntKind.i64 (↑(1 : Nat) : Int)))), ((16 : Nat), Tv.sv (Sv.one (At.int IntKind.i64 ((0 : Int) + (1 : Int))))), ((3 : Nat), Tv.sv (Sv.one (At.ptr (8 : Nat) (0 : Nat)))), ((2 : Nat), Tv.sv (Sv.one (At.ptr (0 : Nat) (0 : Nat))))] [((0 : Nat), (0 : Nat), At.bool false), ((0 : Nat), (1 : Nat), At.words true []), ((0 : Nat), (2 : Nat), At.int IntKind.i64 (0 : Int)), ((0 : Nat), (3 : Nat), At.bool false), ((0 : Nat), (4 : Nat), At.words true []), ((0 : Nat), (5 : Nat), At.int IntKind.i64 (0 : Int)), ((8 : Nat), (0 : Nat), At.bool a.neg), ((8 : Nat), (1 : Nat), At.words false a.xs), ((8 : Nat), (2 : Nat), At.int IntKind.i64 a.e), ((8 : Nat), (3 : Nat), At.bool b.neg), ((8 : Nat), (4 : Nat), At.words false b.xs), ((8 : Nat), (5 : Nat), At.int IntKind.i64 b.e)] (14 : Nat) = Sg.mk [((14 : Nat), Tv.sv (Sv.one (At.rows false (3 : Nat) (1 : Nat) (dyL false b)))), ((15 : Nat), Tv.sv (Sv.one (At.int IntKind.i64 (↑(1 : Nat) : Int)))), ((16 : Nat), Tv.sv (Sv.one (At.int IntKind.i64 (1 : Int)))), ((3 : Nat), Tv.sv (Sv.one (At.ptr (8 : Nat) (0 : Nat)))), ((2 : Nat), Tv.sv (Sv.one (At.ptr (0 : Nat) (0 : Nat))))] [((0 : Nat), (0 : Nat), At.bool false), ((0 : Nat), (1 : Nat), At.words true []), ((0 : Nat), (2 : Nat), At.int IntKind.i64 (0 : Int)), ((0 : Nat), (3 : Nat), At.bool false), ((0 : Nat), (4 : Nat), At.words true []), ((0 : Nat), (5 : Nat), At.int IntKind.i64 (0 : Int)), ((8 : Nat), (0 : Nat), At.bool (spanS (Vx.mk a a) b).lo.neg), ((8 : Nat), (1 : Nat), At.words false (spanS (Vx.mk a a) b).lo.xs), ((8 : Nat), (2 : Nat), At.int IntKind.i64 (spanS (Vx.mk a a) b).lo.e), ((8 : Nat), (3 : Nat), At.bool (spanS (Vx.mk a a) b).hi.neg), ((8 : Nat), (4 : Nat), At.words false (spanS (Vx.mk a a) b).hi.xs), ((8 : Nat), (5 : Nat), At.int IntKind.i64 (spanS (Vx.mk a a) b).hi.e)] (14 : Nat)) (inR ((0 : Int) + (1 : Int)) ∧ true = true ∧ Sg.mk [((14 : Nat), Tv.sv (Sv.one (At.rows false (3 : Nat) (1 : Nat) (dyL false b)))), ((15 : Nat), Tv.sv (Sv.one (At.int IntKind.i64 (↑(1 : Nat) : Int)))), ((16 : Nat), Tv.sv (Sv.one (At.int IntKind.i64 ((0 : Int) + (1 : Int))))), ((3 : Nat), Tv.sv (Sv.one (At.ptr (8 : Nat) (0 : Nat)))), ((2 : Nat), Tv.sv (Sv.one (At.ptr (0 : Nat) (0 : Nat))))] [((0 : Nat), (0 : Nat), At.bool false), ((0 : Nat), (1 : Nat), At.words true []), ((0 : Nat), (2 : Nat), At.int IntKind.i64 (0 : Int)), ((0 : Nat), (3 : Nat), At.bool false), ((0 : Nat), (4 : Nat), At.words true []), ((0 : Nat), (5 : Nat), At.int IntKind.i64 (0 : Int)), ((8 : Nat), (0 : Nat), At.bool a.neg), ((8 : Nat), (1 : Nat), At.words false a.xs), ((8 : Nat), (2 : Nat), At.int IntKind.i64 a.e), ((8 : Nat), (3 : Nat), At.bool a.neg), ((8 : Nat), (4 : Nat), At.words false a.xs), ((8 : Nat), (5 : Nat), At.int IntKind.i64 a.e)] (14 : Nat) = Sg.mk [((14 : Nat), Tv.sv (Sv.one (At.rows false (3 : Nat) (1 : Nat) (dyL false b)))), ((15 : Nat), Tv.sv (Sv.one (At.int IntKind.i64 (↑(1 : Nat) : Int)))), ((16 : Nat), Tv.sv (Sv.one (At.int IntKind.i64 (1 : Int)))), ((3 : Nat), Tv.sv (Sv.one (At.ptr (8 : Nat) (0 : Nat)))), ((2 : Nat), Tv.sv (Sv.one (At.ptr (0 : Nat) (0 : Nat))))] [((0 : Nat), (0 : Nat), At.bool false), ((0 : Nat), (1 : Nat), At.words true []), ((0 : Nat), (2 : Nat), At.int IntKind.i64 (0 : Int)), ((0 : Nat), (3 : Nat), At.bool false), ((0 : Nat), (4 : Nat), At.words true []), ((0 : Nat), (5 : Nat), At.int IntKind.i64 (0 : Int)), ((8 : Nat), (0 : Nat), At.bool (spanS (Vx.mk a a) b).lo.neg), ((8 : Nat), (1 : Nat), At.words false (spanS (Vx.mk a a) b).lo.xs), ((8 : Nat), (2 : Nat), At.int IntKind.i64 (spanS (Vx.mk a a) b).lo.e), ((8 : Nat), (3 : Nat), At.bool (spanS (Vx.mk a a) b).hi.neg), ((8 : Nat), (4 : Nat), At.words false (spanS (Vx.mk a a) b).hi.xs), ((8 : Nat), (5 : Nat), At.int IntKind.i64 (spanS (Vx.mk a a) b).hi.e)] (14 : Nat)))) ∧               Q (Tv.sv (Sv.agg (ivL false (spanS (Vx.mk a a) b)))) ∧ True) := by kernel_rfl
theorem rSpan4_vc (a b c d : Dx) (v1 v2 v3 : Vx) (Q : Tv → Prop) : execF ⟨tys, sRaw4⟩ (invAt 3 (.cuts spK [spSt 3 (dyL false b ++ (dyL false c ++ dyL false d)) 0 ⟨a, a⟩, spSt 3 (dyL false b ++ (dyL false c ++ dyL false d)) 1 v1, spSt 3 (dyL false b ++ (dyL false c ++ dyL false d)) 2 v2, spSt 3 (dyL false b ++ (dyL false c ++ dyL false d)) 3 v3])) 0 Tryz.f119 [.one (.rows false 3 4 (dyL false a ++ (dyL false b ++ (dyL false c ++ dyL false d))))] Q = (((0 : Int) ≤ (0 : Int) ∧ (0 : Int) < (↑(4 : Nat) : Int)) ∧   ((0 : Int) ≤ (0 : Int) ∧ (0 : Int) < (↑(4 : Nat) : Int)) ∧     true = true ∧       ((0 : Int) ≤ (1 : Int) ∧ (1 : Int) < (↑(4 : Nat) : Int)) ∧         true = true ∧           Sg.mk [((14 : Nat), Tv.sv (Sv.one (At.rows false (3 : Nat) (3 : Nat) (At.bool b.neg :: At.words false b.xs :: At.int IntKind.i64 b.e :: ivL false (Vx.mk c d))))), ((15 : Nat), Tv.sv (Sv.one (At.int IntKind.i64 (↑(3 : Nat) : Int)))), ((16 : Nat), Tv.sv (Sv.one (At.int IntKind.i64 (0 : Int)))), ((3 : Nat), Tv.sv (Sv.one (At.ptr ((1 : Nat) + (7 : Nat)) (0 : Nat)))), ((2 : Nat), Tv.sv (Sv.one (At.ptr (0 : Nat) (0 : Nat))))] [((0 : Nat), (0 : Nat), At.bool false), ((0 : Nat), (1 : Nat), At.words true []), ((0 : Nat), (2 : Nat), At.int IntKind.i64 (0 : Int)), ((0 : Nat), (3 : Nat), At.bool false), ((0 : Nat), (4 : Nat), At.words true []), ((0 : Nat), (5 : Nat), At.int IntKind.i64 (0 : Int)), ((8 : Nat), (0 : Nat), At.bool a.neg), ((8 : Nat), (1 : Nat), At.words false a.xs), ((8 : Nat), (2 : Nat), At.int IntKind.i64 a.e), ((8 : Nat), (3 : Nat), At.bool a.neg), ((8 : Nat), (4 : Nat), At.words false a.xs), ((8 : Nat), (5 : Nat), At.int IntKind.i64 a.e)] (14 : Nat) = Sg.mk [((14 : Nat), Tv.sv (Sv.one (At.rows false (3 : Nat) (3 : Nat) (At.bool b.neg :: At.words false b.xs :: At.int IntKind.i64 b.e :: ivL false (Vx.mk c d))))), ((15 : Nat), Tv.sv (Sv.one (At.int IntKind.i64 (↑(3 : Nat) : Int)))), ((16 : Nat), Tv.sv (Sv.one (At.int IntKind.i64 (0 : Int)))), ((3 : Nat), Tv.sv (Sv.one (At.ptr (8 : Nat) (0 : Nat)))), ((2 : Nat), Tv.sv (Sv.one (At.ptr (0 : Nat) (0 : Nat))))] [((0 : Nat), (0 : Nat), At.bool false), ((0 : Nat), (1 : Nat), At.words true []), ((0 : Nat), (2 : Nat), At.int IntKind.i64 (0 : Int)), ((0 : Nat), (3 : Nat), At.bool false), ((0 : Nat), (4 : Nat), At.words true []), ((0 : Nat), (5 : Nat), At.int IntKind.i64 (0 : Int)), ((8 : Nat), (0 : Nat), At.bool a.neg), ((8 : Nat), (1 : Nat), At.words false a.xs), ((8 : Nat), (2 : Nat), At.int IntKind.i64 a.e), ((8 : Nat), (3 : Nat), At.bool a.neg), ((8 : Nat), (4 : Nat), At.words false a.xs), ((8 : Nat), (5 : Nat), At.int IntKind.i64 a.e)] (14 : Nat) ∧             (((0 : Int) ≤ (0 : Int) ∧ (0 : Int) < (↑(3 : Nat) : Int)) ∧                 (Dx.Sm (68719476736 : Nat) b ∧ Dx.Sm (68719476736 : Nat) a) ∧                   br (ltI (cmpD b a) (0 : Int))                     ((Dx.Sm (68719476736 : Nat) b ∧ Dx.Sm (68719476736 : Nat) a) ∧                       br (ltI (0 : Int) (cmpD b a)) (inR ((0 : Int) + (1 : Int)) ∧ true = true ∧ Sg.mk [((14 : Nat), Tv.sv (Sv.one (At.rows false (3 : Nat) (3 : Nat) (At.bool b.neg :: At.words false b.xs :: At.int IntKind.i64 b.e :: ivL false (Vx.mk c d))))), ((15 : Nat), Tv.sv (Sv.one (At.int IntKind.i64 (↑(3 : Nat) : Int)))), ((16 : Nat), Tv.sv (Sv.one (At.int IntKind.i64 ((0 : Int) + (1 : Int))))), ((3 : Nat), Tv.sv (Sv.one (At.ptr (8 : Nat) (0 : Nat)))), ((2 : Nat), Tv.sv (Sv.one (At.ptr (0 : Nat) (0 : Nat))))] [((0 : Nat), (0 : Nat), At.bool false), ((0 : Nat), (1 : Nat), At.words true []), ((0 : Nat), (2 : Nat), At.int IntKind.i64 (0 : Int)), ((0 : Nat), (3 : Nat), At.bool false), ((0 : Nat), (4 : Nat), At.words true []), ((0 : Nat), (5 : Nat), At.int IntKind.i64 (0 : Int)), ((8 : Nat), (0 : Nat), At.bool b.neg), ((8 : Nat), (1 : Nat), At.words false b.xs), ((8 : Nat), (2 : Nat), At.int IntKind.i64 b.e), ((8 : Nat), (3 : Nat), At.bool b.neg), ((8 : Nat), (4 : Nat), At.words false b.xs), ((8 : Nat), (5 : Nat), At.int IntKind.i64 b.e)] (14 : Nat) = Sg.mk [((14 : Nat), Tv.sv (Sv.one (At.rows false (3 : Nat) (3 : Nat) (At.bool b.neg :: At.words false b.xs :: At.int IntKind.i64 b.e :: ivL false (Vx.mk c d))))), ((15 : Nat), Tv.sv (Sv.one (At.int IntKind.i64 (↑(3 : Nat) : Int)))), ((16 : Nat), Tv.sv (Sv.one (At.int IntKind.i64 (1 : Int)))), ((3 : Nat), Tv.sv (Sv.one (At.ptr (8 : Nat) (0 : Nat)))), ((2 : Nat), Tv.sv (Sv.one (At.ptr (0 : Nat) (0 : Nat))))] [((0 : Nat), (0 : Nat), At.bool false), ((0 : Nat), (1 : Nat), At.words true []), ((0 : Nat), (2 : Nat), At.int IntKind.i64 (0 : Int)), ((0 : Nat), (3 : Nat), At.bool false), ((0 : Nat), (4 : Nat), At.words true []), ((0 : Nat), (5 : Nat), At.int IntKind.i64 (0 : Int)), ((8 : Nat), (0 : Nat), At.bool v1.lo.neg), ((8 : Nat), (1 : Nat), At.words false v1.lo.xs), ((8 : Nat), (2 : Nat), At.int IntKind.i64 v1.lo.e), ((8 : Nat), (3 : Nat), At.bool v1.hi.neg), ((8 : Nat), (4 : Nat), At.words false v1.hi.xs), ((8 : Nat), (5 : Nat), At.int IntKind.i64 v1.hi.e)] (14 : Nat))                         (inR ((0 : Int) + (1 : Int)) ∧ true = true ∧ Sg.mk [((14 : Nat), Tv.sv (Sv.one (At.rows false (3 : Nat) (3 : Nat) (At.bool b.neg :: At.words false b.xs :: At.int IntKind.i64 b.e :: ivL false (Vx.mk c d))))), ((15 : Nat), Tv.sv (Sv.one (At.int IntKind.i64 (↑(3 : Nat) : Int)))), ((16 : Nat), Tv.sv (Sv.one (At.int IntKind.i64 ((0 : Int) + (1 : Int))))), ((3 : Nat), Tv.sv (Sv.one (At.ptr (8 : Nat) (0 : Nat)))), ((2 : Nat), Tv.sv (Sv.one (At.ptr (0 : Nat) (0 : Nat))))] [((0 : Nat), (0 : Nat), At.bool false), ((0 : Nat), (1 : Nat), At.words true []), ((0 : Nat), (2 : Nat), At.int IntKind.i64 (0 : Int)), ((0 : Nat), (3 : Nat), At.bool false), ((0 : Nat), (4 : Nat), At.words true []), ((0 : Nat), (5 : Nat), At.int IntKind.i64 (0 : Int)), ((8 : Nat), (0 : Nat), At.bool b.neg), ((8 : Nat), (1 : Nat), At.words false b.xs), ((8 : Nat), (2 : Nat), At.int IntKind.i64 b.e), ((8 : Nat), (3 : Nat), At.bool a.neg), ((8 : Nat), (4 : Nat), At.words false a.xs), ((8 : Nat), (5 : Nat), At.int IntKind.i64 a.e)] (14 : Nat) = Sg.mk [((14 : Nat), Tv.sv (Sv.one (At.rows false (3 : Nat) (3 : Nat) (At.bool b.neg :: At.words false b.xs :: At.int IntKind.i64 b.e :: ivL false (Vx.mk c d))))), ((15 : Nat), Tv.sv (Sv.one (At.int IntKind.i64 (↑(3 : Nat) : Int)))), ((16 : Nat), Tv.sv (Sv.one (At.int IntKind.i64 (1 : Int)))), ((3 : Nat), Tv.sv (Sv.one (At.ptr (8 : Nat) (0 : Nat)))), ((2 : Nat), Tv.sv (Sv.one (At.ptr (0 : Nat) (0 : Nat))))] [((0 : Nat), (0 : Nat), At.bool false), ((0 : Nat), (1 : Nat), At.words true []), ((0 : Nat), (2 : Nat), At.int IntKind.i64 (0 : Int)), ((0 : Nat), (3 : Nat), At.bool false), ((0 : Nat), (4 : Nat), At.words true []), ((0 : Nat), (5 : Nat), At.int IntKind.i64 (0 : Int)), ((8 : Nat), (0 : Nat), At.bool v1.lo.neg), ((8 : Nat), (1 : Nat), At.words false v1.lo.xs), ((8 : Nat), (2 : Nat), At.int IntKind.i64 v1.lo.e), ((8 : Nat), (3 : Nat), At.bool v1.hi.neg), ((8 : Nat), (4 : Nat), At.words false v1.hi.xs), ((8 : Nat), (5 : Nat), At.int IntKind.i64 v1.hi.e)] (14 : Nat)))                     ((Dx.Sm (68719476736 : Nat) b ∧ Dx.Sm (68719476736 : Nat) a) ∧                       br (ltI (0 : Int) (cmpD b a)) (inR ((0 : Int) + (1 : Int)) ∧ true = true ∧ Sg.mk [((14 : Nat), Tv.sv (Sv.one (At.rows false (3 : Nat) (3 : Nat) (At.bool b.neg :: At.words false b.xs :: At.int IntKind.i64 b.e :: ivL false (Vx.mk c d))))), ((15 : Nat), Tv.sv (Sv.one (At.int IntKind.i64 (↑(3 : Nat) : Int)))), ((16 : Nat), Tv.sv (Sv.one (At.int IntKind.i64 ((0 : Int) + (1 : Int))))), ((3 : Nat), Tv.sv (Sv.one (At.ptr (8 : Nat) (0 : Nat)))), ((2 : Nat), Tv.sv (Sv.one (At.ptr (0 : Nat) (0 : Nat))))] [((0 : Nat), (0 : Nat), At.bool false), ((0 : Nat), (1 : Nat), At.words true []), ((0 : Nat), (2 : Nat), At.int IntKind.i64 (0 : Int)), ((0 : Nat), (3 : Nat), At.bool false), ((0 : Nat), (4 : Nat), At.words true []), ((0 : Nat), (5 : Nat), At.int IntKind.i64 (0 : Int)), ((8 : Nat), (0 : Nat), At.bool a.neg), ((8 : Nat), (1 : Nat), At.words false a.xs), ((8 : Nat), (2 : Nat), At.int IntKind.i64 a.e), ((8 : Nat), (3 : Nat), At.bool b.neg), ((8 : Nat), (4 : Nat), At.words false b.xs), ((8 : Nat), (5 : Nat), At.int IntKind.i64 b.e)] (14 : Nat) = Sg.mk [((14 : Nat), Tv.sv (Sv.one (At.rows false (3 : Nat) (3 : Nat) (At.bool b.neg :: At.words false b.xs :: At.int IntKind.i64 b.e :: ivL false (Vx.mk c d))))), ((15 : Nat), Tv.sv (Sv.one (At.int IntKind.i64 (↑(3 : Nat) : Int)))), ((16 : Nat), Tv.sv (Sv.one (At.int IntKind.i64 (1 : Int)))), ((3 : Nat), Tv.sv (Sv.one (At.ptr (8 : Nat) (0 : Nat)))), ((2 : Nat), Tv.sv (Sv.one (At.ptr (0 : Nat) (0 : Nat))))] [((0 : Nat), (0 : Nat), At.bool false), ((0 : Nat), (1 : Nat), At.words true []), ((0 : Nat), (2 : Nat), At.int IntKind.i64 (0 : Int)), ((0 : Nat), (3 : Nat), At.bool false), ((0 : Nat), (4 : Nat), At.words true []), ((0 : Nat), (5 : Nat), At.int IntKind.i64 (0 : Int)), ((8 : Nat), (0 : Nat), At.bool v1.lo.neg), ((8 : Nat), (1 : Nat), At.words false v1.lo.xs), ((8 : Nat), (2 : Nat), At.int IntKind.i64 v1.lo.e), ((8 : Nat), (3 : Nat), At.bool v1.hi.neg), ((8 : Nat), (4 : Nat), At.words false v1.hi.xs), ((8 : Nat), (5 : Nat), At.int IntKind.i64 v1.hi.e)] (14 : Nat))                         (inR ((0 : Int) + (1 : Int)) ∧ true = true ∧ Sg.mk [((14 : Nat), Tv.sv (Sv.one (At.rows false (3 : Nat) (3 : Nat) (At.bool b.neg :: At.words false b.xs :: At.int IntKind.i64 b.e :: ivL false (Vx.mk c d))))), ((15 : Nat), Tv.sv (Sv.one (At.int IntKind.i64 (↑(3 : Nat) : Int)))), ((16 : Nat), Tv.sv (Sv.one (At.int IntKind.i64 ((0 : Int) + (1 : Int))))), ((3 : Nat), Tv.sv (Sv.one (At.ptr (8 : Nat) (0 : Nat)))), ((2 : Nat), Tv.sv (Sv.one (At.ptr (0 : Nat) (0 : Nat))))] [((0 : Nat), (0 : Nat), At.bool false), ((0 : Nat), (1 : Nat), At.words true []), ((0 : Nat), (2 : Nat), At.int IntKind.i64 (0 : Int)), ((0 : Nat), (3 : Nat), At.bool false), ((0 : Nat), (4 : Nat), At.words true []), ((0 : Nat), (5 : Nat), At.int IntKind.i64 (0 : Int)), ((8 : Nat), (0 : Nat), At.bool a.neg), ((8 : Nat), (1 : Nat), At.words false a.xs), ((8 : Nat), (2 : Nat), At.int IntKind.i64 a.e), ((8 : Nat), (3 : Nat), At.bool a.neg), ((8 : Nat), (4 : Nat), At.words false a.xs), ((8 : Nat), (5 : Nat), At.int IntKind.i64 a.e)] (14 : Nat) = Sg.mk [((14 : Nat), Tv.sv (Sv.one (At.rows false (3 : Nat) (3 : Nat) (At.bool b.neg :: At.words false b.xs :: At.int IntKind.i64 b.e :: ivL false (Vx.mk c d))))), ((15 : Nat), Tv.sv (Sv.one (At.int IntKind.i64 (↑(3 : Nat) : Int)))), ((16 : Nat), Tv.sv (Sv.one (At.int IntKind.i64 (1 : Int)))), ((3 : Nat), Tv.sv (Sv.one (At.ptr (8 : Nat) (0 : Nat)))), ((2 : Nat), Tv.sv (Sv.one (At.ptr (0 : Nat) (0 : Nat))))] [((0 : Nat), (0 : Nat), At.bool false), ((0 : Nat), (1 : Nat), At.words true []), ((0 : Nat), (2 : Nat), At.int IntKind.i64 (0 : Int)), ((0 : Nat), (3 : Nat), At.bool false), ((0 : Nat), (4 : Nat), At.words true []), ((0 : Nat), (5 : Nat), At.int IntKind.i64 (0 : Int)), ((8 : Nat), (0 : Nat), At.bool v1.lo.neg), ((8 : Nat), (1 : Nat), At.words false v1.lo.xs), ((8 : Nat), (2 : Nat), At.int IntKind.i64 v1.lo.e), ((8 : Nat), (3 : Nat), At.bool v1.hi.neg), ((8 : Nat), (4 : Nat), At.words false v1.hi.xs), ((8 : Nat), (5 : Nat), At.int IntKind.i64 v1.hi.e)] (14 : Nat)))) ∧               (((0 : Int) ≤ (1 : Int) ∧ (1 : Int) < (↑(3 : Nat) : Int)) ∧                   (Dx.Sm (68719476736 : Nat) c ∧ Dx.Sm (68719476736 : Nat) v1.lo) ∧                     br (ltI (cmpD c v1.lo) (0 : Int))                       ((Dx.Sm (68719476736 : Nat) c ∧ Dx.Sm (68719476736 : Nat) v1.hi) ∧                         br (ltI (0 : Int) (cmpD c v1.hi)) (inR ((1 : Int) + (1 : Int)) ∧ true = true ∧ Sg.mk [((14 : Nat), Tv.sv (Sv.one (At.rows false (3 : Nat) (3 : Nat) (At.bool b.neg :: At.words false b.xs :: At.int IntKind.i64 b.e :: ivL false (Vx.mk c d))))), ((15 : Nat), Tv.sv (Sv.one (At.int IntKind.i64 (↑(3 : Nat) : Int)))), ((16 : Nat), Tv.sv (Sv.one (At.int IntKind.i64 ((1 : Int) + (1 : Int))))), ((3 : Nat), Tv.sv (Sv.one (At.ptr (8 : Nat) (0 : Nat)))), ((2 : Nat), Tv.sv (Sv.one (At.ptr (0 : Nat) (0 : Nat))))] [((0 : Nat), (0 : Nat), At.bool false), ((0 : Nat), (1 : Nat), At.words true []), ((0 : Nat), (2 : Nat), At.int IntKind.i64 (0 : Int)), ((0 : Nat), (3 : Nat), At.bool false), ((0 : Nat), (4 : Nat), At.words true []), ((0 : Nat), (5 : Nat), At.int IntKind.i64 (0 : Int)), ((8 : Nat), (0 : Nat), At.bool c.neg), ((8 : Nat), (1 : Nat), At.words false c.xs), ((8 : Nat), (2 : Nat), At.int IntKind.i64 c.e), ((8 : Nat), (3 : Nat), At.bool c.neg), ((8 : Nat), (4 : Nat), At.words false c.xs), ((8 : Nat), (5 : Nat), At.int IntKind.i64 c.e)] (14 : Nat) = Sg.mk [((14 : Nat), Tv.sv (Sv.one (At.rows false (3 : Nat) (3 : Nat) (At.bool b.neg :: At.words false b.xs :: At.int IntKind.i64 b.e :: ivL false (Vx.mk c d))))), ((15 : Nat), Tv.sv (Sv.one (At.int IntKind.i64 (↑(3 : Nat) : Int)))), ((16 : Nat), Tv.sv (Sv.one (At.int IntKind.i64 (2 : Int)))), ((3 : Nat), Tv.sv (Sv.one (At.ptr (8 : Nat) (0 : Nat)))), ((2 : Nat), Tv.sv (Sv.one (At.ptr (0 : Nat) (0 : Nat))))] [((0 : Nat), (0 : Nat), At.bool false), ((0 : Nat), (1 : Nat), At.words true []), ((0 : Nat), (2 : Nat), At.int IntKind.i64 (0 : Int)), ((0 : Nat), (3 : Nat), At.bool false), ((0 : Nat), (4 : Nat), At.words true []), ((0 : Nat), (5 : Nat), At.int IntKind.i64 (0 : Int)), ((8 : Nat), (0 : Nat), At.bool v2.lo.neg), ((8 : Nat), (1 : Nat), At.words false v2.lo.xs), ((8 : Nat), (2 : Nat), At.int IntKind.i64 v2.lo.e), ((8 : Nat), (3 : Nat), At.bool v2.hi.neg), ((8 : Nat), (4 : Nat), At.words false v2.hi.xs), ((8 : Nat), (5 : Nat), At.int IntKind.i64 v2.hi.e)] (14 : Nat))                           (inR ((1 : Int) + (1 : Int)) ∧ true = true ∧ Sg.mk [((14 : Nat), Tv.sv (Sv.one (At.rows false (3 : Nat) (3 : Nat) (At.bool b.neg :: At.words false b.xs :: At.int IntKind.i64 b.e :: ivL false (Vx.mk c d))))), ((15 : Nat), Tv.sv (Sv.one (At.int IntKind.i64 (↑(3 : Nat) : Int)))), ((16 : Nat), Tv.sv (Sv.one (At.int IntKind.i64 ((1 : Int) + (1 : Int))))), ((3 : Nat), Tv.sv (Sv.one (At.ptr (8 : Nat) (0 : Nat)))), ((2 : Nat), Tv.sv (Sv.one (At.ptr (0 : Nat) (0 : Nat))))] [((0 : Nat), (0 : Nat), At.bool false), ((0 : Nat), (1 : Nat), At.words true []), ((0 : Nat), (2 : Nat), At.int IntKind.i64 (0 : Int)), ((0 : Nat), (3 : Nat), At.bool false), ((0 : Nat), (4 : Nat), At.words true []), ((0 : Nat), (5 : Nat), At.int IntKind.i64 (0 : Int)), ((8 : Nat), (0 : Nat), At.bool c.neg), ((8 : Nat), (1 : Nat), At.words false c.xs), ((8 : Nat), (2 : Nat), At.int IntKind.i64 c.e), ((8 : Nat), (3 : Nat), At.bool v1.hi.neg), ((8 : Nat), (4 : Nat), At.words false v1.hi.xs), ((8 : Nat), (5 : Nat), At.int IntKind.i64 v1.hi.e)] (14 : Nat) = Sg.mk [((14 : Nat), Tv.sv (Sv.one (At.rows false (3 : Nat) (3 : Nat) (At.bool b.neg :: At.words false b.xs :: At.int IntKind.i64 b.e :: ivL false (Vx.mk c d))))), ((15 : Nat), Tv.sv (Sv.one (At.int IntKind.i64 (↑(3 : Nat) : Int)))), ((16 : Nat), Tv.sv (Sv.one (At.int IntKind.i64 (2 : Int)))), ((3 : Nat), Tv.sv (Sv.one (At.ptr (8 : Nat) (0 : Nat)))), ((2 : Nat), Tv.sv (Sv.one (At.ptr (0 : Nat) (0 : Nat))))] [((0 : Nat), (0 : Nat), At.bool false), ((0 : Nat), (1 : Nat), At.words true []), ((0 : Nat), (2 : Nat), At.int IntKind.i64 (0 : Int)), ((0 : Nat), (3 : Nat), At.bool false), ((0 : Nat), (4 : Nat), At.words true []), ((0 : Nat), (5 : Nat), At.int IntKind.i64 (0 : Int)), ((8 : Nat), (0 : Nat), At.bool v2.lo.neg), ((8 : Nat), (1 : Nat), At.words false v2.lo.xs), ((8 : Nat), (2 : Nat), At.int IntKind.i64 v2.lo.e), ((8 : Nat), (3 : Nat), At.bool v2.hi.neg), ((8 : Nat), (4 : Nat), At.words false v2.hi.xs), ((8 : Nat), (5 : Nat), At.int IntKind.i64 v2.hi.e)] (14 : Nat)))                       ((Dx.Sm (68719476736 : Nat) c ∧ Dx.Sm (68719476736 : Nat) v1.hi) ∧                         br (ltI (0 : Int) (cmpD c v1.hi)) (inR ((1 : Int) + (1 : Int)) ∧ true = true ∧ Sg.mk [((14 : Nat), Tv.sv (Sv.one (At.rows false (3 : Nat) (3 : Nat) (At.bool b.neg :: At.words false b.xs :: At.int IntKind.i64 b.e :: ivL false (Vx.mk c d))))), ((15 : Nat), Tv.sv (Sv.one (At.int IntKind.i64 (↑(3 : Nat) : Int)))), ((16 : Nat), Tv.sv (Sv.one (At.int IntKind.i64 ((1 : Int) + (1 : Int))))), ((3 : Nat), Tv.sv (Sv.one (At.ptr (8 : Nat) (0 : Nat)))), ((2 : Nat), Tv.sv (Sv.one (At.ptr (0 : Nat) (0 : Nat))))] [((0 : Nat), (0 : Nat), At.bool false), ((0 : Nat), (1 : Nat), At.words true []), ((0 : Nat), (2 : Nat), At.int IntKind.i64 (0 : Int)), ((0 : Nat), (3 : Nat), At.bool false), ((0 : Nat), (4 : Nat), At.words true []), ((0 : Nat), (5 : Nat), At.int IntKind.i64 (0 : Int)), ((8 : Nat), (0 : Nat), At.bool v1.lo.neg), ((8 : Nat), (1 : Nat), At.words false v1.lo.xs), ((8 : Nat), (2 : Nat), At.int IntKind.i64 v1.lo.e), ((8 : Nat), (3 : Nat), At.bool c.neg), ((8 : Nat), (4 : Nat), At.words false c.xs), ((8 : Nat), (5 : Nat), At.int IntKind.i64 c.e)] (14 : Nat) = Sg.mk [((14 : Nat), Tv.sv (Sv.one (At.rows false (3 : Nat) (3 : Nat) (At.bool b.neg :: At.words false b.xs :: At.int IntKind.i64 b.e :: ivL false (Vx.mk c d))))), ((15 : Nat), Tv.sv (Sv.one (At.int IntKind.i64 (↑(3 : Nat) : Int)))), ((16 : Nat), Tv.sv (Sv.one (At.int IntKind.i64 (2 : Int)))), ((3 : Nat), Tv.sv (Sv.one (At.ptr (8 : Nat) (0 : Nat)))), ((2 : Nat), Tv.sv (Sv.one (At.ptr (0 : Nat) (0 : Nat))))] [((0 : Nat), (0 : Nat), At.bool false), ((0 : Nat), (1 : Nat), At.words true []), ((0 : Nat), (2 : Nat), At.int IntKind.i64 (0 : Int)), ((0 : Nat), (3 : Nat), At.bool false), ((0 : Nat), (4 : Nat), At.words true []), ((0 : Nat), (5 : Nat), At.int IntKind.i64 (0 : Int)), ((8 : Nat), (0 : Nat), At.bool v2.lo.neg), ((8 : Nat), (1 : Nat), At.words false v2.lo.xs), ((8 : Nat), (2 : Nat), At.int IntKind.i64 v2.lo.e), ((8 : Nat), (3 : Nat), At.bool v2.hi.neg), ((8 : Nat), (4 : Nat), At.words false v2.hi.xs), ((8 : Nat), (5 : Nat), At.int IntKind.i64 v2.hi.e)] (14 : Nat))                           (inR ((1 : Int) + (1 : Int)) ∧ true = true ∧ Sg.mk [((14 : Nat), Tv.sv (Sv.one (At.rows false (3 : Nat) (3 : Nat) (At.bool b.neg :: At.words false b.xs :: At.int IntKind.i64 b.e :: ivL false (Vx.mk c d))))), ((15 : Nat), Tv.sv (Sv.one (At.int IntKind.i64 (↑(3 : Nat) : Int)))), ((16 : Nat), Tv.sv (Sv.one (At.int IntKind.i64 ((1 : Int) + (1 : Int))))), ((3 : Nat), Tv.sv (Sv.one (At.ptr (8 : Nat) (0 : Nat)))), ((2 : Nat), Tv.sv (Sv.one (At.ptr (0 : Nat) (0 : Nat))))] [((0 : Nat), (0 : Nat), At.bool false), ((0 : Nat), (1 : Nat), At.words true []), ((0 : Nat), (2 : Nat), At.int IntKind.i64 (0 : Int)), ((0 : Nat), (3 : Nat), At.bool false), ((0 : Nat), (4 : Nat), At.words true []), ((0 : Nat), (5 : Nat), At.int IntKind.i64 (0 : Int)), ((8 : Nat), (0 : Nat), At.bool v1.lo.neg), ((8 : Nat), (1 : Nat), At.words false v1.lo.xs), ((8 : Nat), (2 : Nat), At.int IntKind.i64 v1.lo.e), ((8 : Nat), (3 : Nat), At.bool v1.hi.neg), ((8 : Nat), (4 : Nat), At.words false v1.hi.xs), ((8 : Nat), (5 : Nat), At.int IntKind.i64 v1.hi.e)] (14 : Nat) = Sg.mk [((14 : Nat), Tv.sv (Sv.one (At.rows false (3 : Nat) (3 : Nat) (At.bool b.neg :: At.words false b.xs :: At.int IntKind.i64 b.e :: ivL false (Vx.mk c d))))), ((15 : Nat), Tv.sv (Sv.one (At.int IntKind.i64 (↑(3 : Nat) : Int)))), ((16 : Nat), Tv.sv (Sv.one (At.int IntKind.i64 (2 : Int)))), ((3 : Nat), Tv.sv (Sv.one (At.ptr (8 : Nat) (0 : Nat)))), ((2 : Nat), Tv.sv (Sv.one (At.ptr (0 : Nat) (0 : Nat))))] [((0 : Nat), (0 : Nat), At.bool false), ((0 : Nat), (1 : Nat), At.words true []), ((0 : Nat), (2 : Nat), At.int IntKind.i64 (0 : Int)), ((0 : Nat), (3 : Nat), At.bool false), ((0 : Nat), (4 : Nat), At.words true []), ((0 : Nat), (5 : Nat), At.int IntKind.i64 (0 : Int)), ((8 : Nat), (0 : Nat), At.bool v2.lo.neg), ((8 : Nat), (1 : Nat), At.words false v2.lo.xs), ((8 : Nat), (2 : Nat), At.int IntKind.i64 v2.lo.e), ((8 : Nat), (3 : Nat), At.bool v2.hi.neg), ((8 : Nat), (4 : Nat), At.words false v2.hi.xs), ((8 : Nat), (5 : Nat), At.int IntKind.i64 v2.hi.e)] (14 : Nat)))) ∧                 (((0 : Int) ≤ (2 : Int) ∧ (2 : Int) < (↑(3 : Nat) : Int)) ∧                     (Dx.Sm (68719476736 : Nat) d ∧ Dx.Sm (68719476736 : Nat) v2.lo) ∧                       br (ltI (cmpD d v2.lo) (0 : Int))                         ((Dx.Sm (68719476736 : Nat) d ∧ Dx.Sm (68719476736 : Nat) v2.hi) ∧                           br (ltI (0 : Int) (cmpD d v2.hi)) (inR ((2 : Int) + (1 : Int)) ∧ true = true ∧ Sg.mk [((14 : Nat), Tv.sv (Sv.one (At.rows false (3 : Nat) (3 : Nat) (At.bool b.neg :: At.words false b.xs :: At.int IntKind.i64 b.e :: ivL false (Vx.mk c d))))), ((15 : Nat), Tv.sv (Sv.one (At.int IntKind.i64 (↑(3 : Nat) : Int)))), ((16 : Nat), Tv.sv (Sv.one (At.int IntKind.i64 ((2 : Int) + (1 : Int))))), ((3 : Nat), Tv.sv (Sv.one (At.ptr (8 : Nat) (0 : Nat)))), ((2 : Nat), Tv.sv (Sv.one (At.ptr (0 : Nat) (0 : Nat))))] [((0 : Nat), (0 : Nat), At.bool false), ((0 : Nat), (1 : Nat), At.words true []), ((0 : Nat), (2 : Nat), At.int IntKind.i64 (0 : Int)), ((0 : Nat), (3 : Nat), At.bool false), ((0 : Nat), (4 : Nat), At.words true []), ((0 : Nat), (5 : Nat), At.int IntKind.i64 (0 : Int)), ((8 : Nat), (0 : Nat), At.bool d.neg), ((8 : Nat), (1 : Nat), At.words false d.xs), ((8 : Nat), (2 : Nat), At.int IntKind.i64 d.e), ((8 : Nat), (3 : Nat), At.bool d.neg), ((8 : Nat), (4 : Nat), At.words false d.xs), ((8 : Nat), (5 : Nat), At.int IntKind.i64 d.e)] (14 : Nat) = Sg.mk [((14 : Nat), Tv.sv (Sv.one (At.rows false (3 : Nat) (3 : Nat) (At.bool b.neg :: At.words false b.xs :: At.int IntKind.i64 b.e :: ivL false (Vx.mk c d))))), ((15 : Nat), Tv.sv (Sv.one (At.int IntKind.i64 (↑(3 : Nat) : Int)))), ((16 : Nat), Tv.sv (Sv.one (At.int IntKind.i64 (3 : Int)))), ((3 : Nat), Tv.sv (Sv.one (At.ptr (8 : Nat) (0 : Nat)))), ((2 : Nat), Tv.sv (Sv.one (At.ptr (0 : Nat) (0 : Nat))))] [((0 : Nat), (0 : Nat), At.bool false), ((0 : Nat), (1 : Nat), At.words true []), ((0 : Nat), (2 : Nat), At.int IntKind.i64 (0 : Int)), ((0 : Nat), (3 : Nat), At.bool false), ((0 : Nat), (4 : Nat), At.words true []), ((0 : Nat), (5 : Nat), At.int IntKind.i64 (0 : Int)), ((8 : Nat), (0 : Nat), At.bool v3.lo.neg), ((8 : Nat), (1 : Nat), At.words false v3.lo.xs), ((8 : Nat), (2 : Nat), At.int IntKind.i64 v3.lo.e), ((8 : Nat), (3 : Nat), At.bool v3.hi.neg), ((8 : Nat), (4 : Nat), At.words false v3.hi.xs), ((8 : Nat), (5 : Nat), At.int IntKind.i64 v3.hi.e)] (14 : Nat))                             (inR ((2 : Int) + (1 : Int)) ∧ true = true ∧ Sg.mk [((14 : Nat), Tv.sv (Sv.one (At.rows false (3 : Nat) (3 : Nat) (At.bool b.neg :: At.words false b.xs :: At.int IntKind.i64 b.e :: ivL false (Vx.mk c d))))), ((15 : Nat), Tv.sv (Sv.one (At.int IntKind.i64 (↑(3 : Nat) : Int)))), ((16 : Nat), Tv.sv (Sv.one (At.int IntKind.i64 ((2 : Int) + (1 : Int))))), ((3 : Nat), Tv.sv (Sv.one (At.ptr (8 : Nat) (0 : Nat)))), ((2 : Nat), Tv.sv (Sv.one (At.ptr (0 : Nat) (0 : Nat))))] [((0 : Nat), (0 : Nat), At.bool false), ((0 : Nat), (1 : Nat), At.words true []), ((0 : Nat), (2 : Nat), At.int IntKind.i64 (0 : Int)), ((0 : Nat), (3 : Nat), At.bool false), ((0 : Nat), (4 : Nat), At.words true []), ((0 : Nat), (5 : Nat), At.int IntKind.i64 (0 : Int)), ((8 : Nat), (0 : Nat), At.bool d.neg), ((8 : Nat), (1 : Nat), At.words false d.xs), ((8 : Nat), (2 : Nat), At.int IntKind.i64 d.e), ((8 : Nat), (3 : Nat), At.bool v2.hi.neg), ((8 : Nat), (4 : Nat), At.words false v2.hi.xs), ((8 : Nat), (5 : Nat), At.int IntKind.i64 v2.hi.e)] (14 : Nat) = Sg.mk [((14 : Nat), Tv.sv (Sv.one (At.rows false (3 : Nat) (3 : Nat) (At.bool b.neg :: At.words false b.xs :: At.int IntKind.i64 b.e :: ivL false (Vx.mk c d))))), ((15 : Nat), Tv.sv (Sv.one (At.int IntKind.i64 (↑(3 : Nat) : Int)))), ((16 : Nat), Tv.sv (Sv.one (At.int IntKind.i64 (3 : Int)))), ((3 : Nat), Tv.sv (Sv.one (At.ptr (8 : Nat) (0 : Nat)))), ((2 : Nat), Tv.sv (Sv.one (At.ptr (0 : Nat) (0 : Nat))))] [((0 : Nat), (0 : Nat), At.bool false), ((0 : Nat), (1 : Nat), At.words true []), ((0 : Nat), (2 : Nat), At.int IntKind.i64 (0 : Int)), ((0 : Nat), (3 : Nat), At.bool false), ((0 : Nat), (4 : Nat), At.words true []), ((0 : Nat), (5 : Nat), At.int IntKind.i64 (0 : Int)), ((8 : Nat), (0 : Nat), At.bool v3.lo.neg), ((8 : Nat), (1 : Nat), At.words false v3.lo.xs), ((8 : Nat), (2 : Nat), At.int IntKind.i64 v3.lo.e), ((8 : Nat), (3 : Nat), At.bool v3.hi.neg), ((8 : Nat), (4 : Nat), At.words false v3.hi.xs), ((8 : Nat), (5 : Nat), At.int IntKind.i64 v3.hi.e)] (14 : Nat)))                         ((Dx.Sm (68719476736 : Nat) d ∧ Dx.Sm (68719476736 : Nat) v2.hi) ∧                           br (ltI (0 : Int) (cmpD d v2.hi)) (inR ((2 : Int) + (1 : Int)) ∧ true = true ∧ Sg.mk [((14 : Nat), Tv.sv (Sv.one (At.rows false (3 : Nat) (3 : Nat) (At.bool b.neg :: At.words false b.xs :: At.int IntKind.i64 b.e :: ivL false (Vx.mk c d))))), ((15 : Nat), Tv.sv (Sv.one (At.int IntKind.i64 (↑(3 : Nat) : Int)))), ((16 : Nat), Tv.sv (Sv.one (At.int IntKind.i64 ((2 : Int) + (1 : Int))))), ((3 : Nat), Tv.sv (Sv.one (At.ptr (8 : Nat) (0 : Nat)))), ((2 : Nat), Tv.sv (Sv.one (At.ptr (0 : Nat) (0 : Nat))))] [((0 : Nat), (0 : Nat), At.bool false), ((0 : Nat), (1 : Nat), At.words true []), ((0 : Nat), (2 : Nat), At.int IntKind.i64 (0 : Int)), ((0 : Nat), (3 : Nat), At.bool false), ((0 : Nat), (4 : Nat), At.words true []), ((0 : Nat), (5 : Nat), At.int IntKind.i64 (0 : Int)), ((8 : Nat), (0 : Nat), At.bool v2.lo.neg), ((8 : Nat), (1 : Nat), At.words false v2.lo.xs), ((8 : Nat), (2 : Nat), At.int IntKind.i64 v2.lo.e), ((8 : Nat), (3 : Nat), At.bool d.neg), ((8 : Nat), (4 : Nat), At.words false d.xs), ((8 : Nat), (5 : Nat), At.int IntKind.i64 d.e)] (14 : Nat) = Sg.mk [((14 : Nat), Tv.sv (Sv.one (At.rows false (3 : Nat) (3 : Nat) (At.bool b.neg :: At.words false b.xs :: At.int IntKind.i64 b.e :: ivL false (Vx.mk c d))))), ((15 : Nat), Tv.sv (Sv.one (At.int IntKind.i64 (↑(3 : Nat) : Int)))), ((16 : Nat), Tv.sv (Sv.one (At.int IntKind.i64 (3 : Int)))), ((3 : Nat), Tv.sv (Sv.one (At.ptr (8 : Nat) (0 : Nat)))), ((2 : Nat), Tv.sv (Sv.one (At.ptr (0 : Nat) (0 : Nat))))] [((0 : Nat), (0 : Nat), At.bool false), ((0 : Nat), (1 : Nat), At.words true []), ((0 : Nat), (2 : Nat), At.int IntKind.i64 (0 : Int)), ((0 : Nat), (3 : Nat), At.bool false), ((0 : Nat), (4 : Nat), At.words true []), ((0 : Nat), (5 : Nat), At.int IntKind.i64 (0 : Int)), ((8 : Nat), (0 : Nat), At.bool v3.lo.neg), ((8 : Nat), (1 : Nat), At.words false v3.lo.xs), ((8 : Nat), (2 : Nat), At.int IntKind.i64 v3.lo.e), ((8 : Nat), (3 : Nat), At.bool v3.hi.neg), ((8 : Nat), (4 : Nat), At.words false v3.hi.xs), ((8 : Nat), (5 : Nat), At.int IntKind.i64 v3.hi.e)] (14 : Nat))                             (inR ((2 : Int) + (1 : Int)) ∧ true = true ∧ Sg.mk [((14 : Nat), Tv.sv (Sv.one (At.rows false (3 : Nat) (3 : Nat) (At.bool b.neg :: At.words false b.xs :: At.int IntKind.i64 b.e :: ivL false (Vx.mk c d))))), ((15 : Nat), Tv.sv (Sv.one (At.int IntKind.i64 (↑(3 : Nat) : Int)))), ((16 : Nat), Tv.sv (Sv.one (At.int IntKind.i64 ((2 : Int) + (1 : Int))))), ((3 : Nat), Tv.sv (Sv.one (At.ptr (8 : Nat) (0 : Nat)))), ((2 : Nat), Tv.sv (Sv.one (At.ptr (0 : Nat) (0 : Nat))))] [((0 : Nat), (0 : Nat), At.bool false), ((0 : Nat), (1 : Nat), At.words true []), ((0 : Nat), (2 : Nat), At.int IntKind.i64 (0 : Int)), ((0 : Nat), (3 : Nat), At.bool false), ((0 : Nat), (4 : Nat), At.words true []), ((0 : Nat), (5 : Nat), At.int IntKind.i64 (0 : Int)), ((8 : Nat), (0 : Nat), At.bool v2.lo.neg), ((8 : Nat), (1 : Nat), At.words false v2.lo.xs), ((8 : Nat), (2 : Nat), At.int IntKind.i64 v2.lo.e), ((8 : Nat), (3 : Nat), At.bool v2.hi.neg), ((8 : Nat), (4 : Nat), At.words false v2.hi.xs), ((8 : Nat), (5 : Nat), At.int IntKind.i64 v2.hi.e)] (14 : Nat) = Sg.mk [((14 : Nat), Tv.sv (Sv.one (At.rows false (3 : Nat) (3 : Nat) (At.bool b.neg :: At.words false b.xs :: At.int IntKind.i64 b.e :: ivL false (Vx.mk c d))))), ((15 : Nat), Tv.sv (Sv.one (At.int IntKind.i64 (↑(3 : Nat) : Int)))), ((16 : Nat), Tv.sv (Sv.one (At.int IntKind.i64 (3 : Int)))), ((3 : Nat), Tv.sv (Sv.one (At.ptr (8 : Nat) (0 : Nat)))), ((2 : Nat), Tv.sv (Sv.one (At.ptr (0 : Nat) (0 : Nat))))] [((0 : Nat), (0 : Nat), At.bool false), ((0 : Nat), (1 : Nat), At.words true []), ((0 : Nat), (2 : Nat), At.int IntKind.i64 (0 : Int)), ((0 : Nat), (3 : Nat), At.bool false), ((0 : Nat), (4 : Nat), At.words true []), ((0 : Nat), (5 : Nat), At.int IntKind.i64 (0 : Int)), ((8 : Nat), (0 : Nat), At.bool v3.lo.neg), ((8 : Nat), (1 : Nat), At.words false v3.lo.xs), ((8 : Nat), (2 : Nat), At.int IntKind.i64 v3.lo.e), ((8 : Nat), (3 : Nat), At.bool v3.hi.neg), ((8 : Nat), (4 : Nat), At.words false v3.hi.xs), ((8 : Nat), (5 : Nat), At.int IntKind.i64 v3.hi.e)] (14 : Nat)))) ∧                   Q (Tv.sv (Sv.agg (ivL false v3))) ∧ True) := by kernel_rfl
theorem spanS_rounds {v : Vx} {d : Dx} {p : Vx → Prop} {A : Prop} {N : Nat} (A1 : A) (hv : v.Sm N) (hd : d.Sm N) (hN : N ≤ 68719476736) (h : A → p (spanS v d)) {q1 q2 q3 q4 : Prop} (h1 : p ⟨d, d⟩ → q1) (h2 : p ⟨d, v.hi⟩ → q2) (h3 : p ⟨v.lo, d⟩ → q3) (h4 : p v → q4) :
    (Dx.Sm 68719476736 d ∧ Dx.Sm 68719476736 v.lo) ∧ br (ltI (cmpD d v.lo) 0) ((Dx.Sm 68719476736 d ∧ Dx.Sm 68719476736 v.hi) ∧ br (ltI 0 (cmpD d v.hi)) q1 q2) ((Dx.Sm 68719476736 d ∧ Dx.Sm 68719476736 v.hi) ∧ br (ltI 0 (cmpD d v.hi)) q3 q4) := by
  have k := h A1
  refine ⟨⟨hd.mono hN, hv.1.mono hN⟩, br_intro (fun e1 => ⟨⟨hd.mono hN, hv.2.mono hN⟩, br_intro (fun e2 => h1 ?_) fun e2 => h2 ?_⟩) fun e1 => ⟨⟨hd.mono hN, hv.2.mono hN⟩, br_intro (fun e2 => h3 ?_) fun e2 => h4 ?_⟩⟩
  · rwa [spanS, if_pos (ltI_true.1 e1), if_pos (ltI_true.1 e2)] at k
  · rwa [spanS, if_pos (ltI_true.1 e1), if_neg (ltI_false.1 e2)] at k
  · rwa [spanS, if_neg (ltI_false.1 e1), if_pos (ltI_true.1 e2)] at k
  · rwa [spanS, if_neg (ltI_false.1 e1), if_neg (ltI_false.1 e2)] at k
def rSpan : Spec := fun l => match l with
  | [.one (.rows false 3 2 [.bool n1, .words false x1, .int .i64 e1, .bool n2, .words false x2, .int .i64 e2])] =>
    (some (Dx.Sm 68719476736 ⟨n1, x1, e1⟩ ∧ Dx.Sm 68719476736 ⟨n2, x2, e2⟩), vF (spanL ⟨n1, x1, e1⟩ [⟨n2, x2, e2⟩]))
  | [.one (.rows false 3 4 [.bool n1, .words false x1, .int .i64 e1, .bool n2, .words false x2, .int .i64 e2, .bool n3, .words false x3, .int .i64 e3, .bool n4, .words false x4, .int .i64 e4])] =>
    (some (Dx.Sm 68719476736 ⟨n1, x1, e1⟩ ∧ Dx.Sm 68719476736 ⟨n2, x2, e2⟩ ∧ Dx.Sm 68719476736 ⟨n3, x3, e3⟩ ∧ Dx.Sm 68719476736 ⟨n4, x4, e4⟩), vF (spanL ⟨n1, x1, e1⟩ [⟨n2, x2, e2⟩, ⟨n3, x3, e3⟩, ⟨n4, x4, e4⟩]))
  | _ => noSpec
theorem rSpan_ok : SpecOk Tryz.prog 119 rSpan :=
  specOk_at (envOk tys_ok sRaw4_ok) mixed Tryz.func119 rfl (by decide) 1 (by decide) fun l p t e hp => by
    unfold rSpan at e
    split at e
    · rename_i n1 x1 e1 n2 x2 e2
      cases e
      obtain ⟨s1, s2⟩ := hp
      refine ⟨Nat.le_refl 1, _, 0, (rSpan2_vc ⟨n1, x1, e1⟩ ⟨n2, x2, e2⟩ _).mpr ?_⟩
      refine ⟨⟨by omega, by omega⟩, ⟨by omega, by omega⟩, rfl, ⟨by omega, by omega⟩, rfl, rfl, ⟨⟨by omega, by omega⟩, ?_⟩, rfl, trivial⟩
      refine spanS_rounds (p := fun v => spanS ⟨⟨n1, x1, e1⟩, ⟨n1, x1, e1⟩⟩ ⟨n2, x2, e2⟩ = v) trivial ⟨s1, s1⟩ s2 (by omega) (fun _ => rfl) ?_ ?_ ?_ ?_ <;> exact fun e => ⟨⟨by omega, by omega⟩, rfl, by rw [e]; rfl⟩
    · rename_i n1 x1 e1 n2 x2 e2 n3 x3 e3 n4 x4 e4
      cases e
      obtain ⟨s1, s2, s3, s4⟩ := hp
      refine ⟨Nat.le_refl 1, _, 0, (rSpan4_vc ⟨n1, x1, e1⟩ ⟨n2, x2, e2⟩ ⟨n3, x3, e3⟩ ⟨n4, x4, e4⟩ (spanL ⟨n1, x1, e1⟩ [⟨n2, x2, e2⟩]) (spanL ⟨n1, x1, e1⟩ [⟨n2, x2, e2⟩, ⟨n3, x3, e3⟩]) (spanL ⟨n1, x1, e1⟩ [⟨n2, x2, e2⟩, ⟨n3, x3, e3⟩, ⟨n4, x4, e4⟩]) _).mpr ?_⟩
      have t2 : Vx.Sm 68719476736 (spanL ⟨n1, x1, e1⟩ [⟨n2, x2, e2⟩]) := spanS_sm ⟨s1, s1⟩ s2
      have t3 : Vx.Sm 68719476736 (spanL ⟨n1, x1, e1⟩ [⟨n2, x2, e2⟩, ⟨n3, x3, e3⟩]) := spanS_sm t2 s3
      refine ⟨⟨by omega, by omega⟩, ⟨by omega, by omega⟩, rfl, ⟨by omega, by omega⟩, rfl, rfl, ⟨⟨by omega, by omega⟩, ?_⟩, ⟨⟨by omega, by omega⟩, ?_⟩, ⟨⟨by omega, by omega⟩, ?_⟩, rfl, trivial⟩
      · refine spanS_rounds (p := fun v => spanL ⟨n1, x1, e1⟩ [⟨n2, x2, e2⟩] = v) trivial ⟨s1, s1⟩ s2 (by omega) (fun _ => rfl) ?_ ?_ ?_ ?_ <;> exact fun e => ⟨⟨by omega, by omega⟩, rfl, by rw [e]; rfl⟩
      · refine spanS_rounds (p := fun v => spanL ⟨n1, x1, e1⟩ [⟨n2, x2, e2⟩, ⟨n3, x3, e3⟩] = v) trivial t2 s3 (by omega) (fun _ => rfl) ?_ ?_ ?_ ?_ <;> exact fun e => ⟨⟨by omega, by omega⟩, rfl, by rw [e]; rfl⟩
      · refine spanS_rounds (p := fun v => spanL ⟨n1, x1, e1⟩ [⟨n2, x2, e2⟩, ⟨n3, x3, e3⟩, ⟨n4, x4, e4⟩] = v) trivial t3 s4 (by omega) (fun _ => rfl) ?_ ?_ ?_ ?_ <;> exact fun e => ⟨⟨by omega, by omega⟩, rfl, by rw [e]; rfl⟩
    · cases e; exact hp.elim
end Go.Proofs.YtdnbckfhfhfkoaaGreatDoor

namespace Go.Proofs.YtdnbckfhfhfkoaaGreatDoor
open Go.RowKit
theorem mkD_p {neg : Bool} {m e : Int} : 0 ≤ (mkD neg m e).m := val_nonneg (mkD_words _ _ _)
theorem mkS_p {s e : Int} : 0 ≤ (mkS s e).m := mkD_p
theorem oneD_p {d : Dx} : 0 ≤ (oneD d).m := mkD_p
theorem negD_p {d : Dx} : 0 ≤ (negD d).m := mkD_p
theorem absD_p {d : Dx} : 0 ≤ (absD d).m := mkD_p
theorem shiftD_p {d : Dx} {n : Int} : 0 ≤ (shiftD d n).m := mkD_p
theorem timesD_p {a b : Dx} : 0 ≤ (timesD a b).m := mkD_p
theorem plusX_p {a b : Dx} (ha : 0 ≤ a.m) (hb : 0 ≤ b.m) : 0 ≤ (plusX a b).m := by
  unfold plusX
  split
  · exact hb
  · split
    · exact ha
    · exact mkS_p
theorem plusD_p {a b : Dx} : 0 ≤ (plusD a b).m := plusX_p oneD_p oneD_p
theorem lessD_p {a b : Dx} : 0 ≤ (lessD a b).m := plusD_p
theorem cutX_p {x : Dx} {p : Int} {up : Bool} (h : 0 ≤ x.m) : 0 ≤ (cutX x p up).m := by
  unfold cutX; split
  · exact h
  · exact mkD_p
theorem cutD_p {x : Dx} {p : Int} {up : Bool} : 0 ≤ (cutD x p up).m := cutX_p oneD_p
theorem overD_p {a b : Dx} {p : Int} {up : Bool} : 0 ≤ (overD a b p up).m := by
  unfold overD overX; split
  · exact Int.le_refl _
  · exact cutD_p
theorem timesD_sm {a b : Dx} {N M : Nat} (ha : 0 ≤ a.m) (hb : 0 ≤ b.m) (sa : a.Sm N) (sb : b.Sm M) : (timesD a b).Sm (N + M + (N + M)) := by
  obtain ⟨s1, s2, s3⟩ := sa
  obtain ⟨s4, s5, s6⟩ := sb
  have := blen_mul ha hb
  exact mkD_sm (Int.mul_nonneg ha hb) (by omega) (by omega) (by omega)
theorem shiftD_sm {d : Dx} {N M : Nat} {n : Int} (h : 0 ≤ d.m) (s : d.Sm N) (n0 : -(M : Int) ≤ n) (n1 : n ≤ M) : (shiftD d n).Sm (N + (N + M)) := by
  obtain ⟨s1, s2, s3⟩ := s
  exact mkD_sm h s1 (by omega) (by omega)
theorem absD_sm {d : Dx} {N : Nat} (h : 0 ≤ d.m) (s : d.Sm N) : (absD d).Sm (N + N) := mkD_sm h s.1 s.2.1 s.2.2
theorem blen_natAbs_add {X Y : Int} {N : Nat} (h1 : blen (X.natAbs : Int) ≤ N) (h2 : blen (Y.natAbs : Int) ≤ N) : blen ((X + Y).natAbs : Int) ≤ N + 1 := by
  refine blen_le ?_
  have e1 := blen_lt (X.natAbs : Int)
  have e2 := blen_lt (Y.natAbs : Int)
  have f1 : (2 : Int) ^ blen (X.natAbs : Int) ≤ 2 ^ N := two_pow_le h1
  have f2 : (2 : Int) ^ blen (Y.natAbs : Int) ≤ 2 ^ N := two_pow_le h2
  rw [Int.pow_succ]; omega
theorem mkS_sm {s e : Int} {N M : Nat} (hb : blen (s.natAbs : Int) ≤ N) (e0 : -(M : Int) ≤ e) (e1 : e ≤ M) : (mkS s e).Sm (N + M) := mkD_sm (by omega) hb e0 e1
theorem sm_abs {d : Dx} (h : 0 ≤ d.m) (k : Nat) : ((d.sm * 2 ^ k).natAbs : Int) = d.m * 2 ^ k := by
  have := two_pow_pos k
  have h1 : 0 ≤ d.m * 2 ^ k := Int.mul_nonneg h (by omega)
  unfold Dx.sm; rw [sm_mul]; split <;> omega
theorem plusX_sm {x y : Dx} {N : Nat} (hx : 0 ≤ x.m) (hy : 0 ≤ y.m) (sx : x.Sm N) (sy : y.Sm N) : (plusX x y).Sm (3 * N + 1 + N) := by
  unfold plusX
  split
  · exact sy.mono (by omega)
  · split
    · exact sx.mono (by omega)
    · obtain ⟨s1, s2, s3⟩ := sx
      obtain ⟨s4, s5, s6⟩ := sy
      refine mkS_sm (blen_natAbs_add ?_ ?_) (by omega) (by omega)
      · rw [sm_abs hx, blen_mul_pow (by omega)]; omega
      · rw [sm_abs hy, blen_mul_pow (by omega)]; omega
theorem plusD_sm {x y : Dx} {N : Nat} (hx : 0 ≤ x.m) (hy : 0 ≤ y.m) (sx : x.Sm N) (sy : y.Sm N) : (plusD x y).Sm (8 * N + 1) :=
  (plusX_sm oneD_p oneD_p (one_sm hx sx) (one_sm hy sy)).mono (by omega)
theorem lessD_sm {x y : Dx} {N : Nat} (hx : 0 ≤ x.m) (hy : 0 ≤ y.m) (sx : x.Sm N) (sy : y.Sm N) : (lessD x y).Sm (16 * N + 1) :=
  (plusD_sm hx negD_p (sx.mono (show N ≤ N + N by omega)) (negD_sm sy hy)).mono (by omega)
theorem cutX_sm {x : Dx} {N : Nat} {p : Int} {up : Bool} (hx : 0 ≤ x.m) (sx : x.Sm N) (hp : 0 ≤ p) : (cutX x p up).Sm (3 * N + 1) := by
  unfold cutX
  split
  · exact sx.mono (by omega)
  · obtain ⟨s1, s2, s3⟩ := sx
    have q0 : 0 ≤ x.m / 2 ^ ((blen x.m : Int) - p).toNat := Int.ediv_nonneg hx (Int.le_of_lt (two_pow_pos _))
    have q1 := blen_mono (m := x.m / 2 ^ ((blen x.m : Int) - p).toNat) (n := x.m) (Int.ediv_le_self _ hx)
    refine (mkD_sm (N := N + 1) (M := N + N) ?_ ?_ (by omega) (by omega)).mono (by omega)
    · split <;> omega
    · have := blen_lt (x.m / 2 ^ ((blen x.m : Int) - p).toNat)
      have f1 : (2 : Int) ^ blen (x.m / 2 ^ ((blen x.m : Int) - p).toNat) ≤ 2 ^ N := two_pow_le (by omega)
      have f2 := two_pow_pos N
      refine blen_le ?_
      rw [Int.pow_succ]; split <;> omega
theorem cutD_sm {x : Dx} {N : Nat} {p : Int} {up : Bool} (hx : 0 ≤ x.m) (sx : x.Sm N) (hp : 0 ≤ p) : (cutD x p up).Sm (6 * N + 1) := (cutX_sm oneD_p (one_sm hx sx) hp).mono (by omega)
theorem overD_sm {a b : Dx} {N : Nat} {p : Int} {up : Bool} (ha : 0 ≤ a.m) (hb : 0 ≤ b.m) (sa : a.Sm N) (sb : b.Sm N) (p0 : 0 ≤ p) (p1 : p ≤ N) : (overD a b p up).Sm (100 * N + 100) := by
  unfold overD overX
  have m1 := oneD_p (d := a)
  have m2 := oneD_p (d := b)
  obtain ⟨s1, s2, s3⟩ := one_sm ha sa
  obtain ⟨s4, s5, s6⟩ := one_sm hb sb
  generalize oneD a = x at *
  generalize oneD b = y at *
  split
  · exact ⟨by show blen 0 ≤ _; simp [blen], by show _ ≤ (0 : Int); omega, by show (0 : Int) ≤ _; omega⟩
  · rename_i hx0
    generalize hk : max (p + 2 + (blen y.m : Int) - (blen x.m : Int)) 0 = k
    have k0 : 0 ≤ k := by omega
    have hM : 0 ≤ x.m * 2 ^ k.toNat := Int.mul_nonneg m1 (by have := two_pow_pos k.toNat; omega)
    have hMb : blen (x.m * 2 ^ k.toNat) ≤ 5 * N + 2 := by rw [blen_mul_pow (by omega)]; omega
    have hQ : 0 ≤ x.m * 2 ^ k.toNat / y.m := Int.ediv_nonneg hM m2
    have hQb := blen_mono (m := x.m * 2 ^ k.toNat / y.m) (n := x.m * 2 ^ k.toNat) (Int.ediv_le_self _ hM)
    obtain ⟨t1, t2⟩ := sticky_blen (b := decide (x.m * 2 ^ k.toNat % y.m ≠ 0)) hQ
    exact (cutD_sm (N := 13 * N + 10) mkD_p ((mkD_sm (N := 5 * N + 3) (M := 7 * N + 3) t1 (by omega) (by omega) (by omega)).mono (by omega)) p0).mono (by omega)
end Go.Proofs.YtdnbckfhfhfkoaaGreatDoor

namespace Go.Proofs.YtdnbckfhfhfkoaaGreatDoor
open Go.RowKit
def Vx.P (v : Vx) : Prop := 0 ≤ v.lo.m ∧ 0 ≤ v.hi.m
theorem Vx.Sm.mono {N M : Nat} {v : Vx} (h : v.Sm N) (k : N ≤ M) : v.Sm M := ⟨h.1.mono k, h.2.mono k⟩
theorem Vx.Wf.p {v : Vx} (h : v.Wf) : v.P := ⟨h.1.m0, h.2.m0⟩
def pointV (d : Dx) : Vx := ⟨oneD d, oneD d⟩
def trimV (v : Vx) (p : Int) : Vx := ⟨cutD v.lo p false, cutD v.hi p true⟩
def turnV (v : Vx) : Vx := ⟨negD v.hi, negD v.lo⟩
def scaleV (v : Vx) (n : Int) : Vx := ⟨shiftD v.lo n, shiftD v.hi n⟩
def rightV (v : Vx) : Bool := v.lo.fitsB && (v.hi.fitsB && decide (cmpD v.lo v.hi ≤ 0))
def sumV (v u : Vx) : Vx := ⟨plusD v.lo u.lo, plusD v.hi u.hi⟩
def plusV (v u : Vx) (p : Int) : Vx := trimV (sumV v u) p
def lessV (v u : Vx) (p : Int) : Vx := plusV v (turnV u) p
def prodV (v u : Vx) : Vx := spanL (timesD v.lo u.lo) [timesD v.lo u.hi, timesD v.hi u.lo, timesD v.hi u.hi]
def timesV (v u : Vx) (p : Int) : Vx := trimV (prodV v u) p
def quoV (v u : Vx) (p : Int) (up : Bool) : Vx := spanL (overD v.lo u.lo p up) [overD v.lo u.hi p up, overD v.hi u.lo p up, overD v.hi u.hi p up]
def divV (v u : Vx) (p : Int) : Vx := ⟨(quoV v u p false).lo, (quoV v u p true).hi⟩
theorem spanS_p {v : Vx} {d : Dx} (h : v.P) (k : 0 ≤ d.m) : (spanS v d).P := by
  unfold spanS
  constructor
  · show 0 ≤ Dx.m (if _ then _ else _); split <;> first | exact k | exact h.1
  · show 0 ≤ Dx.m (if _ then _ else _); split <;> first | exact k | exact h.2
theorem span4_p {a b c d : Dx} (ha : 0 ≤ a.m) (hb : 0 ≤ b.m) (hc : 0 ≤ c.m) (hd : 0 ≤ d.m) : (spanL a [b, c, d]).P := spanS_p (spanS_p (spanS_p ⟨ha, ha⟩ hb) hc) hd
theorem span4_sm {a b c d : Dx} {N : Nat} (ha : a.Sm N) (hb : b.Sm N) (hc : c.Sm N) (hd : d.Sm N) : (spanL a [b, c, d]).Sm N := spanS_sm (spanS_sm (spanS_sm ⟨ha, ha⟩ hb) hc) hd
theorem prodV_p (v u : Vx) : (prodV v u).P := span4_p timesD_p timesD_p timesD_p timesD_p
theorem prodV_sm {v u : Vx} {N : Nat} (hv : v.P) (hu : u.P) (sv : v.Sm N) (su : u.Sm N) : (prodV v u).Sm (N + N + (N + N)) :=
  span4_sm (timesD_sm hv.1 hu.1 sv.1 su.1) (timesD_sm hv.1 hu.2 sv.1 su.2) (timesD_sm hv.2 hu.1 sv.2 su.1) (timesD_sm hv.2 hu.2 sv.2 su.2)
def sRaw5 : List (FuncId × Spec) := [(119, rSpan)] ++ sRaw4
theorem sRaw5_ok : SpecsOk Tryz.prog sRaw5 := ⟨rSpan_ok, sRaw4_ok⟩
def eB (N : Int) (d : Dx) : Prop := -N ≤ d.e ∧ d.e ≤ N
def rPoint : Spec := specK [.d] fun (d : Dx) => (some (eB 4611686018427387904 d), vT (pointV d))
theorem rPoint_vc (d : Dx) (Q : Tv → Prop) : execF ⟨tys, sRaw5⟩ (fun _ => none) 0 Tryz.f91 [.agg (dyL false d)] Q = (((-4611686018427387904 : Int) ≤ d.e ∧ d.e ≤ (4611686018427387904 : Int)) ∧ ((-4611686018427387904 : Int) ≤ d.e ∧ d.e ≤ (4611686018427387904 : Int)) ∧ true = true ∧ Q (Tv.sv (Sv.agg (ivL true (Vx.mk (oneD d) (oneD d)))))) := by kernel_rfl
theorem rPoint_ok : SpecOk Tryz.prog 91 rPoint :=
  specK_ok (envOk tys_ok sRaw5_ok) mixed Tryz.func91 rfl (by decide) (by decide) fun (d : Dx) _ hp => ⟨fun _ => none, 0, (rPoint_vc d _).mpr ⟨hp, hp, rfl, rfl⟩⟩
def rTrim : Spec := specK [.v, .i .i64] fun (v : Vx) (p : Int) => (some (v.Sm 34359738368 ∧ 0 ≤ p ∧ p ≤ 1099511627776), vT (trimV v p))
theorem rTrim_vc (v : Vx) (p : Int) (Q : Tv → Prop) : execF ⟨tys, sRaw5⟩ (fun _ => none) 0 Tryz.f73 [.agg (ivL false v), .one (.int .i64 p)] Q = ((Dx.Sm (34359738368 : Nat) v.lo ∧ (0 : Int) ≤ p ∧ p ≤ (1099511627776 : Int)) ∧ (Dx.Sm (34359738368 : Nat) v.hi ∧ (0 : Int) ≤ p ∧ p ≤ (1099511627776 : Int)) ∧ true = true ∧ Q (Tv.sv (Sv.agg (ivL true (Vx.mk (cutD v.lo p false) (cutD v.hi p true)))))) := by kernel_rfl
theorem rTrim_ok : SpecOk Tryz.prog 73 rTrim :=
  specK_ok (envOk tys_ok sRaw5_ok) mixed Tryz.func73 rfl (by decide) (by decide) fun (v : Vx) _ (p : Int) _ hp => ⟨fun _ => none, 0, (rTrim_vc v p _).mpr ⟨⟨hp.1.1, hp.2⟩, ⟨hp.1.2, hp.2⟩, rfl, rfl⟩⟩
def rTurn : Spec := specK [.v] fun (v : Vx) => (some (eB 4611686018427387904 v.lo ∧ eB 4611686018427387904 v.hi), vT (turnV v))
theorem rTurn_vc (v : Vx) (Q : Tv → Prop) : execF ⟨tys, sRaw5⟩ (fun _ => none) 0 Tryz.f122 [.agg (ivL false v)] Q = (((-4611686018427387904 : Int) ≤ v.hi.e ∧ v.hi.e ≤ (4611686018427387904 : Int)) ∧ ((-4611686018427387904 : Int) ≤ v.lo.e ∧ v.lo.e ≤ (4611686018427387904 : Int)) ∧ true = true ∧ Q (Tv.sv (Sv.agg (ivL true (Vx.mk (negD v.hi) (negD v.lo)))))) := by kernel_rfl
theorem rTurn_ok : SpecOk Tryz.prog 122 rTurn :=
  specK_ok (envOk tys_ok sRaw5_ok) mixed Tryz.func122 rfl (by decide) (by decide) fun (v : Vx) _ hp => ⟨fun _ => none, 0, (rTurn_vc v _).mpr ⟨hp.2, hp.1, rfl, rfl⟩⟩
def rScale : Spec := specK [.v, .i .i64] fun (v : Vx) (n : Int) => (some (eB 2305843009213693952 v.lo ∧ eB 2305843009213693952 v.hi ∧ -2305843009213693952 ≤ n ∧ n ≤ 2305843009213693952), vT (scaleV v n))
theorem rScale_vc (v : Vx) (n : Int) (Q : Tv → Prop) : execF ⟨tys, sRaw5⟩ (fun _ => none) 0 Tryz.f89 [.agg (ivL false v), .one (.int .i64 n)] Q = (((-2305843009213693952 : Int) ≤ v.lo.e ∧ v.lo.e ≤ (2305843009213693952 : Int) ∧ (-2305843009213693952 : Int) ≤ n ∧ n ≤ (2305843009213693952 : Int)) ∧ ((-2305843009213693952 : Int) ≤ v.hi.e ∧ v.hi.e ≤ (2305843009213693952 : Int) ∧ (-2305843009213693952 : Int) ≤ n ∧ n ≤ (2305843009213693952 : Int)) ∧ true = true ∧ Q (Tv.sv (Sv.agg (ivL true (Vx.mk (shiftD v.lo n) (shiftD v.hi n)))))) := by kernel_rfl
theorem rScale_ok : SpecOk Tryz.prog 89 rScale :=
  specK_ok (envOk tys_ok sRaw5_ok) mixed Tryz.func89 rfl (by decide) (by decide) fun (v : Vx) _ (n : Int) _ hp => ⟨fun _ => none, 0, by
    obtain ⟨⟨h1, h2⟩, ⟨h3, h4⟩, h5, h6⟩ : eB 2305843009213693952 v.lo ∧ eB 2305843009213693952 v.hi ∧ -2305843009213693952 ≤ n ∧ n ≤ 2305843009213693952 := hp
    exact (rScale_vc v n _).mpr ⟨⟨h1, h2, h5, h6⟩, ⟨h3, h4, h5, h6⟩, rfl, rfl⟩⟩
theorem fits_sm {d : Dx} (h : d.fitsB = true) : d.Sm 65536 := by
  unfold Dx.fitsB greatB at h
  simp at h
  obtain ⟨⟨h1, h2⟩, h3⟩ := h
  refine ⟨?_, by omega, by omega⟩
  by_cases hp : 0 < d.m
  · have := blen_last hp
    have h2 := (words_ws d.m).nth ((ws d.m).length - 1)
    have hb : blen (nth (ws d.m) ((ws d.m).length - 1)) ≤ 64 := blen_le (by have := h2.2; simp at this ⊢; omega)
    omega
  · have : blen d.m ≤ 0 := blen_le (by show d.m < 2 ^ 0; omega)
    omega
def rRight : Spec := specK [.v] fun (v : Vx) => (none, bT (rightV v))
theorem rRight_vc (v : Vx) (Q : Tv → Prop) : execF ⟨tys, sRaw5⟩ (fun _ => none) 0 Tryz.f50 [.agg (ivL false v)] Q = (br (Dx.fitsB v.lo) (br (Dx.fitsB v.hi) ((Dx.Sm (68719476736 : Nat) v.lo ∧ Dx.Sm (68719476736 : Nat) v.hi) ∧ Q (Tv.sv (Sv.one (At.bool (leI (cmpD v.lo v.hi) (0 : Int)))))) (Q (Tv.sv (Sv.one (At.bool false))))) (Q (Tv.sv (Sv.one (At.bool false))))) := by kernel_rfl
theorem rRight_ok : SpecOk Tryz.prog 50 rRight :=
  specK_ok (envOk tys_ok sRaw5_ok) mixed Tryz.func50 rfl (by decide) (by decide) fun (v : Vx) _ _ => ⟨fun _ => none, 0, by
    refine (rRight_vc v _).mpr (br_intro (fun h1 => br_intro (fun h2 => ⟨⟨(fits_sm h1).mono (by omega), (fits_sm h2).mono (by omega)⟩, ?_⟩) fun h2 => ?_) fun h1 => ?_)
    · show _ = bT (rightV v); rw [rightV, h1, h2]; rfl
    · show _ = bT (rightV v); rw [rightV, h1, h2]; rfl
    · show _ = bT (rightV v); rw [rightV, h1]; rfl⟩
def rDiv : Spec := specK [.v, .v, .i .i64] fun (v : Vx) (u : Vx) (p : Int) => (some (v.Sm 67108864 ∧ u.Sm 67108864 ∧ u.lo.m ≠ 0 ∧ u.hi.m ≠ 0 ∧ 0 ≤ p ∧ p ≤ 67108864), vF (divV v u p))
theorem rDiv_vc (v u : Vx) (p : Int) (Q : Tv → Prop) : execF ⟨tys, sRaw5⟩ (fun _ => none) 0 Tryz.f90 [.agg (ivL false v), .agg (ivL false u), .one (.int .i64 p)] Q = ((Dx.Sm (67108864 : Nat) v.lo ∧ Dx.Sm (67108864 : Nat) u.lo ∧ Dx.m u.lo ≠ (0 : Int) ∧ (0 : Int) ≤ p ∧ p ≤ (67108864 : Int)) ∧ (Dx.Sm (67108864 : Nat) v.lo ∧ Dx.Sm (67108864 : Nat) u.hi ∧ Dx.m u.hi ≠ (0 : Int) ∧ (0 : Int) ≤ p ∧ p ≤ (67108864 : Int)) ∧ (Dx.Sm (67108864 : Nat) v.hi ∧ Dx.Sm (67108864 : Nat) u.lo ∧ Dx.m u.lo ≠ (0 : Int) ∧ (0 : Int) ≤ p ∧ p ≤ (67108864 : Int)) ∧ (Dx.Sm (67108864 : Nat) v.hi ∧ Dx.Sm (67108864 : Nat) u.hi ∧ Dx.m u.hi ≠ (0 : Int) ∧ (0 : Int) ≤ p ∧ p ≤ (67108864 : Int)) ∧ (Dx.Sm (68719476736 : Nat) (overD v.lo u.lo p false) ∧ Dx.Sm (68719476736 : Nat) (overD v.lo u.hi p false) ∧ Dx.Sm (68719476736 : Nat) (overD v.hi u.lo p false) ∧ Dx.Sm (68719476736 : Nat) (overD v.hi u.hi p false)) ∧ true = true ∧ (Dx.Sm (67108864 : Nat) v.lo ∧ Dx.Sm (67108864 : Nat) u.lo ∧ Dx.m u.lo ≠ (0 : Int) ∧ (0 : Int) ≤ p ∧ p ≤ (67108864 : Int)) ∧ (Dx.Sm (67108864 : Nat) v.lo ∧ Dx.Sm (67108864 : Nat) u.hi ∧ Dx.m u.hi ≠ (0 : Int) ∧ (0 : Int) ≤ p ∧ p ≤ (67108864 : Int)) ∧ (Dx.Sm (67108864 : Nat) v.hi ∧ Dx.Sm (67108864 : Nat) u.lo ∧ Dx.m u.lo ≠ (0 : Int) ∧ (0 : Int) ≤ p ∧ p ≤ (67108864 : Int)) ∧ (Dx.Sm (67108864 : Nat) v.hi ∧ Dx.Sm (67108864 : Nat) u.hi ∧ Dx.m u.hi ≠ (0 : Int) ∧ (0 : Int) ≤ p ∧ p ≤ (67108864 : Int)) ∧ (Dx.Sm (68719476736 : Nat) (overD v.lo u.lo p true) ∧ Dx.Sm (68719476736 : Nat) (overD v.lo u.hi p true) ∧ Dx.Sm (68719476736 : Nat) (overD v.hi u.lo p true) ∧ Dx.Sm (68719476736 : Nat) (overD v.hi u.hi p true)) ∧ true = true ∧ Q (Tv.sv (Sv.agg (ivL false (Vx.mk (spanL (overD v.lo u.lo p false) [overD v.lo u.hi p false, overD v.hi u.lo p false, overD v.hi u.hi p false]).lo (spanL (overD v.lo u.lo p true) [overD v.lo u.hi p true, overD v.hi u.lo p true, overD v.hi u.hi p true]).hi))))) := by kernel_rfl
theorem rDiv_ok : SpecOk Tryz.prog 90 rDiv :=
  specK_ok (envOk tys_ok sRaw5_ok) mixed Tryz.func90 rfl (by decide) (by decide) fun (v : Vx) hv (u : Vx) hu (p : Int) _ hp => ⟨fun _ => none, 0, by
    obtain ⟨⟨a1, a2⟩, ⟨b1, b2⟩, z1, z2, p0, p1⟩ : v.Sm 67108864 ∧ u.Sm 67108864 ∧ u.lo.m ≠ 0 ∧ u.hi.m ≠ 0 ∧ 0 ≤ p ∧ p ≤ 67108864 := hp
    have v1 := Dx.Wf.m0 hv.1
    have v2 := Dx.Wf.m0 hv.2
    have u1 := Dx.Wf.m0 hu.1
    have u2 := Dx.Wf.m0 hu.2
    have sz : ∀ {a b : Dx} {up : Bool}, 0 ≤ a.m → 0 ≤ b.m → a.Sm 67108864 → b.Sm 67108864 → (overD a b p up).Sm 68719476736 := fun ha hb sa sb => (overD_sm ha hb sa sb p0 p1).mono (by omega)
    refine (rDiv_vc v u p _).mpr ⟨⟨a1, b1, z1, p0, p1⟩, ⟨a1, b2, z2, p0, p1⟩, ⟨a2, b1, z1, p0, p1⟩, ⟨a2, b2, z2, p0, p1⟩, ⟨sz v1 u1 a1 b1, sz v1 u2 a1 b2, sz v2 u1 a2 b1, sz v2 u2 a2 b2⟩, rfl, ⟨a1, b1, z1, p0, p1⟩, ⟨a1, b2, z2, p0, p1⟩, ⟨a2, b1, z1, p0, p1⟩, ⟨a2, b2, z2, p0, p1⟩, ⟨sz v1 u1 a1 b1, sz v1 u2 a1 b2, sz v2 u1 a2 b1, sz v2 u2 a2 b2⟩, rfl, rfl⟩⟩
def sRaw6 : List (FuncId × Spec) := [(91, rPoint), (73, rTrim), (122, rTurn), (89, rScale), (50, rRight), (90, rDiv)] ++ sRaw5
theorem sRaw6_ok : SpecsOk Tryz.prog sRaw6 := ⟨rPoint_ok, rTrim_ok, rTurn_ok, rScale_ok, rRight_ok, rDiv_ok, sRaw5_ok⟩
def rPlus : Spec := specK [.v, .v, .i .i64] fun (v : Vx) (u : Vx) (p : Int) => (some (v.Sm 268435456 ∧ u.Sm 268435456 ∧ 0 ≤ p ∧ p ≤ 1099511627776), vT (plusV v u p))
theorem rPlus_vc (v u : Vx) (p : Int) (Q : Tv → Prop) : execF ⟨tys, sRaw6⟩ (fun _ => none) 0 Tryz.f121 [.agg (ivL false v), .agg (ivL false u), .one (.int .i64 p)] Q = ((Dx.Sm (68719476736 : Nat) v.lo ∧ Dx.Sm (68719476736 : Nat) u.lo) ∧ (Dx.Sm (68719476736 : Nat) v.hi ∧ Dx.Sm (68719476736 : Nat) u.hi) ∧ (Vx.Sm (34359738368 : Nat) (Vx.mk (plusD v.lo u.lo) (plusD v.hi u.hi)) ∧ (0 : Int) ≤ p ∧ p ≤ (1099511627776 : Int)) ∧ true = true ∧ Q (Tv.sv (Sv.agg (ivL true (trimV (Vx.mk (plusD v.lo u.lo) (plusD v.hi u.hi)) p))))) := by kernel_rfl
theorem rPlus_ok : SpecOk Tryz.prog 121 rPlus :=
  specK_ok (envOk tys_ok sRaw6_ok) mixed Tryz.func121 rfl (by decide) (by decide) fun (v : Vx) hv (u : Vx) hu (p : Int) _ hp => ⟨fun _ => none, 0, by
    obtain ⟨⟨a1, a2⟩, ⟨b1, b2⟩, p0, p1⟩ : v.Sm 268435456 ∧ u.Sm 268435456 ∧ 0 ≤ p ∧ p ≤ 1099511627776 := hp
    have s1 := plusD_sm (Dx.Wf.m0 hv.1) (Dx.Wf.m0 hu.1) a1 b1
    have s2 := plusD_sm (Dx.Wf.m0 hv.2) (Dx.Wf.m0 hu.2) a2 b2
    exact (rPlus_vc v u p _).mpr ⟨⟨a1.mono (by omega), b1.mono (by omega)⟩, ⟨a2.mono (by omega), b2.mono (by omega)⟩, ⟨⟨s1.mono (by omega), s2.mono (by omega)⟩, p0, p1⟩, rfl, rfl⟩⟩
def sRaw7 : List (FuncId × Spec) := (121, rPlus) :: sRaw6
theorem sRaw7_ok : SpecsOk Tryz.prog sRaw7 := ⟨rPlus_ok, sRaw6_ok⟩
def rLess : Spec := specK [.v, .v, .i .i64] fun (v : Vx) (u : Vx) (p : Int) => (some (v.Sm 134217728 ∧ u.Sm 134217728 ∧ 0 ≤ p ∧ p ≤ 1099511627776), vT (lessV v u p))
theorem rLess_vc (v u : Vx) (p : Int) (Q : Tv → Prop) : execF ⟨tys, sRaw7⟩ (fun _ => none) 0 Tryz.f92 [.agg (ivL false v), .agg (ivL false u), .one (.int .i64 p)] Q = ((eB (4611686018427387904 : Int) u.lo ∧ eB (4611686018427387904 : Int) u.hi) ∧ (Vx.Sm (268435456 : Nat) v ∧ Vx.Sm (268435456 : Nat) (turnV u) ∧ (0 : Int) ≤ p ∧ p ≤ (1099511627776 : Int)) ∧ true = true ∧ Q (Tv.sv (Sv.agg (ivL true (plusV v (turnV u) p))))) := by kernel_rfl
theorem Dx.Sm.eB {N : Nat} {M : Int} {d : Dx} (h : d.Sm N) (k : (N : Int) ≤ M) : eB M d := ⟨by have := h.2.1; omega, by have := h.2.2; omega⟩
theorem rLess_ok : SpecOk Tryz.prog 92 rLess :=
  specK_ok (envOk tys_ok sRaw7_ok) mixed Tryz.func92 rfl (by decide) (by decide) fun (v : Vx) hv (u : Vx) hu (p : Int) _ hp => ⟨fun _ => none, 0, by
    obtain ⟨⟨a1, a2⟩, ⟨b1, b2⟩, p0, p1⟩ : v.Sm 134217728 ∧ u.Sm 134217728 ∧ 0 ≤ p ∧ p ≤ 1099511627776 := hp
    exact (rLess_vc v u p _).mpr ⟨⟨b1.eB (by omega), b2.eB (by omega)⟩, ⟨⟨a1.mono (by omega), a2.mono (by omega)⟩, ⟨(negD_sm b2 (Dx.Wf.m0 hu.2)).mono (by omega), (negD_sm b1 (Dx.Wf.m0 hu.1)).mono (by omega)⟩, p0, p1⟩, rfl, rfl⟩⟩
def rTimes : Spec := specK [.v, .v, .i .i64] fun (v : Vx) (u : Vx) (p : Int) => (some (v.Sm 268435456 ∧ u.Sm 268435456 ∧ 0 ≤ p ∧ p ≤ 1099511627776), vT (timesV v u p))
theorem rTimes_vc (v u : Vx) (p : Int) (Q : Tv → Prop) : execF ⟨tys, sRaw7⟩ (fun _ => none) 0 Tryz.f93 [.agg (ivL false v), .agg (ivL false u), .one (.int .i64 p)] Q = ((Dx.Sm (274877906944 : Nat) v.lo ∧ Dx.Sm (274877906944 : Nat) u.lo) ∧ (Dx.Sm (274877906944 : Nat) v.lo ∧ Dx.Sm (274877906944 : Nat) u.hi) ∧ (Dx.Sm (274877906944 : Nat) v.hi ∧ Dx.Sm (274877906944 : Nat) u.lo) ∧ (Dx.Sm (274877906944 : Nat) v.hi ∧ Dx.Sm (274877906944 : Nat) u.hi) ∧ (Dx.Sm (68719476736 : Nat) (timesD v.lo u.lo) ∧ Dx.Sm (68719476736 : Nat) (timesD v.lo u.hi) ∧ Dx.Sm (68719476736 : Nat) (timesD v.hi u.lo) ∧ Dx.Sm (68719476736 : Nat) (timesD v.hi u.hi)) ∧ (Vx.Sm (34359738368 : Nat) (spanL (timesD v.lo u.lo) [timesD v.lo u.hi, timesD v.hi u.lo, timesD v.hi u.hi]) ∧ (0 : Int) ≤ p ∧ p ≤ (1099511627776 : Int)) ∧ true = true ∧ Q (Tv.sv (Sv.agg (ivL true (trimV (spanL (timesD v.lo u.lo) [timesD v.lo u.hi, timesD v.hi u.lo, timesD v.hi u.hi]) p))))) := by kernel_rfl
theorem rTimes_ok : SpecOk Tryz.prog 93 rTimes :=
  specK_ok (envOk tys_ok sRaw7_ok) mixed Tryz.func93 rfl (by decide) (by decide) fun (v : Vx) hv (u : Vx) hu (p : Int) _ hp => ⟨fun _ => none, 0, by
    obtain ⟨sv, su, p0, p1⟩ : v.Sm 268435456 ∧ u.Sm 268435456 ∧ 0 ≤ p ∧ p ≤ 1099511627776 := hp
    have v1 := Dx.Wf.m0 hv.1
    have v2 := Dx.Wf.m0 hv.2
    have u1 := Dx.Wf.m0 hu.1
    have u2 := Dx.Wf.m0 hu.2
    have sz : ∀ {a b : Dx}, 0 ≤ a.m → 0 ≤ b.m → a.Sm 268435456 → b.Sm 268435456 → (timesD a b).Sm 68719476736 := fun ha hb sa sb => (timesD_sm ha hb sa sb).mono (by omega)
    have sm : ∀ {a : Dx}, a.Sm 268435456 → a.Sm 274877906944 := fun h => h.mono (by omega)
    exact (rTimes_vc v u p _).mpr ⟨⟨sm sv.1, sm su.1⟩, ⟨sm sv.1, sm su.2⟩, ⟨sm sv.2, sm su.1⟩, ⟨sm sv.2, sm su.2⟩, ⟨sz v1 u1 sv.1 su.1, sz v1 u2 sv.1 su.2, sz v2 u1 sv.2 su.1, sz v2 u2 sv.2 su.2⟩, ⟨(prodV_sm (Vx.Wf.p hv) (Vx.Wf.p hu) sv su).mono (by omega), p0, p1⟩, rfl, rfl⟩⟩
/-- Is an interval narrow to p bits? -/
def narrowX (w l : Dx) (p : Int) : Bool :=
  decide (p ≤ 1048576) && (decide (w.e + (blen w.m : Int) - 1 + p ≤ l.e + (blen l.m : Int) - 1 + 1) && decide (cmpD (shiftD w p) l ≤ 0))
def narrowV (v : Vx) (p : Int) : Bool :=
  if v.lo.sgn ≠ v.hi.sgn then false else if v.lo.sgn = 0 then true else if (lessD v.hi v.lo).zeroB then true else narrowX (lessD v.hi v.lo) (if v.lo.sgn < 0 then absD v.hi else absD v.lo) p
def rNarrow : Spec := specK [.v, .i .i64] fun (v : Vx) (p : Int) => (some (v.Sm 67108864 ∧ 0 ≤ p), bT (narrowV v p))
theorem rNarrow_vc (v : Vx) (p : Int) (Q : Tv → Prop) : execF ⟨tys, sRaw7⟩ (fun _ => none) 0 Tryz.f94 [.agg (ivL false v), .one (.int .i64 p)] Q = (br (neI (Dx.sgn v.lo) (Dx.sgn v.hi)) (Q (Tv.sv (Sv.one (At.bool false)))) (br (eqI (Dx.sgn v.lo) (0 : Int)) (Q (Tv.sv (Sv.one (At.bool true)))) (((-4611686018427387904 : Int) ≤ v.lo.e ∧ v.lo.e ≤ (4611686018427387904 : Int)) ∧ br (ltI (Dx.sgn v.lo) (0 : Int)) (((-4611686018427387904 : Int) ≤ v.hi.e ∧ v.hi.e ≤ (4611686018427387904 : Int)) ∧ (Dx.Sm (34359738368 : Nat) v.hi ∧ Dx.Sm (34359738368 : Nat) v.lo) ∧ br (Dx.zeroB (lessD v.hi v.lo)) (Q (Tv.sv (Sv.one (At.bool true)))) (br (leI p (1048576 : Int)) (((-2305843009213693952 : Int) ≤ (lessD v.hi v.lo).e ∧ (lessD v.hi v.lo).e ≤ (2305843009213693952 : Int)) ∧ inR ((lessD v.hi v.lo).e + (↑(blen (Dx.m (lessD v.hi v.lo))) : Int) - (1 : Int) + p) ∧ ((-2305843009213693952 : Int) ≤ (absD v.hi).e ∧ (absD v.hi).e ≤ (2305843009213693952 : Int)) ∧ inR ((absD v.hi).e + (↑(blen (Dx.m (absD v.hi))) : Int) - (1 : Int) + (1 : Int)) ∧ br (leI ((lessD v.hi v.lo).e + (↑(blen (Dx.m (lessD v.hi v.lo))) : Int) - (1 : Int) + p) ((absD v.hi).e + (↑(blen (Dx.m (absD v.hi))) : Int) - (1 : Int) + (1 : Int))) (((-2305843009213693952 : Int) ≤ (lessD v.hi v.lo).e ∧ (lessD v.hi v.lo).e ≤ (2305843009213693952 : Int) ∧ (-2305843009213693952 : Int) ≤ p ∧ p ≤ (2305843009213693952 : Int)) ∧ (Dx.Sm (68719476736 : Nat) (shiftD (lessD v.hi v.lo) p) ∧ Dx.Sm (68719476736 : Nat) (absD v.hi)) ∧ true = true ∧ Q (Tv.sv (Sv.one (At.bool (leI (cmpD (shiftD (lessD v.hi v.lo) p) (absD v.hi)) (0 : Int)))))) (true = true ∧ Q (Tv.sv (Sv.one (At.bool false))))) (true = true ∧ Q (Tv.sv (Sv.one (At.bool false)))))) ((Dx.Sm (34359738368 : Nat) v.hi ∧ Dx.Sm (34359738368 : Nat) v.lo) ∧ br (Dx.zeroB (lessD v.hi v.lo)) (Q (Tv.sv (Sv.one (At.bool true)))) (br (leI p (1048576 : Int)) (((-2305843009213693952 : Int) ≤ (lessD v.hi v.lo).e ∧ (lessD v.hi v.lo).e ≤ (2305843009213693952 : Int)) ∧ inR ((lessD v.hi v.lo).e + (↑(blen (Dx.m (lessD v.hi v.lo))) : Int) - (1 : Int) + p) ∧ ((-2305843009213693952 : Int) ≤ (absD v.lo).e ∧ (absD v.lo).e ≤ (2305843009213693952 : Int)) ∧ inR ((absD v.lo).e + (↑(blen (Dx.m (absD v.lo))) : Int) - (1 : Int) + (1 : Int)) ∧ br (leI ((lessD v.hi v.lo).e + (↑(blen (Dx.m (lessD v.hi v.lo))) : Int) - (1 : Int) + p) ((absD v.lo).e + (↑(blen (Dx.m (absD v.lo))) : Int) - (1 : Int) + (1 : Int))) (((-2305843009213693952 : Int) ≤ (lessD v.hi v.lo).e ∧ (lessD v.hi v.lo).e ≤ (2305843009213693952 : Int) ∧ (-2305843009213693952 : Int) ≤ p ∧ p ≤ (2305843009213693952 : Int)) ∧ (Dx.Sm (68719476736 : Nat) (shiftD (lessD v.hi v.lo) p) ∧ Dx.Sm (68719476736 : Nat) (absD v.lo)) ∧ true = true ∧ Q (Tv.sv (Sv.one (At.bool (leI (cmpD (shiftD (lessD v.hi v.lo) p) (absD v.lo)) (0 : Int)))))) (true = true ∧ Q (Tv.sv (Sv.one (At.bool false))))) (true = true ∧ Q (Tv.sv (Sv.one (At.bool false))))))))) := by kernel_rfl
theorem rNarrow_part {w l : Dx} {p : Int} {r : Bool} (sw : w.Sm 4294967296) (sl : l.Sm 4294967296) (hw : 0 ≤ w.m) (p0 : 0 ≤ p) (e : w.zeroB = false → r = narrowX w l p) (e0 : w.zeroB = true → r = true) :
    br (Dx.zeroB w) (Tv.sv (Sv.one (At.bool true)) = bT r) (br (leI p 1048576) (((-2305843009213693952 : Int) ≤ w.e ∧ w.e ≤ (2305843009213693952 : Int)) ∧ inR (w.e + (blen w.m : Int) - 1 + p) ∧ ((-2305843009213693952 : Int) ≤ l.e ∧ l.e ≤ (2305843009213693952 : Int)) ∧ inR (l.e + (blen l.m : Int) - 1 + 1) ∧
      br (leI (w.e + (blen w.m : Int) - 1 + p) (l.e + (blen l.m : Int) - 1 + 1)) (((-2305843009213693952 : Int) ≤ w.e ∧ w.e ≤ (2305843009213693952 : Int) ∧ (-2305843009213693952 : Int) ≤ p ∧ p ≤ (2305843009213693952 : Int)) ∧ (Dx.Sm 68719476736 (shiftD w p) ∧ Dx.Sm 68719476736 l) ∧ true = true ∧ Tv.sv (Sv.one (At.bool (leI (cmpD (shiftD w p) l) 0))) = bT r) (true = true ∧ Tv.sv (Sv.one (At.bool false)) = bT r)) (true = true ∧ Tv.sv (Sv.one (At.bool false)) = bT r)) := by
  obtain ⟨w1, w2, w3⟩ := sw
  obtain ⟨l1, l2, l3⟩ := sl
  refine br_intro (fun h => by rw [e0 h]) fun h => ?_
  rw [e h]
  unfold narrowX
  refine br_intro (fun h1 => ?_) fun h1 => ⟨rfl, by rw [decide_eq_false (leI_false.1 h1)]; rfl⟩
  have q := leI_true.1 h1
  refine ⟨⟨by omega, by omega⟩, ⟨by omega, by omega⟩, ⟨by omega, by omega⟩, ⟨by omega, by omega⟩, br_intro (fun h2 => ?_) fun h2 => ⟨rfl, by rw [decide_eq_false (leI_false.1 h2), Bool.false_and, Bool.and_false]⟩⟩
  refine ⟨⟨by omega, by omega, by omega, by omega⟩, ⟨(shiftD_sm (N := 4294967296) (M := 1048576) hw ⟨w1, w2, w3⟩ (by omega) (by omega)).mono (by omega), Dx.Sm.mono ⟨l1, l2, l3⟩ (by omega)⟩, rfl, ?_⟩
  rw [decide_eq_true q, decide_eq_true (leI_true.1 h2)]; rfl
theorem rNarrow_ok : SpecOk Tryz.prog 94 rNarrow :=
  specK_ok (envOk tys_ok sRaw7_ok) mixed Tryz.func94 rfl (by decide) (by decide) fun (v : Vx) hv (p : Int) _ hp => ⟨fun _ => none, 0, by
    obtain ⟨⟨a1, a2⟩, p0⟩ : v.Sm 67108864 ∧ 0 ≤ p := hp
    have v1 := Dx.Wf.m0 hv.1
    have v2 := Dx.Wf.m0 hv.2
    have sl := lessD_sm v2 v1 a2 a1
    show execF _ _ _ _ _ (fun t => t = bT (narrowV v p))
    refine (rNarrow_vc v p _).mpr (br_intro (fun h => ?_) fun h => br_intro (fun h1 => ?_) fun h1 => ⟨⟨by have := a1.2.1; omega, by have := a1.2.2; omega⟩, br_intro (fun h2 => ⟨⟨by have := a2.2.1; omega, by have := a2.2.2; omega⟩, ⟨a2.mono (by omega), a1.mono (by omega)⟩, ?_⟩) fun h2 => ⟨⟨a2.mono (by omega), a1.mono (by omega)⟩, ?_⟩⟩)
    · rw [narrowV, if_pos (neI_true.1 h)]
    · rw [narrowV, if_neg (by have := neI_false.1 h; omega), if_pos (eqI_true.1 h1)]
    · refine rNarrow_part (sl.mono (by omega)) ((absD_sm v2 a2).mono (by omega)) lessD_p p0 (fun h3 => ?_) fun h3 => ?_
      · rw [narrowV, if_neg (by have := neI_false.1 h; omega), if_neg (eqI_false.1 h1), h3, if_pos (ltI_true.1 h2)]; rfl
      · rw [narrowV, if_neg (by have := neI_false.1 h; omega), if_neg (eqI_false.1 h1), h3]; rfl
    · refine rNarrow_part (sl.mono (by omega)) ((absD_sm v1 a1).mono (by omega)) lessD_p p0 (fun h3 => ?_) fun h3 => ?_
      · rw [narrowV, if_neg (by have := neI_false.1 h; omega), if_neg (eqI_false.1 h1), h3, if_neg (ltI_false.1 h2)]; rfl
      · rw [narrowV, if_neg (by have := neI_false.1 h; omega), if_neg (eqI_false.1 h1), h3]; rfl⟩
def sRaw8 : List (FuncId × Spec) := [(92, rLess), (93, rTimes), (94, rNarrow)] ++ sRaw7
theorem sRaw8_ok : SpecsOk Tryz.prog sRaw8 := ⟨rLess_ok, rTimes_ok, rNarrow_ok, sRaw7_ok⟩
end Go.Proofs.YtdnbckfhfhfkoaaGreatDoor

namespace Go.Proofs.YtdnbckfhfhfkoaaGreatDoor
open Go.RowKit
/-- New or not is forgotten. -/
def fgA : At → At
  | .words _ xs => .words false xs
  | a => a
def fgL : List At → List At
  | [] => []
  | a :: l => fgA a :: fgL l
def fgS : Sv → Sv
  | .one a => .one (fgA a)
  | .agg l => .agg (fgL l)
def fgSs : List Sv → List Sv
  | [] => []
  | a :: l => fgS a :: fgSs l
def fgT : Tv → Tv
  | .sv s => .sv (fgS s)
  | .tup l => .tup (fgSs l)
section
variable {C : Base} {w : World}
theorem rep_fgA {v : Value} {a : At} (h : Rep C noBox w v a) : Rep C noBox w v (fgA a) := by
  cases a with
  | words nw xs => exact (rep_wf h).2
  | _ => exact h
theorem rep_fgL : ∀ {vs : List Value} {l : List At}, RepL C noBox w vs l → RepL C noBox w vs (fgL l)
  | [], [], _ => trivial
  | _ :: _, _ :: _, ⟨h, k⟩ => ⟨rep_fgA h, rep_fgL k⟩
theorem rep_fgS {v : Value} {s : Sv} (h : RepS C noBox w v s) : RepS C noBox w v (fgS s) := by
  cases s with
  | one a => exact rep_fgA h
  | agg l => obtain ⟨vs, e, h⟩ := h; exact ⟨vs, e, rep_fgL h⟩
theorem rep_fgSs : ∀ {vs : List Value} {l : List Sv}, RepSs C noBox w vs l → RepSs C noBox w vs (fgSs l)
  | [], [], _ => trivial
  | _ :: _, _ :: _, ⟨h, k⟩ => ⟨rep_fgS h, rep_fgSs k⟩
theorem rep_fgT {v : Value} {t : Tv} (h : RepT C noBox w v t) : RepT C noBox w v (fgT t) := by
  cases t with
  | sv s => exact rep_fgS h
  | tup l => obtain ⟨vs, e, h⟩ := h; exact ⟨vs, e, rep_fgSs h⟩
end
/-- What is known of arguments. -/
def wf1 : At → Prop
  | .words _ xs => WfW xs
  | _ => True
def wfL : List At → Prop
  | [] => True
  | a :: l => wf1 a ∧ wfL l
def wfB : At → Prop
  | .ref cs => wfL cs
  | .rows _ _ _ cs => wfL cs
  | a => wf1 a
def wfBs : List At → Prop
  | [] => True
  | a :: l => wfB a ∧ wfBs l
def wfS : Sv → Prop
  | .one (.fn _ cs) => wfBs cs
  | .one a => wfB a
  | .agg l => wfBs l
def wfSs : List Sv → Prop
  | [] => True
  | s :: l => wfS s ∧ wfSs l
section
variable {C : Base} {w : World}
theorem rep_wf1 {v : Value} {a : At} (h : Rep C noBox w v a) : wf1 a := by
  cases a with
  | words nw xs => exact (rep_wf h).1
  | _ => exact trivial
theorem rep_wfL (f : Nat → Value) : ∀ (l : List At) (k : Nat), (∀ (i : Nat) a, l[i]? = some a → Rep C noBox w (f (k + i)) a) → wfL l
  | [], _, _ => trivial
  | a :: l, k, h => ⟨rep_wf1 (h 0 a rfl), rep_wfL f l (k + 1) fun i x hx => by have := h (i + 1) x hx; rwa [show k + (i + 1) = k + 1 + i by omega] at this⟩
theorem rep_wfB {v : Value} {a : At} (h : Rep C noBox w v a) : wfB a := by
  cases h with
  | words h => exact rep_wf1 (.words h)
  | ref vs _ _ _ h => exact rep_wfL vs _ 0 fun i a hi => by rw [Nat.zero_add]; exact h i a hi
  | rows vs _ _ _ _ _ _ _ _ h => exact rep_wfL vs _ 0 fun i a hi => by rw [Nat.zero_add]; exact h i a hi
  | _ => exact trivial
theorem rep_wfBs : ∀ {vs : List Value} {l : List At}, RepL C noBox w vs l → wfBs l
  | [], [], _ => trivial
  | _ :: _, _ :: _, ⟨h, k⟩ => ⟨rep_wfB h, rep_wfBs k⟩
theorem rep_wfBs' : ∀ {vs : List Value} {l : List At}, vs.length = l.length → (∀ (i : Nat) v a, vs[i]? = some v → l[i]? = some a → Rep C noBox w v a) → wfBs l
  | [], [], _, _ => trivial
  | v :: _, a :: _, hl, h => ⟨rep_wfB (h 0 v a rfl rfl), rep_wfBs' (by simpa using hl) fun i v a hv ha => h (i + 1) v a hv ha⟩
theorem rep_wfS {v : Value} {s : Sv} (h : RepS C noBox w v s) : wfS s := by
  cases s with
  | agg l => obtain ⟨vs, e, h⟩ := h; exact rep_wfBs h
  | one a =>
    have q : Rep C noBox w v a := h
    clear h
    cases q with
    | fn hl k => exact rep_wfBs' hl k
    | words k => exact rep_wfB (.words k)
    | ref vs hg ha hc k => exact rep_wfB (.ref vs hg ha hc k)
    | rows vs hl hn hm hg ha hX hb hc k => exact rep_wfB (.rows vs hl hn hm hg ha hX hb hc k)
    | _ => exact trivial
theorem rep_wfSs : ∀ {vs : List Value} {l : List Sv}, RepSs C noBox w vs l → wfSs l
  | [], [], _ => trivial
  | _ :: _, _ :: _, ⟨h, k⟩ => ⟨rep_wfS h, rep_wfSs k⟩
end
/-- A word told by patterns, out of its function's run; it may forget what is new. -/
theorem specOk_pat {P : Program} {E : Env} (hE : EnvOk P E) (hm : P.follows .mixedOrders = true) {f : FuncId} {fn : Func} {c : Code} (hf : P.funcs[f]? = some fn) (hb : fn.body = some c) (hname : (fn.name == "runtime.NumGoroutine") = false) {sp : Spec} (k : Nat) (hk : k ≤ fn.ntmps)
    (h : ∀ l p t, wfSs l → sp l = (p, t) → (match p with | none => True | some p => p) → l.length ≤ k ∧ ∃ inv fuel, execF E inv fuel fn l (fun x => x = t ∨ fgT x = t)) : SpecOk P f sp := by
  refine ⟨⟨fn, c, hf, hname, hb⟩, fun C w vs l hC hX hT hvs hp => ?_⟩
  obtain ⟨hl, inv, fuel, h⟩ := h l (sp l).1 (sp l).2 (rep_wfSs hvs) rfl hp
  refine (execF_ok hE hm hf h hC hX hT hvs (by rw [hvs.length]; omega)).mono ?_
  rintro e w' ⟨v, t, rfl, h0, h1, h2⟩
  rcases h0 with rfl | h0
  · exact ⟨v, rfl, h1, h2⟩
  · exact ⟨v, rfl, h0 ▸ rep_fgT h1, h2⟩
/-- As VcK, forgetting what is new. -/
def VcKW (E : Env) (fn : Func) : (ks : List Ak) → AFun ks → (List Sv → List Sv) → Prop
  | [], g, acc => (match g.1 with | none => True | some p => p) → ∃ inv fuel, execF E inv fuel fn (acc []) (fun t => t = g.2 ∨ fgT t = g.2)
  | k :: ks, g, acc => ∀ x : k.T, k.wf x → VcKW E fn ks (g x) (fun r => acc (k.enc x :: r))
theorem specKW_ok {P : Program} {E : Env} (hE : EnvOk P E) (hm : P.follows .mixedOrders = true) {f : FuncId} {fn : Func} {c : Code} (hf : P.funcs[f]? = some fn) (hb : fn.body = some c) (hname : (fn.name == "runtime.NumGoroutine") = false) {ks : List Ak} {g : AFun ks} (hk : ks.length ≤ fn.ntmps)
    (h : VcKW E fn ks g id) : SpecOk P f (specK ks g) := by
  refine ⟨⟨fn, c, hf, hname, hb⟩, fun C w vs l hC hX hT hvs hp => ?_⟩
  have key : ∀ (ks : List Ak) (g : AFun ks) (acc : List Sv → List Sv) (l : List Sv) (vs : List Value), VcKW E fn ks g acc → RepSs C noBox w vs l → (match (specK ks g l).1 with | none => True | some p => p) →
      l.length = ks.length ∧ ∃ l', RepSs C noBox w vs l' ∧ l'.length = ks.length ∧ ∃ inv fuel, execF E inv fuel fn (acc l') (fun t => t = (specK ks g l).2 ∨ fgT t = (specK ks g l).2) := by
    intro ks
    induction ks with
    | nil =>
      intro g acc l vs h hr hp
      cases l with
      | nil => exact ⟨rfl, [], hr, rfl, h hp⟩
      | cons => exact hp.elim
    | cons k ks ih =>
      intro g acc l vs h hr hp
      cases l with
      | nil => exact hp.elim
      | cons s l =>
        cases vs with
        | nil => exact hr.elim
        | cons v vs =>
          have e : specK (k :: ks) g (s :: l) = (match k.dec s with | some x => specK ks (g x) l | none => noSpec) := rfl
          rw [e] at hp ⊢
          cases hd : k.dec s with
          | none => rw [hd] at hp; exact hp.elim
          | some x =>
            rw [hd] at hp
            obtain ⟨h1, h2⟩ := dec_ok hd hr.1
            obtain ⟨h3, l', h4, h5, h6⟩ := ih (g x) _ l vs (h x h1) hr.2 hp
            exact ⟨by simp [h3], k.enc x :: l', ⟨h2, h4⟩, by simp [h5], h6⟩
  obtain ⟨h1, l', h2, h3, inv, fuel, h4⟩ := key ks g id l vs h hvs hp
  refine (execF_ok hE hm hf h4 hC hX hT h2 (by rw [hvs.length, h1]; exact hk)).mono ?_
  rintro e w' ⟨v, t, rfl, h0, h1, h2⟩
  rcases h0 with rfl | h0
  · exact ⟨v, rfl, h1, h2⟩
  · exact ⟨v, rfl, h0 ▸ rep_fgT h1, h2⟩
end Go.Proofs.YtdnbckfhfhfkoaaGreatDoor

namespace Go.Proofs.YtdnbckfhfhfkoaaGreatDoor
open Go.RowKit
def p2 (e : Int) : Rat := 2 ^ e
theorem p2_pos (e : Int) : 0 < p2 e := Rat.zpow_pos (by decide)
theorem p2_add (a b : Int) : p2 (a + b) = p2 a * p2 b := Rat.zpow_add (by decide) a b
theorem p2_zero : p2 0 = 1 := Rat.zpow_zero 2
theorem p2_nat (n : Nat) : p2 n = ((2 ^ n : Int) : Rat) := by
  unfold p2; rw [Rat.zpow_natCast, Rat.intCast_pow]; rfl
theorem p2_toNat {n : Int} (h : 0 ≤ n) : p2 n = ((2 ^ n.toNat : Int) : Rat) := by
  rw [← p2_nat, Int.toNat_of_nonneg h]
theorem p2_neg (e : Int) : p2 (-e) * p2 e = 1 := by rw [← p2_add, Int.add_left_neg, p2_zero]
theorem p2_sub (a b : Int) : p2 (a - b) * p2 b = p2 a := by rw [← p2_add]; congr 1; omega
/-- The number itself. -/
def Dx.rv (d : Dx) : Rat := (d.sm : Rat) * p2 d.e
theorem rv_zero {d : Dx} (h : d.m = 0) : d.rv = 0 := by
  unfold Dx.rv Dx.sm; rw [h]
  cases d.neg <;> simp
theorem sgnm (neg : Bool) (a b : Int) : (if neg then -(a * b) else a * b) = a * (if neg then -b else b) := by cases neg <;> simp [Int.mul_neg]
theorem rv_mkD {neg : Bool} {m e : Int} (h : 0 ≤ m) : (mkD neg m e).rv = ((if neg then -m else m : Int) : Rat) * p2 e := by
  by_cases h0 : m = 0
  · subst h0; rw [mkD_zero, rv_zero (by rfl)]; cases neg <;> simp
  · obtain ⟨h1, h2⟩ := tz_div (m := m) (by omega)
    have hm := mkD_m (neg := neg) (e := e) h
    have hn : (mkD neg m e).neg = neg := by unfold mkD; rw [if_neg h0]
    have he : (mkD neg m e).e = e + (tz m : Int) := by unfold mkD; rw [if_neg h0]
    unfold Dx.rv Dx.sm
    rw [hm, hn, he, p2_add, p2_nat]
    conv => rhs; rw [h1, sgnm, Rat.intCast_mul]
    grind
theorem rv_mkS {s e : Int} : (mkS s e).rv = (s : Rat) * p2 e := by
  unfold mkS; rw [rv_mkD (by omega)]
  congr 2
  by_cases h : s < 0
  · rw [decide_eq_true h]; simp only [if_true]; omega
  · rw [decide_eq_false h]; simp; omega
theorem rv_one {d : Dx} (h : 0 ≤ d.m) : (oneD d).rv = d.rv := by unfold oneD; rw [rv_mkD h]; rfl
theorem rv_neg {d : Dx} (h : 0 ≤ d.m) : (negD d).rv = -d.rv := by
  unfold negD; rw [rv_mkD h]; unfold Dx.rv Dx.sm
  cases d.neg <;> simp [Rat.neg_mul]
theorem rv_abs {d : Dx} (h : 0 ≤ d.m) : (absD d).rv = (d.m : Rat) * p2 d.e := by
  unfold absD; rw [rv_mkD h]; simp
theorem rv_shift {d : Dx} {n : Int} (h : 0 ≤ d.m) : (shiftD d n).rv = d.rv * p2 n := by
  unfold shiftD; rw [rv_mkD h, p2_add]; unfold Dx.rv Dx.sm; rw [Rat.mul_assoc]
theorem rv_times {a b : Dx} (ha : 0 ≤ a.m) (hb : 0 ≤ b.m) : (timesD a b).rv = a.rv * b.rv := by
  unfold timesD; rw [rv_mkD (Int.mul_nonneg ha hb), p2_add]
  have e : (if (!(a.neg == b.neg)) = true then -(a.m * b.m) else a.m * b.m) = a.sm * b.sm := by
    unfold Dx.sm; cases a.neg <;> cases b.neg <;> simp [Int.mul_neg, Int.neg_mul]
  rw [e, Rat.intCast_mul]; unfold Dx.rv; grind
theorem rv_scl {d : Dx} {mn : Int} (h : mn ≤ d.e) : d.rv = (d.scl mn : Rat) * p2 mn := by
  unfold Dx.rv Dx.scl
  rw [Rat.intCast_mul, ← p2_toNat (by omega), Rat.mul_assoc, p2_sub]
theorem rv_plusX {x y : Dx} : (plusX x y).rv = x.rv + y.rv := by
  unfold plusX
  split
  · rename_i h; rw [rv_zero h, Rat.zero_add]
  · split
    · rename_i h; rw [rv_zero h, Rat.add_zero]
    · rw [rv_mkS, rv_scl (d := x) (mn := min x.e y.e) (by omega), rv_scl (d := y) (mn := min x.e y.e) (by omega), Rat.intCast_add]
      unfold Dx.scl; grind
theorem rv_plus {a b : Dx} (ha : 0 ≤ a.m) (hb : 0 ≤ b.m) : (plusD a b).rv = a.rv + b.rv := by unfold plusD; rw [rv_plusX, rv_one ha, rv_one hb]
theorem rv_less {a b : Dx} (ha : 0 ≤ a.m) (hb : 0 ≤ b.m) : (lessD a b).rv = a.rv - b.rv := by unfold lessD; rw [rv_plus ha negD_p, rv_neg hb, Rat.sub_eq_add_neg]
theorem cmpI_cases (a b : Int) : (cmpI a b = -1 ∧ a < b) ∨ (cmpI a b = 0 ∧ a = b) ∨ (cmpI a b = 1 ∧ b < a) := by
  unfold cmpI; split
  · left; exact ⟨rfl, by assumption⟩
  · split <;> omega
theorem cmpD_cases (a b : Dx) : (cmpD a b = -1 ∧ a.rv < b.rv) ∨ (cmpD a b = 0 ∧ a.rv = b.rv) ∨ (cmpD a b = 1 ∧ b.rv < a.rv) := by
  have ea := rv_scl (d := a) (mn := min a.e b.e) (by omega)
  have eb := rv_scl (d := b) (mn := min a.e b.e) (by omega)
  have p := p2_pos (min a.e b.e)
  rw [ea, eb]
  unfold cmpD
  rcases cmpI_cases (a.scl (min a.e b.e)) (b.scl (min a.e b.e)) with ⟨h, k⟩ | ⟨h, k⟩ | ⟨h, k⟩
  · left; exact ⟨h, (Rat.mul_lt_mul_right p).2 (Rat.intCast_lt_intCast.2 k)⟩
  · right; left; exact ⟨h, by rw [k]⟩
  · right; right; exact ⟨h, (Rat.mul_lt_mul_right p).2 (Rat.intCast_lt_intCast.2 k)⟩
theorem cmpD_le {a b : Dx} : cmpD a b ≤ 0 ↔ a.rv ≤ b.rv := by rcases cmpD_cases a b with ⟨h, k⟩ | ⟨h, k⟩ | ⟨h, k⟩ <;> rw [h] <;> simp <;> grind
theorem cmpD_lt0 {a b : Dx} : cmpD a b < 0 ↔ a.rv < b.rv := by rcases cmpD_cases a b with ⟨h, k⟩ | ⟨h, k⟩ | ⟨h, k⟩ <;> rw [h] <;> simp <;> grind
theorem cmpD_gt0 {a b : Dx} : 0 < cmpD a b ↔ b.rv < a.rv := by rcases cmpD_cases a b with ⟨h, k⟩ | ⟨h, k⟩ | ⟨h, k⟩ <;> rw [h] <;> simp <;> grind
theorem cmpD_eq0 {a b : Dx} : cmpD a b = 0 ↔ a.rv = b.rv := by rcases cmpD_cases a b with ⟨h, k⟩ | ⟨h, k⟩ | ⟨h, k⟩ <;> rw [h] <;> simp <;> grind
theorem sgn_rv {d : Dx} (h : 0 ≤ d.m) : (d.sgn = 0 ∧ d.rv = 0) ∨ (d.sgn = 1 ∧ 0 < d.rv) ∨ (d.sgn = -1 ∧ d.rv < 0) := by
  have p := p2_pos d.e
  rcases scl_sgn h d.e with ⟨a, b⟩ | ⟨a, _, _, b, c⟩ | ⟨a, _, _, b, c⟩
  · left; refine ⟨a, ?_⟩; rw [rv_scl (Int.le_refl _), b]; simp
  · right; left; refine ⟨a, ?_⟩; rw [rv_scl (Int.le_refl _), b]; exact Rat.mul_pos (Rat.intCast_pos.2 c) p
  · right; right; refine ⟨a, ?_⟩; rw [rv_scl (Int.le_refl _), b]
    have : 0 < ((d.m * 2 ^ (d.e - d.e).toNat : Int) : Rat) * p2 d.e := Rat.mul_pos (Rat.intCast_pos.2 c) p
    rw [Rat.intCast_neg]; grind
theorem sgn_less {a b : Dx} (ha : 0 ≤ a.m) (hb : 0 ≤ b.m) : (lessD a b).sgn = cmpD a b := by
  have := rv_less ha hb
  rcases sgn_rv (lessD_p (a := a) (b := b)) with ⟨h, k⟩ | ⟨h, k⟩ | ⟨h, k⟩ <;> rcases cmpD_cases a b with ⟨h', k'⟩ | ⟨h', k'⟩ | ⟨h', k'⟩ <;> rw [h, h'] <;> grind
end Go.Proofs.YtdnbckfhfhfkoaaGreatDoor

namespace Go.Proofs.YtdnbckfhfhfkoaaGreatDoor
open Go.RowKit
def fForm : Spec := specK [.b, .w, .i .i64] fun (neg : Bool) (xs : List Int) (e : Int) => (some (-4611686018427387904 ≤ e ∧ e ≤ 4611686018427387904), dT (mkD neg (val xs) e))
theorem fForm_vc (neg : Bool) (xs : List Int) (e : Int) (Q : Tv → Prop) : execF ⟨tys, sRef3⟩ (fun _ => none) 0 Tryz.f66 [.one (.bool neg), .one (.words false xs), .one (.int .i64 e)] Q = (br (eqI (↑(List.length (ws (val xs))) : Int) (0 : Int)) (Q (Tv.sv (Sv.agg [At.bool false, At.words true [], At.int IntKind.i64 (0 : Int)]))) (((0 : Int) ≤ (↑(tz (val (ws (val xs)))) : Int) ∧ (↑(tz (val (ws (val xs)))) : Int) ≤ (9007199254740992 : Int)) ∧ inR (e + (↑(tz (val (ws (val xs)))) : Int)) ∧ Q (Tv.sv (Sv.agg [At.bool neg, At.words true (ws (val (ws (val xs)) / (2 : Int) ^ Int.toNat (↑(tz (val (ws (val xs)))) : Int))), At.int IntKind.i64 (e + (↑(tz (val (ws (val xs)))) : Int))])))) := by kernel_rfl
theorem fForm_ok : SpecOk Tryz.prog 66 fForm :=
  specK_ok (envOk tys_ok sRef3_ok) mixed Tryz.func66 rfl (by decide) (by decide) fun neg _ xs hxs (e : Int) _ hp => ⟨fun _ => none, 0, by
    have h0 : -4611686018427387904 ≤ e := hp.1
    have h1 : e ≤ 4611686018427387904 := hp.2
    have hv := WfW.val0 hxs
    have ht := tz_small hxs.1 hxs.2
    refine (fForm_vc neg xs e _).mpr (br_intro (fun h => ?_) (fun h => ?_))
    · rw [len_zero hv, decide_eq_true_eq] at h
      show _ = dT (mkD neg (val xs) e)
      rw [h, mkD_zero]
      rfl
    · rw [len_zero hv, decide_eq_false_iff_not] at h
      rw [val_ws hv]
      refine ⟨⟨by omega, by omega⟩, ⟨by omega, by omega⟩, ?_⟩
      show _ = dT (mkD neg (val xs) e)
      rw [mkD, if_neg h, Int.toNat_natCast]
      rfl⟩
def fZero : Spec := specK [.d] fun (d : Dx) => (none, bT d.zeroB)
theorem fZero_vc (d : Dx) (Q : Tv → Prop) : execF ⟨tys, sRef3⟩ (fun _ => none) 0 Tryz.f42 [.agg (dyL false d)] Q = (Q (Tv.sv (Sv.one (At.bool (eqI (↑(List.length (ws (val d.xs))) : Int) (0 : Int)))))) := by kernel_rfl
theorem fZero_ok : SpecOk Tryz.prog 42 fZero :=
  specK_ok (envOk tys_ok sRef3_ok) mixed Tryz.func42 rfl (by decide) (by decide) fun (d : Dx) hd _ => ⟨fun _ => none, 0, by
    refine (fZero_vc d _).mpr ?_
    show _ = bT d.zeroB
    rw [len_zero (WfW.val0 hd)]
    rfl⟩
def fRight : Spec := specK [.d] fun (d : Dx) => (none, bT d.fitsB)
theorem fRight_vc (d : Dx) (Q : Tv → Prop) : execF ⟨tys, sRef3⟩ (fun _ => none) 0 Tryz.f20 [.agg (dyL false d)] Q = (br (!greatB (val d.xs)) (br (leI (-32768 : Int) d.e) (Q (Tv.sv (Sv.one (At.bool (leI d.e (32768 : Int)))))) (Q (Tv.sv (Sv.one (At.bool false))))) (Q (Tv.sv (Sv.one (At.bool false))))) := by kernel_rfl
theorem fRight_ok : SpecOk Tryz.prog 20 fRight :=
  specK_ok (envOk tys_ok sRef3_ok) mixed Tryz.func20 rfl (by decide) (by decide) fun (d : Dx) _ _ => ⟨fun _ => none, 0, by
    show execF _ _ _ _ _ (fun t => t = bT d.fitsB)
    refine (fRight_vc d _).mpr (br_intro (fun h => br_intro (fun h' => ?_) fun h' => ?_) fun h => ?_)
    · unfold Dx.fitsB Dx.m; rw [h, show decide (-32768 ≤ d.e) = true from h']; rfl
    · unfold Dx.fitsB Dx.m; rw [h, show decide (-32768 ≤ d.e) = false from h']; rfl
    · unfold Dx.fitsB Dx.m; rw [h]; rfl⟩
def fTop : Spec := specK [.d] fun (d : Dx) => (some (eB 2305843009213693952 d), iT (d.e + blen d.m - 1))
theorem fTop_vc (d : Dx) (Q : Tv → Prop) : execF ⟨tys, sRef3⟩ (fun _ => none) 0 Tryz.f53 [.agg (dyL false d)] Q = (inR (d.e + (↑(blen (val d.xs)) : Int)) ∧ inR (d.e + (↑(blen (val d.xs)) : Int) - (1 : Int)) ∧ true = true ∧ Q (Tv.sv (Sv.one (At.int IntKind.i64 (d.e + (↑(blen (val d.xs)) : Int) - (1 : Int)))))) := by kernel_rfl
theorem fTop_ok : SpecOk Tryz.prog 53 fTop :=
  specK_ok (envOk tys_ok sRef3_ok) mixed Tryz.func53 rfl (by decide) (by decide) fun (d : Dx) hd hp => ⟨fun _ => none, 0, by
    have hb := blen_wf hd
    have h0 : -2305843009213693952 ≤ d.e := hp.1
    have h1 : d.e ≤ 2305843009213693952 := hp.2
    exact (fTop_vc d _).mpr ⟨⟨by omega, by omega⟩, ⟨by omega, by omega⟩, rfl, rfl⟩⟩
def sameD (d c : Dx) : Bool := (d.neg == c.neg) && (eqI d.e c.e && decide (d.xs = c.xs))
def fSame : Spec := specK [.d, .d] fun (d : Dx) (c : Dx) => (none, bT (sameD d c))
theorem fSame_vc (d c : Dx) (Q : Tv → Prop) : execF ⟨tys, sRef3⟩ (fun _ => none) 0 Tryz.f13 [.agg (dyL false d), .agg (dyL false c)] Q = (br (d.neg == c.neg) (br (eqI d.e c.e) (Q (Tv.sv (Sv.one (At.bool (decide (d.xs = c.xs)))))) (Q (Tv.sv (Sv.one (At.bool false))))) (Q (Tv.sv (Sv.one (At.bool false))))) := by kernel_rfl
theorem fSame_ok : SpecOk Tryz.prog 13 fSame :=
  specK_ok (envOk tys_ok sRef3_ok) mixed Tryz.func13 rfl (by decide) (by decide) fun (d : Dx) _ (c : Dx) _ _ => ⟨fun _ => none, 0, by
    show execF _ _ _ _ _ (fun t => t = bT (sameD d c))
    refine (fSame_vc d c _).mpr (br_intro (fun h => br_intro (fun h' => ?_) fun h' => ?_) fun h => ?_)
    · rw [sameD, h, h']; rfl
    · rw [sameD, h, h']; rfl
    · rw [sameD, h]; rfl⟩
def sF1 : List (FuncId × Spec) := [(66, fForm), (42, fZero), (20, fRight), (53, fTop), (13, fSame)] ++ sRef3
theorem sF1_ok : SpecsOk Tryz.prog sF1 := ⟨fForm_ok, fZero_ok, fRight_ok, fTop_ok, fSame_ok, sRef3_ok⟩
def fOne : Spec := specK [.d] fun (d : Dx) => (some (eB 4611686018427387904 d), dT (oneD d))
theorem fOne_vc (d : Dx) (Q : Tv → Prop) : execF ⟨tys, sF1⟩ (fun _ => none) 0 Tryz.f43 [.agg (dyL false d)] Q = (((-4611686018427387904 : Int) ≤ d.e ∧ d.e ≤ (4611686018427387904 : Int)) ∧ Q (Tv.sv (Sv.agg (dyL true (mkD d.neg (val d.xs) d.e))))) := by kernel_rfl
theorem fOne_ok : SpecOk Tryz.prog 43 fOne :=
  specK_ok (envOk tys_ok sF1_ok) mixed Tryz.func43 rfl (by decide) (by decide) fun (d : Dx) _ hp => ⟨fun _ => none, 0, (fOne_vc d _).mpr ⟨hp, rfl⟩⟩
def fNeg : Spec := specK [.d] fun (d : Dx) => (some (eB 4611686018427387904 d), dT (negD d))
theorem fNeg_vc (d : Dx) (Q : Tv → Prop) : execF ⟨tys, sF1⟩ (fun _ => none) 0 Tryz.f22 [.agg (dyL false d)] Q = (((-4611686018427387904 : Int) ≤ d.e ∧ d.e ≤ (4611686018427387904 : Int)) ∧ Q (Tv.sv (Sv.agg (dyL true (mkD (!d.neg) (val d.xs) d.e))))) := by kernel_rfl
theorem fNeg_ok : SpecOk Tryz.prog 22 fNeg :=
  specK_ok (envOk tys_ok sF1_ok) mixed Tryz.func22 rfl (by decide) (by decide) fun (d : Dx) _ hp => ⟨fun _ => none, 0, (fNeg_vc d _).mpr ⟨hp, rfl⟩⟩
def fTwice : Spec := specK [.d, .i .i64] fun (d : Dx) (n : Int) => (some (eB 2305843009213693952 d ∧ -2305843009213693952 ≤ n ∧ n ≤ 2305843009213693952), dT (shiftD d n))
theorem fTwice_vc (d : Dx) (n : Int) (Q : Tv → Prop) : execF ⟨tys, sF1⟩ (fun _ => none) 0 Tryz.f40 [.agg (dyL false d), .one (.int .i64 n)] Q = (inR (d.e + n) ∧ ((-4611686018427387904 : Int) ≤ d.e + n ∧ d.e + n ≤ (4611686018427387904 : Int)) ∧ Q (Tv.sv (Sv.agg (dyL true (mkD d.neg (val d.xs) (d.e + n)))))) := by kernel_rfl
theorem fTwice_ok : SpecOk Tryz.prog 40 fTwice :=
  specK_ok (envOk tys_ok sF1_ok) mixed Tryz.func40 rfl (by decide) (by decide) fun (d : Dx) _ (n : Int) _ hp => ⟨fun _ => none, 0, by
    obtain ⟨⟨h1, h2⟩, h3, h4⟩ : eB 2305843009213693952 d ∧ -2305843009213693952 ≤ n ∧ n ≤ 2305843009213693952 := hp
    exact (fTwice_vc d n _).mpr ⟨⟨by omega, by omega⟩, ⟨by omega, by omega⟩, rfl⟩⟩
def fSign : Spec := specK [.d] fun (d : Dx) => (none, iT d.sgn)
theorem fSign_vc (d : Dx) (Q : Tv → Prop) : execF ⟨tys, sF1⟩ (fun _ => none) 0 Tryz.f33 [.agg (dyL false d)] Q = (br (Dx.zeroB d) (Q (Tv.sv (Sv.one (At.int IntKind.i64 (0 : Int))))) (br d.neg (Q (Tv.sv (Sv.one (At.int IntKind.i64 (-1 : Int))))) (Q (Tv.sv (Sv.one (At.int IntKind.i64 (1 : Int))))))) := by kernel_rfl
theorem fSign_ok : SpecOk Tryz.prog 33 fSign :=
  specK_ok (envOk tys_ok sF1_ok) mixed Tryz.func33 rfl (by decide) (by decide) fun (d : Dx) _ _ => ⟨fun _ => none, 0, by
    show execF _ _ _ _ _ (fun t => t = iT d.sgn)
    refine (fSign_vc d _).mpr (br_intro (fun h => ?_) fun h => br_intro (fun h' => ?_) fun h' => ?_)
    · rw [Dx.sgn, if_pos (zeroB_true.1 h)]
    · rw [Dx.sgn, if_neg (zeroB_false.1 h), if_pos h']
    · rw [Dx.sgn, if_neg (zeroB_false.1 h), h']; rfl⟩
def fInt : Spec := specK [.i .i64] fun (n : Int) => (some (inR n), dT (mkS n 0))
theorem fInt_vc (n : Int) (Q : Tv → Prop) : execF ⟨tys, sF1⟩ (fun _ => none) 0 Tryz.f26 [.one (.int .i64 n)] Q = (br (ltI n (0 : Int)) (Word (IntKind.wrap IntKind.u64 ((0 : Int) - IntKind.wrap IntKind.u64 n)) ∧ ((-4611686018427387904 : Int) ≤ (0 : Int) ∧ (0 : Int) ≤ (4611686018427387904 : Int)) ∧ Q (Tv.sv (Sv.agg (dyL true (mkD true (val (ws (IntKind.wrap IntKind.u64 ((0 : Int) - IntKind.wrap IntKind.u64 n)))) (0 : Int)))))) (Word (IntKind.wrap IntKind.u64 n) ∧ ((-4611686018427387904 : Int) ≤ (0 : Int) ∧ (0 : Int) ≤ (4611686018427387904 : Int)) ∧ Q (Tv.sv (Sv.agg (dyL true (mkD false (val (ws (IntKind.wrap IntKind.u64 n))) (0 : Int))))))) := by kernel_rfl
theorem fInt_ok : SpecOk Tryz.prog 26 fInt :=
  specK_ok (envOk tys_ok sF1_ok) mixed Tryz.func26 rfl (by decide) (by decide) fun (n : Int) _ hp => ⟨fun _ => none, 0, by
    obtain ⟨h1, h2⟩ : inR n := hp
    show execF _ _ _ _ _ (fun t => t = dT (mkS n 0))
    refine (fInt_vc n _).mpr (br_intro (fun h => ?_) fun h => ?_)
    · have e : IntKind.wrap .u64 (0 - IntKind.wrap .u64 n) = (n.natAbs : Int) := by
        rw [ltI_true] at h; rw [IntKind.wrap_u64, IntKind.wrap_u64]; omega
      rw [e, val_ws (by omega)]
      refine ⟨⟨by omega, by omega⟩, ⟨by omega, by omega⟩, ?_⟩
      rw [mkS, decide_eq_true (ltI_true.1 h)]
    · have e : IntKind.wrap .u64 n = (n.natAbs : Int) := by
        rw [ltI_false] at h; rw [IntKind.wrap_u64]; omega
      rw [e, val_ws (by omega)]
      refine ⟨⟨by omega, by omega⟩, ⟨by omega, by omega⟩, ?_⟩
      rw [mkS, decide_eq_false (ltI_false.1 h)]⟩
def sF2 : List (FuncId × Spec) := [(43, fOne), (22, fNeg), (40, fTwice), (33, fSign), (26, fInt)] ++ sF1
theorem sF2_ok : SpecsOk Tryz.prog sF2 := ⟨fOne_ok, fNeg_ok, fTwice_ok, fSign_ok, fInt_ok, sF1_ok⟩
theorem one_ws {d : Dx} (h : 0 ≤ d.m) : (oneD d).xs = ws (oneD d).m := mkD_ws h
theorem one_len {d : Dx} (h : 0 ≤ d.m) : eqI ((oneD d).xs.length : Nat) 0 = decide ((oneD d).m = 0) := by rw [one_ws h, len_zero oneD_p]
theorem tz_odd2 {m : Int} (h : m % 2 = 1) (h0 : 0 ≤ m) : tz m = 0 := by
  obtain ⟨k, rfl⟩ : ∃ k, m = 2 * k + 1 := ⟨m / 2, by omega⟩
  exact tz_odd (by omega)
theorem mkD_mul_pow {neg : Bool} {m e : Int} {k : Nat} (h : 0 ≤ m) : mkD neg (m * 2 ^ k) e = mkD neg m (e + k) := by
  by_cases hz : m = 0
  · subst hz; rw [Int.zero_mul, mkD_zero, mkD_zero]
  · have hp : 0 < m := by omega
    have p := two_pow_pos k
    have hq : m * 2 ^ k ≠ 0 := by have := Int.mul_pos hp p; omega
    unfold mkD
    rw [if_neg hq, if_neg hz, tz_mul_pow hp]
    have : m * 2 ^ k / 2 ^ (tz m + k) = m / 2 ^ tz m := by
      rw [Int.pow_add, Int.mul_ediv_mul_of_pos_left _ _ p]
    rw [this]
    congr 1
    omega
theorem mkD_odd {neg : Bool} {m e : Int} (h : 0 < m) : (mkD neg m e).m % 2 = 1 := by
  rw [mkD_m (by omega)]
  obtain ⟨k, hk, e⟩ := tz_spec h
  have p := two_pow_pos (tz m)
  have e2 : m / 2 ^ tz m = 2 * k + 1 := by
    conv => lhs; lhs; rw [e]
    exact Int.mul_ediv_cancel_left _ (by omega)
  omega
theorem one_odd {d : Dx} (h : 0 ≤ d.m) (h0 : (oneD d).m ≠ 0) : (oneD d).m % 2 = 1 := mkD_odd (by
  have : d.m ≠ 0 := fun e => h0 (by unfold oneD; rw [(mkD_m_zero h).2 e])
  omega)
def fTimes : Spec := specK [.d, .d] fun (a : Dx) (b : Dx) => (some (a.Sm 68719476736 ∧ b.Sm 68719476736), dT (timesD a b))
theorem fTimes_vc (a b : Dx) (Q : Tv → Prop) : execF ⟨tys, sF2⟩ (fun _ => none) 0 Tryz.f75 [.agg (dyL false a), .agg (dyL false b)] Q = (eB (4611686018427387904 : Int) a ∧ eB (4611686018427387904 : Int) b ∧ true = true ∧ List.length (ws (val (oneD a).xs)) + List.length (ws (val (oneD b).xs)) ≤ (17592186044414 : Nat) ∧ inR ((oneD a).e + (oneD b).e) ∧ ((-4611686018427387904 : Int) ≤ (oneD a).e + (oneD b).e ∧ (oneD a).e + (oneD b).e ≤ (4611686018427387904 : Int)) ∧ true = true ∧ Q (Tv.sv (Sv.agg (dyL true (mkD (!(oneD a).neg == (oneD b).neg) (val (ws (val (oneD a).xs * val (oneD b).xs))) ((oneD a).e + (oneD b).e)))))) := by kernel_rfl
theorem times_one {a b : Dx} (ha : 0 ≤ a.m) (hb : 0 ≤ b.m) : mkD (!((oneD a).neg == (oneD b).neg)) ((oneD a).m * (oneD b).m) ((oneD a).e + (oneD b).e) = timesD a b := by
  unfold timesD
  by_cases h1 : a.m = 0
  · rw [h1, Int.zero_mul, mkD_zero, show (oneD a).m = 0 by unfold oneD; exact (mkD_m_zero ha).2 h1, Int.zero_mul, mkD_zero]
  · by_cases h2 : b.m = 0
    · rw [h2, Int.mul_zero, mkD_zero, show (oneD b).m = 0 by unfold oneD; exact (mkD_m_zero hb).2 h2, Int.mul_zero, mkD_zero]
    · obtain ⟨e1, g1⟩ := tz_div (m := a.m) (by omega)
      obtain ⟨e2, g2⟩ := tz_div (m := b.m) (by omega)
      have r1 : (oneD a).m = a.m / 2 ^ tz a.m := mkD_m ha
      have r2 : (oneD b).m = b.m / 2 ^ tz b.m := mkD_m hb
      have n1 : (oneD a).neg = a.neg := by unfold oneD mkD; rw [if_neg h1]
      have n2 : (oneD b).neg = b.neg := by unfold oneD mkD; rw [if_neg h2]
      have x1 : (oneD a).e = a.e + (tz a.m : Int) := by unfold oneD mkD; rw [if_neg h1]
      have x2 : (oneD b).e = b.e + (tz b.m : Int) := by unfold oneD mkD; rw [if_neg h2]
      rw [n1, n2, r1, r2, x1, x2]
      generalize a.m / 2 ^ tz a.m = A at *
      generalize b.m / 2 ^ tz b.m = B at *
      generalize tz a.m = i at *
      generalize tz b.m = j at *
      rw [e1, e2]
      have : (2 : Int) ^ i * A * (2 ^ j * B) = A * B * 2 ^ (i + j) := by rw [Int.pow_add]; simp only [Int.mul_assoc, Int.mul_comm, Int.mul_left_comm]
      rw [this, mkD_mul_pow (Int.mul_nonneg (by omega) (by omega))]
      congr 1
      omega
theorem fTimes_ok : SpecOk Tryz.prog 75 fTimes :=
  specK_ok (envOk tys_ok sF2_ok) mixed Tryz.func75 rfl (by decide) (by decide) fun (a : Dx) ha (b : Dx) hb hp => ⟨fun _ => none, 0, by
    obtain ⟨s1, s2⟩ : Dx.Sm 68719476736 a ∧ Dx.Sm 68719476736 b := hp
    have m1 := Dx.Wf.m0 ha
    have m2 := Dx.Wf.m0 hb
    obtain ⟨z1, z2, z3⟩ := one_sm m1 s1
    obtain ⟨z4, z5, z6⟩ := one_sm m2 s2
    have q1 := oneD_p (d := a)
    have q2 := oneD_p (d := b)
    have hM := Int.mul_nonneg q1 q2
    have l1 := ws_blen (k := 4294967296) q1 (by omega)
    have l2 := ws_blen (k := 4294967296) q2 (by omega)
    refine (fTimes_vc a b _).mpr ⟨s1.eB (by omega), s2.eB (by omega), rfl, ?_⟩
    unfold Dx.m at *
    rw [val_ws hM]
    refine ⟨by omega, ⟨by omega, by omega⟩, ⟨by omega, by omega⟩, rfl, ?_⟩
    show _ = dT (timesD a b)
    rw [← times_one m1 m2]; rfl⟩
def fPlus : Spec := specK [.d, .d] fun (a : Dx) (b : Dx) => (some (a.Sm 68719476736 ∧ b.Sm 68719476736), dT (plusD a b))
theorem fPlus_vc (a b : Dx) (Q : Tv → Prop) : execF ⟨tys, sF2⟩ (fun _ => none) 0 Tryz.f25 [.agg (dyL false a), .agg (dyL false b)] Q = (eB (4611686018427387904 : Int) a ∧ eB (4611686018427387904 : Int) b ∧ true = true ∧ br (eqI (↑(List.length (oneD a).xs) : Int) (0 : Int)) (Q (Tv.sv (Sv.agg (dyL true (oneD b))))) (br (eqI (↑(List.length (oneD b).xs) : Int) (0 : Int)) (Q (Tv.sv (Sv.agg (dyL true (oneD a))))) (inR ((oneD a).e - minI (oneD a).e (oneD b).e) ∧ ((0 : Int) ≤ (oneD a).e - minI (oneD a).e (oneD b).e ∧ (oneD a).e - minI (oneD a).e (oneD b).e ≤ (1099511627776 : Int) ∧ List.length (oneD a).xs ≤ (8796093022208 : Nat)) ∧ inR ((oneD b).e - minI (oneD a).e (oneD b).e) ∧ ((0 : Int) ≤ (oneD b).e - minI (oneD a).e (oneD b).e ∧ (oneD b).e - minI (oneD a).e (oneD b).e ≤ (1099511627776 : Int) ∧ List.length (oneD b).xs ≤ (8796093022208 : Nat)) ∧ br ((oneD a).neg == (oneD b).neg) ((List.length (ws (val (oneD a).xs * (2 : Int) ^ Int.toNat ((oneD a).e - minI (oneD a).e (oneD b).e))) ≤ (17592186044414 : Nat) ∧ List.length (ws (val (oneD b).xs * (2 : Int) ^ Int.toNat ((oneD b).e - minI (oneD a).e (oneD b).e))) ≤ (17592186044414 : Nat)) ∧ ((-4611686018427387904 : Int) ≤ minI (oneD a).e (oneD b).e ∧ minI (oneD a).e (oneD b).e ≤ (4611686018427387904 : Int)) ∧ true = true ∧ Q (Tv.sv (Sv.agg (dyL true (mkD (oneD a).neg (val (ws (val (ws (val (oneD a).xs * (2 : Int) ^ Int.toNat ((oneD a).e - minI (oneD a).e (oneD b).e))) + val (ws (val (oneD b).xs * (2 : Int) ^ Int.toNat ((oneD b).e - minI (oneD a).e (oneD b).e)))))) (minI (oneD a).e (oneD b).e)))))) (br (leI (0 : Int) (cmpI (val (ws (val (oneD a).xs * (2 : Int) ^ Int.toNat ((oneD a).e - minI (oneD a).e (oneD b).e)))) (val (ws (val (oneD b).xs * (2 : Int) ^ Int.toNat ((oneD b).e - minI (oneD a).e (oneD b).e)))))) ((val (ws (val (oneD b).xs * (2 : Int) ^ Int.toNat ((oneD b).e - minI (oneD a).e (oneD b).e))) ≤ val (ws (val (oneD a).xs * (2 : Int) ^ Int.toNat ((oneD a).e - minI (oneD a).e (oneD b).e))) ∧ List.length (ws (val (oneD a).xs * (2 : Int) ^ Int.toNat ((oneD a).e - minI (oneD a).e (oneD b).e))) ≤ (17592186044414 : Nat) ∧ List.length (ws (val (oneD b).xs * (2 : Int) ^ Int.toNat ((oneD b).e - minI (oneD a).e (oneD b).e))) ≤ (17592186044414 : Nat)) ∧ ((-4611686018427387904 : Int) ≤ minI (oneD a).e (oneD b).e ∧ minI (oneD a).e (oneD b).e ≤ (4611686018427387904 : Int)) ∧ true = true ∧ Q (Tv.sv (Sv.agg (dyL true (mkD (oneD a).neg (val (ws (val (ws (val (oneD a).xs * (2 : Int) ^ Int.toNat ((oneD a).e - minI (oneD a).e (oneD b).e))) - val (ws (val (oneD b).xs * (2 : Int) ^ Int.toNat ((oneD b).e - minI (oneD a).e (oneD b).e)))))) (minI (oneD a).e (oneD b).e)))))) ((val (ws (val (oneD a).xs * (2 : Int) ^ Int.toNat ((oneD a).e - minI (oneD a).e (oneD b).e))) ≤ val (ws (val (oneD b).xs * (2 : Int) ^ Int.toNat ((oneD b).e - minI (oneD a).e (oneD b).e))) ∧ List.length (ws (val (oneD b).xs * (2 : Int) ^ Int.toNat ((oneD b).e - minI (oneD a).e (oneD b).e))) ≤ (17592186044414 : Nat) ∧ List.length (ws (val (oneD a).xs * (2 : Int) ^ Int.toNat ((oneD a).e - minI (oneD a).e (oneD b).e))) ≤ (17592186044414 : Nat)) ∧ ((-4611686018427387904 : Int) ≤ minI (oneD a).e (oneD b).e ∧ minI (oneD a).e (oneD b).e ≤ (4611686018427387904 : Int)) ∧ true = true ∧ Q (Tv.sv (Sv.agg (dyL true (mkD (oneD b).neg (val (ws (val (ws (val (oneD b).xs * (2 : Int) ^ Int.toNat ((oneD b).e - minI (oneD a).e (oneD b).e))) - val (ws (val (oneD a).xs * (2 : Int) ^ Int.toNat ((oneD a).e - minI (oneD a).e (oneD b).e)))))) (minI (oneD a).e (oneD b).e)))))))))) := by kernel_rfl
theorem fPlus_ok : SpecOk Tryz.prog 25 fPlus :=
  specK_ok (envOk tys_ok sF2_ok) mixed Tryz.func25 rfl (by decide) (by decide) fun (a : Dx) ha (b : Dx) hb hp => ⟨fun _ => none, 0, by
    obtain ⟨s1, s2⟩ : Dx.Sm 68719476736 a ∧ Dx.Sm 68719476736 b := hp
    have m1 := Dx.Wf.m0 ha
    have m2 := Dx.Wf.m0 hb
    have q1 := oneD_p (d := a)
    have q2 := oneD_p (d := b)
    have z1 := one_sm m1 s1
    have z2 := one_sm m2 s2
    show execF _ _ _ _ _ (fun t => t = dT (plusX (oneD a) (oneD b)))
    refine (fPlus_vc a b _).mpr ⟨s1.eB (by omega), s2.eB (by omega), rfl, ?_⟩
    rw [one_len m1, one_len m2]
    refine br_intro (fun h => ?_) (fun h => br_intro (fun h' => ?_) fun h' => ?_)
    · rw [plusX, if_pos (of_decide_eq_true h)]
    · rw [plusX, if_neg (of_decide_eq_false h), if_pos (of_decide_eq_true h')]
    · have h := of_decide_eq_false h
      have h' := of_decide_eq_false h'
      obtain ⟨X, Y, mn, hX, hY, hmn, pX, pY, lX, lY, mn0, mn1, hsame, hge, hlt⟩ := plus_parts q1 q2 h h' z1 z2
      have w1 : (oneD a).xs.length ≤ 8796093022208 := by rw [one_ws m1]; exact ws_blen q1 (by have := z1.1; omega)
      have w2 : (oneD b).xs.length ≤ 8796093022208 := by rw [one_ws m2]; exact ws_blen q2 (by have := z2.1; omega)
      have b1 := z1.2
      have b2 := z2.2
      unfold Dx.m at hX hY
      rw [minI_eq, hX, hY, hmn, val_ws (n := X) (by omega), val_ws (n := Y) (by omega)]
      refine ⟨⟨by omega, by omega⟩, ⟨by omega, by omega, w1⟩, ⟨by omega, by omega⟩, ⟨by omega, by omega, w2⟩, br_intro (fun e => ?_) fun e => br_intro (fun e' => ?_) fun e' => ?_⟩
      · rw [val_ws (by omega)]
        refine ⟨⟨lX, lY⟩, ⟨mn0, mn1⟩, rfl, ?_⟩
        rw [hsame (by simpa using e)]
      · rw [cmpI_ge] at e'
        rw [val_ws (n := X - Y) (by omega)]
        refine ⟨⟨e', lX, lY⟩, ⟨mn0, mn1⟩, rfl, ?_⟩
        rw [hge (by simpa using e) e']
      · have e' : ¬ Y ≤ X := fun h => by rw [cmpI_ge.2 h] at e'; simp at e'
        rw [val_ws (n := Y - X) (by omega)]
        refine ⟨⟨by omega, lY, lX⟩, ⟨mn0, mn1⟩, rfl, ?_⟩
        rw [hlt (by simpa using e) (by omega)]⟩
def fTrim : Spec := specK [.d, .i .i64, .b] fun (d : Dx) (p : Int) (up : Bool) => (some (d.Sm 34359738368 ∧ 0 ≤ p ∧ p ≤ 1099511627776), dT (cutD d p up))
theorem fTrim_vc (d : Dx) (p : Int) (up : Bool) (Q : Tv → Prop) : execF ⟨tys, sF2⟩ (fun _ => none) 0 Tryz.f32 [.agg (dyL false d), .one (.int .i64 p), .one (.bool up)] Q = (eB (4611686018427387904 : Int) d ∧ br (leI (↑(blen (val (oneD d).xs)) : Int) p) (Q (Tv.sv (Sv.agg (dyL true (oneD d))))) (inR ((↑(blen (val (oneD d).xs)) : Int) - p) ∧ ((0 : Int) ≤ (↑(blen (val (oneD d).xs)) : Int) - p ∧ (↑(blen (val (oneD d).xs)) : Int) - p ≤ (9007199254740992 : Int)) ∧ br (lostB (val (oneD d).xs) (Int.toNat ((↑(blen (val (oneD d).xs)) : Int) - p))) (br (!up == (oneD d).neg) (Word (1 : Int) ∧ (List.length (ws (val (oneD d).xs / (2 : Int) ^ Int.toNat ((↑(blen (val (oneD d).xs)) : Int) - p))) ≤ (17592186044414 : Nat) ∧ List.length (ws (1 : Int)) ≤ (17592186044414 : Nat)) ∧ inR ((oneD d).e + (↑(blen (val (oneD d).xs)) : Int)) ∧ inR ((oneD d).e + (↑(blen (val (oneD d).xs)) : Int) - p) ∧ ((-4611686018427387904 : Int) ≤ (oneD d).e + (↑(blen (val (oneD d).xs)) : Int) - p ∧ (oneD d).e + (↑(blen (val (oneD d).xs)) : Int) - p ≤ (4611686018427387904 : Int)) ∧ Q (Tv.sv (Sv.agg (dyL true (mkD (oneD d).neg (val (ws (val (ws (val (oneD d).xs / (2 : Int) ^ Int.toNat ((↑(blen (val (oneD d).xs)) : Int) - p))) + val (ws (1 : Int))))) ((oneD d).e + (↑(blen (val (oneD d).xs)) : Int) - p)))))) (inR ((oneD d).e + (↑(blen (val (oneD d).xs)) : Int)) ∧ inR ((oneD d).e + (↑(blen (val (oneD d).xs)) : Int) - p) ∧ ((-4611686018427387904 : Int) ≤ (oneD d).e + (↑(blen (val (oneD d).xs)) : Int) - p ∧ (oneD d).e + (↑(blen (val (oneD d).xs)) : Int) - p ≤ (4611686018427387904 : Int)) ∧ Q (Tv.sv (Sv.agg (dyL true (mkD (oneD d).neg (val (ws (val (oneD d).xs / (2 : Int) ^ Int.toNat ((↑(blen (val (oneD d).xs)) : Int) - p)))) ((oneD d).e + (↑(blen (val (oneD d).xs)) : Int) - p))))))) (inR ((oneD d).e + (↑(blen (val (oneD d).xs)) : Int)) ∧ inR ((oneD d).e + (↑(blen (val (oneD d).xs)) : Int) - p) ∧ ((-4611686018427387904 : Int) ≤ (oneD d).e + (↑(blen (val (oneD d).xs)) : Int) - p ∧ (oneD d).e + (↑(blen (val (oneD d).xs)) : Int) - p ≤ (4611686018427387904 : Int)) ∧ Q (Tv.sv (Sv.agg (dyL true (mkD (oneD d).neg (val (ws (val (oneD d).xs / (2 : Int) ^ Int.toNat ((↑(blen (val (oneD d).xs)) : Int) - p)))) ((oneD d).e + (↑(blen (val (oneD d).xs)) : Int) - p)))))))) := by kernel_rfl
theorem fTrim_ok : SpecOk Tryz.prog 32 fTrim :=
  specK_ok (envOk tys_ok sF2_ok) mixed Tryz.func32 rfl (by decide) (by decide) fun (d : Dx) hd (p : Int) _ (up : Bool) _ hp => ⟨fun _ => none, 0, by
    obtain ⟨s1, p0, p1⟩ : Dx.Sm 34359738368 d ∧ 0 ≤ p ∧ p ≤ 1099511627776 := hp
    have m0 := Dx.Wf.m0 hd
    have m1 := oneD_p (d := d)
    have hodd := one_odd m0
    obtain ⟨z1, z2, z3⟩ := one_sm m0 s1
    show execF _ _ _ _ _ (fun t => t = dT (cutX (oneD d) p up))
    refine (fTrim_vc d p up _).mpr ⟨s1.eB (by omega), ?_⟩
    generalize oneD d = x at *
    unfold cutX
    unfold Dx.m at m1 z1 hodd ⊢
    refine br_intro (fun h => ?_) fun h => ?_
    · rw [if_pos (by have := leI_true.1 h; omega)]
    · have h := leI_false.1 h
      rw [if_neg (by omega)]
      obtain ⟨n, hn⟩ : ∃ n : Int, (blen (val x.xs) : Int) - p = n := ⟨_, rfl⟩
      rw [hn]
      have hmp : 0 < val x.xs := by
        by_cases hz : val x.xs = 0
        · rw [hz] at h; have e0 : blen 0 = 0 := by simp [blen]
          rw [e0] at h; omega
        · omega
      have hq : 0 ≤ val x.xs / 2 ^ n.toNat := Int.ediv_nonneg m1 (by have := two_pow_pos n.toNat; omega)
      have hql : (ws (val x.xs / 2 ^ n.toNat)).length ≤ 1073741825 := ws_blen hq (by
        have := blen_mono (m := val x.xs / 2 ^ n.toNat) (n := val x.xs) (Int.ediv_le_self _ m1); omega)
      have hl : lostB (val x.xs) n.toNat = true := by rw [lostB_tz hmp, tz_odd2 (hodd (by omega)) m1]; simp; omega
      have hb : blen (val x.xs) ≤ 68719476736 := by omega
      refine ⟨⟨by omega, by omega⟩, ⟨by omega, by omega⟩, br_intro (fun _ => br_intro (fun h' => ?_) fun h' => ?_) fun hf => by rw [hl] at hf; simp at hf⟩
      · rw [val_ws hq, val_ws_one, val_ws (by omega)]
        refine ⟨word_one, ⟨by omega, by simp [ws_one]⟩, ⟨by omega, by omega⟩, ⟨by omega, by omega⟩, ⟨by omega, by omega⟩, ?_⟩
        rw [if_neg (by cases up <;> cases hh : x.neg <;> simp_all), show x.e + (blen (val x.xs) : Int) - p = x.e + n by omega]
      · rw [val_ws hq]
        refine ⟨⟨by omega, by omega⟩, ⟨by omega, by omega⟩, ⟨by omega, by omega⟩, ?_⟩
        rw [if_pos (by cases up <;> cases hh : x.neg <;> simp_all), Int.add_zero, show x.e + (blen (val x.xs) : Int) - p = x.e + n by omega]⟩
def sF3 : List (FuncId × Spec) := [(75, fTimes), (25, fPlus), (32, fTrim)] ++ sF2
theorem sF3_ok : SpecsOk Tryz.prog sF3 := ⟨fTimes_ok, fPlus_ok, fTrim_ok, sF2_ok⟩
def fLess : Spec := specK [.d, .d] fun (a : Dx) (b : Dx) => (some (a.Sm 34359738368 ∧ b.Sm 34359738368), dT (lessD a b))
theorem fLess_vc (a b : Dx) (Q : Tv → Prop) : execF ⟨tys, sF3⟩ (fun _ => none) 0 Tryz.f41 [.agg (dyL false a), .agg (dyL false b)] Q = (eB (4611686018427387904 : Int) b ∧ (Dx.Sm (68719476736 : Nat) a ∧ Dx.Sm (68719476736 : Nat) (negD b)) ∧ true = true ∧ Q (Tv.sv (Sv.agg (dyL true (plusD a (negD b)))))) := by kernel_rfl
theorem fLess_ok : SpecOk Tryz.prog 41 fLess :=
  specK_ok (envOk tys_ok sF3_ok) mixed Tryz.func41 rfl (by decide) (by decide) fun (a : Dx) ha (b : Dx) hb hp => ⟨fun _ => none, 0, by
    obtain ⟨s1, s2⟩ : Dx.Sm 34359738368 a ∧ Dx.Sm 34359738368 b := hp
    exact (fLess_vc a b _).mpr ⟨s2.eB (by omega), ⟨s1.mono (by omega), (negD_sm s2 (Dx.Wf.m0 hb)).mono (by omega)⟩, rfl, rfl⟩⟩
def sF4 : List (FuncId × Spec) := [(41, fLess)] ++ sF3
theorem sF4_ok : SpecsOk Tryz.prog sF4 := ⟨fLess_ok, sF3_ok⟩
def fOrder : Spec := specK [.d, .d] fun (a : Dx) (b : Dx) => (some (a.Sm 34359738368 ∧ b.Sm 34359738368), iT (cmpD a b))
theorem fOrder_vc (a b : Dx) (Q : Tv → Prop) : execF ⟨tys, sF4⟩ (fun _ => none) 0 Tryz.f24 [.agg (dyL false a), .agg (dyL false b)] Q = (true = true ∧ br (ltI (Dx.sgn a) (Dx.sgn b)) (Q (Tv.sv (Sv.one (At.int IntKind.i64 (-1 : Int))))) (br (ltI (Dx.sgn b) (Dx.sgn a)) (Q (Tv.sv (Sv.one (At.int IntKind.i64 (1 : Int))))) (br (eqI (Dx.sgn a) (0 : Int)) (Q (Tv.sv (Sv.one (At.int IntKind.i64 (0 : Int))))) (eB (2305843009213693952 : Int) a ∧ eB (2305843009213693952 : Int) b ∧ true = true ∧ br (neI (a.e + (↑(blen (Dx.m a)) : Int) - (1 : Int)) (b.e + (↑(blen (Dx.m b)) : Int) - (1 : Int))) (br (ltI (b.e + (↑(blen (Dx.m b)) : Int) - (1 : Int)) (a.e + (↑(blen (Dx.m a)) : Int) - (1 : Int))) (Q (Tv.sv (Sv.one (At.int IntKind.i64 (Dx.sgn a))))) (inR ((0 : Int) - Dx.sgn a) ∧ Q (Tv.sv (Sv.one (At.int IntKind.i64 ((0 : Int) - Dx.sgn a)))))) ((Dx.Sm (34359738368 : Nat) a ∧ Dx.Sm (34359738368 : Nat) b) ∧ Q (Tv.sv (Sv.one (At.int IntKind.i64 (Dx.sgn (lessD a b)))))))))) := by kernel_rfl
theorem fOrder_ok : SpecOk Tryz.prog 24 fOrder :=
  specK_ok (envOk tys_ok sF4_ok) mixed Tryz.func24 rfl (by decide) (by decide) fun (a : Dx) ha (b : Dx) hb hp => ⟨fun _ => none, 0, by
    obtain ⟨s1, s2⟩ : Dx.Sm 34359738368 a ∧ Dx.Sm 34359738368 b := hp
    have m1 := Dx.Wf.m0 ha
    have m2 := Dx.Wf.m0 hb
    have c1 := sgn_cases (d := a)
    show execF _ _ _ _ _ (fun t => t = iT (cmpD a b))
    refine (fOrder_vc a b _).mpr ⟨rfl, br_intro (fun h => ?_) fun h => br_intro (fun h' => ?_) fun h' => br_intro (fun h0 => ?_) fun h0 => ?_⟩
    · rw [cmpD_lt m1 m2 (ltI_true.1 h)]
    · rw [cmpD_gt m1 m2 (ltI_true.1 h')]
    · rw [ltI_false] at h h'; rw [eqI_true] at h0
      rw [cmpD_zero m1 m2 h0 (by omega)]
    · rw [ltI_false] at h h'; rw [eqI_false] at h0
      have hs : a.sgn = b.sgn := by omega
      obtain ⟨t1, t2⟩ := cmpD_top m1 m2 hs h0
      refine ⟨s1.eB (by omega), s2.eB (by omega), rfl, br_intro (fun e => br_intro (fun e' => ?_) fun e' => ?_) fun e => ?_⟩
      · rw [t2 (ltI_true.1 e')]
      · rw [ltI_false] at e'; rw [neI_true] at e
        refine ⟨⟨by omega, by omega⟩, ?_⟩
        rw [t1 (by omega), Int.zero_sub]
      · exact ⟨⟨s1, s2⟩, by rw [sgn_less m1 m2]⟩⟩
def roomD (d : Dx) : Dx × Int := if d.fitsB = true then (d, 0) else (⟨false, [], 0⟩, 3)
def rdT (r : Dx × Int) : Tv := .tup [.agg (dyL false r.1), .one (.int .i64 r.2)]
def fRoom : Spec := specK [.d] fun (d : Dx) => (none, rdT (roomD d))
theorem fRoom_vc (d : Dx) (Q : Tv → Prop) : execF ⟨tys, sF4⟩ (fun _ => none) 0 Tryz.f112 [.agg (dyL false d)] Q = (br (!Dx.fitsB d) (Q (Tv.tup [Sv.agg [At.bool false, At.words true [], At.int IntKind.i64 (0 : Int)], Sv.one (At.int IntKind.i64 (3 : Int))])) (Q (Tv.tup [Sv.agg (dyL false d), Sv.one (At.int IntKind.i64 (0 : Int))]))) := by kernel_rfl
theorem neg_t {b : Bool} (h : (!b) = true) : b = false := by cases b <;> simp_all
theorem neg_f {b : Bool} (h : (!b) = false) : b = true := by cases b <;> simp_all
theorem fRoom_ok : SpecOk Tryz.prog 112 fRoom :=
  specKW_ok (envOk tys_ok sF4_ok) mixed Tryz.func112 rfl (by decide) (by decide) fun (d : Dx) _ _ => ⟨fun _ => none, 0, by
    show execF _ _ _ _ _ (fun t => t = rdT (roomD d) ∨ fgT t = rdT (roomD d))
    refine (fRoom_vc d _).mpr (br_intro (fun h => Or.inr ?_) fun h => Or.inl ?_)
    · rw [roomD, neg_t h]; rfl
    · rw [roomD, neg_f h]; rfl⟩
def sF5 : List (FuncId × Spec) := [(24, fOrder), (112, fRoom)] ++ sF4
theorem sF5_ok : SpecsOk Tryz.prog sF5 := ⟨fOrder_ok, fRoom_ok, sF4_ok⟩
def canonD (d : Dx) : Dx × Int := if d.fitsB = true then roomD (oneD d) else (⟨false, [], 0⟩, 2)
def fCanon : Spec := specK [.d] fun (d : Dx) => (none, rdT (canonD d))
theorem fCanon_vc (d : Dx) (Q : Tv → Prop) : execF ⟨tys, sF5⟩ (fun _ => none) 0 Tryz.f80 [.agg (dyL false d)] Q = (br (!Dx.fitsB d) (Q (Tv.tup [Sv.agg [At.bool false, At.words true [], At.int IntKind.i64 (0 : Int)], Sv.one (At.int IntKind.i64 (2 : Int))])) (eB (4611686018427387904 : Int) d ∧ Q (Tv.tup [Sv.agg (dyL false (roomD (oneD d)).fst), Sv.one (At.int IntKind.i64 (roomD (oneD d)).snd)]))) := by kernel_rfl
theorem fCanon_ok : SpecOk Tryz.prog 80 fCanon :=
  specKW_ok (envOk tys_ok sF5_ok) mixed Tryz.func80 rfl (by decide) (by decide) fun (d : Dx) _ _ => ⟨fun _ => none, 0, by
    show execF _ _ _ _ _ (fun t => t = rdT (canonD d) ∨ fgT t = rdT (canonD d))
    refine (fCanon_vc d _).mpr (br_intro (fun h => Or.inr ?_) fun h => ⟨(fits_sm (neg_f h)).eB (by omega), Or.inl ?_⟩)
    · rw [canonD, neg_t h]; rfl
    · rw [canonD, if_pos (neg_f h)]; rfl⟩
def sRef4 : List (FuncId × Spec) := [(80, fCanon)] ++ sF5
theorem sRef4_ok : SpecsOk Tryz.prog sRef4 := ⟨fCanon_ok, sF5_ok⟩
end Go.Proofs.YtdnbckfhfhfkoaaGreatDoor

namespace Go.Proofs.YtdnbckfhfhfkoaaGreatDoor
open Go.RowKit
/-- One step of a division by a small word, half a word at a time. -/
theorem short3_step {r a d : Int} (r0 : 0 ≤ r) (rd : r < d) (d1 : d ≤ 4294967296) (wa : Word a) :
    (r * 4294967296 + a / 4294967296) / d * 4294967296 + ((r * 4294967296 + a / 4294967296) % d * 4294967296 + a % 4294967296) / d = (r * 18446744073709551616 + a) / d ∧
    ((r * 4294967296 + a / 4294967296) % d * 4294967296 + a % 4294967296) % d = (r * 18446744073709551616 + a) % d ∧
    r * 4294967296 + a / 4294967296 < 18446744073709551616 ∧ (r * 4294967296 + a / 4294967296) % d * 4294967296 + a % 4294967296 < 18446744073709551616 ∧
    (r * 18446744073709551616 + a) / d < 18446744073709551616 ∧ (r * 4294967296 + a / 4294967296) / d < 4294967296 := by
  obtain ⟨a0, a1⟩ := wa
  have hd : 0 < d := by omega
  have hh : r * 18446744073709551616 + a = (r * 4294967296 + a / 4294967296) * 4294967296 + a % 4294967296 := by omega
  have hlt : (r * 18446744073709551616 + a) / d < 18446744073709551616 := Int.ediv_lt_of_lt_mul hd (by
    have := Int.mul_le_mul_of_nonneg_right (show r + 1 ≤ d by omega) (show (0 : Int) ≤ 18446744073709551616 by omega)
    rw [Int.add_mul] at this; rw [Int.mul_comm 18446744073709551616]; omega)
  have hlt2 : (r * 4294967296 + a / 4294967296) / d < 4294967296 := Int.ediv_lt_of_lt_mul hd (by
    have := Int.mul_le_mul_of_nonneg_right (show r + 1 ≤ d by omega) (show (0 : Int) ≤ 4294967296 by omega)
    rw [Int.add_mul] at this; rw [Int.mul_comm 4294967296]; omega)
  have hm0 := Int.emod_nonneg (r * 4294967296 + a / 4294967296) (show d ≠ 0 by omega)
  have hm1 := Int.emod_lt_of_pos (r * 4294967296 + a / 4294967296) hd
  have hb : r * 4294967296 + a / 4294967296 < 18446744073709551616 := by omega
  have hdm := Int.mul_ediv_add_emod (r * 4294967296 + a / 4294967296) d
  rw [hh]
  generalize r * 4294967296 + a / 4294967296 = h at *
  have e : h * 4294967296 + a % 4294967296 = (h % d * 4294967296 + a % 4294967296) + d * (h / d * 4294967296) := by
    conv => lhs; rw [← hdm]
    rw [Int.add_mul, Int.mul_assoc]; omega
  refine ⟨?_, ?_, hb, by omega, ?_, hlt2⟩
  · rw [e, Int.add_mul_ediv_left _ _ (by omega), Int.add_comm]
  · rw [e, Int.add_mul_emod_self_left]
  · rw [← hh]; exact hlt
set_option maxRecDepth 100000 in
set_option maxHeartbeats 3200000 in
theorem short3_calls {B : Nat} {w : World} {v : Value} {xs : List Int} {d : Int} (h : NatAt B w v xs) (wd : Word d) (hd : 0 < d) (hd2 : d ≤ 4294967296) :
    Calls Tryz.prog 166 #[v, .int .u64 d] w (RNatW w (ws (val xs / d)) (val xs % d)) := by
  obtain ⟨A1, L1, c1, g1, o1, rfl, a1, k1, q1, l1, hg1, hc1, e1, wx⟩ := h.sub
  have WD : Hid (Word d) := wd
  have b1 : L1 ≤ 17592186044415 := by have := e1.out; omega
  have hmk := make_run 23 Tryz.underlying23 L1 (by omega)
  clear h wd
  go_enter Tryz.func166, Tryz.ntmps166
  go_wp2
  go_loopw [7, 8] (fun r i wr => ∃ (k : Nat) (ts : List Int) (rr : Int), k ≤ L1 ∧ i = .int .i64 ((k : Int) - 1) ∧ r = .int .u64 rr ∧ w.heap.size < wr.heap.size ∧ RowAt wr w.heap.size (List.replicate k 0 ++ ts) ∧ Below w.heap.size w wr ∧ Hid (ts.length + k = L1 ∧ Words ts ∧ Word rr ∧ rr < d ∧ val ts * d + rr = val (xs.drop k))) (fun _ i _ => (intOf i + 1).toNat)
  case atStart =>
    refine ⟨L1, [], 0, Nat.le_refl _, rfl, rfl, by simp, ?_, below_also _ _, by simp, Words.nil, ⟨by omega, by omega⟩, hd, ?_⟩
    · rw [List.append_nil]; exact RowAt.made _ _
    · rw [List.drop_of_length_le (by rw [e1.out]; omega)]; simp [val]
  case round =>
    obtain ⟨k, ts, rr, hk, rfl, rfl, hG, hrow, hbel, hr⟩ := hrel
    obtain ⟨r1, r2, r3, r4, r5⟩ := hr.out
    by_cases h0 : 0 < k
    · obtain ⟨j, rfl⟩ : ∃ j, k = j + 1 := ⟨k - 1, by omega⟩
      obtain rfl := a1 (by omega)
      have hg1' := hg1 (by omega)
      have hxj : wr.cell? ⟨g1, o1 + j, none⟩ = some (.int .u64 (nth xs j)) := ((bcell hbel).1 _ _ hg1').trans (hc1 j (by omega))
      have e0 : ((j + 1 : Nat) : Int) - 1 = (j : Int) := by omega
      rw [e0]
      clear e0
      have wxj : Hid (Word (nth xs j)) := wx.out.nth j
      have hlen : (List.replicate (j + 1) (0 : Int) ++ ts).length = L1 := by simp; omega
      obtain ⟨w1, w2, w3⟩ := div64_word r3 wxj.out WD.out r4
      have hst := short_step hd (show j < xs.length by rw [e1.out]; omega) r5
      obtain ⟨s1, s2, s3, s4, s5, s6⟩ := short3_step r3.1 r4 hd2 wxj.out
      rw [← s1, ← s2] at hst
      rw [← s1] at w1
      rw [← s2] at w2 w3
      have a0 := wxj.out.1
      have a1' := wxj.out.2
      have rr0 := r3.1
      have rr1 := r3.2
      have m0 := Int.emod_nonneg (rr * 4294967296 + nth xs j / 4294967296) (show d ≠ 0 by omega)
      have m1 := Int.emod_lt_of_pos (rr * 4294967296 + nth xs j / 4294967296) hd
      have q0 := Int.ediv_nonneg (show 0 ≤ rr * 4294967296 + nth xs j / 4294967296 by omega) (show 0 ≤ d by omega)
      have n0 := Int.ediv_nonneg (show 0 ≤ (rr * 4294967296 + nth xs j / 4294967296) % d * 4294967296 + nth xs j % 4294967296 by omega) (show 0 ≤ d by omega)
      have hout : ∀ n, (wr.drewN n).cell? ⟨w.heap.size, j, none⟩ = some (.int .u64 (nth (List.replicate (j + 1) 0 ++ ts) j)) := fun n => (hrow.draws n).cell (by omega)
      have hfr : ∀ n, (wr.drewN n).frozen? ⟨w.heap.size, j, none⟩ = false := fun n => (hrow.draws n).frozen _
      have hnew' : Hid (∀ n Q, RowAt ((wr.drewN n).setCell ⟨w.heap.size, j, none⟩ (.int .u64 Q)) w.heap.size (List.replicate j 0 ++ (Q :: ts))) := fun n Q => by
        have := (hrow.draws n).set j Q
        rw [List.replicate_succ', List.append_assoc, List.set_append_right _ _ (by simp), List.length_replicate, Nat.sub_self] at this
        exact this
      have hbel2 : Hid (∀ n Q, Below w.heap.size w ((wr.drewN n).setCell ⟨w.heap.size, j, none⟩ (.int .u64 Q))) := fun n Q => (below_draws hbel n).setCell (Nat.le_refl _) _
      have HT : Hid (_ ∧ _ ∧ _ ∧ _ ∧ _ ∧ _) := ⟨hst, w1, w2, w3, r1, r2⟩
      clear hr r1 r2 r3 r4 r5 w1 w2 w3 hst hrow hbel hlen s1 s2 s5
      generalize nth xs j = aj at *
      go_wp2
      have H0 : 0 ≤ rr * 4294967296 + aj / 4294967296 := by omega
      generalize rr * 4294967296 + aj / 4294967296 = H at *
      have k0 : 0 ≤ H % d * 4294967296 + aj % 4294967296 := by omega
      have hw : IntKind.u64.wrap (H % d * 4294967296) = H % d * 4294967296 := by rw [wrap_lo]; exact Int.emod_eq_of_lt (by omega) (by omega)
      have hm : H.tmod d = H % d := Int.tmod_eq_emod_of_nonneg H0
      go_quiet (fail)
      clear hw hm
      generalize H % d * 4294967296 + aj % 4294967296 = K at *
      have kd := Int.emod_nonneg K (show d ≠ 0 by omega)
      have hq := (Lib.hid (HT.out.2.1.2))
      have hd0 : ¬ d = 0 := by omega
      have e2 : IntKind.u64.wrap (H.tdiv d) = H / d := IntWalk.u64_quo _ _ ⟨H0, by omega, by omega⟩
      have e3 : IntKind.u64.wrap (K.tdiv d) = K / d := IntWalk.u64_quo _ _ ⟨k0, by omega, by omega⟩
      have hw : IntKind.u64.wrap (H / d * 4294967296) = H / d * 4294967296 := by rw [wrap_lo]; exact Int.emod_eq_of_lt (by omega) (by omega)
      have hw2 : IntKind.u64.wrap (H / d * 4294967296 + K / d) = H / d * 4294967296 + K / d := by rw [wrap_lo]; exact Int.emod_eq_of_lt (by omega) (by have := hq.out; omega)
      have hjL : j < L1 := by omega
      go_wp2
      go_still_tail 11, (by kernel_rfl)
      change wpList _ _ _ _ _ (wr.drewN nq).drew
      have hout' : (wr.drewN nq).drew.cell? ⟨w.heap.size, j, none⟩ = some (.int .u64 (nth (List.replicate (j + 1) 0 ++ ts) j)) := hout nq
      have hfr' : (wr.drewN nq).drew.frozen? ⟨w.heap.size, j, none⟩ = false := hfr nq
      have hG2 : w.heap.size < (wr.drewN nq).drew.heap.size := hG
      have hnew2 : Hid (∀ Q, RowAt ((wr.drewN nq).drew.setCell ⟨w.heap.size, j, none⟩ (.int .u64 Q)) w.heap.size (List.replicate j 0 ++ (Q :: ts))) := fun Q => hnew'.out nq Q
      have hbel3 : Hid (∀ Q, Below w.heap.size w ((wr.drewN nq).drew.setCell ⟨w.heap.size, j, none⟩ (.int .u64 Q))) := fun Q => (hbel2.out nq Q).drew
      clear hout hfr hnew' hbel2 hxj hw hw2 e2 e3
      generalize (wr.drewN nq).drew = wz at *
      go_wp2
      go_roundw
      case rel =>
        obtain ⟨t1, t2, t3, t4, t5, t6⟩ := HT.out
        exact ⟨j, _ :: ts, K % d, by omega, rfl, rfl, by simpa using hG2, hnew2.out _, hbel3.out _, by simp; omega, t6.cons t2, t3, t4, t1⟩
      case measure => simp [intOf]
    · obtain rfl : k = 0 := by omega
      have hn1 : Hid (NatAt w.heap.size wr (.slice (some ⟨w.heap.size, 0, none⟩) L1 L1) ts) := by
        rw [List.replicate_zero, List.nil_append] at hrow
        exact hrow.nat (Nat.le_refl _) r2 _ (by omega) (by omega)
      have hval : Hid (val ts = val xs / d ∧ rr = val xs % d) := by
        rw [List.drop_zero] at r5
        have h0 := r3.1
        refine ⟨?_, ?_⟩
        · rw [← r5, Int.add_comm, Int.add_mul_ediv_right _ _ (by omega), Int.ediv_eq_zero_of_lt h0 r4, Int.zero_add]
        · rw [← r5, Int.add_comm, Int.add_mul_emod_self_right, Int.emod_eq_of_lt h0 r4]
      have hbel2 : Hid (Below w.heap.size w wr) := hbel
      clear hr r1 r2 r3 r4 r5 hrow hbel
      go_wp2_with fail
      refine (norm_calls hn1.out).mono ?_
      rintro e w' ⟨v', rfl, hn', hb'⟩
      have HB := Lib.hid hb'
      clear hb'
      go_wp2
      go_ret2
      refine ⟨v', by rw [← hval.out.2]; rfl, ?_, below_then hbel2.out HB.out⟩
      rw [← hval.out.1]
      exact NatAt.mono hn' hbel2.out.size
theorem short3u_calls {B : Nat} {w : World} {v : Value} {xs : List Int} {d : Int} (h : NatAt B w v xs) (wd : Word d) (hd : 0 < d) (hd2 : d ≤ 4294967296) :
    Calls Tryz.prog 162 #[v, .int .u64 d] w (RNat w (ws (val xs / d))) := by
  go_enter Tryz.func162, Tryz.ntmps162
  go_wp2_with fail
  refine (short3_calls h wd hd hd2).mono ?_
  rintro e w' ⟨v', rfl, hn, hb⟩
  have HB := Lib.hid hb
  clear hb
  go_wp2
  go_ret
  exact ⟨v', rfl, hn, HB.out⟩
end Go.Proofs.YtdnbckfhfhfkoaaGreatDoor

namespace Go.Proofs.YtdnbckfhfhfkoaaGreatDoor
open Go.RowKit
theorem p2_le {a b : Int} (h : a ≤ b) : p2 a ≤ p2 b := by
  have e : p2 b = p2 a * p2 (b - a) := by rw [← p2_add]; congr 1; omega
  have h1 : (1 : Rat) ≤ p2 (b - a) := by
    rw [p2_toNat (by omega)]
    have := two_pow_pos (b - a).toNat
    exact (Rat.intCast_le_intCast (a := 1)).2 (by omega)
  have := Rat.mul_le_mul_of_nonneg_left h1 (Rat.le_of_lt (p2_pos a))
  rw [e]; grind
theorem p2_one : p2 1 = 2 := by decide
theorem p2_lt {a b : Int} (h : a < b) : p2 a < p2 b := by
  have h1 := p2_le (a := a + 1) (b := b) (by omega)
  rw [p2_add, p2_one] at h1
  have := p2_pos a
  grind
theorem p2_lt_iff {a b : Int} : p2 a < p2 b ↔ a < b := by
  refine ⟨fun h => ?_, p2_lt⟩
  by_cases k : a < b
  · exact k
  · have := p2_le (a := b) (b := a) (by omega); grind
/-- The amount lies between its top and the next. -/
theorem amt_ge {m e : Int} (h : 0 < m) : p2 (e + (blen m : Int) - 1) ≤ (m : Rat) * p2 e := by
  have h1 := blen_ge h
  have h2 := blen_pos h
  have e1 : e + (blen m : Int) - 1 = ((blen m - 1 : Nat) : Int) + e := by omega
  rw [e1, p2_add, p2_nat]
  exact Rat.mul_le_mul_of_nonneg_right (Rat.intCast_le_intCast.2 h1) (Rat.le_of_lt (p2_pos e))
theorem amt_lt {m e : Int} : (m : Rat) * p2 e < p2 (e + (blen m : Int)) := by
  have h1 := blen_lt m
  rw [Int.add_comm, p2_add, p2_nat]
  exact (Rat.mul_lt_mul_right (p2_pos e)).2 (Rat.intCast_lt_intCast.2 h1)
theorem rv_amt {d : Dx} (h : 0 ≤ d.m) : (0 ≤ d.rv → d.rv = (d.m : Rat) * p2 d.e) ∧ (d.rv ≤ 0 → -d.rv = (d.m : Rat) * p2 d.e) := by
  have p := p2_pos d.e
  have q : 0 ≤ (d.m : Rat) * p2 d.e := Rat.mul_nonneg (Rat.intCast_nonneg.2 h) (Rat.le_of_lt p)
  unfold Dx.rv Dx.sm
  cases d.neg with
  | false => simp only [Bool.false_eq_true, if_false]; grind
  | true => simp only [if_true, Rat.intCast_neg]; grind
/-- Multiples of a power of 2. -/
def Mul2 (K : Int) (x : Rat) : Prop := ∃ s : Int, x = (s : Rat) * p2 K
theorem rv_mul2 {d : Dx} {K : Int} (h : K ≤ d.e) : Mul2 K d.rv := ⟨_, rv_scl h⟩
theorem Mul2.sub {K : Int} {x y : Rat} : Mul2 K x → Mul2 K y → Mul2 K (x - y)
  | ⟨s, hs⟩, ⟨t, ht⟩ => ⟨s - t, by rw [hs, ht, Rat.intCast_sub]; grind⟩
theorem Mul2.pos {K : Int} {x : Rat} (h : Mul2 K x) (hx : 0 < x) : p2 K ≤ x := by
  obtain ⟨s, rfl⟩ := h
  have p := p2_pos K
  have hs : 0 < s := by
    by_cases hs : 0 < s
    · exact hs
    · have : (s : Rat) ≤ 0 := Rat.intCast_nonpos.2 (by omega)
      have := Rat.mul_le_mul_of_nonneg_right this (Rat.le_of_lt p)
      grind
  have : ((1 : Int) : Rat) ≤ (s : Rat) := Rat.intCast_le_intCast.2 (by omega)
  have := Rat.mul_le_mul_of_nonneg_right this (Rat.le_of_lt p)
  have e1 : ((1 : Int) : Rat) = 1 := rfl
  rw [e1] at this
  grind
theorem fits_e {d : Dx} (h : d.fitsB = true) : -32768 ≤ d.e ∧ d.e ≤ 32768 := by
  unfold Dx.fitsB at h; simp at h; omega
theorem fits_lt {d : Dx} (h : d.fitsB = true) : (d.m : Rat) * p2 d.e < p2 98304 := by
  have h1 := fits_e h
  have h2 := (fits_sm h).1
  have := amt_lt (m := d.m) (e := d.e)
  have := p2_le (a := d.e + (blen d.m : Int)) (b := 98304) (by omega)
  grind
theorem sgn_zero2 {d : Dx} : d.sgn = 0 ↔ d.m = 0 := by
  unfold Dx.sgn; split
  · simp_all
  · split <;> simp_all
theorem zeroB_rv {d : Dx} (h : 0 ≤ d.m) : d.zeroB = true ↔ d.rv = 0 := by
  rw [zeroB_true, ← sgn_zero2]
  rcases sgn_rv h with ⟨a, b⟩ | ⟨a, b⟩ | ⟨a, b⟩ <;> rw [a] <;> simp <;> grind
theorem cmp_shift {w l : Dx} {p : Int} (hw : 0 ≤ w.m) : cmpD (shiftD w p) l ≤ 0 ↔ w.rv * p2 p ≤ l.rv := by
  rw [cmpD_le, rv_shift hw]
theorem narrow_p {w l : Rat} {p : Int} (hw : p2 (-32768) ≤ w) (hl : l < p2 98304) (h : w * p2 p ≤ l) : p < 131072 := by
  have h1 := Rat.mul_le_mul_of_nonneg_right hw (Rat.le_of_lt (p2_pos p))
  rw [← p2_add] at h1
  have := (p2_lt_iff (a := -32768 + p) (b := 98304)).1 (by grind)
  omega
theorem narrowX_eq {w l : Dx} {p : Int} (w0 : 0 ≤ w.m) (l0 : 0 ≤ l.m) (hw : p2 (-32768) ≤ w.rv) (hl : l.rv < p2 98304) : narrowX w l p = decide (w.rv * p2 p ≤ l.rv) := by
  unfold narrowX
  by_cases h : w.rv * p2 p ≤ l.rv
  · have hp := narrow_p hw hl h
    rw [decide_eq_true (cmp_shift w0 |>.2 h), decide_eq_true h, decide_eq_true (show p ≤ 1048576 by omega)]
    have wp : 0 < w.rv := by have := p2_pos (-32768); grind
    have lp : 0 < l.rv := by have := Rat.mul_pos wp (p2_pos p); grind
    have wm : 0 < w.m := by
      by_cases hz : w.m = 0
      · rw [rv_zero hz] at wp; grind
      · omega
    have a1 := amt_ge (e := w.e) wm
    have a2 := amt_lt (m := l.m) (e := l.e)
    rw [← (rv_amt w0).1 (by grind)] at a1
    rw [← (rv_amt l0).1 (by grind)] at a2
    have a3 := Rat.mul_le_mul_of_nonneg_right a1 (Rat.le_of_lt (p2_pos p))
    rw [← p2_add] at a3
    have := (p2_lt_iff (a := w.e + (blen w.m : Int) - 1 + p) (b := l.e + (blen l.m : Int))).1 (by grind)
    rw [decide_eq_true (show w.e + (blen w.m : Int) - 1 + p ≤ l.e + (blen l.m : Int) - 1 + 1 by omega)]
    rfl
  · rw [decide_eq_false h, decide_eq_false (fun k => h ((cmp_shift w0).1 k)), Bool.and_false, Bool.and_false]
theorem cmpD_congr {a b a' b' : Dx} (ha : a.rv = a'.rv) (hb : b.rv = b'.rv) : cmpD a b = cmpD a' b' := by
  rcases cmpD_cases a b with ⟨h, k⟩ | ⟨h, k⟩ | ⟨h, k⟩ <;> rcases cmpD_cases a' b' with ⟨h', k'⟩ | ⟨h', k'⟩ | ⟨h', k'⟩ <;> rw [h, h'] <;> grind
end Go.Proofs.YtdnbckfhfhfkoaaGreatDoor

namespace Go.Proofs.YtdnbckfhfhfkoaaGreatDoor
open Go.RowKit
/-- A number of at most p bits. -/
def Rp (p : Int) (x : Rat) : Prop := ∃ s e : Int, x = (s : Rat) * p2 e ∧ (s : Rat) < p2 p ∧ -(p2 p) < (s : Rat)
/-- The greatest of p bits that is not above q; the least that is not below it. -/
def Dn (p : Int) (q r : Rat) : Prop := Rp p r ∧ r ≤ q ∧ ∀ t, Rp p t → t ≤ q → t ≤ r
def Up (p : Int) (q r : Rat) : Prop := Rp p r ∧ q ≤ r ∧ ∀ t, Rp p t → q ≤ t → r ≤ t
theorem Rp.neg {p : Int} {x : Rat} : Rp p x → Rp p (-x)
  | ⟨s, e, h, h1, h2⟩ => ⟨-s, e, by rw [h, Rat.intCast_neg, Rat.neg_mul], by rw [Rat.intCast_neg]; grind, by rw [Rat.intCast_neg]; grind⟩
theorem Rp.mono {p p' : Int} {x : Rat} (h : p ≤ p') : Rp p x → Rp p' x
  | ⟨s, e, h0, h1, h2⟩ => by have := p2_le h; exact ⟨s, e, h0, by grind, by grind⟩
theorem Rp.zero (p : Int) : Rp p 0 := by have := p2_pos p; exact ⟨0, 0, by simp, by simpa using this, by simp; grind⟩
theorem Up.neg {p : Int} {q r : Rat} (h : Up p q r) : Dn p (-q) (-r) :=
  ⟨h.1.neg, by have := h.2.1; grind, fun t ht hq => by have := h.2.2 (-t) ht.neg (by grind); grind⟩
theorem Dn.neg {p : Int} {q r : Rat} (h : Dn p q r) : Up p (-q) (-r) :=
  ⟨h.1.neg, by have := h.2.1; grind, fun t ht hq => by have := h.2.2 (-t) ht.neg (by grind); grind⟩
theorem Dn.mono {p : Int} {q q' r r' : Rat} (h : Dn p q r) (h' : Dn p q' r') (hq : q ≤ q') : r ≤ r' := h'.2.2 r h.1 (by have := h.2.1; grind)
theorem Up.mono {p : Int} {q q' r r' : Rat} (h : Up p q r) (h' : Up p q' r') (hq : q ≤ q') : r ≤ r' := h.2.2 r' h'.1 (by have := h'.2.1; grind)
theorem Dn.more {p p' : Int} {q r r' : Rat} (h : Dn p q r) (h' : Dn p' q r') (hp : p ≤ p') : r ≤ r' := h'.2.2 r (h.1.mono hp) h.2.1
theorem Up.more {p p' : Int} {q r r' : Rat} (h : Up p q r) (h' : Up p' q r') (hp : p ≤ p') : r' ≤ r := h'.2.2 r (h.1.mono hp) h.2.1
theorem Dn.uniq {p : Int} {q r r' : Rat} (h : Dn p q r) (h' : Dn p q r') : r = r' := Rat.le_antisymm (h.mono h' (by grind)) (h'.mono h (by grind))
theorem Up.uniq {p : Int} {q r r' : Rat} (h : Up p q r) (h' : Up p q r') : r = r' := Rat.le_antisymm (h.mono h' (by grind)) (h'.mono h (by grind))
theorem Dn.self {p : Int} {q : Rat} (h : Rp p q) : Dn p q q := ⟨h, by grind, fun _ _ h => h⟩
theorem Up.self {p : Int} {q : Rat} (h : Rp p q) : Up p q q := ⟨h, by grind, fun _ _ h => h⟩
theorem rp_grid {p j : Int} {t : Rat} (ht : Rp p t) (h : p2 (j + p - 1) ≤ t) : Mul2 j t := by
  obtain ⟨s, e, rfl, h1, h2⟩ := ht
  have h3 : p2 (j + p - 1) < p2 (p + e) := by
    rw [p2_add p e]
    have := (Rat.mul_lt_mul_right (p2_pos e)).2 h1
    grind
  have h4 := p2_lt_iff.1 h3
  exact ⟨s * 2 ^ (e - j).toNat, by rw [Rat.intCast_mul, ← p2_toNat (by omega), Rat.mul_assoc, p2_sub]⟩
theorem cast_lt {a b : Int} : (a : Rat) < (b : Rat) ↔ a < b := Rat.intCast_lt_intCast
theorem cast_le {a b : Int} : (a : Rat) ≤ (b : Rat) ↔ a ≤ b := Rat.intCast_le_intCast
theorem mul_p2_lt {a b : Rat} (j : Int) : a * p2 j < b * p2 j ↔ a < b := Rat.mul_lt_mul_right (p2_pos j)
theorem mul_p2_le {a b : Rat} (j : Int) : a * p2 j ≤ b * p2 j ↔ a ≤ b := by rw [← Rat.not_lt, ← Rat.not_lt, mul_p2_lt]
theorem Mul2.near {j k : Int} {t : Rat} (h : Mul2 j t) (hl : t < ((k + 1 : Int) : Rat) * p2 j) : t ≤ (k : Rat) * p2 j := by
  obtain ⟨s, rfl⟩ := h
  rw [mul_p2_lt, cast_lt] at hl
  rw [mul_p2_le, cast_le]; omega
theorem dn_grid {p j k : Int} {q : Rat} (hp : 1 ≤ p) (h1 : (k : Rat) * p2 j ≤ q) (h2 : q < ((k + 1 : Int) : Rat) * p2 j) (h3 : p2 (j + p - 1) ≤ q) (h4 : q < p2 (j + p)) : Dn p q ((k : Rat) * p2 j) := by
  have e1 : p2 (j + p) = p2 p * p2 j := by rw [Int.add_comm, p2_add]
  have e2 : p2 (j + p - 1) = ((2 ^ (p - 1).toNat : Int) : Rat) * p2 j := by rw [← p2_toNat (by omega), ← p2_add]; congr 1; omega
  have k1 : (k : Rat) < p2 p := by rw [← mul_p2_lt j, ← e1]; grind
  have k2 : (2 : Int) ^ (p - 1).toNat < k + 1 := by rw [← cast_lt, ← mul_p2_lt j, ← e2]; grind
  have k3 := two_pow_pos (p - 1).toNat
  have k4 : (0 : Rat) ≤ (k : Rat) := by rw [show (0 : Rat) = ((0 : Int) : Rat) from rfl, cast_le]; omega
  have p0 := p2_pos p
  refine ⟨⟨k, j, rfl, k1, by grind⟩, h1, fun t ht hq => ?_⟩
  by_cases hc : p2 (j + p - 1) ≤ t
  · exact (rp_grid ht hc).near (by grind)
  · have : ((2 ^ (p - 1).toNat : Int) : Rat) * p2 j ≤ (k : Rat) * p2 j := by rw [mul_p2_le, cast_le]; omega
    grind
theorem up_grid {p j k : Int} {q : Rat} (hp : 1 ≤ p) (h1 : ((k - 1 : Int) : Rat) * p2 j < q) (h2 : q ≤ (k : Rat) * p2 j) (h3 : p2 (j + p - 1) ≤ q) (h4 : q ≤ p2 (j + p)) : Up p q ((k : Rat) * p2 j) := by
  have e1 : p2 (j + p) = ((2 ^ p.toNat : Int) : Rat) * p2 j := by rw [← p2_toNat (by omega), ← p2_add]; congr 1; omega
  have k1 : k - 1 < 2 ^ p.toNat := by rw [← cast_lt, ← mul_p2_lt j, ← e1]; grind
  have q0 : 0 < q := by have := p2_pos (j + p - 1); grind
  have k2 : 0 < k := by
    have : ((0 : Int) : Rat) * p2 j < (k : Rat) * p2 j := by rw [show ((0 : Int) : Rat) * p2 j = 0 by simp]; grind
    rwa [mul_p2_lt, cast_lt] at this
  have p0 := p2_pos p
  refine ⟨?_, h2, fun t ht hq => ?_⟩
  · by_cases hk : k = 2 ^ p.toNat
    · refine ⟨1, j + p, by rw [hk, e1]; simp, ?_, ?_⟩
      · have := p2_lt (a := 0) (b := p) (by omega)
        rw [p2_zero] at this; exact this
      · have : ((1 : Int) : Rat) = 1 := rfl
        rw [this]; grind
    · refine ⟨k, j, rfl, ?_, ?_⟩
      · rw [p2_toNat (by omega), cast_lt]; omega
      · have : ((0 : Int) : Rat) < (k : Rat) := cast_lt.2 k2
        have e0 : ((0 : Int) : Rat) = 0 := rfl
        rw [e0] at this; grind
  · obtain ⟨s, rfl⟩ := rp_grid (j := j) ht (by grind)
    have : ((k - 1 : Int) : Rat) * p2 j < (s : Rat) * p2 j := by grind
    rw [mul_p2_lt, cast_lt] at this
    rw [mul_p2_le, cast_le]; omega
theorem rp_small {s e p : Int} (h0 : 0 ≤ s) (h : (blen s : Int) ≤ p) : Rp p ((s : Rat) * p2 e) := by
  refine ⟨s, e, rfl, ?_, ?_⟩
  · rw [p2_toNat (by omega), cast_lt]
    have := blen_lt s
    have := two_pow_le (j := blen s) (k := p.toNat) (by omega)
    omega
  · have := p2_pos p
    have : ((0 : Int) : Rat) ≤ (s : Rat) := cast_le.2 h0
    have e0 : ((0 : Int) : Rat) = 0 := rfl
    rw [e0] at this; grind
/-- A number cut to p bits, its amount not even where bits are lost. -/
theorem cutX_best {x : Dx} {p : Int} (hx : 0 ≤ x.m) (hodd : x.m ≠ 0 → x.m % 2 = 1) (hp : 1 ≤ p) : Dn p x.rv (cutX x p false).rv ∧ Up p x.rv (cutX x p true).rv := by
  unfold cutX
  by_cases hn : (blen x.m : Int) - p ≤ 0
  · rw [if_pos hn, if_pos hn]
    have hr : Rp p x.rv := by
      have := rp_small (e := x.e) hx (show (blen x.m : Int) ≤ p by omega)
      rcases (show 0 ≤ x.rv ∨ x.rv ≤ 0 by grind) with h | h
      · rw [(rv_amt hx).1 h]; exact this
      · have e := (rv_amt hx).2 h
        rw [show x.rv = -((x.m : Rat) * p2 x.e) by grind]; exact this.neg
    exact ⟨.self hr, .self hr⟩
  · rw [if_neg hn, if_neg hn]
    obtain ⟨n, hN⟩ : ∃ n : Int, (blen x.m : Int) - p = n := ⟨_, rfl⟩
    rw [hN] at hn ⊢
    have hm : 0 < x.m := by
      by_cases hz : x.m = 0
      · rw [hz] at hN; simp [blen] at hN; omega
      · omega
    have hp2 := two_pow_pos n.toNat
    have hev : (2 : Int) ^ n.toNat = 2 * 2 ^ (n.toNat - 1) := by
      obtain ⟨k, hk⟩ : ∃ k, n.toNat = k + 1 := ⟨n.toNat - 1, by omega⟩
      rw [hk, Int.pow_succ, Nat.add_sub_cancel]; omega
    have d1 := Int.mul_ediv_add_emod x.m (2 ^ n.toNat)
    have d2 := Int.emod_nonneg x.m (show (2 : Int) ^ n.toNat ≠ 0 by omega)
    have d3 := Int.emod_lt_of_pos x.m hp2
    have d4 : x.m % 2 ^ n.toNat ≠ 0 := by
      intro h0
      have h1 := hodd (by omega)
      rw [h0, Int.add_zero, hev, Int.mul_assoc] at d1
      omega
    generalize x.m / 2 ^ n.toNat = k at *
    have k0 : 0 ≤ k := by
      by_cases hk : 0 ≤ k
      · exact hk
      · have : 2 ^ n.toNat * k ≤ 2 ^ n.toNat * (-1) := Int.mul_le_mul_of_nonneg_left (by omega) (by omega)
        omega
    have eq1 : (x.m : Rat) * p2 x.e = ((2 ^ n.toNat * k + x.m % 2 ^ n.toNat : Int) : Rat) * p2 x.e := by rw [d1]
    have ej : ∀ c : Int, (c : Rat) * p2 (x.e + n) = ((2 ^ n.toNat * c : Int) : Rat) * p2 x.e := fun c => by
      rw [Int.add_comm, p2_add, p2_toNat (n := n) (by omega), Rat.intCast_mul]; grind
    have b1 : (k : Rat) * p2 (x.e + n) ≤ (x.m : Rat) * p2 x.e := by rw [ej, eq1, mul_p2_le, cast_le]; omega
    have b1' : (k : Rat) * p2 (x.e + n) < (x.m : Rat) * p2 x.e := by rw [ej, eq1, mul_p2_lt, cast_lt]; omega
    have b2 : (x.m : Rat) * p2 x.e < ((k + 1 : Int) : Rat) * p2 (x.e + n) := by rw [ej, eq1, mul_p2_lt, cast_lt, Int.mul_add, Int.mul_one]; omega
    have a1 := amt_ge (e := x.e) hm
    have a2 := amt_lt (m := x.m) (e := x.e)
    rw [show x.e + (blen x.m : Int) - 1 = x.e + n + p - 1 by omega] at a1
    rw [show x.e + (blen x.m : Int) = x.e + n + p by omega] at a2
    have DN := dn_grid hp b1 b2 a1 a2
    have UP := up_grid (k := k + 1) hp (by rw [Int.add_sub_cancel]; exact b1') (Rat.le_of_lt b2) a1 (Rat.le_of_lt a2)
    rw [show ((k + 1 : Int) : Rat) = (k : Rat) + 1 by rw [Rat.intCast_add]; rfl] at UP
    cases hneg : x.neg with
    | false =>
      have e : x.rv = (x.m : Rat) * p2 x.e := by unfold Dx.rv Dx.sm; rw [hneg]; simp
      rw [rv_mkD (by simp; omega), rv_mkD (by simp; omega), e]
      simpa using ⟨DN, UP⟩
    | true =>
      have e : x.rv = -((x.m : Rat) * p2 x.e) := by unfold Dx.rv Dx.sm; rw [hneg]; simp [Rat.neg_mul]
      rw [rv_mkD (by simp; omega), rv_mkD (by simp; omega), e]
      have := UP.neg
      have h2 := DN.neg
      simpa [Rat.neg_mul] using ⟨this, h2⟩
theorem cutD_best {d : Dx} {p : Int} (hd : 0 ≤ d.m) (hp : 1 ≤ p) : Dn p d.rv (cutD d p false).rv ∧ Up p d.rv (cutD d p true).rv := by
  have := cutX_best (x := oneD d) oneD_p (one_odd hd) hp
  rw [rv_one hd] at this
  exact this
end Go.Proofs.YtdnbckfhfhfkoaaGreatDoor

namespace Go.Proofs.YtdnbckfhfhfkoaaGreatDoor
open Go.RowKit
/-- Between A and B there is no number of p bits: what is told of one number between them is told of another. -/
theorem Dn.move {p : Int} {A B u v z : Rat} (hA : A < u) (hB : u < B) (hA' : A < v) (hB' : v < B) (hno : ∀ t, Rp p t → A < t → t < B → False) (h : Dn p u z) : Dn p v z := by
  have z1 : z ≤ A := by
    rcases (show z ≤ A ∨ A < z by grind) with h1 | h1
    · exact h1
    · exact (hno z h.1 h1 (by have := h.2.1; grind)).elim
  refine ⟨h.1, by grind, fun t ht hq => ?_⟩
  rcases (show t ≤ A ∨ A < t by grind) with h1 | h1
  · exact h.2.2 t ht (by grind)
  · exact (hno t ht h1 (by grind)).elim
theorem Up.move {p : Int} {A B u v z : Rat} (hA : A < u) (hB : u < B) (hA' : A < v) (hB' : v < B) (hno : ∀ t, Rp p t → A < t → t < B → False) (h : Up p u z) : Up p v z := by
  have z1 : B ≤ z := by
    rcases (show B ≤ z ∨ z < B by grind) with h1 | h1
    · exact h1
    · exact (hno z h.1 (by have := h.2.1; grind) h1).elim
  refine ⟨h.1, by grind, fun t ht hq => ?_⟩
  rcases (show B ≤ t ∨ t < B by grind) with h1 | h1
  · exact h.2.2 t ht (by grind)
  · exact (hno t ht (by grind) h1).elim
theorem no_rp {p E Q : Int} (hQ : (2 : Int) ^ (p - 1).toNat ≤ Q) (hp : 1 ≤ p) {t : Rat} (ht : Rp p t) (h1 : (Q : Rat) * p2 (E + 1) < t) (h2 : t < ((Q + 1 : Int) : Rat) * p2 (E + 1)) : False := by
  have e1 : p2 (E + 1 + p - 1) = ((2 ^ (p - 1).toNat : Int) : Rat) * p2 (E + 1) := by rw [← p2_toNat (by omega), ← p2_add]; congr 1; omega
  have e2 : ((2 ^ (p - 1).toNat : Int) : Rat) * p2 (E + 1) ≤ (Q : Rat) * p2 (E + 1) := by rw [mul_p2_le, cast_le]; exact hQ
  have := (rp_grid (j := E + 1) ht (by grind)).near h2
  grind
theorem two_p2 (E : Int) : p2 (E + 1) = 2 * p2 E := by rw [Int.add_comm, p2_add, p2_one]
theorem sticky_rv (Q : Int) (b : Bool) (E : Int) : ((stickyM Q b : Int) : Rat) * p2 E = (Q : Rat) * p2 (E + 1) + (if b then p2 E else 0) := by
  unfold stickyM
  rw [two_p2, Rat.intCast_add, Rat.intCast_mul]
  have e2 : ((2 : Int) : Rat) = 2 := rfl
  rw [e2]
  cases b <;> simp <;> grind
/-- An amount with a last bit for what is left, cut: the cut of the amount itself. -/
theorem sticky_best {p E Q : Int} {q : Rat} {b : Bool} (hp : 1 ≤ p) (hQ : (2 : Int) ^ (p - 1).toNat ≤ Q) (h1 : b = false → q = (Q : Rat) * p2 (E + 1)) (h2 : b = true → (Q : Rat) * p2 (E + 1) < q ∧ q < ((Q + 1 : Int) : Rat) * p2 (E + 1)) :
    (∀ z, Dn p (((stickyM Q b : Int) : Rat) * p2 E) z → Dn p q z) ∧ (∀ z, Up p (((stickyM Q b : Int) : Rat) * p2 E) z → Up p q z) := by
  rw [sticky_rv]
  cases b with
  | false => simp only [Bool.false_eq_true, if_false, Rat.add_zero]; rw [← h1 rfl]; exact ⟨fun _ h => h, fun _ h => h⟩
  | true =>
    obtain ⟨a1, a2⟩ := h2 rfl
    simp only [if_true]
    have p0 := p2_pos E
    have e1 : ((Q + 1 : Int) : Rat) * p2 (E + 1) = (Q : Rat) * p2 (E + 1) + 2 * p2 E := by
      rw [Rat.intCast_add, two_p2]
      have e2 : ((1 : Int) : Rat) = 1 := rfl
      rw [e2]; grind
    have hno : ∀ t, Rp p t → (Q : Rat) * p2 (E + 1) < t → t < ((Q + 1 : Int) : Rat) * p2 (E + 1) → False := fun t ht k1 k2 => no_rp hQ hp ht k1 k2
    exact ⟨fun z h => h.move (A := (Q : Rat) * p2 (E + 1)) (B := ((Q + 1 : Int) : Rat) * p2 (E + 1)) (by grind) (by grind) a1 a2 hno, fun z h => h.move (A := (Q : Rat) * p2 (E + 1)) (B := ((Q + 1 : Int) : Rat) * p2 (E + 1)) (by grind) (by grind) a1 a2 hno⟩
theorem sm_amt (d : Dx) : d.rv = (if d.neg then -1 else 1) * ((d.m : Rat) * p2 d.e) := by
  unfold Dx.rv Dx.sm
  cases d.neg <;> simp [Rat.neg_mul]
theorem cast_ne {a : Int} (h : 0 < a) : (0 : Rat) < (a : Rat) := by
  have := cast_lt.2 h
  have e0 : ((0 : Int) : Rat) = 0 := rfl
  rwa [e0] at this
theorem over_best {a b : Dx} {p : Int} {q : Rat} (ha : 0 ≤ a.m) (hb : 0 ≤ b.m) (hb0 : b.m ≠ 0) (hp : 1 ≤ p) (hq : q * b.rv = a.rv) : Dn p q (overD a b p false).rv ∧ Up p q (overD a b p true).rv := by
  unfold overD overX
  have m1 := oneD_p (d := a)
  have m2 := oneD_p (d := b)
  have m20 : (oneD b).m ≠ 0 := fun h => hb0 ((mkD_m_zero hb).1 h)
  rw [← rv_one ha, ← rv_one hb] at hq
  generalize oneD a = x at *
  generalize oneD b = y at *
  have ypos : 0 < y.m := by omega
  by_cases hx0 : x.m = 0
  · rw [if_pos hx0, if_pos hx0]
    have e0 : x.rv = 0 := rv_zero hx0
    have y0 : y.rv ≠ 0 := by
      rw [sm_amt]
      have := Rat.mul_pos (cast_ne ypos) (p2_pos y.e)
      cases y.neg <;> simp <;> grind
    have q0 : q = 0 := by
      rw [e0] at hq
      rcases Rat.mul_eq_zero.1 hq with h | h
      · exact h
      · exact absurd h y0
    rw [q0, show (⟨false, [], 0⟩ : Dx).rv = 0 from rv_zero rfl]
    exact ⟨.self (.zero p), .self (.zero p)⟩
  · rw [if_neg hx0, if_neg hx0]
    have xpos : 0 < x.m := by omega
    obtain ⟨k, hk⟩ : ∃ k : Int, max (p + 2 + (blen y.m : Int) - (blen x.m : Int)) 0 = k := ⟨_, rfl⟩
    rw [hk]
    have pk := two_pow_pos k.toNat
    have hM : 0 < x.m * 2 ^ k.toNat := Int.mul_pos xpos pk
    have hMb : blen (x.m * 2 ^ k.toNat) = blen x.m + k.toNat := blen_mul_pow xpos _
    have g1 := blen_ge hM
    have g2 := blen_lt y.m
    obtain ⟨M, hMe⟩ : ∃ M, x.m * 2 ^ k.toNat = M := ⟨_, rfl⟩
    rw [hMe] at hM hMb g1 ⊢
    have hQ : (2 : Int) ^ (p - 1).toNat ≤ M / y.m := by
      rw [Int.le_ediv_iff_mul_le ypos]
      have bx := blen_pos xpos
      have e1 : (2 : Int) ^ (blen M - 1) = 2 ^ (blen M - 1 - blen y.m) * 2 ^ blen y.m := by rw [← Int.pow_add]; congr 1; omega
      have e2 := two_pow_le (j := (p - 1).toNat) (k := blen M - 1 - blen y.m) (by omega)
      have e3 : (2 : Int) ^ (p - 1).toNat * y.m ≤ 2 ^ (blen M - 1 - blen y.m) * 2 ^ blen y.m := by
        have := two_pow_pos (p - 1).toNat
        exact Int.mul_le_mul e2 (Int.le_of_lt g2) m2 (by have := two_pow_pos (blen M - 1 - blen y.m); omega)
      omega
    have d1 := Int.mul_ediv_add_emod M y.m
    have d2 := Int.emod_nonneg M m20
    have d3 := Int.emod_lt_of_pos M ypos
    generalize M / y.m = Q at *
    -- the quotient of the amounts
    obtain ⟨q', hq'⟩ : ∃ q' : Rat, q' = (if (!(x.neg == y.neg)) then -1 else 1) * q := ⟨_, rfl⟩
    have hqa : q' * (y.m : Rat) = (M : Rat) * p2 (x.e - y.e - k) := by
      rw [sm_amt, sm_amt x] at hq
      have e1 : p2 x.e = p2 (x.e - y.e - k) * (p2 y.e * p2 k) := by rw [← p2_add, ← p2_add]; congr 1; omega
      have e2 : (M : Rat) = (x.m : Rat) * p2 k := by rw [← hMe, Rat.intCast_mul, ← p2_toNat (by omega)]
      have h1 : q' * ((y.m : Rat) * p2 y.e) = (x.m : Rat) * p2 x.e := by
        rw [hq']
        cases hx : x.neg <;> cases hy : y.neg <;> rw [hx, hy] at hq <;> simp at hq ⊢ <;> grind
      rw [e1] at h1
      have p0 := p2_pos y.e
      have h2 : (q' * (y.m : Rat)) * p2 y.e = ((M : Rat) * p2 (x.e - y.e - k)) * p2 y.e := by rw [e2]; grind
      have h3 : q' * (y.m : Rat) ≤ (M : Rat) * p2 (x.e - y.e - k) := by rw [← mul_p2_le y.e]; grind
      have h4 : (M : Rat) * p2 (x.e - y.e - k) ≤ q' * (y.m : Rat) := by rw [← mul_p2_le y.e]; grind
      exact Rat.le_antisymm h3 h4
    have y0 := cast_ne ypos
    have cmp : ∀ c : Int, (c : Rat) * p2 (x.e - y.e - k) * (y.m : Rat) = ((y.m * c : Int) : Rat) * p2 (x.e - y.e - k) := fun c => by rw [Rat.intCast_mul]; grind
    have key := sticky_best (p := p) (E := x.e - y.e - k - 1) (Q := Q) (q := q') (b := decide (M % y.m ≠ 0)) hp hQ (fun hb => by
        have hr : M % y.m = 0 := by simpa using hb
        rw [hr, Int.add_zero] at d1
        rw [show x.e - y.e - k - 1 + 1 = x.e - y.e - k by omega]
        have e := cmp Q
        rw [d1, ← hqa] at e
        have h3 : q' ≤ (Q : Rat) * p2 (x.e - y.e - k) := by rw [← Rat.not_lt, ← Rat.mul_lt_mul_right y0]; grind
        have h4 : (Q : Rat) * p2 (x.e - y.e - k) ≤ q' := by rw [← Rat.not_lt, ← Rat.mul_lt_mul_right y0]; grind
        exact Rat.le_antisymm h3 h4) (fun hb => by
        have hr : M % y.m ≠ 0 := by simpa using hb
        rw [show x.e - y.e - k - 1 + 1 = x.e - y.e - k by omega]
        constructor
        · rw [← Rat.mul_lt_mul_right y0, cmp, hqa, mul_p2_lt, cast_lt]; omega
        · rw [← Rat.mul_lt_mul_right y0, cmp, hqa, mul_p2_lt, cast_lt, Int.mul_add, Int.mul_one]; omega)
    have hS := (sticky_blen (q := Q) (b := decide (M % y.m ≠ 0)) (by have := two_pow_pos (p - 1).toNat; omega)).1
    have best := cutD_best (d := mkD (!(x.neg == y.neg)) (stickyM Q (decide (M % y.m ≠ 0))) (x.e - y.e - k - 1)) mkD_p hp
    rw [rv_mkD hS] at best
    cases hs : (!(x.neg == y.neg)) with
    | false =>
      rw [hs] at best hq'
      simp only [Bool.false_eq_true, if_false] at best hq'
      have : q' = q := by grind
      rw [this] at key
      exact ⟨key.1 _ best.1, key.2 _ best.2⟩
    | true =>
      rw [hs] at best hq'
      simp only [if_true, Rat.intCast_neg, Rat.neg_mul] at best hq'
      have e1 : q = -q' := by grind
      have b1 := best.1.neg
      have b2 := best.2.neg
      rw [Rat.neg_neg] at b1 b2
      have c1 := (key.2 _ b1).neg
      have c2 := (key.1 _ b2).neg
      rw [Rat.neg_neg] at c1 c2
      rw [e1]
      exact ⟨c1, c2⟩
end Go.Proofs.YtdnbckfhfhfkoaaGreatDoor

namespace Go.Proofs.YtdnbckfhfhfkoaaGreatDoor
open Go.RowKit
def DnS (p : Int) (a z : Rat) : Prop := Rp p z ∧ 0 ≤ z ∧ z * z ≤ a ∧ ∀ t, Rp p t → 0 ≤ t → t * t ≤ a → t ≤ z
def UpS (p : Int) (a z : Rat) : Prop := Rp p z ∧ 0 ≤ z ∧ a ≤ z * z ∧ ∀ t, Rp p t → 0 ≤ t → a ≤ t * t → z ≤ t
theorem DnS.mono {p : Int} {a a' z z' : Rat} (h : DnS p a z) (h' : DnS p a' z') (ha : a ≤ a') : z ≤ z' := h'.2.2.2 z h.1 h.2.1 (by have := h.2.2.1; grind)
theorem UpS.mono {p : Int} {a a' z z' : Rat} (h : UpS p a z) (h' : UpS p a' z') (ha : a ≤ a') : z ≤ z' := h.2.2.2 z' h'.1 h'.2.1 (by have := h'.2.2.1; grind)
theorem DnS.more {p p' : Int} {a z z' : Rat} (h : DnS p a z) (h' : DnS p' a z') (hp : p ≤ p') : z ≤ z' := h'.2.2.2 z (h.1.mono hp) h.2.1 h.2.2.1
theorem UpS.more {p p' : Int} {a z z' : Rat} (h : UpS p a z) (h' : UpS p' a z') (hp : p ≤ p') : z' ≤ z := h'.2.2.2 z (h.1.mono hp) h.2.1 h.2.2.1
/-! ### Corners. -/
/-- A product of what lies between ends: not below one of the four corners, not above one. -/
theorem lin_le {a b x c : Rat} (h1 : a ≤ x) (h2 : x ≤ b) : ∃ x0, (x0 = a ∨ x0 = b) ∧ x0 * c ≤ x * c := by
  rcases (show 0 ≤ c ∨ c ≤ 0 by grind) with h | h
  · exact ⟨a, .inl rfl, Rat.mul_le_mul_of_nonneg_right h1 h⟩
  · refine ⟨b, .inr rfl, ?_⟩
    have := Rat.mul_le_mul_of_nonneg_right h2 (show 0 ≤ -c by grind)
    grind
theorem corner_le {a b c d x y : Rat} (h1 : a ≤ x) (h2 : x ≤ b) (h3 : c ≤ y) (h4 : y ≤ d) : ∃ x0 y0, (x0 = a ∨ x0 = b) ∧ (y0 = c ∨ y0 = d) ∧ x0 * y0 ≤ x * y := by
  obtain ⟨y0, k1, k2⟩ := lin_le (c := x) h3 h4
  obtain ⟨x0, k3, k4⟩ := lin_le (c := y0) h1 h2
  exact ⟨x0, y0, k3, k1, by grind⟩
theorem corner_ge {a b c d x y : Rat} (h1 : a ≤ x) (h2 : x ≤ b) (h3 : c ≤ y) (h4 : y ≤ d) : ∃ x0 y0, (x0 = a ∨ x0 = b) ∧ (y0 = c ∨ y0 = d) ∧ x * y ≤ x0 * y0 := by
  obtain ⟨x0, y0, k1, k2, k3⟩ := corner_le (a := -b) (b := -a) (x := -x) (show -b ≤ -x by grind) (by grind) h3 h4
  refine ⟨-x0, y0, by rcases k1 with h | h <;> rw [h] <;> simp, k2, by grind⟩
end Go.Proofs.YtdnbckfhfhfkoaaGreatDoor

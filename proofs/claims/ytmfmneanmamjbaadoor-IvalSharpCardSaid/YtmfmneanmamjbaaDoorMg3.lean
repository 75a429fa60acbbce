/-
Package ulpref04.
Dyadic numbers as rational numbers: tops, narrowness, one form. Plain.
Package ulpref06.
ulpref04.Copy, by hand: a copy of a number's words.
The reckoning again, so that the kernel can do it: the same functions by recursion on a number of rounds.
Package ulpref06's last, package ulplaw06's own.
The next numbers of so many bits, down and up. Plain.
Quotients and roots: the next numbers of so many bits. Plain.
Roots; products and quotients of what lies between ends. Plain.
Package ulplaw06: what encloses, what is reckoned undone, parts. The runs.
Intervals as rational numbers: what is reckoned of what lies in them lies in the answer; of parts, within; with more bits, within. Plain.
Intervals as rational numbers, second part: quotients, roots; what the statements of ulplaw06 ask. Plain.
Package ulplaw06: IvalBack, IvalInclusion.
Package ulplaw06: IvalSharp.
-/
import Derived.Test.YtmfmneanmamjbaaDoorMg2
import Derived.Test.YtmfmneanmamjbaaDoorMg1
namespace Go.Proofs.YtmfmneanmamjbaaDoor
open Go.RowKit
def fForm : Spec := specK [.b, .w, .i .i64] fun (neg : Bool) (xs : List Int) (e : Int) => (some (-4611686018427387904 ≤ e ∧ e ≤ 4611686018427387904), dT (mkD neg (val xs) e))
theorem fForm_vc (neg : Bool) (xs : List Int) (e : Int) (Q : Tv → Prop) : execF ⟨tys, sRef3⟩ (fun _ => none) 0 Tryd.f85 [.one (.bool neg), .one (.words false xs), .one (.int .i64 e)] Q = (br (eqI (↑(List.length (ws (val xs))) : Int) (0 : Int)) (Q (Tv.sv (Sv.agg [At.bool false, At.words true [], At.int IntKind.i64 (0 : Int)]))) (((0 : Int) ≤ (↑(tz (val (ws (val xs)))) : Int) ∧ (↑(tz (val (ws (val xs)))) : Int) ≤ (9007199254740992 : Int)) ∧ inR (e + (↑(tz (val (ws (val xs)))) : Int)) ∧ Q (Tv.sv (Sv.agg [At.bool neg, At.words true (ws (val (ws (val xs)) / (2 : Int) ^ Int.toNat (↑(tz (val (ws (val xs)))) : Int))), At.int IntKind.i64 (e + (↑(tz (val (ws (val xs)))) : Int))])))) := by kernel_rfl
theorem fForm_ok : SpecOk Tryd.prog 85 fForm :=
  specK_ok (envOk tys_ok sRef3_ok) mixed Tryd.func85 rfl (by decide) (by decide) fun neg _ xs hxs (e : Int) _ hp => ⟨fun _ => none, 0, by
    have h0 : -4611686018427387904 ≤ e := hp.1
    have h1 : e ≤ 4611686018427387904 := hp.2
    have hv := WfW.val0 hxs
    have ht := tz_small hxs.1 hxs.2
    refine (fForm_vc neg xs e _).mpr (br_intro (fun h => ?_) (fun h => ?_))
    · rw [len_zero hv, decide_eq_true_eq] at h
      show _ = dT (mkD neg (val xs) e)
      rw [h, mkD_zero]
      rfl
    · rw [len_zero hv, decide_eq_false_iff_not] at h
      rw [val_ws hv]
      refine ⟨⟨by omega, by omega⟩, ⟨by omega, by omega⟩, ?_⟩
      show _ = dT (mkD neg (val xs) e)
      rw [mkD, if_neg h, Int.toNat_natCast]
      rfl⟩
def fZero : Spec := specK [.d] fun (d : Dx) => (none, bT d.zeroB)
theorem fZero_vc (d : Dx) (Q : Tv → Prop) : execF ⟨tys, sRef3⟩ (fun _ => none) 0 Tryd.f39 [.agg (dyL false d)] Q = (Q (Tv.sv (Sv.one (At.bool (eqI (↑(List.length (ws (val d.xs))) : Int) (0 : Int)))))) := by kernel_rfl
theorem fZero_ok : SpecOk Tryd.prog 39 fZero :=
  specK_ok (envOk tys_ok sRef3_ok) mixed Tryd.func39 rfl (by decide) (by decide) fun (d : Dx) hd _ => ⟨fun _ => none, 0, by
    refine (fZero_vc d _).mpr ?_
    show _ = bT d.zeroB
    rw [len_zero (WfW.val0 hd)]
    rfl⟩
def fRight : Spec := specK [.d] fun (d : Dx) => (none, bT d.fitsB)
theorem fRight_vc (d : Dx) (Q : Tv → Prop) : execF ⟨tys, sRef3⟩ (fun _ => none) 0 Tryd.f35 [.agg (dyL false d)] Q = (br (!greatB (val d.xs)) (br (leI (-32768 : Int) d.e) (Q (Tv.sv (Sv.one (At.bool (leI d.e (32768 : Int)))))) (Q (Tv.sv (Sv.one (At.bool false))))) (Q (Tv.sv (Sv.one (At.bool false))))) := by kernel_rfl
theorem fRight_ok : SpecOk Tryd.prog 35 fRight :=
  specK_ok (envOk tys_ok sRef3_ok) mixed Tryd.func35 rfl (by decide) (by decide) fun (d : Dx) _ _ => ⟨fun _ => none, 0, by
    show execF _ _ _ _ _ (fun t => t = bT d.fitsB)
    refine (fRight_vc d _).mpr (br_intro (fun h => br_intro (fun h' => ?_) fun h' => ?_) fun h => ?_)
    · unfold Dx.fitsB Dx.m; rw [h, show decide (-32768 ≤ d.e) = true from h']; rfl
    · unfold Dx.fitsB Dx.m; rw [h, show decide (-32768 ≤ d.e) = false from h']; rfl
    · unfold Dx.fitsB Dx.m; rw [h]; rfl⟩
def fTop : Spec := specK [.d] fun (d : Dx) => (some (eB 2305843009213693952 d), iT (d.e + blen d.m - 1))
theorem fTop_vc (d : Dx) (Q : Tv → Prop) : execF ⟨tys, sRef3⟩ (fun _ => none) 0 Tryd.f100 [.agg (dyL false d)] Q = (inR (d.e + (↑(blen (val d.xs)) : Int)) ∧ inR (d.e + (↑(blen (val d.xs)) : Int) - (1 : Int)) ∧ true = true ∧ Q (Tv.sv (Sv.one (At.int IntKind.i64 (d.e + (↑(blen (val d.xs)) : Int) - (1 : Int)))))) := by kernel_rfl
theorem fTop_ok : SpecOk Tryd.prog 100 fTop :=
  specK_ok (envOk tys_ok sRef3_ok) mixed Tryd.func100 rfl (by decide) (by decide) fun (d : Dx) hd hp => ⟨fun _ => none, 0, by
    have hb := blen_wf hd
    have h0 : -2305843009213693952 ≤ d.e := hp.1
    have h1 : d.e ≤ 2305843009213693952 := hp.2
    exact (fTop_vc d _).mpr ⟨⟨by omega, by omega⟩, ⟨by omega, by omega⟩, rfl, rfl⟩⟩
def bitsD (d : Dx) : Int := (blen d.m : Int) - (tz d.m : Int)
def fBits : Spec := specK [.d] fun (d : Dx) => (none, iT (bitsD d))
theorem fBits_vc (d : Dx) (Q : Tv → Prop) : execF ⟨tys, sRef3⟩ (fun _ => none) 0 Tryd.f40 [.agg (dyL false d)] Q = (inR ((↑(blen (val d.xs)) : Int) - (↑(tz (val d.xs)) : Int)) ∧ true = true ∧ Q (Tv.sv (Sv.one (At.int IntKind.i64 ((↑(blen (val d.xs)) : Int) - (↑(tz (val d.xs)) : Int)))))) := by kernel_rfl
theorem fBits_ok : SpecOk Tryd.prog 40 fBits :=
  specK_ok (envOk tys_ok sRef3_ok) mixed Tryd.func40 rfl (by decide) (by decide) fun (d : Dx) hd _ => ⟨fun _ => none, 0, by
    have hb := blen_wf hd
    have ht := tz_small hd.1 hd.2
    exact (fBits_vc d _).mpr ⟨⟨by omega, by omega⟩, rfl, rfl⟩⟩
def sameD (d c : Dx) : Bool := (d.neg == c.neg) && (eqI d.e c.e && decide (d.xs = c.xs))
def fSame : Spec := specK [.d, .d] fun (d : Dx) (c : Dx) => (none, bT (sameD d c))
theorem fSame_vc (d c : Dx) (Q : Tv → Prop) : execF ⟨tys, sRef3⟩ (fun _ => none) 0 Tryd.f66 [.agg (dyL false d), .agg (dyL false c)] Q = (br (d.neg == c.neg) (br (eqI d.e c.e) (Q (Tv.sv (Sv.one (At.bool (decide (d.xs = c.xs)))))) (Q (Tv.sv (Sv.one (At.bool false))))) (Q (Tv.sv (Sv.one (At.bool false))))) := by kernel_rfl
theorem fSame_ok : SpecOk Tryd.prog 66 fSame :=
  specK_ok (envOk tys_ok sRef3_ok) mixed Tryd.func66 rfl (by decide) (by decide) fun (d : Dx) _ (c : Dx) _ _ => ⟨fun _ => none, 0, by
    show execF _ _ _ _ _ (fun t => t = bT (sameD d c))
    refine (fSame_vc d c _).mpr (br_intro (fun h => br_intro (fun h' => ?_) fun h' => ?_) fun h => ?_)
    · rw [sameD, h, h']; rfl
    · rw [sameD, h, h']; rfl
    · rw [sameD, h]; rfl⟩
def sF1 : List (FuncId × Spec) := [(85, fForm), (39, fZero), (35, fRight), (100, fTop), (40, fBits), (66, fSame)] ++ sRef3
theorem sF1_ok : SpecsOk Tryd.prog sF1 := ⟨fForm_ok, fZero_ok, fRight_ok, fTop_ok, fBits_ok, fSame_ok, sRef3_ok⟩
def fOne : Spec := specK [.d] fun (d : Dx) => (some (eB 4611686018427387904 d), dT (oneD d))
theorem fOne_vc (d : Dx) (Q : Tv → Prop) : execF ⟨tys, sF1⟩ (fun _ => none) 0 Tryd.f72 [.agg (dyL false d)] Q = (((-4611686018427387904 : Int) ≤ d.e ∧ d.e ≤ (4611686018427387904 : Int)) ∧ Q (Tv.sv (Sv.agg (dyL true (mkD d.neg (val d.xs) d.e))))) := by kernel_rfl
theorem fOne_ok : SpecOk Tryd.prog 72 fOne :=
  specK_ok (envOk tys_ok sF1_ok) mixed Tryd.func72 rfl (by decide) (by decide) fun (d : Dx) _ hp => ⟨fun _ => none, 0, (fOne_vc d _).mpr ⟨hp, rfl⟩⟩
def fNeg : Spec := specK [.d] fun (d : Dx) => (some (eB 4611686018427387904 d), dT (negD d))
theorem fNeg_vc (d : Dx) (Q : Tv → Prop) : execF ⟨tys, sF1⟩ (fun _ => none) 0 Tryd.f80 [.agg (dyL false d)] Q = (((-4611686018427387904 : Int) ≤ d.e ∧ d.e ≤ (4611686018427387904 : Int)) ∧ Q (Tv.sv (Sv.agg (dyL true (mkD (!d.neg) (val d.xs) d.e))))) := by kernel_rfl
theorem fNeg_ok : SpecOk Tryd.prog 80 fNeg :=
  specK_ok (envOk tys_ok sF1_ok) mixed Tryd.func80 rfl (by decide) (by decide) fun (d : Dx) _ hp => ⟨fun _ => none, 0, (fNeg_vc d _).mpr ⟨hp, rfl⟩⟩
def fTwice : Spec := specK [.d, .i .i64] fun (d : Dx) (n : Int) => (some (eB 2305843009213693952 d ∧ -2305843009213693952 ≤ n ∧ n ≤ 2305843009213693952), dT (shiftD d n))
theorem fTwice_vc (d : Dx) (n : Int) (Q : Tv → Prop) : execF ⟨tys, sF1⟩ (fun _ => none) 0 Tryd.f81 [.agg (dyL false d), .one (.int .i64 n)] Q = (inR (d.e + n) ∧ ((-4611686018427387904 : Int) ≤ d.e + n ∧ d.e + n ≤ (4611686018427387904 : Int)) ∧ Q (Tv.sv (Sv.agg (dyL true (mkD d.neg (val d.xs) (d.e + n)))))) := by kernel_rfl
theorem fTwice_ok : SpecOk Tryd.prog 81 fTwice :=
  specK_ok (envOk tys_ok sF1_ok) mixed Tryd.func81 rfl (by decide) (by decide) fun (d : Dx) _ (n : Int) _ hp => ⟨fun _ => none, 0, by
    obtain ⟨⟨h1, h2⟩, h3, h4⟩ : eB 2305843009213693952 d ∧ -2305843009213693952 ≤ n ∧ n ≤ 2305843009213693952 := hp
    exact (fTwice_vc d n _).mpr ⟨⟨by omega, by omega⟩, ⟨by omega, by omega⟩, rfl⟩⟩
def fSign : Spec := specK [.d] fun (d : Dx) => (none, iT d.sgn)
theorem fSign_vc (d : Dx) (Q : Tv → Prop) : execF ⟨tys, sF1⟩ (fun _ => none) 0 Tryd.f48 [.agg (dyL false d)] Q = (br (Dx.zeroB d) (Q (Tv.sv (Sv.one (At.int IntKind.i64 (0 : Int))))) (br d.neg (Q (Tv.sv (Sv.one (At.int IntKind.i64 (-1 : Int))))) (Q (Tv.sv (Sv.one (At.int IntKind.i64 (1 : Int))))))) := by kernel_rfl
theorem fSign_ok : SpecOk Tryd.prog 48 fSign :=
  specK_ok (envOk tys_ok sF1_ok) mixed Tryd.func48 rfl (by decide) (by decide) fun (d : Dx) _ _ => ⟨fun _ => none, 0, by
    show execF _ _ _ _ _ (fun t => t = iT d.sgn)
    refine (fSign_vc d _).mpr (br_intro (fun h => ?_) fun h => br_intro (fun h' => ?_) fun h' => ?_)
    · rw [Dx.sgn, if_pos (zeroB_true.1 h)]
    · rw [Dx.sgn, if_neg (zeroB_false.1 h), if_pos h']
    · rw [Dx.sgn, if_neg (zeroB_false.1 h), h']; rfl⟩
def fInt : Spec := specK [.i .i64] fun (n : Int) => (some (inR n), dT (mkS n 0))
theorem fInt_vc (n : Int) (Q : Tv → Prop) : execF ⟨tys, sF1⟩ (fun _ => none) 0 Tryd.f51 [.one (.int .i64 n)] Q = (br (ltI n (0 : Int)) (Word (IntKind.wrap IntKind.u64 ((0 : Int) - IntKind.wrap IntKind.u64 n)) ∧ ((-4611686018427387904 : Int) ≤ (0 : Int) ∧ (0 : Int) ≤ (4611686018427387904 : Int)) ∧ Q (Tv.sv (Sv.agg (dyL true (mkD true (val (ws (IntKind.wrap IntKind.u64 ((0 : Int) - IntKind.wrap IntKind.u64 n)))) (0 : Int)))))) (Word (IntKind.wrap IntKind.u64 n) ∧ ((-4611686018427387904 : Int) ≤ (0 : Int) ∧ (0 : Int) ≤ (4611686018427387904 : Int)) ∧ Q (Tv.sv (Sv.agg (dyL true (mkD false (val (ws (IntKind.wrap IntKind.u64 n))) (0 : Int))))))) := by kernel_rfl
theorem fInt_ok : SpecOk Tryd.prog 51 fInt :=
  specK_ok (envOk tys_ok sF1_ok) mixed Tryd.func51 rfl (by decide) (by decide) fun (n : Int) _ hp => ⟨fun _ => none, 0, by
    obtain ⟨h1, h2⟩ : inR n := hp
    show execF _ _ _ _ _ (fun t => t = dT (mkS n 0))
    refine (fInt_vc n _).mpr (br_intro (fun h => ?_) fun h => ?_)
    · have e : IntKind.wrap .u64 (0 - IntKind.wrap .u64 n) = (n.natAbs : Int) := by
        rw [ltI_true] at h; rw [IntKind.wrap_u64, IntKind.wrap_u64]; omega
      rw [e, val_ws (by omega)]
      refine ⟨⟨by omega, by omega⟩, ⟨by omega, by omega⟩, ?_⟩
      rw [mkS, decide_eq_true (ltI_true.1 h)]
    · have e : IntKind.wrap .u64 n = (n.natAbs : Int) := by
        rw [ltI_false] at h; rw [IntKind.wrap_u64]; omega
      rw [e, val_ws (by omega)]
      refine ⟨⟨by omega, by omega⟩, ⟨by omega, by omega⟩, ?_⟩
      rw [mkS, decide_eq_false (ltI_false.1 h)]⟩
def sF2 : List (FuncId × Spec) := [(72, fOne), (80, fNeg), (81, fTwice), (48, fSign), (51, fInt)] ++ sF1
theorem sF2_ok : SpecsOk Tryd.prog sF2 := ⟨fOne_ok, fNeg_ok, fTwice_ok, fSign_ok, fInt_ok, sF1_ok⟩
theorem one_ws {d : Dx} (h : 0 ≤ d.m) : (oneD d).xs = ws (oneD d).m := mkD_ws h
theorem one_len {d : Dx} (h : 0 ≤ d.m) : eqI ((oneD d).xs.length : Nat) 0 = decide ((oneD d).m = 0) := by rw [one_ws h, len_zero oneD_p]
theorem tz_odd2 {m : Int} (h : m % 2 = 1) (h0 : 0 ≤ m) : tz m = 0 := by
  obtain ⟨k, rfl⟩ : ∃ k, m = 2 * k + 1 := ⟨m / 2, by omega⟩
  exact tz_odd (by omega)
theorem mkD_mul_pow {neg : Bool} {m e : Int} {k : Nat} (h : 0 ≤ m) : mkD neg (m * 2 ^ k) e = mkD neg m (e + k) := by
  by_cases hz : m = 0
  · subst hz; rw [Int.zero_mul, mkD_zero, mkD_zero]
  · have hp : 0 < m := by omega
    have p := two_pow_pos k
    have hq : m * 2 ^ k ≠ 0 := by have := Int.mul_pos hp p; omega
    unfold mkD
    rw [if_neg hq, if_neg hz, tz_mul_pow hp]
    have : m * 2 ^ k / 2 ^ (tz m + k) = m / 2 ^ tz m := by
      rw [Int.pow_add, Int.mul_ediv_mul_of_pos_left _ _ p]
    rw [this]
    congr 1
    omega
theorem mkD_odd {neg : Bool} {m e : Int} (h : 0 < m) : (mkD neg m e).m % 2 = 1 := by
  rw [mkD_m (by omega)]
  obtain ⟨k, hk, e⟩ := tz_spec h
  have p := two_pow_pos (tz m)
  have e2 : m / 2 ^ tz m = 2 * k + 1 := by
    conv => lhs; lhs; rw [e]
    exact Int.mul_ediv_cancel_left _ (by omega)
  omega
theorem one_odd {d : Dx} (h : 0 ≤ d.m) (h0 : (oneD d).m ≠ 0) : (oneD d).m % 2 = 1 := mkD_odd (by
  have : d.m ≠ 0 := fun e => h0 (by unfold oneD; rw [(mkD_m_zero h).2 e])
  omega)
def fTimes : Spec := specK [.d, .d] fun (a : Dx) (b : Dx) => (some (a.Sm 68719476736 ∧ b.Sm 68719476736), dT (timesD a b))
theorem fTimes_vc (a b : Dx) (Q : Tv → Prop) : execF ⟨tys, sF2⟩ (fun _ => none) 0 Tryd.f38 [.agg (dyL false a), .agg (dyL false b)] Q = (eB (4611686018427387904 : Int) a ∧ eB (4611686018427387904 : Int) b ∧ true = true ∧ List.length (ws (val (oneD a).xs)) + List.length (ws (val (oneD b).xs)) ≤ (17592186044414 : Nat) ∧ inR ((oneD a).e + (oneD b).e) ∧ ((-4611686018427387904 : Int) ≤ (oneD a).e + (oneD b).e ∧ (oneD a).e + (oneD b).e ≤ (4611686018427387904 : Int)) ∧ true = true ∧ Q (Tv.sv (Sv.agg (dyL true (mkD (!(oneD a).neg == (oneD b).neg) (val (ws (val (oneD a).xs * val (oneD b).xs))) ((oneD a).e + (oneD b).e)))))) := by kernel_rfl
theorem times_one {a b : Dx} (ha : 0 ≤ a.m) (hb : 0 ≤ b.m) : mkD (!((oneD a).neg == (oneD b).neg)) ((oneD a).m * (oneD b).m) ((oneD a).e + (oneD b).e) = timesD a b := by
  unfold timesD
  by_cases h1 : a.m = 0
  · rw [h1, Int.zero_mul, mkD_zero, show (oneD a).m = 0 by unfold oneD; exact (mkD_m_zero ha).2 h1, Int.zero_mul, mkD_zero]
  · by_cases h2 : b.m = 0
    · rw [h2, Int.mul_zero, mkD_zero, show (oneD b).m = 0 by unfold oneD; exact (mkD_m_zero hb).2 h2, Int.mul_zero, mkD_zero]
    · obtain ⟨e1, g1⟩ := tz_div (m := a.m) (by omega)
      obtain ⟨e2, g2⟩ := tz_div (m := b.m) (by omega)
      have r1 : (oneD a).m = a.m / 2 ^ tz a.m := mkD_m ha
      have r2 : (oneD b).m = b.m / 2 ^ tz b.m := mkD_m hb
      have n1 : (oneD a).neg = a.neg := by unfold oneD mkD; rw [if_neg h1]
      have n2 : (oneD b).neg = b.neg := by unfold oneD mkD; rw [if_neg h2]
      have x1 : (oneD a).e = a.e + (tz a.m : Int) := by unfold oneD mkD; rw [if_neg h1]
      have x2 : (oneD b).e = b.e + (tz b.m : Int) := by unfold oneD mkD; rw [if_neg h2]
      rw [n1, n2, r1, r2, x1, x2]
      generalize a.m / 2 ^ tz a.m = A at *
      generalize b.m / 2 ^ tz b.m = B at *
      generalize tz a.m = i at *
      generalize tz b.m = j at *
      rw [e1, e2]
      have : (2 : Int) ^ i * A * (2 ^ j * B) = A * B * 2 ^ (i + j) := by rw [Int.pow_add]; simp only [Int.mul_assoc, Int.mul_comm, Int.mul_left_comm]
      rw [this, mkD_mul_pow (Int.mul_nonneg (by omega) (by omega))]
      congr 1
      omega
theorem fTimes_ok : SpecOk Tryd.prog 38 fTimes :=
  specK_ok (envOk tys_ok sF2_ok) mixed Tryd.func38 rfl (by decide) (by decide) fun (a : Dx) ha (b : Dx) hb hp => ⟨fun _ => none, 0, by
    obtain ⟨s1, s2⟩ : Dx.Sm 68719476736 a ∧ Dx.Sm 68719476736 b := hp
    have m1 := Dx.Wf.m0 ha
    have m2 := Dx.Wf.m0 hb
    obtain ⟨z1, z2, z3⟩ := one_sm m1 s1
    obtain ⟨z4, z5, z6⟩ := one_sm m2 s2
    have q1 := oneD_p (d := a)
    have q2 := oneD_p (d := b)
    have hM := Int.mul_nonneg q1 q2
    have l1 := ws_blen (k := 4294967296) q1 (by omega)
    have l2 := ws_blen (k := 4294967296) q2 (by omega)
    refine (fTimes_vc a b _).mpr ⟨s1.eB (by omega), s2.eB (by omega), rfl, ?_⟩
    unfold Dx.m at *
    rw [val_ws hM]
    refine ⟨by omega, ⟨by omega, by omega⟩, ⟨by omega, by omega⟩, rfl, ?_⟩
    show _ = dT (timesD a b)
    rw [← times_one m1 m2]; rfl⟩
def fPlus : Spec := specK [.d, .d] fun (a : Dx) (b : Dx) => (some (a.Sm 68719476736 ∧ b.Sm 68719476736), dT (plusD a b))
theorem fPlus_vc (a b : Dx) (Q : Tv → Prop) : execF ⟨tys, sF2⟩ (fun _ => none) 0 Tryd.f37 [.agg (dyL false a), .agg (dyL false b)] Q = (eB (4611686018427387904 : Int) a ∧ eB (4611686018427387904 : Int) b ∧ true = true ∧ br (eqI (↑(List.length (oneD a).xs) : Int) (0 : Int)) (Q (Tv.sv (Sv.agg (dyL true (oneD b))))) (br (eqI (↑(List.length (oneD b).xs) : Int) (0 : Int)) (Q (Tv.sv (Sv.agg (dyL true (oneD a))))) (inR ((oneD a).e - minI (oneD a).e (oneD b).e) ∧ ((0 : Int) ≤ (oneD a).e - minI (oneD a).e (oneD b).e ∧ (oneD a).e - minI (oneD a).e (oneD b).e ≤ (1099511627776 : Int) ∧ List.length (oneD a).xs ≤ (8796093022208 : Nat)) ∧ inR ((oneD b).e - minI (oneD a).e (oneD b).e) ∧ ((0 : Int) ≤ (oneD b).e - minI (oneD a).e (oneD b).e ∧ (oneD b).e - minI (oneD a).e (oneD b).e ≤ (1099511627776 : Int) ∧ List.length (oneD b).xs ≤ (8796093022208 : Nat)) ∧ br ((oneD a).neg == (oneD b).neg) ((List.length (ws (val (oneD a).xs * (2 : Int) ^ Int.toNat ((oneD a).e - minI (oneD a).e (oneD b).e))) ≤ (17592186044414 : Nat) ∧ List.length (ws (val (oneD b).xs * (2 : Int) ^ Int.toNat ((oneD b).e - minI (oneD a).e (oneD b).e))) ≤ (17592186044414 : Nat)) ∧ ((-4611686018427387904 : Int) ≤ minI (oneD a).e (oneD b).e ∧ minI (oneD a).e (oneD b).e ≤ (4611686018427387904 : Int)) ∧ true = true ∧ Q (Tv.sv (Sv.agg (dyL true (mkD (oneD a).neg (val (ws (val (ws (val (oneD a).xs * (2 : Int) ^ Int.toNat ((oneD a).e - minI (oneD a).e (oneD b).e))) + val (ws (val (oneD b).xs * (2 : Int) ^ Int.toNat ((oneD b).e - minI (oneD a).e (oneD b).e)))))) (minI (oneD a).e (oneD b).e)))))) (br (leI (0 : Int) (cmpI (val (ws (val (oneD a).xs * (2 : Int) ^ Int.toNat ((oneD a).e - minI (oneD a).e (oneD b).e)))) (val (ws (val (oneD b).xs * (2 : Int) ^ Int.toNat ((oneD b).e - minI (oneD a).e (oneD b).e)))))) ((val (ws (val (oneD b).xs * (2 : Int) ^ Int.toNat ((oneD b).e - minI (oneD a).e (oneD b).e))) ≤ val (ws (val (oneD a).xs * (2 : Int) ^ Int.toNat ((oneD a).e - minI (oneD a).e (oneD b).e))) ∧ List.length (ws (val (oneD a).xs * (2 : Int) ^ Int.toNat ((oneD a).e - minI (oneD a).e (oneD b).e))) ≤ (17592186044414 : Nat) ∧ List.length (ws (val (oneD b).xs * (2 : Int) ^ Int.toNat ((oneD b).e - minI (oneD a).e (oneD b).e))) ≤ (17592186044414 : Nat)) ∧ ((-4611686018427387904 : Int) ≤ minI (oneD a).e (oneD b).e ∧ minI (oneD a).e (oneD b).e ≤ (4611686018427387904 : Int)) ∧ true = true ∧ Q (Tv.sv (Sv.agg (dyL true (mkD (oneD a).neg (val (ws (val (ws (val (oneD a).xs * (2 : Int) ^ Int.toNat ((oneD a).e - minI (oneD a).e (oneD b).e))) - val (ws (val (oneD b).xs * (2 : Int) ^ Int.toNat ((oneD b).e - minI (oneD a).e (oneD b).e)))))) (minI (oneD a).e (oneD b).e)))))) ((val (ws (val (oneD a).xs * (2 : Int) ^ Int.toNat ((oneD a).e - minI (oneD a).e (oneD b).e))) ≤ val (ws (val (oneD b).xs * (2 : Int) ^ Int.toNat ((oneD b).e - minI (oneD a).e (oneD b).e))) ∧ List.length (ws (val (oneD b).xs * (2 : Int) ^ Int.toNat ((oneD b).e - minI (oneD a).e (oneD b).e))) ≤ (17592186044414 : Nat) ∧ List.length (ws (val (oneD a).xs * (2 : Int) ^ Int.toNat ((oneD a).e - minI (oneD a).e (oneD b).e))) ≤ (17592186044414 : Nat)) ∧ ((-4611686018427387904 : Int) ≤ minI (oneD a).e (oneD b).e ∧ minI (oneD a).e (oneD b).e ≤ (4611686018427387904 : Int)) ∧ true = true ∧ Q (Tv.sv (Sv.agg (dyL true (mkD (oneD b).neg (val (ws (val (ws (val (oneD b).xs * (2 : Int) ^ Int.toNat ((oneD b).e - minI (oneD a).e (oneD b).e))) - val (ws (val (oneD a).xs * (2 : Int) ^ Int.toNat ((oneD a).e - minI (oneD a).e (oneD b).e)))))) (minI (oneD a).e (oneD b).e)))))))))) := by kernel_rfl
theorem fPlus_ok : SpecOk Tryd.prog 37 fPlus :=
  specK_ok (envOk tys_ok sF2_ok) mixed Tryd.func37 rfl (by decide) (by decide) fun (a : Dx) ha (b : Dx) hb hp => ⟨fun _ => none, 0, by
    obtain ⟨s1, s2⟩ : Dx.Sm 68719476736 a ∧ Dx.Sm 68719476736 b := hp
    have m1 := Dx.Wf.m0 ha
    have m2 := Dx.Wf.m0 hb
    have q1 := oneD_p (d := a)
    have q2 := oneD_p (d := b)
    have z1 := one_sm m1 s1
    have z2 := one_sm m2 s2
    show execF _ _ _ _ _ (fun t => t = dT (plusX (oneD a) (oneD b)))
    refine (fPlus_vc a b _).mpr ⟨s1.eB (by omega), s2.eB (by omega), rfl, ?_⟩
    rw [one_len m1, one_len m2]
    refine br_intro (fun h => ?_) (fun h => br_intro (fun h' => ?_) fun h' => ?_)
    · rw [plusX, if_pos (of_decide_eq_true h)]
    · rw [plusX, if_neg (of_decide_eq_false h), if_pos (of_decide_eq_true h')]
    · have h := of_decide_eq_false h
      have h' := of_decide_eq_false h'
      obtain ⟨X, Y, mn, hX, hY, hmn, pX, pY, lX, lY, mn0, mn1, hsame, hge, hlt⟩ := plus_parts q1 q2 h h' z1 z2
      have w1 : (oneD a).xs.length ≤ 8796093022208 := by rw [one_ws m1]; exact ws_blen q1 (by have := z1.1; omega)
      have w2 : (oneD b).xs.length ≤ 8796093022208 := by rw [one_ws m2]; exact ws_blen q2 (by have := z2.1; omega)
      have b1 := z1.2
      have b2 := z2.2
      unfold Dx.m at hX hY
      rw [minI_eq, hX, hY, hmn, val_ws (n := X) (by omega), val_ws (n := Y) (by omega)]
      refine ⟨⟨by omega, by omega⟩, ⟨by omega, by omega, w1⟩, ⟨by omega, by omega⟩, ⟨by omega, by omega, w2⟩, br_intro (fun e => ?_) fun e => br_intro (fun e' => ?_) fun e' => ?_⟩
      · rw [val_ws (by omega)]
        refine ⟨⟨lX, lY⟩, ⟨mn0, mn1⟩, rfl, ?_⟩
        rw [hsame (by simpa using e)]
      · rw [cmpI_ge] at e'
        rw [val_ws (n := X - Y) (by omega)]
        refine ⟨⟨e', lX, lY⟩, ⟨mn0, mn1⟩, rfl, ?_⟩
        rw [hge (by simpa using e) e']
      · have e' : ¬ Y ≤ X := fun h => by rw [cmpI_ge.2 h] at e'; simp at e'
        rw [val_ws (n := Y - X) (by omega)]
        refine ⟨⟨by omega, lY, lX⟩, ⟨mn0, mn1⟩, rfl, ?_⟩
        rw [hlt (by simpa using e) (by omega)]⟩
def fTrim : Spec := specK [.d, .i .i64, .b] fun (d : Dx) (p : Int) (up : Bool) => (some (d.Sm 34359738368 ∧ 0 ≤ p ∧ p ≤ 1099511627776), dT (cutD d p up))
theorem fTrim_vc (d : Dx) (p : Int) (up : Bool) (Q : Tv → Prop) : execF ⟨tys, sF2⟩ (fun _ => none) 0 Tryd.f106 [.agg (dyL false d), .one (.int .i64 p), .one (.bool up)] Q = (eB (4611686018427387904 : Int) d ∧ br (leI (↑(blen (val (oneD d).xs)) : Int) p) (Q (Tv.sv (Sv.agg (dyL true (oneD d))))) (inR ((↑(blen (val (oneD d).xs)) : Int) - p) ∧ ((0 : Int) ≤ (↑(blen (val (oneD d).xs)) : Int) - p ∧ (↑(blen (val (oneD d).xs)) : Int) - p ≤ (9007199254740992 : Int)) ∧ br (lostB (val (oneD d).xs) (Int.toNat ((↑(blen (val (oneD d).xs)) : Int) - p))) (br (!up == (oneD d).neg) (Word (1 : Int) ∧ (List.length (ws (val (oneD d).xs / (2 : Int) ^ Int.toNat ((↑(blen (val (oneD d).xs)) : Int) - p))) ≤ (17592186044414 : Nat) ∧ List.length (ws (1 : Int)) ≤ (17592186044414 : Nat)) ∧ inR ((oneD d).e + (↑(blen (val (oneD d).xs)) : Int)) ∧ inR ((oneD d).e + (↑(blen (val (oneD d).xs)) : Int) - p) ∧ ((-4611686018427387904 : Int) ≤ (oneD d).e + (↑(blen (val (oneD d).xs)) : Int) - p ∧ (oneD d).e + (↑(blen (val (oneD d).xs)) : Int) - p ≤ (4611686018427387904 : Int)) ∧ Q (Tv.sv (Sv.agg (dyL true (mkD (oneD d).neg (val (ws (val (ws (val (oneD d).xs / (2 : Int) ^ Int.toNat ((↑(blen (val (oneD d).xs)) : Int) - p))) + val (ws (1 : Int))))) ((oneD d).e + (↑(blen (val (oneD d).xs)) : Int) - p)))))) (inR ((oneD d).e + (↑(blen (val (oneD d).xs)) : Int)) ∧ inR ((oneD d).e + (↑(blen (val (oneD d).xs)) : Int) - p) ∧ ((-4611686018427387904 : Int) ≤ (oneD d).e + (↑(blen (val (oneD d).xs)) : Int) - p ∧ (oneD d).e + (↑(blen (val (oneD d).xs)) : Int) - p ≤ (4611686018427387904 : Int)) ∧ Q (Tv.sv (Sv.agg (dyL true (mkD (oneD d).neg (val (ws (val (oneD d).xs / (2 : Int) ^ Int.toNat ((↑(blen (val (oneD d).xs)) : Int) - p)))) ((oneD d).e + (↑(blen (val (oneD d).xs)) : Int) - p))))))) (inR ((oneD d).e + (↑(blen (val (oneD d).xs)) : Int)) ∧ inR ((oneD d).e + (↑(blen (val (oneD d).xs)) : Int) - p) ∧ ((-4611686018427387904 : Int) ≤ (oneD d).e + (↑(blen (val (oneD d).xs)) : Int) - p ∧ (oneD d).e + (↑(blen (val (oneD d).xs)) : Int) - p ≤ (4611686018427387904 : Int)) ∧ Q (Tv.sv (Sv.agg (dyL true (mkD (oneD d).neg (val (ws (val (oneD d).xs / (2 : Int) ^ Int.toNat ((↑(blen (val (oneD d).xs)) : Int) - p)))) ((oneD d).e + (↑(blen (val (oneD d).xs)) : Int) - p)))))))) := by kernel_rfl
theorem fTrim_ok : SpecOk Tryd.prog 106 fTrim :=
  specK_ok (envOk tys_ok sF2_ok) mixed Tryd.func106 rfl (by decide) (by decide) fun (d : Dx) hd (p : Int) _ (up : Bool) _ hp => ⟨fun _ => none, 0, by
    obtain ⟨s1, p0, p1⟩ : Dx.Sm 34359738368 d ∧ 0 ≤ p ∧ p ≤ 1099511627776 := hp
    have m0 := Dx.Wf.m0 hd
    have m1 := oneD_p (d := d)
    have hodd := one_odd m0
    obtain ⟨z1, z2, z3⟩ := one_sm m0 s1
    show execF _ _ _ _ _ (fun t => t = dT (cutX (oneD d) p up))
    refine (fTrim_vc d p up _).mpr ⟨s1.eB (by omega), ?_⟩
    generalize oneD d = x at *
    unfold cutX
    unfold Dx.m at m1 z1 hodd ⊢
    refine br_intro (fun h => ?_) fun h => ?_
    · rw [if_pos (by have := leI_true.1 h; omega)]
    · have h := leI_false.1 h
      rw [if_neg (by omega)]
      obtain ⟨n, hn⟩ : ∃ n : Int, (blen (val x.xs) : Int) - p = n := ⟨_, rfl⟩
      rw [hn]
      have hmp : 0 < val x.xs := by
        by_cases hz : val x.xs = 0
        · rw [hz] at h; have e0 : blen 0 = 0 := by simp [blen]
          rw [e0] at h; omega
        · omega
      have hq : 0 ≤ val x.xs / 2 ^ n.toNat := Int.ediv_nonneg m1 (by have := two_pow_pos n.toNat; omega)
      have hql : (ws (val x.xs / 2 ^ n.toNat)).length ≤ 1073741825 := ws_blen hq (by
        have := blen_mono (m := val x.xs / 2 ^ n.toNat) (n := val x.xs) (Int.ediv_le_self _ m1); omega)
      have hl : lostB (val x.xs) n.toNat = true := by rw [lostB_tz hmp, tz_odd2 (hodd (by omega)) m1]; simp; omega
      have hb : blen (val x.xs) ≤ 68719476736 := by omega
      refine ⟨⟨by omega, by omega⟩, ⟨by omega, by omega⟩, br_intro (fun _ => br_intro (fun h' => ?_) fun h' => ?_) fun hf => by rw [hl] at hf; simp at hf⟩
      · rw [val_ws hq, val_ws_one, val_ws (by omega)]
        refine ⟨word_one, ⟨by omega, by simp [ws_one]⟩, ⟨by omega, by omega⟩, ⟨by omega, by omega⟩, ⟨by omega, by omega⟩, ?_⟩
        rw [if_neg (by cases up <;> cases hh : x.neg <;> simp_all), show x.e + (blen (val x.xs) : Int) - p = x.e + n by omega]
      · rw [val_ws hq]
        refine ⟨⟨by omega, by omega⟩, ⟨by omega, by omega⟩, ⟨by omega, by omega⟩, ?_⟩
        rw [if_pos (by cases up <;> cases hh : x.neg <;> simp_all), Int.add_zero, show x.e + (blen (val x.xs) : Int) - p = x.e + n by omega]⟩
def sF3 : List (FuncId × Spec) := [(38, fTimes), (37, fPlus), (106, fTrim)] ++ sF2
theorem sF3_ok : SpecsOk Tryd.prog sF3 := ⟨fTimes_ok, fPlus_ok, fTrim_ok, sF2_ok⟩
def fLess : Spec := specK [.d, .d] fun (a : Dx) (b : Dx) => (some (a.Sm 34359738368 ∧ b.Sm 34359738368), dT (lessD a b))
theorem fLess_vc (a b : Dx) (Q : Tv → Prop) : execF ⟨tys, sF3⟩ (fun _ => none) 0 Tryd.f47 [.agg (dyL false a), .agg (dyL false b)] Q = (eB (4611686018427387904 : Int) b ∧ (Dx.Sm (68719476736 : Nat) a ∧ Dx.Sm (68719476736 : Nat) (negD b)) ∧ true = true ∧ Q (Tv.sv (Sv.agg (dyL true (plusD a (negD b)))))) := by kernel_rfl
theorem fLess_ok : SpecOk Tryd.prog 47 fLess :=
  specK_ok (envOk tys_ok sF3_ok) mixed Tryd.func47 rfl (by decide) (by decide) fun (a : Dx) ha (b : Dx) hb hp => ⟨fun _ => none, 0, by
    obtain ⟨s1, s2⟩ : Dx.Sm 34359738368 a ∧ Dx.Sm 34359738368 b := hp
    exact (fLess_vc a b _).mpr ⟨s2.eB (by omega), ⟨s1.mono (by omega), (negD_sm s2 (Dx.Wf.m0 hb)).mono (by omega)⟩, rfl, rfl⟩⟩
def sF4 : List (FuncId × Spec) := [(47, fLess)] ++ sF3
theorem sF4_ok : SpecsOk Tryd.prog sF4 := ⟨fLess_ok, sF3_ok⟩
def fOrder : Spec := specK [.d, .d] fun (a : Dx) (b : Dx) => (some (a.Sm 34359738368 ∧ b.Sm 34359738368), iT (cmpD a b))
theorem fOrder_vc (a b : Dx) (Q : Tv → Prop) : execF ⟨tys, sF4⟩ (fun _ => none) 0 Tryd.f49 [.agg (dyL false a), .agg (dyL false b)] Q = (true = true ∧ br (ltI (Dx.sgn a) (Dx.sgn b)) (Q (Tv.sv (Sv.one (At.int IntKind.i64 (-1 : Int))))) (br (ltI (Dx.sgn b) (Dx.sgn a)) (Q (Tv.sv (Sv.one (At.int IntKind.i64 (1 : Int))))) (br (eqI (Dx.sgn a) (0 : Int)) (Q (Tv.sv (Sv.one (At.int IntKind.i64 (0 : Int))))) (eB (2305843009213693952 : Int) a ∧ eB (2305843009213693952 : Int) b ∧ true = true ∧ br (neI (a.e + (↑(blen (Dx.m a)) : Int) - (1 : Int)) (b.e + (↑(blen (Dx.m b)) : Int) - (1 : Int))) (br (ltI (b.e + (↑(blen (Dx.m b)) : Int) - (1 : Int)) (a.e + (↑(blen (Dx.m a)) : Int) - (1 : Int))) (Q (Tv.sv (Sv.one (At.int IntKind.i64 (Dx.sgn a))))) (inR ((0 : Int) - Dx.sgn a) ∧ Q (Tv.sv (Sv.one (At.int IntKind.i64 ((0 : Int) - Dx.sgn a)))))) ((Dx.Sm (34359738368 : Nat) a ∧ Dx.Sm (34359738368 : Nat) b) ∧ Q (Tv.sv (Sv.one (At.int IntKind.i64 (Dx.sgn (lessD a b)))))))))) := by kernel_rfl
theorem fOrder_ok : SpecOk Tryd.prog 49 fOrder :=
  specK_ok (envOk tys_ok sF4_ok) mixed Tryd.func49 rfl (by decide) (by decide) fun (a : Dx) ha (b : Dx) hb hp => ⟨fun _ => none, 0, by
    obtain ⟨s1, s2⟩ : Dx.Sm 34359738368 a ∧ Dx.Sm 34359738368 b := hp
    have m1 := Dx.Wf.m0 ha
    have m2 := Dx.Wf.m0 hb
    have c1 := sgn_cases (d := a)
    show execF _ _ _ _ _ (fun t => t = iT (cmpD a b))
    refine (fOrder_vc a b _).mpr ⟨rfl, br_intro (fun h => ?_) fun h => br_intro (fun h' => ?_) fun h' => br_intro (fun h0 => ?_) fun h0 => ?_⟩
    · rw [cmpD_lt m1 m2 (ltI_true.1 h)]
    · rw [cmpD_gt m1 m2 (ltI_true.1 h')]
    · rw [ltI_false] at h h'; rw [eqI_true] at h0
      rw [cmpD_zero m1 m2 h0 (by omega)]
    · rw [ltI_false] at h h'; rw [eqI_false] at h0
      have hs : a.sgn = b.sgn := by omega
      obtain ⟨t1, t2⟩ := cmpD_top m1 m2 hs h0
      refine ⟨s1.eB (by omega), s2.eB (by omega), rfl, br_intro (fun e => br_intro (fun e' => ?_) fun e' => ?_) fun e => ?_⟩
      · rw [t2 (ltI_true.1 e')]
      · rw [ltI_false] at e'; rw [neI_true] at e
        refine ⟨⟨by omega, by omega⟩, ?_⟩
        rw [t1 (by omega), Int.zero_sub]
      · exact ⟨⟨s1, s2⟩, by rw [sgn_less m1 m2]⟩⟩
def roomD (d : Dx) : Dx × Int := if d.fitsB = true then (d, 0) else (⟨false, [], 0⟩, 3)
def rdT (r : Dx × Int) : Tv := .tup [.agg (dyL false r.1), .one (.int .i64 r.2)]
def fRoom : Spec := specK [.d] fun (d : Dx) => (none, rdT (roomD d))
theorem fRoom_vc (d : Dx) (Q : Tv → Prop) : execF ⟨tys, sF4⟩ (fun _ => none) 0 Tryd.f71 [.agg (dyL false d)] Q = (br (!Dx.fitsB d) (Q (Tv.tup [Sv.agg [At.bool false, At.words true [], At.int IntKind.i64 (0 : Int)], Sv.one (At.int IntKind.i64 (3 : Int))])) (Q (Tv.tup [Sv.agg (dyL false d), Sv.one (At.int IntKind.i64 (0 : Int))]))) := by kernel_rfl
theorem neg_t {b : Bool} (h : (!b) = true) : b = false := by cases b <;> simp_all
theorem neg_f {b : Bool} (h : (!b) = false) : b = true := by cases b <;> simp_all
theorem fRoom_ok : SpecOk Tryd.prog 71 fRoom :=
  specKW_ok (envOk tys_ok sF4_ok) mixed Tryd.func71 rfl (by decide) (by decide) fun (d : Dx) _ _ => ⟨fun _ => none, 0, by
    show execF _ _ _ _ _ (fun t => t = rdT (roomD d) ∨ fgT t = rdT (roomD d))
    refine (fRoom_vc d _).mpr (br_intro (fun h => Or.inr ?_) fun h => Or.inl ?_)
    · rw [roomD, neg_t h]; rfl
    · rw [roomD, neg_f h]; rfl⟩
def sF5 : List (FuncId × Spec) := [(49, fOrder), (71, fRoom)] ++ sF4
theorem sF5_ok : SpecsOk Tryd.prog sF5 := ⟨fOrder_ok, fRoom_ok, sF4_ok⟩
def canonD (d : Dx) : Dx × Int := if d.fitsB = true then roomD (oneD d) else (⟨false, [], 0⟩, 2)
def fCanon : Spec := specK [.d] fun (d : Dx) => (none, rdT (canonD d))
theorem fCanon_vc (d : Dx) (Q : Tv → Prop) : execF ⟨tys, sF5⟩ (fun _ => none) 0 Tryd.f21 [.agg (dyL false d)] Q = (br (!Dx.fitsB d) (Q (Tv.tup [Sv.agg [At.bool false, At.words true [], At.int IntKind.i64 (0 : Int)], Sv.one (At.int IntKind.i64 (2 : Int))])) (eB (4611686018427387904 : Int) d ∧ Q (Tv.tup [Sv.agg (dyL false (roomD (oneD d)).fst), Sv.one (At.int IntKind.i64 (roomD (oneD d)).snd)]))) := by kernel_rfl
theorem fCanon_ok : SpecOk Tryd.prog 21 fCanon :=
  specKW_ok (envOk tys_ok sF5_ok) mixed Tryd.func21 rfl (by decide) (by decide) fun (d : Dx) _ _ => ⟨fun _ => none, 0, by
    show execF _ _ _ _ _ (fun t => t = rdT (canonD d) ∨ fgT t = rdT (canonD d))
    refine (fCanon_vc d _).mpr (br_intro (fun h => Or.inr ?_) fun h => ⟨(fits_sm (neg_f h)).eB (by omega), Or.inl ?_⟩)
    · rw [canonD, neg_t h]; rfl
    · rw [canonD, if_pos (neg_f h)]; rfl⟩
def sRef4 : List (FuncId × Spec) := [(21, fCanon)] ++ sF5
theorem sRef4_ok : SpecsOk Tryd.prog sRef4 := ⟨fCanon_ok, sF5_ok⟩
end Go.Proofs.YtmfmneanmamjbaaDoor

namespace Go.Proofs.YtmfmneanmamjbaaDoor
open Go.RowKit
theorem p2_le {a b : Int} (h : a ≤ b) : p2 a ≤ p2 b := by
  have e : p2 b = p2 a * p2 (b - a) := by rw [← p2_add]; congr 1; omega
  have h1 : (1 : Rat) ≤ p2 (b - a) := by
    rw [p2_toNat (by omega)]
    have := two_pow_pos (b - a).toNat
    exact (Rat.intCast_le_intCast (a := 1)).2 (by omega)
  have := Rat.mul_le_mul_of_nonneg_left h1 (Rat.le_of_lt (p2_pos a))
  rw [e]; grind
theorem p2_one : p2 1 = 2 := by decide
theorem p2_lt {a b : Int} (h : a < b) : p2 a < p2 b := by
  have h1 := p2_le (a := a + 1) (b := b) (by omega)
  rw [p2_add, p2_one] at h1
  have := p2_pos a
  grind
theorem p2_lt_iff {a b : Int} : p2 a < p2 b ↔ a < b := by
  refine ⟨fun h => ?_, p2_lt⟩
  by_cases k : a < b
  · exact k
  · have := p2_le (a := b) (b := a) (by omega); grind
/-- The amount lies between its top and the next. -/
theorem amt_ge {m e : Int} (h : 0 < m) : p2 (e + (blen m : Int) - 1) ≤ (m : Rat) * p2 e := by
  have h1 := blen_ge h
  have h2 := blen_pos h
  have e1 : e + (blen m : Int) - 1 = ((blen m - 1 : Nat) : Int) + e := by omega
  rw [e1, p2_add, p2_nat]
  exact Rat.mul_le_mul_of_nonneg_right (Rat.intCast_le_intCast.2 h1) (Rat.le_of_lt (p2_pos e))
theorem amt_lt {m e : Int} : (m : Rat) * p2 e < p2 (e + (blen m : Int)) := by
  have h1 := blen_lt m
  rw [Int.add_comm, p2_add, p2_nat]
  exact (Rat.mul_lt_mul_right (p2_pos e)).2 (Rat.intCast_lt_intCast.2 h1)
theorem rv_amt {d : Dx} (h : 0 ≤ d.m) : (0 ≤ d.rv → d.rv = (d.m : Rat) * p2 d.e) ∧ (d.rv ≤ 0 → -d.rv = (d.m : Rat) * p2 d.e) := by
  have p := p2_pos d.e
  have q : 0 ≤ (d.m : Rat) * p2 d.e := Rat.mul_nonneg (Rat.intCast_nonneg.2 h) (Rat.le_of_lt p)
  unfold Dx.rv Dx.sm
  cases d.neg with
  | false => simp only [Bool.false_eq_true, if_false]; grind
  | true => simp only [if_true, Rat.intCast_neg]; grind
/-- Multiples of a power of 2. -/
def Mul2 (K : Int) (x : Rat) : Prop := ∃ s : Int, x = (s : Rat) * p2 K
theorem rv_mul2 {d : Dx} {K : Int} (h : K ≤ d.e) : Mul2 K d.rv := ⟨_, rv_scl h⟩
theorem Mul2.sub {K : Int} {x y : Rat} : Mul2 K x → Mul2 K y → Mul2 K (x - y)
  | ⟨s, hs⟩, ⟨t, ht⟩ => ⟨s - t, by rw [hs, ht, Rat.intCast_sub]; grind⟩
theorem Mul2.pos {K : Int} {x : Rat} (h : Mul2 K x) (hx : 0 < x) : p2 K ≤ x := by
  obtain ⟨s, rfl⟩ := h
  have p := p2_pos K
  have hs : 0 < s := by
    by_cases hs : 0 < s
    · exact hs
    · have : (s : Rat) ≤ 0 := Rat.intCast_nonpos.2 (by omega)
      have := Rat.mul_le_mul_of_nonneg_right this (Rat.le_of_lt p)
      grind
  have : ((1 : Int) : Rat) ≤ (s : Rat) := Rat.intCast_le_intCast.2 (by omega)
  have := Rat.mul_le_mul_of_nonneg_right this (Rat.le_of_lt p)
  have e1 : ((1 : Int) : Rat) = 1 := rfl
  rw [e1] at this
  grind
theorem fits_e {d : Dx} (h : d.fitsB = true) : -32768 ≤ d.e ∧ d.e ≤ 32768 := by
  unfold Dx.fitsB at h; simp at h; omega
theorem fits_lt {d : Dx} (h : d.fitsB = true) : (d.m : Rat) * p2 d.e < p2 98304 := by
  have h1 := fits_e h
  have h2 := (fits_sm h).1
  have := amt_lt (m := d.m) (e := d.e)
  have := p2_le (a := d.e + (blen d.m : Int)) (b := 98304) (by omega)
  grind
theorem sgn_zero2 {d : Dx} : d.sgn = 0 ↔ d.m = 0 := by
  unfold Dx.sgn; split
  · simp_all
  · split <;> simp_all
theorem zeroB_rv {d : Dx} (h : 0 ≤ d.m) : d.zeroB = true ↔ d.rv = 0 := by
  rw [zeroB_true, ← sgn_zero2]
  rcases sgn_rv h with ⟨a, b⟩ | ⟨a, b⟩ | ⟨a, b⟩ <;> rw [a] <;> simp <;> grind
theorem cmp_shift {w l : Dx} {p : Int} (hw : 0 ≤ w.m) : cmpD (shiftD w p) l ≤ 0 ↔ w.rv * p2 p ≤ l.rv := by
  rw [cmpD_le, rv_shift hw]
theorem narrow_p {w l : Rat} {p : Int} (hw : p2 (-32768) ≤ w) (hl : l < p2 98304) (h : w * p2 p ≤ l) : p < 131072 := by
  have h1 := Rat.mul_le_mul_of_nonneg_right hw (Rat.le_of_lt (p2_pos p))
  rw [← p2_add] at h1
  have := (p2_lt_iff (a := -32768 + p) (b := 98304)).1 (by grind)
  omega
theorem narrowX_eq {w l : Dx} {p : Int} (w0 : 0 ≤ w.m) (l0 : 0 ≤ l.m) (hw : p2 (-32768) ≤ w.rv) (hl : l.rv < p2 98304) : narrowX w l p = decide (w.rv * p2 p ≤ l.rv) := by
  unfold narrowX
  by_cases h : w.rv * p2 p ≤ l.rv
  · have hp := narrow_p hw hl h
    rw [decide_eq_true (cmp_shift w0 |>.2 h), decide_eq_true h, decide_eq_true (show p ≤ 1048576 by omega)]
    have wp : 0 < w.rv := by have := p2_pos (-32768); grind
    have lp : 0 < l.rv := by have := Rat.mul_pos wp (p2_pos p); grind
    have wm : 0 < w.m := by
      by_cases hz : w.m = 0
      · rw [rv_zero hz] at wp; grind
      · omega
    have a1 := amt_ge (e := w.e) wm
    have a2 := amt_lt (m := l.m) (e := l.e)
    rw [← (rv_amt w0).1 (by grind)] at a1
    rw [← (rv_amt l0).1 (by grind)] at a2
    have a3 := Rat.mul_le_mul_of_nonneg_right a1 (Rat.le_of_lt (p2_pos p))
    rw [← p2_add] at a3
    have := (p2_lt_iff (a := w.e + (blen w.m : Int) - 1 + p) (b := l.e + (blen l.m : Int))).1 (by grind)
    rw [decide_eq_true (show w.e + (blen w.m : Int) - 1 + p ≤ l.e + (blen l.m : Int) - 1 + 1 by omega)]
    rfl
  · rw [decide_eq_false h, decide_eq_false (fun k => h ((cmp_shift w0).1 k)), Bool.and_false, Bool.and_false]
theorem cmpD_congr {a b a' b' : Dx} (ha : a.rv = a'.rv) (hb : b.rv = b'.rv) : cmpD a b = cmpD a' b' := by
  rcases cmpD_cases a b with ⟨h, k⟩ | ⟨h, k⟩ | ⟨h, k⟩ <;> rcases cmpD_cases a' b' with ⟨h', k'⟩ | ⟨h', k'⟩ | ⟨h', k'⟩ <;> rw [h, h'] <;> grind
theorem cmpD_ones {a b : Dx} (ha : 0 ≤ a.m) (hb : 0 ≤ b.m) : cmpD (oneD a) (oneD b) = cmpD a b := cmpD_congr (rv_one ha) (rv_one hb)
end Go.Proofs.YtmfmneanmamjbaaDoor

namespace Go.Proofs.YtmfmneanmamjbaaDoor
open Go.RowKit
def gRight : Spec := specK [.v] fun (v : Vx) => (none, bT (rightV v))
theorem gRight_vc (v : Vx) (Q : Tv → Prop) : execF ⟨tys2, sRef4⟩ (fun _ => none) 0 Tryd.f22 [.agg (ivL false v)] Q = (br (Dx.fitsB v.lo) (br (Dx.fitsB v.hi) ((Dx.Sm (34359738368 : Nat) v.lo ∧ Dx.Sm (34359738368 : Nat) v.hi) ∧ Q (Tv.sv (Sv.one (At.bool (leI (cmpD v.lo v.hi) (0 : Int)))))) (Q (Tv.sv (Sv.one (At.bool false))))) (Q (Tv.sv (Sv.one (At.bool false))))) := by kernel_rfl
theorem gRight_ok : SpecOk Tryd.prog 22 gRight :=
  specK_ok (envOk tys2_ok sRef4_ok) mixed Tryd.func22 rfl (by decide) (by decide) fun (v : Vx) _ _ => ⟨fun _ => none, 0, by
    refine (gRight_vc v _).mpr (br_intro (fun h1 => br_intro (fun h2 => ⟨⟨(fits_sm h1).mono (by omega), (fits_sm h2).mono (by omega)⟩, ?_⟩) fun h2 => ?_) fun h1 => ?_)
    · show _ = bT (rightV v); rw [rightV, h1, h2]; rfl
    · show _ = bT (rightV v); rw [rightV, h1, h2]; rfl
    · show _ = bT (rightV v); rw [rightV, h1]; rfl⟩
def gOne : Spec := specK [.v] fun (v : Vx) => (some (v.Sm 65536), vT (canonV v))
theorem gOne_vc (v : Vx) (Q : Tv → Prop) : execF ⟨tys2, sRef4⟩ (fun _ => none) 0 Tryd.f67 [.agg (ivL false v)] Q = (eB (4611686018427387904 : Int) v.lo ∧ eB (4611686018427387904 : Int) v.hi ∧ true = true ∧ Q (Tv.sv (Sv.agg (ivL true (Vx.mk (oneD v.lo) (oneD v.hi)))))) := by kernel_rfl
theorem gOne_ok : SpecOk Tryd.prog 67 gOne :=
  specK_ok (envOk tys2_ok sRef4_ok) mixed Tryd.func67 rfl (by decide) (by decide) fun (v : Vx) _ hp => ⟨fun _ => none, 0, (gOne_vc v _).mpr ⟨hp.1.eB (by omega), hp.2.eB (by omega), rfl, rfl⟩⟩
def gRoom : Spec := specK [.v] fun (v : Vx) => (none, reT (roomR v))
theorem gRoom_vc (v : Vx) (Q : Tv → Prop) : execF ⟨tys2, sRef4⟩ (fun _ => none) 0 Tryd.f61 [.agg (ivL false v)] Q = (br (!Dx.fitsB v.lo) (Q (Tv.tup [Sv.agg [At.bool false, At.words true [], At.int IntKind.i64 (0 : Int), At.bool false, At.words true [], At.int IntKind.i64 (0 : Int)], Sv.one (At.int IntKind.i64 (3 : Int))])) (br (!Dx.fitsB v.hi) (Q (Tv.tup [Sv.agg [At.bool false, At.words true [], At.int IntKind.i64 (0 : Int), At.bool false, At.words true [], At.int IntKind.i64 (0 : Int)], Sv.one (At.int IntKind.i64 (3 : Int))])) (Q (Tv.tup [Sv.agg (ivL false v), Sv.one (At.int IntKind.i64 (0 : Int))])))) := by kernel_rfl
theorem gRoom_ok : SpecOk Tryd.prog 61 gRoom :=
  specKW_ok (envOk tys2_ok sRef4_ok) mixed Tryd.func61 rfl (by decide) (by decide) fun (v : Vx) _ _ => ⟨fun _ => none, 0, by
    show execF _ _ _ _ _ (fun t => t = reT (roomR v) ∨ fgT t = reT (roomR v))
    refine (gRoom_vc v _).mpr (br_intro (fun h => ?_) fun h => br_intro (fun h1 => ?_) fun h1 => ?_)
    · right; rw [roomR, not_true h]; rfl
    · right; rw [roomR, not_true h1, Bool.and_false]; rfl
    · left; rw [roomR, not_false' h, not_false' h1]; rfl⟩
def gPoint : Spec := specK [.d] fun (d : Dx) => (some (eB 4611686018427387904 d), vT (pointV d))
theorem gPoint_vc (d : Dx) (Q : Tv → Prop) : execF ⟨tys2, sRef4⟩ (fun _ => none) 0 Tryd.f41 [.agg (dyL false d)] Q = (eB (4611686018427387904 : Int) d ∧ Q (Tv.sv (Sv.agg (ivL true (Vx.mk (oneD d) (oneD d)))))) := by kernel_rfl
theorem gPoint_ok : SpecOk Tryd.prog 41 gPoint :=
  specK_ok (envOk tys2_ok sRef4_ok) mixed Tryd.func41 rfl (by decide) (by decide) fun (d : Dx) _ hp => ⟨fun _ => none, 0, (gPoint_vc d _).mpr ⟨hp, rfl⟩⟩
def gTrim : Spec := specK [.v, .i .i64] fun (v : Vx) (p : Int) => (some (v.Sm 34359738368 ∧ 0 ≤ p ∧ p ≤ 1099511627776), vT (trimV v p))
theorem gTrim_vc (v : Vx) (p : Int) (Q : Tv → Prop) : execF ⟨tys2, sRef4⟩ (fun _ => none) 0 Tryd.f65 [.agg (ivL false v), .one (.int .i64 p)] Q = ((Dx.Sm (34359738368 : Nat) v.lo ∧ (0 : Int) ≤ p ∧ p ≤ (1099511627776 : Int)) ∧ (Dx.Sm (34359738368 : Nat) v.hi ∧ (0 : Int) ≤ p ∧ p ≤ (1099511627776 : Int)) ∧ true = true ∧ Q (Tv.sv (Sv.agg (ivL true (Vx.mk (cutD v.lo p false) (cutD v.hi p true)))))) := by kernel_rfl
theorem gTrim_ok : SpecOk Tryd.prog 65 gTrim :=
  specK_ok (envOk tys2_ok sRef4_ok) mixed Tryd.func65 rfl (by decide) (by decide) fun (v : Vx) _ (p : Int) _ hp => ⟨fun _ => none, 0, (gTrim_vc v p _).mpr ⟨⟨hp.1.1, hp.2⟩, ⟨hp.1.2, hp.2⟩, rfl, rfl⟩⟩
def gNeg : Spec := specK [.v] fun (v : Vx) => (some (eB 4611686018427387904 v.lo ∧ eB 4611686018427387904 v.hi), vT (turnV v))
theorem gNeg_vc (v : Vx) (Q : Tv → Prop) : execF ⟨tys2, sRef4⟩ (fun _ => none) 0 Tryd.f62 [.agg (ivL false v)] Q = (eB (4611686018427387904 : Int) v.hi ∧ eB (4611686018427387904 : Int) v.lo ∧ true = true ∧ Q (Tv.sv (Sv.agg (ivL true (Vx.mk (negD v.hi) (negD v.lo)))))) := by kernel_rfl
theorem gNeg_ok : SpecOk Tryd.prog 62 gNeg :=
  specK_ok (envOk tys2_ok sRef4_ok) mixed Tryd.func62 rfl (by decide) (by decide) fun (v : Vx) _ hp => ⟨fun _ => none, 0, (gNeg_vc v _).mpr ⟨hp.2, hp.1, rfl, rfl⟩⟩
def gScale : Spec := specK [.v, .i .i64] fun (v : Vx) (n : Int) => (some (eB 2305843009213693952 v.lo ∧ eB 2305843009213693952 v.hi ∧ -2305843009213693952 ≤ n ∧ n ≤ 2305843009213693952), vT (scaleV v n))
theorem gScale_vc (v : Vx) (n : Int) (Q : Tv → Prop) : execF ⟨tys2, sRef4⟩ (fun _ => none) 0 Tryd.f63 [.agg (ivL false v), .one (.int .i64 n)] Q = ((eB (2305843009213693952 : Int) v.lo ∧ (-2305843009213693952 : Int) ≤ n ∧ n ≤ (2305843009213693952 : Int)) ∧ (eB (2305843009213693952 : Int) v.hi ∧ (-2305843009213693952 : Int) ≤ n ∧ n ≤ (2305843009213693952 : Int)) ∧ true = true ∧ Q (Tv.sv (Sv.agg (ivL true (Vx.mk (shiftD v.lo n) (shiftD v.hi n)))))) := by kernel_rfl
theorem gScale_ok : SpecOk Tryd.prog 63 gScale :=
  specK_ok (envOk tys2_ok sRef4_ok) mixed Tryd.func63 rfl (by decide) (by decide) fun (v : Vx) _ (n : Int) _ hp => ⟨fun _ => none, 0, by
    obtain ⟨h1, h2, h3⟩ : eB 2305843009213693952 v.lo ∧ eB 2305843009213693952 v.hi ∧ -2305843009213693952 ≤ n ∧ n ≤ 2305843009213693952 := hp
    exact (gScale_vc v n _).mpr ⟨⟨h1, h3⟩, ⟨h2, h3⟩, rfl, rfl⟩⟩
def sameV (v u : Vx) : Bool := sameD v.lo u.lo && sameD v.hi u.hi
def gSame : Spec := specK [.v, .v] fun (v : Vx) (u : Vx) => (none, bT (sameV v u))
theorem gSame_vc (v u : Vx) (Q : Tv → Prop) : execF ⟨tys2, sRef4⟩ (fun _ => none) 0 Tryd.f18 [.agg (ivL false v), .agg (ivL false u)] Q = (br (sameD v.lo u.lo) (Q (Tv.sv (Sv.one (At.bool (sameD v.hi u.hi))))) (Q (Tv.sv (Sv.one (At.bool false))))) := by kernel_rfl
theorem gSame_ok : SpecOk Tryd.prog 18 gSame :=
  specK_ok (envOk tys2_ok sRef4_ok) mixed Tryd.func18 rfl (by decide) (by decide) fun (v : Vx) _ (u : Vx) _ _ => ⟨fun _ => none, 0, by
    show execF _ _ _ _ _ (fun t => t = bT (sameV v u))
    refine (gSame_vc v u _).mpr (br_intro (fun h => ?_) fun h => ?_) <;> rw [sameV, h] <;> rfl⟩
def sG1 : List (FuncId × Spec) := [(22, gRight), (67, gOne), (61, gRoom), (41, gPoint), (65, gTrim), (62, gNeg), (63, gScale), (18, gSame)] ++ sRef4
theorem sG1_ok : SpecsOk Tryd.prog sG1 := ⟨gRight_ok, gOne_ok, gRoom_ok, gPoint_ok, gTrim_ok, gNeg_ok, gScale_ok, gSame_ok, sRef4_ok⟩
def gJoin : Spec := specK [.v, .v] fun (v : Vx) (u : Vx) => (some (v.Sm 65536 ∧ u.Sm 65536), vT (joinV v u))
theorem gJoin_vc (v u : Vx) (Q : Tv → Prop) : execF ⟨tys2, sG1⟩ (fun _ => none) 0 Tryd.f64 [.agg (ivL false v), .agg (ivL false u)] Q = (Vx.Sm (65536 : Nat) v ∧ Vx.Sm (65536 : Nat) u ∧ (Dx.Sm (34359738368 : Nat) (canonV u).lo ∧ Dx.Sm (34359738368 : Nat) (canonV v).lo) ∧ br (ltI (cmpD (canonV u).lo (canonV v).lo) (0 : Int)) ((Dx.Sm (34359738368 : Nat) (canonV u).hi ∧ Dx.Sm (34359738368 : Nat) (canonV v).hi) ∧ br (ltI (0 : Int) (cmpD (canonV u).hi (canonV v).hi)) (Q (Tv.sv (Sv.agg (ivL true (canonV u))))) (Q (Tv.sv (Sv.agg (ivL true (Vx.mk (canonV u).lo (canonV v).hi)))))) ((Dx.Sm (34359738368 : Nat) (canonV u).hi ∧ Dx.Sm (34359738368 : Nat) (canonV v).hi) ∧ br (ltI (0 : Int) (cmpD (canonV u).hi (canonV v).hi)) (Q (Tv.sv (Sv.agg (ivL true (Vx.mk (canonV v).lo (canonV u).hi))))) (Q (Tv.sv (Sv.agg (ivL true (canonV v))))))) := by kernel_rfl
theorem join_lo {a b : Dx} (ha : 0 ≤ a.m) (hb : 0 ≤ b.m) : oneD (spanL a [b]).lo = if cmpD (oneD b) (oneD a) < 0 then oneD b else oneD a := by
  show oneD (if cmpD b a < 0 then b else a) = _
  rw [cmpD_ones hb ha]; split <;> rfl
theorem join_hi {a b : Dx} (ha : 0 ≤ a.m) (hb : 0 ≤ b.m) : oneD (spanL a [b]).hi = if 0 < cmpD (oneD b) (oneD a) then oneD b else oneD a := by
  show oneD (if 0 < cmpD b a then b else a) = _
  rw [cmpD_ones hb ha]; split <;> rfl
theorem gJoin_ok : SpecOk Tryd.prog 64 gJoin :=
  specK_ok (envOk tys2_ok sG1_ok) mixed Tryd.func64 rfl (by decide) (by decide) fun (v : Vx) hv (u : Vx) hu hp => ⟨fun _ => none, 0, by
    obtain ⟨s1, s2⟩ : v.Sm 65536 ∧ u.Sm 65536 := hp
    have m1 := Vx.Wf.p hv
    have m2 := Vx.Wf.p hu
    have z1 := one_sm m1.1 s1.1
    have z2 := one_sm m1.2 s1.2
    have z3 := one_sm m2.1 s2.1
    have z4 := one_sm m2.2 s2.2
    show execF _ _ _ _ _ (fun t => t = vT (joinV v u))
    refine (gJoin_vc v u _).mpr ⟨s1, s2, ⟨z3.mono (by omega), z1.mono (by omega)⟩, br_intro (fun h => ⟨⟨z4.mono (by omega), z2.mono (by omega)⟩, br_intro (fun h' => ?_) fun h' => ?_⟩) fun h => ⟨⟨z4.mono (by omega), z2.mono (by omega)⟩, br_intro (fun h' => ?_) fun h' => ?_⟩⟩
    · rw [joinV, join_lo m1.1 m2.1, join_hi m1.2 m2.2, if_pos (show cmpD (oneD u.lo) (oneD v.lo) < 0 from ltI_true.1 h), if_pos (show 0 < cmpD (oneD u.hi) (oneD v.hi) from ltI_true.1 h')]; rfl
    · rw [joinV, join_lo m1.1 m2.1, join_hi m1.2 m2.2, if_pos (show cmpD (oneD u.lo) (oneD v.lo) < 0 from ltI_true.1 h), if_neg (show ¬ 0 < cmpD (oneD u.hi) (oneD v.hi) from ltI_false.1 h')]; rfl
    · rw [joinV, join_lo m1.1 m2.1, join_hi m1.2 m2.2, if_neg (show ¬ cmpD (oneD u.lo) (oneD v.lo) < 0 from ltI_false.1 h), if_pos (show 0 < cmpD (oneD u.hi) (oneD v.hi) from ltI_true.1 h')]; rfl
    · rw [joinV, join_lo m1.1 m2.1, join_hi m1.2 m2.2, if_neg (show ¬ cmpD (oneD u.lo) (oneD v.lo) < 0 from ltI_false.1 h), if_neg (show ¬ 0 < cmpD (oneD u.hi) (oneD v.hi) from ltI_false.1 h')]; rfl⟩
def gCanon : Spec := specK [.v] fun (v : Vx) => (none, reT (ivCanon v))
theorem gCanon_vc (v : Vx) (Q : Tv → Prop) : execF ⟨tys2, sG1⟩ (fun _ => none) 0 Tryd.f19 [.agg (ivL false v)] Q = (br (!rightV v) (Q (Tv.tup [Sv.agg [At.bool false, At.words true [], At.int IntKind.i64 (0 : Int), At.bool false, At.words true [], At.int IntKind.i64 (0 : Int)], Sv.one (At.int IntKind.i64 (2 : Int))])) (Vx.Sm (65536 : Nat) v ∧ Q (Tv.tup [Sv.agg (ivL false (roomR (canonV v)).fst), Sv.one (At.int IntKind.i64 (roomR (canonV v)).snd)]))) := by kernel_rfl
theorem gCanon_ok : SpecOk Tryd.prog 19 gCanon :=
  specKW_ok (envOk tys2_ok sG1_ok) mixed Tryd.func19 rfl (by decide) (by decide) fun (v : Vx) _ _ => ⟨fun _ => none, 0, by
    show execF _ _ _ _ _ (Qw (ivCanon v))
    refine (gCanon_vc v _).mpr (br_intro (fun h => ?_) fun h => ⟨right_sm (not_false' h), ?_⟩)
    · exact when_false (not_true h)
    · exact when_true (not_false' h)⟩
def gMeets : Spec := specK [.v, .v] fun (v : Vx) (u : Vx) => (none, bT (meetsV v u))
theorem gMeets_vc (v u : Vx) (Q : Tv → Prop) : execF ⟨tys2, sG1⟩ (fun _ => none) 0 Tryd.f29 [.agg (ivL false v), .agg (ivL false u)] Q = (br (rightV v) (br (rightV u) ((Dx.Sm (34359738368 : Nat) v.lo ∧ Dx.Sm (34359738368 : Nat) u.hi) ∧ br (leI (cmpD v.lo u.hi) (0 : Int)) ((Dx.Sm (34359738368 : Nat) u.lo ∧ Dx.Sm (34359738368 : Nat) v.hi) ∧ Q (Tv.sv (Sv.one (At.bool (leI (cmpD u.lo v.hi) (0 : Int)))))) (Q (Tv.sv (Sv.one (At.bool false))))) (Q (Tv.sv (Sv.one (At.bool false))))) (Q (Tv.sv (Sv.one (At.bool false))))) := by kernel_rfl
theorem gMeets_ok : SpecOk Tryd.prog 29 gMeets :=
  specK_ok (envOk tys2_ok sG1_ok) mixed Tryd.func29 rfl (by decide) (by decide) fun (v : Vx) _ (u : Vx) _ _ => ⟨fun _ => none, 0, by
    show execF _ _ _ _ _ (fun t => t = bT (meetsV v u))
    refine (gMeets_vc v u _).mpr (br_intro (fun h1 => br_intro (fun h2 => ?_) fun h2 => ?_) fun h1 => ?_)
    · have z1 := right_sm h1
      have z2 := right_sm h2
      refine ⟨⟨z1.1.mono (by omega), z2.2.mono (by omega)⟩, br_intro (fun h3 => ⟨⟨z2.1.mono (by omega), z1.2.mono (by omega)⟩, ?_⟩) fun h3 => ?_⟩
      · rw [meetsV, h1, h2, h3]; rfl
      · rw [meetsV, h1, h2, h3]; rfl
    · rw [meetsV, h1, h2]; rfl
    · rw [meetsV, h1]; rfl⟩
def gWithin : Spec := specK [.v, .v] fun (v : Vx) (u : Vx) => (none, bT (withinV v u))
theorem gWithin_vc (v u : Vx) (Q : Tv → Prop) : execF ⟨tys2, sG1⟩ (fun _ => none) 0 Tryd.f31 [.agg (ivL false v), .agg (ivL false u)] Q = (br (rightV v) (br (rightV u) ((Dx.Sm (34359738368 : Nat) u.lo ∧ Dx.Sm (34359738368 : Nat) v.lo) ∧ br (leI (cmpD u.lo v.lo) (0 : Int)) ((Dx.Sm (34359738368 : Nat) v.hi ∧ Dx.Sm (34359738368 : Nat) u.hi) ∧ Q (Tv.sv (Sv.one (At.bool (leI (cmpD v.hi u.hi) (0 : Int)))))) (Q (Tv.sv (Sv.one (At.bool false))))) (Q (Tv.sv (Sv.one (At.bool false))))) (Q (Tv.sv (Sv.one (At.bool false))))) := by kernel_rfl
theorem gWithin_ok : SpecOk Tryd.prog 31 gWithin :=
  specK_ok (envOk tys2_ok sG1_ok) mixed Tryd.func31 rfl (by decide) (by decide) fun (v : Vx) _ (u : Vx) _ _ => ⟨fun _ => none, 0, by
    show execF _ _ _ _ _ (fun t => t = bT (withinV v u))
    refine (gWithin_vc v u _).mpr (br_intro (fun h1 => br_intro (fun h2 => ?_) fun h2 => ?_) fun h1 => ?_)
    · have z1 := right_sm h1
      have z2 := right_sm h2
      refine ⟨⟨z2.1.mono (by omega), z1.1.mono (by omega)⟩, br_intro (fun h3 => ⟨⟨z1.2.mono (by omega), z2.2.mono (by omega)⟩, ?_⟩) fun h3 => ?_⟩
      · rw [withinV, h1, h2, h3]; rfl
      · rw [withinV, h1, h2, h3]; rfl
    · rw [withinV, h1, h2]; rfl
    · rw [withinV, h1]; rfl⟩
def gHas : Spec := specK [.v, .d] fun (v : Vx) (d : Dx) => (none, bT (hasV v d))
theorem gHas_vc (v : Vx) (d : Dx) (Q : Tv → Prop) : execF ⟨tys2, sG1⟩ (fun _ => none) 0 Tryd.f33 [.agg (ivL false v), .agg (dyL false d)] Q = (br (rightV v) (br (Dx.fitsB d) ((Dx.Sm (34359738368 : Nat) v.lo ∧ Dx.Sm (34359738368 : Nat) d) ∧ br (leI (cmpD v.lo d) (0 : Int)) ((Dx.Sm (34359738368 : Nat) d ∧ Dx.Sm (34359738368 : Nat) v.hi) ∧ Q (Tv.sv (Sv.one (At.bool (leI (cmpD d v.hi) (0 : Int)))))) (Q (Tv.sv (Sv.one (At.bool false))))) (Q (Tv.sv (Sv.one (At.bool false))))) (Q (Tv.sv (Sv.one (At.bool false))))) := by kernel_rfl
theorem gHas_ok : SpecOk Tryd.prog 33 gHas :=
  specK_ok (envOk tys2_ok sG1_ok) mixed Tryd.func33 rfl (by decide) (by decide) fun (v : Vx) _ (d : Dx) _ _ => ⟨fun _ => none, 0, by
    show execF _ _ _ _ _ (fun t => t = bT (hasV v d))
    refine (gHas_vc v d _).mpr (br_intro (fun h1 => br_intro (fun h2 => ?_) fun h2 => ?_) fun h1 => ?_)
    · have z1 := right_sm h1
      have z2 := fits_sm h2
      refine ⟨⟨z1.1.mono (by omega), z2.mono (by omega)⟩, br_intro (fun h3 => ⟨⟨z2.mono (by omega), z1.2.mono (by omega)⟩, ?_⟩) fun h3 => ?_⟩
      · rw [hasV, h1, h2, h3]; rfl
      · rw [hasV, h1, h2, h3]; rfl
    · rw [hasV, h1, h2]; rfl
    · rw [hasV, h1]; rfl⟩
def gSign : Spec := specK [.v] fun (v : Vx) => (none, sgT (signV v))
theorem gSign_vc (v : Vx) (Q : Tv → Prop) : execF ⟨tys2, sG1⟩ (fun _ => none) 0 Tryd.f27 [.agg (ivL false v)] Q = (br (!rightV v) (Q (Tv.tup [Sv.one (At.int IntKind.i64 (0 : Int)), Sv.one (At.bool false)])) (true = true ∧ br (neI (Dx.sgn v.lo) (Dx.sgn v.hi)) (Q (Tv.tup [Sv.one (At.int IntKind.i64 (0 : Int)), Sv.one (At.bool false)])) (Q (Tv.tup [Sv.one (At.int IntKind.i64 (Dx.sgn v.lo)), Sv.one (At.bool true)])))) := by kernel_rfl
theorem gSign_ok : SpecOk Tryd.prog 27 gSign :=
  specK_ok (envOk tys2_ok sG1_ok) mixed Tryd.func27 rfl (by decide) (by decide) fun (v : Vx) hv _ => ⟨fun _ => none, 0, by
    have hv := Vx.Wf.p hv
    show execF _ _ _ _ _ (fun t => t = sgT (signV v))
    refine (gSign_vc v _).mpr (br_intro (fun h => ?_) fun h => ⟨rfl, br_intro (fun h1 => ?_) fun h1 => ?_⟩)
    · rw [signV, not_true h]; rfl
    · have hr := not_false' h
      have hs := sgn_le hv hr
      have h1 := neI_true.1 h1
      rw [signV, if_pos hr]
      rcases sgn_cases (d := v.lo) with a | a | a <;> rcases sgn_cases (d := v.hi) with b | b | b <;> rw [a, b] at h1 hs ⊢ <;> first | rfl | exact absurd rfl h1 | exact absurd hs (by decide)
    · have hr := not_false' h
      have h1 := neI_false.1 h1
      rw [signV, if_pos hr, ← h1]
      rcases sgn_cases (d := v.lo) with a | a | a <;> rw [a] <;> rfl⟩
theorem right_le {v : Vx} (h : rightV v = true) : v.lo.rv ≤ v.hi.rv := cmpD_le.1 (right_fits h).2.2
def gNarrow : Spec := specK [.v, .i .i64] fun (v : Vx) (p : Int) => (none, bT (narrowB v p))
theorem gNarrow_vc (v : Vx) (p : Int) (Q : Tv → Prop) : execF ⟨tys2, sG1⟩ (fun _ => none) 0 Tryd.f34 [.agg (ivL false v), .one (.int .i64 p)] Q = (br (!rightV v) (Q (Tv.sv (Sv.one (At.bool false)))) (br (ltI p (0 : Int)) (Q (Tv.sv (Sv.one (At.bool false)))) (true = true ∧ br (neI (Dx.sgn v.lo) (Dx.sgn v.hi)) (Q (Tv.sv (Sv.one (At.bool (eqI (Dx.sgn v.lo) (Dx.sgn v.hi)))))) (br (eqI (Dx.sgn v.lo) (0 : Int)) (Q (Tv.sv (Sv.one (At.bool (eqI (Dx.sgn v.lo) (Dx.sgn v.hi)))))) (br (ltI (Dx.sgn v.lo) (0 : Int)) (eB (4611686018427387904 : Int) v.hi ∧ (Dx.Sm (34359738368 : Nat) v.hi ∧ Dx.Sm (34359738368 : Nat) v.lo) ∧ br (Dx.zeroB (lessD v.hi v.lo)) (Q (Tv.sv (Sv.one (At.bool true)))) (br (ltI (196608 : Int) p) (Q (Tv.sv (Sv.one (At.bool false)))) ((eB (2305843009213693952 : Int) (lessD v.hi v.lo) ∧ (-2305843009213693952 : Int) ≤ p ∧ p ≤ (2305843009213693952 : Int)) ∧ (Dx.Sm (34359738368 : Nat) (shiftD (lessD v.hi v.lo) p) ∧ Dx.Sm (34359738368 : Nat) (negD v.hi)) ∧ true = true ∧ Q (Tv.sv (Sv.one (At.bool (leI (cmpD (shiftD (lessD v.hi v.lo) p) (negD v.hi)) (0 : Int)))))))) ((Dx.Sm (34359738368 : Nat) v.hi ∧ Dx.Sm (34359738368 : Nat) v.lo) ∧ br (Dx.zeroB (lessD v.hi v.lo)) (Q (Tv.sv (Sv.one (At.bool true)))) (br (ltI (196608 : Int) p) (Q (Tv.sv (Sv.one (At.bool false)))) ((eB (2305843009213693952 : Int) (lessD v.hi v.lo) ∧ (-2305843009213693952 : Int) ≤ p ∧ p ≤ (2305843009213693952 : Int)) ∧ (Dx.Sm (34359738368 : Nat) (shiftD (lessD v.hi v.lo) p) ∧ Dx.Sm (34359738368 : Nat) v.lo) ∧ true = true ∧ Q (Tv.sv (Sv.one (At.bool (leI (cmpD (shiftD (lessD v.hi v.lo) p) v.lo) (0 : Int))))))))))))) := by kernel_rfl
theorem wide_ge {v : Vx} (hv : v.P) (hr : rightV v = true) (hz : (lessD v.hi v.lo).zeroB = false) : p2 (-32768) ≤ (lessD v.hi v.lo).rv := by
  have h := rv_less hv.2 hv.1
  have f := right_fits hr
  have hm := (rv_mul2 (fits_e f.2.1).1).sub (rv_mul2 (fits_e f.1).1)
  rw [← h] at hm
  refine hm.pos ?_
  have := right_le hr
  have : (lessD v.hi v.lo).rv ≠ 0 := fun e => by rw [(zeroB_rv lessD_p).2 e] at hz; simp at hz
  grind
theorem narrow_part {w l l' : Dx} {p : Int} {r : Bool} (w0 : 0 ≤ w.m) (l0 : 0 ≤ l.m) (hw : p2 (-32768) ≤ w.rv) (hl : l.rv < p2 98304) (e : l'.rv = l.rv) (p0 : 0 ≤ p) (sw : w.Sm 4294967296) (sl : l'.Sm 4294967296) (hr : r = narrowX w l p) :
    br (ltI 196608 p) (Tv.sv (Sv.one (At.bool false)) = bT r) ((eB 2305843009213693952 w ∧ (-2305843009213693952 : Int) ≤ p ∧ p ≤ (2305843009213693952 : Int)) ∧ (Dx.Sm 34359738368 (shiftD w p) ∧ Dx.Sm 34359738368 l') ∧ true = true ∧ Tv.sv (Sv.one (At.bool (leI (cmpD (shiftD w p) l') 0))) = bT r) := by
  rw [hr, narrowX_eq w0 l0 hw hl]
  refine br_intro (fun h => ?_) fun h => ?_
  · rw [decide_eq_false]
    intro k
    have := narrow_p hw hl k
    have := ltI_true.1 h
    omega
  · have h := ltI_false.1 h
    refine ⟨⟨sw.eB (by omega), by omega, by omega⟩, ⟨(shiftD_sm (N := 4294967296) (M := 196608) w0 sw (by omega) (by omega)).mono (by omega), sl.mono (by omega)⟩, rfl, ?_⟩
    have : leI (cmpD (shiftD w p) l') 0 = decide (w.rv * p2 p ≤ l.rv) := by
      unfold leI; rw [← e, ← decide_eq_decide.2 (cmp_shift (l := l') w0)]
    rw [this]
theorem gNarrow_ok : SpecOk Tryd.prog 34 gNarrow :=
  specK_ok (envOk tys2_ok sG1_ok) mixed Tryd.func34 rfl (by decide) (by decide) fun (v : Vx) hv (p : Int) _ _ => ⟨fun _ => none, 0, by
    have hv := Vx.Wf.p hv
    show execF _ _ _ _ _ (fun t => t = bT (narrowB v p))
    refine (gNarrow_vc v p _).mpr (br_intro (fun h => ?_) fun h => br_intro (fun h1 => ?_) fun h1 => ⟨rfl, br_intro (fun h2 => ?_) fun h2 => br_intro (fun h3 => ?_) fun h3 => ?_⟩)
    · rw [narrowB, not_true h, Bool.false_and, Bool.and_false]
    · rw [narrowB, lt_not h1, Bool.false_and]
    · have h2 := neI_true.1 h2
      rw [narrowB, nlt_le h1, not_false' h, narrowV, if_pos h2, show eqI v.lo.sgn v.hi.sgn = false from eqI_false.2 h2]; rfl
    · have h2 := neI_false.1 h2
      rw [narrowB, nlt_le h1, not_false' h, narrowV, if_neg (by omega), if_pos (eqI_true.1 h3), show eqI v.lo.sgn v.hi.sgn = true from eqI_true.2 h2]; rfl
    · have hr := not_false' h
      have h2 := neI_false.1 h2
      have h3 := eqI_false.1 h3
      have sv := right_sm hr
      have fv := right_fits hr
      have p0 := leI_true.1 (nlt_le h1)
      have sl := lessD_sm hv.2 hv.1 sv.2 sv.1
      have key : narrowB v p = if (lessD v.hi v.lo).zeroB then true else narrowX (lessD v.hi v.lo) (if v.lo.sgn < 0 then absD v.hi else absD v.lo) p := by
        rw [narrowB, nlt_le h1, hr, narrowV, if_neg (by omega), if_neg h3]; rfl
      rw [key]
      refine br_intro (fun h4 => ⟨sv.2.eB (by omega), ⟨sv.2.mono (by omega), sv.1.mono (by omega)⟩, br_intro (fun h5 => ?_) fun h5 => ?_⟩) fun h4 => ⟨⟨sv.2.mono (by omega), sv.1.mono (by omega)⟩, br_intro (fun h5 => ?_) fun h5 => ?_⟩
      · rw [h5]; rfl
      · have h4 := ltI_true.1 h4
        have hneg : v.hi.rv < 0 := by
          rcases sgn_rv hv.2 with ⟨a, b⟩ | ⟨a, b⟩ | ⟨a, b⟩ <;> first | exact b | omega
        rw [h5, if_pos h4]
        refine narrow_part lessD_p absD_p (wide_ge hv hr h5) ?_ ?_ p0 (sl.mono (by omega)) ((negD_sm sv.2 hv.2).mono (by omega)) rfl
        · rw [rv_abs hv.2]; exact fits_lt fv.2.1
        · rw [rv_abs hv.2, rv_neg hv.2, (rv_amt hv.2).2 (by grind)]
      · rw [h5]; rfl
      · have h4 := ltI_false.1 h4
        have hpos : 0 < v.lo.rv := by
          rcases sgn_rv hv.1 with ⟨a, b⟩ | ⟨a, b⟩ | ⟨a, b⟩ <;> first | exact b | omega
        rw [h5, if_neg h4]
        refine narrow_part lessD_p absD_p (wide_ge hv hr h5) ?_ ?_ p0 (sl.mono (by omega)) (sv.1.mono (by omega)) rfl
        · rw [rv_abs hv.1]; exact fits_lt fv.1
        · rw [rv_abs hv.1, (rv_amt hv.1).1 (by grind)]⟩
def sG2 : List (FuncId × Spec) := [(64, gJoin), (19, gCanon), (29, gMeets), (31, gWithin), (33, gHas), (27, gSign), (34, gNarrow)] ++ sG1
theorem sG2_ok : SpecsOk Tryd.prog sG2 := ⟨gJoin_ok, gCanon_ok, gMeets_ok, gWithin_ok, gHas_ok, gSign_ok, gNarrow_ok, sG1_ok⟩
/-- Neg, Scale, Join, Cut by their numbers. -/
def turnR (k : Int) (v u : Vx) (n : Int) : Vx × Int := if k = 0 then ivNeg v else if k = 1 then ivScale v n else if k = 2 then ivJoin v u else ivCut v n
def gTurn : Spec := specK [.i .i64, .v, .v, .i .i64] fun (k : Int) (v : Vx) (u : Vx) (n : Int) => (some (0 ≤ k ∧ k ≤ 3), reT (turnR k v u n))
theorem gTurn0_vc (v u : Vx) (n : Int) (Q : Tv → Prop) : execF ⟨tys2, sG2⟩ (fun _ => none) 0 Tryd.f17 [.one (.int .i64 0), .agg (ivL false v), .agg (ivL false u), .one (.int .i64 n)] Q = (br (!rightV v) (Q (Tv.tup [Sv.agg [At.bool false, At.words true [], At.int IntKind.i64 (0 : Int), At.bool false, At.words true [], At.int IntKind.i64 (0 : Int)], Sv.one (At.int IntKind.i64 (2 : Int))])) ((eB (4611686018427387904 : Int) v.lo ∧ eB (4611686018427387904 : Int) v.hi) ∧ Q (Tv.tup [Sv.agg (ivL false (roomR (turnV v)).fst), Sv.one (At.int IntKind.i64 (roomR (turnV v)).snd)]))) := by kernel_rfl
theorem gTurn1_vc (v u : Vx) (n : Int) (Q : Tv → Prop) : execF ⟨tys2, sG2⟩ (fun _ => none) 0 Tryd.f17 [.one (.int .i64 1), .agg (ivL false v), .agg (ivL false u), .one (.int .i64 n)] Q = (br (!rightV v) (Q (Tv.tup [Sv.agg [At.bool false, At.words true [], At.int IntKind.i64 (0 : Int), At.bool false, At.words true [], At.int IntKind.i64 (0 : Int)], Sv.one (At.int IntKind.i64 (2 : Int))])) (br (ltI n (-65536 : Int)) (Q (Tv.tup [Sv.agg [At.bool false, At.words true [], At.int IntKind.i64 (0 : Int), At.bool false, At.words true [], At.int IntKind.i64 (0 : Int)], Sv.one (At.int IntKind.i64 (2 : Int))])) (br (ltI (65536 : Int) n) (Q (Tv.tup [Sv.agg [At.bool false, At.words true [], At.int IntKind.i64 (0 : Int), At.bool false, At.words true [], At.int IntKind.i64 (0 : Int)], Sv.one (At.int IntKind.i64 (2 : Int))])) ((eB (2305843009213693952 : Int) v.lo ∧ eB (2305843009213693952 : Int) v.hi ∧ (-2305843009213693952 : Int) ≤ n ∧ n ≤ (2305843009213693952 : Int)) ∧ Q (Tv.tup [Sv.agg (ivL false (roomR (scaleV v n)).fst), Sv.one (At.int IntKind.i64 (roomR (scaleV v n)).snd)]))))) := by kernel_rfl
theorem gTurn2_vc (v u : Vx) (n : Int) (Q : Tv → Prop) : execF ⟨tys2, sG2⟩ (fun _ => none) 0 Tryd.f17 [.one (.int .i64 2), .agg (ivL false v), .agg (ivL false u), .one (.int .i64 n)] Q = (br (!rightV v) (Q (Tv.tup [Sv.agg [At.bool false, At.words true [], At.int IntKind.i64 (0 : Int), At.bool false, At.words true [], At.int IntKind.i64 (0 : Int)], Sv.one (At.int IntKind.i64 (2 : Int))])) (br (!rightV u) (Q (Tv.tup [Sv.agg [At.bool false, At.words true [], At.int IntKind.i64 (0 : Int), At.bool false, At.words true [], At.int IntKind.i64 (0 : Int)], Sv.one (At.int IntKind.i64 (2 : Int))])) ((Vx.Sm (65536 : Nat) v ∧ Vx.Sm (65536 : Nat) u) ∧ Q (Tv.tup [Sv.agg (ivL false (roomR (joinV v u)).fst), Sv.one (At.int IntKind.i64 (roomR (joinV v u)).snd)])))) := by kernel_rfl
theorem gTurn3_vc (v u : Vx) (n : Int) (Q : Tv → Prop) : execF ⟨tys2, sG2⟩ (fun _ => none) 0 Tryd.f17 [.one (.int .i64 3), .agg (ivL false v), .agg (ivL false u), .one (.int .i64 n)] Q = (br (!rightV v) (Q (Tv.tup [Sv.agg [At.bool false, At.words true [], At.int IntKind.i64 (0 : Int), At.bool false, At.words true [], At.int IntKind.i64 (0 : Int)], Sv.one (At.int IntKind.i64 (2 : Int))])) (br (ltI n (1 : Int)) (Q (Tv.tup [Sv.agg [At.bool false, At.words true [], At.int IntKind.i64 (0 : Int), At.bool false, At.words true [], At.int IntKind.i64 (0 : Int)], Sv.one (At.int IntKind.i64 (2 : Int))])) (br (ltI (8192 : Int) n) (Q (Tv.tup [Sv.agg [At.bool false, At.words true [], At.int IntKind.i64 (0 : Int), At.bool false, At.words true [], At.int IntKind.i64 (0 : Int)], Sv.one (At.int IntKind.i64 (2 : Int))])) ((Vx.Sm (34359738368 : Nat) v ∧ (0 : Int) ≤ n ∧ n ≤ (1099511627776 : Int)) ∧ Q (Tv.tup [Sv.agg (ivL false (roomR (trimV v n)).fst), Sv.one (At.int IntKind.i64 (roomR (trimV v n)).snd)]))))) := by kernel_rfl
end Go.Proofs.YtmfmneanmamjbaaDoor

namespace Go.Proofs.YtmfmneanmamjbaaDoor
open Go.RowKit
/-- A block that holds a dyadic number's three cells, from cell o on. -/
def Box3 (w : World) (g o : Nat) (a b c : Value) : Prop :=
  (w.cell? ⟨g, o, none⟩ = some a ∧ w.cell? ⟨g, o + 1, none⟩ = some b ∧ w.cell? ⟨g, o + 2, none⟩ = some c) ∧
  (w.frozen? ⟨g, o, none⟩ = false ∧ w.frozen? ⟨g, o + 1, none⟩ = false ∧ w.frozen? ⟨g, o + 2, none⟩ = false)
theorem Box3.lt {w : World} {g o : Nat} {a b c : Value} (h : Box3 w g o a b c) : g < w.heap.size := World.block_lt_of_cell? w _ h.1.1
theorem Box3.below {w w' : World} {g o : Nat} {a b c : Value} (h : Box3 w g o a b c) (hb : Below w.heap.size w w') : Box3 w' g o a b c := by
  have hl := h.lt
  have e := bcell hb
  obtain ⟨⟨h1, h2, h3⟩, h4, h5, h6⟩ := h
  exact ⟨⟨(e.1 _ _ hl).trans h1, (e.1 _ _ hl).trans h2, (e.1 _ _ hl).trans h3⟩, (e.2 _ _ hl).trans h4, (e.2 _ _ hl).trans h5, (e.2 _ _ hl).trans h6⟩
theorem Box3.mid {w w' : World} {B g o : Nat} {a b c : Value} (h : Box3 w g o a b c) (hb : Below B w w') (hl : g < B) : Box3 w' g o a b c := by
  obtain ⟨⟨h1, h2, h3⟩, h4, h5, h6⟩ := h
  exact ⟨⟨(hb.cell (p := ⟨g, o, none⟩) hl).trans h1, (hb.cell (p := ⟨g, o + 1, none⟩) hl).trans h2, (hb.cell (p := ⟨g, o + 2, none⟩) hl).trans h3⟩, (hb.frozen (p := ⟨g, o, none⟩) hl).trans h4, (hb.frozen (p := ⟨g, o + 1, none⟩) hl).trans h5, (hb.frozen (p := ⟨g, o + 2, none⟩) hl).trans h6⟩
theorem Box3.other {w : World} {g g' o : Nat} {a b c : Value} (h : Box3 w g 0 a b c) (hg : g ≠ g') (x : Value) : Box3 (w.setCell ⟨g', o, none⟩ x) g 0 a b c := by
  obtain ⟨⟨h1, h2, h3⟩, h4, h5, h6⟩ := h
  refine ⟨⟨?_, ?_, ?_⟩, ?_, ?_, ?_⟩
  iterate 3 rw [World.cell?_setCell_other _ _ _ _ (by intro e; simp only [Addr.mk.injEq] at e; omega)]; assumption
  all_goals rw [World.frozen?_setCell]; assumption
theorem Box3.new (w : World) (a b c : Value) (t : TypeId) : Box3 (w.alloc (.cells #[a, b, c] t)) w.heap.size 0 a b c := by
  refine ⟨⟨?_, ?_, ?_⟩, ?_, ?_, ?_⟩ <;> go_simp

theorem Box3.set {w : World} {g : Nat} {a b c : Value} (h : Box3 w g 0 a b c) (a' b' c' : Value) :
    Box3 (((w.setCell ⟨g, 0, none⟩ a').setCell ⟨g, 1, none⟩ b').setCell ⟨g, 2, none⟩ c') g 0 a' b' c' := by
  obtain ⟨⟨h1, h2, h3⟩, h4, h5, h6⟩ := h
  simp only [Nat.zero_add] at h1 h2 h3 h4 h5 h6
  have n01 : (⟨g, 0, none⟩ : Addr) ≠ ⟨g, 1, none⟩ := by simp
  have n02 : (⟨g, 0, none⟩ : Addr) ≠ ⟨g, 2, none⟩ := by simp
  have n12 : (⟨g, 1, none⟩ : Addr) ≠ ⟨g, 2, none⟩ := by simp
  refine ⟨⟨?_, ?_, ?_⟩, ?_, ?_, ?_⟩
  · rw [World.cell?_setCell_other _ _ _ _ n02.symm, World.cell?_setCell_other _ _ _ _ n01.symm]; exact World.cell?_setCell_same _ _ _ h1
  · rw [Nat.zero_add, World.cell?_setCell_other _ _ _ _ n12.symm]; exact World.cell?_setCell_same _ _ _ ((World.cell?_setCell_other _ _ _ _ n01).trans h2)
  · rw [Nat.zero_add]; exact World.cell?_setCell_same _ _ _ ((World.cell?_setCell_other _ _ _ _ n12).trans ((World.cell?_setCell_other _ _ _ _ n02).trans h3))
  all_goals rw [World.frozen?_setCell, World.frozen?_setCell, World.frozen?_setCell]
  all_goals assumption
theorem NatAt.set {B g o : Nat} {w : World} {v : Value} {xs : List Int} (h : NatAt B w v xs) (hg : g < B) (x : Value) : NatAt B (w.setCell ⟨g, o, none⟩ x) v xs := by
  obtain ⟨A, c, e, h1, h2, h3, h5, h4⟩ := h
  refine ⟨A, c, e, h1, h2, h3, h5, fun hp => ?_⟩
  obtain ⟨g', o', e, hB, hg', hc⟩ := h4 hp
  refine ⟨g', o', e, hB, by simpa using hg', fun j hj => ?_⟩
  rw [World.cell?_setCell_other _ _ _ _ (by intro e; simp only [Addr.mk.injEq] at e; omega)]
  exact hc j hj
/-- A world in which the three cells of a block were set. -/
abbrev put3 (w : World) (g : Nat) (a b c : Value) : World := ((w.setCell ⟨g, 0, none⟩ a).setCell ⟨g, 1, none⟩ b).setCell ⟨g, 2, none⟩ c
theorem NatAt.put {B g : Nat} {w : World} {v : Value} {xs : List Int} (h : NatAt B w v xs) (hg : g < B) (a b c : Value) : NatAt B (put3 w g a b c) v xs := ((h.set hg a).set hg b).set hg c
theorem Below.put {B g : Nat} {w0 w : World} (h : Below B w0 w) (hg : B ≤ g) (a b c : Value) : Below B w0 (put3 w g a b c) := ((h.setCell hg _).setCell hg _).setCell hg _
theorem results_dy {fn : Func} {p : Tmp} (h : fn.results = #[.cell p 25]) {tmps : Array Value} {w : World} {g : Nat} {a b c : Value} (hp : tmps.getD p undef = .pointer (some ⟨g, 0, none⟩)) (hB : Box3 w g 0 a b c) :
    (results fn tmps).run Tryd.prog w = .ok (.agg #[a, b, c]) w := by
  obtain ⟨⟨h1, h2, h3⟩, h4, h5, h6⟩ := hB
  simp only [Nat.zero_add] at h1 h2 h3 h4 h5 h6
  have hp' : tmps[p]?.getD undef = .pointer (some ⟨g, 0, none⟩) := by simpa using hp
  simp [results, h, hp', asAddr, go_sem, loadVar, h1, h2, h3]

theorem size_alloc (w : World) (o : Obj) : (w.alloc o).heap.size = w.heap.size + 1 := by simp
/-- The world in which the copy is made. -/
noncomputable abbrev cpW (w : World) (neg : Bool) (s : Value) (e : Int) : World := ((w.alloc (.cells #[.bool neg, s, .int .i64 e] 25)).alloc (.cells #[.bool false, .slice none 0 0, .int .i64 0] 25)).alloc (.cells #[] 36)
theorem cp_below (w : World) (neg : Bool) (s : Value) (e : Int) : Below w.heap.size w (cpW w neg s e) := below_plus (below_plus (below_also w _) _) _
theorem cp_size (w : World) (neg : Bool) (s : Value) (e : Int) : (cpW w neg s e).heap.size = w.heap.size + 3 := by simp [cpW]
theorem cp_row (w : World) (neg : Bool) (s : Value) (e : Int) : (cpW w neg s e).ownsRow (w.heap.size + 2) 36 1 (.slice (some ⟨w.heap.size + 1 + 1, 0, none⟩) 0 0) 0 [] := by
  refine ⟨rfl, .inr ⟨_, 0, #[], rfl, Nat.le_refl _, ?_, Nat.le_refl _, Nat.zero_le _, rfl, rfl⟩⟩
  have := heap_alloc_new ((w.alloc (.cells #[.bool neg, s, .int .i64 e] 25)).alloc (.cells #[.bool false, .slice none 0 0, .int .i64 0] 25)) (.cells #[] 36)
  rwa [size_alloc, size_alloc] at this
theorem cp_box (w : World) (neg : Bool) (s : Value) (e : Int) : Box3 (cpW w neg s e) w.heap.size 0 (.bool neg) s (.int .i64 e) ∧ Box3 (cpW w neg s e) (w.heap.size + 1) 0 (.bool false) (.slice none 0 0) (.int .i64 0) := by
  refine ⟨((Box3.new w _ _ _ _).below (below_also _ _)).below (below_also _ _), ?_⟩
  have := (Box3.new (w.alloc (.cells #[.bool neg, s, .int .i64 e] 25)) (.bool false) (.slice none 0 0) (.int .i64 0) 25).below (below_also _ (.cells #[] 36))
  rwa [size_alloc] at this
set_option maxHeartbeats 800000 in
theorem copy4_calls {w : World} {s : Value} {d : Dx} (h : NatAt 0 w s d.xs) :
    Calls Tryd.prog 52 #[.agg #[.bool d.neg, s, .int .i64 d.e]] w fun e w' => ∃ s', e = .returned (.agg #[.bool d.neg, s', .int .i64 d.e]) ∧ NatAt w.heap.size w' s' d.xs ∧ Below w.heap.size w w' := by
  have HN := Lib.hid h
  clear h
  obtain ⟨neg, xs, e⟩ := d
  simp only at *
  go_enter Tryd.func52, Tryd.ntmps52
  go_wp2_with (at_builtin; refine wpList_append_copy rfl (w.heap.size + 2) rfl (.tmp 3) (.tmp 5) 23 rfl Tryd.underlying23 rfl rfl (cp_row _ _ _ _) (HN.out.below (cp_below _ _ _ _)) (Below.refl _ _) (by rw [cp_size]; omega) ?_; intro v3 w3 hn3 hb3 _; obtain ⟨A3, c3, rfl, hh⟩ := hn3; have HN3 : Hid (NatAt (w.heap.size + 2) w3 (.slice A3 xs.length c3) xs) := Lib.hid ⟨A3, c3, rfl, hh⟩; have HB3 := Lib.hid hb3; have k1 := (cp_box w neg s e).1.mid hb3 (by omega); have k2 := (cp_box w neg s e).2.mid hb3 (by omega); obtain ⟨⟨a1, a2, a3⟩, a4, a5, a6⟩ := k1; obtain ⟨⟨b1, b2, b3⟩, b4, b5, b6⟩ := k2; simp only [Nat.zero_add] at a1 a2 a3 a4 a5 a6 b1 b2 b3 b4 b5 b6; clear hh hb3)
  refine bodyPost_ret (results_dy rfl rfl (Box3.set (Box3.other ⟨⟨b1, b2, b3⟩, b4, b5, b6⟩ (by omega) _) _ _ _)) rfl ?_
  have hb := (((cp_below w neg s e).trans (HB3.out.mono (by omega))).setCell (p := ⟨w.heap.size, 1, none⟩) (Nat.le_refl _) (.slice A3 xs.length c3))
  exact ⟨_, rfl, ((HN3.out.set (g := w.heap.size) (by omega) _).put (g := w.heap.size + 1) (by omega) _ _ _).mono (by omega), Below.put hb (by omega) _ _ _⟩
def fCopy : Spec := specK [.d] fun (d : Dx) => (none, dT d)
theorem fCopy_ok : SpecOk Tryd.prog 52 fCopy :=
  handK_ok Tryd.func52 rfl (by decide) fun C w hC hX _ => fun (d : Dx) _ v h _ => by
    obtain ⟨vs, rfl, hl⟩ : ∃ vs, v = .agg vs.toArray ∧ RepL C noBox w vs (dyL false d) := by
      obtain ⟨vs, h1, h2⟩ := h; exact ⟨vs, h1, h2⟩
    match vs, hl with
    | [a, b, c], ⟨h1, h2, h3, _⟩ =>
      obtain rfl := rep_bool h1
      obtain rfl := rep_int h3
      refine (copy4_calls (rep_natAt h2)).mono ?_
      rintro e w' ⟨s', rfl, hn, hb⟩
      exact ⟨_, rfl, ⟨[.bool d.neg, s', .int .i64 d.e], rfl, Rep.bool _, rep_new hC hX hn, Rep.int _ _, trivial⟩, hb⟩
end Go.Proofs.YtmfmneanmamjbaaDoor

namespace Go.Proofs.YtmfmneanmamjbaaDoor
open Go.RowKit
def wsK : Nat → Int → List Int
  | 0, _ => []
  | k + 1, n => if 0 < n then (n % 18446744073709551616) :: wsK k (n / 18446744073709551616) else []
theorem wsK_eq : ∀ {k : Nat} {n : Int}, n < 2 ^ k → ws n = wsK k n
  | 0, n, h => by rw [ws_nonpos (by simp at h; omega)]; rfl
  | k + 1, n, h => by
    unfold wsK
    by_cases hp : 0 < n
    · have p := two_pow_pos k
      rw [Int.pow_succ] at h
      rw [ws_pos hp, if_pos hp, wsK_eq (k := k) (by omega)]
    · rw [ws_nonpos (by omega), if_neg hp]
theorem ws_K (n : Int) : ws n = wsK (blen n) n := wsK_eq (blen_lt n)
def tzK : Nat → Nat → Nat
  | 0, _ => 0
  | k + 1, n => if n = 0 then 0 else if n % 2 = 1 then 0 else tzK k (n / 2) + 1
theorem tzK_eq : ∀ {k n : Nat}, n < 2 ^ k → tzn n = tzK k n
  | 0, n, h => by
    obtain rfl : n = 0 := by simp at h; omega
    unfold tzn tzK; rfl
  | k + 1, n, h => by
    rw [Nat.pow_succ] at h
    unfold tzK; rw [tzn, tzK_eq (k := k) (n := n / 2) (by omega)]
theorem tz_K {n : Int} : tz n = tzK (blen n) n.toNat := by
  unfold tz
  refine tzK_eq ?_
  have h := blen_lt n
  by_cases h0 : 0 ≤ n
  · have : (n.toNat : Int) < ((2 ^ blen n : Nat) : Int) := by rw [Int.toNat_of_nonneg h0]; simpa using h
    exact_mod_cast this
  · rw [Int.toNat_of_nonpos (by omega)]; exact Nat.two_pow_pos _
def mkDK (neg : Bool) (m e : Int) : Dx := if m = 0 then ⟨false, [], 0⟩ else
  let t := tzK (blen m) m.toNat
  let q := m / 2 ^ t
  ⟨neg, wsK (blen q) q, e + t⟩
theorem mkD_K (neg : Bool) (m e : Int) : mkD neg m e = mkDK neg m e := by
  unfold mkD mkDK; rw [tz_K, ws_K]
def oneK (d : Dx) : Dx := mkDK d.neg d.m d.e
theorem oneD_K (d : Dx) : oneD d = oneK d := by unfold oneD oneK; rw [mkD_K]
def mkSK (s e : Int) : Dx := mkDK (decide (s < 0)) (s.natAbs : Int) e
theorem mkS_K (s e : Int) : mkS s e = mkSK s e := by unfold mkS mkSK; rw [mkD_K]
def cutXK (x : Dx) (p : Int) (up : Bool) : Dx :=
  let n := (blen x.m : Int) - p
  if n ≤ 0 then x else mkDK x.neg (x.m / 2 ^ n.toNat + if up == x.neg then 0 else 1) (x.e + n)
theorem cutX_K (x : Dx) (p : Int) (up : Bool) : cutX x p up = cutXK x p up := by unfold cutX cutXK; rw [mkD_K]
def cutK (d : Dx) (p : Int) (up : Bool) : Dx := cutXK (oneK d) p up
theorem cutD_K (x : Dx) (p : Int) (up : Bool) : cutD x p up = cutK x p up := by unfold cutD cutK; rw [cutX_K, oneD_K]
def overXK (x y : Dx) (p : Int) (up : Bool) : Dx :=
  if x.m = 0 then ⟨false, [], 0⟩ else
  let k := max (p + 2 + blen y.m - blen x.m) 0
  let M := x.m * 2 ^ k.toNat
  cutK (mkDK (!(x.neg == y.neg)) (stickyM (M / y.m) (decide (M % y.m ≠ 0))) (x.e - y.e - k - 1)) p up
theorem overX_K (x y : Dx) (p : Int) (up : Bool) : overX x y p up = overXK x y p up := by unfold overX overXK; rw [mkD_K, cutD_K]
def overK (a b : Dx) (p : Int) (up : Bool) : Dx := overXK (oneK a) (oneK b) p up
theorem overD_K (a b : Dx) (p : Int) (up : Bool) : overD a b p up = overK a b p up := by unfold overD overK; rw [overX_K, oneD_K, oneD_K]
def plusXK (x y : Dx) : Dx :=
  if x.m = 0 then y else if y.m = 0 then x else
  let e := min x.e y.e
  mkSK (x.sm * 2 ^ (x.e - e).toNat + y.sm * 2 ^ (y.e - e).toNat) e
theorem plusX_K (x y : Dx) : plusX x y = plusXK x y := by unfold plusX plusXK; rw [mkS_K]
def plusK (a b : Dx) : Dx := plusXK (oneK a) (oneK b)
theorem plusD_K (a b : Dx) : plusD a b = plusK a b := by unfold plusD plusK; rw [plusX_K, oneD_K, oneD_K]
def fitsK (d : Dx) : Bool := decide ((wsK (blen d.m) d.m).length ≤ 1024) && decide (-32768 ≤ d.e) && decide (d.e ≤ 32768)
def rightK (v : Vx) : Bool := fitsK v.lo && (fitsK v.hi && decide (cmpD v.lo v.hi ≤ 0))
theorem great_K (m : Int) : (!greatB m) = decide ((wsK (blen m) m).length ≤ 1024) := by
  unfold greatB; rw [← ws_K]
  by_cases h : (ws m).length ≤ 1024
  · rw [decide_eq_true h, decide_eq_false (by omega)]; rfl
  · rw [decide_eq_false h, decide_eq_true (by omega)]; rfl
theorem fits_K (d : Dx) : d.fitsB = fitsK d := by unfold Dx.fitsB fitsK; rw [great_K]
theorem right_K (v : Vx) : rightV v = rightK v := by unfold rightV rightK; rw [fits_K, fits_K]
def roomK (v : Vx) : Vx × Int := if (fitsK v.lo && fitsK v.hi) = true then (v, 0) else (zeroIv, 3)
theorem room_K (v : Vx) : roomR v = roomK v := by unfold roomR roomK; rw [fits_K, fits_K]
def doK (v u : Vx) (p wrong : Int) (X : Vx) : Vx × Int := whenR (rightK v && (rightK u && (leI 1 p && leI p 8192))) (if neI wrong 0 = true then (zeroIv, wrong) else roomK X)
theorem do_K (v u : Vx) (p wrong : Int) (X : Vx) : doR v u p wrong X = doK v u p wrong X := by unfold doR doK; rw [right_K, right_K, room_K]
def trimK (v : Vx) (p : Int) : Vx := ⟨cutK v.lo p false, cutK v.hi p true⟩
theorem trim_K (v : Vx) (p : Int) : trimV v p = trimK v p := by unfold trimV trimK; rw [cutD_K, cutD_K]
def ivAddK (v u : Vx) (p : Int) : Vx × Int := doK v u p 0 (trimK ⟨plusK v.lo u.lo, plusK v.hi u.hi⟩ p)
theorem ivAdd_K (v u : Vx) (p : Int) : ivAdd v u p = ivAddK v u p := by unfold ivAdd plusV sumV ivAddK; rw [do_K, trim_K, plusD_K, plusD_K]
def quoK (v u : Vx) (p : Int) (up : Bool) : Vx := spanL (overK v.lo u.lo p up) [overK v.lo u.hi p up, overK v.hi u.lo p up, overK v.hi u.hi p up]
theorem quo_K (v u : Vx) (p : Int) (up : Bool) : quoV v u p up = quoK v u p up := by unfold quoV quoK; simp only [overD_K]
def ivDivK (v u : Vx) (p : Int) : Vx × Int := doK v u p (wrongZ u) ⟨(quoK v u p false).lo, (quoK v u p true).hi⟩
theorem ivDiv_K (v u : Vx) (p : Int) : ivDiv v u p = ivDivK v u p := by unfold ivDiv divV ivDivK; rw [do_K, quo_K, quo_K]
def signK (v : Vx) : Int × Bool := if rightK v = true then (if 0 < v.lo.sgn then (1, true) else if v.hi.sgn < 0 then (-1, true) else (0, eqI v.lo.sgn 0 && eqI v.hi.sgn 0)) else (0, false)
theorem sign_K (v : Vx) : signV v = signK v := by unfold signV signK; rw [right_K]
def meetsK (v u : Vx) : Bool := rightK v && (rightK u && (leI (cmpD v.lo u.hi) 0 && leI (cmpD u.lo v.hi) 0))
theorem meets_K (v u : Vx) : meetsV v u = meetsK v u := by unfold meetsV meetsK; rw [right_K, right_K]
theorem beg1 : ivDiv ⟨mkS 1 0, mkS 1 0⟩ ⟨mkS 3 0, mkS 3 0⟩ 2 = (⟨⟨false, [1], -2⟩, ⟨false, [3], -3⟩⟩, 0) := by
  rw [ivDiv_K, mkS_K, mkS_K]; kernel_rfl
theorem beg2 : ivAdd ⟨mkS 1 0, mkS 2 0⟩ ⟨mkS 3 0, mkS 3 0⟩ 2 = (⟨⟨false, [1], 2⟩, ⟨false, [3], 1⟩⟩, 0) := by
  rw [ivAdd_K, mkS_K, mkS_K, mkS_K]; kernel_rfl
theorem beg3 : (⟨mkS 4 0, mkS 6 0⟩ : Vx) = ⟨⟨false, [1], 2⟩, ⟨false, [3], 1⟩⟩ := by
  rw [mkS_K, mkS_K]; kernel_rfl
theorem beg4 : signV ⟨⟨false, [1], 2⟩, ⟨false, [3], 1⟩⟩ = (1, true) := by rw [sign_K]; kernel_rfl
theorem beg5 : meetsV ⟨⟨false, [1], -2⟩, ⟨false, [3], -3⟩⟩ ⟨⟨false, [1], -2⟩, ⟨false, [3], -3⟩⟩ = true := by rw [meets_K]; kernel_rfl
end Go.Proofs.YtmfmneanmamjbaaDoor

namespace Go.Proofs.YtmfmneanmamjbaaDoor
open Go.RowKit
theorem gTurn_ok : SpecOk Tryd.prog 17 gTurn :=
  specKW_ok (envOk tys2_ok sG2_ok) mixed Tryd.func17 rfl (by decide) (by decide) fun (k : Int) _ (v : Vx) _ (u : Vx) _ (n : Int) _ hp => ⟨fun _ => none, 0, by
    obtain ⟨k0, k1⟩ : 0 ≤ k ∧ k ≤ 3 := hp
    have hk : k = 0 ∨ k = 1 ∨ k = 2 ∨ k = 3 := by omega
    show execF _ _ _ _ _ (Qw (turnR k v u n))
    rcases hk with rfl | rfl | rfl | rfl
    · rw [show turnR 0 v u n = ivNeg v from rfl]
      refine (gTurn0_vc v u n _).mpr (br_intro (fun h => when_false (not_true h)) fun h => ⟨⟨(right_sm (not_false' h)).1.eB (by omega), (right_sm (not_false' h)).2.eB (by omega)⟩, when_true (not_false' h)⟩)
    · rw [show turnR 1 v u n = ivScale v n from rfl]
      refine (gTurn1_vc v u n _).mpr (br_intro (fun h => when_false (by rw [not_true h, Bool.and_false])) fun h => br_intro (fun h1 => when_false (by rw [lt_not h1]; rfl)) fun h1 => br_intro (fun h2 => when_false (by rw [lt_not h2, Bool.and_false]; rfl)) fun h2 => ?_)
      have a1 := leI_true.1 (nlt_le h1)
      have a2 := leI_true.1 (nlt_le h2)
      exact ⟨⟨(right_sm (not_false' h)).1.eB (by omega), (right_sm (not_false' h)).2.eB (by omega), by omega, by omega⟩, when_true (by rw [nlt_le h1, nlt_le h2, not_false' h]; rfl)⟩
    · rw [show turnR 2 v u n = ivJoin v u from rfl]
      refine (gTurn2_vc v u n _).mpr (br_intro (fun h => when_false (by rw [not_true h]; rfl)) fun h => br_intro (fun h1 => when_false (by rw [not_true h1, Bool.and_false])) fun h1 => ⟨⟨right_sm (not_false' h), right_sm (not_false' h1)⟩, when_true (by rw [not_false' h, not_false' h1]; rfl)⟩)
    · rw [show turnR 3 v u n = ivCut v n from rfl]
      refine (gTurn3_vc v u n _).mpr (br_intro (fun h => when_false (by rw [not_true h, Bool.and_false])) fun h => br_intro (fun h1 => when_false (by rw [lt_not h1]; rfl)) fun h1 => br_intro (fun h2 => when_false (by rw [lt_not h2, Bool.and_false]; rfl)) fun h2 => ?_)
      have a1 := leI_true.1 (nlt_le h1)
      have a2 := leI_true.1 (nlt_le h2)
      exact ⟨⟨(right_sm (not_false' h)).mono (by omega), by omega, by omega⟩, when_true (by rw [nlt_le h1, nlt_le h2, not_false' h]; rfl)⟩⟩
def sL1 : List (FuncId × Spec) := [(52, fCopy), (17, gTurn)] ++ (sIval ++ sG2)
theorem sL1_ok : SpecsOk Tryd.prog sL1 := ⟨fCopy_ok, gTurn_ok, SpecsOk.app (l := sIval) sIval_ok sG2_ok⟩
def gCopy : Spec := specK [.v] fun (v : Vx) => (none, vT v)
theorem gCopy_vc (v : Vx) (Q : Tv → Prop) : execF ⟨tys2, sL1⟩ (fun _ => none) 0 Tryd.f13 [.agg (ivL false v)] Q = (true = true ∧ Q (Tv.sv (Sv.agg (ivL true v)))) := by kernel_rfl
theorem gCopy_ok : SpecOk Tryd.prog 13 gCopy :=
  specK_ok (envOk tys2_ok sL1_ok) mixed Tryd.func13 rfl (by decide) (by decide) fun (v : Vx) _ _ => ⟨fun _ => none, 0, (gCopy_vc v _).mpr ⟨rfl, rfl⟩⟩
def lTurn : Spec := specK [.i .i64, .v, .v, .i .i64] fun (k : Int) (v : Vx) (u : Vx) (n : Int) => (some (0 ≤ k ∧ k ≤ 3), reT (turnR k v u n))
theorem lTurn0_vc (v u : Vx) (n : Int) (Q : Tv → Prop) : execF ⟨tys2, sL1⟩ (fun _ => none) 0 Tryd.f26 [.one (.int .i64 0), .agg (ivL false v), .agg (ivL false u), .one (.int .i64 n)] Q = (Q (Tv.tup [Sv.agg (ivL false (ivNeg v).fst), Sv.one (At.int IntKind.i64 (ivNeg v).snd)])) := by kernel_rfl
theorem lTurn1_vc (v u : Vx) (n : Int) (Q : Tv → Prop) : execF ⟨tys2, sL1⟩ (fun _ => none) 0 Tryd.f26 [.one (.int .i64 1), .agg (ivL false v), .agg (ivL false u), .one (.int .i64 n)] Q = (Q (Tv.tup [Sv.agg (ivL false (ivScale v n).fst), Sv.one (At.int IntKind.i64 (ivScale v n).snd)])) := by kernel_rfl
theorem lTurn2_vc (v u : Vx) (n : Int) (Q : Tv → Prop) : execF ⟨tys2, sL1⟩ (fun _ => none) 0 Tryd.f26 [.one (.int .i64 2), .agg (ivL false v), .agg (ivL false u), .one (.int .i64 n)] Q = (Q (Tv.tup [Sv.agg (ivL false (ivJoin v u).fst), Sv.one (At.int IntKind.i64 (ivJoin v u).snd)])) := by kernel_rfl
theorem lTurn3_vc (v u : Vx) (n : Int) (Q : Tv → Prop) : execF ⟨tys2, sL1⟩ (fun _ => none) 0 Tryd.f26 [.one (.int .i64 3), .agg (ivL false v), .agg (ivL false u), .one (.int .i64 n)] Q = (Q (Tv.tup [Sv.agg (ivL false (ivCut v n).fst), Sv.one (At.int IntKind.i64 (ivCut v n).snd)])) := by kernel_rfl
theorem lTurn_ok : SpecOk Tryd.prog 26 lTurn :=
  specK_ok (envOk tys2_ok sL1_ok) mixed Tryd.func26 rfl (by decide) (by decide) fun (k : Int) _ (v : Vx) _ (u : Vx) _ (n : Int) _ hp => ⟨fun _ => none, 0, by
    obtain ⟨k0, k1⟩ : 0 ≤ k ∧ k ≤ 3 := hp
    have hk : k = 0 ∨ k = 1 ∨ k = 2 ∨ k = 3 := by omega
    rcases hk with rfl | rfl | rfl | rfl
    · exact (lTurn0_vc v u n _).mpr rfl
    · exact (lTurn1_vc v u n _).mpr rfl
    · exact (lTurn2_vc v u n _).mpr rfl
    · exact (lTurn3_vc v u n _).mpr rfl⟩
def lBeg : Spec := specK [] (none, bT true)
def wI (f : Int → Dx) : Spec := specK [.i .i64] fun (n : Int) => (some (inR n), dT (f n))
def wVV (f : Vx → Vx → Int → Vx × Int) : Spec := specK [.v, .v, .i .i64] fun (v : Vx) (u : Vx) (p : Int) => (none, reT (f v u p))
def wB (f : Vx → Vx → Bool) : Spec := specK [.v, .v] fun (v : Vx) (u : Vx) => (none, bT (f v u))
def wS (f : Vx → Int × Bool) : Spec := specK [.v] fun (v : Vx) => (none, sgT (f v))
def sBeg (fI : Int → Dx) (fD fA : Vx → Vx → Int → Vx × Int) (fS fM : Vx → Vx → Bool) (fG : Vx → Int × Bool) : List (FuncId × Spec) :=
  [(51, wI fI), (44, wVV fD), (14, wVV fA), (18, wB fS), (28, wB fM), (25, wS fG)]
theorem sBeg_ok : SpecsOk Tryd.prog (sBeg (fun n => mkS n 0) ivDiv ivAdd sameV meetsV signV) := ⟨fInt_ok, vXDiv_ok, vXAdd_ok, gSame_ok, vMe_ok, vSi_ok, trivial⟩
theorem lBeg_vc (fI : Int → Dx) (fD fA : Vx → Vx → Int → Vx × Int) (fS fM : Vx → Vx → Bool) (fG : Vx → Int × Bool) (Q : Tv → Prop) : execF ⟨tys2, sBeg fI fD fA fS fM fG⟩ (fun _ => none) 0 Tryd.f12 [] Q = (inR (1 : Int) ∧ inR (1 : Int) ∧ inR (3 : Int) ∧ inR (3 : Int) ∧ inR (1 : Int) ∧ inR (2 : Int) ∧ true = true ∧ br (eqI (fD (Vx.mk (fI (1 : Int)) (fI (1 : Int))) (Vx.mk (fI (3 : Int)) (fI (3 : Int))) (2 : Int)).snd (0 : Int)) (Words [(1 : Int)] ∧ Words [(3 : Int)] ∧ br (fS (fD (Vx.mk (fI (1 : Int)) (fI (1 : Int))) (Vx.mk (fI (3 : Int)) (fI (3 : Int))) (2 : Int)).fst (Vx.mk (Dx.mk false [(1 : Int)] (-2 : Int)) (Dx.mk false [(3 : Int)] (-3 : Int)))) (br (eqI (fA (Vx.mk (fI (1 : Int)) (fI (2 : Int))) (Vx.mk (fI (3 : Int)) (fI (3 : Int))) (2 : Int)).snd (0 : Int)) (inR (4 : Int) ∧ inR (6 : Int) ∧ br (fS (fA (Vx.mk (fI (1 : Int)) (fI (2 : Int))) (Vx.mk (fI (3 : Int)) (fI (3 : Int))) (2 : Int)).fst (Vx.mk (fI (4 : Int)) (fI (6 : Int)))) (br (fG (fA (Vx.mk (fI (1 : Int)) (fI (2 : Int))) (Vx.mk (fI (3 : Int)) (fI (3 : Int))) (2 : Int)).fst).snd (br (eqI (fG (fA (Vx.mk (fI (1 : Int)) (fI (2 : Int))) (Vx.mk (fI (3 : Int)) (fI (3 : Int))) (2 : Int)).fst).fst (1 : Int)) (true = true ∧ Q (Tv.sv (Sv.one (At.bool (fM (fD (Vx.mk (fI (1 : Int)) (fI (1 : Int))) (Vx.mk (fI (3 : Int)) (fI (3 : Int))) (2 : Int)).fst (fD (Vx.mk (fI (1 : Int)) (fI (1 : Int))) (Vx.mk (fI (3 : Int)) (fI (3 : Int))) (2 : Int)).fst))))) (true = true ∧ Q (Tv.sv (Sv.one (At.bool false))))) (true = true ∧ Q (Tv.sv (Sv.one (At.bool false))))) (true = true ∧ Q (Tv.sv (Sv.one (At.bool false))))) (true = true ∧ Q (Tv.sv (Sv.one (At.bool false))))) (true = true ∧ Q (Tv.sv (Sv.one (At.bool false))))) (true = true ∧ Q (Tv.sv (Sv.one (At.bool false))))) := by kernel_rfl
theorem br_t {b : Bool} {p q : Prop} (h : b = true) (hp : p) : br b p q := by subst h; exact hp
theorem lBeg_ok : SpecOk Tryd.prog 12 lBeg :=
  specK_ok (envOk tys2_ok sBeg_ok) mixed Tryd.func12 rfl (by decide) (by decide) fun _ => ⟨fun _ => none, 0, by
    show execF _ _ _ _ _ (fun t => t = bT true)
    refine (lBeg_vc _ _ _ _ _ _ _).mpr ?_
    simp only [beg1, beg2, beg3, beg4, beg5]
    exact ⟨⟨by decide, by decide⟩, ⟨by decide, by decide⟩, ⟨by decide, by decide⟩, ⟨by decide, by decide⟩, ⟨by decide, by decide⟩, ⟨by decide, by decide⟩, trivial, br_t rfl ⟨by simp [Words, Word], by simp [Words, Word], br_t rfl (br_t rfl ⟨⟨by decide, by decide⟩, ⟨by decide, by decide⟩, br_t rfl (br_t rfl (br_t rfl ⟨trivial, trivial⟩))⟩)⟩⟩⟩
def sL2 : List (FuncId × Spec) := [(13, gCopy), (26, lTurn), (12, lBeg)] ++ sL1
theorem sL2_ok : SpecsOk Tryd.prog sL2 := ⟨gCopy_ok, lTurn_ok, lBeg_ok, sL1_ok⟩
def lForms : Spec := specK [.v, .d] fun (_ : Vx) (_ : Dx) => (none, bT true)
theorem lForms_vc (v : Vx) (d : Dx) (Q : Tv → Prop) : execF ⟨tys2, sL2⟩ (fun _ => none) 0 Tryd.f4 [.agg (ivL false v), .agg (dyL false d)] Q = (br (sameV (ivCanon v).fst (ivCanon v).fst) (br (eqI (ivCanon v).snd (ivCanon v).snd) (br (sameV (ivPoint d).fst (Vx.mk (canonD d).fst (canonD d).fst)) (br (eqI (ivPoint d).snd (canonD d).snd) (br (eqI (checkR v) (0 : Int) == rightV v) (br (rightV v) (br (sameV v v) (Q (Tv.sv (Sv.one (At.bool true)))) (Q (Tv.sv (Sv.one (At.bool false))))) (br (eqI (checkR v) (2 : Int)) (br (sameV v v) (Q (Tv.sv (Sv.one (At.bool true)))) (Q (Tv.sv (Sv.one (At.bool false))))) (Q (Tv.sv (Sv.one (At.bool false)))))) (Q (Tv.sv (Sv.one (At.bool false))))) (Q (Tv.sv (Sv.one (At.bool false))))) (Q (Tv.sv (Sv.one (At.bool false))))) (Q (Tv.sv (Sv.one (At.bool false))))) (Q (Tv.sv (Sv.one (At.bool false))))) := by kernel_rfl
def lTurns : Spec := specK [.v, .v, .i .i64] fun (_ : Vx) (_ : Vx) (_ : Int) => (none, bT true)
def wT4 (f : Int → Vx → Vx → Int → Vx × Int) : Spec := specK [.i .i64, .v, .v, .i .i64] fun (k : Int) (v : Vx) (u : Vx) (n : Int) => (some (0 ≤ k ∧ k ≤ 3), reT (f k v u n))
def sTu (fT : Int → Vx → Vx → Int → Vx × Int) (fS : Vx → Vx → Bool) : List (FuncId × Spec) := [(26, wT4 fT), (17, wT4 fT), (18, wB fS), (12, lBeg)]
theorem sTu_ok : SpecsOk Tryd.prog (sTu turnR sameV) := ⟨lTurn_ok, gTurn_ok, gSame_ok, lBeg_ok, trivial⟩
theorem lTurns_vc (fT : Int → Vx → Vx → Int → Vx × Int) (fS : Vx → Vx → Bool) (v u : Vx) (n : Int) (Q : Tv → Prop) : execF ⟨tys2, sTu fT fS⟩ (fun _ => none) 5 Tryd.f6 [.agg (ivL false v), .agg (ivL false u), .one (.int .i64 n)] Q = (((0 : Int) ≤ (0 : Int) ∧ (0 : Int) ≤ (3 : Int)) ∧ ((0 : Int) ≤ (0 : Int) ∧ (0 : Int) ≤ (3 : Int)) ∧ br (!fS (fT (0 : Int) v u n).fst (fT (0 : Int) v u n).fst) (Q (Tv.sv (Sv.one (At.bool false)))) (br (neI (fT (0 : Int) v u n).snd (fT (0 : Int) v u n).snd) (Q (Tv.sv (Sv.one (At.bool false)))) (inR ((0 : Int) + (1 : Int)) ∧ ((0 : Int) ≤ (0 : Int) + (1 : Int) ∧ (0 : Int) + (1 : Int) ≤ (3 : Int)) ∧ ((0 : Int) ≤ (0 : Int) + (1 : Int) ∧ (0 : Int) + (1 : Int) ≤ (3 : Int)) ∧ br (!fS (fT ((0 : Int) + (1 : Int)) v u n).fst (fT ((0 : Int) + (1 : Int)) v u n).fst) (Q (Tv.sv (Sv.one (At.bool false)))) (br (neI (fT ((0 : Int) + (1 : Int)) v u n).snd (fT ((0 : Int) + (1 : Int)) v u n).snd) (Q (Tv.sv (Sv.one (At.bool false)))) (inR ((0 : Int) + (1 : Int) + (1 : Int)) ∧ ((0 : Int) ≤ (0 : Int) + (1 : Int) + (1 : Int) ∧ (0 : Int) + (1 : Int) + (1 : Int) ≤ (3 : Int)) ∧ ((0 : Int) ≤ (0 : Int) + (1 : Int) + (1 : Int) ∧ (0 : Int) + (1 : Int) + (1 : Int) ≤ (3 : Int)) ∧ br (!fS (fT ((0 : Int) + (1 : Int) + (1 : Int)) v u n).fst (fT ((0 : Int) + (1 : Int) + (1 : Int)) v u n).fst) (Q (Tv.sv (Sv.one (At.bool false)))) (br (neI (fT ((0 : Int) + (1 : Int) + (1 : Int)) v u n).snd (fT ((0 : Int) + (1 : Int) + (1 : Int)) v u n).snd) (Q (Tv.sv (Sv.one (At.bool false)))) (inR ((0 : Int) + (1 : Int) + (1 : Int) + (1 : Int)) ∧ ((0 : Int) ≤ (0 : Int) + (1 : Int) + (1 : Int) + (1 : Int) ∧ (0 : Int) + (1 : Int) + (1 : Int) + (1 : Int) ≤ (3 : Int)) ∧ ((0 : Int) ≤ (0 : Int) + (1 : Int) + (1 : Int) + (1 : Int) ∧ (0 : Int) + (1 : Int) + (1 : Int) + (1 : Int) ≤ (3 : Int)) ∧ br (!fS (fT ((0 : Int) + (1 : Int) + (1 : Int) + (1 : Int)) v u n).fst (fT ((0 : Int) + (1 : Int) + (1 : Int) + (1 : Int)) v u n).fst) (Q (Tv.sv (Sv.one (At.bool false)))) (br (neI (fT ((0 : Int) + (1 : Int) + (1 : Int) + (1 : Int)) v u n).snd (fT ((0 : Int) + (1 : Int) + (1 : Int) + (1 : Int)) v u n).snd) (Q (Tv.sv (Sv.one (At.bool false)))) (inR ((0 : Int) + (1 : Int) + (1 : Int) + (1 : Int) + (1 : Int)) ∧ Q (Tv.sv (Sv.one (At.bool true)))))))))))) := by kernel_rfl
def lTells : Spec := specK [.v, .v, .d, .i .i64] fun (_ : Vx) (_ : Vx) (_ : Dx) (_ : Int) => (none, bT true)
theorem lTells_vc (v u : Vx) (d : Dx) (p : Int) (Q : Tv → Prop) : execF ⟨tys2, sL2⟩ (fun _ => none) 0 Tryd.f7 [.agg (ivL false v), .agg (ivL false u), .agg (dyL false d), .one (.int .i64 p)] Q = (br (meetsV v u == meetsV v u) (br (withinV v u == withinV v u) (br (hasV v d == hasV v d) (br (narrowB v p == narrowB v p) (br (eqI (signV v).fst (signV v).fst) (br ((signV v).snd == (signV v).snd) (true = true ∧ Q (Tv.sv (Sv.one (At.bool true)))) (true = true ∧ Q (Tv.sv (Sv.one (At.bool false))))) (true = true ∧ Q (Tv.sv (Sv.one (At.bool false))))) (true = true ∧ Q (Tv.sv (Sv.one (At.bool false))))) (true = true ∧ Q (Tv.sv (Sv.one (At.bool false))))) (true = true ∧ Q (Tv.sv (Sv.one (At.bool false))))) (true = true ∧ Q (Tv.sv (Sv.one (At.bool false))))) := by kernel_rfl
def lNarrow : Spec := specK [.v, .i .i64, .i .i64] fun (_ : Vx) (_ : Int) (_ : Int) => (none, bT true)
theorem lNarrow_vc (v : Vx) (p q : Int) (Q : Tv → Prop) : execF ⟨tys2, sL2⟩ (fun _ => none) 0 Tryd.f5 [.agg (ivL false v), .one (.int .i64 p), .one (.int .i64 q)] Q = (br (ltI p q) (Q (Tv.sv (Sv.one (At.bool true)))) (br (ltI q (0 : Int)) (Q (Tv.sv (Sv.one (At.bool true)))) (br (!narrowB v p) (Q (Tv.sv (Sv.one (At.bool true)))) (br (narrowB v q) (br (signV v).snd (br (leI (-1 : Int) (signV v).fst) (Q (Tv.sv (Sv.one (At.bool (leI (signV v).fst (1 : Int)))))) (Q (Tv.sv (Sv.one (At.bool false))))) (Q (Tv.sv (Sv.one (At.bool false))))) (Q (Tv.sv (Sv.one (At.bool false)))))))) := by kernel_rfl
theorem sameD_refl (d : Dx) : sameD d d = true := by simp [sameD, eqI]
theorem sameV_refl (v : Vx) : sameV v v = true := by rw [sameV, sameD_refl, sameD_refl]; rfl
theorem sameD_iff {a b : Dx} : sameD a b = true ↔ a = b := by
  constructor
  · intro h
    simp [sameD, eqI] at h
    obtain ⟨n, x, e⟩ := a
    obtain ⟨n', x', e'⟩ := b
    simp_all
  · rintro rfl; exact sameD_refl a
theorem sameV_iff {a b : Vx} : sameV a b = true ↔ a = b := by
  constructor
  · intro h
    rw [sameV, Bool.and_eq_true, sameD_iff, sameD_iff] at h
    obtain ⟨x, y⟩ := a
    obtain ⟨x', y'⟩ := b
    simp_all
  · rintro rfl; exact sameV_refl a
theorem eqI_refl (n : Int) : eqI n n = true := eqI_true.2 rfl
theorem neI_refl (n : Int) : neI n n = false := neI_false.2 rfl
theorem br_f {b : Bool} {p q : Prop} (h : b = false) (hp : q) : br b p q := by subst h; exact hp
theorem point_canon (d : Dx) : (ivPoint d).fst = ⟨(canonD d).fst, (canonD d).fst⟩ ∧ (ivPoint d).snd = (canonD d).snd := by
  unfold ivPoint canonD whenR
  by_cases h : d.fitsB = true
  · rw [if_pos h, if_pos h]
    unfold roomR roomD pointV
    by_cases k : (oneD d).fitsB = true
    · rw [if_pos k, if_pos (by rw [k]; rfl)]; exact ⟨rfl, rfl⟩
    · have k' : (oneD d).fitsB = false := by simpa using k
      rw [if_neg k, if_neg (by simp only [k']; simp)]; exact ⟨rfl, rfl⟩
  · rw [if_neg h, if_neg h]; exact ⟨rfl, rfl⟩
theorem lForms_ok : SpecOk Tryd.prog 4 lForms :=
  specK_ok (envOk tys2_ok sL2_ok) mixed Tryd.func4 rfl (by decide) (by decide) fun (v : Vx) _ (d : Dx) _ _ => ⟨fun _ => none, 0, by
    show execF _ _ _ _ _ (fun t => t = bT true)
    obtain ⟨e1, e2⟩ := point_canon d
    refine (lForms_vc v d _).mpr (br_t (sameV_refl _) (br_t (eqI_refl _) (br_t (by rw [e1]; exact sameV_refl _) (br_t (by rw [e2]; exact eqI_refl _) ?_))))
    cases h : rightV v with
    | true => exact br_t (by rw [checkR, if_pos h]; rfl) (br_t rfl (br_t (sameV_refl _) rfl))
    | false => exact br_t (by rw [checkR, if_neg (by rw [h]; simp)]; rfl) (br_f rfl (br_t (by rw [checkR, if_neg (by rw [h]; simp)]; rfl) (br_t (sameV_refl _) rfl)))⟩
theorem not_same {v : Vx} : (!sameV v v) = false := by rw [sameV_refl]; rfl
theorem lTurns_ok : SpecOk Tryd.prog 6 lTurns :=
  specK_ok (envOk tys2_ok sTu_ok) mixed Tryd.func6 rfl (by decide) (by decide) fun (v : Vx) _ (u : Vx) _ (n : Int) _ _ => ⟨fun _ => none, 5, by
    show execF _ _ _ _ _ (fun t => t = bT true)
    refine (lTurns_vc turnR sameV v u n _).mpr ⟨⟨by omega, by omega⟩, ⟨by omega, by omega⟩, br_f not_same (br_f (neI_refl _) ⟨⟨by omega, by omega⟩, ⟨by omega, by omega⟩, ⟨by omega, by omega⟩, br_f not_same (br_f (neI_refl _) ⟨⟨by omega, by omega⟩, ⟨by omega, by omega⟩, ⟨by omega, by omega⟩, br_f not_same (br_f (neI_refl _) ⟨⟨by omega, by omega⟩, ⟨by omega, by omega⟩, ⟨by omega, by omega⟩, br_f not_same (br_f (neI_refl _) ⟨⟨by omega, by omega⟩, rfl⟩)⟩)⟩)⟩)⟩⟩
theorem lTells_ok : SpecOk Tryd.prog 7 lTells :=
  specK_ok (envOk tys2_ok sL2_ok) mixed Tryd.func7 rfl (by decide) (by decide) fun (v : Vx) _ (u : Vx) _ (d : Dx) _ (p : Int) _ _ => ⟨fun _ => none, 0, by
    show execF _ _ _ _ _ (fun t => t = bT true)
    exact (lTells_vc v u d p _).mpr (br_t (beq_self_eq_true _) (br_t (beq_self_eq_true _) (br_t (beq_self_eq_true _) (br_t (beq_self_eq_true _) (br_t (eqI_refl _) (br_t (beq_self_eq_true _) ⟨rfl, rfl⟩))))))⟩
theorem narrow_facts {v : Vx} {p : Int} (hv : v.P) (h : narrowB v p = true) : 0 ≤ p ∧ rightV v = true ∧ v.lo.sgn = v.hi.sgn ∧
    (v.lo.sgn = 0 ∨ (lessD v.hi v.lo).zeroB = true ∨ ((lessD v.hi v.lo).zeroB = false ∧ v.lo.sgn ≠ 0 ∧ p2 (-32768) ≤ (lessD v.hi v.lo).rv ∧ (if v.lo.sgn < 0 then absD v.hi else absD v.lo).rv < p2 98304 ∧ (lessD v.hi v.lo).rv * p2 p ≤ (if v.lo.sgn < 0 then absD v.hi else absD v.lo).rv)) := by
  unfold narrowB at h
  simp only [Bool.and_eq_true] at h
  obtain ⟨p0, hr, hn⟩ := h
  have fv := right_fits hr
  refine ⟨leI_true.1 p0, hr, ?_⟩
  unfold narrowV at hn
  by_cases h1 : v.lo.sgn = v.hi.sgn
  · refine ⟨h1, ?_⟩
    rw [if_neg (by omega)] at hn
    by_cases h2 : v.lo.sgn = 0
    · exact .inl h2
    · rw [if_neg h2] at hn
      cases h3 : (lessD v.hi v.lo).zeroB with
      | true => exact .inr (.inl rfl)
      | false =>
        rw [h3, if_neg (by simp)] at hn
        have hw := wide_ge hv hr h3
        have hl : (if v.lo.sgn < 0 then absD v.hi else absD v.lo).rv < p2 98304 := by
          split
          · rw [rv_abs hv.2]; exact fits_lt fv.2.1
          · rw [rv_abs hv.1]; exact fits_lt fv.1
        refine .inr (.inr ⟨rfl, h2, hw, hl, ?_⟩)
        rw [narrowX_eq lessD_p (by split <;> exact absD_p) hw hl, decide_eq_true_eq] at hn
        exact hn
  · rw [if_pos h1] at hn; simp at hn
theorem narrow_less {v : Vx} {p q : Int} (hv : v.P) (h : narrowB v p = true) (q0 : 0 ≤ q) (hq : q ≤ p) : narrowB v q = true := by
  obtain ⟨p0, hr, hs, hc⟩ := narrow_facts hv h
  unfold narrowB
  rw [show leI 0 q = true from leI_true.2 q0, hr]
  unfold narrowV
  rw [if_neg (by omega)]
  rcases hc with h2 | h2 | ⟨h2, h3, hw, hl, hn⟩
  · rw [if_pos h2]; rfl
  · rw [h2]; simp
  · rw [if_neg h3, h2, if_neg (by simp), narrowX_eq lessD_p (by split <;> exact absD_p) hw hl]
    have k := p2_le hq
    have w0 : 0 ≤ (lessD v.hi v.lo).rv := by have := p2_pos (-32768); grind
    have := Rat.mul_le_mul_of_nonneg_left k w0
    rw [decide_eq_true (by grind)]; rfl
theorem signV_eq {v : Vx} (hr : rightV v = true) (hs : v.lo.sgn = v.hi.sgn) : signV v = (v.lo.sgn, true) := by
  rw [signV, if_pos hr, ← hs]
  rcases sgn_cases (d := v.lo) with a | a | a <;> rw [a] <;> rfl
theorem lNarrow_ok : SpecOk Tryd.prog 5 lNarrow :=
  specK_ok (envOk tys2_ok sL2_ok) mixed Tryd.func5 rfl (by decide) (by decide) fun (v : Vx) hv (p : Int) _ (q : Int) _ _ => ⟨fun _ => none, 0, by
    have hv := Vx.Wf.p hv
    show execF _ _ _ _ _ (fun t => t = bT true)
    refine (lNarrow_vc v p q _).mpr (br_intro (fun _ => rfl) fun h1 => br_intro (fun _ => rfl) fun h2 => br_intro (fun _ => rfl) fun h3 => ?_)
    have h1 := ltI_false.1 h1
    have h2 := ltI_false.1 h2
    have h3 := not_false' h3
    obtain ⟨p0, hr, hs, _⟩ := narrow_facts hv h3
    rw [signV_eq hr hs]
    refine br_t (narrow_less hv h3 (by omega) (by omega)) (br_t rfl ?_)
    rcases sgn_cases (d := v.lo) with a | a | a <;> rw [a] <;> exact br_t (by decide) rfl⟩
end Go.Proofs.YtmfmneanmamjbaaDoor

namespace Go.Proofs.YtmfmneanmamjbaaDoor
open Go.RowKit
/-- A number of at most p bits. -/
def Rp (p : Int) (x : Rat) : Prop := ∃ s e : Int, x = (s : Rat) * p2 e ∧ (s : Rat) < p2 p ∧ -(p2 p) < (s : Rat)
/-- The greatest of p bits that is not above q; the least that is not below it. -/
def Dn (p : Int) (q r : Rat) : Prop := Rp p r ∧ r ≤ q ∧ ∀ t, Rp p t → t ≤ q → t ≤ r
def Up (p : Int) (q r : Rat) : Prop := Rp p r ∧ q ≤ r ∧ ∀ t, Rp p t → q ≤ t → r ≤ t
theorem Rp.neg {p : Int} {x : Rat} : Rp p x → Rp p (-x)
  | ⟨s, e, h, h1, h2⟩ => ⟨-s, e, by rw [h, Rat.intCast_neg, Rat.neg_mul], by rw [Rat.intCast_neg]; grind, by rw [Rat.intCast_neg]; grind⟩
theorem Rp.mono {p p' : Int} {x : Rat} (h : p ≤ p') : Rp p x → Rp p' x
  | ⟨s, e, h0, h1, h2⟩ => by have := p2_le h; exact ⟨s, e, h0, by grind, by grind⟩
theorem Rp.zero (p : Int) : Rp p 0 := by have := p2_pos p; exact ⟨0, 0, by simp, by simpa using this, by simp; grind⟩
theorem Up.neg {p : Int} {q r : Rat} (h : Up p q r) : Dn p (-q) (-r) :=
  ⟨h.1.neg, by have := h.2.1; grind, fun t ht hq => by have := h.2.2 (-t) ht.neg (by grind); grind⟩
theorem Dn.neg {p : Int} {q r : Rat} (h : Dn p q r) : Up p (-q) (-r) :=
  ⟨h.1.neg, by have := h.2.1; grind, fun t ht hq => by have := h.2.2 (-t) ht.neg (by grind); grind⟩
theorem Dn.mono {p : Int} {q q' r r' : Rat} (h : Dn p q r) (h' : Dn p q' r') (hq : q ≤ q') : r ≤ r' := h'.2.2 r h.1 (by have := h.2.1; grind)
theorem Up.mono {p : Int} {q q' r r' : Rat} (h : Up p q r) (h' : Up p q' r') (hq : q ≤ q') : r ≤ r' := h.2.2 r' h'.1 (by have := h'.2.1; grind)
theorem Dn.more {p p' : Int} {q r r' : Rat} (h : Dn p q r) (h' : Dn p' q r') (hp : p ≤ p') : r ≤ r' := h'.2.2 r (h.1.mono hp) h.2.1
theorem Up.more {p p' : Int} {q r r' : Rat} (h : Up p q r) (h' : Up p' q r') (hp : p ≤ p') : r' ≤ r := h'.2.2 r (h.1.mono hp) h.2.1
theorem Dn.uniq {p : Int} {q r r' : Rat} (h : Dn p q r) (h' : Dn p q r') : r = r' := Rat.le_antisymm (h.mono h' (by grind)) (h'.mono h (by grind))
theorem Up.uniq {p : Int} {q r r' : Rat} (h : Up p q r) (h' : Up p q r') : r = r' := Rat.le_antisymm (h.mono h' (by grind)) (h'.mono h (by grind))
theorem Dn.self {p : Int} {q : Rat} (h : Rp p q) : Dn p q q := ⟨h, by grind, fun _ _ h => h⟩
theorem Up.self {p : Int} {q : Rat} (h : Rp p q) : Up p q q := ⟨h, by grind, fun _ _ h => h⟩
theorem rp_grid {p j : Int} {t : Rat} (ht : Rp p t) (h : p2 (j + p - 1) ≤ t) : Mul2 j t := by
  obtain ⟨s, e, rfl, h1, h2⟩ := ht
  have h3 : p2 (j + p - 1) < p2 (p + e) := by
    rw [p2_add p e]
    have := (Rat.mul_lt_mul_right (p2_pos e)).2 h1
    grind
  have h4 := p2_lt_iff.1 h3
  exact ⟨s * 2 ^ (e - j).toNat, by rw [Rat.intCast_mul, ← p2_toNat (by omega), Rat.mul_assoc, p2_sub]⟩
theorem cast_lt {a b : Int} : (a : Rat) < (b : Rat) ↔ a < b := Rat.intCast_lt_intCast
theorem cast_le {a b : Int} : (a : Rat) ≤ (b : Rat) ↔ a ≤ b := Rat.intCast_le_intCast
theorem mul_p2_lt {a b : Rat} (j : Int) : a * p2 j < b * p2 j ↔ a < b := Rat.mul_lt_mul_right (p2_pos j)
theorem mul_p2_le {a b : Rat} (j : Int) : a * p2 j ≤ b * p2 j ↔ a ≤ b := by rw [← Rat.not_lt, ← Rat.not_lt, mul_p2_lt]
theorem Mul2.near {j k : Int} {t : Rat} (h : Mul2 j t) (hl : t < ((k + 1 : Int) : Rat) * p2 j) : t ≤ (k : Rat) * p2 j := by
  obtain ⟨s, rfl⟩ := h
  rw [mul_p2_lt, cast_lt] at hl
  rw [mul_p2_le, cast_le]; omega
theorem dn_grid {p j k : Int} {q : Rat} (hp : 1 ≤ p) (h1 : (k : Rat) * p2 j ≤ q) (h2 : q < ((k + 1 : Int) : Rat) * p2 j) (h3 : p2 (j + p - 1) ≤ q) (h4 : q < p2 (j + p)) : Dn p q ((k : Rat) * p2 j) := by
  have e1 : p2 (j + p) = p2 p * p2 j := by rw [Int.add_comm, p2_add]
  have e2 : p2 (j + p - 1) = ((2 ^ (p - 1).toNat : Int) : Rat) * p2 j := by rw [← p2_toNat (by omega), ← p2_add]; congr 1; omega
  have k1 : (k : Rat) < p2 p := by rw [← mul_p2_lt j, ← e1]; grind
  have k2 : (2 : Int) ^ (p - 1).toNat < k + 1 := by rw [← cast_lt, ← mul_p2_lt j, ← e2]; grind
  have k3 := two_pow_pos (p - 1).toNat
  have k4 : (0 : Rat) ≤ (k : Rat) := by rw [show (0 : Rat) = ((0 : Int) : Rat) from rfl, cast_le]; omega
  have p0 := p2_pos p
  refine ⟨⟨k, j, rfl, k1, by grind⟩, h1, fun t ht hq => ?_⟩
  by_cases hc : p2 (j + p - 1) ≤ t
  · exact (rp_grid ht hc).near (by grind)
  · have : ((2 ^ (p - 1).toNat : Int) : Rat) * p2 j ≤ (k : Rat) * p2 j := by rw [mul_p2_le, cast_le]; omega
    grind
theorem up_grid {p j k : Int} {q : Rat} (hp : 1 ≤ p) (h1 : ((k - 1 : Int) : Rat) * p2 j < q) (h2 : q ≤ (k : Rat) * p2 j) (h3 : p2 (j + p - 1) ≤ q) (h4 : q ≤ p2 (j + p)) : Up p q ((k : Rat) * p2 j) := by
  have e1 : p2 (j + p) = ((2 ^ p.toNat : Int) : Rat) * p2 j := by rw [← p2_toNat (by omega), ← p2_add]; congr 1; omega
  have k1 : k - 1 < 2 ^ p.toNat := by rw [← cast_lt, ← mul_p2_lt j, ← e1]; grind
  have q0 : 0 < q := by have := p2_pos (j + p - 1); grind
  have k2 : 0 < k := by
    have : ((0 : Int) : Rat) * p2 j < (k : Rat) * p2 j := by rw [show ((0 : Int) : Rat) * p2 j = 0 by simp]; grind
    rwa [mul_p2_lt, cast_lt] at this
  have p0 := p2_pos p
  refine ⟨?_, h2, fun t ht hq => ?_⟩
  · by_cases hk : k = 2 ^ p.toNat
    · refine ⟨1, j + p, by rw [hk, e1]; simp, ?_, ?_⟩
      · have := p2_lt (a := 0) (b := p) (by omega)
        rw [p2_zero] at this; exact this
      · have : ((1 : Int) : Rat) = 1 := rfl
        rw [this]; grind
    · refine ⟨k, j, rfl, ?_, ?_⟩
      · rw [p2_toNat (by omega), cast_lt]; omega
      · have : ((0 : Int) : Rat) < (k : Rat) := cast_lt.2 k2
        have e0 : ((0 : Int) : Rat) = 0 := rfl
        rw [e0] at this; grind
  · obtain ⟨s, rfl⟩ := rp_grid (j := j) ht (by grind)
    have : ((k - 1 : Int) : Rat) * p2 j < (s : Rat) * p2 j := by grind
    rw [mul_p2_lt, cast_lt] at this
    rw [mul_p2_le, cast_le]; omega
theorem rp_small {s e p : Int} (h0 : 0 ≤ s) (h : (blen s : Int) ≤ p) : Rp p ((s : Rat) * p2 e) := by
  refine ⟨s, e, rfl, ?_, ?_⟩
  · rw [p2_toNat (by omega), cast_lt]
    have := blen_lt s
    have := two_pow_le (j := blen s) (k := p.toNat) (by omega)
    omega
  · have := p2_pos p
    have : ((0 : Int) : Rat) ≤ (s : Rat) := cast_le.2 h0
    have e0 : ((0 : Int) : Rat) = 0 := rfl
    rw [e0] at this; grind
/-- A number cut to p bits, its amount not even where bits are lost. -/
theorem cutX_best {x : Dx} {p : Int} (hx : 0 ≤ x.m) (hodd : x.m ≠ 0 → x.m % 2 = 1) (hp : 1 ≤ p) : Dn p x.rv (cutX x p false).rv ∧ Up p x.rv (cutX x p true).rv := by
  unfold cutX
  by_cases hn : (blen x.m : Int) - p ≤ 0
  · rw [if_pos hn, if_pos hn]
    have hr : Rp p x.rv := by
      have := rp_small (e := x.e) hx (show (blen x.m : Int) ≤ p by omega)
      rcases (show 0 ≤ x.rv ∨ x.rv ≤ 0 by grind) with h | h
      · rw [(rv_amt hx).1 h]; exact this
      · have e := (rv_amt hx).2 h
        rw [show x.rv = -((x.m : Rat) * p2 x.e) by grind]; exact this.neg
    exact ⟨.self hr, .self hr⟩
  · rw [if_neg hn, if_neg hn]
    obtain ⟨n, hN⟩ : ∃ n : Int, (blen x.m : Int) - p = n := ⟨_, rfl⟩
    rw [hN] at hn ⊢
    have hm : 0 < x.m := by
      by_cases hz : x.m = 0
      · rw [hz] at hN; simp [blen] at hN; omega
      · omega
    have hp2 := two_pow_pos n.toNat
    have hev : (2 : Int) ^ n.toNat = 2 * 2 ^ (n.toNat - 1) := by
      obtain ⟨k, hk⟩ : ∃ k, n.toNat = k + 1 := ⟨n.toNat - 1, by omega⟩
      rw [hk, Int.pow_succ, Nat.add_sub_cancel]; omega
    have d1 := Int.mul_ediv_add_emod x.m (2 ^ n.toNat)
    have d2 := Int.emod_nonneg x.m (show (2 : Int) ^ n.toNat ≠ 0 by omega)
    have d3 := Int.emod_lt_of_pos x.m hp2
    have d4 : x.m % 2 ^ n.toNat ≠ 0 := by
      intro h0
      have h1 := hodd (by omega)
      rw [h0, Int.add_zero, hev, Int.mul_assoc] at d1
      omega
    generalize x.m / 2 ^ n.toNat = k at *
    have k0 : 0 ≤ k := by
      by_cases hk : 0 ≤ k
      · exact hk
      · have : 2 ^ n.toNat * k ≤ 2 ^ n.toNat * (-1) := Int.mul_le_mul_of_nonneg_left (by omega) (by omega)
        omega
    have eq1 : (x.m : Rat) * p2 x.e = ((2 ^ n.toNat * k + x.m % 2 ^ n.toNat : Int) : Rat) * p2 x.e := by rw [d1]
    have ej : ∀ c : Int, (c : Rat) * p2 (x.e + n) = ((2 ^ n.toNat * c : Int) : Rat) * p2 x.e := fun c => by
      rw [Int.add_comm, p2_add, p2_toNat (n := n) (by omega), Rat.intCast_mul]; grind
    have b1 : (k : Rat) * p2 (x.e + n) ≤ (x.m : Rat) * p2 x.e := by rw [ej, eq1, mul_p2_le, cast_le]; omega
    have b1' : (k : Rat) * p2 (x.e + n) < (x.m : Rat) * p2 x.e := by rw [ej, eq1, mul_p2_lt, cast_lt]; omega
    have b2 : (x.m : Rat) * p2 x.e < ((k + 1 : Int) : Rat) * p2 (x.e + n) := by rw [ej, eq1, mul_p2_lt, cast_lt, Int.mul_add, Int.mul_one]; omega
    have a1 := amt_ge (e := x.e) hm
    have a2 := amt_lt (m := x.m) (e := x.e)
    rw [show x.e + (blen x.m : Int) - 1 = x.e + n + p - 1 by omega] at a1
    rw [show x.e + (blen x.m : Int) = x.e + n + p by omega] at a2
    have DN := dn_grid hp b1 b2 a1 a2
    have UP := up_grid (k := k + 1) hp (by rw [Int.add_sub_cancel]; exact b1') (Rat.le_of_lt b2) a1 (Rat.le_of_lt a2)
    rw [show ((k + 1 : Int) : Rat) = (k : Rat) + 1 by rw [Rat.intCast_add]; rfl] at UP
    cases hneg : x.neg with
    | false =>
      have e : x.rv = (x.m : Rat) * p2 x.e := by unfold Dx.rv Dx.sm; rw [hneg]; simp
      rw [rv_mkD (by simp; omega), rv_mkD (by simp; omega), e]
      simpa using ⟨DN, UP⟩
    | true =>
      have e : x.rv = -((x.m : Rat) * p2 x.e) := by unfold Dx.rv Dx.sm; rw [hneg]; simp [Rat.neg_mul]
      rw [rv_mkD (by simp; omega), rv_mkD (by simp; omega), e]
      have := UP.neg
      have h2 := DN.neg
      simpa [Rat.neg_mul] using ⟨this, h2⟩
theorem cutD_best {d : Dx} {p : Int} (hd : 0 ≤ d.m) (hp : 1 ≤ p) : Dn p d.rv (cutD d p false).rv ∧ Up p d.rv (cutD d p true).rv := by
  have := cutX_best (x := oneD d) oneD_p (one_odd hd) hp
  rw [rv_one hd] at this
  exact this
end Go.Proofs.YtmfmneanmamjbaaDoor

namespace Go.Proofs.YtmfmneanmamjbaaDoor
open Go.RowKit
/-- Between A and B there is no number of p bits: what is told of one number between them is told of another. -/
theorem Dn.move {p : Int} {A B u v z : Rat} (hA : A < u) (hB : u < B) (hA' : A < v) (hB' : v < B) (hno : ∀ t, Rp p t → A < t → t < B → False) (h : Dn p u z) : Dn p v z := by
  have z1 : z ≤ A := by
    rcases (show z ≤ A ∨ A < z by grind) with h1 | h1
    · exact h1
    · exact (hno z h.1 h1 (by have := h.2.1; grind)).elim
  refine ⟨h.1, by grind, fun t ht hq => ?_⟩
  rcases (show t ≤ A ∨ A < t by grind) with h1 | h1
  · exact h.2.2 t ht (by grind)
  · exact (hno t ht h1 (by grind)).elim
theorem Up.move {p : Int} {A B u v z : Rat} (hA : A < u) (hB : u < B) (hA' : A < v) (hB' : v < B) (hno : ∀ t, Rp p t → A < t → t < B → False) (h : Up p u z) : Up p v z := by
  have z1 : B ≤ z := by
    rcases (show B ≤ z ∨ z < B by grind) with h1 | h1
    · exact h1
    · exact (hno z h.1 (by have := h.2.1; grind) h1).elim
  refine ⟨h.1, by grind, fun t ht hq => ?_⟩
  rcases (show B ≤ t ∨ t < B by grind) with h1 | h1
  · exact h.2.2 t ht (by grind)
  · exact (hno t ht (by grind) h1).elim
theorem no_rp {p E Q : Int} (hQ : (2 : Int) ^ (p - 1).toNat ≤ Q) (hp : 1 ≤ p) {t : Rat} (ht : Rp p t) (h1 : (Q : Rat) * p2 (E + 1) < t) (h2 : t < ((Q + 1 : Int) : Rat) * p2 (E + 1)) : False := by
  have e1 : p2 (E + 1 + p - 1) = ((2 ^ (p - 1).toNat : Int) : Rat) * p2 (E + 1) := by rw [← p2_toNat (by omega), ← p2_add]; congr 1; omega
  have e2 : ((2 ^ (p - 1).toNat : Int) : Rat) * p2 (E + 1) ≤ (Q : Rat) * p2 (E + 1) := by rw [mul_p2_le, cast_le]; exact hQ
  have := (rp_grid (j := E + 1) ht (by grind)).near h2
  grind
theorem two_p2 (E : Int) : p2 (E + 1) = 2 * p2 E := by rw [Int.add_comm, p2_add, p2_one]
theorem sticky_rv (Q : Int) (b : Bool) (E : Int) : ((stickyM Q b : Int) : Rat) * p2 E = (Q : Rat) * p2 (E + 1) + (if b then p2 E else 0) := by
  unfold stickyM
  rw [two_p2, Rat.intCast_add, Rat.intCast_mul]
  have e2 : ((2 : Int) : Rat) = 2 := rfl
  rw [e2]
  cases b <;> simp <;> grind
/-- An amount with a last bit for what is left, cut: the cut of the amount itself. -/
theorem sticky_best {p E Q : Int} {q : Rat} {b : Bool} (hp : 1 ≤ p) (hQ : (2 : Int) ^ (p - 1).toNat ≤ Q) (h1 : b = false → q = (Q : Rat) * p2 (E + 1)) (h2 : b = true → (Q : Rat) * p2 (E + 1) < q ∧ q < ((Q + 1 : Int) : Rat) * p2 (E + 1)) :
    (∀ z, Dn p (((stickyM Q b : Int) : Rat) * p2 E) z → Dn p q z) ∧ (∀ z, Up p (((stickyM Q b : Int) : Rat) * p2 E) z → Up p q z) := by
  rw [sticky_rv]
  cases b with
  | false => simp only [Bool.false_eq_true, if_false, Rat.add_zero]; rw [← h1 rfl]; exact ⟨fun _ h => h, fun _ h => h⟩
  | true =>
    obtain ⟨a1, a2⟩ := h2 rfl
    simp only [if_true]
    have p0 := p2_pos E
    have e1 : ((Q + 1 : Int) : Rat) * p2 (E + 1) = (Q : Rat) * p2 (E + 1) + 2 * p2 E := by
      rw [Rat.intCast_add, two_p2]
      have e2 : ((1 : Int) : Rat) = 1 := rfl
      rw [e2]; grind
    have hno : ∀ t, Rp p t → (Q : Rat) * p2 (E + 1) < t → t < ((Q + 1 : Int) : Rat) * p2 (E + 1) → False := fun t ht k1 k2 => no_rp hQ hp ht k1 k2
    exact ⟨fun z h => h.move (A := (Q : Rat) * p2 (E + 1)) (B := ((Q + 1 : Int) : Rat) * p2 (E + 1)) (by grind) (by grind) a1 a2 hno, fun z h => h.move (A := (Q : Rat) * p2 (E + 1)) (B := ((Q + 1 : Int) : Rat) * p2 (E + 1)) (by grind) (by grind) a1 a2 hno⟩
theorem sm_amt (d : Dx) : d.rv = (if d.neg then -1 else 1) * ((d.m : Rat) * p2 d.e) := by
  unfold Dx.rv Dx.sm
  cases d.neg <;> simp [Rat.neg_mul]
theorem cast_ne {a : Int} (h : 0 < a) : (0 : Rat) < (a : Rat) := by
  have := cast_lt.2 h
  have e0 : ((0 : Int) : Rat) = 0 := rfl
  rwa [e0] at this
theorem over_best {a b : Dx} {p : Int} {q : Rat} (ha : 0 ≤ a.m) (hb : 0 ≤ b.m) (hb0 : b.m ≠ 0) (hp : 1 ≤ p) (hq : q * b.rv = a.rv) : Dn p q (overD a b p false).rv ∧ Up p q (overD a b p true).rv := by
  unfold overD overX
  have m1 := oneD_p (d := a)
  have m2 := oneD_p (d := b)
  have m20 : (oneD b).m ≠ 0 := fun h => hb0 ((mkD_m_zero hb).1 h)
  rw [← rv_one ha, ← rv_one hb] at hq
  generalize oneD a = x at *
  generalize oneD b = y at *
  have ypos : 0 < y.m := by omega
  by_cases hx0 : x.m = 0
  · rw [if_pos hx0, if_pos hx0]
    have e0 : x.rv = 0 := rv_zero hx0
    have y0 : y.rv ≠ 0 := by
      rw [sm_amt]
      have := Rat.mul_pos (cast_ne ypos) (p2_pos y.e)
      cases y.neg <;> simp <;> grind
    have q0 : q = 0 := by
      rw [e0] at hq
      rcases Rat.mul_eq_zero.1 hq with h | h
      · exact h
      · exact absurd h y0
    rw [q0, show (⟨false, [], 0⟩ : Dx).rv = 0 from rv_zero rfl]
    exact ⟨.self (.zero p), .self (.zero p)⟩
  · rw [if_neg hx0, if_neg hx0]
    have xpos : 0 < x.m := by omega
    obtain ⟨k, hk⟩ : ∃ k : Int, max (p + 2 + (blen y.m : Int) - (blen x.m : Int)) 0 = k := ⟨_, rfl⟩
    rw [hk]
    have pk := two_pow_pos k.toNat
    have hM : 0 < x.m * 2 ^ k.toNat := Int.mul_pos xpos pk
    have hMb : blen (x.m * 2 ^ k.toNat) = blen x.m + k.toNat := blen_mul_pow xpos _
    have g1 := blen_ge hM
    have g2 := blen_lt y.m
    obtain ⟨M, hMe⟩ : ∃ M, x.m * 2 ^ k.toNat = M := ⟨_, rfl⟩
    rw [hMe] at hM hMb g1 ⊢
    have hQ : (2 : Int) ^ (p - 1).toNat ≤ M / y.m := by
      rw [Int.le_ediv_iff_mul_le ypos]
      have bx := blen_pos xpos
      have e1 : (2 : Int) ^ (blen M - 1) = 2 ^ (blen M - 1 - blen y.m) * 2 ^ blen y.m := by rw [← Int.pow_add]; congr 1; omega
      have e2 := two_pow_le (j := (p - 1).toNat) (k := blen M - 1 - blen y.m) (by omega)
      have e3 : (2 : Int) ^ (p - 1).toNat * y.m ≤ 2 ^ (blen M - 1 - blen y.m) * 2 ^ blen y.m := by
        have := two_pow_pos (p - 1).toNat
        exact Int.mul_le_mul e2 (Int.le_of_lt g2) m2 (by have := two_pow_pos (blen M - 1 - blen y.m); omega)
      omega
    have d1 := Int.mul_ediv_add_emod M y.m
    have d2 := Int.emod_nonneg M m20
    have d3 := Int.emod_lt_of_pos M ypos
    generalize M / y.m = Q at *
    -- the quotient of the amounts
    obtain ⟨q', hq'⟩ : ∃ q' : Rat, q' = (if (!(x.neg == y.neg)) then -1 else 1) * q := ⟨_, rfl⟩
    have hqa : q' * (y.m : Rat) = (M : Rat) * p2 (x.e - y.e - k) := by
      rw [sm_amt, sm_amt x] at hq
      have e1 : p2 x.e = p2 (x.e - y.e - k) * (p2 y.e * p2 k) := by rw [← p2_add, ← p2_add]; congr 1; omega
      have e2 : (M : Rat) = (x.m : Rat) * p2 k := by rw [← hMe, Rat.intCast_mul, ← p2_toNat (by omega)]
      have h1 : q' * ((y.m : Rat) * p2 y.e) = (x.m : Rat) * p2 x.e := by
        rw [hq']
        cases hx : x.neg <;> cases hy : y.neg <;> rw [hx, hy] at hq <;> simp at hq ⊢ <;> grind
      rw [e1] at h1
      have p0 := p2_pos y.e
      have h2 : (q' * (y.m : Rat)) * p2 y.e = ((M : Rat) * p2 (x.e - y.e - k)) * p2 y.e := by rw [e2]; grind
      have h3 : q' * (y.m : Rat) ≤ (M : Rat) * p2 (x.e - y.e - k) := by rw [← mul_p2_le y.e]; grind
      have h4 : (M : Rat) * p2 (x.e - y.e - k) ≤ q' * (y.m : Rat) := by rw [← mul_p2_le y.e]; grind
      exact Rat.le_antisymm h3 h4
    have y0 := cast_ne ypos
    have cmp : ∀ c : Int, (c : Rat) * p2 (x.e - y.e - k) * (y.m : Rat) = ((y.m * c : Int) : Rat) * p2 (x.e - y.e - k) := fun c => by rw [Rat.intCast_mul]; grind
    have key := sticky_best (p := p) (E := x.e - y.e - k - 1) (Q := Q) (q := q') (b := decide (M % y.m ≠ 0)) hp hQ (fun hb => by
        have hr : M % y.m = 0 := by simpa using hb
        rw [hr, Int.add_zero] at d1
        rw [show x.e - y.e - k - 1 + 1 = x.e - y.e - k by omega]
        have e := cmp Q
        rw [d1, ← hqa] at e
        have h3 : q' ≤ (Q : Rat) * p2 (x.e - y.e - k) := by rw [← Rat.not_lt, ← Rat.mul_lt_mul_right y0]; grind
        have h4 : (Q : Rat) * p2 (x.e - y.e - k) ≤ q' := by rw [← Rat.not_lt, ← Rat.mul_lt_mul_right y0]; grind
        exact Rat.le_antisymm h3 h4) (fun hb => by
        have hr : M % y.m ≠ 0 := by simpa using hb
        rw [show x.e - y.e - k - 1 + 1 = x.e - y.e - k by omega]
        constructor
        · rw [← Rat.mul_lt_mul_right y0, cmp, hqa, mul_p2_lt, cast_lt]; omega
        · rw [← Rat.mul_lt_mul_right y0, cmp, hqa, mul_p2_lt, cast_lt, Int.mul_add, Int.mul_one]; omega)
    have hS := (sticky_blen (q := Q) (b := decide (M % y.m ≠ 0)) (by have := two_pow_pos (p - 1).toNat; omega)).1
    have best := cutD_best (d := mkD (!(x.neg == y.neg)) (stickyM Q (decide (M % y.m ≠ 0))) (x.e - y.e - k - 1)) mkD_p hp
    rw [rv_mkD hS] at best
    cases hs : (!(x.neg == y.neg)) with
    | false =>
      rw [hs] at best hq'
      simp only [Bool.false_eq_true, if_false] at best hq'
      have : q' = q := by grind
      rw [this] at key
      exact ⟨key.1 _ best.1, key.2 _ best.2⟩
    | true =>
      rw [hs] at best hq'
      simp only [if_true, Rat.intCast_neg, Rat.neg_mul] at best hq'
      have e1 : q = -q' := by grind
      have b1 := best.1.neg
      have b2 := best.2.neg
      rw [Rat.neg_neg] at b1 b2
      have c1 := (key.2 _ b1).neg
      have c2 := (key.1 _ b2).neg
      rw [Rat.neg_neg] at c1 c2
      rw [e1]
      exact ⟨c1, c2⟩
end Go.Proofs.YtmfmneanmamjbaaDoor

namespace Go.Proofs.YtmfmneanmamjbaaDoor
open Go.RowKit
def DnS (p : Int) (a z : Rat) : Prop := Rp p z ∧ 0 ≤ z ∧ z * z ≤ a ∧ ∀ t, Rp p t → 0 ≤ t → t * t ≤ a → t ≤ z
def UpS (p : Int) (a z : Rat) : Prop := Rp p z ∧ 0 ≤ z ∧ a ≤ z * z ∧ ∀ t, Rp p t → 0 ≤ t → a ≤ t * t → z ≤ t
theorem rsq_le {x y : Rat} (hx : 0 ≤ x) (h : x ≤ y) : x * x ≤ y * y := by
  have h1 := Rat.mul_le_mul_of_nonneg_left h hx
  have h2 := Rat.mul_le_mul_of_nonneg_right h (show 0 ≤ y by grind)
  grind
theorem rsq_lt {x y : Rat} (hx : 0 ≤ x) (h : x < y) : x * x < y * y := by
  have h1 := Rat.mul_le_mul_of_nonneg_left (Rat.le_of_lt h) hx
  have h2 := (Rat.mul_lt_mul_right (show 0 < y by grind)).2 h
  grind
theorem rle_of_sq {x y : Rat} (hy : 0 ≤ y) (h : x * x ≤ y * y) : x ≤ y := by
  rcases (show x ≤ y ∨ y < x by grind) with h1 | h1
  · exact h1
  · have := rsq_lt hy h1; grind
theorem rlt_of_sq {x y : Rat} (hy : 0 ≤ y) (h : x * x < y * y) : x < y := by
  rcases (show x < y ∨ y ≤ x by grind) with h1 | h1
  · exact h1
  · have := rsq_le hy h1; grind
theorem Dn.sqrt_eq {p : Int} {a u z : Rat} (hu : 0 ≤ u) (e : a = u * u) (h : Dn p u z) : DnS p a z := by
  have z0 := h.2.2 0 (.zero p) hu
  exact ⟨h.1, z0, by rw [e]; exact rsq_le z0 h.2.1, fun t ht t0 k => h.2.2 t ht (rle_of_sq hu (by rw [← e]; exact k))⟩
theorem Up.sqrt_eq {p : Int} {a u z : Rat} (hu : 0 ≤ u) (e : a = u * u) (h : Up p u z) : UpS p a z := by
  have z0 : 0 ≤ z := by have := h.2.1; grind
  exact ⟨h.1, z0, by rw [e]; exact rsq_le hu h.2.1, fun t ht t0 k => h.2.2 t ht (rle_of_sq t0 (by rw [← e]; exact k))⟩
theorem Dn.sqrt {p : Int} {A B a u z : Rat} (A0 : 0 ≤ A) (hA : A < u) (hB : u < B) (hA' : A * A < a) (hB' : a < B * B) (hno : ∀ t, Rp p t → A < t → t < B → False) (h : Dn p u z) : DnS p a z := by
  have z0 := h.2.2 0 (.zero p) (by grind)
  have z1 : z ≤ A := by
    rcases (show z ≤ A ∨ A < z by grind) with h1 | h1
    · exact h1
    · exact (hno z h.1 h1 (by have := h.2.1; grind)).elim
  refine ⟨h.1, z0, by have := rsq_le z0 z1; grind, fun t ht t0 k => ?_⟩
  have tB : t < B := rlt_of_sq (by grind) (by grind)
  rcases (show t ≤ A ∨ A < t by grind) with h1 | h1
  · exact h.2.2 t ht (by grind)
  · exact (hno t ht h1 tB).elim
theorem Up.sqrt {p : Int} {A B a u z : Rat} (A0 : 0 ≤ A) (hA : A < u) (hB : u < B) (hA' : A * A < a) (hB' : a < B * B) (hno : ∀ t, Rp p t → A < t → t < B → False) (h : Up p u z) : UpS p a z := by
  have z1 : B ≤ z := by
    rcases (show B ≤ z ∨ z < B by grind) with h1 | h1
    · exact h1
    · exact (hno z h.1 (by have := h.2.1; grind) h1).elim
  refine ⟨h.1, by grind, by have := rsq_le (show 0 ≤ B by grind) z1; grind, fun t ht t0 k => ?_⟩
  have tA : A < t := rlt_of_sq t0 (by grind)
  rcases (show B ≤ t ∨ t < B by grind) with h1 | h1
  · exact h.2.2 t ht (by grind)
  · exact (hno t ht tA h1).elim
theorem DnS.mono {p : Int} {a a' z z' : Rat} (h : DnS p a z) (h' : DnS p a' z') (ha : a ≤ a') : z ≤ z' := h'.2.2.2 z h.1 h.2.1 (by have := h.2.2.1; grind)
theorem UpS.mono {p : Int} {a a' z z' : Rat} (h : UpS p a z) (h' : UpS p a' z') (ha : a ≤ a') : z ≤ z' := h.2.2.2 z' h'.1 h'.2.1 (by have := h'.2.2.1; grind)
theorem DnS.more {p p' : Int} {a z z' : Rat} (h : DnS p a z) (h' : DnS p' a z') (hp : p ≤ p') : z ≤ z' := h'.2.2.2 z (h.1.mono hp) h.2.1 h.2.2.1
theorem UpS.more {p p' : Int} {a z z' : Rat} (h : UpS p a z) (h' : UpS p' a z') (hp : p ≤ p') : z' ≤ z := h'.2.2.2 z (h.1.mono hp) h.2.1 h.2.2.1
theorem root_best {a : Dx} {p : Int} (ha : 0 ≤ a.m) (hn : 0 ≤ a.rv) (hp : 1 ≤ p) : DnS p a.rv (rootD a p false).rv ∧ UpS p a.rv (rootD a p true).rv := by
  unfold rootD rootX
  have m1 := oneD_p (d := a)
  rw [← rv_one ha] at hn ⊢
  generalize oneD a = x at *
  by_cases hx0 : x.m = 0
  · rw [if_pos hx0, if_pos hx0, rv_zero hx0]
    exact ⟨Dn.sqrt_eq (u := 0) (by grind) (by grind) (.self (.zero p)), Up.sqrt_eq (u := 0) (by grind) (by grind) (.self (.zero p))⟩
  · rw [if_neg hx0, if_neg hx0]
    have xpos : 0 < x.m := by omega
    have ex := (rv_amt m1).1 hn
    obtain ⟨k, hk⟩ : ∃ k : Int, rootK x p = k := ⟨_, rfl⟩
    have hk' := hk
    unfold rootK at hk'
    rw [hk]
    have k0 : 0 ≤ k := by omega
    obtain ⟨h, hh⟩ : ∃ h : Int, x.e - k = 2 * h := ⟨(x.e - k) / 2, by omega⟩
    have eh : (x.e - k) / 2 - 1 = h - 1 := by omega
    rw [eh]
    have pk := two_pow_pos k.toNat
    have hM : 0 < x.m * 2 ^ k.toNat := Int.mul_pos xpos pk
    have hMb : blen (x.m * 2 ^ k.toNat) = blen x.m + k.toNat := blen_mul_pow xpos _
    have g1 := blen_ge hM
    obtain ⟨M, hMe⟩ : ∃ M, x.m * 2 ^ k.toNat = M := ⟨_, rfl⟩
    have ea : x.rv = (M : Rat) * (p2 h * p2 h) := by
      rw [ex, ← hMe, Rat.intCast_mul, ← p2_toNat k0, ← p2_add, Rat.mul_assoc, ← p2_add]; congr 2; omega
    rw [hMe] at hM hMb g1 ⊢
    have v1 := isq_le (n := M) (by omega)
    have v2 := isq_lt (n := M) (by omega)
    have v0 := isq_nonneg M
    generalize isq M = V at *
    have hV : (2 : Int) ^ (p - 1).toNat ≤ V := by
      have bx := blen_pos xpos
      have e1 := two_pow_le (j := (p - 1).toNat + (p - 1).toNat) (k := blen M - 1) (by omega)
      rw [Int.pow_add] at e1
      have e0 := two_pow_pos (p - 1).toNat
      by_cases hc : (2 : Int) ^ (p - 1).toNat ≤ V
      · exact hc
      · have : (V + 1) * (V + 1) ≤ 2 ^ (p - 1).toNat * 2 ^ (p - 1).toNat := Int.mul_le_mul (by omega) (by omega) (by omega) (by omega)
        omega
    have hS := (sticky_blen (q := V) (b := decide (M - V * V ≠ 0)) v0).1
    have best := cutD_best (d := mkD false (stickyM V (decide (M - V * V ≠ 0))) (h - 1)) mkD_p hp
    rw [rv_mkD hS] at best
    simp only [Bool.false_eq_true, if_false] at best
    rw [sticky_rv, show h - 1 + 1 = h by omega] at best
    have p0 := p2_pos h
    have p1 := p2_pos (h - 1)
    have V0 : (0 : Rat) ≤ (V : Rat) := by
      have := cast_le.2 v0
      have e0 : ((0 : Int) : Rat) = 0 := rfl
      rwa [e0] at this
    have A0 : 0 ≤ (V : Rat) * p2 h := Rat.mul_nonneg V0 (Rat.le_of_lt p0)
    have sqe : ∀ c : Int, (c : Rat) * p2 h * ((c : Rat) * p2 h) = ((c * c : Int) : Rat) * (p2 h * p2 h) := fun c => by rw [Rat.intCast_mul]; grind
    have pp := Rat.mul_pos p0 p0
    cases hb : decide (M - V * V ≠ 0) with
    | false =>
      rw [hb] at best
      simp only [Bool.false_eq_true, if_false, Rat.add_zero] at best
      have hr : M - V * V = 0 := by simpa using hb
      have e2 : x.rv = (V : Rat) * p2 h * ((V : Rat) * p2 h) := by rw [ea, sqe, show M = V * V by omega]
      exact ⟨best.1.sqrt_eq A0 e2, best.2.sqrt_eq A0 e2⟩
    | true =>
      rw [hb] at best
      simp only [if_true] at best
      have hr : M - V * V ≠ 0 := by simpa using hb
      have hA' : (V : Rat) * p2 h * ((V : Rat) * p2 h) < x.rv := by
        rw [ea, sqe]; exact (Rat.mul_lt_mul_right pp).2 (cast_lt.2 (by omega))
      have hB' : x.rv < ((V + 1 : Int) : Rat) * p2 h * (((V + 1 : Int) : Rat) * p2 h) := by
        rw [ea, sqe]; exact (Rat.mul_lt_mul_right pp).2 (cast_lt.2 (by omega))
      have eB : ((V + 1 : Int) : Rat) * p2 h = (V : Rat) * p2 h + 2 * p2 (h - 1) := by
        have : p2 h = 2 * p2 (h - 1) := by rw [← two_p2]; congr 1; omega
        rw [Rat.intCast_add, this]
        have e2 : ((1 : Int) : Rat) = 1 := rfl
        rw [e2]; grind
      have hno : ∀ t, Rp p t → (V : Rat) * p2 h < t → t < ((V + 1 : Int) : Rat) * p2 h → False := fun t ht k1 k2 => no_rp (E := h - 1) hV hp ht (by rw [show h - 1 + 1 = h by omega]; exact k1) (by rw [show h - 1 + 1 = h by omega]; exact k2)
      exact ⟨best.1.sqrt A0 (by grind) (by grind) hA' hB' hno, best.2.sqrt A0 (by grind) (by grind) hA' hB' hno⟩
/-! ### Corners. -/
/-- A product of what lies between ends: not below one of the four corners, not above one. -/
theorem lin_le {a b x c : Rat} (h1 : a ≤ x) (h2 : x ≤ b) : ∃ x0, (x0 = a ∨ x0 = b) ∧ x0 * c ≤ x * c := by
  rcases (show 0 ≤ c ∨ c ≤ 0 by grind) with h | h
  · exact ⟨a, .inl rfl, Rat.mul_le_mul_of_nonneg_right h1 h⟩
  · refine ⟨b, .inr rfl, ?_⟩
    have := Rat.mul_le_mul_of_nonneg_right h2 (show 0 ≤ -c by grind)
    grind
theorem corner_le {a b c d x y : Rat} (h1 : a ≤ x) (h2 : x ≤ b) (h3 : c ≤ y) (h4 : y ≤ d) : ∃ x0 y0, (x0 = a ∨ x0 = b) ∧ (y0 = c ∨ y0 = d) ∧ x0 * y0 ≤ x * y := by
  obtain ⟨y0, k1, k2⟩ := lin_le (c := x) h3 h4
  obtain ⟨x0, k3, k4⟩ := lin_le (c := y0) h1 h2
  exact ⟨x0, y0, k3, k1, by grind⟩
theorem corner_ge {a b c d x y : Rat} (h1 : a ≤ x) (h2 : x ≤ b) (h3 : c ≤ y) (h4 : y ≤ d) : ∃ x0 y0, (x0 = a ∨ x0 = b) ∧ (y0 = c ∨ y0 = d) ∧ x * y ≤ x0 * y0 := by
  obtain ⟨x0, y0, k1, k2, k3⟩ := corner_le (a := -b) (b := -a) (x := -x) (show -b ≤ -x by grind) (by grind) h3 h4
  refine ⟨-x0, y0, by rcases k1 with h | h <;> rw [h] <;> simp, k2, by grind⟩
end Go.Proofs.YtmfmneanmamjbaaDoor

namespace Go.Proofs.YtmfmneanmamjbaaDoor
open Go.RowKit
def betwD (v : Vx) (n : Int) : Dx := plusD v.lo (shiftD (timesD (lessD v.hi v.lo) (mkS n 0)) (-4))
def lBetw : Spec := specK [.v, .i .i64] fun (v : Vx) (n : Int) => (some (v.Sm 65536 ∧ 0 ≤ n ∧ n ≤ 16), dT (betwD v n))
theorem lBetw_vc (v : Vx) (n : Int) (Q : Tv → Prop) : execF ⟨tys2, sRef4⟩ (fun _ => none) 0 Tryd.f42 [.agg (ivL false v), .one (.int .i64 n)] Q = ((Dx.Sm (34359738368 : Nat) v.hi ∧ Dx.Sm (34359738368 : Nat) v.lo) ∧ inR n ∧ (Dx.Sm (68719476736 : Nat) (lessD v.hi v.lo) ∧ Dx.Sm (68719476736 : Nat) (mkS n (0 : Int))) ∧ (eB (2305843009213693952 : Int) (timesD (lessD v.hi v.lo) (mkS n (0 : Int))) ∧ (-2305843009213693952 : Int) ≤ (-4 : Int) ∧ (-4 : Int) ≤ (2305843009213693952 : Int)) ∧ (Dx.Sm (68719476736 : Nat) v.lo ∧ Dx.Sm (68719476736 : Nat) (shiftD (timesD (lessD v.hi v.lo) (mkS n (0 : Int))) (-4 : Int))) ∧ true = true ∧ Q (Tv.sv (Sv.agg (dyL true (plusD v.lo (shiftD (timesD (lessD v.hi v.lo) (mkS n (0 : Int))) (-4 : Int))))))) := by kernel_rfl
def liesV (v : Vx) (d : Dx) : Bool := leI (cmpD v.lo d) 0 && leI (cmpD d v.hi) 0
def lEncl : Spec := specK [.v, .d] fun (v : Vx) (d : Dx) => (some (v.Sm 34359738368 ∧ d.Sm 34359738368), bT (liesV v d))
theorem lEncl_vc (v : Vx) (d : Dx) (Q : Tv → Prop) : execF ⟨tys2, sRef4⟩ (fun _ => none) 0 Tryd.f46 [.agg (ivL false v), .agg (dyL false d)] Q = ((Dx.Sm (34359738368 : Nat) v.lo ∧ Dx.Sm (34359738368 : Nat) d) ∧ br (leI (cmpD v.lo d) (0 : Int)) ((Dx.Sm (34359738368 : Nat) d ∧ Dx.Sm (34359738368 : Nat) v.hi) ∧ Q (Tv.sv (Sv.one (At.bool (leI (cmpD d v.hi) (0 : Int)))))) (Q (Tv.sv (Sv.one (At.bool false))))) := by kernel_rfl
def twoR (k : Int) (v u : Vx) (p : Int) : Vx × Int := if k = 0 then ivAdd v u p else if k = 1 then ivSub v u p else if k = 2 then ivMul v u p else if k = 3 then ivDiv v u p else ivSqrt v p
def wT5 (f : Int → Vx → Vx → Int → Vx × Int) : Spec := specK [.i .i64, .v, .v, .i .i64] fun (k : Int) (v : Vx) (u : Vx) (p : Int) => (some (0 ≤ k ∧ k ≤ 4), reT (f k v u p))
theorem lTwo0_vc (v u : Vx) (p : Int) (Q : Tv → Prop) : execF ⟨tys2, sIval⟩ (fun _ => none) 0 Tryd.f50 [.one (.int .i64 0), .agg (ivL false v), .agg (ivL false u), .one (.int .i64 p)] Q = (Q (Tv.tup [Sv.agg (ivL false (ivAdd v u p).fst), Sv.one (At.int IntKind.i64 (ivAdd v u p).snd)])) := by kernel_rfl
theorem lTwo1_vc (v u : Vx) (p : Int) (Q : Tv → Prop) : execF ⟨tys2, sIval⟩ (fun _ => none) 0 Tryd.f50 [.one (.int .i64 1), .agg (ivL false v), .agg (ivL false u), .one (.int .i64 p)] Q = (Q (Tv.tup [Sv.agg (ivL false (ivSub v u p).fst), Sv.one (At.int IntKind.i64 (ivSub v u p).snd)])) := by kernel_rfl
theorem lTwo2_vc (v u : Vx) (p : Int) (Q : Tv → Prop) : execF ⟨tys2, sIval⟩ (fun _ => none) 0 Tryd.f50 [.one (.int .i64 2), .agg (ivL false v), .agg (ivL false u), .one (.int .i64 p)] Q = (Q (Tv.tup [Sv.agg (ivL false (ivMul v u p).fst), Sv.one (At.int IntKind.i64 (ivMul v u p).snd)])) := by kernel_rfl
theorem lTwo3_vc (v u : Vx) (p : Int) (Q : Tv → Prop) : execF ⟨tys2, sIval⟩ (fun _ => none) 0 Tryd.f50 [.one (.int .i64 3), .agg (ivL false v), .agg (ivL false u), .one (.int .i64 p)] Q = (Q (Tv.tup [Sv.agg (ivL false (ivDiv v u p).fst), Sv.one (At.int IntKind.i64 (ivDiv v u p).snd)])) := by kernel_rfl
theorem lTwo4_vc (v u : Vx) (p : Int) (Q : Tv → Prop) : execF ⟨tys2, sIval⟩ (fun _ => none) 0 Tryd.f50 [.one (.int .i64 4), .agg (ivL false v), .agg (ivL false u), .one (.int .i64 p)] Q = (Q (Tv.tup [Sv.agg (ivL false (ivSqrt v p).fst), Sv.one (At.int IntKind.i64 (ivSqrt v p).snd)])) := by kernel_rfl
theorem lTwo_ok : SpecOk Tryd.prog 50 (wT5 twoR) :=
  specK_ok (envOk tys2_ok sIval_ok) mixed Tryd.func50 rfl (by decide) (by decide) fun (k : Int) _ (v : Vx) _ (u : Vx) _ (p : Int) _ hp => ⟨fun _ => none, 0, by
    obtain ⟨k0, k1⟩ : 0 ≤ k ∧ k ≤ 4 := hp
    have hk : k = 0 ∨ k = 1 ∨ k = 2 ∨ k = 3 ∨ k = 4 := by omega
    rcases hk with rfl | rfl | rfl | rfl | rfl
    · exact (lTwo0_vc v u p _).mpr rfl
    · exact (lTwo1_vc v u p _).mpr rfl
    · exact (lTwo2_vc v u p _).mpr rfl
    · exact (lTwo3_vc v u p _).mpr rfl
    · exact (lTwo4_vc v u p _).mpr rfl⟩
theorem lEncl_ok : SpecOk Tryd.prog 46 lEncl :=
  specK_ok (envOk tys2_ok sRef4_ok) mixed Tryd.func46 rfl (by decide) (by decide) fun (v : Vx) _ (d : Dx) _ hp => ⟨fun _ => none, 0, by
    obtain ⟨⟨s1, s2⟩, s3⟩ : v.Sm 34359738368 ∧ d.Sm 34359738368 := hp
    show execF _ _ _ _ _ (fun t => t = bT (liesV v d))
    refine (lEncl_vc v d _).mpr ⟨⟨s1, s3⟩, br_intro (fun h => ⟨⟨s3, s2⟩, ?_⟩) fun h => ?_⟩
    · rw [liesV, h]; rfl
    · rw [liesV, h]; rfl⟩
theorem mkS5_sm {n : Int} (h0 : 0 ≤ n) (h : n ≤ 16) : (mkS n 0).Sm 5 := by
  unfold mkS
  have := mkD_sm (neg := decide (n < 0)) (m := (n.natAbs : Int)) (e := 0) (N := 5) (M := 0) (by omega) (blen_le (by omega)) (by omega) (by omega)
  exact this.mono (by omega)
theorem lBetw_ok : SpecOk Tryd.prog 42 lBetw :=
  specK_ok (envOk tys2_ok sRef4_ok) mixed Tryd.func42 rfl (by decide) (by decide) fun (v : Vx) hv (n : Int) _ hp => ⟨fun _ => none, 0, by
    obtain ⟨⟨s1, s2⟩, n0, n1⟩ : v.Sm 65536 ∧ 0 ≤ n ∧ n ≤ 16 := hp
    have hv := Vx.Wf.p hv
    have z1 := lessD_sm hv.2 hv.1 s2 s1
    have z2 := mkS5_sm n0 n1
    have z3 := timesD_sm lessD_p mkS_p z1 (z2.mono (show 5 ≤ 16 * 65536 + 1 by omega))
    have z4 := shiftD_sm (n := -4) (M := 4) timesD_p z3 (by omega) (by omega)
    exact (lBetw_vc v n _).mpr ⟨⟨s2.mono (by omega), s1.mono (by omega)⟩, ⟨by omega, by omega⟩, ⟨z1.mono (by omega), z2.mono (by omega)⟩, ⟨z3.eB (by omega), by omega, by omega⟩, ⟨s1.mono (by omega), z4.mono (by omega)⟩, rfl, rfl⟩⟩
def wDD (N : Nat) (f : Dx → Dx → Dx) : Spec := specK [.d, .d] fun (a : Dx) (b : Dx) => (some (a.Sm N ∧ b.Sm N), dT (f a b))
def wOr (N : Nat) (f : Dx → Dx → Int) : Spec := specK [.d, .d] fun (a : Dx) (b : Dx) => (some (a.Sm N ∧ b.Sm N), iT (f a b))
def wSg (f : Dx → Int) : Spec := specK [.d] fun (d : Dx) => (none, iT (f d))
def wDB (f : Dx → Bool) : Spec := specK [.d] fun (d : Dx) => (none, bT (f d))
def wVB (f : Vx → Bool) : Spec := specK [.v] fun (v : Vx) => (none, bT (f v))
def wVI (f : Vx → Int → Vx × Int) : Spec := specK [.v, .i .i64] fun (v : Vx) (p : Int) => (none, reT (f v p))
def wNa (f : Vx → Int → Bool) : Spec := specK [.v, .i .i64] fun (v : Vx) (p : Int) => (none, bT (f v p))
def wBt (f : Vx → Int → Dx) : Spec := specK [.v, .i .i64] fun (v : Vx) (n : Int) => (some (v.Sm 65536 ∧ 0 ≤ n ∧ n ≤ 16), dT (f v n))
def wEn (f : Vx → Dx → Bool) : Spec := specK [.v, .d] fun (v : Vx) (d : Dx) => (some (v.Sm 34359738368 ∧ d.Sm 34359738368), bT (f v d))
def wPt (f : Dx → Vx × Int) : Spec := specK [.d] fun (d : Dx) => (none, reT (f d))
def wP6 (f : Dx → Vx) : Spec := specK [.d] fun (d : Dx) => (some (eB 4611686018427387904 d), vT (f d))
def sBk (fA fS fM fD : Vx → Vx → Int → Vx × Int) (fQ : Vx → Int → Vx × Int) (fW : Vx → Vx → Bool) : List (FuncId × Spec) :=
  [(14, wVV fA), (43, wVV fS), (36, wVV fM), (44, wVV fD), (45, wVI fQ), (30, wB fW), (12, lBeg)]
theorem sBk_ok : SpecsOk Tryd.prog (sBk ivAdd ivSub ivMul ivDiv ivSqrt withinV) := ⟨vXAdd_ok, vXSub_ok, vXMul_ok, vXDiv_ok, vXSqrt_ok, vWi_ok, lBeg_ok, trivial⟩
theorem lBack_vc (fA fS fM fD : Vx → Vx → Int → Vx × Int) (fQ : Vx → Int → Vx × Int) (fW : Vx → Vx → Bool) (v u : Vx) (p : Int) (Q : Tv → Prop) : execF ⟨tys2, sBk fA fS fM fD fQ fW⟩ (fun _ => none) 0 Tryd.f11 [.agg (ivL false v), .agg (ivL false u), .one (.int .i64 p)] Q = (br (eqI (fA v u p).snd (0 : Int)) (br (eqI (fS (fA v u p).fst u p).snd (0 : Int)) (br (!fW v (fS (fA v u p).fst u p).fst) (Q (Tv.sv (Sv.one (At.bool false)))) (br (eqI (fD v u p).snd (0 : Int)) (br (eqI (fM (fD v u p).fst u p).snd (0 : Int)) (br (!fW v (fM (fD v u p).fst u p).fst) (Q (Tv.sv (Sv.one (At.bool false)))) (br (eqI (fQ v p).snd (0 : Int)) (br (eqI (fM (fQ v p).fst (fQ v p).fst p).snd (0 : Int)) (br (!fW v (fM (fQ v p).fst (fQ v p).fst p).fst) (Q (Tv.sv (Sv.one (At.bool false)))) (Q (Tv.sv (Sv.one (At.bool true))))) (Q (Tv.sv (Sv.one (At.bool true))))) (Q (Tv.sv (Sv.one (At.bool true)))))) (br (eqI (fQ v p).snd (0 : Int)) (br (eqI (fM (fQ v p).fst (fQ v p).fst p).snd (0 : Int)) (br (!fW v (fM (fQ v p).fst (fQ v p).fst p).fst) (Q (Tv.sv (Sv.one (At.bool false)))) (Q (Tv.sv (Sv.one (At.bool true))))) (Q (Tv.sv (Sv.one (At.bool true))))) (Q (Tv.sv (Sv.one (At.bool true)))))) (br (eqI (fQ v p).snd (0 : Int)) (br (eqI (fM (fQ v p).fst (fQ v p).fst p).snd (0 : Int)) (br (!fW v (fM (fQ v p).fst (fQ v p).fst p).fst) (Q (Tv.sv (Sv.one (At.bool false)))) (Q (Tv.sv (Sv.one (At.bool true))))) (Q (Tv.sv (Sv.one (At.bool true))))) (Q (Tv.sv (Sv.one (At.bool true))))))) (br (eqI (fD v u p).snd (0 : Int)) (br (eqI (fM (fD v u p).fst u p).snd (0 : Int)) (br (!fW v (fM (fD v u p).fst u p).fst) (Q (Tv.sv (Sv.one (At.bool false)))) (br (eqI (fQ v p).snd (0 : Int)) (br (eqI (fM (fQ v p).fst (fQ v p).fst p).snd (0 : Int)) (br (!fW v (fM (fQ v p).fst (fQ v p).fst p).fst) (Q (Tv.sv (Sv.one (At.bool false)))) (Q (Tv.sv (Sv.one (At.bool true))))) (Q (Tv.sv (Sv.one (At.bool true))))) (Q (Tv.sv (Sv.one (At.bool true)))))) (br (eqI (fQ v p).snd (0 : Int)) (br (eqI (fM (fQ v p).fst (fQ v p).fst p).snd (0 : Int)) (br (!fW v (fM (fQ v p).fst (fQ v p).fst p).fst) (Q (Tv.sv (Sv.one (At.bool false)))) (Q (Tv.sv (Sv.one (At.bool true))))) (Q (Tv.sv (Sv.one (At.bool true))))) (Q (Tv.sv (Sv.one (At.bool true)))))) (br (eqI (fQ v p).snd (0 : Int)) (br (eqI (fM (fQ v p).fst (fQ v p).fst p).snd (0 : Int)) (br (!fW v (fM (fQ v p).fst (fQ v p).fst p).fst) (Q (Tv.sv (Sv.one (At.bool false)))) (Q (Tv.sv (Sv.one (At.bool true))))) (Q (Tv.sv (Sv.one (At.bool true))))) (Q (Tv.sv (Sv.one (At.bool true))))))) (br (eqI (fD v u p).snd (0 : Int)) (br (eqI (fM (fD v u p).fst u p).snd (0 : Int)) (br (!fW v (fM (fD v u p).fst u p).fst) (Q (Tv.sv (Sv.one (At.bool false)))) (br (eqI (fQ v p).snd (0 : Int)) (br (eqI (fM (fQ v p).fst (fQ v p).fst p).snd (0 : Int)) (br (!fW v (fM (fQ v p).fst (fQ v p).fst p).fst) (Q (Tv.sv (Sv.one (At.bool false)))) (Q (Tv.sv (Sv.one (At.bool true))))) (Q (Tv.sv (Sv.one (At.bool true))))) (Q (Tv.sv (Sv.one (At.bool true)))))) (br (eqI (fQ v p).snd (0 : Int)) (br (eqI (fM (fQ v p).fst (fQ v p).fst p).snd (0 : Int)) (br (!fW v (fM (fQ v p).fst (fQ v p).fst p).fst) (Q (Tv.sv (Sv.one (At.bool false)))) (Q (Tv.sv (Sv.one (At.bool true))))) (Q (Tv.sv (Sv.one (At.bool true))))) (Q (Tv.sv (Sv.one (At.bool true)))))) (br (eqI (fQ v p).snd (0 : Int)) (br (eqI (fM (fQ v p).fst (fQ v p).fst p).snd (0 : Int)) (br (!fW v (fM (fQ v p).fst (fQ v p).fst p).fst) (Q (Tv.sv (Sv.one (At.bool false)))) (Q (Tv.sv (Sv.one (At.bool true))))) (Q (Tv.sv (Sv.one (At.bool true))))) (Q (Tv.sv (Sv.one (At.bool true))))))) := by kernel_rfl
def sIn (fT : Int → Vx → Vx → Int → Vx × Int) (fB : Vx → Int → Dx) (fR : Vx → Bool) (fW : Vx → Vx → Bool) : List (FuncId × Spec) :=
  [(50, wT5 fT), (42, wBt fB), (22, wVB fR), (30, wB fW), (12, lBeg)]
theorem sIn_ok : SpecsOk Tryd.prog (sIn twoR betwD rightV withinV) := ⟨lTwo_ok, lBetw_ok, gRight_ok, vWi_ok, lBeg_ok, trivial⟩
def clD (b : Nat) (nw : Bool) (d : Dx) : List (Nat × Nat × At) := [(b, 0, .bool d.neg), (b, 1, .words nw d.xs), (b, 2, .int .i64 d.e)]
def clV (b : Nat) (nw : Bool) (v : Vx) : List (Nat × Nat × At) := [(b, 0, .bool v.lo.neg), (b, 1, .words nw v.lo.xs), (b, 2, .int .i64 v.lo.e), (b, 3, .bool v.hi.neg), (b, 4, .words nw v.hi.xs), (b, 5, .int .i64 v.hi.e)]
abbrev pT (b : Nat) : Tv := .sv (.one (.ptr b 0))
def incSt (v u c : Vx) (p q : Int) (j : Int) : List (Nat × Tv) × List (Nat × Nat × At) :=
  ([(2, iT p), (3, iT q), (6, pT 0), (7, pT 1), (13, pT 35), (14, iT j)], clV 0 false v ++ (clV 1 false u ++ clV 35 true c))
def incInv (v u c : Vx) (p q : Int) : Nat → Option LInv := invAt 7 (.rel ⟨[2, 3, 6, 7, 13, 14], [(0, 6), (1, 6), (35, 6)], 38⟩ Int (incSt v u c p q) (fun j => 0 ≤ j ∧ j ≤ 5) (fun j => (5 - j).toNat))
theorem lIncl_vc (fT : Int → Vx → Vx → Int → Vx × Int) (fB : Vx → Int → Dx) (fR : Vx → Bool) (fW : Vx → Vx → Bool) (v u : Vx) (p q m n : Int) (Q : Tv → Prop) : execF ⟨tys2, sIn fT fB fR fW⟩ (incInv v u ⟨fB v (minI (m.tmod 17) (n.tmod 17)), fB v (maxI (m.tmod 17) (n.tmod 17))⟩ p q) 0 Tryd.f10 [.agg (ivL false v), .agg (ivL false u), .one (.int .i64 p), .one (.int .i64 q), .one (.int .u8 m), .one (.int .u8 n)] Q = (br (!fR v) (Q (Tv.sv (Sv.one (At.bool true))))   (br (!fR u) (Q (Tv.sv (Sv.one (At.bool true))))     (br (ltI q p) (Q (Tv.sv (Sv.one (At.bool true))))       ((17 : Int) ≠ (0 : Int) ∧         (17 : Int) ≠ (0 : Int) ∧           inR (minI (Int.tmod m (17 : Int)) (Int.tmod n (17 : Int))) ∧             (Vx.Sm (65536 : Nat) v ∧ (0 : Int) ≤ minI (Int.tmod m (17 : Int)) (Int.tmod n (17 : Int)) ∧ minI (Int.tmod m (17 : Int)) (Int.tmod n (17 : Int)) ≤ (16 : Int)) ∧               (17 : Int) ≠ (0 : Int) ∧                 (17 : Int) ≠ (0 : Int) ∧                   inR (maxI (Int.tmod m (17 : Int)) (Int.tmod n (17 : Int))) ∧                     (Vx.Sm (65536 : Nat) v ∧ (0 : Int) ≤ maxI (Int.tmod m (17 : Int)) (Int.tmod n (17 : Int)) ∧ maxI (Int.tmod m (17 : Int)) (Int.tmod n (17 : Int)) ≤ (16 : Int)) ∧                       true = true ∧                         true = true ∧                           (∃ (a : Int), ((0 : Int) ≤ a ∧ a ≤ (5 : Int)) ∧ Sg.mk [((2 : Nat), Tv.sv (Sv.one (At.int IntKind.i64 p))), ((3 : Nat), Tv.sv (Sv.one (At.int IntKind.i64 q))), ((6 : Nat), Tv.sv (Sv.one (At.ptr (0 : Nat) (0 : Nat)))), ((7 : Nat), Tv.sv (Sv.one (At.ptr ((0 : Nat) + (1 : Nat)) (0 : Nat)))), ((13 : Nat), Tv.sv (Sv.one (At.ptr ((18 : Nat) + (17 : Nat)) (0 : Nat)))), ((14 : Nat), Tv.sv (Sv.one (At.int IntKind.i64 (0 : Int))))] [((0 : Nat), (0 : Nat), At.bool v.lo.neg), ((0 : Nat), (1 : Nat), At.words false v.lo.xs), ((0 : Nat), (2 : Nat), At.int IntKind.i64 v.lo.e), ((0 : Nat), (3 : Nat), At.bool v.hi.neg), ((0 : Nat), (4 : Nat), At.words false v.hi.xs), ((0 : Nat), (5 : Nat), At.int IntKind.i64 v.hi.e), ((1 : Nat), (0 : Nat), At.bool u.lo.neg), ((1 : Nat), (1 : Nat), At.words false u.lo.xs), ((1 : Nat), (2 : Nat), At.int IntKind.i64 u.lo.e), ((1 : Nat), (3 : Nat), At.bool u.hi.neg), ((1 : Nat), (4 : Nat), At.words false u.hi.xs), ((1 : Nat), (5 : Nat), At.int IntKind.i64 u.hi.e), ((35 : Nat), (0 : Nat), At.bool (fB v (minI (Int.tmod m (17 : Int)) (Int.tmod n (17 : Int)))).neg), ((35 : Nat), (1 : Nat), At.words true (fB v (minI (Int.tmod m (17 : Int)) (Int.tmod n (17 : Int)))).xs), ((35 : Nat), (2 : Nat), At.int IntKind.i64 (fB v (minI (Int.tmod m (17 : Int)) (Int.tmod n (17 : Int)))).e), ((35 : Nat), (3 : Nat), At.bool (fB v (maxI (Int.tmod m (17 : Int)) (Int.tmod n (17 : Int)))).neg), ((35 : Nat), (4 : Nat), At.words true (fB v (maxI (Int.tmod m (17 : Int)) (Int.tmod n (17 : Int)))).xs), ((35 : Nat), (5 : Nat), At.int IntKind.i64 (fB v (maxI (Int.tmod m (17 : Int)) (Int.tmod n (17 : Int)))).e)] (38 : Nat) = Sg.mk [((2 : Nat), Tv.sv (Sv.one (At.int IntKind.i64 p))), ((3 : Nat), Tv.sv (Sv.one (At.int IntKind.i64 q))), ((6 : Nat), Tv.sv (Sv.one (At.ptr (0 : Nat) (0 : Nat)))), ((7 : Nat), Tv.sv (Sv.one (At.ptr (1 : Nat) (0 : Nat)))), ((13 : Nat), Tv.sv (Sv.one (At.ptr (35 : Nat) (0 : Nat)))), ((14 : Nat), Tv.sv (Sv.one (At.int IntKind.i64 a)))] [((0 : Nat), (0 : Nat), At.bool v.lo.neg), ((0 : Nat), (1 : Nat), At.words false v.lo.xs), ((0 : Nat), (2 : Nat), At.int IntKind.i64 v.lo.e), ((0 : Nat), (3 : Nat), At.bool v.hi.neg), ((0 : Nat), (4 : Nat), At.words false v.hi.xs), ((0 : Nat), (5 : Nat), At.int IntKind.i64 v.hi.e), ((1 : Nat), (0 : Nat), At.bool u.lo.neg), ((1 : Nat), (1 : Nat), At.words false u.lo.xs), ((1 : Nat), (2 : Nat), At.int IntKind.i64 u.lo.e), ((1 : Nat), (3 : Nat), At.bool u.hi.neg), ((1 : Nat), (4 : Nat), At.words false u.hi.xs), ((1 : Nat), (5 : Nat), At.int IntKind.i64 u.hi.e), ((35 : Nat), (0 : Nat), At.bool (fB v (minI (Int.tmod m (17 : Int)) (Int.tmod n (17 : Int)))).neg), ((35 : Nat), (1 : Nat), At.words true (fB v (minI (Int.tmod m (17 : Int)) (Int.tmod n (17 : Int)))).xs), ((35 : Nat), (2 : Nat), At.int IntKind.i64 (fB v (minI (Int.tmod m (17 : Int)) (Int.tmod n (17 : Int)))).e), ((35 : Nat), (3 : Nat), At.bool (fB v (maxI (Int.tmod m (17 : Int)) (Int.tmod n (17 : Int)))).neg), ((35 : Nat), (4 : Nat), At.words true (fB v (maxI (Int.tmod m (17 : Int)) (Int.tmod n (17 : Int)))).xs), ((35 : Nat), (5 : Nat), At.int IntKind.i64 (fB v (maxI (Int.tmod m (17 : Int)) (Int.tmod n (17 : Int)))).e)] (38 : Nat)) ∧                             ∀ (a : Int),                               (0 : Int) ≤ a ∧ a ≤ (5 : Int) →                                 br (ltI a (5 : Int))                                   (((0 : Int) ≤ a ∧ a ≤ (4 : Int)) ∧                                     ((0 : Int) ≤ a ∧ a ≤ (4 : Int)) ∧                                       ((0 : Int) ≤ a ∧ a ≤ (4 : Int)) ∧                                         br (eqI (fT a v u p).snd (0 : Int))                                           (br (eqI (fT a (Vx.mk (fB v (minI (Int.tmod m (17 : Int)) (Int.tmod n (17 : Int)))) (fB v (maxI (Int.tmod m (17 : Int)) (Int.tmod n (17 : Int))))) u p).snd (0 : Int))                                             (br (!fW (fT a (Vx.mk (fB v (minI (Int.tmod m (17 : Int)) (Int.tmod n (17 : Int)))) (fB v (maxI (Int.tmod m (17 : Int)) (Int.tmod n (17 : Int))))) u p).fst (fT a v u p).fst) (Q (Tv.sv (Sv.one (At.bool false))))                                               (br (eqI (fT a v u p).snd (0 : Int))                                                 (br (eqI (fT a v u q).snd (0 : Int)) (br (!fW (fT a v u q).fst (fT a v u p).fst) (Q (Tv.sv (Sv.one (At.bool false)))) (inR (a + (1 : Int)) ∧ true = true ∧ ∃ (a' : Int), ((0 : Int) ≤ a' ∧ a' ≤ (5 : Int)) ∧ Sg.mk [((2 : Nat), Tv.sv (Sv.one (At.int IntKind.i64 p))), ((3 : Nat), Tv.sv (Sv.one (At.int IntKind.i64 q))), ((6 : Nat), Tv.sv (Sv.one (At.ptr (0 : Nat) (0 : Nat)))), ((7 : Nat), Tv.sv (Sv.one (At.ptr (1 : Nat) (0 : Nat)))), ((13 : Nat), Tv.sv (Sv.one (At.ptr (35 : Nat) (0 : Nat)))), ((14 : Nat), Tv.sv (Sv.one (At.int IntKind.i64 (a + (1 : Int)))))] [((0 : Nat), (0 : Nat), At.bool v.lo.neg), ((0 : Nat), (1 : Nat), At.words false v.lo.xs), ((0 : Nat), (2 : Nat), At.int IntKind.i64 v.lo.e), ((0 : Nat), (3 : Nat), At.bool v.hi.neg), ((0 : Nat), (4 : Nat), At.words false v.hi.xs), ((0 : Nat), (5 : Nat), At.int IntKind.i64 v.hi.e), ((1 : Nat), (0 : Nat), At.bool u.lo.neg), ((1 : Nat), (1 : Nat), At.words false u.lo.xs), ((1 : Nat), (2 : Nat), At.int IntKind.i64 u.lo.e), ((1 : Nat), (3 : Nat), At.bool u.hi.neg), ((1 : Nat), (4 : Nat), At.words false u.hi.xs), ((1 : Nat), (5 : Nat), At.int IntKind.i64 u.hi.e), ((35 : Nat), (0 : Nat), At.bool (fB v (minI (Int.tmod m (17 : Int)) (Int.tmod n (17 : Int)))).neg), ((35 : Nat), (1 : Nat), At.words true (fB v (minI (Int.tmod m (17 : Int)) (Int.tmod n (17 : Int)))).xs), ((35 : Nat), (2 : Nat), At.int IntKind.i64 (fB v (minI (Int.tmod m (17 : Int)) (Int.tmod n (17 : Int)))).e), ((35 : Nat), (3 : Nat), At.bool (fB v (maxI (Int.tmod m (17 : Int)) (Int.tmod n (17 : Int)))).neg), ((35 : Nat), (4 : Nat), At.words true (fB v (maxI (Int.tmod m (17 : Int)) (Int.tmod n (17 : Int)))).xs), ((35 : Nat), (5 : Nat), At.int IntKind.i64 (fB v (maxI (Int.tmod m (17 : Int)) (Int.tmod n (17 : Int)))).e)] (38 : Nat) = Sg.mk [((2 : Nat), Tv.sv (Sv.one (At.int IntKind.i64 p))), ((3 : Nat), Tv.sv (Sv.one (At.int IntKind.i64 q))), ((6 : Nat), Tv.sv (Sv.one (At.ptr (0 : Nat) (0 : Nat)))), ((7 : Nat), Tv.sv (Sv.one (At.ptr (1 : Nat) (0 : Nat)))), ((13 : Nat), Tv.sv (Sv.one (At.ptr (35 : Nat) (0 : Nat)))), ((14 : Nat), Tv.sv (Sv.one (At.int IntKind.i64 a')))] [((0 : Nat), (0 : Nat), At.bool v.lo.neg), ((0 : Nat), (1 : Nat), At.words false v.lo.xs), ((0 : Nat), (2 : Nat), At.int IntKind.i64 v.lo.e), ((0 : Nat), (3 : Nat), At.bool v.hi.neg), ((0 : Nat), (4 : Nat), At.words false v.hi.xs), ((0 : Nat), (5 : Nat), At.int IntKind.i64 v.hi.e), ((1 : Nat), (0 : Nat), At.bool u.lo.neg), ((1 : Nat), (1 : Nat), At.words false u.lo.xs), ((1 : Nat), (2 : Nat), At.int IntKind.i64 u.lo.e), ((1 : Nat), (3 : Nat), At.bool u.hi.neg), ((1 : Nat), (4 : Nat), At.words false u.hi.xs), ((1 : Nat), (5 : Nat), At.int IntKind.i64 u.hi.e), ((35 : Nat), (0 : Nat), At.bool (fB v (minI (Int.tmod m (17 : Int)) (Int.tmod n (17 : Int)))).neg), ((35 : Nat), (1 : Nat), At.words true (fB v (minI (Int.tmod m (17 : Int)) (Int.tmod n (17 : Int)))).xs), ((35 : Nat), (2 : Nat), At.int IntKind.i64 (fB v (minI (Int.tmod m (17 : Int)) (Int.tmod n (17 : Int)))).e), ((35 : Nat), (3 : Nat), At.bool (fB v (maxI (Int.tmod m (17 : Int)) (Int.tmod n (17 : Int)))).neg), ((35 : Nat), (4 : Nat), At.words true (fB v (maxI (Int.tmod m (17 : Int)) (Int.tmod n (17 : Int)))).xs), ((35 : Nat), (5 : Nat), At.int IntKind.i64 (fB v (maxI (Int.tmod m (17 : Int)) (Int.tmod n (17 : Int)))).e)] (38 : Nat) ∧ Int.toNat ((5 : Int) - a') < Int.toNat ((5 : Int) - a)))                                                   (inR (a + (1 : Int)) ∧ true = true ∧ ∃ (a' : Int), ((0 : Int) ≤ a' ∧ a' ≤ (5 : Int)) ∧ Sg.mk [((2 : Nat), Tv.sv (Sv.one (At.int IntKind.i64 p))), ((3 : Nat), Tv.sv (Sv.one (At.int IntKind.i64 q))), ((6 : Nat), Tv.sv (Sv.one (At.ptr (0 : Nat) (0 : Nat)))), ((7 : Nat), Tv.sv (Sv.one (At.ptr (1 : Nat) (0 : Nat)))), ((13 : Nat), Tv.sv (Sv.one (At.ptr (35 : Nat) (0 : Nat)))), ((14 : Nat), Tv.sv (Sv.one (At.int IntKind.i64 (a + (1 : Int)))))] [((0 : Nat), (0 : Nat), At.bool v.lo.neg), ((0 : Nat), (1 : Nat), At.words false v.lo.xs), ((0 : Nat), (2 : Nat), At.int IntKind.i64 v.lo.e), ((0 : Nat), (3 : Nat), At.bool v.hi.neg), ((0 : Nat), (4 : Nat), At.words false v.hi.xs), ((0 : Nat), (5 : Nat), At.int IntKind.i64 v.hi.e), ((1 : Nat), (0 : Nat), At.bool u.lo.neg), ((1 : Nat), (1 : Nat), At.words false u.lo.xs), ((1 : Nat), (2 : Nat), At.int IntKind.i64 u.lo.e), ((1 : Nat), (3 : Nat), At.bool u.hi.neg), ((1 : Nat), (4 : Nat), At.words false u.hi.xs), ((1 : Nat), (5 : Nat), At.int IntKind.i64 u.hi.e), ((35 : Nat), (0 : Nat), At.bool (fB v (minI (Int.tmod m (17 : Int)) (Int.tmod n (17 : Int)))).neg), ((35 : Nat), (1 : Nat), At.words true (fB v (minI (Int.tmod m (17 : Int)) (Int.tmod n (17 : Int)))).xs), ((35 : Nat), (2 : Nat), At.int IntKind.i64 (fB v (minI (Int.tmod m (17 : Int)) (Int.tmod n (17 : Int)))).e), ((35 : Nat), (3 : Nat), At.bool (fB v (maxI (Int.tmod m (17 : Int)) (Int.tmod n (17 : Int)))).neg), ((35 : Nat), (4 : Nat), At.words true (fB v (maxI (Int.tmod m (17 : Int)) (Int.tmod n (17 : Int)))).xs), ((35 : Nat), (5 : Nat), At.int IntKind.i64 (fB v (maxI (Int.tmod m (17 : Int)) (Int.tmod n (17 : Int)))).e)] (38 : Nat) = Sg.mk [((2 : Nat), Tv.sv (Sv.one (At.int IntKind.i64 p))), ((3 : Nat), Tv.sv (Sv.one (At.int IntKind.i64 q))), ((6 : Nat), Tv.sv (Sv.one (At.ptr (0 : Nat) (0 : Nat)))), ((7 : Nat), Tv.sv (Sv.one (At.ptr (1 : Nat) (0 : Nat)))), ((13 : Nat), Tv.sv (Sv.one (At.ptr (35 : Nat) (0 : Nat)))), ((14 : Nat), Tv.sv (Sv.one (At.int IntKind.i64 a')))] [((0 : Nat), (0 : Nat), At.bool v.lo.neg), ((0 : Nat), (1 : Nat), At.words false v.lo.xs), ((0 : Nat), (2 : Nat), At.int IntKind.i64 v.lo.e), ((0 : Nat), (3 : Nat), At.bool v.hi.neg), ((0 : Nat), (4 : Nat), At.words false v.hi.xs), ((0 : Nat), (5 : Nat), At.int IntKind.i64 v.hi.e), ((1 : Nat), (0 : Nat), At.bool u.lo.neg), ((1 : Nat), (1 : Nat), At.words false u.lo.xs), ((1 : Nat), (2 : Nat), At.int IntKind.i64 u.lo.e), ((1 : Nat), (3 : Nat), At.bool u.hi.neg), ((1 : Nat), (4 : Nat), At.words false u.hi.xs), ((1 : Nat), (5 : Nat), At.int IntKind.i64 u.hi.e), ((35 : Nat), (0 : Nat), At.bool (fB v (minI (Int.tmod m (17 : Int)) (Int.tmod n (17 : Int)))).neg), ((35 : Nat), (1 : Nat), At.words true (fB v (minI (Int.tmod m (17 : Int)) (Int.tmod n (17 : Int)))).xs), ((35 : Nat), (2 : Nat), At.int IntKind.i64 (fB v (minI (Int.tmod m (17 : Int)) (Int.tmod n (17 : Int)))).e), ((35 : Nat), (3 : Nat), At.bool (fB v (maxI (Int.tmod m (17 : Int)) (Int.tmod n (17 : Int)))).neg), ((35 : Nat), (4 : Nat), At.words true (fB v (maxI (Int.tmod m (17 : Int)) (Int.tmod n (17 : Int)))).xs), ((35 : Nat), (5 : Nat), At.int IntKind.i64 (fB v (maxI (Int.tmod m (17 : Int)) (Int.tmod n (17 : Int)))).e)] (38 : Nat) ∧ Int.toNat ((5 : Int) - a') < Int.toNat ((5 : Int) - a)))                                                 (inR (a + (1 : Int)) ∧ true = true ∧ ∃ (a' : Int), ((0 : Int) ≤ a' ∧ a' ≤ (5 : Int)) ∧ Sg.mk [((2 : Nat), Tv.sv (Sv.one (At.int IntKind.i64 p))), ((3 : Nat), Tv.sv (Sv.one (At.int IntKind.i64 q))), ((6 : Nat), Tv.sv (Sv.one (At.ptr (0 : Nat) (0 : Nat)))), ((7 : Nat), Tv.sv (Sv.one (At.ptr (1 : Nat) (0 : Nat)))), ((13 : Nat), Tv.sv (Sv.one (At.ptr (35 : Nat) (0 : Nat)))), ((14 : Nat), Tv.sv (Sv.one (At.int IntKind.i64 (a + (1 : Int)))))] [((0 : Nat), (0 : Nat), At.bool v.lo.neg), ((0 : Nat), (1 : Nat), At.words false v.lo.xs), ((0 : Nat), (2 : Nat), At.int IntKind.i64 v.lo.e), ((0 : Nat), (3 : Nat), At.bool v.hi.neg), ((0 : Nat), (4 : Nat), At.words false v.hi.xs), ((0 : Nat), (5 : Nat), At.int IntKind.i64 v.hi.e), ((1 : Nat), (0 : Nat), At.bool u.lo.neg), ((1 : Nat), (1 : Nat), At.words false u.lo.xs), ((1 : Nat), (2 : Nat), At.int IntKind.i64 u.lo.e), ((1 : Nat), (3 : Nat), At.bool u.hi.neg), ((1 : Nat), (4 : Nat), At.words false u.hi.xs), ((1 : Nat), (5 : Nat), At.int IntKind.i64 u.hi.e), ((35 : Nat), (0 : Nat), At.bool (fB v (minI (Int.tmod m (17 : Int)) (Int.tmod n (17 : Int)))).neg), ((35 : Nat), (1 : Nat), At.words true (fB v (minI (Int.tmod m (17 : Int)) (Int.tmod n (17 : Int)))).xs), ((35 : Nat), (2 : Nat), At.int IntKind.i64 (fB v (minI (Int.tmod m (17 : Int)) (Int.tmod n (17 : Int)))).e), ((35 : Nat), (3 : Nat), At.bool (fB v (maxI (Int.tmod m (17 : Int)) (Int.tmod n (17 : Int)))).neg), ((35 : Nat), (4 : Nat), At.words true (fB v (maxI (Int.tmod m (17 : Int)) (Int.tmod n (17 : Int)))).xs), ((35 : Nat), (5 : Nat), At.int IntKind.i64 (fB v (maxI (Int.tmod m (17 : Int)) (Int.tmod n (17 : Int)))).e)] (38 : Nat) = Sg.mk [((2 : Nat), Tv.sv (Sv.one (At.int IntKind.i64 p))), ((3 : Nat), Tv.sv (Sv.one (At.int IntKind.i64 q))), ((6 : Nat), Tv.sv (Sv.one (At.ptr (0 : Nat) (0 : Nat)))), ((7 : Nat), Tv.sv (Sv.one (At.ptr (1 : Nat) (0 : Nat)))), ((13 : Nat), Tv.sv (Sv.one (At.ptr (35 : Nat) (0 : Nat)))), ((14 : Nat), Tv.sv (Sv.one (At.int IntKind.i64 a')))] [((0 : Nat), (0 : Nat), At.bool v.lo.neg), ((0 : Nat), (1 : Nat), At.words false v.lo.xs), ((0 : Nat), (2 : Nat), At.int IntKind.i64 v.lo.e), ((0 : Nat), (3 : Nat), At.bool v.hi.neg), ((0 : Nat), (4 : Nat), At.words false v.hi.xs), ((0 : Nat), (5 : Nat), At.int IntKind.i64 v.hi.e), ((1 : Nat), (0 : Nat), At.bool u.lo.neg), ((1 : Nat), (1 : Nat), At.words false u.lo.xs), ((1 : Nat), (2 : Nat), At.int IntKind.i64 u.lo.e), ((1 : Nat), (3 : Nat), At.bool u.hi.neg), ((1 : Nat), (4 : Nat), At.words false u.hi.xs), ((1 : Nat), (5 : Nat), At.int IntKind.i64 u.hi.e), ((35 : Nat), (0 : Nat), At.bool (fB v (minI (Int.tmod m (17 : Int)) (Int.tmod n (17 : Int)))).neg), ((35 : Nat), (1 : Nat), At.words true (fB v (minI (Int.tmod m (17 : Int)) (Int.tmod n (17 : Int)))).xs), ((35 : Nat), (2 : Nat), At.int IntKind.i64 (fB v (minI (Int.tmod m (17 : Int)) (Int.tmod n (17 : Int)))).e), ((35 : Nat), (3 : Nat), At.bool (fB v (maxI (Int.tmod m (17 : Int)) (Int.tmod n (17 : Int)))).neg), ((35 : Nat), (4 : Nat), At.words true (fB v (maxI (Int.tmod m (17 : Int)) (Int.tmod n (17 : Int)))).xs), ((35 : Nat), (5 : Nat), At.int IntKind.i64 (fB v (maxI (Int.tmod m (17 : Int)) (Int.tmod n (17 : Int)))).e)] (38 : Nat) ∧ Int.toNat ((5 : Int) - a') < Int.toNat ((5 : Int) - a))))                                             (br (eqI (fT a v u p).snd (0 : Int))                                               (br (eqI (fT a v u q).snd (0 : Int)) (br (!fW (fT a v u q).fst (fT a v u p).fst) (Q (Tv.sv (Sv.one (At.bool false)))) (inR (a + (1 : Int)) ∧ true = true ∧ ∃ (a' : Int), ((0 : Int) ≤ a' ∧ a' ≤ (5 : Int)) ∧ Sg.mk [((2 : Nat), Tv.sv (Sv.one (At.int IntKind.i64 p))), ((3 : Nat), Tv.sv (Sv.one (At.int IntKind.i64 q))), ((6 : Nat), Tv.sv (Sv.one (At.ptr (0 : Nat) (0 : Nat)))), ((7 : Nat), Tv.sv (Sv.one (At.ptr (1 : Nat) (0 : Nat)))), ((13 : Nat), Tv.sv (Sv.one (At.ptr (35 : Nat) (0 : Nat)))), ((14 : Nat), Tv.sv (Sv.one (At.int IntKind.i64 (a + (1 : Int)))))] [((0 : Nat), (0 : Nat), At.bool v.lo.neg), ((0 : Nat), (1 : Nat), At.words false v.lo.xs), ((0 : Nat), (2 : Nat), At.int IntKind.i64 v.lo.e), ((0 : Nat), (3 : Nat), At.bool v.hi.neg), ((0 : Nat), (4 : Nat), At.words false v.hi.xs), ((0 : Nat), (5 : Nat), At.int IntKind.i64 v.hi.e), ((1 : Nat), (0 : Nat), At.bool u.lo.neg), ((1 : Nat), (1 : Nat), At.words false u.lo.xs), ((1 : Nat), (2 : Nat), At.int IntKind.i64 u.lo.e), ((1 : Nat), (3 : Nat), At.bool u.hi.neg), ((1 : Nat), (4 : Nat), At.words false u.hi.xs), ((1 : Nat), (5 : Nat), At.int IntKind.i64 u.hi.e), ((35 : Nat), (0 : Nat), At.bool (fB v (minI (Int.tmod m (17 : Int)) (Int.tmod n (17 : Int)))).neg), ((35 : Nat), (1 : Nat), At.words true (fB v (minI (Int.tmod m (17 : Int)) (Int.tmod n (17 : Int)))).xs), ((35 : Nat), (2 : Nat), At.int IntKind.i64 (fB v (minI (Int.tmod m (17 : Int)) (Int.tmod n (17 : Int)))).e), ((35 : Nat), (3 : Nat), At.bool (fB v (maxI (Int.tmod m (17 : Int)) (Int.tmod n (17 : Int)))).neg), ((35 : Nat), (4 : Nat), At.words true (fB v (maxI (Int.tmod m (17 : Int)) (Int.tmod n (17 : Int)))).xs), ((35 : Nat), (5 : Nat), At.int IntKind.i64 (fB v (maxI (Int.tmod m (17 : Int)) (Int.tmod n (17 : Int)))).e)] (38 : Nat) = Sg.mk [((2 : Nat), Tv.sv (Sv.one (At.int IntKind.i64 p))), ((3 : Nat), Tv.sv (Sv.one (At.int IntKind.i64 q))), ((6 : Nat), Tv.sv (Sv.one (At.ptr (0 : Nat) (0 : Nat)))), ((7 : Nat), Tv.sv (Sv.one (At.ptr (1 : Nat) (0 : Nat)))), ((13 : Nat), Tv.sv (Sv.one (At.ptr (35 : Nat) (0 : Nat)))), ((14 : Nat), Tv.sv (Sv.one (At.int IntKind.i64 a')))] [((0 : Nat), (0 : Nat), At.bool v.lo.neg), ((0 : Nat), (1 : Nat), At.words false v.lo.xs), ((0 : Nat), (2 : Nat), At.int IntKind.i64 v.lo.e), ((0 : Nat), (3 : Nat), At.bool v.hi.neg), ((0 : Nat), (4 : Nat), At.words false v.hi.xs), ((0 : Nat), (5 : Nat), At.int IntKind.i64 v.hi.e), ((1 : Nat), (0 : Nat), At.bool u.lo.neg), ((1 : Nat), (1 : Nat), At.words false u.lo.xs), ((1 : Nat), (2 : Nat), At.int IntKind.i64 u.lo.e), ((1 : Nat), (3 : Nat), At.bool u.hi.neg), ((1 : Nat), (4 : Nat), At.words false u.hi.xs), ((1 : Nat), (5 : Nat), At.int IntKind.i64 u.hi.e), ((35 : Nat), (0 : Nat), At.bool (fB v (minI (Int.tmod m (17 : Int)) (Int.tmod n (17 : Int)))).neg), ((35 : Nat), (1 : Nat), At.words true (fB v (minI (Int.tmod m (17 : Int)) (Int.tmod n (17 : Int)))).xs), ((35 : Nat), (2 : Nat), At.int IntKind.i64 (fB v (minI (Int.tmod m (17 : Int)) (Int.tmod n (17 : Int)))).e), ((35 : Nat), (3 : Nat), At.bool (fB v (maxI (Int.tmod m (17 : Int)) (Int.tmod n (17 : Int)))).neg), ((35 : Nat), (4 : Nat), At.words true (fB v (maxI (Int.tmod m (17 : Int)) (Int.tmod n (17 : Int)))).xs), ((35 : Nat), (5 : Nat), At.int IntKind.i64 (fB v (maxI (Int.tmod m (17 : Int)) (Int.tmod n (17 : Int)))).e)] (38 : Nat) ∧ Int.toNat ((5 : Int) - a') < Int.toNat ((5 : Int) - a)))                                                 (inR (a + (1 : Int)) ∧ true = true ∧ ∃ (a' : Int), ((0 : Int) ≤ a' ∧ a' ≤ (5 : Int)) ∧ Sg.mk [((2 : Nat), Tv.sv (Sv.one (At.int IntKind.i64 p))), ((3 : Nat), Tv.sv (Sv.one (At.int IntKind.i64 q))), ((6 : Nat), Tv.sv (Sv.one (At.ptr (0 : Nat) (0 : Nat)))), ((7 : Nat), Tv.sv (Sv.one (At.ptr (1 : Nat) (0 : Nat)))), ((13 : Nat), Tv.sv (Sv.one (At.ptr (35 : Nat) (0 : Nat)))), ((14 : Nat), Tv.sv (Sv.one (At.int IntKind.i64 (a + (1 : Int)))))] [((0 : Nat), (0 : Nat), At.bool v.lo.neg), ((0 : Nat), (1 : Nat), At.words false v.lo.xs), ((0 : Nat), (2 : Nat), At.int IntKind.i64 v.lo.e), ((0 : Nat), (3 : Nat), At.bool v.hi.neg), ((0 : Nat), (4 : Nat), At.words false v.hi.xs), ((0 : Nat), (5 : Nat), At.int IntKind.i64 v.hi.e), ((1 : Nat), (0 : Nat), At.bool u.lo.neg), ((1 : Nat), (1 : Nat), At.words false u.lo.xs), ((1 : Nat), (2 : Nat), At.int IntKind.i64 u.lo.e), ((1 : Nat), (3 : Nat), At.bool u.hi.neg), ((1 : Nat), (4 : Nat), At.words false u.hi.xs), ((1 : Nat), (5 : Nat), At.int IntKind.i64 u.hi.e), ((35 : Nat), (0 : Nat), At.bool (fB v (minI (Int.tmod m (17 : Int)) (Int.tmod n (17 : Int)))).neg), ((35 : Nat), (1 : Nat), At.words true (fB v (minI (Int.tmod m (17 : Int)) (Int.tmod n (17 : Int)))).xs), ((35 : Nat), (2 : Nat), At.int IntKind.i64 (fB v (minI (Int.tmod m (17 : Int)) (Int.tmod n (17 : Int)))).e), ((35 : Nat), (3 : Nat), At.bool (fB v (maxI (Int.tmod m (17 : Int)) (Int.tmod n (17 : Int)))).neg), ((35 : Nat), (4 : Nat), At.words true (fB v (maxI (Int.tmod m (17 : Int)) (Int.tmod n (17 : Int)))).xs), ((35 : Nat), (5 : Nat), At.int IntKind.i64 (fB v (maxI (Int.tmod m (17 : Int)) (Int.tmod n (17 : Int)))).e)] (38 : Nat) = Sg.mk [((2 : Nat), Tv.sv (Sv.one (At.int IntKind.i64 p))), ((3 : Nat), Tv.sv (Sv.one (At.int IntKind.i64 q))), ((6 : Nat), Tv.sv (Sv.one (At.ptr (0 : Nat) (0 : Nat)))), ((7 : Nat), Tv.sv (Sv.one (At.ptr (1 : Nat) (0 : Nat)))), ((13 : Nat), Tv.sv (Sv.one (At.ptr (35 : Nat) (0 : Nat)))), ((14 : Nat), Tv.sv (Sv.one (At.int IntKind.i64 a')))] [((0 : Nat), (0 : Nat), At.bool v.lo.neg), ((0 : Nat), (1 : Nat), At.words false v.lo.xs), ((0 : Nat), (2 : Nat), At.int IntKind.i64 v.lo.e), ((0 : Nat), (3 : Nat), At.bool v.hi.neg), ((0 : Nat), (4 : Nat), At.words false v.hi.xs), ((0 : Nat), (5 : Nat), At.int IntKind.i64 v.hi.e), ((1 : Nat), (0 : Nat), At.bool u.lo.neg), ((1 : Nat), (1 : Nat), At.words false u.lo.xs), ((1 : Nat), (2 : Nat), At.int IntKind.i64 u.lo.e), ((1 : Nat), (3 : Nat), At.bool u.hi.neg), ((1 : Nat), (4 : Nat), At.words false u.hi.xs), ((1 : Nat), (5 : Nat), At.int IntKind.i64 u.hi.e), ((35 : Nat), (0 : Nat), At.bool (fB v (minI (Int.tmod m (17 : Int)) (Int.tmod n (17 : Int)))).neg), ((35 : Nat), (1 : Nat), At.words true (fB v (minI (Int.tmod m (17 : Int)) (Int.tmod n (17 : Int)))).xs), ((35 : Nat), (2 : Nat), At.int IntKind.i64 (fB v (minI (Int.tmod m (17 : Int)) (Int.tmod n (17 : Int)))).e), ((35 : Nat), (3 : Nat), At.bool (fB v (maxI (Int.tmod m (17 : Int)) (Int.tmod n (17 : Int)))).neg), ((35 : Nat), (4 : Nat), At.words true (fB v (maxI (Int.tmod m (17 : Int)) (Int.tmod n (17 : Int)))).xs), ((35 : Nat), (5 : Nat), At.int IntKind.i64 (fB v (maxI (Int.tmod m (17 : Int)) (Int.tmod n (17 : Int)))).e)] (38 : Nat) ∧ Int.toNat ((5 : Int) - a') < Int.toNat ((5 : Int) - a)))                                               (inR (a + (1 : Int)) ∧ true = true ∧ ∃ (a' : Int), ((0 : Int) ≤ a' ∧ a' ≤ (5 : Int)) ∧ Sg.mk [((2 : Nat), Tv.sv (Sv.one (At.int IntKind.i64 p))), ((3 : Nat), Tv.sv (Sv.one (At.int IntKind.i64 q))), ((6 : Nat), Tv.sv (Sv.one (At.ptr (0 : Nat) (0 : Nat)))), ((7 : Nat), Tv.sv (Sv.one (At.ptr (1 : Nat) (0 : Nat)))), ((13 : Nat), Tv.sv (Sv.one (At.ptr (35 : Nat) (0 : Nat)))), ((14 : Nat), Tv.sv (Sv.one (At.int IntKind.i64 (a + (1 : Int)))))] [((0 : Nat), (0 : Nat), At.bool v.lo.neg), ((0 : Nat), (1 : Nat), At.words false v.lo.xs), ((0 : Nat), (2 : Nat), At.int IntKind.i64 v.lo.e), ((0 : Nat), (3 : Nat), At.bool v.hi.neg), ((0 : Nat), (4 : Nat), At.words false v.hi.xs), ((0 : Nat), (5 : Nat), At.int IntKind.i64 v.hi.e), ((1 : Nat), (0 : Nat), At.bool u.lo.neg), ((1 : Nat), (1 : Nat), At.words false u.lo.xs), ((1 : Nat), (2 : Nat), At.int IntKind.i64 u.lo.e), ((1 : Nat), (3 : Nat), At.bool u.hi.neg), ((1 : Nat), (4 : Nat), At.words false u.hi.xs), ((1 : Nat), (5 : Nat), At.int IntKind.i64 u.hi.e), ((35 : Nat), (0 : Nat), At.bool (fB v (minI (Int.tmod m (17 : Int)) (Int.tmod n (17 : Int)))).neg), ((35 : Nat), (1 : Nat), At.words true (fB v (minI (Int.tmod m (17 : Int)) (Int.tmod n (17 : Int)))).xs), ((35 : Nat), (2 : Nat), At.int IntKind.i64 (fB v (minI (Int.tmod m (17 : Int)) (Int.tmod n (17 : Int)))).e), ((35 : Nat), (3 : Nat), At.bool (fB v (maxI (Int.tmod m (17 : Int)) (Int.tmod n (17 : Int)))).neg), ((35 : Nat), (4 : Nat), At.words true (fB v (maxI (Int.tmod m (17 : Int)) (Int.tmod n (17 : Int)))).xs), ((35 : Nat), (5 : Nat), At.int IntKind.i64 (fB v (maxI (Int.tmod m (17 : Int)) (Int.tmod n (17 : Int)))).e)] (38 : Nat) = Sg.mk [((2 : Nat), Tv.sv (Sv.one (At.int IntKind.i64 p))), ((3 : Nat), Tv.sv (Sv.one (At.int IntKind.i64 q))), ((6 : Nat), Tv.sv (Sv.one (At.ptr (0 : Nat) (0 : Nat)))), ((7 : Nat), Tv.sv (Sv.one (At.ptr (1 : Nat) (0 : Nat)))), ((13 : Nat), Tv.sv (Sv.one (At.ptr (35 : Nat) (0 : Nat)))), ((14 : Nat), Tv.sv (Sv.one (At.int IntKind.i64 a')))] [((0 : Nat), (0 : Nat), At.bool v.lo.neg), ((0 : Nat), (1 : Nat), At.words false v.lo.xs), ((0 : Nat), (2 : Nat), At.int IntKind.i64 v.lo.e), ((0 : Nat), (3 : Nat), At.bool v.hi.neg), ((0 : Nat), (4 : Nat), At.words false v.hi.xs), ((0 : Nat), (5 : Nat), At.int IntKind.i64 v.hi.e), ((1 : Nat), (0 : Nat), At.bool u.lo.neg), ((1 : Nat), (1 : Nat), At.words false u.lo.xs), ((1 : Nat), (2 : Nat), At.int IntKind.i64 u.lo.e), ((1 : Nat), (3 : Nat), At.bool u.hi.neg), ((1 : Nat), (4 : Nat), At.words false u.hi.xs), ((1 : Nat), (5 : Nat), At.int IntKind.i64 u.hi.e), ((35 : Nat), (0 : Nat), At.bool (fB v (minI (Int.tmod m (17 : Int)) (Int.tmod n (17 : Int)))).neg), ((35 : Nat), (1 : Nat), At.words true (fB v (minI (Int.tmod m (17 : Int)) (Int.tmod n (17 : Int)))).xs), ((35 : Nat), (2 : Nat), At.int IntKind.i64 (fB v (minI (Int.tmod m (17 : Int)) (Int.tmod n (17 : Int)))).e), ((35 : Nat), (3 : Nat), At.bool (fB v (maxI (Int.tmod m (17 : Int)) (Int.tmod n (17 : Int)))).neg), ((35 : Nat), (4 : Nat), At.words true (fB v (maxI (Int.tmod m (17 : Int)) (Int.tmod n (17 : Int)))).xs), ((35 : Nat), (5 : Nat), At.int IntKind.i64 (fB v (maxI (Int.tmod m (17 : Int)) (Int.tmod n (17 : Int)))).e)] (38 : Nat) ∧ Int.toNat ((5 : Int) - a') < Int.toNat ((5 : Int) - a))))                                           (br (eqI (fT a v u p).snd (0 : Int))                                             (br (eqI (fT a v u q).snd (0 : Int)) (br (!fW (fT a v u q).fst (fT a v u p).fst) (Q (Tv.sv (Sv.one (At.bool false)))) (inR (a + (1 : Int)) ∧ true = true ∧ ∃ (a' : Int), ((0 : Int) ≤ a' ∧ a' ≤ (5 : Int)) ∧ Sg.mk [((2 : Nat), Tv.sv (Sv.one (At.int IntKind.i64 p))), ((3 : Nat), Tv.sv (Sv.one (At.int IntKind.i64 q))), ((6 : Nat), Tv.sv (Sv.one (At.ptr (0 : Nat) (0 : Nat)))), ((7 : Nat), Tv.sv (Sv.one (At.ptr (1 : Nat) (0 : Nat)))), ((13 : Nat), Tv.sv (Sv.one (At.ptr (35 : Nat) (0 : Nat)))), ((14 : Nat), Tv.sv (Sv.one (At.int IntKind.i64 (a + (1 : Int)))))] [((0 : Nat), (0 : Nat), At.bool v.lo.neg), ((0 : Nat), (1 : Nat), At.words false v.lo.xs), ((0 : Nat), (2 : Nat), At.int IntKind.i64 v.lo.e), ((0 : Nat), (3 : Nat), At.bool v.hi.neg), ((0 : Nat), (4 : Nat), At.words false v.hi.xs), ((0 : Nat), (5 : Nat), At.int IntKind.i64 v.hi.e), ((1 : Nat), (0 : Nat), At.bool u.lo.neg), ((1 : Nat), (1 : Nat), At.words false u.lo.xs), ((1 : Nat), (2 : Nat), At.int IntKind.i64 u.lo.e), ((1 : Nat), (3 : Nat), At.bool u.hi.neg), ((1 : Nat), (4 : Nat), At.words false u.hi.xs), ((1 : Nat), (5 : Nat), At.int IntKind.i64 u.hi.e), ((35 : Nat), (0 : Nat), At.bool (fB v (minI (Int.tmod m (17 : Int)) (Int.tmod n (17 : Int)))).neg), ((35 : Nat), (1 : Nat), At.words true (fB v (minI (Int.tmod m (17 : Int)) (Int.tmod n (17 : Int)))).xs), ((35 : Nat), (2 : Nat), At.int IntKind.i64 (fB v (minI (Int.tmod m (17 : Int)) (Int.tmod n (17 : Int)))).e), ((35 : Nat), (3 : Nat), At.bool (fB v (maxI (Int.tmod m (17 : Int)) (Int.tmod n (17 : Int)))).neg), ((35 : Nat), (4 : Nat), At.words true (fB v (maxI (Int.tmod m (17 : Int)) (Int.tmod n (17 : Int)))).xs), ((35 : Nat), (5 : Nat), At.int IntKind.i64 (fB v (maxI (Int.tmod m (17 : Int)) (Int.tmod n (17 : Int)))).e)] (38 : Nat) = Sg.mk [((2 : Nat), Tv.sv (Sv.one (At.int IntKind.i64 p))), ((3 : Nat), Tv.sv (Sv.one (At.int IntKind.i64 q))), ((6 : Nat), Tv.sv (Sv.one (At.ptr (0 : Nat) (0 : Nat)))), ((7 : Nat), Tv.sv (Sv.one (At.ptr (1 : Nat) (0 : Nat)))), ((13 : Nat), Tv.sv (Sv.one (At.ptr (35 : Nat) (0 : Nat)))), ((14 : Nat), Tv.sv (Sv.one (At.int IntKind.i64 a')))] [((0 : Nat), (0 : Nat), At.bool v.lo.neg), ((0 : Nat), (1 : Nat), At.words false v.lo.xs), ((0 : Nat), (2 : Nat), At.int IntKind.i64 v.lo.e), ((0 : Nat), (3 : Nat), At.bool v.hi.neg), ((0 : Nat), (4 : Nat), At.words false v.hi.xs), ((0 : Nat), (5 : Nat), At.int IntKind.i64 v.hi.e), ((1 : Nat), (0 : Nat), At.bool u.lo.neg), ((1 : Nat), (1 : Nat), At.words false u.lo.xs), ((1 : Nat), (2 : Nat), At.int IntKind.i64 u.lo.e), ((1 : Nat), (3 : Nat), At.bool u.hi.neg), ((1 : Nat), (4 : Nat), At.words false u.hi.xs), ((1 : Nat), (5 : Nat), At.int IntKind.i64 u.hi.e), ((35 : Nat), (0 : Nat), At.bool (fB v (minI (Int.tmod m (17 : Int)) (Int.tmod n (17 : Int)))).neg), ((35 : Nat), (1 : Nat), At.words true (fB v (minI (Int.tmod m (17 : Int)) (Int.tmod n (17 : Int)))).xs), ((35 : Nat), (2 : Nat), At.int IntKind.i64 (fB v (minI (Int.tmod m (17 : Int)) (Int.tmod n (17 : Int)))).e), ((35 : Nat), (3 : Nat), At.bool (fB v (maxI (Int.tmod m (17 : Int)) (Int.tmod n (17 : Int)))).neg), ((35 : Nat), (4 : Nat), At.words true (fB v (maxI (Int.tmod m (17 : Int)) (Int.tmod n (17 : Int)))).xs), ((35 : Nat), (5 : Nat), At.int IntKind.i64 (fB v (maxI (Int.tmod m (17 : Int)) (Int.tmod n (17 : Int)))).e)] (38 : Nat) ∧ Int.toNat ((5 : Int) - a') < Int.toNat ((5 : Int) - a)))                                               (inR (a + (1 : Int)) ∧ true = true ∧ ∃ (a' : Int), ((0 : Int) ≤ a' ∧ a' ≤ (5 : Int)) ∧ Sg.mk [((2 : Nat), Tv.sv (Sv.one (At.int IntKind.i64 p))), ((3 : Nat), Tv.sv (Sv.one (At.int IntKind.i64 q))), ((6 : Nat), Tv.sv (Sv.one (At.ptr (0 : Nat) (0 : Nat)))), ((7 : Nat), Tv.sv (Sv.one (At.ptr (1 : Nat) (0 : Nat)))), ((13 : Nat), Tv.sv (Sv.one (At.ptr (35 : Nat) (0 : Nat)))), ((14 : Nat), Tv.sv (Sv.one (At.int IntKind.i64 (a + (1 : Int)))))] [((0 : Nat), (0 : Nat), At.bool v.lo.neg), ((0 : Nat), (1 : Nat), At.words false v.lo.xs), ((0 : Nat), (2 : Nat), At.int IntKind.i64 v.lo.e), ((0 : Nat), (3 : Nat), At.bool v.hi.neg), ((0 : Nat), (4 : Nat), At.words false v.hi.xs), ((0 : Nat), (5 : Nat), At.int IntKind.i64 v.hi.e), ((1 : Nat), (0 : Nat), At.bool u.lo.neg), ((1 : Nat), (1 : Nat), At.words false u.lo.xs), ((1 : Nat), (2 : Nat), At.int IntKind.i64 u.lo.e), ((1 : Nat), (3 : Nat), At.bool u.hi.neg), ((1 : Nat), (4 : Nat), At.words false u.hi.xs), ((1 : Nat), (5 : Nat), At.int IntKind.i64 u.hi.e), ((35 : Nat), (0 : Nat), At.bool (fB v (minI (Int.tmod m (17 : Int)) (Int.tmod n (17 : Int)))).neg), ((35 : Nat), (1 : Nat), At.words true (fB v (minI (Int.tmod m (17 : Int)) (Int.tmod n (17 : Int)))).xs), ((35 : Nat), (2 : Nat), At.int IntKind.i64 (fB v (minI (Int.tmod m (17 : Int)) (Int.tmod n (17 : Int)))).e), ((35 : Nat), (3 : Nat), At.bool (fB v (maxI (Int.tmod m (17 : Int)) (Int.tmod n (17 : Int)))).neg), ((35 : Nat), (4 : Nat), At.words true (fB v (maxI (Int.tmod m (17 : Int)) (Int.tmod n (17 : Int)))).xs), ((35 : Nat), (5 : Nat), At.int IntKind.i64 (fB v (maxI (Int.tmod m (17 : Int)) (Int.tmod n (17 : Int)))).e)] (38 : Nat) = Sg.mk [((2 : Nat), Tv.sv (Sv.one (At.int IntKind.i64 p))), ((3 : Nat), Tv.sv (Sv.one (At.int IntKind.i64 q))), ((6 : Nat), Tv.sv (Sv.one (At.ptr (0 : Nat) (0 : Nat)))), ((7 : Nat), Tv.sv (Sv.one (At.ptr (1 : Nat) (0 : Nat)))), ((13 : Nat), Tv.sv (Sv.one (At.ptr (35 : Nat) (0 : Nat)))), ((14 : Nat), Tv.sv (Sv.one (At.int IntKind.i64 a')))] [((0 : Nat), (0 : Nat), At.bool v.lo.neg), ((0 : Nat), (1 : Nat), At.words false v.lo.xs), ((0 : Nat), (2 : Nat), At.int IntKind.i64 v.lo.e), ((0 : Nat), (3 : Nat), At.bool v.hi.neg), ((0 : Nat), (4 : Nat), At.words false v.hi.xs), ((0 : Nat), (5 : Nat), At.int IntKind.i64 v.hi.e), ((1 : Nat), (0 : Nat), At.bool u.lo.neg), ((1 : Nat), (1 : Nat), At.words false u.lo.xs), ((1 : Nat), (2 : Nat), At.int IntKind.i64 u.lo.e), ((1 : Nat), (3 : Nat), At.bool u.hi.neg), ((1 : Nat), (4 : Nat), At.words false u.hi.xs), ((1 : Nat), (5 : Nat), At.int IntKind.i64 u.hi.e), ((35 : Nat), (0 : Nat), At.bool (fB v (minI (Int.tmod m (17 : Int)) (Int.tmod n (17 : Int)))).neg), ((35 : Nat), (1 : Nat), At.words true (fB v (minI (Int.tmod m (17 : Int)) (Int.tmod n (17 : Int)))).xs), ((35 : Nat), (2 : Nat), At.int IntKind.i64 (fB v (minI (Int.tmod m (17 : Int)) (Int.tmod n (17 : Int)))).e), ((35 : Nat), (3 : Nat), At.bool (fB v (maxI (Int.tmod m (17 : Int)) (Int.tmod n (17 : Int)))).neg), ((35 : Nat), (4 : Nat), At.words true (fB v (maxI (Int.tmod m (17 : Int)) (Int.tmod n (17 : Int)))).xs), ((35 : Nat), (5 : Nat), At.int IntKind.i64 (fB v (maxI (Int.tmod m (17 : Int)) (Int.tmod n (17 : Int)))).e)] (38 : Nat) ∧ Int.toNat ((5 : Int) - a') < Int.toNat ((5 : Int) - a)))                                             (inR (a + (1 : Int)) ∧ true = true ∧ ∃ (a' : Int), ((0 : Int) ≤ a' ∧ a' ≤ (5 : Int)) ∧ Sg.mk [((2 : Nat), Tv.sv (Sv.one (At.int IntKind.i64 p))), ((3 : Nat), Tv.sv (Sv.one (At.int IntKind.i64 q))), ((6 : Nat), Tv.sv (Sv.one (At.ptr (0 : Nat) (0 : Nat)))), ((7 : Nat), Tv.sv (Sv.one (At.ptr (1 : Nat) (0 : Nat)))), ((13 : Nat), Tv.sv (Sv.one (At.ptr (35 : Nat) (0 : Nat)))), ((14 : Nat), Tv.sv (Sv.one (At.int IntKind.i64 (a + (1 : Int)))))] [((0 : Nat), (0 : Nat), At.bool v.lo.neg), ((0 : Nat), (1 : Nat), At.words false v.lo.xs), ((0 : Nat), (2 : Nat), At.int IntKind.i64 v.lo.e), ((0 : Nat), (3 : Nat), At.bool v.hi.neg), ((0 : Nat), (4 : Nat), At.words false v.hi.xs), ((0 : Nat), (5 : Nat), At.int IntKind.i64 v.hi.e), ((1 : Nat), (0 : Nat), At.bool u.lo.neg), ((1 : Nat), (1 : Nat), At.words false u.lo.xs), ((1 : Nat), (2 : Nat), At.int IntKind.i64 u.lo.e), ((1 : Nat), (3 : Nat), At.bool u.hi.neg), ((1 : Nat), (4 : Nat), At.words false u.hi.xs), ((1 : Nat), (5 : Nat), At.int IntKind.i64 u.hi.e), ((35 : Nat), (0 : Nat), At.bool (fB v (minI (Int.tmod m (17 : Int)) (Int.tmod n (17 : Int)))).neg), ((35 : Nat), (1 : Nat), At.words true (fB v (minI (Int.tmod m (17 : Int)) (Int.tmod n (17 : Int)))).xs), ((35 : Nat), (2 : Nat), At.int IntKind.i64 (fB v (minI (Int.tmod m (17 : Int)) (Int.tmod n (17 : Int)))).e), ((35 : Nat), (3 : Nat), At.bool (fB v (maxI (Int.tmod m (17 : Int)) (Int.tmod n (17 : Int)))).neg), ((35 : Nat), (4 : Nat), At.words true (fB v (maxI (Int.tmod m (17 : Int)) (Int.tmod n (17 : Int)))).xs), ((35 : Nat), (5 : Nat), At.int IntKind.i64 (fB v (maxI (Int.tmod m (17 : Int)) (Int.tmod n (17 : Int)))).e)] (38 : Nat) = Sg.mk [((2 : Nat), Tv.sv (Sv.one (At.int IntKind.i64 p))), ((3 : Nat), Tv.sv (Sv.one (At.int IntKind.i64 q))), ((6 : Nat), Tv.sv (Sv.one (At.ptr (0 : Nat) (0 : Nat)))), ((7 : Nat), Tv.sv (Sv.one (At.ptr (1 : Nat) (0 : Nat)))), ((13 : Nat), Tv.sv (Sv.one (At.ptr (35 : Nat) (0 : Nat)))), ((14 : Nat), Tv.sv (Sv.one (At.int IntKind.i64 a')))] [((0 : Nat), (0 : Nat), At.bool v.lo.neg), ((0 : Nat), (1 : Nat), At.words false v.lo.xs), ((0 : Nat), (2 : Nat), At.int IntKind.i64 v.lo.e), ((0 : Nat), (3 : Nat), At.bool v.hi.neg), ((0 : Nat), (4 : Nat), At.words false v.hi.xs), ((0 : Nat), (5 : Nat), At.int IntKind.i64 v.hi.e), ((1 : Nat), (0 : Nat), At.bool u.lo.neg), ((1 : Nat), (1 : Nat), At.words false u.lo.xs), ((1 : Nat), (2 : Nat), At.int IntKind.i64 u.lo.e), ((1 : Nat), (3 : Nat), At.bool u.hi.neg), ((1 : Nat), (4 : Nat), At.words false u.hi.xs), ((1 : Nat), (5 : Nat), At.int IntKind.i64 u.hi.e), ((35 : Nat), (0 : Nat), At.bool (fB v (minI (Int.tmod m (17 : Int)) (Int.tmod n (17 : Int)))).neg), ((35 : Nat), (1 : Nat), At.words true (fB v (minI (Int.tmod m (17 : Int)) (Int.tmod n (17 : Int)))).xs), ((35 : Nat), (2 : Nat), At.int IntKind.i64 (fB v (minI (Int.tmod m (17 : Int)) (Int.tmod n (17 : Int)))).e), ((35 : Nat), (3 : Nat), At.bool (fB v (maxI (Int.tmod m (17 : Int)) (Int.tmod n (17 : Int)))).neg), ((35 : Nat), (4 : Nat), At.words true (fB v (maxI (Int.tmod m (17 : Int)) (Int.tmod n (17 : Int)))).xs), ((35 : Nat), (5 : Nat), At.int IntKind.i64 (fB v (maxI (Int.tmod m (17 : Int)) (Int.tmod n (17 : Int)))).e)] (38 : Nat) ∧ Int.toNat ((5 : Int) - a') < Int.toNat ((5 : Int) - a))))                                   (Q (Tv.sv (Sv.one (At.bool true)))))))) := by kernel_rfl
def sEn (fA fS fM fD : Vx → Vx → Int → Vx × Int) (fQ : Vx → Int → Vx × Int) (fB : Vx → Int → Dx) (fR : Vx → Bool) (fE : Vx → Dx → Bool) (fP fL fT : Dx → Dx → Dx) (fO : Dx → Dx → Int) (fG : Dx → Int) : List (FuncId × Spec) :=
  [(14, wVV fA), (43, wVV fS), (36, wVV fM), (44, wVV fD), (45, wVI fQ), (42, wBt fB), (22, wVB fR), (46, wEn fE), (37, wDD 68719476736 fP), (47, wDD 34359738368 fL), (38, wDD 68719476736 fT), (49, wOr 34359738368 fO), (48, wSg fG), (12, lBeg)]
theorem sEn_ok : SpecsOk Tryd.prog (sEn ivAdd ivSub ivMul ivDiv ivSqrt betwD rightV liesV plusD lessD timesD cmpD Dx.sgn) := ⟨vXAdd_ok, vXSub_ok, vXMul_ok, vXDiv_ok, vXSqrt_ok, lBetw_ok, gRight_ok, lEncl_ok, fPlus_ok, fLess_ok, fTimes_ok, fOrder_ok, fSign_ok, lBeg_ok, trivial⟩
def encSt (x y : Dx) (q : Vx × Int) (r : Vx × Int) (_ : Unit) : List (Nat × Tv) × List (Nat × Nat × At) :=
  ([(19, pT 64), (20, iT q.2), (21, pT 73), (22, iT r.2), (11, pT 18), (12, pT 25)], clD 18 true x ++ (clD 25 true y ++ (clV 64 false q.1 ++ clV 73 false r.1)))
def encSt2 (x : Dx) (r : Vx × Int) (_ : Unit) : List (Nat × Tv) × List (Nat × Nat × At) :=
  ([(21, pT 73), (22, iT r.2), (11, pT 18)], clD 18 true x ++ clV 73 false r.1)
def encInv (x y : Dx) (q r : Vx × Int) (k : Nat) : Option LInv :=
  match Nat.beq 14 k with
  | true => some (.cut ⟨[19, 20, 21, 22, 11, 12], [(18, 3), (25, 3), (64, 6), (73, 6)], 76⟩ Unit (encSt x y q r) (fun _ => True))
  | false => match Nat.beq 22 k with
    | true => some (.cut ⟨[21, 22, 11], [(18, 3), (73, 6)], 76⟩ Unit (encSt2 x r) (fun _ => True))
    | false => none
theorem lEnc_vc (fA fS fM fD : Vx → Vx → Int → Vx × Int) (fQ : Vx → Int → Vx × Int) (fB : Vx → Int → Dx) (fR : Vx → Bool) (fE : Vx → Dx → Bool) (fP fL fT : Dx → Dx → Dx) (fO : Dx → Dx → Int) (fG : Dx → Int) (v u : Vx) (p m n : Int) (Q : Tv → Prop) : execF ⟨tys2, sEn fA fS fM fD fQ fB fR fE fP fL fT fO fG⟩ (encInv (fB v (m.tmod 17)) (fB u (n.tmod 17)) (fD v u p) (fQ v p)) 0 Tryd.f9 [.agg (ivL false v), .agg (ivL false u), .one (.int .i64 p), .one (.int .u8 m), .one (.int .u8 n)] Q = (br (!fR v) (Q (Tv.sv (Sv.one (At.bool true))))   (br (!fR u) (Q (Tv.sv (Sv.one (At.bool true))))     ((17 : Int) ≠ (0 : Int) ∧       inR (Int.tmod m (17 : Int)) ∧         (Vx.Sm (65536 : Nat) v ∧ (0 : Int) ≤ Int.tmod m (17 : Int) ∧ Int.tmod m (17 : Int) ≤ (16 : Int)) ∧           (17 : Int) ≠ (0 : Int) ∧             inR (Int.tmod n (17 : Int)) ∧               (Vx.Sm (65536 : Nat) u ∧ (0 : Int) ≤ Int.tmod n (17 : Int) ∧ Int.tmod n (17 : Int) ≤ (16 : Int)) ∧                 br (eqI (fA v u p).snd (0 : Int))                     ((Dx.Sm (68719476736 : Nat) (fB v (Int.tmod m (17 : Int))) ∧ Dx.Sm (68719476736 : Nat) (fB u (Int.tmod n (17 : Int)))) ∧                       (Vx.Sm (34359738368 : Nat) (fA v u p).fst ∧ Dx.Sm (34359738368 : Nat) (fP (fB v (Int.tmod m (17 : Int))) (fB u (Int.tmod n (17 : Int))))) ∧                         br (!fE (fA v u p).fst (fP (fB v (Int.tmod m (17 : Int))) (fB u (Int.tmod n (17 : Int))))) (true = true ∧ Q (Tv.sv (Sv.one (At.bool false))))                           (br (eqI (fS v u p).snd (0 : Int))                             ((Dx.Sm (34359738368 : Nat) (fB v (Int.tmod m (17 : Int))) ∧ Dx.Sm (34359738368 : Nat) (fB u (Int.tmod n (17 : Int)))) ∧                               (Vx.Sm (34359738368 : Nat) (fS v u p).fst ∧ Dx.Sm (34359738368 : Nat) (fL (fB v (Int.tmod m (17 : Int))) (fB u (Int.tmod n (17 : Int))))) ∧                                 br (!fE (fS v u p).fst (fL (fB v (Int.tmod m (17 : Int))) (fB u (Int.tmod n (17 : Int))))) (true = true ∧ Q (Tv.sv (Sv.one (At.bool false))))                                   (br (eqI (fM v u p).snd (0 : Int)) ((Dx.Sm (68719476736 : Nat) (fB v (Int.tmod m (17 : Int))) ∧ Dx.Sm (68719476736 : Nat) (fB u (Int.tmod n (17 : Int)))) ∧ (Vx.Sm (34359738368 : Nat) (fM v u p).fst ∧ Dx.Sm (34359738368 : Nat) (fT (fB v (Int.tmod m (17 : Int))) (fB u (Int.tmod n (17 : Int))))) ∧ true = true ∧ br (!fE (fM v u p).fst (fT (fB v (Int.tmod m (17 : Int))) (fB u (Int.tmod n (17 : Int))))) (Q (Tv.sv (Sv.one (At.bool false)))) (true = true ∧ ∃ (_ : Unit), True ∧ Sg.mk [((19 : Nat), Tv.sv (Sv.one (At.ptr ((57 : Nat) + (7 : Nat)) (0 : Nat)))), ((20 : Nat), Tv.sv (Sv.one (At.int IntKind.i64 (fD v u p).snd))), ((21 : Nat), Tv.sv (Sv.one (At.ptr ((67 : Nat) + (6 : Nat)) (0 : Nat)))), ((22 : Nat), Tv.sv (Sv.one (At.int IntKind.i64 (fQ v p).snd))), ((11 : Nat), Tv.sv (Sv.one (At.ptr ((13 : Nat) + (5 : Nat)) (0 : Nat)))), ((12 : Nat), Tv.sv (Sv.one (At.ptr ((20 : Nat) + (5 : Nat)) (0 : Nat))))] [((18 : Nat), (0 : Nat), At.bool (fB v (Int.tmod m (17 : Int))).neg), ((18 : Nat), (1 : Nat), At.words true (fB v (Int.tmod m (17 : Int))).xs), ((18 : Nat), (2 : Nat), At.int IntKind.i64 (fB v (Int.tmod m (17 : Int))).e), ((25 : Nat), (0 : Nat), At.bool (fB u (Int.tmod n (17 : Int))).neg), ((25 : Nat), (1 : Nat), At.words true (fB u (Int.tmod n (17 : Int))).xs), ((25 : Nat), (2 : Nat), At.int IntKind.i64 (fB u (Int.tmod n (17 : Int))).e), ((64 : Nat), (0 : Nat), At.bool (fD v u p).fst.lo.neg), ((64 : Nat), (1 : Nat), At.words false (fD v u p).fst.lo.xs), ((64 : Nat), (2 : Nat), At.int IntKind.i64 (fD v u p).fst.lo.e), ((64 : Nat), (3 : Nat), At.bool (fD v u p).fst.hi.neg), ((64 : Nat), (4 : Nat), At.words false (fD v u p).fst.hi.xs), ((64 : Nat), (5 : Nat), At.int IntKind.i64 (fD v u p).fst.hi.e), ((73 : Nat), (0 : Nat), At.bool (fQ v p).fst.lo.neg), ((73 : Nat), (1 : Nat), At.words false (fQ v p).fst.lo.xs), ((73 : Nat), (2 : Nat), At.int IntKind.i64 (fQ v p).fst.lo.e), ((73 : Nat), (3 : Nat), At.bool (fQ v p).fst.hi.neg), ((73 : Nat), (4 : Nat), At.words false (fQ v p).fst.hi.xs), ((73 : Nat), (5 : Nat), At.int IntKind.i64 (fQ v p).fst.hi.e)] (76 : Nat) = Sg.mk [((19 : Nat), Tv.sv (Sv.one (At.ptr (64 : Nat) (0 : Nat)))), ((20 : Nat), Tv.sv (Sv.one (At.int IntKind.i64 (fD v u p).snd))), ((21 : Nat), Tv.sv (Sv.one (At.ptr (73 : Nat) (0 : Nat)))), ((22 : Nat), Tv.sv (Sv.one (At.int IntKind.i64 (fQ v p).snd))), ((11 : Nat), Tv.sv (Sv.one (At.ptr (18 : Nat) (0 : Nat)))), ((12 : Nat), Tv.sv (Sv.one (At.ptr (25 : Nat) (0 : Nat))))] [((18 : Nat), (0 : Nat), At.bool (fB v (Int.tmod m (17 : Int))).neg), ((18 : Nat), (1 : Nat), At.words true (fB v (Int.tmod m (17 : Int))).xs), ((18 : Nat), (2 : Nat), At.int IntKind.i64 (fB v (Int.tmod m (17 : Int))).e), ((25 : Nat), (0 : Nat), At.bool (fB u (Int.tmod n (17 : Int))).neg), ((25 : Nat), (1 : Nat), At.words true (fB u (Int.tmod n (17 : Int))).xs), ((25 : Nat), (2 : Nat), At.int IntKind.i64 (fB u (Int.tmod n (17 : Int))).e), ((64 : Nat), (0 : Nat), At.bool (fD v u p).fst.lo.neg), ((64 : Nat), (1 : Nat), At.words false (fD v u p).fst.lo.xs), ((64 : Nat), (2 : Nat), At.int IntKind.i64 (fD v u p).fst.lo.e), ((64 : Nat), (3 : Nat), At.bool (fD v u p).fst.hi.neg), ((64 : Nat), (4 : Nat), At.words false (fD v u p).fst.hi.xs), ((64 : Nat), (5 : Nat), At.int IntKind.i64 (fD v u p).fst.hi.e), ((73 : Nat), (0 : Nat), At.bool (fQ v p).fst.lo.neg), ((73 : Nat), (1 : Nat), At.words false (fQ v p).fst.lo.xs), ((73 : Nat), (2 : Nat), At.int IntKind.i64 (fQ v p).fst.lo.e), ((73 : Nat), (3 : Nat), At.bool (fQ v p).fst.hi.neg), ((73 : Nat), (4 : Nat), At.words false (fQ v p).fst.hi.xs), ((73 : Nat), (5 : Nat), At.int IntKind.i64 (fQ v p).fst.hi.e)] (76 : Nat)))                                     (true = true ∧ true = true ∧ ∃ (_ : Unit), True ∧ Sg.mk [((19 : Nat), Tv.sv (Sv.one (At.ptr ((57 : Nat) + (7 : Nat)) (0 : Nat)))), ((20 : Nat), Tv.sv (Sv.one (At.int IntKind.i64 (fD v u p).snd))), ((21 : Nat), Tv.sv (Sv.one (At.ptr ((67 : Nat) + (6 : Nat)) (0 : Nat)))), ((22 : Nat), Tv.sv (Sv.one (At.int IntKind.i64 (fQ v p).snd))), ((11 : Nat), Tv.sv (Sv.one (At.ptr ((13 : Nat) + (5 : Nat)) (0 : Nat)))), ((12 : Nat), Tv.sv (Sv.one (At.ptr ((20 : Nat) + (5 : Nat)) (0 : Nat))))] [((18 : Nat), (0 : Nat), At.bool (fB v (Int.tmod m (17 : Int))).neg), ((18 : Nat), (1 : Nat), At.words true (fB v (Int.tmod m (17 : Int))).xs), ((18 : Nat), (2 : Nat), At.int IntKind.i64 (fB v (Int.tmod m (17 : Int))).e), ((25 : Nat), (0 : Nat), At.bool (fB u (Int.tmod n (17 : Int))).neg), ((25 : Nat), (1 : Nat), At.words true (fB u (Int.tmod n (17 : Int))).xs), ((25 : Nat), (2 : Nat), At.int IntKind.i64 (fB u (Int.tmod n (17 : Int))).e), ((64 : Nat), (0 : Nat), At.bool (fD v u p).fst.lo.neg), ((64 : Nat), (1 : Nat), At.words false (fD v u p).fst.lo.xs), ((64 : Nat), (2 : Nat), At.int IntKind.i64 (fD v u p).fst.lo.e), ((64 : Nat), (3 : Nat), At.bool (fD v u p).fst.hi.neg), ((64 : Nat), (4 : Nat), At.words false (fD v u p).fst.hi.xs), ((64 : Nat), (5 : Nat), At.int IntKind.i64 (fD v u p).fst.hi.e), ((73 : Nat), (0 : Nat), At.bool (fQ v p).fst.lo.neg), ((73 : Nat), (1 : Nat), At.words false (fQ v p).fst.lo.xs), ((73 : Nat), (2 : Nat), At.int IntKind.i64 (fQ v p).fst.lo.e), ((73 : Nat), (3 : Nat), At.bool (fQ v p).fst.hi.neg), ((73 : Nat), (4 : Nat), At.words false (fQ v p).fst.hi.xs), ((73 : Nat), (5 : Nat), At.int IntKind.i64 (fQ v p).fst.hi.e)] (76 : Nat) = Sg.mk [((19 : Nat), Tv.sv (Sv.one (At.ptr (64 : Nat) (0 : Nat)))), ((20 : Nat), Tv.sv (Sv.one (At.int IntKind.i64 (fD v u p).snd))), ((21 : Nat), Tv.sv (Sv.one (At.ptr (73 : Nat) (0 : Nat)))), ((22 : Nat), Tv.sv (Sv.one (At.int IntKind.i64 (fQ v p).snd))), ((11 : Nat), Tv.sv (Sv.one (At.ptr (18 : Nat) (0 : Nat)))), ((12 : Nat), Tv.sv (Sv.one (At.ptr (25 : Nat) (0 : Nat))))] [((18 : Nat), (0 : Nat), At.bool (fB v (Int.tmod m (17 : Int))).neg), ((18 : Nat), (1 : Nat), At.words true (fB v (Int.tmod m (17 : Int))).xs), ((18 : Nat), (2 : Nat), At.int IntKind.i64 (fB v (Int.tmod m (17 : Int))).e), ((25 : Nat), (0 : Nat), At.bool (fB u (Int.tmod n (17 : Int))).neg), ((25 : Nat), (1 : Nat), At.words true (fB u (Int.tmod n (17 : Int))).xs), ((25 : Nat), (2 : Nat), At.int IntKind.i64 (fB u (Int.tmod n (17 : Int))).e), ((64 : Nat), (0 : Nat), At.bool (fD v u p).fst.lo.neg), ((64 : Nat), (1 : Nat), At.words false (fD v u p).fst.lo.xs), ((64 : Nat), (2 : Nat), At.int IntKind.i64 (fD v u p).fst.lo.e), ((64 : Nat), (3 : Nat), At.bool (fD v u p).fst.hi.neg), ((64 : Nat), (4 : Nat), At.words false (fD v u p).fst.hi.xs), ((64 : Nat), (5 : Nat), At.int IntKind.i64 (fD v u p).fst.hi.e), ((73 : Nat), (0 : Nat), At.bool (fQ v p).fst.lo.neg), ((73 : Nat), (1 : Nat), At.words false (fQ v p).fst.lo.xs), ((73 : Nat), (2 : Nat), At.int IntKind.i64 (fQ v p).fst.lo.e), ((73 : Nat), (3 : Nat), At.bool (fQ v p).fst.hi.neg), ((73 : Nat), (4 : Nat), At.words false (fQ v p).fst.hi.xs), ((73 : Nat), (5 : Nat), At.int IntKind.i64 (fQ v p).fst.hi.e)] (76 : Nat))))                             (br (eqI (fM v u p).snd (0 : Int)) ((Dx.Sm (68719476736 : Nat) (fB v (Int.tmod m (17 : Int))) ∧ Dx.Sm (68719476736 : Nat) (fB u (Int.tmod n (17 : Int)))) ∧ (Vx.Sm (34359738368 : Nat) (fM v u p).fst ∧ Dx.Sm (34359738368 : Nat) (fT (fB v (Int.tmod m (17 : Int))) (fB u (Int.tmod n (17 : Int))))) ∧ true = true ∧ br (!fE (fM v u p).fst (fT (fB v (Int.tmod m (17 : Int))) (fB u (Int.tmod n (17 : Int))))) (Q (Tv.sv (Sv.one (At.bool false)))) (true = true ∧ ∃ (_ : Unit), True ∧ Sg.mk [((19 : Nat), Tv.sv (Sv.one (At.ptr ((57 : Nat) + (7 : Nat)) (0 : Nat)))), ((20 : Nat), Tv.sv (Sv.one (At.int IntKind.i64 (fD v u p).snd))), ((21 : Nat), Tv.sv (Sv.one (At.ptr ((67 : Nat) + (6 : Nat)) (0 : Nat)))), ((22 : Nat), Tv.sv (Sv.one (At.int IntKind.i64 (fQ v p).snd))), ((11 : Nat), Tv.sv (Sv.one (At.ptr ((13 : Nat) + (5 : Nat)) (0 : Nat)))), ((12 : Nat), Tv.sv (Sv.one (At.ptr ((20 : Nat) + (5 : Nat)) (0 : Nat))))] [((18 : Nat), (0 : Nat), At.bool (fB v (Int.tmod m (17 : Int))).neg), ((18 : Nat), (1 : Nat), At.words true (fB v (Int.tmod m (17 : Int))).xs), ((18 : Nat), (2 : Nat), At.int IntKind.i64 (fB v (Int.tmod m (17 : Int))).e), ((25 : Nat), (0 : Nat), At.bool (fB u (Int.tmod n (17 : Int))).neg), ((25 : Nat), (1 : Nat), At.words true (fB u (Int.tmod n (17 : Int))).xs), ((25 : Nat), (2 : Nat), At.int IntKind.i64 (fB u (Int.tmod n (17 : Int))).e), ((64 : Nat), (0 : Nat), At.bool (fD v u p).fst.lo.neg), ((64 : Nat), (1 : Nat), At.words false (fD v u p).fst.lo.xs), ((64 : Nat), (2 : Nat), At.int IntKind.i64 (fD v u p).fst.lo.e), ((64 : Nat), (3 : Nat), At.bool (fD v u p).fst.hi.neg), ((64 : Nat), (4 : Nat), At.words false (fD v u p).fst.hi.xs), ((64 : Nat), (5 : Nat), At.int IntKind.i64 (fD v u p).fst.hi.e), ((73 : Nat), (0 : Nat), At.bool (fQ v p).fst.lo.neg), ((73 : Nat), (1 : Nat), At.words false (fQ v p).fst.lo.xs), ((73 : Nat), (2 : Nat), At.int IntKind.i64 (fQ v p).fst.lo.e), ((73 : Nat), (3 : Nat), At.bool (fQ v p).fst.hi.neg), ((73 : Nat), (4 : Nat), At.words false (fQ v p).fst.hi.xs), ((73 : Nat), (5 : Nat), At.int IntKind.i64 (fQ v p).fst.hi.e)] (76 : Nat) = Sg.mk [((19 : Nat), Tv.sv (Sv.one (At.ptr (64 : Nat) (0 : Nat)))), ((20 : Nat), Tv.sv (Sv.one (At.int IntKind.i64 (fD v u p).snd))), ((21 : Nat), Tv.sv (Sv.one (At.ptr (73 : Nat) (0 : Nat)))), ((22 : Nat), Tv.sv (Sv.one (At.int IntKind.i64 (fQ v p).snd))), ((11 : Nat), Tv.sv (Sv.one (At.ptr (18 : Nat) (0 : Nat)))), ((12 : Nat), Tv.sv (Sv.one (At.ptr (25 : Nat) (0 : Nat))))] [((18 : Nat), (0 : Nat), At.bool (fB v (Int.tmod m (17 : Int))).neg), ((18 : Nat), (1 : Nat), At.words true (fB v (Int.tmod m (17 : Int))).xs), ((18 : Nat), (2 : Nat), At.int IntKind.i64 (fB v (Int.tmod m (17 : Int))).e), ((25 : Nat), (0 : Nat), At.bool (fB u (Int.tmod n (17 : Int))).neg), ((25 : Nat), (1 : Nat), At.words true (fB u (Int.tmod n (17 : Int))).xs), ((25 : Nat), (2 : Nat), At.int IntKind.i64 (fB u (Int.tmod n (17 : Int))).e), ((64 : Nat), (0 : Nat), At.bool (fD v u p).fst.lo.neg), ((64 : Nat), (1 : Nat), At.words false (fD v u p).fst.lo.xs), ((64 : Nat), (2 : Nat), At.int IntKind.i64 (fD v u p).fst.lo.e), ((64 : Nat), (3 : Nat), At.bool (fD v u p).fst.hi.neg), ((64 : Nat), (4 : Nat), At.words false (fD v u p).fst.hi.xs), ((64 : Nat), (5 : Nat), At.int IntKind.i64 (fD v u p).fst.hi.e), ((73 : Nat), (0 : Nat), At.bool (fQ v p).fst.lo.neg), ((73 : Nat), (1 : Nat), At.words false (fQ v p).fst.lo.xs), ((73 : Nat), (2 : Nat), At.int IntKind.i64 (fQ v p).fst.lo.e), ((73 : Nat), (3 : Nat), At.bool (fQ v p).fst.hi.neg), ((73 : Nat), (4 : Nat), At.words false (fQ v p).fst.hi.xs), ((73 : Nat), (5 : Nat), At.int IntKind.i64 (fQ v p).fst.hi.e)] (76 : Nat)))                               (true = true ∧ true = true ∧ ∃ (_ : Unit), True ∧ Sg.mk [((19 : Nat), Tv.sv (Sv.one (At.ptr ((57 : Nat) + (7 : Nat)) (0 : Nat)))), ((20 : Nat), Tv.sv (Sv.one (At.int IntKind.i64 (fD v u p).snd))), ((21 : Nat), Tv.sv (Sv.one (At.ptr ((67 : Nat) + (6 : Nat)) (0 : Nat)))), ((22 : Nat), Tv.sv (Sv.one (At.int IntKind.i64 (fQ v p).snd))), ((11 : Nat), Tv.sv (Sv.one (At.ptr ((13 : Nat) + (5 : Nat)) (0 : Nat)))), ((12 : Nat), Tv.sv (Sv.one (At.ptr ((20 : Nat) + (5 : Nat)) (0 : Nat))))] [((18 : Nat), (0 : Nat), At.bool (fB v (Int.tmod m (17 : Int))).neg), ((18 : Nat), (1 : Nat), At.words true (fB v (Int.tmod m (17 : Int))).xs), ((18 : Nat), (2 : Nat), At.int IntKind.i64 (fB v (Int.tmod m (17 : Int))).e), ((25 : Nat), (0 : Nat), At.bool (fB u (Int.tmod n (17 : Int))).neg), ((25 : Nat), (1 : Nat), At.words true (fB u (Int.tmod n (17 : Int))).xs), ((25 : Nat), (2 : Nat), At.int IntKind.i64 (fB u (Int.tmod n (17 : Int))).e), ((64 : Nat), (0 : Nat), At.bool (fD v u p).fst.lo.neg), ((64 : Nat), (1 : Nat), At.words false (fD v u p).fst.lo.xs), ((64 : Nat), (2 : Nat), At.int IntKind.i64 (fD v u p).fst.lo.e), ((64 : Nat), (3 : Nat), At.bool (fD v u p).fst.hi.neg), ((64 : Nat), (4 : Nat), At.words false (fD v u p).fst.hi.xs), ((64 : Nat), (5 : Nat), At.int IntKind.i64 (fD v u p).fst.hi.e), ((73 : Nat), (0 : Nat), At.bool (fQ v p).fst.lo.neg), ((73 : Nat), (1 : Nat), At.words false (fQ v p).fst.lo.xs), ((73 : Nat), (2 : Nat), At.int IntKind.i64 (fQ v p).fst.lo.e), ((73 : Nat), (3 : Nat), At.bool (fQ v p).fst.hi.neg), ((73 : Nat), (4 : Nat), At.words false (fQ v p).fst.hi.xs), ((73 : Nat), (5 : Nat), At.int IntKind.i64 (fQ v p).fst.hi.e)] (76 : Nat) = Sg.mk [((19 : Nat), Tv.sv (Sv.one (At.ptr (64 : Nat) (0 : Nat)))), ((20 : Nat), Tv.sv (Sv.one (At.int IntKind.i64 (fD v u p).snd))), ((21 : Nat), Tv.sv (Sv.one (At.ptr (73 : Nat) (0 : Nat)))), ((22 : Nat), Tv.sv (Sv.one (At.int IntKind.i64 (fQ v p).snd))), ((11 : Nat), Tv.sv (Sv.one (At.ptr (18 : Nat) (0 : Nat)))), ((12 : Nat), Tv.sv (Sv.one (At.ptr (25 : Nat) (0 : Nat))))] [((18 : Nat), (0 : Nat), At.bool (fB v (Int.tmod m (17 : Int))).neg), ((18 : Nat), (1 : Nat), At.words true (fB v (Int.tmod m (17 : Int))).xs), ((18 : Nat), (2 : Nat), At.int IntKind.i64 (fB v (Int.tmod m (17 : Int))).e), ((25 : Nat), (0 : Nat), At.bool (fB u (Int.tmod n (17 : Int))).neg), ((25 : Nat), (1 : Nat), At.words true (fB u (Int.tmod n (17 : Int))).xs), ((25 : Nat), (2 : Nat), At.int IntKind.i64 (fB u (Int.tmod n (17 : Int))).e), ((64 : Nat), (0 : Nat), At.bool (fD v u p).fst.lo.neg), ((64 : Nat), (1 : Nat), At.words false (fD v u p).fst.lo.xs), ((64 : Nat), (2 : Nat), At.int IntKind.i64 (fD v u p).fst.lo.e), ((64 : Nat), (3 : Nat), At.bool (fD v u p).fst.hi.neg), ((64 : Nat), (4 : Nat), At.words false (fD v u p).fst.hi.xs), ((64 : Nat), (5 : Nat), At.int IntKind.i64 (fD v u p).fst.hi.e), ((73 : Nat), (0 : Nat), At.bool (fQ v p).fst.lo.neg), ((73 : Nat), (1 : Nat), At.words false (fQ v p).fst.lo.xs), ((73 : Nat), (2 : Nat), At.int IntKind.i64 (fQ v p).fst.lo.e), ((73 : Nat), (3 : Nat), At.bool (fQ v p).fst.hi.neg), ((73 : Nat), (4 : Nat), At.words false (fQ v p).fst.hi.xs), ((73 : Nat), (5 : Nat), At.int IntKind.i64 (fQ v p).fst.hi.e)] (76 : Nat)))))                     (br (eqI (fS v u p).snd (0 : Int))                       ((Dx.Sm (34359738368 : Nat) (fB v (Int.tmod m (17 : Int))) ∧ Dx.Sm (34359738368 : Nat) (fB u (Int.tmod n (17 : Int)))) ∧                         (Vx.Sm (34359738368 : Nat) (fS v u p).fst ∧ Dx.Sm (34359738368 : Nat) (fL (fB v (Int.tmod m (17 : Int))) (fB u (Int.tmod n (17 : Int))))) ∧                           br (!fE (fS v u p).fst (fL (fB v (Int.tmod m (17 : Int))) (fB u (Int.tmod n (17 : Int))))) (true = true ∧ Q (Tv.sv (Sv.one (At.bool false))))                             (br (eqI (fM v u p).snd (0 : Int)) ((Dx.Sm (68719476736 : Nat) (fB v (Int.tmod m (17 : Int))) ∧ Dx.Sm (68719476736 : Nat) (fB u (Int.tmod n (17 : Int)))) ∧ (Vx.Sm (34359738368 : Nat) (fM v u p).fst ∧ Dx.Sm (34359738368 : Nat) (fT (fB v (Int.tmod m (17 : Int))) (fB u (Int.tmod n (17 : Int))))) ∧ true = true ∧ br (!fE (fM v u p).fst (fT (fB v (Int.tmod m (17 : Int))) (fB u (Int.tmod n (17 : Int))))) (Q (Tv.sv (Sv.one (At.bool false)))) (true = true ∧ ∃ (_ : Unit), True ∧ Sg.mk [((19 : Nat), Tv.sv (Sv.one (At.ptr ((57 : Nat) + (7 : Nat)) (0 : Nat)))), ((20 : Nat), Tv.sv (Sv.one (At.int IntKind.i64 (fD v u p).snd))), ((21 : Nat), Tv.sv (Sv.one (At.ptr ((67 : Nat) + (6 : Nat)) (0 : Nat)))), ((22 : Nat), Tv.sv (Sv.one (At.int IntKind.i64 (fQ v p).snd))), ((11 : Nat), Tv.sv (Sv.one (At.ptr ((13 : Nat) + (5 : Nat)) (0 : Nat)))), ((12 : Nat), Tv.sv (Sv.one (At.ptr ((20 : Nat) + (5 : Nat)) (0 : Nat))))] [((18 : Nat), (0 : Nat), At.bool (fB v (Int.tmod m (17 : Int))).neg), ((18 : Nat), (1 : Nat), At.words true (fB v (Int.tmod m (17 : Int))).xs), ((18 : Nat), (2 : Nat), At.int IntKind.i64 (fB v (Int.tmod m (17 : Int))).e), ((25 : Nat), (0 : Nat), At.bool (fB u (Int.tmod n (17 : Int))).neg), ((25 : Nat), (1 : Nat), At.words true (fB u (Int.tmod n (17 : Int))).xs), ((25 : Nat), (2 : Nat), At.int IntKind.i64 (fB u (Int.tmod n (17 : Int))).e), ((64 : Nat), (0 : Nat), At.bool (fD v u p).fst.lo.neg), ((64 : Nat), (1 : Nat), At.words false (fD v u p).fst.lo.xs), ((64 : Nat), (2 : Nat), At.int IntKind.i64 (fD v u p).fst.lo.e), ((64 : Nat), (3 : Nat), At.bool (fD v u p).fst.hi.neg), ((64 : Nat), (4 : Nat), At.words false (fD v u p).fst.hi.xs), ((64 : Nat), (5 : Nat), At.int IntKind.i64 (fD v u p).fst.hi.e), ((73 : Nat), (0 : Nat), At.bool (fQ v p).fst.lo.neg), ((73 : Nat), (1 : Nat), At.words false (fQ v p).fst.lo.xs), ((73 : Nat), (2 : Nat), At.int IntKind.i64 (fQ v p).fst.lo.e), ((73 : Nat), (3 : Nat), At.bool (fQ v p).fst.hi.neg), ((73 : Nat), (4 : Nat), At.words false (fQ v p).fst.hi.xs), ((73 : Nat), (5 : Nat), At.int IntKind.i64 (fQ v p).fst.hi.e)] (76 : Nat) = Sg.mk [((19 : Nat), Tv.sv (Sv.one (At.ptr (64 : Nat) (0 : Nat)))), ((20 : Nat), Tv.sv (Sv.one (At.int IntKind.i64 (fD v u p).snd))), ((21 : Nat), Tv.sv (Sv.one (At.ptr (73 : Nat) (0 : Nat)))), ((22 : Nat), Tv.sv (Sv.one (At.int IntKind.i64 (fQ v p).snd))), ((11 : Nat), Tv.sv (Sv.one (At.ptr (18 : Nat) (0 : Nat)))), ((12 : Nat), Tv.sv (Sv.one (At.ptr (25 : Nat) (0 : Nat))))] [((18 : Nat), (0 : Nat), At.bool (fB v (Int.tmod m (17 : Int))).neg), ((18 : Nat), (1 : Nat), At.words true (fB v (Int.tmod m (17 : Int))).xs), ((18 : Nat), (2 : Nat), At.int IntKind.i64 (fB v (Int.tmod m (17 : Int))).e), ((25 : Nat), (0 : Nat), At.bool (fB u (Int.tmod n (17 : Int))).neg), ((25 : Nat), (1 : Nat), At.words true (fB u (Int.tmod n (17 : Int))).xs), ((25 : Nat), (2 : Nat), At.int IntKind.i64 (fB u (Int.tmod n (17 : Int))).e), ((64 : Nat), (0 : Nat), At.bool (fD v u p).fst.lo.neg), ((64 : Nat), (1 : Nat), At.words false (fD v u p).fst.lo.xs), ((64 : Nat), (2 : Nat), At.int IntKind.i64 (fD v u p).fst.lo.e), ((64 : Nat), (3 : Nat), At.bool (fD v u p).fst.hi.neg), ((64 : Nat), (4 : Nat), At.words false (fD v u p).fst.hi.xs), ((64 : Nat), (5 : Nat), At.int IntKind.i64 (fD v u p).fst.hi.e), ((73 : Nat), (0 : Nat), At.bool (fQ v p).fst.lo.neg), ((73 : Nat), (1 : Nat), At.words false (fQ v p).fst.lo.xs), ((73 : Nat), (2 : Nat), At.int IntKind.i64 (fQ v p).fst.lo.e), ((73 : Nat), (3 : Nat), At.bool (fQ v p).fst.hi.neg), ((73 : Nat), (4 : Nat), At.words false (fQ v p).fst.hi.xs), ((73 : Nat), (5 : Nat), At.int IntKind.i64 (fQ v p).fst.hi.e)] (76 : Nat)))                               (true = true ∧ true = true ∧ ∃ (_ : Unit), True ∧ Sg.mk [((19 : Nat), Tv.sv (Sv.one (At.ptr ((57 : Nat) + (7 : Nat)) (0 : Nat)))), ((20 : Nat), Tv.sv (Sv.one (At.int IntKind.i64 (fD v u p).snd))), ((21 : Nat), Tv.sv (Sv.one (At.ptr ((67 : Nat) + (6 : Nat)) (0 : Nat)))), ((22 : Nat), Tv.sv (Sv.one (At.int IntKind.i64 (fQ v p).snd))), ((11 : Nat), Tv.sv (Sv.one (At.ptr ((13 : Nat) + (5 : Nat)) (0 : Nat)))), ((12 : Nat), Tv.sv (Sv.one (At.ptr ((20 : Nat) + (5 : Nat)) (0 : Nat))))] [((18 : Nat), (0 : Nat), At.bool (fB v (Int.tmod m (17 : Int))).neg), ((18 : Nat), (1 : Nat), At.words true (fB v (Int.tmod m (17 : Int))).xs), ((18 : Nat), (2 : Nat), At.int IntKind.i64 (fB v (Int.tmod m (17 : Int))).e), ((25 : Nat), (0 : Nat), At.bool (fB u (Int.tmod n (17 : Int))).neg), ((25 : Nat), (1 : Nat), At.words true (fB u (Int.tmod n (17 : Int))).xs), ((25 : Nat), (2 : Nat), At.int IntKind.i64 (fB u (Int.tmod n (17 : Int))).e), ((64 : Nat), (0 : Nat), At.bool (fD v u p).fst.lo.neg), ((64 : Nat), (1 : Nat), At.words false (fD v u p).fst.lo.xs), ((64 : Nat), (2 : Nat), At.int IntKind.i64 (fD v u p).fst.lo.e), ((64 : Nat), (3 : Nat), At.bool (fD v u p).fst.hi.neg), ((64 : Nat), (4 : Nat), At.words false (fD v u p).fst.hi.xs), ((64 : Nat), (5 : Nat), At.int IntKind.i64 (fD v u p).fst.hi.e), ((73 : Nat), (0 : Nat), At.bool (fQ v p).fst.lo.neg), ((73 : Nat), (1 : Nat), At.words false (fQ v p).fst.lo.xs), ((73 : Nat), (2 : Nat), At.int IntKind.i64 (fQ v p).fst.lo.e), ((73 : Nat), (3 : Nat), At.bool (fQ v p).fst.hi.neg), ((73 : Nat), (4 : Nat), At.words false (fQ v p).fst.hi.xs), ((73 : Nat), (5 : Nat), At.int IntKind.i64 (fQ v p).fst.hi.e)] (76 : Nat) = Sg.mk [((19 : Nat), Tv.sv (Sv.one (At.ptr (64 : Nat) (0 : Nat)))), ((20 : Nat), Tv.sv (Sv.one (At.int IntKind.i64 (fD v u p).snd))), ((21 : Nat), Tv.sv (Sv.one (At.ptr (73 : Nat) (0 : Nat)))), ((22 : Nat), Tv.sv (Sv.one (At.int IntKind.i64 (fQ v p).snd))), ((11 : Nat), Tv.sv (Sv.one (At.ptr (18 : Nat) (0 : Nat)))), ((12 : Nat), Tv.sv (Sv.one (At.ptr (25 : Nat) (0 : Nat))))] [((18 : Nat), (0 : Nat), At.bool (fB v (Int.tmod m (17 : Int))).neg), ((18 : Nat), (1 : Nat), At.words true (fB v (Int.tmod m (17 : Int))).xs), ((18 : Nat), (2 : Nat), At.int IntKind.i64 (fB v (Int.tmod m (17 : Int))).e), ((25 : Nat), (0 : Nat), At.bool (fB u (Int.tmod n (17 : Int))).neg), ((25 : Nat), (1 : Nat), At.words true (fB u (Int.tmod n (17 : Int))).xs), ((25 : Nat), (2 : Nat), At.int IntKind.i64 (fB u (Int.tmod n (17 : Int))).e), ((64 : Nat), (0 : Nat), At.bool (fD v u p).fst.lo.neg), ((64 : Nat), (1 : Nat), At.words false (fD v u p).fst.lo.xs), ((64 : Nat), (2 : Nat), At.int IntKind.i64 (fD v u p).fst.lo.e), ((64 : Nat), (3 : Nat), At.bool (fD v u p).fst.hi.neg), ((64 : Nat), (4 : Nat), At.words false (fD v u p).fst.hi.xs), ((64 : Nat), (5 : Nat), At.int IntKind.i64 (fD v u p).fst.hi.e), ((73 : Nat), (0 : Nat), At.bool (fQ v p).fst.lo.neg), ((73 : Nat), (1 : Nat), At.words false (fQ v p).fst.lo.xs), ((73 : Nat), (2 : Nat), At.int IntKind.i64 (fQ v p).fst.lo.e), ((73 : Nat), (3 : Nat), At.bool (fQ v p).fst.hi.neg), ((73 : Nat), (4 : Nat), At.words false (fQ v p).fst.hi.xs), ((73 : Nat), (5 : Nat), At.int IntKind.i64 (fQ v p).fst.hi.e)] (76 : Nat))))                       (br (eqI (fM v u p).snd (0 : Int)) ((Dx.Sm (68719476736 : Nat) (fB v (Int.tmod m (17 : Int))) ∧ Dx.Sm (68719476736 : Nat) (fB u (Int.tmod n (17 : Int)))) ∧ (Vx.Sm (34359738368 : Nat) (fM v u p).fst ∧ Dx.Sm (34359738368 : Nat) (fT (fB v (Int.tmod m (17 : Int))) (fB u (Int.tmod n (17 : Int))))) ∧ true = true ∧ br (!fE (fM v u p).fst (fT (fB v (Int.tmod m (17 : Int))) (fB u (Int.tmod n (17 : Int))))) (Q (Tv.sv (Sv.one (At.bool false)))) (true = true ∧ ∃ (_ : Unit), True ∧ Sg.mk [((19 : Nat), Tv.sv (Sv.one (At.ptr ((57 : Nat) + (7 : Nat)) (0 : Nat)))), ((20 : Nat), Tv.sv (Sv.one (At.int IntKind.i64 (fD v u p).snd))), ((21 : Nat), Tv.sv (Sv.one (At.ptr ((67 : Nat) + (6 : Nat)) (0 : Nat)))), ((22 : Nat), Tv.sv (Sv.one (At.int IntKind.i64 (fQ v p).snd))), ((11 : Nat), Tv.sv (Sv.one (At.ptr ((13 : Nat) + (5 : Nat)) (0 : Nat)))), ((12 : Nat), Tv.sv (Sv.one (At.ptr ((20 : Nat) + (5 : Nat)) (0 : Nat))))] [((18 : Nat), (0 : Nat), At.bool (fB v (Int.tmod m (17 : Int))).neg), ((18 : Nat), (1 : Nat), At.words true (fB v (Int.tmod m (17 : Int))).xs), ((18 : Nat), (2 : Nat), At.int IntKind.i64 (fB v (Int.tmod m (17 : Int))).e), ((25 : Nat), (0 : Nat), At.bool (fB u (Int.tmod n (17 : Int))).neg), ((25 : Nat), (1 : Nat), At.words true (fB u (Int.tmod n (17 : Int))).xs), ((25 : Nat), (2 : Nat), At.int IntKind.i64 (fB u (Int.tmod n (17 : Int))).e), ((64 : Nat), (0 : Nat), At.bool (fD v u p).fst.lo.neg), ((64 : Nat), (1 : Nat), At.words false (fD v u p).fst.lo.xs), ((64 : Nat), (2 : Nat), At.int IntKind.i64 (fD v u p).fst.lo.e), ((64 : Nat), (3 : Nat), At.bool (fD v u p).fst.hi.neg), ((64 : Nat), (4 : Nat), At.words false (fD v u p).fst.hi.xs), ((64 : Nat), (5 : Nat), At.int IntKind.i64 (fD v u p).fst.hi.e), ((73 : Nat), (0 : Nat), At.bool (fQ v p).fst.lo.neg), ((73 : Nat), (1 : Nat), At.words false (fQ v p).fst.lo.xs), ((73 : Nat), (2 : Nat), At.int IntKind.i64 (fQ v p).fst.lo.e), ((73 : Nat), (3 : Nat), At.bool (fQ v p).fst.hi.neg), ((73 : Nat), (4 : Nat), At.words false (fQ v p).fst.hi.xs), ((73 : Nat), (5 : Nat), At.int IntKind.i64 (fQ v p).fst.hi.e)] (76 : Nat) = Sg.mk [((19 : Nat), Tv.sv (Sv.one (At.ptr (64 : Nat) (0 : Nat)))), ((20 : Nat), Tv.sv (Sv.one (At.int IntKind.i64 (fD v u p).snd))), ((21 : Nat), Tv.sv (Sv.one (At.ptr (73 : Nat) (0 : Nat)))), ((22 : Nat), Tv.sv (Sv.one (At.int IntKind.i64 (fQ v p).snd))), ((11 : Nat), Tv.sv (Sv.one (At.ptr (18 : Nat) (0 : Nat)))), ((12 : Nat), Tv.sv (Sv.one (At.ptr (25 : Nat) (0 : Nat))))] [((18 : Nat), (0 : Nat), At.bool (fB v (Int.tmod m (17 : Int))).neg), ((18 : Nat), (1 : Nat), At.words true (fB v (Int.tmod m (17 : Int))).xs), ((18 : Nat), (2 : Nat), At.int IntKind.i64 (fB v (Int.tmod m (17 : Int))).e), ((25 : Nat), (0 : Nat), At.bool (fB u (Int.tmod n (17 : Int))).neg), ((25 : Nat), (1 : Nat), At.words true (fB u (Int.tmod n (17 : Int))).xs), ((25 : Nat), (2 : Nat), At.int IntKind.i64 (fB u (Int.tmod n (17 : Int))).e), ((64 : Nat), (0 : Nat), At.bool (fD v u p).fst.lo.neg), ((64 : Nat), (1 : Nat), At.words false (fD v u p).fst.lo.xs), ((64 : Nat), (2 : Nat), At.int IntKind.i64 (fD v u p).fst.lo.e), ((64 : Nat), (3 : Nat), At.bool (fD v u p).fst.hi.neg), ((64 : Nat), (4 : Nat), At.words false (fD v u p).fst.hi.xs), ((64 : Nat), (5 : Nat), At.int IntKind.i64 (fD v u p).fst.hi.e), ((73 : Nat), (0 : Nat), At.bool (fQ v p).fst.lo.neg), ((73 : Nat), (1 : Nat), At.words false (fQ v p).fst.lo.xs), ((73 : Nat), (2 : Nat), At.int IntKind.i64 (fQ v p).fst.lo.e), ((73 : Nat), (3 : Nat), At.bool (fQ v p).fst.hi.neg), ((73 : Nat), (4 : Nat), At.words false (fQ v p).fst.hi.xs), ((73 : Nat), (5 : Nat), At.int IntKind.i64 (fQ v p).fst.hi.e)] (76 : Nat)))                         (true = true ∧ true = true ∧ ∃ (_ : Unit), True ∧ Sg.mk [((19 : Nat), Tv.sv (Sv.one (At.ptr ((57 : Nat) + (7 : Nat)) (0 : Nat)))), ((20 : Nat), Tv.sv (Sv.one (At.int IntKind.i64 (fD v u p).snd))), ((21 : Nat), Tv.sv (Sv.one (At.ptr ((67 : Nat) + (6 : Nat)) (0 : Nat)))), ((22 : Nat), Tv.sv (Sv.one (At.int IntKind.i64 (fQ v p).snd))), ((11 : Nat), Tv.sv (Sv.one (At.ptr ((13 : Nat) + (5 : Nat)) (0 : Nat)))), ((12 : Nat), Tv.sv (Sv.one (At.ptr ((20 : Nat) + (5 : Nat)) (0 : Nat))))] [((18 : Nat), (0 : Nat), At.bool (fB v (Int.tmod m (17 : Int))).neg), ((18 : Nat), (1 : Nat), At.words true (fB v (Int.tmod m (17 : Int))).xs), ((18 : Nat), (2 : Nat), At.int IntKind.i64 (fB v (Int.tmod m (17 : Int))).e), ((25 : Nat), (0 : Nat), At.bool (fB u (Int.tmod n (17 : Int))).neg), ((25 : Nat), (1 : Nat), At.words true (fB u (Int.tmod n (17 : Int))).xs), ((25 : Nat), (2 : Nat), At.int IntKind.i64 (fB u (Int.tmod n (17 : Int))).e), ((64 : Nat), (0 : Nat), At.bool (fD v u p).fst.lo.neg), ((64 : Nat), (1 : Nat), At.words false (fD v u p).fst.lo.xs), ((64 : Nat), (2 : Nat), At.int IntKind.i64 (fD v u p).fst.lo.e), ((64 : Nat), (3 : Nat), At.bool (fD v u p).fst.hi.neg), ((64 : Nat), (4 : Nat), At.words false (fD v u p).fst.hi.xs), ((64 : Nat), (5 : Nat), At.int IntKind.i64 (fD v u p).fst.hi.e), ((73 : Nat), (0 : Nat), At.bool (fQ v p).fst.lo.neg), ((73 : Nat), (1 : Nat), At.words false (fQ v p).fst.lo.xs), ((73 : Nat), (2 : Nat), At.int IntKind.i64 (fQ v p).fst.lo.e), ((73 : Nat), (3 : Nat), At.bool (fQ v p).fst.hi.neg), ((73 : Nat), (4 : Nat), At.words false (fQ v p).fst.hi.xs), ((73 : Nat), (5 : Nat), At.int IntKind.i64 (fQ v p).fst.hi.e)] (76 : Nat) = Sg.mk [((19 : Nat), Tv.sv (Sv.one (At.ptr (64 : Nat) (0 : Nat)))), ((20 : Nat), Tv.sv (Sv.one (At.int IntKind.i64 (fD v u p).snd))), ((21 : Nat), Tv.sv (Sv.one (At.ptr (73 : Nat) (0 : Nat)))), ((22 : Nat), Tv.sv (Sv.one (At.int IntKind.i64 (fQ v p).snd))), ((11 : Nat), Tv.sv (Sv.one (At.ptr (18 : Nat) (0 : Nat)))), ((12 : Nat), Tv.sv (Sv.one (At.ptr (25 : Nat) (0 : Nat))))] [((18 : Nat), (0 : Nat), At.bool (fB v (Int.tmod m (17 : Int))).neg), ((18 : Nat), (1 : Nat), At.words true (fB v (Int.tmod m (17 : Int))).xs), ((18 : Nat), (2 : Nat), At.int IntKind.i64 (fB v (Int.tmod m (17 : Int))).e), ((25 : Nat), (0 : Nat), At.bool (fB u (Int.tmod n (17 : Int))).neg), ((25 : Nat), (1 : Nat), At.words true (fB u (Int.tmod n (17 : Int))).xs), ((25 : Nat), (2 : Nat), At.int IntKind.i64 (fB u (Int.tmod n (17 : Int))).e), ((64 : Nat), (0 : Nat), At.bool (fD v u p).fst.lo.neg), ((64 : Nat), (1 : Nat), At.words false (fD v u p).fst.lo.xs), ((64 : Nat), (2 : Nat), At.int IntKind.i64 (fD v u p).fst.lo.e), ((64 : Nat), (3 : Nat), At.bool (fD v u p).fst.hi.neg), ((64 : Nat), (4 : Nat), At.words false (fD v u p).fst.hi.xs), ((64 : Nat), (5 : Nat), At.int IntKind.i64 (fD v u p).fst.hi.e), ((73 : Nat), (0 : Nat), At.bool (fQ v p).fst.lo.neg), ((73 : Nat), (1 : Nat), At.words false (fQ v p).fst.lo.xs), ((73 : Nat), (2 : Nat), At.int IntKind.i64 (fQ v p).fst.lo.e), ((73 : Nat), (3 : Nat), At.bool (fQ v p).fst.hi.neg), ((73 : Nat), (4 : Nat), At.words false (fQ v p).fst.hi.xs), ((73 : Nat), (5 : Nat), At.int IntKind.i64 (fQ v p).fst.hi.e)] (76 : Nat)))) ∧                   ∀ (_ : Unit),                     True →                       br (eqI (fD v u p).snd (0 : Int))                           ((Dx.Sm (68719476736 : Nat) (fD v u p).fst.lo ∧ Dx.Sm (68719476736 : Nat) (fB u (Int.tmod n (17 : Int)))) ∧                             (Dx.Sm (68719476736 : Nat) (fD v u p).fst.hi ∧ Dx.Sm (68719476736 : Nat) (fB u (Int.tmod n (17 : Int)))) ∧                               br (ltI (fG (fB u (Int.tmod n (17 : Int)))) (0 : Int)) ((Dx.Sm (68719476736 : Nat) (fD v u p).fst.hi ∧ Dx.Sm (68719476736 : Nat) (fB u (Int.tmod n (17 : Int)))) ∧ (Dx.Sm (68719476736 : Nat) (fD v u p).fst.lo ∧ Dx.Sm (68719476736 : Nat) (fB u (Int.tmod n (17 : Int)))) ∧ (Dx.Sm (34359738368 : Nat) (fT (fD v u p).fst.hi (fB u (Int.tmod n (17 : Int)))) ∧ Dx.Sm (34359738368 : Nat) (fB v (Int.tmod m (17 : Int)))) ∧ br (ltI (0 : Int) (fO (fT (fD v u p).fst.hi (fB u (Int.tmod n (17 : Int)))) (fB v (Int.tmod m (17 : Int))))) (Q (Tv.sv (Sv.one (At.bool false)))) ((Dx.Sm (34359738368 : Nat) (fB v (Int.tmod m (17 : Int))) ∧ Dx.Sm (34359738368 : Nat) (fT (fD v u p).fst.lo (fB u (Int.tmod n (17 : Int))))) ∧ br (ltI (0 : Int) (fO (fB v (Int.tmod m (17 : Int))) (fT (fD v u p).fst.lo (fB u (Int.tmod n (17 : Int)))))) (Q (Tv.sv (Sv.one (At.bool false)))) (true = true ∧ ∃ (_ : Unit), True ∧ Sg.mk [((21 : Nat), Tv.sv (Sv.one (At.ptr (73 : Nat) (0 : Nat)))), ((22 : Nat), Tv.sv (Sv.one (At.int IntKind.i64 (fQ v p).snd))), ((11 : Nat), Tv.sv (Sv.one (At.ptr (18 : Nat) (0 : Nat))))] [((18 : Nat), (0 : Nat), At.bool (fB v (Int.tmod m (17 : Int))).neg), ((18 : Nat), (1 : Nat), At.words true (fB v (Int.tmod m (17 : Int))).xs), ((18 : Nat), (2 : Nat), At.int IntKind.i64 (fB v (Int.tmod m (17 : Int))).e), ((73 : Nat), (0 : Nat), At.bool (fQ v p).fst.lo.neg), ((73 : Nat), (1 : Nat), At.words false (fQ v p).fst.lo.xs), ((73 : Nat), (2 : Nat), At.int IntKind.i64 (fQ v p).fst.lo.e), ((73 : Nat), (3 : Nat), At.bool (fQ v p).fst.hi.neg), ((73 : Nat), (4 : Nat), At.words false (fQ v p).fst.hi.xs), ((73 : Nat), (5 : Nat), At.int IntKind.i64 (fQ v p).fst.hi.e)] (76 : Nat) = Sg.mk [((21 : Nat), Tv.sv (Sv.one (At.ptr (73 : Nat) (0 : Nat)))), ((22 : Nat), Tv.sv (Sv.one (At.int IntKind.i64 (fQ v p).snd))), ((11 : Nat), Tv.sv (Sv.one (At.ptr (18 : Nat) (0 : Nat))))] [((18 : Nat), (0 : Nat), At.bool (fB v (Int.tmod m (17 : Int))).neg), ((18 : Nat), (1 : Nat), At.words true (fB v (Int.tmod m (17 : Int))).xs), ((18 : Nat), (2 : Nat), At.int IntKind.i64 (fB v (Int.tmod m (17 : Int))).e), ((73 : Nat), (0 : Nat), At.bool (fQ v p).fst.lo.neg), ((73 : Nat), (1 : Nat), At.words false (fQ v p).fst.lo.xs), ((73 : Nat), (2 : Nat), At.int IntKind.i64 (fQ v p).fst.lo.e), ((73 : Nat), (3 : Nat), At.bool (fQ v p).fst.hi.neg), ((73 : Nat), (4 : Nat), At.words false (fQ v p).fst.hi.xs), ((73 : Nat), (5 : Nat), At.int IntKind.i64 (fQ v p).fst.hi.e)] (76 : Nat))))                                 ((Dx.Sm (34359738368 : Nat) (fT (fD v u p).fst.lo (fB u (Int.tmod n (17 : Int)))) ∧ Dx.Sm (34359738368 : Nat) (fB v (Int.tmod m (17 : Int)))) ∧ br (ltI (0 : Int) (fO (fT (fD v u p).fst.lo (fB u (Int.tmod n (17 : Int)))) (fB v (Int.tmod m (17 : Int))))) (Q (Tv.sv (Sv.one (At.bool false)))) ((Dx.Sm (34359738368 : Nat) (fB v (Int.tmod m (17 : Int))) ∧ Dx.Sm (34359738368 : Nat) (fT (fD v u p).fst.hi (fB u (Int.tmod n (17 : Int))))) ∧ br (ltI (0 : Int) (fO (fB v (Int.tmod m (17 : Int))) (fT (fD v u p).fst.hi (fB u (Int.tmod n (17 : Int)))))) (Q (Tv.sv (Sv.one (At.bool false)))) (true = true ∧ ∃ (_ : Unit), True ∧ Sg.mk [((21 : Nat), Tv.sv (Sv.one (At.ptr (73 : Nat) (0 : Nat)))), ((22 : Nat), Tv.sv (Sv.one (At.int IntKind.i64 (fQ v p).snd))), ((11 : Nat), Tv.sv (Sv.one (At.ptr (18 : Nat) (0 : Nat))))] [((18 : Nat), (0 : Nat), At.bool (fB v (Int.tmod m (17 : Int))).neg), ((18 : Nat), (1 : Nat), At.words true (fB v (Int.tmod m (17 : Int))).xs), ((18 : Nat), (2 : Nat), At.int IntKind.i64 (fB v (Int.tmod m (17 : Int))).e), ((73 : Nat), (0 : Nat), At.bool (fQ v p).fst.lo.neg), ((73 : Nat), (1 : Nat), At.words false (fQ v p).fst.lo.xs), ((73 : Nat), (2 : Nat), At.int IntKind.i64 (fQ v p).fst.lo.e), ((73 : Nat), (3 : Nat), At.bool (fQ v p).fst.hi.neg), ((73 : Nat), (4 : Nat), At.words false (fQ v p).fst.hi.xs), ((73 : Nat), (5 : Nat), At.int IntKind.i64 (fQ v p).fst.hi.e)] (76 : Nat) = Sg.mk [((21 : Nat), Tv.sv (Sv.one (At.ptr (73 : Nat) (0 : Nat)))), ((22 : Nat), Tv.sv (Sv.one (At.int IntKind.i64 (fQ v p).snd))), ((11 : Nat), Tv.sv (Sv.one (At.ptr (18 : Nat) (0 : Nat))))] [((18 : Nat), (0 : Nat), At.bool (fB v (Int.tmod m (17 : Int))).neg), ((18 : Nat), (1 : Nat), At.words true (fB v (Int.tmod m (17 : Int))).xs), ((18 : Nat), (2 : Nat), At.int IntKind.i64 (fB v (Int.tmod m (17 : Int))).e), ((73 : Nat), (0 : Nat), At.bool (fQ v p).fst.lo.neg), ((73 : Nat), (1 : Nat), At.words false (fQ v p).fst.lo.xs), ((73 : Nat), (2 : Nat), At.int IntKind.i64 (fQ v p).fst.lo.e), ((73 : Nat), (3 : Nat), At.bool (fQ v p).fst.hi.neg), ((73 : Nat), (4 : Nat), At.words false (fQ v p).fst.hi.xs), ((73 : Nat), (5 : Nat), At.int IntKind.i64 (fQ v p).fst.hi.e)] (76 : Nat)))))                           (true = true ∧ ∃ (_ : Unit), True ∧ Sg.mk [((21 : Nat), Tv.sv (Sv.one (At.ptr (73 : Nat) (0 : Nat)))), ((22 : Nat), Tv.sv (Sv.one (At.int IntKind.i64 (fQ v p).snd))), ((11 : Nat), Tv.sv (Sv.one (At.ptr (18 : Nat) (0 : Nat))))] [((18 : Nat), (0 : Nat), At.bool (fB v (Int.tmod m (17 : Int))).neg), ((18 : Nat), (1 : Nat), At.words true (fB v (Int.tmod m (17 : Int))).xs), ((18 : Nat), (2 : Nat), At.int IntKind.i64 (fB v (Int.tmod m (17 : Int))).e), ((73 : Nat), (0 : Nat), At.bool (fQ v p).fst.lo.neg), ((73 : Nat), (1 : Nat), At.words false (fQ v p).fst.lo.xs), ((73 : Nat), (2 : Nat), At.int IntKind.i64 (fQ v p).fst.lo.e), ((73 : Nat), (3 : Nat), At.bool (fQ v p).fst.hi.neg), ((73 : Nat), (4 : Nat), At.words false (fQ v p).fst.hi.xs), ((73 : Nat), (5 : Nat), At.int IntKind.i64 (fQ v p).fst.hi.e)] (76 : Nat) = Sg.mk [((21 : Nat), Tv.sv (Sv.one (At.ptr (73 : Nat) (0 : Nat)))), ((22 : Nat), Tv.sv (Sv.one (At.int IntKind.i64 (fQ v p).snd))), ((11 : Nat), Tv.sv (Sv.one (At.ptr (18 : Nat) (0 : Nat))))] [((18 : Nat), (0 : Nat), At.bool (fB v (Int.tmod m (17 : Int))).neg), ((18 : Nat), (1 : Nat), At.words true (fB v (Int.tmod m (17 : Int))).xs), ((18 : Nat), (2 : Nat), At.int IntKind.i64 (fB v (Int.tmod m (17 : Int))).e), ((73 : Nat), (0 : Nat), At.bool (fQ v p).fst.lo.neg), ((73 : Nat), (1 : Nat), At.words false (fQ v p).fst.lo.xs), ((73 : Nat), (2 : Nat), At.int IntKind.i64 (fQ v p).fst.lo.e), ((73 : Nat), (3 : Nat), At.bool (fQ v p).fst.hi.neg), ((73 : Nat), (4 : Nat), At.words false (fQ v p).fst.hi.xs), ((73 : Nat), (5 : Nat), At.int IntKind.i64 (fQ v p).fst.hi.e)] (76 : Nat)) ∧                         ∀ (_ : Unit), True → br (eqI (fQ v p).snd (0 : Int)) ((Dx.Sm (68719476736 : Nat) (fQ v p).fst.lo ∧ Dx.Sm (68719476736 : Nat) (fQ v p).fst.lo) ∧ (Dx.Sm (34359738368 : Nat) (fT (fQ v p).fst.lo (fQ v p).fst.lo) ∧ Dx.Sm (34359738368 : Nat) (fB v (Int.tmod m (17 : Int)))) ∧ br (ltI (0 : Int) (fO (fT (fQ v p).fst.lo (fQ v p).fst.lo) (fB v (Int.tmod m (17 : Int))))) (true = true ∧ Q (Tv.sv (Sv.one (At.bool false)))) ((Dx.Sm (68719476736 : Nat) (fQ v p).fst.hi ∧ Dx.Sm (68719476736 : Nat) (fQ v p).fst.hi) ∧ (Dx.Sm (34359738368 : Nat) (fB v (Int.tmod m (17 : Int))) ∧ Dx.Sm (34359738368 : Nat) (fT (fQ v p).fst.hi (fQ v p).fst.hi)) ∧ br (ltI (0 : Int) (fO (fB v (Int.tmod m (17 : Int))) (fT (fQ v p).fst.hi (fQ v p).fst.hi))) (true = true ∧ Q (Tv.sv (Sv.one (At.bool false)))) (true = true ∧ br (ltI (fG (fQ v p).fst.lo) (0 : Int)) (Q (Tv.sv (Sv.one (At.bool false)))) (Q (Tv.sv (Sv.one (At.bool true))))))) (true = true ∧ Q (Tv.sv (Sv.one (At.bool true))))))) := by kernel_rfl
def sSh (fA fM : Vx → Vx → Int → Vx × Int) (fR fZ : Dx → Bool) (fPt : Dx → Vx × Int) (fP fT : Dx → Dx → Dx) (fBi : Dx → Int) (fP6 : Dx → Vx) (fS : Vx → Vx → Bool) (fN : Vx → Int → Bool) : List (FuncId × Spec) :=
  [(14, wVV fA), (36, wVV fM), (35, wDB fR), (39, wDB fZ), (20, wPt fPt), (37, wDD 68719476736 fP), (38, wDD 68719476736 fT), (40, wSg fBi), (41, wP6 fP6), (18, wB fS), (24, wNa fN), (12, lBeg)]
theorem sSh_ok : SpecsOk Tryd.prog (sSh ivAdd ivMul Dx.fitsB Dx.zeroB ivPoint plusD timesD bitsD pointV sameV narrowB) := ⟨vXAdd_ok, vXMul_ok, fRight_ok, fZero_ok, vXPoint_ok, fPlus_ok, fTimes_ok, fBits_ok, gPoint_ok, gSame_ok, vNa_ok, lBeg_ok, trivial⟩
theorem lSharp_vc (fA fM : Vx → Vx → Int → Vx × Int) (fR fZ : Dx → Bool) (fPt : Dx → Vx × Int) (fP fT : Dx → Dx → Dx) (fBi : Dx → Int) (fP6 : Dx → Vx) (fS : Vx → Vx → Bool) (fN : Vx → Int → Bool) (a b : Dx) (p : Int) (Q : Tv → Prop) : execF ⟨tys2, sSh fA fM fR fZ fPt fP fT fBi fP6 fS fN⟩ (fun _ => none) 0 Tryd.f8 [.agg (dyL false a), .agg (dyL false b), .one (.int .i64 p)] Q = (br (!fR a) (Q (Tv.sv (Sv.one (At.bool true)))) (br (!fR b) (Q (Tv.sv (Sv.one (At.bool true)))) (br (neI (fPt a).snd (0 : Int)) (Q (Tv.sv (Sv.one (At.bool true)))) (br (neI (fPt b).snd (0 : Int)) (Q (Tv.sv (Sv.one (At.bool true)))) (br (neI (fA (fPt a).fst (fPt b).fst p).snd (0 : Int)) (Q (Tv.sv (Sv.one (At.bool true)))) (br (neI (fM (fPt a).fst (fPt b).fst p).snd (0 : Int)) (Q (Tv.sv (Sv.one (At.bool true)))) ((Dx.Sm (68719476736 : Nat) a ∧ Dx.Sm (68719476736 : Nat) b) ∧ (Dx.Sm (68719476736 : Nat) a ∧ Dx.Sm (68719476736 : Nat) b) ∧ br (!fR (fP a b)) (Q (Tv.sv (Sv.one (At.bool true)))) (br (!fR (fT a b)) (Q (Tv.sv (Sv.one (At.bool true)))) (br (fZ (fP a b)) (eB (4611686018427387904 : Int) (fP a b) ∧ br (!true == fS (fA (fPt a).fst (fPt b).fst p).fst (fP6 (fP a b))) (true = true ∧ Q (Tv.sv (Sv.one (At.bool false)))) (br (fZ (fT a b)) (eB (4611686018427387904 : Int) (fT a b) ∧ true = true ∧ br (!true == fS (fM (fPt a).fst (fPt b).fst p).fst (fP6 (fT a b))) (Q (Tv.sv (Sv.one (At.bool false)))) (br (fN (fPt a).fst p) (eB (4611686018427387904 : Int) (fP a b) ∧ br (fN (fP6 (fP a b)) p) (br (fZ (fP a b)) (Q (Tv.sv (Sv.one (At.bool true)))) (br (ltI p (2 : Int)) (Q (Tv.sv (Sv.one (At.bool true)))) (inR (p - (2 : Int)) ∧ Q (Tv.sv (Sv.one (At.bool (fN (fA (fPt a).fst (fPt b).fst p).fst (p - (2 : Int))))))))) (Q (Tv.sv (Sv.one (At.bool false))))) (Q (Tv.sv (Sv.one (At.bool false)))))) (eB (4611686018427387904 : Int) (fT a b) ∧ true = true ∧ br (!leI (fBi (fT a b)) p == fS (fM (fPt a).fst (fPt b).fst p).fst (fP6 (fT a b))) (Q (Tv.sv (Sv.one (At.bool false)))) (br (fN (fPt a).fst p) (eB (4611686018427387904 : Int) (fP a b) ∧ br (fN (fP6 (fP a b)) p) (br (fZ (fP a b)) (Q (Tv.sv (Sv.one (At.bool true)))) (br (ltI p (2 : Int)) (Q (Tv.sv (Sv.one (At.bool true)))) (inR (p - (2 : Int)) ∧ Q (Tv.sv (Sv.one (At.bool (fN (fA (fPt a).fst (fPt b).fst p).fst (p - (2 : Int))))))))) (Q (Tv.sv (Sv.one (At.bool false))))) (Q (Tv.sv (Sv.one (At.bool false)))))))) (eB (4611686018427387904 : Int) (fP a b) ∧ br (!leI (fBi (fP a b)) p == fS (fA (fPt a).fst (fPt b).fst p).fst (fP6 (fP a b))) (true = true ∧ Q (Tv.sv (Sv.one (At.bool false)))) (br (fZ (fT a b)) (eB (4611686018427387904 : Int) (fT a b) ∧ true = true ∧ br (!true == fS (fM (fPt a).fst (fPt b).fst p).fst (fP6 (fT a b))) (Q (Tv.sv (Sv.one (At.bool false)))) (br (fN (fPt a).fst p) (eB (4611686018427387904 : Int) (fP a b) ∧ br (fN (fP6 (fP a b)) p) (br (fZ (fP a b)) (Q (Tv.sv (Sv.one (At.bool true)))) (br (ltI p (2 : Int)) (Q (Tv.sv (Sv.one (At.bool true)))) (inR (p - (2 : Int)) ∧ Q (Tv.sv (Sv.one (At.bool (fN (fA (fPt a).fst (fPt b).fst p).fst (p - (2 : Int))))))))) (Q (Tv.sv (Sv.one (At.bool false))))) (Q (Tv.sv (Sv.one (At.bool false)))))) (eB (4611686018427387904 : Int) (fT a b) ∧ true = true ∧ br (!leI (fBi (fT a b)) p == fS (fM (fPt a).fst (fPt b).fst p).fst (fP6 (fT a b))) (Q (Tv.sv (Sv.one (At.bool false)))) (br (fN (fPt a).fst p) (eB (4611686018427387904 : Int) (fP a b) ∧ br (fN (fP6 (fP a b)) p) (br (fZ (fP a b)) (Q (Tv.sv (Sv.one (At.bool true)))) (br (ltI p (2 : Int)) (Q (Tv.sv (Sv.one (At.bool true)))) (inR (p - (2 : Int)) ∧ Q (Tv.sv (Sv.one (At.bool (fN (fA (fPt a).fst (fPt b).fst p).fst (p - (2 : Int))))))))) (Q (Tv.sv (Sv.one (At.bool false))))) (Q (Tv.sv (Sv.one (At.bool false))))))))))))))))) := by kernel_rfl
end Go.Proofs.YtmfmneanmamjbaaDoor

namespace Go.Proofs.YtmfmneanmamjbaaDoor
open Go.RowKit
theorem not_b {b : Bool} (h : ¬ b = true) : b = false := by simpa using h
theorem room_ok {X : Vx} (h : eqI (roomR X).snd 0 = true) : (roomR X).fst = X ∧ X.lo.fitsB = true ∧ X.hi.fitsB = true := by
  unfold roomR at *
  by_cases k : (X.lo.fitsB && X.hi.fitsB) = true
  · rw [if_pos k]; rw [Bool.and_eq_true] at k; exact ⟨rfl, k.1, k.2⟩
  · rw [if_neg k] at h; exact absurd h (by decide)
theorem do_ok {v u X : Vx} {p wrong : Int} (h : eqI (doR v u p wrong X).snd 0 = true) : rightV v = true ∧ rightV u = true ∧ 1 ≤ p ∧ p ≤ 8192 ∧ wrong = 0 ∧ (doR v u p wrong X).fst = X ∧ X.lo.fitsB = true ∧ X.hi.fitsB = true := by
  unfold doR whenR at *
  by_cases k : (rightV v && (rightV u && (leI 1 p && leI p 8192))) = true
  · rw [if_pos k] at h ⊢
    simp only [Bool.and_eq_true] at k
    refine ⟨k.1, k.2.1, leI_true.1 k.2.2.1, leI_true.1 k.2.2.2, ?_⟩
    by_cases k2 : neI wrong 0 = true
    · rw [if_pos k2] at h
      exact absurd (eqI_true.1 h) (neI_true.1 k2)
    · rw [if_neg k2] at h ⊢
      have := room_ok h
      exact ⟨neI_false.1 (not_b k2), this.1, this.2.1, this.2.2⟩
  · rw [if_neg k] at h; exact absurd h (by decide)
/-- The number lies in the interval. -/
def InV (v : Vx) (x : Rat) : Prop := v.lo.rv ≤ x ∧ x ≤ v.hi.rv
theorem within_of {y x : Vx} (hy : rightV y = true) (h1 : x.lo.fitsB = true) (h2 : x.hi.fitsB = true) (h3 : x.lo.rv ≤ y.lo.rv) (h4 : y.hi.rv ≤ x.hi.rv) : withinV y x = true := by
  have h := right_le hy
  have hx : rightV x = true := by
    rw [rightV, h1, h2, decide_eq_true (cmpD_le.2 (show x.lo.rv ≤ x.hi.rv by grind))]; rfl
  rw [withinV, hy, hx, show leI (cmpD x.lo y.lo) 0 = true from leI_true.2 (cmpD_le.2 h3), show leI (cmpD y.hi x.hi) 0 = true from leI_true.2 (cmpD_le.2 h4)]; rfl
theorem right_of {x : Vx} (h1 : x.lo.fitsB = true) (h2 : x.hi.fitsB = true) (h : x.lo.rv ≤ x.hi.rv) : rightV x = true := by
  rw [rightV, h1, h2, decide_eq_true (cmpD_le.2 h)]; rfl
/-! ### The least and the greatest of some. -/
theorem spanS_rv (v : Vx) (d : Dx) : (spanS v d).lo.rv ≤ v.lo.rv ∧ (spanS v d).lo.rv ≤ d.rv ∧ ((spanS v d).lo = v.lo ∨ (spanS v d).lo = d) ∧ v.hi.rv ≤ (spanS v d).hi.rv ∧ d.rv ≤ (spanS v d).hi.rv ∧ ((spanS v d).hi = v.hi ∨ (spanS v d).hi = d) := by
  unfold spanS
  have a : (if cmpD d v.lo < 0 then d else v.lo).rv ≤ v.lo.rv ∧ (if cmpD d v.lo < 0 then d else v.lo).rv ≤ d.rv ∧ ((if cmpD d v.lo < 0 then d else v.lo) = v.lo ∨ (if cmpD d v.lo < 0 then d else v.lo) = d) := by
    by_cases h : cmpD d v.lo < 0
    · rw [if_pos h]; have := cmpD_lt0.1 h; exact ⟨by grind, by grind, .inr rfl⟩
    · rw [if_neg h]; have : ¬ d.rv < v.lo.rv := fun k => h (cmpD_lt0.2 k); exact ⟨by grind, by grind, .inl rfl⟩
  have b : v.hi.rv ≤ (if 0 < cmpD d v.hi then d else v.hi).rv ∧ d.rv ≤ (if 0 < cmpD d v.hi then d else v.hi).rv ∧ ((if 0 < cmpD d v.hi then d else v.hi) = v.hi ∨ (if 0 < cmpD d v.hi then d else v.hi) = d) := by
    by_cases h : 0 < cmpD d v.hi
    · rw [if_pos h]; have := cmpD_gt0.1 h; exact ⟨by grind, by grind, .inr rfl⟩
    · rw [if_neg h]; have : ¬ v.hi.rv < d.rv := fun k => h (cmpD_gt0.2 k); exact ⟨by grind, by grind, .inl rfl⟩
  exact ⟨a.1, a.2.1, a.2.2, b.1, b.2.1, b.2.2⟩
theorem span4_lo (a b c d : Dx) : (spanL a [b, c, d]).lo.rv ≤ a.rv ∧ (spanL a [b, c, d]).lo.rv ≤ b.rv ∧ (spanL a [b, c, d]).lo.rv ≤ c.rv ∧ (spanL a [b, c, d]).lo.rv ≤ d.rv ∧
    ((spanL a [b, c, d]).lo = a ∨ (spanL a [b, c, d]).lo = b ∨ (spanL a [b, c, d]).lo = c ∨ (spanL a [b, c, d]).lo = d) := by
  have h1 := spanS_rv ⟨a, a⟩ b
  have h2 := spanS_rv (spanS ⟨a, a⟩ b) c
  have h3 := spanS_rv (spanS (spanS ⟨a, a⟩ b) c) d
  rw [show spanL a [b, c, d] = spanS (spanS (spanS ⟨a, a⟩ b) c) d from rfl]
  have a1 := h1.1; have a2 := h1.2.1; have a3 := h2.1; have a4 := h2.2.1; have a5 := h3.1; have a6 := h3.2.1
  simp only at a1
  refine ⟨by grind, by grind, by grind, a6, ?_⟩
  rcases h3.2.2.1 with k | k <;> rw [k]
  · rcases h2.2.2.1 with k | k <;> rw [k]
    · rcases h1.2.2.1 with k | k <;> rw [k]
      · exact .inl rfl
      · exact .inr (.inl rfl)
    · exact .inr (.inr (.inl rfl))
  · exact .inr (.inr (.inr rfl))
theorem span4_hi (a b c d : Dx) : a.rv ≤ (spanL a [b, c, d]).hi.rv ∧ b.rv ≤ (spanL a [b, c, d]).hi.rv ∧ c.rv ≤ (spanL a [b, c, d]).hi.rv ∧ d.rv ≤ (spanL a [b, c, d]).hi.rv ∧
    ((spanL a [b, c, d]).hi = a ∨ (spanL a [b, c, d]).hi = b ∨ (spanL a [b, c, d]).hi = c ∨ (spanL a [b, c, d]).hi = d) := by
  have h1 := spanS_rv ⟨a, a⟩ b
  have h2 := spanS_rv (spanS ⟨a, a⟩ b) c
  have h3 := spanS_rv (spanS (spanS ⟨a, a⟩ b) c) d
  rw [show spanL a [b, c, d] = spanS (spanS (spanS ⟨a, a⟩ b) c) d from rfl]
  have a1 := h1.2.2.2.1; have a2 := h1.2.2.2.2.1; have a3 := h2.2.2.2.1; have a4 := h2.2.2.2.2.1; have a5 := h3.2.2.2.1; have a6 := h3.2.2.2.2.1
  simp only at a1
  refine ⟨by grind, by grind, by grind, a6, ?_⟩
  rcases h3.2.2.2.2.2 with k | k <;> rw [k]
  · rcases h2.2.2.2.2.2 with k | k <;> rw [k]
    · rcases h1.2.2.2.2.2 with k | k <;> rw [k]
      · exact .inl rfl
      · exact .inr (.inl rfl)
    · exact .inr (.inr (.inl rfl))
  · exact .inr (.inr (.inr rfl))
/-! ### Sums and differences. -/
theorem trim_best {w : Vx} {p : Int} (hw : w.P) (hp : 1 ≤ p) : Dn p w.lo.rv (trimV w p).lo.rv ∧ Up p w.hi.rv (trimV w p).hi.rv := ⟨(cutD_best hw.1 hp).1, (cutD_best hw.2 hp).2⟩
theorem plus_best {v u : Vx} {p : Int} (hv : v.P) (hu : u.P) (hp : 1 ≤ p) : Dn p (v.lo.rv + u.lo.rv) (plusV v u p).lo.rv ∧ Up p (v.hi.rv + u.hi.rv) (plusV v u p).hi.rv := by
  have := trim_best (w := sumV v u) ⟨plusD_p, plusD_p⟩ hp
  rw [show (sumV v u).lo.rv = v.lo.rv + u.lo.rv from rv_plus hv.1 hu.1, show (sumV v u).hi.rv = v.hi.rv + u.hi.rv from rv_plus hv.2 hu.2] at this
  exact this
theorem less_best {v u : Vx} {p : Int} (hv : v.P) (hu : u.P) (hp : 1 ≤ p) : Dn p (v.lo.rv - u.hi.rv) (lessV v u p).lo.rv ∧ Up p (v.hi.rv - u.lo.rv) (lessV v u p).hi.rv := by
  have := plus_best (v := v) (u := turnV u) hv ⟨negD_p, negD_p⟩ hp
  rw [show (turnV u).lo.rv = -u.hi.rv from rv_neg hu.2, show (turnV u).hi.rv = -u.lo.rv from rv_neg hu.1, ← Rat.sub_eq_add_neg, ← Rat.sub_eq_add_neg] at this
  exact this
/-! ### Products. -/
theorem prod_lo {v u : Vx} (hv : v.P) (hu : u.P) : (∀ x0 y0, (x0 = v.lo.rv ∨ x0 = v.hi.rv) → (y0 = u.lo.rv ∨ y0 = u.hi.rv) → (prodV v u).lo.rv ≤ x0 * y0 ∧ x0 * y0 ≤ (prodV v u).hi.rv) := by
  obtain ⟨a1, a2, a3, a4, _⟩ := span4_lo (timesD v.lo u.lo) (timesD v.lo u.hi) (timesD v.hi u.lo) (timesD v.hi u.hi)
  obtain ⟨b1, b2, b3, b4, _⟩ := span4_hi (timesD v.lo u.lo) (timesD v.lo u.hi) (timesD v.hi u.lo) (timesD v.hi u.hi)
  rw [rv_times hv.1 hu.1] at a1 b1
  rw [rv_times hv.1 hu.2] at a2 b2
  rw [rv_times hv.2 hu.1] at a3 b3
  rw [rv_times hv.2 hu.2] at a4 b4
  intro x0 y0 hx hy
  rcases hx with rfl | rfl <;> rcases hy with rfl | rfl
  · exact ⟨a1, b1⟩
  · exact ⟨a2, b2⟩
  · exact ⟨a3, b3⟩
  · exact ⟨a4, b4⟩
theorem prod_at {v u : Vx} (hv : v.P) (hu : u.P) : (∃ x0 y0, (x0 = v.lo.rv ∨ x0 = v.hi.rv) ∧ (y0 = u.lo.rv ∨ y0 = u.hi.rv) ∧ (prodV v u).lo.rv = x0 * y0) ∧ (∃ x0 y0, (x0 = v.lo.rv ∨ x0 = v.hi.rv) ∧ (y0 = u.lo.rv ∨ y0 = u.hi.rv) ∧ (prodV v u).hi.rv = x0 * y0) := by
  obtain ⟨_, _, _, _, a⟩ := span4_lo (timesD v.lo u.lo) (timesD v.lo u.hi) (timesD v.hi u.lo) (timesD v.hi u.hi)
  obtain ⟨_, _, _, _, b⟩ := span4_hi (timesD v.lo u.lo) (timesD v.lo u.hi) (timesD v.hi u.lo) (timesD v.hi u.hi)
  constructor
  · show ∃ x0 y0, _ ∧ _ ∧ (spanL (timesD v.lo u.lo) [timesD v.lo u.hi, timesD v.hi u.lo, timesD v.hi u.hi]).lo.rv = _
    rcases a with a | a | a | a <;> rw [a]
    · exact ⟨_, _, .inl rfl, .inl rfl, rv_times hv.1 hu.1⟩
    · exact ⟨_, _, .inl rfl, .inr rfl, rv_times hv.1 hu.2⟩
    · exact ⟨_, _, .inr rfl, .inl rfl, rv_times hv.2 hu.1⟩
    · exact ⟨_, _, .inr rfl, .inr rfl, rv_times hv.2 hu.2⟩
  · show ∃ x0 y0, _ ∧ _ ∧ (spanL (timesD v.lo u.lo) [timesD v.lo u.hi, timesD v.hi u.lo, timesD v.hi u.hi]).hi.rv = _
    rcases b with b | b | b | b <;> rw [b]
    · exact ⟨_, _, .inl rfl, .inl rfl, rv_times hv.1 hu.1⟩
    · exact ⟨_, _, .inl rfl, .inr rfl, rv_times hv.1 hu.2⟩
    · exact ⟨_, _, .inr rfl, .inl rfl, rv_times hv.2 hu.1⟩
    · exact ⟨_, _, .inr rfl, .inr rfl, rv_times hv.2 hu.2⟩
theorem prod_in {v u : Vx} {x y : Rat} (hv : v.P) (hu : u.P) (hx : InV v x) (hy : InV u y) : (prodV v u).lo.rv ≤ x * y ∧ x * y ≤ (prodV v u).hi.rv := by
  have h := prod_lo hv hu
  obtain ⟨x0, y0, k1, k2, k3⟩ := corner_le hx.1 hx.2 hy.1 hy.2
  obtain ⟨x1, y1, l1, l2, l3⟩ := corner_ge hx.1 hx.2 hy.1 hy.2
  have h1 := h x0 y0 k1 k2
  have h2 := h x1 y1 l1 l2
  constructor <;> grind
theorem times_best {v u : Vx} {p : Int} (hp : 1 ≤ p) (hv : v.P) (hu : u.P) : Dn p (prodV v u).lo.rv (timesV v u p).lo.rv ∧ Up p (prodV v u).hi.rv (timesV v u p).hi.rv := by
  have _ := hv
  have _ := hu
  exact trim_best (prodV_p v u) hp
/-! ### Quotients. -/
/-- Of y between c and d, 0 not among them, the inverses lie between theirs. -/
theorem inv_between {c d y : Rat} (h1 : c ≤ y) (h2 : y ≤ d) (h : 0 < c ∨ d < 0) : d⁻¹ ≤ y⁻¹ ∧ y⁻¹ ≤ c⁻¹ := by
  have key : ∀ {a b : Rat}, a ≤ b → (0 < a ∨ b < 0) → b⁻¹ ≤ a⁻¹ := by
    intro a b hab h0
    have ha : a ≠ 0 := by grind
    have hb : b ≠ 0 := by grind
    have e1 : a⁻¹ * a = 1 := Rat.inv_mul_cancel a ha
    have e2 : b⁻¹ * b = 1 := Rat.inv_mul_cancel b hb
    have e3 : (a⁻¹ - b⁻¹) * (a * b) = b - a := by grind
    have hab0 : 0 < a * b := by
      rcases h0 with h0 | h0
      · exact Rat.mul_pos h0 (by grind)
      · have := Rat.mul_pos (show 0 < -a by grind) (show 0 < -b by grind); grind
    rcases (show b⁻¹ ≤ a⁻¹ ∨ a⁻¹ < b⁻¹ by grind) with h | h
    · exact h
    · have := Rat.mul_pos (show 0 < b⁻¹ - a⁻¹ by grind) hab0
      grind
  exact ⟨key h2 (by grind), key h1 (by grind)⟩
end Go.Proofs.YtmfmneanmamjbaaDoor

namespace Go.Proofs.YtmfmneanmamjbaaDoor
open Go.RowKit
/-- 0 does not lie in it. -/
def Off0 (u : Vx) : Prop := 0 < u.lo.rv ∨ u.hi.rv < 0
theorem off0_of {u : Vx} (hu : u.P) (h : zeroV u = false) : Off0 u := by
  have hn : ¬ (u.lo.sgn ≤ 0 ∧ 0 ≤ u.hi.sgn) := by
    intro ⟨a, b⟩; rw [zeroV, decide_eq_true a, decide_eq_true b] at h; simp at h
  rcases sgn_rv hu.1 with ⟨a, b⟩ | ⟨a, b⟩ | ⟨a, b⟩
  · rcases sgn_rv hu.2 with ⟨c, d⟩ | ⟨c, d⟩ | ⟨c, d⟩
    · exact (hn ⟨by omega, by omega⟩).elim
    · exact (hn ⟨by omega, by omega⟩).elim
    · exact .inr d
  · exact .inl b
  · rcases sgn_rv hu.2 with ⟨c, d⟩ | ⟨c, d⟩ | ⟨c, d⟩
    · exact (hn ⟨by omega, by omega⟩).elim
    · exact (hn ⟨by omega, by omega⟩).elim
    · exact .inr d
theorem rv_ne {d : Dx} (h : d.rv ≠ 0) : d.m ≠ 0 := fun e => h (rv_zero e)
theorem over_corner {a b : Dx} {p : Int} (ha : 0 ≤ a.m) (hb : 0 ≤ b.m) (hb0 : b.rv ≠ 0) (hp : 1 ≤ p) : Dn p (a.rv * b.rv⁻¹) (overD a b p false).rv ∧ Up p (a.rv * b.rv⁻¹) (overD a b p true).rv :=
  over_best ha hb (rv_ne hb0) hp (by rw [Rat.mul_assoc, Rat.inv_mul_cancel _ hb0, Rat.mul_one])
/-- The corners of a quotient. -/
def Cor (v u : Vx) (a b : Dx) : Prop := (a = v.lo ∨ a = v.hi) ∧ (b = u.lo ∨ b = u.hi)
theorem div_lo (v u : Vx) (p : Int) {a b : Dx} (h : Cor v u a b) : (divV v u p).lo.rv ≤ (overD a b p false).rv ∧ (overD a b p true).rv ≤ (divV v u p).hi.rv := by
  obtain ⟨a1, a2, a3, a4, _⟩ := span4_lo (overD v.lo u.lo p false) (overD v.lo u.hi p false) (overD v.hi u.lo p false) (overD v.hi u.hi p false)
  obtain ⟨b1, b2, b3, b4, _⟩ := span4_hi (overD v.lo u.lo p true) (overD v.lo u.hi p true) (overD v.hi u.lo p true) (overD v.hi u.hi p true)
  obtain ⟨h1, h2⟩ := h
  rcases h1 with rfl | rfl <;> rcases h2 with rfl | rfl
  · exact ⟨a1, b1⟩
  · exact ⟨a2, b2⟩
  · exact ⟨a3, b3⟩
  · exact ⟨a4, b4⟩
theorem div_at (v u : Vx) (p : Int) : (∃ a b, Cor v u a b ∧ (divV v u p).lo = overD a b p false) ∧ ∃ a b, Cor v u a b ∧ (divV v u p).hi = overD a b p true := by
  obtain ⟨_, _, _, _, a⟩ := span4_lo (overD v.lo u.lo p false) (overD v.lo u.hi p false) (overD v.hi u.lo p false) (overD v.hi u.hi p false)
  obtain ⟨_, _, _, _, b⟩ := span4_hi (overD v.lo u.lo p true) (overD v.lo u.hi p true) (overD v.hi u.lo p true) (overD v.hi u.hi p true)
  constructor
  · rcases a with a | a | a | a
    · exact ⟨_, _, ⟨.inl rfl, .inl rfl⟩, a⟩
    · exact ⟨_, _, ⟨.inl rfl, .inr rfl⟩, a⟩
    · exact ⟨_, _, ⟨.inr rfl, .inl rfl⟩, a⟩
    · exact ⟨_, _, ⟨.inr rfl, .inr rfl⟩, a⟩
  · rcases b with a | a | a | a
    · exact ⟨_, _, ⟨.inl rfl, .inl rfl⟩, a⟩
    · exact ⟨_, _, ⟨.inl rfl, .inr rfl⟩, a⟩
    · exact ⟨_, _, ⟨.inr rfl, .inl rfl⟩, a⟩
    · exact ⟨_, _, ⟨.inr rfl, .inr rfl⟩, a⟩
theorem Cor.best {v u : Vx} {a b : Dx} {p : Int} (h : Cor v u a b) (hv : v.P) (hu : u.P) (h0 : Off0 u) (hle : u.lo.rv ≤ u.hi.rv) (hp : 1 ≤ p) : b.rv ≠ 0 ∧ Dn p (a.rv * b.rv⁻¹) (overD a b p false).rv ∧ Up p (a.rv * b.rv⁻¹) (overD a b p true).rv := by
  obtain ⟨h1, h2⟩ := h
  have hb : b.rv ≠ 0 := by
    rcases h2 with rfl | rfl <;> unfold Off0 at h0 <;> grind
  have ha : 0 ≤ a.m := by rcases h1 with rfl | rfl; exact hv.1; exact hv.2
  have hbm : 0 ≤ b.m := by rcases h2 with rfl | rfl; exact hu.1; exact hu.2
  exact ⟨hb, over_corner ha hbm hb hp⟩
/-- Of a number of v over one of u: a corner of no greater quotient, and one of no lesser. -/
theorem quo_corner {v u : Vx} {x y : Rat} (h0 : Off0 u) (hx : InV v x) (hy : InV u y) : (∃ a b, Cor v u a b ∧ a.rv * b.rv⁻¹ ≤ x * y⁻¹) ∧ ∃ a b, Cor v u a b ∧ x * y⁻¹ ≤ a.rv * b.rv⁻¹ := by
  obtain ⟨i1, i2⟩ := inv_between hy.1 hy.2 h0
  constructor
  · obtain ⟨x0, y0, k1, k2, k3⟩ := corner_le hx.1 hx.2 i1 i2
    rcases k1 with rfl | rfl <;> rcases k2 with rfl | rfl
    · exact ⟨_, _, ⟨.inl rfl, .inr rfl⟩, k3⟩
    · exact ⟨_, _, ⟨.inl rfl, .inl rfl⟩, k3⟩
    · exact ⟨_, _, ⟨.inr rfl, .inr rfl⟩, k3⟩
    · exact ⟨_, _, ⟨.inr rfl, .inl rfl⟩, k3⟩
  · obtain ⟨x0, y0, k1, k2, k3⟩ := corner_ge hx.1 hx.2 i1 i2
    rcases k1 with rfl | rfl <;> rcases k2 with rfl | rfl
    · exact ⟨_, _, ⟨.inl rfl, .inr rfl⟩, k3⟩
    · exact ⟨_, _, ⟨.inl rfl, .inl rfl⟩, k3⟩
    · exact ⟨_, _, ⟨.inr rfl, .inr rfl⟩, k3⟩
    · exact ⟨_, _, ⟨.inr rfl, .inl rfl⟩, k3⟩
theorem div_in {v u : Vx} {x y : Rat} {p : Int} (hv : v.P) (hu : u.P) (h0 : Off0 u) (hp : 1 ≤ p) (hx : InV v x) (hy : InV u y) : InV (divV v u p) (x * y⁻¹) := by
  have hle : u.lo.rv ≤ u.hi.rv := by have := hy.1; have := hy.2; grind
  obtain ⟨⟨a, b, k1, k2⟩, c, d, k3, k4⟩ := quo_corner h0 hx hy
  have b1 := (k1.best hv hu h0 hle hp).2.1.2.1
  have b2 := (k3.best hv hu h0 hle hp).2.2.2.1
  have c1 := (div_lo v u p k1).1
  have c2 := (div_lo v u p k3).2
  exact ⟨by grind, by grind⟩
theorem div_part {v c u : Vx} {p : Int} (hv : v.P) (hc : c.P) (hu : u.P) (h0 : Off0 u) (hle : u.lo.rv ≤ u.hi.rv) (hp : 1 ≤ p) (h1 : v.lo.rv ≤ c.lo.rv) (h2 : c.hi.rv ≤ v.hi.rv) (h3 : c.lo.rv ≤ c.hi.rv) :
    (divV v u p).lo.rv ≤ (divV c u p).lo.rv ∧ (divV c u p).hi.rv ≤ (divV v u p).hi.rv := by
  obtain ⟨⟨a, b, k1, e1⟩, a', b', k2, e2⟩ := div_at c u p
  have at1 : ∀ {a b}, Cor c u a b → InV v a.rv ∧ InV u b.rv := fun {a b} k => by
    constructor
    · rcases k.1 with rfl | rfl <;> exact ⟨by grind, by grind⟩
    · rcases k.2 with rfl | rfl <;> exact ⟨by grind, by grind⟩
  constructor
  · rw [e1]
    obtain ⟨⟨x, y, l1, l2⟩, _⟩ := quo_corner h0 (at1 k1).1 (at1 k1).2
    have b1 := (k1.best hc hu h0 hle hp).2.1
    have b2 := (l1.best hv hu h0 hle hp).2.1
    have := b2.mono b1 l2
    have := (div_lo v u p l1).1
    grind
  · rw [e2]
    obtain ⟨_, x, y, l1, l2⟩ := quo_corner h0 (at1 k2).1 (at1 k2).2
    have b1 := (k2.best hc hu h0 hle hp).2.2
    have b2 := (l1.best hv hu h0 hle hp).2.2
    have := b1.mono b2 l2
    have := (div_lo v u p l1).2
    grind
theorem div_more {v u : Vx} {p q : Int} (hv : v.P) (hu : u.P) (h0 : Off0 u) (hle : u.lo.rv ≤ u.hi.rv) (hp : 1 ≤ p) (hq : p ≤ q) : (divV v u p).lo.rv ≤ (divV v u q).lo.rv ∧ (divV v u q).hi.rv ≤ (divV v u p).hi.rv := by
  obtain ⟨⟨a, b, k1, e1⟩, a', b', k2, e2⟩ := div_at v u q
  constructor
  · rw [e1]
    have := (k1.best hv hu h0 hle hp).2.1.more (k1.best hv hu h0 hle (show 1 ≤ q by omega)).2.1 hq
    have := (div_lo v u p k1).1
    grind
  · rw [e2]
    have := (k2.best hv hu h0 hle hp).2.2.more (k2.best hv hu h0 hle (show 1 ≤ q by omega)).2.2 hq
    have := (div_lo v u p k2).2
    grind
theorem sqrt_best {v : Vx} {p : Int} (hv : v.P) (h0 : 0 ≤ v.lo.rv) (hle : v.lo.rv ≤ v.hi.rv) (hp : 1 ≤ p) : DnS p v.lo.rv (sqrtV v p).lo.rv ∧ UpS p v.hi.rv (sqrtV v p).hi.rv := ⟨(root_best hv.1 h0 hp).1, (root_best hv.2 (by grind) hp).2⟩
/-! ### The answers, told by what they are. -/
theorem trimV_p (v : Vx) (p : Int) : (trimV v p).P := ⟨cutD_p, cutD_p⟩
theorem quoV_p (v u : Vx) (p : Int) (up : Bool) : (quoV v u p up).P := span4_p overD_p overD_p overD_p overD_p
theorem divV_p (v u : Vx) (p : Int) : (divV v u p).P := ⟨(quoV_p v u p false).1, (quoV_p v u p true).2⟩
theorem sqrtV_p (v : Vx) (p : Int) : (sqrtV v p).P := ⟨rootD_p, rootD_p⟩
theorem wrongZ_off {u : Vx} (hu : u.P) (h : wrongZ u = 0) : Off0 u := off0_of hu (by
  cases hz : zeroV u with
  | false => rfl
  | true => rw [wrongZ, hz] at h; simp at h)
theorem wrongL_pos {v : Vx} (hv : v.P) (h : wrongL v = 0) : 0 ≤ v.lo.rv := by
  have : ¬ v.lo.sgn < 0 := by
    intro k; rw [wrongL, if_pos k] at h; omega
  rcases sgn_rv hv.1 with ⟨a, b⟩ | ⟨a, b⟩ | ⟨a, b⟩
  · rw [b]; exact Rat.le_refl
  · exact Rat.le_of_lt b
  · omega
theorem back1 {v u : Vx} {p : Int} (hv : v.P) (hu : u.P) (h : eqI (ivAdd v u p).snd 0 = true) (k : eqI (ivSub (ivAdd v u p).fst u p).snd 0 = true) : withinV v (ivSub (ivAdd v u p).fst u p).fst = true := by
  obtain ⟨rv, ru, p0, p1, _, e, f1, f2⟩ := do_ok h
  rw [show (ivAdd v u p).fst = plusV v u p from e] at k ⊢
  obtain ⟨_, _, _, _, _, e', g1, g2⟩ := do_ok k
  rw [show (ivSub (plusV v u p) u p).fst = lessV (plusV v u p) u p from e']
  have a := plus_best hv hu p0
  have b := less_best (v := plusV v u p) (u := u) (trimV_p _ _) hu p0
  have ru := right_le ru
  have a1 := a.1.2.1; have a2 := a.2.2.1; have b1 := b.1.2.1; have b2 := b.2.2.1
  exact within_of rv g1 g2 (by grind) (by grind)
theorem back2 {v u : Vx} {p : Int} (hv : v.P) (hu : u.P) (h : eqI (ivDiv v u p).snd 0 = true) (k : eqI (ivMul (ivDiv v u p).fst u p).snd 0 = true) : withinV v (ivMul (ivDiv v u p).fst u p).fst = true := by
  obtain ⟨rv, ru, p0, p1, hz, e, f1, f2⟩ := do_ok h
  rw [show (ivDiv v u p).fst = divV v u p from e] at k ⊢
  obtain ⟨_, _, _, _, _, e', g1, g2⟩ := do_ok k
  rw [show (ivMul (divV v u p) u p).fst = timesV (divV v u p) u p from e']
  have h0 := wrongZ_off hu hz
  have lv := right_le rv
  have lu := right_le ru
  have hy : InV u u.lo.rv := ⟨by grind, by grind⟩
  have hn : u.lo.rv ≠ 0 := by unfold Off0 at h0; grind
  have q1 := div_in hv hu h0 p0 (show InV v v.lo.rv from ⟨by grind, by grind⟩) hy
  have q2 := div_in hv hu h0 p0 (show InV v v.hi.rv from ⟨by grind, by grind⟩) hy
  have c1 := prod_in (divV_p v u p) hu q1 hy
  have c2 := prod_in (divV_p v u p) hu q2 hy
  rw [Rat.mul_assoc, Rat.inv_mul_cancel _ hn, Rat.mul_one] at c1 c2
  have t := times_best p0 (divV_p v u p) hu
  have t1 := t.1.2.1; have t2 := t.2.2.1
  exact within_of rv g1 g2 (by grind) (by grind)
theorem back3 {v : Vx} {p : Int} (hv : v.P) (h : eqI (ivSqrt v p).snd 0 = true) (k : eqI (ivMul (ivSqrt v p).fst (ivSqrt v p).fst p).snd 0 = true) : withinV v (ivMul (ivSqrt v p).fst (ivSqrt v p).fst p).fst = true := by
  obtain ⟨rv, _, p0, p1, hz, e, f1, f2⟩ := do_ok h
  rw [show (ivSqrt v p).fst = sqrtV v p from e] at k ⊢
  obtain ⟨rr, _, _, _, _, e', g1, g2⟩ := do_ok k
  rw [show (ivMul (sqrtV v p) (sqrtV v p) p).fst = timesV (sqrtV v p) (sqrtV v p) p from e']
  have lv := right_le rv
  have lr := right_le rr
  have b := sqrt_best hv (wrongL_pos hv hz) lv p0
  have c1 := prod_in (sqrtV_p v p) (sqrtV_p v p) (x := (sqrtV v p).lo.rv) (y := (sqrtV v p).lo.rv) ⟨by grind, lr⟩ ⟨by grind, lr⟩
  have c2 := prod_in (sqrtV_p v p) (sqrtV_p v p) (x := (sqrtV v p).hi.rv) (y := (sqrtV v p).hi.rv) ⟨lr, by grind⟩ ⟨lr, by grind⟩
  have t := times_best p0 (sqrtV_p v p) (sqrtV_p v p)
  have t1 := t.1.2.1; have t2 := t.2.2.1
  have b1 := b.1.2.2.1; have b2 := b.2.2.2.1
  exact within_of rv g1 g2 (by grind) (by grind)
end Go.Proofs.YtmfmneanmamjbaaDoor

namespace Go.Proofs.YtmfmneanmamjbaaDoor
open Go.RowKit
def lBack : Spec := specK [.v, .v, .i .i64] fun (_ : Vx) (_ : Vx) (_ : Int) => (none, bT true)
theorem ncontra {b : Bool} {p : Prop} (h : b = true) (k : (!b) = true) : p := by rw [h] at k; exact absurd k (by decide)
theorem lBack_ok : SpecOk Tryd.prog 11 lBack :=
  specK_ok (envOk tys2_ok sBk_ok) mixed Tryd.func11 rfl (by decide) (by decide) fun (v : Vx) hv (u : Vx) hu (p : Int) _ _ => ⟨fun _ => none, 0, by
    have hv := Vx.Wf.p hv
    have hu := Vx.Wf.p hu
    show execF _ _ _ _ _ (fun t => t = bT true)
    have k1 := back1 (v := v) (u := u) (p := p) hv hu
    have k2 := back2 (v := v) (u := u) (p := p) hv hu
    have k3 := back3 (v := v) (p := p) hv
    have tail : br (eqI (ivSqrt v p).snd 0) (br (eqI (ivMul (ivSqrt v p).fst (ivSqrt v p).fst p).snd 0) (br (!withinV v (ivMul (ivSqrt v p).fst (ivSqrt v p).fst p).fst) (bT false = bT true) (bT true = bT true)) (bT true = bT true)) (bT true = bT true) :=
      br_intro (fun a => br_intro (fun b => br_intro (fun c => ncontra (k3 a b) c) fun _ => rfl) fun _ => rfl) fun _ => rfl
    have mid : br (eqI (ivDiv v u p).snd 0) (br (eqI (ivMul (ivDiv v u p).fst u p).snd 0) (br (!withinV v (ivMul (ivDiv v u p).fst u p).fst) (bT false = bT true) (br (eqI (ivSqrt v p).snd 0) (br (eqI (ivMul (ivSqrt v p).fst (ivSqrt v p).fst p).snd 0) (br (!withinV v (ivMul (ivSqrt v p).fst (ivSqrt v p).fst p).fst) (bT false = bT true) (bT true = bT true)) (bT true = bT true)) (bT true = bT true)))
        (br (eqI (ivSqrt v p).snd 0) (br (eqI (ivMul (ivSqrt v p).fst (ivSqrt v p).fst p).snd 0) (br (!withinV v (ivMul (ivSqrt v p).fst (ivSqrt v p).fst p).fst) (bT false = bT true) (bT true = bT true)) (bT true = bT true)) (bT true = bT true)))
        (br (eqI (ivSqrt v p).snd 0) (br (eqI (ivMul (ivSqrt v p).fst (ivSqrt v p).fst p).snd 0) (br (!withinV v (ivMul (ivSqrt v p).fst (ivSqrt v p).fst p).fst) (bT false = bT true) (bT true = bT true)) (bT true = bT true)) (bT true = bT true)) :=
      br_intro (fun a => br_intro (fun b => br_intro (fun c => ncontra (k2 a b) c) fun _ => tail) fun _ => tail) fun _ => tail
    exact (lBack_vc ivAdd ivSub ivMul ivDiv ivSqrt withinV v u p _).mpr (br_intro (fun a => br_intro (fun b => br_intro (fun c => ncontra (k1 a b) c) fun _ => mid) fun _ => mid) fun _ => mid)⟩
/-! ### Numbers between the ends. -/
theorem betw_rv {v : Vx} (hv : v.P) (n : Int) : (betwD v n).rv = v.lo.rv + (v.hi.rv - v.lo.rv) * (n : Rat) * p2 (-4) := by
  unfold betwD
  rw [rv_plus hv.1 shiftD_p, rv_shift timesD_p, rv_times lessD_p mkS_p, rv_less hv.2 hv.1, rv_mkS, p2_zero, Rat.mul_one]
theorem p2_m4 : p2 (-4) * 16 = 1 := by
  have h := p2_neg 4
  have e : p2 4 = 16 := by rw [p2_toNat (by omega)]; rfl
  rwa [e] at h
theorem betw_in {v : Vx} {n : Int} (hv : v.P) (h : v.lo.rv ≤ v.hi.rv) (n0 : 0 ≤ n) (n1 : n ≤ 16) : InV v (betwD v n).rv := by
  have e := betw_rv hv n
  have c0 : (0 : Rat) ≤ (n : Rat) := by
    have := cast_le.2 n0; have e0 : ((0 : Int) : Rat) = 0 := rfl; rwa [e0] at this
  have c1 : (n : Rat) ≤ 16 := by
    have := cast_le.2 n1; have e0 : ((16 : Int) : Rat) = 16 := rfl; rwa [e0] at this
  have p0 := p2_pos (-4)
  have w0 : 0 ≤ v.hi.rv - v.lo.rv := by grind
  have a1 := Rat.mul_nonneg (Rat.mul_nonneg w0 c0) (Rat.le_of_lt p0)
  have a2 := Rat.mul_le_mul_of_nonneg_right (Rat.mul_le_mul_of_nonneg_left c1 w0) (Rat.le_of_lt p0)
  have a3 : (v.hi.rv - v.lo.rv) * 16 * p2 (-4) = v.hi.rv - v.lo.rv := by rw [Rat.mul_assoc, Rat.mul_comm 16, p2_m4, Rat.mul_one]
  rw [a3] at a2
  exact ⟨by grind, by grind⟩
theorem betw_le {v : Vx} {n m : Int} (hv : v.P) (h : v.lo.rv ≤ v.hi.rv) (hnm : n ≤ m) : (betwD v n).rv ≤ (betwD v m).rv := by
  rw [betw_rv hv, betw_rv hv]
  have w0 : 0 ≤ v.hi.rv - v.lo.rv := by grind
  have := Rat.mul_le_mul_of_nonneg_right (Rat.mul_le_mul_of_nonneg_left (cast_le.2 hnm) w0) (Rat.le_of_lt (p2_pos (-4)))
  grind
/-! ### Parts, and more bits. -/
/-- An answer's ends; what a part's answer, or one of more bits, is held against. -/
theorem incl_within {v c u : Vx} {k p q : Int} (hv : v.P) (hc : c.P) (hu : u.P) (k0 : 0 ≤ k) (k1 : k ≤ 4) (hpq : p ≤ q) (h1 : v.lo.rv ≤ c.lo.rv) (h2 : c.hi.rv ≤ v.hi.rv) (h3 : c.lo.rv ≤ c.hi.rv) (ru : rightV u = true)
    (a : eqI (twoR k v u p).snd 0 = true) (b : eqI (twoR k c u q).snd 0 = true) : withinV (twoR k c u q).fst (twoR k v u p).fst = true := by
  have lu := right_le ru
  have hk : k = 0 ∨ k = 1 ∨ k = 2 ∨ k = 3 ∨ k = 4 := by omega
  rcases hk with rfl | rfl | rfl | rfl | rfl
  · simp only [show ∀ v p, twoR 0 v u p = ivAdd v u p from fun _ _ => rfl] at a b ⊢
    obtain ⟨_, _, p0, _, _, e, f1, f2⟩ := do_ok a
    obtain ⟨_, _, q0, _, _, e', g1, g2⟩ := do_ok b
    rw [show (ivAdd v u p).fst = plusV v u p from e, show (ivAdd c u q).fst = plusV c u q from e']
    have A := plus_best hv hu p0
    have B := plus_best hc hu q0
    have B0 := B.1.2.1; have B1 := B.2.2.1
    refine within_of (right_of g1 g2 (by grind)) f1 f2 ?_ ?_
    · have A' := (plus_best hv hu q0).1
      have m1 := A.1.more A' hpq
      have m2 := A'.mono B.1 (by grind)
      grind
    · have A' := (plus_best hv hu q0).2
      have m1 := A.2.more A' hpq
      have m2 := B.2.mono A' (by grind)
      grind
  · simp only [show ∀ v p, twoR 1 v u p = ivSub v u p from fun _ _ => rfl] at a b ⊢
    obtain ⟨_, _, p0, _, _, e, f1, f2⟩ := do_ok a
    obtain ⟨_, _, q0, _, _, e', g1, g2⟩ := do_ok b
    rw [show (ivSub v u p).fst = lessV v u p from e, show (ivSub c u q).fst = lessV c u q from e']
    have A := less_best hv hu p0
    have B := less_best hc hu q0
    have B0 := B.1.2.1; have B1 := B.2.2.1
    refine within_of (right_of g1 g2 (by grind)) f1 f2 ?_ ?_
    · have A' := (less_best hv hu q0).1
      have m1 := A.1.more A' hpq
      have m2 := A'.mono B.1 (by grind)
      grind
    · have A' := (less_best hv hu q0).2
      have m1 := A.2.more A' hpq
      have m2 := B.2.mono A' (by grind)
      grind
  · simp only [show ∀ v p, twoR 2 v u p = ivMul v u p from fun _ _ => rfl] at a b ⊢
    obtain ⟨_, _, p0, _, _, e, f1, f2⟩ := do_ok a
    obtain ⟨_, _, q0, _, _, e', g1, g2⟩ := do_ok b
    rw [show (ivMul v u p).fst = timesV v u p from e, show (ivMul c u q).fst = timesV c u q from e']
    have A := times_best p0 hv hu
    have B := times_best q0 hc hu
    have B0 := B.1.2.1; have B1 := B.2.2.1
    have inn : ∀ x0 y0, (x0 = c.lo.rv ∨ x0 = c.hi.rv) → (y0 = u.lo.rv ∨ y0 = u.hi.rv) → (prodV v u).lo.rv ≤ x0 * y0 ∧ x0 * y0 ≤ (prodV v u).hi.rv := fun x0 y0 hx hy =>
      prod_in hv hu (by rcases hx with rfl | rfl <;> exact ⟨by grind, by grind⟩) (by rcases hy with rfl | rfl <;> exact ⟨by grind, by grind⟩)
    obtain ⟨⟨x0, y0, l1, l2, l3⟩, x1, y1, l4, l5, l6⟩ := prod_at hc hu
    have i1 := (inn x0 y0 l1 l2).1
    have i2 := (inn x1 y1 l4 l5).2
    have i3 := (prod_lo hc hu _ _ (.inl rfl) (.inl rfl))
    refine within_of (right_of g1 g2 (by grind)) f1 f2 ?_ ?_
    · have A' := (times_best q0 hv hu).1
      have m1 := A.1.more A' hpq
      have m2 := A'.mono B.1 (by grind)
      grind
    · have A' := (times_best q0 hv hu).2
      have m1 := A.2.more A' hpq
      have m2 := B.2.mono A' (by grind)
      grind
  · simp only [show ∀ v p, twoR 3 v u p = ivDiv v u p from fun _ _ => rfl] at a b ⊢
    obtain ⟨_, _, p0, _, hz, e, f1, f2⟩ := do_ok a
    obtain ⟨_, _, q0, _, _, e', g1, g2⟩ := do_ok b
    rw [show (ivDiv v u p).fst = divV v u p from e, show (ivDiv c u q).fst = divV c u q from e']
    have h0 := wrongZ_off hu hz
    have B := div_in hc hu h0 q0 (show InV c c.lo.rv from ⟨by grind, h3⟩) (show InV u u.lo.rv from ⟨by grind, lu⟩)
    have B0 := B.1; have B1 := B.2
    have M := div_more hv hu h0 lu p0 hpq
    have N := div_part (p := q) hv hc hu h0 lu q0 h1 h2 h3
    exact within_of (right_of g1 g2 (by grind)) f1 f2 (by grind) (by grind)
  · simp only [show ∀ v p, twoR 4 v u p = ivSqrt v p from fun _ _ => rfl] at a b ⊢
    obtain ⟨rv, _, p0, _, hz, e, f1, f2⟩ := do_ok a
    obtain ⟨_, _, q0, _, _, e', g1, g2⟩ := do_ok b
    rw [show (ivSqrt v p).fst = sqrtV v p from e, show (ivSqrt c q).fst = sqrtV c q from e']
    have lv := right_le rv
    have v0 := wrongL_pos hv hz
    have A := sqrt_best hv v0 lv p0
    have A' := sqrt_best hv v0 lv q0
    have B := sqrt_best hc (by grind) h3 q0
    have m1 := A.1.more A'.1 hpq
    have m2 := A'.1.mono B.1 h1
    have m3 := A.2.more A'.2 hpq
    have m4 := B.2.mono A'.2 h2
    have B0 := B.1.2.2.1; have B1 := B.2.2.2.1
    have le := rle_of_sq B.2.2.1 (show (sqrtV c q).lo.rv * (sqrtV c q).lo.rv ≤ (sqrtV c q).hi.rv * (sqrtV c q).hi.rv by grind)
    exact within_of (right_of g1 g2 le) f1 f2 (by grind) (by grind)
def lIncl : Spec := specK [.v, .v, .i .i64, .i .i64, .i .u8, .i .u8] fun (_ : Vx) (_ : Vx) (_ : Int) (_ : Int) (m : Int) (n : Int) => (some (0 ≤ m ∧ 0 ≤ n), bT true)
theorem lIncl_ok : SpecOk Tryd.prog 10 lIncl :=
  specK_ok (envOk tys2_ok sIn_ok) mixed Tryd.func10 rfl (by decide) (by decide) fun (v : Vx) hv (u : Vx) hu (p : Int) _ (q : Int) _ (m : Int) _ (n : Int) _ hp => ⟨incInv v u ⟨betwD v (minI (m.tmod 17) (n.tmod 17)), betwD v (maxI (m.tmod 17) (n.tmod 17))⟩ p q, 0, by
    obtain ⟨m0, n0⟩ : 0 ≤ m ∧ 0 ≤ n := hp
    have hv := Vx.Wf.p hv
    have hu := Vx.Wf.p hu
    show execF _ _ _ _ _ (fun t => t = bT true)
    refine (lIncl_vc twoR betwD rightV withinV v u p q m n _).mpr (br_intro (fun _ => rfl) fun rv => br_intro (fun _ => rfl) fun ru => br_intro (fun _ => rfl) fun hpq => ?_)
    have rv := not_false' rv
    have ru := not_false' ru
    have hpq := ltI_false.1 hpq
    have em : m.tmod 17 = m % 17 := Int.tmod_eq_emod_of_nonneg m0
    have en : n.tmod 17 = n % 17 := Int.tmod_eq_emod_of_nonneg n0
    rw [em, en, minI_eq, maxI_eq]
    have a0 : 0 ≤ min (m % 17) (n % 17) ∧ min (m % 17) (n % 17) ≤ 16 := by omega
    have b0 : 0 ≤ max (m % 17) (n % 17) ∧ max (m % 17) (n % 17) ≤ 16 := by omega
    have lv := right_le rv
    have i1 := betw_in hv lv a0.1 a0.2
    have i2 := betw_in hv lv b0.1 b0.2
    have i3 := betw_le hv lv (show min (m % 17) (n % 17) ≤ max (m % 17) (n % 17) by omega)
    generalize min (m % 17) (n % 17) = a at *
    generalize max (m % 17) (n % 17) = b at *
    refine ⟨by omega, by omega, ⟨by omega, by omega⟩, ⟨right_sm rv, a0⟩, by omega, by omega, ⟨by omega, by omega⟩, ⟨right_sm rv, b0⟩, rfl, rfl, ⟨0, ⟨by omega, by omega⟩, rfl⟩, fun k hk => br_intro (fun h5 => ?_) fun _ => rfl⟩
    have h5 := ltI_true.1 h5
    have k1 := incl_within (v := v) (c := ⟨betwD v a, betwD v b⟩) (u := u) (k := k) (p := p) (q := p) hv ⟨plusD_p, plusD_p⟩ hu hk.1 (by omega) (Int.le_refl _) i1.1 i2.2 i3 ru
    have k2 := incl_within (v := v) (c := v) (u := u) (k := k) (p := p) (q := q) hv hv hu hk.1 (by omega) (by omega) (by grind) (by grind) lv ru
    have TB : ∀ {N : Prop}, N → br (eqI (twoR k v u p).snd 0) (br (eqI (twoR k v u q).snd 0) (br (!withinV (twoR k v u q).fst (twoR k v u p).fst) (bT false = bT true) N) N) N := fun n =>
      br_intro (fun w1 => br_intro (fun w3 => br_intro (fun d => ncontra (k2 w1 w3) d) fun _ => n) fun _ => n) fun _ => n
    refine ⟨⟨hk.1, by omega⟩, ⟨hk.1, by omega⟩, ⟨hk.1, by omega⟩, br_intro (fun w1 => br_intro (fun w2 => br_intro (fun c => ncontra (k1 w1 w2) c) fun _ => TB ?_) fun _ => TB ?_) fun _ => TB ?_⟩ <;>
      exact ⟨⟨by omega, by omega⟩, rfl, k + 1, ⟨by omega, by omega⟩, rfl, by omega⟩⟩
end Go.Proofs.YtmfmneanmamjbaaDoor

namespace Go.Proofs.YtmfmneanmamjbaaDoor
open Go.RowKit
theorem one_mkD {neg : Bool} {m e : Int} (h : 0 ≤ m) : oneD (mkD neg m e) = mkD neg m e := by
  by_cases hz : m = 0
  · subst hz
    have e0 : mkD neg 0 e = ⟨false, [], 0⟩ := mkD_zero _ _
    rw [e0]
    exact mkD_zero _ _
  · have hp : 0 < m := by omega
    have ho := mkD_odd (neg := neg) (e := e) hp
    have hm := mkD_m (neg := neg) (e := e) h
    have hq := (tz_div hp).2
    have hn : (mkD neg m e).neg = neg := by unfold mkD; rw [if_neg hz]
    have t0 := tz_odd2 ho (by rw [hm]; omega)
    have hne : (mkD neg m e).m ≠ 0 := by rw [hm]; omega
    have hw : (mkD neg m e).xs = ws (mkD neg m e).m := mkD_ws h
    unfold oneD
    rw [show mkD (mkD neg m e).neg (mkD neg m e).m (mkD neg m e).e = ⟨(mkD neg m e).neg, ws ((mkD neg m e).m / 2 ^ tz (mkD neg m e).m), (mkD neg m e).e + (tz (mkD neg m e).m : Int)⟩ from if_neg hne]
    rw [t0, Int.pow_zero, Int.ediv_one, ← hw]
    simp
theorem one_one {d : Dx} (h : 0 ≤ d.m) : oneD (oneD d) = oneD d := one_mkD h
theorem plus_ones {a b : Dx} (ha : 0 ≤ a.m) (hb : 0 ≤ b.m) : plusD (oneD a) (oneD b) = plusD a b := by unfold plusD; rw [one_one ha, one_one hb]
theorem one_plus {a b : Dx} (ha : 0 ≤ a.m) (hb : 0 ≤ b.m) : oneD (plusD a b) = plusD a b := by
  unfold plusD plusX
  split
  · exact one_one hb
  · split
    · exact one_one ha
    · exact one_mkD (by omega)
theorem one_times {a b : Dx} (ha : 0 ≤ a.m) (hb : 0 ≤ b.m) : oneD (timesD a b) = timesD a b := one_mkD (Int.mul_nonneg ha hb)
theorem times_ones {a b : Dx} (ha : 0 ≤ a.m) (hb : 0 ≤ b.m) : timesD (oneD a) (oneD b) = timesD a b := times_one ha hb
theorem cmpD_self (d : Dx) : cmpD d d = 0 := cmpI_self _
theorem spanS_self (d : Dx) : spanS ⟨d, d⟩ d = ⟨d, d⟩ := by
  unfold spanS; rw [cmpD_self]; rfl
theorem span_same (d : Dx) : spanL d [d, d, d] = ⟨d, d⟩ := by
  rw [show spanL d [d, d, d] = spanS (spanS (spanS ⟨d, d⟩ d) d) d from rfl, spanS_self, spanS_self, spanS_self]
theorem point_ok {a : Dx} (h : neI (ivPoint a).snd 0 = false) : (ivPoint a).fst = pointV a ∧ (oneD a).fitsB = true := by
  have h := neI_false.1 h
  unfold ivPoint whenR at *
  by_cases k : a.fitsB = true
  · rw [if_pos k] at h ⊢
    have := room_ok (X := pointV a) (by rw [h]; rfl)
    exact ⟨this.1, this.2.1⟩
  · rw [if_neg k] at h; exact absurd h (by decide)
theorem cut_small {x : Dx} {p : Int} {up : Bool} (h : (blen x.m : Int) ≤ p) : cutX x p up = x := if_pos (by omega)
theorem cut_less {x : Dx} {p : Int} {up : Bool} (hx : 0 ≤ x.m) (hp : 1 ≤ p) (h : p < (blen x.m : Int)) : (cutX x p up).m < x.m := by
  unfold cutX
  rw [if_neg (by omega)]
  obtain ⟨n, hN⟩ : ∃ n : Int, (blen x.m : Int) - p = n := ⟨_, rfl⟩
  rw [hN]
  have hm : 0 < x.m := by
    by_cases hz : x.m = 0
    · rw [hz] at h; simp [blen] at h; omega
    · omega
  have g1 := blen_ge hm
  have g2 := blen_lt x.m
  have p0 := two_pow_pos n.toNat
  have q0 := two_pow_pos p.toNat
  have k1 : x.m / 2 ^ n.toNat < 2 ^ p.toNat := by
    rw [Int.ediv_lt_iff_lt_mul p0, ← Int.pow_add, show p.toNat + n.toNat = blen x.m by omega]; exact g2
  have k2 : 0 ≤ x.m / 2 ^ n.toNat := Int.ediv_nonneg hx (by omega)
  have k3 : (2 : Int) ^ p.toNat ≤ x.m := by have := two_pow_le (j := p.toNat) (k := blen x.m - 1) (by omega); omega
  have k4 : (2 : Int) ≤ 2 ^ p.toNat := by have := two_pow_le (j := 1) (k := p.toNat) (by omega); omega
  generalize x.m / 2 ^ n.toNat = k at *
  obtain ⟨c, hc⟩ : ∃ c : Int, (k + if up == x.neg then 0 else 1) = c := ⟨_, rfl⟩
  rw [hc]
  have c1 : 0 ≤ c ∧ c ≤ 2 ^ p.toNat := by split at hc <;> omega
  rw [mkD_m c1.1]
  by_cases hcp : c = 2 ^ p.toNat
  · have ht : tz c = p.toNat := by
      have := tz_mul_pow (n := 1) (k := p.toNat) (by omega)
      rw [Int.one_mul, tz_odd2 (m := 1) (by omega) (by omega)] at this
      rw [hcp]; omega
    rw [ht, hcp, Int.ediv_self (by omega)]; omega
  · have := Int.ediv_le_self (2 ^ tz c) c1.1
    omega
theorem bits_one {c : Dx} (hc : 0 ≤ c.m) (h : c.m ≠ 0) : bitsD c = (blen (oneD c).m : Int) := by
  have hp : 0 < c.m := by omega
  obtain ⟨e, hq⟩ := tz_div hp
  have hm : (oneD c).m = c.m / 2 ^ tz c.m := mkD_m hc
  unfold bitsD
  have := blen_mul_pow hq (tz c.m)
  rw [Int.mul_comm, ← e] at this
  rw [hm, this]; omega
/-- Is what was cut the number itself? -/
theorem same_cut {c : Dx} {p : Int} (hc : 0 ≤ c.m) (hp : 1 ≤ p) : sameV ⟨cutD c p false, cutD c p true⟩ ⟨oneD c, oneD c⟩ = (c.zeroB || leI (bitsD c) p) := by
  by_cases hz : c.m = 0
  · rw [show c.zeroB = true from zeroB_true.2 hz, Bool.true_or]
    have o0 : (oneD c).m = 0 := (mkD_m_zero hc).2 hz
    unfold cutD
    rw [cut_small (by rw [o0]; simp [blen]; omega), cut_small (by rw [o0]; simp [blen]; omega)]
    exact sameV_refl _
  · rw [show c.zeroB = false from zeroB_false.2 hz, Bool.false_or, bits_one hc hz]
    unfold cutD
    by_cases hb : (blen (oneD c).m : Int) ≤ p
    · rw [cut_small hb, cut_small hb, sameV_refl, leI_true.2 hb]
    · rw [leI_false.2 hb]
      have := cut_less (x := oneD c) (up := false) oneD_p hp (by omega)
      cases hs : sameV ⟨cutX (oneD c) p false, cutX (oneD c) p true⟩ ⟨oneD c, oneD c⟩ with
      | false => rfl
      | true =>
        have e := congrArg Vx.lo (sameV_iff.1 hs)
        simp only at e
        rw [e] at this; omega
theorem point_narrow {o : Dx} {p : Int} (ho : 0 ≤ o.m) (h : o.fitsB = true) (hp : 0 ≤ p) : narrowB ⟨o, o⟩ p = true := by
  have hr : rightV ⟨o, o⟩ = true := right_of h h (by grind)
  have hz : (lessD o o).zeroB = true := (zeroB_rv lessD_p).2 (by rw [rv_less ho ho]; grind)
  rw [narrowB, leI_true.2 hp, hr, narrowV, if_neg (by simp)]
  simp only [hz]
  split <;> rfl
/-- The two ends of what was cut. -/
theorem cut_ends {x : Dx} {p : Int} (hp : 1 ≤ p) (h : p < (blen x.m : Int)) (hx : 0 ≤ x.m) : ∃ (k j : Int), (2 : Int) ^ (p - 1).toNat ≤ k ∧
    ((cutX x p false).rv = (k : Rat) * p2 j ∧ (cutX x p true).rv = ((k + 1 : Int) : Rat) * p2 j ∨ (cutX x p false).rv = -(((k + 1 : Int) : Rat) * p2 j) ∧ (cutX x p true).rv = -((k : Rat) * p2 j)) := by
  have hn' : ¬ ((blen x.m : Int) - p ≤ 0) := by omega
  unfold cutX
  rw [if_neg hn', if_neg hn']
  obtain ⟨n, hN⟩ : ∃ n : Int, (blen x.m : Int) - p = n := ⟨_, rfl⟩
  rw [hN]
  have hm : 0 < x.m := by
    by_cases hz : x.m = 0
    · rw [hz] at h; simp [blen] at h; omega
    · omega
  have g1 := blen_ge hm
  have p0 := two_pow_pos n.toNat
  have q0 := two_pow_pos (p - 1).toNat
  refine ⟨x.m / 2 ^ n.toNat, x.e + n, ?_, ?_⟩
  · rw [Int.le_ediv_iff_mul_le p0, ← Int.pow_add, show (p - 1).toNat + n.toNat = blen x.m - 1 by omega]; exact g1
  · have k0 : 0 ≤ x.m / 2 ^ n.toNat := Int.ediv_nonneg hx (by omega)
    cases hneg : x.neg with
    | false =>
      left
      rw [rv_mkD (by simp; omega), rv_mkD (by simp; omega)]
      simp
    | true =>
      right
      rw [rv_mkD (by simp; omega), rv_mkD (by simp; omega)]
      simp [Rat.neg_mul]
theorem cut_narrow {c : Dx} {p : Int} (hc : 0 ≤ c.m) (hp : 2 ≤ p) (f1 : (cutD c p false).fitsB = true) (f2 : (cutD c p true).fitsB = true) : narrowB ⟨cutD c p false, cutD c p true⟩ (p - 2) = true := by
  by_cases hb : (blen (oneD c).m : Int) ≤ p
  · have e1 : cutD c p false = oneD c := cut_small hb
    have e2 : cutD c p true = oneD c := cut_small hb
    rw [e1] at f1
    rw [e1, e2]
    exact point_narrow oneD_p f1 (by omega)
  · obtain ⟨k, j, hk, hcase⟩ := cut_ends (x := oneD c) (p := p) (by omega) (by omega) oneD_p
    have best := cutD_best hc (show 1 ≤ p by omega)
    have c1 : 0 ≤ (cutD c p false).m := cutD_p
    have c2 : 0 ≤ (cutD c p true).m := cutD_p
    rw [show cutX (oneD c) p false = cutD c p false from rfl, show cutX (oneD c) p true = cutD c p true from rfl] at hcase
    have b1 := best.1.2.1; have b2 := best.2.2.1
    generalize cutD c p false = lo at *
    generalize cutD c p true = hi at *
    have hr : rightV ⟨lo, hi⟩ = true := right_of f1 f2 (by grind)
    have pj := p2_pos j
    have kk : p2 (p - 1) ≤ (k : Rat) := by rw [p2_toNat (by omega), cast_le]; exact hk
    have pp := p2_pos (p - 1)
    have ek : ((k + 1 : Int) : Rat) = (k : Rat) + 1 := by rw [Rat.intCast_add]; rfl
    rw [ek] at hcase
    have kp : 0 < (k : Rat) * p2 j := Rat.mul_pos (by grind) pj
    have w : hi.rv - lo.rv = p2 j := by rcases hcase with ⟨a, b⟩ | ⟨a, b⟩ <;> rw [a, b] <;> grind
    have hw : (lessD hi lo).rv = p2 j := by rw [rv_less c2 c1, w]
    have least : p2 j * p2 (p - 2) ≤ (k : Rat) * p2 j := by
      have h1 := p2_lt (a := p - 2) (b := p - 1) (by omega)
      have h2 := Rat.mul_le_mul_of_nonneg_right (show p2 (p - 2) ≤ (k : Rat) by grind) (Rat.le_of_lt pj)
      grind
    have wz : (lessD hi lo).zeroB = false := by
      cases hq : (lessD hi lo).zeroB with
      | false => rfl
      | true => have := (zeroB_rv lessD_p).1 hq; rw [hw] at this; grind
    have hge := wide_ge (v := ⟨lo, hi⟩) ⟨c1, c2⟩ hr wz
    rw [narrowB, leI_true.2 (show 0 ≤ p - 2 by omega), hr, narrowV]
    simp only [wz]
    rcases hcase with ⟨a, b⟩ | ⟨a, b⟩
    · have s1 : lo.sgn = 1 := by rcases sgn_rv c1 with ⟨g, l⟩ | ⟨g, l⟩ | ⟨g, l⟩ <;> first | exact g | grind
      have s2 : hi.sgn = 1 := by rcases sgn_rv c2 with ⟨g, l⟩ | ⟨g, l⟩ | ⟨g, l⟩ <;> first | exact g | grind
      rw [s1, s2, if_neg (by simp), if_neg (by omega), if_neg (by simp), if_neg (by omega)]
      rw [narrowX_eq lessD_p absD_p hge (by rw [rv_abs c1]; exact fits_lt f1), decide_eq_true]
      · rfl
      · rw [hw, rv_abs c1, ← (rv_amt c1).1 (by grind), a]; exact least
    · have s1 : lo.sgn = -1 := by rcases sgn_rv c1 with ⟨g, l⟩ | ⟨g, l⟩ | ⟨g, l⟩ <;> first | exact g | grind
      have s2 : hi.sgn = -1 := by rcases sgn_rv c2 with ⟨g, l⟩ | ⟨g, l⟩ | ⟨g, l⟩ <;> first | exact g | grind
      rw [s1, s2, if_neg (by simp), if_neg (by omega), if_neg (by simp), if_pos (by omega)]
      rw [narrowX_eq lessD_p absD_p hge (by rw [rv_abs c2]; exact fits_lt f2), decide_eq_true]
      · rfl
      · rw [hw, rv_abs c2, ← (rv_amt c2).2 (by grind), b]; grind
def lSharp : Spec := specK [.d, .d, .i .i64] fun (_ : Dx) (_ : Dx) (_ : Int) => (none, bT true)
theorem eq_same {a b : Bool} (h : a = b) : (!(a == b)) = false := by subst h; cases a <;> rfl
theorem lSharp_ok : SpecOk Tryd.prog 8 lSharp :=
  specK_ok (envOk tys2_ok sSh_ok) mixed Tryd.func8 rfl (by decide) (by decide) fun (a : Dx) ha (b : Dx) hb (p : Int) _ _ => ⟨fun _ => none, 0, by
    have ha := Dx.Wf.m0 ha
    have hb := Dx.Wf.m0 hb
    show execF _ _ _ _ _ (fun t => t = bT true)
    refine (lSharp_vc ivAdd ivMul Dx.fitsB Dx.zeroB ivPoint plusD timesD bitsD pointV sameV narrowB a b p _).mpr (br_intro (fun _ => rfl) fun fa => br_intro (fun _ => rfl) fun fb => br_intro (fun _ => rfl) fun ea => br_intro (fun _ => rfl) fun eb => ?_)
    obtain ⟨pa, oa⟩ := point_ok ea
    obtain ⟨pb, _⟩ := point_ok eb
    rw [pa, pb]
    refine br_intro (fun _ => rfl) fun w1 => br_intro (fun _ => rfl) fun w2 => ?_
    have sa := fits_sm (not_false' fa)
    have sb := fits_sm (not_false' fb)
    obtain ⟨_, _, p0, p1, _, e1, f1, f2⟩ := do_ok (v := pointV a) (u := pointV b) (p := p) (wrong := 0) (X := plusV (pointV a) (pointV b) p) (eqI_true.2 (neI_false.1 w1))
    obtain ⟨_, _, _, _, _, e2, _, _⟩ := do_ok (v := pointV a) (u := pointV b) (p := p) (wrong := 0) (X := timesV (pointV a) (pointV b) p) (eqI_true.2 (neI_false.1 w2))
    have es : plusV (pointV a) (pointV b) p = ⟨cutD (plusD a b) p false, cutD (plusD a b) p true⟩ := by
      show (⟨cutD (plusD (oneD a) (oneD b)) p false, cutD (plusD (oneD a) (oneD b)) p true⟩ : Vx) = _
      rw [plus_ones ha hb]
    have et : timesV (pointV a) (pointV b) p = ⟨cutD (timesD a b) p false, cutD (timesD a b) p true⟩ := by
      show trimV (spanL (timesD (oneD a) (oneD b)) [timesD (oneD a) (oneD b), timesD (oneD a) (oneD b), timesD (oneD a) (oneD b)]) p = _
      rw [times_ones ha hb, span_same]; rfl
    have e1' : (ivAdd (pointV a) (pointV b) p).fst = plusV (pointV a) (pointV b) p := e1
    have e2' : (ivMul (pointV a) (pointV b) p).fst = timesV (pointV a) (pointV b) p := e2
    clear e1 e2
    rw [es] at f1 f2
    rw [e1', e2', es, et]
    refine ⟨⟨sa.mono (by omega), sb.mono (by omega)⟩, ⟨sa.mono (by omega), sb.mono (by omega)⟩, br_intro (fun _ => rfl) fun fc => br_intro (fun _ => rfl) fun fd => ?_⟩
    have fc := not_false' fc
    have fd := not_false' fd
    have sc := fits_sm fc
    have sd := fits_sm fd
    have S1 := same_cut (c := plusD a b) plusD_p p0
    have S2 := same_cut (c := timesD a b) timesD_p p0
    have N1 : narrowB (pointV a) p = true := point_narrow oneD_p oa (by omega)
    have N2 : narrowB (pointV (plusD a b)) p = true := point_narrow oneD_p (by rw [one_plus ha hb]; exact fc) (by omega)
    have TL : br (narrowB (pointV a) p) (eB 4611686018427387904 (plusD a b) ∧ br (narrowB (pointV (plusD a b)) p) (br (Dx.zeroB (plusD a b)) (bT true = bT true) (br (ltI p 2) (bT true = bT true) (inR (p - 2) ∧ bT (narrowB ⟨cutD (plusD a b) p false, cutD (plusD a b) p true⟩ (p - 2)) = bT true))) (bT false = bT true)) (bT false = bT true) :=
      br_t N1 ⟨sc.eB (by omega), br_t N2 (br_intro (fun _ => rfl) fun _ => br_intro (fun _ => rfl) fun h2 => by
        have h2 := ltI_false.1 h2
        exact ⟨⟨by omega, by omega⟩, by rw [cut_narrow plusD_p (by omega) f1 f2]⟩)⟩
    have MID : ∀ {F : Prop}, F → br (Dx.zeroB (timesD a b)) (eB 4611686018427387904 (timesD a b) ∧ true = true ∧ br (!(true == sameV ⟨cutD (timesD a b) p false, cutD (timesD a b) p true⟩ (pointV (timesD a b)))) (bT false = bT true) F) (eB 4611686018427387904 (timesD a b) ∧ true = true ∧ br (!(leI (bitsD (timesD a b)) p == sameV ⟨cutD (timesD a b) p false, cutD (timesD a b) p true⟩ (pointV (timesD a b)))) (bT false = bT true) F) := fun f =>
      br_intro (fun hz => ⟨sd.eB (by omega), rfl, br_f (eq_same (by rw [show sameV _ (pointV (timesD a b)) = _ from S2, hz]; rfl)) f⟩) fun hz => ⟨sd.eB (by omega), rfl, br_f (eq_same (by rw [show sameV _ (pointV (timesD a b)) = _ from S2, hz]; rfl)) f⟩
    exact br_intro (fun hz => ⟨sc.eB (by omega), br_f (eq_same (by rw [show sameV _ (pointV (plusD a b)) = _ from S1, hz]; rfl)) (MID TL)⟩) fun hz => ⟨sc.eB (by omega), br_f (eq_same (by rw [show sameV _ (pointV (plusD a b)) = _ from S1, hz]; rfl)) (MID TL)⟩⟩
end Go.Proofs.YtmfmneanmamjbaaDoor

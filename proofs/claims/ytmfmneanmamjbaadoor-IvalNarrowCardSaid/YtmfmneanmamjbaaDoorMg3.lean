/-
Package ulpref04.
Dyadic numbers as rational numbers: tops, narrowness, one form. Plain.
Package ulpref06.
ulpref04.Copy, by hand: a copy of a number's words.
The reckoning again, so that the kernel can do it: the same functions by recursion on a number of rounds.
Package ulpref06's last, package ulplaw06's own.
From the arguments of a row to numbers and intervals; what a law's call leaves.
-/
import Derived.Test.YtmfmneanmamjbaaDoorMg2
import Derived.Test.YtmfmneanmamjbaaDoorMg1
import Derived.ProofKit
import Derived.LaidMore
import Derived.OpenShut
import Derived.LaidLaws
import Derived.Carry
import Derived.OpenVars
import Derived.Deep.Strs
import Derived.ChangeCalls
import Derived.Stop.Joined
namespace Go.Proofs.YtmfmneanmamjbaaDoor
open Go.RowKit
def fForm : Spec := specK [.b, .w, .i .i64] fun (neg : Bool) (xs : List Int) (e : Int) => (some (-4611686018427387904 ≤ e ∧ e ≤ 4611686018427387904), dT (mkD neg (val xs) e))
theorem fForm_vc (neg : Bool) (xs : List Int) (e : Int) (Q : Tv → Prop) : execF ⟨tys, sRef3⟩ (fun _ => none) 0 Tryd.f85 [.one (.bool neg), .one (.words false xs), .one (.int .i64 e)] Q = (br (eqI (↑(List.length (ws (val xs))) : Int) (0 : Int)) (Q (Tv.sv (Sv.agg [At.bool false, At.words true [], At.int IntKind.i64 (0 : Int)]))) (((0 : Int) ≤ (↑(tz (val (ws (val xs)))) : Int) ∧ (↑(tz (val (ws (val xs)))) : Int) ≤ (9007199254740992 : Int)) ∧ inR (e + (↑(tz (val (ws (val xs)))) : Int)) ∧ Q (Tv.sv (Sv.agg [At.bool neg, At.words true (ws (val (ws (val xs)) / (2 : Int) ^ Int.toNat (↑(tz (val (ws (val xs)))) : Int))), At.int IntKind.i64 (e + (↑(tz (val (ws (val xs)))) : Int))])))) := by kernel_rfl
theorem fForm_ok : SpecOk Tryd.prog 85 fForm :=
  specK_ok (envOk tys_ok sRef3_ok) mixed Tryd.func85 rfl (by decide) (by decide) fun neg _ xs hxs (e : Int) _ hp => ⟨fun _ => none, 0, by
    have h0 : -4611686018427387904 ≤ e := hp.1
    have h1 : e ≤ 4611686018427387904 := hp.2
    have hv := WfW.val0 hxs
    have ht := tz_small hxs.1 hxs.2
    refine (fForm_vc neg xs e _).mpr (br_intro (fun h => ?_) (fun h => ?_))
    · rw [len_zero hv, decide_eq_true_eq] at h
      show _ = dT (mkD neg (val xs) e)
      rw [h, mkD_zero]
      rfl
    · rw [len_zero hv, decide_eq_false_iff_not] at h
      rw [val_ws hv]
      refine ⟨⟨by omega, by omega⟩, ⟨by omega, by omega⟩, ?_⟩
      show _ = dT (mkD neg (val xs) e)
      rw [mkD, if_neg h, Int.toNat_natCast]
      rfl⟩
def fZero : Spec := specK [.d] fun (d : Dx) => (none, bT d.zeroB)
theorem fZero_vc (d : Dx) (Q : Tv → Prop) : execF ⟨tys, sRef3⟩ (fun _ => none) 0 Tryd.f39 [.agg (dyL false d)] Q = (Q (Tv.sv (Sv.one (At.bool (eqI (↑(List.length (ws (val d.xs))) : Int) (0 : Int)))))) := by kernel_rfl
theorem fZero_ok : SpecOk Tryd.prog 39 fZero :=
  specK_ok (envOk tys_ok sRef3_ok) mixed Tryd.func39 rfl (by decide) (by decide) fun (d : Dx) hd _ => ⟨fun _ => none, 0, by
    refine (fZero_vc d _).mpr ?_
    show _ = bT d.zeroB
    rw [len_zero (WfW.val0 hd)]
    rfl⟩
def fRight : Spec := specK [.d] fun (d : Dx) => (none, bT d.fitsB)
theorem fRight_vc (d : Dx) (Q : Tv → Prop) : execF ⟨tys, sRef3⟩ (fun _ => none) 0 Tryd.f35 [.agg (dyL false d)] Q = (br (!greatB (val d.xs)) (br (leI (-32768 : Int) d.e) (Q (Tv.sv (Sv.one (At.bool (leI d.e (32768 : Int)))))) (Q (Tv.sv (Sv.one (At.bool false))))) (Q (Tv.sv (Sv.one (At.bool false))))) := by kernel_rfl
theorem fRight_ok : SpecOk Tryd.prog 35 fRight :=
  specK_ok (envOk tys_ok sRef3_ok) mixed Tryd.func35 rfl (by decide) (by decide) fun (d : Dx) _ _ => ⟨fun _ => none, 0, by
    show execF _ _ _ _ _ (fun t => t = bT d.fitsB)
    refine (fRight_vc d _).mpr (br_intro (fun h => br_intro (fun h' => ?_) fun h' => ?_) fun h => ?_)
    · unfold Dx.fitsB Dx.m; rw [h, show decide (-32768 ≤ d.e) = true from h']; rfl
    · unfold Dx.fitsB Dx.m; rw [h, show decide (-32768 ≤ d.e) = false from h']; rfl
    · unfold Dx.fitsB Dx.m; rw [h]; rfl⟩
def fTop : Spec := specK [.d] fun (d : Dx) => (some (eB 2305843009213693952 d), iT (d.e + blen d.m - 1))
theorem fTop_vc (d : Dx) (Q : Tv → Prop) : execF ⟨tys, sRef3⟩ (fun _ => none) 0 Tryd.f100 [.agg (dyL false d)] Q = (inR (d.e + (↑(blen (val d.xs)) : Int)) ∧ inR (d.e + (↑(blen (val d.xs)) : Int) - (1 : Int)) ∧ true = true ∧ Q (Tv.sv (Sv.one (At.int IntKind.i64 (d.e + (↑(blen (val d.xs)) : Int) - (1 : Int)))))) := by kernel_rfl
theorem fTop_ok : SpecOk Tryd.prog 100 fTop :=
  specK_ok (envOk tys_ok sRef3_ok) mixed Tryd.func100 rfl (by decide) (by decide) fun (d : Dx) hd hp => ⟨fun _ => none, 0, by
    have hb := blen_wf hd
    have h0 : -2305843009213693952 ≤ d.e := hp.1
    have h1 : d.e ≤ 2305843009213693952 := hp.2
    exact (fTop_vc d _).mpr ⟨⟨by omega, by omega⟩, ⟨by omega, by omega⟩, rfl, rfl⟩⟩
def bitsD (d : Dx) : Int := (blen d.m : Int) - (tz d.m : Int)
def fBits : Spec := specK [.d] fun (d : Dx) => (none, iT (bitsD d))
theorem fBits_vc (d : Dx) (Q : Tv → Prop) : execF ⟨tys, sRef3⟩ (fun _ => none) 0 Tryd.f40 [.agg (dyL false d)] Q = (inR ((↑(blen (val d.xs)) : Int) - (↑(tz (val d.xs)) : Int)) ∧ true = true ∧ Q (Tv.sv (Sv.one (At.int IntKind.i64 ((↑(blen (val d.xs)) : Int) - (↑(tz (val d.xs)) : Int)))))) := by kernel_rfl
theorem fBits_ok : SpecOk Tryd.prog 40 fBits :=
  specK_ok (envOk tys_ok sRef3_ok) mixed Tryd.func40 rfl (by decide) (by decide) fun (d : Dx) hd _ => ⟨fun _ => none, 0, by
    have hb := blen_wf hd
    have ht := tz_small hd.1 hd.2
    exact (fBits_vc d _).mpr ⟨⟨by omega, by omega⟩, rfl, rfl⟩⟩
def sameD (d c : Dx) : Bool := (d.neg == c.neg) && (eqI d.e c.e && decide (d.xs = c.xs))
def fSame : Spec := specK [.d, .d] fun (d : Dx) (c : Dx) => (none, bT (sameD d c))
theorem fSame_vc (d c : Dx) (Q : Tv → Prop) : execF ⟨tys, sRef3⟩ (fun _ => none) 0 Tryd.f66 [.agg (dyL false d), .agg (dyL false c)] Q = (br (d.neg == c.neg) (br (eqI d.e c.e) (Q (Tv.sv (Sv.one (At.bool (decide (d.xs = c.xs)))))) (Q (Tv.sv (Sv.one (At.bool false))))) (Q (Tv.sv (Sv.one (At.bool false))))) := by kernel_rfl
theorem fSame_ok : SpecOk Tryd.prog 66 fSame :=
  specK_ok (envOk tys_ok sRef3_ok) mixed Tryd.func66 rfl (by decide) (by decide) fun (d : Dx) _ (c : Dx) _ _ => ⟨fun _ => none, 0, by
    show execF _ _ _ _ _ (fun t => t = bT (sameD d c))
    refine (fSame_vc d c _).mpr (br_intro (fun h => br_intro (fun h' => ?_) fun h' => ?_) fun h => ?_)
    · rw [sameD, h, h']; rfl
    · rw [sameD, h, h']; rfl
    · rw [sameD, h]; rfl⟩
def sF1 : List (FuncId × Spec) := [(85, fForm), (39, fZero), (35, fRight), (100, fTop), (40, fBits), (66, fSame)] ++ sRef3
theorem sF1_ok : SpecsOk Tryd.prog sF1 := ⟨fForm_ok, fZero_ok, fRight_ok, fTop_ok, fBits_ok, fSame_ok, sRef3_ok⟩
def fOne : Spec := specK [.d] fun (d : Dx) => (some (eB 4611686018427387904 d), dT (oneD d))
theorem fOne_vc (d : Dx) (Q : Tv → Prop) : execF ⟨tys, sF1⟩ (fun _ => none) 0 Tryd.f72 [.agg (dyL false d)] Q = (((-4611686018427387904 : Int) ≤ d.e ∧ d.e ≤ (4611686018427387904 : Int)) ∧ Q (Tv.sv (Sv.agg (dyL true (mkD d.neg (val d.xs) d.e))))) := by kernel_rfl
theorem fOne_ok : SpecOk Tryd.prog 72 fOne :=
  specK_ok (envOk tys_ok sF1_ok) mixed Tryd.func72 rfl (by decide) (by decide) fun (d : Dx) _ hp => ⟨fun _ => none, 0, (fOne_vc d _).mpr ⟨hp, rfl⟩⟩
def fNeg : Spec := specK [.d] fun (d : Dx) => (some (eB 4611686018427387904 d), dT (negD d))
theorem fNeg_vc (d : Dx) (Q : Tv → Prop) : execF ⟨tys, sF1⟩ (fun _ => none) 0 Tryd.f80 [.agg (dyL false d)] Q = (((-4611686018427387904 : Int) ≤ d.e ∧ d.e ≤ (4611686018427387904 : Int)) ∧ Q (Tv.sv (Sv.agg (dyL true (mkD (!d.neg) (val d.xs) d.e))))) := by kernel_rfl
theorem fNeg_ok : SpecOk Tryd.prog 80 fNeg :=
  specK_ok (envOk tys_ok sF1_ok) mixed Tryd.func80 rfl (by decide) (by decide) fun (d : Dx) _ hp => ⟨fun _ => none, 0, (fNeg_vc d _).mpr ⟨hp, rfl⟩⟩
def fTwice : Spec := specK [.d, .i .i64] fun (d : Dx) (n : Int) => (some (eB 2305843009213693952 d ∧ -2305843009213693952 ≤ n ∧ n ≤ 2305843009213693952), dT (shiftD d n))
theorem fTwice_vc (d : Dx) (n : Int) (Q : Tv → Prop) : execF ⟨tys, sF1⟩ (fun _ => none) 0 Tryd.f81 [.agg (dyL false d), .one (.int .i64 n)] Q = (inR (d.e + n) ∧ ((-4611686018427387904 : Int) ≤ d.e + n ∧ d.e + n ≤ (4611686018427387904 : Int)) ∧ Q (Tv.sv (Sv.agg (dyL true (mkD d.neg (val d.xs) (d.e + n)))))) := by kernel_rfl
theorem fTwice_ok : SpecOk Tryd.prog 81 fTwice :=
  specK_ok (envOk tys_ok sF1_ok) mixed Tryd.func81 rfl (by decide) (by decide) fun (d : Dx) _ (n : Int) _ hp => ⟨fun _ => none, 0, by
    obtain ⟨⟨h1, h2⟩, h3, h4⟩ : eB 2305843009213693952 d ∧ -2305843009213693952 ≤ n ∧ n ≤ 2305843009213693952 := hp
    exact (fTwice_vc d n _).mpr ⟨⟨by omega, by omega⟩, ⟨by omega, by omega⟩, rfl⟩⟩
def fSign : Spec := specK [.d] fun (d : Dx) => (none, iT d.sgn)
theorem fSign_vc (d : Dx) (Q : Tv → Prop) : execF ⟨tys, sF1⟩ (fun _ => none) 0 Tryd.f48 [.agg (dyL false d)] Q = (br (Dx.zeroB d) (Q (Tv.sv (Sv.one (At.int IntKind.i64 (0 : Int))))) (br d.neg (Q (Tv.sv (Sv.one (At.int IntKind.i64 (-1 : Int))))) (Q (Tv.sv (Sv.one (At.int IntKind.i64 (1 : Int))))))) := by kernel_rfl
theorem fSign_ok : SpecOk Tryd.prog 48 fSign :=
  specK_ok (envOk tys_ok sF1_ok) mixed Tryd.func48 rfl (by decide) (by decide) fun (d : Dx) _ _ => ⟨fun _ => none, 0, by
    show execF _ _ _ _ _ (fun t => t = iT d.sgn)
    refine (fSign_vc d _).mpr (br_intro (fun h => ?_) fun h => br_intro (fun h' => ?_) fun h' => ?_)
    · rw [Dx.sgn, if_pos (zeroB_true.1 h)]
    · rw [Dx.sgn, if_neg (zeroB_false.1 h), if_pos h']
    · rw [Dx.sgn, if_neg (zeroB_false.1 h), h']; rfl⟩
def fInt : Spec := specK [.i .i64] fun (n : Int) => (some (inR n), dT (mkS n 0))
theorem fInt_vc (n : Int) (Q : Tv → Prop) : execF ⟨tys, sF1⟩ (fun _ => none) 0 Tryd.f51 [.one (.int .i64 n)] Q = (br (ltI n (0 : Int)) (Word (IntKind.wrap IntKind.u64 ((0 : Int) - IntKind.wrap IntKind.u64 n)) ∧ ((-4611686018427387904 : Int) ≤ (0 : Int) ∧ (0 : Int) ≤ (4611686018427387904 : Int)) ∧ Q (Tv.sv (Sv.agg (dyL true (mkD true (val (ws (IntKind.wrap IntKind.u64 ((0 : Int) - IntKind.wrap IntKind.u64 n)))) (0 : Int)))))) (Word (IntKind.wrap IntKind.u64 n) ∧ ((-4611686018427387904 : Int) ≤ (0 : Int) ∧ (0 : Int) ≤ (4611686018427387904 : Int)) ∧ Q (Tv.sv (Sv.agg (dyL true (mkD false (val (ws (IntKind.wrap IntKind.u64 n))) (0 : Int))))))) := by kernel_rfl
theorem fInt_ok : SpecOk Tryd.prog 51 fInt :=
  specK_ok (envOk tys_ok sF1_ok) mixed Tryd.func51 rfl (by decide) (by decide) fun (n : Int) _ hp => ⟨fun _ => none, 0, by
    obtain ⟨h1, h2⟩ : inR n := hp
    show execF _ _ _ _ _ (fun t => t = dT (mkS n 0))
    refine (fInt_vc n _).mpr (br_intro (fun h => ?_) fun h => ?_)
    · have e : IntKind.wrap .u64 (0 - IntKind.wrap .u64 n) = (n.natAbs : Int) := by
        rw [ltI_true] at h; rw [IntKind.wrap_u64, IntKind.wrap_u64]; omega
      rw [e, val_ws (by omega)]
      refine ⟨⟨by omega, by omega⟩, ⟨by omega, by omega⟩, ?_⟩
      rw [mkS, decide_eq_true (ltI_true.1 h)]
    · have e : IntKind.wrap .u64 n = (n.natAbs : Int) := by
        rw [ltI_false] at h; rw [IntKind.wrap_u64]; omega
      rw [e, val_ws (by omega)]
      refine ⟨⟨by omega, by omega⟩, ⟨by omega, by omega⟩, ?_⟩
      rw [mkS, decide_eq_false (ltI_false.1 h)]⟩
def sF2 : List (FuncId × Spec) := [(72, fOne), (80, fNeg), (81, fTwice), (48, fSign), (51, fInt)] ++ sF1
theorem sF2_ok : SpecsOk Tryd.prog sF2 := ⟨fOne_ok, fNeg_ok, fTwice_ok, fSign_ok, fInt_ok, sF1_ok⟩
theorem one_ws {d : Dx} (h : 0 ≤ d.m) : (oneD d).xs = ws (oneD d).m := mkD_ws h
theorem one_len {d : Dx} (h : 0 ≤ d.m) : eqI ((oneD d).xs.length : Nat) 0 = decide ((oneD d).m = 0) := by rw [one_ws h, len_zero oneD_p]
theorem tz_odd2 {m : Int} (h : m % 2 = 1) (h0 : 0 ≤ m) : tz m = 0 := by
  obtain ⟨k, rfl⟩ : ∃ k, m = 2 * k + 1 := ⟨m / 2, by omega⟩
  exact tz_odd (by omega)
theorem mkD_mul_pow {neg : Bool} {m e : Int} {k : Nat} (h : 0 ≤ m) : mkD neg (m * 2 ^ k) e = mkD neg m (e + k) := by
  by_cases hz : m = 0
  · subst hz; rw [Int.zero_mul, mkD_zero, mkD_zero]
  · have hp : 0 < m := by omega
    have p := two_pow_pos k
    have hq : m * 2 ^ k ≠ 0 := by have := Int.mul_pos hp p; omega
    unfold mkD
    rw [if_neg hq, if_neg hz, tz_mul_pow hp]
    have : m * 2 ^ k / 2 ^ (tz m + k) = m / 2 ^ tz m := by
      rw [Int.pow_add, Int.mul_ediv_mul_of_pos_left _ _ p]
    rw [this]
    congr 1
    omega
theorem mkD_odd {neg : Bool} {m e : Int} (h : 0 < m) : (mkD neg m e).m % 2 = 1 := by
  rw [mkD_m (by omega)]
  obtain ⟨k, hk, e⟩ := tz_spec h
  have p := two_pow_pos (tz m)
  have e2 : m / 2 ^ tz m = 2 * k + 1 := by
    conv => lhs; lhs; rw [e]
    exact Int.mul_ediv_cancel_left _ (by omega)
  omega
theorem one_odd {d : Dx} (h : 0 ≤ d.m) (h0 : (oneD d).m ≠ 0) : (oneD d).m % 2 = 1 := mkD_odd (by
  have : d.m ≠ 0 := fun e => h0 (by unfold oneD; rw [(mkD_m_zero h).2 e])
  omega)
def fTimes : Spec := specK [.d, .d] fun (a : Dx) (b : Dx) => (some (a.Sm 68719476736 ∧ b.Sm 68719476736), dT (timesD a b))
theorem fTimes_vc (a b : Dx) (Q : Tv → Prop) : execF ⟨tys, sF2⟩ (fun _ => none) 0 Tryd.f38 [.agg (dyL false a), .agg (dyL false b)] Q = (eB (4611686018427387904 : Int) a ∧ eB (4611686018427387904 : Int) b ∧ true = true ∧ List.length (ws (val (oneD a).xs)) + List.length (ws (val (oneD b).xs)) ≤ (17592186044414 : Nat) ∧ inR ((oneD a).e + (oneD b).e) ∧ ((-4611686018427387904 : Int) ≤ (oneD a).e + (oneD b).e ∧ (oneD a).e + (oneD b).e ≤ (4611686018427387904 : Int)) ∧ true = true ∧ Q (Tv.sv (Sv.agg (dyL true (mkD (!(oneD a).neg == (oneD b).neg) (val (ws (val (oneD a).xs * val (oneD b).xs))) ((oneD a).e + (oneD b).e)))))) := by kernel_rfl
theorem times_one {a b : Dx} (ha : 0 ≤ a.m) (hb : 0 ≤ b.m) : mkD (!((oneD a).neg == (oneD b).neg)) ((oneD a).m * (oneD b).m) ((oneD a).e + (oneD b).e) = timesD a b := by
  unfold timesD
  by_cases h1 : a.m = 0
  · rw [h1, Int.zero_mul, mkD_zero, show (oneD a).m = 0 by unfold oneD; exact (mkD_m_zero ha).2 h1, Int.zero_mul, mkD_zero]
  · by_cases h2 : b.m = 0
    · rw [h2, Int.mul_zero, mkD_zero, show (oneD b).m = 0 by unfold oneD; exact (mkD_m_zero hb).2 h2, Int.mul_zero, mkD_zero]
    · obtain ⟨e1, g1⟩ := tz_div (m := a.m) (by omega)
      obtain ⟨e2, g2⟩ := tz_div (m := b.m) (by omega)
      have r1 : (oneD a).m = a.m / 2 ^ tz a.m := mkD_m ha
      have r2 : (oneD b).m = b.m / 2 ^ tz b.m := mkD_m hb
      have n1 : (oneD a).neg = a.neg := by unfold oneD mkD; rw [if_neg h1]
      have n2 : (oneD b).neg = b.neg := by unfold oneD mkD; rw [if_neg h2]
      have x1 : (oneD a).e = a.e + (tz a.m : Int) := by unfold oneD mkD; rw [if_neg h1]
      have x2 : (oneD b).e = b.e + (tz b.m : Int) := by unfold oneD mkD; rw [if_neg h2]
      rw [n1, n2, r1, r2, x1, x2]
      generalize a.m / 2 ^ tz a.m = A at *
      generalize b.m / 2 ^ tz b.m = B at *
      generalize tz a.m = i at *
      generalize tz b.m = j at *
      rw [e1, e2]
      have : (2 : Int) ^ i * A * (2 ^ j * B) = A * B * 2 ^ (i + j) := by rw [Int.pow_add]; simp only [Int.mul_assoc, Int.mul_comm, Int.mul_left_comm]
      rw [this, mkD_mul_pow (Int.mul_nonneg (by omega) (by omega))]
      congr 1
      omega
theorem fTimes_ok : SpecOk Tryd.prog 38 fTimes :=
  specK_ok (envOk tys_ok sF2_ok) mixed Tryd.func38 rfl (by decide) (by decide) fun (a : Dx) ha (b : Dx) hb hp => ⟨fun _ => none, 0, by
    obtain ⟨s1, s2⟩ : Dx.Sm 68719476736 a ∧ Dx.Sm 68719476736 b := hp
    have m1 := Dx.Wf.m0 ha
    have m2 := Dx.Wf.m0 hb
    obtain ⟨z1, z2, z3⟩ := one_sm m1 s1
    obtain ⟨z4, z5, z6⟩ := one_sm m2 s2
    have q1 := oneD_p (d := a)
    have q2 := oneD_p (d := b)
    have hM := Int.mul_nonneg q1 q2
    have l1 := ws_blen (k := 4294967296) q1 (by omega)
    have l2 := ws_blen (k := 4294967296) q2 (by omega)
    refine (fTimes_vc a b _).mpr ⟨s1.eB (by omega), s2.eB (by omega), rfl, ?_⟩
    unfold Dx.m at *
    rw [val_ws hM]
    refine ⟨by omega, ⟨by omega, by omega⟩, ⟨by omega, by omega⟩, rfl, ?_⟩
    show _ = dT (timesD a b)
    rw [← times_one m1 m2]; rfl⟩
def fPlus : Spec := specK [.d, .d] fun (a : Dx) (b : Dx) => (some (a.Sm 68719476736 ∧ b.Sm 68719476736), dT (plusD a b))
theorem fPlus_vc (a b : Dx) (Q : Tv → Prop) : execF ⟨tys, sF2⟩ (fun _ => none) 0 Tryd.f37 [.agg (dyL false a), .agg (dyL false b)] Q = (eB (4611686018427387904 : Int) a ∧ eB (4611686018427387904 : Int) b ∧ true = true ∧ br (eqI (↑(List.length (oneD a).xs) : Int) (0 : Int)) (Q (Tv.sv (Sv.agg (dyL true (oneD b))))) (br (eqI (↑(List.length (oneD b).xs) : Int) (0 : Int)) (Q (Tv.sv (Sv.agg (dyL true (oneD a))))) (inR ((oneD a).e - minI (oneD a).e (oneD b).e) ∧ ((0 : Int) ≤ (oneD a).e - minI (oneD a).e (oneD b).e ∧ (oneD a).e - minI (oneD a).e (oneD b).e ≤ (1099511627776 : Int) ∧ List.length (oneD a).xs ≤ (8796093022208 : Nat)) ∧ inR ((oneD b).e - minI (oneD a).e (oneD b).e) ∧ ((0 : Int) ≤ (oneD b).e - minI (oneD a).e (oneD b).e ∧ (oneD b).e - minI (oneD a).e (oneD b).e ≤ (1099511627776 : Int) ∧ List.length (oneD b).xs ≤ (8796093022208 : Nat)) ∧ br ((oneD a).neg == (oneD b).neg) ((List.length (ws (val (oneD a).xs * (2 : Int) ^ Int.toNat ((oneD a).e - minI (oneD a).e (oneD b).e))) ≤ (17592186044414 : Nat) ∧ List.length (ws (val (oneD b).xs * (2 : Int) ^ Int.toNat ((oneD b).e - minI (oneD a).e (oneD b).e))) ≤ (17592186044414 : Nat)) ∧ ((-4611686018427387904 : Int) ≤ minI (oneD a).e (oneD b).e ∧ minI (oneD a).e (oneD b).e ≤ (4611686018427387904 : Int)) ∧ true = true ∧ Q (Tv.sv (Sv.agg (dyL true (mkD (oneD a).neg (val (ws (val (ws (val (oneD a).xs * (2 : Int) ^ Int.toNat ((oneD a).e - minI (oneD a).e (oneD b).e))) + val (ws (val (oneD b).xs * (2 : Int) ^ Int.toNat ((oneD b).e - minI (oneD a).e (oneD b).e)))))) (minI (oneD a).e (oneD b).e)))))) (br (leI (0 : Int) (cmpI (val (ws (val (oneD a).xs * (2 : Int) ^ Int.toNat ((oneD a).e - minI (oneD a).e (oneD b).e)))) (val (ws (val (oneD b).xs * (2 : Int) ^ Int.toNat ((oneD b).e - minI (oneD a).e (oneD b).e)))))) ((val (ws (val (oneD b).xs * (2 : Int) ^ Int.toNat ((oneD b).e - minI (oneD a).e (oneD b).e))) ≤ val (ws (val (oneD a).xs * (2 : Int) ^ Int.toNat ((oneD a).e - minI (oneD a).e (oneD b).e))) ∧ List.length (ws (val (oneD a).xs * (2 : Int) ^ Int.toNat ((oneD a).e - minI (oneD a).e (oneD b).e))) ≤ (17592186044414 : Nat) ∧ List.length (ws (val (oneD b).xs * (2 : Int) ^ Int.toNat ((oneD b).e - minI (oneD a).e (oneD b).e))) ≤ (17592186044414 : Nat)) ∧ ((-4611686018427387904 : Int) ≤ minI (oneD a).e (oneD b).e ∧ minI (oneD a).e (oneD b).e ≤ (4611686018427387904 : Int)) ∧ true = true ∧ Q (Tv.sv (Sv.agg (dyL true (mkD (oneD a).neg (val (ws (val (ws (val (oneD a).xs * (2 : Int) ^ Int.toNat ((oneD a).e - minI (oneD a).e (oneD b).e))) - val (ws (val (oneD b).xs * (2 : Int) ^ Int.toNat ((oneD b).e - minI (oneD a).e (oneD b).e)))))) (minI (oneD a).e (oneD b).e)))))) ((val (ws (val (oneD a).xs * (2 : Int) ^ Int.toNat ((oneD a).e - minI (oneD a).e (oneD b).e))) ≤ val (ws (val (oneD b).xs * (2 : Int) ^ Int.toNat ((oneD b).e - minI (oneD a).e (oneD b).e))) ∧ List.length (ws (val (oneD b).xs * (2 : Int) ^ Int.toNat ((oneD b).e - minI (oneD a).e (oneD b).e))) ≤ (17592186044414 : Nat) ∧ List.length (ws (val (oneD a).xs * (2 : Int) ^ Int.toNat ((oneD a).e - minI (oneD a).e (oneD b).e))) ≤ (17592186044414 : Nat)) ∧ ((-4611686018427387904 : Int) ≤ minI (oneD a).e (oneD b).e ∧ minI (oneD a).e (oneD b).e ≤ (4611686018427387904 : Int)) ∧ true = true ∧ Q (Tv.sv (Sv.agg (dyL true (mkD (oneD b).neg (val (ws (val (ws (val (oneD b).xs * (2 : Int) ^ Int.toNat ((oneD b).e - minI (oneD a).e (oneD b).e))) - val (ws (val (oneD a).xs * (2 : Int) ^ Int.toNat ((oneD a).e - minI (oneD a).e (oneD b).e)))))) (minI (oneD a).e (oneD b).e)))))))))) := by kernel_rfl
theorem fPlus_ok : SpecOk Tryd.prog 37 fPlus :=
  specK_ok (envOk tys_ok sF2_ok) mixed Tryd.func37 rfl (by decide) (by decide) fun (a : Dx) ha (b : Dx) hb hp => ⟨fun _ => none, 0, by
    obtain ⟨s1, s2⟩ : Dx.Sm 68719476736 a ∧ Dx.Sm 68719476736 b := hp
    have m1 := Dx.Wf.m0 ha
    have m2 := Dx.Wf.m0 hb
    have q1 := oneD_p (d := a)
    have q2 := oneD_p (d := b)
    have z1 := one_sm m1 s1
    have z2 := one_sm m2 s2
    show execF _ _ _ _ _ (fun t => t = dT (plusX (oneD a) (oneD b)))
    refine (fPlus_vc a b _).mpr ⟨s1.eB (by omega), s2.eB (by omega), rfl, ?_⟩
    rw [one_len m1, one_len m2]
    refine br_intro (fun h => ?_) (fun h => br_intro (fun h' => ?_) fun h' => ?_)
    · rw [plusX, if_pos (of_decide_eq_true h)]
    · rw [plusX, if_neg (of_decide_eq_false h), if_pos (of_decide_eq_true h')]
    · have h := of_decide_eq_false h
      have h' := of_decide_eq_false h'
      obtain ⟨X, Y, mn, hX, hY, hmn, pX, pY, lX, lY, mn0, mn1, hsame, hge, hlt⟩ := plus_parts q1 q2 h h' z1 z2
      have w1 : (oneD a).xs.length ≤ 8796093022208 := by rw [one_ws m1]; exact ws_blen q1 (by have := z1.1; omega)
      have w2 : (oneD b).xs.length ≤ 8796093022208 := by rw [one_ws m2]; exact ws_blen q2 (by have := z2.1; omega)
      have b1 := z1.2
      have b2 := z2.2
      unfold Dx.m at hX hY
      rw [minI_eq, hX, hY, hmn, val_ws (n := X) (by omega), val_ws (n := Y) (by omega)]
      refine ⟨⟨by omega, by omega⟩, ⟨by omega, by omega, w1⟩, ⟨by omega, by omega⟩, ⟨by omega, by omega, w2⟩, br_intro (fun e => ?_) fun e => br_intro (fun e' => ?_) fun e' => ?_⟩
      · rw [val_ws (by omega)]
        refine ⟨⟨lX, lY⟩, ⟨mn0, mn1⟩, rfl, ?_⟩
        rw [hsame (by simpa using e)]
      · rw [cmpI_ge] at e'
        rw [val_ws (n := X - Y) (by omega)]
        refine ⟨⟨e', lX, lY⟩, ⟨mn0, mn1⟩, rfl, ?_⟩
        rw [hge (by simpa using e) e']
      · have e' : ¬ Y ≤ X := fun h => by rw [cmpI_ge.2 h] at e'; simp at e'
        rw [val_ws (n := Y - X) (by omega)]
        refine ⟨⟨by omega, lY, lX⟩, ⟨mn0, mn1⟩, rfl, ?_⟩
        rw [hlt (by simpa using e) (by omega)]⟩
def fTrim : Spec := specK [.d, .i .i64, .b] fun (d : Dx) (p : Int) (up : Bool) => (some (d.Sm 34359738368 ∧ 0 ≤ p ∧ p ≤ 1099511627776), dT (cutD d p up))
theorem fTrim_vc (d : Dx) (p : Int) (up : Bool) (Q : Tv → Prop) : execF ⟨tys, sF2⟩ (fun _ => none) 0 Tryd.f106 [.agg (dyL false d), .one (.int .i64 p), .one (.bool up)] Q = (eB (4611686018427387904 : Int) d ∧ br (leI (↑(blen (val (oneD d).xs)) : Int) p) (Q (Tv.sv (Sv.agg (dyL true (oneD d))))) (inR ((↑(blen (val (oneD d).xs)) : Int) - p) ∧ ((0 : Int) ≤ (↑(blen (val (oneD d).xs)) : Int) - p ∧ (↑(blen (val (oneD d).xs)) : Int) - p ≤ (9007199254740992 : Int)) ∧ br (lostB (val (oneD d).xs) (Int.toNat ((↑(blen (val (oneD d).xs)) : Int) - p))) (br (!up == (oneD d).neg) (Word (1 : Int) ∧ (List.length (ws (val (oneD d).xs / (2 : Int) ^ Int.toNat ((↑(blen (val (oneD d).xs)) : Int) - p))) ≤ (17592186044414 : Nat) ∧ List.length (ws (1 : Int)) ≤ (17592186044414 : Nat)) ∧ inR ((oneD d).e + (↑(blen (val (oneD d).xs)) : Int)) ∧ inR ((oneD d).e + (↑(blen (val (oneD d).xs)) : Int) - p) ∧ ((-4611686018427387904 : Int) ≤ (oneD d).e + (↑(blen (val (oneD d).xs)) : Int) - p ∧ (oneD d).e + (↑(blen (val (oneD d).xs)) : Int) - p ≤ (4611686018427387904 : Int)) ∧ Q (Tv.sv (Sv.agg (dyL true (mkD (oneD d).neg (val (ws (val (ws (val (oneD d).xs / (2 : Int) ^ Int.toNat ((↑(blen (val (oneD d).xs)) : Int) - p))) + val (ws (1 : Int))))) ((oneD d).e + (↑(blen (val (oneD d).xs)) : Int) - p)))))) (inR ((oneD d).e + (↑(blen (val (oneD d).xs)) : Int)) ∧ inR ((oneD d).e + (↑(blen (val (oneD d).xs)) : Int) - p) ∧ ((-4611686018427387904 : Int) ≤ (oneD d).e + (↑(blen (val (oneD d).xs)) : Int) - p ∧ (oneD d).e + (↑(blen (val (oneD d).xs)) : Int) - p ≤ (4611686018427387904 : Int)) ∧ Q (Tv.sv (Sv.agg (dyL true (mkD (oneD d).neg (val (ws (val (oneD d).xs / (2 : Int) ^ Int.toNat ((↑(blen (val (oneD d).xs)) : Int) - p)))) ((oneD d).e + (↑(blen (val (oneD d).xs)) : Int) - p))))))) (inR ((oneD d).e + (↑(blen (val (oneD d).xs)) : Int)) ∧ inR ((oneD d).e + (↑(blen (val (oneD d).xs)) : Int) - p) ∧ ((-4611686018427387904 : Int) ≤ (oneD d).e + (↑(blen (val (oneD d).xs)) : Int) - p ∧ (oneD d).e + (↑(blen (val (oneD d).xs)) : Int) - p ≤ (4611686018427387904 : Int)) ∧ Q (Tv.sv (Sv.agg (dyL true (mkD (oneD d).neg (val (ws (val (oneD d).xs / (2 : Int) ^ Int.toNat ((↑(blen (val (oneD d).xs)) : Int) - p)))) ((oneD d).e + (↑(blen (val (oneD d).xs)) : Int) - p)))))))) := by kernel_rfl
theorem fTrim_ok : SpecOk Tryd.prog 106 fTrim :=
  specK_ok (envOk tys_ok sF2_ok) mixed Tryd.func106 rfl (by decide) (by decide) fun (d : Dx) hd (p : Int) _ (up : Bool) _ hp => ⟨fun _ => none, 0, by
    obtain ⟨s1, p0, p1⟩ : Dx.Sm 34359738368 d ∧ 0 ≤ p ∧ p ≤ 1099511627776 := hp
    have m0 := Dx.Wf.m0 hd
    have m1 := oneD_p (d := d)
    have hodd := one_odd m0
    obtain ⟨z1, z2, z3⟩ := one_sm m0 s1
    show execF _ _ _ _ _ (fun t => t = dT (cutX (oneD d) p up))
    refine (fTrim_vc d p up _).mpr ⟨s1.eB (by omega), ?_⟩
    generalize oneD d = x at *
    unfold cutX
    unfold Dx.m at m1 z1 hodd ⊢
    refine br_intro (fun h => ?_) fun h => ?_
    · rw [if_pos (by have := leI_true.1 h; omega)]
    · have h := leI_false.1 h
      rw [if_neg (by omega)]
      obtain ⟨n, hn⟩ : ∃ n : Int, (blen (val x.xs) : Int) - p = n := ⟨_, rfl⟩
      rw [hn]
      have hmp : 0 < val x.xs := by
        by_cases hz : val x.xs = 0
        · rw [hz] at h; have e0 : blen 0 = 0 := by simp [blen]
          rw [e0] at h; omega
        · omega
      have hq : 0 ≤ val x.xs / 2 ^ n.toNat := Int.ediv_nonneg m1 (by have := two_pow_pos n.toNat; omega)
      have hql : (ws (val x.xs / 2 ^ n.toNat)).length ≤ 1073741825 := ws_blen hq (by
        have := blen_mono (m := val x.xs / 2 ^ n.toNat) (n := val x.xs) (Int.ediv_le_self _ m1); omega)
      have hl : lostB (val x.xs) n.toNat = true := by rw [lostB_tz hmp, tz_odd2 (hodd (by omega)) m1]; simp; omega
      have hb : blen (val x.xs) ≤ 68719476736 := by omega
      refine ⟨⟨by omega, by omega⟩, ⟨by omega, by omega⟩, br_intro (fun _ => br_intro (fun h' => ?_) fun h' => ?_) fun hf => by rw [hl] at hf; simp at hf⟩
      · rw [val_ws hq, val_ws_one, val_ws (by omega)]
        refine ⟨word_one, ⟨by omega, by simp [ws_one]⟩, ⟨by omega, by omega⟩, ⟨by omega, by omega⟩, ⟨by omega, by omega⟩, ?_⟩
        rw [if_neg (by cases up <;> cases hh : x.neg <;> simp_all), show x.e + (blen (val x.xs) : Int) - p = x.e + n by omega]
      · rw [val_ws hq]
        refine ⟨⟨by omega, by omega⟩, ⟨by omega, by omega⟩, ⟨by omega, by omega⟩, ?_⟩
        rw [if_pos (by cases up <;> cases hh : x.neg <;> simp_all), Int.add_zero, show x.e + (blen (val x.xs) : Int) - p = x.e + n by omega]⟩
def sF3 : List (FuncId × Spec) := [(38, fTimes), (37, fPlus), (106, fTrim)] ++ sF2
theorem sF3_ok : SpecsOk Tryd.prog sF3 := ⟨fTimes_ok, fPlus_ok, fTrim_ok, sF2_ok⟩
def fLess : Spec := specK [.d, .d] fun (a : Dx) (b : Dx) => (some (a.Sm 34359738368 ∧ b.Sm 34359738368), dT (lessD a b))
theorem fLess_vc (a b : Dx) (Q : Tv → Prop) : execF ⟨tys, sF3⟩ (fun _ => none) 0 Tryd.f47 [.agg (dyL false a), .agg (dyL false b)] Q = (eB (4611686018427387904 : Int) b ∧ (Dx.Sm (68719476736 : Nat) a ∧ Dx.Sm (68719476736 : Nat) (negD b)) ∧ true = true ∧ Q (Tv.sv (Sv.agg (dyL true (plusD a (negD b)))))) := by kernel_rfl
theorem fLess_ok : SpecOk Tryd.prog 47 fLess :=
  specK_ok (envOk tys_ok sF3_ok) mixed Tryd.func47 rfl (by decide) (by decide) fun (a : Dx) ha (b : Dx) hb hp => ⟨fun _ => none, 0, by
    obtain ⟨s1, s2⟩ : Dx.Sm 34359738368 a ∧ Dx.Sm 34359738368 b := hp
    exact (fLess_vc a b _).mpr ⟨s2.eB (by omega), ⟨s1.mono (by omega), (negD_sm s2 (Dx.Wf.m0 hb)).mono (by omega)⟩, rfl, rfl⟩⟩
def sF4 : List (FuncId × Spec) := [(47, fLess)] ++ sF3
theorem sF4_ok : SpecsOk Tryd.prog sF4 := ⟨fLess_ok, sF3_ok⟩
def fOrder : Spec := specK [.d, .d] fun (a : Dx) (b : Dx) => (some (a.Sm 34359738368 ∧ b.Sm 34359738368), iT (cmpD a b))
theorem fOrder_vc (a b : Dx) (Q : Tv → Prop) : execF ⟨tys, sF4⟩ (fun _ => none) 0 Tryd.f49 [.agg (dyL false a), .agg (dyL false b)] Q = (true = true ∧ br (ltI (Dx.sgn a) (Dx.sgn b)) (Q (Tv.sv (Sv.one (At.int IntKind.i64 (-1 : Int))))) (br (ltI (Dx.sgn b) (Dx.sgn a)) (Q (Tv.sv (Sv.one (At.int IntKind.i64 (1 : Int))))) (br (eqI (Dx.sgn a) (0 : Int)) (Q (Tv.sv (Sv.one (At.int IntKind.i64 (0 : Int))))) (eB (2305843009213693952 : Int) a ∧ eB (2305843009213693952 : Int) b ∧ true = true ∧ br (neI (a.e + (↑(blen (Dx.m a)) : Int) - (1 : Int)) (b.e + (↑(blen (Dx.m b)) : Int) - (1 : Int))) (br (ltI (b.e + (↑(blen (Dx.m b)) : Int) - (1 : Int)) (a.e + (↑(blen (Dx.m a)) : Int) - (1 : Int))) (Q (Tv.sv (Sv.one (At.int IntKind.i64 (Dx.sgn a))))) (inR ((0 : Int) - Dx.sgn a) ∧ Q (Tv.sv (Sv.one (At.int IntKind.i64 ((0 : Int) - Dx.sgn a)))))) ((Dx.Sm (34359738368 : Nat) a ∧ Dx.Sm (34359738368 : Nat) b) ∧ Q (Tv.sv (Sv.one (At.int IntKind.i64 (Dx.sgn (lessD a b)))))))))) := by kernel_rfl
theorem fOrder_ok : SpecOk Tryd.prog 49 fOrder :=
  specK_ok (envOk tys_ok sF4_ok) mixed Tryd.func49 rfl (by decide) (by decide) fun (a : Dx) ha (b : Dx) hb hp => ⟨fun _ => none, 0, by
    obtain ⟨s1, s2⟩ : Dx.Sm 34359738368 a ∧ Dx.Sm 34359738368 b := hp
    have m1 := Dx.Wf.m0 ha
    have m2 := Dx.Wf.m0 hb
    have c1 := sgn_cases (d := a)
    show execF _ _ _ _ _ (fun t => t = iT (cmpD a b))
    refine (fOrder_vc a b _).mpr ⟨rfl, br_intro (fun h => ?_) fun h => br_intro (fun h' => ?_) fun h' => br_intro (fun h0 => ?_) fun h0 => ?_⟩
    · rw [cmpD_lt m1 m2 (ltI_true.1 h)]
    · rw [cmpD_gt m1 m2 (ltI_true.1 h')]
    · rw [ltI_false] at h h'; rw [eqI_true] at h0
      rw [cmpD_zero m1 m2 h0 (by omega)]
    · rw [ltI_false] at h h'; rw [eqI_false] at h0
      have hs : a.sgn = b.sgn := by omega
      obtain ⟨t1, t2⟩ := cmpD_top m1 m2 hs h0
      refine ⟨s1.eB (by omega), s2.eB (by omega), rfl, br_intro (fun e => br_intro (fun e' => ?_) fun e' => ?_) fun e => ?_⟩
      · rw [t2 (ltI_true.1 e')]
      · rw [ltI_false] at e'; rw [neI_true] at e
        refine ⟨⟨by omega, by omega⟩, ?_⟩
        rw [t1 (by omega), Int.zero_sub]
      · exact ⟨⟨s1, s2⟩, by rw [sgn_less m1 m2]⟩⟩
def roomD (d : Dx) : Dx × Int := if d.fitsB = true then (d, 0) else (⟨false, [], 0⟩, 3)
def rdT (r : Dx × Int) : Tv := .tup [.agg (dyL false r.1), .one (.int .i64 r.2)]
def fRoom : Spec := specK [.d] fun (d : Dx) => (none, rdT (roomD d))
theorem fRoom_vc (d : Dx) (Q : Tv → Prop) : execF ⟨tys, sF4⟩ (fun _ => none) 0 Tryd.f71 [.agg (dyL false d)] Q = (br (!Dx.fitsB d) (Q (Tv.tup [Sv.agg [At.bool false, At.words true [], At.int IntKind.i64 (0 : Int)], Sv.one (At.int IntKind.i64 (3 : Int))])) (Q (Tv.tup [Sv.agg (dyL false d), Sv.one (At.int IntKind.i64 (0 : Int))]))) := by kernel_rfl
theorem neg_t {b : Bool} (h : (!b) = true) : b = false := by cases b <;> simp_all
theorem neg_f {b : Bool} (h : (!b) = false) : b = true := by cases b <;> simp_all
theorem fRoom_ok : SpecOk Tryd.prog 71 fRoom :=
  specKW_ok (envOk tys_ok sF4_ok) mixed Tryd.func71 rfl (by decide) (by decide) fun (d : Dx) _ _ => ⟨fun _ => none, 0, by
    show execF _ _ _ _ _ (fun t => t = rdT (roomD d) ∨ fgT t = rdT (roomD d))
    refine (fRoom_vc d _).mpr (br_intro (fun h => Or.inr ?_) fun h => Or.inl ?_)
    · rw [roomD, neg_t h]; rfl
    · rw [roomD, neg_f h]; rfl⟩
def sF5 : List (FuncId × Spec) := [(49, fOrder), (71, fRoom)] ++ sF4
theorem sF5_ok : SpecsOk Tryd.prog sF5 := ⟨fOrder_ok, fRoom_ok, sF4_ok⟩
def canonD (d : Dx) : Dx × Int := if d.fitsB = true then roomD (oneD d) else (⟨false, [], 0⟩, 2)
def fCanon : Spec := specK [.d] fun (d : Dx) => (none, rdT (canonD d))
theorem fCanon_vc (d : Dx) (Q : Tv → Prop) : execF ⟨tys, sF5⟩ (fun _ => none) 0 Tryd.f21 [.agg (dyL false d)] Q = (br (!Dx.fitsB d) (Q (Tv.tup [Sv.agg [At.bool false, At.words true [], At.int IntKind.i64 (0 : Int)], Sv.one (At.int IntKind.i64 (2 : Int))])) (eB (4611686018427387904 : Int) d ∧ Q (Tv.tup [Sv.agg (dyL false (roomD (oneD d)).fst), Sv.one (At.int IntKind.i64 (roomD (oneD d)).snd)]))) := by kernel_rfl
theorem fCanon_ok : SpecOk Tryd.prog 21 fCanon :=
  specKW_ok (envOk tys_ok sF5_ok) mixed Tryd.func21 rfl (by decide) (by decide) fun (d : Dx) _ _ => ⟨fun _ => none, 0, by
    show execF _ _ _ _ _ (fun t => t = rdT (canonD d) ∨ fgT t = rdT (canonD d))
    refine (fCanon_vc d _).mpr (br_intro (fun h => Or.inr ?_) fun h => ⟨(fits_sm (neg_f h)).eB (by omega), Or.inl ?_⟩)
    · rw [canonD, neg_t h]; rfl
    · rw [canonD, if_pos (neg_f h)]; rfl⟩
def sRef4 : List (FuncId × Spec) := [(21, fCanon)] ++ sF5
theorem sRef4_ok : SpecsOk Tryd.prog sRef4 := ⟨fCanon_ok, sF5_ok⟩
end Go.Proofs.YtmfmneanmamjbaaDoor

namespace Go.Proofs.YtmfmneanmamjbaaDoor
open Go.RowKit
theorem p2_le {a b : Int} (h : a ≤ b) : p2 a ≤ p2 b := by
  have e : p2 b = p2 a * p2 (b - a) := by rw [← p2_add]; congr 1; omega
  have h1 : (1 : Rat) ≤ p2 (b - a) := by
    rw [p2_toNat (by omega)]
    have := two_pow_pos (b - a).toNat
    exact (Rat.intCast_le_intCast (a := 1)).2 (by omega)
  have := Rat.mul_le_mul_of_nonneg_left h1 (Rat.le_of_lt (p2_pos a))
  rw [e]; grind
theorem p2_one : p2 1 = 2 := by decide
theorem p2_lt {a b : Int} (h : a < b) : p2 a < p2 b := by
  have h1 := p2_le (a := a + 1) (b := b) (by omega)
  rw [p2_add, p2_one] at h1
  have := p2_pos a
  grind
theorem p2_lt_iff {a b : Int} : p2 a < p2 b ↔ a < b := by
  refine ⟨fun h => ?_, p2_lt⟩
  by_cases k : a < b
  · exact k
  · have := p2_le (a := b) (b := a) (by omega); grind
/-- The amount lies between its top and the next. -/
theorem amt_ge {m e : Int} (h : 0 < m) : p2 (e + (blen m : Int) - 1) ≤ (m : Rat) * p2 e := by
  have h1 := blen_ge h
  have h2 := blen_pos h
  have e1 : e + (blen m : Int) - 1 = ((blen m - 1 : Nat) : Int) + e := by omega
  rw [e1, p2_add, p2_nat]
  exact Rat.mul_le_mul_of_nonneg_right (Rat.intCast_le_intCast.2 h1) (Rat.le_of_lt (p2_pos e))
theorem amt_lt {m e : Int} : (m : Rat) * p2 e < p2 (e + (blen m : Int)) := by
  have h1 := blen_lt m
  rw [Int.add_comm, p2_add, p2_nat]
  exact (Rat.mul_lt_mul_right (p2_pos e)).2 (Rat.intCast_lt_intCast.2 h1)
theorem rv_amt {d : Dx} (h : 0 ≤ d.m) : (0 ≤ d.rv → d.rv = (d.m : Rat) * p2 d.e) ∧ (d.rv ≤ 0 → -d.rv = (d.m : Rat) * p2 d.e) := by
  have p := p2_pos d.e
  have q : 0 ≤ (d.m : Rat) * p2 d.e := Rat.mul_nonneg (Rat.intCast_nonneg.2 h) (Rat.le_of_lt p)
  unfold Dx.rv Dx.sm
  cases d.neg with
  | false => simp only [Bool.false_eq_true, if_false]; grind
  | true => simp only [if_true, Rat.intCast_neg]; grind
/-- Multiples of a power of 2. -/
def Mul2 (K : Int) (x : Rat) : Prop := ∃ s : Int, x = (s : Rat) * p2 K
theorem rv_mul2 {d : Dx} {K : Int} (h : K ≤ d.e) : Mul2 K d.rv := ⟨_, rv_scl h⟩
theorem Mul2.sub {K : Int} {x y : Rat} : Mul2 K x → Mul2 K y → Mul2 K (x - y)
  | ⟨s, hs⟩, ⟨t, ht⟩ => ⟨s - t, by rw [hs, ht, Rat.intCast_sub]; grind⟩
theorem Mul2.pos {K : Int} {x : Rat} (h : Mul2 K x) (hx : 0 < x) : p2 K ≤ x := by
  obtain ⟨s, rfl⟩ := h
  have p := p2_pos K
  have hs : 0 < s := by
    by_cases hs : 0 < s
    · exact hs
    · have : (s : Rat) ≤ 0 := Rat.intCast_nonpos.2 (by omega)
      have := Rat.mul_le_mul_of_nonneg_right this (Rat.le_of_lt p)
      grind
  have : ((1 : Int) : Rat) ≤ (s : Rat) := Rat.intCast_le_intCast.2 (by omega)
  have := Rat.mul_le_mul_of_nonneg_right this (Rat.le_of_lt p)
  have e1 : ((1 : Int) : Rat) = 1 := rfl
  rw [e1] at this
  grind
theorem fits_e {d : Dx} (h : d.fitsB = true) : -32768 ≤ d.e ∧ d.e ≤ 32768 := by
  unfold Dx.fitsB at h; simp at h; omega
theorem fits_lt {d : Dx} (h : d.fitsB = true) : (d.m : Rat) * p2 d.e < p2 98304 := by
  have h1 := fits_e h
  have h2 := (fits_sm h).1
  have := amt_lt (m := d.m) (e := d.e)
  have := p2_le (a := d.e + (blen d.m : Int)) (b := 98304) (by omega)
  grind
theorem sgn_zero2 {d : Dx} : d.sgn = 0 ↔ d.m = 0 := by
  unfold Dx.sgn; split
  · simp_all
  · split <;> simp_all
theorem zeroB_rv {d : Dx} (h : 0 ≤ d.m) : d.zeroB = true ↔ d.rv = 0 := by
  rw [zeroB_true, ← sgn_zero2]
  rcases sgn_rv h with ⟨a, b⟩ | ⟨a, b⟩ | ⟨a, b⟩ <;> rw [a] <;> simp <;> grind
theorem cmp_shift {w l : Dx} {p : Int} (hw : 0 ≤ w.m) : cmpD (shiftD w p) l ≤ 0 ↔ w.rv * p2 p ≤ l.rv := by
  rw [cmpD_le, rv_shift hw]
theorem narrow_p {w l : Rat} {p : Int} (hw : p2 (-32768) ≤ w) (hl : l < p2 98304) (h : w * p2 p ≤ l) : p < 131072 := by
  have h1 := Rat.mul_le_mul_of_nonneg_right hw (Rat.le_of_lt (p2_pos p))
  rw [← p2_add] at h1
  have := (p2_lt_iff (a := -32768 + p) (b := 98304)).1 (by grind)
  omega
theorem narrowX_eq {w l : Dx} {p : Int} (w0 : 0 ≤ w.m) (l0 : 0 ≤ l.m) (hw : p2 (-32768) ≤ w.rv) (hl : l.rv < p2 98304) : narrowX w l p = decide (w.rv * p2 p ≤ l.rv) := by
  unfold narrowX
  by_cases h : w.rv * p2 p ≤ l.rv
  · have hp := narrow_p hw hl h
    rw [decide_eq_true (cmp_shift w0 |>.2 h), decide_eq_true h, decide_eq_true (show p ≤ 1048576 by omega)]
    have wp : 0 < w.rv := by have := p2_pos (-32768); grind
    have lp : 0 < l.rv := by have := Rat.mul_pos wp (p2_pos p); grind
    have wm : 0 < w.m := by
      by_cases hz : w.m = 0
      · rw [rv_zero hz] at wp; grind
      · omega
    have a1 := amt_ge (e := w.e) wm
    have a2 := amt_lt (m := l.m) (e := l.e)
    rw [← (rv_amt w0).1 (by grind)] at a1
    rw [← (rv_amt l0).1 (by grind)] at a2
    have a3 := Rat.mul_le_mul_of_nonneg_right a1 (Rat.le_of_lt (p2_pos p))
    rw [← p2_add] at a3
    have := (p2_lt_iff (a := w.e + (blen w.m : Int) - 1 + p) (b := l.e + (blen l.m : Int))).1 (by grind)
    rw [decide_eq_true (show w.e + (blen w.m : Int) - 1 + p ≤ l.e + (blen l.m : Int) - 1 + 1 by omega)]
    rfl
  · rw [decide_eq_false h, decide_eq_false (fun k => h ((cmp_shift w0).1 k)), Bool.and_false, Bool.and_false]
theorem cmpD_congr {a b a' b' : Dx} (ha : a.rv = a'.rv) (hb : b.rv = b'.rv) : cmpD a b = cmpD a' b' := by
  rcases cmpD_cases a b with ⟨h, k⟩ | ⟨h, k⟩ | ⟨h, k⟩ <;> rcases cmpD_cases a' b' with ⟨h', k'⟩ | ⟨h', k'⟩ | ⟨h', k'⟩ <;> rw [h, h'] <;> grind
theorem cmpD_ones {a b : Dx} (ha : 0 ≤ a.m) (hb : 0 ≤ b.m) : cmpD (oneD a) (oneD b) = cmpD a b := cmpD_congr (rv_one ha) (rv_one hb)
end Go.Proofs.YtmfmneanmamjbaaDoor

namespace Go.Proofs.YtmfmneanmamjbaaDoor
open Go.RowKit
def gRight : Spec := specK [.v] fun (v : Vx) => (none, bT (rightV v))
theorem gRight_vc (v : Vx) (Q : Tv → Prop) : execF ⟨tys2, sRef4⟩ (fun _ => none) 0 Tryd.f22 [.agg (ivL false v)] Q = (br (Dx.fitsB v.lo) (br (Dx.fitsB v.hi) ((Dx.Sm (34359738368 : Nat) v.lo ∧ Dx.Sm (34359738368 : Nat) v.hi) ∧ Q (Tv.sv (Sv.one (At.bool (leI (cmpD v.lo v.hi) (0 : Int)))))) (Q (Tv.sv (Sv.one (At.bool false))))) (Q (Tv.sv (Sv.one (At.bool false))))) := by kernel_rfl
theorem gRight_ok : SpecOk Tryd.prog 22 gRight :=
  specK_ok (envOk tys2_ok sRef4_ok) mixed Tryd.func22 rfl (by decide) (by decide) fun (v : Vx) _ _ => ⟨fun _ => none, 0, by
    refine (gRight_vc v _).mpr (br_intro (fun h1 => br_intro (fun h2 => ⟨⟨(fits_sm h1).mono (by omega), (fits_sm h2).mono (by omega)⟩, ?_⟩) fun h2 => ?_) fun h1 => ?_)
    · show _ = bT (rightV v); rw [rightV, h1, h2]; rfl
    · show _ = bT (rightV v); rw [rightV, h1, h2]; rfl
    · show _ = bT (rightV v); rw [rightV, h1]; rfl⟩
def gOne : Spec := specK [.v] fun (v : Vx) => (some (v.Sm 65536), vT (canonV v))
theorem gOne_vc (v : Vx) (Q : Tv → Prop) : execF ⟨tys2, sRef4⟩ (fun _ => none) 0 Tryd.f67 [.agg (ivL false v)] Q = (eB (4611686018427387904 : Int) v.lo ∧ eB (4611686018427387904 : Int) v.hi ∧ true = true ∧ Q (Tv.sv (Sv.agg (ivL true (Vx.mk (oneD v.lo) (oneD v.hi)))))) := by kernel_rfl
theorem gOne_ok : SpecOk Tryd.prog 67 gOne :=
  specK_ok (envOk tys2_ok sRef4_ok) mixed Tryd.func67 rfl (by decide) (by decide) fun (v : Vx) _ hp => ⟨fun _ => none, 0, (gOne_vc v _).mpr ⟨hp.1.eB (by omega), hp.2.eB (by omega), rfl, rfl⟩⟩
def gRoom : Spec := specK [.v] fun (v : Vx) => (none, reT (roomR v))
theorem gRoom_vc (v : Vx) (Q : Tv → Prop) : execF ⟨tys2, sRef4⟩ (fun _ => none) 0 Tryd.f61 [.agg (ivL false v)] Q = (br (!Dx.fitsB v.lo) (Q (Tv.tup [Sv.agg [At.bool false, At.words true [], At.int IntKind.i64 (0 : Int), At.bool false, At.words true [], At.int IntKind.i64 (0 : Int)], Sv.one (At.int IntKind.i64 (3 : Int))])) (br (!Dx.fitsB v.hi) (Q (Tv.tup [Sv.agg [At.bool false, At.words true [], At.int IntKind.i64 (0 : Int), At.bool false, At.words true [], At.int IntKind.i64 (0 : Int)], Sv.one (At.int IntKind.i64 (3 : Int))])) (Q (Tv.tup [Sv.agg (ivL false v), Sv.one (At.int IntKind.i64 (0 : Int))])))) := by kernel_rfl
theorem gRoom_ok : SpecOk Tryd.prog 61 gRoom :=
  specKW_ok (envOk tys2_ok sRef4_ok) mixed Tryd.func61 rfl (by decide) (by decide) fun (v : Vx) _ _ => ⟨fun _ => none, 0, by
    show execF _ _ _ _ _ (fun t => t = reT (roomR v) ∨ fgT t = reT (roomR v))
    refine (gRoom_vc v _).mpr (br_intro (fun h => ?_) fun h => br_intro (fun h1 => ?_) fun h1 => ?_)
    · right; rw [roomR, not_true h]; rfl
    · right; rw [roomR, not_true h1, Bool.and_false]; rfl
    · left; rw [roomR, not_false' h, not_false' h1]; rfl⟩
def gPoint : Spec := specK [.d] fun (d : Dx) => (some (eB 4611686018427387904 d), vT (pointV d))
theorem gPoint_vc (d : Dx) (Q : Tv → Prop) : execF ⟨tys2, sRef4⟩ (fun _ => none) 0 Tryd.f41 [.agg (dyL false d)] Q = (eB (4611686018427387904 : Int) d ∧ Q (Tv.sv (Sv.agg (ivL true (Vx.mk (oneD d) (oneD d)))))) := by kernel_rfl
theorem gPoint_ok : SpecOk Tryd.prog 41 gPoint :=
  specK_ok (envOk tys2_ok sRef4_ok) mixed Tryd.func41 rfl (by decide) (by decide) fun (d : Dx) _ hp => ⟨fun _ => none, 0, (gPoint_vc d _).mpr ⟨hp, rfl⟩⟩
def gTrim : Spec := specK [.v, .i .i64] fun (v : Vx) (p : Int) => (some (v.Sm 34359738368 ∧ 0 ≤ p ∧ p ≤ 1099511627776), vT (trimV v p))
theorem gTrim_vc (v : Vx) (p : Int) (Q : Tv → Prop) : execF ⟨tys2, sRef4⟩ (fun _ => none) 0 Tryd.f65 [.agg (ivL false v), .one (.int .i64 p)] Q = ((Dx.Sm (34359738368 : Nat) v.lo ∧ (0 : Int) ≤ p ∧ p ≤ (1099511627776 : Int)) ∧ (Dx.Sm (34359738368 : Nat) v.hi ∧ (0 : Int) ≤ p ∧ p ≤ (1099511627776 : Int)) ∧ true = true ∧ Q (Tv.sv (Sv.agg (ivL true (Vx.mk (cutD v.lo p false) (cutD v.hi p true)))))) := by kernel_rfl
theorem gTrim_ok : SpecOk Tryd.prog 65 gTrim :=
  specK_ok (envOk tys2_ok sRef4_ok) mixed Tryd.func65 rfl (by decide) (by decide) fun (v : Vx) _ (p : Int) _ hp => ⟨fun _ => none, 0, (gTrim_vc v p _).mpr ⟨⟨hp.1.1, hp.2⟩, ⟨hp.1.2, hp.2⟩, rfl, rfl⟩⟩
def gNeg : Spec := specK [.v] fun (v : Vx) => (some (eB 4611686018427387904 v.lo ∧ eB 4611686018427387904 v.hi), vT (turnV v))
theorem gNeg_vc (v : Vx) (Q : Tv → Prop) : execF ⟨tys2, sRef4⟩ (fun _ => none) 0 Tryd.f62 [.agg (ivL false v)] Q = (eB (4611686018427387904 : Int) v.hi ∧ eB (4611686018427387904 : Int) v.lo ∧ true = true ∧ Q (Tv.sv (Sv.agg (ivL true (Vx.mk (negD v.hi) (negD v.lo)))))) := by kernel_rfl
theorem gNeg_ok : SpecOk Tryd.prog 62 gNeg :=
  specK_ok (envOk tys2_ok sRef4_ok) mixed Tryd.func62 rfl (by decide) (by decide) fun (v : Vx) _ hp => ⟨fun _ => none, 0, (gNeg_vc v _).mpr ⟨hp.2, hp.1, rfl, rfl⟩⟩
def gScale : Spec := specK [.v, .i .i64] fun (v : Vx) (n : Int) => (some (eB 2305843009213693952 v.lo ∧ eB 2305843009213693952 v.hi ∧ -2305843009213693952 ≤ n ∧ n ≤ 2305843009213693952), vT (scaleV v n))
theorem gScale_vc (v : Vx) (n : Int) (Q : Tv → Prop) : execF ⟨tys2, sRef4⟩ (fun _ => none) 0 Tryd.f63 [.agg (ivL false v), .one (.int .i64 n)] Q = ((eB (2305843009213693952 : Int) v.lo ∧ (-2305843009213693952 : Int) ≤ n ∧ n ≤ (2305843009213693952 : Int)) ∧ (eB (2305843009213693952 : Int) v.hi ∧ (-2305843009213693952 : Int) ≤ n ∧ n ≤ (2305843009213693952 : Int)) ∧ true = true ∧ Q (Tv.sv (Sv.agg (ivL true (Vx.mk (shiftD v.lo n) (shiftD v.hi n)))))) := by kernel_rfl
theorem gScale_ok : SpecOk Tryd.prog 63 gScale :=
  specK_ok (envOk tys2_ok sRef4_ok) mixed Tryd.func63 rfl (by decide) (by decide) fun (v : Vx) _ (n : Int) _ hp => ⟨fun _ => none, 0, by
    obtain ⟨h1, h2, h3⟩ : eB 2305843009213693952 v.lo ∧ eB 2305843009213693952 v.hi ∧ -2305843009213693952 ≤ n ∧ n ≤ 2305843009213693952 := hp
    exact (gScale_vc v n _).mpr ⟨⟨h1, h3⟩, ⟨h2, h3⟩, rfl, rfl⟩⟩
def sameV (v u : Vx) : Bool := sameD v.lo u.lo && sameD v.hi u.hi
def gSame : Spec := specK [.v, .v] fun (v : Vx) (u : Vx) => (none, bT (sameV v u))
theorem gSame_vc (v u : Vx) (Q : Tv → Prop) : execF ⟨tys2, sRef4⟩ (fun _ => none) 0 Tryd.f18 [.agg (ivL false v), .agg (ivL false u)] Q = (br (sameD v.lo u.lo) (Q (Tv.sv (Sv.one (At.bool (sameD v.hi u.hi))))) (Q (Tv.sv (Sv.one (At.bool false))))) := by kernel_rfl
theorem gSame_ok : SpecOk Tryd.prog 18 gSame :=
  specK_ok (envOk tys2_ok sRef4_ok) mixed Tryd.func18 rfl (by decide) (by decide) fun (v : Vx) _ (u : Vx) _ _ => ⟨fun _ => none, 0, by
    show execF _ _ _ _ _ (fun t => t = bT (sameV v u))
    refine (gSame_vc v u _).mpr (br_intro (fun h => ?_) fun h => ?_) <;> rw [sameV, h] <;> rfl⟩
def sG1 : List (FuncId × Spec) := [(22, gRight), (67, gOne), (61, gRoom), (41, gPoint), (65, gTrim), (62, gNeg), (63, gScale), (18, gSame)] ++ sRef4
theorem sG1_ok : SpecsOk Tryd.prog sG1 := ⟨gRight_ok, gOne_ok, gRoom_ok, gPoint_ok, gTrim_ok, gNeg_ok, gScale_ok, gSame_ok, sRef4_ok⟩
def gJoin : Spec := specK [.v, .v] fun (v : Vx) (u : Vx) => (some (v.Sm 65536 ∧ u.Sm 65536), vT (joinV v u))
theorem gJoin_vc (v u : Vx) (Q : Tv → Prop) : execF ⟨tys2, sG1⟩ (fun _ => none) 0 Tryd.f64 [.agg (ivL false v), .agg (ivL false u)] Q = (Vx.Sm (65536 : Nat) v ∧ Vx.Sm (65536 : Nat) u ∧ (Dx.Sm (34359738368 : Nat) (canonV u).lo ∧ Dx.Sm (34359738368 : Nat) (canonV v).lo) ∧ br (ltI (cmpD (canonV u).lo (canonV v).lo) (0 : Int)) ((Dx.Sm (34359738368 : Nat) (canonV u).hi ∧ Dx.Sm (34359738368 : Nat) (canonV v).hi) ∧ br (ltI (0 : Int) (cmpD (canonV u).hi (canonV v).hi)) (Q (Tv.sv (Sv.agg (ivL true (canonV u))))) (Q (Tv.sv (Sv.agg (ivL true (Vx.mk (canonV u).lo (canonV v).hi)))))) ((Dx.Sm (34359738368 : Nat) (canonV u).hi ∧ Dx.Sm (34359738368 : Nat) (canonV v).hi) ∧ br (ltI (0 : Int) (cmpD (canonV u).hi (canonV v).hi)) (Q (Tv.sv (Sv.agg (ivL true (Vx.mk (canonV v).lo (canonV u).hi))))) (Q (Tv.sv (Sv.agg (ivL true (canonV v))))))) := by kernel_rfl
theorem join_lo {a b : Dx} (ha : 0 ≤ a.m) (hb : 0 ≤ b.m) : oneD (spanL a [b]).lo = if cmpD (oneD b) (oneD a) < 0 then oneD b else oneD a := by
  show oneD (if cmpD b a < 0 then b else a) = _
  rw [cmpD_ones hb ha]; split <;> rfl
theorem join_hi {a b : Dx} (ha : 0 ≤ a.m) (hb : 0 ≤ b.m) : oneD (spanL a [b]).hi = if 0 < cmpD (oneD b) (oneD a) then oneD b else oneD a := by
  show oneD (if 0 < cmpD b a then b else a) = _
  rw [cmpD_ones hb ha]; split <;> rfl
theorem gJoin_ok : SpecOk Tryd.prog 64 gJoin :=
  specK_ok (envOk tys2_ok sG1_ok) mixed Tryd.func64 rfl (by decide) (by decide) fun (v : Vx) hv (u : Vx) hu hp => ⟨fun _ => none, 0, by
    obtain ⟨s1, s2⟩ : v.Sm 65536 ∧ u.Sm 65536 := hp
    have m1 := Vx.Wf.p hv
    have m2 := Vx.Wf.p hu
    have z1 := one_sm m1.1 s1.1
    have z2 := one_sm m1.2 s1.2
    have z3 := one_sm m2.1 s2.1
    have z4 := one_sm m2.2 s2.2
    show execF _ _ _ _ _ (fun t => t = vT (joinV v u))
    refine (gJoin_vc v u _).mpr ⟨s1, s2, ⟨z3.mono (by omega), z1.mono (by omega)⟩, br_intro (fun h => ⟨⟨z4.mono (by omega), z2.mono (by omega)⟩, br_intro (fun h' => ?_) fun h' => ?_⟩) fun h => ⟨⟨z4.mono (by omega), z2.mono (by omega)⟩, br_intro (fun h' => ?_) fun h' => ?_⟩⟩
    · rw [joinV, join_lo m1.1 m2.1, join_hi m1.2 m2.2, if_pos (show cmpD (oneD u.lo) (oneD v.lo) < 0 from ltI_true.1 h), if_pos (show 0 < cmpD (oneD u.hi) (oneD v.hi) from ltI_true.1 h')]; rfl
    · rw [joinV, join_lo m1.1 m2.1, join_hi m1.2 m2.2, if_pos (show cmpD (oneD u.lo) (oneD v.lo) < 0 from ltI_true.1 h), if_neg (show ¬ 0 < cmpD (oneD u.hi) (oneD v.hi) from ltI_false.1 h')]; rfl
    · rw [joinV, join_lo m1.1 m2.1, join_hi m1.2 m2.2, if_neg (show ¬ cmpD (oneD u.lo) (oneD v.lo) < 0 from ltI_false.1 h), if_pos (show 0 < cmpD (oneD u.hi) (oneD v.hi) from ltI_true.1 h')]; rfl
    · rw [joinV, join_lo m1.1 m2.1, join_hi m1.2 m2.2, if_neg (show ¬ cmpD (oneD u.lo) (oneD v.lo) < 0 from ltI_false.1 h), if_neg (show ¬ 0 < cmpD (oneD u.hi) (oneD v.hi) from ltI_false.1 h')]; rfl⟩
def gCanon : Spec := specK [.v] fun (v : Vx) => (none, reT (ivCanon v))
theorem gCanon_vc (v : Vx) (Q : Tv → Prop) : execF ⟨tys2, sG1⟩ (fun _ => none) 0 Tryd.f19 [.agg (ivL false v)] Q = (br (!rightV v) (Q (Tv.tup [Sv.agg [At.bool false, At.words true [], At.int IntKind.i64 (0 : Int), At.bool false, At.words true [], At.int IntKind.i64 (0 : Int)], Sv.one (At.int IntKind.i64 (2 : Int))])) (Vx.Sm (65536 : Nat) v ∧ Q (Tv.tup [Sv.agg (ivL false (roomR (canonV v)).fst), Sv.one (At.int IntKind.i64 (roomR (canonV v)).snd)]))) := by kernel_rfl
theorem gCanon_ok : SpecOk Tryd.prog 19 gCanon :=
  specKW_ok (envOk tys2_ok sG1_ok) mixed Tryd.func19 rfl (by decide) (by decide) fun (v : Vx) _ _ => ⟨fun _ => none, 0, by
    show execF _ _ _ _ _ (Qw (ivCanon v))
    refine (gCanon_vc v _).mpr (br_intro (fun h => ?_) fun h => ⟨right_sm (not_false' h), ?_⟩)
    · exact when_false (not_true h)
    · exact when_true (not_false' h)⟩
def gMeets : Spec := specK [.v, .v] fun (v : Vx) (u : Vx) => (none, bT (meetsV v u))
theorem gMeets_vc (v u : Vx) (Q : Tv → Prop) : execF ⟨tys2, sG1⟩ (fun _ => none) 0 Tryd.f29 [.agg (ivL false v), .agg (ivL false u)] Q = (br (rightV v) (br (rightV u) ((Dx.Sm (34359738368 : Nat) v.lo ∧ Dx.Sm (34359738368 : Nat) u.hi) ∧ br (leI (cmpD v.lo u.hi) (0 : Int)) ((Dx.Sm (34359738368 : Nat) u.lo ∧ Dx.Sm (34359738368 : Nat) v.hi) ∧ Q (Tv.sv (Sv.one (At.bool (leI (cmpD u.lo v.hi) (0 : Int)))))) (Q (Tv.sv (Sv.one (At.bool false))))) (Q (Tv.sv (Sv.one (At.bool false))))) (Q (Tv.sv (Sv.one (At.bool false))))) := by kernel_rfl
theorem gMeets_ok : SpecOk Tryd.prog 29 gMeets :=
  specK_ok (envOk tys2_ok sG1_ok) mixed Tryd.func29 rfl (by decide) (by decide) fun (v : Vx) _ (u : Vx) _ _ => ⟨fun _ => none, 0, by
    show execF _ _ _ _ _ (fun t => t = bT (meetsV v u))
    refine (gMeets_vc v u _).mpr (br_intro (fun h1 => br_intro (fun h2 => ?_) fun h2 => ?_) fun h1 => ?_)
    · have z1 := right_sm h1
      have z2 := right_sm h2
      refine ⟨⟨z1.1.mono (by omega), z2.2.mono (by omega)⟩, br_intro (fun h3 => ⟨⟨z2.1.mono (by omega), z1.2.mono (by omega)⟩, ?_⟩) fun h3 => ?_⟩
      · rw [meetsV, h1, h2, h3]; rfl
      · rw [meetsV, h1, h2, h3]; rfl
    · rw [meetsV, h1, h2]; rfl
    · rw [meetsV, h1]; rfl⟩
def gWithin : Spec := specK [.v, .v] fun (v : Vx) (u : Vx) => (none, bT (withinV v u))
theorem gWithin_vc (v u : Vx) (Q : Tv → Prop) : execF ⟨tys2, sG1⟩ (fun _ => none) 0 Tryd.f31 [.agg (ivL false v), .agg (ivL false u)] Q = (br (rightV v) (br (rightV u) ((Dx.Sm (34359738368 : Nat) u.lo ∧ Dx.Sm (34359738368 : Nat) v.lo) ∧ br (leI (cmpD u.lo v.lo) (0 : Int)) ((Dx.Sm (34359738368 : Nat) v.hi ∧ Dx.Sm (34359738368 : Nat) u.hi) ∧ Q (Tv.sv (Sv.one (At.bool (leI (cmpD v.hi u.hi) (0 : Int)))))) (Q (Tv.sv (Sv.one (At.bool false))))) (Q (Tv.sv (Sv.one (At.bool false))))) (Q (Tv.sv (Sv.one (At.bool false))))) := by kernel_rfl
theorem gWithin_ok : SpecOk Tryd.prog 31 gWithin :=
  specK_ok (envOk tys2_ok sG1_ok) mixed Tryd.func31 rfl (by decide) (by decide) fun (v : Vx) _ (u : Vx) _ _ => ⟨fun _ => none, 0, by
    show execF _ _ _ _ _ (fun t => t = bT (withinV v u))
    refine (gWithin_vc v u _).mpr (br_intro (fun h1 => br_intro (fun h2 => ?_) fun h2 => ?_) fun h1 => ?_)
    · have z1 := right_sm h1
      have z2 := right_sm h2
      refine ⟨⟨z2.1.mono (by omega), z1.1.mono (by omega)⟩, br_intro (fun h3 => ⟨⟨z1.2.mono (by omega), z2.2.mono (by omega)⟩, ?_⟩) fun h3 => ?_⟩
      · rw [withinV, h1, h2, h3]; rfl
      · rw [withinV, h1, h2, h3]; rfl
    · rw [withinV, h1, h2]; rfl
    · rw [withinV, h1]; rfl⟩
def gHas : Spec := specK [.v, .d] fun (v : Vx) (d : Dx) => (none, bT (hasV v d))
theorem gHas_vc (v : Vx) (d : Dx) (Q : Tv → Prop) : execF ⟨tys2, sG1⟩ (fun _ => none) 0 Tryd.f33 [.agg (ivL false v), .agg (dyL false d)] Q = (br (rightV v) (br (Dx.fitsB d) ((Dx.Sm (34359738368 : Nat) v.lo ∧ Dx.Sm (34359738368 : Nat) d) ∧ br (leI (cmpD v.lo d) (0 : Int)) ((Dx.Sm (34359738368 : Nat) d ∧ Dx.Sm (34359738368 : Nat) v.hi) ∧ Q (Tv.sv (Sv.one (At.bool (leI (cmpD d v.hi) (0 : Int)))))) (Q (Tv.sv (Sv.one (At.bool false))))) (Q (Tv.sv (Sv.one (At.bool false))))) (Q (Tv.sv (Sv.one (At.bool false))))) := by kernel_rfl
theorem gHas_ok : SpecOk Tryd.prog 33 gHas :=
  specK_ok (envOk tys2_ok sG1_ok) mixed Tryd.func33 rfl (by decide) (by decide) fun (v : Vx) _ (d : Dx) _ _ => ⟨fun _ => none, 0, by
    show execF _ _ _ _ _ (fun t => t = bT (hasV v d))
    refine (gHas_vc v d _).mpr (br_intro (fun h1 => br_intro (fun h2 => ?_) fun h2 => ?_) fun h1 => ?_)
    · have z1 := right_sm h1
      have z2 := fits_sm h2
      refine ⟨⟨z1.1.mono (by omega), z2.mono (by omega)⟩, br_intro (fun h3 => ⟨⟨z2.mono (by omega), z1.2.mono (by omega)⟩, ?_⟩) fun h3 => ?_⟩
      · rw [hasV, h1, h2, h3]; rfl
      · rw [hasV, h1, h2, h3]; rfl
    · rw [hasV, h1, h2]; rfl
    · rw [hasV, h1]; rfl⟩
def gSign : Spec := specK [.v] fun (v : Vx) => (none, sgT (signV v))
theorem gSign_vc (v : Vx) (Q : Tv → Prop) : execF ⟨tys2, sG1⟩ (fun _ => none) 0 Tryd.f27 [.agg (ivL false v)] Q = (br (!rightV v) (Q (Tv.tup [Sv.one (At.int IntKind.i64 (0 : Int)), Sv.one (At.bool false)])) (true = true ∧ br (neI (Dx.sgn v.lo) (Dx.sgn v.hi)) (Q (Tv.tup [Sv.one (At.int IntKind.i64 (0 : Int)), Sv.one (At.bool false)])) (Q (Tv.tup [Sv.one (At.int IntKind.i64 (Dx.sgn v.lo)), Sv.one (At.bool true)])))) := by kernel_rfl
theorem gSign_ok : SpecOk Tryd.prog 27 gSign :=
  specK_ok (envOk tys2_ok sG1_ok) mixed Tryd.func27 rfl (by decide) (by decide) fun (v : Vx) hv _ => ⟨fun _ => none, 0, by
    have hv := Vx.Wf.p hv
    show execF _ _ _ _ _ (fun t => t = sgT (signV v))
    refine (gSign_vc v _).mpr (br_intro (fun h => ?_) fun h => ⟨rfl, br_intro (fun h1 => ?_) fun h1 => ?_⟩)
    · rw [signV, not_true h]; rfl
    · have hr := not_false' h
      have hs := sgn_le hv hr
      have h1 := neI_true.1 h1
      rw [signV, if_pos hr]
      rcases sgn_cases (d := v.lo) with a | a | a <;> rcases sgn_cases (d := v.hi) with b | b | b <;> rw [a, b] at h1 hs ⊢ <;> first | rfl | exact absurd rfl h1 | exact absurd hs (by decide)
    · have hr := not_false' h
      have h1 := neI_false.1 h1
      rw [signV, if_pos hr, ← h1]
      rcases sgn_cases (d := v.lo) with a | a | a <;> rw [a] <;> rfl⟩
theorem right_le {v : Vx} (h : rightV v = true) : v.lo.rv ≤ v.hi.rv := cmpD_le.1 (right_fits h).2.2
def gNarrow : Spec := specK [.v, .i .i64] fun (v : Vx) (p : Int) => (none, bT (narrowB v p))
theorem gNarrow_vc (v : Vx) (p : Int) (Q : Tv → Prop) : execF ⟨tys2, sG1⟩ (fun _ => none) 0 Tryd.f34 [.agg (ivL false v), .one (.int .i64 p)] Q = (br (!rightV v) (Q (Tv.sv (Sv.one (At.bool false)))) (br (ltI p (0 : Int)) (Q (Tv.sv (Sv.one (At.bool false)))) (true = true ∧ br (neI (Dx.sgn v.lo) (Dx.sgn v.hi)) (Q (Tv.sv (Sv.one (At.bool (eqI (Dx.sgn v.lo) (Dx.sgn v.hi)))))) (br (eqI (Dx.sgn v.lo) (0 : Int)) (Q (Tv.sv (Sv.one (At.bool (eqI (Dx.sgn v.lo) (Dx.sgn v.hi)))))) (br (ltI (Dx.sgn v.lo) (0 : Int)) (eB (4611686018427387904 : Int) v.hi ∧ (Dx.Sm (34359738368 : Nat) v.hi ∧ Dx.Sm (34359738368 : Nat) v.lo) ∧ br (Dx.zeroB (lessD v.hi v.lo)) (Q (Tv.sv (Sv.one (At.bool true)))) (br (ltI (196608 : Int) p) (Q (Tv.sv (Sv.one (At.bool false)))) ((eB (2305843009213693952 : Int) (lessD v.hi v.lo) ∧ (-2305843009213693952 : Int) ≤ p ∧ p ≤ (2305843009213693952 : Int)) ∧ (Dx.Sm (34359738368 : Nat) (shiftD (lessD v.hi v.lo) p) ∧ Dx.Sm (34359738368 : Nat) (negD v.hi)) ∧ true = true ∧ Q (Tv.sv (Sv.one (At.bool (leI (cmpD (shiftD (lessD v.hi v.lo) p) (negD v.hi)) (0 : Int)))))))) ((Dx.Sm (34359738368 : Nat) v.hi ∧ Dx.Sm (34359738368 : Nat) v.lo) ∧ br (Dx.zeroB (lessD v.hi v.lo)) (Q (Tv.sv (Sv.one (At.bool true)))) (br (ltI (196608 : Int) p) (Q (Tv.sv (Sv.one (At.bool false)))) ((eB (2305843009213693952 : Int) (lessD v.hi v.lo) ∧ (-2305843009213693952 : Int) ≤ p ∧ p ≤ (2305843009213693952 : Int)) ∧ (Dx.Sm (34359738368 : Nat) (shiftD (lessD v.hi v.lo) p) ∧ Dx.Sm (34359738368 : Nat) v.lo) ∧ true = true ∧ Q (Tv.sv (Sv.one (At.bool (leI (cmpD (shiftD (lessD v.hi v.lo) p) v.lo) (0 : Int))))))))))))) := by kernel_rfl
theorem wide_ge {v : Vx} (hv : v.P) (hr : rightV v = true) (hz : (lessD v.hi v.lo).zeroB = false) : p2 (-32768) ≤ (lessD v.hi v.lo).rv := by
  have h := rv_less hv.2 hv.1
  have f := right_fits hr
  have hm := (rv_mul2 (fits_e f.2.1).1).sub (rv_mul2 (fits_e f.1).1)
  rw [← h] at hm
  refine hm.pos ?_
  have := right_le hr
  have : (lessD v.hi v.lo).rv ≠ 0 := fun e => by rw [(zeroB_rv lessD_p).2 e] at hz; simp at hz
  grind
theorem narrow_part {w l l' : Dx} {p : Int} {r : Bool} (w0 : 0 ≤ w.m) (l0 : 0 ≤ l.m) (hw : p2 (-32768) ≤ w.rv) (hl : l.rv < p2 98304) (e : l'.rv = l.rv) (p0 : 0 ≤ p) (sw : w.Sm 4294967296) (sl : l'.Sm 4294967296) (hr : r = narrowX w l p) :
    br (ltI 196608 p) (Tv.sv (Sv.one (At.bool false)) = bT r) ((eB 2305843009213693952 w ∧ (-2305843009213693952 : Int) ≤ p ∧ p ≤ (2305843009213693952 : Int)) ∧ (Dx.Sm 34359738368 (shiftD w p) ∧ Dx.Sm 34359738368 l') ∧ true = true ∧ Tv.sv (Sv.one (At.bool (leI (cmpD (shiftD w p) l') 0))) = bT r) := by
  rw [hr, narrowX_eq w0 l0 hw hl]
  refine br_intro (fun h => ?_) fun h => ?_
  · rw [decide_eq_false]
    intro k
    have := narrow_p hw hl k
    have := ltI_true.1 h
    omega
  · have h := ltI_false.1 h
    refine ⟨⟨sw.eB (by omega), by omega, by omega⟩, ⟨(shiftD_sm (N := 4294967296) (M := 196608) w0 sw (by omega) (by omega)).mono (by omega), sl.mono (by omega)⟩, rfl, ?_⟩
    have : leI (cmpD (shiftD w p) l') 0 = decide (w.rv * p2 p ≤ l.rv) := by
      unfold leI; rw [← e, ← decide_eq_decide.2 (cmp_shift (l := l') w0)]
    rw [this]
theorem gNarrow_ok : SpecOk Tryd.prog 34 gNarrow :=
  specK_ok (envOk tys2_ok sG1_ok) mixed Tryd.func34 rfl (by decide) (by decide) fun (v : Vx) hv (p : Int) _ _ => ⟨fun _ => none, 0, by
    have hv := Vx.Wf.p hv
    show execF _ _ _ _ _ (fun t => t = bT (narrowB v p))
    refine (gNarrow_vc v p _).mpr (br_intro (fun h => ?_) fun h => br_intro (fun h1 => ?_) fun h1 => ⟨rfl, br_intro (fun h2 => ?_) fun h2 => br_intro (fun h3 => ?_) fun h3 => ?_⟩)
    · rw [narrowB, not_true h, Bool.false_and, Bool.and_false]
    · rw [narrowB, lt_not h1, Bool.false_and]
    · have h2 := neI_true.1 h2
      rw [narrowB, nlt_le h1, not_false' h, narrowV, if_pos h2, show eqI v.lo.sgn v.hi.sgn = false from eqI_false.2 h2]; rfl
    · have h2 := neI_false.1 h2
      rw [narrowB, nlt_le h1, not_false' h, narrowV, if_neg (by omega), if_pos (eqI_true.1 h3), show eqI v.lo.sgn v.hi.sgn = true from eqI_true.2 h2]; rfl
    · have hr := not_false' h
      have h2 := neI_false.1 h2
      have h3 := eqI_false.1 h3
      have sv := right_sm hr
      have fv := right_fits hr
      have p0 := leI_true.1 (nlt_le h1)
      have sl := lessD_sm hv.2 hv.1 sv.2 sv.1
      have key : narrowB v p = if (lessD v.hi v.lo).zeroB then true else narrowX (lessD v.hi v.lo) (if v.lo.sgn < 0 then absD v.hi else absD v.lo) p := by
        rw [narrowB, nlt_le h1, hr, narrowV, if_neg (by omega), if_neg h3]; rfl
      rw [key]
      refine br_intro (fun h4 => ⟨sv.2.eB (by omega), ⟨sv.2.mono (by omega), sv.1.mono (by omega)⟩, br_intro (fun h5 => ?_) fun h5 => ?_⟩) fun h4 => ⟨⟨sv.2.mono (by omega), sv.1.mono (by omega)⟩, br_intro (fun h5 => ?_) fun h5 => ?_⟩
      · rw [h5]; rfl
      · have h4 := ltI_true.1 h4
        have hneg : v.hi.rv < 0 := by
          rcases sgn_rv hv.2 with ⟨a, b⟩ | ⟨a, b⟩ | ⟨a, b⟩ <;> first | exact b | omega
        rw [h5, if_pos h4]
        refine narrow_part lessD_p absD_p (wide_ge hv hr h5) ?_ ?_ p0 (sl.mono (by omega)) ((negD_sm sv.2 hv.2).mono (by omega)) rfl
        · rw [rv_abs hv.2]; exact fits_lt fv.2.1
        · rw [rv_abs hv.2, rv_neg hv.2, (rv_amt hv.2).2 (by grind)]
      · rw [h5]; rfl
      · have h4 := ltI_false.1 h4
        have hpos : 0 < v.lo.rv := by
          rcases sgn_rv hv.1 with ⟨a, b⟩ | ⟨a, b⟩ | ⟨a, b⟩ <;> first | exact b | omega
        rw [h5, if_neg h4]
        refine narrow_part lessD_p absD_p (wide_ge hv hr h5) ?_ ?_ p0 (sl.mono (by omega)) (sv.1.mono (by omega)) rfl
        · rw [rv_abs hv.1]; exact fits_lt fv.1
        · rw [rv_abs hv.1, (rv_amt hv.1).1 (by grind)]⟩
def sG2 : List (FuncId × Spec) := [(64, gJoin), (19, gCanon), (29, gMeets), (31, gWithin), (33, gHas), (27, gSign), (34, gNarrow)] ++ sG1
theorem sG2_ok : SpecsOk Tryd.prog sG2 := ⟨gJoin_ok, gCanon_ok, gMeets_ok, gWithin_ok, gHas_ok, gSign_ok, gNarrow_ok, sG1_ok⟩
/-- Neg, Scale, Join, Cut by their numbers. -/
def turnR (k : Int) (v u : Vx) (n : Int) : Vx × Int := if k = 0 then ivNeg v else if k = 1 then ivScale v n else if k = 2 then ivJoin v u else ivCut v n
def gTurn : Spec := specK [.i .i64, .v, .v, .i .i64] fun (k : Int) (v : Vx) (u : Vx) (n : Int) => (some (0 ≤ k ∧ k ≤ 3), reT (turnR k v u n))
theorem gTurn0_vc (v u : Vx) (n : Int) (Q : Tv → Prop) : execF ⟨tys2, sG2⟩ (fun _ => none) 0 Tryd.f17 [.one (.int .i64 0), .agg (ivL false v), .agg (ivL false u), .one (.int .i64 n)] Q = (br (!rightV v) (Q (Tv.tup [Sv.agg [At.bool false, At.words true [], At.int IntKind.i64 (0 : Int), At.bool false, At.words true [], At.int IntKind.i64 (0 : Int)], Sv.one (At.int IntKind.i64 (2 : Int))])) ((eB (4611686018427387904 : Int) v.lo ∧ eB (4611686018427387904 : Int) v.hi) ∧ Q (Tv.tup [Sv.agg (ivL false (roomR (turnV v)).fst), Sv.one (At.int IntKind.i64 (roomR (turnV v)).snd)]))) := by kernel_rfl
theorem gTurn1_vc (v u : Vx) (n : Int) (Q : Tv → Prop) : execF ⟨tys2, sG2⟩ (fun _ => none) 0 Tryd.f17 [.one (.int .i64 1), .agg (ivL false v), .agg (ivL false u), .one (.int .i64 n)] Q = (br (!rightV v) (Q (Tv.tup [Sv.agg [At.bool false, At.words true [], At.int IntKind.i64 (0 : Int), At.bool false, At.words true [], At.int IntKind.i64 (0 : Int)], Sv.one (At.int IntKind.i64 (2 : Int))])) (br (ltI n (-65536 : Int)) (Q (Tv.tup [Sv.agg [At.bool false, At.words true [], At.int IntKind.i64 (0 : Int), At.bool false, At.words true [], At.int IntKind.i64 (0 : Int)], Sv.one (At.int IntKind.i64 (2 : Int))])) (br (ltI (65536 : Int) n) (Q (Tv.tup [Sv.agg [At.bool false, At.words true [], At.int IntKind.i64 (0 : Int), At.bool false, At.words true [], At.int IntKind.i64 (0 : Int)], Sv.one (At.int IntKind.i64 (2 : Int))])) ((eB (2305843009213693952 : Int) v.lo ∧ eB (2305843009213693952 : Int) v.hi ∧ (-2305843009213693952 : Int) ≤ n ∧ n ≤ (2305843009213693952 : Int)) ∧ Q (Tv.tup [Sv.agg (ivL false (roomR (scaleV v n)).fst), Sv.one (At.int IntKind.i64 (roomR (scaleV v n)).snd)]))))) := by kernel_rfl
theorem gTurn2_vc (v u : Vx) (n : Int) (Q : Tv → Prop) : execF ⟨tys2, sG2⟩ (fun _ => none) 0 Tryd.f17 [.one (.int .i64 2), .agg (ivL false v), .agg (ivL false u), .one (.int .i64 n)] Q = (br (!rightV v) (Q (Tv.tup [Sv.agg [At.bool false, At.words true [], At.int IntKind.i64 (0 : Int), At.bool false, At.words true [], At.int IntKind.i64 (0 : Int)], Sv.one (At.int IntKind.i64 (2 : Int))])) (br (!rightV u) (Q (Tv.tup [Sv.agg [At.bool false, At.words true [], At.int IntKind.i64 (0 : Int), At.bool false, At.words true [], At.int IntKind.i64 (0 : Int)], Sv.one (At.int IntKind.i64 (2 : Int))])) ((Vx.Sm (65536 : Nat) v ∧ Vx.Sm (65536 : Nat) u) ∧ Q (Tv.tup [Sv.agg (ivL false (roomR (joinV v u)).fst), Sv.one (At.int IntKind.i64 (roomR (joinV v u)).snd)])))) := by kernel_rfl
theorem gTurn3_vc (v u : Vx) (n : Int) (Q : Tv → Prop) : execF ⟨tys2, sG2⟩ (fun _ => none) 0 Tryd.f17 [.one (.int .i64 3), .agg (ivL false v), .agg (ivL false u), .one (.int .i64 n)] Q = (br (!rightV v) (Q (Tv.tup [Sv.agg [At.bool false, At.words true [], At.int IntKind.i64 (0 : Int), At.bool false, At.words true [], At.int IntKind.i64 (0 : Int)], Sv.one (At.int IntKind.i64 (2 : Int))])) (br (ltI n (1 : Int)) (Q (Tv.tup [Sv.agg [At.bool false, At.words true [], At.int IntKind.i64 (0 : Int), At.bool false, At.words true [], At.int IntKind.i64 (0 : Int)], Sv.one (At.int IntKind.i64 (2 : Int))])) (br (ltI (8192 : Int) n) (Q (Tv.tup [Sv.agg [At.bool false, At.words true [], At.int IntKind.i64 (0 : Int), At.bool false, At.words true [], At.int IntKind.i64 (0 : Int)], Sv.one (At.int IntKind.i64 (2 : Int))])) ((Vx.Sm (34359738368 : Nat) v ∧ (0 : Int) ≤ n ∧ n ≤ (1099511627776 : Int)) ∧ Q (Tv.tup [Sv.agg (ivL false (roomR (trimV v n)).fst), Sv.one (At.int IntKind.i64 (roomR (trimV v n)).snd)]))))) := by kernel_rfl
end Go.Proofs.YtmfmneanmamjbaaDoor

namespace Go.Proofs.YtmfmneanmamjbaaDoor
open Go.RowKit
/-- A block that holds a dyadic number's three cells, from cell o on. -/
def Box3 (w : World) (g o : Nat) (a b c : Value) : Prop :=
  (w.cell? ⟨g, o, none⟩ = some a ∧ w.cell? ⟨g, o + 1, none⟩ = some b ∧ w.cell? ⟨g, o + 2, none⟩ = some c) ∧
  (w.frozen? ⟨g, o, none⟩ = false ∧ w.frozen? ⟨g, o + 1, none⟩ = false ∧ w.frozen? ⟨g, o + 2, none⟩ = false)
theorem Box3.lt {w : World} {g o : Nat} {a b c : Value} (h : Box3 w g o a b c) : g < w.heap.size := World.block_lt_of_cell? w _ h.1.1
theorem Box3.below {w w' : World} {g o : Nat} {a b c : Value} (h : Box3 w g o a b c) (hb : Below w.heap.size w w') : Box3 w' g o a b c := by
  have hl := h.lt
  have e := bcell hb
  obtain ⟨⟨h1, h2, h3⟩, h4, h5, h6⟩ := h
  exact ⟨⟨(e.1 _ _ hl).trans h1, (e.1 _ _ hl).trans h2, (e.1 _ _ hl).trans h3⟩, (e.2 _ _ hl).trans h4, (e.2 _ _ hl).trans h5, (e.2 _ _ hl).trans h6⟩
theorem Box3.mid {w w' : World} {B g o : Nat} {a b c : Value} (h : Box3 w g o a b c) (hb : Below B w w') (hl : g < B) : Box3 w' g o a b c := by
  obtain ⟨⟨h1, h2, h3⟩, h4, h5, h6⟩ := h
  exact ⟨⟨(hb.cell (p := ⟨g, o, none⟩) hl).trans h1, (hb.cell (p := ⟨g, o + 1, none⟩) hl).trans h2, (hb.cell (p := ⟨g, o + 2, none⟩) hl).trans h3⟩, (hb.frozen (p := ⟨g, o, none⟩) hl).trans h4, (hb.frozen (p := ⟨g, o + 1, none⟩) hl).trans h5, (hb.frozen (p := ⟨g, o + 2, none⟩) hl).trans h6⟩
theorem Box3.other {w : World} {g g' o : Nat} {a b c : Value} (h : Box3 w g 0 a b c) (hg : g ≠ g') (x : Value) : Box3 (w.setCell ⟨g', o, none⟩ x) g 0 a b c := by
  obtain ⟨⟨h1, h2, h3⟩, h4, h5, h6⟩ := h
  refine ⟨⟨?_, ?_, ?_⟩, ?_, ?_, ?_⟩
  iterate 3 rw [World.cell?_setCell_other _ _ _ _ (by intro e; simp only [Addr.mk.injEq] at e; omega)]; assumption
  all_goals rw [World.frozen?_setCell]; assumption
theorem Box3.new (w : World) (a b c : Value) (t : TypeId) : Box3 (w.alloc (.cells #[a, b, c] t)) w.heap.size 0 a b c := by
  refine ⟨⟨?_, ?_, ?_⟩, ?_, ?_, ?_⟩ <;> go_simp

theorem Box3.set {w : World} {g : Nat} {a b c : Value} (h : Box3 w g 0 a b c) (a' b' c' : Value) :
    Box3 (((w.setCell ⟨g, 0, none⟩ a').setCell ⟨g, 1, none⟩ b').setCell ⟨g, 2, none⟩ c') g 0 a' b' c' := by
  obtain ⟨⟨h1, h2, h3⟩, h4, h5, h6⟩ := h
  simp only [Nat.zero_add] at h1 h2 h3 h4 h5 h6
  have n01 : (⟨g, 0, none⟩ : Addr) ≠ ⟨g, 1, none⟩ := by simp
  have n02 : (⟨g, 0, none⟩ : Addr) ≠ ⟨g, 2, none⟩ := by simp
  have n12 : (⟨g, 1, none⟩ : Addr) ≠ ⟨g, 2, none⟩ := by simp
  refine ⟨⟨?_, ?_, ?_⟩, ?_, ?_, ?_⟩
  · rw [World.cell?_setCell_other _ _ _ _ n02.symm, World.cell?_setCell_other _ _ _ _ n01.symm]; exact World.cell?_setCell_same _ _ _ h1
  · rw [Nat.zero_add, World.cell?_setCell_other _ _ _ _ n12.symm]; exact World.cell?_setCell_same _ _ _ ((World.cell?_setCell_other _ _ _ _ n01).trans h2)
  · rw [Nat.zero_add]; exact World.cell?_setCell_same _ _ _ ((World.cell?_setCell_other _ _ _ _ n12).trans ((World.cell?_setCell_other _ _ _ _ n02).trans h3))
  all_goals rw [World.frozen?_setCell, World.frozen?_setCell, World.frozen?_setCell]
  all_goals assumption
theorem NatAt.set {B g o : Nat} {w : World} {v : Value} {xs : List Int} (h : NatAt B w v xs) (hg : g < B) (x : Value) : NatAt B (w.setCell ⟨g, o, none⟩ x) v xs := by
  obtain ⟨A, c, e, h1, h2, h3, h5, h4⟩ := h
  refine ⟨A, c, e, h1, h2, h3, h5, fun hp => ?_⟩
  obtain ⟨g', o', e, hB, hg', hc⟩ := h4 hp
  refine ⟨g', o', e, hB, by simpa using hg', fun j hj => ?_⟩
  rw [World.cell?_setCell_other _ _ _ _ (by intro e; simp only [Addr.mk.injEq] at e; omega)]
  exact hc j hj
/-- A world in which the three cells of a block were set. -/
abbrev put3 (w : World) (g : Nat) (a b c : Value) : World := ((w.setCell ⟨g, 0, none⟩ a).setCell ⟨g, 1, none⟩ b).setCell ⟨g, 2, none⟩ c
theorem NatAt.put {B g : Nat} {w : World} {v : Value} {xs : List Int} (h : NatAt B w v xs) (hg : g < B) (a b c : Value) : NatAt B (put3 w g a b c) v xs := ((h.set hg a).set hg b).set hg c
theorem Below.put {B g : Nat} {w0 w : World} (h : Below B w0 w) (hg : B ≤ g) (a b c : Value) : Below B w0 (put3 w g a b c) := ((h.setCell hg _).setCell hg _).setCell hg _
theorem results_dy {fn : Func} {p : Tmp} (h : fn.results = #[.cell p 25]) {tmps : Array Value} {w : World} {g : Nat} {a b c : Value} (hp : tmps.getD p undef = .pointer (some ⟨g, 0, none⟩)) (hB : Box3 w g 0 a b c) :
    (results fn tmps).run Tryd.prog w = .ok (.agg #[a, b, c]) w := by
  obtain ⟨⟨h1, h2, h3⟩, h4, h5, h6⟩ := hB
  simp only [Nat.zero_add] at h1 h2 h3 h4 h5 h6
  have hp' : tmps[p]?.getD undef = .pointer (some ⟨g, 0, none⟩) := by simpa using hp
  simp [results, h, hp', asAddr, go_sem, loadVar, h1, h2, h3]

theorem size_alloc (w : World) (o : Obj) : (w.alloc o).heap.size = w.heap.size + 1 := by simp
/-- The world in which the copy is made. -/
noncomputable abbrev cpW (w : World) (neg : Bool) (s : Value) (e : Int) : World := ((w.alloc (.cells #[.bool neg, s, .int .i64 e] 25)).alloc (.cells #[.bool false, .slice none 0 0, .int .i64 0] 25)).alloc (.cells #[] 36)
theorem cp_below (w : World) (neg : Bool) (s : Value) (e : Int) : Below w.heap.size w (cpW w neg s e) := below_plus (below_plus (below_also w _) _) _
theorem cp_size (w : World) (neg : Bool) (s : Value) (e : Int) : (cpW w neg s e).heap.size = w.heap.size + 3 := by simp [cpW]
theorem cp_row (w : World) (neg : Bool) (s : Value) (e : Int) : (cpW w neg s e).ownsRow (w.heap.size + 2) 36 1 (.slice (some ⟨w.heap.size + 1 + 1, 0, none⟩) 0 0) 0 [] := by
  refine ⟨rfl, .inr ⟨_, 0, #[], rfl, Nat.le_refl _, ?_, Nat.le_refl _, Nat.zero_le _, rfl, rfl⟩⟩
  have := heap_alloc_new ((w.alloc (.cells #[.bool neg, s, .int .i64 e] 25)).alloc (.cells #[.bool false, .slice none 0 0, .int .i64 0] 25)) (.cells #[] 36)
  rwa [size_alloc, size_alloc] at this
theorem cp_box (w : World) (neg : Bool) (s : Value) (e : Int) : Box3 (cpW w neg s e) w.heap.size 0 (.bool neg) s (.int .i64 e) ∧ Box3 (cpW w neg s e) (w.heap.size + 1) 0 (.bool false) (.slice none 0 0) (.int .i64 0) := by
  refine ⟨((Box3.new w _ _ _ _).below (below_also _ _)).below (below_also _ _), ?_⟩
  have := (Box3.new (w.alloc (.cells #[.bool neg, s, .int .i64 e] 25)) (.bool false) (.slice none 0 0) (.int .i64 0) 25).below (below_also _ (.cells #[] 36))
  rwa [size_alloc] at this
set_option maxHeartbeats 800000 in
theorem copy4_calls {w : World} {s : Value} {d : Dx} (h : NatAt 0 w s d.xs) :
    Calls Tryd.prog 52 #[.agg #[.bool d.neg, s, .int .i64 d.e]] w fun e w' => ∃ s', e = .returned (.agg #[.bool d.neg, s', .int .i64 d.e]) ∧ NatAt w.heap.size w' s' d.xs ∧ Below w.heap.size w w' := by
  have HN := Lib.hid h
  clear h
  obtain ⟨neg, xs, e⟩ := d
  simp only at *
  go_enter Tryd.func52, Tryd.ntmps52
  go_wp2_with (at_builtin; refine wpList_append_copy rfl (w.heap.size + 2) rfl (.tmp 3) (.tmp 5) 23 rfl Tryd.underlying23 rfl rfl (cp_row _ _ _ _) (HN.out.below (cp_below _ _ _ _)) (Below.refl _ _) (by rw [cp_size]; omega) ?_; intro v3 w3 hn3 hb3 _; obtain ⟨A3, c3, rfl, hh⟩ := hn3; have HN3 : Hid (NatAt (w.heap.size + 2) w3 (.slice A3 xs.length c3) xs) := Lib.hid ⟨A3, c3, rfl, hh⟩; have HB3 := Lib.hid hb3; have k1 := (cp_box w neg s e).1.mid hb3 (by omega); have k2 := (cp_box w neg s e).2.mid hb3 (by omega); obtain ⟨⟨a1, a2, a3⟩, a4, a5, a6⟩ := k1; obtain ⟨⟨b1, b2, b3⟩, b4, b5, b6⟩ := k2; simp only [Nat.zero_add] at a1 a2 a3 a4 a5 a6 b1 b2 b3 b4 b5 b6; clear hh hb3)
  refine bodyPost_ret (results_dy rfl rfl (Box3.set (Box3.other ⟨⟨b1, b2, b3⟩, b4, b5, b6⟩ (by omega) _) _ _ _)) rfl ?_
  have hb := (((cp_below w neg s e).trans (HB3.out.mono (by omega))).setCell (p := ⟨w.heap.size, 1, none⟩) (Nat.le_refl _) (.slice A3 xs.length c3))
  exact ⟨_, rfl, ((HN3.out.set (g := w.heap.size) (by omega) _).put (g := w.heap.size + 1) (by omega) _ _ _).mono (by omega), Below.put hb (by omega) _ _ _⟩
def fCopy : Spec := specK [.d] fun (d : Dx) => (none, dT d)
theorem fCopy_ok : SpecOk Tryd.prog 52 fCopy :=
  handK_ok Tryd.func52 rfl (by decide) fun C w hC hX _ => fun (d : Dx) _ v h _ => by
    obtain ⟨vs, rfl, hl⟩ : ∃ vs, v = .agg vs.toArray ∧ RepL C noBox w vs (dyL false d) := by
      obtain ⟨vs, h1, h2⟩ := h; exact ⟨vs, h1, h2⟩
    match vs, hl with
    | [a, b, c], ⟨h1, h2, h3, _⟩ =>
      obtain rfl := rep_bool h1
      obtain rfl := rep_int h3
      refine (copy4_calls (rep_natAt h2)).mono ?_
      rintro e w' ⟨s', rfl, hn, hb⟩
      exact ⟨_, rfl, ⟨[.bool d.neg, s', .int .i64 d.e], rfl, Rep.bool _, rep_new hC hX hn, Rep.int _ _, trivial⟩, hb⟩
end Go.Proofs.YtmfmneanmamjbaaDoor

namespace Go.Proofs.YtmfmneanmamjbaaDoor
open Go.RowKit
def wsK : Nat → Int → List Int
  | 0, _ => []
  | k + 1, n => if 0 < n then (n % 18446744073709551616) :: wsK k (n / 18446744073709551616) else []
theorem wsK_eq : ∀ {k : Nat} {n : Int}, n < 2 ^ k → ws n = wsK k n
  | 0, n, h => by rw [ws_nonpos (by simp at h; omega)]; rfl
  | k + 1, n, h => by
    unfold wsK
    by_cases hp : 0 < n
    · have p := two_pow_pos k
      rw [Int.pow_succ] at h
      rw [ws_pos hp, if_pos hp, wsK_eq (k := k) (by omega)]
    · rw [ws_nonpos (by omega), if_neg hp]
theorem ws_K (n : Int) : ws n = wsK (blen n) n := wsK_eq (blen_lt n)
def tzK : Nat → Nat → Nat
  | 0, _ => 0
  | k + 1, n => if n = 0 then 0 else if n % 2 = 1 then 0 else tzK k (n / 2) + 1
theorem tzK_eq : ∀ {k n : Nat}, n < 2 ^ k → tzn n = tzK k n
  | 0, n, h => by
    obtain rfl : n = 0 := by simp at h; omega
    unfold tzn tzK; rfl
  | k + 1, n, h => by
    rw [Nat.pow_succ] at h
    unfold tzK; rw [tzn, tzK_eq (k := k) (n := n / 2) (by omega)]
theorem tz_K {n : Int} : tz n = tzK (blen n) n.toNat := by
  unfold tz
  refine tzK_eq ?_
  have h := blen_lt n
  by_cases h0 : 0 ≤ n
  · have : (n.toNat : Int) < ((2 ^ blen n : Nat) : Int) := by rw [Int.toNat_of_nonneg h0]; simpa using h
    exact_mod_cast this
  · rw [Int.toNat_of_nonpos (by omega)]; exact Nat.two_pow_pos _
def mkDK (neg : Bool) (m e : Int) : Dx := if m = 0 then ⟨false, [], 0⟩ else
  let t := tzK (blen m) m.toNat
  let q := m / 2 ^ t
  ⟨neg, wsK (blen q) q, e + t⟩
theorem mkD_K (neg : Bool) (m e : Int) : mkD neg m e = mkDK neg m e := by
  unfold mkD mkDK; rw [tz_K, ws_K]
def oneK (d : Dx) : Dx := mkDK d.neg d.m d.e
theorem oneD_K (d : Dx) : oneD d = oneK d := by unfold oneD oneK; rw [mkD_K]
def mkSK (s e : Int) : Dx := mkDK (decide (s < 0)) (s.natAbs : Int) e
theorem mkS_K (s e : Int) : mkS s e = mkSK s e := by unfold mkS mkSK; rw [mkD_K]
def cutXK (x : Dx) (p : Int) (up : Bool) : Dx :=
  let n := (blen x.m : Int) - p
  if n ≤ 0 then x else mkDK x.neg (x.m / 2 ^ n.toNat + if up == x.neg then 0 else 1) (x.e + n)
theorem cutX_K (x : Dx) (p : Int) (up : Bool) : cutX x p up = cutXK x p up := by unfold cutX cutXK; rw [mkD_K]
def cutK (d : Dx) (p : Int) (up : Bool) : Dx := cutXK (oneK d) p up
theorem cutD_K (x : Dx) (p : Int) (up : Bool) : cutD x p up = cutK x p up := by unfold cutD cutK; rw [cutX_K, oneD_K]
def overXK (x y : Dx) (p : Int) (up : Bool) : Dx :=
  if x.m = 0 then ⟨false, [], 0⟩ else
  let k := max (p + 2 + blen y.m - blen x.m) 0
  let M := x.m * 2 ^ k.toNat
  cutK (mkDK (!(x.neg == y.neg)) (stickyM (M / y.m) (decide (M % y.m ≠ 0))) (x.e - y.e - k - 1)) p up
theorem overX_K (x y : Dx) (p : Int) (up : Bool) : overX x y p up = overXK x y p up := by unfold overX overXK; rw [mkD_K, cutD_K]
def overK (a b : Dx) (p : Int) (up : Bool) : Dx := overXK (oneK a) (oneK b) p up
theorem overD_K (a b : Dx) (p : Int) (up : Bool) : overD a b p up = overK a b p up := by unfold overD overK; rw [overX_K, oneD_K, oneD_K]
def plusXK (x y : Dx) : Dx :=
  if x.m = 0 then y else if y.m = 0 then x else
  let e := min x.e y.e
  mkSK (x.sm * 2 ^ (x.e - e).toNat + y.sm * 2 ^ (y.e - e).toNat) e
theorem plusX_K (x y : Dx) : plusX x y = plusXK x y := by unfold plusX plusXK; rw [mkS_K]
def plusK (a b : Dx) : Dx := plusXK (oneK a) (oneK b)
theorem plusD_K (a b : Dx) : plusD a b = plusK a b := by unfold plusD plusK; rw [plusX_K, oneD_K, oneD_K]
def fitsK (d : Dx) : Bool := decide ((wsK (blen d.m) d.m).length ≤ 1024) && decide (-32768 ≤ d.e) && decide (d.e ≤ 32768)
def rightK (v : Vx) : Bool := fitsK v.lo && (fitsK v.hi && decide (cmpD v.lo v.hi ≤ 0))
theorem great_K (m : Int) : (!greatB m) = decide ((wsK (blen m) m).length ≤ 1024) := by
  unfold greatB; rw [← ws_K]
  by_cases h : (ws m).length ≤ 1024
  · rw [decide_eq_true h, decide_eq_false (by omega)]; rfl
  · rw [decide_eq_false h, decide_eq_true (by omega)]; rfl
theorem fits_K (d : Dx) : d.fitsB = fitsK d := by unfold Dx.fitsB fitsK; rw [great_K]
theorem right_K (v : Vx) : rightV v = rightK v := by unfold rightV rightK; rw [fits_K, fits_K]
def roomK (v : Vx) : Vx × Int := if (fitsK v.lo && fitsK v.hi) = true then (v, 0) else (zeroIv, 3)
theorem room_K (v : Vx) : roomR v = roomK v := by unfold roomR roomK; rw [fits_K, fits_K]
def doK (v u : Vx) (p wrong : Int) (X : Vx) : Vx × Int := whenR (rightK v && (rightK u && (leI 1 p && leI p 8192))) (if neI wrong 0 = true then (zeroIv, wrong) else roomK X)
theorem do_K (v u : Vx) (p wrong : Int) (X : Vx) : doR v u p wrong X = doK v u p wrong X := by unfold doR doK; rw [right_K, right_K, room_K]
def trimK (v : Vx) (p : Int) : Vx := ⟨cutK v.lo p false, cutK v.hi p true⟩
theorem trim_K (v : Vx) (p : Int) : trimV v p = trimK v p := by unfold trimV trimK; rw [cutD_K, cutD_K]
def ivAddK (v u : Vx) (p : Int) : Vx × Int := doK v u p 0 (trimK ⟨plusK v.lo u.lo, plusK v.hi u.hi⟩ p)
theorem ivAdd_K (v u : Vx) (p : Int) : ivAdd v u p = ivAddK v u p := by unfold ivAdd plusV sumV ivAddK; rw [do_K, trim_K, plusD_K, plusD_K]
def quoK (v u : Vx) (p : Int) (up : Bool) : Vx := spanL (overK v.lo u.lo p up) [overK v.lo u.hi p up, overK v.hi u.lo p up, overK v.hi u.hi p up]
theorem quo_K (v u : Vx) (p : Int) (up : Bool) : quoV v u p up = quoK v u p up := by unfold quoV quoK; simp only [overD_K]
def ivDivK (v u : Vx) (p : Int) : Vx × Int := doK v u p (wrongZ u) ⟨(quoK v u p false).lo, (quoK v u p true).hi⟩
theorem ivDiv_K (v u : Vx) (p : Int) : ivDiv v u p = ivDivK v u p := by unfold ivDiv divV ivDivK; rw [do_K, quo_K, quo_K]
def signK (v : Vx) : Int × Bool := if rightK v = true then (if 0 < v.lo.sgn then (1, true) else if v.hi.sgn < 0 then (-1, true) else (0, eqI v.lo.sgn 0 && eqI v.hi.sgn 0)) else (0, false)
theorem sign_K (v : Vx) : signV v = signK v := by unfold signV signK; rw [right_K]
def meetsK (v u : Vx) : Bool := rightK v && (rightK u && (leI (cmpD v.lo u.hi) 0 && leI (cmpD u.lo v.hi) 0))
theorem meets_K (v u : Vx) : meetsV v u = meetsK v u := by unfold meetsV meetsK; rw [right_K, right_K]
theorem beg1 : ivDiv ⟨mkS 1 0, mkS 1 0⟩ ⟨mkS 3 0, mkS 3 0⟩ 2 = (⟨⟨false, [1], -2⟩, ⟨false, [3], -3⟩⟩, 0) := by
  rw [ivDiv_K, mkS_K, mkS_K]; kernel_rfl
theorem beg2 : ivAdd ⟨mkS 1 0, mkS 2 0⟩ ⟨mkS 3 0, mkS 3 0⟩ 2 = (⟨⟨false, [1], 2⟩, ⟨false, [3], 1⟩⟩, 0) := by
  rw [ivAdd_K, mkS_K, mkS_K, mkS_K]; kernel_rfl
theorem beg3 : (⟨mkS 4 0, mkS 6 0⟩ : Vx) = ⟨⟨false, [1], 2⟩, ⟨false, [3], 1⟩⟩ := by
  rw [mkS_K, mkS_K]; kernel_rfl
theorem beg4 : signV ⟨⟨false, [1], 2⟩, ⟨false, [3], 1⟩⟩ = (1, true) := by rw [sign_K]; kernel_rfl
theorem beg5 : meetsV ⟨⟨false, [1], -2⟩, ⟨false, [3], -3⟩⟩ ⟨⟨false, [1], -2⟩, ⟨false, [3], -3⟩⟩ = true := by rw [meets_K]; kernel_rfl
end Go.Proofs.YtmfmneanmamjbaaDoor

namespace Go.Proofs.YtmfmneanmamjbaaDoor
open Go.RowKit
theorem gTurn_ok : SpecOk Tryd.prog 17 gTurn :=
  specKW_ok (envOk tys2_ok sG2_ok) mixed Tryd.func17 rfl (by decide) (by decide) fun (k : Int) _ (v : Vx) _ (u : Vx) _ (n : Int) _ hp => ⟨fun _ => none, 0, by
    obtain ⟨k0, k1⟩ : 0 ≤ k ∧ k ≤ 3 := hp
    have hk : k = 0 ∨ k = 1 ∨ k = 2 ∨ k = 3 := by omega
    show execF _ _ _ _ _ (Qw (turnR k v u n))
    rcases hk with rfl | rfl | rfl | rfl
    · rw [show turnR 0 v u n = ivNeg v from rfl]
      refine (gTurn0_vc v u n _).mpr (br_intro (fun h => when_false (not_true h)) fun h => ⟨⟨(right_sm (not_false' h)).1.eB (by omega), (right_sm (not_false' h)).2.eB (by omega)⟩, when_true (not_false' h)⟩)
    · rw [show turnR 1 v u n = ivScale v n from rfl]
      refine (gTurn1_vc v u n _).mpr (br_intro (fun h => when_false (by rw [not_true h, Bool.and_false])) fun h => br_intro (fun h1 => when_false (by rw [lt_not h1]; rfl)) fun h1 => br_intro (fun h2 => when_false (by rw [lt_not h2, Bool.and_false]; rfl)) fun h2 => ?_)
      have a1 := leI_true.1 (nlt_le h1)
      have a2 := leI_true.1 (nlt_le h2)
      exact ⟨⟨(right_sm (not_false' h)).1.eB (by omega), (right_sm (not_false' h)).2.eB (by omega), by omega, by omega⟩, when_true (by rw [nlt_le h1, nlt_le h2, not_false' h]; rfl)⟩
    · rw [show turnR 2 v u n = ivJoin v u from rfl]
      refine (gTurn2_vc v u n _).mpr (br_intro (fun h => when_false (by rw [not_true h]; rfl)) fun h => br_intro (fun h1 => when_false (by rw [not_true h1, Bool.and_false])) fun h1 => ⟨⟨right_sm (not_false' h), right_sm (not_false' h1)⟩, when_true (by rw [not_false' h, not_false' h1]; rfl)⟩)
    · rw [show turnR 3 v u n = ivCut v n from rfl]
      refine (gTurn3_vc v u n _).mpr (br_intro (fun h => when_false (by rw [not_true h, Bool.and_false])) fun h => br_intro (fun h1 => when_false (by rw [lt_not h1]; rfl)) fun h1 => br_intro (fun h2 => when_false (by rw [lt_not h2, Bool.and_false]; rfl)) fun h2 => ?_)
      have a1 := leI_true.1 (nlt_le h1)
      have a2 := leI_true.1 (nlt_le h2)
      exact ⟨⟨(right_sm (not_false' h)).mono (by omega), by omega, by omega⟩, when_true (by rw [nlt_le h1, nlt_le h2, not_false' h]; rfl)⟩⟩
def sL1 : List (FuncId × Spec) := [(52, fCopy), (17, gTurn)] ++ (sIval ++ sG2)
theorem sL1_ok : SpecsOk Tryd.prog sL1 := ⟨fCopy_ok, gTurn_ok, SpecsOk.app (l := sIval) sIval_ok sG2_ok⟩
def gCopy : Spec := specK [.v] fun (v : Vx) => (none, vT v)
theorem gCopy_vc (v : Vx) (Q : Tv → Prop) : execF ⟨tys2, sL1⟩ (fun _ => none) 0 Tryd.f13 [.agg (ivL false v)] Q = (true = true ∧ Q (Tv.sv (Sv.agg (ivL true v)))) := by kernel_rfl
theorem gCopy_ok : SpecOk Tryd.prog 13 gCopy :=
  specK_ok (envOk tys2_ok sL1_ok) mixed Tryd.func13 rfl (by decide) (by decide) fun (v : Vx) _ _ => ⟨fun _ => none, 0, (gCopy_vc v _).mpr ⟨rfl, rfl⟩⟩
def lTurn : Spec := specK [.i .i64, .v, .v, .i .i64] fun (k : Int) (v : Vx) (u : Vx) (n : Int) => (some (0 ≤ k ∧ k ≤ 3), reT (turnR k v u n))
theorem lTurn0_vc (v u : Vx) (n : Int) (Q : Tv → Prop) : execF ⟨tys2, sL1⟩ (fun _ => none) 0 Tryd.f26 [.one (.int .i64 0), .agg (ivL false v), .agg (ivL false u), .one (.int .i64 n)] Q = (Q (Tv.tup [Sv.agg (ivL false (ivNeg v).fst), Sv.one (At.int IntKind.i64 (ivNeg v).snd)])) := by kernel_rfl
theorem lTurn1_vc (v u : Vx) (n : Int) (Q : Tv → Prop) : execF ⟨tys2, sL1⟩ (fun _ => none) 0 Tryd.f26 [.one (.int .i64 1), .agg (ivL false v), .agg (ivL false u), .one (.int .i64 n)] Q = (Q (Tv.tup [Sv.agg (ivL false (ivScale v n).fst), Sv.one (At.int IntKind.i64 (ivScale v n).snd)])) := by kernel_rfl
theorem lTurn2_vc (v u : Vx) (n : Int) (Q : Tv → Prop) : execF ⟨tys2, sL1⟩ (fun _ => none) 0 Tryd.f26 [.one (.int .i64 2), .agg (ivL false v), .agg (ivL false u), .one (.int .i64 n)] Q = (Q (Tv.tup [Sv.agg (ivL false (ivJoin v u).fst), Sv.one (At.int IntKind.i64 (ivJoin v u).snd)])) := by kernel_rfl
theorem lTurn3_vc (v u : Vx) (n : Int) (Q : Tv → Prop) : execF ⟨tys2, sL1⟩ (fun _ => none) 0 Tryd.f26 [.one (.int .i64 3), .agg (ivL false v), .agg (ivL false u), .one (.int .i64 n)] Q = (Q (Tv.tup [Sv.agg (ivL false (ivCut v n).fst), Sv.one (At.int IntKind.i64 (ivCut v n).snd)])) := by kernel_rfl
theorem lTurn_ok : SpecOk Tryd.prog 26 lTurn :=
  specK_ok (envOk tys2_ok sL1_ok) mixed Tryd.func26 rfl (by decide) (by decide) fun (k : Int) _ (v : Vx) _ (u : Vx) _ (n : Int) _ hp => ⟨fun _ => none, 0, by
    obtain ⟨k0, k1⟩ : 0 ≤ k ∧ k ≤ 3 := hp
    have hk : k = 0 ∨ k = 1 ∨ k = 2 ∨ k = 3 := by omega
    rcases hk with rfl | rfl | rfl | rfl
    · exact (lTurn0_vc v u n _).mpr rfl
    · exact (lTurn1_vc v u n _).mpr rfl
    · exact (lTurn2_vc v u n _).mpr rfl
    · exact (lTurn3_vc v u n _).mpr rfl⟩
def lBeg : Spec := specK [] (none, bT true)
def wI (f : Int → Dx) : Spec := specK [.i .i64] fun (n : Int) => (some (inR n), dT (f n))
def wVV (f : Vx → Vx → Int → Vx × Int) : Spec := specK [.v, .v, .i .i64] fun (v : Vx) (u : Vx) (p : Int) => (none, reT (f v u p))
def wB (f : Vx → Vx → Bool) : Spec := specK [.v, .v] fun (v : Vx) (u : Vx) => (none, bT (f v u))
def wS (f : Vx → Int × Bool) : Spec := specK [.v] fun (v : Vx) => (none, sgT (f v))
def sBeg (fI : Int → Dx) (fD fA : Vx → Vx → Int → Vx × Int) (fS fM : Vx → Vx → Bool) (fG : Vx → Int × Bool) : List (FuncId × Spec) :=
  [(51, wI fI), (44, wVV fD), (14, wVV fA), (18, wB fS), (28, wB fM), (25, wS fG)]
theorem sBeg_ok : SpecsOk Tryd.prog (sBeg (fun n => mkS n 0) ivDiv ivAdd sameV meetsV signV) := ⟨fInt_ok, vXDiv_ok, vXAdd_ok, gSame_ok, vMe_ok, vSi_ok, trivial⟩
theorem lBeg_vc (fI : Int → Dx) (fD fA : Vx → Vx → Int → Vx × Int) (fS fM : Vx → Vx → Bool) (fG : Vx → Int × Bool) (Q : Tv → Prop) : execF ⟨tys2, sBeg fI fD fA fS fM fG⟩ (fun _ => none) 0 Tryd.f12 [] Q = (inR (1 : Int) ∧ inR (1 : Int) ∧ inR (3 : Int) ∧ inR (3 : Int) ∧ inR (1 : Int) ∧ inR (2 : Int) ∧ true = true ∧ br (eqI (fD (Vx.mk (fI (1 : Int)) (fI (1 : Int))) (Vx.mk (fI (3 : Int)) (fI (3 : Int))) (2 : Int)).snd (0 : Int)) (Words [(1 : Int)] ∧ Words [(3 : Int)] ∧ br (fS (fD (Vx.mk (fI (1 : Int)) (fI (1 : Int))) (Vx.mk (fI (3 : Int)) (fI (3 : Int))) (2 : Int)).fst (Vx.mk (Dx.mk false [(1 : Int)] (-2 : Int)) (Dx.mk false [(3 : Int)] (-3 : Int)))) (br (eqI (fA (Vx.mk (fI (1 : Int)) (fI (2 : Int))) (Vx.mk (fI (3 : Int)) (fI (3 : Int))) (2 : Int)).snd (0 : Int)) (inR (4 : Int) ∧ inR (6 : Int) ∧ br (fS (fA (Vx.mk (fI (1 : Int)) (fI (2 : Int))) (Vx.mk (fI (3 : Int)) (fI (3 : Int))) (2 : Int)).fst (Vx.mk (fI (4 : Int)) (fI (6 : Int)))) (br (fG (fA (Vx.mk (fI (1 : Int)) (fI (2 : Int))) (Vx.mk (fI (3 : Int)) (fI (3 : Int))) (2 : Int)).fst).snd (br (eqI (fG (fA (Vx.mk (fI (1 : Int)) (fI (2 : Int))) (Vx.mk (fI (3 : Int)) (fI (3 : Int))) (2 : Int)).fst).fst (1 : Int)) (true = true ∧ Q (Tv.sv (Sv.one (At.bool (fM (fD (Vx.mk (fI (1 : Int)) (fI (1 : Int))) (Vx.mk (fI (3 : Int)) (fI (3 : Int))) (2 : Int)).fst (fD (Vx.mk (fI (1 : Int)) (fI (1 : Int))) (Vx.mk (fI (3 : Int)) (fI (3 : Int))) (2 : Int)).fst))))) (true = true ∧ Q (Tv.sv (Sv.one (At.bool false))))) (true = true ∧ Q (Tv.sv (Sv.one (At.bool false))))) (true = true ∧ Q (Tv.sv (Sv.one (At.bool false))))) (true = true ∧ Q (Tv.sv (Sv.one (At.bool false))))) (true = true ∧ Q (Tv.sv (Sv.one (At.bool false))))) (true = true ∧ Q (Tv.sv (Sv.one (At.bool false))))) := by kernel_rfl
theorem br_t {b : Bool} {p q : Prop} (h : b = true) (hp : p) : br b p q := by subst h; exact hp
theorem lBeg_ok : SpecOk Tryd.prog 12 lBeg :=
  specK_ok (envOk tys2_ok sBeg_ok) mixed Tryd.func12 rfl (by decide) (by decide) fun _ => ⟨fun _ => none, 0, by
    show execF _ _ _ _ _ (fun t => t = bT true)
    refine (lBeg_vc _ _ _ _ _ _ _).mpr ?_
    simp only [beg1, beg2, beg3, beg4, beg5]
    exact ⟨⟨by decide, by decide⟩, ⟨by decide, by decide⟩, ⟨by decide, by decide⟩, ⟨by decide, by decide⟩, ⟨by decide, by decide⟩, ⟨by decide, by decide⟩, trivial, br_t rfl ⟨by simp [Words, Word], by simp [Words, Word], br_t rfl (br_t rfl ⟨⟨by decide, by decide⟩, ⟨by decide, by decide⟩, br_t rfl (br_t rfl (br_t rfl ⟨trivial, trivial⟩))⟩)⟩⟩⟩
def sL2 : List (FuncId × Spec) := [(13, gCopy), (26, lTurn), (12, lBeg)] ++ sL1
theorem sL2_ok : SpecsOk Tryd.prog sL2 := ⟨gCopy_ok, lTurn_ok, lBeg_ok, sL1_ok⟩
def lForms : Spec := specK [.v, .d] fun (_ : Vx) (_ : Dx) => (none, bT true)
theorem lForms_vc (v : Vx) (d : Dx) (Q : Tv → Prop) : execF ⟨tys2, sL2⟩ (fun _ => none) 0 Tryd.f4 [.agg (ivL false v), .agg (dyL false d)] Q = (br (sameV (ivCanon v).fst (ivCanon v).fst) (br (eqI (ivCanon v).snd (ivCanon v).snd) (br (sameV (ivPoint d).fst (Vx.mk (canonD d).fst (canonD d).fst)) (br (eqI (ivPoint d).snd (canonD d).snd) (br (eqI (checkR v) (0 : Int) == rightV v) (br (rightV v) (br (sameV v v) (Q (Tv.sv (Sv.one (At.bool true)))) (Q (Tv.sv (Sv.one (At.bool false))))) (br (eqI (checkR v) (2 : Int)) (br (sameV v v) (Q (Tv.sv (Sv.one (At.bool true)))) (Q (Tv.sv (Sv.one (At.bool false))))) (Q (Tv.sv (Sv.one (At.bool false)))))) (Q (Tv.sv (Sv.one (At.bool false))))) (Q (Tv.sv (Sv.one (At.bool false))))) (Q (Tv.sv (Sv.one (At.bool false))))) (Q (Tv.sv (Sv.one (At.bool false))))) (Q (Tv.sv (Sv.one (At.bool false))))) := by kernel_rfl
def lTurns : Spec := specK [.v, .v, .i .i64] fun (_ : Vx) (_ : Vx) (_ : Int) => (none, bT true)
def wT4 (f : Int → Vx → Vx → Int → Vx × Int) : Spec := specK [.i .i64, .v, .v, .i .i64] fun (k : Int) (v : Vx) (u : Vx) (n : Int) => (some (0 ≤ k ∧ k ≤ 3), reT (f k v u n))
def sTu (fT : Int → Vx → Vx → Int → Vx × Int) (fS : Vx → Vx → Bool) : List (FuncId × Spec) := [(26, wT4 fT), (17, wT4 fT), (18, wB fS), (12, lBeg)]
theorem sTu_ok : SpecsOk Tryd.prog (sTu turnR sameV) := ⟨lTurn_ok, gTurn_ok, gSame_ok, lBeg_ok, trivial⟩
theorem lTurns_vc (fT : Int → Vx → Vx → Int → Vx × Int) (fS : Vx → Vx → Bool) (v u : Vx) (n : Int) (Q : Tv → Prop) : execF ⟨tys2, sTu fT fS⟩ (fun _ => none) 5 Tryd.f6 [.agg (ivL false v), .agg (ivL false u), .one (.int .i64 n)] Q = (((0 : Int) ≤ (0 : Int) ∧ (0 : Int) ≤ (3 : Int)) ∧ ((0 : Int) ≤ (0 : Int) ∧ (0 : Int) ≤ (3 : Int)) ∧ br (!fS (fT (0 : Int) v u n).fst (fT (0 : Int) v u n).fst) (Q (Tv.sv (Sv.one (At.bool false)))) (br (neI (fT (0 : Int) v u n).snd (fT (0 : Int) v u n).snd) (Q (Tv.sv (Sv.one (At.bool false)))) (inR ((0 : Int) + (1 : Int)) ∧ ((0 : Int) ≤ (0 : Int) + (1 : Int) ∧ (0 : Int) + (1 : Int) ≤ (3 : Int)) ∧ ((0 : Int) ≤ (0 : Int) + (1 : Int) ∧ (0 : Int) + (1 : Int) ≤ (3 : Int)) ∧ br (!fS (fT ((0 : Int) + (1 : Int)) v u n).fst (fT ((0 : Int) + (1 : Int)) v u n).fst) (Q (Tv.sv (Sv.one (At.bool false)))) (br (neI (fT ((0 : Int) + (1 : Int)) v u n).snd (fT ((0 : Int) + (1 : Int)) v u n).snd) (Q (Tv.sv (Sv.one (At.bool false)))) (inR ((0 : Int) + (1 : Int) + (1 : Int)) ∧ ((0 : Int) ≤ (0 : Int) + (1 : Int) + (1 : Int) ∧ (0 : Int) + (1 : Int) + (1 : Int) ≤ (3 : Int)) ∧ ((0 : Int) ≤ (0 : Int) + (1 : Int) + (1 : Int) ∧ (0 : Int) + (1 : Int) + (1 : Int) ≤ (3 : Int)) ∧ br (!fS (fT ((0 : Int) + (1 : Int) + (1 : Int)) v u n).fst (fT ((0 : Int) + (1 : Int) + (1 : Int)) v u n).fst) (Q (Tv.sv (Sv.one (At.bool false)))) (br (neI (fT ((0 : Int) + (1 : Int) + (1 : Int)) v u n).snd (fT ((0 : Int) + (1 : Int) + (1 : Int)) v u n).snd) (Q (Tv.sv (Sv.one (At.bool false)))) (inR ((0 : Int) + (1 : Int) + (1 : Int) + (1 : Int)) ∧ ((0 : Int) ≤ (0 : Int) + (1 : Int) + (1 : Int) + (1 : Int) ∧ (0 : Int) + (1 : Int) + (1 : Int) + (1 : Int) ≤ (3 : Int)) ∧ ((0 : Int) ≤ (0 : Int) + (1 : Int) + (1 : Int) + (1 : Int) ∧ (0 : Int) + (1 : Int) + (1 : Int) + (1 : Int) ≤ (3 : Int)) ∧ br (!fS (fT ((0 : Int) + (1 : Int) + (1 : Int) + (1 : Int)) v u n).fst (fT ((0 : Int) + (1 : Int) + (1 : Int) + (1 : Int)) v u n).fst) (Q (Tv.sv (Sv.one (At.bool false)))) (br (neI (fT ((0 : Int) + (1 : Int) + (1 : Int) + (1 : Int)) v u n).snd (fT ((0 : Int) + (1 : Int) + (1 : Int) + (1 : Int)) v u n).snd) (Q (Tv.sv (Sv.one (At.bool false)))) (inR ((0 : Int) + (1 : Int) + (1 : Int) + (1 : Int) + (1 : Int)) ∧ Q (Tv.sv (Sv.one (At.bool true)))))))))))) := by kernel_rfl
def lTells : Spec := specK [.v, .v, .d, .i .i64] fun (_ : Vx) (_ : Vx) (_ : Dx) (_ : Int) => (none, bT true)
theorem lTells_vc (v u : Vx) (d : Dx) (p : Int) (Q : Tv → Prop) : execF ⟨tys2, sL2⟩ (fun _ => none) 0 Tryd.f7 [.agg (ivL false v), .agg (ivL false u), .agg (dyL false d), .one (.int .i64 p)] Q = (br (meetsV v u == meetsV v u) (br (withinV v u == withinV v u) (br (hasV v d == hasV v d) (br (narrowB v p == narrowB v p) (br (eqI (signV v).fst (signV v).fst) (br ((signV v).snd == (signV v).snd) (true = true ∧ Q (Tv.sv (Sv.one (At.bool true)))) (true = true ∧ Q (Tv.sv (Sv.one (At.bool false))))) (true = true ∧ Q (Tv.sv (Sv.one (At.bool false))))) (true = true ∧ Q (Tv.sv (Sv.one (At.bool false))))) (true = true ∧ Q (Tv.sv (Sv.one (At.bool false))))) (true = true ∧ Q (Tv.sv (Sv.one (At.bool false))))) (true = true ∧ Q (Tv.sv (Sv.one (At.bool false))))) := by kernel_rfl
def lNarrow : Spec := specK [.v, .i .i64, .i .i64] fun (_ : Vx) (_ : Int) (_ : Int) => (none, bT true)
theorem lNarrow_vc (v : Vx) (p q : Int) (Q : Tv → Prop) : execF ⟨tys2, sL2⟩ (fun _ => none) 0 Tryd.f5 [.agg (ivL false v), .one (.int .i64 p), .one (.int .i64 q)] Q = (br (ltI p q) (Q (Tv.sv (Sv.one (At.bool true)))) (br (ltI q (0 : Int)) (Q (Tv.sv (Sv.one (At.bool true)))) (br (!narrowB v p) (Q (Tv.sv (Sv.one (At.bool true)))) (br (narrowB v q) (br (signV v).snd (br (leI (-1 : Int) (signV v).fst) (Q (Tv.sv (Sv.one (At.bool (leI (signV v).fst (1 : Int)))))) (Q (Tv.sv (Sv.one (At.bool false))))) (Q (Tv.sv (Sv.one (At.bool false))))) (Q (Tv.sv (Sv.one (At.bool false)))))))) := by kernel_rfl
theorem sameD_refl (d : Dx) : sameD d d = true := by simp [sameD, eqI]
theorem sameV_refl (v : Vx) : sameV v v = true := by rw [sameV, sameD_refl, sameD_refl]; rfl
theorem sameD_iff {a b : Dx} : sameD a b = true ↔ a = b := by
  constructor
  · intro h
    simp [sameD, eqI] at h
    obtain ⟨n, x, e⟩ := a
    obtain ⟨n', x', e'⟩ := b
    simp_all
  · rintro rfl; exact sameD_refl a
theorem sameV_iff {a b : Vx} : sameV a b = true ↔ a = b := by
  constructor
  · intro h
    rw [sameV, Bool.and_eq_true, sameD_iff, sameD_iff] at h
    obtain ⟨x, y⟩ := a
    obtain ⟨x', y'⟩ := b
    simp_all
  · rintro rfl; exact sameV_refl a
theorem eqI_refl (n : Int) : eqI n n = true := eqI_true.2 rfl
theorem neI_refl (n : Int) : neI n n = false := neI_false.2 rfl
theorem br_f {b : Bool} {p q : Prop} (h : b = false) (hp : q) : br b p q := by subst h; exact hp
theorem point_canon (d : Dx) : (ivPoint d).fst = ⟨(canonD d).fst, (canonD d).fst⟩ ∧ (ivPoint d).snd = (canonD d).snd := by
  unfold ivPoint canonD whenR
  by_cases h : d.fitsB = true
  · rw [if_pos h, if_pos h]
    unfold roomR roomD pointV
    by_cases k : (oneD d).fitsB = true
    · rw [if_pos k, if_pos (by rw [k]; rfl)]; exact ⟨rfl, rfl⟩
    · have k' : (oneD d).fitsB = false := by simpa using k
      rw [if_neg k, if_neg (by simp only [k']; simp)]; exact ⟨rfl, rfl⟩
  · rw [if_neg h, if_neg h]; exact ⟨rfl, rfl⟩
theorem lForms_ok : SpecOk Tryd.prog 4 lForms :=
  specK_ok (envOk tys2_ok sL2_ok) mixed Tryd.func4 rfl (by decide) (by decide) fun (v : Vx) _ (d : Dx) _ _ => ⟨fun _ => none, 0, by
    show execF _ _ _ _ _ (fun t => t = bT true)
    obtain ⟨e1, e2⟩ := point_canon d
    refine (lForms_vc v d _).mpr (br_t (sameV_refl _) (br_t (eqI_refl _) (br_t (by rw [e1]; exact sameV_refl _) (br_t (by rw [e2]; exact eqI_refl _) ?_))))
    cases h : rightV v with
    | true => exact br_t (by rw [checkR, if_pos h]; rfl) (br_t rfl (br_t (sameV_refl _) rfl))
    | false => exact br_t (by rw [checkR, if_neg (by rw [h]; simp)]; rfl) (br_f rfl (br_t (by rw [checkR, if_neg (by rw [h]; simp)]; rfl) (br_t (sameV_refl _) rfl)))⟩
theorem not_same {v : Vx} : (!sameV v v) = false := by rw [sameV_refl]; rfl
theorem lTurns_ok : SpecOk Tryd.prog 6 lTurns :=
  specK_ok (envOk tys2_ok sTu_ok) mixed Tryd.func6 rfl (by decide) (by decide) fun (v : Vx) _ (u : Vx) _ (n : Int) _ _ => ⟨fun _ => none, 5, by
    show execF _ _ _ _ _ (fun t => t = bT true)
    refine (lTurns_vc turnR sameV v u n _).mpr ⟨⟨by omega, by omega⟩, ⟨by omega, by omega⟩, br_f not_same (br_f (neI_refl _) ⟨⟨by omega, by omega⟩, ⟨by omega, by omega⟩, ⟨by omega, by omega⟩, br_f not_same (br_f (neI_refl _) ⟨⟨by omega, by omega⟩, ⟨by omega, by omega⟩, ⟨by omega, by omega⟩, br_f not_same (br_f (neI_refl _) ⟨⟨by omega, by omega⟩, ⟨by omega, by omega⟩, ⟨by omega, by omega⟩, br_f not_same (br_f (neI_refl _) ⟨⟨by omega, by omega⟩, rfl⟩)⟩)⟩)⟩)⟩⟩
theorem lTells_ok : SpecOk Tryd.prog 7 lTells :=
  specK_ok (envOk tys2_ok sL2_ok) mixed Tryd.func7 rfl (by decide) (by decide) fun (v : Vx) _ (u : Vx) _ (d : Dx) _ (p : Int) _ _ => ⟨fun _ => none, 0, by
    show execF _ _ _ _ _ (fun t => t = bT true)
    exact (lTells_vc v u d p _).mpr (br_t (beq_self_eq_true _) (br_t (beq_self_eq_true _) (br_t (beq_self_eq_true _) (br_t (beq_self_eq_true _) (br_t (eqI_refl _) (br_t (beq_self_eq_true _) ⟨rfl, rfl⟩))))))⟩
theorem narrow_facts {v : Vx} {p : Int} (hv : v.P) (h : narrowB v p = true) : 0 ≤ p ∧ rightV v = true ∧ v.lo.sgn = v.hi.sgn ∧
    (v.lo.sgn = 0 ∨ (lessD v.hi v.lo).zeroB = true ∨ ((lessD v.hi v.lo).zeroB = false ∧ v.lo.sgn ≠ 0 ∧ p2 (-32768) ≤ (lessD v.hi v.lo).rv ∧ (if v.lo.sgn < 0 then absD v.hi else absD v.lo).rv < p2 98304 ∧ (lessD v.hi v.lo).rv * p2 p ≤ (if v.lo.sgn < 0 then absD v.hi else absD v.lo).rv)) := by
  unfold narrowB at h
  simp only [Bool.and_eq_true] at h
  obtain ⟨p0, hr, hn⟩ := h
  have fv := right_fits hr
  refine ⟨leI_true.1 p0, hr, ?_⟩
  unfold narrowV at hn
  by_cases h1 : v.lo.sgn = v.hi.sgn
  · refine ⟨h1, ?_⟩
    rw [if_neg (by omega)] at hn
    by_cases h2 : v.lo.sgn = 0
    · exact .inl h2
    · rw [if_neg h2] at hn
      cases h3 : (lessD v.hi v.lo).zeroB with
      | true => exact .inr (.inl rfl)
      | false =>
        rw [h3, if_neg (by simp)] at hn
        have hw := wide_ge hv hr h3
        have hl : (if v.lo.sgn < 0 then absD v.hi else absD v.lo).rv < p2 98304 := by
          split
          · rw [rv_abs hv.2]; exact fits_lt fv.2.1
          · rw [rv_abs hv.1]; exact fits_lt fv.1
        refine .inr (.inr ⟨rfl, h2, hw, hl, ?_⟩)
        rw [narrowX_eq lessD_p (by split <;> exact absD_p) hw hl, decide_eq_true_eq] at hn
        exact hn
  · rw [if_pos h1] at hn; simp at hn
theorem narrow_less {v : Vx} {p q : Int} (hv : v.P) (h : narrowB v p = true) (q0 : 0 ≤ q) (hq : q ≤ p) : narrowB v q = true := by
  obtain ⟨p0, hr, hs, hc⟩ := narrow_facts hv h
  unfold narrowB
  rw [show leI 0 q = true from leI_true.2 q0, hr]
  unfold narrowV
  rw [if_neg (by omega)]
  rcases hc with h2 | h2 | ⟨h2, h3, hw, hl, hn⟩
  · rw [if_pos h2]; rfl
  · rw [h2]; simp
  · rw [if_neg h3, h2, if_neg (by simp), narrowX_eq lessD_p (by split <;> exact absD_p) hw hl]
    have k := p2_le hq
    have w0 : 0 ≤ (lessD v.hi v.lo).rv := by have := p2_pos (-32768); grind
    have := Rat.mul_le_mul_of_nonneg_left k w0
    rw [decide_eq_true (by grind)]; rfl
theorem signV_eq {v : Vx} (hr : rightV v = true) (hs : v.lo.sgn = v.hi.sgn) : signV v = (v.lo.sgn, true) := by
  rw [signV, if_pos hr, ← hs]
  rcases sgn_cases (d := v.lo) with a | a | a <;> rw [a] <;> rfl
theorem lNarrow_ok : SpecOk Tryd.prog 5 lNarrow :=
  specK_ok (envOk tys2_ok sL2_ok) mixed Tryd.func5 rfl (by decide) (by decide) fun (v : Vx) hv (p : Int) _ (q : Int) _ _ => ⟨fun _ => none, 0, by
    have hv := Vx.Wf.p hv
    show execF _ _ _ _ _ (fun t => t = bT true)
    refine (lNarrow_vc v p q _).mpr (br_intro (fun _ => rfl) fun h1 => br_intro (fun _ => rfl) fun h2 => br_intro (fun _ => rfl) fun h3 => ?_)
    have h1 := ltI_false.1 h1
    have h2 := ltI_false.1 h2
    have h3 := not_false' h3
    obtain ⟨p0, hr, hs, _⟩ := narrow_facts hv h3
    rw [signV_eq hr hs]
    refine br_t (narrow_less hv h3 (by omega) (by omega)) (br_t rfl ?_)
    rcases sgn_cases (d := v.lo) with a | a | a <;> rw [a] <;> exact br_t (by decide) rfl⟩
end Go.Proofs.YtmfmneanmamjbaaDoor

namespace Go.Proofs.YtmfmneanmamjbaaDoor
open Go.RowKit Go.ChangeShapes Go.WideShapes Go.Deep
set_option maxRecDepth 100000
def C0 (W : World) : Base := ⟨W.heap.size, fun _ => False⟩
section
variable {H : Type} {enc : TypeId × Value → H} {W : World} {base fuel : Nat} {s : Value} {x : DataW H × List MemPlace}
theorem open_words (hv : Cell.okWide Tryd.prog W .any base 23 s) (h : DataW.trod enc Tryd.prog W 0 (fun _ => true) true fuel 23 [s] = some x)
    (hw : (x.1.weights Tryd.prog 23).all (· ≤ reachBytes) = true) (hlt : ∀ p ∈ x.2, p.block < W.heap.size) : ∃ xs, Rep (C0 W) noBox W s (.words false xs) := by
  rcases open_ints Tryd.underlying23 Tryd.underlying36 (by kernel_rfl) h with ⟨e, rfl⟩ | ⟨a, len, cap, zs, e, _, hl, hm, hz, rfl, hc, hwf⟩
  · cases e
    exact ⟨[], .words ⟨none, 0, rfl, Nat.le_refl _, ⟨by omega, by simp⟩, Words.nil, fun _ => rfl, fun h => absurd h (by simp)⟩⟩
  · cases e
    rw [if_pos rfl] at hz
    obtain ⟨_, _, _, hspot, _⟩ : len ≤ cap ∧ (cap : Int) ≤ IntKind.i64.max ∧ W.has Tryd.prog .any base a 36 cap := by
      simpa [Cell.okWide, Cell.ok, Tryd.underlying23] using hv
    obtain ⟨g, o, spot⟩ := a
    simp only at hspot; subst hspot
    have hb8 : Tryd.prog.bytesOf 36 = 8 := by kernel_rfl
    have hwt : (len + (cap - len)) * 8 ≤ reachBytes := by
      simp only [DataW.weights, Tryd.underlying23, List.all_cons, Bool.and_eq_true, decide_eq_true_eq, lits, List.length_map, List.length_take, List.length_drop, hz, hb8] at hw
      have := hw.1
      rwa [Nat.min_eq_left hl] at this
    have hr : reachBytes = 140737488351232 := rfl
    rw [hr] at hwt
    have hwords : Words zs := fun n hn => by
      have := hwf n hn
      simp only [Lit.wf, Bool.and_eq_true, decide_eq_true_eq] at this
      have h1 : IntKind.u64.min = 0 := rfl
      have h2 : IntKind.u64.max = 18446744073709551615 := rfl
      rw [h1, h2] at this
      exact ⟨by omega, by omega⟩
    have hlen : (zs.take len).length = len := by rw [List.length_take]; omega
    refine ⟨zs.take len, .words ⟨_, cap, by rw [hlen], by omega, ⟨by simp [maxLen] at hm; omega, by omega⟩, hwords.take _, by simp, fun hp => ⟨g, o, rfl, ⟨⟨by simp [noBox], fun hx => hx.elim⟩, by simp⟩, ?_, fun j hj => ?_⟩⟩⟩
    · exact World.block_lt_of_cell? W _ (hc 0 (by omega))
    · have hj : j < len := by omega
      have := hc j (by omega)
      rw [nth_take hj]
      rw [show (⟨g, o, none⟩ : Addr).add j = ⟨g, o + j, none⟩ from by simp [Addr.add]] at this
      exact this
theorem open_dy {cs : List Value} (hok : ∀ c, cs[1]? = some c → Cell.okWide Tryd.prog W .any base 23 c) (h : DataW.trod enc Tryd.prog W 0 (fun _ => true) true fuel 25 cs = some x)
    (hw : (x.1.weights Tryd.prog 25).all (· ≤ reachBytes) = true) (hlt : ∀ p ∈ x.2, p.block < W.heap.size) : ∃ d : Dx, RepL (C0 W) noBox W cs (dyL false d) := by
  obtain ⟨y0, y1, y2, n, rfl, hl, h0, h1, h2⟩ := trod_struct3 Tryd.underlying25 h
  rw [show Tryd.prog.cellsOf 25 = 3 by kernel_rfl] at hl
  match cs, hl with
  | [c0, c1, c2], _ =>
    obtain ⟨b, e0, rfl⟩ := DataW.trod_bool Tryd.underlying4 h0
    obtain ⟨k, e2, rfl, hk⟩ := DataW.trod_int Tryd.underlying3 h2
    rw [show Tryd.prog.cellsOf 4 = 1 by kernel_rfl] at e0
    rw [show Tryd.prog.cellsOf 3 = 1 by kernel_rfl] at e2
    simp at e0 e2
    subst e0; subst e2
    simp only [show Tryd.prog.cellsOf 23 = 1 by kernel_rfl] at h1
    simp only [DataW.weights, Tryd.underlying25, DataW.weightsEach, List.map_cons, List.map_nil, List.all_append, Bool.and_eq_true] at hw
    obtain ⟨xs, hxs⟩ := open_words (hok c1 rfl) (by simpa using h1) hw.2.1 (fun p hp => hlt p (by simp [hp]))
    exact ⟨⟨b, xs, k⟩, Rep.bool b, hxs, Rep.int _ k, trivial⟩
theorem arg_d {v : Value} {d : DataW H} {ps : List MemPlace} (hv : Value.okWide Tryd.prog W .any base 25 v) (h : DataW.Trod enc Tryd.prog W 0 (fun _ => true) true 25 v d ps)
    (hw : (d.weights Tryd.prog 25).all (· ≤ reachBytes) = true) (hlt : ∀ p ∈ ps, p.block < W.heap.size) : ∃ x : Dx, RepS (C0 W) noBox W v (.agg (dyL false x)) := by
  simp only [Value.okWide, Tryd.underlying25] at hv
  obtain ⟨cs, rfl, hsz, ts, hts, _, hrow⟩ := hv
  rw [show Tryd.prog.cellTypes Tryd.prog.depth 25 = some [4, 23, 3] by kernel_rfl] at hts
  cases hts
  obtain ⟨fuel, h⟩ := h
  obtain ⟨x, hx⟩ := open_dy (x := (d, ps)) (base := base) (fun c hc => by
    obtain ⟨u, hu, hok⟩ := hrow 1 c (by rw [← Array.getElem?_toList]; exact hc)
    cases hu; exact hok) h hw hlt
  exact ⟨x, cs.toList, rfl, hx⟩
theorem arg_v {v : Value} {d : DataW H} {ps : List MemPlace} (hv : Value.okWide Tryd.prog W .any base 27 v) (h : DataW.Trod enc Tryd.prog W 0 (fun _ => true) true 27 v d ps)
    (hw : (d.weights Tryd.prog 27).all (· ≤ reachBytes) = true) (hlt : ∀ p ∈ ps, p.block < W.heap.size) : ∃ x : Vx, RepS (C0 W) noBox W v (.agg (ivL false x)) := by
  simp only [Value.okWide, Tryd.underlying27] at hv
  obtain ⟨cs, rfl, hsz, ts, hts, _, hrow⟩ := hv
  rw [show Tryd.prog.cellTypes Tryd.prog.depth 27 = some [4, 23, 3, 4, 23, 3] by kernel_rfl] at hts
  cases hts
  rw [show Tryd.prog.cellsOf 27 = 6 by kernel_rfl] at hsz
  obtain ⟨fuel, h⟩ := h
  obtain ⟨cs⟩ := cs
  match cs, hsz with
  | [c0, c1, c2, c3, c4, c5], _ =>
    obtain ⟨y0, y1, n, e, _, h0, h1⟩ := trod_struct2 Tryd.underlying27 h
    cases e
    simp only [show Tryd.prog.cellsOf 25 = 3 by kernel_rfl] at h0 h1
    simp only [DataW.weights, Tryd.underlying27, DataW.weightsEach, List.map_cons, List.map_nil, List.all_append, Bool.and_eq_true] at hw
    obtain ⟨x, hx⟩ := open_dy (cs := [c0, c1, c2]) (base := base) (fun c hc => by
      obtain ⟨u, hu, hok⟩ := hrow 1 c hc
      cases hu; exact hok) h0 hw.1 (fun p hp => hlt p (by simp [hp]))
    obtain ⟨y, hy⟩ := open_dy (cs := [c3, c4, c5]) (base := base) (fun c hc => by
      obtain ⟨u, hu, hok⟩ := hrow 4 c hc
      cases hu; exact hok) h1 hw.2.1 (fun p hp => hlt p (by simp [hp]))
    obtain ⟨a1, a2, a3, _⟩ := hx
    obtain ⟨b1, b2, b3, _⟩ := hy
    exact ⟨⟨x, y⟩, [c0, c1, c2, c3, c4, c5], rfl, a1, a2, a3, b1, b2, b3, trivial⟩
/-- A kind of argument and its type. -/
def Kd : Ak → TypeId → Prop
  | .b, t => t = 4
  | .i q, t => Tryd.prog.underlying t = some (.int q)
  | .w, _ => False
  | .d, t => t = 25
  | .v, t => t = 27
def Kds : List Ak → List TypeId → Prop
  | [], [] => True
  | k :: ks, t :: ts => Kd k t ∧ Kds ks ts
  | _, _ => False
/-- A number that its kind can hold. -/
def okArg : (k : Ak) → k.T → Prop
  | .i q, n => q.min ≤ n ∧ n ≤ q.max
  | _, _ => True
theorem arg_k {k : Ak} {t : TypeId} (hk : Kd k t) {v : Value} {d : DataW H} {ps : List MemPlace} (hv : Value.okWide Tryd.prog W .any base t v) (h : DataW.Trod enc Tryd.prog W 0 (fun _ => true) true t v d ps)
    (hw : (d.weights Tryd.prog t).all (· ≤ reachBytes) = true) (hlt : ∀ p ∈ ps, p.block < W.heap.size) : ∃ x : k.T, RepS (C0 W) noBox W v (k.enc x) ∧ okArg k x := by
  cases k with
  | b =>
    obtain rfl : t = 4 := hk
    obtain ⟨b, rfl⟩ := okWide_bool Tryd.underlying4 hv
    exact ⟨b, Rep.bool b, trivial⟩
  | i q =>
    obtain ⟨n, rfl⟩ := okWide_int hk hv
    refine ⟨n, Rep.int q n, (show q.min ≤ n ∧ n ≤ q.max from ?_)⟩
    have hk : Tryd.prog.underlying t = some (.int q) := hk
    simpa [Value.okWide, Cell.okWide, Cell.ok, hk, IntKind.has] using hv
  | w => exact hk.elim
  | d =>
    obtain rfl : t = 25 := hk
    obtain ⟨x, hx⟩ := arg_d hv h hw hlt; exact ⟨x, hx, trivial⟩
  | v =>
    obtain rfl : t = 27 := hk
    obtain ⟨x, hx⟩ := arg_v hv h hw hlt; exact ⟨x, hx, trivial⟩
theorem dec_enc (k : Ak) (x : k.T) : k.dec (k.enc x) = some x := by
  cases k with
  | i q => cases q <;> rfl
  | _ => rfl
/-- Whatever the arguments, the answer is true. -/
def AllTrue : (ks : List Ak) → AFun ks → Prop
  | [], g => (match g.1 with | none => True | some p => p) ∧ g.2 = .sv (.one (.bool true))
  | k :: ks, g => ∀ x : k.T, okArg k x → AllTrue ks (g x)
theorem args_ok : ∀ {ks : List Ak} {ts : List TypeId} {vs : List Value} {ds : List (DataW H)} {ps : List MemPlace}, Kds ks ts → (∀ (j : Nat) t v, ts[j]? = some t → vs[j]? = some v → Value.okWide Tryd.prog W .any base t v) →
    DataW.TrodAll enc Tryd.prog W 0 (fun _ => true) true ts vs ds ps → (DataW.weightsEach Tryd.prog ts ds).all (· ≤ reachBytes) = true → (∀ p ∈ ps, p.block < W.heap.size) →
    ∃ l, RepSs (C0 W) noBox W vs l ∧ ∀ g, AllTrue ks g → (match (specK ks g l).1 with | none => True | some p => p) ∧ (specK ks g l).2 = .sv (.one (.bool true))
  | [], [], vs, ds, ps, _, _, h, _, _ => by
    obtain ⟨rfl, rfl, rfl⟩ := trodAll_nil h
    exact ⟨[], trivial, fun g hg => hg⟩
  | [], _ :: _, _, _, _, hk, _, _, _, _ => hk.elim
  | _ :: _, [], _, _, _, hk, _, _, _, _ => hk.elim
  | k :: ks, t :: ts, vs, ds, ps, hk, hv, h, hw, hlt => by
    obtain ⟨v, vs1, d, ds1, a, b, rfl, rfl, rfl, h1, h2⟩ := trodAll_cons h
    simp only [DataW.weightsEach, List.all_append, Bool.and_eq_true] at hw
    obtain ⟨x, hx, hox⟩ := arg_k hk.1 (hv 0 t v rfl rfl) h1 hw.1 (fun p hp => hlt p (by simp [hp]))
    obtain ⟨l, hl, hs⟩ := args_ok hk.2 (fun j t v ht hv' => hv (j + 1) t v ht hv') h2 hw.2 (fun p hp => hlt p (by simp [hp]))
    refine ⟨k.enc x :: l, ⟨hx, hl⟩, fun g hg => ?_⟩
    have e : specK (k :: ks) g (k.enc x :: l) = (match k.dec (k.enc x) with | some x => specK ks (g x) l | none => noSpec) := rfl
    rw [e, dec_enc]
    exact hs (g x) (hg x hox)
theorem law_calls {f : FuncId} {ks : List Ak} {g : AFun ks} (hs : SpecOk Tryd.prog f (specK ks g)) (hg : AllTrue ks g) {ts : List TypeId} {args : Array Value} {ds : List (DataW H)} {ps : List MemPlace} (hT : Tab W) (hk : Kds ks ts)
    (hv : ∀ (j : Nat) t v, ts[j]? = some t → args.toList[j]? = some v → Value.okWide Tryd.prog W .any base t v) (h : DataW.TrodAll enc Tryd.prog W 0 (fun _ => true) true ts args.toList ds ps)
    (hw : (DataW.weightsEach Tryd.prog ts ds).all (· ≤ reachBytes) = true) (hlt : ∀ p ∈ ps, p.block < W.heap.size) :
    Calls Tryd.prog f args W fun e W' => e = .returned (.bool true) ∧ Below W.heap.size W W' := by
  obtain ⟨l, hl, hsp⟩ := args_ok hk hv h hw hlt
  have := hs.2 (C0 W) W args.toList l rfl (fun g hg => hg.elim) hT hl (hsp g hg).1
  rw [(hsp g hg).2] at this
  refine this.mono ?_
  rintro e w' ⟨v, rfl, hr, hb⟩
  obtain rfl := rep_bool (A := noBox) hr
  exact ⟨rfl, hb⟩
theorem trodAll_below {W' : World} (hb : Below W.heap.size W W') (hl : laidOutB Tryd.prog = true) : ∀ {ts : List TypeId} {vs : List Value} {ds : List (DataW H)} {ps : List MemPlace}, (∀ t ∈ ts, Tryd.prog.readableRec t = true ∧ t < Tryd.prog.types.size) →
    DataW.TrodAll enc Tryd.prog W 0 (fun _ => true) true ts vs ds ps → (∀ p ∈ ps, p.block < W.heap.size) → DataW.TrodAll enc Tryd.prog W' 0 (fun b => decide (b < W.heap.size)) true ts vs ds ps
  | [], vs, ds, ps, _, h, _ => by
    obtain ⟨rfl, rfl, rfl⟩ := trodAll_nil h
    exact trodAll_mk0
  | t :: ts, vs, ds, ps, ht, h, hlt => by
    obtain ⟨v, vs1, d, ds1, a, b, rfl, rfl, rfl, h1, h2⟩ := trodAll_cons h
    exact ⟨a, b, Below.trod hl (ht t (by simp)).1 (ht t (by simp)).2 h1 hb (fun p hp => hlt p (by simp [hp])), trodAll_below hb hl (fun t h => ht t (by simp [h])) h2 (fun p hp => hlt p (by simp [hp])), rfl⟩
/-- What a law's call leaves, as its row asks. -/
theorem law_post {fn : Func} {s : ChangeSpec} (hl : laidOutB Tryd.prog = true) (hres : fn.resultTypes = #[4]) (hvars : s.vars = []) (ht : ∀ t ∈ fn.params.toList, Tryd.prog.readableRec t = true ∧ t < Tryd.prog.types.size)
    {args : Array Value} {ds gs : List (DataW H)} {before : List MemPlace} (hspec : s.fn H (ds ++ gs) = { results := [.lit (.bool true)], args := ds })
    (hW : DataW.Whole enc Tryd.prog fn.params.toList s.vars false W args.toList ds gs before) {W' : World} (hb : Below W.heap.size W W') :
    s.post enc Tryd.prog fn false true false false W args (.bool true) W' := by
  have hlt := hW.lt
  have hW' := hW
  obtain ⟨p, q, hA, hV, rfl, hfz, hnd⟩ := hW
  rw [hvars] at hV
  obtain ⟨rfl, rfl⟩ := trodVars_none hV
  refine ⟨ds, [], _, [], p, [], hW', ?_, ?_, ?_, hb.frame _, fun h => by cases h⟩
  · rw [hspec, hres]
    exact trodAll_mk1 (shut_bool Tryd.underlying4 _)
  · rw [hspec]
    exact trodAll_below hb hl ht hA (fun x hx => hlt x (by simp [hx]))
  · rw [hspec, hvars]; rfl
end
theorem law_contract {H : Type} {enc : TypeId × Value → H} {f : FuncId} {fn : Func} {ks : List Ak} {g : AFun ks} {s : ChangeSpec} (hs : SpecOk Tryd.prog f (specK ks g)) (hg : AllTrue ks g) (hl : laidOutB Tryd.prog = true) (hres : fn.resultTypes = #[4]) (hvars : s.vars = [])
    (hvt : s.plain.varTypes Tryd.prog = []) (ht : ∀ t ∈ fn.params.toList, Tryd.prog.readableRec t = true ∧ t < Tryd.prog.types.size) (hk : Kds ks fn.params.toList) (hspec : ∀ ds : List (DataW H), ds.length = fn.params.toList.length → s.fn H ds = { results := [.lit (.bool true)], args := ds })
    {W : World} {base : Nat} {args : Array Value} {ds gs : List (DataW H)} {before : List MemPlace} (hval : ∀ (j : Nat) t v, fn.params[j]? = some t → args[j]? = some v → Value.okWide Tryd.prog W .any base t v)
    (hW : DataW.Whole enc Tryd.prog fn.params.toList s.vars false W args.toList ds gs before) (hw : (DataW.weightsEach Tryd.prog (fn.params.toList ++ s.plain.varTypes Tryd.prog) (ds ++ gs)).all (· ≤ reachBytes) = true) (hT : Tab W) :
    Calls Tryd.prog f args W fun e W' => ∃ v, e = .returned v ∧ s.post enc Tryd.prog fn false true false false W args v W' := by
  have hlt := hW.lt
  have hW' := hW
  obtain ⟨p, q, hA, hV, rfl, hfz, hnd⟩ := hW
  rw [hvars] at hV
  obtain ⟨rfl, rfl⟩ := trodVars_none hV
  rw [hvt, List.append_nil, List.append_nil] at hw
  refine (law_calls hs hg hT hk (fun j t v h1 h2 => hval j t v (by rw [← Array.getElem?_toList]; exact h1) (by rw [← Array.getElem?_toList]; exact h2)) hA hw (fun x hx => hlt x (by simp [hx]))).mono ?_
  rintro e W' ⟨rfl, hb⟩
  exact ⟨_, rfl, law_post hl hres hvars ht (by rw [List.append_nil]; exact hspec ds (trodAll_length hA).2) hW' hb⟩
/-- The table's cells, out of the row's condition. -/
theorem tab_of {W : World} {D : DataW Unit} (hD : ∀ ys : List (DataW Unit × List MemPlace), D = .agg (ys.map (·.1)) → ∀ j, j < 64 → ∃ y, ys[j]? = some y ∧ y.1 = .lit (.int .u8 (Lib.deBruijn64tab.getD j 0))) (hh : D.handleName?.isNone = true)
    (h : laidMetH Tryd.prog [("math/bits.deBruijn64tab", D)] W) : Tab W := by
  rw [MakeChecks.laidMetH_plain _ _ _ (by simp [hh])] at h
  obtain ⟨ps, ⟨g0, t0, cs0, f0, p0, q0, hg0, ht0, hv0, hd0, _⟩, _, _⟩ := h
  obtain rfl := Option.some.inj ((show Tryd.prog.globalNamed "math/bits.deBruijn64tab" = some 0 by kernel_rfl).symm.trans hg0)
  obtain rfl := Option.some.inj ((show (Tryd.prog.globals[0]?).map (·.type) = some 113 by kernel_rfl).symm.trans ht0)
  obtain ⟨xs, m1, _, hx1, hlen, hn3, hel⟩ := DataW.trod_array Tryd.underlying113 hd0
  intro j hj
  simp only [Prod.mk.injEq] at hx1
  obtain ⟨y, hy, hy1⟩ := hD xs hx1.1 j hj
  have hj' := hel j hj
  rw [hy, show Tryd.prog.cellsOf 5 = 1 by kernel_rfl] at hj'
  obtain ⟨k, e1, e2, _⟩ := DataW.trod_int Tryd.underlying5 hj'
  have hk : k = Lib.deBruijn64tab.getD j 0 := by
    rw [e2] at hy1; simpa using hy1
  subst hk
  have := World.var?_cell hg0 hv0 j
  rw [this]
  rw [Nat.mul_one] at e1
  have e3 : (cs0.toList.drop j)[0]? = some (.int .u8 (Lib.deBruijn64tab.getD j 0)) := by
    have : ((cs0.toList.drop j).take 1)[0]? = some (.int .u8 (Lib.deBruijn64tab.getD j 0)) := by rw [e1]; rfl
    rwa [List.getElem?_take, if_pos (by omega)] at this
  rw [List.getElem?_drop, Nat.add_zero] at e3
  simpa using e3
end Go.Proofs.YtmfmneanmamjbaaDoor

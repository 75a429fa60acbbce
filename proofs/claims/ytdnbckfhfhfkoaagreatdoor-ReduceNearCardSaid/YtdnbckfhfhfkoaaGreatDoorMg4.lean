/-
Package consts: the table, what it encloses: pi.
Right angles taken away: plain.
Dyadic numbers: how low their last bit lies, how high their first. Plain.
Package reduce.
Package reduce: Turns, Scale, Split.
Package ulpref09: pi; ulpref14: pi.
Package ulpref14.
When right angles are told apart: plain.
The reckoning again, so that the kernel can do it: the same functions by recursion on a number of rounds.
Package ulplaw14.
Package ulplaw13: the words.
Answers of sines and cosines against the document's. Plain.
Package ulplaw13: the answers that the document gives; SincoreEncloses.
Sine and cosine: the circle, the mirror, bounds. Plain.
Package ulplaw14: ReduceOdd.
Package ulplaw14: ReduceBack, ReduceNear.
Package ulplaw14: ReduceNear.
From the arguments of a row to numbers and intervals; what a law's call leaves.
-/
import Derived.Test.YtdnbckfhfhfkoaaGreatDoorMg3
import Derived.Test.YtdnbckfhfhfkoaaGreatDoorMg2
import Derived.ProofKit
import Derived.LaidMore
import Derived.OpenShut
import Derived.LaidLaws
import Derived.Carry
import Derived.OpenVars
import Derived.Deep.Strs
import Derived.ChangeCalls
import Derived.Stop.Joined
namespace Go.Proofs.YtdnbckfhfhfkoaaGreatDoor
open Go.RowKit
def tyKn : TyRow := ⟨98, 2, true, [.lit .nilFunc, .bool false], .struct [(0, 1, false), (1, 1, false)]⟩
def tyKn8 : TyRow := ⟨99, 16, true, [.lit .nilFunc, .bool false, .lit .nilFunc, .bool false, .lit .nilFunc, .bool false, .lit .nilFunc, .bool false, .lit .nilFunc, .bool false, .lit .nilFunc, .bool false, .lit .nilFunc, .bool false, .lit .nilFunc, .bool false], .array 8 2 true⟩
def tyFn : TyRow := ⟨96, 1, false, [.lit .nilFunc], .func⟩
def tys5 : List TyRow := tyKn8 :: tyKn :: tyFn :: tys4
theorem tys5_ok : RowsOk Tryz.prog tys5 := ⟨by kernel_rfl, by kernel_rfl, by kernel_rfl, tys4_ok⟩
def tabL : List At := [.lit .nilFunc, .bool false, .fn 134 [], .bool false, .fn 135 [], .bool false, .fn 136 [], .bool false, .fn 137 [], .bool false, .fn 134 [], .bool true, .fn 135 [], .bool true, .fn 136 [], .bool true]
def cTable : Spec := specK [] (none, .sv (.agg tabL))
theorem cTable_vc  (Q : Tv → Prop) : execF ⟨tys5, []⟩ (fun _ => none) 0 Tryz.f106 [] Q = (Q (Tv.sv (Sv.agg [At.lit Value.nilFunc, At.bool false, At.fn 134 [], At.bool false, At.fn 135 [], At.bool false, At.fn 136 [], At.bool false, At.fn 137 [], At.bool false, At.fn 134 [], At.bool true, At.fn 135 [], At.bool true, At.fn 136 [], At.bool true]))) := by kernel_rfl
theorem cTable_ok : SpecOk Tryz.prog 106 cTable :=
  specK_ok (envOk (S := []) tys5_ok trivial) mixed Tryz.func106 rfl (by decide) (by decide) fun _ => ⟨fun _ => none, 0, by
    show execF _ _ _ _ _ (fun t => t = .sv (.agg tabL))
    exact (cTable_vc _).mpr rfl⟩
def sEc (tb : List At) (pr : Int → Prop) (fP : Int → Fx) (rf : Fx → Int → Vx) : List (FuncId × Spec) := [(106, specK [] (none, .sv (.agg tb))), (134, specK [.i .i64] fun (w : Int) => (some (pr w), fxT (fP w))), (107, specK [.fx, .i .i64] fun (x : Fw) (q : Int) => (some (x.Ok ∧ 0 ≤ q ∧ q ≤ 16777216), vT (rf x.f q)))]
theorem sEc_ok : SpecsOk Tryz.prog (sEc tabL (fun w => 32 ≤ w ∧ w ≤ 65536) piF ivF) := ⟨cTable_ok, cPi_ok, seIval_ok, trivial⟩
theorem cEnc_vc (p : Int) (pr : Int → Prop) (fP : Int → Fx) (rf : Fx → Int → Vx) (Q : Tv → Prop) : execF ⟨tys5, sEc tabL pr fP rf⟩ (fun _ => none) 0 Tryz.f72 [.one (.int .u8 1), .one (.int .i64 p)] Q = (inR (p + (64 : Int)) ∧ ((0 : Int) ≤ (1 : Int) ∧ (1 : Int) < (↑(8 : Nat) : Int)) ∧ pr (p + (64 : Int)) ∧ (Fw.Ok (fw (fP (p + (64 : Int)))) ∧ (0 : Int) ≤ p + (64 : Int) ∧ p + (64 : Int) ≤ (16777216 : Int)) ∧ Q (Tv.sv (Sv.agg (ivL true (rf (Fw.f (fw (fP (p + (64 : Int))))) (p + (64 : Int))))))) := by kernel_rfl
theorem piF_ok {w : Int} (w0 : 32 ≤ w) (w1 : w ≤ 65536) : (piF w).Ok := by
  obtain ⟨a0, e0, e1, a1⟩ := piF_e w0 w1
  have b : blen (piF w).a ≤ w.toNat + 5 + 1 := blen_pow_le (by
    rw [show (2 : Int) ^ (w.toNat + 5) = 2 ^ w.toNat * 32 by rw [Int.pow_add]; rfl]; omega)
  exact ⟨a0, by omega, e0, by omega⟩
def cEnc : Spec := specK [.i .u8, .i .i64] fun (k : Int) (p : Int) => (some (k = 1 ∧ 8 ≤ p ∧ p ≤ 65000), vT (encPi p))
theorem cEnc_ok : SpecOk Tryz.prog 72 cEnc :=
  specK_ok (envOk tys5_ok sEc_ok) mixed Tryz.func72 rfl (by decide) (by decide) fun (k : Int) _ (p : Int) _ hp => ⟨fun _ => none, 0, by
    obtain ⟨rfl, p0, p1⟩ : k = 1 ∧ 8 ≤ p ∧ p ≤ 65000 := hp
    show execF _ _ _ _ _ (fun t => t = vT (encPi p))
    have o := piF_ok (w := p + 64) (by omega) (by omega)
    refine (cEnc_vc p (fun w => 32 ≤ w ∧ w ≤ 65536) piF ivF _).mpr ⟨⟨by omega, by omega⟩, ⟨by omega, by omega⟩, ⟨by omega, by omega⟩, ⟨o.w, by omega, by omega⟩, ?_⟩
    rw [fw_f o.1]; rfl⟩
def sCo (pr : Int → Prop) (en : Int → Vx) (cu : Vx → Int → Vx × Int) : List (FuncId × Spec) := [(72, specK [.i .u8, .i .i64] fun (k : Int) (p : Int) => (some (k = 1 ∧ pr p), vT (en p))), (73, rTrim), (74, specK [.v, .i .i64] fun (v : Vx) (p : Int) => (none, reT (cu v p)))]
theorem cIs_vc (k : Int) (Q : Tv → Prop) : execF ⟨tys5, []⟩ (fun _ => none) 0 Tryz.f71 [.one (.int .u8 k)] Q = (br (ltI (0 : Int) k) (Q (bT (ltI k (8 : Int)))) (Q (bT false))) := by kernel_rfl
def cIs : Spec := specK [.i .u8] fun (k : Int) => (none, bT (ltI 0 k && ltI k 8))
theorem cIs_ok : SpecOk Tryz.prog 71 cIs :=
  specK_ok (envOk (S := []) tys5_ok trivial) mixed Tryz.func71 rfl (by decide) (by decide) fun (k : Int) _ _ => ⟨fun _ => none, 0, by
    show execF _ _ _ _ _ (fun t => t = bT (ltI 0 k && ltI k 8))
    refine (cIs_vc k _).mpr (br_intro (fun h => ?_) fun h => ?_)
    · rw [h]; rfl
    · rw [h]; rfl⟩
theorem cConst_vc (p : Int) (pr : Int → Prop) (en : Int → Vx) (cu : Vx → Int → Vx × Int) (Q : Tv → Prop) : execF ⟨tys5, (71, cIs) :: sCo pr en cu⟩ (fun _ => none) 0 Tryz.f27 [.one (.int .u8 1), .one (.int .i64 p)] Q = (br (ltI p (8 : Int)) (Q (Tv.tup [Sv.agg [At.bool false, At.words true [], At.int .i64 0, At.bool false, At.words true [], At.int .i64 0], Sv.one (At.int .i64 2)])) (br (ltI (8192 : Int) p) (Q (Tv.tup [Sv.agg [At.bool false, At.words true [], At.int .i64 0, At.bool false, At.words true [], At.int .i64 0], Sv.one (At.int .i64 2)])) (((1 : Int) = (1 : Int) ∧ pr p) ∧ inR (p + (8 : Int)) ∧ br (ltI (8192 : Int) (p + (8 : Int))) (inR (p + (8 : Int)) ∧ (Vx.Sm (34359738368 : Nat) (en p) ∧ (0 : Int) ≤ p + (8 : Int) ∧ p + (8 : Int) ≤ (1099511627776 : Int)) ∧ Q (Tv.tup [Sv.agg (ivL true (trimV (en p) (p + (8 : Int)))), Sv.one (At.int .i64 0)])) (inR (p + (8 : Int)) ∧ Q (Tv.tup [Sv.agg (ivL false (cu (en p) (p + (8 : Int))).fst), Sv.one (At.int .i64 (cu (en p) (p + (8 : Int))).snd)]))))) := by kernel_rfl
def constR (p : Int) : Vx × Int := if 8 ≤ p ∧ p ≤ 8192 then (constPi p, 0) else (zeroIv, 2)
def cConst : Spec := specK [.i .u8, .i .i64] fun (k : Int) (p : Int) => (some (k = 1), reT (constR p))
theorem sCo_ok : SpecsOk Tryz.prog ((71, cIs) :: sCo (fun p => 8 ≤ p ∧ p ≤ 65000) encPi ivCut) := ⟨cIs_ok, cEnc_ok, rTrim_ok, vXCut_ok, trivial⟩
theorem cConst_ok : SpecOk Tryz.prog 27 cConst :=
  specKW_ok (envOk tys5_ok sCo_ok) mixed Tryz.func27 rfl (by decide) (by decide) fun (k : Int) _ (p : Int) _ hp => ⟨fun _ => none, 0, by
    obtain rfl : k = 1 := hp
    show execF _ _ _ _ _ (fun t => t = reT (constR p) ∨ fgT t = reT (constR p))
    refine (cConst_vc p (fun p => 8 ≤ p ∧ p ≤ 65000) encPi ivCut _).mpr (br_intro (fun h1 => .inr ?_) fun h1 => br_intro (fun h2 => .inr ?_) fun h2 => ?_)
    · rw [constR, if_neg (by have := ltI_true.1 h1; omega)]; rfl
    · rw [constR, if_neg (by have := ltI_true.1 h2; omega)]; rfl
    · have h1 := ltI_false.1 h1
      have h2 := ltI_false.1 h2
      refine ⟨⟨rfl, by omega, by omega⟩, ⟨by omega, by omega⟩, br_intro (fun h3 => ⟨⟨by omega, by omega⟩, ⟨(right_sm (encPi_right (p := p) (by omega) (by omega))).mono (by omega), by omega, by omega⟩, .inr ?_⟩) fun h3 => ⟨⟨by omega, by omega⟩, .inl ?_⟩⟩
      · rw [constR, if_pos ⟨by omega, by omega⟩]; rfl
      · rw [constR, if_pos ⟨by omega, by omega⟩, constPi_cut (by omega) (by have := ltI_false.1 h3; omega)]; rfl⟩
end Go.Proofs.YtdnbckfhfhfkoaaGreatDoor

namespace Go.Proofs.YtdnbckfhfhfkoaaGreatDoor
open Go.RowKit
/-- An enclosure of half of pi, at most d wide. -/
structure HfIv (d : Rat) (h : Vx) : Prop where
  p : h.P
  enc : Enc piS (2 * h.lo.rv) (2 * h.hi.rv)
  lo : 3 / 2 ≤ h.lo.rv
  hi : h.hi.rv ≤ 2
  nar : h.hi.rv ≤ h.lo.rv + d
theorem HfIv.le {d : Rat} {h : Vx} (k : HfIv d h) : h.lo.rv ≤ h.hi.rv := by have := k.enc.self; grind
theorem HfIv.off {d : Rat} {h : Vx} (k : HfIv d h) : Off0 h := .inl (by have := k.lo; grind)
theorem p2_m1 : p2 (-1) = 1 / 2 := by decide +kernel
theorem PiIv.half {d : Rat} {v : Vx} (h : PiIv d v) : HfIv (d / 2) (scaleV v (-1)) := by
  have r1 : (scaleV v (-1)).lo.rv = v.lo.rv * (1 / 2) := by rw [← p2_m1]; exact rv_shift h.p.1
  have r2 : (scaleV v (-1)).hi.rv = v.hi.rv * (1 / 2) := by rw [← p2_m1]; exact rv_shift h.p.2
  have l := h.lo
  have k := h.hi
  have n := h.nar
  have e1 : 2 * (scaleV v (-1)).lo.rv = v.lo.rv := by rw [r1]; grind
  have e2 : 2 * (scaleV v (-1)).hi.rv = v.hi.rv := by rw [r2]; grind
  exact ⟨⟨shiftD_p, shiftD_p⟩, by rw [e1, e2]; exact h.enc, by grind, by grind, by grind⟩
/-- Two of them have a number in common. -/
theorem HfIv.common {d d' : Rat} {u v : Vx} (h : HfIv d u) (k : HfIv d' v) : ∃ c : Rat, InV u c ∧ InV v c ∧ 3 / 2 ≤ c ∧ c ≤ 2 := by
  have m1 := h.enc.meets k.enc
  have m2 := k.enc.meets h.enc
  have l1 := h.le
  have l2 := k.le
  have a1 := h.lo
  have a2 := k.lo
  have b1 := h.hi
  have b2 := k.hi
  rcases (show u.lo.rv ≤ v.lo.rv ∨ v.lo.rv ≤ u.lo.rv by grind) with c | c
  · exact ⟨v.lo.rv, ⟨c, by grind⟩, ⟨by grind, l2⟩, a2, by grind⟩
  · exact ⟨u.lo.rv, ⟨by grind, l1⟩, ⟨c, by grind⟩, a1, by grind⟩
/-! ### The parts of a try. -/
def quoW (h : Vx) (x : Dx) (w : Int) : Vx := divV (pointV x) h w
def nW (h : Vx) (x : Dx) (w : Int) : Dx := nearD (quoW h x w).lo
def restW (h : Vx) (x : Dx) (w : Int) : Vx := lessV (pointV x) (timesV (pointV (nW h x w)) h (w + 64)) w
def sureW (h : Vx) (x : Dx) (w : Int) : Bool := eqI (cmpD (nW h x w) (nearD (quoW h x w).hi)) 0
def nI (h : Vx) (x : Dx) (w : Int) : Int := wholeS (nW h x w)
def tryW (h : Vx) (x : Dx) (p w : Int) : Int × Vx × Bool := if sureW h x w = true then (by4I (nW h x w), restW h x w, narrowV (restW h x w) p) else (0, zeroIv, false)
theorem pointV_in {x : Dx} (hx : 0 ≤ x.m) : InV (pointV x) x.rv := ⟨by show (oneD x).rv ≤ _; rw [rv_one hx]; exact Rat.le_refl, by show _ ≤ (oneD x).rv; rw [rv_one hx]; exact Rat.le_refl⟩
theorem pointV_rv {x : Dx} (hx : 0 ≤ x.m) : (pointV x).lo.rv = x.rv ∧ (pointV x).hi.rv = x.rv := ⟨rv_one hx, rv_one hx⟩
section
variable {d : Rat} {h : Vx} (k : HfIv d h) {x : Dx} (hx : 0 ≤ x.m) {w : Int} (hw : 1 ≤ w)
include k hx hw
theorem quoW_in {c : Rat} (hc : InV h c) : InV (quoW h x w) (x.rv * c⁻¹) := div_in (pointV_p x) k.p k.off hw (pointV_in hx) hc
omit k hx hw in
theorem nW_near : NearI (nI h x w) (quoW h x w).lo.rv := nearD_whole (divV_p _ _ _).1
theorem sure_near (hs : sureW h x w = true) {c : Rat} (hc : InV h c) : NearI (nI h x w) (x.rv * c⁻¹) := by
  have n1 := nW_near (h := h) (x := x) (w := w)
  have n2 := nearD_whole (d := (quoW h x w).hi) (divV_p _ _ _).2
  have e : wholeS (nW h x w) = wholeS (nearD (quoW h x w).hi) := nearD_eq.1 (cmpD_eq0.1 (eqI_true.1 hs))
  have e' : nI h x w = wholeS (nearD (quoW h x w).hi) := e
  rw [← e'] at n2
  obtain ⟨a, b⟩ := quoW_in k hx hw hc
  obtain ⟨a1, a2, a3⟩ := n1
  obtain ⟨b1, b2, b3⟩ := n2
  refine ⟨by grind, by grind, fun h => ?_⟩
  rcases h with h | h
  · exact a3 (.inl (by grind))
  · exact b3 (.inr (by grind))
theorem rest_in {c : Rat} (hc : InV h c) : InV (restW h x w) (x.rv - (nI h x w : Rat) * c) := by
  have en : (nW h x w).rv = (nI h x w : Rat) := (wholeS_rv nearD_e).symm
  have np : 0 ≤ (nW h x w).m := nearD_p
  obtain ⟨a1, a2⟩ := prod_in (pointV_p (nW h x w)) k.p (pointV_in np) hc
  rw [en] at a1 a2
  obtain ⟨t1, t2⟩ := times_best (v := pointV (nW h x w)) (u := h) (p := w + 64) (by omega) (pointV_p _) k.p
  have t1' := t1.2.1
  have t2' := t2.2.1
  obtain ⟨l1, l2⟩ := less_best (v := pointV x) (u := timesV (pointV (nW h x w)) h (w + 64)) (pointV_p x) (trimV_p _ _) hw
  obtain ⟨p1, p2⟩ := pointV_rv hx
  have l1' := l1.2.1
  have l2' := l2.2.1
  constructor
  · show (restW h x w).lo.rv ≤ _
    have : (restW h x w).lo.rv ≤ (pointV x).lo.rv - (timesV (pointV (nW h x w)) h (w + 64)).hi.rv := l1'
    grind
  · show _ ≤ (restW h x w).hi.rv
    have : (pointV x).hi.rv - (timesV (pointV (nW h x w)) h (w + 64)).lo.rv ≤ (restW h x w).hi.rv := l2'
    grind
end
theorem by4_mod {h : Vx} {x : Dx} {w : Int} : by4I (nW h x w) = nI h x w % 4 := rfl
/-! ### Sizes. -/
theorem rp_p2 {p : Int} (k : Int) (hp : 1 ≤ p) : Rp p (p2 k) ∧ Rp p (-(p2 k)) := by
  have e1 : ((1 : Int) : Rat) = 1 := rfl
  have a := p2_le hp
  have b := p2_pos p
  rw [p2_one] at a
  have h : Rp p (p2 k) := ⟨1, k, by rw [e1, Rat.one_mul], by rw [e1]; grind, by rw [e1]; grind⟩
  exact ⟨h, h.neg⟩
theorem inv_le1 {c : Rat} (h : 3 / 2 ≤ c) : 0 < c⁻¹ ∧ c⁻¹ ≤ 2 / 3 := by
  have hc : 0 < c := by grind
  have p := Rat.inv_pos.2 hc
  have e := Rat.inv_mul_cancel c (by grind)
  have m := Rat.mul_le_mul_of_nonneg_left h (Rat.le_of_lt p)
  exact ⟨p, by grind⟩
theorem quoW_bd {d : Rat} {h : Vx} (k : HfIv d h) {x : Dx} (hx : 0 ≤ x.m) {w : Int} (hw : 1 ≤ w) {K : Int} (h1 : x.rv < p2 K) (h2 : -(p2 K) < x.rv) :
    -(p2 K) ≤ (quoW h x w).lo.rv ∧ (quoW h x w).lo.rv ≤ p2 K ∧ -(p2 K) ≤ (quoW h x w).hi.rv ∧ (quoW h x w).hi.rv ≤ p2 K := by
  obtain ⟨⟨a, b, hc, e1⟩, ⟨a', b', hc', e2⟩⟩ := div_at (pointV x) h w
  obtain ⟨p1, p2'⟩ := pointV_rv hx
  have ra : ∀ {a b : Dx}, Cor (pointV x) h a b → a.rv = x.rv ∧ 3 / 2 ≤ b.rv := fun {a b} hc => by
    have l := k.lo
    have le := k.le
    rcases hc.1 with e | e <;> rcases hc.2 with e' | e' <;> rw [e, e'] <;> exact ⟨by first | exact p1 | exact p2', by grind⟩
  have bd : ∀ {a b : Dx}, Cor (pointV x) h a b → -(p2 K) ≤ a.rv * b.rv⁻¹ ∧ a.rv * b.rv⁻¹ ≤ p2 K := fun {a b} hc => by
    obtain ⟨r1, r2⟩ := ra hc
    obtain ⟨i0, i1⟩ := inv_le1 r2
    rw [r1]
    have q := p2_pos K
    rcases (show 0 ≤ x.rv ∨ x.rv ≤ 0 by grind) with s | s
    · have m1 := Rat.mul_le_mul_of_nonneg_left (show b.rv⁻¹ ≤ 1 by grind) s
      have m0 := Rat.mul_nonneg s (Rat.le_of_lt i0)
      constructor <;> grind
    · have m1 := Rat.mul_le_mul_of_nonneg_left (show b.rv⁻¹ ≤ 1 by grind) (show 0 ≤ -x.rv by grind)
      have m0 := Rat.mul_nonneg (show 0 ≤ -x.rv by grind) (Rat.le_of_lt i0)
      constructor <;> grind
  obtain ⟨rp1, rp2⟩ := rp_p2 (p := w) K hw
  have c1 := (hc.best (pointV_p x) k.p k.off k.le hw).2.1
  have c2 := (hc'.best (pointV_p x) k.p k.off k.le hw).2.2
  have b1 := bd hc
  have b2 := bd hc'
  have l1 := c1.2.2 _ rp2 b1.1
  have l2 := c2.2.2 _ rp1 b2.2
  have u1 := c1.2.1
  have u2 := c2.2.1
  show _ ≤ (divV (pointV x) h w).lo.rv ∧ (divV (pointV x) h w).lo.rv ≤ _ ∧ _ ≤ (divV (pointV x) h w).hi.rv ∧ (divV (pointV x) h w).hi.rv ≤ _
  rw [e1, e2]
  exact ⟨l1, by grind, by grind, l2⟩
theorem whole_sm {z : Dx} (f : OneF z) (e0 : 0 ≤ z.e) {K : Nat} (h : (z.m : Rat) * p2 z.e < p2 K) : z.Sm K := by
  have m0 := f.p
  by_cases hz : z.m = 0
  · rw [f.zero hz]; exact ⟨by show blen (val []) ≤ K; rw [show val [] = 0 from rfl]; exact Nat.zero_le _, by show -(K : Int) ≤ 0; omega, by show (0 : Int) ≤ K; omega⟩
  · have g := amt_ge (m := z.m) (e := z.e) (by omega)
    have := p2_lt_iff.1 (show p2 (z.e + (blen z.m : Int) - 1) < p2 K by grind)
    have b := blen_pos (show 0 < z.m by omega)
    exact ⟨by omega, by omega, by omega⟩
theorem nW_sm {d : Rat} {h : Vx} (k : HfIv d h) {x : Dx} (hx : 0 ≤ x.m) {w : Int} (hw : 1 ≤ w) {K : Nat} (h1 : x.rv < p2 K) (h2 : -(p2 K) < x.rv) : (nW h x w).Sm (K + 1) := by
  obtain ⟨b1, b2, _, _⟩ := quoW_bd k hx hw h1 h2
  obtain ⟨n1, n2, _⟩ := nW_near (h := h) (x := x) (w := w)
  have en : (nW h x w).rv = (nI h x w : Rat) := (wholeS_rv nearD_e).symm
  rw [← en] at n1 n2
  have f : OneF (nW h x w) := nearD_f
  refine whole_sm f nearD_e ?_
  have q0 : 1 ≤ p2 (K : Int) := by
    have := p2_le (show (0 : Int) ≤ K by omega)
    rwa [p2_zero] at this
  have q1 : p2 ((K + 1 : Nat) : Int) = 2 * p2 K := by
    rw [show ((K + 1 : Nat) : Int) = 1 + (K : Int) by omega, p2_add, p2_one]
  obtain ⟨r1, r2⟩ := rv_amt f.p
  rw [q1]
  rcases (show 0 ≤ (nW h x w).rv ∨ (nW h x w).rv ≤ 0 by grind) with s | s
  · rw [← r1 s]; grind
  · rw [← r2 s]; grind
theorem quoW_sm {h : Vx} {x : Dx} {w : Int} {N : Nat} (hx : 0 ≤ x.m) (hp : h.P) (sx : x.Sm N) (sh : h.Sm (N + N)) (w0 : 0 ≤ w) (w1 : w ≤ N) : (quoW h x w).Sm (200 * N + 100) := by
  have z := pointV_sm hx sx
  have o : ∀ {a b : Dx} {up : Bool}, Cor (pointV x) h a b → (overD a b w up).Sm (200 * N + 100) := fun {a b up} hc => by
    have ha : 0 ≤ a.m ∧ a.Sm (N + N) := by rcases hc.1 with e | e <;> rw [e] <;> exact ⟨oneD_p, z.1⟩
    have hb : 0 ≤ b.m ∧ b.Sm (N + N) := by rcases hc.2 with e | e <;> rw [e]; exact ⟨hp.1, sh.1⟩; exact ⟨hp.2, sh.2⟩
    exact (overD_sm (up := up) ha.1 hb.1 ha.2 hb.2 w0 (by omega)).mono (by omega)
  obtain ⟨⟨a, b, hc, e1⟩, ⟨a', b', hc', e2⟩⟩ := div_at (pointV x) h w
  constructor
  · show (divV (pointV x) h w).lo.Sm _
    rw [e1]; exact o hc
  · show (divV (pointV x) h w).hi.Sm _
    rw [e2]; exact o hc'
end Go.Proofs.YtdnbckfhfhfkoaaGreatDoor

namespace Go.Proofs.YtdnbckfhfhfkoaaGreatDoor
open Go.RowKit
structure Dx.Bd (L T : Int) (d : Dx) : Prop where
  l0 : 0 ≤ L
  t0 : 0 ≤ T
  lo : -L ≤ d.e
  hi : d.e + blen d.m ≤ T
theorem Dx.Bd.mono {L T L' T' : Int} {d : Dx} (h : d.Bd L T) (hl : L ≤ L') (ht : T ≤ T') : d.Bd L' T' := by
  obtain ⟨a, b, c, e⟩ := h
  exact ⟨by omega, by omega, by omega, by omega⟩
theorem Dx.Bd.sm {L T : Int} {d : Dx} (h : d.Bd L T) {N : Nat} (hn : L + T ≤ N) : d.Sm N := by
  obtain ⟨a, b, c, e⟩ := h
  exact ⟨by omega, by omega, by omega⟩
theorem mkD_bd {neg : Bool} {m e L T : Int} (h : 0 ≤ m) (l0 : 0 ≤ L) (t0 : 0 ≤ T) (hl : -L ≤ e) (ht : e + blen m ≤ T) : (mkD neg m e).Bd L T := by
  by_cases hz : m = 0
  · subst hz; rw [mkD_zero]
    exact ⟨l0, t0, by show -L ≤ 0; omega, by show (0 : Int) + blen (val []) ≤ T; rw [show blen (val []) = 0 from rfl]; omega⟩
  · have hp : 0 < m := by omega
    have hm := mkD_m (neg := neg) (e := e) h
    have he : (mkD neg m e).e = e + tz m := by unfold mkD; rw [if_neg hz]
    obtain ⟨q, hq, hq2⟩ := tz_spec hp
    have p := two_pow_pos (tz m)
    generalize tz m = t at *
    have hdiv : m / 2 ^ t = 2 * q + 1 := by rw [hq2, Int.mul_ediv_cancel_left _ (by omega)]
    have hb : blen m = blen (2 * q + 1) + t := by
      rw [hq2, Int.mul_comm]
      exact blen_mul_pow (by omega) _
    refine ⟨l0, t0, by rw [he]; omega, ?_⟩
    rw [he, hm, hdiv]; omega
theorem mkS_bd {s e L T : Int} (l0 : 0 ≤ L) (t0 : 0 ≤ T) (hl : -L ≤ e) (ht : e + blen (s.natAbs : Int) ≤ T) : (mkS s e).Bd L T := mkD_bd (by omega) l0 t0 hl ht
theorem Dx.Bd.one {L T : Int} {d : Dx} (hd : 0 ≤ d.m) (h : d.Bd L T) : (oneD d).Bd L T := mkD_bd hd h.l0 h.t0 h.lo h.hi
theorem Dx.Bd.neg {L T : Int} {d : Dx} (hd : 0 ≤ d.m) (h : d.Bd L T) : (negD d).Bd L T := mkD_bd hd h.l0 h.t0 h.lo h.hi
theorem Dx.Bd.shift {L T n L' T' : Int} {d : Dx} (hd : 0 ≤ d.m) (h : d.Bd L T) (l0 : 0 ≤ L') (t0 : 0 ≤ T') (hl : L - n ≤ L') (ht : T + n ≤ T') : (shiftD d n).Bd L' T' :=
  mkD_bd hd l0 t0 (by have := h.lo; omega) (by have := h.hi; omega)
theorem Dx.Bd.times {L T L' T' : Int} {a b : Dx} (ha : 0 ≤ a.m) (hb : 0 ≤ b.m) (h : a.Bd L T) (k : b.Bd L' T') : (timesD a b).Bd (L + L') (T + T') := by
  have := blen_mul ha hb
  obtain ⟨a1, a2, a3, a4⟩ := h
  obtain ⟨b1, b2, b3, b4⟩ := k
  exact mkD_bd (Int.mul_nonneg ha hb) (by omega) (by omega) (by omega) (by omega)
theorem blen_scl {d : Dx} (hd : 0 ≤ d.m) (k : Nat) : (blen ((d.sm * 2 ^ k).natAbs : Int) : Int) ≤ blen d.m + k := by
  rw [sm_abs hd]
  by_cases h : d.m = 0
  · rw [h, Int.zero_mul]; show ((0 : Nat) : Int) ≤ _; omega
  · rw [blen_mul_pow (by omega)]; omega
theorem Dx.Bd.plusX {L T : Int} {a b : Dx} (ha : 0 ≤ a.m) (hb : 0 ≤ b.m) (h : a.Bd L T) (k : b.Bd L T) : (plusX a b).Bd L (T + 1) := by
  obtain ⟨l0, t0, a1, a2⟩ := h
  obtain ⟨_, _, b1, b2⟩ := k
  unfold Go.Proofs.YtdnbckfhfhfkoaaGreatDoor.plusX
  split
  · exact ⟨l0, by omega, b1, by omega⟩
  · split
    · exact ⟨l0, by omega, a1, by omega⟩
    · have c1 := blen_scl ha (a.e - min a.e b.e).toNat
      have c2 := blen_scl hb (b.e - min a.e b.e).toNat
      obtain ⟨N, hN⟩ : ∃ N : Nat, (N : Int) = max (T - min a.e b.e) 0 := ⟨(max (T - min a.e b.e) 0).toNat, by omega⟩
      have d := blen_natAbs_add (X := a.sm * 2 ^ (a.e - min a.e b.e).toNat) (Y := b.sm * 2 ^ (b.e - min a.e b.e).toNat) (N := N) (by omega) (by omega)
      refine mkS_bd l0 (by omega) (by omega) ?_
      omega
theorem Dx.Bd.plus {L T : Int} {a b : Dx} (ha : 0 ≤ a.m) (hb : 0 ≤ b.m) (h : a.Bd L T) (k : b.Bd L T) : (plusD a b).Bd L (T + 1) := Dx.Bd.plusX oneD_p oneD_p (h.one ha) (k.one hb)
theorem Dx.Bd.less {L T : Int} {a b : Dx} (ha : 0 ≤ a.m) (hb : 0 ≤ b.m) (h : a.Bd L T) (k : b.Bd L T) : (lessD a b).Bd L (T + 1) := h.plus ha negD_p (k.neg hb)
theorem Dx.Bd.cut {L T : Int} {d : Dx} {p : Int} {up : Bool} (hd : 0 ≤ d.m) (hp : 0 ≤ p) (h : d.Bd L T) : (cutD d p up).Bd L (T + 1) := by
  have m0 := oneD_p (d := d)
  obtain ⟨l0, t0, a1, a2⟩ := h.one hd
  unfold cutD cutX
  split
  · exact ⟨l0, by omega, a1, by omega⟩
  · rename_i hn
    have p0 := two_pow_pos ((blen (oneD d).m : Int) - p).toNat
    have q0 : 0 ≤ (oneD d).m / 2 ^ ((blen (oneD d).m : Int) - p).toNat := Int.ediv_nonneg m0 (by omega)
    have hb : (blen ((oneD d).m / 2 ^ ((blen (oneD d).m : Int) - p).toNat + if up == (oneD d).neg then 0 else 1) : Int) ≤ max (blen (oneD d).m - ((blen (oneD d).m : Int) - p)) 0 + 1 := by
      obtain ⟨N, hN⟩ : ∃ N : Nat, (N : Int) = max (blen (oneD d).m - ((blen (oneD d).m : Int) - p)) 0 := ⟨(max (blen (oneD d).m - ((blen (oneD d).m : Int) - p)) 0).toNat, by omega⟩
      have q1 : (oneD d).m / 2 ^ ((blen (oneD d).m : Int) - p).toNat < 2 ^ N := by
        refine Int.ediv_lt_of_lt_mul p0 ?_
        rw [← Int.pow_add]
        exact Int.lt_of_lt_of_le (blen_lt _) (two_pow_le (by omega))
      have : blen ((oneD d).m / 2 ^ ((blen (oneD d).m : Int) - p).toNat + if up == (oneD d).neg then 0 else 1) ≤ N + 1 := blen_le (by
        rw [Int.pow_succ]; have := two_pow_pos N; split <;> omega)
      omega
    refine mkD_bd (by split <;> omega) l0 (by omega) (by omega) ?_
    omega
/-- Intervals. -/
def Vx.Bd (L T : Int) (v : Vx) : Prop := v.lo.Bd L T ∧ v.hi.Bd L T
theorem Vx.Bd.sm {L T : Int} {v : Vx} (h : v.Bd L T) {N : Nat} (hn : L + T ≤ N) : v.Sm N := ⟨h.1.sm hn, h.2.sm hn⟩
theorem Vx.Bd.mono {L T L' T' : Int} {v : Vx} (h : v.Bd L T) (hl : L ≤ L') (ht : T ≤ T') : v.Bd L' T' := ⟨h.1.mono hl ht, h.2.mono hl ht⟩
theorem Vx.Bd.trim {L T : Int} {v : Vx} {p : Int} (hv : v.P) (hp : 0 ≤ p) (h : v.Bd L T) : (trimV v p).Bd L (T + 1) := ⟨h.1.cut hv.1 hp, h.2.cut hv.2 hp⟩
theorem Dx.Bd.point {L T : Int} {d : Dx} (hd : 0 ≤ d.m) (h : d.Bd L T) : (pointV d).Bd L T := ⟨h.one hd, h.one hd⟩
theorem Vx.Bd.turn {L T : Int} {v : Vx} (hv : v.P) (h : v.Bd L T) : (turnV v).Bd L T := ⟨h.2.neg hv.2, h.1.neg hv.1⟩
theorem Vx.Bd.plus {L T : Int} {v u : Vx} {p : Int} (hv : v.P) (hu : u.P) (hp : 0 ≤ p) (h : v.Bd L T) (k : u.Bd L T) : (plusV v u p).Bd L (T + 1 + 1) := Vx.Bd.trim (v := sumV v u) ⟨plusD_p, plusD_p⟩ hp ⟨h.1.plus hv.1 hu.1 k.1, h.2.plus hv.2 hu.2 k.2⟩
theorem Vx.Bd.less {L T : Int} {v u : Vx} {p : Int} (hv : v.P) (hu : u.P) (hp : 0 ≤ p) (h : v.Bd L T) (k : u.Bd L T) : (lessV v u p).Bd L (T + 1 + 1) := h.plus (u := turnV u) hv ⟨negD_p, negD_p⟩ hp (k.turn hu)
theorem spanS_bd {L T : Int} {v : Vx} {d : Dx} (h : v.Bd L T) (k : d.Bd L T) : (spanS v d).Bd L T := by
  unfold spanS
  constructor
  · show (if cmpD d v.lo < 0 then d else v.lo).Bd L T
    split
    · exact k
    · exact h.1
  · show (if 0 < cmpD d v.hi then d else v.hi).Bd L T
    split
    · exact k
    · exact h.2
theorem Vx.Bd.times {L T L' T' : Int} {v u : Vx} {p : Int} (hv : v.P) (hu : u.P) (hp : 0 ≤ p) (h : v.Bd L T) (k : u.Bd L' T') : (timesV v u p).Bd (L + L') (T + T' + 1) :=
  Vx.Bd.trim (prodV_p v u) hp (spanS_bd (spanS_bd (spanS_bd ⟨h.1.times hv.1 hu.1 k.1, h.1.times hv.1 hu.1 k.1⟩ (h.1.times hv.1 hu.2 k.2)) (h.2.times hv.2 hu.1 k.1)) (h.2.times hv.2 hu.2 k.2))
theorem fits_bd {d : Dx} (h : d.fitsB = true) : d.Bd 32768 98304 := by
  have e := fits_e h
  have := (fits_sm h).1
  exact ⟨by omega, by omega, by omega, by omega⟩
end Go.Proofs.YtdnbckfhfhfkoaaGreatDoor

namespace Go.Proofs.YtdnbckfhfhfkoaaGreatDoor
open Go.RowKit
def tyFI : TyRow := ⟨60, 1, false, [.lit .nilFunc], .func⟩
def tys6 : List TyRow := tyFI :: tys5
theorem tys6_ok : RowsOk Tryz.prog tys6 := ⟨by kernel_rfl, tys5_ok⟩
def qPiW (co : Int → Vx × Int) : Spec := specK [.i .i64] fun (w : Int) => (none, reT (co w))
def sQp (co : Int → Vx × Int) : List (FuncId × Spec) := [(27, specK [.i .u8, .i .i64] fun (k : Int) (p : Int) => (some (k = 1), reT (co p)))]
theorem sQp_ok : SpecsOk Tryz.prog (sQp constR) := ⟨cConst_ok, trivial⟩
theorem qPi_vc (w : Int) (co : Int → Vx × Int) (Q : Tv → Prop) : execF ⟨tys6, sQp co⟩ (fun _ => none) 0 Tryz.f48 [.one (.int .i64 w)] Q = ((1 : Int) = (1 : Int) ∧ Q (Tv.tup [Sv.agg (ivL false (co w).fst), Sv.one (At.int .i64 (co w).snd)])) := by kernel_rfl
theorem qPi_ok : SpecOk Tryz.prog 48 (qPiW constR) :=
  specK_ok (envOk tys6_ok sQp_ok) mixed Tryz.func48 rfl (by decide) (by decide) fun (w : Int) _ _ => ⟨fun _ => none, 0, (qPi_vc w constR _).mpr ⟨rfl, rfl⟩⟩
def sRed : List (FuncId × Spec) := [(62, rNear), (65, rBy4), (84, rInt)] ++ sRaw8
theorem sRed_ok : SpecsOk Tryz.prog sRed := ⟨rNear_ok, rBy4_ok, rInt_ok, sRaw8_ok⟩
def halfP (w : Int) : Vx := scaleV (constPi w) (-1)
theorem halfP_hf {w : Int} (w0 : 8 ≤ w) (w1 : w ≤ 65000) : HfIv (p2 (-3 - w) / 2) (halfP w) := (constPi_iv w0 w1).half
theorem blen32 {a w : Int} (w0 : 0 ≤ w) (h : a < 64 * 2 ^ w.toNat) : (blen a : Int) ≤ w + 6 := by
  have : blen a ≤ w.toNat + 6 := blen_le (by rw [Int.pow_add]; have : (2 : Int) ^ 6 = 64 := by decide
                                             rw [this]; omega)
  omega
theorem pow_ge {w : Int} (w0 : 64 ≤ w) (w1 : w ≤ 65536) : 80 * w + 320 ≤ 2 ^ w.toNat := by
  obtain ⟨k, hk⟩ : ∃ k : Nat, w = k + 32 := ⟨(w - 32).toNat, by omega⟩
  have pb := pow_big k
  rw [show w.toNat = k + 32 by omega]; omega
theorem ivF_bd {z : Fx} {w : Int} (w0 : 64 ≤ w) (w1 : w ≤ 65536) (a0 : 0 ≤ z.a) (e0 : 0 ≤ z.e) (e1 : z.e ≤ 80 * w + 320) (a1 : z.a ≤ 32 * 2 ^ w.toNat) : (ivF z w).Bd w 7 := by
  have g := pow_ge w0 w1
  have b1 := blen32 (a := z.a) (w := w) (by omega) (by omega)
  have b2 := blen32 (a := z.a + z.e) (w := w) (by omega) (by omega)
  exact ⟨mkD_bd a0 (by omega) (by omega) (by omega) (by omega), mkD_bd (by omega) (by omega) (by omega) (by omega) (by omega)⟩
theorem Vx.Bd.scale1 {L T : Int} {v : Vx} (hv : v.P) (h : v.Bd L T) : (scaleV v (-1)).Bd (L + 1) T := ⟨h.1.shift hv.1 (by have := h.1.l0; omega) h.1.t0 (by omega) (by omega), h.2.shift hv.2 (by have := h.1.l0; omega) h.1.t0 (by omega) (by omega)⟩
theorem constPi_bd {w : Int} (w0 : 8 ≤ w) (w1 : w ≤ 16384) : (constPi w).Bd (w + 64) 8 := by
  obtain ⟨a0, e0, e1, a1⟩ := piF_e (w := w + 64) (by omega) (by omega)
  exact Vx.Bd.trim (encPi_iv w0 (by omega)).p (by omega) (ivF_bd (by omega) (by omega) a0 e0 e1 a1)
theorem halfP_bd {w : Int} (w0 : 8 ≤ w) (w1 : w ≤ 16384) : (halfP w).Bd (w + 65) 8 := Vx.Bd.mono ((constPi_bd w0 w1).scale1 (constPi_iv w0 (show w ≤ 65000 by omega)).p) (by omega) (by omega)
/-- What a try tells. -/
def tryT (r : Int × Vx × Bool) : Tv := .tup [.one (.int .i64 r.1), .agg (ivL true r.2.1), .one (.bool r.2.2)]
def inX (x : Dx) : Prop := x.Bd 32768 98304 ∧ x.rv < p2 (1024 : Nat) ∧ -(p2 (1024 : Nat)) < x.rv
def wTry (pr : Dx → Int → Int → Prop) (g : Dx → Int → Int → Int × Vx × Bool) : Spec := fun l => match l with
  | [.agg [.bool ng, .words false xs, .int .i64 e], .one (.int .i64 p), .one (.int .i64 w), .one (.fn n [])] => (match Nat.beq n 48 with
    | true => (some (pr ⟨ng, xs, e⟩ p w), tryT (g ⟨ng, xs, e⟩ p w))
    | false => noSpec)
  | _ => noSpec
theorem qTry_vc (x : Dx) (p w : Int) (co : Int → Vx × Int) (Q : Tv → Prop) : execF ⟨tys6, (48, qPiW co) :: sRed⟩ (fun _ => none) 0 Tryz.f49 [.agg (dyL false x), .one (.int .i64 p), .one (.int .i64 w), .one (.fn 48 [])] Q = (br (neI (co w).snd (0 : Int)) (Q (Tv.tup [Sv.one (At.int .i64 0), Sv.agg [At.bool false, At.words true [], At.int .i64 0, At.bool false, At.words true [], At.int .i64 0], Sv.one (At.bool false)])) ((eB (2305843009213693952 : Int) (co w).fst.lo ∧ eB (2305843009213693952 : Int) (co w).fst.hi ∧ (-2305843009213693952 : Int) ≤ (-1 : Int) ∧ (-1 : Int) ≤ (2305843009213693952 : Int)) ∧ eB (4611686018427387904 : Int) x ∧ (Vx.Sm (67108864 : Nat) (pointV x) ∧ Vx.Sm (67108864 : Nat) (scaleV (co w).fst (-1 : Int)) ∧ Dx.m (scaleV (co w).fst (-1 : Int)).lo ≠ (0 : Int) ∧ Dx.m (scaleV (co w).fst (-1 : Int)).hi ≠ (0 : Int) ∧ (0 : Int) ≤ w ∧ w ≤ (67108864 : Int)) ∧ true = true ∧ Dx.Sm (268435456 : Nat) (divV (pointV x) (scaleV (co w).fst (-1 : Int)) w).lo ∧ Dx.Sm (268435456 : Nat) (divV (pointV x) (scaleV (co w).fst (-1 : Int)) w).hi ∧ (Dx.Sm (68719476736 : Nat) (nearD (divV (pointV x) (scaleV (co w).fst (-1 : Int)) w).lo) ∧ Dx.Sm (68719476736 : Nat) (nearD (divV (pointV x) (scaleV (co w).fst (-1 : Int)) w).hi)) ∧ true = true ∧ br (neI (cmpD (nearD (divV (pointV x) (scaleV (co w).fst (-1 : Int)) w).lo) (nearD (divV (pointV x) (scaleV (co w).fst (-1 : Int)) w).hi)) (0 : Int)) (Q (Tv.tup [Sv.one (At.int .i64 0), Sv.agg [At.bool false, At.words true [], At.int .i64 0, At.bool false, At.words true [], At.int .i64 0], Sv.one (At.bool false)])) (eB (4611686018427387904 : Int) x ∧ eB (4611686018427387904 : Int) (nearD (divV (pointV x) (scaleV (co w).fst (-1 : Int)) w).lo) ∧ inR (w + (64 : Int)) ∧ (Vx.Sm (268435456 : Nat) (pointV (nearD (divV (pointV x) (scaleV (co w).fst (-1 : Int)) w).lo)) ∧ Vx.Sm (268435456 : Nat) (scaleV (co w).fst (-1 : Int)) ∧ (0 : Int) ≤ w + (64 : Int) ∧ w + (64 : Int) ≤ (1099511627776 : Int)) ∧ (Vx.Sm (134217728 : Nat) (pointV x) ∧ Vx.Sm (134217728 : Nat) (timesV (pointV (nearD (divV (pointV x) (scaleV (co w).fst (-1 : Int)) w).lo)) (scaleV (co w).fst (-1 : Int)) (w + (64 : Int))) ∧ (0 : Int) ≤ w ∧ w ≤ (1099511627776 : Int)) ∧ true = true ∧ (OneF (nearD (divV (pointV x) (scaleV (co w).fst (-1 : Int)) w).lo) ∧ (0 : Int) ≤ (nearD (divV (pointV x) (scaleV (co w).fst (-1 : Int)) w).lo).e ∧ (nearD (divV (pointV x) (scaleV (co w).fst (-1 : Int)) w).lo).e ≤ (4611686018427387904 : Int)) ∧ (Vx.Sm (67108864 : Nat) (lessV (pointV x) (timesV (pointV (nearD (divV (pointV x) (scaleV (co w).fst (-1 : Int)) w).lo)) (scaleV (co w).fst (-1 : Int)) (w + (64 : Int))) w) ∧ (0 : Int) ≤ p) ∧ true = true ∧ Q (Tv.tup [Sv.one (At.int .i64 (by4I (nearD (divV (pointV x) (scaleV (co w).fst (-1 : Int)) w).lo))), Sv.agg (ivL true (lessV (pointV x) (timesV (pointV (nearD (divV (pointV x) (scaleV (co w).fst (-1 : Int)) w).lo)) (scaleV (co w).fst (-1 : Int)) (w + (64 : Int))) w)), Sv.one (At.bool (narrowV (lessV (pointV x) (timesV (pointV (nearD (divV (pointV x) (scaleV (co w).fst (-1 : Int)) w).lo)) (scaleV (co w).fst (-1 : Int)) (w + (64 : Int))) w) p))])))) := by kernel_rfl
def preTry (x : Dx) (p w : Int) : Prop := inX x ∧ 8 ≤ w ∧ w ≤ 8192 ∧ 0 ≤ p
theorem sTry_ok : SpecsOk Tryz.prog ((48, qPiW constR) :: sRed) := ⟨qPi_ok, sRed_ok⟩
theorem qTry_ok : SpecOk Tryz.prog 49 (wTry preTry (fun x p w => tryW (halfP w) x p w)) :=
  specOk_pat (envOk tys6_ok sTry_ok) mixed Tryz.func49 rfl (by decide) 4 (by decide) fun l p t hwf e hp => by
    unfold wTry at e
    split at e
    · rename_i ng xs ee p w n
      split at e
      rotate_left
      · cases e; exact hp.elim
      rename_i hb
      obtain rfl := Nat.eq_of_beq_eq_true hb
      cases e
      obtain ⟨⟨bx, x1, x2⟩, w0, w1, p0⟩ : preTry ⟨ng, xs, ee⟩ p w := hp
      have hx : 0 ≤ Dx.m ⟨ng, xs, ee⟩ := val_nonneg hwf.1.2.1.1
      refine ⟨Nat.le_refl 4, fun _ => none, 0, (qTry_vc ⟨ng, xs, ee⟩ p w constR _).mpr ?_⟩
      have ec : constR w = (constPi w, 0) := by unfold constR; rw [if_pos ⟨w0, w1⟩]
      rw [ec]
      generalize (⟨ng, xs, ee⟩ : Dx) = x at *
      have hf := halfP_hf w0 (show w ≤ 65000 by omega)
      have hb := halfP_bd w0 (show w ≤ 16384 by omega)
      have cs := right_sm (constPi_right w0 (show w ≤ 16384 by omega))
      refine br_intro (fun h => by cases h) fun _ => ?_
      show (eB _ (constPi w).lo ∧ eB _ (constPi w).hi ∧ _ ∧ _) ∧ _ ∧ (_ ∧ Vx.Sm _ (halfP w) ∧ Dx.m (halfP w).lo ≠ 0 ∧ Dx.m (halfP w).hi ≠ 0 ∧ _ ∧ _) ∧ _ ∧ Dx.Sm _ (quoW (halfP w) x w).lo ∧ Dx.Sm _ (quoW (halfP w) x w).hi ∧ (Dx.Sm _ (nW (halfP w) x w) ∧ Dx.Sm _ (nearD (quoW (halfP w) x w).hi)) ∧ _ ∧
        br (!sureW (halfP w) x w) (tryT (0, zeroIv, false) = tryT (tryW (halfP w) x p w) ∨ fgT (tryT (0, zeroIv, false)) = tryT (tryW (halfP w) x p w)) (_ ∧ eB _ (nW (halfP w) x w) ∧ _ ∧ (Vx.Sm _ (pointV (nW (halfP w) x w)) ∧ Vx.Sm _ (halfP w) ∧ _ ∧ _) ∧ (_ ∧ Vx.Sm _ (timesV (pointV (nW (halfP w) x w)) (halfP w) (w + 64)) ∧ _ ∧ _) ∧ _ ∧ (OneF (nW (halfP w) x w) ∧ 0 ≤ (nW (halfP w) x w).e ∧ (nW (halfP w) x w).e ≤ 4611686018427387904) ∧ (Vx.Sm _ (restW (halfP w) x w) ∧ _) ∧ _ ∧
          (tryT (by4I (nW (halfP w) x w), restW (halfP w) x w, narrowV (restW (halfP w) x w) p) = tryT (tryW (halfP w) x p w) ∨ fgT (tryT (by4I (nW (halfP w) x w), restW (halfP w) x w, narrowV (restW (halfP w) x w) p)) = tryT (tryW (halfP w) x p w)))
      generalize halfP w = h at *
      have sx := bx.sm (N := 131072) (by omega)
      have hs := hb.sm (N := 16384) (by omega)
      have q := quoW_sm (w := w) hx hf.p sx (hs.mono (by omega)) (by omega) (by omega)
      have sn := nW_sm hf hx (w := w) (by omega) x1 x2
      have np : 0 ≤ (nW h x w).m := nearD_p
      have bn : (nW h x w).Bd 0 2051 := ⟨by omega, by omega, nearD_e, by have := sn.1; have := sn.2.2; omega⟩
      have z1 := bx.point hx
      have zn := bn.point np
      have zt : (timesV (pointV (nW h x w)) h (w + 64)).Bd (0 + (w + 65)) (2051 + 8 + 1) := zn.times (pointV_p _) hf.p (by omega) hb
      have zr : (restW h x w).Bd 32768 98306 := z1.less (pointV_p x) (trimV_p _ _) (by omega) (zt.mono (by omega) (by omega))
      have r1 : Dx.rv h.lo ≠ 0 := by have := hf.lo; grind
      have r2 : Dx.rv h.hi ≠ 0 := by have := hf.lo; have := hf.le; grind
      refine ⟨⟨cs.1.eB (by omega), cs.2.eB (by omega), by omega, by omega⟩, sx.eB (by omega), ⟨z1.sm (by omega), hs.mono (by omega), rv_ne r1, rv_ne r2, by omega, by omega⟩, rfl, q.1.mono (by omega), q.2.mono (by omega), ⟨sn.mono (by omega), (nearD_sm (divV_p _ _ _).2 q.2 (by omega)).mono (by omega)⟩, rfl, br_intro (fun hb => .inl ?_) fun hb => ⟨sx.eB (by omega), sn.eB (by omega), ⟨by omega, by omega⟩, ⟨zn.sm (by omega), hs.mono (by omega), by omega, by omega⟩, ⟨z1.sm (by omega), zt.sm (by omega), by omega, by omega⟩, rfl, ⟨nearD_f, nearD_e, by have := sn.2.2; omega⟩, ⟨zr.sm (by omega), p0⟩, rfl, .inl ?_⟩⟩
      · rw [tryW, if_neg (by rw [not_true hb]; simp)]
      · rw [tryW, if_pos (not_false' hb)]
    · cases e; exact hp.elim
/-! ### Quarter. -/
def dyX (b : Nat) (nw : Bool) (x : Dx) : List (Nat × Nat × At) := [(b, 0, .bool x.neg), (b, 1, .words nw x.xs), (b, 2, .int .i64 x.e)]
def zvX (b : Nat) : List (Nat × Nat × At) := [(b, 0, .bool false), (b, 1, .words true []), (b, 2, .int .i64 0), (b, 3, .bool false), (b, 4, .words true []), (b, 5, .int .i64 0)]
def quK : LKeep := ⟨[1, 2, 5, 7, 8], [(0, 3), (2, 6)], 3⟩
def quSt (x : Dx) (p : Int) (a : Nat × Int) : List (Nat × Tv) × List (Nat × Nat × At) :=
  ([(1, iT p), (2, .sv (.one (.ptr 0 0))), (5, .sv (.one (.ptr 2 0))), (7, .sv (.one (.fn 48 []))), (8, iT a.2)], dyX 0 true x ++ zvX 2)
def quInv (x : Dx) (p : Int) (P : Nat × Int → Prop) : Nat → Option LInv := invAt 11 (.rel quK (Nat × Int) (quSt x p) P (fun a => a.1))
theorem qQu_vc (x : Dx) (p : Int) (P : Nat × Int → Prop) (pr : Dx → Int → Int → Prop) (g : Dx → Int → Int → Int × Vx × Bool) (Q : Tv → Prop) : execF ⟨tys6, (49, wTry pr g) :: sRed⟩ (quInv (oneD x) p P) 0 Tryz.f11 [.agg (dyL false x), .one (.int .i64 p)] Q = (br (!Dx.fitsB x) (Q (Tv.tup [Sv.one (At.int .i64 0), Sv.agg [At.bool false, At.words true [], At.int .i64 0, At.bool false, At.words true [], At.int .i64 0], Sv.one (At.int .i64 2)])) (br (ltI p (8 : Int)) (Q (Tv.tup [Sv.one (At.int .i64 0), Sv.agg [At.bool false, At.words true [], At.int .i64 0, At.bool false, At.words true [], At.int .i64 0], Sv.one (At.int .i64 2)])) (br (ltI (3968 : Int) p) (Q (Tv.tup [Sv.one (At.int .i64 0), Sv.agg [At.bool false, At.words true [], At.int .i64 0, At.bool false, At.words true [], At.int .i64 0], Sv.one (At.int .i64 2)])) (((-4611686018427387904 : Int) ≤ x.e ∧ x.e ≤ (4611686018427387904 : Int)) ∧ br (Dx.zeroB (oneD x)) (Q (Tv.tup [Sv.one (At.int .i64 0), Sv.agg [At.bool false, At.words true [], At.int .i64 0, At.bool false, At.words true [], At.int .i64 0], Sv.one (At.int .i64 0)])) (((-2305843009213693952 : Int) ≤ (oneD x).e ∧ (oneD x).e ≤ (2305843009213693952 : Int)) ∧ br (leI (1024 : Int) ((oneD x).e + (↑(blen (Dx.m (oneD x))) : Int) - (1 : Int))) (Q (Tv.tup [Sv.one (At.int .i64 0), Sv.agg [At.bool false, At.words true [], At.int .i64 0, At.bool false, At.words true [], At.int .i64 0], Sv.one (At.int .i64 3)])) (((-2305843009213693952 : Int) ≤ (oneD x).e ∧ (oneD x).e ≤ (2305843009213693952 : Int)) ∧ inR (maxI ((oneD x).e + (↑(blen (Dx.m (oneD x))) : Int) - (1 : Int)) (0 : Int) + p) ∧ inR (maxI ((oneD x).e + (↑(blen (Dx.m (oneD x))) : Int) - (1 : Int)) (0 : Int) + p + (64 : Int)) ∧ true = true ∧ (∃ (a : Nat × Int), P a ∧ Sg.mk [(1, iT p), (2, Tv.sv (Sv.one (At.ptr 0 0))), (5, Tv.sv (Sv.one (At.ptr ((0 : Nat) + (2 : Nat)) (0 : Nat)))), (7, Tv.sv (Sv.one (At.fn 48 []))), (8, iT (maxI ((oneD x).e + (↑(blen (Dx.m (oneD x))) : Int) - (1 : Int)) (0 : Int) + p + (64 : Int)))] [(0, 0, At.bool (oneD x).neg), (0, 1, At.words true (oneD x).xs), (0, 2, At.int .i64 (oneD x).e), (2, 0, At.bool false), (2, 1, At.words true []), (2, 2, At.int .i64 0), (2, 3, At.bool false), (2, 4, At.words true []), (2, 5, At.int .i64 0)] (3 : Nat) = LKeep.at quK (quSt (oneD x) p a)) ∧ ∀ (a : Nat × Int), P a → pr (oneD x) p (minI a.snd (8192 : Int)) ∧ br (g (oneD x) p (minI a.snd (8192 : Int))).snd.snd (br (rightV (g (oneD x) p (minI a.snd (8192 : Int))).snd.fst) (true = true ∧ Q (Tv.tup [Sv.one (At.int .i64 (g (oneD x) p (minI a.snd (8192 : Int))).fst), Sv.agg (ivL true (g (oneD x) p (minI a.snd (8192 : Int))).snd.fst), Sv.one (At.int .i64 0)])) (br (eqI (minI a.snd (8192 : Int)) (8192 : Int)) (Q (Tv.tup [Sv.one (At.int .i64 0), Sv.agg [At.bool false, At.words true [], At.int .i64 0, At.bool false, At.words true [], At.int .i64 0], Sv.one (At.int .i64 6)])) (inR ((2 : Int) * minI a.snd (8192 : Int)) ∧ true = true ∧ ∃ (a' : Nat × Int), P a' ∧ Sg.mk [(1, iT p), (2, Tv.sv (Sv.one (At.ptr 0 0))), (5, Tv.sv (Sv.one (At.ptr 2 0))), (7, Tv.sv (Sv.one (At.fn 48 []))), (8, iT ((2 : Int) * minI a.snd (8192 : Int)))] [(0, 0, At.bool (oneD x).neg), (0, 1, At.words true (oneD x).xs), (0, 2, At.int .i64 (oneD x).e), (2, 0, At.bool false), (2, 1, At.words true []), (2, 2, At.int .i64 0), (2, 3, At.bool false), (2, 4, At.words true []), (2, 5, At.int .i64 0)] (3 : Nat) = LKeep.at quK (quSt (oneD x) p a') ∧ a'.fst < a.fst))) (br (eqI (minI a.snd (8192 : Int)) (8192 : Int)) (Q (Tv.tup [Sv.one (At.int .i64 0), Sv.agg [At.bool false, At.words true [], At.int .i64 0, At.bool false, At.words true [], At.int .i64 0], Sv.one (At.int .i64 6)])) (inR ((2 : Int) * minI a.snd (8192 : Int)) ∧ true = true ∧ ∃ (a' : Nat × Int), P a' ∧ Sg.mk [(1, iT p), (2, Tv.sv (Sv.one (At.ptr 0 0))), (5, Tv.sv (Sv.one (At.ptr 2 0))), (7, Tv.sv (Sv.one (At.fn 48 []))), (8, iT ((2 : Int) * minI a.snd (8192 : Int)))] [(0, 0, At.bool (oneD x).neg), (0, 1, At.words true (oneD x).xs), (0, 2, At.int .i64 (oneD x).e), (2, 0, At.bool false), (2, 1, At.words true []), (2, 2, At.int .i64 0), (2, 3, At.bool false), (2, 4, At.words true []), (2, 5, At.int .i64 0)] (3 : Nat) = LKeep.at quK (quSt (oneD x) p a') ∧ a'.fst < a.fst)))))))) := by kernel_rfl
def topD (x : Dx) : Int := x.e + blen x.m - 1
def tryP (x : Dx) (p w : Int) : Int × Vx × Bool := tryW (halfP w) x p w
def okW (x : Dx) (p w : Int) : Bool := (tryP x p w).2.2 && rightV (tryP x p w).2.1
def quarL (x : Dx) (p : Int) : Nat → Int → Int × Vx × Int
  | 0, _ => (0, zeroIv, 6)
  | n + 1, w => if okW x p (min w 8192) = true then ((tryP x p (min w 8192)).1, (tryP x p (min w 8192)).2.1, 0) else if min w 8192 = 8192 then (0, zeroIv, 6) else quarL x p n (2 * min w 8192)
def quarR (x : Dx) (p : Int) : Int × Vx × Int :=
  if x.fitsB = true ∧ 8 ≤ p ∧ p ≤ 3968 then (if (oneD x).m = 0 then (0, zeroIv, 0) else if 1024 ≤ topD (oneD x) then (0, zeroIv, 3) else quarL (oneD x) p 9 (max (topD (oneD x)) 0 + p + 64)) else (0, zeroIv, 2)
def quT (r : Int × Vx × Int) : Tv := .tup [.one (.int .i64 r.1), .agg (ivL false r.2.1), .one (.int .i64 r.2.2)]
def qQu : Spec := specK [.d, .i .i64] fun (x : Dx) (p : Int) => (none, quT (quarR x p))
theorem top_lt {x : Dx} (hx : 0 ≤ x.m) (h : topD x < 1024) : x.rv < p2 (1024 : Nat) ∧ -(p2 (1024 : Nat)) < x.rv := by
  have q := p2_pos ((1024 : Nat) : Int)
  have a := amt_lt (m := x.m) (e := x.e)
  have l := p2_le (show x.e + (blen x.m : Int) ≤ ((1024 : Nat) : Int) by unfold topD at h; omega)
  obtain ⟨r1, r2⟩ := rv_amt hx
  rcases (show 0 ≤ x.rv ∨ x.rv ≤ 0 by grind) with s | s
  · have := r1 s
    generalize p2 ((1024 : Nat) : Int) = Q at *
    constructor <;> grind
  · have := r2 s
    generalize p2 ((1024 : Nat) : Int) = Q at *
    constructor <;> grind
theorem sQu_ok : SpecsOk Tryz.prog ((49, wTry preTry (fun x p w => tryW (halfP w) x p w)) :: sRed) := ⟨qTry_ok, sRed_ok⟩
theorem qQu_ok : SpecOk Tryz.prog 11 qQu :=
  specKW_ok (envOk tys6_ok sQu_ok) mixed Tryz.func11 rfl (by decide) (by decide) fun (x : Dx) hxw (p : Int) _ _ => by
    have hx := Dx.Wf.m0 hxw
    obtain ⟨R, hR⟩ : ∃ R, R = quarL (oneD x) p 9 (max (topD (oneD x)) 0 + p + 64) := ⟨_, rfl⟩
    refine ⟨quInv (oneD x) p (fun a => quarL (oneD x) p a.1 a.2 = R ∧ 1 ≤ a.1 ∧ 8 ≤ a.2 ∧ a.2 ≤ 16384 ∧ 16384 ≤ a.2 * 2 ^ a.1), 0, ?_⟩
    show execF _ _ _ _ _ (fun t => t = quT (quarR x p) ∨ fgT t = quT (quarR x p))
    refine (qQu_vc x p _ preTry (fun x p w => tryW (halfP w) x p w) _).mpr (br_intro (fun h => .inr ?_) fun h => br_intro (fun h1 => .inr ?_) fun h1 => br_intro (fun h2 => .inr ?_) fun h2 => ?_)
    · rw [quarR, if_neg (by rw [not_true h]; simp)]; rfl
    · rw [quarR, if_neg (by have := ltI_true.1 h1; omega)]; rfl
    · rw [quarR, if_neg (by have := ltI_true.1 h2; omega)]; rfl
    have h := not_false' h
    have h1 := ltI_false.1 h1
    have h2 := ltI_false.1 h2
    have bx := (fits_bd h).one hx
    have xe := fits_e h
    have y0 := oneD_p (d := x)
    rw [quarR, if_pos ⟨h, by omega, by omega⟩]
    refine ⟨⟨by omega, by omega⟩, br_intro (fun h3 => .inr ?_) fun h3 => ?_⟩
    · rw [if_pos (zeroB_true.1 h3)]; rfl
    rw [if_neg (zeroB_false.1 h3)]
    have te : (oneD x).e + (blen (oneD x).m : Int) - 1 = topD (oneD x) := rfl
    have b1 := bx.lo
    have b2 := bx.hi
    have bp := blen_pos (show 0 < (oneD x).m by have := zeroB_false.1 h3; omega)
    rw [te]
    refine ⟨⟨by omega, by omega⟩, br_intro (fun h4 => .inr ?_) fun h4 => ?_⟩
    · rw [if_pos (leI_true.1 h4)]; rfl
    have h4 := leI_false.1 h4
    rw [if_neg h4, maxI_eq, ← hR]
    obtain ⟨t1, t2⟩ := top_lt y0 (by omega)
    refine ⟨⟨by omega, by omega⟩, ⟨by omega, by omega⟩, ⟨by omega, by omega⟩, rfl, ⟨(9, max (topD (oneD x)) 0 + p + 64), ⟨hR.symm, by omega, by omega, by omega, by show 16384 ≤ (max (topD (oneD x)) 0 + p + 64) * 2 ^ 9; omega⟩, rfl⟩, fun a ha => ?_⟩
    obtain ⟨n, w⟩ := a
    obtain ⟨e, n1, w0, w1, w2⟩ : quarL (oneD x) p n w = R ∧ 1 ≤ n ∧ 8 ≤ w ∧ w ≤ 16384 ∧ 16384 ≤ w * 2 ^ n := ha
    obtain ⟨m, rfl⟩ : ∃ m, n = m + 1 := ⟨n - 1, by omega⟩
    rw [quarL] at e
    show preTry (oneD x) p (minI w 8192) ∧ br (tryP (oneD x) p (minI w 8192)).2.2 (br (rightV (tryP (oneD x) p (minI w 8192)).2.1) _ _) _
    rw [minI_eq]
    refine ⟨⟨⟨bx, t1, t2⟩, by omega, by omega, by omega⟩, ?_⟩
    have fin : okW (oneD x) p (min w 8192) = false → min w 8192 ≠ 8192 → inR (2 * min w 8192) ∧ true = true ∧ ∃ a' : Nat × Int, (quarL (oneD x) p a'.1 a'.2 = R ∧ 1 ≤ a'.1 ∧ 8 ≤ a'.2 ∧ a'.2 ≤ 16384 ∧ 16384 ≤ a'.2 * 2 ^ a'.1) ∧ quK.at (quSt (oneD x) p (0, 2 * min w 8192)) = quK.at (quSt (oneD x) p a') ∧ a'.1 < m + 1 := fun ok hw => by
      rw [if_neg (by rw [ok]; simp), if_neg hw] at e
      have hm : min w 8192 = w := by omega
      rw [hm] at e ⊢
      rw [Int.pow_succ] at w2
      have m1 : 1 ≤ m := by
        refine Nat.pos_of_ne_zero fun hm0 => ?_
        rw [hm0, Int.pow_zero] at w2; omega
      refine ⟨⟨by omega, by omega⟩, rfl, (m, 2 * w), ⟨e, m1, by omega, by omega, ?_⟩, rfl, Nat.lt_succ_self _⟩
      show 16384 ≤ 2 * w * 2 ^ m
      rw [Int.mul_comm (2 ^ m) 2, ← Int.mul_assoc, Int.mul_comm w 2] at w2; exact w2
    have hard : okW (oneD x) p (min w 8192) = false → min w 8192 = 8192 → R = (0, zeroIv, 6) := fun ok hw => by
      rw [if_neg (by rw [ok]; simp), if_pos hw] at e
      exact e.symm
    refine br_intro (fun h5 => br_intro (fun h6 => ⟨rfl, .inr ?_⟩) fun h6 => ?_) fun h5 => ?_
    · rw [if_pos (by unfold okW; rw [h5, h6]; rfl)] at e
      rw [← e]; rfl
    · have ok : okW (oneD x) p (min w 8192) = false := by unfold okW; rw [h6, Bool.and_false]
      exact br_intro (fun h7 => .inr (by rw [hard ok (eqI_true.1 h7)]; rfl)) fun h7 => fin ok (eqI_false.1 h7)
    · have ok : okW (oneD x) p (min w 8192) = false := by unfold okW; rw [h5, Bool.false_and]
      exact br_intro (fun h7 => .inr (by rw [hard ok (eqI_true.1 h7)]; rfl)) fun h7 => fin ok (eqI_false.1 h7)
end Go.Proofs.YtdnbckfhfhfkoaaGreatDoor

namespace Go.Proofs.YtdnbckfhfhfkoaaGreatDoor
open Go.RowKit
def zD0 : Dx := ⟨false, [], 0⟩
def turT (r : Int × Dx × Int) : Tv := .tup [.one (.int .i64 r.1), .agg (dyL false r.2.1), .one (.int .i64 r.2.2)]
def splT (r : Dx × Dx × Int) : Tv := .tup [.agg (dyL false r.1), .agg (dyL false r.2.1), .one (.int .i64 r.2.2)]
def turN (y : Dx) : Dx := nearD (shiftD y 1)
def turX (y : Dx) : Dx := lessD y (shiftD (turN y) (-1))
def turR (x : Dx) : Int × Dx × Int := if x.fitsB = true then (if (oneD x).fitsB = true ∧ (turX (oneD x)).fitsB = true then (by4I (turN (oneD x)), turX (oneD x), 0) else (0, zD0, 3)) else (0, zD0, 2)
theorem qTurns_vc (x : Dx) (Q : Tv → Prop) : execF ⟨tys6, sRed⟩ (fun _ => none) 0 Tryz.f21 [.agg (dyL false x)] Q = (br (!Dx.fitsB x) (Q (Tv.tup [Sv.one (At.int .i64 0), Sv.agg [At.bool false, At.words true [], At.int .i64 0], Sv.one (At.int .i64 2)])) (((-4611686018427387904 : Int) ≤ x.e ∧ x.e ≤ (4611686018427387904 : Int)) ∧ ((-2305843009213693952 : Int) ≤ (oneD x).e ∧ (oneD x).e ≤ (2305843009213693952 : Int) ∧ (-2305843009213693952 : Int) ≤ (1 : Int) ∧ (1 : Int) ≤ (2305843009213693952 : Int)) ∧ Dx.Sm (268435456 : Nat) (shiftD (oneD x) (1 : Int)) ∧ ((-2305843009213693952 : Int) ≤ (nearD (shiftD (oneD x) (1 : Int))).e ∧ (nearD (shiftD (oneD x) (1 : Int))).e ≤ (2305843009213693952 : Int) ∧ (-2305843009213693952 : Int) ≤ (-1 : Int) ∧ (-1 : Int) ≤ (2305843009213693952 : Int)) ∧ (Dx.Sm (34359738368 : Nat) (oneD x) ∧ Dx.Sm (34359738368 : Nat) (shiftD (nearD (shiftD (oneD x) (1 : Int))) (-1 : Int))) ∧ true = true ∧ br (!Dx.fitsB (oneD x)) (Q (Tv.tup [Sv.one (At.int .i64 0), Sv.agg [At.bool false, At.words true [], At.int .i64 0], Sv.one (At.int .i64 3)])) (br (!Dx.fitsB (lessD (oneD x) (shiftD (nearD (shiftD (oneD x) (1 : Int))) (-1 : Int)))) (Q (Tv.tup [Sv.one (At.int .i64 0), Sv.agg [At.bool false, At.words true [], At.int .i64 0], Sv.one (At.int .i64 3)])) ((OneF (nearD (shiftD (oneD x) (1 : Int))) ∧ (0 : Int) ≤ (nearD (shiftD (oneD x) (1 : Int))).e ∧ (nearD (shiftD (oneD x) (1 : Int))).e ≤ (4611686018427387904 : Int)) ∧ true = true ∧ Q (Tv.tup [Sv.one (At.int .i64 (by4I (nearD (shiftD (oneD x) (1 : Int))))), Sv.agg (dyL true (lessD (oneD x) (shiftD (nearD (shiftD (oneD x) (1 : Int))) (-1 : Int)))), Sv.one (At.int .i64 0)]))))) := by kernel_rfl
def qTurns : Spec := specK [.d] fun (x : Dx) => (none, turT (turR x))
theorem shift_bd {L T : Int} {d : Dx} (hd : 0 ≤ d.m) (h : d.Bd L T) : (shiftD d 1).Bd L (T + 1) := h.shift hd h.l0 (by have := h.t0; omega) (by omega) (by omega)
theorem shift_bd' {L T : Int} {d : Dx} (hd : 0 ≤ d.m) (h : d.Bd L T) : (shiftD d (-1)).Bd (L + 1) T := h.shift hd (by have := h.l0; omega) h.t0 (by omega) (by omega)
theorem floor_bd {L T : Int} {d : Dx} (hd : 0 ≤ d.m) (h : d.Bd L T) : (floorD d).Bd L (T + 1) := by
  obtain ⟨l0, t0, a1, a2⟩ := h.one hd
  have m0 := oneD_p (d := d)
  unfold floorD; split
  · exact ⟨l0, by omega, a1, by omega⟩
  · rename_i hn
    have p0 := two_pow_pos (-(oneD d).e).toNat
    have q0 : 0 ≤ (oneD d).m / 2 ^ (-(oneD d).e).toNat := Int.ediv_nonneg m0 (by omega)
    obtain ⟨N, hN⟩ : ∃ N : Nat, (N : Int) = T := ⟨T.toNat, by omega⟩
    have q1 : (oneD d).m / 2 ^ (-(oneD d).e).toNat < 2 ^ N := by
      refine Int.ediv_lt_of_lt_mul p0 ?_
      rw [← Int.pow_add]
      exact Int.lt_of_lt_of_le (blen_lt _) (two_pow_le (by omega))
    have hb : blen ((oneD d).m / 2 ^ (-(oneD d).e).toNat + if (lostB (oneD d).m (-(oneD d).e).toNat && (oneD d).neg) = true then 1 else 0) ≤ N + 1 := blen_le (by
      rw [Int.pow_succ]; have := two_pow_pos N; split <;> omega)
    exact mkD_bd (by split <;> omega) l0 (by omega) (by omega) (by omega)
theorem near_bd {L T : Int} {d : Dx} (hd : 0 ≤ d.m) (h : d.Bd L T) : (nearD d).Bd (L + 1) (T + 4) := by
  have hh : halfD.Bd (L + 1) (T + 1) := ⟨by have := h.l0; omega, by have := h.t0; omega, by show -(L + 1) ≤ -1; have := h.l0; omega, by rw [halfD_m]; have := h.t0; show -1 + ((blen 1 : Nat) : Int) ≤ T + 1; rw [show blen 1 = 1 by decide]; omega⟩
  have a : (plusD d halfD).Bd (L + 1) (T + 1 + 1) := (h.mono (show L ≤ L + 1 by omega) (show T ≤ T + 1 by omega)).plus hd (by decide) hh
  have b := floor_bd plusD_p a
  have c : (mkS 1 0).Bd (L + 1) (T + 1 + 1 + 1) := mkS_bd (by have := h.l0; omega) (by have := h.t0; omega) (by have := h.l0; omega) (by have := h.t0; show 0 + ((blen 1 : Nat) : Int) ≤ _; rw [show blen 1 = 1 by decide]; omega)
  unfold nearD; split
  · exact (b.less floorD_p mkS_p c).mono (by omega) (by omega)
  · exact b.mono (by omega) (by omega)
theorem turX_bd {y : Dx} (hy : 0 ≤ y.m) (h : y.Bd 32768 98304) : (turN y).Bd 32769 98309 ∧ (turX y).Bd 32770 98310 := by
  have n := near_bd shiftD_p (shift_bd hy h)
  exact ⟨n.mono (by omega) (by omega), ((h.mono (by omega) (by omega)).less hy shiftD_p ((shift_bd' nearD_p n).mono (L' := 32770) (T' := 98309) (by omega) (by omega))).mono (by omega) (by omega)⟩
theorem qTurns_ok : SpecOk Tryz.prog 21 qTurns :=
  specKW_ok (envOk tys6_ok sRed_ok) mixed Tryz.func21 rfl (by decide) (by decide) fun (x : Dx) hxw _ => ⟨fun _ => none, 0, by
    have hx := Dx.Wf.m0 hxw
    show execF _ _ _ _ _ (fun t => t = turT (turR x) ∨ fgT t = turT (turR x))
    refine (qTurns_vc x _).mpr (br_intro (fun h => .inr ?_) fun h => ?_)
    · rw [turR, if_neg (by rw [not_true h]; simp)]; rfl
    have h := not_false' h
    have bx := (fits_bd h).one hx
    have xe := fits_e h
    obtain ⟨bn, br'⟩ := turX_bd oneD_p bx
    rw [turR, if_pos h]
    have b1 := bx.lo
    have b2 := bx.hi
    have n0 : 0 ≤ (turN (oneD x)).e := nearD_e
    have n1 := bn.hi
    refine ⟨⟨by omega, by omega⟩, ⟨by omega, by omega, by omega, by omega⟩, (shift_bd oneD_p bx).sm (by omega), ⟨show _ ≤ (turN (oneD x)).e by omega, show (turN (oneD x)).e ≤ _ by omega, by omega, by omega⟩, ⟨bx.sm (by omega), (shift_bd' nearD_p bn).sm (by omega)⟩, rfl, br_intro (fun h1 => .inr ?_) fun h1 => br_intro (fun h2 => .inr ?_) fun h2 => ⟨⟨nearD_f, n0, show (turN (oneD x)).e ≤ _ by omega⟩, rfl, .inr ?_⟩⟩
    · rw [if_neg (by rw [not_true h1]; simp)]; rfl
    · rw [if_neg (by rw [show (turX (oneD x)).fitsB = false from not_true h2]; simp)]; rfl
    · rw [if_pos ⟨not_false' h1, not_false' h2⟩]; rfl⟩
def spN (y : Dx) : Dx := nearD y
def splR (x : Dx) : Dx × Dx × Int := if x.fitsB = true then (if (oneD x).fitsB = true then (if (spN (oneD x)).fitsB = true ∧ (lessD (oneD x) (spN (oneD x))).fitsB = true then (spN (oneD x), lessD (oneD x) (spN (oneD x)), 0) else (zD0, zD0, 3)) else (zD0, zD0, 3)) else (zD0, zD0, 2)
theorem qSplit_vc (x : Dx) (Q : Tv → Prop) : execF ⟨tys6, sRed⟩ (fun _ => none) 0 Tryz.f38 [.agg (dyL false x)] Q = (br (!Dx.fitsB x) (Q (Tv.tup [Sv.agg [At.bool false, At.words true [], At.int .i64 0], Sv.agg [At.bool false, At.words true [], At.int .i64 0], Sv.one (At.int .i64 2)])) (((-4611686018427387904 : Int) ≤ x.e ∧ x.e ≤ (4611686018427387904 : Int)) ∧ br (!Dx.fitsB (oneD x)) (Q (Tv.tup [Sv.agg [At.bool false, At.words true [], At.int .i64 0], Sv.agg [At.bool false, At.words true [], At.int .i64 0], Sv.one (At.int .i64 3)])) (Dx.Sm (268435456 : Nat) (oneD x) ∧ (Dx.Sm (34359738368 : Nat) (oneD x) ∧ Dx.Sm (34359738368 : Nat) (nearD (oneD x))) ∧ br (!Dx.fitsB (nearD (oneD x))) (Q (Tv.tup [Sv.agg [At.bool false, At.words true [], At.int .i64 0], Sv.agg [At.bool false, At.words true [], At.int .i64 0], Sv.one (At.int .i64 3)])) (br (!Dx.fitsB (lessD (oneD x) (nearD (oneD x)))) (Q (Tv.tup [Sv.agg [At.bool false, At.words true [], At.int .i64 0], Sv.agg [At.bool false, At.words true [], At.int .i64 0], Sv.one (At.int .i64 3)])) (true = true ∧ Q (Tv.tup [Sv.agg (dyL true (nearD (oneD x))), Sv.agg (dyL true (lessD (oneD x) (nearD (oneD x)))), Sv.one (At.int .i64 0)])))))) := by kernel_rfl
def qSplit : Spec := specK [.d] fun (x : Dx) => (none, splT (splR x))
theorem qSplit_ok : SpecOk Tryz.prog 38 qSplit :=
  specKW_ok (envOk tys6_ok sRed_ok) mixed Tryz.func38 rfl (by decide) (by decide) fun (x : Dx) hxw _ => ⟨fun _ => none, 0, by
    have hx := Dx.Wf.m0 hxw
    show execF _ _ _ _ _ (fun t => t = splT (splR x) ∨ fgT t = splT (splR x))
    refine (qSplit_vc x _).mpr (br_intro (fun h => .inr ?_) fun h => ?_)
    · rw [splR, if_neg (by rw [not_true h]; simp)]; rfl
    have h := not_false' h
    have bx := (fits_bd h).one hx
    have xe := fits_e h
    have bn := near_bd oneD_p bx
    rw [splR, if_pos h]
    refine ⟨⟨by omega, by omega⟩, br_intro (fun h1 => .inr ?_) fun h1 => ⟨bx.sm (by omega), ⟨bx.sm (by omega), bn.sm (by omega)⟩, br_intro (fun h2 => .inr ?_) fun h2 => br_intro (fun h3 => .inr ?_) fun h3 => ⟨rfl, .inr ?_⟩⟩⟩
    · rw [if_neg (by rw [not_true h1]; simp)]; rfl
    · rw [if_pos (not_false' h1), if_neg (by rw [show (spN (oneD x)).fitsB = false from not_true h2]; simp)]; rfl
    · rw [if_pos (not_false' h1), if_neg (by rw [show (lessD (oneD x) (spN (oneD x))).fitsB = false from not_true h3]; simp)]; rfl
    · rw [if_pos (not_false' h1), if_pos ⟨not_false' h2, not_false' h3⟩]; rfl⟩
/-- A power of 2 and what is from 3/4 to 3/2. -/
def scM (y : Dx) : Dx := shiftD y (-topD y)
def sc32 : Dx := shiftD (mkS 3 0) (-1)
def scK (y : Dx) : Int := if 0 ≤ cmpD (scM y) sc32 then topD y + 1 else topD y
def scX (y : Dx) : Dx := if 0 ≤ cmpD (scM y) sc32 then shiftD (scM y) (-1) else scM y
def scaR (x : Dx) : Int × Dx × Int := if x.fitsB = true then (if (oneD x).fitsB = true then (if (oneD x).sgn ≤ 0 then (0, zD0, 5) else if (scX (oneD x)).fitsB = true then (scK (oneD x), scX (oneD x), 0) else (0, zD0, 3)) else (0, zD0, 3)) else (0, zD0, 2)
theorem qScale_vc (x : Dx) (Q : Tv → Prop) : execF ⟨tys6, sRed⟩ (fun _ => none) 0 Tryz.f36 [.agg (dyL false x)] Q = (br (!Dx.fitsB x) (Q (Tv.tup [Sv.one (At.int .i64 0), Sv.agg [At.bool false, At.words true [], At.int .i64 0], Sv.one (At.int .i64 2)])) (((-4611686018427387904 : Int) ≤ x.e ∧ x.e ≤ (4611686018427387904 : Int)) ∧ br (!Dx.fitsB (oneD x)) (Q (Tv.tup [Sv.one (At.int .i64 0), Sv.agg [At.bool false, At.words true [], At.int .i64 0], Sv.one (At.int .i64 3)])) (br (leI (Dx.sgn (oneD x)) (0 : Int)) (Q (Tv.tup [Sv.one (At.int .i64 0), Sv.agg [At.bool false, At.words true [], At.int .i64 0], Sv.one (At.int .i64 5)])) (((-2305843009213693952 : Int) ≤ (oneD x).e ∧ (oneD x).e ≤ (2305843009213693952 : Int)) ∧ inR ((0 : Int) - ((oneD x).e + (↑(blen (Dx.m (oneD x))) : Int) - (1 : Int))) ∧ ((-2305843009213693952 : Int) ≤ (oneD x).e ∧ (oneD x).e ≤ (2305843009213693952 : Int) ∧ (-2305843009213693952 : Int) ≤ (0 : Int) - ((oneD x).e + (↑(blen (Dx.m (oneD x))) : Int) - (1 : Int)) ∧ (0 : Int) - ((oneD x).e + (↑(blen (Dx.m (oneD x))) : Int) - (1 : Int)) ≤ (2305843009213693952 : Int)) ∧ inR (3 : Int) ∧ ((-2305843009213693952 : Int) ≤ (mkS (3 : Int) (0 : Int)).e ∧ (mkS (3 : Int) (0 : Int)).e ≤ (2305843009213693952 : Int) ∧ (-2305843009213693952 : Int) ≤ (-1 : Int) ∧ (-1 : Int) ≤ (2305843009213693952 : Int)) ∧ (Dx.Sm (68719476736 : Nat) (shiftD (oneD x) ((0 : Int) - ((oneD x).e + (↑(blen (Dx.m (oneD x))) : Int) - (1 : Int)))) ∧ Dx.Sm (68719476736 : Nat) (shiftD (mkS (3 : Int) (0 : Int)) (-1 : Int))) ∧ true = true ∧ br (leI (0 : Int) (cmpD (shiftD (oneD x) ((0 : Int) - ((oneD x).e + (↑(blen (Dx.m (oneD x))) : Int) - (1 : Int)))) (shiftD (mkS (3 : Int) (0 : Int)) (-1 : Int)))) (inR ((oneD x).e + (↑(blen (Dx.m (oneD x))) : Int) - (1 : Int) + (1 : Int)) ∧ ((-2305843009213693952 : Int) ≤ (shiftD (oneD x) ((0 : Int) - ((oneD x).e + (↑(blen (Dx.m (oneD x))) : Int) - (1 : Int)))).e ∧ (shiftD (oneD x) ((0 : Int) - ((oneD x).e + (↑(blen (Dx.m (oneD x))) : Int) - (1 : Int)))).e ≤ (2305843009213693952 : Int) ∧ (-2305843009213693952 : Int) ≤ (-1 : Int) ∧ (-1 : Int) ≤ (2305843009213693952 : Int)) ∧ br (!Dx.fitsB (shiftD (shiftD (oneD x) ((0 : Int) - ((oneD x).e + (↑(blen (Dx.m (oneD x))) : Int) - (1 : Int)))) (-1 : Int))) (Q (Tv.tup [Sv.one (At.int .i64 0), Sv.agg [At.bool false, At.words true [], At.int .i64 0], Sv.one (At.int .i64 3)])) (true = true ∧ Q (Tv.tup [Sv.one (At.int .i64 ((oneD x).e + (↑(blen (Dx.m (oneD x))) : Int) - (1 : Int) + (1 : Int))), Sv.agg (dyL true (shiftD (shiftD (oneD x) ((0 : Int) - ((oneD x).e + (↑(blen (Dx.m (oneD x))) : Int) - (1 : Int)))) (-1 : Int))), Sv.one (At.int .i64 0)]))) (br (!Dx.fitsB (shiftD (oneD x) ((0 : Int) - ((oneD x).e + (↑(blen (Dx.m (oneD x))) : Int) - (1 : Int))))) (Q (Tv.tup [Sv.one (At.int .i64 0), Sv.agg [At.bool false, At.words true [], At.int .i64 0], Sv.one (At.int .i64 3)])) (true = true ∧ Q (Tv.tup [Sv.one (At.int .i64 ((oneD x).e + (↑(blen (Dx.m (oneD x))) : Int) - (1 : Int))), Sv.agg (dyL true (shiftD (oneD x) ((0 : Int) - ((oneD x).e + (↑(blen (Dx.m (oneD x))) : Int) - (1 : Int))))), Sv.one (At.int .i64 0)]))))))) := by kernel_rfl
def qScale : Spec := specK [.d] fun (x : Dx) => (none, turT (scaR x))
theorem scM_bd {y : Dx} (hy : 0 ≤ y.m) (h : y.Bd 32768 98304) : (scM y).Bd 131080 131080 ∧ (shiftD (scM y) (-1)).Bd 131081 131080 := by
  have b1 := h.lo
  have b2 := h.hi
  have e : topD y = y.e + blen y.m - 1 := rfl
  have a : (scM y).Bd 131080 131080 := h.shift hy (by omega) (by omega) (by omega) (by omega)
  exact ⟨a, shift_bd' shiftD_p a⟩
theorem mkS3_bd : (mkS 3 0).Bd 2 2 := mkS_bd (by omega) (by omega) (by omega) (by show 0 + ((blen 3 : Nat) : Int) ≤ 2; rw [show blen 3 = 2 by decide]; omega)
theorem qScale_ok : SpecOk Tryz.prog 36 qScale :=
  specKW_ok (envOk tys6_ok sRed_ok) mixed Tryz.func36 rfl (by decide) (by decide) fun (x : Dx) hxw _ => ⟨fun _ => none, 0, by
    have hx := Dx.Wf.m0 hxw
    show execF _ _ _ _ _ (fun t => t = turT (scaR x) ∨ fgT t = turT (scaR x))
    refine (qScale_vc x _).mpr (br_intro (fun h => .inr ?_) fun h => ?_)
    · rw [scaR, if_neg (by rw [not_true h]; simp)]; rfl
    have h := not_false' h
    have bx := (fits_bd h).one hx
    have xe := fits_e h
    obtain ⟨bm, bm'⟩ := scM_bd oneD_p bx
    have b3 := mkS3_bd
    have b1 := bx.lo
    have b2 := bx.hi
    have te : (oneD x).e + (blen (oneD x).m : Int) - 1 = topD (oneD x) := rfl
    have em : shiftD (oneD x) (0 - topD (oneD x)) = scM (oneD x) := by unfold scM; rw [Int.zero_sub]
    have e3 : shiftD (mkS 3 0) (-1) = sc32 := rfl
    rw [scaR, if_pos h, te, em, e3]
    refine ⟨⟨by omega, by omega⟩, br_intro (fun h1 => .inr ?_) fun h1 => ?_⟩
    · rw [if_neg (by rw [not_true h1]; simp)]; rfl
    rw [if_pos (not_false' h1)]
    refine br_intro (fun h2 => .inr ?_) fun h2 => ?_
    · rw [if_pos (leI_true.1 h2)]; rfl
    rw [if_neg (leI_false.1 h2)]
    have m1 := bm.lo
    have m2 := bm.hi
    have l3 := b3.lo
    have u3 := b3.hi
    refine ⟨⟨by omega, by omega⟩, ⟨by omega, by omega⟩, ⟨by omega, by omega, by omega, by omega⟩, ⟨by omega, by omega⟩, ⟨by omega, by omega, by omega, by omega⟩, ⟨bm.sm (by omega), (shift_bd' mkS_p b3).sm (by omega)⟩, rfl, br_intro (fun h4 => ?_) fun h4 => ?_⟩
    · have c := leI_true.1 h4
      have k1 : scK (oneD x) = topD (oneD x) + 1 := if_pos c
      have k2 : scX (oneD x) = shiftD (scM (oneD x)) (-1) := if_pos c
      rw [k1, k2]
      refine ⟨⟨by omega, by omega⟩, ⟨by omega, by omega, by omega, by omega⟩, br_intro (fun h5 => .inr ?_) fun h5 => ⟨rfl, .inr ?_⟩⟩
      · rw [if_neg (by rw [not_true h5]; simp)]; rfl
      · rw [if_pos (not_false' h5)]; rfl
    · have c := leI_false.1 h4
      have k1 : scK (oneD x) = topD (oneD x) := if_neg c
      have k2 : scX (oneD x) = scM (oneD x) := if_neg c
      rw [k1, k2]
      refine br_intro (fun h5 => .inr ?_) fun h5 => ⟨rfl, .inr ?_⟩
      · rw [if_neg (by rw [not_true h5]; simp)]; rfl
      · rw [if_pos (not_false' h5)]; rfl⟩
end Go.Proofs.YtdnbckfhfhfkoaaGreatDoor

namespace Go.Proofs.YtdnbckfhfhfkoaaGreatDoor
open Go.RowKit
section
variable {n w : Int} (h : InvOk n w)
include h
end
end Go.Proofs.YtdnbckfhfhfkoaaGreatDoor

namespace Go.Proofs.YtdnbckfhfhfkoaaGreatDoor
open Go.RowKit
def sQh1 : List (FuncId × Spec) := [(56, hNear), (81, hBy4), (57, gDiv), (58, gLess)] ++ sG3
theorem sQh1_ok : SpecsOk Tryz.prog sQh1 := ⟨hNear_ok, hBy4_ok, gDiv_ok, gLess_ok, sG3_ok⟩
theorem canon_cases (x : Dx) : (x.fitsB = true ∧ (oneD x).fitsB = true ∧ canonD x = (oneD x, 0)) ∨ (x.fitsB = true ∧ (oneD x).fitsB = false ∧ (canonD x).2 = 3) ∨ (x.fitsB = false ∧ (canonD x).2 = 2) := by
  unfold canonD roomD
  cases h : x.fitsB <;> cases k : (oneD x).fitsB <;> simp
theorem hTurns_vc (x : Dx) (Q : Tv → Prop) : execF ⟨tys2, sQh1⟩ (fun _ => none) 0 Tryz.f35 [.agg (dyL false x)] Q = (br (neI (canonD x).snd (0 : Int)) (Q (Tv.tup [Sv.one (At.int .i64 0), Sv.agg [At.bool false, At.words true [], At.int .i64 0], Sv.one (At.int .i64 (canonD x).snd)])) ((eB (2305843009213693952 : Int) (canonD x).fst ∧ (-2305843009213693952 : Int) ≤ (1 : Int) ∧ (1 : Int) ≤ (2305843009213693952 : Int)) ∧ Dx.Sm (268435456 : Nat) (shiftD (canonD x).fst (1 : Int)) ∧ (eB (2305843009213693952 : Int) (nearD (shiftD (canonD x).fst (1 : Int))) ∧ (-2305843009213693952 : Int) ≤ (-1 : Int) ∧ (-1 : Int) ≤ (2305843009213693952 : Int)) ∧ (Dx.Sm (34359738368 : Nat) (canonD x).fst ∧ Dx.Sm (34359738368 : Nat) (shiftD (nearD (shiftD (canonD x).fst (1 : Int))) (-1 : Int))) ∧ true = true ∧ br (!Dx.fitsB (lessD (canonD x).fst (shiftD (nearD (shiftD (canonD x).fst (1 : Int))) (-1 : Int)))) (Q (Tv.tup [Sv.one (At.int .i64 0), Sv.agg [At.bool false, At.words true [], At.int .i64 0], Sv.one (At.int .i64 3)])) ((OneF (nearD (shiftD (canonD x).fst (1 : Int))) ∧ (0 : Int) ≤ (nearD (shiftD (canonD x).fst (1 : Int))).e) ∧ true = true ∧ Q (Tv.tup [Sv.one (At.int .i64 (by4I (nearD (shiftD (canonD x).fst (1 : Int))))), Sv.agg (dyL true (lessD (canonD x).fst (shiftD (nearD (shiftD (canonD x).fst (1 : Int))) (-1 : Int)))), Sv.one (At.int .i64 0)])))) := by kernel_rfl
def hTurns : Spec := specK [.d] fun (x : Dx) => (none, turT (turR x))
theorem hTurns_ok : SpecOk Tryz.prog 35 hTurns :=
  specKW_ok (envOk tys2_ok sQh1_ok) mixed Tryz.func35 rfl (by decide) (by decide) fun (x : Dx) hxw _ => ⟨fun _ => none, 0, by
    have hx := Dx.Wf.m0 hxw
    show execF _ _ _ _ _ (fun t => t = turT (turR x) ∨ fgT t = turT (turR x))
    refine (hTurns_vc x _).mpr ?_
    rcases canon_cases x with ⟨c1, c2, c3⟩ | ⟨c1, c2, c3⟩ | ⟨c1, c3⟩
    · rw [c3]
      have bx := (fits_bd c1).one hx
      obtain ⟨bn, br'⟩ := turX_bd oneD_p bx
      rw [turR, if_pos c1]
      refine br_intro (fun h => by cases h) fun _ => ⟨⟨(bx.sm (N := 131072) (by omega)).eB (by omega), by omega, by omega⟩, (shift_bd oneD_p bx).sm (by omega), ⟨(bn.sm (N := 131080) (by omega)).eB (by omega), by omega, by omega⟩, ⟨bx.sm (by omega), (shift_bd' nearD_p bn).sm (by omega)⟩, rfl, br_intro (fun h2 => .inr ?_) fun h2 => ⟨⟨nearD_f, nearD_e⟩, rfl, .inr ?_⟩⟩
      · rw [if_neg (by rw [show (turX (oneD x)).fitsB = false from not_true h2]; simp)]; rfl
      · rw [if_pos ⟨c2, not_false' h2⟩]; rfl
    · rw [c3, turR, if_pos c1, if_neg (by rw [c2]; simp)]
      exact br_intro (fun _ => .inr rfl) fun h => by cases h
    · rw [c3, turR, if_neg (by rw [c1]; simp)]
      exact br_intro (fun _ => .inr rfl) fun h => by cases h⟩
theorem hSplit_vc (x : Dx) (Q : Tv → Prop) : execF ⟨tys2, sQh1⟩ (fun _ => none) 0 Tryz.f39 [.agg (dyL false x)] Q = (br (neI (canonD x).snd (0 : Int)) (Q (Tv.tup [Sv.agg [At.bool false, At.words true [], At.int .i64 0], Sv.agg [At.bool false, At.words true [], At.int .i64 0], Sv.one (At.int .i64 (canonD x).snd)])) (Dx.Sm (268435456 : Nat) (canonD x).fst ∧ (Dx.Sm (34359738368 : Nat) (canonD x).fst ∧ Dx.Sm (34359738368 : Nat) (nearD (canonD x).fst)) ∧ br (!Dx.fitsB (nearD (canonD x).fst)) (Q (Tv.tup [Sv.agg [At.bool false, At.words true [], At.int .i64 0], Sv.agg [At.bool false, At.words true [], At.int .i64 0], Sv.one (At.int .i64 3)])) (br (!Dx.fitsB (lessD (canonD x).fst (nearD (canonD x).fst))) (Q (Tv.tup [Sv.agg [At.bool false, At.words true [], At.int .i64 0], Sv.agg [At.bool false, At.words true [], At.int .i64 0], Sv.one (At.int .i64 3)])) (true = true ∧ Q (Tv.tup [Sv.agg (dyL true (nearD (canonD x).fst)), Sv.agg (dyL true (lessD (canonD x).fst (nearD (canonD x).fst))), Sv.one (At.int .i64 0)]))))) := by kernel_rfl
def hSplit : Spec := specK [.d] fun (x : Dx) => (none, splT (splR x))
theorem hSplit_ok : SpecOk Tryz.prog 39 hSplit :=
  specKW_ok (envOk tys2_ok sQh1_ok) mixed Tryz.func39 rfl (by decide) (by decide) fun (x : Dx) hxw _ => ⟨fun _ => none, 0, by
    have hx := Dx.Wf.m0 hxw
    show execF _ _ _ _ _ (fun t => t = splT (splR x) ∨ fgT t = splT (splR x))
    refine (hSplit_vc x _).mpr ?_
    rcases canon_cases x with ⟨c1, c2, c3⟩ | ⟨c1, c2, c3⟩ | ⟨c1, c3⟩
    · rw [c3]
      have bx := (fits_bd c1).one hx
      have bn := near_bd oneD_p bx
      rw [splR, if_pos c1, if_pos c2]
      refine br_intro (fun h => by cases h) fun _ => ⟨bx.sm (by omega), ⟨bx.sm (by omega), bn.sm (by omega)⟩, br_intro (fun h2 => .inr ?_) fun h2 => br_intro (fun h3 => .inr ?_) fun h3 => ⟨rfl, .inr ?_⟩⟩
      · rw [if_neg (by rw [show (spN (oneD x)).fitsB = false from not_true h2]; simp)]; rfl
      · rw [if_neg (by rw [show (lessD (oneD x) (spN (oneD x))).fitsB = false from not_true h3]; simp)]; rfl
      · rw [if_pos ⟨not_false' h2, not_false' h3⟩]; rfl
    · rw [c3, splR, if_pos c1, if_neg (by rw [c2]; simp)]
      exact br_intro (fun _ => .inr rfl) fun h => by cases h
    · rw [c3, splR, if_neg (by rw [c1]; simp)]
      exact br_intro (fun _ => .inr rfl) fun h => by cases h⟩
theorem hScale_vc (x : Dx) (Q : Tv → Prop) : execF ⟨tys2, sQh1⟩ (fun _ => none) 0 Tryz.f37 [.agg (dyL false x)] Q = (br (neI (canonD x).snd (0 : Int)) (Q (Tv.tup [Sv.one (At.int .i64 0), Sv.agg [At.bool false, At.words true [], At.int .i64 0], Sv.one (At.int .i64 (canonD x).snd)])) (br (leI (Dx.sgn (canonD x).fst) (0 : Int)) (Q (Tv.tup [Sv.one (At.int .i64 0), Sv.agg [At.bool false, At.words true [], At.int .i64 0], Sv.one (At.int .i64 5)])) (eB (2305843009213693952 : Int) (canonD x).fst ∧ inR ((0 : Int) - ((canonD x).fst.e + (↑(blen (Dx.m (canonD x).fst)) : Int) - (1 : Int))) ∧ (eB (2305843009213693952 : Int) (canonD x).fst ∧ (-2305843009213693952 : Int) ≤ (0 : Int) - ((canonD x).fst.e + (↑(blen (Dx.m (canonD x).fst)) : Int) - (1 : Int)) ∧ (0 : Int) - ((canonD x).fst.e + (↑(blen (Dx.m (canonD x).fst)) : Int) - (1 : Int)) ≤ (2305843009213693952 : Int)) ∧ Word (3 : Int) ∧ (Dx.Sm (34359738368 : Nat) (shiftD (canonD x).fst ((0 : Int) - ((canonD x).fst.e + (↑(blen (Dx.m (canonD x).fst)) : Int) - (1 : Int)))) ∧ Dx.Sm (34359738368 : Nat) (Dx.mk false (ws (3 : Int)) (-1 : Int))) ∧ true = true ∧ br (leI (0 : Int) (cmpD (shiftD (canonD x).fst ((0 : Int) - ((canonD x).fst.e + (↑(blen (Dx.m (canonD x).fst)) : Int) - (1 : Int)))) (Dx.mk false (ws (3 : Int)) (-1 : Int)))) (inR ((canonD x).fst.e + (↑(blen (Dx.m (canonD x).fst)) : Int) - (1 : Int) + (1 : Int)) ∧ (eB (2305843009213693952 : Int) (shiftD (canonD x).fst ((0 : Int) - ((canonD x).fst.e + (↑(blen (Dx.m (canonD x).fst)) : Int) - (1 : Int)))) ∧ (-2305843009213693952 : Int) ≤ (-1 : Int) ∧ (-1 : Int) ≤ (2305843009213693952 : Int)) ∧ br (!Dx.fitsB (shiftD (shiftD (canonD x).fst ((0 : Int) - ((canonD x).fst.e + (↑(blen (Dx.m (canonD x).fst)) : Int) - (1 : Int)))) (-1 : Int))) (Q (Tv.tup [Sv.one (At.int .i64 0), Sv.agg [At.bool false, At.words true [], At.int .i64 0], Sv.one (At.int .i64 3)])) (true = true ∧ Q (Tv.tup [Sv.one (At.int .i64 ((canonD x).fst.e + (↑(blen (Dx.m (canonD x).fst)) : Int) - (1 : Int) + (1 : Int))), Sv.agg (dyL true (shiftD (shiftD (canonD x).fst ((0 : Int) - ((canonD x).fst.e + (↑(blen (Dx.m (canonD x).fst)) : Int) - (1 : Int)))) (-1 : Int))), Sv.one (At.int .i64 0)]))) (br (!Dx.fitsB (shiftD (canonD x).fst ((0 : Int) - ((canonD x).fst.e + (↑(blen (Dx.m (canonD x).fst)) : Int) - (1 : Int))))) (Q (Tv.tup [Sv.one (At.int .i64 0), Sv.agg [At.bool false, At.words true [], At.int .i64 0], Sv.one (At.int .i64 3)])) (true = true ∧ Q (Tv.tup [Sv.one (At.int .i64 ((canonD x).fst.e + (↑(blen (Dx.m (canonD x).fst)) : Int) - (1 : Int))), Sv.agg (dyL true (shiftD (canonD x).fst ((0 : Int) - ((canonD x).fst.e + (↑(blen (Dx.m (canonD x).fst)) : Int) - (1 : Int))))), Sv.one (At.int .i64 0)])))))) := by kernel_rfl
def hScale : Spec := specK [.d] fun (x : Dx) => (none, turT (scaR x))
def d32 : Dx := ⟨false, ws 3, -1⟩
theorem d32_m : d32.m = 3 := val_ws (by decide)
theorem d32_rv : d32.rv = sc32.rv := by
  have h1 : d32.rv = 3 / 2 := by
    have : d32.sm = 3 := by unfold Dx.sm; rw [d32_m]; rfl
    unfold Dx.rv; rw [this]; decide +kernel
  have h2 : sc32.rv = 3 / 2 := by
    unfold sc32; rw [rv_shift mkS_p, rv_mkS]; decide +kernel
  rw [h1, h2]
theorem d32_bd : d32.Bd 2 2 := ⟨by omega, by omega, by show -2 ≤ -1; omega, by rw [d32_m, show blen 3 = 2 by decide]; show (-1 : Int) + 2 ≤ 2; omega⟩
theorem hScale_ok : SpecOk Tryz.prog 37 hScale :=
  specKW_ok (envOk tys2_ok sQh1_ok) mixed Tryz.func37 rfl (by decide) (by decide) fun (x : Dx) hxw _ => ⟨fun _ => none, 0, by
    have hx := Dx.Wf.m0 hxw
    show execF _ _ _ _ _ (fun t => t = turT (scaR x) ∨ fgT t = turT (scaR x))
    refine (hScale_vc x _).mpr ?_
    rcases canon_cases x with ⟨c1, c2, c3⟩ | ⟨c1, c2, c3⟩ | ⟨c1, c3⟩
    · rw [c3]
      have bx := (fits_bd c1).one hx
      obtain ⟨bm, bm'⟩ := scM_bd oneD_p bx
      have b1 := bx.lo
      have b2 := bx.hi
      have te : (oneD x).e + (blen (oneD x).m : Int) - 1 = topD (oneD x) := rfl
      have em : shiftD (oneD x) (0 - topD (oneD x)) = scM (oneD x) := by unfold scM; rw [Int.zero_sub]
      have e3 : (⟨false, ws 3, -1⟩ : Dx) = d32 := rfl
      rw [scaR, if_pos c1, if_pos c2]
      refine br_intro (fun h => by cases h) fun _ => br_intro (fun h2 => .inr ?_) fun h2 => ?_
      · rw [if_pos (leI_true.1 h2)]; rfl
      dsimp only
      rw [if_neg (leI_false.1 h2), te, em, e3, cmpD_congr (a := scM (oneD x)) rfl d32_rv]
      have sx := (bx.sm (N := 131072) (by omega)).eB (M := 2305843009213693952) (by omega)
      have sm := (bm.sm (N := 262160) (by omega))
      refine ⟨sx, ⟨by omega, by omega⟩, ⟨sx, by omega, by omega⟩, ⟨by omega, by omega⟩, ⟨sm.mono (by omega), d32_bd.sm (by omega)⟩, rfl, br_intro (fun h4 => ?_) fun h4 => ?_⟩
      · have c := leI_true.1 h4
        have k1 : scK (oneD x) = topD (oneD x) + 1 := if_pos c
        have k2 : scX (oneD x) = shiftD (scM (oneD x)) (-1) := if_pos c
        rw [k1, k2]
        refine ⟨⟨by omega, by omega⟩, ⟨sm.eB (by omega), by omega, by omega⟩, br_intro (fun h5 => .inr ?_) fun h5 => ⟨rfl, .inr ?_⟩⟩
        · rw [if_neg (by rw [not_true h5]; simp)]; rfl
        · rw [if_pos (not_false' h5)]; rfl
      · have c := leI_false.1 h4
        have k1 : scK (oneD x) = topD (oneD x) := if_neg c
        have k2 : scX (oneD x) = scM (oneD x) := if_neg c
        rw [k1, k2]
        refine br_intro (fun h5 => .inr ?_) fun h5 => ⟨rfl, .inr ?_⟩
        · rw [if_neg (by rw [not_true h5]; simp)]; rfl
        · rw [if_pos (not_false' h5)]; rfl
    · rw [c3, scaR, if_pos c1, if_neg (by rw [c2]; simp)]
      exact br_intro (fun _ => .inr rfl) fun h => by cases h
    · rw [c3, scaR, if_neg (by rw [c1]; simp)]
      exact br_intro (fun _ => .inr rfl) fun h => by cases h⟩
end Go.Proofs.YtdnbckfhfhfkoaaGreatDoor

namespace Go.Proofs.YtdnbckfhfhfkoaaGreatDoor
open Go.RowKit
theorem Dn.close {p : Int} {q r A : Rat} (h : Dn p q r) (hp : 1 ≤ p) (h1 : -A ≤ q) (h2 : q ≤ A) : q - eps p * A ≤ r ∧ r ≤ q := by
  have e0 := eps_pos p
  refine ⟨?_, h.2.1⟩
  rcases (show 0 < q ∨ q = 0 ∨ q < 0 by grind) with c | c | c
  · have r1 := (h.rel hp c).1
    have m := Rat.mul_le_mul_of_nonneg_left h2 (Rat.le_of_lt e0)
    grind
  · subst c
    have := h.2.2 0 (Rp.zero p) Rat.le_refl
    have m := Rat.mul_le_mul_of_nonneg_left h2 (Rat.le_of_lt e0)
    grind
  · have r1 := h.neg.rel hp (show 0 < -q by grind)
    have m := Rat.mul_le_mul_of_nonneg_left (show -q ≤ A by grind) (Rat.le_of_lt e0)
    grind
theorem Up.close {p : Int} {q r A : Rat} (h : Up p q r) (hp : 1 ≤ p) (h1 : -A ≤ q) (h2 : q ≤ A) : q ≤ r ∧ r ≤ q + eps p * A := by
  have := h.neg.close hp (A := A) (by grind) (by grind)
  constructor <;> grind
theorem mul_bd {x a b A : Rat} (hx1 : -A ≤ x) (hx2 : x ≤ A) {d : Rat} (h1 : a - b ≤ d) (h2 : b - a ≤ d) : x * a - x * b ≤ A * d ∧ x * b - x * a ≤ A * d := by
  have d0 : 0 ≤ d := by grind
  have A0 : 0 ≤ A := by grind
  rcases (show 0 ≤ x ∨ x ≤ 0 by grind) with s | s
  · have m1 := Rat.mul_le_mul_of_nonneg_left h1 s
    have m2 := Rat.mul_le_mul_of_nonneg_left h2 s
    have m3 := Rat.mul_le_mul_of_nonneg_right hx2 d0
    constructor <;> grind
  · have m1 := Rat.mul_le_mul_of_nonneg_left h1 (show 0 ≤ -x by grind)
    have m2 := Rat.mul_le_mul_of_nonneg_left h2 (show 0 ≤ -x by grind)
    have m3 := Rat.mul_le_mul_of_nonneg_right (show -x ≤ A by grind) d0
    constructor <;> grind
theorem inv_close {a b d : Rat} (ha : 3 / 2 ≤ a) (hb : 3 / 2 ≤ b) (h1 : a - b ≤ d) (h2 : b - a ≤ d) : a⁻¹ - b⁻¹ ≤ d ∧ b⁻¹ - a⁻¹ ≤ d := by
  obtain ⟨a0, a1⟩ := inv_le1 ha
  obtain ⟨b0, b1⟩ := inv_le1 hb
  have ea := Rat.inv_mul_cancel a (by grind)
  have eb := Rat.inv_mul_cancel b (by grind)
  have d0 : 0 ≤ d := by grind
  have p0 := Rat.mul_nonneg (Rat.le_of_lt a0) (Rat.le_of_lt b0)
  have p1 : a⁻¹ * b⁻¹ ≤ 1 := by
    have := Rat.mul_le_mul_of_nonneg_left (show b⁻¹ ≤ 1 by grind) (Rat.le_of_lt a0)
    grind
  have e1 : a⁻¹ - b⁻¹ = (a⁻¹ * b⁻¹) * (b - a) := by
    have x1 : (a⁻¹ * b⁻¹) * b = a⁻¹ := by rw [Rat.mul_assoc, eb, Rat.mul_one]
    have x2 : (a⁻¹ * b⁻¹) * a = b⁻¹ := by rw [Rat.mul_comm a⁻¹, Rat.mul_assoc, ea, Rat.mul_one]
    grind
  have m1 := Rat.mul_le_mul_of_nonneg_left h2 p0
  have m2 := Rat.mul_le_mul_of_nonneg_left h1 p0
  have m3 := Rat.mul_le_mul_of_nonneg_right p1 d0
  constructor <;> grind
section
variable {d : Rat} {h : Vx} (k : HfIv d h) {x : Dx} (hx : 0 ≤ x.m) {w : Int} (hw : 1 ≤ w)
include k hx hw
omit hx hw in
theorem HfIv.d0 : 0 ≤ d := by
  have := k.nar
  have := k.le
  grind
theorem quoW_close {A c : Rat} (hc : InV h c) (h1 : -A ≤ x.rv) (h2 : x.rv ≤ A) :
    x.rv * c⁻¹ - A * (d + eps w) ≤ (quoW h x w).lo.rv ∧ (quoW h x w).hi.rv ≤ x.rv * c⁻¹ + A * (d + eps w) := by
  have A0 : 0 ≤ A := by grind
  have cl := hc.1
  have ch := hc.2
  have l := k.lo
  have nr := k.nar
  obtain ⟨⟨a, b, hcor, e1⟩, ⟨a', b', hcor', e2⟩⟩ := div_at (pointV x) h w
  obtain ⟨p1, p2'⟩ := pointV_rv hx
  have le := k.le
  have ra : ∀ {a b : Dx}, Cor (pointV x) h a b → a.rv = x.rv ∧ (x.rv * b.rv⁻¹ - x.rv * c⁻¹ ≤ A * d ∧ x.rv * c⁻¹ - x.rv * b.rv⁻¹ ≤ A * d) ∧ -A ≤ x.rv * b.rv⁻¹ ∧ x.rv * b.rv⁻¹ ≤ A := fun {a b} hcor => by
    have hb : 3 / 2 ≤ b.rv ∧ b.rv - c ≤ d ∧ c - b.rv ≤ d := by
      rcases hcor.2 with e | e <;> rw [e] <;> exact ⟨by grind, by grind, by grind⟩
    obtain ⟨i1, i2⟩ := inv_close hb.1 (show 3 / 2 ≤ c by grind) hb.2.1 hb.2.2
    obtain ⟨i0, i3⟩ := inv_le1 hb.1
    refine ⟨by rcases hcor.1 with e | e <;> rw [e]; exact p1; exact p2', mul_bd h1 h2 i1 i2, ?_⟩
    rcases (show 0 ≤ x.rv ∨ x.rv ≤ 0 by grind) with s | s
    · have m1 := Rat.mul_le_mul_of_nonneg_left (show b.rv⁻¹ ≤ 1 by grind) s
      have m0 := Rat.mul_nonneg s (Rat.le_of_lt i0)
      constructor <;> grind
    · have m1 := Rat.mul_le_mul_of_nonneg_left (show b.rv⁻¹ ≤ 1 by grind) (show 0 ≤ -x.rv by grind)
      have m0 := Rat.mul_nonneg (show 0 ≤ -x.rv by grind) (Rat.le_of_lt i0)
      constructor <;> grind
  obtain ⟨r1, r2, r3, r4⟩ := ra hcor
  obtain ⟨s1, s2, s3, s4⟩ := ra hcor'
  have c1 := (hcor.best (pointV_p x) k.p k.off le hw).2.1
  have c2 := (hcor'.best (pointV_p x) k.p k.off le hw).2.2
  rw [r1] at c1
  rw [s1] at c2
  have b1 := c1.close hw r3 r4
  have b2 := c2.close hw s3 s4
  have eA : A * (d + eps w) = A * d + eps w * A := by grind
  rw [eA]
  show _ ≤ (divV (pointV x) h w).lo.rv ∧ (divV (pointV x) h w).hi.rv ≤ _
  rw [e1, e2]
  constructor <;> grind
theorem restW_close {A B c : Rat} (hc : InV h c) (h1 : -A ≤ x.rv) (h2 : x.rv ≤ A) (n1 : -B ≤ (nI h x w : Rat)) (n2 : (nI h x w : Rat) ≤ B) (_ : d ≤ 1) (he : eps w ≤ 1) :
    x.rv - (nI h x w : Rat) * c - (B * d + eps w * (A + 8 * B)) ≤ (restW h x w).lo.rv ∧ (restW h x w).hi.rv ≤ x.rv - (nI h x w : Rat) * c + (B * d + eps w * (A + 8 * B)) := by
  have cl := hc.1
  have ch := hc.2
  have l := k.lo
  have hi := k.hi
  have nr := k.nar
  have le := k.le
  have d0 := k.d0
  have e0 := eps_pos w
  have B0 : 0 ≤ B := by grind
  have A0 : 0 ≤ A := by grind
  have en : (nW h x w).rv = (nI h x w : Rat) := (wholeS_rv nearD_e).symm
  have np : 0 ≤ (nW h x w).m := nearD_p
  obtain ⟨q1, q2⟩ := pointV_rv np
  obtain ⟨p1, p2'⟩ := pointV_rv hx
  obtain ⟨⟨x0, y0, hx0, hy0, g1⟩, ⟨x1, y1, hx1, hy1, g2⟩⟩ := prod_at (pointV_p (nW h x w)) k.p
  have x0e : x0 = (nI h x w : Rat) := by rcases hx0 with e | e <;> rw [e, ← en]; exact q1; exact q2
  have x1e : x1 = (nI h x w : Rat) := by rcases hx1 with e | e <;> rw [e, ← en]; exact q1; exact q2
  have yb : ∀ y, (y = h.lo.rv ∨ y = h.hi.rv) → y - c ≤ d ∧ c - y ≤ d ∧ 0 ≤ y ∧ y ≤ 2 := fun y hy => by rcases hy with e | e <;> rw [e] <;> exact ⟨by grind, by grind, by grind, by grind⟩
  obtain ⟨a1, a2, a3, a4⟩ := yb y0 hy0
  obtain ⟨b1, b2, b3, b4⟩ := yb y1 hy1
  generalize (nI h x w : Rat) = n at *
  have m0 := mul_bd n1 n2 a1 a2
  have m1 := mul_bd n1 n2 b1 b2
  have by2 : ∀ y, 0 ≤ y → y ≤ 2 → -(2 * B) ≤ n * y ∧ n * y ≤ 2 * B := fun y h0 h2 => by
    have := mul_bd n1 n2 (a := y) (b := 0) (d := 2) (by grind) (by grind)
    constructor <;> grind
  have f0 := by2 y0 a3 a4
  have f1 := by2 y1 b3 b4
  rw [x0e] at g1
  rw [x1e] at g2
  obtain ⟨t1, t2⟩ := times_best (v := pointV (nW h x w)) (u := h) (p := w + 64) (by omega) (pointV_p _) k.p
  rw [g1] at t1
  rw [g2] at t2
  have u1 := t1.close (by omega) f0.1 f0.2
  have u2 := t2.close (by omega) f1.1 f1.2
  have ee : eps (w + 64) ≤ eps w := p2_le (by omega)
  have v1 := Rat.mul_le_mul_of_nonneg_right ee (show 0 ≤ 2 * B by grind)
  have v2 := Rat.mul_le_mul_of_nonneg_right he (show 0 ≤ 2 * B by grind)
  obtain ⟨l1, l2⟩ := less_best (v := pointV x) (u := timesV (pointV (nW h x w)) h (w + 64)) (pointV_p x) (trimV_p _ _) hw
  rw [p1] at l1
  rw [p2'] at l2
  have k1 := l1.close hw (A := A + 4 * B) (by grind) (by grind)
  have k2 := l2.close hw (A := A + 4 * B) (by grind) (by grind)
  have eE : B * d + eps w * (A + 8 * B) = B * d + eps w * (2 * B) + eps w * (A + 4 * B) + eps w * (2 * B) := by grind
  have z := Rat.mul_nonneg (Rat.le_of_lt e0) (show 0 ≤ 2 * B by grind)
  rw [eE]
  show _ ≤ (restW h x w).lo.rv ∧ (restW h x w).hi.rv ≤ _
  unfold restW
  constructor <;> grind
end
theorem p2_1 (a : Int) : p2 (a + 1) = 2 * p2 a := two_p2 a
theorem quart_ok {d : Rat} {h : Vx} (k : HfIv d h) {x : Dx} (hx : 0 ≤ x.m) {w : Int} (hw : 1 ≤ w) (hw2 : w ≤ 16384) {A B c : Rat} (hc : InV h c) (h1 : -A ≤ x.rv) (h2 : x.rv ≤ A) {m a p : Int} (m1 : -B ≤ (m : Rat)) (m2 : (m : Rat) ≤ B)
    (g1 : (m : Rat) - 1 / 2 + A * (d + eps w) < x.rv * c⁻¹) (g2 : x.rv * c⁻¹ < (m : Rat) + 1 / 2 - A * (d + eps w)) (hd : d ≤ 1) (he : eps w ≤ 1)
    (hr : p2 (a + 1) ≤ x.rv - (m : Rat) * c ∨ x.rv - (m : Rat) * c ≤ -(p2 (a + 1))) (p0 : 0 ≤ p) (hE : 2 * (B * d + eps w * (A + 8 * B)) ≤ p2 (a - p)) (ha0 : a ≤ 0) (ha1 : -16384 ≤ a) :
    sureW h x w = true ∧ nI h x w = m ∧ rightV (restW h x w) = true ∧ narrowB (restW h x w) p = true := by
  have A0 : 0 ≤ A := by grind
  have d0 := k.d0
  have ep := eps_pos w
  have η0 : 0 ≤ A * (d + eps w) := Rat.mul_nonneg A0 (by grind)
  obtain ⟨q1, q2⟩ := quoW_close k hx hw hc h1 h2
  obtain ⟨i1, i2⟩ := quoW_in k hx hw hc
  have n1 : NearI m (quoW h x w).lo.rv := ⟨by grind, by grind, fun e => by exfalso; rcases e with e | e <;> grind⟩
  have n2 : NearI m (quoW h x w).hi.rv := ⟨by grind, by grind, fun e => by exfalso; rcases e with e | e <;> grind⟩
  have e1 : nI h x w = m := (nW_near (h := h) (x := x) (w := w)).uniq n1
  have e2 : wholeS (nearD (quoW h x w).hi) = m := (nearD_whole (d := (quoW h x w).hi) (divV_p _ _ _).2).uniq n2
  have sure : sureW h x w = true := by
    unfold sureW
    refine eqI_true.2 (cmpD_eq0.2 ?_)
    have : (nW h x w).rv = (nearD (quoW h x w).hi).rv := nearD_eq.2 (show wholeS (nW h x w) = _ by rw [e2]; exact e1)
    exact this
  obtain ⟨r1, r2⟩ := restW_close k hx hw hc h1 h2 (B := B) (by rw [e1]; exact m1) (by rw [e1]; exact m2) hd he
  obtain ⟨r3, r4⟩ := rest_in k hx hw hc
  rw [e1] at r1 r2 r3 r4
  have c0 : 0 < c := by have := k.lo; have := hc.1; grind
  have c2 : c ≤ 2 := by have := k.hi; have := hc.2; grind
  have xc : x.rv = x.rv * c⁻¹ * c := by rw [Rat.mul_assoc, Rat.inv_mul_cancel c (by grind), Rat.mul_one]
  have up : x.rv - (m : Rat) * c ≤ 1 ∧ -1 ≤ x.rv - (m : Rat) * c := by
    have a1 := Rat.mul_le_mul_of_nonneg_right (show x.rv * c⁻¹ - (m : Rat) ≤ 1 / 2 by grind) (Rat.le_of_lt c0)
    have a2 := Rat.mul_le_mul_of_nonneg_right (show -(1 / 2) ≤ x.rv * c⁻¹ - (m : Rat) by grind) (Rat.le_of_lt c0)
    have e : (x.rv * c⁻¹ - (m : Rat)) * c = x.rv - (m : Rat) * c := by
      conv => rhs; rw [xc]
      grind
    rw [e] at a1 a2
    constructor <;> grind
  generalize hEE : B * d + eps w * (A + 8 * B) = E at *
  generalize x.rv - (m : Rat) * c = ρ at *
  have pa : p2 (a - p) ≤ p2 a := p2_le (by omega)
  have pa1 : p2 a ≤ 1 := by have := p2_le ha0; rwa [p2_zero] at this
  have pp := p2_pos (a - p)
  rw [p2_1] at hr
  have E1 : 2 * E ≤ p2 a := by grind
  have hP : (restW h x w).P := ⟨cutD_p, cutD_p⟩
  have F : OneF (restW h x w).lo ∧ OneF (restW h x w).hi := ⟨cutD_f plusD_p, cutD_f plusD_p⟩
  obtain ⟨l1, l2⟩ := less_best (v := pointV x) (u := timesV (pointV (nW h x w)) h (w + 64)) (pointV_p x) (trimV_p _ _) hw
  have R1 : Rp w (restW h x w).lo.rv := l1.1
  have R2 : Rp w (restW h x w).hi.rv := l2.1
  have p21 : p2 1 = 2 := p2_one
  have fits : ∀ {y : Dx}, OneF y → Rp w y.rv → (p2 a ≤ y.rv ∧ y.rv ≤ 2 ∨ y.rv ≤ -(p2 a) ∧ -2 ≤ y.rv) → y.fitsB = true := fun {y} f r b => by
    have am := rv_amt f.p
    have q := p2_pos a
    rcases b with b | b
    · have e := am.1 (by grind)
      exact fits_rp f (A := a) (B := 1) r (by omega) (fun _ => by rw [← e]; exact b.1) (by rw [← e, p21]; exact b.2) (by omega) (by omega)
    · have e := am.2 (by grind)
      exact fits_rp f (A := a) (B := 1) r (by omega) (fun _ => by rw [← e]; grind) (by rw [← e, p21]; grind) (by omega) (by omega)
  have le : (restW h x w).lo.rv ≤ (restW h x w).hi.rv := by grind
  have np : p2 (a - p) = p2 (-p) * p2 a := by rw [← p2_add]; congr 1; omega
  have qa := p2_pos a
  have qp := p2_pos (-p)
  rcases hr with hr | hr
  · have f1 := fits F.1 R1 (.inl ⟨by grind, by grind⟩)
    have f2 := fits F.2 R2 (.inl ⟨by grind, by grind⟩)
    have hR := right_of f1 f2 le
    refine ⟨sure, e1, hR, narrow_of hP hR p0 (δ := p2 (-p)) (L := p2 a) (H := 2) (.inl ⟨qa, by grind, by grind, by grind, le, ?_⟩) Rat.le_refl⟩
    have m := Rat.mul_le_mul_of_nonneg_left (show p2 a ≤ (restW h x w).lo.rv by grind) (Rat.le_of_lt qp)
    grind
  · have f1 := fits F.1 R1 (.inr ⟨by grind, by grind⟩)
    have f2 := fits F.2 R2 (.inr ⟨by grind, by grind⟩)
    have hR := right_of f1 f2 le
    refine ⟨sure, e1, hR, narrow_of hP hR p0 (δ := p2 (-p)) (L := p2 a) (H := 2) (.inr ⟨qa, by grind, by grind, by grind, by grind, ?_⟩) Rat.le_refl⟩
    have m := Rat.mul_le_mul_of_nonneg_left (show p2 a ≤ -(restW h x w).hi.rv by grind) (Rat.le_of_lt qp)
    grind
end Go.Proofs.YtdnbckfhfhfkoaaGreatDoor

namespace Go.Proofs.YtdnbckfhfhfkoaaGreatDoor
open Go.RowKit
def wsK : Nat → Int → List Int
  | 0, _ => []
  | k + 1, n => if 0 < n then (n % 18446744073709551616) :: wsK k (n / 18446744073709551616) else []
theorem wsK_eq : ∀ {k : Nat} {n : Int}, n < 2 ^ k → ws n = wsK k n
  | 0, n, h => by rw [ws_nonpos (by simp at h; omega)]; rfl
  | k + 1, n, h => by
    unfold wsK
    by_cases hp : 0 < n
    · have p := two_pow_pos k
      rw [Int.pow_succ] at h
      rw [ws_pos hp, if_pos hp, wsK_eq (k := k) (by omega)]
    · rw [ws_nonpos (by omega), if_neg hp]
theorem ws_K (n : Int) : ws n = wsK (blen n) n := wsK_eq (blen_lt n)
def fitsK (d : Dx) : Bool := decide ((wsK (blen d.m) d.m).length ≤ 1024) && decide (-32768 ≤ d.e) && decide (d.e ≤ 32768)
def rightK (v : Vx) : Bool := fitsK v.lo && (fitsK v.hi && decide (cmpD v.lo v.hi ≤ 0))
theorem great_K (m : Int) : (!greatB m) = decide ((wsK (blen m) m).length ≤ 1024) := by
  unfold greatB; rw [← ws_K]
  by_cases h : (ws m).length ≤ 1024
  · rw [decide_eq_true h, decide_eq_false (by omega)]; rfl
  · rw [decide_eq_false h, decide_eq_true (by omega)]; rfl
theorem fits_K (d : Dx) : d.fitsB = fitsK d := by unfold Dx.fitsB fitsK; rw [great_K]
theorem right_K (v : Vx) : rightV v = rightK v := by unfold rightV rightK; rw [fits_K, fits_K]
end Go.Proofs.YtdnbckfhfhfkoaaGreatDoor

namespace Go.Proofs.YtdnbckfhfhfkoaaGreatDoor
open Go.RowKit
/-! ### Small numbers. -/
theorem lit_f {k e : Int} (k0 : 0 < k) (k1 : k < 18446744073709551616) (h : k % 2 = 1) : OneF ⟨false, [k], e⟩ := by
  refine ⟨false, k, e, by omega, ?_⟩
  unfold mkD
  rw [if_neg (by omega), tz_odd2 h (by omega), show k / 2 ^ 0 = k by simp, ws_pos k0, show k / 18446744073709551616 = 0 by omega, ws_zero, Int.emod_eq_of_lt (by omega) k1]
  simp
theorem lit_rv {k e : Int} : (⟨false, [k], e⟩ : Dx).rv = (k : Rat) * p2 e := by
  have : (⟨false, [k], e⟩ : Dx).sm = k := by show val [k] = k; rw [val_cons]; simp [val]
  unfold Dx.rv; rw [this]
theorem mkS_lit {k : Int} (k0 : 0 < k) (k1 : k < 18446744073709551616) (h : k % 2 = 1) : mkS k 0 = ⟨false, [k], 0⟩ := mkS_f.ext (lit_f k0 k1 h) (by rw [rv_mkS, lit_rv])
theorem p2_v : p2 0 = 1 ∧ p2 1 = 2 ∧ p2 (-1) = 1 / 2 ∧ p2 (-2) = 1 / 4 := by decide +kernel
theorem near_of {d : Dx} (hd : 0 ≤ d.m) {n : Int} (h : NearI n d.rv) : wholeS (nearD d) = n ∧ (nearD d).rv = (n : Rat) := by
  have e : wholeS (nearD d) = n := (nearD_whole hd).uniq h
  exact ⟨e, by rw [← wholeS_rv nearD_e, e]⟩
theorem beg_turn : turR ⟨false, [5], -2⟩ = (2, ⟨false, [1], -2⟩, 0) := by
  have f5 : OneF ⟨false, [5], -2⟩ := lit_f (by decide) (by decide) (by decide)
  have o5 := oneD_id f5
  have r5 : (⟨false, [5], -2⟩ : Dx).rv = 5 / 4 := by rw [lit_rv, p2_v.2.2.2]; decide +kernel
  have rs : (shiftD ⟨false, [5], -2⟩ 1).rv = 5 / 2 := by rw [rv_shift f5.p, r5, p2_v.2.1]; decide +kernel
  obtain ⟨n1, n2⟩ := near_of (d := shiftD ⟨false, [5], -2⟩ 1) shiftD_p (n := 2) (by rw [rs]; exact ⟨by decide +kernel, by decide +kernel, fun _ => by decide⟩)
  have e1 : turX ⟨false, [5], -2⟩ = ⟨false, [1], -2⟩ := (lessD_f f5.p).ext (lit_f (by decide) (by decide) (by decide)) (by
    rw [rv_less f5.p shiftD_p, rv_shift (d := turN ⟨false, [5], -2⟩) nearD_p, r5]
    have : (turN ⟨false, [5], -2⟩).rv = 2 := n2
    rw [this, lit_rv, p2_v.2.2.1, p2_v.2.2.2]; decide +kernel)
  have e2 : by4I (turN ⟨false, [5], -2⟩) = 2 := by
    show wholeS (nearD (shiftD ⟨false, [5], -2⟩ 1)) % 4 = 2
    rw [n1]; decide
  have k1 : (⟨false, [5], -2⟩ : Dx).fitsB = true := by rw [fits_K]; decide +kernel
  have k2 : (⟨false, [1], -2⟩ : Dx).fitsB = true := by rw [fits_K]; decide +kernel
  rw [turR, o5, e1, e2, if_pos k1, if_pos ⟨k1, k2⟩]
theorem beg_scale : scaR (mkS 3 0) = (2, ⟨false, [3], -2⟩, 0) := by
  have f3 : OneF ⟨false, [3], 0⟩ := lit_f (by decide) (by decide) (by decide)
  have o3 := oneD_id f3
  have r3 : (⟨false, [3], 0⟩ : Dx).rv = 3 := by rw [lit_rv, p2_v.1]; decide +kernel
  have t3 : topD ⟨false, [3], 0⟩ = 1 := by decide +kernel
  have e1 : scM ⟨false, [3], 0⟩ = ⟨false, [3], -1⟩ := (shiftD_f f3.p).ext (lit_f (by decide) (by decide) (by decide)) (by
    rw [rv_shift f3.p, r3, lit_rv, t3]; decide +kernel)
  have c : 0 ≤ cmpD (scM ⟨false, [3], 0⟩) sc32 := by
    rw [cmpD_eq0.2 (by rw [e1, lit_rv, ← d32_rv]; unfold Dx.rv; rw [show d32.sm = 3 by unfold Dx.sm; rw [d32_m]; rfl]; rfl)]
    exact Int.le_refl _
  have e2 : scX ⟨false, [3], 0⟩ = ⟨false, [3], -2⟩ := by
    rw [scX, if_pos c]
    refine (shiftD_f shiftD_p).ext (lit_f (by decide) (by decide) (by decide)) ?_
    show (shiftD (scM ⟨false, [3], 0⟩) (-1)).rv = _
    rw [rv_shift (d := scM ⟨false, [3], 0⟩) shiftD_p, e1, lit_rv, lit_rv]; decide +kernel
  have e3 : scK ⟨false, [3], 0⟩ = 2 := by rw [scK, if_pos c, t3]; rfl
  have k1 : (⟨false, [3], 0⟩ : Dx).fitsB = true := by rw [fits_K]; decide +kernel
  have k2 : (⟨false, [3], -2⟩ : Dx).fitsB = true := by rw [fits_K]; decide +kernel
  rw [mkS_lit (by decide) (by decide) (by decide), scaR, o3, e2, e3, if_pos k1, if_pos k1, if_neg (by decide +kernel), if_pos k2]
theorem HfIv.mid {d : Rat} {h : Vx} (k : HfIv d h) : ∃ c, InV h c ∧ 31415 / 20000 ≤ c ∧ c ≤ 31417 / 20000 := by
  have m1 := k.enc.meets piS_enc
  have m2 := piS_enc.meets k.enc
  have le := k.le
  rcases (show (31415 : Rat) / 20000 ≤ h.lo.rv ∨ h.lo.rv ≤ 31415 / 20000 by grind) with c | c
  · exact ⟨h.lo.rv, ⟨Rat.le_refl, le⟩, c, by grind⟩
  · exact ⟨31415 / 20000, ⟨c, by grind⟩, Rat.le_refl, by decide +kernel⟩
theorem okW_of {x : Dx} {p w : Int} (h1 : sureW (halfP w) x w = true) (h2 : rightV (restW (halfP w) x w) = true) (h3 : narrowB (restW (halfP w) x w) p = true) :
    okW x p w = true ∧ tryP x p w = (by4I (nW (halfP w) x w), restW (halfP w) x w, true) := by
  have n : narrowV (restW (halfP w) x w) p = true := by
    rw [narrowB, Bool.and_eq_true, Bool.and_eq_true] at h3; exact h3.2.2
  have e : tryP x p w = (by4I (nW (halfP w) x w), restW (halfP w) x w, true) := by unfold tryP tryW; rw [if_pos h1, n]
  exact ⟨by unfold okW; rw [e, h2]; rfl, e⟩
theorem beg_quarter : (quarR (mkS 1 0) 8).1 = 1 ∧ (quarR (mkS 1 0) 8).2.2 = 0 ∧ (quarR (mkS 1 0) 8).2.1.hi.sgn < 0 ∧ cmpD (mkS (-1) 0) (quarR (mkS 1 0) 8).2.1.lo < 0 ∧ (quarR (mkS 1 0) 8).2.1.lo.Sm 34359738368 := by
  have f1 : OneF ⟨false, [1], 0⟩ := lit_f (by decide) (by decide) (by decide)
  have o1 := oneD_id f1
  have r1 : (⟨false, [1], 0⟩ : Dx).rv = 1 := by rw [lit_rv, p2_v.1]; decide +kernel
  have t1 : topD ⟨false, [1], 0⟩ = 0 := by decide +kernel
  have k1 : (⟨false, [1], 0⟩ : Dx).fitsB = true := by rw [fits_K]; decide +kernel
  have hf := halfP_hf (w := 72) (by decide) (by decide)
  obtain ⟨c, hc, c1, c2⟩ := hf.mid
  have ed : p2 (-3 - 72) / 2 + eps 72 ≤ 1 / 1000 := by decide +kernel
  have eE : 2 * (1 * (p2 (-3 - 72) / 2) + eps 72 * (1 + 8 * 1)) ≤ p2 (-2 - 8) := by decide +kernel
  have i0 : 0 < c := by grind
  have ic := Rat.inv_mul_cancel c (by grind)
  have ip := Rat.inv_pos.2 i0
  have j1 : (6 : Rat) / 10 ≤ c⁻¹ := by
    rw [← Rat.not_lt]; intro hlt
    have := Rat.mul_lt_mul_of_pos_right hlt i0
    grind
  have j2 : c⁻¹ ≤ 7 / 10 := by
    rw [← Rat.not_lt]; intro hlt
    have := Rat.mul_lt_mul_of_pos_right hlt i0
    grind
  have e1 : ((1 : Int) : Rat) = 1 := rfl
  obtain ⟨s1, s2, s3, s4⟩ := quart_ok hf (x := ⟨false, [1], 0⟩) f1.p (w := 72) (by decide) (by decide) (A := 1) (B := 1) hc (by rw [r1]; decide) (by rw [r1]; decide) (m := 1) (a := -2) (p := 8) (by decide) (by decide) (by rw [r1, e1]; grind) (by rw [r1, e1]; grind) (by decide +kernel) (by decide +kernel) (.inr (by
    rw [r1, e1, show (-2 : Int) + 1 = -1 by decide, p2_v.2.2.1]; grind)) (by decide) eE (by decide) (by decide)
  obtain ⟨ok, e⟩ := okW_of s1 s3 s4
  have en : by4I (nW (halfP 72) ⟨false, [1], 0⟩ 72) = 1 := by rw [by4_mod, s2]; rfl
  have q : quarR (mkS 1 0) 8 = (1, restW (halfP 72) ⟨false, [1], 0⟩ 72, 0) := by
    rw [mkS_lit (by decide) (by decide) (by decide), quarR, o1, if_pos ⟨k1, by decide, by decide⟩, if_neg (by decide +kernel), t1, if_neg (by decide)]
    show quarL _ 8 (8 + 1) (0 + 8 + 64) = _
    rw [quarL, show min (0 + 8 + 64 : Int) 8192 = 72 by decide, if_pos ok, e, en]
  obtain ⟨c1', c2'⟩ := restW_close hf (x := ⟨false, [1], 0⟩) f1.p (w := 72) (by decide) (A := 1) (B := 1) hc (by rw [r1]; decide) (by rw [r1]; decide) (by rw [s2]; decide) (by rw [s2]; decide) (by decide +kernel) (by decide +kernel)
  rw [s2, r1, e1] at c1' c2'
  have eb : 1 * (p2 (-3 - 72) / 2) + eps 72 * (1 + 8 * 1) ≤ 1 / 100 := by decide +kernel
  have hp : (restW (halfP 72) ⟨false, [1], 0⟩ 72).P := ⟨cutD_p, cutD_p⟩
  rw [q]
  refine ⟨rfl, rfl, ?_, ?_, (right_sm s3).1.mono (by decide)⟩
  · rcases sgn_rv hp.2 with ⟨a, b⟩ | ⟨a, b⟩ | ⟨a, b⟩
    · exfalso; grind
    · exfalso; grind
    · show Dx.sgn _ < 0
      rw [a]; decide
  · refine cmpD_lt0.2 ?_
    rw [rv_mkS, p2_v.1]
    have : ((-1 : Int) : Rat) = -1 := rfl
    rw [this]
    show _ < (restW (halfP 72) ⟨false, [1], 0⟩ 72).lo.rv
    grind
def sL14 (qf : Dx → Int → Int × Vx × Int) (tf sf : Dx → Int × Dx × Int) (pf : Dx → Dx × Dx × Int) : List (FuncId × Spec) := [(11, specK [.d, .i .i64] fun (x : Dx) (p : Int) => (none, quT (qf x p))), (21, specK [.d] fun (x : Dx) => (none, turT (tf x))), (36, specK [.d] fun (x : Dx) => (none, turT (sf x))), (38, specK [.d] fun (x : Dx) => (none, splT (pf x))),
  (35, specK [.d] fun (x : Dx) => (none, turT (tf x))), (37, specK [.d] fun (x : Dx) => (none, turT (sf x))), (39, specK [.d] fun (x : Dx) => (none, splT (pf x)))] ++ sQh1
theorem sL14_ok : SpecsOk Tryz.prog (sL14 quarR turR scaR splR) := ⟨qQu_ok, qTurns_ok, qScale_ok, qSplit_ok, hTurns_ok, hScale_ok, hSplit_ok, sQh1_ok⟩
theorem lBg_vc (qf : Dx → Int → Int × Vx × Int) (tf sf : Dx → Int × Dx × Int) (pf : Dx → Dx × Dx × Int) (Q : Tv → Prop) : execF ⟨tys6, sL14 qf tf sf pf⟩ (fun _ => none) 0 Tryz.f12 [] Q = (inR (1 : Int) ∧ Words [(5 : Int)] ∧ inR (3 : Int) ∧ br (eqI (qf (mkS (1 : Int) (0 : Int)) (8 : Int)).snd.snd (0 : Int)) (br (eqI (qf (mkS (1 : Int) (0 : Int)) (8 : Int)).fst (1 : Int)) (br (ltI (Dx.sgn (qf (mkS (1 : Int) (0 : Int)) (8 : Int)).snd.fst.hi) (0 : Int)) (inR (-1 : Int) ∧ (Dx.Sm (34359738368 : Nat) (mkS (-1 : Int) (0 : Int)) ∧ Dx.Sm (34359738368 : Nat) (qf (mkS (1 : Int) (0 : Int)) (8 : Int)).snd.fst.lo) ∧ br (ltI (cmpD (mkS (-1 : Int) (0 : Int)) (qf (mkS (1 : Int) (0 : Int)) (8 : Int)).snd.fst.lo) (0 : Int)) (br (eqI (tf (Dx.mk false [(5 : Int)] (-2 : Int))).snd.snd (0 : Int)) (br (eqI (tf (Dx.mk false [(5 : Int)] (-2 : Int))).fst (2 : Int)) (Words [(1 : Int)] ∧ br (sameD (tf (Dx.mk false [(5 : Int)] (-2 : Int))).snd.fst (Dx.mk false [(1 : Int)] (-2 : Int))) (br (eqI (sf (mkS (3 : Int) (0 : Int))).snd.snd (0 : Int)) (br (eqI (sf (mkS (3 : Int) (0 : Int))).fst (2 : Int)) (Words [(3 : Int)] ∧ true = true ∧ Q (bT (sameD (sf (mkS (3 : Int) (0 : Int))).snd.fst (Dx.mk false [(3 : Int)] (-2 : Int))))) (true = true ∧ Q (bT false))) (true = true ∧ Q (bT false))) (true = true ∧ Q (bT false))) (true = true ∧ Q (bT false))) (true = true ∧ Q (bT false))) (true = true ∧ Q (bT false))) (true = true ∧ Q (bT false))) (true = true ∧ Q (bT false))) (true = true ∧ Q (bT false))) := by kernel_rfl
def wBg : Spec := specK [] (none, bT true)
theorem lBg_ok : SpecOk Tryz.prog 12 wBg :=
  specK_ok (envOk tys6_ok sL14_ok) mixed Tryz.func12 rfl (by decide) (by decide) fun _ => ⟨fun _ => none, 0, by
    show execF _ _ _ _ _ (fun t => t = bT true)
    refine (lBg_vc quarR turR scaR splR _).mpr ?_
    obtain ⟨a1, a2, a3, a4, a5⟩ := beg_quarter
    rw [beg_turn, beg_scale, a1, a2, show ltI (quarR (mkS 1 0) 8).2.1.hi.sgn 0 = true from decide_eq_true a3, show ltI (cmpD (mkS (-1) 0) (quarR (mkS 1 0) 8).2.1.lo) 0 = true from decide_eq_true a4]
    have w : ∀ k : Int, 0 ≤ k → k < 10 → Words [k] := fun k k0 k1 x hx => by rcases List.mem_singleton.1 hx with rfl; exact ⟨by omega, by omega⟩
    have s1 : (mkS (-1) 0).Sm 34359738368 := (mkS_sm (N := 5) (M := 0) (blen_le (by decide)) (by omega) (by omega)).mono (by omega)
    refine ⟨⟨by omega, by omega⟩, w 5 (by omega) (by omega), ⟨by omega, by omega⟩, br_intro (fun _ => br_intro (fun _ => br_intro (fun _ => ⟨⟨by omega, by omega⟩, ⟨s1, a5⟩, br_intro (fun _ => br_intro (fun _ => br_intro (fun _ => ⟨w 1 (by omega) (by omega), br_intro (fun _ => br_intro (fun _ => br_intro (fun _ => ⟨w 3 (by omega) (by omega), rfl, by rw [sameD_refl2]⟩) fun h => by cases h) fun h => by cases h) fun h => by rw [sameD_refl2] at h; cases h⟩) fun h => by cases h) fun h => by cases h) fun h => by cases h⟩) fun h => by cases h) fun h => by cases h) fun h => by cases h⟩⟩
def sLw (qf : Dx → Int → Int × Vx × Int) (tf sf : Dx → Int × Dx × Int) (pf : Dx → Dx × Dx × Int) : List (FuncId × Spec) := (12, wBg) :: sL14 qf tf sf pf
theorem sLw_ok : SpecsOk Tryz.prog (sLw quarR turR scaR splR) := ⟨lBg_ok, sL14_ok⟩
theorem neI_self (a : Int) : neI a a = false := by simp [neI]
theorem eqI_self (a : Int) : eqI a a = true := by simp [eqI]
theorem lTu_vc (x : Dx) (qf : Dx → Int → Int × Vx × Int) (tf sf : Dx → Int × Dx × Int) (pf : Dx → Dx × Dx × Int) (Q : Tv → Prop) : execF ⟨tys6, sLw qf tf sf pf⟩ (fun _ => none) 0 Tryz.f5 [.agg (dyL false x)] Q = (br (neI (tf x).snd.snd (0 : Int)) (Q (bT (neI (tf x).snd.snd (0 : Int)))) (br (!Dx.fitsB x) (Q (bT (neI (tf x).snd.snd (0 : Int)))) (inR (2 : Int) ∧ (Dx.Sm (68719476736 : Nat) x ∧ Dx.Sm (68719476736 : Nat) (mkS (2 : Int) (0 : Int))) ∧ true = true ∧ br (!Dx.fitsB (plusD x (mkS (2 : Int) (0 : Int)))) (Q (bT true)) (br (eqI (tf (plusD x (mkS (2 : Int) (0 : Int)))).snd.snd (0 : Int)) (br (eqI (tf x).fst (tf (plusD x (mkS (2 : Int) (0 : Int)))).fst) (Q (bT (sameD (tf x).snd.fst (tf (plusD x (mkS (2 : Int) (0 : Int)))).snd.fst))) (Q (bT false))) (Q (bT false)))))) := by kernel_rfl
theorem tur_ok {x : Dx} (h : (turR x).2.2 = 0) : x.fitsB = true ∧ (oneD x).fitsB = true ∧ (turX (oneD x)).fitsB = true ∧ turR x = (by4I (turN (oneD x)), turX (oneD x), 0) := by
  unfold turR at h ⊢
  split at h
  · rename_i h1
    split at h
    · rename_i h2
      rw [if_pos h1, if_pos h2]; exact ⟨h1, h2.1, h2.2, rfl⟩
    · cases h
  · cases h
theorem NearI.add {n : Int} {q : Rat} (h : NearI n q) (k : Int) : NearI (n + 2 * k) (q + ((2 * k : Int) : Rat)) := by
  obtain ⟨h1, h2, h3⟩ := h
  refine ⟨by rw [Rat.intCast_add]; grind, by rw [Rat.intCast_add]; grind, fun h => ?_⟩
  rw [Rat.intCast_add] at h
  have := h3 (by rcases h with h | h; exact .inl (by grind); exact .inr (by grind))
  omega
theorem turN_near {y : Dx} (hy : 0 ≤ y.m) : NearI (wholeS (turN y)) (2 * y.rv) := by
  have := nearD_whole (d := shiftD y 1) shiftD_p
  rw [rv_shift hy, p2_v.2.1] at this
  have e : 2 * y.rv = y.rv * 2 := by grind
  rw [e]; exact this
theorem turX_rv {y : Dx} (hy : 0 ≤ y.m) : (turX y).rv = y.rv - (wholeS (turN y) : Rat) * (1 / 2) := by
  unfold turX
  rw [rv_less hy shiftD_p, rv_shift (d := turN y) nearD_p, p2_v.2.2.1, wholeS_rv (d := turN y) nearD_e]
theorem turn_more {x y : Dx} (hx : 0 ≤ x.m) (h : (turR x).2.2 = 0) (hy : OneF y) (e : y.rv = x.rv + 2) (fy : y.fitsB = true) : turR y = ((turR x).1, (turR x).2.1, 0) := by
  obtain ⟨h1, h2, h3, h4⟩ := tur_ok h
  have n1 := turN_near (y := oneD x) oneD_p
  have n2 := turN_near hy.p
  have e4 : ((2 * 2 : Int) : Rat) = 4 := rfl
  have ew : wholeS (turN y) = wholeS (turN (oneD x)) + 2 * 2 := by
    refine n2.uniq ?_
    have := n1.add 2
    rw [rv_one hx, e4] at this
    rw [e, show 2 * (x.rv + 2) = 2 * x.rv + 4 by grind]; exact this
  have eX : turX y = turX (oneD x) := (lessD_f hy.p).ext (lessD_f oneD_p) (by
    show (turX y).rv = (turX (oneD x)).rv
    rw [turX_rv hy.p, turX_rv oneD_p, ew, rv_one hx, e, Rat.intCast_add, e4]; grind)
  have e4' : by4I (turN y) = by4I (turN (oneD x)) := by unfold by4I; rw [ew]; omega
  rw [h4, turR, oneD_id hy, eX, if_pos fy, if_pos ⟨fy, h3⟩, e4']
def lTu : Spec := specK [.d] fun (_ : Dx) => (none, bT true)
theorem lTu_ok : SpecOk Tryz.prog 5 lTu :=
  specK_ok (envOk tys6_ok sLw_ok) mixed Tryz.func5 rfl (by decide) (by decide) fun (x : Dx) hxw _ => ⟨fun _ => none, 0, by
    have hx := Dx.Wf.m0 hxw
    show execF _ _ _ _ _ (fun t => t = bT true)
    refine (lTu_vc x quarR turR scaR splR _).mpr (br_intro (fun h => by rw [h]) fun h => ?_)
    have h0 := neI_false.1 h
    obtain ⟨h1, h2, h3, h4⟩ := tur_ok h0
    have sx := (fits_bd h1).sm (N := 131072) (by omega)
    have s2 : (mkS 2 0).Sm 68719476736 := (mkS_sm (N := 5) (M := 0) (blen_le (by decide)) (by omega) (by omega)).mono (by omega)
    refine br_intro (fun k => by rw [not_true k] at h1; cases h1) fun _ => ⟨⟨by omega, by omega⟩, ⟨sx.mono (by omega), s2⟩, rfl, br_intro (fun _ => rfl) fun k => ?_⟩
    have ey : (plusD x (mkS 2 0)).rv = x.rv + 2 := by rw [rv_plus hx mkS_p, rv_mkS, p2_v.1]; have : ((2 : Int) : Rat) = 2 := rfl
                                                      rw [this]; grind
    rw [turn_more hx h0 (plusD_f hx mkS_p) ey (not_false' k)]
    dsimp only
    rw [eqI_self, eqI_self, sameD_refl2]
    exact br_intro (fun _ => br_intro (fun _ => rfl) fun h => by cases h) fun h => by cases h⟩
end Go.Proofs.YtdnbckfhfhfkoaaGreatDoor

namespace Go.Proofs.YtdnbckfhfhfkoaaGreatDoor
open Go.RowKit
/-! ### The laws' runs. -/
end Go.Proofs.YtdnbckfhfhfkoaaGreatDoor

namespace Go.Proofs.YtdnbckfhfhfkoaaGreatDoor
open Go.RowKit
structure Ans (s : Nat → Rat) (v : Vx) : Prop where
  p : v.P
  right : rightV v = true
  enc : Enc s v.lo.rv v.hi.rv
end Go.Proofs.YtdnbckfhfhfkoaaGreatDoor

namespace Go.Proofs.YtdnbckfhfhfkoaaGreatDoor
open Go.RowKit
end Go.Proofs.YtdnbckfhfhfkoaaGreatDoor

namespace Go.Proofs.YtdnbckfhfhfkoaaGreatDoor
open Go.RowKit
theorem Ans.sm {s : Nat → Rat} {v : Vx} (h : Ans s v) : v.Sm 65536 := right_sm h.right
/-! ### The circle. -/
/-! ### The mirror. -/
theorem fits_neg {d : Dx} (h : OneF d) (f : d.fitsB = true) : (negD d).fitsB = true := by
  by_cases hz : d.m = 0
  · rw [h.zero hz]; decide +kernel
  · have t0 := tz_odd2 (h.odd hz) h.p
    have e1 : (negD d).m = d.m := by unfold negD; rw [mkD_m h.p, t0]; simp
    have e2 : (negD d).e = d.e := by unfold negD mkD; rw [if_neg hz, t0]; simp
    unfold Dx.fitsB at f ⊢
    rw [e1, e2]; exact f
/-! ### Bounds. -/
end Go.Proofs.YtdnbckfhfhfkoaaGreatDoor

namespace Go.Proofs.YtdnbckfhfhfkoaaGreatDoor
open Go.RowKit
theorem quarL_spec {x : Dx} {p : Int} : ∀ (n : Nat) (w : Int), 8 ≤ w → quarL x p n w = (0, zeroIv, 6) ∨ ∃ w', 8 ≤ w' ∧ w' ≤ 8192 ∧ okW x p w' = true ∧ quarL x p n w = ((tryP x p w').1, (tryP x p w').2.1, 0)
  | 0, _, _ => .inl rfl
  | n + 1, w, hw => by
    rw [quarL]
    split
    · rename_i h
      exact .inr ⟨min w 8192, by omega, by omega, h, rfl⟩
    · split
      · exact .inl rfl
      · exact quarL_spec n (2 * min w 8192) (by omega)
theorem okW_parts {x : Dx} {p w : Int} (h : okW x p w = true) : sureW (halfP w) x w = true ∧ rightV (restW (halfP w) x w) = true ∧ narrowV (restW (halfP w) x w) p = true ∧ tryP x p w = (by4I (nW (halfP w) x w), restW (halfP w) x w, true) := by
  unfold okW at h
  rw [Bool.and_eq_true] at h
  unfold tryP tryW at h ⊢
  by_cases hs : sureW (halfP w) x w = true
  · rw [if_pos hs] at h ⊢
    exact ⟨hs, h.2, h.1, by rw [show narrowV (restW (halfP w) x w) p = true from h.1]⟩
  · rw [if_neg hs] at h
    cases h.1
def condQ (x : Dx) (p : Int) : Prop := x.fitsB = true ∧ 8 ≤ p ∧ p ≤ 3968
/-- What Quarter told, told. -/
structure QuE (y : Dx) (p : Int) (Q : Int × Vx × Int) (w : Int) : Prop where
  w0 : 8 ≤ w
  w1 : w ≤ 8192
  sure : sureW (halfP w) y w = true
  right : rightV (restW (halfP w) y w) = true
  nar : narrowV (restW (halfP w) y w) p = true
  eq : Q = (by4I (nW (halfP w) y w), restW (halfP w) y w, 0)
theorem quar_cases (x : Dx) (p : Int) : (¬ condQ x p ∧ quarR x p = (0, zeroIv, 2)) ∨ (condQ x p ∧ (oneD x).m = 0 ∧ quarR x p = (0, zeroIv, 0)) ∨ (condQ x p ∧ (oneD x).m ≠ 0 ∧ 1024 ≤ topD (oneD x) ∧ quarR x p = (0, zeroIv, 3)) ∨
    (condQ x p ∧ (oneD x).m ≠ 0 ∧ topD (oneD x) < 1024 ∧ quarR x p = (0, zeroIv, 6)) ∨ (condQ x p ∧ (oneD x).m ≠ 0 ∧ topD (oneD x) < 1024 ∧ ∃ w, QuE (oneD x) p (quarR x p) w) := by
  by_cases c : condQ x p
  · have e : quarR x p = (if (oneD x).m = 0 then (0, zeroIv, 0) else if 1024 ≤ topD (oneD x) then (0, zeroIv, 3) else quarL (oneD x) p 9 (max (topD (oneD x)) 0 + p + 64)) := if_pos c
    by_cases z : (oneD x).m = 0
    · exact .inr (.inl ⟨c, z, by rw [e, if_pos z]⟩)
    · by_cases t : 1024 ≤ topD (oneD x)
      · exact .inr (.inr (.inl ⟨c, z, t, by rw [e, if_neg z, if_pos t]⟩))
      · rw [if_neg z, if_neg t] at e
        have cp := c.2.1
        rcases quarL_spec (x := oneD x) (p := p) 9 (max (topD (oneD x)) 0 + p + 64) (by omega) with h | ⟨w, w0, w1, ok, h⟩
        · exact .inr (.inr (.inr (.inl ⟨c, z, by omega, by rw [e, h]⟩)))
        · obtain ⟨o1, o2, o3, o4⟩ := okW_parts ok
          rw [o4] at h
          exact .inr (.inr (.inr (.inr ⟨c, z, by omega, w, ⟨w0, w1, o1, o2, o3, by rw [e, h]⟩⟩)))
  · exact .inl ⟨c, if_neg c⟩
/-! ### The other sign. -/
def flipD (x : Dx) : Dx := ⟨!x.neg, x.xs, x.e⟩
theorem flip_rv (x : Dx) : (flipD x).rv = -x.rv := by
  have e : (flipD x).sm = -x.sm := by
    unfold Dx.sm
    show (if (!x.neg) = true then -x.m else x.m) = -(if x.neg = true then -x.m else x.m)
    cases x.neg <;> simp
  unfold Dx.rv
  rw [e, Rat.intCast_neg]
  show -(x.sm : Rat) * p2 x.e = _
  grind
theorem flip_one {x : Dx} (hx : 0 ≤ x.m) : oneD (flipD x) = negD (oneD x) := (oneD_f (d := flipD x) hx).ext (negD_f oneD_p) (by rw [rv_one (d := flipD x) hx, rv_neg oneD_p, rv_one hx, flip_rv])
theorem negneg {z : Dx} (h : OneF z) : negD (negD z) = z := (negD_f negD_p).ext h (by rw [rv_neg negD_p, rv_neg h.p]; grind)
theorem neg_fits {z : Dx} (h : OneF z) : (negD z).fitsB = z.fitsB := by
  rw [Bool.eq_iff_iff]
  exact ⟨fun k => by have := fits_neg (negD_f h.p) k; rwa [negneg h] at this, fun k => fits_neg h k⟩
theorem neg_m {z : Dx} (h : OneF z) : (negD z).m = 0 ↔ z.m = 0 := mkD_m_zero h.p
theorem neg_top {z : Dx} (h : OneF z) : topD (negD z) = topD z := by
  have e : negD z = if z.m = 0 then z else ⟨!z.neg, z.xs, z.e⟩ := by
    split
    · rename_i h0
      have := (neg_m h).2 h0
      exact (negD_f h.p).ext h (by rw [rv_zero h0, rv_zero this])
    · rename_i h0
      have f : OneF ⟨!z.neg, z.xs, z.e⟩ := by
        refine ⟨!z.neg, z.m, z.e, h.p, ?_⟩
        have o := h.odd h0
        unfold mkD
        rw [if_neg h0, tz_odd2 o h.p, show z.m / 2 ^ 0 = z.m by simp, ← h.xs]; simp
      exact (negD_f h.p).ext f (by rw [rv_neg h.p]; exact (flip_rv z).symm)
  rw [e]; split <;> rfl
theorem turn_odd {x : Dx} (hx : 0 ≤ x.m) : turR (flipD x) = (if x.fitsB = true then (if (oneD x).fitsB = true ∧ (turX (oneD x)).fitsB = true then ((-wholeS (turN (oneD x))) % 4, negD (turX (oneD x)), 0) else (0, zD0, 3)) else (0, zD0, 2)) := by
  have fy : OneF (oneD x) := oneD_f hx
  have fX : OneF (turX (oneD x)) := lessD_f oneD_p
  have n1 := turN_near fy.p
  have n2 := turN_near (y := negD (oneD x)) negD_p
  have ew : wholeS (turN (negD (oneD x))) = -wholeS (turN (oneD x)) := by
    refine n2.uniq ?_
    have := n1.neg
    rwa [show -(2 * (oneD x).rv) = 2 * (negD (oneD x)).rv by rw [rv_neg fy.p]; grind] at this
  have eX : turX (negD (oneD x)) = negD (turX (oneD x)) := (lessD_f negD_p).ext (negD_f fX.p) (by
    show (turX (negD (oneD x))).rv = _
    rw [turX_rv negD_p, rv_neg fX.p, turX_rv fy.p, ew, rv_neg fy.p, Rat.intCast_neg]; grind)
  have e4 : by4I (turN (negD (oneD x))) = (-wholeS (turN (oneD x))) % 4 := by unfold by4I; rw [ew]
  unfold turR
  rw [flip_one hx, eX, neg_fits fy, neg_fits fX, e4]
  rfl
theorem mod4_sum (n : Int) : Int.tmod (n % 4 + (-n) % 4) 4 = 0 := by
  rw [Int.tmod_eq_emod_of_nonneg (by omega)]; omega
theorem halfs_common {w w' : Int} (h0 : 8 ≤ w) (h1 : w ≤ 8192) (k0 : 8 ≤ w') (k1 : w' ≤ 8192) : ∃ c : Rat, InV (halfP w) c ∧ InV (halfP w') c ∧ 3 / 2 ≤ c ∧ c ≤ 2 :=
  (halfP_hf h0 (by omega)).common (halfP_hf k0 (by omega))
theorem quar_odd {x : Dx} (hx : 0 ≤ x.m) {p : Int} (h1 : (quarR x p).2.2 = 0) (h2 : (quarR (flipD x) p).2.2 = 0) :
    ∃ (n : Int) (z : Rat), (quarR x p).1 = n % 4 ∧ (quarR (flipD x) p).1 = (-n) % 4 ∧ InV (quarR x p).2.1 z ∧ InV (quarR (flipD x) p).2.1 (-z) ∧ (quarR x p).2.1.Sm 65536 ∧ (quarR (flipD x) p).2.1.Sm 65536 ∧ (quarR (flipD x) p).2.1.P := by
  have fy : OneF (oneD x) := oneD_f hx
  have hx' : 0 ≤ (flipD x).m := hx
  have e1 := flip_one hx
  have zv : zeroIv.lo.rv = 0 ∧ zeroIv.hi.rv = 0 := ⟨rv_zero rfl, rv_zero rfl⟩
  have zin : InV zeroIv 0 := ⟨by rw [zv.1]; exact Rat.le_refl, by rw [zv.2]; exact Rat.le_refl⟩
  have zsm : zeroIv.Sm 65536 := right_sm (v := zeroIv) (by rw [right_K]; decide +kernel)
  have zp : zeroIv.P := ⟨Int.le_refl _, Int.le_refl _⟩
  rcases quar_cases x p with ⟨_, q⟩ | ⟨c, z, q⟩ | ⟨c, z, t, q⟩ | ⟨c, z, t, q⟩ | ⟨c, z, t, w, q⟩
  · rw [q] at h1; cases h1
  · rcases quar_cases (flipD x) p with ⟨c', q'⟩ | ⟨c', z', q'⟩ | ⟨c', z', t', q'⟩ | ⟨c', z', t', q'⟩ | ⟨c', z', t', w', q'⟩
    · rw [q'] at h2; cases h2
    · rw [q, q']
      exact ⟨0, 0, rfl, rfl, zin, by rw [show (-0 : Rat) = 0 by grind]; exact zin, zsm, zsm, zp⟩
    all_goals (rw [e1] at z'; exact absurd ((neg_m fy).2 z) z')
  · rw [q] at h1; cases h1
  · rw [q] at h1; cases h1
  · rcases quar_cases (flipD x) p with ⟨c', q'⟩ | ⟨c', z', q'⟩ | ⟨c', z', t', q'⟩ | ⟨c', z', t', q'⟩ | ⟨c', z', t', w', q'⟩
    · rw [q'] at h2; cases h2
    · rw [e1] at z'; exact absurd ((neg_m fy).1 z') z
    · rw [q'] at h2; cases h2
    · rw [q'] at h2; cases h2
    · rw [e1] at q'
      obtain ⟨cc, hc, hc', _, _⟩ := halfs_common q.w0 q.w1 q'.w0 q'.w1
      have hf := halfP_hf q.w0 (show w ≤ 65000 by have := q.w1; omega)
      have hf' := halfP_hf q'.w0 (show w' ≤ 65000 by have := q'.w1; omega)
      have w1 : 1 ≤ w := by have := q.w0; omega
      have w1' : 1 ≤ w' := by have := q'.w0; omega
      have n1 := sure_near hf fy.p w1 q.sure hc
      have n2 := sure_near hf' (x := negD (oneD x)) negD_p w1' q'.sure hc'
      have r1 := rest_in hf fy.p w1 hc
      have r2 := rest_in hf' (x := negD (oneD x)) negD_p w1' hc'
      rw [rv_neg fy.p] at n2 r2
      have en : nI (halfP w') (negD (oneD x)) w' = -nI (halfP w) (oneD x) w := by
        refine n2.uniq ?_
        have := n1.neg
        rwa [show -((oneD x).rv * cc⁻¹) = -(oneD x).rv * cc⁻¹ by grind] at this
      rw [en, Rat.intCast_neg] at r2
      have s1 := right_sm q.right
      have s2 := right_sm q'.right
      rw [q.eq, q'.eq]
      refine ⟨nI (halfP w) (oneD x) w, (oneD x).rv - (nI (halfP w) (oneD x) w : Rat) * cc, rfl, ?_, r1, ?_, s1, s2, ⟨cutD_p, cutD_p⟩⟩
      · show nI (halfP w') (negD (oneD x)) w' % 4 = _
        rw [en]
      · rwa [show -((oneD x).rv - (nI (halfP w) (oneD x) w : Rat) * cc) = -(oneD x).rv - -(nI (halfP w) (oneD x) w : Rat) * cc by grind]
theorem quar_codes {x : Dx} (hx : 0 ≤ x.m) (p : Int) : (quarR x p).2.2 = (quarR (flipD x) p).2.2 ∨ (quarR x p).2.2 = 6 ∨ (quarR (flipD x) p).2.2 = 6 := by
  have fy : OneF (oneD x) := oneD_f hx
  have e1 := flip_one hx
  have cc : condQ (flipD x) p ↔ condQ x p := Iff.rfl
  rcases quar_cases x p with ⟨c, q⟩ | ⟨c, z, q⟩ | ⟨c, z, t, q⟩ | ⟨c, z, t, q⟩ | ⟨c, z, t, w, q⟩ <;> rcases quar_cases (flipD x) p with ⟨c', q'⟩ | ⟨c', z', q'⟩ | ⟨c', z', t', q'⟩ | ⟨c', z', t', q'⟩ | ⟨c', z', t', w', q'⟩
  all_goals first
    | exact absurd (cc.1 c') c
    | exact absurd (cc.2 c) c'
    | (rw [q, q']; exact .inl rfl)
    | (rw [q.eq, q'.eq]; exact .inl rfl)
    | (rw [q]; exact .inr (.inl rfl))
    | (rw [q']; exact .inr (.inr rfl))
    | (rw [e1] at z'; exact absurd ((neg_m fy).2 z) z')
    | (rw [e1] at z'; exact absurd ((neg_m fy).1 z') z)
    | (rw [e1, neg_top fy] at t'; omega)
def farB (x : Dx) : Bool := !x.zeroB && (ltI (topD (oneD x)) (-16384) || ltI 16384 (topD (oneD x)))
def hFar : Spec := specK [.d] fun (d : Dx) => (some (d.Sm 131072), bT (farB d))
theorem hFar_vc (x : Dx) (Q : Tv → Prop) : execF ⟨tys2, sQh1⟩ (fun _ => none) 0 Tryz.f17 [.agg (dyL false x)] Q = (br (Dx.zeroB x) (Q (bT false)) (eB (4611686018427387904 : Int) x ∧ eB (2305843009213693952 : Int) (oneD x) ∧ br (ltI ((oneD x).e + (↑(blen (Dx.m (oneD x))) : Int) - (1 : Int)) (-16384 : Int)) (Q (bT true)) (Q (bT (ltI (16384 : Int) ((oneD x).e + (↑(blen (Dx.m (oneD x))) : Int) - (1 : Int))))))) := by kernel_rfl
theorem hFar_ok : SpecOk Tryz.prog 17 hFar :=
  specK_ok (envOk tys2_ok sQh1_ok) mixed Tryz.func17 rfl (by decide) (by decide) fun (x : Dx) hxw hp => ⟨fun _ => none, 0, by
    have s : x.Sm 131072 := hp
    have hx := Dx.Wf.m0 hxw
    show execF _ _ _ _ _ (fun t => t = bT (farB x))
    refine (hFar_vc x _).mpr (br_intro (fun h => ?_) fun h => ⟨s.eB (by omega), (one_sm hx s).eB (by omega), br_intro (fun h1 => ?_) fun h1 => ?_⟩)
    · rw [farB, h]; rfl
    · have h1 : ltI (topD (oneD x)) (-16384) = true := h1
      rw [farB, h, h1]; rfl
    · have h1 : ltI (topD (oneD x)) (-16384) = false := h1
      show bT (ltI 16384 (topD (oneD x))) = _
      rw [farB, h, h1]; rfl⟩
theorem lOd_vc (x : Dx) (p : Int) (qf : Dx → Int → Int × Vx × Int) (tf sf : Dx → Int × Dx × Int) (pf : Dx → Dx × Dx × Int) (ff : Dx → Bool) (Q : Tv → Prop) : execF ⟨tys6, (17, specK [.d] fun (d : Dx) => (some (d.Sm 131072), bT (ff d))) :: sLw qf tf sf pf⟩ (fun _ => none) 0 Tryz.f4 [.agg (dyL false x), .one (.int .i64 p)] Q = (br (!Dx.fitsB x) (Q (bT true)) (br (neI (tf x).snd.snd (tf (Dx.mk (!x.neg) x.xs x.e)).snd.snd) (true = true ∧ Q (bT false)) (br (eqI (tf x).snd.snd (0 : Int)) (inR ((tf x).fst + (tf (Dx.mk (!x.neg) x.xs x.e)).fst) ∧ (4 : Int) ≠ (0 : Int) ∧ br (neI (Int.tmod ((tf x).fst + (tf (Dx.mk (!x.neg) x.xs x.e)).fst) (4 : Int)) (0 : Int)) (true = true ∧ Q (bT false)) (eB (4611686018427387904 : Int) (tf (Dx.mk (!x.neg) x.xs x.e)).snd.fst ∧ true = true ∧ br (!sameD (tf x).snd.fst (negD (tf (Dx.mk (!x.neg) x.xs x.e)).snd.fst)) (Q (bT false)) (br (neI (qf x p).snd.snd (0 : Int)) (br (eqI (qf x p).snd.snd (qf (Dx.mk (!x.neg) x.xs x.e) p).snd.snd) (Q (bT true)) (br (eqI (qf x p).snd.snd (6 : Int)) (Q (bT true)) (br (eqI (qf (Dx.mk (!x.neg) x.xs x.e) p).snd.snd (6 : Int)) (Q (bT true)) (Dx.Sm (131072 : Nat) x ∧ Q (bT (ff x)))))) (br (neI (qf (Dx.mk (!x.neg) x.xs x.e) p).snd.snd (0 : Int)) (br (eqI (qf x p).snd.snd (qf (Dx.mk (!x.neg) x.xs x.e) p).snd.snd) (Q (bT true)) (br (eqI (qf x p).snd.snd (6 : Int)) (Q (bT true)) (br (eqI (qf (Dx.mk (!x.neg) x.xs x.e) p).snd.snd (6 : Int)) (Q (bT true)) (Dx.Sm (131072 : Nat) x ∧ Q (bT (ff x)))))) ((eB (4611686018427387904 : Int) (qf (Dx.mk (!x.neg) x.xs x.e) p).snd.fst.lo ∧ eB (4611686018427387904 : Int) (qf (Dx.mk (!x.neg) x.xs x.e) p).snd.fst.hi) ∧ inR ((qf x p).fst + (qf (Dx.mk (!x.neg) x.xs x.e) p).fst) ∧ (4 : Int) ≠ (0 : Int) ∧ br (eqI (Int.tmod ((qf x p).fst + (qf (Dx.mk (!x.neg) x.xs x.e) p).fst) (4 : Int)) (0 : Int)) ((Dx.Sm (34359738368 : Nat) (qf x p).snd.fst.lo ∧ Dx.Sm (34359738368 : Nat) (turnV (qf (Dx.mk (!x.neg) x.xs x.e) p).snd.fst).hi) ∧ br (leI (cmpD (qf x p).snd.fst.lo (turnV (qf (Dx.mk (!x.neg) x.xs x.e) p).snd.fst).hi) (0 : Int)) ((Dx.Sm (34359738368 : Nat) (turnV (qf (Dx.mk (!x.neg) x.xs x.e) p).snd.fst).lo ∧ Dx.Sm (34359738368 : Nat) (qf x p).snd.fst.hi) ∧ Q (bT (leI (cmpD (turnV (qf (Dx.mk (!x.neg) x.xs x.e) p).snd.fst).lo (qf x p).snd.fst.hi) (0 : Int)))) (Q (bT false))) (Q (bT false))))))) (true = true ∧ br (neI (qf x p).snd.snd (0 : Int)) (br (eqI (qf x p).snd.snd (qf (Dx.mk (!x.neg) x.xs x.e) p).snd.snd) (Q (bT true)) (br (eqI (qf x p).snd.snd (6 : Int)) (Q (bT true)) (br (eqI (qf (Dx.mk (!x.neg) x.xs x.e) p).snd.snd (6 : Int)) (Q (bT true)) (Dx.Sm (131072 : Nat) x ∧ Q (bT (ff x)))))) (br (neI (qf (Dx.mk (!x.neg) x.xs x.e) p).snd.snd (0 : Int)) (br (eqI (qf x p).snd.snd (qf (Dx.mk (!x.neg) x.xs x.e) p).snd.snd) (Q (bT true)) (br (eqI (qf x p).snd.snd (6 : Int)) (Q (bT true)) (br (eqI (qf (Dx.mk (!x.neg) x.xs x.e) p).snd.snd (6 : Int)) (Q (bT true)) (Dx.Sm (131072 : Nat) x ∧ Q (bT (ff x)))))) ((eB (4611686018427387904 : Int) (qf (Dx.mk (!x.neg) x.xs x.e) p).snd.fst.lo ∧ eB (4611686018427387904 : Int) (qf (Dx.mk (!x.neg) x.xs x.e) p).snd.fst.hi) ∧ inR ((qf x p).fst + (qf (Dx.mk (!x.neg) x.xs x.e) p).fst) ∧ (4 : Int) ≠ (0 : Int) ∧ br (eqI (Int.tmod ((qf x p).fst + (qf (Dx.mk (!x.neg) x.xs x.e) p).fst) (4 : Int)) (0 : Int)) ((Dx.Sm (34359738368 : Nat) (qf x p).snd.fst.lo ∧ Dx.Sm (34359738368 : Nat) (turnV (qf (Dx.mk (!x.neg) x.xs x.e) p).snd.fst).hi) ∧ br (leI (cmpD (qf x p).snd.fst.lo (turnV (qf (Dx.mk (!x.neg) x.xs x.e) p).snd.fst).hi) (0 : Int)) ((Dx.Sm (34359738368 : Nat) (turnV (qf (Dx.mk (!x.neg) x.xs x.e) p).snd.fst).lo ∧ Dx.Sm (34359738368 : Nat) (qf x p).snd.fst.hi) ∧ Q (bT (leI (cmpD (turnV (qf (Dx.mk (!x.neg) x.xs x.e) p).snd.fst).lo (qf x p).snd.fst.hi) (0 : Int)))) (Q (bT false))) (Q (bT false)))))))) := by kernel_rfl
theorem tur_pair {x : Dx} (hx : 0 ≤ x.m) : (turR x).2.2 = (turR (flipD x)).2.2 ∧ ((turR x).2.2 = 0 → ∃ n X, (turR x).1 = n % 4 ∧ (turR (flipD x)).1 = (-n) % 4 ∧ (turR x).2.1 = X ∧ (turR (flipD x)).2.1 = negD X ∧ OneF X ∧ X.fitsB = true) := by
  have fX : OneF (turX (oneD x)) := lessD_f oneD_p
  rw [turn_odd hx]
  unfold turR
  by_cases h1 : x.fitsB = true
  · rw [if_pos h1, if_pos h1]
    by_cases h2 : (oneD x).fitsB = true ∧ (turX (oneD x)).fitsB = true
    · rw [if_pos h2, if_pos h2]
      exact ⟨rfl, fun _ => ⟨wholeS (turN (oneD x)), turX (oneD x), rfl, rfl, rfl, rfl, fX, h2.2⟩⟩
    · rw [if_neg h2, if_neg h2]
      exact ⟨rfl, fun h => by cases h⟩
  · rw [if_neg h1, if_neg h1]
    exact ⟨rfl, fun h => by cases h⟩
def lOd : Spec := specK [.d, .i .i64] fun (_ : Dx) (_ : Int) => (none, bT true)
theorem sOd_ok : SpecsOk Tryz.prog ((17, hFar) :: sLw quarR turR scaR splR) := ⟨hFar_ok, sLw_ok⟩
theorem lOd_ok : SpecOk Tryz.prog 4 lOd :=
  specK_ok (envOk tys6_ok sOd_ok) mixed Tryz.func4 rfl (by decide) (by decide) fun (x : Dx) hxw (p : Int) _ _ => ⟨fun _ => none, 0, by
    have hx := Dx.Wf.m0 hxw
    show execF _ _ _ _ _ (fun t => t = bT true)
    refine (lOd_vc x p quarR turR scaR splR farB _).mpr ?_
    have ef : (⟨!x.neg, x.xs, x.e⟩ : Dx) = flipD x := rfl
    rw [ef]
    obtain ⟨tc, tk⟩ := tur_pair hx
    have qc := quar_codes hx p
    refine br_intro (fun _ => rfl) fun hfit => ?_
    rw [← tc, neI_self]
    refine br_intro (fun h => by cases h) fun _ => br_intro (fun h0 => ?_) fun h0 => ⟨rfl, ?_⟩
    · obtain ⟨n, X, k1, k2, k3, k4, k5, k6⟩ := tk (eqI_true.1 h0)
      have sX := (fits_bd k6).sm (N := 131072) (by omega)
      have sN := negD_sm sX k5.p
      rw [k1, k2, k3, k4, negneg k5, sameD_refl2, mod4_sum]
      refine ⟨⟨by omega, by omega⟩, by decide, br_intro (fun h => by cases h) fun _ => ⟨sN.eB (by omega), rfl, br_intro (fun h => by cases h) fun _ => ?_⟩⟩
      refine br_intro (fun h1 => br_intro (fun _ => rfl) fun g1 => br_intro (fun _ => rfl) fun g2 => br_intro (fun _ => rfl) fun g3 => ?_) fun h1 => br_intro (fun h2 => br_intro (fun _ => rfl) fun g1 => br_intro (fun _ => rfl) fun g2 => br_intro (fun _ => rfl) fun g3 => ?_) fun h2 => ?_
      · exact absurd qc (by rintro (k | k | k); exact eqI_false.1 g1 k; exact eqI_false.1 g2 k; exact eqI_false.1 g3 k)
      · exact absurd qc (by rintro (k | k | k); exact eqI_false.1 g1 k; exact eqI_false.1 g2 k; exact eqI_false.1 g3 k)
      · obtain ⟨m, z, q1, q2, q3, q4, q5, q6, q7⟩ := quar_odd hx (neI_false.1 h1) (neI_false.1 h2)
        have t1 := negD_sm q6.1 q7.1
        have t2 := negD_sm q6.2 q7.2
        rw [q1, q2, mod4_sum]
        refine ⟨⟨q6.1.eB (by omega), q6.2.eB (by omega)⟩, ⟨by omega, by omega⟩, by decide, br_intro (fun _ => ⟨⟨q5.1.mono (by omega), t1.mono (by omega)⟩, br_intro (fun _ => ⟨⟨t2.mono (by omega), q5.2.mono (by omega)⟩, ?_⟩) fun h => ?_⟩) fun h => by cases h⟩
        · have : cmpD (turnV (quarR (flipD x) p).2.1).lo (quarR x p).2.1.hi ≤ 0 := cmpD_le.2 (by
            show (negD (quarR (flipD x) p).2.1.hi).rv ≤ _
            rw [rv_neg q7.2]; have := q3.2; have := q4.2; grind)
          rw [show leI (cmpD (turnV (quarR (flipD x) p).2.1).lo (quarR x p).2.1.hi) 0 = true from leI_true.2 this]
        · exfalso
          refine leI_false.1 h (cmpD_le.2 ?_)
          show _ ≤ (negD (quarR (flipD x) p).2.1.lo).rv
          rw [rv_neg q7.1]; have := q3.1; have := q4.1; grind
    · refine br_intro (fun h1 => br_intro (fun _ => rfl) fun g1 => br_intro (fun _ => rfl) fun g2 => br_intro (fun _ => rfl) fun g3 => ?_) fun h1 => br_intro (fun h2 => br_intro (fun _ => rfl) fun g1 => br_intro (fun _ => rfl) fun g2 => br_intro (fun _ => rfl) fun g3 => ?_) fun h2 => ?_
      · exact absurd qc (by rintro (k | k | k); exact eqI_false.1 g1 k; exact eqI_false.1 g2 k; exact eqI_false.1 g3 k)
      · exact absurd qc (by rintro (k | k | k); exact eqI_false.1 g1 k; exact eqI_false.1 g2 k; exact eqI_false.1 g3 k)
      · obtain ⟨m, z, q1, q2, q3, q4, q5, q6, q7⟩ := quar_odd hx (neI_false.1 h1) (neI_false.1 h2)
        have t1 := negD_sm q6.1 q7.1
        have t2 := negD_sm q6.2 q7.2
        rw [q1, q2, mod4_sum]
        refine ⟨⟨q6.1.eB (by omega), q6.2.eB (by omega)⟩, ⟨by omega, by omega⟩, by decide, br_intro (fun _ => ⟨⟨q5.1.mono (by omega), t1.mono (by omega)⟩, br_intro (fun _ => ⟨⟨t2.mono (by omega), q5.2.mono (by omega)⟩, ?_⟩) fun h => ?_⟩) fun h => by cases h⟩
        · have : cmpD (turnV (quarR (flipD x) p).2.1).lo (quarR x p).2.1.hi ≤ 0 := cmpD_le.2 (by
            show (negD (quarR (flipD x) p).2.1.hi).rv ≤ _
            rw [rv_neg q7.2]; have := q3.2; have := q4.2; grind)
          rw [show leI (cmpD (turnV (quarR (flipD x) p).2.1).lo (quarR x p).2.1.hi) 0 = true from leI_true.2 this]
        · exfalso
          refine leI_false.1 h (cmpD_le.2 ?_)
          show _ ≤ (negD (quarR (flipD x) p).2.1.lo).rv
          rw [rv_neg q7.1]; have := q3.1; have := q4.1; grind⟩
end Go.Proofs.YtdnbckfhfhfkoaaGreatDoor

namespace Go.Proofs.YtdnbckfhfhfkoaaGreatDoor
open Go.RowKit
def bkK : LKeep := ⟨[1, 3, 4, 5, 6, 7, 8, 9, 10, 11], [(0, 3), (13, 3), (23, 3), (24, 3), (34, 3)], 35⟩
def bkSt (x : Dx) (T S : Int × Dx × Int) (F : Dx × Dx × Int) (_ : Nat) : List (Nat × Tv) × List (Nat × Nat × At) :=
  ([(1, .sv (.one (.ptr 0 0))), (3, iT T.1), (4, .sv (.one (.ptr 13 0))), (5, iT T.2.2), (6, .sv (.one (.ptr 23 0))), (7, .sv (.one (.ptr 24 0))), (8, iT F.2.2), (9, iT S.1), (10, .sv (.one (.ptr 34 0))), (11, iT S.2.2)],
   dyX 0 false x ++ (dyX 13 false T.2.1 ++ (dyX 23 false F.1 ++ (dyX 24 false F.2.1 ++ dyX 34 false S.2.1))))
def bkInv (x : Dx) (T S : Int × Dx × Int) (F : Dx × Dx × Int) (P : Nat → Prop) (n : Nat) : Option LInv :=
  match Nat.beq 10 n with
  | true => some (.cut bkK Nat (bkSt x T S F) P)
  | false => match Nat.beq 15 n with
    | true => some (.cut bkK Nat (bkSt x T S F) P)
    | false => match Nat.beq 17 n with
      | true => some (.cut bkK Nat (bkSt x T S F) P)
      | false => none
theorem lBk_vc (x : Dx) (P : Nat → Prop) (qf : Dx → Int → Int × Vx × Int) (tf sf : Dx → Int × Dx × Int) (pf : Dx → Dx × Dx × Int) (Q : Tv → Prop) : execF ⟨tys6, sLw qf tf sf pf⟩ (bkInv x (tf x) (sf x) (pf x) P) 0 Tryz.f9 [.agg (dyL false x)] Q = (br (!Dx.fitsB x) (Q (bT true)) (br (eqI (tf x).snd.snd (0 : Int)) (br (!Dx.fitsB (tf x).snd.fst) (Q (bT false)) (br (eqI (pf x).snd.snd (0 : Int)) (br (!Dx.fitsB (pf x).fst) (Q (bT false)) (br (!Dx.fitsB (pf x).snd.fst) (Q (bT false)) (br (eqI (sf x).snd.snd (0 : Int)) (br (!Dx.fitsB (sf x).snd.fst) (Q (bT false)) (true = true ∧ ∃ (x_1 : Nat), P x_1 ∧ Sg.mk [(1, Tv.sv (Sv.one (At.ptr 0 0))), (3, iT (tf x).fst), (4, Tv.sv (Sv.one (At.ptr ((7 : Nat) + (6 : Nat)) (0 : Nat)))), (5, iT (tf x).snd.snd), (6, Tv.sv (Sv.one (At.ptr ((17 : Nat) + (6 : Nat)) (0 : Nat)))), (7, Tv.sv (Sv.one (At.ptr ((17 : Nat) + (7 : Nat)) (0 : Nat)))), (8, iT (pf x).snd.snd), (9, iT (sf x).fst), (10, Tv.sv (Sv.one (At.ptr ((28 : Nat) + (6 : Nat)) (0 : Nat)))), (11, iT (sf x).snd.snd)] [(0, 0, At.bool x.neg), (0, 1, At.words false x.xs), (0, 2, At.int .i64 x.e), (13, 0, At.bool (tf x).snd.fst.neg), (13, 1, At.words false (tf x).snd.fst.xs), (13, 2, At.int .i64 (tf x).snd.fst.e), (23, 0, At.bool (pf x).fst.neg), (23, 1, At.words false (pf x).fst.xs), (23, 2, At.int .i64 (pf x).fst.e), (24, 0, At.bool (pf x).snd.fst.neg), (24, 1, At.words false (pf x).snd.fst.xs), (24, 2, At.int .i64 (pf x).snd.fst.e), (34, 0, At.bool (sf x).snd.fst.neg), (34, 1, At.words false (sf x).snd.fst.xs), (34, 2, At.int .i64 (sf x).snd.fst.e)] (35 : Nat) = LKeep.at bkK (bkSt x (tf x) (sf x) (pf x) x_1))) (true = true ∧ ∃ (x_1 : Nat), P x_1 ∧ Sg.mk [(1, Tv.sv (Sv.one (At.ptr 0 0))), (3, iT (tf x).fst), (4, Tv.sv (Sv.one (At.ptr ((7 : Nat) + (6 : Nat)) (0 : Nat)))), (5, iT (tf x).snd.snd), (6, Tv.sv (Sv.one (At.ptr ((17 : Nat) + (6 : Nat)) (0 : Nat)))), (7, Tv.sv (Sv.one (At.ptr ((17 : Nat) + (7 : Nat)) (0 : Nat)))), (8, iT (pf x).snd.snd), (9, iT (sf x).fst), (10, Tv.sv (Sv.one (At.ptr ((28 : Nat) + (6 : Nat)) (0 : Nat)))), (11, iT (sf x).snd.snd)] [(0, 0, At.bool x.neg), (0, 1, At.words false x.xs), (0, 2, At.int .i64 x.e), (13, 0, At.bool (tf x).snd.fst.neg), (13, 1, At.words false (tf x).snd.fst.xs), (13, 2, At.int .i64 (tf x).snd.fst.e), (23, 0, At.bool (pf x).fst.neg), (23, 1, At.words false (pf x).fst.xs), (23, 2, At.int .i64 (pf x).fst.e), (24, 0, At.bool (pf x).snd.fst.neg), (24, 1, At.words false (pf x).snd.fst.xs), (24, 2, At.int .i64 (pf x).snd.fst.e), (34, 0, At.bool (sf x).snd.fst.neg), (34, 1, At.words false (sf x).snd.fst.xs), (34, 2, At.int .i64 (sf x).snd.fst.e)] (35 : Nat) = LKeep.at bkK (bkSt x (tf x) (sf x) (pf x) x_1))))) (br (eqI (sf x).snd.snd (0 : Int)) (br (!Dx.fitsB (sf x).snd.fst) (Q (bT false)) (true = true ∧ ∃ (x_1 : Nat), P x_1 ∧ Sg.mk [(1, Tv.sv (Sv.one (At.ptr 0 0))), (3, iT (tf x).fst), (4, Tv.sv (Sv.one (At.ptr ((7 : Nat) + (6 : Nat)) (0 : Nat)))), (5, iT (tf x).snd.snd), (6, Tv.sv (Sv.one (At.ptr ((17 : Nat) + (6 : Nat)) (0 : Nat)))), (7, Tv.sv (Sv.one (At.ptr ((17 : Nat) + (7 : Nat)) (0 : Nat)))), (8, iT (pf x).snd.snd), (9, iT (sf x).fst), (10, Tv.sv (Sv.one (At.ptr ((28 : Nat) + (6 : Nat)) (0 : Nat)))), (11, iT (sf x).snd.snd)] [(0, 0, At.bool x.neg), (0, 1, At.words false x.xs), (0, 2, At.int .i64 x.e), (13, 0, At.bool (tf x).snd.fst.neg), (13, 1, At.words false (tf x).snd.fst.xs), (13, 2, At.int .i64 (tf x).snd.fst.e), (23, 0, At.bool (pf x).fst.neg), (23, 1, At.words false (pf x).fst.xs), (23, 2, At.int .i64 (pf x).fst.e), (24, 0, At.bool (pf x).snd.fst.neg), (24, 1, At.words false (pf x).snd.fst.xs), (24, 2, At.int .i64 (pf x).snd.fst.e), (34, 0, At.bool (sf x).snd.fst.neg), (34, 1, At.words false (sf x).snd.fst.xs), (34, 2, At.int .i64 (sf x).snd.fst.e)] (35 : Nat) = LKeep.at bkK (bkSt x (tf x) (sf x) (pf x) x_1))) (true = true ∧ ∃ (x_1 : Nat), P x_1 ∧ Sg.mk [(1, Tv.sv (Sv.one (At.ptr 0 0))), (3, iT (tf x).fst), (4, Tv.sv (Sv.one (At.ptr ((7 : Nat) + (6 : Nat)) (0 : Nat)))), (5, iT (tf x).snd.snd), (6, Tv.sv (Sv.one (At.ptr ((17 : Nat) + (6 : Nat)) (0 : Nat)))), (7, Tv.sv (Sv.one (At.ptr ((17 : Nat) + (7 : Nat)) (0 : Nat)))), (8, iT (pf x).snd.snd), (9, iT (sf x).fst), (10, Tv.sv (Sv.one (At.ptr ((28 : Nat) + (6 : Nat)) (0 : Nat)))), (11, iT (sf x).snd.snd)] [(0, 0, At.bool x.neg), (0, 1, At.words false x.xs), (0, 2, At.int .i64 x.e), (13, 0, At.bool (tf x).snd.fst.neg), (13, 1, At.words false (tf x).snd.fst.xs), (13, 2, At.int .i64 (tf x).snd.fst.e), (23, 0, At.bool (pf x).fst.neg), (23, 1, At.words false (pf x).fst.xs), (23, 2, At.int .i64 (pf x).fst.e), (24, 0, At.bool (pf x).snd.fst.neg), (24, 1, At.words false (pf x).snd.fst.xs), (24, 2, At.int .i64 (pf x).snd.fst.e), (34, 0, At.bool (sf x).snd.fst.neg), (34, 1, At.words false (sf x).snd.fst.xs), (34, 2, At.int .i64 (sf x).snd.fst.e)] (35 : Nat) = LKeep.at bkK (bkSt x (tf x) (sf x) (pf x) x_1))))) (br (eqI (pf x).snd.snd (0 : Int)) (br (!Dx.fitsB (pf x).fst) (Q (bT false)) (br (!Dx.fitsB (pf x).snd.fst) (Q (bT false)) (br (eqI (sf x).snd.snd (0 : Int)) (br (!Dx.fitsB (sf x).snd.fst) (Q (bT false)) (true = true ∧ ∃ (x_1 : Nat), P x_1 ∧ Sg.mk [(1, Tv.sv (Sv.one (At.ptr 0 0))), (3, iT (tf x).fst), (4, Tv.sv (Sv.one (At.ptr ((7 : Nat) + (6 : Nat)) (0 : Nat)))), (5, iT (tf x).snd.snd), (6, Tv.sv (Sv.one (At.ptr ((17 : Nat) + (6 : Nat)) (0 : Nat)))), (7, Tv.sv (Sv.one (At.ptr ((17 : Nat) + (7 : Nat)) (0 : Nat)))), (8, iT (pf x).snd.snd), (9, iT (sf x).fst), (10, Tv.sv (Sv.one (At.ptr ((28 : Nat) + (6 : Nat)) (0 : Nat)))), (11, iT (sf x).snd.snd)] [(0, 0, At.bool x.neg), (0, 1, At.words false x.xs), (0, 2, At.int .i64 x.e), (13, 0, At.bool (tf x).snd.fst.neg), (13, 1, At.words false (tf x).snd.fst.xs), (13, 2, At.int .i64 (tf x).snd.fst.e), (23, 0, At.bool (pf x).fst.neg), (23, 1, At.words false (pf x).fst.xs), (23, 2, At.int .i64 (pf x).fst.e), (24, 0, At.bool (pf x).snd.fst.neg), (24, 1, At.words false (pf x).snd.fst.xs), (24, 2, At.int .i64 (pf x).snd.fst.e), (34, 0, At.bool (sf x).snd.fst.neg), (34, 1, At.words false (sf x).snd.fst.xs), (34, 2, At.int .i64 (sf x).snd.fst.e)] (35 : Nat) = LKeep.at bkK (bkSt x (tf x) (sf x) (pf x) x_1))) (true = true ∧ ∃ (x_1 : Nat), P x_1 ∧ Sg.mk [(1, Tv.sv (Sv.one (At.ptr 0 0))), (3, iT (tf x).fst), (4, Tv.sv (Sv.one (At.ptr ((7 : Nat) + (6 : Nat)) (0 : Nat)))), (5, iT (tf x).snd.snd), (6, Tv.sv (Sv.one (At.ptr ((17 : Nat) + (6 : Nat)) (0 : Nat)))), (7, Tv.sv (Sv.one (At.ptr ((17 : Nat) + (7 : Nat)) (0 : Nat)))), (8, iT (pf x).snd.snd), (9, iT (sf x).fst), (10, Tv.sv (Sv.one (At.ptr ((28 : Nat) + (6 : Nat)) (0 : Nat)))), (11, iT (sf x).snd.snd)] [(0, 0, At.bool x.neg), (0, 1, At.words false x.xs), (0, 2, At.int .i64 x.e), (13, 0, At.bool (tf x).snd.fst.neg), (13, 1, At.words false (tf x).snd.fst.xs), (13, 2, At.int .i64 (tf x).snd.fst.e), (23, 0, At.bool (pf x).fst.neg), (23, 1, At.words false (pf x).fst.xs), (23, 2, At.int .i64 (pf x).fst.e), (24, 0, At.bool (pf x).snd.fst.neg), (24, 1, At.words false (pf x).snd.fst.xs), (24, 2, At.int .i64 (pf x).snd.fst.e), (34, 0, At.bool (sf x).snd.fst.neg), (34, 1, At.words false (sf x).snd.fst.xs), (34, 2, At.int .i64 (sf x).snd.fst.e)] (35 : Nat) = LKeep.at bkK (bkSt x (tf x) (sf x) (pf x) x_1))))) (br (eqI (sf x).snd.snd (0 : Int)) (br (!Dx.fitsB (sf x).snd.fst) (Q (bT false)) (true = true ∧ ∃ (x_1 : Nat), P x_1 ∧ Sg.mk [(1, Tv.sv (Sv.one (At.ptr 0 0))), (3, iT (tf x).fst), (4, Tv.sv (Sv.one (At.ptr ((7 : Nat) + (6 : Nat)) (0 : Nat)))), (5, iT (tf x).snd.snd), (6, Tv.sv (Sv.one (At.ptr ((17 : Nat) + (6 : Nat)) (0 : Nat)))), (7, Tv.sv (Sv.one (At.ptr ((17 : Nat) + (7 : Nat)) (0 : Nat)))), (8, iT (pf x).snd.snd), (9, iT (sf x).fst), (10, Tv.sv (Sv.one (At.ptr ((28 : Nat) + (6 : Nat)) (0 : Nat)))), (11, iT (sf x).snd.snd)] [(0, 0, At.bool x.neg), (0, 1, At.words false x.xs), (0, 2, At.int .i64 x.e), (13, 0, At.bool (tf x).snd.fst.neg), (13, 1, At.words false (tf x).snd.fst.xs), (13, 2, At.int .i64 (tf x).snd.fst.e), (23, 0, At.bool (pf x).fst.neg), (23, 1, At.words false (pf x).fst.xs), (23, 2, At.int .i64 (pf x).fst.e), (24, 0, At.bool (pf x).snd.fst.neg), (24, 1, At.words false (pf x).snd.fst.xs), (24, 2, At.int .i64 (pf x).snd.fst.e), (34, 0, At.bool (sf x).snd.fst.neg), (34, 1, At.words false (sf x).snd.fst.xs), (34, 2, At.int .i64 (sf x).snd.fst.e)] (35 : Nat) = LKeep.at bkK (bkSt x (tf x) (sf x) (pf x) x_1))) (true = true ∧ ∃ (x_1 : Nat), P x_1 ∧ Sg.mk [(1, Tv.sv (Sv.one (At.ptr 0 0))), (3, iT (tf x).fst), (4, Tv.sv (Sv.one (At.ptr ((7 : Nat) + (6 : Nat)) (0 : Nat)))), (5, iT (tf x).snd.snd), (6, Tv.sv (Sv.one (At.ptr ((17 : Nat) + (6 : Nat)) (0 : Nat)))), (7, Tv.sv (Sv.one (At.ptr ((17 : Nat) + (7 : Nat)) (0 : Nat)))), (8, iT (pf x).snd.snd), (9, iT (sf x).fst), (10, Tv.sv (Sv.one (At.ptr ((28 : Nat) + (6 : Nat)) (0 : Nat)))), (11, iT (sf x).snd.snd)] [(0, 0, At.bool x.neg), (0, 1, At.words false x.xs), (0, 2, At.int .i64 x.e), (13, 0, At.bool (tf x).snd.fst.neg), (13, 1, At.words false (tf x).snd.fst.xs), (13, 2, At.int .i64 (tf x).snd.fst.e), (23, 0, At.bool (pf x).fst.neg), (23, 1, At.words false (pf x).fst.xs), (23, 2, At.int .i64 (pf x).fst.e), (24, 0, At.bool (pf x).snd.fst.neg), (24, 1, At.words false (pf x).snd.fst.xs), (24, 2, At.int .i64 (pf x).snd.fst.e), (34, 0, At.bool (sf x).snd.fst.neg), (34, 1, At.words false (sf x).snd.fst.xs), (34, 2, At.int .i64 (sf x).snd.fst.e)] (35 : Nat) = LKeep.at bkK (bkSt x (tf x) (sf x) (pf x) x_1)))) ∧ ∀ (x_1 : Nat), P x_1 → br (eqI (tf x).snd.snd (0 : Int)) ((Dx.Sm (34359738368 : Nat) x ∧ Dx.Sm (34359738368 : Nat) (tf x).snd.fst) ∧ (eB (2305843009213693952 : Int) (lessD x (tf x).snd.fst) ∧ (-2305843009213693952 : Int) ≤ (1 : Int) ∧ (1 : Int) ≤ (2305843009213693952 : Int)) ∧ inR (tf x).fst ∧ (Dx.Sm (34359738368 : Nat) (shiftD (lessD x (tf x).snd.fst) (1 : Int)) ∧ Dx.Sm (34359738368 : Nat) (mkS (tf x).fst (0 : Int))) ∧ (eB (2305843009213693952 : Int) (lessD (shiftD (lessD x (tf x).snd.fst) (1 : Int)) (mkS (tf x).fst (0 : Int))) ∧ (-2305843009213693952 : Int) ≤ (-2 : Int) ∧ (-2 : Int) ≤ (2305843009213693952 : Int)) ∧ true = true ∧ br (!Dx.zeroB (shiftD (lessD (shiftD (lessD x (tf x).snd.fst) (1 : Int)) (mkS (tf x).fst (0 : Int))) (-2 : Int))) (br (ltI (shiftD (lessD (shiftD (lessD x (tf x).snd.fst) (1 : Int)) (mkS (tf x).fst (0 : Int))) (-2 : Int)).e (0 : Int)) (Q (bT false)) (true = true ∧ ∃ (x_2 : Nat), P x_2 ∧ Sg.mk [(1, Tv.sv (Sv.one (At.ptr 0 0))), (3, iT (tf x).fst), (4, Tv.sv (Sv.one (At.ptr 13 0))), (5, iT (tf x).snd.snd), (6, Tv.sv (Sv.one (At.ptr 23 0))), (7, Tv.sv (Sv.one (At.ptr 24 0))), (8, iT (pf x).snd.snd), (9, iT (sf x).fst), (10, Tv.sv (Sv.one (At.ptr 34 0))), (11, iT (sf x).snd.snd)] [(0, 0, At.bool x.neg), (0, 1, At.words false x.xs), (0, 2, At.int .i64 x.e), (13, 0, At.bool (tf x).snd.fst.neg), (13, 1, At.words false (tf x).snd.fst.xs), (13, 2, At.int .i64 (tf x).snd.fst.e), (23, 0, At.bool (pf x).fst.neg), (23, 1, At.words false (pf x).fst.xs), (23, 2, At.int .i64 (pf x).fst.e), (24, 0, At.bool (pf x).snd.fst.neg), (24, 1, At.words false (pf x).snd.fst.xs), (24, 2, At.int .i64 (pf x).snd.fst.e), (34, 0, At.bool (sf x).snd.fst.neg), (34, 1, At.words false (sf x).snd.fst.xs), (34, 2, At.int .i64 (sf x).snd.fst.e)] (35 : Nat) = LKeep.at bkK (bkSt x (tf x) (sf x) (pf x) x_2))) (true = true ∧ ∃ (x_2 : Nat), P x_2 ∧ Sg.mk [(1, Tv.sv (Sv.one (At.ptr 0 0))), (3, iT (tf x).fst), (4, Tv.sv (Sv.one (At.ptr 13 0))), (5, iT (tf x).snd.snd), (6, Tv.sv (Sv.one (At.ptr 23 0))), (7, Tv.sv (Sv.one (At.ptr 24 0))), (8, iT (pf x).snd.snd), (9, iT (sf x).fst), (10, Tv.sv (Sv.one (At.ptr 34 0))), (11, iT (sf x).snd.snd)] [(0, 0, At.bool x.neg), (0, 1, At.words false x.xs), (0, 2, At.int .i64 x.e), (13, 0, At.bool (tf x).snd.fst.neg), (13, 1, At.words false (tf x).snd.fst.xs), (13, 2, At.int .i64 (tf x).snd.fst.e), (23, 0, At.bool (pf x).fst.neg), (23, 1, At.words false (pf x).fst.xs), (23, 2, At.int .i64 (pf x).fst.e), (24, 0, At.bool (pf x).snd.fst.neg), (24, 1, At.words false (pf x).snd.fst.xs), (24, 2, At.int .i64 (pf x).snd.fst.e), (34, 0, At.bool (sf x).snd.fst.neg), (34, 1, At.words false (sf x).snd.fst.xs), (34, 2, At.int .i64 (sf x).snd.fst.e)] (35 : Nat) = LKeep.at bkK (bkSt x (tf x) (sf x) (pf x) x_2))) (true = true ∧ ∃ (x_2 : Nat), P x_2 ∧ Sg.mk [(1, Tv.sv (Sv.one (At.ptr 0 0))), (3, iT (tf x).fst), (4, Tv.sv (Sv.one (At.ptr 13 0))), (5, iT (tf x).snd.snd), (6, Tv.sv (Sv.one (At.ptr 23 0))), (7, Tv.sv (Sv.one (At.ptr 24 0))), (8, iT (pf x).snd.snd), (9, iT (sf x).fst), (10, Tv.sv (Sv.one (At.ptr 34 0))), (11, iT (sf x).snd.snd)] [(0, 0, At.bool x.neg), (0, 1, At.words false x.xs), (0, 2, At.int .i64 x.e), (13, 0, At.bool (tf x).snd.fst.neg), (13, 1, At.words false (tf x).snd.fst.xs), (13, 2, At.int .i64 (tf x).snd.fst.e), (23, 0, At.bool (pf x).fst.neg), (23, 1, At.words false (pf x).fst.xs), (23, 2, At.int .i64 (pf x).fst.e), (24, 0, At.bool (pf x).snd.fst.neg), (24, 1, At.words false (pf x).snd.fst.xs), (24, 2, At.int .i64 (pf x).snd.fst.e), (34, 0, At.bool (sf x).snd.fst.neg), (34, 1, At.words false (sf x).snd.fst.xs), (34, 2, At.int .i64 (sf x).snd.fst.e)] (35 : Nat) = LKeep.at bkK (bkSt x (tf x) (sf x) (pf x) x_2)) ∧ ∀ (x_2 : Nat), P x_2 → br (eqI (pf x).snd.snd (0 : Int)) ((Dx.Sm (68719476736 : Nat) (pf x).fst ∧ Dx.Sm (68719476736 : Nat) (pf x).snd.fst) ∧ eB (4611686018427387904 : Int) x ∧ true = true ∧ br (!sameD (plusD (pf x).fst (pf x).snd.fst) (oneD x)) (Q (bT false)) (true = true ∧ ∃ (x_3 : Nat), P x_3 ∧ Sg.mk [(1, Tv.sv (Sv.one (At.ptr 0 0))), (3, iT (tf x).fst), (4, Tv.sv (Sv.one (At.ptr 13 0))), (5, iT (tf x).snd.snd), (6, Tv.sv (Sv.one (At.ptr 23 0))), (7, Tv.sv (Sv.one (At.ptr 24 0))), (8, iT (pf x).snd.snd), (9, iT (sf x).fst), (10, Tv.sv (Sv.one (At.ptr 34 0))), (11, iT (sf x).snd.snd)] [(0, 0, At.bool x.neg), (0, 1, At.words false x.xs), (0, 2, At.int .i64 x.e), (13, 0, At.bool (tf x).snd.fst.neg), (13, 1, At.words false (tf x).snd.fst.xs), (13, 2, At.int .i64 (tf x).snd.fst.e), (23, 0, At.bool (pf x).fst.neg), (23, 1, At.words false (pf x).fst.xs), (23, 2, At.int .i64 (pf x).fst.e), (24, 0, At.bool (pf x).snd.fst.neg), (24, 1, At.words false (pf x).snd.fst.xs), (24, 2, At.int .i64 (pf x).snd.fst.e), (34, 0, At.bool (sf x).snd.fst.neg), (34, 1, At.words false (sf x).snd.fst.xs), (34, 2, At.int .i64 (sf x).snd.fst.e)] (35 : Nat) = LKeep.at bkK (bkSt x (tf x) (sf x) (pf x) x_3))) (true = true ∧ true = true ∧ ∃ (x_3 : Nat), P x_3 ∧ Sg.mk [(1, Tv.sv (Sv.one (At.ptr 0 0))), (3, iT (tf x).fst), (4, Tv.sv (Sv.one (At.ptr 13 0))), (5, iT (tf x).snd.snd), (6, Tv.sv (Sv.one (At.ptr 23 0))), (7, Tv.sv (Sv.one (At.ptr 24 0))), (8, iT (pf x).snd.snd), (9, iT (sf x).fst), (10, Tv.sv (Sv.one (At.ptr 34 0))), (11, iT (sf x).snd.snd)] [(0, 0, At.bool x.neg), (0, 1, At.words false x.xs), (0, 2, At.int .i64 x.e), (13, 0, At.bool (tf x).snd.fst.neg), (13, 1, At.words false (tf x).snd.fst.xs), (13, 2, At.int .i64 (tf x).snd.fst.e), (23, 0, At.bool (pf x).fst.neg), (23, 1, At.words false (pf x).fst.xs), (23, 2, At.int .i64 (pf x).fst.e), (24, 0, At.bool (pf x).snd.fst.neg), (24, 1, At.words false (pf x).snd.fst.xs), (24, 2, At.int .i64 (pf x).snd.fst.e), (34, 0, At.bool (sf x).snd.fst.neg), (34, 1, At.words false (sf x).snd.fst.xs), (34, 2, At.int .i64 (sf x).snd.fst.e)] (35 : Nat) = LKeep.at bkK (bkSt x (tf x) (sf x) (pf x) x_3)) ∧ ∀ (x_3 : Nat), P x_3 → br (neI (sf x).snd.snd (0 : Int)) (true = true ∧ Q (bT true)) ((eB (2305843009213693952 : Int) (sf x).snd.fst ∧ (-2305843009213693952 : Int) ≤ (sf x).fst ∧ (sf x).fst ≤ (2305843009213693952 : Int)) ∧ eB (4611686018427387904 : Int) x ∧ true = true ∧ Q (bT (sameD (shiftD (sf x).snd.fst (sf x).fst) (oneD x)))))) := by kernel_rfl
theorem whole_e {z : Dx} (f : OneF z) {k : Int} (h : z.rv = (k : Rat)) : 0 ≤ z.e := by
  by_cases hm : z.m = 0
  · rw [f.zero hm]; exact Int.le_refl _
  · refine Int.not_lt.1 fun hlt => ?_
    have e : (z.sm : Rat) * p2 z.e = (k : Rat) * p2 0 := by rw [p2_zero, Rat.mul_one]; exact h
    have q := p2_int_odd e (by omega)
    have o := sm_odd (f.odd hm)
    obtain ⟨j, hj⟩ : ∃ j, (0 - z.e).toNat = j + 1 := ⟨(0 - z.e).toNat - 1, by omega⟩
    rw [hj, Int.pow_succ, ← Int.mul_assoc] at q
    omega
theorem spl_ok {x : Dx} (h : (splR x).2.2 = 0) : x.fitsB = true ∧ (spN (oneD x)).fitsB = true ∧ (lessD (oneD x) (spN (oneD x))).fitsB = true ∧ splR x = (spN (oneD x), lessD (oneD x) (spN (oneD x)), 0) := by
  unfold splR at h ⊢
  split at h
  · rename_i h1
    split at h
    · rename_i h2
      split at h
      · rename_i h3
        rw [if_pos h1, if_pos h2, if_pos h3]; exact ⟨h1, h3.1, h3.2, rfl⟩
      · cases h
    · cases h
  · cases h
theorem sca_ok {x : Dx} (h : (scaR x).2.2 = 0) : x.fitsB = true ∧ 0 < (oneD x).sgn ∧ (scX (oneD x)).fitsB = true ∧ scaR x = (scK (oneD x), scX (oneD x), 0) := by
  unfold scaR at h ⊢
  split at h
  · rename_i h1
    split at h
    · rename_i h2
      split at h
      · cases h
      · rename_i h3
        split at h
        · rename_i h4
          rw [if_pos h1, if_pos h2, if_neg h3, if_pos h4]; exact ⟨h1, by omega, h4, rfl⟩
        · cases h
    · cases h
  · cases h
theorem scX_rv {y : Dx} (hy : 0 ≤ y.m) : (scX y).rv * p2 (scK y) = y.rv := by
  have e1 : (scM y).rv = y.rv * p2 (-topD y) := rv_shift hy
  unfold scX scK
  split
  · rw [rv_shift (d := scM y) shiftD_p, e1]
    have k : p2 (-topD y + (-1) + (topD y + 1)) = p2 (-topD y) * p2 (-1) * p2 (topD y + 1) := by rw [p2_add, p2_add]
    have : y.rv * p2 (-topD y) * p2 (-1) * p2 (topD y + 1) = y.rv * (p2 (-topD y + (-1) + (topD y + 1))) := by rw [k, Rat.mul_assoc, Rat.mul_assoc, Rat.mul_assoc]
    rw [this, show -topD y + (-1) + (topD y + 1) = 0 by omega, p2_zero, Rat.mul_one]
  · rw [e1, Rat.mul_assoc, p2_neg, Rat.mul_one]
theorem scK_bd {y : Dx} (h : y.Bd 32768 98304) : -40000 ≤ scK y ∧ scK y ≤ 100000 := by
  have a := h.lo
  have b := h.hi
  have e : topD y = y.e + blen y.m - 1 := rfl
  unfold scK; split <;> omega
def lBk : Spec := specK [.d] fun (_ : Dx) => (none, bT true)
theorem lBk_ok : SpecOk Tryz.prog 9 lBk :=
  specK_ok (envOk tys6_ok sLw_ok) mixed Tryz.func9 rfl (by decide) (by decide) fun (x : Dx) hxw _ => ⟨bkInv x (turR x) (scaR x) (splR x) (fun n => n = 0), 0, by
    have hx := Dx.Wf.m0 hxw
    show execF _ _ _ _ _ (fun t => t = bT true)
    refine (lBk_vc x (fun n => n = 0) quarR turR scaR splR _).mpr (br_intro (fun _ => rfl) fun hfit => ?_)
    have hfit := not_false' hfit
    have bx := fits_bd hfit
    have by' := bx.one hx
    have sx := bx.sm (N := 131072) (by omega)
    have fy : OneF (oneD x) := oneD_f hx
    have st : ∀ n : Nat, n = 0 → true = true ∧ ∃ a : Nat, a = 0 ∧ bkK.at (bkSt x (turR x) (scaR x) (splR x) 0) = bkK.at (bkSt x (turR x) (scaR x) (splR x) a) := fun n _ => ⟨rfl, 0, rfl, rfl⟩
    have st0 := st 0 rfl
    refine ⟨br_intro (fun h1 => br_intro (fun k => ?_) fun _ => br_intro (fun h2 => br_intro (fun k => ?_) fun _ => br_intro (fun k => ?_) fun _ => br_intro (fun h3 => br_intro (fun k => ?_) fun _ => st0) fun _ => st0) fun _ => br_intro (fun h3 => br_intro (fun k => ?_) fun _ => st0) fun _ => st0) fun _ => br_intro (fun h2 => br_intro (fun k => ?_) fun _ => br_intro (fun k => ?_) fun _ => br_intro (fun h3 => br_intro (fun k => ?_) fun _ => st0) fun _ => st0) fun _ => br_intro (fun h3 => br_intro (fun k => ?_) fun _ => st0) fun _ => st0, fun _ _ => ⟨br_intro (fun h1 => ?_) fun _ => st0, fun _ _ => ⟨br_intro (fun h2 => ?_) fun _ => ⟨rfl, st0⟩, fun _ _ => br_intro (fun _ => ⟨rfl, rfl⟩) fun h3 => ?_⟩⟩⟩
    · obtain ⟨_, _, a, e⟩ := tur_ok (eqI_true.1 h1)
      rw [e] at k; rw [a] at k; cases k
    · obtain ⟨_, a, b, e⟩ := spl_ok (eqI_true.1 h2)
      rw [e] at k; rw [a] at k; cases k
    · obtain ⟨_, a, b, e⟩ := spl_ok (eqI_true.1 h2)
      rw [e] at k; rw [b] at k; cases k
    · obtain ⟨_, _, a, e⟩ := sca_ok (eqI_true.1 h3)
      rw [e] at k; rw [a] at k; cases k
    · obtain ⟨_, _, a, e⟩ := sca_ok (eqI_true.1 h3)
      rw [e] at k; rw [a] at k; cases k
    · obtain ⟨_, a, b, e⟩ := spl_ok (eqI_true.1 h2)
      rw [e] at k; rw [a] at k; cases k
    · obtain ⟨_, a, b, e⟩ := spl_ok (eqI_true.1 h2)
      rw [e] at k; rw [b] at k; cases k
    · obtain ⟨_, _, a, e⟩ := sca_ok (eqI_true.1 h3)
      rw [e] at k; rw [a] at k; cases k
    · obtain ⟨_, _, a, e⟩ := sca_ok (eqI_true.1 h3)
      rw [e] at k; rw [a] at k; cases k
    · obtain ⟨_, _, a, e⟩ := tur_ok (eqI_true.1 h1)
      have fX : OneF (turX (oneD x)) := lessD_f oneD_p
      have b2 : (lessD x (turX (oneD x))).Bd 32768 98305 := bx.less hx fX.p (fits_bd a)
      have b3 := shift_bd lessD_p b2
      have i4 : 0 ≤ by4I (turN (oneD x)) ∧ by4I (turN (oneD x)) ≤ 3 := by unfold by4I; omega
      have b4 : (mkS (by4I (turN (oneD x))) 0).Bd 32768 98306 := mkS_bd (by omega) (by omega) (by omega) (by
        have : blen (((by4I (turN (oneD x))).natAbs : Nat) : Int) ≤ 2 := blen_le (by omega)
        omega)
      have b5 := b3.less shiftD_p mkS_p b4
      have b6 := (b5.sm (N := 131080) (by omega)).eB (M := 2305843009213693952) (by omega)
      have k1 : (turR x).1 = by4I (turN (oneD x)) := by rw [e]
      have k2 : (turR x).2.1 = turX (oneD x) := by rw [e]
      rw [k1, k2]
      refine ⟨⟨sx.mono (by omega), (fits_sm a).mono (by omega)⟩, ⟨(b2.sm (N := 131080) (by omega)).eB (by omega), by omega, by omega⟩, ⟨by omega, by omega⟩, ⟨b3.sm (by omega), b4.sm (by omega)⟩, ⟨b6, by omega, by omega⟩, rfl, br_intro (fun _ => br_intro (fun k => ?_) fun _ => ⟨rfl, 0, rfl, by rw [e]; rfl⟩) fun _ => ⟨rfl, 0, rfl, by rw [e]; rfl⟩⟩
      exfalso
      have fc : OneF (shiftD (lessD (shiftD (lessD x (turX (oneD x))) 1) (mkS (by4I (turN (oneD x))) 0)) (-2)) := shiftD_f lessD_p
      have hq : ∃ q : Int, wholeS (turN (oneD x)) - wholeS (turN (oneD x)) % 4 = 4 * q := ⟨wholeS (turN (oneD x)) / 4, by omega⟩
      obtain ⟨q, hq⟩ := hq
      have := whole_e fc (k := q) (by
        rw [rv_shift lessD_p, rv_less shiftD_p mkS_p, rv_shift lessD_p, rv_less hx fX.p, rv_mkS, turX_rv oneD_p, rv_one hx, p2_v.1, p2_v.2.1, p2_v.2.2.2]
        have e4 : ((wholeS (turN (oneD x)) - wholeS (turN (oneD x)) % 4 : Int) : Rat) = ((4 * q : Int) : Rat) := by rw [hq]
        rw [Rat.intCast_sub, Rat.intCast_mul] at e4
        have e44 : ((4 : Int) : Rat) = 4 := rfl
        rw [e44] at e4
        have e5 : by4I (turN (oneD x)) = wholeS (turN (oneD x)) % 4 := rfl
        rw [e5]; grind)
      have k := ltI_true.1 k
      omega
    · obtain ⟨_, a, b, e⟩ := spl_ok (eqI_true.1 h2)
      have fn : OneF (spN (oneD x)) := nearD_f
      have k1 : (splR x).1 = spN (oneD x) := by rw [e]
      have k2 : (splR x).2.1 = lessD (oneD x) (spN (oneD x)) := by rw [e]
      have eq : plusD (spN (oneD x)) (lessD (oneD x) (spN (oneD x))) = oneD x := (plusD_f fn.p lessD_p).ext fy (by rw [rv_plus fn.p lessD_p, rv_less fy.p fn.p]; grind)
      rw [k1, k2, eq, sameD_refl2]
      exact ⟨⟨(fits_sm a).mono (by omega), (fits_sm b).mono (by omega)⟩, sx.eB (by omega), rfl, br_intro (fun h => by cases h) fun _ => ⟨rfl, 0, rfl, by rw [e]; rfl⟩⟩
    · obtain ⟨_, p0, a, e⟩ := sca_ok (neI_false.1 h3)
      have fX : OneF (scX (oneD x)) := by unfold scX; split <;> exact shiftD_f (by first | exact shiftD_p | exact fy.p)
      have kb := scK_bd by'
      have eq : shiftD (scX (oneD x)) (scK (oneD x)) = oneD x := (shiftD_f fX.p).ext fy (by rw [rv_shift fX.p, scX_rv fy.p])
      have k1 : (scaR x).1 = scK (oneD x) := by rw [e]
      have k2 : (scaR x).2.1 = scX (oneD x) := by rw [e]
      rw [k1, k2, eq, sameD_refl2]
      exact ⟨⟨(fits_sm a).eB (by omega), by omega, by omega⟩, sx.eB (by omega), rfl, rfl⟩⟩
end Go.Proofs.YtdnbckfhfhfkoaaGreatDoor

namespace Go.Proofs.YtdnbckfhfhfkoaaGreatDoor
open Go.RowKit
def amtB (x : Dx) (m e : Int) : Bool := leI (cmpD ⟨false, (oneD x).xs, (oneD x).e⟩ (shiftD (mkS m 0) e)) 0
def lAm : Spec := specK [.d, .i .i64, .i .i64] fun (x : Dx) (m : Int) (e : Int) => (some (x.Sm 131072 ∧ m = 1 ∧ -64 ≤ e ∧ e ≤ 64), bT (amtB x m e))
theorem lAm_vc (x : Dx) (m e : Int) (Q : Tv → Prop) : execF ⟨tys6, sQh1⟩ (fun _ => none) 0 Tryz.f34 [.agg (dyL false x), .one (.int .i64 m), .one (.int .i64 e)] Q = (eB (4611686018427387904 : Int) x ∧ inR m ∧ (eB (2305843009213693952 : Int) (mkS m (0 : Int)) ∧ (-2305843009213693952 : Int) ≤ e ∧ e ≤ (2305843009213693952 : Int)) ∧ (Dx.Sm (34359738368 : Nat) (Dx.mk false (oneD x).xs (oneD x).e) ∧ Dx.Sm (34359738368 : Nat) (shiftD (mkS m (0 : Int)) e)) ∧ true = true ∧ Q (bT (leI (cmpD (Dx.mk false (oneD x).xs (oneD x).e) (shiftD (mkS m (0 : Int)) e)) (0 : Int)))) := by kernel_rfl
theorem lAm_ok : SpecOk Tryz.prog 34 lAm :=
  specK_ok (envOk tys6_ok sQh1_ok) mixed Tryz.func34 rfl (by decide) (by decide) fun (x : Dx) hxw (m : Int) _ (e : Int) _ hp => ⟨fun _ => none, 0, by
    obtain ⟨s, rfl, e0, e1⟩ : x.Sm 131072 ∧ m = 1 ∧ -64 ≤ e ∧ e ≤ 64 := hp
    have hx := Dx.Wf.m0 hxw
    have so := one_sm hx s
    have s5 := mkS_sm5
    show execF _ _ _ _ _ (fun t => t = bT (amtB x 1 e))
    exact (lAm_vc x 1 e _).mpr ⟨s.eB (by omega), ⟨by omega, by omega⟩, ⟨s5.eB (by omega), by omega, by omega⟩, ⟨Dx.Sm.mono (show Dx.Sm (131072 + 131072) ⟨false, (oneD x).xs, (oneD x).e⟩ from so) (by omega), (shiftD_sm (M := 64) mkS_p s5 (by omega) (by omega)).mono (by omega)⟩, rfl, rfl⟩⟩
def nrK : LKeep := ⟨[8, 9, 10, 11, 12, 13, 15, 16], [(24, 3), (34, 3), (35, 3), (45, 3)], 46⟩
def nrSt (T S : Int × Dx × Int) (F : Dx × Dx × Int) (_ : Nat) : List (Nat × Tv) × List (Nat × Nat × At) :=
  ([(8, iT T.1), (9, .sv (.one (.ptr 24 0))), (10, iT T.2.2), (11, .sv (.one (.ptr 34 0))), (12, .sv (.one (.ptr 35 0))), (13, iT F.2.2), (15, .sv (.one (.ptr 45 0))), (16, iT S.2.2)],
   dyX 24 false T.2.1 ++ (dyX 34 false F.1 ++ (dyX 35 false F.2.1 ++ dyX 45 false S.2.1)))
def nrInv (T S : Int × Dx × Int) (F : Dx × Dx × Int) (P : Nat → Prop) (n : Nat) : Option LInv :=
  match Nat.beq 15 n with
  | true => some (.cut nrK Nat (nrSt T S F) P)
  | false => match Nat.beq 17 n with
    | true => some (.cut nrK Nat (nrSt T S F) P)
    | false => none
def sNr14 (am : Dx → Int → Int → Bool) (co : Int → Vx × Int) (qf : Dx → Int → Int × Vx × Int) (tf sf : Dx → Int × Dx × Int) (pf : Dx → Dx × Dx × Int) : List (FuncId × Spec) := [(34, specK [.d, .i .i64, .i .i64] fun (x : Dx) (m : Int) (e : Int) => (some (x.Sm 131072 ∧ m = 1 ∧ -64 ≤ e ∧ e ≤ 64), bT (am x m e))), (27, specK [.i .u8, .i .i64] fun (k : Int) (p : Int) => (some (k = 1), reT (co p)))] ++ sLw qf tf sf pf
theorem sNr14_ok : SpecsOk Tryz.prog (sNr14 amtB constR quarR turR scaR splR) := ⟨lAm_ok, cConst_ok, sLw_ok⟩
theorem lNe_vc (x : Dx) (p : Int) (P : Nat → Prop) (am : Dx → Int → Int → Bool) (co : Int → Vx × Int) (qf : Dx → Int → Int × Vx × Int) (tf sf : Dx → Int × Dx × Int) (pf : Dx → Dx × Dx × Int) (Q : Tv → Prop) : execF ⟨tys6, sNr14 am co qf tf sf pf⟩ (nrInv (tf x) (sf x) (pf x) P) 0 Tryz.f8 [.agg (dyL false x), .one (.int .i64 p)] Q = (br (!Dx.fitsB x) (Q (bT true)) ((1 : Int) = (1 : Int) ∧ br (neI (co (64 : Int)).snd (0 : Int)) (Q (bT false)) (br (!rightV (co (64 : Int)).fst) (Q (bT false)) ((eB (2305843009213693952 : Int) (co (64 : Int)).fst.lo ∧ eB (2305843009213693952 : Int) (co (64 : Int)).fst.hi ∧ (-2305843009213693952 : Int) ≤ (-2 : Int) ∧ (-2 : Int) ≤ (2305843009213693952 : Int)) ∧ br (eqI (qf x p).snd.snd (0 : Int)) (br (ltI (qf x p).fst (0 : Int)) (true = true ∧ Q (bT false)) (br (ltI (3 : Int) (qf x p).fst) (true = true ∧ Q (bT false)) ((Dx.Sm (34359738368 : Nat) (qf x p).snd.fst.lo ∧ Dx.Sm (34359738368 : Nat) (scaleV (co (64 : Int)).fst (-2 : Int)).hi) ∧ br (ltI (0 : Int) (cmpD (qf x p).snd.fst.lo (scaleV (co (64 : Int)).fst (-2 : Int)).hi)) (true = true ∧ Q (bT false)) (eB (4611686018427387904 : Int) (scaleV (co (64 : Int)).fst (-2 : Int)).hi ∧ (Dx.Sm (34359738368 : Nat) (negD (scaleV (co (64 : Int)).fst (-2 : Int)).hi) ∧ Dx.Sm (34359738368 : Nat) (qf x p).snd.fst.hi) ∧ true = true ∧ br (ltI (0 : Int) (cmpD (negD (scaleV (co (64 : Int)).fst (-2 : Int)).hi) (qf x p).snd.fst.hi)) (Q (bT false)) (true = true ∧ ∃ (x_1 : Nat), P x_1 ∧ Sg.mk [(8, iT (tf x).fst), (9, Tv.sv (Sv.one (At.ptr ((18 : Nat) + (6 : Nat)) (0 : Nat)))), (10, iT (tf x).snd.snd), (11, Tv.sv (Sv.one (At.ptr ((28 : Nat) + (6 : Nat)) (0 : Nat)))), (12, Tv.sv (Sv.one (At.ptr ((28 : Nat) + (7 : Nat)) (0 : Nat)))), (13, iT (pf x).snd.snd), (15, Tv.sv (Sv.one (At.ptr ((39 : Nat) + (6 : Nat)) (0 : Nat)))), (16, iT (sf x).snd.snd)] [(24, 0, At.bool (tf x).snd.fst.neg), (24, 1, At.words false (tf x).snd.fst.xs), (24, 2, At.int .i64 (tf x).snd.fst.e), (34, 0, At.bool (pf x).fst.neg), (34, 1, At.words false (pf x).fst.xs), (34, 2, At.int .i64 (pf x).fst.e), (35, 0, At.bool (pf x).snd.fst.neg), (35, 1, At.words false (pf x).snd.fst.xs), (35, 2, At.int .i64 (pf x).snd.fst.e), (45, 0, At.bool (sf x).snd.fst.neg), (45, 1, At.words false (sf x).snd.fst.xs), (45, 2, At.int .i64 (sf x).snd.fst.e)] (46 : Nat) = LKeep.at nrK (nrSt (tf x) (sf x) (pf x) x_1)))))) (true = true ∧ true = true ∧ ∃ (x_1 : Nat), P x_1 ∧ Sg.mk [(8, iT (tf x).fst), (9, Tv.sv (Sv.one (At.ptr ((18 : Nat) + (6 : Nat)) (0 : Nat)))), (10, iT (tf x).snd.snd), (11, Tv.sv (Sv.one (At.ptr ((28 : Nat) + (6 : Nat)) (0 : Nat)))), (12, Tv.sv (Sv.one (At.ptr ((28 : Nat) + (7 : Nat)) (0 : Nat)))), (13, iT (pf x).snd.snd), (15, Tv.sv (Sv.one (At.ptr ((39 : Nat) + (6 : Nat)) (0 : Nat)))), (16, iT (sf x).snd.snd)] [(24, 0, At.bool (tf x).snd.fst.neg), (24, 1, At.words false (tf x).snd.fst.xs), (24, 2, At.int .i64 (tf x).snd.fst.e), (34, 0, At.bool (pf x).fst.neg), (34, 1, At.words false (pf x).fst.xs), (34, 2, At.int .i64 (pf x).fst.e), (35, 0, At.bool (pf x).snd.fst.neg), (35, 1, At.words false (pf x).snd.fst.xs), (35, 2, At.int .i64 (pf x).snd.fst.e), (45, 0, At.bool (sf x).snd.fst.neg), (45, 1, At.words false (sf x).snd.fst.xs), (45, 2, At.int .i64 (sf x).snd.fst.e)] (46 : Nat) = LKeep.at nrK (nrSt (tf x) (sf x) (pf x) x_1)) ∧ ∀ (x_1 : Nat), P x_1 → br (eqI (tf x).snd.snd (0 : Int)) (br (ltI (tf x).fst (0 : Int)) (Q (bT false)) (br (ltI (3 : Int) (tf x).fst) (Q (bT false)) ((Dx.Sm (131072 : Nat) (tf x).snd.fst ∧ (1 : Int) = (1 : Int) ∧ (-64 : Int) ≤ (-2 : Int) ∧ (-2 : Int) ≤ (64 : Int)) ∧ br (!am (tf x).snd.fst (1 : Int) (-2 : Int)) (Q (bT false)) (br (eqI (pf x).snd.snd (0 : Int)) ((Dx.Sm (131072 : Nat) (pf x).snd.fst ∧ (1 : Int) = (1 : Int) ∧ (-64 : Int) ≤ (-1 : Int) ∧ (-1 : Int) ≤ (64 : Int)) ∧ br (!am (pf x).snd.fst (1 : Int) (-1 : Int)) (Q (bT false)) (br (ltI (pf x).fst.e (0 : Int)) (Q (bT false)) (true = true ∧ ∃ (x_2 : Nat), P x_2 ∧ Sg.mk [(8, iT (tf x).fst), (9, Tv.sv (Sv.one (At.ptr 24 0))), (10, iT (tf x).snd.snd), (11, Tv.sv (Sv.one (At.ptr 34 0))), (12, Tv.sv (Sv.one (At.ptr 35 0))), (13, iT (pf x).snd.snd), (15, Tv.sv (Sv.one (At.ptr 45 0))), (16, iT (sf x).snd.snd)] [(24, 0, At.bool (tf x).snd.fst.neg), (24, 1, At.words false (tf x).snd.fst.xs), (24, 2, At.int .i64 (tf x).snd.fst.e), (34, 0, At.bool (pf x).fst.neg), (34, 1, At.words false (pf x).fst.xs), (34, 2, At.int .i64 (pf x).fst.e), (35, 0, At.bool (pf x).snd.fst.neg), (35, 1, At.words false (pf x).snd.fst.xs), (35, 2, At.int .i64 (pf x).snd.fst.e), (45, 0, At.bool (sf x).snd.fst.neg), (45, 1, At.words false (sf x).snd.fst.xs), (45, 2, At.int .i64 (sf x).snd.fst.e)] (46 : Nat) = LKeep.at nrK (nrSt (tf x) (sf x) (pf x) x_2)))) (true = true ∧ ∃ (x_2 : Nat), P x_2 ∧ Sg.mk [(8, iT (tf x).fst), (9, Tv.sv (Sv.one (At.ptr 24 0))), (10, iT (tf x).snd.snd), (11, Tv.sv (Sv.one (At.ptr 34 0))), (12, Tv.sv (Sv.one (At.ptr 35 0))), (13, iT (pf x).snd.snd), (15, Tv.sv (Sv.one (At.ptr 45 0))), (16, iT (sf x).snd.snd)] [(24, 0, At.bool (tf x).snd.fst.neg), (24, 1, At.words false (tf x).snd.fst.xs), (24, 2, At.int .i64 (tf x).snd.fst.e), (34, 0, At.bool (pf x).fst.neg), (34, 1, At.words false (pf x).fst.xs), (34, 2, At.int .i64 (pf x).fst.e), (35, 0, At.bool (pf x).snd.fst.neg), (35, 1, At.words false (pf x).snd.fst.xs), (35, 2, At.int .i64 (pf x).snd.fst.e), (45, 0, At.bool (sf x).snd.fst.neg), (45, 1, At.words false (sf x).snd.fst.xs), (45, 2, At.int .i64 (sf x).snd.fst.e)] (46 : Nat) = LKeep.at nrK (nrSt (tf x) (sf x) (pf x) x_2)))))) (br (eqI (pf x).snd.snd (0 : Int)) ((Dx.Sm (131072 : Nat) (pf x).snd.fst ∧ (1 : Int) = (1 : Int) ∧ (-64 : Int) ≤ (-1 : Int) ∧ (-1 : Int) ≤ (64 : Int)) ∧ br (!am (pf x).snd.fst (1 : Int) (-1 : Int)) (Q (bT false)) (br (ltI (pf x).fst.e (0 : Int)) (Q (bT false)) (true = true ∧ ∃ (x_2 : Nat), P x_2 ∧ Sg.mk [(8, iT (tf x).fst), (9, Tv.sv (Sv.one (At.ptr 24 0))), (10, iT (tf x).snd.snd), (11, Tv.sv (Sv.one (At.ptr 34 0))), (12, Tv.sv (Sv.one (At.ptr 35 0))), (13, iT (pf x).snd.snd), (15, Tv.sv (Sv.one (At.ptr 45 0))), (16, iT (sf x).snd.snd)] [(24, 0, At.bool (tf x).snd.fst.neg), (24, 1, At.words false (tf x).snd.fst.xs), (24, 2, At.int .i64 (tf x).snd.fst.e), (34, 0, At.bool (pf x).fst.neg), (34, 1, At.words false (pf x).fst.xs), (34, 2, At.int .i64 (pf x).fst.e), (35, 0, At.bool (pf x).snd.fst.neg), (35, 1, At.words false (pf x).snd.fst.xs), (35, 2, At.int .i64 (pf x).snd.fst.e), (45, 0, At.bool (sf x).snd.fst.neg), (45, 1, At.words false (sf x).snd.fst.xs), (45, 2, At.int .i64 (sf x).snd.fst.e)] (46 : Nat) = LKeep.at nrK (nrSt (tf x) (sf x) (pf x) x_2)))) (true = true ∧ ∃ (x_2 : Nat), P x_2 ∧ Sg.mk [(8, iT (tf x).fst), (9, Tv.sv (Sv.one (At.ptr 24 0))), (10, iT (tf x).snd.snd), (11, Tv.sv (Sv.one (At.ptr 34 0))), (12, Tv.sv (Sv.one (At.ptr 35 0))), (13, iT (pf x).snd.snd), (15, Tv.sv (Sv.one (At.ptr 45 0))), (16, iT (sf x).snd.snd)] [(24, 0, At.bool (tf x).snd.fst.neg), (24, 1, At.words false (tf x).snd.fst.xs), (24, 2, At.int .i64 (tf x).snd.fst.e), (34, 0, At.bool (pf x).fst.neg), (34, 1, At.words false (pf x).fst.xs), (34, 2, At.int .i64 (pf x).fst.e), (35, 0, At.bool (pf x).snd.fst.neg), (35, 1, At.words false (pf x).snd.fst.xs), (35, 2, At.int .i64 (pf x).snd.fst.e), (45, 0, At.bool (sf x).snd.fst.neg), (45, 1, At.words false (sf x).snd.fst.xs), (45, 2, At.int .i64 (sf x).snd.fst.e)] (46 : Nat) = LKeep.at nrK (nrSt (tf x) (sf x) (pf x) x_2))) ∧ ∀ (x_2 : Nat), P x_2 → br (neI (sf x).snd.snd (0 : Int)) (true = true ∧ Q (bT true)) (inR (3 : Int) ∧ (eB (2305843009213693952 : Int) (mkS (3 : Int) (0 : Int)) ∧ (-2305843009213693952 : Int) ≤ (-2 : Int) ∧ (-2 : Int) ≤ (2305843009213693952 : Int)) ∧ (Dx.Sm (34359738368 : Nat) (shiftD (mkS (3 : Int) (0 : Int)) (-2 : Int)) ∧ Dx.Sm (34359738368 : Nat) (sf x).snd.fst) ∧ br (leI (cmpD (shiftD (mkS (3 : Int) (0 : Int)) (-2 : Int)) (sf x).snd.fst) (0 : Int)) (inR (3 : Int) ∧ (eB (2305843009213693952 : Int) (mkS (3 : Int) (0 : Int)) ∧ (-2305843009213693952 : Int) ≤ (-1 : Int) ∧ (-1 : Int) ≤ (2305843009213693952 : Int)) ∧ (Dx.Sm (34359738368 : Nat) (sf x).snd.fst ∧ Dx.Sm (34359738368 : Nat) (shiftD (mkS (3 : Int) (0 : Int)) (-1 : Int))) ∧ true = true ∧ Q (bT (ltI (cmpD (sf x).snd.fst (shiftD (mkS (3 : Int) (0 : Int)) (-1 : Int))) (0 : Int)))) (true = true ∧ Q (bT false))))))) := by kernel_rfl
theorem amtB_of {z : Dx} {e : Int} (hz : 0 ≤ z.m) (h1 : z.rv ≤ p2 e) (h2 : -(p2 e) ≤ z.rv) : amtB z 1 e = true := by
  refine leI_true.2 (cmpD_le.2 ?_)
  have p := oneD_p (d := z)
  have e1 : (⟨false, (oneD z).xs, (oneD z).e⟩ : Dx).rv = ((oneD z).m : Rat) * p2 (oneD z).e := rfl
  rw [e1, rv_shift mkS_p, rv_mkS, p2_v.1]
  have e2 : ((1 : Int) : Rat) = 1 := rfl
  rw [e2]
  obtain ⟨a1, a2⟩ := rv_amt p
  rw [rv_one hz] at a1 a2
  rcases (show 0 ≤ z.rv ∨ z.rv ≤ 0 by grind) with s | s
  · rw [← a1 s]; grind
  · rw [← a2 s]; grind
theorem quar_near {x : Dx} (hx : 0 ≤ x.m) {p : Int} (h : (quarR x p).2.2 = 0) : 0 ≤ (quarR x p).1 ∧ (quarR x p).1 ≤ 3 ∧ (quarR x p).2.1.Sm 65536 ∧ (quarR x p).2.1.P ∧
    (quarR x p).2.1.lo.rv ≤ (scaleV (constPi 64) (-2)).hi.rv ∧ -(scaleV (constPi 64) (-2)).hi.rv ≤ (quarR x p).2.1.hi.rv := by
  have cp := constPi_iv (p := 64) (by decide) (by decide)
  have hm : (scaleV (constPi 64) (-2)).hi.rv = (constPi 64).hi.rv * (1 / 4) := by rw [← p2_v.2.2.2]; exact rv_shift cp.p.2
  have hh : (halfP 64).hi.rv = (constPi 64).hi.rv * (1 / 2) := by rw [← p2_v.2.2.1]; exact rv_shift cp.p.2
  have l3 := cp.lo
  have le := cp.le
  rcases quar_cases x p with ⟨_, q⟩ | ⟨c, z, q⟩ | ⟨c, z, t, q⟩ | ⟨c, z, t, q⟩ | ⟨c, z, t, w, q⟩
  · rw [q] at h; cases h
  · rw [q]
    have zv : zeroIv.lo.rv = 0 ∧ zeroIv.hi.rv = 0 := ⟨rv_zero rfl, rv_zero rfl⟩
    refine ⟨Int.le_refl _, by show (0 : Int) ≤ 3; omega, right_sm (v := zeroIv) (by rw [right_K]; decide +kernel), ⟨Int.le_refl _, Int.le_refl _⟩, ?_, ?_⟩
    · show zeroIv.lo.rv ≤ _
      rw [zv.1, hm]; grind
    · show _ ≤ zeroIv.hi.rv
      rw [zv.2, hm]; grind
  · rw [q] at h; cases h
  · rw [q] at h; cases h
  · have fy : OneF (oneD x) := oneD_f hx
    obtain ⟨cc, hc, hc', _, _⟩ := halfs_common q.w0 q.w1 (w' := 64) (by decide) (by decide)
    have hf := halfP_hf q.w0 (show w ≤ 65000 by have := q.w1; omega)
    have w1 : 1 ≤ w := by have := q.w0; omega
    have n1 := sure_near hf fy.p w1 q.sure hc
    have r1 := rest_in hf fy.p w1 hc
    have s1 := right_sm q.right
    have c0 : 0 < cc := by have := hf.lo; have := hc.1; grind
    have ch : cc ≤ (halfP 64).hi.rv := hc'.2
    rw [hh] at ch
    have xc : (oneD x).rv = (oneD x).rv * cc⁻¹ * cc := by rw [Rat.mul_assoc, Rat.inv_mul_cancel cc (by grind), Rat.mul_one]
    have a1 := Rat.mul_le_mul_of_nonneg_right (show (oneD x).rv * cc⁻¹ - (nI (halfP w) (oneD x) w : Rat) ≤ 1 / 2 by have := n1.2.1; grind) (Rat.le_of_lt c0)
    have a2 := Rat.mul_le_mul_of_nonneg_right (show -(1 / 2) ≤ (oneD x).rv * cc⁻¹ - (nI (halfP w) (oneD x) w : Rat) by have := n1.1; grind) (Rat.le_of_lt c0)
    have e : ((oneD x).rv * cc⁻¹ - (nI (halfP w) (oneD x) w : Rat)) * cc = (oneD x).rv - (nI (halfP w) (oneD x) w : Rat) * cc := by
      conv => rhs; rw [xc]
      grind
    rw [e] at a1 a2
    obtain ⟨r2, r3⟩ := r1
    rw [q.eq, hm]
    have b4 : 0 ≤ nI (halfP w) (oneD x) w % 4 ∧ nI (halfP w) (oneD x) w % 4 ≤ 3 := by omega
    refine ⟨b4.1, b4.2, s1, ⟨cutD_p, cutD_p⟩, ?_, ?_⟩
    · show (restW (halfP w) (oneD x) w).lo.rv ≤ _
      grind
    · show _ ≤ (restW (halfP w) (oneD x) w).hi.rv
      grind
theorem scX_in {y : Dx} (hy : 0 ≤ y.m) (h : 0 < y.sgn) : 3 / 4 ≤ (scX y).rv ∧ (scX y).rv < 3 / 2 := by
  have m0 : y.m ≠ 0 := fun e => by rw [Dx.sgn, if_pos e] at h; omega
  have pos : 0 < y.rv := by rcases sgn_rv hy with ⟨a, b⟩ | ⟨a, b⟩ | ⟨a, b⟩ <;> first | exact b | omega
  have am := (rv_amt hy).1 (by grind)
  have g := amt_ge (m := y.m) (e := y.e) (by omega)
  have l := amt_lt (m := y.m) (e := y.e)
  have e1 : (scM y).rv = y.rv * p2 (-topD y) := rv_shift hy
  have q := p2_pos (-topD y)
  have t1 : y.e + (blen y.m : Int) - 1 = topD y := rfl
  rw [t1] at g
  rw [show y.e + (blen y.m : Int) = 1 + topD y by omega, p2_add, p2_one] at l
  have pn := p2_neg (topD y)
  have a1 := Rat.mul_le_mul_of_nonneg_right g (Rat.le_of_lt q)
  have a2 := Rat.mul_lt_mul_of_pos_right l q
  rw [← am, ← e1] at a1 a2
  have k1 : p2 (topD y) * p2 (-topD y) = 1 := by rw [Rat.mul_comm]; exact pn
  rw [k1] at a1
  rw [Rat.mul_assoc, k1] at a2
  have s32 : sc32.rv = 3 / 2 := by unfold sc32; rw [rv_shift mkS_p, rv_mkS]; decide +kernel
  unfold scX
  split
  · rename_i hc
    rw [rv_shift (d := scM y) shiftD_p, p2_v.2.2.1]
    have : sc32.rv ≤ (scM y).rv := by
      rcases cmpD_cases (scM y) sc32 with ⟨a, b⟩ | ⟨a, b⟩ | ⟨a, b⟩
      · omega
      · grind
      · grind
    constructor <;> grind
  · rename_i hc
    have : (scM y).rv < sc32.rv := cmpD_lt0.1 (by omega)
    constructor <;> grind
def lNe : Spec := specK [.d, .i .i64] fun (_ : Dx) (_ : Int) => (none, bT true)
theorem lNe_ok : SpecOk Tryz.prog 8 lNe :=
  specK_ok (envOk tys6_ok sNr14_ok) mixed Tryz.func8 rfl (by decide) (by decide) fun (x : Dx) hxw (p : Int) _ _ => ⟨nrInv (turR x) (scaR x) (splR x) (fun n => n = 0), 0, by
    have hx := Dx.Wf.m0 hxw
    show execF _ _ _ _ _ (fun t => t = bT true)
    refine (lNe_vc x p (fun n => n = 0) amtB constR quarR turR scaR splR _).mpr (br_intro (fun _ => rfl) fun hfit => ?_)
    have hfit := not_false' hfit
    have bx := fits_bd hfit
    have by' := bx.one hx
    have fy : OneF (oneD x) := oneD_f hx
    have ec : constR 64 = (constPi 64, 0) := by unfold constR; rw [if_pos ⟨by decide, by decide⟩]
    have cp := constPi_iv (p := 64) (by decide) (by decide)
    have cr := constPi_right (p := 64) (by decide) (by decide)
    have cs := right_sm cr
    have st0 : true = true ∧ ∃ a : Nat, a = 0 ∧ nrK.at (nrSt (turR x) (scaR x) (splR x) 0) = nrK.at (nrSt (turR x) (scaR x) (splR x) a) := ⟨rfl, 0, rfl, rfl⟩
    rw [ec]
    dsimp only
    rw [cr]
    have ms : (scaleV (constPi 64) (-2)).hi.Sm 131080 := (shiftD_sm (M := 2) cp.p.2 cs.2 (by omega) (by omega)).mono (by omega)
    have mn := negD_sm ms shiftD_p
    refine ⟨rfl, br_intro (fun h => by cases h) fun _ => br_intro (fun h => by cases h) fun _ => ⟨⟨cs.1.eB (by omega), cs.2.eB (by omega), by omega, by omega⟩, br_intro (fun h1 => ?_) fun _ => ⟨rfl, st0⟩, fun _ _ => ⟨?_, fun _ _ => br_intro (fun _ => ⟨rfl, rfl⟩) fun h4 => ?_⟩⟩⟩
    · obtain ⟨k0, k1, k2, k3, k4, k5⟩ := quar_near hx (eqI_true.1 h1)
      refine br_intro (fun h => by have := ltI_true.1 h; omega) fun _ => br_intro (fun h => by have := ltI_true.1 h; omega) fun _ => ⟨⟨k2.1.mono (by omega), ms.mono (by omega)⟩, br_intro (fun h => ?_) fun _ => ⟨ms.eB (by omega), ⟨mn.mono (by omega), k2.2.mono (by omega)⟩, rfl, br_intro (fun h => ?_) fun _ => ⟨rfl, st0.2⟩⟩⟩
      · have := cmpD_gt0.1 (ltI_true.1 h); exfalso; grind
      · have := cmpD_gt0.1 (ltI_true.1 h)
        rw [rv_neg (d := (scaleV (constPi 64) (-2)).hi) shiftD_p] at this
        exfalso; grind
    · have spl : true = true ∧ ∃ a : Nat, a = 0 ∧ nrK.at (nrSt (turR x) (scaR x) (splR x) 0) = nrK.at (nrSt (turR x) (scaR x) (splR x) a) := st0
      have B : ∀ {R F : Prop}, R → br (eqI (splR x).2.2 0) ((Dx.Sm 131072 (splR x).2.1 ∧ (1 : Int) = 1 ∧ (-64 : Int) ≤ -1 ∧ (-1 : Int) ≤ 64) ∧ br (!amtB (splR x).2.1 1 (-1)) F (br (ltI (splR x).1.e 0) F R)) R := fun {R F} hR => br_intro (fun h2 => by
        obtain ⟨_, a, b, e⟩ := spl_ok (eqI_true.1 h2)
        have k1 : (splR x).1 = spN (oneD x) := by rw [e]
        have k2 : (splR x).2.1 = lessD (oneD x) (spN (oneD x)) := by rw [e]
        have n1 := nearD_whole (d := oneD x) fy.p
        have nv : (spN (oneD x)).rv = (wholeS (nearD (oneD x)) : Rat) := (wholeS_rv nearD_e).symm
        rw [k1, k2]
        refine ⟨⟨(fits_sm b).mono (by omega), rfl, by omega, by omega⟩, br_intro (fun h => ?_) fun _ => br_intro (fun h => ?_) fun _ => hR⟩
        · rw [amtB_of lessD_p (by rw [rv_less fy.p (show 0 ≤ (spN (oneD x)).m from nearD_p), nv, p2_v.2.2.1]; have := n1.2.1; grind) (by rw [rv_less fy.p (show 0 ≤ (spN (oneD x)).m from nearD_p), nv, p2_v.2.2.1]; have := n1.1; grind)] at h
          cases h
        · have := ltI_true.1 h
          have := nearD_e (d := oneD x)
          have e0 : (spN (oneD x)).e = (nearD (oneD x)).e := rfl
          omega) fun _ => hR
      refine br_intro (fun h1 => ?_) fun _ => B spl
      obtain ⟨_, _, a, e⟩ := tur_ok (eqI_true.1 h1)
      have fX : OneF (turX (oneD x)) := lessD_f oneD_p
      have i4 : 0 ≤ (turR x).1 ∧ (turR x).1 ≤ 3 := by rw [e]; show 0 ≤ by4I _ ∧ by4I _ ≤ 3; unfold by4I; omega
      have k2 : (turR x).2.1 = turX (oneD x) := by rw [e]
      have n1 := turN_near fy.p
      refine br_intro (fun h => by have := ltI_true.1 h; omega) fun _ => br_intro (fun h => by have := ltI_true.1 h; omega) fun _ => ⟨⟨by rw [k2]; exact (fits_sm a).mono (by omega), rfl, by omega, by omega⟩, br_intro (fun h => ?_) fun _ => B spl⟩
      rw [k2, amtB_of fX.p (by rw [turX_rv fy.p, p2_v.2.2.2]; have := n1.2.1; grind) (by rw [turX_rv fy.p, p2_v.2.2.2]; have := n1.1; grind)] at h
      cases h
    · obtain ⟨_, p0, a, e⟩ := sca_ok (neI_false.1 h4)
      have k2 : (scaR x).2.1 = scX (oneD x) := by rw [e]
      obtain ⟨v1, v2⟩ := scX_in fy.p p0
      have s3 : (mkS 3 0).Sm 16 := mkS3_bd.sm (by omega)
      have t3 : (shiftD (mkS 3 0) (-2)).Sm 64 := (shiftD_sm (M := 2) mkS_p s3 (by omega) (by omega)).mono (by omega)
      have t2 : (shiftD (mkS 3 0) (-1)).Sm 64 := (shiftD_sm (M := 2) mkS_p s3 (by omega) (by omega)).mono (by omega)
      have e3 : ((3 : Int) : Rat) = 3 := rfl
      have r3 : (shiftD (mkS 3 0) (-2)).rv = 3 / 4 := by rw [rv_shift mkS_p, rv_mkS, p2_v.1, p2_v.2.2.2, e3]; grind
      have r2 : (shiftD (mkS 3 0) (-1)).rv = 3 / 2 := by rw [rv_shift mkS_p, rv_mkS, p2_v.1, p2_v.2.2.1, e3]; grind
      rw [k2]
      have sa := fits_sm a
      refine ⟨⟨by omega, by omega⟩, ⟨s3.eB (by omega), by omega, by omega⟩, ⟨t3.mono (by omega), sa.mono (by omega)⟩, br_intro (fun _ => ⟨⟨by omega, by omega⟩, ⟨s3.eB (by omega), by omega, by omega⟩, ⟨sa.mono (by omega), t2.mono (by omega)⟩, rfl, ?_⟩) fun h => ?_⟩
      · rw [show ltI (cmpD (scX (oneD x)) (shiftD (mkS 3 0) (-1))) 0 = true from ltI_true.2 (cmpD_lt0.2 (by rw [r2]; exact v2))]
      · exact absurd (cmpD_le.2 (by rw [r3]; exact v1)) (leI_false.1 h)⟩
end Go.Proofs.YtdnbckfhfhfkoaaGreatDoor

namespace Go.Proofs.YtdnbckfhfhfkoaaGreatDoor
open Go.RowKit Go.ChangeShapes Go.WideShapes Go.Deep
set_option maxRecDepth 100000
def C0 (W : World) : Base := ⟨W.heap.size, fun _ => False, 0⟩
section
variable {H : Type} {enc : TypeId × Value → H} {W : World} {base fuel : Nat} {s : Value} {x : DataW H × List MemPlace}
theorem open_words (hv : Cell.okWide Tryz.prog W .any base 23 s) (h : DataW.trod enc Tryz.prog W 0 (fun _ => true) true fuel 23 [s] = some x)
    (hw : (x.1.weights Tryz.prog 23).all (· ≤ reachBytes) = true) (hlt : ∀ p ∈ x.2, p.block < W.heap.size) : ∃ xs, Rep (C0 W) noBox W s (.words false xs) := by
  rcases open_ints Tryz.underlying23 Tryz.underlying63 (by kernel_rfl) h with ⟨e, rfl⟩ | ⟨a, len, cap, zs, e, _, hl, hm, hz, rfl, hc, hwf⟩
  · cases e
    exact ⟨[], .words ⟨none, 0, rfl, Nat.le_refl _, ⟨by omega, by simp⟩, Words.nil, fun _ => rfl, fun h => absurd h (by simp)⟩⟩
  · cases e
    rw [if_pos rfl] at hz
    obtain ⟨_, _, _, hspot, _⟩ : len ≤ cap ∧ (cap : Int) ≤ IntKind.i64.max ∧ W.has Tryz.prog .any base a 63 cap := by
      simpa [Cell.okWide, Cell.ok, Tryz.underlying23] using hv
    obtain ⟨g, o, spot⟩ := a
    simp only at hspot; subst hspot
    have hb8 : Tryz.prog.bytesOf 63 = 8 := by kernel_rfl
    have hwt : (len + (cap - len)) * 8 ≤ reachBytes := by
      simp only [DataW.weights, Tryz.underlying23, List.all_cons, Bool.and_eq_true, decide_eq_true_eq, lits, List.length_map, List.length_take, List.length_drop, hz, hb8] at hw
      have := hw.1
      rwa [Nat.min_eq_left hl] at this
    have hr : reachBytes = 140737488351232 := rfl
    rw [hr] at hwt
    have hwords : Words zs := fun n hn => by
      have := hwf n hn
      simp only [Lit.wf, Bool.and_eq_true, decide_eq_true_eq] at this
      have h1 : IntKind.u64.min = 0 := rfl
      have h2 : IntKind.u64.max = 18446744073709551615 := rfl
      rw [h1, h2] at this
      exact ⟨by omega, by omega⟩
    have hlen : (zs.take len).length = len := by rw [List.length_take]; omega
    refine ⟨zs.take len, .words ⟨_, cap, by rw [hlen], by omega, ⟨by simp [maxLen] at hm; omega, by omega⟩, hwords.take _, by simp, fun hp => ⟨g, o, rfl, ⟨⟨by simp [noBox], fun hx => hx.elim⟩, by simp⟩, ?_, fun j hj => ?_⟩⟩⟩
    · exact World.block_lt_of_cell? W _ (hc 0 (by omega))
    · have hj : j < len := by omega
      have := hc j (by omega)
      rw [nth_take hj]
      rw [show (⟨g, o, none⟩ : Addr).add j = ⟨g, o + j, none⟩ from by simp [Addr.add]] at this
      exact this
theorem open_dy {cs : List Value} (hok : ∀ c, cs[1]? = some c → Cell.okWide Tryz.prog W .any base 23 c) (h : DataW.trod enc Tryz.prog W 0 (fun _ => true) true fuel 25 cs = some x)
    (hw : (x.1.weights Tryz.prog 25).all (· ≤ reachBytes) = true) (hlt : ∀ p ∈ x.2, p.block < W.heap.size) : ∃ d : Dx, RepL (C0 W) noBox W cs (dyL false d) := by
  obtain ⟨y0, y1, y2, n, rfl, hl, h0, h1, h2⟩ := trod_struct3 Tryz.underlying25 h
  rw [show Tryz.prog.cellsOf 25 = 3 by kernel_rfl] at hl
  match cs, hl with
  | [c0, c1, c2], _ =>
    obtain ⟨b, e0, rfl⟩ := DataW.trod_bool Tryz.underlying4 h0
    obtain ⟨k, e2, rfl, hk⟩ := DataW.trod_int Tryz.underlying3 h2
    rw [show Tryz.prog.cellsOf 4 = 1 by kernel_rfl] at e0
    rw [show Tryz.prog.cellsOf 3 = 1 by kernel_rfl] at e2
    simp at e0 e2
    subst e0; subst e2
    simp only [show Tryz.prog.cellsOf 23 = 1 by kernel_rfl] at h1
    simp only [DataW.weights, Tryz.underlying25, DataW.weightsEach, List.map_cons, List.map_nil, List.all_append, Bool.and_eq_true] at hw
    obtain ⟨xs, hxs⟩ := open_words (hok c1 rfl) (by simpa using h1) hw.2.1 (fun p hp => hlt p (by simp [hp]))
    exact ⟨⟨b, xs, k⟩, Rep.bool b, hxs, Rep.int _ k, trivial⟩
theorem arg_d {v : Value} {d : DataW H} {ps : List MemPlace} (hv : Value.okWide Tryz.prog W .any base 25 v) (h : DataW.Trod enc Tryz.prog W 0 (fun _ => true) true 25 v d ps)
    (hw : (d.weights Tryz.prog 25).all (· ≤ reachBytes) = true) (hlt : ∀ p ∈ ps, p.block < W.heap.size) : ∃ x : Dx, RepS (C0 W) noBox W v (.agg (dyL false x)) := by
  simp only [Value.okWide, Tryz.underlying25] at hv
  obtain ⟨cs, rfl, hsz, ts, hts, _, hrow⟩ := hv
  rw [show Tryz.prog.cellTypes Tryz.prog.depth 25 = some [4, 23, 3] by kernel_rfl] at hts
  cases hts
  obtain ⟨fuel, h⟩ := h
  obtain ⟨x, hx⟩ := open_dy (x := (d, ps)) (base := base) (fun c hc => by
    obtain ⟨u, hu, hok⟩ := hrow 1 c (by rw [← Array.getElem?_toList]; exact hc)
    cases hu; exact hok) h hw hlt
  exact ⟨x, cs.toList, rfl, hx⟩
theorem arg_v {v : Value} {d : DataW H} {ps : List MemPlace} (hv : Value.okWide Tryz.prog W .any base 28 v) (h : DataW.Trod enc Tryz.prog W 0 (fun _ => true) true 28 v d ps)
    (hw : (d.weights Tryz.prog 28).all (· ≤ reachBytes) = true) (hlt : ∀ p ∈ ps, p.block < W.heap.size) : ∃ x : Vx, RepS (C0 W) noBox W v (.agg (ivL false x)) := by
  simp only [Value.okWide, Tryz.underlying28] at hv
  obtain ⟨cs, rfl, hsz, ts, hts, _, hrow⟩ := hv
  rw [show Tryz.prog.cellTypes Tryz.prog.depth 28 = some [4, 23, 3, 4, 23, 3] by kernel_rfl] at hts
  cases hts
  rw [show Tryz.prog.cellsOf 28 = 6 by kernel_rfl] at hsz
  obtain ⟨fuel, h⟩ := h
  obtain ⟨cs⟩ := cs
  match cs, hsz with
  | [c0, c1, c2, c3, c4, c5], _ =>
    obtain ⟨y0, y1, n, e, _, h0, h1⟩ := trod_struct2 Tryz.underlying28 h
    cases e
    simp only [show Tryz.prog.cellsOf 25 = 3 by kernel_rfl] at h0 h1
    simp only [DataW.weights, Tryz.underlying28, DataW.weightsEach, List.map_cons, List.map_nil, List.all_append, Bool.and_eq_true] at hw
    obtain ⟨x, hx⟩ := open_dy (cs := [c0, c1, c2]) (base := base) (fun c hc => by
      obtain ⟨u, hu, hok⟩ := hrow 1 c hc
      cases hu; exact hok) h0 hw.1 (fun p hp => hlt p (by simp [hp]))
    obtain ⟨y, hy⟩ := open_dy (cs := [c3, c4, c5]) (base := base) (fun c hc => by
      obtain ⟨u, hu, hok⟩ := hrow 4 c hc
      cases hu; exact hok) h1 hw.2.1 (fun p hp => hlt p (by simp [hp]))
    obtain ⟨a1, a2, a3, _⟩ := hx
    obtain ⟨b1, b2, b3, _⟩ := hy
    exact ⟨⟨x, y⟩, [c0, c1, c2, c3, c4, c5], rfl, a1, a2, a3, b1, b2, b3, trivial⟩
/-- A kind of argument and its type. -/
def Kd : Ak → TypeId → Prop
  | .b, t => t = 4
  | .i q, t => Tryz.prog.underlying t = some (.int q)
  | .w, _ => False
  | .fx, _ => False
  | .d, t => t = 25
  | .v, t => t = 28
def Kds : List Ak → List TypeId → Prop
  | [], [] => True
  | k :: ks, t :: ts => Kd k t ∧ Kds ks ts
  | _, _ => False
/-- A number that its kind can hold. -/
def okArg : (k : Ak) → k.T → Prop
  | .i q, n => q.min ≤ n ∧ n ≤ q.max
  | _, _ => True
theorem arg_k {k : Ak} {t : TypeId} (hk : Kd k t) {v : Value} {d : DataW H} {ps : List MemPlace} (hv : Value.okWide Tryz.prog W .any base t v) (h : DataW.Trod enc Tryz.prog W 0 (fun _ => true) true t v d ps)
    (hw : (d.weights Tryz.prog t).all (· ≤ reachBytes) = true) (hlt : ∀ p ∈ ps, p.block < W.heap.size) : ∃ x : k.T, RepS (C0 W) noBox W v (k.enc x) ∧ okArg k x := by
  cases k with
  | b =>
    obtain rfl : t = 4 := hk
    obtain ⟨b, rfl⟩ := okWide_bool Tryz.underlying4 hv
    exact ⟨b, Rep.bool b, trivial⟩
  | i q =>
    obtain ⟨n, rfl⟩ := okWide_int hk hv
    refine ⟨n, Rep.int q n, (show q.min ≤ n ∧ n ≤ q.max from ?_)⟩
    have hk : Tryz.prog.underlying t = some (.int q) := hk
    simpa [Value.okWide, Cell.okWide, Cell.ok, hk, IntKind.has] using hv
  | w => exact hk.elim
  | fx => exact hk.elim
  | d =>
    obtain rfl : t = 25 := hk
    obtain ⟨x, hx⟩ := arg_d hv h hw hlt; exact ⟨x, hx, trivial⟩
  | v =>
    obtain rfl : t = 28 := hk
    obtain ⟨x, hx⟩ := arg_v hv h hw hlt; exact ⟨x, hx, trivial⟩
theorem dec_enc (k : Ak) (x : k.T) : k.dec (k.enc x) = some x := by
  cases k with
  | i q => cases q <;> rfl
  | _ => rfl
/-- Whatever the arguments, the answer is true. -/
def AllTrue : (ks : List Ak) → AFun ks → Prop
  | [], g => (match g.1 with | none => True | some p => p) ∧ g.2 = .sv (.one (.bool true))
  | k :: ks, g => ∀ x : k.T, okArg k x → AllTrue ks (g x)
theorem args_ok : ∀ {ks : List Ak} {ts : List TypeId} {vs : List Value} {ds : List (DataW H)} {ps : List MemPlace}, Kds ks ts → (∀ (j : Nat) t v, ts[j]? = some t → vs[j]? = some v → Value.okWide Tryz.prog W .any base t v) →
    DataW.TrodAll enc Tryz.prog W 0 (fun _ => true) true ts vs ds ps → (DataW.weightsEach Tryz.prog ts ds).all (· ≤ reachBytes) = true → (∀ p ∈ ps, p.block < W.heap.size) →
    ∃ l, RepSs (C0 W) noBox W vs l ∧ ∀ g, AllTrue ks g → (match (specK ks g l).1 with | none => True | some p => p) ∧ (specK ks g l).2 = .sv (.one (.bool true))
  | [], [], vs, ds, ps, _, _, h, _, _ => by
    obtain ⟨rfl, rfl, rfl⟩ := trodAll_nil h
    exact ⟨[], trivial, fun g hg => hg⟩
  | [], _ :: _, _, _, _, hk, _, _, _, _ => hk.elim
  | _ :: _, [], _, _, _, hk, _, _, _, _ => hk.elim
  | k :: ks, t :: ts, vs, ds, ps, hk, hv, h, hw, hlt => by
    obtain ⟨v, vs1, d, ds1, a, b, rfl, rfl, rfl, h1, h2⟩ := trodAll_cons h
    simp only [DataW.weightsEach, List.all_append, Bool.and_eq_true] at hw
    obtain ⟨x, hx, hox⟩ := arg_k hk.1 (hv 0 t v rfl rfl) h1 hw.1 (fun p hp => hlt p (by simp [hp]))
    obtain ⟨l, hl, hs⟩ := args_ok hk.2 (fun j t v ht hv' => hv (j + 1) t v ht hv') h2 hw.2 (fun p hp => hlt p (by simp [hp]))
    refine ⟨k.enc x :: l, ⟨hx, hl⟩, fun g hg => ?_⟩
    have e : specK (k :: ks) g (k.enc x :: l) = (match k.dec (k.enc x) with | some x => specK ks (g x) l | none => noSpec) := rfl
    rw [e, dec_enc]
    exact hs (g x) (hg x hox)
theorem law_calls {f : FuncId} {ks : List Ak} {g : AFun ks} (hs : SpecOk Tryz.prog f (specK ks g)) (hg : AllTrue ks g) {ts : List TypeId} {args : Array Value} {ds : List (DataW H)} {ps : List MemPlace} (hT : Tab W) (hk : Kds ks ts)
    (hv : ∀ (j : Nat) t v, ts[j]? = some t → args.toList[j]? = some v → Value.okWide Tryz.prog W .any base t v) (h : DataW.TrodAll enc Tryz.prog W 0 (fun _ => true) true ts args.toList ds ps)
    (hw : (DataW.weightsEach Tryz.prog ts ds).all (· ≤ reachBytes) = true) (hlt : ∀ p ∈ ps, p.block < W.heap.size) :
    Calls Tryz.prog f args W fun e W' => e = .returned (.bool true) ∧ Below W.heap.size W W' := by
  obtain ⟨l, hl, hsp⟩ := args_ok hk hv h hw hlt
  have := hs.2 (C0 W) W args.toList l rfl (fun g hg => hg.elim) hT hl (hsp g hg).1
  rw [(hsp g hg).2] at this
  refine this.mono ?_
  rintro e w' ⟨v, rfl, hr, hb⟩
  obtain rfl := rep_bool (A := noBox) hr
  exact ⟨rfl, hb⟩
theorem trodAll_below {W' : World} (hb : Below W.heap.size W W') (hl : laidOutB Tryz.prog = true) : ∀ {ts : List TypeId} {vs : List Value} {ds : List (DataW H)} {ps : List MemPlace}, (∀ t ∈ ts, Tryz.prog.readableRec t = true ∧ t < Tryz.prog.types.size) →
    DataW.TrodAll enc Tryz.prog W 0 (fun _ => true) true ts vs ds ps → (∀ p ∈ ps, p.block < W.heap.size) → DataW.TrodAll enc Tryz.prog W' 0 (fun b => decide (b < W.heap.size)) true ts vs ds ps
  | [], vs, ds, ps, _, h, _ => by
    obtain ⟨rfl, rfl, rfl⟩ := trodAll_nil h
    exact trodAll_mk0
  | t :: ts, vs, ds, ps, ht, h, hlt => by
    obtain ⟨v, vs1, d, ds1, a, b, rfl, rfl, rfl, h1, h2⟩ := trodAll_cons h
    exact ⟨a, b, Below.trod hl (ht t (by simp)).1 (ht t (by simp)).2 h1 hb (fun p hp => hlt p (by simp [hp])), trodAll_below hb hl (fun t h => ht t (by simp [h])) h2 (fun p hp => hlt p (by simp [hp])), rfl⟩
/-- What a law's call leaves, as its row asks. -/
theorem law_post {fn : Func} {s : ChangeSpec} (hl : laidOutB Tryz.prog = true) (hres : fn.resultTypes = #[4]) (hvars : s.vars = []) (ht : ∀ t ∈ fn.params.toList, Tryz.prog.readableRec t = true ∧ t < Tryz.prog.types.size)
    {args : Array Value} {ds gs : List (DataW H)} {before : List MemPlace} (hspec : s.fn H (ds ++ gs) = { results := [.lit (.bool true)], args := ds })
    (hW : DataW.Whole enc Tryz.prog fn.params.toList s.vars false W args.toList ds gs before) {W' : World} (hb : Below W.heap.size W W') :
    s.post enc Tryz.prog fn false true false false W args (.bool true) W' := by
  have hlt := hW.lt
  have hW' := hW
  obtain ⟨p, q, hA, hV, rfl, hfz, hnd⟩ := hW
  rw [hvars] at hV
  obtain ⟨rfl, rfl⟩ := trodVars_none hV
  refine ⟨ds, [], _, [], p, [], hW', ?_, ?_, ?_, hb.frame _, fun h => by cases h⟩
  · rw [hspec, hres]
    exact trodAll_mk1 (shut_bool Tryz.underlying4 _)
  · rw [hspec]
    exact trodAll_below hb hl ht hA (fun x hx => hlt x (by simp [hx]))
  · rw [hspec, hvars]; rfl
end
theorem law_contract {H : Type} {enc : TypeId × Value → H} {f : FuncId} {fn : Func} {ks : List Ak} {g : AFun ks} {s : ChangeSpec} (hs : SpecOk Tryz.prog f (specK ks g)) (hg : AllTrue ks g) (hl : laidOutB Tryz.prog = true) (hres : fn.resultTypes = #[4]) (hvars : s.vars = [])
    (hvt : s.plain.varTypes Tryz.prog = []) (ht : ∀ t ∈ fn.params.toList, Tryz.prog.readableRec t = true ∧ t < Tryz.prog.types.size) (hk : Kds ks fn.params.toList) (hspec : ∀ ds : List (DataW H), ds.length = fn.params.toList.length → s.fn H ds = { results := [.lit (.bool true)], args := ds })
    {W : World} {base : Nat} {args : Array Value} {ds gs : List (DataW H)} {before : List MemPlace} (hval : ∀ (j : Nat) t v, fn.params[j]? = some t → args[j]? = some v → Value.okWide Tryz.prog W .any base t v)
    (hW : DataW.Whole enc Tryz.prog fn.params.toList s.vars false W args.toList ds gs before) (hw : (DataW.weightsEach Tryz.prog (fn.params.toList ++ s.plain.varTypes Tryz.prog) (ds ++ gs)).all (· ≤ reachBytes) = true) (hT : Tab W) :
    Calls Tryz.prog f args W fun e W' => ∃ v, e = .returned v ∧ s.post enc Tryz.prog fn false true false false W args v W' := by
  have hlt := hW.lt
  have hW' := hW
  obtain ⟨p, q, hA, hV, rfl, hfz, hnd⟩ := hW
  rw [hvars] at hV
  obtain ⟨rfl, rfl⟩ := trodVars_none hV
  rw [hvt, List.append_nil, List.append_nil] at hw
  refine (law_calls hs hg hT hk (fun j t v h1 h2 => hval j t v (by rw [← Array.getElem?_toList]; exact h1) (by rw [← Array.getElem?_toList]; exact h2)) hA hw (fun x hx => hlt x (by simp [hx]))).mono ?_
  rintro e W' ⟨rfl, hb⟩
  exact ⟨_, rfl, law_post hl hres hvars ht (by rw [List.append_nil]; exact hspec ds (trodAll_length hA).2) hW' hb⟩
/-- The table's cells, out of the row's condition. -/
theorem tab_of {W : World} {D : DataW Unit} (hD : ∀ ys : List (DataW Unit × List MemPlace), D = .agg (ys.map (·.1)) → ∀ j, j < 64 → ∃ y, ys[j]? = some y ∧ y.1 = .lit (.int .u8 (Lib.deBruijn64tab.getD j 0))) (hh : D.handleName?.isNone = true)
    (h : laidMetH Tryz.prog [("math/bits.deBruijn64tab", D)] W) : Tab W := by
  rw [MakeChecks.laidMetH_plain _ _ _ (by simp [hh])] at h
  obtain ⟨ps, ⟨g0, t0, cs0, f0, p0, q0, hg0, ht0, hv0, hd0, _⟩, _, _⟩ := h
  obtain rfl := Option.some.inj ((show Tryz.prog.globalNamed "math/bits.deBruijn64tab" = some 0 by kernel_rfl).symm.trans hg0)
  obtain rfl := Option.some.inj ((show (Tryz.prog.globals[0]?).map (·.type) = some 137 by kernel_rfl).symm.trans ht0)
  obtain ⟨xs, m1, _, hx1, hlen, hn3, hel⟩ := DataW.trod_array Tryz.underlying137 hd0
  intro j hj
  simp only [Prod.mk.injEq] at hx1
  obtain ⟨y, hy, hy1⟩ := hD xs hx1.1 j hj
  have hj' := hel j hj
  rw [hy, show Tryz.prog.cellsOf 5 = 1 by kernel_rfl] at hj'
  obtain ⟨k, e1, e2, _⟩ := DataW.trod_int Tryz.underlying5 hj'
  have hk : k = Lib.deBruijn64tab.getD j 0 := by
    rw [e2] at hy1; simpa using hy1
  subst hk
  have := World.var?_cell hg0 hv0 j
  rw [this]
  rw [Nat.mul_one] at e1
  have e3 : (cs0.toList.drop j)[0]? = some (.int .u8 (Lib.deBruijn64tab.getD j 0)) := by
    have : ((cs0.toList.drop j).take 1)[0]? = some (.int .u8 (Lib.deBruijn64tab.getD j 0)) := by rw [e1]; rfl
    rwa [List.getElem?_take, if_pos (by omega)] at this
  rw [List.getElem?_drop, Nat.add_zero] at e3
  simpa using e3
end Go.Proofs.YtdnbckfhfhfkoaaGreatDoor

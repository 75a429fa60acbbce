/-
Package ulplaw13: the words.
The reckoning again, so that the kernel can do it: the same functions by recursion on a number of rounds.
Answers of sines and cosines against the document's. Plain.
Package ulplaw13: the answers that the document gives; SincoreEncloses.
Sine and cosine: the circle, the mirror, bounds. Plain.
Package ulplaw13: circle, mirror, bounds: the laws' words.
Numbers turned whatever their exponent (it may wrap); SincoreMirror.
From the arguments of a row to numbers and intervals; what a law's call leaves.
-/
import Derived.Test.YtlpjmikpndllhaaGreatDoorMg3
import Derived.Test.YtlpjmikpndllhaaGreatDoorMg2
import Derived.ProofKit
import Derived.LaidMore
import Derived.OpenShut
import Derived.LaidLaws
import Derived.Carry
import Derived.OpenVars
import Derived.Deep.Strs
import Derived.ChangeCalls
import Derived.Stop.Joined
namespace Go.Proofs.YtlpjmikpndllhaaGreatDoor
open Go.RowKit
def farD (d : Dx) : Bool := !d.zeroB && ltI (d.e + (blen d.m : Int) - 1) (-16384)
def lFar : Spec := specK [.d] fun (d : Dx) => (some (eB 2305843009213693952 d), bT (farD d))
theorem lFar_vc (d : Dx) (Q : Tv → Prop) : execF ⟨tys4, sG3⟩ (fun _ => none) 0 Tryz.f15 [.agg (dyL false d)] Q = (br (!Dx.zeroB d) (eB (2305843009213693952 : Int) d ∧ Q (bT (ltI (d.e + (↑(blen (Dx.m d)) : Int) - (1 : Int)) (-16384 : Int)))) (Q (bT false))) := by kernel_rfl
theorem lFar_ok : SpecOk Tryz.prog 15 lFar :=
  specK_ok (envOk tys4_ok sG3_ok) mixed Tryz.func15 rfl (by decide) (by decide) fun (d : Dx) _ hp => ⟨fun _ => none, 0, by
    have hp : eB 2305843009213693952 d := hp
    show execF _ _ _ _ _ (fun t => t = bT (farD d))
    refine (lFar_vc d _).mpr (br_intro (fun h => ⟨hp, ?_⟩) fun h => ?_)
    · rw [farD, h]; rfl
    · rw [farD, h]; rfl⟩
def sndR (v : Vx) (w : Int) : Vx × Int := if w = 0 ∧ rightV v = false then (zeroIv, 6) else (v, w)
def lSnd : Spec := specK [.v, .i .i64] fun (v : Vx) (w : Int) => (none, reT (sndR v w))
theorem lSnd_vc (v : Vx) (w : Int) (Q : Tv → Prop) : execF ⟨tys4, sG3⟩ (fun _ => none) 0 Tryz.f16 [.agg (ivL false v), .one (.int .i64 w)] Q = (br (eqI w (0 : Int)) (br (!rightV v) (Q (Tv.tup [Sv.agg [At.bool false, At.words true [], At.int .i64 0, At.bool false, At.words true [], At.int .i64 0], Sv.one (At.int .i64 6)])) (Q (Tv.tup [Sv.agg (ivL false v), Sv.one (At.int .i64 w)]))) (Q (Tv.tup [Sv.agg (ivL false v), Sv.one (At.int .i64 w)]))) := by kernel_rfl
theorem lSnd_ok : SpecOk Tryz.prog 16 lSnd :=
  specKW_ok (envOk tys4_ok sG3_ok) mixed Tryz.func16 rfl (by decide) (by decide) fun (v : Vx) _ (w : Int) _ _ => ⟨fun _ => none, 0, by
    show execF _ _ _ _ _ (fun t => t = reT (sndR v w) ∨ fgT t = reT (sndR v w))
    refine (lSnd_vc v w _).mpr (br_intro (fun h => br_intro (fun h1 => .inr ?_) fun h1 => .inl ?_) fun h => .inl ?_)
    · rw [sndR, if_pos ⟨eqI_true.1 h, not_true h1⟩]; rfl
    · rw [sndR, if_neg (fun k => by rw [not_false' h1] at k; exact absurd k.2 (by simp))]; rfl
    · rw [sndR, if_neg (fun k => eqI_false.1 h k.1)]; rfl⟩
def xVVb (f : Vx → Vx → Bool) : Spec := specK [.v, .v] fun (v : Vx) (u : Vx) => (none, bT (f v u))
def xVIb (f : Vx → Int → Bool) : Spec := specK [.v, .i .i64] fun (v : Vx) (p : Int) => (none, bT (f v p))
def xDi (f : Dx → Int) : Spec := specK [.d] fun (d : Dx) => (none, iT (f d))
def xDDi (f : Dx → Dx → Int) : Spec := specK [.d, .d] fun (a : Dx) (b : Dx) => (some (a.Sm 34359738368 ∧ b.Sm 34359738368), iT (f a b))
def xDIr (f : Dx → Int → Vx × Int) : Spec := specK [.d, .i .i64] fun (d : Dx) (p : Int) => (none, reT (f d p))
def goodB (v u : Vx) (p : Int) : Bool := if sameV u zeroIv = true then sameV v u else narrowB v p && (neI v.lo.sgn 0 && meetsV v u)
def lGood : Spec := specK [.v, .v, .i .i64] fun (v : Vx) (u : Vx) (p : Int) => (none, bT (goodB v u p))
def sGd (fS : Vx → Vx → Bool) (fN : Vx → Int → Bool) (fG : Dx → Int) (fM : Vx → Vx → Bool) : List (FuncId × Spec) := [(30, xVVb fS), (46, xVIb fN), (24, xDi fG), (22, xVVb fM)]
theorem sGd_ok : SpecsOk Tryz.prog (sGd sameV narrowB Dx.sgn meetsV) := ⟨gSame_ok, gNarrow_ok, fSign_ok, gMeets_ok, trivial⟩
theorem lGood_vc (v u : Vx) (p : Int) (fS : Vx → Vx → Bool) (fN : Vx → Int → Bool) (fG : Dx → Int) (fM : Vx → Vx → Bool) (Q : Tv → Prop) : execF ⟨tys4, sGd fS fN fG fM⟩ (fun _ => none) 0 Tryz.f47 [.agg (ivL false v), .agg (ivL false u), .one (.int .i64 p)] Q = (br (fS u (Vx.mk (Dx.mk false [] (0 : Int)) (Dx.mk false [] (0 : Int)))) (Q (bT (fS v u))) (br (fN v p) (br (neI (fG v.lo) (0 : Int)) (Q (bT (fM v u))) (Q (bT false))) (Q (bT false)))) := by kernel_rfl
theorem lGood_ok : SpecOk Tryz.prog 47 lGood :=
  specK_ok (envOk tys4_ok sGd_ok) mixed Tryz.func47 rfl (by decide) (by decide) fun (v : Vx) _ (u : Vx) _ (p : Int) _ _ => ⟨fun _ => none, 0, by
    show execF _ _ _ _ _ (fun t => t = bT (goodB v u p))
    refine (lGood_vc v u p sameV narrowB Dx.sgn meetsV _).mpr (br_intro (fun h => ?_) fun h => br_intro (fun h1 => br_intro (fun h2 => ?_) fun h2 => ?_) fun h1 => ?_)
    · rw [goodB, if_pos (show sameV u zeroIv = true from h)]
    · rw [goodB, if_neg (by rw [show sameV u zeroIv = false from h]; simp), h1, h2]; rfl
    · rw [goodB, if_neg (by rw [show sameV u zeroIv = false from h]; simp), h1, h2]; rfl
    · rw [goodB, if_neg (by rw [show sameV u zeroIv = false from h]; simp), h1]; rfl⟩
def likeB (v : Vx) (why : Int) (u : Vx) (no p : Int) (far : Bool) : Bool :=
  if neI why 0 = true ∧ sameV v zeroIv = false then false else if eqI no 0 = true ∧ far = true then eqI why 3 || eqI why 0 else if neI no 0 = true then eqI why no else eqI why 0 && goodB v u p
def lLike : Spec := specK [.v, .i .i64, .v, .i .i64, .i .i64, .b] fun (v : Vx) (why : Int) (u : Vx) (no : Int) (p : Int) (far : Bool) => (none, bT (likeB v why u no p far))
def sLk (fS : Vx → Vx → Bool) (fD : Vx → Vx → Int → Bool) : List (FuncId × Spec) := [(30, xVVb fS), (47, specK [.v, .v, .i .i64] fun (v : Vx) (u : Vx) (p : Int) => (none, bT (fD v u p)))]
theorem sLk_ok : SpecsOk Tryz.prog (sLk sameV goodB) := ⟨gSame_ok, lGood_ok, trivial⟩
theorem lLike_vc (v : Vx) (why : Int) (u : Vx) (no p : Int) (far : Bool) (fS : Vx → Vx → Bool) (fD : Vx → Vx → Int → Bool) (Q : Tv → Prop) : execF ⟨tys4, sLk fS fD⟩ (fun _ => none) 0 Tryz.f14 [.agg (ivL false v), .one (.int .i64 why), .agg (ivL false u), .one (.int .i64 no), .one (.int .i64 p), .one (.bool far)] Q = (br (neI why (0 : Int)) (br (!fS v (Vx.mk (Dx.mk false [] (0 : Int)) (Dx.mk false [] (0 : Int)))) (Q (bT false)) (br (eqI no (0 : Int)) (br far (br (eqI why (3 : Int)) (Q (bT true)) (Q (bT (eqI why (0 : Int))))) (br (neI no (0 : Int)) (Q (bT (eqI why no))) (br (eqI why (0 : Int)) (Q (bT (fD v u p))) (Q (bT false))))) (br (neI no (0 : Int)) (Q (bT (eqI why no))) (br (eqI why (0 : Int)) (Q (bT (fD v u p))) (Q (bT false)))))) (br (eqI no (0 : Int)) (br far (br (eqI why (3 : Int)) (Q (bT true)) (Q (bT (eqI why (0 : Int))))) (br (neI no (0 : Int)) (Q (bT (eqI why no))) (br (eqI why (0 : Int)) (Q (bT (fD v u p))) (Q (bT false))))) (br (neI no (0 : Int)) (Q (bT (eqI why no))) (br (eqI why (0 : Int)) (Q (bT (fD v u p))) (Q (bT false)))))) := by kernel_rfl
theorem lLike_ok : SpecOk Tryz.prog 14 lLike :=
  specK_ok (envOk tys4_ok sLk_ok) mixed Tryz.func14 rfl (by decide) (by decide) fun (v : Vx) _ (why : Int) _ (u : Vx) _ (no : Int) _ (p : Int) _ (far : Bool) _ _ => ⟨fun _ => none, 0, by
    show execF _ _ _ _ _ (fun t => t = bT (likeB v why u no p far))
    refine (lLike_vc v why u no p far sameV goodB _).mpr ?_
    have rest : (sameV v zeroIv = true ∨ neI why 0 = false) → br (eqI no 0) (br far (br (eqI why 3) (bT true = bT (likeB v why u no p far)) (bT (eqI why 0) = bT (likeB v why u no p far))) (br (neI no 0) (bT (eqI why no) = bT (likeB v why u no p far)) (br (eqI why 0) (bT (goodB v u p) = bT (likeB v why u no p far)) (bT false = bT (likeB v why u no p far)))))
        (br (neI no 0) (bT (eqI why no) = bT (likeB v why u no p far)) (br (eqI why 0) (bT (goodB v u p) = bT (likeB v why u no p far)) (bT false = bT (likeB v why u no p far)))) := fun h => by
      have h1 : ¬ (neI why 0 = true ∧ sameV v zeroIv = false) := fun k => by
        rcases h with h | h
        · rw [h] at k; exact absurd k.2 (by simp)
        · rw [h] at k; exact absurd k.1 (by simp)
      unfold likeB
      rw [if_neg h1]
      have two : ¬ (eqI no 0 = true ∧ far = true) → br (neI no 0) (bT (eqI why no) = bT (if eqI no 0 = true ∧ far = true then eqI why 3 || eqI why 0 else if neI no 0 = true then eqI why no else eqI why 0 && goodB v u p)) (br (eqI why 0) (bT (goodB v u p) = bT (if eqI no 0 = true ∧ far = true then eqI why 3 || eqI why 0 else if neI no 0 = true then eqI why no else eqI why 0 && goodB v u p)) (bT false = bT (if eqI no 0 = true ∧ far = true then eqI why 3 || eqI why 0 else if neI no 0 = true then eqI why no else eqI why 0 && goodB v u p))) := fun k => by
        rw [if_neg k]
        refine br_intro (fun a => ?_) fun a => br_intro (fun b => ?_) fun b => ?_
        · rw [if_pos a]
        · rw [if_neg (by rw [a]; simp), b]; rfl
        · rw [if_neg (by rw [a]; simp), b]; rfl
      refine br_intro (fun a => br_intro (fun b => br_intro (fun c => ?_) fun c => ?_) fun b => two (fun k => by rw [b] at k; exact absurd k.2 (by simp))) fun a => two (fun k => by rw [a] at k; exact absurd k.1 (by simp))
      · rw [if_pos ⟨a, b⟩, c]; rfl
      · rw [if_pos ⟨a, b⟩, c]; rfl
    refine br_intro (fun a => br_intro (fun b => ?_) fun b => rest (.inl (not_false' b))) fun a => rest (.inr a)
    rw [likeB, if_pos ⟨a, not_true b⟩]⟩
/-! ### The laws' runs. -/
def wTrue : Spec := specK [] (none, bT true)
def wLike (fL : Vx → Int → Vx → Int → Int → Bool → Bool) : Spec := specK [.v, .i .i64, .v, .i .i64, .i .i64, .b] fun (v : Vx) (why : Int) (u : Vx) (no : Int) (p : Int) (far : Bool) => (none, bT (fL v why u no p far))
def wFar (fF : Dx → Bool) : Spec := specK [.d] fun (d : Dx) => (some (eB 2305843009213693952 d), bT (fF d))
def sEn (fS fC hS hC : Dx → Int → Vx × Int) (fL : Vx → Int → Vx → Int → Int → Bool → Bool) (fF : Dx → Bool) : List (FuncId × Spec) :=
  [(9, xDIr fS), (11, xDIr fC), (10, xDIr hS), (12, xDIr hC), (14, wLike fL), (15, wFar fF), (13, wTrue)]
theorem lEnc_vc (t : Dx) (p : Int) (fS fC hS hC : Dx → Int → Vx × Int) (fL : Vx → Int → Vx → Int → Int → Bool → Bool) (fF : Dx → Bool) (Q : Tv → Prop) : execF ⟨tys4, sEn fS fC hS hC fL fF⟩ (fun _ => none) 0 Tryz.f3 [.agg (dyL false t), .one (.int .i64 p)] Q = (br (eqI (hS t p).snd (0 : Int)) (eB (2305843009213693952 : Int) t ∧ br (fL (fS t p).fst (fS t p).snd (hS t p).fst (hS t p).snd p (fF t)) (br (eqI (hC t p).snd (0 : Int)) (eB (2305843009213693952 : Int) t ∧ true = true ∧ Q (bT (fL (fC t p).fst (fC t p).snd (hC t p).fst (hC t p).snd p (fF t)))) (true = true ∧ Q (bT (fL (fC t p).fst (fC t p).snd (hC t p).fst (hC t p).snd p false)))) (true = true ∧ Q (bT false))) (br (fL (fS t p).fst (fS t p).snd (hS t p).fst (hS t p).snd p false) (br (eqI (hC t p).snd (0 : Int)) (eB (2305843009213693952 : Int) t ∧ true = true ∧ Q (bT (fL (fC t p).fst (fC t p).snd (hC t p).fst (hC t p).snd p (fF t)))) (true = true ∧ Q (bT (fL (fC t p).fst (fC t p).snd (hC t p).fst (hC t p).snd p false)))) (true = true ∧ Q (bT false)))) := by kernel_rfl
def sLv (fS fC : Dx → Int → Vx × Int) (hI : Dx → Int → Vx) (fI : Int → Dx) (fSm : Vx → Vx → Bool) (fN : Vx → Int → Bool) (fH : Vx → Dx → Bool) (fM : Vx → Vx → Bool) (pr : Dx → Int → Prop) : List (FuncId × Spec) :=
  [(9, xDIr fS), (11, xDIr fC), (34, specK [.d, .i .i64] fun (t : Dx) (p : Int) => (some (pr t p), vF (hI t p))), (20, specK [.i .i64] fun (n : Int) => (some (inR n), dT (fI n))), (30, xVVb fSm), (46, xVIb fN), (33, specK [.v, .d] fun (v : Vx) (d : Dx) => (none, bT (fH v d))), (22, xVVb fM)]
theorem lLive_vc (fS fC : Dx → Int → Vx × Int) (hI : Dx → Int → Vx) (fI : Int → Dx) (fSm : Vx → Vx → Bool) (fN : Vx → Int → Bool) (fH : Vx → Dx → Bool) (fM : Vx → Vx → Bool) (pr : Dx → Int → Prop) (Q : Tv → Prop) : execF ⟨tys4, sLv fS fC hI fI fSm fN fH fM pr⟩ (fun _ => none) 0 Tryz.f13 [] Q = (inR (1 : Int) ∧ inR (2 : Int) ∧ br (eqI (fS (Dx.mk false [] (0 : Int)) (64 : Int)).snd (0 : Int)) (br (fSm (fS (Dx.mk false [] (0 : Int)) (64 : Int)).fst (Vx.mk (Dx.mk false [] (0 : Int)) (Dx.mk false [] (0 : Int)))) (br (eqI (fC (Dx.mk false [] (0 : Int)) (64 : Int)).snd (0 : Int)) (inR (1 : Int) ∧ br (fH (fC (Dx.mk false [] (0 : Int)) (64 : Int)).fst (fI (1 : Int))) (br (eqI (fS (fI (1 : Int)) (64 : Int)).snd (0 : Int)) (br (fN (fS (fI (1 : Int)) (64 : Int)).fst (64 : Int)) (inR (1 : Int) ∧ pr (fI (1 : Int)) (40 : Int) ∧ br (fM (fS (fI (1 : Int)) (64 : Int)).fst (hI (fI (1 : Int)) (40 : Int))) (true = true ∧ Q (bT (eqI (fS (fI (2 : Int)) (64 : Int)).snd (5 : Int)))) (true = true ∧ Q (bT false))) (true = true ∧ Q (bT false))) (true = true ∧ Q (bT false))) (true = true ∧ Q (bT false))) (true = true ∧ Q (bT false))) (true = true ∧ Q (bT false))) (true = true ∧ Q (bT false))) := by kernel_rfl
end Go.Proofs.YtlpjmikpndllhaaGreatDoor

namespace Go.Proofs.YtlpjmikpndllhaaGreatDoor
open Go.RowKit
def wsK : Nat → Int → List Int
  | 0, _ => []
  | k + 1, n => if 0 < n then (n % 18446744073709551616) :: wsK k (n / 18446744073709551616) else []
theorem wsK_eq : ∀ {k : Nat} {n : Int}, n < 2 ^ k → ws n = wsK k n
  | 0, n, h => by rw [ws_nonpos (by simp at h; omega)]; rfl
  | k + 1, n, h => by
    unfold wsK
    by_cases hp : 0 < n
    · have p := two_pow_pos k
      rw [Int.pow_succ] at h
      rw [ws_pos hp, if_pos hp, wsK_eq (k := k) (by omega)]
    · rw [ws_nonpos (by omega), if_neg hp]
theorem ws_K (n : Int) : ws n = wsK (blen n) n := wsK_eq (blen_lt n)
def tzK : Nat → Nat → Nat
  | 0, _ => 0
  | k + 1, n => if n = 0 then 0 else if n % 2 = 1 then 0 else tzK k (n / 2) + 1
theorem tzK_eq : ∀ {k n : Nat}, n < 2 ^ k → tzn n = tzK k n
  | 0, n, h => by
    obtain rfl : n = 0 := by simp at h; omega
    unfold tzn tzK; rfl
  | k + 1, n, h => by
    rw [Nat.pow_succ] at h
    unfold tzK; rw [tzn, tzK_eq (k := k) (n := n / 2) (by omega)]
theorem tz_K {n : Int} : tz n = tzK (blen n) n.toNat := by
  unfold tz
  refine tzK_eq ?_
  have h := blen_lt n
  by_cases h0 : 0 ≤ n
  · have : (n.toNat : Int) < ((2 ^ blen n : Nat) : Int) := by rw [Int.toNat_of_nonneg h0]; simpa using h
    exact_mod_cast this
  · rw [Int.toNat_of_nonpos (by omega)]; exact Nat.two_pow_pos _
def mkDK (neg : Bool) (m e : Int) : Dx := if m = 0 then ⟨false, [], 0⟩ else
  let t := tzK (blen m) m.toNat
  let q := m / 2 ^ t
  ⟨neg, wsK (blen q) q, e + t⟩
theorem mkD_K (neg : Bool) (m e : Int) : mkD neg m e = mkDK neg m e := by
  unfold mkD mkDK; rw [tz_K, ws_K]
def oneK (d : Dx) : Dx := mkDK d.neg d.m d.e
theorem oneD_K (d : Dx) : oneD d = oneK d := by unfold oneD oneK; rw [mkD_K]
def mkSK (s e : Int) : Dx := mkDK (decide (s < 0)) (s.natAbs : Int) e
theorem mkS_K (s e : Int) : mkS s e = mkSK s e := by unfold mkS mkSK; rw [mkD_K]
def cutXK (x : Dx) (p : Int) (up : Bool) : Dx :=
  let n := (blen x.m : Int) - p
  if n ≤ 0 then x else mkDK x.neg (x.m / 2 ^ n.toNat + if up == x.neg then 0 else 1) (x.e + n)
theorem cutX_K (x : Dx) (p : Int) (up : Bool) : cutX x p up = cutXK x p up := by unfold cutX cutXK; rw [mkD_K]
def cutK (d : Dx) (p : Int) (up : Bool) : Dx := cutXK (oneK d) p up
theorem cutD_K (x : Dx) (p : Int) (up : Bool) : cutD x p up = cutK x p up := by unfold cutD cutK; rw [cutX_K, oneD_K]
def overXK (x y : Dx) (p : Int) (up : Bool) : Dx :=
  if x.m = 0 then ⟨false, [], 0⟩ else
  let k := max (p + 2 + blen y.m - blen x.m) 0
  let M := x.m * 2 ^ k.toNat
  cutK (mkDK (!(x.neg == y.neg)) (stickyM (M / y.m) (decide (M % y.m ≠ 0))) (x.e - y.e - k - 1)) p up
theorem overX_K (x y : Dx) (p : Int) (up : Bool) : overX x y p up = overXK x y p up := by unfold overX overXK; rw [mkD_K, cutD_K]
def overK (a b : Dx) (p : Int) (up : Bool) : Dx := overXK (oneK a) (oneK b) p up
theorem overD_K (a b : Dx) (p : Int) (up : Bool) : overD a b p up = overK a b p up := by unfold overD overK; rw [overX_K, oneD_K, oneD_K]
def plusXK (x y : Dx) : Dx :=
  if x.m = 0 then y else if y.m = 0 then x else
  let e := min x.e y.e
  mkSK (x.sm * 2 ^ (x.e - e).toNat + y.sm * 2 ^ (y.e - e).toNat) e
theorem plusX_K (x y : Dx) : plusX x y = plusXK x y := by unfold plusX plusXK; rw [mkS_K]
def plusK (a b : Dx) : Dx := plusXK (oneK a) (oneK b)
theorem plusD_K (a b : Dx) : plusD a b = plusK a b := by unfold plusD plusK; rw [plusX_K, oneD_K, oneD_K]
def fitsK (d : Dx) : Bool := decide ((wsK (blen d.m) d.m).length ≤ 1024) && decide (-32768 ≤ d.e) && decide (d.e ≤ 32768)
def rightK (v : Vx) : Bool := fitsK v.lo && (fitsK v.hi && decide (cmpD v.lo v.hi ≤ 0))
theorem great_K (m : Int) : (!greatB m) = decide ((wsK (blen m) m).length ≤ 1024) := by
  unfold greatB; rw [← ws_K]
  by_cases h : (ws m).length ≤ 1024
  · rw [decide_eq_true h, decide_eq_false (by omega)]; rfl
  · rw [decide_eq_false h, decide_eq_true (by omega)]; rfl
theorem fits_K (d : Dx) : d.fitsB = fitsK d := by unfold Dx.fitsB fitsK; rw [great_K]
theorem right_K (v : Vx) : rightV v = rightK v := by unfold rightV rightK; rw [fits_K, fits_K]
def roomK (v : Vx) : Vx × Int := if (fitsK v.lo && fitsK v.hi) = true then (v, 0) else (zeroIv, 3)
theorem room_K (v : Vx) : roomR v = roomK v := by unfold roomR roomK; rw [fits_K, fits_K]
def doK (v u : Vx) (p wrong : Int) (X : Vx) : Vx × Int := whenR (rightK v && (rightK u && (leI 1 p && leI p 8192))) (if neI wrong 0 = true then (zeroIv, wrong) else roomK X)
theorem do_K (v u : Vx) (p wrong : Int) (X : Vx) : doR v u p wrong X = doK v u p wrong X := by unfold doR doK; rw [right_K, right_K, room_K]
def trimK (v : Vx) (p : Int) : Vx := ⟨cutK v.lo p false, cutK v.hi p true⟩
theorem trim_K (v : Vx) (p : Int) : trimV v p = trimK v p := by unfold trimV trimK; rw [cutD_K, cutD_K]
def ivAddK (v u : Vx) (p : Int) : Vx × Int := doK v u p 0 (trimK ⟨plusK v.lo u.lo, plusK v.hi u.hi⟩ p)
theorem ivAdd_K (v u : Vx) (p : Int) : ivAdd v u p = ivAddK v u p := by unfold ivAdd plusV sumV ivAddK; rw [do_K, trim_K, plusD_K, plusD_K]
def quoK (v u : Vx) (p : Int) (up : Bool) : Vx := spanL (overK v.lo u.lo p up) [overK v.lo u.hi p up, overK v.hi u.lo p up, overK v.hi u.hi p up]
theorem quo_K (v u : Vx) (p : Int) (up : Bool) : quoV v u p up = quoK v u p up := by unfold quoV quoK; simp only [overD_K]
def ivDivK (v u : Vx) (p : Int) : Vx × Int := doK v u p (wrongZ u) ⟨(quoK v u p false).lo, (quoK v u p true).hi⟩
theorem ivDiv_K (v u : Vx) (p : Int) : ivDiv v u p = ivDivK v u p := by unfold ivDiv divV ivDivK; rw [do_K, quo_K, quo_K]
def signK (v : Vx) : Int × Bool := if rightK v = true then (if 0 < v.lo.sgn then (1, true) else if v.hi.sgn < 0 then (-1, true) else (0, eqI v.lo.sgn 0 && eqI v.hi.sgn 0)) else (0, false)
theorem sign_K (v : Vx) : signV v = signK v := by unfold signV signK; rw [right_K]
def meetsK (v u : Vx) : Bool := rightK v && (rightK u && (leI (cmpD v.lo u.hi) 0 && leI (cmpD u.lo v.hi) 0))
theorem meets_K (v u : Vx) : meetsV v u = meetsK v u := by unfold meetsV meetsK; rw [right_K, right_K]
theorem beg1 : ivDiv ⟨mkS 1 0, mkS 1 0⟩ ⟨mkS 3 0, mkS 3 0⟩ 2 = (⟨⟨false, [1], -2⟩, ⟨false, [3], -3⟩⟩, 0) := by
  rw [ivDiv_K, mkS_K, mkS_K]; kernel_rfl
theorem beg2 : ivAdd ⟨mkS 1 0, mkS 2 0⟩ ⟨mkS 3 0, mkS 3 0⟩ 2 = (⟨⟨false, [1], 2⟩, ⟨false, [3], 1⟩⟩, 0) := by
  rw [ivAdd_K, mkS_K, mkS_K, mkS_K]; kernel_rfl
theorem beg3 : (⟨mkS 4 0, mkS 6 0⟩ : Vx) = ⟨⟨false, [1], 2⟩, ⟨false, [3], 1⟩⟩ := by
  rw [mkS_K, mkS_K]; kernel_rfl
theorem beg4 : signV ⟨⟨false, [1], 2⟩, ⟨false, [3], 1⟩⟩ = (1, true) := by rw [sign_K]; kernel_rfl
theorem beg5 : meetsV ⟨⟨false, [1], -2⟩, ⟨false, [3], -3⟩⟩ ⟨⟨false, [1], -2⟩, ⟨false, [3], -3⟩⟩ = true := by rw [meets_K]; kernel_rfl
end Go.Proofs.YtlpjmikpndllhaaGreatDoor

namespace Go.Proofs.YtlpjmikpndllhaaGreatDoor
open Go.RowKit
theorem sameD_refl (d : Dx) : sameD d d = true := by simp [sameD, eqI]
theorem sameV_refl (v : Vx) : sameV v v = true := by rw [sameV, sameD_refl, sameD_refl]; rfl
theorem sameD_eq {a b : Dx} (h : sameD a b = true) : a = b := by
  simp [sameD, eqI] at h
  obtain ⟨n, x, e⟩ := a
  obtain ⟨n', x', e'⟩ := b
  simp_all
theorem sameV_eq {a b : Vx} (h : sameV a b = true) : a.lo = b.lo ∧ a.hi = b.hi := by
  rw [sameV, Bool.and_eq_true] at h
  exact ⟨sameD_eq h.1, sameD_eq h.2⟩
theorem amt_same {a b : Dx} (ha : 0 ≤ a.m) (hb : 0 ≤ b.m) (h : a.rv = b.rv) : (a.m : Rat) * p2 a.e = (b.m : Rat) * p2 b.e := by
  have x := rv_amt ha
  have y := rv_amt hb
  rcases Rat.le_total (a := 0) (b := a.rv) with k | k
  · rw [← x.1 k, ← y.1 (h ▸ k), h]
  · rw [← x.2 k, ← y.2 (h ▸ k), h]
theorem near_zero {t : Dx} (ht : 0 ≤ t.m) (h : farD t = false) (h0 : t.rv ≠ 0) : p2 (-16384) ≤ ((oneD t).m : Rat) * p2 (oneD t).e ∧ p2 (-16384) ≤ (t.m : Rat) * p2 t.e := by
  have hm : 0 < t.m := by have := rv_ne h0; omega
  have hz : t.zeroB = false := zeroB_false.2 (by omega)
  rw [farD, hz] at h
  have k := ltI_false.1 (show ltI (t.e + (blen t.m : Int) - 1) (-16384) = false from h)
  have r := Rat.le_trans (p2_le (show (-16384 : Int) ≤ t.e + (blen t.m : Int) - 1 by omega)) (amt_ge (e := t.e) hm)
  rw [amt_same oneD_p ht (rv_one ht)]
  exact ⟨r, r⟩
structure Ans (s : Nat → Rat) (v : Vx) : Prop where
  p : v.P
  right : rightV v = true
  enc : Enc s v.lo.rv v.hi.rv
theorem zero_rv : (⟨false, [], 0⟩ : Dx).rv = 0 := rv_zero rfl
theorem cutD_zero (p : Int) (up : Bool) (hp : 0 ≤ p) : cutD ⟨false, [], 0⟩ p up = ⟨false, [], 0⟩ := by
  have o : oneD ⟨false, [], 0⟩ = ⟨false, [], 0⟩ := (oneD_f (Int.le_refl _)).zero (zeroB_true.1 ((zeroB_rv oneD_p).2 ((rv_one (Int.le_refl _)).trans zero_rv)))
  unfold cutD cutX
  rw [o, if_pos (by
    have : (blen (⟨false, [], 0⟩ : Dx).m : Int) = 0 := by rw [show (⟨false, [], 0⟩ : Dx).m = 0 from rfl]; rfl
    omega)]
theorem trim_zero (p : Int) (hp : 0 ≤ p) : trimV zeroIv p = zeroIv := by
  show (⟨cutD ⟨false, [], 0⟩ p false, cutD ⟨false, [], 0⟩ p true⟩ : Vx) = zeroIv
  rw [cutD_zero _ _ hp, cutD_zero _ _ hp]; rfl
theorem zero_right : rightV zeroIv = true := by rw [right_K]; decide
theorem zero_ans {s : Nat → Rat} (h : Enc s 0 0) : Ans s zeroIv := ⟨⟨Int.le_refl _, Int.le_refl _⟩, zero_right, by
  show Enc s (⟨false, [], 0⟩ : Dx).rv (⟨false, [], 0⟩ : Dx).rv
  rw [zero_rv]; exact h⟩
theorem ans_cut {w : Vx} {s : Nat → Rat} {δ : Rat} {A B p : Int} (hw : w.P) (E : Enc s w.lo.rv w.hi.rv) (h : VM δ (p2 A) (p2 B) w) (d0 : 0 ≤ δ) (hd : δ ≤ p2 (-6 - p)) (p0 : 0 ≤ p) (p1 : p ≤ 8000) (hA : -20000 ≤ A) (hB : B ≤ 100) :
    cutR w p = (trimV w (p + 8), 0) ∧ Ans s (trimV w (p + 8)) ∧ VM (p2 (-4 - p)) (p2 (A - 1)) (p2 (B + 1)) (trimV w (p + 8)) := by
  have c := cut_vm hw h d0 hd p0
  have r := cut_right hw c (by omega) (by omega) (by omega) (by omega)
  exact ⟨by rw [cutR, if_pos r], ⟨trimV_p w _, r, enc_trim hw (by omega) E⟩, c⟩
theorem like_ok {s : Nat → Rat} {v u : Vx} {p : Int} {L H δ L' H' : Rat} (hv : Ans s v) (hu : Ans s u) (vm : VM (p2 (-4 - p)) L H v) (um : VM δ L' H' u) (p0 : 0 ≤ p) : likeB v 0 u 0 p false = true := by
  have n0 : ∀ {w : Vx} {δ L H : Rat}, VM δ L H w → w.lo.rv ≠ 0 := fun {w δ L H} h e => by
    rcases h with h | h
    · have := h.nar.1; grind
    · have a := h.nar.1; have b := h.nar.2.1; grind
  have g : goodB v u p = true := by
    have z : ¬ sameV u zeroIv = true := fun k => by
      have := n0 um
      rw [(sameV_eq k).1] at this
      exact this zero_rv
    rw [goodB, if_neg z, narrow_of hv.p hv.right p0 vm (p2_le (by omega)), show neI v.lo.sgn 0 = true from neI_true.2 (fun k => n0 vm (by
      rcases sgn_rv hv.p.1 with ⟨_, b⟩ | ⟨a, _⟩ | ⟨a, _⟩
      · exact b
      · omega
      · omega)), meets_of hv.right hu.right hv.enc hu.enc]
    rfl
  rw [likeB, if_neg (fun k => absurd k.1 (by decide)), if_neg (fun k => absurd k.2 (by decide)), if_neg (by decide), g]
  rfl
theorem sin_zero {t : Dx} {p : Int} (ht : 0 ≤ t.m) (hf : faultD t p = 0) (h0 : t.rv = 0) : sinR t p = (zeroIv, 0) ∧ sinH t p = (zeroIv, 0) := by
  have a : sineV (oneD t) p = zeroIv := by rw [sineV, if_pos ((sine_zero oneD_p).2 ((rv_one ht).trans h0))]
  have b : sineH t p = zeroIv := by rw [sineH, if_pos ((sine_zero ht).2 h0)]
  rw [sinR, sinH, if_pos hf, if_pos hf, a, b, cutR, trim_zero _ (by have := fault0 ht hf; omega), if_pos zero_right]
  exact ⟨rfl, rfl⟩
theorem sin_ok {t : Dx} {p : Int} (ht : 0 ≤ t.m) (hf : faultD t p = 0) (hn : farD t = false) (h0 : t.rv ≠ 0) :
    (sinR t p).2 = 0 ∧ Ans (sinS t.rv) (sinR t p).1 ∧ VM (p2 (-4 - p)) (p2 (-16389)) (p2 5) (sinR t p).1 := by
  obtain ⟨f1, f2, f3, f4⟩ := fault0 ht hf
  have V := sineV_iv (t := oneD t) (p := p) oneD_p (small_one ht f4) (by rw [rv_one ht]; exact h0) (near_zero ht hn h0).1 (by omega) (by omega)
  rw [rv_one ht] at V
  have c := ans_cut (p := p) V.1 V.2.1 V.2.2 (Rat.le_of_lt (p2_pos _)) (p2_le (by omega)) (by omega) (by omega) (by omega) (by omega)
  rw [sinR, if_pos hf, c.1]
  exact ⟨rfl, c.2.1, c.2.2⟩
theorem sinH_ok {t : Dx} {p : Int} (ht : 0 ≤ t.m) (h1 : small1 t) (p0 : 0 ≤ p) (p1 : p ≤ 8000) (hn : farD t = false) (h0 : t.rv ≠ 0) :
    Ans (sinS t.rv) (sineH t p) ∧ VM (p2 (-21 - p)) (p2 (-16387)) (p2 4) (sineH t p) := by
  have V := sineH_iv (p := p) ht h1 h0 (near_zero ht hn h0).2 (by omega) (by omega)
  refine ⟨⟨V.1, ?_, V.2.1⟩, V.2.2⟩
  have z : ¬ t.zeroB = true := fun k => h0 ((sine_zero ht).1 k)
  have V3 := V.2.2
  rw [sineH, if_neg z] at V3 ⊢
  exact cut_right (w := prodV (pointV t) (altR 2 t (p + 48))) (prodV_p _ _) V3 (by omega) (by omega) (by omega) (by omega)
theorem cos_ok {t : Dx} {p : Int} (ht : 0 ≤ t.m) (hf : faultD t p = 0) :
    (cosR t p).2 = 0 ∧ Ans (cosS t.rv) (cosR t p).1 ∧ VM (p2 (-4 - p)) (p2 (-3)) (p2 3) (cosR t p).1 := by
  obtain ⟨f1, f2, f3, f4⟩ := fault0 ht hf
  have V := cosineV_iv (t := oneD t) (p := p) oneD_p (small_one ht f4) (by omega) (by omega)
  rw [rv_one ht] at V
  have c := ans_cut (p := p) V.1 V.2.1 (.inl V.2.2) (Rat.le_of_lt (p2_pos _)) (p2_le (by omega)) (by omega) (by omega) (by omega) (by omega)
  rw [cosR, if_pos hf, c.1]
  exact ⟨rfl, c.2.1, c.2.2⟩
theorem cosH_ok {t : Dx} {p : Int} (ht : 0 ≤ t.m) (h1 : small1 t) (p0 : 0 ≤ p) (p1 : p ≤ 8000) :
    Ans (cosS t.rv) (cosineH t p) ∧ VM (p2 (-24 - p)) (p2 (-2)) (p2 2) (cosineH t p) := by
  have V := cosineH_iv (p := p) ht h1 p0 (by omega)
  have f := V.1.fits (by omega) (by omega)
  exact ⟨⟨V.1.p, right_of f.1 f.2 V.2.1.self, V.2.1⟩, .inl V.2.2⟩
theorem faultD_le {t : Dx} {p : Int} : faultD t p = 0 ∨ faultD t p ≠ 0 := by omega
theorem sin_like (t : Dx) (ht : 0 ≤ t.m) (p : Int) : likeB (sinR t p).1 (sinR t p).2 (sinH t p).1 (sinH t p).2 p (if (sinH t p).2 = 0 then farD t else false) = true := by
  by_cases hf : faultD t p = 0
  · by_cases h0 : t.rv = 0
    · obtain ⟨a, b⟩ := sin_zero (p := p) ht hf h0
      have z : farD t = false := by rw [farD, (zeroB_rv ht).2 h0]; rfl
      rw [a, b, z, if_pos rfl, likeB, if_neg (fun k => absurd k.1 (by decide)), if_neg (fun k => absurd k.2 (by decide)), if_neg (by decide), goodB, if_pos (sameV_refl _)]
      decide
    · have hs : (sinH t p).2 = 0 := by rw [sinH, if_pos hf]
      have hs1 : (sinH t p).1 = sineH t p := by rw [sinH, if_pos hf]
      rw [if_pos hs, hs, hs1]
      obtain ⟨f1, f2, f3, f4⟩ := fault0 ht hf
      cases hn : farD t with
      | false =>
        have a := sin_ok ht hf hn h0
        have b := sinH_ok (p := p) ht f4 (by omega) (by omega) hn h0
        rw [a.1]
        exact like_ok a.2.1 b.1 a.2.2 b.2 (by omega)
      | true =>
        have e : sinR t p = cutR (sineV (oneD t) p) p := by rw [sinR, if_pos hf]
        rw [e]
        unfold cutR
        split
        · rw [likeB, if_neg (fun k => absurd k.1 (by rw [show neI _ 0 = false from neI_false.2 rfl]; simp)), if_pos ⟨by decide, rfl⟩]; rfl
        · rw [likeB, if_neg (fun k => absurd k.2 (by rw [sameV_refl]; simp)), if_pos ⟨by decide, rfl⟩]; rfl
  · have e : sinR t p = (zeroIv, faultD t p) := by rw [sinR, if_neg hf]
    have e' : sinH t p = (zeroIv, faultD t p) := by rw [sinH, if_neg hf]
    rw [e, e']
    show likeB zeroIv (faultD t p) zeroIv (faultD t p) p (if faultD t p = 0 then farD t else false) = true
    rw [if_neg hf, likeB, if_neg (fun k => absurd k.2 (by rw [sameV_refl]; simp)), if_neg (fun k => absurd k.2 (by decide)), if_pos (neI_true.2 hf)]
    exact eqI_true.2 rfl
theorem cos_like (t : Dx) (ht : 0 ≤ t.m) (p : Int) : likeB (cosR t p).1 (cosR t p).2 (cosH t p).1 (cosH t p).2 p (if (cosH t p).2 = 0 then farD t else false) = true := by
  by_cases hf : faultD t p = 0
  · have hs : (cosH t p).2 = 0 := by rw [cosH, if_pos hf]
    have hs1 : (cosH t p).1 = cosineH t p := by rw [cosH, if_pos hf]
    rw [if_pos hs, hs, hs1]
    obtain ⟨f1, f2, f3, f4⟩ := fault0 ht hf
    have a := cos_ok (p := p) ht hf
    have b := cosH_ok (p := p) ht f4 (by omega) (by omega)
    rw [a.1]
    cases hn : farD t with
    | false => exact like_ok a.2.1 b.1 a.2.2 b.2 (by omega)
    | true => rw [likeB, if_neg (fun k => absurd k.1 (by decide)), if_pos ⟨by decide, rfl⟩]; rfl
  · have e : cosR t p = (zeroIv, faultD t p) := by rw [cosR, if_neg hf]
    have e' : cosH t p = (zeroIv, faultD t p) := by rw [cosH, if_neg hf]
    rw [e, e']
    show likeB zeroIv (faultD t p) zeroIv (faultD t p) p (if faultD t p = 0 then farD t else false) = true
    rw [if_neg hf, likeB, if_neg (fun k => absurd k.2 (by rw [sameV_refl]; simp)), if_neg (fun k => absurd k.2 (by decide)), if_pos (neI_true.2 hf)]
    exact eqI_true.2 rfl
end Go.Proofs.YtlpjmikpndllhaaGreatDoor

namespace Go.Proofs.YtlpjmikpndllhaaGreatDoor
open Go.RowKit
theorem chk_of {d : Dx} (h : d.fitsB = true) : chkD d = 0 := by rw [chkD, if_pos h]
theorem fault_of {t : Dx} {p : Int} (ht : 0 ≤ t.m) (hf : t.fitsB = true) (h : small1 t) (p0 : 8 ≤ p) (p1 : p ≤ 4096) : faultD t p = 0 := by
  rw [faultD, if_pos ⟨chk_of hf, p0, p1⟩, if_neg]
  intro k
  rw [cmpD_gt0, rv_int 1, rv_abs ht] at k
  have a := rv_amt ht
  rcases (show 0 ≤ t.rv ∨ t.rv ≤ 0 by grind) with c | c
  · have := a.1 c; have := h.1; grind
  · have := a.2 c; have := h.2; grind
theorem small_fits {n : Int} (h : n.natAbs ≤ 16) : (mkS n 0).fitsB = true := fits_mk (N := 5) (by omega) (blen_le (by omega)) (by omega) (by omega) (by omega) (by omega)
theorem int_small {n : Int} (h : -1 ≤ n) (k : n ≤ 1) : small1 (mkS n 0) := by
  unfold small1
  rw [rv_int]
  have a : (n : Rat) ≤ ((1 : Int) : Rat) := by exact_mod_cast k
  have b : ((-1 : Int) : Rat) ≤ (n : Rat) := by exact_mod_cast h
  exact ⟨by grind, by grind⟩
theorem fault_int {n p : Int} (h : -1 ≤ n) (k : n ≤ 1) (p0 : 8 ≤ p) (p1 : p ≤ 4096) : faultD (mkS n 0) p = 0 := fault_of mkS_p (small_fits (by omega)) (int_small h k) p0 p1
theorem far_one : farD (mkS 1 0) = false := by
  rw [farD]
  have r : (mkS 1 0).rv = 1 := rv_int 1
  have a := (rv_amt (d := mkS 1 0) mkS_p).1 (by rw [r]; decide)
  have l := amt_lt (m := (mkS 1 0).m) (e := (mkS 1 0).e)
  rw [← a, r] at l
  have g : ¬ ((mkS 1 0).e + (blen (mkS 1 0).m : Int) ≤ 0) := fun k => by
    have := p2_le k
    rw [p2_zero] at this
    grind
  rw [show ltI ((mkS 1 0).e + (blen (mkS 1 0).m : Int) - 1) (-16384) = false from ltI_false.2 (by omega), Bool.and_false]
theorem zero_fault : faultD ⟨false, [], 0⟩ 64 = 0 := by
  have f := (right_fits zero_right).1
  refine fault_of (Int.le_refl _) f ?_ (by omega) (by omega)
  unfold small1
  rw [zero_rv]
  exact ⟨by decide, by decide⟩
theorem lives_sin0 : sinR ⟨false, [], 0⟩ 64 = (zeroIv, 0) := (sin_zero (Int.le_refl _) zero_fault zero_rv).1
theorem lives_cos0 : (cosR ⟨false, [], 0⟩ 64).2 = 0 ∧ hasV (cosR ⟨false, [], 0⟩ 64).1 (mkS 1 0) = true := by
  obtain ⟨a, b, c⟩ := cos_ok (t := ⟨false, [], 0⟩) (Int.le_refl _) zero_fault
  refine ⟨a, ?_⟩
  have e := b.enc
  rw [zero_rv] at e
  have h1 := e.meets enc_cos0
  have h2 := enc_cos0.meets e
  have r : (mkS 1 0).rv = 1 := rv_int 1
  rw [hasV, b.right, small_fits (by omega), show leI (cmpD _ (mkS 1 0)) 0 = true from leI_true.2 (cmpD_le.2 (by rw [r]; exact h1)), show leI (cmpD (mkS 1 0) _) 0 = true from leI_true.2 (cmpD_le.2 (by rw [r]; exact h2))]
  rfl
theorem lives_sin1 : (sinR (mkS 1 0) 64).2 = 0 ∧ narrowB (sinR (mkS 1 0) 64).1 64 = true ∧ meetsV (sinR (mkS 1 0) 64).1 (sineH (mkS 1 0) 40) = true := by
  have r : (mkS 1 0).rv = 1 := rv_int 1
  have a := sin_ok (p := 64) mkS_p (fault_int (n := 1) (by omega) (by omega) (by omega) (by omega)) far_one (by rw [r]; decide)
  have b := sinH_ok (p := 40) mkS_p (int_small (n := 1) (by omega) (by omega)) (by omega) (by omega) far_one (by rw [r]; decide)
  exact ⟨a.1, narrow_of a.2.1.p a.2.1.right (by omega) a.2.2 (p2_le (by omega)), meets_of a.2.1.right b.1.right a.2.1.enc b.1.enc⟩
theorem lives_sin2 : (sinR (mkS 2 0) 64).2 = 5 := by
  have f : faultD (mkS 2 0) 64 = 5 := by
    rw [faultD, if_pos ⟨chk_of (small_fits (by omega)), by omega, by omega⟩, if_pos (cmpD_gt0.2 (by
      have a := (rv_amt (d := mkS 2 0) mkS_p).1 (by rw [rv_int]; decide)
      rw [rv_int, rv_abs mkS_p, ← a, rv_int]; decide))]
  rw [sinR, f]; rfl
theorem sLv_ok : SpecsOk Tryz.prog (sLv sinR cosR sineH (fun n => mkS n 0) sameV narrowB hasV meetsV preS) := ⟨rSin_ok, rCos_ok, hSine_ok, fInt_ok, gSame_ok, gNarrow_ok, gHas_ok, gMeets_ok, trivial⟩
theorem lLive_ok : SpecOk Tryz.prog 13 wTrue :=
  specK_ok (envOk tys4_ok sLv_ok) mixed Tryz.func13 rfl (by decide) (by decide) fun _ => ⟨fun _ => none, 0, by
    show execF _ _ _ _ _ (fun t => t = bT true)
    refine (lLive_vc sinR cosR sineH (fun n => mkS n 0) sameV narrowB hasV meetsV preS _).mpr ⟨by unfold inR; omega, by unfold inR; omega, ?_⟩
    have z : (⟨⟨false, [], 0⟩, ⟨false, [], 0⟩⟩ : Vx) = zeroIv := rfl
    rw [lives_sin0, z, sameV_refl, lives_cos0.1, lives_cos0.2, lives_sin1.1, lives_sin1.2.1, lives_sin1.2.2, lives_sin2]
    exact ⟨by unfold inR; omega, by unfold inR; omega, fault_pre0 mkS_p (fault_int (by omega) (by omega) (by omega) (by omega)), rfl, rfl⟩⟩
def lEnc : Spec := specK [.d, .i .i64] fun (_ : Dx) (_ : Int) => (none, bT true)
theorem sEn_ok : SpecsOk Tryz.prog (sEn sinR cosR sinH cosH likeB farD) := ⟨rSin_ok, rCos_ok, hSin_ok, hCos_ok, lLike_ok, lFar_ok, lLive_ok, trivial⟩
theorem enc_case {h : Vx × Int} {t : Dx} {f : Bool → Bool} {Q : Prop} {E : Prop} (k : f (if h.2 = 0 then farD t else false) = true) (e : h.2 = 0 → E) :
    (eqI h.2 0 = true → E ∧ f (farD t) = true) ∧ (eqI h.2 0 = false → f false = true) := by
  refine ⟨fun c => ?_, fun c => ?_⟩
  · have c := eqI_true.1 c
    rw [if_pos c] at k
    exact ⟨e c, k⟩
  · have c := eqI_false.1 c
    rwa [if_neg c] at k
theorem fault_eB {t : Dx} {p : Int} (ht : 0 ≤ t.m) (h : faultD t p = 0) : eB 2305843009213693952 t := (fits_sm (fault0 ht h).1).eB (by omega)
theorem lEnc_ok : SpecOk Tryz.prog 3 lEnc :=
  specK_ok (envOk tys4_ok sEn_ok) mixed Tryz.func3 rfl (by decide) (by decide) fun (t : Dx) wt (p : Int) _ _ => ⟨fun _ => none, 0, by
    have ht := Dx.Wf.m0 wt
    show execF _ _ _ _ _ (fun t => t = bT true)
    have s0 : (sinH t p).2 = 0 → faultD t p = 0 := fun h => by
      unfold sinH at h; split at h
      · assumption
      · exact h
    have c0 : (cosH t p).2 = 0 → faultD t p = 0 := fun h => by
      unfold cosH at h; split at h
      · assumption
      · exact h
    obtain ⟨s1, s2⟩ := enc_case (Q := True) (f := fun b => likeB (sinR t p).1 (sinR t p).2 (sinH t p).1 (sinH t p).2 p b) (sin_like t ht p) (fun h => fault_eB ht (s0 h))
    obtain ⟨c1, c2⟩ := enc_case (Q := True) (f := fun b => likeB (cosR t p).1 (cosR t p).2 (cosH t p).1 (cosH t p).2 p b) (cos_like t ht p) (fun h => fault_eB ht (c0 h))
    have fin : br (eqI (cosH t p).2 0) (eB 2305843009213693952 t ∧ true = true ∧ bT (likeB (cosR t p).1 (cosR t p).2 (cosH t p).1 (cosH t p).2 p (farD t)) = bT true) (true = true ∧ bT (likeB (cosR t p).1 (cosR t p).2 (cosH t p).1 (cosH t p).2 p false) = bT true) :=
      br_intro (fun h => ⟨(c1 h).1, rfl, congrArg bT (c1 h).2⟩) fun h => ⟨rfl, congrArg bT (c2 h)⟩
    refine (lEnc_vc t p sinR cosR sinH cosH likeB farD _).mpr (br_intro (fun h => ⟨(s1 h).1, br_intro (fun _ => fin) fun k => ?_⟩) fun h => br_intro (fun _ => fin) fun k => ?_)
    · rw [(s1 h).2] at k; exact absurd k (by simp)
    · rw [(s2 h)] at k; exact absurd k (by simp)⟩
end Go.Proofs.YtlpjmikpndllhaaGreatDoor

namespace Go.Proofs.YtlpjmikpndllhaaGreatDoor
open Go.RowKit
theorem le_eq {a b : Rat} (h : a = b) : a ≤ b := h ▸ Rat.le_refl
theorem sin_enc {t : Dx} {p : Int} (ht : 0 ≤ t.m) (h : (sinR t p).2 = 0) : faultD t p = 0 ∧ Ans (sinS t.rv) (sinR t p).1 := by
  have hf : faultD t p = 0 := by
    unfold sinR at h; split at h
    · assumption
    · exact h
  refine ⟨hf, ?_⟩
  by_cases h0 : t.rv = 0
  · rw [(sin_zero ht hf h0).1, h0]; exact zero_ans enc_sin0
  · obtain ⟨f1, f2, f3, f4⟩ := fault0 ht hf
    have hm : 0 < t.m := by have := rv_ne h0; omega
    have V := sineV_iv (t := oneD t) (p := p) oneD_p (small_one ht f4) (by rw [rv_one ht]; exact h0) (A := t.e + (blen t.m : Int) - 1) (by rw [amt_same oneD_p ht (rv_one ht)]; exact amt_ge hm) (by omega) (by omega)
    rw [rv_one ht] at V
    rw [sinR, if_pos hf] at h ⊢
    unfold cutR at h ⊢
    split at h
    · rename_i r
      rw [if_pos r]
      exact ⟨trimV_p _ _, r, enc_trim V.1 (by omega) V.2.1⟩
    · exact absurd h (by decide)
theorem cos_enc {t : Dx} {p : Int} (ht : 0 ≤ t.m) (h : (cosR t p).2 = 0) : faultD t p = 0 ∧ Ans (cosS t.rv) (cosR t p).1 := by
  have hf : faultD t p = 0 := by
    unfold cosR at h; split at h
    · assumption
    · exact h
  exact ⟨hf, (cos_ok ht hf).2.1⟩
theorem snd_of {v : Vx} {w : Int} (h : (sndR v w).2 = 0) : w = 0 ∧ (sndR v w).1 = v := by
  unfold sndR at h ⊢
  split at h
  · exact absurd h (by decide)
  · rename_i k
    rw [if_neg k]
    exact ⟨h, rfl⟩
theorem snd_sin {t : Dx} {p : Int} (ht : 0 ≤ t.m) (h : (sndR (sinR t p).1 (sinR t p).2).2 = 0) : faultD t p = 0 ∧ Ans (sinS t.rv) (sndR (sinR t p).1 (sinR t p).2).1 := by
  obtain ⟨a, b⟩ := snd_of h
  rw [b]; exact sin_enc ht a
theorem snd_cos {t : Dx} {p : Int} (ht : 0 ≤ t.m) (h : (sndR (cosR t p).1 (cosR t p).2).2 = 0) : faultD t p = 0 ∧ Ans (cosS t.rv) (sndR (cosR t p).1 (cosR t p).2).1 := by
  obtain ⟨a, b⟩ := snd_of h
  rw [b]; exact cos_enc ht a
theorem Ans.sm {s : Nat → Rat} {v : Vx} (h : Ans s v) : v.Sm 65536 := right_sm h.right
/-! ### The circle. -/
def cirV (v u : Vx) : Vx := plusV (timesV v v 9000) (timesV u u 9000) 9000
theorem circle_ok {x : Rat} {v u : Vx} (hv : Ans (sinS x) v) (hu : Ans (cosS x) u) : (cirV v u).lo.rv ≤ 1 ∧ 1 ≤ (cirV v u).hi.rv := by
  have a := enc_times (p := 9000) hv.p hv.p (by omega) hv.enc hv.enc
  have b := enc_times (p := 9000) hu.p hu.p (by omega) hu.enc hu.enc
  have c := (b.add a).near (circle x)
  obtain ⟨l, h⟩ := plus_best (p := 9000) (trimV_p (prodV v v) 9000) (trimV_p (prodV u u) 9000) (by omega)
  have d1 := c.meets (Enc.const 1)
  have d2 := (Enc.const 1).meets c
  have l1 : (cirV v u).lo.rv ≤ (timesV v v 9000).lo.rv + (timesV u u 9000).lo.rv := l.2.1
  have h1 : (timesV v v 9000).hi.rv + (timesV u u 9000).hi.rv ≤ (cirV v u).hi.rv := h.2.1
  exact ⟨by grind, by grind⟩
/-! ### The mirror. -/
theorem fits_neg {d : Dx} (h : OneF d) (f : d.fitsB = true) : (negD d).fitsB = true := by
  by_cases hz : d.m = 0
  · rw [h.zero hz]; decide +kernel
  · have t0 := tz_odd2 (h.odd hz) h.p
    have e1 : (negD d).m = d.m := by unfold negD; rw [mkD_m h.p, t0]; simp
    have e2 : (negD d).e = d.e := by unfold negD mkD; rw [if_neg hz, t0]; simp
    unfold Dx.fitsB at f ⊢
    rw [e1, e2]; exact f
def OneV (v : Vx) : Prop := OneF v.lo ∧ OneF v.hi
theorem zero_f : OneV zeroIv := ⟨⟨false, 0, 0, Int.le_refl _, (mkD_zero _ _).symm⟩, ⟨false, 0, 0, Int.le_refl _, (mkD_zero _ _).symm⟩⟩
theorem cut_f {w : Vx} {p : Int} (hw : w.P) : OneV (cutR w p).1 := by
  unfold cutR; split
  · exact ⟨cutD_f hw.1, cutD_f hw.2⟩
  · exact zero_f
theorem sineV_p {t : Dx} {p : Int} : (sineV t p).P := by
  unfold sineV; split
  · exact ⟨Int.le_refl _, Int.le_refl _⟩
  · exact trimV_p _ _
theorem sin_f {t : Dx} {p : Int} : OneV (sinR t p).1 := by
  unfold sinR; split
  · exact cut_f sineV_p
  · exact zero_f
theorem snd_sin_f {t : Dx} {p : Int} : OneV (sndR (sinR t p).1 (sinR t p).2).1 := by
  unfold sndR; split
  · exact zero_f
  · exact sin_f
theorem turn_ans {s s' : Nat → Rat} {v : Vx} (h : Ans s v) (o : OneV v) (e : s' = fun n => -s n) : Ans s' (turnV v) := by
  have r1 : (turnV v).lo.rv = -v.hi.rv := rv_neg h.p.2
  have r2 : (turnV v).hi.rv = -v.lo.rv := rv_neg h.p.1
  refine ⟨⟨negD_p, negD_p⟩, ?_, ?_⟩
  · have f := right_fits h.right
    exact right_of (fits_neg o.2 f.2.1) (fits_neg o.1 f.1) (by rw [r1, r2]; have := right_le h.right; grind)
  · rw [r1, r2, e]; exact h.enc.neg
theorem mirror_sin {t : Dx} {a b : Vx} (ht : 0 ≤ t.m) (ha : Ans (sinS t.rv) a) (hb : Ans (sinS (negD t).rv) b) (o : OneV b) : meetsV a (turnV b) = true := by
  have k := turn_ans (s' := sinS t.rv) hb o (by funext n; rw [rv_neg ht, sinS_neg]; grind)
  exact meets_of ha.right k.right ha.enc k.enc
theorem mirror_cos {t : Dx} {a b : Vx} (ht : 0 ≤ t.m) (ha : Ans (cosS t.rv) a) (hb : Ans (cosS (negD t).rv) b) : meetsV a b = true := by
  have e : cosS (negD t).rv = cosS t.rv := by funext n; rw [rv_neg ht, cosS_neg]
  rw [e] at hb
  exact meets_of ha.right hb.right ha.enc hb.enc
/-! ### Bounds. -/
theorem sinS_bd {t : Rat} (t0 : 0 < t) (t1 : t ≤ 1) {a b : Rat} (h : Enc (sinS t) a b) : a < t ∧ 6 * t - t * t * t < 6 * b := by
  have x0 : 0 < t * t := Rat.mul_pos t0 t0
  have x1 : t * t ≤ 1 := sqr_le1 t1 (by grind)
  have y0 : 0 < t * t * (t * t) := Rat.mul_pos x0 x0
  have y1 : t * t * (t * t) ≤ t * t := by have := Rat.mul_le_mul_of_nonneg_left x1 (Rat.le_of_lt x0); grind
  have z1 : t * t * (t * t) * (t * t) ≤ t * t * (t * t) := by have := Rat.mul_le_mul_of_nonneg_left x1 (Rat.le_of_lt y0); grind
  have m1 : tmf 2 (t * t) 1 = t * t / 6 := by simp [tmf]; grind
  have m2 : tmf 2 (t * t) 2 = t * t * (t * t) / 120 := by rw [tmf, m1]; simp; grind
  have m3 : tmf 2 (t * t) 3 = t * t * (t * t) * (t * t) / 5040 := by rw [tmf, m2]; simp; grind
  have p02 : parS 0 2 (t * t) 2 = 1 := by simp [parS, sumTo, tmf]; grind
  have p12 : parS 1 2 (t * t) 2 = t * t / 6 := by simp [parS, sumTo, m1]; grind
  have p03 : parS 0 2 (t * t) 3 = 1 + t * t * (t * t) / 120 := by simp [parS, sumTo, m1, m2]; simp [tmf]; grind
  have p13 : parS 1 2 (t * t) 3 = t * t / 6 := by simp [parS, sumTo, m1, m2]; grind
  have e1 := altS_enc (f := 2) (by omega) (Rat.le_of_lt x0) x1 (K := 2) (r := t * t * (t * t) / 110) (by omega) (le_eq p02.symm) (le_eq p02) (le_eq p12.symm) (le_eq p12) (by rw [m2]; grind)
  have e2 := altS_enc (f := 2) (by omega) (Rat.le_of_lt x0) x1 (K := 3) (r := t * t * (t * t) * (t * t) / 4620) (by omega) (le_eq p03.symm) (le_eq p03) (le_eq p13.symm) (le_eq p13) (by rw [m3]; grind)
  rw [sin_seq] at h
  have mul : ∀ {a b : Rat}, Enc (altS 2 (t * t)) a b → Enc (fun n => t * altS 2 (t * t) n) (t * a) (t * b) := fun {a b} k => by
    have l := Rat.mul_le_mul_of_nonneg_left k.self (Rat.le_of_lt t0)
    refine Enc.mul (Enc.const t) k ?_
    rintro x y (rfl | rfl) (rfl | rfl) <;> exact ⟨by grind, by grind⟩
  have u := h.meets (mul e1)
  have w := (mul e2).meets h
  have q1 := Rat.mul_pos t0 (show 0 < t * t / 6 - t * t * (t * t) / 110 by grind)
  have q2 := Rat.mul_pos t0 (show 0 < t * t * (t * t) / 120 - t * t * (t * t) * (t * t) / 4620 by grind)
  exact ⟨by grind, by grind⟩
theorem cosS_bd {t : Rat} (t0 : -1 ≤ t) (t1 : t ≤ 1) {a b : Rat} (h : Enc (cosS t) a b) : a ≤ 1 ∧ 1 - t * t / 2 ≤ b := by
  have x0 : 0 ≤ t * t := sqr_nonneg t
  have x1 : t * t ≤ 1 := sqr_le1 t1 t0
  have y0 : 0 ≤ t * t * (t * t) := Rat.mul_nonneg x0 x0
  have y1 : t * t * (t * t) ≤ t * t := by have := Rat.mul_le_mul_of_nonneg_left x1 x0; grind
  have z1 : t * t * (t * t) * (t * t) ≤ t * t * (t * t) := by have := Rat.mul_le_mul_of_nonneg_left x1 y0; grind
  have m1 : tmf 1 (t * t) 1 = t * t / 2 := by simp [tmf]; grind
  have m2 : tmf 1 (t * t) 2 = t * t * (t * t) / 24 := by rw [tmf, m1]; simp; grind
  have m3 : tmf 1 (t * t) 3 = t * t * (t * t) * (t * t) / 720 := by rw [tmf, m2]; simp; grind
  have p02 : parS 0 1 (t * t) 2 = 1 := by simp [parS, sumTo, tmf]; grind
  have p12 : parS 1 1 (t * t) 2 = t * t / 2 := by simp [parS, sumTo, m1]; grind
  have p03 : parS 0 1 (t * t) 3 = 1 + t * t * (t * t) / 24 := by simp [parS, sumTo, m1, m2]; simp [tmf]; grind
  have p13 : parS 1 1 (t * t) 3 = t * t / 2 := by simp [parS, sumTo, m1, m2]; grind
  have e1 := altS_enc (f := 1) (by omega) x0 x1 (K := 2) (r := t * t * (t * t) / 22) (by omega) (le_eq p02.symm) (le_eq p02) (le_eq p12.symm) (le_eq p12) (by rw [m2]; grind)
  have e2 := altS_enc (f := 1) (by omega) x0 x1 (K := 3) (r := t * t * (t * t) * (t * t) / 660) (by omega) (le_eq p03.symm) (le_eq p03) (le_eq p13.symm) (le_eq p13) (by rw [m3]; grind)
  rw [cos_seq] at h
  have u := h.meets e1
  have w := e2.meets h
  exact ⟨by grind, by grind⟩
end Go.Proofs.YtlpjmikpndllhaaGreatDoor

namespace Go.Proofs.YtlpjmikpndllhaaGreatDoor
open Go.RowKit
def xVIr (f : Vx → Int → Vx × Int) : Spec := specK [.v, .i .i64] fun (v : Vx) (w : Int) => (none, reT (f v w))
def xVVIv (f : Vx → Vx → Int → Vx) : Spec := specK [.v, .v, .i .i64] fun (v : Vx) (u : Vx) (p : Int) => (some (v.Sm 268435456 ∧ u.Sm 268435456 ∧ 0 ≤ p ∧ p ≤ 1099511627776), vT (f v u p))
def sCi (fS fC : Dx → Int → Vx × Int) (fR : Vx → Int → Vx × Int) (fT fP : Vx → Vx → Int → Vx) (fO : Dx → Dx → Int) (fI : Int → Dx) (fF : Dx → Bool) : List (FuncId × Spec) :=
  [(9, xDIr fS), (11, xDIr fC), (16, xVIr fR), (18, xVVIv fT), (17, xVVIv fP), (19, xDDi fO), (20, specK [.i .i64] fun (n : Int) => (some (inR n), dT (fI n))), (15, wFar fF), (13, wTrue)]
theorem lCir_vc (t : Dx) (p q : Int) (fS fC : Dx → Int → Vx × Int) (fR : Vx → Int → Vx × Int) (fT fP : Vx → Vx → Int → Vx) (fO : Dx → Dx → Int) (fI : Int → Dx) (fF : Dx → Bool) (Q : Tv → Prop) : execF ⟨tys4, sCi fS fC fR fT fP fO fI fF⟩ (fun _ => none) 0 Tryz.f4 [.agg (dyL false t), .one (.int .i64 p), .one (.int .i64 q)] Q = (br (neI (fR (fS t p).fst (fS t p).snd).snd (0 : Int)) (Q (bT true)) (br (neI (fR (fC t q).fst (fC t q).snd).snd (0 : Int)) (Q (bT true)) ((Vx.Sm (268435456 : Nat) (fR (fS t p).fst (fS t p).snd).fst ∧ Vx.Sm (268435456 : Nat) (fR (fS t p).fst (fS t p).snd).fst ∧ (0 : Int) ≤ (9000 : Int) ∧ (9000 : Int) ≤ (1099511627776 : Int)) ∧ (Vx.Sm (268435456 : Nat) (fR (fC t q).fst (fC t q).snd).fst ∧ Vx.Sm (268435456 : Nat) (fR (fC t q).fst (fC t q).snd).fst ∧ (0 : Int) ≤ (9000 : Int) ∧ (9000 : Int) ≤ (1099511627776 : Int)) ∧ (Vx.Sm (268435456 : Nat) (fT (fR (fS t p).fst (fS t p).snd).fst (fR (fS t p).fst (fS t p).snd).fst (9000 : Int)) ∧ Vx.Sm (268435456 : Nat) (fT (fR (fC t q).fst (fC t q).snd).fst (fR (fC t q).fst (fC t q).snd).fst (9000 : Int)) ∧ (0 : Int) ≤ (9000 : Int) ∧ (9000 : Int) ≤ (1099511627776 : Int)) ∧ true = true ∧ inR (1 : Int) ∧ (Dx.Sm (34359738368 : Nat) (fP (fT (fR (fS t p).fst (fS t p).snd).fst (fR (fS t p).fst (fS t p).snd).fst (9000 : Int)) (fT (fR (fC t q).fst (fC t q).snd).fst (fR (fC t q).fst (fC t q).snd).fst (9000 : Int)) (9000 : Int)).lo ∧ Dx.Sm (34359738368 : Nat) (fI (1 : Int))) ∧ br (leI (fO (fP (fT (fR (fS t p).fst (fS t p).snd).fst (fR (fS t p).fst (fS t p).snd).fst (9000 : Int)) (fT (fR (fC t q).fst (fC t q).snd).fst (fR (fC t q).fst (fC t q).snd).fst (9000 : Int)) (9000 : Int)).lo (fI (1 : Int))) (0 : Int)) (inR (1 : Int) ∧ (Dx.Sm (34359738368 : Nat) (fI (1 : Int)) ∧ Dx.Sm (34359738368 : Nat) (fP (fT (fR (fS t p).fst (fS t p).snd).fst (fR (fS t p).fst (fS t p).snd).fst (9000 : Int)) (fT (fR (fC t q).fst (fC t q).snd).fst (fR (fC t q).fst (fC t q).snd).fst (9000 : Int)) (9000 : Int)).hi) ∧ br (leI (fO (fI (1 : Int)) (fP (fT (fR (fS t p).fst (fS t p).snd).fst (fR (fS t p).fst (fS t p).snd).fst (9000 : Int)) (fT (fR (fC t q).fst (fC t q).snd).fst (fR (fC t q).fst (fC t q).snd).fst (9000 : Int)) (9000 : Int)).hi) (0 : Int)) (true = true ∧ Q (bT true)) (eB (2305843009213693952 : Int) t ∧ true = true ∧ Q (bT (fF t)))) (eB (2305843009213693952 : Int) t ∧ true = true ∧ Q (bT (fF t)))))) := by kernel_rfl
def xDDd (N : Nat) (f : Dx → Dx → Dx) : Spec := specK [.d, .d] fun (a : Dx) (b : Dx) => (some (a.Sm N ∧ b.Sm N), dT (f a b))
def sBd (fS fC : Dx → Int → Vx × Int) (fR : Vx → Int → Vx × Int) (fG : Dx → Int) (fF : Dx → Bool) (fT fL : Dx → Dx → Dx) (fI : Int → Dx) (fW : Dx → Int → Dx) (fO : Dx → Dx → Int) : List (FuncId × Spec) :=
  [(9, xDIr fS), (11, xDIr fC), (16, xVIr fR), (24, xDi fG), (15, wFar fF), (25, xDDd 68719476736 fT), (26, xDDd 34359738368 fL), (20, specK [.i .i64] fun (n : Int) => (some (inR n), dT (fI n))), (27, specK [.d, .i .i64] fun (d : Dx) (n : Int) => (some (eB 2305843009213693952 d ∧ -2305843009213693952 ≤ n ∧ n ≤ 2305843009213693952), dT (fW d n))), (19, xDDi fO), (13, wTrue)]
theorem lBnd_vc (t : Dx) (p : Int) (fS fC : Dx → Int → Vx × Int) (fR : Vx → Int → Vx × Int) (fG : Dx → Int) (fF : Dx → Bool) (fT fL : Dx → Dx → Dx) (fI : Int → Dx) (fW : Dx → Int → Dx) (fO : Dx → Dx → Int) (Q : Tv → Prop) : execF ⟨tys4, sBd fS fC fR fG fF fT fL fI fW fO⟩ (fun _ => none) 0 Tryz.f6 [.agg (dyL false t), .one (.int .i64 p)] Q = (br (neI (fR (fS t p).fst (fS t p).snd).snd (0 : Int)) (Q (bT true)) (br (neI (fR (fC t p).fst (fC t p).snd).snd (0 : Int)) (Q (bT true)) (br (leI (fG t) (0 : Int)) (Q (bT true)) (eB (2305843009213693952 : Int) t ∧ br (fF t) (Q (bT true)) ((Dx.Sm (68719476736 : Nat) t ∧ Dx.Sm (68719476736 : Nat) t) ∧ inR (6 : Int) ∧ (Dx.Sm (68719476736 : Nat) (fI (6 : Int)) ∧ Dx.Sm (68719476736 : Nat) (fR (fS t p).fst (fS t p).snd).fst.hi) ∧ true = true ∧ inR (6 : Int) ∧ (Dx.Sm (68719476736 : Nat) (fI (6 : Int)) ∧ Dx.Sm (68719476736 : Nat) t) ∧ (Dx.Sm (68719476736 : Nat) (fT t t) ∧ Dx.Sm (68719476736 : Nat) t) ∧ (Dx.Sm (34359738368 : Nat) (fT (fI (6 : Int)) t) ∧ Dx.Sm (34359738368 : Nat) (fT (fT t t) t)) ∧ true = true ∧ inR (1 : Int) ∧ (eB (2305843009213693952 : Int) (fT t t) ∧ (-2305843009213693952 : Int) ≤ (-1 : Int) ∧ (-1 : Int) ≤ (2305843009213693952 : Int)) ∧ (Dx.Sm (34359738368 : Nat) (fI (1 : Int)) ∧ Dx.Sm (34359738368 : Nat) (fW (fT t t) (-1 : Int))) ∧ true = true ∧ (Dx.Sm (34359738368 : Nat) (fR (fS t p).fst (fS t p).snd).fst.lo ∧ Dx.Sm (34359738368 : Nat) t) ∧ br (ltI (fO (fR (fS t p).fst (fS t p).snd).fst.lo t) (0 : Int)) ((Dx.Sm (34359738368 : Nat) (fL (fT (fI (6 : Int)) t) (fT (fT t t) t)) ∧ Dx.Sm (34359738368 : Nat) (fT (fI (6 : Int)) (fR (fS t p).fst (fS t p).snd).fst.hi)) ∧ br (ltI (fO (fL (fT (fI (6 : Int)) t) (fT (fT t t) t)) (fT (fI (6 : Int)) (fR (fS t p).fst (fS t p).snd).fst.hi)) (0 : Int)) (inR (1 : Int) ∧ (Dx.Sm (34359738368 : Nat) (fR (fC t p).fst (fC t p).snd).fst.lo ∧ Dx.Sm (34359738368 : Nat) (fI (1 : Int))) ∧ br (leI (fO (fR (fC t p).fst (fC t p).snd).fst.lo (fI (1 : Int))) (0 : Int)) ((Dx.Sm (34359738368 : Nat) (fL (fI (1 : Int)) (fW (fT t t) (-1 : Int))) ∧ Dx.Sm (34359738368 : Nat) (fR (fC t p).fst (fC t p).snd).fst.hi) ∧ true = true ∧ Q (bT (leI (fO (fL (fI (1 : Int)) (fW (fT t t) (-1 : Int))) (fR (fC t p).fst (fC t p).snd).fst.hi) (0 : Int)))) (true = true ∧ Q (bT false))) (true = true ∧ Q (bT false))) (true = true ∧ Q (bT false))))))) := by kernel_rfl
theorem plusV_sm {v u : Vx} {N : Nat} {p : Int} (hv : v.P) (hu : u.P) (sv : v.Sm N) (su : u.Sm N) (hp : 0 ≤ p) : (plusV v u p).Sm (48 * N + 7) :=
  (trimV_sm (N := 8 * N + 1) ⟨plusD_p, plusD_p⟩ ⟨plusD_sm hv.1 hu.1 sv.1 su.1, plusD_sm hv.2 hu.2 sv.2 su.2⟩ hp).mono (by omega)
def lCir : Spec := specK [.d, .i .i64, .i .i64] fun (_ : Dx) (_ : Int) (_ : Int) => (none, bT true)
theorem sCi_ok : SpecsOk Tryz.prog (sCi sinR cosR sndR timesV plusV cmpD (fun n => mkS n 0) farD) := ⟨rSin_ok, rCos_ok, lSnd_ok, gTimes_ok, gPlus_ok, fOrder_ok, fInt_ok, lFar_ok, lLive_ok, trivial⟩
theorem lCir_ok : SpecOk Tryz.prog 4 lCir :=
  specK_ok (envOk tys4_ok sCi_ok) mixed Tryz.func4 rfl (by decide) (by decide) fun (t : Dx) wt (p : Int) _ (q : Int) _ _ => ⟨fun _ => none, 0, by
    have ht := Dx.Wf.m0 wt
    show execF _ _ _ _ _ (fun t => t = bT true)
    refine (lCir_vc t p q sinR cosR sndR timesV plusV cmpD (fun n => mkS n 0) farD _).mpr (br_intro (fun _ => rfl) fun h1 => br_intro (fun _ => rfl) fun h2 => ?_)
    obtain ⟨hf, A⟩ := snd_sin ht (neI_false.1 h1)
    obtain ⟨_, B⟩ := snd_cos ht (neI_false.1 h2)
    have C := circle_ok A B
    have sa := A.sm
    have sb := B.sm
    generalize (sndR (sinR t p).1 (sinR t p).2).1 = v at A C sa ⊢
    generalize (sndR (cosR t q).1 (cosR t q).2).1 = u at B C sb ⊢
    have s1 := timesV_sm (p := 9000) A.p A.p sa sa (by omega)
    have s2 := timesV_sm (p := 9000) B.p B.p sb sb (by omega)
    have s3 := plusV_sm (p := 9000) (trimV_p (prodV v v) 9000) (trimV_p (prodV u u) 9000) s1 s2 (by omega)
    have r : (mkS 1 0).rv = 1 := rv_int 1
    have o := (mkS_sm6 (n := 1) (by omega)).mono (show 5 ≤ 34359738368 by omega)
    have e1 : leI (cmpD (plusV (timesV v v 9000) (timesV u u 9000) 9000).lo (mkS 1 0)) 0 = true := leI_true.2 (cmpD_le.2 (by rw [r]; exact C.1))
    have e2 : leI (cmpD (mkS 1 0) (plusV (timesV v v 9000) (timesV u u 9000) 9000).hi) 0 = true := leI_true.2 (cmpD_le.2 (by rw [r]; exact C.2))
    rw [e1, e2]
    exact ⟨⟨sa.mono (by omega), sa.mono (by omega), by omega, by omega⟩, ⟨sb.mono (by omega), sb.mono (by omega), by omega, by omega⟩, ⟨s1.mono (by omega), s2.mono (by omega), by omega, by omega⟩, rfl, by unfold inR; omega,
      ⟨s3.1.mono (by omega), o⟩, by unfold inR; omega, ⟨o, s3.2.mono (by omega)⟩, rfl, rfl⟩⟩
def lBnd : Spec := specK [.d, .i .i64] fun (_ : Dx) (_ : Int) => (none, bT true)
theorem sBd_ok : SpecsOk Tryz.prog (sBd sinR cosR sndR Dx.sgn farD timesD lessD (fun n => mkS n 0) shiftD cmpD) := ⟨rSin_ok, rCos_ok, lSnd_ok, fSign_ok, lFar_ok, fTimes_ok, fLess_ok, fInt_ok, fTwice_ok, fOrder_ok, lLive_ok, trivial⟩
theorem lBnd_ok : SpecOk Tryz.prog 6 lBnd :=
  specK_ok (envOk tys4_ok sBd_ok) mixed Tryz.func6 rfl (by decide) (by decide) fun (t : Dx) wt (p : Int) _ _ => ⟨fun _ => none, 0, by
    have ht := Dx.Wf.m0 wt
    show execF _ _ _ _ _ (fun t => t = bT true)
    refine (lBnd_vc t p sinR cosR sndR Dx.sgn farD timesD lessD (fun n => mkS n 0) shiftD cmpD _).mpr (br_intro (fun _ => rfl) fun h1 => br_intro (fun _ => rfl) fun h2 => br_intro (fun _ => rfl) fun h3 => ?_)
    obtain ⟨hf, A⟩ := snd_sin ht (neI_false.1 h1)
    obtain ⟨_, B⟩ := snd_cos ht (neI_false.1 h2)
    refine ⟨fault_eB ht hf, br_intro (fun _ => rfl) fun _ => ?_⟩
    obtain ⟨f1, f2, f3, f4⟩ := fault0 ht hf
    have st := fits_sm f1
    have t0 : 0 < t.rv := by
      have h3 := leI_false.1 h3
      rcases sgn_rv ht with ⟨a, _⟩ | ⟨_, b⟩ | ⟨a, _⟩
      · omega
      · exact b
      · omega
    have X := sinS_bd t0 f4.1 A.enc
    have Y := cosS_bd f4.2 f4.1 B.enc
    have sa := A.sm
    have sb := B.sm
    generalize (sndR (sinR t p).1 (sinR t p).2).1 = v at A X sa ⊢
    generalize (sndR (cosR t p).1 (cosR t p).2).1 = u at B Y sb ⊢
    have r1 : (mkS 1 0).rv = 1 := rv_int 1
    have r6 : (mkS 6 0).rv = 6 := rv_int 6
    have o1 := mkS_sm6 (n := 1) (by omega)
    have o6 := mkS_sm6 (n := 6) (by omega)
    have q1 : (timesD t t).rv = t.rv * t.rv := rv_times ht ht
    have q2 : (timesD (timesD t t) t).rv = t.rv * t.rv * t.rv := by rw [rv_times timesD_p ht, q1]
    have q3 : (timesD (mkS 6 0) t).rv = 6 * t.rv := by rw [rv_times mkS_p ht, r6]
    have q4 : (lessD (timesD (mkS 6 0) t) (timesD (timesD t t) t)).rv = 6 * t.rv - t.rv * t.rv * t.rv := by rw [rv_less timesD_p timesD_p, q3, q2]
    have q5 : (timesD (mkS 6 0) v.hi).rv = 6 * v.hi.rv := by rw [rv_times mkS_p A.p.2, r6]
    have q6 : (lessD (mkS 1 0) (shiftD (timesD t t) (-1))).rv = 1 - t.rv * t.rv / 2 := by
      rw [rv_less mkS_p shiftD_p, r1, rv_shift timesD_p, q1]
      have := p2_half (-1)
      rw [show (-1 + 1 : Int) = 0 by omega, p2_zero] at this
      grind
    have z1 := timesD_sm ht ht st st
    have z2 := timesD_sm timesD_p ht z1 st
    have z3 := timesD_sm (a := mkS 6 0) mkS_p ht (o6.mono (show 5 ≤ 65536 by omega)) st
    have z4 := timesD_sm (a := mkS 6 0) mkS_p A.p.2 (o6.mono (show 5 ≤ 65536 by omega)) sa.2
    have z5 := lessD_sm (x := timesD (mkS 6 0) t) (y := timesD (timesD t t) t) (N := 1048576) timesD_p timesD_p (z3.mono (by omega)) (z2.mono (by omega))
    have z6 := shiftD_sm (n := -1) (M := 1) timesD_p z1 (by omega) (by omega)
    have z7 := lessD_sm (x := mkS 1 0) (y := shiftD (timesD t t) (-1)) (N := 1048576) mkS_p shiftD_p (o1.mono (by omega)) (z6.mono (by omega))
    have e1 : ltI (cmpD v.lo t) 0 = true := ltI_true.2 (cmpD_lt0.2 X.1)
    have e2 : ltI (cmpD (lessD (timesD (mkS 6 0) t) (timesD (timesD t t) t)) (timesD (mkS 6 0) v.hi)) 0 = true := ltI_true.2 (cmpD_lt0.2 (by rw [q4, q5]; exact X.2))
    have e3 : leI (cmpD u.lo (mkS 1 0)) 0 = true := leI_true.2 (cmpD_le.2 (by rw [r1]; exact Y.1))
    have e4 : leI (cmpD (lessD (mkS 1 0) (shiftD (timesD t t) (-1))) u.hi) 0 = true := leI_true.2 (cmpD_le.2 (by rw [q6]; exact Y.2))
    rw [e1, e2, e3, e4]
    exact ⟨⟨st.mono (by omega), st.mono (by omega)⟩, by unfold inR; omega, ⟨o6.mono (by omega), sa.2.mono (by omega)⟩, rfl, by unfold inR; omega, ⟨o6.mono (by omega), st.mono (by omega)⟩, ⟨z1.mono (by omega), st.mono (by omega)⟩, ⟨z3.mono (by omega), z2.mono (by omega)⟩, rfl, by unfold inR; omega,
      ⟨z1.eB (by omega), by omega, by omega⟩, ⟨o1.mono (by omega), z6.mono (by omega)⟩, rfl, ⟨sa.1.mono (by omega), st.mono (by omega)⟩, ⟨z5.mono (by omega), z4.mono (by omega)⟩, by unfold inR; omega, ⟨sb.1.mono (by omega), o1.mono (by omega)⟩, ⟨z7.mono (by omega), sb.2.mono (by omega)⟩, rfl, rfl⟩⟩
end Go.Proofs.YtlpjmikpndllhaaGreatDoor

namespace Go.Proofs.YtlpjmikpndllhaaGreatDoor
open Go.RowKit
def wrI (n : Int) : Int := IntKind.i64.wrap n
def mkW (neg : Bool) (m e : Int) : Dx := if m = 0 then ⟨false, [], 0⟩ else ⟨neg, ws (m / 2 ^ tz m), wrI (e + tz m)⟩
theorem mkW_eq {neg : Bool} {m e : Int} (h0 : -4611686018427387904 ≤ e) (h1 : e ≤ 4611686018427387904) (ht : tz m ≤ 1125899906842560) : mkW neg m e = mkD neg m e := by
  unfold mkW mkD wrI
  rw [wrap_i64 ⟨by omega, by omega⟩]
def fFormW : Spec := specK [.b, .w, .i .i64] fun (neg : Bool) (xs : List Int) (e : Int) => (none, dT (mkW neg (val xs) e))
def tysW : List TyRow := tyD :: tys
theorem tysW_ok : RowsOk Tryz.prog tysW := ⟨by kernel_rfl, tys_ok⟩
theorem fFormW_vc (neg : Bool) (xs : List Int) (e : Int) (Q : Tv → Prop) : execF ⟨tysW, sRef3⟩ (fun _ => none) 0 Tryz.f53 [.one (.bool neg), .one (.words false xs), .one (.int .i64 e)] Q = (br (eqI (↑(List.length (ws (val xs))) : Int) (0 : Int)) (Q (Tv.sv (Sv.agg [At.bool false, At.words true [], At.int .i64 0]))) (((0 : Int) ≤ (↑(tz (val (ws (val xs)))) : Int) ∧ (↑(tz (val (ws (val xs)))) : Int) ≤ (9007199254740992 : Int)) ∧ Q (Tv.sv (Sv.agg [At.bool neg, At.words true (ws (val (ws (val xs)) / (2 : Int) ^ Int.toNat (↑(tz (val (ws (val xs)))) : Int))), At.int .i64 (IntKind.wrap IntKind.i64 (e + (↑(tz (val (ws (val xs)))) : Int)))])))) := by kernel_rfl
theorem fFormW_ok : SpecOk Tryz.prog 53 fFormW :=
  specK_ok (envOk tysW_ok sRef3_ok) mixed Tryz.func53 rfl (by decide) (by decide) fun neg _ xs hxs (e : Int) _ _ => ⟨fun _ => none, 0, by
    have hv := WfW.val0 hxs
    have ht := tz_small hxs.1 hxs.2
    refine (fFormW_vc neg xs e _).mpr (br_intro (fun h => ?_) (fun h => ?_))
    · rw [len_zero hv, decide_eq_true_eq] at h
      show _ = dT (mkW neg (val xs) e)
      rw [mkW, if_pos h]
      rfl
    · rw [len_zero hv, decide_eq_false_iff_not] at h
      rw [val_ws hv]
      refine ⟨⟨by omega, by omega⟩, ?_⟩
      show _ = dT (mkW neg (val xs) e)
      rw [mkW, if_neg h, Int.toNat_natCast]
      rfl⟩
def sFW (fG : Bool → List Int → Int → Dx) : List (FuncId × Spec) := [(53, specK [.b, .w, .i .i64] fun (neg : Bool) (xs : List Int) (e : Int) => (none, dT (fG neg xs e)))]
theorem sFW_ok : SpecsOk Tryz.prog (sFW fun neg xs e => mkW neg (val xs) e) := ⟨fFormW_ok, trivial⟩
def negW (d : Dx) : Dx := mkW (!d.neg) d.m d.e
def fNegW : Spec := specK [.d] fun (d : Dx) => (none, dT (negW d))
theorem fNegW_vc (d : Dx) (fG : Bool → List Int → Int → Dx) (Q : Tv → Prop) : execF ⟨tys, sFW fG⟩ (fun _ => none) 0 Tryz.f21 [.agg (dyL false d)] Q = (Q (Tv.sv (Sv.agg (dyL true (fG (!d.neg) d.xs d.e))))) := by kernel_rfl
theorem fNegW_ok : SpecOk Tryz.prog 21 fNegW :=
  specK_ok (envOk tys_ok sFW_ok) mixed Tryz.func21 rfl (by decide) (by decide) fun (d : Dx) _ _ => ⟨fun _ => none, 0, (fNegW_vc d (fun neg xs e => mkW neg (val xs) e) _).mpr rfl⟩
theorem negW_fits {d : Dx} (w : d.Wf) (h : d.fitsB = true) : negW d = negD d := by
  have := fits_e h
  exact mkW_eq (by omega) (by omega) (tz_small w.1 w.2)
def sMi (fS fC : Dx → Int → Vx × Int) (fR : Vx → Int → Vx × Int) (fN : Dx → Dx) (fU : Vx → Vx) (fM : Vx → Vx → Bool) : List (FuncId × Spec) :=
  [(9, xDIr fS), (11, xDIr fC), (16, xVIr fR), (21, specK [.d] fun (d : Dx) => (none, dT (fN d))), (23, specK [.v] fun (v : Vx) => (some (eB 4611686018427387904 v.lo ∧ eB 4611686018427387904 v.hi), vT (fU v))), (22, xVVb fM), (13, wTrue)]
theorem lMir_vc (t : Dx) (p q : Int) (fS fC : Dx → Int → Vx × Int) (fR : Vx → Int → Vx × Int) (fN : Dx → Dx) (fU : Vx → Vx) (fM : Vx → Vx → Bool) (Q : Tv → Prop) : execF ⟨tys4, sMi fS fC fR fN fU fM⟩ (fun _ => none) 0 Tryz.f5 [.agg (dyL false t), .one (.int .i64 p), .one (.int .i64 q)] Q = (br (neI (fR (fS t p).fst (fS t p).snd).snd (0 : Int)) (Q (bT true)) (br (neI (fR (fS (fN t) q).fst (fS (fN t) q).snd).snd (0 : Int)) (Q (bT true)) (br (neI (fR (fC t p).fst (fC t p).snd).snd (0 : Int)) (Q (bT true)) (br (neI (fR (fC (fN t) q).fst (fC (fN t) q).snd).snd (0 : Int)) (Q (bT true)) ((eB (4611686018427387904 : Int) (fR (fS (fN t) q).fst (fS (fN t) q).snd).fst.lo ∧ eB (4611686018427387904 : Int) (fR (fS (fN t) q).fst (fS (fN t) q).snd).fst.hi) ∧ br (fM (fR (fS t p).fst (fS t p).snd).fst (fU (fR (fS (fN t) q).fst (fS (fN t) q).snd).fst)) (true = true ∧ Q (bT (fM (fR (fC t p).fst (fC t p).snd).fst (fR (fC (fN t) q).fst (fC (fN t) q).snd).fst))) (true = true ∧ Q (bT false))))))) := by kernel_rfl
def lMir : Spec := specK [.d, .i .i64, .i .i64] fun (_ : Dx) (_ : Int) (_ : Int) => (none, bT true)
theorem sMi_ok : SpecsOk Tryz.prog (sMi sinR cosR sndR negW turnV meetsV) := ⟨rSin_ok, rCos_ok, lSnd_ok, fNegW_ok, gNeg_ok, gMeets_ok, lLive_ok, trivial⟩
theorem lMir_ok : SpecOk Tryz.prog 5 lMir :=
  specK_ok (envOk tys4_ok sMi_ok) mixed Tryz.func5 rfl (by decide) (by decide) fun (t : Dx) wt (p : Int) _ (q : Int) _ _ => ⟨fun _ => none, 0, by
    have ht := Dx.Wf.m0 wt
    show execF _ _ _ _ _ (fun t => t = bT true)
    refine (lMir_vc t p q sinR cosR sndR negW turnV meetsV _).mpr (br_intro (fun _ => rfl) fun h1 => ?_)
    obtain ⟨hf, A⟩ := snd_sin ht (neI_false.1 h1)
    rw [negW_fits wt (fault0 ht hf).1]
    refine br_intro (fun _ => rfl) fun h2 => br_intro (fun _ => rfl) fun h3 => br_intro (fun _ => rfl) fun h4 => ?_
    obtain ⟨_, B⟩ := snd_sin negD_p (neI_false.1 h2)
    obtain ⟨_, C⟩ := snd_cos ht (neI_false.1 h3)
    obtain ⟨_, D⟩ := snd_cos negD_p (neI_false.1 h4)
    have M1 := mirror_sin ht A B snd_sin_f
    have M2 := mirror_cos ht C D
    rw [M1, M2]
    have s := B.sm
    exact ⟨⟨s.1.eB (by omega), s.2.eB (by omega)⟩, rfl, rfl⟩⟩
end Go.Proofs.YtlpjmikpndllhaaGreatDoor

namespace Go.Proofs.YtlpjmikpndllhaaGreatDoor
open Go.RowKit Go.ChangeShapes Go.WideShapes Go.Deep
set_option maxRecDepth 100000
def C0 (W : World) : Base := ⟨W.heap.size, fun _ => False⟩
section
variable {H : Type} {enc : TypeId × Value → H} {W : World} {base fuel : Nat} {s : Value} {x : DataW H × List MemPlace}
theorem open_words (hv : Cell.okWide Tryz.prog W .any base 23 s) (h : DataW.trod enc Tryz.prog W 0 (fun _ => true) true fuel 23 [s] = some x)
    (hw : (x.1.weights Tryz.prog 23).all (· ≤ reachBytes) = true) (hlt : ∀ p ∈ x.2, p.block < W.heap.size) : ∃ xs, Rep (C0 W) noBox W s (.words false xs) := by
  rcases open_ints Tryz.underlying23 Tryz.underlying66 (by kernel_rfl) h with ⟨e, rfl⟩ | ⟨a, len, cap, zs, e, _, hl, hm, hz, rfl, hc, hwf⟩
  · cases e
    exact ⟨[], .words ⟨none, 0, rfl, Nat.le_refl _, ⟨by omega, by simp⟩, Words.nil, fun _ => rfl, fun h => absurd h (by simp)⟩⟩
  · cases e
    rw [if_pos rfl] at hz
    obtain ⟨_, _, _, hspot, _⟩ : len ≤ cap ∧ (cap : Int) ≤ IntKind.i64.max ∧ W.has Tryz.prog .any base a 66 cap := by
      simpa [Cell.okWide, Cell.ok, Tryz.underlying23] using hv
    obtain ⟨g, o, spot⟩ := a
    simp only at hspot; subst hspot
    have hb8 : Tryz.prog.bytesOf 66 = 8 := by kernel_rfl
    have hwt : (len + (cap - len)) * 8 ≤ reachBytes := by
      simp only [DataW.weights, Tryz.underlying23, List.all_cons, Bool.and_eq_true, decide_eq_true_eq, lits, List.length_map, List.length_take, List.length_drop, hz, hb8] at hw
      have := hw.1
      rwa [Nat.min_eq_left hl] at this
    have hr : reachBytes = 140737488351232 := rfl
    rw [hr] at hwt
    have hwords : Words zs := fun n hn => by
      have := hwf n hn
      simp only [Lit.wf, Bool.and_eq_true, decide_eq_true_eq] at this
      have h1 : IntKind.u64.min = 0 := rfl
      have h2 : IntKind.u64.max = 18446744073709551615 := rfl
      rw [h1, h2] at this
      exact ⟨by omega, by omega⟩
    have hlen : (zs.take len).length = len := by rw [List.length_take]; omega
    refine ⟨zs.take len, .words ⟨_, cap, by rw [hlen], by omega, ⟨by simp [maxLen] at hm; omega, by omega⟩, hwords.take _, by simp, fun hp => ⟨g, o, rfl, ⟨⟨by simp [noBox], fun hx => hx.elim⟩, by simp⟩, ?_, fun j hj => ?_⟩⟩⟩
    · exact World.block_lt_of_cell? W _ (hc 0 (by omega))
    · have hj : j < len := by omega
      have := hc j (by omega)
      rw [nth_take hj]
      rw [show (⟨g, o, none⟩ : Addr).add j = ⟨g, o + j, none⟩ from by simp [Addr.add]] at this
      exact this
theorem open_dy {cs : List Value} (hok : ∀ c, cs[1]? = some c → Cell.okWide Tryz.prog W .any base 23 c) (h : DataW.trod enc Tryz.prog W 0 (fun _ => true) true fuel 25 cs = some x)
    (hw : (x.1.weights Tryz.prog 25).all (· ≤ reachBytes) = true) (hlt : ∀ p ∈ x.2, p.block < W.heap.size) : ∃ d : Dx, RepL (C0 W) noBox W cs (dyL false d) := by
  obtain ⟨y0, y1, y2, n, rfl, hl, h0, h1, h2⟩ := trod_struct3 Tryz.underlying25 h
  rw [show Tryz.prog.cellsOf 25 = 3 by kernel_rfl] at hl
  match cs, hl with
  | [c0, c1, c2], _ =>
    obtain ⟨b, e0, rfl⟩ := DataW.trod_bool Tryz.underlying4 h0
    obtain ⟨k, e2, rfl, hk⟩ := DataW.trod_int Tryz.underlying3 h2
    rw [show Tryz.prog.cellsOf 4 = 1 by kernel_rfl] at e0
    rw [show Tryz.prog.cellsOf 3 = 1 by kernel_rfl] at e2
    simp at e0 e2
    subst e0; subst e2
    simp only [show Tryz.prog.cellsOf 23 = 1 by kernel_rfl] at h1
    simp only [DataW.weights, Tryz.underlying25, DataW.weightsEach, List.map_cons, List.map_nil, List.all_append, Bool.and_eq_true] at hw
    obtain ⟨xs, hxs⟩ := open_words (hok c1 rfl) (by simpa using h1) hw.2.1 (fun p hp => hlt p (by simp [hp]))
    exact ⟨⟨b, xs, k⟩, Rep.bool b, hxs, Rep.int _ k, trivial⟩
theorem arg_d {v : Value} {d : DataW H} {ps : List MemPlace} (hv : Value.okWide Tryz.prog W .any base 25 v) (h : DataW.Trod enc Tryz.prog W 0 (fun _ => true) true 25 v d ps)
    (hw : (d.weights Tryz.prog 25).all (· ≤ reachBytes) = true) (hlt : ∀ p ∈ ps, p.block < W.heap.size) : ∃ x : Dx, RepS (C0 W) noBox W v (.agg (dyL false x)) := by
  simp only [Value.okWide, Tryz.underlying25] at hv
  obtain ⟨cs, rfl, hsz, ts, hts, _, hrow⟩ := hv
  rw [show Tryz.prog.cellTypes Tryz.prog.depth 25 = some [4, 23, 3] by kernel_rfl] at hts
  cases hts
  obtain ⟨fuel, h⟩ := h
  obtain ⟨x, hx⟩ := open_dy (x := (d, ps)) (base := base) (fun c hc => by
    obtain ⟨u, hu, hok⟩ := hrow 1 c (by rw [← Array.getElem?_toList]; exact hc)
    cases hu; exact hok) h hw hlt
  exact ⟨x, cs.toList, rfl, hx⟩
theorem arg_v {v : Value} {d : DataW H} {ps : List MemPlace} (hv : Value.okWide Tryz.prog W .any base 27 v) (h : DataW.Trod enc Tryz.prog W 0 (fun _ => true) true 27 v d ps)
    (hw : (d.weights Tryz.prog 27).all (· ≤ reachBytes) = true) (hlt : ∀ p ∈ ps, p.block < W.heap.size) : ∃ x : Vx, RepS (C0 W) noBox W v (.agg (ivL false x)) := by
  simp only [Value.okWide, Tryz.underlying27] at hv
  obtain ⟨cs, rfl, hsz, ts, hts, _, hrow⟩ := hv
  rw [show Tryz.prog.cellTypes Tryz.prog.depth 27 = some [4, 23, 3, 4, 23, 3] by kernel_rfl] at hts
  cases hts
  rw [show Tryz.prog.cellsOf 27 = 6 by kernel_rfl] at hsz
  obtain ⟨fuel, h⟩ := h
  obtain ⟨cs⟩ := cs
  match cs, hsz with
  | [c0, c1, c2, c3, c4, c5], _ =>
    obtain ⟨y0, y1, n, e, _, h0, h1⟩ := trod_struct2 Tryz.underlying27 h
    cases e
    simp only [show Tryz.prog.cellsOf 25 = 3 by kernel_rfl] at h0 h1
    simp only [DataW.weights, Tryz.underlying27, DataW.weightsEach, List.map_cons, List.map_nil, List.all_append, Bool.and_eq_true] at hw
    obtain ⟨x, hx⟩ := open_dy (cs := [c0, c1, c2]) (base := base) (fun c hc => by
      obtain ⟨u, hu, hok⟩ := hrow 1 c hc
      cases hu; exact hok) h0 hw.1 (fun p hp => hlt p (by simp [hp]))
    obtain ⟨y, hy⟩ := open_dy (cs := [c3, c4, c5]) (base := base) (fun c hc => by
      obtain ⟨u, hu, hok⟩ := hrow 4 c hc
      cases hu; exact hok) h1 hw.2.1 (fun p hp => hlt p (by simp [hp]))
    obtain ⟨a1, a2, a3, _⟩ := hx
    obtain ⟨b1, b2, b3, _⟩ := hy
    exact ⟨⟨x, y⟩, [c0, c1, c2, c3, c4, c5], rfl, a1, a2, a3, b1, b2, b3, trivial⟩
/-- A kind of argument and its type. -/
def Kd : Ak → TypeId → Prop
  | .b, t => t = 4
  | .i q, t => Tryz.prog.underlying t = some (.int q)
  | .w, _ => False
  | .fx, _ => False
  | .d, t => t = 25
  | .v, t => t = 27
def Kds : List Ak → List TypeId → Prop
  | [], [] => True
  | k :: ks, t :: ts => Kd k t ∧ Kds ks ts
  | _, _ => False
/-- A number that its kind can hold. -/
def okArg : (k : Ak) → k.T → Prop
  | .i q, n => q.min ≤ n ∧ n ≤ q.max
  | _, _ => True
theorem arg_k {k : Ak} {t : TypeId} (hk : Kd k t) {v : Value} {d : DataW H} {ps : List MemPlace} (hv : Value.okWide Tryz.prog W .any base t v) (h : DataW.Trod enc Tryz.prog W 0 (fun _ => true) true t v d ps)
    (hw : (d.weights Tryz.prog t).all (· ≤ reachBytes) = true) (hlt : ∀ p ∈ ps, p.block < W.heap.size) : ∃ x : k.T, RepS (C0 W) noBox W v (k.enc x) ∧ okArg k x := by
  cases k with
  | b =>
    obtain rfl : t = 4 := hk
    obtain ⟨b, rfl⟩ := okWide_bool Tryz.underlying4 hv
    exact ⟨b, Rep.bool b, trivial⟩
  | i q =>
    obtain ⟨n, rfl⟩ := okWide_int hk hv
    refine ⟨n, Rep.int q n, (show q.min ≤ n ∧ n ≤ q.max from ?_)⟩
    have hk : Tryz.prog.underlying t = some (.int q) := hk
    simpa [Value.okWide, Cell.okWide, Cell.ok, hk, IntKind.has] using hv
  | w => exact hk.elim
  | fx => exact hk.elim
  | d =>
    obtain rfl : t = 25 := hk
    obtain ⟨x, hx⟩ := arg_d hv h hw hlt; exact ⟨x, hx, trivial⟩
  | v =>
    obtain rfl : t = 27 := hk
    obtain ⟨x, hx⟩ := arg_v hv h hw hlt; exact ⟨x, hx, trivial⟩
theorem dec_enc (k : Ak) (x : k.T) : k.dec (k.enc x) = some x := by
  cases k with
  | i q => cases q <;> rfl
  | _ => rfl
/-- Whatever the arguments, the answer is true. -/
def AllTrue : (ks : List Ak) → AFun ks → Prop
  | [], g => (match g.1 with | none => True | some p => p) ∧ g.2 = .sv (.one (.bool true))
  | k :: ks, g => ∀ x : k.T, okArg k x → AllTrue ks (g x)
theorem args_ok : ∀ {ks : List Ak} {ts : List TypeId} {vs : List Value} {ds : List (DataW H)} {ps : List MemPlace}, Kds ks ts → (∀ (j : Nat) t v, ts[j]? = some t → vs[j]? = some v → Value.okWide Tryz.prog W .any base t v) →
    DataW.TrodAll enc Tryz.prog W 0 (fun _ => true) true ts vs ds ps → (DataW.weightsEach Tryz.prog ts ds).all (· ≤ reachBytes) = true → (∀ p ∈ ps, p.block < W.heap.size) →
    ∃ l, RepSs (C0 W) noBox W vs l ∧ ∀ g, AllTrue ks g → (match (specK ks g l).1 with | none => True | some p => p) ∧ (specK ks g l).2 = .sv (.one (.bool true))
  | [], [], vs, ds, ps, _, _, h, _, _ => by
    obtain ⟨rfl, rfl, rfl⟩ := trodAll_nil h
    exact ⟨[], trivial, fun g hg => hg⟩
  | [], _ :: _, _, _, _, hk, _, _, _, _ => hk.elim
  | _ :: _, [], _, _, _, hk, _, _, _, _ => hk.elim
  | k :: ks, t :: ts, vs, ds, ps, hk, hv, h, hw, hlt => by
    obtain ⟨v, vs1, d, ds1, a, b, rfl, rfl, rfl, h1, h2⟩ := trodAll_cons h
    simp only [DataW.weightsEach, List.all_append, Bool.and_eq_true] at hw
    obtain ⟨x, hx, hox⟩ := arg_k hk.1 (hv 0 t v rfl rfl) h1 hw.1 (fun p hp => hlt p (by simp [hp]))
    obtain ⟨l, hl, hs⟩ := args_ok hk.2 (fun j t v ht hv' => hv (j + 1) t v ht hv') h2 hw.2 (fun p hp => hlt p (by simp [hp]))
    refine ⟨k.enc x :: l, ⟨hx, hl⟩, fun g hg => ?_⟩
    have e : specK (k :: ks) g (k.enc x :: l) = (match k.dec (k.enc x) with | some x => specK ks (g x) l | none => noSpec) := rfl
    rw [e, dec_enc]
    exact hs (g x) (hg x hox)
theorem law_calls {f : FuncId} {ks : List Ak} {g : AFun ks} (hs : SpecOk Tryz.prog f (specK ks g)) (hg : AllTrue ks g) {ts : List TypeId} {args : Array Value} {ds : List (DataW H)} {ps : List MemPlace} (hT : Tab W) (hk : Kds ks ts)
    (hv : ∀ (j : Nat) t v, ts[j]? = some t → args.toList[j]? = some v → Value.okWide Tryz.prog W .any base t v) (h : DataW.TrodAll enc Tryz.prog W 0 (fun _ => true) true ts args.toList ds ps)
    (hw : (DataW.weightsEach Tryz.prog ts ds).all (· ≤ reachBytes) = true) (hlt : ∀ p ∈ ps, p.block < W.heap.size) :
    Calls Tryz.prog f args W fun e W' => e = .returned (.bool true) ∧ Below W.heap.size W W' := by
  obtain ⟨l, hl, hsp⟩ := args_ok hk hv h hw hlt
  have := hs.2 (C0 W) W args.toList l rfl (fun g hg => hg.elim) hT hl (hsp g hg).1
  rw [(hsp g hg).2] at this
  refine this.mono ?_
  rintro e w' ⟨v, rfl, hr, hb⟩
  obtain rfl := rep_bool (A := noBox) hr
  exact ⟨rfl, hb⟩
theorem trodAll_below {W' : World} (hb : Below W.heap.size W W') (hl : laidOutB Tryz.prog = true) : ∀ {ts : List TypeId} {vs : List Value} {ds : List (DataW H)} {ps : List MemPlace}, (∀ t ∈ ts, Tryz.prog.readableRec t = true ∧ t < Tryz.prog.types.size) →
    DataW.TrodAll enc Tryz.prog W 0 (fun _ => true) true ts vs ds ps → (∀ p ∈ ps, p.block < W.heap.size) → DataW.TrodAll enc Tryz.prog W' 0 (fun b => decide (b < W.heap.size)) true ts vs ds ps
  | [], vs, ds, ps, _, h, _ => by
    obtain ⟨rfl, rfl, rfl⟩ := trodAll_nil h
    exact trodAll_mk0
  | t :: ts, vs, ds, ps, ht, h, hlt => by
    obtain ⟨v, vs1, d, ds1, a, b, rfl, rfl, rfl, h1, h2⟩ := trodAll_cons h
    exact ⟨a, b, Below.trod hl (ht t (by simp)).1 (ht t (by simp)).2 h1 hb (fun p hp => hlt p (by simp [hp])), trodAll_below hb hl (fun t h => ht t (by simp [h])) h2 (fun p hp => hlt p (by simp [hp])), rfl⟩
/-- What a law's call leaves, as its row asks. -/
theorem law_post {fn : Func} {s : ChangeSpec} (hl : laidOutB Tryz.prog = true) (hres : fn.resultTypes = #[4]) (hvars : s.vars = []) (ht : ∀ t ∈ fn.params.toList, Tryz.prog.readableRec t = true ∧ t < Tryz.prog.types.size)
    {args : Array Value} {ds gs : List (DataW H)} {before : List MemPlace} (hspec : s.fn H (ds ++ gs) = { results := [.lit (.bool true)], args := ds })
    (hW : DataW.Whole enc Tryz.prog fn.params.toList s.vars false W args.toList ds gs before) {W' : World} (hb : Below W.heap.size W W') :
    s.post enc Tryz.prog fn false true false false W args (.bool true) W' := by
  have hlt := hW.lt
  have hW' := hW
  obtain ⟨p, q, hA, hV, rfl, hfz, hnd⟩ := hW
  rw [hvars] at hV
  obtain ⟨rfl, rfl⟩ := trodVars_none hV
  refine ⟨ds, [], _, [], p, [], hW', ?_, ?_, ?_, hb.frame _, fun h => by cases h⟩
  · rw [hspec, hres]
    exact trodAll_mk1 (shut_bool Tryz.underlying4 _)
  · rw [hspec]
    exact trodAll_below hb hl ht hA (fun x hx => hlt x (by simp [hx]))
  · rw [hspec, hvars]; rfl
end
theorem law_contract {H : Type} {enc : TypeId × Value → H} {f : FuncId} {fn : Func} {ks : List Ak} {g : AFun ks} {s : ChangeSpec} (hs : SpecOk Tryz.prog f (specK ks g)) (hg : AllTrue ks g) (hl : laidOutB Tryz.prog = true) (hres : fn.resultTypes = #[4]) (hvars : s.vars = [])
    (hvt : s.plain.varTypes Tryz.prog = []) (ht : ∀ t ∈ fn.params.toList, Tryz.prog.readableRec t = true ∧ t < Tryz.prog.types.size) (hk : Kds ks fn.params.toList) (hspec : ∀ ds : List (DataW H), ds.length = fn.params.toList.length → s.fn H ds = { results := [.lit (.bool true)], args := ds })
    {W : World} {base : Nat} {args : Array Value} {ds gs : List (DataW H)} {before : List MemPlace} (hval : ∀ (j : Nat) t v, fn.params[j]? = some t → args[j]? = some v → Value.okWide Tryz.prog W .any base t v)
    (hW : DataW.Whole enc Tryz.prog fn.params.toList s.vars false W args.toList ds gs before) (hw : (DataW.weightsEach Tryz.prog (fn.params.toList ++ s.plain.varTypes Tryz.prog) (ds ++ gs)).all (· ≤ reachBytes) = true) (hT : Tab W) :
    Calls Tryz.prog f args W fun e W' => ∃ v, e = .returned v ∧ s.post enc Tryz.prog fn false true false false W args v W' := by
  have hlt := hW.lt
  have hW' := hW
  obtain ⟨p, q, hA, hV, rfl, hfz, hnd⟩ := hW
  rw [hvars] at hV
  obtain ⟨rfl, rfl⟩ := trodVars_none hV
  rw [hvt, List.append_nil, List.append_nil] at hw
  refine (law_calls hs hg hT hk (fun j t v h1 h2 => hval j t v (by rw [← Array.getElem?_toList]; exact h1) (by rw [← Array.getElem?_toList]; exact h2)) hA hw (fun x hx => hlt x (by simp [hx]))).mono ?_
  rintro e W' ⟨rfl, hb⟩
  exact ⟨_, rfl, law_post hl hres hvars ht (by rw [List.append_nil]; exact hspec ds (trodAll_length hA).2) hW' hb⟩
/-- The table's cells, out of the row's condition. -/
theorem tab_of {W : World} {D : DataW Unit} (hD : ∀ ys : List (DataW Unit × List MemPlace), D = .agg (ys.map (·.1)) → ∀ j, j < 64 → ∃ y, ys[j]? = some y ∧ y.1 = .lit (.int .u8 (Lib.deBruijn64tab.getD j 0))) (hh : D.handleName?.isNone = true)
    (h : laidMetH Tryz.prog [("math/bits.deBruijn64tab", D)] W) : Tab W := by
  rw [MakeChecks.laidMetH_plain _ _ _ (by simp [hh])] at h
  obtain ⟨ps, ⟨g0, t0, cs0, f0, p0, q0, hg0, ht0, hv0, hd0, _⟩, _, _⟩ := h
  obtain rfl := Option.some.inj ((show Tryz.prog.globalNamed "math/bits.deBruijn64tab" = some 0 by kernel_rfl).symm.trans hg0)
  obtain rfl := Option.some.inj ((show (Tryz.prog.globals[0]?).map (·.type) = some 134 by kernel_rfl).symm.trans ht0)
  obtain ⟨xs, m1, _, hx1, hlen, hn3, hel⟩ := DataW.trod_array Tryz.underlying134 hd0
  intro j hj
  simp only [Prod.mk.injEq] at hx1
  obtain ⟨y, hy, hy1⟩ := hD xs hx1.1 j hj
  have hj' := hel j hj
  rw [hy, show Tryz.prog.cellsOf 5 = 1 by kernel_rfl] at hj'
  obtain ⟨k, e1, e2, _⟩ := DataW.trod_int Tryz.underlying5 hj'
  have hk : k = Lib.deBruijn64tab.getD j 0 := by
    rw [e2] at hy1; simpa using hy1
  subst hk
  have := World.var?_cell hg0 hv0 j
  rw [this]
  rw [Nat.mul_one] at e1
  have e3 : (cs0.toList.drop j)[0]? = some (.int .u8 (Lib.deBruijn64tab.getD j 0)) := by
    have : ((cs0.toList.drop j).take 1)[0]? = some (.int .u8 (Lib.deBruijn64tab.getD j 0)) := by rw [e1]; rfl
    rwa [List.getElem?_take, if_pos (by omega)] at this
  rw [List.getElem?_drop, Nat.add_zero] at e3
  simpa using e3
end Go.Proofs.YtlpjmikpndllhaaGreatDoor

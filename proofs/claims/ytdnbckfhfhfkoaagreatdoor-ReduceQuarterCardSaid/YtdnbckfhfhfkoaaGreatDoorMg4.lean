/-
Package consts: inverse, pi.
Pi: between which numbers it lies; how narrow its enclosures are. Plain.
Package consts: the table, what it encloses: pi.
Right angles taken away: plain.
Dyadic numbers: how low their last bit lies, how high their first. Plain.
Package reduce.
Package reduce: Turns, Scale, Split.
Package ulpref09: pi; ulpref14: pi.
Package ulpref14.
When right angles are told apart: plain.
The reckoning again, so that the kernel can do it: the same functions by recursion on a number of rounds.
Package ulplaw14.
Package ulplaw13: the words.
Answers of sines and cosines against the document's. Plain.
Package ulplaw13: the answers that the document gives; SincoreEncloses.
Sine and cosine: the circle, the mirror, bounds. Plain.
Package ulplaw14: ReduceOdd.
Package ulplaw14: ReduceBack, ReduceNear.
Package ulplaw14: ReduceNear.
Package ulplaw14: ReduceAngles.
ulpref04.Copy, by hand: a copy of a number's words.
Package ulplaw14: ReduceQuarter.
Package ulplaw14: ReduceQuarter's word.
-/
import Derived.Test.YtdnbckfhfhfkoaaGreatDoorMg3
import Derived.Test.YtdnbckfhfhfkoaaGreatDoorMg2
import Derived.Test.YtdnbckfhfhfkoaaGreatDoorMg1
namespace Go.Proofs.YtdnbckfhfhfkoaaGreatDoor
open Go.RowKit
section
variable {n w : Int} (h : InvOk n w)
include h
theorem invP_le (k : Nat) : 0 ≤ (invP n w k).a ∧ (invP n w k).a ≤ 2 ^ w.toNat := by
  have a0 := (invP_in h k).a0
  have s := invP_small h k
  have p := two_pow_pos k
  have m := Int.mul_le_mul_of_nonneg_left (show (1 : Int) ≤ 2 ^ k by omega) a0
  exact ⟨a0, by omega⟩
theorem fx_small {z : Fx} (a0 : 0 ≤ z.a) (a1 : z.a ≤ 2 * 2 ^ w.toNat) (e0 : 0 ≤ z.e) (e1 : z.e ≤ 549755813888) : z.Ok := by
  have w0 := h.w0
  have w1 := h.w1
  have : blen z.a ≤ w.toNat + 1 + 1 := blen_pow_le (by rw [Int.pow_succ]; omega)
  exact ⟨a0, by omega, e0, by omega⟩
theorem invP_ok (k : Nat) : (invP n w k).Ok := by
  have a := invP_le h k
  have e := invP_e h k
  exact fx_small h a.1 (by omega) (by omega) (by omega)
theorem invT_ok (k : Nat) : (invT n w k).Ok := by
  have a := invP_le h k
  have b := invT_le h k
  have c := (invT_in h k).a0
  have e := invT_e h k
  exact fx_small h c (by omega) (by omega) (by omega)
theorem invM_ok (b : Nat) {k : Nat} (hk : (k : Int) ≤ w + 2) : (SmT (invT n w) b k).Ok := by
  have a := smI_a h b k
  have p0 := (invP_in h k).a0
  have q := invP_le h 0
  have e := smI_e h b k
  have w1 := h.w1
  exact fx_small h a.1 (by omega) e.1 (by omega)
omit h in
theorem tmQ_fun (n w : Int) : tmQ (shortF ⟨2 ^ w.toNat, 0⟩ n) (n * n) = invT n w := funext fun k => tmQ_inv n w k
omit h in
theorem kQ_inv (n w : Int) : kQ (shortF ⟨2 ^ w.toNat, 0⟩ n) (n * n) = invK n w := by
  unfold kQ invK
  rw [tmQ_fun]
theorem qok_inv : QOk (shortF ⟨2 ^ w.toNat, 0⟩ n) (n * n) := by
  obtain ⟨k1, k2, k3, k4⟩ := invK_spec h
  have w1 := h.w1
  have n0 := h.n0
  have n1 := h.n1
  have sq := sq_ge n0
  have sq1 : n * n ≤ 10000 * 10000 := Int.mul_le_mul n1 n1 (by omega) (by omega)
  unfold QOk
  rw [kQ_inv, tmQ_fun]
  refine ⟨k1, by omega, k3, k4, fun k hk => ?_, fun k hk => ⟨⟨invT_ok h k, by rw [invT_e h]; omega⟩, invM_ok h 0 (by omega), invM_ok h 1 (by omega)⟩⟩
  rw [pwQ_inv]
  exact ⟨invP_ok h k, by rw [invP_e h]; omega, by omega, by omega, by omega, by omega⟩
omit h in
theorem sumQ_inv (n w : Int) (b : Nat) : sumQ (shortF ⟨2 ^ w.toNat, 0⟩ n) (n * n) b = invR n w b := by
  unfold sumQ invR
  rw [kQ_inv, tmQ_fun]
theorem invR_ok {b : Nat} (hb : b ≤ 1) : (invR n w b).Ok := by
  have r := invR_bd h
  have q := invP_le h 0
  have w1 := h.w1
  rcases (show b = 0 ∨ b = 1 by omega) with rfl | rfl
  · exact fx_small h (by omega) (by omega) (by omega) (by omega)
  · exact fx_small h (by omega) (by omega) (by omega) (by omega)
end
def sInv (gQ : Fx → Int → Nat → Fx) (pQ : Fx → Int → Fx) (pr : Fx → Int → Prop) : List (FuncId × Spec) := [(155, seOne), (157, seShort), (153, seAdd), (152, seSub), (115, lOf), (145, lMul),
  (154 + effK, wSumI gQ pQ pr)]
theorem cInverse_vc (n times w : Int) (turned : Bool) (gQ : Fx → Int → Nat → Fx) (pQ : Fx → Int → Fx) (pr : Fx → Int → Prop) (Q : Tv → Prop) : execF ⟨tys4, sInv gQ pQ pr⟩ (fun _ => none) 0 Tryz.f151 [.one (.int .u64 n), .one (.int .u64 times), .one (.bool turned), .one (.int .i64 w)] Q = (((0 : Int) ≤ w ∧ w ≤ (16777216 : Int)) ∧ ((0 : Int) ≤ (fw (Fx.mk ((2 : Int) ^ Int.toNat w) (0 : Int))).e ∧ (fw (Fx.mk ((2 : Int) ^ Int.toNat w) (0 : Int))).e ≤ (1099511627776 : Int) ∧ (0 : Int) < n ∧ n < (18446744073709551616 : Int)) ∧ ((fw (shortF (Fw.f (fw (Fx.mk ((2 : Int) ^ Int.toNat w) (0 : Int)))) n)).xs = ws (val (fw (shortF (Fw.f (fw (Fx.mk ((2 : Int) ^ Int.toNat w) (0 : Int)))) n)).xs) ∧ (fw (shortF (Fw.f (fw (Fx.mk ((2 : Int) ^ Int.toNat w) (0 : Int)))) n)).xs = (fw (shortF (Fw.f (fw (Fx.mk ((2 : Int) ^ Int.toNat w) (0 : Int)))) n)).xs ∧ (fw (shortF (Fw.f (fw (Fx.mk ((2 : Int) ^ Int.toNat w) (0 : Int)))) n)).e = (fw (shortF (Fw.f (fw (Fx.mk ((2 : Int) ^ Int.toNat w) (0 : Int)))) n)).e ∧ pr (Fx.mk (val (fw (shortF (Fw.f (fw (Fx.mk ((2 : Int) ^ Int.toNat w) (0 : Int)))) n)).xs) (fw (shortF (Fw.f (fw (Fx.mk ((2 : Int) ^ Int.toNat w) (0 : Int)))) n)).e) (IntKind.wrap IntKind.u64 (n * n))) ∧ (Fw.Ok (fw (gQ (Fx.mk (val (fw (shortF (Fw.f (fw (Fx.mk ((2 : Int) ^ Int.toNat w) (0 : Int)))) n)).xs) (fw (shortF (Fw.f (fw (Fx.mk ((2 : Int) ^ Int.toNat w) (0 : Int)))) n)).e) (IntKind.wrap IntKind.u64 (n * n)) (0 : Nat))) ∧ Fw.Ok (fw (gQ (Fx.mk (val (fw (shortF (Fw.f (fw (Fx.mk ((2 : Int) ^ Int.toNat w) (0 : Int)))) n)).xs) (fw (shortF (Fw.f (fw (Fx.mk ((2 : Int) ^ Int.toNat w) (0 : Int)))) n)).e) (IntKind.wrap IntKind.u64 (n * n)) (1 : Nat)))) ∧ br turned ((Fw.Ok (fw (gQ (Fx.mk (val (fw (shortF (Fw.f (fw (Fx.mk ((2 : Int) ^ Int.toNat w) (0 : Int)))) n)).xs) (fw (shortF (Fw.f (fw (Fx.mk ((2 : Int) ^ Int.toNat w) (0 : Int)))) n)).e) (IntKind.wrap IntKind.u64 (n * n)) (0 : Nat))) ∧ Fw.Ok (fw (gQ (Fx.mk (val (fw (shortF (Fw.f (fw (Fx.mk ((2 : Int) ^ Int.toNat w) (0 : Int)))) n)).xs) (fw (shortF (Fw.f (fw (Fx.mk ((2 : Int) ^ Int.toNat w) (0 : Int)))) n)).e) (IntKind.wrap IntKind.u64 (n * n)) (1 : Nat))) ∧ (Fw.f (fw (gQ (Fx.mk (val (fw (shortF (Fw.f (fw (Fx.mk ((2 : Int) ^ Int.toNat w) (0 : Int)))) n)).xs) (fw (shortF (Fw.f (fw (Fx.mk ((2 : Int) ^ Int.toNat w) (0 : Int)))) n)).e) (IntKind.wrap IntKind.u64 (n * n)) (1 : Nat)))).a + (Fw.f (fw (gQ (Fx.mk (val (fw (shortF (Fw.f (fw (Fx.mk ((2 : Int) ^ Int.toNat w) (0 : Int)))) n)).xs) (fw (shortF (Fw.f (fw (Fx.mk ((2 : Int) ^ Int.toNat w) (0 : Int)))) n)).e) (IntKind.wrap IntKind.u64 (n * n)) (1 : Nat)))).e ≤ (Fw.f (fw (gQ (Fx.mk (val (fw (shortF (Fw.f (fw (Fx.mk ((2 : Int) ^ Int.toNat w) (0 : Int)))) n)).xs) (fw (shortF (Fw.f (fw (Fx.mk ((2 : Int) ^ Int.toNat w) (0 : Int)))) n)).e) (IntKind.wrap IntKind.u64 (n * n)) (0 : Nat)))).a) ∧ Word times ∧ List.length (ws (val (fw (subF (Fw.f (fw (gQ (Fx.mk (val (fw (shortF (Fw.f (fw (Fx.mk ((2 : Int) ^ Int.toNat w) (0 : Int)))) n)).xs) (fw (shortF (Fw.f (fw (Fx.mk ((2 : Int) ^ Int.toNat w) (0 : Int)))) n)).e) (IntKind.wrap IntKind.u64 (n * n)) (0 : Nat)))) (Fw.f (fw (gQ (Fx.mk (val (fw (shortF (Fw.f (fw (Fx.mk ((2 : Int) ^ Int.toNat w) (0 : Int)))) n)).xs) (fw (shortF (Fw.f (fw (Fx.mk ((2 : Int) ^ Int.toNat w) (0 : Int)))) n)).e) (IntKind.wrap IntKind.u64 (n * n)) (1 : Nat)))))).xs)) + List.length (ws (val (ws times))) ≤ (17592186044415 : Nat) ∧ true = true ∧ Q (Tv.sv (Sv.agg [At.words true (ws (val (fw (subF (Fw.f (fw (gQ (Fx.mk (val (fw (shortF (Fw.f (fw (Fx.mk ((2 : Int) ^ Int.toNat w) (0 : Int)))) n)).xs) (fw (shortF (Fw.f (fw (Fx.mk ((2 : Int) ^ Int.toNat w) (0 : Int)))) n)).e) (IntKind.wrap IntKind.u64 (n * n)) (0 : Nat)))) (Fw.f (fw (gQ (Fx.mk (val (fw (shortF (Fw.f (fw (Fx.mk ((2 : Int) ^ Int.toNat w) (0 : Int)))) n)).xs) (fw (shortF (Fw.f (fw (Fx.mk ((2 : Int) ^ Int.toNat w) (0 : Int)))) n)).e) (IntKind.wrap IntKind.u64 (n * n)) (1 : Nat)))))).xs * val (ws times))), At.int .u64 (IntKind.wrap IntKind.u64 ((fw (subF (Fw.f (fw (gQ (Fx.mk (val (fw (shortF (Fw.f (fw (Fx.mk ((2 : Int) ^ Int.toNat w) (0 : Int)))) n)).xs) (fw (shortF (Fw.f (fw (Fx.mk ((2 : Int) ^ Int.toNat w) (0 : Int)))) n)).e) (IntKind.wrap IntKind.u64 (n * n)) (0 : Nat)))) (Fw.f (fw (gQ (Fx.mk (val (fw (shortF (Fw.f (fw (Fx.mk ((2 : Int) ^ Int.toNat w) (0 : Int)))) n)).xs) (fw (shortF (Fw.f (fw (Fx.mk ((2 : Int) ^ Int.toNat w) (0 : Int)))) n)).e) (IntKind.wrap IntKind.u64 (n * n)) (1 : Nat)))))).e * times))]))) (Word times ∧ List.length (ws (val (fw (addF (Fw.f (fw (gQ (Fx.mk (val (fw (shortF (Fw.f (fw (Fx.mk ((2 : Int) ^ Int.toNat w) (0 : Int)))) n)).xs) (fw (shortF (Fw.f (fw (Fx.mk ((2 : Int) ^ Int.toNat w) (0 : Int)))) n)).e) (IntKind.wrap IntKind.u64 (n * n)) (0 : Nat)))) (Fw.f (fw (gQ (Fx.mk (val (fw (shortF (Fw.f (fw (Fx.mk ((2 : Int) ^ Int.toNat w) (0 : Int)))) n)).xs) (fw (shortF (Fw.f (fw (Fx.mk ((2 : Int) ^ Int.toNat w) (0 : Int)))) n)).e) (IntKind.wrap IntKind.u64 (n * n)) (1 : Nat)))))).xs)) + List.length (ws (val (ws times))) ≤ (17592186044415 : Nat) ∧ true = true ∧ Q (Tv.sv (Sv.agg [At.words true (ws (val (fw (addF (Fw.f (fw (gQ (Fx.mk (val (fw (shortF (Fw.f (fw (Fx.mk ((2 : Int) ^ Int.toNat w) (0 : Int)))) n)).xs) (fw (shortF (Fw.f (fw (Fx.mk ((2 : Int) ^ Int.toNat w) (0 : Int)))) n)).e) (IntKind.wrap IntKind.u64 (n * n)) (0 : Nat)))) (Fw.f (fw (gQ (Fx.mk (val (fw (shortF (Fw.f (fw (Fx.mk ((2 : Int) ^ Int.toNat w) (0 : Int)))) n)).xs) (fw (shortF (Fw.f (fw (Fx.mk ((2 : Int) ^ Int.toNat w) (0 : Int)))) n)).e) (IntKind.wrap IntKind.u64 (n * n)) (1 : Nat)))))).xs * val (ws times))), At.int .u64 (IntKind.wrap IntKind.u64 ((fw (addF (Fw.f (fw (gQ (Fx.mk (val (fw (shortF (Fw.f (fw (Fx.mk ((2 : Int) ^ Int.toNat w) (0 : Int)))) n)).xs) (fw (shortF (Fw.f (fw (Fx.mk ((2 : Int) ^ Int.toNat w) (0 : Int)))) n)).e) (IntKind.wrap IntKind.u64 (n * n)) (0 : Nat)))) (Fw.f (fw (gQ (Fx.mk (val (fw (shortF (Fw.f (fw (Fx.mk ((2 : Int) ^ Int.toNat w) (0 : Int)))) n)).xs) (fw (shortF (Fw.f (fw (Fx.mk ((2 : Int) ^ Int.toNat w) (0 : Int)))) n)).e) (IntKind.wrap IntKind.u64 (n * n)) (1 : Nat)))))).e * times))])))) := by kernel_rfl
theorem sInv_ok : SpecsOk Tryz.prog (sInv sumQ endQ QOk) := ⟨seOne_ok, seShort_ok, seAdd_ok, seSub_ok, lOf_ok, lMul_ok, seSumI_ok, trivial⟩
theorem InvOk.gap {n w : Int} (h : InvOk n w) : (invR n w 1).a + (invR n w 1).e ≤ (invR n w 0).a ∧ 0 ≤ (invS n w true).a ∧ (invS n w true).a ≤ 2 * 2 ^ w.toNat ∧ (invS n w true).e ≤ 4 * w + 16 ∧ 0 ≤ (invS n w true).e ∧ 0 ≤ (invS n w false).a ∧ (invS n w false).a ≤ 3 * 2 ^ w.toNat ∧ (invS n w false).e ≤ 4 * w + 16 ∧ 0 ≤ (invS n w false).e := by
  have r := invR_bd h
  have b := h.big
  have w0 := h.w0
  have n0 := h.n0
  have q : 5 * (invP n w 0).a ≤ 2 ^ w.toNat := by
    have k : 2 ^ w.toNat / n ≤ 2 ^ w.toNat / 5 := div_anti (by have := two_pow_pos w.toNat; omega) (by omega) n0
    show 5 * (2 ^ w.toNat / n) ≤ 2 ^ w.toNat
    omega
  have g : (invR n w 1).a + (invR n w 1).e ≤ (invR n w 0).a := by omega
  have e1 : invS n w true = subF (invR n w 0) (invR n w 1) := if_pos rfl
  have e2 : invS n w false = addF (invR n w 0) (invR n w 1) := if_neg (by simp)
  rw [e1, e2]
  show _ ∧ 0 ≤ (invR n w 0).a - ((invR n w 1).a + (invR n w 1).e) ∧ (invR n w 0).a - ((invR n w 1).a + (invR n w 1).e) ≤ _ ∧ (invR n w 0).e + (invR n w 1).e ≤ _ ∧ 0 ≤ (invR n w 0).e + (invR n w 1).e ∧ 0 ≤ (invR n w 0).a + (invR n w 1).a ∧ (invR n w 0).a + (invR n w 1).a ≤ _ ∧ (invR n w 0).e + (invR n w 1).e ≤ _ ∧ 0 ≤ (invR n w 0).e + (invR n w 1).e
  omega
def cInverse : Spec := specK [.i .u64, .i .u64, .b, .i .i64] fun (n : Int) (times : Int) (turned : Bool) (w : Int) => (some (InvOk n w ∧ 1 ≤ times ∧ times ≤ 64), fxT (timesF (invS n w turned) times))
theorem cInverse_ok : SpecOk Tryz.prog 151 cInverse :=
  specKW_ok (envOk tys4_ok sInv_ok) mixed Tryz.func151 rfl (by decide) (by decide) fun (n : Int) _ (times : Int) _ (turned : Bool) _ (w : Int) _ hp => ⟨fun _ => none, 0, by
    obtain ⟨h, t0, t1⟩ : InvOk n w ∧ 1 ≤ times ∧ times ≤ 64 := hp
    have w0 := h.w0
    have w1 := h.w1
    have n0 := h.n0
    have n1 := h.n1
    have sq1 : n * n ≤ 10000 * 10000 := Int.mul_le_mul n1 n1 (by omega) (by omega)
    have sq0 := sq_ge n0
    show execF _ _ _ _ _ (fun t => t = fxT (timesF (invS n w turned) times) ∨ fgT t = fxT (timesF (invS n w turned) times))
    refine (cInverse_vc n times w turned sumQ endQ QOk _).mpr ?_
    have p := two_pow_pos w.toNat
    have x1 : (fw (⟨2 ^ w.toNat, 0⟩ : Fx)).f = ⟨2 ^ w.toNat, 0⟩ := fw_f (by show (0 : Int) ≤ 2 ^ w.toNat; omega)
    have x2 : IntKind.u64.wrap (n * n) = n * n := wrap_w ⟨by omega, by omega⟩
    have oP := invP_ok h 0
    have x3 : (⟨val (fw (shortF ⟨2 ^ w.toNat, 0⟩ n)).xs, (fw (shortF ⟨2 ^ w.toNat, 0⟩ n)).e⟩ : Fx) = shortF ⟨2 ^ w.toNat, 0⟩ n := fw_f (z := shortF ⟨2 ^ w.toNat, 0⟩ n) oP.1
    have x4 : ∀ b, sumQ (shortF ⟨2 ^ w.toNat, 0⟩ n) (n * n) b = invR n w b := fun b => sumQ_inv n w b
    rw [x1, x2, x3, x4, x4]
    have o0 := invR_ok h (b := 0) (by omega)
    have o1 := invR_ok h (b := 1) (by omega)
    have f0 : (fw (invR n w 0)).f = invR n w 0 := fw_f o0.1
    have f1 : (fw (invR n w 1)).f = invR n w 1 := fw_f o1.1
    rw [f0, f1]
    have g := h.gap
    have wt : Word times := ⟨by omega, by omega⟩
    have fin : ∀ z : Fx, 0 ≤ z.a → z.a ≤ 3 * 2 ^ w.toNat → 0 ≤ z.e → z.e ≤ 4 * w + 16 → List.length (ws (val (fw z).xs)) + List.length (ws (val (ws times))) ≤ 17592186044415 ∧
        Tv.sv (Sv.agg [At.words true (ws (val (fw z).xs * val (ws times))), At.int .u64 (IntKind.wrap IntKind.u64 ((fw z).e * times))]) = .sv (.agg (fwL true (fw (timesF z times)))) := fun z a0 a1 e0 e1 => by
      have v1 : val (fw z).xs = z.a := val_ws a0
      have v2 : val (ws times) = times := val_ws (by omega)
      have m0 := Int.mul_nonneg e0 (show 0 ≤ times by omega)
      have m1 := Int.mul_le_mul e1 t1 (by omega) (by omega)
      have v3 : IntKind.u64.wrap ((fw z).e * times) = z.e * times := wrap_w ⟨m0, by show z.e * times < _; omega⟩
      have b1 : blen z.a ≤ w.toNat + 2 + 1 := blen_pow_le (by rw [show w.toNat + 2 = w.toNat + 1 + 1 by omega, Int.pow_succ, Int.pow_succ]; omega)
      have l1 := ws_blen (k := 1073741824) a0 (by omega)
      have l2 := ws_blen (k := 1073741824) (n := times) (by omega) (by have := blen_pow_le (n := times) (k := 6) (by omega); omega)
      rw [v1, v2, v3]
      exact ⟨by omega, rfl⟩
    refine ⟨⟨by omega, by omega⟩, ⟨Int.le_refl _, by show (0 : Int) ≤ _; omega, by omega, by omega⟩, ⟨?_, rfl, rfl, qok_inv h⟩, ⟨o0.w, o1.w⟩, br_intro (fun ht => ?_) fun ht => ?_⟩
    · show ws _ = ws (val (ws _))
      exact congrArg ws (val_ws oP.1).symm
    · obtain ⟨l, e⟩ := fin (invS n w true) g.2.1 (by omega) g.2.2.2.2.1 g.2.2.2.1
      have es : invS n w true = subF (invR n w 0) (invR n w 1) := if_pos rfl
      rw [es] at l e
      refine ⟨⟨o0.w, o1.w, g.1⟩, wt, l, rfl, .inr ?_⟩
      rw [e, ht, es]; rfl
    · obtain ⟨l, e⟩ := fin (invS n w false) g.2.2.2.2.2.1 g.2.2.2.2.2.2.1 g.2.2.2.2.2.2.2.2 g.2.2.2.2.2.2.2.1
      have es : invS n w false = addF (invR n w 0) (invR n w 1) := if_neg (by simp)
      rw [es] at l e
      refine ⟨wt, l, rfl, .inr ?_⟩
      rw [e, ht, es]; rfl⟩
/-! ### Pi. -/
def sPi (fI : Int → Int → Bool → Int → Fx) (pr : Int → Int → Int → Prop) : List (FuncId × Spec) := [(151, specK [.i .u64, .i .u64, .b, .i .i64] fun (n : Int) (times : Int) (turned : Bool) (w : Int) => (some (pr n times w), fxT (fI n times turned w))), (152, seSub)]
theorem cPi_vc (w : Int) (fI : Int → Int → Bool → Int → Fx) (pr : Int → Int → Int → Prop) (Q : Tv → Prop) : execF ⟨tys4, sPi fI pr⟩ (fun _ => none) 0 Tryz.f134 [.one (.int .i64 w)] Q = (pr (5 : Int) (16 : Int) w ∧ pr (239 : Int) (4 : Int) w ∧ (Fw.Ok (fw (fI (5 : Int) (16 : Int) true w)) ∧ Fw.Ok (fw (fI (239 : Int) (4 : Int) true w)) ∧ (Fw.f (fw (fI (239 : Int) (4 : Int) true w))).a + (Fw.f (fw (fI (239 : Int) (4 : Int) true w))).e ≤ (Fw.f (fw (fI (5 : Int) (16 : Int) true w))).a) ∧ Q (Tv.sv (Sv.agg (fwL false (fw (subF (Fw.f (fw (fI (5 : Int) (16 : Int) true w))) (Fw.f (fw (fI (239 : Int) (4 : Int) true w))))))))) := by kernel_rfl
theorem pi_gap {w : Int} (w0 : 32 ≤ w) (w1 : w ≤ 65536) : (timesF (invS 239 w true) 4).a + (timesF (invS 239 w true) 4).e ≤ (timesF (invS 5 w true) 16).a := by
  have h5 : InvOk 5 w := ⟨by omega, by omega, w0, w1⟩
  have h2 : InvOk 239 w := ⟨by omega, by omega, w0, w1⟩
  have r5 := invR_bd h5
  have r2 := invR_bd h2
  have b5 := h5.big
  have b2 := h2.big
  have q5 : (invP 5 w 0).a = 2 ^ w.toNat / 5 := rfl
  have q2 : (invP 239 w 0).a = 2 ^ w.toNat / 239 := rfl
  have e5 : invS 5 w true = subF (invR 5 w 0) (invR 5 w 1) := if_pos rfl
  have e2 : invS 239 w true = subF (invR 239 w 0) (invR 239 w 1) := if_pos rfl
  rw [e5, e2]
  show ((invR 239 w 0).a - ((invR 239 w 1).a + (invR 239 w 1).e)) * 4 + ((invR 239 w 0).e + (invR 239 w 1).e) * 4 ≤ ((invR 5 w 0).a - ((invR 5 w 1).a + (invR 5 w 1).e)) * 16
  have k : 20 * (2 ^ w.toNat / 239) ≤ (2 ^ w.toNat / 5 : Int) := by omega
  omega
theorem timesF_ok {n w t : Int} (h : InvOk n w) (t0 : 0 ≤ t) (t1 : t ≤ 64) : (timesF (invS n w true) t).Ok := by
  have g := h.gap
  have w0 := h.w0
  have w1 := h.w1
  have p := two_pow_pos w.toNat
  have a0 := Int.mul_nonneg g.2.1 t0
  have a1 := Int.mul_le_mul g.2.2.1 t1 t0 (by omega)
  have e0 := Int.mul_nonneg g.2.2.2.2.1 t0
  have e1 := Int.mul_le_mul g.2.2.2.1 t1 t0 (by omega)
  have b : blen ((invS n w true).a * t) ≤ w.toNat + 7 + 1 := blen_pow_le (by
    rw [show (2 : Int) ^ (w.toNat + 7) = 2 ^ w.toNat * 128 by rw [Int.pow_add]; rfl]; omega)
  exact ⟨a0, by show blen ((invS n w true).a * t) ≤ _; omega, e0, by show (invS n w true).e * t ≤ _; omega⟩
def cPi : Spec := specK [.i .i64] fun (w : Int) => (some (32 ≤ w ∧ w ≤ 65536), fxT (piF w))
theorem sPi_ok : SpecsOk Tryz.prog (sPi (fun n times turned w => timesF (invS n w turned) times) (fun n times w => InvOk n w ∧ 1 ≤ times ∧ times ≤ 64)) := ⟨cInverse_ok, seSub_ok, trivial⟩
theorem cPi_ok : SpecOk Tryz.prog 134 cPi :=
  specKW_ok (envOk tys4_ok sPi_ok) mixed Tryz.func134 rfl (by decide) (by decide) fun (w : Int) _ hp => ⟨fun _ => none, 0, by
    obtain ⟨w0, w1⟩ : 32 ≤ w ∧ w ≤ 65536 := hp
    have h5 : InvOk 5 w := ⟨by omega, by omega, w0, w1⟩
    have h2 : InvOk 239 w := ⟨by omega, by omega, w0, w1⟩
    have o5 := timesF_ok h5 (t := 16) (by omega) (by omega)
    have o2 := timesF_ok h2 (t := 4) (by omega) (by omega)
    show execF _ _ _ _ _ (fun t => t = fxT (piF w) ∨ fgT t = fxT (piF w))
    refine (cPi_vc w (fun n times turned w => timesF (invS n w turned) times) (fun n times w => InvOk n w ∧ 1 ≤ times ∧ times ≤ 64) _).mpr ?_
    have f5 : (fw (timesF (invS 5 w true) 16)).f = timesF (invS 5 w true) 16 := fw_f o5.1
    have f2 : (fw (timesF (invS 239 w true) 4)).f = timesF (invS 239 w true) 4 := fw_f o2.1
    rw [f5, f2]
    exact ⟨⟨h5, by omega, by omega⟩, ⟨h2, by omega, by omega⟩, ⟨o5.w, o2.w, pi_gap w0 w1⟩, .inl rfl⟩⟩
end Go.Proofs.YtdnbckfhfhfkoaaGreatDoor

namespace Go.Proofs.YtdnbckfhfhfkoaaGreatDoor
open Go.RowKit
theorem at5_enc : Enc (sgnS true (atT 5)) (197395 / 1000000) (1974 / 10000) := by
  refine (altG_enc (r := atT 5) (atT_nonneg (by omega)) (atT_fall (by omega)) (K := 3) (q := 12 / 11 * atT 5 3) Rat.le_refl Rat.le_refl Rat.le_refl Rat.le_refl (by grind)).wide ?_ ?_ <;> decide +kernel
theorem at239_enc : Enc (sgnS true (atT 239)) (4184 / 1000000) (41842 / 10000000) := by
  refine (altG_enc (r := atT 239) (atT_nonneg (by omega)) (atT_fall (by omega)) (K := 2) (q := 12 / 11 * atT 239 2) Rat.le_refl Rat.le_refl Rat.le_refl Rat.le_refl (by grind)).wide ?_ ?_ <;> decide +kernel
theorem piS_enc : Enc piS (31415 / 10000) (31417 / 10000) :=
  ((at5_enc.scale (c := 16) (by decide)).add ((at239_enc.scale (c := 4) (by decide)).neg)).wide (by decide +kernel) (by decide +kernel)
theorem piF_e {w : Int} (w0 : 32 ≤ w) (w1 : w ≤ 65536) : 0 ≤ (piF w).a ∧ 0 ≤ (piF w).e ∧ (piF w).e ≤ 80 * w + 320 ∧ (piF w).a ≤ 32 * 2 ^ w.toNat := by
  have h5 : InvOk 5 w := ⟨by omega, by omega, w0, w1⟩
  have h2 : InvOk 239 w := ⟨by omega, by omega, w0, w1⟩
  have g5 := h5.gap
  have g2 := h2.gap
  have gp := pi_gap w0 w1
  have e2 : (piF w).e = (invS 5 w true).e * 16 + (invS 239 w true).e * 4 := rfl
  have e1 : (piF w).a = (invS 5 w true).a * 16 - ((invS 239 w true).a * 4 + (invS 239 w true).e * 4) := rfl
  have e3 : (timesF (invS 239 w true) 4).a + (timesF (invS 239 w true) 4).e = (invS 239 w true).a * 4 + (invS 239 w true).e * 4 := rfl
  have e4 : (timesF (invS 5 w true) 16).a = (invS 5 w true).a * 16 := rfl
  omega
theorem refS_bd {n w : Int} (h : InvOk n w) : 0 ≤ (refS n w).a ∧ (refS n w).a ≤ 2 * (refP n w 0).a ∧ 0 ≤ (refS n w).e ∧ (refS n w).e ≤ 4 * w + 16 ∧ (refS n w).a + (refS n w).e ≤ 2 * (refP n w 0).a + 4 * w + 16 ∧ (refP n w 0).a - 4 * w - 16 ≤ (refS n w).a + 2 * (refP n w 1).a := by
  obtain ⟨k2, k3, k4⟩ := refK_spec h
  have a0 := smR_a h 0 (refK n w + 1)
  have a1 := smR_a h 1 (refK n w + 1)
  have p0 := (refP_in h (refK n w + 1)).a0
  have e0 := smR_e h 0 (refK n w + 1)
  have e1 := smR_e h 1 (refK n w + 1)
  have ev := smR_even h (refK n w)
  have od := smR_odd h (refK n w)
  have hf : 25 * (refP n w 1).a ≤ (refP n w 0).a := refP_half h 0
  have b1 := (refP_in h 1).a0
  have big := h.big
  have w0 := h.w0
  have ep : (invP n w 0).a = (refP n w 0).a := rfl
  have d1 : (refS n w).a = (SmT (refT n w) 0 (refK n w + 1)).a - ((SmT (refT n w) 1 (refK n w + 1)).a + ((SmT (refT n w) 1 (refK n w + 1)).e + 4)) := rfl
  have d2 : (refS n w).e = ((SmT (refT n w) 0 (refK n w + 1)).e + 4) + ((SmT (refT n w) 1 (refK n w + 1)).e + 4) := rfl
  omega
theorem piR_e {w : Int} (w0 : 32 ≤ w) (w1 : w ≤ 65536) : 0 ≤ (piR w).a ∧ 0 ≤ (piR w).e ∧ (piR w).e ≤ 80 * w + 320 ∧ (piR w).a ≤ 32 * 2 ^ w.toNat := by
  have h5 : InvOk 5 w := ⟨by omega, by omega, w0, w1⟩
  have h2 : InvOk 239 w := ⟨by omega, by omega, w0, w1⟩
  have g5 := refS_bd h5
  have g2 := refS_bd h2
  have big5 := h5.big
  have hf5 : 25 * (refP 5 w 1).a ≤ (refP 5 w 0).a := refP_half h5 0
  have q5 : (refP 5 w 0).a = 2 ^ w.toNat / 5 := rfl
  have q2 : (refP 239 w 0).a = 2 ^ w.toNat / 239 := rfl
  have ep : (invP 5 w 0).a = (refP 5 w 0).a := rfl
  have k : 20 * (2 ^ w.toNat / 239) ≤ (2 ^ w.toNat / 5 : Int) := by omega
  have e2 : (piR w).e = (refS 5 w).e * 16 + (refS 239 w).e * 4 := rfl
  have e1 : (piR w).a = (refS 5 w).a * 16 - ((refS 239 w).a * 4 + (refS 239 w).e * 4) := rfl
  omega
/-- An enclosure of pi, at most d wide. -/
structure PiIv (d : Rat) (v : Vx) : Prop where
  f : OneF v.lo ∧ OneF v.hi
  enc : Enc piS v.lo.rv v.hi.rv
  lo : 3 ≤ v.lo.rv
  hi : v.hi.rv ≤ 4
  nar : v.hi.rv ≤ v.lo.rv + d
theorem PiIv.p {d : Rat} {v : Vx} (h : PiIv d v) : v.P := ⟨h.f.1.p, h.f.2.p⟩
theorem PiIv.le {d : Rat} {v : Vx} (h : PiIv d v) : v.lo.rv ≤ v.hi.rv := h.enc.self
theorem ivF_rv {z : Fx} {w : Int} (a0 : 0 ≤ z.a) (e0 : 0 ≤ z.e) : (ivF z w).lo.rv = (z.a : Rat) * p2 (-w) ∧ (ivF z w).hi.rv = ((z.a + z.e : Int) : Rat) * p2 (-w) := by
  unfold ivF
  exact ⟨by rw [rv_mkD a0]; rfl, by rw [rv_mkD (by omega)]; rfl⟩
theorem pow_e {w : Int} (w0 : 32 ≤ w) (w1 : w ≤ 65536) {e : Int} (h : e ≤ 80 * w + 320) : (e : Rat) * p2 (-w) ≤ p2 (23 - w) := by
  have : (e : Rat) ≤ ((2 ^ 23 : Int) : Rat) := cast_le.2 (by omega)
  have h2 := Rat.mul_le_mul_of_nonneg_right this (Rat.le_of_lt (p2_pos (-w)))
  have e23 : ((2 ^ 23 : Int) : Rat) = p2 23 := (p2_toNat (n := 23) (by omega)).symm
  rw [e23, ← p2_add] at h2
  rwa [show (23 : Int) - w = 23 + -w by omega]
theorem pi_iv {w : Int} {z : Fx} (w0 : 32 ≤ w) (w1 : w ≤ 65536) (h : EncF w z piS) (a0 : 0 ≤ z.a) (e0 : 0 ≤ z.e) (e1 : z.e ≤ 80 * w + 320) : PiIv (p2 (23 - w)) (ivF z w) := by
  obtain ⟨r1, r2⟩ := ivF_rv (w := w) a0 e0
  have hp := p2_le (show 23 - w ≤ -9 by omega)
  have hn := pow_e w0 w1 e1
  have hm := h.meets piS_enc
  have hm2 := piS_enc.meets h
  have e9 : p2 (-9) = 1 / 512 := by decide +kernel
  have es : ((z.a + z.e : Int) : Rat) * p2 (-w) = (z.a : Rat) * p2 (-w) + (z.e : Rat) * p2 (-w) := by rw [Rat.intCast_add, Rat.add_mul]
  rw [es] at hm2 r2
  rw [e9] at hp
  have d1 : (31415 : Rat) / 10000 - 1 / 512 ≥ 3 := by decide +kernel
  have d2 : (31417 : Rat) / 10000 + 1 / 512 ≤ 4 := by decide +kernel
  refine ⟨⟨mkD_f a0, mkD_f (by omega)⟩, ?_, ?_, ?_, ?_⟩
  · rw [r1, r2, ← es]; exact h
  all_goals
    generalize (31415 : Rat) / 10000 = c1 at *
    generalize (31417 : Rat) / 10000 = c2 at *
    generalize (z.a : Rat) * p2 (-w) = A at *
    generalize (z.e : Rat) * p2 (-w) = B at *
    generalize p2 (23 - w) = P at *
  · rw [r1]; grind
  · rw [r2]; grind
  · rw [r1, r2]; grind
theorem PiIv.trim {d : Rat} {v : Vx} {p : Int} (h : PiIv d v) (hp2 : 2 ≤ p) : PiIv (d + p2 (4 - p)) (trimV v p) := by
  have hp : 1 ≤ p := by omega
  have b1 := (cutD_best (d := v.lo) (p := p) h.p.1 hp).1
  have b2 := (cutD_best (d := v.hi) (p := p) h.p.2 hp).2
  have l1 := h.lo
  have l2 := h.hi
  have l3 := h.nar
  have le := h.le
  have hr1 : Rp p ((4 : Int) : Rat) := ⟨1, 2, by decide +kernel, by
    have := p2_le (show (1 : Int) ≤ p by omega)
    rw [p2_one] at this
    have e1 : ((1 : Int) : Rat) = 1 := rfl
    rw [e1]; grind, by
    have := p2_pos p
    have e1 : ((1 : Int) : Rat) = 1 := rfl
    rw [e1]; grind⟩
  have e4 : ((4 : Int) : Rat) = 4 := rfl
  rw [e4] at hr1
  have r1 := b1.rel hp (by grind)
  have r2 := b2.rel hp (by grind)
  have ee : eps p = p2 (1 - p) := rfl
  have e8 : p2 (4 - p) = 8 * p2 (1 - p) := by
    rw [show (4 : Int) - p = 3 + (1 - p) by omega, p2_add]
    have : p2 3 = 8 := by decide +kernel
    rw [this]
  have ep := eps_pos p
  rw [ee] at r1 r2 ep
  have m1 : p2 (1 - p) * v.lo.rv ≤ p2 (1 - p) * 4 := Rat.mul_le_mul_of_nonneg_left (by grind) (Rat.le_of_lt ep)
  have m2 : p2 (1 - p) * v.hi.rv ≤ p2 (1 - p) * 4 := Rat.mul_le_mul_of_nonneg_left (by grind) (Rat.le_of_lt ep)
  refine ⟨⟨cutD_f h.p.1, cutD_f h.p.2⟩, h.enc.wide b1.2.1 b2.2.1, ?_, b2.2.2 4 hr1 l2, ?_⟩
  · refine b1.2.2 3 ⟨3, 0, by rw [p2_zero]; decide +kernel, ?_, ?_⟩ l1
    · have := p2_le hp2
      have e2 : p2 2 = 4 := by decide +kernel
      have e3 : ((3 : Int) : Rat) = 3 := rfl
      rw [e3]; grind
    · have := p2_pos p
      have e3 : ((3 : Int) : Rat) = 3 := rfl
      rw [e3]; grind
  · show (cutD v.hi p true).rv ≤ (cutD v.lo p false).rv + (d + p2 (4 - p))
    rw [e8]; grind
theorem PiIv.mono {d d' : Rat} {v : Vx} (h : PiIv d v) (k : d ≤ d') : PiIv d' v := ⟨h.f, h.enc, h.lo, h.hi, by have := h.nar; grind⟩
theorem fits_34 {d : Dx} {p : Int} (h : OneF d) (hr : Rp p d.rv) (h3 : 3 ≤ d.rv) (h4 : d.rv ≤ 4) (hp : p ≤ 32768) : d.fitsB = true := by
  have e := (rv_amt h.p).1 (by grind)
  have e1 : p2 1 = 2 := p2_one
  have e2 : p2 2 = 4 := by decide +kernel
  exact fits_rp h (A := 1) (B := 2) hr hp (fun _ => by rw [← e]; grind) (by rw [← e]; grind) (by omega) (by omega)
theorem PiIv.right {d : Rat} {v : Vx} (h : PiIv d v) {p : Int} (r1 : Rp p v.lo.rv) (r2 : Rp p v.hi.rv) (hp : p ≤ 32768) : rightV v = true := by
  have le := h.le
  have f1 := fits_34 h.f.1 r1 h.lo (by have := h.hi; grind) hp
  have f2 := fits_34 h.f.2 r2 (by have := h.lo; grind) h.hi hp
  unfold rightV
  rw [f1, f2, decide_eq_true (cmpD_le.2 le)]; rfl
def encPi (p : Int) : Vx := ivF (piF (p + 64)) (p + 64)
theorem encPi_iv {p : Int} (p0 : 8 ≤ p) (p1 : p ≤ 65000) : PiIv (p2 (-41 - p)) (encPi p) := by
  obtain ⟨a0, e0, e1, _⟩ := piF_e (w := p + 64) (by omega) (by omega)
  have := pi_iv (w := p + 64) (by omega) (by omega) (piF_enc (by omega) (by omega)) a0 e0 e1
  rwa [show (23 : Int) - (p + 64) = -41 - p by omega] at this
theorem ivF_rp {z : Fx} {w p : Int} (a0 : 0 ≤ z.a) (e0 : 0 ≤ z.e) (h : (z.a + z.e : Int) < 2 ^ p.toNat) (hp : 0 ≤ p) : Rp p (ivF z w).lo.rv ∧ Rp p (ivF z w).hi.rv := by
  obtain ⟨r1, r2⟩ := ivF_rv (w := w) a0 e0
  have q := p2_pos p
  have c : ∀ s : Int, 0 ≤ s → s < 2 ^ p.toNat → (s : Rat) < p2 p ∧ -(p2 p) < (s : Rat) := fun s s0 s1 => by
    have k0 := cast_le.2 s0
    have e0 : ((0 : Int) : Rat) = 0 := rfl
    rw [e0] at k0
    rw [p2_toNat hp]
    have q' : 0 < ((2 ^ p.toNat : Int) : Rat) := by rw [← p2_toNat hp]; exact q
    exact ⟨cast_lt.2 s1, by grind⟩
  exact ⟨⟨_, _, r1, c _ a0 (by omega)⟩, ⟨_, _, r2, c _ (by omega) h⟩⟩
theorem encPi_right {p : Int} (p0 : 8 ≤ p) (p1 : p ≤ 16384) : rightV (encPi p) = true := by
  obtain ⟨a0, e0, e1, a1⟩ := piF_e (w := p + 64) (by omega) (by omega)
  have hb : (piF (p + 64)).a + (piF (p + 64)).e < 2 ^ (p + 64 + 6).toNat := by
    obtain ⟨k, hk⟩ : ∃ k : Nat, p + 64 = k + 32 := ⟨(p + 32).toNat, by omega⟩
    have pb := pow_big k
    rw [show (p + 64).toNat = k + 32 by omega] at a1
    rw [show (p + 64 + 6).toNat = k + 32 + 6 by omega, Int.pow_add]
    have : (2 : Int) ^ 6 = 64 := by decide
    rw [this]; omega
  obtain ⟨r1, r2⟩ := ivF_rp (w := p + 64) a0 e0 hb (by omega)
  exact (encPi_iv p0 (by omega)).right r1 r2 (by omega)
def constPi (p : Int) : Vx := trimV (encPi p) (p + 8)
theorem constPi_iv {p : Int} (p0 : 8 ≤ p) (p1 : p ≤ 65000) : PiIv (p2 (-3 - p)) (constPi p) := by
  refine ((encPi_iv p0 p1).trim (p := p + 8) (by omega)).mono ?_
  have h1 := p2_le (show -41 - p ≤ -4 - p by omega)
  have h2 : p2 (-3 - p) = 2 * p2 (-4 - p) := by
    rw [show -3 - p = 1 + (-4 - p) by omega, p2_add, p2_one]
  rw [show (4 : Int) - (p + 8) = -4 - p by omega, h2]; grind
theorem constPi_fits {p : Int} (p0 : 8 ≤ p) (p1 : p ≤ 16384) : (constPi p).lo.fitsB = true ∧ (constPi p).hi.fitsB = true := by
  have h := constPi_iv p0 (by omega)
  have k := encPi_iv p0 (show p ≤ 65000 by omega)
  have r1 := (cutD_best (d := (encPi p).lo) (p := p + 8) k.p.1 (by omega)).1.1
  have r2 := (cutD_best (d := (encPi p).hi) (p := p + 8) k.p.2 (by omega)).2.1
  have le := h.le
  exact ⟨fits_34 h.f.1 r1 h.lo (by have := h.hi; grind) (by omega), fits_34 h.f.2 r2 (by have := h.lo; grind) h.hi (by omega)⟩
theorem constPi_right {p : Int} (p0 : 8 ≤ p) (p1 : p ≤ 16384) : rightV (constPi p) = true := by
  have h := constPi_iv p0 (show p ≤ 65000 by omega)
  obtain ⟨f1, f2⟩ := constPi_fits p0 p1
  unfold rightV
  rw [f1, f2, decide_eq_true (cmpD_le.2 h.le)]; rfl
theorem constPi_cut {p : Int} (p0 : 8 ≤ p) (p1 : p + 8 ≤ 8192) : ivCut (encPi p) (p + 8) = (constPi p, 0) := by
  have h1 : leI 1 (p + 8) = true := decide_eq_true (by omega)
  have h2 : leI (p + 8) 8192 = true := decide_eq_true p1
  obtain ⟨f1, f2⟩ := constPi_fits p0 (show p ≤ 16384 by omega)
  unfold ivCut whenR roomR
  rw [h1, h2, encPi_right p0 (by omega)]
  show (if (true && true && true) = true then if ((constPi p).lo.fitsB && (constPi p).hi.fitsB) = true then (constPi p, 0) else (zeroIv, 3) else (zeroIv, 2)) = _
  rw [f1, f2]; rfl
/-- The document's. -/
def refPi (w : Int) : Vx := ivF (piR w) w
theorem refPi_iv {w : Int} (w0 : 32 ≤ w) (w1 : w ≤ 65536) : PiIv (p2 (23 - w)) (refPi w) := by
  obtain ⟨a0, e0, e1, _⟩ := piR_e w0 w1
  exact pi_iv w0 w1 (piR_enc w0 w1) a0 e0 e1
end Go.Proofs.YtdnbckfhfhfkoaaGreatDoor

namespace Go.Proofs.YtdnbckfhfhfkoaaGreatDoor
open Go.RowKit
def tyKn : TyRow := ⟨98, 2, true, [.lit .nilFunc, .bool false], .struct [(0, 1, false), (1, 1, false)]⟩
def tyKn8 : TyRow := ⟨99, 16, true, [.lit .nilFunc, .bool false, .lit .nilFunc, .bool false, .lit .nilFunc, .bool false, .lit .nilFunc, .bool false, .lit .nilFunc, .bool false, .lit .nilFunc, .bool false, .lit .nilFunc, .bool false, .lit .nilFunc, .bool false], .array 8 2 true⟩
def tyFn : TyRow := ⟨96, 1, false, [.lit .nilFunc], .func⟩
def tys5 : List TyRow := tyKn8 :: tyKn :: tyFn :: tys4
theorem tys5_ok : RowsOk Tryz.prog tys5 := ⟨by kernel_rfl, by kernel_rfl, by kernel_rfl, tys4_ok⟩
def tabL : List At := [.lit .nilFunc, .bool false, .fn 134 [], .bool false, .fn 135 [], .bool false, .fn 136 [], .bool false, .fn 137 [], .bool false, .fn 134 [], .bool true, .fn 135 [], .bool true, .fn 136 [], .bool true]
def cTable : Spec := specK [] (none, .sv (.agg tabL))
theorem cTable_vc  (Q : Tv → Prop) : execF ⟨tys5, []⟩ (fun _ => none) 0 Tryz.f106 [] Q = (Q (Tv.sv (Sv.agg [At.lit Value.nilFunc, At.bool false, At.fn 134 [], At.bool false, At.fn 135 [], At.bool false, At.fn 136 [], At.bool false, At.fn 137 [], At.bool false, At.fn 134 [], At.bool true, At.fn 135 [], At.bool true, At.fn 136 [], At.bool true]))) := by kernel_rfl
theorem cTable_ok : SpecOk Tryz.prog 106 cTable :=
  specK_ok (envOk (S := []) tys5_ok trivial) mixed Tryz.func106 rfl (by decide) (by decide) fun _ => ⟨fun _ => none, 0, by
    show execF _ _ _ _ _ (fun t => t = .sv (.agg tabL))
    exact (cTable_vc _).mpr rfl⟩
def sEc (tb : List At) (pr : Int → Prop) (fP : Int → Fx) (rf : Fx → Int → Vx) : List (FuncId × Spec) := [(106, specK [] (none, .sv (.agg tb))), (134, specK [.i .i64] fun (w : Int) => (some (pr w), fxT (fP w))), (107, specK [.fx, .i .i64] fun (x : Fw) (q : Int) => (some (x.Ok ∧ 0 ≤ q ∧ q ≤ 16777216), vT (rf x.f q)))]
theorem sEc_ok : SpecsOk Tryz.prog (sEc tabL (fun w => 32 ≤ w ∧ w ≤ 65536) piF ivF) := ⟨cTable_ok, cPi_ok, seIval_ok, trivial⟩
theorem cEnc_vc (p : Int) (pr : Int → Prop) (fP : Int → Fx) (rf : Fx → Int → Vx) (Q : Tv → Prop) : execF ⟨tys5, sEc tabL pr fP rf⟩ (fun _ => none) 0 Tryz.f72 [.one (.int .u8 1), .one (.int .i64 p)] Q = (inR (p + (64 : Int)) ∧ ((0 : Int) ≤ (1 : Int) ∧ (1 : Int) < (↑(8 : Nat) : Int)) ∧ pr (p + (64 : Int)) ∧ (Fw.Ok (fw (fP (p + (64 : Int)))) ∧ (0 : Int) ≤ p + (64 : Int) ∧ p + (64 : Int) ≤ (16777216 : Int)) ∧ Q (Tv.sv (Sv.agg (ivL true (rf (Fw.f (fw (fP (p + (64 : Int))))) (p + (64 : Int))))))) := by kernel_rfl
theorem piF_ok {w : Int} (w0 : 32 ≤ w) (w1 : w ≤ 65536) : (piF w).Ok := by
  obtain ⟨a0, e0, e1, a1⟩ := piF_e w0 w1
  have b : blen (piF w).a ≤ w.toNat + 5 + 1 := blen_pow_le (by
    rw [show (2 : Int) ^ (w.toNat + 5) = 2 ^ w.toNat * 32 by rw [Int.pow_add]; rfl]; omega)
  exact ⟨a0, by omega, e0, by omega⟩
def cEnc : Spec := specK [.i .u8, .i .i64] fun (k : Int) (p : Int) => (some (k = 1 ∧ 8 ≤ p ∧ p ≤ 65000), vT (encPi p))
theorem cEnc_ok : SpecOk Tryz.prog 72 cEnc :=
  specK_ok (envOk tys5_ok sEc_ok) mixed Tryz.func72 rfl (by decide) (by decide) fun (k : Int) _ (p : Int) _ hp => ⟨fun _ => none, 0, by
    obtain ⟨rfl, p0, p1⟩ : k = 1 ∧ 8 ≤ p ∧ p ≤ 65000 := hp
    show execF _ _ _ _ _ (fun t => t = vT (encPi p))
    have o := piF_ok (w := p + 64) (by omega) (by omega)
    refine (cEnc_vc p (fun w => 32 ≤ w ∧ w ≤ 65536) piF ivF _).mpr ⟨⟨by omega, by omega⟩, ⟨by omega, by omega⟩, ⟨by omega, by omega⟩, ⟨o.w, by omega, by omega⟩, ?_⟩
    rw [fw_f o.1]; rfl⟩
def sCo (pr : Int → Prop) (en : Int → Vx) (cu : Vx → Int → Vx × Int) : List (FuncId × Spec) := [(72, specK [.i .u8, .i .i64] fun (k : Int) (p : Int) => (some (k = 1 ∧ pr p), vT (en p))), (73, rTrim), (74, specK [.v, .i .i64] fun (v : Vx) (p : Int) => (none, reT (cu v p)))]
theorem cIs_vc (k : Int) (Q : Tv → Prop) : execF ⟨tys5, []⟩ (fun _ => none) 0 Tryz.f71 [.one (.int .u8 k)] Q = (br (ltI (0 : Int) k) (Q (bT (ltI k (8 : Int)))) (Q (bT false))) := by kernel_rfl
def cIs : Spec := specK [.i .u8] fun (k : Int) => (none, bT (ltI 0 k && ltI k 8))
theorem cIs_ok : SpecOk Tryz.prog 71 cIs :=
  specK_ok (envOk (S := []) tys5_ok trivial) mixed Tryz.func71 rfl (by decide) (by decide) fun (k : Int) _ _ => ⟨fun _ => none, 0, by
    show execF _ _ _ _ _ (fun t => t = bT (ltI 0 k && ltI k 8))
    refine (cIs_vc k _).mpr (br_intro (fun h => ?_) fun h => ?_)
    · rw [h]; rfl
    · rw [h]; rfl⟩
theorem cConst_vc (p : Int) (pr : Int → Prop) (en : Int → Vx) (cu : Vx → Int → Vx × Int) (Q : Tv → Prop) : execF ⟨tys5, (71, cIs) :: sCo pr en cu⟩ (fun _ => none) 0 Tryz.f27 [.one (.int .u8 1), .one (.int .i64 p)] Q = (br (ltI p (8 : Int)) (Q (Tv.tup [Sv.agg [At.bool false, At.words true [], At.int .i64 0, At.bool false, At.words true [], At.int .i64 0], Sv.one (At.int .i64 2)])) (br (ltI (8192 : Int) p) (Q (Tv.tup [Sv.agg [At.bool false, At.words true [], At.int .i64 0, At.bool false, At.words true [], At.int .i64 0], Sv.one (At.int .i64 2)])) (((1 : Int) = (1 : Int) ∧ pr p) ∧ inR (p + (8 : Int)) ∧ br (ltI (8192 : Int) (p + (8 : Int))) (inR (p + (8 : Int)) ∧ (Vx.Sm (34359738368 : Nat) (en p) ∧ (0 : Int) ≤ p + (8 : Int) ∧ p + (8 : Int) ≤ (1099511627776 : Int)) ∧ Q (Tv.tup [Sv.agg (ivL true (trimV (en p) (p + (8 : Int)))), Sv.one (At.int .i64 0)])) (inR (p + (8 : Int)) ∧ Q (Tv.tup [Sv.agg (ivL false (cu (en p) (p + (8 : Int))).fst), Sv.one (At.int .i64 (cu (en p) (p + (8 : Int))).snd)]))))) := by kernel_rfl
def constR (p : Int) : Vx × Int := if 8 ≤ p ∧ p ≤ 8192 then (constPi p, 0) else (zeroIv, 2)
def cConst : Spec := specK [.i .u8, .i .i64] fun (k : Int) (p : Int) => (some (k = 1), reT (constR p))
theorem sCo_ok : SpecsOk Tryz.prog ((71, cIs) :: sCo (fun p => 8 ≤ p ∧ p ≤ 65000) encPi ivCut) := ⟨cIs_ok, cEnc_ok, rTrim_ok, vXCut_ok, trivial⟩
theorem cConst_ok : SpecOk Tryz.prog 27 cConst :=
  specKW_ok (envOk tys5_ok sCo_ok) mixed Tryz.func27 rfl (by decide) (by decide) fun (k : Int) _ (p : Int) _ hp => ⟨fun _ => none, 0, by
    obtain rfl : k = 1 := hp
    show execF _ _ _ _ _ (fun t => t = reT (constR p) ∨ fgT t = reT (constR p))
    refine (cConst_vc p (fun p => 8 ≤ p ∧ p ≤ 65000) encPi ivCut _).mpr (br_intro (fun h1 => .inr ?_) fun h1 => br_intro (fun h2 => .inr ?_) fun h2 => ?_)
    · rw [constR, if_neg (by have := ltI_true.1 h1; omega)]; rfl
    · rw [constR, if_neg (by have := ltI_true.1 h2; omega)]; rfl
    · have h1 := ltI_false.1 h1
      have h2 := ltI_false.1 h2
      refine ⟨⟨rfl, by omega, by omega⟩, ⟨by omega, by omega⟩, br_intro (fun h3 => ⟨⟨by omega, by omega⟩, ⟨(right_sm (encPi_right (p := p) (by omega) (by omega))).mono (by omega), by omega, by omega⟩, .inr ?_⟩) fun h3 => ⟨⟨by omega, by omega⟩, .inl ?_⟩⟩
      · rw [constR, if_pos ⟨by omega, by omega⟩]; rfl
      · rw [constR, if_pos ⟨by omega, by omega⟩, constPi_cut (by omega) (by have := ltI_false.1 h3; omega)]; rfl⟩
end Go.Proofs.YtdnbckfhfhfkoaaGreatDoor

namespace Go.Proofs.YtdnbckfhfhfkoaaGreatDoor
open Go.RowKit
/-- An enclosure of half of pi, at most d wide. -/
structure HfIv (d : Rat) (h : Vx) : Prop where
  p : h.P
  enc : Enc piS (2 * h.lo.rv) (2 * h.hi.rv)
  lo : 3 / 2 ≤ h.lo.rv
  hi : h.hi.rv ≤ 2
  nar : h.hi.rv ≤ h.lo.rv + d
theorem HfIv.le {d : Rat} {h : Vx} (k : HfIv d h) : h.lo.rv ≤ h.hi.rv := by have := k.enc.self; grind
theorem HfIv.off {d : Rat} {h : Vx} (k : HfIv d h) : Off0 h := .inl (by have := k.lo; grind)
theorem p2_m1 : p2 (-1) = 1 / 2 := by decide +kernel
theorem PiIv.half {d : Rat} {v : Vx} (h : PiIv d v) : HfIv (d / 2) (scaleV v (-1)) := by
  have r1 : (scaleV v (-1)).lo.rv = v.lo.rv * (1 / 2) := by rw [← p2_m1]; exact rv_shift h.p.1
  have r2 : (scaleV v (-1)).hi.rv = v.hi.rv * (1 / 2) := by rw [← p2_m1]; exact rv_shift h.p.2
  have l := h.lo
  have k := h.hi
  have n := h.nar
  have e1 : 2 * (scaleV v (-1)).lo.rv = v.lo.rv := by rw [r1]; grind
  have e2 : 2 * (scaleV v (-1)).hi.rv = v.hi.rv := by rw [r2]; grind
  exact ⟨⟨shiftD_p, shiftD_p⟩, by rw [e1, e2]; exact h.enc, by grind, by grind, by grind⟩
/-- Two of them have a number in common. -/
theorem HfIv.common {d d' : Rat} {u v : Vx} (h : HfIv d u) (k : HfIv d' v) : ∃ c : Rat, InV u c ∧ InV v c ∧ 3 / 2 ≤ c ∧ c ≤ 2 := by
  have m1 := h.enc.meets k.enc
  have m2 := k.enc.meets h.enc
  have l1 := h.le
  have l2 := k.le
  have a1 := h.lo
  have a2 := k.lo
  have b1 := h.hi
  have b2 := k.hi
  rcases (show u.lo.rv ≤ v.lo.rv ∨ v.lo.rv ≤ u.lo.rv by grind) with c | c
  · exact ⟨v.lo.rv, ⟨c, by grind⟩, ⟨by grind, l2⟩, a2, by grind⟩
  · exact ⟨u.lo.rv, ⟨by grind, l1⟩, ⟨c, by grind⟩, a1, by grind⟩
/-! ### The parts of a try. -/
def quoW (h : Vx) (x : Dx) (w : Int) : Vx := divV (pointV x) h w
def nW (h : Vx) (x : Dx) (w : Int) : Dx := nearD (quoW h x w).lo
def restW (h : Vx) (x : Dx) (w : Int) : Vx := lessV (pointV x) (timesV (pointV (nW h x w)) h (w + 64)) w
def sureW (h : Vx) (x : Dx) (w : Int) : Bool := eqI (cmpD (nW h x w) (nearD (quoW h x w).hi)) 0
def nI (h : Vx) (x : Dx) (w : Int) : Int := wholeS (nW h x w)
def tryW (h : Vx) (x : Dx) (p w : Int) : Int × Vx × Bool := if sureW h x w = true then (by4I (nW h x w), restW h x w, narrowV (restW h x w) p) else (0, zeroIv, false)
theorem pointV_in {x : Dx} (hx : 0 ≤ x.m) : InV (pointV x) x.rv := ⟨by show (oneD x).rv ≤ _; rw [rv_one hx]; exact Rat.le_refl, by show _ ≤ (oneD x).rv; rw [rv_one hx]; exact Rat.le_refl⟩
theorem pointV_rv {x : Dx} (hx : 0 ≤ x.m) : (pointV x).lo.rv = x.rv ∧ (pointV x).hi.rv = x.rv := ⟨rv_one hx, rv_one hx⟩
section
variable {d : Rat} {h : Vx} (k : HfIv d h) {x : Dx} (hx : 0 ≤ x.m) {w : Int} (hw : 1 ≤ w)
include k hx hw
theorem quoW_in {c : Rat} (hc : InV h c) : InV (quoW h x w) (x.rv * c⁻¹) := div_in (pointV_p x) k.p k.off hw (pointV_in hx) hc
omit k hx hw in
theorem nW_near : NearI (nI h x w) (quoW h x w).lo.rv := nearD_whole (divV_p _ _ _).1
theorem sure_near (hs : sureW h x w = true) {c : Rat} (hc : InV h c) : NearI (nI h x w) (x.rv * c⁻¹) := by
  have n1 := nW_near (h := h) (x := x) (w := w)
  have n2 := nearD_whole (d := (quoW h x w).hi) (divV_p _ _ _).2
  have e : wholeS (nW h x w) = wholeS (nearD (quoW h x w).hi) := nearD_eq.1 (cmpD_eq0.1 (eqI_true.1 hs))
  have e' : nI h x w = wholeS (nearD (quoW h x w).hi) := e
  rw [← e'] at n2
  obtain ⟨a, b⟩ := quoW_in k hx hw hc
  obtain ⟨a1, a2, a3⟩ := n1
  obtain ⟨b1, b2, b3⟩ := n2
  refine ⟨by grind, by grind, fun h => ?_⟩
  rcases h with h | h
  · exact a3 (.inl (by grind))
  · exact b3 (.inr (by grind))
theorem rest_in {c : Rat} (hc : InV h c) : InV (restW h x w) (x.rv - (nI h x w : Rat) * c) := by
  have en : (nW h x w).rv = (nI h x w : Rat) := (wholeS_rv nearD_e).symm
  have np : 0 ≤ (nW h x w).m := nearD_p
  obtain ⟨a1, a2⟩ := prod_in (pointV_p (nW h x w)) k.p (pointV_in np) hc
  rw [en] at a1 a2
  obtain ⟨t1, t2⟩ := times_best (v := pointV (nW h x w)) (u := h) (p := w + 64) (by omega) (pointV_p _) k.p
  have t1' := t1.2.1
  have t2' := t2.2.1
  obtain ⟨l1, l2⟩ := less_best (v := pointV x) (u := timesV (pointV (nW h x w)) h (w + 64)) (pointV_p x) (trimV_p _ _) hw
  obtain ⟨p1, p2⟩ := pointV_rv hx
  have l1' := l1.2.1
  have l2' := l2.2.1
  constructor
  · show (restW h x w).lo.rv ≤ _
    have : (restW h x w).lo.rv ≤ (pointV x).lo.rv - (timesV (pointV (nW h x w)) h (w + 64)).hi.rv := l1'
    grind
  · show _ ≤ (restW h x w).hi.rv
    have : (pointV x).hi.rv - (timesV (pointV (nW h x w)) h (w + 64)).lo.rv ≤ (restW h x w).hi.rv := l2'
    grind
end
theorem by4_mod {h : Vx} {x : Dx} {w : Int} : by4I (nW h x w) = nI h x w % 4 := rfl
/-! ### Sizes. -/
theorem rp_p2 {p : Int} (k : Int) (hp : 1 ≤ p) : Rp p (p2 k) ∧ Rp p (-(p2 k)) := by
  have e1 : ((1 : Int) : Rat) = 1 := rfl
  have a := p2_le hp
  have b := p2_pos p
  rw [p2_one] at a
  have h : Rp p (p2 k) := ⟨1, k, by rw [e1, Rat.one_mul], by rw [e1]; grind, by rw [e1]; grind⟩
  exact ⟨h, h.neg⟩
theorem inv_le1 {c : Rat} (h : 3 / 2 ≤ c) : 0 < c⁻¹ ∧ c⁻¹ ≤ 2 / 3 := by
  have hc : 0 < c := by grind
  have p := Rat.inv_pos.2 hc
  have e := Rat.inv_mul_cancel c (by grind)
  have m := Rat.mul_le_mul_of_nonneg_left h (Rat.le_of_lt p)
  exact ⟨p, by grind⟩
theorem quoW_bd {d : Rat} {h : Vx} (k : HfIv d h) {x : Dx} (hx : 0 ≤ x.m) {w : Int} (hw : 1 ≤ w) {K : Int} (h1 : x.rv < p2 K) (h2 : -(p2 K) < x.rv) :
    -(p2 K) ≤ (quoW h x w).lo.rv ∧ (quoW h x w).lo.rv ≤ p2 K ∧ -(p2 K) ≤ (quoW h x w).hi.rv ∧ (quoW h x w).hi.rv ≤ p2 K := by
  obtain ⟨⟨a, b, hc, e1⟩, ⟨a', b', hc', e2⟩⟩ := div_at (pointV x) h w
  obtain ⟨p1, p2'⟩ := pointV_rv hx
  have ra : ∀ {a b : Dx}, Cor (pointV x) h a b → a.rv = x.rv ∧ 3 / 2 ≤ b.rv := fun {a b} hc => by
    have l := k.lo
    have le := k.le
    rcases hc.1 with e | e <;> rcases hc.2 with e' | e' <;> rw [e, e'] <;> exact ⟨by first | exact p1 | exact p2', by grind⟩
  have bd : ∀ {a b : Dx}, Cor (pointV x) h a b → -(p2 K) ≤ a.rv * b.rv⁻¹ ∧ a.rv * b.rv⁻¹ ≤ p2 K := fun {a b} hc => by
    obtain ⟨r1, r2⟩ := ra hc
    obtain ⟨i0, i1⟩ := inv_le1 r2
    rw [r1]
    have q := p2_pos K
    rcases (show 0 ≤ x.rv ∨ x.rv ≤ 0 by grind) with s | s
    · have m1 := Rat.mul_le_mul_of_nonneg_left (show b.rv⁻¹ ≤ 1 by grind) s
      have m0 := Rat.mul_nonneg s (Rat.le_of_lt i0)
      constructor <;> grind
    · have m1 := Rat.mul_le_mul_of_nonneg_left (show b.rv⁻¹ ≤ 1 by grind) (show 0 ≤ -x.rv by grind)
      have m0 := Rat.mul_nonneg (show 0 ≤ -x.rv by grind) (Rat.le_of_lt i0)
      constructor <;> grind
  obtain ⟨rp1, rp2⟩ := rp_p2 (p := w) K hw
  have c1 := (hc.best (pointV_p x) k.p k.off k.le hw).2.1
  have c2 := (hc'.best (pointV_p x) k.p k.off k.le hw).2.2
  have b1 := bd hc
  have b2 := bd hc'
  have l1 := c1.2.2 _ rp2 b1.1
  have l2 := c2.2.2 _ rp1 b2.2
  have u1 := c1.2.1
  have u2 := c2.2.1
  show _ ≤ (divV (pointV x) h w).lo.rv ∧ (divV (pointV x) h w).lo.rv ≤ _ ∧ _ ≤ (divV (pointV x) h w).hi.rv ∧ (divV (pointV x) h w).hi.rv ≤ _
  rw [e1, e2]
  exact ⟨l1, by grind, by grind, l2⟩
theorem whole_sm {z : Dx} (f : OneF z) (e0 : 0 ≤ z.e) {K : Nat} (h : (z.m : Rat) * p2 z.e < p2 K) : z.Sm K := by
  have m0 := f.p
  by_cases hz : z.m = 0
  · rw [f.zero hz]; exact ⟨by show blen (val []) ≤ K; rw [show val [] = 0 from rfl]; exact Nat.zero_le _, by show -(K : Int) ≤ 0; omega, by show (0 : Int) ≤ K; omega⟩
  · have g := amt_ge (m := z.m) (e := z.e) (by omega)
    have := p2_lt_iff.1 (show p2 (z.e + (blen z.m : Int) - 1) < p2 K by grind)
    have b := blen_pos (show 0 < z.m by omega)
    exact ⟨by omega, by omega, by omega⟩
theorem nW_sm {d : Rat} {h : Vx} (k : HfIv d h) {x : Dx} (hx : 0 ≤ x.m) {w : Int} (hw : 1 ≤ w) {K : Nat} (h1 : x.rv < p2 K) (h2 : -(p2 K) < x.rv) : (nW h x w).Sm (K + 1) := by
  obtain ⟨b1, b2, _, _⟩ := quoW_bd k hx hw h1 h2
  obtain ⟨n1, n2, _⟩ := nW_near (h := h) (x := x) (w := w)
  have en : (nW h x w).rv = (nI h x w : Rat) := (wholeS_rv nearD_e).symm
  rw [← en] at n1 n2
  have f : OneF (nW h x w) := nearD_f
  refine whole_sm f nearD_e ?_
  have q0 : 1 ≤ p2 (K : Int) := by
    have := p2_le (show (0 : Int) ≤ K by omega)
    rwa [p2_zero] at this
  have q1 : p2 ((K + 1 : Nat) : Int) = 2 * p2 K := by
    rw [show ((K + 1 : Nat) : Int) = 1 + (K : Int) by omega, p2_add, p2_one]
  obtain ⟨r1, r2⟩ := rv_amt f.p
  rw [q1]
  rcases (show 0 ≤ (nW h x w).rv ∨ (nW h x w).rv ≤ 0 by grind) with s | s
  · rw [← r1 s]; grind
  · rw [← r2 s]; grind
theorem quoW_sm {h : Vx} {x : Dx} {w : Int} {N : Nat} (hx : 0 ≤ x.m) (hp : h.P) (sx : x.Sm N) (sh : h.Sm (N + N)) (w0 : 0 ≤ w) (w1 : w ≤ N) : (quoW h x w).Sm (200 * N + 100) := by
  have z := pointV_sm hx sx
  have o : ∀ {a b : Dx} {up : Bool}, Cor (pointV x) h a b → (overD a b w up).Sm (200 * N + 100) := fun {a b up} hc => by
    have ha : 0 ≤ a.m ∧ a.Sm (N + N) := by rcases hc.1 with e | e <;> rw [e] <;> exact ⟨oneD_p, z.1⟩
    have hb : 0 ≤ b.m ∧ b.Sm (N + N) := by rcases hc.2 with e | e <;> rw [e]; exact ⟨hp.1, sh.1⟩; exact ⟨hp.2, sh.2⟩
    exact (overD_sm (up := up) ha.1 hb.1 ha.2 hb.2 w0 (by omega)).mono (by omega)
  obtain ⟨⟨a, b, hc, e1⟩, ⟨a', b', hc', e2⟩⟩ := div_at (pointV x) h w
  constructor
  · show (divV (pointV x) h w).lo.Sm _
    rw [e1]; exact o hc
  · show (divV (pointV x) h w).hi.Sm _
    rw [e2]; exact o hc'
end Go.Proofs.YtdnbckfhfhfkoaaGreatDoor

namespace Go.Proofs.YtdnbckfhfhfkoaaGreatDoor
open Go.RowKit
structure Dx.Bd (L T : Int) (d : Dx) : Prop where
  l0 : 0 ≤ L
  t0 : 0 ≤ T
  lo : -L ≤ d.e
  hi : d.e + blen d.m ≤ T
theorem Dx.Bd.mono {L T L' T' : Int} {d : Dx} (h : d.Bd L T) (hl : L ≤ L') (ht : T ≤ T') : d.Bd L' T' := by
  obtain ⟨a, b, c, e⟩ := h
  exact ⟨by omega, by omega, by omega, by omega⟩
theorem Dx.Bd.sm {L T : Int} {d : Dx} (h : d.Bd L T) {N : Nat} (hn : L + T ≤ N) : d.Sm N := by
  obtain ⟨a, b, c, e⟩ := h
  exact ⟨by omega, by omega, by omega⟩
theorem mkD_bd {neg : Bool} {m e L T : Int} (h : 0 ≤ m) (l0 : 0 ≤ L) (t0 : 0 ≤ T) (hl : -L ≤ e) (ht : e + blen m ≤ T) : (mkD neg m e).Bd L T := by
  by_cases hz : m = 0
  · subst hz; rw [mkD_zero]
    exact ⟨l0, t0, by show -L ≤ 0; omega, by show (0 : Int) + blen (val []) ≤ T; rw [show blen (val []) = 0 from rfl]; omega⟩
  · have hp : 0 < m := by omega
    have hm := mkD_m (neg := neg) (e := e) h
    have he : (mkD neg m e).e = e + tz m := by unfold mkD; rw [if_neg hz]
    obtain ⟨q, hq, hq2⟩ := tz_spec hp
    have p := two_pow_pos (tz m)
    generalize tz m = t at *
    have hdiv : m / 2 ^ t = 2 * q + 1 := by rw [hq2, Int.mul_ediv_cancel_left _ (by omega)]
    have hb : blen m = blen (2 * q + 1) + t := by
      rw [hq2, Int.mul_comm]
      exact blen_mul_pow (by omega) _
    refine ⟨l0, t0, by rw [he]; omega, ?_⟩
    rw [he, hm, hdiv]; omega
theorem mkS_bd {s e L T : Int} (l0 : 0 ≤ L) (t0 : 0 ≤ T) (hl : -L ≤ e) (ht : e + blen (s.natAbs : Int) ≤ T) : (mkS s e).Bd L T := mkD_bd (by omega) l0 t0 hl ht
theorem Dx.Bd.one {L T : Int} {d : Dx} (hd : 0 ≤ d.m) (h : d.Bd L T) : (oneD d).Bd L T := mkD_bd hd h.l0 h.t0 h.lo h.hi
theorem Dx.Bd.neg {L T : Int} {d : Dx} (hd : 0 ≤ d.m) (h : d.Bd L T) : (negD d).Bd L T := mkD_bd hd h.l0 h.t0 h.lo h.hi
theorem Dx.Bd.shift {L T n L' T' : Int} {d : Dx} (hd : 0 ≤ d.m) (h : d.Bd L T) (l0 : 0 ≤ L') (t0 : 0 ≤ T') (hl : L - n ≤ L') (ht : T + n ≤ T') : (shiftD d n).Bd L' T' :=
  mkD_bd hd l0 t0 (by have := h.lo; omega) (by have := h.hi; omega)
theorem Dx.Bd.times {L T L' T' : Int} {a b : Dx} (ha : 0 ≤ a.m) (hb : 0 ≤ b.m) (h : a.Bd L T) (k : b.Bd L' T') : (timesD a b).Bd (L + L') (T + T') := by
  have := blen_mul ha hb
  obtain ⟨a1, a2, a3, a4⟩ := h
  obtain ⟨b1, b2, b3, b4⟩ := k
  exact mkD_bd (Int.mul_nonneg ha hb) (by omega) (by omega) (by omega) (by omega)
theorem blen_scl {d : Dx} (hd : 0 ≤ d.m) (k : Nat) : (blen ((d.sm * 2 ^ k).natAbs : Int) : Int) ≤ blen d.m + k := by
  rw [sm_abs hd]
  by_cases h : d.m = 0
  · rw [h, Int.zero_mul]; show ((0 : Nat) : Int) ≤ _; omega
  · rw [blen_mul_pow (by omega)]; omega
theorem Dx.Bd.plusX {L T : Int} {a b : Dx} (ha : 0 ≤ a.m) (hb : 0 ≤ b.m) (h : a.Bd L T) (k : b.Bd L T) : (plusX a b).Bd L (T + 1) := by
  obtain ⟨l0, t0, a1, a2⟩ := h
  obtain ⟨_, _, b1, b2⟩ := k
  unfold Go.Proofs.YtdnbckfhfhfkoaaGreatDoor.plusX
  split
  · exact ⟨l0, by omega, b1, by omega⟩
  · split
    · exact ⟨l0, by omega, a1, by omega⟩
    · have c1 := blen_scl ha (a.e - min a.e b.e).toNat
      have c2 := blen_scl hb (b.e - min a.e b.e).toNat
      obtain ⟨N, hN⟩ : ∃ N : Nat, (N : Int) = max (T - min a.e b.e) 0 := ⟨(max (T - min a.e b.e) 0).toNat, by omega⟩
      have d := blen_natAbs_add (X := a.sm * 2 ^ (a.e - min a.e b.e).toNat) (Y := b.sm * 2 ^ (b.e - min a.e b.e).toNat) (N := N) (by omega) (by omega)
      refine mkS_bd l0 (by omega) (by omega) ?_
      omega
theorem Dx.Bd.plus {L T : Int} {a b : Dx} (ha : 0 ≤ a.m) (hb : 0 ≤ b.m) (h : a.Bd L T) (k : b.Bd L T) : (plusD a b).Bd L (T + 1) := Dx.Bd.plusX oneD_p oneD_p (h.one ha) (k.one hb)
theorem Dx.Bd.less {L T : Int} {a b : Dx} (ha : 0 ≤ a.m) (hb : 0 ≤ b.m) (h : a.Bd L T) (k : b.Bd L T) : (lessD a b).Bd L (T + 1) := h.plus ha negD_p (k.neg hb)
theorem Dx.Bd.cut {L T : Int} {d : Dx} {p : Int} {up : Bool} (hd : 0 ≤ d.m) (hp : 0 ≤ p) (h : d.Bd L T) : (cutD d p up).Bd L (T + 1) := by
  have m0 := oneD_p (d := d)
  obtain ⟨l0, t0, a1, a2⟩ := h.one hd
  unfold cutD cutX
  split
  · exact ⟨l0, by omega, a1, by omega⟩
  · rename_i hn
    have p0 := two_pow_pos ((blen (oneD d).m : Int) - p).toNat
    have q0 : 0 ≤ (oneD d).m / 2 ^ ((blen (oneD d).m : Int) - p).toNat := Int.ediv_nonneg m0 (by omega)
    have hb : (blen ((oneD d).m / 2 ^ ((blen (oneD d).m : Int) - p).toNat + if up == (oneD d).neg then 0 else 1) : Int) ≤ max (blen (oneD d).m - ((blen (oneD d).m : Int) - p)) 0 + 1 := by
      obtain ⟨N, hN⟩ : ∃ N : Nat, (N : Int) = max (blen (oneD d).m - ((blen (oneD d).m : Int) - p)) 0 := ⟨(max (blen (oneD d).m - ((blen (oneD d).m : Int) - p)) 0).toNat, by omega⟩
      have q1 : (oneD d).m / 2 ^ ((blen (oneD d).m : Int) - p).toNat < 2 ^ N := by
        refine Int.ediv_lt_of_lt_mul p0 ?_
        rw [← Int.pow_add]
        exact Int.lt_of_lt_of_le (blen_lt _) (two_pow_le (by omega))
      have : blen ((oneD d).m / 2 ^ ((blen (oneD d).m : Int) - p).toNat + if up == (oneD d).neg then 0 else 1) ≤ N + 1 := blen_le (by
        rw [Int.pow_succ]; have := two_pow_pos N; split <;> omega)
      omega
    refine mkD_bd (by split <;> omega) l0 (by omega) (by omega) ?_
    omega
/-- Intervals. -/
def Vx.Bd (L T : Int) (v : Vx) : Prop := v.lo.Bd L T ∧ v.hi.Bd L T
theorem Vx.Bd.sm {L T : Int} {v : Vx} (h : v.Bd L T) {N : Nat} (hn : L + T ≤ N) : v.Sm N := ⟨h.1.sm hn, h.2.sm hn⟩
theorem Vx.Bd.mono {L T L' T' : Int} {v : Vx} (h : v.Bd L T) (hl : L ≤ L') (ht : T ≤ T') : v.Bd L' T' := ⟨h.1.mono hl ht, h.2.mono hl ht⟩
theorem Vx.Bd.trim {L T : Int} {v : Vx} {p : Int} (hv : v.P) (hp : 0 ≤ p) (h : v.Bd L T) : (trimV v p).Bd L (T + 1) := ⟨h.1.cut hv.1 hp, h.2.cut hv.2 hp⟩
theorem Dx.Bd.point {L T : Int} {d : Dx} (hd : 0 ≤ d.m) (h : d.Bd L T) : (pointV d).Bd L T := ⟨h.one hd, h.one hd⟩
theorem Vx.Bd.turn {L T : Int} {v : Vx} (hv : v.P) (h : v.Bd L T) : (turnV v).Bd L T := ⟨h.2.neg hv.2, h.1.neg hv.1⟩
theorem Vx.Bd.plus {L T : Int} {v u : Vx} {p : Int} (hv : v.P) (hu : u.P) (hp : 0 ≤ p) (h : v.Bd L T) (k : u.Bd L T) : (plusV v u p).Bd L (T + 1 + 1) := Vx.Bd.trim (v := sumV v u) ⟨plusD_p, plusD_p⟩ hp ⟨h.1.plus hv.1 hu.1 k.1, h.2.plus hv.2 hu.2 k.2⟩
theorem Vx.Bd.less {L T : Int} {v u : Vx} {p : Int} (hv : v.P) (hu : u.P) (hp : 0 ≤ p) (h : v.Bd L T) (k : u.Bd L T) : (lessV v u p).Bd L (T + 1 + 1) := h.plus (u := turnV u) hv ⟨negD_p, negD_p⟩ hp (k.turn hu)
theorem spanS_bd {L T : Int} {v : Vx} {d : Dx} (h : v.Bd L T) (k : d.Bd L T) : (spanS v d).Bd L T := by
  unfold spanS
  constructor
  · show (if cmpD d v.lo < 0 then d else v.lo).Bd L T
    split
    · exact k
    · exact h.1
  · show (if 0 < cmpD d v.hi then d else v.hi).Bd L T
    split
    · exact k
    · exact h.2
theorem Vx.Bd.times {L T L' T' : Int} {v u : Vx} {p : Int} (hv : v.P) (hu : u.P) (hp : 0 ≤ p) (h : v.Bd L T) (k : u.Bd L' T') : (timesV v u p).Bd (L + L') (T + T' + 1) :=
  Vx.Bd.trim (prodV_p v u) hp (spanS_bd (spanS_bd (spanS_bd ⟨h.1.times hv.1 hu.1 k.1, h.1.times hv.1 hu.1 k.1⟩ (h.1.times hv.1 hu.2 k.2)) (h.2.times hv.2 hu.1 k.1)) (h.2.times hv.2 hu.2 k.2))
theorem fits_bd {d : Dx} (h : d.fitsB = true) : d.Bd 32768 98304 := by
  have e := fits_e h
  have := (fits_sm h).1
  exact ⟨by omega, by omega, by omega, by omega⟩
end Go.Proofs.YtdnbckfhfhfkoaaGreatDoor

namespace Go.Proofs.YtdnbckfhfhfkoaaGreatDoor
open Go.RowKit
def tyFI : TyRow := ⟨60, 1, false, [.lit .nilFunc], .func⟩
def tys6 : List TyRow := tyFI :: tys5
theorem tys6_ok : RowsOk Tryz.prog tys6 := ⟨by kernel_rfl, tys5_ok⟩
def qPiW (co : Int → Vx × Int) : Spec := specK [.i .i64] fun (w : Int) => (none, reT (co w))
def sQp (co : Int → Vx × Int) : List (FuncId × Spec) := [(27, specK [.i .u8, .i .i64] fun (k : Int) (p : Int) => (some (k = 1), reT (co p)))]
theorem sQp_ok : SpecsOk Tryz.prog (sQp constR) := ⟨cConst_ok, trivial⟩
theorem qPi_vc (w : Int) (co : Int → Vx × Int) (Q : Tv → Prop) : execF ⟨tys6, sQp co⟩ (fun _ => none) 0 Tryz.f48 [.one (.int .i64 w)] Q = ((1 : Int) = (1 : Int) ∧ Q (Tv.tup [Sv.agg (ivL false (co w).fst), Sv.one (At.int .i64 (co w).snd)])) := by kernel_rfl
theorem qPi_ok : SpecOk Tryz.prog 48 (qPiW constR) :=
  specK_ok (envOk tys6_ok sQp_ok) mixed Tryz.func48 rfl (by decide) (by decide) fun (w : Int) _ _ => ⟨fun _ => none, 0, (qPi_vc w constR _).mpr ⟨rfl, rfl⟩⟩
def sRed : List (FuncId × Spec) := [(62, rNear), (65, rBy4), (84, rInt)] ++ sRaw8
theorem sRed_ok : SpecsOk Tryz.prog sRed := ⟨rNear_ok, rBy4_ok, rInt_ok, sRaw8_ok⟩
def halfP (w : Int) : Vx := scaleV (constPi w) (-1)
theorem halfP_hf {w : Int} (w0 : 8 ≤ w) (w1 : w ≤ 65000) : HfIv (p2 (-3 - w) / 2) (halfP w) := (constPi_iv w0 w1).half
theorem blen32 {a w : Int} (w0 : 0 ≤ w) (h : a < 64 * 2 ^ w.toNat) : (blen a : Int) ≤ w + 6 := by
  have : blen a ≤ w.toNat + 6 := blen_le (by rw [Int.pow_add]; have : (2 : Int) ^ 6 = 64 := by decide
                                             rw [this]; omega)
  omega
theorem pow_ge {w : Int} (w0 : 64 ≤ w) (w1 : w ≤ 65536) : 80 * w + 320 ≤ 2 ^ w.toNat := by
  obtain ⟨k, hk⟩ : ∃ k : Nat, w = k + 32 := ⟨(w - 32).toNat, by omega⟩
  have pb := pow_big k
  rw [show w.toNat = k + 32 by omega]; omega
theorem ivF_bd {z : Fx} {w : Int} (w0 : 64 ≤ w) (w1 : w ≤ 65536) (a0 : 0 ≤ z.a) (e0 : 0 ≤ z.e) (e1 : z.e ≤ 80 * w + 320) (a1 : z.a ≤ 32 * 2 ^ w.toNat) : (ivF z w).Bd w 7 := by
  have g := pow_ge w0 w1
  have b1 := blen32 (a := z.a) (w := w) (by omega) (by omega)
  have b2 := blen32 (a := z.a + z.e) (w := w) (by omega) (by omega)
  exact ⟨mkD_bd a0 (by omega) (by omega) (by omega) (by omega), mkD_bd (by omega) (by omega) (by omega) (by omega) (by omega)⟩
theorem Vx.Bd.scale1 {L T : Int} {v : Vx} (hv : v.P) (h : v.Bd L T) : (scaleV v (-1)).Bd (L + 1) T := ⟨h.1.shift hv.1 (by have := h.1.l0; omega) h.1.t0 (by omega) (by omega), h.2.shift hv.2 (by have := h.1.l0; omega) h.1.t0 (by omega) (by omega)⟩
theorem constPi_bd {w : Int} (w0 : 8 ≤ w) (w1 : w ≤ 16384) : (constPi w).Bd (w + 64) 8 := by
  obtain ⟨a0, e0, e1, a1⟩ := piF_e (w := w + 64) (by omega) (by omega)
  exact Vx.Bd.trim (encPi_iv w0 (by omega)).p (by omega) (ivF_bd (by omega) (by omega) a0 e0 e1 a1)
theorem halfP_bd {w : Int} (w0 : 8 ≤ w) (w1 : w ≤ 16384) : (halfP w).Bd (w + 65) 8 := Vx.Bd.mono ((constPi_bd w0 w1).scale1 (constPi_iv w0 (show w ≤ 65000 by omega)).p) (by omega) (by omega)
/-- What a try tells. -/
def tryT (r : Int × Vx × Bool) : Tv := .tup [.one (.int .i64 r.1), .agg (ivL true r.2.1), .one (.bool r.2.2)]
def inX (x : Dx) : Prop := x.Bd 32768 98304 ∧ x.rv < p2 (1024 : Nat) ∧ -(p2 (1024 : Nat)) < x.rv
def wTry (pr : Dx → Int → Int → Prop) (g : Dx → Int → Int → Int × Vx × Bool) : Spec := fun l => match l with
  | [.agg [.bool ng, .words false xs, .int .i64 e], .one (.int .i64 p), .one (.int .i64 w), .one (.fn n [])] => (match Nat.beq n 48 with
    | true => (some (pr ⟨ng, xs, e⟩ p w), tryT (g ⟨ng, xs, e⟩ p w))
    | false => noSpec)
  | _ => noSpec
theorem qTry_vc (x : Dx) (p w : Int) (co : Int → Vx × Int) (Q : Tv → Prop) : execF ⟨tys6, (48, qPiW co) :: sRed⟩ (fun _ => none) 0 Tryz.f49 [.agg (dyL false x), .one (.int .i64 p), .one (.int .i64 w), .one (.fn 48 [])] Q = (br (neI (co w).snd (0 : Int)) (Q (Tv.tup [Sv.one (At.int .i64 0), Sv.agg [At.bool false, At.words true [], At.int .i64 0, At.bool false, At.words true [], At.int .i64 0], Sv.one (At.bool false)])) ((eB (2305843009213693952 : Int) (co w).fst.lo ∧ eB (2305843009213693952 : Int) (co w).fst.hi ∧ (-2305843009213693952 : Int) ≤ (-1 : Int) ∧ (-1 : Int) ≤ (2305843009213693952 : Int)) ∧ eB (4611686018427387904 : Int) x ∧ (Vx.Sm (67108864 : Nat) (pointV x) ∧ Vx.Sm (67108864 : Nat) (scaleV (co w).fst (-1 : Int)) ∧ Dx.m (scaleV (co w).fst (-1 : Int)).lo ≠ (0 : Int) ∧ Dx.m (scaleV (co w).fst (-1 : Int)).hi ≠ (0 : Int) ∧ (0 : Int) ≤ w ∧ w ≤ (67108864 : Int)) ∧ true = true ∧ Dx.Sm (268435456 : Nat) (divV (pointV x) (scaleV (co w).fst (-1 : Int)) w).lo ∧ Dx.Sm (268435456 : Nat) (divV (pointV x) (scaleV (co w).fst (-1 : Int)) w).hi ∧ (Dx.Sm (68719476736 : Nat) (nearD (divV (pointV x) (scaleV (co w).fst (-1 : Int)) w).lo) ∧ Dx.Sm (68719476736 : Nat) (nearD (divV (pointV x) (scaleV (co w).fst (-1 : Int)) w).hi)) ∧ true = true ∧ br (neI (cmpD (nearD (divV (pointV x) (scaleV (co w).fst (-1 : Int)) w).lo) (nearD (divV (pointV x) (scaleV (co w).fst (-1 : Int)) w).hi)) (0 : Int)) (Q (Tv.tup [Sv.one (At.int .i64 0), Sv.agg [At.bool false, At.words true [], At.int .i64 0, At.bool false, At.words true [], At.int .i64 0], Sv.one (At.bool false)])) (eB (4611686018427387904 : Int) x ∧ eB (4611686018427387904 : Int) (nearD (divV (pointV x) (scaleV (co w).fst (-1 : Int)) w).lo) ∧ inR (w + (64 : Int)) ∧ (Vx.Sm (268435456 : Nat) (pointV (nearD (divV (pointV x) (scaleV (co w).fst (-1 : Int)) w).lo)) ∧ Vx.Sm (268435456 : Nat) (scaleV (co w).fst (-1 : Int)) ∧ (0 : Int) ≤ w + (64 : Int) ∧ w + (64 : Int) ≤ (1099511627776 : Int)) ∧ (Vx.Sm (134217728 : Nat) (pointV x) ∧ Vx.Sm (134217728 : Nat) (timesV (pointV (nearD (divV (pointV x) (scaleV (co w).fst (-1 : Int)) w).lo)) (scaleV (co w).fst (-1 : Int)) (w + (64 : Int))) ∧ (0 : Int) ≤ w ∧ w ≤ (1099511627776 : Int)) ∧ true = true ∧ (OneF (nearD (divV (pointV x) (scaleV (co w).fst (-1 : Int)) w).lo) ∧ (0 : Int) ≤ (nearD (divV (pointV x) (scaleV (co w).fst (-1 : Int)) w).lo).e ∧ (nearD (divV (pointV x) (scaleV (co w).fst (-1 : Int)) w).lo).e ≤ (4611686018427387904 : Int)) ∧ (Vx.Sm (67108864 : Nat) (lessV (pointV x) (timesV (pointV (nearD (divV (pointV x) (scaleV (co w).fst (-1 : Int)) w).lo)) (scaleV (co w).fst (-1 : Int)) (w + (64 : Int))) w) ∧ (0 : Int) ≤ p) ∧ true = true ∧ Q (Tv.tup [Sv.one (At.int .i64 (by4I (nearD (divV (pointV x) (scaleV (co w).fst (-1 : Int)) w).lo))), Sv.agg (ivL true (lessV (pointV x) (timesV (pointV (nearD (divV (pointV x) (scaleV (co w).fst (-1 : Int)) w).lo)) (scaleV (co w).fst (-1 : Int)) (w + (64 : Int))) w)), Sv.one (At.bool (narrowV (lessV (pointV x) (timesV (pointV (nearD (divV (pointV x) (scaleV (co w).fst (-1 : Int)) w).lo)) (scaleV (co w).fst (-1 : Int)) (w + (64 : Int))) w) p))])))) := by kernel_rfl
def preTry (x : Dx) (p w : Int) : Prop := inX x ∧ 8 ≤ w ∧ w ≤ 8192 ∧ 0 ≤ p
theorem sTry_ok : SpecsOk Tryz.prog ((48, qPiW constR) :: sRed) := ⟨qPi_ok, sRed_ok⟩
theorem qTry_ok : SpecOk Tryz.prog 49 (wTry preTry (fun x p w => tryW (halfP w) x p w)) :=
  specOk_pat (envOk tys6_ok sTry_ok) mixed Tryz.func49 rfl (by decide) 4 (by decide) fun l p t hwf e hp => by
    unfold wTry at e
    split at e
    · rename_i ng xs ee p w n
      split at e
      rotate_left
      · cases e; exact hp.elim
      rename_i hb
      obtain rfl := Nat.eq_of_beq_eq_true hb
      cases e
      obtain ⟨⟨bx, x1, x2⟩, w0, w1, p0⟩ : preTry ⟨ng, xs, ee⟩ p w := hp
      have hx : 0 ≤ Dx.m ⟨ng, xs, ee⟩ := val_nonneg hwf.1.2.1.1
      refine ⟨Nat.le_refl 4, fun _ => none, 0, (qTry_vc ⟨ng, xs, ee⟩ p w constR _).mpr ?_⟩
      have ec : constR w = (constPi w, 0) := by unfold constR; rw [if_pos ⟨w0, w1⟩]
      rw [ec]
      generalize (⟨ng, xs, ee⟩ : Dx) = x at *
      have hf := halfP_hf w0 (show w ≤ 65000 by omega)
      have hb := halfP_bd w0 (show w ≤ 16384 by omega)
      have cs := right_sm (constPi_right w0 (show w ≤ 16384 by omega))
      refine br_intro (fun h => by cases h) fun _ => ?_
      show (eB _ (constPi w).lo ∧ eB _ (constPi w).hi ∧ _ ∧ _) ∧ _ ∧ (_ ∧ Vx.Sm _ (halfP w) ∧ Dx.m (halfP w).lo ≠ 0 ∧ Dx.m (halfP w).hi ≠ 0 ∧ _ ∧ _) ∧ _ ∧ Dx.Sm _ (quoW (halfP w) x w).lo ∧ Dx.Sm _ (quoW (halfP w) x w).hi ∧ (Dx.Sm _ (nW (halfP w) x w) ∧ Dx.Sm _ (nearD (quoW (halfP w) x w).hi)) ∧ _ ∧
        br (!sureW (halfP w) x w) (tryT (0, zeroIv, false) = tryT (tryW (halfP w) x p w) ∨ fgT (tryT (0, zeroIv, false)) = tryT (tryW (halfP w) x p w)) (_ ∧ eB _ (nW (halfP w) x w) ∧ _ ∧ (Vx.Sm _ (pointV (nW (halfP w) x w)) ∧ Vx.Sm _ (halfP w) ∧ _ ∧ _) ∧ (_ ∧ Vx.Sm _ (timesV (pointV (nW (halfP w) x w)) (halfP w) (w + 64)) ∧ _ ∧ _) ∧ _ ∧ (OneF (nW (halfP w) x w) ∧ 0 ≤ (nW (halfP w) x w).e ∧ (nW (halfP w) x w).e ≤ 4611686018427387904) ∧ (Vx.Sm _ (restW (halfP w) x w) ∧ _) ∧ _ ∧
          (tryT (by4I (nW (halfP w) x w), restW (halfP w) x w, narrowV (restW (halfP w) x w) p) = tryT (tryW (halfP w) x p w) ∨ fgT (tryT (by4I (nW (halfP w) x w), restW (halfP w) x w, narrowV (restW (halfP w) x w) p)) = tryT (tryW (halfP w) x p w)))
      generalize halfP w = h at *
      have sx := bx.sm (N := 131072) (by omega)
      have hs := hb.sm (N := 16384) (by omega)
      have q := quoW_sm (w := w) hx hf.p sx (hs.mono (by omega)) (by omega) (by omega)
      have sn := nW_sm hf hx (w := w) (by omega) x1 x2
      have np : 0 ≤ (nW h x w).m := nearD_p
      have bn : (nW h x w).Bd 0 2051 := ⟨by omega, by omega, nearD_e, by have := sn.1; have := sn.2.2; omega⟩
      have z1 := bx.point hx
      have zn := bn.point np
      have zt : (timesV (pointV (nW h x w)) h (w + 64)).Bd (0 + (w + 65)) (2051 + 8 + 1) := zn.times (pointV_p _) hf.p (by omega) hb
      have zr : (restW h x w).Bd 32768 98306 := z1.less (pointV_p x) (trimV_p _ _) (by omega) (zt.mono (by omega) (by omega))
      have r1 : Dx.rv h.lo ≠ 0 := by have := hf.lo; grind
      have r2 : Dx.rv h.hi ≠ 0 := by have := hf.lo; have := hf.le; grind
      refine ⟨⟨cs.1.eB (by omega), cs.2.eB (by omega), by omega, by omega⟩, sx.eB (by omega), ⟨z1.sm (by omega), hs.mono (by omega), rv_ne r1, rv_ne r2, by omega, by omega⟩, rfl, q.1.mono (by omega), q.2.mono (by omega), ⟨sn.mono (by omega), (nearD_sm (divV_p _ _ _).2 q.2 (by omega)).mono (by omega)⟩, rfl, br_intro (fun hb => .inl ?_) fun hb => ⟨sx.eB (by omega), sn.eB (by omega), ⟨by omega, by omega⟩, ⟨zn.sm (by omega), hs.mono (by omega), by omega, by omega⟩, ⟨z1.sm (by omega), zt.sm (by omega), by omega, by omega⟩, rfl, ⟨nearD_f, nearD_e, by have := sn.2.2; omega⟩, ⟨zr.sm (by omega), p0⟩, rfl, .inl ?_⟩⟩
      · rw [tryW, if_neg (by rw [not_true hb]; simp)]
      · rw [tryW, if_pos (not_false' hb)]
    · cases e; exact hp.elim
/-! ### Quarter. -/
def dyX (b : Nat) (nw : Bool) (x : Dx) : List (Nat × Nat × At) := [(b, 0, .bool x.neg), (b, 1, .words nw x.xs), (b, 2, .int .i64 x.e)]
def zvX (b : Nat) : List (Nat × Nat × At) := [(b, 0, .bool false), (b, 1, .words true []), (b, 2, .int .i64 0), (b, 3, .bool false), (b, 4, .words true []), (b, 5, .int .i64 0)]
def quK : LKeep := ⟨[1, 2, 5, 7, 8], [(0, 3), (2, 6)], 3⟩
def quSt (x : Dx) (p : Int) (a : Nat × Int) : List (Nat × Tv) × List (Nat × Nat × At) :=
  ([(1, iT p), (2, .sv (.one (.ptr 0 0))), (5, .sv (.one (.ptr 2 0))), (7, .sv (.one (.fn 48 []))), (8, iT a.2)], dyX 0 true x ++ zvX 2)
def quInv (x : Dx) (p : Int) (P : Nat × Int → Prop) : Nat → Option LInv := invAt 11 (.rel quK (Nat × Int) (quSt x p) P (fun a => a.1))
theorem qQu_vc (x : Dx) (p : Int) (P : Nat × Int → Prop) (pr : Dx → Int → Int → Prop) (g : Dx → Int → Int → Int × Vx × Bool) (Q : Tv → Prop) : execF ⟨tys6, (49, wTry pr g) :: sRed⟩ (quInv (oneD x) p P) 0 Tryz.f11 [.agg (dyL false x), .one (.int .i64 p)] Q = (br (!Dx.fitsB x) (Q (Tv.tup [Sv.one (At.int .i64 0), Sv.agg [At.bool false, At.words true [], At.int .i64 0, At.bool false, At.words true [], At.int .i64 0], Sv.one (At.int .i64 2)])) (br (ltI p (8 : Int)) (Q (Tv.tup [Sv.one (At.int .i64 0), Sv.agg [At.bool false, At.words true [], At.int .i64 0, At.bool false, At.words true [], At.int .i64 0], Sv.one (At.int .i64 2)])) (br (ltI (3968 : Int) p) (Q (Tv.tup [Sv.one (At.int .i64 0), Sv.agg [At.bool false, At.words true [], At.int .i64 0, At.bool false, At.words true [], At.int .i64 0], Sv.one (At.int .i64 2)])) (((-4611686018427387904 : Int) ≤ x.e ∧ x.e ≤ (4611686018427387904 : Int)) ∧ br (Dx.zeroB (oneD x)) (Q (Tv.tup [Sv.one (At.int .i64 0), Sv.agg [At.bool false, At.words true [], At.int .i64 0, At.bool false, At.words true [], At.int .i64 0], Sv.one (At.int .i64 0)])) (((-2305843009213693952 : Int) ≤ (oneD x).e ∧ (oneD x).e ≤ (2305843009213693952 : Int)) ∧ br (leI (1024 : Int) ((oneD x).e + (↑(blen (Dx.m (oneD x))) : Int) - (1 : Int))) (Q (Tv.tup [Sv.one (At.int .i64 0), Sv.agg [At.bool false, At.words true [], At.int .i64 0, At.bool false, At.words true [], At.int .i64 0], Sv.one (At.int .i64 3)])) (((-2305843009213693952 : Int) ≤ (oneD x).e ∧ (oneD x).e ≤ (2305843009213693952 : Int)) ∧ inR (maxI ((oneD x).e + (↑(blen (Dx.m (oneD x))) : Int) - (1 : Int)) (0 : Int) + p) ∧ inR (maxI ((oneD x).e + (↑(blen (Dx.m (oneD x))) : Int) - (1 : Int)) (0 : Int) + p + (64 : Int)) ∧ true = true ∧ (∃ (a : Nat × Int), P a ∧ Sg.mk [(1, iT p), (2, Tv.sv (Sv.one (At.ptr 0 0))), (5, Tv.sv (Sv.one (At.ptr ((0 : Nat) + (2 : Nat)) (0 : Nat)))), (7, Tv.sv (Sv.one (At.fn 48 []))), (8, iT (maxI ((oneD x).e + (↑(blen (Dx.m (oneD x))) : Int) - (1 : Int)) (0 : Int) + p + (64 : Int)))] [(0, 0, At.bool (oneD x).neg), (0, 1, At.words true (oneD x).xs), (0, 2, At.int .i64 (oneD x).e), (2, 0, At.bool false), (2, 1, At.words true []), (2, 2, At.int .i64 0), (2, 3, At.bool false), (2, 4, At.words true []), (2, 5, At.int .i64 0)] (3 : Nat) = LKeep.at quK (quSt (oneD x) p a)) ∧ ∀ (a : Nat × Int), P a → pr (oneD x) p (minI a.snd (8192 : Int)) ∧ br (g (oneD x) p (minI a.snd (8192 : Int))).snd.snd (br (rightV (g (oneD x) p (minI a.snd (8192 : Int))).snd.fst) (true = true ∧ Q (Tv.tup [Sv.one (At.int .i64 (g (oneD x) p (minI a.snd (8192 : Int))).fst), Sv.agg (ivL true (g (oneD x) p (minI a.snd (8192 : Int))).snd.fst), Sv.one (At.int .i64 0)])) (br (eqI (minI a.snd (8192 : Int)) (8192 : Int)) (Q (Tv.tup [Sv.one (At.int .i64 0), Sv.agg [At.bool false, At.words true [], At.int .i64 0, At.bool false, At.words true [], At.int .i64 0], Sv.one (At.int .i64 6)])) (inR ((2 : Int) * minI a.snd (8192 : Int)) ∧ true = true ∧ ∃ (a' : Nat × Int), P a' ∧ Sg.mk [(1, iT p), (2, Tv.sv (Sv.one (At.ptr 0 0))), (5, Tv.sv (Sv.one (At.ptr 2 0))), (7, Tv.sv (Sv.one (At.fn 48 []))), (8, iT ((2 : Int) * minI a.snd (8192 : Int)))] [(0, 0, At.bool (oneD x).neg), (0, 1, At.words true (oneD x).xs), (0, 2, At.int .i64 (oneD x).e), (2, 0, At.bool false), (2, 1, At.words true []), (2, 2, At.int .i64 0), (2, 3, At.bool false), (2, 4, At.words true []), (2, 5, At.int .i64 0)] (3 : Nat) = LKeep.at quK (quSt (oneD x) p a') ∧ a'.fst < a.fst))) (br (eqI (minI a.snd (8192 : Int)) (8192 : Int)) (Q (Tv.tup [Sv.one (At.int .i64 0), Sv.agg [At.bool false, At.words true [], At.int .i64 0, At.bool false, At.words true [], At.int .i64 0], Sv.one (At.int .i64 6)])) (inR ((2 : Int) * minI a.snd (8192 : Int)) ∧ true = true ∧ ∃ (a' : Nat × Int), P a' ∧ Sg.mk [(1, iT p), (2, Tv.sv (Sv.one (At.ptr 0 0))), (5, Tv.sv (Sv.one (At.ptr 2 0))), (7, Tv.sv (Sv.one (At.fn 48 []))), (8, iT ((2 : Int) * minI a.snd (8192 : Int)))] [(0, 0, At.bool (oneD x).neg), (0, 1, At.words true (oneD x).xs), (0, 2, At.int .i64 (oneD x).e), (2, 0, At.bool false), (2, 1, At.words true []), (2, 2, At.int .i64 0), (2, 3, At.bool false), (2, 4, At.words true []), (2, 5, At.int .i64 0)] (3 : Nat) = LKeep.at quK (quSt (oneD x) p a') ∧ a'.fst < a.fst)))))))) := by kernel_rfl
def topD (x : Dx) : Int := x.e + blen x.m - 1
def tryP (x : Dx) (p w : Int) : Int × Vx × Bool := tryW (halfP w) x p w
def okW (x : Dx) (p w : Int) : Bool := (tryP x p w).2.2 && rightV (tryP x p w).2.1
def quarL (x : Dx) (p : Int) : Nat → Int → Int × Vx × Int
  | 0, _ => (0, zeroIv, 6)
  | n + 1, w => if okW x p (min w 8192) = true then ((tryP x p (min w 8192)).1, (tryP x p (min w 8192)).2.1, 0) else if min w 8192 = 8192 then (0, zeroIv, 6) else quarL x p n (2 * min w 8192)
def quarR (x : Dx) (p : Int) : Int × Vx × Int :=
  if x.fitsB = true ∧ 8 ≤ p ∧ p ≤ 3968 then (if (oneD x).m = 0 then (0, zeroIv, 0) else if 1024 ≤ topD (oneD x) then (0, zeroIv, 3) else quarL (oneD x) p 9 (max (topD (oneD x)) 0 + p + 64)) else (0, zeroIv, 2)
def quT (r : Int × Vx × Int) : Tv := .tup [.one (.int .i64 r.1), .agg (ivL false r.2.1), .one (.int .i64 r.2.2)]
def qQu : Spec := specK [.d, .i .i64] fun (x : Dx) (p : Int) => (none, quT (quarR x p))
theorem top_lt {x : Dx} (hx : 0 ≤ x.m) (h : topD x < 1024) : x.rv < p2 (1024 : Nat) ∧ -(p2 (1024 : Nat)) < x.rv := by
  have q := p2_pos ((1024 : Nat) : Int)
  have a := amt_lt (m := x.m) (e := x.e)
  have l := p2_le (show x.e + (blen x.m : Int) ≤ ((1024 : Nat) : Int) by unfold topD at h; omega)
  obtain ⟨r1, r2⟩ := rv_amt hx
  rcases (show 0 ≤ x.rv ∨ x.rv ≤ 0 by grind) with s | s
  · have := r1 s
    generalize p2 ((1024 : Nat) : Int) = Q at *
    constructor <;> grind
  · have := r2 s
    generalize p2 ((1024 : Nat) : Int) = Q at *
    constructor <;> grind
theorem sQu_ok : SpecsOk Tryz.prog ((49, wTry preTry (fun x p w => tryW (halfP w) x p w)) :: sRed) := ⟨qTry_ok, sRed_ok⟩
theorem qQu_ok : SpecOk Tryz.prog 11 qQu :=
  specKW_ok (envOk tys6_ok sQu_ok) mixed Tryz.func11 rfl (by decide) (by decide) fun (x : Dx) hxw (p : Int) _ _ => by
    have hx := Dx.Wf.m0 hxw
    obtain ⟨R, hR⟩ : ∃ R, R = quarL (oneD x) p 9 (max (topD (oneD x)) 0 + p + 64) := ⟨_, rfl⟩
    refine ⟨quInv (oneD x) p (fun a => quarL (oneD x) p a.1 a.2 = R ∧ 1 ≤ a.1 ∧ 8 ≤ a.2 ∧ a.2 ≤ 16384 ∧ 16384 ≤ a.2 * 2 ^ a.1), 0, ?_⟩
    show execF _ _ _ _ _ (fun t => t = quT (quarR x p) ∨ fgT t = quT (quarR x p))
    refine (qQu_vc x p _ preTry (fun x p w => tryW (halfP w) x p w) _).mpr (br_intro (fun h => .inr ?_) fun h => br_intro (fun h1 => .inr ?_) fun h1 => br_intro (fun h2 => .inr ?_) fun h2 => ?_)
    · rw [quarR, if_neg (by rw [not_true h]; simp)]; rfl
    · rw [quarR, if_neg (by have := ltI_true.1 h1; omega)]; rfl
    · rw [quarR, if_neg (by have := ltI_true.1 h2; omega)]; rfl
    have h := not_false' h
    have h1 := ltI_false.1 h1
    have h2 := ltI_false.1 h2
    have bx := (fits_bd h).one hx
    have xe := fits_e h
    have y0 := oneD_p (d := x)
    rw [quarR, if_pos ⟨h, by omega, by omega⟩]
    refine ⟨⟨by omega, by omega⟩, br_intro (fun h3 => .inr ?_) fun h3 => ?_⟩
    · rw [if_pos (zeroB_true.1 h3)]; rfl
    rw [if_neg (zeroB_false.1 h3)]
    have te : (oneD x).e + (blen (oneD x).m : Int) - 1 = topD (oneD x) := rfl
    have b1 := bx.lo
    have b2 := bx.hi
    have bp := blen_pos (show 0 < (oneD x).m by have := zeroB_false.1 h3; omega)
    rw [te]
    refine ⟨⟨by omega, by omega⟩, br_intro (fun h4 => .inr ?_) fun h4 => ?_⟩
    · rw [if_pos (leI_true.1 h4)]; rfl
    have h4 := leI_false.1 h4
    rw [if_neg h4, maxI_eq, ← hR]
    obtain ⟨t1, t2⟩ := top_lt y0 (by omega)
    refine ⟨⟨by omega, by omega⟩, ⟨by omega, by omega⟩, ⟨by omega, by omega⟩, rfl, ⟨(9, max (topD (oneD x)) 0 + p + 64), ⟨hR.symm, by omega, by omega, by omega, by show 16384 ≤ (max (topD (oneD x)) 0 + p + 64) * 2 ^ 9; omega⟩, rfl⟩, fun a ha => ?_⟩
    obtain ⟨n, w⟩ := a
    obtain ⟨e, n1, w0, w1, w2⟩ : quarL (oneD x) p n w = R ∧ 1 ≤ n ∧ 8 ≤ w ∧ w ≤ 16384 ∧ 16384 ≤ w * 2 ^ n := ha
    obtain ⟨m, rfl⟩ : ∃ m, n = m + 1 := ⟨n - 1, by omega⟩
    rw [quarL] at e
    show preTry (oneD x) p (minI w 8192) ∧ br (tryP (oneD x) p (minI w 8192)).2.2 (br (rightV (tryP (oneD x) p (minI w 8192)).2.1) _ _) _
    rw [minI_eq]
    refine ⟨⟨⟨bx, t1, t2⟩, by omega, by omega, by omega⟩, ?_⟩
    have fin : okW (oneD x) p (min w 8192) = false → min w 8192 ≠ 8192 → inR (2 * min w 8192) ∧ true = true ∧ ∃ a' : Nat × Int, (quarL (oneD x) p a'.1 a'.2 = R ∧ 1 ≤ a'.1 ∧ 8 ≤ a'.2 ∧ a'.2 ≤ 16384 ∧ 16384 ≤ a'.2 * 2 ^ a'.1) ∧ quK.at (quSt (oneD x) p (0, 2 * min w 8192)) = quK.at (quSt (oneD x) p a') ∧ a'.1 < m + 1 := fun ok hw => by
      rw [if_neg (by rw [ok]; simp), if_neg hw] at e
      have hm : min w 8192 = w := by omega
      rw [hm] at e ⊢
      rw [Int.pow_succ] at w2
      have m1 : 1 ≤ m := by
        refine Nat.pos_of_ne_zero fun hm0 => ?_
        rw [hm0, Int.pow_zero] at w2; omega
      refine ⟨⟨by omega, by omega⟩, rfl, (m, 2 * w), ⟨e, m1, by omega, by omega, ?_⟩, rfl, Nat.lt_succ_self _⟩
      show 16384 ≤ 2 * w * 2 ^ m
      rw [Int.mul_comm (2 ^ m) 2, ← Int.mul_assoc, Int.mul_comm w 2] at w2; exact w2
    have hard : okW (oneD x) p (min w 8192) = false → min w 8192 = 8192 → R = (0, zeroIv, 6) := fun ok hw => by
      rw [if_neg (by rw [ok]; simp), if_pos hw] at e
      exact e.symm
    refine br_intro (fun h5 => br_intro (fun h6 => ⟨rfl, .inr ?_⟩) fun h6 => ?_) fun h5 => ?_
    · rw [if_pos (by unfold okW; rw [h5, h6]; rfl)] at e
      rw [← e]; rfl
    · have ok : okW (oneD x) p (min w 8192) = false := by unfold okW; rw [h6, Bool.and_false]
      exact br_intro (fun h7 => .inr (by rw [hard ok (eqI_true.1 h7)]; rfl)) fun h7 => fin ok (eqI_false.1 h7)
    · have ok : okW (oneD x) p (min w 8192) = false := by unfold okW; rw [h5, Bool.false_and]
      exact br_intro (fun h7 => .inr (by rw [hard ok (eqI_true.1 h7)]; rfl)) fun h7 => fin ok (eqI_false.1 h7)
end Go.Proofs.YtdnbckfhfhfkoaaGreatDoor

namespace Go.Proofs.YtdnbckfhfhfkoaaGreatDoor
open Go.RowKit
def zD0 : Dx := ⟨false, [], 0⟩
def turT (r : Int × Dx × Int) : Tv := .tup [.one (.int .i64 r.1), .agg (dyL false r.2.1), .one (.int .i64 r.2.2)]
def splT (r : Dx × Dx × Int) : Tv := .tup [.agg (dyL false r.1), .agg (dyL false r.2.1), .one (.int .i64 r.2.2)]
def turN (y : Dx) : Dx := nearD (shiftD y 1)
def turX (y : Dx) : Dx := lessD y (shiftD (turN y) (-1))
def turR (x : Dx) : Int × Dx × Int := if x.fitsB = true then (if (oneD x).fitsB = true ∧ (turX (oneD x)).fitsB = true then (by4I (turN (oneD x)), turX (oneD x), 0) else (0, zD0, 3)) else (0, zD0, 2)
theorem qTurns_vc (x : Dx) (Q : Tv → Prop) : execF ⟨tys6, sRed⟩ (fun _ => none) 0 Tryz.f21 [.agg (dyL false x)] Q = (br (!Dx.fitsB x) (Q (Tv.tup [Sv.one (At.int .i64 0), Sv.agg [At.bool false, At.words true [], At.int .i64 0], Sv.one (At.int .i64 2)])) (((-4611686018427387904 : Int) ≤ x.e ∧ x.e ≤ (4611686018427387904 : Int)) ∧ ((-2305843009213693952 : Int) ≤ (oneD x).e ∧ (oneD x).e ≤ (2305843009213693952 : Int) ∧ (-2305843009213693952 : Int) ≤ (1 : Int) ∧ (1 : Int) ≤ (2305843009213693952 : Int)) ∧ Dx.Sm (268435456 : Nat) (shiftD (oneD x) (1 : Int)) ∧ ((-2305843009213693952 : Int) ≤ (nearD (shiftD (oneD x) (1 : Int))).e ∧ (nearD (shiftD (oneD x) (1 : Int))).e ≤ (2305843009213693952 : Int) ∧ (-2305843009213693952 : Int) ≤ (-1 : Int) ∧ (-1 : Int) ≤ (2305843009213693952 : Int)) ∧ (Dx.Sm (34359738368 : Nat) (oneD x) ∧ Dx.Sm (34359738368 : Nat) (shiftD (nearD (shiftD (oneD x) (1 : Int))) (-1 : Int))) ∧ true = true ∧ br (!Dx.fitsB (oneD x)) (Q (Tv.tup [Sv.one (At.int .i64 0), Sv.agg [At.bool false, At.words true [], At.int .i64 0], Sv.one (At.int .i64 3)])) (br (!Dx.fitsB (lessD (oneD x) (shiftD (nearD (shiftD (oneD x) (1 : Int))) (-1 : Int)))) (Q (Tv.tup [Sv.one (At.int .i64 0), Sv.agg [At.bool false, At.words true [], At.int .i64 0], Sv.one (At.int .i64 3)])) ((OneF (nearD (shiftD (oneD x) (1 : Int))) ∧ (0 : Int) ≤ (nearD (shiftD (oneD x) (1 : Int))).e ∧ (nearD (shiftD (oneD x) (1 : Int))).e ≤ (4611686018427387904 : Int)) ∧ true = true ∧ Q (Tv.tup [Sv.one (At.int .i64 (by4I (nearD (shiftD (oneD x) (1 : Int))))), Sv.agg (dyL true (lessD (oneD x) (shiftD (nearD (shiftD (oneD x) (1 : Int))) (-1 : Int)))), Sv.one (At.int .i64 0)]))))) := by kernel_rfl
def qTurns : Spec := specK [.d] fun (x : Dx) => (none, turT (turR x))
theorem shift_bd {L T : Int} {d : Dx} (hd : 0 ≤ d.m) (h : d.Bd L T) : (shiftD d 1).Bd L (T + 1) := h.shift hd h.l0 (by have := h.t0; omega) (by omega) (by omega)
theorem shift_bd' {L T : Int} {d : Dx} (hd : 0 ≤ d.m) (h : d.Bd L T) : (shiftD d (-1)).Bd (L + 1) T := h.shift hd (by have := h.l0; omega) h.t0 (by omega) (by omega)
theorem floor_bd {L T : Int} {d : Dx} (hd : 0 ≤ d.m) (h : d.Bd L T) : (floorD d).Bd L (T + 1) := by
  obtain ⟨l0, t0, a1, a2⟩ := h.one hd
  have m0 := oneD_p (d := d)
  unfold floorD; split
  · exact ⟨l0, by omega, a1, by omega⟩
  · rename_i hn
    have p0 := two_pow_pos (-(oneD d).e).toNat
    have q0 : 0 ≤ (oneD d).m / 2 ^ (-(oneD d).e).toNat := Int.ediv_nonneg m0 (by omega)
    obtain ⟨N, hN⟩ : ∃ N : Nat, (N : Int) = T := ⟨T.toNat, by omega⟩
    have q1 : (oneD d).m / 2 ^ (-(oneD d).e).toNat < 2 ^ N := by
      refine Int.ediv_lt_of_lt_mul p0 ?_
      rw [← Int.pow_add]
      exact Int.lt_of_lt_of_le (blen_lt _) (two_pow_le (by omega))
    have hb : blen ((oneD d).m / 2 ^ (-(oneD d).e).toNat + if (lostB (oneD d).m (-(oneD d).e).toNat && (oneD d).neg) = true then 1 else 0) ≤ N + 1 := blen_le (by
      rw [Int.pow_succ]; have := two_pow_pos N; split <;> omega)
    exact mkD_bd (by split <;> omega) l0 (by omega) (by omega) (by omega)
theorem near_bd {L T : Int} {d : Dx} (hd : 0 ≤ d.m) (h : d.Bd L T) : (nearD d).Bd (L + 1) (T + 4) := by
  have hh : halfD.Bd (L + 1) (T + 1) := ⟨by have := h.l0; omega, by have := h.t0; omega, by show -(L + 1) ≤ -1; have := h.l0; omega, by rw [halfD_m]; have := h.t0; show -1 + ((blen 1 : Nat) : Int) ≤ T + 1; rw [show blen 1 = 1 by decide]; omega⟩
  have a : (plusD d halfD).Bd (L + 1) (T + 1 + 1) := (h.mono (show L ≤ L + 1 by omega) (show T ≤ T + 1 by omega)).plus hd (by decide) hh
  have b := floor_bd plusD_p a
  have c : (mkS 1 0).Bd (L + 1) (T + 1 + 1 + 1) := mkS_bd (by have := h.l0; omega) (by have := h.t0; omega) (by have := h.l0; omega) (by have := h.t0; show 0 + ((blen 1 : Nat) : Int) ≤ _; rw [show blen 1 = 1 by decide]; omega)
  unfold nearD; split
  · exact (b.less floorD_p mkS_p c).mono (by omega) (by omega)
  · exact b.mono (by omega) (by omega)
theorem turX_bd {y : Dx} (hy : 0 ≤ y.m) (h : y.Bd 32768 98304) : (turN y).Bd 32769 98309 ∧ (turX y).Bd 32770 98310 := by
  have n := near_bd shiftD_p (shift_bd hy h)
  exact ⟨n.mono (by omega) (by omega), ((h.mono (by omega) (by omega)).less hy shiftD_p ((shift_bd' nearD_p n).mono (L' := 32770) (T' := 98309) (by omega) (by omega))).mono (by omega) (by omega)⟩
theorem qTurns_ok : SpecOk Tryz.prog 21 qTurns :=
  specKW_ok (envOk tys6_ok sRed_ok) mixed Tryz.func21 rfl (by decide) (by decide) fun (x : Dx) hxw _ => ⟨fun _ => none, 0, by
    have hx := Dx.Wf.m0 hxw
    show execF _ _ _ _ _ (fun t => t = turT (turR x) ∨ fgT t = turT (turR x))
    refine (qTurns_vc x _).mpr (br_intro (fun h => .inr ?_) fun h => ?_)
    · rw [turR, if_neg (by rw [not_true h]; simp)]; rfl
    have h := not_false' h
    have bx := (fits_bd h).one hx
    have xe := fits_e h
    obtain ⟨bn, br'⟩ := turX_bd oneD_p bx
    rw [turR, if_pos h]
    have b1 := bx.lo
    have b2 := bx.hi
    have n0 : 0 ≤ (turN (oneD x)).e := nearD_e
    have n1 := bn.hi
    refine ⟨⟨by omega, by omega⟩, ⟨by omega, by omega, by omega, by omega⟩, (shift_bd oneD_p bx).sm (by omega), ⟨show _ ≤ (turN (oneD x)).e by omega, show (turN (oneD x)).e ≤ _ by omega, by omega, by omega⟩, ⟨bx.sm (by omega), (shift_bd' nearD_p bn).sm (by omega)⟩, rfl, br_intro (fun h1 => .inr ?_) fun h1 => br_intro (fun h2 => .inr ?_) fun h2 => ⟨⟨nearD_f, n0, show (turN (oneD x)).e ≤ _ by omega⟩, rfl, .inr ?_⟩⟩
    · rw [if_neg (by rw [not_true h1]; simp)]; rfl
    · rw [if_neg (by rw [show (turX (oneD x)).fitsB = false from not_true h2]; simp)]; rfl
    · rw [if_pos ⟨not_false' h1, not_false' h2⟩]; rfl⟩
def spN (y : Dx) : Dx := nearD y
def splR (x : Dx) : Dx × Dx × Int := if x.fitsB = true then (if (oneD x).fitsB = true then (if (spN (oneD x)).fitsB = true ∧ (lessD (oneD x) (spN (oneD x))).fitsB = true then (spN (oneD x), lessD (oneD x) (spN (oneD x)), 0) else (zD0, zD0, 3)) else (zD0, zD0, 3)) else (zD0, zD0, 2)
theorem qSplit_vc (x : Dx) (Q : Tv → Prop) : execF ⟨tys6, sRed⟩ (fun _ => none) 0 Tryz.f38 [.agg (dyL false x)] Q = (br (!Dx.fitsB x) (Q (Tv.tup [Sv.agg [At.bool false, At.words true [], At.int .i64 0], Sv.agg [At.bool false, At.words true [], At.int .i64 0], Sv.one (At.int .i64 2)])) (((-4611686018427387904 : Int) ≤ x.e ∧ x.e ≤ (4611686018427387904 : Int)) ∧ br (!Dx.fitsB (oneD x)) (Q (Tv.tup [Sv.agg [At.bool false, At.words true [], At.int .i64 0], Sv.agg [At.bool false, At.words true [], At.int .i64 0], Sv.one (At.int .i64 3)])) (Dx.Sm (268435456 : Nat) (oneD x) ∧ (Dx.Sm (34359738368 : Nat) (oneD x) ∧ Dx.Sm (34359738368 : Nat) (nearD (oneD x))) ∧ br (!Dx.fitsB (nearD (oneD x))) (Q (Tv.tup [Sv.agg [At.bool false, At.words true [], At.int .i64 0], Sv.agg [At.bool false, At.words true [], At.int .i64 0], Sv.one (At.int .i64 3)])) (br (!Dx.fitsB (lessD (oneD x) (nearD (oneD x)))) (Q (Tv.tup [Sv.agg [At.bool false, At.words true [], At.int .i64 0], Sv.agg [At.bool false, At.words true [], At.int .i64 0], Sv.one (At.int .i64 3)])) (true = true ∧ Q (Tv.tup [Sv.agg (dyL true (nearD (oneD x))), Sv.agg (dyL true (lessD (oneD x) (nearD (oneD x)))), Sv.one (At.int .i64 0)])))))) := by kernel_rfl
def qSplit : Spec := specK [.d] fun (x : Dx) => (none, splT (splR x))
theorem qSplit_ok : SpecOk Tryz.prog 38 qSplit :=
  specKW_ok (envOk tys6_ok sRed_ok) mixed Tryz.func38 rfl (by decide) (by decide) fun (x : Dx) hxw _ => ⟨fun _ => none, 0, by
    have hx := Dx.Wf.m0 hxw
    show execF _ _ _ _ _ (fun t => t = splT (splR x) ∨ fgT t = splT (splR x))
    refine (qSplit_vc x _).mpr (br_intro (fun h => .inr ?_) fun h => ?_)
    · rw [splR, if_neg (by rw [not_true h]; simp)]; rfl
    have h := not_false' h
    have bx := (fits_bd h).one hx
    have xe := fits_e h
    have bn := near_bd oneD_p bx
    rw [splR, if_pos h]
    refine ⟨⟨by omega, by omega⟩, br_intro (fun h1 => .inr ?_) fun h1 => ⟨bx.sm (by omega), ⟨bx.sm (by omega), bn.sm (by omega)⟩, br_intro (fun h2 => .inr ?_) fun h2 => br_intro (fun h3 => .inr ?_) fun h3 => ⟨rfl, .inr ?_⟩⟩⟩
    · rw [if_neg (by rw [not_true h1]; simp)]; rfl
    · rw [if_pos (not_false' h1), if_neg (by rw [show (spN (oneD x)).fitsB = false from not_true h2]; simp)]; rfl
    · rw [if_pos (not_false' h1), if_neg (by rw [show (lessD (oneD x) (spN (oneD x))).fitsB = false from not_true h3]; simp)]; rfl
    · rw [if_pos (not_false' h1), if_pos ⟨not_false' h2, not_false' h3⟩]; rfl⟩
/-- A power of 2 and what is from 3/4 to 3/2. -/
def scM (y : Dx) : Dx := shiftD y (-topD y)
def sc32 : Dx := shiftD (mkS 3 0) (-1)
def scK (y : Dx) : Int := if 0 ≤ cmpD (scM y) sc32 then topD y + 1 else topD y
def scX (y : Dx) : Dx := if 0 ≤ cmpD (scM y) sc32 then shiftD (scM y) (-1) else scM y
def scaR (x : Dx) : Int × Dx × Int := if x.fitsB = true then (if (oneD x).fitsB = true then (if (oneD x).sgn ≤ 0 then (0, zD0, 5) else if (scX (oneD x)).fitsB = true then (scK (oneD x), scX (oneD x), 0) else (0, zD0, 3)) else (0, zD0, 3)) else (0, zD0, 2)
theorem qScale_vc (x : Dx) (Q : Tv → Prop) : execF ⟨tys6, sRed⟩ (fun _ => none) 0 Tryz.f36 [.agg (dyL false x)] Q = (br (!Dx.fitsB x) (Q (Tv.tup [Sv.one (At.int .i64 0), Sv.agg [At.bool false, At.words true [], At.int .i64 0], Sv.one (At.int .i64 2)])) (((-4611686018427387904 : Int) ≤ x.e ∧ x.e ≤ (4611686018427387904 : Int)) ∧ br (!Dx.fitsB (oneD x)) (Q (Tv.tup [Sv.one (At.int .i64 0), Sv.agg [At.bool false, At.words true [], At.int .i64 0], Sv.one (At.int .i64 3)])) (br (leI (Dx.sgn (oneD x)) (0 : Int)) (Q (Tv.tup [Sv.one (At.int .i64 0), Sv.agg [At.bool false, At.words true [], At.int .i64 0], Sv.one (At.int .i64 5)])) (((-2305843009213693952 : Int) ≤ (oneD x).e ∧ (oneD x).e ≤ (2305843009213693952 : Int)) ∧ inR ((0 : Int) - ((oneD x).e + (↑(blen (Dx.m (oneD x))) : Int) - (1 : Int))) ∧ ((-2305843009213693952 : Int) ≤ (oneD x).e ∧ (oneD x).e ≤ (2305843009213693952 : Int) ∧ (-2305843009213693952 : Int) ≤ (0 : Int) - ((oneD x).e + (↑(blen (Dx.m (oneD x))) : Int) - (1 : Int)) ∧ (0 : Int) - ((oneD x).e + (↑(blen (Dx.m (oneD x))) : Int) - (1 : Int)) ≤ (2305843009213693952 : Int)) ∧ inR (3 : Int) ∧ ((-2305843009213693952 : Int) ≤ (mkS (3 : Int) (0 : Int)).e ∧ (mkS (3 : Int) (0 : Int)).e ≤ (2305843009213693952 : Int) ∧ (-2305843009213693952 : Int) ≤ (-1 : Int) ∧ (-1 : Int) ≤ (2305843009213693952 : Int)) ∧ (Dx.Sm (68719476736 : Nat) (shiftD (oneD x) ((0 : Int) - ((oneD x).e + (↑(blen (Dx.m (oneD x))) : Int) - (1 : Int)))) ∧ Dx.Sm (68719476736 : Nat) (shiftD (mkS (3 : Int) (0 : Int)) (-1 : Int))) ∧ true = true ∧ br (leI (0 : Int) (cmpD (shiftD (oneD x) ((0 : Int) - ((oneD x).e + (↑(blen (Dx.m (oneD x))) : Int) - (1 : Int)))) (shiftD (mkS (3 : Int) (0 : Int)) (-1 : Int)))) (inR ((oneD x).e + (↑(blen (Dx.m (oneD x))) : Int) - (1 : Int) + (1 : Int)) ∧ ((-2305843009213693952 : Int) ≤ (shiftD (oneD x) ((0 : Int) - ((oneD x).e + (↑(blen (Dx.m (oneD x))) : Int) - (1 : Int)))).e ∧ (shiftD (oneD x) ((0 : Int) - ((oneD x).e + (↑(blen (Dx.m (oneD x))) : Int) - (1 : Int)))).e ≤ (2305843009213693952 : Int) ∧ (-2305843009213693952 : Int) ≤ (-1 : Int) ∧ (-1 : Int) ≤ (2305843009213693952 : Int)) ∧ br (!Dx.fitsB (shiftD (shiftD (oneD x) ((0 : Int) - ((oneD x).e + (↑(blen (Dx.m (oneD x))) : Int) - (1 : Int)))) (-1 : Int))) (Q (Tv.tup [Sv.one (At.int .i64 0), Sv.agg [At.bool false, At.words true [], At.int .i64 0], Sv.one (At.int .i64 3)])) (true = true ∧ Q (Tv.tup [Sv.one (At.int .i64 ((oneD x).e + (↑(blen (Dx.m (oneD x))) : Int) - (1 : Int) + (1 : Int))), Sv.agg (dyL true (shiftD (shiftD (oneD x) ((0 : Int) - ((oneD x).e + (↑(blen (Dx.m (oneD x))) : Int) - (1 : Int)))) (-1 : Int))), Sv.one (At.int .i64 0)]))) (br (!Dx.fitsB (shiftD (oneD x) ((0 : Int) - ((oneD x).e + (↑(blen (Dx.m (oneD x))) : Int) - (1 : Int))))) (Q (Tv.tup [Sv.one (At.int .i64 0), Sv.agg [At.bool false, At.words true [], At.int .i64 0], Sv.one (At.int .i64 3)])) (true = true ∧ Q (Tv.tup [Sv.one (At.int .i64 ((oneD x).e + (↑(blen (Dx.m (oneD x))) : Int) - (1 : Int))), Sv.agg (dyL true (shiftD (oneD x) ((0 : Int) - ((oneD x).e + (↑(blen (Dx.m (oneD x))) : Int) - (1 : Int))))), Sv.one (At.int .i64 0)]))))))) := by kernel_rfl
def qScale : Spec := specK [.d] fun (x : Dx) => (none, turT (scaR x))
theorem scM_bd {y : Dx} (hy : 0 ≤ y.m) (h : y.Bd 32768 98304) : (scM y).Bd 131080 131080 ∧ (shiftD (scM y) (-1)).Bd 131081 131080 := by
  have b1 := h.lo
  have b2 := h.hi
  have e : topD y = y.e + blen y.m - 1 := rfl
  have a : (scM y).Bd 131080 131080 := h.shift hy (by omega) (by omega) (by omega) (by omega)
  exact ⟨a, shift_bd' shiftD_p a⟩
theorem mkS3_bd : (mkS 3 0).Bd 2 2 := mkS_bd (by omega) (by omega) (by omega) (by show 0 + ((blen 3 : Nat) : Int) ≤ 2; rw [show blen 3 = 2 by decide]; omega)
theorem qScale_ok : SpecOk Tryz.prog 36 qScale :=
  specKW_ok (envOk tys6_ok sRed_ok) mixed Tryz.func36 rfl (by decide) (by decide) fun (x : Dx) hxw _ => ⟨fun _ => none, 0, by
    have hx := Dx.Wf.m0 hxw
    show execF _ _ _ _ _ (fun t => t = turT (scaR x) ∨ fgT t = turT (scaR x))
    refine (qScale_vc x _).mpr (br_intro (fun h => .inr ?_) fun h => ?_)
    · rw [scaR, if_neg (by rw [not_true h]; simp)]; rfl
    have h := not_false' h
    have bx := (fits_bd h).one hx
    have xe := fits_e h
    obtain ⟨bm, bm'⟩ := scM_bd oneD_p bx
    have b3 := mkS3_bd
    have b1 := bx.lo
    have b2 := bx.hi
    have te : (oneD x).e + (blen (oneD x).m : Int) - 1 = topD (oneD x) := rfl
    have em : shiftD (oneD x) (0 - topD (oneD x)) = scM (oneD x) := by unfold scM; rw [Int.zero_sub]
    have e3 : shiftD (mkS 3 0) (-1) = sc32 := rfl
    rw [scaR, if_pos h, te, em, e3]
    refine ⟨⟨by omega, by omega⟩, br_intro (fun h1 => .inr ?_) fun h1 => ?_⟩
    · rw [if_neg (by rw [not_true h1]; simp)]; rfl
    rw [if_pos (not_false' h1)]
    refine br_intro (fun h2 => .inr ?_) fun h2 => ?_
    · rw [if_pos (leI_true.1 h2)]; rfl
    rw [if_neg (leI_false.1 h2)]
    have m1 := bm.lo
    have m2 := bm.hi
    have l3 := b3.lo
    have u3 := b3.hi
    refine ⟨⟨by omega, by omega⟩, ⟨by omega, by omega⟩, ⟨by omega, by omega, by omega, by omega⟩, ⟨by omega, by omega⟩, ⟨by omega, by omega, by omega, by omega⟩, ⟨bm.sm (by omega), (shift_bd' mkS_p b3).sm (by omega)⟩, rfl, br_intro (fun h4 => ?_) fun h4 => ?_⟩
    · have c := leI_true.1 h4
      have k1 : scK (oneD x) = topD (oneD x) + 1 := if_pos c
      have k2 : scX (oneD x) = shiftD (scM (oneD x)) (-1) := if_pos c
      rw [k1, k2]
      refine ⟨⟨by omega, by omega⟩, ⟨by omega, by omega, by omega, by omega⟩, br_intro (fun h5 => .inr ?_) fun h5 => ⟨rfl, .inr ?_⟩⟩
      · rw [if_neg (by rw [not_true h5]; simp)]; rfl
      · rw [if_pos (not_false' h5)]; rfl
    · have c := leI_false.1 h4
      have k1 : scK (oneD x) = topD (oneD x) := if_neg c
      have k2 : scX (oneD x) = scM (oneD x) := if_neg c
      rw [k1, k2]
      refine br_intro (fun h5 => .inr ?_) fun h5 => ⟨rfl, .inr ?_⟩
      · rw [if_neg (by rw [not_true h5]; simp)]; rfl
      · rw [if_pos (not_false' h5)]; rfl⟩
end Go.Proofs.YtdnbckfhfhfkoaaGreatDoor

namespace Go.Proofs.YtdnbckfhfhfkoaaGreatDoor
open Go.RowKit
def niTimes : Spec := specK [.fx, .i .u64] fun (x : Fw) (n : Int) => (some (x.Ok ∧ x.e ≤ 549755813888 ∧ 0 ≤ n ∧ n ≤ 64), fxT (timesF x.f n))
theorem niTimes_vc (x : Fw) (n : Int) (Q : Tv → Prop) : execF ⟨tys3, sNi⟩ (fun _ => none) 0 Tryz.f127 [.agg (fwL false x), .one (.int .u64 n)] Q = (Word n ∧ List.length (ws (val x.xs)) + List.length (ws (val (ws n))) ≤ (17592186044414 : Nat) ∧ true = true ∧ Q (Tv.sv (Sv.agg [At.words true (ws (val x.xs * val (ws n))), At.int .u64 (IntKind.wrap IntKind.u64 (x.e * n))]))) := by kernel_rfl
theorem niTimes_ok : SpecOk Tryz.prog 127 niTimes :=
  specKW_ok (envOk tys3_ok sNi_ok) mixed Tryz.func127 rfl (by decide) (by decide) fun (x : Fw) hx (n : Int) _ hp => ⟨fun _ => none, 0, by
    obtain ⟨⟨l, e0, e1⟩, e2, n0, n1⟩ : x.Ok ∧ x.e ≤ 549755813888 ∧ 0 ≤ n ∧ n ≤ 64 := hp
    show execF _ _ _ _ _ (fun t => t = fxT (timesF x.f n) ∨ fgT t = fxT (timesF x.f n))
    have w0 : Word n := ⟨by omega, by omega⟩
    refine (niTimes_vc x n _).mpr ⟨w0, ?_, rfl, .inr ?_⟩
    · rw [val_ws n0]
      have l1 := ws_len_blen (val_nonneg hx.1)
      have l3 : blen (val x.xs) ≤ 64 * x.xs.length := blen_le (by have := val_lt hx.1; rwa [wpow_eq] at this)
      have l2 := ws_blen (k := 1073741824) n0 (by have := blen_pow_le (n := n) (k := 6) (by omega); omega)
      omega
    · rw [val_ws n0]
      have m0 := Int.mul_nonneg e0 n0
      have m1 := Int.mul_le_mul e2 n1 n0 (by omega)
      rw [wrap_w ⟨m0, by omega⟩]; rfl⟩
def niK : LKeep := ⟨[0, 1, 6, 7, 8, 9, 10], [(0, 2), (5, 2), (9, 2), (10, 2)], 11⟩
def niSt (n : Int) (b : Bool) (P S0 S1 : Nat → Fx) (a : Nat × Bool) : List (Nat × Tv) × List (Nat × Nat × At) :=
  ([(0, .sv (.one (.int .u64 n))), (1, bT b), (6, .sv (.one (.ptr 0 0))), (7, .sv (.one (.ptr 5 0))), (8, .sv (.one (.ptr 9 0))), (9, .sv (.one (.ptr 10 0))), (10, .sv (.one (.int .u64 (2 * (a.1 : Nat) + 3))))],
   [(0, 0, .words true []), (0, 1, .int .u64 0)] ++ (clX 5 0 false (fw (P a.1)) ++ (clX 9 0 false (fw (S0 (a.1 + 1))) ++ clX 10 0 a.2 (fw (S1 (a.1 + 1))))))
def niInvL (n : Int) (b : Bool) (P S0 S1 : Nat → Fx) (K : Nat) : Nat → Option LInv := invAt 4 (.rel niK (Nat × Bool) (niSt n b P S0 S1) (fun a => a.1 ≤ K) (fun a => K - a.1))
theorem niInv_vc (n q : Int) (b : Bool) (P S0 S1 : Nat → Fx) (K : Nat) (Q : Tv → Prop) : execF ⟨tys3, sNi⟩ (niInvL n b P S0 S1 K) 0 Tryz.f128 [.one (.int .u64 n), .one (.bool b), .one (.int .i64 q)] Q = (((0 : Int) ≤ q ∧ q ≤ (16777216 : Int)) ∧ ((0 : Int) ≤ (fw (Fx.mk ((2 : Int) ^ Int.toNat q) (0 : Int))).e ∧ (fw (Fx.mk ((2 : Int) ^ Int.toNat q) (0 : Int))).e ≤ (1099511627776 : Int) ∧ (0 : Int) < n ∧ n ≤ (4294967296 : Int)) ∧ true = true ∧ (∃ (a : Nat × Bool), a.fst ≤ K ∧ Sg.mk [(0, Tv.sv (Sv.one (At.int .u64 n))), (1, bT b), (6, Tv.sv (Sv.one (At.ptr 0 0))), (7, Tv.sv (Sv.one (At.ptr ((1 : Nat) + (4 : Nat)) (0 : Nat)))), (8, Tv.sv (Sv.one (At.ptr ((7 : Nat) + (2 : Nat)) (0 : Nat)))), (9, Tv.sv (Sv.one (At.ptr ((7 : Nat) + (3 : Nat)) (0 : Nat)))), (10, Tv.sv (Sv.one (At.int .u64 3)))] [(0, 0, At.words true []), (0, 1, At.int .u64 0), (5, 0, At.words false (fw (shortF (Fw.f (fw (Fx.mk ((2 : Int) ^ Int.toNat q) (0 : Int)))) n)).xs), (5, 1, At.int .u64 (fw (shortF (Fw.f (fw (Fx.mk ((2 : Int) ^ Int.toNat q) (0 : Int)))) n)).e), (9, 0, At.words false (fw (shortF (Fw.f (fw (Fx.mk ((2 : Int) ^ Int.toNat q) (0 : Int)))) n)).xs), (9, 1, At.int .u64 (fw (shortF (Fw.f (fw (Fx.mk ((2 : Int) ^ Int.toNat q) (0 : Int)))) n)).e), (10, 0, At.words true []), (10, 1, At.int .u64 0)] (11 : Nat) = LKeep.at niK (niSt n b P S0 S1 a)) ∧ ∀ (a : Nat × Bool), a.fst ≤ K → br (ltI (0 : Int) (↑(List.length (fw (P a.fst)).xs) : Int)) (((0 : Int) ≤ (fw (P a.fst)).e ∧ (fw (P a.fst)).e ≤ (1099511627776 : Int) ∧ (0 : Int) < n ∧ n ≤ (4294967296 : Int)) ∧ ((0 : Int) ≤ (fw (shortF (Fw.f (fw (P a.fst))) n)).e ∧ (fw (shortF (Fw.f (fw (P a.fst))) n)).e ≤ (1099511627776 : Int) ∧ (0 : Int) < n ∧ n ≤ (4294967296 : Int)) ∧ ((0 : Int) ≤ (fw (shortF (Fw.f (fw (shortF (Fw.f (fw (P a.fst))) n))) n)).e ∧ (fw (shortF (Fw.f (fw (shortF (Fw.f (fw (P a.fst))) n))) n)).e ≤ (1099511627776 : Int) ∧ (0 : Int) < (2 : Int) * (↑a.fst : Int) + (3 : Int) ∧ (2 : Int) * (↑a.fst : Int) + (3 : Int) ≤ (4294967296 : Int)) ∧ br b ((4 : Int) ≠ (0 : Int) ∧ br (eqI (Int.tmod ((2 : Int) * (↑a.fst : Int) + (3 : Int)) (4 : Int)) (3 : Int)) ((Fw.Ok (fw (S1 (a.fst + (1 : Nat)))) ∧ Fw.Ok (fw (shortF (Fw.f (fw (shortF (Fw.f (fw (shortF (Fw.f (fw (P a.fst))) n))) n))) ((2 : Int) * (↑a.fst : Int) + (3 : Int))))) ∧ true = true ∧ ∃ (a' : Nat × Bool), a'.fst ≤ K ∧ Sg.mk [(0, Tv.sv (Sv.one (At.int .u64 n))), (1, bT b), (6, Tv.sv (Sv.one (At.ptr 0 0))), (7, Tv.sv (Sv.one (At.ptr 5 0))), (8, Tv.sv (Sv.one (At.ptr 9 0))), (9, Tv.sv (Sv.one (At.ptr 10 0))), (10, Tv.sv (Sv.one (At.int .u64 (IntKind.wrap IntKind.u64 ((2 : Int) * (↑a.fst : Int) + (3 : Int) + (2 : Int))))))] [(0, 0, At.words true []), (0, 1, At.int .u64 0), (5, 0, At.words false (fw (shortF (Fw.f (fw (shortF (Fw.f (fw (P a.fst))) n))) n)).xs), (5, 1, At.int .u64 (fw (shortF (Fw.f (fw (shortF (Fw.f (fw (P a.fst))) n))) n)).e), (9, 0, At.words false (fw (S0 (a.fst + (1 : Nat)))).xs), (9, 1, At.int .u64 (fw (S0 (a.fst + (1 : Nat)))).e), (10, 0, At.words false (fw (addF (Fw.f (fw (S1 (a.fst + (1 : Nat))))) (Fw.f (fw (shortF (Fw.f (fw (shortF (Fw.f (fw (shortF (Fw.f (fw (P a.fst))) n))) n))) ((2 : Int) * (↑a.fst : Int) + (3 : Int))))))).xs), (10, 1, At.int .u64 (fw (addF (Fw.f (fw (S1 (a.fst + (1 : Nat))))) (Fw.f (fw (shortF (Fw.f (fw (shortF (Fw.f (fw (shortF (Fw.f (fw (P a.fst))) n))) n))) ((2 : Int) * (↑a.fst : Int) + (3 : Int))))))).e)] (11 : Nat) = LKeep.at niK (niSt n b P S0 S1 a') ∧ K - a'.fst < K - a.fst) ((Fw.Ok (fw (S0 (a.fst + (1 : Nat)))) ∧ Fw.Ok (fw (shortF (Fw.f (fw (shortF (Fw.f (fw (shortF (Fw.f (fw (P a.fst))) n))) n))) ((2 : Int) * (↑a.fst : Int) + (3 : Int))))) ∧ true = true ∧ ∃ (a' : Nat × Bool), a'.fst ≤ K ∧ Sg.mk [(0, Tv.sv (Sv.one (At.int .u64 n))), (1, bT b), (6, Tv.sv (Sv.one (At.ptr 0 0))), (7, Tv.sv (Sv.one (At.ptr 5 0))), (8, Tv.sv (Sv.one (At.ptr 9 0))), (9, Tv.sv (Sv.one (At.ptr 10 0))), (10, Tv.sv (Sv.one (At.int .u64 (IntKind.wrap IntKind.u64 ((2 : Int) * (↑a.fst : Int) + (3 : Int) + (2 : Int))))))] [(0, 0, At.words true []), (0, 1, At.int .u64 0), (5, 0, At.words false (fw (shortF (Fw.f (fw (shortF (Fw.f (fw (P a.fst))) n))) n)).xs), (5, 1, At.int .u64 (fw (shortF (Fw.f (fw (shortF (Fw.f (fw (P a.fst))) n))) n)).e), (9, 0, At.words false (fw (addF (Fw.f (fw (S0 (a.fst + (1 : Nat))))) (Fw.f (fw (shortF (Fw.f (fw (shortF (Fw.f (fw (shortF (Fw.f (fw (P a.fst))) n))) n))) ((2 : Int) * (↑a.fst : Int) + (3 : Int))))))).xs), (9, 1, At.int .u64 (fw (addF (Fw.f (fw (S0 (a.fst + (1 : Nat))))) (Fw.f (fw (shortF (Fw.f (fw (shortF (Fw.f (fw (shortF (Fw.f (fw (P a.fst))) n))) n))) ((2 : Int) * (↑a.fst : Int) + (3 : Int))))))).e), (10, 0, At.words a.snd (fw (S1 (a.fst + (1 : Nat)))).xs), (10, 1, At.int .u64 (fw (S1 (a.fst + (1 : Nat)))).e)] (11 : Nat) = LKeep.at niK (niSt n b P S0 S1 a') ∧ K - a'.fst < K - a.fst)) ((Fw.Ok (fw (S0 (a.fst + (1 : Nat)))) ∧ Fw.Ok (fw (shortF (Fw.f (fw (shortF (Fw.f (fw (shortF (Fw.f (fw (P a.fst))) n))) n))) ((2 : Int) * (↑a.fst : Int) + (3 : Int))))) ∧ true = true ∧ ∃ (a' : Nat × Bool), a'.fst ≤ K ∧ Sg.mk [(0, Tv.sv (Sv.one (At.int .u64 n))), (1, bT b), (6, Tv.sv (Sv.one (At.ptr 0 0))), (7, Tv.sv (Sv.one (At.ptr 5 0))), (8, Tv.sv (Sv.one (At.ptr 9 0))), (9, Tv.sv (Sv.one (At.ptr 10 0))), (10, Tv.sv (Sv.one (At.int .u64 (IntKind.wrap IntKind.u64 ((2 : Int) * (↑a.fst : Int) + (3 : Int) + (2 : Int))))))] [(0, 0, At.words true []), (0, 1, At.int .u64 0), (5, 0, At.words false (fw (shortF (Fw.f (fw (shortF (Fw.f (fw (P a.fst))) n))) n)).xs), (5, 1, At.int .u64 (fw (shortF (Fw.f (fw (shortF (Fw.f (fw (P a.fst))) n))) n)).e), (9, 0, At.words false (fw (addF (Fw.f (fw (S0 (a.fst + (1 : Nat))))) (Fw.f (fw (shortF (Fw.f (fw (shortF (Fw.f (fw (shortF (Fw.f (fw (P a.fst))) n))) n))) ((2 : Int) * (↑a.fst : Int) + (3 : Int))))))).xs), (9, 1, At.int .u64 (fw (addF (Fw.f (fw (S0 (a.fst + (1 : Nat))))) (Fw.f (fw (shortF (Fw.f (fw (shortF (Fw.f (fw (shortF (Fw.f (fw (P a.fst))) n))) n))) ((2 : Int) * (↑a.fst : Int) + (3 : Int))))))).e), (10, 0, At.words a.snd (fw (S1 (a.fst + (1 : Nat)))).xs), (10, 1, At.int .u64 (fw (S1 (a.fst + (1 : Nat)))).e)] (11 : Nat) = LKeep.at niK (niSt n b P S0 S1 a') ∧ K - a'.fst < K - a.fst)) ((Fw.Ok (Fw.mk (fw (S0 (a.fst + (1 : Nat)))).xs (IntKind.wrap IntKind.u64 ((fw (S0 (a.fst + (1 : Nat)))).e + (4 : Int)))) ∧ Fw.Ok (Fw.mk (fw (S1 (a.fst + (1 : Nat)))).xs (IntKind.wrap IntKind.u64 ((fw (S1 (a.fst + (1 : Nat)))).e + (4 : Int)))) ∧ (Fw.f (Fw.mk (fw (S1 (a.fst + (1 : Nat)))).xs (IntKind.wrap IntKind.u64 ((fw (S1 (a.fst + (1 : Nat)))).e + (4 : Int))))).a + (Fw.f (Fw.mk (fw (S1 (a.fst + (1 : Nat)))).xs (IntKind.wrap IntKind.u64 ((fw (S1 (a.fst + (1 : Nat)))).e + (4 : Int))))).e ≤ (Fw.f (Fw.mk (fw (S0 (a.fst + (1 : Nat)))).xs (IntKind.wrap IntKind.u64 ((fw (S0 (a.fst + (1 : Nat)))).e + (4 : Int))))).a) ∧ Q (Tv.sv (Sv.agg (fwL false (fw (subF (Fw.f (Fw.mk (fw (S0 (a.fst + (1 : Nat)))).xs (IntKind.wrap IntKind.u64 ((fw (S0 (a.fst + (1 : Nat)))).e + (4 : Int))))) (Fw.f (Fw.mk (fw (S1 (a.fst + (1 : Nat)))).xs (IntKind.wrap IntKind.u64 ((fw (S1 (a.fst + (1 : Nat)))).e + (4 : Int)))))))))))) := by kernel_rfl
section
variable {n w : Int} (h : InvOk n w)
include h
theorem refP_le (k : Nat) : 0 ≤ (refP n w k).a ∧ (refP n w k).a ≤ 2 ^ w.toNat := by
  have a0 := (refP_in h k).a0
  have s := refP_small h k
  have p := two_pow_pos k
  have m := Int.mul_le_mul_of_nonneg_left (show (1 : Int) ≤ 2 ^ k by omega) a0
  exact ⟨a0, by omega⟩
theorem refP_ok (k : Nat) : (refP n w k).Ok := by
  have a := refP_le h k
  have e := refP_e h k
  exact fx_small h a.1 (by omega) (by omega) (by omega)
theorem refT_ok (k : Nat) : (refT n w k).Ok := by
  have a := refP_le h k
  have b := refT_le h k
  have c := (refT_in h k).a0
  have e := refT_e h k
  exact fx_small h c (by omega) (by omega) (by omega)
theorem refM_ok (b : Nat) {k : Nat} (hk : (k : Int) ≤ w + 2) : (SmT (refT n w) b k).Ok ∧ (SmT (refT n w) b k).e ≤ 131080 := by
  have a := smR_a h b k
  have p0 := (refP_in h k).a0
  have q := refP_le h 0
  have e := smR_e h b k
  have w1 := h.w1
  exact ⟨fx_small h a.1 (by omega) e.1 (by omega), by omega⟩
end
def niInv : Spec := specK [.i .u64, .b, .i .i64] fun (n : Int) (b : Bool) (q : Int) => (some (b = true ∧ InvOk n q), fxT (refS n q))
theorem niInv_ok : SpecOk Tryz.prog 128 niInv :=
  specKW_ok (envOk tys3_ok sNi_ok) mixed Tryz.func128 rfl (by decide) (by decide) fun (n : Int) _ (b : Bool) _ (q : Int) _ hp => by
    obtain ⟨rfl, h⟩ : b = true ∧ InvOk n q := hp
    refine ⟨niInvL n true (refP n q) (SmT (refT n q) 0) (SmT (refT n q) 1) (refK n q), 0, ?_⟩
    show execF _ _ _ _ _ (fun t => t = fxT (refS n q) ∨ fgT t = fxT (refS n q))
    refine (niInv_vc n q true (refP n q) (SmT (refT n q) 0) (SmT (refT n q) 1) (refK n q) _).mpr ?_
    have n0 := h.n0
    have n1 := h.n1
    have w0 := h.w0
    have w1 := h.w1
    have p := two_pow_pos q.toNat
    obtain ⟨k2, k3, k4⟩ := refK_spec h
    have ew : ∀ z : Fx, (fw z).e = z.e := fun _ => rfl
    have x1 : (fw (⟨2 ^ q.toNat, 0⟩ : Fx)).f = ⟨2 ^ q.toNat, 0⟩ := fw_f (by show (0 : Int) ≤ 2 ^ q.toNat; omega)
    have xs0 : fw (⟨0, 0⟩ : Fx) = ⟨[], 0⟩ := by show (⟨ws 0, 0⟩ : Fw) = _; rw [ws_zero]
    have S01 : SmT (refT n q) 0 (0 + 1) = refP n q 0 := by
      show addF ⟨0, 0⟩ (refP n q 0) = _
      show (⟨0 + _, 0 + _⟩ : Fx) = _
      rw [Int.zero_add, Int.zero_add]
    have S11 : SmT (refT n q) 1 (0 + 1) = ⟨0, 0⟩ := rfl
    rw [x1, ew]
    refine ⟨⟨by omega, by omega⟩, ⟨Int.le_refl _, by show (0 : Int) ≤ _; omega, by omega, by omega⟩, rfl, ⟨(0, true), Nat.zero_le _, ?_⟩, fun a ha => ?_⟩
    · unfold LKeep.at niSt
      dsimp only
      rw [S01, S11, xs0]; rfl
    · obtain ⟨k, nb⟩ := a
      have ha : k ≤ refK n q := ha
      have oP := refP_ok h k
      have eP := refP_e h k
      have hl : ltI 0 ((fw (refP n q k)).xs.length : Nat) = decide ((refP n q k).a ≠ 0) := len_pos oP.1
      have fP : (fw (refP n q k)).f = refP n q k := fw_f oP.1
      have z1 := shortF_e0 (d := n) oP.1 (show 0 ≤ (refP n q k).e by omega) (by omega)
      have f1 : (fw (shortF (refP n q k) n)).f = shortF (refP n q k) n := fw_f z1.1
      have eP1 : shortF (shortF (refP n q k) n) n = refP n q (k + 1) := rfl
      have oP1 := refP_ok h (k + 1)
      have ee1 := refP_e h (k + 1)
      have f2 : (fw (refP n q (k + 1))).f = refP n q (k + 1) := fw_f oP1.1
      have eT : shortF (refP n q (k + 1)) (2 * ((k : Nat) : Int) + 3) = refT n q (k + 1) := by
        show _ = shortF (refP n q (k + 1)) (2 * ((k + 1 : Nat) : Int) + 1)
        congr 1
      have oT := refT_ok h (k + 1)
      have fT : (fw (refT n q (k + 1))).f = refT n q (k + 1) := fw_f oT.1
      have wk : IntKind.u64.wrap (2 * (k : Int) + 3 + 2) = 2 * ((k + 1 : Nat) : Int) + 3 := by rw [wrap_w ⟨by omega, by omega⟩]; omega
      have o0 := refM_ok h 0 (k := k + 1) (by omega)
      have o1 := refM_ok h 1 (k := k + 1) (by omega)
      have m0 : (fw (SmT (refT n q) 0 (k + 1))).f = SmT (refT n q) 0 (k + 1) := fw_f o0.1.1
      have m1 : (fw (SmT (refT n q) 1 (k + 1))).f = SmT (refT n q) 1 (k + 1) := fw_f o1.1.1
      show br (ltI 0 ((fw (refP n q k)).xs.length : Nat)) _ _
      rw [hl]
      refine br_intro (fun hc => ?_) fun hc => ?_
      · have hne : (refP n q k).a ≠ 0 := of_decide_eq_true hc
        have hkK : k < refK n q := by
          rcases Nat.lt_or_ge k (refK n q) with c | c
          · exact c
          · have : k = refK n q := by omega
            rw [this] at hne; exact absurd k3 hne
        show _ ∧ _ ∧ _ ∧ br true _ _
        dsimp only
        rw [fP, f1, eP1, f2, eT, fT, m0, m1, wk, ew, ew, ew]
        have tm : Int.tmod (2 * (k : Int) + 3) 4 = (2 * (k : Int) + 3) % 4 := Int.tmod_eq_emod_of_nonneg (by omega)
        refine ⟨⟨by omega, by omega, by omega, by omega⟩, ⟨by omega, by omega, by omega, by omega⟩, ⟨by omega, by omega, by omega, by omega⟩, br_intro (fun _ => ⟨by decide, br_intro (fun h3 => ⟨⟨o1.1.w, oT.w⟩, rfl, (k + 1, false), hkK, ?_, by show refK n q - (k + 1) < refK n q - k; omega⟩) fun h3 => ⟨⟨o0.1.w, oT.w⟩, rfl, (k + 1, nb), hkK, ?_, by show refK n q - (k + 1) < refK n q - k; omega⟩⟩) fun h3 => by cases h3⟩
        · have h3 := eqI_true.1 h3
          rw [tm] at h3
          have s1 : SmT (refT n q) 1 (k + 1 + 1) = addF (SmT (refT n q) 1 (k + 1)) (refT n q (k + 1)) := if_pos (by omega)
          have s0 : SmT (refT n q) 0 (k + 1 + 1) = SmT (refT n q) 0 (k + 1) := if_neg (by omega)
          unfold LKeep.at niSt
          dsimp only
          rw [s1, s0]; rfl
        · have h3 := eqI_false.1 h3
          rw [tm] at h3
          have s1 : SmT (refT n q) 1 (k + 1 + 1) = SmT (refT n q) 1 (k + 1) := if_neg (by omega)
          have s0 : SmT (refT n q) 0 (k + 1 + 1) = addF (SmT (refT n q) 0 (k + 1)) (refT n q (k + 1)) := if_pos (by omega)
          unfold LKeep.at niSt
          dsimp only
          rw [s1, s0]; rfl
      · have hz : (refP n q k).a = 0 := by have := of_decide_eq_false hc; omega
        have hkK : k = refK n q := by
          rcases Nat.lt_or_ge k (refK n q) with c | c
          · exact absurd hz (k4 k c)
          · omega
        dsimp only
        have wd : ∀ b, (SmT (refT n q) b (k + 1)).Ok ∧ (SmT (refT n q) b (k + 1)).e ≤ 131080 → (⟨(fw (SmT (refT n q) b (k + 1))).xs, IntKind.u64.wrap ((fw (SmT (refT n q) b (k + 1))).e + 4)⟩ : Fw) = fw (widerF (SmT (refT n q) b (k + 1)) 4) := fun b o => by
          rw [ew, wrap_w ⟨by have := o.1.2.2.1; omega, by have := o.2; omega⟩]; rfl
        have ow : ∀ b, (SmT (refT n q) b (k + 1)).Ok ∧ (SmT (refT n q) b (k + 1)).e ≤ 131080 → (widerF (SmT (refT n q) b (k + 1)) 4).Ok := fun b o => ⟨o.1.1, o.1.2.1, by show 0 ≤ _ + 4; have := o.1.2.2.1; omega, by show _ + 4 ≤ _; have := o.2; omega⟩
        rw [wd 0 o0, wd 1 o1, fw_f (ow 0 o0).1, fw_f (ow 1 o1).1]
        have bd := refS_bd h
        have eS : refS n q = subF (widerF (SmT (refT n q) 0 (k + 1)) 4) (widerF (SmT (refT n q) 1 (k + 1)) 4) := by rw [hkK]; rfl
        have ea : (refS n q).a = (widerF (SmT (refT n q) 0 (k + 1)) 4).a - ((widerF (SmT (refT n q) 1 (k + 1)) 4).a + (widerF (SmT (refT n q) 1 (k + 1)) 4).e) := by rw [eS]; rfl
        refine ⟨⟨(ow 0 o0).w, (ow 1 o1).w, by omega⟩, .inl ?_⟩
        rw [eS]
theorem refS_ok {n w t : Int} (h : InvOk n w) (t0 : 1 ≤ t) (t1 : t ≤ 64) : (timesF (refS n w) t).Ok ∧ (refS n w).Ok ∧ (refS n w).e ≤ 549755813888 := by
  have g := refS_bd h
  have w0 := h.w0
  have w1 := h.w1
  have q := refP_le h 0
  have a0 := Int.mul_nonneg g.1 (show 0 ≤ t by omega)
  have a1 := Int.mul_le_mul (show (refS n w).a ≤ 2 * 2 ^ w.toNat by omega) t1 (by omega) (by omega)
  have e0 := Int.mul_nonneg g.2.2.1 (show 0 ≤ t by omega)
  have e1 := Int.mul_le_mul g.2.2.2.1 t1 (by omega) (by omega)
  have b : blen ((refS n w).a * t) ≤ w.toNat + 7 + 1 := blen_pow_le (by
    rw [show (2 : Int) ^ (w.toNat + 7) = 2 ^ w.toNat * 128 by rw [Int.pow_add]; rfl]; omega)
  exact ⟨⟨a0, by show blen ((refS n w).a * t) ≤ _; omega, e0, by show (refS n w).e * t ≤ _; omega⟩, fx_small h g.1 (by omega) g.2.2.1 (by omega), by omega⟩
theorem piR_gap {w : Int} (w0 : 32 ≤ w) (w1 : w ≤ 65536) : (timesF (refS 239 w) 4).a + (timesF (refS 239 w) 4).e ≤ (timesF (refS 5 w) 16).a := by
  have h := (piR_e w0 w1).1
  have e1 : (piR w).a = (timesF (refS 5 w) 16).a - ((timesF (refS 239 w) 4).a + (timesF (refS 239 w) 4).e) := rfl
  omega
theorem piR_ok {w : Int} (w0 : 32 ≤ w) (w1 : w ≤ 65536) : (piR w).Ok := by
  obtain ⟨a0, e0, e1, a1⟩ := piR_e w0 w1
  have b : blen (piR w).a ≤ w.toNat + 5 + 1 := blen_pow_le (by
    rw [show (2 : Int) ^ (w.toNat + 5) = 2 ^ w.toNat * 32 by rw [Int.pow_add]; rfl]; omega)
  exact ⟨a0, by omega, e0, by omega⟩
def sNp (fS : Int → Int → Fx) (pr : Int → Int → Prop) : List (FuncId × Spec) := [(128, specK [.i .u64, .b, .i .i64] fun (n : Int) (b : Bool) (q : Int) => (some (b = true ∧ pr n q), fxT (fS n q))), (127, niTimes), (126, niSub)]
theorem sNp_ok : SpecsOk Tryz.prog (sNp refS InvOk) := ⟨niInv_ok, niTimes_ok, niSub_ok, trivial⟩
theorem niPi_vc (q : Int) (fS : Int → Int → Fx) (pr : Int → Int → Prop) (Q : Tv → Prop) : execF ⟨tys3, sNp fS pr⟩ (fun _ => none) 0 Tryz.f96 [.one (.int .i64 q)] Q = ((true = true ∧ pr (5 : Int) q) ∧ (Fw.Ok (fw (fS (5 : Int) q)) ∧ (fw (fS (5 : Int) q)).e ≤ (549755813888 : Int) ∧ (0 : Int) ≤ (16 : Int) ∧ (16 : Int) ≤ (64 : Int)) ∧ (true = true ∧ pr (239 : Int) q) ∧ (Fw.Ok (fw (fS (239 : Int) q)) ∧ (fw (fS (239 : Int) q)).e ≤ (549755813888 : Int) ∧ (0 : Int) ≤ (4 : Int) ∧ (4 : Int) ≤ (64 : Int)) ∧ (Fw.Ok (fw (timesF (Fw.f (fw (fS (5 : Int) q))) (16 : Int))) ∧ Fw.Ok (fw (timesF (Fw.f (fw (fS (239 : Int) q))) (4 : Int))) ∧ (Fw.f (fw (timesF (Fw.f (fw (fS (239 : Int) q))) (4 : Int)))).a + (Fw.f (fw (timesF (Fw.f (fw (fS (239 : Int) q))) (4 : Int)))).e ≤ (Fw.f (fw (timesF (Fw.f (fw (fS (5 : Int) q))) (16 : Int)))).a) ∧ Q (Tv.sv (Sv.agg (fwL false (fw (subF (Fw.f (fw (timesF (Fw.f (fw (fS (5 : Int) q))) (16 : Int)))) (Fw.f (fw (timesF (Fw.f (fw (fS (239 : Int) q))) (4 : Int)))))))))) := by kernel_rfl
def niPi : Spec := specK [.i .i64] fun (q : Int) => (some (32 ≤ q ∧ q ≤ 65536), fxT (piR q))
theorem niPi_ok : SpecOk Tryz.prog 96 niPi :=
  specKW_ok (envOk tys3_ok sNp_ok) mixed Tryz.func96 rfl (by decide) (by decide) fun (q : Int) _ hp => ⟨fun _ => none, 0, by
    obtain ⟨w0, w1⟩ : 32 ≤ q ∧ q ≤ 65536 := hp
    have h5 : InvOk 5 q := ⟨by omega, by omega, w0, w1⟩
    have h2 : InvOk 239 q := ⟨by omega, by omega, w0, w1⟩
    obtain ⟨o5, p5, l5⟩ := refS_ok h5 (t := 16) (by omega) (by omega)
    obtain ⟨o2, p2', l2⟩ := refS_ok h2 (t := 4) (by omega) (by omega)
    show execF _ _ _ _ _ (fun t => t = fxT (piR q) ∨ fgT t = fxT (piR q))
    refine (niPi_vc q refS InvOk _).mpr ?_
    rw [fw_f p5.1, fw_f p2'.1, fw_f o5.1, fw_f o2.1]
    exact ⟨⟨rfl, h5⟩, ⟨p5.w, l5, by omega, by omega⟩, ⟨rfl, h2⟩, ⟨p2'.w, l2, by omega, by omega⟩, ⟨o5.w, o2.w, piR_gap w0 w1⟩, .inl rfl⟩⟩
def sHp (fP : Int → Fx) (pr : Int → Prop) : List (FuncId × Spec) := [(96, specK [.i .i64] fun (q : Int) => (some (pr q), fxT (fP q))), (95, niIval)]
theorem sHp_ok : SpecsOk Tryz.prog (sHp piR (fun q => 32 ≤ q ∧ q ≤ 65536)) := ⟨niPi_ok, niIval_ok, trivial⟩
theorem hPi_vc (w : Int) (fP : Int → Fx) (pr : Int → Prop) (Q : Tv → Prop) : execF ⟨tys3, sHp fP pr⟩ (fun _ => none) 0 Tryz.f55 [.one (.int .i64 w)] Q = (pr w ∧ (Fw.Ok (fw (fP w)) ∧ (0 : Int) ≤ w ∧ w ≤ (16777216 : Int)) ∧ Q (Tv.sv (Sv.agg (ivL true (ivF (Fw.f (fw (fP w))) w))))) := by kernel_rfl
def hPi : Spec := specK [.i .i64] fun (w : Int) => (some (32 ≤ w ∧ w ≤ 65536), vT (refPi w))
theorem hPi_ok : SpecOk Tryz.prog 55 hPi :=
  specK_ok (envOk tys3_ok sHp_ok) mixed Tryz.func55 rfl (by decide) (by decide) fun (w : Int) _ hp => ⟨fun _ => none, 0, by
    obtain ⟨w0, w1⟩ : 32 ≤ w ∧ w ≤ 65536 := hp
    have o := piR_ok w0 w1
    show execF _ _ _ _ _ (fun t => t = vT (refPi w))
    refine (hPi_vc w piR (fun q => 32 ≤ q ∧ q ≤ 65536) _).mpr ?_
    rw [fw_f o.1]
    exact ⟨⟨w0, w1⟩, ⟨o.w, by omega, by omega⟩, rfl⟩⟩
end Go.Proofs.YtdnbckfhfhfkoaaGreatDoor

namespace Go.Proofs.YtdnbckfhfhfkoaaGreatDoor
open Go.RowKit
def sQh1 : List (FuncId × Spec) := [(56, hNear), (81, hBy4), (57, gDiv), (58, gLess)] ++ sG3
theorem sQh1_ok : SpecsOk Tryz.prog sQh1 := ⟨hNear_ok, hBy4_ok, gDiv_ok, gLess_ok, sG3_ok⟩
def sQh2 (fp : Int → Vx) (pr : Int → Prop) : List (FuncId × Spec) := (55, specK [.i .i64] fun (w : Int) => (some (pr w), vT (fp w))) :: sQh1
theorem sQh2_ok : SpecsOk Tryz.prog (sQh2 refPi (fun w => 32 ≤ w ∧ w ≤ 65536)) := ⟨hPi_ok, sQh1_ok⟩
def refH (w : Int) : Vx := scaleV (refPi w) (-1)
theorem refH_hf {w : Int} (w0 : 32 ≤ w) (w1 : w ≤ 65536) : HfIv (p2 (23 - w) / 2) (refH w) := (refPi_iv w0 w1).half
theorem refPi_bd {w : Int} (w0 : 64 ≤ w) (w1 : w ≤ 65536) : (refPi w).Bd w 7 := by
  obtain ⟨a0, e0, e1, a1⟩ := piR_e (w := w) (by omega) (by omega)
  exact ivF_bd w0 w1 a0 e0 e1 a1
def tryH (x : Dx) (p w : Int) : Int × Vx × Bool := if sureW (refH w) x w = true then (by4I (nW (refH w) x w), restW (refH w) x w, narrowB (restW (refH w) x w) p) else (0, zeroIv, false)
def hWith : Spec := specK [.d, .i .i64, .i .i64] fun (x : Dx) (p : Int) (w : Int) => (some (inX x ∧ 64 ≤ w ∧ w ≤ 65536), .tup [.one (.int .i64 (tryH x p w).1), .agg (ivL false (tryH x p w).2.1), .one (.bool (tryH x p w).2.2)])
theorem hWith_vc (x : Dx) (p w : Int) (fp : Int → Vx) (pr : Int → Prop) (Q : Tv → Prop) : execF ⟨tys2, sQh2 fp pr⟩ (fun _ => none) 0 Tryz.f54 [.agg (dyL false x), .one (.int .i64 p), .one (.int .i64 w)] Q = (pr w ∧ (eB (2305843009213693952 : Int) (fp w).lo ∧ eB (2305843009213693952 : Int) (fp w).hi ∧ (-2305843009213693952 : Int) ≤ (-1 : Int) ∧ (-1 : Int) ≤ (2305843009213693952 : Int)) ∧ eB (4611686018427387904 : Int) x ∧ (Vx.Sm (16777216 : Nat) (pointV x) ∧ Vx.Sm (16777216 : Nat) (scaleV (fp w) (-1 : Int)) ∧ Dx.m (scaleV (fp w) (-1 : Int)).lo ≠ (0 : Int) ∧ Dx.m (scaleV (fp w) (-1 : Int)).hi ≠ (0 : Int) ∧ (1 : Int) ≤ w ∧ w ≤ (16777216 : Int)) ∧ true = true ∧ Dx.Sm (268435456 : Nat) (divV (pointV x) (scaleV (fp w) (-1 : Int)) w).lo ∧ Dx.Sm (268435456 : Nat) (divV (pointV x) (scaleV (fp w) (-1 : Int)) w).hi ∧ true = true ∧ br (!sameD (nearD (divV (pointV x) (scaleV (fp w) (-1 : Int)) w).lo) (nearD (divV (pointV x) (scaleV (fp w) (-1 : Int)) w).hi)) (Q (Tv.tup [Sv.one (At.int .i64 0), Sv.agg [At.bool false, At.words true [], At.int .i64 0, At.bool false, At.words true [], At.int .i64 0], Sv.one (At.bool false)])) (eB (4611686018427387904 : Int) x ∧ eB (4611686018427387904 : Int) (nearD (divV (pointV x) (scaleV (fp w) (-1 : Int)) w).lo) ∧ inR (w + (64 : Int)) ∧ (Vx.Sm (268435456 : Nat) (pointV (nearD (divV (pointV x) (scaleV (fp w) (-1 : Int)) w).lo)) ∧ Vx.Sm (268435456 : Nat) (scaleV (fp w) (-1 : Int)) ∧ (0 : Int) ≤ w + (64 : Int) ∧ w + (64 : Int) ≤ (1099511627776 : Int)) ∧ (Vx.Sm (134217728 : Nat) (pointV x) ∧ Vx.Sm (134217728 : Nat) (timesV (pointV (nearD (divV (pointV x) (scaleV (fp w) (-1 : Int)) w).lo)) (scaleV (fp w) (-1 : Int)) (w + (64 : Int))) ∧ (0 : Int) ≤ w ∧ w ≤ (1099511627776 : Int)) ∧ true = true ∧ (OneF (nearD (divV (pointV x) (scaleV (fp w) (-1 : Int)) w).lo) ∧ (0 : Int) ≤ (nearD (divV (pointV x) (scaleV (fp w) (-1 : Int)) w).lo).e) ∧ true = true ∧ Q (Tv.tup [Sv.one (At.int .i64 (by4I (nearD (divV (pointV x) (scaleV (fp w) (-1 : Int)) w).lo))), Sv.agg (ivL true (lessV (pointV x) (timesV (pointV (nearD (divV (pointV x) (scaleV (fp w) (-1 : Int)) w).lo)) (scaleV (fp w) (-1 : Int)) (w + (64 : Int))) w)), Sv.one (At.bool (narrowB (lessV (pointV x) (timesV (pointV (nearD (divV (pointV x) (scaleV (fp w) (-1 : Int)) w).lo)) (scaleV (fp w) (-1 : Int)) (w + (64 : Int))) w) p))]))) := by kernel_rfl
theorem sure_same {h : Vx} {x : Dx} {w : Int} : sameD (nW h x w) (nearD (quoW h x w).hi) = sureW h x w := by
  have a : OneF (nW h x w) := nearD_f
  have b : OneF (nearD (quoW h x w).hi) := nearD_f
  rw [Bool.eq_iff_iff, same_iff a b]
  unfold sureW
  rw [eqI_true, cmpD_eq0]
theorem half_sizes {d : Rat} {h : Vx} (hf : HfIv d h) {w : Int} (w0 : 8 ≤ w) (w1 : w ≤ 65536) (hb : h.Bd (w + 65) 8) {x : Dx} (hx : 0 ≤ x.m) (hi : inX x) :
    (pointV x).Bd 32768 98304 ∧ h.Sm 131072 ∧ (quoW h x w).Sm 26214500 ∧ (nW h x w).Bd 0 2051 ∧ (timesV (pointV (nW h x w)) h (w + 64)).Bd (w + 65) 2060 ∧ (restW h x w).Bd 65602 98306 := by
  obtain ⟨bx, x1, x2⟩ := hi
  have sx := bx.sm (N := 131072) (by omega)
  have hs := hb.sm (N := 131072) (by omega)
  have q := quoW_sm (w := w) hx hf.p sx (hs.mono (by omega)) (by omega) (by omega)
  have sn := nW_sm hf hx (w := w) (by omega) x1 x2
  have np : 0 ≤ (nW h x w).m := nearD_p
  have bn : (nW h x w).Bd 0 2051 := ⟨by omega, by omega, nearD_e, by have := sn.1; have := sn.2.2; omega⟩
  have z1 := bx.point hx
  have zn := bn.point np
  have zt : (timesV (pointV (nW h x w)) h (w + 64)).Bd (0 + (w + 65)) (2051 + 8 + 1) := zn.times (pointV_p _) hf.p (by omega) hb
  have zr : (restW h x w).Bd 65602 98306 := (z1.mono (L' := 65602) (T' := 98304) (by omega) (by omega)).less (pointV_p x) (trimV_p _ _) (by omega) (zt.mono (by omega) (by omega))
  exact ⟨z1, hs, ⟨q.1.mono (by omega), q.2.mono (by omega)⟩, bn, zt.mono (by omega) (by omega), zr⟩
theorem hWith_ok : SpecOk Tryz.prog 54 hWith :=
  specKW_ok (envOk tys2_ok sQh2_ok) mixed Tryz.func54 rfl (by decide) (by decide) fun (x : Dx) hxw (p : Int) _ (w : Int) _ hp => ⟨fun _ => none, 0, by
    obtain ⟨hi, w0, w1⟩ : inX x ∧ 64 ≤ w ∧ w ≤ 65536 := hp
    have hx := Dx.Wf.m0 hxw
    show execF _ _ _ _ _ (fun t => t = .tup [.one (.int .i64 (tryH x p w).1), .agg (ivL false (tryH x p w).2.1), .one (.bool (tryH x p w).2.2)] ∨ fgT t = .tup [.one (.int .i64 (tryH x p w).1), .agg (ivL false (tryH x p w).2.1), .one (.bool (tryH x p w).2.2)])
    refine (hWith_vc x p w refPi (fun w => 32 ≤ w ∧ w ≤ 65536) _).mpr ?_
    have hf := refH_hf (w := w) (by omega) w1
    have cb := refPi_bd w0 w1
    have hb : (refH w).Bd (w + 65) 8 := Vx.Bd.mono (cb.scale1 (refPi_iv (w := w) (by omega) w1).p) (by omega) (by omega)
    have cs := cb.sm (N := 131072) (by omega)
    obtain ⟨z1, hs, q, bn, zt, zr⟩ := half_sizes hf (by omega) w1 hb hx hi
    have zn := bn.point (d := nW (refH w) x w) nearD_p
    have sx := hi.1.sm (N := 131072) (by omega)
    have r1 : Dx.rv (refH w).lo ≠ 0 := by have := hf.lo; grind
    have r2 : Dx.rv (refH w).hi ≠ 0 := by have := hf.lo; have := hf.le; grind
    have e1 : scaleV (refPi w) (-1) = refH w := rfl
    have e2 : divV (pointV x) (refH w) w = quoW (refH w) x w := rfl
    have e3 : nearD (quoW (refH w) x w).lo = nW (refH w) x w := rfl
    have e4 : lessV (pointV x) (timesV (pointV (nW (refH w) x w)) (refH w) (w + 64)) w = restW (refH w) x w := rfl
    rw [e1, e2, e3, e4, sure_same]
    have n2 := bn.hi
    refine ⟨⟨by omega, w1⟩, ⟨cs.1.eB (by omega), cs.2.eB (by omega), by omega, by omega⟩, sx.eB (by omega), ⟨z1.sm (by omega), ⟨hs.1.mono (by omega), hs.2.mono (by omega)⟩, rv_ne r1, rv_ne r2, by omega, by omega⟩, rfl, q.1.mono (by omega), q.2.mono (by omega), rfl, br_intro (fun hb => .inr ?_) fun hb => ⟨sx.eB (by omega), ⟨by have := bn.lo; omega, by omega⟩, ⟨by omega, by omega⟩, ⟨zn.sm (by omega), ⟨hs.1.mono (by omega), hs.2.mono (by omega)⟩, by omega, by omega⟩, ⟨z1.sm (by omega), zt.sm (by omega), by omega, by omega⟩, rfl, ⟨nearD_f, nearD_e⟩, rfl, .inr ?_⟩⟩
    · have : tryH x p w = (0, zeroIv, false) := by rw [tryH, if_neg (by rw [not_true hb]; simp)]
      rw [this]; rfl
    · have : tryH x p w = (by4I (nW (refH w) x w), restW (refH w) x w, narrowB (restW (refH w) x w) p) := by rw [tryH, if_pos (not_false' hb)]
      rw [this]; rfl⟩
def faultQ (x : Dx) (p : Int) : Int := if x.fitsB = true ∧ 8 ≤ p ∧ p ≤ 3968 then (if x.m ≠ 0 ∧ 1024 ≤ topD (oneD x) then 3 else 0) else 2
theorem hFault_vc (x : Dx) (p : Int) (Q : Tv → Prop) : execF ⟨tys2, sQh1⟩ (fun _ => none) 0 Tryz.f52 [.agg (dyL false x), .one (.int .i64 p)] Q = (br (!Dx.fitsB x) (Q (iT 2)) (br (ltI p (8 : Int)) (Q (iT 2)) (br (ltI (3968 : Int) p) (Q (iT 2)) (br (!Dx.zeroB x) (eB (4611686018427387904 : Int) x ∧ eB (2305843009213693952 : Int) (oneD x) ∧ br (leI (1024 : Int) ((oneD x).e + (↑(blen (Dx.m (oneD x))) : Int) - (1 : Int))) (Q (iT 3)) (Q (iT 0))) (Q (iT 0)))))) := by kernel_rfl
def hFaultQ : Spec := specK [.d, .i .i64] fun (x : Dx) (p : Int) => (none, iT (faultQ x p))
theorem hFault_ok : SpecOk Tryz.prog 52 hFaultQ :=
  specK_ok (envOk tys2_ok sQh1_ok) mixed Tryz.func52 rfl (by decide) (by decide) fun (x : Dx) hxw (p : Int) _ _ => ⟨fun _ => none, 0, by
    have hx := Dx.Wf.m0 hxw
    show execF _ _ _ _ _ (fun t => t = iT (faultQ x p))
    refine (hFault_vc x p _).mpr (br_intro (fun h => ?_) fun h => br_intro (fun h1 => ?_) fun h1 => br_intro (fun h2 => ?_) fun h2 => br_intro (fun h3 => ?_) fun h3 => ?_)
    · rw [faultQ, if_neg (by rw [not_true h]; simp)]
    · rw [faultQ, if_neg (by have := ltI_true.1 h1; omega)]
    · rw [faultQ, if_neg (by have := ltI_true.1 h2; omega)]
    · have c : x.fitsB = true ∧ 8 ≤ p ∧ p ≤ 3968 := ⟨not_false' h, by have := ltI_false.1 h1; omega, by have := ltI_false.1 h2; omega⟩
      have sx := (fits_bd c.1).sm (N := 131072) (by omega)
      have sy := ((fits_bd c.1).one hx).sm (N := 131072) (by omega)
      refine ⟨sx.eB (by omega), sy.eB (by omega), br_intro (fun h4 => ?_) fun h4 => ?_⟩
      · rw [faultQ, if_pos c, if_pos ⟨zeroB_false.1 (not_true h3), leI_true.1 h4⟩]
      · rw [faultQ, if_pos c, if_neg fun k => leI_false.1 h4 k.2]
    · have c : x.fitsB = true ∧ 8 ≤ p ∧ p ≤ 3968 := ⟨not_false' h, by have := ltI_false.1 h1; omega, by have := ltI_false.1 h2; omega⟩
      rw [faultQ, if_pos c, if_neg fun k => k.1 (zeroB_true.1 (not_false' h3))]⟩
def hquL (x : Dx) (p : Int) : Nat → Int → Int × Vx × Int
  | 0, _ => (0, zeroIv, 6)
  | n + 1, w => if w ≤ 16384 then (if (tryH x p w).2.2 = true then ((tryH x p w).1, (tryH x p w).2.1, 0) else hquL x p n (2 * w)) else (0, zeroIv, 6)
def hquR (x : Dx) (p : Int) : Int × Vx × Int := if faultQ x p ≠ 0 ∨ x.m = 0 then (0, zeroIv, faultQ x p) else hquL x p 9 (max (topD (oneD x)) 0 + p + 64)
def hquSt (x : Dx) (p : Int) (a : Nat × Int) : List (Nat × Tv) × List (Nat × Nat × At) :=
  ([(1, iT p), (2, .sv (.one (.ptr 0 0))), (5, .sv (.one (.ptr 2 0))), (8, iT a.2)], dyX 0 false x ++ zvX 2)
def hquInv (x : Dx) (p : Int) (P : Nat × Int → Prop) : Nat → Option LInv := invAt 5 (.rel ⟨[1, 2, 5, 8], [(0, 3), (2, 6)], 3⟩ (Nat × Int) (hquSt x p) P (fun a => a.1))
def sHq (g : Dx → Int → Int → Int × Vx × Bool) (pr : Dx → Int → Prop) (fq : Dx → Int → Int) : List (FuncId × Spec) := [(54, specK [.d, .i .i64, .i .i64] fun (x : Dx) (p : Int) (w : Int) => (some (pr x w), .tup [.one (.int .i64 (g x p w).1), .agg (ivL false (g x p w).2.1), .one (.bool (g x p w).2.2)])), (52, specK [.d, .i .i64] fun (x : Dx) (p : Int) => (none, iT (fq x p)))] ++ sQh1
theorem hQu_vc (x : Dx) (p : Int) (P : Nat × Int → Prop) (pr : Dx → Int → Prop) (fq : Dx → Int → Int) (g : Dx → Int → Int → Int × Vx × Bool) (Q : Tv → Prop) : execF ⟨tys2, sHq g pr fq⟩ (hquInv x p P) 0 Tryz.f14 [.agg (dyL false x), .one (.int .i64 p)] Q = (br (neI (fq x p) (0 : Int)) (Q (Tv.tup [Sv.one (At.int .i64 0), Sv.agg [At.bool false, At.words true [], At.int .i64 0, At.bool false, At.words true [], At.int .i64 0], Sv.one (At.int .i64 (fq x p))])) (br (Dx.zeroB x) (Q (Tv.tup [Sv.one (At.int .i64 0), Sv.agg [At.bool false, At.words true [], At.int .i64 0, At.bool false, At.words true [], At.int .i64 0], Sv.one (At.int .i64 (fq x p))])) (eB (4611686018427387904 : Int) x ∧ eB (2305843009213693952 : Int) (oneD x) ∧ inR (maxI ((oneD x).e + (↑(blen (Dx.m (oneD x))) : Int) - (1 : Int)) (0 : Int) + p) ∧ inR (maxI ((oneD x).e + (↑(blen (Dx.m (oneD x))) : Int) - (1 : Int)) (0 : Int) + p + (64 : Int)) ∧ true = true ∧ (∃ (a : Nat × Int), P a ∧ Sg.mk [(1, iT p), (2, Tv.sv (Sv.one (At.ptr 0 0))), (5, Tv.sv (Sv.one (At.ptr ((0 : Nat) + (2 : Nat)) (0 : Nat)))), (8, iT (maxI ((oneD x).e + (↑(blen (Dx.m (oneD x))) : Int) - (1 : Int)) (0 : Int) + p + (64 : Int)))] [(0, 0, At.bool x.neg), (0, 1, At.words false x.xs), (0, 2, At.int .i64 x.e), (2, 0, At.bool false), (2, 1, At.words true []), (2, 2, At.int .i64 0), (2, 3, At.bool false), (2, 4, At.words true []), (2, 5, At.int .i64 0)] (3 : Nat) = LKeep.at (LKeep.mk [(1 : Nat), (2 : Nat), (5 : Nat), (8 : Nat)] [(0, (3 : Nat)), (2, (6 : Nat))] (3 : Nat)) (hquSt x p a)) ∧ ∀ (a : Nat × Int), P a → br (leI a.snd (16384 : Int)) (pr x a.snd ∧ br (g x p a.snd).snd.snd (true = true ∧ Q (Tv.tup [Sv.one (At.int .i64 (g x p a.snd).fst), Sv.agg (ivL false (g x p a.snd).snd.fst), Sv.one (At.int .i64 0)])) (inR ((2 : Int) * a.snd) ∧ true = true ∧ ∃ (a' : Nat × Int), P a' ∧ Sg.mk [(1, iT p), (2, Tv.sv (Sv.one (At.ptr 0 0))), (5, Tv.sv (Sv.one (At.ptr 2 0))), (8, iT ((2 : Int) * a.snd))] [(0, 0, At.bool x.neg), (0, 1, At.words false x.xs), (0, 2, At.int .i64 x.e), (2, 0, At.bool false), (2, 1, At.words true []), (2, 2, At.int .i64 0), (2, 3, At.bool false), (2, 4, At.words true []), (2, 5, At.int .i64 0)] (3 : Nat) = LKeep.at (LKeep.mk [(1 : Nat), (2 : Nat), (5 : Nat), (8 : Nat)] [(0, (3 : Nat)), (2, (6 : Nat))] (3 : Nat)) (hquSt x p a') ∧ a'.fst < a.fst)) (Q (Tv.tup [Sv.one (At.int .i64 0), Sv.agg [At.bool false, At.words true [], At.int .i64 0, At.bool false, At.words true [], At.int .i64 0], Sv.one (At.int .i64 6)]))))) := by kernel_rfl
theorem sHq_ok : SpecsOk Tryz.prog (sHq tryH (fun x w => inX x ∧ 64 ≤ w ∧ w ≤ 65536) faultQ) := ⟨hWith_ok, hFault_ok, sQh1_ok⟩
def hQu : Spec := specK [.d, .i .i64] fun (x : Dx) (p : Int) => (none, quT (hquR x p))
theorem faultQ_ok {x : Dx} {p : Int} (h : faultQ x p = 0) : x.fitsB = true ∧ 8 ≤ p ∧ p ≤ 3968 ∧ (x.m ≠ 0 → topD (oneD x) < 1024) := by
  unfold faultQ at h
  split at h
  · rename_i c
    refine ⟨c.1, c.2.1, c.2.2, fun h0 => ?_⟩
    split at h
    · cases h
    · rename_i k
      rcases Int.lt_or_le (topD (oneD x)) 1024 with l | l
      · exact l
      · exact absurd ⟨h0, l⟩ k
  · cases h
theorem inX_of {x : Dx} (hx : 0 ≤ x.m) (hf : x.fitsB = true) (ht : topD (oneD x) < 1024) : inX x := by
  have t := top_lt (x := oneD x) oneD_p ht
  rw [rv_one hx] at t
  exact ⟨fits_bd hf, t.1, t.2⟩
theorem hQu_ok : SpecOk Tryz.prog 14 hQu :=
  specKW_ok (envOk tys2_ok sHq_ok) mixed Tryz.func14 rfl (by decide) (by decide) fun (x : Dx) hxw (p : Int) _ _ => by
    have hx := Dx.Wf.m0 hxw
    obtain ⟨R, hR⟩ : ∃ R, R = hquL x p 9 (max (topD (oneD x)) 0 + p + 64) := ⟨_, rfl⟩
    refine ⟨hquInv x p (fun a => hquL x p a.1 a.2 = R ∧ 64 ≤ a.2 ∧ a.2 ≤ 32768 ∧ 16384 < a.2 * 2 ^ a.1), 0, ?_⟩
    show execF _ _ _ _ _ (fun t => t = quT (hquR x p) ∨ fgT t = quT (hquR x p))
    refine (hQu_vc x p _ (fun x w => inX x ∧ 64 ≤ w ∧ w ≤ 65536) faultQ tryH _).mpr (br_intro (fun h => .inr ?_) fun h => br_intro (fun h1 => .inr ?_) fun h1 => ?_)
    · rw [hquR, if_pos (.inl (neI_true.1 h))]; rfl
    · rw [hquR, if_pos (.inr (zeroB_true.1 h1))]; rfl
    have h := neI_false.1 h
    have h1 := zeroB_false.1 h1
    obtain ⟨c1, c2, c3, c4⟩ := faultQ_ok h
    have c4 := c4 h1
    have bx := fits_bd c1
    have b1 := bx.lo
    have b2 := bx.hi
    have sx := bx.sm (N := 131072) (by omega)
    have sy := (bx.one hx).sm (N := 131072) (by omega)
    have y1 := (bx.one hx).lo
    have y2 := (bx.one hx).hi
    have te : (oneD x).e + (blen (oneD x).m : Int) - 1 = topD (oneD x) := rfl
    rw [hquR, if_neg (by rintro (k | k); exact k h; exact h1 k), te, maxI_eq, ← hR]
    refine ⟨sx.eB (by omega), sy.eB (by omega), ⟨by omega, by omega⟩, ⟨by omega, by omega⟩, rfl, ⟨(9, max (topD (oneD x)) 0 + p + 64), ⟨hR.symm, by omega, by omega, by show 16384 < (max (topD (oneD x)) 0 + p + 64) * 2 ^ 9; omega⟩, rfl⟩, fun a ha => ?_⟩
    obtain ⟨n, w⟩ := a
    obtain ⟨e, w0, w1, w2⟩ : hquL x p n w = R ∧ 64 ≤ w ∧ w ≤ 32768 ∧ 16384 < w * 2 ^ n := ha
    refine br_intro (fun h2 => ⟨⟨inX_of hx c1 c4, w0, by show w ≤ _; omega⟩, br_intro (fun h3 => ⟨rfl, .inr ?_⟩) fun h3 => ?_⟩) fun h2 => .inr ?_
    · have h2 := leI_true.1 h2
      cases n with
      | zero => rw [Int.pow_zero] at w2; omega
      | succ m =>
        rw [hquL, if_pos h2, if_pos h3] at e
        rw [← e]; rfl
    · have h2 := leI_true.1 h2
      have h2' : w ≤ 16384 := h2
      cases n with
      | zero => rw [Int.pow_zero] at w2; omega
      | succ m =>
        rw [hquL, if_pos h2, if_neg (by rw [show (tryH x p w).2.2 = false from h3]; simp)] at e
        refine ⟨⟨by show _ ≤ 2 * w; omega, by show 2 * w < _; omega⟩, rfl, (m, 2 * w), ⟨e, by show 64 ≤ 2 * w; omega, by show 2 * w ≤ 32768; omega, ?_⟩, rfl, Nat.lt_succ_self _⟩
        show 16384 < 2 * w * 2 ^ m
        rw [Int.pow_succ, Int.mul_comm (2 ^ m) 2, ← Int.mul_assoc, Int.mul_comm w 2] at w2; exact w2
    · have h2 := leI_false.1 h2
      have h2' : 16384 < w := by have : ¬ w ≤ 16384 := h2; omega
      have : R = (0, zeroIv, 6) := by
        rw [← e]
        cases n with
        | zero => rfl
        | succ m => rw [hquL, if_neg (by omega)]
      rw [this]; rfl
theorem canon_cases (x : Dx) : (x.fitsB = true ∧ (oneD x).fitsB = true ∧ canonD x = (oneD x, 0)) ∨ (x.fitsB = true ∧ (oneD x).fitsB = false ∧ (canonD x).2 = 3) ∨ (x.fitsB = false ∧ (canonD x).2 = 2) := by
  unfold canonD roomD
  cases h : x.fitsB <;> cases k : (oneD x).fitsB <;> simp
theorem hTurns_vc (x : Dx) (Q : Tv → Prop) : execF ⟨tys2, sQh1⟩ (fun _ => none) 0 Tryz.f35 [.agg (dyL false x)] Q = (br (neI (canonD x).snd (0 : Int)) (Q (Tv.tup [Sv.one (At.int .i64 0), Sv.agg [At.bool false, At.words true [], At.int .i64 0], Sv.one (At.int .i64 (canonD x).snd)])) ((eB (2305843009213693952 : Int) (canonD x).fst ∧ (-2305843009213693952 : Int) ≤ (1 : Int) ∧ (1 : Int) ≤ (2305843009213693952 : Int)) ∧ Dx.Sm (268435456 : Nat) (shiftD (canonD x).fst (1 : Int)) ∧ (eB (2305843009213693952 : Int) (nearD (shiftD (canonD x).fst (1 : Int))) ∧ (-2305843009213693952 : Int) ≤ (-1 : Int) ∧ (-1 : Int) ≤ (2305843009213693952 : Int)) ∧ (Dx.Sm (34359738368 : Nat) (canonD x).fst ∧ Dx.Sm (34359738368 : Nat) (shiftD (nearD (shiftD (canonD x).fst (1 : Int))) (-1 : Int))) ∧ true = true ∧ br (!Dx.fitsB (lessD (canonD x).fst (shiftD (nearD (shiftD (canonD x).fst (1 : Int))) (-1 : Int)))) (Q (Tv.tup [Sv.one (At.int .i64 0), Sv.agg [At.bool false, At.words true [], At.int .i64 0], Sv.one (At.int .i64 3)])) ((OneF (nearD (shiftD (canonD x).fst (1 : Int))) ∧ (0 : Int) ≤ (nearD (shiftD (canonD x).fst (1 : Int))).e) ∧ true = true ∧ Q (Tv.tup [Sv.one (At.int .i64 (by4I (nearD (shiftD (canonD x).fst (1 : Int))))), Sv.agg (dyL true (lessD (canonD x).fst (shiftD (nearD (shiftD (canonD x).fst (1 : Int))) (-1 : Int)))), Sv.one (At.int .i64 0)])))) := by kernel_rfl
def hTurns : Spec := specK [.d] fun (x : Dx) => (none, turT (turR x))
theorem hTurns_ok : SpecOk Tryz.prog 35 hTurns :=
  specKW_ok (envOk tys2_ok sQh1_ok) mixed Tryz.func35 rfl (by decide) (by decide) fun (x : Dx) hxw _ => ⟨fun _ => none, 0, by
    have hx := Dx.Wf.m0 hxw
    show execF _ _ _ _ _ (fun t => t = turT (turR x) ∨ fgT t = turT (turR x))
    refine (hTurns_vc x _).mpr ?_
    rcases canon_cases x with ⟨c1, c2, c3⟩ | ⟨c1, c2, c3⟩ | ⟨c1, c3⟩
    · rw [c3]
      have bx := (fits_bd c1).one hx
      obtain ⟨bn, br'⟩ := turX_bd oneD_p bx
      rw [turR, if_pos c1]
      refine br_intro (fun h => by cases h) fun _ => ⟨⟨(bx.sm (N := 131072) (by omega)).eB (by omega), by omega, by omega⟩, (shift_bd oneD_p bx).sm (by omega), ⟨(bn.sm (N := 131080) (by omega)).eB (by omega), by omega, by omega⟩, ⟨bx.sm (by omega), (shift_bd' nearD_p bn).sm (by omega)⟩, rfl, br_intro (fun h2 => .inr ?_) fun h2 => ⟨⟨nearD_f, nearD_e⟩, rfl, .inr ?_⟩⟩
      · rw [if_neg (by rw [show (turX (oneD x)).fitsB = false from not_true h2]; simp)]; rfl
      · rw [if_pos ⟨c2, not_false' h2⟩]; rfl
    · rw [c3, turR, if_pos c1, if_neg (by rw [c2]; simp)]
      exact br_intro (fun _ => .inr rfl) fun h => by cases h
    · rw [c3, turR, if_neg (by rw [c1]; simp)]
      exact br_intro (fun _ => .inr rfl) fun h => by cases h⟩
theorem hSplit_vc (x : Dx) (Q : Tv → Prop) : execF ⟨tys2, sQh1⟩ (fun _ => none) 0 Tryz.f39 [.agg (dyL false x)] Q = (br (neI (canonD x).snd (0 : Int)) (Q (Tv.tup [Sv.agg [At.bool false, At.words true [], At.int .i64 0], Sv.agg [At.bool false, At.words true [], At.int .i64 0], Sv.one (At.int .i64 (canonD x).snd)])) (Dx.Sm (268435456 : Nat) (canonD x).fst ∧ (Dx.Sm (34359738368 : Nat) (canonD x).fst ∧ Dx.Sm (34359738368 : Nat) (nearD (canonD x).fst)) ∧ br (!Dx.fitsB (nearD (canonD x).fst)) (Q (Tv.tup [Sv.agg [At.bool false, At.words true [], At.int .i64 0], Sv.agg [At.bool false, At.words true [], At.int .i64 0], Sv.one (At.int .i64 3)])) (br (!Dx.fitsB (lessD (canonD x).fst (nearD (canonD x).fst))) (Q (Tv.tup [Sv.agg [At.bool false, At.words true [], At.int .i64 0], Sv.agg [At.bool false, At.words true [], At.int .i64 0], Sv.one (At.int .i64 3)])) (true = true ∧ Q (Tv.tup [Sv.agg (dyL true (nearD (canonD x).fst)), Sv.agg (dyL true (lessD (canonD x).fst (nearD (canonD x).fst))), Sv.one (At.int .i64 0)]))))) := by kernel_rfl
def hSplit : Spec := specK [.d] fun (x : Dx) => (none, splT (splR x))
theorem hSplit_ok : SpecOk Tryz.prog 39 hSplit :=
  specKW_ok (envOk tys2_ok sQh1_ok) mixed Tryz.func39 rfl (by decide) (by decide) fun (x : Dx) hxw _ => ⟨fun _ => none, 0, by
    have hx := Dx.Wf.m0 hxw
    show execF _ _ _ _ _ (fun t => t = splT (splR x) ∨ fgT t = splT (splR x))
    refine (hSplit_vc x _).mpr ?_
    rcases canon_cases x with ⟨c1, c2, c3⟩ | ⟨c1, c2, c3⟩ | ⟨c1, c3⟩
    · rw [c3]
      have bx := (fits_bd c1).one hx
      have bn := near_bd oneD_p bx
      rw [splR, if_pos c1, if_pos c2]
      refine br_intro (fun h => by cases h) fun _ => ⟨bx.sm (by omega), ⟨bx.sm (by omega), bn.sm (by omega)⟩, br_intro (fun h2 => .inr ?_) fun h2 => br_intro (fun h3 => .inr ?_) fun h3 => ⟨rfl, .inr ?_⟩⟩
      · rw [if_neg (by rw [show (spN (oneD x)).fitsB = false from not_true h2]; simp)]; rfl
      · rw [if_neg (by rw [show (lessD (oneD x) (spN (oneD x))).fitsB = false from not_true h3]; simp)]; rfl
      · rw [if_pos ⟨not_false' h2, not_false' h3⟩]; rfl
    · rw [c3, splR, if_pos c1, if_neg (by rw [c2]; simp)]
      exact br_intro (fun _ => .inr rfl) fun h => by cases h
    · rw [c3, splR, if_neg (by rw [c1]; simp)]
      exact br_intro (fun _ => .inr rfl) fun h => by cases h⟩
theorem hScale_vc (x : Dx) (Q : Tv → Prop) : execF ⟨tys2, sQh1⟩ (fun _ => none) 0 Tryz.f37 [.agg (dyL false x)] Q = (br (neI (canonD x).snd (0 : Int)) (Q (Tv.tup [Sv.one (At.int .i64 0), Sv.agg [At.bool false, At.words true [], At.int .i64 0], Sv.one (At.int .i64 (canonD x).snd)])) (br (leI (Dx.sgn (canonD x).fst) (0 : Int)) (Q (Tv.tup [Sv.one (At.int .i64 0), Sv.agg [At.bool false, At.words true [], At.int .i64 0], Sv.one (At.int .i64 5)])) (eB (2305843009213693952 : Int) (canonD x).fst ∧ inR ((0 : Int) - ((canonD x).fst.e + (↑(blen (Dx.m (canonD x).fst)) : Int) - (1 : Int))) ∧ (eB (2305843009213693952 : Int) (canonD x).fst ∧ (-2305843009213693952 : Int) ≤ (0 : Int) - ((canonD x).fst.e + (↑(blen (Dx.m (canonD x).fst)) : Int) - (1 : Int)) ∧ (0 : Int) - ((canonD x).fst.e + (↑(blen (Dx.m (canonD x).fst)) : Int) - (1 : Int)) ≤ (2305843009213693952 : Int)) ∧ Word (3 : Int) ∧ (Dx.Sm (34359738368 : Nat) (shiftD (canonD x).fst ((0 : Int) - ((canonD x).fst.e + (↑(blen (Dx.m (canonD x).fst)) : Int) - (1 : Int)))) ∧ Dx.Sm (34359738368 : Nat) (Dx.mk false (ws (3 : Int)) (-1 : Int))) ∧ true = true ∧ br (leI (0 : Int) (cmpD (shiftD (canonD x).fst ((0 : Int) - ((canonD x).fst.e + (↑(blen (Dx.m (canonD x).fst)) : Int) - (1 : Int)))) (Dx.mk false (ws (3 : Int)) (-1 : Int)))) (inR ((canonD x).fst.e + (↑(blen (Dx.m (canonD x).fst)) : Int) - (1 : Int) + (1 : Int)) ∧ (eB (2305843009213693952 : Int) (shiftD (canonD x).fst ((0 : Int) - ((canonD x).fst.e + (↑(blen (Dx.m (canonD x).fst)) : Int) - (1 : Int)))) ∧ (-2305843009213693952 : Int) ≤ (-1 : Int) ∧ (-1 : Int) ≤ (2305843009213693952 : Int)) ∧ br (!Dx.fitsB (shiftD (shiftD (canonD x).fst ((0 : Int) - ((canonD x).fst.e + (↑(blen (Dx.m (canonD x).fst)) : Int) - (1 : Int)))) (-1 : Int))) (Q (Tv.tup [Sv.one (At.int .i64 0), Sv.agg [At.bool false, At.words true [], At.int .i64 0], Sv.one (At.int .i64 3)])) (true = true ∧ Q (Tv.tup [Sv.one (At.int .i64 ((canonD x).fst.e + (↑(blen (Dx.m (canonD x).fst)) : Int) - (1 : Int) + (1 : Int))), Sv.agg (dyL true (shiftD (shiftD (canonD x).fst ((0 : Int) - ((canonD x).fst.e + (↑(blen (Dx.m (canonD x).fst)) : Int) - (1 : Int)))) (-1 : Int))), Sv.one (At.int .i64 0)]))) (br (!Dx.fitsB (shiftD (canonD x).fst ((0 : Int) - ((canonD x).fst.e + (↑(blen (Dx.m (canonD x).fst)) : Int) - (1 : Int))))) (Q (Tv.tup [Sv.one (At.int .i64 0), Sv.agg [At.bool false, At.words true [], At.int .i64 0], Sv.one (At.int .i64 3)])) (true = true ∧ Q (Tv.tup [Sv.one (At.int .i64 ((canonD x).fst.e + (↑(blen (Dx.m (canonD x).fst)) : Int) - (1 : Int))), Sv.agg (dyL true (shiftD (canonD x).fst ((0 : Int) - ((canonD x).fst.e + (↑(blen (Dx.m (canonD x).fst)) : Int) - (1 : Int))))), Sv.one (At.int .i64 0)])))))) := by kernel_rfl
def hScale : Spec := specK [.d] fun (x : Dx) => (none, turT (scaR x))
def d32 : Dx := ⟨false, ws 3, -1⟩
theorem d32_m : d32.m = 3 := val_ws (by decide)
theorem d32_rv : d32.rv = sc32.rv := by
  have h1 : d32.rv = 3 / 2 := by
    have : d32.sm = 3 := by unfold Dx.sm; rw [d32_m]; rfl
    unfold Dx.rv; rw [this]; decide +kernel
  have h2 : sc32.rv = 3 / 2 := by
    unfold sc32; rw [rv_shift mkS_p, rv_mkS]; decide +kernel
  rw [h1, h2]
theorem d32_bd : d32.Bd 2 2 := ⟨by omega, by omega, by show -2 ≤ -1; omega, by rw [d32_m, show blen 3 = 2 by decide]; show (-1 : Int) + 2 ≤ 2; omega⟩
theorem hScale_ok : SpecOk Tryz.prog 37 hScale :=
  specKW_ok (envOk tys2_ok sQh1_ok) mixed Tryz.func37 rfl (by decide) (by decide) fun (x : Dx) hxw _ => ⟨fun _ => none, 0, by
    have hx := Dx.Wf.m0 hxw
    show execF _ _ _ _ _ (fun t => t = turT (scaR x) ∨ fgT t = turT (scaR x))
    refine (hScale_vc x _).mpr ?_
    rcases canon_cases x with ⟨c1, c2, c3⟩ | ⟨c1, c2, c3⟩ | ⟨c1, c3⟩
    · rw [c3]
      have bx := (fits_bd c1).one hx
      obtain ⟨bm, bm'⟩ := scM_bd oneD_p bx
      have b1 := bx.lo
      have b2 := bx.hi
      have te : (oneD x).e + (blen (oneD x).m : Int) - 1 = topD (oneD x) := rfl
      have em : shiftD (oneD x) (0 - topD (oneD x)) = scM (oneD x) := by unfold scM; rw [Int.zero_sub]
      have e3 : (⟨false, ws 3, -1⟩ : Dx) = d32 := rfl
      rw [scaR, if_pos c1, if_pos c2]
      refine br_intro (fun h => by cases h) fun _ => br_intro (fun h2 => .inr ?_) fun h2 => ?_
      · rw [if_pos (leI_true.1 h2)]; rfl
      dsimp only
      rw [if_neg (leI_false.1 h2), te, em, e3, cmpD_congr (a := scM (oneD x)) rfl d32_rv]
      have sx := (bx.sm (N := 131072) (by omega)).eB (M := 2305843009213693952) (by omega)
      have sm := (bm.sm (N := 262160) (by omega))
      refine ⟨sx, ⟨by omega, by omega⟩, ⟨sx, by omega, by omega⟩, ⟨by omega, by omega⟩, ⟨sm.mono (by omega), d32_bd.sm (by omega)⟩, rfl, br_intro (fun h4 => ?_) fun h4 => ?_⟩
      · have c := leI_true.1 h4
        have k1 : scK (oneD x) = topD (oneD x) + 1 := if_pos c
        have k2 : scX (oneD x) = shiftD (scM (oneD x)) (-1) := if_pos c
        rw [k1, k2]
        refine ⟨⟨by omega, by omega⟩, ⟨sm.eB (by omega), by omega, by omega⟩, br_intro (fun h5 => .inr ?_) fun h5 => ⟨rfl, .inr ?_⟩⟩
        · rw [if_neg (by rw [not_true h5]; simp)]; rfl
        · rw [if_pos (not_false' h5)]; rfl
      · have c := leI_false.1 h4
        have k1 : scK (oneD x) = topD (oneD x) := if_neg c
        have k2 : scX (oneD x) = scM (oneD x) := if_neg c
        rw [k1, k2]
        refine br_intro (fun h5 => .inr ?_) fun h5 => ⟨rfl, .inr ?_⟩
        · rw [if_neg (by rw [not_true h5]; simp)]; rfl
        · rw [if_pos (not_false' h5)]; rfl
    · rw [c3, scaR, if_pos c1, if_neg (by rw [c2]; simp)]
      exact br_intro (fun _ => .inr rfl) fun h => by cases h
    · rw [c3, scaR, if_neg (by rw [c1]; simp)]
      exact br_intro (fun _ => .inr rfl) fun h => by cases h⟩
end Go.Proofs.YtdnbckfhfhfkoaaGreatDoor

namespace Go.Proofs.YtdnbckfhfhfkoaaGreatDoor
open Go.RowKit
theorem Dn.close {p : Int} {q r A : Rat} (h : Dn p q r) (hp : 1 ≤ p) (h1 : -A ≤ q) (h2 : q ≤ A) : q - eps p * A ≤ r ∧ r ≤ q := by
  have e0 := eps_pos p
  refine ⟨?_, h.2.1⟩
  rcases (show 0 < q ∨ q = 0 ∨ q < 0 by grind) with c | c | c
  · have r1 := (h.rel hp c).1
    have m := Rat.mul_le_mul_of_nonneg_left h2 (Rat.le_of_lt e0)
    grind
  · subst c
    have := h.2.2 0 (Rp.zero p) Rat.le_refl
    have m := Rat.mul_le_mul_of_nonneg_left h2 (Rat.le_of_lt e0)
    grind
  · have r1 := h.neg.rel hp (show 0 < -q by grind)
    have m := Rat.mul_le_mul_of_nonneg_left (show -q ≤ A by grind) (Rat.le_of_lt e0)
    grind
theorem Up.close {p : Int} {q r A : Rat} (h : Up p q r) (hp : 1 ≤ p) (h1 : -A ≤ q) (h2 : q ≤ A) : q ≤ r ∧ r ≤ q + eps p * A := by
  have := h.neg.close hp (A := A) (by grind) (by grind)
  constructor <;> grind
theorem mul_bd {x a b A : Rat} (hx1 : -A ≤ x) (hx2 : x ≤ A) {d : Rat} (h1 : a - b ≤ d) (h2 : b - a ≤ d) : x * a - x * b ≤ A * d ∧ x * b - x * a ≤ A * d := by
  have d0 : 0 ≤ d := by grind
  have A0 : 0 ≤ A := by grind
  rcases (show 0 ≤ x ∨ x ≤ 0 by grind) with s | s
  · have m1 := Rat.mul_le_mul_of_nonneg_left h1 s
    have m2 := Rat.mul_le_mul_of_nonneg_left h2 s
    have m3 := Rat.mul_le_mul_of_nonneg_right hx2 d0
    constructor <;> grind
  · have m1 := Rat.mul_le_mul_of_nonneg_left h1 (show 0 ≤ -x by grind)
    have m2 := Rat.mul_le_mul_of_nonneg_left h2 (show 0 ≤ -x by grind)
    have m3 := Rat.mul_le_mul_of_nonneg_right (show -x ≤ A by grind) d0
    constructor <;> grind
theorem inv_close {a b d : Rat} (ha : 3 / 2 ≤ a) (hb : 3 / 2 ≤ b) (h1 : a - b ≤ d) (h2 : b - a ≤ d) : a⁻¹ - b⁻¹ ≤ d ∧ b⁻¹ - a⁻¹ ≤ d := by
  obtain ⟨a0, a1⟩ := inv_le1 ha
  obtain ⟨b0, b1⟩ := inv_le1 hb
  have ea := Rat.inv_mul_cancel a (by grind)
  have eb := Rat.inv_mul_cancel b (by grind)
  have d0 : 0 ≤ d := by grind
  have p0 := Rat.mul_nonneg (Rat.le_of_lt a0) (Rat.le_of_lt b0)
  have p1 : a⁻¹ * b⁻¹ ≤ 1 := by
    have := Rat.mul_le_mul_of_nonneg_left (show b⁻¹ ≤ 1 by grind) (Rat.le_of_lt a0)
    grind
  have e1 : a⁻¹ - b⁻¹ = (a⁻¹ * b⁻¹) * (b - a) := by
    have x1 : (a⁻¹ * b⁻¹) * b = a⁻¹ := by rw [Rat.mul_assoc, eb, Rat.mul_one]
    have x2 : (a⁻¹ * b⁻¹) * a = b⁻¹ := by rw [Rat.mul_comm a⁻¹, Rat.mul_assoc, ea, Rat.mul_one]
    grind
  have m1 := Rat.mul_le_mul_of_nonneg_left h2 p0
  have m2 := Rat.mul_le_mul_of_nonneg_left h1 p0
  have m3 := Rat.mul_le_mul_of_nonneg_right p1 d0
  constructor <;> grind
section
variable {d : Rat} {h : Vx} (k : HfIv d h) {x : Dx} (hx : 0 ≤ x.m) {w : Int} (hw : 1 ≤ w)
include k hx hw
omit hx hw in
theorem HfIv.d0 : 0 ≤ d := by
  have := k.nar
  have := k.le
  grind
theorem quoW_close {A c : Rat} (hc : InV h c) (h1 : -A ≤ x.rv) (h2 : x.rv ≤ A) :
    x.rv * c⁻¹ - A * (d + eps w) ≤ (quoW h x w).lo.rv ∧ (quoW h x w).hi.rv ≤ x.rv * c⁻¹ + A * (d + eps w) := by
  have A0 : 0 ≤ A := by grind
  have cl := hc.1
  have ch := hc.2
  have l := k.lo
  have nr := k.nar
  obtain ⟨⟨a, b, hcor, e1⟩, ⟨a', b', hcor', e2⟩⟩ := div_at (pointV x) h w
  obtain ⟨p1, p2'⟩ := pointV_rv hx
  have le := k.le
  have ra : ∀ {a b : Dx}, Cor (pointV x) h a b → a.rv = x.rv ∧ (x.rv * b.rv⁻¹ - x.rv * c⁻¹ ≤ A * d ∧ x.rv * c⁻¹ - x.rv * b.rv⁻¹ ≤ A * d) ∧ -A ≤ x.rv * b.rv⁻¹ ∧ x.rv * b.rv⁻¹ ≤ A := fun {a b} hcor => by
    have hb : 3 / 2 ≤ b.rv ∧ b.rv - c ≤ d ∧ c - b.rv ≤ d := by
      rcases hcor.2 with e | e <;> rw [e] <;> exact ⟨by grind, by grind, by grind⟩
    obtain ⟨i1, i2⟩ := inv_close hb.1 (show 3 / 2 ≤ c by grind) hb.2.1 hb.2.2
    obtain ⟨i0, i3⟩ := inv_le1 hb.1
    refine ⟨by rcases hcor.1 with e | e <;> rw [e]; exact p1; exact p2', mul_bd h1 h2 i1 i2, ?_⟩
    rcases (show 0 ≤ x.rv ∨ x.rv ≤ 0 by grind) with s | s
    · have m1 := Rat.mul_le_mul_of_nonneg_left (show b.rv⁻¹ ≤ 1 by grind) s
      have m0 := Rat.mul_nonneg s (Rat.le_of_lt i0)
      constructor <;> grind
    · have m1 := Rat.mul_le_mul_of_nonneg_left (show b.rv⁻¹ ≤ 1 by grind) (show 0 ≤ -x.rv by grind)
      have m0 := Rat.mul_nonneg (show 0 ≤ -x.rv by grind) (Rat.le_of_lt i0)
      constructor <;> grind
  obtain ⟨r1, r2, r3, r4⟩ := ra hcor
  obtain ⟨s1, s2, s3, s4⟩ := ra hcor'
  have c1 := (hcor.best (pointV_p x) k.p k.off le hw).2.1
  have c2 := (hcor'.best (pointV_p x) k.p k.off le hw).2.2
  rw [r1] at c1
  rw [s1] at c2
  have b1 := c1.close hw r3 r4
  have b2 := c2.close hw s3 s4
  have eA : A * (d + eps w) = A * d + eps w * A := by grind
  rw [eA]
  show _ ≤ (divV (pointV x) h w).lo.rv ∧ (divV (pointV x) h w).hi.rv ≤ _
  rw [e1, e2]
  constructor <;> grind
theorem restW_close {A B c : Rat} (hc : InV h c) (h1 : -A ≤ x.rv) (h2 : x.rv ≤ A) (n1 : -B ≤ (nI h x w : Rat)) (n2 : (nI h x w : Rat) ≤ B) (_ : d ≤ 1) (he : eps w ≤ 1) :
    x.rv - (nI h x w : Rat) * c - (B * d + eps w * (A + 8 * B)) ≤ (restW h x w).lo.rv ∧ (restW h x w).hi.rv ≤ x.rv - (nI h x w : Rat) * c + (B * d + eps w * (A + 8 * B)) := by
  have cl := hc.1
  have ch := hc.2
  have l := k.lo
  have hi := k.hi
  have nr := k.nar
  have le := k.le
  have d0 := k.d0
  have e0 := eps_pos w
  have B0 : 0 ≤ B := by grind
  have A0 : 0 ≤ A := by grind
  have en : (nW h x w).rv = (nI h x w : Rat) := (wholeS_rv nearD_e).symm
  have np : 0 ≤ (nW h x w).m := nearD_p
  obtain ⟨q1, q2⟩ := pointV_rv np
  obtain ⟨p1, p2'⟩ := pointV_rv hx
  obtain ⟨⟨x0, y0, hx0, hy0, g1⟩, ⟨x1, y1, hx1, hy1, g2⟩⟩ := prod_at (pointV_p (nW h x w)) k.p
  have x0e : x0 = (nI h x w : Rat) := by rcases hx0 with e | e <;> rw [e, ← en]; exact q1; exact q2
  have x1e : x1 = (nI h x w : Rat) := by rcases hx1 with e | e <;> rw [e, ← en]; exact q1; exact q2
  have yb : ∀ y, (y = h.lo.rv ∨ y = h.hi.rv) → y - c ≤ d ∧ c - y ≤ d ∧ 0 ≤ y ∧ y ≤ 2 := fun y hy => by rcases hy with e | e <;> rw [e] <;> exact ⟨by grind, by grind, by grind, by grind⟩
  obtain ⟨a1, a2, a3, a4⟩ := yb y0 hy0
  obtain ⟨b1, b2, b3, b4⟩ := yb y1 hy1
  generalize (nI h x w : Rat) = n at *
  have m0 := mul_bd n1 n2 a1 a2
  have m1 := mul_bd n1 n2 b1 b2
  have by2 : ∀ y, 0 ≤ y → y ≤ 2 → -(2 * B) ≤ n * y ∧ n * y ≤ 2 * B := fun y h0 h2 => by
    have := mul_bd n1 n2 (a := y) (b := 0) (d := 2) (by grind) (by grind)
    constructor <;> grind
  have f0 := by2 y0 a3 a4
  have f1 := by2 y1 b3 b4
  rw [x0e] at g1
  rw [x1e] at g2
  obtain ⟨t1, t2⟩ := times_best (v := pointV (nW h x w)) (u := h) (p := w + 64) (by omega) (pointV_p _) k.p
  rw [g1] at t1
  rw [g2] at t2
  have u1 := t1.close (by omega) f0.1 f0.2
  have u2 := t2.close (by omega) f1.1 f1.2
  have ee : eps (w + 64) ≤ eps w := p2_le (by omega)
  have v1 := Rat.mul_le_mul_of_nonneg_right ee (show 0 ≤ 2 * B by grind)
  have v2 := Rat.mul_le_mul_of_nonneg_right he (show 0 ≤ 2 * B by grind)
  obtain ⟨l1, l2⟩ := less_best (v := pointV x) (u := timesV (pointV (nW h x w)) h (w + 64)) (pointV_p x) (trimV_p _ _) hw
  rw [p1] at l1
  rw [p2'] at l2
  have k1 := l1.close hw (A := A + 4 * B) (by grind) (by grind)
  have k2 := l2.close hw (A := A + 4 * B) (by grind) (by grind)
  have eE : B * d + eps w * (A + 8 * B) = B * d + eps w * (2 * B) + eps w * (A + 4 * B) + eps w * (2 * B) := by grind
  have z := Rat.mul_nonneg (Rat.le_of_lt e0) (show 0 ≤ 2 * B by grind)
  rw [eE]
  show _ ≤ (restW h x w).lo.rv ∧ (restW h x w).hi.rv ≤ _
  unfold restW
  constructor <;> grind
end
theorem p2_1 (a : Int) : p2 (a + 1) = 2 * p2 a := two_p2 a
theorem quart_ok {d : Rat} {h : Vx} (k : HfIv d h) {x : Dx} (hx : 0 ≤ x.m) {w : Int} (hw : 1 ≤ w) (hw2 : w ≤ 16384) {A B c : Rat} (hc : InV h c) (h1 : -A ≤ x.rv) (h2 : x.rv ≤ A) {m a p : Int} (m1 : -B ≤ (m : Rat)) (m2 : (m : Rat) ≤ B)
    (g1 : (m : Rat) - 1 / 2 + A * (d + eps w) < x.rv * c⁻¹) (g2 : x.rv * c⁻¹ < (m : Rat) + 1 / 2 - A * (d + eps w)) (hd : d ≤ 1) (he : eps w ≤ 1)
    (hr : p2 (a + 1) ≤ x.rv - (m : Rat) * c ∨ x.rv - (m : Rat) * c ≤ -(p2 (a + 1))) (p0 : 0 ≤ p) (hE : 2 * (B * d + eps w * (A + 8 * B)) ≤ p2 (a - p)) (ha0 : a ≤ 0) (ha1 : -16384 ≤ a) :
    sureW h x w = true ∧ nI h x w = m ∧ rightV (restW h x w) = true ∧ narrowB (restW h x w) p = true := by
  have A0 : 0 ≤ A := by grind
  have d0 := k.d0
  have ep := eps_pos w
  have η0 : 0 ≤ A * (d + eps w) := Rat.mul_nonneg A0 (by grind)
  obtain ⟨q1, q2⟩ := quoW_close k hx hw hc h1 h2
  obtain ⟨i1, i2⟩ := quoW_in k hx hw hc
  have n1 : NearI m (quoW h x w).lo.rv := ⟨by grind, by grind, fun e => by exfalso; rcases e with e | e <;> grind⟩
  have n2 : NearI m (quoW h x w).hi.rv := ⟨by grind, by grind, fun e => by exfalso; rcases e with e | e <;> grind⟩
  have e1 : nI h x w = m := (nW_near (h := h) (x := x) (w := w)).uniq n1
  have e2 : wholeS (nearD (quoW h x w).hi) = m := (nearD_whole (d := (quoW h x w).hi) (divV_p _ _ _).2).uniq n2
  have sure : sureW h x w = true := by
    unfold sureW
    refine eqI_true.2 (cmpD_eq0.2 ?_)
    have : (nW h x w).rv = (nearD (quoW h x w).hi).rv := nearD_eq.2 (show wholeS (nW h x w) = _ by rw [e2]; exact e1)
    exact this
  obtain ⟨r1, r2⟩ := restW_close k hx hw hc h1 h2 (B := B) (by rw [e1]; exact m1) (by rw [e1]; exact m2) hd he
  obtain ⟨r3, r4⟩ := rest_in k hx hw hc
  rw [e1] at r1 r2 r3 r4
  have c0 : 0 < c := by have := k.lo; have := hc.1; grind
  have c2 : c ≤ 2 := by have := k.hi; have := hc.2; grind
  have xc : x.rv = x.rv * c⁻¹ * c := by rw [Rat.mul_assoc, Rat.inv_mul_cancel c (by grind), Rat.mul_one]
  have up : x.rv - (m : Rat) * c ≤ 1 ∧ -1 ≤ x.rv - (m : Rat) * c := by
    have a1 := Rat.mul_le_mul_of_nonneg_right (show x.rv * c⁻¹ - (m : Rat) ≤ 1 / 2 by grind) (Rat.le_of_lt c0)
    have a2 := Rat.mul_le_mul_of_nonneg_right (show -(1 / 2) ≤ x.rv * c⁻¹ - (m : Rat) by grind) (Rat.le_of_lt c0)
    have e : (x.rv * c⁻¹ - (m : Rat)) * c = x.rv - (m : Rat) * c := by
      conv => rhs; rw [xc]
      grind
    rw [e] at a1 a2
    constructor <;> grind
  generalize hEE : B * d + eps w * (A + 8 * B) = E at *
  generalize x.rv - (m : Rat) * c = ρ at *
  have pa : p2 (a - p) ≤ p2 a := p2_le (by omega)
  have pa1 : p2 a ≤ 1 := by have := p2_le ha0; rwa [p2_zero] at this
  have pp := p2_pos (a - p)
  rw [p2_1] at hr
  have E1 : 2 * E ≤ p2 a := by grind
  have hP : (restW h x w).P := ⟨cutD_p, cutD_p⟩
  have F : OneF (restW h x w).lo ∧ OneF (restW h x w).hi := ⟨cutD_f plusD_p, cutD_f plusD_p⟩
  obtain ⟨l1, l2⟩ := less_best (v := pointV x) (u := timesV (pointV (nW h x w)) h (w + 64)) (pointV_p x) (trimV_p _ _) hw
  have R1 : Rp w (restW h x w).lo.rv := l1.1
  have R2 : Rp w (restW h x w).hi.rv := l2.1
  have p21 : p2 1 = 2 := p2_one
  have fits : ∀ {y : Dx}, OneF y → Rp w y.rv → (p2 a ≤ y.rv ∧ y.rv ≤ 2 ∨ y.rv ≤ -(p2 a) ∧ -2 ≤ y.rv) → y.fitsB = true := fun {y} f r b => by
    have am := rv_amt f.p
    have q := p2_pos a
    rcases b with b | b
    · have e := am.1 (by grind)
      exact fits_rp f (A := a) (B := 1) r (by omega) (fun _ => by rw [← e]; exact b.1) (by rw [← e, p21]; exact b.2) (by omega) (by omega)
    · have e := am.2 (by grind)
      exact fits_rp f (A := a) (B := 1) r (by omega) (fun _ => by rw [← e]; grind) (by rw [← e, p21]; grind) (by omega) (by omega)
  have le : (restW h x w).lo.rv ≤ (restW h x w).hi.rv := by grind
  have np : p2 (a - p) = p2 (-p) * p2 a := by rw [← p2_add]; congr 1; omega
  have qa := p2_pos a
  have qp := p2_pos (-p)
  rcases hr with hr | hr
  · have f1 := fits F.1 R1 (.inl ⟨by grind, by grind⟩)
    have f2 := fits F.2 R2 (.inl ⟨by grind, by grind⟩)
    have hR := right_of f1 f2 le
    refine ⟨sure, e1, hR, narrow_of hP hR p0 (δ := p2 (-p)) (L := p2 a) (H := 2) (.inl ⟨qa, by grind, by grind, by grind, le, ?_⟩) Rat.le_refl⟩
    have m := Rat.mul_le_mul_of_nonneg_left (show p2 a ≤ (restW h x w).lo.rv by grind) (Rat.le_of_lt qp)
    grind
  · have f1 := fits F.1 R1 (.inr ⟨by grind, by grind⟩)
    have f2 := fits F.2 R2 (.inr ⟨by grind, by grind⟩)
    have hR := right_of f1 f2 le
    refine ⟨sure, e1, hR, narrow_of hP hR p0 (δ := p2 (-p)) (L := p2 a) (H := 2) (.inr ⟨qa, by grind, by grind, by grind, by grind, ?_⟩) Rat.le_refl⟩
    have m := Rat.mul_le_mul_of_nonneg_left (show p2 a ≤ -(restW h x w).hi.rv by grind) (Rat.le_of_lt qp)
    grind
end Go.Proofs.YtdnbckfhfhfkoaaGreatDoor

namespace Go.Proofs.YtdnbckfhfhfkoaaGreatDoor
open Go.RowKit
def wsK : Nat → Int → List Int
  | 0, _ => []
  | k + 1, n => if 0 < n then (n % 18446744073709551616) :: wsK k (n / 18446744073709551616) else []
theorem wsK_eq : ∀ {k : Nat} {n : Int}, n < 2 ^ k → ws n = wsK k n
  | 0, n, h => by rw [ws_nonpos (by simp at h; omega)]; rfl
  | k + 1, n, h => by
    unfold wsK
    by_cases hp : 0 < n
    · have p := two_pow_pos k
      rw [Int.pow_succ] at h
      rw [ws_pos hp, if_pos hp, wsK_eq (k := k) (by omega)]
    · rw [ws_nonpos (by omega), if_neg hp]
theorem ws_K (n : Int) : ws n = wsK (blen n) n := wsK_eq (blen_lt n)
def fitsK (d : Dx) : Bool := decide ((wsK (blen d.m) d.m).length ≤ 1024) && decide (-32768 ≤ d.e) && decide (d.e ≤ 32768)
def rightK (v : Vx) : Bool := fitsK v.lo && (fitsK v.hi && decide (cmpD v.lo v.hi ≤ 0))
theorem great_K (m : Int) : (!greatB m) = decide ((wsK (blen m) m).length ≤ 1024) := by
  unfold greatB; rw [← ws_K]
  by_cases h : (ws m).length ≤ 1024
  · rw [decide_eq_true h, decide_eq_false (by omega)]; rfl
  · rw [decide_eq_false h, decide_eq_true (by omega)]; rfl
theorem fits_K (d : Dx) : d.fitsB = fitsK d := by unfold Dx.fitsB fitsK; rw [great_K]
theorem right_K (v : Vx) : rightV v = rightK v := by unfold rightV rightK; rw [fits_K, fits_K]
end Go.Proofs.YtdnbckfhfhfkoaaGreatDoor

namespace Go.Proofs.YtdnbckfhfhfkoaaGreatDoor
open Go.RowKit
/-! ### Small numbers. -/
theorem lit_f {k e : Int} (k0 : 0 < k) (k1 : k < 18446744073709551616) (h : k % 2 = 1) : OneF ⟨false, [k], e⟩ := by
  refine ⟨false, k, e, by omega, ?_⟩
  unfold mkD
  rw [if_neg (by omega), tz_odd2 h (by omega), show k / 2 ^ 0 = k by simp, ws_pos k0, show k / 18446744073709551616 = 0 by omega, ws_zero, Int.emod_eq_of_lt (by omega) k1]
  simp
theorem lit_rv {k e : Int} : (⟨false, [k], e⟩ : Dx).rv = (k : Rat) * p2 e := by
  have : (⟨false, [k], e⟩ : Dx).sm = k := by show val [k] = k; rw [val_cons]; simp [val]
  unfold Dx.rv; rw [this]
theorem mkS_lit {k : Int} (k0 : 0 < k) (k1 : k < 18446744073709551616) (h : k % 2 = 1) : mkS k 0 = ⟨false, [k], 0⟩ := mkS_f.ext (lit_f k0 k1 h) (by rw [rv_mkS, lit_rv])
theorem p2_v : p2 0 = 1 ∧ p2 1 = 2 ∧ p2 (-1) = 1 / 2 ∧ p2 (-2) = 1 / 4 := by decide +kernel
theorem near_of {d : Dx} (hd : 0 ≤ d.m) {n : Int} (h : NearI n d.rv) : wholeS (nearD d) = n ∧ (nearD d).rv = (n : Rat) := by
  have e : wholeS (nearD d) = n := (nearD_whole hd).uniq h
  exact ⟨e, by rw [← wholeS_rv nearD_e, e]⟩
theorem beg_turn : turR ⟨false, [5], -2⟩ = (2, ⟨false, [1], -2⟩, 0) := by
  have f5 : OneF ⟨false, [5], -2⟩ := lit_f (by decide) (by decide) (by decide)
  have o5 := oneD_id f5
  have r5 : (⟨false, [5], -2⟩ : Dx).rv = 5 / 4 := by rw [lit_rv, p2_v.2.2.2]; decide +kernel
  have rs : (shiftD ⟨false, [5], -2⟩ 1).rv = 5 / 2 := by rw [rv_shift f5.p, r5, p2_v.2.1]; decide +kernel
  obtain ⟨n1, n2⟩ := near_of (d := shiftD ⟨false, [5], -2⟩ 1) shiftD_p (n := 2) (by rw [rs]; exact ⟨by decide +kernel, by decide +kernel, fun _ => by decide⟩)
  have e1 : turX ⟨false, [5], -2⟩ = ⟨false, [1], -2⟩ := (lessD_f f5.p).ext (lit_f (by decide) (by decide) (by decide)) (by
    rw [rv_less f5.p shiftD_p, rv_shift (d := turN ⟨false, [5], -2⟩) nearD_p, r5]
    have : (turN ⟨false, [5], -2⟩).rv = 2 := n2
    rw [this, lit_rv, p2_v.2.2.1, p2_v.2.2.2]; decide +kernel)
  have e2 : by4I (turN ⟨false, [5], -2⟩) = 2 := by
    show wholeS (nearD (shiftD ⟨false, [5], -2⟩ 1)) % 4 = 2
    rw [n1]; decide
  have k1 : (⟨false, [5], -2⟩ : Dx).fitsB = true := by rw [fits_K]; decide +kernel
  have k2 : (⟨false, [1], -2⟩ : Dx).fitsB = true := by rw [fits_K]; decide +kernel
  rw [turR, o5, e1, e2, if_pos k1, if_pos ⟨k1, k2⟩]
theorem beg_scale : scaR (mkS 3 0) = (2, ⟨false, [3], -2⟩, 0) := by
  have f3 : OneF ⟨false, [3], 0⟩ := lit_f (by decide) (by decide) (by decide)
  have o3 := oneD_id f3
  have r3 : (⟨false, [3], 0⟩ : Dx).rv = 3 := by rw [lit_rv, p2_v.1]; decide +kernel
  have t3 : topD ⟨false, [3], 0⟩ = 1 := by decide +kernel
  have e1 : scM ⟨false, [3], 0⟩ = ⟨false, [3], -1⟩ := (shiftD_f f3.p).ext (lit_f (by decide) (by decide) (by decide)) (by
    rw [rv_shift f3.p, r3, lit_rv, t3]; decide +kernel)
  have c : 0 ≤ cmpD (scM ⟨false, [3], 0⟩) sc32 := by
    rw [cmpD_eq0.2 (by rw [e1, lit_rv, ← d32_rv]; unfold Dx.rv; rw [show d32.sm = 3 by unfold Dx.sm; rw [d32_m]; rfl]; rfl)]
    exact Int.le_refl _
  have e2 : scX ⟨false, [3], 0⟩ = ⟨false, [3], -2⟩ := by
    rw [scX, if_pos c]
    refine (shiftD_f shiftD_p).ext (lit_f (by decide) (by decide) (by decide)) ?_
    show (shiftD (scM ⟨false, [3], 0⟩) (-1)).rv = _
    rw [rv_shift (d := scM ⟨false, [3], 0⟩) shiftD_p, e1, lit_rv, lit_rv]; decide +kernel
  have e3 : scK ⟨false, [3], 0⟩ = 2 := by rw [scK, if_pos c, t3]; rfl
  have k1 : (⟨false, [3], 0⟩ : Dx).fitsB = true := by rw [fits_K]; decide +kernel
  have k2 : (⟨false, [3], -2⟩ : Dx).fitsB = true := by rw [fits_K]; decide +kernel
  rw [mkS_lit (by decide) (by decide) (by decide), scaR, o3, e2, e3, if_pos k1, if_pos k1, if_neg (by decide +kernel), if_pos k2]
theorem HfIv.mid {d : Rat} {h : Vx} (k : HfIv d h) : ∃ c, InV h c ∧ 31415 / 20000 ≤ c ∧ c ≤ 31417 / 20000 := by
  have m1 := k.enc.meets piS_enc
  have m2 := piS_enc.meets k.enc
  have le := k.le
  rcases (show (31415 : Rat) / 20000 ≤ h.lo.rv ∨ h.lo.rv ≤ 31415 / 20000 by grind) with c | c
  · exact ⟨h.lo.rv, ⟨Rat.le_refl, le⟩, c, by grind⟩
  · exact ⟨31415 / 20000, ⟨c, by grind⟩, Rat.le_refl, by decide +kernel⟩
theorem okW_of {x : Dx} {p w : Int} (h1 : sureW (halfP w) x w = true) (h2 : rightV (restW (halfP w) x w) = true) (h3 : narrowB (restW (halfP w) x w) p = true) :
    okW x p w = true ∧ tryP x p w = (by4I (nW (halfP w) x w), restW (halfP w) x w, true) := by
  have n : narrowV (restW (halfP w) x w) p = true := by
    rw [narrowB, Bool.and_eq_true, Bool.and_eq_true] at h3; exact h3.2.2
  have e : tryP x p w = (by4I (nW (halfP w) x w), restW (halfP w) x w, true) := by unfold tryP tryW; rw [if_pos h1, n]
  exact ⟨by unfold okW; rw [e, h2]; rfl, e⟩
theorem beg_quarter : (quarR (mkS 1 0) 8).1 = 1 ∧ (quarR (mkS 1 0) 8).2.2 = 0 ∧ (quarR (mkS 1 0) 8).2.1.hi.sgn < 0 ∧ cmpD (mkS (-1) 0) (quarR (mkS 1 0) 8).2.1.lo < 0 ∧ (quarR (mkS 1 0) 8).2.1.lo.Sm 34359738368 := by
  have f1 : OneF ⟨false, [1], 0⟩ := lit_f (by decide) (by decide) (by decide)
  have o1 := oneD_id f1
  have r1 : (⟨false, [1], 0⟩ : Dx).rv = 1 := by rw [lit_rv, p2_v.1]; decide +kernel
  have t1 : topD ⟨false, [1], 0⟩ = 0 := by decide +kernel
  have k1 : (⟨false, [1], 0⟩ : Dx).fitsB = true := by rw [fits_K]; decide +kernel
  have hf := halfP_hf (w := 72) (by decide) (by decide)
  obtain ⟨c, hc, c1, c2⟩ := hf.mid
  have ed : p2 (-3 - 72) / 2 + eps 72 ≤ 1 / 1000 := by decide +kernel
  have eE : 2 * (1 * (p2 (-3 - 72) / 2) + eps 72 * (1 + 8 * 1)) ≤ p2 (-2 - 8) := by decide +kernel
  have i0 : 0 < c := by grind
  have ic := Rat.inv_mul_cancel c (by grind)
  have ip := Rat.inv_pos.2 i0
  have j1 : (6 : Rat) / 10 ≤ c⁻¹ := by
    rw [← Rat.not_lt]; intro hlt
    have := Rat.mul_lt_mul_of_pos_right hlt i0
    grind
  have j2 : c⁻¹ ≤ 7 / 10 := by
    rw [← Rat.not_lt]; intro hlt
    have := Rat.mul_lt_mul_of_pos_right hlt i0
    grind
  have e1 : ((1 : Int) : Rat) = 1 := rfl
  obtain ⟨s1, s2, s3, s4⟩ := quart_ok hf (x := ⟨false, [1], 0⟩) f1.p (w := 72) (by decide) (by decide) (A := 1) (B := 1) hc (by rw [r1]; decide) (by rw [r1]; decide) (m := 1) (a := -2) (p := 8) (by decide) (by decide) (by rw [r1, e1]; grind) (by rw [r1, e1]; grind) (by decide +kernel) (by decide +kernel) (.inr (by
    rw [r1, e1, show (-2 : Int) + 1 = -1 by decide, p2_v.2.2.1]; grind)) (by decide) eE (by decide) (by decide)
  obtain ⟨ok, e⟩ := okW_of s1 s3 s4
  have en : by4I (nW (halfP 72) ⟨false, [1], 0⟩ 72) = 1 := by rw [by4_mod, s2]; rfl
  have q : quarR (mkS 1 0) 8 = (1, restW (halfP 72) ⟨false, [1], 0⟩ 72, 0) := by
    rw [mkS_lit (by decide) (by decide) (by decide), quarR, o1, if_pos ⟨k1, by decide, by decide⟩, if_neg (by decide +kernel), t1, if_neg (by decide)]
    show quarL _ 8 (8 + 1) (0 + 8 + 64) = _
    rw [quarL, show min (0 + 8 + 64 : Int) 8192 = 72 by decide, if_pos ok, e, en]
  obtain ⟨c1', c2'⟩ := restW_close hf (x := ⟨false, [1], 0⟩) f1.p (w := 72) (by decide) (A := 1) (B := 1) hc (by rw [r1]; decide) (by rw [r1]; decide) (by rw [s2]; decide) (by rw [s2]; decide) (by decide +kernel) (by decide +kernel)
  rw [s2, r1, e1] at c1' c2'
  have eb : 1 * (p2 (-3 - 72) / 2) + eps 72 * (1 + 8 * 1) ≤ 1 / 100 := by decide +kernel
  have hp : (restW (halfP 72) ⟨false, [1], 0⟩ 72).P := ⟨cutD_p, cutD_p⟩
  rw [q]
  refine ⟨rfl, rfl, ?_, ?_, (right_sm s3).1.mono (by decide)⟩
  · rcases sgn_rv hp.2 with ⟨a, b⟩ | ⟨a, b⟩ | ⟨a, b⟩
    · exfalso; grind
    · exfalso; grind
    · show Dx.sgn _ < 0
      rw [a]; decide
  · refine cmpD_lt0.2 ?_
    rw [rv_mkS, p2_v.1]
    have : ((-1 : Int) : Rat) = -1 := rfl
    rw [this]
    show _ < (restW (halfP 72) ⟨false, [1], 0⟩ 72).lo.rv
    grind
def sL14 (qf : Dx → Int → Int × Vx × Int) (tf sf : Dx → Int × Dx × Int) (pf : Dx → Dx × Dx × Int) : List (FuncId × Spec) := [(11, specK [.d, .i .i64] fun (x : Dx) (p : Int) => (none, quT (qf x p))), (21, specK [.d] fun (x : Dx) => (none, turT (tf x))), (36, specK [.d] fun (x : Dx) => (none, turT (sf x))), (38, specK [.d] fun (x : Dx) => (none, splT (pf x))),
  (35, specK [.d] fun (x : Dx) => (none, turT (tf x))), (37, specK [.d] fun (x : Dx) => (none, turT (sf x))), (39, specK [.d] fun (x : Dx) => (none, splT (pf x)))] ++ sQh1
theorem sL14_ok : SpecsOk Tryz.prog (sL14 quarR turR scaR splR) := ⟨qQu_ok, qTurns_ok, qScale_ok, qSplit_ok, hTurns_ok, hScale_ok, hSplit_ok, sQh1_ok⟩
theorem lBg_vc (qf : Dx → Int → Int × Vx × Int) (tf sf : Dx → Int × Dx × Int) (pf : Dx → Dx × Dx × Int) (Q : Tv → Prop) : execF ⟨tys6, sL14 qf tf sf pf⟩ (fun _ => none) 0 Tryz.f12 [] Q = (inR (1 : Int) ∧ Words [(5 : Int)] ∧ inR (3 : Int) ∧ br (eqI (qf (mkS (1 : Int) (0 : Int)) (8 : Int)).snd.snd (0 : Int)) (br (eqI (qf (mkS (1 : Int) (0 : Int)) (8 : Int)).fst (1 : Int)) (br (ltI (Dx.sgn (qf (mkS (1 : Int) (0 : Int)) (8 : Int)).snd.fst.hi) (0 : Int)) (inR (-1 : Int) ∧ (Dx.Sm (34359738368 : Nat) (mkS (-1 : Int) (0 : Int)) ∧ Dx.Sm (34359738368 : Nat) (qf (mkS (1 : Int) (0 : Int)) (8 : Int)).snd.fst.lo) ∧ br (ltI (cmpD (mkS (-1 : Int) (0 : Int)) (qf (mkS (1 : Int) (0 : Int)) (8 : Int)).snd.fst.lo) (0 : Int)) (br (eqI (tf (Dx.mk false [(5 : Int)] (-2 : Int))).snd.snd (0 : Int)) (br (eqI (tf (Dx.mk false [(5 : Int)] (-2 : Int))).fst (2 : Int)) (Words [(1 : Int)] ∧ br (sameD (tf (Dx.mk false [(5 : Int)] (-2 : Int))).snd.fst (Dx.mk false [(1 : Int)] (-2 : Int))) (br (eqI (sf (mkS (3 : Int) (0 : Int))).snd.snd (0 : Int)) (br (eqI (sf (mkS (3 : Int) (0 : Int))).fst (2 : Int)) (Words [(3 : Int)] ∧ true = true ∧ Q (bT (sameD (sf (mkS (3 : Int) (0 : Int))).snd.fst (Dx.mk false [(3 : Int)] (-2 : Int))))) (true = true ∧ Q (bT false))) (true = true ∧ Q (bT false))) (true = true ∧ Q (bT false))) (true = true ∧ Q (bT false))) (true = true ∧ Q (bT false))) (true = true ∧ Q (bT false))) (true = true ∧ Q (bT false))) (true = true ∧ Q (bT false))) (true = true ∧ Q (bT false))) := by kernel_rfl
def wBg : Spec := specK [] (none, bT true)
theorem lBg_ok : SpecOk Tryz.prog 12 wBg :=
  specK_ok (envOk tys6_ok sL14_ok) mixed Tryz.func12 rfl (by decide) (by decide) fun _ => ⟨fun _ => none, 0, by
    show execF _ _ _ _ _ (fun t => t = bT true)
    refine (lBg_vc quarR turR scaR splR _).mpr ?_
    obtain ⟨a1, a2, a3, a4, a5⟩ := beg_quarter
    rw [beg_turn, beg_scale, a1, a2, show ltI (quarR (mkS 1 0) 8).2.1.hi.sgn 0 = true from decide_eq_true a3, show ltI (cmpD (mkS (-1) 0) (quarR (mkS 1 0) 8).2.1.lo) 0 = true from decide_eq_true a4]
    have w : ∀ k : Int, 0 ≤ k → k < 10 → Words [k] := fun k k0 k1 x hx => by rcases List.mem_singleton.1 hx with rfl; exact ⟨by omega, by omega⟩
    have s1 : (mkS (-1) 0).Sm 34359738368 := (mkS_sm (N := 5) (M := 0) (blen_le (by decide)) (by omega) (by omega)).mono (by omega)
    refine ⟨⟨by omega, by omega⟩, w 5 (by omega) (by omega), ⟨by omega, by omega⟩, br_intro (fun _ => br_intro (fun _ => br_intro (fun _ => ⟨⟨by omega, by omega⟩, ⟨s1, a5⟩, br_intro (fun _ => br_intro (fun _ => br_intro (fun _ => ⟨w 1 (by omega) (by omega), br_intro (fun _ => br_intro (fun _ => br_intro (fun _ => ⟨w 3 (by omega) (by omega), rfl, by rw [sameD_refl2]⟩) fun h => by cases h) fun h => by cases h) fun h => by rw [sameD_refl2] at h; cases h⟩) fun h => by cases h) fun h => by cases h) fun h => by cases h⟩) fun h => by cases h) fun h => by cases h) fun h => by cases h⟩⟩
def sLw (qf : Dx → Int → Int × Vx × Int) (tf sf : Dx → Int × Dx × Int) (pf : Dx → Dx × Dx × Int) : List (FuncId × Spec) := (12, wBg) :: sL14 qf tf sf pf
theorem sLw_ok : SpecsOk Tryz.prog (sLw quarR turR scaR splR) := ⟨lBg_ok, sL14_ok⟩
theorem NearI.add {n : Int} {q : Rat} (h : NearI n q) (k : Int) : NearI (n + 2 * k) (q + ((2 * k : Int) : Rat)) := by
  obtain ⟨h1, h2, h3⟩ := h
  refine ⟨by rw [Rat.intCast_add]; grind, by rw [Rat.intCast_add]; grind, fun h => ?_⟩
  rw [Rat.intCast_add] at h
  have := h3 (by rcases h with h | h; exact .inl (by grind); exact .inr (by grind))
  omega
end Go.Proofs.YtdnbckfhfhfkoaaGreatDoor

namespace Go.Proofs.YtdnbckfhfhfkoaaGreatDoor
open Go.RowKit
/-! ### The laws' runs. -/
end Go.Proofs.YtdnbckfhfhfkoaaGreatDoor

namespace Go.Proofs.YtdnbckfhfhfkoaaGreatDoor
open Go.RowKit
structure Ans (s : Nat → Rat) (v : Vx) : Prop where
  p : v.P
  right : rightV v = true
  enc : Enc s v.lo.rv v.hi.rv
end Go.Proofs.YtdnbckfhfhfkoaaGreatDoor

namespace Go.Proofs.YtdnbckfhfhfkoaaGreatDoor
open Go.RowKit
end Go.Proofs.YtdnbckfhfhfkoaaGreatDoor

namespace Go.Proofs.YtdnbckfhfhfkoaaGreatDoor
open Go.RowKit
theorem Ans.sm {s : Nat → Rat} {v : Vx} (h : Ans s v) : v.Sm 65536 := right_sm h.right
/-! ### The circle. -/
/-! ### The mirror. -/
/-! ### Bounds. -/
end Go.Proofs.YtdnbckfhfhfkoaaGreatDoor

namespace Go.Proofs.YtdnbckfhfhfkoaaGreatDoor
open Go.RowKit
theorem quarL_spec {x : Dx} {p : Int} : ∀ (n : Nat) (w : Int), 8 ≤ w → quarL x p n w = (0, zeroIv, 6) ∨ ∃ w', 8 ≤ w' ∧ w' ≤ 8192 ∧ okW x p w' = true ∧ quarL x p n w = ((tryP x p w').1, (tryP x p w').2.1, 0)
  | 0, _, _ => .inl rfl
  | n + 1, w, hw => by
    rw [quarL]
    split
    · rename_i h
      exact .inr ⟨min w 8192, by omega, by omega, h, rfl⟩
    · split
      · exact .inl rfl
      · exact quarL_spec n (2 * min w 8192) (by omega)
theorem okW_parts {x : Dx} {p w : Int} (h : okW x p w = true) : sureW (halfP w) x w = true ∧ rightV (restW (halfP w) x w) = true ∧ narrowV (restW (halfP w) x w) p = true ∧ tryP x p w = (by4I (nW (halfP w) x w), restW (halfP w) x w, true) := by
  unfold okW at h
  rw [Bool.and_eq_true] at h
  unfold tryP tryW at h ⊢
  by_cases hs : sureW (halfP w) x w = true
  · rw [if_pos hs] at h ⊢
    exact ⟨hs, h.2, h.1, by rw [show narrowV (restW (halfP w) x w) p = true from h.1]⟩
  · rw [if_neg hs] at h
    cases h.1
def condQ (x : Dx) (p : Int) : Prop := x.fitsB = true ∧ 8 ≤ p ∧ p ≤ 3968
/-- What Quarter told, told. -/
structure QuE (y : Dx) (p : Int) (Q : Int × Vx × Int) (w : Int) : Prop where
  w0 : 8 ≤ w
  w1 : w ≤ 8192
  sure : sureW (halfP w) y w = true
  right : rightV (restW (halfP w) y w) = true
  nar : narrowV (restW (halfP w) y w) p = true
  eq : Q = (by4I (nW (halfP w) y w), restW (halfP w) y w, 0)
theorem quar_cases (x : Dx) (p : Int) : (¬ condQ x p ∧ quarR x p = (0, zeroIv, 2)) ∨ (condQ x p ∧ (oneD x).m = 0 ∧ quarR x p = (0, zeroIv, 0)) ∨ (condQ x p ∧ (oneD x).m ≠ 0 ∧ 1024 ≤ topD (oneD x) ∧ quarR x p = (0, zeroIv, 3)) ∨
    (condQ x p ∧ (oneD x).m ≠ 0 ∧ topD (oneD x) < 1024 ∧ quarR x p = (0, zeroIv, 6)) ∨ (condQ x p ∧ (oneD x).m ≠ 0 ∧ topD (oneD x) < 1024 ∧ ∃ w, QuE (oneD x) p (quarR x p) w) := by
  by_cases c : condQ x p
  · have e : quarR x p = (if (oneD x).m = 0 then (0, zeroIv, 0) else if 1024 ≤ topD (oneD x) then (0, zeroIv, 3) else quarL (oneD x) p 9 (max (topD (oneD x)) 0 + p + 64)) := if_pos c
    by_cases z : (oneD x).m = 0
    · exact .inr (.inl ⟨c, z, by rw [e, if_pos z]⟩)
    · by_cases t : 1024 ≤ topD (oneD x)
      · exact .inr (.inr (.inl ⟨c, z, t, by rw [e, if_neg z, if_pos t]⟩))
      · rw [if_neg z, if_neg t] at e
        have cp := c.2.1
        rcases quarL_spec (x := oneD x) (p := p) 9 (max (topD (oneD x)) 0 + p + 64) (by omega) with h | ⟨w, w0, w1, ok, h⟩
        · exact .inr (.inr (.inr (.inl ⟨c, z, by omega, by rw [e, h]⟩)))
        · obtain ⟨o1, o2, o3, o4⟩ := okW_parts ok
          rw [o4] at h
          exact .inr (.inr (.inr (.inr ⟨c, z, by omega, w, ⟨w0, w1, o1, o2, o3, by rw [e, h]⟩⟩)))
  · exact .inl ⟨c, if_neg c⟩
/-! ### The other sign. -/
theorem halfs_common {w w' : Int} (h0 : 8 ≤ w) (h1 : w ≤ 8192) (k0 : 8 ≤ w') (k1 : w' ≤ 8192) : ∃ c : Rat, InV (halfP w) c ∧ InV (halfP w') c ∧ 3 / 2 ≤ c ∧ c ≤ 2 :=
  (halfP_hf h0 (by omega)).common (halfP_hf k0 (by omega))
def farB (x : Dx) : Bool := !x.zeroB && (ltI (topD (oneD x)) (-16384) || ltI 16384 (topD (oneD x)))
def hFar : Spec := specK [.d] fun (d : Dx) => (some (d.Sm 131072), bT (farB d))
theorem hFar_vc (x : Dx) (Q : Tv → Prop) : execF ⟨tys2, sQh1⟩ (fun _ => none) 0 Tryz.f17 [.agg (dyL false x)] Q = (br (Dx.zeroB x) (Q (bT false)) (eB (4611686018427387904 : Int) x ∧ eB (2305843009213693952 : Int) (oneD x) ∧ br (ltI ((oneD x).e + (↑(blen (Dx.m (oneD x))) : Int) - (1 : Int)) (-16384 : Int)) (Q (bT true)) (Q (bT (ltI (16384 : Int) ((oneD x).e + (↑(blen (Dx.m (oneD x))) : Int) - (1 : Int))))))) := by kernel_rfl
theorem hFar_ok : SpecOk Tryz.prog 17 hFar :=
  specK_ok (envOk tys2_ok sQh1_ok) mixed Tryz.func17 rfl (by decide) (by decide) fun (x : Dx) hxw hp => ⟨fun _ => none, 0, by
    have s : x.Sm 131072 := hp
    have hx := Dx.Wf.m0 hxw
    show execF _ _ _ _ _ (fun t => t = bT (farB x))
    refine (hFar_vc x _).mpr (br_intro (fun h => ?_) fun h => ⟨s.eB (by omega), (one_sm hx s).eB (by omega), br_intro (fun h1 => ?_) fun h1 => ?_⟩)
    · rw [farB, h]; rfl
    · have h1 : ltI (topD (oneD x)) (-16384) = true := h1
      rw [farB, h, h1]; rfl
    · have h1 : ltI (topD (oneD x)) (-16384) = false := h1
      show bT (ltI 16384 (topD (oneD x))) = _
      rw [farB, h, h1]; rfl⟩
end Go.Proofs.YtdnbckfhfhfkoaaGreatDoor

namespace Go.Proofs.YtdnbckfhfhfkoaaGreatDoor
open Go.RowKit
end Go.Proofs.YtdnbckfhfhfkoaaGreatDoor

namespace Go.Proofs.YtdnbckfhfhfkoaaGreatDoor
open Go.RowKit
def amtB (x : Dx) (m e : Int) : Bool := leI (cmpD ⟨false, (oneD x).xs, (oneD x).e⟩ (shiftD (mkS m 0) e)) 0
def lAm : Spec := specK [.d, .i .i64, .i .i64] fun (x : Dx) (m : Int) (e : Int) => (some (x.Sm 131072 ∧ m = 1 ∧ -64 ≤ e ∧ e ≤ 64), bT (amtB x m e))
theorem lAm_vc (x : Dx) (m e : Int) (Q : Tv → Prop) : execF ⟨tys6, sQh1⟩ (fun _ => none) 0 Tryz.f34 [.agg (dyL false x), .one (.int .i64 m), .one (.int .i64 e)] Q = (eB (4611686018427387904 : Int) x ∧ inR m ∧ (eB (2305843009213693952 : Int) (mkS m (0 : Int)) ∧ (-2305843009213693952 : Int) ≤ e ∧ e ≤ (2305843009213693952 : Int)) ∧ (Dx.Sm (34359738368 : Nat) (Dx.mk false (oneD x).xs (oneD x).e) ∧ Dx.Sm (34359738368 : Nat) (shiftD (mkS m (0 : Int)) e)) ∧ true = true ∧ Q (bT (leI (cmpD (Dx.mk false (oneD x).xs (oneD x).e) (shiftD (mkS m (0 : Int)) e)) (0 : Int)))) := by kernel_rfl
theorem lAm_ok : SpecOk Tryz.prog 34 lAm :=
  specK_ok (envOk tys6_ok sQh1_ok) mixed Tryz.func34 rfl (by decide) (by decide) fun (x : Dx) hxw (m : Int) _ (e : Int) _ hp => ⟨fun _ => none, 0, by
    obtain ⟨s, rfl, e0, e1⟩ : x.Sm 131072 ∧ m = 1 ∧ -64 ≤ e ∧ e ≤ 64 := hp
    have hx := Dx.Wf.m0 hxw
    have so := one_sm hx s
    have s5 := mkS_sm5
    show execF _ _ _ _ _ (fun t => t = bT (amtB x 1 e))
    exact (lAm_vc x 1 e _).mpr ⟨s.eB (by omega), ⟨by omega, by omega⟩, ⟨s5.eB (by omega), by omega, by omega⟩, ⟨Dx.Sm.mono (show Dx.Sm (131072 + 131072) ⟨false, (oneD x).xs, (oneD x).e⟩ from so) (by omega), (shiftD_sm (M := 64) mkS_p s5 (by omega) (by omega)).mono (by omega)⟩, rfl, rfl⟩⟩
def sNr14 (am : Dx → Int → Int → Bool) (co : Int → Vx × Int) (qf : Dx → Int → Int × Vx × Int) (tf sf : Dx → Int × Dx × Int) (pf : Dx → Dx × Dx × Int) : List (FuncId × Spec) := [(34, specK [.d, .i .i64, .i .i64] fun (x : Dx) (m : Int) (e : Int) => (some (x.Sm 131072 ∧ m = 1 ∧ -64 ≤ e ∧ e ≤ 64), bT (am x m e))), (27, specK [.i .u8, .i .i64] fun (k : Int) (p : Int) => (some (k = 1), reT (co p)))] ++ sLw qf tf sf pf
theorem sNr14_ok : SpecsOk Tryz.prog (sNr14 amtB constR quarR turR scaR splR) := ⟨lAm_ok, cConst_ok, sLw_ok⟩
theorem amtB_of {z : Dx} {e : Int} (hz : 0 ≤ z.m) (h1 : z.rv ≤ p2 e) (h2 : -(p2 e) ≤ z.rv) : amtB z 1 e = true := by
  refine leI_true.2 (cmpD_le.2 ?_)
  have p := oneD_p (d := z)
  have e1 : (⟨false, (oneD z).xs, (oneD z).e⟩ : Dx).rv = ((oneD z).m : Rat) * p2 (oneD z).e := rfl
  rw [e1, rv_shift mkS_p, rv_mkS, p2_v.1]
  have e2 : ((1 : Int) : Rat) = 1 := rfl
  rw [e2]
  obtain ⟨a1, a2⟩ := rv_amt p
  rw [rv_one hz] at a1 a2
  rcases (show 0 ≤ z.rv ∨ z.rv ≤ 0 by grind) with s | s
  · rw [← a1 s]; grind
  · rw [← a2 s]; grind
end Go.Proofs.YtdnbckfhfhfkoaaGreatDoor

namespace Go.Proofs.YtdnbckfhfhfkoaaGreatDoor
open Go.RowKit
/-! ### Pi to a hundred bits. -/
def piN : Nat := 3982441812995697363688351113952
theorem at5_enc2 : Enc (sgnS true (atT 5)) (parG 0 (atT 5) 24 - (parG 1 (atT 5) 24 + 12 / 11 * atT 5 24)) (parG 0 (atT 5) 24 + 12 / 11 * atT 5 24 - parG 1 (atT 5) 24) :=
  altG_enc (r := atT 5) (atT_nonneg (by omega)) (atT_fall (by omega)) (K := 24) (q := 12 / 11 * atT 5 24) Rat.le_refl Rat.le_refl Rat.le_refl Rat.le_refl (by grind)
theorem at239_enc2 : Enc (sgnS true (atT 239)) (parG 0 (atT 239) 8 - (parG 1 (atT 239) 8 + 12 / 11 * atT 239 8)) (parG 0 (atT 239) 8 + 12 / 11 * atT 239 8 - parG 1 (atT 239) 8) :=
  altG_enc (r := atT 239) (atT_nonneg (by omega)) (atT_fall (by omega)) (K := 8) (q := 12 / 11 * atT 239 8) Rat.le_refl Rat.le_refl Rat.le_refl Rat.le_refl (by grind)
theorem piS_enc2 : Enc piS (((piN : Int) - 1 : Int) * p2 (-100)) (((piN : Int) + 2 : Int) * p2 (-100)) :=
  ((at5_enc2.scale (c := 16) (by decide)).add ((at239_enc2.scale (c := 4) (by decide)).neg)).wide (by decide +kernel) (by decide +kernel)
theorem ang_all : (List.range 1000).all (fun m => decide (4000 ≤ (m + 1) * piN % 4398046511104 ∧ (m + 1) * piN % 4398046511104 ≤ 4398046507104)) = true := by decide +kernel
theorem ang_tab {m : Nat} (m0 : 1 ≤ m) (m1 : m ≤ 1000) : 4000 ≤ m * piN % 4398046511104 ∧ m * piN % 4398046511104 ≤ 4398046507104 := by
  have := List.all_eq_true.1 ang_all (m - 1) (List.mem_range.2 (by omega))
  rw [show m - 1 + 1 = m by omega] at this
  exact of_decide_eq_true this
theorem half_100 {w : Int} (w0 : 128 ≤ w) (w1 : w ≤ 16384) {c : Rat} (hc : InV (halfP w) c) : (((piN : Int) - 2 : Int) : Rat) * p2 (-100) ≤ 2 * c ∧ 2 * c ≤ (((piN : Int) + 3 : Int) : Rat) * p2 (-100) := by
  have k := halfP_hf (w := w) (by omega) (by omega)
  have m1 := k.enc.meets piS_enc2
  have m2 := piS_enc2.meets k.enc
  have nr := k.nar
  have d1 : p2 (-3 - w) ≤ p2 (-100) := p2_le (by omega)
  have q := p2_pos (-100)
  obtain ⟨c1, c2⟩ := hc
  have e1 : (((piN : Int) - 2 : Int) : Rat) = (((piN : Int) - 1 : Int) : Rat) - 1 := by rw [← show ((1 : Int) : Rat) = 1 from rfl, ← Rat.intCast_sub]; congr 1
  have e2 : (((piN : Int) + 3 : Int) : Rat) = (((piN : Int) + 2 : Int) : Rat) + 1 := by rw [← show ((1 : Int) : Rat) = 1 from rfl, ← Rat.intCast_add]; congr 1
  rw [e1, e2]
  generalize (((piN : Int) - 1 : Int) : Rat) = a at *
  generalize (((piN : Int) + 2 : Int) : Rat) = b at *
  generalize p2 (-100) = P at *
  constructor <;> grind
/-- A number of sixty bits below so many right angles keeps away from them. -/
theorem ang_gap {m : Nat} (m0 : 1 ≤ m) (m1 : m ≤ 1000) {c x : Rat} (h1 : (((piN : Int) - 2 : Int) : Rat) * p2 (-100) ≤ 2 * c) (h2 : 2 * c ≤ (((piN : Int) + 3 : Int) : Rat) * p2 (-100)) (hx : Mul2 (-59) x) (hle : x ≤ ((m : Int) : Rat) * c) : x - ((m : Int) : Rat) * c ≤ -(p2 (-92)) := by
  obtain ⟨X, rfl⟩ := hx
  obtain ⟨t1, t2⟩ := ang_tab m0 m1
  have hd := Nat.div_add_mod (m * piN) 4398046511104
  generalize hq : m * piN / 4398046511104 = q at *
  generalize hf : m * piN % 4398046511104 = f at *
  have q0 := p2_pos (-101)
  have mp : (0 : Rat) ≤ ((m : Int) : Rat) := cast_le.2 (show (0 : Int) ≤ (m : Int) by omega)
  -- 2^101 m c lies between whole numbers times 2^42
  have e100 : p2 (-100) = 2 * p2 (-101) := by rw [show (-100 : Int) = 1 + -101 by decide, p2_add, p2_one]
  have e59 : p2 (-59) = ((4398046511104 : Int) : Rat) * p2 (-101) := by
    have : ((4398046511104 : Int) : Rat) = p2 42 := by decide +kernel
    rw [this, ← p2_add]; rfl
  have e92 : p2 (-92) = ((512 : Int) : Rat) * p2 (-101) := by
    have : ((512 : Int) : Rat) = p2 9 := by decide +kernel
    rw [this, ← p2_add]; rfl
  have l1 := Rat.mul_le_mul_of_nonneg_left h1 mp
  have l2 := Rat.mul_le_mul_of_nonneg_left h2 mp
  rw [e100] at l1 l2
  have n1 : ((4398046511104 * (q : Int) + f - 2 * m : Int) : Rat) * p2 (-101) ≤ ((m : Int) : Rat) * c := by
    have : (4398046511104 * (q : Int) + f - 2 * m : Int) = (m : Int) * ((piN : Int) - 2) := by
      rw [Int.mul_sub]
      have : ((m * piN : Nat) : Int) = ((4398046511104 * q + f : Nat) : Int) := by rw [hd]
      rw [Int.natCast_mul] at this
      omega
    rw [this, Rat.intCast_mul]; grind
  have n2 : ((m : Int) : Rat) * c ≤ ((4398046511104 * (q : Int) + f + 3 * m : Int) : Rat) * p2 (-101) := by
    have : (4398046511104 * (q : Int) + f + 3 * m : Int) = (m : Int) * ((piN : Int) + 3) := by
      rw [Int.mul_add]
      have : ((m * piN : Nat) : Int) = ((4398046511104 * q + f : Nat) : Int) := by rw [hd]
      rw [Int.natCast_mul] at this
      omega
    rw [this, Rat.intCast_mul]; grind
  rw [e59, ← Rat.mul_assoc, ← Rat.intCast_mul] at hle ⊢
  have hX : X ≤ q := by
    have a : ((X * 4398046511104 : Int) : Rat) * p2 (-101) ≤ ((4398046511104 * (q : Int) + f + 3 * m : Int) : Rat) * p2 (-101) := by grind
    have := cast_le.1 ((mul_p2_le (-101)).1 a)
    omega
  have g : ((X * 4398046511104 + 512 : Int) : Rat) * p2 (-101) ≤ ((4398046511104 * (q : Int) + f - 2 * m : Int) : Rat) * p2 (-101) := (mul_p2_le (-101)).2 (cast_le.2 (by omega))
  rw [Rat.intCast_add, Rat.add_mul] at g
  rw [e92]
  grind
theorem quarL_dec {x : Dx} {p : Int} (ok : okW x p 8192 = true) : ∀ (n : Nat) (w : Int), 8 ≤ w → 8192 ≤ w * 2 ^ n → ∃ w', 8 ≤ w' ∧ w' ≤ 8192 ∧ okW x p w' = true ∧ quarL x p (n + 1) w = ((tryP x p w').1, (tryP x p w').2.1, 0)
  | n, w, hw, hn => by
    rw [quarL]
    split
    · rename_i h
      exact ⟨min w 8192, by omega, by omega, h, rfl⟩
    · rename_i h
      split
      · rename_i h8
        rw [h8] at h; exact absurd ok h
      · rename_i h8
        have hm : min w 8192 = w := by omega
        cases n with
        | zero => rw [Int.pow_zero] at hn; omega
        | succ n =>
          rw [hm]
          refine quarL_dec ok n (2 * w) (by omega) ?_
          rw [Int.pow_succ, Int.mul_comm (2 ^ n) 2, ← Int.mul_assoc, Int.mul_comm w 2] at hn; exact hn
theorem quar_dec {x : Dx} {p : Int} (c : condQ x p) (z : (oneD x).m ≠ 0) (t : topD (oneD x) < 1024) (ok : okW (oneD x) p 8192 = true) : ∃ w, QuE (oneD x) p (quarR x p) w := by
  have e : quarR x p = quarL (oneD x) p 9 (max (topD (oneD x)) 0 + p + 64) := by
    have : quarR x p = (if (oneD x).m = 0 then (0, zeroIv, 0) else if 1024 ≤ topD (oneD x) then (0, zeroIv, 3) else quarL (oneD x) p 9 (max (topD (oneD x)) 0 + p + 64)) := if_pos c
    rw [this, if_neg z, if_neg (by omega)]
  have cp := c.2.1
  obtain ⟨w, w0, w1, ok', h⟩ := quarL_dec ok 8 (max (topD (oneD x)) 0 + p + 64) (by omega) (by omega)
  obtain ⟨o1, o2, o3, o4⟩ := okW_parts ok'
  rw [o4] at h
  exact ⟨w, ⟨w0, w1, o1, o2, o3, by rw [e]; exact h⟩⟩
theorem narrow_sgn {v : Vx} {p : Int} (h : narrowV v p = true) : v.lo.sgn = v.hi.sgn := by
  unfold narrowV at h
  split at h
  · cases h
  · rename_i k; exact Classical.byContradiction k
theorem narrow_neg {v : Vx} {p : Int} (hv : v.P) (hr : rightV v = true) (p0 : 0 ≤ p) (h : narrowV v p = true) (hn : v.hi.rv < 0) : v.hi.rv - v.lo.rv ≤ -v.hi.rv := by
  have fv := right_fits hr
  have s := narrow_sgn h
  have s2 : v.hi.sgn = -1 := by rcases sgn_rv hv.2 with ⟨a, b⟩ | ⟨a, b⟩ | ⟨a, b⟩ <;> first | exact a | (exfalso; grind)
  unfold narrowV at h
  rw [if_neg (by omega), if_neg (by omega)] at h
  have wr : (lessD v.hi v.lo).rv = v.hi.rv - v.lo.rv := rv_less hv.2 hv.1
  cases h3 : (lessD v.hi v.lo).zeroB with
  | true =>
    have := (zeroB_rv lessD_p).1 h3
    grind
  | false =>
    rw [h3, if_neg (by simp)] at h
    have hw := wide_ge hv hr h3
    have hl : (if v.lo.sgn < 0 then absD v.hi else absD v.lo).rv < p2 98304 := by
      split
      · rw [rv_abs hv.2]; exact fits_lt fv.2.1
      · rw [rv_abs hv.1]; exact fits_lt fv.1
    rw [narrowX_eq lessD_p (by split <;> exact absD_p) hw hl, decide_eq_true_eq, if_pos (by omega), rv_abs hv.2, ← (rv_amt hv.2).2 (by grind)] at h
    have q := p2_le p0
    rw [p2_zero] at q
    have m := Rat.mul_le_mul_of_nonneg_left q (show 0 ≤ (lessD v.hi v.lo).rv by have := p2_pos (-32768); grind)
    grind
theorem halfP_ends (w : Int) : (halfP w).lo = shiftD (constPi w).lo (-1) ∧ (halfP w).hi = shiftD (constPi w).hi (-1) := ⟨rfl, rfl⟩
theorem scale_ends (v : Vx) (n : Int) : (scaleV v n).lo = shiftD v.lo n ∧ (scaleV v n).hi = shiftD v.hi n := ⟨rfl, rfl⟩
def angV (m : Int) : Vx := scaleV (timesV (pointV (mkS m 0)) (constPi 256) 256) (-1)
def angX (m : Int) : Dx := cutD (angV m).lo 60 false
theorem angX_f (m : Int) : OneF (angX m) := cutD_f shiftD_p
theorem angX_rp (m : Int) : Rp 60 (angX m).rv := (cutD_best (d := (angV m).lo) (p := 60) shiftD_p (by decide)).1.1
theorem angX_bd {m : Int} (m0 : 1 ≤ m) (m1 : m ≤ 1000) {c : Rat} (hc : InV (halfP 256) c) : (angX m).rv ≤ (m : Rat) * c ∧ (m : Rat) * c - p2 (-46) ≤ (angX m).rv := by
  have cp := constPi_iv (p := 256) (by decide) (by decide)
  have h1 : (halfP 256).lo.rv = (constPi 256).lo.rv * (1 / 2) := by rw [(halfP_ends 256).1, rv_shift cp.p.1, p2_v.2.2.1]
  have h2 : (halfP 256).hi.rv = (constPi 256).hi.rv * (1 / 2) := by rw [(halfP_ends 256).2, rv_shift cp.p.2, p2_v.2.2.1]
  obtain ⟨c1, c2⟩ := hc
  rw [h1] at c1
  rw [h2] at c2
  have mp : (0 : Rat) ≤ (m : Rat) := cast_le.2 (show (0 : Int) ≤ m by omega)
  have mm : (m : Rat) ≤ 1000 := cast_le.2 m1
  have ms : (mkS m 0).rv = (m : Rat) := by rw [rv_mkS, p2_v.1, Rat.mul_one]
  obtain ⟨u1, u2⟩ := pointV_rv (x := mkS m 0) mkS_p
  rw [ms] at u1 u2
  have l3 := cp.lo
  have l4 := cp.hi
  have nr := cp.nar
  have le := cp.le
  obtain ⟨pl, _⟩ := prod_in (pointV_p (mkS m 0)) cp.p (x := (m : Rat)) (y := 2 * c) ⟨by rw [u1]; exact Rat.le_refl, by rw [u2]; exact Rat.le_refl⟩ ⟨by grind, by grind⟩
  obtain ⟨⟨x0, y0, hx0, hy0, g1⟩, _⟩ := prod_at (pointV_p (mkS m 0)) cp.p
  have x0e : x0 = (m : Rat) := by rcases hx0 with e | e <;> rw [e]; exact u1; exact u2
  have y0b : (constPi 256).lo.rv ≤ y0 ∧ y0 ≤ 4 := by rcases hy0 with e | e <;> rw [e] <;> exact ⟨by grind, by grind⟩
  obtain ⟨t1, _⟩ := times_best (v := pointV (mkS m 0)) (u := constPi 256) (p := 256) (by decide) (pointV_p _) cp.p
  have e1 : (angV m).lo.rv = (timesV (pointV (mkS m 0)) (constPi 256) 256).lo.rv * (1 / 2) := by rw [angV, (scale_ends _ _).1, rv_shift (d := (timesV (pointV (mkS m 0)) (constPi 256) 256).lo) (trimV_p _ _).1, p2_v.2.2.1]
  have b := (cutD_best (d := (angV m).lo) (p := 60) shiftD_p (by decide)).1
  have k1 : 2 * c - p2 (-3 - 256) ≤ y0 := by grind
  have k2 := Rat.mul_le_mul_of_nonneg_left k1 mp
  have k3 := Rat.mul_le_mul_of_nonneg_left y0b.2 mp
  have k4 := Rat.mul_le_mul_of_nonneg_right mm (Rat.le_of_lt (p2_pos (-3 - 256)))
  have k5 := Rat.mul_le_mul_of_nonneg_left (show 0 ≤ y0 by grind) mp
  have g : (prodV (pointV (mkS m 0)) (constPi 256)).lo.rv = (m : Rat) * y0 := by rw [g1, x0e]
  have c3 := t1.close (by decide) (A := 4000) (by rw [g]; grind) (by rw [g]; grind)
  have c4 := b.close (by decide) (A := 2000) (by rw [e1]; have := c3.1; have e : eps 256 ≤ 1 := by decide +kernel
                                                 rw [g] at this; grind) (by rw [e1]; have := c3.2; rw [g] at this; grind)
  have num : (1000 * p2 (-3 - 256)) * (1 / 2) + eps 256 * 4000 * (1 / 2) + eps 60 * 2000 ≤ p2 (-46) := by decide +kernel
  rw [e1] at c4
  rw [g] at c3 pl
  have e : (angX m).rv = (cutD (angV m).lo 60 false).rv := rfl
  rw [e]
  generalize p2 (-3 - 256) = D at *
  generalize p2 (-46) = D2 at *
  generalize eps 256 = E1 at *
  generalize eps 60 = E2 at *
  constructor <;> grind
theorem ang_quar {m : Int} (m0 : 1 ≤ m) (m1 : m ≤ 1000) {p : Int} (p0 : 8 ≤ p) (p1 : p ≤ 3968) : (angX m).fitsB = true ∧ (quarR (angX m) p).2.2 = 0 ∧ (quarR (angX m) p).1 = m % 4 ∧ (quarR (angX m) p).2.1.hi.rv < 0 ∧ -(p2 (-40)) ≤ (quarR (angX m) p).2.1.lo.rv ∧ (quarR (angX m) p).2.1.P ∧ rightV (quarR (angX m) p).2.1 = true ∧ (quarR (angX m) p).2.1.lo.rv < 0 := by
  have fX := angX_f m
  have oX := oneD_id fX
  obtain ⟨M, rfl⟩ : ∃ M : Nat, m = (M : Int) := ⟨m.toNat, by omega⟩
  have mp : (1 : Rat) ≤ ((M : Int) : Rat) := cast_le (a := 1).2 m0
  have mm : ((M : Int) : Rat) ≤ 1000 := cast_le.2 m1
  obtain ⟨W, hW⟩ : ∃ W : Int, W = 8192 := ⟨_, rfl⟩
  obtain ⟨V, hV⟩ : ∃ V : Int, V = 256 := ⟨_, rfl⟩
  have aBd : ∀ {c : Rat}, InV (halfP V) c → (angX M).rv ≤ ((M : Int) : Rat) * c ∧ ((M : Int) : Rat) * c - p2 (-46) ≤ (angX M).rv := fun {c} hc => angX_bd m0 m1 (hV ▸ hc)
  have aRp := angX_rp M
  generalize angX M = X at *
  obtain ⟨c, hc, hc', c1, c2⟩ := halfs_common (w := W) (w' := V) (by omega) (by omega) (by omega) (by omega)
  obtain ⟨x1, x2⟩ := aBd hc'
  have q46 : p2 (-46) ≤ 1 / 1000 := by decide +kernel
  have mc1 := Rat.mul_le_mul_of_nonneg_left c1 (show 0 ≤ ((M : Int) : Rat) by grind)
  have mc2 := Rat.mul_le_mul_of_nonneg_left c2 (show 0 ≤ ((M : Int) : Rat) by grind)
  have xg1 : 1 ≤ (X).rv := by grind
  have xl : (X).rv ≤ 2000 := by grind
  have am := (rv_amt fX.p).1 (by grind)
  have p11 : p2 11 = 2048 := by decide +kernel
  have hfit : (X).fitsB = true := fits_rp fX (A := 0) (B := 11) aRp (by decide) (fun _ => by rw [← am, p2_zero]; exact xg1) (by rw [← am, p11]; grind) (by decide) (by decide)
  have z0 : (X).m ≠ 0 := rv_ne (by grind)
  have top : topD (X) < 1024 := by
    have g := amt_ge (m := (X).m) (e := (X).e) (by have := fX.p; omega)
    have : p2 (topD (X)) < p2 11 := by
      rw [p11]
      have e : (X).e + (blen (X).m : Int) - 1 = topD (X) := rfl
      rw [e, ← am] at g; grind
    have := p2_lt_iff.1 this
    omega
  have cq : condQ (X) p := ⟨hfit, p0, p1⟩
  obtain ⟨g1, g2⟩ := half_100 (w := W) (by omega) (by omega) hc
  have gap := ang_gap (m := M) (by omega) (by omega) g1 g2 (rp_grid (p := 60) (j := -59) aRp (by
    have : p2 (-59 + 60 - 1) = 1 := by decide +kernel
    rw [this]; exact xg1)) x1
  have hf := halfP_hf (w := W) (by omega) (by omega)
  have ci : 0 < c := by grind
  have ic := Rat.inv_mul_cancel c (by grind)
  obtain ⟨i0, i1⟩ := inv_le1 c1
  have xc1 : (X).rv * c⁻¹ ≤ ((M : Int) : Rat) := by
    have := Rat.mul_le_mul_of_nonneg_right x1 (Rat.le_of_lt i0)
    rw [Rat.mul_assoc, Rat.mul_comm c, ic, Rat.mul_one] at this; exact this
  have xc2 : ((M : Int) : Rat) - p2 (-46) ≤ (X).rv * c⁻¹ := by
    have a := Rat.mul_le_mul_of_nonneg_right x2 (Rat.le_of_lt i0)
    rw [show (((M : Int) : Rat) * c - p2 (-46)) * c⁻¹ = ((M : Int) : Rat) * (c⁻¹ * c) - p2 (-46) * c⁻¹ by grind, ic, Rat.mul_one] at a
    have b := Rat.mul_le_mul_of_nonneg_left (show c⁻¹ ≤ 1 by grind) (Rat.le_of_lt (p2_pos (-46)))
    grind
  have n1 : 2048 * (p2 (-3 - W) / 2 + eps W) ≤ 1 / 8 := by rw [hW]; decide +kernel
  have n2 : 2 * (1024 * (p2 (-3 - W) / 2) + eps W * (2048 + 8 * 1024)) ≤ p2 (-4061) := by rw [hW]; decide +kernel
  have n3 : p2 (-4061) ≤ p2 (-93 - p) := p2_le (by omega)
  have gap' : X.rv - ((M : Int) : Rat) * c ≤ -p2 (-93 + 1) := by
    have e : (-93 : Int) + 1 = -92 := rfl
    rw [e]; exact gap
  obtain ⟨s1, s2, s3, s4⟩ := quart_ok hf (x := X) fX.p (w := W) (by omega) (by omega) (A := 2048) (B := 1024) hc (by grind) (by grind) (m := M) (a := -93) (p := p) (by grind) (by grind) (by grind) (by grind) (by rw [hW]; decide +kernel) (by rw [hW]; decide +kernel) (.inr gap') (by omega) (by grind) (by decide) (by decide)
  obtain ⟨ok, _⟩ := okW_of s1 s3 s4
  rw [← oX, hW] at ok
  obtain ⟨w, q⟩ := quar_dec cq (by rw [oX]; exact z0) (by rw [oX]; exact top) ok
  rw [oX] at q
  obtain ⟨cc, dc, dc', e1, e2⟩ := halfs_common q.w0 q.w1 (w' := V) (by omega) (by omega)
  have hw := halfP_hf q.w0 (show w ≤ 65000 by have := q.w1; omega)
  have w1 : 1 ≤ w := by have := q.w0; omega
  obtain ⟨y1, y2⟩ := aBd dc'
  have jc := Rat.inv_mul_cancel cc (by grind)
  obtain ⟨j0, j1⟩ := inv_le1 e1
  have yc1 : (X).rv * cc⁻¹ ≤ ((M : Int) : Rat) := by
    have := Rat.mul_le_mul_of_nonneg_right y1 (Rat.le_of_lt j0)
    rw [Rat.mul_assoc, Rat.mul_comm cc, jc, Rat.mul_one] at this; exact this
  have yc2 : ((M : Int) : Rat) - p2 (-46) ≤ (X).rv * cc⁻¹ := by
    have a := Rat.mul_le_mul_of_nonneg_right y2 (Rat.le_of_lt j0)
    rw [show (((M : Int) : Rat) * cc - p2 (-46)) * cc⁻¹ = ((M : Int) : Rat) * (cc⁻¹ * cc) - p2 (-46) * cc⁻¹ by grind, jc, Rat.mul_one] at a
    have b := Rat.mul_le_mul_of_nonneg_left (show cc⁻¹ ≤ 1 by grind) (Rat.le_of_lt (p2_pos (-46)))
    grind
  have nn := sure_near hw fX.p w1 q.sure dc
  have en : nI (halfP w) (X) w = M := nn.uniq ⟨by grind, by grind, fun h => by exfalso; rcases h with h | h <;> grind⟩
  obtain ⟨r1, r2⟩ := rest_in hw fX.p w1 dc
  rw [en] at r1 r2
  have rP : (restW (halfP w) (X) w).P := ⟨cutD_p, cutD_p⟩
  -- the exact rest is below 0
  have neg : (X).rv - ((M : Int) : Rat) * cc < 0 := by
    obtain ⟨f1, f2⟩ := half_100 (w := V) (by omega) (by omega) dc'
    have gap2 := ang_gap (m := M) (by omega) (by omega) f1 f2 (rp_grid (p := 60) (j := -59) aRp (by
      have : p2 (-59 + 60 - 1) = 1 := by decide +kernel
      rw [this]; exact xg1)) y1
    have := p2_pos (-92)
    grind
  have lneg : (restW (halfP w) (X) w).lo.rv < 0 := by grind
  have hneg : (restW (halfP w) (X) w).hi.rv < 0 := by
    have sg := narrow_sgn q.nar
    rcases sgn_rv rP.1 with ⟨a, b⟩ | ⟨a, b⟩ | ⟨a, b⟩
    · grind
    · grind
    · rcases sgn_rv rP.2 with ⟨a', b'⟩ | ⟨a', b'⟩ | ⟨a', b'⟩
      · omega
      · omega
      · exact b'
  have wd := narrow_neg rP q.right (by omega) q.nar hneg
  have q40 : 2 * p2 (-46) ≤ p2 (-40) := by decide +kernel
  refine ⟨hfit, by rw [q.eq], by rw [q.eq]; show nI (halfP w) (X) w % 4 = _; rw [en], by rw [q.eq]; exact hneg, ?_, by rw [q.eq]; exact rP, by rw [q.eq]; exact q.right, by rw [q.eq]; exact lneg⟩
  rw [q.eq]
  show _ ≤ (restW (halfP w) (X) w).lo.rv
  grind
def tyU16 : TyRow := ⟨45, 1, false, [.int .u16 0], .int .u16⟩
def tys7 : List TyRow := tyU16 :: tys6
theorem tys7_ok : RowsOk Tryz.prog tys7 := ⟨by kernel_rfl, tys6_ok⟩
theorem lAn_vc (n p : Int) (am : Dx → Int → Int → Bool) (co : Int → Vx × Int) (qf : Dx → Int → Int × Vx × Int) (tf sf : Dx → Int × Dx × Int) (pf : Dx → Dx × Dx × Int) (Q : Tv → Prop) : execF ⟨tys7, sNr14 am co qf tf sf pf⟩ (fun _ => none) 0 Tryz.f6 [.one (.int .u16 n), .one (.int .i64 p)] Q = ((1000 : Int) ≠ (0 : Int) ∧ inR (Int.tmod n (1000 : Int)) ∧ inR (Int.tmod n (1000 : Int) + (1 : Int)) ∧ (1 : Int) = (1 : Int) ∧ br (neI (co (256 : Int)).snd (0 : Int)) (Q (bT false)) (br (!rightV (co (256 : Int)).fst) (Q (bT false)) (inR (Int.tmod n (1000 : Int) + (1 : Int)) ∧ eB (4611686018427387904 : Int) (mkS (Int.tmod n (1000 : Int) + (1 : Int)) (0 : Int)) ∧ (Vx.Sm (268435456 : Nat) (pointV (mkS (Int.tmod n (1000 : Int) + (1 : Int)) (0 : Int))) ∧ Vx.Sm (268435456 : Nat) (co (256 : Int)).fst ∧ (0 : Int) ≤ (256 : Int) ∧ (256 : Int) ≤ (1099511627776 : Int)) ∧ (eB (2305843009213693952 : Int) (timesV (pointV (mkS (Int.tmod n (1000 : Int) + (1 : Int)) (0 : Int))) (co (256 : Int)).fst (256 : Int)).lo ∧ eB (2305843009213693952 : Int) (timesV (pointV (mkS (Int.tmod n (1000 : Int) + (1 : Int)) (0 : Int))) (co (256 : Int)).fst (256 : Int)).hi ∧ (-2305843009213693952 : Int) ≤ (-1 : Int) ∧ (-1 : Int) ≤ (2305843009213693952 : Int)) ∧ true = true ∧ (Dx.Sm (34359738368 : Nat) (scaleV (timesV (pointV (mkS (Int.tmod n (1000 : Int) + (1 : Int)) (0 : Int))) (co (256 : Int)).fst (256 : Int)) (-1 : Int)).lo ∧ (0 : Int) ≤ (60 : Int) ∧ (60 : Int) ≤ (1099511627776 : Int)) ∧ br (neI (qf (cutD (scaleV (timesV (pointV (mkS (Int.tmod n (1000 : Int) + (1 : Int)) (0 : Int))) (co (256 : Int)).fst (256 : Int)) (-1 : Int)).lo (60 : Int) false) p).snd.snd (0 : Int)) (br (eqI (qf (cutD (scaleV (timesV (pointV (mkS (Int.tmod n (1000 : Int) + (1 : Int)) (0 : Int))) (co (256 : Int)).fst (256 : Int)) (-1 : Int)).lo (60 : Int) false) p).snd.snd (2 : Int)) (br (ltI p (8 : Int)) (Q (bT true)) (Q (bT (ltI (3968 : Int) p)))) (Q (bT false))) ((4 : Int) ≠ (0 : Int) ∧ br (eqI (qf (cutD (scaleV (timesV (pointV (mkS (Int.tmod n (1000 : Int) + (1 : Int)) (0 : Int))) (co (256 : Int)).fst (256 : Int)) (-1 : Int)).lo (60 : Int) false) p).fst (Int.tmod (Int.tmod n (1000 : Int) + (1 : Int)) (4 : Int))) (br (leI (Dx.sgn (qf (cutD (scaleV (timesV (pointV (mkS (Int.tmod n (1000 : Int) + (1 : Int)) (0 : Int))) (co (256 : Int)).fst (256 : Int)) (-1 : Int)).lo (60 : Int) false) p).snd.fst.hi) (0 : Int)) ((Dx.Sm (131072 : Nat) (qf (cutD (scaleV (timesV (pointV (mkS (Int.tmod n (1000 : Int) + (1 : Int)) (0 : Int))) (co (256 : Int)).fst (256 : Int)) (-1 : Int)).lo (60 : Int) false) p).snd.fst.lo ∧ (1 : Int) = (1 : Int) ∧ (-64 : Int) ≤ (-40 : Int) ∧ (-40 : Int) ≤ (64 : Int)) ∧ Q (bT (am (qf (cutD (scaleV (timesV (pointV (mkS (Int.tmod n (1000 : Int) + (1 : Int)) (0 : Int))) (co (256 : Int)).fst (256 : Int)) (-1 : Int)).lo (60 : Int) false) p).snd.fst.lo (1 : Int) (-40 : Int)))) (Q (bT false))) (Q (bT false)))))) := by kernel_rfl
def lAn : Spec := specK [.i .u16, .i .i64] fun (n _ : Int) => (some (IntKind.u16.min ≤ n ∧ n ≤ IntKind.u16.max), bT true)
theorem lAn_ok : SpecOk Tryz.prog 6 lAn :=
  specK_ok (envOk tys7_ok sNr14_ok) mixed Tryz.func6 rfl (by decide) (by decide) fun (n : Int) _ (p : Int) _ hp => ⟨fun _ => none, 0, by
    obtain ⟨n0, n1⟩ : IntKind.u16.min ≤ n ∧ n ≤ IntKind.u16.max := hp
    have n0 : 0 ≤ n := n0
    have n1 : n ≤ 65535 := n1
    show execF _ _ _ _ _ (fun t => t = bT true)
    refine (lAn_vc n p amtB constR quarR turR scaR splR _).mpr ?_
    have tm : Int.tmod n 1000 = n % 1000 := Int.tmod_eq_emod_of_nonneg n0
    obtain ⟨m, hm⟩ : ∃ m : Int, m = n % 1000 + 1 := ⟨_, rfl⟩
    have m0 : 1 ≤ m := by omega
    have m1 : m ≤ 1000 := by omega
    rw [tm, ← hm, Int.tmod_eq_emod_of_nonneg (b := 4) (show 0 ≤ m by omega)]
    have ec : constR 256 = (constPi 256, 0) := by unfold constR; rw [if_pos ⟨by decide, by decide⟩]
    have cp := constPi_iv (p := 256) (by decide) (by decide)
    have cr := constPi_right (p := 256) (by decide) (by decide)
    have cs := right_sm cr
    have sm : (mkS m 0).Sm 16 := (mkS_sm (N := 10) (M := 0) (blen_le (by omega)) (by omega) (by omega)).mono (by omega)
    have st := timesV_sm (p := 256) (pointV_p (mkS m 0)) cp.p ((pointV_sm (show (0:Int) ≤ (mkS m 0).m from mkS_p) sm).mono (show 16 + 16 ≤ 65536 by omega)) cs (by omega)
    have ss : (angV m).lo.Sm 34359738368 := (shiftD_sm (d := (timesV (pointV (mkS m 0)) (constPi 256) 256).lo) (M := 1) (trimV_p _ _).1 st.1 (by omega) (by omega)).mono (by omega)
    have ps : (pointV (mkS m 0)).Sm 268435456 := (pointV_sm (show (0:Int) ≤ (mkS m 0).m from mkS_p) sm).mono (by omega)
    rw [ec]
    dsimp only
    rw [cr]
    have aq := @ang_quar m m0 m1 p
    have qc := quar_cases (angX m) p
    have eX : cutD (scaleV (timesV (pointV (mkS m 0)) (constPi 256) 256) (-1)).lo 60 false = angX m := rfl
    rw [eX]
    have c1 := st.1.eB (M := 2305843009213693952) (by omega)
    have c2 := st.2.eB (M := 2305843009213693952) (by omega)
    refine ⟨by omega, by constructor <;> omega, by constructor <;> omega, rfl, br_intro (fun h => by cases h) fun _ => br_intro (fun h => by cases h) fun _ => ⟨by constructor <;> omega, sm.eB (by omega), ⟨ps, ⟨cs.1.mono (by omega), cs.2.mono (by omega)⟩, by omega, by omega⟩, ⟨c1, c2, by omega, by omega⟩, rfl, ⟨ss, by omega, by omega⟩, ?_⟩⟩
    by_cases c : 8 ≤ p ∧ p ≤ 3968
    · obtain ⟨a1, a2, a3, a4, a5, a6, _, a8⟩ := aq c.1 c.2
      generalize quarR (angX m) p = q at *
      obtain ⟨k, r, w⟩ := q
      dsimp only at *
      rw [a2, a3]
      have q40 := p2_pos (-40)
      refine br_intro (fun h => by cases h) fun _ => ⟨by omega, br_intro (fun _ => br_intro (fun _ => ⟨⟨?_, rfl, by omega, by omega⟩, ?_⟩) fun h => ?_) fun h => ?_⟩
      · exact (right_sm (by assumption)).1.mono (by omega)
      · rw [amtB_of a6.1 (by grind) a5]
      · have := leI_false.1 h
        rcases sgn_rv a6.2 with ⟨u, v⟩ | ⟨u, v⟩ | ⟨u, v⟩ <;> first | omega | grind
      · exact absurd (eqI_true.2 rfl) (by rw [h]; simp)
    · have e : quarR (angX m) p = (0, zeroIv, 2) := by
        rcases qc with ⟨_, e⟩ | ⟨h, _⟩ | ⟨h, _⟩ | ⟨h, _⟩ | ⟨h, _⟩
        · exact e
        all_goals exact absurd ⟨h.2.1, h.2.2⟩ c
      rw [e]
      refine br_intro (fun _ => br_intro (fun _ => br_intro (fun _ => rfl) fun h => ?_) fun h => by cases h) fun h => by cases h
      have := ltI_false.1 h
      rw [show ltI 3968 p = true from ltI_true.2 (by omega)]⟩
end Go.Proofs.YtdnbckfhfhfkoaaGreatDoor

namespace Go.Proofs.YtdnbckfhfhfkoaaGreatDoor
open Go.RowKit
/-- A block that holds a dyadic number's three cells, from cell o on. -/
def Box3 (w : World) (g o : Nat) (a b c : Value) : Prop :=
  (w.cell? ⟨g, o, none⟩ = some a ∧ w.cell? ⟨g, o + 1, none⟩ = some b ∧ w.cell? ⟨g, o + 2, none⟩ = some c) ∧
  (w.frozen? ⟨g, o, none⟩ = false ∧ w.frozen? ⟨g, o + 1, none⟩ = false ∧ w.frozen? ⟨g, o + 2, none⟩ = false)
theorem Box3.lt {w : World} {g o : Nat} {a b c : Value} (h : Box3 w g o a b c) : g < w.heap.size := World.block_lt_of_cell? w _ h.1.1
theorem Box3.below {w w' : World} {g o : Nat} {a b c : Value} (h : Box3 w g o a b c) (hb : Below w.heap.size w w') : Box3 w' g o a b c := by
  have hl := h.lt
  have e := bcell hb
  obtain ⟨⟨h1, h2, h3⟩, h4, h5, h6⟩ := h
  exact ⟨⟨(e.1 _ _ hl).trans h1, (e.1 _ _ hl).trans h2, (e.1 _ _ hl).trans h3⟩, (e.2 _ _ hl).trans h4, (e.2 _ _ hl).trans h5, (e.2 _ _ hl).trans h6⟩
theorem Box3.mid {w w' : World} {B g o : Nat} {a b c : Value} (h : Box3 w g o a b c) (hb : Below B w w') (hl : g < B) : Box3 w' g o a b c := by
  obtain ⟨⟨h1, h2, h3⟩, h4, h5, h6⟩ := h
  exact ⟨⟨(hb.cell (p := ⟨g, o, none⟩) hl).trans h1, (hb.cell (p := ⟨g, o + 1, none⟩) hl).trans h2, (hb.cell (p := ⟨g, o + 2, none⟩) hl).trans h3⟩, (hb.frozen (p := ⟨g, o, none⟩) hl).trans h4, (hb.frozen (p := ⟨g, o + 1, none⟩) hl).trans h5, (hb.frozen (p := ⟨g, o + 2, none⟩) hl).trans h6⟩
theorem Box3.other {w : World} {g g' o : Nat} {a b c : Value} (h : Box3 w g 0 a b c) (hg : g ≠ g') (x : Value) : Box3 (w.setCell ⟨g', o, none⟩ x) g 0 a b c := by
  obtain ⟨⟨h1, h2, h3⟩, h4, h5, h6⟩ := h
  refine ⟨⟨?_, ?_, ?_⟩, ?_, ?_, ?_⟩
  iterate 3 rw [World.cell?_setCell_other _ _ _ _ (by intro e; simp only [Addr.mk.injEq] at e; omega)]; assumption
  all_goals rw [World.frozen?_setCell]; assumption
theorem Box3.new (w : World) (a b c : Value) (t : TypeId) : Box3 (w.alloc (.cells #[a, b, c] t)) w.heap.size 0 a b c := by
  refine ⟨⟨?_, ?_, ?_⟩, ?_, ?_, ?_⟩ <;> go_simp

theorem Box3.set {w : World} {g : Nat} {a b c : Value} (h : Box3 w g 0 a b c) (a' b' c' : Value) :
    Box3 (((w.setCell ⟨g, 0, none⟩ a').setCell ⟨g, 1, none⟩ b').setCell ⟨g, 2, none⟩ c') g 0 a' b' c' := by
  obtain ⟨⟨h1, h2, h3⟩, h4, h5, h6⟩ := h
  simp only [Nat.zero_add] at h1 h2 h3 h4 h5 h6
  have n01 : (⟨g, 0, none⟩ : Addr) ≠ ⟨g, 1, none⟩ := by simp
  have n02 : (⟨g, 0, none⟩ : Addr) ≠ ⟨g, 2, none⟩ := by simp
  have n12 : (⟨g, 1, none⟩ : Addr) ≠ ⟨g, 2, none⟩ := by simp
  refine ⟨⟨?_, ?_, ?_⟩, ?_, ?_, ?_⟩
  · rw [World.cell?_setCell_other _ _ _ _ n02.symm, World.cell?_setCell_other _ _ _ _ n01.symm]; exact World.cell?_setCell_same _ _ _ h1
  · rw [Nat.zero_add, World.cell?_setCell_other _ _ _ _ n12.symm]; exact World.cell?_setCell_same _ _ _ ((World.cell?_setCell_other _ _ _ _ n01).trans h2)
  · rw [Nat.zero_add]; exact World.cell?_setCell_same _ _ _ ((World.cell?_setCell_other _ _ _ _ n12).trans ((World.cell?_setCell_other _ _ _ _ n02).trans h3))
  all_goals rw [World.frozen?_setCell, World.frozen?_setCell, World.frozen?_setCell]
  all_goals assumption
theorem NatAt.set {B g o : Nat} {w : World} {v : Value} {xs : List Int} (h : NatAt B w v xs) (hg : g < B) (x : Value) : NatAt B (w.setCell ⟨g, o, none⟩ x) v xs := by
  obtain ⟨A, c, e, h1, h2, h3, h5, h4⟩ := h
  refine ⟨A, c, e, h1, h2, h3, h5, fun hp => ?_⟩
  obtain ⟨g', o', e, hB, hg', hc⟩ := h4 hp
  refine ⟨g', o', e, hB, by simpa using hg', fun j hj => ?_⟩
  rw [World.cell?_setCell_other _ _ _ _ (by intro e; simp only [Addr.mk.injEq] at e; omega)]
  exact hc j hj
/-- A world in which the three cells of a block were set. -/
abbrev put3 (w : World) (g : Nat) (a b c : Value) : World := ((w.setCell ⟨g, 0, none⟩ a).setCell ⟨g, 1, none⟩ b).setCell ⟨g, 2, none⟩ c
theorem NatAt.put {B g : Nat} {w : World} {v : Value} {xs : List Int} (h : NatAt B w v xs) (hg : g < B) (a b c : Value) : NatAt B (put3 w g a b c) v xs := ((h.set hg a).set hg b).set hg c
theorem Below.put {B g : Nat} {w0 w : World} (h : Below B w0 w) (hg : B ≤ g) (a b c : Value) : Below B w0 (put3 w g a b c) := ((h.setCell hg _).setCell hg _).setCell hg _
theorem results_dy {fn : Func} {p : Tmp} (h : fn.results = #[.cell p 25]) {tmps : Array Value} {w : World} {g : Nat} {a b c : Value} (hp : tmps.getD p undef = .pointer (some ⟨g, 0, none⟩)) (hB : Box3 w g 0 a b c) :
    (results fn tmps).run Tryz.prog w = .ok (.agg #[a, b, c]) w := by
  obtain ⟨⟨h1, h2, h3⟩, h4, h5, h6⟩ := hB
  simp only [Nat.zero_add] at h1 h2 h3 h4 h5 h6
  have hp' : tmps[p]?.getD undef = .pointer (some ⟨g, 0, none⟩) := by simpa using hp
  simp [results, h, hp', asAddr, go_sem, loadVar, h1, h2, h3]

theorem size_alloc (w : World) (o : Obj) : (w.alloc o).heap.size = w.heap.size + 1 := by simp
/-- The world in which the copy is made. -/
noncomputable abbrev cpW (w : World) (neg : Bool) (s : Value) (e : Int) : World := ((w.alloc (.cells #[.bool neg, s, .int .i64 e] 25)).alloc (.cells #[.bool false, .slice none 0 0, .int .i64 0] 25)).alloc (.cells #[] 63)
theorem cp_below (w : World) (neg : Bool) (s : Value) (e : Int) : Below w.heap.size w (cpW w neg s e) := below_plus (below_plus (below_also w _) _) _
theorem cp_size (w : World) (neg : Bool) (s : Value) (e : Int) : (cpW w neg s e).heap.size = w.heap.size + 3 := by simp [cpW]
theorem cp_row (w : World) (neg : Bool) (s : Value) (e : Int) : (cpW w neg s e).ownsRow (w.heap.size + 2) 63 1 (.slice (some ⟨w.heap.size + 1 + 1, 0, none⟩) 0 0) 0 [] := by
  refine ⟨rfl, .inr ⟨_, 0, #[], rfl, Nat.le_refl _, ?_, Nat.le_refl _, Nat.zero_le _, rfl, rfl⟩⟩
  have := heap_alloc_new ((w.alloc (.cells #[.bool neg, s, .int .i64 e] 25)).alloc (.cells #[.bool false, .slice none 0 0, .int .i64 0] 25)) (.cells #[] 63)
  rwa [size_alloc, size_alloc] at this
theorem cp_box (w : World) (neg : Bool) (s : Value) (e : Int) : Box3 (cpW w neg s e) w.heap.size 0 (.bool neg) s (.int .i64 e) ∧ Box3 (cpW w neg s e) (w.heap.size + 1) 0 (.bool false) (.slice none 0 0) (.int .i64 0) := by
  refine ⟨((Box3.new w _ _ _ _).below (below_also _ _)).below (below_also _ _), ?_⟩
  have := (Box3.new (w.alloc (.cells #[.bool neg, s, .int .i64 e] 25)) (.bool false) (.slice none 0 0) (.int .i64 0) 25).below (below_also _ (.cells #[] 63))
  rwa [size_alloc] at this
set_option maxHeartbeats 800000 in
theorem copy4_calls {w : World} {s : Value} {d : Dx} (h : NatAt 0 w s d.xs) :
    Calls Tryz.prog 10 #[.agg #[.bool d.neg, s, .int .i64 d.e]] w fun e w' => ∃ s', e = .returned (.agg #[.bool d.neg, s', .int .i64 d.e]) ∧ NatAt w.heap.size w' s' d.xs ∧ Below w.heap.size w w' := by
  have HN := Lib.hid h
  clear h
  obtain ⟨neg, xs, e⟩ := d
  simp only at *
  go_enter Tryz.func10, Tryz.ntmps10
  go_wp2_with (at_builtin; refine wpList_append_copy rfl (w.heap.size + 2) rfl (.tmp 3) (.tmp 5) 23 rfl Tryz.underlying23 rfl rfl (cp_row _ _ _ _) (HN.out.below (cp_below _ _ _ _)) (Below.refl _ _) (by rw [cp_size]; omega) ?_; intro v3 w3 hn3 hb3 _; obtain ⟨A3, c3, rfl, hh⟩ := hn3; have HN3 : Hid (NatAt (w.heap.size + 2) w3 (.slice A3 xs.length c3) xs) := Lib.hid ⟨A3, c3, rfl, hh⟩; have HB3 := Lib.hid hb3; have k1 := (cp_box w neg s e).1.mid hb3 (by omega); have k2 := (cp_box w neg s e).2.mid hb3 (by omega); obtain ⟨⟨a1, a2, a3⟩, a4, a5, a6⟩ := k1; obtain ⟨⟨b1, b2, b3⟩, b4, b5, b6⟩ := k2; simp only [Nat.zero_add] at a1 a2 a3 a4 a5 a6 b1 b2 b3 b4 b5 b6; clear hh hb3)
  refine bodyPost_ret (results_dy rfl rfl (Box3.set (Box3.other ⟨⟨b1, b2, b3⟩, b4, b5, b6⟩ (by omega) _) _ _ _)) rfl ?_
  have hb := (((cp_below w neg s e).trans (HB3.out.mono (by omega))).setCell (p := ⟨w.heap.size, 1, none⟩) (Nat.le_refl _) (.slice A3 xs.length c3))
  exact ⟨_, rfl, ((HN3.out.set (g := w.heap.size) (by omega) _).put (g := w.heap.size + 1) (by omega) _ _ _).mono (by omega), Below.put hb (by omega) _ _ _⟩
def fCopy : Spec := specK [.d] fun (d : Dx) => (none, dT d)
theorem fCopy_ok : SpecOk Tryz.prog 10 fCopy :=
  handK_ok Tryz.func10 rfl (by decide) fun C w hC hX _ => fun (d : Dx) _ v h _ => by
    obtain ⟨vs, rfl, hl⟩ : ∃ vs, v = .agg vs.toArray ∧ RepL C noBox w vs (dyL false d) := by
      obtain ⟨vs, h1, h2⟩ := h; exact ⟨vs, h1, h2⟩
    match vs, hl with
    | [a, b, c], ⟨h1, h2, h3, _⟩ =>
      obtain rfl := rep_bool h1
      obtain rfl := rep_int h3
      refine (copy4_calls (rep_natAt h2)).mono ?_
      rintro e w' ⟨s', rfl, hn, hb⟩
      exact ⟨_, rfl, ⟨[.bool d.neg, s', .int .i64 d.e], rfl, Rep.bool _, rep_new hC hX hn, Rep.int _ _, trivial⟩, hb⟩
end Go.Proofs.YtdnbckfhfhfkoaaGreatDoor

namespace Go.Proofs.YtdnbckfhfhfkoaaGreatDoor
open Go.RowKit
def lstD : Dx := ⟨false, ws 1, -2048⟩
def eigV (w : Int) : Vx := scaleV (refPi w) (-2)
def eigH : Vx := eigV 3328
def hardB (x : Dx) : Bool := !x.zeroB && (ltI (cmpD (restW eigH x 3328).lo lstD) 0 && ltI (cmpD (negD lstD) (restW eigH x 3328).hi) 0)
def enclB (v u : Vx) (p : Int) : Bool := rightV v && (sameV v (canonV v) && (narrowB v p && (leI (cmpD v.lo u.hi) 0 && leI (cmpD u.lo v.hi) 0)))
def hEncl : Spec := specK [.v, .v, .i .i64] fun (v : Vx) (u : Vx) (p : Int) => (some (u.Sm 34359738368), bT (enclB v u p))
theorem hEncl_vc (v u : Vx) (p : Int) (Q : Tv → Prop) : execF ⟨tys2, sQh1⟩ (fun _ => none) 0 Tryz.f19 [.agg (ivL false v), .agg (ivL false u), .one (.int .i64 p)] Q = (br (rightV v) (Vx.Sm (65536 : Nat) v ∧ br (sameV v (canonV v)) (br (narrowB v p) ((Dx.Sm (34359738368 : Nat) v.lo ∧ Dx.Sm (34359738368 : Nat) u.hi) ∧ br (leI (cmpD v.lo u.hi) (0 : Int)) ((Dx.Sm (34359738368 : Nat) u.lo ∧ Dx.Sm (34359738368 : Nat) v.hi) ∧ true = true ∧ Q (bT (leI (cmpD u.lo v.hi) (0 : Int)))) (true = true ∧ Q (bT false))) (true = true ∧ Q (bT false))) (true = true ∧ Q (bT false))) (true = true ∧ Q (bT false))) := by kernel_rfl
theorem hEncl_ok : SpecOk Tryz.prog 19 hEncl :=
  specK_ok (envOk tys2_ok sQh1_ok) mixed Tryz.func19 rfl (by decide) (by decide) fun (v : Vx) _ (u : Vx) _ (p : Int) _ hp => ⟨fun _ => none, 0, by
    have su : u.Sm 34359738368 := hp
    show execF _ _ _ _ _ (fun t => t = bT (enclB v u p))
    unfold enclB
    refine (hEncl_vc v u p _).mpr (br_intro (fun h => ?_) fun h => ⟨rfl, by rw [h]; rfl⟩)
    have sv := right_sm h
    refine ⟨sv, br_intro (fun h1 => br_intro (fun h2 => ⟨⟨sv.1.mono (by omega), su.2⟩, br_intro (fun h3 => ⟨⟨su.1, sv.2.mono (by omega)⟩, rfl, ?_⟩) fun h3 => ⟨rfl, ?_⟩⟩) fun h2 => ⟨rfl, ?_⟩) fun h1 => ⟨rfl, ?_⟩⟩
    · rw [h, h1, h2, h3]; rfl
    · rw [h, h1, h2, h3]; rfl
    · rw [h, h1, h2]; rfl
    · rw [h, h1]; rfl⟩
/-! ### Hard. -/
structure EiIv (d : Rat) (h : Vx) : Prop where
  p : h.P
  enc : Enc piS (4 * h.lo.rv) (4 * h.hi.rv)
  lo : 3 / 4 ≤ h.lo.rv
  hi : h.hi.rv ≤ 1
  nar : h.hi.rv ≤ h.lo.rv + d
theorem EiIv.le {d : Rat} {h : Vx} (k : EiIv d h) : h.lo.rv ≤ h.hi.rv := by have := k.enc.self; grind
theorem EiIv.off {d : Rat} {h : Vx} (k : EiIv d h) : Off0 h := .inl (by have := k.lo; grind)
theorem eigV_ends (w : Int) : (eigV w).lo = shiftD (refPi w).lo (-2) ∧ (eigV w).hi = shiftD (refPi w).hi (-2) := ⟨rfl, rfl⟩
theorem refH_ends (w : Int) : (refH w).lo = shiftD (refPi w).lo (-1) ∧ (refH w).hi = shiftD (refPi w).hi (-1) := ⟨rfl, rfl⟩
theorem eigV_iv {w : Int} (w0 : 64 ≤ w) (w1 : w ≤ 65000) : EiIv (p2 (23 - w) / 4) (eigV w) := by
  have h := refPi_iv (w := w) (by omega) (by omega)
  have r1 : (eigV w).lo.rv = (refPi w).lo.rv * (1 / 4) := by rw [← p2_v.2.2.2, (eigV_ends w).1]; exact rv_shift h.p.1
  have r2 : (eigV w).hi.rv = (refPi w).hi.rv * (1 / 4) := by rw [← p2_v.2.2.2, (eigV_ends w).2]; exact rv_shift h.p.2
  have l := h.lo
  have k := h.hi
  have n := h.nar
  have e1 : 4 * (eigV w).lo.rv = (refPi w).lo.rv := by rw [r1]; grind
  have e2 : 4 * (eigV w).hi.rv = (refPi w).hi.rv := by rw [r2]; grind
  exact ⟨⟨shiftD_p, shiftD_p⟩, by rw [e1, e2]; exact h.enc, by grind, by grind, by grind⟩
theorem eigH_iv : EiIv (p2 (23 - 3328) / 4) eigH := eigV_iv (by decide) (by decide)
theorem inv_le4 {c : Rat} (h : 3 / 4 ≤ c) : 0 < c⁻¹ ∧ c⁻¹ ≤ 4 / 3 := by
  have hc : 0 < c := by grind
  have p := Rat.inv_pos.2 hc
  have e := Rat.inv_mul_cancel c (by grind)
  have m := Rat.mul_le_mul_of_nonneg_left h (Rat.le_of_lt p)
  exact ⟨p, by grind⟩
theorem inv_close4 {a b d : Rat} (ha : 3 / 4 ≤ a) (hb : 3 / 4 ≤ b) (h1 : a - b ≤ d) (h2 : b - a ≤ d) : a⁻¹ - b⁻¹ ≤ 2 * d ∧ b⁻¹ - a⁻¹ ≤ 2 * d := by
  obtain ⟨a0, a1⟩ := inv_le4 ha
  obtain ⟨b0, b1⟩ := inv_le4 hb
  have ea := Rat.inv_mul_cancel a (by grind)
  have eb := Rat.inv_mul_cancel b (by grind)
  have d0 : 0 ≤ d := by grind
  have p0 := Rat.mul_nonneg (Rat.le_of_lt a0) (Rat.le_of_lt b0)
  have p1 : a⁻¹ * b⁻¹ ≤ 2 := by
    have := Rat.mul_le_mul_of_nonneg_left (show b⁻¹ ≤ 4 / 3 by grind) (Rat.le_of_lt a0)
    grind
  have e1 : a⁻¹ - b⁻¹ = (a⁻¹ * b⁻¹) * (b - a) := by
    have x1 : (a⁻¹ * b⁻¹) * b = a⁻¹ := by rw [Rat.mul_assoc, eb, Rat.mul_one]
    have x2 : (a⁻¹ * b⁻¹) * a = b⁻¹ := by rw [Rat.mul_comm a⁻¹, Rat.mul_assoc, ea, Rat.mul_one]
    grind
  have m1 := Rat.mul_le_mul_of_nonneg_left h2 p0
  have m2 := Rat.mul_le_mul_of_nonneg_left h1 p0
  have m3 := Rat.mul_le_mul_of_nonneg_right p1 d0
  constructor <;> grind
/-- The lower end of the quotient by an eighth of a turn. -/
theorem eig_close {d : Rat} {h : Vx} (k : EiIv d h) {x : Dx} (hx : 0 ≤ x.m) {w : Int} (hw : 1 ≤ w) {A c : Rat} (hc : InV h c) (h1 : -A ≤ x.rv) (h2 : x.rv ≤ A) :
    x.rv * c⁻¹ - A * (2 * d + 2 * eps w) ≤ (quoW h x w).lo.rv ∧ (quoW h x w).lo.rv ≤ x.rv * c⁻¹ + A * (2 * d + 2 * eps w) := by
  have A0 : 0 ≤ A := by grind
  have cl := hc.1
  have ch := hc.2
  have l := k.lo
  have nr := k.nar
  have le := k.le
  have e0 := eps_pos w
  obtain ⟨⟨a, b, hcor, e1⟩, _⟩ := div_at (pointV x) h w
  obtain ⟨p1, p2'⟩ := pointV_rv hx
  have r1 : a.rv = x.rv := by rcases hcor.1 with e | e <;> rw [e]; exact p1; exact p2'
  have hb : 3 / 4 ≤ b.rv ∧ b.rv - c ≤ d ∧ c - b.rv ≤ d := by
    rcases hcor.2 with e | e <;> rw [e] <;> exact ⟨by grind, by grind, by grind⟩
  obtain ⟨i1, i2⟩ := inv_close4 hb.1 (show 3 / 4 ≤ c by grind) hb.2.1 hb.2.2
  obtain ⟨i0, i3⟩ := inv_le4 hb.1
  have mb := mul_bd h1 h2 i1 i2
  have r34 : -(2 * A) ≤ x.rv * b.rv⁻¹ ∧ x.rv * b.rv⁻¹ ≤ 2 * A := by
    rcases (show 0 ≤ x.rv ∨ x.rv ≤ 0 by grind) with s | s
    · have m1 := Rat.mul_le_mul_of_nonneg_left (show b.rv⁻¹ ≤ 2 by grind) s
      have m0 := Rat.mul_nonneg s (Rat.le_of_lt i0)
      constructor <;> grind
    · have m1 := Rat.mul_le_mul_of_nonneg_left (show b.rv⁻¹ ≤ 2 by grind) (show 0 ≤ -x.rv by grind)
      have m0 := Rat.mul_nonneg (show 0 ≤ -x.rv by grind) (Rat.le_of_lt i0)
      constructor <;> grind
  have c1 := (hcor.best (pointV_p x) k.p k.off le hw).2.1
  rw [r1] at c1
  have b1 := c1.close hw r34.1 r34.2
  have z := Rat.mul_nonneg A0 (Rat.le_of_lt e0)
  have eA : A * (2 * d + 2 * eps w) = A * (2 * d) + eps w * (2 * A) := by grind
  rw [eA]
  show _ ≤ (divV (pointV x) h w).lo.rv ∧ (divV (pointV x) h w).lo.rv ≤ _
  rw [e1]
  constructor <;> grind
/-- What is left of a number behind so many of what an interval encloses lies in what is reckoned. -/
theorem rest_any {h : Vx} (hp : h.P) {x : Dx} (hx : 0 ≤ x.m) {w : Int} (hw : 1 ≤ w) {c : Rat} (hc : InV h c) : InV (restW h x w) (x.rv - (nI h x w : Rat) * c) := by
  have en : (nW h x w).rv = (nI h x w : Rat) := (wholeS_rv nearD_e).symm
  have np : 0 ≤ (nW h x w).m := nearD_p
  obtain ⟨a1, a2⟩ := prod_in (pointV_p (nW h x w)) hp (pointV_in np) hc
  rw [en] at a1 a2
  obtain ⟨t1, t2⟩ := times_best (v := pointV (nW h x w)) (u := h) (p := w + 64) (by omega) (pointV_p _) hp
  have t1' := t1.2.1
  have t2' := t2.2.1
  obtain ⟨l1, l2⟩ := less_best (v := pointV x) (u := timesV (pointV (nW h x w)) h (w + 64)) (pointV_p x) (trimV_p _ _) hw
  obtain ⟨p1, p2'⟩ := pointV_rv hx
  have l1' := l1.2.1
  have l2' := l2.2.1
  constructor
  · have : (restW h x w).lo.rv ≤ (pointV x).lo.rv - (timesV (pointV (nW h x w)) h (w + 64)).hi.rv := l1'
    grind
  · have : (pointV x).hi.rv - (timesV (pointV (nW h x w)) h (w + 64)).lo.rv ≤ (restW h x w).hi.rv := l2'
    grind
theorem lst_rv : lstD.rv = p2 (-2048) := by
  have : lstD.sm = 1 := by
    have e : lstD.m = 1 := val_ws_one
    unfold Dx.sm; rw [e]; rfl
  unfold Dx.rv; rw [this]
  show ((1 : Int) : Rat) * p2 (-2048) = _
  have e1 : ((1 : Int) : Rat) = 1 := rfl
  rw [e1, Rat.one_mul]
theorem lst_p : 0 ≤ lstD.m := by rw [show lstD.m = 1 from val_ws_one]; decide
/-- What is not hard keeps away from every eighth of a turn. -/
theorem soft_far {x : Dx} (hx : 0 ≤ x.m) (hx0 : x.m ≠ 0) (hs : hardB x = false) {A c : Rat} (hA : A * (2 * (p2 (23 - 3328) / 4) + 2 * eps 3328) ≤ 1 / 100) (h1 : -A ≤ x.rv) (h2 : x.rv ≤ A) (hc : InV eigH c) (_ : c ≤ 4 / 5) (m : Int) :
    p2 (-2048) ≤ x.rv - (m : Rat) * c ∨ x.rv - (m : Rat) * c ≤ -(p2 (-2048)) := by
  have k := eigH_iv
  have q48 : p2 (-2048) ≤ 1 / 8 := by decide +kernel
  obtain ⟨r1, r2⟩ := rest_any k.p hx (w := 3328) (by decide) hc
  obtain ⟨q1, q2⟩ := eig_close k hx (w := 3328) (by decide) hc h1 h2
  obtain ⟨n1, n2, _⟩ := nW_near (h := eigH) (x := x) (w := 3328)
  have c0 : 3 / 4 ≤ c := by have := k.lo; have := hc.1; grind
  have cp : 0 < c := by grind
  have far : p2 (-2048) ≤ x.rv - (nI eigH x 3328 : Rat) * c ∨ x.rv - (nI eigH x 3328 : Rat) * c ≤ -(p2 (-2048)) := by
    unfold hardB at hs
    have z : x.zeroB = false := zeroB_false.2 hx0
    rw [z] at hs
    cases a : ltI (cmpD (restW eigH x 3328).lo lstD) 0 with
    | false =>
      have a := ltI_false.1 a
      refine .inl ?_
      have : lstD.rv ≤ (restW eigH x 3328).lo.rv := by
        rcases cmpD_cases (restW eigH x 3328).lo lstD with ⟨e, b⟩ | ⟨e, b⟩ | ⟨e, b⟩
        · omega
        · grind
        · grind
      rw [lst_rv] at this; grind
    | true =>
      rw [a] at hs
      have b := ltI_false.1 (show ltI (cmpD (negD lstD) (restW eigH x 3328).hi) 0 = false by simpa using hs)
      refine .inr ?_
      have : (restW eigH x 3328).hi.rv ≤ (negD lstD).rv := by
        rcases cmpD_cases (negD lstD) (restW eigH x 3328).hi with ⟨e, b⟩ | ⟨e, b⟩ | ⟨e, b⟩
        · omega
        · grind
        · grind
      rw [rv_neg lst_p, lst_rv] at this; grind
  by_cases hm : m = nI eigH x 3328
  · rw [hm]; exact far
  · -- another multiple lies further away
    have xc : x.rv = x.rv * c⁻¹ * c := by rw [Rat.mul_assoc, Rat.inv_mul_cancel c (by grind), Rat.mul_one]
    have d1 : x.rv * c⁻¹ - (nI eigH x 3328 : Rat) ≤ 51 / 100 := by grind
    have d2 : -(51 / 100) ≤ x.rv * c⁻¹ - (nI eigH x 3328 : Rat) := by grind
    have e : x.rv - (m : Rat) * c = (x.rv * c⁻¹ - (m : Rat)) * c := by
      conv => lhs; rw [xc]
      grind
    rw [e]
    rcases (show m + 1 ≤ nI eigH x 3328 ∨ nI eigH x 3328 + 1 ≤ m by omega) with g | g
    · have g := cast_le.2 g
      rw [Rat.intCast_add] at g
      have e1 : ((1 : Int) : Rat) = 1 := rfl
      rw [e1] at g
      have := Rat.mul_le_mul_of_nonneg_right (show 49 / 100 ≤ x.rv * c⁻¹ - (m : Rat) by grind) (Rat.le_of_lt cp)
      exact .inl (by grind)
    · have g := cast_le.2 g
      rw [Rat.intCast_add] at g
      have e1 : ((1 : Int) : Rat) = 1 := rfl
      rw [e1] at g
      have := Rat.mul_le_mul_of_nonneg_right (show x.rv * c⁻¹ - (m : Rat) ≤ -(49 / 100) by grind) (Rat.le_of_lt cp)
      exact .inr (by grind)
theorem eig_of_half {w : Int} (w0 : 64 ≤ w) (w1 : w ≤ 65000) {c : Rat} (hc : InV (refH w) c) : InV (eigV w) (c * (1 / 2)) := by
  have h := refPi_iv (w := w) (by omega) (by omega)
  have r1 : (eigV w).lo.rv = (refPi w).lo.rv * (1 / 4) := by rw [← p2_v.2.2.2, (eigV_ends w).1]; exact rv_shift h.p.1
  have r2 : (eigV w).hi.rv = (refPi w).hi.rv * (1 / 4) := by rw [← p2_v.2.2.2, (eigV_ends w).2]; exact rv_shift h.p.2
  have s1 : (refH w).lo.rv = (refPi w).lo.rv * (1 / 2) := by rw [← p2_v.2.2.1, (refH_ends w).1]; exact rv_shift h.p.1
  have s2 : (refH w).hi.rv = (refPi w).hi.rv * (1 / 2) := by rw [← p2_v.2.2.1, (refH_ends w).2]; exact rv_shift h.p.2
  obtain ⟨c1, c2⟩ := hc
  rw [s1] at c1
  rw [s2] at c2
  exact ⟨by rw [r1]; grind, by rw [r2]; grind⟩
theorem soft_ok {x : Dx} (hx : 0 ≤ x.m) {p : Int} (p0 : 8 ≤ p) (p1 : p ≤ 3968) (z : x.m ≠ 0) (t : topD (oneD x) < 1024) (hs : hardB x = false) : okW (oneD x) p 8192 = true := by
  have fy : OneF (oneD x) := oneD_f hx
  have ey : (oneD x).rv = x.rv := rv_one hx
  obtain ⟨t1, t2⟩ := top_lt fy.p t
  rw [ey] at t1 t2
  have hf := halfP_hf (w := 8192) (by decide) (by decide)
  obtain ⟨c, hc, hc', c1, c2⟩ := hf.common (refH_hf (w := 3328) (by decide) (by decide))
  obtain ⟨g1, g2⟩ := half_100 (w := 8192) (by decide) (by decide) hc
  have num0 : (((piN : Int) + 3 : Int) : Rat) * p2 (-100) ≤ 32 / 10 := by decide +kernel
  have he := eig_of_half (by decide) (by decide) hc'
  have far := soft_far hx z hs (A := p2 (1024 : Nat)) (by decide +kernel) (by grind) (by grind) he (by grind)
  obtain ⟨q1, q2⟩ := quoW_close hf fy.p (w := 8192) (by decide) (A := p2 (1024 : Nat)) hc (by rw [ey]; grind) (by rw [ey]; grind)
  obtain ⟨i1, i2⟩ := quoW_in hf fy.p (w := 8192) (by decide) hc
  obtain ⟨n1, n2, _⟩ := nW_near (h := halfP 8192) (x := oneD x) (w := 8192)
  rw [ey] at q1 q2 i1 i2
  have num1 : p2 (1024 : Nat) * (p2 (-3 - 8192) / 2 + eps 8192) ≤ p2 (-2048) / 8 := by decide +kernel
  have num2 : 2 * (p2 (1025 : Nat) * (p2 (-3 - 8192) / 2) + eps 8192 * (p2 (1024 : Nat) + 8 * p2 (1025 : Nat))) ≤ p2 (-6100) := by decide +kernel
  have num3 : p2 (-6100) ≤ p2 (-2049 - p) := p2_le (by omega)
  have num4 : p2 (1025 : Nat) = 2 * p2 (1024 : Nat) := by decide +kernel
  have num5 : 1 ≤ p2 (1024 : Nat) := by decide +kernel
  have q0 := p2_pos (-2048)
  have q8 : p2 (-2048) ≤ 1 / 8 := by decide +kernel
  have cp : 0 < c := by grind
  have ic := Rat.inv_mul_cancel c (by grind)
  obtain ⟨v0, v1⟩ := inv_le1 c1
  generalize hn : nI (halfP 8192) (oneD x) 8192 = n at *
  generalize hη : p2 (1024 : Nat) * (p2 (-3 - 8192) / 2 + eps 8192) = η at *
  have xe : x.rv = x.rv * c⁻¹ * c := by rw [Rat.mul_assoc, ic, Rat.mul_one]
  have f0 := far (2 * n)
  have f1 := far (2 * n + 1)
  have f2 := far (2 * n - 1)
  have e2 : ((2 : Int) : Rat) = 2 := rfl
  have e1 : ((1 : Int) : Rat) = 1 := rfl
  rw [Rat.intCast_mul, e2] at f0
  rw [Rat.intCast_add, Rat.intCast_mul, e2, e1] at f1
  rw [Rat.intCast_sub, Rat.intCast_mul, e2, e1] at f2
  have b0 : x.rv - 2 * (n : Rat) * (c * (1 / 2)) = x.rv - (n : Rat) * c := by grind
  have b1 : x.rv - (2 * (n : Rat) + 1) * (c * (1 / 2)) = (x.rv * c⁻¹ - (n : Rat) - 1 / 2) * c := by
    conv => lhs; rw [xe]
    grind
  have b2 : x.rv - (2 * (n : Rat) - 1) * (c * (1 / 2)) = (x.rv * c⁻¹ - (n : Rat) + 1 / 2) * c := by
    conv => lhs; rw [xe]
    grind
  rw [b0] at f0
  rw [b1] at f1
  rw [b2] at f2
  generalize hQ : x.rv * c⁻¹ = Q at *
  generalize hρ : p2 (-2048) = ρ at *
  have up : Q - (n : Rat) - 1 / 2 ≤ -(ρ / 2) := by
    rcases f1 with f | f
    · exfalso
      have := Rat.mul_le_mul_of_nonneg_right (show Q - (n : Rat) - 1 / 2 ≤ η by grind) (Rat.le_of_lt cp)
      have := Rat.mul_le_mul_of_nonneg_left c2 (show 0 ≤ η by grind)
      grind
    · rw [← Rat.not_lt]; intro hlt
      have := Rat.mul_lt_mul_of_pos_right hlt cp
      have := Rat.mul_le_mul_of_nonneg_left c2 (show 0 ≤ ρ / 2 by grind)
      grind
  have dn : ρ / 2 ≤ Q - (n : Rat) + 1 / 2 := by
    rcases f2 with f | f
    · rw [← Rat.not_lt]; intro hlt
      have := Rat.mul_lt_mul_of_pos_right hlt cp
      have := Rat.mul_le_mul_of_nonneg_left c2 (show 0 ≤ ρ / 2 by grind)
      grind
    · exfalso
      have := Rat.mul_nonneg (show 0 ≤ Q - (n : Rat) + 1 / 2 by grind) (Rat.le_of_lt cp)
      grind
  have bQ : -(p2 (1024 : Nat)) ≤ Q ∧ Q ≤ p2 (1024 : Nat) := by
    rw [← hQ]
    rcases (show 0 ≤ x.rv ∨ x.rv ≤ 0 by grind) with s | s
    · have m1 := Rat.mul_le_mul_of_nonneg_left (show c⁻¹ ≤ 1 by grind) s
      have m0 := Rat.mul_nonneg s (Rat.le_of_lt v0)
      constructor <;> grind
    · have m1 := Rat.mul_le_mul_of_nonneg_left (show c⁻¹ ≤ 1 by grind) (show 0 ≤ -x.rv by grind)
      have m0 := Rat.mul_nonneg (show 0 ≤ -x.rv by grind) (Rat.le_of_lt v0)
      constructor <;> grind
  obtain ⟨s1, s2, s3, s4⟩ := quart_ok hf fy.p (w := 8192) (by decide) (by decide) (A := p2 (1024 : Nat)) (B := p2 (1025 : Nat)) hc (by rw [ey]; grind) (by rw [ey]; grind) (m := n) (a := -2049) (p := p) (by rw [num4]; grind) (by rw [num4]; grind) (by rw [ey, hQ, hη]; grind) (by rw [ey, hQ, hη]; grind) (by decide +kernel) (by decide +kernel) (by
    rw [ey, show (-2049 : Int) + 1 = -2048 by decide, hρ]; exact f0) (by omega) (by grind) (by decide) (by decide)
  exact (okW_of s1 s3 s4).1
theorem hquL_spec {x : Dx} {p : Int} : ∀ (n : Nat) (w : Int), 64 ≤ w → hquL x p n w = (0, zeroIv, 6) ∨ ∃ w', 64 ≤ w' ∧ w' ≤ 16384 ∧ (tryH x p w').2.2 = true ∧ hquL x p n w = ((tryH x p w').1, (tryH x p w').2.1, 0)
  | 0, _, _ => .inl rfl
  | n + 1, w, hw => by
    rw [hquL]
    split
    · split
      · rename_i h1 h2
        exact .inr ⟨w, hw, h1, h2, rfl⟩
      · exact hquL_spec n (2 * w) (by omega)
    · exact .inl rfl
theorem tryH_parts {x : Dx} {p w : Int} (h : (tryH x p w).2.2 = true) : sureW (refH w) x w = true ∧ narrowB (restW (refH w) x w) p = true ∧ tryH x p w = (by4I (nW (refH w) x w), restW (refH w) x w, true) := by
  unfold tryH at h ⊢
  by_cases hs : sureW (refH w) x w = true
  · rw [if_pos hs] at h ⊢
    exact ⟨hs, h, by rw [show narrowB (restW (refH w) x w) p = true from h]⟩
  · rw [if_neg hs] at h; cases h
instance condQ_dec (x : Dx) (p : Int) : Decidable (condQ x p) := inferInstanceAs (Decidable (_ ∧ _ ∧ _))
theorem faultQ_eq {x : Dx} (hx : 0 ≤ x.m) (p : Int) : faultQ x p = if condQ x p then (if (oneD x).m ≠ 0 ∧ 1024 ≤ topD (oneD x) then 3 else 0) else 2 := by
  have e : (oneD x).m = 0 ↔ x.m = 0 := mkD_m_zero hx
  unfold faultQ
  by_cases c : condQ x p
  · rw [if_pos c, if_pos (show x.fitsB = true ∧ 8 ≤ p ∧ p ≤ 3968 from c)]
    by_cases h : x.m ≠ 0 ∧ 1024 ≤ topD (oneD x)
    · rw [if_pos h, if_pos ⟨fun k => h.1 (e.1 k), h.2⟩]
    · rw [if_neg h, if_neg fun k => h ⟨fun j => k.1 (e.2 j), k.2⟩]
  · rw [if_neg c, if_neg (show ¬ (x.fitsB = true ∧ 8 ≤ p ∧ p ≤ 3968) from c)]
theorem sameV_refl2 (v : Vx) : sameV v v = true := by rw [sameV, sameD_refl2, sameD_refl2]; rfl
/-- All that ReduceQuarter asks. -/
inductive QL (x : Dx) (p : Int) : Prop where
  | same (c : Int) (h1 : quarR x p = (0, zeroIv, c)) (h2 : hquR x p = (0, zeroIv, c)) (hc : c ≠ 0 ∧ c ≠ 6)
  | zero (h1 : quarR x p = (0, zeroIv, 0)) (h2 : hquR x p = (0, zeroIv, 0)) (p0 : 0 ≤ p)
  | hard (h1 : quarR x p = (0, zeroIv, 6)) (h2 : (hquR x p).2.2 = 0 ∨ (hquR x p).2.2 = 6) (hh : hardB x = true) (hi : inX x) (hq : (hquR x p).2.1.Sm 34359738368)
  | ok (k : Int) (r : Vx) (h1 : quarR x p = (k, r, 0)) (k0 : 0 ≤ k) (k1 : k < 4) (hn : narrowB r p = true) (hr : rightV r = true) (hs : sameV r (canonV r) = true) (h2 : (hquR x p).2.2 = 6 ∨ (hquR x p).2.2 = 0 ∧ (hquR x p).1 = k ∧ r.lo.rv ≤ (hquR x p).2.1.hi.rv ∧ (hquR x p).2.1.lo.rv ≤ r.hi.rv) (hq : (hquR x p).2.1.Sm 34359738368)
theorem ql (x : Dx) (hx : 0 ≤ x.m) (p : Int) : QL x p := by
  have fy : OneF (oneD x) := oneD_f hx
  have ey : (oneD x).rv = x.rv := rv_one hx
  have em : (oneD x).m = 0 ↔ x.m = 0 := mkD_m_zero hx
  have fq := faultQ_eq hx p
  have zsm : zeroIv.Sm 34359738368 := (right_sm (v := zeroIv) (by rw [right_K]; decide +kernel)).mono (by decide)
  have hqc : ∀ (c : condQ x p) (z : (oneD x).m ≠ 0) (t : topD (oneD x) < 1024), hquR x p = (0, zeroIv, 6) ∨ ∃ w, 64 ≤ w ∧ w ≤ 16384 ∧ (tryH x p w).2.2 = true ∧ hquR x p = ((tryH x p w).1, (tryH x p w).2.1, 0) := fun c z t => by
    rw [if_pos c, if_neg (by omega)] at fq
    have := c.2.1
    rw [hquR, if_neg (by rintro (k | k); exact k fq; exact z (em.2 k))]
    exact hquL_spec 9 _ (by omega)
  have smq : ∀ (c : condQ x p) (t : topD (oneD x) < 1024) (w : Int), 64 ≤ w → w ≤ 16384 → (restW (refH w) x w).Sm 34359738368 := fun c t w w0 w1 => by
    have cb := refPi_bd w0 (show w ≤ 65536 by omega)
    have hb : (refH w).Bd (w + 65) 8 := Vx.Bd.mono (cb.scale1 (refPi_iv (w := w) (by omega) (by omega)).p) (by omega) (by omega)
    exact (half_sizes (refH_hf (w := w) (by omega) (by omega)) (by omega) (by omega) hb hx (inX_of hx c.1 t)).2.2.2.2.2.sm (by omega)
  rcases quar_cases x p with ⟨c, q⟩ | ⟨c, z, q⟩ | ⟨c, z, t, q⟩ | ⟨c, z, t, q⟩ | ⟨c, z, t, w, q⟩
  · rw [if_neg c] at fq
    exact .same 2 q (by rw [hquR, if_pos (.inl (by rw [fq]; decide)), fq]) (by decide)
  · rw [if_pos c, if_neg fun k => k.1 z] at fq
    exact .zero q (by rw [hquR, if_pos (.inr (em.1 z)), fq]) (by have := c.2.1; omega)
  · rw [if_pos c, if_pos ⟨z, t⟩] at fq
    exact .same 3 q (by rw [hquR, if_pos (.inl (by rw [fq]; decide)), fq]) (by decide)
  · refine .hard q ?_ ?_ (inX_of hx c.1 t) ?_
    · rcases hqc c z t with h | ⟨w, _, _, _, h⟩ <;> rw [h]
      · exact .inr rfl
      · exact .inl rfl
    · cases hh : hardB x with
      | true => rfl
      | false =>
        have ok := soft_ok hx c.2.1 c.2.2 (fun k => z (em.2 k)) t hh
        obtain ⟨w, qe⟩ := quar_dec c z t ok
        have := qe.eq
        rw [q] at this
        have := congrArg (fun r => r.2.2) this
        cases this
    · rcases hqc c z t with h | ⟨w, w0, w1, k, h⟩
      · rw [h]; exact zsm
      · rw [h, (tryH_parts k).2.2]; exact smq c t w w0 w1
  · have rF : OneF (restW (halfP w) (oneD x) w).lo ∧ OneF (restW (halfP w) (oneD x) w).hi := ⟨cutD_f plusD_p, cutD_f plusD_p⟩
    have hs : sameV (restW (halfP w) (oneD x) w) (canonV (restW (halfP w) (oneD x) w)) = true := by
      have : canonV (restW (halfP w) (oneD x) w) = restW (halfP w) (oneD x) w := by
        show (⟨oneD _, oneD _⟩ : Vx) = _
        rw [oneD_id rF.1, oneD_id rF.2]
      rw [this, sameV_refl2]
    have nb : narrowB (restW (halfP w) (oneD x) w) p = true := by
      have := c.2.1
      rw [narrowB, q.right, q.nar, show leI 0 p = true from leI_true.2 (by omega)]; rfl
    have b4 : 0 ≤ nI (halfP w) (oneD x) w % 4 ∧ nI (halfP w) (oneD x) w % 4 < 4 := by omega
    refine .ok _ _ q.eq b4.1 b4.2 nb q.right hs ?_ ?_
    · rcases hqc c z t with h | ⟨w', w0, w1, k, h⟩
      · rw [h]; exact .inl rfl
      · obtain ⟨k1, k2, k3⟩ := tryH_parts k
        have hf := halfP_hf q.w0 (show w ≤ 65000 by have := q.w1; omega)
        have hf' := refH_hf (w := w') (by omega) (by omega)
        obtain ⟨cc, dc, dc', _, _⟩ := hf.common hf'
        have w1' : 1 ≤ w := by have := q.w0; omega
        have n1 := sure_near hf fy.p w1' q.sure dc
        have n2 := sure_near hf' hx (show 1 ≤ w' by omega) k1 dc'
        rw [ey] at n1
        have en := n1.uniq n2
        have r1 := rest_in hf fy.p w1' dc
        have r2 := rest_in hf' hx (show 1 ≤ w' by omega) dc'
        rw [ey, en] at r1
        rw [h, k3]
        refine .inr ⟨rfl, ?_, ?_, ?_⟩
        · show nI (refH w') x w' % 4 = nI (halfP w) (oneD x) w % 4
          rw [en]
        · have := r1.1; have := r2.2; grind
        · have := r1.2; have := r2.1; grind
    · rcases hqc c z t with h | ⟨w', w0, w1, k, h⟩
      · rw [h]; exact zsm
      · rw [h, (tryH_parts k).2.2]; exact smq c t w' w0 w1
theorem hHard_vc (x : Dx) (fp : Int → Vx) (pr : Int → Prop) (Q : Tv → Prop) : execF ⟨tys2, sQh2 fp pr⟩ (fun _ => none) 0 Tryz.f16 [.agg (dyL false x)] Q = (br (Dx.zeroB x) (Q (bT false)) (pr (3328 : Int) ∧ (eB (2305843009213693952 : Int) (fp (3328 : Int)).lo ∧ eB (2305843009213693952 : Int) (fp (3328 : Int)).hi ∧ (-2305843009213693952 : Int) ≤ (-2 : Int) ∧ (-2 : Int) ≤ (2305843009213693952 : Int)) ∧ eB (4611686018427387904 : Int) x ∧ (Vx.Sm (16777216 : Nat) (pointV x) ∧ Vx.Sm (16777216 : Nat) (scaleV (fp (3328 : Int)) (-2 : Int)) ∧ Dx.m (scaleV (fp (3328 : Int)) (-2 : Int)).lo ≠ (0 : Int) ∧ Dx.m (scaleV (fp (3328 : Int)) (-2 : Int)).hi ≠ (0 : Int) ∧ (1 : Int) ≤ (3328 : Int) ∧ (3328 : Int) ≤ (16777216 : Int)) ∧ Dx.Sm (268435456 : Nat) (divV (pointV x) (scaleV (fp (3328 : Int)) (-2 : Int)) (3328 : Int)).lo ∧ true = true ∧ eB (4611686018427387904 : Int) x ∧ eB (4611686018427387904 : Int) (nearD (divV (pointV x) (scaleV (fp (3328 : Int)) (-2 : Int)) (3328 : Int)).lo) ∧ inR ((3328 : Int) + (64 : Int)) ∧ (Vx.Sm (268435456 : Nat) (pointV (nearD (divV (pointV x) (scaleV (fp (3328 : Int)) (-2 : Int)) (3328 : Int)).lo)) ∧ Vx.Sm (268435456 : Nat) (scaleV (fp (3328 : Int)) (-2 : Int)) ∧ (0 : Int) ≤ (3328 : Int) + (64 : Int) ∧ (3328 : Int) + (64 : Int) ≤ (1099511627776 : Int)) ∧ (Vx.Sm (134217728 : Nat) (pointV x) ∧ Vx.Sm (134217728 : Nat) (timesV (pointV (nearD (divV (pointV x) (scaleV (fp (3328 : Int)) (-2 : Int)) (3328 : Int)).lo)) (scaleV (fp (3328 : Int)) (-2 : Int)) ((3328 : Int) + (64 : Int))) ∧ (0 : Int) ≤ (3328 : Int) ∧ (3328 : Int) ≤ (1099511627776 : Int)) ∧ true = true ∧ Word (1 : Int) ∧ (Dx.Sm (34359738368 : Nat) (lessV (pointV x) (timesV (pointV (nearD (divV (pointV x) (scaleV (fp (3328 : Int)) (-2 : Int)) (3328 : Int)).lo)) (scaleV (fp (3328 : Int)) (-2 : Int)) ((3328 : Int) + (64 : Int))) (3328 : Int)).lo ∧ Dx.Sm (34359738368 : Nat) (Dx.mk false (ws (1 : Int)) (-2048 : Int))) ∧ br (ltI (cmpD (lessV (pointV x) (timesV (pointV (nearD (divV (pointV x) (scaleV (fp (3328 : Int)) (-2 : Int)) (3328 : Int)).lo)) (scaleV (fp (3328 : Int)) (-2 : Int)) ((3328 : Int) + (64 : Int))) (3328 : Int)).lo (Dx.mk false (ws (1 : Int)) (-2048 : Int))) (0 : Int)) (eB (4611686018427387904 : Int) (Dx.mk false (ws (1 : Int)) (-2048 : Int)) ∧ (Dx.Sm (34359738368 : Nat) (negD (Dx.mk false (ws (1 : Int)) (-2048 : Int))) ∧ Dx.Sm (34359738368 : Nat) (lessV (pointV x) (timesV (pointV (nearD (divV (pointV x) (scaleV (fp (3328 : Int)) (-2 : Int)) (3328 : Int)).lo)) (scaleV (fp (3328 : Int)) (-2 : Int)) ((3328 : Int) + (64 : Int))) (3328 : Int)).hi) ∧ true = true ∧ Q (bT (ltI (cmpD (negD (Dx.mk false (ws (1 : Int)) (-2048 : Int))) (lessV (pointV x) (timesV (pointV (nearD (divV (pointV x) (scaleV (fp (3328 : Int)) (-2 : Int)) (3328 : Int)).lo)) (scaleV (fp (3328 : Int)) (-2 : Int)) ((3328 : Int) + (64 : Int))) (3328 : Int)).hi) (0 : Int)))) (true = true ∧ Q (bT false)))) := by kernel_rfl
theorem lQu_vc (x : Dx) (p : Int) (qf hq : Dx → Int → Int × Vx × Int) (hb fb : Dx → Bool) (eb : Vx → Vx → Int → Bool) (ix : Dx → Prop) (Q : Tv → Prop) : execF ⟨tys6, [(12, wBg), (10, fCopy), (11, specK [.d, .i .i64] fun (x : Dx) (p : Int) => (none, quT (qf x p))), (14, specK [.d, .i .i64] fun (x : Dx) (p : Int) => (none, quT (hq x p))), (16, specK [.d] fun (x : Dx) => (some (ix x), bT (hb x))), (17, specK [.d] fun (d : Dx) => (some (d.Sm 131072), bT (fb d))), (19, specK [.v, .v, .i .i64] fun (v : Vx) (u : Vx) (p : Int) => (some (u.Sm 34359738368), bT (eb v u p)))] ++ sQh1⟩ (fun _ => none) 0 Tryz.f3 [.agg (dyL false x), .one (.int .i64 p)] Q = (br (!sameD x x) (Q (bT false)) (br (eqI (qf x p).snd.snd (6 : Int)) (br (eqI (qf x p).fst (0 : Int)) (br (sameV (qf x p).snd.fst (Vx.mk (Dx.mk false [] (0 : Int)) (Dx.mk false [] (0 : Int)))) (br (eqI (hq x p).snd.snd (0 : Int)) (ix x ∧ Q (bT (hb x))) (br (eqI (hq x p).snd.snd (6 : Int)) (ix x ∧ Q (bT (hb x))) (Q (bT false)))) (Q (bT false))) (Q (bT false))) (br (eqI (qf x p).snd.snd (3 : Int)) (br (eqI (hq x p).snd.snd (0 : Int)) (Dx.Sm (131072 : Nat) x ∧ br (fb x) (br (eqI (qf x p).fst (0 : Int)) (Q (bT (sameV (qf x p).snd.fst (Vx.mk (Dx.mk false [] (0 : Int)) (Dx.mk false [] (0 : Int)))))) (Q (bT false))) (br (eqI (hq x p).snd.snd (6 : Int)) (br (eqI (qf x p).snd.snd (0 : Int)) (br (leI (0 : Int) (qf x p).fst) (br (ltI (qf x p).fst (4 : Int)) (Q (bT (narrowB (qf x p).snd.fst p))) (Q (bT false))) (Q (bT false))) (Q (bT false))) (br (neI (qf x p).snd.snd (hq x p).snd.snd) (Q (bT false)) (br (neI (qf x p).fst (hq x p).fst) (Q (bT false)) (br (neI (qf x p).snd.snd (0 : Int)) (Q (bT (sameV (qf x p).snd.fst (Vx.mk (Dx.mk false [] (0 : Int)) (Dx.mk false [] (0 : Int)))))) (Vx.Sm (34359738368 : Nat) (hq x p).snd.fst ∧ Q (bT (eb (qf x p).snd.fst (hq x p).snd.fst p)))))))) (br (eqI (hq x p).snd.snd (6 : Int)) (br (eqI (qf x p).snd.snd (0 : Int)) (br (leI (0 : Int) (qf x p).fst) (br (ltI (qf x p).fst (4 : Int)) (Q (bT (narrowB (qf x p).snd.fst p))) (Q (bT false))) (Q (bT false))) (Q (bT false))) (br (neI (qf x p).snd.snd (hq x p).snd.snd) (Q (bT false)) (br (neI (qf x p).fst (hq x p).fst) (Q (bT false)) (br (neI (qf x p).snd.snd (0 : Int)) (Q (bT (sameV (qf x p).snd.fst (Vx.mk (Dx.mk false [] (0 : Int)) (Dx.mk false [] (0 : Int)))))) (Vx.Sm (34359738368 : Nat) (hq x p).snd.fst ∧ Q (bT (eb (qf x p).snd.fst (hq x p).snd.fst p)))))))) (br (eqI (hq x p).snd.snd (6 : Int)) (br (eqI (qf x p).snd.snd (0 : Int)) (br (leI (0 : Int) (qf x p).fst) (br (ltI (qf x p).fst (4 : Int)) (Q (bT (narrowB (qf x p).snd.fst p))) (Q (bT false))) (Q (bT false))) (Q (bT false))) (br (neI (qf x p).snd.snd (hq x p).snd.snd) (Q (bT false)) (br (neI (qf x p).fst (hq x p).fst) (Q (bT false)) (br (neI (qf x p).snd.snd (0 : Int)) (Q (bT (sameV (qf x p).snd.fst (Vx.mk (Dx.mk false [] (0 : Int)) (Dx.mk false [] (0 : Int)))))) (Vx.Sm (34359738368 : Nat) (hq x p).snd.fst ∧ Q (bT (eb (qf x p).snd.fst (hq x p).snd.fst p)))))))))) := by kernel_rfl
end Go.Proofs.YtdnbckfhfhfkoaaGreatDoor

namespace Go.Proofs.YtdnbckfhfhfkoaaGreatDoor
open Go.RowKit
theorem eig_nsm {d : Rat} {h : Vx} (k : EiIv d h) {x : Dx} (hx : 0 ≤ x.m) {w : Int} (hw : 1 ≤ w) (hd : 2 * d + 2 * eps w ≤ 1) (h1 : x.rv < p2 (1024 : Nat)) (h2 : -(p2 (1024 : Nat)) < x.rv) : (nW h x w).Sm 1026 := by
  obtain ⟨b1, b2⟩ := eig_close k hx hw (A := p2 (1024 : Nat)) (c := h.lo.rv) ⟨Rat.le_refl, k.le⟩ (by grind) (by grind)
  obtain ⟨n1, n2, _⟩ := nW_near (h := h) (x := x) (w := w)
  have en : (nW h x w).rv = (nI h x w : Rat) := (wholeS_rv nearD_e).symm
  rw [← en] at n1 n2
  have f : OneF (nW h x w) := nearD_f
  refine whole_sm f nearD_e ?_
  have q1 : p2 ((1026 : Nat) : Int) = 4 * p2 (1024 : Nat) := by decide +kernel
  have q0 : 1 ≤ p2 (1024 : Nat) := by decide +kernel
  obtain ⟨v0, v1⟩ := inv_le4 k.lo
  rw [q1]
  generalize p2 (1024 : Nat) = A at *
  generalize h.lo.rv⁻¹ = c at *
  have m3 := Rat.mul_le_mul_of_nonneg_left hd (show 0 ≤ A by grind)
  have m : -(4 / 3 * A) ≤ x.rv * c ∧ x.rv * c ≤ 4 / 3 * A := by
    rcases (show 0 ≤ x.rv ∨ x.rv ≤ 0 by grind) with s | s
    · have m1 := Rat.mul_le_mul_of_nonneg_left v1 s
      have m0 := Rat.mul_nonneg s (Rat.le_of_lt v0)
      constructor <;> grind
    · have m1 := Rat.mul_le_mul_of_nonneg_left v1 (show 0 ≤ -x.rv by grind)
      have m0 := Rat.mul_nonneg (show 0 ≤ -x.rv by grind) (Rat.le_of_lt v0)
      constructor <;> grind
  obtain ⟨r1, r2⟩ := rv_amt f.p
  rcases (show 0 ≤ (nW h x w).rv ∨ (nW h x w).rv ≤ 0 by grind) with s | s
  · rw [← r1 s]; grind
  · rw [← r2 s]; grind
theorem eig_sizes {w : Int} (w0 : 64 ≤ w) (w1 : w ≤ 16384) (hd : 2 * (p2 (23 - w) / 4) + 2 * eps w ≤ 1) {x : Dx} (hx : 0 ≤ x.m) (hi : inX x) :
    (refPi w).Sm 131072 ∧ (pointV x).Bd 32768 98304 ∧ (eigV w).Sm 131072 ∧ (quoW (eigV w) x w).Sm 26214500 ∧ (nW (eigV w) x w).Bd 0 2052 ∧ (timesV (pointV (nW (eigV w) x w)) (eigV w) (w + 64)).Bd (w + 66) 2061 ∧ (restW (eigV w) x w).Bd 65602 98306 := by
  obtain ⟨bx, x1, x2⟩ := hi
  have k := eigV_iv (w := w) w0 (by omega)
  have rp := (refPi_iv (w := w) (by omega) (by omega)).p
  have cb := refPi_bd w0 (show w ≤ 65536 by omega)
  have hb : (eigV w).Bd (w + 66) 8 := ⟨cb.1.shift rp.1 (by omega) (by omega) (by omega) (by omega), cb.2.shift rp.2 (by omega) (by omega) (by omega) (by omega)⟩
  have sx := bx.sm (N := 131072) (by omega)
  have hs := hb.sm (N := 131072) (by omega)
  have q := quoW_sm (w := w) hx k.p sx (hs.mono (by omega)) (by omega) (by omega)
  have sn := eig_nsm k hx (w := w) (by omega) hd x1 x2
  have np : 0 ≤ (nW (eigV w) x w).m := nearD_p
  have bn : (nW (eigV w) x w).Bd 0 2052 := ⟨by omega, by omega, nearD_e, by have := sn.1; have := sn.2.2; omega⟩
  have z1 := bx.point hx
  have zn := bn.point np
  have zt : (timesV (pointV (nW (eigV w) x w)) (eigV w) (w + 64)).Bd (0 + (w + 66)) (2052 + 8 + 1) := zn.times (pointV_p _) k.p (by omega) hb
  have zr : (restW (eigV w) x w).Bd 65602 98306 := (z1.mono (L' := 65602) (T' := 98304) (by omega) (by omega)).less (pointV_p x) (trimV_p _ _) (by omega) (zt.mono (by omega) (by omega))
  exact ⟨cb.sm (by omega), z1, hs, ⟨q.1.mono (by omega), q.2.mono (by omega)⟩, bn, zt.mono (by omega) (by omega), zr⟩
theorem lst_sm : lstD.Sm 4096 := ⟨by show blen lstD.m ≤ _; rw [show lstD.m = 1 from val_ws_one]; decide, by show -(4096 : Int) ≤ -2048; omega, by show (-2048 : Int) ≤ 4096; omega⟩
def hHard : Spec := specK [.d] fun (x : Dx) => (some (inX x), bT (hardB x))
theorem hHard_ok : SpecOk Tryz.prog 16 hHard :=
  specK_ok (envOk tys2_ok sQh2_ok) mixed Tryz.func16 rfl (by decide) (by decide) fun (x : Dx) hxw hp => ⟨fun _ => none, 0, by
    have hi : inX x := hp
    have hx := Dx.Wf.m0 hxw
    show execF _ _ _ _ _ (fun t => t = bT (hardB x))
    refine (hHard_vc x refPi (fun w => 32 ≤ w ∧ w ≤ 65536) _).mpr ?_
    have k := eigH_iv
    obtain ⟨cs, z1, hs, q, bn, zt, zr⟩ := eig_sizes (w := 3328) (by decide) (by decide) (by decide +kernel) hx hi
    have sx := hi.1.sm (N := 131072) (by omega)
    have zn := bn.point (d := nW (eigV 3328) x 3328) nearD_p
    have n1 := bn.lo
    have n2 := bn.hi
    have e0 : eigV 3328 = eigH := rfl
    rw [e0] at hs q bn zt zr zn n1 n2
    have e1 : scaleV (refPi 3328) (-2) = eigH := rfl
    have e2 : divV (pointV x) eigH 3328 = quoW eigH x 3328 := rfl
    have e3 : nearD (quoW eigH x 3328).lo = nW eigH x 3328 := rfl
    have e4 : lessV (pointV x) (timesV (pointV (nW eigH x 3328)) eigH (3328 + 64)) 3328 = restW eigH x 3328 := rfl
    have e5 : (⟨false, ws 1, -2048⟩ : Dx) = lstD := rfl
    rw [e1, e2, e3, e4, e5]
    have r1 : Dx.rv eigH.lo ≠ 0 := by have := k.lo; grind
    have r2 : Dx.rv eigH.hi ≠ 0 := by have := k.lo; have := k.le; grind
    have nl := (negD_sm lst_sm lst_p).mono (show 4096 + 4096 ≤ 34359738368 by omega)
    have ls := lst_sm
    have rl := zr.1.sm (N := 34359738368) (by omega)
    have rh := zr.2.sm (N := 34359738368) (by omega)
    have ts := zt.sm (N := 134217728) (by omega)
    have ns := zn.sm (N := 268435456) (by omega)
    have xs := z1.sm (N := 134217728) (by omega)
    have xs' := z1.sm (N := 16777216) (by omega)
    have ne1 := rv_ne r1
    have ne2 := rv_ne r2
    have hd : hardB x = (!x.zeroB && (ltI (cmpD (restW eigH x 3328).lo lstD) 0 && ltI (cmpD (negD lstD) (restW eigH x 3328).hi) 0)) := rfl
    rw [hd]
    have nE : eB 4611686018427387904 (nW eigH x 3328) := ⟨by omega, by omega⟩
    generalize restW eigH x 3328 = R at *
    generalize timesV (pointV (nW eigH x 3328)) eigH (3328 + 64) = T at *
    generalize nW eigH x 3328 = N at *
    generalize quoW eigH x 3328 = U at *
    generalize eigH = H at *
    generalize refPi 3328 = F at *
    refine br_intro (fun h => ?_) fun h => ⟨⟨by omega, by omega⟩, ⟨cs.1.eB (by omega), cs.2.eB (by omega), by omega, by omega⟩, sx.eB (by omega), ⟨xs', ⟨hs.1.mono (by omega), hs.2.mono (by omega)⟩, ne1, ne2, by omega, by omega⟩, q.1.mono (by omega), rfl, sx.eB (by omega), nE, ⟨by omega, by omega⟩, ⟨ns, ⟨hs.1.mono (by omega), hs.2.mono (by omega)⟩, by omega, by omega⟩, ⟨xs, ts, by omega, by omega⟩, rfl, ⟨by omega, by omega⟩, ⟨rl, ls.mono (by omega)⟩, br_intro (fun h1 => ⟨ls.eB (by omega), ⟨nl, rh⟩, rfl, ?_⟩) fun h1 => ⟨rfl, ?_⟩⟩
    · rw [h]; rfl
    · rw [h, h1]; rfl
    · rw [h, h1]; rfl⟩
theorem encl_zero {p : Int} (p0 : 0 ≤ p) : enclB zeroIv zeroIv p = true := by
  have r : rightV zeroIv = true := by rw [right_K]; decide +kernel
  have n : narrowV zeroIv p = true := by unfold narrowV; rw [if_neg (by decide), if_pos (by decide)]
  have c : sameV zeroIv (canonV zeroIv) = true := by decide +kernel
  rw [enclB, r, c, narrowB, r, n, show leI 0 p = true from leI_true.2 p0, show leI (cmpD zeroIv.lo zeroIv.hi) 0 = true from leI_true.2 (cmpD_le.2 Rat.le_refl)]; rfl
def lQu : Spec := specK [.d, .i .i64] fun (_ : Dx) (_ : Int) => (none, bT true)
theorem sQu2_ok : SpecsOk Tryz.prog ([(12, wBg), (10, fCopy), (11, specK [.d, .i .i64] fun (x : Dx) (p : Int) => (none, quT (quarR x p))), (14, specK [.d, .i .i64] fun (x : Dx) (p : Int) => (none, quT (hquR x p))), (16, specK [.d] fun (x : Dx) => (some (inX x), bT (hardB x))), (17, specK [.d] fun (d : Dx) => (some (d.Sm 131072), bT (farB d))), (19, specK [.v, .v, .i .i64] fun (v : Vx) (u : Vx) (p : Int) => (some (u.Sm 34359738368), bT (enclB v u p)))] ++ sQh1) := ⟨lBg_ok, fCopy_ok, qQu_ok, hQu_ok, hHard_ok, hFar_ok, hEncl_ok, sQh1_ok⟩
theorem lQu_ok : SpecOk Tryz.prog 3 lQu :=
  specK_ok (envOk tys6_ok sQu2_ok) mixed Tryz.func3 rfl (by decide) (by decide) fun (x : Dx) hxw (p : Int) _ _ => ⟨fun _ => none, 0, by
    have hx := Dx.Wf.m0 hxw
    show execF _ _ _ _ _ (fun t => t = bT true)
    refine (lQu_vc x p quarR hquR hardB farB enclB inX _).mpr (br_intro (fun h => by rw [sameD_refl2] at h; cases h) fun _ => ?_)
    have ez : (⟨⟨false, [], 0⟩, ⟨false, [], 0⟩⟩ : Vx) = zeroIv := rfl
    rw [ez]
    have zsm : zeroIv.Sm 34359738368 := (right_sm (v := zeroIv) (by rw [right_K]; decide +kernel)).mono (by decide)
    have l := ql x hx p
    have T : br (eqI (hquR x p).2.2 6) (br (eqI (quarR x p).2.2 0) (br (leI 0 (quarR x p).1) (br (ltI (quarR x p).1 4) (bT (narrowB (quarR x p).2.1 p) = bT true) (bT false = bT true)) (bT false = bT true)) (bT false = bT true)) (br (neI (quarR x p).2.2 (hquR x p).2.2) (bT false = bT true) (br (neI (quarR x p).1 (hquR x p).1) (bT false = bT true) (br (neI (quarR x p).2.2 0) (bT (sameV (quarR x p).2.1 zeroIv) = bT true) (Vx.Sm 34359738368 (hquR x p).2.1 ∧ bT (enclB (quarR x p).2.1 (hquR x p).2.1 p) = bT true)))) ∨ (quarR x p).2.2 = 6 := by
      cases l with
      | same c h1 h2 hc =>
        rw [h1, h2]
        exact .inl (br_intro (fun h => absurd (eqI_true.1 h) hc.2) fun _ => br_intro (fun h => absurd rfl (neI_true.1 h)) fun _ => br_intro (fun h => absurd rfl (neI_true.1 h)) fun _ => br_intro (fun _ => congrArg bT (sameV_refl2 _)) fun h => absurd (neI_false.1 h) hc.1)
      | zero h1 h2 p0 =>
        rw [h1, h2]
        exact .inl (br_intro (fun h => by cases h) fun _ => br_intro (fun h => by cases h) fun _ => br_intro (fun h => by cases h) fun _ => br_intro (fun h => by cases h) fun _ => ⟨zsm, congrArg bT (encl_zero p0)⟩)
      | hard h1 => exact .inr (by rw [h1])
      | ok k r h1 k0 k1 hn hr hs h2 hq =>
        rw [h1]
        refine .inl (br_intro (fun _ => br_intro (fun _ => br_intro (fun _ => br_intro (fun _ => congrArg bT hn) fun h => ?_) fun h => ?_) fun h => by cases h) fun h => ?_)
        · have := ltI_false.1 h; dsimp only at this; omega
        · have := leI_false.1 h; dsimp only at this; omega
        · rcases h2 with h2 | ⟨a, b, c, d⟩
          · exact absurd h2 (eqI_false.1 h)
          · refine br_intro (fun h => absurd a.symm (neI_true.1 h)) fun _ => br_intro (fun h => absurd b.symm (neI_true.1 h)) fun _ => br_intro (fun h => by cases h) fun _ => ⟨hq, congrArg bT ?_⟩
            show enclB r _ p = true
            rw [enclB, hr, hs, hn, leI_true.2 (cmpD_le.2 c), leI_true.2 (cmpD_le.2 d)]; rfl
    refine br_intro (fun h6 => ?_) fun h6 => br_intro (fun h3 => br_intro (fun h0 => ?_) fun _ => ?_) fun _ => ?_
    · have h6 := eqI_true.1 h6
      cases l with
      | same c h1 h2 hc => rw [h1] at h6; exact absurd h6 hc.2
      | zero h1 => rw [h1] at h6; cases h6
      | ok k r h1 => rw [h1] at h6; cases h6
      | hard h1 h2 hh hi hq =>
        rw [h1]
        refine br_intro (fun _ => br_intro (fun _ => br_intro (fun _ => ⟨hi, congrArg bT hh⟩) fun a => br_intro (fun _ => ⟨hi, congrArg bT hh⟩) fun b => ?_) fun h => ?_) fun h => by cases h
        · rcases h2 with h2 | h2
          · exact absurd h2 (eqI_false.1 a)
          · exact absurd h2 (eqI_false.1 b)
        · rw [show sameV (0, zeroIv, (6 : Int)).2.1 zeroIv = true from sameV_refl2 zeroIv] at h; cases h
    · have h3 := eqI_true.1 h3
      have h0 := eqI_true.1 h0
      cases l with
      | same c h1 h2 hc => rw [h2] at h0; exact absurd h0 hc.1
      | zero h1 => rw [h1] at h3; cases h3
      | ok k r h1 => rw [h1] at h3; cases h3
      | hard h1 => rw [h1] at h3; cases h3
    · exact T.resolve_right fun h => absurd h (eqI_false.1 h6)
    · exact T.resolve_right fun h => absurd h (eqI_false.1 h6)⟩
end Go.Proofs.YtdnbckfhfhfkoaaGreatDoor

/-
SincoreOwn holds at every input: the row and its card, out of the word that the function's run was shown to keep. Conditions: the row's own (the listed table of math/bits as the text lays it).
-/
import Derived.Test.YtbmolijeikedcaaGreatDoorMg3
import Derived.Test.YtbmolijeikedcaaGreatDoorRows
import Derived.Test.YtbmolijeikedcaaGreatDoorTie
import Derived.Test.YtbmolijeikedcaaGreatDoorCards
import Derived.SevenTiedAt
namespace Go.Proofs.YtbmolijeikedcaaGreatDoor
open Go.RowKit Go.ChangeShapes Go.WideShapes
set_option maxRecDepth 100000
theorem own : ownKnob Tryz.prog.godebug = none := by kernel_rfl
theorem laidOut' : laidOutB Tryz.prog = true := by kernel_rfl
theorem laid_tab {W : World} (h : laidMetH Tryz.prog [("math/bits.deBruijn64tab", Rows.laid_math_bits_deBruijn64tab)] W) : Tab W :=
  tab_of (fun ys e j hj => by
    have e' : ys.map (·.1) = Lib.deBruijn64tab.map fun (n : Nat) => DataW.lit (.int .u8 (n : Int)) := by
      have : Rows.laid_math_bits_deBruijn64tab (H := Unit) = .agg (Lib.deBruijn64tab.map fun (n : Nat) => DataW.lit (.int .u8 (n : Int))) := by kernel_rfl
      rw [this] at e; exact (DataW.agg.inj e).symm
    have hl : ys.length = 64 := by have := congrArg List.length e'; simpa [Lib.deBruijn64tab] using this
    refine ⟨ys[j]'(by omega), List.getElem?_eq_getElem (by omega), ?_⟩
    have h1 : (ys.map (·.1))[j]? = some (ys[j]'(by omega)).1 := by rw [List.getElem?_map, List.getElem?_eq_getElem (by omega)]; rfl
    rw [e', List.getElem?_map] at h1
    cases h2 : Lib.deBruijn64tab[j]? with
    | none => rw [h2] at h1; cases h1
    | some n =>
      rw [h2] at h1
      rw [List.getD_eq_getElem?_getD, h2]
      exact (Option.some.inj h1).symm) (by kernel_rfl) h
theorem door_met (os : Os) (args : Array Value) : laidMetH Tryz.prog [("math/bits.deBruijn64tab", Rows.laid_math_bits_deBruijn64tab)] ((World.doorLaid Tryz.prog 400 os).forCall (fun _ _ => 0) ⟨#[], args, []⟩).memory :=
  laidMetH_of_parts3 (fuel := 8) (laidMet_of_run' 8 (by kernel_rfl) (by kernel_rfl)) (by kernel_rfl) (by kernel_rfl)
theorem sincoreOwn_lifted (os : Os) (started : os.Started) (H : Type) (enc : TypeId × Value → H) :
    ReturnsInHanded {} Tryz.checked os 3 .any (fun w args => (Rows.sincoreOwnSpec.pre enc Tryz.prog Tryz.f3 [] false w args ∧ laidMetH Tryz.prog [("math/bits.deBruijn64tab", Rows.laid_math_bits_deBruijn64tab)] w) ∧ sizedMet enc Tryz.prog Tryz.f3 (OpenSpec.ofChange Rows.sincoreOwnSpec) false w args)
      (Rows.sincoreOwnSpec.post enc Tryz.prog Tryz.f3 false true false false) := by
  refine returnsInHanded_of_change_and (C := Tryz.checked) (X := fun w _ => laidMetH Tryz.prog [("math/bits.deBruijn64tab", Rows.laid_math_bits_deBruijn64tab)] w) (fun _ _ _ hh h => h.of_heap hh) own started (by kernel_rfl) Tryz.func3
    (ChangeSpec.witness_shaped (enc := enc) (C := Tryz.checked) (os := os) (X := fun w _ => laidMetH Tryz.prog [("math/bits.deBruijn64tab", Rows.laid_math_bits_deBruijn64tab)] w) false (World.doorLaid Tryz.prog 400 os) #[.agg #[.bool false, .slice none 0 0, .int .i64 0], .int .i64 0] 8 rfl (World.shaped_of_RefB (by kernel_rfl) (by kernel_rfl)) (by kernel_rfl) (by kernel_rfl) (by kernel_rfl) (door_met os _)) ?_
  intro W base args ds gs before hval hW _ hw hL _
  refine law_contract lOw13_ok (by simp [AllTrue]) laidOut' (by kernel_rfl) rfl rfl ?_ ?_ ?_ hval hW hw (laid_tab hL)
  · have hall : ([25, 3].all fun t => Tryz.prog.readableRec t && Nat.blt t Tryz.prog.types.size) = true := by kernel_rfl
    intro t ht
    rw [Tryz.params3] at ht
    have := List.all_eq_true.1 hall t ht
    simp only [Bool.and_eq_true] at this
    exact ⟨this.1, by simpa using this.2⟩
  · rw [Tryz.params3]
    exact ⟨rfl, Tryz.underlying3, trivial⟩
  · intro ds hd
    rw [Tryz.params3] at hd
    match ds, hd with
    | [d1, d2], _ => rfl
theorem sincoreOwn_row_holds : Rows.SincoreOwnSaid :=
  OpenClaim.holds_of_wide 3 Tryz.f3 rfl rfl rfl rfl rfl rfl rfl ⟨rfl, rfl, rfl, rfl, rfl⟩ rfl rfl rfl rfl rfl (by kernel_rfl) Tryz.func3 (by kernel_rfl)
    (of_decide_eq_true (by kernel_rfl)) (by unfold Func.isWrapper; first | (rw [if_pos (by decide +kernel)]; kernel_rfl) | (rw [if_neg (by decide +kernel)]; exact ⟨rfl, rfl⟩))
    (fun os started H enc _ => sincoreOwn_lifted os started H enc)
theorem sincoreOwn_holds : Rows.SincoreOwnCardSaid :=
  Claim7.holds_tied_plain_at .later [] [.data] true (true, "a83a4242420001d6bc1cc0de1c375d614c5b692570fb657e7e68a945b72e7c48") false
    sincoreOwn_row_holds (fun _ h => by cases h) (by kernel_rfl) (fun _ h => by cases h) sincoreOwn_row_tie rfl ⟨rfl, rfl⟩ (by kernel_rfl) rfl
    (fun f fn hf hfn => by
      obtain rfl : f = 3 := Option.some.inj ((show Tryz.prog.funcNamed "ulp/ulplaw13.SincoreOwn" = some 3 by kernel_rfl).symm.trans hf) |>.symm
      obtain rfl : fn = Tryz.f3 := (Option.some.inj (Tryz.func3.symm.trans hfn)).symm
      exact ⟨by kernel_rfl, fun j t ht => by
        rw [Tryz.params3] at ht
        have hm : t ∈ [25, 3] := by simpa using Array.mem_of_getElem? ht
        have hall : ([25, 3].all fun u => !Tryz.prog.wantsStandIn u) = true := by kernel_rfl
        exact (show Tryz.prog.wantsStandIn t = false by simpa using List.all_eq_true.1 hall t hm)⟩)
    (by kernel_rfl)
#print axioms sincoreOwn_holds
end Go.Proofs.YtbmolijeikedcaaGreatDoor

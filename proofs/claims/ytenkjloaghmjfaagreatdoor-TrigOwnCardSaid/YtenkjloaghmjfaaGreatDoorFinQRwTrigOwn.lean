/-
TrigOwn holds at every input: the row and its card, out of the word that the function's run was shown to keep. Conditions: the row's own (the listed table of math/bits as the text lays it).
-/
import Derived.Test.YtenkjloaghmjfaaGreatDoorMg5
import Derived.Test.YtenkjloaghmjfaaGreatDoorRows
import Derived.Test.YtenkjloaghmjfaaGreatDoorTie
import Derived.Test.YtenkjloaghmjfaaGreatDoorCards
import Derived.SevenTiedAt
namespace Go.Proofs.YtenkjloaghmjfaaGreatDoor
open Go.RowKit Go.ChangeShapes Go.WideShapes
set_option maxRecDepth 100000
theorem own : ownKnob Tryz.prog.godebug = none := by kernel_rfl
theorem laidOut' : laidOutB Tryz.prog = true := by kernel_rfl
theorem laid_tab {W : World} (h : laidMetH Tryz.prog [("math/bits.deBruijn64tab", Rows.laid_math_bits_deBruijn64tab), ("ulp/trig.turns", Rows.laid_ulp_trig_turns)] W) : Tab W :=
  tab_of (fun ys e j hj => by
    have e' : ys.map (·.1) = Lib.deBruijn64tab.map fun (n : Nat) => DataW.lit (.int .u8 (n : Int)) := by
      have : Rows.laid_math_bits_deBruijn64tab (H := Unit) = .agg (Lib.deBruijn64tab.map fun (n : Nat) => DataW.lit (.int .u8 (n : Int))) := by kernel_rfl
      rw [this] at e; exact (DataW.agg.inj e).symm
    have hl : ys.length = 64 := by have := congrArg List.length e'; simpa [Lib.deBruijn64tab] using this
    refine ⟨ys[j]'(by omega), List.getElem?_eq_getElem (by omega), ?_⟩
    have h1 : (ys.map (·.1))[j]? = some (ys[j]'(by omega)).1 := by rw [List.getElem?_map, List.getElem?_eq_getElem (by omega)]; rfl
    rw [e', List.getElem?_map] at h1
    cases h2 : Lib.deBruijn64tab[j]? with
    | none => rw [h2] at h1; cases h1
    | some n =>
      rw [h2] at h1
      rw [List.getD_eq_getElem?_getD, h2]
      exact (Option.some.inj h1).symm) (by kernel_rfl) (by kernel_rfl) h
theorem door_met (os : Os) (args : Array Value) : laidMetH Tryz.prog [("math/bits.deBruijn64tab", Rows.laid_math_bits_deBruijn64tab), ("ulp/trig.turns", Rows.laid_ulp_trig_turns)] ((World.doorLaid Tryz.prog 400 os).forCall (fun _ _ => 0) ⟨#[], args, []⟩).memory :=
  laidMetH_of_parts3 (fuel := 8) (laidMet_of_run' 8 (by kernel_rfl) (by kernel_rfl)) (by kernel_rfl) (by kernel_rfl)
theorem trigOwn_lifted (os : Os) (started : os.Started) (H : Type) (enc : TypeId × Value → H) :
    ReturnsInHanded {} Tryz.checked os 9 .any (fun w args => (Rows.trigOwnSpec.pre enc Tryz.prog Tryz.f9 [] false w args ∧ laidMetH Tryz.prog [("math/bits.deBruijn64tab", Rows.laid_math_bits_deBruijn64tab), ("ulp/trig.turns", Rows.laid_ulp_trig_turns)] w) ∧ sizedMet enc Tryz.prog Tryz.f9 (OpenSpec.ofChange Rows.trigOwnSpec) false w args)
      (Rows.trigOwnSpec.post enc Tryz.prog Tryz.f9 false true false false) := by
  refine returnsInHanded_of_change_and (C := Tryz.checked) (X := fun w _ => laidMetH Tryz.prog [("math/bits.deBruijn64tab", Rows.laid_math_bits_deBruijn64tab), ("ulp/trig.turns", Rows.laid_ulp_trig_turns)] w) (fun _ _ _ hh h => h.of_heap hh) own started (by kernel_rfl) Tryz.func9
    (ChangeSpec.witness_shaped (enc := enc) (C := Tryz.checked) (os := os) (X := fun w _ => laidMetH Tryz.prog [("math/bits.deBruijn64tab", Rows.laid_math_bits_deBruijn64tab), ("ulp/trig.turns", Rows.laid_ulp_trig_turns)] w) false (World.doorLaid Tryz.prog 400 os) #[.agg #[.bool false, .slice none 0 0, .int .i64 0], .int .i64 0] 8 rfl (World.shaped_of_RefB (by kernel_rfl) (by kernel_rfl)) (by kernel_rfl) (by kernel_rfl) (by kernel_rfl) (door_met os _)) ?_
  intro W base args ds gs before hval hW _ hw hL _
  refine law_contract lOw17_ok (by simp [AllTrue]) laidOut' (by kernel_rfl) rfl rfl ?_ ?_ ?_ hval hW hw (laid_tab hL)
  · have hall : ([27, 3].all fun t => Tryz.prog.readableRec t && Nat.blt t Tryz.prog.types.size) = true := by kernel_rfl
    intro t ht
    rw [Tryz.params9] at ht
    have := List.all_eq_true.1 hall t ht
    simp only [Bool.and_eq_true] at this
    exact ⟨this.1, by simpa using this.2⟩
  · rw [Tryz.params9]
    exact ⟨rfl, Tryz.underlying3, trivial⟩
  · intro ds hd
    rw [Tryz.params9] at hd
    match ds, hd with
    | [d1, d2], _ => rfl
theorem trigOwn_row_holds : Rows.TrigOwnSaid :=
  OpenClaim.holds_of_wide 9 Tryz.f9 rfl rfl rfl rfl rfl rfl rfl ⟨rfl, rfl, rfl, rfl, rfl⟩ rfl rfl rfl rfl rfl (by kernel_rfl) Tryz.func9 (by kernel_rfl)
    (of_decide_eq_true (by kernel_rfl)) (by unfold Func.isWrapper; first | (rw [if_pos (by decide +kernel)]; kernel_rfl) | (rw [if_neg (by decide +kernel)]; exact ⟨rfl, rfl⟩))
    (fun os started H enc _ => trigOwn_lifted os started H enc)
theorem trigOwn_holds : Rows.TrigOwnCardSaid :=
  Claim7.holds_tied_plain_at .later [] [.data, .data] true (true, "d6f5539bea426edbee5cacecedeb167f258bce96420381a4a9aa606ed4b95140") false
    trigOwn_row_holds (fun _ h => by cases h) (by kernel_rfl) (fun _ h => by cases h) trigOwn_row_tie rfl ⟨rfl, rfl⟩ (by kernel_rfl) rfl
    (fun f fn hf hfn => by
      obtain rfl : f = 9 := Option.some.inj ((show Tryz.prog.funcNamed "ulp/ulplaw17.TrigOwn" = some 9 by kernel_rfl).symm.trans hf) |>.symm
      obtain rfl : fn = Tryz.f9 := (Option.some.inj (Tryz.func9.symm.trans hfn)).symm
      exact ⟨by kernel_rfl, fun j t ht => by
        rw [Tryz.params9] at ht
        have hm : t ∈ [27, 3] := by simpa using Array.mem_of_getElem? ht
        have hall : ([27, 3].all fun u => !Tryz.prog.wantsStandIn u) = true := by kernel_rfl
        exact (show Tryz.prog.wantsStandIn t = false by simpa using List.all_eq_true.1 hall t hm)⟩)
    (by kernel_rfl)
#print axioms trigOwn_holds
end Go.Proofs.YtenkjloaghmjfaaGreatDoor

/-
  Facts on the whole program that every row asks for. No condition.
-/
import Derived.Test.YtnjohcbamblilaaDoorCore
import Derived.Test.YtnjohcbamblilaaDoorRows
namespace Go.Proofs.YtnjohcbamblilaaDoor
open Go.RowKit
set_option linter.unusedVariables false
set_option linter.unusedSimpArgs false
set_option linter.unusedSectionVars false
set_option maxRecDepth 4000

open Go
set_option maxRecDepth 100000
/-- signs by their numbers -/
def ioSg (l : List Nat) : List Char := l.map Char.ofNat
theorem io0 : Tryd.prog.initOrder = "harness 26671c1a6f7c4bf8b61ac17213adea52421837d3c4ea04a95132f59d0341d108 cut at loop.example/g01027/laws.FnExactRulingText loop.example/g01027/laws.FnExactReadRuling loop.example/g01027/laws.FnRulingTexts" := by kernel_rfl
theorem io1 : "harness 26671c1a6f7c4bf8b61ac17213adea52421837d3c4ea04a95132f59d0341d108 cut at loop.example/g01027/laws.FnExactRulingText loop.example/g01027/laws.FnExactReadRuling loop.example/g01027/laws.FnRulingTexts" = String.ofList (ioSg [104, 97, 114, 110, 101, 115, 115, 32, 50, 54, 54, 55, 49, 99, 49, 97, 54, 102, 55, 99, 52, 98, 102, 56, 98, 54, 49, 97, 99, 49, 55, 50, 49, 51, 97, 100, 101, 97, 53, 50, 52, 50, 49, 56, 51, 55, 100, 51, 99, 52, 101, 97, 48, 52, 97, 57, 53, 49, 51, 50, 102, 53, 57, 100, 48, 51, 52, 49, 100, 49, 48, 56, 32, 99, 117, 116, 32, 97, 116, 32, 108, 111, 111, 112, 46, 101, 120, 97, 109, 112, 108, 101, 47, 103, 48, 49, 48, 50, 55, 47, 108, 97, 119, 115, 46, 70, 110, 69, 120, 97, 99, 116, 82, 117, 108, 105, 110, 103, 84, 101, 120, 116, 32, 108, 111, 111, 112, 46, 101, 120, 97, 109, 112, 108, 101, 47, 103, 48, 49, 48, 50, 55, 47, 108, 97, 119, 115, 46, 70, 110, 69, 120, 97, 99, 116, 82, 101, 97, 100, 82, 117, 108, 105, 110, 103, 32, 108, 111, 111, 112, 46, 101, 120, 97, 109, 112, 108, 101, 47, 103, 48, 49, 48, 50, 55, 47, 108, 97, 119, 115, 46, 70, 110, 82, 117, 108, 105, 110, 103, 84, 101, 120, 116, 115]) := by kernel_rfl
theorem ioL : Tryd.prog.initOrder.toList = ioSg [104, 97, 114, 110, 101, 115, 115, 32, 50, 54, 54, 55, 49, 99, 49, 97, 54, 102, 55, 99, 52, 98, 102, 56, 98, 54, 49, 97, 99, 49, 55, 50, 49, 51, 97, 100, 101, 97, 53, 50, 52, 50, 49, 56, 51, 55, 100, 51, 99, 52, 101, 97, 48, 52, 97, 57, 53, 49, 51, 50, 102, 53, 57, 100, 48, 51, 52, 49, 100, 49, 48, 56, 32, 99, 117, 116, 32, 97, 116, 32, 108, 111, 111, 112, 46, 101, 120, 97, 109, 112, 108, 101, 47, 103, 48, 49, 48, 50, 55, 47, 108, 97, 119, 115, 46, 70, 110, 69, 120, 97, 99, 116, 82, 117, 108, 105, 110, 103, 84, 101, 120, 116, 32, 108, 111, 111, 112, 46, 101, 120, 97, 109, 112, 108, 101, 47, 103, 48, 49, 48, 50, 55, 47, 108, 97, 119, 115, 46, 70, 110, 69, 120, 97, 99, 116, 82, 101, 97, 100, 82, 117, 108, 105, 110, 103, 32, 108, 111, 111, 112, 46, 101, 120, 97, 109, 112, 108, 101, 47, 103, 48, 49, 48, 50, 55, 47, 108, 97, 119, 115, 46, 70, 110, 82, 117, 108, 105, 110, 103, 84, 101, 120, 116, 115] := (congrArg String.toList (io0.trans io1)).trans String.toList_ofList
theorem ioWs : behindMainWord (wordsSigns Tryd.prog.initOrder.toList) = "cut".toList :: (behindMainWord (wordsSigns Tryd.prog.initOrder.toList)).tail := by rw [ioL]; kernel_rfl
theorem ioSt : stripLifts liftWords (behindMainWord (wordsSigns Tryd.prog.initOrder.toList)) = ([], behindMainWord (wordsSigns Tryd.prog.initOrder.toList)) := by rw [ioL]; kernel_rfl
theorem ioLl : Tryd.prog.laysLater = false := by kernel_rfl
theorem ioBr : Tryd.prog.bearsReflect = false := by kernel_rfl
theorem ioDf : Tryd.prog.doorFits [] = true := by kernel_rfl
theorem make_of {P : Program} {l : List Char} (h : P.initOrder.toList = l) {W : List Char} {R : List (List Char)} (hw : behindMainWord (wordsSigns l) = W :: R) (hW : W = "cut".toList) (hs : (stripLifts liftWords (W :: R)) = ([], W :: R)) (h2 : P.laysLater = false) (h3 : P.bearsReflect = false) (h4 : P.doorFits [] = true) : P.mayEnter = true ∧ P.liftsFinal = false ∧ P.make = some .cut := by
  refine ⟨?_, ?_, ?_⟩
  · unfold Program.mayEnter; rw [h, hw]; simp only []; rw [hs, h2, h3, h4, hW]; simp
  · unfold Program.liftsFinal Program.headLifts; rw [h, hw]; simp only []; rw [hs, hW]; simp
  · unfold Program.make; rw [h, hw]; simp only []; rw [hW]; simp
theorem ioMk : Tryd.prog.mayEnter = true ∧ Tryd.prog.liftsFinal = false ∧ Tryd.prog.make = some .cut :=
  make_of (W := "cut".toList) (R := (behindMainWord (wordsSigns Tryd.prog.initOrder.toList)).tail) rfl (by rw [← ioWs]) rfl (by rw [← ioWs, ← ioSt]) ioLl ioBr ioDf
theorem ioLaid : laidOutB Tryd.prog = true := by kernel_rfl
theorem ioRow : mapsRowed Tryd.prog = true := by kernel_rfl
theorem band {a b : Bool} (h1 : a = true) (h2 : b = true) : (a && b) = true := by rw [h1, h2]; rfl
theorem beq_make {a : Option Make} (h : a = some .cut) : (a == some .cut) = true := by rw [h]; rfl
theorem beq_false_of {a b : Bool} (h1 : a = false) (h2 : b = false) : (a == b) = true := by rw [h1, h2]; rfl
end Go.Proofs.YtnjohcbamblilaaDoor

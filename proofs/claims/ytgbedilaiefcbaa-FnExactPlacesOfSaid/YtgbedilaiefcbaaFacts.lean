/-
  Facts on the whole program that every row asks for. No condition.
-/
import Derived.Test.YtgbedilaiefcbaaCore
import Derived.Test.YtgbedilaiefcbaaRows
namespace Go.Proofs.Ytgbedilaiefcbaa
open Go.RowKit
set_option linter.unusedVariables false
set_option linter.unusedSimpArgs false
set_option linter.unusedSectionVars false
set_option maxRecDepth 4000

open Go
set_option maxRecDepth 100000
/-- signs by their numbers -/
def ioSg (l : List Nat) : List Char := l.map Char.ofNat
theorem io0 : Try.prog.initOrder = "harness 91bff54d4a9f9d3ce50728d20db2caa631ee214d89b90f6f2071b5903533e1db cut at loop.example/g01027/laws.FnExactAreValues loop.example/g01027/laws.FnExactValueOf loop.example/g01027/laws.FnExactSetValue loop.example/g01027/laws.FnValues loop.example/g01027/laws.FnExactIsTemplate loop.example/g01027/laws.FnExactSectionsOf loop.example/g01027/laws.FnExactPlacesOf loop.example/g01027/laws.FnExactFillTemplate" := by kernel_rfl
theorem io1 : "harness 91bff54d4a9f9d3ce50728d20db2caa631ee214d89b90f6f2071b5903533e1db cut at loop.example/g01027/laws.FnExactAreValues loop.example/g01027/laws.FnExactValueOf loop.example/g01027/laws.FnExactSetValue loop.example/g01027/laws.FnValues loop.example/g01027/laws.FnExactIsTemplate loop.example/g01027/laws.FnExactSectionsOf loop.example/g01027/laws.FnExactPlacesOf loop.example/g01027/laws.FnExactFillTemplate" = String.ofList (ioSg [104, 97, 114, 110, 101, 115, 115, 32, 57, 49, 98, 102, 102, 53, 52, 100, 52, 97, 57, 102, 57, 100, 51, 99, 101, 53, 48, 55, 50, 56, 100, 50, 48, 100, 98, 50, 99, 97, 97, 54, 51, 49, 101, 101, 50, 49, 52, 100, 56, 57, 98, 57, 48, 102, 54, 102, 50, 48, 55, 49, 98, 53, 57, 48, 51, 53, 51, 51, 101, 49, 100, 98, 32, 99, 117, 116, 32, 97, 116, 32, 108, 111, 111, 112, 46, 101, 120, 97, 109, 112, 108, 101, 47, 103, 48, 49, 48, 50, 55, 47, 108, 97, 119, 115, 46, 70, 110, 69, 120, 97, 99, 116, 65, 114, 101, 86, 97, 108, 117, 101, 115, 32, 108, 111, 111, 112, 46, 101, 120, 97, 109, 112, 108, 101, 47, 103, 48, 49, 48, 50, 55, 47, 108, 97, 119, 115, 46, 70, 110, 69, 120, 97, 99, 116, 86, 97, 108, 117, 101, 79, 102, 32, 108, 111, 111, 112, 46, 101, 120, 97, 109, 112, 108, 101, 47, 103, 48, 49, 48, 50, 55, 47, 108, 97, 119, 115, 46, 70, 110, 69, 120, 97, 99, 116, 83, 101, 116, 86, 97, 108, 117, 101, 32, 108, 111, 111, 112, 46, 101, 120, 97, 109, 112, 108, 101, 47, 103, 48, 49, 48, 50, 55, 47, 108, 97, 119, 115, 46, 70, 110, 86, 97, 108, 117, 101, 115, 32, 108, 111, 111, 112, 46, 101, 120, 97, 109, 112, 108, 101, 47, 103, 48, 49, 48, 50, 55, 47, 108, 97, 119, 115, 46, 70, 110, 69, 120, 97, 99, 116, 73, 115, 84, 101, 109, 112, 108, 97, 116, 101, 32, 108, 111, 111, 112, 46, 101, 120, 97, 109, 112, 108, 101, 47, 103, 48, 49, 48, 50, 55, 47, 108, 97, 119, 115, 46, 70, 110, 69, 120, 97, 99, 116, 83, 101, 99, 116, 105, 111, 110, 115, 79, 102, 32, 108, 111, 111, 112, 46, 101, 120, 97, 109, 112, 108, 101, 47, 103, 48, 49, 48, 50, 55, 47, 108, 97, 119, 115, 46, 70, 110, 69, 120, 97, 99, 116, 80, 108, 97, 99, 101, 115, 79, 102, 32, 108, 111, 111, 112, 46, 101, 120, 97, 109, 112, 108, 101, 47, 103, 48, 49, 48, 50, 55, 47, 108, 97, 119, 115, 46, 70, 110, 69, 120, 97, 99, 116, 70, 105, 108, 108, 84, 101, 109, 112, 108, 97, 116, 101]) := by kernel_rfl
theorem ioL : Try.prog.initOrder.toList = ioSg [104, 97, 114, 110, 101, 115, 115, 32, 57, 49, 98, 102, 102, 53, 52, 100, 52, 97, 57, 102, 57, 100, 51, 99, 101, 53, 48, 55, 50, 56, 100, 50, 48, 100, 98, 50, 99, 97, 97, 54, 51, 49, 101, 101, 50, 49, 52, 100, 56, 57, 98, 57, 48, 102, 54, 102, 50, 48, 55, 49, 98, 53, 57, 48, 51, 53, 51, 51, 101, 49, 100, 98, 32, 99, 117, 116, 32, 97, 116, 32, 108, 111, 111, 112, 46, 101, 120, 97, 109, 112, 108, 101, 47, 103, 48, 49, 48, 50, 55, 47, 108, 97, 119, 115, 46, 70, 110, 69, 120, 97, 99, 116, 65, 114, 101, 86, 97, 108, 117, 101, 115, 32, 108, 111, 111, 112, 46, 101, 120, 97, 109, 112, 108, 101, 47, 103, 48, 49, 48, 50, 55, 47, 108, 97, 119, 115, 46, 70, 110, 69, 120, 97, 99, 116, 86, 97, 108, 117, 101, 79, 102, 32, 108, 111, 111, 112, 46, 101, 120, 97, 109, 112, 108, 101, 47, 103, 48, 49, 48, 50, 55, 47, 108, 97, 119, 115, 46, 70, 110, 69, 120, 97, 99, 116, 83, 101, 116, 86, 97, 108, 117, 101, 32, 108, 111, 111, 112, 46, 101, 120, 97, 109, 112, 108, 101, 47, 103, 48, 49, 48, 50, 55, 47, 108, 97, 119, 115, 46, 70, 110, 86, 97, 108, 117, 101, 115, 32, 108, 111, 111, 112, 46, 101, 120, 97, 109, 112, 108, 101, 47, 103, 48, 49, 48, 50, 55, 47, 108, 97, 119, 115, 46, 70, 110, 69, 120, 97, 99, 116, 73, 115, 84, 101, 109, 112, 108, 97, 116, 101, 32, 108, 111, 111, 112, 46, 101, 120, 97, 109, 112, 108, 101, 47, 103, 48, 49, 48, 50, 55, 47, 108, 97, 119, 115, 46, 70, 110, 69, 120, 97, 99, 116, 83, 101, 99, 116, 105, 111, 110, 115, 79, 102, 32, 108, 111, 111, 112, 46, 101, 120, 97, 109, 112, 108, 101, 47, 103, 48, 49, 48, 50, 55, 47, 108, 97, 119, 115, 46, 70, 110, 69, 120, 97, 99, 116, 80, 108, 97, 99, 101, 115, 79, 102, 32, 108, 111, 111, 112, 46, 101, 120, 97, 109, 112, 108, 101, 47, 103, 48, 49, 48, 50, 55, 47, 108, 97, 119, 115, 46, 70, 110, 69, 120, 97, 99, 116, 70, 105, 108, 108, 84, 101, 109, 112, 108, 97, 116, 101] := (congrArg String.toList (io0.trans io1)).trans String.toList_ofList
theorem ioWs : behindMainWord (wordsSigns Try.prog.initOrder.toList) = "cut".toList :: (behindMainWord (wordsSigns Try.prog.initOrder.toList)).tail := by rw [ioL]; kernel_rfl
theorem ioSt : stripLifts liftWords (behindMainWord (wordsSigns Try.prog.initOrder.toList)) = ([], behindMainWord (wordsSigns Try.prog.initOrder.toList)) := by rw [ioL]; kernel_rfl
theorem ioLl : Try.prog.laysLater = false := by kernel_rfl
theorem ioBr : Try.prog.bearsReflect = false := by kernel_rfl
theorem ioDf : Try.prog.doorFits [] = true := by kernel_rfl
theorem make_of {P : Program} {l : List Char} (h : P.initOrder.toList = l) {W : List Char} {R : List (List Char)} (hw : behindMainWord (wordsSigns l) = W :: R) (hW : W = "cut".toList) (hs : (stripLifts liftWords (W :: R)) = ([], W :: R)) (h2 : P.laysLater = false) (h3 : P.bearsReflect = false) (h4 : P.doorFits [] = true) : P.mayEnter = true ∧ P.liftsFinal = false ∧ P.make = some .cut := by
  refine ⟨?_, ?_, ?_⟩
  · unfold Program.mayEnter; rw [h, hw]; simp only []; rw [hs, h2, h3, h4, hW]; simp
  · unfold Program.liftsFinal Program.headLifts; rw [h, hw]; simp only []; rw [hs, hW]; simp
  · unfold Program.make; rw [h, hw]; simp only []; rw [hW]; simp
theorem ioMk : Try.prog.mayEnter = true ∧ Try.prog.liftsFinal = false ∧ Try.prog.make = some .cut :=
  make_of (W := "cut".toList) (R := (behindMainWord (wordsSigns Try.prog.initOrder.toList)).tail) rfl (by rw [← ioWs]) rfl (by rw [← ioWs, ← ioSt]) ioLl ioBr ioDf
theorem ioLaid : laidOutB Try.prog = true := by kernel_rfl
theorem ioRow : mapsRowed Try.prog = true := by kernel_rfl
theorem band {a b : Bool} (h1 : a = true) (h2 : b = true) : (a && b) = true := by rw [h1, h2]; rfl
theorem beq_make {a : Option Make} (h : a = some .cut) : (a == some .cut) = true := by rw [h]; rfl
theorem beq_false_of {a b : Bool} (h1 : a = false) (h2 : b = false) : (a == b) = true := by rw [h1, h2]; rfl
end Go.Proofs.Ytgbedilaiefcbaa

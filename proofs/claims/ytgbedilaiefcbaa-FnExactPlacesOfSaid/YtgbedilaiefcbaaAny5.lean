/-
  Whether a text has one of five characters, by the contract on strings.ContainsAny. No condition beyond those written in each theorem.
-/
import Derived.Test.YtgbedilaiefcbaaBase
import Derived.Ground.NamesProg
import Derived.Shelf.Lay
import Derived.Shelf.Strings.IndexAnyAll
namespace Go.Proofs.Ytgbedilaiefcbaa
open Go.RowKit Go.Shelf
set_option linter.unusedVariables false
set_option linter.unusedSimpArgs false
set_option linter.unusedSectionVars false
set_option maxRecDepth 4000

end Go.Proofs.Ytgbedilaiefcbaa
namespace Go.Proofs
open Go.Shelf
def Try.lays150_ren : Go.Shelf.Ren := ⟨fun | 150 => 44 | 153 => 67 | 152 => 79 | 226 => 80 | 227 => 81 | 228 => 82 | 137 => 88 | 119 => 89 | 224 => 90 | 225 => 91 | 217 => 104 | 266 => 112 | n => n, fun | 9 => 9 | 4 => 4 | 3 => 3 | 5 => 5 | 21 => 21 | 117 => 100 | 116 => 99 | 0 => 0 | 46 => 107 | 124 => 112 | n => n, fun | n => n⟩
theorem Try.lays150 : Go.Proofs.Lays.n150 Try.prog Try.lays150_ren := {
  mixed := by kernel_rfl
  f119 := Try.func89.trans (congrArg some (by kernel_rfl))
  f137 := Try.func88.trans (congrArg some (by kernel_rfl))
  f150 := Try.func44.trans (congrArg some (by kernel_rfl))
  f152 := Try.func79.trans (congrArg some (by kernel_rfl))
  f153 := Try.func67.trans (congrArg some (by kernel_rfl))
  f217 := Try.func104.trans (congrArg some (by kernel_rfl))
  f224 := Try.func90.trans (congrArg some (by kernel_rfl))
  f225 := Try.func91.trans (congrArg some (by kernel_rfl))
  f226 := Try.func80.trans (congrArg some (by kernel_rfl))
  f227 := Try.func81.trans (congrArg some (by kernel_rfl))
  f228 := Try.func82.trans (congrArg some (by kernel_rfl))
  f266 := Try.func112.trans (congrArg some (by kernel_rfl))
  t0 := Try.underlying0
  a0 := Try.isAgg0
  z0 := Try.sizeOf0
  v0 := Try.zeroValue0
  t3 := Try.underlying3
  a3 := Try.isAgg3
  z3 := Try.sizeOf3
  v3 := Try.zeroValue3
  t4 := Try.underlying4
  a4 := Try.isAgg4
  z4 := Try.sizeOf4
  v4 := Try.zeroValue4
  t5 := Try.underlying5
  a5 := Try.isAgg5
  z5 := Try.sizeOf5
  v5 := Try.zeroValue5
  t9 := Try.underlying9
  a9 := Try.isAgg9
  z9 := Try.sizeOf9
  v9 := Try.zeroValue9
  t21 := Try.underlying21
  a21 := Try.isAgg21
  z21 := Try.sizeOf21
  v21 := Try.zeroValue21
  t46 := Try.underlying107
  a46 := Try.isAgg107
  z46 := Try.sizeOf107
  v46 := Try.zeroValue107
  t116 := Try.underlying99
  a116 := Try.isAgg99
  z116 := Try.sizeOf99
  t117 := Try.underlying100
  a117 := Try.isAgg100
  z117 := Try.sizeOf100
  v117 := Try.zeroValue100
  t124 := Try.underlying112
  a124 := Try.isAgg112
  z124 := Try.sizeOf112
  v124 := Try.zeroValue112 }
theorem Try.set150 : (Try.prog.info? (Try.lays150_ren.t 116)).map (fun i => (i.zero, i.size)) = some (some (.agg (Array.replicate 256 (.bool false))), 256) := by kernel_rfl
end Go.Proofs
namespace Go.Proofs.Ytgbedilaiefcbaa

open Go.Shelf
def sp5 (b : Nat) : Bool := decide (b = 123) || decide (b = 125) || decide (b = 91) || decide (b = 93) || decide (b = 124)
def any5 (s : ByteArray) : Bool := !allB s.size (fun i => !sp5 (bAt s i))
theorem bAt_get {s : ByteArray} {i : Nat} {b : UInt8} (h : s.data.toList[i]? = some b) : i < s.size ∧ bAt s i = b.toNat := by
  obtain ⟨hi, e⟩ := List.getElem?_eq_some_iff.1 h
  have hi' : i < s.size := by simpa using hi
  refine ⟨hi', ?_⟩
  rw [bAt, dif_pos hi']
  subst e; rfl
theorem get_bAt {s : ByteArray} {i : Nat} (h : i < s.size) : ∃ b : UInt8, s.data.toList[i]? = some b ∧ bAt s i = b.toNat := by
  have h2 : i < s.data.toList.length := by simpa using h
  exact ⟨s.data.toList[i], List.getElem?_eq_getElem h2, (bAt_get (List.getElem?_eq_getElem h2)).2⟩
def chars5 : List UInt8 := [123, 125, 91, 93, 124]
theorem chars5_has (b : UInt8) : chars5.contains b = sp5 b.toNat := by
  have h : ∀ n : Fin 256, chars5.contains (UInt8.ofNat n) = sp5 n := by decide +kernel
  have h2 := h ⟨b.toNat, UInt8.toNat_lt b⟩
  simpa using h2
theorem containsAny5 (s : ByteArray) : Lib.containsAny s.data.toList chars5 = any5 s := by
  by_cases h : allB s.size (fun i => !sp5 (bAt s i)) = true
  · have hn : Lib.NoAny s.data.toList chars5 s.data.toList.length := fun j b hj hb => by
      obtain ⟨h1, h2⟩ := bAt_get hb
      have := allB_iff.1 h j h1
      rw [chars5_has, ← h2]; simpa using this
    rw [Lib.containsAny, Lib.indexAny_none hn, any5, h]; rfl
  · have h' : allB s.size (fun i => !sp5 (bAt s i)) = false := by simpa using h
    have hex : ∃ i, i < s.size ∧ sp5 (bAt s i) = true := by
      rcases Classical.em (∃ i, i < s.size ∧ sp5 (bAt s i) = true) with hh | hh
      · exact hh
      · exfalso; apply h; rw [allB_iff]; intro i hi
        have : ¬ sp5 (bAt s i) = true := fun e => hh ⟨i, hi, e⟩
        simpa using this
    rw [any5, h']
    have hge := Lib.indexAny_ge chars5 s.data.toList
    have hne : Lib.indexAny s.data.toList chars5 ≠ -1 := by
      intro hc
      obtain ⟨i, hi, hs⟩ := hex
      obtain ⟨b, hb, e⟩ := get_bAt hi
      have key : ∀ (l : List UInt8), Lib.indexAny l chars5 = -1 → ∀ x ∈ l, chars5.contains x = false := by
        intro l
        induction l with
        | nil => intro _ x hx; cases hx
        | cons y l ih =>
          intro hl x hx
          unfold Lib.indexAny at hl
          split at hl
          · omega
          · rename_i hy
            have hge2 := Lib.indexAny_ge chars5 l
            have hl2 : Lib.indexAny l chars5 = -1 := by
              split at hl
              · rename_i hh; simpa using hh
              · omega
            rcases List.mem_cons.1 hx with rfl | hx
            · simpa using hy
            · exact ih hl2 x hx
      have := key _ hc b (List.mem_of_getElem? hb)
      rw [chars5_has, ← e, hs] at this; cases this
    show decide (0 ≤ Lib.indexAny s.data.toList chars5) = !false
    have : 0 ≤ Lib.indexAny s.data.toList chars5 := by omega
    simp [this]
theorem ContainsAny5_ok (s : ByteArray) (w : World) (hs : s.size ≤ 1000000) (hp : allB s.size (fun i => inR 32 126 (bAt s i)) = true) :
    Ret Try.prog 44 [.string s, .string ⟨#[123, 125, 91, 93, 124]⟩] w (Pv w (.bool (any5 s))) := by
  have h := Any.strings_ContainsAny_laid Try.lays150 Try.set150 s ⟨#[123, 125, 91, 93, 124]⟩ w (by omega) (by decide) (fun j b hb => by
    obtain ⟨h1, h2⟩ := bAt_get hb
    have := inR_iff.1 (allB_iff.1 hp j h1)
    omega) (fun j b hb => by
    have : b ∈ chars5 := List.mem_of_getElem? hb
    have : ∀ x ∈ chars5, x.toNat < 128 := by decide
    exact this b (by assumption))
  refine Calls.mono h fun e w' he => ⟨_, he.1, ?_, he.2⟩
  rw [← containsAny5]; rfl
end Go.Proofs.Ytgbedilaiefcbaa

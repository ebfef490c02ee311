/-
  Plain lemmas on sizes and equal lists. No condition.
-/
import Derived.Test.YtinpkihmkfiidaaBase
namespace Go.Proofs.Ytinpkihmkfiidaa
open Go.RowKit
set_option linter.unusedVariables false
set_option linter.unusedSimpArgs false
set_option linter.unusedSectionVars false
set_option maxRecDepth 4000


theorem goS_le {α : Type} {f : α → Int → Int} (hf : ∀ x l, -1 ≤ l → -1 ≤ f x l ∧ f x l ≤ l) : ∀ (xs : List α) (l : Int), -1 ≤ l → goS f xs l ≤ l
  | [], l, _ => Int.le_refl _
  | x :: r, l, h => by
    have h1 := hf x l h
    unfold goS; split
    · omega
    · have := goS_le hf r (f x l) h1.1; omega
theorem goS_ge {α : Type} {f : α → Int → Int} (hf : ∀ x l, -1 ≤ l → -1 ≤ f x l ∧ f x l ≤ l) : ∀ (xs : List α) (l : Int), -1 ≤ l → -1 ≤ goS f xs l
  | [], l, h => h
  | x :: r, l, h => by
    have h1 := hf x l h
    unfold goS; split
    · omega
    · exact goS_ge hf r (f x l) h1.1
theorem szS_le {α : Type} {f : α → Int → Int} (hf : ∀ x l, -1 ≤ l → -1 ≤ f x l ∧ f x l ≤ l) (xs : List α) (l : Int) (h : -1 ≤ l) : -1 ≤ szS f xs l ∧ szS f xs l ≤ l := by
  unfold szS; split
  · omega
  · have := goS_le hf xs (l - xs.length) (by omega); have := goS_ge hf xs (l - xs.length) (by omega); omega
theorem szS_len {α : Type} {f : α → Int → Int} (hf : ∀ x l, -1 ≤ l → -1 ≤ f x l ∧ f x l ≤ l) {xs : List α} {l : Int} (h : 0 ≤ szS f xs l) : xs.length ≤ l ∧ szS f xs l ≤ l - xs.length := by
  unfold szS at h ⊢
  split at h
  · omega
  · rename_i hn
    rw [if_neg hn]
    have := goS_le hf xs (l - xs.length) (by omega); omega
theorem eqL_refl {α : Type} {f : α → α → Bool} (hf : ∀ x, f x x = true) (xs : List α) : eqL f xs xs = true :=
  eqL_eq rfl (allB_iff.2 fun i hi => by rw [eqAt_of hi hi]; exact hf _)

theorem bnd_nn {a : Int} {f : Int → Int} (h : 0 ≤ bnd a f) : 0 ≤ a ∧ bnd a f = f a := by
  unfold bnd at h ⊢; split at h
  · omega
  · rename_i hn; rw [if_neg hn]; exact ⟨by omega, rfl⟩
theorem sub1_nn {k : Nat} {l : Int} (h : 0 ≤ sub1 k l) : sub1 k l = l - k ∧ (k : Int) ≤ l := by
  unfold sub1 at h ⊢; split at h
  · omega
  · rename_i hn; rw [if_neg hn]; omega
def i64c (n : Int) : List Value := [.int .i64 n]
def strc (s : ByteArray) : List Value := [.string s]
def eqI (a b : Int) : Bool := decide (a = b)
def eqT (a b : ByteArray) : Bool := decide (a = b)
theorem eqI_refl (a : Int) : eqI a a = true := by simp [eqI]
theorem eqT_refl (a : ByteArray) : eqT a a = true := by simp [eqT]

end Go.Proofs.Ytinpkihmkfiidaa

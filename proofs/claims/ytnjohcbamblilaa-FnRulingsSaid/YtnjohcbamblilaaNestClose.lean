/-
  From the row's own reading of an argument to slices of elements that hold a slice each. No condition.
-/
import Derived.Test.YtnjohcbamblilaaNest
import Derived.Test.YtnjohcbamblilaaClose
namespace Go.Proofs.Ytnjohcbamblilaa
open Go.RowKit Go.ChangeShapes Go.WideShapes Go.ChangeAt Go.Deep
set_option linter.unusedVariables false
set_option linter.unusedSimpArgs false
set_option linter.unusedSectionVars false

def ReadsN {τ β : Type} (P : Program) (t : TypeId) (cells : τ → Hd → List Value) (inn : τ → List β) (encI : β → List Value) (szI : Nat) (ok : τ → Prop) : Prop :=
  ∀ {H : Type} {enc : TypeId × Value → H} {w : World} {base : Nat} {spare : Nat → Bool} {held : Bool} {fuel : Nat} {cs : List Value} {x : DataW H × List MemPlace},
    DataW.trod enc P w base spare held fuel t cs = some x → ∃ (v : τ) (h : Hd), cs = cells v h ∧ Sl encI szI w h.p h.n h.c (inn v) ∧ ok v

theorem sn_of_trod {τ β : Type} [Inhabited τ] {P : Program} {cells : τ → Hd → List Value} {inn : τ → List β} {encI : β → List Value} {szI : Nat} {ok : τ → Prop} {H : Type} {enc : TypeId × Value → H} {w : World} {base : Nat} {spare : Nat → Bool} {held : Bool}
    {t e sz fuel : Nat} {cs : List Value} {x : DataW H × List MemPlace} (ht : P.underlying t = some (.slice e)) (hc : P.cellsOf e = sz) (hsz : sz ≠ 0)
    (hR : ReadsN P e cells inn encI szI ok) (h : DataW.trod enc P w base spare held fuel t cs = some x) :
    ∃ p n c vs, cs = [.slice p n c] ∧ Sn cells sz inn encI szI w p n c vs ∧ ∀ y ∈ vs, ok y := by
  subst hc
  haveI : Inhabited (X τ) := ⟨⟨default, hd0⟩⟩
  rcases open_slice ht h with ⟨rfl, _⟩ | ⟨a, len, cap, m, n, D, Pl, rfl, hb, hl, hm, hmm, _, hel⟩
  · exact ⟨none, 0, 0, [], rfl, Sn.none _ _ _ _ _ _, fun y hy => by cases hy⟩
  · have hlm : len ≤ m := by rw [hmm]; split <;> omega
    have hel' : ∀ i, i < len → ∃ r : X τ, (∀ j v, (cells r.v r.h)[j]? = some v → w.cell? ((a.add (i * P.cellsOf e)).add j) = some v) ∧ ok r.v ∧ (cells r.v r.h).length = P.cellsOf e ∧ Sl encI szI w r.h.p r.h.n r.h.c (inn r.v) := by
      intro i hi
      obtain ⟨cs', h1, h2⟩ := hel i (by omega)
      obtain ⟨v, hd, rfl, hs, hok⟩ := hR h2
      obtain ⟨h3, h4⟩ := cells?_get h1
      exact ⟨⟨v, hd⟩, h4, hok, h3, hs⟩
    obtain ⟨r, hr⟩ := choose_lt hel'
    have hspot : 0 < len → a = ⟨a.block, a.off, Option.none⟩ := by
      intro h0
      obtain ⟨h1, _, h3, _⟩ := hr 0 h0
      have h4 := h1 0 ((cells (r 0).v (r 0).h)[0]'(by omega)) (by simp)
      simp only [Nat.zero_mul, Addr.add, if_true] at h4
      have := World.cell?_spot h4
      obtain ⟨b, o, s⟩ := a
      simp only at this; subst this; rfl
    refine ⟨some a, len, cap, (List.range len).map (fun i => (r i).v), rfl, ⟨fun i => (r i).h, ⟨by simp, hl, hm, fun h0 => ?_, fun i hi => ?_, fun i hi => ?_⟩⟩, fun y hy => ?_⟩
    · rw [hspot h0]; rfl
    · have hi' : i < len := by simpa using hi
      intro j v hv
      have h5 := (hr i hi').1 j v (by simpa using hv)
      have ha : a = ⟨pb (some a), po (some a), Option.none⟩ := hspot (by omega)
      rw [ha, add_eq, add_eq] at h5
      exact h5
    · have hi' : i < len := by simpa using hi
      simpa using (hr i hi').2.2.2
    · obtain ⟨i, hi, rfl⟩ := List.mem_map.1 hy
      exact (hr i (by simpa using hi)).2.1
end Go.Proofs.Ytnjohcbamblilaa

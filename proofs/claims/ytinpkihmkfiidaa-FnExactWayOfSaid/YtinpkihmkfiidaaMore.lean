/-
  More operations: slices of slices and of texts, values that are built, arrays of two elements; searches with a function value.
-/
import Derived.Test.YtinpkihmkfiidaaGrow
namespace Go.Proofs.Ytinpkihmkfiidaa
open Go.RowKit Go.Proofs
set_option linter.unusedVariables false
set_option linter.unusedSimpArgs false
set_option linter.unusedSectionVars false

section
variable {P : Program} {N : Nat} {σ : Env} {w : World} {d : Option Nat} {ty : TypeId} {pos : String} {aft : Array Edge} {gd : Option (Nat × Bool)}
theorem add_zero_ (sz : Nat) (p : Option Addr) : p.map (fun x => x.add (0 * sz)) = p := by
  cases p <;> simp [Addr.add]
/-- x[:k] -/
theorem xslice_h {x y : Operand} {t e : TypeId} {p : Option Addr} {n c sz k : Nat} {m : Int} {kk : IntKind} (ht : P.underlying t = some (.slice e)) (hs : ∀ w, (sizeOf e).run P w = .ok sz w)
    (hx : ev σ x = some (.slice p n c)) (hy : ev σ y = some (.int kk m)) (hm : m = (k : Int)) (hk : k ≤ c) :
    XV P N σ ⟨d, .slice t x none (some y) none, ty, pos, aft, gd⟩ w (.slice p k c) w := fun a ha => by
  subst hm
  have he : P.elem t = e := by simp [Program.elem, ht]
  have ht' : P.underlying t = some (.slice (P.elem t)) := by rw [he]; exact ht
  have h1 := run_slice_h (P := P) (w := w) t p n c ht' kk (k : Int) (by omega) (by omega)
  rw [he, hs] at h1
  simp [execOp, ha.eval hx, ha.eval hy, run_sliceAt_slice (P := P) (w := w) t _ _ _ _ ht', h1, Result.andThen, sliced, Addr.add]
theorem Sl.take {α : Type} {enc : α → List Value} {sz : Nat} {w : World} {p : Option Addr} {n c k : Nat} {xs : List α} (h : Sl enc sz w p n c xs) (hk : k ≤ n) : Sl enc sz w p k c (xs.take k) := by
  have hl := h.len
  refine ⟨by simp; omega, by have := h.cap; omega, h.big, fun h0 => h.ptr (by omega), fun i hi => ?_, h.nil⟩
  have hi' : i < xs.length := by simp at hi; omega
  have := h.el i hi'
  rw [List.getElem_take]; exact this
/-- a struct or an array that is built -/
theorem xbuild {parts : Array (Nat × Operand)} {vs : List Value} {cells : Array Value} {t : TypeId} (hp : evs σ (parts.toList.map (·.2)) = some vs)
    (hb : P.built t ((parts.toList.map (·.1)).zip vs) = some cells) : XV P N σ ⟨d, .build t parts, ty, pos, aft, gd⟩ w (.agg cells) w := fun a ha => by
  have e0 : parts.toList.map (fun x => a.eval x.2) = vs := by
    have := evs_map ha _ _ hp
    rw [List.map_map] at this; exact this
  have e1 : List.map (fun x : Nat × Operand => (x.1, a.eval x.2)) parts.toList = (parts.toList.map (·.1)).zip vs := by
    rw [← e0]
    generalize parts.toList = l
    induction l with
    | nil => rfl
    | cons x l ih => simp [ih]
  have h1 := run_build (P := P) w t (parts.map fun (i, x) => (i, a.eval x)) cells (by
    rw [Array.toList_map]; exact (congrArg _ e1).trans hb)
  simp only [execOp]
  simp at h1 ⊢
  rw [h1]; rfl
/-- an element of an array of two -/
def pick2 {α : Type} (j : Nat) (x y : α) : α := if j = 0 then x else y
theorem xindexA2 {x y : Operand} {t e : TypeId} {u v : Int} {j : Nat} {m : Int} {k k1 : IntKind} (ht : P.underlying t = some (.array 2 e)) (hs : ∀ w, (sizeOf e).run P w = .ok 1 w) (ha' : ∀ w, (isAgg e).run P w = .ok false w)
    (hx : ev σ x = some (.agg #[.int k1 u, .int k1 v])) (hy : ev σ y = some (.int k m)) (hm : m = (j : Int)) (hj : j < 2) :
    XV P N σ ⟨d, .index t x y, ty, pos, aft, gd⟩ w (.int k1 (pick2 j u v)) w := fun a ha => by
  subst hm
  match j, hj with
  | 0, _ => simp [execOp, ha.eval hx, ha.eval hy, Instr.index, run_underlying ht, asIntOf, part, hs, ha', pick2]
  | 1, _ => simp [execOp, ha.eval hx, ha.eval hy, Instr.index, run_underlying ht, asIntOf, part, hs, ha', pick2]
end
theorem below_succ {α : Type} {xs : List α} {q : α → Prop} {k : Nat} (ha : ∀ j (hj : j < xs.length), j < k → q xs[j]) (h : ∀ hk : k < xs.length, q xs[k]) : ∀ j (hj : j < xs.length), j < k + 1 → q xs[j] := fun j hj h1 => by
  rcases (by omega : j < k ∨ j = k) with h2 | h2
  · exact ha j hj h2
  · subst h2; exact h hj
/-- the first place where f holds, or -1 -/
def findI {α : Type} (f : α → Bool) (xs : List α) : Int := match xs.findIdx? f with
  | some i => (i : Int)
  | none => -1
theorem findI_at {α : Type} {f : α → Bool} {xs : List α} {k : Nat} (hk : k < xs.length) (h : f xs[k] = true) (ha : ∀ j (hj : j < xs.length), j < k → f xs[j] = false) : findI f xs = (k : Int) := by
  have : xs.findIdx? f = some k := by
    rw [List.findIdx?_eq_some_iff_getElem]; exact ⟨hk, h, fun j hj => by simp [ha j (by omega) hj]⟩
  rw [findI, this]
theorem findI_none {α : Type} {f : α → Bool} {xs : List α} (ha : ∀ j (hj : j < xs.length), f xs[j] = false) : findI f xs = -1 := by
  have : xs.findIdx? f = none := by
    rw [List.findIdx?_eq_none_iff]; intro x hx
    obtain ⟨i, hi, rfl⟩ := List.getElem_of_mem hx
    exact ha i hi
  rw [findI, this]
theorem findI_nn {α : Type} {f : α → Bool} {xs : List α} : 0 ≤ findI f xs ↔ xs.any f = true := by
  unfold findI
  cases h : xs.findIdx? f with
  | none =>
    rw [List.findIdx?_eq_none_iff] at h
    simp only [List.any_eq_true]
    constructor
    · intro h'; omega
    · rintro ⟨x, hx, hf⟩; rw [h x hx] at hf; cases hf
  | some i =>
    rw [List.findIdx?_eq_some_iff_getElem] at h
    obtain ⟨hi, hf, _⟩ := h
    simp only [List.any_eq_true]
    exact ⟨fun _ => ⟨_, List.getElem_mem hi, hf⟩, fun _ => by omega⟩
theorem findI_lt {α : Type} {f : α → Bool} {xs : List α} : -1 ≤ findI f xs ∧ findI f xs < xs.length := by
  unfold findI
  cases h : xs.findIdx? f with
  | none => simp only; omega
  | some i =>
    rw [List.findIdx?_eq_some_iff_getElem] at h
    obtain ⟨hi, _⟩ := h
    simp only; omega

theorem set_flat1 {α : Type} {enc : α → List Value} {s : List Value} {y : α} {v : Value} (he : enc y = [v]) : ∀ (xs : List α) (i : Nat), i < xs.length → (∀ x ∈ xs, (enc x).length = 1) →
    ((xs.map enc).flatten ++ s).set i v = ((xs.set i y).map enc).flatten ++ s
  | [], i, h, _ => absurd h (Nat.not_lt_zero i)
  | x :: r, 0, _, hl => by
    have h1 := hl x (List.mem_cons_self ..)
    match hx : enc x, h1 with
    | [u], _ => simp [hx, he]
  | x :: r, i + 1, h, hl => by
    have h1 := hl x (List.mem_cons_self ..)
    have ih := set_flat1 (s := s) he r i (by simpa using h) (fun z hz => hl z (List.mem_cons_of_mem _ hz))
    match hx : enc x, h1 with
    | [u], _ => simpa [hx] using ih
section
variable {P : Program} {f : FuncId} {N : Nat} {R : Ending → World → Prop} {k : List Item} {σ : Env} {w : World} {ops : Array Oper} {rest : List Oper} {ty : TypeId} {pos : String} {aft : Array Edge} {gd : Option (Nat × Bool)}
/-- one cell is stored as element i of a slice of our own -/
theorem ostoreOw1 {α : Type} {enc : α → List Value} {x yo : Operand} {t T : TypeId} {lo hi n c i : Nat} {p : Option Addr} {xs : List α} {y : α} {v : Value} (hs : ∀ w, (sizeOf t).run P w = .ok 1 w)
    (ho : Ow enc 1 T w lo hi p n c xs) (hi' : i < n) (hx : ev σ x = some (.pointer (some ⟨pb p, po p + i * 1, none⟩))) (hy : ev σ yo = some v) (he : enc y = [v]) (h1 : v.oneCell' = true)
    (hg : wantedE ops σ ⟨none, .store t x yo, ty, pos, aft, gd⟩ = some true)
    (h : ∀ w', Mk lo hi w w' → Ow enc 1 T w' lo hi p n c (xs.set i y) → Ops P f N R ops rest k σ w') :
    Ops P f N R ops (⟨none, .store t x yo, ty, pos, aft, gd⟩ :: rest) k σ w := by
  have hl := ho.len; have hc := ho.cap
  rcases ho.row with ⟨_, h2⟩ | ⟨b, s, rfl, h3, h4, h5, h6⟩
  · omega
  · have hlen : ((xs.map enc).flatten).length = n * 1 := ho.rows
    refine ostore1 hs (b := b) (o := i) (by rw [hx]; simp [pb, po]) hy h5 (by simp only [List.length_append]; omega) h1 hg fun w' hon hown => h w' (Mk.ofOnly hon h3 h4) ?_
    rw [set_flat1 he xs i (by omega) ho.esz] at hown
    refine ⟨by rw [List.length_set]; exact hl, hc, ho.big, .inr ⟨b, s, rfl, h3, h4, hown, h6⟩, fun z hz => ?_⟩
    rcases List.mem_or_eq_of_mem_set hz with hz | rfl
    · exact ho.esz z hz
    · rw [he]; rfl
end
end Go.Proofs.Ytinpkihmkfiidaa

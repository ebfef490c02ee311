/-
  More operations: slices of slices and of texts, values that are built, arrays of two elements; searches with a function value.
-/
import Derived.Test.YtchblgaklknkcaaGreatBase
import Derived.Test.YtchblgaklknkcaaGreatGrow
namespace Go.Proofs.YtchblgaklknkcaaGreat
open Go.RowKit
set_option linter.unusedVariables false
set_option linter.unusedSimpArgs false
set_option linter.unusedSectionVars false
set_option maxRecDepth 4000
theorem eqL_refl {α : Type} {f : α → α → Bool} (hf : ∀ x, f x x = true) (xs : List α) : eqL f xs xs = true :=
  eqL_eq rfl (allB_iff.2 fun i hi => by rw [eqAt_of hi hi]; exact hf _)
def i64c (n : Int) : List Value := [.int .i64 n]
def strc (s : ByteArray) : List Value := [.string s]
def eqI (a b : Int) : Bool := decide (a = b)
theorem eqI_refl (a : Int) : eqI a a = true := by simp [eqI]
end Go.Proofs.YtchblgaklknkcaaGreat
namespace Go.Proofs.YtchblgaklknkcaaGreat
open Go.RowKit
set_option linter.unusedVariables false
set_option linter.unusedSimpArgs false
set_option linter.unusedSectionVars false
structure Hd where
  p : Option Addr
  n : Nat
  c : Nat
structure X (τ : Type) where
  v : τ
  h : Hd
def hd0 : Hd := ⟨none, 0, 0⟩
section
variable {τ β : Type} {cells : τ → Hd → List Value} {sz : Nat} {inn : τ → List β} {encI : β → List Value} {szI : Nat} {w w' : World} {p : Option Addr} {n c lo hi lo' hi' : Nat} {vs : List τ} {hd : Nat → Hd} {T TI : TypeId} {xs ys : List (X τ)}
structure NS {τ β : Type} (cells : τ → Hd → List Value) (sz : Nat) (inn : τ → List β) (encI : β → List Value) (szI : Nat) (w : World) (p : Option Addr) (n c : Nat) (vs : List τ) (hd : Nat → Hd) : Prop where
  len : n = vs.length
  cap : n ≤ c
  big : c ≤ maxLen
  ptr : 0 < n → p = some ⟨pb p, po p, none⟩
  el : ∀ i (h : i < vs.length), Cells w (pb p) (po p + i * sz) (cells vs[i] (hd i))
  el2 : ∀ i (h : i < vs.length), Sl encI szI w (hd i).p (hd i).n (hd i).c (inn vs[i])
def Sn {τ β : Type} (cells : τ → Hd → List Value) (sz : Nat) (inn : τ → List β) (encI : β → List Value) (szI : Nat) (w : World) (p : Option Addr) (n c : Nat) (vs : List τ) : Prop :=
  ∃ hd : Nat → Hd, NS cells sz inn encI szI w p n c vs hd
theorem NS.ext (h : NS cells sz inn encI szI w p n c vs hd) (hx : Ext w w') : NS cells sz inn encI szI w' p n c vs hd :=
  ⟨h.len, h.cap, h.big, h.ptr, fun i hi => (h.el i hi).ext hx, fun i hi => (h.el2 i hi).ext hx⟩
theorem NS.at (h : NS cells sz inn encI szI w p n c vs hd) {i : Nat} (hi : i < vs.length) : Cells w (pb p) (po p + i * sz) (cells vs[i] (hd i)) := h.el i hi
theorem NS.inner (h : NS cells sz inn encI szI w p n c vs hd) {i : Nat} (hi : i < vs.length) : Sl encI szI w (hd i).p (hd i).n (hd i).c (inn vs[i]) := h.el2 i hi
theorem NS.n64 (h : NS cells sz inn encI szI w p n c vs hd) : vs.length ≤ 9223372036854775807 := by
 have h1 := h.len; have h2 := h.cap; have h3 := h.big; unfold maxLen at h3; omega
theorem Sn.ext (h : Sn cells sz inn encI szI w p n c vs) (hx : Ext w w') : Sn cells sz inn encI szI w' p n c vs := let ⟨hd, h⟩ := h; ⟨hd, h.ext hx⟩
theorem Sn.len (h : Sn cells sz inn encI szI w p n c vs) : n = vs.length := let ⟨_, h⟩ := h; h.len
theorem Sn.cap (h : Sn cells sz inn encI szI w p n c vs) : n ≤ c := let ⟨_, h⟩ := h; h.cap
theorem Sn.n64 (h : Sn cells sz inn encI szI w p n c vs) : vs.length ≤ 9223372036854775807 := let ⟨_, h⟩ := h; h.n64
theorem NS.sn (h : NS cells sz inn encI szI w p n c vs hd) : Sn cells sz inn encI szI w p n c vs := ⟨_, h⟩
theorem Sn.sn (h : Sn cells sz inn encI szI w p n c vs) : Sn cells sz inn encI szI w p n c vs := h
theorem Sn.none (cells : τ → Hd → List Value) (sz : Nat) (inn : τ → List β) (encI : β → List Value) (szI : Nat) (w : World) : Sn cells sz inn encI szI w none 0 0 [] :=
  ⟨fun _ => hd0, rfl, Nat.le_refl _, Nat.zero_le _, fun h => absurd h (Nat.lt_irrefl _), fun i h => absurd h (Nat.not_lt_zero i), fun i h => absurd h (Nat.not_lt_zero i)⟩
end
theorem NS.p {τ β : Type} {cells : τ → Hd → List Value} {sz : Nat} {inn : τ → List β} {encI : β → List Value} {szI : Nat} {w : World} {q : Option Addr} {n c : Nat} {vs : List τ} {hd : Nat → Hd} (h : NS cells sz inn encI szI w q n c vs hd) {i : Nat} (hi : i < vs.length) : q = some ⟨pb q, po q, Option.none⟩ := h.ptr (by have := h.len; omega)
section
variable {τ β : Type} {cells : τ → Hd → List Value} {sz : Nat} {inn : τ → List β} {encI : β → List Value} {szI : Nat} {w w' : World} {p : Option Addr} {n c lo hi lo' hi' : Nat} {vs : List τ} {hd : Nat → Hd} {T TI : TypeId} {xs ys : List (X τ)}
def xc (cells : τ → Hd → List Value) (x : X τ) : List Value := cells x.v x.h
structure Inn {τ β : Type} (inn : τ → List β) (encI : β → List Value) (szI : Nat) (TI : TypeId) (w : World) (lo hi : Nat) (xs : List (X τ)) : Prop where
  i : ∀ x ∈ xs, Ow encI szI TI w lo hi x.h.p x.h.n x.h.c (inn x.v)
  two : xs.Pairwise fun a b => a.h.p ≠ Option.none → b.h.p ≠ Option.none → pb a.h.p ≠ pb b.h.p
theorem Inn.nil : Inn inn encI szI TI w lo hi [] := ⟨fun _ h => (by cases h), List.Pairwise.nil⟩
theorem Inn.ext (h : Inn inn encI szI TI w lo hi xs) (hx : Ext w w') : Inn inn encI szI TI w' lo hi xs := ⟨fun x m => (h.i x m).ext hx, h.two⟩
theorem Inn.wide (h : Inn inn encI szI TI w lo hi xs) (h1 : lo' ≤ lo) (h2 : hi ≤ hi') : Inn inn encI szI TI w lo' hi' xs := ⟨fun x m => (h.i x m).wide h1 h2, h.two⟩
theorem Inn.off {l h' : Nat} (h : Inn inn encI szI TI w lo hi xs) (hx : Mk l h' w w') (hd : hi ≤ l ∨ h' ≤ lo) : Inn inn encI szI TI w' lo hi xs := ⟨fun x m => (h.i x m).off hx hd, h.two⟩
theorem Inn.only {b : Nat} (h : Inn inn encI szI TI w lo hi xs) (hx : Only b w w') (hd : hi ≤ b ∨ b + 1 ≤ lo) : Inn inn encI szI TI w' lo hi xs := ⟨fun x m => (h.i x m).only hx hd, h.two⟩
theorem Ow.block {α : Type} {enc : α → List Value} {xs : List α} (h : Ow enc sz T w lo hi p n c xs) (hp : p ≠ Option.none) : lo ≤ pb p ∧ pb p < hi ∧ ∃ cs, Own w (pb p) cs T := by
 rcases h.row with ⟨h1, _⟩ | ⟨b, s, h1, h2, h3, h4, _⟩
 · exact absurd h1 hp
 · subst h1; exact ⟨h2, h3, _, h4⟩
theorem Own.type {b : Nat} {cs ds : List Value} {T T' : TypeId} (h : Own w b cs T) (k : Own w b ds T') : T = T' := by
 unfold Own at h k; rw [h] at k; simp only [Option.some.injEq, Obj.cells.injEq] at k; exact k.2.1
theorem Ow.narrow {α : Type} {enc : α → List Value} {xs : List α} (h : Ow enc sz T w lo hi p n c xs) : Ow enc sz T w (pb p) (hend p) p n c xs := by
 refine ⟨h.len, h.cap, h.big, h.row.imp id fun ⟨b, s, h1, h2, h3, h4, h5⟩ => ⟨b, s, h1, ?_, ?_, h4, h5⟩, h.esz⟩
 · subst h1; exact Nat.le_refl _
 · subst h1; exact Nat.lt_succ_self _
theorem Mk.off_own {a : Option Addr} {b : Nat} {cs : List Value} (m : Mk (pb a) (hend a) w w') (ho : Own w b cs T) (hn : a ≠ Option.none → pb a ≠ b) : Own w' b cs T := by
 refine m.own ho ?_
 cases a with
 | none => simp [pb, hend]
 | some a => have := hn (by simp); simp only [pb, hend, Option.getD_some] at *; omega
theorem Inn.push {y : X τ} (h : Inn inn encI szI TI w lo hi xs) (k : Ow encI szI TI w lo' hi' y.h.p y.h.n y.h.c (inn y.v)) (h1 : hi ≤ lo') (h2 : lo ≤ lo') (h3 : hi ≤ hi') : Inn inn encI szI TI w lo hi' (xs ++ [y]) := by
 refine ⟨fun x m => ?_, List.pairwise_append.2 ⟨h.two, List.pairwise_singleton _ _, fun a ha b hb => ?_⟩⟩
 · rcases List.mem_append.1 m with m | m
   · exact (h.i x m).wide (Nat.le_refl _) h3
   · rw [List.mem_singleton] at m; subst m; exact k.wide h2 (Nat.le_refl _)
 · rw [List.mem_singleton] at hb; subst hb
   intro ha' hb'
   have h4 := (h.i a ha).block ha'
   have h5 := k.block hb'
   omega
theorem Inn.ne {b : Nat} {cs : List Value} (h : Inn inn encI szI TI w lo hi xs) (ho : Own w b cs T) (hT : T ≠ TI) {x : X τ} (m : x ∈ xs) (hp : x.h.p ≠ Option.none) : pb x.h.p ≠ b := by
 intro he
 obtain ⟨_, _, ds, hds⟩ := (h.i x m).block hp
 rw [he] at hds
 exact hT (ho.type hds)
theorem Inn.onlyT {b : Nat} {cs : List Value} (h : Inn inn encI szI TI w lo hi xs) (ho : Own w b cs T) (hT : T ≠ TI) (hx : Only b w w') : Inn inn encI szI TI w' lo hi xs := by
 refine ⟨fun x m => ?_, h.two⟩
 rcases (h.i x m).row with ⟨h1, _⟩ | ⟨b', s, h1, h2, h3, h4, h5⟩
 · have k := h.i x m
   exact ⟨k.len, k.cap, k.big, .inl ⟨h1, by rcases k.row with ⟨_, h2⟩ | ⟨_, _, h2, _⟩; exact h2; rw [h1] at h2; cases h2⟩, k.esz⟩
 · have hb : b' ≠ b := by
     have := h.ne ho hT m (by rw [h1]; simp)
     rw [h1] at this; exact this
   have k := h.i x m
   exact ⟨k.len, k.cap, k.big, .inr ⟨b', s, h1, h2, h3, hx.own h4 hb, h5⟩, k.esz⟩
theorem Inn.offT {α : Type} {enc : α → List Value} {zs : List α} {l' h' : Nat} (h : Inn inn encI szI TI w lo hi xs) (ho : Ow enc sz T w l' h' p n c zs) (hT : T ≠ TI) (hx : Mk (pb p) (hend p) w w') : Inn inn encI szI TI w' lo hi xs := by
 refine ⟨fun x m => ?_, h.two⟩
 have k := h.i x m
 refine ⟨k.len, k.cap, k.big, k.row.imp id fun ⟨b', s, h1, h2, h3, h4, h5⟩ => ⟨b', s, h1, h2, h3, hx.off_own h4 fun hp => ?_, h5⟩, k.esz⟩
 obtain ⟨_, _, cs, hcs⟩ := ho.block hp
 have := h.ne hcs hT m (by rw [h1]; simp)
 rw [h1] at this; exact fun e => this e.symm
structure NOw {τ β : Type} (cells : τ → Hd → List Value) (sz : Nat) (T : TypeId) (inn : τ → List β) (encI : β → List Value) (szI : Nat) (TI : TypeId) (w : World) (lo hi : Nat) (p : Option Addr) (n c : Nat) (xs : List (X τ)) : Prop where
  o : Ow (xc cells) sz T w lo hi p n c xs
  i : Inn inn encI szI TI w lo hi xs
def On {τ β : Type} (cells : τ → Hd → List Value) (sz : Nat) (T : TypeId) (inn : τ → List β) (encI : β → List Value) (szI : Nat) (TI : TypeId) (w : World) (lo hi : Nat) (p : Option Addr) (n c : Nat) (vs : List τ) : Prop :=
  ∃ xs : List (X τ), xs.map X.v = vs ∧ NOw cells sz T inn encI szI TI w lo hi p n c xs
theorem NOw.ext (h : NOw cells sz T inn encI szI TI w lo hi p n c xs) (hx : Ext w w') : NOw cells sz T inn encI szI TI w' lo hi p n c xs := ⟨h.o.ext hx, h.i.ext hx⟩
theorem NOw.wide (h : NOw cells sz T inn encI szI TI w lo hi p n c xs) (h1 : lo' ≤ lo) (h2 : hi ≤ hi') : NOw cells sz T inn encI szI TI w lo' hi' p n c xs := ⟨h.o.wide h1 h2, h.i.wide h1 h2⟩
theorem NOw.off {l h' : Nat} (h : NOw cells sz T inn encI szI TI w lo hi p n c xs) (hx : Mk l h' w w') (hd : hi ≤ l ∨ h' ≤ lo) : NOw cells sz T inn encI szI TI w' lo hi p n c xs := ⟨h.o.off hx hd, h.i.off hx hd⟩
theorem NOw.only {b : Nat} (h : NOw cells sz T inn encI szI TI w lo hi p n c xs) (hx : Only b w w') (hd : hi ≤ b ∨ b + 1 ≤ lo) : NOw cells sz T inn encI szI TI w' lo hi p n c xs := ⟨h.o.only hx hd, h.i.only hx hd⟩
theorem NOw.ns (h : NOw cells sz T inn encI szI TI w lo hi p n c xs) : NS cells sz inn encI szI w p n c (xs.map X.v) (fun i => match xs[i]? with
    | some x => x.h
    | none => hd0) := by
  have hs := h.o.sl
  refine ⟨by rw [List.length_map]; exact hs.len, hs.cap, hs.big, hs.ptr, fun i hi => ?_, fun i hi => ?_⟩
  · have hi' : i < xs.length := by simpa using hi
    have := hs.el i hi'
    simpa [xc, List.getElem?_eq_getElem hi'] using this
  · have hi' : i < xs.length := by simpa using hi
    have := (h.i.i xs[i] (List.getElem_mem hi')).sl
    simpa [List.getElem?_eq_getElem hi'] using this
theorem NOw.sl (h : NOw cells sz T inn encI szI TI w lo hi p n c xs) : Sn cells sz inn encI szI w p n c (xs.map X.v) := ⟨_, h.ns⟩
theorem NOw.none (cells : τ → Hd → List Value) (sz : Nat) (T : TypeId) (inn : τ → List β) (encI : β → List Value) (szI : Nat) (TI : TypeId) (w : World) (lo hi : Nat) : NOw cells sz T inn encI szI TI w lo hi none 0 0 [] := ⟨Ow.none _ _ _ _ _ _, Inn.nil⟩
theorem On.ext (h : On cells sz T inn encI szI TI w lo hi p n c vs) (hx : Ext w w') : On cells sz T inn encI szI TI w' lo hi p n c vs := let ⟨xs, e, h⟩ := h; ⟨xs, e, h.ext hx⟩
theorem On.wide (h : On cells sz T inn encI szI TI w lo hi p n c vs) (h1 : lo' ≤ lo) (h2 : hi ≤ hi') : On cells sz T inn encI szI TI w lo' hi' p n c vs := let ⟨xs, e, h⟩ := h; ⟨xs, e, h.wide h1 h2⟩
theorem On.off {l h' : Nat} (h : On cells sz T inn encI szI TI w lo hi p n c vs) (hx : Mk l h' w w') (hd : hi ≤ l ∨ h' ≤ lo) : On cells sz T inn encI szI TI w' lo hi p n c vs := let ⟨xs, e, h⟩ := h; ⟨xs, e, h.off hx hd⟩
theorem On.only {b : Nat} (h : On cells sz T inn encI szI TI w lo hi p n c vs) (hx : Only b w w') (hd : hi ≤ b ∨ b + 1 ≤ lo) : On cells sz T inn encI szI TI w' lo hi p n c vs := let ⟨xs, e, h⟩ := h; ⟨xs, e, h.only hx hd⟩
theorem On.sl (h : On cells sz T inn encI szI TI w lo hi p n c vs) : Sn cells sz inn encI szI w p n c vs := let ⟨xs, e, h⟩ := h; e ▸ h.sl
theorem On.len (h : On cells sz T inn encI szI TI w lo hi p n c vs) : n = vs.length := h.sl.len
theorem On.none (cells : τ → Hd → List Value) (sz : Nat) (T : TypeId) (inn : τ → List β) (encI : β → List Value) (szI : Nat) (TI : TypeId) (w : World) (lo hi : Nat) : On cells sz T inn encI szI TI w lo hi none 0 0 [] := ⟨[], rfl, NOw.none _ _ _ _ _ _ _ _ _ _⟩
theorem NOw.on (h : NOw cells sz T inn encI szI TI w lo hi p n c xs) : On cells sz T inn encI szI TI w lo hi p n c (xs.map X.v) := ⟨xs, rfl, h⟩
end
section
variable {P : Program} {f : FuncId} {N : Nat} {R : Ending → World → Prop} {k : List Item} {σ : Env} {w w0 : World} {ops : Array Oper} {rest : List Oper} {dd i fuel : Nat} {listed : Array Bool} {Z : Act → World → Prop} {ty : TypeId} {pos : String} {aft : Array Edge} {gd : Option (Nat × Bool)}
variable {τ β : Type} {cells : τ → Hd → List Value} {inn : τ → List β} {encI : β → List Value} {sz szI lo hi lo2 hi2 bytes : Nat} {t T TI : TypeId} {p q : Option Addr} {n c dc : Nat} {xs : List (X τ)} {z : X τ} {x y : Operand}
end
theorem Own.mid {w : World} {b : Nat} {T : TypeId} {pre row post : List Value} {o : Nat} (h : Own w b (pre ++ (row ++ post)) T) (ho : o = pre.length) : Cells w b o row := by
 subst ho
 intro j v hv
 have hj : j < row.length := by
   rcases Nat.lt_or_ge j row.length with h1 | h1
   · exact h1
   · rw [List.getElem?_eq_none h1] at hv; cases hv
 have := h.cells (pre.length + j) v (by rw [List.getElem?_append_right (by omega), show pre.length + j - pre.length = j from by omega, List.getElem?_append_left hj]; exact hv)
 simpa using this
end Go.Proofs.YtchblgaklknkcaaGreat
namespace Go.Proofs.YtchblgaklknkcaaGreat
open Go.RowKit
set_option linter.unusedVariables false
set_option linter.unusedSimpArgs false
set_option linter.unusedSectionVars false
set_option maxRecDepth 4000
def szI (_ : Int) (l : Int) : Int := l
structure Poll where
  Need : Int
  Votes : List (List Int)
def Poll.ok (x : Poll) : Prop := I64 x.Need ∧ ∀ v ∈ x.Votes, ∀ y ∈ v, I64 y
def cellsInt64SS (v : (List Int)) (h : Hd) : List Value := [.slice h.p h.n h.c]
def innInt64SS (v : (List Int)) : List Int := v
abbrev SnInt64SS (w : World) (p : Option Addr) (n c : Nat) (vs : List (List Int)) : Prop := Sn cellsInt64SS 1 innInt64SS i64c 1 w p n c vs
abbrev OnInt64SS (w : World) (lo hi : Nat) (p : Option Addr) (n c : Nat) (vs : List (List Int)) : Prop := On cellsInt64SS 1 24 innInt64SS i64c 1 2 w lo hi p n c vs
end Go.Proofs.YtchblgaklknkcaaGreat
namespace Go.Proofs.YtchblgaklknkcaaGreat
open Go.RowKit
set_option linter.unusedVariables false
set_option linter.unusedSimpArgs false
set_option linter.unusedSectionVars false
set_option maxRecDepth 4000
structure Question where
  Label : ByteArray
  Yes : Int
  No : Int
def Question.cells (r : Question) : List Value := [.string r.Label, .int .i64 r.Yes, .int .i64 r.No]
def Question.ok (r : Question) : Prop := r.Label.size ≤ 9223372036854775807 ∧ I64 r.Yes ∧ I64 r.No
theorem Question.len (r : Question) : r.cells.length = 3 := rfl
end Go.Proofs.YtchblgaklknkcaaGreat
namespace Go.Proofs.YtchblgaklknkcaaGreat
open Go.RowKit Go.Proofs
set_option linter.unusedVariables false
set_option linter.unusedSimpArgs false
set_option linter.unusedSectionVars false
section
variable {P : Program} {N : Nat} {σ : Env} {w : World} {d : Option Nat} {ty : TypeId} {pos : String} {aft : Array Edge} {gd : Option (Nat × Bool)}
theorem xslice_h {x y : Operand} {t e : TypeId} {p : Option Addr} {n c sz k : Nat} {m : Int} {kk : IntKind} (ht : P.underlying t = some (.slice e)) (hs : ∀ w, (sizeOf e).run P w = .ok sz w)
    (hx : ev σ x = some (.slice p n c)) (hy : ev σ y = some (.int kk m)) (hm : m = (k : Int)) (hk : k ≤ c) :
    XV P N σ ⟨d, .slice t x none (some y) none, ty, pos, aft, gd⟩ w (.slice p k c) w := fun a ha => by
  subst hm
  have he : P.elem t = e := by simp [Program.elem, ht]
  have ht' : P.underlying t = some (.slice (P.elem t)) := by rw [he]; exact ht
  have h1 := run_slice_h (P := P) (w := w) t p n c ht' kk (k : Int) (by omega) (by omega)
  rw [he, hs] at h1
  simp [execOp, ha.eval hx, ha.eval hy, run_sliceAt_slice (P := P) (w := w) t _ _ _ _ ht', h1, Result.andThen, sliced, Addr.add]
theorem Sl.take {α : Type} {enc : α → List Value} {sz : Nat} {w : World} {p : Option Addr} {n c k : Nat} {xs : List α} (h : Sl enc sz w p n c xs) (hk : k ≤ n) : Sl enc sz w p k c (xs.take k) := by
 have hl := h.len
 refine ⟨by simp; omega, by have := h.cap; omega, h.big, fun h0 => h.ptr (by omega), fun i hi => ?_, h.nil⟩
 have hi' : i < xs.length := by simp at hi; omega
 have := h.el i hi'
 rw [List.getElem_take]; exact this
theorem xbuild {parts : Array (Nat × Operand)} {vs : List Value} {cells : Array Value} {t : TypeId} (hp : evs σ (parts.toList.map (·.2)) = some vs)
    (hb : P.built t ((parts.toList.map (·.1)).zip vs) = some cells) : XV P N σ ⟨d, .build t parts, ty, pos, aft, gd⟩ w (.agg cells) w := fun a ha => by
  have e0 : parts.toList.map (fun x => a.eval x.2) = vs := by
    have := evs_map ha _ _ hp
    rw [List.map_map] at this; exact this
  have e1 : List.map (fun x : Nat × Operand => (x.1, a.eval x.2)) parts.toList = (parts.toList.map (·.1)).zip vs := by
    rw [← e0]
    generalize parts.toList = l
    induction l with
    | nil => rfl
    | cons x l ih => simp [ih]
  have h1 := run_build (P := P) w t (parts.map fun (i, x) => (i, a.eval x)) cells (by
    rw [Array.toList_map]; exact (congrArg _ e1).trans hb)
  simp only [execOp]
  simp at h1 ⊢
  rw [h1]; rfl
def pick2 {α : Type} (j : Nat) (x y : α) : α := if j = 0 then x else y
theorem xindexA2 {x y : Operand} {t e : TypeId} {u v : Int} {j : Nat} {m : Int} {k k1 : IntKind} (ht : P.underlying t = some (.array 2 e)) (hs : ∀ w, (sizeOf e).run P w = .ok 1 w) (ha' : ∀ w, (isAgg e).run P w = .ok false w)
    (hx : ev σ x = some (.agg #[.int k1 u, .int k1 v])) (hy : ev σ y = some (.int k m)) (hm : m = (j : Int)) (hj : j < 2) :
    XV P N σ ⟨d, .index t x y, ty, pos, aft, gd⟩ w (.int k1 (pick2 j u v)) w := fun a ha => by
  subst hm
  match j, hj with
  | 0, _ => simp [execOp, ha.eval hx, ha.eval hy, Instr.index, run_underlying ht, asIntOf, part, hs, ha', pick2]
  | 1, _ => simp [execOp, ha.eval hx, ha.eval hy, Instr.index, run_underlying ht, asIntOf, part, hs, ha', pick2]
end
theorem below_succ {α : Type} {xs : List α} {q : α → Prop} {k : Nat} (ha : ∀ j (hj : j < xs.length), j < k → q xs[j]) (h : ∀ hk : k < xs.length, q xs[k]) : ∀ j (hj : j < xs.length), j < k + 1 → q xs[j] := fun j hj h1 => by
  rcases (by omega : j < k ∨ j = k) with h2 | h2
  · exact ha j hj h2
  · subst h2; exact h hj
def findI {α : Type} (f : α → Bool) (xs : List α) : Int := match xs.findIdx? f with
  | some i => (i : Int)
  | none => -1
theorem findI_at {α : Type} {f : α → Bool} {xs : List α} {k : Nat} (hk : k < xs.length) (h : f xs[k] = true) (ha : ∀ j (hj : j < xs.length), j < k → f xs[j] = false) : findI f xs = (k : Int) := by
 have : xs.findIdx? f = some k := by
   rw [List.findIdx?_eq_some_iff_getElem]; exact ⟨hk, h, fun j hj => by simp [ha j (by omega) hj]⟩
 rw [findI, this]
theorem findI_none {α : Type} {f : α → Bool} {xs : List α} (ha : ∀ j (hj : j < xs.length), f xs[j] = false) : findI f xs = -1 := by
 have : xs.findIdx? f = none := by
   rw [List.findIdx?_eq_none_iff]; intro x hx
   obtain ⟨i, hi, rfl⟩ := List.getElem_of_mem hx
   exact ha i hi
 rw [findI, this]
theorem findI_nn {α : Type} {f : α → Bool} {xs : List α} : 0 ≤ findI f xs ↔ xs.any f = true := by
 unfold findI
 cases h : xs.findIdx? f with
 | none =>
   rw [List.findIdx?_eq_none_iff] at h
   simp only [List.any_eq_true]
   constructor
   · intro h'; omega
   · rintro ⟨x, hx, hf⟩; rw [h x hx] at hf; cases hf
 | some i =>
   rw [List.findIdx?_eq_some_iff_getElem] at h
   obtain ⟨hi, hf, _⟩ := h
   simp only [List.any_eq_true]
   exact ⟨fun _ => ⟨_, List.getElem_mem hi, hf⟩, fun _ => by omega⟩
theorem set_flat1 {α : Type} {enc : α → List Value} {s : List Value} {y : α} {v : Value} (he : enc y = [v]) : ∀ (xs : List α) (i : Nat), i < xs.length → (∀ x ∈ xs, (enc x).length = 1) →
    ((xs.map enc).flatten ++ s).set i v = ((xs.set i y).map enc).flatten ++ s
  | [], i, h, _ => absurd h (Nat.not_lt_zero i)
  | x :: r, 0, _, hl => by
    have h1 := hl x (List.mem_cons_self ..)
    match hx : enc x, h1 with
    | [u], _ => simp [hx, he]
  | x :: r, i + 1, h, hl => by
    have h1 := hl x (List.mem_cons_self ..)
    have ih := set_flat1 (s := s) he r i (by simpa using h) (fun z hz => hl z (List.mem_cons_of_mem _ hz))
    match hx : enc x, h1 with
    | [u], _ => simpa [hx] using ih
section
variable {P : Program} {f : FuncId} {N : Nat} {R : Ending → World → Prop} {k : List Item} {σ : Env} {w : World} {ops : Array Oper} {rest : List Oper} {ty : TypeId} {pos : String} {aft : Array Edge} {gd : Option (Nat × Bool)}
theorem ostoreOw1 {α : Type} {enc : α → List Value} {x yo : Operand} {t T : TypeId} {lo hi n c i : Nat} {p : Option Addr} {xs : List α} {y : α} {v : Value} (hs : ∀ w, (sizeOf t).run P w = .ok 1 w)
    (ho : Ow enc 1 T w lo hi p n c xs) (hi' : i < n) (hx : ev σ x = some (.pointer (some ⟨pb p, po p + i * 1, none⟩))) (hy : ev σ yo = some v) (he : enc y = [v]) (h1 : v.oneCell' = true)
    (hg : wantedE ops σ ⟨none, .store t x yo, ty, pos, aft, gd⟩ = some true)
    (h : ∀ w', Mk lo hi w w' → Ow enc 1 T w' lo hi p n c (xs.set i y) → Ops P f N R ops rest k σ w') :
    Ops P f N R ops (⟨none, .store t x yo, ty, pos, aft, gd⟩ :: rest) k σ w := by
  have hl := ho.len; have hc := ho.cap
  rcases ho.row with ⟨_, h2⟩ | ⟨b, s, rfl, h3, h4, h5, h6⟩
  · omega
  · have hlen : ((xs.map enc).flatten).length = n * 1 := ho.rows
    refine ostore1 hs (b := b) (o := i) (by rw [hx]; simp [pb, po]) hy h5 (by simp only [List.length_append]; omega) h1 hg fun w' hon hown => h w' (Mk.ofOnly hon h3 h4) ?_
    rw [set_flat1 he xs i (by omega) ho.esz] at hown
    refine ⟨by rw [List.length_set]; exact hl, hc, ho.big, .inr ⟨b, s, rfl, h3, h4, hown, h6⟩, fun z hz => ?_⟩
    rcases List.mem_or_eq_of_mem_set hz with hz | rfl
    · exact ho.esz z hz
    · rw [he]; rfl
end
end Go.Proofs.YtchblgaklknkcaaGreat

/-
  Slices of elements that hold a slice each: how they are read, and how they are our own. No condition beyond those written in each law.
-/
import Derived.Test.YtinpkihmkfiidaaGrow
namespace Go.Proofs.Ytinpkihmkfiidaa
open Go.RowKit
set_option linter.unusedVariables false
set_option linter.unusedSimpArgs false
set_option linter.unusedSectionVars false

/-- the header of an inner slice -/
structure Hd where
  p : Option Addr
  n : Nat
  c : Nat
/-- an element and the header of its slice -/
structure X (τ : Type) where
  v : τ
  h : Hd
def hd0 : Hd := ⟨none, 0, 0⟩
section
variable {τ β : Type} {cells : τ → Hd → List Value} {sz : Nat} {inn : τ → List β} {encI : β → List Value} {szI : Nat} {w w' : World} {p : Option Addr} {n c lo hi lo' hi' : Nat} {vs : List τ} {hd : Nat → Hd} {T TI : TypeId} {xs ys : List (X τ)}

structure NS {τ β : Type} (cells : τ → Hd → List Value) (sz : Nat) (inn : τ → List β) (encI : β → List Value) (szI : Nat) (w : World) (p : Option Addr) (n c : Nat) (vs : List τ) (hd : Nat → Hd) : Prop where
  len : n = vs.length
  cap : n ≤ c
  big : c ≤ maxLen
  ptr : 0 < n → p = some ⟨pb p, po p, none⟩
  el : ∀ i (h : i < vs.length), Cells w (pb p) (po p + i * sz) (cells vs[i] (hd i))
  el2 : ∀ i (h : i < vs.length), Sl encI szI w (hd i).p (hd i).n (hd i).c (inn vs[i])
/-- a slice of elements with slices, that is read -/
def Sn {τ β : Type} (cells : τ → Hd → List Value) (sz : Nat) (inn : τ → List β) (encI : β → List Value) (szI : Nat) (w : World) (p : Option Addr) (n c : Nat) (vs : List τ) : Prop :=
  ∃ hd : Nat → Hd, NS cells sz inn encI szI w p n c vs hd

theorem NS.ext (h : NS cells sz inn encI szI w p n c vs hd) (hx : Ext w w') : NS cells sz inn encI szI w' p n c vs hd :=
  ⟨h.len, h.cap, h.big, h.ptr, fun i hi => (h.el i hi).ext hx, fun i hi => (h.el2 i hi).ext hx⟩
theorem NS.at (h : NS cells sz inn encI szI w p n c vs hd) {i : Nat} (hi : i < vs.length) : Cells w (pb p) (po p + i * sz) (cells vs[i] (hd i)) := h.el i hi
theorem NS.inner (h : NS cells sz inn encI szI w p n c vs hd) {i : Nat} (hi : i < vs.length) : Sl encI szI w (hd i).p (hd i).n (hd i).c (inn vs[i]) := h.el2 i hi
theorem NS.n64 (h : NS cells sz inn encI szI w p n c vs hd) : vs.length ≤ 9223372036854775807 := by
  have h1 := h.len; have h2 := h.cap; have h3 := h.big; unfold maxLen at h3; omega
theorem Sn.ext (h : Sn cells sz inn encI szI w p n c vs) (hx : Ext w w') : Sn cells sz inn encI szI w' p n c vs := let ⟨hd, h⟩ := h; ⟨hd, h.ext hx⟩
theorem Sn.len (h : Sn cells sz inn encI szI w p n c vs) : n = vs.length := let ⟨_, h⟩ := h; h.len
theorem Sn.cap (h : Sn cells sz inn encI szI w p n c vs) : n ≤ c := let ⟨_, h⟩ := h; h.cap
theorem Sn.n64 (h : Sn cells sz inn encI szI w p n c vs) : vs.length ≤ 9223372036854775807 := let ⟨_, h⟩ := h; h.n64
theorem NS.sn (h : NS cells sz inn encI szI w p n c vs hd) : Sn cells sz inn encI szI w p n c vs := ⟨_, h⟩
theorem Sn.sn (h : Sn cells sz inn encI szI w p n c vs) : Sn cells sz inn encI szI w p n c vs := h
theorem Sn.none (cells : τ → Hd → List Value) (sz : Nat) (inn : τ → List β) (encI : β → List Value) (szI : Nat) (w : World) : Sn cells sz inn encI szI w none 0 0 [] :=
  ⟨fun _ => hd0, rfl, Nat.le_refl _, Nat.zero_le _, fun h => absurd h (Nat.lt_irrefl _), fun i h => absurd h (Nat.not_lt_zero i), fun i h => absurd h (Nat.not_lt_zero i)⟩

end
theorem NS.p {τ β : Type} {cells : τ → Hd → List Value} {sz : Nat} {inn : τ → List β} {encI : β → List Value} {szI : Nat} {w : World} {q : Option Addr} {n c : Nat} {vs : List τ} {hd : Nat → Hd} (h : NS cells sz inn encI szI w q n c vs hd) {i : Nat} (hi : i < vs.length) : q = some ⟨pb q, po q, Option.none⟩ := h.ptr (by have := h.len; omega)
section
variable {τ β : Type} {cells : τ → Hd → List Value} {sz : Nat} {inn : τ → List β} {encI : β → List Value} {szI : Nat} {w w' : World} {p : Option Addr} {n c lo hi lo' hi' : Nat} {vs : List τ} {hd : Nat → Hd} {T TI : TypeId} {xs ys : List (X τ)}
def xc (cells : τ → Hd → List Value) (x : X τ) : List Value := cells x.v x.h

/-- the inner slices of our own: each in a block of its own -/
structure Inn {τ β : Type} (inn : τ → List β) (encI : β → List Value) (szI : Nat) (TI : TypeId) (w : World) (lo hi : Nat) (xs : List (X τ)) : Prop where
  i : ∀ x ∈ xs, Ow encI szI TI w lo hi x.h.p x.h.n x.h.c (inn x.v)
  two : xs.Pairwise fun a b => a.h.p ≠ Option.none → b.h.p ≠ Option.none → pb a.h.p ≠ pb b.h.p

theorem Inn.nil : Inn inn encI szI TI w lo hi [] := ⟨fun _ h => (by cases h), List.Pairwise.nil⟩
theorem Inn.ext (h : Inn inn encI szI TI w lo hi xs) (hx : Ext w w') : Inn inn encI szI TI w' lo hi xs := ⟨fun x m => (h.i x m).ext hx, h.two⟩
theorem Inn.wide (h : Inn inn encI szI TI w lo hi xs) (h1 : lo' ≤ lo) (h2 : hi ≤ hi') : Inn inn encI szI TI w lo' hi' xs := ⟨fun x m => (h.i x m).wide h1 h2, h.two⟩
theorem Inn.off {l h' : Nat} (h : Inn inn encI szI TI w lo hi xs) (hx : Mk l h' w w') (hd : hi ≤ l ∨ h' ≤ lo) : Inn inn encI szI TI w' lo hi xs := ⟨fun x m => (h.i x m).off hx hd, h.two⟩
theorem Inn.only {b : Nat} (h : Inn inn encI szI TI w lo hi xs) (hx : Only b w w') (hd : hi ≤ b ∨ b + 1 ≤ lo) : Inn inn encI szI TI w' lo hi xs := ⟨fun x m => (h.i x m).only hx hd, h.two⟩
theorem Ow.block {α : Type} {enc : α → List Value} {xs : List α} (h : Ow enc sz T w lo hi p n c xs) (hp : p ≠ Option.none) : lo ≤ pb p ∧ pb p < hi ∧ ∃ cs, Own w (pb p) cs T := by
  rcases h.row with ⟨h1, _⟩ | ⟨b, s, h1, h2, h3, h4, _⟩
  · exact absurd h1 hp
  · subst h1; exact ⟨h2, h3, _, h4⟩
theorem Own.type {b : Nat} {cs ds : List Value} {T T' : TypeId} (h : Own w b cs T) (k : Own w b ds T') : T = T' := by
  unfold Own at h k; rw [h] at k; simp only [Option.some.injEq, Obj.cells.injEq] at k; exact k.2.1
/-- a slice of our own, in its block alone -/
theorem Ow.narrow {α : Type} {enc : α → List Value} {xs : List α} (h : Ow enc sz T w lo hi p n c xs) : Ow enc sz T w (pb p) (hend p) p n c xs := by
  refine ⟨h.len, h.cap, h.big, h.row.imp id fun ⟨b, s, h1, h2, h3, h4, h5⟩ => ⟨b, s, h1, ?_, ?_, h4, h5⟩, h.esz⟩
  · subst h1; exact Nat.le_refl _
  · subst h1; exact Nat.lt_succ_self _
theorem Ow.unnarrow {α : Type} {enc : α → List Value} {xs ys : List α} {m d : Nat} (h : Ow enc sz T w lo hi p n c xs) (k : Ow enc sz T w' (pb p) (hend p) p m d ys) : Ow enc sz T w' lo hi p m d ys := by
  refine ⟨k.len, k.cap, k.big, k.row.imp id fun ⟨b, s, h1, h2, h3, h4, h5⟩ => ?_, k.esz⟩
  have h6 := h.block (by rw [h1]; simp)
  refine ⟨b, s, h1, ?_, ?_, h4, h5⟩ <;> (subst h1; simp only [pb, Option.getD_some] at h6; omega)
theorem Ow.mkwide {α : Type} {enc : α → List Value} {xs : List α} (h : Ow enc sz T w lo hi p n c xs) (m : Mk (pb p) (hend p) w w') : Mk lo hi w w' := by
  rcases h.row with ⟨h1, _⟩ | ⟨b, s, h1, h2, h3, h4, h5⟩
  · subst h1; exact ⟨m.os, m.tape, m.output, m.size, fun j hj _ => m.block j hj (by simp [pb, hend])⟩
  · subst h1; exact m.wide h2 h3
theorem Mk.off_own {a : Option Addr} {b : Nat} {cs : List Value} (m : Mk (pb a) (hend a) w w') (ho : Own w b cs T) (hn : a ≠ Option.none → pb a ≠ b) : Own w' b cs T := by
  refine m.own ho ?_
  cases a with
  | none => simp [pb, hend]
  | some a => have := hn (by simp); simp only [pb, hend, Option.getD_some] at *; omega

theorem Inn.push {y : X τ} (h : Inn inn encI szI TI w lo hi xs) (k : Ow encI szI TI w lo' hi' y.h.p y.h.n y.h.c (inn y.v)) (h1 : hi ≤ lo') (h2 : lo ≤ lo') (h3 : hi ≤ hi') : Inn inn encI szI TI w lo hi' (xs ++ [y]) := by
  refine ⟨fun x m => ?_, List.pairwise_append.2 ⟨h.two, List.pairwise_singleton _ _, fun a ha b hb => ?_⟩⟩
  · rcases List.mem_append.1 m with m | m
    · exact (h.i x m).wide (Nat.le_refl _) h3
    · rw [List.mem_singleton] at m; subst m; exact k.wide h2 (Nat.le_refl _)
  · rw [List.mem_singleton] at hb; subst hb
    intro ha' hb'
    have h4 := (h.i a ha).block ha'
    have h5 := k.block hb'
    omega
/-- the outer's block is none of the inner ones -/
theorem Inn.ne {b : Nat} {cs : List Value} (h : Inn inn encI szI TI w lo hi xs) (ho : Own w b cs T) (hT : T ≠ TI) {x : X τ} (m : x ∈ xs) (hp : x.h.p ≠ Option.none) : pb x.h.p ≠ b := by
  intro he
  obtain ⟨_, _, ds, hds⟩ := (h.i x m).block hp
  rw [he] at hds
  exact hT (ho.type hds)
theorem Inn.onlyT {b : Nat} {cs : List Value} (h : Inn inn encI szI TI w lo hi xs) (ho : Own w b cs T) (hT : T ≠ TI) (hx : Only b w w') : Inn inn encI szI TI w' lo hi xs := by
  refine ⟨fun x m => ?_, h.two⟩
  rcases (h.i x m).row with ⟨h1, _⟩ | ⟨b', s, h1, h2, h3, h4, h5⟩
  · have k := h.i x m
    exact ⟨k.len, k.cap, k.big, .inl ⟨h1, by rcases k.row with ⟨_, h2⟩ | ⟨_, _, h2, _⟩; exact h2; rw [h1] at h2; cases h2⟩, k.esz⟩
  · have hb : b' ≠ b := by
      have := h.ne ho hT m (by rw [h1]; simp)
      rw [h1] at this; exact this
    have k := h.i x m
    exact ⟨k.len, k.cap, k.big, .inr ⟨b', s, h1, h2, h3, hx.own h4 hb, h5⟩, k.esz⟩
/-- the same where the outer is a slice of our own and only its block turns -/
theorem Inn.offT {α : Type} {enc : α → List Value} {zs : List α} {l' h' : Nat} (h : Inn inn encI szI TI w lo hi xs) (ho : Ow enc sz T w l' h' p n c zs) (hT : T ≠ TI) (hx : Mk (pb p) (hend p) w w') : Inn inn encI szI TI w' lo hi xs := by
  refine ⟨fun x m => ?_, h.two⟩
  have k := h.i x m
  refine ⟨k.len, k.cap, k.big, k.row.imp id fun ⟨b', s, h1, h2, h3, h4, h5⟩ => ⟨b', s, h1, h2, h3, hx.off_own h4 fun hp => ?_, h5⟩, k.esz⟩
  obtain ⟨_, _, cs, hcs⟩ := ho.block hp
  have := h.ne hcs hT m (by rw [h1]; simp)
  rw [h1] at this; exact fun e => this e.symm
/-- one inner slice is written anew -/
theorem Inn.mark {b : Nat} {cs : List Value} {x : X τ} {v' : τ} {zs : List β} (h : Inn inn encI szI TI w lo hi (xs ++ x :: ys)) (ho : Own w b cs T) (hT : T ≠ TI) (hm : Mk (pb x.h.p) (hend x.h.p) w w')
    (hx : Ow encI szI TI w' (pb x.h.p) (hend x.h.p) x.h.p x.h.n x.h.c zs) (hz : inn v' = zs) : Mk lo hi w w' ∧ Own w' b cs T ∧ Inn inn encI szI TI w' lo hi (xs ++ (⟨v', x.h⟩ : X τ) :: ys) := by
  subst hz
  have mem : x ∈ xs ++ x :: ys := by simp
  have k := h.i x mem
  refine ⟨k.mkwide hm, hm.off_own ho (fun hp => h.ne ho hT mem hp), fun y m => ?_, ?_⟩
  · have two := List.pairwise_append.1 h.two
    have two2 := List.pairwise_cons.1 two.2.1
    have other : ∀ y ∈ xs ++ ys, Ow encI szI TI w' lo hi y.h.p y.h.n y.h.c (inn y.v) := fun y m => by
      have ky := h.i y (by rcases List.mem_append.1 m with m | m <;> simp [m])
      refine ⟨ky.len, ky.cap, ky.big, ky.row.imp id fun ⟨b', s, h1, h2, h3, h4, h5⟩ => ⟨b', s, h1, h2, h3, hm.off_own h4 fun hp => ?_, h5⟩, ky.esz⟩
      have hy : y.h.p ≠ Option.none := by rw [h1]; simp
      have e : pb y.h.p = b' := by rw [h1]; rfl
      rcases List.mem_append.1 m with m | m
      · have := two.2.2 y m x (by simp) hy hp; rw [e] at this; exact fun h => this h.symm
      · have := two2.1 y m hp hy; rw [e] at this; exact this
    rcases List.mem_append.1 m with m | m
    · exact other y (by simp [m])
    · rcases List.mem_cons.1 m with m | m
      · subst m; exact k.unnarrow hx
      · exact other y (by simp [m])
  · have := h.two
    rw [List.pairwise_append, List.pairwise_cons] at this ⊢
    exact ⟨this.1, ⟨this.2.1.1, this.2.1.2⟩, fun a ha z hz => by
      rcases List.mem_cons.1 hz with hz | hz
      · subst hz; exact this.2.2 a ha x (by simp)
      · exact this.2.2 a ha z (by simp [hz])⟩
/-- an element's plain parts are written anew -/
theorem Inn.same {x : X τ} {v' : τ} (h : Inn inn encI szI TI w lo hi (xs ++ x :: ys)) (hz : inn v' = inn x.v) : Inn inn encI szI TI w lo hi (xs ++ (⟨v', x.h⟩ : X τ) :: ys) := by
  refine ⟨fun y m => ?_, ?_⟩
  · rcases List.mem_append.1 m with m | m
    · exact h.i y (by simp [m])
    · rcases List.mem_cons.1 m with m | m
      · subst m; rw [hz]; exact h.i x (by simp)
      · exact h.i y (by simp [m])
  · have := h.two
    rw [List.pairwise_append, List.pairwise_cons] at this ⊢
    exact ⟨this.1, ⟨this.2.1.1, this.2.1.2⟩, fun a ha z hz => by
      rcases List.mem_cons.1 hz with hz | hz
      · subst hz; exact this.2.2 a ha x (by simp)
      · exact this.2.2 a ha z (by simp [hz])⟩

/-- a slice of our own, of elements with slices of our own -/
structure NOw {τ β : Type} (cells : τ → Hd → List Value) (sz : Nat) (T : TypeId) (inn : τ → List β) (encI : β → List Value) (szI : Nat) (TI : TypeId) (w : World) (lo hi : Nat) (p : Option Addr) (n c : Nat) (xs : List (X τ)) : Prop where
  o : Ow (xc cells) sz T w lo hi p n c xs
  i : Inn inn encI szI TI w lo hi xs
def On {τ β : Type} (cells : τ → Hd → List Value) (sz : Nat) (T : TypeId) (inn : τ → List β) (encI : β → List Value) (szI : Nat) (TI : TypeId) (w : World) (lo hi : Nat) (p : Option Addr) (n c : Nat) (vs : List τ) : Prop :=
  ∃ xs : List (X τ), xs.map X.v = vs ∧ NOw cells sz T inn encI szI TI w lo hi p n c xs

theorem NOw.ext (h : NOw cells sz T inn encI szI TI w lo hi p n c xs) (hx : Ext w w') : NOw cells sz T inn encI szI TI w' lo hi p n c xs := ⟨h.o.ext hx, h.i.ext hx⟩
theorem NOw.wide (h : NOw cells sz T inn encI szI TI w lo hi p n c xs) (h1 : lo' ≤ lo) (h2 : hi ≤ hi') : NOw cells sz T inn encI szI TI w lo' hi' p n c xs := ⟨h.o.wide h1 h2, h.i.wide h1 h2⟩
theorem NOw.off {l h' : Nat} (h : NOw cells sz T inn encI szI TI w lo hi p n c xs) (hx : Mk l h' w w') (hd : hi ≤ l ∨ h' ≤ lo) : NOw cells sz T inn encI szI TI w' lo hi p n c xs := ⟨h.o.off hx hd, h.i.off hx hd⟩
theorem NOw.only {b : Nat} (h : NOw cells sz T inn encI szI TI w lo hi p n c xs) (hx : Only b w w') (hd : hi ≤ b ∨ b + 1 ≤ lo) : NOw cells sz T inn encI szI TI w' lo hi p n c xs := ⟨h.o.only hx hd, h.i.only hx hd⟩
theorem NOw.ns (h : NOw cells sz T inn encI szI TI w lo hi p n c xs) : NS cells sz inn encI szI w p n c (xs.map X.v) (fun i => match xs[i]? with
    | some x => x.h
    | none => hd0) := by
  have hs := h.o.sl
  refine ⟨by rw [List.length_map]; exact hs.len, hs.cap, hs.big, hs.ptr, fun i hi => ?_, fun i hi => ?_⟩
  · have hi' : i < xs.length := by simpa using hi
    have := hs.el i hi'
    simpa [xc, List.getElem?_eq_getElem hi'] using this
  · have hi' : i < xs.length := by simpa using hi
    have := (h.i.i xs[i] (List.getElem_mem hi')).sl
    simpa [List.getElem?_eq_getElem hi'] using this
theorem NOw.sl (h : NOw cells sz T inn encI szI TI w lo hi p n c xs) : Sn cells sz inn encI szI w p n c (xs.map X.v) := ⟨_, h.ns⟩
theorem NOw.none (cells : τ → Hd → List Value) (sz : Nat) (T : TypeId) (inn : τ → List β) (encI : β → List Value) (szI : Nat) (TI : TypeId) (w : World) (lo hi : Nat) : NOw cells sz T inn encI szI TI w lo hi none 0 0 [] := ⟨Ow.none _ _ _ _ _ _, Inn.nil⟩

theorem On.ext (h : On cells sz T inn encI szI TI w lo hi p n c vs) (hx : Ext w w') : On cells sz T inn encI szI TI w' lo hi p n c vs := let ⟨xs, e, h⟩ := h; ⟨xs, e, h.ext hx⟩
theorem On.wide (h : On cells sz T inn encI szI TI w lo hi p n c vs) (h1 : lo' ≤ lo) (h2 : hi ≤ hi') : On cells sz T inn encI szI TI w lo' hi' p n c vs := let ⟨xs, e, h⟩ := h; ⟨xs, e, h.wide h1 h2⟩
theorem On.off {l h' : Nat} (h : On cells sz T inn encI szI TI w lo hi p n c vs) (hx : Mk l h' w w') (hd : hi ≤ l ∨ h' ≤ lo) : On cells sz T inn encI szI TI w' lo hi p n c vs := let ⟨xs, e, h⟩ := h; ⟨xs, e, h.off hx hd⟩
theorem On.only {b : Nat} (h : On cells sz T inn encI szI TI w lo hi p n c vs) (hx : Only b w w') (hd : hi ≤ b ∨ b + 1 ≤ lo) : On cells sz T inn encI szI TI w' lo hi p n c vs := let ⟨xs, e, h⟩ := h; ⟨xs, e, h.only hx hd⟩
theorem On.sl (h : On cells sz T inn encI szI TI w lo hi p n c vs) : Sn cells sz inn encI szI w p n c vs := let ⟨xs, e, h⟩ := h; e ▸ h.sl
theorem On.len (h : On cells sz T inn encI szI TI w lo hi p n c vs) : n = vs.length := h.sl.len
theorem On.none (cells : τ → Hd → List Value) (sz : Nat) (T : TypeId) (inn : τ → List β) (encI : β → List Value) (szI : Nat) (TI : TypeId) (w : World) (lo hi : Nat) : On cells sz T inn encI szI TI w lo hi none 0 0 [] := ⟨[], rfl, NOw.none _ _ _ _ _ _ _ _ _ _⟩
theorem NOw.on (h : NOw cells sz T inn encI szI TI w lo hi p n c xs) : On cells sz T inn encI szI TI w lo hi p n c (xs.map X.v) := ⟨xs, rfl, h⟩

/-- rows of a copy that grows, by one -/
theorem rows_push {α : Type} {enc : α → List Value} {z : List Value} {ys : List α} {y : α} {k n : Nat} (hk : ys.length = k) (h : k < n) :
    ((ys.map enc ++ List.replicate (n - k) z).set k (enc y)) = (ys ++ [y]).map enc ++ List.replicate (n - (k + 1)) z := by
  have e : n - k = (n - (k + 1)) + 1 := by omega
  rw [e, List.replicate_succ, List.set_append_right _ _ (by simp; omega)]
  have e2 : k - (ys.map enc).length = 0 := by simp; omega
  rw [e2, List.set_cons_zero]; simp
theorem rows_ok2 {α : Type} {enc : α → List Value} {z : List Value} {ys : List α} {m sz : Nat} (he : ∀ x : α, (enc x).length = sz) (hz : z.length = sz) : Rows' sz (ys.map enc ++ List.replicate m z) := by
  intro r hr
  rcases List.mem_append.1 hr with h | h
  · obtain ⟨x, _, rfl⟩ := List.mem_map.1 h; exact he x
  · rw [List.eq_of_mem_replicate h]; exact hz
end

section
variable {P : Program} {f : FuncId} {N : Nat} {R : Ending → World → Prop} {k : List Item} {σ : Env} {w w0 : World} {ops : Array Oper} {rest : List Oper} {dd i fuel : Nat} {listed : Array Bool} {Z : Act → World → Prop} {ty : TypeId} {pos : String} {aft : Array Edge} {gd : Option (Nat × Bool)}
variable {τ β : Type} {cells : τ → Hd → List Value} {inn : τ → List β} {encI : β → List Value} {sz szI lo hi lo2 hi2 bytes : Nat} {t T TI : TypeId} {p q : Option Addr} {n c dc : Nat} {xs : List (X τ)} {z : X τ} {x y : Operand}
theorem xappN (G : NOw cells sz T inn encI szI TI w lo hi p n c xs) (hT : T ≠ TI) (hx : ev σ x = some (.slice p n c)) (hy : ev σ y = some (.slice q 1 dc)) (hE : ElemOk P t T sz bytes)
    (hs : Sl (xc cells) sz w q 1 dc [z]) (hq : q = Option.none → dc = 0) (he : (xc cells z).length = sz) (h1 : ∀ u ∈ xc cells z, u.oneCell' = true)
    (hI : Ow encI szI TI w lo2 hi2 z.h.p z.h.n z.h.c (inn z.v)) (hb : (n + 1) * bytes ≤ 140737488355328) (h63 : n + 1 ≤ 9223372036854775807) (hlo : lo ≤ w.heap.size) (h2 : hi ≤ lo2) (h3 : hi2 ≤ w.heap.size) (h4 : lo ≤ lo2) (h5 : hi ≤ w.heap.size) {d : Option Nat} :
    ∃ q' c' w', XV P N σ ⟨d, .call ⟨.builtin .append, #[x, y], #[t, t]⟩, ty, pos, aft, gd⟩ w (.slice q' (n + 1) c') w' ∧ Mk lo hi w w' ∧ NOw cells sz T inn encI szI TI w' lo w'.heap.size q' (n + 1) c' (xs ++ [z]) := by
  obtain ⟨q', c', w', hX, hm, hO, hn⟩ := xapp (P := P) (N := N) (σ := σ) (d := d) (ty := ty) (pos := pos) (aft := aft) (gd := gd) G.o hx hy hE hs hq (fun u hu => by rw [List.mem_singleton] at hu; subst hu; exact he) (fun u hu => by rw [List.mem_singleton] at hu; subst hu; exact h1) hb h63 hlo
  refine ⟨q', c', w', hX, hm, hO, ?_⟩
  have hI1 : Inn inn encI szI TI w lo hi2 (xs ++ [z]) ∨ hi2 < hi := by
    rcases Nat.lt_or_ge hi2 hi with h | h
    · exact .inr h
    · exact .inl (G.i.push hI h2 h4 h)
  have hI2 : Inn inn encI szI TI w lo w.heap.size (xs ++ [z]) := by
    rcases hI1 with h | h
    · exact h.wide (Nat.le_refl _) h3
    · exact (G.i.push (hi' := w.heap.size) (hI.wide (Nat.le_refl _) h3) h2 h4 h5)
  have := Inn.offT hI2 G.o hT hn
  exact this.wide (Nat.le_refl _) hm.size
theorem oappN (G : NOw cells sz T inn encI szI TI w lo hi p n c xs) (hT : T ≠ TI) (hx : ev σ x = some (.slice p n c)) (hy : ev σ y = some (.slice q 1 dc)) (hE : ElemOk P t T sz bytes)
    (hs : Sl (xc cells) sz w q 1 dc [z]) (hq : q = Option.none → dc = 0) (he : (xc cells z).length = sz) (h1 : ∀ u ∈ xc cells z, u.oneCell' = true)
    (hI : Ow encI szI TI w lo2 hi2 z.h.p z.h.n z.h.c (inn z.v)) (hb : (n + 1) * bytes ≤ 140737488355328) (h63 : n + 1 ≤ 9223372036854775807) (hlo : lo ≤ w.heap.size) (h2 : hi ≤ lo2) (h3 : hi2 ≤ w.heap.size) (h4 : lo ≤ lo2) (h5 : hi ≤ w.heap.size) {nm : Nat} (hnm : nm = n + 1)
    (hg : wantedE ops σ ⟨some dd, .call ⟨.builtin .append, #[x, y], #[t, t]⟩, ty, pos, aft, gd⟩ = some true) (hN : Nat.blt dd N = true)
    (h : ∀ q' c' w', Mk lo hi w w' → NOw cells sz T inn encI szI TI w' lo w'.heap.size q' nm c' (xs ++ [z]) → Ops P f N R ops rest k ((dd, .slice q' nm c') :: σ) w') :
    Ops P f N R ops (⟨some dd, .call ⟨.builtin .append, #[x, y], #[t, t]⟩, ty, pos, aft, gd⟩ :: rest) k σ w := by
  subst hnm
  obtain ⟨q', c', w', hX, hm, hO⟩ := xappN (N := N) (σ := σ) (d := some dd) (ty := ty) (pos := pos) (aft := aft) (gd := gd) G hT hx hy hE hs hq he h1 hI hb h63 hlo h2 h3 h4 h5
  exact ov hX hg rfl hN (h _ _ _ hm hO)
theorem hs_appN (G : NOw cells sz T inn encI szI TI w lo hi p n c xs) (hT : T ≠ TI) (hx : ev σ x = some (.slice p n c)) (hy : ev σ y = some (.slice q 1 dc)) (hE : ElemOk P t T sz bytes)
    (hs : Sl (xc cells) sz w q 1 dc [z]) (hq : q = Option.none → dc = 0) (he : (xc cells z).length = sz) (h1 : ∀ u ∈ xc cells z, u.oneCell' = true)
    (hI : Ow encI szI TI w lo2 hi2 z.h.p z.h.n z.h.c (inn z.v)) (hb : (n + 1) * bytes ≤ 140737488355328) (h63 : n + 1 ≤ 9223372036854775807) (hlo : lo ≤ w.heap.size) (h2 : hi ≤ lo2) (h3 : hi2 ≤ w.heap.size) (h4 : lo ≤ lo2) (h5 : hi ≤ w.heap.size) {nm : Nat} (hnm : nm = n + 1) (hF : Ext w0 w) (h0 : w0.heap.size ≤ lo)
    (hi' : ops[i]? = some ⟨some dd, .call ⟨.builtin .append, #[x, y], #[t, t]⟩, ty, pos, aft, gd⟩)
    (hg : wantedE ops σ ⟨some dd, .call ⟨.builtin .append, #[x, y], #[t, t]⟩, ty, pos, aft, gd⟩ = some true) (hN : Nat.blt dd N = true)
    (h : ∀ q' c' w', Mk lo hi w w' → NOw cells sz T inn encI szI TI w' lo w'.heap.size q' nm c' (xs ++ [z]) → HOps P N ops w0 fuel (listed.setIfInBounds i true) ((dd, .slice q' nm c') :: σ) w' Z) :
    HStep P N ops w0 fuel listed σ w Z i := by
  subst hnm
  obtain ⟨q', c', w', hX, hm, hO⟩ := xappN (N := N) (σ := σ) (d := some dd) (ty := ty) (pos := pos) (aft := aft) (gd := gd) G hT hx hy hE hs hq he h1 hI hb h63 hlo h2 h3 h4 h5
  exact hs_val hi' hX hg rfl hN (hm.toExt hF h0) (h _ _ _ hm hO)
end
/-- what an element and its slice are written with -/
def tot {τ : Type} (kx : τ → Nat) : List τ → Nat
  | [] => 0
  | v :: r => kx v + tot kx r
def nmk {τ : Type} (mk : τ → Int → τ) (kx : τ → Nat) : List τ → Int → List τ
  | [], _ => []
  | v :: r, k => mk v k :: nmk mk kx r (k + kx v)
theorem nmk_length {τ : Type} (mk : τ → Int → τ) (kx : τ → Nat) : ∀ (vs : List τ) (k : Int), (nmk mk kx vs k).length = vs.length
  | [], _ => rfl
  | v :: r, k => by simp [nmk, nmk_length]
theorem tot_append {τ : Type} (kx : τ → Nat) : ∀ (a b : List τ), tot kx (a ++ b) = tot kx a + tot kx b
  | [], b => by simp [tot]
  | v :: r, b => by simp only [tot, List.cons_append, tot_append kx r b]; omega
theorem tot_take {τ : Type} {kx : τ → Nat} {vs : List τ} {i : Nat} (h : i < vs.length) : tot kx (vs.take (i + 1)) = tot kx (vs.take i) + kx vs[i] := by
  rw [List.take_succ_eq_append_getElem h, tot_append]; simp [tot]
theorem tot_mem {τ : Type} {kx : τ → Nat} {vs : List τ} {i : Nat} (h : i < vs.length) : tot kx (vs.take i) + kx vs[i] ≤ tot kx vs := by
  have e : vs = vs.take i ++ vs[i] :: vs.drop (i + 1) := by rw [← List.drop_eq_getElem_cons h, List.take_append_drop]
  conv => rhs; rw [e]
  rw [tot_append]; simp only [tot]; omega
theorem nmk_append {τ : Type} (mk : τ → Int → τ) (kx : τ → Nat) : ∀ (a b : List τ) (k : Int), nmk mk kx (a ++ b) k = nmk mk kx a k ++ nmk mk kx b (k + tot kx a)
  | [], b, k => by simp [nmk, tot]
  | v :: r, b, k => by simp [nmk, tot, nmk_append mk kx r b, Int.add_assoc]
theorem nmk_at {τ : Type} {mk : τ → Int → τ} {kx : τ → Nat} {vs : List τ} {k : Int} {i : Nat} (h : i < vs.length) : (nmk mk kx vs k)[i]'(by rw [nmk_length]; exact h) = mk vs[i] (k + tot kx (vs.take i)) := by
  have e : vs = vs.take i ++ vs[i] :: vs.drop (i + 1) := by rw [← List.drop_eq_getElem_cons h, List.take_append_drop]
  have h2 : (nmk mk kx vs k)[i]? = some (mk vs[i] (k + tot kx (vs.take i))) := by
    conv => lhs; rw [e]
    rw [nmk_append, List.getElem?_append_right (by rw [nmk_length]; simp; omega)]
    simp [nmk, nmk_length, Nat.min_eq_left (Nat.le_of_lt h)]
  have h3 := List.getElem?_eq_some_iff.1 h2
  exact h3.2

/-- a row in the middle of a block of our own -/
theorem Own.mid {w : World} {b : Nat} {T : TypeId} {pre row post : List Value} {o : Nat} (h : Own w b (pre ++ (row ++ post)) T) (ho : o = pre.length) : Cells w b o row := by
  subst ho
  intro j v hv
  have hj : j < row.length := by
    rcases Nat.lt_or_ge j row.length with h1 | h1
    · exact h1
    · rw [List.getElem?_eq_none h1] at hv; cases hv
  have := h.cells (pre.length + j) v (by rw [List.getElem?_append_right (by omega), show pre.length + j - pre.length = j from by omega, List.getElem?_append_left hj]; exact hv)
  simpa using this
/-- the same over elements with their headers -/
def nmkX {τ : Type} (mk : τ → Int → τ) (kx : τ → Nat) : List (X τ) → Int → List (X τ)
  | [], _ => []
  | x :: r, k => ⟨mk x.v k, x.h⟩ :: nmkX mk kx r (k + kx x.v)
theorem nmkX_map {τ : Type} (mk : τ → Int → τ) (kx : τ → Nat) : ∀ (xs : List (X τ)) (k : Int), (nmkX mk kx xs k).map X.v = nmk mk kx (xs.map X.v) k
  | [], _ => rfl
  | x :: r, k => by simp [nmkX, nmk, nmkX_map]
theorem nmkX_length {τ : Type} (mk : τ → Int → τ) (kx : τ → Nat) : ∀ (xs : List (X τ)) (k : Int), (nmkX mk kx xs k).length = xs.length
  | [], _ => rfl
  | x :: r, k => by simp [nmkX, nmkX_length]
theorem nx_join {τ : Type} {cells : τ → Hd → List Value} {done : List (X τ)} {y : X τ} {row post : List Value} (h : row = xc cells y) :
    (done.map (xc cells)).flatten ++ (row ++ post) = ((done ++ [y]).map (xc cells)).flatten ++ post := by
  subst h; simp
theorem nx_pre {τ : Type} {cells : τ → Hd → List Value} {sz : Nat} (he : ∀ v h, (cells v h).length = sz) (done : List (X τ)) : ((done.map (xc cells)).flatten).length = done.length * sz := by
  rw [flatten_length (sz := sz) (fun r hr => by obtain ⟨x, _, rfl⟩ := List.mem_map.1 hr; exact he _ _)]; simp
theorem nx_cons {τ : Type} {rest : List (X τ)} {i n : Nat} (h : i + rest.length = n) (hi : i < n) : ∃ x r, rest = x :: r := by
  cases rest with
  | nil => simp at h; omega
  | cons x r => exact ⟨x, r, rfl⟩
end Go.Proofs.Ytinpkihmkfiidaa

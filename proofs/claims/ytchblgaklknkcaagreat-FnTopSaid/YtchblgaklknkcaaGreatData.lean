/-
  How slices are told: a slice that is only read ('Sl'), rules for splitting on a bool, posts. No condition.
-/
import Derived.Test.YtchblgaklknkcaaGreatOps
namespace Go.Proofs.YtchblgaklknkcaaGreat
open Go.RowKit
set_option linter.unusedVariables false
set_option linter.unusedSimpArgs false
set_option linter.unusedSectionVars false
section
variable {P : Program} {f : FuncId} {N : Nat} {R : Ending → World → Prop} {k : List Item} {σ τ : Env} {w : World} {ops : Array Oper} {rest : List Oper} {d : Nat}
theorem ods {p : Prop} [Decidable p] (h1 : p → Ops P f N R ops rest k ((d, .bool true) :: σ) w) (h0 : ¬ p → Ops P f N R ops rest k ((d, .bool false) :: σ) w) :
    Ops P f N R ops rest k ((d, .bool (decide p)) :: σ) w := by
  by_cases h : p
  · rw [decide_eq_true h]; exact h1 h
  · rw [decide_eq_false h]; exact h0 h
theorem obs {b : Bool} (h1 : b = true → Ops P f N R ops rest k ((d, .bool true) :: σ) w) (h0 : b = false → Ops P f N R ops rest k ((d, .bool false) :: σ) w) :
    Ops P f N R ops rest k ((d, .bool b) :: σ) w := by
  cases b
  · exact h0 rfl
  · exact h1 rfl
theorem qds {C : World → Prop} {X : Act → World → Prop} {p : Prop} [Decidable p] (h1 : p → QOps P N ops C rest ((d, .bool true) :: σ) X) (h0 : ¬ p → QOps P N ops C rest ((d, .bool false) :: σ) X) :
    QOps P N ops C rest ((d, .bool (decide p)) :: σ) X := by
  by_cases h : p
  · rw [decide_eq_true h]; exact h1 h
  · rw [decide_eq_false h]; exact h0 h
theorem qbs {C : World → Prop} {X : Act → World → Prop} {b : Bool} (h1 : b = true → QOps P N ops C rest ((d, .bool true) :: σ) X) (h0 : b = false → QOps P N ops C rest ((d, .bool false) :: σ) X) :
    QOps P N ops C rest ((d, .bool b) :: σ) X := by
  cases b
  · exact h0 rfl
  · exact h1 rfl
theorem xbneq {x y : Operand} {t u : TypeId} {a b : Bool} {dd : Option Tmp} {ty : TypeId} {pos : String} {aft : Array Edge} {gd : Option (Nat × Bool)} (ht : P.underlying t = some .bool) (hx : ev σ x = some (.bool a)) (hy : ev σ y = some (.bool b)) :
    XV P N σ ⟨dd, .binOp .neq t x y u, ty, pos, aft, gd⟩ w (.bool (decide (a ≠ b))) w := fun c ha => by
  have h := run_neq_bool (P := P) w t a b ht
  simp [execOp, ha.eval hx, ha.eval hy, eqGuard, h]
  cases a <;> cases b <;> rfl
theorem xloadz {x : Operand} {t : TypeId} {b o : Nat} {cs : List Value} {v : Value} {dd : Option Tmp} {ty : TypeId} {pos : String} {aft : Array Edge} {gd : Option (Nat × Bool)} (ht : ∀ w, (isAgg t).run P w = .ok false w) (hx : ev σ x = some (.pointer (some ⟨b, o, none⟩)))
    (hc : Cells w b o cs) (hv : cs[0]? = some v) : XV P N σ ⟨dd, .load t x, ty, pos, aft, gd⟩ w v w :=
  xload1 (j := 0) ht hx hc hv
end
def Pv (w : World) (x : Value) : Value → World → Prop := fun v w' => v = x ∧ Ext w w'
theorem pv {w w' : World} {x : Value} (h : Ext w w') : Pv w x x w' := ⟨rfl, h⟩
def Ps (w : World) (x : Value) : Value → World → Prop := fun v w' => v = x ∧ w' = w
theorem Ret.toq {P : Program} {g : FuncId} {l : List Value} {w : World} {x : Value} (h : Ret P g l w (Ps w x)) : Ret P g l w (fun v' w'' => v' = x ∧ Ext w w'') :=
  h.mono fun v w' ⟨hv, hw⟩ => ⟨hv, by rw [hw]; exact Ext.refl _⟩
theorem Ret.pv {P : Program} {g : FuncId} {l : List Value} {w : World} {x : Value} (h : Ret P g l w (Ps w x)) : Ret P g l w (Pv w x) := h.toq
theorem Ret.q {P : Program} {g : FuncId} {l : List Value} {w : World} {x : Value} (h : Ret P g l w (Pv w x)) : Ret P g l w (fun v' w'' => v' = x ∧ Ext w w'') := h
structure Sl {α : Type} (enc : α → List Value) (sz : Nat) (w : World) (p : Option Addr) (n c : Nat) (xs : List α) : Prop where
  len : n = xs.length
  cap : n ≤ c
  big : c ≤ maxLen
  ptr : 0 < n → p = some ⟨pb p, po p, none⟩
  el : ∀ i (h : i < xs.length), Cells w (pb p) (po p + i * sz) (enc xs[i])
  nil : p = none → c = 0
theorem Sl.ext {α : Type} {enc : α → List Value} {sz : Nat} {w w' : World} {p : Option Addr} {n c : Nat} {xs : List α} (h : Sl enc sz w p n c xs) (hx : Ext w w') : Sl enc sz w' p n c xs :=
  ⟨h.len, h.cap, h.big, h.ptr, fun i hi => (h.el i hi).ext hx, h.nil⟩
theorem Sl.at {α : Type} {enc : α → List Value} {sz : Nat} {w : World} {p : Option Addr} {n c : Nat} {xs : List α} (h : Sl enc sz w p n c xs) {i : Nat} (hi : i < xs.length) : Cells w (pb p) (po p + i * sz) (enc xs[i]) := h.el i hi
theorem Sl.p {α : Type} {enc : α → List Value} {sz : Nat} {w : World} {p : Option Addr} {n c : Nat} {xs : List α} (h : Sl enc sz w p n c xs) {i : Nat} (hi : i < xs.length) : p = some ⟨pb p, po p, none⟩ := h.ptr (by have := h.len; omega)
theorem Sl.n64 {α : Type} {enc : α → List Value} {sz : Nat} {w : World} {p : Option Addr} {n c : Nat} {xs : List α} (h : Sl enc sz w p n c xs) : xs.length ≤ 9223372036854775807 := by
 have h1 := h.len; have h2 := h.cap; have h3 := h.big; unfold maxLen at h3; omega
def Rows' (sz : Nat) (rows : List (List Value)) : Prop := ∀ r ∈ rows, r.length = sz
theorem flatten_length {sz : Nat} : ∀ {rows : List (List Value)}, Rows' sz rows → rows.flatten.length = rows.length * sz
  | [], _ => by simp
  | r :: l, h => by
    have h1 := h r (by simp)
    have h2 := flatten_length (rows := l) (sz := sz) fun x hx => h x (by simp [hx])
    simp only [List.flatten_cons, List.length_append, List.length_cons, h1, h2, Nat.add_mul]; omega
theorem setRow_append : ∀ (vs a b : List Value), vs.length ≤ b.length → setRow (a ++ b) a.length vs = a ++ (vs ++ b.drop vs.length)
  | [], a, b, _ => by simp [setRow]
  | v :: vs, a, b, h => by
    cases b with
    | nil => simp at h
    | cons u b =>
      have e : (a ++ u :: b).set a.length v = (a ++ [v]) ++ b := by simp
      simp only [setRow, e]
      have := setRow_append vs (a ++ [v]) b (by simpa using h)
      simp only [List.length_append, List.length_cons, List.length_nil, Nat.zero_add] at this
      rw [this]; simp
theorem Rows'.set {sz : Nat} {rows : List (List Value)} (h : Rows' sz rows) (i : Nat) {vs : List Value} (hv : vs.length = sz) : Rows' sz (rows.set i vs) := by
 intro r hr
 rcases List.mem_or_eq_of_mem_set hr with h1 | h1
 · exact h r h1
 · rw [h1]; exact hv
theorem Own.row {w : World} {b : Nat} {T : TypeId} {sz : Nat} {rows : List (List Value)} (h : Own w b rows.flatten T) (hr : Rows' sz rows) {i : Nat} (hi : i < rows.length) : Cells w b (i * sz) rows[i] := by
 intro j v hv
 have hri : rows[i].length = sz := hr _ (List.getElem_mem hi)
 have hj : j < sz := by
   rcases Nat.lt_or_ge j sz with h1 | h1
   · exact h1
   · rw [List.getElem?_eq_none (by omega)] at hv; cases hv
 have e : rows = rows.take i ++ rows[i] :: rows.drop (i + 1) := by rw [← List.drop_eq_getElem_cons hi, List.take_append_drop]
 have ht : Rows' sz (rows.take i) := fun r hr' => hr r (List.mem_of_mem_take hr')
 have hl : (rows.take i).flatten.length = i * sz := by rw [flatten_length ht]; simp; rw [Nat.min_eq_left (by omega)]
 have := h.cells (i * sz + j) v (by
   rw [e, List.flatten_append, List.getElem?_append_right (by omega), hl, List.flatten_cons]
   rw [show i * sz + j - i * sz = j from by omega, List.getElem?_append_left (by omega)]
   exact hv)
 simpa using this
section
variable {P : Program} {f : FuncId} {N : Nat} {R : Ending → World → Prop} {k : List Item} {σ τ : Env} {w : World} {ops : Array Oper} {rest : List Oper} {d : Option Nat} {dd : Nat} {ty : TypeId} {pos : String} {aft : Array Edge} {gd : Option (Nat × Bool)}
theorem toList_madeCells (zs : Array Value) (hz : zs.size ≠ 0) (n : Nat) : (madeCells zs (n * zs.size)).toList = (List.replicate n zs.toList).flatten := by
 apply List.ext_getElem?
 intro i
 have hlen : (List.replicate n zs.toList).flatten.length = n * zs.size := by simp
 rcases Nat.lt_or_ge i (n * zs.size) with h | h
 · have hr : Rows' zs.size (List.replicate n zs.toList) := by intro r hr; rw [List.eq_of_mem_replicate hr]; simp
   have hq : i / zs.size < n := by rw [Nat.div_lt_iff_lt_mul (by omega)]; exact h
   have hm : i % zs.size < zs.size := Nat.mod_lt _ (by omega)
   have e : List.replicate n zs.toList = List.replicate (i / zs.size) zs.toList ++ zs.toList :: List.replicate (n - (i / zs.size + 1)) zs.toList := by
     rw [← List.replicate_succ, List.replicate_append_replicate]; congr 1; omega
   rw [e, List.flatten_append, List.getElem?_append_right (by simp; exact Nat.div_mul_le_self _ _), List.flatten_cons]
   have e3 : i - ((List.replicate (i / zs.size) zs.toList).flatten).length = i % zs.size := by
     simp
     have := Nat.div_add_mod i zs.size
     rw [Nat.mul_comm] at this; omega
   rw [e3, List.getElem?_append_left (by simpa using hm)]
   simp [madeCells, h, hm]
 · rw [List.getElem?_eq_none (by simpa [madeCells] using h), List.getElem?_eq_none (by omega)]
theorem omake {x y : Operand} {t e : TypeId} {i : TypeInfo} {z : Value} {n : Nat} {m m' : Int} (ht : P.underlying t = some (.slice e)) (hi : P.info? e = some i) (hz : i.zero = some z) (hsz : i.size = z.cells.size) (hz0 : z.cells.size ≠ 0)
    (hx : ev σ x = some (.int .i64 m)) (hy : ev σ y = some (.int .i64 m')) (hm : m = (n : Int)) (hm' : m' = (n : Int)) (hb : i.bytes * n ≤ 281474976710656) (h63 : n ≤ 9223372036854775807)
    (hg : wantedE ops σ ⟨some dd, .makeSlice t x y, ty, pos, aft, gd⟩ = some true) (hN : Nat.blt dd N = true)
    (h : ∀ b w', Ext w w' → b = w.heap.size → w'.heap.size = b + 1 → Own w' b (List.replicate n z.cells.toList).flatten e → Ops P f N R ops rest k ((dd, .slice (some ⟨b, 0, none⟩) n n) :: σ) w') :
    Ops P f N R ops (⟨some dd, .makeSlice t x y, ty, pos, aft, gd⟩ :: rest) k σ w := by
  subst hm; subst hm'
  have hb' : (i.bytes : Int) * (n : Int) ≤ 281474976710656 := by
    have h : ((i.bytes * n : Nat) : Int) ≤ 281474976710656 := by omega
    rwa [Int.natCast_mul] at h
  have hr := run_make (P := P) w t e i z ht hi hz .i64 .i64 n n (by omega) (Int.le_refl _) hb' (by omega)
  simp only [Int.toNat_natCast] at hr
  refine ov (w' := _) (v := _) (fun a ha => ?_) hg rfl hN (h w.heap.size (w.alloc (.cells (madeCells z.cells (n * i.size)) e)) (ext_alloc _ _) rfl (size_alloc _ _) ?_)
  · simp [execOp, ha.eval hx, ha.eval hy, hr]
  · have := own_alloc w (madeCells z.cells (n * i.size)) e
    rw [hsz, toList_madeCells _ hz0] at this
    rw [hsz]; exact this
end
structure Ow {α : Type} (enc : α → List Value) (sz : Nat) (T : TypeId) (w : World) (lo hi : Nat) (p : Option Addr) (n c : Nat) (xs : List α) : Prop where
  len : n = xs.length
  cap : n ≤ c
  big : c ≤ maxLen
  row : (p = none ∧ c = 0) ∨ ∃ b spare, p = some ⟨b, 0, none⟩ ∧ lo ≤ b ∧ b < hi ∧ Own w b ((xs.map enc).flatten ++ spare) T ∧ spare.length = (c - n) * sz
  esz : ∀ x ∈ xs, (enc x).length = sz
theorem Ow.ext {α : Type} {enc : α → List Value} {sz lo hi : Nat} {T : TypeId} {w w' : World} {p : Option Addr} {n c : Nat} {xs : List α} (h : Ow enc sz T w lo hi p n c xs) (hx : Ext w w') : Ow enc sz T w' lo hi p n c xs :=
  ⟨h.len, h.cap, h.big, h.row.imp id fun ⟨b, s, h1, h2, h3, h4, h5⟩ => ⟨b, s, h1, h2, h3, h4.ext hx, h5⟩, h.esz⟩
theorem Ow.wide {α : Type} {enc : α → List Value} {sz lo hi lo' hi' : Nat} {T : TypeId} {w : World} {p : Option Addr} {n c : Nat} {xs : List α} (h : Ow enc sz T w lo hi p n c xs) (h1 : lo' ≤ lo) (h2 : hi ≤ hi') : Ow enc sz T w lo' hi' p n c xs :=
  ⟨h.len, h.cap, h.big, h.row.imp id fun ⟨b, s, a1, a2, a3, a4, a5⟩ => ⟨b, s, a1, by omega, by omega, a4, a5⟩, h.esz⟩
structure Mk (lo hi : Nat) (w w' : World) : Prop where
  os : w'.os = w.os
  tape : w'.tape = w.tape
  output : w'.output = w.output
  size : w.heap.size ≤ w'.heap.size
  block : ∀ j, j < w.heap.size → ¬ (lo ≤ j ∧ j < hi) → w'.heap[j]? = w.heap[j]?
theorem Mk.ofExt {lo hi : Nat} {w w' : World} (h : Ext w w') : Mk lo hi w w' := ⟨h.os, h.tape, h.output, h.size, fun j hj _ => h.block j hj⟩
theorem Mk.ofOnly {b lo hi : Nat} {w w' : World} (h : Only b w w') (h1 : lo ≤ b) (h2 : b < hi) : Mk lo hi w w' :=
  ⟨h.os, h.tape, h.output, Nat.le_of_eq h.size.symm, fun j _ hj => h.block j (by omega)⟩
theorem Mk.trans {lo hi : Nat} {a b c : World} (h : Mk lo hi a b) (k : Mk lo hi b c) : Mk lo hi a c :=
  ⟨k.os.trans h.os, k.tape.trans h.tape, k.output.trans h.output, Nat.le_trans h.size k.size, fun j hj hn => (k.block j (by have := h.size; omega) hn).trans (h.block j hj hn)⟩
theorem Mk.refl (lo hi : Nat) (w : World) : Mk lo hi w w := ⟨rfl, rfl, rfl, Nat.le_refl _, fun _ _ _ => rfl⟩
theorem Mk.wide {lo hi lo' hi' : Nat} {w w' : World} (h : Mk lo hi w w') (h1 : lo' ≤ lo) (h2 : hi ≤ hi') : Mk lo' hi' w w' :=
  ⟨h.os, h.tape, h.output, h.size, fun j hj hn => h.block j hj (by omega)⟩
theorem Mk.toExt {lo hi : Nat} {w0 w w' : World} (h : Mk lo hi w w') (hx : Ext w0 w) (hl : w0.heap.size ≤ lo) : Ext w0 w' :=
  Below.trans hx ⟨h.os, h.tape, h.output, h.size, fun j hj => h.block j (by have := hx.size; omega) (by omega)⟩
theorem Mk.own {lo hi b : Nat} {w w' : World} {cs : List Value} {T : TypeId} (h : Mk lo hi w w') (ho : Own w b cs T) (hn : ¬ (lo ≤ b ∧ b < hi)) : Own w' b cs T := by
 have hl := ho.lt
 unfold Own at *; rw [h.block b hl hn]; exact ho
theorem Ow.off {α : Type} {enc : α → List Value} {sz lo hi l h' : Nat} {T : TypeId} {w w' : World} {p : Option Addr} {n c : Nat} {xs : List α} (h : Ow enc sz T w lo hi p n c xs) (hx : Mk l h' w w') (hd : hi ≤ l ∨ h' ≤ lo) : Ow enc sz T w' lo hi p n c xs :=
  ⟨h.len, h.cap, h.big, h.row.imp id fun ⟨b, s, h1, h2, h3, h4, h5⟩ => ⟨b, s, h1, h2, h3, hx.own h4 (by omega), h5⟩, h.esz⟩
theorem Ow.only {α : Type} {enc : α → List Value} {sz lo hi b : Nat} {T : TypeId} {w w' : World} {p : Option Addr} {n c : Nat} {xs : List α} (h : Ow enc sz T w lo hi p n c xs) (hx : Only b w w') (hd : hi ≤ b ∨ b + 1 ≤ lo) : Ow enc sz T w' lo hi p n c xs :=
  h.off (Mk.ofOnly hx (Nat.le_refl _) (Nat.lt_succ_self _)) hd
theorem Ow.sl {α : Type} {enc : α → List Value} {sz lo hi : Nat} {T : TypeId} {w : World} {p : Option Addr} {n c : Nat} {xs : List α} (h : Ow enc sz T w lo hi p n c xs) : Sl enc sz w p n c xs := by
 refine ⟨h.len, h.cap, h.big, fun hn => ?_, fun i hi => ?_, fun hp => by
   rcases h.row with ⟨_, h2⟩ | ⟨b, s, h1, _⟩
   · exact h2
   · rw [hp] at h1; cases h1⟩
 · rcases h.row with ⟨_, h2⟩ | ⟨b, s, h1, _⟩
   · have := h.cap; omega
   · rw [h1]; rfl
 · rcases h.row with ⟨_, h2⟩ | ⟨b, s, h1, _, _, ho, _⟩
   · have := h.cap; have := h.len; omega
   · rw [h1]
     intro j v hv
     have hr : Rows' sz (xs.map enc) := by
       intro r hr
       obtain ⟨x, hx, rfl⟩ := List.mem_map.1 hr
       exact h.esz x hx
     have hsz : (enc xs[i]).length = sz := h.esz _ (List.getElem_mem hi)
     have hj : j < sz := by
       rcases Nat.lt_or_ge j sz with h1 | h1
       · exact h1
       · rw [List.getElem?_eq_none (by omega)] at hv; cases hv
     have e : xs = xs.take i ++ xs[i] :: xs.drop (i + 1) := by rw [← List.drop_eq_getElem_cons hi, List.take_append_drop]
     have ht : Rows' sz ((xs.take i).map enc) := fun r hr' => by
       obtain ⟨x, hx, rfl⟩ := List.mem_map.1 hr'
       exact h.esz x (List.mem_of_mem_take hx)
     have hl : (((xs.take i).map enc).flatten).length = i * sz := by rw [flatten_length ht]; simp; rw [Nat.min_eq_left (by omega)]
     have := ho.cells (i * sz + j) v (by
       conv => lhs; rw [e]
       rw [List.map_append, List.flatten_append, List.append_assoc, List.getElem?_append_right (by omega), hl, List.map_cons, List.flatten_cons]
       rw [show i * sz + j - i * sz = j from by omega, List.append_assoc, List.getElem?_append_left (by omega)]
       exact hv)
     simpa [pb, po] using this
theorem Ow.none {α : Type} (enc : α → List Value) (sz : Nat) (T : TypeId) (w : World) (lo hi : Nat) : Ow enc sz T w lo hi none 0 0 [] :=
  ⟨rfl, Nat.le_refl _, Nat.zero_le _, .inl ⟨rfl, rfl⟩, fun _ h => by cases h⟩
theorem Own.ow {α : Type} {enc : α → List Value} {sz : Nat} {T : TypeId} {w : World} {b lo hi n : Nat} {xs : List α} (h : Own w b (xs.map enc).flatten T) (hn : n = xs.length) (hm : n ≤ 9223372036854775807) (h1 : lo ≤ b) (h2 : b < hi) (he : ∀ x ∈ xs, (enc x).length = sz) :
    Ow enc sz T w lo hi (some ⟨b, 0, Option.none⟩) n n xs :=
  ⟨hn, Nat.le_refl _, by unfold maxLen; omega, .inr ⟨b, [], rfl, h1, h2, by simpa using h, by simp⟩, he⟩
end Go.Proofs.YtchblgaklknkcaaGreat

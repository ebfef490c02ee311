/-
  Slices that grow: literals, append, in the words of the walking logic; and regions that draw their order and make memory. No condition beyond those written in each law.
-/
import Derived.Test.YtchblgaklknkcaaGreatData
import Derived.OrdersHeld
namespace Go.Proofs.YtchblgaklknkcaaGreat
open Go.RowKit
set_option linter.unusedVariables false
set_option linter.unusedSimpArgs false
set_option linter.unusedSectionVars false
section
variable {α : Type} {enc : α → List Value} {sz lo hi : Nat} {e : TypeId} {w : World} {p : Option Addr} {n c : Nat} {xs : List α}
theorem Ow.rows (h : Ow enc sz e w lo hi p n c xs) : (xs.map enc).flatten.length = n * sz := by
 rw [flatten_length (sz := sz) (fun r hr => by obtain ⟨x, hx, rfl⟩ := List.mem_map.1 hr; exact h.esz x hx), List.length_map, h.len]
theorem Ow.owns (h : Ow enc sz e w lo hi p n c xs) : w.ownsRow lo e sz (.slice p n c) n (xs.map enc).flatten := by
 refine ⟨h.rows, ?_⟩
 rcases h.row with ⟨h1, h2⟩ | ⟨b, s, h1, h2, h3, h4, h5⟩
 · have := h.cap
   have hn : n = 0 := by omega
   subst h1; subst h2; subst hn
   exact .inl ⟨rfl, rfl⟩
 · subst h1
   refine .inr ⟨b, c, _, rfl, h2, h4, h.cap, h.big, ?_, ?_⟩
   · have h6 := h.cap
     have : n * sz + (c - n) * sz = c * sz := by rw [← Nat.add_mul]; congr 1; omega
     simp only [List.size_toArray, List.length_append, h5, h.rows]; omega
   · simp only [List.toList_toArray]
     rw [List.take_append_of_le_length (by rw [h.rows]; exact Nat.le_refl _), List.take_of_length_le (by rw [h.rows]; exact Nat.le_refl _)]
theorem Ow.of_owns {w' : World} {v : Value} {ys : List α} {m : Nat} (h : w'.ownsRow lo e sz v m (ys.map enc).flatten) (hm : m = ys.length) (he : ∀ x ∈ ys, (enc x).length = sz) :
    ∃ q c', v = .slice q m c' ∧ Ow enc sz e w' lo w'.heap.size q m c' ys := by
  obtain ⟨h1, h2⟩ := h
  rcases h2 with ⟨rfl, h3⟩ | ⟨g, cap, cur, rfl, hb, hg, hnc, hcm, hs, ht⟩
  · subst h3
    refine ⟨_, _, rfl, hm, Nat.le_refl _, Nat.zero_le _, .inl ⟨rfl, rfl⟩, he⟩
  · refine ⟨_, _, rfl, hm, hnc, hcm, .inr ⟨g, cur.toList.drop (m * sz), rfl, hb, (Array.getElem?_eq_some_iff.1 hg).1, ?_, ?_⟩, he⟩
    · unfold Own
      rw [← ht, List.take_append_drop]; simpa using hg
    · have : m * sz + (cap - m) * sz = cap * sz := by rw [← Nat.add_mul]; congr 1; omega
      simp only [List.length_drop, Array.length_toList, hs]; omega
end
def hend (p : Option Addr) : Nat := match p with
  | none => 0
  | some a => a.block + 1
section
variable {α : Type} {enc : α → List Value} {sz lo hi : Nat} {e : TypeId} {w : World} {p : Option Addr} {n c : Nat} {xs : List α}
theorem Mk.of_grown1 {w' : World} (h : Ow enc sz e w lo hi p n c xs) {m : Nat} {c' : Nat} (hg : w.grownBy w' (Value.ownBlock (.slice p m c'))) : Mk (pb p) (hend p) w w' := by
 refine ⟨hg.os, hg.tape, hg.output, hg.size, fun j hj hn => hg.block j hj ?_⟩
 rcases h.row with ⟨h1, _⟩ | ⟨b, s, h1, h2, h3, _⟩
 · subst h1; simp [Value.ownBlock]
 · subst h1
   simp only [Value.ownBlock, ne_eq, Option.some.injEq, pb, hend, Option.getD_some] at *
   omega
theorem Mk.of_grown {w' : World} (h : Ow enc sz e w lo hi p n c xs) {m : Nat} {c' : Nat} (hg : w.grownBy w' (Value.ownBlock (.slice p m c'))) : Mk lo hi w w' := by
 refine ⟨hg.os, hg.tape, hg.output, hg.size, fun j hj hn => hg.block j hj ?_⟩
 rcases h.row with ⟨h1, _⟩ | ⟨b, s, h1, h2, h3, _⟩
 · subst h1; simp [Value.ownBlock]
 · subst h1
   simp only [Value.ownBlock, ne_eq, Option.some.injEq]
   omega
end
structure ElemOk (P : Program) (t e : TypeId) (sz bytes : Nat) : Prop where
  ty : P.underlying t = some (.slice e)
  inf : ∃ i z, P.info? e = some i ∧ i.zero = some z ∧ i.size = sz ∧ i.bytes = bytes ∧ z.cells.size = sz
  pos : 0 < sz
section
variable {P : Program} {α : Type} {enc : α → List Value} {sz lo hi bytes : Nat} {t e ty : TypeId} {w : World} {p q : Option Addr} {n c m d : Nat} {xs ys : List α}
theorem run_app (hE : ElemOk P t e sz bytes) (ho : Ow enc sz e w lo hi p n c xs) (hs : Sl enc sz w q m d ys) (hq : q = none → d = 0) (he : ∀ y ∈ ys, (enc y).length = sz) (h1 : ∀ y ∈ ys, ∀ u ∈ enc y, u.oneCell' = true)
    (hb : (n + m) * bytes ≤ 140737488355328) (h63 : n + m ≤ 9223372036854775807) (hlo : lo ≤ w.heap.size) :
    ∃ q' c' w', (Builtin.append_ #[t, t] ty #[.slice p n c, .slice q m d]).run P w = .ok (.slice q' (n + m) c') w' ∧ Mk lo hi w w' ∧ Ow enc sz e w' lo w'.heap.size q' (n + m) c' (xs ++ ys) ∧ Mk (pb p) (hend p) w w' := by
  obtain ⟨i, z, hi', hz, hsize, hby, hzs⟩ := hE.inf
  have hm : m = ys.length := hs.len
  have hez : ∀ x ∈ xs ++ ys, (enc x).length = sz := fun x hx => by
    rcases List.mem_append.1 hx with h | h
    · exact ho.esz x h
    · exact he x h
  cases q with
  | none =>
    have hd : d = 0 := hq rfl
    have hm0 : m = 0 := by have := hs.cap; omega
    subst hd; subst hm0
    have hys : ys = [] := by cases ys with | nil => rfl | cons y r => simp at hm
    subst hys
    have hr := run_append_owned_none (P := P) (w := w) lo t ty e i sz hE.ty hi' _ _ _ ho.owns
    exact ⟨p, c, w, by simpa using hr, Mk.refl _ _ _, (by
      simp only [List.append_nil, Nat.add_zero]
      refine ⟨ho.len, ho.cap, ho.big, ho.row.imp id fun ⟨b, s, a1, a2, a3, a4, a5⟩ => ⟨b, s, a1, a2, a4.lt, a4, a5⟩, ho.esz⟩), Mk.refl _ _ _⟩
  | some a =>
    have hr := run_append_own (P := P) w lo t ty e i z sz bytes hE.ty hi' hz hsize hby hzs hE.pos _ _ _ ho.owns a m d (ys.map enc).flatten
      (by rw [flatten_length (sz := sz) (fun r hr => by obtain ⟨x, hx, rfl⟩ := List.mem_map.1 hr; exact he x hx), List.length_map, hm])
      (by
        intro j u hu
        have hry : Rows' sz (ys.map enc) := fun r hr => by obtain ⟨x, hx, rfl⟩ := List.mem_map.1 hr; exact he x hx
        have hl := flatten_length hry
        have hjl : j < ys.length * sz := by
          rcases Nat.lt_or_ge j (ys.length * sz) with h | h
          · exact h
          · rw [List.getElem?_eq_none (by rw [hl, List.length_map]; exact h)] at hu; cases hu
        have hi1 : j / sz < ys.length := by rw [Nat.div_lt_iff_lt_mul hE.pos]; exact hjl
        have hp := hs.p hi1
        have hc := hs.el _ hi1
        have hmod : j % sz < sz := Nat.mod_lt _ hE.pos
        have hey : (enc ys[j / sz]).length = sz := he _ (List.getElem_mem hi1)
        have e1 : ys = ys.take (j / sz) ++ ys[j / sz] :: ys.drop (j / sz + 1) := by rw [← List.drop_eq_getElem_cons hi1, List.take_append_drop]
        have hlt : (((ys.take (j / sz)).map enc).flatten).length = j / sz * sz := by
          rw [flatten_length (sz := sz) (fun r hr => by obtain ⟨x, hx, rfl⟩ := List.mem_map.1 hr; exact he x (List.mem_of_mem_take hx))]
          simp; rw [Nat.min_eq_left (by omega)]
        have hdm : j = j / sz * sz + j % sz := by have := Nat.div_add_mod j sz; rw [Nat.mul_comm] at this; omega
        have hu2 : (enc ys[j / sz])[j % sz]? = some u := by
          have h := hu
          rw [e1, List.map_append, List.flatten_append, List.getElem?_append_right (by omega), hlt, List.map_cons, List.flatten_cons, List.getElem?_append_left (by omega)] at h
          rw [show j - j / sz * sz = j % sz by omega] at h
          exact h
        have h3 := hc (j % sz) u hu2
        rw [Option.some.injEq] at hp
        rw [hp, add_eq]
        rw [show po (some a) + j = po (some a) + j / sz * sz + j % sz by omega]
        exact h3)
      (by
        intro u hu
        obtain ⟨r, hr, hur⟩ := List.mem_flatten.1 hu
        obtain ⟨y, hy, rfl⟩ := List.mem_map.1 hr
        exact h1 y hy u hur)
      (by unfold maxLen; omega) hb hlo
    obtain ⟨v', w', hrun, hown, hg, _⟩ := hr
    rw [← List.flatten_append, ← List.map_append] at hown
    obtain ⟨q', c', rfl, hO⟩ := Ow.of_owns hown (by rw [List.length_append, ho.len, hm]) hez
    exact ⟨q', c', w', hrun, Mk.of_grown ho hg, hO, Mk.of_grown1 ho hg⟩
end
theorem Own.sl1 {α : Type} {enc : α → List Value} {sz : Nat} {w : World} {b : Nat} {y : α} {T : TypeId} (h : Own w b (enc y) T) : Sl enc sz w (some ⟨b, 0, none⟩) 1 1 [y] :=
  ⟨rfl, Nat.le_refl _, by unfold maxLen; decide, fun _ => rfl, fun i hi => by
    have : i = 0 := by simpa using hi
    subst this
    have := h.cells
    simpa [pb, po] using this, fun h => by cases h⟩
section
variable {P : Program} {f : FuncId} {N : Nat} {R : Ending → World → Prop} {k : List Item} {σ τ : Env} {w : World} {ops : Array Oper} {rest : List Oper} {d : Option Nat} {dd : Nat} {ty : TypeId} {pos : String} {aft : Array Edge} {gd : Option (Nat × Bool)}
variable {α : Type} {enc : α → List Value} {sz lo hi bytes : Nat} {t e : TypeId} {p q : Option Addr} {n c m dc : Nat} {xs ys : List α} {x y : Operand}
theorem xapp (ho : Ow enc sz e w lo hi p n c xs) (hx : ev σ x = some (.slice p n c)) (hy : ev σ y = some (.slice q m dc)) (hE : ElemOk P t e sz bytes)
    (hs : Sl enc sz w q m dc ys) (hq : q = none → dc = 0) (he : ∀ y ∈ ys, (enc y).length = sz) (h1 : ∀ y ∈ ys, ∀ u ∈ enc y, u.oneCell' = true)
    (hb : (n + m) * bytes ≤ 140737488355328) (h63 : n + m ≤ 9223372036854775807) (hlo : lo ≤ w.heap.size) :
    ∃ q' c' w', XV P N σ ⟨d, .call ⟨.builtin .append, #[x, y], #[t, t]⟩, ty, pos, aft, gd⟩ w (.slice q' (n + m) c') w' ∧ Mk lo hi w w' ∧ Ow enc sz e w' lo w'.heap.size q' (n + m) c' (xs ++ ys) ∧ Mk (pb p) (hend p) w w' := by
  obtain ⟨q', c', w', hr, hm, hO, hn1⟩ := run_app (P := P) (ty := ty) hE ho hs hq he h1 hb h63 hlo
  refine ⟨q', c', w', fun a ha => ?_, hm, hO, hn1⟩
  simp [execOp, resolve, ha.eval hx, ha.eval hy, invoke, builtin, hr]
theorem oapp (ho : Ow enc sz e w lo hi p n c xs) (hx : ev σ x = some (.slice p n c)) (hy : ev σ y = some (.slice q m dc)) (hE : ElemOk P t e sz bytes)
    (hs : Sl enc sz w q m dc ys) (hq : q = none → dc = 0) (he : ∀ y ∈ ys, (enc y).length = sz) (h1 : ∀ y ∈ ys, ∀ u ∈ enc y, u.oneCell' = true)
    (hb : (n + m) * bytes ≤ 140737488355328) (h63 : n + m ≤ 9223372036854775807) (hlo : lo ≤ w.heap.size) {nm : Nat} (hnm : nm = n + m)
    (hg : wantedE ops σ ⟨some dd, .call ⟨.builtin .append, #[x, y], #[t, t]⟩, ty, pos, aft, gd⟩ = some true) (hN : Nat.blt dd N = true)
    (h : ∀ q' c' w', Mk lo hi w w' → Ow enc sz e w' lo w'.heap.size q' nm c' (xs ++ ys) → Ops P f N R ops rest k ((dd, .slice q' nm c') :: σ) w') :
    Ops P f N R ops (⟨some dd, .call ⟨.builtin .append, #[x, y], #[t, t]⟩, ty, pos, aft, gd⟩ :: rest) k σ w := by
  subst hnm
  obtain ⟨q', c', w', hX, hm, hO, _⟩ := xapp (N := N) (σ := σ) (d := some dd) (ty := ty) (pos := pos) (aft := aft) (gd := gd) ho hx hy hE hs hq he h1 hb h63 hlo
  exact ov hX hg rfl hN (h _ _ _ hm hO)
theorem foldl_setRow (off : Nat) : ∀ (l : List Value) (k : Nat) (cells : Array Value), ((l.zipIdx k).foldl (fun cs (x : Value × Nat) => cs.setIfInBounds (off + x.2) x.1) cells).toList = setRow cells.toList (off + k) l
  | [], k, cells => rfl
  | v :: l, k, cells => by
    simp only [List.zipIdx_cons, List.foldl_cons]
    rw [foldl_setRow off l (k + 1)]
    simp [setRow, Nat.add_assoc]
theorem fill_all {sz : Nat} : ∀ (vs : List Value) (i : Nat) (pre post : List Value) (cells : Array Value), (∀ v ∈ vs, v.cells.size = sz) → pre.length = i * sz → cells.toList = pre ++ post → post.length = vs.length * sz →
    Instr.fill (fun i => some (i * sz, sz)) cells ((vs.zipIdx i).map fun x => (x.2, x.1)) = some (pre ++ (vs.map (·.cells.toList)).flatten).toArray
  | [], i, pre, post, cells, _, _, hc, hl => by
    have : post = [] := by cases post with | nil => rfl | cons x r => simp at hl
    subst this
    simp only [List.append_nil] at hc
    simp [Instr.fill, ← hc]
  | v :: vs, i, pre, post, cells, hv, hp, hc, hl => by
    have h1 := hv v (by simp)
    have hsize : cells.size = pre.length + post.length := by rw [← Array.length_toList, hc, List.length_append]
    simp only [List.length_cons, Nat.add_mul, Nat.one_mul] at hl
    simp only [List.zipIdx_cons, List.map_cons, Instr.fill]
    have hcond : ¬ ((decide (v.cells.size ≠ sz) || decide (i * sz + v.cells.size > cells.size)) = true) := by
      simp only [Bool.or_eq_true, decide_eq_true_eq, not_or]
      refine ⟨by simpa using h1, ?_⟩
      rw [h1, hsize, hp, hl]; omega
    rw [if_neg hcond]
    have e1 : v.cells.zipIdx.foldl (fun cs (x : Value × Nat) => cs.setIfInBounds (i * sz + x.2) x.1) cells = ((pre ++ v.cells.toList) ++ post.drop sz).toArray := by
      apply Array.toList_inj.1
      rw [← Array.foldl_toList, Array.toList_zipIdx, foldl_setRow, hc, Nat.add_zero, ← hp, setRow_append _ _ _ (by rw [Array.length_toList, h1]; omega)]
      simp [h1]
    have e2 := fill_all vs (i + 1) (pre ++ v.cells.toList) (post.drop sz) ((pre ++ v.cells.toList) ++ post.drop sz).toArray (fun u hu => hv u (by simp [hu])) (by rw [List.length_append, hp, Array.length_toList, h1, Nat.add_mul]; omega) (by simp) (by rw [List.length_drop]; omega)
    have e1' : (v.cells.zipIdx.foldl (fun cs x => match x with | (c, j) => cs.setIfInBounds (i * sz + j) c) cells) = ((pre ++ v.cells.toList) ++ post.drop sz).toArray := e1
    rw [e1', e2]
    simp
theorem xbuildS {parts : Array (Nat × Operand)} {vs : List Value} {cs : List Value} {len : Nat} {i : TypeInfo} {z : Value} (ht : P.underlying t = some (.slice e)) (hi : P.info? e = some i) (hz : i.zero = some z) (hsz : i.size = sz)
    (hl : len * sz ≤ 16777216) (hp : evs σ (parts.toList.map (·.2)) = some vs) (hix : parts.toList.map (·.1) = List.range len) (hv : ∀ v ∈ vs, v.cells.size = sz) (hf : (vs.map (·.cells.toList)).flatten = cs) :
    XV P N σ ⟨d, .buildSlice t len parts, ty, pos, aft, gd⟩ w (.slice (some ⟨w.heap.size, 0, none⟩) len len) (w.alloc (.cells cs.toArray e)) := fun a ha => by
  have e0 : parts.toList.map (fun x => a.eval x.2) = vs := by
    have := evs_map ha _ _ hp
    rw [List.map_map] at this; exact this
  have hlen : vs.length = len := by
    have h1 : (parts.toList.map (·.1)).length = len := by rw [hix]; simp
    rw [← e0]; simpa using h1
  have e1 : List.map (fun x : Nat × Operand => (x.1, a.eval x.2)) parts.toList = (vs.zipIdx 0).map fun x => (x.2, x.1) := by
    have h1 : ∀ (l : List (Nat × Operand)) (k : Nat), l.map (·.1) = List.range' k l.length → l.map (fun x => (x.1, a.eval x.2)) = ((l.map fun x => a.eval x.2).zipIdx k).map fun x => (x.2, x.1) := by
      intro l
      induction l with
      | nil => intro k _; rfl
      | cons x l ih =>
        intro k h
        simp only [List.map_cons, List.length_cons, List.range'_succ, List.cons.injEq] at h
        simp only [List.map_cons, List.zipIdx_cons]
        rw [ih (k + 1) h.2, h.1]
    rw [h1 _ 0 (by rw [hix, List.range_eq_range']; congr 1; rw [← hlen, ← e0]; simp), e0]
  subst hf
  subst hsz
  have hn : ¬ (16777216 < len * i.size) := by omega
  have key : ∀ c : Array Value, c.size = len * i.size → Instr.fill (fun i_1 => some (i_1 * i.size, i.size)) c ((vs.zipIdx 0).map fun x => (x.2, x.1)) = some ((vs.map (·.cells.toList)).flatten).toArray := fun c hc => by
    have := fill_all vs 0 [] c.toList c hv (by simp) (by simp) (by rw [Array.length_toList, hc, hlen])
    simpa using this
  by_cases h0 : len * i.size = 0
  · have := key ((Array.range (len * i.size)).map fun x => default) (by simp)
    simp only [h0] at this
    simp [execOp, Instr.buildSlice, run_underlying ht, sizeOf, typeInfo, hi, h0, e1, newRow]
    try simp at this
    rw [this]
    try simp [newRow]
  · have := key ((Array.range (len * i.size)).map fun x => z.cells[x % z.cells.size]!) (by simp)
    simp [execOp, Instr.buildSlice, run_underlying ht, sizeOf, typeInfo, hi, zeroValue, hz, h0, hn, e1, newRow]
    rw [this]
    try simp [newRow]
theorem obuild {parts : Array (Nat × Operand)} {vs : List Value} {cs : List Value} {len : Nat} {i : TypeInfo} {z : Value} (ht : P.underlying t = some (.slice e)) (hi : P.info? e = some i) (hz : i.zero = some z) (hsz : i.size = sz)
    (hl : len * sz ≤ 16777216) (hp : evs σ (parts.toList.map (·.2)) = some vs) (hix : parts.toList.map (·.1) = List.range len) (hv : ∀ v ∈ vs, v.cells.size = sz) (hf : (vs.map (·.cells.toList)).flatten = cs)
    (hg : wantedE ops σ ⟨some dd, .buildSlice t len parts, ty, pos, aft, gd⟩ = some true) (hN : Nat.blt dd N = true)
    (h : ∀ b w', Ext w w' → b = w.heap.size → w'.heap.size = b + 1 → Own w' b cs e → Ops P f N R ops rest k ((dd, .slice (some ⟨b, 0, none⟩) len len) :: σ) w') :
    Ops P f N R ops (⟨some dd, .buildSlice t len parts, ty, pos, aft, gd⟩ :: rest) k σ w :=
  ov (xbuildS ht hi hz hsz hl hp hix hv hf) hg rfl hN (h _ _ (ext_alloc _ _) rfl (size_alloc _ _) (own_alloc _ _ _))
end
theorem ow_nil {α : Type} {enc : α → List Value} {sz lo hi : Nat} {e : TypeId} {w : World} {p : Option Addr} {n c : Nat} {xs : List α} (h : Ow enc sz e w lo hi p n c xs) : p = none → c = 0 := by
 intro hp
 rcases h.row with ⟨_, h2⟩ | ⟨b, s, h1, _⟩
 · exact h2
 · rw [hp] at h1; cases h1
section
variable {P : Program} {f : FuncId} {N : Nat} {R : Ending → World → Prop} {k : List Item} {σ : Env} {w : World} {ops : Array Oper} {rest : List Oper} {dd : Nat} {ty : TypeId} {pos : String} {aft : Array Edge} {gd : Option (Nat × Bool)}
theorem omake0 {α : Type} (enc : α → List Value) {sz : Nat} {x y : Operand} {t e : TypeId} {i : TypeInfo} {z : Value} {n : Nat} {m : Int} {k0 : IntKind} (ht : P.underlying t = some (.slice e)) (hi : P.info? e = some i) (hz : i.zero = some z) (hsz : i.size = sz)
    (hx : ev σ x = some (.int k0 0)) (hy : ev σ y = some (.int .i64 m)) (hm : m = (n : Int)) (hb : i.bytes * n ≤ 281474976710656) (h63 : n ≤ 9223372036854775807)
    (hg : wantedE ops σ ⟨some dd, .makeSlice t x y, ty, pos, aft, gd⟩ = some true) (hN : Nat.blt dd N = true)
    (h : ∀ b w', Ext w w' → b = w.heap.size → w'.heap.size = b + 1 → Ow enc sz e w' b (b + 1) (some ⟨b, 0, none⟩) 0 n [] → Ops P f N R ops rest k ((dd, .slice (some ⟨b, 0, none⟩) 0 n) :: σ) w') :
    Ops P f N R ops (⟨some dd, .makeSlice t x y, ty, pos, aft, gd⟩ :: rest) k σ w := by
  subst hm
  have hb' : (i.bytes : Int) * (n : Int) ≤ 281474976710656 := by
    have h : ((i.bytes * n : Nat) : Int) ≤ 281474976710656 := by omega
    rwa [Int.natCast_mul] at h
  have hr := run_make (P := P) w t e i z ht hi hz k0 .i64 0 n (Int.le_refl _) (by omega) hb' (by omega)
  simp only [Int.toNat_natCast, Int.toNat_zero] at hr
  refine ov (w' := _) (v := _) (fun a ha => ?_) hg rfl hN (h w.heap.size (w.alloc (.cells (madeCells z.cells (n * i.size)) e)) (ext_alloc _ _) rfl (size_alloc _ _) ?_)
  · simp [execOp, ha.eval hx, ha.eval hy, hr]
  · refine ⟨rfl, Nat.zero_le _, by unfold maxLen; omega, .inr ⟨_, (madeCells z.cells (n * i.size)).toList, rfl, Nat.le_refl _, Nat.lt_succ_self _, ?_, ?_⟩, fun _ h => by cases h⟩
    · simpa using own_alloc w (madeCells z.cells (n * i.size)) e
    · simp [madeCells, hsz]
end
def HQ (Z : Act → World → Prop) : Exit → Act → World → Prop := fun e a w => e = .normal ∧ Z a w
def HOps (P : Program) (N : Nat) (ops : Array Oper) (w0 : World) (fuel : Nat) (listed : Array Bool) (σ : Env) (w : World) (Z : Act → World → Prop) : Prop :=
  ∀ a, Fits N σ a → wpAnyH P .any ops (HQ Z) (Ext w0) fuel listed a w
def HStep (P : Program) (N : Nat) (ops : Array Oper) (w0 : World) (fuel : Nat) (listed : Array Bool) (σ : Env) (w : World) (Z : Act → World → Prop) (i : Nat) : Prop :=
  ∀ a, Fits N σ a → wpOp P ops (HQ Z) i (fun a' w' => Ext w0 w' ∧ wpAnyH P .any ops (HQ Z) (Ext w0) fuel (listed.setIfInBounds i true) a' w') a w
def HAll (P : Program) (N : Nat) (ops : Array Oper) (w0 : World) (fuel : Nat) (listed : Array Bool) (σ : Env) (w : World) (Z : Act → World → Prop) : List Nat → Prop
  | [] => True
  | i :: r => HStep P N ops w0 fuel listed σ w Z i ∧ HAll P N ops w0 fuel listed σ w Z r
section
variable {P : Program} {f : FuncId} {N : Nat} {R : Ending → World → Prop} {k : List Item} {σ : Env} {w w0 w' : World} {ops : Array Oper} {fuel : Nat} {listed : Array Bool} {Z : Act → World → Prop} {i d : Nat} {o : Oper} {v : Value}
theorem run_held {ι : Type} (Post : ι → World → Prop) (σr : ι → Env) {id : Nat} {l : List Oper} (hm : P.follows .mixedOrders = true)
    (h : ∀ w', Ext w w' → HOps P N l.toArray w l.length (Array.replicate l.length false) σ w' (fun a' w' => ∃ x, Post x w' ∧ Fits N (σr x) a'))
    (hr : ∀ x w', Post x w' → Run P f N R k (σr x) w') : Run P f N R (.code (.region id l.toArray true) :: k) σ w := by
  refine run_of_wp fun a ha => ?_
  have h1 := wp_region_held (P := P) (id := id) (Q := HQ fun a' w' => ∃ x, Post x w' ∧ Fits N (σr x) a') (S := Ext w) hm (h _ (Ext.drew w) a ha)
  exact wp_mono h1 fun e a' w' ⟨he, x, hx, hf⟩ => ⟨he, fun cs => hr x w' hx a' hf cs⟩
theorem h_take {oi : Oper} (i : Nat) (hi : ops[i]? = some oi) (hs : Region.noSelect ops = true) (hf : Region.free .any ops listed i = true) (hr : (Region.ready .any ops listed).contains i = true)
    (hX : ∀ w', Ext w0 w' → XV P N σ oi w' v w') (hg : wantedE ops σ oi = some true) (hd : oi.dst = some d) (hN : Nat.blt d N = true) (hS : Ext w0 w)
    (h : HOps P N ops w0 fuel (listed.setIfInBounds i true) ((d, v) :: σ) w Z) : HOps P N ops w0 (fuel + 1) listed σ w Z := fun a ha =>
  wpAnyH_take hi hs hf hr (fun _ _ _ h => by cases h.1) (.inl ⟨wanted_of hg ha, fun w' hw' => hX w' hw' a ha⟩) hS (by rw [hd]; exact h _ (ha.put hN v))
theorem h_takeg {oi : Oper} (i : Nat) (hi : ops[i]? = some oi) (hs : Region.noSelect ops = true) (hf : Region.free .any ops listed i = true) (hr : (Region.ready .any ops listed).contains i = true)
    (hg : wantedE ops σ oi = some false) (hd : oi.dst = some d) (hN : Nat.blt d N = true) (hS : Ext w0 w)
    (h : HOps P N ops w0 fuel (listed.setIfInBounds i true) ((d, undef) :: σ) w Z) : HOps P N ops w0 (fuel + 1) listed σ w Z := fun a ha =>
  wpAnyH_take hi hs hf hr (fun _ _ _ h => by cases h.1) (.inr ⟨wanted_of hg ha, rfl⟩) hS (by rw [hd]; exact h _ (ha.put hN undef))
theorem h_ready {rs : List Nat} (hr : Region.ready .any ops listed = rs) (hne : rs ≠ []) (h : HAll P N ops w0 fuel listed σ w Z rs) : HOps P N ops w0 (fuel + 1) listed σ w Z := fun a ha =>
  wpAnyH_all hr hne (by
    clear hr hne
    induction rs with
    | nil => intro i hi; cases hi
    | cons j r ih =>
      intro i hi
      rcases List.mem_cons.1 hi with rfl | hi
      · exact h.1 a ha
      · exact ih h.2 i hi)
theorem h_done (hr : Region.ready .any ops listed = []) (hZ : ∀ a, Fits N σ a → Z a w) : HOps P N ops w0 fuel listed σ w Z := fun a ha => wpAnyH_done hr ⟨rfl, hZ a ha⟩ fuel
theorem h_bs {b : Bool} (h1 : b = true → HOps P N ops w0 fuel listed ((d, .bool true) :: σ) w Z) (h0 : b = false → HOps P N ops w0 fuel listed ((d, .bool false) :: σ) w Z) : HOps P N ops w0 fuel listed ((d, .bool b) :: σ) w Z := by
 cases b
 · exact h0 rfl
 · exact h1 rfl
theorem hs_val (hi : ops[i]? = some o) (hX : XV P N σ o w v w') (hg : wantedE ops σ o = some true) (hd : o.dst = some d) (hN : Nat.blt d N = true) (hS : Ext w0 w')
    (h : HOps P N ops w0 fuel (listed.setIfInBounds i true) ((d, v) :: σ) w' Z) : HStep P N ops w0 fuel listed σ w Z i := fun a ha => by
  unfold wpOp
  simp only [hi, wanted_of hg ha, if_true]
  refine .inl ?_
  unfold Oper.wp
  rw [hX a ha]
  exact ⟨hS, by rw [hd]; exact h _ (ha.put hN v)⟩
theorem hs_skip (hi : ops[i]? = some o) (hX : XS P N σ o w w') (hg : wantedE ops σ o = some true) (hd : o.dst = none) (hS : Ext w0 w')
    (h : HOps P N ops w0 fuel (listed.setIfInBounds i true) σ w' Z) : HStep P N ops w0 fuel listed σ w Z i := fun a ha => by
  unfold wpOp
  simp only [hi, wanted_of hg ha, if_true]
  refine .inl ?_
  unfold Oper.wp
  rw [hX a ha]
  exact ⟨hS, by rw [hd]; exact h _ ha⟩
theorem hs_call {g : FuncId} {l : List Value} {Φ : Value → World → Prop} (hi : ops[i]? = some o) (hX : XC P N σ o w g l) (hg : wantedE ops σ o = some true) (hd : o.dst = some d) (hN : Nat.blt d N = true) (hc : Ret P g l w Φ)
    (h : ∀ v w', Φ v w' → Ext w0 w' ∧ HOps P N ops w0 fuel (listed.setIfInBounds i true) ((d, v) :: σ) w' Z) : HStep P N ops w0 fuel listed σ w Z i := fun a ha => by
  unfold wpOp
  simp only [hi, wanted_of hg ha, if_true]
  refine .inl ?_
  unfold Oper.wp
  rw [hX a ha]
  refine Calls.mono hc fun e w'' he => ?_
  obtain ⟨v, he, hv⟩ := he
  subst he
  obtain ⟨h1, h2⟩ := h v w'' hv
  exact ⟨h1, by rw [hd]; exact h2 _ (ha.put hN v)⟩
section
variable {dd : Nat} {ty : TypeId} {pos : String} {aft : Array Edge} {gd : Option (Nat × Bool)} {α : Type} {enc : α → List Value} {sz lo hi bytes : Nat} {t e : TypeId} {p q : Option Addr} {n c m dc : Nat} {xs ys : List α} {x y : Operand}
theorem hs_app (ho : Ow enc sz e w lo hi p n c xs) (hx : ev σ x = some (.slice p n c)) (hy : ev σ y = some (.slice q m dc)) (hE : ElemOk P t e sz bytes)
    (hs : Sl enc sz w q m dc ys) (hq : q = none → dc = 0) (he : ∀ y ∈ ys, (enc y).length = sz) (h1 : ∀ y ∈ ys, ∀ u ∈ enc y, u.oneCell' = true)
    (hb : (n + m) * bytes ≤ 140737488355328) (h63 : n + m ≤ 9223372036854775807) (hlo : lo ≤ w.heap.size) {nm : Nat} (hnm : nm = n + m) (hF : Ext w0 w) (h0 : w0.heap.size ≤ lo)
    (hi' : ops[i]? = some ⟨some dd, .call ⟨.builtin .append, #[x, y], #[t, t]⟩, ty, pos, aft, gd⟩)
    (hg : wantedE ops σ ⟨some dd, .call ⟨.builtin .append, #[x, y], #[t, t]⟩, ty, pos, aft, gd⟩ = some true) (hN : Nat.blt dd N = true)
    (h : ∀ q' c' w', Mk lo hi w w' → Ow enc sz e w' lo w'.heap.size q' nm c' (xs ++ ys) → HOps P N ops w0 fuel (listed.setIfInBounds i true) ((dd, .slice q' nm c') :: σ) w' Z) :
    HStep P N ops w0 fuel listed σ w Z i := by
  subst hnm
  obtain ⟨q', c', w', hX, hm, hO, _⟩ := xapp (N := N) (σ := σ) (d := some dd) (ty := ty) (pos := pos) (aft := aft) (gd := gd) ho hx hy hE hs hq he h1 hb h63 hlo
  exact hs_val hi' hX hg rfl hN (hm.toExt hF h0) (h _ _ _ hm hO)
theorem hs_build {parts : Array (Nat × Operand)} {vs : List Value} {cs : List Value} {len : Nat} {inf : TypeInfo} {z : Value} (ht : P.underlying t = some (.slice e)) (hin : P.info? e = some inf) (hz : inf.zero = some z) (hsz : inf.size = sz)
    (hl : len * sz ≤ 16777216) (hp : evs σ (parts.toList.map (·.2)) = some vs) (hix : parts.toList.map (·.1) = List.range len) (hv : ∀ v ∈ vs, v.cells.size = sz) (hf : (vs.map (·.cells.toList)).flatten = cs)
    (hF : Ext w0 w) (hi' : ops[i]? = some ⟨some dd, .buildSlice t len parts, ty, pos, aft, gd⟩)
    (hg : wantedE ops σ ⟨some dd, .buildSlice t len parts, ty, pos, aft, gd⟩ = some true) (hN : Nat.blt dd N = true)
    (h : ∀ b w', Ext w w' → b = w.heap.size → w'.heap.size = b + 1 → Own w' b cs e → HOps P N ops w0 fuel (listed.setIfInBounds i true) ((dd, .slice (some ⟨b, 0, none⟩) len len) :: σ) w' Z) :
    HStep P N ops w0 fuel listed σ w Z i :=
  hs_val hi' (xbuildS ht hin hz hsz hl hp hix hv hf) hg rfl hN (hF.trans (ext_alloc _ _)) (h _ _ (ext_alloc _ _) rfl (size_alloc _ _) (own_alloc _ _ _))
end
end
section
variable {P : Program} {N : Nat} {ops : Array Oper} {w0 w : World} {fuel : Nat} {listed : Array Bool} {σ : Env} {Z : Act → World → Prop} {i dd : Nat} {ty : TypeId} {pos : String} {aft : Array Edge} {gd : Option (Nat × Bool)}
theorem hs_alloc {t : TypeId} {z : Value} (hz : ∀ w, (zeroValue t).run P w = .ok z w) (hF : Ext w0 w) (hi' : ops[i]? = some ⟨some dd, .alloc t, ty, pos, aft, gd⟩) (hg : wantedE ops σ ⟨some dd, .alloc t, ty, pos, aft, gd⟩ = some true) (hN : Nat.blt dd N = true)
    (h : ∀ b w', Ext w w' → b = w.heap.size → w'.heap.size = b + 1 → Own w' b z.cells.toList t → HOps P N ops w0 fuel (listed.setIfInBounds i true) ((dd, .pointer (some ⟨b, 0, none⟩)) :: σ) w' Z) :
    HStep P N ops w0 fuel listed σ w Z i :=
  hs_val (w' := w.alloc (.cells z.cells t)) (v := .pointer (some ⟨w.heap.size, 0, none⟩)) hi'
    (fun a ha => by simp [execOp, Instr.alloc, hz, newVar, newRow]) hg rfl hN (hF.trans (ext_alloc _ _))
    (h _ _ (ext_alloc _ _) rfl (size_alloc _ _) (own_alloc _ _ _))
theorem hs_storeN {x y : Operand} {t T : TypeId} {b o sz : Nat} {cs vs : List Value} (hs : ∀ w, (sizeOf t).run P w = .ok sz w) (hx : ev σ x = some (.pointer (some ⟨b, o, none⟩))) (hy : ev σ y = some (.agg vs.toArray))
    (ho : Own w b cs T) (hl : vs.length = sz) (hlt : o + vs.length ≤ cs.length) (h1 : ∀ v ∈ vs, v.oneCell' = true) (hF : Ext w0 w) (hb : w0.heap.size ≤ b)
    (hi' : ops[i]? = some ⟨none, .store t x y, ty, pos, aft, gd⟩) (hg : wantedE ops σ ⟨none, .store t x y, ty, pos, aft, gd⟩ = some true)
    (h : ∀ w', Only b w w' → Own w' b (setRow cs o vs) T → HOps P N ops w0 fuel (listed.setIfInBounds i true) σ w' Z) :
    HStep P N ops w0 fuel listed σ w Z i := by
  subst hl
  obtain ⟨w', hr, hon, hown⟩ := run_storeCells_own (P := P) vs w cs o 0 ho (by omega) h1
  refine hs_skip hi' (w' := w') (fun a ha => ?_) hg rfl (hon.ext hF hb) (h _ hon (by simpa using hown))
  simp [execOp, ha.eval hx, ha.eval hy, Instr.storeAt, Instr.sureAddr, storeVar, Value.cells, hs, hr]
theorem hs_store1 {x y : Operand} {t T : TypeId} {b o : Nat} {cs : List Value} {v : Value} (hs : ∀ w, (sizeOf t).run P w = .ok 1 w) (hx : ev σ x = some (.pointer (some ⟨b, o, none⟩))) (hy : ev σ y = some v)
    (ho : Own w b cs T) (hlt : o < cs.length) (h1 : v.oneCell' = true) (hF : Ext w0 w) (hb : w0.heap.size ≤ b)
    (hi' : ops[i]? = some ⟨none, .store t x y, ty, pos, aft, gd⟩) (hg : wantedE ops σ ⟨none, .store t x y, ty, pos, aft, gd⟩ = some true)
    (h : ∀ w', Only b w w' → Own w' b (cs.set o v) T → HOps P N ops w0 fuel (listed.setIfInBounds i true) σ w' Z) :
    HStep P N ops w0 fuel listed σ w Z i :=
  hs_skip hi' (w' := w.setCell ⟨b, o, none⟩ v) (fun a ha => by
      have hc : v.cells = #[v] := by cases v <;> first | rfl | (simp [Value.oneCell'] at h1)
      have hcell : w.cell? ⟨b, o, none⟩ = some (cs[o]'hlt) := by
        have := ho.cells o (cs[o]'hlt) (by simp [hlt]); simpa using this
      have hfr : w.frozen? ⟨b, o, none⟩ = false := by
        unfold Own at ho; simp [World.frozen?, ho]
      have hst := run_store P w ⟨b, o, none⟩ v .plain h1
      simp only [hcell, hfr, Bool.false_eq_true, if_false] at hst
      simp [execOp, ha.eval hx, ha.eval hy, Instr.storeAt, Instr.sureAddr, storeVar, hc, hs, storeCells, Addr.add, hst]) hg rfl ((only_setCell _ _ _ _).ext hF hb) (h _ (only_setCell _ _ _ _) (own_setCell ho v))
end
section
variable {P : Program} {f : FuncId} {N : Nat} {R : Ending → World → Prop} {k : List Item} {σ : Env} {w : World} {ops : Array Oper} {rest : List Oper} {ty : TypeId} {pos : String} {aft : Array Edge} {gd : Option (Nat × Bool)}
end
section
variable {α : Type} {f : α → Int → α} {s : Int} {xs : List α} {k0 : Int} {i sz : Nat} {enc : α → List Value} {spare : List Value}
end
end Go.Proofs.YtchblgaklknkcaaGreat

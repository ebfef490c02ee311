/-
  More rules: where an append leaves a slice; appends, stores and calls beside nested slices of our own. No condition beyond those written in each law.
-/
import Derived.Test.YtchblgaklknkcaaGreatRg
namespace Go.Proofs.YtchblgaklknkcaaGreat
open Go.RowKit
set_option linter.unusedVariables false
set_option linter.unusedSimpArgs false
set_option linter.unusedSectionVars false
theorem hend_le (p : Option Addr) : hend p ≤ pb p + 1 := by cases p <;> simp [hend, pb]
section
variable {P : Program} {t e ty : TypeId} {w : World} {α : Type} {enc : α → List Value} {sz lo hi bytes n c m d : Nat} {p q : Option Addr} {xs ys : List α}
theorem sl_news {a : Addr} (hz : 0 < sz) (hs : Sl enc sz w (some a) m d ys) (he : ∀ y ∈ ys, (enc y).length = sz) : (ys.map enc).flatten.length = m * sz ∧ ∀ j u, (ys.map enc).flatten[j]? = some u → w.cell? (a.add j) = some u := by
 have hm : m = ys.length := hs.len
 have hry : Rows' sz (ys.map enc) := fun r hr => by obtain ⟨x, hx, rfl⟩ := List.mem_map.1 hr; exact he x hx
 have hl := flatten_length hry
 refine ⟨by rw [hl, List.length_map, hm], fun j u hu => ?_⟩
 have hjl : j < ys.length * sz := by
   rcases Nat.lt_or_ge j (ys.length * sz) with h | h
   · exact h
   · rw [List.getElem?_eq_none (by rw [hl, List.length_map]; exact h)] at hu; cases hu
 have hi1 : j / sz < ys.length := by rw [Nat.div_lt_iff_lt_mul hz]; exact hjl
 have hp := hs.p hi1
 have hc := hs.el _ hi1
 have hmod : j % sz < sz := Nat.mod_lt _ hz
 have hey : (enc ys[j / sz]).length = sz := he _ (List.getElem_mem hi1)
 have e1 : ys = ys.take (j / sz) ++ ys[j / sz] :: ys.drop (j / sz + 1) := by rw [← List.drop_eq_getElem_cons hi1, List.take_append_drop]
 have hlt : (((ys.take (j / sz)).map enc).flatten).length = j / sz * sz := by
   rw [flatten_length (sz := sz) (fun r hr => by obtain ⟨x, hx, rfl⟩ := List.mem_map.1 hr; exact he x (List.mem_of_mem_take hx))]
   simp; rw [Nat.min_eq_left (by omega)]
 have hdm : j = j / sz * sz + j % sz := by have := Nat.div_add_mod j sz; rw [Nat.mul_comm] at this; omega
 have hu2 : (enc ys[j / sz])[j % sz]? = some u := by
   have h := hu
   rw [e1, List.map_append, List.flatten_append, List.getElem?_append_right (by omega), hlt, List.map_cons, List.flatten_cons, List.getElem?_append_left (by omega)] at h
   rw [show j - j / sz * sz = j % sz by omega] at h
   exact h
 have h3 := hc (j % sz) u hu2
 rw [Option.some.injEq] at hp
 rw [hp, add_eq]
 rw [show po (some a) + j = po (some a) + j / sz * sz + j % sz by omega]
 exact h3
theorem run_app_at (hE : ElemOk P t e sz bytes) (ho : Ow enc sz e w lo hi p n c xs) (hs : Sl enc sz w q m d ys) (hq : q = none → d = 0) (he : ∀ y ∈ ys, (enc y).length = sz) (h1 : ∀ y ∈ ys, ∀ u ∈ enc y, u.oneCell' = true)
    (hb : (n + m) * bytes ≤ 140737488355328) (h63 : n + m ≤ 9223372036854775807) {q' : Option Addr} {k c' : Nat} {w' : World}
    (hr : (Builtin.append_ #[t, t] ty #[.slice p n c, .slice q m d]).run P w = .ok (.slice q' k c') w') : q' = p ∨ w.heap.size ≤ pb q' := by
  obtain ⟨i, z, hi', hz, hsize, hby, hzs⟩ := hE.inf
  have hm : m = ys.length := hs.len
  cases q with
  | none =>
    have hd : d = 0 := hq rfl
    have hm0 : m = 0 := by have := hs.cap; omega
    subst hd; subst hm0
    have h2 := run_append_owned_none (P := P) (w := w) lo t ty e i sz hE.ty hi' _ _ _ ho.owns
    rw [h2] at hr
    simp only [Result.ok.injEq, Value.slice.injEq] at hr
    exact .inl hr.1.1.symm
  | some a =>
    obtain ⟨hl, hnews⟩ := sl_news hE.pos hs he
    subst hsize
    subst hby
    have hc := ho.cap
    rcases ho.row with ⟨rfl, rfl⟩ | ⟨b, s, rfl, h3, h4, h5, h6⟩
    · have hn0 : n = 0 := by omega
      subst hn0
      by_cases hm0 : m = 0
      · subst hm0
        have h2 : (Builtin.append_ #[t, t] ty #[.slice Option.none 0 0, .slice (some a) 0 d]).run P w = .ok (.slice Option.none 0 0) w := by
          simp [Builtin.append_, run_underlying hE.ty, sizeOf, typeInfo, hi', Builtin.lenOf, Builtin.firstCells, loadCells, loadCellsFrom]
        rw [h2] at hr
        simp only [Result.ok.injEq, Value.slice.injEq] at hr
        exact .inl hr.1.1.symm
      · have h2 := run_append_nil (P := P) w t ty e i z hE.ty hi' hz a m d _ hl hnews (by omega) (by omega) (by have := hb; simp only [Nat.zero_add] at this; omega)
        rw [h2] at hr
        simp only [Result.ok.injEq, Value.slice.injEq] at hr
        right; rw [← hr.1.1]; simp [pb]
    · by_cases hroom : n + m ≤ c
      · have hlen : ((xs.map enc).flatten).length = n * i.size := ho.rows
        have hsz : ((xs.map enc).flatten ++ s).toArray.size = c * i.size := by
          simp only [List.size_toArray, List.length_append, hlen, h6, ← Nat.add_mul]; congr 1; omega
        have hone : ∀ u ∈ (ys.map enc).flatten, u.oneCell' = true := fun u hu => by
          obtain ⟨r, hr, hur⟩ := List.mem_flatten.1 hu
          obtain ⟨y, hy, rfl⟩ := List.mem_map.1 hr
          exact h1 y hy u hur
        have h2 := run_append_room (P := P) w t ty e i hE.ty hi' b n c _ h5 a m d _ hl hnews hone hroom (by rw [hl, hsz, ← Nat.add_mul]; exact Nat.mul_le_mul_right _ hroom)
        rw [h2] at hr
        simp only [Result.ok.injEq, Value.slice.injEq] at hr
        exact .inl hr.1.1.symm
      · have holds : ∀ j u, ((xs.map enc).flatten)[j]? = some u → w.cell? ((⟨b, 0, Option.none⟩ : Addr).add j) = some u := ho.owns.cells (g := b) rfl
        have h2 := run_append_grow (P := P) w t ty e i z hE.ty hi' hz ⟨b, 0, Option.none⟩ n c _ ho.rows holds a m d _ hl hnews (by omega) (by omega) (growslice_fits (by omega) hb)
        rw [h2] at hr
        simp only [Result.ok.injEq, Value.slice.injEq] at hr
        right; rw [← hr.1.1]; simp [pb]
end
section
variable {P : Program} {f : FuncId} {N : Nat} {R : Ending → World → Prop} {k : List Item} {σ : Env} {w : World} {ops : Array Oper} {rest : List Oper} {dd : Nat} {ty : TypeId} {pos : String} {aft : Array Edge} {gd : Option (Nat × Bool)}
variable {α : Type} {enc : α → List Value} {sz lo hi bytes : Nat} {t e : TypeId} {p q : Option Addr} {n c m dc : Nat} {xs ys : List α} {x y : Operand}
theorem oapp2 (ho : Ow enc sz e w lo hi p n c xs) (hx : ev σ x = some (.slice p n c)) (hy : ev σ y = some (.slice q m dc)) (hE : ElemOk P t e sz bytes)
    (hs : Sl enc sz w q m dc ys) (hq : q = none → dc = 0) (he : ∀ y ∈ ys, (enc y).length = sz) (h1 : ∀ y ∈ ys, ∀ u ∈ enc y, u.oneCell' = true)
    (hb : (n + m) * bytes ≤ 140737488355328) (h63 : n + m ≤ 9223372036854775807) (hlo : lo ≤ w.heap.size) {nm : Nat} (hnm : nm = n + m)
    (hg : wantedE ops σ ⟨some dd, .call ⟨.builtin .append, #[x, y], #[t, t]⟩, ty, pos, aft, gd⟩ = some true) (hN : Nat.blt dd N = true)
    (h : ∀ q' c' w', Mk lo hi w w' → Mk (pb p) (hend p) w w' → (q' = p ∨ w.heap.size ≤ pb q') → Ow enc sz e w' lo w'.heap.size q' nm c' (xs ++ ys) → Ops P f N R ops rest k ((dd, .slice q' nm c') :: σ) w') :
    Ops P f N R ops (⟨some dd, .call ⟨.builtin .append, #[x, y], #[t, t]⟩, ty, pos, aft, gd⟩ :: rest) k σ w := by
  subst hnm
  obtain ⟨q', c', w', hr, hm, hO, hn⟩ := run_app (P := P) (ty := ty) hE ho hs hq he h1 hb h63 hlo
  have hat := run_app_at hE ho hs hq he h1 hb h63 hr
  refine ov (v := .slice q' (n + m) c') (w' := w') (fun a ha => ?_) hg rfl hN (h _ _ _ hm hn hat hO)
  simp [execOp, resolve, ha.eval hx, ha.eval hy, invoke, builtin, hr]
end
def sfrom (p : Option Addr) (c k sz : Nat) : Option Addr := if c = k then p else p.map (·.add (k * sz))
theorem Sl.drop {α : Type} {enc : α → List Value} {sz : Nat} {w : World} {p : Option Addr} {n c k : Nat} {xs : List α} (h : Sl enc sz w p n c xs) (hk : k ≤ n) : Sl enc sz w (sfrom p c k sz) (n - k) (c - k) (xs.drop k) := by
 have hl := h.len; have hc := h.cap
 have key : k < n → sfrom p c k sz = some ⟨pb p, po p + k * sz, none⟩ := fun h1 => by
   have hp := h.ptr (by omega)
   unfold sfrom
   rw [if_neg (by omega)]
   conv => lhs; rw [hp]
   rw [Option.map_some, add_eq]
 refine ⟨by simp; omega, by omega, by have := h.big; omega, fun h0 => ?_, fun i hi => ?_, fun hn => ?_⟩
 · have := key (by omega); rw [this]; simp [pb, po]
 · simp only [List.length_drop] at hi
   have e := key (by omega)
   rw [e]
   have := h.el (k + i) (by omega)
   rw [List.getElem_drop]
   simp only [pb, po, Option.getD_some] at this ⊢
   rw [show (p.getD ⟨0, 0, none⟩).off + k * sz + i * sz = (p.getD ⟨0, 0, none⟩).off + (k + i) * sz by rw [Nat.add_mul]; omega]
   exact this
 · unfold sfrom at hn
   split at hn
   · omega
   · have : p = none := by simpa using hn
     have := h.nil this; omega
section
variable {P : Program} {N : Nat} {σ : Env} {w : World} {d : Option Tmp} {ty : TypeId} {pos : String} {aft : Array Edge} {gd : Option (Nat × Bool)}
theorem xslice_l {x y : Operand} {t e : TypeId} {p : Option Addr} {n c sz k : Nat} {m : Int} {kk : IntKind} (ht : P.underlying t = some (.slice e)) (hs : ∀ w, (sizeOf e).run P w = .ok sz w)
    (hx : ev σ x = some (.slice p n c)) (hy : ev σ y = some (.int kk m)) (hm : m = (k : Int)) (hk : k ≤ n) :
    XV P N σ ⟨d, .slice t x (some y) none none, ty, pos, aft, gd⟩ w (.slice (sfrom p c k sz) (n - k) (c - k)) w := fun a ha => by
  subst hm
  have he : P.elem t = e := by simp [Program.elem, ht]
  have ht' : P.underlying t = some (.slice (P.elem t)) := by rw [he]; exact ht
  have h1 := run_slice_l (P := P) (w := w) t p n c ht' kk (k : Int) (by omega) (by omega)
  rw [he, hs] at h1
  simp [execOp, ha.eval hx, ha.eval hy, run_sliceAt_slice (P := P) (w := w) t _ _ _ _ ht', h1, Result.andThen, sliced, sfrom]
end
section
variable {τ β : Type} {cells : τ → Hd → List Value} {sz : Nat} {inn : τ → List β} {encI : β → List Value} {szI : Nat} {w w' : World} {p : Option Addr} {n c lo hi lo' hi' i : Nat} {T T' TI : TypeId} {xs : List (X τ)} {y : X τ}
theorem NOw.onlyT {b : Nat} {cs : List Value} (h : NOw cells sz T inn encI szI TI w lo hi p n c xs) (ho : Own w b cs T') (hT : T' ≠ T ∧ T' ≠ TI) (hx : Only b w w') : NOw cells sz T inn encI szI TI w' lo hi p n c xs :=
  ⟨h.o.onlyT ho hT.1 hx, h.i.onlyT ho hT.2 hx⟩
theorem Inn.setEl (h : Inn inn encI szI TI w lo hi xs) (hi2 : i < xs.length) (k : Ow encI szI TI w lo' hi' y.h.p y.h.n y.h.c (inn y.v)) (h1 : hi ≤ lo') (h2 : lo ≤ lo') (h3 : hi ≤ hi') : Inn inn encI szI TI w lo hi' (xs.set i y) := by
 refine ⟨fun x m => ?_, List.pairwise_iff_getElem.2 fun a b ha hb hab => ?_⟩
 · rcases List.mem_or_eq_of_mem_set m with m | rfl
   · exact (h.i x m).wide (Nat.le_refl _) h3
   · exact k.wide h2 (Nat.le_refl _)
 · simp only [List.length_set] at ha hb
   rw [List.getElem_set, List.getElem_set]
   have hp := List.pairwise_iff_getElem.1 h.two a b ha hb hab
   split
   · split
     · omega
     · intro h4 h5
       have e1 := k.block h4
       have e2 := (h.i xs[b] (List.getElem_mem hb)).block h5
       omega
   · split
     · intro h4 h5
       have e1 := k.block h5
       have e2 := (h.i xs[a] (List.getElem_mem ha)).block h4
       omega
     · exact hp
theorem NOw.offP {α : Type} {enc : α → List Value} {szg lo2 hi2 ng cg : Nat} {eg : TypeId} {q : Option Addr} {zs : List α} (h : NOw cells sz T inn encI szI TI w lo hi p n c xs) (G : Ow enc szg eg w lo2 hi2 q ng cg zs) (m : Mk (pb q) (hend q) w w') (hT : T ≠ eg ∧ TI ≠ eg) : NOw cells sz T inn encI szI TI w' lo hi p n c xs :=
  ⟨h.o.offP G m hT.1, ⟨fun x mm => (h.i.i x mm).offP G m hT.2, h.i.two⟩⟩
end
section
variable {P : Program} {f : FuncId} {N : Nat} {R : Ending → World → Prop} {k : List Item} {σ : Env} {w w0 : World} {ops : Array Oper} {rest : List Oper} {dd i fuel : Nat} {listed : Array Bool} {Z : Act → World → Prop} {ty : TypeId} {pos : String} {aft : Array Edge} {gd : Option (Nat × Bool)}
variable {τ β : Type} {cells : τ → Hd → List Value} {inn : τ → List β} {encI : β → List Value} {sz szI lo hi lo2 hi2 bytes : Nat} {t T TI : TypeId} {p q : Option Addr} {n c dc : Nat} {xs : List (X τ)} {z : X τ} {x y : Operand}
theorem xappNT (G : NOw cells sz T inn encI szI TI w lo hi p n c xs) (hT : T ≠ TI) (hx : ev σ x = some (.slice p n c)) (hy : ev σ y = some (.slice q 1 dc)) (hE : ElemOk P t T sz bytes)
    (hs : Sl (xc cells) sz w q 1 dc [z]) (hq : q = Option.none → dc = 0) (he : (xc cells z).length = sz) (h1 : ∀ u ∈ xc cells z, u.oneCell' = true)
    (hI : Ow encI szI TI w lo2 hi2 z.h.p z.h.n z.h.c (inn z.v)) (hb : (n + 1) * bytes ≤ 140737488355328) (h63 : n + 1 ≤ 9223372036854775807) (hlo : lo ≤ w.heap.size) (h2 : hi ≤ lo2) (h3 : hi2 ≤ w.heap.size) (h4 : lo ≤ lo2) (h5 : hi ≤ w.heap.size) {d : Option Nat} :
    ∃ q' c' w', XV P N σ ⟨d, .call ⟨.builtin .append, #[x, y], #[t, t]⟩, ty, pos, aft, gd⟩ w (.slice q' (n + 1) c') w' ∧ Mk lo hi w w' ∧ Mk (pb p) (hend p) w w' ∧ NOw cells sz T inn encI szI TI w' lo w'.heap.size q' (n + 1) c' (xs ++ [z]) := by
  obtain ⟨q', c', w', hX, hm, hO, hn⟩ := xapp (P := P) (N := N) (σ := σ) (d := d) (ty := ty) (pos := pos) (aft := aft) (gd := gd) G.o hx hy hE hs hq (fun u hu => by rw [List.mem_singleton] at hu; subst hu; exact he) (fun u hu => by rw [List.mem_singleton] at hu; subst hu; exact h1) hb h63 hlo
  refine ⟨q', c', w', hX, hm, hn, hO, ?_⟩
  have hI2 : Inn inn encI szI TI w lo w.heap.size (xs ++ [z]) := G.i.push (hi' := w.heap.size) (hI.wide (Nat.le_refl _) h3) h2 h4 h5
  have := Inn.offT hI2 G.o hT hn
  exact this.wide (Nat.le_refl _) hm.size
theorem oappNT (G : NOw cells sz T inn encI szI TI w lo hi p n c xs) (hT : T ≠ TI) (hx : ev σ x = some (.slice p n c)) (hy : ev σ y = some (.slice q 1 dc)) (hE : ElemOk P t T sz bytes)
    (hs : Sl (xc cells) sz w q 1 dc [z]) (hq : q = Option.none → dc = 0) (he : (xc cells z).length = sz) (h1 : ∀ u ∈ xc cells z, u.oneCell' = true)
    (hI : Ow encI szI TI w lo2 hi2 z.h.p z.h.n z.h.c (inn z.v)) (hb : (n + 1) * bytes ≤ 140737488355328) (h63 : n + 1 ≤ 9223372036854775807) (hlo : lo ≤ w.heap.size) (h2 : hi ≤ lo2) (h3 : hi2 ≤ w.heap.size) (h4 : lo ≤ lo2) (h5 : hi ≤ w.heap.size) {nm : Nat} (hnm : nm = n + 1)
    (hg : wantedE ops σ ⟨some dd, .call ⟨.builtin .append, #[x, y], #[t, t]⟩, ty, pos, aft, gd⟩ = some true) (hN : Nat.blt dd N = true)
    (h : ∀ q' c' w', Mk lo hi w w' → Mk (pb p) (hend p) w w' → NOw cells sz T inn encI szI TI w' lo w'.heap.size q' nm c' (xs ++ [z]) → Ops P f N R ops rest k ((dd, .slice q' nm c') :: σ) w') :
    Ops P f N R ops (⟨some dd, .call ⟨.builtin .append, #[x, y], #[t, t]⟩, ty, pos, aft, gd⟩ :: rest) k σ w := by
  subst hnm
  obtain ⟨q', c', w', hX, hm, hn, hO⟩ := xappNT (N := N) (σ := σ) (d := some dd) (ty := ty) (pos := pos) (aft := aft) (gd := gd) G hT hx hy hE hs hq he h1 hI hb h63 hlo h2 h3 h4 h5
  exact ov hX hg rfl hN (h _ _ _ hm hn hO)
theorem hs_appNT (G : NOw cells sz T inn encI szI TI w lo hi p n c xs) (hT : T ≠ TI) (hx : ev σ x = some (.slice p n c)) (hy : ev σ y = some (.slice q 1 dc)) (hE : ElemOk P t T sz bytes)
    (hs : Sl (xc cells) sz w q 1 dc [z]) (hq : q = Option.none → dc = 0) (he : (xc cells z).length = sz) (h1 : ∀ u ∈ xc cells z, u.oneCell' = true)
    (hI : Ow encI szI TI w lo2 hi2 z.h.p z.h.n z.h.c (inn z.v)) (hb : (n + 1) * bytes ≤ 140737488355328) (h63 : n + 1 ≤ 9223372036854775807) (hlo : lo ≤ w.heap.size) (h2 : hi ≤ lo2) (h3 : hi2 ≤ w.heap.size) (h4 : lo ≤ lo2) (h5 : hi ≤ w.heap.size) {nm : Nat} (hnm : nm = n + 1) (hF : Ext w0 w) (h0 : w0.heap.size ≤ lo)
    (hi' : ops[i]? = some ⟨some dd, .call ⟨.builtin .append, #[x, y], #[t, t]⟩, ty, pos, aft, gd⟩)
    (hg : wantedE ops σ ⟨some dd, .call ⟨.builtin .append, #[x, y], #[t, t]⟩, ty, pos, aft, gd⟩ = some true) (hN : Nat.blt dd N = true)
    (h : ∀ q' c' w', Mk lo hi w w' → Mk (pb p) (hend p) w w' → NOw cells sz T inn encI szI TI w' lo w'.heap.size q' nm c' (xs ++ [z]) → HOps P N ops w0 fuel (listed.setIfInBounds i true) ((dd, .slice q' nm c') :: σ) w' Z) :
    HStep P N ops w0 fuel listed σ w Z i := by
  subst hnm
  obtain ⟨q', c', w', hX, hm, hn, hO⟩ := xappNT (N := N) (σ := σ) (d := some dd) (ty := ty) (pos := pos) (aft := aft) (gd := gd) G hT hx hy hE hs hq he h1 hI hb h63 hlo h2 h3 h4 h5
  exact hs_val hi' hX hg rfl hN (hm.toExt hF h0) (h _ _ _ hm hn hO)
theorem ostoreNI {off : Nat} {v : Value} {yo : Operand} {y : X τ} (hs : ∀ w, (sizeOf t).run P w = .ok 1 w) (G : NOw cells sz T inn encI szI TI w lo hi p n c xs) (hT : T ≠ TI) (hi' : i < xs.length) (hx : ev σ x = some (.pointer (some ⟨pb p, po p + i * sz + off, none⟩))) (hy : ev σ yo = some v)
    (hoff : off < sz) (he : xc cells y = (xc cells xs[i]).set off v) (h1 : v.oneCell' = true) (hI : Ow encI szI TI w lo2 hi2 y.h.p y.h.n y.h.c (inn y.v)) (h2 : hi ≤ lo2) (h3 : hi2 ≤ w.heap.size) (h4 : lo ≤ lo2) (h5 : hi ≤ w.heap.size)
    (hg : wantedE ops σ ⟨none, .store t x yo, ty, pos, aft, gd⟩ = some true)
    (h : ∀ w', Mk lo hi w w' → Mk (pb p) (hend p) w w' → NOw cells sz T inn encI szI TI w' lo w'.heap.size p n c (xs.set i y) → Ops P f N R ops rest k σ w') :
    Ops P f N R ops (⟨none, .store t x yo, ty, pos, aft, gd⟩ :: rest) k σ w := by
  have hl := G.o.len; have hc := G.o.cap
  rcases G.o.row with ⟨_, h6⟩ | ⟨b, s, rfl, h6, h7, h8, h9⟩
  · omega
  · have hlen : ((xs.map (xc cells)).flatten).length = n * sz := G.o.rows
    have hm : (i + 1) * sz ≤ n * sz := Nat.mul_le_mul_right _ (by omega)
    rw [Nat.add_mul] at hm
    refine ostore1 hs (b := b) (o := i * sz + off) (by rw [hx]; simp [pb, po]) hy h8 (by simp only [List.length_append]; omega) h1 hg fun w' hon hown => h w' (Mk.ofOnly hon h6 h7) (Mk.ofOnly hon (by simp [pb]) (by simp [hend])) ?_
    rw [set_flat (enc := xc cells) (y := y) hoff xs i hi' he G.o.esz] at hown
    have hI2 : Inn inn encI szI TI w lo w.heap.size (xs.set i y) := G.i.setEl hi' (hI.wide (Nat.le_refl _) h3) h2 h4 h5
    have hI3 := hI2.onlyT h8 hT hon
    refine ⟨⟨by rw [List.length_set]; exact hl, hc, G.o.big, .inr ⟨b, s, rfl, h6, Nat.lt_of_lt_of_le (Nat.lt_of_lt_of_le h7 h5) (Nat.le_of_eq hon.size.symm), hown, h9⟩, fun z hz' => ?_⟩, hI3.wide (Nat.le_refl _) (Nat.le_of_eq hon.size.symm)⟩
    rcases List.mem_or_eq_of_mem_set hz' with hz' | rfl
    · exact G.o.esz z hz'
    · rw [he, List.length_set]; exact G.o.esz _ (List.getElem_mem hi')
end
section
variable {P : Program} {f : FuncId} {N : Nat} {R : Ending → World → Prop} {k : List Item} {σ : Env} {w : World} {ops : Array Oper} {ty : TypeId} {pos : String} {aft : Array Edge} {gd : Option (Nat × Bool)}
theorem st_storeN {x y : Operand} {t T : TypeId} {b sz : Nat} {cs vs : List Value} (hs : ∀ w, (sizeOf t).run P w = .ok sz w) (hx : ev σ x = some (.pointer (some ⟨b, 0, none⟩))) (hy : ev σ y = some (.agg vs.toArray))
    (ho : Own w b cs T) (hl : vs.length = sz) (hlt : 0 + vs.length ≤ cs.length) (h1 : ∀ v ∈ vs, v.oneCell' = true) (hg : wantedE ops σ ⟨none, .store t x y, ty, pos, aft, gd⟩ = some true)
    (h : ∀ w', Only b w w' → Own w' b (setRow cs 0 vs) T → Run P f N R k σ w') : STOps P N ops w [] σ (fun a' => wpList P ops (HQ (After P f N R k)) [⟨none, .store t x y, ty, pos, aft, gd⟩] a' w) := by
  obtain ⟨w', hr, hon, hown⟩ := run_storeCells_own (P := P) vs w cs 0 0 ho (by omega) h1
  subst hl
  exact st_last (w' := w') (fun a ha => by simp [execOp, ha.eval hx, ha.eval hy, Instr.storeAt, Instr.sureAddr, storeVar, Value.cells, hs, hr]) hg rfl (h w' hon (by simpa using hown))
end
def cutW (w : World) (k : Nat) : World := { w with heap := w.heap.extract 0 k }
theorem cut_size {w : World} {k : Nat} (h : k ≤ w.heap.size) : (cutW w k).heap.size = k := by simp [cutW]; omega
theorem ext_cut {w : World} {k : Nat} (h : k ≤ w.heap.size) : Ext (cutW w k) w :=
  ⟨rfl, rfl, rfl, by rw [cut_size h]; exact h, fun j hj => by
    rw [cut_size h] at hj
    simp only [cutW]
    rw [Array.getElem?_extract, if_pos (by omega), Nat.zero_add]⟩
theorem cut_mk {w w' : World} {k : Nat} (h : k ≤ w.heap.size) (e : Ext (cutW w k) w') (hs : w.heap.size ≤ w'.heap.size) : Mk k w.heap.size w w' :=
  ⟨e.os, e.tape, e.output, hs, fun j hj hn => by
    have h1 := e.block j (by rw [cut_size h]; omega)
    have h2 := (ext_cut h).block j (by rw [cut_size h]; omega)
    rw [h1, h2]⟩
section
variable {σ : Env} {N : Nat} {P : Program} {w : World} {fn : Func} {t ty u r s : Nat} {p : Addr} {v x y z : Value}
end
end Go.Proofs.YtchblgaklknkcaaGreat

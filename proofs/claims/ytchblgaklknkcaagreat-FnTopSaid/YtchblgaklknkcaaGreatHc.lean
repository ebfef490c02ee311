/-
  Drawn regions that make memory, with the code behind them walked in each order; slices with both bounds; slices of slices out of a literal. No condition beyond those written in each law.
-/
import Derived.Test.YtchblgaklknkcaaGreatRg2
import Derived.Test.YtchblgaklknkcaaGreatMore
import Derived.Test.YtchblgaklknkcaaGreatDraw
import Derived.Laws.IdiomCopy
namespace Go.Proofs.YtchblgaklknkcaaGreat
open Go.RowKit
set_option linter.unusedVariables false
set_option linter.unusedSimpArgs false
set_option linter.unusedSectionVars false
theorem ext_to_cut {w W : World} (E : Ext w W) {k : Nat} (h : w.heap.size ≤ k) (hk : k ≤ W.heap.size) : Ext w (cutW W k) :=
  ⟨E.os, E.tape, E.output, by rw [cut_size hk]; exact h, fun j hj => by
    have h1 := E.block j hj
    have h2 := (ext_cut hk).block j (by rw [cut_size hk]; omega)
    rw [← h2]; exact h1⟩
theorem Own.cut {w : World} {b k : Nat} {cs : List Value} {T : TypeId} (h : Own w b cs T) (hb : b < k) (hk : k ≤ w.heap.size) : Own (cutW w k) b cs T := by
 have h2 := (ext_cut hk).block b (by rw [cut_size hk]; exact hb)
 unfold Own at *
 rw [← h2]; exact h
section
variable {P : Program} {f : FuncId} {N : Nat} {R : Ending → World → Prop} {k : List Item} {σ : Env} {w w0 w' : World} {ops : Array Oper} {fuel : Nat} {listed : Array Bool} {i d : Nat} {o : Oper} {v : Value}
theorem run_heldC (hE : Ext w0 w) {id : Nat} {l : List Oper} (hm : P.follows .mixedOrders = true)
    (h : ∀ w', Ext w w' → HOps P N l.toArray w0 l.length (Array.replicate l.length false) σ w' (After P f N R k)) : Run P f N R (.code (.region id l.toArray true) :: k) σ w := by
  refine run_of_wp fun a ha => ?_
  have h1 := wp_region_held (P := P) (id := id) (Q := HQ (After P f N R k)) (S := Ext w0) hm (h _ (Ext.drew w) a ha)
  exact wp_mono h1 fun e a' w' ⟨he, hx⟩ => ⟨he, hx⟩
theorem h_doneC (hr : Region.ready .any ops listed = []) (h : Run P f N R k σ w) : HOps P N ops w0 fuel listed σ w (After P f N R k) := h_done hr fun a ha cs => h a ha cs
theorem rescCTT {fn : Func} {t ty u r : Nat} {p : Addr} {x y : Value} (h : fn.results = #[.cell t ty, .tmp u, .tmp r]) (hp : look σ t = some (.pointer (some p))) (hl : (loadVar ty p).run P w = .ok v w) (hx : look σ u = some x) (hy : look σ r = some y) :
    ∀ a, Fits N σ a → (results fn a.tmps).run P w = .ok (.tuple #[v, x, y]) w := fun a ha => by
  simp [results, h, ha.getD hp, ha.getD hx, ha.getD hy, asAddr, hl, - Array.getD_eq_getD_getElem?]
end
section
variable {P : Program} {N : Nat} {σ : Env} {w : World} {d : Option Tmp} {ty : TypeId} {pos : String} {aft : Array Edge} {gd : Option (Nat × Bool)}
theorem xslice_lh {x y z : Operand} {t e : TypeId} {p : Option Addr} {n c sz k j : Nat} {m m' : Int} {kk kk' : IntKind} (ht : P.underlying t = some (.slice e)) (hs : ∀ w, (sizeOf e).run P w = .ok sz w)
    (hx : ev σ x = some (.slice p n c)) (hy : ev σ y = some (.int kk m)) (hz : ev σ z = some (.int kk' m')) (hm : m = (k : Int)) (hm' : m' = (j : Int)) (hk : k ≤ j) (hj : j ≤ c) :
    XV P N σ ⟨d, .slice t x (some y) (some z) none, ty, pos, aft, gd⟩ w (.slice (sfrom p c k sz) (j - k) (c - k)) w := fun a ha => by
  subst hm; subst hm'
  have he : P.elem t = e := by simp [Program.elem, ht]
  have ht' : P.underlying t = some (.slice (P.elem t)) := by rw [he]; exact ht
  have h1 := run_slice_lh (P := P) (w := w) t p n c ht' kk kk' (k : Int) (j : Int) (by omega) (by omega) (by omega)
  rw [he, hs] at h1
  simp [execOp, ha.eval hx, ha.eval hy, ha.eval hz, run_sliceAt_slice (P := P) (w := w) t _ _ _ _ ht', h1, Result.andThen, sliced, sfrom]
end
theorem own_setCells {b : Nat} {T : TypeId} : ∀ (vs : List Value) (o : Nat) (w : World) (cs : List Value), Own w b cs T → Own (w.setCells b o vs) b (setRow cs o vs) T ∧ Only b w (w.setCells b o vs)
  | [], _, w, _, h => ⟨h, ⟨rfl, rfl, rfl, rfl, fun _ _ => rfl⟩⟩
  | v :: r, o, w, cs, h => by
    obtain ⟨h1, h2⟩ := own_setCells r (o + 1) (w.setCell ⟨b, o, none⟩ v) (cs.set o v) (own_setCell h v)
    have h0 := only_setCell w b o v
    exact ⟨h1, ⟨h2.os.trans h0.os, h2.tape.trans h0.tape, h2.output.trans h0.output, h2.size.trans h0.size, fun j hj => (h2.block j hj).trans (h0.block j hj)⟩⟩
section
variable {P : Program} {f : FuncId} {N : Nat} {R : Ending → World → Prop} {k : List Item} {σ : Env} {w : World} {ops : Array Oper} {rest : List Oper} {ty : TypeId} {pos : String} {aft : Array Edge} {gd : Option (Nat × Bool)} {t e dd : Nat}
theorem ocopyI {x y : Operand} {lo hi n c m dc : Nat} {p q : Option Addr} {xs ys : List Int} (G : Ow i64c 1 e w lo hi p n c xs) (H : Sl i64c 1 w q m dc ys) (ht : P.underlying t = some (.slice e)) (hz : (P.info? e).map (·.size) = some 1)
    (hx : ev σ x = some (.slice p n c)) (hy : ev σ y = some (.slice q m dc))
    (hg : wantedE ops σ ⟨some dd, .call ⟨.builtin .copy, #[x, y], #[t, t]⟩, ty, pos, aft, gd⟩ = some true) (hN : Nat.blt dd N = true)
    (h : ∀ w', Mk lo hi w w' → Ow i64c 1 e w' lo hi p n c (ys.take n ++ xs.drop m) → Ops P f N R ops rest k ((dd, .int .i64 ((min m n : Nat) : Int)) :: σ) w') :
    Ops P f N R ops (⟨some dd, .call ⟨.builtin .copy, #[x, y], #[t, t]⟩, ty, pos, aft, gd⟩ :: rest) k σ w := by
  have hl := G.len; have hc := G.cap; have hm := H.len
  by_cases h0 : min m n = 0
  · have hr := run_copy_none (P := P) w t t ty e p q n c m dc ht hz (by simpa [Nat.min_def] using h0)
    refine ov (v := .int .i64 ((min m n : Nat) : Int)) (w' := w) (fun a ha => ?_) hg rfl hN (h w (Mk.refl _ _ _) ?_)
    · rw [h0]; simp [execOp, resolve, ha.eval hx, ha.eval hy, invoke, builtin, hr, goInt]
    · have e1 : ys.take n ++ xs.drop m = xs := by
        rcases (by omega : m = 0 ∨ n = 0) with e0 | e0
        · have : ys = [] := List.length_eq_zero_iff.1 (by omega)
          subst this; rw [e0]; simp
        · have : xs = [] := List.length_eq_zero_iff.1 (by omega)
          subst this; rw [e0]; simp
      rw [e1]; exact G
  · rcases G.row with ⟨_, h2⟩ | ⟨b, s, rfl, h3, h4, h5, h6⟩
    · omega
    · obtain ⟨a0, ha0⟩ : ∃ a0, q = some a0 := ⟨_, H.ptr (by omega)⟩
      have hq := H.ptr (by omega)
      have hcl : ((ys.take (min m n)).map fun y => Value.int .i64 y).length = min m n := by simp; omega
      have hfl : (xs.map i64c).flatten = xs.map fun y => Value.int .i64 y := by
        clear h5 G hl hx h
        induction xs with
        | nil => rfl
        | cons x r ih => simp only [List.map_cons, List.flatten_cons, ih]; rfl
      have hbl : ((xs.map fun y => Value.int .i64 y) ++ s).length = n + s.length := by simp; omega
      rw [hfl] at h5
      subst ha0
      have hr := run_copy_cells (P := P) w t t ty e b 0 n c a0 m dc ((ys.take (min m n)).map fun y => Value.int .i64 y) ht hz (by rw [hcl])
        (fun j v hv => by
          rw [List.getElem?_map, Option.map_eq_some_iff] at hv
          obtain ⟨y, hy1, rfl⟩ := hv
          have hj : j < min m n := by
            have := (List.getElem?_eq_some_iff.1 hy1).1; rw [List.length_take] at this; omega
          have hjy : j < ys.length := by omega
          have h7 := H.el j hjy 0 (.int .i64 ys[j]) rfl
          rw [List.getElem?_take, if_pos hj, List.getElem?_eq_getElem hjy, Option.some.injEq] at hy1
          rw [hy1] at h7
          have e7 : a0.add j = ⟨pb (some a0), po (some a0) + j * 1 + 0, none⟩ := by
            have h8 : a0 = ⟨pb (some a0), po (some a0), none⟩ := Option.some.inj hq
            conv => lhs; rw [h8]
            simp [Addr.add]
          rw [e7]; exact h7)
        (fun j hj => by
          have h7 := h5.cells j (((xs.map fun y => Value.int .i64 y) ++ s)[j]'(by rw [hbl]; rw [hcl] at hj; omega)) (by simp)
          rw [h7]; rfl)
        (fun j hj => by unfold Own at h5; simp [World.frozen?, h5])
        (fun v hv => by
          obtain ⟨y, _, rfl⟩ := List.mem_map.1 hv; rfl)
      obtain ⟨o1, o2⟩ := own_setCells (b := b) ((ys.take (min m n)).map fun y => Value.int .i64 y) 0 w _ h5
      refine ov (v := .int .i64 ((min m n : Nat) : Int)) (w' := _) (fun a ha => ?_) hg rfl hN (h _ (Mk.ofOnly o2 h3 h4) ⟨?_, G.cap, G.big, .inr ⟨b, s, rfl, h3, h4, ?_, h6⟩, fun _ _ => rfl⟩)
      · rw [hcl] at hr; simp [execOp, resolve, ha.eval hx, ha.eval hy, invoke, builtin, hr, goInt]
      · simp only [List.length_append, List.length_take, List.length_drop]; omega
      · have e2 : setRow ((xs.map fun y => Value.int .i64 y) ++ s) 0 ((ys.take (min m n)).map fun y => Value.int .i64 y) = ((ys.take n ++ xs.drop m).map i64c).flatten ++ s := by
          have e3 := setRow_append ((ys.take (min m n)).map fun y => Value.int .i64 y) [] ((xs.map fun y => Value.int .i64 y) ++ s) (by rw [hcl, hbl]; omega)
          simp only [List.nil_append, List.length_nil] at e3
          rw [e3, hcl, List.drop_append_of_le_length (by simp; omega), ← List.map_drop]
          have e4 : ∀ l : List Int, (l.map i64c).flatten = l.map fun y => Value.int .i64 y := fun l => by
            induction l with
            | nil => rfl
            | cons x r ih => simp only [List.map_cons, List.flatten_cons, ih]; rfl
          rw [e4, List.map_append, ← List.append_assoc]
          have e5 : ys.take (min m n) = ys.take n := by
            rcases (by omega : m ≤ n ∨ n ≤ m) with hh | hh
            · rw [List.take_of_length_le (by omega : ys.length ≤ min m n), List.take_of_length_le (by omega : ys.length ≤ n)]
            · rw [Nat.min_eq_right hh]
          have e6 : xs.drop (min m n) = xs.drop m := by
            rcases (by omega : m ≤ n ∨ n ≤ m) with hh | hh
            · rw [Nat.min_eq_left hh]
            · rw [List.drop_of_length_le (by omega : xs.length ≤ min m n), List.drop_of_length_le (by omega : xs.length ≤ m)]
          rw [e5, e6]
        rw [← e2]; exact o1
end
section
variable {w w' : World} {b lo hi lo' hi' : Nat} {T : TypeId} {p p1 p2 p3 : Option Addr} {n n1 n2 n3 c c1 c2 c3 : Nat} {xs x1 x2 x3 : List Int}
theorem sn3 (O : Own w b [.slice p1 n1 c1, .slice p2 n2 c2, .slice p3 n3 c3] T) (H1 : Sl i64c 1 w p1 n1 c1 x1) (H2 : Sl i64c 1 w p2 n2 c2 x2) (H3 : Sl i64c 1 w p3 n3 c3 x3) :
    SnInt64SS w (some ⟨b, 0, none⟩) 3 3 [x1, x2, x3] := by
  refine ⟨fun i => match i with | 0 => ⟨p1, n1, c1⟩ | 1 => ⟨p2, n2, c2⟩ | _ => ⟨p3, n3, c3⟩, rfl, Nat.le_refl _, by unfold maxLen; omega, fun _ => rfl, fun i hi => ?_, fun i hi => ?_⟩
  · have hc := O.cells
    intro j v hv
    match i, hi with
    | 0, _ => match j, hv with | 0, hv => exact hc 0 v hv
    | 1, _ => match j, hv with | 0, hv => exact hc 1 v hv
    | 2, _ => match j, hv with | 0, hv => exact hc 2 v hv
  · match i, hi with
    | 0, _ => exact H1
    | 1, _ => exact H2
    | 2, _ => exact H3
theorem SlF.e0 (w : World) (lo hi b : Nat) : SlF i64c 1 w lo hi (some ⟨b, 0, none⟩) 0 0 [] :=
  ⟨⟨rfl, Nat.le_refl _, Nat.zero_le _, fun h => absurd h (Nat.lt_irrefl _), fun i h => absurd h (Nat.not_lt_zero i), fun h => by cases h⟩, .inl rfl⟩
theorem SlF.nil0 (w : World) (lo hi : Nat) : SlF i64c 1 w lo hi none 0 0 [] := ⟨(Ow.none i64c 1 0 w lo hi).sl, .inl rfl⟩
end
section
variable {P : Program} {N : Nat} {ops : Array Oper} {w0 w : World} {fuel : Nat} {listed : Array Bool} {σ : Env} {Z : Act → World → Prop} {i : Nat} {ty : TypeId} {pos : String} {aft : Array Edge} {gd : Option (Nat × Bool)}
theorem hs_storeOw1 {α : Type} {enc : α → List Value} {x yo : Operand} {t T : TypeId} {lo hi n c j : Nat} {p : Option Addr} {xs : List α} {y : α} {v : Value} (hs : ∀ w, (sizeOf t).run P w = .ok 1 w)
    (ho : Ow enc 1 T w lo hi p n c xs) (hi' : j < n) (hx : ev σ x = some (.pointer (some ⟨pb p, po p + j * 1, none⟩))) (hy : ev σ yo = some v) (he : enc y = [v]) (h1 : v.oneCell' = true) (hF : Ext w0 w) (hb : w0.heap.size ≤ lo)
    (hio : ops[i]? = some ⟨none, .store t x yo, ty, pos, aft, gd⟩) (hg : wantedE ops σ ⟨none, .store t x yo, ty, pos, aft, gd⟩ = some true)
    (h : ∀ w', Mk lo hi w w' → Ow enc 1 T w' lo hi p n c (xs.set j y) → HOps P N ops w0 fuel (listed.setIfInBounds i true) σ w' Z) :
    HStep P N ops w0 fuel listed σ w Z i := by
  have hl := ho.len; have hc := ho.cap
  rcases ho.row with ⟨_, h2⟩ | ⟨b, s, rfl, h3, h4, h5, h6⟩
  · omega
  · have hlen : ((xs.map enc).flatten).length = n * 1 := ho.rows
    refine hs_store1 hs (b := b) (o := j) (by rw [hx]; simp [pb, po]) hy h5 (by simp only [List.length_append]; omega) h1 hF (by omega) hio hg fun w' hon hown => h w' (Mk.ofOnly hon h3 h4) ?_
    rw [set_flat1 he xs j (by omega) ho.esz] at hown
    refine ⟨by rw [List.length_set]; exact hl, hc, ho.big, .inr ⟨b, s, rfl, h3, h4, hown, h6⟩, fun z hz => ?_⟩
    rcases List.mem_or_eq_of_mem_set hz with hz | rfl
    · exact ho.esz z hz
    · rw [he]; rfl
end
theorem Cells.mid {w : World} {b o : Nat} {pre row post : List Value} (h : Cells w b o (pre ++ (row ++ post))) : Cells w b (o + pre.length) row := fun j v hv => by
  have := h (pre.length + j) v (by
    have hj : j < row.length := (List.getElem?_eq_some_iff.1 hv).1
    rw [List.getElem?_append_right (by omega), show pre.length + j - pre.length = j by omega, List.getElem?_append_left hj]; exact hv)
  rw [show o + pre.length + j = o + (pre.length + j) by omega]; exact this
end Go.Proofs.YtchblgaklknkcaaGreat

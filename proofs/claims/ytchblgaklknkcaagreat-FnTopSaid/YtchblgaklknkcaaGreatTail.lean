/-
  Regions that draw their order, all of whose operations but the last only read: the last one may store. No condition beyond those written in each law.
-/
import Derived.Test.YtchblgaklknkcaaGreatMore
import Derived.StillTail
import Derived.Lib.MinMax
namespace Go.Proofs.YtchblgaklknkcaaGreat
open Go.RowKit
set_option linter.unusedVariables false
set_option linter.unusedSimpArgs false
set_option linter.unusedSectionVars false
def STOps (P : Program) (N : Nat) (ops : Array Oper) (w : World) (l : List Oper) (σ : Env) (X : Act → Prop) : Prop := ∀ a, Fits N σ a → wpStill P ops w X l a
section
variable {P : Program} {f : FuncId} {N : Nat} {R : Ending → World → Prop} {k : List Item} {σ : Env} {w w' : World} {ops : Array Oper} {rest : List Oper} {o : Oper} {d : Nat} {v : Value} {X : Act → Prop}
theorem run_tail {id : Nat} {l : List Oper} (n : Nat) (hm : P.follows .mixedOrders = true) (hB : Region.lexTailB .any l.toArray n = true)
    (h : ∀ w1, Ext w w1 → STOps P N l.toArray w1 (l.take n) σ (fun a' => wpList P l.toArray (HQ (After P f N R k)) (l.drop n) a' w1)) : Run P f N R (.code (.region id l.toArray true) :: k) σ w :=
  run_of_wp fun a ha => wp_region_still_tail n hm hB (h _ (Ext.drew w) a ha)
theorem stv (hx : XV P N σ o w v w) (hg : wantedE ops σ o = some true) (hd : o.dst = some d) (hN : Nat.blt d N = true) (h : STOps P N ops w rest ((d, v) :: σ) X) : STOps P N ops w (o :: rest) σ X := by
 intro a ha
 simp only [wpStill, wanted_of hg ha, if_true, Oper.still, hx a ha, Oper.stillUpon, true_and, hd]
 exact h _ (ha.put hN v)
theorem st_last (hX : XS P N σ o w w') (hg : wantedE ops σ o = some true) (hd : o.dst = none) (h : Run P f N R k σ w') : STOps P N ops w [] σ (fun a' => wpList P ops (HQ (After P f N R k)) [o] a' w) := by
 intro a ha
 simp only [wpStill, wpList, wanted_of hg ha, if_true]
 unfold Oper.wp
 rw [hX a ha]
 simp only [Oper.upon, hd]
 exact .inl ⟨rfl, fun cs => h a ha cs⟩
end
section
variable {P : Program} {f : FuncId} {N : Nat} {R : Ending → World → Prop} {k : List Item} {σ : Env} {w : World} {ops : Array Oper} {ty : TypeId} {pos : String} {aft : Array Edge} {gd : Option (Nat × Bool)}
theorem xstoreOw1 {α : Type} {enc : α → List Value} {x yo : Operand} {t T : TypeId} {lo hi n c i : Nat} {p : Option Addr} {xs : List α} {y : α} {v : Value} (hs : ∀ w, (sizeOf t).run P w = .ok 1 w)
    (ho : Ow enc 1 T w lo hi p n c xs) (hi' : i < n) (hx : ev σ x = some (.pointer (some ⟨pb p, po p + i * 1, none⟩))) (hy : ev σ yo = some v) (he : enc y = [v]) (h1 : v.oneCell' = true) :
    ∃ w', XS P N σ ⟨none, .store t x yo, ty, pos, aft, gd⟩ w w' ∧ Mk lo hi w w' ∧ Ow enc 1 T w' lo hi p n c (xs.set i y) := by
  have hl := ho.len; have hc := ho.cap
  rcases ho.row with ⟨_, h2⟩ | ⟨b, s, rfl, h3, h4, h5, h6⟩
  · omega
  · have hlen : ((xs.map enc).flatten).length = n * 1 := ho.rows
    have hlt : i < ((xs.map enc).flatten ++ s).length := by simp only [List.length_append]; omega
    refine ⟨w.setCell ⟨b, i, none⟩ v, fun a ha => ?_, Mk.ofOnly (only_setCell _ _ _ _) h3 h4, ?_⟩
    · have hx' : ev σ x = some (.pointer (some ⟨b, i, none⟩)) := by rw [hx]; simp [pb, po]
      have hcc : v.cells = #[v] := by cases v <;> first | rfl | (simp [Value.oneCell'] at h1)
      have hcell : w.cell? ⟨b, i, none⟩ = some (((xs.map enc).flatten ++ s)[i]'hlt) := by
        have := h5.cells i (((xs.map enc).flatten ++ s)[i]'hlt) (by simp [hlt]); simpa using this
      have hfr : w.frozen? ⟨b, i, none⟩ = false := by
        unfold Own at h5; simp [World.frozen?, h5]
      have hst := run_store P w ⟨b, i, none⟩ v .plain h1
      simp only [hcell, hfr, Bool.false_eq_true, if_false] at hst
      simp [execOp, ha.eval hx', ha.eval hy, Instr.storeAt, Instr.sureAddr, storeVar, hcc, hs, storeCells, Addr.add, hst]
    · have hown := own_setCell (o := i) h5 v
      rw [set_flat1 he xs i (by omega) ho.esz] at hown
      refine ⟨by rw [List.length_set]; exact hl, hc, ho.big, .inr ⟨b, s, rfl, h3, h4, hown, h6⟩, fun z hz => ?_⟩
      rcases List.mem_or_eq_of_mem_set hz with hz | rfl
      · exact ho.esz z hz
      · rw [he]; rfl
theorem st_storeOw1 {α : Type} {enc : α → List Value} {x yo : Operand} {t T : TypeId} {lo hi n c i : Nat} {p : Option Addr} {xs : List α} {y : α} {v : Value} (hs : ∀ w, (sizeOf t).run P w = .ok 1 w)
    (ho : Ow enc 1 T w lo hi p n c xs) (hi' : i < n) (hx : ev σ x = some (.pointer (some ⟨pb p, po p + i * 1, none⟩))) (hy : ev σ yo = some v) (he : enc y = [v]) (h1 : v.oneCell' = true)
    (hg : wantedE ops σ ⟨none, .store t x yo, ty, pos, aft, gd⟩ = some true)
    (h : ∀ w', Mk lo hi w w' → Ow enc 1 T w' lo hi p n c (xs.set i y) → Run P f N R k σ w') :
    STOps P N ops w [] σ (fun a' => wpList P ops (HQ (After P f N R k)) [⟨none, .store t x yo, ty, pos, aft, gd⟩] a' w) := by
  obtain ⟨w', hX, hm, hO⟩ := xstoreOw1 (N := N) (σ := σ) (ty := ty) (pos := pos) (aft := aft) (gd := gd) hs ho hi' hx hy he h1
  exact st_last hX hg rfl (h w' hm hO)
end
structure In1 {τ β : Type} (inn : τ → List β) (encI : β → List Value) (szI : Nat) (TI : TypeId) (w : World) (lo hi : Nat) (xs : List (X τ)) : Prop where
  i : ∀ x ∈ xs, Ow encI szI TI w lo hi x.h.p x.h.n x.h.c (inn x.v)
section
variable {τ β : Type} {cells : τ → Hd → List Value} {sz : Nat} {inn : τ → List β} {encI : β → List Value} {szI : Nat} {w w' : World} {p : Option Addr} {n c lo hi lo' hi' : Nat} {T TI : TypeId} {xs ys : List (X τ)}
theorem In1.nil : In1 inn encI szI TI w lo hi [] := ⟨fun _ h => by cases h⟩
theorem In1.ext (h : In1 inn encI szI TI w lo hi xs) (hx : Ext w w') : In1 inn encI szI TI w' lo hi xs := ⟨fun x m => (h.i x m).ext hx⟩
theorem In1.wide (h : In1 inn encI szI TI w lo hi xs) (h1 : lo' ≤ lo) (h2 : hi ≤ hi') : In1 inn encI szI TI w lo' hi' xs := ⟨fun x m => (h.i x m).wide h1 h2⟩
theorem In1.off {l h' : Nat} (h : In1 inn encI szI TI w lo hi xs) (hx : Mk l h' w w') (hd : hi ≤ l) : In1 inn encI szI TI w' lo hi xs := ⟨fun x m => (h.i x m).off hx (.inl hd)⟩
theorem In1.offT {α : Type} {enc : α → List Value} {zs : List α} {l' h' : Nat} (h : In1 inn encI szI TI w lo hi xs) (ho : Ow enc sz T w l' h' p n c zs) (hT : T ≠ TI) (hx : Mk (pb p) (hend p) w w') : In1 inn encI szI TI w' lo hi xs := by
 refine ⟨fun x m => ?_⟩
 have k := h.i x m
 refine ⟨k.len, k.cap, k.big, k.row.imp id fun ⟨b', s, h1, h2, h3, h4, h5⟩ => ⟨b', s, h1, h2, h3, hx.off_own h4 fun hp e => ?_, h5⟩, k.esz⟩
 obtain ⟨_, _, cs, hcs⟩ := ho.block hp
 rw [e] at hcs
 exact hT (hcs.type h4)
theorem In1.onlyT {b : Nat} {cs : List Value} (h : In1 inn encI szI TI w lo hi xs) (ho : Own w b cs T) (hT : T ≠ TI) (hx : Only b w w') : In1 inn encI szI TI w' lo hi xs := by
 refine ⟨fun x m => ?_⟩
 have k := h.i x m
 refine ⟨k.len, k.cap, k.big, k.row.imp id fun ⟨b', s, h1, h2, h3, h4, h5⟩ => ⟨b', s, h1, h2, h3, hx.own h4 fun e => ?_, h5⟩, k.esz⟩
 subst e; exact hT (ho.type h4)
theorem In1.sn (h : In1 inn encI szI TI w lo hi xs) (ho : Sl (xc cells) sz w p n c xs) : Sn cells sz inn encI szI w p n c (xs.map X.v) := by
 refine ⟨fun i => match xs[i]? with
   | some x => x.h
   | none => hd0, ⟨by rw [List.length_map]; exact ho.len, ho.cap, ho.big, ho.ptr, fun i hi => ?_, fun i hi => ?_⟩⟩
 · have hi' : i < xs.length := by simpa using hi
   have := ho.el i hi'
   simpa [xc, List.getElem?_eq_getElem hi'] using this
 · have hi' : i < xs.length := by simpa using hi
   have := (h.i xs[i] (List.getElem_mem hi')).sl
   simpa [List.getElem?_eq_getElem hi'] using this
end
section
variable {P : Program} {f : FuncId} {N : Nat} {R : Ending → World → Prop} {k : List Item} {σ : Env} {w : World} {ops : Array Oper} {rest : List Oper} {dd : Nat} {ty : TypeId} {pos : String} {aft : Array Edge} {gd : Option (Nat × Bool)}
variable {α : Type} {enc : α → List Value} {sz lo hi bytes : Nat} {t e : TypeId} {p q : Option Addr} {n c m dc : Nat} {xs ys : List α} {x y : Operand}
end
section
variable {P : Program} {N : Nat} {σ : Env} {w : World} {d : Option Nat} {ty : TypeId} {pos : String} {aft : Array Edge} {gd : Option (Nat × Bool)} {x y : Operand} {ts : Array TypeId} {k : IntKind} {m n : Int}
end
theorem set_flat {α : Type} {enc : α → List Value} {s : List Value} {sz : Nat} {y : α} {v : Value} {off : Nat} (ho : off < sz) : ∀ (xs : List α) (i : Nat) (hi : i < xs.length), enc y = (enc xs[i]).set off v → (∀ x ∈ xs, (enc x).length = sz) →
    ((xs.map enc).flatten ++ s).set (i * sz + off) v = ((xs.set i y).map enc).flatten ++ s
  | [], i, h, _, _ => absurd h (Nat.not_lt_zero i)
  | x :: r, 0, _, he, hl => by
    have h1 := hl x (List.mem_cons_self ..)
    simp only [List.getElem_cons_zero] at he
    simp only [List.map_cons, List.flatten_cons, List.set_cons_zero, List.append_assoc, Nat.zero_mul, Nat.zero_add]
    rw [List.set_append_left _ _ (by omega), he]
  | x :: r, i + 1, h, he, hl => by
    have h1 := hl x (List.mem_cons_self ..)
    have ih := set_flat (s := s) ho r i (by simpa using h) (by simpa using he) (fun z hz => hl z (List.mem_cons_of_mem _ hz))
    simp only [List.map_cons, List.flatten_cons, List.set_cons_succ, List.append_assoc]
    rw [List.set_append_right _ _ (by rw [h1, Nat.add_mul]; omega), h1, show (i + 1) * sz + off - sz = i * sz + off by rw [Nat.add_mul]; omega, ih]
section
variable {P : Program} {f : FuncId} {N : Nat} {R : Ending → World → Prop} {k : List Item} {σ : Env} {w : World} {ops : Array Oper} {rest : List Oper} {ty : TypeId} {pos : String} {aft : Array Edge} {gd : Option (Nat × Bool)}
end
section
variable {τ β : Type} {inn : τ → List β} {encI : β → List Value} {szI : Nat} {TI : TypeId} {w : World} {lo hi : Nat} {xs : List (X τ)}
end
section
variable {P : Program} {f : FuncId} {N : Nat} {R : Ending → World → Prop} {k : List Item} {σ : Env} {w : World} {ops : Array Oper} {rest : List Oper} {ty : TypeId} {pos : String} {aft : Array Edge} {gd : Option (Nat × Bool)}
variable {τ β : Type} {cells : τ → Hd → List Value} {inn : τ → List β} {encI : β → List Value} {szI : Nat} {T TI t : TypeId} {sz lo hi n c i off : Nat} {p : Option Addr} {xs : List (X τ)} {v' : τ} {v : Value} {x yo : Operand}
end
end Go.Proofs.YtchblgaklknkcaaGreat

/-
  What each operation of the model yields, in the words of the walking logic: one small law an operation. No condition beyond those written in each law.
-/
import Derived.Test.YtchblgaklknkcaaGreatCore
import Derived.Laws.StructEq
import Derived.Laws.Cover1
namespace Go.Proofs.YtchblgaklknkcaaGreat
open Go.RowKit
set_option linter.unusedVariables false
set_option linter.unusedSimpArgs false
set_option linter.unusedSectionVars false
def I64 (n : Int) : Prop := -9223372036854775808 ≤ n ∧ n ≤ 9223372036854775807
theorem wrap64 {n : Int} (h : I64 n) : IntKind.i64.wrap n = n := by
 obtain ⟨h1, h2⟩ := h
 rw [IntKind.wrap_i64]; omega
def Cells (w : World) (b o : Nat) (cs : List Value) : Prop := ∀ j v, cs[j]? = some v → w.cell? ⟨b, o + j, none⟩ = some v
theorem Cells.block_lt {w : World} {b o : Nat} {cs : List Value} (h : Cells w b o cs) (hne : cs ≠ []) : b < w.heap.size := by
 cases cs with
 | nil => exact absurd rfl hne
 | cons v r =>
   have h1 := h 0 v rfl
   rcases Nat.lt_or_ge b w.heap.size with h2 | h2
   · exact h2
   · simp [World.cell?, Array.getElem?_eq_none h2] at h1
theorem Cells.ext {w w' : World} {b o : Nat} {cs : List Value} (h : Cells w b o cs) (hx : Ext w w') : Cells w' b o cs := by
 intro j v hv
 have hb : b < w.heap.size := h.block_lt (by intro hc; rw [hc] at hv; cases hv)
 have := hx.cell (p := ⟨b, o + j, none⟩) hb
 rw [this]; exact h j v hv
def Own (w : World) (b : Nat) (cs : List Value) (t : TypeId) : Prop := w.heap[b]? = some (.cells cs.toArray t (0, 0))
theorem Own.lt {w : World} {b : Nat} {cs : List Value} {t : TypeId} (h : Own w b cs t) : b < w.heap.size := (Array.getElem?_eq_some_iff.1 h).1
theorem Own.ext {w w' : World} {b : Nat} {cs : List Value} {t : TypeId} (h : Own w b cs t) (hx : Ext w w') : Own w' b cs t := by
 have hl := h.lt
 unfold Own at *
 rw [hx.block b hl]; exact h
theorem Own.cells {w : World} {b : Nat} {cs : List Value} {t : TypeId} (h : Own w b cs t) : Cells w b 0 cs := by
 intro j v hv
 unfold Own at h
 simp only [World.cell?, h]
 simpa using hv
section
variable {P : Program} {N : Nat} {σ : Env} {w : World} {d : Option Tmp} {ty : TypeId} {pos : String} {aft : Array Edge} {gd : Option (Nat × Bool)}
theorem xmove {x : Operand} {v : Value} (hx : ev σ x = some v) : XV P N σ ⟨d, .move x, ty, pos, aft, gd⟩ w v w := fun a ha => by
  simp [execOp, ha.eval hx]
theorem xassign {x : Operand} {v : Value} (hx : ev σ x = some v) : XV P N σ ⟨d, .assign x, ty, pos, aft, gd⟩ w v w := fun a ha => by
  simp [execOp, ha.eval hx]
theorem xpick_t {c x y : Operand} {v : Value} (hc : ev σ c = some (.bool true)) (hx : ev σ x = some v) :
    XV P N σ ⟨d, .pick c x y, ty, pos, aft, gd⟩ w v w := fun a ha => by
  simp [execOp, ha.eval hc, ha.eval hx, asBool]
theorem xpick_f {c x y : Operand} {v : Value} (hc : ev σ c = some (.bool false)) (hy : ev σ y = some v) :
    XV P N σ ⟨d, .pick c x y, ty, pos, aft, gd⟩ w v w := fun a ha => by
  simp [execOp, ha.eval hc, ha.eval hy, asBool]
section
variable {x y : Operand} {t u : TypeId} {m n : Int} {k : IntKind}
theorem xbin {op : BinOp} {v : Value} (hx : ev σ x = some (.int k m)) (hy : ev σ y = some (.int k n)) (h : ∀ w, (binOp op t (.int k m) (.int k n)).run P w = .ok v w) :
    XV P N σ ⟨d, .binOp op t x y u, ty, pos, aft, gd⟩ w v w := fun a ha => by
  have h' := h w
  cases op <;> simp [execOp, ha.eval hx, ha.eval hy, eqGuard] at h' ⊢ <;> simp [h']
theorem xadd (hx : ev σ x = some (.int .i64 m)) (hy : ev σ y = some (.int .i64 n)) (h : I64 (m + n)) :
    XV P N σ ⟨d, .binOp .add t x y u, ty, pos, aft, gd⟩ w (.int .i64 (m + n)) w := xbin hx hy fun w => by simp [binOp_add, Op.intArith, wrap64 h]
theorem xsub (hx : ev σ x = some (.int .i64 m)) (hy : ev σ y = some (.int .i64 n)) (h : I64 (m - n)) :
    XV P N σ ⟨d, .binOp .sub t x y u, ty, pos, aft, gd⟩ w (.int .i64 (m - n)) w := xbin hx hy fun w => by simp [binOp_sub, Op.intArith, wrap64 h]
theorem xmul (hx : ev σ x = some (.int .i64 m)) (hy : ev σ y = some (.int .i64 n)) (h : I64 (m * n)) :
    XV P N σ ⟨d, .binOp .mul t x y u, ty, pos, aft, gd⟩ w (.int .i64 (m * n)) w := xbin hx hy fun w => by simp [binOp_mul, Op.intArith, wrap64 h]
theorem xquo (hx : ev σ x = some (.int .i64 m)) (hy : ev σ y = some (.int .i64 n)) (h0 : 0 ≤ m) (h1 : 0 < n) (h2 : I64 (m / n)) :
    XV P N σ ⟨d, .binOp .quo t x y u, ty, pos, aft, gd⟩ w (.int .i64 (m / n)) w := xbin hx hy fun w => by
  have : n ≠ 0 := by omega
  rw [← Int.tdiv_eq_ediv_of_nonneg h0] at h2 ⊢
  simp [binOp_quo, Op.intDiv, this, wrap64 h2]
theorem xrem (hx : ev σ x = some (.int .i64 m)) (hy : ev σ y = some (.int .i64 n)) (h0 : 0 ≤ m) (h1 : 0 < n) :
    XV P N σ ⟨d, .binOp .rem t x y u, ty, pos, aft, gd⟩ w (.int .i64 (m % n)) w := xbin hx hy fun w => by
  have : n ≠ 0 := by omega
  rw [← Int.tmod_eq_emod_of_nonneg h0]
  simp [binOp_rem, Op.intDiv, this]
theorem xlss (hx : ev σ x = some (.int k m)) (hy : ev σ y = some (.int k n)) (b : Bool) (h : decide (m < n) = b) :
    XV P N σ ⟨d, .binOp .lss t x y u, ty, pos, aft, gd⟩ w (.bool b) w := xbin hx hy fun w => by subst h; simp [binOp_lss]
theorem xleq (hx : ev σ x = some (.int k m)) (hy : ev σ y = some (.int k n)) (b : Bool) (h : decide (m ≤ n) = b) :
    XV P N σ ⟨d, .binOp .leq t x y u, ty, pos, aft, gd⟩ w (.bool b) w := xbin hx hy fun w => by subst h; simp [binOp_leq]
theorem xgtr (hx : ev σ x = some (.int k m)) (hy : ev σ y = some (.int k n)) (b : Bool) (h : decide (n < m) = b) :
    XV P N σ ⟨d, .binOp .gtr t x y u, ty, pos, aft, gd⟩ w (.bool b) w := xbin hx hy fun w => by subst h; simp [binOp_gtr]
theorem xgeq (hx : ev σ x = some (.int k m)) (hy : ev σ y = some (.int k n)) (b : Bool) (h : decide (n ≤ m) = b) :
    XV P N σ ⟨d, .binOp .geq t x y u, ty, pos, aft, gd⟩ w (.bool b) w := xbin hx hy fun w => by subst h; simp [binOp_geq]
theorem xeql (hx : ev σ x = some (.int k m)) (hy : ev σ y = some (.int k n)) (b : Bool) (h : decide (m = n) = b) :
    XV P N σ ⟨d, .binOp .eql t x y u, ty, pos, aft, gd⟩ w (.bool b) w := xbin hx hy fun w => by
  subst h; simp only [binOp_eql, Sem.run_pure]; congr 2
theorem xneq (hx : ev σ x = some (.int k m)) (hy : ev σ y = some (.int k n)) (b : Bool) (h : decide (m ≠ n) = b) :
    XV P N σ ⟨d, .binOp .neq t x y u, ty, pos, aft, gd⟩ w (.bool b) w := xbin hx hy fun w => by
  subst h; simp only [binOp_neq, Sem.run_pure]; congr 2; rw [Bool.eq_iff_iff]; simp
end
section
variable {x y : Operand} {t u : TypeId} {r s : ByteArray}
theorem toList_beq (r s : ByteArray) : (r.toList == s.toList) = decide (r = s) := by
 rw [ByteArray.toList_eq, ByteArray.toList_eq]
 obtain ⟨⟨x⟩⟩ := r
 obtain ⟨⟨y⟩⟩ := s
 rw [Bool.eq_iff_iff]; simp
theorem xbins {op : BinOp} {v : Value} (hx : ev σ x = some (.string r)) (hy : ev σ y = some (.string s)) (h : ∀ w, (binOp op t (.string r) (.string s)).run P w = .ok v w) :
    XV P N σ ⟨d, .binOp op t x y u, ty, pos, aft, gd⟩ w v w := fun a ha => by
  have h' := h w
  cases op <;> simp [execOp, ha.eval hx, ha.eval hy, eqGuard] at h' ⊢ <;> simp [h']
theorem xseql (hx : ev σ x = some (.string r)) (hy : ev σ y = some (.string s)) (b : Bool) (h : decide (r = s) = b) :
    XV P N σ ⟨d, .binOp .eql t x y u, ty, pos, aft, gd⟩ w (.bool b) w := xbins hx hy fun w => by subst h; rw [binOp_string_eql, toList_beq]; rfl
theorem xsadd (hx : ev σ x = some (.string r)) (hy : ev σ y = some (.string s)) (h : r.size + s.size ≤ 9223372036854775807) :
    XV P N σ ⟨d, .binOp .add t x y u, ty, pos, aft, gd⟩ w (.string (r ++ s)) w := xbins hx hy fun w => by
  simp only [binOp_string_add]; exact run_string_add_sum w r s h
end
theorem xnot {x : Operand} {t : TypeId} {b : Bool} (hx : ev σ x = some (.bool b)) : XV P N σ ⟨d, .unOp .not t x, ty, pos, aft, gd⟩ w (.bool (!b)) w := fun a ha => by
  simp [execOp, ha.eval hx, Op.unary]
theorem xconv {x : Operand} {src dst : TypeId} {k : IntKind} {n : Int} {ds : TypeDesc} (hs : P.underlying src = some ds) (hd : P.underlying dst = some (.int .i64)) (hx : ev σ x = some (.int k n)) (h : I64 n) :
    XV P N σ ⟨d, .convert src dst x, ty, pos, aft, gd⟩ w (.int .i64 n) w := fun a ha => by
  have : P.intKind dst = .i64 := by simp [Program.intKind, hd]
  have h1 := run_convert_int (P := P) w src dst k n (by simp [hs]) (by rw [this]; exact hd)
  rw [this, wrap64 h] at h1
  simp [execOp, ha.eval hx, h1]
theorem xlen {x : Operand} {t e : TypeId} {p : Option Addr} {n c : Nat} (ht : P.underlying t = some (.slice e)) (hx : ev σ x = some (.slice p n c)) :
    XV P N σ ⟨d, .call ⟨.builtin .len, #[x], #[t]⟩, ty, pos, aft, gd⟩ w (.int .i64 n) w := fun a ha => by
  simp [execOp, resolve, ha.eval hx, invoke, builtin, Builtin.len_, run_underlying ht, goInt]
theorem xlens {x : Operand} {t : TypeId} {s : ByteArray} (ht : P.underlying t = some .string) (hx : ev σ x = some (.string s)) :
    XV P N σ ⟨d, .call ⟨.builtin .len, #[x], #[t]⟩, ty, pos, aft, gd⟩ w (.int .i64 s.size) w := fun a ha => by
  simp [execOp, resolve, ha.eval hx, invoke, builtin, Builtin.len_, run_underlying ht, goInt]
def pb (p : Option Addr) : Nat := (p.getD ⟨0, 0, none⟩).block
def po (p : Option Addr) : Nat := (p.getD ⟨0, 0, none⟩).off
def fieldOk (P : Program) (s : TypeId) (j off : Nat) : Prop := ∃ fs f, P.underlying s = some (.struct fs) ∧ fs[j]? = some f ∧ f.offset = off ∧ ∃ i, P.info? f.type = some i ∧ i.size ≠ 0
theorem add_eq (b o n : Nat) : (⟨b, o, none⟩ : Addr).add n = ⟨b, o + n, none⟩ := by
 unfold Addr.add; split <;> simp_all
theorem xfieldAddr {x : Operand} {s : TypeId} {j off b o : Nat} (hf : fieldOk P s j off) (hx : ev σ x = some (.pointer (some ⟨b, o, none⟩))) :
    XV P N σ ⟨d, .fieldAddr s x j, ty, pos, aft, gd⟩ w (.pointer (some ⟨b, o + off, none⟩)) w := fun a ha => by
  obtain ⟨fs, f, hu, hj, rfl, i, hi, hz⟩ := hf
  simp [execOp, ha.eval hx, Instr.fieldAt, run_underlying hu, hj, Instr.sureAddr, fieldPlace, sizeOf, typeInfo, hi, hz, add_eq]
theorem xindexAddr {x y : Operand} {t e : TypeId} {b o n c sz : Nat} {m : Int} {k : IntKind} (ht : P.underlying t = some (.slice e)) (hs : ∀ w, (sizeOf e).run P w = .ok sz w)
    (hx : ev σ x = some (.slice (some ⟨b, o, none⟩) n c)) (hy : ev σ y = some (.int k m)) (h0 : 0 ≤ m) (h1 : m < n) :
    XV P N σ ⟨d, .indexAddr t x y, ty, pos, aft, gd⟩ w (.pointer (some ⟨b, o + m.toNat * sz, none⟩)) w := fun a ha => by
  simp [execOp, ha.eval hx, ha.eval hy, Instr.indexAt, run_underlying ht, asIntOf, h0, h1, hs, add_eq]
theorem xindexN {x y : Operand} {t e : TypeId} {p : Option Addr} {n c sz i : Nat} {m : Int} {k : IntKind} (ht : P.underlying t = some (.slice e)) (hs : ∀ w, (sizeOf e).run P w = .ok sz w)
    (hx : ev σ x = some (.slice p n c)) (hy : ev σ y = some (.int k m)) (hm : m = (i : Int)) (hp : p = some ⟨pb p, po p, none⟩) (h1 : i < n) :
    XV P N σ ⟨d, .indexAddr t x y, ty, pos, aft, gd⟩ w (.pointer (some ⟨pb p, po p + i * sz, none⟩)) w := by
  have h := xindexAddr (P := P) (N := N) (w := w) (d := d) (ty := ty) (pos := pos) (aft := aft) (gd := gd) ht hs (hp ▸ hx) hy (by omega) (by omega)
  have e : m.toNat = i := by omega
  rw [e] at h; exact h
theorem xload1 {x : Operand} {t : TypeId} {b o j : Nat} {cs : List Value} {v : Value} (ht : ∀ w, (isAgg t).run P w = .ok false w) (hx : ev σ x = some (.pointer (some ⟨b, o + j, none⟩)))
    (hc : Cells w b o cs) (hv : cs[j]? = some v) : XV P N σ ⟨d, .load t x, ty, pos, aft, gd⟩ w v w := fun a ha => by
  simp [execOp, ha.eval hx, Instr.loadAt, Instr.sureAddr, loadVar, ht, hc j v hv]
theorem run_loadVar_cells {t : TypeId} {b o sz : Nat} {cs : List Value} (ht : ∀ w, (isAgg t).run P w = .ok true w) (hs : ∀ w, (sizeOf t).run P w = .ok sz w) (hc : Cells w b o cs) (hl : cs.length = sz) :
    (loadVar t ⟨b, o, none⟩).run P w = .ok (.agg cs.toArray) w := by
  subst hl
  have h := run_loadCells_list (P := P) (w := w) ⟨b, o, none⟩ cs (fun j v hv => by rw [add_eq]; exact hc j v hv)
  simp [loadVar, ht, hs, h]
theorem xloadN {x : Operand} {t : TypeId} {b o sz : Nat} {cs : List Value} (ht : ∀ w, (isAgg t).run P w = .ok true w) (hs : ∀ w, (sizeOf t).run P w = .ok sz w)
    (hx : ev σ x = some (.pointer (some ⟨b, o, none⟩))) (hc : Cells w b o cs) (hl : cs.length = sz) : XV P N σ ⟨d, .load t x, ty, pos, aft, gd⟩ w (.agg cs.toArray) w := fun a ha => by
  simp [execOp, ha.eval hx, Instr.loadAt, Instr.sureAddr, run_loadVar_cells ht hs hc hl]
def bAt (s : ByteArray) (i : Nat) : Nat := if h : i < s.size then (s[i]'h).toNat else 0
theorem bAt_lt (s : ByteArray) (i : Nat) : bAt s i < 256 := by
 unfold bAt; split
 · exact UInt8.toNat_lt _
 · omega
theorem xindexS {x y : Operand} {t : TypeId} {s : ByteArray} {i : Nat} {m : Int} {k : IntKind} (ht : P.underlying t = some .string) (hx : ev σ x = some (.string s)) (hy : ev σ y = some (.int k m)) (hm : m = (i : Int)) (h1 : i < s.size) :
    XV P N σ ⟨d, .index t x y, ty, pos, aft, gd⟩ w (.int .u8 (bAt s i)) w := fun a ha => by
  subst hm
  have e : s[i]? = some s[i] := getElem?_pos s i h1
  simp [execOp, ha.eval hx, ha.eval hy, Instr.index, run_underlying ht, asIntOf, e, bAt, h1]
theorem xextract {x : Operand} {i : Nat} {l : List Value} {v : Value} (hx : ev σ x = some (.tuple l.toArray)) (hv : l[i]? = some v) :
    XV P N σ ⟨d, .extract x i, ty, pos, aft, gd⟩ w v w := fun a ha => by
  simp [execOp, ha.eval hx, Instr.extract, hv]
theorem xmakeFunc {fn : Fn} {first captured : Array Operand} {l1 l2 : List Value} (h1 : first.toList.mapM (ev σ) = some l1) (h2 : captured.toList.mapM (ev σ) = some l2) :
    XV P N σ ⟨d, .makeFunc fn first captured, ty, pos, aft, gd⟩ w (.func fn l1.toArray l2.toArray) w := fun a ha => by
  have key : ∀ (l : List Operand) (r : List Value), l.mapM (ev σ) = some r → l.map a.eval = r := by
    intro l
    induction l with
    | nil => intro r h; simp at h; simp [h]
    | cons x l ih =>
      intro r h
      simp only [List.mapM_cons, Option.bind_eq_bind, Option.bind_eq_some_iff, Option.pure_def, Option.some.injEq] at h
      obtain ⟨v, hv, r', hr', rfl⟩ := h
      simp [ha.eval hv, ih r' hr']
  have e1 : first.map a.eval = l1.toArray := by
    apply Array.toList_inj.1; simp [key _ _ h1]
  have e2 : captured.map a.eval = l2.toArray := by
    apply Array.toList_inj.1; simp [key _ _ h2]
  simp [execOp, e1, e2, Instr.makeFunc]
def evs (σ : Env) : List Operand → Option (List Value)
  | [] => some []
  | x :: r => match ev σ x, evs σ r with
    | some v, some l => some (v :: l)
    | _, _ => none
theorem evs_map {a : Act} (ha : Fits N σ a) : ∀ (l : List Operand) (r : List Value), evs σ l = some r → l.map a.eval = r
  | [], r, h => by simp [evs] at h; simp [h]
  | x :: l, r, h => by
    simp only [evs] at h
    split at h
    · rename_i v l' hv hl'
      simp only [Option.some.injEq] at h
      subst h
      simp [ha.eval hv, evs_map ha l l' hl']
    · cases h
theorem xcall {g : FuncId} {xs : List Operand} {ts : Array TypeId} {l : List Value} (hg : ∀ args w, (callFunc g args).run P w = .ok (.enter g args) w) (hl : evs σ xs = some l) :
    XC P N σ ⟨d, .call ⟨.value (.func g), xs.toArray, ts⟩, ty, pos, aft, gd⟩ w g l := fun a ha => by
  have e1 : (xs.toArray).map a.eval = l.toArray := by
    apply Array.toList_inj.1; simp [evs_map ha _ _ hl]
  simp [execOp, resolve, e1, Act.eval, Deferred.ofValue, invoke, hg]
theorem xcallv {g : FuncId} {x : Operand} {xs : List Operand} {ts : Array TypeId} {l caps : List Value} (hx : ev σ x = some (.func (.func g) #[] caps.toArray)) (hg : ∀ args w, (callFunc g args).run P w = .ok (.enter g args) w) (hl : evs σ xs = some l) :
    XC P N σ ⟨d, .call ⟨.value x, xs.toArray, ts⟩, ty, pos, aft, gd⟩ w g (l ++ caps) := fun a ha => by
  have e1 : (xs.toArray).map a.eval = l.toArray := by
    apply Array.toList_inj.1; simp [evs_map ha _ _ hl]
  simp [execOp, resolve, e1, ha.eval hx, Deferred.ofValue, invoke, hg]
theorem own_alloc (w : World) (cs : Array Value) (t : TypeId) : Own (w.alloc (.cells cs t)) w.heap.size cs.toList t := by
 unfold Own
 show (w.heap.push _)[w.heap.size]? = _
 simp
theorem ext_alloc (w : World) (o : Obj) : Ext w (w.alloc o) := (Below.refl _ _).alloc (Nat.le_refl _) o
theorem size_alloc (w : World) (o : Obj) : (w.alloc o).heap.size = w.heap.size + 1 := by
 show (w.heap.push _).size = _
 simp
section
variable {f : FuncId} {R : Ending → World → Prop} {k : List Item} {ops : Array Oper} {rest : List Oper} {dd : Nat}
theorem obox {x : Operand} {t : TypeId} {v : Value} (hx : ev σ x = some v) (hg : wantedE ops σ ⟨some dd, .box t x, ty, pos, aft, gd⟩ = some true) (hN : Nat.blt dd N = true)
    (h : ∀ b w', Ext w w' → b = w.heap.size → w'.heap.size = b + 1 → Own w' b v.cells.toList t → Ops P f N R ops rest k ((dd, .pointer (some ⟨b, 0, none⟩)) :: σ) w') :
    Ops P f N R ops (⟨some dd, .box t x, ty, pos, aft, gd⟩ :: rest) k σ w :=
  ov (w' := w.alloc (.cells v.cells t)) (v := .pointer (some ⟨w.heap.size, 0, none⟩))
    (fun a ha => by simp [execOp, ha.eval hx, Instr.box, newVar, newRow]) hg rfl hN
    (h _ _ (ext_alloc _ _) rfl (size_alloc _ _) (own_alloc _ _ _))
theorem oalloc {t : TypeId} {z : Value} (hz : ∀ w, (zeroValue t).run P w = .ok z w) (hg : wantedE ops σ ⟨some dd, .alloc t, ty, pos, aft, gd⟩ = some true) (hN : Nat.blt dd N = true)
    (h : ∀ b w', Ext w w' → b = w.heap.size → w'.heap.size = b + 1 → Own w' b z.cells.toList t → Ops P f N R ops rest k ((dd, .pointer (some ⟨b, 0, none⟩)) :: σ) w') :
    Ops P f N R ops (⟨some dd, .alloc t, ty, pos, aft, gd⟩ :: rest) k σ w :=
  ov (w' := w.alloc (.cells z.cells t)) (v := .pointer (some ⟨w.heap.size, 0, none⟩))
    (fun a ha => by simp [execOp, Instr.alloc, hz, newVar, newRow]) hg rfl hN
    (h _ _ (ext_alloc _ _) rfl (size_alloc _ _) (own_alloc _ _ _))
structure Only (b : Nat) (w w' : World) : Prop where
  os : w'.os = w.os
  tape : w'.tape = w.tape
  output : w'.output = w.output
  size : w'.heap.size = w.heap.size
  block : ∀ j, j ≠ b → w'.heap[j]? = w.heap[j]?
theorem Only.below {b B : Nat} {w w' : World} (h : Only b w w') (hb : B ≤ b) : Below B w w' :=
  ⟨h.os, h.tape, h.output, Nat.le_of_eq h.size.symm, fun j hj => h.block j (by omega)⟩
theorem Only.ext {b : Nat} {w0 w w' : World} (h : Only b w w') (hx : Ext w0 w) (hb : w0.heap.size ≤ b) : Ext w0 w' :=
  Below.trans hx (h.below hb)
theorem Only.own {b c : Nat} {w w' : World} {cs : List Value} {t : TypeId} (h : Only b w w') (ho : Own w c cs t) (hne : c ≠ b) : Own w' c cs t := by
 unfold Own at *; rw [h.block c hne]; exact ho
theorem Only.cells {b c o : Nat} {w w' : World} {cs : List Value} (h : Only b w w') (ho : Cells w c o cs) (hne : c ≠ b) : Cells w' c o cs := by
 intro j v hv
 rw [World.cell?_of_block (w := w) (h.block c hne)]; exact ho j v hv
theorem only_setCell (w : World) (b o : Nat) (v : Value) : Only b w (w.setCell ⟨b, o, none⟩ v) :=
  ⟨rfl, rfl, rfl, by simp [World.setCell], fun j hj => Below.heap_setCell _ _ _ _ hj⟩
theorem own_setCell {w : World} {b o : Nat} {cs : List Value} {t : TypeId} (ho : Own w b cs t) (v : Value) : Own (w.setCell ⟨b, o, none⟩ v) b (cs.set o v) t := by
 unfold Own at *
 simp [World.setCell, ho, Array.getElem?_modify]
theorem ostore1 {x y : Operand} {t T : TypeId} {b o : Nat} {cs : List Value} {v : Value} (hs : ∀ w, (sizeOf t).run P w = .ok 1 w) (hx : ev σ x = some (.pointer (some ⟨b, o, none⟩))) (hy : ev σ y = some v)
    (ho : Own w b cs T) (hlt : o < cs.length) (h1 : v.oneCell' = true)
    (hg : wantedE ops σ ⟨none, .store t x y, ty, pos, aft, gd⟩ = some true)
    (h : ∀ w', Only b w w' → Own w' b (cs.set o v) T → Ops P f N R ops rest k σ w') :
    Ops P f N R ops (⟨none, .store t x y, ty, pos, aft, gd⟩ :: rest) k σ w :=
  osk (w' := w.setCell ⟨b, o, none⟩ v)
    (fun a ha => by
      have hc : v.cells = #[v] := by cases v <;> first | rfl | (simp [Value.oneCell'] at h1)
      have hcell : w.cell? ⟨b, o, none⟩ = some (cs[o]'hlt) := by
        have := ho.cells o (cs[o]'hlt) (by simp [hlt]); simpa using this
      have hfr : w.frozen? ⟨b, o, none⟩ = false := by
        unfold Own at ho; simp [World.frozen?, ho]
      have hst := run_store P w ⟨b, o, none⟩ v .plain h1
      simp only [hcell, hfr, Bool.false_eq_true, if_false] at hst
      simp [execOp, ha.eval hx, ha.eval hy, Instr.storeAt, Instr.sureAddr, storeVar, hc, hs, storeCells, Addr.add, hst])
    hg rfl (h _ (only_setCell _ _ _ _) (own_setCell ho v))
def setRow (cs : List Value) (o : Nat) : List Value → List Value
  | [] => cs
  | v :: r => setRow (cs.set o v) (o + 1) r
theorem run_storeCells_own {b : Nat} {T : TypeId} : ∀ (vs : List Value) (w : World) (cs : List Value) (o i : Nat), Own w b cs T → o + i + vs.length ≤ cs.length → (∀ v ∈ vs, v.oneCell' = true) →
    ∃ w', (storeCells ⟨b, o, none⟩ vs i).run P w = .ok () w' ∧ Only b w w' ∧ Own w' b (setRow cs (o + i) vs) T
  | [], w, cs, o, i, ho, _, _ => ⟨w, rfl, ⟨rfl, rfl, rfl, rfl, fun _ _ => rfl⟩, ho⟩
  | v :: r, w, cs, o, i, ho, hl, h1 => by
    simp only [List.length_cons] at hl
    have hv := h1 v (by simp)
    have hlt : o + i < cs.length := by omega
    have hcell : w.cell? ⟨b, o + i, none⟩ = some (cs[o + i]'hlt) := by
      have := ho.cells (o + i) (cs[o + i]'hlt) (by simp [hlt]); simpa using this
    have hfr : w.frozen? ⟨b, o + i, none⟩ = false := by
      unfold Own at ho; simp [World.frozen?, ho]
    have hst := run_store P w ⟨b, o + i, none⟩ v .plain hv
    simp only [hcell, hfr, Bool.false_eq_true, if_false] at hst
    obtain ⟨w', hr, hon, hown⟩ := run_storeCells_own r (w.setCell ⟨b, o + i, none⟩ v) (cs.set (o + i) v) o (i + 1) (own_setCell ho v) (by simp; omega) (fun u hu => h1 u (by simp [hu]))
    have h0 := only_setCell w b (o + i) v
    refine ⟨w', ?_, ⟨hon.os.trans h0.os, hon.tape.trans h0.tape, hon.output.trans h0.output, hon.size.trans h0.size, fun j hj => (hon.block j hj).trans (h0.block j hj)⟩, by simpa [setRow, Nat.add_assoc] using hown⟩
    simp [storeCells, add_eq, hst, hr]
theorem ostoreN {x y : Operand} {t T : TypeId} {b o sz : Nat} {cs vs : List Value} (hs : ∀ w, (sizeOf t).run P w = .ok sz w) (hx : ev σ x = some (.pointer (some ⟨b, o, none⟩))) (hy : ev σ y = some (.agg vs.toArray))
    (ho : Own w b cs T) (hl : vs.length = sz) (hlt : o + vs.length ≤ cs.length) (h1 : ∀ v ∈ vs, v.oneCell' = true)
    (hg : wantedE ops σ ⟨none, .store t x y, ty, pos, aft, gd⟩ = some true)
    (h : ∀ w', Only b w w' → Own w' b (setRow cs o vs) T → Ops P f N R ops rest k σ w') :
    Ops P f N R ops (⟨none, .store t x y, ty, pos, aft, gd⟩ :: rest) k σ w := by
  subst hl
  obtain ⟨w', hr, hon, hown⟩ := run_storeCells_own (P := P) vs w cs o 0 ho (by omega) h1
  refine osk (w' := w') (fun a ha => ?_) hg rfl (h _ hon (by simpa using hown))
  simp [execOp, ha.eval hx, ha.eval hy, Instr.storeAt, Instr.sureAddr, storeVar, Value.cells, hs, hr]
end
end
section
variable {P : Program} {f : FuncId} {N : Nat} {R : Ending → World → Prop} {k : List Item} {σ : Env} {w w' : World} {ops : Array Oper} {rest : List Oper} {d : Nat} {ty : TypeId} {pos : String} {aft : Array Edge} {gd : Option (Nat × Bool)} {x : Operand} {v : Value}
theorem oz_ {op : Op} (hx : XV P N σ ⟨some d, op, ty, pos, aft, gd⟩ w v w') (hg : wantedE ops σ ⟨some d, op, ty, pos, aft, gd⟩ = some true) (hN : Nat.blt d N = true)
    (h : Ops P f N R ops rest k ((d, v) :: σ) w') : Ops P f N R ops (⟨some d, op, ty, pos, aft, gd⟩ :: rest) k σ w := ov hx hg rfl hN h
theorem vm_ (hx : ev σ x = some v) (hg : wantedE ops σ ⟨some d, .move x, ty, pos, aft, gd⟩ = some true) (hN : Nat.blt d N = true)
    (h : Ops P f N R ops rest k ((d, v) :: σ) w) : Ops P f N R ops (⟨some d, .move x, ty, pos, aft, gd⟩ :: rest) k σ w := ov (xmove hx) hg rfl hN h
theorem va_ (hx : ev σ x = some v) (hg : wantedE ops σ ⟨some d, .assign x, ty, pos, aft, gd⟩ = some true) (hN : Nat.blt d N = true)
    (h : Ops P f N R ops rest k ((d, v) :: σ) w) : Ops P f N R ops (⟨some d, .assign x, ty, pos, aft, gd⟩ :: rest) k σ w := ov (xassign hx) hg rfl hN h
theorem vn_ (hx : ev σ x = some v) (hg : wantedE ops σ ⟨some d, .assign x, ty, pos, aft, gd⟩ = some true) (hN : Nat.blt d N = true)
    (h : Run P f N R k ((d, v) :: σ) w) : Ops P f N R ops [⟨some d, .assign x, ty, pos, aft, gd⟩] k σ w := ov (xassign hx) hg rfl hN (ops_nil h)
theorem o2_ {op op' : Op} {d' : Nat} {ty' : TypeId} {pos' : String} {aft' : Array Edge} {gd' : Option (Nat × Bool)} (hg : wantedE ops σ ⟨some d, op, ty, pos, aft, gd⟩ = some false) (hN : Nat.blt d N = true)
    (hg' : wantedE ops ((d, undef) :: σ) ⟨some d', op', ty', pos', aft', gd'⟩ = some false) (hN' : Nat.blt d' N = true) (h : Ops P f N R ops rest k ((d', undef) :: (d, undef) :: σ) w) :
    Ops P f N R ops (⟨some d, op, ty, pos, aft, gd⟩ :: ⟨some d', op', ty', pos', aft', gd'⟩ :: rest) k σ w := og hg rfl hN (og hg' rfl hN' h)
theorem sr_ {id : Nat} {l : List Oper} {y : Code} (h : Ops P f N R l.toArray l (.code y :: k) σ w) : Run P f N R (.code (.seq (.region id l.toArray false) y) :: k) σ w := run_seq (run_region h)
theorem cf_ {c : Operand} {y : Code} (hc : ev σ c = some (.bool false)) (h : Run P f N R k σ w) : Ops P f N R ops [] (.code (.cond c y .skip) :: k) σ w := ops_nil (run_cond_f hc (run_skip h))
theorem ct_ {c : Operand} {y z : Code} (hc : ev σ c = some (.bool true)) (h : Run P f N R (.code y :: k) σ w) : Ops P f N R ops [] (.code (.cond c y z) :: k) σ w := ops_nil (run_cond_t hc h)
theorem cg_ {c : Operand} {y z : Code} (hc : ev σ c = some (.bool false)) (h : Run P f N R (.code z :: k) σ w) : Ops P f N R ops [] (.code (.cond c y z) :: k) σ w := ops_nil (run_cond_f hc h)
end
end Go.Proofs.YtchblgaklknkcaaGreat

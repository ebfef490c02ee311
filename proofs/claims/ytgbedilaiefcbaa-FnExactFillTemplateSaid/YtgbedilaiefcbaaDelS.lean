/-
  slices.DeleteFunc at texts: the walk of the library function. No condition beyond those written in each theorem.
-/
import Derived.Test.YtgbedilaiefcbaaSortS
import Derived.Test.YtgbedilaiefcbaaRg2
namespace Go.Proofs.Ytgbedilaiefcbaa
open Go.RowKit
set_option linter.unusedVariables false
set_option linter.unusedSimpArgs false
set_option linter.unusedSectionVars false
set_option maxRecDepth 4000

section
variable {P : Program} {f : FuncId} {N : Nat} {R : Ending → World → Prop} {k : List Item} {σ : Env} {w : World} {ops : Array Oper} {rest : List Oper} {ty : TypeId} {pos : String} {aft : Array Edge} {gd : Option (Nat × Bool)}
/-- the rest of a slice of our own is cleared -/
theorem oclear {x : Operand} {t e T : TypeId} {lo hi i n c : Nat} {p : Option Addr} {xs : List ByteArray} (ht : P.underlying t = some (.slice e)) (hz : ∀ w, (zeroValue e).run P w = .ok (.string ⟨#[]⟩) w)
    (hx : ev σ x = some (.slice (sfrom p c i 1) (n - i) (c - i))) (G : Ow strc 1 T w lo hi p n c xs) (hi' : i < n)
    (hg : wantedE ops σ ⟨none, .call ⟨.builtin .clear, #[x], #[t]⟩, ty, pos, aft, gd⟩ = some true)
    (h : ∀ w', Mk lo hi w w' → Ow strc 1 T w' lo hi p i c (xs.take i) → Ops P f N R ops rest k σ w') :
    Ops P f N R ops (⟨none, .call ⟨.builtin .clear, #[x], #[t]⟩, ty, pos, aft, gd⟩ :: rest) k σ w := by
  have hl := G.len; have hc := G.cap
  rcases G.row with ⟨_, h2⟩ | ⟨b, s, rfl, h3, h4, h5, h6⟩
  · omega
  · have e1 : sfrom (some (⟨b, 0, none⟩ : Addr)) c i 1 = some ⟨b, 0 + i * 1, none⟩ := by
      unfold sfrom
      rw [if_neg (by omega), Option.map_some, add_eq]
    rw [e1] at hx
    obtain ⟨m, hm⟩ : ∃ m, n - i = m + 1 := ⟨n - i - 1, by omega⟩
    rw [hm] at hx
    have hzc : (Builtin.zeroCells (Value.string ⟨#[]⟩).cells (m + 1)).toList = List.replicate (m + 1) (Value.string ⟨#[]⟩) := by
      simp [Builtin.zeroCells, Value.cells]
      apply List.ext_getElem
      · simp
      · intro i h1 h2
        simp [Nat.mod_one]
    have hlen : ((xs.map strc).flatten ++ s).length = c := by
      rw [flat_str, List.length_append, List.length_map, List.length_map, h6]; omega
    obtain ⟨w', hr, hon, hown⟩ := run_storeCells_own (P := P) (List.replicate (m + 1) (Value.string ⟨#[]⟩)) w ((xs.map strc).flatten ++ s) (0 + i * 1) 0 h5 (by rw [hlen, List.length_replicate]; omega) (fun v hv => by rw [List.eq_of_mem_replicate hv]; rfl)
    refine ovn (v := .tuple #[]) (w' := w') (fun a ha => ?_) hg rfl (h w' (Mk.ofOnly hon h3 h4) ⟨by rw [List.length_take]; omega, by omega, G.big, .inr ?_, fun _ _ => rfl⟩)
    · have e4 : 0 + i * 1 = i := by omega
      rw [e4] at hr hx
      simp [execOp, resolve, ha.eval hx, invoke, builtin, Builtin.clear_, run_underlying ht, hz, hzc, hr, Result.andThen]
    · have e2 : (xs.map strc).flatten ++ s = ((xs.take i).map strc).flatten ++ (((xs.drop i).map strc).flatten ++ s) := by
        conv => lhs; rw [← List.take_append_drop i xs]
        rw [List.map_append, List.flatten_append, List.append_assoc]
      have e3 : 0 + i * 1 + 0 = (((xs.take i).map strc).flatten).length := by
        rw [flat_str, List.length_map, List.length_map, List.length_take]; omega
      rw [e2, e3, setRow_append _ _ _ (by rw [flat_str, List.length_replicate, List.length_append, List.length_map, List.length_map, List.length_drop]; omega)] at hown
      refine ⟨b, _, rfl, h3, h4, hown, ?_⟩
      rw [flat_str]
      simp only [List.length_append, List.length_replicate, List.length_drop, List.length_map]
      omega
end
theorem filter_none {pr : ByteArray → Bool} {xs : List ByteArray} (h : ∀ j (hj : j < xs.length), pr xs[j] = false) : (xs.filter fun x => !pr x) = xs := by
  rw [List.filter_eq_self]
  intro x hx
  obtain ⟨j, hj, rfl⟩ := List.mem_iff_getElem.1 hx
  simp [h j hj]
theorem findI_neg {pr : ByteArray → Bool} {xs : List ByteArray} (h : findI pr xs = -1) : ∀ j (hj : j < xs.length), pr xs[j] = false := by
  intro j hj
  unfold findI at h
  split at h
  · omega
  · rename_i h2
    have := List.findIdx?_eq_none_iff.1 h2 xs[j] (List.getElem_mem hj)
    simpa using this
theorem findI_hit {pr : ByteArray → Bool} {xs : List ByteArray} (h : ¬ findI pr xs = -1) : ∃ i : Nat, findI pr xs = (i : Int) ∧ ∃ hi : i < xs.length, pr xs[i] = true ∧ ∀ j (hj : j < xs.length), j < i → pr xs[j] = false := by
  unfold findI at h ⊢
  split at h
  · rename_i k hk
    obtain ⟨hk1, hk2, hk3⟩ := List.findIdx?_eq_some_iff_getElem.1 hk
    exact ⟨k, rfl, hk1, hk2, fun j hj hji => by simpa using hk3 j hji⟩
  · exact absurd rfl h
theorem filter_start {pr : ByteArray → Bool} {xs : List ByteArray} {i : Nat} (hi : i < xs.length) (h1 : pr xs[i] = true) (h2 : ∀ j (hj : j < xs.length), j < i → pr xs[j] = false) : xs.take i = (xs.take (i + 1)).filter fun x => !pr x := by
  rw [List.take_succ_eq_append_getElem hi, List.filter_append, filter_none]
  · simp [h1]
  · intro j hj
    rw [List.length_take] at hj
    rw [List.getElem_take]
    exact h2 j (by omega) (by omega)
theorem filter_keep {pr : ByteArray → Bool} {xs ys : List ByteArray} {i j : Nat} (hj : j < xs.length) (hij : i < j) (hl : ys.length = xs.length) (hA : ys.take i = (xs.take j).filter fun x => !pr x) (hB : ys.drop j = xs.drop j) (hjy : j < ys.length) (h : pr ys[j] = false) :
    (ys.set i ys[j]).take (i + 1) = ((xs.take (j + 1)).filter fun x => !pr x) ∧ (ys.set i ys[j]).drop (j + 1) = xs.drop (j + 1) := by
  have e : ys[j] = xs[j] := by
    have h1 := List.drop_eq_getElem_cons hjy
    have h2 := List.drop_eq_getElem_cons hj
    rw [hB, h2] at h1
    exact (List.cons.inj h1).1.symm
  constructor
  · rw [List.take_succ_eq_append_getElem (by rw [List.length_set]; omega), List.getElem_set_self, List.take_set_of_le (Nat.le_refl i), hA, List.take_succ_eq_append_getElem hj, List.filter_append]
    rw [e] at h ⊢
    simp [h]
  · rw [List.drop_set_of_lt (by omega)]
    have h1 := List.drop_eq_getElem_cons hjy
    have h2 := List.drop_eq_getElem_cons hj
    rw [hB, h2] at h1
    exact (List.cons.inj h1).2.symm
theorem filter_skip {pr : ByteArray → Bool} {xs ys : List ByteArray} {i j : Nat} (hj : j < xs.length) (hA : ys.take i = (xs.take j).filter fun x => !pr x) (hB : ys.drop j = xs.drop j) (hjy : j < ys.length) (h : pr ys[j] = true) :
    ys.take i = ((xs.take (j + 1)).filter fun x => !pr x) ∧ ys.drop (j + 1) = xs.drop (j + 1) := by
  have h1 := List.drop_eq_getElem_cons hjy
  have h2 := List.drop_eq_getElem_cons hj
  rw [hB, h2] at h1
  have e : xs[j] = ys[j] := (List.cons.inj h1).1
  refine ⟨?_, (List.cons.inj h1).2.symm⟩
  rw [hA, List.take_succ_eq_append_getElem hj, List.filter_append, e]
  simp [h]

set_option maxHeartbeats 400000 in
theorem IndexFuncStr_ok (p : Option Addr) (n c : Nat) (xs : List ByteArray) (w : World) (H : Sl strc 1 w p n c xs) (g : FuncId) (caps : List Value) (f : ByteArray → Bool) (hg : ∀ args w, (callFunc g args).run Try.prog w = .ok (.enter g args) w) (hf : ∀ (w' : World), Ext w w' → ∀ i (hi : i < xs.length), Ret Try.prog g ([.string xs[i]] ++ caps) w' (Pv w' (.bool (f xs[i])))) : Ret Try.prog 87 [.slice p n c, .func (.func g) #[] caps.toArray] w (Pv w (.int .i64 (findI f xs))) := by
  refine ret_of_run (N := 19) Try.func87 rfl rfl rfl ?_
  have hn := H.len
  have hn6 := H.n64
  have E : Ext w w := Ext.refl w
  refine run_seq ?_
  refine run_region ?_
  refine ov (xassign rfl) rfl rfl rfl ?_
  refine ops_nil ?_
  refine run_seq ?_
  refine run_seq ?_
  refine run_region ?_
  refine ov (xmove rfl) rfl rfl rfl ?_
  refine ov (xlen Try.underlying48 rfl) rfl rfl rfl ?_
  refine ov (xmove rfl) rfl rfl rfl ?_
  refine ops_nil ?_
  refine run_block ?_
  refine run_loop (ι := Nat × World) (fun x_ => match x_ with | (k, wr) => (Ext w wr) ∧ (w.heap.size ≤ wr.heap.size) ∧ (k ≤ n) ∧ (∀ j (hj : j < xs.length), j < k → f xs[j] = false)) (fun x_ => match x_ with | (k, wr) => [(0, .slice p n c), (1, .func (.func g) #[] caps.toArray), (7, .int .i64 (n : Int)), (8, .int .i64 (k : Int))]) (fun x_ => match x_ with | (k, wr) => wr) (fun x_ => match x_ with | (k, wr) => n - k) ?_ (0, w) (⟨E, Nat.le_refl _, by omega, fun j hj h => absurd h (Nat.not_lt_zero j)⟩) ⟨rfl, rfl, rfl, rfl, trivial⟩ rfl
  intro i_ hI_ hback2
  obtain ⟨k, wr⟩ := i_
  obtain ⟨E, lz_wr, hk, ha⟩ := hI_
  try dsimp only
  have zr := E.size
  refine run_seq ?_
  refine run_region ?_
  refine ov (xlss rfl rfl _ rfl) rfl rfl rfl ?_
  refine ods (fun c9 => ?_) (fun c9 => ?_)
  ·
    refine ops_nil ?_
    refine run_seq ?_
    refine run_cond_t rfl ?_
    refine run_skip ?_
    refine run_seq ?_
    refine run_block ?_
    refine run_seq ?_
    refine run_region ?_
    refine ov (xmove rfl) rfl rfl rfl ?_
    refine ov (xassign rfl) rfl rfl rfl ?_
    refine ops_nil ?_
    refine run_seq ?_
    refine run_region ?_
    refine ov (xmove rfl) rfl rfl rfl ?_
    refine ov (xmove rfl) rfl rfl rfl ?_
    refine ov (xmove rfl) rfl rfl rfl ?_
    have h14 := (H.ext E).at (i := k) (by omega)
    refine ov (xindexN (i := k) Try.underlying48 Try.sizeOf9 rfl rfl rfl ((H.ext E).p (i := k) (by omega)) (by have := (H.ext E).len; omega)) rfl rfl rfl ?_
    refine ov (v := .string xs[k]) (xloadz Try.isAgg9 rfl (h14) rfl) rfl rfl rfl ?_
    refine oc (xcallv rfl hg rfl) rfl rfl rfl (hf _ E k (by omega)) ?_
    rintro _ w1 ⟨rfl, e1⟩
    have z1 := e1.size
    have E := E.trans e1
    refine obs (fun c16 => ?_) (fun c16 => ?_)
    ·
      refine ops_nil ?_
      refine run_cond_t rfl ?_
      refine run_seq ?_
      refine run_region ?_
      refine ov (xmove rfl) rfl rfl rfl ?_
      refine ov (xassign rfl) rfl rfl rfl ?_
      refine ops_nil ?_
      refine run_ret Try.func87 (res1 rfl rfl) ?_
      exact ⟨_, rfl, by rw [findI_at (k := k) (by omega) (by assumption) ha], E⟩
    ·
      refine ops_nil ?_
      refine run_cond_f rfl ?_
      refine run_skip ?_
      refine run_inBlock ?_
      refine run_region ?_
      refine ov (xadd rfl rfl (by unfold I64; omega)) rfl rfl rfl ?_
      refine ov (xmove rfl) rfl rfl rfl ?_
      refine ops_nil ?_
      refine run_sub ?_ (hback2 (k + 1, w1) (⟨E, by omega, by omega, below_succ (q := fun x => f x = false) ha (fun _ => by assumption)⟩) (by first | omega | (dsimp only; omega)))
      exact ⟨rfl, rfl, rfl, rfl, trivial⟩
  ·
    refine ops_nil ?_
    refine run_seq ?_
    refine run_cond_f rfl ?_
    refine run_exit rfl ?_
    refine run_seq ?_
    refine run_region ?_
    refine ov (xassign rfl) rfl rfl rfl ?_
    refine ops_nil ?_
    refine run_ret Try.func87 (res1 rfl rfl) ?_
    exact ⟨_, rfl, by rw [findI_none (fun j hj => ha j hj (by omega))], E⟩

set_option maxHeartbeats 2000000 in
theorem DeleteFuncS_ok (p : Option Addr) (n c : Nat) (xs : List ByteArray) (lo hi : Nat) (w : World) (G : Ow strc 1 9 w lo hi p n c xs) (h1 : n ≤ 1000000000) (g : FuncId) (caps : List Value) (pr : ByteArray → Bool) (hg : ∀ args w, (callFunc g args).run Try.prog w = .ok (.enter g args) w) (hf : ∀ (w' : World), Mk lo hi w w' → ∀ x : ByteArray, Ret Try.prog g ([.string x] ++ caps) w' (Pv w' (.bool (pr x)))) : Ret Try.prog 77 [.slice p n c, .func (.func g) #[] caps.toArray] w (fun v w' => ∃ m, v = .slice p m c ∧ m ≤ n ∧ Mk lo hi w w' ∧ Ow strc 1 9 w' lo hi p m c (xs.filter fun x => !pr x)) := by
  refine ret_of_run (N := 42) Try.func77 rfl rfl rfl ?_
  have hn := G.len
  have E : Mk lo hi w w := Mk.refl _ _ _
  refine run_seq ?_
  refine run_region ?_
  refine ov (xassign rfl) rfl rfl rfl ?_
  refine ops_nil ?_
  refine run_seq ?_
  refine run_region ?_
  refine ov (xmove rfl) rfl rfl rfl ?_
  refine ov (xmove rfl) rfl rfl rfl ?_
  refine oc (xcall Try.call87 rfl) rfl rfl rfl (IndexFuncStr_ok _ _ _ _ _ (G.sl) g caps pr hg (fun w2 x2 i2 hi2 => hf w2 (E.trans (Mk.ofExt x2)) _)) ?_
  rintro _ w1 ⟨rfl, e1⟩
  have z1 := e1.size
  have E := E.trans (Mk.ofExt e1)
  replace G := G.ext e1
  refine ov (xassign rfl) rfl rfl rfl ?_
  refine ops_nil ?_
  refine run_seq ?_
  refine run_seq ?_
  refine run_region ?_
  refine ov (xmove rfl) rfl rfl rfl ?_
  refine ov (xeql rfl rfl _ rfl) rfl rfl rfl ?_
  refine ods (fun c12 => ?_) (fun c12 => ?_)
  ·
    refine ops_nil ?_
    refine run_cond_t rfl ?_
    refine run_seq ?_
    refine run_region ?_
    refine ov (xmove rfl) rfl rfl rfl ?_
    refine ov (xassign rfl) rfl rfl rfl ?_
    refine ops_nil ?_
    refine run_ret Try.func77 (res1 rfl rfl) ?_
    exact ⟨_, rfl, n, rfl, Nat.le_refl _, E, by rw [filter_none (findI_neg c12)]; exact G⟩
  ·
    obtain ⟨fi, hfi, hf1, hf2, hf3⟩ := findI_hit c12
    rw [hfi]
    refine ops_nil ?_
    refine run_cond_f rfl ?_
    refine run_skip ?_
    refine run_seq ?_
    refine run_seq ?_
    refine run_region ?_
    refine ov (xmove rfl) rfl rfl rfl ?_
    refine ov (xadd rfl rfl (by unfold I64; omega)) rfl rfl rfl ?_
    refine ov (xassign rfl) rfl rfl rfl ?_
    refine ops_nil ?_
    refine run_block ?_
    refine run_loop (ι := Nat × Nat × List ByteArray × World) (fun x_ => match x_ with | (i, j, ys, wr) => (Mk lo hi w wr) ∧ (Ow strc 1 9 wr lo hi p n c ys) ∧ (w1.heap.size ≤ wr.heap.size) ∧ (i < j) ∧ (j ≤ n) ∧ (ys.length = xs.length) ∧ (ys.take i = (xs.take j).filter fun x => !pr x) ∧ (ys.drop j = xs.drop j)) (fun x_ => match x_ with | (i, j, ys, wr) => [(0, .slice p n c), (1, .func (.func g) #[] caps.toArray), (5, .int .i64 (i : Int)), (6, .int .i64 (j : Int))]) (fun x_ => match x_ with | (i, j, ys, wr) => wr) (fun x_ => match x_ with | (i, j, ys, wr) => n - j) ?_ (fi, fi + 1, xs, w1) (⟨E, G, Nat.le_refl _, by omega, by omega, rfl, filter_start hf1 hf2 hf3, rfl⟩) ⟨rfl, rfl, rfl, rfl, trivial⟩ rfl
    intro i_ hI_ hback5
    obtain ⟨i, j, ys, wr⟩ := i_
    obtain ⟨E, G, lz_wr, hij, hj, hlx, hA, hB⟩ := hI_
    try dsimp only
    have zr := E.size
    refine run_seq ?_
    refine run_seq ?_
    refine run_region ?_
    refine ov (xmove rfl) rfl rfl rfl ?_
    refine ov (xmove rfl) rfl rfl rfl ?_
    refine ov (xlen Try.underlying48 rfl) rfl rfl rfl ?_
    refine ov (xlss rfl rfl _ rfl) rfl rfl rfl ?_
    refine ods (fun c19 => ?_) (fun c19 => ?_)
    ·
      refine ops_nil ?_
      refine run_cond_t rfl ?_
      refine run_skip ?_
      refine run_seq ?_
      refine run_block ?_
      refine run_seq ?_
      refine run_region ?_
      refine ov (xmove rfl) rfl rfl rfl ?_
      refine ov (xmove rfl) rfl rfl rfl ?_
      have h24 := (G.sl).at (i := j) (by omega)
      refine ov (xindexN (i := j) Try.underlying48 Try.sizeOf9 rfl rfl rfl ((G.sl).p (i := j) (by omega)) (by have := (G.sl).len; omega)) rfl rfl rfl ?_
      refine ov (v := .string ys[j]) (xloadz Try.isAgg9 rfl (h24) rfl) rfl rfl rfl ?_
      refine ov (xassign rfl) rfl rfl rfl ?_
      refine ops_nil ?_
      refine run_seq ?_
      refine run_region ?_
      refine ov (xmove rfl) rfl rfl rfl ?_
      refine ov (xmove rfl) rfl rfl rfl ?_
      refine oc (xcallv rfl hg rfl) rfl rfl rfl (hf _ E ys[j]) ?_
      rintro _ w2 ⟨rfl, e2⟩
      have z2 := e2.size
      have E := E.trans (Mk.ofExt e2)
      replace G := G.ext e2
      refine obs (fun c28 => ?_) (fun c28 => ?_)
      ·
        refine ov (xnot rfl) rfl rfl rfl ?_
        refine ops_nil ?_
        refine run_cond_f rfl ?_
        refine run_skip ?_
        refine run_inBlock ?_
        refine run_region ?_
        refine ov (xmove rfl) rfl rfl rfl ?_
        refine ov (xadd rfl rfl (by unfold I64; omega)) rfl rfl rfl ?_
        refine ov (xassign rfl) rfl rfl rfl ?_
        refine ops_nil ?_
        refine run_sub ?_ (hback5 (i, j + 1, ys, w2) (⟨E, G, by omega, by omega, by omega, hlx, (filter_skip (by omega) hA hB (by omega) c28).1, (filter_skip (by omega) hA hB (by omega) c28).2⟩) (by first | omega | (dsimp only; omega)))
        exact ⟨rfl, rfl, rfl, rfl, trivial⟩
      ·
        refine ov (xnot rfl) rfl rfl rfl ?_
        refine ops_nil ?_
        refine run_cond_t rfl ?_
        refine run_seq ?_
        refine run_region ?_
        refine ov (xmove rfl) rfl rfl rfl ?_
        refine ov (xmove rfl) rfl rfl rfl ?_
        refine ov (xmove rfl) rfl rfl rfl ?_
        have h33 := (G.sl).at (i := i) (by omega)
        refine ov (xindexN (i := i) Try.underlying48 Try.sizeOf9 rfl rfl (by omega) ((G.sl).p (i := i) (by omega)) (by have := (G.sl).len; omega)) rfl rfl rfl ?_
        refine ostoreOw1 (i := i) (y := ys[j]) Try.sizeOf9 G (by omega) rfl rfl rfl rfl rfl ?_
        intro w3 m3 g3
        have z3 := m3.size
        have E := E.trans m3
        replace G := g3
        refine ops_nil ?_
        refine run_region ?_
        refine ov (xmove rfl) rfl rfl rfl ?_
        refine ov (xadd rfl rfl (by unfold I64; omega)) rfl rfl rfl ?_
        refine ov (xassign rfl) rfl rfl rfl ?_
        refine ops_nil ?_
        refine run_inBlock ?_
        refine run_region ?_
        refine ov (xmove rfl) rfl rfl rfl ?_
        refine ov (xadd rfl rfl (by unfold I64; omega)) rfl rfl rfl ?_
        refine ov (xassign rfl) rfl rfl rfl ?_
        refine ops_nil ?_
        refine run_sub ?_ (hback5 (i + 1, j + 1, (ys.set i ys[j]), w3) (⟨E, G, by omega, by omega, by omega, by rw [List.length_set]; exact hlx, (filter_keep (by omega) hij hlx hA hB (by omega) c28).1, (filter_keep (by omega) hij hlx hA hB (by omega) c28).2⟩) (by first | omega | (dsimp only; omega)))
        exact ⟨rfl, rfl, rfl, rfl, trivial⟩
    ·
      refine ops_nil ?_
      refine run_cond_f rfl ?_
      refine run_exit rfl ?_
      refine run_seq ?_
      refine run_region ?_
      refine ov (xmove rfl) rfl rfl rfl ?_
      refine ov (xmove rfl) rfl rfl rfl ?_
      refine ov (xslice_l (k := i) Try.underlying48 Try.sizeOf9 rfl rfl rfl (by omega)) rfl rfl rfl ?_
      refine oclear (i := i) (n := n) (c := c) (p := p) Try.underlying48 Try.zeroValue9 rfl G (by omega) rfl ?_
      intro w2 m2 g2
      have z2 := m2.size
      have E := E.trans m2
      replace G := g2
      refine ops_nil ?_
      refine run_seq ?_
      refine run_region ?_
      refine ov (xmove rfl) rfl rfl rfl ?_
      refine ov (xmove rfl) rfl rfl rfl ?_
      refine ov (xslice_h (k := i) Try.underlying48 Try.sizeOf9 rfl rfl rfl (by have := (G.sl).cap; omega)) rfl rfl rfl ?_
      refine ov (xassign rfl) rfl rfl rfl ?_
      refine ops_nil ?_
      refine run_ret Try.func77 (res1 rfl rfl) ?_
      have hjn : j = n := by omega
      rw [List.take_of_length_le (by omega : xs.length ≤ j)] at hA
      exact ⟨_, rfl, i, rfl, by omega, E, by rw [← hA]; exact G⟩
end Go.Proofs.Ytgbedilaiefcbaa

/-
  A logic for walking Go code in the given model: the frame is told by the slots that matter ('Env'), the code still to be run by the machine's own list of items ('Run'). Plain rules, each proved from the model's own steps; nothing here speaks of one program. No condition.
-/
import Derived.WalkKit
import Derived.Deep.Quiet
import Derived.Laws.ResultCell
namespace Go.Proofs.YtchblgaklknkcaaGreat
open Go.RowKit
set_option linter.unusedVariables false
set_option linter.unusedSimpArgs false
set_option linter.unusedSectionVars false
abbrev Env := List (Nat × Value)
def look : Env → Nat → Option Value
  | [], _ => none
  | (k, v) :: r, n => bif Nat.beq k n then some v else look r n
structure Fits (N : Nat) (σ : Env) (a : Act) : Prop where
  size : a.tmps.size = N
  defers : a.defers = []
  tmp : ∀ k v, look σ k = some v → a.tmps[k]? = some v
def ev (σ : Env) : Operand → Option Value
  | .tmp t => look σ t
  | .const v => some v
  | .global g => some (.pointer (some ⟨g, 0, none⟩))
  | .func f => some (.func (.func f) #[] #[])
theorem Fits.getD {N : Nat} {σ : Env} {a : Act} (h : Fits N σ a) {k : Nat} {v : Value} (hx : look σ k = some v) : a.tmps.getD k undef = v := by
 have := h.tmp k v hx
 simp [Array.getD_eq_getD_getElem?, this]
theorem Fits.eval {N : Nat} {σ : Env} {a : Act} (h : Fits N σ a) {x : Operand} {v : Value} (hx : ev σ x = some v) : a.eval x = v := by
 cases x with
 | tmp t => exact h.getD hx
 | const c => simp only [ev, Option.some.injEq] at hx; simp [Act.eval, hx]
 | global g => simp only [ev, Option.some.injEq] at hx; simp [Act.eval, hx]
 | func f => simp only [ev, Option.some.injEq] at hx; simp [Act.eval, hx]
theorem look_cons (k : Nat) (v : Value) (r : Env) (n : Nat) : look ((k, v) :: r) n = if k = n then some v else look r n := by
 simp only [look, cond_eq_ite]
 by_cases h : k = n
 · subst h; simp
 · rw [if_neg h, if_neg (by intro h'; exact h (Nat.eq_of_beq_eq_true h'))]
theorem Fits.put {N : Nat} {σ : Env} {a : Act} (h : Fits N σ a) {d : Nat} (hd : Nat.blt d N = true) (v : Value) : Fits N ((d, v) :: σ) (a.put (some d) v) := by
 have hd' : d < N := by simpa [Nat.blt_eq] using hd
 refine ⟨by simp [Act.put, h.size], by simp [Act.put, h.defers], fun k u hk => ?_⟩
 rw [look_cons] at hk
 simp only [Act.put]
 by_cases he : d = k
 · subst he
   simp only [if_true, Option.some.injEq] at hk
   subst hk
   simp [h.size, hd']
 · rw [if_neg he] at hk
   rw [Array.getElem?_setIfInBounds_ne he]
   exact h.tmp k u hk
def sub (τ σ : Env) : Prop := match τ with
  | [] => True
  | (k, v) :: r => look σ k = some v ∧ sub r σ
theorem sub_look {σ : Env} : ∀ {τ : Env}, sub τ σ → ∀ k v, look τ k = some v → look σ k = some v
  | [], _, k, v, h => by cases h
  | (k', v') :: r, hs, k, v, h => by
    rw [look_cons] at h
    by_cases he : k' = k
    · subst he; rw [if_pos rfl] at h; rw [← h]; exact hs.1
    · rw [if_neg he] at h; exact sub_look hs.2 k v h
theorem Fits.sub {N : Nat} {σ τ : Env} {a : Act} (h : Fits N σ a) (hs : sub τ σ) : Fits N τ a :=
  ⟨h.size, h.defers, fun k v hk => h.tmp k v (sub_look hs k v hk)⟩
def fbase (f : FuncId) : Frame := { (default : Frame) with fn := f, kind := .normal }
def Run (P : Program) (f : FuncId) (N : Nat) (R : Ending → World → Prop) (k : List Item) (σ : Env) (w : World) : Prop :=
  ∀ a, Fits N σ a → ∀ cs : List Frame, ∃ e w' fr, R e w' ∧ Comes P (lone ((fbase f).at a k) cs w) (lone fr cs w') e ∧ fr.fn = f ∧ fr.leaving P w' e
def args0 : Nat → List Value → Env
  | _, [] => []
  | i, v :: r => (i, v) :: args0 (i + 1) r
theorem look_args0 : ∀ (l : List Value) (i k : Nat) (v : Value), look (args0 i l) k = some v → ∃ j, k = i + j ∧ l[j]? = some v
  | [], _, _, _, h => by cases h
  | u :: r, i, k, v, h => by
    simp only [args0] at h
    rw [look_cons] at h
    by_cases he : i = k
    · rw [if_pos he] at h
      exact ⟨0, by omega, by simpa using h⟩
    · rw [if_neg he] at h
      obtain ⟨j, hj, hv⟩ := look_args0 r (i + 1) k v h
      exact ⟨j + 1, by omega, by simpa using hv⟩
theorem calls_of_run {P : Program} {f : FuncId} {fn : Func} {N : Nat} {c : Code} {l : List Value} {w : World} {R : Ending → World → Prop}
    (hf : P.funcs[f]? = some fn) (hb : fn.body = some c) (hN : fn.ntmps = N) (hl : Nat.ble l.length N = true)
    (h : Run P f N R [.code c] (args0 0 l) w) : Calls P f l.toArray w R := by
  intro cs
  have henter : Frame.enter P f l.toArray .normal =
      (fbase f).at { tmps := l.toArray ++ Array.replicate (fn.ntmps - l.toArray.size) undef, defers := [] } [.code c] := by
    simp [Frame.enter, Frame.at, hf, hb, fbase]
  rw [henter]
  have hl' : l.length ≤ N := by simpa using hl
  refine h _ ⟨by simp [hN]; omega, rfl, fun k v hk => ?_⟩ cs
  obtain ⟨j, hj, hv⟩ := look_args0 l 0 k v hk
  have hkj : k = j := by omega
  subst hkj
  have hlt : k < l.length := by
    rcases Nat.lt_or_ge k l.length with h' | h'
    · exact h'
    · rw [List.getElem?_eq_none h'] at hv; cases hv
  rw [Array.getElem?_append_left (by simpa using hlt)]
  simpa using hv
section
variable {P : Program} {f : FuncId} {N : Nat} {R : Ending → World → Prop} {k : List Item} {σ τ : Env} {w : World}
theorem run_steps {k' : List Item} (hs : ∀ a cs, step P (lone ((fbase f).at a k) cs w) = .next (lone ((fbase f).at a k') cs w))
    (h : Run P f N R k' σ w) : Run P f N R k σ w := fun a ha cs =>
  let ⟨e, w', fr, hR, hc, hr⟩ := h a ha cs
  ⟨e, w', fr, hR, Comes.of_steps (.one (hs a cs)) hc, hr⟩
theorem run_sub (hs : sub τ σ) (h : Run P f N R k τ w) : Run P f N R k σ w := fun a ha cs => h a (ha.sub hs) cs
theorem run_seq {x y : Code} (h : Run P f N R (.code x :: .code y :: k) σ w) : Run P f N R (.code (.seq x y) :: k) σ w :=
  run_steps (fun _ _ => step_seq) h
theorem run_skip (h : Run P f N R k σ w) : Run P f N R (.code .skip :: k) σ w := run_steps (fun _ _ => step_skip) h
theorem run_block {id : Nat} {c : Code} (h : Run P f N R (.code c :: .inBlock id :: k) σ w) : Run P f N R (.code (.block id c) :: k) σ w :=
  run_steps (fun _ _ => step_block) h
theorem run_inBlock {id : Nat} (h : Run P f N R k σ w) : Run P f N R (.inBlock id :: k) σ w := run_steps (fun _ _ => step_inBlock) h
theorem run_exit {id : Nat} {k' : List Item} (hx : exitTo id k = some k') (h : Run P f N R k' σ w) : Run P f N R (.code (.exit id) :: k) σ w :=
  run_steps (fun _ _ => step_exit hx) h
theorem run_cond {c : Operand} {x y : Code} (t : Bool) (hc : ev σ c = some (.bool t)) (h : Run P f N R (.code (if t then x else y) :: k) σ w) :
    Run P f N R (.code (.cond c x y) :: k) σ w := fun a ha cs =>
  let ⟨e, w', fr, hR, hcm, hr⟩ := h a ha cs
  ⟨e, w', fr, hR, Comes.of_steps (.one (step_cond (ha.eval hc))) hcm, hr⟩
theorem run_cond_t {c : Operand} {x y : Code} (hc : ev σ c = some (.bool true)) (h : Run P f N R (.code x :: k) σ w) :
    Run P f N R (.code (.cond c x y) :: k) σ w := run_cond true hc h
theorem run_cond_f {c : Operand} {x y : Code} (hc : ev σ c = some (.bool false)) (h : Run P f N R (.code y :: k) σ w) :
    Run P f N R (.code (.cond c x y) :: k) σ w := run_cond false hc h
theorem run_cond_s {c : Operand} {x y : Code} {t : Bool} (hc : ev σ c = some (.bool t)) (h1 : t = true → Run P f N R (.code x :: k) σ w)
    (h0 : t = false → Run P f N R (.code y :: k) σ w) :
    Run P f N R (.code (.cond c x y) :: k) σ w := by
  cases t
  · exact run_cond false hc (h0 rfl)
  · exact run_cond true hc (h1 rfl)
theorem run_ret {fn : Func} {v : Value} (hf : P.funcs[f]? = some fn) (hr : ∀ a, Fits N σ a → (results fn a.tmps).run P w = .ok v w)
    (hR : R (.returned v) w) : Run P f N R (.code .ret :: k) σ w := fun a ha cs =>
  ⟨.returned v, w, _, hR, Steps.one step_ret, rfl, rfl, ha.defers, rfl, fn, hf, hr a ha⟩
theorem res1 {fn : Func} {t : Nat} {v : Value} (h : fn.results = #[.tmp t]) (hv : look σ t = some v) :
    ∀ a, Fits N σ a → (results fn a.tmps).run P w = .ok v w := fun a ha => by
  rw [results_tmp h, ha.getD hv]
theorem res2 {fn : Func} {t u : Nat} {v x : Value} (h : fn.results = #[.tmp t, .tmp u]) (hv : look σ t = some v) (hx : look σ u = some x) :
    ∀ a, Fits N σ a → (results fn a.tmps).run P w = .ok (.tuple #[v, x]) w := fun a ha => by
  rw [results_tmp2 h, ha.getD hv, ha.getD hx]
theorem resc1 {fn : Func} {t ty : Nat} {p : Addr} {v : Value} (h : fn.results = #[.cell t ty]) (hp : look σ t = some (.pointer (some p))) (hl : (loadVar ty p).run P w = .ok v w) :
    ∀ a, Fits N σ a → (results fn a.tmps).run P w = .ok v w := fun a ha => by
  simp [results, h, ha.getD hp, asAddr, hl, - Array.getD_eq_getD_getElem?]
theorem resc2 {fn : Func} {t ty u : Nat} {p : Addr} {v x : Value} (h : fn.results = #[.cell t ty, .tmp u]) (hp : look σ t = some (.pointer (some p))) (hl : (loadVar ty p).run P w = .ok v w) (hx : look σ u = some x) :
    ∀ a, Fits N σ a → (results fn a.tmps).run P w = .ok (.tuple #[v, x]) w := fun a ha => by
  simp [results, h, ha.getD hp, ha.getD hx, asAddr, hl, - Array.getD_eq_getD_getElem?]
theorem run_loop {c : Code} {ι : Type} (I : ι → Prop) (σs : ι → Env) (ws : ι → World) (μ : ι → Nat)
    (round : ∀ i, I i → (∀ j, I j → μ j < μ i → Run P f N R (.inLoop c :: k) (σs j) (ws j)) → Run P f N R (.code c :: .inLoop c :: k) (σs i) (ws i))
    (i₀ : ι) (h₀ : I i₀) (hs : sub (σs i₀) σ) (hw : ws i₀ = w) : Run P f N R (.code (.loop c) :: k) σ w := by
  have key : ∀ n i, μ i = n → I i → Run P f N R (.code c :: .inLoop c :: k) (σs i) (ws i) := by
    intro n
    induction n using Nat.strongRecOn with
    | _ n ih =>
      intro i hn hI
      exact round i hI fun j hj hlt => run_steps (fun _ _ => step_inLoop) (ih (μ j) (hn ▸ hlt) j rfl hj)
  subst hw
  exact run_steps (fun _ _ => step_loop) (run_sub hs (key _ i₀ rfl h₀))
def wantedE (ops : Array Oper) (σ : Env) (o : Oper) : Option Bool :=
  match o.guard with
  | none => some true
  | some (j, want) =>
    match (ops[j]?).bind (·.dst) with
    | none => none
    | some d => match look σ d with
      | some (.bool b) => some (b == want)
      | some _ => some false
      | none => none
theorem wanted_of {ops : Array Oper} {o : Oper} {b : Bool} {a : Act} (h : wantedE ops σ o = some b) (ha : Fits N σ a) : Region.wanted o (yielded ops a.tmps) = b := by
 unfold wantedE at h
 unfold Region.wanted
 split at h
 · rename_i hg; simp only [hg]; simpa using h
 · rename_i j want hg
   simp only [hg]
   unfold yielded
   split at h
   · cases h
   · rename_i d hd
     simp only [hd, Option.bind_some]
     split at h
     · rename_i b' hb
       rw [ha.tmp _ _ hb]
       simp only [Option.some.injEq] at h
       subst h
       cases b' <;> cases want <;> rfl
     · rename_i v hv hnb
       rw [ha.tmp _ _ hnb]
       simp only [Option.some.injEq] at h
       subst h
       cases v <;> first | rfl | (exact absurd rfl (hv _))
     · cases h
def Ops (P : Program) (f : FuncId) (N : Nat) (R : Ending → World → Prop) (ops : Array Oper) (l : List Oper) (k : List Item) (σ : Env) (w : World) : Prop :=
  ∀ is : List Nat, is.map (ops[·]?) = l.map some → Run P f N R (.inRegion ops is :: k) σ w
theorem range_getElem? (ops : Array Oper) : (List.range ops.size).map (ops[·]?) = ops.toList.map some := by
 apply List.ext_getElem?
 intro i
 simp only [List.getElem?_map]
 rcases Nat.lt_or_ge i ops.size with h | h
 · simp [List.getElem?_range h, Array.getElem?_eq_getElem h]
 · simp [h]
theorem run_region {id : Nat} {l : List Oper} (h : Ops P f N R l.toArray l k σ w) : Run P f N R (.code (.region id l.toArray false) :: k) σ w :=
  run_steps (fun _ _ => step_region) (h _ (by rw [range_getElem?]))
theorem ops_nil {ops : Array Oper} (h : Run P f N R k σ w) : Ops P f N R ops [] k σ w := by
 intro is hi
 have : is = [] := by simpa using hi
 subst this
 exact run_steps (fun _ _ => step_region_end) h
theorem ops_split {ops : Array Oper} {o : Oper} {rest : List Oper} (h : ∀ (i : Nat) (is : List Nat), ops[i]? = some o → is.map (ops[·]?) = rest.map some → Run P f N R (.inRegion ops (i :: is) :: k) σ w) :
    Ops P f N R ops (o :: rest) k σ w := by
  intro is hi
  cases is with
  | nil => cases hi
  | cons i is =>
    simp only [List.map_cons, List.cons.injEq] at hi
    exact h i is hi.1 hi.2
def XV (P : Program) (N : Nat) (σ : Env) (o : Oper) (w : World) (v : Value) (w' : World) : Prop :=
  ∀ a, Fits N σ a → (execOp a.eval o).run P w = .ok (.value v) w'
def XS (P : Program) (N : Nat) (σ : Env) (o : Oper) (w w' : World) : Prop :=
  ∀ a, Fits N σ a → (execOp a.eval o).run P w = .ok .skip w'
def XC (P : Program) (N : Nat) (σ : Env) (o : Oper) (w : World) (g : FuncId) (l : List Value) : Prop :=
  ∀ a, Fits N σ a → (execOp a.eval o).run P w = .ok (.enter g l.toArray) w
theorem finish_region {i : Nat} {rest : List Nat} {ops : Array Oper} {o : Oper} (ho : ops[i]? = some o) (b : Frame) (a : Act) (v : Value) :
    (b.at a (.inRegion ops (i :: rest) :: k)).finish v = b.at (a.put o.dst v) (.inRegion ops rest :: k) := by
  rw [Frame.finish_at, ho]; rfl
theorem ov {ops : Array Oper} {o : Oper} {rest : List Oper} {d : Nat} {v : Value} {w' : World} (hx : XV P N σ o w v w') (hg : wantedE ops σ o = some true) (hd : o.dst = some d) (hN : Nat.blt d N = true)
    (h : Ops P f N R ops rest k ((d, v) :: σ) w') : Ops P f N R ops (o :: rest) k σ w := by
  refine ops_split fun i is ho hi a ha cs => ?_
  obtain ⟨e, w2, fr, hR, hc, hr⟩ := h is hi _ (ha.put hN v) cs
  refine ⟨e, w2, fr, hR, Comes.of_steps (.one (step_lone_go ?_)) hc, hr⟩
  rw [stepG_op ho (wanted_of hg ha), ← hd, ← finish_region ho]
  simp [stepG.apply, hx a ha]
theorem osk {ops : Array Oper} {o : Oper} {rest : List Oper} {w' : World} (hx : XS P N σ o w w') (hg : wantedE ops σ o = some true) (hd : o.dst = none)
    (h : Ops P f N R ops rest k σ w') : Ops P f N R ops (o :: rest) k σ w := by
  refine ops_split fun i is ho hi a ha cs => ?_
  obtain ⟨e, w2, fr, hR, hc, hr⟩ := h is hi _ ha cs
  refine ⟨e, w2, fr, hR, Comes.of_steps (.one (step_lone_go ?_)) hc, hr⟩
  have e1 : a = a.put o.dst undef := by rw [hd]; rfl
  rw [stepG_op ho (wanted_of hg ha)]
  have e2 := finish_region (k := k) (rest := is) ho (fbase f) a undef
  rw [← e1] at e2
  rw [← e2]
  simp [stepG.apply, hx a ha]
theorem og {ops : Array Oper} {o : Oper} {rest : List Oper} {d : Nat} (hg : wantedE ops σ o = some false) (hd : o.dst = some d) (hN : Nat.blt d N = true)
    (h : Ops P f N R ops rest k ((d, undef) :: σ) w) : Ops P f N R ops (o :: rest) k σ w := by
  refine ops_split fun i is ho hi a ha cs => ?_
  obtain ⟨e, w2, fr, hR, hc, hr⟩ := h is hi _ (ha.put hN undef) cs
  refine ⟨e, w2, fr, hR, Comes.of_steps (.one ?_) hc, hr⟩
  have := step_op_skip (P := P) (b := fbase f) (a := a) (k := k) (cs := cs) (w := w) (ops := ops) (i := i) (rest := is) (by simp [ho, wanted_of hg ha])
  rw [this, ho, Option.bind_some, hd]
def Ret (P : Program) (g : FuncId) (l : List Value) (w : World) (Φ : Value → World → Prop) : Prop :=
  Calls P g l.toArray w fun e w' => ∃ v, e = .returned v ∧ Φ v w'
theorem Ret.mono {g : FuncId} {l : List Value} {Φ Ψ : Value → World → Prop} (h : Ret P g l w Φ) (hm : ∀ v w', Φ v w' → Ψ v w') : Ret P g l w Ψ :=
  Calls.mono h fun e w' ⟨v, he, hv⟩ => ⟨v, he, hm v w' hv⟩
def RetR (Φ : Value → World → Prop) : Ending → World → Prop := fun e w' => ∃ v, e = .returned v ∧ Φ v w'
theorem ret_of_run {fn : Func} {c : Code} {l : List Value} {Φ : Value → World → Prop}
    (hf : P.funcs[f]? = some fn) (hb : fn.body = some c) (hN : fn.ntmps = N) (hl : Nat.ble l.length N = true)
    (h : Run P f N (RetR Φ) [.code c] (args0 0 l) w) : Ret P f l w Φ := calls_of_run hf hb hN hl h
theorem steps_call {g : FuncId} {l : List Value} {Φ : Value → World → Prop} {ops : Array Oper} {i : Nat} {o : Oper} {is : List Nat} {a : Act} (cs : List Frame)
    (ho : ops[i]? = some o) (hw : Region.wanted o (yielded ops a.tmps) = true) (hx : (execOp a.eval o).run P w = .ok (.enter g l.toArray) w) (hc : Ret P g l w Φ) :
    ∃ v w', Φ v w' ∧ Steps P (lone ((fbase f).at a (.inRegion ops (i :: is) :: k)) cs w) (lone ((fbase f).at (a.put o.dst v) (.inRegion ops is :: k)) cs w') := by
  obtain ⟨e, w2, fr, ⟨v, he, hΦ⟩, hsteps, _, hleave⟩ := hc ((fbase f).at a (.inRegion ops (i :: is) :: k) :: cs)
  subst he
  have hg := stepG_op (P := P) (b := fbase f) (k := k) (cs := cs) (w := w) (rest := is) ho hw
  have henter : step P (lone ((fbase f).at a (.inRegion ops (i :: is) :: k)) cs w) =
      .next (lone (Frame.enter P g l.toArray .normal) ((fbase f).at a (.inRegion ops (i :: is) :: k) :: cs) w) :=
    step_lone_go (by rw [hg]; simp [stepG.apply, hx, Frame.at])
  refine ⟨v, w2, hΦ, .head henter (Steps.trans hsteps (.one ?_))⟩
  rw [← finish_region ho]; exact step_leave_returned hleave
theorem oc {ops : Array Oper} {o : Oper} {rest : List Oper} {d : Nat} {g : FuncId} {l : List Value} {Φ : Value → World → Prop} (hx : XC P N σ o w g l) (hg : wantedE ops σ o = some true)
    (hd : o.dst = some d) (hN : Nat.blt d N = true) (hc : Ret P g l w Φ)
    (h : ∀ v w', Φ v w' → Ops P f N R ops rest k ((d, v) :: σ) w') : Ops P f N R ops (o :: rest) k σ w := by
  refine ops_split fun i is ho hi a ha cs => ?_
  obtain ⟨v, w1, hΦ, hs⟩ := steps_call (k := k) (is := is) (f := f) cs ho (wanted_of hg ha) (hx a ha) hc
  obtain ⟨e, w2, fr, hR, hc', hr⟩ := h v w1 hΦ is hi _ (ha.put hN v) cs
  rw [hd] at hs
  exact ⟨e, w2, fr, hR, Comes.of_steps hs hc', hr⟩
abbrev Ext (w w' : World) : Prop := Below w.heap.size w w'
theorem Ext.refl (w : World) : Ext w w := Below.refl _ _
theorem Ext.trans {a b c : World} (h : Ext a b) (k : Ext b c) : Ext a c := Below.trans h (k.mono h.size)
theorem Ext.drew (w : World) : Ext w { w with drawn := w.drawn + 1 } := Below.drew (Below.refl _ _)
def QOps (P : Program) (N : Nat) (ops : Array Oper) (C : World → Prop) (l : List Oper) (σ : Env) (X : Act → World → Prop) : Prop :=
  ∀ a, Fits N σ a → wpQuiet P ops C (fun a' => ∀ w', C w' → X a' w') l a
def After (P : Program) (f : FuncId) (N : Nat) (R : Ending → World → Prop) (k : List Item) : Act → World → Prop := fun a w =>
  ∀ cs : List Frame, ∃ e w' fr, R e w' ∧ Comes P (lone ((fbase f).at a k) cs w) (lone fr cs w') e ∧ fr.fn = f ∧ fr.leaving P w' e
theorem run_of_wp {c : Code} (h : ∀ a, Fits N σ a → c.wp P (fun e a' w' => e = .normal ∧ After P f N R k a' w') a w) : Run P f N R (.code c :: k) σ w := by
 intro a ha cs
 obtain ⟨e, a', w', ⟨he, hX⟩, harr⟩ := h a ha (fbase f) k cs
 subst he
 obtain ⟨e, w2, fr, hR, hc, hr⟩ := hX cs
 exact ⟨e, w2, fr, hR, Comes.of_steps harr hc, hr⟩
theorem wpQuiet_mono {ops : Array Oper} {C : World → Prop} {Q Q' : Act → Prop} (hq : ∀ a, Q a → Q' a) : ∀ (l : List Oper) (a : Act), wpQuiet P ops C Q l a → wpQuiet P ops C Q' l a
  | [], a, h => hq a h
  | o :: r, a, h => by
    unfold wpQuiet at h ⊢
    split
    · rename_i hw; rw [if_pos hw] at h; exact Oper.quiet_mono (wpQuiet_mono hq r) h
    · rename_i hw; rw [if_neg hw] at h; exact wpQuiet_mono hq r _ h
theorem run_draw {id : Nat} {l : List Oper} (hm : P.follows .mixedOrders = true) (hB : Region.lexB .any l.toArray = true)
    (h : QOps P N l.toArray (Ext w) l σ (After P f N R k)) : Run P f N R (.code (.region id l.toArray true) :: k) σ w :=
  run_of_wp fun a ha => wp_region_quiet (C := Ext w) (Q := fun e a' w' => e = .normal ∧ After P f N R k a' w') hm hB (Ext.drew w)
    (wpQuiet_mono (fun _ h w' hw => ⟨rfl, h w' hw⟩) _ _ (h a ha))
section
variable {ops : Array Oper} {rest : List Oper} {o : Oper} {d : Nat} {v : Value}
theorem q_nil (h : ∀ w', Ext w w' → Run P f N R k σ w') : QOps P N ops (Ext w) [] σ (After P f N R k) := fun a ha w' hw' cs => h w' hw' a ha cs
theorem qv {X : Act → World → Prop} (hx : ∀ w', Ext w w' → XV P N σ o w' v w') (hg : wantedE ops σ o = some true) (hd : o.dst = some d) (hN : Nat.blt d N = true)
    (h : QOps P N ops (Ext w) rest ((d, v) :: σ) X) : QOps P N ops (Ext w) (o :: rest) σ X := by
  intro a ha
  simp only [wpQuiet, wanted_of hg ha, if_true]
  refine ⟨v, fun w' hw' => ?_, by rw [hd]; exact h _ (ha.put hN v)⟩
  unfold Oper.quietAt
  rw [hx w' hw' a ha]
  exact ⟨rfl, rfl⟩
theorem qg {X : Act → World → Prop} (hg : wantedE ops σ o = some false) (hd : o.dst = some d) (hN : Nat.blt d N = true)
    (h : QOps P N ops (Ext w) rest ((d, undef) :: σ) X) : QOps P N ops (Ext w) (o :: rest) σ X := by
  intro a ha
  simp only [wpQuiet, wanted_of hg ha]
  simp only [Bool.false_eq_true, if_false, hd]
  exact h _ (ha.put hN undef)
theorem qc {X : Act → World → Prop} {g : FuncId} {l : List Value} (hx : ∀ w', XC P N σ o w' g l) (hg : wantedE ops σ o = some true) (hd : o.dst = some d) (hN : Nat.blt d N = true)
    (hc : ∀ w', Ext w w' → Ret P g l w' (fun v' w'' => v' = v ∧ Ext w' w''))
    (h : QOps P N ops (Ext w) rest ((d, v) :: σ) X) : QOps P N ops (Ext w) (o :: rest) σ X := by
  intro a ha
  simp only [wpQuiet, wanted_of hg ha, if_true]
  refine ⟨v, fun w' hw' => ?_, by rw [hd]; exact h _ (ha.put hN v)⟩
  unfold Oper.quietAt
  rw [hx w' a ha]
  refine ⟨rfl, Calls.mono (hc w' hw') fun e w'' he => ?_⟩
  obtain ⟨v', he, hv, hext⟩ := he
  subst hv
  exact ⟨he, hw'.trans hext⟩
end
end
end Go.Proofs.YtchblgaklknkcaaGreat

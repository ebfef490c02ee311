/-
  Regions that draw their order: each operation is shown once, from what those that it waits for have left; the operations at the end that wait for all others come up in their order. No condition beyond those written in each law.
-/
import Derived.Test.YtchblgaklknkcaaGreatTail
namespace Go.Proofs.YtchblgaklknkcaaGreat
open Go.RowKit
set_option linter.unusedVariables false
set_option linter.unusedSimpArgs false
set_option linter.unusedSectionVars false
theorem Mk.cells {lo hi b o : Nat} {w w' : World} {cs : List Value} (m : Mk lo hi w w') (h : Cells w b o cs) (hn : ¬ (lo ≤ b ∧ b < hi)) : Cells w' b o cs := by
 intro j v hv
 have hb : b < w.heap.size := h.block_lt (by intro hc; rw [hc] at hv; cases hv)
 rw [World.cell?_of_block (w := w) (m.block b hb hn)]; exact h j v hv
theorem Sl.off {α : Type} {enc : α → List Value} {sz lo hi : Nat} {w w' : World} {p : Option Addr} {n c : Nat} {xs : List α} (h : Sl enc sz w p n c xs) (m : Mk lo hi w w') (hn : ¬ (lo ≤ pb p ∧ pb p < hi)) : Sl enc sz w' p n c xs :=
  ⟨h.len, h.cap, h.big, h.ptr, fun i hi => m.cells (h.el i hi) hn, h.nil⟩
def rgDst (ops : Array Oper) (i : Nat) : Option Nat := (ops[i]?).bind (·.dst)
def rgOwn (ops : Array Oper) (m N : Nat) : Bool := (List.range m).all fun i => match rgDst ops i with
  | none => true
  | some d => Nat.blt d N && (List.range m).all fun j => j == i || rgDst ops j != some d
def rgFree (σ : Env) : List Nat → Bool
  | [] => true
  | d :: r => (look σ d).isNone && rgFree σ r
def rgBack (ops : Array Oper) : Bool := (List.range ops.size).all fun i => match ops[i]? with
  | none => true
  | some o => o.after.all fun e => !Region.binds .any e || Nat.blt e.on i
def rgListed (ops : Array Oper) (m : Nat) : Array Bool := (List.replicate m true ++ List.replicate (ops.size - m) false).toArray
def rgSeq (ops : Array Oper) (m : Nat) : Bool :=
  (Nat.ble ops.size m || (Region.sinkB .any ops m && Region.chainB .any ops m)) && (Nat.ble m ops.size && Region.seqB .any ops (ops.size - m) m (rgListed ops m))
def rgDeps (ops : Array Oper) (m : Nat) (o : Oper) (D : List (Nat × Option Nat)) : Bool :=
  D.all fun p => Nat.blt p.1 m && (rgDst ops p.1 == p.2 && o.after.any fun e => Region.binds .any e && e.on == p.1)
def rgAll (ops : Array Oper) (m : Nat) (D : List (Nat × Option Nat)) : Bool := D.all fun p => Nat.blt p.1 m && rgDst ops p.1 == p.2
structure RGInv (ops : Array Oper) (σ : Env) (N : Nat) (I : World → Prop) (G : Nat → Value → World → Prop) (m : Nat) (listed : Array Bool) (a : Act) (w : World) : Prop where
  head : HeadInv .any ops m listed
  inv : I w
  base : Fits N σ a
  got : ∀ i, i < m → listed.getD i false = true → ∃ v, (∀ d, rgDst ops i = some d → a.tmps[d]? = some v) ∧ G i v w
def Have (G : Nat → Value → World → Prop) (w : World) : List (Nat × Option Nat) → Env → (Env → Prop) → Prop
  | [], σ, X => X σ
  | (i, some d) :: r, σ, X => ∀ v, G i v w → Have G w r ((d, v) :: σ) X
  | (i, none) :: r, σ, X => ∀ v, G i v w → Have G w r σ X
section
variable {P : Program} {f : FuncId} {N : Nat} {R : Ending → World → Prop} {k : List Item} {σ τ : Env} {w w' : World} {ops : Array Oper} {m : Nat} {I : World → Prop} {Rl : World → World → Prop} {Rls : Nat → World → World → Prop} {G : Nat → Value → World → Prop} {Gi : Value → World → Prop} {o : Oper} {v : Value} {listed : Array Bool} {a : Act}
theorem have_of (h : RGInv ops σ N I G m listed a w) {X : Env → Prop} : ∀ (D : List (Nat × Option Nat)) (τ : Env), (∀ p ∈ D, p.1 < m ∧ listed.getD p.1 false = true ∧ rgDst ops p.1 = p.2) → Fits N τ a → Have G w D τ X → ∃ τ', Fits N τ' a ∧ X τ'
  | [], τ, _, hf, hX => ⟨τ, hf, hX⟩
  | (i, some d) :: r, τ, hD, hf, hX => by
    obtain ⟨h1, h2, h3⟩ := hD _ List.mem_cons_self
    obtain ⟨v, hv, hg⟩ := h.got i h1 h2
    have hv := hv d h3
    refine have_of h r ((d, v) :: τ) (fun p hp => hD p (List.mem_cons_of_mem _ hp)) ⟨hf.size, hf.defers, fun k u hk => ?_⟩ (hX v hg)
    rw [look_cons] at hk
    split at hk
    · rename_i he; subst he; rw [hv]; exact hk
    · exact hf.tmp k u hk
  | (i, none) :: r, τ, hD, hf, hX => by
    obtain ⟨h1, h2, h3⟩ := hD _ List.mem_cons_self
    obtain ⟨v, hv, hg⟩ := h.got i h1 h2
    exact have_of h r τ (fun p hp => hD p (List.mem_cons_of_mem _ hp)) hf (hX v hg)
def RGStep (P : Program) (N : Nat) (ops : Array Oper) (I : World → Prop) (Rl : World → World → Prop) (Gi : Value → World → Prop) (o : Oper) (w : World) (τ : Env) : Prop :=
  ∀ a, Fits N τ a → ∀ (f : FuncId) (R : Ending → World → Prop) (k : List Item) (i : Nat) (is : List Nat), ops[i]? = some o →
    (∀ v w', I w' → Rl w w' → Gi v w' → After P f N R (.inRegion ops is :: k) (a.put o.dst v) w') → After P f N R (.inRegion ops (i :: is) :: k) a w
theorem rg_val (hx : XV P N τ o w v w') (hg : wantedE ops τ o = some true) (hI : I w') (hR : Rl w w') (hG : Gi v w') : RGStep P N ops I Rl Gi o w τ := fun a ha f R k i is ho h cs => by
  obtain ⟨e, w2, fr, hR', hc, hr⟩ := h v w' hI hR hG cs
  refine ⟨e, w2, fr, hR', Comes.of_steps (.one (step_lone_go ?_)) hc, hr⟩
  rw [stepG_op ho (wanted_of hg ha), ← finish_region ho]
  simp [stepG.apply, hx a ha]
theorem rg_skip (hx : XS P N τ o w w') (hg : wantedE ops τ o = some true) (hI : I w') (hR : Rl w w') (hG : Gi undef w') : RGStep P N ops I Rl Gi o w τ := fun a ha f R k i is ho h cs => by
  obtain ⟨e, w2, fr, hR', hc, hr⟩ := h undef w' hI hR hG cs
  refine ⟨e, w2, fr, hR', Comes.of_steps (.one (step_lone_go ?_)) hc, hr⟩
  rw [stepG_op ho (wanted_of hg ha), ← finish_region ho]
  simp [stepG.apply, hx a ha]
theorem rg_call {g : FuncId} {l : List Value} {Φ : Value → World → Prop} (hx : XC P N τ o w g l) (hg : wantedE ops τ o = some true) (hc : Ret P g l w Φ) (h : ∀ v w', Φ v w' → I w' ∧ Rl w w' ∧ Gi v w') :
    RGStep P N ops I Rl Gi o w τ := fun a ha f R k i is ho hk cs => by
  obtain ⟨v, w1, hΦ, hs⟩ := steps_call (k := k) (is := is) (f := f) cs ho (wanted_of hg ha) (hx a ha) hc
  obtain ⟨h1, h2, h3⟩ := h v w1 hΦ
  obtain ⟨e, w2, fr, hR, hc', hr⟩ := hk v w1 h1 h2 h3 cs
  exact ⟨e, w2, fr, hR, Comes.of_steps hs hc', hr⟩
def RGAll (P : Program) (N : Nat) (ops : Array Oper) (σ : Env) (I : World → Prop) (Rls : Nat → World → World → Prop) (G : Nat → Value → World → Prop) (m : Nat) : Nat → List Oper → Prop
  | _, [] => True
  | i, o :: r => (∃ D, rgDeps ops m o D = true ∧ ∀ w, I w → Have G w D σ (RGStep P N ops I (Rls i) (G i) o w)) ∧ RGAll P N ops σ I Rls G m (i + 1) r
theorem rga {i : Nat} {r : List Oper} (D : List (Nat × Option Nat)) (h : rgDeps ops m o D = true) (hs : ∀ w, I w → Have G w D σ (RGStep P N ops I (Rls i) (G i) o w)) (hr : RGAll P N ops σ I Rls G m (i + 1) r) :
    RGAll P N ops σ I Rls G m i (o :: r) := ⟨⟨D, h, hs⟩, hr⟩
theorem rga_nil {i : Nat} : RGAll P N ops σ I Rls G m i [] := trivial
theorem rga_at : ∀ (l : List Oper) (i j : Nat), RGAll P N ops σ I Rls G m i l → l[j]? = some o → ∃ D, rgDeps ops m o D = true ∧ ∀ w, I w → Have G w D σ (RGStep P N ops I (Rls (i + j)) (G (i + j)) o w)
  | [], _, _, _, h => by cases h
  | x :: r, i, 0, h, hj => by
    have : x = o := by simpa using hj
    subst this; exact h.1
  | x :: r, i, j + 1, h, hj => by
    have := rga_at r (i + 1) j h.2 (by simpa using hj)
    rwa [show i + 1 + j = i + (j + 1) by omega] at this
theorem lin_seq : ∀ (g t k : Nat) (listed : Array Bool), Region.seqB .any ops g k listed = true → Region.linearise.go .any ops g t listed [] = List.range' k g
  | 0, t, k, listed, _ => by simp [Region.linearise.go]
  | g + 1, t, k, listed, h => by
    simp only [Region.seqB, Bool.and_eq_true, decide_eq_true_eq] at h
    simp only [Region.linearise.go]
    change (match (Region.ready .any ops listed)[t % (Region.ready .any ops listed).length]? with
      | some i => Region.linearise.go .any ops g (t / (Region.ready .any ops listed).length) (listed.setIfInBounds i true) [i]
      | none => [].reverse) = _
    rw [h.1]
    simp only [List.length_singleton, Nat.mod_one, List.getElem?_cons_zero]
    rw [linearise_go_acc, lin_seq g _ (k + 1) _ h.2, List.range'_succ]; rfl
theorem rg_some (hback : rgBack ops = true) (hm : m ≤ ops.size) (inv : HeadInv .any ops m listed) : ∀ i, i < m → listed.getD i true = false → ∃ j, j ∈ Region.ready .any ops listed := by
 intro i
 induction i using Nat.strongRecOn with
 | _ i ih =>
   intro hi hun
   have hlt : i < ops.size := by omega
   by_cases h : ∀ e ∈ (ops[i]).after, Region.binds .any e = true → listed.getD e.on false = true
   · exact ⟨i, mem_ready.2 ⟨hun, ops[i], Array.getElem?_eq_getElem hlt, h⟩⟩
   · simp only [Classical.not_forall] at h
     obtain ⟨e, he, hb, hl⟩ := h
     have h1 := List.all_eq_true.1 hback i (List.mem_range.2 hlt)
     rw [Array.getElem?_eq_getElem hlt] at h1
     have h2 := Array.all_eq_true_iff_forall_mem.1 h1 e he
     simp only [hb, Bool.not_true, Bool.false_or, Nat.blt_eq] at h2
     refine ih e.on h2 (by omega) (getD_in (by rw [inv.size]; omega) ?_)
     simpa using hl
theorem rg_lt (hs : (Nat.ble ops.size m || (Region.sinkB .any ops m && Region.chainB .any ops m)) = true) (inv : HeadInv .any ops m listed) {u t : Nat} (hu : u < m) (hun : listed.getD u true = false) (ht : t ∈ Region.ready .any ops listed) : t < m := by
 obtain ⟨_, ot, hot, _⟩ := mem_ready.1 ht
 have htlt := (Array.getElem?_eq_some_iff.1 hot).1
 simp only [Bool.or_eq_true, Nat.ble_eq, Bool.and_eq_true] at hs
 rcases Nat.lt_or_ge t m with h | h
 · exact h
 · rcases hs with hs | hs
   · omega
   · exact absurd ht (tail_waits hs.1 hs.2 (by omega) inv _ u rfl hu hun t h)
theorem rg_full (inv : HeadInv .any ops m listed) (hm : m ≤ ops.size) (h : ∀ i, i < m → listed.getD i false = true) : listed = rgListed ops m := by
 apply Array.ext
 · simp only [rgListed, inv.size, List.size_toArray, List.length_append, List.length_replicate]; omega
 · intro j h1 h2
   have hjs : j < ops.size := by rw [← inv.size]; exact h1
   simp only [rgListed, List.getElem_toArray, List.getElem_append, List.length_replicate, List.getElem_replicate]
   split
   · rename_i hj
     have := h j hj
     simpa [h1] using this
   · rename_i hj
     have := inv.tail j (by omega) hjs
     simpa [h1] using this
theorem put_ne {d d' : Nat} (h : d ≠ d') : (a.put (some d) v).tmps[d']? = a.tmps[d']? := by
 simp [Act.put, Array.getElem?_setIfInBounds_ne h]
theorem RGInv.put (hok : rgOwn ops m N = true) (hfree : ∀ i, i < m → ∀ d, rgDst ops i = some d → look σ d = none) (inv : RGInv ops σ N I G m listed a w) {i : Nat} (hi : i ∈ Region.ready .any ops listed) (him : i < m) (ho : ops[i]? = some o)
    (hI : I w') (hG : G i v w') (hst : ∀ j, j < m → i ≠ j → ∀ v, G j v w → G j v w') : RGInv ops σ N I G m (listed.setIfInBounds i true) (a.put o.dst v) w' := by
  have hdst : rgDst ops i = o.dst := by simp [rgDst, ho]
  have hokI : ∀ d, o.dst = some d → Nat.blt d N = true ∧ ∀ j, j < m → j ≠ i → rgDst ops j ≠ some d := fun d hd => by
    have h1 := List.all_eq_true.1 hok i (List.mem_range.2 him)
    rw [hdst, hd] at h1
    simp only [Bool.and_eq_true] at h1
    refine ⟨h1.1, fun j hj hne => ?_⟩
    have h2 := List.all_eq_true.1 h1.2 j (List.mem_range.2 hj)
    simp only [Bool.or_eq_true, beq_iff_eq, hne, false_or, bne_iff_ne, ne_eq] at h2
    exact h2
  refine ⟨inv.head.set hi him, hI, ?_, fun j hj hl => ?_⟩
  · cases hd : o.dst with
    | none => exact inv.base
    | some d =>
      have hp := inv.base.put (hokI d hd).1 v
      have hn := hfree i him d (by rw [hdst, hd])
      refine ⟨hp.size, hp.defers, fun k u hk => hp.tmp k u ?_⟩
      rw [look_cons, if_neg (by rintro rfl; rw [hn] at hk; cases hk)]; exact hk
  · by_cases hji : j = i
    · subst hji
      refine ⟨v, fun d hd => ?_, hG⟩
      rw [hdst] at hd
      rw [hd]
      exact (inv.base.put (hokI d hd).1 v).tmp d v (by rw [look_cons, if_pos rfl])
    · rw [getD_set_ne false (Ne.symm hji)] at hl
      obtain ⟨u, hu, hg⟩ := inv.got j hj hl
      refine ⟨u, fun d hd => ?_, hst j hj (Ne.symm hji) u hg⟩
      cases hd' : o.dst with
      | none => exact hu d hd
      | some d' =>
        rw [put_ne (fun h => (hokI d' hd').2 j hj hji (by rw [h]; exact hd))]
        exact hu d hd
theorem rg_lin (hok : rgOwn ops m N = true) (hfree : ∀ i, i < m → ∀ d, rgDst ops i = some d → look σ d = none) (hback : rgBack ops = true) (hseq : rgSeq ops m = true)
    (hst : ∀ i j, i < m → j < m → i ≠ j → ∀ v w w', I w → I w' → Rls i w w' → G j v w → G j v w')
    (hops : ∀ i o, i < m → ops[i]? = some o → ∃ D, rgDeps ops m o D = true ∧ ∀ w, I w → Have G w D σ (RGStep P N ops I (Rls i) (G i) o w))
    (hend : ∀ a w, RGInv ops σ N I G m (rgListed ops m) a w → After P f N R (.inRegion ops (List.range' m (ops.size - m)) :: k) a w) :
    ∀ (n : Nat) (U : List Nat), U.length = n → U.Nodup → (∀ i ∈ U, i < m) → ∀ (t : Nat) (listed : Array Bool) (a : Act) (w : World), (∀ i, i < m → (listed.getD i false = false ↔ i ∈ U)) → RGInv ops σ N I G m listed a w →
    After P f N R (.inRegion ops (Region.linearise.go .any ops (n + (ops.size - m)) t listed []) :: k) a w := by
  simp only [rgSeq, Bool.and_eq_true, Nat.ble_eq] at hseq
  obtain ⟨hs, hm, hq⟩ := hseq
  intro n
  induction n with
  | zero =>
    intro U hU _ _ t listed a w hl inv
    have hU0 : U = [] := List.length_eq_zero_iff.1 hU
    subst hU0
    have hfull := rg_full inv.head hm (fun i hi => by
      cases h : listed.getD i false with
      | true => rfl
      | false => have := (hl i hi).1 h; cases this)
    subst hfull
    rw [Nat.zero_add, lin_seq _ t m _ hq]
    exact hend a w inv
  | succ n ih =>
    intro U hU hnd hlt t listed a w hl inv
    obtain ⟨u, hu⟩ : ∃ u, u ∈ U := by
      cases U with
      | nil => cases hU
      | cons x r => exact ⟨x, List.mem_cons_self⟩
    have hum := hlt u hu
    have hun : listed.getD u true = false := getD_in (by rw [inv.head.size]; omega) ((hl u hum).2 hu)
    obtain ⟨j0, hj0⟩ := rg_some hback hm inv.head u hum hun
    rw [show n + 1 + (ops.size - m) = (n + (ops.size - m)) + 1 by omega]
    simp only [Region.linearise.go]
    change After P f N R (.inRegion ops (match (Region.ready .any ops listed)[t % (Region.ready .any ops listed).length]? with
      | some i => Region.linearise.go .any ops (n + (ops.size - m)) (t / (Region.ready .any ops listed).length) (listed.setIfInBounds i true) [i]
      | none => [].reverse) :: k) a w
    cases hi : (Region.ready .any ops listed)[t % (Region.ready .any ops listed).length]? with
    | none =>
      have hpos : 0 < (Region.ready .any ops listed).length := List.length_pos_of_mem hj0
      have hlt2 := Nat.mod_lt t hpos
      rw [List.getElem?_eq_getElem hlt2] at hi
      cases hi
    | some i =>
      have hmem : i ∈ Region.ready .any ops listed := List.mem_of_getElem? hi
      have him := rg_lt hs inv.head hum hun hmem
      obtain ⟨hiun, oi, hoi, hall⟩ := mem_ready.1 hmem
      have hiU : i ∈ U := (hl i him).1 (getD_both hiun)
      obtain ⟨D, hD, hstep⟩ := hops i oi him hoi
      simp only []
      rw [linearise_go_acc, List.reverse_singleton, List.singleton_append]
      obtain ⟨τ, hτ, hX⟩ := have_of inv D σ (fun p hp => by
        have h1 := List.all_eq_true.1 hD p hp
        simp only [Bool.and_eq_true, Nat.blt_eq, beq_iff_eq] at h1
        obtain ⟨e, he, hb⟩ := Array.any_eq_true'.1 h1.2.2
        simp only [Bool.and_eq_true, beq_iff_eq] at hb
        exact ⟨h1.1, by rw [← hb.2]; exact hall e he hb.1, h1.2.1⟩) inv.base (hstep w inv.inv)
      refine hX a hτ f R k i _ hoi fun v w' hI hR hG => ?_
      refine ih (U.erase i) (by rw [List.length_erase_of_mem hiU]; omega) (hnd.erase i) (fun x hx => hlt x (List.mem_of_mem_erase hx)) _ _ _ _ (fun x hx => ?_)
        (inv.put hok hfree hmem him hoi hI hG fun j hj hne v hg => hst i j him hj hne v w w' inv.inv hI hR hg)
      rw [hnd.mem_erase_iff]
      by_cases hxi : x = i
      · subst hxi
        have : (listed.setIfInBounds x true).getD x false = true := by
          have : x < listed.size := by rw [inv.head.size]; omega
          simp [this]
        simp [this]
      · rw [getD_set_ne false (Ne.symm hxi), hl x hx]; simp [hxi]
theorem rgFree_spec {ds : List Nat} (h : rgFree σ ds = true) {d : Nat} (hd : d ∈ ds) : look σ d = none := by
 induction ds with
 | nil => cases hd
 | cons x r ih =>
   simp only [rgFree, Bool.and_eq_true, Option.isNone_iff_eq_none] at h
   rcases List.mem_cons.1 hd with rfl | hd
   · exact h.1
   · exact ih h.2 hd
theorem run_rg {id : Nat} {l : List Oper} (m : Nat) (ds : List Nat) (I : World → Prop) (Rls : Nat → World → World → Prop) (G : Nat → Value → World → Prop) (D : List (Nat × Option Nat))
    (hm : P.follows .mixedOrders = true) (hok : rgOwn l.toArray m N = true) (hds : (List.range m).filterMap (rgDst l.toArray) = ds) (hback : rgBack l.toArray = true) (hseq : rgSeq l.toArray m = true) (hD : rgAll l.toArray m D = true)
    (hsub : sub τ σ) (hfree : rgFree τ ds = true)
    (h0 : ∀ w', Ext w w' → w'.heap.size = w.heap.size → I w')
    (hst : ∀ i j, i < m → j < m → i ≠ j → ∀ v w w', I w → I w' → Rls i w w' → G j v w → G j v w')
    (hops : RGAll P N l.toArray τ I Rls G m 0 (l.take m))
    (hend : ∀ w', I w' → Have G w' D τ (fun τ' => Ops P f N R l.toArray (l.drop m) k τ' w')) : Run P f N R (.code (.region id l.toArray true) :: k) σ w := by
  intro a ha cs
  have hseq' := hseq
  simp only [rgSeq, Bool.and_eq_true, Nat.ble_eq] at hseq'
  have hmle : m ≤ l.length := by simpa using hseq'.2.1
  have key := rg_lin (P := P) (f := f) (R := R) (k := k) (σ := τ) (I := I) (Rls := Rls) (G := G) hok (fun i hi d hd => rgFree_spec hfree (by
      rw [← hds]; exact List.mem_filterMap.2 ⟨i, List.mem_range.2 hi, hd⟩)) hback hseq hst
    (fun i o hi ho => by
      have := rga_at (l.take m) 0 i hops (o := o) (by rw [List.getElem?_take, if_pos hi]; simpa using ho)
      rwa [Nat.zero_add] at this)
    (fun a w inv => by
      obtain ⟨τ', hτ, hX⟩ := have_of inv D τ (fun p hp => by
        have h1 := List.all_eq_true.1 hD p hp
        simp only [Bool.and_eq_true, Nat.blt_eq, beq_iff_eq] at h1
        refine ⟨h1.1, ?_, h1.2⟩
        have : p.1 < l.length := by omega
        simp [rgListed, List.getElem?_append, h1.1]) inv.base (hend w inv.inv)
      refine hX (List.range' m (l.toArray.size - m)) ?_ a hτ
      apply List.ext_getElem?
      intro j
      simp only [List.getElem?_map, List.size_toArray, List.getElem?_drop, List.getElem?_toArray]
      rcases Nat.lt_or_ge j (l.length - m) with hj | hj
      · rw [List.getElem?_range' hj]; simp [List.getElem?_eq_getElem (show m + j < l.length by omega)]
      · rw [List.getElem?_eq_none (by simpa using hj), List.getElem?_eq_none (l := l) (by omega)]; rfl)
    m (List.range m) (by simp) List.nodup_range (fun i hi => List.mem_range.1 hi) (w.tape w.drawn (.order (fbase f).fn id)) (Array.replicate l.toArray.size false) a { w with drawn := w.drawn + 1 }
    (fun i hi => by rw [getD_replicate_false]; simp [hi])
    ⟨⟨by simp, fun j oj _ hl => (by rw [getD_replicate_false] at hl; cases hl), fun t _ ht => getD_in (by simpa using ht) (getD_replicate_false _ _)⟩, h0 _ (Ext.drew w) rfl, ha.sub hsub, fun i _ hl => by rw [getD_replicate_false] at hl; cases hl⟩
  obtain ⟨e, w2, fr, hR, hc, hr⟩ := key cs
  refine ⟨e, w2, fr, hR, Comes.of_steps (.one step_region_draw) ?_, hr⟩
  have hsz : m + (l.toArray.size - m) = l.toArray.size := by simp; omega
  rw [hsz] at hc
  simp only [Region.schedule, hm, Bool.true_or, if_true]
  exact hc
end
section
variable {P : Program} {N : Nat} {τ : Env} {w : World} {ops : Array Oper} {I : World → Prop} {Rl : World → World → Prop} {Gi : Value → World → Prop} {dd : Nat} {ty : TypeId} {pos : String} {aft : Array Edge} {gd : Option (Nat × Bool)} {e t sz : Nat}
theorem rg_build {parts : Array (Nat × Operand)} {vs : List Value} {cs : List Value} {len : Nat} {inf : TypeInfo} {z : Value} (ht : P.underlying t = some (.slice e)) (hin : P.info? e = some inf) (hz : inf.zero = some z) (hsz : inf.size = sz)
    (hl : len * sz ≤ 16777216) (hp : evs τ (parts.toList.map (·.2)) = some vs) (hix : parts.toList.map (·.1) = List.range len) (hv : ∀ v ∈ vs, v.cells.size = sz) (hf : (vs.map (·.cells.toList)).flatten = cs)
    (hg : wantedE ops τ ⟨some dd, .buildSlice t len parts, ty, pos, aft, gd⟩ = some true)
    (h : ∀ b w', Ext w w' → b = w.heap.size → Own w' b cs e → I w' ∧ Rl w w' ∧ Gi (.slice (some ⟨b, 0, none⟩) len len) w') :
    RGStep P N ops I Rl Gi ⟨some dd, .buildSlice t len parts, ty, pos, aft, gd⟩ w τ :=
  have ⟨h1, h2, h3⟩ := h _ _ (ext_alloc _ _) rfl (own_alloc _ _ _)
  rg_val (xbuildS ht hin hz hsz hl hp hix hv hf) hg h1 h2 h3
end
theorem Mk.young {l h lo hi : Nat} {w u u' : World} (E : Mk l h w u) (m : Mk lo hi u u') (hl : w.heap.size ≤ lo) : Mk l h w u' :=
  ⟨m.os.trans E.os, m.tape.trans E.tape, m.output.trans E.output, Nat.le_trans E.size m.size, fun j hj hn => (m.block j (by have := E.size; omega) (by omega)).trans (E.block j hj hn)⟩
theorem rescT {σ : Env} {N : Nat} {P : Program} {w : World} {fn : Func} {t ty u : Nat} {p : Addr} {v x : Value} (h : fn.results = #[.tmp u, .cell t ty]) (hx : look σ u = some x) (hp : look σ t = some (.pointer (some p))) (hl : (loadVar ty p).run P w = .ok v w) :
    ∀ a, Fits N σ a → (results fn a.tmps).run P w = .ok (.tuple #[x, v]) w := fun a ha => by
  simp [results, h, ha.getD hp, ha.getD hx, asAddr, hl, - Array.getD_eq_getD_getElem?]
theorem run_heldE {P : Program} {f : FuncId} {N : Nat} {R : Ending → World → Prop} {k : List Item} {σ : Env} {w w0 : World} {ι : Type} (hE : Ext w0 w) (Post : ι → World → Prop) (σr : ι → Env) {id : Nat} {l : List Oper} (hm : P.follows .mixedOrders = true)
    (h : ∀ w', Ext w w' → HOps P N l.toArray w0 l.length (Array.replicate l.length false) σ w' (fun a' w' => ∃ x, Post x w' ∧ Fits N (σr x) a'))
    (hr : ∀ x w', Post x w' → Run P f N R k (σr x) w') : Run P f N R (.code (.region id l.toArray true) :: k) σ w := by
  refine run_of_wp fun a ha => ?_
  have h1 := wp_region_held (P := P) (id := id) (Q := HQ fun a' w' => ∃ x, Post x w' ∧ Fits N (σr x) a') (S := Ext w0) hm (h _ (Ext.drew w) a ha)
  exact wp_mono h1 fun e a' w' ⟨he, x, hx, hf⟩ => ⟨he, fun cs => hr x w' hx a' hf cs⟩
section
variable {P : Program} {N : Nat} {σ : Env} {w : World} {d : Option Tmp} {ty : TypeId} {pos : String} {aft : Array Edge} {gd : Option (Nat × Bool)}
theorem xnilCheck {x : Operand} {a : Addr} (hx : ev σ x = some (.pointer (some a))) : XV P N σ ⟨d, .nilCheck x, ty, pos, aft, gd⟩ w (.pointer (some a)) w := fun b hb => by
  simp [execOp, hb.eval hx]
end
section
variable {α : Type} {enc : α → List Value} {sz lo hi b : Nat} {e T : TypeId} {w w' : World} {p : Option Addr} {n c : Nat} {xs : List α} {cs : List Value}
theorem Ow.neT (G : Ow enc sz e w lo hi p n c xs) (O : Own w b cs T) (hT : T ≠ e) (hp : p ≠ Option.none) : pb p ≠ b := by
 rcases G.row with ⟨h1, _⟩ | ⟨b', s, h1, _, _, h4, _⟩
 · exact absurd h1 hp
 · subst h1
   intro h
   simp only [pb, Option.getD_some] at h
   subst h
   unfold Own at h4 O
   rw [h4] at O
   simp only [Option.some.injEq, Obj.cells.injEq] at O
   exact hT O.2.1.symm
theorem Ow.onlyT (G : Ow enc sz e w lo hi p n c xs) (O : Own w b cs T) (hT : T ≠ e) (hx : Only b w w') : Ow enc sz e w' lo hi p n c xs :=
  ⟨G.len, G.cap, G.big, by
    have hne := G.neT O hT
    rcases G.row with h | ⟨b', s, h1, h2, h3, h4, h5⟩
    · exact .inl h
    · subst h1
      exact .inr ⟨b', s, rfl, h2, h3, hx.own h4 (by have := hne (by simp); simpa [pb] using this), h5⟩, G.esz⟩
end
section
variable {P : Program} {N : Nat} {ops : Array Oper} {w0 w : World} {fuel : Nat} {listed : Array Bool} {σ : Env} {Z : Act → World → Prop} {i dd : Nat} {ty : TypeId} {pos : String} {aft : Array Edge} {gd : Option (Nat × Bool)} {α : Type} {enc : α → List Value} {sz lo hi bytes : Nat} {t e : TypeId} {p q : Option Addr} {n c m dc : Nat} {xs ys : List α} {x y : Operand}
theorem hs_appT (ho : Ow enc sz e w lo hi p n c xs) (hx : ev σ x = some (.slice p n c)) (hy : ev σ y = some (.slice q m dc)) (hE : ElemOk P t e sz bytes)
    (hs : Sl enc sz w q m dc ys) (hq : q = none → dc = 0) (he : ∀ y ∈ ys, (enc y).length = sz) (h1 : ∀ y ∈ ys, ∀ u ∈ enc y, u.oneCell' = true)
    (hb : (n + m) * bytes ≤ 140737488355328) (h63 : n + m ≤ 9223372036854775807) (hlo : lo ≤ w.heap.size) {nm : Nat} (hnm : nm = n + m) (hF : Ext w0 w) (h0 : w0.heap.size ≤ lo)
    (hi' : ops[i]? = some ⟨some dd, .call ⟨.builtin .append, #[x, y], #[t, t]⟩, ty, pos, aft, gd⟩)
    (hg : wantedE ops σ ⟨some dd, .call ⟨.builtin .append, #[x, y], #[t, t]⟩, ty, pos, aft, gd⟩ = some true) (hN : Nat.blt dd N = true)
    (h : ∀ q' c' w', Mk lo hi w w' → (∀ (b : Nat) (cs : List Value) (T : TypeId), T ≠ e → Own w b cs T → Own w' b cs T) → Ow enc sz e w' lo w'.heap.size q' nm c' (xs ++ ys) → HOps P N ops w0 fuel (listed.setIfInBounds i true) ((dd, .slice q' nm c') :: σ) w' Z) :
    HStep P N ops w0 fuel listed σ w Z i := by
  subst hnm
  obtain ⟨q', c', w', hX, hm, hO, hp⟩ := xapp (N := N) (σ := σ) (d := some dd) (ty := ty) (pos := pos) (aft := aft) (gd := gd) ho hx hy hE hs hq he h1 hb h63 hlo
  exact hs_val hi' hX hg rfl hN (hm.toExt hF h0) (h _ _ _ hm (fun b cs T hT O => hp.off_own O (ho.neT O hT)) hO)
end
section
variable {P : Program} {f : FuncId} {N : Nat} {R : Ending → World → Prop} {k : List Item} {σ : Env} {w : World} {ops : Array Oper} {ty : TypeId} {pos : String} {aft : Array Edge} {gd : Option (Nat × Bool)}
theorem st_store1 {x y : Operand} {t T : TypeId} {b o : Nat} {cs : List Value} {v : Value} (hs : ∀ w, (sizeOf t).run P w = .ok 1 w) (hx : ev σ x = some (.pointer (some ⟨b, o, none⟩))) (hy : ev σ y = some v)
    (ho : Own w b cs T) (hlt : o < cs.length) (h1 : v.oneCell' = true) (hg : wantedE ops σ ⟨none, .store t x y, ty, pos, aft, gd⟩ = some true)
    (h : ∀ w', Only b w w' → Own w' b (cs.set o v) T → Run P f N R k σ w') : STOps P N ops w [] σ (fun a' => wpList P ops (HQ (After P f N R k)) [⟨none, .store t x y, ty, pos, aft, gd⟩] a' w) :=
  st_last (w' := w.setCell ⟨b, o, none⟩ v) (fun a ha => by
      have hc : v.cells = #[v] := by cases v <;> first | rfl | (simp [Value.oneCell'] at h1)
      have hcell : w.cell? ⟨b, o, none⟩ = some (cs[o]'hlt) := by
        have := ho.cells o (cs[o]'hlt) (by simp [hlt]); simpa using this
      have hfr : w.frozen? ⟨b, o, none⟩ = false := by
        unfold Own at ho; simp [World.frozen?, ho]
      have hst := run_store P w ⟨b, o, none⟩ v .plain h1
      simp only [hcell, hfr, Bool.false_eq_true, if_false] at hst
      simp [execOp, ha.eval hx, ha.eval hy, Instr.storeAt, Instr.sureAddr, storeVar, hc, hs, storeCells, Addr.add, hst]) hg rfl (h _ (only_setCell _ _ _ _) (own_setCell ho v))
end
theorem Sl.blk {α : Type} {enc : α → List Value} {sz : Nat} {w : World} {p : Option Addr} {n c : Nat} {xs : List α} (h : Sl enc sz w p n c xs) (hne : ∀ x, enc x ≠ []) : n = 0 ∨ pb p < w.heap.size := by
 rcases Nat.eq_zero_or_pos n with h0 | h0
 · exact .inl h0
 · have hl := h.len
   exact .inr ((h.el 0 (by omega)).block_lt (hne _))
theorem Sl.empty {α : Type} {enc : α → List Value} {sz : Nat} {w w' : World} {p : Option Addr} {n c : Nat} {xs : List α} (h : Sl enc sz w p n c xs) (h0 : n = 0) : Sl enc sz w' p n c xs :=
  ⟨h.len, h.cap, h.big, h.ptr, fun i hi => by have := h.len; omega, h.nil⟩
section
variable {P : Program} {N : Nat} {σ : Env} {w : World} {d : Option Tmp} {ty : TypeId} {pos : String} {aft : Array Edge} {gd : Option (Nat × Bool)}
theorem xsliceS {x y z : Operand} {t : TypeId} {s : ByteArray} {i j : Int} {k k' : IntKind} (ht : P.underlying t = some .string) (hx : ev σ x = some (.string s)) (hy : ev σ y = some (.int k i)) (hz : ev σ z = some (.int k' j)) (h0 : 0 ≤ i) (h1 : i ≤ j) (h2 : j ≤ s.size) :
    XV P N σ ⟨d, .slice t x (some y) (some z) none, ty, pos, aft, gd⟩ w (.string (s.extract i.toNat j.toNat)) w := fun a ha => by
  simp [execOp, ha.eval hx, ha.eval hy, ha.eval hz, run_sliceAt_string (P := P) (w := w) t _ _ _ _ ht, run_slice_string (P := P) w t s k k' i j ht h0 h1 h2, Result.andThen]
end
theorem Ow.offP {α β : Type} {enc : α → List Value} {enc2 : β → List Value} {sz sz2 lo hi lo2 hi2 : Nat} {e T : TypeId} {w w' : World} {p q : Option Addr} {n c n2 c2 : Nat} {xs : List α} {ys : List β}
    (h : Ow enc2 sz2 T w lo2 hi2 q n2 c2 ys) (G : Ow enc sz e w lo hi p n c xs) (m : Mk (pb p) (hend p) w w') (hT : T ≠ e) : Ow enc2 sz2 T w' lo2 hi2 q n2 c2 ys :=
  ⟨h.len, h.cap, h.big, h.row.imp id fun ⟨b, s, h1, h2, h3, h4, h5⟩ => ⟨b, s, h1, h2, h3, m.off_own h4 (G.neT h4 hT), h5⟩, h.esz⟩
section
variable {P : Program} {f : FuncId} {N : Nat} {R : Ending → World → Prop} {k : List Item} {σ : Env} {w : World} {ops : Array Oper} {rest : List Oper} {dd : Nat} {ty : TypeId} {pos : String} {aft : Array Edge} {gd : Option (Nat × Bool)} {α : Type} {enc : α → List Value} {sz lo hi bytes : Nat} {t e : TypeId} {p q : Option Addr} {n c m dc : Nat} {xs ys : List α} {x y : Operand}
theorem oappT (ho : Ow enc sz e w lo hi p n c xs) (hx : ev σ x = some (.slice p n c)) (hy : ev σ y = some (.slice q m dc)) (hE : ElemOk P t e sz bytes)
    (hs : Sl enc sz w q m dc ys) (hq : q = none → dc = 0) (he : ∀ y ∈ ys, (enc y).length = sz) (h1 : ∀ y ∈ ys, ∀ u ∈ enc y, u.oneCell' = true)
    (hb : (n + m) * bytes ≤ 140737488355328) (h63 : n + m ≤ 9223372036854775807) (hlo : lo ≤ w.heap.size) {nm : Nat} (hnm : nm = n + m)
    (hg : wantedE ops σ ⟨some dd, .call ⟨.builtin .append, #[x, y], #[t, t]⟩, ty, pos, aft, gd⟩ = some true) (hN : Nat.blt dd N = true)
    (h : ∀ q' c' w', Mk lo hi w w' → Mk (pb p) (hend p) w w' → Ow enc sz e w' lo w'.heap.size q' nm c' (xs ++ ys) → Ops P f N R ops rest k ((dd, .slice q' nm c') :: σ) w') :
    Ops P f N R ops (⟨some dd, .call ⟨.builtin .append, #[x, y], #[t, t]⟩, ty, pos, aft, gd⟩ :: rest) k σ w := by
  subst hnm
  obtain ⟨q', c', w', hX, hm, hO, hp⟩ := xapp (N := N) (σ := σ) (d := some dd) (ty := ty) (pos := pos) (aft := aft) (gd := gd) ho hx hy hE hs hq he h1 hb h63 hlo
  exact ov hX hg rfl hN (h _ _ _ hm hp hO)
end
section
variable {P : Program} {N : Nat} {τ : Env} {w : World} {ops : Array Oper} {I : World → Prop} {Rl : World → World → Prop} {Gi : Value → World → Prop} {ty : TypeId} {pos : String} {aft : Array Edge} {gd : Option (Nat × Bool)}
theorem rg_storeN {x y : Operand} {t T : TypeId} {b sz : Nat} {cs vs : List Value} (hs : ∀ w, (sizeOf t).run P w = .ok sz w) (hx : ev τ x = some (.pointer (some ⟨b, 0, none⟩))) (hy : ev τ y = some (.agg vs.toArray))
    (ho : Own w b cs T) (hl : vs.length = sz) (hlt : cs.length = sz) (h1 : ∀ v ∈ vs, v.oneCell' = true)
    (hg : wantedE ops τ ⟨none, .store t x y, ty, pos, aft, gd⟩ = some true)
    (h : ∀ w', Only b w w' → Own w' b vs T → I w' ∧ Rl w w' ∧ Gi undef w') : RGStep P N ops I Rl Gi ⟨none, .store t x y, ty, pos, aft, gd⟩ w τ := by
  obtain ⟨w', hr, hon, hown⟩ := run_storeCells_own (P := P) vs w cs 0 0 ho (by omega) h1
  have hrow : setRow cs (0 + 0) vs = vs := by
    clear hr hown ho
    have : ∀ (vs cs : List Value) (pre : List Value), cs.length = vs.length → setRow (pre ++ cs) pre.length vs = pre ++ vs := by
      intro vs
      induction vs with
      | nil => intro cs pre h; cases cs with
        | nil => rfl
        | cons _ _ => cases h
      | cons v r ih =>
        intro cs pre h
        cases cs with
        | nil => cases h
        | cons c d =>
          simp only [setRow]
          have e : (pre ++ c :: d).set pre.length v = (pre ++ [v]) ++ d := by simp
          rw [e]
          have := ih d (pre ++ [v]) (by simpa using h)
          simpa using this
    have := this vs cs [] (by omega)
    simpa using this
  rw [hrow] at hown
  obtain ⟨h1', h2', h3'⟩ := h w' hon hown
  subst hl
  exact rg_skip (w' := w') (fun a ha => by simp [execOp, ha.eval hx, ha.eval hy, Instr.storeAt, Instr.sureAddr, storeVar, Value.cells, hs, hr]) hg h1' h2' h3'
end
section
variable {P : Program} {N : Nat} {τ : Env} {w : World} {ops : Array Oper} {I : World → Prop} {Rl : World → World → Prop} {Gi : Value → World → Prop} {dd : Nat} {ty : TypeId} {pos : String} {aft : Array Edge} {gd : Option (Nat × Bool)}
theorem rg_alloc {t : TypeId} {z : Value} (hz : ∀ w, (zeroValue t).run P w = .ok z w) (hg : wantedE ops τ ⟨some dd, .alloc t, ty, pos, aft, gd⟩ = some true)
    (h : ∀ b w', Ext w w' → b = w.heap.size → Own w' b z.cells.toList t → I w' ∧ Rl w w' ∧ Gi (.pointer (some ⟨b, 0, none⟩)) w') :
    RGStep P N ops I Rl Gi ⟨some dd, .alloc t, ty, pos, aft, gd⟩ w τ :=
  have ⟨h1, h2, h3⟩ := h _ _ (ext_alloc _ _) rfl (own_alloc _ _ _)
  rg_val (w' := w.alloc (.cells z.cells t)) (v := .pointer (some ⟨w.heap.size, 0, none⟩)) (fun a ha => by simp [execOp, Instr.alloc, hz, newVar, newRow]) hg h1 h2 h3
end
section
variable {P : Program} {f : FuncId} {N : Nat} {R : Ending → World → Prop} {k : List Item} {σ : Env} {w : World} {ops : Array Oper} {rest : List Oper} {ty : TypeId} {pos : String} {aft : Array Edge} {gd : Option (Nat × Bool)}
theorem ostoreOwF {α : Type} {enc : α → List Value} {sz off : Nat} {x yo : Operand} {t T : TypeId} {lo hi n c i : Nat} {p : Option Addr} {xs : List α} {y : α} {v : Value} (hs : ∀ w, (sizeOf t).run P w = .ok 1 w)
    (G : Ow enc sz T w lo hi p n c xs) (hi' : i < xs.length) (hx : ev σ x = some (.pointer (some ⟨pb p, po p + i * sz + off, none⟩))) (hy : ev σ yo = some v)
    (hoff : off < sz) (he : enc y = (enc xs[i]).set off v) (h1 : v.oneCell' = true)
    (hg : wantedE ops σ ⟨none, .store t x yo, ty, pos, aft, gd⟩ = some true)
    (h : ∀ w', Mk lo hi w w' → Ow enc sz T w' lo hi p n c (xs.set i y) → Ops P f N R ops rest k σ w') :
    Ops P f N R ops (⟨none, .store t x yo, ty, pos, aft, gd⟩ :: rest) k σ w := by
  have hl := G.len; have hc := G.cap
  rcases G.row with ⟨_, h2⟩ | ⟨b, s, rfl, h3, h4, h5, h6⟩
  · omega
  · have hlen : ((xs.map enc).flatten).length = n * sz := G.rows
    have hm : (i + 1) * sz ≤ n * sz := Nat.mul_le_mul_right _ (by omega)
    rw [Nat.add_mul] at hm
    refine ostore1 hs (b := b) (o := i * sz + off) (by rw [hx]; simp [pb, po]) hy h5 (by simp only [List.length_append]; omega) h1 hg fun w' hon hown => h w' (Mk.ofOnly hon h3 h4) ?_
    rw [set_flat (enc := enc) (y := y) hoff xs i hi' he G.esz] at hown
    refine ⟨by rw [List.length_set]; exact hl, hc, G.big, .inr ⟨b, s, rfl, h3, h4, hown, h6⟩, fun z hz' => ?_⟩
    rcases List.mem_or_eq_of_mem_set hz' with hz' | rfl
    · exact G.esz z hz'
    · rw [he, List.length_set]; exact G.esz _ (List.getElem_mem hi')
end
end Go.Proofs.YtchblgaklknkcaaGreat

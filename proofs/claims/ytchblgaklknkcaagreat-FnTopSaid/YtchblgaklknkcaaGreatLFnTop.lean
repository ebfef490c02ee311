/-
  The law FnTop returns true for every input. No condition.
-/
import Derived.Test.YtchblgaklknkcaaGreatData
import Derived.Test.YtchblgaklknkcaaGreatRows
import Derived.ProofKit
import Derived.OpenShut
import Derived.Deep.Slices
import Derived.Lib.SmallJoins
import Derived.Test.YtchblgaklknkcaaGreatCore
import Derived.Test.YtchblgaklknkcaaGreatTopLaw
namespace Go.Proofs.YtchblgaklknkcaaGreat
open Go.RowKit Go.ChangeShapes Go.WideShapes Go.ChangeAt Go.Deep
set_option linter.unusedVariables false
set_option linter.unusedSimpArgs false
set_option linter.unusedSectionVars false
theorem own_ : ownKnob Tryz.prog.godebug = none := by kernel_rfl
theorem laid_ : laidOutB Tryz.prog = true := by kernel_rfl
section
variable {H : Type} {enc : TypeId × Value → H} {P : Program} {w : World} {base : Nat} {spare : Nat → Bool} {held : Bool}
def Reads {α : Type} (P : Program) (t : TypeId) (cells : α → List Value) (ok : α → Prop) : Prop :=
  ∀ {H : Type} {enc : TypeId × Value → H} {w : World} {base : Nat} {spare : Nat → Bool} {held : Bool} {fuel : Nat} {cs : List Value} {x : DataW H × List MemPlace},
    DataW.trod enc P w base spare held fuel t cs = some x → ∃ r : α, cs = cells r ∧ ok r
theorem cells?_get {a : Addr} {n : Nat} {cs : List Value} (h : w.cells? base a n = some cs) : cs.length = n ∧ ∀ j v, cs[j]? = some v → w.cell? (a.add j) = some v := by
 unfold World.cells? at h
 split at h
 · have hl := h
   have key : ∀ (l : List Nat) (cs : List Value), l.mapM (fun i => w.cell? (a.add i)) = some cs → cs.length = l.length ∧ ∀ (j : Nat) v, cs[j]? = some v → ∃ i : Nat, l[j]? = some i ∧ w.cell? (a.add i) = some v := by
     intro l
     induction l with
     | nil => intro cs h; simp at h; subst h; simp
     | cons i l ih =>
       intro cs h
       simp only [List.mapM_cons, Option.bind_eq_bind, Option.bind_eq_some_iff, Option.pure_def, Option.some.injEq] at h
       obtain ⟨v, hv, r, hr, rfl⟩ := h
       obtain ⟨h1, h2⟩ := ih r hr
       refine ⟨by simp [h1], fun j u hu => ?_⟩
       cases j with
       | zero => simp at hu; subst hu; exact ⟨i, by simp, hv⟩
       | succ j => obtain ⟨i', hi', hv'⟩ := h2 j u (by simpa using hu); exact ⟨i', by simpa using hi', hv'⟩
   obtain ⟨h1, h2⟩ := key _ _ hl
   refine ⟨by simpa using h1, fun j v hv => ?_⟩
   obtain ⟨i, hi, hv'⟩ := h2 j v hv
   have : i = j := by
     have hj : j < n := by
       rcases Nat.lt_or_ge j n with h' | h'
       · exact h'
       · rw [List.getElem?_eq_none (by simpa using h')] at hi; cases hi
     rw [List.getElem?_range hj] at hi
     simpa using hi.symm
   subst this; exact hv'
 · cases h
theorem sl_of_trod {α : Type} [Inhabited α] {cells : α → List Value} {ok : α → Prop} {t e sz fuel : Nat} {cs : List Value} {x : DataW H × List MemPlace} (ht : P.underlying t = some (.slice e)) (hc : P.cellsOf e = sz) (hsz : sz ≠ 0)
    (hR : Reads P e cells ok) (h : DataW.trod enc P w base spare held fuel t cs = some x) :
    ∃ p n c xs, cs = [.slice p n c] ∧ Sl cells sz w p n c xs ∧ ∀ y ∈ xs, ok y := by
  subst hc
  rcases open_slice ht h with ⟨rfl, _⟩ | ⟨a, len, cap, m, n, D, Pl, rfl, hb, hl, hm, hmm, _, hel⟩
  · exact ⟨none, 0, 0, [], rfl, ⟨rfl, Nat.le_refl _, Nat.zero_le _, fun h => absurd h (by omega), fun i hi => absurd hi (by simp), fun _ => rfl⟩, fun y hy => by cases hy⟩
  · have hlm : len ≤ m := by rw [hmm]; split <;> omega
    have hel' : ∀ i, i < len → ∃ r : α, (∀ j v, (cells r)[j]? = some v → w.cell? ((a.add (i * P.cellsOf e)).add j) = some v) ∧ ok r ∧ (cells r).length = P.cellsOf e := by
      intro i hi
      obtain ⟨cs', h1, h2⟩ := hel i (by omega)
      obtain ⟨r, rfl, hok⟩ := hR h2
      obtain ⟨h3, h4⟩ := cells?_get h1
      exact ⟨r, h4, hok, h3⟩
    obtain ⟨r, hr⟩ := choose_lt hel'
    have hspot : 0 < len → a = ⟨a.block, a.off, Option.none⟩ := by
      intro h0
      obtain ⟨h1, _, h3⟩ := hr 0 h0
      have h4 := h1 0 ((cells (r 0))[0]'(by omega)) (by simp)
      simp only [Nat.zero_mul, Addr.add, if_true] at h4
      have := World.cell?_spot h4
      obtain ⟨b, o, s⟩ := a
      simp only at this; subst this; rfl
    refine ⟨some a, len, cap, (List.range len).map r, rfl, ⟨by simp, hl, hm, fun h0 => ?_, fun i hi => ?_, fun h => by cases h⟩, fun y hy => ?_⟩
    · rw [hspot h0]; rfl
    · have hi' : i < len := by simpa using hi
      intro j v hv
      have h5 := (hr i hi').1 j v (by simpa using hv)
      have ha : a = ⟨pb (some a), po (some a), Option.none⟩ := hspot (by omega)
      rw [ha, add_eq, add_eq] at h5
      exact h5
    · obtain ⟨i, hi, rfl⟩ := List.mem_map.1 hy
      exact (hr i (by simpa using hi)).2.1
theorem trodAll_below (hl : laidOutB P = true) {W W' : World} (hb : Below W.heap.size W W') : ∀ {ts : List TypeId} {vs : List Value} {ds : List (DataW H)} {p : List MemPlace},
    (∀ t ∈ ts, P.readableRec t = true ∧ t < P.types.size) → (∀ x ∈ p, x.block < W.heap.size) → DataW.TrodAll enc P W 0 (fun _ => true) true ts vs ds p →
    DataW.TrodAll enc P W' 0 (fun b => decide (b < W.heap.size)) true ts vs ds p
  | [], [], [], p, _, _, h => h
  | t :: ts, v :: vs, d :: ds, p, ht, hp, h => by
    obtain ⟨q, r, h1, h2, rfl⟩ := h
    exact ⟨q, r, Below.trod hl (ht t (by simp)).1 (ht t (by simp)).2 h1 hb (fun x hx => hp x (by simp [hx])), trodAll_below hl hb (fun t' ht' => ht t' (by simp [ht'])) (fun x hx => hp x (by simp [hx])) h2, rfl⟩
  | [], [], _ :: _, _, _, _, h => h.elim
  | [], _ :: _, _, _, _, _, h => h.elim
  | _ :: _, [], _, _, _, _, h => h.elim
  | _ :: _, _ :: _, [], _, _, _, h => h.elim
end
theorem law_post {s : ChangeSpec} {fn : Func} {H : Type} {enc : TypeId × Value → H} {W W' : World} {args : Array Value} {ds gs : List (DataW H)} {before : List MemPlace}
    (hv : s.vars = []) (hr : fn.resultTypes = #[4]) (hp : ∀ t ∈ fn.params.toList, Tryz.prog.readableRec t = true ∧ t < Tryz.prog.types.size) (h4 : Tryz.prog.underlying 4 = some .bool)
    (hW : DataW.Whole enc Tryz.prog fn.params.toList s.vars false W args.toList ds gs before) (hs : s.fn H (ds ++ gs) = { results := [.lit (.bool true)], args := ds }) (hx : Ext W W') :
    s.post enc Tryz.prog fn false true false false W args (.bool true) W' := by
  have hW' := hW
  obtain ⟨p, q, hA, hV, rfl, _, _⟩ := hW
  rw [hv] at hV
  obtain ⟨rfl, rfl⟩ := trodVars_none hV
  have hlt : ∀ x ∈ p, x.block < W.heap.size := fun x hx => by
    have := hW'.lt x (by simp [hx]); exact this
  refine ⟨_, _, _, [], p, [], hW', ?_, ?_, ?_, hx.frame _, fun h => by cases h⟩
  · rw [hs, hr]; exact trodAll_mk1 (shut_bool h4 true)
  · rw [hs]; exact trodAll_below laid_ hx hp hlt hA
  · rw [hs, hv]; rfl
end Go.Proofs.YtchblgaklknkcaaGreat
namespace Go.Proofs.YtchblgaklknkcaaGreat
open Go.RowKit
set_option linter.unusedVariables false
set_option linter.unusedSimpArgs false
set_option linter.unusedSectionVars false
set_option maxRecDepth 4000
open Go
set_option maxRecDepth 100000
def ioSg (l : List Nat) : List Char := l.map Char.ofNat
theorem io0 : Tryz.prog.initOrder = "harness 1ca97a0728428946511be8756adea30d4ff9bd5ce6880d195670f5895861ff92 cut at loop.example/g01027/laws.FnTop" := by kernel_rfl
theorem io1 : "harness 1ca97a0728428946511be8756adea30d4ff9bd5ce6880d195670f5895861ff92 cut at loop.example/g01027/laws.FnTop" = String.ofList (ioSg [104, 97, 114, 110, 101, 115, 115, 32, 49, 99, 97, 57, 55, 97, 48, 55, 50, 56, 52, 50, 56, 57, 52, 54, 53, 49, 49, 98, 101, 56, 55, 53, 54, 97, 100, 101, 97, 51, 48, 100, 52, 102, 102, 57, 98, 100, 53, 99, 101, 54, 56, 56, 48, 100, 49, 57, 53, 54, 55, 48, 102, 53, 56, 57, 53, 56, 54, 49, 102, 102, 57, 50, 32, 99, 117, 116, 32, 97, 116, 32, 108, 111, 111, 112, 46, 101, 120, 97, 109, 112, 108, 101, 47, 103, 48, 49, 48, 50, 55, 47, 108, 97, 119, 115, 46, 70, 110, 84, 111, 112]) := by kernel_rfl
theorem ioL : Tryz.prog.initOrder.toList = ioSg [104, 97, 114, 110, 101, 115, 115, 32, 49, 99, 97, 57, 55, 97, 48, 55, 50, 56, 52, 50, 56, 57, 52, 54, 53, 49, 49, 98, 101, 56, 55, 53, 54, 97, 100, 101, 97, 51, 48, 100, 52, 102, 102, 57, 98, 100, 53, 99, 101, 54, 56, 56, 48, 100, 49, 57, 53, 54, 55, 48, 102, 53, 56, 57, 53, 56, 54, 49, 102, 102, 57, 50, 32, 99, 117, 116, 32, 97, 116, 32, 108, 111, 111, 112, 46, 101, 120, 97, 109, 112, 108, 101, 47, 103, 48, 49, 48, 50, 55, 47, 108, 97, 119, 115, 46, 70, 110, 84, 111, 112] := (congrArg String.toList (io0.trans io1)).trans String.toList_ofList
theorem ioWs : behindMainWord (wordsSigns Tryz.prog.initOrder.toList) = "cut".toList :: (behindMainWord (wordsSigns Tryz.prog.initOrder.toList)).tail := by rw [ioL]; kernel_rfl
theorem ioSt : stripLifts liftWords (behindMainWord (wordsSigns Tryz.prog.initOrder.toList)) = ([], behindMainWord (wordsSigns Tryz.prog.initOrder.toList)) := by rw [ioL]; kernel_rfl
theorem ioLl : Tryz.prog.laysLater = false := by kernel_rfl
theorem ioBr : Tryz.prog.bearsReflect = false := by kernel_rfl
theorem ioDf : Tryz.prog.doorFits [] = true := by kernel_rfl
theorem make_of {P : Program} {l : List Char} (h : P.initOrder.toList = l) {W : List Char} {R : List (List Char)} (hw : behindMainWord (wordsSigns l) = W :: R) (hW : W = "cut".toList) (hs : (stripLifts liftWords (W :: R)) = ([], W :: R)) (h2 : P.laysLater = false) (h3 : P.bearsReflect = false) (h4 : P.doorFits [] = true) : P.mayEnter = true ∧ P.liftsFinal = false ∧ P.make = some .cut := by
 refine ⟨?_, ?_, ?_⟩
 · unfold Program.mayEnter; rw [h, hw]; simp only []; rw [hs, h2, h3, h4, hW]; simp
 · unfold Program.liftsFinal Program.headLifts; rw [h, hw]; simp only []; rw [hs, hW]; simp
 · unfold Program.make; rw [h, hw]; simp only []; rw [hW]; simp
theorem ioMk : Tryz.prog.mayEnter = true ∧ Tryz.prog.liftsFinal = false ∧ Tryz.prog.make = some .cut :=
  make_of (W := "cut".toList) (R := (behindMainWord (wordsSigns Tryz.prog.initOrder.toList)).tail) rfl (by rw [← ioWs]) rfl (by rw [← ioWs, ← ioSt]) ioLl ioBr ioDf
theorem ioLaid : laidOutB Tryz.prog = true := by kernel_rfl
theorem ioRow : mapsRowed Tryz.prog = true := by kernel_rfl
theorem band {a b : Bool} (h1 : a = true) (h2 : b = true) : (a && b) = true := by rw [h1, h2]; rfl
theorem beq_make {a : Option Make} (h : a = some .cut) : (a == some .cut) = true := by rw [h]; rfl
theorem beq_false_of {a b : Bool} (h1 : a = false) (h2 : b = false) : (a == b) = true := by rw [h1, h2]; rfl
end Go.Proofs.YtchblgaklknkcaaGreat
namespace Go.Proofs.YtchblgaklknkcaaGreat
open Go.RowKit Go.ChangeShapes Go.WideShapes Go.ChangeAt Go.Deep Go.ChangeMaps
set_option linter.unusedVariables false
set_option linter.unusedSimpArgs false
set_option linter.unusedSectionVars false
set_option maxRecDepth 4000
theorem reads_u8 : Reads Tryz.prog 5 u8c (fun x => 0 ≤ x ∧ x ≤ 255) := by
 intro H enc w base spare held fuel cs x h
 obtain ⟨n, h1, _, h2⟩ := DataW.trod_int Tryz.underlying5 h
 refine ⟨n, h1, ?_⟩
 have h3 : IntKind.u8.min = 0 := rfl
 have h4 : IntKind.u8.max = 255 := rfl
 simp only [Lit.wf, Bool.and_eq_true, decide_eq_true_eq, h3, h4] at h2
 exact h2
namespace fnTop
set_option maxRecDepth 100000 in
theorem lifted (os : Os) (started : os.Started) (H : Type) (enc : TypeId × Value → H) :
    ReturnsInHanded {} Tryz.checked os 3 .any (Rows.fnTopSpec.pre6 enc Tryz.prog Tryz.f3 Rows.fnTopRow.domain false) (Rows.fnTopSpec.post enc Tryz.prog Tryz.f3 false true false false) := by
  refine returnsInHanded_of_change (C := Tryz.checked) own_ started (by kernel_rfl) Tryz.func3
    (ChangeSpec.witness6 (enc := enc) (C := Tryz.checked) false ⟨#[], #[.slice none 0 0], []⟩ 8 (by kernel_rfl) (by kernel_rfl) (by kernel_rfl) (by kernel_rfl)) ?_
  intro W base args ds gs before hval0 hW _ _
  have hval : ∀ (j : Nat) t v, Tryz.f3.params[j]? = some t → args[j]? = some v → Value.okWide Tryz.prog W .any base t v := hval0
  have hW2 := hW
  obtain ⟨p, q, hA0, hV, rfl, hfz, hnd⟩ := hW
  have hA : DataW.TrodAll enc Tryz.prog W 0 (fun _ => true) true Tryz.f3.params.toList args.toList ds p := hA0
  rw [Tryz.params3] at hA hval
  obtain ⟨v0, vs0, d0, ds0, p0, q0, hargs, rfl, rfl, h0, tr0⟩ := trodAll_cons hA
  obtain ⟨rfl, rfl, rfl⟩ := trodAll_nil tr0
  obtain rfl : args = #[v0] := by cases args; simp_all
  obtain ⟨rfl, rfl⟩ := trodVars_none hV
  clear hA0 hval0
  obtain ⟨a0, l0, c0, rfl⟩ := okWide_slice Tryz.underlying22 (hval 0 22 v0 rfl rfl)
  obtain ⟨fuel0, hf0⟩ := h0
  obtain ⟨pp0, nn0, cc0, xs0, hcs0, H0, hx0⟩ := sl_of_trod (sz := 1) Tryz.underlying22 (by kernel_rfl) (by decide) reads_u8 hf0
  simp only [Value.cells, List.cons.injEq, Value.slice.injEq, and_true] at hcs0
  obtain ⟨rfl, rfl, rfl⟩ := hcs0
  refine Calls.mono (FnTop_ok _ _ _ xs0 W H0 hx0) fun e W' he => ?_
  obtain ⟨v, he, hv, hx⟩ := he
  subst he; subst hv
  exact ⟨_, rfl, law_post (s := Rows.fnTopSpec) (fn := Tryz.f3) rfl rfl (by rw [Tryz.params3]; simp only [List.mem_cons, List.not_mem_nil, or_false]; intro t ht; (try rcases ht with ht); all_goals (subst t; exact ⟨by kernel_rfl, of_decide_eq_true (by kernel_rfl)⟩)) Tryz.underlying4 hW2 rfl hx⟩
theorem proved : Rows.FnTopSaid :=
  OpenClaim.holds_of_wide 3 Tryz.f3 rfl rfl rfl rfl rfl rfl rfl ⟨rfl, rfl, rfl, rfl, rfl⟩ rfl rfl rfl rfl rfl (by kernel_rfl) Tryz.func3 (by unfold joinedFacts; exact (band (band (band (band (band (band (band (band (band (band (band (band (band (band (band (band (band (band (band (band (band (band (band (band (band (band (band (band (band (band (band (by kernel_rfl) ioLaid) ioRow) (by kernel_rfl)) (by kernel_rfl)) (by kernel_rfl)) (by kernel_rfl)) (by kernel_rfl)) (by kernel_rfl)) (by kernel_rfl)) (by kernel_rfl)) (by kernel_rfl)) (by kernel_rfl)) (by kernel_rfl)) (by kernel_rfl)) (by kernel_rfl)) (by kernel_rfl)) (by kernel_rfl)) (by kernel_rfl)) (by kernel_rfl)) (by kernel_rfl)) (by kernel_rfl)) (by kernel_rfl)) (by kernel_rfl)) (by kernel_rfl)) ioMk.1) (beq_false_of rfl ioMk.2.1)) (beq_make ioMk.2.2)) (by kernel_rfl)) (by kernel_rfl)) (by kernel_rfl)) (by kernel_rfl)))
    (of_decide_eq_true (by kernel_rfl)) (by unfold Func.isWrapper; first | (rw [if_pos (by decide +kernel)]; kernel_rfl) | (rw [if_neg (by decide +kernel)]; exact ⟨rfl, rfl⟩))
    (fun os started H enc _ => lifted os started H enc)
end fnTop
end Go.Proofs.YtchblgaklknkcaaGreat

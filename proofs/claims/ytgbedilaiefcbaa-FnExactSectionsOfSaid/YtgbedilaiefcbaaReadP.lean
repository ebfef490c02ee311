/-
  The pieces of a text without sections. No condition beyond those written in each theorem.
-/
import Derived.Test.YtgbedilaiefcbaaIxAny5
import Derived.Test.YtgbedilaiefcbaaRg2
namespace Go.Proofs.Ytgbedilaiefcbaa
open Go.RowKit
set_option linter.unusedVariables false
set_option linter.unusedSimpArgs false
set_option linter.unusedSectionVars false
set_option maxRecDepth 4000

/-- a part as it lies in memory -/
structure Pt where
  text : ByteArray
  name : ByteArray
  sec : Bool
  p : Option Addr
  n : Nat
  c : Nat
def Pt.cells (x : Pt) : List Value := [.string x.text, .string x.name, .bool x.sec, .slice x.p x.n x.c]
def Pt.pp (x : PP) : Pt := ⟨x.1, x.2, false, none, 0, 0⟩
theorem rp_empty {s : ByteArray} (h : s.size = 0) : rp s = some [] := by rw [rp_eq, rpS, if_pos h]
theorem rp_text {s : ByteArray} (h : s.size ≠ 0) (h2 : ¬ at1 sp5 s < s.size) : rp s = some [(s, ⟨#[]⟩)] := by rw [rp_eq, rpS, if_neg h, if_neg h2]
theorem rp_wrong {s : ByteArray} (h : s.size ≠ 0) (h2 : at1 sp5 s < s.size) (h3 : ¬ (bAt s (at1 sp5 s) = 123 ∧ at1 (isB 125) (tail1 s (at1 sp5 s)) < (tail1 s (at1 sp5 s)).size ∧ isWord ((tail1 s (at1 sp5 s)).extract 0 (at1 (isB 125) (tail1 s (at1 sp5 s)))) = true)) : rp s = none := by
  rw [rp_eq, rpS, if_neg h, if_pos h2, if_neg h3]
theorem rp_step {s : ByteArray} (h : s.size ≠ 0) (h2 : at1 sp5 s < s.size) (h3 : bAt s (at1 sp5 s) = 123 ∧ at1 (isB 125) (tail1 s (at1 sp5 s)) < (tail1 s (at1 sp5 s)).size ∧ isWord ((tail1 s (at1 sp5 s)).extract 0 (at1 (isB 125) (tail1 s (at1 sp5 s)))) = true) :
    rp s = (rp (tail1 (tail1 s (at1 sp5 s)) (at1 (isB 125) (tail1 s (at1 sp5 s))))).map fun l => [(s.extract 0 (at1 sp5 s), ⟨#[]⟩), (⟨#[]⟩, (tail1 s (at1 sp5 s)).extract 0 (at1 (isB 125) (tail1 s (at1 sp5 s))))] ++ l := by
  rw [rp_eq s, rpS, if_neg h, if_pos h2, if_pos h3]; rfl
/-- all bytes from 32 to 126 -/
def asc (s : ByteArray) : Prop := allB s.size (fun i => inR 32 126 (bAt s i)) = true
theorem asc_tail {s : ByteArray} (h : asc s) (k : Nat) : asc (tail1 s k) := by
  unfold asc at *
  rw [allB_iff] at *
  intro i hi
  have hz : (tail1 s k).size = s.size - (k + 1) := by rw [tail1, ByteArray.size_extract]; omega
  have hb : bAt (tail1 s k) i = bAt s (k + 1 + i) := by
    rw [bAt, bAt, dif_pos hi, dif_pos (by omega)]
    simp [tail1, ByteArray.getElem_extract]
  rw [hb]; exact h _ (by omega)


/-- the library's variable holds a number -/
def Hm (w : World) : Prop := ∃ m, w.cell? ⟨0, 0, none⟩ = some (.int .i64 m)
theorem Hm.ext {w w' : World} (h : Hm w) (e : Ext w w') : Hm w' := by
  obtain ⟨m, hm⟩ := h
  have hc : Cells w 0 0 [.int .i64 m] := fun j v hj => by
    match j, hj with
    | 0, hj => simp only [List.getElem?_cons_zero, Option.some.injEq] at hj; subst hj; exact hm
    | j + 1, hj => simp at hj
  exact ⟨m, (hc.ext e) 0 _ rfl⟩
theorem Hm.size {w : World} (h : Hm w) : 0 < w.heap.size := by
  obtain ⟨m, hm⟩ := h
  have hc : Cells w 0 0 [.int .i64 m] := fun j v hj => by
    match j, hj with
    | 0, hj => simp only [List.getElem?_cons_zero, Option.some.injEq] at hj; subst hj; exact hm
    | j + 1, hj => simp at hj
  exact hc.block_lt (by simp)
theorem size_ne {t : ByteArray} (h : ¬ t = ⟨#[]⟩) : t.size ≠ 0 := fun e => h (ByteArray.ext (Array.eq_empty_of_size_eq_zero e))
/-- the place of the first of the five -/
def ixT (t : ByteArray) : Int := if at1 sp5 t < t.size then ((at1 sp5 t : Nat) : Int) else -1
theorem ixT_neg {t : ByteArray} (h : ixT t < 0) : ¬ at1 sp5 t < t.size := fun k => by rw [ixT, if_pos k] at h; omega
theorem ixT_pos {t : ByteArray} (h : ¬ ixT t < 0) : at1 sp5 t < t.size ∧ ixT t = ((at1 sp5 t : Nat) : Int) := by
  by_cases k : at1 sp5 t < t.size
  · exact ⟨k, by rw [ixT, if_pos k]⟩
  · rw [ixT, if_neg k] at h; omega
theorem tail_ix {t : ByteArray} (h : ¬ ixT t < 0) : ByteArray.extract t (Int.toNat (ixT t + 1)) (ByteArray.size t) = tail1 t (at1 sp5 t) := by
  rw [(ixT_pos h).2, tail1]; congr 1
theorem head_ix {t : ByteArray} (h : ¬ ixT t < 0) : ByteArray.extract t 0 (Int.toNat (ixT t)) = t.extract 0 (at1 sp5 t) := by
  rw [(ixT_pos h).2]; rfl
theorem cutT_le (s : ByteArray) (b : Nat) : (cutT s b).1.size ≤ s.size ∧ (cutT s b).2.1.size ≤ s.size := by
  unfold cutT
  split
  · simp only [tail1, ByteArray.size_extract]; omega
  · exact ⟨Nat.le_refl _, Nat.zero_le _⟩
theorem cutT_lt {s : ByteArray} {b : Nat} (h : (cutT s b).2.2 = true) : (cutT s b).2.1.size < s.size := by
  unfold cutT at h ⊢
  split
  · rename_i h1; exact tail1_size s h1
  · rename_i h1; rw [if_neg h1] at h; cases h
theorem asc_empty : asc ⟨#[]⟩ := allB_iff.2 fun i hi => absurd hi (Nat.not_lt_zero i)
theorem asc_ex {s : ByteArray} (h : asc s) (k : Nat) : asc (s.extract 0 k) := by
  unfold asc at *
  rw [allB_iff] at *
  intro i hi
  have hz : (s.extract 0 k).size ≤ s.size := by rw [ByteArray.size_extract]; omega
  have hb : bAt (s.extract 0 k) i = bAt s i := by
    rw [bAt, bAt, dif_pos hi, dif_pos (by omega)]
    simp [ByteArray.getElem_extract]
  rw [hb]; exact h _ (by omega)
theorem asc_cut {s : ByteArray} (h : asc s) (b : Nat) : asc (cutT s b).1 ∧ asc (cutT s b).2.1 := by
  unfold cutT
  split
  · exact ⟨asc_ex h _, asc_tail h _⟩
  · exact ⟨h, asc_empty⟩
theorem rp_go {t : ByteArray} (h0 : t.size ≠ 0) (h2 : at1 sp5 t < t.size) (h3 : bAt t (at1 sp5 t) = 123) (h4 : (cutT (tail1 t (at1 sp5 t)) 125).2.2 = true) (h5 : isWord (cutT (tail1 t (at1 sp5 t)) 125).1 = true) :
    rp t = (rp (cutT (tail1 t (at1 sp5 t)) 125).2.1).map fun l => [(t.extract 0 (at1 sp5 t), ⟨#[]⟩), (⟨#[]⟩, (cutT (tail1 t (at1 sp5 t)) 125).1)] ++ l := by
  have h6 : at1 (isB 125) (tail1 t (at1 sp5 t)) < (tail1 t (at1 sp5 t)).size := Classical.byContradiction fun k => by rw [cutT, if_neg k] at h4; cases h4
  rw [cutT, if_pos h6] at h5
  rw [rp_step h0 h2 ⟨h3, h6, h5⟩, cutT, if_pos h6]
theorem rp_no {t : ByteArray} (h0 : t.size ≠ 0) (h2 : at1 sp5 t < t.size) (h : ¬ (bAt t (at1 sp5 t) = 123 ∧ (cutT (tail1 t (at1 sp5 t)) 125).2.2 = true ∧ isWord (cutT (tail1 t (at1 sp5 t)) 125).1 = true)) : rp t = none := by
  refine rp_wrong h0 h2 fun ⟨a, b, c⟩ => h ⟨a, ?_, ?_⟩
  · rw [cutT, if_pos b]
  · rw [cutT, if_pos b]; exact c
/-- the pieces lie in memory -/
theorem pp_map (zs : List PP) (l : List PP) : zs.map Pt.pp ++ l.map Pt.pp = (zs ++ l).map Pt.pp := by rw [List.map_append]
/-- the slices inside parts, by the parts they read as; in blocks from lo to hi -/
def InP (T : TypeId) (w : World) (lo hi : Nat) (x : Pt) (z : TP) : Prop :=
  x.text = z.text ∧ x.name = z.name ∧ x.sec = z.sec ∧ Ow Pt.cells 4 T w lo hi x.p x.n x.c (z.inner.map Pt.pp)
def Ins (T : TypeId) (w : World) (lo hi : Nat) : List Pt → List TP → Prop
  | [], [] => True
  | x :: xs, z :: zs => InP T w lo hi x z ∧ Ins T w lo hi xs zs
  | _, _ => False
section
variable {T : TypeId} {w w' : World} {lo hi lo' hi' l h' : Nat}
theorem Ins.imp {P : Pt → Prop} (f : ∀ x z, P x → InP T w lo hi x z → InP T w' lo' hi' x z) : ∀ {xs : List Pt} {zs : List TP}, (∀ x ∈ xs, P x) → Ins T w lo hi xs zs → Ins T w' lo' hi' xs zs
  | [], [], _, _ => trivial
  | x :: xs, z :: zs, h, k => ⟨f x z (h x List.mem_cons_self) k.1, Ins.imp f (fun y hy => h y (List.mem_cons_of_mem _ hy)) k.2⟩
  | [], _ :: _, _, k => k.elim
  | _ :: _, [], _, k => k.elim
theorem Ins.ext {xs : List Pt} {zs : List TP} (h : Ins T w lo hi xs zs) (e : Ext w w') : Ins T w' lo hi xs zs :=
  h.imp (P := fun _ => True) (fun _ _ _ k => ⟨k.1, k.2.1, k.2.2.1, k.2.2.2.ext e⟩) (fun _ _ => trivial)
theorem Ins.wide {xs : List Pt} {zs : List TP} (h : Ins T w lo hi xs zs) (h1 : lo' ≤ lo) (h2 : hi ≤ hi') : Ins T w lo' hi' xs zs :=
  h.imp (P := fun _ => True) (fun _ _ _ k => ⟨k.1, k.2.1, k.2.2.1, k.2.2.2.wide h1 h2⟩) (fun _ _ => trivial)
theorem Ins.off {xs : List Pt} {zs : List TP} (h : Ins T w lo hi xs zs) (e : Mk l h' w w') (hd : hi ≤ l ∨ h' ≤ lo) : Ins T w' lo hi xs zs :=
  h.imp (P := fun _ => True) (fun _ _ _ k => ⟨k.1, k.2.1, k.2.2.1, k.2.2.2.off e hd⟩) (fun _ _ => trivial)
theorem Ins.only {b : Nat} {xs : List Pt} {zs : List TP} (h : Ins T w lo hi xs zs) (e : Only b w w') (hd : hi ≤ b ∨ b + 1 ≤ lo) : Ins T w' lo hi xs zs :=
  h.imp (P := fun _ => True) (fun _ _ _ k => ⟨k.1, k.2.1, k.2.2.1, k.2.2.2.only e hd⟩) (fun _ _ => trivial)
/-- no slice inside lies where q lies -/
def Apart (q : Option Addr) (xs : List Pt) : Prop := ∀ x ∈ xs, ∀ b, x.p = some ⟨b, 0, none⟩ → ∀ a, q = some a → b ≠ a.block
theorem Ins.move {q : Option Addr} {xs : List Pt} {zs : List TP} (h : Ins T w lo hi xs zs) (s : Apart q xs) (k : Mk (pb q) (hend q) w w') : Ins T w' lo hi xs zs := by
  refine h.imp (P := fun x => ∀ b, x.p = some ⟨b, 0, none⟩ → ∀ a, q = some a → b ≠ a.block) (fun x z hx i => ⟨i.1, i.2.1, i.2.2.1, ?_⟩) s
  have o := i.2.2.2
  refine ⟨o.len, o.cap, o.big, o.row.imp id fun ⟨b, sp, e1, e2, e3, e4, e5⟩ => ⟨b, sp, e1, e2, e3, k.own e4 ?_, e5⟩, o.esz⟩
  cases q with
  | none => simp [pb, hend]
  | some a =>
    have := hx b e1 a rfl
    simp only [pb, hend, Option.getD_some]
    omega
theorem Ins.app : ∀ {xs ys : List Pt} {zs us : List TP}, Ins T w lo hi xs zs → Ins T w lo hi ys us → Ins T w lo hi (xs ++ ys) (zs ++ us)
  | [], _, [], _, _, k => k
  | _ :: _, _, _ :: _, _, h, k => ⟨h.1, Ins.app h.2 k⟩
  | [], _, _ :: _, _, h, _ => h.elim
  | _ :: _, _, [], _, h, _ => h.elim
theorem Ins.pps : ∀ (l : List PP), Ins T w lo hi (l.map Pt.pp) (l.map TP.of)
  | [] => trivial
  | _ :: l => ⟨⟨rfl, rfl, rfl, Ow.none _ _ _ _ _ _⟩, Ins.pps l⟩
theorem Ins.one {x : Pt} {z : TP} (h : InP T w lo hi x z) : Ins T w lo hi [x] [z] := ⟨h, trivial⟩
theorem Ins.len : ∀ {xs : List Pt} {zs : List TP}, Ins T w lo hi xs zs → xs.length = zs.length
  | [], [], _ => rfl
  | _ :: xs, _ :: zs, h => by rw [List.length_cons, List.length_cons, Ins.len h.2]
  | [], _ :: _, h => h.elim
  | _ :: _, [], h => h.elim
theorem Ins.get : ∀ {xs : List Pt} {zs : List TP} {k : Nat} (h : Ins T w lo hi xs zs) (h1 : k < xs.length) (h2 : k < zs.length), InP T w lo hi xs[k] zs[k]
  | _ :: _, _ :: _, 0, h, _, _ => h.1
  | _ :: _, _ :: _, k + 1, h, h1, h2 => Ins.get (k := k) h.2 (by simpa using h1) (by simpa using h2)
  | [], _, _, _, h1, _ => absurd h1 (Nat.not_lt_zero _)
  | _ :: _, [], _, h, _, _ => h.elim
theorem Apart.nil (q : Option Addr) : Apart q [] := fun x hx => by cases hx
theorem Apart.pps (q : Option Addr) (l : List PP) : Apart q (l.map Pt.pp) := fun x hx b hb => by
  obtain ⟨y, _, rfl⟩ := List.mem_map.1 hx
  cases hb
theorem Apart.app {q : Option Addr} {xs ys : List Pt} (h : Apart q xs) (k : Apart q ys) : Apart q (xs ++ ys) := fun x hx => by
  rcases List.mem_append.1 hx with m | m
  · exact h x m
  · exact k x m
theorem Apart.move {q q' : Option Addr} {xs : List Pt} {zs : List TP} (h : Apart q xs) (i : Ins T w lo hi xs zs) (hat : q' = q ∨ w.heap.size ≤ pb q') : Apart q' xs := by
  rcases hat with rfl | hat
  · exact h
  · intro x hx b hb a ha
    obtain ⟨k, hk, rfl⟩ := List.mem_iff_getElem.1 hx
    have g := i.get hk (by rw [← i.len]; exact hk)
    rcases g.2.2.2.row with ⟨e, _⟩ | ⟨b', sp, e1, _, _, e4, _⟩
    · rw [e] at hb; cases hb
    · rw [e1] at hb
      have hbb : b' = b := by injection hb with hb; injection hb
      have := e4.lt
      rw [ha] at hat
      simp only [pb, Option.getD_some] at hat
      omega
theorem Apart.new {q q' : Option Addr} {x : Pt} {n c m d : Nat} {xs ys : List Pt} {lo2 hi2 : Nat} (G : Ow Pt.cells 4 T w lo hi q n c xs) (I : Ow Pt.cells 4 T w lo2 hi2 x.p m d ys) (hd : hi ≤ lo2) (hat : q' = q ∨ w.heap.size ≤ pb q') : Apart q' [x] := by
  intro y hy b hb a ha
  rw [List.mem_singleton] at hy
  subst hy
  rcases I.row with ⟨e, _⟩ | ⟨b', sp, e1, e2, e3, e4, _⟩
  · rw [e] at hb; cases hb
  · rw [e1] at hb
    have hbb : b' = b := by injection hb with hb; injection hb
    rcases hat with rfl | hat
    · rcases G.row with ⟨e, _⟩ | ⟨b2, sp2, g1, g2, g3, _, _⟩
      · rw [e] at ha; cases ha
      · rw [g1] at ha
        injection ha with ha
        subst ha
        simp only
        omega
    · have := e4.lt
      rw [ha] at hat
      simp only [pb, Option.getD_some] at hat
      omega
end
/-- what a text of the right length and bytes is, as a template -/
def rtI (s : ByteArray) : Option (List TP) := if isPlain s 600 = true then rt s else none
theorem isPlain_asc {s : ByteArray} {n : Int} (h : isPlain s n = true) : asc s ∧ (s.size : Int) ≤ n := by
  simp only [isPlain, Bool.and_eq_true, decide_eq_true_eq] at h
  exact ⟨h.1, h.2⟩
/-- a template by cuts -/
theorem rt_cut (s : ByteArray) : rt s = (rp (cutT s 91).1).bind fun l =>
    if (cutT s 91).2.2 = true then
      if (cutT (cutT s 91).2.1 93).2.2 = true ∧ (cutT (cutT (cutT s 91).2.1 93).1 124).2.2 = true ∧ isWord (cutT (cutT (cutT s 91).2.1 93).1 124).1 = true then
        (rp (cutT (cutT (cutT s 91).2.1 93).1 124).2.1).bind fun i => (rt (cutT (cutT s 91).2.1 93).2.1).map fun t => l.map TP.of ++ ⟨⟨#[]⟩, (cutT (cutT (cutT s 91).2.1 93).1 124).1, true, i⟩ :: t
      else none
    else some (l.map TP.of) := by
  rw [rt_eq, rtS]
  by_cases h1 : at1 (isB 91) s < s.size
  · have e1 : cutT s 91 = (s.extract 0 (at1 (isB 91) s), tail1 s (at1 (isB 91) s), true) := by rw [cutT, if_pos h1]
    rw [if_pos h1, e1]
    simp only [if_true]
    congr 1
    funext l
    generalize tail1 s (at1 (isB 91) s) = R
    by_cases h2 : at1 (isB 93) R < R.size
    · have e2 : cutT R 93 = (R.extract 0 (at1 (isB 93) R), tail1 R (at1 (isB 93) R), true) := by rw [cutT, if_pos h2]
      rw [e2]
      simp only []
      by_cases h3 : at1 (isB 124) (R.extract 0 (at1 (isB 93) R)) < (R.extract 0 (at1 (isB 93) R)).size
      · have e3 : cutT (R.extract 0 (at1 (isB 93) R)) 124 = ((R.extract 0 (at1 (isB 93) R)).extract 0 (at1 (isB 124) (R.extract 0 (at1 (isB 93) R))), tail1 (R.extract 0 (at1 (isB 93) R)) (at1 (isB 124) (R.extract 0 (at1 (isB 93) R))), true) := by rw [cutT, if_pos h3]
        rw [e3]
        simp only [h2, h3, true_and]
      · have e3 : (cutT (R.extract 0 (at1 (isB 93) R)) 124).2.2 = false := by rw [cutT, if_neg h3]
        simp only [e3, h3, false_and, and_false, if_false, Bool.false_eq_true]
    · have e2 : (cutT R 93).2.2 = false := by rw [cutT, if_neg h2]
      simp only [e2, h2, false_and, if_false, Bool.false_eq_true]
  · have e1 : cutT s 91 = (s, ⟨#[]⟩, false) := by rw [cutT, if_neg h1]
    rw [if_neg h1, e1]
    simp only [Bool.false_eq_true, if_false]
    cases rp s <;> rfl


theorem CutB_ok (s : ByteArray) (c : UInt8) (b : Nat) (w : World) (hs : s.size ≤ 1000000) (hm : Hm w) (hb : c.toNat = b) :
    Ret Try.prog 72 [.string s, .string ⟨#[c]⟩] w (Pv w (.tuple #[.string (cutT s b).1, .string (cutT s b).2.1, .bool (cutT s b).2.2])) := by
  subst hb; exact Cut1_ok s c w hs hm
theorem IxT_ok (s : ByteArray) (w : World) (hs : s.size ≤ 1000000) (hp : asc s) :
    Ret Try.prog 67 [.string s, .string ⟨#[123, 125, 91, 93, 124]⟩] w (Pv w (.int .i64 (ixT s))) := IndexAny5_ok s w hs hp

attribute [local irreducible] at1 fstB cutT rp isWord tail1 ixT

set_option maxHeartbeats 4000000 in
theorem readPlaces_ok (s : ByteArray) (w : World) (hs : s.size ≤ 1000000) (hp : asc s) (hm : Hm w) : Ret Try.prog 73 [.string s] w (fun v w' => Ext w w' ∧ ∃ q m d, v = .tuple #[.slice q m d, .bool (rp s).isSome] ∧ Ow Pt.cells 4 77 w' w.heap.size w'.heap.size q m d (((rp s).getD []).map Pt.pp)) := by
  refine ret_of_run (N := 52) Try.func73 rfl rfl rfl ?_
  have E : Ext w w := Ext.refl w
  refine run_seq ?_
  refine run_region ?_
  refine ov (xassign rfl) rfl rfl rfl ?_
  refine ov (xassign rfl) rfl rfl rfl ?_
  refine ops_nil ?_
  refine run_seq ?_
  refine run_region ?_
  refine obuild (cs := []) (sz := 4) Try.underlying73 inf77 rfl rfl (by decide) rfl rfl (by simp [Value.cells]) rfl rfl rfl ?_
  intro b1 w1 e1 hb1 hz1 O1
  have E := E.trans e1
  have G1 : Ow Pt.cells 4 77 w1 b1 (b1 + 1) (some ⟨b1, 0, none⟩) 0 0 ([] : List Pt) := Own.ow (by simpa [Pt.cells] using O1) rfl (by omega) (Nat.le_refl _) (by omega) (by intro x hx; rfl)
  refine ov (xassign rfl) rfl rfl rfl ?_
  refine ops_nil ?_
  refine run_seq ?_
  refine run_block ?_
  refine run_loop (ι := ByteArray × List PP × Option Addr × Nat × Nat × List Pt × World) (fun x_ => match x_ with | (t, zs, q_4, m_4, c_4, ys_4, wr) => (Ext w wr) ∧ (Ow Pt.cells 4 77 wr b1 wr.heap.size q_4 m_4 c_4 ys_4) ∧ (b1 ≤ wr.heap.size) ∧ (w1.heap.size ≤ wr.heap.size) ∧ (t.size ≤ s.size) ∧ (asc t) ∧ (rp s = (rp t).map (fun l => zs ++ l)) ∧ (ys_4 = zs.map Pt.pp) ∧ (zs.length + 2 * t.size ≤ 2 * s.size)) (fun x_ => match x_ with | (t, zs, q_4, m_4, c_4, ys_4, wr) => [(0, .string t), (4, .slice q_4 m_4 c_4)]) (fun x_ => match x_ with | (t, zs, q_4, m_4, c_4, ys_4, wr) => wr) (fun x_ => match x_ with | (t, zs, q_4, m_4, c_4, ys_4, wr) => t.size) ?_ (s, [], (some ⟨b1, 0, none⟩), 0, 0, [], w1) (⟨E, G1.wide (by omega) (by omega), by omega, Nat.le_refl _, by omega, hp, (by simp), rfl, (by simp)⟩) ⟨rfl, rfl, trivial⟩ rfl
  intro i_ hI_ hback2
  obtain ⟨t, zs, q_4, m_4, c_4, ys_4, wr⟩ := i_
  obtain ⟨E, G_4, lo_4, lz_wr, hts, hpt, hrp, hy, hlz⟩ := hI_
  try dsimp only
  have zr := E.size
  have lg_4 := G_4.len
  have hlm : ys_4.length = zs.length := by rw [hy, List.length_map]
  refine run_seq ?_
  refine run_seq ?_
  refine run_region ?_
  refine ov (xmove rfl) rfl rfl rfl ?_
  refine ov (xsneq rfl rfl _ rfl) rfl rfl rfl ?_
  refine ods (fun c11 => ?_) (fun c11 => ?_)
  ·
    have hz0 := size_ne c11
    refine ops_nil ?_
    refine run_cond_t rfl ?_
    refine run_skip ?_
    refine run_block ?_
    refine run_seq ?_
    refine run_region ?_
    refine ov (xmove rfl) rfl rfl rfl ?_
    refine oc (xcall Try.call67 rfl) rfl rfl rfl (IxT_ok t _ (by omega) hpt) ?_
    rintro _ w2 ⟨rfl, e2⟩
    have z2 := e2.size
    have E := E.trans e2
    replace G_4 := G_4.ext e2
    refine ov (xassign rfl) rfl rfl rfl ?_
    refine ops_nil ?_
    refine run_seq ?_
    refine run_seq ?_
    refine run_region ?_
    refine ov (xmove rfl) rfl rfl rfl ?_
    refine ov (xlss rfl rfl _ rfl) rfl rfl rfl ?_
    refine ods (fun c15 => ?_) (fun c15 => ?_)
    ·
      refine ops_nil ?_
      refine run_cond_t rfl ?_
      refine run_seq ?_
      refine run_region ?_
      refine ov (xmove rfl) rfl rfl rfl ?_
      refine ov (xmove rfl) rfl rfl rfl ?_
      refine ov (xbuild (vs := [.string t]) (cells := #[.string t, .string ⟨#[]⟩, .bool false, .slice none 0 0]) rfl (by kernel_rfl)) rfl rfl rfl ?_
      refine obuild (cs := [.string t, .string ⟨#[]⟩, .bool false, .slice none 0 0]) (sz := 4) Try.underlying73 inf77 rfl rfl (by decide) rfl rfl (by simp [Value.cells]) rfl rfl rfl ?_
      intro b3 w3 e3 hb3 hz3 O3
      have E := E.trans e3
      replace G_4 := G_4.ext e3
      refine oapp (bytes := 64) (nm := (m_4 + 1)) G_4 rfl rfl elem77 (Own.sl1 (y := (⟨t, ⟨#[]⟩, false, none, 0, 0⟩ : Pt)) O3) (by intro h; cases h) (by intro y hy; rfl) (by intro y hy u hu; rw [List.mem_singleton] at hy; subst hy; revert u; simp [Value.oneCell', Pt.cells]) (by omega) (by omega) (by omega) (by omega) rfl rfl ?_
      intro p4 c4_ w4 m4 G4
      have hz4 := m4.size
      have E := m4.toExt E (by omega)
      try replace O3 := m4.own O3 (by omega)
      refine ov (xassign rfl) rfl rfl rfl ?_
      refine ov (xassign rfl) rfl rfl rfl ?_
      refine ops_nil ?_
      refine run_ret Try.func73 (res2 rfl rfl rfl) ?_
      have he : rp s = some (zs ++ [(t, ⟨#[]⟩)]) := by rw [hrp, rp_text hz0 (ixT_neg c15)]; rfl
      exact ⟨_, rfl, E, _, _, _, by rw [he]; rfl, by rw [he, Option.getD_some, List.map_append, ← hy]; exact G4.wide (by omega) (by omega)⟩
    ·
      have hix := ixT_pos c15
      have htl := tail1_size t hix.1
      refine ops_nil ?_
      refine run_cond_f rfl ?_
      refine run_skip ?_
      refine run_seq ?_
      refine run_seq ?_
      refine run_region ?_
      refine ov (xmove rfl) rfl rfl rfl ?_
      refine ov (xmove rfl) rfl rfl rfl ?_
      refine ov (v := .int .u8 (bAt t (at1 sp5 t) : Int)) (xindexS (i := (at1 sp5 t)) Try.underlying9 rfl rfl (by omega) (by omega)) rfl rfl rfl ?_
      refine ov (xneq rfl rfl _ rfl) rfl rfl rfl ?_
      refine ods (fun c24 => ?_) (fun c24 => ?_)
      ·
        refine ops_nil ?_
        refine run_cond_t rfl ?_
        refine run_seq ?_
        refine run_region ?_
        refine ov (xassign rfl) rfl rfl rfl ?_
        refine ov (xassign rfl) rfl rfl rfl ?_
        refine ops_nil ?_
        refine run_ret Try.func73 (res2 rfl rfl rfl) ?_
        have he : rp s = none := by rw [hrp, rp_no hz0 hix.1 (by rintro ⟨h3_, h4_, h5_⟩; omega)]; rfl
        exact ⟨_, rfl, E, none, 0, 0, by rw [he]; rfl, by rw [he]; exact Ow.none _ _ _ _ _ _⟩
      ·
        have hr := tail_ix c15
        have hrs : ByteArray.size (ByteArray.extract t (Int.toNat (ixT t + 1)) (ByteArray.size t)) = (tail1 t (at1 sp5 t)).size := by rw [hr]
        have hcs := cutT_le (ByteArray.extract t (Int.toNat (ixT t + 1)) (ByteArray.size t)) 125
        refine ops_nil ?_
        refine run_cond_f rfl ?_
        refine run_skip ?_
        refine run_seq ?_
        refine run_region ?_
        refine ov (xmove rfl) rfl rfl rfl ?_
        refine ov (xmove rfl) rfl rfl rfl ?_
        refine ov (xadd rfl rfl (by unfold I64; omega)) rfl rfl rfl ?_
        refine ov (xsliceSl Try.underlying9 rfl rfl (by omega) (by omega)) rfl rfl rfl ?_
        refine oc (xcall Try.call72 rfl) rfl rfl rfl (CutB_ok (ByteArray.extract t (Int.toNat (ixT t + 1)) (ByteArray.size t)) 125 125 _ (by omega) (hm.ext E) rfl) ?_
        rintro _ w3 ⟨rfl, e3⟩
        have z3 := e3.size
        have E := E.trans e3
        replace G_4 := G_4.ext e3
        refine ov (xmove rfl) rfl rfl rfl ?_
        refine ov (xextract rfl rfl) rfl rfl rfl ?_
        refine ov (xextract rfl rfl) rfl rfl rfl ?_
        refine ov (xextract rfl rfl) rfl rfl rfl ?_
        refine obs (fun c33 => ?_) (fun c33 => ?_)
        ·
          refine ov (xassign rfl) rfl rfl rfl ?_
          refine ov (xassign rfl) rfl rfl rfl ?_
          refine ov (xassign rfl) rfl rfl rfl ?_
          refine ops_nil ?_
          refine run_seq ?_
          refine run_seq ?_
          refine run_region ?_
          refine ov (xmove rfl) rfl rfl rfl ?_
          refine ov (xnot rfl) rfl rfl rfl ?_
          refine ov (xmove rfl) rfl rfl rfl ?_
          refine ov (xmove rfl) rfl rfl rfl ?_
          refine oc (xcall Try.call42 rfl) rfl rfl rfl (IsWord_ok ((cutT (ByteArray.extract t (Int.toNat (ixT t + 1)) (ByteArray.size t)) 125).1) _ (by first | assumption | omega)) ?_
          rintro _ w_ ⟨rfl, hw_⟩
          replace hw_ := hw_.symm
          subst hw_
          refine obs (fun c38 => ?_) (fun c38 => ?_)
          ·
            refine ov (xnot rfl) rfl rfl rfl ?_
            refine ov (xpick_f rfl rfl) rfl rfl rfl ?_
            refine ops_nil ?_
            refine run_cond_f rfl ?_
            refine run_skip ?_
            refine run_seq ?_
            refine run_region ?_
            refine ov (xmove rfl) rfl rfl rfl ?_
            refine ov (xmove rfl) rfl rfl rfl ?_
            refine ov (xmove rfl) rfl rfl rfl ?_
            refine ov (xsliceSh Try.underlying9 rfl rfl (by omega) (by omega)) rfl rfl rfl ?_
            refine ov (xbuild (vs := [.string (ByteArray.extract t 0 (Int.toNat (ixT t)))]) (cells := #[.string (ByteArray.extract t 0 (Int.toNat (ixT t))), .string ⟨#[]⟩, .bool false, .slice none 0 0]) rfl (by kernel_rfl)) rfl rfl rfl ?_
            refine ov (xmove rfl) rfl rfl rfl ?_
            refine ov (xbuild (vs := [.string (cutT (ByteArray.extract t (Int.toNat (ixT t + 1)) (ByteArray.size t)) 125).1]) (cells := #[.string ⟨#[]⟩, .string (cutT (ByteArray.extract t (Int.toNat (ixT t + 1)) (ByteArray.size t)) 125).1, .bool false, .slice none 0 0]) rfl (by kernel_rfl)) rfl rfl rfl ?_
            refine obuild (cs := [.string (ByteArray.extract t 0 (Int.toNat (ixT t))), .string ⟨#[]⟩, .bool false, .slice none 0 0, .string ⟨#[]⟩, .string (cutT (ByteArray.extract t (Int.toNat (ixT t + 1)) (ByteArray.size t)) 125).1, .bool false, .slice none 0 0]) (sz := 4) Try.underlying73 inf77 rfl rfl (by decide) rfl rfl (by simp [Value.cells]) rfl rfl rfl ?_
            intro b4 w4 e4 hb4 hz4 O4
            have E := E.trans e4
            replace G_4 := G_4.ext e4
            have G4 : Ow Pt.cells 4 77 w4 b4 (b4 + 1) (some ⟨b4, 0, none⟩) 2 2 ([⟨ByteArray.extract t 0 (Int.toNat (ixT t)), ⟨#[]⟩, false, none, 0, 0⟩, ⟨⟨#[]⟩, (cutT (ByteArray.extract t (Int.toNat (ixT t + 1)) (ByteArray.size t)) 125).1, false, none, 0, 0⟩] : List Pt) := Own.ow (by simpa [Pt.cells] using O4) rfl (by omega) (Nat.le_refl _) (by omega) (by intro x hx; rfl)
            refine oapp (bytes := 64) (nm := (m_4 + 2)) G_4 rfl rfl elem77 (G4.sl) (ow_nil G4) (by intro y hy; rfl) (by intro y hy u hu; simp only [List.mem_cons, List.not_mem_nil, or_false] at hy; rcases hy with rfl | rfl <;> (simp only [Pt.cells, List.mem_cons, List.not_mem_nil, or_false] at hu; rcases hu with rfl | rfl | rfl | rfl <;> rfl)) (by omega) (by omega) (by omega) (by omega) rfl rfl ?_
            intro p5 c5_ w5 m5 G5
            have hz5 := m5.size
            have E := m5.toExt E (by omega)
            replace G4 := G4.off m5 (by omega)
            refine ov (xassign rfl) rfl rfl rfl ?_
            refine ops_nil ?_
            refine run_region ?_
            refine ov (xmove rfl) rfl rfl rfl ?_
            refine ov (xassign rfl) rfl rfl rfl ?_
            refine ops_nil ?_
            refine run_inBlock ?_
            refine run_sub ?_ (hback2 ((cutT (ByteArray.extract t (Int.toNat (ixT t + 1)) (ByteArray.size t)) 125).2.1, (zs ++ [(ByteArray.extract t 0 (Int.toNat (ixT t)), ⟨#[]⟩), (⟨#[]⟩, (cutT (ByteArray.extract t (Int.toNat (ixT t + 1)) (ByteArray.size t)) 125).1)]), p5, (m_4 + 2), c5_, (ys_4 ++ [⟨ByteArray.extract t 0 (Int.toNat (ixT t)), ⟨#[]⟩, false, none, 0, 0⟩, ⟨⟨#[]⟩, (cutT (ByteArray.extract t (Int.toNat (ixT t + 1)) (ByteArray.size t)) 125).1, false, none, 0, 0⟩]), w5) (⟨E, G5.wide (by omega) (by omega), by omega, by omega, by omega, (asc_cut (by rw [hr]; exact asc_tail hpt _) 125).2, by rw [hrp, rp_go hz0 hix.1 (by omega) (by rw [← hr]; exact c33) (by rw [← hr]; exact c38), ← hr, head_ix c15, Option.map_map]; congr 1; funext l; simp, by rw [hy, List.map_append]; rfl, by have := cutT_lt c33; simp only [List.length_append, List.length_cons, List.length_nil]; omega⟩) (by have := cutT_lt c33; dsimp only; omega))
            exact ⟨rfl, rfl, trivial⟩
          ·
            refine ov (xnot rfl) rfl rfl rfl ?_
            refine ov (xpick_f rfl rfl) rfl rfl rfl ?_
            refine ops_nil ?_
            refine run_cond_t rfl ?_
            refine run_seq ?_
            refine run_region ?_
            refine ov (xassign rfl) rfl rfl rfl ?_
            refine ov (xassign rfl) rfl rfl rfl ?_
            refine ops_nil ?_
            refine run_ret Try.func73 (res2 rfl rfl rfl) ?_
            have he : rp s = none := by rw [hrp, rp_no hz0 hix.1 (by rintro ⟨h3_, h4_, h5_⟩; rw [← hr] at h4_ h5_; simp [c38] at h5_)]; rfl
            exact ⟨_, rfl, E, none, 0, 0, by rw [he]; rfl, by rw [he]; exact Ow.none _ _ _ _ _ _⟩
        ·
          refine ov (xassign rfl) rfl rfl rfl ?_
          refine ov (xassign rfl) rfl rfl rfl ?_
          refine ov (xassign rfl) rfl rfl rfl ?_
          refine ops_nil ?_
          refine run_seq ?_
          refine run_seq ?_
          refine run_region ?_
          refine ov (xmove rfl) rfl rfl rfl ?_
          refine ov (xnot rfl) rfl rfl rfl ?_
          refine ov (xmove rfl) rfl rfl rfl ?_
          refine og rfl rfl rfl ?_
          refine og rfl rfl rfl ?_
          refine og rfl rfl rfl ?_
          refine ov (xpick_t rfl rfl) rfl rfl rfl ?_
          refine ops_nil ?_
          refine run_cond_t rfl ?_
          refine run_seq ?_
          refine run_region ?_
          refine ov (xassign rfl) rfl rfl rfl ?_
          refine ov (xassign rfl) rfl rfl rfl ?_
          refine ops_nil ?_
          refine run_ret Try.func73 (res2 rfl rfl rfl) ?_
          have he : rp s = none := by rw [hrp, rp_no hz0 hix.1 (by rintro ⟨h3_, h4_, h5_⟩; rw [← hr] at h4_ h5_; simp [c33] at h4_)]; rfl
          exact ⟨_, rfl, E, none, 0, 0, by rw [he]; rfl, by rw [he]; exact Ow.none _ _ _ _ _ _⟩
  ·
    refine ops_nil ?_
    refine run_cond_f rfl ?_
    refine run_exit rfl ?_
    refine run_seq ?_
    refine run_region ?_
    refine ov (xmove rfl) rfl rfl rfl ?_
    refine ov (xassign rfl) rfl rfl rfl ?_
    refine ov (xassign rfl) rfl rfl rfl ?_
    refine ops_nil ?_
    refine run_ret Try.func73 (res2 rfl rfl rfl) ?_
    have hz1 : t.size = 0 := by rw [Classical.not_not.1 c11]; rfl
    have he : rp s = some zs := by rw [hrp, rp_empty hz1]; simp
    exact ⟨_, rfl, E, _, _, _, by rw [he]; rfl, by rw [he, Option.getD_some, ← hy]; exact G_4.wide (by omega) (by omega)⟩
end Go.Proofs.Ytgbedilaiefcbaa

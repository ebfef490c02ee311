/-
  Texts cut at a byte, numbers read, in plain words. No condition beyond those written in each theorem.
-/
import Derived.Test.YtnjohcbamblilaaDoorRulText
import Derived.Lib.SplitLaws
import Derived.Lib.ParseIntB
namespace Go.Proofs.YtnjohcbamblilaaDoor
open Go.RowKit
set_option linter.unusedVariables false
set_option linter.unusedSimpArgs false
set_option linter.unusedSectionVars false
set_option maxRecDepth 4000

/-- l cut at each b -/
def cutB (b : UInt8) : List UInt8 → List (List UInt8)
  | [] => [[]]
  | c :: r => if c = b then [] :: cutB b r else match cutB b r with
    | [] => [[c]]
    | p :: ps => (c :: p) :: ps
theorem cutB_len (b : UInt8) : ∀ l : List UInt8, 0 < (cutB b l).length ∧ (cutB b l).length ≤ l.length + 1
  | [] => ⟨Nat.succ_pos _, Nat.le_refl _⟩
  | c :: r => by
    have h := cutB_len b r
    rw [cutB]
    split
    · simp; omega
    · split
      · simp
      · rename_i p ps he
        rw [he] at h
        simp at h ⊢; omega
theorem cut_app (b : UInt8) : ∀ (l r : List UInt8), (∀ c ∈ l, c ≠ b) → cutB b (l ++ b :: r) = l :: cutB b r
  | [], r, _ => by rw [List.nil_append, cutB, if_pos rfl]
  | c :: l, r, h => by
    rw [List.cons_append, cutB, if_neg (h c (List.mem_cons_self ..)), cut_app b l r fun d hd => h d (List.mem_cons_of_mem _ hd)]
theorem cut_none (b : UInt8) : ∀ (l : List UInt8), (∀ c ∈ l, c ≠ b) → cutB b l = [l]
  | [], _ => rfl
  | c :: l, h => by
    rw [cutB, if_neg (h c (List.mem_cons_self ..)), cut_none b l fun d hd => h d (List.mem_cons_of_mem _ hd)]
theorem splitK_cut (b : UInt8) : ∀ l : List UInt8, Lib.splitK [b] 0 (Lib.count l [b]) l = cutB b l
  | [] => by rw [Lib.count_miss (by simp [Lib.index])]; rfl
  | c :: r => by
    by_cases h : c = b
    · subst h
      have hix : Lib.index (c :: r) [c] = ((0 : Nat) : Int) := by rw [Lib.index]; simp [List.isPrefixOf]
      rw [Lib.count_cons_eq, Nat.add_comm, Lib.splitK, hix, cutB, if_pos rfl, ← splitK_cut c r]
      rfl
    · have hix : Lib.index (c :: r) [b] = if Lib.index r [b] == -1 then -1 else Lib.index r [b] + 1 := by
        have hp : ([b] : List UInt8).isPrefixOf (c :: r) = false := by simp [List.isPrefixOf, Ne.symm h]
        rw [Lib.index, hp]; simp
      rw [Lib.count_cons_ne c b r h, cutB, if_neg h, ← splitK_cut b r]
      rcases Lib.index_spec r [b] with ⟨hm, _⟩ | ⟨i, hi, _, _, _⟩
      · rw [Lib.count_miss hm]; rfl
      · have hc := Lib.count_hit (s := r) (sub := [b]) (by simp) hi
        have h1 : ¬ (((i : Int) == -1) = true) := by rw [beq_iff_eq]; omega
        have h2 : ¬ (((i : Int) + 1 == -1) = true) := by rw [beq_iff_eq]; omega
        rw [hc, Nat.add_comm, Lib.splitK, Lib.splitK, hix, hi, if_neg h1, if_neg h2, if_neg h1, show ((i : Int) + 1).toNat = i + 1 from by omega, show ((i : Int)).toNat = i from by omega]
        rfl
/-- s cut at each b -/
def cutBs (b : UInt8) (s : ByteArray) : List ByteArray := (cutB b s.data.toList).map fun l => ⟨l.toArray⟩
theorem of_data {xs : List ByteArray} {ys : List (List UInt8)} (h : xs.map (·.data.toList) = ys) : xs = ys.map fun l => ⟨l.toArray⟩ := by
  subst h
  rw [List.map_map]
  exact (List.map_id' xs).symm
theorem splitB_cut (b : UInt8) (s : ByteArray) : Lib.splitB ⟨#[b]⟩ 0 (Lib.countB s ⟨#[b]⟩) s = cutBs b s :=
  of_data ((Lib.splitB_data ⟨#[b]⟩ 0 (Lib.countB s ⟨#[b]⟩) s).trans (splitK_cut b _))
theorem cutBs_len (b : UInt8) (s : ByteArray) : 0 < (cutBs b s).length ∧ (cutBs b s).length ≤ s.size + 1 := by
  have h := cutB_len b s.data.toList
  rw [cutBs, List.length_map]
  exact h
theorem bAt_list {s : ByteArray} {j : Nat} (h : j < s.data.toList.length) : bAt s j = (s.data.toList[j]).toNat := by
  have h' : j < s.size := h
  rw [bAt, dif_pos h']; rfl
theorem ext_list (s : ByteArray) (f k : Nat) : (s.extract f k).data.toList = (s.data.toList.drop f).take (k - f) := by
  rw [Lib.extract_data]
theorem no_in {s : ByteArray} {b : UInt8} {f k : Nat} (hno : ∀ j, f ≤ j → j < k → bAt s j ≠ b.toNat) : ∀ c ∈ (s.extract f k).data.toList, c ≠ b := by
  intro c hc he
  rw [ext_list] at hc
  obtain ⟨i, hi, rfl⟩ := List.mem_iff_getElem.1 hc
  have hi2 := hi
  rw [List.length_take, List.length_drop] at hi2
  rw [List.getElem_take, List.getElem_drop] at he
  exact hno (f + i) (by omega) (by omega) (by rw [bAt_list (by omega), he])
theorem cut_hit {s : ByteArray} {b : UInt8} {f k : Nat} (hfk : f ≤ k) (hk : k < s.size) (hno : ∀ j, f ≤ j → j < k → bAt s j ≠ b.toNat) (hb : bAt s k = b.toNat) :
    cutB b (s.data.toList.drop f) = (s.extract f k).data.toList :: cutB b (s.data.toList.drop (k + 1)) := by
  have hk2 : k < s.data.toList.length := hk
  rw [← cut_app b _ _ (no_in hno), ext_list]
  congr 1
  have h1 : s.data.toList.drop f = (s.data.toList.drop f).take (k - f) ++ s.data.toList.drop k := by
    conv => lhs; rw [← List.take_append_drop (k - f) (s.data.toList.drop f)]
    rw [List.drop_drop, show f + (k - f) = k from by omega]
  have h2 : s.data.toList.drop k = b :: s.data.toList.drop (k + 1) := by
    rw [List.drop_eq_getElem_cons hk2]
    congr 1
    rw [bAt_list hk2] at hb
    exact UInt8.toNat_inj.1 hb
  rw [← h2]; exact h1
theorem cut_end {s : ByteArray} {b : UInt8} {f : Nat} (hf : f ≤ s.size) (hno : ∀ j, f ≤ j → j < s.size → bAt s j ≠ b.toNat) :
    cutB b (s.data.toList.drop f) = [(s.extract f s.size).data.toList] := by
  have h := cut_none b _ (no_in hno)
  rw [← h, ext_list]
  congr 1
  rw [List.take_of_length_le]
  rw [List.length_drop]; exact Nat.le_refl _
/-- the value of digits -/
def valD (a : Nat) (l : List UInt8) : Nat := l.foldl (fun a c => 10 * a + (c.toNat - 48)) a
theorem valD_nil (a : Nat) : valD a [] = a := rfl
theorem valD_cons (a : Nat) (c : UInt8) (r : List UInt8) : valD a (c :: r) = valD (10 * a + (c.toNat - 48)) r := by
  unfold valD; rw [List.foldl_cons]
def dig (c : UInt8) : Prop := 48 ≤ c.toNat ∧ c.toNat ≤ 57
theorem valD_app (l : List UInt8) (a : Nat) (c : UInt8) : valD a (l ++ [c]) = 10 * valD a l + (c.toNat - 48) := by
  unfold valD; rw [List.foldl_append]; rfl
theorem valD_ge : ∀ (l : List UInt8) (a : Nat), a ≤ valD a l
  | [], a => Nat.le_refl _
  | c :: l, a => by
    have := valD_ge l (10 * a + (c.toNat - 48))
    rw [valD_cons]; omega
theorem digN {k : Nat} (h : k < 10) : (UInt8.ofNat (48 + k)).toNat = 48 + k := by
  rw [UInt8.toNat_ofNat']; omega
theorem decD_all : ∀ (k u : Nat), u ≤ k → (∀ c ∈ Lib.decDigits u, dig c) ∧ valD 0 (Lib.decDigits u) = u ∧ Lib.decDigits u ≠ []
  | k, u, h => by
    rw [Lib.decDigits]
    split
    · rename_i h10
      refine ⟨fun c hc => ?_, ?_, by simp⟩
      · rw [List.mem_singleton] at hc; subst hc; unfold dig; rw [digN h10]; omega
      · rw [valD_cons, valD_nil, digN h10]; omega
    · rename_i h10
      cases k with
      | zero => omega
      | succ k =>
        obtain ⟨h1, h2, h3⟩ := decD_all k (u / 10) (by omega)
        refine ⟨fun c hc => ?_, ?_, by simp⟩
        · rcases List.mem_append.1 hc with hc | hc
          · exact h1 c hc
          · rw [List.mem_singleton] at hc; subst hc; unfold dig; rw [digN (by omega)]; omega
        · rw [valD_app, h2, digN (by omega)]; omega
theorem dec_inj {u v : Nat} (h : dec u = dec v) : u = v := by
  have h2 : Lib.decDigits u = Lib.decDigits v := by
    have := congrArg (fun b : ByteArray => b.data.toList) h
    simpa [dec] using this
  have h3 := (decD_all u u (Nat.le_refl _)).2.1
  rw [h2, (decD_all v v (Nat.le_refl _)).2.1] at h3
  exact h3.symm
theorem parse_small : ∀ (l : List UInt8) (a : Nat), (∀ c ∈ l, dig c) → valD a l ≤ 20000 → Lib.parseUintM (2 ^ 64 - 1) a l = .ok (valD a l)
  | [], a, _, _ => rfl
  | c :: l, a, hd, hv => by
    have hc := hd c (List.mem_cons_self ..)
    have hg := valD_ge l (10 * a + (c.toNat - 48))
    rw [valD_cons] at hv ⊢
    unfold dig at hc
    rw [Lib.parseUintM, if_pos hc, if_neg (by omega), if_neg (by omega), show a * 10 + (c.toNat - 48) = 10 * a + (c.toNat - 48) from by omega]
    exact parse_small l _ (fun d h => hd d (List.mem_cons_of_mem _ h)) hv
theorem parse_dec {u : Nat} (h : u ≤ 20000) : Lib.parseIntB 64 (dec u).data.toList = .ok (u : Int) := by
  have e : (dec u).data.toList = Lib.decDigits u := by simp [dec]
  obtain ⟨h1, h2, h3⟩ := decD_all u u (Nat.le_refl _)
  have hp := parse_small (Lib.decDigits u) 0 h1 (by omega)
  rw [e]
  rw [h2] at hp
  cases hl : Lib.decDigits u with
  | nil => exact absurd hl h3
  | cons c r =>
    have hc := h1 c (by rw [hl]; exact List.mem_cons_self ..)
    unfold dig at hc
    rw [hl] at hp
    have hu : Lib.parseUintB 64 (c :: r) = .ok u := by rw [Lib.parseUintB, if_neg (by simp)]; exact hp
    have h45 : ¬ c.toNat = 45 := by omega
    have h43 : ¬ (c.toNat = 43 ∨ c.toNat = 45) := by omega
    unfold Lib.parseIntB
    dsimp only
    rw [if_neg h43, hu]
    dsimp only
    rw [if_neg (fun hx => by have h5 : 9223372036854775808 ≤ u := hx.2; omega), if_neg (fun hx => h45 hx.1), if_neg h45]

end Go.Proofs.YtnjohcbamblilaaDoor

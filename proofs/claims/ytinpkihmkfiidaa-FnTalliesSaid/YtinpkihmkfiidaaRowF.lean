/-
  The laws' own functions on slices of slices of numbers, and on polls. No condition beyond those written in each theorem.
-/
import Derived.Test.YtinpkihmkfiidaaLists
import Derived.Test.YtinpkihmkfiidaaNest
import Derived.Test.YtinpkihmkfiidaaMarkB
import Derived.Test.YtinpkihmkfiidaaEqB
import Derived.Test.YtinpkihmkfiidaaToB
namespace Go.Proofs.Ytinpkihmkfiidaa
open Go.RowKit
set_option linter.unusedVariables false
set_option linter.unusedSimpArgs false
set_option linter.unusedSectionVars false
set_option maxRecDepth 4000

theorem goS_tot {α : Type} {f : α → Int → Int} {g : α → Nat} (hf : ∀ x l, 0 ≤ f x l → f x l + (g x : Int) ≤ l) : ∀ (xs : List α) (l : Int), 0 ≤ goS f xs l → goS f xs l + (tot g xs : Int) ≤ l
  | [], l, h => by simp [goS, tot]
  | x :: r, l, h => by
    unfold goS at h ⊢
    split at h
    · omega
    · rename_i hn
      rw [if_neg hn]
      have h1 := hf x l (by omega)
      have h2 := goS_tot hf r (f x l) h
      simp only [tot]; omega
theorem tot_one {α : Type} (g : α → Nat) : ∀ xs : List α, tot (fun x => 1 + g x) xs = xs.length + tot g xs
  | [] => rfl
  | x :: r => by simp only [tot, List.length_cons, tot_one g r]; omega
theorem szS_tot {α : Type} {f : α → Int → Int} {g : α → Nat} (hf : ∀ x l, 0 ≤ f x l → f x l + (g x : Int) ≤ l) {xs : List α} {l : Int} (h : 0 ≤ szS f xs l) : szS f xs l + (tot (fun x => 1 + g x) xs : Int) ≤ l := by
  unfold szS at h ⊢
  split at h
  · omega
  · rename_i hn
    rw [if_neg hn]
    have := goS_tot hf xs _ h
    rw [tot_one]; omega
theorem tot_of_mem {α : Type} {kx : α → Nat} : ∀ {xs : List α} {x : α}, x ∈ xs → kx x ≤ tot kx xs
  | y :: r, x, m => by
    simp only [tot]
    rcases List.mem_cons.1 m with m | m
    · subst m; omega
    · have := tot_of_mem (kx := kx) m; omega
theorem tot_le {α : Type} {kx kz : α → Nat} {m : Nat} (h : ∀ x, kx x ≤ m * kz x) : ∀ xs : List α, tot kx xs ≤ m * tot kz xs
  | [] => by simp [tot]
  | x :: r => by
    have := h x; have := tot_le h r
    simp only [tot, Nat.mul_add]; omega
theorem bnd_le {a l : Int} {f : Int → Int} (h1 : -1 ≤ a ∧ a ≤ l) (h2 : ∀ m, 0 ≤ m → m ≤ l → -1 ≤ f m ∧ f m ≤ m) : -1 ≤ bnd a f ∧ bnd a f ≤ l := by
  unfold bnd; split
  · omega
  · have := h2 a (by omega) h1.2; omega
theorem sub1_le {k : Nat} {l : Int} (h : -1 ≤ l) : -1 ≤ sub1 k l ∧ sub1 k l ≤ l := by unfold sub1; split <;> omega
def szT (s : ByteArray) (l : Int) : Int := sub1 s.size l
def szI (_ : Int) (l : Int) : Int := l
theorem szT_le (s : ByteArray) (l : Int) (h : -1 ≤ l) : -1 ≤ szT s l ∧ szT s l ≤ l := sub1_le h
theorem szI_le (s : Int) (l : Int) (h : -1 ≤ l) : -1 ≤ szI s l ∧ szI s l ≤ l := by unfold szI; omega


def szRow (x : List Int) (l : Int) : Int := sub1 x.length l
def eqRow (x y : List Int) : Bool := eqL eqI x y
theorem eqRow_refl (x : List Int) : eqRow x x = true := eqL_refl eqI_refl x
structure Poll where
  Need : Int
  Votes : List (List Int)
def Poll.ok (x : Poll) : Prop := I64 x.Need ∧ ∀ v ∈ x.Votes, ∀ y ∈ v, I64 y
def szPoll (x : Poll) (l : Int) : Int := szS szRow x.Votes l
def eqPoll (x y : Poll) : Bool := decide (x.Need = y.Need) && eqL eqRow x.Votes y.Votes
theorem eqPoll_refl (x : Poll) : eqPoll x x = true := by simp [eqPoll, eqL_refl eqRow_refl]

def cellsInt64SS (v : (List Int)) (h : Hd) : List Value := [.slice h.p h.n h.c]
def innInt64SS (v : (List Int)) : List Int := v
abbrev SnInt64SS (w : World) (p : Option Addr) (n c : Nat) (vs : List (List Int)) : Prop := Sn cellsInt64SS 1 innInt64SS i64c 1 w p n c vs
abbrev OnInt64SS (w : World) (lo hi : Nat) (p : Option Addr) (n c : Nat) (vs : List (List Int)) : Prop := On cellsInt64SS 1 31 innInt64SS i64c 1 2 w lo hi p n c vs
def kxInt64SS (v : (List Int)) : Nat := v.length


set_option maxHeartbeats 400000 in
theorem szInt64S_ok (p : Option Addr) (n c : Nat) (xs : List Int) (l : Int) (w : World) (H : Sl i64c 1 w p n c xs) (hx : ∀ y ∈ xs, I64 y) (h0 : 0 ≤ l) (h1 : l ≤ 1048576) : Ret Try.prog 139 [.slice p n c, .int .i64 l] w (Pv w (.int .i64 (szRow xs l))) := by
  refine ret_of_run (N := 12) Try.func139 rfl rfl rfl ?_
  have hn := H.len
  have hn6 := H.n64
  have E : Ext w w := Ext.refl w
  refine run_seq ?_
  refine run_region ?_
  refine ov (xassign rfl) rfl rfl rfl ?_
  refine ops_nil ?_
  refine run_seq ?_
  refine run_region ?_
  refine ov (xmove rfl) rfl rfl rfl ?_
  refine ov (xmove rfl) rfl rfl rfl ?_
  refine ov (xlen Try.underlying31 rfl) rfl rfl rfl ?_
  refine ov (xsub rfl rfl (by unfold I64; omega)) rfl rfl rfl ?_
  refine ov (xassign rfl) rfl rfl rfl ?_
  refine ops_nil ?_
  refine run_seq ?_
  refine run_seq ?_
  refine run_region ?_
  refine ov (xmove rfl) rfl rfl rfl ?_
  refine ov (xlss rfl rfl _ rfl) rfl rfl rfl ?_
  refine ods (fun c10 => ?_) (fun c10 => ?_)
  ·
    refine ops_nil ?_
    refine run_cond_t rfl ?_
    refine run_seq ?_
    refine run_region ?_
    refine ov (xassign rfl) rfl rfl rfl ?_
    refine ops_nil ?_
    refine run_ret Try.func139 (res1 rfl rfl) ?_
    exact ⟨_, rfl, by rw [szRow, sub1, if_pos (by omega)], E⟩
  ·
    refine ops_nil ?_
    refine run_cond_f rfl ?_
    refine run_skip ?_
    refine run_seq ?_
    refine run_region ?_
    refine ov (xmove rfl) rfl rfl rfl ?_
    refine ov (xassign rfl) rfl rfl rfl ?_
    refine ops_nil ?_
    refine run_ret Try.func139 (res1 rfl rfl) ?_
    exact ⟨_, rfl, by rw [szRow, sub1, if_neg (by omega), hn], E⟩

theorem szLeInt64SS (x : (List Int)) (l : Int) (h : -1 ≤ l) : -1 ≤ szRow x l ∧ szRow x l ≤ l := by exact sub1_le h
theorem szTotInt64SS (x : (List Int)) (l : Int) (h : 0 ≤ szRow x l) : szRow x l + ((innInt64SS x).length : Int) ≤ l := by 
  have := sub1_nn h; simp only [szRow, innInt64SS] at *; omega
theorem szMemInt64SS {xs : List (List Int)} {l : Int} (h : 0 ≤ szS szRow xs l) : (xs.length : Int) ≤ l ∧ szS szRow xs l ≤ l ∧ (∀ x ∈ xs, ((innInt64SS x).length : Int) ≤ l) ∧ (tot kxInt64SS xs : Int) ≤ 1 * l := by
  have h1 := szS_tot szTotInt64SS h
  have h2 := szS_len szLeInt64SS h
  refine ⟨h2.1, by omega, fun x m => ?_, ?_⟩
  · have := tot_of_mem (kx := fun x => 1 + (innInt64SS x).length) m; (try simp only at this); omega
  · have := tot_le (kx := kxInt64SS) (kz := fun x => 1 + (innInt64SS x).length) (m := 1) (fun x => by simp only [kxInt64SS, innInt64SS]; omega) xs; omega


set_option maxHeartbeats 400000 in
theorem szInt64SS_ok (p : Option Addr) (n c : Nat) (xs : List (List Int)) (l0 : Int) (w : World) (H0 : SnInt64SS w p n c xs) (hx : ∀ x ∈ xs, ∀ y ∈ x, I64 y) (h0 : 0 ≤ l0) (h1 : l0 ≤ 1048576) : Ret Try.prog 102 [.slice p n c, .int .i64 l0] w (Pv w (.int .i64 (szS szRow xs l0))) := by
  refine ret_of_run (N := 27) Try.func102 rfl rfl rfl ?_
  obtain ⟨hd, H⟩ := H0
  have hn := H.len
  have hn6 := H.n64
  have E : Ext w w := Ext.refl w
  refine run_seq ?_
  refine run_region ?_
  refine ov (xassign rfl) rfl rfl rfl ?_
  refine ops_nil ?_
  refine run_seq ?_
  refine run_region ?_
  refine ov (xmove rfl) rfl rfl rfl ?_
  refine ov (xmove rfl) rfl rfl rfl ?_
  refine ov (xlen Try.underlying36 rfl) rfl rfl rfl ?_
  refine ov (xsub rfl rfl (by unfold I64; omega)) rfl rfl rfl ?_
  refine ov (xassign rfl) rfl rfl rfl ?_
  refine ops_nil ?_
  refine run_seq ?_
  refine run_seq ?_
  refine run_region ?_
  refine ov (xmove rfl) rfl rfl rfl ?_
  refine ov (xlss rfl rfl _ rfl) rfl rfl rfl ?_
  refine ods (fun c11 => ?_) (fun c11 => ?_)
  ·
    refine ops_nil ?_
    refine run_cond_t rfl ?_
    refine run_seq ?_
    refine run_region ?_
    refine ov (xassign rfl) rfl rfl rfl ?_
    refine ops_nil ?_
    refine run_ret Try.func102 (res1 rfl rfl) ?_
    exact ⟨_, rfl, by rw [szS, if_pos (by omega)], E⟩
  ·
    refine ops_nil ?_
    refine run_cond_f rfl ?_
    refine run_skip ?_
    refine run_seq ?_
    refine run_seq ?_
    refine run_region ?_
    refine ov (xassign rfl) rfl rfl rfl ?_
    refine ops_nil ?_
    refine run_block ?_
    refine run_loop (ι := Nat × Int × World) (fun x_ => match x_ with | (k, l, wr) => (Ext w wr) ∧ (w.heap.size ≤ wr.heap.size) ∧ (k ≤ n) ∧ (0 ≤ l) ∧ (l ≤ 1048576) ∧ (goS szRow xs (l0 - xs.length) = goS szRow (xs.drop k) l)) (fun x_ => match x_ with | (k, l, wr) => [(0, .slice p n c), (1, .int .i64 l), (5, .int .i64 (k : Int))]) (fun x_ => match x_ with | (k, l, wr) => wr) (fun x_ => match x_ with | (k, l, wr) => n - k) ?_ (0, l0 - (n : Int), w) (⟨E, Nat.le_refl _, by omega, by omega, by omega, by rw [hn]; rfl⟩) ⟨rfl, rfl, rfl, trivial⟩ rfl
    intro i_ hI_ hback5
    obtain ⟨k, l, wr⟩ := i_
    obtain ⟨E, lz_wr, hk, hl0, hl1, hg⟩ := hI_
    try dsimp only
    have zr := E.size
    refine run_seq ?_
    refine run_seq ?_
    refine run_region ?_
    refine ov (xmove rfl) rfl rfl rfl ?_
    refine ov (xmove rfl) rfl rfl rfl ?_
    refine ov (xlen Try.underlying36 rfl) rfl rfl rfl ?_
    refine ov (xlss rfl rfl _ rfl) rfl rfl rfl ?_
    refine ods (fun c15 => ?_) (fun c15 => ?_)
    ·
      refine ops_nil ?_
      refine run_cond_t rfl ?_
      refine run_skip ?_
      refine run_seq ?_
      refine run_block ?_
      refine run_seq ?_
      refine run_region ?_
      refine ov (xmove rfl) rfl rfl rfl ?_
      refine ov (xmove rfl) rfl rfl rfl ?_
      have h20 := (H.ext E).at (i := k) (by omega)
      refine ov (xindexN (i := k) Try.underlying36 Try.sizeOf31 rfl rfl rfl ((H.ext E).p (i := k) (by omega)) (by have := (H.ext E).len; omega)) rfl rfl rfl ?_
      refine ov (v := .slice (hd k).p (hd k).n (hd k).c) (xloadz Try.isAgg31 rfl (h20) rfl) rfl rfl rfl ?_
      refine ov (xmove rfl) rfl rfl rfl ?_
      refine oc (xcall Try.call139 rfl) rfl rfl rfl (szInt64S_ok _ _ _ xs[k] l _ ((H.inner (i := k) (by omega)).ext E) (hx _ (List.getElem_mem _)) (by omega) (by omega)) ?_
      rintro _ w1 ⟨rfl, e1⟩
      have z1 := e1.size
      have E := E.trans e1
      refine ov (xassign rfl) rfl rfl rfl ?_
      refine ops_nil ?_
      refine run_seq ?_
      refine run_region ?_
      refine ov (xmove rfl) rfl rfl rfl ?_
      refine ov (xlss rfl rfl _ rfl) rfl rfl rfl ?_
      refine ods (fun c25 => ?_) (fun c25 => ?_)
      ·
        refine ops_nil ?_
        refine run_cond_t rfl ?_
        refine run_seq ?_
        refine run_region ?_
        refine ov (xassign rfl) rfl rfl rfl ?_
        refine ops_nil ?_
        refine run_ret Try.func102 (res1 rfl rfl) ?_
        exact ⟨_, rfl, by rw [szS, if_neg (by omega), hg, List.drop_eq_getElem_cons (by omega), goS, if_pos (by omega)], E⟩
      ·
        refine ops_nil ?_
        refine run_cond_f rfl ?_
        refine run_skip ?_
        refine run_inBlock ?_
        refine run_region ?_
        refine ov (xmove rfl) rfl rfl rfl ?_
        refine ov (xadd rfl rfl (by unfold I64; omega)) rfl rfl rfl ?_
        refine ov (xassign rfl) rfl rfl rfl ?_
        refine ops_nil ?_
        refine run_sub ?_ (hback5 (k + 1, szRow xs[k] l, w1) (⟨E, by omega, by omega, by omega, by have := (szLeInt64SS xs[k] l (by omega)).2; omega, by rw [hg, List.drop_eq_getElem_cons (by omega), goS, if_neg (by omega)]⟩) (by first | omega | (dsimp only; omega)))
        exact ⟨rfl, rfl, rfl, trivial⟩
    ·
      refine ops_nil ?_
      refine run_cond_f rfl ?_
      refine run_exit rfl ?_
      refine run_seq ?_
      refine run_region ?_
      refine ov (xmove rfl) rfl rfl rfl ?_
      refine ov (xassign rfl) rfl rfl rfl ?_
      refine ops_nil ?_
      refine run_ret Try.func102 (res1 rfl rfl) ?_
      obtain rfl : k = n := by omega
      exact ⟨_, rfl, by rw [szS, if_neg (by omega), hg, hn, List.drop_length, goS], E⟩

set_option maxHeartbeats 400000 in
theorem toInt64SS_ok (p : Option Addr) (n c : Nat) (xs : List (List Int)) (w : World) (H0 : SnInt64SS w p n c xs) (hm : ∀ x ∈ xs, ((innInt64SS x).length : Int) ≤ 1048576) (hn2 : n ≤ 1048576) : Ret Try.prog 103 [.slice p n c] w (fun v w' => Ext w w' ∧ ∃ q, v = .slice (some q) n n ∧ OnInt64SS w' w.heap.size w'.heap.size (some q) n n xs) := by
  refine ret_of_run (N := 23) Try.func103 rfl rfl rfl ?_
  obtain ⟨hd, H⟩ := H0
  have hn := H.len
  have hn6 := H.n64
  have E : Ext w w := Ext.refl w
  refine run_seq ?_
  refine run_region ?_
  refine ov (xassign rfl) rfl rfl rfl ?_
  refine ops_nil ?_
  refine run_seq ?_
  refine run_region ?_
  refine ov (xmove rfl) rfl rfl rfl ?_
  refine ov (xlen Try.underlying36 rfl) rfl rfl rfl ?_
  refine omake (n := n) Try.underlying36 inf31 rfl rfl (by decide) rfl rfl rfl rfl (by simp only [Try.t31]; omega) (by omega) rfl rfl ?_
  intro b1 w1 e1 hb1 hz1 O1
  have E := E.trans e1
  replace O1 : Own w1 b1 (List.replicate (n) ([.slice none 0 0] : List Value)).flatten 31 := O1
  refine ov (xassign rfl) rfl rfl rfl ?_
  refine ops_nil ?_
  refine run_seq ?_
  refine run_seq ?_
  refine run_region ?_
  refine ov (xassign rfl) rfl rfl rfl ?_
  refine ops_nil ?_
  refine run_block ?_
  refine run_loop (ι := Nat × List (X ((List Int))) × World) (fun x_ => match x_ with | (k, ys, wr) => (Ext w wr) ∧ (Own wr b1 ((ys.map (xc cellsInt64SS) ++ List.replicate (n - k) ([.slice none 0 0] : List Value)).flatten) 31) ∧ (Inn innInt64SS i64c 1 2 wr (b1 + 1) wr.heap.size ys) ∧ (w1.heap.size ≤ wr.heap.size) ∧ (k ≤ n) ∧ (ys.length = k) ∧ (ys.map X.v = xs.take k)) (fun x_ => match x_ with | (k, ys, wr) => [(0, .slice p n c), (3, .slice (some ⟨b1, 0, none⟩) n n), (4, .int .i64 (k : Int))]) (fun x_ => match x_ with | (k, ys, wr) => wr) (fun x_ => match x_ with | (k, ys, wr) => n - k) ?_ (0, [], w1) (⟨E, by simpa using O1, Inn.nil, Nat.le_refl _, by omega, rfl, rfl⟩) ⟨rfl, rfl, rfl, trivial⟩ rfl
  intro i_ hI_ hback3
  obtain ⟨k, ys, wr⟩ := i_
  obtain ⟨E, O_b1, I, lz_wr, hk, hy, hv⟩ := hI_
  try dsimp only
  have zr := E.size
  have lt_b1 := O_b1.lt
  have hik := (fun h : k < xs.length => hm xs[k] (List.getElem_mem h))
  have hil := (fun h : k < xs.length => (H.inner h).len)
  simp only [innInt64SS] at hik hil
  refine run_seq ?_
  refine run_seq ?_
  refine run_region ?_
  refine ov (xmove rfl) rfl rfl rfl ?_
  refine ov (xmove rfl) rfl rfl rfl ?_
  refine ov (xlen Try.underlying36 rfl) rfl rfl rfl ?_
  refine ov (xlss rfl rfl _ rfl) rfl rfl rfl ?_
  refine ods (fun c11 => ?_) (fun c11 => ?_)
  ·
    refine ops_nil ?_
    refine run_cond_t rfl ?_
    refine run_skip ?_
    refine run_seq ?_
    refine run_block ?_
    refine run_region ?_
    refine ov (xmove rfl) rfl rfl rfl ?_
    refine ov (xmove rfl) rfl rfl rfl ?_
    refine ov (xmove rfl) rfl rfl rfl ?_
    refine ov (xmove rfl) rfl rfl rfl ?_
    have h18 := (H.ext E).at (i := k) (by omega)
    refine ov (xindexN (i := k) Try.underlying36 Try.sizeOf31 rfl rfl rfl ((H.ext E).p (i := k) (by omega)) (by have := (H.ext E).len; omega)) rfl rfl rfl ?_
    refine ov (v := .slice (hd k).p (hd k).n (hd k).c) (xloadz Try.isAgg31 rfl (h18) rfl) rfl rfl rfl ?_
    replace hik := hik (by omega)
    replace hil := hil (by omega)
    refine oc (xcall Try.call33 rfl) rfl rfl rfl (toInt64S_ok _ _ _ xs[k] _ ((H.inner (i := k) (by omega)).ext E) (by omega)) ?_
    rintro _ w2 ⟨e2, q20, rfl, G20⟩
    have z2 := e2.size
    have E := E.trans e2
    replace I := I.ext e2
    replace O_b1 := O_b1.ext e2
    refine ov (xindexO (i := k) Try.underlying36 Try.sizeOf31 rfl rfl rfl (by omega)) rfl rfl rfl ?_
    refine ostoreE1 (i := k) (rows := (ys.map (xc cellsInt64SS) ++ List.replicate (n - k) ([.slice none 0 0] : List Value))) Try.sizeOf31 rfl rfl O_b1 (rows_ok2 (fun _ => rfl) rfl) (by simp; omega) rfl rfl ?_
    intro w3 on3 O3
    have hz3 := on3.size
    have E := on3.ext E (by omega)
    replace I := I.only on3 (by omega)
    replace G20 := G20.only on3 (by omega)
    refine ops_nil ?_
    refine run_inBlock ?_
    refine run_region ?_
    refine ov (xmove rfl) rfl rfl rfl ?_
    refine ov (xadd rfl rfl (by unfold I64; omega)) rfl rfl rfl ?_
    refine ov (xassign rfl) rfl rfl rfl ?_
    refine ops_nil ?_
    have J := I.push (y := ⟨xs[k], ⟨some q20, (hd k).n, (hd k).n⟩⟩) (hi' := w3.heap.size) (G20.wide (Nat.le_refl _) (by omega)) (by omega) (by omega) (by omega)
    refine run_sub ?_ (hback3 (k + 1, ys ++ [⟨xs[k], ⟨some q20, (hd k).n, (hd k).n⟩⟩], w3) (⟨E, by rw [← rows_push hy (by omega)]; exact O3, J, by omega, by omega, by simp [hy], by rw [List.map_append, hv, List.take_succ_eq_append_getElem (by omega)]; rfl⟩) (by first | omega | (dsimp only; omega)))
    exact ⟨rfl, rfl, rfl, trivial⟩
  ·
    refine ops_nil ?_
    refine run_cond_f rfl ?_
    refine run_exit rfl ?_
    refine run_seq ?_
    refine run_region ?_
    refine ov (xmove rfl) rfl rfl rfl ?_
    refine ov (xassign rfl) rfl rfl rfl ?_
    refine ops_nil ?_
    refine run_ret Try.func103 (res1 rfl rfl) ?_
    obtain rfl : k = n := by omega
    have hO := O_b1
    simp only [Nat.sub_self, List.replicate_zero, List.append_nil] at hO
    have hw := ys.length
    refine ⟨_, rfl, E, _, rfl, ys, by rw [hv, List.take_of_length_le (by omega)], Own.ow hO (by omega) (by omega) (by omega) O_b1.lt (fun _ _ => rfl), I.wide (by omega) (by omega)⟩

set_option maxHeartbeats 400000 in
theorem eqInt64SS_ok (p q : Option Addr) (n c m d : Nat) (xs ys : List (List Int)) (w : World) (H0 : SnInt64SS w p n c xs) (K0 : SnInt64SS w q m d ys) : Ret Try.prog 106 [.slice p n c, .slice q m d] w (Pv w (.bool (eqL eqRow xs ys))) := by
  refine ret_of_run (N := 27) Try.func106 rfl rfl rfl ?_
  obtain ⟨hd, H⟩ := H0
  have hn := H.len
  have hn6 := H.n64
  obtain ⟨he_, K⟩ := K0
  have hm := K.len
  have hm6 := K.n64
  have E : Ext w w := Ext.refl w
  refine run_seq ?_
  refine run_region ?_
  refine ov (xassign rfl) rfl rfl rfl ?_
  refine ops_nil ?_
  refine run_seq ?_
  refine run_seq ?_
  refine run_region ?_
  refine ov (xmove rfl) rfl rfl rfl ?_
  refine ov (xlen Try.underlying36 rfl) rfl rfl rfl ?_
  refine ov (xmove rfl) rfl rfl rfl ?_
  refine ov (xlen Try.underlying36 rfl) rfl rfl rfl ?_
  refine ov (xneq rfl rfl _ rfl) rfl rfl rfl ?_
  refine ods (fun c10 => ?_) (fun c10 => ?_)
  ·
    refine ops_nil ?_
    refine run_cond_t rfl ?_
    refine run_seq ?_
    refine run_region ?_
    refine ov (xassign rfl) rfl rfl rfl ?_
    refine ops_nil ?_
    refine run_ret Try.func106 (res1 rfl rfl) ?_
    exact ⟨_, rfl, by rw [eqL_ne (by omega)], E⟩
  ·
    refine ops_nil ?_
    refine run_cond_f rfl ?_
    refine run_skip ?_
    refine run_seq ?_
    refine run_seq ?_
    refine run_region ?_
    refine ov (xassign rfl) rfl rfl rfl ?_
    refine ops_nil ?_
    refine run_block ?_
    refine run_loop (ι := Nat × World) (fun x_ => match x_ with | (k, wr) => (Ext w wr) ∧ (w.heap.size ≤ wr.heap.size) ∧ (k ≤ n) ∧ (n = m) ∧ (allB k (fun i => eqAt eqRow xs ys i) = true)) (fun x_ => match x_ with | (k, wr) => [(0, .slice p n c), (1, .slice q m d), (5, .int .i64 (k : Int))]) (fun x_ => match x_ with | (k, wr) => wr) (fun x_ => match x_ with | (k, wr) => n - k) ?_ (0, w) (⟨E, Nat.le_refl _, by omega, by omega, allB_zero⟩) ⟨rfl, rfl, rfl, trivial⟩ rfl
    intro i_ hI_ hback4
    obtain ⟨k, wr⟩ := i_
    obtain ⟨E, lz_wr, hk, hnm, ha⟩ := hI_
    try dsimp only
    have zr := E.size
    refine run_seq ?_
    refine run_seq ?_
    refine run_region ?_
    refine ov (xmove rfl) rfl rfl rfl ?_
    refine ov (xmove rfl) rfl rfl rfl ?_
    refine ov (xlen Try.underlying36 rfl) rfl rfl rfl ?_
    refine ov (xlss rfl rfl _ rfl) rfl rfl rfl ?_
    refine ods (fun c14 => ?_) (fun c14 => ?_)
    ·
      refine ops_nil ?_
      refine run_cond_t rfl ?_
      refine run_skip ?_
      refine run_seq ?_
      refine run_block ?_
      refine run_seq ?_
      refine run_draw (by kernel_rfl) (by kernel_rfl) ?_
      refine qv (fun w' x_ => xmove rfl) rfl rfl rfl ?_
      refine qv (fun w' x_ => xmove rfl) rfl rfl rfl ?_
      have h19 := (H.ext E).at (i := k) (by omega)
      refine qv (fun w' x_ => xindexN (i := k) Try.underlying36 Try.sizeOf31 rfl rfl rfl ((H.ext E).p (i := k) (by omega)) (by have := (H.ext E).len; omega)) rfl rfl rfl ?_
      refine qv (v := .slice (hd k).p (hd k).n (hd k).c) (fun w' x_ => xloadz Try.isAgg31 rfl ((h19).ext x_) rfl) rfl rfl rfl ?_
      refine qv (fun w' x_ => xmove rfl) rfl rfl rfl ?_
      refine qv (fun w' x_ => xmove rfl) rfl rfl rfl ?_
      have h23 := (K.ext E).at (i := k) (by omega)
      refine qv (fun w' x_ => xindexN (i := k) Try.underlying36 Try.sizeOf31 rfl rfl rfl ((K.ext E).p (i := k) (by omega)) (by have := (K.ext E).len; omega)) rfl rfl rfl ?_
      refine qv (v := .slice (he_ k).p (he_ k).n (he_ k).c) (fun w' x_ => xloadz Try.isAgg31 rfl ((h23).ext x_) rfl) rfl rfl rfl ?_
      have t25 := fun (w' : World) (x_ : Ext wr w') => Ret.q (w := w') (eqInt64S_ok _ _ _ _ _ _ xs[k] ys[k] _ (((H.inner (i := k) (by omega)).ext E).ext x_) (((K.inner (i := k) (by omega)).ext E).ext x_))
      refine qc (fun w' => xcall Try.call35 rfl) rfl rfl rfl t25 ?_
      clear t25
      refine qbs (fun c25 => ?_) (fun c25 => ?_)
      ·
        refine qv (fun w' x_ => xnot rfl) rfl rfl rfl ?_
        refine q_nil ?_
        intro w1 e1
        have z1 := e1.size
        have E := E.trans e1
        refine run_cond_f rfl ?_
        refine run_skip ?_
        refine run_inBlock ?_
        refine run_region ?_
        refine ov (xmove rfl) rfl rfl rfl ?_
        refine ov (xadd rfl rfl (by unfold I64; omega)) rfl rfl rfl ?_
        refine ov (xassign rfl) rfl rfl rfl ?_
        refine ops_nil ?_
        refine run_sub ?_ (hback4 (k + 1, w1) (⟨E, by omega, by omega, hnm, allB_succ ha (by rw [eqAt_of (by omega) (by omega)]; assumption)⟩) (by first | omega | (dsimp only; omega)))
        exact ⟨rfl, rfl, rfl, trivial⟩
      ·
        refine qv (fun w' x_ => xnot rfl) rfl rfl rfl ?_
        refine q_nil ?_
        intro w1 e1
        have z1 := e1.size
        have E := E.trans e1
        refine run_cond_t rfl ?_
        refine run_seq ?_
        refine run_region ?_
        refine ov (xassign rfl) rfl rfl rfl ?_
        refine ops_nil ?_
        refine run_ret Try.func106 (res1 rfl rfl) ?_
        exact ⟨_, rfl, by rw [eqL_at (i := k) (by omega) (by omega) (by assumption)], E⟩
    ·
      refine ops_nil ?_
      refine run_cond_f rfl ?_
      refine run_exit rfl ?_
      refine run_seq ?_
      refine run_region ?_
      refine ov (xassign rfl) rfl rfl rfl ?_
      refine ops_nil ?_
      refine run_ret Try.func106 (res1 rfl rfl) ?_
      obtain rfl : k = n := by omega
      exact ⟨_, rfl, by rw [eqL_eq (by omega) (by rw [← hn]; exact ha)], E⟩

def mkEInt64SS (v : (List Int)) (k : Int) : (List Int) := markAll mkInt64S 1 v (k)

set_option maxHeartbeats 1000000 in
theorem markInt64SS_a (b n c : Nat) (xs : List (X ((List Int)))) (k0 : Int) (lo hi : Nat) (spare : List Value) (w : World) (O : Own w b ((xs.map (xc cellsInt64SS)).flatten ++ spare) 31) (I : Inn innInt64SS i64c 1 2 w lo hi xs) (hn : n = xs.length) (h1 : lo ≤ b) (h2 : b < hi) (hh : hi ≤ w.heap.size) (hk0 : 0 ≤ k0) (hk1 : k0 ≤ 100000000000) (ht : tot kxInt64SS (xs.map X.v) ≤ 1000000000) (hn2 : n ≤ 1000000000) : Ret Try.prog 120 [.slice (some ⟨b, 0, none⟩) n c, .int .i64 k0] w (fun v w' => v = .int .i64 (k0 + (tot kxInt64SS (xs.map X.v) : Int)) ∧ Mk lo hi w w' ∧ Own w' b (((nmkX mkEInt64SS kxInt64SS xs k0).map (xc cellsInt64SS)).flatten ++ spare) 31 ∧ Inn innInt64SS i64c 1 2 w' lo hi (nmkX mkEInt64SS kxInt64SS xs k0)) := by
  refine ret_of_run (N := 19) Try.func120 rfl rfl rfl ?_
  have E : Mk lo hi w w := Mk.refl _ _ _
  refine run_seq ?_
  refine run_region ?_
  refine ov (xassign rfl) rfl rfl rfl ?_
  refine ops_nil ?_
  refine run_seq ?_
  refine run_seq ?_
  refine run_region ?_
  refine ov (xassign rfl) rfl rfl rfl ?_
  refine ops_nil ?_
  refine run_block ?_
  refine run_loop (ι := Nat × Int × List (X ((List Int))) × List (X ((List Int))) × World) (fun x_ => match x_ with | (i, kk, done, rest, wr) => (Mk lo hi w wr) ∧ (Own wr b ((done.map (xc cellsInt64SS)).flatten ++ ((rest.map (xc cellsInt64SS)).flatten ++ spare)) 31) ∧ (Inn innInt64SS i64c 1 2 wr lo hi (done ++ rest)) ∧ (w.heap.size ≤ wr.heap.size) ∧ (i ≤ n) ∧ (done.length = i) ∧ (i + rest.length = n) ∧ (nmkX mkEInt64SS kxInt64SS xs k0 = done ++ nmkX mkEInt64SS kxInt64SS rest kk) ∧ (kk + (tot kxInt64SS (rest.map X.v) : Int) = k0 + (tot kxInt64SS (xs.map X.v) : Int)) ∧ (k0 ≤ kk)) (fun x_ => match x_ with | (i, kk, done, rest, wr) => [(0, .slice (some ⟨b, 0, none⟩) n c), (1, .int .i64 kk), (5, .int .i64 (i : Int))]) (fun x_ => match x_ with | (i, kk, done, rest, wr) => wr) (fun x_ => match x_ with | (i, kk, done, rest, wr) => n - i) ?_ (0, k0, [], xs, w) (⟨E, O, I, Nat.le_refl _, by omega, rfl, by omega, rfl, rfl, Int.le_refl _⟩) ⟨rfl, rfl, rfl, trivial⟩ rfl
  intro i_ hI_ hback2
  obtain ⟨i, kk, done, rest, wr⟩ := i_
  obtain ⟨E, O_b, I, lz_wr, hi_, hdl, hlen, hall, hkt, hkk0⟩ := hI_
  try dsimp only
  have zr := E.size
  have lt_b := O_b.lt
  refine run_seq ?_
  refine run_seq ?_
  refine run_region ?_
  refine ov (xmove rfl) rfl rfl rfl ?_
  refine ov (xmove rfl) rfl rfl rfl ?_
  refine ov (xlen Try.underlying36 rfl) rfl rfl rfl ?_
  refine ov (xlss rfl rfl _ rfl) rfl rfl rfl ?_
  refine ods (fun c9 => ?_) (fun c9 => ?_)
  ·
    obtain ⟨x, r, rfl⟩ := nx_cons hlen (by omega)
    simp only [List.map_cons, List.flatten_cons, List.append_assoc] at O_b
    have hpre_ := nx_pre (cells := cellsInt64SS) (sz := 1) (fun _ _ => rfl) done
    rw [hdl] at hpre_
    have hkt2 := hkt
    simp only [List.map_cons, tot, kxInt64SS] at hkt2
    refine ops_nil ?_
    refine run_cond_t rfl ?_
    refine run_skip ?_
    refine run_seq ?_
    refine run_block ?_
    refine run_region ?_
    refine ov (xmove rfl) rfl rfl rfl ?_
    refine ov (xmove rfl) rfl rfl rfl ?_
    refine ov (xindexO (i := i) Try.underlying36 Try.sizeOf31 rfl rfl rfl (by omega)) rfl rfl rfl ?_
    refine ov (v := .slice x.h.p x.h.n x.h.c) (xloadz Try.isAgg31 rfl (O_b.mid (pre := (done.map (xc cellsInt64SS)).flatten) (row := [.slice x.h.p x.h.n x.h.c]) (post := ((r.map (xc cellsInt64SS)).flatten ++ spare)) (by rw [hpre_]; omega)) rfl) rfl rfl rfl ?_
    refine ov (xmove rfl) rfl rfl rfl ?_
    have Gx_ := (I.i x (by simp)).narrow
    have hgl_ := Gx_.len
    simp only [innInt64SS] at hgl_
    refine oc (xcall Try.call44 rfl) rfl rfl rfl (markInt64S_ok _ _ _ _ _ _ _ _ Gx_ (by omega) (by omega) (by omega)) ?_
    rintro _ w1 ⟨rfl, m1, g1⟩
    have z1 := m1.size
    obtain ⟨M1, O1, I1⟩ := I.mark (v' := mkEInt64SS x.v kk) O_b (by decide) m1 g1 (by simp only [mkEInt64SS, innInt64SS, List.map_cons])
    have E := E.trans M1
    have I := I1
    refine ov (xassign rfl) rfl rfl rfl ?_
    refine ops_nil ?_
    refine run_inBlock ?_
    refine run_region ?_
    refine ov (xmove rfl) rfl rfl rfl ?_
    refine ov (xadd rfl rfl (by unfold I64; omega)) rfl rfl rfl ?_
    refine ov (xassign rfl) rfl rfl rfl ?_
    refine ops_nil ?_
    have hpl_ := Gx_.len
    simp only [innInt64SS] at hpl_
    refine run_sub ?_ (hback2 (i + 1, kk + 1 * (x.h.n : Int), done ++ [⟨mkEInt64SS x.v kk, x.h⟩], r, w1) (⟨E, by rw [← nx_join (row := [.slice x.h.p x.h.n x.h.c]) (y := ⟨mkEInt64SS x.v kk, x.h⟩) (by first | rfl | simp only [xc, cellsInt64SS, mkEInt64SS, hpl_])]; exact O1, (by rw [List.append_assoc]; exact I), by omega, by omega, by simp [hdl], by simp only [List.length_cons] at hlen; omega, by rw [hall, nmkX, List.append_assoc, List.singleton_append, show kk + ((kxInt64SS x.v : Nat) : Int) = kk + 1 * (x.h.n : Int) from by simp only [kxInt64SS]; omega], by simp only [List.map_cons, tot, kxInt64SS] at hkt; omega, by omega⟩) (by dsimp only; omega))
    exact ⟨rfl, rfl, rfl, trivial⟩
  ·
    refine ops_nil ?_
    refine run_cond_f rfl ?_
    refine run_exit rfl ?_
    refine run_seq ?_
    refine run_region ?_
    refine ov (xmove rfl) rfl rfl rfl ?_
    refine ov (xassign rfl) rfl rfl rfl ?_
    refine ops_nil ?_
    refine run_ret Try.func120 (res1 rfl rfl) ?_
    obtain rfl : rest = [] := by cases rest with | nil => rfl | cons x r => simp only [List.length_cons] at hlen; omega
    simp only [nmkX, List.append_nil] at hall
    simp only [List.map_nil, tot] at hkt
    rw [List.append_nil] at I
    exact ⟨_, rfl, by congr 1; omega, E, by rw [hall]; exact O_b, by rw [hall]; exact I⟩

set_option maxHeartbeats 400000 in
theorem markInt64SS_b (p : Option Addr) (c : Nat) (k0 : Int) (w : World) : Ret Try.prog 120 [.slice p 0 c, .int .i64 k0] w (Ps w (.int .i64 k0)) := by
  refine ret_of_run (N := 19) Try.func120 rfl rfl rfl ?_
  have E : Ext w w := Ext.refl w
  refine run_seq ?_
  refine run_region ?_
  refine ov (xassign rfl) rfl rfl rfl ?_
  refine ops_nil ?_
  refine run_seq ?_
  refine run_seq ?_
  refine run_region ?_
  refine ov (xassign rfl) rfl rfl rfl ?_
  refine ops_nil ?_
  refine run_block ?_
  refine run_loop (ι := Unit) (fun _u => (True)) (fun _u => [(0, .slice p 0 c), (1, .int .i64 k0), (5, .int .i64 0)]) (fun _u => w) (fun _u => 0) ?_ () (trivial) ⟨rfl, rfl, rfl, trivial⟩ rfl
  intro _u hI_ hback2
  obtain ⟨_⟩ := hI_
  try dsimp only
  refine run_seq ?_
  refine run_seq ?_
  refine run_region ?_
  refine ov (xmove rfl) rfl rfl rfl ?_
  refine ov (xmove rfl) rfl rfl rfl ?_
  refine ov (xlen Try.underlying36 rfl) rfl rfl rfl ?_
  refine ov (xlss rfl rfl _ rfl) rfl rfl rfl ?_
  refine ods (fun c9 => ?_) (fun c9 => ?_)
  · exfalso; omega
  ·
    refine ops_nil ?_
    refine run_cond_f rfl ?_
    refine run_exit rfl ?_
    refine run_seq ?_
    refine run_region ?_
    refine ov (xmove rfl) rfl rfl rfl ?_
    refine ov (xassign rfl) rfl rfl rfl ?_
    refine ops_nil ?_
    refine run_ret Try.func120 (res1 rfl rfl) ?_
    exact ⟨_, rfl, rfl, rfl⟩


theorem markInt64SS_ok (p : Option Addr) (n c : Nat) (xs : List ((List Int))) (k0 : Int) (lo hi : Nat) (w : World) (ho : OnInt64SS w lo hi p n c xs) (hh : hi ≤ w.heap.size) (hk0 : 0 ≤ k0) (hk1 : k0 ≤ 100000000000) (ht : tot kxInt64SS xs ≤ 1000000000) (hn2 : n ≤ 1000000000) :
    Ret Try.prog 120 [.slice p n c, .int .i64 k0] w (fun v w' => ∃ k, v = .int .i64 k ∧ k = k0 + (tot kxInt64SS xs : Int) ∧ Mk lo hi w w' ∧ OnInt64SS w' lo hi p n c (nmk mkEInt64SS kxInt64SS xs k0)) := by
  obtain ⟨ys, rfl, ho⟩ := ho
  rcases ho.o.row with ⟨h1, h2⟩ | ⟨b, s, h1, h2, h3, h4, h5⟩
  · have hn : n = 0 := by have := ho.o.cap; omega
    subst hn
    refine (markInt64SS_b p c k0 w).mono fun v w' ⟨hv, hw⟩ => ?_
    subst hw
    have hx : ys = [] := by have := ho.o.len; cases ys with | nil => rfl | cons y r => simp at this
    subst hx
    exact ⟨_, hv, by simp [tot], Mk.refl _ _ _, [], rfl, ho⟩
  · subst h1
    exact (markInt64SS_a b n c ys k0 lo hi s w h4 ho.i ho.o.len h2 h3 hh hk0 hk1 ht hn2).mono fun v w' ⟨hv, hm, hO, hI⟩ =>
      ⟨_, hv, rfl, hm, _, nmkX_map _ _ _ _, ⟨⟨by rw [nmkX_length]; exact ho.o.len, ho.o.cap, ho.o.big, .inr ⟨b, s, rfl, h2, h3, hO, h5⟩, fun _ _ => rfl⟩, hI⟩⟩


theorem atInt64SS {p : Option Addr} {n c : Nat} {xs : List ((List Int))} {k0 : Int} {w : World} {hd : Nat → Hd} (H : NS cellsInt64SS 1 innInt64SS i64c 1 w p n c (nmk mkEInt64SS kxInt64SS xs k0) hd) {i : Nat} (hi : i < xs.length) {kk : Int} (hkk : kk = k0 + (tot kxInt64SS (xs.take i) : Int)) :
    Cells w (pb p) (po p + i * 1) [.slice (hd i).p (hd i).n (hd i).c] := by
  subst hkk
  have h := H.at (i := i) (by rw [nmk_length]; exact hi)
  rw [nmk_at hi] at h
  exact h
theorem atIInt64SS {p : Option Addr} {n c : Nat} {xs : List ((List Int))} {k0 : Int} {w : World} {hd : Nat → Hd} (H : NS cellsInt64SS 1 innInt64SS i64c 1 w p n c (nmk mkEInt64SS kxInt64SS xs k0) hd) {i : Nat} (hi : i < xs.length) {kk : Int} (hkk : kk = k0 + (tot kxInt64SS (xs.take i) : Int)) :
    Sl i64c 1 w (hd i).p (hd i).n (hd i).c (markAll mkInt64S 1 (innInt64SS xs[i]) (kk)) := by
  subst hkk
  have h := H.inner (i := i) (by rw [nmk_length]; exact hi)
  rw [nmk_at hi] at h
  exact h

set_option maxHeartbeats 1000000 in
theorem heldInt64SS_ok (p : Option Addr) (n c : Nat) (xs : List ((List Int))) (k0 : Int) (w : World) (H0 : SnInt64SS w p n c (nmk mkEInt64SS kxInt64SS xs k0)) (hk0 : 0 ≤ k0) (hk1 : k0 ≤ 100000000000) (ht : tot kxInt64SS xs ≤ 1000000000) (hn2 : n ≤ 1000000000) : Ret Try.prog 123 [.slice p n c, .int .i64 k0] w (fun v w' => ∃ k, v = .int .i64 k ∧ k = k0 + (tot kxInt64SS xs : Int) ∧ Ext w w') := by
  refine ret_of_run (N := 21) Try.func123 rfl rfl rfl ?_
  obtain ⟨hd, H⟩ := H0
  have hn := H.len
  rw [nmk_length] at hn
  have E : Ext w w := Ext.refl w
  refine run_seq ?_
  refine run_region ?_
  refine ov (xassign rfl) rfl rfl rfl ?_
  refine ops_nil ?_
  refine run_seq ?_
  refine run_seq ?_
  refine run_region ?_
  refine ov (xassign rfl) rfl rfl rfl ?_
  refine ops_nil ?_
  refine run_block ?_
  refine run_loop (ι := Nat × Int × World) (fun x_ => match x_ with | (i, kk, wr) => (Ext w wr) ∧ (w.heap.size ≤ wr.heap.size) ∧ (i ≤ n) ∧ (kk = k0 + (tot kxInt64SS (xs.take i) : Int)) ∧ (0 ≤ kk)) (fun x_ => match x_ with | (i, kk, wr) => [(0, .slice p n c), (1, .int .i64 kk), (5, .int .i64 (i : Int))]) (fun x_ => match x_ with | (i, kk, wr) => wr) (fun x_ => match x_ with | (i, kk, wr) => n - i) ?_ (0, k0, w) (⟨E, Nat.le_refl _, by omega, by simp [tot], hk0⟩) ⟨rfl, rfl, rfl, trivial⟩ rfl
  intro i_ hI_ hback2
  obtain ⟨i, kk, wr⟩ := i_
  obtain ⟨E, lz_wr, hi_, hkk, hkk0⟩ := hI_
  try dsimp only
  have zr := E.size
  refine run_seq ?_
  refine run_seq ?_
  refine run_region ?_
  refine ov (xmove rfl) rfl rfl rfl ?_
  refine ov (xmove rfl) rfl rfl rfl ?_
  refine ov (xlen Try.underlying36 rfl) rfl rfl rfl ?_
  refine ov (xlss rfl rfl _ rfl) rfl rfl rfl ?_
  refine ods (fun c9 => ?_) (fun c9 => ?_)
  ·
    have hq_ := (atIInt64SS H (i := i) (by omega) hkk).len
    rw [markAll_length] at hq_
    have hq1_ := hq_
    have ht_ := tot_mem (kx := kxInt64SS) (by omega : i < xs.length)
    simp only [kxInt64SS, innInt64SS] at ht_ hq_
    refine ops_nil ?_
    refine run_cond_t rfl ?_
    refine run_skip ?_
    refine run_seq ?_
    refine run_block ?_
    refine run_seq ?_
    refine run_region ?_
    refine ov (xmove rfl) rfl rfl rfl ?_
    refine ov (xmove rfl) rfl rfl rfl ?_
    have h14 := atInt64SS (H.ext E) (i := i) (by omega) hkk
    refine ov (xindexN (i := i) Try.underlying36 Try.sizeOf31 rfl rfl rfl ((H.ext E).p (i := i) (by rw [nmk_length]; omega)) (by omega)) rfl rfl rfl ?_
    refine ov (v := .slice (hd i).p (hd i).n (hd i).c) (xloadz Try.isAgg31 rfl (h14) rfl) rfl rfl rfl ?_
    refine ov (xmove rfl) rfl rfl rfl ?_
    refine oc (xcall Try.call45 rfl) rfl rfl rfl (heldInt64S_ok _ _ _ _ _ _ ((atIInt64SS H (i := i) (by omega) hkk).ext E) (by omega) (by omega) (by omega)) ?_
    rintro _ w1 ⟨rfl, e1⟩
    have z1 := e1.size
    have E := E.trans e1
    refine ov (xassign rfl) rfl rfl rfl ?_
    refine ops_nil ?_
    refine run_seq ?_
    refine run_region ?_
    refine ov (xmove rfl) rfl rfl rfl ?_
    refine ov (xlss rfl rfl _ rfl) rfl rfl rfl ?_
    refine ods (fun c19 => ?_) (fun c19 => ?_)
    · exfalso; omega
    ·
      refine ops_nil ?_
      refine run_cond_f rfl ?_
      refine run_skip ?_
      refine run_inBlock ?_
      refine run_region ?_
      refine ov (xmove rfl) rfl rfl rfl ?_
      refine ov (xadd rfl rfl (by unfold I64; omega)) rfl rfl rfl ?_
      refine ov (xassign rfl) rfl rfl rfl ?_
      refine ops_nil ?_
      refine run_sub ?_ (hback2 (i + 1, kk + 1 * ((hd i).n : Int), w1) (⟨E, by omega, by omega, by rw [tot_take (by omega)]; simp only [kxInt64SS]; omega, by omega⟩) (by first | omega | (dsimp only; omega)))
      exact ⟨rfl, rfl, rfl, trivial⟩
  ·
    refine ops_nil ?_
    refine run_cond_f rfl ?_
    refine run_exit rfl ?_
    refine run_seq ?_
    refine run_region ?_
    refine ov (xmove rfl) rfl rfl rfl ?_
    refine ov (xassign rfl) rfl rfl rfl ?_
    refine ops_nil ?_
    refine run_ret Try.func123 (res1 rfl rfl) ?_
    obtain rfl : i = n := by omega
    rw [hn, List.take_length] at hkk
    exact ⟨_, rfl, _, rfl, hkk, E⟩

set_option maxHeartbeats 400000 in
theorem szPoll_ok (x : Poll) (l : Int) (w : World) (p3 : Option Addr) (n3 c3 : Nat) (Hv3 : SnInt64SS w p3 n3 c3 x.Votes) (hx : x.ok) (h0 : 0 ≤ l) (h1 : l ≤ 1048576) : Ret Try.prog 36 [.agg #[.int .i64 x.Need, .slice p3 n3 c3], .int .i64 l] w (Pv w (.int .i64 (szPoll x l))) := by
  refine ret_of_run (N := 12) Try.func36 rfl rfl rfl ?_
  have hle := szS_le szLeInt64SS x.Votes l (by omega)
  have E : Ext w w := Ext.refl w
  refine run_seq ?_
  refine run_region ?_
  refine obox rfl rfl rfl ?_
  intro b1 w1 e1 hb1 hz1 O1
  have E := E.trans e1
  replace O1 : Own w1 b1 [.int .i64 x.Need, .slice p3 n3 c3] 38 := O1
  refine ov (xassign rfl) rfl rfl rfl ?_
  refine ops_nil ?_
  refine run_seq ?_
  refine run_region ?_
  refine ov (xfieldAddr fo38f1 rfl) rfl rfl rfl ?_
  refine ov (v := .slice p3 n3 c3) (xload1 Try.isAgg36 rfl (O1.cells) rfl) rfl rfl rfl ?_
  refine ov (xmove rfl) rfl rfl rfl ?_
  refine oc (xcall Try.call102 rfl) rfl rfl rfl (szInt64SS_ok _ _ _ x.Votes l _ (Hv3.ext E) hx.2 (by omega) (by omega)) ?_
  rintro _ w2 ⟨rfl, e2⟩
  have z2 := e2.size
  have E := E.trans e2
  replace O1 := O1.ext e2
  refine ov (xassign rfl) rfl rfl rfl ?_
  refine ops_nil ?_
  refine run_seq ?_
  refine run_seq ?_
  refine run_region ?_
  refine ov (xmove rfl) rfl rfl rfl ?_
  refine ov (xlss rfl rfl _ rfl) rfl rfl rfl ?_
  refine ods (fun c10 => ?_) (fun c10 => ?_)
  ·
    refine ops_nil ?_
    refine run_cond_t rfl ?_
    refine run_seq ?_
    refine run_region ?_
    refine ov (xassign rfl) rfl rfl rfl ?_
    refine ops_nil ?_
    refine run_ret Try.func36 (res1 rfl rfl) ?_
    exact ⟨_, rfl, by rw [szPoll]; congr 1; omega, E⟩
  ·
    refine ops_nil ?_
    refine run_cond_f rfl ?_
    refine run_skip ?_
    refine run_seq ?_
    refine run_region ?_
    refine ov (xmove rfl) rfl rfl rfl ?_
    refine ov (xassign rfl) rfl rfl rfl ?_
    refine ops_nil ?_
    refine run_ret Try.func36 (res1 rfl rfl) ?_
    exact ⟨_, rfl, by rw [szPoll], E⟩

set_option maxHeartbeats 400000 in
theorem toPoll_ok (x : Poll) (w : World) (p3 : Option Addr) (n3 c3 : Nat) (Hv3 : SnInt64SS w p3 n3 c3 x.Votes) (hm : ∀ v ∈ x.Votes, ((innInt64SS v).length : Int) ≤ 1048576) (hn2 : n3 ≤ 1048576) : Ret Try.prog 38 [.agg #[.int .i64 x.Need, .slice p3 n3 c3]] w (fun v w' => Ext w w' ∧ ∃ q, v = .agg #[.int .i64 x.Need, .slice (some q) n3 n3] ∧ OnInt64SS w' w.heap.size w'.heap.size (some q) n3 n3 x.Votes) := by
  refine ret_of_run (N := 12) Try.func38 rfl rfl rfl ?_
  have E : Ext w w := Ext.refl w
  refine run_seq ?_
  refine run_region ?_
  refine obox rfl rfl rfl ?_
  intro b1 w1 e1 hb1 hz1 O1
  have E := E.trans e1
  replace O1 : Own w1 b1 [.int .i64 x.Need, .slice p3 n3 c3] 38 := O1
  refine oalloc Try.zeroValue41 rfl rfl ?_
  intro b2 w2 e2 hb2 hz2 O2
  have E := E.trans e2
  replace O1 := O1.ext e2
  replace O2 : Own w2 b2 [.int .i64 0, .slice none 0 0] 41 := O2
  refine ops_nil ?_
  refine run_seq ?_
  refine run_region ?_
  refine oalloc Try.zeroValue41 rfl rfl ?_
  intro b3 w3 e3 hb3 hz3 O3
  have E := E.trans e3
  replace O1 := O1.ext e3
  replace O2 := O2.ext e3
  replace O3 : Own w3 b3 [.int .i64 0, .slice none 0 0] 41 := O3
  refine ops_nil ?_
  refine run_seq ?_
  refine run_region ?_
  refine ov (xfieldAddr fo38f0 rfl) rfl rfl rfl ?_
  refine ov (v := .int .i64 x.Need) (xload1 Try.isAgg2 rfl (O1.cells) rfl) rfl rfl rfl ?_
  refine ov (xfieldAddr fo41f0 rfl) rfl rfl rfl ?_
  refine ostore1 Try.sizeOf2 rfl rfl O3 (by simp) rfl rfl ?_
  intro w4 on4 O4
  have hz4 := on4.size
  have E := on4.ext E (by omega)
  replace O1 := on4.own O1 (by omega)
  replace O2 := on4.own O2 (by omega)
  replace O4 : Own w4 b3 [.int .i64 x.Need, .slice none 0 0] 41 := O4
  refine ops_nil ?_
  refine run_seq ?_
  refine run_region ?_
  refine ov (xfieldAddr fo38f1 rfl) rfl rfl rfl ?_
  refine ov (v := .slice p3 n3 c3) (xload1 Try.isAgg36 rfl (O1.cells) rfl) rfl rfl rfl ?_
  refine oc (xcall Try.call103 rfl) rfl rfl rfl (toInt64SS_ok _ _ _ x.Votes _ (Hv3.ext E) hm (by omega)) ?_
  rintro _ w5 ⟨e5, q9, rfl, G9⟩
  have z5 := e5.size
  have E := E.trans e5
  replace O1 := O1.ext e5
  replace O2 := O2.ext e5
  replace O4 := O4.ext e5
  refine ov (xfieldAddr fo41f1 rfl) rfl rfl rfl ?_
  refine ostore1 Try.sizeOf36 rfl rfl O4 (by simp) rfl rfl ?_
  intro w6 on6 O6
  have hz6 := on6.size
  have E := on6.ext E (by omega)
  replace G9 := G9.only on6 (by omega)
  replace O1 := on6.own O1 (by omega)
  replace O2 := on6.own O2 (by omega)
  replace O6 : Own w6 b3 [.int .i64 x.Need, .slice (some q9) n3 n3] 41 := O6
  refine ops_nil ?_
  refine run_seq ?_
  refine run_region ?_
  refine ov (v := .agg #[.int .i64 x.Need, .slice (some q9) n3 n3]) (xloadN Try.isAgg41 Try.sizeOf41 rfl (O6.cells) rfl) rfl rfl rfl ?_
  refine ostoreN (vs := _) Try.sizeOf41 rfl rfl O2 rfl (by simp) (by simp [Value.oneCell']) rfl ?_
  intro w7 on7 O7
  have hz7 := on7.size
  have E := on7.ext E (by omega)
  replace G9 := G9.only on7 (by omega)
  replace O1 := on7.own O1 (by omega)
  replace O6 := on7.own O6 (by omega)
  replace O7 : Own w7 b2 [.int .i64 x.Need, .slice (some q9) n3 n3] 41 := O7
  refine ops_nil ?_
  refine run_ret Try.func38 (resc1 rfl rfl (run_loadVar_cells Try.isAgg41 Try.sizeOf41 O7.cells rfl)) ?_
  exact ⟨_, rfl, E, _, rfl, G9.wide (by omega) (by omega)⟩

set_option maxHeartbeats 400000 in
theorem eqPoll_ok (x y : Poll) (w : World) (p3 : Option Addr) (n3 c3 : Nat) (Hv3 : SnInt64SS w p3 n3 c3 x.Votes) (p4 : Option Addr) (n4 c4 : Nat) (Hv4 : SnInt64SS w p4 n4 c4 y.Votes) : Ret Try.prog 40 [.agg #[.int .i64 x.Need, .slice p3 n3 c3], .agg #[.int .i64 y.Need, .slice p4 n4 c4]] w (Pv w (.bool (eqPoll x y))) := by
  refine ret_of_run (N := 16) Try.func40 rfl rfl rfl ?_
  have E : Ext w w := Ext.refl w
  refine run_seq ?_
  refine run_region ?_
  refine obox rfl rfl rfl ?_
  intro b1 w1 e1 hb1 hz1 O1
  have E := E.trans e1
  replace O1 : Own w1 b1 [.int .i64 x.Need, .slice p3 n3 c3] 41 := O1
  refine obox rfl rfl rfl ?_
  intro b2 w2 e2 hb2 hz2 O2
  have E := E.trans e2
  replace O1 := O1.ext e2
  replace O2 : Own w2 b2 [.int .i64 y.Need, .slice p4 n4 c4] 41 := O2
  refine ov (xassign rfl) rfl rfl rfl ?_
  refine ops_nil ?_
  refine run_seq ?_
  refine run_seq ?_
  refine run_region ?_
  refine ov (xfieldAddr fo41f0 rfl) rfl rfl rfl ?_
  refine ov (v := .int .i64 x.Need) (xload1 Try.isAgg2 rfl (O1.cells) rfl) rfl rfl rfl ?_
  refine ov (xfieldAddr fo41f0 rfl) rfl rfl rfl ?_
  refine ov (v := .int .i64 y.Need) (xload1 Try.isAgg2 rfl (O2.cells) rfl) rfl rfl rfl ?_
  refine ov (xneq rfl rfl _ rfl) rfl rfl rfl ?_
  refine ods (fun c9 => ?_) (fun c9 => ?_)
  ·
    refine ops_nil ?_
    refine run_cond_t rfl ?_
    refine run_seq ?_
    refine run_region ?_
    refine ov (xassign rfl) rfl rfl rfl ?_
    refine ops_nil ?_
    refine run_ret Try.func40 (res1 rfl rfl) ?_
    exact ⟨_, rfl, by simp_all [eqPoll], E⟩
  ·
    refine ops_nil ?_
    refine run_cond_f rfl ?_
    refine run_skip ?_
    refine run_seq ?_
    refine run_seq ?_
    refine run_region ?_
    refine ov (xfieldAddr fo41f1 rfl) rfl rfl rfl ?_
    refine ov (v := .slice p3 n3 c3) (xload1 Try.isAgg36 rfl (O1.cells) rfl) rfl rfl rfl ?_
    refine ov (xfieldAddr fo41f1 rfl) rfl rfl rfl ?_
    refine ov (v := .slice p4 n4 c4) (xload1 Try.isAgg36 rfl (O2.cells) rfl) rfl rfl rfl ?_
    refine oc (xcall Try.call106 rfl) rfl rfl rfl (eqInt64SS_ok _ _ _ _ _ _ x.Votes y.Votes _ (Hv3.ext E) (Hv4.ext E)) ?_
    rintro _ w3 ⟨rfl, e3⟩
    have z3 := e3.size
    have E := E.trans e3
    replace O1 := O1.ext e3
    replace O2 := O2.ext e3
    refine obs (fun c14 => ?_) (fun c14 => ?_)
    ·
      refine ov (xnot rfl) rfl rfl rfl ?_
      refine ops_nil ?_
      refine run_cond_f rfl ?_
      refine run_skip ?_
      refine run_seq ?_
      refine run_region ?_
      refine ov (xassign rfl) rfl rfl rfl ?_
      refine ops_nil ?_
      refine run_ret Try.func40 (res1 rfl rfl) ?_
      exact ⟨_, rfl, by simp_all [eqPoll], E⟩
    ·
      refine ov (xnot rfl) rfl rfl rfl ?_
      refine ops_nil ?_
      refine run_cond_t rfl ?_
      refine run_seq ?_
      refine run_region ?_
      refine ov (xassign rfl) rfl rfl rfl ?_
      refine ops_nil ?_
      refine run_ret Try.func40 (res1 rfl rfl) ?_
      exact ⟨_, rfl, by simp_all [eqPoll], E⟩

set_option maxHeartbeats 400000 in
theorem markPoll_ok (nd : Int) (p : Option Addr) (n c : Nat) (vs : List (List Int)) (k0 : Int) (lo hi : Nat) (w : World) (ho : OnInt64SS w lo hi p n c vs) (hh : hi ≤ w.heap.size) (hk0 : 0 ≤ k0) (hk1 : k0 ≤ 100000000000) (ht : tot kxInt64SS vs ≤ 1000000000) (hn2 : n ≤ 1000000000) : Ret Try.prog 62 [.agg #[.int .i64 nd, .slice p n c], .int .i64 k0] w (fun v w' => ∃ k, v = .int .i64 k ∧ k = k0 + (tot kxInt64SS vs : Int) ∧ Mk lo hi w w' ∧ OnInt64SS w' lo hi p n c (nmk mkEInt64SS kxInt64SS vs k0)) := by
  refine ret_of_run (N := 10) Try.func62 rfl rfl rfl ?_
  have E : Mk lo hi w w := Mk.refl _ _ _
  refine run_seq ?_
  refine run_region ?_
  refine obox rfl rfl rfl ?_
  intro b1 w1 e1 hb1 hz1 O1
  have E := E.trans (Mk.ofExt e1)
  replace ho := ho.ext e1
  replace O1 : Own w1 b1 [.int .i64 nd, .slice p n c] 41 := O1
  refine ov (xassign rfl) rfl rfl rfl ?_
  refine ops_nil ?_
  refine run_seq ?_
  refine run_region ?_
  refine ov (xfieldAddr fo41f1 rfl) rfl rfl rfl ?_
  refine ov (v := .slice p n c) (xload1 Try.isAgg36 rfl (O1.cells) rfl) rfl rfl rfl ?_
  refine ov (xmove rfl) rfl rfl rfl ?_
  refine oc (xcall Try.call120 rfl) rfl rfl rfl (markInt64SS_ok _ _ _ _ _ _ _ _ ho (by omega) (by omega) (by omega) (by omega) (by omega)) ?_
  rintro _ w2 ⟨k8_, rfl, hk8_, m2, g2⟩
  have z2 := m2.size
  have E := E.trans m2
  replace O1 := m2.own O1 (by omega)
  replace ho := g2
  refine ov (xassign rfl) rfl rfl rfl ?_
  refine ops_nil ?_
  refine run_seq ?_
  refine run_region ?_
  refine ov (xmove rfl) rfl rfl rfl ?_
  refine ov (xassign rfl) rfl rfl rfl ?_
  refine ops_nil ?_
  refine run_ret Try.func62 (res1 rfl rfl) ?_
  exact ⟨_, rfl, _, rfl, hk8_, E, ho⟩

set_option maxHeartbeats 400000 in
theorem heldPoll_ok (nd : Int) (p : Option Addr) (n c : Nat) (vs : List (List Int)) (k0 : Int) (w : World) (H : SnInt64SS w p n c (nmk mkEInt64SS kxInt64SS vs k0)) (hk0 : 0 ≤ k0) (hk1 : k0 ≤ 100000000000) (ht : tot kxInt64SS vs ≤ 1000000000) (hn2 : n ≤ 1000000000) : Ret Try.prog 65 [.agg #[.int .i64 nd, .slice p n c], .int .i64 k0] w (fun v w' => ∃ k, v = .int .i64 k ∧ k = k0 + (tot kxInt64SS vs : Int) ∧ Ext w w') := by
  refine ret_of_run (N := 12) Try.func65 rfl rfl rfl ?_
  have E : Ext w w := Ext.refl w
  refine run_seq ?_
  refine run_region ?_
  refine obox rfl rfl rfl ?_
  intro b1 w1 e1 hb1 hz1 O1
  have E := E.trans e1
  replace O1 : Own w1 b1 [.int .i64 nd, .slice p n c] 41 := O1
  refine ov (xassign rfl) rfl rfl rfl ?_
  refine ops_nil ?_
  refine run_seq ?_
  refine run_region ?_
  refine ov (xfieldAddr fo41f1 rfl) rfl rfl rfl ?_
  refine ov (v := .slice p n c) (xload1 Try.isAgg36 rfl (O1.cells) rfl) rfl rfl rfl ?_
  refine ov (xmove rfl) rfl rfl rfl ?_
  refine oc (xcall Try.call123 rfl) rfl rfl rfl (heldInt64SS_ok _ _ _ _ _ _ (H.ext E) (by omega) (by omega) (by omega) (by omega)) ?_
  rintro _ w2 ⟨k8_, rfl, hk8_, e2⟩
  have z2 := e2.size
  have E := E.trans e2
  replace O1 := O1.ext e2
  refine ov (xassign rfl) rfl rfl rfl ?_
  refine ops_nil ?_
  refine run_seq ?_
  refine run_seq ?_
  refine run_region ?_
  refine ov (xmove rfl) rfl rfl rfl ?_
  refine ov (xlss rfl rfl _ rfl) rfl rfl rfl ?_
  refine ods (fun c10 => ?_) (fun c10 => ?_)
  · exfalso; omega
  ·
    refine ops_nil ?_
    refine run_cond_f rfl ?_
    refine run_skip ?_
    refine run_seq ?_
    refine run_region ?_
    refine ov (xmove rfl) rfl rfl rfl ?_
    refine ov (xassign rfl) rfl rfl rfl ?_
    refine ops_nil ?_
    refine run_ret Try.func65 (res1 rfl rfl) ?_
    exact ⟨_, rfl, _, rfl, hk8_, E⟩
end Go.Proofs.Ytinpkihmkfiidaa

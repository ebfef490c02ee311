/-
  The laws' own functions on roles and files. No condition beyond those written in each theorem.
-/
import Derived.Test.YtbihpggbabmebaaLists
import Derived.Test.YtbihpggbabmebaaNest
import Derived.Test.YtbihpggbabmebaaMarkB
import Derived.Test.YtbihpggbabmebaaEqB
import Derived.Test.YtbihpggbabmebaaToB
import Derived.Test.YtbihpggbabmebaaMore
namespace Go.Proofs.Ytbihpggbabmebaa
open Go.RowKit
set_option linter.unusedVariables false
set_option linter.unusedSimpArgs false
set_option linter.unusedSectionVars false
set_option maxRecDepth 4000

theorem goS_tot {α : Type} {f : α → Int → Int} {g : α → Nat} (hf : ∀ x l, 0 ≤ f x l → f x l + (g x : Int) ≤ l) : ∀ (xs : List α) (l : Int), 0 ≤ goS f xs l → goS f xs l + (tot g xs : Int) ≤ l
  | [], l, h => by simp [goS, tot]
  | x :: r, l, h => by
    unfold goS at h ⊢
    split at h
    · omega
    · rename_i hn
      rw [if_neg hn]
      have h1 := hf x l (by omega)
      have h2 := goS_tot hf r (f x l) h
      simp only [tot]; omega
theorem tot_one {α : Type} (g : α → Nat) : ∀ xs : List α, tot (fun x => 1 + g x) xs = xs.length + tot g xs
  | [] => rfl
  | x :: r => by simp only [tot, List.length_cons, tot_one g r]; omega
theorem szS_tot {α : Type} {f : α → Int → Int} {g : α → Nat} (hf : ∀ x l, 0 ≤ f x l → f x l + (g x : Int) ≤ l) {xs : List α} {l : Int} (h : 0 ≤ szS f xs l) : szS f xs l + (tot (fun x => 1 + g x) xs : Int) ≤ l := by
  unfold szS at h ⊢
  split at h
  · omega
  · rename_i hn
    rw [if_neg hn]
    have := goS_tot hf xs _ h
    rw [tot_one]; omega
theorem tot_of_mem {α : Type} {kx : α → Nat} : ∀ {xs : List α} {x : α}, x ∈ xs → kx x ≤ tot kx xs
  | y :: r, x, m => by
    simp only [tot]
    rcases List.mem_cons.1 m with m | m
    · subst m; omega
    · have := tot_of_mem (kx := kx) m; omega
theorem tot_le {α : Type} {kx kz : α → Nat} {m : Nat} (h : ∀ x, kx x ≤ m * kz x) : ∀ xs : List α, tot kx xs ≤ m * tot kz xs
  | [] => by simp [tot]
  | x :: r => by
    have := h x; have := tot_le h r
    simp only [tot, Nat.mul_add]; omega
theorem bnd_le {a l : Int} {f : Int → Int} (h1 : -1 ≤ a ∧ a ≤ l) (h2 : ∀ m, 0 ≤ m → m ≤ l → -1 ≤ f m ∧ f m ≤ m) : -1 ≤ bnd a f ∧ bnd a f ≤ l := by
  unfold bnd; split
  · omega
  · have := h2 a (by omega) h1.2; omega
theorem sub1_le {k : Nat} {l : Int} (h : -1 ≤ l) : -1 ≤ sub1 k l ∧ sub1 k l ≤ l := by unfold sub1; split <;> omega
def szT (s : ByteArray) (l : Int) : Int := sub1 s.size l
def szI (_ : Int) (l : Int) : Int := l
theorem szT_le (s : ByteArray) (l : Int) (h : -1 ≤ l) : -1 ≤ szT s l ∧ szT s l ≤ l := sub1_le h
theorem szI_le (s : Int) (l : Int) (h : -1 ≤ l) : -1 ≤ szI s l ∧ szI s l ≤ l := by unfold szI; omega


set_option maxHeartbeats 400000 in
theorem szStringS_ok (p : Option Addr) (n c : Nat) (xs : List ByteArray) (l0 : Int) (w : World) (H : Sl strc 1 w p n c xs) (hx : ∀ x ∈ xs, x.size ≤ 9223372036854775807) (h0 : 0 ≤ l0) (h1 : l0 ≤ 1048576) : Ret Try.prog 90 [.slice p n c, .int .i64 l0] w (Pv w (.int .i64 (szS szT xs l0))) := by
  refine ret_of_run (N := 28) Try.func90 rfl rfl rfl ?_
  have hn := H.len
  have hn6 := H.n64
  have E : Ext w w := Ext.refl w
  refine run_seq ?_
  refine run_region ?_
  refine ov (xassign rfl) rfl rfl rfl ?_
  refine ops_nil ?_
  refine run_seq ?_
  refine run_region ?_
  refine ov (xmove rfl) rfl rfl rfl ?_
  refine ov (xmove rfl) rfl rfl rfl ?_
  refine ov (xlen Try.underlying49 rfl) rfl rfl rfl ?_
  refine ov (xsub rfl rfl (by unfold I64; omega)) rfl rfl rfl ?_
  refine ov (xassign rfl) rfl rfl rfl ?_
  refine ops_nil ?_
  refine run_seq ?_
  refine run_seq ?_
  refine run_region ?_
  refine ov (xmove rfl) rfl rfl rfl ?_
  refine ov (xlss rfl rfl _ rfl) rfl rfl rfl ?_
  refine ods (fun c11 => ?_) (fun c11 => ?_)
  ·
    refine ops_nil ?_
    refine run_cond_t rfl ?_
    refine run_seq ?_
    refine run_region ?_
    refine ov (xassign rfl) rfl rfl rfl ?_
    refine ops_nil ?_
    refine run_ret Try.func90 (res1 rfl rfl) ?_
    exact ⟨_, rfl, by rw [szS, if_pos (by omega)], E⟩
  ·
    refine ops_nil ?_
    refine run_cond_f rfl ?_
    refine run_skip ?_
    refine run_seq ?_
    refine run_seq ?_
    refine run_region ?_
    refine ov (xassign rfl) rfl rfl rfl ?_
    refine ops_nil ?_
    refine run_block ?_
    refine run_loop (ι := Nat × Int × World) (fun x_ => match x_ with | (k, l, wr) => (Ext w wr) ∧ (w.heap.size ≤ wr.heap.size) ∧ (k ≤ n) ∧ (0 ≤ l) ∧ (l ≤ 1048576) ∧ (goS szT xs (l0 - xs.length) = goS szT (xs.drop k) l)) (fun x_ => match x_ with | (k, l, wr) => [(0, .slice p n c), (1, .int .i64 l), (5, .int .i64 (k : Int))]) (fun x_ => match x_ with | (k, l, wr) => wr) (fun x_ => match x_ with | (k, l, wr) => n - k) ?_ (0, l0 - (n : Int), w) (⟨E, Nat.le_refl _, by omega, by omega, by omega, by rw [hn]; rfl⟩) ⟨rfl, rfl, rfl, trivial⟩ rfl
    intro i_ hI_ hback5
    obtain ⟨k, l, wr⟩ := i_
    obtain ⟨E, lz_wr, hk, hl0, hl1, hg⟩ := hI_
    try dsimp only
    have zr := E.size
    have hxk := fun h : k < xs.length => hx xs[k] (List.getElem_mem h)
    refine run_seq ?_
    refine run_seq ?_
    refine run_region ?_
    refine ov (xmove rfl) rfl rfl rfl ?_
    refine ov (xmove rfl) rfl rfl rfl ?_
    refine ov (xlen Try.underlying49 rfl) rfl rfl rfl ?_
    refine ov (xlss rfl rfl _ rfl) rfl rfl rfl ?_
    refine ods (fun c15 => ?_) (fun c15 => ?_)
    ·
      replace hxk := hxk (by omega)
      refine ops_nil ?_
      refine run_cond_t rfl ?_
      refine run_skip ?_
      refine run_seq ?_
      refine run_block ?_
      refine run_seq ?_
      refine run_region ?_
      refine ov (xmove rfl) rfl rfl rfl ?_
      refine ov (xmove rfl) rfl rfl rfl ?_
      refine ov (xmove rfl) rfl rfl rfl ?_
      have h21 := (H.ext E).at (i := k) (by omega)
      refine ov (xindexN (i := k) Try.underlying49 Try.sizeOf9 rfl rfl rfl ((H.ext E).p (i := k) (by omega)) (by have := (H.ext E).len; omega)) rfl rfl rfl ?_
      refine ov (v := .string xs[k]) (xloadz Try.isAgg9 rfl (h21) rfl) rfl rfl rfl ?_
      refine ov (xlens Try.underlying9 rfl) rfl rfl rfl ?_
      refine ov (xsub rfl rfl (by unfold I64; omega)) rfl rfl rfl ?_
      refine ov (xassign rfl) rfl rfl rfl ?_
      refine ops_nil ?_
      refine run_seq ?_
      refine run_region ?_
      refine ov (xmove rfl) rfl rfl rfl ?_
      refine ov (xlss rfl rfl _ rfl) rfl rfl rfl ?_
      refine ods (fun c26 => ?_) (fun c26 => ?_)
      ·
        refine ops_nil ?_
        refine run_cond_t rfl ?_
        refine run_seq ?_
        refine run_region ?_
        refine ov (xassign rfl) rfl rfl rfl ?_
        refine ops_nil ?_
        refine run_ret Try.func90 (res1 rfl rfl) ?_
        exact ⟨_, rfl, by rw [szS, if_neg (by omega), hg, List.drop_eq_getElem_cons (by omega), goS, szT, sub1, if_pos (by rw [if_pos (by omega)]; omega)], E⟩
      ·
        refine ops_nil ?_
        refine run_cond_f rfl ?_
        refine run_skip ?_
        refine run_inBlock ?_
        refine run_region ?_
        refine ov (xmove rfl) rfl rfl rfl ?_
        refine ov (xadd rfl rfl (by unfold I64; omega)) rfl rfl rfl ?_
        refine ov (xassign rfl) rfl rfl rfl ?_
        refine ops_nil ?_
        refine run_sub ?_ (hback5 (k + 1, (l - (xs[k].size : Int)), wr) (⟨E, by omega, by omega, by omega, by omega, by rw [hg, List.drop_eq_getElem_cons (by omega), goS, szT, sub1, if_neg (by omega), if_neg (by omega)]⟩) (by first | omega | (dsimp only; omega)))
        exact ⟨rfl, rfl, rfl, trivial⟩
    ·
      refine ops_nil ?_
      refine run_cond_f rfl ?_
      refine run_exit rfl ?_
      refine run_seq ?_
      refine run_region ?_
      refine ov (xmove rfl) rfl rfl rfl ?_
      refine ov (xassign rfl) rfl rfl rfl ?_
      refine ops_nil ?_
      refine run_ret Try.func90 (res1 rfl rfl) ?_
      obtain rfl : k = n := by omega
      exact ⟨_, rfl, by rw [szS, if_neg (by omega), hg, hn, List.drop_length, goS], E⟩

structure Role where
  Name : ByteArray
  Level : Int
  Groups : List ByteArray
def Role.ok (x : Role) : Prop := x.Name.size ≤ 9223372036854775807 ∧ I64 x.Level ∧ (∀ y ∈ x.Groups, y.size ≤ 9223372036854775807)
def szRole (x : Role) (l : Int) : Int := bnd (sub1 x.Name.size l) (fun l => bnd (szS szT x.Groups l) (fun l => l))
def eqRole (x y : Role) : Bool := decide (x.Name = y.Name ∧ x.Level = y.Level) && eqL eqT x.Groups y.Groups
theorem eqRole_refl (x : Role) : eqRole x x = true := by simp [eqRole, eqL_refl eqT_refl]




theorem szRole_nn {x : Role} {l : Int} (h : 0 ≤ szRole x l) : szRole x l ≤ l ∧ (x.Groups.length : Int) ≤ l ∧ szRole x l + (x.Groups.length : Int) ≤ l := by
  unfold szRole at h ⊢
  obtain ⟨a0, e0⟩ := bnd_nn h
  rw [e0] at h ⊢
  clear e0
  try dsimp only at h ⊢
  have b0 := sub1_nn a0
  obtain ⟨a1, e1⟩ := bnd_nn h
  rw [e1] at h ⊢
  clear e1
  try dsimp only at h ⊢
  have b1 := szS_len szT_le a1
  omega

set_option maxHeartbeats 400000 in
theorem szRole_ok (x : Role) (l : Int) (w : World) (p_Groups : Option Addr) (n_Groups c_Groups : Nat) (H_Groups : Sl strc 1 w p_Groups n_Groups c_Groups x.Groups) (hx : x.ok) (h0 : 0 ≤ l) (h1 : l ≤ 1048576) : Ret Try.prog 53 [.agg #[.string x.Name, .int .i64 x.Level, .slice p_Groups n_Groups c_Groups], .int .i64 l] w (Pv w (.int .i64 (szRole x l))) := by
  refine ret_of_run (N := 19) Try.func53 rfl rfl rfl ?_
  have hn_Groups := H_Groups.len
  have hn6_Groups := H_Groups.n64
  obtain ⟨o0, o1, o2⟩ := hx
  unfold I64 at *
  have E : Ext w w := Ext.refl w
  refine run_seq ?_
  refine run_region ?_
  refine obox rfl rfl rfl ?_
  intro b1 w1 e1 hb1 hz1 O1
  have E := E.trans e1
  replace O1 : Own w1 b1 [.string x.Name, .int .i64 x.Level, .slice p_Groups n_Groups c_Groups] 73 := O1
  refine ov (xassign rfl) rfl rfl rfl ?_
  refine ops_nil ?_
  refine run_seq ?_
  refine run_region ?_
  refine ov (xmove rfl) rfl rfl rfl ?_
  refine ov (xfieldAddr fo73f0 rfl) rfl rfl rfl ?_
  refine ov (v := .string x.Name) (xload1 Try.isAgg9 rfl (O1.cells) rfl) rfl rfl rfl ?_
  refine ov (xlens Try.underlying9 rfl) rfl rfl rfl ?_
  refine ov (xsub rfl rfl (by unfold I64; omega)) rfl rfl rfl ?_
  refine ov (xassign rfl) rfl rfl rfl ?_
  refine ops_nil ?_
  refine run_seq ?_
  refine run_seq ?_
  refine run_region ?_
  refine ov (xmove rfl) rfl rfl rfl ?_
  refine ov (xlss rfl rfl _ rfl) rfl rfl rfl ?_
  refine ods (fun c11 => ?_) (fun c11 => ?_)
  ·
    refine ops_nil ?_
    refine run_cond_t rfl ?_
    refine run_seq ?_
    refine run_region ?_
    refine ov (xassign rfl) rfl rfl rfl ?_
    refine ops_nil ?_
    refine run_ret Try.func53 (res1 rfl rfl) ?_
    exact ⟨_, rfl, by unfold szRole bnd sub1; dsimp only; simp only [*, if_true, if_false, ↓reduceIte] <;> (try simp), E⟩
  ·
    refine ops_nil ?_
    refine run_cond_f rfl ?_
    refine run_skip ?_
    refine run_seq ?_
    refine run_region ?_
    refine ov (xfieldAddr fo73f2 rfl) rfl rfl rfl ?_
    refine ov (v := .slice p_Groups n_Groups c_Groups) (xload1 Try.isAgg49 rfl (O1.cells) rfl) rfl rfl rfl ?_
    refine ov (xmove rfl) rfl rfl rfl ?_
    refine oc (xcall Try.call90 rfl) rfl rfl rfl (szStringS_ok _ _ _ _ _ _ (H_Groups.ext E) o2 (by omega) (by omega)) ?_
    rintro _ w2 ⟨rfl, e2⟩
    have z2 := e2.size
    have E := E.trans e2
    replace O1 := O1.ext e2
    refine ov (xassign rfl) rfl rfl rfl ?_
    refine ops_nil ?_
    refine run_seq ?_
    refine run_seq ?_
    refine run_region ?_
    refine ov (xmove rfl) rfl rfl rfl ?_
    refine ov (xlss rfl rfl _ rfl) rfl rfl rfl ?_
    refine ods (fun c17 => ?_) (fun c17 => ?_)
    ·
      refine ops_nil ?_
      refine run_cond_t rfl ?_
      refine run_seq ?_
      refine run_region ?_
      refine ov (xassign rfl) rfl rfl rfl ?_
      refine ops_nil ?_
      refine run_ret Try.func53 (res1 rfl rfl) ?_
      exact ⟨_, rfl, by unfold szRole bnd sub1; dsimp only; simp only [*, if_true, if_false, ↓reduceIte] <;> (try simp), E⟩
    ·
      refine ops_nil ?_
      refine run_cond_f rfl ?_
      refine run_skip ?_
      refine run_seq ?_
      refine run_region ?_
      refine ov (xmove rfl) rfl rfl rfl ?_
      refine ov (xassign rfl) rfl rfl rfl ?_
      refine ops_nil ?_
      refine run_ret Try.func53 (res1 rfl rfl) ?_
      exact ⟨_, rfl, by unfold szRole bnd sub1; dsimp only; simp only [*, if_true, if_false, ↓reduceIte] <;> (try simp), E⟩

set_option maxHeartbeats 400000 in
theorem toRole_ok (x : Role) (w : World) (p_Groups : Option Addr) (n_Groups c_Groups : Nat) (H_Groups : Sl strc 1 w p_Groups n_Groups c_Groups x.Groups) (hs_Groups : n_Groups ≤ 1048576) : Ret Try.prog 58 [.agg #[.string x.Name, .int .i64 x.Level, .slice p_Groups n_Groups c_Groups]] w (fun v w' => Ext w w' ∧ ∃ q_Groups, v = .agg #[.string x.Name, .int .i64 x.Level, .slice (some q_Groups) n_Groups n_Groups] ∧ Ow strc 1 9 w' w.heap.size w'.heap.size (some q_Groups) n_Groups n_Groups x.Groups) := by
  refine ret_of_run (N := 15) Try.func58 rfl rfl rfl ?_
  have hn_Groups := H_Groups.len
  have hn6_Groups := H_Groups.n64
  have E : Ext w w := Ext.refl w
  refine run_seq ?_
  refine run_region ?_
  refine obox rfl rfl rfl ?_
  intro b1 w1 e1 hb1 hz1 O1
  have E := E.trans e1
  replace O1 : Own w1 b1 [.string x.Name, .int .i64 x.Level, .slice p_Groups n_Groups c_Groups] 73 := O1
  refine oalloc Try.zeroValue71 rfl rfl ?_
  intro b2 w2 e2 hb2 hz2 O2
  have E := E.trans e2
  replace O1 := O1.ext e2
  replace O2 : Own w2 b2 [.string ⟨#[]⟩, .int .i64 0, .slice none 0 0] 71 := O2
  refine ops_nil ?_
  refine run_seq ?_
  refine run_region ?_
  refine oalloc Try.zeroValue71 rfl rfl ?_
  intro b3 w3 e3 hb3 hz3 O3
  have E := E.trans e3
  replace O1 := O1.ext e3
  replace O2 := O2.ext e3
  replace O3 : Own w3 b3 [.string ⟨#[]⟩, .int .i64 0, .slice none 0 0] 71 := O3
  refine ops_nil ?_
  refine run_seq ?_
  refine run_region ?_
  refine ov (xfieldAddr fo73f0 rfl) rfl rfl rfl ?_
  refine ov (v := .string x.Name) (xload1 Try.isAgg9 rfl (O1.cells) rfl) rfl rfl rfl ?_
  refine ov (xfieldAddr fo71f0 rfl) rfl rfl rfl ?_
  refine ostore1 Try.sizeOf9 rfl rfl O3 (by simp) rfl rfl ?_
  intro w4 on4 O4
  have hz4 := on4.size
  have E := on4.ext E (by omega)
  replace O1 := on4.own O1 (by omega)
  replace O2 := on4.own O2 (by omega)
  replace O4 : Own w4 b3 [.string x.Name, .int .i64 0, .slice none 0 0] 71 := O4
  refine ops_nil ?_
  refine run_seq ?_
  refine run_region ?_
  refine ov (xfieldAddr fo73f1 rfl) rfl rfl rfl ?_
  refine ov (v := .int .i64 x.Level) (xload1 Try.isAgg2 rfl (O1.cells) rfl) rfl rfl rfl ?_
  refine ov (xfieldAddr fo71f1 rfl) rfl rfl rfl ?_
  refine ostore1 Try.sizeOf2 rfl rfl O4 (by simp) rfl rfl ?_
  intro w5 on5 O5
  have hz5 := on5.size
  have E := on5.ext E (by omega)
  replace O1 := on5.own O1 (by omega)
  replace O2 := on5.own O2 (by omega)
  replace O5 : Own w5 b3 [.string x.Name, .int .i64 x.Level, .slice none 0 0] 71 := O5
  refine ops_nil ?_
  refine run_seq ?_
  refine run_region ?_
  refine ov (xfieldAddr fo73f2 rfl) rfl rfl rfl ?_
  refine ov (v := .slice p_Groups n_Groups c_Groups) (xload1 Try.isAgg49 rfl (O1.cells) rfl) rfl rfl rfl ?_
  refine oc (xcall Try.call91 rfl) rfl rfl rfl (toStringS_ok _ _ _ _ _ (H_Groups.ext E) (by omega)) ?_
  rintro _ w6 ⟨e6, q12, rfl, G12⟩
  have z6 := e6.size
  have E := E.trans e6
  replace O1 := O1.ext e6
  replace O2 := O2.ext e6
  replace O5 := O5.ext e6
  refine ov (xfieldAddr fo71f2 rfl) rfl rfl rfl ?_
  refine ostore1 Try.sizeOf49 rfl rfl O5 (by simp) rfl rfl ?_
  intro w7 on7 O7
  have hz7 := on7.size
  have E := on7.ext E (by omega)
  replace G12 := G12.only on7 (by omega)
  replace O1 := on7.own O1 (by omega)
  replace O2 := on7.own O2 (by omega)
  replace O7 : Own w7 b3 [.string x.Name, .int .i64 x.Level, .slice (some q12) n_Groups n_Groups] 71 := O7
  refine ops_nil ?_
  refine run_seq ?_
  refine run_region ?_
  refine ov (v := .agg #[.string x.Name, .int .i64 x.Level, .slice (some q12) n_Groups n_Groups]) (xloadN Try.isAgg71 Try.sizeOf71 rfl (O7.cells) rfl) rfl rfl rfl ?_
  refine ostoreN (vs := _) Try.sizeOf71 rfl rfl O2 rfl (by simp) (by simp [Value.oneCell']) rfl ?_
  intro w8 on8 O8
  have hz8 := on8.size
  have E := on8.ext E (by omega)
  replace G12 := G12.only on8 (by omega)
  replace O1 := on8.own O1 (by omega)
  replace O7 := on8.own O7 (by omega)
  replace O8 : Own w8 b2 [.string x.Name, .int .i64 x.Level, .slice (some q12) n_Groups n_Groups] 71 := O8
  refine ops_nil ?_
  refine run_ret Try.func58 (resc1 rfl rfl (run_loadVar_cells Try.isAgg71 Try.sizeOf71 O8.cells rfl)) ?_
  exact ⟨_, rfl, E, _, rfl, G12.wide (by omega) (by omega)⟩

set_option maxHeartbeats 400000 in
theorem eqRole_ok (x y : Role) (w : World) (p1_Groups : Option Addr) (n1_Groups c1_Groups : Nat) (H1_Groups : Sl strc 1 w p1_Groups n1_Groups c1_Groups x.Groups) (p2_Groups : Option Addr) (n2_Groups c2_Groups : Nat) (H2_Groups : Sl strc 1 w p2_Groups n2_Groups c2_Groups y.Groups) : Ret Try.prog 64 [.agg #[.string x.Name, .int .i64 x.Level, .slice p1_Groups n1_Groups c1_Groups], .agg #[.string y.Name, .int .i64 y.Level, .slice p2_Groups n2_Groups c2_Groups]] w (Pv w (.bool (eqRole x y))) := by
  refine ret_of_run (N := 21) Try.func64 rfl rfl rfl ?_
  have hn1_Groups := H1_Groups.len
  have hn61_Groups := H1_Groups.n64
  have hn2_Groups := H2_Groups.len
  have hn62_Groups := H2_Groups.n64
  have E : Ext w w := Ext.refl w
  refine run_seq ?_
  refine run_region ?_
  refine obox rfl rfl rfl ?_
  intro b1 w1 e1 hb1 hz1 O1
  have E := E.trans e1
  replace O1 : Own w1 b1 [.string x.Name, .int .i64 x.Level, .slice p1_Groups n1_Groups c1_Groups] 71 := O1
  refine obox rfl rfl rfl ?_
  intro b2 w2 e2 hb2 hz2 O2
  have E := E.trans e2
  replace O1 := O1.ext e2
  replace O2 : Own w2 b2 [.string y.Name, .int .i64 y.Level, .slice p2_Groups n2_Groups c2_Groups] 71 := O2
  refine ov (xassign rfl) rfl rfl rfl ?_
  refine ops_nil ?_
  refine run_seq ?_
  refine run_seq ?_
  refine run_region ?_
  refine ov (xfieldAddr fo71f0 rfl) rfl rfl rfl ?_
  refine ov (v := .string x.Name) (xload1 Try.isAgg9 rfl (O1.cells) rfl) rfl rfl rfl ?_
  refine ov (xfieldAddr fo71f0 rfl) rfl rfl rfl ?_
  refine ov (v := .string y.Name) (xload1 Try.isAgg9 rfl (O2.cells) rfl) rfl rfl rfl ?_
  refine ov (xsneq rfl rfl _ rfl) rfl rfl rfl ?_
  refine ods (fun c9 => ?_) (fun c9 => ?_)
  ·
    refine ops_nil ?_
    refine run_cond_t rfl ?_
    refine run_seq ?_
    refine run_region ?_
    refine ov (xassign rfl) rfl rfl rfl ?_
    refine ops_nil ?_
    refine run_ret Try.func64 (res1 rfl rfl) ?_
    exact ⟨_, rfl, by simp_all [eqRole], E⟩
  ·
    refine ops_nil ?_
    refine run_cond_f rfl ?_
    refine run_skip ?_
    refine run_seq ?_
    refine run_seq ?_
    refine run_region ?_
    refine ov (xfieldAddr fo71f1 rfl) rfl rfl rfl ?_
    refine ov (v := .int .i64 x.Level) (xload1 Try.isAgg2 rfl (O1.cells) rfl) rfl rfl rfl ?_
    refine ov (xfieldAddr fo71f1 rfl) rfl rfl rfl ?_
    refine ov (v := .int .i64 y.Level) (xload1 Try.isAgg2 rfl (O2.cells) rfl) rfl rfl rfl ?_
    refine ov (xneq rfl rfl _ rfl) rfl rfl rfl ?_
    refine ods (fun c14 => ?_) (fun c14 => ?_)
    ·
      refine ops_nil ?_
      refine run_cond_t rfl ?_
      refine run_seq ?_
      refine run_region ?_
      refine ov (xassign rfl) rfl rfl rfl ?_
      refine ops_nil ?_
      refine run_ret Try.func64 (res1 rfl rfl) ?_
      exact ⟨_, rfl, by simp_all [eqRole], E⟩
    ·
      refine ops_nil ?_
      refine run_cond_f rfl ?_
      refine run_skip ?_
      refine run_seq ?_
      refine run_seq ?_
      refine run_region ?_
      refine ov (xfieldAddr fo71f2 rfl) rfl rfl rfl ?_
      refine ov (v := .slice p1_Groups n1_Groups c1_Groups) (xload1 Try.isAgg49 rfl (O1.cells) rfl) rfl rfl rfl ?_
      refine ov (xfieldAddr fo71f2 rfl) rfl rfl rfl ?_
      refine ov (v := .slice p2_Groups n2_Groups c2_Groups) (xload1 Try.isAgg49 rfl (O2.cells) rfl) rfl rfl rfl ?_
      refine oc (xcall Try.call43 rfl) rfl rfl rfl (eqStringS_ok _ _ _ _ _ _ _ _ _ (H1_Groups.ext E) (H2_Groups.ext E)) ?_
      rintro _ w3 ⟨rfl, e3⟩
      have z3 := e3.size
      have E := E.trans e3
      replace O1 := O1.ext e3
      replace O2 := O2.ext e3
      refine obs (fun c19 => ?_) (fun c19 => ?_)
      ·
        refine ov (xnot rfl) rfl rfl rfl ?_
        refine ops_nil ?_
        refine run_cond_f rfl ?_
        refine run_skip ?_
        refine run_seq ?_
        refine run_region ?_
        refine ov (xassign rfl) rfl rfl rfl ?_
        refine ops_nil ?_
        refine run_ret Try.func64 (res1 rfl rfl) ?_
        exact ⟨_, rfl, by simp_all [eqRole], E⟩
      ·
        refine ov (xnot rfl) rfl rfl rfl ?_
        refine ops_nil ?_
        refine run_cond_t rfl ?_
        refine run_seq ?_
        refine run_region ?_
        refine ov (xassign rfl) rfl rfl rfl ?_
        refine ops_nil ?_
        refine run_ret Try.func64 (res1 rfl rfl) ?_
        exact ⟨_, rfl, by simp_all [eqRole], E⟩

def cellsRoleS (v : Role) (h : Hd) : List Value := [.string v.Name, .int .i64 v.Level, .slice h.p h.n h.c]
def innRoleS (v : Role) : List ByteArray := v.Groups
abbrev SnRoleS (w : World) (p : Option Addr) (n c : Nat) (vs : List Role) : Prop := Sn cellsRoleS 3 innRoleS strc 1 w p n c vs
abbrev OnRoleS (w : World) (lo hi : Nat) (p : Option Addr) (n c : Nat) (vs : List Role) : Prop := On cellsRoleS 3 71 innRoleS strc 1 9 w lo hi p n c vs
def kxRoleS (v : Role) : Nat := 2 + v.Groups.length


theorem szLeRoleS (x : Role) (l : Int) (h : -1 ≤ l) : -1 ≤ szRole x l ∧ szRole x l ≤ l := by 
  exact bnd_le (sub1_le h) fun m h0 h1 => bnd_le (szS_le szT_le _ _ (by omega)) fun m h0 h1 => ⟨by omega, by omega⟩
theorem szTotRoleS (x : Role) (l : Int) (h : 0 ≤ szRole x l) : szRole x l + ((innRoleS x).length : Int) ≤ l := by 
  have := szRole_nn h; simp only [innRoleS]; omega
theorem szMemRoleS {xs : List Role} {l : Int} (h : 0 ≤ szS szRole xs l) : (xs.length : Int) ≤ l ∧ szS szRole xs l ≤ l ∧ (∀ x ∈ xs, ((innRoleS x).length : Int) ≤ l) ∧ (tot kxRoleS xs : Int) ≤ 2 * l := by
  have h1 := szS_tot szTotRoleS h
  have h2 := szS_len szLeRoleS h
  refine ⟨h2.1, by omega, fun x m => ?_, ?_⟩
  · have := tot_of_mem (kx := fun x => 1 + (innRoleS x).length) m; (try simp only at this); omega
  · have := tot_le (kx := kxRoleS) (kz := fun x => 1 + (innRoleS x).length) (m := 2) (fun x => by simp only [kxRoleS, innRoleS]; omega) xs; omega


set_option maxHeartbeats 400000 in
theorem szRoleS_ok (p : Option Addr) (n c : Nat) (xs : List Role) (l0 : Int) (w : World) (H0 : SnRoleS w p n c xs) (hx : ∀ x ∈ xs, x.ok) (h0 : 0 ≤ l0) (h1 : l0 ≤ 1048576) : Ret Try.prog 14 [.slice p n c, .int .i64 l0] w (Pv w (.int .i64 (szS szRole xs l0))) := by
  refine ret_of_run (N := 27) Try.func14 rfl rfl rfl ?_
  obtain ⟨hd, H⟩ := H0
  have hn := H.len
  have hn6 := H.n64
  have E : Ext w w := Ext.refl w
  refine run_seq ?_
  refine run_region ?_
  refine ov (xassign rfl) rfl rfl rfl ?_
  refine ops_nil ?_
  refine run_seq ?_
  refine run_region ?_
  refine ov (xmove rfl) rfl rfl rfl ?_
  refine ov (xmove rfl) rfl rfl rfl ?_
  refine ov (xlen Try.underlying22 rfl) rfl rfl rfl ?_
  refine ov (xsub rfl rfl (by unfold I64; omega)) rfl rfl rfl ?_
  refine ov (xassign rfl) rfl rfl rfl ?_
  refine ops_nil ?_
  refine run_seq ?_
  refine run_seq ?_
  refine run_region ?_
  refine ov (xmove rfl) rfl rfl rfl ?_
  refine ov (xlss rfl rfl _ rfl) rfl rfl rfl ?_
  refine ods (fun c11 => ?_) (fun c11 => ?_)
  ·
    refine ops_nil ?_
    refine run_cond_t rfl ?_
    refine run_seq ?_
    refine run_region ?_
    refine ov (xassign rfl) rfl rfl rfl ?_
    refine ops_nil ?_
    refine run_ret Try.func14 (res1 rfl rfl) ?_
    exact ⟨_, rfl, by rw [szS, if_pos (by omega)], E⟩
  ·
    refine ops_nil ?_
    refine run_cond_f rfl ?_
    refine run_skip ?_
    refine run_seq ?_
    refine run_seq ?_
    refine run_region ?_
    refine ov (xassign rfl) rfl rfl rfl ?_
    refine ops_nil ?_
    refine run_block ?_
    refine run_loop (ι := Nat × Int × World) (fun x_ => match x_ with | (k, l, wr) => (Ext w wr) ∧ (w.heap.size ≤ wr.heap.size) ∧ (k ≤ n) ∧ (0 ≤ l) ∧ (l ≤ 1048576) ∧ (goS szRole xs (l0 - xs.length) = goS szRole (xs.drop k) l)) (fun x_ => match x_ with | (k, l, wr) => [(0, .slice p n c), (1, .int .i64 l), (5, .int .i64 (k : Int))]) (fun x_ => match x_ with | (k, l, wr) => wr) (fun x_ => match x_ with | (k, l, wr) => n - k) ?_ (0, l0 - (n : Int), w) (⟨E, Nat.le_refl _, by omega, by omega, by omega, by rw [hn]; rfl⟩) ⟨rfl, rfl, rfl, trivial⟩ rfl
    intro i_ hI_ hback5
    obtain ⟨k, l, wr⟩ := i_
    obtain ⟨E, lz_wr, hk, hl0, hl1, hg⟩ := hI_
    try dsimp only
    have zr := E.size
    refine run_seq ?_
    refine run_seq ?_
    refine run_region ?_
    refine ov (xmove rfl) rfl rfl rfl ?_
    refine ov (xmove rfl) rfl rfl rfl ?_
    refine ov (xlen Try.underlying22 rfl) rfl rfl rfl ?_
    refine ov (xlss rfl rfl _ rfl) rfl rfl rfl ?_
    refine ods (fun c15 => ?_) (fun c15 => ?_)
    ·
      refine ops_nil ?_
      refine run_cond_t rfl ?_
      refine run_skip ?_
      refine run_seq ?_
      refine run_block ?_
      refine run_seq ?_
      refine run_region ?_
      refine ov (xmove rfl) rfl rfl rfl ?_
      refine ov (xmove rfl) rfl rfl rfl ?_
      have h20 := (H.ext E).at (i := k) (by omega)
      refine ov (xindexN (i := k) Try.underlying22 Try.sizeOf73 rfl rfl rfl ((H.ext E).p (i := k) (by omega)) (by have := (H.ext E).len; omega)) rfl rfl rfl ?_
      refine ov (v := .agg #[.string xs[k].Name, .int .i64 xs[k].Level, .slice (hd k).p (hd k).n (hd k).c]) (xloadN Try.isAgg73 Try.sizeOf73 rfl (h20) rfl) rfl rfl rfl ?_
      refine ov (xmove rfl) rfl rfl rfl ?_
      refine oc (xcall Try.call53 rfl) rfl rfl rfl (szRole_ok xs[k] l _ _ _ _ ((H.inner (i := k) (by omega)).ext E) (hx _ (List.getElem_mem _)) (by omega) (by omega)) ?_
      rintro _ w1 ⟨rfl, e1⟩
      have z1 := e1.size
      have E := E.trans e1
      refine ov (xassign rfl) rfl rfl rfl ?_
      refine ops_nil ?_
      refine run_seq ?_
      refine run_region ?_
      refine ov (xmove rfl) rfl rfl rfl ?_
      refine ov (xlss rfl rfl _ rfl) rfl rfl rfl ?_
      refine ods (fun c25 => ?_) (fun c25 => ?_)
      ·
        refine ops_nil ?_
        refine run_cond_t rfl ?_
        refine run_seq ?_
        refine run_region ?_
        refine ov (xassign rfl) rfl rfl rfl ?_
        refine ops_nil ?_
        refine run_ret Try.func14 (res1 rfl rfl) ?_
        exact ⟨_, rfl, by rw [szS, if_neg (by omega), hg, List.drop_eq_getElem_cons (by omega), goS, if_pos (by omega)], E⟩
      ·
        refine ops_nil ?_
        refine run_cond_f rfl ?_
        refine run_skip ?_
        refine run_inBlock ?_
        refine run_region ?_
        refine ov (xmove rfl) rfl rfl rfl ?_
        refine ov (xadd rfl rfl (by unfold I64; omega)) rfl rfl rfl ?_
        refine ov (xassign rfl) rfl rfl rfl ?_
        refine ops_nil ?_
        refine run_sub ?_ (hback5 (k + 1, szRole xs[k] l, w1) (⟨E, by omega, by omega, by omega, by have := (szLeRoleS xs[k] l (by omega)).2; omega, by rw [hg, List.drop_eq_getElem_cons (by omega), goS, if_neg (by omega)]⟩) (by first | omega | (dsimp only; omega)))
        exact ⟨rfl, rfl, rfl, trivial⟩
    ·
      refine ops_nil ?_
      refine run_cond_f rfl ?_
      refine run_exit rfl ?_
      refine run_seq ?_
      refine run_region ?_
      refine ov (xmove rfl) rfl rfl rfl ?_
      refine ov (xassign rfl) rfl rfl rfl ?_
      refine ops_nil ?_
      refine run_ret Try.func14 (res1 rfl rfl) ?_
      obtain rfl : k = n := by omega
      exact ⟨_, rfl, by rw [szS, if_neg (by omega), hg, hn, List.drop_length, goS], E⟩

set_option maxHeartbeats 400000 in
theorem toRoleS_ok (p : Option Addr) (n c : Nat) (xs : List Role) (w : World) (H0 : SnRoleS w p n c xs) (hm : ∀ x ∈ xs, ((innRoleS x).length : Int) ≤ 1048576) (hn2 : n ≤ 1048576) : Ret Try.prog 16 [.slice p n c] w (fun v w' => Ext w w' ∧ ∃ q, v = .slice (some q) n n ∧ OnRoleS w' w.heap.size w'.heap.size (some q) n n xs) := by
  refine ret_of_run (N := 23) Try.func16 rfl rfl rfl ?_
  obtain ⟨hd, H⟩ := H0
  have hn := H.len
  have hn6 := H.n64
  have E : Ext w w := Ext.refl w
  refine run_seq ?_
  refine run_region ?_
  refine ov (xassign rfl) rfl rfl rfl ?_
  refine ops_nil ?_
  refine run_seq ?_
  refine run_region ?_
  refine ov (xmove rfl) rfl rfl rfl ?_
  refine ov (xlen Try.underlying22 rfl) rfl rfl rfl ?_
  refine omake (n := n) Try.underlying25 inf71 rfl rfl (by decide) rfl rfl rfl rfl (by simp only [Try.t71]; omega) (by omega) rfl rfl ?_
  intro b1 w1 e1 hb1 hz1 O1
  have E := E.trans e1
  replace O1 : Own w1 b1 (List.replicate (n) ([.string ⟨#[]⟩, .int .i64 0, .slice none 0 0] : List Value)).flatten 71 := O1
  refine ov (xassign rfl) rfl rfl rfl ?_
  refine ops_nil ?_
  refine run_seq ?_
  refine run_seq ?_
  refine run_region ?_
  refine ov (xassign rfl) rfl rfl rfl ?_
  refine ops_nil ?_
  refine run_block ?_
  refine run_loop (ι := Nat × List (X (Role)) × World) (fun x_ => match x_ with | (k, ys, wr) => (Ext w wr) ∧ (Own wr b1 ((ys.map (xc cellsRoleS) ++ List.replicate (n - k) ([.string ⟨#[]⟩, .int .i64 0, .slice none 0 0] : List Value)).flatten) 71) ∧ (Inn innRoleS strc 1 9 wr (b1 + 1) wr.heap.size ys) ∧ (w1.heap.size ≤ wr.heap.size) ∧ (k ≤ n) ∧ (ys.length = k) ∧ (ys.map X.v = xs.take k)) (fun x_ => match x_ with | (k, ys, wr) => [(0, .slice p n c), (3, .slice (some ⟨b1, 0, none⟩) n n), (4, .int .i64 (k : Int))]) (fun x_ => match x_ with | (k, ys, wr) => wr) (fun x_ => match x_ with | (k, ys, wr) => n - k) ?_ (0, [], w1) (⟨E, by simpa using O1, Inn.nil, Nat.le_refl _, by omega, rfl, rfl⟩) ⟨rfl, rfl, rfl, trivial⟩ rfl
  intro i_ hI_ hback3
  obtain ⟨k, ys, wr⟩ := i_
  obtain ⟨E, O_b1, I, lz_wr, hk, hy, hv⟩ := hI_
  try dsimp only
  have zr := E.size
  have lt_b1 := O_b1.lt
  have hik := (fun h : k < xs.length => hm xs[k] (List.getElem_mem h))
  have hil := (fun h : k < xs.length => (H.inner h).len)
  simp only [innRoleS] at hik hil
  refine run_seq ?_
  refine run_seq ?_
  refine run_region ?_
  refine ov (xmove rfl) rfl rfl rfl ?_
  refine ov (xmove rfl) rfl rfl rfl ?_
  refine ov (xlen Try.underlying22 rfl) rfl rfl rfl ?_
  refine ov (xlss rfl rfl _ rfl) rfl rfl rfl ?_
  refine ods (fun c11 => ?_) (fun c11 => ?_)
  ·
    refine ops_nil ?_
    refine run_cond_t rfl ?_
    refine run_skip ?_
    refine run_seq ?_
    refine run_block ?_
    refine run_region ?_
    refine ov (xmove rfl) rfl rfl rfl ?_
    refine ov (xmove rfl) rfl rfl rfl ?_
    refine ov (xmove rfl) rfl rfl rfl ?_
    refine ov (xmove rfl) rfl rfl rfl ?_
    have h18 := (H.ext E).at (i := k) (by omega)
    refine ov (xindexN (i := k) Try.underlying22 Try.sizeOf73 rfl rfl rfl ((H.ext E).p (i := k) (by omega)) (by have := (H.ext E).len; omega)) rfl rfl rfl ?_
    refine ov (v := .agg #[.string xs[k].Name, .int .i64 xs[k].Level, .slice (hd k).p (hd k).n (hd k).c]) (xloadN Try.isAgg73 Try.sizeOf73 rfl (h18) rfl) rfl rfl rfl ?_
    replace hik := hik (by omega)
    replace hil := hil (by omega)
    refine oc (xcall Try.call58 rfl) rfl rfl rfl (toRole_ok xs[k] _ _ _ _ ((H.inner (i := k) (by omega)).ext E) (by omega)) ?_
    rintro _ w2 ⟨e2, q20, rfl, G20⟩
    have z2 := e2.size
    have E := E.trans e2
    replace I := I.ext e2
    replace O_b1 := O_b1.ext e2
    refine ov (xindexO (i := k) Try.underlying25 Try.sizeOf71 rfl rfl rfl (by omega)) rfl rfl rfl ?_
    refine ostoreEl (i := k) (sz := 3) (vs := [.string xs[k].Name, .int .i64 xs[k].Level, .slice (some q20) (hd k).n (hd k).n]) (rows := (ys.map (xc cellsRoleS) ++ List.replicate (n - k) ([.string ⟨#[]⟩, .int .i64 0, .slice none 0 0] : List Value))) Try.sizeOf71 rfl rfl O_b1 (rows_ok2 (fun _ => rfl) rfl) (by simp; omega) rfl (by simp [Value.oneCell']) rfl ?_
    intro w3 on3 O3
    have hz3 := on3.size
    have E := on3.ext E (by omega)
    replace I := I.only on3 (by omega)
    replace G20 := G20.only on3 (by omega)
    refine ops_nil ?_
    refine run_inBlock ?_
    refine run_region ?_
    refine ov (xmove rfl) rfl rfl rfl ?_
    refine ov (xadd rfl rfl (by unfold I64; omega)) rfl rfl rfl ?_
    refine ov (xassign rfl) rfl rfl rfl ?_
    refine ops_nil ?_
    have J := I.push (y := ⟨xs[k], ⟨some q20, (hd k).n, (hd k).n⟩⟩) (hi' := w3.heap.size) (G20.wide (Nat.le_refl _) (by omega)) (by omega) (by omega) (by omega)
    refine run_sub ?_ (hback3 (k + 1, ys ++ [⟨xs[k], ⟨some q20, (hd k).n, (hd k).n⟩⟩], w3) (⟨E, by rw [← rows_push hy (by omega)]; exact O3, J, by omega, by omega, by simp [hy], by rw [List.map_append, hv, List.take_succ_eq_append_getElem (by omega)]; rfl⟩) (by first | omega | (dsimp only; omega)))
    exact ⟨rfl, rfl, rfl, trivial⟩
  ·
    refine ops_nil ?_
    refine run_cond_f rfl ?_
    refine run_exit rfl ?_
    refine run_seq ?_
    refine run_region ?_
    refine ov (xmove rfl) rfl rfl rfl ?_
    refine ov (xassign rfl) rfl rfl rfl ?_
    refine ops_nil ?_
    refine run_ret Try.func16 (res1 rfl rfl) ?_
    obtain rfl : k = n := by omega
    have hO := O_b1
    simp only [Nat.sub_self, List.replicate_zero, List.append_nil] at hO
    have hw := ys.length
    refine ⟨_, rfl, E, _, rfl, ys, by rw [hv, List.take_of_length_le (by omega)], Own.ow hO (by omega) (by omega) (by omega) O_b1.lt (fun _ _ => rfl), I.wide (by omega) (by omega)⟩

set_option maxHeartbeats 400000 in
theorem eqRoleS_ok (p q : Option Addr) (n c m d : Nat) (xs ys : List Role) (w : World) (H0 : SnRoleS w p n c xs) (K0 : SnRoleS w q m d ys) : Ret Try.prog 18 [.slice p n c, .slice q m d] w (Pv w (.bool (eqL eqRole xs ys))) := by
  refine ret_of_run (N := 27) Try.func18 rfl rfl rfl ?_
  obtain ⟨hd, H⟩ := H0
  have hn := H.len
  have hn6 := H.n64
  obtain ⟨he_, K⟩ := K0
  have hm := K.len
  have hm6 := K.n64
  have E : Ext w w := Ext.refl w
  refine run_seq ?_
  refine run_region ?_
  refine ov (xassign rfl) rfl rfl rfl ?_
  refine ops_nil ?_
  refine run_seq ?_
  refine run_seq ?_
  refine run_region ?_
  refine ov (xmove rfl) rfl rfl rfl ?_
  refine ov (xlen Try.underlying25 rfl) rfl rfl rfl ?_
  refine ov (xmove rfl) rfl rfl rfl ?_
  refine ov (xlen Try.underlying25 rfl) rfl rfl rfl ?_
  refine ov (xneq rfl rfl _ rfl) rfl rfl rfl ?_
  refine ods (fun c10 => ?_) (fun c10 => ?_)
  ·
    refine ops_nil ?_
    refine run_cond_t rfl ?_
    refine run_seq ?_
    refine run_region ?_
    refine ov (xassign rfl) rfl rfl rfl ?_
    refine ops_nil ?_
    refine run_ret Try.func18 (res1 rfl rfl) ?_
    exact ⟨_, rfl, by rw [eqL_ne (by omega)], E⟩
  ·
    refine ops_nil ?_
    refine run_cond_f rfl ?_
    refine run_skip ?_
    refine run_seq ?_
    refine run_seq ?_
    refine run_region ?_
    refine ov (xassign rfl) rfl rfl rfl ?_
    refine ops_nil ?_
    refine run_block ?_
    refine run_loop (ι := Nat × World) (fun x_ => match x_ with | (k, wr) => (Ext w wr) ∧ (w.heap.size ≤ wr.heap.size) ∧ (k ≤ n) ∧ (n = m) ∧ (allB k (fun i => eqAt eqRole xs ys i) = true)) (fun x_ => match x_ with | (k, wr) => [(0, .slice p n c), (1, .slice q m d), (5, .int .i64 (k : Int))]) (fun x_ => match x_ with | (k, wr) => wr) (fun x_ => match x_ with | (k, wr) => n - k) ?_ (0, w) (⟨E, Nat.le_refl _, by omega, by omega, allB_zero⟩) ⟨rfl, rfl, rfl, trivial⟩ rfl
    intro i_ hI_ hback4
    obtain ⟨k, wr⟩ := i_
    obtain ⟨E, lz_wr, hk, hnm, ha⟩ := hI_
    try dsimp only
    have zr := E.size
    refine run_seq ?_
    refine run_seq ?_
    refine run_region ?_
    refine ov (xmove rfl) rfl rfl rfl ?_
    refine ov (xmove rfl) rfl rfl rfl ?_
    refine ov (xlen Try.underlying25 rfl) rfl rfl rfl ?_
    refine ov (xlss rfl rfl _ rfl) rfl rfl rfl ?_
    refine ods (fun c14 => ?_) (fun c14 => ?_)
    ·
      refine ops_nil ?_
      refine run_cond_t rfl ?_
      refine run_skip ?_
      refine run_seq ?_
      refine run_block ?_
      refine run_seq ?_
      refine run_draw (by kernel_rfl) (by kernel_rfl) ?_
      refine qv (fun w' x_ => xmove rfl) rfl rfl rfl ?_
      refine qv (fun w' x_ => xmove rfl) rfl rfl rfl ?_
      have h19 := (H.ext E).at (i := k) (by omega)
      refine qv (fun w' x_ => xindexN (i := k) Try.underlying25 Try.sizeOf71 rfl rfl rfl ((H.ext E).p (i := k) (by omega)) (by have := (H.ext E).len; omega)) rfl rfl rfl ?_
      refine qv (v := .agg #[.string xs[k].Name, .int .i64 xs[k].Level, .slice (hd k).p (hd k).n (hd k).c]) (fun w' x_ => xloadN Try.isAgg71 Try.sizeOf71 rfl ((h19).ext x_) rfl) rfl rfl rfl ?_
      refine qv (fun w' x_ => xmove rfl) rfl rfl rfl ?_
      refine qv (fun w' x_ => xmove rfl) rfl rfl rfl ?_
      have h23 := (K.ext E).at (i := k) (by omega)
      refine qv (fun w' x_ => xindexN (i := k) Try.underlying25 Try.sizeOf71 rfl rfl rfl ((K.ext E).p (i := k) (by omega)) (by have := (K.ext E).len; omega)) rfl rfl rfl ?_
      refine qv (v := .agg #[.string ys[k].Name, .int .i64 ys[k].Level, .slice (he_ k).p (he_ k).n (he_ k).c]) (fun w' x_ => xloadN Try.isAgg71 Try.sizeOf71 rfl ((h23).ext x_) rfl) rfl rfl rfl ?_
      have t25 := fun (w' : World) (x_ : Ext wr w') => Ret.q (w := w') (eqRole_ok xs[k] ys[k] _ _ _ _ (((H.inner (i := k) (by omega)).ext E).ext x_) _ _ _ (((K.inner (i := k) (by omega)).ext E).ext x_))
      refine qc (fun w' => xcall Try.call64 rfl) rfl rfl rfl t25 ?_
      clear t25
      refine qbs (fun c25 => ?_) (fun c25 => ?_)
      ·
        refine qv (fun w' x_ => xnot rfl) rfl rfl rfl ?_
        refine q_nil ?_
        intro w1 e1
        have z1 := e1.size
        have E := E.trans e1
        refine run_cond_f rfl ?_
        refine run_skip ?_
        refine run_inBlock ?_
        refine run_region ?_
        refine ov (xmove rfl) rfl rfl rfl ?_
        refine ov (xadd rfl rfl (by unfold I64; omega)) rfl rfl rfl ?_
        refine ov (xassign rfl) rfl rfl rfl ?_
        refine ops_nil ?_
        refine run_sub ?_ (hback4 (k + 1, w1) (⟨E, by omega, by omega, hnm, allB_succ ha (by rw [eqAt_of (by omega) (by omega)]; assumption)⟩) (by first | omega | (dsimp only; omega)))
        exact ⟨rfl, rfl, rfl, trivial⟩
      ·
        refine qv (fun w' x_ => xnot rfl) rfl rfl rfl ?_
        refine q_nil ?_
        intro w1 e1
        have z1 := e1.size
        have E := E.trans e1
        refine run_cond_t rfl ?_
        refine run_seq ?_
        refine run_region ?_
        refine ov (xassign rfl) rfl rfl rfl ?_
        refine ops_nil ?_
        refine run_ret Try.func18 (res1 rfl rfl) ?_
        exact ⟨_, rfl, by rw [eqL_at (i := k) (by omega) (by omega) (by assumption)], E⟩
    ·
      refine ops_nil ?_
      refine run_cond_f rfl ?_
      refine run_exit rfl ?_
      refine run_seq ?_
      refine run_region ?_
      refine ov (xassign rfl) rfl rfl rfl ?_
      refine ops_nil ?_
      refine run_ret Try.func18 (res1 rfl rfl) ?_
      obtain rfl : k = n := by omega
      exact ⟨_, rfl, by rw [eqL_eq (by omega) (by rw [← hn]; exact ha)], E⟩

def mkERoleS (v : Role) (k : Int) : Role := ⟨markT (k), k + 1, markAll mkStringS 1 v.Groups (k + 1 + 1)⟩

set_option maxHeartbeats 1000000 in
theorem markRoleS_a (b n c : Nat) (xs : List (X (Role))) (k0 : Int) (lo hi : Nat) (spare : List Value) (w : World) (O : Own w b ((xs.map (xc cellsRoleS)).flatten ++ spare) 71) (I : Inn innRoleS strc 1 9 w lo hi xs) (hn : n = xs.length) (h1 : lo ≤ b) (h2 : b < hi) (hh : hi ≤ w.heap.size) (hk0 : 0 ≤ k0) (hk1 : k0 ≤ 100000000000) (ht : tot kxRoleS (xs.map X.v) ≤ 1000000000) (hn2 : n ≤ 1000000000) : Ret Try.prog 44 [.slice (some ⟨b, 0, none⟩) n c, .int .i64 k0] w (fun v w' => v = .int .i64 (k0 + (tot kxRoleS (xs.map X.v) : Int)) ∧ Mk lo hi w w' ∧ Own w' b (((nmkX mkERoleS kxRoleS xs k0).map (xc cellsRoleS)).flatten ++ spare) 71 ∧ Inn innRoleS strc 1 9 w' lo hi (nmkX mkERoleS kxRoleS xs k0)) := by
  refine ret_of_run (N := 35) Try.func44 rfl rfl rfl ?_
  have E : Mk lo hi w w := Mk.refl _ _ _
  refine run_seq ?_
  refine run_region ?_
  refine ov (xassign rfl) rfl rfl rfl ?_
  refine ops_nil ?_
  refine run_seq ?_
  refine run_seq ?_
  refine run_region ?_
  refine ov (xassign rfl) rfl rfl rfl ?_
  refine ops_nil ?_
  refine run_block ?_
  refine run_loop (ι := Nat × Int × List (X (Role)) × List (X (Role)) × World) (fun x_ => match x_ with | (i, kk, done, rest, wr) => (Mk lo hi w wr) ∧ (Own wr b ((done.map (xc cellsRoleS)).flatten ++ ((rest.map (xc cellsRoleS)).flatten ++ spare)) 71) ∧ (Inn innRoleS strc 1 9 wr lo hi (done ++ rest)) ∧ (w.heap.size ≤ wr.heap.size) ∧ (i ≤ n) ∧ (done.length = i) ∧ (i + rest.length = n) ∧ (nmkX mkERoleS kxRoleS xs k0 = done ++ nmkX mkERoleS kxRoleS rest kk) ∧ (kk + (tot kxRoleS (rest.map X.v) : Int) = k0 + (tot kxRoleS (xs.map X.v) : Int)) ∧ (k0 ≤ kk)) (fun x_ => match x_ with | (i, kk, done, rest, wr) => [(0, .slice (some ⟨b, 0, none⟩) n c), (1, .int .i64 kk), (5, .int .i64 (i : Int))]) (fun x_ => match x_ with | (i, kk, done, rest, wr) => wr) (fun x_ => match x_ with | (i, kk, done, rest, wr) => n - i) ?_ (0, k0, [], xs, w) (⟨E, O, I, Nat.le_refl _, by omega, rfl, by omega, rfl, rfl, Int.le_refl _⟩) ⟨rfl, rfl, rfl, trivial⟩ rfl
  intro i_ hI_ hback2
  obtain ⟨i, kk, done, rest, wr⟩ := i_
  obtain ⟨E, O_b, I, lz_wr, hi_, hdl, hlen, hall, hkt, hkk0⟩ := hI_
  try dsimp only
  have zr := E.size
  have lt_b := O_b.lt
  refine run_seq ?_
  refine run_seq ?_
  refine run_region ?_
  refine ov (xmove rfl) rfl rfl rfl ?_
  refine ov (xmove rfl) rfl rfl rfl ?_
  refine ov (xlen Try.underlying25 rfl) rfl rfl rfl ?_
  refine ov (xlss rfl rfl _ rfl) rfl rfl rfl ?_
  refine ods (fun c9 => ?_) (fun c9 => ?_)
  ·
    obtain ⟨x, r, rfl⟩ := nx_cons hlen (by omega)
    simp only [List.map_cons, List.flatten_cons, List.append_assoc] at O_b
    have hpre_ := nx_pre (cells := cellsRoleS) (sz := 3) (fun _ _ => rfl) done
    rw [hdl] at hpre_
    have hkt2 := hkt
    simp only [List.map_cons, tot, kxRoleS] at hkt2
    refine ops_nil ?_
    refine run_cond_t rfl ?_
    refine run_skip ?_
    refine run_seq ?_
    refine run_block ?_
    refine run_seq ?_
    refine run_region ?_
    refine ov (xmove rfl) rfl rfl rfl ?_
    refine ov (xmove rfl) rfl rfl rfl ?_
    refine ov (xmove rfl) rfl rfl rfl ?_
    refine oc (xcall Try.call76 rfl) rfl rfl rfl (markText_ok (kk) _ (by omega) (by omega)) ?_
    rintro _ w1 ⟨rfl, e1⟩
    have z1 := e1.size
    have E := E.trans (Mk.ofExt e1)
    replace I := I.ext e1
    replace O_b := O_b.ext e1
    refine ov (xindexO (i := i) Try.underlying25 Try.sizeOf71 rfl rfl rfl (by omega)) rfl rfl rfl ?_
    refine ov (xfieldAddr fo71f0 rfl) rfl rfl rfl ?_
    refine ostoreMid (j := 0) (pre := (done.map (xc cellsRoleS)).flatten) (row := [.string x.v.Name, .int .i64 x.v.Level, .slice x.h.p x.h.n x.h.c]) (post := ((r.map (xc cellsRoleS)).flatten ++ spare)) Try.sizeOf9 rfl rfl O_b (by rw [hpre_]; omega) (by simp) rfl rfl ?_
    intro w2 on2 O2
    have hz2 := on2.size
    have E := E.trans (Mk.ofOnly on2 (by omega) (by omega))
    replace I := I.onlyT O_b (by decide) on2
    replace O2 : Own w2 b ((done.map (xc cellsRoleS)).flatten ++ ([.string (markT kk), .int .i64 x.v.Level, .slice x.h.p x.h.n x.h.c] ++ ((r.map (xc cellsRoleS)).flatten ++ spare))) 71 := O2
    refine ops_nil ?_
    refine run_seq ?_
    refine run_region ?_
    refine ov (xmove rfl) rfl rfl rfl ?_
    refine ov (v := .int .i64 (kk + 1)) (xadd rfl rfl (by unfold I64; omega)) rfl rfl rfl ?_
    refine ov (xassign rfl) rfl rfl rfl ?_
    refine ops_nil ?_
    refine run_seq ?_
    refine run_region ?_
    refine ov (xmove rfl) rfl rfl rfl ?_
    refine ov (xmove rfl) rfl rfl rfl ?_
    refine ov (xmove rfl) rfl rfl rfl ?_
    refine ov (xindexO (i := i) Try.underlying25 Try.sizeOf71 rfl rfl rfl (by omega)) rfl rfl rfl ?_
    refine ov (xfieldAddr fo71f1 rfl) rfl rfl rfl ?_
    refine ostoreMid (j := 1) (pre := (done.map (xc cellsRoleS)).flatten) (row := [.string (markT kk), .int .i64 x.v.Level, .slice x.h.p x.h.n x.h.c]) (post := ((r.map (xc cellsRoleS)).flatten ++ spare)) Try.sizeOf2 rfl rfl O2 (by rw [hpre_]; omega) (by simp) rfl rfl ?_
    intro w3 on3 O3
    have hz3 := on3.size
    have E := E.trans (Mk.ofOnly on3 (by omega) (by omega))
    replace I := I.onlyT O2 (by decide) on3
    replace O3 : Own w3 b ((done.map (xc cellsRoleS)).flatten ++ ([.string (markT kk), .int .i64 (kk + 1), .slice x.h.p x.h.n x.h.c] ++ ((r.map (xc cellsRoleS)).flatten ++ spare))) 71 := O3
    refine ops_nil ?_
    refine run_seq ?_
    refine run_region ?_
    refine ov (xmove rfl) rfl rfl rfl ?_
    refine ov (v := .int .i64 (kk + 1 + 1)) (xadd rfl rfl (by unfold I64; omega)) rfl rfl rfl ?_
    refine ov (xassign rfl) rfl rfl rfl ?_
    refine ops_nil ?_
    refine run_region ?_
    refine ov (xmove rfl) rfl rfl rfl ?_
    refine ov (xmove rfl) rfl rfl rfl ?_
    refine ov (xindexO (i := i) Try.underlying25 Try.sizeOf71 rfl rfl rfl (by omega)) rfl rfl rfl ?_
    refine ov (xfieldAddr fo71f2 rfl) rfl rfl rfl ?_
    refine ov (v := .slice x.h.p x.h.n x.h.c) (xload1 Try.isAgg49 rfl (O3.mid (pre := (done.map (xc cellsRoleS)).flatten) (row := [.string (markT kk), .int .i64 (kk + 1), .slice x.h.p x.h.n x.h.c]) (post := ((r.map (xc cellsRoleS)).flatten ++ spare)) (by rw [hpre_]; omega)) rfl) rfl rfl rfl ?_
    refine ov (xmove rfl) rfl rfl rfl ?_
    have Gx_ := (I.i x (by simp)).narrow
    have hgl_ := Gx_.len
    simp only [innRoleS] at hgl_
    refine oc (xcall Try.call45 rfl) rfl rfl rfl (markStringS_ok _ _ _ _ _ _ _ _ Gx_ (by omega) (by omega) (by omega)) ?_
    rintro _ w4 ⟨rfl, m4, g4⟩
    have z4 := m4.size
    obtain ⟨M4, O4, I4⟩ := I.mark (v' := mkERoleS x.v kk) O3 (by decide) m4 g4 (by simp only [mkERoleS, innRoleS, List.map_cons])
    have E := E.trans M4
    have I := I4
    refine ov (xassign rfl) rfl rfl rfl ?_
    refine ops_nil ?_
    refine run_inBlock ?_
    refine run_region ?_
    refine ov (xmove rfl) rfl rfl rfl ?_
    refine ov (xadd rfl rfl (by unfold I64; omega)) rfl rfl rfl ?_
    refine ov (xassign rfl) rfl rfl rfl ?_
    refine ops_nil ?_
    have hpl_ := Gx_.len
    simp only [innRoleS] at hpl_
    refine run_sub ?_ (hback2 (i + 1, kk + 1 + 1 + 1 * (x.h.n : Int), done ++ [⟨mkERoleS x.v kk, x.h⟩], r, w4) (⟨E, by rw [← nx_join (row := [.string (markT kk), .int .i64 (kk + 1), .slice x.h.p x.h.n x.h.c]) (y := ⟨mkERoleS x.v kk, x.h⟩) (by first | rfl | simp only [xc, cellsRoleS, mkERoleS, hpl_])]; exact O4, (by rw [List.append_assoc]; exact I), by omega, by omega, by simp [hdl], by simp only [List.length_cons] at hlen; omega, by rw [hall, nmkX, List.append_assoc, List.singleton_append, show kk + ((kxRoleS x.v : Nat) : Int) = kk + 1 + 1 + 1 * (x.h.n : Int) from by simp only [kxRoleS]; omega], by simp only [List.map_cons, tot, kxRoleS] at hkt; omega, by omega⟩) (by dsimp only; omega))
    exact ⟨rfl, rfl, rfl, trivial⟩
  ·
    refine ops_nil ?_
    refine run_cond_f rfl ?_
    refine run_exit rfl ?_
    refine run_seq ?_
    refine run_region ?_
    refine ov (xmove rfl) rfl rfl rfl ?_
    refine ov (xassign rfl) rfl rfl rfl ?_
    refine ops_nil ?_
    refine run_ret Try.func44 (res1 rfl rfl) ?_
    obtain rfl : rest = [] := by cases rest with | nil => rfl | cons x r => simp only [List.length_cons] at hlen; omega
    simp only [nmkX, List.append_nil] at hall
    simp only [List.map_nil, tot] at hkt
    rw [List.append_nil] at I
    exact ⟨_, rfl, by congr 1; omega, E, by rw [hall]; exact O_b, by rw [hall]; exact I⟩

set_option maxHeartbeats 400000 in
theorem markRoleS_b (p : Option Addr) (c : Nat) (k0 : Int) (w : World) : Ret Try.prog 44 [.slice p 0 c, .int .i64 k0] w (Ps w (.int .i64 k0)) := by
  refine ret_of_run (N := 35) Try.func44 rfl rfl rfl ?_
  have E : Ext w w := Ext.refl w
  refine run_seq ?_
  refine run_region ?_
  refine ov (xassign rfl) rfl rfl rfl ?_
  refine ops_nil ?_
  refine run_seq ?_
  refine run_seq ?_
  refine run_region ?_
  refine ov (xassign rfl) rfl rfl rfl ?_
  refine ops_nil ?_
  refine run_block ?_
  refine run_loop (ι := Unit) (fun _u => (True)) (fun _u => [(0, .slice p 0 c), (1, .int .i64 k0), (5, .int .i64 0)]) (fun _u => w) (fun _u => 0) ?_ () (trivial) ⟨rfl, rfl, rfl, trivial⟩ rfl
  intro _u hI_ hback2
  obtain ⟨_⟩ := hI_
  try dsimp only
  refine run_seq ?_
  refine run_seq ?_
  refine run_region ?_
  refine ov (xmove rfl) rfl rfl rfl ?_
  refine ov (xmove rfl) rfl rfl rfl ?_
  refine ov (xlen Try.underlying25 rfl) rfl rfl rfl ?_
  refine ov (xlss rfl rfl _ rfl) rfl rfl rfl ?_
  refine ods (fun c9 => ?_) (fun c9 => ?_)
  · exfalso; omega
  ·
    refine ops_nil ?_
    refine run_cond_f rfl ?_
    refine run_exit rfl ?_
    refine run_seq ?_
    refine run_region ?_
    refine ov (xmove rfl) rfl rfl rfl ?_
    refine ov (xassign rfl) rfl rfl rfl ?_
    refine ops_nil ?_
    refine run_ret Try.func44 (res1 rfl rfl) ?_
    exact ⟨_, rfl, rfl, rfl⟩


theorem markRoleS_ok (p : Option Addr) (n c : Nat) (xs : List (Role)) (k0 : Int) (lo hi : Nat) (w : World) (ho : OnRoleS w lo hi p n c xs) (hh : hi ≤ w.heap.size) (hk0 : 0 ≤ k0) (hk1 : k0 ≤ 100000000000) (ht : tot kxRoleS xs ≤ 1000000000) (hn2 : n ≤ 1000000000) :
    Ret Try.prog 44 [.slice p n c, .int .i64 k0] w (fun v w' => ∃ k, v = .int .i64 k ∧ k = k0 + (tot kxRoleS xs : Int) ∧ Mk lo hi w w' ∧ OnRoleS w' lo hi p n c (nmk mkERoleS kxRoleS xs k0)) := by
  obtain ⟨ys, rfl, ho⟩ := ho
  rcases ho.o.row with ⟨h1, h2⟩ | ⟨b, s, h1, h2, h3, h4, h5⟩
  · have hn : n = 0 := by have := ho.o.cap; omega
    subst hn
    refine (markRoleS_b p c k0 w).mono fun v w' ⟨hv, hw⟩ => ?_
    subst hw
    have hx : ys = [] := by have := ho.o.len; cases ys with | nil => rfl | cons y r => simp at this
    subst hx
    exact ⟨_, hv, by simp [tot], Mk.refl _ _ _, [], rfl, ho⟩
  · subst h1
    exact (markRoleS_a b n c ys k0 lo hi s w h4 ho.i ho.o.len h2 h3 hh hk0 hk1 ht hn2).mono fun v w' ⟨hv, hm, hO, hI⟩ =>
      ⟨_, hv, rfl, hm, _, nmkX_map _ _ _ _, ⟨⟨by rw [nmkX_length]; exact ho.o.len, ho.o.cap, ho.o.big, .inr ⟨b, s, rfl, h2, h3, hO, h5⟩, fun _ _ => rfl⟩, hI⟩⟩


structure File where
  Code : ByteArray
  Level : Int
  Groups : List ByteArray
  Until : Int
def File.ok (x : File) : Prop := x.Code.size ≤ 9223372036854775807 ∧ I64 x.Level ∧ (∀ y ∈ x.Groups, y.size ≤ 9223372036854775807) ∧ I64 x.Until
def szFile (x : File) (l : Int) : Int := bnd (sub1 x.Code.size l) (fun l => bnd (szS szT x.Groups l) (fun l => l))
def eqFile (x y : File) : Bool := decide (x.Code = y.Code ∧ x.Level = y.Level ∧ x.Until = y.Until) && eqL eqT x.Groups y.Groups
theorem eqFile_refl (x : File) : eqFile x x = true := by simp [eqFile, eqL_refl eqT_refl]




theorem szFile_nn {x : File} {l : Int} (h : 0 ≤ szFile x l) : szFile x l ≤ l ∧ (x.Groups.length : Int) ≤ l ∧ szFile x l + (x.Groups.length : Int) ≤ l := by
  unfold szFile at h ⊢
  obtain ⟨a0, e0⟩ := bnd_nn h
  rw [e0] at h ⊢
  clear e0
  try dsimp only at h ⊢
  have b0 := sub1_nn a0
  obtain ⟨a1, e1⟩ := bnd_nn h
  rw [e1] at h ⊢
  clear e1
  try dsimp only at h ⊢
  have b1 := szS_len szT_le a1
  omega

set_option maxHeartbeats 400000 in
theorem szFile_ok (x : File) (l : Int) (w : World) (p_Groups : Option Addr) (n_Groups c_Groups : Nat) (H_Groups : Sl strc 1 w p_Groups n_Groups c_Groups x.Groups) (hx : x.ok) (h0 : 0 ≤ l) (h1 : l ≤ 1048576) : Ret Try.prog 65 [.agg #[.string x.Code, .int .i64 x.Level, .slice p_Groups n_Groups c_Groups, .int .i64 x.Until], .int .i64 l] w (Pv w (.int .i64 (szFile x l))) := by
  refine ret_of_run (N := 19) Try.func65 rfl rfl rfl ?_
  have hn_Groups := H_Groups.len
  have hn6_Groups := H_Groups.n64
  obtain ⟨o0, o1, o2, o3⟩ := hx
  unfold I64 at *
  have E : Ext w w := Ext.refl w
  refine run_seq ?_
  refine run_region ?_
  refine obox rfl rfl rfl ?_
  intro b1 w1 e1 hb1 hz1 O1
  have E := E.trans e1
  replace O1 : Own w1 b1 [.string x.Code, .int .i64 x.Level, .slice p_Groups n_Groups c_Groups, .int .i64 x.Until] 83 := O1
  refine ov (xassign rfl) rfl rfl rfl ?_
  refine ops_nil ?_
  refine run_seq ?_
  refine run_region ?_
  refine ov (xmove rfl) rfl rfl rfl ?_
  refine ov (xfieldAddr fo83f0 rfl) rfl rfl rfl ?_
  refine ov (v := .string x.Code) (xload1 Try.isAgg9 rfl (O1.cells) rfl) rfl rfl rfl ?_
  refine ov (xlens Try.underlying9 rfl) rfl rfl rfl ?_
  refine ov (xsub rfl rfl (by unfold I64; omega)) rfl rfl rfl ?_
  refine ov (xassign rfl) rfl rfl rfl ?_
  refine ops_nil ?_
  refine run_seq ?_
  refine run_seq ?_
  refine run_region ?_
  refine ov (xmove rfl) rfl rfl rfl ?_
  refine ov (xlss rfl rfl _ rfl) rfl rfl rfl ?_
  refine ods (fun c11 => ?_) (fun c11 => ?_)
  ·
    refine ops_nil ?_
    refine run_cond_t rfl ?_
    refine run_seq ?_
    refine run_region ?_
    refine ov (xassign rfl) rfl rfl rfl ?_
    refine ops_nil ?_
    refine run_ret Try.func65 (res1 rfl rfl) ?_
    exact ⟨_, rfl, by unfold szFile bnd sub1; dsimp only; simp only [*, if_true, if_false, ↓reduceIte] <;> (try simp), E⟩
  ·
    refine ops_nil ?_
    refine run_cond_f rfl ?_
    refine run_skip ?_
    refine run_seq ?_
    refine run_region ?_
    refine ov (xfieldAddr fo83f2 rfl) rfl rfl rfl ?_
    refine ov (v := .slice p_Groups n_Groups c_Groups) (xload1 Try.isAgg49 rfl (O1.cells) rfl) rfl rfl rfl ?_
    refine ov (xmove rfl) rfl rfl rfl ?_
    refine oc (xcall Try.call90 rfl) rfl rfl rfl (szStringS_ok _ _ _ _ _ _ (H_Groups.ext E) o2 (by omega) (by omega)) ?_
    rintro _ w2 ⟨rfl, e2⟩
    have z2 := e2.size
    have E := E.trans e2
    replace O1 := O1.ext e2
    refine ov (xassign rfl) rfl rfl rfl ?_
    refine ops_nil ?_
    refine run_seq ?_
    refine run_seq ?_
    refine run_region ?_
    refine ov (xmove rfl) rfl rfl rfl ?_
    refine ov (xlss rfl rfl _ rfl) rfl rfl rfl ?_
    refine ods (fun c17 => ?_) (fun c17 => ?_)
    ·
      refine ops_nil ?_
      refine run_cond_t rfl ?_
      refine run_seq ?_
      refine run_region ?_
      refine ov (xassign rfl) rfl rfl rfl ?_
      refine ops_nil ?_
      refine run_ret Try.func65 (res1 rfl rfl) ?_
      exact ⟨_, rfl, by unfold szFile bnd sub1; dsimp only; simp only [*, if_true, if_false, ↓reduceIte] <;> (try simp), E⟩
    ·
      refine ops_nil ?_
      refine run_cond_f rfl ?_
      refine run_skip ?_
      refine run_seq ?_
      refine run_region ?_
      refine ov (xmove rfl) rfl rfl rfl ?_
      refine ov (xassign rfl) rfl rfl rfl ?_
      refine ops_nil ?_
      refine run_ret Try.func65 (res1 rfl rfl) ?_
      exact ⟨_, rfl, by unfold szFile bnd sub1; dsimp only; simp only [*, if_true, if_false, ↓reduceIte] <;> (try simp), E⟩

set_option maxHeartbeats 400000 in
theorem toFile_ok (x : File) (w : World) (p_Groups : Option Addr) (n_Groups c_Groups : Nat) (H_Groups : Sl strc 1 w p_Groups n_Groups c_Groups x.Groups) (hs_Groups : n_Groups ≤ 1048576) : Ret Try.prog 68 [.agg #[.string x.Code, .int .i64 x.Level, .slice p_Groups n_Groups c_Groups, .int .i64 x.Until]] w (fun v w' => Ext w w' ∧ ∃ q_Groups, v = .agg #[.string x.Code, .int .i64 x.Level, .slice (some q_Groups) n_Groups n_Groups, .int .i64 x.Until] ∧ Ow strc 1 9 w' w.heap.size w'.heap.size (some q_Groups) n_Groups n_Groups x.Groups) := by
  refine ret_of_run (N := 18) Try.func68 rfl rfl rfl ?_
  have hn_Groups := H_Groups.len
  have hn6_Groups := H_Groups.n64
  have E : Ext w w := Ext.refl w
  refine run_seq ?_
  refine run_region ?_
  refine obox rfl rfl rfl ?_
  intro b1 w1 e1 hb1 hz1 O1
  have E := E.trans e1
  replace O1 : Own w1 b1 [.string x.Code, .int .i64 x.Level, .slice p_Groups n_Groups c_Groups, .int .i64 x.Until] 83 := O1
  refine oalloc Try.zeroValue54 rfl rfl ?_
  intro b2 w2 e2 hb2 hz2 O2
  have E := E.trans e2
  replace O1 := O1.ext e2
  replace O2 : Own w2 b2 [.string ⟨#[]⟩, .int .i64 0, .slice none 0 0, .int .i64 0] 54 := O2
  refine ops_nil ?_
  refine run_seq ?_
  refine run_region ?_
  refine oalloc Try.zeroValue54 rfl rfl ?_
  intro b3 w3 e3 hb3 hz3 O3
  have E := E.trans e3
  replace O1 := O1.ext e3
  replace O2 := O2.ext e3
  replace O3 : Own w3 b3 [.string ⟨#[]⟩, .int .i64 0, .slice none 0 0, .int .i64 0] 54 := O3
  refine ops_nil ?_
  refine run_seq ?_
  refine run_region ?_
  refine ov (xfieldAddr fo83f0 rfl) rfl rfl rfl ?_
  refine ov (v := .string x.Code) (xload1 Try.isAgg9 rfl (O1.cells) rfl) rfl rfl rfl ?_
  refine ov (xfieldAddr fo54f0 rfl) rfl rfl rfl ?_
  refine ostore1 Try.sizeOf9 rfl rfl O3 (by simp) rfl rfl ?_
  intro w4 on4 O4
  have hz4 := on4.size
  have E := on4.ext E (by omega)
  replace O1 := on4.own O1 (by omega)
  replace O2 := on4.own O2 (by omega)
  replace O4 : Own w4 b3 [.string x.Code, .int .i64 0, .slice none 0 0, .int .i64 0] 54 := O4
  refine ops_nil ?_
  refine run_seq ?_
  refine run_region ?_
  refine ov (xfieldAddr fo83f1 rfl) rfl rfl rfl ?_
  refine ov (v := .int .i64 x.Level) (xload1 Try.isAgg2 rfl (O1.cells) rfl) rfl rfl rfl ?_
  refine ov (xfieldAddr fo54f1 rfl) rfl rfl rfl ?_
  refine ostore1 Try.sizeOf2 rfl rfl O4 (by simp) rfl rfl ?_
  intro w5 on5 O5
  have hz5 := on5.size
  have E := on5.ext E (by omega)
  replace O1 := on5.own O1 (by omega)
  replace O2 := on5.own O2 (by omega)
  replace O5 : Own w5 b3 [.string x.Code, .int .i64 x.Level, .slice none 0 0, .int .i64 0] 54 := O5
  refine ops_nil ?_
  refine run_seq ?_
  refine run_region ?_
  refine ov (xfieldAddr fo83f2 rfl) rfl rfl rfl ?_
  refine ov (v := .slice p_Groups n_Groups c_Groups) (xload1 Try.isAgg49 rfl (O1.cells) rfl) rfl rfl rfl ?_
  refine oc (xcall Try.call91 rfl) rfl rfl rfl (toStringS_ok _ _ _ _ _ (H_Groups.ext E) (by omega)) ?_
  rintro _ w6 ⟨e6, q12, rfl, G12⟩
  have z6 := e6.size
  have E := E.trans e6
  replace O1 := O1.ext e6
  replace O2 := O2.ext e6
  replace O5 := O5.ext e6
  refine ov (xfieldAddr fo54f2 rfl) rfl rfl rfl ?_
  refine ostore1 Try.sizeOf49 rfl rfl O5 (by simp) rfl rfl ?_
  intro w7 on7 O7
  have hz7 := on7.size
  have E := on7.ext E (by omega)
  replace G12 := G12.only on7 (by omega)
  replace O1 := on7.own O1 (by omega)
  replace O2 := on7.own O2 (by omega)
  replace O7 : Own w7 b3 [.string x.Code, .int .i64 x.Level, .slice (some q12) n_Groups n_Groups, .int .i64 0] 54 := O7
  refine ops_nil ?_
  refine run_seq ?_
  refine run_region ?_
  refine ov (xfieldAddr fo83f3 rfl) rfl rfl rfl ?_
  refine ov (v := .int .i64 x.Until) (xload1 Try.isAgg2 rfl (O1.cells) rfl) rfl rfl rfl ?_
  refine ov (xfieldAddr fo54f3 rfl) rfl rfl rfl ?_
  refine ostore1 Try.sizeOf2 rfl rfl O7 (by simp) rfl rfl ?_
  intro w8 on8 O8
  have hz8 := on8.size
  have E := on8.ext E (by omega)
  replace G12 := G12.only on8 (by omega)
  replace O1 := on8.own O1 (by omega)
  replace O2 := on8.own O2 (by omega)
  replace O8 : Own w8 b3 [.string x.Code, .int .i64 x.Level, .slice (some q12) n_Groups n_Groups, .int .i64 x.Until] 54 := O8
  refine ops_nil ?_
  refine run_seq ?_
  refine run_region ?_
  refine ov (v := .agg #[.string x.Code, .int .i64 x.Level, .slice (some q12) n_Groups n_Groups, .int .i64 x.Until]) (xloadN Try.isAgg54 Try.sizeOf54 rfl (O8.cells) rfl) rfl rfl rfl ?_
  refine ostoreN (vs := _) Try.sizeOf54 rfl rfl O2 rfl (by simp) (by simp [Value.oneCell']) rfl ?_
  intro w9 on9 O9
  have hz9 := on9.size
  have E := on9.ext E (by omega)
  replace G12 := G12.only on9 (by omega)
  replace O1 := on9.own O1 (by omega)
  replace O8 := on9.own O8 (by omega)
  replace O9 : Own w9 b2 [.string x.Code, .int .i64 x.Level, .slice (some q12) n_Groups n_Groups, .int .i64 x.Until] 54 := O9
  refine ops_nil ?_
  refine run_ret Try.func68 (resc1 rfl rfl (run_loadVar_cells Try.isAgg54 Try.sizeOf54 O9.cells rfl)) ?_
  exact ⟨_, rfl, E, _, rfl, G12.wide (by omega) (by omega)⟩

set_option maxHeartbeats 400000 in
theorem eqFile_ok (x y : File) (w : World) (p1_Groups : Option Addr) (n1_Groups c1_Groups : Nat) (H1_Groups : Sl strc 1 w p1_Groups n1_Groups c1_Groups x.Groups) (p2_Groups : Option Addr) (n2_Groups c2_Groups : Nat) (H2_Groups : Sl strc 1 w p2_Groups n2_Groups c2_Groups y.Groups) : Ret Try.prog 71 [.agg #[.string x.Code, .int .i64 x.Level, .slice p1_Groups n1_Groups c1_Groups, .int .i64 x.Until], .agg #[.string y.Code, .int .i64 y.Level, .slice p2_Groups n2_Groups c2_Groups, .int .i64 y.Until]] w (Pv w (.bool (eqFile x y))) := by
  refine ret_of_run (N := 26) Try.func71 rfl rfl rfl ?_
  have hn1_Groups := H1_Groups.len
  have hn61_Groups := H1_Groups.n64
  have hn2_Groups := H2_Groups.len
  have hn62_Groups := H2_Groups.n64
  have E : Ext w w := Ext.refl w
  refine run_seq ?_
  refine run_region ?_
  refine obox rfl rfl rfl ?_
  intro b1 w1 e1 hb1 hz1 O1
  have E := E.trans e1
  replace O1 : Own w1 b1 [.string x.Code, .int .i64 x.Level, .slice p1_Groups n1_Groups c1_Groups, .int .i64 x.Until] 54 := O1
  refine obox rfl rfl rfl ?_
  intro b2 w2 e2 hb2 hz2 O2
  have E := E.trans e2
  replace O1 := O1.ext e2
  replace O2 : Own w2 b2 [.string y.Code, .int .i64 y.Level, .slice p2_Groups n2_Groups c2_Groups, .int .i64 y.Until] 54 := O2
  refine ov (xassign rfl) rfl rfl rfl ?_
  refine ops_nil ?_
  refine run_seq ?_
  refine run_seq ?_
  refine run_region ?_
  refine ov (xfieldAddr fo54f0 rfl) rfl rfl rfl ?_
  refine ov (v := .string x.Code) (xload1 Try.isAgg9 rfl (O1.cells) rfl) rfl rfl rfl ?_
  refine ov (xfieldAddr fo54f0 rfl) rfl rfl rfl ?_
  refine ov (v := .string y.Code) (xload1 Try.isAgg9 rfl (O2.cells) rfl) rfl rfl rfl ?_
  refine ov (xsneq rfl rfl _ rfl) rfl rfl rfl ?_
  refine ods (fun c9 => ?_) (fun c9 => ?_)
  ·
    refine ops_nil ?_
    refine run_cond_t rfl ?_
    refine run_seq ?_
    refine run_region ?_
    refine ov (xassign rfl) rfl rfl rfl ?_
    refine ops_nil ?_
    refine run_ret Try.func71 (res1 rfl rfl) ?_
    exact ⟨_, rfl, by simp_all [eqFile], E⟩
  ·
    refine ops_nil ?_
    refine run_cond_f rfl ?_
    refine run_skip ?_
    refine run_seq ?_
    refine run_seq ?_
    refine run_region ?_
    refine ov (xfieldAddr fo54f1 rfl) rfl rfl rfl ?_
    refine ov (v := .int .i64 x.Level) (xload1 Try.isAgg2 rfl (O1.cells) rfl) rfl rfl rfl ?_
    refine ov (xfieldAddr fo54f1 rfl) rfl rfl rfl ?_
    refine ov (v := .int .i64 y.Level) (xload1 Try.isAgg2 rfl (O2.cells) rfl) rfl rfl rfl ?_
    refine ov (xneq rfl rfl _ rfl) rfl rfl rfl ?_
    refine ods (fun c14 => ?_) (fun c14 => ?_)
    ·
      refine ops_nil ?_
      refine run_cond_t rfl ?_
      refine run_seq ?_
      refine run_region ?_
      refine ov (xassign rfl) rfl rfl rfl ?_
      refine ops_nil ?_
      refine run_ret Try.func71 (res1 rfl rfl) ?_
      exact ⟨_, rfl, by simp_all [eqFile], E⟩
    ·
      refine ops_nil ?_
      refine run_cond_f rfl ?_
      refine run_skip ?_
      refine run_seq ?_
      refine run_seq ?_
      refine run_region ?_
      refine ov (xfieldAddr fo54f2 rfl) rfl rfl rfl ?_
      refine ov (v := .slice p1_Groups n1_Groups c1_Groups) (xload1 Try.isAgg49 rfl (O1.cells) rfl) rfl rfl rfl ?_
      refine ov (xfieldAddr fo54f2 rfl) rfl rfl rfl ?_
      refine ov (v := .slice p2_Groups n2_Groups c2_Groups) (xload1 Try.isAgg49 rfl (O2.cells) rfl) rfl rfl rfl ?_
      refine oc (xcall Try.call43 rfl) rfl rfl rfl (eqStringS_ok _ _ _ _ _ _ _ _ _ (H1_Groups.ext E) (H2_Groups.ext E)) ?_
      rintro _ w3 ⟨rfl, e3⟩
      have z3 := e3.size
      have E := E.trans e3
      replace O1 := O1.ext e3
      replace O2 := O2.ext e3
      refine obs (fun c19 => ?_) (fun c19 => ?_)
      ·
        refine ov (xnot rfl) rfl rfl rfl ?_
        refine ops_nil ?_
        refine run_cond_f rfl ?_
        refine run_skip ?_
        refine run_seq ?_
        refine run_seq ?_
        refine run_region ?_
        refine ov (xfieldAddr fo54f3 rfl) rfl rfl rfl ?_
        refine ov (v := .int .i64 x.Until) (xload1 Try.isAgg2 rfl (O1.cells) rfl) rfl rfl rfl ?_
        refine ov (xfieldAddr fo54f3 rfl) rfl rfl rfl ?_
        refine ov (v := .int .i64 y.Until) (xload1 Try.isAgg2 rfl (O2.cells) rfl) rfl rfl rfl ?_
        refine ov (xneq rfl rfl _ rfl) rfl rfl rfl ?_
        refine ods (fun c25 => ?_) (fun c25 => ?_)
        ·
          refine ops_nil ?_
          refine run_cond_t rfl ?_
          refine run_seq ?_
          refine run_region ?_
          refine ov (xassign rfl) rfl rfl rfl ?_
          refine ops_nil ?_
          refine run_ret Try.func71 (res1 rfl rfl) ?_
          exact ⟨_, rfl, by simp_all [eqFile], E⟩
        ·
          refine ops_nil ?_
          refine run_cond_f rfl ?_
          refine run_skip ?_
          refine run_seq ?_
          refine run_region ?_
          refine ov (xassign rfl) rfl rfl rfl ?_
          refine ops_nil ?_
          refine run_ret Try.func71 (res1 rfl rfl) ?_
          exact ⟨_, rfl, by simp_all [eqFile], E⟩
      ·
        refine ov (xnot rfl) rfl rfl rfl ?_
        refine ops_nil ?_
        refine run_cond_t rfl ?_
        refine run_seq ?_
        refine run_region ?_
        refine ov (xassign rfl) rfl rfl rfl ?_
        refine ops_nil ?_
        refine run_ret Try.func71 (res1 rfl rfl) ?_
        exact ⟨_, rfl, by simp_all [eqFile], E⟩

def cellsFileS (v : File) (h : Hd) : List Value := [.string v.Code, .int .i64 v.Level, .slice h.p h.n h.c, .int .i64 v.Until]
def innFileS (v : File) : List ByteArray := v.Groups
abbrev SnFileS (w : World) (p : Option Addr) (n c : Nat) (vs : List File) : Prop := Sn cellsFileS 4 innFileS strc 1 w p n c vs
abbrev OnFileS (w : World) (lo hi : Nat) (p : Option Addr) (n c : Nat) (vs : List File) : Prop := On cellsFileS 4 54 innFileS strc 1 9 w lo hi p n c vs
def kxFileS (v : File) : Nat := 3 + v.Groups.length


theorem szLeFileS (x : File) (l : Int) (h : -1 ≤ l) : -1 ≤ szFile x l ∧ szFile x l ≤ l := by 
  exact bnd_le (sub1_le h) fun m h0 h1 => bnd_le (szS_le szT_le _ _ (by omega)) fun m h0 h1 => ⟨by omega, by omega⟩
theorem szTotFileS (x : File) (l : Int) (h : 0 ≤ szFile x l) : szFile x l + ((innFileS x).length : Int) ≤ l := by 
  have := szFile_nn h; simp only [innFileS]; omega
theorem szMemFileS {xs : List File} {l : Int} (h : 0 ≤ szS szFile xs l) : (xs.length : Int) ≤ l ∧ szS szFile xs l ≤ l ∧ (∀ x ∈ xs, ((innFileS x).length : Int) ≤ l) ∧ (tot kxFileS xs : Int) ≤ 3 * l := by
  have h1 := szS_tot szTotFileS h
  have h2 := szS_len szLeFileS h
  refine ⟨h2.1, by omega, fun x m => ?_, ?_⟩
  · have := tot_of_mem (kx := fun x => 1 + (innFileS x).length) m; (try simp only at this); omega
  · have := tot_le (kx := kxFileS) (kz := fun x => 1 + (innFileS x).length) (m := 3) (fun x => by simp only [kxFileS, innFileS]; omega) xs; omega


set_option maxHeartbeats 400000 in
theorem szFileS_ok (p : Option Addr) (n c : Nat) (xs : List File) (l0 : Int) (w : World) (H0 : SnFileS w p n c xs) (hx : ∀ x ∈ xs, x.ok) (h0 : 0 ≤ l0) (h1 : l0 ≤ 1048576) : Ret Try.prog 19 [.slice p n c, .int .i64 l0] w (Pv w (.int .i64 (szS szFile xs l0))) := by
  refine ret_of_run (N := 27) Try.func19 rfl rfl rfl ?_
  obtain ⟨hd, H⟩ := H0
  have hn := H.len
  have hn6 := H.n64
  have E : Ext w w := Ext.refl w
  refine run_seq ?_
  refine run_region ?_
  refine ov (xassign rfl) rfl rfl rfl ?_
  refine ops_nil ?_
  refine run_seq ?_
  refine run_region ?_
  refine ov (xmove rfl) rfl rfl rfl ?_
  refine ov (xmove rfl) rfl rfl rfl ?_
  refine ov (xlen Try.underlying29 rfl) rfl rfl rfl ?_
  refine ov (xsub rfl rfl (by unfold I64; omega)) rfl rfl rfl ?_
  refine ov (xassign rfl) rfl rfl rfl ?_
  refine ops_nil ?_
  refine run_seq ?_
  refine run_seq ?_
  refine run_region ?_
  refine ov (xmove rfl) rfl rfl rfl ?_
  refine ov (xlss rfl rfl _ rfl) rfl rfl rfl ?_
  refine ods (fun c11 => ?_) (fun c11 => ?_)
  ·
    refine ops_nil ?_
    refine run_cond_t rfl ?_
    refine run_seq ?_
    refine run_region ?_
    refine ov (xassign rfl) rfl rfl rfl ?_
    refine ops_nil ?_
    refine run_ret Try.func19 (res1 rfl rfl) ?_
    exact ⟨_, rfl, by rw [szS, if_pos (by omega)], E⟩
  ·
    refine ops_nil ?_
    refine run_cond_f rfl ?_
    refine run_skip ?_
    refine run_seq ?_
    refine run_seq ?_
    refine run_region ?_
    refine ov (xassign rfl) rfl rfl rfl ?_
    refine ops_nil ?_
    refine run_block ?_
    refine run_loop (ι := Nat × Int × World) (fun x_ => match x_ with | (k, l, wr) => (Ext w wr) ∧ (w.heap.size ≤ wr.heap.size) ∧ (k ≤ n) ∧ (0 ≤ l) ∧ (l ≤ 1048576) ∧ (goS szFile xs (l0 - xs.length) = goS szFile (xs.drop k) l)) (fun x_ => match x_ with | (k, l, wr) => [(0, .slice p n c), (1, .int .i64 l), (5, .int .i64 (k : Int))]) (fun x_ => match x_ with | (k, l, wr) => wr) (fun x_ => match x_ with | (k, l, wr) => n - k) ?_ (0, l0 - (n : Int), w) (⟨E, Nat.le_refl _, by omega, by omega, by omega, by rw [hn]; rfl⟩) ⟨rfl, rfl, rfl, trivial⟩ rfl
    intro i_ hI_ hback5
    obtain ⟨k, l, wr⟩ := i_
    obtain ⟨E, lz_wr, hk, hl0, hl1, hg⟩ := hI_
    try dsimp only
    have zr := E.size
    refine run_seq ?_
    refine run_seq ?_
    refine run_region ?_
    refine ov (xmove rfl) rfl rfl rfl ?_
    refine ov (xmove rfl) rfl rfl rfl ?_
    refine ov (xlen Try.underlying29 rfl) rfl rfl rfl ?_
    refine ov (xlss rfl rfl _ rfl) rfl rfl rfl ?_
    refine ods (fun c15 => ?_) (fun c15 => ?_)
    ·
      refine ops_nil ?_
      refine run_cond_t rfl ?_
      refine run_skip ?_
      refine run_seq ?_
      refine run_block ?_
      refine run_seq ?_
      refine run_region ?_
      refine ov (xmove rfl) rfl rfl rfl ?_
      refine ov (xmove rfl) rfl rfl rfl ?_
      have h20 := (H.ext E).at (i := k) (by omega)
      refine ov (xindexN (i := k) Try.underlying29 Try.sizeOf83 rfl rfl rfl ((H.ext E).p (i := k) (by omega)) (by have := (H.ext E).len; omega)) rfl rfl rfl ?_
      refine ov (v := .agg #[.string xs[k].Code, .int .i64 xs[k].Level, .slice (hd k).p (hd k).n (hd k).c, .int .i64 xs[k].Until]) (xloadN Try.isAgg83 Try.sizeOf83 rfl (h20) rfl) rfl rfl rfl ?_
      refine ov (xmove rfl) rfl rfl rfl ?_
      refine oc (xcall Try.call65 rfl) rfl rfl rfl (szFile_ok xs[k] l _ _ _ _ ((H.inner (i := k) (by omega)).ext E) (hx _ (List.getElem_mem _)) (by omega) (by omega)) ?_
      rintro _ w1 ⟨rfl, e1⟩
      have z1 := e1.size
      have E := E.trans e1
      refine ov (xassign rfl) rfl rfl rfl ?_
      refine ops_nil ?_
      refine run_seq ?_
      refine run_region ?_
      refine ov (xmove rfl) rfl rfl rfl ?_
      refine ov (xlss rfl rfl _ rfl) rfl rfl rfl ?_
      refine ods (fun c25 => ?_) (fun c25 => ?_)
      ·
        refine ops_nil ?_
        refine run_cond_t rfl ?_
        refine run_seq ?_
        refine run_region ?_
        refine ov (xassign rfl) rfl rfl rfl ?_
        refine ops_nil ?_
        refine run_ret Try.func19 (res1 rfl rfl) ?_
        exact ⟨_, rfl, by rw [szS, if_neg (by omega), hg, List.drop_eq_getElem_cons (by omega), goS, if_pos (by omega)], E⟩
      ·
        refine ops_nil ?_
        refine run_cond_f rfl ?_
        refine run_skip ?_
        refine run_inBlock ?_
        refine run_region ?_
        refine ov (xmove rfl) rfl rfl rfl ?_
        refine ov (xadd rfl rfl (by unfold I64; omega)) rfl rfl rfl ?_
        refine ov (xassign rfl) rfl rfl rfl ?_
        refine ops_nil ?_
        refine run_sub ?_ (hback5 (k + 1, szFile xs[k] l, w1) (⟨E, by omega, by omega, by omega, by have := (szLeFileS xs[k] l (by omega)).2; omega, by rw [hg, List.drop_eq_getElem_cons (by omega), goS, if_neg (by omega)]⟩) (by first | omega | (dsimp only; omega)))
        exact ⟨rfl, rfl, rfl, trivial⟩
    ·
      refine ops_nil ?_
      refine run_cond_f rfl ?_
      refine run_exit rfl ?_
      refine run_seq ?_
      refine run_region ?_
      refine ov (xmove rfl) rfl rfl rfl ?_
      refine ov (xassign rfl) rfl rfl rfl ?_
      refine ops_nil ?_
      refine run_ret Try.func19 (res1 rfl rfl) ?_
      obtain rfl : k = n := by omega
      exact ⟨_, rfl, by rw [szS, if_neg (by omega), hg, hn, List.drop_length, goS], E⟩

set_option maxHeartbeats 400000 in
theorem toFileS_ok (p : Option Addr) (n c : Nat) (xs : List File) (w : World) (H0 : SnFileS w p n c xs) (hm : ∀ x ∈ xs, ((innFileS x).length : Int) ≤ 1048576) (hn2 : n ≤ 1048576) : Ret Try.prog 21 [.slice p n c] w (fun v w' => Ext w w' ∧ ∃ q, v = .slice (some q) n n ∧ OnFileS w' w.heap.size w'.heap.size (some q) n n xs) := by
  refine ret_of_run (N := 23) Try.func21 rfl rfl rfl ?_
  obtain ⟨hd, H⟩ := H0
  have hn := H.len
  have hn6 := H.n64
  have E : Ext w w := Ext.refl w
  refine run_seq ?_
  refine run_region ?_
  refine ov (xassign rfl) rfl rfl rfl ?_
  refine ops_nil ?_
  refine run_seq ?_
  refine run_region ?_
  refine ov (xmove rfl) rfl rfl rfl ?_
  refine ov (xlen Try.underlying29 rfl) rfl rfl rfl ?_
  refine omake (n := n) Try.underlying32 inf54 rfl rfl (by decide) rfl rfl rfl rfl (by simp only [Try.t54]; omega) (by omega) rfl rfl ?_
  intro b1 w1 e1 hb1 hz1 O1
  have E := E.trans e1
  replace O1 : Own w1 b1 (List.replicate (n) ([.string ⟨#[]⟩, .int .i64 0, .slice none 0 0, .int .i64 0] : List Value)).flatten 54 := O1
  refine ov (xassign rfl) rfl rfl rfl ?_
  refine ops_nil ?_
  refine run_seq ?_
  refine run_seq ?_
  refine run_region ?_
  refine ov (xassign rfl) rfl rfl rfl ?_
  refine ops_nil ?_
  refine run_block ?_
  refine run_loop (ι := Nat × List (X (File)) × World) (fun x_ => match x_ with | (k, ys, wr) => (Ext w wr) ∧ (Own wr b1 ((ys.map (xc cellsFileS) ++ List.replicate (n - k) ([.string ⟨#[]⟩, .int .i64 0, .slice none 0 0, .int .i64 0] : List Value)).flatten) 54) ∧ (Inn innFileS strc 1 9 wr (b1 + 1) wr.heap.size ys) ∧ (w1.heap.size ≤ wr.heap.size) ∧ (k ≤ n) ∧ (ys.length = k) ∧ (ys.map X.v = xs.take k)) (fun x_ => match x_ with | (k, ys, wr) => [(0, .slice p n c), (3, .slice (some ⟨b1, 0, none⟩) n n), (4, .int .i64 (k : Int))]) (fun x_ => match x_ with | (k, ys, wr) => wr) (fun x_ => match x_ with | (k, ys, wr) => n - k) ?_ (0, [], w1) (⟨E, by simpa using O1, Inn.nil, Nat.le_refl _, by omega, rfl, rfl⟩) ⟨rfl, rfl, rfl, trivial⟩ rfl
  intro i_ hI_ hback3
  obtain ⟨k, ys, wr⟩ := i_
  obtain ⟨E, O_b1, I, lz_wr, hk, hy, hv⟩ := hI_
  try dsimp only
  have zr := E.size
  have lt_b1 := O_b1.lt
  have hik := (fun h : k < xs.length => hm xs[k] (List.getElem_mem h))
  have hil := (fun h : k < xs.length => (H.inner h).len)
  simp only [innFileS] at hik hil
  refine run_seq ?_
  refine run_seq ?_
  refine run_region ?_
  refine ov (xmove rfl) rfl rfl rfl ?_
  refine ov (xmove rfl) rfl rfl rfl ?_
  refine ov (xlen Try.underlying29 rfl) rfl rfl rfl ?_
  refine ov (xlss rfl rfl _ rfl) rfl rfl rfl ?_
  refine ods (fun c11 => ?_) (fun c11 => ?_)
  ·
    refine ops_nil ?_
    refine run_cond_t rfl ?_
    refine run_skip ?_
    refine run_seq ?_
    refine run_block ?_
    refine run_region ?_
    refine ov (xmove rfl) rfl rfl rfl ?_
    refine ov (xmove rfl) rfl rfl rfl ?_
    refine ov (xmove rfl) rfl rfl rfl ?_
    refine ov (xmove rfl) rfl rfl rfl ?_
    have h18 := (H.ext E).at (i := k) (by omega)
    refine ov (xindexN (i := k) Try.underlying29 Try.sizeOf83 rfl rfl rfl ((H.ext E).p (i := k) (by omega)) (by have := (H.ext E).len; omega)) rfl rfl rfl ?_
    refine ov (v := .agg #[.string xs[k].Code, .int .i64 xs[k].Level, .slice (hd k).p (hd k).n (hd k).c, .int .i64 xs[k].Until]) (xloadN Try.isAgg83 Try.sizeOf83 rfl (h18) rfl) rfl rfl rfl ?_
    replace hik := hik (by omega)
    replace hil := hil (by omega)
    refine oc (xcall Try.call68 rfl) rfl rfl rfl (toFile_ok xs[k] _ _ _ _ ((H.inner (i := k) (by omega)).ext E) (by omega)) ?_
    rintro _ w2 ⟨e2, q20, rfl, G20⟩
    have z2 := e2.size
    have E := E.trans e2
    replace I := I.ext e2
    replace O_b1 := O_b1.ext e2
    refine ov (xindexO (i := k) Try.underlying32 Try.sizeOf54 rfl rfl rfl (by omega)) rfl rfl rfl ?_
    refine ostoreEl (i := k) (sz := 4) (vs := [.string xs[k].Code, .int .i64 xs[k].Level, .slice (some q20) (hd k).n (hd k).n, .int .i64 xs[k].Until]) (rows := (ys.map (xc cellsFileS) ++ List.replicate (n - k) ([.string ⟨#[]⟩, .int .i64 0, .slice none 0 0, .int .i64 0] : List Value))) Try.sizeOf54 rfl rfl O_b1 (rows_ok2 (fun _ => rfl) rfl) (by simp; omega) rfl (by simp [Value.oneCell']) rfl ?_
    intro w3 on3 O3
    have hz3 := on3.size
    have E := on3.ext E (by omega)
    replace I := I.only on3 (by omega)
    replace G20 := G20.only on3 (by omega)
    refine ops_nil ?_
    refine run_inBlock ?_
    refine run_region ?_
    refine ov (xmove rfl) rfl rfl rfl ?_
    refine ov (xadd rfl rfl (by unfold I64; omega)) rfl rfl rfl ?_
    refine ov (xassign rfl) rfl rfl rfl ?_
    refine ops_nil ?_
    have J := I.push (y := ⟨xs[k], ⟨some q20, (hd k).n, (hd k).n⟩⟩) (hi' := w3.heap.size) (G20.wide (Nat.le_refl _) (by omega)) (by omega) (by omega) (by omega)
    refine run_sub ?_ (hback3 (k + 1, ys ++ [⟨xs[k], ⟨some q20, (hd k).n, (hd k).n⟩⟩], w3) (⟨E, by rw [← rows_push hy (by omega)]; exact O3, J, by omega, by omega, by simp [hy], by rw [List.map_append, hv, List.take_succ_eq_append_getElem (by omega)]; rfl⟩) (by first | omega | (dsimp only; omega)))
    exact ⟨rfl, rfl, rfl, trivial⟩
  ·
    refine ops_nil ?_
    refine run_cond_f rfl ?_
    refine run_exit rfl ?_
    refine run_seq ?_
    refine run_region ?_
    refine ov (xmove rfl) rfl rfl rfl ?_
    refine ov (xassign rfl) rfl rfl rfl ?_
    refine ops_nil ?_
    refine run_ret Try.func21 (res1 rfl rfl) ?_
    obtain rfl : k = n := by omega
    have hO := O_b1
    simp only [Nat.sub_self, List.replicate_zero, List.append_nil] at hO
    have hw := ys.length
    refine ⟨_, rfl, E, _, rfl, ys, by rw [hv, List.take_of_length_le (by omega)], Own.ow hO (by omega) (by omega) (by omega) O_b1.lt (fun _ _ => rfl), I.wide (by omega) (by omega)⟩

set_option maxHeartbeats 400000 in
theorem eqFileS_ok (p q : Option Addr) (n c m d : Nat) (xs ys : List File) (w : World) (H0 : SnFileS w p n c xs) (K0 : SnFileS w q m d ys) : Ret Try.prog 23 [.slice p n c, .slice q m d] w (Pv w (.bool (eqL eqFile xs ys))) := by
  refine ret_of_run (N := 27) Try.func23 rfl rfl rfl ?_
  obtain ⟨hd, H⟩ := H0
  have hn := H.len
  have hn6 := H.n64
  obtain ⟨he_, K⟩ := K0
  have hm := K.len
  have hm6 := K.n64
  have E : Ext w w := Ext.refl w
  refine run_seq ?_
  refine run_region ?_
  refine ov (xassign rfl) rfl rfl rfl ?_
  refine ops_nil ?_
  refine run_seq ?_
  refine run_seq ?_
  refine run_region ?_
  refine ov (xmove rfl) rfl rfl rfl ?_
  refine ov (xlen Try.underlying32 rfl) rfl rfl rfl ?_
  refine ov (xmove rfl) rfl rfl rfl ?_
  refine ov (xlen Try.underlying32 rfl) rfl rfl rfl ?_
  refine ov (xneq rfl rfl _ rfl) rfl rfl rfl ?_
  refine ods (fun c10 => ?_) (fun c10 => ?_)
  ·
    refine ops_nil ?_
    refine run_cond_t rfl ?_
    refine run_seq ?_
    refine run_region ?_
    refine ov (xassign rfl) rfl rfl rfl ?_
    refine ops_nil ?_
    refine run_ret Try.func23 (res1 rfl rfl) ?_
    exact ⟨_, rfl, by rw [eqL_ne (by omega)], E⟩
  ·
    refine ops_nil ?_
    refine run_cond_f rfl ?_
    refine run_skip ?_
    refine run_seq ?_
    refine run_seq ?_
    refine run_region ?_
    refine ov (xassign rfl) rfl rfl rfl ?_
    refine ops_nil ?_
    refine run_block ?_
    refine run_loop (ι := Nat × World) (fun x_ => match x_ with | (k, wr) => (Ext w wr) ∧ (w.heap.size ≤ wr.heap.size) ∧ (k ≤ n) ∧ (n = m) ∧ (allB k (fun i => eqAt eqFile xs ys i) = true)) (fun x_ => match x_ with | (k, wr) => [(0, .slice p n c), (1, .slice q m d), (5, .int .i64 (k : Int))]) (fun x_ => match x_ with | (k, wr) => wr) (fun x_ => match x_ with | (k, wr) => n - k) ?_ (0, w) (⟨E, Nat.le_refl _, by omega, by omega, allB_zero⟩) ⟨rfl, rfl, rfl, trivial⟩ rfl
    intro i_ hI_ hback4
    obtain ⟨k, wr⟩ := i_
    obtain ⟨E, lz_wr, hk, hnm, ha⟩ := hI_
    try dsimp only
    have zr := E.size
    refine run_seq ?_
    refine run_seq ?_
    refine run_region ?_
    refine ov (xmove rfl) rfl rfl rfl ?_
    refine ov (xmove rfl) rfl rfl rfl ?_
    refine ov (xlen Try.underlying32 rfl) rfl rfl rfl ?_
    refine ov (xlss rfl rfl _ rfl) rfl rfl rfl ?_
    refine ods (fun c14 => ?_) (fun c14 => ?_)
    ·
      refine ops_nil ?_
      refine run_cond_t rfl ?_
      refine run_skip ?_
      refine run_seq ?_
      refine run_block ?_
      refine run_seq ?_
      refine run_draw (by kernel_rfl) (by kernel_rfl) ?_
      refine qv (fun w' x_ => xmove rfl) rfl rfl rfl ?_
      refine qv (fun w' x_ => xmove rfl) rfl rfl rfl ?_
      have h19 := (H.ext E).at (i := k) (by omega)
      refine qv (fun w' x_ => xindexN (i := k) Try.underlying32 Try.sizeOf54 rfl rfl rfl ((H.ext E).p (i := k) (by omega)) (by have := (H.ext E).len; omega)) rfl rfl rfl ?_
      refine qv (v := .agg #[.string xs[k].Code, .int .i64 xs[k].Level, .slice (hd k).p (hd k).n (hd k).c, .int .i64 xs[k].Until]) (fun w' x_ => xloadN Try.isAgg54 Try.sizeOf54 rfl ((h19).ext x_) rfl) rfl rfl rfl ?_
      refine qv (fun w' x_ => xmove rfl) rfl rfl rfl ?_
      refine qv (fun w' x_ => xmove rfl) rfl rfl rfl ?_
      have h23 := (K.ext E).at (i := k) (by omega)
      refine qv (fun w' x_ => xindexN (i := k) Try.underlying32 Try.sizeOf54 rfl rfl rfl ((K.ext E).p (i := k) (by omega)) (by have := (K.ext E).len; omega)) rfl rfl rfl ?_
      refine qv (v := .agg #[.string ys[k].Code, .int .i64 ys[k].Level, .slice (he_ k).p (he_ k).n (he_ k).c, .int .i64 ys[k].Until]) (fun w' x_ => xloadN Try.isAgg54 Try.sizeOf54 rfl ((h23).ext x_) rfl) rfl rfl rfl ?_
      have t25 := fun (w' : World) (x_ : Ext wr w') => Ret.q (w := w') (eqFile_ok xs[k] ys[k] _ _ _ _ (((H.inner (i := k) (by omega)).ext E).ext x_) _ _ _ (((K.inner (i := k) (by omega)).ext E).ext x_))
      refine qc (fun w' => xcall Try.call71 rfl) rfl rfl rfl t25 ?_
      clear t25
      refine qbs (fun c25 => ?_) (fun c25 => ?_)
      ·
        refine qv (fun w' x_ => xnot rfl) rfl rfl rfl ?_
        refine q_nil ?_
        intro w1 e1
        have z1 := e1.size
        have E := E.trans e1
        refine run_cond_f rfl ?_
        refine run_skip ?_
        refine run_inBlock ?_
        refine run_region ?_
        refine ov (xmove rfl) rfl rfl rfl ?_
        refine ov (xadd rfl rfl (by unfold I64; omega)) rfl rfl rfl ?_
        refine ov (xassign rfl) rfl rfl rfl ?_
        refine ops_nil ?_
        refine run_sub ?_ (hback4 (k + 1, w1) (⟨E, by omega, by omega, hnm, allB_succ ha (by rw [eqAt_of (by omega) (by omega)]; assumption)⟩) (by first | omega | (dsimp only; omega)))
        exact ⟨rfl, rfl, rfl, trivial⟩
      ·
        refine qv (fun w' x_ => xnot rfl) rfl rfl rfl ?_
        refine q_nil ?_
        intro w1 e1
        have z1 := e1.size
        have E := E.trans e1
        refine run_cond_t rfl ?_
        refine run_seq ?_
        refine run_region ?_
        refine ov (xassign rfl) rfl rfl rfl ?_
        refine ops_nil ?_
        refine run_ret Try.func23 (res1 rfl rfl) ?_
        exact ⟨_, rfl, by rw [eqL_at (i := k) (by omega) (by omega) (by assumption)], E⟩
    ·
      refine ops_nil ?_
      refine run_cond_f rfl ?_
      refine run_exit rfl ?_
      refine run_seq ?_
      refine run_region ?_
      refine ov (xassign rfl) rfl rfl rfl ?_
      refine ops_nil ?_
      refine run_ret Try.func23 (res1 rfl rfl) ?_
      obtain rfl : k = n := by omega
      exact ⟨_, rfl, by rw [eqL_eq (by omega) (by rw [← hn]; exact ha)], E⟩

def mkEFileS (v : File) (k : Int) : File := ⟨markT (k), k + 1, markAll mkStringS 1 v.Groups (k + 1 + 1), (k + 1 + 1 + 1 * ((v.Groups).length : Int))⟩

set_option maxHeartbeats 1000000 in
theorem markFileS_a (b n c : Nat) (xs : List (X (File))) (k0 : Int) (lo hi : Nat) (spare : List Value) (w : World) (O : Own w b ((xs.map (xc cellsFileS)).flatten ++ spare) 54) (I : Inn innFileS strc 1 9 w lo hi xs) (hn : n = xs.length) (h1 : lo ≤ b) (h2 : b < hi) (hh : hi ≤ w.heap.size) (hk0 : 0 ≤ k0) (hk1 : k0 ≤ 100000000000) (ht : tot kxFileS (xs.map X.v) ≤ 1000000000) (hn2 : n ≤ 1000000000) : Ret Try.prog 28 [.slice (some ⟨b, 0, none⟩) n c, .int .i64 k0] w (fun v w' => v = .int .i64 (k0 + (tot kxFileS (xs.map X.v) : Int)) ∧ Mk lo hi w w' ∧ Own w' b (((nmkX mkEFileS kxFileS xs k0).map (xc cellsFileS)).flatten ++ spare) 54 ∧ Inn innFileS strc 1 9 w' lo hi (nmkX mkEFileS kxFileS xs k0)) := by
  refine ret_of_run (N := 42) Try.func28 rfl rfl rfl ?_
  have E : Mk lo hi w w := Mk.refl _ _ _
  refine run_seq ?_
  refine run_region ?_
  refine ov (xassign rfl) rfl rfl rfl ?_
  refine ops_nil ?_
  refine run_seq ?_
  refine run_seq ?_
  refine run_region ?_
  refine ov (xassign rfl) rfl rfl rfl ?_
  refine ops_nil ?_
  refine run_block ?_
  refine run_loop (ι := Nat × Int × List (X (File)) × List (X (File)) × World) (fun x_ => match x_ with | (i, kk, done, rest, wr) => (Mk lo hi w wr) ∧ (Own wr b ((done.map (xc cellsFileS)).flatten ++ ((rest.map (xc cellsFileS)).flatten ++ spare)) 54) ∧ (Inn innFileS strc 1 9 wr lo hi (done ++ rest)) ∧ (w.heap.size ≤ wr.heap.size) ∧ (i ≤ n) ∧ (done.length = i) ∧ (i + rest.length = n) ∧ (nmkX mkEFileS kxFileS xs k0 = done ++ nmkX mkEFileS kxFileS rest kk) ∧ (kk + (tot kxFileS (rest.map X.v) : Int) = k0 + (tot kxFileS (xs.map X.v) : Int)) ∧ (k0 ≤ kk)) (fun x_ => match x_ with | (i, kk, done, rest, wr) => [(0, .slice (some ⟨b, 0, none⟩) n c), (1, .int .i64 kk), (5, .int .i64 (i : Int))]) (fun x_ => match x_ with | (i, kk, done, rest, wr) => wr) (fun x_ => match x_ with | (i, kk, done, rest, wr) => n - i) ?_ (0, k0, [], xs, w) (⟨E, O, I, Nat.le_refl _, by omega, rfl, by omega, rfl, rfl, Int.le_refl _⟩) ⟨rfl, rfl, rfl, trivial⟩ rfl
  intro i_ hI_ hback2
  obtain ⟨i, kk, done, rest, wr⟩ := i_
  obtain ⟨E, O_b, I, lz_wr, hi_, hdl, hlen, hall, hkt, hkk0⟩ := hI_
  try dsimp only
  have zr := E.size
  have lt_b := O_b.lt
  refine run_seq ?_
  refine run_seq ?_
  refine run_region ?_
  refine ov (xmove rfl) rfl rfl rfl ?_
  refine ov (xmove rfl) rfl rfl rfl ?_
  refine ov (xlen Try.underlying32 rfl) rfl rfl rfl ?_
  refine ov (xlss rfl rfl _ rfl) rfl rfl rfl ?_
  refine ods (fun c9 => ?_) (fun c9 => ?_)
  ·
    obtain ⟨x, r, rfl⟩ := nx_cons hlen (by omega)
    simp only [List.map_cons, List.flatten_cons, List.append_assoc] at O_b
    have hpre_ := nx_pre (cells := cellsFileS) (sz := 4) (fun _ _ => rfl) done
    rw [hdl] at hpre_
    have hkt2 := hkt
    simp only [List.map_cons, tot, kxFileS] at hkt2
    refine ops_nil ?_
    refine run_cond_t rfl ?_
    refine run_skip ?_
    refine run_seq ?_
    refine run_block ?_
    refine run_seq ?_
    refine run_region ?_
    refine ov (xmove rfl) rfl rfl rfl ?_
    refine ov (xmove rfl) rfl rfl rfl ?_
    refine ov (xmove rfl) rfl rfl rfl ?_
    refine oc (xcall Try.call76 rfl) rfl rfl rfl (markText_ok (kk) _ (by omega) (by omega)) ?_
    rintro _ w1 ⟨rfl, e1⟩
    have z1 := e1.size
    have E := E.trans (Mk.ofExt e1)
    replace I := I.ext e1
    replace O_b := O_b.ext e1
    refine ov (xindexO (i := i) Try.underlying32 Try.sizeOf54 rfl rfl rfl (by omega)) rfl rfl rfl ?_
    refine ov (xfieldAddr fo54f0 rfl) rfl rfl rfl ?_
    refine ostoreMid (j := 0) (pre := (done.map (xc cellsFileS)).flatten) (row := [.string x.v.Code, .int .i64 x.v.Level, .slice x.h.p x.h.n x.h.c, .int .i64 x.v.Until]) (post := ((r.map (xc cellsFileS)).flatten ++ spare)) Try.sizeOf9 rfl rfl O_b (by rw [hpre_]; omega) (by simp) rfl rfl ?_
    intro w2 on2 O2
    have hz2 := on2.size
    have E := E.trans (Mk.ofOnly on2 (by omega) (by omega))
    replace I := I.onlyT O_b (by decide) on2
    replace O2 : Own w2 b ((done.map (xc cellsFileS)).flatten ++ ([.string (markT kk), .int .i64 x.v.Level, .slice x.h.p x.h.n x.h.c, .int .i64 x.v.Until] ++ ((r.map (xc cellsFileS)).flatten ++ spare))) 54 := O2
    refine ops_nil ?_
    refine run_seq ?_
    refine run_region ?_
    refine ov (xmove rfl) rfl rfl rfl ?_
    refine ov (v := .int .i64 (kk + 1)) (xadd rfl rfl (by unfold I64; omega)) rfl rfl rfl ?_
    refine ov (xassign rfl) rfl rfl rfl ?_
    refine ops_nil ?_
    refine run_seq ?_
    refine run_region ?_
    refine ov (xmove rfl) rfl rfl rfl ?_
    refine ov (xmove rfl) rfl rfl rfl ?_
    refine ov (xmove rfl) rfl rfl rfl ?_
    refine ov (xindexO (i := i) Try.underlying32 Try.sizeOf54 rfl rfl rfl (by omega)) rfl rfl rfl ?_
    refine ov (xfieldAddr fo54f1 rfl) rfl rfl rfl ?_
    refine ostoreMid (j := 1) (pre := (done.map (xc cellsFileS)).flatten) (row := [.string (markT kk), .int .i64 x.v.Level, .slice x.h.p x.h.n x.h.c, .int .i64 x.v.Until]) (post := ((r.map (xc cellsFileS)).flatten ++ spare)) Try.sizeOf2 rfl rfl O2 (by rw [hpre_]; omega) (by simp) rfl rfl ?_
    intro w3 on3 O3
    have hz3 := on3.size
    have E := E.trans (Mk.ofOnly on3 (by omega) (by omega))
    replace I := I.onlyT O2 (by decide) on3
    replace O3 : Own w3 b ((done.map (xc cellsFileS)).flatten ++ ([.string (markT kk), .int .i64 (kk + 1), .slice x.h.p x.h.n x.h.c, .int .i64 x.v.Until] ++ ((r.map (xc cellsFileS)).flatten ++ spare))) 54 := O3
    refine ops_nil ?_
    refine run_seq ?_
    refine run_region ?_
    refine ov (xmove rfl) rfl rfl rfl ?_
    refine ov (v := .int .i64 (kk + 1 + 1)) (xadd rfl rfl (by unfold I64; omega)) rfl rfl rfl ?_
    refine ov (xassign rfl) rfl rfl rfl ?_
    refine ops_nil ?_
    refine run_seq ?_
    refine run_region ?_
    refine ov (xmove rfl) rfl rfl rfl ?_
    refine ov (xmove rfl) rfl rfl rfl ?_
    refine ov (xindexO (i := i) Try.underlying32 Try.sizeOf54 rfl rfl rfl (by omega)) rfl rfl rfl ?_
    refine ov (xfieldAddr fo54f2 rfl) rfl rfl rfl ?_
    refine ov (v := .slice x.h.p x.h.n x.h.c) (xload1 Try.isAgg49 rfl (O3.mid (pre := (done.map (xc cellsFileS)).flatten) (row := [.string (markT kk), .int .i64 (kk + 1), .slice x.h.p x.h.n x.h.c, .int .i64 x.v.Until]) (post := ((r.map (xc cellsFileS)).flatten ++ spare)) (by rw [hpre_]; omega)) rfl) rfl rfl rfl ?_
    refine ov (xmove rfl) rfl rfl rfl ?_
    have Gx_ := (I.i x (by simp)).narrow
    have hgl_ := Gx_.len
    simp only [innFileS] at hgl_
    refine oc (xcall Try.call45 rfl) rfl rfl rfl (markStringS_ok _ _ _ _ _ _ _ _ Gx_ (by omega) (by omega) (by omega)) ?_
    rintro _ w4 ⟨rfl, m4, g4⟩
    have z4 := m4.size
    obtain ⟨M4, O4, I4⟩ := I.mark (v' := mkEFileS x.v kk) O3 (by decide) m4 g4 (by simp only [mkEFileS, innFileS, List.map_cons])
    have E := E.trans M4
    have I := I4
    refine ov (xassign rfl) rfl rfl rfl ?_
    refine ops_nil ?_
    refine run_seq ?_
    refine run_region ?_
    refine ov (xmove rfl) rfl rfl rfl ?_
    refine ov (xmove rfl) rfl rfl rfl ?_
    refine ov (xmove rfl) rfl rfl rfl ?_
    refine ov (xindexO (i := i) Try.underlying32 Try.sizeOf54 rfl rfl rfl (by omega)) rfl rfl rfl ?_
    refine ov (xfieldAddr fo54f3 rfl) rfl rfl rfl ?_
    refine ostoreMid (j := 3) (pre := (done.map (xc cellsFileS)).flatten) (row := [.string (markT kk), .int .i64 (kk + 1), .slice x.h.p x.h.n x.h.c, .int .i64 x.v.Until]) (post := ((r.map (xc cellsFileS)).flatten ++ spare)) Try.sizeOf2 rfl rfl O4 (by rw [hpre_]; omega) (by simp) rfl rfl ?_
    intro w5 on5 O5
    have hz5 := on5.size
    have E := E.trans (Mk.ofOnly on5 (by omega) (by omega))
    replace I := I.onlyT O4 (by decide) on5
    replace O5 : Own w5 b ((done.map (xc cellsFileS)).flatten ++ ([.string (markT kk), .int .i64 (kk + 1), .slice x.h.p x.h.n x.h.c, .int .i64 ((kk + 1 + 1) + 1 * (x.h.n : Int))] ++ ((r.map (xc cellsFileS)).flatten ++ spare))) 54 := O5
    refine ops_nil ?_
    refine run_region ?_
    refine ov (xmove rfl) rfl rfl rfl ?_
    refine ov (v := .int .i64 (kk + 1 + 1 + 1 * (x.h.n : Int) + 1)) (xadd rfl rfl (by unfold I64; omega)) rfl rfl rfl ?_
    refine ov (xassign rfl) rfl rfl rfl ?_
    refine ops_nil ?_
    refine run_inBlock ?_
    refine run_region ?_
    refine ov (xmove rfl) rfl rfl rfl ?_
    refine ov (xadd rfl rfl (by unfold I64; omega)) rfl rfl rfl ?_
    refine ov (xassign rfl) rfl rfl rfl ?_
    refine ops_nil ?_
    have hpl_ := Gx_.len
    simp only [innFileS] at hpl_
    refine run_sub ?_ (hback2 (i + 1, kk + 1 + 1 + 1 * (x.h.n : Int) + 1, done ++ [⟨mkEFileS x.v kk, x.h⟩], r, w5) (⟨E, by rw [← nx_join (row := [.string (markT kk), .int .i64 (kk + 1), .slice x.h.p x.h.n x.h.c, .int .i64 ((kk + 1 + 1) + 1 * (x.h.n : Int))]) (y := ⟨mkEFileS x.v kk, x.h⟩) (by first | rfl | simp only [xc, cellsFileS, mkEFileS, hpl_])]; exact O5, (by rw [List.append_assoc]; exact I), by omega, by omega, by simp [hdl], by simp only [List.length_cons] at hlen; omega, by rw [hall, nmkX, List.append_assoc, List.singleton_append, show kk + ((kxFileS x.v : Nat) : Int) = kk + 1 + 1 + 1 * (x.h.n : Int) + 1 from by simp only [kxFileS]; omega], by simp only [List.map_cons, tot, kxFileS] at hkt; omega, by omega⟩) (by dsimp only; omega))
    exact ⟨rfl, rfl, rfl, trivial⟩
  ·
    refine ops_nil ?_
    refine run_cond_f rfl ?_
    refine run_exit rfl ?_
    refine run_seq ?_
    refine run_region ?_
    refine ov (xmove rfl) rfl rfl rfl ?_
    refine ov (xassign rfl) rfl rfl rfl ?_
    refine ops_nil ?_
    refine run_ret Try.func28 (res1 rfl rfl) ?_
    obtain rfl : rest = [] := by cases rest with | nil => rfl | cons x r => simp only [List.length_cons] at hlen; omega
    simp only [nmkX, List.append_nil] at hall
    simp only [List.map_nil, tot] at hkt
    rw [List.append_nil] at I
    exact ⟨_, rfl, by congr 1; omega, E, by rw [hall]; exact O_b, by rw [hall]; exact I⟩

set_option maxHeartbeats 400000 in
theorem markFileS_b (p : Option Addr) (c : Nat) (k0 : Int) (w : World) : Ret Try.prog 28 [.slice p 0 c, .int .i64 k0] w (Ps w (.int .i64 k0)) := by
  refine ret_of_run (N := 42) Try.func28 rfl rfl rfl ?_
  have E : Ext w w := Ext.refl w
  refine run_seq ?_
  refine run_region ?_
  refine ov (xassign rfl) rfl rfl rfl ?_
  refine ops_nil ?_
  refine run_seq ?_
  refine run_seq ?_
  refine run_region ?_
  refine ov (xassign rfl) rfl rfl rfl ?_
  refine ops_nil ?_
  refine run_block ?_
  refine run_loop (ι := Unit) (fun _u => (True)) (fun _u => [(0, .slice p 0 c), (1, .int .i64 k0), (5, .int .i64 0)]) (fun _u => w) (fun _u => 0) ?_ () (trivial) ⟨rfl, rfl, rfl, trivial⟩ rfl
  intro _u hI_ hback2
  obtain ⟨_⟩ := hI_
  try dsimp only
  refine run_seq ?_
  refine run_seq ?_
  refine run_region ?_
  refine ov (xmove rfl) rfl rfl rfl ?_
  refine ov (xmove rfl) rfl rfl rfl ?_
  refine ov (xlen Try.underlying32 rfl) rfl rfl rfl ?_
  refine ov (xlss rfl rfl _ rfl) rfl rfl rfl ?_
  refine ods (fun c9 => ?_) (fun c9 => ?_)
  · exfalso; omega
  ·
    refine ops_nil ?_
    refine run_cond_f rfl ?_
    refine run_exit rfl ?_
    refine run_seq ?_
    refine run_region ?_
    refine ov (xmove rfl) rfl rfl rfl ?_
    refine ov (xassign rfl) rfl rfl rfl ?_
    refine ops_nil ?_
    refine run_ret Try.func28 (res1 rfl rfl) ?_
    exact ⟨_, rfl, rfl, rfl⟩


theorem markFileS_ok (p : Option Addr) (n c : Nat) (xs : List (File)) (k0 : Int) (lo hi : Nat) (w : World) (ho : OnFileS w lo hi p n c xs) (hh : hi ≤ w.heap.size) (hk0 : 0 ≤ k0) (hk1 : k0 ≤ 100000000000) (ht : tot kxFileS xs ≤ 1000000000) (hn2 : n ≤ 1000000000) :
    Ret Try.prog 28 [.slice p n c, .int .i64 k0] w (fun v w' => ∃ k, v = .int .i64 k ∧ k = k0 + (tot kxFileS xs : Int) ∧ Mk lo hi w w' ∧ OnFileS w' lo hi p n c (nmk mkEFileS kxFileS xs k0)) := by
  obtain ⟨ys, rfl, ho⟩ := ho
  rcases ho.o.row with ⟨h1, h2⟩ | ⟨b, s, h1, h2, h3, h4, h5⟩
  · have hn : n = 0 := by have := ho.o.cap; omega
    subst hn
    refine (markFileS_b p c k0 w).mono fun v w' ⟨hv, hw⟩ => ?_
    subst hw
    have hx : ys = [] := by have := ho.o.len; cases ys with | nil => rfl | cons y r => simp at this
    subst hx
    exact ⟨_, hv, by simp [tot], Mk.refl _ _ _, [], rfl, ho⟩
  · subst h1
    exact (markFileS_a b n c ys k0 lo hi s w h4 ho.i ho.o.len h2 h3 hh hk0 hk1 ht hn2).mono fun v w' ⟨hv, hm, hO, hI⟩ =>
      ⟨_, hv, rfl, hm, _, nmkX_map _ _ _ _, ⟨⟨by rw [nmkX_length]; exact ho.o.len, ho.o.cap, ho.o.big, .inr ⟨b, s, rfl, h2, h3, hO, h5⟩, fun _ _ => rfl⟩, hI⟩⟩


theorem atFileS {p : Option Addr} {n c : Nat} {xs : List (File)} {k0 : Int} {w : World} {hd : Nat → Hd} (H : NS cellsFileS 4 innFileS strc 1 w p n c (nmk mkEFileS kxFileS xs k0) hd) {i : Nat} (hi : i < xs.length) {kk : Int} (hkk : kk = k0 + (tot kxFileS (xs.take i) : Int)) :
    Cells w (pb p) (po p + i * 4) [.string (markT kk), .int .i64 (kk + 1), .slice (hd i).p (hd i).n (hd i).c, .int .i64 ((kk + 1 + 1 + 1 * ((innFileS xs[i]).length : Int)))] := by
  subst hkk
  have h := H.at (i := i) (by rw [nmk_length]; exact hi)
  rw [nmk_at hi] at h
  exact h
theorem atIFileS {p : Option Addr} {n c : Nat} {xs : List (File)} {k0 : Int} {w : World} {hd : Nat → Hd} (H : NS cellsFileS 4 innFileS strc 1 w p n c (nmk mkEFileS kxFileS xs k0) hd) {i : Nat} (hi : i < xs.length) {kk : Int} (hkk : kk = k0 + (tot kxFileS (xs.take i) : Int)) :
    Sl strc 1 w (hd i).p (hd i).n (hd i).c (markAll mkStringS 1 (innFileS xs[i]) (kk + 1 + 1)) := by
  subst hkk
  have h := H.inner (i := i) (by rw [nmk_length]; exact hi)
  rw [nmk_at hi] at h
  exact h

set_option maxHeartbeats 1000000 in
theorem heldFileS_ok (p : Option Addr) (n c : Nat) (xs : List (File)) (k0 : Int) (w : World) (H0 : SnFileS w p n c (nmk mkEFileS kxFileS xs k0)) (hk0 : 0 ≤ k0) (hk1 : k0 ≤ 100000000000) (ht : tot kxFileS xs ≤ 1000000000) (hn2 : n ≤ 1000000000) : Ret Try.prog 29 [.slice p n c, .int .i64 k0] w (fun v w' => ∃ k, v = .int .i64 k ∧ k = k0 + (tot kxFileS xs : Int) ∧ Ext w w') := by
  refine ret_of_run (N := 50) Try.func29 rfl rfl rfl ?_
  obtain ⟨hd, H⟩ := H0
  have hn := H.len
  rw [nmk_length] at hn
  have E : Ext w w := Ext.refl w
  refine run_seq ?_
  refine run_region ?_
  refine ov (xassign rfl) rfl rfl rfl ?_
  refine ops_nil ?_
  refine run_seq ?_
  refine run_seq ?_
  refine run_region ?_
  refine ov (xassign rfl) rfl rfl rfl ?_
  refine ops_nil ?_
  refine run_block ?_
  refine run_loop (ι := Nat × Int × World) (fun x_ => match x_ with | (i, kk, wr) => (Ext w wr) ∧ (w.heap.size ≤ wr.heap.size) ∧ (i ≤ n) ∧ (kk = k0 + (tot kxFileS (xs.take i) : Int)) ∧ (0 ≤ kk)) (fun x_ => match x_ with | (i, kk, wr) => [(0, .slice p n c), (1, .int .i64 kk), (5, .int .i64 (i : Int))]) (fun x_ => match x_ with | (i, kk, wr) => wr) (fun x_ => match x_ with | (i, kk, wr) => n - i) ?_ (0, k0, w) (⟨E, Nat.le_refl _, by omega, by simp [tot], hk0⟩) ⟨rfl, rfl, rfl, trivial⟩ rfl
  intro i_ hI_ hback2
  obtain ⟨i, kk, wr⟩ := i_
  obtain ⟨E, lz_wr, hi_, hkk, hkk0⟩ := hI_
  try dsimp only
  have zr := E.size
  refine run_seq ?_
  refine run_seq ?_
  refine run_region ?_
  refine ov (xmove rfl) rfl rfl rfl ?_
  refine ov (xmove rfl) rfl rfl rfl ?_
  refine ov (xlen Try.underlying32 rfl) rfl rfl rfl ?_
  refine ov (xlss rfl rfl _ rfl) rfl rfl rfl ?_
  refine ods (fun c9 => ?_) (fun c9 => ?_)
  ·
    have hq_ := (atIFileS H (i := i) (by omega) hkk).len
    rw [markAll_length] at hq_
    have hq1_ := hq_
    have ht_ := tot_mem (kx := kxFileS) (by omega : i < xs.length)
    simp only [kxFileS, innFileS] at ht_ hq_
    refine ops_nil ?_
    refine run_cond_t rfl ?_
    refine run_skip ?_
    refine run_seq ?_
    refine run_block ?_
    refine run_seq ?_
    refine run_seq ?_
    refine run_draw (by kernel_rfl) (by kernel_rfl) ?_
    refine qv (fun w' x_ => xmove rfl) rfl rfl rfl ?_
    refine qv (fun w' x_ => xmove rfl) rfl rfl rfl ?_
    have h14 := atFileS (H.ext E) (i := i) (by omega) hkk
    refine qv (fun w' x_ => xindexN (i := i) Try.underlying32 Try.sizeOf54 rfl rfl rfl ((H.ext E).p (i := i) (by rw [nmk_length]; omega)) (by omega)) rfl rfl rfl ?_
    refine qv (fun w' x_ => xfieldAddr fo54f0 rfl) rfl rfl rfl ?_
    refine qv (v := .string (markT kk)) (fun w' x_ => xload1 Try.isAgg9 rfl ((h14).ext x_) rfl) rfl rfl rfl ?_
    refine qv (fun w' x_ => xmove rfl) rfl rfl rfl ?_
    have t18 := fun (w' : World) (x_ : Ext wr w') => Ret.q (w := w') (markText_ok (kk) _ (by omega) (by omega))
    refine qc (fun w' => xcall Try.call76 rfl) rfl rfl rfl t18 ?_
    clear t18
    refine qv (fun w' x_ => xsneq rfl rfl _ rfl) rfl rfl rfl ?_
    refine qds (fun c19 => ?_) (fun c19 => ?_)
    · exfalso; first | exact absurd rfl c19 | (apply c19; congr 1; omega) | (apply c19; omega) | omega
    ·
      refine q_nil ?_
      intro w1 e1
      have z1 := e1.size
      have E := E.trans e1
      refine run_cond_f rfl ?_
      refine run_skip ?_
      refine run_seq ?_
      refine run_region ?_
      refine ov (xmove rfl) rfl rfl rfl ?_
      refine ov (v := .int .i64 (kk + 1)) (xadd rfl rfl (by unfold I64; omega)) rfl rfl rfl ?_
      refine ov (xassign rfl) rfl rfl rfl ?_
      refine ops_nil ?_
      refine run_seq ?_
      refine run_seq ?_
      refine run_region ?_
      refine ov (xmove rfl) rfl rfl rfl ?_
      refine ov (xmove rfl) rfl rfl rfl ?_
      have h24 := atFileS (H.ext E) (i := i) (by omega) hkk
      refine ov (xindexN (i := i) Try.underlying32 Try.sizeOf54 rfl rfl rfl ((H.ext E).p (i := i) (by rw [nmk_length]; omega)) (by omega)) rfl rfl rfl ?_
      refine ov (xfieldAddr fo54f1 rfl) rfl rfl rfl ?_
      refine ov (v := .int .i64 (kk + 1)) (xload1 Try.isAgg2 rfl (h24) rfl) rfl rfl rfl ?_
      refine ov (xmove rfl) rfl rfl rfl ?_
      refine ov (xneq rfl rfl _ rfl) rfl rfl rfl ?_
      refine ods (fun c28 => ?_) (fun c28 => ?_)
      · exfalso; first | exact absurd rfl c28 | (apply c28; congr 1; omega) | (apply c28; omega) | omega
      ·
        refine ops_nil ?_
        refine run_cond_f rfl ?_
        refine run_skip ?_
        refine run_seq ?_
        refine run_region ?_
        refine ov (xmove rfl) rfl rfl rfl ?_
        refine ov (v := .int .i64 (kk + 1 + 1)) (xadd rfl rfl (by unfold I64; omega)) rfl rfl rfl ?_
        refine ov (xassign rfl) rfl rfl rfl ?_
        refine ops_nil ?_
        refine run_seq ?_
        refine run_region ?_
        refine ov (xmove rfl) rfl rfl rfl ?_
        refine ov (xmove rfl) rfl rfl rfl ?_
        have h33 := atFileS (H.ext E) (i := i) (by omega) hkk
        refine ov (xindexN (i := i) Try.underlying32 Try.sizeOf54 rfl rfl rfl ((H.ext E).p (i := i) (by rw [nmk_length]; omega)) (by omega)) rfl rfl rfl ?_
        refine ov (xfieldAddr fo54f2 rfl) rfl rfl rfl ?_
        refine ov (v := .slice (hd i).p (hd i).n (hd i).c) (xload1 Try.isAgg49 rfl (h33) rfl) rfl rfl rfl ?_
        refine ov (xmove rfl) rfl rfl rfl ?_
        refine oc (xcall Try.call46 rfl) rfl rfl rfl (heldStringS_ok _ _ _ _ _ _ ((atIFileS H (i := i) (by omega) hkk).ext E) (by omega) (by omega) (by omega)) ?_
        rintro _ w2 ⟨rfl, e2⟩
        have z2 := e2.size
        have E := E.trans e2
        refine ov (xassign rfl) rfl rfl rfl ?_
        refine ops_nil ?_
        refine run_seq ?_
        refine run_seq ?_
        refine run_region ?_
        refine ov (xmove rfl) rfl rfl rfl ?_
        refine ov (xlss rfl rfl _ rfl) rfl rfl rfl ?_
        refine ods (fun c39 => ?_) (fun c39 => ?_)
        · exfalso; omega
        ·
          refine ops_nil ?_
          refine run_cond_f rfl ?_
          refine run_skip ?_
          refine run_seq ?_
          refine run_seq ?_
          refine run_region ?_
          refine ov (xmove rfl) rfl rfl rfl ?_
          refine ov (xmove rfl) rfl rfl rfl ?_
          have h42 := atFileS (H.ext E) (i := i) (by omega) hkk
          refine ov (xindexN (i := i) Try.underlying32 Try.sizeOf54 rfl rfl rfl ((H.ext E).p (i := i) (by rw [nmk_length]; omega)) (by omega)) rfl rfl rfl ?_
          refine ov (xfieldAddr fo54f3 rfl) rfl rfl rfl ?_
          refine ov (v := .int .i64 ((kk + 1 + 1 + 1 * ((innFileS xs[i]).length : Int)))) (xload1 Try.isAgg2 rfl (h42) rfl) rfl rfl rfl ?_
          refine ov (xmove rfl) rfl rfl rfl ?_
          refine ov (xneq rfl rfl _ rfl) rfl rfl rfl ?_
          refine ods (fun c46 => ?_) (fun c46 => ?_)
          · exfalso; first | exact absurd rfl c46 | (apply c46; congr 1; omega) | (apply c46; omega) | omega
          ·
            refine ops_nil ?_
            refine run_cond_f rfl ?_
            refine run_skip ?_
            refine run_region ?_
            refine ov (xmove rfl) rfl rfl rfl ?_
            refine ov (v := .int .i64 (kk + 1 + 1 + 1 * ((hd i).n : Int) + 1)) (xadd rfl rfl (by unfold I64; omega)) rfl rfl rfl ?_
            refine ov (xassign rfl) rfl rfl rfl ?_
            refine ops_nil ?_
            refine run_inBlock ?_
            refine run_region ?_
            refine ov (xmove rfl) rfl rfl rfl ?_
            refine ov (xadd rfl rfl (by unfold I64; omega)) rfl rfl rfl ?_
            refine ov (xassign rfl) rfl rfl rfl ?_
            refine ops_nil ?_
            refine run_sub ?_ (hback2 (i + 1, kk + 1 + 1 + 1 * ((hd i).n : Int) + 1, w2) (⟨E, by omega, by omega, by rw [tot_take (by omega)]; simp only [kxFileS]; omega, by omega⟩) (by first | omega | (dsimp only; omega)))
            exact ⟨rfl, rfl, rfl, trivial⟩
  ·
    refine ops_nil ?_
    refine run_cond_f rfl ?_
    refine run_exit rfl ?_
    refine run_seq ?_
    refine run_region ?_
    refine ov (xmove rfl) rfl rfl rfl ?_
    refine ov (xassign rfl) rfl rfl rfl ?_
    refine ops_nil ?_
    refine run_ret Try.func29 (res1 rfl rfl) ?_
    obtain rfl : i = n := by omega
    rw [hn, List.take_length] at hkk
    exact ⟨_, rfl, _, rfl, hkk, E⟩
end Go.Proofs.Ytbihpggbabmebaa

/-
  The laws' own functions on lists of exhibits. No condition beyond those written in each theorem.
-/
import Derived.Test.YtnjohcbamblilaaTExhM
import Derived.Test.YtnjohcbamblilaaExh
import Derived.Test.YtnjohcbamblilaaHolders
import Derived.Test.YtnjohcbamblilaaNest
import Derived.Test.YtnjohcbamblilaaMarkB
import Derived.Test.YtnjohcbamblilaaEqB
import Derived.Test.YtnjohcbamblilaaToB
import Derived.Test.YtnjohcbamblilaaMore
import Derived.Test.YtnjohcbamblilaaStanding
namespace Go.Proofs.Ytnjohcbamblilaa
open Go.RowKit
set_option linter.unusedVariables false
set_option linter.unusedSimpArgs false
set_option linter.unusedSectionVars false
set_option maxRecDepth 4000

theorem goS_tot {α : Type} {f : α → Int → Int} {g : α → Nat} (hf : ∀ x l, 0 ≤ f x l → f x l + (g x : Int) ≤ l) : ∀ (xs : List α) (l : Int), 0 ≤ goS f xs l → goS f xs l + (tot g xs : Int) ≤ l
  | [], l, h => by simp [goS, tot]
  | x :: r, l, h => by
    unfold goS at h ⊢
    split at h
    · omega
    · rename_i hn
      rw [if_neg hn]
      have h1 := hf x l (by omega)
      have h2 := goS_tot hf r (f x l) h
      simp only [tot]; omega
theorem tot_one {α : Type} (g : α → Nat) : ∀ xs : List α, tot (fun x => 1 + g x) xs = xs.length + tot g xs
  | [] => rfl
  | x :: r => by simp only [tot, List.length_cons, tot_one g r]; omega
theorem szS_tot {α : Type} {f : α → Int → Int} {g : α → Nat} (hf : ∀ x l, 0 ≤ f x l → f x l + (g x : Int) ≤ l) {xs : List α} {l : Int} (h : 0 ≤ szS f xs l) : szS f xs l + (tot (fun x => 1 + g x) xs : Int) ≤ l := by
  unfold szS at h ⊢
  split at h
  · omega
  · rename_i hn
    rw [if_neg hn]
    have := goS_tot hf xs _ h
    rw [tot_one]; omega
theorem tot_of_mem {α : Type} {kx : α → Nat} : ∀ {xs : List α} {x : α}, x ∈ xs → kx x ≤ tot kx xs
  | y :: r, x, m => by
    simp only [tot]
    rcases List.mem_cons.1 m with m | m
    · subst m; omega
    · have := tot_of_mem (kx := kx) m; omega
theorem tot_le {α : Type} {kx kz : α → Nat} {m : Nat} (h : ∀ x, kx x ≤ m * kz x) : ∀ xs : List α, tot kx xs ≤ m * tot kz xs
  | [] => by simp [tot]
  | x :: r => by
    have := h x; have := tot_le h r
    simp only [tot, Nat.mul_add]; omega
theorem bnd_le {a l : Int} {f : Int → Int} (h1 : -1 ≤ a ∧ a ≤ l) (h2 : ∀ m, 0 ≤ m → m ≤ l → -1 ≤ f m ∧ f m ≤ m) : -1 ≤ bnd a f ∧ bnd a f ≤ l := by
  unfold bnd; split
  · omega
  · have := h2 a (by omega) h1.2; omega
theorem sub1_le {k : Nat} {l : Int} (h : -1 ≤ l) : -1 ≤ sub1 k l ∧ sub1 k l ≤ l := by unfold sub1; split <;> omega
def szT (s : ByteArray) (l : Int) : Int := sub1 s.size l
def szI (_ : Int) (l : Int) : Int := l
theorem szT_le (s : ByteArray) (l : Int) (h : -1 ≤ l) : -1 ≤ szT s l ∧ szT s l ≤ l := sub1_le h
theorem szI_le (s : Int) (l : Int) (h : -1 ≤ l) : -1 ≤ szI s l ∧ szI s l ≤ l := by unfold szI; omega


theorem NS.take {τ β : Type} {cells : τ → Hd → List Value} {sz : Nat} {inn : τ → List β} {encI : β → List Value} {szI : Nat} {w : World} {p : Option Addr} {n c : Nat} {vs : List τ} {hd : Nat → Hd} (h : NS cells sz inn encI szI w p n c vs hd) {k : Nat} (hk : k ≤ n) : NS cells sz inn encI szI w p k c (vs.take k) hd := by
  have hl := h.len
  refine ⟨by simp; omega, by have := h.cap; omega, h.big, fun h0 => h.ptr (by omega), fun i hi => ?_, fun i hi => ?_⟩
  · have hi' : i < vs.length := by simp at hi; omega
    have := h.el i hi'
    rw [List.getElem_take]; exact this
  · have hi' : i < vs.length := by simp at hi; omega
    have := h.el2 i hi'
    rw [List.getElem_take]; exact this

def cellsExhibitS (v : Exhibit) (h : Hd) : List Value := [.string v.Code, .string v.Found, .int .i64 v.Day, .int .i64 v.Seal, .slice h.p h.n h.c]
def innExhibitS (v : Exhibit) : List Handing := v.Chain
abbrev SnExhibitS (w : World) (p : Option Addr) (n c : Nat) (vs : List Exhibit) : Prop := Sn cellsExhibitS 5 innExhibitS Handing.cells 4 w p n c vs
abbrev OnExhibitS (w : World) (lo hi : Nat) (p : Option Addr) (n c : Nat) (vs : List Exhibit) : Prop := On cellsExhibitS 5 49 innExhibitS Handing.cells 4 77 w lo hi p n c vs
def kxExhibitS (v : Exhibit) : Nat := 4 + 4 * v.Chain.length


theorem szLeExhibitS (x : Exhibit) (l : Int) (h : -1 ≤ l) : -1 ≤ szExhibit x l ∧ szExhibit x l ≤ l := by 
  exact bnd_le (sub1_le h) fun m h0 h1 => bnd_le (sub1_le (by omega)) fun m h0 h1 => bnd_le (szS_le szHanding_le _ _ (by omega)) fun m h0 h1 => ⟨by omega, by omega⟩
theorem szTotExhibitS (x : Exhibit) (l : Int) (h : 0 ≤ szExhibit x l) : szExhibit x l + ((innExhibitS x).length : Int) ≤ l := by 
  have := szExhibit_nn h; simp only [innExhibitS]; omega
theorem szMemExhibitS {xs : List Exhibit} {l : Int} (h : 0 ≤ szS szExhibit xs l) : (xs.length : Int) ≤ l ∧ szS szExhibit xs l ≤ l ∧ (∀ x ∈ xs, ((innExhibitS x).length : Int) ≤ l) ∧ (tot kxExhibitS xs : Int) ≤ 4 * l := by
  have h1 := szS_tot szTotExhibitS h
  have h2 := szS_len szLeExhibitS h
  refine ⟨h2.1, by omega, fun x m => ?_, ?_⟩
  · have := tot_of_mem (kx := fun x => 1 + (innExhibitS x).length) m; (try simp only at this); omega
  · have := tot_le (kx := kxExhibitS) (kz := fun x => 1 + (innExhibitS x).length) (m := 4) (fun x => by simp only [kxExhibitS, innExhibitS]; omega) xs; omega


set_option maxHeartbeats 400000 in
theorem szExhibitS_ok (p : Option Addr) (n c : Nat) (xs : List Exhibit) (l0 : Int) (w : World) (H0 : SnExhibitS w p n c xs) (hx : ∀ x ∈ xs, x.ok) (h0 : 0 ≤ l0) (h1 : l0 ≤ 1048576) : Ret Try.prog 69 [.slice p n c, .int .i64 l0] w (Pv w (.int .i64 (szS szExhibit xs l0))) := by
  refine ret_of_run (N := 27) Try.func69 rfl rfl rfl ?_
  obtain ⟨hd, H⟩ := H0
  have hn := H.len
  have hn6 := H.n64
  have E : Ext w w := Ext.refl w
  refine run_seq ?_
  refine run_region ?_
  refine ov (xassign rfl) rfl rfl rfl ?_
  refine ops_nil ?_
  refine run_seq ?_
  refine run_region ?_
  refine ov (xmove rfl) rfl rfl rfl ?_
  refine ov (xmove rfl) rfl rfl rfl ?_
  refine ov (xlen Try.underlying89 rfl) rfl rfl rfl ?_
  refine ov (xsub rfl rfl (by unfold I64; omega)) rfl rfl rfl ?_
  refine ov (xassign rfl) rfl rfl rfl ?_
  refine ops_nil ?_
  refine run_seq ?_
  refine run_seq ?_
  refine run_region ?_
  refine ov (xmove rfl) rfl rfl rfl ?_
  refine ov (xlss rfl rfl _ rfl) rfl rfl rfl ?_
  refine ods (fun c11 => ?_) (fun c11 => ?_)
  ·
    refine ops_nil ?_
    refine run_cond_t rfl ?_
    refine run_seq ?_
    refine run_region ?_
    refine ov (xassign rfl) rfl rfl rfl ?_
    refine ops_nil ?_
    refine run_ret Try.func69 (res1 rfl rfl) ?_
    exact ⟨_, rfl, by rw [szS, if_pos (by omega)], E⟩
  ·
    refine ops_nil ?_
    refine run_cond_f rfl ?_
    refine run_skip ?_
    refine run_seq ?_
    refine run_seq ?_
    refine run_region ?_
    refine ov (xassign rfl) rfl rfl rfl ?_
    refine ops_nil ?_
    refine run_block ?_
    refine run_loop (ι := Nat × Int × World) (fun x_ => match x_ with | (k, l, wr) => (Ext w wr) ∧ (w.heap.size ≤ wr.heap.size) ∧ (k ≤ n) ∧ (0 ≤ l) ∧ (l ≤ 1048576) ∧ (goS szExhibit xs (l0 - xs.length) = goS szExhibit (xs.drop k) l)) (fun x_ => match x_ with | (k, l, wr) => [(0, .slice p n c), (1, .int .i64 l), (5, .int .i64 (k : Int))]) (fun x_ => match x_ with | (k, l, wr) => wr) (fun x_ => match x_ with | (k, l, wr) => n - k) ?_ (0, l0 - (n : Int), w) (⟨E, Nat.le_refl _, by omega, by omega, by omega, by rw [hn]; rfl⟩) ⟨rfl, rfl, rfl, trivial⟩ rfl
    intro i_ hI_ hback5
    obtain ⟨k, l, wr⟩ := i_
    obtain ⟨E, lz_wr, hk, hl0, hl1, hg⟩ := hI_
    try dsimp only
    have zr := E.size
    refine run_seq ?_
    refine run_seq ?_
    refine run_region ?_
    refine ov (xmove rfl) rfl rfl rfl ?_
    refine ov (xmove rfl) rfl rfl rfl ?_
    refine ov (xlen Try.underlying89 rfl) rfl rfl rfl ?_
    refine ov (xlss rfl rfl _ rfl) rfl rfl rfl ?_
    refine ods (fun c15 => ?_) (fun c15 => ?_)
    ·
      refine ops_nil ?_
      refine run_cond_t rfl ?_
      refine run_skip ?_
      refine run_seq ?_
      refine run_block ?_
      refine run_seq ?_
      refine run_region ?_
      refine ov (xmove rfl) rfl rfl rfl ?_
      refine ov (xmove rfl) rfl rfl rfl ?_
      have h20 := (H.ext E).at (i := k) (by omega)
      refine ov (xindexN (i := k) Try.underlying89 Try.sizeOf43 rfl rfl rfl ((H.ext E).p (i := k) (by omega)) (by have := (H.ext E).len; omega)) rfl rfl rfl ?_
      refine ov (v := .agg #[.string xs[k].Code, .string xs[k].Found, .int .i64 xs[k].Day, .int .i64 xs[k].Seal, .slice (hd k).p (hd k).n (hd k).c]) (xloadN Try.isAgg43 Try.sizeOf43 rfl (h20) rfl) rfl rfl rfl ?_
      refine ov (xmove rfl) rfl rfl rfl ?_
      refine oc (xcall Try.call31 rfl) rfl rfl rfl (szExhibit_ok xs[k] l _ _ _ _ ((H.inner (i := k) (by omega)).ext E) (hx _ (List.getElem_mem _)) (by omega) (by omega)) ?_
      rintro _ w1 ⟨rfl, e1⟩
      have z1 := e1.size
      have E := E.trans e1
      refine ov (xassign rfl) rfl rfl rfl ?_
      refine ops_nil ?_
      refine run_seq ?_
      refine run_region ?_
      refine ov (xmove rfl) rfl rfl rfl ?_
      refine ov (xlss rfl rfl _ rfl) rfl rfl rfl ?_
      refine ods (fun c25 => ?_) (fun c25 => ?_)
      ·
        refine ops_nil ?_
        refine run_cond_t rfl ?_
        refine run_seq ?_
        refine run_region ?_
        refine ov (xassign rfl) rfl rfl rfl ?_
        refine ops_nil ?_
        refine run_ret Try.func69 (res1 rfl rfl) ?_
        exact ⟨_, rfl, by rw [szS, if_neg (by omega), hg, List.drop_eq_getElem_cons (by omega), goS, if_pos (by omega)], E⟩
      ·
        refine ops_nil ?_
        refine run_cond_f rfl ?_
        refine run_skip ?_
        refine run_inBlock ?_
        refine run_region ?_
        refine ov (xmove rfl) rfl rfl rfl ?_
        refine ov (xadd rfl rfl (by unfold I64; omega)) rfl rfl rfl ?_
        refine ov (xassign rfl) rfl rfl rfl ?_
        refine ops_nil ?_
        refine run_sub ?_ (hback5 (k + 1, szExhibit xs[k] l, w1) (⟨E, by omega, by omega, by omega, by have := (szLeExhibitS xs[k] l (by omega)).2; omega, by rw [hg, List.drop_eq_getElem_cons (by omega), goS, if_neg (by omega)]⟩) (by first | omega | (dsimp only; omega)))
        exact ⟨rfl, rfl, rfl, trivial⟩
    ·
      refine ops_nil ?_
      refine run_cond_f rfl ?_
      refine run_exit rfl ?_
      refine run_seq ?_
      refine run_region ?_
      refine ov (xmove rfl) rfl rfl rfl ?_
      refine ov (xassign rfl) rfl rfl rfl ?_
      refine ops_nil ?_
      refine run_ret Try.func69 (res1 rfl rfl) ?_
      obtain rfl : k = n := by omega
      exact ⟨_, rfl, by rw [szS, if_neg (by omega), hg, hn, List.drop_length, goS], E⟩

set_option maxHeartbeats 400000 in
theorem toExhibitS_ok (p : Option Addr) (n c : Nat) (xs : List Exhibit) (w : World) (H0 : SnExhibitS w p n c xs) (hm : ∀ x ∈ xs, ((innExhibitS x).length : Int) ≤ 1048576) (hn2 : n ≤ 1048576) : Ret Try.prog 71 [.slice p n c] w (fun v w' => Ext w w' ∧ ∃ q, v = .slice (some q) n n ∧ OnExhibitS w' w.heap.size w'.heap.size (some q) n n xs) := by
  refine ret_of_run (N := 23) Try.func71 rfl rfl rfl ?_
  obtain ⟨hd, H⟩ := H0
  have hn := H.len
  have hn6 := H.n64
  have E : Ext w w := Ext.refl w
  refine run_seq ?_
  refine run_region ?_
  refine ov (xassign rfl) rfl rfl rfl ?_
  refine ops_nil ?_
  refine run_seq ?_
  refine run_region ?_
  refine ov (xmove rfl) rfl rfl rfl ?_
  refine ov (xlen Try.underlying89 rfl) rfl rfl rfl ?_
  refine omake (n := n) Try.underlying85 inf49 rfl rfl (by decide) rfl rfl rfl rfl (by simp only [Try.t49]; omega) (by omega) rfl rfl ?_
  intro b1 w1 e1 hb1 hz1 O1
  have E := E.trans e1
  replace O1 : Own w1 b1 (List.replicate (n) ([.string ⟨#[]⟩, .string ⟨#[]⟩, .int .i64 0, .int .i64 0, .slice none 0 0] : List Value)).flatten 49 := O1
  refine ov (xassign rfl) rfl rfl rfl ?_
  refine ops_nil ?_
  refine run_seq ?_
  refine run_seq ?_
  refine run_region ?_
  refine ov (xassign rfl) rfl rfl rfl ?_
  refine ops_nil ?_
  refine run_block ?_
  refine run_loop (ι := Nat × List (X (Exhibit)) × World) (fun x_ => match x_ with | (k, ys, wr) => (Ext w wr) ∧ (Own wr b1 ((ys.map (xc cellsExhibitS) ++ List.replicate (n - k) ([.string ⟨#[]⟩, .string ⟨#[]⟩, .int .i64 0, .int .i64 0, .slice none 0 0] : List Value)).flatten) 49) ∧ (Inn innExhibitS Handing.cells 4 77 wr (b1 + 1) wr.heap.size ys) ∧ (w1.heap.size ≤ wr.heap.size) ∧ (k ≤ n) ∧ (ys.length = k) ∧ (ys.map X.v = xs.take k)) (fun x_ => match x_ with | (k, ys, wr) => [(0, .slice p n c), (3, .slice (some ⟨b1, 0, none⟩) n n), (4, .int .i64 (k : Int))]) (fun x_ => match x_ with | (k, ys, wr) => wr) (fun x_ => match x_ with | (k, ys, wr) => n - k) ?_ (0, [], w1) (⟨E, by simpa using O1, Inn.nil, Nat.le_refl _, by omega, rfl, rfl⟩) ⟨rfl, rfl, rfl, trivial⟩ rfl
  intro i_ hI_ hback3
  obtain ⟨k, ys, wr⟩ := i_
  obtain ⟨E, O_b1, I, lz_wr, hk, hy, hv⟩ := hI_
  try dsimp only
  have zr := E.size
  have lt_b1 := O_b1.lt
  have hik := (fun h : k < xs.length => hm xs[k] (List.getElem_mem h))
  have hil := (fun h : k < xs.length => (H.inner h).len)
  simp only [innExhibitS] at hik hil
  refine run_seq ?_
  refine run_seq ?_
  refine run_region ?_
  refine ov (xmove rfl) rfl rfl rfl ?_
  refine ov (xmove rfl) rfl rfl rfl ?_
  refine ov (xlen Try.underlying89 rfl) rfl rfl rfl ?_
  refine ov (xlss rfl rfl _ rfl) rfl rfl rfl ?_
  refine ods (fun c11 => ?_) (fun c11 => ?_)
  ·
    refine ops_nil ?_
    refine run_cond_t rfl ?_
    refine run_skip ?_
    refine run_seq ?_
    refine run_block ?_
    refine run_region ?_
    refine ov (xmove rfl) rfl rfl rfl ?_
    refine ov (xmove rfl) rfl rfl rfl ?_
    refine ov (xmove rfl) rfl rfl rfl ?_
    refine ov (xmove rfl) rfl rfl rfl ?_
    have h18 := (H.ext E).at (i := k) (by omega)
    refine ov (xindexN (i := k) Try.underlying89 Try.sizeOf43 rfl rfl rfl ((H.ext E).p (i := k) (by omega)) (by have := (H.ext E).len; omega)) rfl rfl rfl ?_
    refine ov (v := .agg #[.string xs[k].Code, .string xs[k].Found, .int .i64 xs[k].Day, .int .i64 xs[k].Seal, .slice (hd k).p (hd k).n (hd k).c]) (xloadN Try.isAgg43 Try.sizeOf43 rfl (h18) rfl) rfl rfl rfl ?_
    replace hik := hik (by omega)
    replace hil := hil (by omega)
    refine oc (xcall Try.call33 rfl) rfl rfl rfl (toExhibit_ok xs[k] _ _ _ _ ((H.inner (i := k) (by omega)).ext E) (by omega)) ?_
    rintro _ w2 ⟨e2, q20, rfl, G20⟩
    have z2 := e2.size
    have E := E.trans e2
    replace I := I.ext e2
    replace O_b1 := O_b1.ext e2
    refine ov (xindexO (i := k) Try.underlying85 Try.sizeOf49 rfl rfl rfl (by omega)) rfl rfl rfl ?_
    refine ostoreEl (i := k) (sz := 5) (vs := [.string xs[k].Code, .string xs[k].Found, .int .i64 xs[k].Day, .int .i64 xs[k].Seal, .slice (some q20) (hd k).n (hd k).n]) (rows := (ys.map (xc cellsExhibitS) ++ List.replicate (n - k) ([.string ⟨#[]⟩, .string ⟨#[]⟩, .int .i64 0, .int .i64 0, .slice none 0 0] : List Value))) Try.sizeOf49 rfl rfl O_b1 (rows_ok2 (fun _ => rfl) rfl) (by simp; omega) rfl (by simp [Value.oneCell']) rfl ?_
    intro w3 on3 O3
    have hz3 := on3.size
    have E := on3.ext E (by omega)
    replace I := I.only on3 (by omega)
    replace G20 := G20.only on3 (by omega)
    refine ops_nil ?_
    refine run_inBlock ?_
    refine run_region ?_
    refine ov (xmove rfl) rfl rfl rfl ?_
    refine ov (xadd rfl rfl (by unfold I64; omega)) rfl rfl rfl ?_
    refine ov (xassign rfl) rfl rfl rfl ?_
    refine ops_nil ?_
    have J := I.push (y := ⟨xs[k], ⟨some q20, (hd k).n, (hd k).n⟩⟩) (hi' := w3.heap.size) (G20.wide (Nat.le_refl _) (by omega)) (by omega) (by omega) (by omega)
    refine run_sub ?_ (hback3 (k + 1, ys ++ [⟨xs[k], ⟨some q20, (hd k).n, (hd k).n⟩⟩], w3) (⟨E, by rw [← rows_push hy (by omega)]; exact O3, J, by omega, by omega, by simp [hy], by rw [List.map_append, hv, List.take_succ_eq_append_getElem (by omega)]; rfl⟩) (by first | omega | (dsimp only; omega)))
    exact ⟨rfl, rfl, rfl, trivial⟩
  ·
    refine ops_nil ?_
    refine run_cond_f rfl ?_
    refine run_exit rfl ?_
    refine run_seq ?_
    refine run_region ?_
    refine ov (xmove rfl) rfl rfl rfl ?_
    refine ov (xassign rfl) rfl rfl rfl ?_
    refine ops_nil ?_
    refine run_ret Try.func71 (res1 rfl rfl) ?_
    obtain rfl : k = n := by omega
    have hO := O_b1
    simp only [Nat.sub_self, List.replicate_zero, List.append_nil] at hO
    have hw := ys.length
    refine ⟨_, rfl, E, _, rfl, ys, by rw [hv, List.take_of_length_le (by omega)], Own.ow hO (by omega) (by omega) (by omega) O_b1.lt (fun _ _ => rfl), I.wide (by omega) (by omega)⟩

set_option maxHeartbeats 400000 in
theorem eqExhibitS_ok (p q : Option Addr) (n c m d : Nat) (xs ys : List Exhibit) (w : World) (H0 : SnExhibitS w p n c xs) (K0 : SnExhibitS w q m d ys) : Ret Try.prog 73 [.slice p n c, .slice q m d] w (Pv w (.bool (eqL eqExhibit xs ys))) := by
  refine ret_of_run (N := 27) Try.func73 rfl rfl rfl ?_
  obtain ⟨hd, H⟩ := H0
  have hn := H.len
  have hn6 := H.n64
  obtain ⟨he_, K⟩ := K0
  have hm := K.len
  have hm6 := K.n64
  have E : Ext w w := Ext.refl w
  refine run_seq ?_
  refine run_region ?_
  refine ov (xassign rfl) rfl rfl rfl ?_
  refine ops_nil ?_
  refine run_seq ?_
  refine run_seq ?_
  refine run_region ?_
  refine ov (xmove rfl) rfl rfl rfl ?_
  refine ov (xlen Try.underlying85 rfl) rfl rfl rfl ?_
  refine ov (xmove rfl) rfl rfl rfl ?_
  refine ov (xlen Try.underlying85 rfl) rfl rfl rfl ?_
  refine ov (xneq rfl rfl _ rfl) rfl rfl rfl ?_
  refine ods (fun c10 => ?_) (fun c10 => ?_)
  ·
    refine ops_nil ?_
    refine run_cond_t rfl ?_
    refine run_seq ?_
    refine run_region ?_
    refine ov (xassign rfl) rfl rfl rfl ?_
    refine ops_nil ?_
    refine run_ret Try.func73 (res1 rfl rfl) ?_
    exact ⟨_, rfl, by rw [eqL_ne (by omega)], E⟩
  ·
    refine ops_nil ?_
    refine run_cond_f rfl ?_
    refine run_skip ?_
    refine run_seq ?_
    refine run_seq ?_
    refine run_region ?_
    refine ov (xassign rfl) rfl rfl rfl ?_
    refine ops_nil ?_
    refine run_block ?_
    refine run_loop (ι := Nat × World) (fun x_ => match x_ with | (k, wr) => (Ext w wr) ∧ (w.heap.size ≤ wr.heap.size) ∧ (k ≤ n) ∧ (n = m) ∧ (allB k (fun i => eqAt eqExhibit xs ys i) = true)) (fun x_ => match x_ with | (k, wr) => [(0, .slice p n c), (1, .slice q m d), (5, .int .i64 (k : Int))]) (fun x_ => match x_ with | (k, wr) => wr) (fun x_ => match x_ with | (k, wr) => n - k) ?_ (0, w) (⟨E, Nat.le_refl _, by omega, by omega, allB_zero⟩) ⟨rfl, rfl, rfl, trivial⟩ rfl
    intro i_ hI_ hback4
    obtain ⟨k, wr⟩ := i_
    obtain ⟨E, lz_wr, hk, hnm, ha⟩ := hI_
    try dsimp only
    have zr := E.size
    refine run_seq ?_
    refine run_seq ?_
    refine run_region ?_
    refine ov (xmove rfl) rfl rfl rfl ?_
    refine ov (xmove rfl) rfl rfl rfl ?_
    refine ov (xlen Try.underlying85 rfl) rfl rfl rfl ?_
    refine ov (xlss rfl rfl _ rfl) rfl rfl rfl ?_
    refine ods (fun c14 => ?_) (fun c14 => ?_)
    ·
      refine ops_nil ?_
      refine run_cond_t rfl ?_
      refine run_skip ?_
      refine run_seq ?_
      refine run_block ?_
      refine run_seq ?_
      refine run_draw (by kernel_rfl) (by kernel_rfl) ?_
      refine qv (fun w' x_ => xmove rfl) rfl rfl rfl ?_
      refine qv (fun w' x_ => xmove rfl) rfl rfl rfl ?_
      have h19 := (H.ext E).at (i := k) (by omega)
      refine qv (fun w' x_ => xindexN (i := k) Try.underlying85 Try.sizeOf49 rfl rfl rfl ((H.ext E).p (i := k) (by omega)) (by have := (H.ext E).len; omega)) rfl rfl rfl ?_
      refine qv (v := .agg #[.string xs[k].Code, .string xs[k].Found, .int .i64 xs[k].Day, .int .i64 xs[k].Seal, .slice (hd k).p (hd k).n (hd k).c]) (fun w' x_ => xloadN Try.isAgg49 Try.sizeOf49 rfl ((h19).ext x_) rfl) rfl rfl rfl ?_
      refine qv (fun w' x_ => xmove rfl) rfl rfl rfl ?_
      refine qv (fun w' x_ => xmove rfl) rfl rfl rfl ?_
      have h23 := (K.ext E).at (i := k) (by omega)
      refine qv (fun w' x_ => xindexN (i := k) Try.underlying85 Try.sizeOf49 rfl rfl rfl ((K.ext E).p (i := k) (by omega)) (by have := (K.ext E).len; omega)) rfl rfl rfl ?_
      refine qv (v := .agg #[.string ys[k].Code, .string ys[k].Found, .int .i64 ys[k].Day, .int .i64 ys[k].Seal, .slice (he_ k).p (he_ k).n (he_ k).c]) (fun w' x_ => xloadN Try.isAgg49 Try.sizeOf49 rfl ((h23).ext x_) rfl) rfl rfl rfl ?_
      have t25 := fun (w' : World) (x_ : Ext wr w') => Ret.q (w := w') (eqExhibit_ok xs[k] ys[k] _ _ _ _ (((H.inner (i := k) (by omega)).ext E).ext x_) _ _ _ (((K.inner (i := k) (by omega)).ext E).ext x_))
      refine qc (fun w' => xcall Try.call35 rfl) rfl rfl rfl t25 ?_
      clear t25
      refine qbs (fun c25 => ?_) (fun c25 => ?_)
      ·
        refine qv (fun w' x_ => xnot rfl) rfl rfl rfl ?_
        refine q_nil ?_
        intro w1 e1
        have z1 := e1.size
        have E := E.trans e1
        refine run_cond_f rfl ?_
        refine run_skip ?_
        refine run_inBlock ?_
        refine run_region ?_
        refine ov (xmove rfl) rfl rfl rfl ?_
        refine ov (xadd rfl rfl (by unfold I64; omega)) rfl rfl rfl ?_
        refine ov (xassign rfl) rfl rfl rfl ?_
        refine ops_nil ?_
        refine run_sub ?_ (hback4 (k + 1, w1) (⟨E, by omega, by omega, hnm, allB_succ ha (by rw [eqAt_of (by omega) (by omega)]; assumption)⟩) (by first | omega | (dsimp only; omega)))
        exact ⟨rfl, rfl, rfl, trivial⟩
      ·
        refine qv (fun w' x_ => xnot rfl) rfl rfl rfl ?_
        refine q_nil ?_
        intro w1 e1
        have z1 := e1.size
        have E := E.trans e1
        refine run_cond_t rfl ?_
        refine run_seq ?_
        refine run_region ?_
        refine ov (xassign rfl) rfl rfl rfl ?_
        refine ops_nil ?_
        refine run_ret Try.func73 (res1 rfl rfl) ?_
        exact ⟨_, rfl, by rw [eqL_at (i := k) (by omega) (by omega) (by assumption)], E⟩
    ·
      refine ops_nil ?_
      refine run_cond_f rfl ?_
      refine run_exit rfl ?_
      refine run_seq ?_
      refine run_region ?_
      refine ov (xassign rfl) rfl rfl rfl ?_
      refine ops_nil ?_
      refine run_ret Try.func73 (res1 rfl rfl) ?_
      obtain rfl : k = n := by omega
      exact ⟨_, rfl, by rw [eqL_eq (by omega) (by rw [← hn]; exact ha)], E⟩

def mkEExhibitS (v : Exhibit) (k : Int) : Exhibit := ⟨markT (k), markT (k + 1), k + 1 + 1, k + 1 + 1 + 1, markAll mkHandingS 4 v.Chain (k + 1 + 1 + 1 + 1)⟩

set_option maxHeartbeats 1000000 in
theorem markExhibitS_a (b n c : Nat) (xs : List (X (Exhibit))) (k0 : Int) (lo hi : Nat) (spare : List Value) (w : World) (O : Own w b ((xs.map (xc cellsExhibitS)).flatten ++ spare) 49) (I : Inn innExhibitS Handing.cells 4 77 w lo hi xs) (hn : n = xs.length) (h1 : lo ≤ b) (h2 : b < hi) (hh : hi ≤ w.heap.size) (hk0 : 0 ≤ k0) (hk1 : k0 ≤ 100000000000) (ht : tot kxExhibitS (xs.map X.v) ≤ 1000000000) (hn2 : n ≤ 1000000000) : Ret Try.prog 74 [.slice (some ⟨b, 0, none⟩) n c, .int .i64 k0] w (fun v w' => v = .int .i64 (k0 + (tot kxExhibitS (xs.map X.v) : Int)) ∧ Mk lo hi w w' ∧ Own w' b (((nmkX mkEExhibitS kxExhibitS xs k0).map (xc cellsExhibitS)).flatten ++ spare) 49 ∧ Inn innExhibitS Handing.cells 4 77 w' lo hi (nmkX mkEExhibitS kxExhibitS xs k0)) := by
  refine ret_of_run (N := 50) Try.func74 rfl rfl rfl ?_
  have E : Mk lo hi w w := Mk.refl _ _ _
  refine run_seq ?_
  refine run_region ?_
  refine ov (xassign rfl) rfl rfl rfl ?_
  refine ops_nil ?_
  refine run_seq ?_
  refine run_seq ?_
  refine run_region ?_
  refine ov (xassign rfl) rfl rfl rfl ?_
  refine ops_nil ?_
  refine run_block ?_
  refine run_loop (ι := Nat × Int × List (X (Exhibit)) × List (X (Exhibit)) × World) (fun x_ => match x_ with | (i, kk, done, rest, wr) => (Mk lo hi w wr) ∧ (Own wr b ((done.map (xc cellsExhibitS)).flatten ++ ((rest.map (xc cellsExhibitS)).flatten ++ spare)) 49) ∧ (Inn innExhibitS Handing.cells 4 77 wr lo hi (done ++ rest)) ∧ (w.heap.size ≤ wr.heap.size) ∧ (i ≤ n) ∧ (done.length = i) ∧ (i + rest.length = n) ∧ (nmkX mkEExhibitS kxExhibitS xs k0 = done ++ nmkX mkEExhibitS kxExhibitS rest kk) ∧ (kk + (tot kxExhibitS (rest.map X.v) : Int) = k0 + (tot kxExhibitS (xs.map X.v) : Int)) ∧ (k0 ≤ kk)) (fun x_ => match x_ with | (i, kk, done, rest, wr) => [(0, .slice (some ⟨b, 0, none⟩) n c), (1, .int .i64 kk), (5, .int .i64 (i : Int))]) (fun x_ => match x_ with | (i, kk, done, rest, wr) => wr) (fun x_ => match x_ with | (i, kk, done, rest, wr) => n - i) ?_ (0, k0, [], xs, w) (⟨E, O, I, Nat.le_refl _, by omega, rfl, by omega, rfl, rfl, Int.le_refl _⟩) ⟨rfl, rfl, rfl, trivial⟩ rfl
  intro i_ hI_ hback2
  obtain ⟨i, kk, done, rest, wr⟩ := i_
  obtain ⟨E, O_b, I, lz_wr, hi_, hdl, hlen, hall, hkt, hkk0⟩ := hI_
  try dsimp only
  have zr := E.size
  have lt_b := O_b.lt
  refine run_seq ?_
  refine run_seq ?_
  refine run_region ?_
  refine ov (xmove rfl) rfl rfl rfl ?_
  refine ov (xmove rfl) rfl rfl rfl ?_
  refine ov (xlen Try.underlying85 rfl) rfl rfl rfl ?_
  refine ov (xlss rfl rfl _ rfl) rfl rfl rfl ?_
  refine ods (fun c9 => ?_) (fun c9 => ?_)
  ·
    obtain ⟨x, r, rfl⟩ := nx_cons hlen (by omega)
    simp only [List.map_cons, List.flatten_cons, List.append_assoc] at O_b
    have hpre_ := nx_pre (cells := cellsExhibitS) (sz := 5) (fun _ _ => rfl) done
    rw [hdl] at hpre_
    have hkt2 := hkt
    simp only [List.map_cons, tot, kxExhibitS] at hkt2
    refine ops_nil ?_
    refine run_cond_t rfl ?_
    refine run_skip ?_
    refine run_seq ?_
    refine run_block ?_
    refine run_seq ?_
    refine run_region ?_
    refine ov (xmove rfl) rfl rfl rfl ?_
    refine ov (xmove rfl) rfl rfl rfl ?_
    refine ov (xmove rfl) rfl rfl rfl ?_
    refine oc (xcall Try.call99 rfl) rfl rfl rfl (markText_ok (kk) _ (by omega) (by omega)) ?_
    rintro _ w1 ⟨rfl, e1⟩
    have z1 := e1.size
    have E := E.trans (Mk.ofExt e1)
    replace I := I.ext e1
    replace O_b := O_b.ext e1
    refine ov (xindexO (i := i) Try.underlying85 Try.sizeOf49 rfl rfl rfl (by omega)) rfl rfl rfl ?_
    refine ov (xfieldAddr fo49f0 rfl) rfl rfl rfl ?_
    refine ostoreMid (j := 0) (pre := (done.map (xc cellsExhibitS)).flatten) (row := [.string x.v.Code, .string x.v.Found, .int .i64 x.v.Day, .int .i64 x.v.Seal, .slice x.h.p x.h.n x.h.c]) (post := ((r.map (xc cellsExhibitS)).flatten ++ spare)) Try.sizeOf9 rfl rfl O_b (by rw [hpre_]; omega) (by simp) rfl rfl ?_
    intro w2 on2 O2
    have hz2 := on2.size
    have E := E.trans (Mk.ofOnly on2 (by omega) (by omega))
    replace I := I.onlyT O_b (by decide) on2
    replace O2 : Own w2 b ((done.map (xc cellsExhibitS)).flatten ++ ([.string (markT kk), .string x.v.Found, .int .i64 x.v.Day, .int .i64 x.v.Seal, .slice x.h.p x.h.n x.h.c] ++ ((r.map (xc cellsExhibitS)).flatten ++ spare))) 49 := O2
    refine ops_nil ?_
    refine run_seq ?_
    refine run_region ?_
    refine ov (xmove rfl) rfl rfl rfl ?_
    refine ov (v := .int .i64 (kk + 1)) (xadd rfl rfl (by unfold I64; omega)) rfl rfl rfl ?_
    refine ov (xassign rfl) rfl rfl rfl ?_
    refine ops_nil ?_
    refine run_seq ?_
    refine run_region ?_
    refine ov (xmove rfl) rfl rfl rfl ?_
    refine ov (xmove rfl) rfl rfl rfl ?_
    refine ov (xmove rfl) rfl rfl rfl ?_
    refine oc (xcall Try.call99 rfl) rfl rfl rfl (markText_ok ((kk + 1)) _ (by omega) (by omega)) ?_
    rintro _ w3 ⟨rfl, e3⟩
    have z3 := e3.size
    have E := E.trans (Mk.ofExt e3)
    replace I := I.ext e3
    replace O2 := O2.ext e3
    refine ov (xindexO (i := i) Try.underlying85 Try.sizeOf49 rfl rfl rfl (by omega)) rfl rfl rfl ?_
    refine ov (xfieldAddr fo49f1 rfl) rfl rfl rfl ?_
    refine ostoreMid (j := 1) (pre := (done.map (xc cellsExhibitS)).flatten) (row := [.string (markT kk), .string x.v.Found, .int .i64 x.v.Day, .int .i64 x.v.Seal, .slice x.h.p x.h.n x.h.c]) (post := ((r.map (xc cellsExhibitS)).flatten ++ spare)) Try.sizeOf9 rfl rfl O2 (by rw [hpre_]; omega) (by simp) rfl rfl ?_
    intro w4 on4 O4
    have hz4 := on4.size
    have E := E.trans (Mk.ofOnly on4 (by omega) (by omega))
    replace I := I.onlyT O2 (by decide) on4
    replace O4 : Own w4 b ((done.map (xc cellsExhibitS)).flatten ++ ([.string (markT kk), .string (markT (kk + 1)), .int .i64 x.v.Day, .int .i64 x.v.Seal, .slice x.h.p x.h.n x.h.c] ++ ((r.map (xc cellsExhibitS)).flatten ++ spare))) 49 := O4
    refine ops_nil ?_
    refine run_seq ?_
    refine run_region ?_
    refine ov (xmove rfl) rfl rfl rfl ?_
    refine ov (v := .int .i64 (kk + 1 + 1)) (xadd rfl rfl (by unfold I64; omega)) rfl rfl rfl ?_
    refine ov (xassign rfl) rfl rfl rfl ?_
    refine ops_nil ?_
    refine run_seq ?_
    refine run_region ?_
    refine ov (xmove rfl) rfl rfl rfl ?_
    refine ov (xmove rfl) rfl rfl rfl ?_
    refine ov (xmove rfl) rfl rfl rfl ?_
    refine ov (xindexO (i := i) Try.underlying85 Try.sizeOf49 rfl rfl rfl (by omega)) rfl rfl rfl ?_
    refine ov (xfieldAddr fo49f2 rfl) rfl rfl rfl ?_
    refine ostoreMid (j := 2) (pre := (done.map (xc cellsExhibitS)).flatten) (row := [.string (markT kk), .string (markT (kk + 1)), .int .i64 x.v.Day, .int .i64 x.v.Seal, .slice x.h.p x.h.n x.h.c]) (post := ((r.map (xc cellsExhibitS)).flatten ++ spare)) Try.sizeOf2 rfl rfl O4 (by rw [hpre_]; omega) (by simp) rfl rfl ?_
    intro w5 on5 O5
    have hz5 := on5.size
    have E := E.trans (Mk.ofOnly on5 (by omega) (by omega))
    replace I := I.onlyT O4 (by decide) on5
    replace O5 : Own w5 b ((done.map (xc cellsExhibitS)).flatten ++ ([.string (markT kk), .string (markT (kk + 1)), .int .i64 (kk + 1 + 1), .int .i64 x.v.Seal, .slice x.h.p x.h.n x.h.c] ++ ((r.map (xc cellsExhibitS)).flatten ++ spare))) 49 := O5
    refine ops_nil ?_
    refine run_seq ?_
    refine run_region ?_
    refine ov (xmove rfl) rfl rfl rfl ?_
    refine ov (v := .int .i64 (kk + 1 + 1 + 1)) (xadd rfl rfl (by unfold I64; omega)) rfl rfl rfl ?_
    refine ov (xassign rfl) rfl rfl rfl ?_
    refine ops_nil ?_
    refine run_seq ?_
    refine run_region ?_
    refine ov (xmove rfl) rfl rfl rfl ?_
    refine ov (xmove rfl) rfl rfl rfl ?_
    refine ov (xmove rfl) rfl rfl rfl ?_
    refine ov (xindexO (i := i) Try.underlying85 Try.sizeOf49 rfl rfl rfl (by omega)) rfl rfl rfl ?_
    refine ov (xfieldAddr fo49f3 rfl) rfl rfl rfl ?_
    refine ostoreMid (j := 3) (pre := (done.map (xc cellsExhibitS)).flatten) (row := [.string (markT kk), .string (markT (kk + 1)), .int .i64 (kk + 1 + 1), .int .i64 x.v.Seal, .slice x.h.p x.h.n x.h.c]) (post := ((r.map (xc cellsExhibitS)).flatten ++ spare)) Try.sizeOf2 rfl rfl O5 (by rw [hpre_]; omega) (by simp) rfl rfl ?_
    intro w6 on6 O6
    have hz6 := on6.size
    have E := E.trans (Mk.ofOnly on6 (by omega) (by omega))
    replace I := I.onlyT O5 (by decide) on6
    replace O6 : Own w6 b ((done.map (xc cellsExhibitS)).flatten ++ ([.string (markT kk), .string (markT (kk + 1)), .int .i64 (kk + 1 + 1), .int .i64 (kk + 1 + 1 + 1), .slice x.h.p x.h.n x.h.c] ++ ((r.map (xc cellsExhibitS)).flatten ++ spare))) 49 := O6
    refine ops_nil ?_
    refine run_seq ?_
    refine run_region ?_
    refine ov (xmove rfl) rfl rfl rfl ?_
    refine ov (v := .int .i64 (kk + 1 + 1 + 1 + 1)) (xadd rfl rfl (by unfold I64; omega)) rfl rfl rfl ?_
    refine ov (xassign rfl) rfl rfl rfl ?_
    refine ops_nil ?_
    refine run_region ?_
    refine ov (xmove rfl) rfl rfl rfl ?_
    refine ov (xmove rfl) rfl rfl rfl ?_
    refine ov (xindexO (i := i) Try.underlying85 Try.sizeOf49 rfl rfl rfl (by omega)) rfl rfl rfl ?_
    refine ov (xfieldAddr fo49f4 rfl) rfl rfl rfl ?_
    refine ov (v := .slice x.h.p x.h.n x.h.c) (xload1 Try.isAgg47 rfl (O6.mid (pre := (done.map (xc cellsExhibitS)).flatten) (row := [.string (markT kk), .string (markT (kk + 1)), .int .i64 (kk + 1 + 1), .int .i64 (kk + 1 + 1 + 1), .slice x.h.p x.h.n x.h.c]) (post := ((r.map (xc cellsExhibitS)).flatten ++ spare)) (by rw [hpre_]; omega)) rfl) rfl rfl rfl ?_
    refine ov (xmove rfl) rfl rfl rfl ?_
    have Gx_ := (I.i x (by simp)).narrow
    have hgl_ := Gx_.len
    simp only [innExhibitS] at hgl_
    refine oc (xcall Try.call111 rfl) rfl rfl rfl (markHandingS_ok _ _ _ _ _ _ _ _ Gx_ (by omega) (by omega) (by omega)) ?_
    rintro _ w7 ⟨rfl, m7, g7⟩
    have z7 := m7.size
    obtain ⟨M7, O7, I7⟩ := I.mark (v' := mkEExhibitS x.v kk) O6 (by decide) m7 g7 (by simp only [mkEExhibitS, innExhibitS, List.map_cons])
    have E := E.trans M7
    have I := I7
    refine ov (xassign rfl) rfl rfl rfl ?_
    refine ops_nil ?_
    refine run_inBlock ?_
    refine run_region ?_
    refine ov (xmove rfl) rfl rfl rfl ?_
    refine ov (xadd rfl rfl (by unfold I64; omega)) rfl rfl rfl ?_
    refine ov (xassign rfl) rfl rfl rfl ?_
    refine ops_nil ?_
    have hpl_ := Gx_.len
    simp only [innExhibitS] at hpl_
    refine run_sub ?_ (hback2 (i + 1, kk + 1 + 1 + 1 + 1 + 4 * (x.h.n : Int), done ++ [⟨mkEExhibitS x.v kk, x.h⟩], r, w7) (⟨E, by rw [← nx_join (row := [.string (markT kk), .string (markT (kk + 1)), .int .i64 (kk + 1 + 1), .int .i64 (kk + 1 + 1 + 1), .slice x.h.p x.h.n x.h.c]) (y := ⟨mkEExhibitS x.v kk, x.h⟩) (by first | rfl | simp only [xc, cellsExhibitS, mkEExhibitS, hpl_])]; exact O7, (by rw [List.append_assoc]; exact I), by omega, by omega, by simp [hdl], by simp only [List.length_cons] at hlen; omega, by rw [hall, nmkX, List.append_assoc, List.singleton_append, show kk + ((kxExhibitS x.v : Nat) : Int) = kk + 1 + 1 + 1 + 1 + 4 * (x.h.n : Int) from by simp only [kxExhibitS]; omega], by simp only [List.map_cons, tot, kxExhibitS] at hkt; omega, by omega⟩) (by dsimp only; omega))
    exact ⟨rfl, rfl, rfl, trivial⟩
  ·
    refine ops_nil ?_
    refine run_cond_f rfl ?_
    refine run_exit rfl ?_
    refine run_seq ?_
    refine run_region ?_
    refine ov (xmove rfl) rfl rfl rfl ?_
    refine ov (xassign rfl) rfl rfl rfl ?_
    refine ops_nil ?_
    refine run_ret Try.func74 (res1 rfl rfl) ?_
    obtain rfl : rest = [] := by cases rest with | nil => rfl | cons x r => simp only [List.length_cons] at hlen; omega
    simp only [nmkX, List.append_nil] at hall
    simp only [List.map_nil, tot] at hkt
    rw [List.append_nil] at I
    exact ⟨_, rfl, by congr 1; omega, E, by rw [hall]; exact O_b, by rw [hall]; exact I⟩

set_option maxHeartbeats 400000 in
theorem markExhibitS_b (p : Option Addr) (c : Nat) (k0 : Int) (w : World) : Ret Try.prog 74 [.slice p 0 c, .int .i64 k0] w (Ps w (.int .i64 k0)) := by
  refine ret_of_run (N := 50) Try.func74 rfl rfl rfl ?_
  have E : Ext w w := Ext.refl w
  refine run_seq ?_
  refine run_region ?_
  refine ov (xassign rfl) rfl rfl rfl ?_
  refine ops_nil ?_
  refine run_seq ?_
  refine run_seq ?_
  refine run_region ?_
  refine ov (xassign rfl) rfl rfl rfl ?_
  refine ops_nil ?_
  refine run_block ?_
  refine run_loop (ι := Unit) (fun _u => (True)) (fun _u => [(0, .slice p 0 c), (1, .int .i64 k0), (5, .int .i64 0)]) (fun _u => w) (fun _u => 0) ?_ () (trivial) ⟨rfl, rfl, rfl, trivial⟩ rfl
  intro _u hI_ hback2
  obtain ⟨_⟩ := hI_
  try dsimp only
  refine run_seq ?_
  refine run_seq ?_
  refine run_region ?_
  refine ov (xmove rfl) rfl rfl rfl ?_
  refine ov (xmove rfl) rfl rfl rfl ?_
  refine ov (xlen Try.underlying85 rfl) rfl rfl rfl ?_
  refine ov (xlss rfl rfl _ rfl) rfl rfl rfl ?_
  refine ods (fun c9 => ?_) (fun c9 => ?_)
  · exfalso; omega
  ·
    refine ops_nil ?_
    refine run_cond_f rfl ?_
    refine run_exit rfl ?_
    refine run_seq ?_
    refine run_region ?_
    refine ov (xmove rfl) rfl rfl rfl ?_
    refine ov (xassign rfl) rfl rfl rfl ?_
    refine ops_nil ?_
    refine run_ret Try.func74 (res1 rfl rfl) ?_
    exact ⟨_, rfl, rfl, rfl⟩


theorem markExhibitS_ok (p : Option Addr) (n c : Nat) (xs : List (Exhibit)) (k0 : Int) (lo hi : Nat) (w : World) (ho : OnExhibitS w lo hi p n c xs) (hh : hi ≤ w.heap.size) (hk0 : 0 ≤ k0) (hk1 : k0 ≤ 100000000000) (ht : tot kxExhibitS xs ≤ 1000000000) (hn2 : n ≤ 1000000000) :
    Ret Try.prog 74 [.slice p n c, .int .i64 k0] w (fun v w' => ∃ k, v = .int .i64 k ∧ k = k0 + (tot kxExhibitS xs : Int) ∧ Mk lo hi w w' ∧ OnExhibitS w' lo hi p n c (nmk mkEExhibitS kxExhibitS xs k0)) := by
  obtain ⟨ys, rfl, ho⟩ := ho
  rcases ho.o.row with ⟨h1, h2⟩ | ⟨b, s, h1, h2, h3, h4, h5⟩
  · have hn : n = 0 := by have := ho.o.cap; omega
    subst hn
    refine (markExhibitS_b p c k0 w).mono fun v w' ⟨hv, hw⟩ => ?_
    subst hw
    have hx : ys = [] := by have := ho.o.len; cases ys with | nil => rfl | cons y r => simp at this
    subst hx
    exact ⟨_, hv, by simp [tot], Mk.refl _ _ _, [], rfl, ho⟩
  · subst h1
    exact (markExhibitS_a b n c ys k0 lo hi s w h4 ho.i ho.o.len h2 h3 hh hk0 hk1 ht hn2).mono fun v w' ⟨hv, hm, hO, hI⟩ =>
      ⟨_, hv, rfl, hm, _, nmkX_map _ _ _ _, ⟨⟨by rw [nmkX_length]; exact ho.o.len, ho.o.cap, ho.o.big, .inr ⟨b, s, rfl, h2, h3, hO, h5⟩, fun _ _ => rfl⟩, hI⟩⟩

end Go.Proofs.Ytnjohcbamblilaa

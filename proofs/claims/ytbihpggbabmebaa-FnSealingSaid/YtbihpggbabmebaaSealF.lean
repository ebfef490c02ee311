/-
  Sealing a file. No condition beyond those written in each theorem.
-/
import Derived.Test.YtbihpggbabmebaaSeal2
import Derived.Test.YtbihpggbabmebaaTail
namespace Go.Proofs.Ytbihpggbabmebaa
open Go.RowKit
set_option linter.unusedVariables false
set_option linter.unusedSimpArgs false
set_option linter.unusedSectionVars false
set_option maxRecDepth 4000

def sealF (f : File) (level till : Int) : File := ⟨f.Code, max f.Level level, f.Groups, max f.Until till⟩
def sealL (fs : List File) (k : Nat) (level till : Int) : List File := match fs[k]? with
  | some f => fs.set k (sealF f level till)
  | none => fs
theorem sealL_at {fs : List File} {k : Nat} (h : k < fs.length) (level till : Int) : sealL fs k level till = fs.set k (sealF fs[k] level till) := by simp [sealL, h]
theorem sealL_length (fs : List File) (k : Nat) (level till : Int) : (sealL fs k level till).length = fs.length := by unfold sealL; split <;> simp
def sealFile (fs : List File) (file : ByteArray) (level till : Int) : List File × Int :=
  if areFiles fs = false then ([], 1) else if inR 0 9 level = false ∨ inR 0 20000 till = false then ([], 2) else if fileOf fs file < 0 then ([], 4) else (sealL fs (fileOf fs file).toNat level till, 0)
theorem areFiles_tot {fs : List File} (h : areFiles fs = true) : ∀ f ∈ fs, f.Groups.length ≤ 6 := fun f m => by
  obtain ⟨i, hi, rfl⟩ := List.getElem_of_mem m
  have := areFiles_at h hi
  simp only [fileP, Bool.and_eq_true, areGroups, decide_eq_true_eq] at this
  exact this.1.1.2.2
theorem tot_small {fs : List File} (h : ∀ f ∈ fs, f.Groups.length ≤ 6) : tot kxFileS fs ≤ 9 * fs.length := by
  induction fs with
  | nil => simp [tot]
  | cons f r ih =>
    have h1 := h f (by simp)
    have h2 := ih fun g m => h g (by simp [m])
    simp only [tot, kxFileS, List.length_cons]; omega
theorem sealFile_small (fs : List File) (file : ByteArray) (level till : Int) : tot kxFileS (sealFile fs file level till).1 ≤ 108 ∧ (sealFile fs file level till).1.length ≤ 12 := by
  unfold sealFile
  split
  · simp [tot]
  · rename_i h
    have h : areFiles fs = true := by simpa using h
    split
    · simp [tot]
    · split
      · simp [tot]
      · have hl := areFiles_len h
        have h3 : ∀ f ∈ sealL fs (fileOf fs file).toNat level till, f.Groups.length ≤ 6 := fun f m => by
          unfold sealL at m
          split at m
          · rename_i g hg
            rcases List.mem_or_eq_of_mem_set m with m | rfl
            · exact areFiles_tot h f m
            · exact areFiles_tot h g (List.mem_of_getElem? hg)
          · exact areFiles_tot h f m
        have := tot_small h3
        rw [sealL_length] at this
        refine ⟨by simp only; omega, by simp only [sealL_length]; omega⟩
theorem seal_step {fs : List File} {kk k : Nat} {level till : Int} {ys : List File} (hk : k < fs.length) (h : ys = (sealL fs kk level till).take k) :
    (k = kk → ys ++ [sealF fs[k] level till] = (sealL fs kk level till).take (k + 1)) ∧ (k ≠ kk → ys ++ [fs[k]] = (sealL fs kk level till).take (k + 1)) := by
  subst h
  have hl : k < (sealL fs kk level till).length := by rw [sealL_length]; exact hk
  rw [List.take_succ_eq_append_getElem hl]
  refine ⟨fun e => ?_, fun e => ?_⟩
  · subst e; congr 2; simp [sealL_at hk]
  · congr 2
    cases h : fs[kk]? with
    | none => simp [sealL, h]
    | some f => simp [sealL, h, List.getElem_set_ne (fun h => e h.symm)]
theorem max64 {a b : Int} (ha : I64 a) (hb : I64 b) : I64 (max a b) := by unfold I64 at *; omega

set_option maxHeartbeats 400000 in
theorem cloneStr_ok (p : Option Addr) (n c : Nat) (xs : List ByteArray) (w : World) (H : Sl strc 1 w p n c xs) (hp : p = none → c = 0) (hn2 : n ≤ 1000000000) : Ret Try.prog 99 [.slice p n c] w (fun v w' => Ext w w' ∧ ∃ q c', v = .slice q n c' ∧ Ow strc 1 9 w' w.heap.size w'.heap.size q n c' xs) := by
  refine ret_of_run (N := 8) Try.func99 rfl rfl rfl ?_
  have hn := H.len
  have E : Ext w w := Ext.refl w
  refine run_seq ?_
  refine run_region ?_
  refine ov (xassign rfl) rfl rfl rfl ?_
  refine ops_nil ?_
  refine run_seq ?_
  refine run_region ?_
  refine ov (xmove rfl) rfl rfl rfl ?_
  refine ov (xlen Try.underlying49 rfl) rfl rfl rfl ?_
  refine omake0 strc (sz := 1) (n := n) Try.underlying49 inf9 rfl rfl rfl rfl rfl (by simp only [Try.t9]; omega) (by omega) rfl rfl ?_
  intro b1 w1 e1 hb1 hz1 G1
  have E := E.trans e1
  refine ov (xmove rfl) rfl rfl rfl ?_
  refine oapp (bytes := 16) (nm := n) G1 rfl rfl elem9 (H.ext E) hp (by intro y hy; rfl) (by intro y hy u hu; simp only [strc, List.mem_singleton] at hu; subst hu; rfl) (by omega) (by omega) (by omega) (by omega) rfl rfl ?_
  intro p2 c2_ w2 m2 G2
  have hz2 := m2.size
  have E := m2.toExt E (by omega)
  refine ov (xassign rfl) rfl rfl rfl ?_
  refine ops_nil ?_
  refine run_ret Try.func99 (res1 rfl rfl) ?_
  exact ⟨_, rfl, E, _, _, rfl, G2.wide (by omega) (by omega)⟩

set_option maxHeartbeats 1000000 in
theorem copyFiles_ok (p : Option Addr) (n c : Nat) (xs : List File) (w : World) (H0 : SnFileS w p n c xs) (hs : n ≤ 12) (hg : ∀ f ∈ xs, f.Groups.length ≤ 6) : Ret Try.prog 75 [.slice p n c] w (fun v w' => Ext w w' ∧ ∃ q m d, v = .slice q m d ∧ OnFileS w' w.heap.size w'.heap.size q m d xs) := by
  refine ret_of_run (N := 23) Try.func75 rfl rfl rfl ?_
  obtain ⟨hd, H⟩ := H0
  have hn := H.len
  have hn6 := H.n64
  have E : Ext w w := Ext.refl w
  refine run_seq ?_
  refine run_region ?_
  refine ov (xassign rfl) rfl rfl rfl ?_
  refine ops_nil ?_
  refine run_seq ?_
  refine run_region ?_
  refine obuild (cs := []) (sz := 4) Try.underlying32 inf54 rfl rfl (by decide) rfl rfl (by simp [Value.cells]) rfl rfl rfl ?_
  intro b1 w1 e1 hb1 hz1 O1
  have E := E.trans e1
  have G1 : NOw cellsFileS 4 54 innFileS strc 1 9 w1 b1 (b1 + 1) (some ⟨b1, 0, none⟩) 0 0 [] := ⟨Own.ow (by simpa using O1) rfl (by omega) (Nat.le_refl _) (by omega) (by intro x hx; cases hx), Inn.nil⟩
  refine ov (xassign rfl) rfl rfl rfl ?_
  refine ops_nil ?_
  refine run_seq ?_
  refine run_seq ?_
  refine run_region ?_
  refine ov (xmove rfl) rfl rfl rfl ?_
  refine ov (xlen Try.underlying32 rfl) rfl rfl rfl ?_
  refine ov (xmove rfl) rfl rfl rfl ?_
  refine ops_nil ?_
  refine run_block ?_
  refine run_loop (ι := Nat × Option Addr × Nat × Nat × List (X (File)) × World) (fun x_ => match x_ with | (k, q_3, m_3, c_3, ys_3, wr) => (Ext w wr) ∧ (NOw cellsFileS 4 54 innFileS strc 1 9 wr b1 wr.heap.size q_3 m_3 c_3 ys_3) ∧ (b1 ≤ wr.heap.size) ∧ (w1.heap.size ≤ wr.heap.size) ∧ (k ≤ n) ∧ (m_3 = k) ∧ (ys_3.map X.v = xs.take k)) (fun x_ => match x_ with | (k, q_3, m_3, c_3, ys_3, wr) => [(3, .slice q_3 m_3 c_3), (7, .slice p n c), (8, .int .i64 (n : Int)), (9, .int .i64 (k : Int))]) (fun x_ => match x_ with | (k, q_3, m_3, c_3, ys_3, wr) => wr) (fun x_ => match x_ with | (k, q_3, m_3, c_3, ys_3, wr) => n - k) ?_ (0, (some ⟨b1, 0, none⟩), 0, 0, [], w1) (⟨E, G1.wide (by omega) (by omega), by omega, Nat.le_refl _, by omega, rfl, rfl⟩) ⟨rfl, rfl, rfl, rfl, trivial⟩ rfl
  intro i_ hI_ hback3
  obtain ⟨k, q_3, m_3, c_3, ys_3, wr⟩ := i_
  obtain ⟨E, G_3, lo_3, lz_wr, hk, hm, hy⟩ := hI_
  try dsimp only
  have zr := E.size
  have lg_3 := G_3.o.len
  refine run_seq ?_
  refine run_region ?_
  refine ov (xlss rfl rfl _ rfl) rfl rfl rfl ?_
  refine ods (fun c10 => ?_) (fun c10 => ?_)
  ·
    have hgk := hg xs[k] (List.getElem_mem (by omega))
    have hgi := (H.inner (i := k) (by omega)).len
    simp only [innFileS] at hgi
    refine ops_nil ?_
    refine run_seq ?_
    refine run_cond_t rfl ?_
    refine run_skip ?_
    refine run_seq ?_
    refine run_block ?_
    refine run_seq ?_
    refine run_region ?_
    have h11 := (H.ext E).at (i := k) (by omega)
    refine ov (xindexN (i := k) Try.underlying32 Try.sizeOf54 rfl rfl rfl ((H.ext E).p (i := k) (by omega)) (by have := (H.ext E).len; omega)) rfl rfl rfl ?_
    refine ov (v := .agg #[.string xs[k].Code, .int .i64 xs[k].Level, .slice (hd k).p (hd k).n (hd k).c, .int .i64 xs[k].Until]) (xloadN Try.isAgg54 Try.sizeOf54 rfl (h11) rfl) rfl rfl rfl ?_
    refine oalloc Try.zeroValue54 rfl rfl ?_
    intro b2 w2 e2 hb2 hz2 O2
    have E := E.trans e2
    replace G_3 := G_3.ext e2
    replace O2 : Own w2 b2 [.string ⟨#[]⟩, .int .i64 0, .slice none 0 0, .int .i64 0] 54 := O2
    refine ostoreN (vs := _) Try.sizeOf54 rfl rfl O2 rfl (by simp) (by simp [Value.oneCell']) rfl ?_
    intro w3 on3 O3
    have hz3 := on3.size
    have E := on3.ext E (by omega)
    replace G_3 := G_3.only on3 (by omega)
    replace O3 : Own w3 b2 [.string xs[k].Code, .int .i64 xs[k].Level, .slice (hd k).p (hd k).n (hd k).c, .int .i64 xs[k].Until] 54 := O3
    refine ops_nil ?_
    refine run_seq ?_
    refine run_region ?_
    refine ov (xfieldAddr fo54f2 rfl) rfl rfl rfl ?_
    refine ov (v := .slice (hd k).p (hd k).n (hd k).c) (xload1 Try.isAgg49 rfl (O3.cells) rfl) rfl rfl rfl ?_
    refine oc (xcall Try.call99 rfl) rfl rfl rfl (cloneStr_ok _ _ _ _ _ ((show Sl strc 1 _ _ _ _ xs[k].Groups from (H.inner (i := k) (by omega)).ext E)) ((show Sl strc 1 _ _ _ _ xs[k].Groups from (H.inner (i := k) (by omega)).ext E)).nil (by omega)) ?_
    rintro _ w4 ⟨e4, q15, c15_, rfl, G15⟩
    have z4 := e4.size
    have E := E.trans e4
    replace G_3 := G_3.ext e4
    replace O3 := O3.ext e4
    refine ov (xfieldAddr fo54f2 rfl) rfl rfl rfl ?_
    refine ostore1 Try.sizeOf49 rfl rfl O3 (by simp) rfl rfl ?_
    intro w5 on5 O5
    have hz5 := on5.size
    have E := on5.ext E (by omega)
    replace G_3 := G_3.only on5 (by omega)
    replace G15 := G15.only on5 (by omega)
    replace O5 : Own w5 b2 [.string xs[k].Code, .int .i64 xs[k].Level, .slice q15 (hd k).n c15_, .int .i64 xs[k].Until] 54 := O5
    refine ops_nil ?_
    refine run_region ?_
    refine ov (xmove rfl) rfl rfl rfl ?_
    refine ov (v := .agg #[.string xs[k].Code, .int .i64 xs[k].Level, .slice q15 (hd k).n c15_, .int .i64 xs[k].Until]) (xloadN Try.isAgg54 Try.sizeOf54 rfl (O5.cells) rfl) rfl rfl rfl ?_
    refine obuild (cs := [.string xs[k].Code, .int .i64 xs[k].Level, .slice q15 (hd k).n c15_, .int .i64 xs[k].Until]) (sz := 4) Try.underlying32 inf54 rfl rfl (by decide) rfl rfl (by simp [Value.cells]) rfl rfl rfl ?_
    intro b6 w6 e6 hb6 hz6 O6
    have E := E.trans e6
    replace G_3 := G_3.ext e6
    replace G15 := G15.ext e6
    replace O5 := O5.ext e6
    refine oappN (bytes := 56) (nm := (m_3 + 1)) (z := ⟨xs[k], ⟨q15, (hd k).n, c15_⟩⟩) G_3 (by decide) rfl rfl elem54 (Own.sl1 (y := (⟨xs[k], ⟨q15, (hd k).n, c15_⟩⟩ : X _)) O6) (by intro h; cases h) rfl (by simp [xc, cellsFileS, Value.oneCell']) G15 (by omega) (by omega) (by omega) (by omega) (by omega) (by omega) (by omega) rfl  rfl rfl ?_
    intro p7 c7_ w7 m7 G7
    have hz7 := m7.size
    have E := m7.toExt E (by omega)
    replace G15 := G15.off m7 (by omega)
    try replace O5 := m7.own O5 (by omega)
    try replace O6 := m7.own O6 (by omega)
    refine ov (xassign rfl) rfl rfl rfl ?_
    refine ops_nil ?_
    refine run_inBlock ?_
    refine run_region ?_
    refine ov (xadd rfl rfl (by unfold I64; omega)) rfl rfl rfl ?_
    refine ov (xmove rfl) rfl rfl rfl ?_
    refine ops_nil ?_
    refine run_sub ?_ (hback3 (k + 1, p7, (m_3 + 1), c7_, ys_3 ++ [⟨xs[k], ⟨q15, (hd k).n, c15_⟩⟩], w7) (⟨E, G7.wide (by omega) (by omega), by omega, by omega, by omega, by omega, by rw [List.map_append, hy, List.take_succ_eq_append_getElem (by omega)]; rfl⟩) (by first | omega | (dsimp only; omega)))
    exact ⟨rfl, rfl, rfl, rfl, trivial⟩
  ·
    refine ops_nil ?_
    refine run_seq ?_
    refine run_cond_f rfl ?_
    refine run_exit rfl ?_
    refine run_seq ?_
    refine run_region ?_
    refine ov (xmove rfl) rfl rfl rfl ?_
    refine ov (xassign rfl) rfl rfl rfl ?_
    refine ops_nil ?_
    refine run_ret Try.func75 (res1 rfl rfl) ?_
    obtain rfl : k = n := by omega
    exact ⟨_, rfl, E, _, _, _, rfl, ys_3, by rw [hy, hn, List.take_length], G_3.wide (by omega) (by omega)⟩

set_option maxHeartbeats 2000000 in
theorem SealFile_ok (p : Option Addr) (n c : Nat) (xs : List File) (file : ByteArray) (level till : Int) (w : World) (H0 : SnFileS w p n c xs) (hx : ∀ x ∈ xs, x.ok) : Ret Try.prog 27 [.slice p n c, .string file, .int .i64 level, .int .i64 till] w (fun v w' => Ext w w' ∧ ∃ q m d, v = .tuple #[.slice q m d, .int .i64 (sealFile xs file level till).2] ∧ OnFileS w' w.heap.size w'.heap.size q m d (sealFile xs file level till).1) := by
  refine ret_of_run (N := 56) Try.func27 rfl rfl rfl ?_
  have hn := H0.len
  have hn6 := H0.n64
  have hfl := fileOf_lt xs file
  have E : Ext w w := Ext.refl w
  refine run_seq ?_
  refine run_region ?_
  refine ov (xassign rfl) rfl rfl rfl ?_
  refine ov (xassign rfl) rfl rfl rfl ?_
  refine ops_nil ?_
  refine run_seq ?_
  refine run_region ?_
  refine ov (xmove rfl) rfl rfl rfl ?_
  refine ov (xmove rfl) rfl rfl rfl ?_
  refine oc (xcall Try.call70 rfl) rfl rfl rfl (fileOf_ok _ _ _ _ (file) _ (H0.ext E).sn) ?_
  rintro _ w1 ⟨rfl, e1⟩
  have z1 := e1.size
  have E := E.trans e1
  refine ov (xassign rfl) rfl rfl rfl ?_
  refine ops_nil ?_
  refine run_seq ?_
  refine run_block ?_
  refine run_seq ?_
  refine run_region ?_
  refine ov (xmove rfl) rfl rfl rfl ?_
  refine oc (xcall Try.call22 rfl) rfl rfl rfl (AreFiles_ok _ _ _ _ _ (H0.ext E).sn (by assumption)) ?_
  rintro _ w2 ⟨rfl, e2⟩
  have z2 := e2.size
  have E := E.trans e2
  refine obs (fun c17 => ?_) (fun c17 => ?_)
  ·
    refine ov (xnot rfl) rfl rfl rfl ?_
    refine ov (xassign rfl) rfl rfl rfl ?_
    refine ops_nil ?_
    refine run_cond_f rfl ?_
    refine run_seq ?_
    refine run_region ?_
    refine ov (xmove rfl) rfl rfl rfl ?_
    refine oc (xcall Try.call60 rfl) rfl rfl rfl (isLevel_ok (level) _) ?_
    rintro _ w_ ⟨rfl, hw_⟩
    replace hw_ := hw_.symm
    subst hw_
    refine obs (fun c21 => ?_) (fun c21 => ?_)
    ·
      refine ov (xnot rfl) rfl rfl rfl ?_
      refine ov (xmove rfl) rfl rfl rfl ?_
      refine ov (xmove rfl) rfl rfl rfl ?_
      refine oc (xcall Try.call69 rfl) rfl rfl rfl (isDay_ok (till) _) ?_
      rintro _ w_ ⟨rfl, hw_⟩
      replace hw_ := hw_.symm
      subst hw_
      refine obs (fun c25 => ?_) (fun c25 => ?_)
      ·
        refine ov (xnot rfl) rfl rfl rfl ?_
        refine ov (xpick_f rfl rfl) rfl rfl rfl ?_
        refine ov (xassign rfl) rfl rfl rfl ?_
        refine ops_nil ?_
        refine run_cond_f rfl ?_
        refine run_seq ?_
        refine run_region ?_
        refine ov (xmove rfl) rfl rfl rfl ?_
        refine ov (xlss rfl rfl _ rfl) rfl rfl rfl ?_
        refine ods (fun c30 => ?_) (fun c30 => ?_)
        ·
          refine ov (xassign rfl) rfl rfl rfl ?_
          refine ops_nil ?_
          refine run_cond_t rfl ?_
          refine run_seq ?_
          refine run_region ?_
          refine ov (xassign rfl) rfl rfl rfl ?_
          refine ov (xassign rfl) rfl rfl rfl ?_
          refine ops_nil ?_
          refine run_ret Try.func27 (res2 rfl rfl rfl) ?_
          have he : sealFile xs file level till = ([], 4) := by unfold sealFile; (repeat' split) <;> first | rfl | (exfalso; omega) | (exfalso; simp_all; done)
          exact ⟨_, rfl, E, none, 0, 0, by rw [he], by rw [he]; exact On.none _ _ _ _ _ _ _ _ _ _⟩
        ·
          refine ov (xassign rfl) rfl rfl rfl ?_
          refine ops_nil ?_
          refine run_cond_f rfl ?_
          refine run_skip ?_
          refine run_inBlock ?_
          refine run_seq ?_
          refine run_region ?_
          refine ov (xmove rfl) rfl rfl rfl ?_
          refine oc (xcall Try.call75 rfl) rfl rfl rfl (copyFiles_ok _ _ _ _ _ (H0.ext E).sn (by have := areFiles_len c17; omega) (areFiles_tot c17)) ?_
          rintro _ w3 ⟨e3, q32, m32, d32, rfl, G32⟩
          have z3 := e3.size
          have E := E.trans e3
          obtain ⟨zs, hzs, N32⟩ := G32
          have hzl : zs.length = xs.length := by rw [← hzs, List.length_map]
          have hzo := N32.o.len
          refine ov (xassign rfl) rfl rfl rfl ?_
          refine ops_nil ?_
          refine run_seq ?_
          refine run_region ?_
          refine ov (xmove rfl) rfl rfl rfl ?_
          refine ov (xmove rfl) rfl rfl rfl ?_
          refine ov (xmove rfl) rfl rfl rfl ?_
          refine ov (xmove rfl) rfl rfl rfl ?_
          have h37 := (N32.o.sl).at (i := (fileOf xs file).toNat) (by omega)
          refine ov (xindexN (i := (fileOf xs file).toNat) Try.underlying32 Try.sizeOf54 rfl rfl (by omega) ((N32.o.sl).p (i := (fileOf xs file).toNat) (by omega)) (by have := (N32.o.sl).len; omega)) rfl rfl rfl ?_
          refine ov (xfieldAddr fo54f1 rfl) rfl rfl rfl ?_
          refine ov (v := .int .i64 zs[(fileOf xs file).toNat].v.Level) (xload1 Try.isAgg2 rfl (h37) rfl) rfl rfl rfl ?_
          refine ov (xmove rfl) rfl rfl rfl ?_
          refine ov (xmax rfl rfl) rfl rfl rfl ?_
          have h42 := (N32.o.sl).at (i := (fileOf xs file).toNat) (by omega)
          refine ov (xindexN (i := (fileOf xs file).toNat) Try.underlying32 Try.sizeOf54 rfl rfl (by omega) ((N32.o.sl).p (i := (fileOf xs file).toNat) (by omega)) (by have := (N32.o.sl).len; omega)) rfl rfl rfl ?_
          refine ov (xfieldAddr fo54f1 rfl) rfl rfl rfl ?_
          refine ostoreNF (i := (fileOf xs file).toNat) (off := 1) (v' := ⟨zs[(fileOf xs file).toNat].v.Code, max zs[(fileOf xs file).toNat].v.Level level, zs[(fileOf xs file).toNat].v.Groups, zs[(fileOf xs file).toNat].v.Until⟩) Try.sizeOf2 N32 (by decide) (by omega) rfl rfl (by decide) rfl rfl rfl rfl ?_
          intro w4 m4 g4
          have z4 := m4.size
          have E := m4.toExt E (by omega)
          replace N32 := g4
          refine ops_nil ?_
          refine run_seq ?_
          refine run_region ?_
          refine ov (xmove rfl) rfl rfl rfl ?_
          refine ov (xmove rfl) rfl rfl rfl ?_
          refine ov (xmove rfl) rfl rfl rfl ?_
          refine ov (xmove rfl) rfl rfl rfl ?_
          have h48 := (N32.o.sl).at (i := (fileOf xs file).toNat) (by rw [List.length_set]; omega)
          simp only [List.getElem_set_self] at h48
          refine ov (xindexN (i := (fileOf xs file).toNat) Try.underlying32 Try.sizeOf54 rfl rfl (by omega) ((N32.o.sl).p (i := (fileOf xs file).toNat) (by rw [List.length_set]; omega)) (by have := (N32.o.sl).len; omega)) rfl rfl rfl ?_
          refine ov (xfieldAddr fo54f3 rfl) rfl rfl rfl ?_
          refine ov (v := .int .i64 zs[(fileOf xs file).toNat].v.Until) (xload1 Try.isAgg2 rfl (h48) rfl) rfl rfl rfl ?_
          refine ov (xmove rfl) rfl rfl rfl ?_
          refine ov (xmax rfl rfl) rfl rfl rfl ?_
          have h53 := (N32.o.sl).at (i := (fileOf xs file).toNat) (by rw [List.length_set]; omega)
          simp only [List.getElem_set_self] at h53
          refine ov (xindexN (i := (fileOf xs file).toNat) Try.underlying32 Try.sizeOf54 rfl rfl (by omega) ((N32.o.sl).p (i := (fileOf xs file).toNat) (by rw [List.length_set]; omega)) (by have := (N32.o.sl).len; omega)) rfl rfl rfl ?_
          refine ov (xfieldAddr fo54f3 rfl) rfl rfl rfl ?_
          refine ostoreNF (i := (fileOf xs file).toNat) (off := 3) (v' := ⟨zs[(fileOf xs file).toNat].v.Code, max zs[(fileOf xs file).toNat].v.Level level, zs[(fileOf xs file).toNat].v.Groups, max zs[(fileOf xs file).toNat].v.Until till⟩) Try.sizeOf2 N32 (by decide) (by rw [List.length_set]; omega) rfl rfl (by decide) (by simp only [List.getElem_set_self]; rfl) (by simp only [List.getElem_set_self]; rfl) rfl rfl ?_
          intro w5 m5 g5
          have z5 := m5.size
          have E := m5.toExt E (by omega)
          replace N32 := g5
          refine ops_nil ?_
          refine run_seq ?_
          refine run_region ?_
          refine ov (xmove rfl) rfl rfl rfl ?_
          refine ov (xassign rfl) rfl rfl rfl ?_
          refine ov (xassign rfl) rfl rfl rfl ?_
          refine ops_nil ?_
          refine run_ret Try.func27 (res2 rfl rfl rfl) ?_
          have he : sealFile xs file level till = (sealL xs (fileOf xs file).toNat level till, 0) := by unfold sealFile; (repeat' split) <;> first | rfl | (exfalso; omega) | (exfalso; simp_all; done)
          exact ⟨_, rfl, E, _, _, _, by rw [he], by rw [he]; exact ⟨_, by simp only [List.set_set, List.map_set]; rw [hzs, sealL_at (by omega)]; congr 1; simp only [sealF, ← hzs, List.getElem_map], N32.wide (by omega) (by omega)⟩⟩
      ·
        refine ov (xnot rfl) rfl rfl rfl ?_
        refine ov (xpick_f rfl rfl) rfl rfl rfl ?_
        refine ov (xassign rfl) rfl rfl rfl ?_
        refine ops_nil ?_
        refine run_cond_t rfl ?_
        refine run_seq ?_
        refine run_region ?_
        refine ov (xassign rfl) rfl rfl rfl ?_
        refine ov (xassign rfl) rfl rfl rfl ?_
        refine ops_nil ?_
        refine run_ret Try.func27 (res2 rfl rfl rfl) ?_
        have he : sealFile xs file level till = ([], 2) := by unfold sealFile; (repeat' split) <;> first | rfl | (exfalso; omega) | (exfalso; simp_all; done)
        exact ⟨_, rfl, E, none, 0, 0, by rw [he], by rw [he]; exact On.none _ _ _ _ _ _ _ _ _ _⟩
    ·
      refine ov (xnot rfl) rfl rfl rfl ?_
      refine ov (xmove rfl) rfl rfl rfl ?_
      refine og rfl rfl rfl ?_
      refine og rfl rfl rfl ?_
      refine og rfl rfl rfl ?_
      refine ov (xpick_t rfl rfl) rfl rfl rfl ?_
      refine ov (xassign rfl) rfl rfl rfl ?_
      refine ops_nil ?_
      refine run_cond_t rfl ?_
      refine run_seq ?_
      refine run_region ?_
      refine ov (xassign rfl) rfl rfl rfl ?_
      refine ov (xassign rfl) rfl rfl rfl ?_
      refine ops_nil ?_
      refine run_ret Try.func27 (res2 rfl rfl rfl) ?_
      have he : sealFile xs file level till = ([], 2) := by unfold sealFile; (repeat' split) <;> first | rfl | (exfalso; omega) | (exfalso; simp_all; done)
      exact ⟨_, rfl, E, none, 0, 0, by rw [he], by rw [he]; exact On.none _ _ _ _ _ _ _ _ _ _⟩
  ·
    refine ov (xnot rfl) rfl rfl rfl ?_
    refine ov (xassign rfl) rfl rfl rfl ?_
    refine ops_nil ?_
    refine run_cond_t rfl ?_
    refine run_seq ?_
    refine run_region ?_
    refine ov (xassign rfl) rfl rfl rfl ?_
    refine ov (xassign rfl) rfl rfl rfl ?_
    refine ops_nil ?_
    refine run_ret Try.func27 (res2 rfl rfl rfl) ?_
    have he : sealFile xs file level till = ([], 1) := by unfold sealFile; (repeat' split) <;> first | rfl | (exfalso; omega) | (exfalso; simp_all; done)
    exact ⟨_, rfl, E, none, 0, 0, by rw [he], by rw [he]; exact On.none _ _ _ _ _ _ _ _ _ _⟩

theorem sealCode_nil (fs : List File) (day : Int) : (areFiles fs = false ∧ sealCode [] fs day = 1) ∨ (areFiles fs = true ∧ inR 0 20000 day = false ∧ sealCode [] fs day = 2) ∨ (areFiles fs = true ∧ inR 0 20000 day = true ∧ sealCode [] fs day = 0) := by
  cases h : areFiles fs <;> cases h2 : inR 0 20000 day <;> simp [sealCode, areRoles, allB, h, h2]

set_option maxHeartbeats 4000000 in
theorem sSealFile_ok (p : Option Addr) (n c : Nat) (xs : List File) (file : ByteArray) (level till : Int) (w : World) (H0 : SnFileS w p n c xs) (hx : ∀ x ∈ xs, x.ok) : Ret Try.prog 26 [.slice p n c, .string file, .int .i64 level, .int .i64 till] w (fun v w' => Ext w w' ∧ ∃ q m d, v = .tuple #[.slice q m d, .int .i64 (sealFile xs file level till).2] ∧ OnFileS w' w.heap.size w'.heap.size q m d (sealFile xs file level till).1) := by
  refine ret_of_run (N := 71) Try.func26 rfl rfl rfl ?_
  obtain ⟨hd, H⟩ := H0
  have hn := H.len
  have hn6 := H.n64
  have hfl := fileOf_lt xs file
  have hsc := sealCode_nil xs till
  have E : Ext w w := Ext.refl w
  refine run_seq ?_
  refine run_region ?_
  refine ov (xassign rfl) rfl rfl rfl ?_
  refine ov (xassign rfl) rfl rfl rfl ?_
  refine ops_nil ?_
  refine run_seq ?_
  refine run_region ?_
  refine ov (xmove rfl) rfl rfl rfl ?_
  refine ov (xmove rfl) rfl rfl rfl ?_
  refine oc (xcall Try.call72 rfl) rfl rfl rfl (l24Code_ok none 0 0 [] _ _ _ xs till _ (Sn.none _ _ _ _ _ _) (H.ext E).sn (by intro x hx; cases hx) (by assumption)) ?_
  rintro _ w1 ⟨rfl, e1⟩
  have z1 := e1.size
  have E := E.trans e1
  refine ov (xassign rfl) rfl rfl rfl ?_
  refine ops_nil ?_
  refine run_seq ?_
  refine run_seq ?_
  refine run_region ?_
  refine ov (xmove rfl) rfl rfl rfl ?_
  refine ov (xeql rfl rfl _ rfl) rfl rfl rfl ?_
  refine ods (fun c19 => ?_) (fun c19 => ?_)
  ·
    refine ov (xmove rfl) rfl rfl rfl ?_
    refine ov (xmove rfl) rfl rfl rfl ?_
    refine oc (xcall Try.call55 rfl) rfl rfl rfl (l01In_ok (level) (0) (9) _) ?_
    rintro _ w_ ⟨rfl, hw_⟩
    replace hw_ := hw_.symm
    subst hw_
    refine obs (fun c22 => ?_) (fun c22 => ?_)
    ·
      refine ov (xnot rfl) rfl rfl rfl ?_
      refine ov (xpick_t rfl rfl) rfl rfl rfl ?_
      refine ops_nil ?_
      refine run_cond_f rfl ?_
      refine run_skip ?_
      refine run_seq ?_
      refine run_region ?_
      refine ov (xmove rfl) rfl rfl rfl ?_
      refine ov (xmove rfl) rfl rfl rfl ?_
      refine oc (xcall Try.call67 rfl) rfl rfl rfl (l24File_ok _ _ _ _ (file) _ (H.ext E).sn) ?_
      rintro _ w2 ⟨rfl, e2⟩
      have z2 := e2.size
      have E := E.trans e2
      refine ov (xassign rfl) rfl rfl rfl ?_
      refine ops_nil ?_
      refine run_seq ?_
      refine run_seq ?_
      refine run_region ?_
      refine ov (xmove rfl) rfl rfl rfl ?_
      refine ov (xeql rfl rfl _ rfl) rfl rfl rfl ?_
      refine ods (fun c29 => ?_) (fun c29 => ?_)
      ·
        refine ov (xmove rfl) rfl rfl rfl ?_
        refine ov (xmove rfl) rfl rfl rfl ?_
        refine ov (xlss rfl rfl _ rfl) rfl rfl rfl ?_
        refine ods (fun c32 => ?_) (fun c32 => ?_)
        ·
          refine ov (xpick_t rfl rfl) rfl rfl rfl ?_
          refine ops_nil ?_
          refine run_cond_t rfl ?_
          refine run_region ?_
          refine ov (xassign rfl) rfl rfl rfl ?_
          refine ops_nil ?_
          refine run_seq ?_
          refine run_seq ?_
          refine run_region ?_
          refine ov (xmove rfl) rfl rfl rfl ?_
          refine ov (xneq rfl rfl _ rfl) rfl rfl rfl ?_
          refine ods (fun c35 => ?_) (fun c35 => ?_)
          ·
            refine ops_nil ?_
            refine run_cond_t rfl ?_
            refine run_seq ?_
            refine run_region ?_
            refine ov (xmove rfl) rfl rfl rfl ?_
            refine ov (xassign rfl) rfl rfl rfl ?_
            refine ov (xassign rfl) rfl rfl rfl ?_
            refine ops_nil ?_
            refine run_ret Try.func26 (res2 rfl rfl rfl) ?_
            have he : sealFile xs file level till = ([], 4) := by rcases hsc with ⟨h1, h2⟩ | ⟨h1, h2, h3⟩ | ⟨h1, h2, h3⟩ <;> unfold sealFile <;> (repeat' split) <;> first | rfl | (exfalso; omega) | (exfalso; simp_all; done) | (rw [h2]; done) | (rw [h3]; done)
            exact ⟨_, rfl, E, none, 0, 0, by rw [he], by rw [he]; exact On.none _ _ _ _ _ _ _ _ _ _⟩
          · exfalso; omega
        ·
          refine ov (xpick_t rfl rfl) rfl rfl rfl ?_
          refine ops_nil ?_
          refine run_cond_f rfl ?_
          refine run_skip ?_
          refine run_seq ?_
          refine run_seq ?_
          refine run_region ?_
          refine ov (xmove rfl) rfl rfl rfl ?_
          refine ov (xneq rfl rfl _ rfl) rfl rfl rfl ?_
          refine ods (fun c35 => ?_) (fun c35 => ?_)
          ·
            refine ops_nil ?_
            refine run_cond_t rfl ?_
            refine run_seq ?_
            refine run_region ?_
            refine ov (xmove rfl) rfl rfl rfl ?_
            refine ov (xassign rfl) rfl rfl rfl ?_
            refine ov (xassign rfl) rfl rfl rfl ?_
            refine ops_nil ?_
            refine run_ret Try.func26 (res2 rfl rfl rfl) ?_
            have he : sealFile xs file level till = ([], (sealCode [] xs till)) := by rcases hsc with ⟨h1, h2⟩ | ⟨h1, h2, h3⟩ | ⟨h1, h2, h3⟩ <;> unfold sealFile <;> (repeat' split) <;> first | rfl | (exfalso; omega) | (exfalso; simp_all; done) | (rw [h2]; done) | (rw [h3]; done)
            exact ⟨_, rfl, E, none, 0, 0, by rw [he], by rw [he]; exact On.none _ _ _ _ _ _ _ _ _ _⟩
          ·
            refine ops_nil ?_
            refine run_cond_f rfl ?_
            refine run_skip ?_
            refine run_seq ?_
            refine run_region ?_
            have haf : areFiles xs = true := by rcases hsc with ⟨h1, h2⟩ | ⟨h1, h2, h3⟩ | ⟨h1, h2, h3⟩ <;> first | exact h1 | omega
            have hln := areFiles_len haf
            refine obuild (cs := []) (sz := 4) Try.underlying32 inf54 rfl rfl (by decide) rfl rfl (by simp [Value.cells]) rfl rfl rfl ?_
            intro b3 w3 e3 hb3 hz3 O3
            have E := E.trans e3
            have G3 : NOw cellsFileS 4 54 innFileS strc 1 9 w3 b3 (b3 + 1) (some ⟨b3, 0, none⟩) 0 0 [] := ⟨Own.ow (by simpa using O3) rfl (by omega) (Nat.le_refl _) (by omega) (by intro x hx; cases hx), Inn.nil⟩
            refine ov (xassign rfl) rfl rfl rfl ?_
            refine ops_nil ?_
            refine run_seq ?_
            refine run_seq ?_
            refine run_region ?_
            refine ov (xassign rfl) rfl rfl rfl ?_
            refine ops_nil ?_
            refine run_block ?_
            refine run_loop (ι := Nat × Option Addr × Nat × Nat × List (X (File)) × World) (fun x_ => match x_ with | (k, q_12, m_12, c_12, ys_12, wr) => (Ext w wr) ∧ (NOw cellsFileS 4 54 innFileS strc 1 9 wr b3 wr.heap.size q_12 m_12 c_12 ys_12) ∧ (b3 ≤ wr.heap.size) ∧ (w3.heap.size ≤ wr.heap.size) ∧ (k ≤ n) ∧ (m_12 = k) ∧ (ys_12.map X.v = (sealL xs (fileOf xs file).toNat level till).take k)) (fun x_ => match x_ with | (k, q_12, m_12, c_12, ys_12, wr) => [(0, .slice p n c), (2, .int .i64 level), (3, .int .i64 till), (11, .int .i64 (fileOf xs file)), (12, .slice q_12 m_12 c_12), (13, .int .i64 (k : Int))]) (fun x_ => match x_ with | (k, q_12, m_12, c_12, ys_12, wr) => wr) (fun x_ => match x_ with | (k, q_12, m_12, c_12, ys_12, wr) => n - k) ?_ (0, (some ⟨b3, 0, none⟩), 0, 0, [], w3) (⟨E, G3.wide (by omega) (by omega), by omega, Nat.le_refl _, by omega, rfl, rfl⟩) ⟨rfl, rfl, rfl, rfl, rfl, rfl, trivial⟩ rfl
            intro i_ hI_ hback11
            obtain ⟨k, q_12, m_12, c_12, ys_12, wr⟩ := i_
            obtain ⟨E, G_12, lo_12, lz_wr, hk, hm, hy⟩ := hI_
            try dsimp only
            have zr := E.size
            have lg_12 := G_12.o.len
            refine run_seq ?_
            refine run_seq ?_
            refine run_region ?_
            refine ov (xmove rfl) rfl rfl rfl ?_
            refine ov (xmove rfl) rfl rfl rfl ?_
            refine ov (xlen Try.underlying32 rfl) rfl rfl rfl ?_
            refine ov (xlss rfl rfl _ rfl) rfl rfl rfl ?_
            refine ods (fun c41 => ?_) (fun c41 => ?_)
            ·
              have hgk := areFiles_tot haf xs[k] (List.getElem_mem (by omega))
              have hgi := (H.inner (i := k) (by omega)).len
              simp only [innFileS] at hgi
              refine ops_nil ?_
              refine run_cond_t rfl ?_
              refine run_skip ?_
              refine run_seq ?_
              refine run_block ?_
              refine run_seq ?_
              refine run_region ?_
              refine ov (xmove rfl) rfl rfl rfl ?_
              refine ov (xmove rfl) rfl rfl rfl ?_
              have h46 := (H.ext E).at (i := k) (by omega)
              refine ov (xindexN (i := k) Try.underlying32 Try.sizeOf54 rfl rfl rfl ((H.ext E).p (i := k) (by omega)) (by have := (H.ext E).len; omega)) rfl rfl rfl ?_
              refine ov (v := .agg #[.string xs[k].Code, .int .i64 xs[k].Level, .slice (hd k).p (hd k).n (hd k).c, .int .i64 xs[k].Until]) (xloadN Try.isAgg54 Try.sizeOf54 rfl (h46) rfl) rfl rfl rfl ?_
              refine oalloc Try.zeroValue54 rfl rfl ?_
              intro b4 w4 e4 hb4 hz4 O4
              have E := E.trans e4
              replace G_12 := G_12.ext e4
              replace O4 : Own w4 b4 [.string ⟨#[]⟩, .int .i64 0, .slice none 0 0, .int .i64 0] 54 := O4
              refine ostoreN (vs := _) Try.sizeOf54 rfl rfl O4 rfl (by simp) (by simp [Value.oneCell']) rfl ?_
              intro w5 on5 O5
              have hz5 := on5.size
              have E := on5.ext E (by omega)
              replace G_12 := G_12.only on5 (by omega)
              replace O5 : Own w5 b4 [.string xs[k].Code, .int .i64 xs[k].Level, .slice (hd k).p (hd k).n (hd k).c, .int .i64 xs[k].Until] 54 := O5
              refine ops_nil ?_
              refine run_seq ?_
              refine run_seq ?_
              refine run_region ?_
              refine ov (xmove rfl) rfl rfl rfl ?_
              refine ov (xmove rfl) rfl rfl rfl ?_
              refine ov (xeql rfl rfl _ rfl) rfl rfl rfl ?_
              refine ods (fun c50 => ?_) (fun c50 => ?_)
              ·
                refine ops_nil ?_
                refine run_cond_t rfl ?_
                refine run_seq ?_
                refine run_region ?_
                refine ov (xfieldAddr fo54f1 rfl) rfl rfl rfl ?_
                refine ov (v := .int .i64 xs[k].Level) (xload1 Try.isAgg2 rfl (O5.cells) rfl) rfl rfl rfl ?_
                refine ov (xmove rfl) rfl rfl rfl ?_
                refine ov (xmax rfl rfl) rfl rfl rfl ?_
                refine ov (xfieldAddr fo54f1 rfl) rfl rfl rfl ?_
                refine ostore1 Try.sizeOf2 rfl rfl O5 (by simp) rfl rfl ?_
                intro w6 on6 O6
                have hz6 := on6.size
                have E := on6.ext E (by omega)
                replace G_12 := G_12.only on6 (by omega)
                replace O6 : Own w6 b4 [.string xs[k].Code, .int .i64 (max xs[k].Level level), .slice (hd k).p (hd k).n (hd k).c, .int .i64 xs[k].Until] 54 := O6
                refine ops_nil ?_
                refine run_region ?_
                refine ov (xfieldAddr fo54f3 rfl) rfl rfl rfl ?_
                refine ov (v := .int .i64 xs[k].Until) (xload1 Try.isAgg2 rfl (O6.cells) rfl) rfl rfl rfl ?_
                refine ov (xmove rfl) rfl rfl rfl ?_
                refine ov (xmax rfl rfl) rfl rfl rfl ?_
                refine ov (xfieldAddr fo54f3 rfl) rfl rfl rfl ?_
                refine ostore1 Try.sizeOf2 rfl rfl O6 (by simp) rfl rfl ?_
                intro w7 on7 O7
                have hz7 := on7.size
                have E := on7.ext E (by omega)
                replace G_12 := G_12.only on7 (by omega)
                replace O7 : Own w7 b4 [.string xs[k].Code, .int .i64 (max xs[k].Level level), .slice (hd k).p (hd k).n (hd k).c, .int .i64 (max xs[k].Until till)] 54 := O7
                refine ops_nil ?_
                refine run_seq ?_
                refine run_region ?_
                refine obuild (cs := []) (sz := 1) Try.underlying49 inf9 rfl rfl (by decide) rfl rfl (by simp [Value.cells]) rfl rfl rfl ?_
                intro b8 w8 e8 hb8 hz8 O8
                have E := E.trans e8
                replace G_12 := G_12.ext e8
                replace O7 := O7.ext e8
                have G8 : Ow strc 1 9 w8 b8 (b8 + 1) (some ⟨b8, 0, none⟩) 0 0 ([] : List ByteArray) := Own.ow (by simpa using O8) rfl (by omega) (Nat.le_refl _) (by omega) (by intro x hx; rfl)
                refine ov (xfieldAddr fo54f2 rfl) rfl rfl rfl ?_
                refine ov (v := .slice (hd k).p (hd k).n (hd k).c) (xload1 Try.isAgg49 rfl (O7.cells) rfl) rfl rfl rfl ?_
                refine oapp (bytes := 16) (nm := (hd k).n) G8 rfl rfl elem9 ((show Sl strc 1 _ _ _ _ xs[k].Groups from (H.inner (i := k) (by omega)).ext E)) ((show Sl strc 1 _ _ _ _ xs[k].Groups from (H.inner (i := k) (by omega)).ext E)).nil (by intro y hy; rfl) (by intro y hy u hu; simp only [strc, List.mem_singleton] at hu; subst hu; rfl) (by omega) (by omega) (by omega) (by omega) rfl rfl ?_
                intro p9 c9_ w9 m9 G9
                have hz9 := m9.size
                have E := m9.toExt E (by omega)
                replace G_12 := G_12.off m9 (by omega)
                try replace O7 := m9.own O7 (by omega)
                refine ov (xfieldAddr fo54f2 rfl) rfl rfl rfl ?_
                refine ostore1 Try.sizeOf49 rfl rfl O7 (by simp) rfl rfl ?_
                intro w10 on10 O10
                have hz10 := on10.size
                have E := on10.ext E (by omega)
                replace G_12 := G_12.only on10 (by omega)
                replace G9 := G9.only on10 (by omega)
                replace O10 : Own w10 b4 [.string xs[k].Code, .int .i64 (max xs[k].Level level), .slice p9 (hd k).n c9_, .int .i64 (max xs[k].Until till)] 54 := O10
                refine ops_nil ?_
                refine run_region ?_
                refine ov (xmove rfl) rfl rfl rfl ?_
                refine ov (v := .agg #[.string xs[k].Code, .int .i64 (max xs[k].Level level), .slice p9 (hd k).n c9_, .int .i64 (max xs[k].Until till)]) (xloadN Try.isAgg54 Try.sizeOf54 rfl (O10.cells) rfl) rfl rfl rfl ?_
                refine obuild (cs := [.string xs[k].Code, .int .i64 (max xs[k].Level level), .slice p9 (hd k).n c9_, .int .i64 (max xs[k].Until till)]) (sz := 4) Try.underlying32 inf54 rfl rfl (by decide) rfl rfl (by simp [Value.cells]) rfl rfl rfl ?_
                intro b11 w11 e11 hb11 hz11 O11
                have E := E.trans e11
                replace G_12 := G_12.ext e11
                replace G9 := G9.ext e11
                replace O10 := O10.ext e11
                refine oappN (bytes := 56) (nm := (m_12 + 1)) (z := ⟨sealF xs[k] level till, ⟨p9, (hd k).n, c9_⟩⟩) G_12 (by decide) rfl rfl elem54 (Own.sl1 (y := (⟨sealF xs[k] level till, ⟨p9, (hd k).n, c9_⟩⟩ : X _)) O11) (by intro h; cases h) rfl (by simp [xc, cellsFileS, Value.oneCell']) G9 (by omega) (by omega) (by omega) (by omega) (by omega) (by omega) (by omega) rfl  rfl rfl ?_
                intro p12 c12_ w12 m12 G12
                have hz12 := m12.size
                have E := m12.toExt E (by omega)
                replace G9 := G9.off m12 (by omega)
                try replace O10 := m12.own O10 (by omega)
                try replace O11 := m12.own O11 (by omega)
                refine ov (xassign rfl) rfl rfl rfl ?_
                refine ops_nil ?_
                refine run_inBlock ?_
                refine run_region ?_
                refine ov (xmove rfl) rfl rfl rfl ?_
                refine ov (xadd rfl rfl (by unfold I64; omega)) rfl rfl rfl ?_
                refine ov (xassign rfl) rfl rfl rfl ?_
                refine ops_nil ?_
                refine run_sub ?_ (hback11 (k + 1, p12, (m_12 + 1), c12_, ys_12 ++ [⟨sealF xs[k] level till, ⟨p9, (hd k).n, c9_⟩⟩], w12) (⟨E, G12.wide (by omega) (by omega), by omega, by omega, by omega, by omega, by rw [List.map_append]; exact (seal_step (by omega) hy).1 (by omega)⟩) (by first | omega | (dsimp only; omega)))
                exact ⟨rfl, rfl, rfl, rfl, rfl, rfl, trivial⟩
              ·
                refine ops_nil ?_
                refine run_cond_f rfl ?_
                refine run_skip ?_
                refine run_seq ?_
                refine run_region ?_
                refine obuild (cs := []) (sz := 1) Try.underlying49 inf9 rfl rfl (by decide) rfl rfl (by simp [Value.cells]) rfl rfl rfl ?_
                intro b6 w6 e6 hb6 hz6 O6
                have E := E.trans e6
                replace G_12 := G_12.ext e6
                replace O5 := O5.ext e6
                have G6 : Ow strc 1 9 w6 b6 (b6 + 1) (some ⟨b6, 0, none⟩) 0 0 ([] : List ByteArray) := Own.ow (by simpa using O6) rfl (by omega) (Nat.le_refl _) (by omega) (by intro x hx; rfl)
                refine ov (xfieldAddr fo54f2 rfl) rfl rfl rfl ?_
                refine ov (v := .slice (hd k).p (hd k).n (hd k).c) (xload1 Try.isAgg49 rfl (O5.cells) rfl) rfl rfl rfl ?_
                refine oapp (bytes := 16) (nm := (hd k).n) G6 rfl rfl elem9 ((show Sl strc 1 _ _ _ _ xs[k].Groups from (H.inner (i := k) (by omega)).ext E)) ((show Sl strc 1 _ _ _ _ xs[k].Groups from (H.inner (i := k) (by omega)).ext E)).nil (by intro y hy; rfl) (by intro y hy u hu; simp only [strc, List.mem_singleton] at hu; subst hu; rfl) (by omega) (by omega) (by omega) (by omega) rfl rfl ?_
                intro p7 c7_ w7 m7 G7
                have hz7 := m7.size
                have E := m7.toExt E (by omega)
                replace G_12 := G_12.off m7 (by omega)
                try replace O5 := m7.own O5 (by omega)
                refine ov (xfieldAddr fo54f2 rfl) rfl rfl rfl ?_
                refine ostore1 Try.sizeOf49 rfl rfl O5 (by simp) rfl rfl ?_
                intro w8 on8 O8
                have hz8 := on8.size
                have E := on8.ext E (by omega)
                replace G_12 := G_12.only on8 (by omega)
                replace G7 := G7.only on8 (by omega)
                replace O8 : Own w8 b4 [.string xs[k].Code, .int .i64 xs[k].Level, .slice p7 (hd k).n c7_, .int .i64 xs[k].Until] 54 := O8
                refine ops_nil ?_
                refine run_region ?_
                refine ov (xmove rfl) rfl rfl rfl ?_
                refine ov (v := .agg #[.string xs[k].Code, .int .i64 xs[k].Level, .slice p7 (hd k).n c7_, .int .i64 xs[k].Until]) (xloadN Try.isAgg54 Try.sizeOf54 rfl (O8.cells) rfl) rfl rfl rfl ?_
                refine obuild (cs := [.string xs[k].Code, .int .i64 xs[k].Level, .slice p7 (hd k).n c7_, .int .i64 xs[k].Until]) (sz := 4) Try.underlying32 inf54 rfl rfl (by decide) rfl rfl (by simp [Value.cells]) rfl rfl rfl ?_
                intro b9 w9 e9 hb9 hz9 O9
                have E := E.trans e9
                replace G_12 := G_12.ext e9
                replace G7 := G7.ext e9
                replace O8 := O8.ext e9
                refine oappN (bytes := 56) (nm := (m_12 + 1)) (z := ⟨xs[k], ⟨p7, (hd k).n, c7_⟩⟩) G_12 (by decide) rfl rfl elem54 (Own.sl1 (y := (⟨xs[k], ⟨p7, (hd k).n, c7_⟩⟩ : X _)) O9) (by intro h; cases h) rfl (by simp [xc, cellsFileS, Value.oneCell']) G7 (by omega) (by omega) (by omega) (by omega) (by omega) (by omega) (by omega) rfl  rfl rfl ?_
                intro p10 c10_ w10 m10 G10
                have hz10 := m10.size
                have E := m10.toExt E (by omega)
                replace G7 := G7.off m10 (by omega)
                try replace O8 := m10.own O8 (by omega)
                try replace O9 := m10.own O9 (by omega)
                refine ov (xassign rfl) rfl rfl rfl ?_
                refine ops_nil ?_
                refine run_inBlock ?_
                refine run_region ?_
                refine ov (xmove rfl) rfl rfl rfl ?_
                refine ov (xadd rfl rfl (by unfold I64; omega)) rfl rfl rfl ?_
                refine ov (xassign rfl) rfl rfl rfl ?_
                refine ops_nil ?_
                refine run_sub ?_ (hback11 (k + 1, p10, (m_12 + 1), c10_, ys_12 ++ [⟨xs[k], ⟨p7, (hd k).n, c7_⟩⟩], w10) (⟨E, G10.wide (by omega) (by omega), by omega, by omega, by omega, by omega, by rw [List.map_append]; exact (seal_step (by omega) hy).2 (by omega)⟩) (by first | omega | (dsimp only; omega)))
                exact ⟨rfl, rfl, rfl, rfl, rfl, rfl, trivial⟩
            ·
              refine ops_nil ?_
              refine run_cond_f rfl ?_
              refine run_exit rfl ?_
              refine run_seq ?_
              refine run_region ?_
              refine ov (xmove rfl) rfl rfl rfl ?_
              refine ov (xassign rfl) rfl rfl rfl ?_
              refine ov (xassign rfl) rfl rfl rfl ?_
              refine ops_nil ?_
              refine run_ret Try.func26 (res2 rfl rfl rfl) ?_
              obtain rfl : k = n := by omega
              have he : sealFile xs file level till = (sealL xs (fileOf xs file).toNat level till, 0) := by rcases hsc with ⟨h1, h2⟩ | ⟨h1, h2, h3⟩ | ⟨h1, h2, h3⟩ <;> unfold sealFile <;> (repeat' split) <;> first | rfl | (exfalso; omega) | (exfalso; simp_all; done)
              exact ⟨_, rfl, E, _, _, _, by rw [he], by rw [he]; exact ⟨ys_12, by rw [hy, List.take_of_length_le (by rw [sealL_length]; omega)], G_12.wide (by omega) (by omega)⟩⟩
      ·
        refine ov (xmove rfl) rfl rfl rfl ?_
        refine og rfl rfl rfl ?_
        refine og rfl rfl rfl ?_
        refine ov (xpick_f rfl rfl) rfl rfl rfl ?_
        refine ops_nil ?_
        refine run_cond_f rfl ?_
        refine run_skip ?_
        refine run_seq ?_
        refine run_seq ?_
        refine run_region ?_
        refine ov (xmove rfl) rfl rfl rfl ?_
        refine ov (xneq rfl rfl _ rfl) rfl rfl rfl ?_
        refine ods (fun c35 => ?_) (fun c35 => ?_)
        ·
          refine ops_nil ?_
          refine run_cond_t rfl ?_
          refine run_seq ?_
          refine run_region ?_
          refine ov (xmove rfl) rfl rfl rfl ?_
          refine ov (xassign rfl) rfl rfl rfl ?_
          refine ov (xassign rfl) rfl rfl rfl ?_
          refine ops_nil ?_
          refine run_ret Try.func26 (res2 rfl rfl rfl) ?_
          have he : sealFile xs file level till = ([], (sealCode [] xs till)) := by rcases hsc with ⟨h1, h2⟩ | ⟨h1, h2, h3⟩ | ⟨h1, h2, h3⟩ <;> unfold sealFile <;> (repeat' split) <;> first | rfl | (exfalso; omega) | (exfalso; simp_all; done) | (rw [h2]; done) | (rw [h3]; done)
          exact ⟨_, rfl, E, none, 0, 0, by rw [he], by rw [he]; exact On.none _ _ _ _ _ _ _ _ _ _⟩
        ·
          refine ops_nil ?_
          refine run_cond_f rfl ?_
          refine run_skip ?_
          refine run_seq ?_
          refine run_region ?_
          have haf : areFiles xs = true := by rcases hsc with ⟨h1, h2⟩ | ⟨h1, h2, h3⟩ | ⟨h1, h2, h3⟩ <;> first | exact h1 | omega
          have hln := areFiles_len haf
          refine obuild (cs := []) (sz := 4) Try.underlying32 inf54 rfl rfl (by decide) rfl rfl (by simp [Value.cells]) rfl rfl rfl ?_
          intro b3 w3 e3 hb3 hz3 O3
          have E := E.trans e3
          have G3 : NOw cellsFileS 4 54 innFileS strc 1 9 w3 b3 (b3 + 1) (some ⟨b3, 0, none⟩) 0 0 [] := ⟨Own.ow (by simpa using O3) rfl (by omega) (Nat.le_refl _) (by omega) (by intro x hx; cases hx), Inn.nil⟩
          refine ov (xassign rfl) rfl rfl rfl ?_
          refine ops_nil ?_
          refine run_seq ?_
          refine run_seq ?_
          refine run_region ?_
          refine ov (xassign rfl) rfl rfl rfl ?_
          refine ops_nil ?_
          refine run_block ?_
          refine run_loop (ι := Nat × Option Addr × Nat × Nat × List (X (File)) × World) (fun x_ => match x_ with | (k, q_12, m_12, c_12, ys_12, wr) => (Ext w wr) ∧ (NOw cellsFileS 4 54 innFileS strc 1 9 wr b3 wr.heap.size q_12 m_12 c_12 ys_12) ∧ (b3 ≤ wr.heap.size) ∧ (w3.heap.size ≤ wr.heap.size) ∧ (k ≤ n) ∧ (m_12 = k) ∧ (ys_12.map X.v = (sealL xs (fileOf xs file).toNat level till).take k)) (fun x_ => match x_ with | (k, q_12, m_12, c_12, ys_12, wr) => [(0, .slice p n c), (2, .int .i64 level), (3, .int .i64 till), (11, .int .i64 (fileOf xs file)), (12, .slice q_12 m_12 c_12), (13, .int .i64 (k : Int))]) (fun x_ => match x_ with | (k, q_12, m_12, c_12, ys_12, wr) => wr) (fun x_ => match x_ with | (k, q_12, m_12, c_12, ys_12, wr) => n - k) ?_ (0, (some ⟨b3, 0, none⟩), 0, 0, [], w3) (⟨E, G3.wide (by omega) (by omega), by omega, Nat.le_refl _, by omega, rfl, rfl⟩) ⟨rfl, rfl, rfl, rfl, rfl, rfl, trivial⟩ rfl
          intro i_ hI_ hback11
          obtain ⟨k, q_12, m_12, c_12, ys_12, wr⟩ := i_
          obtain ⟨E, G_12, lo_12, lz_wr, hk, hm, hy⟩ := hI_
          try dsimp only
          have zr := E.size
          have lg_12 := G_12.o.len
          refine run_seq ?_
          refine run_seq ?_
          refine run_region ?_
          refine ov (xmove rfl) rfl rfl rfl ?_
          refine ov (xmove rfl) rfl rfl rfl ?_
          refine ov (xlen Try.underlying32 rfl) rfl rfl rfl ?_
          refine ov (xlss rfl rfl _ rfl) rfl rfl rfl ?_
          refine ods (fun c41 => ?_) (fun c41 => ?_)
          ·
            have hgk := areFiles_tot haf xs[k] (List.getElem_mem (by omega))
            have hgi := (H.inner (i := k) (by omega)).len
            simp only [innFileS] at hgi
            refine ops_nil ?_
            refine run_cond_t rfl ?_
            refine run_skip ?_
            refine run_seq ?_
            refine run_block ?_
            refine run_seq ?_
            refine run_region ?_
            refine ov (xmove rfl) rfl rfl rfl ?_
            refine ov (xmove rfl) rfl rfl rfl ?_
            have h46 := (H.ext E).at (i := k) (by omega)
            refine ov (xindexN (i := k) Try.underlying32 Try.sizeOf54 rfl rfl rfl ((H.ext E).p (i := k) (by omega)) (by have := (H.ext E).len; omega)) rfl rfl rfl ?_
            refine ov (v := .agg #[.string xs[k].Code, .int .i64 xs[k].Level, .slice (hd k).p (hd k).n (hd k).c, .int .i64 xs[k].Until]) (xloadN Try.isAgg54 Try.sizeOf54 rfl (h46) rfl) rfl rfl rfl ?_
            refine oalloc Try.zeroValue54 rfl rfl ?_
            intro b4 w4 e4 hb4 hz4 O4
            have E := E.trans e4
            replace G_12 := G_12.ext e4
            replace O4 : Own w4 b4 [.string ⟨#[]⟩, .int .i64 0, .slice none 0 0, .int .i64 0] 54 := O4
            refine ostoreN (vs := _) Try.sizeOf54 rfl rfl O4 rfl (by simp) (by simp [Value.oneCell']) rfl ?_
            intro w5 on5 O5
            have hz5 := on5.size
            have E := on5.ext E (by omega)
            replace G_12 := G_12.only on5 (by omega)
            replace O5 : Own w5 b4 [.string xs[k].Code, .int .i64 xs[k].Level, .slice (hd k).p (hd k).n (hd k).c, .int .i64 xs[k].Until] 54 := O5
            refine ops_nil ?_
            refine run_seq ?_
            refine run_seq ?_
            refine run_region ?_
            refine ov (xmove rfl) rfl rfl rfl ?_
            refine ov (xmove rfl) rfl rfl rfl ?_
            refine ov (xeql rfl rfl _ rfl) rfl rfl rfl ?_
            refine ods (fun c50 => ?_) (fun c50 => ?_)
            ·
              refine ops_nil ?_
              refine run_cond_t rfl ?_
              refine run_seq ?_
              refine run_region ?_
              refine ov (xfieldAddr fo54f1 rfl) rfl rfl rfl ?_
              refine ov (v := .int .i64 xs[k].Level) (xload1 Try.isAgg2 rfl (O5.cells) rfl) rfl rfl rfl ?_
              refine ov (xmove rfl) rfl rfl rfl ?_
              refine ov (xmax rfl rfl) rfl rfl rfl ?_
              refine ov (xfieldAddr fo54f1 rfl) rfl rfl rfl ?_
              refine ostore1 Try.sizeOf2 rfl rfl O5 (by simp) rfl rfl ?_
              intro w6 on6 O6
              have hz6 := on6.size
              have E := on6.ext E (by omega)
              replace G_12 := G_12.only on6 (by omega)
              replace O6 : Own w6 b4 [.string xs[k].Code, .int .i64 (max xs[k].Level level), .slice (hd k).p (hd k).n (hd k).c, .int .i64 xs[k].Until] 54 := O6
              refine ops_nil ?_
              refine run_region ?_
              refine ov (xfieldAddr fo54f3 rfl) rfl rfl rfl ?_
              refine ov (v := .int .i64 xs[k].Until) (xload1 Try.isAgg2 rfl (O6.cells) rfl) rfl rfl rfl ?_
              refine ov (xmove rfl) rfl rfl rfl ?_
              refine ov (xmax rfl rfl) rfl rfl rfl ?_
              refine ov (xfieldAddr fo54f3 rfl) rfl rfl rfl ?_
              refine ostore1 Try.sizeOf2 rfl rfl O6 (by simp) rfl rfl ?_
              intro w7 on7 O7
              have hz7 := on7.size
              have E := on7.ext E (by omega)
              replace G_12 := G_12.only on7 (by omega)
              replace O7 : Own w7 b4 [.string xs[k].Code, .int .i64 (max xs[k].Level level), .slice (hd k).p (hd k).n (hd k).c, .int .i64 (max xs[k].Until till)] 54 := O7
              refine ops_nil ?_
              refine run_seq ?_
              refine run_region ?_
              refine obuild (cs := []) (sz := 1) Try.underlying49 inf9 rfl rfl (by decide) rfl rfl (by simp [Value.cells]) rfl rfl rfl ?_
              intro b8 w8 e8 hb8 hz8 O8
              have E := E.trans e8
              replace G_12 := G_12.ext e8
              replace O7 := O7.ext e8
              have G8 : Ow strc 1 9 w8 b8 (b8 + 1) (some ⟨b8, 0, none⟩) 0 0 ([] : List ByteArray) := Own.ow (by simpa using O8) rfl (by omega) (Nat.le_refl _) (by omega) (by intro x hx; rfl)
              refine ov (xfieldAddr fo54f2 rfl) rfl rfl rfl ?_
              refine ov (v := .slice (hd k).p (hd k).n (hd k).c) (xload1 Try.isAgg49 rfl (O7.cells) rfl) rfl rfl rfl ?_
              refine oapp (bytes := 16) (nm := (hd k).n) G8 rfl rfl elem9 ((show Sl strc 1 _ _ _ _ xs[k].Groups from (H.inner (i := k) (by omega)).ext E)) ((show Sl strc 1 _ _ _ _ xs[k].Groups from (H.inner (i := k) (by omega)).ext E)).nil (by intro y hy; rfl) (by intro y hy u hu; simp only [strc, List.mem_singleton] at hu; subst hu; rfl) (by omega) (by omega) (by omega) (by omega) rfl rfl ?_
              intro p9 c9_ w9 m9 G9
              have hz9 := m9.size
              have E := m9.toExt E (by omega)
              replace G_12 := G_12.off m9 (by omega)
              try replace O7 := m9.own O7 (by omega)
              refine ov (xfieldAddr fo54f2 rfl) rfl rfl rfl ?_
              refine ostore1 Try.sizeOf49 rfl rfl O7 (by simp) rfl rfl ?_
              intro w10 on10 O10
              have hz10 := on10.size
              have E := on10.ext E (by omega)
              replace G_12 := G_12.only on10 (by omega)
              replace G9 := G9.only on10 (by omega)
              replace O10 : Own w10 b4 [.string xs[k].Code, .int .i64 (max xs[k].Level level), .slice p9 (hd k).n c9_, .int .i64 (max xs[k].Until till)] 54 := O10
              refine ops_nil ?_
              refine run_region ?_
              refine ov (xmove rfl) rfl rfl rfl ?_
              refine ov (v := .agg #[.string xs[k].Code, .int .i64 (max xs[k].Level level), .slice p9 (hd k).n c9_, .int .i64 (max xs[k].Until till)]) (xloadN Try.isAgg54 Try.sizeOf54 rfl (O10.cells) rfl) rfl rfl rfl ?_
              refine obuild (cs := [.string xs[k].Code, .int .i64 (max xs[k].Level level), .slice p9 (hd k).n c9_, .int .i64 (max xs[k].Until till)]) (sz := 4) Try.underlying32 inf54 rfl rfl (by decide) rfl rfl (by simp [Value.cells]) rfl rfl rfl ?_
              intro b11 w11 e11 hb11 hz11 O11
              have E := E.trans e11
              replace G_12 := G_12.ext e11
              replace G9 := G9.ext e11
              replace O10 := O10.ext e11
              refine oappN (bytes := 56) (nm := (m_12 + 1)) (z := ⟨sealF xs[k] level till, ⟨p9, (hd k).n, c9_⟩⟩) G_12 (by decide) rfl rfl elem54 (Own.sl1 (y := (⟨sealF xs[k] level till, ⟨p9, (hd k).n, c9_⟩⟩ : X _)) O11) (by intro h; cases h) rfl (by simp [xc, cellsFileS, Value.oneCell']) G9 (by omega) (by omega) (by omega) (by omega) (by omega) (by omega) (by omega) rfl  rfl rfl ?_
              intro p12 c12_ w12 m12 G12
              have hz12 := m12.size
              have E := m12.toExt E (by omega)
              replace G9 := G9.off m12 (by omega)
              try replace O10 := m12.own O10 (by omega)
              try replace O11 := m12.own O11 (by omega)
              refine ov (xassign rfl) rfl rfl rfl ?_
              refine ops_nil ?_
              refine run_inBlock ?_
              refine run_region ?_
              refine ov (xmove rfl) rfl rfl rfl ?_
              refine ov (xadd rfl rfl (by unfold I64; omega)) rfl rfl rfl ?_
              refine ov (xassign rfl) rfl rfl rfl ?_
              refine ops_nil ?_
              refine run_sub ?_ (hback11 (k + 1, p12, (m_12 + 1), c12_, ys_12 ++ [⟨sealF xs[k] level till, ⟨p9, (hd k).n, c9_⟩⟩], w12) (⟨E, G12.wide (by omega) (by omega), by omega, by omega, by omega, by omega, by rw [List.map_append]; exact (seal_step (by omega) hy).1 (by omega)⟩) (by first | omega | (dsimp only; omega)))
              exact ⟨rfl, rfl, rfl, rfl, rfl, rfl, trivial⟩
            ·
              refine ops_nil ?_
              refine run_cond_f rfl ?_
              refine run_skip ?_
              refine run_seq ?_
              refine run_region ?_
              refine obuild (cs := []) (sz := 1) Try.underlying49 inf9 rfl rfl (by decide) rfl rfl (by simp [Value.cells]) rfl rfl rfl ?_
              intro b6 w6 e6 hb6 hz6 O6
              have E := E.trans e6
              replace G_12 := G_12.ext e6
              replace O5 := O5.ext e6
              have G6 : Ow strc 1 9 w6 b6 (b6 + 1) (some ⟨b6, 0, none⟩) 0 0 ([] : List ByteArray) := Own.ow (by simpa using O6) rfl (by omega) (Nat.le_refl _) (by omega) (by intro x hx; rfl)
              refine ov (xfieldAddr fo54f2 rfl) rfl rfl rfl ?_
              refine ov (v := .slice (hd k).p (hd k).n (hd k).c) (xload1 Try.isAgg49 rfl (O5.cells) rfl) rfl rfl rfl ?_
              refine oapp (bytes := 16) (nm := (hd k).n) G6 rfl rfl elem9 ((show Sl strc 1 _ _ _ _ xs[k].Groups from (H.inner (i := k) (by omega)).ext E)) ((show Sl strc 1 _ _ _ _ xs[k].Groups from (H.inner (i := k) (by omega)).ext E)).nil (by intro y hy; rfl) (by intro y hy u hu; simp only [strc, List.mem_singleton] at hu; subst hu; rfl) (by omega) (by omega) (by omega) (by omega) rfl rfl ?_
              intro p7 c7_ w7 m7 G7
              have hz7 := m7.size
              have E := m7.toExt E (by omega)
              replace G_12 := G_12.off m7 (by omega)
              try replace O5 := m7.own O5 (by omega)
              refine ov (xfieldAddr fo54f2 rfl) rfl rfl rfl ?_
              refine ostore1 Try.sizeOf49 rfl rfl O5 (by simp) rfl rfl ?_
              intro w8 on8 O8
              have hz8 := on8.size
              have E := on8.ext E (by omega)
              replace G_12 := G_12.only on8 (by omega)
              replace G7 := G7.only on8 (by omega)
              replace O8 : Own w8 b4 [.string xs[k].Code, .int .i64 xs[k].Level, .slice p7 (hd k).n c7_, .int .i64 xs[k].Until] 54 := O8
              refine ops_nil ?_
              refine run_region ?_
              refine ov (xmove rfl) rfl rfl rfl ?_
              refine ov (v := .agg #[.string xs[k].Code, .int .i64 xs[k].Level, .slice p7 (hd k).n c7_, .int .i64 xs[k].Until]) (xloadN Try.isAgg54 Try.sizeOf54 rfl (O8.cells) rfl) rfl rfl rfl ?_
              refine obuild (cs := [.string xs[k].Code, .int .i64 xs[k].Level, .slice p7 (hd k).n c7_, .int .i64 xs[k].Until]) (sz := 4) Try.underlying32 inf54 rfl rfl (by decide) rfl rfl (by simp [Value.cells]) rfl rfl rfl ?_
              intro b9 w9 e9 hb9 hz9 O9
              have E := E.trans e9
              replace G_12 := G_12.ext e9
              replace G7 := G7.ext e9
              replace O8 := O8.ext e9
              refine oappN (bytes := 56) (nm := (m_12 + 1)) (z := ⟨xs[k], ⟨p7, (hd k).n, c7_⟩⟩) G_12 (by decide) rfl rfl elem54 (Own.sl1 (y := (⟨xs[k], ⟨p7, (hd k).n, c7_⟩⟩ : X _)) O9) (by intro h; cases h) rfl (by simp [xc, cellsFileS, Value.oneCell']) G7 (by omega) (by omega) (by omega) (by omega) (by omega) (by omega) (by omega) rfl  rfl rfl ?_
              intro p10 c10_ w10 m10 G10
              have hz10 := m10.size
              have E := m10.toExt E (by omega)
              replace G7 := G7.off m10 (by omega)
              try replace O8 := m10.own O8 (by omega)
              try replace O9 := m10.own O9 (by omega)
              refine ov (xassign rfl) rfl rfl rfl ?_
              refine ops_nil ?_
              refine run_inBlock ?_
              refine run_region ?_
              refine ov (xmove rfl) rfl rfl rfl ?_
              refine ov (xadd rfl rfl (by unfold I64; omega)) rfl rfl rfl ?_
              refine ov (xassign rfl) rfl rfl rfl ?_
              refine ops_nil ?_
              refine run_sub ?_ (hback11 (k + 1, p10, (m_12 + 1), c10_, ys_12 ++ [⟨xs[k], ⟨p7, (hd k).n, c7_⟩⟩], w10) (⟨E, G10.wide (by omega) (by omega), by omega, by omega, by omega, by omega, by rw [List.map_append]; exact (seal_step (by omega) hy).2 (by omega)⟩) (by first | omega | (dsimp only; omega)))
              exact ⟨rfl, rfl, rfl, rfl, rfl, rfl, trivial⟩
          ·
            refine ops_nil ?_
            refine run_cond_f rfl ?_
            refine run_exit rfl ?_
            refine run_seq ?_
            refine run_region ?_
            refine ov (xmove rfl) rfl rfl rfl ?_
            refine ov (xassign rfl) rfl rfl rfl ?_
            refine ov (xassign rfl) rfl rfl rfl ?_
            refine ops_nil ?_
            refine run_ret Try.func26 (res2 rfl rfl rfl) ?_
            obtain rfl : k = n := by omega
            have he : sealFile xs file level till = (sealL xs (fileOf xs file).toNat level till, 0) := by rcases hsc with ⟨h1, h2⟩ | ⟨h1, h2, h3⟩ | ⟨h1, h2, h3⟩ <;> unfold sealFile <;> (repeat' split) <;> first | rfl | (exfalso; omega) | (exfalso; simp_all; done)
            exact ⟨_, rfl, E, _, _, _, by rw [he], by rw [he]; exact ⟨ys_12, by rw [hy, List.take_of_length_le (by rw [sealL_length]; omega)], G_12.wide (by omega) (by omega)⟩⟩
    ·
      refine ov (xnot rfl) rfl rfl rfl ?_
      refine ov (xpick_t rfl rfl) rfl rfl rfl ?_
      refine ops_nil ?_
      refine run_cond_t rfl ?_
      refine run_region ?_
      refine ov (xassign rfl) rfl rfl rfl ?_
      refine ops_nil ?_
      refine run_seq ?_
      refine run_region ?_
      refine ov (xmove rfl) rfl rfl rfl ?_
      refine ov (xmove rfl) rfl rfl rfl ?_
      refine oc (xcall Try.call67 rfl) rfl rfl rfl (l24File_ok _ _ _ _ (file) _ (H.ext E).sn) ?_
      rintro _ w2 ⟨rfl, e2⟩
      have z2 := e2.size
      have E := E.trans e2
      refine ov (xassign rfl) rfl rfl rfl ?_
      refine ops_nil ?_
      refine run_seq ?_
      refine run_seq ?_
      refine run_region ?_
      refine ov (xmove rfl) rfl rfl rfl ?_
      refine ov (xeql rfl rfl _ rfl) rfl rfl rfl ?_
      refine ods (fun c29 => ?_) (fun c29 => ?_)
      · exfalso; omega
      ·
        refine ov (xmove rfl) rfl rfl rfl ?_
        refine og rfl rfl rfl ?_
        refine og rfl rfl rfl ?_
        refine ov (xpick_f rfl rfl) rfl rfl rfl ?_
        refine ops_nil ?_
        refine run_cond_f rfl ?_
        refine run_skip ?_
        refine run_seq ?_
        refine run_seq ?_
        refine run_region ?_
        refine ov (xmove rfl) rfl rfl rfl ?_
        refine ov (xneq rfl rfl _ rfl) rfl rfl rfl ?_
        refine ods (fun c35 => ?_) (fun c35 => ?_)
        ·
          refine ops_nil ?_
          refine run_cond_t rfl ?_
          refine run_seq ?_
          refine run_region ?_
          refine ov (xmove rfl) rfl rfl rfl ?_
          refine ov (xassign rfl) rfl rfl rfl ?_
          refine ov (xassign rfl) rfl rfl rfl ?_
          refine ops_nil ?_
          refine run_ret Try.func26 (res2 rfl rfl rfl) ?_
          have he : sealFile xs file level till = ([], 2) := by rcases hsc with ⟨h1, h2⟩ | ⟨h1, h2, h3⟩ | ⟨h1, h2, h3⟩ <;> unfold sealFile <;> (repeat' split) <;> first | rfl | (exfalso; omega) | (exfalso; simp_all; done) | (rw [h2]; done) | (rw [h3]; done)
          exact ⟨_, rfl, E, none, 0, 0, by rw [he], by rw [he]; exact On.none _ _ _ _ _ _ _ _ _ _⟩
        · exfalso; omega
  ·
    refine ov (xmove rfl) rfl rfl rfl ?_
    refine og rfl rfl rfl ?_
    refine og rfl rfl rfl ?_
    refine og rfl rfl rfl ?_
    refine ov (xpick_f rfl rfl) rfl rfl rfl ?_
    refine ops_nil ?_
    refine run_cond_f rfl ?_
    refine run_skip ?_
    refine run_seq ?_
    refine run_region ?_
    refine ov (xmove rfl) rfl rfl rfl ?_
    refine ov (xmove rfl) rfl rfl rfl ?_
    refine oc (xcall Try.call67 rfl) rfl rfl rfl (l24File_ok _ _ _ _ (file) _ (H.ext E).sn) ?_
    rintro _ w2 ⟨rfl, e2⟩
    have z2 := e2.size
    have E := E.trans e2
    refine ov (xassign rfl) rfl rfl rfl ?_
    refine ops_nil ?_
    refine run_seq ?_
    refine run_seq ?_
    refine run_region ?_
    refine ov (xmove rfl) rfl rfl rfl ?_
    refine ov (xeql rfl rfl _ rfl) rfl rfl rfl ?_
    refine ods (fun c29 => ?_) (fun c29 => ?_)
    ·
      refine ov (xmove rfl) rfl rfl rfl ?_
      refine ov (xmove rfl) rfl rfl rfl ?_
      refine ov (xlss rfl rfl _ rfl) rfl rfl rfl ?_
      refine ods (fun c32 => ?_) (fun c32 => ?_)
      ·
        refine ov (xpick_t rfl rfl) rfl rfl rfl ?_
        refine ops_nil ?_
        refine run_cond_t rfl ?_
        refine run_region ?_
        refine ov (xassign rfl) rfl rfl rfl ?_
        refine ops_nil ?_
        refine run_seq ?_
        refine run_seq ?_
        refine run_region ?_
        refine ov (xmove rfl) rfl rfl rfl ?_
        refine ov (xneq rfl rfl _ rfl) rfl rfl rfl ?_
        refine ods (fun c35 => ?_) (fun c35 => ?_)
        ·
          refine ops_nil ?_
          refine run_cond_t rfl ?_
          refine run_seq ?_
          refine run_region ?_
          refine ov (xmove rfl) rfl rfl rfl ?_
          refine ov (xassign rfl) rfl rfl rfl ?_
          refine ov (xassign rfl) rfl rfl rfl ?_
          refine ops_nil ?_
          refine run_ret Try.func26 (res2 rfl rfl rfl) ?_
          have he : sealFile xs file level till = ([], 4) := by rcases hsc with ⟨h1, h2⟩ | ⟨h1, h2, h3⟩ | ⟨h1, h2, h3⟩ <;> unfold sealFile <;> (repeat' split) <;> first | rfl | (exfalso; omega) | (exfalso; simp_all; done) | (rw [h2]; done) | (rw [h3]; done)
          exact ⟨_, rfl, E, none, 0, 0, by rw [he], by rw [he]; exact On.none _ _ _ _ _ _ _ _ _ _⟩
        · exfalso; omega
      ·
        refine ov (xpick_t rfl rfl) rfl rfl rfl ?_
        refine ops_nil ?_
        refine run_cond_f rfl ?_
        refine run_skip ?_
        refine run_seq ?_
        refine run_seq ?_
        refine run_region ?_
        refine ov (xmove rfl) rfl rfl rfl ?_
        refine ov (xneq rfl rfl _ rfl) rfl rfl rfl ?_
        refine ods (fun c35 => ?_) (fun c35 => ?_)
        ·
          refine ops_nil ?_
          refine run_cond_t rfl ?_
          refine run_seq ?_
          refine run_region ?_
          refine ov (xmove rfl) rfl rfl rfl ?_
          refine ov (xassign rfl) rfl rfl rfl ?_
          refine ov (xassign rfl) rfl rfl rfl ?_
          refine ops_nil ?_
          refine run_ret Try.func26 (res2 rfl rfl rfl) ?_
          have he : sealFile xs file level till = ([], (sealCode [] xs till)) := by rcases hsc with ⟨h1, h2⟩ | ⟨h1, h2, h3⟩ | ⟨h1, h2, h3⟩ <;> unfold sealFile <;> (repeat' split) <;> first | rfl | (exfalso; omega) | (exfalso; simp_all; done) | (rw [h2]; done) | (rw [h3]; done)
          exact ⟨_, rfl, E, none, 0, 0, by rw [he], by rw [he]; exact On.none _ _ _ _ _ _ _ _ _ _⟩
        ·
          refine ops_nil ?_
          refine run_cond_f rfl ?_
          refine run_skip ?_
          refine run_seq ?_
          refine run_region ?_
          have haf : areFiles xs = true := by rcases hsc with ⟨h1, h2⟩ | ⟨h1, h2, h3⟩ | ⟨h1, h2, h3⟩ <;> first | exact h1 | omega
          have hln := areFiles_len haf
          refine obuild (cs := []) (sz := 4) Try.underlying32 inf54 rfl rfl (by decide) rfl rfl (by simp [Value.cells]) rfl rfl rfl ?_
          intro b3 w3 e3 hb3 hz3 O3
          have E := E.trans e3
          have G3 : NOw cellsFileS 4 54 innFileS strc 1 9 w3 b3 (b3 + 1) (some ⟨b3, 0, none⟩) 0 0 [] := ⟨Own.ow (by simpa using O3) rfl (by omega) (Nat.le_refl _) (by omega) (by intro x hx; cases hx), Inn.nil⟩
          refine ov (xassign rfl) rfl rfl rfl ?_
          refine ops_nil ?_
          refine run_seq ?_
          refine run_seq ?_
          refine run_region ?_
          refine ov (xassign rfl) rfl rfl rfl ?_
          refine ops_nil ?_
          refine run_block ?_
          refine run_loop (ι := Nat × Option Addr × Nat × Nat × List (X (File)) × World) (fun x_ => match x_ with | (k, q_12, m_12, c_12, ys_12, wr) => (Ext w wr) ∧ (NOw cellsFileS 4 54 innFileS strc 1 9 wr b3 wr.heap.size q_12 m_12 c_12 ys_12) ∧ (b3 ≤ wr.heap.size) ∧ (w3.heap.size ≤ wr.heap.size) ∧ (k ≤ n) ∧ (m_12 = k) ∧ (ys_12.map X.v = (sealL xs (fileOf xs file).toNat level till).take k)) (fun x_ => match x_ with | (k, q_12, m_12, c_12, ys_12, wr) => [(0, .slice p n c), (2, .int .i64 level), (3, .int .i64 till), (11, .int .i64 (fileOf xs file)), (12, .slice q_12 m_12 c_12), (13, .int .i64 (k : Int))]) (fun x_ => match x_ with | (k, q_12, m_12, c_12, ys_12, wr) => wr) (fun x_ => match x_ with | (k, q_12, m_12, c_12, ys_12, wr) => n - k) ?_ (0, (some ⟨b3, 0, none⟩), 0, 0, [], w3) (⟨E, G3.wide (by omega) (by omega), by omega, Nat.le_refl _, by omega, rfl, rfl⟩) ⟨rfl, rfl, rfl, rfl, rfl, rfl, trivial⟩ rfl
          intro i_ hI_ hback11
          obtain ⟨k, q_12, m_12, c_12, ys_12, wr⟩ := i_
          obtain ⟨E, G_12, lo_12, lz_wr, hk, hm, hy⟩ := hI_
          try dsimp only
          have zr := E.size
          have lg_12 := G_12.o.len
          refine run_seq ?_
          refine run_seq ?_
          refine run_region ?_
          refine ov (xmove rfl) rfl rfl rfl ?_
          refine ov (xmove rfl) rfl rfl rfl ?_
          refine ov (xlen Try.underlying32 rfl) rfl rfl rfl ?_
          refine ov (xlss rfl rfl _ rfl) rfl rfl rfl ?_
          refine ods (fun c41 => ?_) (fun c41 => ?_)
          ·
            have hgk := areFiles_tot haf xs[k] (List.getElem_mem (by omega))
            have hgi := (H.inner (i := k) (by omega)).len
            simp only [innFileS] at hgi
            refine ops_nil ?_
            refine run_cond_t rfl ?_
            refine run_skip ?_
            refine run_seq ?_
            refine run_block ?_
            refine run_seq ?_
            refine run_region ?_
            refine ov (xmove rfl) rfl rfl rfl ?_
            refine ov (xmove rfl) rfl rfl rfl ?_
            have h46 := (H.ext E).at (i := k) (by omega)
            refine ov (xindexN (i := k) Try.underlying32 Try.sizeOf54 rfl rfl rfl ((H.ext E).p (i := k) (by omega)) (by have := (H.ext E).len; omega)) rfl rfl rfl ?_
            refine ov (v := .agg #[.string xs[k].Code, .int .i64 xs[k].Level, .slice (hd k).p (hd k).n (hd k).c, .int .i64 xs[k].Until]) (xloadN Try.isAgg54 Try.sizeOf54 rfl (h46) rfl) rfl rfl rfl ?_
            refine oalloc Try.zeroValue54 rfl rfl ?_
            intro b4 w4 e4 hb4 hz4 O4
            have E := E.trans e4
            replace G_12 := G_12.ext e4
            replace O4 : Own w4 b4 [.string ⟨#[]⟩, .int .i64 0, .slice none 0 0, .int .i64 0] 54 := O4
            refine ostoreN (vs := _) Try.sizeOf54 rfl rfl O4 rfl (by simp) (by simp [Value.oneCell']) rfl ?_
            intro w5 on5 O5
            have hz5 := on5.size
            have E := on5.ext E (by omega)
            replace G_12 := G_12.only on5 (by omega)
            replace O5 : Own w5 b4 [.string xs[k].Code, .int .i64 xs[k].Level, .slice (hd k).p (hd k).n (hd k).c, .int .i64 xs[k].Until] 54 := O5
            refine ops_nil ?_
            refine run_seq ?_
            refine run_seq ?_
            refine run_region ?_
            refine ov (xmove rfl) rfl rfl rfl ?_
            refine ov (xmove rfl) rfl rfl rfl ?_
            refine ov (xeql rfl rfl _ rfl) rfl rfl rfl ?_
            refine ods (fun c50 => ?_) (fun c50 => ?_)
            ·
              refine ops_nil ?_
              refine run_cond_t rfl ?_
              refine run_seq ?_
              refine run_region ?_
              refine ov (xfieldAddr fo54f1 rfl) rfl rfl rfl ?_
              refine ov (v := .int .i64 xs[k].Level) (xload1 Try.isAgg2 rfl (O5.cells) rfl) rfl rfl rfl ?_
              refine ov (xmove rfl) rfl rfl rfl ?_
              refine ov (xmax rfl rfl) rfl rfl rfl ?_
              refine ov (xfieldAddr fo54f1 rfl) rfl rfl rfl ?_
              refine ostore1 Try.sizeOf2 rfl rfl O5 (by simp) rfl rfl ?_
              intro w6 on6 O6
              have hz6 := on6.size
              have E := on6.ext E (by omega)
              replace G_12 := G_12.only on6 (by omega)
              replace O6 : Own w6 b4 [.string xs[k].Code, .int .i64 (max xs[k].Level level), .slice (hd k).p (hd k).n (hd k).c, .int .i64 xs[k].Until] 54 := O6
              refine ops_nil ?_
              refine run_region ?_
              refine ov (xfieldAddr fo54f3 rfl) rfl rfl rfl ?_
              refine ov (v := .int .i64 xs[k].Until) (xload1 Try.isAgg2 rfl (O6.cells) rfl) rfl rfl rfl ?_
              refine ov (xmove rfl) rfl rfl rfl ?_
              refine ov (xmax rfl rfl) rfl rfl rfl ?_
              refine ov (xfieldAddr fo54f3 rfl) rfl rfl rfl ?_
              refine ostore1 Try.sizeOf2 rfl rfl O6 (by simp) rfl rfl ?_
              intro w7 on7 O7
              have hz7 := on7.size
              have E := on7.ext E (by omega)
              replace G_12 := G_12.only on7 (by omega)
              replace O7 : Own w7 b4 [.string xs[k].Code, .int .i64 (max xs[k].Level level), .slice (hd k).p (hd k).n (hd k).c, .int .i64 (max xs[k].Until till)] 54 := O7
              refine ops_nil ?_
              refine run_seq ?_
              refine run_region ?_
              refine obuild (cs := []) (sz := 1) Try.underlying49 inf9 rfl rfl (by decide) rfl rfl (by simp [Value.cells]) rfl rfl rfl ?_
              intro b8 w8 e8 hb8 hz8 O8
              have E := E.trans e8
              replace G_12 := G_12.ext e8
              replace O7 := O7.ext e8
              have G8 : Ow strc 1 9 w8 b8 (b8 + 1) (some ⟨b8, 0, none⟩) 0 0 ([] : List ByteArray) := Own.ow (by simpa using O8) rfl (by omega) (Nat.le_refl _) (by omega) (by intro x hx; rfl)
              refine ov (xfieldAddr fo54f2 rfl) rfl rfl rfl ?_
              refine ov (v := .slice (hd k).p (hd k).n (hd k).c) (xload1 Try.isAgg49 rfl (O7.cells) rfl) rfl rfl rfl ?_
              refine oapp (bytes := 16) (nm := (hd k).n) G8 rfl rfl elem9 ((show Sl strc 1 _ _ _ _ xs[k].Groups from (H.inner (i := k) (by omega)).ext E)) ((show Sl strc 1 _ _ _ _ xs[k].Groups from (H.inner (i := k) (by omega)).ext E)).nil (by intro y hy; rfl) (by intro y hy u hu; simp only [strc, List.mem_singleton] at hu; subst hu; rfl) (by omega) (by omega) (by omega) (by omega) rfl rfl ?_
              intro p9 c9_ w9 m9 G9
              have hz9 := m9.size
              have E := m9.toExt E (by omega)
              replace G_12 := G_12.off m9 (by omega)
              try replace O7 := m9.own O7 (by omega)
              refine ov (xfieldAddr fo54f2 rfl) rfl rfl rfl ?_
              refine ostore1 Try.sizeOf49 rfl rfl O7 (by simp) rfl rfl ?_
              intro w10 on10 O10
              have hz10 := on10.size
              have E := on10.ext E (by omega)
              replace G_12 := G_12.only on10 (by omega)
              replace G9 := G9.only on10 (by omega)
              replace O10 : Own w10 b4 [.string xs[k].Code, .int .i64 (max xs[k].Level level), .slice p9 (hd k).n c9_, .int .i64 (max xs[k].Until till)] 54 := O10
              refine ops_nil ?_
              refine run_region ?_
              refine ov (xmove rfl) rfl rfl rfl ?_
              refine ov (v := .agg #[.string xs[k].Code, .int .i64 (max xs[k].Level level), .slice p9 (hd k).n c9_, .int .i64 (max xs[k].Until till)]) (xloadN Try.isAgg54 Try.sizeOf54 rfl (O10.cells) rfl) rfl rfl rfl ?_
              refine obuild (cs := [.string xs[k].Code, .int .i64 (max xs[k].Level level), .slice p9 (hd k).n c9_, .int .i64 (max xs[k].Until till)]) (sz := 4) Try.underlying32 inf54 rfl rfl (by decide) rfl rfl (by simp [Value.cells]) rfl rfl rfl ?_
              intro b11 w11 e11 hb11 hz11 O11
              have E := E.trans e11
              replace G_12 := G_12.ext e11
              replace G9 := G9.ext e11
              replace O10 := O10.ext e11
              refine oappN (bytes := 56) (nm := (m_12 + 1)) (z := ⟨sealF xs[k] level till, ⟨p9, (hd k).n, c9_⟩⟩) G_12 (by decide) rfl rfl elem54 (Own.sl1 (y := (⟨sealF xs[k] level till, ⟨p9, (hd k).n, c9_⟩⟩ : X _)) O11) (by intro h; cases h) rfl (by simp [xc, cellsFileS, Value.oneCell']) G9 (by omega) (by omega) (by omega) (by omega) (by omega) (by omega) (by omega) rfl  rfl rfl ?_
              intro p12 c12_ w12 m12 G12
              have hz12 := m12.size
              have E := m12.toExt E (by omega)
              replace G9 := G9.off m12 (by omega)
              try replace O10 := m12.own O10 (by omega)
              try replace O11 := m12.own O11 (by omega)
              refine ov (xassign rfl) rfl rfl rfl ?_
              refine ops_nil ?_
              refine run_inBlock ?_
              refine run_region ?_
              refine ov (xmove rfl) rfl rfl rfl ?_
              refine ov (xadd rfl rfl (by unfold I64; omega)) rfl rfl rfl ?_
              refine ov (xassign rfl) rfl rfl rfl ?_
              refine ops_nil ?_
              refine run_sub ?_ (hback11 (k + 1, p12, (m_12 + 1), c12_, ys_12 ++ [⟨sealF xs[k] level till, ⟨p9, (hd k).n, c9_⟩⟩], w12) (⟨E, G12.wide (by omega) (by omega), by omega, by omega, by omega, by omega, by rw [List.map_append]; exact (seal_step (by omega) hy).1 (by omega)⟩) (by first | omega | (dsimp only; omega)))
              exact ⟨rfl, rfl, rfl, rfl, rfl, rfl, trivial⟩
            ·
              refine ops_nil ?_
              refine run_cond_f rfl ?_
              refine run_skip ?_
              refine run_seq ?_
              refine run_region ?_
              refine obuild (cs := []) (sz := 1) Try.underlying49 inf9 rfl rfl (by decide) rfl rfl (by simp [Value.cells]) rfl rfl rfl ?_
              intro b6 w6 e6 hb6 hz6 O6
              have E := E.trans e6
              replace G_12 := G_12.ext e6
              replace O5 := O5.ext e6
              have G6 : Ow strc 1 9 w6 b6 (b6 + 1) (some ⟨b6, 0, none⟩) 0 0 ([] : List ByteArray) := Own.ow (by simpa using O6) rfl (by omega) (Nat.le_refl _) (by omega) (by intro x hx; rfl)
              refine ov (xfieldAddr fo54f2 rfl) rfl rfl rfl ?_
              refine ov (v := .slice (hd k).p (hd k).n (hd k).c) (xload1 Try.isAgg49 rfl (O5.cells) rfl) rfl rfl rfl ?_
              refine oapp (bytes := 16) (nm := (hd k).n) G6 rfl rfl elem9 ((show Sl strc 1 _ _ _ _ xs[k].Groups from (H.inner (i := k) (by omega)).ext E)) ((show Sl strc 1 _ _ _ _ xs[k].Groups from (H.inner (i := k) (by omega)).ext E)).nil (by intro y hy; rfl) (by intro y hy u hu; simp only [strc, List.mem_singleton] at hu; subst hu; rfl) (by omega) (by omega) (by omega) (by omega) rfl rfl ?_
              intro p7 c7_ w7 m7 G7
              have hz7 := m7.size
              have E := m7.toExt E (by omega)
              replace G_12 := G_12.off m7 (by omega)
              try replace O5 := m7.own O5 (by omega)
              refine ov (xfieldAddr fo54f2 rfl) rfl rfl rfl ?_
              refine ostore1 Try.sizeOf49 rfl rfl O5 (by simp) rfl rfl ?_
              intro w8 on8 O8
              have hz8 := on8.size
              have E := on8.ext E (by omega)
              replace G_12 := G_12.only on8 (by omega)
              replace G7 := G7.only on8 (by omega)
              replace O8 : Own w8 b4 [.string xs[k].Code, .int .i64 xs[k].Level, .slice p7 (hd k).n c7_, .int .i64 xs[k].Until] 54 := O8
              refine ops_nil ?_
              refine run_region ?_
              refine ov (xmove rfl) rfl rfl rfl ?_
              refine ov (v := .agg #[.string xs[k].Code, .int .i64 xs[k].Level, .slice p7 (hd k).n c7_, .int .i64 xs[k].Until]) (xloadN Try.isAgg54 Try.sizeOf54 rfl (O8.cells) rfl) rfl rfl rfl ?_
              refine obuild (cs := [.string xs[k].Code, .int .i64 xs[k].Level, .slice p7 (hd k).n c7_, .int .i64 xs[k].Until]) (sz := 4) Try.underlying32 inf54 rfl rfl (by decide) rfl rfl (by simp [Value.cells]) rfl rfl rfl ?_
              intro b9 w9 e9 hb9 hz9 O9
              have E := E.trans e9
              replace G_12 := G_12.ext e9
              replace G7 := G7.ext e9
              replace O8 := O8.ext e9
              refine oappN (bytes := 56) (nm := (m_12 + 1)) (z := ⟨xs[k], ⟨p7, (hd k).n, c7_⟩⟩) G_12 (by decide) rfl rfl elem54 (Own.sl1 (y := (⟨xs[k], ⟨p7, (hd k).n, c7_⟩⟩ : X _)) O9) (by intro h; cases h) rfl (by simp [xc, cellsFileS, Value.oneCell']) G7 (by omega) (by omega) (by omega) (by omega) (by omega) (by omega) (by omega) rfl  rfl rfl ?_
              intro p10 c10_ w10 m10 G10
              have hz10 := m10.size
              have E := m10.toExt E (by omega)
              replace G7 := G7.off m10 (by omega)
              try replace O8 := m10.own O8 (by omega)
              try replace O9 := m10.own O9 (by omega)
              refine ov (xassign rfl) rfl rfl rfl ?_
              refine ops_nil ?_
              refine run_inBlock ?_
              refine run_region ?_
              refine ov (xmove rfl) rfl rfl rfl ?_
              refine ov (xadd rfl rfl (by unfold I64; omega)) rfl rfl rfl ?_
              refine ov (xassign rfl) rfl rfl rfl ?_
              refine ops_nil ?_
              refine run_sub ?_ (hback11 (k + 1, p10, (m_12 + 1), c10_, ys_12 ++ [⟨xs[k], ⟨p7, (hd k).n, c7_⟩⟩], w10) (⟨E, G10.wide (by omega) (by omega), by omega, by omega, by omega, by omega, by rw [List.map_append]; exact (seal_step (by omega) hy).2 (by omega)⟩) (by first | omega | (dsimp only; omega)))
              exact ⟨rfl, rfl, rfl, rfl, rfl, rfl, trivial⟩
          ·
            refine ops_nil ?_
            refine run_cond_f rfl ?_
            refine run_exit rfl ?_
            refine run_seq ?_
            refine run_region ?_
            refine ov (xmove rfl) rfl rfl rfl ?_
            refine ov (xassign rfl) rfl rfl rfl ?_
            refine ov (xassign rfl) rfl rfl rfl ?_
            refine ops_nil ?_
            refine run_ret Try.func26 (res2 rfl rfl rfl) ?_
            obtain rfl : k = n := by omega
            have he : sealFile xs file level till = (sealL xs (fileOf xs file).toNat level till, 0) := by rcases hsc with ⟨h1, h2⟩ | ⟨h1, h2, h3⟩ | ⟨h1, h2, h3⟩ <;> unfold sealFile <;> (repeat' split) <;> first | rfl | (exfalso; omega) | (exfalso; simp_all; done)
            exact ⟨_, rfl, E, _, _, _, by rw [he], by rw [he]; exact ⟨ys_12, by rw [hy, List.take_of_length_le (by rw [sealL_length]; omega)], G_12.wide (by omega) (by omega)⟩⟩
    ·
      refine ov (xmove rfl) rfl rfl rfl ?_
      refine og rfl rfl rfl ?_
      refine og rfl rfl rfl ?_
      refine ov (xpick_f rfl rfl) rfl rfl rfl ?_
      refine ops_nil ?_
      refine run_cond_f rfl ?_
      refine run_skip ?_
      refine run_seq ?_
      refine run_seq ?_
      refine run_region ?_
      refine ov (xmove rfl) rfl rfl rfl ?_
      refine ov (xneq rfl rfl _ rfl) rfl rfl rfl ?_
      refine ods (fun c35 => ?_) (fun c35 => ?_)
      ·
        refine ops_nil ?_
        refine run_cond_t rfl ?_
        refine run_seq ?_
        refine run_region ?_
        refine ov (xmove rfl) rfl rfl rfl ?_
        refine ov (xassign rfl) rfl rfl rfl ?_
        refine ov (xassign rfl) rfl rfl rfl ?_
        refine ops_nil ?_
        refine run_ret Try.func26 (res2 rfl rfl rfl) ?_
        have he : sealFile xs file level till = ([], (sealCode [] xs till)) := by rcases hsc with ⟨h1, h2⟩ | ⟨h1, h2, h3⟩ | ⟨h1, h2, h3⟩ <;> unfold sealFile <;> (repeat' split) <;> first | rfl | (exfalso; omega) | (exfalso; simp_all; done) | (rw [h2]; done) | (rw [h3]; done)
        exact ⟨_, rfl, E, none, 0, 0, by rw [he], by rw [he]; exact On.none _ _ _ _ _ _ _ _ _ _⟩
      ·
        refine ops_nil ?_
        refine run_cond_f rfl ?_
        refine run_skip ?_
        refine run_seq ?_
        refine run_region ?_
        have haf : areFiles xs = true := by rcases hsc with ⟨h1, h2⟩ | ⟨h1, h2, h3⟩ | ⟨h1, h2, h3⟩ <;> first | exact h1 | omega
        have hln := areFiles_len haf
        refine obuild (cs := []) (sz := 4) Try.underlying32 inf54 rfl rfl (by decide) rfl rfl (by simp [Value.cells]) rfl rfl rfl ?_
        intro b3 w3 e3 hb3 hz3 O3
        have E := E.trans e3
        have G3 : NOw cellsFileS 4 54 innFileS strc 1 9 w3 b3 (b3 + 1) (some ⟨b3, 0, none⟩) 0 0 [] := ⟨Own.ow (by simpa using O3) rfl (by omega) (Nat.le_refl _) (by omega) (by intro x hx; cases hx), Inn.nil⟩
        refine ov (xassign rfl) rfl rfl rfl ?_
        refine ops_nil ?_
        refine run_seq ?_
        refine run_seq ?_
        refine run_region ?_
        refine ov (xassign rfl) rfl rfl rfl ?_
        refine ops_nil ?_
        refine run_block ?_
        refine run_loop (ι := Nat × Option Addr × Nat × Nat × List (X (File)) × World) (fun x_ => match x_ with | (k, q_12, m_12, c_12, ys_12, wr) => (Ext w wr) ∧ (NOw cellsFileS 4 54 innFileS strc 1 9 wr b3 wr.heap.size q_12 m_12 c_12 ys_12) ∧ (b3 ≤ wr.heap.size) ∧ (w3.heap.size ≤ wr.heap.size) ∧ (k ≤ n) ∧ (m_12 = k) ∧ (ys_12.map X.v = (sealL xs (fileOf xs file).toNat level till).take k)) (fun x_ => match x_ with | (k, q_12, m_12, c_12, ys_12, wr) => [(0, .slice p n c), (2, .int .i64 level), (3, .int .i64 till), (11, .int .i64 (fileOf xs file)), (12, .slice q_12 m_12 c_12), (13, .int .i64 (k : Int))]) (fun x_ => match x_ with | (k, q_12, m_12, c_12, ys_12, wr) => wr) (fun x_ => match x_ with | (k, q_12, m_12, c_12, ys_12, wr) => n - k) ?_ (0, (some ⟨b3, 0, none⟩), 0, 0, [], w3) (⟨E, G3.wide (by omega) (by omega), by omega, Nat.le_refl _, by omega, rfl, rfl⟩) ⟨rfl, rfl, rfl, rfl, rfl, rfl, trivial⟩ rfl
        intro i_ hI_ hback11
        obtain ⟨k, q_12, m_12, c_12, ys_12, wr⟩ := i_
        obtain ⟨E, G_12, lo_12, lz_wr, hk, hm, hy⟩ := hI_
        try dsimp only
        have zr := E.size
        have lg_12 := G_12.o.len
        refine run_seq ?_
        refine run_seq ?_
        refine run_region ?_
        refine ov (xmove rfl) rfl rfl rfl ?_
        refine ov (xmove rfl) rfl rfl rfl ?_
        refine ov (xlen Try.underlying32 rfl) rfl rfl rfl ?_
        refine ov (xlss rfl rfl _ rfl) rfl rfl rfl ?_
        refine ods (fun c41 => ?_) (fun c41 => ?_)
        ·
          have hgk := areFiles_tot haf xs[k] (List.getElem_mem (by omega))
          have hgi := (H.inner (i := k) (by omega)).len
          simp only [innFileS] at hgi
          refine ops_nil ?_
          refine run_cond_t rfl ?_
          refine run_skip ?_
          refine run_seq ?_
          refine run_block ?_
          refine run_seq ?_
          refine run_region ?_
          refine ov (xmove rfl) rfl rfl rfl ?_
          refine ov (xmove rfl) rfl rfl rfl ?_
          have h46 := (H.ext E).at (i := k) (by omega)
          refine ov (xindexN (i := k) Try.underlying32 Try.sizeOf54 rfl rfl rfl ((H.ext E).p (i := k) (by omega)) (by have := (H.ext E).len; omega)) rfl rfl rfl ?_
          refine ov (v := .agg #[.string xs[k].Code, .int .i64 xs[k].Level, .slice (hd k).p (hd k).n (hd k).c, .int .i64 xs[k].Until]) (xloadN Try.isAgg54 Try.sizeOf54 rfl (h46) rfl) rfl rfl rfl ?_
          refine oalloc Try.zeroValue54 rfl rfl ?_
          intro b4 w4 e4 hb4 hz4 O4
          have E := E.trans e4
          replace G_12 := G_12.ext e4
          replace O4 : Own w4 b4 [.string ⟨#[]⟩, .int .i64 0, .slice none 0 0, .int .i64 0] 54 := O4
          refine ostoreN (vs := _) Try.sizeOf54 rfl rfl O4 rfl (by simp) (by simp [Value.oneCell']) rfl ?_
          intro w5 on5 O5
          have hz5 := on5.size
          have E := on5.ext E (by omega)
          replace G_12 := G_12.only on5 (by omega)
          replace O5 : Own w5 b4 [.string xs[k].Code, .int .i64 xs[k].Level, .slice (hd k).p (hd k).n (hd k).c, .int .i64 xs[k].Until] 54 := O5
          refine ops_nil ?_
          refine run_seq ?_
          refine run_seq ?_
          refine run_region ?_
          refine ov (xmove rfl) rfl rfl rfl ?_
          refine ov (xmove rfl) rfl rfl rfl ?_
          refine ov (xeql rfl rfl _ rfl) rfl rfl rfl ?_
          refine ods (fun c50 => ?_) (fun c50 => ?_)
          ·
            refine ops_nil ?_
            refine run_cond_t rfl ?_
            refine run_seq ?_
            refine run_region ?_
            refine ov (xfieldAddr fo54f1 rfl) rfl rfl rfl ?_
            refine ov (v := .int .i64 xs[k].Level) (xload1 Try.isAgg2 rfl (O5.cells) rfl) rfl rfl rfl ?_
            refine ov (xmove rfl) rfl rfl rfl ?_
            refine ov (xmax rfl rfl) rfl rfl rfl ?_
            refine ov (xfieldAddr fo54f1 rfl) rfl rfl rfl ?_
            refine ostore1 Try.sizeOf2 rfl rfl O5 (by simp) rfl rfl ?_
            intro w6 on6 O6
            have hz6 := on6.size
            have E := on6.ext E (by omega)
            replace G_12 := G_12.only on6 (by omega)
            replace O6 : Own w6 b4 [.string xs[k].Code, .int .i64 (max xs[k].Level level), .slice (hd k).p (hd k).n (hd k).c, .int .i64 xs[k].Until] 54 := O6
            refine ops_nil ?_
            refine run_region ?_
            refine ov (xfieldAddr fo54f3 rfl) rfl rfl rfl ?_
            refine ov (v := .int .i64 xs[k].Until) (xload1 Try.isAgg2 rfl (O6.cells) rfl) rfl rfl rfl ?_
            refine ov (xmove rfl) rfl rfl rfl ?_
            refine ov (xmax rfl rfl) rfl rfl rfl ?_
            refine ov (xfieldAddr fo54f3 rfl) rfl rfl rfl ?_
            refine ostore1 Try.sizeOf2 rfl rfl O6 (by simp) rfl rfl ?_
            intro w7 on7 O7
            have hz7 := on7.size
            have E := on7.ext E (by omega)
            replace G_12 := G_12.only on7 (by omega)
            replace O7 : Own w7 b4 [.string xs[k].Code, .int .i64 (max xs[k].Level level), .slice (hd k).p (hd k).n (hd k).c, .int .i64 (max xs[k].Until till)] 54 := O7
            refine ops_nil ?_
            refine run_seq ?_
            refine run_region ?_
            refine obuild (cs := []) (sz := 1) Try.underlying49 inf9 rfl rfl (by decide) rfl rfl (by simp [Value.cells]) rfl rfl rfl ?_
            intro b8 w8 e8 hb8 hz8 O8
            have E := E.trans e8
            replace G_12 := G_12.ext e8
            replace O7 := O7.ext e8
            have G8 : Ow strc 1 9 w8 b8 (b8 + 1) (some ⟨b8, 0, none⟩) 0 0 ([] : List ByteArray) := Own.ow (by simpa using O8) rfl (by omega) (Nat.le_refl _) (by omega) (by intro x hx; rfl)
            refine ov (xfieldAddr fo54f2 rfl) rfl rfl rfl ?_
            refine ov (v := .slice (hd k).p (hd k).n (hd k).c) (xload1 Try.isAgg49 rfl (O7.cells) rfl) rfl rfl rfl ?_
            refine oapp (bytes := 16) (nm := (hd k).n) G8 rfl rfl elem9 ((show Sl strc 1 _ _ _ _ xs[k].Groups from (H.inner (i := k) (by omega)).ext E)) ((show Sl strc 1 _ _ _ _ xs[k].Groups from (H.inner (i := k) (by omega)).ext E)).nil (by intro y hy; rfl) (by intro y hy u hu; simp only [strc, List.mem_singleton] at hu; subst hu; rfl) (by omega) (by omega) (by omega) (by omega) rfl rfl ?_
            intro p9 c9_ w9 m9 G9
            have hz9 := m9.size
            have E := m9.toExt E (by omega)
            replace G_12 := G_12.off m9 (by omega)
            try replace O7 := m9.own O7 (by omega)
            refine ov (xfieldAddr fo54f2 rfl) rfl rfl rfl ?_
            refine ostore1 Try.sizeOf49 rfl rfl O7 (by simp) rfl rfl ?_
            intro w10 on10 O10
            have hz10 := on10.size
            have E := on10.ext E (by omega)
            replace G_12 := G_12.only on10 (by omega)
            replace G9 := G9.only on10 (by omega)
            replace O10 : Own w10 b4 [.string xs[k].Code, .int .i64 (max xs[k].Level level), .slice p9 (hd k).n c9_, .int .i64 (max xs[k].Until till)] 54 := O10
            refine ops_nil ?_
            refine run_region ?_
            refine ov (xmove rfl) rfl rfl rfl ?_
            refine ov (v := .agg #[.string xs[k].Code, .int .i64 (max xs[k].Level level), .slice p9 (hd k).n c9_, .int .i64 (max xs[k].Until till)]) (xloadN Try.isAgg54 Try.sizeOf54 rfl (O10.cells) rfl) rfl rfl rfl ?_
            refine obuild (cs := [.string xs[k].Code, .int .i64 (max xs[k].Level level), .slice p9 (hd k).n c9_, .int .i64 (max xs[k].Until till)]) (sz := 4) Try.underlying32 inf54 rfl rfl (by decide) rfl rfl (by simp [Value.cells]) rfl rfl rfl ?_
            intro b11 w11 e11 hb11 hz11 O11
            have E := E.trans e11
            replace G_12 := G_12.ext e11
            replace G9 := G9.ext e11
            replace O10 := O10.ext e11
            refine oappN (bytes := 56) (nm := (m_12 + 1)) (z := ⟨sealF xs[k] level till, ⟨p9, (hd k).n, c9_⟩⟩) G_12 (by decide) rfl rfl elem54 (Own.sl1 (y := (⟨sealF xs[k] level till, ⟨p9, (hd k).n, c9_⟩⟩ : X _)) O11) (by intro h; cases h) rfl (by simp [xc, cellsFileS, Value.oneCell']) G9 (by omega) (by omega) (by omega) (by omega) (by omega) (by omega) (by omega) rfl  rfl rfl ?_
            intro p12 c12_ w12 m12 G12
            have hz12 := m12.size
            have E := m12.toExt E (by omega)
            replace G9 := G9.off m12 (by omega)
            try replace O10 := m12.own O10 (by omega)
            try replace O11 := m12.own O11 (by omega)
            refine ov (xassign rfl) rfl rfl rfl ?_
            refine ops_nil ?_
            refine run_inBlock ?_
            refine run_region ?_
            refine ov (xmove rfl) rfl rfl rfl ?_
            refine ov (xadd rfl rfl (by unfold I64; omega)) rfl rfl rfl ?_
            refine ov (xassign rfl) rfl rfl rfl ?_
            refine ops_nil ?_
            refine run_sub ?_ (hback11 (k + 1, p12, (m_12 + 1), c12_, ys_12 ++ [⟨sealF xs[k] level till, ⟨p9, (hd k).n, c9_⟩⟩], w12) (⟨E, G12.wide (by omega) (by omega), by omega, by omega, by omega, by omega, by rw [List.map_append]; exact (seal_step (by omega) hy).1 (by omega)⟩) (by first | omega | (dsimp only; omega)))
            exact ⟨rfl, rfl, rfl, rfl, rfl, rfl, trivial⟩
          ·
            refine ops_nil ?_
            refine run_cond_f rfl ?_
            refine run_skip ?_
            refine run_seq ?_
            refine run_region ?_
            refine obuild (cs := []) (sz := 1) Try.underlying49 inf9 rfl rfl (by decide) rfl rfl (by simp [Value.cells]) rfl rfl rfl ?_
            intro b6 w6 e6 hb6 hz6 O6
            have E := E.trans e6
            replace G_12 := G_12.ext e6
            replace O5 := O5.ext e6
            have G6 : Ow strc 1 9 w6 b6 (b6 + 1) (some ⟨b6, 0, none⟩) 0 0 ([] : List ByteArray) := Own.ow (by simpa using O6) rfl (by omega) (Nat.le_refl _) (by omega) (by intro x hx; rfl)
            refine ov (xfieldAddr fo54f2 rfl) rfl rfl rfl ?_
            refine ov (v := .slice (hd k).p (hd k).n (hd k).c) (xload1 Try.isAgg49 rfl (O5.cells) rfl) rfl rfl rfl ?_
            refine oapp (bytes := 16) (nm := (hd k).n) G6 rfl rfl elem9 ((show Sl strc 1 _ _ _ _ xs[k].Groups from (H.inner (i := k) (by omega)).ext E)) ((show Sl strc 1 _ _ _ _ xs[k].Groups from (H.inner (i := k) (by omega)).ext E)).nil (by intro y hy; rfl) (by intro y hy u hu; simp only [strc, List.mem_singleton] at hu; subst hu; rfl) (by omega) (by omega) (by omega) (by omega) rfl rfl ?_
            intro p7 c7_ w7 m7 G7
            have hz7 := m7.size
            have E := m7.toExt E (by omega)
            replace G_12 := G_12.off m7 (by omega)
            try replace O5 := m7.own O5 (by omega)
            refine ov (xfieldAddr fo54f2 rfl) rfl rfl rfl ?_
            refine ostore1 Try.sizeOf49 rfl rfl O5 (by simp) rfl rfl ?_
            intro w8 on8 O8
            have hz8 := on8.size
            have E := on8.ext E (by omega)
            replace G_12 := G_12.only on8 (by omega)
            replace G7 := G7.only on8 (by omega)
            replace O8 : Own w8 b4 [.string xs[k].Code, .int .i64 xs[k].Level, .slice p7 (hd k).n c7_, .int .i64 xs[k].Until] 54 := O8
            refine ops_nil ?_
            refine run_region ?_
            refine ov (xmove rfl) rfl rfl rfl ?_
            refine ov (v := .agg #[.string xs[k].Code, .int .i64 xs[k].Level, .slice p7 (hd k).n c7_, .int .i64 xs[k].Until]) (xloadN Try.isAgg54 Try.sizeOf54 rfl (O8.cells) rfl) rfl rfl rfl ?_
            refine obuild (cs := [.string xs[k].Code, .int .i64 xs[k].Level, .slice p7 (hd k).n c7_, .int .i64 xs[k].Until]) (sz := 4) Try.underlying32 inf54 rfl rfl (by decide) rfl rfl (by simp [Value.cells]) rfl rfl rfl ?_
            intro b9 w9 e9 hb9 hz9 O9
            have E := E.trans e9
            replace G_12 := G_12.ext e9
            replace G7 := G7.ext e9
            replace O8 := O8.ext e9
            refine oappN (bytes := 56) (nm := (m_12 + 1)) (z := ⟨xs[k], ⟨p7, (hd k).n, c7_⟩⟩) G_12 (by decide) rfl rfl elem54 (Own.sl1 (y := (⟨xs[k], ⟨p7, (hd k).n, c7_⟩⟩ : X _)) O9) (by intro h; cases h) rfl (by simp [xc, cellsFileS, Value.oneCell']) G7 (by omega) (by omega) (by omega) (by omega) (by omega) (by omega) (by omega) rfl  rfl rfl ?_
            intro p10 c10_ w10 m10 G10
            have hz10 := m10.size
            have E := m10.toExt E (by omega)
            replace G7 := G7.off m10 (by omega)
            try replace O8 := m10.own O8 (by omega)
            try replace O9 := m10.own O9 (by omega)
            refine ov (xassign rfl) rfl rfl rfl ?_
            refine ops_nil ?_
            refine run_inBlock ?_
            refine run_region ?_
            refine ov (xmove rfl) rfl rfl rfl ?_
            refine ov (xadd rfl rfl (by unfold I64; omega)) rfl rfl rfl ?_
            refine ov (xassign rfl) rfl rfl rfl ?_
            refine ops_nil ?_
            refine run_sub ?_ (hback11 (k + 1, p10, (m_12 + 1), c10_, ys_12 ++ [⟨xs[k], ⟨p7, (hd k).n, c7_⟩⟩], w10) (⟨E, G10.wide (by omega) (by omega), by omega, by omega, by omega, by omega, by rw [List.map_append]; exact (seal_step (by omega) hy).2 (by omega)⟩) (by first | omega | (dsimp only; omega)))
            exact ⟨rfl, rfl, rfl, rfl, rfl, rfl, trivial⟩
        ·
          refine ops_nil ?_
          refine run_cond_f rfl ?_
          refine run_exit rfl ?_
          refine run_seq ?_
          refine run_region ?_
          refine ov (xmove rfl) rfl rfl rfl ?_
          refine ov (xassign rfl) rfl rfl rfl ?_
          refine ov (xassign rfl) rfl rfl rfl ?_
          refine ops_nil ?_
          refine run_ret Try.func26 (res2 rfl rfl rfl) ?_
          obtain rfl : k = n := by omega
          have he : sealFile xs file level till = (sealL xs (fileOf xs file).toNat level till, 0) := by rcases hsc with ⟨h1, h2⟩ | ⟨h1, h2, h3⟩ | ⟨h1, h2, h3⟩ <;> unfold sealFile <;> (repeat' split) <;> first | rfl | (exfalso; omega) | (exfalso; simp_all; done)
          exact ⟨_, rfl, E, _, _, _, by rw [he], by rw [he]; exact ⟨ys_12, by rw [hy, List.take_of_length_le (by rw [sealL_length]; omega)], G_12.wide (by omega) (by omega)⟩⟩
end Go.Proofs.Ytbihpggbabmebaa

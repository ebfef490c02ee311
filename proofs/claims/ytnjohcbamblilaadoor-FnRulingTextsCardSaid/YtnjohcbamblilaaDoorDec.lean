/-
  Numbers in decimal, the words of rulings. No condition beyond those written in each theorem.
-/
import Derived.Test.YtnjohcbamblilaaDoorRulings
import Derived.Test.YtnjohcbamblilaaDoorRg2
import Derived.Ground.NamesProg
import Derived.Shelf.Lay
import Derived.Shelf.Strconv.Itoa4
import Derived.Lib.LaidTab
namespace Go.Proofs.YtnjohcbamblilaaDoor
open Go.RowKit Go.Shelf
set_option linter.unusedVariables false
set_option linter.unusedSimpArgs false
set_option linter.unusedSectionVars false
set_option maxRecDepth 4000

end Go.Proofs.YtnjohcbamblilaaDoor
namespace Go.Proofs
open Go.Shelf
def Tryd.lays173_ren : Go.Shelf.Ren := ⟨fun | 173 => 39 | 246 => 43 | 283 => 49 | 284 => 50 | 285 => 51 | 286 => 52 | 129 => 63 | 317 => 62 | 318 => 64 | 319 => 65 | 320 => 66 | 337 => 77 | 338 => 78 | n => n, fun | 2 => 2 | 3 => 3 | 9 => 9 | 4 => 4 | 171 => 69 | 0 => 0 | 53 => 70 | 37 => 34 | 5 => 5 | 173 => 73 | 212 => 88 | 51 => 89 | 20 => 20 | 213 => 90 | 46 => 82 | 232 => 109 | 233 => 110 | n => n, fun | 17 => 0 | 18 => 6 | 19 => 7 | n => n⟩
theorem Tryd.lays173 : Go.Proofs.LaysM.n173 Tryd.prog Tryd.lays173_ren := {
  mixed := by kernel_rfl
  f129 := Tryd.func63.trans (congrArg some (by kernel_rfl))
  f173 := Tryd.func39.trans (congrArg some (by kernel_rfl))
  f246 := Tryd.func43.trans (congrArg some (by kernel_rfl))
  f283 := Tryd.func49.trans (congrArg some (by kernel_rfl))
  f284 := Tryd.func50.trans (congrArg some (by kernel_rfl))
  f285 := Tryd.func51.trans (congrArg some (by kernel_rfl))
  f286 := Tryd.func52.trans (congrArg some (by kernel_rfl))
  f317 := Tryd.func62.trans (congrArg some (by kernel_rfl))
  f318 := Tryd.func64.trans (congrArg some (by kernel_rfl))
  f319 := Tryd.func65.trans (congrArg some (by kernel_rfl))
  f320 := Tryd.func66.trans (congrArg some (by kernel_rfl))
  f337 := Tryd.func77.trans (congrArg some (by kernel_rfl))
  f338 := Tryd.func78.trans (congrArg some (by kernel_rfl))
  t0 := Tryd.underlying0
  a0 := Tryd.isAgg0
  z0 := Tryd.sizeOf0
  v0 := Tryd.zeroValue0
  t2 := Tryd.underlying2
  a2 := Tryd.isAgg2
  z2 := Tryd.sizeOf2
  v2 := Tryd.zeroValue2
  t3 := Tryd.underlying3
  a3 := Tryd.isAgg3
  z3 := Tryd.sizeOf3
  v3 := Tryd.zeroValue3
  t4 := Tryd.underlying4
  a4 := Tryd.isAgg4
  z4 := Tryd.sizeOf4
  v4 := Tryd.zeroValue4
  t5 := Tryd.underlying5
  a5 := Tryd.isAgg5
  z5 := Tryd.sizeOf5
  v5 := Tryd.zeroValue5
  t9 := Tryd.underlying9
  a9 := Tryd.isAgg9
  z9 := Tryd.sizeOf9
  v9 := Tryd.zeroValue9
  t20 := Tryd.underlying20
  a20 := Tryd.isAgg20
  z20 := Tryd.sizeOf20
  v20 := Tryd.zeroValue20
  t37 := Tryd.underlying34
  a37 := Tryd.isAgg34
  z37 := Tryd.sizeOf34
  v37 := Tryd.zeroValue34
  t46 := Tryd.underlying82
  a46 := Tryd.isAgg82
  z46 := Tryd.sizeOf82
  v46 := Tryd.zeroValue82
  t51 := Tryd.underlying89
  a51 := Tryd.isAgg89
  z51 := Tryd.sizeOf89
  v51 := Tryd.zeroValue89
  t53 := Tryd.underlying70
  a53 := Tryd.isAgg70
  z53 := Tryd.sizeOf70
  v53 := Tryd.zeroValue70
  t171 := Tryd.underlying69
  a171 := Tryd.isAgg69
  z171 := Tryd.sizeOf69
  v171 := Tryd.zeroValue69
  t173 := Tryd.underlying73
  a173 := Tryd.isAgg73
  z173 := Tryd.sizeOf73
  v173 := Tryd.zeroValue73
  t212 := Tryd.underlying88
  a212 := Tryd.isAgg88
  z212 := Tryd.sizeOf88
  v212 := Tryd.zeroValue88
  t213 := Tryd.underlying90
  a213 := Tryd.isAgg90
  z213 := Tryd.sizeOf90
  t232 := Tryd.underlying109
  a232 := Tryd.isAgg109
  z232 := Tryd.sizeOf109
  v232 := Tryd.zeroValue109
  t233 := Tryd.underlying110
  a233 := Tryd.isAgg110
  z233 := Tryd.sizeOf110
  v233 := Tryd.zeroValue110
  g17 := by kernel_rfl
  g18 := by kernel_rfl
  g19 := by kernel_rfl
  i0 := by kernel_rfl
  i2 := by kernel_rfl
  i3 := by kernel_rfl
  i4 := by kernel_rfl
  i5 := by kernel_rfl
  i9 := by kernel_rfl
  i20 := by kernel_rfl
  i37 := by kernel_rfl
  i46 := by kernel_rfl
  i51 := by kernel_rfl
  i53 := by kernel_rfl
  i171 := by kernel_rfl
  i173 := by kernel_rfl
  i212 := by kernel_rfl
  i232 := by kernel_rfl
  i233 := by kernel_rfl
  m17 := by kernel_rfl
  m18 := by kernel_rfl
  m19 := by kernel_rfl }
end Go.Proofs
namespace Go.Proofs.YtnjohcbamblilaaDoor
open Go.Shelf Go.Sort

/-- u in decimal -/
def dec (u : Nat) : ByteArray := ⟨(Lib.decDigits u).toArray⟩
theorem ba_app (a b : List UInt8) : (⟨(a ++ b).toArray⟩ : ByteArray) = ⟨a.toArray⟩ ++ ⟨b.toArray⟩ := by
  apply ByteArray.ext
  rw [ByteArray.data_append]
  simp
theorem one_byte (n : Int) : oneByte n = ⟨[UInt8.ofNat n.toNat].toArray⟩ := rfl
theorem dec_small {n : Int} (h0 : 0 ≤ n) (h : n < 10) : dec n.toNat = oneByte (48 + n) := by
  rw [dec, Lib.decDigits, dif_pos (by omega), one_byte, show (48 + n).toNat = 48 + n.toNat from by omega]
theorem dec_big {n : Int} (h : 10 ≤ n) : dec n.toNat = dec (n / 10).toNat ++ oneByte (48 + n % 10) := by
  rw [dec, Lib.decDigits, dif_neg (by omega), ba_app, one_byte, dec, show (n / 10).toNat = n.toNat / 10 from by omega, show (48 + n % 10).toNat = 48 + n.toNat % 10 from by omega]
theorem dec_len : ∀ (k u : Nat), 0 < k → u < 10 ^ k → (Lib.decDigits u).length ≤ k
  | 0, u, h, _ => absurd h (Nat.lt_irrefl 0)
  | k + 1, u, _, hu => by
    rw [Lib.decDigits]
    split
    · simp
    · rename_i h10
      cases k with
      | zero => simp at hu; omega
      | succ k =>
        have := dec_len (k + 1) (u / 10) (Nat.succ_pos _) (by rw [Nat.div_lt_iff_lt_mul (by decide)]; rw [Nat.pow_succ] at hu; exact hu)
        rw [List.length_append]; simp; omega
theorem dec_size (u : Nat) (h : u ≤ 9223372036854775807) : (dec u).size ≤ 19 := by
  have := dec_len 19 u (by decide) (by omega)
  show (Lib.decDigits u).toArray.size ≤ 19
  simpa using this
/-- the table of the powers of ten lies as it was laid -/
def Tab (w : World) : Prop := Lib.TabIs Tryd.prog w "internal/strconv.uint64pow10" .u64 Lib.pow10Tab
theorem Tab.ext {w w' : World} (h : Tab w) (x : Ext w w') : Tab w' := by
  unfold Tab Lib.TabIs World.var? at *
  obtain ⟨g, hg, h2⟩ := Option.bind_eq_some_iff.1 h
  rw [hg]
  simp only [Option.bind_some] at h2 ⊢
  have hlt : g < w.heap.size := by
    rcases Nat.lt_or_ge g w.heap.size with hl | hl
    · exact hl
    · rw [Array.getElem?_eq_none hl] at h2; cases h2
  rw [x.block g hlt]; exact h2
theorem ext_grow (w : World) (k : Nat) (os : Array Obj) : Ext w (grow (w.drewN k) os) :=
  ⟨rfl, rfl, rfl, by show w.heap.size ≤ (w.heap ++ os).size; rw [Array.size_append]; omega, fun b hb => by show (w.heap ++ os)[b]? = _; rw [Array.getElem?_append_left hb]⟩
theorem FormatInt_ok (n : Int) (w : World) (h0 : 0 ≤ n) (h1 : n ≤ 9223372036854775807) (hT : Tab w) :
    Ret Tryd.prog 39 [.int .i64 n, .int .i64 10] w (Pv w (.string (dec n.toNat))) := by
  have h := Any.strconv_FormatInt_10 Tryd.lays173 n (by omega) h1 w hT
  refine Calls.mono h fun e w' he => ⟨_, he.1, ?_, ?_⟩
  · rw [Lib.itoa, if_neg (by omega)]; rfl
  · obtain ⟨k, os, rfl⟩ := he.2
    exact ext_grow w k os
/-- one of four -/
def pick4 {α : Type} (j : Nat) (a b c d : α) : α := if j = 0 then a else if j = 1 then b else if j = 2 then c else d
/-- the word of a kind -/
def kword (n : Int) : ByteArray := pick4 n.toNat ⟨#[97, 100, 109, 105, 116]⟩ ⟨#[114, 101, 102, 117, 115, 101]⟩ ⟨#[114, 101, 115, 101, 114, 118, 101]⟩ ⟨#[119, 105, 116, 104, 100, 114, 97, 119]⟩
theorem kword_size (n : Int) : (kword n).size ≤ 8 := by
  unfold kword pick4; (repeat' split) <;> decide
theorem kword_at {n : Int} (h0 : 0 ≤ n) (h1 : n ≤ 3) : ([⟨#[97, 100, 109, 105, 116]⟩, ⟨#[114, 101, 102, 117, 115, 101]⟩, ⟨#[114, 101, 115, 101, 114, 118, 101]⟩, ⟨#[119, 105, 116, 104, 100, 114, 97, 119]⟩] : List ByteArray)[n.toNat]'(by show n.toNat < 4; omega) = kword n := by
  rcases (by omega : n = 0 ∨ n = 1 ∨ n = 2 ∨ n = 3) with rfl | rfl | rfl | rfl <;> rfl
theorem sl1_size : (⟨#[47]⟩ : ByteArray).size = 1 := rfl
section
variable {P : Program} {N : Nat} {σ : Env} {w : World} {d : Option Nat} {ty : TypeId} {pos : String} {aft : Array Edge} {gd : Option (Nat × Bool)}
/-- an element of an array of four texts -/
theorem xindexA4 {x y : Operand} {t e : TypeId} {u0 u1 u2 u3 : ByteArray} {j : Nat} {m : Int} {k : IntKind} (ht : P.underlying t = some (.array 4 e)) (hs : ∀ w, (sizeOf e).run P w = .ok 1 w) (ha' : ∀ w, (isAgg e).run P w = .ok false w)
    (hx : ev σ x = some (.agg #[.string u0, .string u1, .string u2, .string u3])) (hy : ev σ y = some (.int k m)) (hm : m = (j : Int)) (hj : j < 4) :
    XV P N σ ⟨d, .index t x y, ty, pos, aft, gd⟩ w (.string (pick4 j u0 u1 u2 u3)) w := fun a ha => by
  subst hm
  match j, hj with
  | 0, _ => simp [execOp, ha.eval hx, ha.eval hy, Instr.index, run_underlying ht, asIntOf, part, hs, ha', pick4]
  | 1, _ => simp [execOp, ha.eval hx, ha.eval hy, Instr.index, run_underlying ht, asIntOf, part, hs, ha', pick4]
  | 2, _ => simp [execOp, ha.eval hx, ha.eval hy, Instr.index, run_underlying ht, asIntOf, part, hs, ha', pick4]
  | 3, _ => simp [execOp, ha.eval hx, ha.eval hy, Instr.index, run_underlying ht, asIntOf, part, hs, ha', pick4]
end


set_option maxHeartbeats 1000000 in
theorem l01Dec_step (n : Int) (w : World) (h0 : 0 ≤ n) (h1 : n ≤ 9223372036854775807) (ih : ∀ (w : World), 10 ≤ n → Ret Tryd.prog 35 [.int .i64 (n / 10)] w (Pv w (.string (dec (n / 10).toNat)))) : Ret Tryd.prog 35 [.int .i64 n] w (Pv w (.string (dec n.toNat))) := by
  refine ret_of_run (N := 20) Tryd.func35 rfl rfl rfl ?_
  have E : Ext w w := Ext.refl w
  refine run_seq ?_
  refine run_region ?_
  refine ov (xassign rfl) rfl rfl rfl ?_
  refine ops_nil ?_
  refine run_seq ?_
  refine run_seq ?_
  refine run_region ?_
  refine ov (xmove rfl) rfl rfl rfl ?_
  refine ov (xlss rfl rfl _ rfl) rfl rfl rfl ?_
  refine ods (fun c4 => ?_) (fun c4 => ?_)
  ·
    refine ops_nil ?_
    refine run_cond_t rfl ?_
    refine run_seq ?_
    refine run_region ?_
    refine ov (xmove rfl) rfl rfl rfl ?_
    refine ov (v := .int .i64 (48 + n)) (xadd rfl rfl (by unfold I64; omega)) rfl rfl rfl ?_
    refine ov (v := .int .u8 (48 + n)) (xconvu8 Tryd.underlying2 Tryd.underlying5 rfl (by omega) (by omega)) rfl rfl rfl ?_
    refine obuild (cs := [.int .u8 (48 + n)]) (sz := 1) Tryd.underlying34 inf5 rfl rfl (by decide) rfl rfl (by simp [Value.cells]) rfl rfl rfl ?_
    intro b1 w1 e1 hb1 hz1 O1
    have E := E.trans e1
    refine ov (xconvs1 Tryd.underlying34 Tryd.underlying5 Tryd.underlying9 rfl O1.cells) rfl rfl rfl ?_
    refine ov (xassign rfl) rfl rfl rfl ?_
    refine ops_nil ?_
    refine run_ret Tryd.func35 (res1 rfl rfl) ?_
    exact ⟨_, rfl, by rw [dec_small h0 (by omega)], E⟩
  ·
    refine ops_nil ?_
    refine run_cond_f rfl ?_
    refine run_skip ?_
    refine run_seq ?_
    have RE := E
    refine run_held (ι := Unit) (fun x_ w' => match x_ with | () => Ext w w' ∧ True) (fun x_ => match x_ with | () => [(2, .string (dec (n / 10).toNat ++ oneByte (48 + n % 10)))]) (by kernel_rfl) ?_ ?_
    · intro w0_ F
      have z0_ := F.size
      have E := E.trans F
      refine h_take 0 rfl (by kernel_rfl) (by kernel_rfl) (by kernel_rfl) (fun w' x_ => xmove rfl) rfl rfl rfl F ?_
      refine h_take 1 (v := .int .i64 (n / 10)) rfl (by kernel_rfl) (by kernel_rfl) (by kernel_rfl) (fun w' x_ => xquo rfl rfl (by omega) (by omega) (by unfold I64; omega)) rfl rfl rfl F ?_
      refine h_take 3 rfl (by kernel_rfl) (by kernel_rfl) (by kernel_rfl) (fun w' x_ => xmove rfl) rfl rfl rfl F ?_
      refine h_take 4 (v := .int .i64 (n % 10)) rfl (by kernel_rfl) (by kernel_rfl) (by kernel_rfl) (fun w' x_ => xrem rfl rfl (by omega) (by omega)) rfl rfl rfl F ?_
      refine h_take 5 (v := .int .i64 (48 + n % 10)) rfl (by kernel_rfl) (by kernel_rfl) (by kernel_rfl) (fun w' x_ => xadd rfl rfl (by unfold I64; omega)) rfl rfl rfl F ?_
      refine h_take 6 (v := .int .u8 (48 + n % 10)) rfl (by kernel_rfl) (by kernel_rfl) (by kernel_rfl) (fun w' x_ => xconvu8 Tryd.underlying2 Tryd.underlying5 rfl (by omega) (by omega)) rfl rfl rfl F ?_
      refine h_ready (rs := [2, 7]) (by kernel_rfl) (by decide) ⟨?_, ?_, trivial⟩
      ·
        refine hs_call rfl (xcall Tryd.call35 rfl) rfl rfl rfl (ih _ (by omega)) ?_
        rintro _ w1 ⟨rfl, e1⟩
        have z1 := e1.size
        have E := E.trans e1
        have F := F.trans e1
        refine ⟨F, ?_⟩
        refine h_ready (rs := [7]) (by kernel_rfl) (by decide) ⟨?_, trivial⟩
        ·
          refine hs_build (len := 1) (vs := [.int .u8 (48 + n % 10)]) (cs := [.int .u8 (48 + n % 10)]) (sz := 1) Tryd.underlying34 inf5 rfl rfl (by decide) (by rfl) (by rfl) (by simp [Value.cells]) rfl F rfl rfl rfl ?_
          intro b2 w2 e2 hb2 hz2 O2
          have E := E.trans e2
          have F := F.trans e2
          refine h_ready (rs := [8]) (by kernel_rfl) (by decide) ⟨?_, trivial⟩
          ·
            refine hs_val rfl (xconvs1 Tryd.underlying34 Tryd.underlying5 Tryd.underlying9 rfl O2.cells) rfl rfl rfl F ?_
            refine h_take 9 rfl (by kernel_rfl) (by kernel_rfl) (by kernel_rfl) (fun w' x_ => xsadd rfl rfl (by have hs_ := dec_size (n / 10).toNat (by omega); rw [oneByte_size]; omega)) rfl rfl rfl F ?_
            refine h_take 10 rfl (by kernel_rfl) (by kernel_rfl) (by kernel_rfl) (fun w' x_ => xassign rfl) rfl rfl rfl F ?_
            refine h_done (by kernel_rfl) ?_
            intro a_ ha_
            exact ⟨(), ⟨F, trivial⟩, ha_.sub ⟨rfl, trivial⟩⟩
      ·
        refine hs_build (len := 1) (vs := [.int .u8 (48 + n % 10)]) (cs := [.int .u8 (48 + n % 10)]) (sz := 1) Tryd.underlying34 inf5 rfl rfl (by decide) (by rfl) (by rfl) (by simp [Value.cells]) rfl F rfl rfl rfl ?_
        intro b1 w1 e1 hb1 hz1 O1
        have E := E.trans e1
        have F := F.trans e1
        refine h_ready (rs := [2, 8]) (by kernel_rfl) (by decide) ⟨?_, ?_, trivial⟩
        ·
          refine hs_call rfl (xcall Tryd.call35 rfl) rfl rfl rfl (ih _ (by omega)) ?_
          rintro _ w2 ⟨rfl, e2⟩
          have z2 := e2.size
          have E := E.trans e2
          replace O1 := O1.ext e2
          have F := F.trans e2
          refine ⟨F, ?_⟩
          refine h_ready (rs := [8]) (by kernel_rfl) (by decide) ⟨?_, trivial⟩
          ·
            refine hs_val rfl (xconvs1 Tryd.underlying34 Tryd.underlying5 Tryd.underlying9 rfl O1.cells) rfl rfl rfl F ?_
            refine h_take 9 rfl (by kernel_rfl) (by kernel_rfl) (by kernel_rfl) (fun w' x_ => xsadd rfl rfl (by have hs_ := dec_size (n / 10).toNat (by omega); rw [oneByte_size]; omega)) rfl rfl rfl F ?_
            refine h_take 10 rfl (by kernel_rfl) (by kernel_rfl) (by kernel_rfl) (fun w' x_ => xassign rfl) rfl rfl rfl F ?_
            refine h_done (by kernel_rfl) ?_
            intro a_ ha_
            exact ⟨(), ⟨F, trivial⟩, ha_.sub ⟨rfl, trivial⟩⟩
        ·
          refine hs_val rfl (xconvs1 Tryd.underlying34 Tryd.underlying5 Tryd.underlying9 rfl O1.cells) rfl rfl rfl F ?_
          refine h_ready (rs := [2]) (by kernel_rfl) (by decide) ⟨?_, trivial⟩
          ·
            refine hs_call rfl (xcall Tryd.call35 rfl) rfl rfl rfl (ih _ (by omega)) ?_
            rintro _ w2 ⟨rfl, e2⟩
            have z2 := e2.size
            have E := E.trans e2
            replace O1 := O1.ext e2
            have F := F.trans e2
            refine ⟨F, ?_⟩
            refine h_take 9 rfl (by kernel_rfl) (by kernel_rfl) (by kernel_rfl) (fun w' x_ => xsadd rfl rfl (by have hs_ := dec_size (n / 10).toNat (by omega); rw [oneByte_size]; omega)) rfl rfl rfl F ?_
            refine h_take 10 rfl (by kernel_rfl) (by kernel_rfl) (by kernel_rfl) (fun w' x_ => xassign rfl) rfl rfl rfl F ?_
            refine h_done (by kernel_rfl) ?_
            intro a_ ha_
            exact ⟨(), ⟨F, trivial⟩, ha_.sub ⟨rfl, trivial⟩⟩
    · intro x_
      obtain ⟨⟩ := x_
      rintro w1 ⟨e1, _⟩
      have z1 := e1.size
      have E := E.trans e1
      refine run_ret Tryd.func35 (res1 rfl rfl) ?_
      exact ⟨_, rfl, by rw [dec_big (by omega : 10 ≤ n)], E⟩

theorem l01Dec_ok (n : Int) (w : World) (h0 : 0 ≤ n) (h1 : n ≤ 9223372036854775807) : Ret Tryd.prog 35 [.int .i64 n] w (Pv w (.string (dec n.toNat))) := by
  have all : ∀ (k : Nat) (m : Int) (w : World), m.toNat ≤ k → 0 ≤ m → m ≤ 9223372036854775807 → Ret Tryd.prog 35 [.int .i64 m] w (Pv w (.string (dec m.toNat))) := by
    intro k
    induction k with
    | zero => intro m w hk h0 h1; exact l01Dec_step m w h0 h1 (fun w h => by omega)
    | succ k ih => intro m w hk h0 h1; exact l01Dec_step m w h0 h1 (fun w h => ih _ _ (by omega) (by omega) (by omega))
  exact all n.toNat n w (Nat.le_refl _) h0 h1

set_option maxHeartbeats 400000 in
theorem decimal_ok (n : Int) (w : World) (h0 : 0 ≤ n) (h1 : n ≤ 9223372036854775807) (hT : Tab w) : Ret Tryd.prog 19 [.int .i64 n] w (Pv w (.string (dec n.toNat))) := by
  refine ret_of_run (N := 5) Tryd.func19 rfl rfl rfl ?_
  have E : Ext w w := Ext.refl w
  refine run_seq ?_
  refine run_region ?_
  refine ov (xassign rfl) rfl rfl rfl ?_
  refine ops_nil ?_
  refine run_seq ?_
  refine run_region ?_
  refine ov (xmove rfl) rfl rfl rfl ?_
  refine oc (xcall Tryd.call39 rfl) rfl rfl rfl (FormatInt_ok (n) _ (by omega) (by omega) (hT.ext E)) ?_
  rintro _ w1 ⟨rfl, e1⟩
  have z1 := e1.size
  have E := E.trans e1
  refine ov (xassign rfl) rfl rfl rfl ?_
  refine ops_nil ?_
  refine run_ret Tryd.func19 (res1 rfl rfl) ?_
  exact ⟨_, rfl, pv E⟩

set_option maxHeartbeats 400000 in
theorem l25Word_ok (n : Int) (w : World) (h0 : 0 ≤ n) (h1 : n ≤ 3) : Ret Tryd.prog 23 [.int .i64 n] w (Pv w (.string (kword n))) := by
  refine ret_of_run (N := 7) Tryd.func23 rfl rfl rfl ?_
  have E : Ext w w := Ext.refl w
  refine run_seq ?_
  refine run_region ?_
  refine ov (xassign rfl) rfl rfl rfl ?_
  refine ops_nil ?_
  refine run_seq ?_
  refine run_region ?_
  refine obuild (cs := [.string ⟨#[97, 100, 109, 105, 116]⟩, .string ⟨#[114, 101, 102, 117, 115, 101]⟩, .string ⟨#[114, 101, 115, 101, 114, 118, 101]⟩, .string ⟨#[119, 105, 116, 104, 100, 114, 97, 119]⟩]) (sz := 1) Tryd.underlying41 inf9 rfl rfl (by decide) rfl rfl (by simp [Value.cells]) rfl rfl rfl ?_
  intro b1 w1 e1 hb1 hz1 O1
  have E := E.trans e1
  have G1 : Ow strc 1 9 w1 b1 (b1 + 1) (some ⟨b1, 0, none⟩) 4 4 ([⟨#[97, 100, 109, 105, 116]⟩, ⟨#[114, 101, 102, 117, 115, 101]⟩, ⟨#[114, 101, 115, 101, 114, 118, 101]⟩, ⟨#[119, 105, 116, 104, 100, 114, 97, 119]⟩] : List ByteArray) := Own.ow (by simpa [strc] using O1) rfl (by omega) (Nat.le_refl _) (by omega) (by intro x hx; rfl)
  refine ov (xmove rfl) rfl rfl rfl ?_
  have h5 := (G1.sl).at (i := n.toNat) (by show n.toNat < 4; omega)
  refine ov (xindexN (i := n.toNat) Tryd.underlying41 Tryd.sizeOf9 rfl rfl (by omega) ((G1.sl).p (i := n.toNat) (by show n.toNat < 4; omega)) (by have := (G1.sl).len; omega)) rfl rfl rfl ?_
  refine ov (v := .string (([⟨#[97, 100, 109, 105, 116]⟩, ⟨#[114, 101, 102, 117, 115, 101]⟩, ⟨#[114, 101, 115, 101, 114, 118, 101]⟩, ⟨#[119, 105, 116, 104, 100, 114, 97, 119]⟩] : List ByteArray)[n.toNat]'(by show n.toNat < 4; omega))) (xloadz Tryd.isAgg9 rfl (h5) rfl) rfl rfl rfl ?_
  refine ov (xassign rfl) rfl rfl rfl ?_
  refine ops_nil ?_
  refine run_ret Tryd.func23 (res1 rfl rfl) ?_
  exact ⟨_, rfl, by rw [kword_at h0 h1], E⟩

set_option maxHeartbeats 400000 in
theorem kindWord_ok (n : Int) (w : World) (h0 : 0 ≤ n) (h1 : n ≤ 3) : Ret Tryd.prog 20 [.int .i64 n] w (Pv w (.string (kword n))) := by
  refine ret_of_run (N := 6) Tryd.func20 rfl rfl rfl ?_
  have E : Ext w w := Ext.refl w
  refine run_seq ?_
  refine run_region ?_
  refine ov (xassign rfl) rfl rfl rfl ?_
  refine ops_nil ?_
  refine run_seq ?_
  refine run_region ?_
  refine ov (xbuild (vs := [.string ⟨#[97, 100, 109, 105, 116]⟩, .string ⟨#[114, 101, 102, 117, 115, 101]⟩, .string ⟨#[114, 101, 115, 101, 114, 118, 101]⟩, .string ⟨#[119, 105, 116, 104, 100, 114, 97, 119]⟩]) (cells := #[.string ⟨#[97, 100, 109, 105, 116]⟩, .string ⟨#[114, 101, 102, 117, 115, 101]⟩, .string ⟨#[114, 101, 115, 101, 114, 118, 101]⟩, .string ⟨#[119, 105, 116, 104, 100, 114, 97, 119]⟩]) rfl (by kernel_rfl)) rfl rfl rfl ?_
  refine ov (xmove rfl) rfl rfl rfl ?_
  refine ov (xindexA4 (j := n.toNat) Tryd.underlying56 Tryd.sizeOf9 Tryd.isAgg9 rfl rfl (by omega) (by omega)) rfl rfl rfl ?_
  refine ov (xassign rfl) rfl rfl rfl ?_
  refine ops_nil ?_
  refine run_ret Tryd.func20 (res1 rfl rfl) ?_
  exact ⟨_, rfl, rfl, E⟩
end Go.Proofs.YtnjohcbamblilaaDoor

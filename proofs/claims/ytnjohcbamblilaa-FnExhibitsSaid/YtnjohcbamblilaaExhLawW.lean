/-
  The law on exhibits: the walk. No condition beyond those written in each theorem.
-/
import Derived.Test.YtnjohcbamblilaaLikeX
import Derived.Test.YtnjohcbamblilaaArX
namespace Go.Proofs.Ytnjohcbamblilaa
open Go.RowKit
set_option linter.unusedVariables false
set_option linter.unusedSimpArgs false
set_option linter.unusedSectionVars false
set_option maxRecDepth 4000

set_option maxHeartbeats 20000000 in
theorem FnExhibits_ok (p : Option Addr) (n c : Nat) (bs : List Int) (w : World) (H : Sl u8c 1 w p n c bs) (hbs : ∀ x ∈ bs, 0 ≤ x ∧ x ≤ 255) : Ret Try.prog 12 [.slice p n c] w (Pv w (.bool true)) := by
  refine ret_of_run (N := 252) Try.func12 rfl rfl rfl ?_
  have hn := H.len
  have E : Ext w w := Ext.refl w
  refine run_seq ?_
  refine run_region ?_
  refine ov (xassign rfl) rfl rfl rfl ?_
  refine ops_nil ?_
  refine run_seq ?_
  refine run_seq ?_
  refine run_region ?_
  refine ov (xmove rfl) rfl rfl rfl ?_
  refine oc (xcall Try.call44 rfl) rfl rfl rfl (big_ok _ _ _ _ _ (H.ext E)) ?_
  rintro _ w1 ⟨rfl, e1⟩
  have z1 := e1.size
  have E := E.trans e1
  refine obs (fun c36 => ?_) (fun c36 => ?_)
  ·
    refine ops_nil ?_
    refine run_cond_t rfl ?_
    refine run_seq ?_
    refine run_region ?_
    refine ov (xassign rfl) rfl rfl rfl ?_
    refine ops_nil ?_
    refine run_ret Try.func12 (res1 rfl rfl) ?_
    exact ⟨_, rfl, rfl, E⟩
  ·
    refine ops_nil ?_
    refine run_cond_f rfl ?_
    refine run_skip ?_
    refine run_seq ?_
    refine run_region ?_
    refine ov (xmove rfl) rfl rfl rfl ?_
    refine oc (xcall Try.call58 rfl) rfl rfl rfl (DrawHandOver_ok _ _ _ _ _ (H.ext E) (by assumption)) ?_
    rintro _ w2 ⟨e2, x39, q39, m39, d39, r39, rfl, ok39, hm39, G39, hr39⟩
    have z2 := e2.size
    have E := E.trans e2
    have lG39 := G39.len
    have sm39 := exOk_small ok39
    have xd39 := ok39.2.2.1
    refine ov (xmove rfl) rfl rfl rfl ?_
    refine ov (xextract rfl rfl) rfl rfl rfl ?_
    refine ov (xextract rfl rfl) rfl rfl rfl ?_
    refine oalloc Try.zeroValue49 rfl rfl ?_
    intro b3 w3 e3 hb3 hz3 O3
    have E := E.trans e3
    replace G39 := G39.ext e3
    replace O3 : Own w3 b3 [.string ⟨#[]⟩, .string ⟨#[]⟩, .int .i64 0, .int .i64 0, .slice none 0 0] 49 := O3
    refine oalloc Try.zeroValue77 rfl rfl ?_
    intro b4 w4 e4 hb4 hz4 O4
    have E := E.trans e4
    replace G39 := G39.ext e4
    replace O3 := O3.ext e4
    replace O4 : Own w4 b4 [.int .i64 0, .string ⟨#[]⟩, .string ⟨#[]⟩, .int .i64 0] 77 := O4
    refine ostoreN (vs := _) Try.sizeOf49 rfl rfl O3 rfl (by simp) (by simp [Value.oneCell']) rfl ?_
    intro w5 on5 O5
    have hz5 := on5.size
    have E := on5.ext E (by omega)
    replace G39 := G39.only on5 (by omega)
    replace O4 := on5.own O4 (by omega)
    replace O5 : Own w5 b3 [.string x39.Code, .string x39.Found, .int .i64 x39.Day, .int .i64 x39.Seal, .slice q39 m39 d39] 49 := O5
    refine ostoreN (vs := _) Try.sizeOf77 rfl rfl O4 rfl (by simp) (by simp [Value.oneCell']) rfl ?_
    intro w6 on6 O6
    have hz6 := on6.size
    have E := on6.ext E (by omega)
    replace G39 := G39.only on6 (by omega)
    replace O5 := on6.own O5 (by omega)
    replace O6 : Own w6 b4 [.int .i64 r39.Day, .string r39.From, .string r39.To, .int .i64 r39.Seal] 77 := O6
    refine ops_nil ?_
    refine run_seq ?_
    refine run_region ?_
    refine ov (v := .agg #[.string x39.Code, .string x39.Found, .int .i64 x39.Day, .int .i64 x39.Seal, .slice q39 m39 d39]) (xloadN Try.isAgg49 Try.sizeOf49 rfl (O5.cells) rfl) rfl rfl rfl ?_
    refine ov (v := .agg #[.int .i64 r39.Day, .string r39.From, .string r39.To, .int .i64 r39.Seal]) (xloadN Try.isAgg77 Try.sizeOf77 rfl (O6.cells) rfl) rfl rfl rfl ?_
    refine oc (xcall Try.call56 rfl) rfl rfl rfl (HandOver_ok _ _ _ x39 r39 _ (G39.sl) sm39 hr39) ?_
    rintro _ w7 ⟨e7, q45, m45, d45, rfl, G45⟩
    have z7 := e7.size
    have E := E.trans e7
    replace G39 := G39.ext e7
    replace O5 := O5.ext e7
    replace O6 := O6.ext e7
    have lG45 := G45.len
    have hov45 := handOver_len x39 r39
    refine ov (xmove rfl) rfl rfl rfl ?_
    refine ov (xextract rfl rfl) rfl rfl rfl ?_
    refine ov (xextract rfl rfl) rfl rfl rfl ?_
    refine oalloc Try.zeroValue49 rfl rfl ?_
    intro b8 w8 e8 hb8 hz8 O8
    have E := E.trans e8
    replace G39 := G39.ext e8
    replace G45 := G45.ext e8
    replace O5 := O5.ext e8
    replace O6 := O6.ext e8
    replace O8 : Own w8 b8 [.string ⟨#[]⟩, .string ⟨#[]⟩, .int .i64 0, .int .i64 0, .slice none 0 0] 49 := O8
    refine ostoreN (vs := _) Try.sizeOf49 rfl rfl O8 rfl (by simp) (by simp [Value.oneCell']) rfl ?_
    intro w9 on9 O9
    have hz9 := on9.size
    have E := on9.ext E (by omega)
    replace G39 := G39.only on9 (by omega)
    replace G45 := G45.only on9 (by omega)
    replace O5 := on9.own O5 (by omega)
    replace O6 := on9.own O6 (by omega)
    replace O9 : Own w9 b8 [.string (handOver x39 r39).1.Code, .string (handOver x39 r39).1.Found, .int .i64 (handOver x39 r39).1.Day, .int .i64 (handOver x39 r39).1.Seal, .slice q45 m45 d45] 49 := O9
    refine ov (xassign rfl) rfl rfl rfl ?_
    refine ops_nil ?_
    refine run_seq ?_
    refine run_region ?_
    refine ov (v := .agg #[.string x39.Code, .string x39.Found, .int .i64 x39.Day, .int .i64 x39.Seal, .slice q39 m39 d39]) (xloadN Try.isAgg49 Try.sizeOf49 rfl (O5.cells) rfl) rfl rfl rfl ?_
    refine ov (v := .agg #[.int .i64 r39.Day, .string r39.From, .string r39.To, .int .i64 r39.Seal]) (xloadN Try.isAgg77 Try.sizeOf77 rfl (O6.cells) rfl) rfl rfl rfl ?_
    refine oc (xcall Try.call54 rfl) rfl rfl rfl (sHandOver_ok _ _ _ x39 r39 _ (G39.sl) sm39 hr39) ?_
    rintro _ w10 ⟨e10, q51, m51, d51, rfl, G51⟩
    have z10 := e10.size
    have E := E.trans e10
    replace G39 := G39.ext e10
    replace G45 := G45.ext e10
    replace O5 := O5.ext e10
    replace O6 := O6.ext e10
    replace O9 := O9.ext e10
    have lG51 := G51.len
    have hov51 := handOver_len x39 r39
    refine ov (xmove rfl) rfl rfl rfl ?_
    refine ov (xextract rfl rfl) rfl rfl rfl ?_
    refine ov (xextract rfl rfl) rfl rfl rfl ?_
    refine oalloc Try.zeroValue49 rfl rfl ?_
    intro b11 w11 e11 hb11 hz11 O11
    have E := E.trans e11
    replace G39 := G39.ext e11
    replace G45 := G45.ext e11
    replace G51 := G51.ext e11
    replace O5 := O5.ext e11
    replace O6 := O6.ext e11
    replace O9 := O9.ext e11
    replace O11 : Own w11 b11 [.string ⟨#[]⟩, .string ⟨#[]⟩, .int .i64 0, .int .i64 0, .slice none 0 0] 49 := O11
    refine ostoreN (vs := _) Try.sizeOf49 rfl rfl O11 rfl (by simp) (by simp [Value.oneCell']) rfl ?_
    intro w12 on12 O12
    have hz12 := on12.size
    have E := on12.ext E (by omega)
    replace G39 := G39.only on12 (by omega)
    replace G45 := G45.only on12 (by omega)
    replace G51 := G51.only on12 (by omega)
    replace O5 := on12.own O5 (by omega)
    replace O6 := on12.own O6 (by omega)
    replace O9 := on12.own O9 (by omega)
    replace O12 : Own w12 b11 [.string (handOver x39 r39).1.Code, .string (handOver x39 r39).1.Found, .int .i64 (handOver x39 r39).1.Day, .int .i64 (handOver x39 r39).1.Seal, .slice q51 m51 d51] 49 := O12
    refine ov (xassign rfl) rfl rfl rfl ?_
    refine ops_nil ?_
    refine run_seq ?_
    refine run_region ?_
    refine ov (xmove rfl) rfl rfl rfl ?_
    refine oc (xcall Try.call59 rfl) rfl rfl rfl (DrawHolderOn_ok _ _ _ _ _ (H.ext E) (by assumption)) ?_
    rintro _ w13 ⟨e13, x56, q56, m56, d56, k56, rfl, ok56, hm56, G56, hk56⟩
    have z13 := e13.size
    have E := E.trans e13
    replace G39 := G39.ext e13
    replace G45 := G45.ext e13
    replace G51 := G51.ext e13
    replace O5 := O5.ext e13
    replace O6 := O6.ext e13
    replace O9 := O9.ext e13
    replace O12 := O12.ext e13
    have lG56 := G56.len
    have sm56 := exOk_small ok56
    have xd56 := ok56.2.2.1
    refine ov (xmove rfl) rfl rfl rfl ?_
    refine ov (xextract rfl rfl) rfl rfl rfl ?_
    refine ov (xextract rfl rfl) rfl rfl rfl ?_
    refine oalloc Try.zeroValue49 rfl rfl ?_
    intro b14 w14 e14 hb14 hz14 O14
    have E := E.trans e14
    replace G39 := G39.ext e14
    replace G45 := G45.ext e14
    replace G51 := G51.ext e14
    replace G56 := G56.ext e14
    replace O5 := O5.ext e14
    replace O6 := O6.ext e14
    replace O9 := O9.ext e14
    replace O12 := O12.ext e14
    replace O14 : Own w14 b14 [.string ⟨#[]⟩, .string ⟨#[]⟩, .int .i64 0, .int .i64 0, .slice none 0 0] 49 := O14
    refine ostoreN (vs := _) Try.sizeOf49 rfl rfl O14 rfl (by simp) (by simp [Value.oneCell']) rfl ?_
    intro w15 on15 O15
    have hz15 := on15.size
    have E := on15.ext E (by omega)
    replace G39 := G39.only on15 (by omega)
    replace G45 := G45.only on15 (by omega)
    replace G51 := G51.only on15 (by omega)
    replace G56 := G56.only on15 (by omega)
    replace O5 := on15.own O5 (by omega)
    replace O6 := on15.own O6 (by omega)
    replace O9 := on15.own O9 (by omega)
    replace O12 := on15.own O12 (by omega)
    replace O15 : Own w15 b14 [.string x56.Code, .string x56.Found, .int .i64 x56.Day, .int .i64 x56.Seal, .slice q56 m56 d56] 49 := O15
    refine ov (xassign rfl) rfl rfl rfl ?_
    refine ops_nil ?_
    refine run_seq ?_
    refine run_region ?_
    refine ov (v := .agg #[.string x56.Code, .string x56.Found, .int .i64 x56.Day, .int .i64 x56.Seal, .slice q56 m56 d56]) (xloadN Try.isAgg49 Try.sizeOf49 rfl (O15.cells) rfl) rfl rfl rfl ?_
    refine ov (xmove rfl) rfl rfl rfl ?_
    refine oc (xcall Try.call34 rfl) rfl rfl rfl (HolderOn_ok _ _ _ x56 _ (G56.sl) sm56 k56) ?_
    rintro _ w16 ⟨rfl, e16⟩
    have z16 := e16.size
    have E := E.trans e16
    replace G39 := G39.ext e16
    replace G45 := G45.ext e16
    replace G51 := G51.ext e16
    replace G56 := G56.ext e16
    replace O5 := O5.ext e16
    replace O6 := O6.ext e16
    replace O9 := O9.ext e16
    replace O12 := O12.ext e16
    replace O15 := O15.ext e16
    refine ov (xmove rfl) rfl rfl rfl ?_
    refine ov (xextract rfl rfl) rfl rfl rfl ?_
    refine ov (xextract rfl rfl) rfl rfl rfl ?_
    refine ov (xassign rfl) rfl rfl rfl ?_
    refine ov (xassign rfl) rfl rfl rfl ?_
    refine ops_nil ?_
    refine run_seq ?_
    refine run_region ?_
    refine ov (v := .agg #[.string x56.Code, .string x56.Found, .int .i64 x56.Day, .int .i64 x56.Seal, .slice q56 m56 d56]) (xloadN Try.isAgg49 Try.sizeOf49 rfl (O15.cells) rfl) rfl rfl rfl ?_
    refine ov (xmove rfl) rfl rfl rfl ?_
    refine oc (xcall Try.call32 rfl) rfl rfl rfl (sHolderOn_ok _ _ _ x56 _ (G56.sl) sm56 k56) ?_
    rintro _ w17 ⟨rfl, e17⟩
    have z17 := e17.size
    have E := E.trans e17
    replace G39 := G39.ext e17
    replace G45 := G45.ext e17
    replace G51 := G51.ext e17
    replace G56 := G56.ext e17
    replace O5 := O5.ext e17
    replace O6 := O6.ext e17
    replace O9 := O9.ext e17
    replace O12 := O12.ext e17
    replace O15 := O15.ext e17
    refine ov (xmove rfl) rfl rfl rfl ?_
    refine ov (xextract rfl rfl) rfl rfl rfl ?_
    refine ov (xextract rfl rfl) rfl rfl rfl ?_
    refine ov (xassign rfl) rfl rfl rfl ?_
    refine ov (xassign rfl) rfl rfl rfl ?_
    refine ops_nil ?_
    refine run_seq ?_
    refine run_region ?_
    refine ov (xmove rfl) rfl rfl rfl ?_
    refine oc (xcall Try.call60 rfl) rfl rfl rfl (DrawHoldersOf_ok _ _ _ _ _ (H.ext E) (by assumption)) ?_
    rintro _ w18 ⟨e18, x72, q72, m72, d72, rfl, ok72, hm72, G72⟩
    have z18 := e18.size
    have E := E.trans e18
    replace G39 := G39.ext e18
    replace G45 := G45.ext e18
    replace G51 := G51.ext e18
    replace G56 := G56.ext e18
    replace O5 := O5.ext e18
    replace O6 := O6.ext e18
    replace O9 := O9.ext e18
    replace O12 := O12.ext e18
    replace O15 := O15.ext e18
    have lG72 := G72.len
    have sm72 := exOk_small ok72
    have xd72 := ok72.2.2.1
    refine oalloc Try.zeroValue49 rfl rfl ?_
    intro b19 w19 e19 hb19 hz19 O19
    have E := E.trans e19
    replace G39 := G39.ext e19
    replace G45 := G45.ext e19
    replace G51 := G51.ext e19
    replace G56 := G56.ext e19
    replace G72 := G72.ext e19
    replace O5 := O5.ext e19
    replace O6 := O6.ext e19
    replace O9 := O9.ext e19
    replace O12 := O12.ext e19
    replace O15 := O15.ext e19
    replace O19 : Own w19 b19 [.string ⟨#[]⟩, .string ⟨#[]⟩, .int .i64 0, .int .i64 0, .slice none 0 0] 49 := O19
    refine ostoreN (vs := _) Try.sizeOf49 rfl rfl O19 rfl (by simp) (by simp [Value.oneCell']) rfl ?_
    intro w20 on20 O20
    have hz20 := on20.size
    have E := on20.ext E (by omega)
    replace G39 := G39.only on20 (by omega)
    replace G45 := G45.only on20 (by omega)
    replace G51 := G51.only on20 (by omega)
    replace G56 := G56.only on20 (by omega)
    replace G72 := G72.only on20 (by omega)
    replace O5 := on20.own O5 (by omega)
    replace O6 := on20.own O6 (by omega)
    replace O9 := on20.own O9 (by omega)
    replace O12 := on20.own O12 (by omega)
    replace O15 := on20.own O15 (by omega)
    replace O20 : Own w20 b19 [.string x72.Code, .string x72.Found, .int .i64 x72.Day, .int .i64 x72.Seal, .slice q72 m72 d72] 49 := O20
    refine ops_nil ?_
    refine run_seq ?_
    refine run_region ?_
    refine ov (v := .agg #[.string x72.Code, .string x72.Found, .int .i64 x72.Day, .int .i64 x72.Seal, .slice q72 m72 d72]) (xloadN Try.isAgg49 Try.sizeOf49 rfl (O20.cells) rfl) rfl rfl rfl ?_
    refine oc (xcall Try.call46 rfl) rfl rfl rfl (HoldersOf_ok _ _ _ x72 _ (G72.sl) sm72) ?_
    rintro _ w21 ⟨e21, q75_0, m75_0, d75_0, rfl, G75_0⟩
    have z21 := e21.size
    have E := E.trans e21
    replace G39 := G39.ext e21
    replace G45 := G45.ext e21
    replace G51 := G51.ext e21
    replace G56 := G56.ext e21
    replace G72 := G72.ext e21
    replace O5 := O5.ext e21
    replace O6 := O6.ext e21
    replace O9 := O9.ext e21
    replace O12 := O12.ext e21
    replace O15 := O15.ext e21
    replace O20 := O20.ext e21
    have lG75_0 := G75_0.len
    have hal75 := holdersOf_len x72
    refine ov (xmove rfl) rfl rfl rfl ?_
    refine ov (xextract rfl rfl) rfl rfl rfl ?_
    refine ov (xextract rfl rfl) rfl rfl rfl ?_
    refine ov (xassign rfl) rfl rfl rfl ?_
    refine ov (xassign rfl) rfl rfl rfl ?_
    refine ops_nil ?_
    refine run_seq ?_
    refine run_region ?_
    refine ov (v := .agg #[.string x72.Code, .string x72.Found, .int .i64 x72.Day, .int .i64 x72.Seal, .slice q72 m72 d72]) (xloadN Try.isAgg49 Try.sizeOf49 rfl (O20.cells) rfl) rfl rfl rfl ?_
    refine oc (xcall Try.call47 rfl) rfl rfl rfl (sHoldersOf_ok _ _ _ x72 _ (G72.sl) sm72) ?_
    rintro _ w22 ⟨e22, q80_0, m80_0, d80_0, rfl, G80_0⟩
    have z22 := e22.size
    have E := E.trans e22
    replace G39 := G39.ext e22
    replace G45 := G45.ext e22
    replace G51 := G51.ext e22
    replace G56 := G56.ext e22
    replace G72 := G72.ext e22
    replace G75_0 := G75_0.ext e22
    replace O5 := O5.ext e22
    replace O6 := O6.ext e22
    replace O9 := O9.ext e22
    replace O12 := O12.ext e22
    replace O15 := O15.ext e22
    replace O20 := O20.ext e22
    have lG80_0 := G80_0.len
    have hal80 := holdersOf_len x72
    refine ov (xmove rfl) rfl rfl rfl ?_
    refine ov (xextract rfl rfl) rfl rfl rfl ?_
    refine ov (xextract rfl rfl) rfl rfl rfl ?_
    refine ov (xassign rfl) rfl rfl rfl ?_
    refine ov (xassign rfl) rfl rfl rfl ?_
    refine ops_nil ?_
    refine run_seq ?_
    refine run_region ?_
    refine ov (v := .agg #[.string x72.Code, .string x72.Found, .int .i64 x72.Day, .int .i64 x72.Seal, .slice q72 m72 d72]) (xloadN Try.isAgg49 Try.sizeOf49 rfl (O20.cells) rfl) rfl rfl rfl ?_
    refine oc (xcall Try.call61 rfl) rfl rfl rfl (FirstBreak_ok _ _ _ x72 _ (G72.sl) sm72) ?_
    rintro _ w23 ⟨rfl, e23⟩
    have z23 := e23.size
    have E := E.trans e23
    replace G39 := G39.ext e23
    replace G45 := G45.ext e23
    replace G51 := G51.ext e23
    replace G56 := G56.ext e23
    replace G72 := G72.ext e23
    replace G75_0 := G75_0.ext e23
    replace G80_0 := G80_0.ext e23
    replace O5 := O5.ext e23
    replace O6 := O6.ext e23
    replace O9 := O9.ext e23
    replace O12 := O12.ext e23
    replace O15 := O15.ext e23
    replace O20 := O20.ext e23
    refine ov (xmove rfl) rfl rfl rfl ?_
    refine ov (xextract rfl rfl) rfl rfl rfl ?_
    refine ov (xextract rfl rfl) rfl rfl rfl ?_
    refine ov (xassign rfl) rfl rfl rfl ?_
    refine ov (xassign rfl) rfl rfl rfl ?_
    refine ops_nil ?_
    refine run_seq ?_
    refine run_region ?_
    refine ov (v := .agg #[.string x72.Code, .string x72.Found, .int .i64 x72.Day, .int .i64 x72.Seal, .slice q72 m72 d72]) (xloadN Try.isAgg49 Try.sizeOf49 rfl (O20.cells) rfl) rfl rfl rfl ?_
    refine oc (xcall Try.call62 rfl) rfl rfl rfl (sFirstBreak_ok _ _ _ x72 _ (G72.sl) sm72) ?_
    rintro _ w24 ⟨rfl, e24⟩
    have z24 := e24.size
    have E := E.trans e24
    replace G39 := G39.ext e24
    replace G45 := G45.ext e24
    replace G51 := G51.ext e24
    replace G56 := G56.ext e24
    replace G72 := G72.ext e24
    replace G75_0 := G75_0.ext e24
    replace G80_0 := G80_0.ext e24
    replace O5 := O5.ext e24
    replace O6 := O6.ext e24
    replace O9 := O9.ext e24
    replace O12 := O12.ext e24
    replace O15 := O15.ext e24
    replace O20 := O20.ext e24
    refine ov (xmove rfl) rfl rfl rfl ?_
    refine ov (xextract rfl rfl) rfl rfl rfl ?_
    refine ov (xextract rfl rfl) rfl rfl rfl ?_
    refine ov (xassign rfl) rfl rfl rfl ?_
    refine ov (xassign rfl) rfl rfl rfl ?_
    refine ops_nil ?_
    refine run_seq ?_
    refine run_region ?_
    refine ov (v := .agg #[.string x72.Code, .string x72.Found, .int .i64 x72.Day, .int .i64 x72.Seal, .slice q72 m72 d72]) (xloadN Try.isAgg49 Try.sizeOf49 rfl (O20.cells) rfl) rfl rfl rfl ?_
    refine oc (xcall Try.call39 rfl) rfl rfl rfl (SealChanges_ok _ _ _ x72 _ (G72.sl) sm72) ?_
    rintro _ w25 ⟨e25, q95_0, m95_0, d95_0, rfl, G95_0⟩
    have z25 := e25.size
    have E := E.trans e25
    replace G39 := G39.ext e25
    replace G45 := G45.ext e25
    replace G51 := G51.ext e25
    replace G56 := G56.ext e25
    replace G72 := G72.ext e25
    replace G75_0 := G75_0.ext e25
    replace G80_0 := G80_0.ext e25
    replace O5 := O5.ext e25
    replace O6 := O6.ext e25
    replace O9 := O9.ext e25
    replace O12 := O12.ext e25
    replace O15 := O15.ext e25
    replace O20 := O20.ext e25
    have lG95_0 := G95_0.len
    have hal95 := sealChanges_len x72
    refine ov (xmove rfl) rfl rfl rfl ?_
    refine ov (xextract rfl rfl) rfl rfl rfl ?_
    refine ov (xextract rfl rfl) rfl rfl rfl ?_
    refine ov (xassign rfl) rfl rfl rfl ?_
    refine ov (xassign rfl) rfl rfl rfl ?_
    refine ops_nil ?_
    refine run_seq ?_
    refine run_region ?_
    refine ov (v := .agg #[.string x72.Code, .string x72.Found, .int .i64 x72.Day, .int .i64 x72.Seal, .slice q72 m72 d72]) (xloadN Try.isAgg49 Try.sizeOf49 rfl (O20.cells) rfl) rfl rfl rfl ?_
    refine oc (xcall Try.call38 rfl) rfl rfl rfl (sSealChanges_ok _ _ _ x72 _ (G72.sl) sm72) ?_
    rintro _ w26 ⟨e26, q100_0, m100_0, d100_0, rfl, G100_0⟩
    have z26 := e26.size
    have E := E.trans e26
    replace G39 := G39.ext e26
    replace G45 := G45.ext e26
    replace G51 := G51.ext e26
    replace G56 := G56.ext e26
    replace G72 := G72.ext e26
    replace G75_0 := G75_0.ext e26
    replace G80_0 := G80_0.ext e26
    replace G95_0 := G95_0.ext e26
    replace O5 := O5.ext e26
    replace O6 := O6.ext e26
    replace O9 := O9.ext e26
    replace O12 := O12.ext e26
    replace O15 := O15.ext e26
    replace O20 := O20.ext e26
    have lG100_0 := G100_0.len
    have hal100 := sealChanges_len x72
    refine ov (xmove rfl) rfl rfl rfl ?_
    refine ov (xextract rfl rfl) rfl rfl rfl ?_
    refine ov (xextract rfl rfl) rfl rfl rfl ?_
    refine ov (xassign rfl) rfl rfl rfl ?_
    refine ov (xassign rfl) rfl rfl rfl ?_
    refine ops_nil ?_
    refine run_seq ?_
    refine run_region ?_
    refine ov (xmove rfl) rfl rfl rfl ?_
    refine oc (xcall Try.call63 rfl) rfl rfl rfl (DrawAreExhibits_ok _ _ _ _ _ (H.ext E) (by assumption)) ?_
    rintro _ w27 ⟨e27, xs104, q104, m104, d104, rfl, okl104, hm104, R104⟩
    have z27 := e27.size
    have E := E.trans e27
    replace G39 := G39.ext e27
    replace G45 := G45.ext e27
    replace G51 := G51.ext e27
    replace G56 := G56.ext e27
    replace G72 := G72.ext e27
    replace G75_0 := G75_0.ext e27
    replace G80_0 := G80_0.ext e27
    replace G95_0 := G95_0.ext e27
    replace G100_0 := G100_0.ext e27
    replace O5 := O5.ext e27
    replace O6 := O6.ext e27
    replace O9 := O9.ext e27
    replace O12 := O12.ext e27
    replace O15 := O15.ext e27
    replace O20 := O20.ext e27
    replace R104 : OnExhibitS _ _ _ _ _ _ xs104 := R104
    obtain ⟨hd104, HR104⟩ := On.sl R104
    have nR104 := HR104.len
    have sml104 : ∀ x ∈ xs104, exSmall x := fun x m => exOk_small (okl104 x m)
    refine ov (xassign rfl) rfl rfl rfl ?_
    refine ops_nil ?_
    refine run_seq ?_
    refine run_seq ?_
    simp only [List.append_eq, List.cons_append, List.nil_append]
    refine run_region ?_
    refine ov (xmove rfl) rfl rfl rfl ?_
    refine ov (xmove rfl) rfl rfl rfl ?_
    refine ov (xneq rfl rfl _ rfl) rfl rfl rfl ?_
    refine ods (fun c107 => ?_) (fun c107 => ?_)
    · exfalso; exact absurd rfl c107
    ·
      refine ov (xmove rfl) rfl rfl rfl ?_
      refine ov (v := .agg #[.string (handOver x39 r39).1.Code, .string (handOver x39 r39).1.Found, .int .i64 (handOver x39 r39).1.Day, .int .i64 (handOver x39 r39).1.Seal, .slice q45 m45 d45]) (xloadN Try.isAgg49 Try.sizeOf49 rfl (O9.cells) rfl) rfl rfl rfl ?_
      refine ov (v := .agg #[.string (handOver x39 r39).1.Code, .string (handOver x39 r39).1.Found, .int .i64 (handOver x39 r39).1.Day, .int .i64 (handOver x39 r39).1.Seal, .slice q51 m51 d51]) (xloadN Try.isAgg49 Try.sizeOf49 rfl (O12.cells) rfl) rfl rfl rfl ?_
      refine oc (xcall Try.call64 rfl) rfl rfl rfl (likeExhibit_ok (handOver x39 r39).1 _ _ _ _ _ _ _ (G45.sl) (G51.sl)) ?_
      rintro _ w28 ⟨rfl, e28⟩
      have z28 := e28.size
      have E := E.trans e28
      replace G39 := G39.ext e28
      replace G45 := G45.ext e28
      replace G51 := G51.ext e28
      replace G56 := G56.ext e28
      replace G72 := G72.ext e28
      replace G75_0 := G75_0.ext e28
      replace G80_0 := G80_0.ext e28
      replace G95_0 := G95_0.ext e28
      replace G100_0 := G100_0.ext e28
      replace R104 := R104.ext e28
      replace HR104 := HR104.ext e28
      replace O5 := O5.ext e28
      replace O6 := O6.ext e28
      replace O9 := O9.ext e28
      replace O12 := O12.ext e28
      replace O15 := O15.ext e28
      replace O20 := O20.ext e28
      refine obs (fun c111 => ?_) (fun c111 => ?_)
      ·
        refine ov (xnot rfl) rfl rfl rfl ?_
        refine ov (xpick_f rfl rfl) rfl rfl rfl ?_
        refine ov (xmove rfl) rfl rfl rfl ?_
        refine ov (xmove rfl) rfl rfl rfl ?_
        refine ov (xmove rfl) rfl rfl rfl ?_
        refine ov (xneq rfl rfl _ rfl) rfl rfl rfl ?_
        refine ods (fun c117 => ?_) (fun c117 => ?_)
        · exfalso; exact absurd rfl c117
        ·
          refine ov (xpick_f rfl rfl) rfl rfl rfl ?_
          refine ov (xmove rfl) rfl rfl rfl ?_
          refine ov (xmove rfl) rfl rfl rfl ?_
          refine ov (xmove rfl) rfl rfl rfl ?_
          refine ov (xsneq rfl rfl _ rfl) rfl rfl rfl ?_
          refine ods (fun c122 => ?_) (fun c122 => ?_)
          · exfalso; exact absurd rfl c122
          ·
            refine ov (xpick_f rfl rfl) rfl rfl rfl ?_
            refine ov (xmove rfl) rfl rfl rfl ?_
            refine ov (xmove rfl) rfl rfl rfl ?_
            refine ov (xmove rfl) rfl rfl rfl ?_
            refine ov (xneq rfl rfl _ rfl) rfl rfl rfl ?_
            refine ods (fun c127 => ?_) (fun c127 => ?_)
            · exfalso; exact absurd rfl c127
            ·
              refine ov (xpick_f rfl rfl) rfl rfl rfl ?_
              refine ov (xmove rfl) rfl rfl rfl ?_
              refine ov (xmove rfl) rfl rfl rfl ?_
              refine ov (xmove rfl) rfl rfl rfl ?_
              refine oc (xcall Try.call48 rfl) rfl rfl rfl (likeTexts_ok _ _ _ _ _ _ _ _ (G75_0.sl) (G80_0.sl)) ?_
              rintro _ w29 ⟨rfl, e29⟩
              have z29 := e29.size
              have E := E.trans e29
              replace G39 := G39.ext e29
              replace G45 := G45.ext e29
              replace G51 := G51.ext e29
              replace G56 := G56.ext e29
              replace G72 := G72.ext e29
              replace G75_0 := G75_0.ext e29
              replace G80_0 := G80_0.ext e29
              replace G95_0 := G95_0.ext e29
              replace G100_0 := G100_0.ext e29
              replace R104 := R104.ext e29
              replace HR104 := HR104.ext e29
              replace O5 := O5.ext e29
              replace O6 := O6.ext e29
              replace O9 := O9.ext e29
              replace O12 := O12.ext e29
              replace O15 := O15.ext e29
              replace O20 := O20.ext e29
              refine obs (fun c132 => ?_) (fun c132 => ?_)
              ·
                refine ov (xnot rfl) rfl rfl rfl ?_
                refine ov (xpick_f rfl rfl) rfl rfl rfl ?_
                refine ov (xmove rfl) rfl rfl rfl ?_
                refine ov (xmove rfl) rfl rfl rfl ?_
                refine ov (xmove rfl) rfl rfl rfl ?_
                refine ov (xneq rfl rfl _ rfl) rfl rfl rfl ?_
                refine ods (fun c138 => ?_) (fun c138 => ?_)
                · exfalso; exact absurd rfl c138
                ·
                  refine ov (xpick_f rfl rfl) rfl rfl rfl ?_
                  refine ov (xmove rfl) rfl rfl rfl ?_
                  refine ov (xmove rfl) rfl rfl rfl ?_
                  refine ov (xmove rfl) rfl rfl rfl ?_
                  refine ov (xneq rfl rfl _ rfl) rfl rfl rfl ?_
                  refine ods (fun c143 => ?_) (fun c143 => ?_)
                  · exfalso; exact absurd rfl c143
                  ·
                    refine ov (xpick_f rfl rfl) rfl rfl rfl ?_
                    refine ov (xmove rfl) rfl rfl rfl ?_
                    refine ov (xmove rfl) rfl rfl rfl ?_
                    refine ov (xmove rfl) rfl rfl rfl ?_
                    refine ov (xneq rfl rfl _ rfl) rfl rfl rfl ?_
                    refine ods (fun c148 => ?_) (fun c148 => ?_)
                    · exfalso; exact absurd rfl c148
                    ·
                      refine ov (xpick_f rfl rfl) rfl rfl rfl ?_
                      refine ov (xmove rfl) rfl rfl rfl ?_
                      refine ov (xmove rfl) rfl rfl rfl ?_
                      refine ov (xmove rfl) rfl rfl rfl ?_
                      refine oc (xcall Try.call65 rfl) rfl rfl rfl (likeInts_ok _ _ _ _ _ _ _ _ (G95_0.sl) (G100_0.sl)) ?_
                      rintro _ w30 ⟨rfl, e30⟩
                      have z30 := e30.size
                      have E := E.trans e30
                      replace G39 := G39.ext e30
                      replace G45 := G45.ext e30
                      replace G51 := G51.ext e30
                      replace G56 := G56.ext e30
                      replace G72 := G72.ext e30
                      replace G75_0 := G75_0.ext e30
                      replace G80_0 := G80_0.ext e30
                      replace G95_0 := G95_0.ext e30
                      replace G100_0 := G100_0.ext e30
                      replace R104 := R104.ext e30
                      replace HR104 := HR104.ext e30
                      replace O5 := O5.ext e30
                      replace O6 := O6.ext e30
                      replace O9 := O9.ext e30
                      replace O12 := O12.ext e30
                      replace O15 := O15.ext e30
                      replace O20 := O20.ext e30
                      refine obs (fun c153 => ?_) (fun c153 => ?_)
                      ·
                        refine ov (xnot rfl) rfl rfl rfl ?_
                        refine ov (xpick_f rfl rfl) rfl rfl rfl ?_
                        refine ov (xmove rfl) rfl rfl rfl ?_
                        refine ov (v := .agg #[.string x72.Code, .string x72.Found, .int .i64 x72.Day, .int .i64 x72.Seal, .slice q72 m72 d72]) (xloadN Try.isAgg49 Try.sizeOf49 rfl (O20.cells) rfl) rfl rfl rfl ?_
                        refine oc (xcall Try.call66 rfl) rfl rfl rfl (IsExhibit_ok _ _ _ x72 _ (G72.sl) sm72) ?_
                        rintro _ w31 ⟨rfl, e31⟩
                        have z31 := e31.size
                        have E := E.trans e31
                        replace G39 := G39.ext e31
                        replace G45 := G45.ext e31
                        replace G51 := G51.ext e31
                        replace G56 := G56.ext e31
                        replace G72 := G72.ext e31
                        replace G75_0 := G75_0.ext e31
                        replace G80_0 := G80_0.ext e31
                        replace G95_0 := G95_0.ext e31
                        replace G100_0 := G100_0.ext e31
                        replace R104 := R104.ext e31
                        replace HR104 := HR104.ext e31
                        replace O5 := O5.ext e31
                        replace O6 := O6.ext e31
                        replace O9 := O9.ext e31
                        replace O12 := O12.ext e31
                        replace O15 := O15.ext e31
                        replace O20 := O20.ext e31
                        refine ov (xmove rfl) rfl rfl rfl ?_
                        refine ov (xeql rfl rfl _ rfl) rfl rfl rfl ?_
                        refine ov (xbneq Try.underlying4 rfl rfl) rfl rfl rfl ?_
                        refine ods (fun c161 => ?_) (fun c161 => ?_)
                        · exfalso; exact c161 (seal_code x72)
                        ·
                          refine ov (xpick_f rfl rfl) rfl rfl rfl ?_
                          refine ov (xmove rfl) rfl rfl rfl ?_
                          refine ov (xmove rfl) rfl rfl rfl ?_
                          refine oc (xcall Try.call67 rfl) rfl rfl rfl (AreExhibits_ok _ _ _ xs104 _ (HR104).sn sml104) ?_
                          rintro _ w32 ⟨rfl, e32⟩
                          have z32 := e32.size
                          have E := E.trans e32
                          replace G39 := G39.ext e32
                          replace G45 := G45.ext e32
                          replace G51 := G51.ext e32
                          replace G56 := G56.ext e32
                          replace G72 := G72.ext e32
                          replace G75_0 := G75_0.ext e32
                          replace G80_0 := G80_0.ext e32
                          replace G95_0 := G95_0.ext e32
                          replace G100_0 := G100_0.ext e32
                          replace R104 := R104.ext e32
                          replace HR104 := HR104.ext e32
                          replace O5 := O5.ext e32
                          replace O6 := O6.ext e32
                          replace O9 := O9.ext e32
                          replace O12 := O12.ext e32
                          replace O15 := O15.ext e32
                          replace O20 := O20.ext e32
                          refine ov (xmove rfl) rfl rfl rfl ?_
                          refine oc (xcall Try.call68 rfl) rfl rfl rfl (sAreExhibits_ok _ _ _ xs104 _ (HR104).sn sml104) ?_
                          rintro _ w33 ⟨rfl, e33⟩
                          have z33 := e33.size
                          have E := E.trans e33
                          replace G39 := G39.ext e33
                          replace G45 := G45.ext e33
                          replace G51 := G51.ext e33
                          replace G56 := G56.ext e33
                          replace G72 := G72.ext e33
                          replace G75_0 := G75_0.ext e33
                          replace G80_0 := G80_0.ext e33
                          replace G95_0 := G95_0.ext e33
                          replace G100_0 := G100_0.ext e33
                          replace R104 := R104.ext e33
                          replace HR104 := HR104.ext e33
                          replace O5 := O5.ext e33
                          replace O6 := O6.ext e33
                          replace O9 := O9.ext e33
                          replace O12 := O12.ext e33
                          replace O15 := O15.ext e33
                          replace O20 := O20.ext e33
                          refine ov (xbneq Try.underlying4 rfl rfl) rfl rfl rfl ?_
                          refine ods (fun c168 => ?_) (fun c168 => ?_)
                          · exfalso; exact absurd rfl c168
                          ·
                            refine ov (xpick_f rfl rfl) rfl rfl rfl ?_
                            refine ops_nil ?_
                            refine run_cond_f rfl ?_
                            refine run_skip ?_
                            refine run_seq ?_
                            refine run_seq ?_
                            refine run_region ?_
                            refine ov (xmove rfl) rfl rfl rfl ?_
                            refine ov (xeql rfl rfl _ rfl) rfl rfl rfl ?_
                            refine ods (fun c171 => ?_) (fun c171 => ?_)
                            ·
                              refine ov (xmove rfl) rfl rfl rfl ?_
                              refine ov (xmove rfl) rfl rfl rfl ?_
                              refine ov (xneq rfl rfl _ rfl) rfl rfl rfl ?_
                              refine ods (fun c174 => ?_) (fun c174 => ?_)
                              · exfalso; have := fb_zero (x := x72) (by omega); omega
                              ·
                                refine ov (xpick_t rfl rfl) rfl rfl rfl ?_
                                refine ov (xmove rfl) rfl rfl rfl ?_
                                refine ov (xmove rfl) rfl rfl rfl ?_
                                refine ov (xeql rfl rfl _ rfl) rfl rfl rfl ?_
                                refine ods (fun c178 => ?_) (fun c178 => ?_)
                                ·
                                  refine ov (xmove rfl) rfl rfl rfl ?_
                                  refine ov (xmove rfl) rfl rfl rfl ?_
                                  refine ov (xneq rfl rfl _ rfl) rfl rfl rfl ?_
                                  refine ods (fun c181 => ?_) (fun c181 => ?_)
                                  · exfalso; have := fb_four (x := x72) (by omega); omega
                                  ·
                                    refine ov (xmove rfl) rfl rfl rfl ?_
                                    refine ov (xmove rfl) rfl rfl rfl ?_
                                    refine ov (xlen Try.underlying66 rfl) rfl rfl rfl ?_
                                    refine ov (xfieldAddr fo49f4 rfl) rfl rfl rfl ?_
                                    refine ov (v := .slice q72 m72 d72) (xload1 Try.isAgg47 rfl (O20.cells) rfl) rfl rfl rfl ?_
                                    refine ov (xlen Try.underlying47 rfl) rfl rfl rfl ?_
                                    refine ov (xadd rfl rfl (by unfold I64; omega)) rfl rfl rfl ?_
                                    refine ov (xneq rfl rfl _ rfl) rfl rfl rfl ?_
                                    refine ods (fun c189 => ?_) (fun c189 => ?_)
                                    · exfalso; have := fb_four (x := x72) (by omega); omega
                                    ·
                                      refine ov (xpick_f rfl rfl) rfl rfl rfl ?_
                                      refine ov (xpick_t rfl rfl) rfl rfl rfl ?_
                                      refine ov (xpick_f rfl rfl) rfl rfl rfl ?_
                                      refine ops_nil ?_
                                      refine run_cond_f rfl ?_
                                      refine run_skip ?_
                                      refine run_seq ?_
                                      refine run_seq ?_
                                      refine run_region ?_
                                      refine ov (xmove rfl) rfl rfl rfl ?_
                                      refine ov (xeql rfl rfl _ rfl) rfl rfl rfl ?_
                                      refine ods (fun c194 => ?_) (fun c194 => ?_)
                                      ·
                                        refine ov (xmove rfl) rfl rfl rfl ?_
                                        refine ov (xmove rfl) rfl rfl rfl ?_
                                        refine ov (xeql rfl rfl _ rfl) rfl rfl rfl ?_
                                        refine ods (fun c197 => ?_) (fun c197 => ?_)
                                        ·
                                          refine ov (xpick_t rfl rfl) rfl rfl rfl ?_
                                          refine ov (xmove rfl) rfl rfl rfl ?_
                                          refine ov (xmove rfl) rfl rfl rfl ?_
                                          refine ov (xgeq rfl rfl _ rfl) rfl rfl rfl ?_
                                          refine ods (fun c201 => ?_) (fun c201 => ?_)
                                          ·
                                            refine ov (xpick_t rfl rfl) rfl rfl rfl ?_
                                            refine ops_nil ?_
                                            refine run_cond_t rfl ?_
                                            refine run_seq ?_
                                            refine run_region ?_
                                            refine ov (v := .agg #[.string x56.Code, .string x56.Found, .int .i64 x56.Day, .int .i64 x56.Seal, .slice q56 m56 d56]) (xloadN Try.isAgg49 Try.sizeOf49 rfl (O15.cells) rfl) rfl rfl rfl ?_
                                            refine oc (xcall Try.call46 rfl) rfl rfl rfl (HoldersOf_ok _ _ _ x56 _ (G56.sl) sm56) ?_
                                            rintro _ w34 ⟨e34, q205_0, m205_0, d205_0, rfl, G205_0⟩
                                            have z34 := e34.size
                                            have E := E.trans e34
                                            replace G39 := G39.ext e34
                                            replace G45 := G45.ext e34
                                            replace G51 := G51.ext e34
                                            replace G56 := G56.ext e34
                                            replace G72 := G72.ext e34
                                            replace G75_0 := G75_0.ext e34
                                            replace G80_0 := G80_0.ext e34
                                            replace G95_0 := G95_0.ext e34
                                            replace G100_0 := G100_0.ext e34
                                            replace R104 := R104.ext e34
                                            replace HR104 := HR104.ext e34
                                            replace O5 := O5.ext e34
                                            replace O6 := O6.ext e34
                                            replace O9 := O9.ext e34
                                            replace O12 := O12.ext e34
                                            replace O15 := O15.ext e34
                                            replace O20 := O20.ext e34
                                            have lG205_0 := G205_0.len
                                            have hal205 := holdersOf_len x56
                                            refine ov (xmove rfl) rfl rfl rfl ?_
                                            refine ov (xextract rfl rfl) rfl rfl rfl ?_
                                            refine ov (xextract rfl rfl) rfl rfl rfl ?_
                                            refine ov (xassign rfl) rfl rfl rfl ?_
                                            refine ov (xassign rfl) rfl rfl rfl ?_
                                            refine ops_nil ?_
                                            refine run_seq ?_
                                            refine run_region ?_
                                            refine ov (xmove rfl) rfl rfl rfl ?_
                                            refine ov (xeql rfl rfl _ rfl) rfl rfl rfl ?_
                                            refine ods (fun c209 => ?_) (fun c209 => ?_)
                                            ·
                                              refine ov (xmove rfl) rfl rfl rfl ?_
                                              refine ov (xmove rfl) rfl rfl rfl ?_
                                              refine ov (xmove rfl) rfl rfl rfl ?_
                                              refine oc (xcall Try.call49 rfl) rfl rfl rfl (hasText_ok _ _ _ _ ((holderOn x56 k56).1) _ (G205_0.sl)) ?_
                                              rintro _ w35 ⟨rfl, e35⟩
                                              have z35 := e35.size
                                              have E := E.trans e35
                                              replace G39 := G39.ext e35
                                              replace G45 := G45.ext e35
                                              replace G51 := G51.ext e35
                                              replace G56 := G56.ext e35
                                              replace G72 := G72.ext e35
                                              replace G75_0 := G75_0.ext e35
                                              replace G80_0 := G80_0.ext e35
                                              replace G95_0 := G95_0.ext e35
                                              replace G100_0 := G100_0.ext e35
                                              replace R104 := R104.ext e35
                                              replace HR104 := HR104.ext e35
                                              replace G205_0 := G205_0.ext e35
                                              replace O5 := O5.ext e35
                                              replace O6 := O6.ext e35
                                              replace O9 := O9.ext e35
                                              replace O12 := O12.ext e35
                                              replace O15 := O15.ext e35
                                              replace O20 := O20.ext e35
                                              refine obs (fun c213 => ?_) (fun c213 => ?_)
                                              ·
                                                refine ov (xnot rfl) rfl rfl rfl ?_
                                                refine ov (xpick_t rfl rfl) rfl rfl rfl ?_
                                                refine ops_nil ?_
                                                refine run_cond_f rfl ?_
                                                refine run_skip ?_
                                                refine run_seq ?_
                                                refine run_seq ?_
                                                refine run_region ?_
                                                refine ov (xmove rfl) rfl rfl rfl ?_
                                                refine ov (xneq rfl rfl _ rfl) rfl rfl rfl ?_
                                                refine ods (fun c217 => ?_) (fun c217 => ?_)
                                                ·
                                                  refine ops_nil ?_
                                                  refine run_cond_t rfl ?_
                                                  refine run_seq ?_
                                                  refine run_region ?_
                                                  refine ov (xassign rfl) rfl rfl rfl ?_
                                                  refine ops_nil ?_
                                                  refine run_ret Try.func12 (res1 rfl rfl) ?_
                                                  exact ⟨_, rfl, rfl, E⟩
                                                ·
                                                  obtain ⟨ov1, ov2, ov3, ov4⟩ := over_ok (by omega : (handOver x39 r39).2 = 0)
                                                  refine ops_nil ?_
                                                  refine run_cond_f rfl ?_
                                                  refine run_skip ?_
                                                  refine run_seq ?_
                                                  refine run_region ?_
                                                  refine ov (v := .agg #[.string (handOver x39 r39).1.Code, .string (handOver x39 r39).1.Found, .int .i64 (handOver x39 r39).1.Day, .int .i64 (handOver x39 r39).1.Seal, .slice q45 m45 d45]) (xloadN Try.isAgg49 Try.sizeOf49 rfl (O9.cells) rfl) rfl rfl rfl ?_
                                                  refine oc (xcall Try.call61 rfl) rfl rfl rfl (FirstBreak_ok _ _ _ (handOver x39 r39).1 _ (G45.sl) (over_small sm39 hr39)) ?_
                                                  rintro _ w36 ⟨rfl, e36⟩
                                                  have z36 := e36.size
                                                  have E := E.trans e36
                                                  replace G39 := G39.ext e36
                                                  replace G45 := G45.ext e36
                                                  replace G51 := G51.ext e36
                                                  replace G56 := G56.ext e36
                                                  replace G72 := G72.ext e36
                                                  replace G75_0 := G75_0.ext e36
                                                  replace G80_0 := G80_0.ext e36
                                                  replace G95_0 := G95_0.ext e36
                                                  replace G100_0 := G100_0.ext e36
                                                  replace R104 := R104.ext e36
                                                  replace HR104 := HR104.ext e36
                                                  replace G205_0 := G205_0.ext e36
                                                  replace O5 := O5.ext e36
                                                  replace O6 := O6.ext e36
                                                  replace O9 := O9.ext e36
                                                  replace O12 := O12.ext e36
                                                  replace O15 := O15.ext e36
                                                  replace O20 := O20.ext e36
                                                  refine ov (xmove rfl) rfl rfl rfl ?_
                                                  refine ov (xextract rfl rfl) rfl rfl rfl ?_
                                                  refine ov (xextract rfl rfl) rfl rfl rfl ?_
                                                  refine ov (xassign rfl) rfl rfl rfl ?_
                                                  refine ov (xassign rfl) rfl rfl rfl ?_
                                                  refine ops_nil ?_
                                                  refine run_seq ?_
                                                  refine run_region ?_
                                                  refine ov (v := .agg #[.string (handOver x39 r39).1.Code, .string (handOver x39 r39).1.Found, .int .i64 (handOver x39 r39).1.Day, .int .i64 (handOver x39 r39).1.Seal, .slice q45 m45 d45]) (xloadN Try.isAgg49 Try.sizeOf49 rfl (O9.cells) rfl) rfl rfl rfl ?_
                                                  refine ov (xfieldAddr fo77f0 rfl) rfl rfl rfl ?_
                                                  refine ov (v := .int .i64 r39.Day) (xload1 Try.isAgg2 rfl (O6.cells) rfl) rfl rfl rfl ?_
                                                  refine oc (xcall Try.call34 rfl) rfl rfl rfl (HolderOn_ok _ _ _ (handOver x39 r39).1 _ (G45.sl) (over_small sm39 hr39) r39.Day) ?_
                                                  rintro _ w37 ⟨rfl, e37⟩
                                                  have z37 := e37.size
                                                  have E := E.trans e37
                                                  replace G39 := G39.ext e37
                                                  replace G45 := G45.ext e37
                                                  replace G51 := G51.ext e37
                                                  replace G56 := G56.ext e37
                                                  replace G72 := G72.ext e37
                                                  replace G75_0 := G75_0.ext e37
                                                  replace G80_0 := G80_0.ext e37
                                                  replace G95_0 := G95_0.ext e37
                                                  replace G100_0 := G100_0.ext e37
                                                  replace R104 := R104.ext e37
                                                  replace HR104 := HR104.ext e37
                                                  replace G205_0 := G205_0.ext e37
                                                  replace O5 := O5.ext e37
                                                  replace O6 := O6.ext e37
                                                  replace O9 := O9.ext e37
                                                  replace O12 := O12.ext e37
                                                  replace O15 := O15.ext e37
                                                  replace O20 := O20.ext e37
                                                  refine ov (xmove rfl) rfl rfl rfl ?_
                                                  refine ov (xextract rfl rfl) rfl rfl rfl ?_
                                                  refine ov (xextract rfl rfl) rfl rfl rfl ?_
                                                  refine ov (xassign rfl) rfl rfl rfl ?_
                                                  refine ov (xassign rfl) rfl rfl rfl ?_
                                                  refine ops_nil ?_
                                                  refine run_seq ?_
                                                  refine run_region ?_
                                                  refine ov (xmove rfl) rfl rfl rfl ?_
                                                  refine ov (xeql rfl rfl _ rfl) rfl rfl rfl ?_
                                                  refine ods (fun c231 => ?_) (fun c231 => ?_)
                                                  ·
                                                    refine ov (xmove rfl) rfl rfl rfl ?_
                                                    refine ov (xmove rfl) rfl rfl rfl ?_
                                                    refine ov (xeql rfl rfl _ rfl) rfl rfl rfl ?_
                                                    refine ods (fun c234 => ?_) (fun c234 => ?_)
                                                    ·
                                                      refine ov (xpick_t rfl rfl) rfl rfl rfl ?_
                                                      refine ov (xmove rfl) rfl rfl rfl ?_
                                                      refine ov (xmove rfl) rfl rfl rfl ?_
                                                      refine ov (xfieldAddr fo77f2 rfl) rfl rfl rfl ?_
                                                      refine ov (v := .string r39.To) (xload1 Try.isAgg9 rfl (O6.cells) rfl) rfl rfl rfl ?_
                                                      refine ov (xseql rfl rfl _ rfl) rfl rfl rfl ?_
                                                      refine ods (fun c240 => ?_) (fun c240 => ?_)
                                                      ·
                                                        refine ov (xpick_t rfl rfl) rfl rfl rfl ?_
                                                        refine ov (xmove rfl) rfl rfl rfl ?_
                                                        refine ov (xfieldAddr fo49f4 rfl) rfl rfl rfl ?_
                                                        refine ov (v := .slice q45 m45 d45) (xload1 Try.isAgg47 rfl (O9.cells) rfl) rfl rfl rfl ?_
                                                        refine ov (xlen Try.underlying47 rfl) rfl rfl rfl ?_
                                                        refine ov (xfieldAddr fo49f4 rfl) rfl rfl rfl ?_
                                                        refine ov (v := .slice q39 m39 d39) (xload1 Try.isAgg47 rfl (O5.cells) rfl) rfl rfl rfl ?_
                                                        refine ov (xlen Try.underlying47 rfl) rfl rfl rfl ?_
                                                        refine ov (xadd rfl rfl (by unfold I64; omega)) rfl rfl rfl ?_
                                                        refine ov (xeql rfl rfl _ rfl) rfl rfl rfl ?_
                                                        refine ov (xpick_t rfl rfl) rfl rfl rfl ?_
                                                        refine ov (xassign rfl) rfl rfl rfl ?_
                                                        refine ops_nil ?_
                                                        refine run_ret Try.func12 (res1 rfl rfl) ?_
                                                        exact ⟨_, rfl, congrArg Value.bool (decide_eq_true (by omega)), E⟩
                                                      · exfalso; exact c240 ov3
                                                    · exfalso; omega
                                                  · exfalso; omega
                                              · exfalso; have := hold_in (x := x56) (d := k56) (by omega) (by omega); rw [this] at c213; cases c213
                                            ·
                                              refine ov (xmove rfl) rfl rfl rfl ?_
                                              refine og rfl rfl rfl ?_
                                              refine og rfl rfl rfl ?_
                                              refine og rfl rfl rfl ?_
                                              refine og rfl rfl rfl ?_
                                              refine ov (xpick_f rfl rfl) rfl rfl rfl ?_
                                              refine ops_nil ?_
                                              refine run_cond_f rfl ?_
                                              refine run_skip ?_
                                              refine run_seq ?_
                                              refine run_seq ?_
                                              refine run_region ?_
                                              refine ov (xmove rfl) rfl rfl rfl ?_
                                              refine ov (xneq rfl rfl _ rfl) rfl rfl rfl ?_
                                              refine ods (fun c217 => ?_) (fun c217 => ?_)
                                              ·
                                                refine ops_nil ?_
                                                refine run_cond_t rfl ?_
                                                refine run_seq ?_
                                                refine run_region ?_
                                                refine ov (xassign rfl) rfl rfl rfl ?_
                                                refine ops_nil ?_
                                                refine run_ret Try.func12 (res1 rfl rfl) ?_
                                                exact ⟨_, rfl, rfl, E⟩
                                              ·
                                                obtain ⟨ov1, ov2, ov3, ov4⟩ := over_ok (by omega : (handOver x39 r39).2 = 0)
                                                refine ops_nil ?_
                                                refine run_cond_f rfl ?_
                                                refine run_skip ?_
                                                refine run_seq ?_
                                                refine run_region ?_
                                                refine ov (v := .agg #[.string (handOver x39 r39).1.Code, .string (handOver x39 r39).1.Found, .int .i64 (handOver x39 r39).1.Day, .int .i64 (handOver x39 r39).1.Seal, .slice q45 m45 d45]) (xloadN Try.isAgg49 Try.sizeOf49 rfl (O9.cells) rfl) rfl rfl rfl ?_
                                                refine oc (xcall Try.call61 rfl) rfl rfl rfl (FirstBreak_ok _ _ _ (handOver x39 r39).1 _ (G45.sl) (over_small sm39 hr39)) ?_
                                                rintro _ w35 ⟨rfl, e35⟩
                                                have z35 := e35.size
                                                have E := E.trans e35
                                                replace G39 := G39.ext e35
                                                replace G45 := G45.ext e35
                                                replace G51 := G51.ext e35
                                                replace G56 := G56.ext e35
                                                replace G72 := G72.ext e35
                                                replace G75_0 := G75_0.ext e35
                                                replace G80_0 := G80_0.ext e35
                                                replace G95_0 := G95_0.ext e35
                                                replace G100_0 := G100_0.ext e35
                                                replace R104 := R104.ext e35
                                                replace HR104 := HR104.ext e35
                                                replace G205_0 := G205_0.ext e35
                                                replace O5 := O5.ext e35
                                                replace O6 := O6.ext e35
                                                replace O9 := O9.ext e35
                                                replace O12 := O12.ext e35
                                                replace O15 := O15.ext e35
                                                replace O20 := O20.ext e35
                                                refine ov (xmove rfl) rfl rfl rfl ?_
                                                refine ov (xextract rfl rfl) rfl rfl rfl ?_
                                                refine ov (xextract rfl rfl) rfl rfl rfl ?_
                                                refine ov (xassign rfl) rfl rfl rfl ?_
                                                refine ov (xassign rfl) rfl rfl rfl ?_
                                                refine ops_nil ?_
                                                refine run_seq ?_
                                                refine run_region ?_
                                                refine ov (v := .agg #[.string (handOver x39 r39).1.Code, .string (handOver x39 r39).1.Found, .int .i64 (handOver x39 r39).1.Day, .int .i64 (handOver x39 r39).1.Seal, .slice q45 m45 d45]) (xloadN Try.isAgg49 Try.sizeOf49 rfl (O9.cells) rfl) rfl rfl rfl ?_
                                                refine ov (xfieldAddr fo77f0 rfl) rfl rfl rfl ?_
                                                refine ov (v := .int .i64 r39.Day) (xload1 Try.isAgg2 rfl (O6.cells) rfl) rfl rfl rfl ?_
                                                refine oc (xcall Try.call34 rfl) rfl rfl rfl (HolderOn_ok _ _ _ (handOver x39 r39).1 _ (G45.sl) (over_small sm39 hr39) r39.Day) ?_
                                                rintro _ w36 ⟨rfl, e36⟩
                                                have z36 := e36.size
                                                have E := E.trans e36
                                                replace G39 := G39.ext e36
                                                replace G45 := G45.ext e36
                                                replace G51 := G51.ext e36
                                                replace G56 := G56.ext e36
                                                replace G72 := G72.ext e36
                                                replace G75_0 := G75_0.ext e36
                                                replace G80_0 := G80_0.ext e36
                                                replace G95_0 := G95_0.ext e36
                                                replace G100_0 := G100_0.ext e36
                                                replace R104 := R104.ext e36
                                                replace HR104 := HR104.ext e36
                                                replace G205_0 := G205_0.ext e36
                                                replace O5 := O5.ext e36
                                                replace O6 := O6.ext e36
                                                replace O9 := O9.ext e36
                                                replace O12 := O12.ext e36
                                                replace O15 := O15.ext e36
                                                replace O20 := O20.ext e36
                                                refine ov (xmove rfl) rfl rfl rfl ?_
                                                refine ov (xextract rfl rfl) rfl rfl rfl ?_
                                                refine ov (xextract rfl rfl) rfl rfl rfl ?_
                                                refine ov (xassign rfl) rfl rfl rfl ?_
                                                refine ov (xassign rfl) rfl rfl rfl ?_
                                                refine ops_nil ?_
                                                refine run_seq ?_
                                                refine run_region ?_
                                                refine ov (xmove rfl) rfl rfl rfl ?_
                                                refine ov (xeql rfl rfl _ rfl) rfl rfl rfl ?_
                                                refine ods (fun c231 => ?_) (fun c231 => ?_)
                                                ·
                                                  refine ov (xmove rfl) rfl rfl rfl ?_
                                                  refine ov (xmove rfl) rfl rfl rfl ?_
                                                  refine ov (xeql rfl rfl _ rfl) rfl rfl rfl ?_
                                                  refine ods (fun c234 => ?_) (fun c234 => ?_)
                                                  ·
                                                    refine ov (xpick_t rfl rfl) rfl rfl rfl ?_
                                                    refine ov (xmove rfl) rfl rfl rfl ?_
                                                    refine ov (xmove rfl) rfl rfl rfl ?_
                                                    refine ov (xfieldAddr fo77f2 rfl) rfl rfl rfl ?_
                                                    refine ov (v := .string r39.To) (xload1 Try.isAgg9 rfl (O6.cells) rfl) rfl rfl rfl ?_
                                                    refine ov (xseql rfl rfl _ rfl) rfl rfl rfl ?_
                                                    refine ods (fun c240 => ?_) (fun c240 => ?_)
                                                    ·
                                                      refine ov (xpick_t rfl rfl) rfl rfl rfl ?_
                                                      refine ov (xmove rfl) rfl rfl rfl ?_
                                                      refine ov (xfieldAddr fo49f4 rfl) rfl rfl rfl ?_
                                                      refine ov (v := .slice q45 m45 d45) (xload1 Try.isAgg47 rfl (O9.cells) rfl) rfl rfl rfl ?_
                                                      refine ov (xlen Try.underlying47 rfl) rfl rfl rfl ?_
                                                      refine ov (xfieldAddr fo49f4 rfl) rfl rfl rfl ?_
                                                      refine ov (v := .slice q39 m39 d39) (xload1 Try.isAgg47 rfl (O5.cells) rfl) rfl rfl rfl ?_
                                                      refine ov (xlen Try.underlying47 rfl) rfl rfl rfl ?_
                                                      refine ov (xadd rfl rfl (by unfold I64; omega)) rfl rfl rfl ?_
                                                      refine ov (xeql rfl rfl _ rfl) rfl rfl rfl ?_
                                                      refine ov (xpick_t rfl rfl) rfl rfl rfl ?_
                                                      refine ov (xassign rfl) rfl rfl rfl ?_
                                                      refine ops_nil ?_
                                                      refine run_ret Try.func12 (res1 rfl rfl) ?_
                                                      exact ⟨_, rfl, congrArg Value.bool (decide_eq_true (by omega)), E⟩
                                                    · exfalso; exact c240 ov3
                                                  · exfalso; omega
                                                · exfalso; omega
                                          ·
                                            refine ov (xpick_t rfl rfl) rfl rfl rfl ?_
                                            refine ops_nil ?_
                                            refine run_cond_f rfl ?_
                                            refine run_skip ?_
                                            refine run_seq ?_
                                            refine run_seq ?_
                                            refine run_region ?_
                                            refine ov (xmove rfl) rfl rfl rfl ?_
                                            refine ov (xneq rfl rfl _ rfl) rfl rfl rfl ?_
                                            refine ods (fun c217 => ?_) (fun c217 => ?_)
                                            ·
                                              refine ops_nil ?_
                                              refine run_cond_t rfl ?_
                                              refine run_seq ?_
                                              refine run_region ?_
                                              refine ov (xassign rfl) rfl rfl rfl ?_
                                              refine ops_nil ?_
                                              refine run_ret Try.func12 (res1 rfl rfl) ?_
                                              exact ⟨_, rfl, rfl, E⟩
                                            ·
                                              obtain ⟨ov1, ov2, ov3, ov4⟩ := over_ok (by omega : (handOver x39 r39).2 = 0)
                                              refine ops_nil ?_
                                              refine run_cond_f rfl ?_
                                              refine run_skip ?_
                                              refine run_seq ?_
                                              refine run_region ?_
                                              refine ov (v := .agg #[.string (handOver x39 r39).1.Code, .string (handOver x39 r39).1.Found, .int .i64 (handOver x39 r39).1.Day, .int .i64 (handOver x39 r39).1.Seal, .slice q45 m45 d45]) (xloadN Try.isAgg49 Try.sizeOf49 rfl (O9.cells) rfl) rfl rfl rfl ?_
                                              refine oc (xcall Try.call61 rfl) rfl rfl rfl (FirstBreak_ok _ _ _ (handOver x39 r39).1 _ (G45.sl) (over_small sm39 hr39)) ?_
                                              rintro _ w34 ⟨rfl, e34⟩
                                              have z34 := e34.size
                                              have E := E.trans e34
                                              replace G39 := G39.ext e34
                                              replace G45 := G45.ext e34
                                              replace G51 := G51.ext e34
                                              replace G56 := G56.ext e34
                                              replace G72 := G72.ext e34
                                              replace G75_0 := G75_0.ext e34
                                              replace G80_0 := G80_0.ext e34
                                              replace G95_0 := G95_0.ext e34
                                              replace G100_0 := G100_0.ext e34
                                              replace R104 := R104.ext e34
                                              replace HR104 := HR104.ext e34
                                              replace O5 := O5.ext e34
                                              replace O6 := O6.ext e34
                                              replace O9 := O9.ext e34
                                              replace O12 := O12.ext e34
                                              replace O15 := O15.ext e34
                                              replace O20 := O20.ext e34
                                              refine ov (xmove rfl) rfl rfl rfl ?_
                                              refine ov (xextract rfl rfl) rfl rfl rfl ?_
                                              refine ov (xextract rfl rfl) rfl rfl rfl ?_
                                              refine ov (xassign rfl) rfl rfl rfl ?_
                                              refine ov (xassign rfl) rfl rfl rfl ?_
                                              refine ops_nil ?_
                                              refine run_seq ?_
                                              refine run_region ?_
                                              refine ov (v := .agg #[.string (handOver x39 r39).1.Code, .string (handOver x39 r39).1.Found, .int .i64 (handOver x39 r39).1.Day, .int .i64 (handOver x39 r39).1.Seal, .slice q45 m45 d45]) (xloadN Try.isAgg49 Try.sizeOf49 rfl (O9.cells) rfl) rfl rfl rfl ?_
                                              refine ov (xfieldAddr fo77f0 rfl) rfl rfl rfl ?_
                                              refine ov (v := .int .i64 r39.Day) (xload1 Try.isAgg2 rfl (O6.cells) rfl) rfl rfl rfl ?_
                                              refine oc (xcall Try.call34 rfl) rfl rfl rfl (HolderOn_ok _ _ _ (handOver x39 r39).1 _ (G45.sl) (over_small sm39 hr39) r39.Day) ?_
                                              rintro _ w35 ⟨rfl, e35⟩
                                              have z35 := e35.size
                                              have E := E.trans e35
                                              replace G39 := G39.ext e35
                                              replace G45 := G45.ext e35
                                              replace G51 := G51.ext e35
                                              replace G56 := G56.ext e35
                                              replace G72 := G72.ext e35
                                              replace G75_0 := G75_0.ext e35
                                              replace G80_0 := G80_0.ext e35
                                              replace G95_0 := G95_0.ext e35
                                              replace G100_0 := G100_0.ext e35
                                              replace R104 := R104.ext e35
                                              replace HR104 := HR104.ext e35
                                              replace O5 := O5.ext e35
                                              replace O6 := O6.ext e35
                                              replace O9 := O9.ext e35
                                              replace O12 := O12.ext e35
                                              replace O15 := O15.ext e35
                                              replace O20 := O20.ext e35
                                              refine ov (xmove rfl) rfl rfl rfl ?_
                                              refine ov (xextract rfl rfl) rfl rfl rfl ?_
                                              refine ov (xextract rfl rfl) rfl rfl rfl ?_
                                              refine ov (xassign rfl) rfl rfl rfl ?_
                                              refine ov (xassign rfl) rfl rfl rfl ?_
                                              refine ops_nil ?_
                                              refine run_seq ?_
                                              refine run_region ?_
                                              refine ov (xmove rfl) rfl rfl rfl ?_
                                              refine ov (xeql rfl rfl _ rfl) rfl rfl rfl ?_
                                              refine ods (fun c231 => ?_) (fun c231 => ?_)
                                              ·
                                                refine ov (xmove rfl) rfl rfl rfl ?_
                                                refine ov (xmove rfl) rfl rfl rfl ?_
                                                refine ov (xeql rfl rfl _ rfl) rfl rfl rfl ?_
                                                refine ods (fun c234 => ?_) (fun c234 => ?_)
                                                ·
                                                  refine ov (xpick_t rfl rfl) rfl rfl rfl ?_
                                                  refine ov (xmove rfl) rfl rfl rfl ?_
                                                  refine ov (xmove rfl) rfl rfl rfl ?_
                                                  refine ov (xfieldAddr fo77f2 rfl) rfl rfl rfl ?_
                                                  refine ov (v := .string r39.To) (xload1 Try.isAgg9 rfl (O6.cells) rfl) rfl rfl rfl ?_
                                                  refine ov (xseql rfl rfl _ rfl) rfl rfl rfl ?_
                                                  refine ods (fun c240 => ?_) (fun c240 => ?_)
                                                  ·
                                                    refine ov (xpick_t rfl rfl) rfl rfl rfl ?_
                                                    refine ov (xmove rfl) rfl rfl rfl ?_
                                                    refine ov (xfieldAddr fo49f4 rfl) rfl rfl rfl ?_
                                                    refine ov (v := .slice q45 m45 d45) (xload1 Try.isAgg47 rfl (O9.cells) rfl) rfl rfl rfl ?_
                                                    refine ov (xlen Try.underlying47 rfl) rfl rfl rfl ?_
                                                    refine ov (xfieldAddr fo49f4 rfl) rfl rfl rfl ?_
                                                    refine ov (v := .slice q39 m39 d39) (xload1 Try.isAgg47 rfl (O5.cells) rfl) rfl rfl rfl ?_
                                                    refine ov (xlen Try.underlying47 rfl) rfl rfl rfl ?_
                                                    refine ov (xadd rfl rfl (by unfold I64; omega)) rfl rfl rfl ?_
                                                    refine ov (xeql rfl rfl _ rfl) rfl rfl rfl ?_
                                                    refine ov (xpick_t rfl rfl) rfl rfl rfl ?_
                                                    refine ov (xassign rfl) rfl rfl rfl ?_
                                                    refine ops_nil ?_
                                                    refine run_ret Try.func12 (res1 rfl rfl) ?_
                                                    exact ⟨_, rfl, congrArg Value.bool (decide_eq_true (by omega)), E⟩
                                                  · exfalso; exact c240 ov3
                                                · exfalso; omega
                                              · exfalso; omega
                                        ·
                                          refine ov (xpick_t rfl rfl) rfl rfl rfl ?_
                                          refine ov (xmove rfl) rfl rfl rfl ?_
                                          refine og rfl rfl rfl ?_
                                          refine og rfl rfl rfl ?_
                                          refine ov (xpick_f rfl rfl) rfl rfl rfl ?_
                                          refine ops_nil ?_
                                          refine run_cond_f rfl ?_
                                          refine run_skip ?_
                                          refine run_seq ?_
                                          refine run_seq ?_
                                          refine run_region ?_
                                          refine ov (xmove rfl) rfl rfl rfl ?_
                                          refine ov (xneq rfl rfl _ rfl) rfl rfl rfl ?_
                                          refine ods (fun c217 => ?_) (fun c217 => ?_)
                                          ·
                                            refine ops_nil ?_
                                            refine run_cond_t rfl ?_
                                            refine run_seq ?_
                                            refine run_region ?_
                                            refine ov (xassign rfl) rfl rfl rfl ?_
                                            refine ops_nil ?_
                                            refine run_ret Try.func12 (res1 rfl rfl) ?_
                                            exact ⟨_, rfl, rfl, E⟩
                                          ·
                                            obtain ⟨ov1, ov2, ov3, ov4⟩ := over_ok (by omega : (handOver x39 r39).2 = 0)
                                            refine ops_nil ?_
                                            refine run_cond_f rfl ?_
                                            refine run_skip ?_
                                            refine run_seq ?_
                                            refine run_region ?_
                                            refine ov (v := .agg #[.string (handOver x39 r39).1.Code, .string (handOver x39 r39).1.Found, .int .i64 (handOver x39 r39).1.Day, .int .i64 (handOver x39 r39).1.Seal, .slice q45 m45 d45]) (xloadN Try.isAgg49 Try.sizeOf49 rfl (O9.cells) rfl) rfl rfl rfl ?_
                                            refine oc (xcall Try.call61 rfl) rfl rfl rfl (FirstBreak_ok _ _ _ (handOver x39 r39).1 _ (G45.sl) (over_small sm39 hr39)) ?_
                                            rintro _ w34 ⟨rfl, e34⟩
                                            have z34 := e34.size
                                            have E := E.trans e34
                                            replace G39 := G39.ext e34
                                            replace G45 := G45.ext e34
                                            replace G51 := G51.ext e34
                                            replace G56 := G56.ext e34
                                            replace G72 := G72.ext e34
                                            replace G75_0 := G75_0.ext e34
                                            replace G80_0 := G80_0.ext e34
                                            replace G95_0 := G95_0.ext e34
                                            replace G100_0 := G100_0.ext e34
                                            replace R104 := R104.ext e34
                                            replace HR104 := HR104.ext e34
                                            replace O5 := O5.ext e34
                                            replace O6 := O6.ext e34
                                            replace O9 := O9.ext e34
                                            replace O12 := O12.ext e34
                                            replace O15 := O15.ext e34
                                            replace O20 := O20.ext e34
                                            refine ov (xmove rfl) rfl rfl rfl ?_
                                            refine ov (xextract rfl rfl) rfl rfl rfl ?_
                                            refine ov (xextract rfl rfl) rfl rfl rfl ?_
                                            refine ov (xassign rfl) rfl rfl rfl ?_
                                            refine ov (xassign rfl) rfl rfl rfl ?_
                                            refine ops_nil ?_
                                            refine run_seq ?_
                                            refine run_region ?_
                                            refine ov (v := .agg #[.string (handOver x39 r39).1.Code, .string (handOver x39 r39).1.Found, .int .i64 (handOver x39 r39).1.Day, .int .i64 (handOver x39 r39).1.Seal, .slice q45 m45 d45]) (xloadN Try.isAgg49 Try.sizeOf49 rfl (O9.cells) rfl) rfl rfl rfl ?_
                                            refine ov (xfieldAddr fo77f0 rfl) rfl rfl rfl ?_
                                            refine ov (v := .int .i64 r39.Day) (xload1 Try.isAgg2 rfl (O6.cells) rfl) rfl rfl rfl ?_
                                            refine oc (xcall Try.call34 rfl) rfl rfl rfl (HolderOn_ok _ _ _ (handOver x39 r39).1 _ (G45.sl) (over_small sm39 hr39) r39.Day) ?_
                                            rintro _ w35 ⟨rfl, e35⟩
                                            have z35 := e35.size
                                            have E := E.trans e35
                                            replace G39 := G39.ext e35
                                            replace G45 := G45.ext e35
                                            replace G51 := G51.ext e35
                                            replace G56 := G56.ext e35
                                            replace G72 := G72.ext e35
                                            replace G75_0 := G75_0.ext e35
                                            replace G80_0 := G80_0.ext e35
                                            replace G95_0 := G95_0.ext e35
                                            replace G100_0 := G100_0.ext e35
                                            replace R104 := R104.ext e35
                                            replace HR104 := HR104.ext e35
                                            replace O5 := O5.ext e35
                                            replace O6 := O6.ext e35
                                            replace O9 := O9.ext e35
                                            replace O12 := O12.ext e35
                                            replace O15 := O15.ext e35
                                            replace O20 := O20.ext e35
                                            refine ov (xmove rfl) rfl rfl rfl ?_
                                            refine ov (xextract rfl rfl) rfl rfl rfl ?_
                                            refine ov (xextract rfl rfl) rfl rfl rfl ?_
                                            refine ov (xassign rfl) rfl rfl rfl ?_
                                            refine ov (xassign rfl) rfl rfl rfl ?_
                                            refine ops_nil ?_
                                            refine run_seq ?_
                                            refine run_region ?_
                                            refine ov (xmove rfl) rfl rfl rfl ?_
                                            refine ov (xeql rfl rfl _ rfl) rfl rfl rfl ?_
                                            refine ods (fun c231 => ?_) (fun c231 => ?_)
                                            ·
                                              refine ov (xmove rfl) rfl rfl rfl ?_
                                              refine ov (xmove rfl) rfl rfl rfl ?_
                                              refine ov (xeql rfl rfl _ rfl) rfl rfl rfl ?_
                                              refine ods (fun c234 => ?_) (fun c234 => ?_)
                                              ·
                                                refine ov (xpick_t rfl rfl) rfl rfl rfl ?_
                                                refine ov (xmove rfl) rfl rfl rfl ?_
                                                refine ov (xmove rfl) rfl rfl rfl ?_
                                                refine ov (xfieldAddr fo77f2 rfl) rfl rfl rfl ?_
                                                refine ov (v := .string r39.To) (xload1 Try.isAgg9 rfl (O6.cells) rfl) rfl rfl rfl ?_
                                                refine ov (xseql rfl rfl _ rfl) rfl rfl rfl ?_
                                                refine ods (fun c240 => ?_) (fun c240 => ?_)
                                                ·
                                                  refine ov (xpick_t rfl rfl) rfl rfl rfl ?_
                                                  refine ov (xmove rfl) rfl rfl rfl ?_
                                                  refine ov (xfieldAddr fo49f4 rfl) rfl rfl rfl ?_
                                                  refine ov (v := .slice q45 m45 d45) (xload1 Try.isAgg47 rfl (O9.cells) rfl) rfl rfl rfl ?_
                                                  refine ov (xlen Try.underlying47 rfl) rfl rfl rfl ?_
                                                  refine ov (xfieldAddr fo49f4 rfl) rfl rfl rfl ?_
                                                  refine ov (v := .slice q39 m39 d39) (xload1 Try.isAgg47 rfl (O5.cells) rfl) rfl rfl rfl ?_
                                                  refine ov (xlen Try.underlying47 rfl) rfl rfl rfl ?_
                                                  refine ov (xadd rfl rfl (by unfold I64; omega)) rfl rfl rfl ?_
                                                  refine ov (xeql rfl rfl _ rfl) rfl rfl rfl ?_
                                                  refine ov (xpick_t rfl rfl) rfl rfl rfl ?_
                                                  refine ov (xassign rfl) rfl rfl rfl ?_
                                                  refine ops_nil ?_
                                                  refine run_ret Try.func12 (res1 rfl rfl) ?_
                                                  exact ⟨_, rfl, congrArg Value.bool (decide_eq_true (by omega)), E⟩
                                                · exfalso; exact c240 ov3
                                              · exfalso; omega
                                            · exfalso; omega
                                      ·
                                        refine ov (xmove rfl) rfl rfl rfl ?_
                                        refine og rfl rfl rfl ?_
                                        refine og rfl rfl rfl ?_
                                        refine ov (xpick_f rfl rfl) rfl rfl rfl ?_
                                        refine ov (xmove rfl) rfl rfl rfl ?_
                                        refine og rfl rfl rfl ?_
                                        refine og rfl rfl rfl ?_
                                        refine ov (xpick_f rfl rfl) rfl rfl rfl ?_
                                        refine ops_nil ?_
                                        refine run_cond_f rfl ?_
                                        refine run_skip ?_
                                        refine run_seq ?_
                                        refine run_seq ?_
                                        refine run_region ?_
                                        refine ov (xmove rfl) rfl rfl rfl ?_
                                        refine ov (xneq rfl rfl _ rfl) rfl rfl rfl ?_
                                        refine ods (fun c217 => ?_) (fun c217 => ?_)
                                        ·
                                          refine ops_nil ?_
                                          refine run_cond_t rfl ?_
                                          refine run_seq ?_
                                          refine run_region ?_
                                          refine ov (xassign rfl) rfl rfl rfl ?_
                                          refine ops_nil ?_
                                          refine run_ret Try.func12 (res1 rfl rfl) ?_
                                          exact ⟨_, rfl, rfl, E⟩
                                        ·
                                          obtain ⟨ov1, ov2, ov3, ov4⟩ := over_ok (by omega : (handOver x39 r39).2 = 0)
                                          refine ops_nil ?_
                                          refine run_cond_f rfl ?_
                                          refine run_skip ?_
                                          refine run_seq ?_
                                          refine run_region ?_
                                          refine ov (v := .agg #[.string (handOver x39 r39).1.Code, .string (handOver x39 r39).1.Found, .int .i64 (handOver x39 r39).1.Day, .int .i64 (handOver x39 r39).1.Seal, .slice q45 m45 d45]) (xloadN Try.isAgg49 Try.sizeOf49 rfl (O9.cells) rfl) rfl rfl rfl ?_
                                          refine oc (xcall Try.call61 rfl) rfl rfl rfl (FirstBreak_ok _ _ _ (handOver x39 r39).1 _ (G45.sl) (over_small sm39 hr39)) ?_
                                          rintro _ w34 ⟨rfl, e34⟩
                                          have z34 := e34.size
                                          have E := E.trans e34
                                          replace G39 := G39.ext e34
                                          replace G45 := G45.ext e34
                                          replace G51 := G51.ext e34
                                          replace G56 := G56.ext e34
                                          replace G72 := G72.ext e34
                                          replace G75_0 := G75_0.ext e34
                                          replace G80_0 := G80_0.ext e34
                                          replace G95_0 := G95_0.ext e34
                                          replace G100_0 := G100_0.ext e34
                                          replace R104 := R104.ext e34
                                          replace HR104 := HR104.ext e34
                                          replace O5 := O5.ext e34
                                          replace O6 := O6.ext e34
                                          replace O9 := O9.ext e34
                                          replace O12 := O12.ext e34
                                          replace O15 := O15.ext e34
                                          replace O20 := O20.ext e34
                                          refine ov (xmove rfl) rfl rfl rfl ?_
                                          refine ov (xextract rfl rfl) rfl rfl rfl ?_
                                          refine ov (xextract rfl rfl) rfl rfl rfl ?_
                                          refine ov (xassign rfl) rfl rfl rfl ?_
                                          refine ov (xassign rfl) rfl rfl rfl ?_
                                          refine ops_nil ?_
                                          refine run_seq ?_
                                          refine run_region ?_
                                          refine ov (v := .agg #[.string (handOver x39 r39).1.Code, .string (handOver x39 r39).1.Found, .int .i64 (handOver x39 r39).1.Day, .int .i64 (handOver x39 r39).1.Seal, .slice q45 m45 d45]) (xloadN Try.isAgg49 Try.sizeOf49 rfl (O9.cells) rfl) rfl rfl rfl ?_
                                          refine ov (xfieldAddr fo77f0 rfl) rfl rfl rfl ?_
                                          refine ov (v := .int .i64 r39.Day) (xload1 Try.isAgg2 rfl (O6.cells) rfl) rfl rfl rfl ?_
                                          refine oc (xcall Try.call34 rfl) rfl rfl rfl (HolderOn_ok _ _ _ (handOver x39 r39).1 _ (G45.sl) (over_small sm39 hr39) r39.Day) ?_
                                          rintro _ w35 ⟨rfl, e35⟩
                                          have z35 := e35.size
                                          have E := E.trans e35
                                          replace G39 := G39.ext e35
                                          replace G45 := G45.ext e35
                                          replace G51 := G51.ext e35
                                          replace G56 := G56.ext e35
                                          replace G72 := G72.ext e35
                                          replace G75_0 := G75_0.ext e35
                                          replace G80_0 := G80_0.ext e35
                                          replace G95_0 := G95_0.ext e35
                                          replace G100_0 := G100_0.ext e35
                                          replace R104 := R104.ext e35
                                          replace HR104 := HR104.ext e35
                                          replace O5 := O5.ext e35
                                          replace O6 := O6.ext e35
                                          replace O9 := O9.ext e35
                                          replace O12 := O12.ext e35
                                          replace O15 := O15.ext e35
                                          replace O20 := O20.ext e35
                                          refine ov (xmove rfl) rfl rfl rfl ?_
                                          refine ov (xextract rfl rfl) rfl rfl rfl ?_
                                          refine ov (xextract rfl rfl) rfl rfl rfl ?_
                                          refine ov (xassign rfl) rfl rfl rfl ?_
                                          refine ov (xassign rfl) rfl rfl rfl ?_
                                          refine ops_nil ?_
                                          refine run_seq ?_
                                          refine run_region ?_
                                          refine ov (xmove rfl) rfl rfl rfl ?_
                                          refine ov (xeql rfl rfl _ rfl) rfl rfl rfl ?_
                                          refine ods (fun c231 => ?_) (fun c231 => ?_)
                                          ·
                                            refine ov (xmove rfl) rfl rfl rfl ?_
                                            refine ov (xmove rfl) rfl rfl rfl ?_
                                            refine ov (xeql rfl rfl _ rfl) rfl rfl rfl ?_
                                            refine ods (fun c234 => ?_) (fun c234 => ?_)
                                            ·
                                              refine ov (xpick_t rfl rfl) rfl rfl rfl ?_
                                              refine ov (xmove rfl) rfl rfl rfl ?_
                                              refine ov (xmove rfl) rfl rfl rfl ?_
                                              refine ov (xfieldAddr fo77f2 rfl) rfl rfl rfl ?_
                                              refine ov (v := .string r39.To) (xload1 Try.isAgg9 rfl (O6.cells) rfl) rfl rfl rfl ?_
                                              refine ov (xseql rfl rfl _ rfl) rfl rfl rfl ?_
                                              refine ods (fun c240 => ?_) (fun c240 => ?_)
                                              ·
                                                refine ov (xpick_t rfl rfl) rfl rfl rfl ?_
                                                refine ov (xmove rfl) rfl rfl rfl ?_
                                                refine ov (xfieldAddr fo49f4 rfl) rfl rfl rfl ?_
                                                refine ov (v := .slice q45 m45 d45) (xload1 Try.isAgg47 rfl (O9.cells) rfl) rfl rfl rfl ?_
                                                refine ov (xlen Try.underlying47 rfl) rfl rfl rfl ?_
                                                refine ov (xfieldAddr fo49f4 rfl) rfl rfl rfl ?_
                                                refine ov (v := .slice q39 m39 d39) (xload1 Try.isAgg47 rfl (O5.cells) rfl) rfl rfl rfl ?_
                                                refine ov (xlen Try.underlying47 rfl) rfl rfl rfl ?_
                                                refine ov (xadd rfl rfl (by unfold I64; omega)) rfl rfl rfl ?_
                                                refine ov (xeql rfl rfl _ rfl) rfl rfl rfl ?_
                                                refine ov (xpick_t rfl rfl) rfl rfl rfl ?_
                                                refine ov (xassign rfl) rfl rfl rfl ?_
                                                refine ops_nil ?_
                                                refine run_ret Try.func12 (res1 rfl rfl) ?_
                                                exact ⟨_, rfl, congrArg Value.bool (decide_eq_true (by omega)), E⟩
                                              · exfalso; exact c240 ov3
                                            · exfalso; omega
                                          · exfalso; omega
                                ·
                                  refine ov (xmove rfl) rfl rfl rfl ?_
                                  refine og rfl rfl rfl ?_
                                  refine og rfl rfl rfl ?_
                                  refine og rfl rfl rfl ?_
                                  refine og rfl rfl rfl ?_
                                  refine og rfl rfl rfl ?_
                                  refine og rfl rfl rfl ?_
                                  refine og rfl rfl rfl ?_
                                  refine og rfl rfl rfl ?_
                                  refine og rfl rfl rfl ?_
                                  refine og rfl rfl rfl ?_
                                  refine og rfl rfl rfl ?_
                                  refine ov (xpick_f rfl rfl) rfl rfl rfl ?_
                                  refine ov (xpick_f rfl rfl) rfl rfl rfl ?_
                                  refine ops_nil ?_
                                  refine run_cond_f rfl ?_
                                  refine run_skip ?_
                                  refine run_seq ?_
                                  refine run_seq ?_
                                  refine run_region ?_
                                  refine ov (xmove rfl) rfl rfl rfl ?_
                                  refine ov (xeql rfl rfl _ rfl) rfl rfl rfl ?_
                                  refine ods (fun c194 => ?_) (fun c194 => ?_)
                                  ·
                                    refine ov (xmove rfl) rfl rfl rfl ?_
                                    refine ov (xmove rfl) rfl rfl rfl ?_
                                    refine ov (xeql rfl rfl _ rfl) rfl rfl rfl ?_
                                    refine ods (fun c197 => ?_) (fun c197 => ?_)
                                    ·
                                      refine ov (xpick_t rfl rfl) rfl rfl rfl ?_
                                      refine ov (xmove rfl) rfl rfl rfl ?_
                                      refine ov (xmove rfl) rfl rfl rfl ?_
                                      refine ov (xgeq rfl rfl _ rfl) rfl rfl rfl ?_
                                      refine ods (fun c201 => ?_) (fun c201 => ?_)
                                      ·
                                        refine ov (xpick_t rfl rfl) rfl rfl rfl ?_
                                        refine ops_nil ?_
                                        refine run_cond_t rfl ?_
                                        refine run_seq ?_
                                        refine run_region ?_
                                        refine ov (v := .agg #[.string x56.Code, .string x56.Found, .int .i64 x56.Day, .int .i64 x56.Seal, .slice q56 m56 d56]) (xloadN Try.isAgg49 Try.sizeOf49 rfl (O15.cells) rfl) rfl rfl rfl ?_
                                        refine oc (xcall Try.call46 rfl) rfl rfl rfl (HoldersOf_ok _ _ _ x56 _ (G56.sl) sm56) ?_
                                        rintro _ w34 ⟨e34, q205_0, m205_0, d205_0, rfl, G205_0⟩
                                        have z34 := e34.size
                                        have E := E.trans e34
                                        replace G39 := G39.ext e34
                                        replace G45 := G45.ext e34
                                        replace G51 := G51.ext e34
                                        replace G56 := G56.ext e34
                                        replace G72 := G72.ext e34
                                        replace G75_0 := G75_0.ext e34
                                        replace G80_0 := G80_0.ext e34
                                        replace G95_0 := G95_0.ext e34
                                        replace G100_0 := G100_0.ext e34
                                        replace R104 := R104.ext e34
                                        replace HR104 := HR104.ext e34
                                        replace O5 := O5.ext e34
                                        replace O6 := O6.ext e34
                                        replace O9 := O9.ext e34
                                        replace O12 := O12.ext e34
                                        replace O15 := O15.ext e34
                                        replace O20 := O20.ext e34
                                        have lG205_0 := G205_0.len
                                        have hal205 := holdersOf_len x56
                                        refine ov (xmove rfl) rfl rfl rfl ?_
                                        refine ov (xextract rfl rfl) rfl rfl rfl ?_
                                        refine ov (xextract rfl rfl) rfl rfl rfl ?_
                                        refine ov (xassign rfl) rfl rfl rfl ?_
                                        refine ov (xassign rfl) rfl rfl rfl ?_
                                        refine ops_nil ?_
                                        refine run_seq ?_
                                        refine run_region ?_
                                        refine ov (xmove rfl) rfl rfl rfl ?_
                                        refine ov (xeql rfl rfl _ rfl) rfl rfl rfl ?_
                                        refine ods (fun c209 => ?_) (fun c209 => ?_)
                                        ·
                                          refine ov (xmove rfl) rfl rfl rfl ?_
                                          refine ov (xmove rfl) rfl rfl rfl ?_
                                          refine ov (xmove rfl) rfl rfl rfl ?_
                                          refine oc (xcall Try.call49 rfl) rfl rfl rfl (hasText_ok _ _ _ _ ((holderOn x56 k56).1) _ (G205_0.sl)) ?_
                                          rintro _ w35 ⟨rfl, e35⟩
                                          have z35 := e35.size
                                          have E := E.trans e35
                                          replace G39 := G39.ext e35
                                          replace G45 := G45.ext e35
                                          replace G51 := G51.ext e35
                                          replace G56 := G56.ext e35
                                          replace G72 := G72.ext e35
                                          replace G75_0 := G75_0.ext e35
                                          replace G80_0 := G80_0.ext e35
                                          replace G95_0 := G95_0.ext e35
                                          replace G100_0 := G100_0.ext e35
                                          replace R104 := R104.ext e35
                                          replace HR104 := HR104.ext e35
                                          replace G205_0 := G205_0.ext e35
                                          replace O5 := O5.ext e35
                                          replace O6 := O6.ext e35
                                          replace O9 := O9.ext e35
                                          replace O12 := O12.ext e35
                                          replace O15 := O15.ext e35
                                          replace O20 := O20.ext e35
                                          refine obs (fun c213 => ?_) (fun c213 => ?_)
                                          ·
                                            refine ov (xnot rfl) rfl rfl rfl ?_
                                            refine ov (xpick_t rfl rfl) rfl rfl rfl ?_
                                            refine ops_nil ?_
                                            refine run_cond_f rfl ?_
                                            refine run_skip ?_
                                            refine run_seq ?_
                                            refine run_seq ?_
                                            refine run_region ?_
                                            refine ov (xmove rfl) rfl rfl rfl ?_
                                            refine ov (xneq rfl rfl _ rfl) rfl rfl rfl ?_
                                            refine ods (fun c217 => ?_) (fun c217 => ?_)
                                            ·
                                              refine ops_nil ?_
                                              refine run_cond_t rfl ?_
                                              refine run_seq ?_
                                              refine run_region ?_
                                              refine ov (xassign rfl) rfl rfl rfl ?_
                                              refine ops_nil ?_
                                              refine run_ret Try.func12 (res1 rfl rfl) ?_
                                              exact ⟨_, rfl, rfl, E⟩
                                            ·
                                              obtain ⟨ov1, ov2, ov3, ov4⟩ := over_ok (by omega : (handOver x39 r39).2 = 0)
                                              refine ops_nil ?_
                                              refine run_cond_f rfl ?_
                                              refine run_skip ?_
                                              refine run_seq ?_
                                              refine run_region ?_
                                              refine ov (v := .agg #[.string (handOver x39 r39).1.Code, .string (handOver x39 r39).1.Found, .int .i64 (handOver x39 r39).1.Day, .int .i64 (handOver x39 r39).1.Seal, .slice q45 m45 d45]) (xloadN Try.isAgg49 Try.sizeOf49 rfl (O9.cells) rfl) rfl rfl rfl ?_
                                              refine oc (xcall Try.call61 rfl) rfl rfl rfl (FirstBreak_ok _ _ _ (handOver x39 r39).1 _ (G45.sl) (over_small sm39 hr39)) ?_
                                              rintro _ w36 ⟨rfl, e36⟩
                                              have z36 := e36.size
                                              have E := E.trans e36
                                              replace G39 := G39.ext e36
                                              replace G45 := G45.ext e36
                                              replace G51 := G51.ext e36
                                              replace G56 := G56.ext e36
                                              replace G72 := G72.ext e36
                                              replace G75_0 := G75_0.ext e36
                                              replace G80_0 := G80_0.ext e36
                                              replace G95_0 := G95_0.ext e36
                                              replace G100_0 := G100_0.ext e36
                                              replace R104 := R104.ext e36
                                              replace HR104 := HR104.ext e36
                                              replace G205_0 := G205_0.ext e36
                                              replace O5 := O5.ext e36
                                              replace O6 := O6.ext e36
                                              replace O9 := O9.ext e36
                                              replace O12 := O12.ext e36
                                              replace O15 := O15.ext e36
                                              replace O20 := O20.ext e36
                                              refine ov (xmove rfl) rfl rfl rfl ?_
                                              refine ov (xextract rfl rfl) rfl rfl rfl ?_
                                              refine ov (xextract rfl rfl) rfl rfl rfl ?_
                                              refine ov (xassign rfl) rfl rfl rfl ?_
                                              refine ov (xassign rfl) rfl rfl rfl ?_
                                              refine ops_nil ?_
                                              refine run_seq ?_
                                              refine run_region ?_
                                              refine ov (v := .agg #[.string (handOver x39 r39).1.Code, .string (handOver x39 r39).1.Found, .int .i64 (handOver x39 r39).1.Day, .int .i64 (handOver x39 r39).1.Seal, .slice q45 m45 d45]) (xloadN Try.isAgg49 Try.sizeOf49 rfl (O9.cells) rfl) rfl rfl rfl ?_
                                              refine ov (xfieldAddr fo77f0 rfl) rfl rfl rfl ?_
                                              refine ov (v := .int .i64 r39.Day) (xload1 Try.isAgg2 rfl (O6.cells) rfl) rfl rfl rfl ?_
                                              refine oc (xcall Try.call34 rfl) rfl rfl rfl (HolderOn_ok _ _ _ (handOver x39 r39).1 _ (G45.sl) (over_small sm39 hr39) r39.Day) ?_
                                              rintro _ w37 ⟨rfl, e37⟩
                                              have z37 := e37.size
                                              have E := E.trans e37
                                              replace G39 := G39.ext e37
                                              replace G45 := G45.ext e37
                                              replace G51 := G51.ext e37
                                              replace G56 := G56.ext e37
                                              replace G72 := G72.ext e37
                                              replace G75_0 := G75_0.ext e37
                                              replace G80_0 := G80_0.ext e37
                                              replace G95_0 := G95_0.ext e37
                                              replace G100_0 := G100_0.ext e37
                                              replace R104 := R104.ext e37
                                              replace HR104 := HR104.ext e37
                                              replace G205_0 := G205_0.ext e37
                                              replace O5 := O5.ext e37
                                              replace O6 := O6.ext e37
                                              replace O9 := O9.ext e37
                                              replace O12 := O12.ext e37
                                              replace O15 := O15.ext e37
                                              replace O20 := O20.ext e37
                                              refine ov (xmove rfl) rfl rfl rfl ?_
                                              refine ov (xextract rfl rfl) rfl rfl rfl ?_
                                              refine ov (xextract rfl rfl) rfl rfl rfl ?_
                                              refine ov (xassign rfl) rfl rfl rfl ?_
                                              refine ov (xassign rfl) rfl rfl rfl ?_
                                              refine ops_nil ?_
                                              refine run_seq ?_
                                              refine run_region ?_
                                              refine ov (xmove rfl) rfl rfl rfl ?_
                                              refine ov (xeql rfl rfl _ rfl) rfl rfl rfl ?_
                                              refine ods (fun c231 => ?_) (fun c231 => ?_)
                                              ·
                                                refine ov (xmove rfl) rfl rfl rfl ?_
                                                refine ov (xmove rfl) rfl rfl rfl ?_
                                                refine ov (xeql rfl rfl _ rfl) rfl rfl rfl ?_
                                                refine ods (fun c234 => ?_) (fun c234 => ?_)
                                                ·
                                                  refine ov (xpick_t rfl rfl) rfl rfl rfl ?_
                                                  refine ov (xmove rfl) rfl rfl rfl ?_
                                                  refine ov (xmove rfl) rfl rfl rfl ?_
                                                  refine ov (xfieldAddr fo77f2 rfl) rfl rfl rfl ?_
                                                  refine ov (v := .string r39.To) (xload1 Try.isAgg9 rfl (O6.cells) rfl) rfl rfl rfl ?_
                                                  refine ov (xseql rfl rfl _ rfl) rfl rfl rfl ?_
                                                  refine ods (fun c240 => ?_) (fun c240 => ?_)
                                                  ·
                                                    refine ov (xpick_t rfl rfl) rfl rfl rfl ?_
                                                    refine ov (xmove rfl) rfl rfl rfl ?_
                                                    refine ov (xfieldAddr fo49f4 rfl) rfl rfl rfl ?_
                                                    refine ov (v := .slice q45 m45 d45) (xload1 Try.isAgg47 rfl (O9.cells) rfl) rfl rfl rfl ?_
                                                    refine ov (xlen Try.underlying47 rfl) rfl rfl rfl ?_
                                                    refine ov (xfieldAddr fo49f4 rfl) rfl rfl rfl ?_
                                                    refine ov (v := .slice q39 m39 d39) (xload1 Try.isAgg47 rfl (O5.cells) rfl) rfl rfl rfl ?_
                                                    refine ov (xlen Try.underlying47 rfl) rfl rfl rfl ?_
                                                    refine ov (xadd rfl rfl (by unfold I64; omega)) rfl rfl rfl ?_
                                                    refine ov (xeql rfl rfl _ rfl) rfl rfl rfl ?_
                                                    refine ov (xpick_t rfl rfl) rfl rfl rfl ?_
                                                    refine ov (xassign rfl) rfl rfl rfl ?_
                                                    refine ops_nil ?_
                                                    refine run_ret Try.func12 (res1 rfl rfl) ?_
                                                    exact ⟨_, rfl, congrArg Value.bool (decide_eq_true (by omega)), E⟩
                                                  · exfalso; exact c240 ov3
                                                · exfalso; omega
                                              · exfalso; omega
                                          · exfalso; have := hold_in (x := x56) (d := k56) (by omega) (by omega); rw [this] at c213; cases c213
                                        ·
                                          refine ov (xmove rfl) rfl rfl rfl ?_
                                          refine og rfl rfl rfl ?_
                                          refine og rfl rfl rfl ?_
                                          refine og rfl rfl rfl ?_
                                          refine og rfl rfl rfl ?_
                                          refine ov (xpick_f rfl rfl) rfl rfl rfl ?_
                                          refine ops_nil ?_
                                          refine run_cond_f rfl ?_
                                          refine run_skip ?_
                                          refine run_seq ?_
                                          refine run_seq ?_
                                          refine run_region ?_
                                          refine ov (xmove rfl) rfl rfl rfl ?_
                                          refine ov (xneq rfl rfl _ rfl) rfl rfl rfl ?_
                                          refine ods (fun c217 => ?_) (fun c217 => ?_)
                                          ·
                                            refine ops_nil ?_
                                            refine run_cond_t rfl ?_
                                            refine run_seq ?_
                                            refine run_region ?_
                                            refine ov (xassign rfl) rfl rfl rfl ?_
                                            refine ops_nil ?_
                                            refine run_ret Try.func12 (res1 rfl rfl) ?_
                                            exact ⟨_, rfl, rfl, E⟩
                                          ·
                                            obtain ⟨ov1, ov2, ov3, ov4⟩ := over_ok (by omega : (handOver x39 r39).2 = 0)
                                            refine ops_nil ?_
                                            refine run_cond_f rfl ?_
                                            refine run_skip ?_
                                            refine run_seq ?_
                                            refine run_region ?_
                                            refine ov (v := .agg #[.string (handOver x39 r39).1.Code, .string (handOver x39 r39).1.Found, .int .i64 (handOver x39 r39).1.Day, .int .i64 (handOver x39 r39).1.Seal, .slice q45 m45 d45]) (xloadN Try.isAgg49 Try.sizeOf49 rfl (O9.cells) rfl) rfl rfl rfl ?_
                                            refine oc (xcall Try.call61 rfl) rfl rfl rfl (FirstBreak_ok _ _ _ (handOver x39 r39).1 _ (G45.sl) (over_small sm39 hr39)) ?_
                                            rintro _ w35 ⟨rfl, e35⟩
                                            have z35 := e35.size
                                            have E := E.trans e35
                                            replace G39 := G39.ext e35
                                            replace G45 := G45.ext e35
                                            replace G51 := G51.ext e35
                                            replace G56 := G56.ext e35
                                            replace G72 := G72.ext e35
                                            replace G75_0 := G75_0.ext e35
                                            replace G80_0 := G80_0.ext e35
                                            replace G95_0 := G95_0.ext e35
                                            replace G100_0 := G100_0.ext e35
                                            replace R104 := R104.ext e35
                                            replace HR104 := HR104.ext e35
                                            replace G205_0 := G205_0.ext e35
                                            replace O5 := O5.ext e35
                                            replace O6 := O6.ext e35
                                            replace O9 := O9.ext e35
                                            replace O12 := O12.ext e35
                                            replace O15 := O15.ext e35
                                            replace O20 := O20.ext e35
                                            refine ov (xmove rfl) rfl rfl rfl ?_
                                            refine ov (xextract rfl rfl) rfl rfl rfl ?_
                                            refine ov (xextract rfl rfl) rfl rfl rfl ?_
                                            refine ov (xassign rfl) rfl rfl rfl ?_
                                            refine ov (xassign rfl) rfl rfl rfl ?_
                                            refine ops_nil ?_
                                            refine run_seq ?_
                                            refine run_region ?_
                                            refine ov (v := .agg #[.string (handOver x39 r39).1.Code, .string (handOver x39 r39).1.Found, .int .i64 (handOver x39 r39).1.Day, .int .i64 (handOver x39 r39).1.Seal, .slice q45 m45 d45]) (xloadN Try.isAgg49 Try.sizeOf49 rfl (O9.cells) rfl) rfl rfl rfl ?_
                                            refine ov (xfieldAddr fo77f0 rfl) rfl rfl rfl ?_
                                            refine ov (v := .int .i64 r39.Day) (xload1 Try.isAgg2 rfl (O6.cells) rfl) rfl rfl rfl ?_
                                            refine oc (xcall Try.call34 rfl) rfl rfl rfl (HolderOn_ok _ _ _ (handOver x39 r39).1 _ (G45.sl) (over_small sm39 hr39) r39.Day) ?_
                                            rintro _ w36 ⟨rfl, e36⟩
                                            have z36 := e36.size
                                            have E := E.trans e36
                                            replace G39 := G39.ext e36
                                            replace G45 := G45.ext e36
                                            replace G51 := G51.ext e36
                                            replace G56 := G56.ext e36
                                            replace G72 := G72.ext e36
                                            replace G75_0 := G75_0.ext e36
                                            replace G80_0 := G80_0.ext e36
                                            replace G95_0 := G95_0.ext e36
                                            replace G100_0 := G100_0.ext e36
                                            replace R104 := R104.ext e36
                                            replace HR104 := HR104.ext e36
                                            replace G205_0 := G205_0.ext e36
                                            replace O5 := O5.ext e36
                                            replace O6 := O6.ext e36
                                            replace O9 := O9.ext e36
                                            replace O12 := O12.ext e36
                                            replace O15 := O15.ext e36
                                            replace O20 := O20.ext e36
                                            refine ov (xmove rfl) rfl rfl rfl ?_
                                            refine ov (xextract rfl rfl) rfl rfl rfl ?_
                                            refine ov (xextract rfl rfl) rfl rfl rfl ?_
                                            refine ov (xassign rfl) rfl rfl rfl ?_
                                            refine ov (xassign rfl) rfl rfl rfl ?_
                                            refine ops_nil ?_
                                            refine run_seq ?_
                                            refine run_region ?_
                                            refine ov (xmove rfl) rfl rfl rfl ?_
                                            refine ov (xeql rfl rfl _ rfl) rfl rfl rfl ?_
                                            refine ods (fun c231 => ?_) (fun c231 => ?_)
                                            ·
                                              refine ov (xmove rfl) rfl rfl rfl ?_
                                              refine ov (xmove rfl) rfl rfl rfl ?_
                                              refine ov (xeql rfl rfl _ rfl) rfl rfl rfl ?_
                                              refine ods (fun c234 => ?_) (fun c234 => ?_)
                                              ·
                                                refine ov (xpick_t rfl rfl) rfl rfl rfl ?_
                                                refine ov (xmove rfl) rfl rfl rfl ?_
                                                refine ov (xmove rfl) rfl rfl rfl ?_
                                                refine ov (xfieldAddr fo77f2 rfl) rfl rfl rfl ?_
                                                refine ov (v := .string r39.To) (xload1 Try.isAgg9 rfl (O6.cells) rfl) rfl rfl rfl ?_
                                                refine ov (xseql rfl rfl _ rfl) rfl rfl rfl ?_
                                                refine ods (fun c240 => ?_) (fun c240 => ?_)
                                                ·
                                                  refine ov (xpick_t rfl rfl) rfl rfl rfl ?_
                                                  refine ov (xmove rfl) rfl rfl rfl ?_
                                                  refine ov (xfieldAddr fo49f4 rfl) rfl rfl rfl ?_
                                                  refine ov (v := .slice q45 m45 d45) (xload1 Try.isAgg47 rfl (O9.cells) rfl) rfl rfl rfl ?_
                                                  refine ov (xlen Try.underlying47 rfl) rfl rfl rfl ?_
                                                  refine ov (xfieldAddr fo49f4 rfl) rfl rfl rfl ?_
                                                  refine ov (v := .slice q39 m39 d39) (xload1 Try.isAgg47 rfl (O5.cells) rfl) rfl rfl rfl ?_
                                                  refine ov (xlen Try.underlying47 rfl) rfl rfl rfl ?_
                                                  refine ov (xadd rfl rfl (by unfold I64; omega)) rfl rfl rfl ?_
                                                  refine ov (xeql rfl rfl _ rfl) rfl rfl rfl ?_
                                                  refine ov (xpick_t rfl rfl) rfl rfl rfl ?_
                                                  refine ov (xassign rfl) rfl rfl rfl ?_
                                                  refine ops_nil ?_
                                                  refine run_ret Try.func12 (res1 rfl rfl) ?_
                                                  exact ⟨_, rfl, congrArg Value.bool (decide_eq_true (by omega)), E⟩
                                                · exfalso; exact c240 ov3
                                              · exfalso; omega
                                            · exfalso; omega
                                      ·
                                        refine ov (xpick_t rfl rfl) rfl rfl rfl ?_
                                        refine ops_nil ?_
                                        refine run_cond_f rfl ?_
                                        refine run_skip ?_
                                        refine run_seq ?_
                                        refine run_seq ?_
                                        refine run_region ?_
                                        refine ov (xmove rfl) rfl rfl rfl ?_
                                        refine ov (xneq rfl rfl _ rfl) rfl rfl rfl ?_
                                        refine ods (fun c217 => ?_) (fun c217 => ?_)
                                        ·
                                          refine ops_nil ?_
                                          refine run_cond_t rfl ?_
                                          refine run_seq ?_
                                          refine run_region ?_
                                          refine ov (xassign rfl) rfl rfl rfl ?_
                                          refine ops_nil ?_
                                          refine run_ret Try.func12 (res1 rfl rfl) ?_
                                          exact ⟨_, rfl, rfl, E⟩
                                        ·
                                          obtain ⟨ov1, ov2, ov3, ov4⟩ := over_ok (by omega : (handOver x39 r39).2 = 0)
                                          refine ops_nil ?_
                                          refine run_cond_f rfl ?_
                                          refine run_skip ?_
                                          refine run_seq ?_
                                          refine run_region ?_
                                          refine ov (v := .agg #[.string (handOver x39 r39).1.Code, .string (handOver x39 r39).1.Found, .int .i64 (handOver x39 r39).1.Day, .int .i64 (handOver x39 r39).1.Seal, .slice q45 m45 d45]) (xloadN Try.isAgg49 Try.sizeOf49 rfl (O9.cells) rfl) rfl rfl rfl ?_
                                          refine oc (xcall Try.call61 rfl) rfl rfl rfl (FirstBreak_ok _ _ _ (handOver x39 r39).1 _ (G45.sl) (over_small sm39 hr39)) ?_
                                          rintro _ w34 ⟨rfl, e34⟩
                                          have z34 := e34.size
                                          have E := E.trans e34
                                          replace G39 := G39.ext e34
                                          replace G45 := G45.ext e34
                                          replace G51 := G51.ext e34
                                          replace G56 := G56.ext e34
                                          replace G72 := G72.ext e34
                                          replace G75_0 := G75_0.ext e34
                                          replace G80_0 := G80_0.ext e34
                                          replace G95_0 := G95_0.ext e34
                                          replace G100_0 := G100_0.ext e34
                                          replace R104 := R104.ext e34
                                          replace HR104 := HR104.ext e34
                                          replace O5 := O5.ext e34
                                          replace O6 := O6.ext e34
                                          replace O9 := O9.ext e34
                                          replace O12 := O12.ext e34
                                          replace O15 := O15.ext e34
                                          replace O20 := O20.ext e34
                                          refine ov (xmove rfl) rfl rfl rfl ?_
                                          refine ov (xextract rfl rfl) rfl rfl rfl ?_
                                          refine ov (xextract rfl rfl) rfl rfl rfl ?_
                                          refine ov (xassign rfl) rfl rfl rfl ?_
                                          refine ov (xassign rfl) rfl rfl rfl ?_
                                          refine ops_nil ?_
                                          refine run_seq ?_
                                          refine run_region ?_
                                          refine ov (v := .agg #[.string (handOver x39 r39).1.Code, .string (handOver x39 r39).1.Found, .int .i64 (handOver x39 r39).1.Day, .int .i64 (handOver x39 r39).1.Seal, .slice q45 m45 d45]) (xloadN Try.isAgg49 Try.sizeOf49 rfl (O9.cells) rfl) rfl rfl rfl ?_
                                          refine ov (xfieldAddr fo77f0 rfl) rfl rfl rfl ?_
                                          refine ov (v := .int .i64 r39.Day) (xload1 Try.isAgg2 rfl (O6.cells) rfl) rfl rfl rfl ?_
                                          refine oc (xcall Try.call34 rfl) rfl rfl rfl (HolderOn_ok _ _ _ (handOver x39 r39).1 _ (G45.sl) (over_small sm39 hr39) r39.Day) ?_
                                          rintro _ w35 ⟨rfl, e35⟩
                                          have z35 := e35.size
                                          have E := E.trans e35
                                          replace G39 := G39.ext e35
                                          replace G45 := G45.ext e35
                                          replace G51 := G51.ext e35
                                          replace G56 := G56.ext e35
                                          replace G72 := G72.ext e35
                                          replace G75_0 := G75_0.ext e35
                                          replace G80_0 := G80_0.ext e35
                                          replace G95_0 := G95_0.ext e35
                                          replace G100_0 := G100_0.ext e35
                                          replace R104 := R104.ext e35
                                          replace HR104 := HR104.ext e35
                                          replace O5 := O5.ext e35
                                          replace O6 := O6.ext e35
                                          replace O9 := O9.ext e35
                                          replace O12 := O12.ext e35
                                          replace O15 := O15.ext e35
                                          replace O20 := O20.ext e35
                                          refine ov (xmove rfl) rfl rfl rfl ?_
                                          refine ov (xextract rfl rfl) rfl rfl rfl ?_
                                          refine ov (xextract rfl rfl) rfl rfl rfl ?_
                                          refine ov (xassign rfl) rfl rfl rfl ?_
                                          refine ov (xassign rfl) rfl rfl rfl ?_
                                          refine ops_nil ?_
                                          refine run_seq ?_
                                          refine run_region ?_
                                          refine ov (xmove rfl) rfl rfl rfl ?_
                                          refine ov (xeql rfl rfl _ rfl) rfl rfl rfl ?_
                                          refine ods (fun c231 => ?_) (fun c231 => ?_)
                                          ·
                                            refine ov (xmove rfl) rfl rfl rfl ?_
                                            refine ov (xmove rfl) rfl rfl rfl ?_
                                            refine ov (xeql rfl rfl _ rfl) rfl rfl rfl ?_
                                            refine ods (fun c234 => ?_) (fun c234 => ?_)
                                            ·
                                              refine ov (xpick_t rfl rfl) rfl rfl rfl ?_
                                              refine ov (xmove rfl) rfl rfl rfl ?_
                                              refine ov (xmove rfl) rfl rfl rfl ?_
                                              refine ov (xfieldAddr fo77f2 rfl) rfl rfl rfl ?_
                                              refine ov (v := .string r39.To) (xload1 Try.isAgg9 rfl (O6.cells) rfl) rfl rfl rfl ?_
                                              refine ov (xseql rfl rfl _ rfl) rfl rfl rfl ?_
                                              refine ods (fun c240 => ?_) (fun c240 => ?_)
                                              ·
                                                refine ov (xpick_t rfl rfl) rfl rfl rfl ?_
                                                refine ov (xmove rfl) rfl rfl rfl ?_
                                                refine ov (xfieldAddr fo49f4 rfl) rfl rfl rfl ?_
                                                refine ov (v := .slice q45 m45 d45) (xload1 Try.isAgg47 rfl (O9.cells) rfl) rfl rfl rfl ?_
                                                refine ov (xlen Try.underlying47 rfl) rfl rfl rfl ?_
                                                refine ov (xfieldAddr fo49f4 rfl) rfl rfl rfl ?_
                                                refine ov (v := .slice q39 m39 d39) (xload1 Try.isAgg47 rfl (O5.cells) rfl) rfl rfl rfl ?_
                                                refine ov (xlen Try.underlying47 rfl) rfl rfl rfl ?_
                                                refine ov (xadd rfl rfl (by unfold I64; omega)) rfl rfl rfl ?_
                                                refine ov (xeql rfl rfl _ rfl) rfl rfl rfl ?_
                                                refine ov (xpick_t rfl rfl) rfl rfl rfl ?_
                                                refine ov (xassign rfl) rfl rfl rfl ?_
                                                refine ops_nil ?_
                                                refine run_ret Try.func12 (res1 rfl rfl) ?_
                                                exact ⟨_, rfl, congrArg Value.bool (decide_eq_true (by omega)), E⟩
                                              · exfalso; exact c240 ov3
                                            · exfalso; omega
                                          · exfalso; omega
                                    ·
                                      refine ov (xpick_t rfl rfl) rfl rfl rfl ?_
                                      refine ov (xmove rfl) rfl rfl rfl ?_
                                      refine og rfl rfl rfl ?_
                                      refine og rfl rfl rfl ?_
                                      refine ov (xpick_f rfl rfl) rfl rfl rfl ?_
                                      refine ops_nil ?_
                                      refine run_cond_f rfl ?_
                                      refine run_skip ?_
                                      refine run_seq ?_
                                      refine run_seq ?_
                                      refine run_region ?_
                                      refine ov (xmove rfl) rfl rfl rfl ?_
                                      refine ov (xneq rfl rfl _ rfl) rfl rfl rfl ?_
                                      refine ods (fun c217 => ?_) (fun c217 => ?_)
                                      ·
                                        refine ops_nil ?_
                                        refine run_cond_t rfl ?_
                                        refine run_seq ?_
                                        refine run_region ?_
                                        refine ov (xassign rfl) rfl rfl rfl ?_
                                        refine ops_nil ?_
                                        refine run_ret Try.func12 (res1 rfl rfl) ?_
                                        exact ⟨_, rfl, rfl, E⟩
                                      ·
                                        obtain ⟨ov1, ov2, ov3, ov4⟩ := over_ok (by omega : (handOver x39 r39).2 = 0)
                                        refine ops_nil ?_
                                        refine run_cond_f rfl ?_
                                        refine run_skip ?_
                                        refine run_seq ?_
                                        refine run_region ?_
                                        refine ov (v := .agg #[.string (handOver x39 r39).1.Code, .string (handOver x39 r39).1.Found, .int .i64 (handOver x39 r39).1.Day, .int .i64 (handOver x39 r39).1.Seal, .slice q45 m45 d45]) (xloadN Try.isAgg49 Try.sizeOf49 rfl (O9.cells) rfl) rfl rfl rfl ?_
                                        refine oc (xcall Try.call61 rfl) rfl rfl rfl (FirstBreak_ok _ _ _ (handOver x39 r39).1 _ (G45.sl) (over_small sm39 hr39)) ?_
                                        rintro _ w34 ⟨rfl, e34⟩
                                        have z34 := e34.size
                                        have E := E.trans e34
                                        replace G39 := G39.ext e34
                                        replace G45 := G45.ext e34
                                        replace G51 := G51.ext e34
                                        replace G56 := G56.ext e34
                                        replace G72 := G72.ext e34
                                        replace G75_0 := G75_0.ext e34
                                        replace G80_0 := G80_0.ext e34
                                        replace G95_0 := G95_0.ext e34
                                        replace G100_0 := G100_0.ext e34
                                        replace R104 := R104.ext e34
                                        replace HR104 := HR104.ext e34
                                        replace O5 := O5.ext e34
                                        replace O6 := O6.ext e34
                                        replace O9 := O9.ext e34
                                        replace O12 := O12.ext e34
                                        replace O15 := O15.ext e34
                                        replace O20 := O20.ext e34
                                        refine ov (xmove rfl) rfl rfl rfl ?_
                                        refine ov (xextract rfl rfl) rfl rfl rfl ?_
                                        refine ov (xextract rfl rfl) rfl rfl rfl ?_
                                        refine ov (xassign rfl) rfl rfl rfl ?_
                                        refine ov (xassign rfl) rfl rfl rfl ?_
                                        refine ops_nil ?_
                                        refine run_seq ?_
                                        refine run_region ?_
                                        refine ov (v := .agg #[.string (handOver x39 r39).1.Code, .string (handOver x39 r39).1.Found, .int .i64 (handOver x39 r39).1.Day, .int .i64 (handOver x39 r39).1.Seal, .slice q45 m45 d45]) (xloadN Try.isAgg49 Try.sizeOf49 rfl (O9.cells) rfl) rfl rfl rfl ?_
                                        refine ov (xfieldAddr fo77f0 rfl) rfl rfl rfl ?_
                                        refine ov (v := .int .i64 r39.Day) (xload1 Try.isAgg2 rfl (O6.cells) rfl) rfl rfl rfl ?_
                                        refine oc (xcall Try.call34 rfl) rfl rfl rfl (HolderOn_ok _ _ _ (handOver x39 r39).1 _ (G45.sl) (over_small sm39 hr39) r39.Day) ?_
                                        rintro _ w35 ⟨rfl, e35⟩
                                        have z35 := e35.size
                                        have E := E.trans e35
                                        replace G39 := G39.ext e35
                                        replace G45 := G45.ext e35
                                        replace G51 := G51.ext e35
                                        replace G56 := G56.ext e35
                                        replace G72 := G72.ext e35
                                        replace G75_0 := G75_0.ext e35
                                        replace G80_0 := G80_0.ext e35
                                        replace G95_0 := G95_0.ext e35
                                        replace G100_0 := G100_0.ext e35
                                        replace R104 := R104.ext e35
                                        replace HR104 := HR104.ext e35
                                        replace O5 := O5.ext e35
                                        replace O6 := O6.ext e35
                                        replace O9 := O9.ext e35
                                        replace O12 := O12.ext e35
                                        replace O15 := O15.ext e35
                                        replace O20 := O20.ext e35
                                        refine ov (xmove rfl) rfl rfl rfl ?_
                                        refine ov (xextract rfl rfl) rfl rfl rfl ?_
                                        refine ov (xextract rfl rfl) rfl rfl rfl ?_
                                        refine ov (xassign rfl) rfl rfl rfl ?_
                                        refine ov (xassign rfl) rfl rfl rfl ?_
                                        refine ops_nil ?_
                                        refine run_seq ?_
                                        refine run_region ?_
                                        refine ov (xmove rfl) rfl rfl rfl ?_
                                        refine ov (xeql rfl rfl _ rfl) rfl rfl rfl ?_
                                        refine ods (fun c231 => ?_) (fun c231 => ?_)
                                        ·
                                          refine ov (xmove rfl) rfl rfl rfl ?_
                                          refine ov (xmove rfl) rfl rfl rfl ?_
                                          refine ov (xeql rfl rfl _ rfl) rfl rfl rfl ?_
                                          refine ods (fun c234 => ?_) (fun c234 => ?_)
                                          ·
                                            refine ov (xpick_t rfl rfl) rfl rfl rfl ?_
                                            refine ov (xmove rfl) rfl rfl rfl ?_
                                            refine ov (xmove rfl) rfl rfl rfl ?_
                                            refine ov (xfieldAddr fo77f2 rfl) rfl rfl rfl ?_
                                            refine ov (v := .string r39.To) (xload1 Try.isAgg9 rfl (O6.cells) rfl) rfl rfl rfl ?_
                                            refine ov (xseql rfl rfl _ rfl) rfl rfl rfl ?_
                                            refine ods (fun c240 => ?_) (fun c240 => ?_)
                                            ·
                                              refine ov (xpick_t rfl rfl) rfl rfl rfl ?_
                                              refine ov (xmove rfl) rfl rfl rfl ?_
                                              refine ov (xfieldAddr fo49f4 rfl) rfl rfl rfl ?_
                                              refine ov (v := .slice q45 m45 d45) (xload1 Try.isAgg47 rfl (O9.cells) rfl) rfl rfl rfl ?_
                                              refine ov (xlen Try.underlying47 rfl) rfl rfl rfl ?_
                                              refine ov (xfieldAddr fo49f4 rfl) rfl rfl rfl ?_
                                              refine ov (v := .slice q39 m39 d39) (xload1 Try.isAgg47 rfl (O5.cells) rfl) rfl rfl rfl ?_
                                              refine ov (xlen Try.underlying47 rfl) rfl rfl rfl ?_
                                              refine ov (xadd rfl rfl (by unfold I64; omega)) rfl rfl rfl ?_
                                              refine ov (xeql rfl rfl _ rfl) rfl rfl rfl ?_
                                              refine ov (xpick_t rfl rfl) rfl rfl rfl ?_
                                              refine ov (xassign rfl) rfl rfl rfl ?_
                                              refine ops_nil ?_
                                              refine run_ret Try.func12 (res1 rfl rfl) ?_
                                              exact ⟨_, rfl, congrArg Value.bool (decide_eq_true (by omega)), E⟩
                                            · exfalso; exact c240 ov3
                                          · exfalso; omega
                                        · exfalso; omega
                                  ·
                                    refine ov (xmove rfl) rfl rfl rfl ?_
                                    refine og rfl rfl rfl ?_
                                    refine og rfl rfl rfl ?_
                                    refine ov (xpick_f rfl rfl) rfl rfl rfl ?_
                                    refine ov (xmove rfl) rfl rfl rfl ?_
                                    refine og rfl rfl rfl ?_
                                    refine og rfl rfl rfl ?_
                                    refine ov (xpick_f rfl rfl) rfl rfl rfl ?_
                                    refine ops_nil ?_
                                    refine run_cond_f rfl ?_
                                    refine run_skip ?_
                                    refine run_seq ?_
                                    refine run_seq ?_
                                    refine run_region ?_
                                    refine ov (xmove rfl) rfl rfl rfl ?_
                                    refine ov (xneq rfl rfl _ rfl) rfl rfl rfl ?_
                                    refine ods (fun c217 => ?_) (fun c217 => ?_)
                                    ·
                                      refine ops_nil ?_
                                      refine run_cond_t rfl ?_
                                      refine run_seq ?_
                                      refine run_region ?_
                                      refine ov (xassign rfl) rfl rfl rfl ?_
                                      refine ops_nil ?_
                                      refine run_ret Try.func12 (res1 rfl rfl) ?_
                                      exact ⟨_, rfl, rfl, E⟩
                                    ·
                                      obtain ⟨ov1, ov2, ov3, ov4⟩ := over_ok (by omega : (handOver x39 r39).2 = 0)
                                      refine ops_nil ?_
                                      refine run_cond_f rfl ?_
                                      refine run_skip ?_
                                      refine run_seq ?_
                                      refine run_region ?_
                                      refine ov (v := .agg #[.string (handOver x39 r39).1.Code, .string (handOver x39 r39).1.Found, .int .i64 (handOver x39 r39).1.Day, .int .i64 (handOver x39 r39).1.Seal, .slice q45 m45 d45]) (xloadN Try.isAgg49 Try.sizeOf49 rfl (O9.cells) rfl) rfl rfl rfl ?_
                                      refine oc (xcall Try.call61 rfl) rfl rfl rfl (FirstBreak_ok _ _ _ (handOver x39 r39).1 _ (G45.sl) (over_small sm39 hr39)) ?_
                                      rintro _ w34 ⟨rfl, e34⟩
                                      have z34 := e34.size
                                      have E := E.trans e34
                                      replace G39 := G39.ext e34
                                      replace G45 := G45.ext e34
                                      replace G51 := G51.ext e34
                                      replace G56 := G56.ext e34
                                      replace G72 := G72.ext e34
                                      replace G75_0 := G75_0.ext e34
                                      replace G80_0 := G80_0.ext e34
                                      replace G95_0 := G95_0.ext e34
                                      replace G100_0 := G100_0.ext e34
                                      replace R104 := R104.ext e34
                                      replace HR104 := HR104.ext e34
                                      replace O5 := O5.ext e34
                                      replace O6 := O6.ext e34
                                      replace O9 := O9.ext e34
                                      replace O12 := O12.ext e34
                                      replace O15 := O15.ext e34
                                      replace O20 := O20.ext e34
                                      refine ov (xmove rfl) rfl rfl rfl ?_
                                      refine ov (xextract rfl rfl) rfl rfl rfl ?_
                                      refine ov (xextract rfl rfl) rfl rfl rfl ?_
                                      refine ov (xassign rfl) rfl rfl rfl ?_
                                      refine ov (xassign rfl) rfl rfl rfl ?_
                                      refine ops_nil ?_
                                      refine run_seq ?_
                                      refine run_region ?_
                                      refine ov (v := .agg #[.string (handOver x39 r39).1.Code, .string (handOver x39 r39).1.Found, .int .i64 (handOver x39 r39).1.Day, .int .i64 (handOver x39 r39).1.Seal, .slice q45 m45 d45]) (xloadN Try.isAgg49 Try.sizeOf49 rfl (O9.cells) rfl) rfl rfl rfl ?_
                                      refine ov (xfieldAddr fo77f0 rfl) rfl rfl rfl ?_
                                      refine ov (v := .int .i64 r39.Day) (xload1 Try.isAgg2 rfl (O6.cells) rfl) rfl rfl rfl ?_
                                      refine oc (xcall Try.call34 rfl) rfl rfl rfl (HolderOn_ok _ _ _ (handOver x39 r39).1 _ (G45.sl) (over_small sm39 hr39) r39.Day) ?_
                                      rintro _ w35 ⟨rfl, e35⟩
                                      have z35 := e35.size
                                      have E := E.trans e35
                                      replace G39 := G39.ext e35
                                      replace G45 := G45.ext e35
                                      replace G51 := G51.ext e35
                                      replace G56 := G56.ext e35
                                      replace G72 := G72.ext e35
                                      replace G75_0 := G75_0.ext e35
                                      replace G80_0 := G80_0.ext e35
                                      replace G95_0 := G95_0.ext e35
                                      replace G100_0 := G100_0.ext e35
                                      replace R104 := R104.ext e35
                                      replace HR104 := HR104.ext e35
                                      replace O5 := O5.ext e35
                                      replace O6 := O6.ext e35
                                      replace O9 := O9.ext e35
                                      replace O12 := O12.ext e35
                                      replace O15 := O15.ext e35
                                      replace O20 := O20.ext e35
                                      refine ov (xmove rfl) rfl rfl rfl ?_
                                      refine ov (xextract rfl rfl) rfl rfl rfl ?_
                                      refine ov (xextract rfl rfl) rfl rfl rfl ?_
                                      refine ov (xassign rfl) rfl rfl rfl ?_
                                      refine ov (xassign rfl) rfl rfl rfl ?_
                                      refine ops_nil ?_
                                      refine run_seq ?_
                                      refine run_region ?_
                                      refine ov (xmove rfl) rfl rfl rfl ?_
                                      refine ov (xeql rfl rfl _ rfl) rfl rfl rfl ?_
                                      refine ods (fun c231 => ?_) (fun c231 => ?_)
                                      ·
                                        refine ov (xmove rfl) rfl rfl rfl ?_
                                        refine ov (xmove rfl) rfl rfl rfl ?_
                                        refine ov (xeql rfl rfl _ rfl) rfl rfl rfl ?_
                                        refine ods (fun c234 => ?_) (fun c234 => ?_)
                                        ·
                                          refine ov (xpick_t rfl rfl) rfl rfl rfl ?_
                                          refine ov (xmove rfl) rfl rfl rfl ?_
                                          refine ov (xmove rfl) rfl rfl rfl ?_
                                          refine ov (xfieldAddr fo77f2 rfl) rfl rfl rfl ?_
                                          refine ov (v := .string r39.To) (xload1 Try.isAgg9 rfl (O6.cells) rfl) rfl rfl rfl ?_
                                          refine ov (xseql rfl rfl _ rfl) rfl rfl rfl ?_
                                          refine ods (fun c240 => ?_) (fun c240 => ?_)
                                          ·
                                            refine ov (xpick_t rfl rfl) rfl rfl rfl ?_
                                            refine ov (xmove rfl) rfl rfl rfl ?_
                                            refine ov (xfieldAddr fo49f4 rfl) rfl rfl rfl ?_
                                            refine ov (v := .slice q45 m45 d45) (xload1 Try.isAgg47 rfl (O9.cells) rfl) rfl rfl rfl ?_
                                            refine ov (xlen Try.underlying47 rfl) rfl rfl rfl ?_
                                            refine ov (xfieldAddr fo49f4 rfl) rfl rfl rfl ?_
                                            refine ov (v := .slice q39 m39 d39) (xload1 Try.isAgg47 rfl (O5.cells) rfl) rfl rfl rfl ?_
                                            refine ov (xlen Try.underlying47 rfl) rfl rfl rfl ?_
                                            refine ov (xadd rfl rfl (by unfold I64; omega)) rfl rfl rfl ?_
                                            refine ov (xeql rfl rfl _ rfl) rfl rfl rfl ?_
                                            refine ov (xpick_t rfl rfl) rfl rfl rfl ?_
                                            refine ov (xassign rfl) rfl rfl rfl ?_
                                            refine ops_nil ?_
                                            refine run_ret Try.func12 (res1 rfl rfl) ?_
                                            exact ⟨_, rfl, congrArg Value.bool (decide_eq_true (by omega)), E⟩
                                          · exfalso; exact c240 ov3
                                        · exfalso; omega
                                      · exfalso; omega
                            ·
                              refine ov (xmove rfl) rfl rfl rfl ?_
                              refine og rfl rfl rfl ?_
                              refine og rfl rfl rfl ?_
                              refine ov (xpick_f rfl rfl) rfl rfl rfl ?_
                              refine ov (xmove rfl) rfl rfl rfl ?_
                              refine ov (xmove rfl) rfl rfl rfl ?_
                              refine ov (xeql rfl rfl _ rfl) rfl rfl rfl ?_
                              refine ods (fun c178 => ?_) (fun c178 => ?_)
                              ·
                                refine ov (xmove rfl) rfl rfl rfl ?_
                                refine ov (xmove rfl) rfl rfl rfl ?_
                                refine ov (xneq rfl rfl _ rfl) rfl rfl rfl ?_
                                refine ods (fun c181 => ?_) (fun c181 => ?_)
                                · exfalso; have := fb_four (x := x72) (by omega); omega
                                ·
                                  refine ov (xmove rfl) rfl rfl rfl ?_
                                  refine ov (xmove rfl) rfl rfl rfl ?_
                                  refine ov (xlen Try.underlying66 rfl) rfl rfl rfl ?_
                                  refine ov (xfieldAddr fo49f4 rfl) rfl rfl rfl ?_
                                  refine ov (v := .slice q72 m72 d72) (xload1 Try.isAgg47 rfl (O20.cells) rfl) rfl rfl rfl ?_
                                  refine ov (xlen Try.underlying47 rfl) rfl rfl rfl ?_
                                  refine ov (xadd rfl rfl (by unfold I64; omega)) rfl rfl rfl ?_
                                  refine ov (xneq rfl rfl _ rfl) rfl rfl rfl ?_
                                  refine ods (fun c189 => ?_) (fun c189 => ?_)
                                  · exfalso; have := fb_four (x := x72) (by omega); omega
                                  ·
                                    refine ov (xpick_f rfl rfl) rfl rfl rfl ?_
                                    refine ov (xpick_t rfl rfl) rfl rfl rfl ?_
                                    refine ov (xpick_f rfl rfl) rfl rfl rfl ?_
                                    refine ops_nil ?_
                                    refine run_cond_f rfl ?_
                                    refine run_skip ?_
                                    refine run_seq ?_
                                    refine run_seq ?_
                                    refine run_region ?_
                                    refine ov (xmove rfl) rfl rfl rfl ?_
                                    refine ov (xeql rfl rfl _ rfl) rfl rfl rfl ?_
                                    refine ods (fun c194 => ?_) (fun c194 => ?_)
                                    ·
                                      refine ov (xmove rfl) rfl rfl rfl ?_
                                      refine ov (xmove rfl) rfl rfl rfl ?_
                                      refine ov (xeql rfl rfl _ rfl) rfl rfl rfl ?_
                                      refine ods (fun c197 => ?_) (fun c197 => ?_)
                                      ·
                                        refine ov (xpick_t rfl rfl) rfl rfl rfl ?_
                                        refine ov (xmove rfl) rfl rfl rfl ?_
                                        refine ov (xmove rfl) rfl rfl rfl ?_
                                        refine ov (xgeq rfl rfl _ rfl) rfl rfl rfl ?_
                                        refine ods (fun c201 => ?_) (fun c201 => ?_)
                                        ·
                                          refine ov (xpick_t rfl rfl) rfl rfl rfl ?_
                                          refine ops_nil ?_
                                          refine run_cond_t rfl ?_
                                          refine run_seq ?_
                                          refine run_region ?_
                                          refine ov (v := .agg #[.string x56.Code, .string x56.Found, .int .i64 x56.Day, .int .i64 x56.Seal, .slice q56 m56 d56]) (xloadN Try.isAgg49 Try.sizeOf49 rfl (O15.cells) rfl) rfl rfl rfl ?_
                                          refine oc (xcall Try.call46 rfl) rfl rfl rfl (HoldersOf_ok _ _ _ x56 _ (G56.sl) sm56) ?_
                                          rintro _ w34 ⟨e34, q205_0, m205_0, d205_0, rfl, G205_0⟩
                                          have z34 := e34.size
                                          have E := E.trans e34
                                          replace G39 := G39.ext e34
                                          replace G45 := G45.ext e34
                                          replace G51 := G51.ext e34
                                          replace G56 := G56.ext e34
                                          replace G72 := G72.ext e34
                                          replace G75_0 := G75_0.ext e34
                                          replace G80_0 := G80_0.ext e34
                                          replace G95_0 := G95_0.ext e34
                                          replace G100_0 := G100_0.ext e34
                                          replace R104 := R104.ext e34
                                          replace HR104 := HR104.ext e34
                                          replace O5 := O5.ext e34
                                          replace O6 := O6.ext e34
                                          replace O9 := O9.ext e34
                                          replace O12 := O12.ext e34
                                          replace O15 := O15.ext e34
                                          replace O20 := O20.ext e34
                                          have lG205_0 := G205_0.len
                                          have hal205 := holdersOf_len x56
                                          refine ov (xmove rfl) rfl rfl rfl ?_
                                          refine ov (xextract rfl rfl) rfl rfl rfl ?_
                                          refine ov (xextract rfl rfl) rfl rfl rfl ?_
                                          refine ov (xassign rfl) rfl rfl rfl ?_
                                          refine ov (xassign rfl) rfl rfl rfl ?_
                                          refine ops_nil ?_
                                          refine run_seq ?_
                                          refine run_region ?_
                                          refine ov (xmove rfl) rfl rfl rfl ?_
                                          refine ov (xeql rfl rfl _ rfl) rfl rfl rfl ?_
                                          refine ods (fun c209 => ?_) (fun c209 => ?_)
                                          ·
                                            refine ov (xmove rfl) rfl rfl rfl ?_
                                            refine ov (xmove rfl) rfl rfl rfl ?_
                                            refine ov (xmove rfl) rfl rfl rfl ?_
                                            refine oc (xcall Try.call49 rfl) rfl rfl rfl (hasText_ok _ _ _ _ ((holderOn x56 k56).1) _ (G205_0.sl)) ?_
                                            rintro _ w35 ⟨rfl, e35⟩
                                            have z35 := e35.size
                                            have E := E.trans e35
                                            replace G39 := G39.ext e35
                                            replace G45 := G45.ext e35
                                            replace G51 := G51.ext e35
                                            replace G56 := G56.ext e35
                                            replace G72 := G72.ext e35
                                            replace G75_0 := G75_0.ext e35
                                            replace G80_0 := G80_0.ext e35
                                            replace G95_0 := G95_0.ext e35
                                            replace G100_0 := G100_0.ext e35
                                            replace R104 := R104.ext e35
                                            replace HR104 := HR104.ext e35
                                            replace G205_0 := G205_0.ext e35
                                            replace O5 := O5.ext e35
                                            replace O6 := O6.ext e35
                                            replace O9 := O9.ext e35
                                            replace O12 := O12.ext e35
                                            replace O15 := O15.ext e35
                                            replace O20 := O20.ext e35
                                            refine obs (fun c213 => ?_) (fun c213 => ?_)
                                            ·
                                              refine ov (xnot rfl) rfl rfl rfl ?_
                                              refine ov (xpick_t rfl rfl) rfl rfl rfl ?_
                                              refine ops_nil ?_
                                              refine run_cond_f rfl ?_
                                              refine run_skip ?_
                                              refine run_seq ?_
                                              refine run_seq ?_
                                              refine run_region ?_
                                              refine ov (xmove rfl) rfl rfl rfl ?_
                                              refine ov (xneq rfl rfl _ rfl) rfl rfl rfl ?_
                                              refine ods (fun c217 => ?_) (fun c217 => ?_)
                                              ·
                                                refine ops_nil ?_
                                                refine run_cond_t rfl ?_
                                                refine run_seq ?_
                                                refine run_region ?_
                                                refine ov (xassign rfl) rfl rfl rfl ?_
                                                refine ops_nil ?_
                                                refine run_ret Try.func12 (res1 rfl rfl) ?_
                                                exact ⟨_, rfl, rfl, E⟩
                                              ·
                                                obtain ⟨ov1, ov2, ov3, ov4⟩ := over_ok (by omega : (handOver x39 r39).2 = 0)
                                                refine ops_nil ?_
                                                refine run_cond_f rfl ?_
                                                refine run_skip ?_
                                                refine run_seq ?_
                                                refine run_region ?_
                                                refine ov (v := .agg #[.string (handOver x39 r39).1.Code, .string (handOver x39 r39).1.Found, .int .i64 (handOver x39 r39).1.Day, .int .i64 (handOver x39 r39).1.Seal, .slice q45 m45 d45]) (xloadN Try.isAgg49 Try.sizeOf49 rfl (O9.cells) rfl) rfl rfl rfl ?_
                                                refine oc (xcall Try.call61 rfl) rfl rfl rfl (FirstBreak_ok _ _ _ (handOver x39 r39).1 _ (G45.sl) (over_small sm39 hr39)) ?_
                                                rintro _ w36 ⟨rfl, e36⟩
                                                have z36 := e36.size
                                                have E := E.trans e36
                                                replace G39 := G39.ext e36
                                                replace G45 := G45.ext e36
                                                replace G51 := G51.ext e36
                                                replace G56 := G56.ext e36
                                                replace G72 := G72.ext e36
                                                replace G75_0 := G75_0.ext e36
                                                replace G80_0 := G80_0.ext e36
                                                replace G95_0 := G95_0.ext e36
                                                replace G100_0 := G100_0.ext e36
                                                replace R104 := R104.ext e36
                                                replace HR104 := HR104.ext e36
                                                replace G205_0 := G205_0.ext e36
                                                replace O5 := O5.ext e36
                                                replace O6 := O6.ext e36
                                                replace O9 := O9.ext e36
                                                replace O12 := O12.ext e36
                                                replace O15 := O15.ext e36
                                                replace O20 := O20.ext e36
                                                refine ov (xmove rfl) rfl rfl rfl ?_
                                                refine ov (xextract rfl rfl) rfl rfl rfl ?_
                                                refine ov (xextract rfl rfl) rfl rfl rfl ?_
                                                refine ov (xassign rfl) rfl rfl rfl ?_
                                                refine ov (xassign rfl) rfl rfl rfl ?_
                                                refine ops_nil ?_
                                                refine run_seq ?_
                                                refine run_region ?_
                                                refine ov (v := .agg #[.string (handOver x39 r39).1.Code, .string (handOver x39 r39).1.Found, .int .i64 (handOver x39 r39).1.Day, .int .i64 (handOver x39 r39).1.Seal, .slice q45 m45 d45]) (xloadN Try.isAgg49 Try.sizeOf49 rfl (O9.cells) rfl) rfl rfl rfl ?_
                                                refine ov (xfieldAddr fo77f0 rfl) rfl rfl rfl ?_
                                                refine ov (v := .int .i64 r39.Day) (xload1 Try.isAgg2 rfl (O6.cells) rfl) rfl rfl rfl ?_
                                                refine oc (xcall Try.call34 rfl) rfl rfl rfl (HolderOn_ok _ _ _ (handOver x39 r39).1 _ (G45.sl) (over_small sm39 hr39) r39.Day) ?_
                                                rintro _ w37 ⟨rfl, e37⟩
                                                have z37 := e37.size
                                                have E := E.trans e37
                                                replace G39 := G39.ext e37
                                                replace G45 := G45.ext e37
                                                replace G51 := G51.ext e37
                                                replace G56 := G56.ext e37
                                                replace G72 := G72.ext e37
                                                replace G75_0 := G75_0.ext e37
                                                replace G80_0 := G80_0.ext e37
                                                replace G95_0 := G95_0.ext e37
                                                replace G100_0 := G100_0.ext e37
                                                replace R104 := R104.ext e37
                                                replace HR104 := HR104.ext e37
                                                replace G205_0 := G205_0.ext e37
                                                replace O5 := O5.ext e37
                                                replace O6 := O6.ext e37
                                                replace O9 := O9.ext e37
                                                replace O12 := O12.ext e37
                                                replace O15 := O15.ext e37
                                                replace O20 := O20.ext e37
                                                refine ov (xmove rfl) rfl rfl rfl ?_
                                                refine ov (xextract rfl rfl) rfl rfl rfl ?_
                                                refine ov (xextract rfl rfl) rfl rfl rfl ?_
                                                refine ov (xassign rfl) rfl rfl rfl ?_
                                                refine ov (xassign rfl) rfl rfl rfl ?_
                                                refine ops_nil ?_
                                                refine run_seq ?_
                                                refine run_region ?_
                                                refine ov (xmove rfl) rfl rfl rfl ?_
                                                refine ov (xeql rfl rfl _ rfl) rfl rfl rfl ?_
                                                refine ods (fun c231 => ?_) (fun c231 => ?_)
                                                ·
                                                  refine ov (xmove rfl) rfl rfl rfl ?_
                                                  refine ov (xmove rfl) rfl rfl rfl ?_
                                                  refine ov (xeql rfl rfl _ rfl) rfl rfl rfl ?_
                                                  refine ods (fun c234 => ?_) (fun c234 => ?_)
                                                  ·
                                                    refine ov (xpick_t rfl rfl) rfl rfl rfl ?_
                                                    refine ov (xmove rfl) rfl rfl rfl ?_
                                                    refine ov (xmove rfl) rfl rfl rfl ?_
                                                    refine ov (xfieldAddr fo77f2 rfl) rfl rfl rfl ?_
                                                    refine ov (v := .string r39.To) (xload1 Try.isAgg9 rfl (O6.cells) rfl) rfl rfl rfl ?_
                                                    refine ov (xseql rfl rfl _ rfl) rfl rfl rfl ?_
                                                    refine ods (fun c240 => ?_) (fun c240 => ?_)
                                                    ·
                                                      refine ov (xpick_t rfl rfl) rfl rfl rfl ?_
                                                      refine ov (xmove rfl) rfl rfl rfl ?_
                                                      refine ov (xfieldAddr fo49f4 rfl) rfl rfl rfl ?_
                                                      refine ov (v := .slice q45 m45 d45) (xload1 Try.isAgg47 rfl (O9.cells) rfl) rfl rfl rfl ?_
                                                      refine ov (xlen Try.underlying47 rfl) rfl rfl rfl ?_
                                                      refine ov (xfieldAddr fo49f4 rfl) rfl rfl rfl ?_
                                                      refine ov (v := .slice q39 m39 d39) (xload1 Try.isAgg47 rfl (O5.cells) rfl) rfl rfl rfl ?_
                                                      refine ov (xlen Try.underlying47 rfl) rfl rfl rfl ?_
                                                      refine ov (xadd rfl rfl (by unfold I64; omega)) rfl rfl rfl ?_
                                                      refine ov (xeql rfl rfl _ rfl) rfl rfl rfl ?_
                                                      refine ov (xpick_t rfl rfl) rfl rfl rfl ?_
                                                      refine ov (xassign rfl) rfl rfl rfl ?_
                                                      refine ops_nil ?_
                                                      refine run_ret Try.func12 (res1 rfl rfl) ?_
                                                      exact ⟨_, rfl, congrArg Value.bool (decide_eq_true (by omega)), E⟩
                                                    · exfalso; exact c240 ov3
                                                  · exfalso; omega
                                                · exfalso; omega
                                            · exfalso; have := hold_in (x := x56) (d := k56) (by omega) (by omega); rw [this] at c213; cases c213
                                          ·
                                            refine ov (xmove rfl) rfl rfl rfl ?_
                                            refine og rfl rfl rfl ?_
                                            refine og rfl rfl rfl ?_
                                            refine og rfl rfl rfl ?_
                                            refine og rfl rfl rfl ?_
                                            refine ov (xpick_f rfl rfl) rfl rfl rfl ?_
                                            refine ops_nil ?_
                                            refine run_cond_f rfl ?_
                                            refine run_skip ?_
                                            refine run_seq ?_
                                            refine run_seq ?_
                                            refine run_region ?_
                                            refine ov (xmove rfl) rfl rfl rfl ?_
                                            refine ov (xneq rfl rfl _ rfl) rfl rfl rfl ?_
                                            refine ods (fun c217 => ?_) (fun c217 => ?_)
                                            ·
                                              refine ops_nil ?_
                                              refine run_cond_t rfl ?_
                                              refine run_seq ?_
                                              refine run_region ?_
                                              refine ov (xassign rfl) rfl rfl rfl ?_
                                              refine ops_nil ?_
                                              refine run_ret Try.func12 (res1 rfl rfl) ?_
                                              exact ⟨_, rfl, rfl, E⟩
                                            ·
                                              obtain ⟨ov1, ov2, ov3, ov4⟩ := over_ok (by omega : (handOver x39 r39).2 = 0)
                                              refine ops_nil ?_
                                              refine run_cond_f rfl ?_
                                              refine run_skip ?_
                                              refine run_seq ?_
                                              refine run_region ?_
                                              refine ov (v := .agg #[.string (handOver x39 r39).1.Code, .string (handOver x39 r39).1.Found, .int .i64 (handOver x39 r39).1.Day, .int .i64 (handOver x39 r39).1.Seal, .slice q45 m45 d45]) (xloadN Try.isAgg49 Try.sizeOf49 rfl (O9.cells) rfl) rfl rfl rfl ?_
                                              refine oc (xcall Try.call61 rfl) rfl rfl rfl (FirstBreak_ok _ _ _ (handOver x39 r39).1 _ (G45.sl) (over_small sm39 hr39)) ?_
                                              rintro _ w35 ⟨rfl, e35⟩
                                              have z35 := e35.size
                                              have E := E.trans e35
                                              replace G39 := G39.ext e35
                                              replace G45 := G45.ext e35
                                              replace G51 := G51.ext e35
                                              replace G56 := G56.ext e35
                                              replace G72 := G72.ext e35
                                              replace G75_0 := G75_0.ext e35
                                              replace G80_0 := G80_0.ext e35
                                              replace G95_0 := G95_0.ext e35
                                              replace G100_0 := G100_0.ext e35
                                              replace R104 := R104.ext e35
                                              replace HR104 := HR104.ext e35
                                              replace G205_0 := G205_0.ext e35
                                              replace O5 := O5.ext e35
                                              replace O6 := O6.ext e35
                                              replace O9 := O9.ext e35
                                              replace O12 := O12.ext e35
                                              replace O15 := O15.ext e35
                                              replace O20 := O20.ext e35
                                              refine ov (xmove rfl) rfl rfl rfl ?_
                                              refine ov (xextract rfl rfl) rfl rfl rfl ?_
                                              refine ov (xextract rfl rfl) rfl rfl rfl ?_
                                              refine ov (xassign rfl) rfl rfl rfl ?_
                                              refine ov (xassign rfl) rfl rfl rfl ?_
                                              refine ops_nil ?_
                                              refine run_seq ?_
                                              refine run_region ?_
                                              refine ov (v := .agg #[.string (handOver x39 r39).1.Code, .string (handOver x39 r39).1.Found, .int .i64 (handOver x39 r39).1.Day, .int .i64 (handOver x39 r39).1.Seal, .slice q45 m45 d45]) (xloadN Try.isAgg49 Try.sizeOf49 rfl (O9.cells) rfl) rfl rfl rfl ?_
                                              refine ov (xfieldAddr fo77f0 rfl) rfl rfl rfl ?_
                                              refine ov (v := .int .i64 r39.Day) (xload1 Try.isAgg2 rfl (O6.cells) rfl) rfl rfl rfl ?_
                                              refine oc (xcall Try.call34 rfl) rfl rfl rfl (HolderOn_ok _ _ _ (handOver x39 r39).1 _ (G45.sl) (over_small sm39 hr39) r39.Day) ?_
                                              rintro _ w36 ⟨rfl, e36⟩
                                              have z36 := e36.size
                                              have E := E.trans e36
                                              replace G39 := G39.ext e36
                                              replace G45 := G45.ext e36
                                              replace G51 := G51.ext e36
                                              replace G56 := G56.ext e36
                                              replace G72 := G72.ext e36
                                              replace G75_0 := G75_0.ext e36
                                              replace G80_0 := G80_0.ext e36
                                              replace G95_0 := G95_0.ext e36
                                              replace G100_0 := G100_0.ext e36
                                              replace R104 := R104.ext e36
                                              replace HR104 := HR104.ext e36
                                              replace G205_0 := G205_0.ext e36
                                              replace O5 := O5.ext e36
                                              replace O6 := O6.ext e36
                                              replace O9 := O9.ext e36
                                              replace O12 := O12.ext e36
                                              replace O15 := O15.ext e36
                                              replace O20 := O20.ext e36
                                              refine ov (xmove rfl) rfl rfl rfl ?_
                                              refine ov (xextract rfl rfl) rfl rfl rfl ?_
                                              refine ov (xextract rfl rfl) rfl rfl rfl ?_
                                              refine ov (xassign rfl) rfl rfl rfl ?_
                                              refine ov (xassign rfl) rfl rfl rfl ?_
                                              refine ops_nil ?_
                                              refine run_seq ?_
                                              refine run_region ?_
                                              refine ov (xmove rfl) rfl rfl rfl ?_
                                              refine ov (xeql rfl rfl _ rfl) rfl rfl rfl ?_
                                              refine ods (fun c231 => ?_) (fun c231 => ?_)
                                              ·
                                                refine ov (xmove rfl) rfl rfl rfl ?_
                                                refine ov (xmove rfl) rfl rfl rfl ?_
                                                refine ov (xeql rfl rfl _ rfl) rfl rfl rfl ?_
                                                refine ods (fun c234 => ?_) (fun c234 => ?_)
                                                ·
                                                  refine ov (xpick_t rfl rfl) rfl rfl rfl ?_
                                                  refine ov (xmove rfl) rfl rfl rfl ?_
                                                  refine ov (xmove rfl) rfl rfl rfl ?_
                                                  refine ov (xfieldAddr fo77f2 rfl) rfl rfl rfl ?_
                                                  refine ov (v := .string r39.To) (xload1 Try.isAgg9 rfl (O6.cells) rfl) rfl rfl rfl ?_
                                                  refine ov (xseql rfl rfl _ rfl) rfl rfl rfl ?_
                                                  refine ods (fun c240 => ?_) (fun c240 => ?_)
                                                  ·
                                                    refine ov (xpick_t rfl rfl) rfl rfl rfl ?_
                                                    refine ov (xmove rfl) rfl rfl rfl ?_
                                                    refine ov (xfieldAddr fo49f4 rfl) rfl rfl rfl ?_
                                                    refine ov (v := .slice q45 m45 d45) (xload1 Try.isAgg47 rfl (O9.cells) rfl) rfl rfl rfl ?_
                                                    refine ov (xlen Try.underlying47 rfl) rfl rfl rfl ?_
                                                    refine ov (xfieldAddr fo49f4 rfl) rfl rfl rfl ?_
                                                    refine ov (v := .slice q39 m39 d39) (xload1 Try.isAgg47 rfl (O5.cells) rfl) rfl rfl rfl ?_
                                                    refine ov (xlen Try.underlying47 rfl) rfl rfl rfl ?_
                                                    refine ov (xadd rfl rfl (by unfold I64; omega)) rfl rfl rfl ?_
                                                    refine ov (xeql rfl rfl _ rfl) rfl rfl rfl ?_
                                                    refine ov (xpick_t rfl rfl) rfl rfl rfl ?_
                                                    refine ov (xassign rfl) rfl rfl rfl ?_
                                                    refine ops_nil ?_
                                                    refine run_ret Try.func12 (res1 rfl rfl) ?_
                                                    exact ⟨_, rfl, congrArg Value.bool (decide_eq_true (by omega)), E⟩
                                                  · exfalso; exact c240 ov3
                                                · exfalso; omega
                                              · exfalso; omega
                                        ·
                                          refine ov (xpick_t rfl rfl) rfl rfl rfl ?_
                                          refine ops_nil ?_
                                          refine run_cond_f rfl ?_
                                          refine run_skip ?_
                                          refine run_seq ?_
                                          refine run_seq ?_
                                          refine run_region ?_
                                          refine ov (xmove rfl) rfl rfl rfl ?_
                                          refine ov (xneq rfl rfl _ rfl) rfl rfl rfl ?_
                                          refine ods (fun c217 => ?_) (fun c217 => ?_)
                                          ·
                                            refine ops_nil ?_
                                            refine run_cond_t rfl ?_
                                            refine run_seq ?_
                                            refine run_region ?_
                                            refine ov (xassign rfl) rfl rfl rfl ?_
                                            refine ops_nil ?_
                                            refine run_ret Try.func12 (res1 rfl rfl) ?_
                                            exact ⟨_, rfl, rfl, E⟩
                                          ·
                                            obtain ⟨ov1, ov2, ov3, ov4⟩ := over_ok (by omega : (handOver x39 r39).2 = 0)
                                            refine ops_nil ?_
                                            refine run_cond_f rfl ?_
                                            refine run_skip ?_
                                            refine run_seq ?_
                                            refine run_region ?_
                                            refine ov (v := .agg #[.string (handOver x39 r39).1.Code, .string (handOver x39 r39).1.Found, .int .i64 (handOver x39 r39).1.Day, .int .i64 (handOver x39 r39).1.Seal, .slice q45 m45 d45]) (xloadN Try.isAgg49 Try.sizeOf49 rfl (O9.cells) rfl) rfl rfl rfl ?_
                                            refine oc (xcall Try.call61 rfl) rfl rfl rfl (FirstBreak_ok _ _ _ (handOver x39 r39).1 _ (G45.sl) (over_small sm39 hr39)) ?_
                                            rintro _ w34 ⟨rfl, e34⟩
                                            have z34 := e34.size
                                            have E := E.trans e34
                                            replace G39 := G39.ext e34
                                            replace G45 := G45.ext e34
                                            replace G51 := G51.ext e34
                                            replace G56 := G56.ext e34
                                            replace G72 := G72.ext e34
                                            replace G75_0 := G75_0.ext e34
                                            replace G80_0 := G80_0.ext e34
                                            replace G95_0 := G95_0.ext e34
                                            replace G100_0 := G100_0.ext e34
                                            replace R104 := R104.ext e34
                                            replace HR104 := HR104.ext e34
                                            replace O5 := O5.ext e34
                                            replace O6 := O6.ext e34
                                            replace O9 := O9.ext e34
                                            replace O12 := O12.ext e34
                                            replace O15 := O15.ext e34
                                            replace O20 := O20.ext e34
                                            refine ov (xmove rfl) rfl rfl rfl ?_
                                            refine ov (xextract rfl rfl) rfl rfl rfl ?_
                                            refine ov (xextract rfl rfl) rfl rfl rfl ?_
                                            refine ov (xassign rfl) rfl rfl rfl ?_
                                            refine ov (xassign rfl) rfl rfl rfl ?_
                                            refine ops_nil ?_
                                            refine run_seq ?_
                                            refine run_region ?_
                                            refine ov (v := .agg #[.string (handOver x39 r39).1.Code, .string (handOver x39 r39).1.Found, .int .i64 (handOver x39 r39).1.Day, .int .i64 (handOver x39 r39).1.Seal, .slice q45 m45 d45]) (xloadN Try.isAgg49 Try.sizeOf49 rfl (O9.cells) rfl) rfl rfl rfl ?_
                                            refine ov (xfieldAddr fo77f0 rfl) rfl rfl rfl ?_
                                            refine ov (v := .int .i64 r39.Day) (xload1 Try.isAgg2 rfl (O6.cells) rfl) rfl rfl rfl ?_
                                            refine oc (xcall Try.call34 rfl) rfl rfl rfl (HolderOn_ok _ _ _ (handOver x39 r39).1 _ (G45.sl) (over_small sm39 hr39) r39.Day) ?_
                                            rintro _ w35 ⟨rfl, e35⟩
                                            have z35 := e35.size
                                            have E := E.trans e35
                                            replace G39 := G39.ext e35
                                            replace G45 := G45.ext e35
                                            replace G51 := G51.ext e35
                                            replace G56 := G56.ext e35
                                            replace G72 := G72.ext e35
                                            replace G75_0 := G75_0.ext e35
                                            replace G80_0 := G80_0.ext e35
                                            replace G95_0 := G95_0.ext e35
                                            replace G100_0 := G100_0.ext e35
                                            replace R104 := R104.ext e35
                                            replace HR104 := HR104.ext e35
                                            replace O5 := O5.ext e35
                                            replace O6 := O6.ext e35
                                            replace O9 := O9.ext e35
                                            replace O12 := O12.ext e35
                                            replace O15 := O15.ext e35
                                            replace O20 := O20.ext e35
                                            refine ov (xmove rfl) rfl rfl rfl ?_
                                            refine ov (xextract rfl rfl) rfl rfl rfl ?_
                                            refine ov (xextract rfl rfl) rfl rfl rfl ?_
                                            refine ov (xassign rfl) rfl rfl rfl ?_
                                            refine ov (xassign rfl) rfl rfl rfl ?_
                                            refine ops_nil ?_
                                            refine run_seq ?_
                                            refine run_region ?_
                                            refine ov (xmove rfl) rfl rfl rfl ?_
                                            refine ov (xeql rfl rfl _ rfl) rfl rfl rfl ?_
                                            refine ods (fun c231 => ?_) (fun c231 => ?_)
                                            ·
                                              refine ov (xmove rfl) rfl rfl rfl ?_
                                              refine ov (xmove rfl) rfl rfl rfl ?_
                                              refine ov (xeql rfl rfl _ rfl) rfl rfl rfl ?_
                                              refine ods (fun c234 => ?_) (fun c234 => ?_)
                                              ·
                                                refine ov (xpick_t rfl rfl) rfl rfl rfl ?_
                                                refine ov (xmove rfl) rfl rfl rfl ?_
                                                refine ov (xmove rfl) rfl rfl rfl ?_
                                                refine ov (xfieldAddr fo77f2 rfl) rfl rfl rfl ?_
                                                refine ov (v := .string r39.To) (xload1 Try.isAgg9 rfl (O6.cells) rfl) rfl rfl rfl ?_
                                                refine ov (xseql rfl rfl _ rfl) rfl rfl rfl ?_
                                                refine ods (fun c240 => ?_) (fun c240 => ?_)
                                                ·
                                                  refine ov (xpick_t rfl rfl) rfl rfl rfl ?_
                                                  refine ov (xmove rfl) rfl rfl rfl ?_
                                                  refine ov (xfieldAddr fo49f4 rfl) rfl rfl rfl ?_
                                                  refine ov (v := .slice q45 m45 d45) (xload1 Try.isAgg47 rfl (O9.cells) rfl) rfl rfl rfl ?_
                                                  refine ov (xlen Try.underlying47 rfl) rfl rfl rfl ?_
                                                  refine ov (xfieldAddr fo49f4 rfl) rfl rfl rfl ?_
                                                  refine ov (v := .slice q39 m39 d39) (xload1 Try.isAgg47 rfl (O5.cells) rfl) rfl rfl rfl ?_
                                                  refine ov (xlen Try.underlying47 rfl) rfl rfl rfl ?_
                                                  refine ov (xadd rfl rfl (by unfold I64; omega)) rfl rfl rfl ?_
                                                  refine ov (xeql rfl rfl _ rfl) rfl rfl rfl ?_
                                                  refine ov (xpick_t rfl rfl) rfl rfl rfl ?_
                                                  refine ov (xassign rfl) rfl rfl rfl ?_
                                                  refine ops_nil ?_
                                                  refine run_ret Try.func12 (res1 rfl rfl) ?_
                                                  exact ⟨_, rfl, congrArg Value.bool (decide_eq_true (by omega)), E⟩
                                                · exfalso; exact c240 ov3
                                              · exfalso; omega
                                            · exfalso; omega
                                      ·
                                        refine ov (xpick_t rfl rfl) rfl rfl rfl ?_
                                        refine ov (xmove rfl) rfl rfl rfl ?_
                                        refine og rfl rfl rfl ?_
                                        refine og rfl rfl rfl ?_
                                        refine ov (xpick_f rfl rfl) rfl rfl rfl ?_
                                        refine ops_nil ?_
                                        refine run_cond_f rfl ?_
                                        refine run_skip ?_
                                        refine run_seq ?_
                                        refine run_seq ?_
                                        refine run_region ?_
                                        refine ov (xmove rfl) rfl rfl rfl ?_
                                        refine ov (xneq rfl rfl _ rfl) rfl rfl rfl ?_
                                        refine ods (fun c217 => ?_) (fun c217 => ?_)
                                        ·
                                          refine ops_nil ?_
                                          refine run_cond_t rfl ?_
                                          refine run_seq ?_
                                          refine run_region ?_
                                          refine ov (xassign rfl) rfl rfl rfl ?_
                                          refine ops_nil ?_
                                          refine run_ret Try.func12 (res1 rfl rfl) ?_
                                          exact ⟨_, rfl, rfl, E⟩
                                        ·
                                          obtain ⟨ov1, ov2, ov3, ov4⟩ := over_ok (by omega : (handOver x39 r39).2 = 0)
                                          refine ops_nil ?_
                                          refine run_cond_f rfl ?_
                                          refine run_skip ?_
                                          refine run_seq ?_
                                          refine run_region ?_
                                          refine ov (v := .agg #[.string (handOver x39 r39).1.Code, .string (handOver x39 r39).1.Found, .int .i64 (handOver x39 r39).1.Day, .int .i64 (handOver x39 r39).1.Seal, .slice q45 m45 d45]) (xloadN Try.isAgg49 Try.sizeOf49 rfl (O9.cells) rfl) rfl rfl rfl ?_
                                          refine oc (xcall Try.call61 rfl) rfl rfl rfl (FirstBreak_ok _ _ _ (handOver x39 r39).1 _ (G45.sl) (over_small sm39 hr39)) ?_
                                          rintro _ w34 ⟨rfl, e34⟩
                                          have z34 := e34.size
                                          have E := E.trans e34
                                          replace G39 := G39.ext e34
                                          replace G45 := G45.ext e34
                                          replace G51 := G51.ext e34
                                          replace G56 := G56.ext e34
                                          replace G72 := G72.ext e34
                                          replace G75_0 := G75_0.ext e34
                                          replace G80_0 := G80_0.ext e34
                                          replace G95_0 := G95_0.ext e34
                                          replace G100_0 := G100_0.ext e34
                                          replace R104 := R104.ext e34
                                          replace HR104 := HR104.ext e34
                                          replace O5 := O5.ext e34
                                          replace O6 := O6.ext e34
                                          replace O9 := O9.ext e34
                                          replace O12 := O12.ext e34
                                          replace O15 := O15.ext e34
                                          replace O20 := O20.ext e34
                                          refine ov (xmove rfl) rfl rfl rfl ?_
                                          refine ov (xextract rfl rfl) rfl rfl rfl ?_
                                          refine ov (xextract rfl rfl) rfl rfl rfl ?_
                                          refine ov (xassign rfl) rfl rfl rfl ?_
                                          refine ov (xassign rfl) rfl rfl rfl ?_
                                          refine ops_nil ?_
                                          refine run_seq ?_
                                          refine run_region ?_
                                          refine ov (v := .agg #[.string (handOver x39 r39).1.Code, .string (handOver x39 r39).1.Found, .int .i64 (handOver x39 r39).1.Day, .int .i64 (handOver x39 r39).1.Seal, .slice q45 m45 d45]) (xloadN Try.isAgg49 Try.sizeOf49 rfl (O9.cells) rfl) rfl rfl rfl ?_
                                          refine ov (xfieldAddr fo77f0 rfl) rfl rfl rfl ?_
                                          refine ov (v := .int .i64 r39.Day) (xload1 Try.isAgg2 rfl (O6.cells) rfl) rfl rfl rfl ?_
                                          refine oc (xcall Try.call34 rfl) rfl rfl rfl (HolderOn_ok _ _ _ (handOver x39 r39).1 _ (G45.sl) (over_small sm39 hr39) r39.Day) ?_
                                          rintro _ w35 ⟨rfl, e35⟩
                                          have z35 := e35.size
                                          have E := E.trans e35
                                          replace G39 := G39.ext e35
                                          replace G45 := G45.ext e35
                                          replace G51 := G51.ext e35
                                          replace G56 := G56.ext e35
                                          replace G72 := G72.ext e35
                                          replace G75_0 := G75_0.ext e35
                                          replace G80_0 := G80_0.ext e35
                                          replace G95_0 := G95_0.ext e35
                                          replace G100_0 := G100_0.ext e35
                                          replace R104 := R104.ext e35
                                          replace HR104 := HR104.ext e35
                                          replace O5 := O5.ext e35
                                          replace O6 := O6.ext e35
                                          replace O9 := O9.ext e35
                                          replace O12 := O12.ext e35
                                          replace O15 := O15.ext e35
                                          replace O20 := O20.ext e35
                                          refine ov (xmove rfl) rfl rfl rfl ?_
                                          refine ov (xextract rfl rfl) rfl rfl rfl ?_
                                          refine ov (xextract rfl rfl) rfl rfl rfl ?_
                                          refine ov (xassign rfl) rfl rfl rfl ?_
                                          refine ov (xassign rfl) rfl rfl rfl ?_
                                          refine ops_nil ?_
                                          refine run_seq ?_
                                          refine run_region ?_
                                          refine ov (xmove rfl) rfl rfl rfl ?_
                                          refine ov (xeql rfl rfl _ rfl) rfl rfl rfl ?_
                                          refine ods (fun c231 => ?_) (fun c231 => ?_)
                                          ·
                                            refine ov (xmove rfl) rfl rfl rfl ?_
                                            refine ov (xmove rfl) rfl rfl rfl ?_
                                            refine ov (xeql rfl rfl _ rfl) rfl rfl rfl ?_
                                            refine ods (fun c234 => ?_) (fun c234 => ?_)
                                            ·
                                              refine ov (xpick_t rfl rfl) rfl rfl rfl ?_
                                              refine ov (xmove rfl) rfl rfl rfl ?_
                                              refine ov (xmove rfl) rfl rfl rfl ?_
                                              refine ov (xfieldAddr fo77f2 rfl) rfl rfl rfl ?_
                                              refine ov (v := .string r39.To) (xload1 Try.isAgg9 rfl (O6.cells) rfl) rfl rfl rfl ?_
                                              refine ov (xseql rfl rfl _ rfl) rfl rfl rfl ?_
                                              refine ods (fun c240 => ?_) (fun c240 => ?_)
                                              ·
                                                refine ov (xpick_t rfl rfl) rfl rfl rfl ?_
                                                refine ov (xmove rfl) rfl rfl rfl ?_
                                                refine ov (xfieldAddr fo49f4 rfl) rfl rfl rfl ?_
                                                refine ov (v := .slice q45 m45 d45) (xload1 Try.isAgg47 rfl (O9.cells) rfl) rfl rfl rfl ?_
                                                refine ov (xlen Try.underlying47 rfl) rfl rfl rfl ?_
                                                refine ov (xfieldAddr fo49f4 rfl) rfl rfl rfl ?_
                                                refine ov (v := .slice q39 m39 d39) (xload1 Try.isAgg47 rfl (O5.cells) rfl) rfl rfl rfl ?_
                                                refine ov (xlen Try.underlying47 rfl) rfl rfl rfl ?_
                                                refine ov (xadd rfl rfl (by unfold I64; omega)) rfl rfl rfl ?_
                                                refine ov (xeql rfl rfl _ rfl) rfl rfl rfl ?_
                                                refine ov (xpick_t rfl rfl) rfl rfl rfl ?_
                                                refine ov (xassign rfl) rfl rfl rfl ?_
                                                refine ops_nil ?_
                                                refine run_ret Try.func12 (res1 rfl rfl) ?_
                                                exact ⟨_, rfl, congrArg Value.bool (decide_eq_true (by omega)), E⟩
                                              · exfalso; exact c240 ov3
                                            · exfalso; omega
                                          · exfalso; omega
                                    ·
                                      refine ov (xmove rfl) rfl rfl rfl ?_
                                      refine og rfl rfl rfl ?_
                                      refine og rfl rfl rfl ?_
                                      refine ov (xpick_f rfl rfl) rfl rfl rfl ?_
                                      refine ov (xmove rfl) rfl rfl rfl ?_
                                      refine og rfl rfl rfl ?_
                                      refine og rfl rfl rfl ?_
                                      refine ov (xpick_f rfl rfl) rfl rfl rfl ?_
                                      refine ops_nil ?_
                                      refine run_cond_f rfl ?_
                                      refine run_skip ?_
                                      refine run_seq ?_
                                      refine run_seq ?_
                                      refine run_region ?_
                                      refine ov (xmove rfl) rfl rfl rfl ?_
                                      refine ov (xneq rfl rfl _ rfl) rfl rfl rfl ?_
                                      refine ods (fun c217 => ?_) (fun c217 => ?_)
                                      ·
                                        refine ops_nil ?_
                                        refine run_cond_t rfl ?_
                                        refine run_seq ?_
                                        refine run_region ?_
                                        refine ov (xassign rfl) rfl rfl rfl ?_
                                        refine ops_nil ?_
                                        refine run_ret Try.func12 (res1 rfl rfl) ?_
                                        exact ⟨_, rfl, rfl, E⟩
                                      ·
                                        obtain ⟨ov1, ov2, ov3, ov4⟩ := over_ok (by omega : (handOver x39 r39).2 = 0)
                                        refine ops_nil ?_
                                        refine run_cond_f rfl ?_
                                        refine run_skip ?_
                                        refine run_seq ?_
                                        refine run_region ?_
                                        refine ov (v := .agg #[.string (handOver x39 r39).1.Code, .string (handOver x39 r39).1.Found, .int .i64 (handOver x39 r39).1.Day, .int .i64 (handOver x39 r39).1.Seal, .slice q45 m45 d45]) (xloadN Try.isAgg49 Try.sizeOf49 rfl (O9.cells) rfl) rfl rfl rfl ?_
                                        refine oc (xcall Try.call61 rfl) rfl rfl rfl (FirstBreak_ok _ _ _ (handOver x39 r39).1 _ (G45.sl) (over_small sm39 hr39)) ?_
                                        rintro _ w34 ⟨rfl, e34⟩
                                        have z34 := e34.size
                                        have E := E.trans e34
                                        replace G39 := G39.ext e34
                                        replace G45 := G45.ext e34
                                        replace G51 := G51.ext e34
                                        replace G56 := G56.ext e34
                                        replace G72 := G72.ext e34
                                        replace G75_0 := G75_0.ext e34
                                        replace G80_0 := G80_0.ext e34
                                        replace G95_0 := G95_0.ext e34
                                        replace G100_0 := G100_0.ext e34
                                        replace R104 := R104.ext e34
                                        replace HR104 := HR104.ext e34
                                        replace O5 := O5.ext e34
                                        replace O6 := O6.ext e34
                                        replace O9 := O9.ext e34
                                        replace O12 := O12.ext e34
                                        replace O15 := O15.ext e34
                                        replace O20 := O20.ext e34
                                        refine ov (xmove rfl) rfl rfl rfl ?_
                                        refine ov (xextract rfl rfl) rfl rfl rfl ?_
                                        refine ov (xextract rfl rfl) rfl rfl rfl ?_
                                        refine ov (xassign rfl) rfl rfl rfl ?_
                                        refine ov (xassign rfl) rfl rfl rfl ?_
                                        refine ops_nil ?_
                                        refine run_seq ?_
                                        refine run_region ?_
                                        refine ov (v := .agg #[.string (handOver x39 r39).1.Code, .string (handOver x39 r39).1.Found, .int .i64 (handOver x39 r39).1.Day, .int .i64 (handOver x39 r39).1.Seal, .slice q45 m45 d45]) (xloadN Try.isAgg49 Try.sizeOf49 rfl (O9.cells) rfl) rfl rfl rfl ?_
                                        refine ov (xfieldAddr fo77f0 rfl) rfl rfl rfl ?_
                                        refine ov (v := .int .i64 r39.Day) (xload1 Try.isAgg2 rfl (O6.cells) rfl) rfl rfl rfl ?_
                                        refine oc (xcall Try.call34 rfl) rfl rfl rfl (HolderOn_ok _ _ _ (handOver x39 r39).1 _ (G45.sl) (over_small sm39 hr39) r39.Day) ?_
                                        rintro _ w35 ⟨rfl, e35⟩
                                        have z35 := e35.size
                                        have E := E.trans e35
                                        replace G39 := G39.ext e35
                                        replace G45 := G45.ext e35
                                        replace G51 := G51.ext e35
                                        replace G56 := G56.ext e35
                                        replace G72 := G72.ext e35
                                        replace G75_0 := G75_0.ext e35
                                        replace G80_0 := G80_0.ext e35
                                        replace G95_0 := G95_0.ext e35
                                        replace G100_0 := G100_0.ext e35
                                        replace R104 := R104.ext e35
                                        replace HR104 := HR104.ext e35
                                        replace O5 := O5.ext e35
                                        replace O6 := O6.ext e35
                                        replace O9 := O9.ext e35
                                        replace O12 := O12.ext e35
                                        replace O15 := O15.ext e35
                                        replace O20 := O20.ext e35
                                        refine ov (xmove rfl) rfl rfl rfl ?_
                                        refine ov (xextract rfl rfl) rfl rfl rfl ?_
                                        refine ov (xextract rfl rfl) rfl rfl rfl ?_
                                        refine ov (xassign rfl) rfl rfl rfl ?_
                                        refine ov (xassign rfl) rfl rfl rfl ?_
                                        refine ops_nil ?_
                                        refine run_seq ?_
                                        refine run_region ?_
                                        refine ov (xmove rfl) rfl rfl rfl ?_
                                        refine ov (xeql rfl rfl _ rfl) rfl rfl rfl ?_
                                        refine ods (fun c231 => ?_) (fun c231 => ?_)
                                        ·
                                          refine ov (xmove rfl) rfl rfl rfl ?_
                                          refine ov (xmove rfl) rfl rfl rfl ?_
                                          refine ov (xeql rfl rfl _ rfl) rfl rfl rfl ?_
                                          refine ods (fun c234 => ?_) (fun c234 => ?_)
                                          ·
                                            refine ov (xpick_t rfl rfl) rfl rfl rfl ?_
                                            refine ov (xmove rfl) rfl rfl rfl ?_
                                            refine ov (xmove rfl) rfl rfl rfl ?_
                                            refine ov (xfieldAddr fo77f2 rfl) rfl rfl rfl ?_
                                            refine ov (v := .string r39.To) (xload1 Try.isAgg9 rfl (O6.cells) rfl) rfl rfl rfl ?_
                                            refine ov (xseql rfl rfl _ rfl) rfl rfl rfl ?_
                                            refine ods (fun c240 => ?_) (fun c240 => ?_)
                                            ·
                                              refine ov (xpick_t rfl rfl) rfl rfl rfl ?_
                                              refine ov (xmove rfl) rfl rfl rfl ?_
                                              refine ov (xfieldAddr fo49f4 rfl) rfl rfl rfl ?_
                                              refine ov (v := .slice q45 m45 d45) (xload1 Try.isAgg47 rfl (O9.cells) rfl) rfl rfl rfl ?_
                                              refine ov (xlen Try.underlying47 rfl) rfl rfl rfl ?_
                                              refine ov (xfieldAddr fo49f4 rfl) rfl rfl rfl ?_
                                              refine ov (v := .slice q39 m39 d39) (xload1 Try.isAgg47 rfl (O5.cells) rfl) rfl rfl rfl ?_
                                              refine ov (xlen Try.underlying47 rfl) rfl rfl rfl ?_
                                              refine ov (xadd rfl rfl (by unfold I64; omega)) rfl rfl rfl ?_
                                              refine ov (xeql rfl rfl _ rfl) rfl rfl rfl ?_
                                              refine ov (xpick_t rfl rfl) rfl rfl rfl ?_
                                              refine ov (xassign rfl) rfl rfl rfl ?_
                                              refine ops_nil ?_
                                              refine run_ret Try.func12 (res1 rfl rfl) ?_
                                              exact ⟨_, rfl, congrArg Value.bool (decide_eq_true (by omega)), E⟩
                                            · exfalso; exact c240 ov3
                                          · exfalso; omega
                                        · exfalso; omega
                              ·
                                refine ov (xmove rfl) rfl rfl rfl ?_
                                refine og rfl rfl rfl ?_
                                refine og rfl rfl rfl ?_
                                refine og rfl rfl rfl ?_
                                refine og rfl rfl rfl ?_
                                refine og rfl rfl rfl ?_
                                refine og rfl rfl rfl ?_
                                refine og rfl rfl rfl ?_
                                refine og rfl rfl rfl ?_
                                refine og rfl rfl rfl ?_
                                refine og rfl rfl rfl ?_
                                refine og rfl rfl rfl ?_
                                refine ov (xpick_f rfl rfl) rfl rfl rfl ?_
                                refine ov (xpick_f rfl rfl) rfl rfl rfl ?_
                                refine ops_nil ?_
                                refine run_cond_f rfl ?_
                                refine run_skip ?_
                                refine run_seq ?_
                                refine run_seq ?_
                                refine run_region ?_
                                refine ov (xmove rfl) rfl rfl rfl ?_
                                refine ov (xeql rfl rfl _ rfl) rfl rfl rfl ?_
                                refine ods (fun c194 => ?_) (fun c194 => ?_)
                                ·
                                  refine ov (xmove rfl) rfl rfl rfl ?_
                                  refine ov (xmove rfl) rfl rfl rfl ?_
                                  refine ov (xeql rfl rfl _ rfl) rfl rfl rfl ?_
                                  refine ods (fun c197 => ?_) (fun c197 => ?_)
                                  ·
                                    refine ov (xpick_t rfl rfl) rfl rfl rfl ?_
                                    refine ov (xmove rfl) rfl rfl rfl ?_
                                    refine ov (xmove rfl) rfl rfl rfl ?_
                                    refine ov (xgeq rfl rfl _ rfl) rfl rfl rfl ?_
                                    refine ods (fun c201 => ?_) (fun c201 => ?_)
                                    ·
                                      refine ov (xpick_t rfl rfl) rfl rfl rfl ?_
                                      refine ops_nil ?_
                                      refine run_cond_t rfl ?_
                                      refine run_seq ?_
                                      refine run_region ?_
                                      refine ov (v := .agg #[.string x56.Code, .string x56.Found, .int .i64 x56.Day, .int .i64 x56.Seal, .slice q56 m56 d56]) (xloadN Try.isAgg49 Try.sizeOf49 rfl (O15.cells) rfl) rfl rfl rfl ?_
                                      refine oc (xcall Try.call46 rfl) rfl rfl rfl (HoldersOf_ok _ _ _ x56 _ (G56.sl) sm56) ?_
                                      rintro _ w34 ⟨e34, q205_0, m205_0, d205_0, rfl, G205_0⟩
                                      have z34 := e34.size
                                      have E := E.trans e34
                                      replace G39 := G39.ext e34
                                      replace G45 := G45.ext e34
                                      replace G51 := G51.ext e34
                                      replace G56 := G56.ext e34
                                      replace G72 := G72.ext e34
                                      replace G75_0 := G75_0.ext e34
                                      replace G80_0 := G80_0.ext e34
                                      replace G95_0 := G95_0.ext e34
                                      replace G100_0 := G100_0.ext e34
                                      replace R104 := R104.ext e34
                                      replace HR104 := HR104.ext e34
                                      replace O5 := O5.ext e34
                                      replace O6 := O6.ext e34
                                      replace O9 := O9.ext e34
                                      replace O12 := O12.ext e34
                                      replace O15 := O15.ext e34
                                      replace O20 := O20.ext e34
                                      have lG205_0 := G205_0.len
                                      have hal205 := holdersOf_len x56
                                      refine ov (xmove rfl) rfl rfl rfl ?_
                                      refine ov (xextract rfl rfl) rfl rfl rfl ?_
                                      refine ov (xextract rfl rfl) rfl rfl rfl ?_
                                      refine ov (xassign rfl) rfl rfl rfl ?_
                                      refine ov (xassign rfl) rfl rfl rfl ?_
                                      refine ops_nil ?_
                                      refine run_seq ?_
                                      refine run_region ?_
                                      refine ov (xmove rfl) rfl rfl rfl ?_
                                      refine ov (xeql rfl rfl _ rfl) rfl rfl rfl ?_
                                      refine ods (fun c209 => ?_) (fun c209 => ?_)
                                      ·
                                        refine ov (xmove rfl) rfl rfl rfl ?_
                                        refine ov (xmove rfl) rfl rfl rfl ?_
                                        refine ov (xmove rfl) rfl rfl rfl ?_
                                        refine oc (xcall Try.call49 rfl) rfl rfl rfl (hasText_ok _ _ _ _ ((holderOn x56 k56).1) _ (G205_0.sl)) ?_
                                        rintro _ w35 ⟨rfl, e35⟩
                                        have z35 := e35.size
                                        have E := E.trans e35
                                        replace G39 := G39.ext e35
                                        replace G45 := G45.ext e35
                                        replace G51 := G51.ext e35
                                        replace G56 := G56.ext e35
                                        replace G72 := G72.ext e35
                                        replace G75_0 := G75_0.ext e35
                                        replace G80_0 := G80_0.ext e35
                                        replace G95_0 := G95_0.ext e35
                                        replace G100_0 := G100_0.ext e35
                                        replace R104 := R104.ext e35
                                        replace HR104 := HR104.ext e35
                                        replace G205_0 := G205_0.ext e35
                                        replace O5 := O5.ext e35
                                        replace O6 := O6.ext e35
                                        replace O9 := O9.ext e35
                                        replace O12 := O12.ext e35
                                        replace O15 := O15.ext e35
                                        replace O20 := O20.ext e35
                                        refine obs (fun c213 => ?_) (fun c213 => ?_)
                                        ·
                                          refine ov (xnot rfl) rfl rfl rfl ?_
                                          refine ov (xpick_t rfl rfl) rfl rfl rfl ?_
                                          refine ops_nil ?_
                                          refine run_cond_f rfl ?_
                                          refine run_skip ?_
                                          refine run_seq ?_
                                          refine run_seq ?_
                                          refine run_region ?_
                                          refine ov (xmove rfl) rfl rfl rfl ?_
                                          refine ov (xneq rfl rfl _ rfl) rfl rfl rfl ?_
                                          refine ods (fun c217 => ?_) (fun c217 => ?_)
                                          ·
                                            refine ops_nil ?_
                                            refine run_cond_t rfl ?_
                                            refine run_seq ?_
                                            refine run_region ?_
                                            refine ov (xassign rfl) rfl rfl rfl ?_
                                            refine ops_nil ?_
                                            refine run_ret Try.func12 (res1 rfl rfl) ?_
                                            exact ⟨_, rfl, rfl, E⟩
                                          ·
                                            obtain ⟨ov1, ov2, ov3, ov4⟩ := over_ok (by omega : (handOver x39 r39).2 = 0)
                                            refine ops_nil ?_
                                            refine run_cond_f rfl ?_
                                            refine run_skip ?_
                                            refine run_seq ?_
                                            refine run_region ?_
                                            refine ov (v := .agg #[.string (handOver x39 r39).1.Code, .string (handOver x39 r39).1.Found, .int .i64 (handOver x39 r39).1.Day, .int .i64 (handOver x39 r39).1.Seal, .slice q45 m45 d45]) (xloadN Try.isAgg49 Try.sizeOf49 rfl (O9.cells) rfl) rfl rfl rfl ?_
                                            refine oc (xcall Try.call61 rfl) rfl rfl rfl (FirstBreak_ok _ _ _ (handOver x39 r39).1 _ (G45.sl) (over_small sm39 hr39)) ?_
                                            rintro _ w36 ⟨rfl, e36⟩
                                            have z36 := e36.size
                                            have E := E.trans e36
                                            replace G39 := G39.ext e36
                                            replace G45 := G45.ext e36
                                            replace G51 := G51.ext e36
                                            replace G56 := G56.ext e36
                                            replace G72 := G72.ext e36
                                            replace G75_0 := G75_0.ext e36
                                            replace G80_0 := G80_0.ext e36
                                            replace G95_0 := G95_0.ext e36
                                            replace G100_0 := G100_0.ext e36
                                            replace R104 := R104.ext e36
                                            replace HR104 := HR104.ext e36
                                            replace G205_0 := G205_0.ext e36
                                            replace O5 := O5.ext e36
                                            replace O6 := O6.ext e36
                                            replace O9 := O9.ext e36
                                            replace O12 := O12.ext e36
                                            replace O15 := O15.ext e36
                                            replace O20 := O20.ext e36
                                            refine ov (xmove rfl) rfl rfl rfl ?_
                                            refine ov (xextract rfl rfl) rfl rfl rfl ?_
                                            refine ov (xextract rfl rfl) rfl rfl rfl ?_
                                            refine ov (xassign rfl) rfl rfl rfl ?_
                                            refine ov (xassign rfl) rfl rfl rfl ?_
                                            refine ops_nil ?_
                                            refine run_seq ?_
                                            refine run_region ?_
                                            refine ov (v := .agg #[.string (handOver x39 r39).1.Code, .string (handOver x39 r39).1.Found, .int .i64 (handOver x39 r39).1.Day, .int .i64 (handOver x39 r39).1.Seal, .slice q45 m45 d45]) (xloadN Try.isAgg49 Try.sizeOf49 rfl (O9.cells) rfl) rfl rfl rfl ?_
                                            refine ov (xfieldAddr fo77f0 rfl) rfl rfl rfl ?_
                                            refine ov (v := .int .i64 r39.Day) (xload1 Try.isAgg2 rfl (O6.cells) rfl) rfl rfl rfl ?_
                                            refine oc (xcall Try.call34 rfl) rfl rfl rfl (HolderOn_ok _ _ _ (handOver x39 r39).1 _ (G45.sl) (over_small sm39 hr39) r39.Day) ?_
                                            rintro _ w37 ⟨rfl, e37⟩
                                            have z37 := e37.size
                                            have E := E.trans e37
                                            replace G39 := G39.ext e37
                                            replace G45 := G45.ext e37
                                            replace G51 := G51.ext e37
                                            replace G56 := G56.ext e37
                                            replace G72 := G72.ext e37
                                            replace G75_0 := G75_0.ext e37
                                            replace G80_0 := G80_0.ext e37
                                            replace G95_0 := G95_0.ext e37
                                            replace G100_0 := G100_0.ext e37
                                            replace R104 := R104.ext e37
                                            replace HR104 := HR104.ext e37
                                            replace G205_0 := G205_0.ext e37
                                            replace O5 := O5.ext e37
                                            replace O6 := O6.ext e37
                                            replace O9 := O9.ext e37
                                            replace O12 := O12.ext e37
                                            replace O15 := O15.ext e37
                                            replace O20 := O20.ext e37
                                            refine ov (xmove rfl) rfl rfl rfl ?_
                                            refine ov (xextract rfl rfl) rfl rfl rfl ?_
                                            refine ov (xextract rfl rfl) rfl rfl rfl ?_
                                            refine ov (xassign rfl) rfl rfl rfl ?_
                                            refine ov (xassign rfl) rfl rfl rfl ?_
                                            refine ops_nil ?_
                                            refine run_seq ?_
                                            refine run_region ?_
                                            refine ov (xmove rfl) rfl rfl rfl ?_
                                            refine ov (xeql rfl rfl _ rfl) rfl rfl rfl ?_
                                            refine ods (fun c231 => ?_) (fun c231 => ?_)
                                            ·
                                              refine ov (xmove rfl) rfl rfl rfl ?_
                                              refine ov (xmove rfl) rfl rfl rfl ?_
                                              refine ov (xeql rfl rfl _ rfl) rfl rfl rfl ?_
                                              refine ods (fun c234 => ?_) (fun c234 => ?_)
                                              ·
                                                refine ov (xpick_t rfl rfl) rfl rfl rfl ?_
                                                refine ov (xmove rfl) rfl rfl rfl ?_
                                                refine ov (xmove rfl) rfl rfl rfl ?_
                                                refine ov (xfieldAddr fo77f2 rfl) rfl rfl rfl ?_
                                                refine ov (v := .string r39.To) (xload1 Try.isAgg9 rfl (O6.cells) rfl) rfl rfl rfl ?_
                                                refine ov (xseql rfl rfl _ rfl) rfl rfl rfl ?_
                                                refine ods (fun c240 => ?_) (fun c240 => ?_)
                                                ·
                                                  refine ov (xpick_t rfl rfl) rfl rfl rfl ?_
                                                  refine ov (xmove rfl) rfl rfl rfl ?_
                                                  refine ov (xfieldAddr fo49f4 rfl) rfl rfl rfl ?_
                                                  refine ov (v := .slice q45 m45 d45) (xload1 Try.isAgg47 rfl (O9.cells) rfl) rfl rfl rfl ?_
                                                  refine ov (xlen Try.underlying47 rfl) rfl rfl rfl ?_
                                                  refine ov (xfieldAddr fo49f4 rfl) rfl rfl rfl ?_
                                                  refine ov (v := .slice q39 m39 d39) (xload1 Try.isAgg47 rfl (O5.cells) rfl) rfl rfl rfl ?_
                                                  refine ov (xlen Try.underlying47 rfl) rfl rfl rfl ?_
                                                  refine ov (xadd rfl rfl (by unfold I64; omega)) rfl rfl rfl ?_
                                                  refine ov (xeql rfl rfl _ rfl) rfl rfl rfl ?_
                                                  refine ov (xpick_t rfl rfl) rfl rfl rfl ?_
                                                  refine ov (xassign rfl) rfl rfl rfl ?_
                                                  refine ops_nil ?_
                                                  refine run_ret Try.func12 (res1 rfl rfl) ?_
                                                  exact ⟨_, rfl, congrArg Value.bool (decide_eq_true (by omega)), E⟩
                                                · exfalso; exact c240 ov3
                                              · exfalso; omega
                                            · exfalso; omega
                                        · exfalso; have := hold_in (x := x56) (d := k56) (by omega) (by omega); rw [this] at c213; cases c213
                                      ·
                                        refine ov (xmove rfl) rfl rfl rfl ?_
                                        refine og rfl rfl rfl ?_
                                        refine og rfl rfl rfl ?_
                                        refine og rfl rfl rfl ?_
                                        refine og rfl rfl rfl ?_
                                        refine ov (xpick_f rfl rfl) rfl rfl rfl ?_
                                        refine ops_nil ?_
                                        refine run_cond_f rfl ?_
                                        refine run_skip ?_
                                        refine run_seq ?_
                                        refine run_seq ?_
                                        refine run_region ?_
                                        refine ov (xmove rfl) rfl rfl rfl ?_
                                        refine ov (xneq rfl rfl _ rfl) rfl rfl rfl ?_
                                        refine ods (fun c217 => ?_) (fun c217 => ?_)
                                        ·
                                          refine ops_nil ?_
                                          refine run_cond_t rfl ?_
                                          refine run_seq ?_
                                          refine run_region ?_
                                          refine ov (xassign rfl) rfl rfl rfl ?_
                                          refine ops_nil ?_
                                          refine run_ret Try.func12 (res1 rfl rfl) ?_
                                          exact ⟨_, rfl, rfl, E⟩
                                        ·
                                          obtain ⟨ov1, ov2, ov3, ov4⟩ := over_ok (by omega : (handOver x39 r39).2 = 0)
                                          refine ops_nil ?_
                                          refine run_cond_f rfl ?_
                                          refine run_skip ?_
                                          refine run_seq ?_
                                          refine run_region ?_
                                          refine ov (v := .agg #[.string (handOver x39 r39).1.Code, .string (handOver x39 r39).1.Found, .int .i64 (handOver x39 r39).1.Day, .int .i64 (handOver x39 r39).1.Seal, .slice q45 m45 d45]) (xloadN Try.isAgg49 Try.sizeOf49 rfl (O9.cells) rfl) rfl rfl rfl ?_
                                          refine oc (xcall Try.call61 rfl) rfl rfl rfl (FirstBreak_ok _ _ _ (handOver x39 r39).1 _ (G45.sl) (over_small sm39 hr39)) ?_
                                          rintro _ w35 ⟨rfl, e35⟩
                                          have z35 := e35.size
                                          have E := E.trans e35
                                          replace G39 := G39.ext e35
                                          replace G45 := G45.ext e35
                                          replace G51 := G51.ext e35
                                          replace G56 := G56.ext e35
                                          replace G72 := G72.ext e35
                                          replace G75_0 := G75_0.ext e35
                                          replace G80_0 := G80_0.ext e35
                                          replace G95_0 := G95_0.ext e35
                                          replace G100_0 := G100_0.ext e35
                                          replace R104 := R104.ext e35
                                          replace HR104 := HR104.ext e35
                                          replace G205_0 := G205_0.ext e35
                                          replace O5 := O5.ext e35
                                          replace O6 := O6.ext e35
                                          replace O9 := O9.ext e35
                                          replace O12 := O12.ext e35
                                          replace O15 := O15.ext e35
                                          replace O20 := O20.ext e35
                                          refine ov (xmove rfl) rfl rfl rfl ?_
                                          refine ov (xextract rfl rfl) rfl rfl rfl ?_
                                          refine ov (xextract rfl rfl) rfl rfl rfl ?_
                                          refine ov (xassign rfl) rfl rfl rfl ?_
                                          refine ov (xassign rfl) rfl rfl rfl ?_
                                          refine ops_nil ?_
                                          refine run_seq ?_
                                          refine run_region ?_
                                          refine ov (v := .agg #[.string (handOver x39 r39).1.Code, .string (handOver x39 r39).1.Found, .int .i64 (handOver x39 r39).1.Day, .int .i64 (handOver x39 r39).1.Seal, .slice q45 m45 d45]) (xloadN Try.isAgg49 Try.sizeOf49 rfl (O9.cells) rfl) rfl rfl rfl ?_
                                          refine ov (xfieldAddr fo77f0 rfl) rfl rfl rfl ?_
                                          refine ov (v := .int .i64 r39.Day) (xload1 Try.isAgg2 rfl (O6.cells) rfl) rfl rfl rfl ?_
                                          refine oc (xcall Try.call34 rfl) rfl rfl rfl (HolderOn_ok _ _ _ (handOver x39 r39).1 _ (G45.sl) (over_small sm39 hr39) r39.Day) ?_
                                          rintro _ w36 ⟨rfl, e36⟩
                                          have z36 := e36.size
                                          have E := E.trans e36
                                          replace G39 := G39.ext e36
                                          replace G45 := G45.ext e36
                                          replace G51 := G51.ext e36
                                          replace G56 := G56.ext e36
                                          replace G72 := G72.ext e36
                                          replace G75_0 := G75_0.ext e36
                                          replace G80_0 := G80_0.ext e36
                                          replace G95_0 := G95_0.ext e36
                                          replace G100_0 := G100_0.ext e36
                                          replace R104 := R104.ext e36
                                          replace HR104 := HR104.ext e36
                                          replace G205_0 := G205_0.ext e36
                                          replace O5 := O5.ext e36
                                          replace O6 := O6.ext e36
                                          replace O9 := O9.ext e36
                                          replace O12 := O12.ext e36
                                          replace O15 := O15.ext e36
                                          replace O20 := O20.ext e36
                                          refine ov (xmove rfl) rfl rfl rfl ?_
                                          refine ov (xextract rfl rfl) rfl rfl rfl ?_
                                          refine ov (xextract rfl rfl) rfl rfl rfl ?_
                                          refine ov (xassign rfl) rfl rfl rfl ?_
                                          refine ov (xassign rfl) rfl rfl rfl ?_
                                          refine ops_nil ?_
                                          refine run_seq ?_
                                          refine run_region ?_
                                          refine ov (xmove rfl) rfl rfl rfl ?_
                                          refine ov (xeql rfl rfl _ rfl) rfl rfl rfl ?_
                                          refine ods (fun c231 => ?_) (fun c231 => ?_)
                                          ·
                                            refine ov (xmove rfl) rfl rfl rfl ?_
                                            refine ov (xmove rfl) rfl rfl rfl ?_
                                            refine ov (xeql rfl rfl _ rfl) rfl rfl rfl ?_
                                            refine ods (fun c234 => ?_) (fun c234 => ?_)
                                            ·
                                              refine ov (xpick_t rfl rfl) rfl rfl rfl ?_
                                              refine ov (xmove rfl) rfl rfl rfl ?_
                                              refine ov (xmove rfl) rfl rfl rfl ?_
                                              refine ov (xfieldAddr fo77f2 rfl) rfl rfl rfl ?_
                                              refine ov (v := .string r39.To) (xload1 Try.isAgg9 rfl (O6.cells) rfl) rfl rfl rfl ?_
                                              refine ov (xseql rfl rfl _ rfl) rfl rfl rfl ?_
                                              refine ods (fun c240 => ?_) (fun c240 => ?_)
                                              ·
                                                refine ov (xpick_t rfl rfl) rfl rfl rfl ?_
                                                refine ov (xmove rfl) rfl rfl rfl ?_
                                                refine ov (xfieldAddr fo49f4 rfl) rfl rfl rfl ?_
                                                refine ov (v := .slice q45 m45 d45) (xload1 Try.isAgg47 rfl (O9.cells) rfl) rfl rfl rfl ?_
                                                refine ov (xlen Try.underlying47 rfl) rfl rfl rfl ?_
                                                refine ov (xfieldAddr fo49f4 rfl) rfl rfl rfl ?_
                                                refine ov (v := .slice q39 m39 d39) (xload1 Try.isAgg47 rfl (O5.cells) rfl) rfl rfl rfl ?_
                                                refine ov (xlen Try.underlying47 rfl) rfl rfl rfl ?_
                                                refine ov (xadd rfl rfl (by unfold I64; omega)) rfl rfl rfl ?_
                                                refine ov (xeql rfl rfl _ rfl) rfl rfl rfl ?_
                                                refine ov (xpick_t rfl rfl) rfl rfl rfl ?_
                                                refine ov (xassign rfl) rfl rfl rfl ?_
                                                refine ops_nil ?_
                                                refine run_ret Try.func12 (res1 rfl rfl) ?_
                                                exact ⟨_, rfl, congrArg Value.bool (decide_eq_true (by omega)), E⟩
                                              · exfalso; exact c240 ov3
                                            · exfalso; omega
                                          · exfalso; omega
                                    ·
                                      refine ov (xpick_t rfl rfl) rfl rfl rfl ?_
                                      refine ops_nil ?_
                                      refine run_cond_f rfl ?_
                                      refine run_skip ?_
                                      refine run_seq ?_
                                      refine run_seq ?_
                                      refine run_region ?_
                                      refine ov (xmove rfl) rfl rfl rfl ?_
                                      refine ov (xneq rfl rfl _ rfl) rfl rfl rfl ?_
                                      refine ods (fun c217 => ?_) (fun c217 => ?_)
                                      ·
                                        refine ops_nil ?_
                                        refine run_cond_t rfl ?_
                                        refine run_seq ?_
                                        refine run_region ?_
                                        refine ov (xassign rfl) rfl rfl rfl ?_
                                        refine ops_nil ?_
                                        refine run_ret Try.func12 (res1 rfl rfl) ?_
                                        exact ⟨_, rfl, rfl, E⟩
                                      ·
                                        obtain ⟨ov1, ov2, ov3, ov4⟩ := over_ok (by omega : (handOver x39 r39).2 = 0)
                                        refine ops_nil ?_
                                        refine run_cond_f rfl ?_
                                        refine run_skip ?_
                                        refine run_seq ?_
                                        refine run_region ?_
                                        refine ov (v := .agg #[.string (handOver x39 r39).1.Code, .string (handOver x39 r39).1.Found, .int .i64 (handOver x39 r39).1.Day, .int .i64 (handOver x39 r39).1.Seal, .slice q45 m45 d45]) (xloadN Try.isAgg49 Try.sizeOf49 rfl (O9.cells) rfl) rfl rfl rfl ?_
                                        refine oc (xcall Try.call61 rfl) rfl rfl rfl (FirstBreak_ok _ _ _ (handOver x39 r39).1 _ (G45.sl) (over_small sm39 hr39)) ?_
                                        rintro _ w34 ⟨rfl, e34⟩
                                        have z34 := e34.size
                                        have E := E.trans e34
                                        replace G39 := G39.ext e34
                                        replace G45 := G45.ext e34
                                        replace G51 := G51.ext e34
                                        replace G56 := G56.ext e34
                                        replace G72 := G72.ext e34
                                        replace G75_0 := G75_0.ext e34
                                        replace G80_0 := G80_0.ext e34
                                        replace G95_0 := G95_0.ext e34
                                        replace G100_0 := G100_0.ext e34
                                        replace R104 := R104.ext e34
                                        replace HR104 := HR104.ext e34
                                        replace O5 := O5.ext e34
                                        replace O6 := O6.ext e34
                                        replace O9 := O9.ext e34
                                        replace O12 := O12.ext e34
                                        replace O15 := O15.ext e34
                                        replace O20 := O20.ext e34
                                        refine ov (xmove rfl) rfl rfl rfl ?_
                                        refine ov (xextract rfl rfl) rfl rfl rfl ?_
                                        refine ov (xextract rfl rfl) rfl rfl rfl ?_
                                        refine ov (xassign rfl) rfl rfl rfl ?_
                                        refine ov (xassign rfl) rfl rfl rfl ?_
                                        refine ops_nil ?_
                                        refine run_seq ?_
                                        refine run_region ?_
                                        refine ov (v := .agg #[.string (handOver x39 r39).1.Code, .string (handOver x39 r39).1.Found, .int .i64 (handOver x39 r39).1.Day, .int .i64 (handOver x39 r39).1.Seal, .slice q45 m45 d45]) (xloadN Try.isAgg49 Try.sizeOf49 rfl (O9.cells) rfl) rfl rfl rfl ?_
                                        refine ov (xfieldAddr fo77f0 rfl) rfl rfl rfl ?_
                                        refine ov (v := .int .i64 r39.Day) (xload1 Try.isAgg2 rfl (O6.cells) rfl) rfl rfl rfl ?_
                                        refine oc (xcall Try.call34 rfl) rfl rfl rfl (HolderOn_ok _ _ _ (handOver x39 r39).1 _ (G45.sl) (over_small sm39 hr39) r39.Day) ?_
                                        rintro _ w35 ⟨rfl, e35⟩
                                        have z35 := e35.size
                                        have E := E.trans e35
                                        replace G39 := G39.ext e35
                                        replace G45 := G45.ext e35
                                        replace G51 := G51.ext e35
                                        replace G56 := G56.ext e35
                                        replace G72 := G72.ext e35
                                        replace G75_0 := G75_0.ext e35
                                        replace G80_0 := G80_0.ext e35
                                        replace G95_0 := G95_0.ext e35
                                        replace G100_0 := G100_0.ext e35
                                        replace R104 := R104.ext e35
                                        replace HR104 := HR104.ext e35
                                        replace O5 := O5.ext e35
                                        replace O6 := O6.ext e35
                                        replace O9 := O9.ext e35
                                        replace O12 := O12.ext e35
                                        replace O15 := O15.ext e35
                                        replace O20 := O20.ext e35
                                        refine ov (xmove rfl) rfl rfl rfl ?_
                                        refine ov (xextract rfl rfl) rfl rfl rfl ?_
                                        refine ov (xextract rfl rfl) rfl rfl rfl ?_
                                        refine ov (xassign rfl) rfl rfl rfl ?_
                                        refine ov (xassign rfl) rfl rfl rfl ?_
                                        refine ops_nil ?_
                                        refine run_seq ?_
                                        refine run_region ?_
                                        refine ov (xmove rfl) rfl rfl rfl ?_
                                        refine ov (xeql rfl rfl _ rfl) rfl rfl rfl ?_
                                        refine ods (fun c231 => ?_) (fun c231 => ?_)
                                        ·
                                          refine ov (xmove rfl) rfl rfl rfl ?_
                                          refine ov (xmove rfl) rfl rfl rfl ?_
                                          refine ov (xeql rfl rfl _ rfl) rfl rfl rfl ?_
                                          refine ods (fun c234 => ?_) (fun c234 => ?_)
                                          ·
                                            refine ov (xpick_t rfl rfl) rfl rfl rfl ?_
                                            refine ov (xmove rfl) rfl rfl rfl ?_
                                            refine ov (xmove rfl) rfl rfl rfl ?_
                                            refine ov (xfieldAddr fo77f2 rfl) rfl rfl rfl ?_
                                            refine ov (v := .string r39.To) (xload1 Try.isAgg9 rfl (O6.cells) rfl) rfl rfl rfl ?_
                                            refine ov (xseql rfl rfl _ rfl) rfl rfl rfl ?_
                                            refine ods (fun c240 => ?_) (fun c240 => ?_)
                                            ·
                                              refine ov (xpick_t rfl rfl) rfl rfl rfl ?_
                                              refine ov (xmove rfl) rfl rfl rfl ?_
                                              refine ov (xfieldAddr fo49f4 rfl) rfl rfl rfl ?_
                                              refine ov (v := .slice q45 m45 d45) (xload1 Try.isAgg47 rfl (O9.cells) rfl) rfl rfl rfl ?_
                                              refine ov (xlen Try.underlying47 rfl) rfl rfl rfl ?_
                                              refine ov (xfieldAddr fo49f4 rfl) rfl rfl rfl ?_
                                              refine ov (v := .slice q39 m39 d39) (xload1 Try.isAgg47 rfl (O5.cells) rfl) rfl rfl rfl ?_
                                              refine ov (xlen Try.underlying47 rfl) rfl rfl rfl ?_
                                              refine ov (xadd rfl rfl (by unfold I64; omega)) rfl rfl rfl ?_
                                              refine ov (xeql rfl rfl _ rfl) rfl rfl rfl ?_
                                              refine ov (xpick_t rfl rfl) rfl rfl rfl ?_
                                              refine ov (xassign rfl) rfl rfl rfl ?_
                                              refine ops_nil ?_
                                              refine run_ret Try.func12 (res1 rfl rfl) ?_
                                              exact ⟨_, rfl, congrArg Value.bool (decide_eq_true (by omega)), E⟩
                                            · exfalso; exact c240 ov3
                                          · exfalso; omega
                                        · exfalso; omega
                                  ·
                                    refine ov (xpick_t rfl rfl) rfl rfl rfl ?_
                                    refine ov (xmove rfl) rfl rfl rfl ?_
                                    refine og rfl rfl rfl ?_
                                    refine og rfl rfl rfl ?_
                                    refine ov (xpick_f rfl rfl) rfl rfl rfl ?_
                                    refine ops_nil ?_
                                    refine run_cond_f rfl ?_
                                    refine run_skip ?_
                                    refine run_seq ?_
                                    refine run_seq ?_
                                    refine run_region ?_
                                    refine ov (xmove rfl) rfl rfl rfl ?_
                                    refine ov (xneq rfl rfl _ rfl) rfl rfl rfl ?_
                                    refine ods (fun c217 => ?_) (fun c217 => ?_)
                                    ·
                                      refine ops_nil ?_
                                      refine run_cond_t rfl ?_
                                      refine run_seq ?_
                                      refine run_region ?_
                                      refine ov (xassign rfl) rfl rfl rfl ?_
                                      refine ops_nil ?_
                                      refine run_ret Try.func12 (res1 rfl rfl) ?_
                                      exact ⟨_, rfl, rfl, E⟩
                                    ·
                                      obtain ⟨ov1, ov2, ov3, ov4⟩ := over_ok (by omega : (handOver x39 r39).2 = 0)
                                      refine ops_nil ?_
                                      refine run_cond_f rfl ?_
                                      refine run_skip ?_
                                      refine run_seq ?_
                                      refine run_region ?_
                                      refine ov (v := .agg #[.string (handOver x39 r39).1.Code, .string (handOver x39 r39).1.Found, .int .i64 (handOver x39 r39).1.Day, .int .i64 (handOver x39 r39).1.Seal, .slice q45 m45 d45]) (xloadN Try.isAgg49 Try.sizeOf49 rfl (O9.cells) rfl) rfl rfl rfl ?_
                                      refine oc (xcall Try.call61 rfl) rfl rfl rfl (FirstBreak_ok _ _ _ (handOver x39 r39).1 _ (G45.sl) (over_small sm39 hr39)) ?_
                                      rintro _ w34 ⟨rfl, e34⟩
                                      have z34 := e34.size
                                      have E := E.trans e34
                                      replace G39 := G39.ext e34
                                      replace G45 := G45.ext e34
                                      replace G51 := G51.ext e34
                                      replace G56 := G56.ext e34
                                      replace G72 := G72.ext e34
                                      replace G75_0 := G75_0.ext e34
                                      replace G80_0 := G80_0.ext e34
                                      replace G95_0 := G95_0.ext e34
                                      replace G100_0 := G100_0.ext e34
                                      replace R104 := R104.ext e34
                                      replace HR104 := HR104.ext e34
                                      replace O5 := O5.ext e34
                                      replace O6 := O6.ext e34
                                      replace O9 := O9.ext e34
                                      replace O12 := O12.ext e34
                                      replace O15 := O15.ext e34
                                      replace O20 := O20.ext e34
                                      refine ov (xmove rfl) rfl rfl rfl ?_
                                      refine ov (xextract rfl rfl) rfl rfl rfl ?_
                                      refine ov (xextract rfl rfl) rfl rfl rfl ?_
                                      refine ov (xassign rfl) rfl rfl rfl ?_
                                      refine ov (xassign rfl) rfl rfl rfl ?_
                                      refine ops_nil ?_
                                      refine run_seq ?_
                                      refine run_region ?_
                                      refine ov (v := .agg #[.string (handOver x39 r39).1.Code, .string (handOver x39 r39).1.Found, .int .i64 (handOver x39 r39).1.Day, .int .i64 (handOver x39 r39).1.Seal, .slice q45 m45 d45]) (xloadN Try.isAgg49 Try.sizeOf49 rfl (O9.cells) rfl) rfl rfl rfl ?_
                                      refine ov (xfieldAddr fo77f0 rfl) rfl rfl rfl ?_
                                      refine ov (v := .int .i64 r39.Day) (xload1 Try.isAgg2 rfl (O6.cells) rfl) rfl rfl rfl ?_
                                      refine oc (xcall Try.call34 rfl) rfl rfl rfl (HolderOn_ok _ _ _ (handOver x39 r39).1 _ (G45.sl) (over_small sm39 hr39) r39.Day) ?_
                                      rintro _ w35 ⟨rfl, e35⟩
                                      have z35 := e35.size
                                      have E := E.trans e35
                                      replace G39 := G39.ext e35
                                      replace G45 := G45.ext e35
                                      replace G51 := G51.ext e35
                                      replace G56 := G56.ext e35
                                      replace G72 := G72.ext e35
                                      replace G75_0 := G75_0.ext e35
                                      replace G80_0 := G80_0.ext e35
                                      replace G95_0 := G95_0.ext e35
                                      replace G100_0 := G100_0.ext e35
                                      replace R104 := R104.ext e35
                                      replace HR104 := HR104.ext e35
                                      replace O5 := O5.ext e35
                                      replace O6 := O6.ext e35
                                      replace O9 := O9.ext e35
                                      replace O12 := O12.ext e35
                                      replace O15 := O15.ext e35
                                      replace O20 := O20.ext e35
                                      refine ov (xmove rfl) rfl rfl rfl ?_
                                      refine ov (xextract rfl rfl) rfl rfl rfl ?_
                                      refine ov (xextract rfl rfl) rfl rfl rfl ?_
                                      refine ov (xassign rfl) rfl rfl rfl ?_
                                      refine ov (xassign rfl) rfl rfl rfl ?_
                                      refine ops_nil ?_
                                      refine run_seq ?_
                                      refine run_region ?_
                                      refine ov (xmove rfl) rfl rfl rfl ?_
                                      refine ov (xeql rfl rfl _ rfl) rfl rfl rfl ?_
                                      refine ods (fun c231 => ?_) (fun c231 => ?_)
                                      ·
                                        refine ov (xmove rfl) rfl rfl rfl ?_
                                        refine ov (xmove rfl) rfl rfl rfl ?_
                                        refine ov (xeql rfl rfl _ rfl) rfl rfl rfl ?_
                                        refine ods (fun c234 => ?_) (fun c234 => ?_)
                                        ·
                                          refine ov (xpick_t rfl rfl) rfl rfl rfl ?_
                                          refine ov (xmove rfl) rfl rfl rfl ?_
                                          refine ov (xmove rfl) rfl rfl rfl ?_
                                          refine ov (xfieldAddr fo77f2 rfl) rfl rfl rfl ?_
                                          refine ov (v := .string r39.To) (xload1 Try.isAgg9 rfl (O6.cells) rfl) rfl rfl rfl ?_
                                          refine ov (xseql rfl rfl _ rfl) rfl rfl rfl ?_
                                          refine ods (fun c240 => ?_) (fun c240 => ?_)
                                          ·
                                            refine ov (xpick_t rfl rfl) rfl rfl rfl ?_
                                            refine ov (xmove rfl) rfl rfl rfl ?_
                                            refine ov (xfieldAddr fo49f4 rfl) rfl rfl rfl ?_
                                            refine ov (v := .slice q45 m45 d45) (xload1 Try.isAgg47 rfl (O9.cells) rfl) rfl rfl rfl ?_
                                            refine ov (xlen Try.underlying47 rfl) rfl rfl rfl ?_
                                            refine ov (xfieldAddr fo49f4 rfl) rfl rfl rfl ?_
                                            refine ov (v := .slice q39 m39 d39) (xload1 Try.isAgg47 rfl (O5.cells) rfl) rfl rfl rfl ?_
                                            refine ov (xlen Try.underlying47 rfl) rfl rfl rfl ?_
                                            refine ov (xadd rfl rfl (by unfold I64; omega)) rfl rfl rfl ?_
                                            refine ov (xeql rfl rfl _ rfl) rfl rfl rfl ?_
                                            refine ov (xpick_t rfl rfl) rfl rfl rfl ?_
                                            refine ov (xassign rfl) rfl rfl rfl ?_
                                            refine ops_nil ?_
                                            refine run_ret Try.func12 (res1 rfl rfl) ?_
                                            exact ⟨_, rfl, congrArg Value.bool (decide_eq_true (by omega)), E⟩
                                          · exfalso; exact c240 ov3
                                        · exfalso; omega
                                      · exfalso; omega
                                ·
                                  refine ov (xmove rfl) rfl rfl rfl ?_
                                  refine og rfl rfl rfl ?_
                                  refine og rfl rfl rfl ?_
                                  refine ov (xpick_f rfl rfl) rfl rfl rfl ?_
                                  refine ov (xmove rfl) rfl rfl rfl ?_
                                  refine og rfl rfl rfl ?_
                                  refine og rfl rfl rfl ?_
                                  refine ov (xpick_f rfl rfl) rfl rfl rfl ?_
                                  refine ops_nil ?_
                                  refine run_cond_f rfl ?_
                                  refine run_skip ?_
                                  refine run_seq ?_
                                  refine run_seq ?_
                                  refine run_region ?_
                                  refine ov (xmove rfl) rfl rfl rfl ?_
                                  refine ov (xneq rfl rfl _ rfl) rfl rfl rfl ?_
                                  refine ods (fun c217 => ?_) (fun c217 => ?_)
                                  ·
                                    refine ops_nil ?_
                                    refine run_cond_t rfl ?_
                                    refine run_seq ?_
                                    refine run_region ?_
                                    refine ov (xassign rfl) rfl rfl rfl ?_
                                    refine ops_nil ?_
                                    refine run_ret Try.func12 (res1 rfl rfl) ?_
                                    exact ⟨_, rfl, rfl, E⟩
                                  ·
                                    obtain ⟨ov1, ov2, ov3, ov4⟩ := over_ok (by omega : (handOver x39 r39).2 = 0)
                                    refine ops_nil ?_
                                    refine run_cond_f rfl ?_
                                    refine run_skip ?_
                                    refine run_seq ?_
                                    refine run_region ?_
                                    refine ov (v := .agg #[.string (handOver x39 r39).1.Code, .string (handOver x39 r39).1.Found, .int .i64 (handOver x39 r39).1.Day, .int .i64 (handOver x39 r39).1.Seal, .slice q45 m45 d45]) (xloadN Try.isAgg49 Try.sizeOf49 rfl (O9.cells) rfl) rfl rfl rfl ?_
                                    refine oc (xcall Try.call61 rfl) rfl rfl rfl (FirstBreak_ok _ _ _ (handOver x39 r39).1 _ (G45.sl) (over_small sm39 hr39)) ?_
                                    rintro _ w34 ⟨rfl, e34⟩
                                    have z34 := e34.size
                                    have E := E.trans e34
                                    replace G39 := G39.ext e34
                                    replace G45 := G45.ext e34
                                    replace G51 := G51.ext e34
                                    replace G56 := G56.ext e34
                                    replace G72 := G72.ext e34
                                    replace G75_0 := G75_0.ext e34
                                    replace G80_0 := G80_0.ext e34
                                    replace G95_0 := G95_0.ext e34
                                    replace G100_0 := G100_0.ext e34
                                    replace R104 := R104.ext e34
                                    replace HR104 := HR104.ext e34
                                    replace O5 := O5.ext e34
                                    replace O6 := O6.ext e34
                                    replace O9 := O9.ext e34
                                    replace O12 := O12.ext e34
                                    replace O15 := O15.ext e34
                                    replace O20 := O20.ext e34
                                    refine ov (xmove rfl) rfl rfl rfl ?_
                                    refine ov (xextract rfl rfl) rfl rfl rfl ?_
                                    refine ov (xextract rfl rfl) rfl rfl rfl ?_
                                    refine ov (xassign rfl) rfl rfl rfl ?_
                                    refine ov (xassign rfl) rfl rfl rfl ?_
                                    refine ops_nil ?_
                                    refine run_seq ?_
                                    refine run_region ?_
                                    refine ov (v := .agg #[.string (handOver x39 r39).1.Code, .string (handOver x39 r39).1.Found, .int .i64 (handOver x39 r39).1.Day, .int .i64 (handOver x39 r39).1.Seal, .slice q45 m45 d45]) (xloadN Try.isAgg49 Try.sizeOf49 rfl (O9.cells) rfl) rfl rfl rfl ?_
                                    refine ov (xfieldAddr fo77f0 rfl) rfl rfl rfl ?_
                                    refine ov (v := .int .i64 r39.Day) (xload1 Try.isAgg2 rfl (O6.cells) rfl) rfl rfl rfl ?_
                                    refine oc (xcall Try.call34 rfl) rfl rfl rfl (HolderOn_ok _ _ _ (handOver x39 r39).1 _ (G45.sl) (over_small sm39 hr39) r39.Day) ?_
                                    rintro _ w35 ⟨rfl, e35⟩
                                    have z35 := e35.size
                                    have E := E.trans e35
                                    replace G39 := G39.ext e35
                                    replace G45 := G45.ext e35
                                    replace G51 := G51.ext e35
                                    replace G56 := G56.ext e35
                                    replace G72 := G72.ext e35
                                    replace G75_0 := G75_0.ext e35
                                    replace G80_0 := G80_0.ext e35
                                    replace G95_0 := G95_0.ext e35
                                    replace G100_0 := G100_0.ext e35
                                    replace R104 := R104.ext e35
                                    replace HR104 := HR104.ext e35
                                    replace O5 := O5.ext e35
                                    replace O6 := O6.ext e35
                                    replace O9 := O9.ext e35
                                    replace O12 := O12.ext e35
                                    replace O15 := O15.ext e35
                                    replace O20 := O20.ext e35
                                    refine ov (xmove rfl) rfl rfl rfl ?_
                                    refine ov (xextract rfl rfl) rfl rfl rfl ?_
                                    refine ov (xextract rfl rfl) rfl rfl rfl ?_
                                    refine ov (xassign rfl) rfl rfl rfl ?_
                                    refine ov (xassign rfl) rfl rfl rfl ?_
                                    refine ops_nil ?_
                                    refine run_seq ?_
                                    refine run_region ?_
                                    refine ov (xmove rfl) rfl rfl rfl ?_
                                    refine ov (xeql rfl rfl _ rfl) rfl rfl rfl ?_
                                    refine ods (fun c231 => ?_) (fun c231 => ?_)
                                    ·
                                      refine ov (xmove rfl) rfl rfl rfl ?_
                                      refine ov (xmove rfl) rfl rfl rfl ?_
                                      refine ov (xeql rfl rfl _ rfl) rfl rfl rfl ?_
                                      refine ods (fun c234 => ?_) (fun c234 => ?_)
                                      ·
                                        refine ov (xpick_t rfl rfl) rfl rfl rfl ?_
                                        refine ov (xmove rfl) rfl rfl rfl ?_
                                        refine ov (xmove rfl) rfl rfl rfl ?_
                                        refine ov (xfieldAddr fo77f2 rfl) rfl rfl rfl ?_
                                        refine ov (v := .string r39.To) (xload1 Try.isAgg9 rfl (O6.cells) rfl) rfl rfl rfl ?_
                                        refine ov (xseql rfl rfl _ rfl) rfl rfl rfl ?_
                                        refine ods (fun c240 => ?_) (fun c240 => ?_)
                                        ·
                                          refine ov (xpick_t rfl rfl) rfl rfl rfl ?_
                                          refine ov (xmove rfl) rfl rfl rfl ?_
                                          refine ov (xfieldAddr fo49f4 rfl) rfl rfl rfl ?_
                                          refine ov (v := .slice q45 m45 d45) (xload1 Try.isAgg47 rfl (O9.cells) rfl) rfl rfl rfl ?_
                                          refine ov (xlen Try.underlying47 rfl) rfl rfl rfl ?_
                                          refine ov (xfieldAddr fo49f4 rfl) rfl rfl rfl ?_
                                          refine ov (v := .slice q39 m39 d39) (xload1 Try.isAgg47 rfl (O5.cells) rfl) rfl rfl rfl ?_
                                          refine ov (xlen Try.underlying47 rfl) rfl rfl rfl ?_
                                          refine ov (xadd rfl rfl (by unfold I64; omega)) rfl rfl rfl ?_
                                          refine ov (xeql rfl rfl _ rfl) rfl rfl rfl ?_
                                          refine ov (xpick_t rfl rfl) rfl rfl rfl ?_
                                          refine ov (xassign rfl) rfl rfl rfl ?_
                                          refine ops_nil ?_
                                          refine run_ret Try.func12 (res1 rfl rfl) ?_
                                          exact ⟨_, rfl, congrArg Value.bool (decide_eq_true (by omega)), E⟩
                                        · exfalso; exact c240 ov3
                                      · exfalso; omega
                                    · exfalso; omega
                      · exfalso; cases c153
              · exfalso; cases c132
      · exfalso; cases c111
end Go.Proofs.Ytnjohcbamblilaa

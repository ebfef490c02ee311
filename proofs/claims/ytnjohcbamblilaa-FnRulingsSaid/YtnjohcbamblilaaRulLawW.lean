/-
  The law on rulings: the walk. No condition beyond those written in each theorem.
-/
import Derived.Test.YtnjohcbamblilaaRulDraws2
import Derived.Test.YtnjohcbamblilaaAddR
import Derived.Test.YtnjohcbamblilaaLikeI
namespace Go.Proofs.Ytnjohcbamblilaa
open Go.RowKit
set_option linter.unusedVariables false
set_option linter.unusedSimpArgs false
set_option linter.unusedSectionVars false
set_option maxRecDepth 4000

theorem doSee_code (rs : List Ruling) (xs : List Exhibit) (s : ByteArray) (k : Int) : (doSee rs xs s k).2 = (whyUnseen rs xs s k).2 := rfl

attribute [local irreducible] whyUnseen doSee seenOn countSt addRuling standingOn isum hasS areRulings areExhibits

set_option maxHeartbeats 20000000 in
theorem FnRulings_ok (p : Option Addr) (n c : Nat) (bs : List Int) (w : World) (H : Sl u8c 1 w p n c bs) (hbs : ∀ x ∈ bs, 0 ≤ x ∧ x ≤ 255) : Ret Try.prog 17 [.slice p n c] w (Pv w (.bool true)) := by
  refine ret_of_run (N := 279) Try.func17 rfl rfl rfl ?_
  have hfar := H.blk (fun x => by simp [u8c])
  have hn := H.len
  have E : Ext w w := Ext.refl w
  refine run_seq ?_
  refine run_region ?_
  refine ov (xassign rfl) rfl rfl rfl ?_
  refine ops_nil ?_
  refine run_seq ?_
  refine run_seq ?_
  refine run_region ?_
  refine ov (xmove rfl) rfl rfl rfl ?_
  refine oc (xcall Try.call44 rfl) rfl rfl rfl (big_ok _ _ _ _ _ (H.ext E)) ?_
  rintro _ w1 ⟨rfl, e1⟩
  have z1 := e1.size
  have E := E.trans e1
  refine obs (fun c39 => ?_) (fun c39 => ?_)
  ·
    refine ops_nil ?_
    refine run_cond_t rfl ?_
    refine run_seq ?_
    refine run_region ?_
    refine ov (xassign rfl) rfl rfl rfl ?_
    refine ops_nil ?_
    refine run_ret Try.func17 (res1 rfl rfl) ?_
    exact ⟨_, rfl, rfl, E⟩
  ·
    refine ops_nil ?_
    refine run_cond_f rfl ?_
    refine run_skip ?_
    refine run_seq ?_
    refine run_region ?_
    refine ov (xmove rfl) rfl rfl rfl ?_
    refine oc (xcall Try.call81 rfl) rfl rfl rfl (DrawWhyUnseen_ok _ _ _ _ _ (H.ext E) (by assumption)) ?_
    rintro _ w2 ⟨e2, rs42, q42, m42, d42, xs42, p42, n42, c42, s42, k42, rfl, ok42, hm42, G42, okx42, hn42, R42, hs42, hk42⟩
    have z2 := e2.size
    have E := E.trans e2
    replace R42 : OnExhibitS _ _ _ _ _ _ xs42 := R42
    have nR42 := On.len R42
    have lG42 := G42.len
    have rk42 := rulOk_code ok42
    have sml42 : ∀ x ∈ xs42, exSmall x := fun x m => exOk_small (okx42 x m)
    refine ov (xmove rfl) rfl rfl rfl ?_
    refine ov (xextract rfl rfl) rfl rfl rfl ?_
    refine ov (xextract rfl rfl) rfl rfl rfl ?_
    refine ov (xextract rfl rfl) rfl rfl rfl ?_
    refine ov (xextract rfl rfl) rfl rfl rfl ?_
    refine ov (xassign rfl) rfl rfl rfl ?_
    refine ov (xassign rfl) rfl rfl rfl ?_
    refine ov (xassign rfl) rfl rfl rfl ?_
    refine ov (xassign rfl) rfl rfl rfl ?_
    refine ops_nil ?_
    refine run_seq ?_
    refine run_region ?_
    refine ov (xmove rfl) rfl rfl rfl ?_
    refine ov (xmove rfl) rfl rfl rfl ?_
    refine ov (xmove rfl) rfl rfl rfl ?_
    refine ov (xmove rfl) rfl rfl rfl ?_
    refine oc (xcall Try.call76 rfl) rfl rfl rfl (WhyUnseen_ok _ _ _ rs42 _ _ _ xs42 s42 k42 _ (G42.sl) ((On.sl R42)) rk42 sml42) ?_
    rintro _ w3 ⟨rfl, e3⟩
    have z3 := e3.size
    have E := E.trans e3
    replace G42 := G42.ext e3
    replace R42 := R42.ext e3
    refine ov (xmove rfl) rfl rfl rfl ?_
    refine ov (xextract rfl rfl) rfl rfl rfl ?_
    refine ov (xextract rfl rfl) rfl rfl rfl ?_
    refine ov (xassign rfl) rfl rfl rfl ?_
    refine ov (xassign rfl) rfl rfl rfl ?_
    refine ops_nil ?_
    refine run_seq ?_
    refine run_region ?_
    refine ov (xmove rfl) rfl rfl rfl ?_
    refine ov (xmove rfl) rfl rfl rfl ?_
    refine ov (xmove rfl) rfl rfl rfl ?_
    refine ov (xmove rfl) rfl rfl rfl ?_
    refine oc (xcall Try.call75 rfl) rfl rfl rfl (sWhyUnseen_ok _ _ _ rs42 _ _ _ xs42 s42 k42 _ (G42.sl) ((On.sl R42)) rk42 sml42) ?_
    rintro _ w4 ⟨rfl, e4⟩
    have z4 := e4.size
    have E := E.trans e4
    replace G42 := G42.ext e4
    replace R42 := R42.ext e4
    refine ov (xmove rfl) rfl rfl rfl ?_
    refine ov (xextract rfl rfl) rfl rfl rfl ?_
    refine ov (xextract rfl rfl) rfl rfl rfl ?_
    refine ov (xassign rfl) rfl rfl rfl ?_
    refine ov (xassign rfl) rfl rfl rfl ?_
    refine ops_nil ?_
    refine run_seq ?_
    refine run_region ?_
    refine ov (xmove rfl) rfl rfl rfl ?_
    refine ov (xmove rfl) rfl rfl rfl ?_
    refine ov (xmove rfl) rfl rfl rfl ?_
    refine ov (xmove rfl) rfl rfl rfl ?_
    refine oc (xcall Try.call78 rfl) rfl rfl rfl (DoSee_ok _ _ _ rs42 _ _ _ xs42 s42 k42 _ (G42.sl) ((On.sl R42)) rk42 sml42) ?_
    rintro _ w5 ⟨rfl, e5⟩
    have z5 := e5.size
    have E := E.trans e5
    replace G42 := G42.ext e5
    replace R42 := R42.ext e5
    refine ov (xmove rfl) rfl rfl rfl ?_
    refine ov (xextract rfl rfl) rfl rfl rfl ?_
    refine ov (xextract rfl rfl) rfl rfl rfl ?_
    refine ov (xassign rfl) rfl rfl rfl ?_
    refine ov (xassign rfl) rfl rfl rfl ?_
    refine ops_nil ?_
    refine run_seq ?_
    refine run_region ?_
    refine ov (xmove rfl) rfl rfl rfl ?_
    refine ov (xmove rfl) rfl rfl rfl ?_
    refine ov (xmove rfl) rfl rfl rfl ?_
    refine ov (xmove rfl) rfl rfl rfl ?_
    refine oc (xcall Try.call77 rfl) rfl rfl rfl (sDoSee_ok _ _ _ rs42 _ _ _ xs42 s42 k42 _ (G42.sl) ((On.sl R42)) rk42 sml42) ?_
    rintro _ w6 ⟨rfl, e6⟩
    have z6 := e6.size
    have E := E.trans e6
    replace G42 := G42.ext e6
    replace R42 := R42.ext e6
    refine ov (xmove rfl) rfl rfl rfl ?_
    refine ov (xextract rfl rfl) rfl rfl rfl ?_
    refine ov (xextract rfl rfl) rfl rfl rfl ?_
    refine ov (xassign rfl) rfl rfl rfl ?_
    refine ov (xassign rfl) rfl rfl rfl ?_
    refine ops_nil ?_
    refine run_seq ?_
    refine run_region ?_
    refine ov (xmove rfl) rfl rfl rfl ?_
    refine ov (xmove rfl) rfl rfl rfl ?_
    refine ov (xmove rfl) rfl rfl rfl ?_
    refine oc (xcall Try.call80 rfl) rfl rfl rfl (SeenOn_ok _ _ _ rs42 _ _ _ xs42 k42 _ (G42.sl) ((On.sl R42)) rk42 sml42) ?_
    rintro _ w7 ⟨e7, q83_0, m83_0, d83_0, rfl, G83_0⟩
    have z7 := e7.size
    have E := E.trans e7
    replace G42 := G42.ext e7
    replace R42 := R42.ext e7
    have lG83_0 := G83_0.len
    have hal83 := seenOn_len rs42 xs42 k42
    refine ov (xmove rfl) rfl rfl rfl ?_
    refine ov (xextract rfl rfl) rfl rfl rfl ?_
    refine ov (xextract rfl rfl) rfl rfl rfl ?_
    refine ov (xassign rfl) rfl rfl rfl ?_
    refine ov (xassign rfl) rfl rfl rfl ?_
    refine ops_nil ?_
    refine run_seq ?_
    refine run_region ?_
    refine ov (xmove rfl) rfl rfl rfl ?_
    refine ov (xmove rfl) rfl rfl rfl ?_
    refine ov (xmove rfl) rfl rfl rfl ?_
    refine oc (xcall Try.call79 rfl) rfl rfl rfl (sSeenOn_ok _ _ _ rs42 _ _ _ xs42 k42 _ (G42.sl) ((On.sl R42)) rk42 sml42) ?_
    rintro _ w8 ⟨e8, q90_0, m90_0, d90_0, rfl, G90_0⟩
    have z8 := e8.size
    have E := E.trans e8
    replace G42 := G42.ext e8
    replace R42 := R42.ext e8
    replace G83_0 := G83_0.ext e8
    have lG90_0 := G90_0.len
    have hal90 := seenOn_len rs42 xs42 k42
    refine ov (xmove rfl) rfl rfl rfl ?_
    refine ov (xextract rfl rfl) rfl rfl rfl ?_
    refine ov (xextract rfl rfl) rfl rfl rfl ?_
    refine ov (xassign rfl) rfl rfl rfl ?_
    refine ov (xassign rfl) rfl rfl rfl ?_
    refine ops_nil ?_
    refine run_seq ?_
    refine run_region ?_
    refine ov (xmove rfl) rfl rfl rfl ?_
    refine ov (xmove rfl) rfl rfl rfl ?_
    refine ov (xmove rfl) rfl rfl rfl ?_
    refine oc (xcall Try.call72 rfl) rfl rfl rfl (CountStandings_ok _ _ _ rs42 _ _ _ xs42 k42 _ (G42.sl) ((On.sl R42)) rk42 sml42) ?_
    rintro _ w9 ⟨e9, q97_0, m97_0, d97_0, rfl, G97_0⟩
    have z9 := e9.size
    have E := E.trans e9
    replace G42 := G42.ext e9
    replace R42 := R42.ext e9
    replace G83_0 := G83_0.ext e9
    replace G90_0 := G90_0.ext e9
    have lG97_0 := G97_0.len
    have hal97 := countSt_len rs42 xs42 k42
    refine ov (xmove rfl) rfl rfl rfl ?_
    refine ov (xextract rfl rfl) rfl rfl rfl ?_
    refine ov (xextract rfl rfl) rfl rfl rfl ?_
    refine ov (xassign rfl) rfl rfl rfl ?_
    refine ov (xassign rfl) rfl rfl rfl ?_
    refine ops_nil ?_
    refine run_seq ?_
    refine run_region ?_
    refine ov (xmove rfl) rfl rfl rfl ?_
    refine ov (xmove rfl) rfl rfl rfl ?_
    refine ov (xmove rfl) rfl rfl rfl ?_
    refine oc (xcall Try.call70 rfl) rfl rfl rfl (sCountStandings_ok _ _ _ rs42 _ _ _ xs42 k42 _ (G42.sl) ((On.sl R42)) rk42 sml42) ?_
    rintro _ w10 ⟨e10, q104_0, m104_0, d104_0, rfl, G104_0⟩
    have z10 := e10.size
    have E := E.trans e10
    replace G42 := G42.ext e10
    replace R42 := R42.ext e10
    replace G83_0 := G83_0.ext e10
    replace G90_0 := G90_0.ext e10
    replace G97_0 := G97_0.ext e10
    have lG104_0 := G104_0.len
    have hal104 := countSt_len rs42 xs42 k42
    refine ov (xmove rfl) rfl rfl rfl ?_
    refine ov (xextract rfl rfl) rfl rfl rfl ?_
    refine ov (xextract rfl rfl) rfl rfl rfl ?_
    refine ov (xassign rfl) rfl rfl rfl ?_
    refine ov (xassign rfl) rfl rfl rfl ?_
    refine ops_nil ?_
    refine run_seq ?_
    refine run_region ?_
    refine ov (xmove rfl) rfl rfl rfl ?_
    refine oc (xcall Try.call82 rfl) rfl rfl rfl (DrawAddRuling_ok _ _ _ _ _ (H.ext E) (by assumption)) ?_
    rintro _ w11 ⟨e11, rs109, q109, m109, d109, r109, rfl, ok109, hm109, G109, hr109⟩
    have z11 := e11.size
    have E := E.trans e11
    replace G42 := G42.ext e11
    replace R42 := R42.ext e11
    replace G83_0 := G83_0.ext e11
    replace G90_0 := G90_0.ext e11
    replace G97_0 := G97_0.ext e11
    replace G104_0 := G104_0.ext e11
    have lG109 := G109.len
    have rk109 := rulOk_code ok109
    refine ov (xmove rfl) rfl rfl rfl ?_
    refine ov (xextract rfl rfl) rfl rfl rfl ?_
    refine ov (xextract rfl rfl) rfl rfl rfl ?_
    refine oalloc Try.zeroValue37 rfl rfl ?_
    intro b12 w12 e12 hb12 hz12 O12
    have E := E.trans e12
    replace G42 := G42.ext e12
    replace R42 := R42.ext e12
    replace G83_0 := G83_0.ext e12
    replace G90_0 := G90_0.ext e12
    replace G97_0 := G97_0.ext e12
    replace G104_0 := G104_0.ext e12
    replace G109 := G109.ext e12
    replace O12 : Own w12 b12 [.int .i64 0, .string ⟨#[]⟩, .int .i64 0] 37 := O12
    refine ov (xassign rfl) rfl rfl rfl ?_
    refine ostoreN (vs := _) Try.sizeOf37 rfl rfl O12 rfl (by simp) (by simp [Value.oneCell']) rfl ?_
    intro w13 on13 O13
    have hz13 := on13.size
    have E := on13.ext E (by omega)
    replace G42 := G42.only on13 (by omega)
    replace R42 := R42.only on13 (by omega)
    replace G83_0 := G83_0.only on13 (by omega)
    replace G90_0 := G90_0.only on13 (by omega)
    replace G97_0 := G97_0.only on13 (by omega)
    replace G104_0 := G104_0.only on13 (by omega)
    replace G109 := G109.only on13 (by omega)
    replace O13 : Own w13 b12 [.int .i64 r109.Day, .string r109.Code, .int .i64 r109.Kind] 37 := O13
    refine ops_nil ?_
    refine run_seq ?_
    refine run_region ?_
    refine ov (xmove rfl) rfl rfl rfl ?_
    refine ov (v := .agg #[.int .i64 r109.Day, .string r109.Code, .int .i64 r109.Kind]) (xloadN Try.isAgg37 Try.sizeOf37 rfl (O13.cells) rfl) rfl rfl rfl ?_
    have hrc109 : r109.Code.size ≤ 9223372036854775807 := by have := hr109.2.1; omega
    refine oc (xcall Try.call28 rfl) rfl rfl rfl (AddRuling_ok _ _ _ rs109 r109 _ (G109.sl) rk109 hrc109 (ow_nil G109) (by omega)) ?_
    rintro _ w14 ⟨e14, q115_0, m115_0, d115_0, rfl, G115_0⟩
    have z14 := e14.size
    have E := E.trans e14
    replace G42 := G42.ext e14
    replace R42 := R42.ext e14
    replace G83_0 := G83_0.ext e14
    replace G90_0 := G90_0.ext e14
    replace G97_0 := G97_0.ext e14
    replace G104_0 := G104_0.ext e14
    replace G109 := G109.ext e14
    replace O13 := O13.ext e14
    have lG115_0 := G115_0.len
    have hal115 := addRuling_len rs109 r109
    refine ov (xmove rfl) rfl rfl rfl ?_
    refine ov (xextract rfl rfl) rfl rfl rfl ?_
    refine ov (xextract rfl rfl) rfl rfl rfl ?_
    refine ov (xassign rfl) rfl rfl rfl ?_
    refine ov (xassign rfl) rfl rfl rfl ?_
    refine ops_nil ?_
    refine run_seq ?_
    refine run_region ?_
    refine ov (xmove rfl) rfl rfl rfl ?_
    refine ov (v := .agg #[.int .i64 r109.Day, .string r109.Code, .int .i64 r109.Kind]) (xloadN Try.isAgg37 Try.sizeOf37 rfl (O13.cells) rfl) rfl rfl rfl ?_
    refine oc (xcall Try.call26 rfl) rfl rfl rfl (sAddRuling_ok _ _ _ rs109 r109 _ (G109.sl) rk109 hrc109 (ow_nil G109) (by omega)) ?_
    rintro _ w15 ⟨e15, q121_0, m121_0, d121_0, rfl, G121_0⟩
    have z15 := e15.size
    have E := E.trans e15
    replace G42 := G42.ext e15
    replace R42 := R42.ext e15
    replace G83_0 := G83_0.ext e15
    replace G90_0 := G90_0.ext e15
    replace G97_0 := G97_0.ext e15
    replace G104_0 := G104_0.ext e15
    replace G109 := G109.ext e15
    replace G115_0 := G115_0.ext e15
    replace O13 := O13.ext e15
    have lG121_0 := G121_0.len
    have hal121 := addRuling_len rs109 r109
    refine ov (xmove rfl) rfl rfl rfl ?_
    refine ov (xextract rfl rfl) rfl rfl rfl ?_
    refine ov (xextract rfl rfl) rfl rfl rfl ?_
    refine ov (xassign rfl) rfl rfl rfl ?_
    refine ov (xassign rfl) rfl rfl rfl ?_
    refine ops_nil ?_
    refine run_seq ?_
    refine run_region ?_
    refine ov (xmove rfl) rfl rfl rfl ?_
    refine oc (xcall Try.call83 rfl) rfl rfl rfl (DrawStandingOn_ok _ _ _ _ _ (H.ext E) (by assumption)) ?_
    rintro _ w16 ⟨e16, rs126, q126, m126, d126, s126, k126, rfl, ok126, hm126, G126, hs126, hk126⟩
    have z16 := e16.size
    have E := E.trans e16
    replace G42 := G42.ext e16
    replace R42 := R42.ext e16
    replace G83_0 := G83_0.ext e16
    replace G90_0 := G90_0.ext e16
    replace G97_0 := G97_0.ext e16
    replace G104_0 := G104_0.ext e16
    replace G109 := G109.ext e16
    replace G115_0 := G115_0.ext e16
    replace G121_0 := G121_0.ext e16
    replace O13 := O13.ext e16
    have lG126 := G126.len
    have rk126 := rulOk_code ok126
    refine ov (xmove rfl) rfl rfl rfl ?_
    refine ov (xextract rfl rfl) rfl rfl rfl ?_
    refine ov (xextract rfl rfl) rfl rfl rfl ?_
    refine ov (xextract rfl rfl) rfl rfl rfl ?_
    refine ov (xassign rfl) rfl rfl rfl ?_
    refine ov (xassign rfl) rfl rfl rfl ?_
    refine ov (xassign rfl) rfl rfl rfl ?_
    refine ops_nil ?_
    refine run_seq ?_
    refine run_region ?_
    refine ov (xmove rfl) rfl rfl rfl ?_
    refine ov (xmove rfl) rfl rfl rfl ?_
    refine ov (xmove rfl) rfl rfl rfl ?_
    refine oc (xcall Try.call24 rfl) rfl rfl rfl (StandingOn_ok _ _ _ rs126 s126 k126 _ (G126.sl) rk126 (by omega)) ?_
    rintro _ w17 ⟨rfl, e17⟩
    have z17 := e17.size
    have E := E.trans e17
    replace G42 := G42.ext e17
    replace R42 := R42.ext e17
    replace G83_0 := G83_0.ext e17
    replace G90_0 := G90_0.ext e17
    replace G97_0 := G97_0.ext e17
    replace G104_0 := G104_0.ext e17
    replace G109 := G109.ext e17
    replace G115_0 := G115_0.ext e17
    replace G121_0 := G121_0.ext e17
    replace G126 := G126.ext e17
    replace O13 := O13.ext e17
    refine ov (xmove rfl) rfl rfl rfl ?_
    refine ov (xextract rfl rfl) rfl rfl rfl ?_
    refine ov (xextract rfl rfl) rfl rfl rfl ?_
    refine ov (xassign rfl) rfl rfl rfl ?_
    refine ov (xassign rfl) rfl rfl rfl ?_
    refine ops_nil ?_
    refine run_seq ?_
    refine run_region ?_
    refine ov (xmove rfl) rfl rfl rfl ?_
    refine ov (xmove rfl) rfl rfl rfl ?_
    refine ov (xmove rfl) rfl rfl rfl ?_
    refine oc (xcall Try.call23 rfl) rfl rfl rfl (sStandingOn_ok _ _ _ rs126 s126 k126 _ (G126.sl) rk126 (by omega)) ?_
    rintro _ w18 ⟨rfl, e18⟩
    have z18 := e18.size
    have E := E.trans e18
    replace G42 := G42.ext e18
    replace R42 := R42.ext e18
    replace G83_0 := G83_0.ext e18
    replace G90_0 := G90_0.ext e18
    replace G97_0 := G97_0.ext e18
    replace G104_0 := G104_0.ext e18
    replace G109 := G109.ext e18
    replace G115_0 := G115_0.ext e18
    replace G121_0 := G121_0.ext e18
    replace G126 := G126.ext e18
    replace O13 := O13.ext e18
    refine ov (xmove rfl) rfl rfl rfl ?_
    refine ov (xextract rfl rfl) rfl rfl rfl ?_
    refine ov (xextract rfl rfl) rfl rfl rfl ?_
    refine ov (xassign rfl) rfl rfl rfl ?_
    refine ov (xassign rfl) rfl rfl rfl ?_
    refine ops_nil ?_
    refine run_seq ?_
    refine run_seq ?_
    simp only [List.append_eq, List.cons_append, List.nil_append]
    refine run_region ?_
    refine ov (xmove rfl) rfl rfl rfl ?_
    refine ov (xmove rfl) rfl rfl rfl ?_
    refine ov (xneq rfl rfl _ rfl) rfl rfl rfl ?_
    refine ods (fun c146 => ?_) (fun c146 => ?_)
    · exfalso; exact absurd rfl c146
    ·
      refine ov (xmove rfl) rfl rfl rfl ?_
      refine ov (xmove rfl) rfl rfl rfl ?_
      refine ov (xmove rfl) rfl rfl rfl ?_
      refine ov (xneq rfl rfl _ rfl) rfl rfl rfl ?_
      refine ods (fun c150 => ?_) (fun c150 => ?_)
      · exfalso; exact absurd rfl c150
      ·
        refine ov (xpick_f rfl rfl) rfl rfl rfl ?_
        refine ov (xmove rfl) rfl rfl rfl ?_
        refine ov (xmove rfl) rfl rfl rfl ?_
        refine ov (xmove rfl) rfl rfl rfl ?_
        refine ov (xneq rfl rfl _ rfl) rfl rfl rfl ?_
        refine ods (fun c155 => ?_) (fun c155 => ?_)
        · exfalso; exact absurd rfl c155
        ·
          refine ov (xpick_f rfl rfl) rfl rfl rfl ?_
          refine ov (xmove rfl) rfl rfl rfl ?_
          refine ov (xmove rfl) rfl rfl rfl ?_
          refine ov (xmove rfl) rfl rfl rfl ?_
          refine ov (xbneq Try.underlying4 rfl rfl) rfl rfl rfl ?_
          refine ods (fun c160 => ?_) (fun c160 => ?_)
          · exfalso; exact absurd rfl c160
          ·
            refine ov (xpick_f rfl rfl) rfl rfl rfl ?_
            refine ov (xmove rfl) rfl rfl rfl ?_
            refine ov (xmove rfl) rfl rfl rfl ?_
            refine ov (xmove rfl) rfl rfl rfl ?_
            refine ov (xneq rfl rfl _ rfl) rfl rfl rfl ?_
            refine ods (fun c165 => ?_) (fun c165 => ?_)
            · exfalso; exact absurd rfl c165
            ·
              refine ov (xpick_f rfl rfl) rfl rfl rfl ?_
              refine ov (xmove rfl) rfl rfl rfl ?_
              refine ov (xmove rfl) rfl rfl rfl ?_
              refine ov (xmove rfl) rfl rfl rfl ?_
              refine oc (xcall Try.call48 rfl) rfl rfl rfl (likeTexts_ok _ _ _ _ _ _ _ _ (G83_0.sl) (G90_0.sl)) ?_
              rintro _ w19 ⟨rfl, e19⟩
              have z19 := e19.size
              have E := E.trans e19
              replace G42 := G42.ext e19
              replace R42 := R42.ext e19
              replace G83_0 := G83_0.ext e19
              replace G90_0 := G90_0.ext e19
              replace G97_0 := G97_0.ext e19
              replace G104_0 := G104_0.ext e19
              replace G109 := G109.ext e19
              replace G115_0 := G115_0.ext e19
              replace G121_0 := G121_0.ext e19
              replace G126 := G126.ext e19
              replace O13 := O13.ext e19
              refine obs (fun c170 => ?_) (fun c170 => ?_)
              ·
                refine ov (xnot rfl) rfl rfl rfl ?_
                refine ov (xpick_f rfl rfl) rfl rfl rfl ?_
                refine ov (xmove rfl) rfl rfl rfl ?_
                refine ov (xmove rfl) rfl rfl rfl ?_
                refine ov (xmove rfl) rfl rfl rfl ?_
                refine ov (xneq rfl rfl _ rfl) rfl rfl rfl ?_
                refine ods (fun c176 => ?_) (fun c176 => ?_)
                · exfalso; exact absurd rfl c176
                ·
                  refine ov (xpick_f rfl rfl) rfl rfl rfl ?_
                  refine ov (xmove rfl) rfl rfl rfl ?_
                  refine ov (xmove rfl) rfl rfl rfl ?_
                  refine ov (xmove rfl) rfl rfl rfl ?_
                  refine oc (xcall Try.call65 rfl) rfl rfl rfl (likeInts_ok _ _ _ _ _ _ _ _ (G97_0.sl) (G104_0.sl)) ?_
                  rintro _ w20 ⟨rfl, e20⟩
                  have z20 := e20.size
                  have E := E.trans e20
                  replace G42 := G42.ext e20
                  replace R42 := R42.ext e20
                  replace G83_0 := G83_0.ext e20
                  replace G90_0 := G90_0.ext e20
                  replace G97_0 := G97_0.ext e20
                  replace G104_0 := G104_0.ext e20
                  replace G109 := G109.ext e20
                  replace G115_0 := G115_0.ext e20
                  replace G121_0 := G121_0.ext e20
                  replace G126 := G126.ext e20
                  replace O13 := O13.ext e20
                  refine obs (fun c181 => ?_) (fun c181 => ?_)
                  ·
                    refine ov (xnot rfl) rfl rfl rfl ?_
                    refine ov (xpick_f rfl rfl) rfl rfl rfl ?_
                    refine ov (xmove rfl) rfl rfl rfl ?_
                    refine ov (xmove rfl) rfl rfl rfl ?_
                    refine ov (xmove rfl) rfl rfl rfl ?_
                    refine ov (xneq rfl rfl _ rfl) rfl rfl rfl ?_
                    refine ods (fun c187 => ?_) (fun c187 => ?_)
                    · exfalso; exact absurd rfl c187
                    ·
                      refine ov (xpick_f rfl rfl) rfl rfl rfl ?_
                      refine ov (xmove rfl) rfl rfl rfl ?_
                      refine ov (xmove rfl) rfl rfl rfl ?_
                      refine ov (xmove rfl) rfl rfl rfl ?_
                      refine oc (xcall Try.call84 rfl) rfl rfl rfl (likeRulings_ok _ _ _ _ _ _ _ _ (G115_0.sl) (G121_0.sl)) ?_
                      rintro _ w21 ⟨rfl, e21⟩
                      have z21 := e21.size
                      have E := E.trans e21
                      replace G42 := G42.ext e21
                      replace R42 := R42.ext e21
                      replace G83_0 := G83_0.ext e21
                      replace G90_0 := G90_0.ext e21
                      replace G97_0 := G97_0.ext e21
                      replace G104_0 := G104_0.ext e21
                      replace G109 := G109.ext e21
                      replace G115_0 := G115_0.ext e21
                      replace G121_0 := G121_0.ext e21
                      replace G126 := G126.ext e21
                      replace O13 := O13.ext e21
                      refine obs (fun c192 => ?_) (fun c192 => ?_)
                      ·
                        refine ov (xnot rfl) rfl rfl rfl ?_
                        refine ov (xpick_f rfl rfl) rfl rfl rfl ?_
                        refine ov (xmove rfl) rfl rfl rfl ?_
                        refine ov (xmove rfl) rfl rfl rfl ?_
                        refine ov (xmove rfl) rfl rfl rfl ?_
                        refine ov (xneq rfl rfl _ rfl) rfl rfl rfl ?_
                        refine ods (fun c198 => ?_) (fun c198 => ?_)
                        · exfalso; exact absurd rfl c198
                        ·
                          refine ov (xpick_f rfl rfl) rfl rfl rfl ?_
                          refine ov (xmove rfl) rfl rfl rfl ?_
                          refine ov (xmove rfl) rfl rfl rfl ?_
                          refine ov (xmove rfl) rfl rfl rfl ?_
                          refine ov (xneq rfl rfl _ rfl) rfl rfl rfl ?_
                          refine ods (fun c203 => ?_) (fun c203 => ?_)
                          · exfalso; exact absurd rfl c203
                          ·
                            refine ov (xpick_f rfl rfl) rfl rfl rfl ?_
                            refine ov (xmove rfl) rfl rfl rfl ?_
                            refine ov (xmove rfl) rfl rfl rfl ?_
                            refine oc (xcall Try.call21 rfl) rfl rfl rfl (AreRulings_ok _ _ _ _ _ (G109.sl) (by assumption)) ?_
                            rintro _ w22 ⟨rfl, e22⟩
                            have z22 := e22.size
                            have E := E.trans e22
                            replace G42 := G42.ext e22
                            replace R42 := R42.ext e22
                            replace G83_0 := G83_0.ext e22
                            replace G90_0 := G90_0.ext e22
                            replace G97_0 := G97_0.ext e22
                            replace G104_0 := G104_0.ext e22
                            replace G109 := G109.ext e22
                            replace G115_0 := G115_0.ext e22
                            replace G121_0 := G121_0.ext e22
                            replace G126 := G126.ext e22
                            replace O13 := O13.ext e22
                            refine ov (xmove rfl) rfl rfl rfl ?_
                            refine oc (xcall Try.call19 rfl) rfl rfl rfl (sAreRulings_ok _ _ _ _ _ (G109.sl) (by assumption)) ?_
                            rintro _ w23 ⟨rfl, e23⟩
                            have z23 := e23.size
                            have E := E.trans e23
                            replace G42 := G42.ext e23
                            replace R42 := R42.ext e23
                            replace G83_0 := G83_0.ext e23
                            replace G90_0 := G90_0.ext e23
                            replace G97_0 := G97_0.ext e23
                            replace G104_0 := G104_0.ext e23
                            replace G109 := G109.ext e23
                            replace G115_0 := G115_0.ext e23
                            replace G121_0 := G121_0.ext e23
                            replace G126 := G126.ext e23
                            replace O13 := O13.ext e23
                            refine ov (xbneq Try.underlying4 rfl rfl) rfl rfl rfl ?_
                            refine ods (fun c210 => ?_) (fun c210 => ?_)
                            · exfalso; exact absurd rfl c210
                            ·
                              refine ov (xpick_f rfl rfl) rfl rfl rfl ?_
                              refine ov (xmove rfl) rfl rfl rfl ?_
                              refine ov (xmove rfl) rfl rfl rfl ?_
                              refine ov (xmove rfl) rfl rfl rfl ?_
                              refine ov (xneq rfl rfl _ rfl) rfl rfl rfl ?_
                              refine ods (fun c215 => ?_) (fun c215 => ?_)
                              · exfalso; exact c215 (doSee_code _ _ _ _)
                              ·
                                refine ov (xpick_f rfl rfl) rfl rfl rfl ?_
                                refine ops_nil ?_
                                refine run_cond_f rfl ?_
                                refine run_skip ?_
                                refine run_seq ?_
                                refine run_seq ?_
                                refine run_region ?_
                                refine ov (xmove rfl) rfl rfl rfl ?_
                                refine ov (xeql rfl rfl _ rfl) rfl rfl rfl ?_
                                refine ods (fun c218 => ?_) (fun c218 => ?_)
                                ·
                                  obtain ⟨ct1, ct2, ct3⟩ := count_all (rs := rs42) (xs := xs42) (day := k42) (by omega)
                                  rw [List.getElem?_eq_getElem (by omega), Option.getD_some] at ct3
                                  refine ov (xmove rfl) rfl rfl rfl ?_
                                  refine ov (xmove rfl) rfl rfl rfl ?_
                                  refine oc (xcall Try.call85 rfl) rfl rfl rfl (sum_ok _ _ _ (countSt rs42 xs42 k42).1 _ (G97_0.sl) (fun x hx => by have := cnt_small x hx; omega) (by omega)) ?_
                                  rintro _ w24 ⟨rfl, e24⟩
                                  have z24 := e24.size
                                  have E := E.trans e24
                                  replace G42 := G42.ext e24
                                  replace R42 := R42.ext e24
                                  replace G83_0 := G83_0.ext e24
                                  replace G90_0 := G90_0.ext e24
                                  replace G97_0 := G97_0.ext e24
                                  replace G104_0 := G104_0.ext e24
                                  replace G109 := G109.ext e24
                                  replace G115_0 := G115_0.ext e24
                                  replace G121_0 := G121_0.ext e24
                                  replace G126 := G126.ext e24
                                  replace O13 := O13.ext e24
                                  refine ov (xmove rfl) rfl rfl rfl ?_
                                  refine ov (xlen Try.underlying85 rfl) rfl rfl rfl ?_
                                  refine ov (xneq rfl rfl _ rfl) rfl rfl rfl ?_
                                  refine ods (fun c224 => ?_) (fun c224 => ?_)
                                  · exfalso; omega
                                  ·
                                    refine ov (xmove rfl) rfl rfl rfl ?_
                                    refine ov (xmove rfl) rfl rfl rfl ?_
                                    refine ov (xlen Try.underlying66 rfl) rfl rfl rfl ?_
                                    refine ov (xmove rfl) rfl rfl rfl ?_
                                    have h229 := (G97_0.sl).at (i := 0) (by omega)
                                    refine ov (xindexN (i := 0) Try.underlying55 Try.sizeOf2 rfl rfl (by omega) ((G97_0.sl).p (i := 0) (by omega)) (by have := (G97_0.sl).len; omega)) rfl rfl rfl ?_
                                    refine ov (v := .int .i64 (countSt rs42 xs42 k42).1[0]) (xloadz Try.isAgg2 rfl (h229) rfl) rfl rfl rfl ?_
                                    refine ov (xgtr rfl rfl _ rfl) rfl rfl rfl ?_
                                    refine ods (fun c231 => ?_) (fun c231 => ?_)
                                    · exfalso; omega
                                    ·
                                      refine ov (xpick_f rfl rfl) rfl rfl rfl ?_
                                      refine ov (xpick_t rfl rfl) rfl rfl rfl ?_
                                      refine ops_nil ?_
                                      refine run_cond_f rfl ?_
                                      refine run_skip ?_
                                      refine run_seq ?_
                                      refine run_seq ?_
                                      refine run_region ?_
                                      refine ov (xmove rfl) rfl rfl rfl ?_
                                      refine ov (xeql rfl rfl _ rfl) rfl rfl rfl ?_
                                      refine ods (fun c235 => ?_) (fun c235 => ?_)
                                      ·
                                        refine ov (xmove rfl) rfl rfl rfl ?_
                                        refine ov (xmove rfl) rfl rfl rfl ?_
                                        refine ov (xeql rfl rfl _ rfl) rfl rfl rfl ?_
                                        refine ods (fun c238 => ?_) (fun c238 => ?_)
                                        ·
                                          refine ov (xpick_t rfl rfl) rfl rfl rfl ?_
                                          refine ov (xmove rfl) rfl rfl rfl ?_
                                          refine ov (xmove rfl) rfl rfl rfl ?_
                                          refine ov (xlss rfl rfl _ rfl) rfl rfl rfl ?_
                                          refine ods (fun c242 => ?_) (fun c242 => ?_)
                                          ·
                                            have hkeep := fun (r : Int) (h0 : 0 ≤ r) (h1 : r < 20000 - k126) => standing_keep (xs := rs126) (code := s126) (d := k126) (D := k126 + 1 + r) (by omega) (by omega) (by omega) (by omega)
                                            refine ov (xpick_t rfl rfl) rfl rfl rfl ?_
                                            refine ops_nil ?_
                                            refine run_cond_t rfl ?_
                                            refine run_seq ?_
                                            refine run_region ?_
                                            refine ov (xmove rfl) rfl rfl rfl ?_
                                            refine ov (xmove rfl) rfl rfl rfl ?_
                                            refine ov (xmove rfl) rfl rfl rfl ?_
                                            refine ov (xadd rfl rfl (by unfold I64; omega)) rfl rfl rfl ?_
                                            refine ov (xmove rfl) rfl rfl rfl ?_
                                            refine oc (xcall Try.call86 rfl) rfl rfl rfl (roll_ok _ _ _ _ _ _ (H.ext E)) ?_
                                            rintro _ w25 ⟨e25, b250_, s250_, rfl, hb250_, OD250⟩
                                            have z25 := e25.size
                                            have E := E.trans e25
                                            replace G42 := G42.ext e25
                                            replace R42 := R42.ext e25
                                            replace G83_0 := G83_0.ext e25
                                            replace G90_0 := G90_0.ext e25
                                            replace G97_0 := G97_0.ext e25
                                            replace G104_0 := G104_0.ext e25
                                            replace G109 := G109.ext e25
                                            replace G115_0 := G115_0.ext e25
                                            replace G121_0 := G121_0.ext e25
                                            replace G126 := G126.ext e25
                                            replace O13 := O13.ext e25
                                            have hbl250 := OD250.lt
                                            refine ov (xmove rfl) rfl rfl rfl ?_
                                            refine ov (xsub rfl rfl (by unfold I64; omega)) rfl rfl rfl ?_
                                            refine oc (xcall Try.call87 rfl) rfl rfl rfl (below_ok _ w.heap.size _ _ _ bs _ (20000 - k126) _ OD250 ⟨H.ext E, hfar, by omega⟩ hbs (by omega)) ?_
                                            rintro _ w26 ⟨r253, rfl, hr253a, hr253b, m26⟩
                                            have z26 := m26.size
                                            have E := m26.toExt E (by omega)
                                            replace G83_0 := G83_0.off m26 (by omega)
                                            replace G126 := G126.off m26 (by omega)
                                            replace O13 := m26.own O13 (by omega)
                                            refine ov (xadd rfl rfl (by unfold I64; omega)) rfl rfl rfl ?_
                                            refine oc (xcall Try.call24 rfl) rfl rfl rfl (StandingOn_ok _ _ _ rs126 s126 (k126 + 1 + r253) _ (G126.sl) rk126 (by omega)) ?_
                                            rintro _ w27 ⟨rfl, e27⟩
                                            have z27 := e27.size
                                            have E := E.trans e27
                                            replace G83_0 := G83_0.ext e27
                                            replace G126 := G126.ext e27
                                            replace O13 := O13.ext e27
                                            refine ov (xmove rfl) rfl rfl rfl ?_
                                            refine ov (xextract rfl rfl) rfl rfl rfl ?_
                                            refine ov (xextract rfl rfl) rfl rfl rfl ?_
                                            refine ov (xassign rfl) rfl rfl rfl ?_
                                            refine ov (xassign rfl) rfl rfl rfl ?_
                                            refine ops_nil ?_
                                            refine run_seq ?_
                                            refine run_region ?_
                                            refine ov (xmove rfl) rfl rfl rfl ?_
                                            refine ov (xneq rfl rfl _ rfl) rfl rfl rfl ?_
                                            refine ods (fun c259 => ?_) (fun c259 => ?_)
                                            · exfalso; have h_ := hkeep r253 hr253a hr253b; rw [h_] at c259; exact c259 rfl
                                            ·
                                              refine ov (xmove rfl) rfl rfl rfl ?_
                                              refine ov (xmove rfl) rfl rfl rfl ?_
                                              refine ov (xneq rfl rfl _ rfl) rfl rfl rfl ?_
                                              refine ods (fun c262 => ?_) (fun c262 => ?_)
                                              · exfalso; have h_ := hkeep r253 hr253a hr253b; rw [h_] at c262; exact c262 rfl
                                              ·
                                                refine ov (xpick_f rfl rfl) rfl rfl rfl ?_
                                                refine ops_nil ?_
                                                refine run_cond_f rfl ?_
                                                refine run_skip ?_
                                                refine run_seq ?_
                                                refine run_region ?_
                                                refine ov (xmove rfl) rfl rfl rfl ?_
                                                refine ov (xneq rfl rfl _ rfl) rfl rfl rfl ?_
                                                refine ods (fun c265 => ?_) (fun c265 => ?_)
                                                ·
                                                  refine ov (xmove rfl) rfl rfl rfl ?_
                                                  refine og rfl rfl rfl ?_
                                                  refine og rfl rfl rfl ?_
                                                  refine og rfl rfl rfl ?_
                                                  refine og rfl rfl rfl ?_
                                                  refine og rfl rfl rfl ?_
                                                  refine og rfl rfl rfl ?_
                                                  refine og rfl rfl rfl ?_
                                                  refine og rfl rfl rfl ?_
                                                  refine og rfl rfl rfl ?_
                                                  refine og rfl rfl rfl ?_
                                                  refine og rfl rfl rfl ?_
                                                  refine ov (xpick_t rfl rfl) rfl rfl rfl ?_
                                                  refine ov (xassign rfl) rfl rfl rfl ?_
                                                  refine ops_nil ?_
                                                  refine run_ret Try.func17 (res1 rfl rfl) ?_
                                                  exact ⟨_, rfl, rfl, E⟩
                                                ·
                                                  have hse := see_w (rs := rs42) (xs := xs42) (code := s42) (day := k42) (by omega)
                                                  have hsi := see_in (rs := rs42) (xs := xs42) (code := s42) (day := k42) (by omega)
                                                  refine ov (xmove rfl) rfl rfl rfl ?_
                                                  refine ov (xmove rfl) rfl rfl rfl ?_
                                                  refine ov (xmove rfl) rfl rfl rfl ?_
                                                  refine ov (xeql rfl rfl _ rfl) rfl rfl rfl ?_
                                                  refine ov (xbeql Try.underlying4 rfl rfl) rfl rfl rfl ?_
                                                  refine ods (fun c270 => ?_) (fun c270 => ?_)
                                                  ·
                                                    refine ov (xmove rfl) rfl rfl rfl ?_
                                                    refine ov (xmove rfl) rfl rfl rfl ?_
                                                    refine ov (xmove rfl) rfl rfl rfl ?_
                                                    refine ov (xmove rfl) rfl rfl rfl ?_
                                                    refine oc (xcall Try.call49 rfl) rfl rfl rfl (hasText_ok _ _ _ _ (s42) _ (G83_0.sl)) ?_
                                                    rintro _ w28 ⟨rfl, e28⟩
                                                    have z28 := e28.size
                                                    have E := E.trans e28
                                                    replace G83_0 := G83_0.ext e28
                                                    replace G126 := G126.ext e28
                                                    replace O13 := O13.ext e28
                                                    refine ov (xbeql Try.underlying4 rfl rfl) rfl rfl rfl ?_
                                                    refine ov (xpick_t rfl rfl) rfl rfl rfl ?_
                                                    refine ov (xpick_f rfl rfl) rfl rfl rfl ?_
                                                    refine ov (xassign rfl) rfl rfl rfl ?_
                                                    refine ops_nil ?_
                                                    refine run_ret Try.func17 (res1 rfl rfl) ?_
                                                    exact ⟨_, rfl, congrArg Value.bool (decide_eq_true hsi), E⟩
                                                  · exfalso; exact c270 hse
                                          ·
                                            refine ov (xpick_t rfl rfl) rfl rfl rfl ?_
                                            refine ops_nil ?_
                                            refine run_cond_f rfl ?_
                                            refine run_skip ?_
                                            refine run_seq ?_
                                            refine run_region ?_
                                            refine ov (xmove rfl) rfl rfl rfl ?_
                                            refine ov (xneq rfl rfl _ rfl) rfl rfl rfl ?_
                                            refine ods (fun c265 => ?_) (fun c265 => ?_)
                                            ·
                                              refine ov (xmove rfl) rfl rfl rfl ?_
                                              refine og rfl rfl rfl ?_
                                              refine og rfl rfl rfl ?_
                                              refine og rfl rfl rfl ?_
                                              refine og rfl rfl rfl ?_
                                              refine og rfl rfl rfl ?_
                                              refine og rfl rfl rfl ?_
                                              refine og rfl rfl rfl ?_
                                              refine og rfl rfl rfl ?_
                                              refine og rfl rfl rfl ?_
                                              refine og rfl rfl rfl ?_
                                              refine og rfl rfl rfl ?_
                                              refine ov (xpick_t rfl rfl) rfl rfl rfl ?_
                                              refine ov (xassign rfl) rfl rfl rfl ?_
                                              refine ops_nil ?_
                                              refine run_ret Try.func17 (res1 rfl rfl) ?_
                                              exact ⟨_, rfl, rfl, E⟩
                                            ·
                                              have hse := see_w (rs := rs42) (xs := xs42) (code := s42) (day := k42) (by omega)
                                              have hsi := see_in (rs := rs42) (xs := xs42) (code := s42) (day := k42) (by omega)
                                              refine ov (xmove rfl) rfl rfl rfl ?_
                                              refine ov (xmove rfl) rfl rfl rfl ?_
                                              refine ov (xmove rfl) rfl rfl rfl ?_
                                              refine ov (xeql rfl rfl _ rfl) rfl rfl rfl ?_
                                              refine ov (xbeql Try.underlying4 rfl rfl) rfl rfl rfl ?_
                                              refine ods (fun c270 => ?_) (fun c270 => ?_)
                                              ·
                                                refine ov (xmove rfl) rfl rfl rfl ?_
                                                refine ov (xmove rfl) rfl rfl rfl ?_
                                                refine ov (xmove rfl) rfl rfl rfl ?_
                                                refine ov (xmove rfl) rfl rfl rfl ?_
                                                refine oc (xcall Try.call49 rfl) rfl rfl rfl (hasText_ok _ _ _ _ (s42) _ (G83_0.sl)) ?_
                                                rintro _ w25 ⟨rfl, e25⟩
                                                have z25 := e25.size
                                                have E := E.trans e25
                                                replace G42 := G42.ext e25
                                                replace R42 := R42.ext e25
                                                replace G83_0 := G83_0.ext e25
                                                replace G90_0 := G90_0.ext e25
                                                replace G97_0 := G97_0.ext e25
                                                replace G104_0 := G104_0.ext e25
                                                replace G109 := G109.ext e25
                                                replace G115_0 := G115_0.ext e25
                                                replace G121_0 := G121_0.ext e25
                                                replace G126 := G126.ext e25
                                                replace O13 := O13.ext e25
                                                refine ov (xbeql Try.underlying4 rfl rfl) rfl rfl rfl ?_
                                                refine ov (xpick_t rfl rfl) rfl rfl rfl ?_
                                                refine ov (xpick_f rfl rfl) rfl rfl rfl ?_
                                                refine ov (xassign rfl) rfl rfl rfl ?_
                                                refine ops_nil ?_
                                                refine run_ret Try.func17 (res1 rfl rfl) ?_
                                                exact ⟨_, rfl, congrArg Value.bool (decide_eq_true hsi), E⟩
                                              · exfalso; exact c270 hse
                                        ·
                                          refine ov (xpick_t rfl rfl) rfl rfl rfl ?_
                                          refine ov (xmove rfl) rfl rfl rfl ?_
                                          refine og rfl rfl rfl ?_
                                          refine og rfl rfl rfl ?_
                                          refine ov (xpick_f rfl rfl) rfl rfl rfl ?_
                                          refine ops_nil ?_
                                          refine run_cond_f rfl ?_
                                          refine run_skip ?_
                                          refine run_seq ?_
                                          refine run_region ?_
                                          refine ov (xmove rfl) rfl rfl rfl ?_
                                          refine ov (xneq rfl rfl _ rfl) rfl rfl rfl ?_
                                          refine ods (fun c265 => ?_) (fun c265 => ?_)
                                          ·
                                            refine ov (xmove rfl) rfl rfl rfl ?_
                                            refine og rfl rfl rfl ?_
                                            refine og rfl rfl rfl ?_
                                            refine og rfl rfl rfl ?_
                                            refine og rfl rfl rfl ?_
                                            refine og rfl rfl rfl ?_
                                            refine og rfl rfl rfl ?_
                                            refine og rfl rfl rfl ?_
                                            refine og rfl rfl rfl ?_
                                            refine og rfl rfl rfl ?_
                                            refine og rfl rfl rfl ?_
                                            refine og rfl rfl rfl ?_
                                            refine ov (xpick_t rfl rfl) rfl rfl rfl ?_
                                            refine ov (xassign rfl) rfl rfl rfl ?_
                                            refine ops_nil ?_
                                            refine run_ret Try.func17 (res1 rfl rfl) ?_
                                            exact ⟨_, rfl, rfl, E⟩
                                          ·
                                            have hse := see_w (rs := rs42) (xs := xs42) (code := s42) (day := k42) (by omega)
                                            have hsi := see_in (rs := rs42) (xs := xs42) (code := s42) (day := k42) (by omega)
                                            refine ov (xmove rfl) rfl rfl rfl ?_
                                            refine ov (xmove rfl) rfl rfl rfl ?_
                                            refine ov (xmove rfl) rfl rfl rfl ?_
                                            refine ov (xeql rfl rfl _ rfl) rfl rfl rfl ?_
                                            refine ov (xbeql Try.underlying4 rfl rfl) rfl rfl rfl ?_
                                            refine ods (fun c270 => ?_) (fun c270 => ?_)
                                            ·
                                              refine ov (xmove rfl) rfl rfl rfl ?_
                                              refine ov (xmove rfl) rfl rfl rfl ?_
                                              refine ov (xmove rfl) rfl rfl rfl ?_
                                              refine ov (xmove rfl) rfl rfl rfl ?_
                                              refine oc (xcall Try.call49 rfl) rfl rfl rfl (hasText_ok _ _ _ _ (s42) _ (G83_0.sl)) ?_
                                              rintro _ w25 ⟨rfl, e25⟩
                                              have z25 := e25.size
                                              have E := E.trans e25
                                              replace G42 := G42.ext e25
                                              replace R42 := R42.ext e25
                                              replace G83_0 := G83_0.ext e25
                                              replace G90_0 := G90_0.ext e25
                                              replace G97_0 := G97_0.ext e25
                                              replace G104_0 := G104_0.ext e25
                                              replace G109 := G109.ext e25
                                              replace G115_0 := G115_0.ext e25
                                              replace G121_0 := G121_0.ext e25
                                              replace G126 := G126.ext e25
                                              replace O13 := O13.ext e25
                                              refine ov (xbeql Try.underlying4 rfl rfl) rfl rfl rfl ?_
                                              refine ov (xpick_t rfl rfl) rfl rfl rfl ?_
                                              refine ov (xpick_f rfl rfl) rfl rfl rfl ?_
                                              refine ov (xassign rfl) rfl rfl rfl ?_
                                              refine ops_nil ?_
                                              refine run_ret Try.func17 (res1 rfl rfl) ?_
                                              exact ⟨_, rfl, congrArg Value.bool (decide_eq_true hsi), E⟩
                                            · exfalso; exact c270 hse
                                      ·
                                        refine ov (xmove rfl) rfl rfl rfl ?_
                                        refine og rfl rfl rfl ?_
                                        refine og rfl rfl rfl ?_
                                        refine ov (xpick_f rfl rfl) rfl rfl rfl ?_
                                        refine ov (xmove rfl) rfl rfl rfl ?_
                                        refine og rfl rfl rfl ?_
                                        refine og rfl rfl rfl ?_
                                        refine ov (xpick_f rfl rfl) rfl rfl rfl ?_
                                        refine ops_nil ?_
                                        refine run_cond_f rfl ?_
                                        refine run_skip ?_
                                        refine run_seq ?_
                                        refine run_region ?_
                                        refine ov (xmove rfl) rfl rfl rfl ?_
                                        refine ov (xneq rfl rfl _ rfl) rfl rfl rfl ?_
                                        refine ods (fun c265 => ?_) (fun c265 => ?_)
                                        ·
                                          refine ov (xmove rfl) rfl rfl rfl ?_
                                          refine og rfl rfl rfl ?_
                                          refine og rfl rfl rfl ?_
                                          refine og rfl rfl rfl ?_
                                          refine og rfl rfl rfl ?_
                                          refine og rfl rfl rfl ?_
                                          refine og rfl rfl rfl ?_
                                          refine og rfl rfl rfl ?_
                                          refine og rfl rfl rfl ?_
                                          refine og rfl rfl rfl ?_
                                          refine og rfl rfl rfl ?_
                                          refine og rfl rfl rfl ?_
                                          refine ov (xpick_t rfl rfl) rfl rfl rfl ?_
                                          refine ov (xassign rfl) rfl rfl rfl ?_
                                          refine ops_nil ?_
                                          refine run_ret Try.func17 (res1 rfl rfl) ?_
                                          exact ⟨_, rfl, rfl, E⟩
                                        ·
                                          have hse := see_w (rs := rs42) (xs := xs42) (code := s42) (day := k42) (by omega)
                                          have hsi := see_in (rs := rs42) (xs := xs42) (code := s42) (day := k42) (by omega)
                                          refine ov (xmove rfl) rfl rfl rfl ?_
                                          refine ov (xmove rfl) rfl rfl rfl ?_
                                          refine ov (xmove rfl) rfl rfl rfl ?_
                                          refine ov (xeql rfl rfl _ rfl) rfl rfl rfl ?_
                                          refine ov (xbeql Try.underlying4 rfl rfl) rfl rfl rfl ?_
                                          refine ods (fun c270 => ?_) (fun c270 => ?_)
                                          ·
                                            refine ov (xmove rfl) rfl rfl rfl ?_
                                            refine ov (xmove rfl) rfl rfl rfl ?_
                                            refine ov (xmove rfl) rfl rfl rfl ?_
                                            refine ov (xmove rfl) rfl rfl rfl ?_
                                            refine oc (xcall Try.call49 rfl) rfl rfl rfl (hasText_ok _ _ _ _ (s42) _ (G83_0.sl)) ?_
                                            rintro _ w25 ⟨rfl, e25⟩
                                            have z25 := e25.size
                                            have E := E.trans e25
                                            replace G42 := G42.ext e25
                                            replace R42 := R42.ext e25
                                            replace G83_0 := G83_0.ext e25
                                            replace G90_0 := G90_0.ext e25
                                            replace G97_0 := G97_0.ext e25
                                            replace G104_0 := G104_0.ext e25
                                            replace G109 := G109.ext e25
                                            replace G115_0 := G115_0.ext e25
                                            replace G121_0 := G121_0.ext e25
                                            replace G126 := G126.ext e25
                                            replace O13 := O13.ext e25
                                            refine ov (xbeql Try.underlying4 rfl rfl) rfl rfl rfl ?_
                                            refine ov (xpick_t rfl rfl) rfl rfl rfl ?_
                                            refine ov (xpick_f rfl rfl) rfl rfl rfl ?_
                                            refine ov (xassign rfl) rfl rfl rfl ?_
                                            refine ops_nil ?_
                                            refine run_ret Try.func17 (res1 rfl rfl) ?_
                                            exact ⟨_, rfl, congrArg Value.bool (decide_eq_true hsi), E⟩
                                          · exfalso; exact c270 hse
                                ·
                                  refine ov (xmove rfl) rfl rfl rfl ?_
                                  refine og rfl rfl rfl ?_
                                  refine og rfl rfl rfl ?_
                                  refine og rfl rfl rfl ?_
                                  refine og rfl rfl rfl ?_
                                  refine og rfl rfl rfl ?_
                                  refine og rfl rfl rfl ?_
                                  refine og rfl rfl rfl ?_
                                  refine og rfl rfl rfl ?_
                                  refine og rfl rfl rfl ?_
                                  refine og rfl rfl rfl ?_
                                  refine og rfl rfl rfl ?_
                                  refine og rfl rfl rfl ?_
                                  refine og rfl rfl rfl ?_
                                  refine ov (xpick_f rfl rfl) rfl rfl rfl ?_
                                  refine ops_nil ?_
                                  refine run_cond_f rfl ?_
                                  refine run_skip ?_
                                  refine run_seq ?_
                                  refine run_seq ?_
                                  refine run_region ?_
                                  refine ov (xmove rfl) rfl rfl rfl ?_
                                  refine ov (xeql rfl rfl _ rfl) rfl rfl rfl ?_
                                  refine ods (fun c235 => ?_) (fun c235 => ?_)
                                  ·
                                    refine ov (xmove rfl) rfl rfl rfl ?_
                                    refine ov (xmove rfl) rfl rfl rfl ?_
                                    refine ov (xeql rfl rfl _ rfl) rfl rfl rfl ?_
                                    refine ods (fun c238 => ?_) (fun c238 => ?_)
                                    ·
                                      refine ov (xpick_t rfl rfl) rfl rfl rfl ?_
                                      refine ov (xmove rfl) rfl rfl rfl ?_
                                      refine ov (xmove rfl) rfl rfl rfl ?_
                                      refine ov (xlss rfl rfl _ rfl) rfl rfl rfl ?_
                                      refine ods (fun c242 => ?_) (fun c242 => ?_)
                                      ·
                                        have hkeep := fun (r : Int) (h0 : 0 ≤ r) (h1 : r < 20000 - k126) => standing_keep (xs := rs126) (code := s126) (d := k126) (D := k126 + 1 + r) (by omega) (by omega) (by omega) (by omega)
                                        refine ov (xpick_t rfl rfl) rfl rfl rfl ?_
                                        refine ops_nil ?_
                                        refine run_cond_t rfl ?_
                                        refine run_seq ?_
                                        refine run_region ?_
                                        refine ov (xmove rfl) rfl rfl rfl ?_
                                        refine ov (xmove rfl) rfl rfl rfl ?_
                                        refine ov (xmove rfl) rfl rfl rfl ?_
                                        refine ov (xadd rfl rfl (by unfold I64; omega)) rfl rfl rfl ?_
                                        refine ov (xmove rfl) rfl rfl rfl ?_
                                        refine oc (xcall Try.call86 rfl) rfl rfl rfl (roll_ok _ _ _ _ _ _ (H.ext E)) ?_
                                        rintro _ w24 ⟨e24, b250_, s250_, rfl, hb250_, OD250⟩
                                        have z24 := e24.size
                                        have E := E.trans e24
                                        replace G42 := G42.ext e24
                                        replace R42 := R42.ext e24
                                        replace G83_0 := G83_0.ext e24
                                        replace G90_0 := G90_0.ext e24
                                        replace G97_0 := G97_0.ext e24
                                        replace G104_0 := G104_0.ext e24
                                        replace G109 := G109.ext e24
                                        replace G115_0 := G115_0.ext e24
                                        replace G121_0 := G121_0.ext e24
                                        replace G126 := G126.ext e24
                                        replace O13 := O13.ext e24
                                        have hbl250 := OD250.lt
                                        refine ov (xmove rfl) rfl rfl rfl ?_
                                        refine ov (xsub rfl rfl (by unfold I64; omega)) rfl rfl rfl ?_
                                        refine oc (xcall Try.call87 rfl) rfl rfl rfl (below_ok _ w.heap.size _ _ _ bs _ (20000 - k126) _ OD250 ⟨H.ext E, hfar, by omega⟩ hbs (by omega)) ?_
                                        rintro _ w25 ⟨r253, rfl, hr253a, hr253b, m25⟩
                                        have z25 := m25.size
                                        have E := m25.toExt E (by omega)
                                        replace G83_0 := G83_0.off m25 (by omega)
                                        replace G126 := G126.off m25 (by omega)
                                        replace O13 := m25.own O13 (by omega)
                                        refine ov (xadd rfl rfl (by unfold I64; omega)) rfl rfl rfl ?_
                                        refine oc (xcall Try.call24 rfl) rfl rfl rfl (StandingOn_ok _ _ _ rs126 s126 (k126 + 1 + r253) _ (G126.sl) rk126 (by omega)) ?_
                                        rintro _ w26 ⟨rfl, e26⟩
                                        have z26 := e26.size
                                        have E := E.trans e26
                                        replace G83_0 := G83_0.ext e26
                                        replace G126 := G126.ext e26
                                        replace O13 := O13.ext e26
                                        refine ov (xmove rfl) rfl rfl rfl ?_
                                        refine ov (xextract rfl rfl) rfl rfl rfl ?_
                                        refine ov (xextract rfl rfl) rfl rfl rfl ?_
                                        refine ov (xassign rfl) rfl rfl rfl ?_
                                        refine ov (xassign rfl) rfl rfl rfl ?_
                                        refine ops_nil ?_
                                        refine run_seq ?_
                                        refine run_region ?_
                                        refine ov (xmove rfl) rfl rfl rfl ?_
                                        refine ov (xneq rfl rfl _ rfl) rfl rfl rfl ?_
                                        refine ods (fun c259 => ?_) (fun c259 => ?_)
                                        · exfalso; have h_ := hkeep r253 hr253a hr253b; rw [h_] at c259; exact c259 rfl
                                        ·
                                          refine ov (xmove rfl) rfl rfl rfl ?_
                                          refine ov (xmove rfl) rfl rfl rfl ?_
                                          refine ov (xneq rfl rfl _ rfl) rfl rfl rfl ?_
                                          refine ods (fun c262 => ?_) (fun c262 => ?_)
                                          · exfalso; have h_ := hkeep r253 hr253a hr253b; rw [h_] at c262; exact c262 rfl
                                          ·
                                            refine ov (xpick_f rfl rfl) rfl rfl rfl ?_
                                            refine ops_nil ?_
                                            refine run_cond_f rfl ?_
                                            refine run_skip ?_
                                            refine run_seq ?_
                                            refine run_region ?_
                                            refine ov (xmove rfl) rfl rfl rfl ?_
                                            refine ov (xneq rfl rfl _ rfl) rfl rfl rfl ?_
                                            refine ods (fun c265 => ?_) (fun c265 => ?_)
                                            ·
                                              refine ov (xmove rfl) rfl rfl rfl ?_
                                              refine og rfl rfl rfl ?_
                                              refine og rfl rfl rfl ?_
                                              refine og rfl rfl rfl ?_
                                              refine og rfl rfl rfl ?_
                                              refine og rfl rfl rfl ?_
                                              refine og rfl rfl rfl ?_
                                              refine og rfl rfl rfl ?_
                                              refine og rfl rfl rfl ?_
                                              refine og rfl rfl rfl ?_
                                              refine og rfl rfl rfl ?_
                                              refine og rfl rfl rfl ?_
                                              refine ov (xpick_t rfl rfl) rfl rfl rfl ?_
                                              refine ov (xassign rfl) rfl rfl rfl ?_
                                              refine ops_nil ?_
                                              refine run_ret Try.func17 (res1 rfl rfl) ?_
                                              exact ⟨_, rfl, rfl, E⟩
                                            ·
                                              have hse := see_w (rs := rs42) (xs := xs42) (code := s42) (day := k42) (by omega)
                                              have hsi := see_in (rs := rs42) (xs := xs42) (code := s42) (day := k42) (by omega)
                                              refine ov (xmove rfl) rfl rfl rfl ?_
                                              refine ov (xmove rfl) rfl rfl rfl ?_
                                              refine ov (xmove rfl) rfl rfl rfl ?_
                                              refine ov (xeql rfl rfl _ rfl) rfl rfl rfl ?_
                                              refine ov (xbeql Try.underlying4 rfl rfl) rfl rfl rfl ?_
                                              refine ods (fun c270 => ?_) (fun c270 => ?_)
                                              ·
                                                refine ov (xmove rfl) rfl rfl rfl ?_
                                                refine ov (xmove rfl) rfl rfl rfl ?_
                                                refine ov (xmove rfl) rfl rfl rfl ?_
                                                refine ov (xmove rfl) rfl rfl rfl ?_
                                                refine oc (xcall Try.call49 rfl) rfl rfl rfl (hasText_ok _ _ _ _ (s42) _ (G83_0.sl)) ?_
                                                rintro _ w27 ⟨rfl, e27⟩
                                                have z27 := e27.size
                                                have E := E.trans e27
                                                replace G83_0 := G83_0.ext e27
                                                replace G126 := G126.ext e27
                                                replace O13 := O13.ext e27
                                                refine ov (xbeql Try.underlying4 rfl rfl) rfl rfl rfl ?_
                                                refine ov (xpick_t rfl rfl) rfl rfl rfl ?_
                                                refine ov (xpick_f rfl rfl) rfl rfl rfl ?_
                                                refine ov (xassign rfl) rfl rfl rfl ?_
                                                refine ops_nil ?_
                                                refine run_ret Try.func17 (res1 rfl rfl) ?_
                                                exact ⟨_, rfl, congrArg Value.bool (decide_eq_true hsi), E⟩
                                              · exfalso; exact c270 hse
                                      ·
                                        refine ov (xpick_t rfl rfl) rfl rfl rfl ?_
                                        refine ops_nil ?_
                                        refine run_cond_f rfl ?_
                                        refine run_skip ?_
                                        refine run_seq ?_
                                        refine run_region ?_
                                        refine ov (xmove rfl) rfl rfl rfl ?_
                                        refine ov (xneq rfl rfl _ rfl) rfl rfl rfl ?_
                                        refine ods (fun c265 => ?_) (fun c265 => ?_)
                                        ·
                                          refine ov (xmove rfl) rfl rfl rfl ?_
                                          refine og rfl rfl rfl ?_
                                          refine og rfl rfl rfl ?_
                                          refine og rfl rfl rfl ?_
                                          refine og rfl rfl rfl ?_
                                          refine og rfl rfl rfl ?_
                                          refine og rfl rfl rfl ?_
                                          refine og rfl rfl rfl ?_
                                          refine og rfl rfl rfl ?_
                                          refine og rfl rfl rfl ?_
                                          refine og rfl rfl rfl ?_
                                          refine og rfl rfl rfl ?_
                                          refine ov (xpick_t rfl rfl) rfl rfl rfl ?_
                                          refine ov (xassign rfl) rfl rfl rfl ?_
                                          refine ops_nil ?_
                                          refine run_ret Try.func17 (res1 rfl rfl) ?_
                                          exact ⟨_, rfl, rfl, E⟩
                                        ·
                                          have hse := see_w (rs := rs42) (xs := xs42) (code := s42) (day := k42) (by omega)
                                          have hsi := see_in (rs := rs42) (xs := xs42) (code := s42) (day := k42) (by omega)
                                          refine ov (xmove rfl) rfl rfl rfl ?_
                                          refine ov (xmove rfl) rfl rfl rfl ?_
                                          refine ov (xmove rfl) rfl rfl rfl ?_
                                          refine ov (xeql rfl rfl _ rfl) rfl rfl rfl ?_
                                          refine ov (xbeql Try.underlying4 rfl rfl) rfl rfl rfl ?_
                                          refine ods (fun c270 => ?_) (fun c270 => ?_)
                                          ·
                                            refine ov (xmove rfl) rfl rfl rfl ?_
                                            refine ov (xmove rfl) rfl rfl rfl ?_
                                            refine ov (xmove rfl) rfl rfl rfl ?_
                                            refine ov (xmove rfl) rfl rfl rfl ?_
                                            refine oc (xcall Try.call49 rfl) rfl rfl rfl (hasText_ok _ _ _ _ (s42) _ (G83_0.sl)) ?_
                                            rintro _ w24 ⟨rfl, e24⟩
                                            have z24 := e24.size
                                            have E := E.trans e24
                                            replace G42 := G42.ext e24
                                            replace R42 := R42.ext e24
                                            replace G83_0 := G83_0.ext e24
                                            replace G90_0 := G90_0.ext e24
                                            replace G97_0 := G97_0.ext e24
                                            replace G104_0 := G104_0.ext e24
                                            replace G109 := G109.ext e24
                                            replace G115_0 := G115_0.ext e24
                                            replace G121_0 := G121_0.ext e24
                                            replace G126 := G126.ext e24
                                            replace O13 := O13.ext e24
                                            refine ov (xbeql Try.underlying4 rfl rfl) rfl rfl rfl ?_
                                            refine ov (xpick_t rfl rfl) rfl rfl rfl ?_
                                            refine ov (xpick_f rfl rfl) rfl rfl rfl ?_
                                            refine ov (xassign rfl) rfl rfl rfl ?_
                                            refine ops_nil ?_
                                            refine run_ret Try.func17 (res1 rfl rfl) ?_
                                            exact ⟨_, rfl, congrArg Value.bool (decide_eq_true hsi), E⟩
                                          · exfalso; exact c270 hse
                                    ·
                                      refine ov (xpick_t rfl rfl) rfl rfl rfl ?_
                                      refine ov (xmove rfl) rfl rfl rfl ?_
                                      refine og rfl rfl rfl ?_
                                      refine og rfl rfl rfl ?_
                                      refine ov (xpick_f rfl rfl) rfl rfl rfl ?_
                                      refine ops_nil ?_
                                      refine run_cond_f rfl ?_
                                      refine run_skip ?_
                                      refine run_seq ?_
                                      refine run_region ?_
                                      refine ov (xmove rfl) rfl rfl rfl ?_
                                      refine ov (xneq rfl rfl _ rfl) rfl rfl rfl ?_
                                      refine ods (fun c265 => ?_) (fun c265 => ?_)
                                      ·
                                        refine ov (xmove rfl) rfl rfl rfl ?_
                                        refine og rfl rfl rfl ?_
                                        refine og rfl rfl rfl ?_
                                        refine og rfl rfl rfl ?_
                                        refine og rfl rfl rfl ?_
                                        refine og rfl rfl rfl ?_
                                        refine og rfl rfl rfl ?_
                                        refine og rfl rfl rfl ?_
                                        refine og rfl rfl rfl ?_
                                        refine og rfl rfl rfl ?_
                                        refine og rfl rfl rfl ?_
                                        refine og rfl rfl rfl ?_
                                        refine ov (xpick_t rfl rfl) rfl rfl rfl ?_
                                        refine ov (xassign rfl) rfl rfl rfl ?_
                                        refine ops_nil ?_
                                        refine run_ret Try.func17 (res1 rfl rfl) ?_
                                        exact ⟨_, rfl, rfl, E⟩
                                      ·
                                        have hse := see_w (rs := rs42) (xs := xs42) (code := s42) (day := k42) (by omega)
                                        have hsi := see_in (rs := rs42) (xs := xs42) (code := s42) (day := k42) (by omega)
                                        refine ov (xmove rfl) rfl rfl rfl ?_
                                        refine ov (xmove rfl) rfl rfl rfl ?_
                                        refine ov (xmove rfl) rfl rfl rfl ?_
                                        refine ov (xeql rfl rfl _ rfl) rfl rfl rfl ?_
                                        refine ov (xbeql Try.underlying4 rfl rfl) rfl rfl rfl ?_
                                        refine ods (fun c270 => ?_) (fun c270 => ?_)
                                        ·
                                          refine ov (xmove rfl) rfl rfl rfl ?_
                                          refine ov (xmove rfl) rfl rfl rfl ?_
                                          refine ov (xmove rfl) rfl rfl rfl ?_
                                          refine ov (xmove rfl) rfl rfl rfl ?_
                                          refine oc (xcall Try.call49 rfl) rfl rfl rfl (hasText_ok _ _ _ _ (s42) _ (G83_0.sl)) ?_
                                          rintro _ w24 ⟨rfl, e24⟩
                                          have z24 := e24.size
                                          have E := E.trans e24
                                          replace G42 := G42.ext e24
                                          replace R42 := R42.ext e24
                                          replace G83_0 := G83_0.ext e24
                                          replace G90_0 := G90_0.ext e24
                                          replace G97_0 := G97_0.ext e24
                                          replace G104_0 := G104_0.ext e24
                                          replace G109 := G109.ext e24
                                          replace G115_0 := G115_0.ext e24
                                          replace G121_0 := G121_0.ext e24
                                          replace G126 := G126.ext e24
                                          replace O13 := O13.ext e24
                                          refine ov (xbeql Try.underlying4 rfl rfl) rfl rfl rfl ?_
                                          refine ov (xpick_t rfl rfl) rfl rfl rfl ?_
                                          refine ov (xpick_f rfl rfl) rfl rfl rfl ?_
                                          refine ov (xassign rfl) rfl rfl rfl ?_
                                          refine ops_nil ?_
                                          refine run_ret Try.func17 (res1 rfl rfl) ?_
                                          exact ⟨_, rfl, congrArg Value.bool (decide_eq_true hsi), E⟩
                                        · exfalso; exact c270 hse
                                  ·
                                    refine ov (xmove rfl) rfl rfl rfl ?_
                                    refine og rfl rfl rfl ?_
                                    refine og rfl rfl rfl ?_
                                    refine ov (xpick_f rfl rfl) rfl rfl rfl ?_
                                    refine ov (xmove rfl) rfl rfl rfl ?_
                                    refine og rfl rfl rfl ?_
                                    refine og rfl rfl rfl ?_
                                    refine ov (xpick_f rfl rfl) rfl rfl rfl ?_
                                    refine ops_nil ?_
                                    refine run_cond_f rfl ?_
                                    refine run_skip ?_
                                    refine run_seq ?_
                                    refine run_region ?_
                                    refine ov (xmove rfl) rfl rfl rfl ?_
                                    refine ov (xneq rfl rfl _ rfl) rfl rfl rfl ?_
                                    refine ods (fun c265 => ?_) (fun c265 => ?_)
                                    ·
                                      refine ov (xmove rfl) rfl rfl rfl ?_
                                      refine og rfl rfl rfl ?_
                                      refine og rfl rfl rfl ?_
                                      refine og rfl rfl rfl ?_
                                      refine og rfl rfl rfl ?_
                                      refine og rfl rfl rfl ?_
                                      refine og rfl rfl rfl ?_
                                      refine og rfl rfl rfl ?_
                                      refine og rfl rfl rfl ?_
                                      refine og rfl rfl rfl ?_
                                      refine og rfl rfl rfl ?_
                                      refine og rfl rfl rfl ?_
                                      refine ov (xpick_t rfl rfl) rfl rfl rfl ?_
                                      refine ov (xassign rfl) rfl rfl rfl ?_
                                      refine ops_nil ?_
                                      refine run_ret Try.func17 (res1 rfl rfl) ?_
                                      exact ⟨_, rfl, rfl, E⟩
                                    ·
                                      have hse := see_w (rs := rs42) (xs := xs42) (code := s42) (day := k42) (by omega)
                                      have hsi := see_in (rs := rs42) (xs := xs42) (code := s42) (day := k42) (by omega)
                                      refine ov (xmove rfl) rfl rfl rfl ?_
                                      refine ov (xmove rfl) rfl rfl rfl ?_
                                      refine ov (xmove rfl) rfl rfl rfl ?_
                                      refine ov (xeql rfl rfl _ rfl) rfl rfl rfl ?_
                                      refine ov (xbeql Try.underlying4 rfl rfl) rfl rfl rfl ?_
                                      refine ods (fun c270 => ?_) (fun c270 => ?_)
                                      ·
                                        refine ov (xmove rfl) rfl rfl rfl ?_
                                        refine ov (xmove rfl) rfl rfl rfl ?_
                                        refine ov (xmove rfl) rfl rfl rfl ?_
                                        refine ov (xmove rfl) rfl rfl rfl ?_
                                        refine oc (xcall Try.call49 rfl) rfl rfl rfl (hasText_ok _ _ _ _ (s42) _ (G83_0.sl)) ?_
                                        rintro _ w24 ⟨rfl, e24⟩
                                        have z24 := e24.size
                                        have E := E.trans e24
                                        replace G42 := G42.ext e24
                                        replace R42 := R42.ext e24
                                        replace G83_0 := G83_0.ext e24
                                        replace G90_0 := G90_0.ext e24
                                        replace G97_0 := G97_0.ext e24
                                        replace G104_0 := G104_0.ext e24
                                        replace G109 := G109.ext e24
                                        replace G115_0 := G115_0.ext e24
                                        replace G121_0 := G121_0.ext e24
                                        replace G126 := G126.ext e24
                                        replace O13 := O13.ext e24
                                        refine ov (xbeql Try.underlying4 rfl rfl) rfl rfl rfl ?_
                                        refine ov (xpick_t rfl rfl) rfl rfl rfl ?_
                                        refine ov (xpick_f rfl rfl) rfl rfl rfl ?_
                                        refine ov (xassign rfl) rfl rfl rfl ?_
                                        refine ops_nil ?_
                                        refine run_ret Try.func17 (res1 rfl rfl) ?_
                                        exact ⟨_, rfl, congrArg Value.bool (decide_eq_true hsi), E⟩
                                      · exfalso; exact c270 hse
                      · exfalso; cases c192
                  · exfalso; cases c181
              · exfalso; cases c170
end Go.Proofs.Ytnjohcbamblilaa

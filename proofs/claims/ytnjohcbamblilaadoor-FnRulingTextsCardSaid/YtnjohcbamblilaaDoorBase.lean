/-
  Contracts of the small functions that all chapters share. No condition.
-/
import Derived.Test.YtnjohcbamblilaaDoorGrow
import Derived.Test.YtnjohcbamblilaaDoorProg
namespace Go.Proofs.YtnjohcbamblilaaDoor
open Go.RowKit
set_option linter.unusedVariables false
set_option linter.unusedSimpArgs false
set_option linter.unusedSectionVars false
set_option maxRecDepth 4000

theorem inf0 : Tryd.prog.info? 0 = some Tryd.t0 := by kernel_rfl
theorem inf1 : Tryd.prog.info? 1 = some Tryd.t1 := by kernel_rfl
theorem inf2 : Tryd.prog.info? 2 = some Tryd.t2 := by kernel_rfl
theorem inf3 : Tryd.prog.info? 3 = some Tryd.t3 := by kernel_rfl
theorem inf4 : Tryd.prog.info? 4 = some Tryd.t4 := by kernel_rfl
theorem inf5 : Tryd.prog.info? 5 = some Tryd.t5 := by kernel_rfl
theorem inf6 : Tryd.prog.info? 6 = some Tryd.t6 := by kernel_rfl
theorem inf7 : Tryd.prog.info? 7 = some Tryd.t7 := by kernel_rfl
theorem inf8 : Tryd.prog.info? 8 = some Tryd.t8 := by kernel_rfl
theorem inf9 : Tryd.prog.info? 9 = some Tryd.t9 := by kernel_rfl
theorem inf10 : Tryd.prog.info? 10 = some Tryd.t10 := by kernel_rfl
theorem inf11 : Tryd.prog.info? 11 = some Tryd.t11 := by kernel_rfl
theorem inf12 : Tryd.prog.info? 12 = some Tryd.t12 := by kernel_rfl
theorem inf13 : Tryd.prog.info? 13 = some Tryd.t13 := by kernel_rfl
theorem inf14 : Tryd.prog.info? 14 = some Tryd.t14 := by kernel_rfl
theorem inf15 : Tryd.prog.info? 15 = some Tryd.t15 := by kernel_rfl
theorem inf16 : Tryd.prog.info? 16 = some Tryd.t16 := by kernel_rfl
theorem inf17 : Tryd.prog.info? 17 = some Tryd.t17 := by kernel_rfl
theorem inf18 : Tryd.prog.info? 18 = some Tryd.t18 := by kernel_rfl
theorem inf19 : Tryd.prog.info? 19 = some Tryd.t19 := by kernel_rfl
theorem inf20 : Tryd.prog.info? 20 = some Tryd.t20 := by kernel_rfl
theorem inf21 : Tryd.prog.info? 21 = some Tryd.t21 := by kernel_rfl
theorem inf22 : Tryd.prog.info? 22 = some Tryd.t22 := by kernel_rfl
theorem inf23 : Tryd.prog.info? 23 = some Tryd.t23 := by kernel_rfl
theorem inf24 : Tryd.prog.info? 24 = some Tryd.t24 := by kernel_rfl
theorem inf25 : Tryd.prog.info? 25 = some Tryd.t25 := by kernel_rfl
theorem inf26 : Tryd.prog.info? 26 = some Tryd.t26 := by kernel_rfl
theorem inf27 : Tryd.prog.info? 27 = some Tryd.t27 := by kernel_rfl
theorem inf28 : Tryd.prog.info? 28 = some Tryd.t28 := by kernel_rfl
theorem inf29 : Tryd.prog.info? 29 = some Tryd.t29 := by kernel_rfl
theorem inf30 : Tryd.prog.info? 30 = some Tryd.t30 := by kernel_rfl
theorem inf31 : Tryd.prog.info? 31 = some Tryd.t31 := by kernel_rfl
theorem inf32 : Tryd.prog.info? 32 = some Tryd.t32 := by kernel_rfl
theorem inf33 : Tryd.prog.info? 33 = some Tryd.t33 := by kernel_rfl
theorem inf34 : Tryd.prog.info? 34 = some Tryd.t34 := by kernel_rfl
theorem inf35 : Tryd.prog.info? 35 = some Tryd.t35 := by kernel_rfl
theorem inf36 : Tryd.prog.info? 36 = some Tryd.t36 := by kernel_rfl
theorem inf37 : Tryd.prog.info? 37 = some Tryd.t37 := by kernel_rfl
theorem inf38 : Tryd.prog.info? 38 = some Tryd.t38 := by kernel_rfl
theorem inf39 : Tryd.prog.info? 39 = some Tryd.t39 := by kernel_rfl
theorem inf40 : Tryd.prog.info? 40 = some Tryd.t40 := by kernel_rfl
theorem inf41 : Tryd.prog.info? 41 = some Tryd.t41 := by kernel_rfl
theorem inf42 : Tryd.prog.info? 42 = some Tryd.t42 := by kernel_rfl
theorem inf43 : Tryd.prog.info? 43 = some Tryd.t43 := by kernel_rfl
theorem inf44 : Tryd.prog.info? 44 = some Tryd.t44 := by kernel_rfl
theorem inf45 : Tryd.prog.info? 45 = some Tryd.t45 := by kernel_rfl
theorem inf46 : Tryd.prog.info? 46 = some Tryd.t46 := by kernel_rfl
theorem inf47 : Tryd.prog.info? 47 = some Tryd.t47 := by kernel_rfl
theorem inf48 : Tryd.prog.info? 48 = some Tryd.t48 := by kernel_rfl
theorem inf49 : Tryd.prog.info? 49 = some Tryd.t49 := by kernel_rfl
theorem inf50 : Tryd.prog.info? 50 = some Tryd.t50 := by kernel_rfl
theorem inf51 : Tryd.prog.info? 51 = some Tryd.t51 := by kernel_rfl
theorem inf52 : Tryd.prog.info? 52 = some Tryd.t52 := by kernel_rfl
theorem inf53 : Tryd.prog.info? 53 = some Tryd.t53 := by kernel_rfl
theorem inf54 : Tryd.prog.info? 54 = some Tryd.t54 := by kernel_rfl
theorem inf55 : Tryd.prog.info? 55 = some Tryd.t55 := by kernel_rfl
theorem inf56 : Tryd.prog.info? 56 = some Tryd.t56 := by kernel_rfl
theorem inf57 : Tryd.prog.info? 57 = some Tryd.t57 := by kernel_rfl
theorem inf58 : Tryd.prog.info? 58 = some Tryd.t58 := by kernel_rfl
theorem inf59 : Tryd.prog.info? 59 = some Tryd.t59 := by kernel_rfl
theorem inf60 : Tryd.prog.info? 60 = some Tryd.t60 := by kernel_rfl
theorem inf61 : Tryd.prog.info? 61 = some Tryd.t61 := by kernel_rfl
theorem inf62 : Tryd.prog.info? 62 = some Tryd.t62 := by kernel_rfl
theorem inf63 : Tryd.prog.info? 63 = some Tryd.t63 := by kernel_rfl
theorem inf64 : Tryd.prog.info? 64 = some Tryd.t64 := by kernel_rfl
theorem inf65 : Tryd.prog.info? 65 = some Tryd.t65 := by kernel_rfl
theorem inf66 : Tryd.prog.info? 66 = some Tryd.t66 := by kernel_rfl
theorem inf67 : Tryd.prog.info? 67 = some Tryd.t67 := by kernel_rfl
theorem inf68 : Tryd.prog.info? 68 = some Tryd.t68 := by kernel_rfl
theorem inf69 : Tryd.prog.info? 69 = some Tryd.t69 := by kernel_rfl
theorem inf70 : Tryd.prog.info? 70 = some Tryd.t70 := by kernel_rfl
theorem inf71 : Tryd.prog.info? 71 = some Tryd.t71 := by kernel_rfl
theorem inf72 : Tryd.prog.info? 72 = some Tryd.t72 := by kernel_rfl
theorem inf73 : Tryd.prog.info? 73 = some Tryd.t73 := by kernel_rfl
theorem inf74 : Tryd.prog.info? 74 = some Tryd.t74 := by kernel_rfl
theorem inf75 : Tryd.prog.info? 75 = some Tryd.t75 := by kernel_rfl
theorem inf76 : Tryd.prog.info? 76 = some Tryd.t76 := by kernel_rfl
theorem inf77 : Tryd.prog.info? 77 = some Tryd.t77 := by kernel_rfl
theorem inf78 : Tryd.prog.info? 78 = some Tryd.t78 := by kernel_rfl
theorem inf79 : Tryd.prog.info? 79 = some Tryd.t79 := by kernel_rfl
theorem inf80 : Tryd.prog.info? 80 = some Tryd.t80 := by kernel_rfl
theorem inf81 : Tryd.prog.info? 81 = some Tryd.t81 := by kernel_rfl
theorem inf82 : Tryd.prog.info? 82 = some Tryd.t82 := by kernel_rfl
theorem inf83 : Tryd.prog.info? 83 = some Tryd.t83 := by kernel_rfl
theorem inf84 : Tryd.prog.info? 84 = some Tryd.t84 := by kernel_rfl
theorem inf85 : Tryd.prog.info? 85 = some Tryd.t85 := by kernel_rfl
theorem inf86 : Tryd.prog.info? 86 = some Tryd.t86 := by kernel_rfl
theorem inf87 : Tryd.prog.info? 87 = some Tryd.t87 := by kernel_rfl
theorem inf88 : Tryd.prog.info? 88 = some Tryd.t88 := by kernel_rfl
theorem inf89 : Tryd.prog.info? 89 = some Tryd.t89 := by kernel_rfl
theorem inf90 : Tryd.prog.info? 90 = some Tryd.t90 := by kernel_rfl
theorem inf91 : Tryd.prog.info? 91 = some Tryd.t91 := by kernel_rfl
theorem inf92 : Tryd.prog.info? 92 = some Tryd.t92 := by kernel_rfl
theorem inf93 : Tryd.prog.info? 93 = some Tryd.t93 := by kernel_rfl
theorem inf94 : Tryd.prog.info? 94 = some Tryd.t94 := by kernel_rfl
theorem inf95 : Tryd.prog.info? 95 = some Tryd.t95 := by kernel_rfl
theorem inf96 : Tryd.prog.info? 96 = some Tryd.t96 := by kernel_rfl
theorem inf97 : Tryd.prog.info? 97 = some Tryd.t97 := by kernel_rfl
theorem inf98 : Tryd.prog.info? 98 = some Tryd.t98 := by kernel_rfl
theorem inf99 : Tryd.prog.info? 99 = some Tryd.t99 := by kernel_rfl
theorem inf100 : Tryd.prog.info? 100 = some Tryd.t100 := by kernel_rfl
theorem inf101 : Tryd.prog.info? 101 = some Tryd.t101 := by kernel_rfl
theorem inf102 : Tryd.prog.info? 102 = some Tryd.t102 := by kernel_rfl
theorem inf103 : Tryd.prog.info? 103 = some Tryd.t103 := by kernel_rfl
theorem inf104 : Tryd.prog.info? 104 = some Tryd.t104 := by kernel_rfl
theorem inf105 : Tryd.prog.info? 105 = some Tryd.t105 := by kernel_rfl
theorem inf106 : Tryd.prog.info? 106 = some Tryd.t106 := by kernel_rfl
theorem inf107 : Tryd.prog.info? 107 = some Tryd.t107 := by kernel_rfl
theorem inf108 : Tryd.prog.info? 108 = some Tryd.t108 := by kernel_rfl
theorem inf109 : Tryd.prog.info? 109 = some Tryd.t109 := by kernel_rfl
theorem inf110 : Tryd.prog.info? 110 = some Tryd.t110 := by kernel_rfl
theorem inf111 : Tryd.prog.info? 111 = some Tryd.t111 := by kernel_rfl
theorem inf112 : Tryd.prog.info? 112 = some Tryd.t112 := by kernel_rfl
theorem inf113 : Tryd.prog.info? 113 = some Tryd.t113 := by kernel_rfl
theorem inf114 : Tryd.prog.info? 114 = some Tryd.t114 := by kernel_rfl
theorem inf115 : Tryd.prog.info? 115 = some Tryd.t115 := by kernel_rfl
theorem inf116 : Tryd.prog.info? 116 = some Tryd.t116 := by kernel_rfl
theorem inf117 : Tryd.prog.info? 117 = some Tryd.t117 := by kernel_rfl
theorem inf118 : Tryd.prog.info? 118 = some Tryd.t118 := by kernel_rfl
theorem inf119 : Tryd.prog.info? 119 = some Tryd.t119 := by kernel_rfl
theorem inf120 : Tryd.prog.info? 120 = some Tryd.t120 := by kernel_rfl
theorem inf121 : Tryd.prog.info? 121 = some Tryd.t121 := by kernel_rfl
theorem inf122 : Tryd.prog.info? 122 = some Tryd.t122 := by kernel_rfl
theorem inf123 : Tryd.prog.info? 123 = some Tryd.t123 := by kernel_rfl
theorem inf124 : Tryd.prog.info? 124 = some Tryd.t124 := by kernel_rfl
theorem inf125 : Tryd.prog.info? 125 = some Tryd.t125 := by kernel_rfl
theorem elem5 : ElemOk Tryd.prog 34 5 1 1 := ⟨Tryd.underlying34, ⟨_, _, inf5, rfl, rfl, rfl, rfl⟩, by decide⟩
theorem elem9 : ElemOk Tryd.prog 41 9 1 16 := ⟨Tryd.underlying41, ⟨_, _, inf9, rfl, rfl, rfl, rfl⟩, by decide⟩
theorem elem2 : ElemOk Tryd.prog 64 2 1 8 := ⟨Tryd.underlying64, ⟨_, _, inf2, rfl, rfl, rfl, rfl⟩, by decide⟩
theorem fo23f0 : fieldOk Tryd.prog 23 0 0 := ⟨_, _, Tryd.underlying23, rfl, rfl, Tryd.t2, by kernel_rfl, by decide⟩
theorem fo23f1 : fieldOk Tryd.prog 23 1 1 := ⟨_, _, Tryd.underlying23, rfl, rfl, Tryd.t9, by kernel_rfl, by decide⟩
theorem fo23f2 : fieldOk Tryd.prog 23 2 2 := ⟨_, _, Tryd.underlying23, rfl, rfl, Tryd.t2, by kernel_rfl, by decide⟩
theorem fo27f0 : fieldOk Tryd.prog 27 0 0 := ⟨_, _, Tryd.underlying27, rfl, rfl, Tryd.t2, by kernel_rfl, by decide⟩
theorem fo27f1 : fieldOk Tryd.prog 27 1 1 := ⟨_, _, Tryd.underlying27, rfl, rfl, Tryd.t9, by kernel_rfl, by decide⟩
theorem fo27f2 : fieldOk Tryd.prog 27 2 2 := ⟨_, _, Tryd.underlying27, rfl, rfl, Tryd.t2, by kernel_rfl, by decide⟩
theorem fo63f0 : fieldOk Tryd.prog 63 0 0 := ⟨_, _, Tryd.underlying63, rfl, rfl, Tryd.t34, by kernel_rfl, by decide⟩
theorem fo63f1 : fieldOk Tryd.prog 63 1 1 := ⟨_, _, Tryd.underlying63, rfl, rfl, Tryd.t3, by kernel_rfl, by decide⟩
theorem fo63f2 : fieldOk Tryd.prog 63 2 2 := ⟨_, _, Tryd.underlying63, rfl, rfl, Tryd.t2, by kernel_rfl, by decide⟩


def inR (lo hi n : Int) : Bool := decide (lo ≤ n) && decide (n ≤ hi)
theorem inR_iff {lo hi n : Int} : inR lo hi n = true ↔ lo ≤ n ∧ n ≤ hi := by simp [inR]
/-- p holds at every number below n -/
def allB (n : Nat) (p : Nat → Bool) : Bool := (List.range n).all p
theorem allB_iff {n : Nat} {p : Nat → Bool} : allB n p = true ↔ ∀ i, i < n → p i = true := by simp [allB]
theorem allB_succ {n : Nat} {p : Nat → Bool} (h : allB n p = true) (h1 : p n = true) : allB (n + 1) p = true := by
  rw [allB_iff] at *
  intro i hi
  rcases Nat.lt_succ_iff_lt_or_eq.1 hi with h2 | h2
  · exact h i h2
  · rw [h2]; exact h1
theorem allB_zero {p : Nat → Bool} : allB 0 p = true := rfl
theorem allB_false {n i : Nat} {p : Nat → Bool} (hi : i < n) (h : p i = false) : allB n p = false := by
  rw [Bool.eq_false_iff]
  intro hc
  rw [allB_iff] at hc
  rw [hc i hi] at h
  cases h
def sub1 (m : Nat) (l : Int) : Int := if l - m < 0 then -1 else l - m
def bnd (x : Int) (f : Int → Int) : Int := if x < 0 then -1 else f x
def goS {α : Type} (f : α → Int → Int) : List α → Int → Int
  | [], l => l
  | x :: r, l => if f x l < 0 then -1 else goS f r (f x l)
def szS {α : Type} (f : α → Int → Int) (xs : List α) (l : Int) : Int := if l - xs.length < 0 then -1 else goS f xs (l - xs.length)
/-- two lists are equal, element by element, as f says -/
def eqAt {α : Type} (f : α → α → Bool) (xs ys : List α) (i : Nat) : Bool := match xs[i]?, ys[i]? with
  | some x, some y => f x y
  | _, _ => false
theorem eqAt_of {α : Type} {f : α → α → Bool} {xs ys : List α} {i : Nat} (h1 : i < xs.length) (h2 : i < ys.length) : eqAt f xs ys i = f xs[i] ys[i] := by
  simp [eqAt, h1, h2]
def eqL {α : Type} (f : α → α → Bool) (xs ys : List α) : Bool := decide (xs.length = ys.length) && allB xs.length (fun i => eqAt f xs ys i)
theorem eqL_ne {α : Type} {f : α → α → Bool} {xs ys : List α} (h : xs.length ≠ ys.length) : eqL f xs ys = false := by simp [eqL, h]
theorem eqL_eq {α : Type} {f : α → α → Bool} {xs ys : List α} (h : xs.length = ys.length) (h2 : allB xs.length (fun i => eqAt f xs ys i) = true) : eqL f xs ys = true := by
  simp only [eqL, h2, Bool.and_true]; exact decide_eq_true h
theorem eqL_at {α : Type} {f : α → α → Bool} {xs ys : List α} {i : Nat} (h1 : i < xs.length) (h2 : i < ys.length) (h : f xs[i] ys[i] = false) : eqL f xs ys = false := by
  simp only [eqL, Bool.and_eq_false_iff]
  exact .inr (allB_false h1 (by rw [eqAt_of h1 h2]; exact h))
/-- p holds at every element, with its index -/
def allI {α : Type} (p : Nat → α → Bool) (xs : List α) (i : Nat) : Bool := match xs[i]? with
  | some x => p i x
  | none => false
theorem allI_of {α : Type} {p : Nat → α → Bool} {xs : List α} {i : Nat} (h : i < xs.length) : allI p xs i = p i xs[i] := by simp [allI, h]
def isWord (s : ByteArray) : Bool := allB s.size (fun i => decide (97 ≤ bAt s i) && decide (bAt s i ≤ 122)) && inR 1 16 s.size


set_option maxHeartbeats 400000 in
theorem within_ok (n lo hi : Int) (w : World) : Ret Tryd.prog 38 [.int .i64 n, .int .i64 lo, .int .i64 hi] w (Ps w (.bool (inR lo hi n))) := by
  refine ret_of_run (N := 15) Tryd.func38 rfl rfl rfl ?_
  have E : Ext w w := Ext.refl w
  refine run_seq ?_
  refine run_region ?_
  refine ov (xassign rfl) rfl rfl rfl ?_
  refine ops_nil ?_
  refine run_seq ?_
  refine run_region ?_
  refine ov (xmove rfl) rfl rfl rfl ?_
  refine ov (xmove rfl) rfl rfl rfl ?_
  refine ov (xleq rfl rfl _ rfl) rfl rfl rfl ?_
  refine ods (fun c9 => ?_) (fun c9 => ?_)
  ·
    refine ov (xmove rfl) rfl rfl rfl ?_
    refine ov (xmove rfl) rfl rfl rfl ?_
    refine ov (xmove rfl) rfl rfl rfl ?_
    refine ov (xleq rfl rfl _ rfl) rfl rfl rfl ?_
    refine ov (xpick_t rfl rfl) rfl rfl rfl ?_
    refine ov (xassign rfl) rfl rfl rfl ?_
    refine ops_nil ?_
    refine run_ret Tryd.func38 (res1 rfl rfl) ?_
    exact ⟨_, rfl, by simp [inR, c9], rfl⟩
  ·
    refine ov (xmove rfl) rfl rfl rfl ?_
    refine og rfl rfl rfl ?_
    refine og rfl rfl rfl ?_
    refine og rfl rfl rfl ?_
    refine ov (xpick_f rfl rfl) rfl rfl rfl ?_
    refine ov (xassign rfl) rfl rfl rfl ?_
    refine ops_nil ?_
    refine run_ret Tryd.func38 (res1 rfl rfl) ?_
    exact ⟨_, rfl, by simp [inR, c9], rfl⟩

set_option maxHeartbeats 400000 in
theorem l01In_ok (n lo hi : Int) (w : World) : Ret Tryd.prog 34 [.int .i64 n, .int .i64 lo, .int .i64 hi] w (Ps w (.bool (inR lo hi n))) := by
  refine ret_of_run (N := 15) Tryd.func34 rfl rfl rfl ?_
  have E : Ext w w := Ext.refl w
  refine run_seq ?_
  refine run_region ?_
  refine ov (xassign rfl) rfl rfl rfl ?_
  refine ops_nil ?_
  refine run_seq ?_
  refine run_region ?_
  refine ov (xmove rfl) rfl rfl rfl ?_
  refine ov (xmove rfl) rfl rfl rfl ?_
  refine ov (xgeq rfl rfl _ rfl) rfl rfl rfl ?_
  refine ods (fun c9 => ?_) (fun c9 => ?_)
  ·
    refine ov (xmove rfl) rfl rfl rfl ?_
    refine ov (xmove rfl) rfl rfl rfl ?_
    refine ov (xmove rfl) rfl rfl rfl ?_
    refine ov (xleq rfl rfl _ rfl) rfl rfl rfl ?_
    refine ov (xpick_t rfl rfl) rfl rfl rfl ?_
    refine ov (xassign rfl) rfl rfl rfl ?_
    refine ops_nil ?_
    refine run_ret Tryd.func34 (res1 rfl rfl) ?_
    exact ⟨_, rfl, by simp [inR, c9], rfl⟩
  ·
    refine ov (xmove rfl) rfl rfl rfl ?_
    refine og rfl rfl rfl ?_
    refine og rfl rfl rfl ?_
    refine og rfl rfl rfl ?_
    refine ov (xpick_f rfl rfl) rfl rfl rfl ?_
    refine ov (xassign rfl) rfl rfl rfl ?_
    refine ops_nil ?_
    refine run_ret Tryd.func34 (res1 rfl rfl) ?_
    exact ⟨_, rfl, by simp [inR, c9], rfl⟩

set_option maxHeartbeats 400000 in
theorem isDay_ok (n : Int) (w : World) : Ret Tryd.prog 36 [.int .i64 n] w (Ps w (.bool (inR 0 20000 n))) := by
  refine ret_of_run (N := 5) Tryd.func36 rfl rfl rfl ?_
  have E : Ext w w := Ext.refl w
  refine run_seq ?_
  refine run_region ?_
  refine ov (xassign rfl) rfl rfl rfl ?_
  refine ops_nil ?_
  refine run_seq ?_
  refine run_region ?_
  refine ov (xmove rfl) rfl rfl rfl ?_
  refine oc (xcall Tryd.call38 rfl) rfl rfl rfl (within_ok (n) (0) (20000) _) ?_
  rintro _ w_ ⟨rfl, hw_⟩
  replace hw_ := hw_.symm
  subst hw_
  refine ov (xassign rfl) rfl rfl rfl ?_
  refine ops_nil ?_
  refine run_ret Tryd.func36 (res1 rfl rfl) ?_
  exact ⟨_, rfl, rfl, rfl⟩

set_option maxHeartbeats 400000 in
theorem l02Is_ok (n : Int) (w : World) : Ret Tryd.prog 32 [.int .i64 n] w (Ps w (.bool (inR 0 20000 n))) := by
  refine ret_of_run (N := 5) Tryd.func32 rfl rfl rfl ?_
  have E : Ext w w := Ext.refl w
  refine run_seq ?_
  refine run_region ?_
  refine ov (xassign rfl) rfl rfl rfl ?_
  refine ops_nil ?_
  refine run_seq ?_
  refine run_region ?_
  refine ov (xmove rfl) rfl rfl rfl ?_
  refine oc (xcall Tryd.call34 rfl) rfl rfl rfl (l01In_ok (n) (0) (20000) _) ?_
  rintro _ w_ ⟨rfl, hw_⟩
  replace hw_ := hw_.symm
  subst hw_
  refine ov (xassign rfl) rfl rfl rfl ?_
  refine ops_nil ?_
  refine run_ret Tryd.func32 (res1 rfl rfl) ?_
  exact ⟨_, rfl, rfl, rfl⟩

set_option maxHeartbeats 400000 in
theorem IsWord_ok (s : ByteArray) (w : World) (hs : s.size ≤ 9223372036854775807) : Ret Tryd.prog 37 [.string s] w (Ps w (.bool (isWord s))) := by
  refine ret_of_run (N := 23) Tryd.func37 rfl rfl rfl ?_
  have E : Ext w w := Ext.refl w
  refine run_seq ?_
  refine run_region ?_
  refine ov (xassign rfl) rfl rfl rfl ?_
  refine ops_nil ?_
  refine run_seq ?_
  refine run_seq ?_
  refine run_region ?_
  refine ov (xassign rfl) rfl rfl rfl ?_
  refine ops_nil ?_
  refine run_block ?_
  refine run_loop (ι := Nat) (fun k => (k ≤ s.size) ∧ (allB k (fun i => decide (97 ≤ bAt s i) && decide (bAt s i ≤ 122)) = true)) (fun k => [(0, .string s), (3, .int .i64 (k : Int))]) (fun k => w) (fun k => s.size - k) ?_ 0 (⟨by omega, allB_zero⟩) ⟨rfl, rfl, trivial⟩ rfl
  intro k hI_ hback2
  obtain ⟨hk, ha⟩ := hI_
  try dsimp only
  have hb := bAt_lt s k
  refine run_seq ?_
  refine run_seq ?_
  refine run_region ?_
  refine ov (xmove rfl) rfl rfl rfl ?_
  refine ov (xmove rfl) rfl rfl rfl ?_
  refine ov (xlens Tryd.underlying9 rfl) rfl rfl rfl ?_
  refine ov (xlss rfl rfl _ rfl) rfl rfl rfl ?_
  refine ods (fun c7 => ?_) (fun c7 => ?_)
  ·
    refine ops_nil ?_
    refine run_cond_t rfl ?_
    refine run_skip ?_
    refine run_seq ?_
    refine run_block ?_
    refine run_seq ?_
    refine run_region ?_
    refine ov (xmove rfl) rfl rfl rfl ?_
    refine ov (xmove rfl) rfl rfl rfl ?_
    refine ov (xindexS (i := k) Tryd.underlying9 rfl rfl rfl (by omega)) rfl rfl rfl ?_
    refine ov (xlss rfl rfl _ rfl) rfl rfl rfl ?_
    refine ods (fun c13 => ?_) (fun c13 => ?_)
    ·
      refine ov (xmove rfl) rfl rfl rfl ?_
      refine og rfl rfl rfl ?_
      refine og rfl rfl rfl ?_
      refine og rfl rfl rfl ?_
      refine og rfl rfl rfl ?_
      refine ov (xpick_t rfl rfl) rfl rfl rfl ?_
      refine ops_nil ?_
      refine run_cond_t rfl ?_
      refine run_seq ?_
      refine run_region ?_
      refine ov (xassign rfl) rfl rfl rfl ?_
      refine ops_nil ?_
      refine run_ret Tryd.func37 (res1 rfl rfl) ?_
      exact ⟨_, rfl, by rw [isWord, allB_false (i := k) (by omega) (by rw [Bool.and_eq_false_iff, decide_eq_false_iff_not, decide_eq_false_iff_not]; omega)]; rfl, rfl⟩
    ·
      refine ov (xmove rfl) rfl rfl rfl ?_
      refine ov (xmove rfl) rfl rfl rfl ?_
      refine ov (xmove rfl) rfl rfl rfl ?_
      refine ov (xindexS (i := k) Tryd.underlying9 rfl rfl rfl (by omega)) rfl rfl rfl ?_
      refine ov (xgtr rfl rfl _ rfl) rfl rfl rfl ?_
      refine ods (fun c18 => ?_) (fun c18 => ?_)
      ·
        refine ov (xpick_f rfl rfl) rfl rfl rfl ?_
        refine ops_nil ?_
        refine run_cond_t rfl ?_
        refine run_seq ?_
        refine run_region ?_
        refine ov (xassign rfl) rfl rfl rfl ?_
        refine ops_nil ?_
        refine run_ret Tryd.func37 (res1 rfl rfl) ?_
        exact ⟨_, rfl, by rw [isWord, allB_false (i := k) (by omega) (by rw [Bool.and_eq_false_iff, decide_eq_false_iff_not, decide_eq_false_iff_not]; omega)]; rfl, rfl⟩
      ·
        refine ov (xpick_f rfl rfl) rfl rfl rfl ?_
        refine ops_nil ?_
        refine run_cond_f rfl ?_
        refine run_skip ?_
        refine run_inBlock ?_
        refine run_region ?_
        refine ov (xmove rfl) rfl rfl rfl ?_
        refine ov (xadd rfl rfl (by unfold I64; omega)) rfl rfl rfl ?_
        refine ov (xassign rfl) rfl rfl rfl ?_
        refine ops_nil ?_
        refine run_sub ?_ (hback2 (k + 1) (⟨by omega, allB_succ ha (by simp only [Bool.and_eq_true, decide_eq_true_eq]; omega)⟩) (by first | omega | (dsimp only; omega)))
        exact ⟨rfl, rfl, trivial⟩
  ·
    refine ops_nil ?_
    refine run_cond_f rfl ?_
    refine run_exit rfl ?_
    refine run_seq ?_
    refine run_region ?_
    refine ov (xmove rfl) rfl rfl rfl ?_
    refine ov (xlens Tryd.underlying9 rfl) rfl rfl rfl ?_
    refine oc (xcall Tryd.call38 rfl) rfl rfl rfl (within_ok ((s.size : Int)) (1) (16) _) ?_
    rintro _ w_ ⟨rfl, hw_⟩
    replace hw_ := hw_.symm
    subst hw_
    refine ov (xassign rfl) rfl rfl rfl ?_
    refine ops_nil ?_
    refine run_ret Tryd.func37 (res1 rfl rfl) ?_
    obtain rfl : k = s.size := by omega
    exact ⟨_, rfl, by rw [isWord, ha]; rfl, rfl⟩

set_option maxHeartbeats 400000 in
theorem sIsWord_ok (s : ByteArray) (w : World) (hs : s.size ≤ 9223372036854775807) : Ret Tryd.prog 33 [.string s] w (Ps w (.bool (isWord s))) := by
  refine ret_of_run (N := 23) Tryd.func33 rfl rfl rfl ?_
  have E : Ext w w := Ext.refl w
  refine run_seq ?_
  refine run_region ?_
  refine ov (xassign rfl) rfl rfl rfl ?_
  refine ops_nil ?_
  refine run_seq ?_
  refine run_seq ?_
  refine run_region ?_
  refine ov (xassign rfl) rfl rfl rfl ?_
  refine ops_nil ?_
  refine run_block ?_
  refine run_loop (ι := Nat) (fun k => (k ≤ s.size) ∧ (allB k (fun i => decide (97 ≤ bAt s i) && decide (bAt s i ≤ 122)) = true)) (fun k => [(0, .string s), (3, .int .i64 (k : Int))]) (fun k => w) (fun k => s.size - k) ?_ 0 (⟨by omega, allB_zero⟩) ⟨rfl, rfl, trivial⟩ rfl
  intro k hI_ hback2
  obtain ⟨hk, ha⟩ := hI_
  try dsimp only
  have hb := bAt_lt s k
  refine run_seq ?_
  refine run_seq ?_
  refine run_region ?_
  refine ov (xmove rfl) rfl rfl rfl ?_
  refine ov (xmove rfl) rfl rfl rfl ?_
  refine ov (xlens Tryd.underlying9 rfl) rfl rfl rfl ?_
  refine ov (xlss rfl rfl _ rfl) rfl rfl rfl ?_
  refine ods (fun c7 => ?_) (fun c7 => ?_)
  ·
    refine ops_nil ?_
    refine run_cond_t rfl ?_
    refine run_skip ?_
    refine run_seq ?_
    refine run_block ?_
    refine run_seq ?_
    refine run_region ?_
    refine ov (xmove rfl) rfl rfl rfl ?_
    refine ov (xmove rfl) rfl rfl rfl ?_
    refine ov (xindexS (i := k) Tryd.underlying9 rfl rfl rfl (by omega)) rfl rfl rfl ?_
    refine ov (xlss rfl rfl _ rfl) rfl rfl rfl ?_
    refine ods (fun c13 => ?_) (fun c13 => ?_)
    ·
      refine ov (xmove rfl) rfl rfl rfl ?_
      refine og rfl rfl rfl ?_
      refine og rfl rfl rfl ?_
      refine og rfl rfl rfl ?_
      refine og rfl rfl rfl ?_
      refine ov (xpick_t rfl rfl) rfl rfl rfl ?_
      refine ops_nil ?_
      refine run_cond_t rfl ?_
      refine run_seq ?_
      refine run_region ?_
      refine ov (xassign rfl) rfl rfl rfl ?_
      refine ops_nil ?_
      refine run_ret Tryd.func33 (res1 rfl rfl) ?_
      exact ⟨_, rfl, by rw [isWord, allB_false (i := k) (by omega) (by rw [Bool.and_eq_false_iff, decide_eq_false_iff_not, decide_eq_false_iff_not]; omega)]; rfl, rfl⟩
    ·
      refine ov (xmove rfl) rfl rfl rfl ?_
      refine ov (xmove rfl) rfl rfl rfl ?_
      refine ov (xmove rfl) rfl rfl rfl ?_
      refine ov (xindexS (i := k) Tryd.underlying9 rfl rfl rfl (by omega)) rfl rfl rfl ?_
      refine ov (xgtr rfl rfl _ rfl) rfl rfl rfl ?_
      refine ods (fun c18 => ?_) (fun c18 => ?_)
      ·
        refine ov (xpick_f rfl rfl) rfl rfl rfl ?_
        refine ops_nil ?_
        refine run_cond_t rfl ?_
        refine run_seq ?_
        refine run_region ?_
        refine ov (xassign rfl) rfl rfl rfl ?_
        refine ops_nil ?_
        refine run_ret Tryd.func33 (res1 rfl rfl) ?_
        exact ⟨_, rfl, by rw [isWord, allB_false (i := k) (by omega) (by rw [Bool.and_eq_false_iff, decide_eq_false_iff_not, decide_eq_false_iff_not]; omega)]; rfl, rfl⟩
      ·
        refine ov (xpick_f rfl rfl) rfl rfl rfl ?_
        refine ops_nil ?_
        refine run_cond_f rfl ?_
        refine run_skip ?_
        refine run_inBlock ?_
        refine run_region ?_
        refine ov (xmove rfl) rfl rfl rfl ?_
        refine ov (xadd rfl rfl (by unfold I64; omega)) rfl rfl rfl ?_
        refine ov (xassign rfl) rfl rfl rfl ?_
        refine ops_nil ?_
        refine run_sub ?_ (hback2 (k + 1) (⟨by omega, allB_succ ha (by simp only [Bool.and_eq_true, decide_eq_true_eq]; omega)⟩) (by first | omega | (dsimp only; omega)))
        exact ⟨rfl, rfl, trivial⟩
  ·
    refine ops_nil ?_
    refine run_cond_f rfl ?_
    refine run_exit rfl ?_
    refine run_seq ?_
    refine run_region ?_
    refine ov (xmove rfl) rfl rfl rfl ?_
    refine ov (xlens Tryd.underlying9 rfl) rfl rfl rfl ?_
    refine oc (xcall Tryd.call34 rfl) rfl rfl rfl (l01In_ok ((s.size : Int)) (1) (16) _) ?_
    rintro _ w_ ⟨rfl, hw_⟩
    replace hw_ := hw_.symm
    subst hw_
    refine ov (xassign rfl) rfl rfl rfl ?_
    refine ops_nil ?_
    refine run_ret Tryd.func33 (res1 rfl rfl) ?_
    obtain rfl : k = s.size := by omega
    exact ⟨_, rfl, by rw [isWord, ha]; rfl, rfl⟩
end Go.Proofs.YtnjohcbamblilaaDoor

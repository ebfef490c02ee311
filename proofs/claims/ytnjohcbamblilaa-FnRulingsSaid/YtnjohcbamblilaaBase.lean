/-
  Contracts of the small functions that all chapters share. No condition.
-/
import Derived.Test.YtnjohcbamblilaaGrow
import Derived.Test.YtnjohcbamblilaaProg
namespace Go.Proofs.Ytnjohcbamblilaa
open Go.RowKit
set_option linter.unusedVariables false
set_option linter.unusedSimpArgs false
set_option linter.unusedSectionVars false
set_option maxRecDepth 4000

theorem inf0 : Try.prog.info? 0 = some Try.t0 := by kernel_rfl
theorem inf1 : Try.prog.info? 1 = some Try.t1 := by kernel_rfl
theorem inf2 : Try.prog.info? 2 = some Try.t2 := by kernel_rfl
theorem inf3 : Try.prog.info? 3 = some Try.t3 := by kernel_rfl
theorem inf4 : Try.prog.info? 4 = some Try.t4 := by kernel_rfl
theorem inf5 : Try.prog.info? 5 = some Try.t5 := by kernel_rfl
theorem inf6 : Try.prog.info? 6 = some Try.t6 := by kernel_rfl
theorem inf7 : Try.prog.info? 7 = some Try.t7 := by kernel_rfl
theorem inf8 : Try.prog.info? 8 = some Try.t8 := by kernel_rfl
theorem inf9 : Try.prog.info? 9 = some Try.t9 := by kernel_rfl
theorem inf10 : Try.prog.info? 10 = some Try.t10 := by kernel_rfl
theorem inf11 : Try.prog.info? 11 = some Try.t11 := by kernel_rfl
theorem inf12 : Try.prog.info? 12 = some Try.t12 := by kernel_rfl
theorem inf13 : Try.prog.info? 13 = some Try.t13 := by kernel_rfl
theorem inf14 : Try.prog.info? 14 = some Try.t14 := by kernel_rfl
theorem inf15 : Try.prog.info? 15 = some Try.t15 := by kernel_rfl
theorem inf16 : Try.prog.info? 16 = some Try.t16 := by kernel_rfl
theorem inf17 : Try.prog.info? 17 = some Try.t17 := by kernel_rfl
theorem inf18 : Try.prog.info? 18 = some Try.t18 := by kernel_rfl
theorem inf19 : Try.prog.info? 19 = some Try.t19 := by kernel_rfl
theorem inf20 : Try.prog.info? 20 = some Try.t20 := by kernel_rfl
theorem inf21 : Try.prog.info? 21 = some Try.t21 := by kernel_rfl
theorem inf22 : Try.prog.info? 22 = some Try.t22 := by kernel_rfl
theorem inf23 : Try.prog.info? 23 = some Try.t23 := by kernel_rfl
theorem inf24 : Try.prog.info? 24 = some Try.t24 := by kernel_rfl
theorem inf25 : Try.prog.info? 25 = some Try.t25 := by kernel_rfl
theorem inf26 : Try.prog.info? 26 = some Try.t26 := by kernel_rfl
theorem inf27 : Try.prog.info? 27 = some Try.t27 := by kernel_rfl
theorem inf28 : Try.prog.info? 28 = some Try.t28 := by kernel_rfl
theorem inf29 : Try.prog.info? 29 = some Try.t29 := by kernel_rfl
theorem inf30 : Try.prog.info? 30 = some Try.t30 := by kernel_rfl
theorem inf31 : Try.prog.info? 31 = some Try.t31 := by kernel_rfl
theorem inf32 : Try.prog.info? 32 = some Try.t32 := by kernel_rfl
theorem inf33 : Try.prog.info? 33 = some Try.t33 := by kernel_rfl
theorem inf34 : Try.prog.info? 34 = some Try.t34 := by kernel_rfl
theorem inf35 : Try.prog.info? 35 = some Try.t35 := by kernel_rfl
theorem inf36 : Try.prog.info? 36 = some Try.t36 := by kernel_rfl
theorem inf37 : Try.prog.info? 37 = some Try.t37 := by kernel_rfl
theorem inf38 : Try.prog.info? 38 = some Try.t38 := by kernel_rfl
theorem inf39 : Try.prog.info? 39 = some Try.t39 := by kernel_rfl
theorem inf40 : Try.prog.info? 40 = some Try.t40 := by kernel_rfl
theorem inf41 : Try.prog.info? 41 = some Try.t41 := by kernel_rfl
theorem inf42 : Try.prog.info? 42 = some Try.t42 := by kernel_rfl
theorem inf43 : Try.prog.info? 43 = some Try.t43 := by kernel_rfl
theorem inf44 : Try.prog.info? 44 = some Try.t44 := by kernel_rfl
theorem inf45 : Try.prog.info? 45 = some Try.t45 := by kernel_rfl
theorem inf46 : Try.prog.info? 46 = some Try.t46 := by kernel_rfl
theorem inf47 : Try.prog.info? 47 = some Try.t47 := by kernel_rfl
theorem inf48 : Try.prog.info? 48 = some Try.t48 := by kernel_rfl
theorem inf49 : Try.prog.info? 49 = some Try.t49 := by kernel_rfl
theorem inf50 : Try.prog.info? 50 = some Try.t50 := by kernel_rfl
theorem inf51 : Try.prog.info? 51 = some Try.t51 := by kernel_rfl
theorem inf52 : Try.prog.info? 52 = some Try.t52 := by kernel_rfl
theorem inf53 : Try.prog.info? 53 = some Try.t53 := by kernel_rfl
theorem inf54 : Try.prog.info? 54 = some Try.t54 := by kernel_rfl
theorem inf55 : Try.prog.info? 55 = some Try.t55 := by kernel_rfl
theorem inf56 : Try.prog.info? 56 = some Try.t56 := by kernel_rfl
theorem inf57 : Try.prog.info? 57 = some Try.t57 := by kernel_rfl
theorem inf58 : Try.prog.info? 58 = some Try.t58 := by kernel_rfl
theorem inf59 : Try.prog.info? 59 = some Try.t59 := by kernel_rfl
theorem inf60 : Try.prog.info? 60 = some Try.t60 := by kernel_rfl
theorem inf61 : Try.prog.info? 61 = some Try.t61 := by kernel_rfl
theorem inf62 : Try.prog.info? 62 = some Try.t62 := by kernel_rfl
theorem inf63 : Try.prog.info? 63 = some Try.t63 := by kernel_rfl
theorem inf64 : Try.prog.info? 64 = some Try.t64 := by kernel_rfl
theorem inf65 : Try.prog.info? 65 = some Try.t65 := by kernel_rfl
theorem inf66 : Try.prog.info? 66 = some Try.t66 := by kernel_rfl
theorem inf67 : Try.prog.info? 67 = some Try.t67 := by kernel_rfl
theorem inf68 : Try.prog.info? 68 = some Try.t68 := by kernel_rfl
theorem inf69 : Try.prog.info? 69 = some Try.t69 := by kernel_rfl
theorem inf70 : Try.prog.info? 70 = some Try.t70 := by kernel_rfl
theorem inf71 : Try.prog.info? 71 = some Try.t71 := by kernel_rfl
theorem inf72 : Try.prog.info? 72 = some Try.t72 := by kernel_rfl
theorem inf73 : Try.prog.info? 73 = some Try.t73 := by kernel_rfl
theorem inf74 : Try.prog.info? 74 = some Try.t74 := by kernel_rfl
theorem inf75 : Try.prog.info? 75 = some Try.t75 := by kernel_rfl
theorem inf76 : Try.prog.info? 76 = some Try.t76 := by kernel_rfl
theorem inf77 : Try.prog.info? 77 = some Try.t77 := by kernel_rfl
theorem inf78 : Try.prog.info? 78 = some Try.t78 := by kernel_rfl
theorem inf79 : Try.prog.info? 79 = some Try.t79 := by kernel_rfl
theorem inf80 : Try.prog.info? 80 = some Try.t80 := by kernel_rfl
theorem inf81 : Try.prog.info? 81 = some Try.t81 := by kernel_rfl
theorem inf82 : Try.prog.info? 82 = some Try.t82 := by kernel_rfl
theorem inf83 : Try.prog.info? 83 = some Try.t83 := by kernel_rfl
theorem inf84 : Try.prog.info? 84 = some Try.t84 := by kernel_rfl
theorem inf85 : Try.prog.info? 85 = some Try.t85 := by kernel_rfl
theorem inf86 : Try.prog.info? 86 = some Try.t86 := by kernel_rfl
theorem inf87 : Try.prog.info? 87 = some Try.t87 := by kernel_rfl
theorem inf88 : Try.prog.info? 88 = some Try.t88 := by kernel_rfl
theorem inf89 : Try.prog.info? 89 = some Try.t89 := by kernel_rfl
theorem inf90 : Try.prog.info? 90 = some Try.t90 := by kernel_rfl
theorem inf91 : Try.prog.info? 91 = some Try.t91 := by kernel_rfl
theorem inf92 : Try.prog.info? 92 = some Try.t92 := by kernel_rfl
theorem inf93 : Try.prog.info? 93 = some Try.t93 := by kernel_rfl
theorem inf94 : Try.prog.info? 94 = some Try.t94 := by kernel_rfl
theorem inf95 : Try.prog.info? 95 = some Try.t95 := by kernel_rfl
theorem inf96 : Try.prog.info? 96 = some Try.t96 := by kernel_rfl
theorem inf97 : Try.prog.info? 97 = some Try.t97 := by kernel_rfl
theorem inf98 : Try.prog.info? 98 = some Try.t98 := by kernel_rfl
theorem inf99 : Try.prog.info? 99 = some Try.t99 := by kernel_rfl
theorem inf100 : Try.prog.info? 100 = some Try.t100 := by kernel_rfl
theorem inf101 : Try.prog.info? 101 = some Try.t101 := by kernel_rfl
theorem inf102 : Try.prog.info? 102 = some Try.t102 := by kernel_rfl
theorem inf103 : Try.prog.info? 103 = some Try.t103 := by kernel_rfl
theorem inf104 : Try.prog.info? 104 = some Try.t104 := by kernel_rfl
theorem inf105 : Try.prog.info? 105 = some Try.t105 := by kernel_rfl
theorem inf106 : Try.prog.info? 106 = some Try.t106 := by kernel_rfl
theorem inf107 : Try.prog.info? 107 = some Try.t107 := by kernel_rfl
theorem inf108 : Try.prog.info? 108 = some Try.t108 := by kernel_rfl
theorem inf109 : Try.prog.info? 109 = some Try.t109 := by kernel_rfl
theorem inf110 : Try.prog.info? 110 = some Try.t110 := by kernel_rfl
theorem inf111 : Try.prog.info? 111 = some Try.t111 := by kernel_rfl
theorem inf112 : Try.prog.info? 112 = some Try.t112 := by kernel_rfl
theorem inf113 : Try.prog.info? 113 = some Try.t113 := by kernel_rfl
theorem inf114 : Try.prog.info? 114 = some Try.t114 := by kernel_rfl
theorem inf115 : Try.prog.info? 115 = some Try.t115 := by kernel_rfl
theorem inf116 : Try.prog.info? 116 = some Try.t116 := by kernel_rfl
theorem inf117 : Try.prog.info? 117 = some Try.t117 := by kernel_rfl
theorem inf118 : Try.prog.info? 118 = some Try.t118 := by kernel_rfl
theorem inf119 : Try.prog.info? 119 = some Try.t119 := by kernel_rfl
theorem inf120 : Try.prog.info? 120 = some Try.t120 := by kernel_rfl
theorem inf121 : Try.prog.info? 121 = some Try.t121 := by kernel_rfl
theorem inf122 : Try.prog.info? 122 = some Try.t122 := by kernel_rfl
theorem inf123 : Try.prog.info? 123 = some Try.t123 := by kernel_rfl
theorem inf124 : Try.prog.info? 124 = some Try.t124 := by kernel_rfl
theorem inf125 : Try.prog.info? 125 = some Try.t125 := by kernel_rfl
theorem inf126 : Try.prog.info? 126 = some Try.t126 := by kernel_rfl
theorem inf127 : Try.prog.info? 127 = some Try.t127 := by kernel_rfl
theorem inf128 : Try.prog.info? 128 = some Try.t128 := by kernel_rfl
theorem inf129 : Try.prog.info? 129 = some Try.t129 := by kernel_rfl
theorem inf130 : Try.prog.info? 130 = some Try.t130 := by kernel_rfl
theorem inf131 : Try.prog.info? 131 = some Try.t131 := by kernel_rfl
theorem inf132 : Try.prog.info? 132 = some Try.t132 := by kernel_rfl
theorem inf133 : Try.prog.info? 133 = some Try.t133 := by kernel_rfl
theorem inf134 : Try.prog.info? 134 = some Try.t134 := by kernel_rfl
theorem inf135 : Try.prog.info? 135 = some Try.t135 := by kernel_rfl
theorem inf136 : Try.prog.info? 136 = some Try.t136 := by kernel_rfl
theorem inf137 : Try.prog.info? 137 = some Try.t137 := by kernel_rfl
theorem inf138 : Try.prog.info? 138 = some Try.t138 := by kernel_rfl
theorem inf139 : Try.prog.info? 139 = some Try.t139 := by kernel_rfl
theorem inf140 : Try.prog.info? 140 = some Try.t140 := by kernel_rfl
theorem inf141 : Try.prog.info? 141 = some Try.t141 := by kernel_rfl
theorem inf142 : Try.prog.info? 142 = some Try.t142 := by kernel_rfl
theorem inf143 : Try.prog.info? 143 = some Try.t143 := by kernel_rfl
theorem inf144 : Try.prog.info? 144 = some Try.t144 := by kernel_rfl
theorem inf145 : Try.prog.info? 145 = some Try.t145 := by kernel_rfl
theorem inf146 : Try.prog.info? 146 = some Try.t146 := by kernel_rfl
theorem inf147 : Try.prog.info? 147 = some Try.t147 := by kernel_rfl
theorem inf148 : Try.prog.info? 148 = some Try.t148 := by kernel_rfl
theorem inf149 : Try.prog.info? 149 = some Try.t149 := by kernel_rfl
theorem inf150 : Try.prog.info? 150 = some Try.t150 := by kernel_rfl
theorem inf151 : Try.prog.info? 151 = some Try.t151 := by kernel_rfl
theorem inf152 : Try.prog.info? 152 = some Try.t152 := by kernel_rfl
theorem inf153 : Try.prog.info? 153 = some Try.t153 := by kernel_rfl
theorem inf154 : Try.prog.info? 154 = some Try.t154 := by kernel_rfl
theorem inf155 : Try.prog.info? 155 = some Try.t155 := by kernel_rfl
theorem inf156 : Try.prog.info? 156 = some Try.t156 := by kernel_rfl
theorem inf157 : Try.prog.info? 157 = some Try.t157 := by kernel_rfl
theorem inf158 : Try.prog.info? 158 = some Try.t158 := by kernel_rfl
theorem inf159 : Try.prog.info? 159 = some Try.t159 := by kernel_rfl
theorem inf160 : Try.prog.info? 160 = some Try.t160 := by kernel_rfl
theorem inf161 : Try.prog.info? 161 = some Try.t161 := by kernel_rfl
theorem inf162 : Try.prog.info? 162 = some Try.t162 := by kernel_rfl
theorem inf163 : Try.prog.info? 163 = some Try.t163 := by kernel_rfl
theorem inf164 : Try.prog.info? 164 = some Try.t164 := by kernel_rfl
theorem inf165 : Try.prog.info? 165 = some Try.t165 := by kernel_rfl
theorem inf166 : Try.prog.info? 166 = some Try.t166 := by kernel_rfl
theorem inf167 : Try.prog.info? 167 = some Try.t167 := by kernel_rfl
theorem inf168 : Try.prog.info? 168 = some Try.t168 := by kernel_rfl
theorem inf169 : Try.prog.info? 169 = some Try.t169 := by kernel_rfl
theorem elem33 : ElemOk Try.prog 22 33 3 32 := ⟨Try.underlying22, ⟨_, _, inf33, rfl, rfl, rfl, rfl⟩, by decide⟩
theorem elem37 : ElemOk Try.prog 25 37 3 32 := ⟨Try.underlying25, ⟨_, _, inf37, rfl, rfl, rfl, rfl⟩, by decide⟩
theorem elem73 : ElemOk Try.prog 41 73 4 48 := ⟨Try.underlying41, ⟨_, _, inf73, rfl, rfl, rfl, rfl⟩, by decide⟩
theorem elem77 : ElemOk Try.prog 47 77 4 48 := ⟨Try.underlying47, ⟨_, _, inf77, rfl, rfl, rfl, rfl⟩, by decide⟩
theorem elem2 : ElemOk Try.prog 55 2 1 8 := ⟨Try.underlying55, ⟨_, _, inf2, rfl, rfl, rfl, rfl⟩, by decide⟩
theorem elem5 : ElemOk Try.prog 62 5 1 1 := ⟨Try.underlying62, ⟨_, _, inf5, rfl, rfl, rfl, rfl⟩, by decide⟩
theorem elem9 : ElemOk Try.prog 66 9 1 16 := ⟨Try.underlying66, ⟨_, _, inf9, rfl, rfl, rfl, rfl⟩, by decide⟩
theorem elem49 : ElemOk Try.prog 85 49 5 72 := ⟨Try.underlying85, ⟨_, _, inf49, rfl, rfl, rfl, rfl⟩, by decide⟩
theorem elem43 : ElemOk Try.prog 89 43 5 72 := ⟨Try.underlying89, ⟨_, _, inf43, rfl, rfl, rfl, rfl⟩, by decide⟩
theorem fo33f0 : fieldOk Try.prog 33 0 0 := ⟨_, _, Try.underlying33, rfl, rfl, Try.t2, by kernel_rfl, by decide⟩
theorem fo33f1 : fieldOk Try.prog 33 1 1 := ⟨_, _, Try.underlying33, rfl, rfl, Try.t9, by kernel_rfl, by decide⟩
theorem fo33f2 : fieldOk Try.prog 33 2 2 := ⟨_, _, Try.underlying33, rfl, rfl, Try.t2, by kernel_rfl, by decide⟩
theorem fo37f0 : fieldOk Try.prog 37 0 0 := ⟨_, _, Try.underlying37, rfl, rfl, Try.t2, by kernel_rfl, by decide⟩
theorem fo37f1 : fieldOk Try.prog 37 1 1 := ⟨_, _, Try.underlying37, rfl, rfl, Try.t9, by kernel_rfl, by decide⟩
theorem fo37f2 : fieldOk Try.prog 37 2 2 := ⟨_, _, Try.underlying37, rfl, rfl, Try.t2, by kernel_rfl, by decide⟩
theorem fo43f0 : fieldOk Try.prog 43 0 0 := ⟨_, _, Try.underlying43, rfl, rfl, Try.t9, by kernel_rfl, by decide⟩
theorem fo43f1 : fieldOk Try.prog 43 1 1 := ⟨_, _, Try.underlying43, rfl, rfl, Try.t9, by kernel_rfl, by decide⟩
theorem fo43f2 : fieldOk Try.prog 43 2 2 := ⟨_, _, Try.underlying43, rfl, rfl, Try.t2, by kernel_rfl, by decide⟩
theorem fo43f3 : fieldOk Try.prog 43 3 3 := ⟨_, _, Try.underlying43, rfl, rfl, Try.t2, by kernel_rfl, by decide⟩
theorem fo43f4 : fieldOk Try.prog 43 4 4 := ⟨_, _, Try.underlying43, rfl, rfl, Try.t41, by kernel_rfl, by decide⟩
theorem fo49f0 : fieldOk Try.prog 49 0 0 := ⟨_, _, Try.underlying49, rfl, rfl, Try.t9, by kernel_rfl, by decide⟩
theorem fo49f1 : fieldOk Try.prog 49 1 1 := ⟨_, _, Try.underlying49, rfl, rfl, Try.t9, by kernel_rfl, by decide⟩
theorem fo49f2 : fieldOk Try.prog 49 2 2 := ⟨_, _, Try.underlying49, rfl, rfl, Try.t2, by kernel_rfl, by decide⟩
theorem fo49f3 : fieldOk Try.prog 49 3 3 := ⟨_, _, Try.underlying49, rfl, rfl, Try.t2, by kernel_rfl, by decide⟩
theorem fo49f4 : fieldOk Try.prog 49 4 4 := ⟨_, _, Try.underlying49, rfl, rfl, Try.t47, by kernel_rfl, by decide⟩
theorem fo73f0 : fieldOk Try.prog 73 0 0 := ⟨_, _, Try.underlying73, rfl, rfl, Try.t2, by kernel_rfl, by decide⟩
theorem fo73f1 : fieldOk Try.prog 73 1 1 := ⟨_, _, Try.underlying73, rfl, rfl, Try.t9, by kernel_rfl, by decide⟩
theorem fo73f2 : fieldOk Try.prog 73 2 2 := ⟨_, _, Try.underlying73, rfl, rfl, Try.t9, by kernel_rfl, by decide⟩
theorem fo73f3 : fieldOk Try.prog 73 3 3 := ⟨_, _, Try.underlying73, rfl, rfl, Try.t2, by kernel_rfl, by decide⟩
theorem fo77f0 : fieldOk Try.prog 77 0 0 := ⟨_, _, Try.underlying77, rfl, rfl, Try.t2, by kernel_rfl, by decide⟩
theorem fo77f1 : fieldOk Try.prog 77 1 1 := ⟨_, _, Try.underlying77, rfl, rfl, Try.t9, by kernel_rfl, by decide⟩
theorem fo77f2 : fieldOk Try.prog 77 2 2 := ⟨_, _, Try.underlying77, rfl, rfl, Try.t9, by kernel_rfl, by decide⟩
theorem fo77f3 : fieldOk Try.prog 77 3 3 := ⟨_, _, Try.underlying77, rfl, rfl, Try.t2, by kernel_rfl, by decide⟩
theorem fo145f0 : fieldOk Try.prog 145 0 0 := ⟨_, _, Try.underlying145, rfl, rfl, Try.t62, by kernel_rfl, by decide⟩
theorem fo145f1 : fieldOk Try.prog 145 1 1 := ⟨_, _, Try.underlying145, rfl, rfl, Try.t3, by kernel_rfl, by decide⟩
theorem fo145f2 : fieldOk Try.prog 145 2 2 := ⟨_, _, Try.underlying145, rfl, rfl, Try.t110, by kernel_rfl, by decide⟩
theorem fo150f0 : fieldOk Try.prog 150 0 0 := ⟨_, _, Try.underlying150, rfl, rfl, Try.t62, by kernel_rfl, by decide⟩
theorem fo150f1 : fieldOk Try.prog 150 1 1 := ⟨_, _, Try.underlying150, rfl, rfl, Try.t3, by kernel_rfl, by decide⟩
theorem fo150f2 : fieldOk Try.prog 150 2 2 := ⟨_, _, Try.underlying150, rfl, rfl, Try.t2, by kernel_rfl, by decide⟩


def inR (lo hi n : Int) : Bool := decide (lo ≤ n) && decide (n ≤ hi)
theorem inR_iff {lo hi n : Int} : inR lo hi n = true ↔ lo ≤ n ∧ n ≤ hi := by simp [inR]
/-- p holds at every number below n -/
def allB (n : Nat) (p : Nat → Bool) : Bool := (List.range n).all p
theorem allB_iff {n : Nat} {p : Nat → Bool} : allB n p = true ↔ ∀ i, i < n → p i = true := by simp [allB]
theorem allB_succ {n : Nat} {p : Nat → Bool} (h : allB n p = true) (h1 : p n = true) : allB (n + 1) p = true := by
  rw [allB_iff] at *
  intro i hi
  rcases Nat.lt_succ_iff_lt_or_eq.1 hi with h2 | h2
  · exact h i h2
  · rw [h2]; exact h1
theorem allB_zero {p : Nat → Bool} : allB 0 p = true := rfl
theorem allB_false {n i : Nat} {p : Nat → Bool} (hi : i < n) (h : p i = false) : allB n p = false := by
  rw [Bool.eq_false_iff]
  intro hc
  rw [allB_iff] at hc
  rw [hc i hi] at h
  cases h
def sub1 (m : Nat) (l : Int) : Int := if l - m < 0 then -1 else l - m
def bnd (x : Int) (f : Int → Int) : Int := if x < 0 then -1 else f x
def goS {α : Type} (f : α → Int → Int) : List α → Int → Int
  | [], l => l
  | x :: r, l => if f x l < 0 then -1 else goS f r (f x l)
def szS {α : Type} (f : α → Int → Int) (xs : List α) (l : Int) : Int := if l - xs.length < 0 then -1 else goS f xs (l - xs.length)
/-- two lists are equal, element by element, as f says -/
def eqAt {α : Type} (f : α → α → Bool) (xs ys : List α) (i : Nat) : Bool := match xs[i]?, ys[i]? with
  | some x, some y => f x y
  | _, _ => false
theorem eqAt_of {α : Type} {f : α → α → Bool} {xs ys : List α} {i : Nat} (h1 : i < xs.length) (h2 : i < ys.length) : eqAt f xs ys i = f xs[i] ys[i] := by
  simp [eqAt, h1, h2]
def eqL {α : Type} (f : α → α → Bool) (xs ys : List α) : Bool := decide (xs.length = ys.length) && allB xs.length (fun i => eqAt f xs ys i)
theorem eqL_ne {α : Type} {f : α → α → Bool} {xs ys : List α} (h : xs.length ≠ ys.length) : eqL f xs ys = false := by simp [eqL, h]
theorem eqL_eq {α : Type} {f : α → α → Bool} {xs ys : List α} (h : xs.length = ys.length) (h2 : allB xs.length (fun i => eqAt f xs ys i) = true) : eqL f xs ys = true := by
  simp only [eqL, h2, Bool.and_true]; exact decide_eq_true h
theorem eqL_at {α : Type} {f : α → α → Bool} {xs ys : List α} {i : Nat} (h1 : i < xs.length) (h2 : i < ys.length) (h : f xs[i] ys[i] = false) : eqL f xs ys = false := by
  simp only [eqL, Bool.and_eq_false_iff]
  exact .inr (allB_false h1 (by rw [eqAt_of h1 h2]; exact h))
/-- p holds at every element, with its index -/
def allI {α : Type} (p : Nat → α → Bool) (xs : List α) (i : Nat) : Bool := match xs[i]? with
  | some x => p i x
  | none => false
theorem allI_of {α : Type} {p : Nat → α → Bool} {xs : List α} {i : Nat} (h : i < xs.length) : allI p xs i = p i xs[i] := by simp [allI, h]
def isWord (s : ByteArray) : Bool := allB s.size (fun i => decide (97 ≤ bAt s i) && decide (bAt s i ≤ 122)) && inR 1 16 s.size


set_option maxHeartbeats 400000 in
theorem within_ok (n lo hi : Int) (w : World) : Ret Try.prog 136 [.int .i64 n, .int .i64 lo, .int .i64 hi] w (Ps w (.bool (inR lo hi n))) := by
  refine ret_of_run (N := 15) Try.func136 rfl rfl rfl ?_
  have E : Ext w w := Ext.refl w
  refine run_seq ?_
  refine run_region ?_
  refine ov (xassign rfl) rfl rfl rfl ?_
  refine ops_nil ?_
  refine run_seq ?_
  refine run_region ?_
  refine ov (xmove rfl) rfl rfl rfl ?_
  refine ov (xmove rfl) rfl rfl rfl ?_
  refine ov (xleq rfl rfl _ rfl) rfl rfl rfl ?_
  refine ods (fun c9 => ?_) (fun c9 => ?_)
  ·
    refine ov (xmove rfl) rfl rfl rfl ?_
    refine ov (xmove rfl) rfl rfl rfl ?_
    refine ov (xmove rfl) rfl rfl rfl ?_
    refine ov (xleq rfl rfl _ rfl) rfl rfl rfl ?_
    refine ov (xpick_t rfl rfl) rfl rfl rfl ?_
    refine ov (xassign rfl) rfl rfl rfl ?_
    refine ops_nil ?_
    refine run_ret Try.func136 (res1 rfl rfl) ?_
    exact ⟨_, rfl, by simp [inR, c9], rfl⟩
  ·
    refine ov (xmove rfl) rfl rfl rfl ?_
    refine og rfl rfl rfl ?_
    refine og rfl rfl rfl ?_
    refine og rfl rfl rfl ?_
    refine ov (xpick_f rfl rfl) rfl rfl rfl ?_
    refine ov (xassign rfl) rfl rfl rfl ?_
    refine ops_nil ?_
    refine run_ret Try.func136 (res1 rfl rfl) ?_
    exact ⟨_, rfl, by simp [inR, c9], rfl⟩

set_option maxHeartbeats 400000 in
theorem l01In_ok (n lo hi : Int) (w : World) : Ret Try.prog 135 [.int .i64 n, .int .i64 lo, .int .i64 hi] w (Ps w (.bool (inR lo hi n))) := by
  refine ret_of_run (N := 15) Try.func135 rfl rfl rfl ?_
  have E : Ext w w := Ext.refl w
  refine run_seq ?_
  refine run_region ?_
  refine ov (xassign rfl) rfl rfl rfl ?_
  refine ops_nil ?_
  refine run_seq ?_
  refine run_region ?_
  refine ov (xmove rfl) rfl rfl rfl ?_
  refine ov (xmove rfl) rfl rfl rfl ?_
  refine ov (xgeq rfl rfl _ rfl) rfl rfl rfl ?_
  refine ods (fun c9 => ?_) (fun c9 => ?_)
  ·
    refine ov (xmove rfl) rfl rfl rfl ?_
    refine ov (xmove rfl) rfl rfl rfl ?_
    refine ov (xmove rfl) rfl rfl rfl ?_
    refine ov (xleq rfl rfl _ rfl) rfl rfl rfl ?_
    refine ov (xpick_t rfl rfl) rfl rfl rfl ?_
    refine ov (xassign rfl) rfl rfl rfl ?_
    refine ops_nil ?_
    refine run_ret Try.func135 (res1 rfl rfl) ?_
    exact ⟨_, rfl, by simp [inR, c9], rfl⟩
  ·
    refine ov (xmove rfl) rfl rfl rfl ?_
    refine og rfl rfl rfl ?_
    refine og rfl rfl rfl ?_
    refine og rfl rfl rfl ?_
    refine ov (xpick_f rfl rfl) rfl rfl rfl ?_
    refine ov (xassign rfl) rfl rfl rfl ?_
    refine ops_nil ?_
    refine run_ret Try.func135 (res1 rfl rfl) ?_
    exact ⟨_, rfl, by simp [inR, c9], rfl⟩

set_option maxHeartbeats 400000 in
theorem isDay_ok (n : Int) (w : World) : Ret Try.prog 96 [.int .i64 n] w (Ps w (.bool (inR 0 20000 n))) := by
  refine ret_of_run (N := 5) Try.func96 rfl rfl rfl ?_
  have E : Ext w w := Ext.refl w
  refine run_seq ?_
  refine run_region ?_
  refine ov (xassign rfl) rfl rfl rfl ?_
  refine ops_nil ?_
  refine run_seq ?_
  refine run_region ?_
  refine ov (xmove rfl) rfl rfl rfl ?_
  refine oc (xcall Try.call136 rfl) rfl rfl rfl (within_ok (n) (0) (20000) _) ?_
  rintro _ w_ ⟨rfl, hw_⟩
  replace hw_ := hw_.symm
  subst hw_
  refine ov (xassign rfl) rfl rfl rfl ?_
  refine ops_nil ?_
  refine run_ret Try.func96 (res1 rfl rfl) ?_
  exact ⟨_, rfl, rfl, rfl⟩

set_option maxHeartbeats 400000 in
theorem l02Is_ok (n : Int) (w : World) : Ret Try.prog 93 [.int .i64 n] w (Ps w (.bool (inR 0 20000 n))) := by
  refine ret_of_run (N := 5) Try.func93 rfl rfl rfl ?_
  have E : Ext w w := Ext.refl w
  refine run_seq ?_
  refine run_region ?_
  refine ov (xassign rfl) rfl rfl rfl ?_
  refine ops_nil ?_
  refine run_seq ?_
  refine run_region ?_
  refine ov (xmove rfl) rfl rfl rfl ?_
  refine oc (xcall Try.call135 rfl) rfl rfl rfl (l01In_ok (n) (0) (20000) _) ?_
  rintro _ w_ ⟨rfl, hw_⟩
  replace hw_ := hw_.symm
  subst hw_
  refine ov (xassign rfl) rfl rfl rfl ?_
  refine ops_nil ?_
  refine run_ret Try.func93 (res1 rfl rfl) ?_
  exact ⟨_, rfl, rfl, rfl⟩

set_option maxHeartbeats 400000 in
theorem few_ok (n m : Int) (w : World) : Ret Try.prog 90 [.int .i64 n, .int .i64 m] w (Ps w (.bool (decide (n ≤ m)))) := by
  refine ret_of_run (N := 8) Try.func90 rfl rfl rfl ?_
  have E : Ext w w := Ext.refl w
  refine run_seq ?_
  refine run_region ?_
  refine ov (xassign rfl) rfl rfl rfl ?_
  refine ops_nil ?_
  refine run_seq ?_
  refine run_region ?_
  refine ov (xmove rfl) rfl rfl rfl ?_
  refine ov (xmove rfl) rfl rfl rfl ?_
  refine ov (xleq rfl rfl _ rfl) rfl rfl rfl ?_
  refine ov (xassign rfl) rfl rfl rfl ?_
  refine ops_nil ?_
  refine run_ret Try.func90 (res1 rfl rfl) ?_
  exact ⟨_, rfl, rfl, rfl⟩

set_option maxHeartbeats 400000 in
theorem isNumber_ok (n : Int) (w : World) : Ret Try.prog 124 [.int .i64 n] w (Ps w (.bool (inR 1 1000000 n))) := by
  refine ret_of_run (N := 5) Try.func124 rfl rfl rfl ?_
  have E : Ext w w := Ext.refl w
  refine run_seq ?_
  refine run_region ?_
  refine ov (xassign rfl) rfl rfl rfl ?_
  refine ops_nil ?_
  refine run_seq ?_
  refine run_region ?_
  refine ov (xmove rfl) rfl rfl rfl ?_
  refine oc (xcall Try.call136 rfl) rfl rfl rfl (within_ok (n) (1) (1000000) _) ?_
  rintro _ w_ ⟨rfl, hw_⟩
  replace hw_ := hw_.symm
  subst hw_
  refine ov (xassign rfl) rfl rfl rfl ?_
  refine ops_nil ?_
  refine run_ret Try.func124 (res1 rfl rfl) ?_
  exact ⟨_, rfl, rfl, rfl⟩

set_option maxHeartbeats 400000 in
theorem IsWord_ok (s : ByteArray) (w : World) (hs : s.size ≤ 9223372036854775807) : Ret Try.prog 95 [.string s] w (Ps w (.bool (isWord s))) := by
  refine ret_of_run (N := 23) Try.func95 rfl rfl rfl ?_
  have E : Ext w w := Ext.refl w
  refine run_seq ?_
  refine run_region ?_
  refine ov (xassign rfl) rfl rfl rfl ?_
  refine ops_nil ?_
  refine run_seq ?_
  refine run_seq ?_
  refine run_region ?_
  refine ov (xassign rfl) rfl rfl rfl ?_
  refine ops_nil ?_
  refine run_block ?_
  refine run_loop (ι := Nat) (fun k => (k ≤ s.size) ∧ (allB k (fun i => decide (97 ≤ bAt s i) && decide (bAt s i ≤ 122)) = true)) (fun k => [(0, .string s), (3, .int .i64 (k : Int))]) (fun k => w) (fun k => s.size - k) ?_ 0 (⟨by omega, allB_zero⟩) ⟨rfl, rfl, trivial⟩ rfl
  intro k hI_ hback2
  obtain ⟨hk, ha⟩ := hI_
  try dsimp only
  have hb := bAt_lt s k
  refine run_seq ?_
  refine run_seq ?_
  refine run_region ?_
  refine ov (xmove rfl) rfl rfl rfl ?_
  refine ov (xmove rfl) rfl rfl rfl ?_
  refine ov (xlens Try.underlying9 rfl) rfl rfl rfl ?_
  refine ov (xlss rfl rfl _ rfl) rfl rfl rfl ?_
  refine ods (fun c7 => ?_) (fun c7 => ?_)
  ·
    refine ops_nil ?_
    refine run_cond_t rfl ?_
    refine run_skip ?_
    refine run_seq ?_
    refine run_block ?_
    refine run_seq ?_
    refine run_region ?_
    refine ov (xmove rfl) rfl rfl rfl ?_
    refine ov (xmove rfl) rfl rfl rfl ?_
    refine ov (xindexS (i := k) Try.underlying9 rfl rfl rfl (by omega)) rfl rfl rfl ?_
    refine ov (xlss rfl rfl _ rfl) rfl rfl rfl ?_
    refine ods (fun c13 => ?_) (fun c13 => ?_)
    ·
      refine ov (xmove rfl) rfl rfl rfl ?_
      refine og rfl rfl rfl ?_
      refine og rfl rfl rfl ?_
      refine og rfl rfl rfl ?_
      refine og rfl rfl rfl ?_
      refine ov (xpick_t rfl rfl) rfl rfl rfl ?_
      refine ops_nil ?_
      refine run_cond_t rfl ?_
      refine run_seq ?_
      refine run_region ?_
      refine ov (xassign rfl) rfl rfl rfl ?_
      refine ops_nil ?_
      refine run_ret Try.func95 (res1 rfl rfl) ?_
      exact ⟨_, rfl, by rw [isWord, allB_false (i := k) (by omega) (by rw [Bool.and_eq_false_iff, decide_eq_false_iff_not, decide_eq_false_iff_not]; omega)]; rfl, rfl⟩
    ·
      refine ov (xmove rfl) rfl rfl rfl ?_
      refine ov (xmove rfl) rfl rfl rfl ?_
      refine ov (xmove rfl) rfl rfl rfl ?_
      refine ov (xindexS (i := k) Try.underlying9 rfl rfl rfl (by omega)) rfl rfl rfl ?_
      refine ov (xgtr rfl rfl _ rfl) rfl rfl rfl ?_
      refine ods (fun c18 => ?_) (fun c18 => ?_)
      ·
        refine ov (xpick_f rfl rfl) rfl rfl rfl ?_
        refine ops_nil ?_
        refine run_cond_t rfl ?_
        refine run_seq ?_
        refine run_region ?_
        refine ov (xassign rfl) rfl rfl rfl ?_
        refine ops_nil ?_
        refine run_ret Try.func95 (res1 rfl rfl) ?_
        exact ⟨_, rfl, by rw [isWord, allB_false (i := k) (by omega) (by rw [Bool.and_eq_false_iff, decide_eq_false_iff_not, decide_eq_false_iff_not]; omega)]; rfl, rfl⟩
      ·
        refine ov (xpick_f rfl rfl) rfl rfl rfl ?_
        refine ops_nil ?_
        refine run_cond_f rfl ?_
        refine run_skip ?_
        refine run_inBlock ?_
        refine run_region ?_
        refine ov (xmove rfl) rfl rfl rfl ?_
        refine ov (xadd rfl rfl (by unfold I64; omega)) rfl rfl rfl ?_
        refine ov (xassign rfl) rfl rfl rfl ?_
        refine ops_nil ?_
        refine run_sub ?_ (hback2 (k + 1) (⟨by omega, allB_succ ha (by simp only [Bool.and_eq_true, decide_eq_true_eq]; omega)⟩) (by first | omega | (dsimp only; omega)))
        exact ⟨rfl, rfl, trivial⟩
  ·
    refine ops_nil ?_
    refine run_cond_f rfl ?_
    refine run_exit rfl ?_
    refine run_seq ?_
    refine run_region ?_
    refine ov (xmove rfl) rfl rfl rfl ?_
    refine ov (xlens Try.underlying9 rfl) rfl rfl rfl ?_
    refine oc (xcall Try.call136 rfl) rfl rfl rfl (within_ok ((s.size : Int)) (1) (16) _) ?_
    rintro _ w_ ⟨rfl, hw_⟩
    replace hw_ := hw_.symm
    subst hw_
    refine ov (xassign rfl) rfl rfl rfl ?_
    refine ops_nil ?_
    refine run_ret Try.func95 (res1 rfl rfl) ?_
    obtain rfl : k = s.size := by omega
    exact ⟨_, rfl, by rw [isWord, ha]; rfl, rfl⟩

set_option maxHeartbeats 400000 in
theorem sIsWord_ok (s : ByteArray) (w : World) (hs : s.size ≤ 9223372036854775807) : Ret Try.prog 92 [.string s] w (Ps w (.bool (isWord s))) := by
  refine ret_of_run (N := 23) Try.func92 rfl rfl rfl ?_
  have E : Ext w w := Ext.refl w
  refine run_seq ?_
  refine run_region ?_
  refine ov (xassign rfl) rfl rfl rfl ?_
  refine ops_nil ?_
  refine run_seq ?_
  refine run_seq ?_
  refine run_region ?_
  refine ov (xassign rfl) rfl rfl rfl ?_
  refine ops_nil ?_
  refine run_block ?_
  refine run_loop (ι := Nat) (fun k => (k ≤ s.size) ∧ (allB k (fun i => decide (97 ≤ bAt s i) && decide (bAt s i ≤ 122)) = true)) (fun k => [(0, .string s), (3, .int .i64 (k : Int))]) (fun k => w) (fun k => s.size - k) ?_ 0 (⟨by omega, allB_zero⟩) ⟨rfl, rfl, trivial⟩ rfl
  intro k hI_ hback2
  obtain ⟨hk, ha⟩ := hI_
  try dsimp only
  have hb := bAt_lt s k
  refine run_seq ?_
  refine run_seq ?_
  refine run_region ?_
  refine ov (xmove rfl) rfl rfl rfl ?_
  refine ov (xmove rfl) rfl rfl rfl ?_
  refine ov (xlens Try.underlying9 rfl) rfl rfl rfl ?_
  refine ov (xlss rfl rfl _ rfl) rfl rfl rfl ?_
  refine ods (fun c7 => ?_) (fun c7 => ?_)
  ·
    refine ops_nil ?_
    refine run_cond_t rfl ?_
    refine run_skip ?_
    refine run_seq ?_
    refine run_block ?_
    refine run_seq ?_
    refine run_region ?_
    refine ov (xmove rfl) rfl rfl rfl ?_
    refine ov (xmove rfl) rfl rfl rfl ?_
    refine ov (xindexS (i := k) Try.underlying9 rfl rfl rfl (by omega)) rfl rfl rfl ?_
    refine ov (xlss rfl rfl _ rfl) rfl rfl rfl ?_
    refine ods (fun c13 => ?_) (fun c13 => ?_)
    ·
      refine ov (xmove rfl) rfl rfl rfl ?_
      refine og rfl rfl rfl ?_
      refine og rfl rfl rfl ?_
      refine og rfl rfl rfl ?_
      refine og rfl rfl rfl ?_
      refine ov (xpick_t rfl rfl) rfl rfl rfl ?_
      refine ops_nil ?_
      refine run_cond_t rfl ?_
      refine run_seq ?_
      refine run_region ?_
      refine ov (xassign rfl) rfl rfl rfl ?_
      refine ops_nil ?_
      refine run_ret Try.func92 (res1 rfl rfl) ?_
      exact ⟨_, rfl, by rw [isWord, allB_false (i := k) (by omega) (by rw [Bool.and_eq_false_iff, decide_eq_false_iff_not, decide_eq_false_iff_not]; omega)]; rfl, rfl⟩
    ·
      refine ov (xmove rfl) rfl rfl rfl ?_
      refine ov (xmove rfl) rfl rfl rfl ?_
      refine ov (xmove rfl) rfl rfl rfl ?_
      refine ov (xindexS (i := k) Try.underlying9 rfl rfl rfl (by omega)) rfl rfl rfl ?_
      refine ov (xgtr rfl rfl _ rfl) rfl rfl rfl ?_
      refine ods (fun c18 => ?_) (fun c18 => ?_)
      ·
        refine ov (xpick_f rfl rfl) rfl rfl rfl ?_
        refine ops_nil ?_
        refine run_cond_t rfl ?_
        refine run_seq ?_
        refine run_region ?_
        refine ov (xassign rfl) rfl rfl rfl ?_
        refine ops_nil ?_
        refine run_ret Try.func92 (res1 rfl rfl) ?_
        exact ⟨_, rfl, by rw [isWord, allB_false (i := k) (by omega) (by rw [Bool.and_eq_false_iff, decide_eq_false_iff_not, decide_eq_false_iff_not]; omega)]; rfl, rfl⟩
      ·
        refine ov (xpick_f rfl rfl) rfl rfl rfl ?_
        refine ops_nil ?_
        refine run_cond_f rfl ?_
        refine run_skip ?_
        refine run_inBlock ?_
        refine run_region ?_
        refine ov (xmove rfl) rfl rfl rfl ?_
        refine ov (xadd rfl rfl (by unfold I64; omega)) rfl rfl rfl ?_
        refine ov (xassign rfl) rfl rfl rfl ?_
        refine ops_nil ?_
        refine run_sub ?_ (hback2 (k + 1) (⟨by omega, allB_succ ha (by simp only [Bool.and_eq_true, decide_eq_true_eq]; omega)⟩) (by first | omega | (dsimp only; omega)))
        exact ⟨rfl, rfl, trivial⟩
  ·
    refine ops_nil ?_
    refine run_cond_f rfl ?_
    refine run_exit rfl ?_
    refine run_seq ?_
    refine run_region ?_
    refine ov (xmove rfl) rfl rfl rfl ?_
    refine ov (xlens Try.underlying9 rfl) rfl rfl rfl ?_
    refine oc (xcall Try.call135 rfl) rfl rfl rfl (l01In_ok ((s.size : Int)) (1) (16) _) ?_
    rintro _ w_ ⟨rfl, hw_⟩
    replace hw_ := hw_.symm
    subst hw_
    refine ov (xassign rfl) rfl rfl rfl ?_
    refine ops_nil ?_
    refine run_ret Try.func92 (res1 rfl rfl) ?_
    obtain rfl : k = s.size := by omega
    exact ⟨_, rfl, by rw [isWord, ha]; rfl, rfl⟩
end Go.Proofs.Ytnjohcbamblilaa

/-
  The verdicts of a sorted slice, by the contract of the library. No condition beyond those written in each theorem.
-/
import Derived.Test.YtinpkihmkfiidaaSortI
import Derived.Ground.SlgfProg
import Derived.Shelf.SlicesE.DeleteFunc
namespace Go.Proofs.Ytinpkihmkfiidaa
open Go.RowKit Go.Shelf
set_option linter.unusedVariables false
set_option linter.unusedSimpArgs false
set_option linter.unusedSectionVars false
set_option maxRecDepth 4000

end Go.Proofs.Ytinpkihmkfiidaa
namespace Go.Proofs
open Go.Shelf
def Try.laysD_ren : Go.Shelf.Ren := ⟨fun | 10 => 133 | 6 => 144 | n => n, fun | 22 => 31 | 23 => 2 | 25 => 87 | 3 => 3 | 4 => 4 | 0 => 0 | n => n, fun | n => n⟩
theorem Try.laysD : Go.Proofs.SlLaysH.n10 Try.prog Try.laysD_ren := {
  mixed := by kernel_rfl
  f6 := ⟨Try.f144.name, by decide, Try.func144.trans (congrArg some (by kernel_rfl))⟩
  f10 := ⟨Try.f133.name, by decide, Try.func133.trans (congrArg some (by kernel_rfl))⟩
  t0 := Try.underlying0
  a0 := Try.isAgg0
  z0 := Try.sizeOf0
  v0 := Try.zeroValue0
  t3 := Try.underlying3
  a3 := Try.isAgg3
  z3 := Try.sizeOf3
  v3 := Try.zeroValue3
  t4 := Try.underlying4
  a4 := Try.isAgg4
  z4 := Try.sizeOf4
  v4 := Try.zeroValue4
  t22 := Try.underlying31
  a22 := Try.isAgg31
  z22 := Try.sizeOf31
  v22 := Try.zeroValue31
  a23 := Try.isAgg2
  z23 := Try.sizeOf2
  t25 := Try.underlying87
  a25 := Try.isAgg87
  z25 := Try.sizeOf87
  v25 := Try.zeroValue87 }
end Go.Proofs
namespace Go.Proofs.Ytinpkihmkfiidaa

set_option maxHeartbeats 400000 in
theorem VerdictsOf1_ok (x : Int) (w : World) : Ret Try.prog 134 [.int .i64 x] w (Ps w (.bool (decide (0 ≤ x)))) := by
  refine ret_of_run (N := 5) Try.func134 rfl rfl rfl ?_
  have E : Ext w w := Ext.refl w
  refine run_seq ?_
  refine run_region ?_
  refine ov (xassign rfl) rfl rfl rfl ?_
  refine ops_nil ?_
  refine run_seq ?_
  refine run_region ?_
  refine ov (xmove rfl) rfl rfl rfl ?_
  refine ov (xgeq rfl rfl _ rfl) rfl rfl rfl ?_
  refine ov (xassign rfl) rfl rfl rfl ?_
  refine ops_nil ?_
  refine run_ret Try.func134 (res1 rfl rfl) ?_
  exact ⟨_, rfl, rfl, rfl⟩

theorem negs_eq (xs : List Int) : (xs.filter fun x => !decide (0 ≤ x)) = negs xs := by
  unfold negs; congr 1; funext x; by_cases h : 0 ≤ x <;> simp [h] <;> omega
theorem gives1 (x : Int) (W : World) : FnGives Try.prog 134 #[] #[.int .i64 x] (.bool (decide (0 ≤ x))) W := by
  refine Calls.mono (VerdictsOf1_ok x W) fun e w' he => ?_
  obtain ⟨v, he, hv, hw⟩ := he
  subst hv; subst hw
  exact ⟨he, 0, rfl⟩
theorem delete_ok (p : Option Addr) (n c : Nat) (xs : List Int) (lo hi : Nat) (w : World) (G : Ow i64c 1 2 w lo hi p n c xs) (h0 : 0 < n) (h1 : n ≤ 1000000000) :
    Ret Try.prog 133 [.slice p n c, .func (.func 134) #[] #[]] w (fun v w' => ∃ m, v = .slice p m c ∧ m ≤ n ∧ Mk lo hi w w' ∧ Ow i64c 1 2 w' lo hi p m c (negs xs)) := by
  have hl := G.len; have hc := G.cap
  rcases G.row with ⟨_, h2⟩ | ⟨b, s, rfl, h3, h4, h5, h6⟩
  · omega
  · have key := AnyE.slices_DeleteFunc Try.laysD (Value.int .i64) (fun _ => rfl) (fun x => decide (0 ≤ x)) 134 #[] Try.call134 0 Try.zeroValue2 b 0 c xs.toArray w
      (fun W x _ => gives1 x W) (fun _ _ _ x _ => gives1 x _) (own_holds h5) (by simp; omega) (by simp; omega)
    simp only [negs_eq, List.size_toArray] at key
    rw [← hl] at key
    have hle : (negs xs).length ≤ xs.length := List.length_filter_le _ _
    refine Calls.mono key fun e w' he => ?_
    obtain ⟨he, q, rfl⟩ := he
    obtain ⟨k1, k2⟩ := put_own h5 (ys := negs xs ++ List.replicate (n - (negs xs).length) 0) (by simp; omega) q #[]
    rw [Sort.grow_empty] at k1 k2
    refine ⟨_, he, _, rfl, by omega, k2.wide h3 (by omega), ⟨rfl, by omega, G.big, .inr ⟨b, ((List.replicate (n - (negs xs).length) (0 : Int)).map i64c).flatten ++ s, rfl, h3, h4, ?_, ?_⟩, fun _ _ => rfl⟩⟩
    · rw [List.map_append, List.flatten_append, List.append_assoc] at k1; exact k1
    · rw [flat_i64]; simp; omega
end Go.Proofs.Ytinpkihmkfiidaa

/-
  What the reading of roles and files gives. No condition beyond those written in each theorem.
-/
import Derived.Test.YtbihpggbabmebaaRolF
import Derived.Test.YtbihpggbabmebaaNestClose
import Derived.Test.YtbihpggbabmebaaClose
import Derived.Test.YtbihpggbabmebaaRows
import Derived.Test.YtbihpggbabmebaaPrimRead
namespace Go.Proofs.Ytbihpggbabmebaa
open Go.RowKit
set_option linter.unusedVariables false
set_option linter.unusedSimpArgs false
set_option linter.unusedSectionVars false
set_option maxRecDepth 4000


theorem open_Role {H : Type} {enc : TypeId × Value → H} {w : World} {base : Nat} {spare : Nat → Bool} {held : Bool} {fuel : Nat} {cs : List Value} {x : DataW H × List MemPlace}
    (h : DataW.trod enc Try.prog w base spare held fuel 73 cs = some x) : ∃ (r : Role), r.ok ∧ ∃ p_Groups n_Groups c_Groups, cs = [.string r.Name, .int .i64 r.Level, .slice p_Groups n_Groups c_Groups] ∧ Sl strc 1 w p_Groups n_Groups c_Groups r.Groups := by
  obtain ⟨xs, m, _, _, hl, hn, hel⟩ := DataW.trod_struct Try.underlying73 h
  have hl' : cs.length = 3 := by rw [hl]; kernel_rfl
  match cs, hl' with
  | [c0, c1, c2], _ => ?_
  have g0 := hel 0 _ rfl
  obtain ⟨y0, hy0⟩ : ∃ y, xs[0]? = some y := ⟨_, List.getElem?_eq_getElem (by rw [hn]; decide)⟩
  rw [hy0] at g0
  obtain ⟨x0, e0, o0⟩ := reads_string Try.underlying9 g0
  have g1 := hel 1 _ rfl
  obtain ⟨y1, hy1⟩ : ∃ y, xs[1]? = some y := ⟨_, List.getElem?_eq_getElem (by rw [hn]; decide)⟩
  rw [hy1] at g1
  obtain ⟨x1, e1, o1⟩ := reads_int Try.underlying2 g1
  have g2 := hel 2 _ rfl
  obtain ⟨y2, hy2⟩ : ∃ y, xs[2]? = some y := ⟨_, List.getElem?_eq_getElem (by rw [hn]; decide)⟩
  rw [hy2] at g2
  obtain ⟨p2, n2, k2, x2, e2, H2, o2⟩ := sl_of_trod (sz := 1) Try.underlying49 (by kernel_rfl) (by decide) reads_str g2
  simp [Program.cellsOf, inf2, Try.t2, inf49, Try.t49, inf9, Try.t9] at e0 e1 e2
  exact ⟨⟨x0, x1, x2⟩, ⟨o0, o1, o2⟩, p2, n2, k2, by simp [e0, e1, e2], H2⟩


instance : Inhabited Role := ⟨⟨⟨#[]⟩, 0, []⟩⟩
theorem reads_RoleS : ReadsN Try.prog 73 cellsRoleS innRoleS strc 1 (fun x => x.ok) := fun h => by
  obtain ⟨r, hr, p, n, c, e, H⟩ := open_Role h
  exact ⟨r, ⟨p, n, c⟩, e, H, hr⟩


theorem open_File {H : Type} {enc : TypeId × Value → H} {w : World} {base : Nat} {spare : Nat → Bool} {held : Bool} {fuel : Nat} {cs : List Value} {x : DataW H × List MemPlace}
    (h : DataW.trod enc Try.prog w base spare held fuel 83 cs = some x) : ∃ (r : File), r.ok ∧ ∃ p_Groups n_Groups c_Groups, cs = [.string r.Code, .int .i64 r.Level, .slice p_Groups n_Groups c_Groups, .int .i64 r.Until] ∧ Sl strc 1 w p_Groups n_Groups c_Groups r.Groups := by
  obtain ⟨xs, m, _, _, hl, hn, hel⟩ := DataW.trod_struct Try.underlying83 h
  have hl' : cs.length = 4 := by rw [hl]; kernel_rfl
  match cs, hl' with
  | [c0, c1, c2, c3], _ => ?_
  have g0 := hel 0 _ rfl
  obtain ⟨y0, hy0⟩ : ∃ y, xs[0]? = some y := ⟨_, List.getElem?_eq_getElem (by rw [hn]; decide)⟩
  rw [hy0] at g0
  obtain ⟨x0, e0, o0⟩ := reads_string Try.underlying9 g0
  have g1 := hel 1 _ rfl
  obtain ⟨y1, hy1⟩ : ∃ y, xs[1]? = some y := ⟨_, List.getElem?_eq_getElem (by rw [hn]; decide)⟩
  rw [hy1] at g1
  obtain ⟨x1, e1, o1⟩ := reads_int Try.underlying2 g1
  have g2 := hel 2 _ rfl
  obtain ⟨y2, hy2⟩ : ∃ y, xs[2]? = some y := ⟨_, List.getElem?_eq_getElem (by rw [hn]; decide)⟩
  rw [hy2] at g2
  obtain ⟨p2, n2, k2, x2, e2, H2, o2⟩ := sl_of_trod (sz := 1) Try.underlying49 (by kernel_rfl) (by decide) reads_str g2
  have g3 := hel 3 _ rfl
  obtain ⟨y3, hy3⟩ : ∃ y, xs[3]? = some y := ⟨_, List.getElem?_eq_getElem (by rw [hn]; decide)⟩
  rw [hy3] at g3
  obtain ⟨x3, e3, o3⟩ := reads_int Try.underlying2 g3
  simp [Program.cellsOf, inf2, Try.t2, inf49, Try.t49, inf9, Try.t9] at e0 e1 e2 e3
  exact ⟨⟨x0, x1, x2, x3⟩, ⟨o0, o1, o2, o3⟩, p2, n2, k2, by simp [e0, e1, e2, e3], H2⟩


instance : Inhabited File := ⟨⟨⟨#[]⟩, 0, [], 0⟩⟩
theorem reads_FileS : ReadsN Try.prog 83 cellsFileS innFileS strc 1 (fun x => x.ok) := fun h => by
  obtain ⟨r, hr, p, n, c, e, H⟩ := open_File h
  exact ⟨r, ⟨p, n, c⟩, e, H, hr⟩
end Go.Proofs.Ytbihpggbabmebaa

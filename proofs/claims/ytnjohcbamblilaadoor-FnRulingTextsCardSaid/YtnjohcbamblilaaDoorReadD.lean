/-
  strings.Split and strconv.ParseInt by their contracts; what a ruling's text tells. No condition beyond those written in each theorem.
-/
import Derived.Test.YtnjohcbamblilaaDoorSplit1
import Derived.Ground.NamesProg
import Derived.Shelf.Lay
import Derived.Shelf.Strings.Split
import Derived.Shelf.Strconv.ParseIntPublic10
import Derived.Lib.ConvBytes
namespace Go.Proofs.YtnjohcbamblilaaDoor
open Go.RowKit Go.Shelf
set_option linter.unusedVariables false
set_option linter.unusedSimpArgs false
set_option linter.unusedSectionVars false
set_option maxRecDepth 4000

end Go.Proofs.YtnjohcbamblilaaDoor
namespace Go.Proofs
open Go.Shelf
def Tryd.lays146_ren : Go.Shelf.Ren := ⟨fun | 146 => 24 | 221 => 40 | 268 => 44 | 138 => 45 | 143 => 46 | 195 => 53 | 197 => 54 | 218 => 55 | 219 => 56 | 260 => 67 | 217 => 68 | 225 => 69 | 224 => 70 | 267 => 71 | 266 => 79 | 314 => 80 | n => n, fun | 9 => 9 | 31 => 41 | 3 => 3 | 4 => 4 | 0 => 0 | 105 => 76 | 21 => 21 | 5 => 5 | 46 => 82 | 119 => 99 | 139 => 102 | 138 => 101 | 146 => 103 | 51 => 89 | n => n, fun | 1 => 1 | 3 => 4 | 4 => 5 | n => n⟩
theorem Tryd.lays146 : Go.Proofs.Lays.n146 Tryd.prog Tryd.lays146_ren := {
  mixed := by kernel_rfl
  f138 := Tryd.func45.trans (congrArg some (by kernel_rfl))
  f143 := Tryd.func46.trans (congrArg some (by kernel_rfl))
  f146 := Tryd.func24.trans (congrArg some (by kernel_rfl))
  f195 := Tryd.func53.trans (congrArg some (by kernel_rfl))
  f197 := Tryd.func54.trans (congrArg some (by kernel_rfl))
  f217 := Tryd.func68.trans (congrArg some (by kernel_rfl))
  f218 := Tryd.func55.trans (congrArg some (by kernel_rfl))
  f219 := Tryd.func56.trans (congrArg some (by kernel_rfl))
  f221 := Tryd.func40.trans (congrArg some (by kernel_rfl))
  f224 := Tryd.func70.trans (congrArg some (by kernel_rfl))
  f225 := Tryd.func69.trans (congrArg some (by kernel_rfl))
  f260 := Tryd.func67.trans (congrArg some (by kernel_rfl))
  f266 := Tryd.func79.trans (congrArg some (by kernel_rfl))
  f267 := Tryd.func71.trans (congrArg some (by kernel_rfl))
  f268 := Tryd.func44.trans (congrArg some (by kernel_rfl))
  f314 := Tryd.func80.trans (congrArg some (by kernel_rfl))
  t0 := Tryd.underlying0
  a0 := Tryd.isAgg0
  z0 := Tryd.sizeOf0
  v0 := Tryd.zeroValue0
  t3 := Tryd.underlying3
  a3 := Tryd.isAgg3
  z3 := Tryd.sizeOf3
  v3 := Tryd.zeroValue3
  t4 := Tryd.underlying4
  a4 := Tryd.isAgg4
  z4 := Tryd.sizeOf4
  v4 := Tryd.zeroValue4
  t5 := Tryd.underlying5
  a5 := Tryd.isAgg5
  z5 := Tryd.sizeOf5
  v5 := Tryd.zeroValue5
  t9 := Tryd.underlying9
  a9 := Tryd.isAgg9
  z9 := Tryd.sizeOf9
  v9 := Tryd.zeroValue9
  t21 := Tryd.underlying21
  a21 := Tryd.isAgg21
  z21 := Tryd.sizeOf21
  v21 := Tryd.zeroValue21
  t31 := Tryd.underlying41
  a31 := Tryd.isAgg41
  z31 := Tryd.sizeOf41
  v31 := Tryd.zeroValue41
  t46 := Tryd.underlying82
  a46 := Tryd.isAgg82
  z46 := Tryd.sizeOf82
  v46 := Tryd.zeroValue82
  t51 := Tryd.underlying89
  a51 := Tryd.isAgg89
  z51 := Tryd.sizeOf89
  v51 := Tryd.zeroValue89
  t105 := Tryd.underlying76
  a105 := Tryd.isAgg76
  z105 := Tryd.sizeOf76
  v105 := Tryd.zeroValue76
  t119 := Tryd.underlying99
  a119 := Tryd.isAgg99
  z119 := Tryd.sizeOf99
  t138 := Tryd.underlying101
  a138 := Tryd.isAgg101
  z138 := Tryd.sizeOf101
  v138 := Tryd.zeroValue101
  t139 := Tryd.underlying102
  a139 := Tryd.isAgg102
  z139 := Tryd.sizeOf102
  v139 := Tryd.zeroValue102
  t146 := Tryd.underlying103
  a146 := Tryd.isAgg103
  z146 := Tryd.sizeOf103
  v146 := Tryd.zeroValue103
  g1 := by kernel_rfl
  g3 := by kernel_rfl
  g4 := by kernel_rfl }
def Tryd.lays174_ren : Go.Shelf.Ren := ⟨fun | 174 => 41 | 247 => 47 | 245 => 48 | 287 => 57 | 279 => 58 | 280 => 59 | 281 => 60 | 282 => 61 | 321 => 72 | 322 => 73 | 316 => 74 | 171 => 76 | 205 => 75 | 243 => 81 | 246 => 43 | 283 => 49 | 284 => 50 | 285 => 51 | 286 => 52 | 129 => 63 | 317 => 62 | 318 => 64 | 319 => 65 | 320 => 66 | 337 => 77 | 338 => 78 | n => n, fun | 9 => 9 | 3 => 3 | 2 => 2 | 75 => 59 | 85 => 60 | 4 => 4 | 167 => 79 | 5 => 5 | 53 => 70 | 175 => 80 | 46 => 82 | 168 => 83 | 37 => 34 | 0 => 0 | 210 => 96 | 21 => 21 | 127 => 105 | 145 => 108 | 143 => 106 | 171 => 69 | 173 => 73 | 212 => 88 | 51 => 89 | 20 => 20 | 213 => 90 | 232 => 109 | 233 => 110 | 80 => 111 | n => n, fun | 15 => 2 | 16 => 3 | 17 => 0 | 18 => 6 | 19 => 7 | n => n⟩
theorem Tryd.lays174 : Go.Proofs.LaysC.n174 Tryd.prog Tryd.lays174_ren := {
  mixed := by kernel_rfl
  f129 := Tryd.func63.trans (congrArg some (by kernel_rfl))
  f171 := Tryd.func76.trans (congrArg some (by kernel_rfl))
  f174 := Tryd.func41.trans (congrArg some (by kernel_rfl))
  f205 := Tryd.func75.trans (congrArg some (by kernel_rfl))
  f243 := Tryd.func81.trans (congrArg some (by kernel_rfl))
  f245 := Tryd.func48.trans (congrArg some (by kernel_rfl))
  f246 := Tryd.func43.trans (congrArg some (by kernel_rfl))
  f247 := Tryd.func47.trans (congrArg some (by kernel_rfl))
  f279 := Tryd.func58.trans (congrArg some (by kernel_rfl))
  f280 := Tryd.func59.trans (congrArg some (by kernel_rfl))
  f281 := Tryd.func60.trans (congrArg some (by kernel_rfl))
  f282 := Tryd.func61.trans (congrArg some (by kernel_rfl))
  f283 := Tryd.func49.trans (congrArg some (by kernel_rfl))
  f284 := Tryd.func50.trans (congrArg some (by kernel_rfl))
  f285 := Tryd.func51.trans (congrArg some (by kernel_rfl))
  f286 := Tryd.func52.trans (congrArg some (by kernel_rfl))
  f287 := Tryd.func57.trans (congrArg some (by kernel_rfl))
  f316 := Tryd.func74.trans (congrArg some (by kernel_rfl))
  f317 := Tryd.func62.trans (congrArg some (by kernel_rfl))
  f318 := Tryd.func64.trans (congrArg some (by kernel_rfl))
  f319 := Tryd.func65.trans (congrArg some (by kernel_rfl))
  f320 := Tryd.func66.trans (congrArg some (by kernel_rfl))
  f321 := Tryd.func72.trans (congrArg some (by kernel_rfl))
  f322 := Tryd.func73.trans (congrArg some (by kernel_rfl))
  f337 := Tryd.func77.trans (congrArg some (by kernel_rfl))
  f338 := Tryd.func78.trans (congrArg some (by kernel_rfl))
  t0 := Tryd.underlying0
  a0 := Tryd.isAgg0
  z0 := Tryd.sizeOf0
  v0 := Tryd.zeroValue0
  t2 := Tryd.underlying2
  a2 := Tryd.isAgg2
  z2 := Tryd.sizeOf2
  v2 := Tryd.zeroValue2
  t3 := Tryd.underlying3
  a3 := Tryd.isAgg3
  z3 := Tryd.sizeOf3
  v3 := Tryd.zeroValue3
  t4 := Tryd.underlying4
  a4 := Tryd.isAgg4
  z4 := Tryd.sizeOf4
  v4 := Tryd.zeroValue4
  t5 := Tryd.underlying5
  a5 := Tryd.isAgg5
  z5 := Tryd.sizeOf5
  v5 := Tryd.zeroValue5
  t9 := Tryd.underlying9
  a9 := Tryd.isAgg9
  z9 := Tryd.sizeOf9
  v9 := Tryd.zeroValue9
  t20 := Tryd.underlying20
  a20 := Tryd.isAgg20
  z20 := Tryd.sizeOf20
  v20 := Tryd.zeroValue20
  t21 := Tryd.underlying21
  a21 := Tryd.isAgg21
  z21 := Tryd.sizeOf21
  v21 := Tryd.zeroValue21
  t37 := Tryd.underlying34
  a37 := Tryd.isAgg34
  z37 := Tryd.sizeOf34
  v37 := Tryd.zeroValue34
  t46 := Tryd.underlying82
  a46 := Tryd.isAgg82
  z46 := Tryd.sizeOf82
  v46 := Tryd.zeroValue82
  t51 := Tryd.underlying89
  a51 := Tryd.isAgg89
  z51 := Tryd.sizeOf89
  v51 := Tryd.zeroValue89
  t53 := Tryd.underlying70
  a53 := Tryd.isAgg70
  z53 := Tryd.sizeOf70
  v53 := Tryd.zeroValue70
  t75 := Tryd.underlying59
  a75 := Tryd.isAgg59
  z75 := Tryd.sizeOf59
  v75 := Tryd.zeroValue59
  t85 := Tryd.underlying60
  a85 := Tryd.isAgg60
  z85 := Tryd.sizeOf60
  v85 := Tryd.zeroValue60
  t127 := Tryd.underlying105
  a127 := Tryd.isAgg105
  z127 := Tryd.sizeOf105
  v127 := Tryd.zeroValue105
  t143 := Tryd.underlying106
  a143 := Tryd.isAgg106
  z143 := Tryd.sizeOf106
  v143 := Tryd.zeroValue106
  t145 := Tryd.underlying108
  a145 := Tryd.isAgg108
  z145 := Tryd.sizeOf108
  v145 := Tryd.zeroValue108
  t167 := Tryd.underlying79
  a167 := Tryd.isAgg79
  z167 := Tryd.sizeOf79
  v167 := Tryd.zeroValue79
  t168 := Tryd.underlying83
  a168 := Tryd.isAgg83
  z168 := Tryd.sizeOf83
  v168 := Tryd.zeroValue83
  t171 := Tryd.underlying69
  a171 := Tryd.isAgg69
  z171 := Tryd.sizeOf69
  v171 := Tryd.zeroValue69
  t173 := Tryd.underlying73
  a173 := Tryd.isAgg73
  z173 := Tryd.sizeOf73
  v173 := Tryd.zeroValue73
  t175 := Tryd.underlying80
  a175 := Tryd.isAgg80
  z175 := Tryd.sizeOf80
  v175 := Tryd.zeroValue80
  t210 := Tryd.underlying96
  a210 := Tryd.isAgg96
  z210 := Tryd.sizeOf96
  v210 := Tryd.zeroValue96
  t212 := Tryd.underlying88
  a212 := Tryd.isAgg88
  z212 := Tryd.sizeOf88
  v212 := Tryd.zeroValue88
  t213 := Tryd.underlying90
  a213 := Tryd.isAgg90
  z213 := Tryd.sizeOf90
  t232 := Tryd.underlying109
  a232 := Tryd.isAgg109
  z232 := Tryd.sizeOf109
  v232 := Tryd.zeroValue109
  t233 := Tryd.underlying110
  a233 := Tryd.isAgg110
  z233 := Tryd.sizeOf110
  v233 := Tryd.zeroValue110
  g15 := by kernel_rfl
  g16 := by kernel_rfl
  g17 := by kernel_rfl
  g18 := by kernel_rfl
  g19 := by kernel_rfl
  t80 := Tryd.underlying111
  a80 := Tryd.isAgg111
  z80 := Tryd.sizeOf111
  v80 := Tryd.zeroValue111
  i0 := by kernel_rfl
  i2 := by kernel_rfl
  i3 := by kernel_rfl
  i4 := by kernel_rfl
  i5 := by kernel_rfl
  i9 := by kernel_rfl
  i20 := by kernel_rfl
  i21 := by kernel_rfl
  i37 := by kernel_rfl
  i46 := by kernel_rfl
  i51 := by kernel_rfl
  i53 := by kernel_rfl
  i75 := by kernel_rfl
  i80 := by kernel_rfl
  i85 := by kernel_rfl
  i127 := by kernel_rfl
  i143 := by kernel_rfl
  i145 := by kernel_rfl
  i167 := by kernel_rfl
  i168 := by kernel_rfl
  i171 := by kernel_rfl
  i173 := by kernel_rfl
  i175 := by kernel_rfl
  i210 := by kernel_rfl
  i212 := by kernel_rfl
  i232 := by kernel_rfl
  i233 := by kernel_rfl
  m15 := by kernel_rfl
  m16 := by kernel_rfl
  m17 := by kernel_rfl
  m18 := by kernel_rfl
  m19 := by kernel_rfl
  c0 := by kernel_rfl
  c2 := by kernel_rfl
  c3 := by kernel_rfl
  c4 := by kernel_rfl
  c5 := by kernel_rfl
  c9 := by kernel_rfl
  c20 := by kernel_rfl
  c21 := by kernel_rfl
  c37 := by kernel_rfl
  c46 := by kernel_rfl
  c51 := by kernel_rfl
  c53 := by kernel_rfl
  c75 := by kernel_rfl
  c80 := by kernel_rfl
  c85 := by kernel_rfl
  c127 := by kernel_rfl
  c143 := by kernel_rfl
  c145 := by kernel_rfl
  c167 := by kernel_rfl
  c168 := by kernel_rfl
  c171 := by kernel_rfl
  c173 := by kernel_rfl
  c175 := by kernel_rfl
  c210 := by kernel_rfl
  c212 := by kernel_rfl
  c213 := by kernel_rfl
  c232 := by kernel_rfl
  c233 := by kernel_rfl }
end Go.Proofs
namespace Go.Proofs.YtnjohcbamblilaaDoor
open Go.Shelf Go.Sort

/-- what a call finds laid -/
structure Dl (w : World) : Prop where
  tab : Tab w
  mx : ∃ m, w.cell? ⟨1, 0, none⟩ = some (.int .i64 m)
  syn : ∃ tp p, w.cell? ⟨2, 0, none⟩ = some (.iface tp p)
  rng : ∃ tp p, w.cell? ⟨3, 0, none⟩ = some (.iface tp p)
theorem ext_cell {w w' : World} {a : Addr} {v : Value} (x : Ext w w') (hc : w.cell? a = some v) : w'.cell? a = some v := by
  rw [x.cell (World.block_lt_of_cell? w a hc)]; exact hc
theorem Dl.ext {w w' : World} (h : Dl w) (x : Ext w w') : Dl w' := by
  obtain ⟨m, hm⟩ := h.mx
  obtain ⟨t2, p2, h2⟩ := h.syn
  obtain ⟨t3, p3, h3⟩ := h.rng
  exact ⟨h.tab.ext x, ⟨m, ext_cell x hm⟩, ⟨t2, p2, ext_cell x h2⟩, ⟨t3, p3, ext_cell x h3⟩⟩
theorem flat_strc : ∀ xs : List ByteArray, (xs.map strc).flatten = xs.map Value.string
  | [] => rfl
  | x :: r => by rw [List.map_cons, List.flatten_cons, flat_strc r]; rfl
theorem Split_ok (s : ByteArray) (w : World) (hs : s.size ≤ 1048576) (h : Dl w) :
    Ret Tryd.prog 24 [.string s, .string ⟨#[47]⟩] w (fun v w' => Ext w w' ∧ ∃ q m d, v = .slice q m d ∧ Ow strc 1 9 w' w.heap.size w'.heap.size q m d (cutBs 47 s)) := by
  obtain ⟨m, hm⟩ := h.mx
  have c := Any.strings_Split Tryd.lays146 (by kernel_rfl) s ⟨#[47]⟩ m w (by omega) hm (by decide)
  have hl := cutBs_len 47 s
  have hc : Lib.countB s ⟨#[47]⟩ + 1 = (cutBs 47 s).length := by
    rw [← splitB_cut]; exact (Lib.splitB_all ⟨#[47]⟩ (by decide) 0 _ s rfl).symm
  rw [splitB_cut, hc] at c
  refine Calls.mono c fun e w' he => ⟨_, he.1, ?_, _, _, _, rfl, ?_⟩
  · rw [he.2]; exact ext_alloc w _
  · rw [he.2]
    refine Own.ow ?_ rfl (by omega) (Nat.le_refl _) (by simp [World.alloc, -World.alloc_eq]) (fun _ _ => rfl)
    unfold Own
    rw [flat_strc]
    simp [World.alloc, -World.alloc_eq]
    try rfl
theorem ext_bytes (w : World) (e : TypeId) (t : ByteArray) : Ext w (Lib.bytesWorld w e t) :=
  ⟨rfl, rfl, rfl, by rw [Lib.bytesWorld_size]; omega, fun b hb => Lib.bytesWorld_at_old w e t b hb⟩
theorem ParseInt_t (s : ByteArray) (w : World) (hs : s.size ≤ 1048576) (v : Int) (hp : Lib.parseIntB 64 s.data.toList = .ok v) :
    Ret Tryd.prog 41 [.string s, .int .i64 10, .int .i64 64] w (Pv w (.tuple #[.int .i64 v, .nilIface])) := by
  have c := Any.strconv_ParseInt_10_at64_ok Tryd.lays174 s (by omega) v hp w
  refine Calls.mono c fun e w' he => ⟨_, he.1, rfl, ?_⟩
  rcases he.2 with rfl | ⟨t, rfl⟩
  · exact Ext.refl _
  · exact ext_bytes w _ t
theorem ParseInt_f (s : ByteArray) (w : World) (hs : s.size ≤ 1048576) (h : Dl w) (hp : ∀ v, Lib.parseIntB 64 s.data.toList ≠ .ok v) :
    Ret Tryd.prog 41 [.string s, .int .i64 10, .int .i64 64] w (fun x w' => Ext w w' ∧ ∃ n t p, x = .tuple #[.int .i64 n, .iface t p]) := by
  rcases hr : Lib.parseIntB 64 s.data.toList with v | _ | _
  · exact absurd hr (hp v)
  · obtain ⟨tp, p, h2⟩ := h.syn
    have c := Any.strconv_ParseInt_10_at64_syntax Tryd.lays174 s (by omega) hr (.iface tp p) w h2 (.inr ⟨_, _, rfl⟩)
    refine Calls.mono c fun e w' he => ?_
    obtain ⟨N, h1, _, _, h4⟩ := he
    exact ⟨_, h1, h4, _, _, _, rfl⟩
  · obtain ⟨tp, p, h2⟩ := h.rng
    have c := Any.strconv_ParseInt_10_at64_range Tryd.lays174 s (by omega) hr (.iface tp p) w h2 (.inr ⟨_, _, rfl⟩)
    refine Calls.mono c fun e w' he => ?_
    obtain ⟨N, h1, _, _, h4⟩ := he
    exact ⟨_, h1, h4, _, _, _, rfl⟩
/-- n in decimal -/
def itoaT (n : Int) : ByteArray := ⟨(Lib.itoa n).toArray⟩
theorem itoaT_nn {n : Int} (h : 0 ≤ n) : itoaT n = dec n.toNat := by
  rw [itoaT, Lib.itoa, if_neg (by omega)]; rfl
theorem FormatIntI_ok (n : Int) (w : World) (h0 : -9223372036854775808 ≤ n) (h1 : n ≤ 9223372036854775807) (hT : Tab w) :
    Ret Tryd.prog 39 [.int .i64 n, .int .i64 10] w (Pv w (.string (itoaT n))) := by
  have h := Any.strconv_FormatInt_10 Tryd.lays173 n h0 h1 w hT
  refine Calls.mono h fun e w' he => ⟨_, he.1, rfl, ?_⟩
  obtain ⟨k, os, rfl⟩ := he.2
  exact ext_grow w k os
theorem parse_range {l : List UInt8} {v : Int} (h : Lib.parseIntB 64 l = .ok v) : -9223372036854775808 ≤ v ∧ v ≤ 9223372036854775807 := by
  unfold Lib.parseIntB at h
  split at h
  · cases h
  · dsimp only at h
    split at h
    · cases h
    · cases h
    · rename_i u hu
      split at h
      · cases h
      · rename_i h1
        split at h
        · cases h
        · rename_i h2
          have e := Lib.NumEnd.ok.inj h
          have p63 : (2 : Nat) ^ (64 - 1) = 9223372036854775808 := rfl
          rw [p63] at h1 h2
          split at e <;> rename_i h3 <;> (subst e)
          · have : ¬ 9223372036854775808 < u := fun hx => h2 ⟨h3, hx⟩
            omega
          · have : ¬ 9223372036854775808 ≤ u := fun hx => h1 ⟨h3, hx⟩
            omega
/-- what readDecimal answers -/
def rdec (s : ByteArray) : Int × Bool := match Lib.parseIntB 64 s.data.toList with
  | .ok v => if itoaT v = s then (v, true) else (0, false)
  | _ => (0, false)
theorem rdec_f {s : ByteArray} (hp : ∀ v, Lib.parseIntB 64 s.data.toList ≠ .ok v) : rdec s = (0, false) := by
  unfold rdec
  split
  · rename_i v hv; exact absurd hv (hp v)
  · rfl
theorem rdec_t {s : ByteArray} {v : Int} (hp : Lib.parseIntB 64 s.data.toList = .ok v) : rdec s = if itoaT v = s then (v, true) else (0, false) := by
  unfold rdec; rw [hp]
theorem rdec_dec {u : Nat} (h : u ≤ 20000) : rdec (dec u) = ((u : Int), true) := by
  rw [rdec_t (parse_dec h), if_pos (by rw [itoaT_nn (by omega)]; rfl)]
theorem rdec_ok {s : ByteArray} (h : (rdec s).2 = true) (h0 : 0 ≤ (rdec s).1) : s = dec (rdec s).1.toNat := by
  unfold rdec at h h0 ⊢
  split at h
  · rename_i v hv
    split at h
    · rename_i he
      rw [hv] at h0
      dsimp only at h0
      rw [if_pos he] at h0 ⊢
      rw [← he]; exact itoaT_nn h0
    · cases h
  · cases h
theorem sval_dec {u : Nat} (h : u ≤ 20000) : sval (dec u) = ((u : Int), true) := by
  have e : (dec u).data.toList = Lib.decDigits u := by simp [dec]
  obtain ⟨h1, h2, h3⟩ := decD_all u u (Nat.le_refl _)
  have hl := dec_len 5 u (by decide) (by omega)
  have hsz : (dec u).size = (Lib.decDigits u).length := by rw [← e]; rfl
  have hpos : 0 < (Lib.decDigits u).length := List.length_pos_iff.2 h3
  have hd : allB (dec u).size (digB (dec u)) = true := allB_iff.2 fun i hi => by
    have hi2 : i < (dec u).data.toList.length := hi
    have hm : (dec u).data.toList[i] ∈ Lib.decDigits u := by rw [← e]; exact List.getElem_mem hi2
    have hg := h1 _ hm
    unfold dig at hg
    rw [digB, bAt_list hi2, Bool.and_eq_true, decide_eq_true_eq, decide_eq_true_eq]; exact hg
  rw [sval_t (n := (u : Int)) (by omega) (by omega) rfl hd (by rw [show (dec u).data.toList.take (dec u).size = (dec u).data.toList from List.take_of_length_le (Nat.le_refl _), e, h2]), Int.toNat_natCast]
  simp
theorem sval_ok {s : ByteArray} (h : (sval s).2 = true) : s = dec (sval s).1.toNat ∧ 0 ≤ (sval s).1 := by
  unfold sval at h ⊢
  split at h
  · cases h
  · rename_i hn
    rw [if_neg hn]
    exact ⟨(of_decide_eq_true h).symm, Int.natCast_nonneg _⟩
/-- s is the text of r -/
def ReadsAs (s : ByteArray) (r : Ruling) : Prop := isRuling r = true ∧ cutBs 47 s = [dec r.Day.toNat, r.Code, kword r.Kind]
theorem kword_inj {a b : Int} (h0 : 0 ≤ a) (h1 : a ≤ 3) (g0 : 0 ≤ b) (g1 : b ≤ 3) (h : kword a = kword b) : a = b := by
  rcases (by omega : a = 0 ∨ a = 1 ∨ a = 2 ∨ a = 3) with rfl | rfl | rfl | rfl <;> rcases (by omega : b = 0 ∨ b = 1 ∨ b = 2 ∨ b = 3) with rfl | rfl | rfl | rfl <;> first | rfl | (exfalso; revert h; decide)
theorem reads_one {s : ByteArray} {r t : Ruling} (h : ReadsAs s r) (g : ReadsAs s t) : r = t := by
  obtain ⟨h1, h2, h3, h4, h5⟩ := isR_of h.1
  obtain ⟨g1, g2, g3, g4, g5⟩ := isR_of g.1
  have e := h.2.symm.trans g.2
  simp only [List.cons.injEq, and_true] at e
  obtain ⟨e1, e2, e3⟩ := e
  have d := dec_inj e1
  have k := kword_inj h4 h5 g4 g5 e3
  exact Ruling.ext' (by omega) e2 k
/-- what ReadRuling answers -/
noncomputable def readR (s : ByteArray) : Ruling × Int :=
  haveI := Classical.propDecidable (∃ r, ReadsAs s r)
  if h : ∃ r, ReadsAs s r then (h.choose, 0) else (⟨0, ⟨#[]⟩, 0⟩, 6)
theorem readR_t {s : ByteArray} {r : Ruling} (h : ReadsAs s r) : readR s = (r, 0) := by
  have hx : ∃ r, ReadsAs s r := ⟨r, h⟩
  unfold readR
  rw [dif_pos hx, reads_one hx.choose_spec h]
theorem readR_f {s : ByteArray} (h : ∀ r, ¬ ReadsAs s r) : readR s = (⟨0, ⟨#[]⟩, 0⟩, 6) := by
  unfold readR
  rw [dif_neg (fun hx => h _ hx.choose_spec)]
theorem reads_not3 {s : ByteArray} (h : (cutBs 47 s).length ≠ 3) : ∀ r, ¬ ReadsAs s r := fun r hr => h (by rw [hr.2]; rfl)
theorem three {xs : List ByteArray} (h : xs.length = 3) : ∃ a b c, xs = [a, b, c] := by
  match xs, h with
  | [a, b, c], _ => exact ⟨a, b, c, rfl⟩
/-- the last kind below k whose word is p -/
def kfind (p : ByteArray) : Nat → Int
  | 0 => -1
  | k + 1 => if kword k = p then (k : Int) else kfind p k
theorem kfind_word {p : ByteArray} : ∀ k : Nat, 0 ≤ kfind p k → kword (kfind p k) = p
  | 0, h => by rw [kfind] at h; omega
  | k + 1, h => by
    rw [kfind] at h ⊢
    split at h
    · rename_i hk; rw [if_pos hk]; exact hk
    · rename_i hk; rw [if_neg hk]; exact kfind_word k h
theorem kfind_at {p : ByteArray} {n : Int} (h0 : 0 ≤ n) (h1 : n ≤ 3) (h : kword n = p) : kfind p 4 = n := by
  subst h
  rcases (by omega : n = 0 ∨ n = 1 ∨ n = 2 ∨ n = 3) with rfl | rfl | rfl | rfl <;> decide
theorem cutB_el (b : UInt8) : ∀ (l : List UInt8), ∀ p ∈ cutB b l, p.length ≤ l.length
  | [], p, h => by rw [cutB, List.mem_singleton] at h; subst h; exact Nat.le_refl _
  | c :: r, p, h => by
    rw [cutB] at h
    split at h
    · rcases List.mem_cons.1 h with h | h
      · subst h; simp
      · have := cutB_el b r p h; rw [List.length_cons]; omega
    · split at h
      · rw [List.mem_singleton] at h; subst h; simp
      · rename_i q ps he
        rcases List.mem_cons.1 h with h | h
        · have := cutB_el b r q (by rw [he]; exact List.mem_cons_self ..)
          subst h; rw [List.length_cons, List.length_cons]; omega
        · have := cutB_el b r p (by rw [he]; exact List.mem_cons_of_mem _ h)
          rw [List.length_cons]; omega
theorem cutBs_el {b : UInt8} {s p : ByteArray} (h : p ∈ cutBs b s) : p.size ≤ s.size := by
  rw [cutBs] at h
  obtain ⟨l, hl, rfl⟩ := List.mem_map.1 h
  have := cutB_el b _ l hl
  show l.toArray.size ≤ s.data.toList.length
  simpa using this
theorem cut3 {s p0 p1 p2 : ByteArray} (h : cutBs 47 s = [p0, p1, p2]) : p0.size ≤ s.size ∧ p1.size ≤ s.size ∧ p2.size ≤ s.size :=
  ⟨cutBs_el (b := 47) (by rw [h]; simp), cutBs_el (b := 47) (by rw [h]; simp), cutBs_el (b := 47) (by rw [h]; simp)⟩
theorem spec_yes {s p0 p1 p2 : ByteArray} {kd : Int} (hp : cutBs 47 s = [p0, p1, p2]) (hk : kd = kfind p2 4) (h1 : (sval p0).2 = true) (h2 : isRuling ⟨(sval p0).1, p1, kd⟩ = true) : ReadsAs s ⟨(sval p0).1, p1, kd⟩ := by
  obtain ⟨a1, a2, a3, a4, a5⟩ := isR_of h2
  refine ⟨h2, ?_⟩
  rw [hp, ← (sval_ok h1).1, hk, kfind_word 4 (by rw [← hk]; exact a4)]
theorem spec_no {s p0 p1 p2 : ByteArray} {kd : Int} (hp : cutBs 47 s = [p0, p1, p2]) (hk : kd = kfind p2 4) (h : ¬ ((sval p0).2 = true ∧ isRuling ⟨(sval p0).1, p1, kd⟩ = true)) : ∀ r, ¬ ReadsAs s r := fun r hr => by
  obtain ⟨a1, a2, a3, a4, a5⟩ := isR_of hr.1
  have e := hp.symm.trans hr.2
  simp only [List.cons.injEq, and_true] at e
  obtain ⟨e1, e2, e3⟩ := e
  have hv := sval_dec (u := r.Day.toNat) (by omega)
  rw [← e1] at hv
  have hkk := kfind_at a4 a5 e3.symm
  apply h
  rw [hv, hk, hkk, e2, show ((r.Day.toNat : Nat) : Int) = r.Day from by omega]
  exact ⟨rfl, hr.1⟩
theorem imp_yes {s p0 p1 p2 : ByteArray} {k : Int} (hp : cutBs 47 s = [p0, p1, p2]) (h1 : (rdec p0).2 = true) (h2 : kword k = p2) (h3 : isRuling ⟨(rdec p0).1, p1, k⟩ = true) : ReadsAs s ⟨(rdec p0).1, p1, k⟩ := by
  obtain ⟨a1, a2, a3, a4, a5⟩ := isR_of h3
  refine ⟨h3, ?_⟩
  rw [hp, ← rdec_ok h1 a1, h2]
theorem imp_no {s p0 p1 p2 : ByteArray} (hp : cutBs 47 s = [p0, p1, p2]) (h : (rdec p0).2 = false ∨ ∀ j : Nat, j < 4 → ¬ (kword j = p2 ∧ isRuling ⟨(rdec p0).1, p1, j⟩ = true)) : ∀ r, ¬ ReadsAs s r := fun r hr => by
  obtain ⟨a1, a2, a3, a4, a5⟩ := isR_of hr.1
  have e := hp.symm.trans hr.2
  simp only [List.cons.injEq, and_true] at e
  obtain ⟨e1, e2, e3⟩ := e
  have hv := rdec_dec (u := r.Day.toNat) (by omega)
  rw [← e1] at hv
  rcases h with h | h
  · rw [hv] at h; cases h
  · apply h r.Kind.toNat (by omega)
    rw [hv, e2, e3, show ((r.Day.toNat : Nat) : Int) = r.Day from by omega, show ((r.Kind.toNat : Nat) : Int) = r.Kind from by omega]
    exact ⟨rfl, hr.1⟩
theorem l01Split47 (s : ByteArray) (w : World) (hs : s.size ≤ 1048576) : Ret Tryd.prog 21 [.string s, .int .u8 47] w (fun v w' => Ext w w' ∧ ∃ q m d, v = .slice q m d ∧ Ow strc 1 9 w' w.heap.size w'.heap.size q m d (cutBs 47 s)) := l01Split_ok s 47 w hs
theorem step_no {q : Nat → Prop} {k : Nat} (h : ∀ j : Nat, j < k → ¬ q j) (hk : ¬ q k) : ∀ j : Nat, j < k + 1 → ¬ q j := fun j hj => by
  rcases Nat.lt_succ_iff_lt_or_eq.1 hj with h1 | h1
  · exact h j h1
  · rw [h1]; exact hk


set_option maxHeartbeats 400000 in
theorem decimalI_ok (n : Int) (w : World) (h0 : -9223372036854775808 ≤ n) (h1 : n ≤ 9223372036854775807) (hT : Tab w) : Ret Tryd.prog 19 [.int .i64 n] w (Pv w (.string (itoaT n))) := by
  refine ret_of_run (N := 5) Tryd.func19 rfl rfl rfl ?_
  have E : Ext w w := Ext.refl w
  refine run_seq ?_
  refine run_region ?_
  refine ov (xassign rfl) rfl rfl rfl ?_
  refine ops_nil ?_
  refine run_seq ?_
  refine run_region ?_
  refine ov (xmove rfl) rfl rfl rfl ?_
  refine oc (xcall Tryd.call39 rfl) rfl rfl rfl (FormatIntI_ok n _ h0 h1 (hT.ext E)) ?_
  rintro _ w1 ⟨rfl, e1⟩
  have z1 := e1.size
  have E := E.trans e1
  refine ov (xassign rfl) rfl rfl rfl ?_
  refine ops_nil ?_
  refine run_ret Tryd.func19 (res1 rfl rfl) ?_
  exact ⟨_, rfl, pv E⟩

set_option maxHeartbeats 400000 in
theorem readDecimal_t (s : ByteArray) (v : Int) (w : World) (hs : s.size ≤ 1048576) (hp : Lib.parseIntB 64 s.data.toList = .ok v) (h0 : -9223372036854775808 ≤ v) (h1 : v ≤ 9223372036854775807) (hD : Dl w) : Ret Tryd.prog 25 [.string s] w (Pv w (.tuple #[.int .i64 (rdec s).1, .bool (rdec s).2])) := by
  refine ret_of_run (N := 20) Tryd.func25 rfl rfl rfl ?_
  have E : Ext w w := Ext.refl w
  refine run_seq ?_
  refine run_region ?_
  refine ov (xassign rfl) rfl rfl rfl ?_
  refine ov (xassign rfl) rfl rfl rfl ?_
  refine ops_nil ?_
  refine run_seq ?_
  refine run_region ?_
  refine ov (xmove rfl) rfl rfl rfl ?_
  refine oc (xcall Tryd.call41 rfl) rfl rfl rfl (ParseInt_t s _ hs v hp) ?_
  rintro _ w1 ⟨rfl, e1⟩
  have z1 := e1.size
  have E := E.trans e1
  refine ov (xmove rfl) rfl rfl rfl ?_
  refine ov (xextract rfl rfl) rfl rfl rfl ?_
  refine ov (xextract rfl rfl) rfl rfl rfl ?_
  refine ov (xassign rfl) rfl rfl rfl ?_
  refine ov (xassign rfl) rfl rfl rfl ?_
  refine ops_nil ?_
  refine run_seq ?_
  refine run_seq ?_
  refine run_region ?_
  refine ov (xmove rfl) rfl rfl rfl ?_
  refine ov (xnil_nil (by kernel_rfl) rfl) rfl rfl rfl ?_
  refine ov (xmove rfl) rfl rfl rfl ?_
  refine ov (xmove rfl) rfl rfl rfl ?_
  refine oc (xcall Tryd.call19 rfl) rfl rfl rfl (decimalI_ok v _ h0 h1 (hD.tab.ext E)) ?_
  rintro _ w2 ⟨rfl, e2⟩
  have z2 := e2.size
  have E := E.trans e2
  refine ov (xmove rfl) rfl rfl rfl ?_
  refine ov (xsneq rfl rfl _ rfl) rfl rfl rfl ?_
  refine ods (fun c17 => ?_) (fun c17 => ?_)
  ·
    refine ov (xpick_f rfl rfl) rfl rfl rfl ?_
    refine ops_nil ?_
    refine run_cond_t rfl ?_
    refine run_seq ?_
    refine run_region ?_
    refine ov (xassign rfl) rfl rfl rfl ?_
    refine ov (xassign rfl) rfl rfl rfl ?_
    refine ops_nil ?_
    refine run_ret Tryd.func25 (res2 rfl rfl rfl) ?_
    exact ⟨_, rfl, by rw [rdec_t hp]; simp_all, E⟩
  ·
    refine ov (xpick_f rfl rfl) rfl rfl rfl ?_
    refine ops_nil ?_
    refine run_cond_f rfl ?_
    refine run_skip ?_
    refine run_seq ?_
    refine run_region ?_
    refine ov (xmove rfl) rfl rfl rfl ?_
    refine ov (xassign rfl) rfl rfl rfl ?_
    refine ov (xassign rfl) rfl rfl rfl ?_
    refine ops_nil ?_
    refine run_ret Tryd.func25 (res2 rfl rfl rfl) ?_
    exact ⟨_, rfl, by rw [rdec_t hp]; simp_all, E⟩

set_option maxHeartbeats 400000 in
theorem readDecimal_f (s : ByteArray) (w : World) (hs : s.size ≤ 1048576) (hp : ∀ v, Lib.parseIntB 64 s.data.toList ≠ .ok v) (hD : Dl w) : Ret Tryd.prog 25 [.string s] w (Pv w (.tuple #[.int .i64 (rdec s).1, .bool (rdec s).2])) := by
  refine ret_of_run (N := 20) Tryd.func25 rfl rfl rfl ?_
  have E : Ext w w := Ext.refl w
  refine run_seq ?_
  refine run_region ?_
  refine ov (xassign rfl) rfl rfl rfl ?_
  refine ov (xassign rfl) rfl rfl rfl ?_
  refine ops_nil ?_
  refine run_seq ?_
  refine run_region ?_
  refine ov (xmove rfl) rfl rfl rfl ?_
  refine oc (xcall Tryd.call41 rfl) rfl rfl rfl (ParseInt_f s _ hs (hD.ext E) hp) ?_
  rintro _ w1 ⟨e1, n8, t8, p8, rfl⟩
  have z1 := e1.size
  have E := E.trans e1
  refine ov (xmove rfl) rfl rfl rfl ?_
  refine ov (xextract rfl rfl) rfl rfl rfl ?_
  refine ov (xextract rfl rfl) rfl rfl rfl ?_
  refine ov (xassign rfl) rfl rfl rfl ?_
  refine ov (xassign rfl) rfl rfl rfl ?_
  refine ops_nil ?_
  refine run_seq ?_
  refine run_seq ?_
  refine run_region ?_
  refine ov (xmove rfl) rfl rfl rfl ?_
  refine ov (xifc_nil (by kernel_rfl) rfl rfl) rfl rfl rfl ?_
  refine ov (xmove rfl) rfl rfl rfl ?_
  refine og rfl rfl rfl ?_
  refine og rfl rfl rfl ?_
  refine og rfl rfl rfl ?_
  refine og rfl rfl rfl ?_
  refine ov (xpick_t rfl rfl) rfl rfl rfl ?_
  refine ops_nil ?_
  refine run_cond_t rfl ?_
  refine run_seq ?_
  refine run_region ?_
  refine ov (xassign rfl) rfl rfl rfl ?_
  refine ov (xassign rfl) rfl rfl rfl ?_
  refine ops_nil ?_
  refine run_ret Tryd.func25 (res2 rfl rfl rfl) ?_
  exact ⟨_, rfl, by rw [rdec_f hp], E⟩

theorem readDecimal_ok (s : ByteArray) (w : World) (hs : s.size ≤ 1048576) (hD : Dl w) : Ret Tryd.prog 25 [.string s] w (Pv w (.tuple #[.int .i64 (rdec s).1, .bool (rdec s).2])) := by
  by_cases h : ∃ v, Lib.parseIntB 64 s.data.toList = .ok v
  · obtain ⟨v, hv⟩ := h
    exact readDecimal_t s v w hs hv (parse_range hv).1 (parse_range hv).2 hD
  · exact readDecimal_f s w hs (fun v hv => h ⟨v, hv⟩) hD
end Go.Proofs.YtnjohcbamblilaaDoor

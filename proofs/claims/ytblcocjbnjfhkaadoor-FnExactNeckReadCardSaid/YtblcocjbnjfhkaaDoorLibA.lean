/- The library's contracts at this program: a text cut, a number read. -/
import Derived.Shelf.Strings.Split
import Derived.Shelf.Strings.SplitShaped
import Derived.Shelf.Strconv.AtoiAll
import Derived.Test.YtblcocjbnjfhkaaDoorPlain2
set_option linter.unusedVariables false
set_option linter.unusedSimpArgs false
set_option maxRecDepth 100000
namespace Go.Proofs.YtblcocjbnjfhkaaDoor
open Go Go.RowKit

open Go.Shelf
def layAtoiR : Go.Shelf.Ren := ⟨fun | 172 => 33 | 244 => 46 | 245 => 47 | 247 => 54 | 279 => 55 | 280 => 56 | 281 => 57 | 282 => 58 | 287 => 65 | 316 => 66 | 171 => 35 | 205 => 67 | 321 => 74 | 322 => 75 | 243 => 49 | 246 => 59 | 283 => 68 | 284 => 69 | 285 => 70 | 286 => 71 | 129 => 77 | 317 => 76 | 318 => 78 | 319 => 79 | 320 => 80 | 337 => 81 | 338 => 82 | n => n, fun | 9 => 9 | 3 => 3 | 75 => 46 | 76 => 47 | 4 => 4 | 5 => 5 | 167 => 79 | 37 => 41 | 0 => 0 | 85 => 80 | 2 => 2 | 168 => 82 | 53 => 88 | 175 => 89 | 46 => 87 | 210 => 93 | 127 => 64 | 145 => 110 | 143 => 108 | 21 => 21 | 171 => 95 | 173 => 98 | 212 => 112 | 51 => 104 | 20 => 20 | 213 => 113 | 232 => 116 | 233 => 117 | 80 => 49 | n => n, fun | 15 => 1 | 16 => 2 | 17 => 5 | 18 => 6 | 19 => 7 | n => n⟩
theorem layAtoi : LaysC.n172 Tryd.prog layAtoiR := {
  mixed := by kernel_rfl
  f129 := Tryd.func77.trans (congrArg some (by kernel_rfl))
  f171 := Tryd.func35.trans (congrArg some (by kernel_rfl))
  f172 := Tryd.func33.trans (congrArg some (by kernel_rfl))
  f205 := Tryd.func67.trans (congrArg some (by kernel_rfl))
  f243 := Tryd.func49.trans (congrArg some (by kernel_rfl))
  f244 := Tryd.func46.trans (congrArg some (by kernel_rfl))
  f245 := Tryd.func47.trans (congrArg some (by kernel_rfl))
  f246 := Tryd.func59.trans (congrArg some (by kernel_rfl))
  f247 := Tryd.func54.trans (congrArg some (by kernel_rfl))
  f279 := Tryd.func55.trans (congrArg some (by kernel_rfl))
  f280 := Tryd.func56.trans (congrArg some (by kernel_rfl))
  f281 := Tryd.func57.trans (congrArg some (by kernel_rfl))
  f282 := Tryd.func58.trans (congrArg some (by kernel_rfl))
  f283 := Tryd.func68.trans (congrArg some (by kernel_rfl))
  f284 := Tryd.func69.trans (congrArg some (by kernel_rfl))
  f285 := Tryd.func70.trans (congrArg some (by kernel_rfl))
  f286 := Tryd.func71.trans (congrArg some (by kernel_rfl))
  f287 := Tryd.func65.trans (congrArg some (by kernel_rfl))
  f316 := Tryd.func66.trans (congrArg some (by kernel_rfl))
  f317 := Tryd.func76.trans (congrArg some (by kernel_rfl))
  f318 := Tryd.func78.trans (congrArg some (by kernel_rfl))
  f319 := Tryd.func79.trans (congrArg some (by kernel_rfl))
  f320 := Tryd.func80.trans (congrArg some (by kernel_rfl))
  f321 := Tryd.func74.trans (congrArg some (by kernel_rfl))
  f322 := Tryd.func75.trans (congrArg some (by kernel_rfl))
  f337 := Tryd.func81.trans (congrArg some (by kernel_rfl))
  f338 := Tryd.func82.trans (congrArg some (by kernel_rfl))
  t0 := Tryd.underlying0
  a0 := Tryd.isAgg0
  z0 := Tryd.sizeOf0
  v0 := Tryd.zeroValue0
  t2 := Tryd.underlying2
  a2 := Tryd.isAgg2
  z2 := Tryd.sizeOf2
  v2 := Tryd.zeroValue2
  t3 := Tryd.underlying3
  a3 := Tryd.isAgg3
  z3 := Tryd.sizeOf3
  v3 := Tryd.zeroValue3
  t4 := Tryd.underlying4
  a4 := Tryd.isAgg4
  z4 := Tryd.sizeOf4
  v4 := Tryd.zeroValue4
  t5 := Tryd.underlying5
  a5 := Tryd.isAgg5
  z5 := Tryd.sizeOf5
  v5 := Tryd.zeroValue5
  t9 := Tryd.underlying9
  a9 := Tryd.isAgg9
  z9 := Tryd.sizeOf9
  v9 := Tryd.zeroValue9
  t20 := Tryd.underlying20
  a20 := Tryd.isAgg20
  z20 := Tryd.sizeOf20
  v20 := Tryd.zeroValue20
  t21 := Tryd.underlying21
  a21 := Tryd.isAgg21
  z21 := Tryd.sizeOf21
  v21 := Tryd.zeroValue21
  t37 := Tryd.underlying41
  a37 := Tryd.isAgg41
  z37 := Tryd.sizeOf41
  v37 := Tryd.zeroValue41
  t46 := Tryd.underlying87
  a46 := Tryd.isAgg87
  z46 := Tryd.sizeOf87
  v46 := Tryd.zeroValue87
  t51 := Tryd.underlying104
  a51 := Tryd.isAgg104
  z51 := Tryd.sizeOf104
  v51 := Tryd.zeroValue104
  t53 := Tryd.underlying88
  a53 := Tryd.isAgg88
  z53 := Tryd.sizeOf88
  v53 := Tryd.zeroValue88
  t75 := Tryd.underlying46
  a75 := Tryd.isAgg46
  z75 := Tryd.sizeOf46
  v75 := Tryd.zeroValue46
  t76 := Tryd.underlying47
  a76 := Tryd.isAgg47
  z76 := Tryd.sizeOf47
  v76 := Tryd.zeroValue47
  t85 := Tryd.underlying80
  a85 := Tryd.isAgg80
  z85 := Tryd.sizeOf80
  v85 := Tryd.zeroValue80
  t127 := Tryd.underlying64
  a127 := Tryd.isAgg64
  z127 := Tryd.sizeOf64
  v127 := Tryd.zeroValue64
  t143 := Tryd.underlying108
  a143 := Tryd.isAgg108
  z143 := Tryd.sizeOf108
  v143 := Tryd.zeroValue108
  t145 := Tryd.underlying110
  a145 := Tryd.isAgg110
  z145 := Tryd.sizeOf110
  v145 := Tryd.zeroValue110
  t167 := Tryd.underlying79
  a167 := Tryd.isAgg79
  z167 := Tryd.sizeOf79
  v167 := Tryd.zeroValue79
  t168 := Tryd.underlying82
  a168 := Tryd.isAgg82
  z168 := Tryd.sizeOf82
  v168 := Tryd.zeroValue82
  t171 := Tryd.underlying95
  a171 := Tryd.isAgg95
  z171 := Tryd.sizeOf95
  v171 := Tryd.zeroValue95
  t173 := Tryd.underlying98
  a173 := Tryd.isAgg98
  z173 := Tryd.sizeOf98
  v173 := Tryd.zeroValue98
  t175 := Tryd.underlying89
  a175 := Tryd.isAgg89
  z175 := Tryd.sizeOf89
  v175 := Tryd.zeroValue89
  t210 := Tryd.underlying93
  a210 := Tryd.isAgg93
  z210 := Tryd.sizeOf93
  v210 := Tryd.zeroValue93
  t212 := Tryd.underlying112
  a212 := Tryd.isAgg112
  z212 := Tryd.sizeOf112
  v212 := Tryd.zeroValue112
  t213 := Tryd.underlying113
  a213 := Tryd.isAgg113
  z213 := Tryd.sizeOf113
  t232 := Tryd.underlying116
  a232 := Tryd.isAgg116
  z232 := Tryd.sizeOf116
  v232 := Tryd.zeroValue116
  t233 := Tryd.underlying117
  a233 := Tryd.isAgg117
  z233 := Tryd.sizeOf117
  v233 := Tryd.zeroValue117
  g15 := by kernel_rfl
  g16 := by kernel_rfl
  g17 := by kernel_rfl
  g18 := by kernel_rfl
  g19 := by kernel_rfl
  t80 := Tryd.underlying49
  a80 := Tryd.isAgg49
  z80 := Tryd.sizeOf49
  v80 := Tryd.zeroValue49
  i0 := by kernel_rfl
  i2 := by kernel_rfl
  i3 := by kernel_rfl
  i4 := by kernel_rfl
  i5 := by kernel_rfl
  i9 := by kernel_rfl
  i20 := by kernel_rfl
  i21 := by kernel_rfl
  i37 := by kernel_rfl
  i46 := by kernel_rfl
  i51 := by kernel_rfl
  i53 := by kernel_rfl
  i75 := by kernel_rfl
  i76 := by kernel_rfl
  i80 := by kernel_rfl
  i85 := by kernel_rfl
  i127 := by kernel_rfl
  i143 := by kernel_rfl
  i145 := by kernel_rfl
  i167 := by kernel_rfl
  i168 := by kernel_rfl
  i171 := by kernel_rfl
  i173 := by kernel_rfl
  i175 := by kernel_rfl
  i210 := by kernel_rfl
  i212 := by kernel_rfl
  i232 := by kernel_rfl
  i233 := by kernel_rfl
  m15 := by kernel_rfl
  m16 := by kernel_rfl
  m17 := by kernel_rfl
  m18 := by kernel_rfl
  m19 := by kernel_rfl
  c0 := by kernel_rfl
  c2 := by kernel_rfl
  c3 := by kernel_rfl
  c4 := by kernel_rfl
  c5 := by kernel_rfl
  c9 := by kernel_rfl
  c20 := by kernel_rfl
  c21 := by kernel_rfl
  c37 := by kernel_rfl
  c46 := by kernel_rfl
  c51 := by kernel_rfl
  c53 := by kernel_rfl
  c75 := by kernel_rfl
  c76 := by kernel_rfl
  c80 := by kernel_rfl
  c85 := by kernel_rfl
  c127 := by kernel_rfl
  c143 := by kernel_rfl
  c145 := by kernel_rfl
  c167 := by kernel_rfl
  c168 := by kernel_rfl
  c171 := by kernel_rfl
  c173 := by kernel_rfl
  c175 := by kernel_rfl
  c210 := by kernel_rfl
  c212 := by kernel_rfl
  c213 := by kernel_rfl
  c232 := by kernel_rfl
  c233 := by kernel_rfl }
def laySplitR : Go.Shelf.Ren := ⟨fun | 146 => 23 | 221 => 32 | 268 => 43 | 138 => 44 | 143 => 45 | 195 => 50 | 197 => 51 | 218 => 52 | 219 => 53 | 260 => 60 | 217 => 61 | 225 => 62 | 224 => 63 | 267 => 64 | 266 => 72 | 314 => 73 | n => n, fun | 9 => 9 | 31 => 51 | 3 => 3 | 4 => 4 | 0 => 0 | 105 => 76 | 21 => 21 | 5 => 5 | 46 => 87 | 119 => 100 | 139 => 103 | 138 => 102 | 146 => 105 | 51 => 104 | n => n, fun | 1 => 0 | 3 => 3 | 4 => 4 | n => n⟩
theorem laySplit : Lays.n146 Tryd.prog laySplitR := {
  mixed := by kernel_rfl
  f138 := Tryd.func44.trans (congrArg some (by kernel_rfl))
  f143 := Tryd.func45.trans (congrArg some (by kernel_rfl))
  f146 := Tryd.func23.trans (congrArg some (by kernel_rfl))
  f195 := Tryd.func50.trans (congrArg some (by kernel_rfl))
  f197 := Tryd.func51.trans (congrArg some (by kernel_rfl))
  f217 := Tryd.func61.trans (congrArg some (by kernel_rfl))
  f218 := Tryd.func52.trans (congrArg some (by kernel_rfl))
  f219 := Tryd.func53.trans (congrArg some (by kernel_rfl))
  f221 := Tryd.func32.trans (congrArg some (by kernel_rfl))
  f224 := Tryd.func63.trans (congrArg some (by kernel_rfl))
  f225 := Tryd.func62.trans (congrArg some (by kernel_rfl))
  f260 := Tryd.func60.trans (congrArg some (by kernel_rfl))
  f266 := Tryd.func72.trans (congrArg some (by kernel_rfl))
  f267 := Tryd.func64.trans (congrArg some (by kernel_rfl))
  f268 := Tryd.func43.trans (congrArg some (by kernel_rfl))
  f314 := Tryd.func73.trans (congrArg some (by kernel_rfl))
  t0 := Tryd.underlying0
  a0 := Tryd.isAgg0
  z0 := Tryd.sizeOf0
  v0 := Tryd.zeroValue0
  t3 := Tryd.underlying3
  a3 := Tryd.isAgg3
  z3 := Tryd.sizeOf3
  v3 := Tryd.zeroValue3
  t4 := Tryd.underlying4
  a4 := Tryd.isAgg4
  z4 := Tryd.sizeOf4
  v4 := Tryd.zeroValue4
  t5 := Tryd.underlying5
  a5 := Tryd.isAgg5
  z5 := Tryd.sizeOf5
  v5 := Tryd.zeroValue5
  t9 := Tryd.underlying9
  a9 := Tryd.isAgg9
  z9 := Tryd.sizeOf9
  v9 := Tryd.zeroValue9
  t21 := Tryd.underlying21
  a21 := Tryd.isAgg21
  z21 := Tryd.sizeOf21
  v21 := Tryd.zeroValue21
  t31 := Tryd.underlying51
  a31 := Tryd.isAgg51
  z31 := Tryd.sizeOf51
  v31 := Tryd.zeroValue51
  t46 := Tryd.underlying87
  a46 := Tryd.isAgg87
  z46 := Tryd.sizeOf87
  v46 := Tryd.zeroValue87
  t51 := Tryd.underlying104
  a51 := Tryd.isAgg104
  z51 := Tryd.sizeOf104
  v51 := Tryd.zeroValue104
  t105 := Tryd.underlying76
  a105 := Tryd.isAgg76
  z105 := Tryd.sizeOf76
  v105 := Tryd.zeroValue76
  t119 := Tryd.underlying100
  a119 := Tryd.isAgg100
  z119 := Tryd.sizeOf100
  t138 := Tryd.underlying102
  a138 := Tryd.isAgg102
  z138 := Tryd.sizeOf102
  v138 := Tryd.zeroValue102
  t139 := Tryd.underlying103
  a139 := Tryd.isAgg103
  z139 := Tryd.sizeOf103
  v139 := Tryd.zeroValue103
  t146 := Tryd.underlying105
  a146 := Tryd.isAgg105
  z146 := Tryd.sizeOf105
  v146 := Tryd.zeroValue105
  g1 := by kernel_rfl
  g3 := by kernel_rfl
  g4 := by kernel_rfl }
def laySplitMR : Go.Shelf.Ren := ⟨fun | 146 => 23 | 221 => 32 | 268 => 43 | 138 => 44 | 143 => 45 | 195 => 50 | 197 => 51 | 218 => 52 | 219 => 53 | 260 => 60 | 217 => 61 | 225 => 62 | 224 => 63 | 267 => 64 | 266 => 72 | 314 => 73 | n => n, fun | 9 => 9 | 31 => 51 | 3 => 3 | 4 => 4 | 0 => 0 | 105 => 76 | 21 => 21 | 5 => 5 | 46 => 87 | 119 => 100 | 139 => 103 | 138 => 102 | 146 => 105 | 51 => 104 | n => n, fun | 1 => 0 | 3 => 3 | 4 => 4 | n => n⟩
theorem laySplitM : LaysM.n146 Tryd.prog laySplitMR := {
  mixed := by kernel_rfl
  f138 := Tryd.func44.trans (congrArg some (by kernel_rfl))
  f143 := Tryd.func45.trans (congrArg some (by kernel_rfl))
  f146 := Tryd.func23.trans (congrArg some (by kernel_rfl))
  f195 := Tryd.func50.trans (congrArg some (by kernel_rfl))
  f197 := Tryd.func51.trans (congrArg some (by kernel_rfl))
  f217 := Tryd.func61.trans (congrArg some (by kernel_rfl))
  f218 := Tryd.func52.trans (congrArg some (by kernel_rfl))
  f219 := Tryd.func53.trans (congrArg some (by kernel_rfl))
  f221 := Tryd.func32.trans (congrArg some (by kernel_rfl))
  f224 := Tryd.func63.trans (congrArg some (by kernel_rfl))
  f225 := Tryd.func62.trans (congrArg some (by kernel_rfl))
  f260 := Tryd.func60.trans (congrArg some (by kernel_rfl))
  f266 := Tryd.func72.trans (congrArg some (by kernel_rfl))
  f267 := Tryd.func64.trans (congrArg some (by kernel_rfl))
  f268 := Tryd.func43.trans (congrArg some (by kernel_rfl))
  f314 := Tryd.func73.trans (congrArg some (by kernel_rfl))
  t0 := Tryd.underlying0
  a0 := Tryd.isAgg0
  z0 := Tryd.sizeOf0
  v0 := Tryd.zeroValue0
  t3 := Tryd.underlying3
  a3 := Tryd.isAgg3
  z3 := Tryd.sizeOf3
  v3 := Tryd.zeroValue3
  t4 := Tryd.underlying4
  a4 := Tryd.isAgg4
  z4 := Tryd.sizeOf4
  v4 := Tryd.zeroValue4
  t5 := Tryd.underlying5
  a5 := Tryd.isAgg5
  z5 := Tryd.sizeOf5
  v5 := Tryd.zeroValue5
  t9 := Tryd.underlying9
  a9 := Tryd.isAgg9
  z9 := Tryd.sizeOf9
  v9 := Tryd.zeroValue9
  t21 := Tryd.underlying21
  a21 := Tryd.isAgg21
  z21 := Tryd.sizeOf21
  v21 := Tryd.zeroValue21
  t31 := Tryd.underlying51
  a31 := Tryd.isAgg51
  z31 := Tryd.sizeOf51
  v31 := Tryd.zeroValue51
  t46 := Tryd.underlying87
  a46 := Tryd.isAgg87
  z46 := Tryd.sizeOf87
  v46 := Tryd.zeroValue87
  t51 := Tryd.underlying104
  a51 := Tryd.isAgg104
  z51 := Tryd.sizeOf104
  v51 := Tryd.zeroValue104
  t105 := Tryd.underlying76
  a105 := Tryd.isAgg76
  z105 := Tryd.sizeOf76
  v105 := Tryd.zeroValue76
  t119 := Tryd.underlying100
  a119 := Tryd.isAgg100
  z119 := Tryd.sizeOf100
  t138 := Tryd.underlying102
  a138 := Tryd.isAgg102
  z138 := Tryd.sizeOf102
  v138 := Tryd.zeroValue102
  t139 := Tryd.underlying103
  a139 := Tryd.isAgg103
  z139 := Tryd.sizeOf103
  v139 := Tryd.zeroValue103
  t146 := Tryd.underlying105
  a146 := Tryd.isAgg105
  z146 := Tryd.sizeOf105
  v146 := Tryd.zeroValue105
  g1 := by kernel_rfl
  g3 := by kernel_rfl
  g4 := by kernel_rfl
  i0 := by kernel_rfl
  i3 := by kernel_rfl
  i4 := by kernel_rfl
  i5 := by kernel_rfl
  i9 := by kernel_rfl
  i21 := by kernel_rfl
  i31 := by kernel_rfl
  i46 := by kernel_rfl
  i51 := by kernel_rfl
  i105 := by kernel_rfl
  i138 := by kernel_rfl
  i139 := by kernel_rfl
  i146 := by kernel_rfl
  m1 := by kernel_rfl
  s1_3 := fun w h => Go.Proofs.cell_of_shapedOpen_int (zero := #[.int .i64 0]) (t := 3) h (of_decide_eq_true (by kernel_rfl)) (by kernel_rfl) rfl (by kernel_rfl) (by kernel_rfl) Tryd.underlying3
  m3 := by kernel_rfl
  m4 := by kernel_rfl }
/-- An error: there, or nil. -/
def AV.err (b : Bool) : AV := ⟨fun _ v => (b = true → ∃ t p, v = .iface t p) ∧ (b = false → v = .nilIface), fun _ _ _ _ h => h⟩
/-- What the library's variables hold: the table; the greatest length of a search by hand; two errors. -/
def Tab4 (I : Im) : Prop := Tab I ∧ (∃ cs m, I 0 = some cs ∧ cs[0]? = some (.int .i64 m)) ∧ (∃ cs t p, I 1 = some cs ∧ cs[0]? = some (.iface t p)) ∧ (∃ cs t p, I 2 = some cs ∧ cs[0]? = some (.iface t p))
theorem Tab4.up {I J : Im} (hl : Im.le I J) (h : Tab4 I) : Tab4 J := by
  obtain ⟨h1, ⟨cs, m, h2, h3⟩, ⟨ct, t, p, h4, h5⟩, ⟨cu, u, q, h6, h7⟩⟩ := h
  exact ⟨h1.up hl, ⟨cs, m, hl _ _ h2, h3⟩, ⟨ct, t, p, hl _ _ h4, h5⟩, ⟨cu, u, q, hl _ _ h6, h7⟩⟩
def AV.tab4 (x : AV) : AV := ⟨fun I v => x.h I v ∧ Tab4 I, fun I J v hl h => ⟨x.up I J v hl h.1, h.2.up hl⟩⟩
theorem At.tab4 {Γ : Env} {g : Bool} {t : Nat} {o : Operand} {x y : AV} (h : Env.get t Γ = some (AV.tab4 y)) (k : At Γ g o x) : At Γ g o (AV.tab4 x) := fun I a he hg => ⟨k I a he hg, (he t _ h).2⟩
theorem At.tab41 {Γ : Env} {g : Bool} {t : Nat} {o : Operand} {x y : AV} (h : Env.get t Γ = some (AV.tab4 y)) (k : At Γ g o x) : At Γ g o (AV.tab x) := fun I a he hg => ⟨k I a he hg, (he t _ h).2.1⟩
theorem At.untab4 {Γ : Env} {g : Bool} {t : Nat} {y : AV} (h : Env.get t Γ = some (AV.tab4 y)) : At Γ g (.tmp t) y := fun I a he _ => (he t _ h).1
theorem cell_im {w : World} {I : Im} (hm : Models w I) {b : Nat} {cs : Array Value} {v : Value} (h : I b = some cs) (hv : cs[0]? = some v) : w.cell? ⟨b, 0, none⟩ = some v := by
  obtain ⟨T, fr, hb⟩ := hm _ _ h
  simp only [World.cell?, hb]; simpa using hv
theorem run_neq_nil {P : Program} {w : World} {T : TypeId} {ms : Array (String × TypeId)} {x : Value} {b : Bool} (hT : P.underlying T = some (.interface ms)) (h : (b = true → ∃ t p, x = .iface t p) ∧ (b = false → x = .nilIface)) :
    (binOp .neq T x .nilIface).run P w = .ok (.bool b) w := by
  have key : ∀ d : Nat, (Op.equalIn (d + 1) T x .nilIface).run P w = .ok (!b) w := fun d => by
    cases b with
    | true => obtain ⟨t, q, rfl⟩ := h.1 rfl; simp [Op.equalIn, run_underlying hT]
    | false => rw [h.2 rfl]; simp [Op.equalIn, run_underlying hT]
  simp only [binOp]
  simp [Op.equal, Op.maxDepth, key 9999]
theorem ok_neNil {P : Program} {H : List Own} {Γ : Env} {g : Bool} {d : Option Tmp} {y : Operand} {ty T T' : TypeId} {ms : Array (String × TypeId)} {p : String} {af : Array Edge} {gd : Option (Nat × Bool)} {b : Bool} (hT : P.underlying T = some (.interface ms)) (hy : At Γ g y (.err b)) :
    Ok P H Γ g ⟨d, .binOp .neq T y (.const .nilIface) T', ty, p, af, gd⟩ (.bool b) :=
  ok_val fun I a w he hg => by
    have h := hy I a he hg
    have e2 : a.eval (.const .nilIface) = .nilIface := rfl
    have hgd : (eqGuard .neq T y (.const .nilIface) (a.eval y) .nilIface).run P w = .ok () w := by
      cases b with
      | true => obtain ⟨t, q, e⟩ := h.1 rfl; rw [e]; simp [eqGuard]
      | false => rw [h.2 rfl]; simp [eqGuard]
    simp only [execOp, e2, Sem.run_bind, hgd, Result.andThen_ok, run_neq_nil hT h, Sem.run_pure]
theorem c_strings_Split (s : List UInt8) (ch : UInt8) (hl : s.length ≤ 1048576) : Fn Tryd.prog 23 [AV.tab4 (AV.text s), AV.text [ch]] (textsAV (splitB ch s)) := by
  refine ⟨Enters.of Tryd.func23 rfl (by kernel_rfl), fun I w vs hm ha => ?_⟩
  obtain ⟨vs⟩ := vs
  match vs, ha with
  | [v, u], ⟨⟨hv, _, ⟨cs, m, h1, h2⟩, _⟩, hu, _⟩ =>
    have hv : v = .string ⟨s.toArray⟩ := hv
    have hu : u = .string ⟨[ch].toArray⟩ := hu
    subst hv hu
    refine (Any.strings_Split laySplit (by kernel_rfl) ⟨s.toArray⟩ ⟨#[ch]⟩ m w (by rw [text_size]; omega) (cell_im hm h1 h2) (Nat.le_refl _)).mono ?_
    rintro e w' ⟨rfl, rfl⟩
    have hs := lib_split ch _ ⟨s.toArray⟩ rfl
    have hlen := Lib.splitB_all ⟨#[ch]⟩ (Nat.le_refl _) 0 _ ⟨s.toArray⟩ rfl
    generalize Lib.splitB ⟨#[ch]⟩ 0 (Lib.countB ⟨s.toArray⟩ ⟨#[ch]⟩) ⟨s.toArray⟩ = bs at hs hlen
    rw [← hlen]
    have hs' : bs.map (fun b => b.data.toList) = splitB ch s := by simpa using hs
    have hl2 : (splitB ch s).length = bs.length := by rw [← hs']; simp
    have hbl := splitB_len ch s
    refine ⟨I.add w.heap.size (bs.map Value.string).toArray, Step.allocP hm _ _ (0, 0), some ⟨w.heap.size, 0, none⟩, bs.length, by rw [List.length_map, hl2], by rw [List.length_map, hl2]; exact Nat.le_refl _, by simp only [maxLen]; omega, ?_, .inr ⟨⟨w.heap.size, 0, none⟩, rfl, rfl, (bs.map Value.string).toArray, by simp [Im.add], ?_⟩, (fun h => by cases h), (fun q hq => by cases hq; rfl)⟩
    · intro r hr
      obtain ⟨x, _, rfl⟩ := List.mem_map.1 hr; rfl
    · have key : ∀ bs : List ByteArray, HoldsL (I.add w.heap.size (bs.map Value.string).toArray) ((bs.map fun b => b.data.toList).map textCell).flatten (bs.map Value.string) := by
        intro bs
        generalize I.add w.heap.size (bs.map Value.string).toArray = J
        induction bs with
        | nil => trivial
        | cons b bs ih => exact ⟨⟨rfl, rfl⟩, ih⟩
      have hfl : ((splitB ch s).map textCell).flatten.length = bs.length := by
        rw [flatten_length (sz := 1) (fun r hr => by obtain ⟨x, _, rfl⟩ := List.mem_map.1 hr; rfl)]; simp [hl2]
      simp only [List.drop_zero]
      rw [List.take_of_length_le (by rw [hfl]; simp), ← hs']
      exact key bs
theorem c_strconv_Atoi (s : List UInt8) (hl : s.length ≤ 1048576) : Fn Tryd.prog 33 [AV.tab4 (AV.text s)] (AV.tup [AV.int (atoiV s).1, AV.err (atoiV s).2]) := by
  refine ⟨Enters.of Tryd.func33 rfl (by kernel_rfl), fun I w vs hm ha => ?_⟩
  obtain ⟨vs⟩ := vs
  match vs, ha with
  | [v], ⟨⟨hv, _, _, ⟨ct, te, pe, h3, h4⟩, ⟨cu, tf, pf, h5, h6⟩⟩, _⟩ =>
    have hv : v = .string ⟨s.toArray⟩ := hv
    subst hv
    cases hA : Lib.atoiAll s with
    | ok v =>
      have e1 : atoiV s = (v, false) := by unfold atoiV; rw [hA]
      rw [e1]
      refine (Any.strconv_Atoi_ok layAtoi ⟨s.toArray⟩ (by rw [text_size]; omega) v (by simpa using hA) w).mono ?_
      rintro e w' ⟨rfl, hw⟩
      have hb : Below w.heap.size w w' := by
        rcases hw with rfl | ⟨t, rfl⟩
        · exact Below.refl _ _
        · exact Lib.bytesWorld_below _ _ _
      exact ⟨I, Step.of_below hm hb, _, rfl, rfl, ⟨(fun h => by cases h), (fun _ => rfl)⟩, trivial⟩
    | range =>
      have e1 : atoiV s = (Lib.atoiSat s, true) := by unfold atoiV; rw [hA]
      rw [e1]
      refine (Any.strconv_Atoi_range layAtoi ⟨s.toArray⟩ (by rw [text_size]; omega) (by simpa using hA) _ w (cell_im hm h5 h6) (.inr ⟨_, _, rfl⟩)).mono ?_
      rintro e w' ⟨N, rfl, _, _, hb⟩
      exact ⟨I, Step.of_below hm hb, _, rfl, rfl, ⟨(fun _ => ⟨_, _, rfl⟩), (fun h => by cases h)⟩, trivial⟩
    | _ =>
      have e1 : atoiV s = (0, true) := by unfold atoiV; rw [hA]
      rw [e1]
      refine (Any.strconv_Atoi_syntax layAtoi ⟨s.toArray⟩ (by rw [text_size]; omega) (by simpa using hA) _ w (cell_im hm h3 h4) (.inr ⟨_, _, rfl⟩)).mono ?_
      rintro e w' ⟨N, rfl, _, _, hb⟩
      exact ⟨I, Step.of_below hm hb, _, rfl, rfl, ⟨(fun _ => ⟨_, _, rfl⟩), (fun h => by cases h)⟩, trivial⟩

end Go.Proofs.YtblcocjbnjfhkaaDoor

/- Part 42: rules of the proofs, contracts of functions, plain facts. -/
import Derived.Shelf.Strings.Split
import Derived.Shelf.Strings.SplitShaped
import Derived.Shelf.Strconv.AtoiAll
import Derived.Test.YtkoebplikhlapaaGreatDoorP41
set_option linter.unusedVariables false
set_option linter.unusedSimpArgs false
set_option maxRecDepth 100000
namespace Go.Proofs.YtkoebplikhlapaaGreatDoor
open Go Go.RowKit
open Go.Shelf
def layAtoiR : Go.Shelf.Ren := ⟨fun | 172 => 35 | 244 => 56 | 245 => 57 | 247 => 68 | 279 => 69 | 280 => 70 | 281 => 71 | 282 => 72 | 287 => 83 | 316 => 84 | 171 => 37 | 205 => 85 | 321 => 102 | 322 => 103 | 243 => 59 | 246 => 73 | 283 => 86 | 284 => 87 | 285 => 88 | 286 => 89 | 129 => 105 | 317 => 104 | 318 => 106 | 319 => 107 | 320 => 108 | 337 => 134 | 338 => 135 | n => n, fun | 9 => 9 | 3 => 3 | 75 => 61 | 76 => 62 | 4 => 4 | 5 => 5 | 167 => 107 | 37 => 22 | 0 => 0 | 85 => 108 | 2 => 2 | 168 => 110 | 53 => 120 | 175 => 121 | 46 => 119 | 210 => 125 | 127 => 84 | 145 => 154 | 143 => 152 | 21 => 21 | 171 => 127 | 173 => 130 | 212 => 156 | 51 => 147 | 20 => 20 | 213 => 157 | 232 => 209 | 233 => 210 | 80 => 64 | n => n, fun | 15 => 1 | 16 => 2 | 17 => 5 | 18 => 6 | 19 => 7 | n => n⟩
theorem layAtoi : LaysC.n172 Tryz.prog layAtoiR := {
  mixed := by kernel_rfl
  f129 := Tryz.func105.trans (congrArg some (by kernel_rfl))
  f171 := Tryz.func37.trans (congrArg some (by kernel_rfl))
  f172 := Tryz.func35.trans (congrArg some (by kernel_rfl))
  f205 := Tryz.func85.trans (congrArg some (by kernel_rfl))
  f243 := Tryz.func59.trans (congrArg some (by kernel_rfl))
  f244 := Tryz.func56.trans (congrArg some (by kernel_rfl))
  f245 := Tryz.func57.trans (congrArg some (by kernel_rfl))
  f246 := Tryz.func73.trans (congrArg some (by kernel_rfl))
  f247 := Tryz.func68.trans (congrArg some (by kernel_rfl))
  f279 := Tryz.func69.trans (congrArg some (by kernel_rfl))
  f280 := Tryz.func70.trans (congrArg some (by kernel_rfl))
  f281 := Tryz.func71.trans (congrArg some (by kernel_rfl))
  f282 := Tryz.func72.trans (congrArg some (by kernel_rfl))
  f283 := Tryz.func86.trans (congrArg some (by kernel_rfl))
  f284 := Tryz.func87.trans (congrArg some (by kernel_rfl))
  f285 := Tryz.func88.trans (congrArg some (by kernel_rfl))
  f286 := Tryz.func89.trans (congrArg some (by kernel_rfl))
  f287 := Tryz.func83.trans (congrArg some (by kernel_rfl))
  f316 := Tryz.func84.trans (congrArg some (by kernel_rfl))
  f317 := Tryz.func104.trans (congrArg some (by kernel_rfl))
  f318 := Tryz.func106.trans (congrArg some (by kernel_rfl))
  f319 := Tryz.func107.trans (congrArg some (by kernel_rfl))
  f320 := Tryz.func108.trans (congrArg some (by kernel_rfl))
  f321 := Tryz.func102.trans (congrArg some (by kernel_rfl))
  f322 := Tryz.func103.trans (congrArg some (by kernel_rfl))
  f337 := Tryz.func134.trans (congrArg some (by kernel_rfl))
  f338 := Tryz.func135.trans (congrArg some (by kernel_rfl))
  t0 := Tryz.underlying0
  a0 := Tryz.isAgg0
  z0 := Tryz.sizeOf0
  v0 := Tryz.zeroValue0
  t2 := Tryz.underlying2
  a2 := Tryz.isAgg2
  z2 := Tryz.sizeOf2
  v2 := Tryz.zeroValue2
  t3 := Tryz.underlying3
  a3 := Tryz.isAgg3
  z3 := Tryz.sizeOf3
  v3 := Tryz.zeroValue3
  t4 := Tryz.underlying4
  a4 := Tryz.isAgg4
  z4 := Tryz.sizeOf4
  v4 := Tryz.zeroValue4
  t5 := Tryz.underlying5
  a5 := Tryz.isAgg5
  z5 := Tryz.sizeOf5
  v5 := Tryz.zeroValue5
  t9 := Tryz.underlying9
  a9 := Tryz.isAgg9
  z9 := Tryz.sizeOf9
  v9 := Tryz.zeroValue9
  t20 := Tryz.underlying20
  a20 := Tryz.isAgg20
  z20 := Tryz.sizeOf20
  v20 := Tryz.zeroValue20
  t21 := Tryz.underlying21
  a21 := Tryz.isAgg21
  z21 := Tryz.sizeOf21
  v21 := Tryz.zeroValue21
  t37 := Tryz.underlying22
  a37 := Tryz.isAgg22
  z37 := Tryz.sizeOf22
  v37 := Tryz.zeroValue22
  t46 := Tryz.underlying119
  a46 := Tryz.isAgg119
  z46 := Tryz.sizeOf119
  v46 := Tryz.zeroValue119
  t51 := Tryz.underlying147
  a51 := Tryz.isAgg147
  z51 := Tryz.sizeOf147
  v51 := Tryz.zeroValue147
  t53 := Tryz.underlying120
  a53 := Tryz.isAgg120
  z53 := Tryz.sizeOf120
  v53 := Tryz.zeroValue120
  t75 := Tryz.underlying61
  a75 := Tryz.isAgg61
  z75 := Tryz.sizeOf61
  v75 := Tryz.zeroValue61
  t76 := Tryz.underlying62
  a76 := Tryz.isAgg62
  z76 := Tryz.sizeOf62
  v76 := Tryz.zeroValue62
  t85 := Tryz.underlying108
  a85 := Tryz.isAgg108
  z85 := Tryz.sizeOf108
  v85 := Tryz.zeroValue108
  t127 := Tryz.underlying84
  a127 := Tryz.isAgg84
  z127 := Tryz.sizeOf84
  v127 := Tryz.zeroValue84
  t143 := Tryz.underlying152
  a143 := Tryz.isAgg152
  z143 := Tryz.sizeOf152
  v143 := Tryz.zeroValue152
  t145 := Tryz.underlying154
  a145 := Tryz.isAgg154
  z145 := Tryz.sizeOf154
  v145 := Tryz.zeroValue154
  t167 := Tryz.underlying107
  a167 := Tryz.isAgg107
  z167 := Tryz.sizeOf107
  v167 := Tryz.zeroValue107
  t168 := Tryz.underlying110
  a168 := Tryz.isAgg110
  z168 := Tryz.sizeOf110
  v168 := Tryz.zeroValue110
  t171 := Tryz.underlying127
  a171 := Tryz.isAgg127
  z171 := Tryz.sizeOf127
  v171 := Tryz.zeroValue127
  t173 := Tryz.underlying130
  a173 := Tryz.isAgg130
  z173 := Tryz.sizeOf130
  v173 := Tryz.zeroValue130
  t175 := Tryz.underlying121
  a175 := Tryz.isAgg121
  z175 := Tryz.sizeOf121
  v175 := Tryz.zeroValue121
  t210 := Tryz.underlying125
  a210 := Tryz.isAgg125
  z210 := Tryz.sizeOf125
  v210 := Tryz.zeroValue125
  t212 := Tryz.underlying156
  a212 := Tryz.isAgg156
  z212 := Tryz.sizeOf156
  v212 := Tryz.zeroValue156
  t213 := Tryz.underlying157
  a213 := Tryz.isAgg157
  z213 := Tryz.sizeOf157
  t232 := Tryz.underlying209
  a232 := Tryz.isAgg209
  z232 := Tryz.sizeOf209
  v232 := Tryz.zeroValue209
  t233 := Tryz.underlying210
  a233 := Tryz.isAgg210
  z233 := Tryz.sizeOf210
  v233 := Tryz.zeroValue210
  g15 := by kernel_rfl
  g16 := by kernel_rfl
  g17 := by kernel_rfl
  g18 := by kernel_rfl
  g19 := by kernel_rfl
  t80 := Tryz.underlying64
  a80 := Tryz.isAgg64
  z80 := Tryz.sizeOf64
  v80 := Tryz.zeroValue64
  i0 := by kernel_rfl
  i2 := by kernel_rfl
  i3 := by kernel_rfl
  i4 := by kernel_rfl
  i5 := by kernel_rfl
  i9 := by kernel_rfl
  i20 := by kernel_rfl
  i21 := by kernel_rfl
  i37 := by kernel_rfl
  i46 := by kernel_rfl
  i51 := by kernel_rfl
  i53 := by kernel_rfl
  i75 := by kernel_rfl
  i76 := by kernel_rfl
  i80 := by kernel_rfl
  i85 := by kernel_rfl
  i127 := by kernel_rfl
  i143 := by kernel_rfl
  i145 := by kernel_rfl
  i167 := by kernel_rfl
  i168 := by kernel_rfl
  i171 := by kernel_rfl
  i173 := by kernel_rfl
  i175 := by kernel_rfl
  i210 := by kernel_rfl
  i212 := by kernel_rfl
  i232 := by kernel_rfl
  i233 := by kernel_rfl
  m15 := by kernel_rfl
  m16 := by kernel_rfl
  m17 := by kernel_rfl
  m18 := by kernel_rfl
  m19 := by kernel_rfl
  c0 := by kernel_rfl
  c2 := by kernel_rfl
  c3 := by kernel_rfl
  c4 := by kernel_rfl
  c5 := by kernel_rfl
  c9 := by kernel_rfl
  c20 := by kernel_rfl
  c21 := by kernel_rfl
  c37 := by kernel_rfl
  c46 := by kernel_rfl
  c51 := by kernel_rfl
  c53 := by kernel_rfl
  c75 := by kernel_rfl
  c76 := by kernel_rfl
  c80 := by kernel_rfl
  c85 := by kernel_rfl
  c127 := by kernel_rfl
  c143 := by kernel_rfl
  c145 := by kernel_rfl
  c167 := by kernel_rfl
  c168 := by kernel_rfl
  c171 := by kernel_rfl
  c173 := by kernel_rfl
  c175 := by kernel_rfl
  c210 := by kernel_rfl
  c212 := by kernel_rfl
  c213 := by kernel_rfl
  c232 := by kernel_rfl
  c233 := by kernel_rfl }
def laySplitR : Go.Shelf.Ren := ⟨fun | 146 => 20 | 221 => 33 | 268 => 47 | 138 => 48 | 143 => 49 | 195 => 64 | 197 => 65 | 218 => 66 | 219 => 67 | 260 => 78 | 217 => 79 | 225 => 80 | 224 => 81 | 267 => 82 | 266 => 100 | 314 => 101 | n => n, fun | 9 => 9 | 31 => 47 | 3 => 3 | 4 => 4 | 0 => 0 | 105 => 104 | 21 => 21 | 5 => 5 | 46 => 119 | 119 => 143 | 139 => 146 | 138 => 145 | 146 => 148 | 51 => 147 | n => n, fun | 1 => 0 | 3 => 3 | 4 => 4 | n => n⟩
theorem laySplit : Lays.n146 Tryz.prog laySplitR := {
  mixed := by kernel_rfl
  f138 := Tryz.func48.trans (congrArg some (by kernel_rfl))
  f143 := Tryz.func49.trans (congrArg some (by kernel_rfl))
  f146 := Tryz.func20.trans (congrArg some (by kernel_rfl))
  f195 := Tryz.func64.trans (congrArg some (by kernel_rfl))
  f197 := Tryz.func65.trans (congrArg some (by kernel_rfl))
  f217 := Tryz.func79.trans (congrArg some (by kernel_rfl))
  f218 := Tryz.func66.trans (congrArg some (by kernel_rfl))
  f219 := Tryz.func67.trans (congrArg some (by kernel_rfl))
  f221 := Tryz.func33.trans (congrArg some (by kernel_rfl))
  f224 := Tryz.func81.trans (congrArg some (by kernel_rfl))
  f225 := Tryz.func80.trans (congrArg some (by kernel_rfl))
  f260 := Tryz.func78.trans (congrArg some (by kernel_rfl))
  f266 := Tryz.func100.trans (congrArg some (by kernel_rfl))
  f267 := Tryz.func82.trans (congrArg some (by kernel_rfl))
  f268 := Tryz.func47.trans (congrArg some (by kernel_rfl))
  f314 := Tryz.func101.trans (congrArg some (by kernel_rfl))
  t0 := Tryz.underlying0
  a0 := Tryz.isAgg0
  z0 := Tryz.sizeOf0
  v0 := Tryz.zeroValue0
  t3 := Tryz.underlying3
  a3 := Tryz.isAgg3
  z3 := Tryz.sizeOf3
  v3 := Tryz.zeroValue3
  t4 := Tryz.underlying4
  a4 := Tryz.isAgg4
  z4 := Tryz.sizeOf4
  v4 := Tryz.zeroValue4
  t5 := Tryz.underlying5
  a5 := Tryz.isAgg5
  z5 := Tryz.sizeOf5
  v5 := Tryz.zeroValue5
  t9 := Tryz.underlying9
  a9 := Tryz.isAgg9
  z9 := Tryz.sizeOf9
  v9 := Tryz.zeroValue9
  t21 := Tryz.underlying21
  a21 := Tryz.isAgg21
  z21 := Tryz.sizeOf21
  v21 := Tryz.zeroValue21
  t31 := Tryz.underlying47
  a31 := Tryz.isAgg47
  z31 := Tryz.sizeOf47
  v31 := Tryz.zeroValue47
  t46 := Tryz.underlying119
  a46 := Tryz.isAgg119
  z46 := Tryz.sizeOf119
  v46 := Tryz.zeroValue119
  t51 := Tryz.underlying147
  a51 := Tryz.isAgg147
  z51 := Tryz.sizeOf147
  v51 := Tryz.zeroValue147
  t105 := Tryz.underlying104
  a105 := Tryz.isAgg104
  z105 := Tryz.sizeOf104
  v105 := Tryz.zeroValue104
  t119 := Tryz.underlying143
  a119 := Tryz.isAgg143
  z119 := Tryz.sizeOf143
  t138 := Tryz.underlying145
  a138 := Tryz.isAgg145
  z138 := Tryz.sizeOf145
  v138 := Tryz.zeroValue145
  t139 := Tryz.underlying146
  a139 := Tryz.isAgg146
  z139 := Tryz.sizeOf146
  v139 := Tryz.zeroValue146
  t146 := Tryz.underlying148
  a146 := Tryz.isAgg148
  z146 := Tryz.sizeOf148
  v146 := Tryz.zeroValue148
  g1 := by kernel_rfl
  g3 := by kernel_rfl
  g4 := by kernel_rfl }
def laySplitMR : Go.Shelf.Ren := ⟨fun | 146 => 20 | 221 => 33 | 268 => 47 | 138 => 48 | 143 => 49 | 195 => 64 | 197 => 65 | 218 => 66 | 219 => 67 | 260 => 78 | 217 => 79 | 225 => 80 | 224 => 81 | 267 => 82 | 266 => 100 | 314 => 101 | n => n, fun | 9 => 9 | 31 => 47 | 3 => 3 | 4 => 4 | 0 => 0 | 105 => 104 | 21 => 21 | 5 => 5 | 46 => 119 | 119 => 143 | 139 => 146 | 138 => 145 | 146 => 148 | 51 => 147 | n => n, fun | 1 => 0 | 3 => 3 | 4 => 4 | n => n⟩
theorem laySplitM : LaysM.n146 Tryz.prog laySplitMR := {
  mixed := by kernel_rfl
  f138 := Tryz.func48.trans (congrArg some (by kernel_rfl))
  f143 := Tryz.func49.trans (congrArg some (by kernel_rfl))
  f146 := Tryz.func20.trans (congrArg some (by kernel_rfl))
  f195 := Tryz.func64.trans (congrArg some (by kernel_rfl))
  f197 := Tryz.func65.trans (congrArg some (by kernel_rfl))
  f217 := Tryz.func79.trans (congrArg some (by kernel_rfl))
  f218 := Tryz.func66.trans (congrArg some (by kernel_rfl))
  f219 := Tryz.func67.trans (congrArg some (by kernel_rfl))
  f221 := Tryz.func33.trans (congrArg some (by kernel_rfl))
  f224 := Tryz.func81.trans (congrArg some (by kernel_rfl))
  f225 := Tryz.func80.trans (congrArg some (by kernel_rfl))
  f260 := Tryz.func78.trans (congrArg some (by kernel_rfl))
  f266 := Tryz.func100.trans (congrArg some (by kernel_rfl))
  f267 := Tryz.func82.trans (congrArg some (by kernel_rfl))
  f268 := Tryz.func47.trans (congrArg some (by kernel_rfl))
  f314 := Tryz.func101.trans (congrArg some (by kernel_rfl))
  t0 := Tryz.underlying0
  a0 := Tryz.isAgg0
  z0 := Tryz.sizeOf0
  v0 := Tryz.zeroValue0
  t3 := Tryz.underlying3
  a3 := Tryz.isAgg3
  z3 := Tryz.sizeOf3
  v3 := Tryz.zeroValue3
  t4 := Tryz.underlying4
  a4 := Tryz.isAgg4
  z4 := Tryz.sizeOf4
  v4 := Tryz.zeroValue4
  t5 := Tryz.underlying5
  a5 := Tryz.isAgg5
  z5 := Tryz.sizeOf5
  v5 := Tryz.zeroValue5
  t9 := Tryz.underlying9
  a9 := Tryz.isAgg9
  z9 := Tryz.sizeOf9
  v9 := Tryz.zeroValue9
  t21 := Tryz.underlying21
  a21 := Tryz.isAgg21
  z21 := Tryz.sizeOf21
  v21 := Tryz.zeroValue21
  t31 := Tryz.underlying47
  a31 := Tryz.isAgg47
  z31 := Tryz.sizeOf47
  v31 := Tryz.zeroValue47
  t46 := Tryz.underlying119
  a46 := Tryz.isAgg119
  z46 := Tryz.sizeOf119
  v46 := Tryz.zeroValue119
  t51 := Tryz.underlying147
  a51 := Tryz.isAgg147
  z51 := Tryz.sizeOf147
  v51 := Tryz.zeroValue147
  t105 := Tryz.underlying104
  a105 := Tryz.isAgg104
  z105 := Tryz.sizeOf104
  v105 := Tryz.zeroValue104
  t119 := Tryz.underlying143
  a119 := Tryz.isAgg143
  z119 := Tryz.sizeOf143
  t138 := Tryz.underlying145
  a138 := Tryz.isAgg145
  z138 := Tryz.sizeOf145
  v138 := Tryz.zeroValue145
  t139 := Tryz.underlying146
  a139 := Tryz.isAgg146
  z139 := Tryz.sizeOf146
  v139 := Tryz.zeroValue146
  t146 := Tryz.underlying148
  a146 := Tryz.isAgg148
  z146 := Tryz.sizeOf148
  v146 := Tryz.zeroValue148
  g1 := by kernel_rfl
  g3 := by kernel_rfl
  g4 := by kernel_rfl
  i0 := by kernel_rfl
  i3 := by kernel_rfl
  i4 := by kernel_rfl
  i5 := by kernel_rfl
  i9 := by kernel_rfl
  i21 := by kernel_rfl
  i31 := by kernel_rfl
  i46 := by kernel_rfl
  i51 := by kernel_rfl
  i105 := by kernel_rfl
  i138 := by kernel_rfl
  i139 := by kernel_rfl
  i146 := by kernel_rfl
  m1 := by kernel_rfl
  s1_3 := fun w h => Go.Proofs.cell_of_shapedOpen_int (zero := #[.int .i64 0]) (t := 3) h (of_decide_eq_true (by kernel_rfl)) (by kernel_rfl) rfl (by kernel_rfl) (by kernel_rfl) Tryz.underlying3
  m3 := by kernel_rfl
  m4 := by kernel_rfl }
def AV.err (b : Bool) : AV := ⟨fun _ v => (b = true → ∃ t p, v = .iface t p) ∧ (b = false → v = .nilIface), fun _ _ _ _ h => h⟩
def Tab4 (I : Im) : Prop := Tab I ∧ (∃ cs m, I 0 = some cs ∧ cs[0]? = some (.int .i64 m)) ∧ (∃ cs t p, I 1 = some cs ∧ cs[0]? = some (.iface t p)) ∧ (∃ cs t p, I 2 = some cs ∧ cs[0]? = some (.iface t p))
theorem Tab4.up {I J : Im} (hl : Im.le I J) (h : Tab4 I) : Tab4 J := by
  obtain ⟨h1, ⟨cs, m, h2, h3⟩, ⟨ct, t, p, h4, h5⟩, ⟨cu, u, q, h6, h7⟩⟩ := h
  exact ⟨h1.up hl, ⟨cs, m, hl _ _ h2, h3⟩, ⟨ct, t, p, hl _ _ h4, h5⟩, ⟨cu, u, q, hl _ _ h6, h7⟩⟩
def AV.tab4 (x : AV) : AV := ⟨fun I v => x.h I v ∧ Tab4 I, fun I J v hl h => ⟨x.up I J v hl h.1, h.2.up hl⟩⟩
theorem At.tab4 {Γ : Env} {g : Bool} {t : Nat} {o : Operand} {x y : AV} (h : Env.get t Γ = some (AV.tab4 y)) (k : At Γ g o x) : At Γ g o (AV.tab4 x) := fun I a he hg => ⟨k I a he hg, (he t _ h).2⟩
theorem At.tab41 {Γ : Env} {g : Bool} {t : Nat} {o : Operand} {x y : AV} (h : Env.get t Γ = some (AV.tab4 y)) (k : At Γ g o x) : At Γ g o (AV.tab x) := fun I a he hg => ⟨k I a he hg, (he t _ h).2.1⟩
theorem At.untab4 {Γ : Env} {g : Bool} {t : Nat} {y : AV} (h : Env.get t Γ = some (AV.tab4 y)) : At Γ g (.tmp t) y := fun I a he _ => (he t _ h).1
theorem cell_im {w : World} {I : Im} (hm : Models w I) {b : Nat} {cs : Array Value} {v : Value} (h : I b = some cs) (hv : cs[0]? = some v) : w.cell? ⟨b, 0, none⟩ = some v := by
  obtain ⟨T, fr, hb⟩ := hm _ _ h
  simp only [World.cell?, hb]; simpa using hv
theorem run_neq_nil {P : Program} {w : World} {T : TypeId} {ms : Array (String × TypeId)} {x : Value} {b : Bool} (hT : P.underlying T = some (.interface ms)) (h : (b = true → ∃ t p, x = .iface t p) ∧ (b = false → x = .nilIface)) :
    (binOp .neq T x .nilIface).run P w = .ok (.bool b) w := by
  have key : ∀ d : Nat, (Op.equalIn (d + 1) T x .nilIface).run P w = .ok (!b) w := fun d => by
    cases b with
    | true => obtain ⟨t, q, rfl⟩ := h.1 rfl; simp [Op.equalIn, run_underlying hT]
    | false => rw [h.2 rfl]; simp [Op.equalIn, run_underlying hT]
  simp only [binOp]
  simp [Op.equal, Op.maxDepth, key 9999]
theorem ok_neNil {P : Program} {H : List Own} {Γ : Env} {g : Bool} {d : Option Tmp} {y : Operand} {ty T T' : TypeId} {ms : Array (String × TypeId)} {p : String} {af : Array Edge} {gd : Option (Nat × Bool)} {b : Bool} (hT : P.underlying T = some (.interface ms)) (hy : At Γ g y (.err b)) :
    Ok P H Γ g ⟨d, .binOp .neq T y (.const .nilIface) T', ty, p, af, gd⟩ (.bool b) :=
  ok_val fun I a w he hg => by
    have h := hy I a he hg
    have e2 : a.eval (.const .nilIface) = .nilIface := rfl
    have hgd : (eqGuard .neq T y (.const .nilIface) (a.eval y) .nilIface).run P w = .ok () w := by
      cases b with
      | true => obtain ⟨t, q, e⟩ := h.1 rfl; rw [e]; simp [eqGuard]
      | false => rw [h.2 rfl]; simp [eqGuard]
    simp only [execOp, e2, Sem.run_bind, hgd, Result.andThen_ok, run_neq_nil hT h, Sem.run_pure]
theorem c_strings_Split (s : List UInt8) (ch : UInt8) (hl : s.length ≤ 1048576) : Fn Tryz.prog 20 [AV.tab4 (AV.text s), AV.text [ch]] (textsAV (splitB ch s)) := by
  refine ⟨Enters.of Tryz.func20 rfl (by kernel_rfl), fun I w vs hm ha => ?_⟩
  obtain ⟨vs⟩ := vs
  match vs, ha with
  | [v, u], ⟨⟨hv, _, ⟨cs, m, h1, h2⟩, _⟩, hu, _⟩ =>
    have hv : v = .string ⟨s.toArray⟩ := hv
    have hu : u = .string ⟨[ch].toArray⟩ := hu
    subst hv hu
    refine (Any.strings_Split laySplit (by kernel_rfl) ⟨s.toArray⟩ ⟨#[ch]⟩ m w (by rw [text_size]; omega) (cell_im hm h1 h2) (Nat.le_refl _)).mono ?_
    rintro e w' ⟨rfl, rfl⟩
    have hs := lib_split ch _ ⟨s.toArray⟩ rfl
    have hlen := Lib.splitB_all ⟨#[ch]⟩ (Nat.le_refl _) 0 _ ⟨s.toArray⟩ rfl
    generalize Lib.splitB ⟨#[ch]⟩ 0 (Lib.countB ⟨s.toArray⟩ ⟨#[ch]⟩) ⟨s.toArray⟩ = bs at hs hlen
    rw [← hlen]
    have hs' : bs.map (fun b => b.data.toList) = splitB ch s := by simpa using hs
    have hl2 : (splitB ch s).length = bs.length := by rw [← hs']; simp
    have hbl := splitB_len ch s
    refine ⟨I.add w.heap.size (bs.map Value.string).toArray, Step.allocP hm _ _ (0, 0), some ⟨w.heap.size, 0, none⟩, bs.length, by rw [List.length_map, hl2], by rw [List.length_map, hl2]; exact Nat.le_refl _, by simp only [maxLen]; omega, ?_, .inr ⟨⟨w.heap.size, 0, none⟩, rfl, rfl, (bs.map Value.string).toArray, by simp [Im.add], ?_⟩, (fun h => by cases h)⟩
    · intro r hr
      obtain ⟨x, _, rfl⟩ := List.mem_map.1 hr; rfl
    · have key : ∀ bs : List ByteArray, HoldsL (I.add w.heap.size (bs.map Value.string).toArray) ((bs.map fun b => b.data.toList).map textCell).flatten (bs.map Value.string) := by
        intro bs
        generalize I.add w.heap.size (bs.map Value.string).toArray = J
        induction bs with
        | nil => trivial
        | cons b bs ih => exact ⟨⟨rfl, rfl⟩, ih⟩
      have hfl : ((splitB ch s).map textCell).flatten.length = bs.length := by
        rw [flatten_length (sz := 1) (fun r hr => by obtain ⟨x, _, rfl⟩ := List.mem_map.1 hr; rfl)]; simp [hl2]
      simp only [List.drop_zero]
      rw [List.take_of_length_le (by rw [hfl]; simp), ← hs']
      exact key bs
theorem c_strconv_Atoi (s : List UInt8) (hl : s.length ≤ 1048576) : Fn Tryz.prog 35 [AV.tab4 (AV.text s)] (AV.tup [AV.int (atoiV s).1, AV.err (atoiV s).2]) := by
  refine ⟨Enters.of Tryz.func35 rfl (by kernel_rfl), fun I w vs hm ha => ?_⟩
  obtain ⟨vs⟩ := vs
  match vs, ha with
  | [v], ⟨⟨hv, _, _, ⟨ct, te, pe, h3, h4⟩, ⟨cu, tf, pf, h5, h6⟩⟩, _⟩ =>
    have hv : v = .string ⟨s.toArray⟩ := hv
    subst hv
    cases hA : Lib.atoiAll s with
    | ok v =>
      have e1 : atoiV s = (v, false) := by unfold atoiV; rw [hA]
      rw [e1]
      refine (Any.strconv_Atoi_ok layAtoi ⟨s.toArray⟩ (by rw [text_size]; omega) v (by simpa using hA) w).mono ?_
      rintro e w' ⟨rfl, hw⟩
      have hb : Below w.heap.size w w' := by
        rcases hw with rfl | ⟨t, rfl⟩
        · exact Below.refl _ _
        · exact Lib.bytesWorld_below _ _ _
      exact ⟨I, Step.of_below hm hb, _, rfl, rfl, ⟨(fun h => by cases h), (fun _ => rfl)⟩, trivial⟩
    | range =>
      have e1 : atoiV s = (Lib.atoiSat s, true) := by unfold atoiV; rw [hA]
      rw [e1]
      refine (Any.strconv_Atoi_range layAtoi ⟨s.toArray⟩ (by rw [text_size]; omega) (by simpa using hA) _ w (cell_im hm h5 h6) (.inr ⟨_, _, rfl⟩)).mono ?_
      rintro e w' ⟨N, rfl, _, _, hb⟩
      exact ⟨I, Step.of_below hm hb, _, rfl, rfl, ⟨(fun _ => ⟨_, _, rfl⟩), (fun h => by cases h)⟩, trivial⟩
    | _ =>
      have e1 : atoiV s = (0, true) := by unfold atoiV; rw [hA]
      rw [e1]
      refine (Any.strconv_Atoi_syntax layAtoi ⟨s.toArray⟩ (by rw [text_size]; omega) (by simpa using hA) _ w (cell_im hm h3 h4) (.inr ⟨_, _, rfl⟩)).mono ?_
      rintro e w' ⟨N, rfl, _, _, hb⟩
      exact ⟨I, Step.of_below hm hb, _, rfl, rfl, ⟨(fun _ => ⟨_, _, rfl⟩), (fun h => by cases h)⟩, trivial⟩
end Go.Proofs.YtkoebplikhlapaaGreatDoor

/- Part 7: rules of the proofs. -/
import Derived.Test.YtldbakcpcfdlaaaGreatProg
import Derived.Test.YtldbakcpcfdlaaaGreatU06
set_option linter.all false
set_option maxRecDepth 100000
namespace Go.Proofs.YtldbakcpcfdlaaaGreat
open Go Go.RowKit Tryz
instance B4:bn prog 3 false 1 8 (.int .i64 0):=⟨by kernel_rfl,by kernel_rfl⟩
def bS:Ty prog 3 false 1 8 (.int .i64 0):=B4.h
def B5:∀I,aC I [AV.val (.int .i64 0)] (Value.cells (.int .i64 0)).toList:=λ_=>⟨⟨rfl,rfl⟩,trivial⟩
instance B6:bn prog 4 false 1 1 (.bool false):=⟨by kernel_rfl,by kernel_rfl⟩
def oP:Ty prog 4 false 1 1 (.bool false):=B6.h
instance Hw:bn prog 23 false 1 24 (.slice none 0 0):=⟨by kernel_rfl,by kernel_rfl⟩
instance Hx:bn prog 24 false 1 24 (.slice none 0 0):=⟨by kernel_rfl,by kernel_rfl⟩
instance Hy:bn prog 25 false 1 24 (.slice none 0 0):=⟨by kernel_rfl,by kernel_rfl⟩
instance Hz:bn prog 26 false 1 24 (.slice none 0 0):=⟨by kernel_rfl,by kernel_rfl⟩
instance B7:bn prog 28 true 5 104 (.agg #[.int .i64 0,.slice none 0 0,.slice none 0 0,.slice none 0 0,.slice none 0 0]):=⟨by kernel_rfl,by kernel_rfl⟩
def ry:Ty prog 28 true 5 104 (.agg #[.int .i64 0,.slice none 0 0,.slice none 0 0,.slice none 0 0,.slice none 0 0]):=B7.h
def rz:∀I,aC I [AV.val (.int .i64 0),AV.rows 7 [],AV.rows 15 [],AV.rows 13 [],AV.rows 1 []] (Value.cells (.agg #[.int .i64 0,.slice none 0 0,.slice none 0 0,.slice none 0 0,.slice none 0 0])).toList:=λ_=>⟨⟨rfl,rfl⟩,⟨c9 _ _,rfl⟩,⟨c9 _ _,rfl⟩,⟨c9 _ _,rfl⟩,⟨c9 _ _,rfl⟩,trivial⟩
instance B8:bn prog 34 false 1 24 (.slice none 0 0):=⟨by kernel_rfl,by kernel_rfl⟩
def oQ:Ty prog 34 false 1 24 (.slice none 0 0):=B8.h
instance B9:bn prog 39 false 1 24 (.slice none 0 0):=⟨by kernel_rfl,by kernel_rfl⟩
def Ca:Ty prog 39 false 1 24 (.slice none 0 0):=B9.h
instance Cb:bn prog 40 false 1 24 (.slice none 0 0):=⟨by kernel_rfl,by kernel_rfl⟩
def gp:Ty prog 40 false 1 24 (.slice none 0 0):=Cb.h
def Cc:∀I,aC I [AV.rows 3 []] (Value.cells (.slice none 0 0)).toList:=λ_=>⟨⟨c9 _ _,rfl⟩,trivial⟩
instance Cd:bn prog 42 true 2 16 (.agg #[.int .i64 0,.int .i64 0]):=⟨by kernel_rfl,by kernel_rfl⟩
def lT:Ty prog 42 true 2 16 (.agg #[.int .i64 0,.int .i64 0]):=Cd.h
def kH:∀I,aC I [AV.val (.int .i64 0),AV.val (.int .i64 0)] (Value.cells (.agg #[.int .i64 0,.int .i64 0])).toList:=λ_=>⟨⟨rfl,rfl⟩,⟨rfl,rfl⟩,trivial⟩
instance HA:oL prog 42:=⟨by kernel_rfl⟩
instance Ce:bn prog 43 false 1 24 (.slice none 0 0):=⟨by kernel_rfl,by kernel_rfl⟩
def Cf:Ty prog 43 false 1 24 (.slice none 0 0):=Ce.h
instance Cg:bn prog 45 true 13 168 (.agg #[.int .i64 0,.int .i64 0,.int .i64 0,.slice none 0 0,.int .i64 0,.slice none 0 0,.int .i64 0,.int .i64 0,.bool false,.int .i64 0,.int .i64 0,.slice none 0 0,.slice none 0 0]):=⟨by kernel_rfl,by kernel_rfl⟩
def dO:Ty prog 45 true 13 168 (.agg #[.int .i64 0,.int .i64 0,.int .i64 0,.slice none 0 0,.int .i64 0,.slice none 0 0,.int .i64 0,.int .i64 0,.bool false,.int .i64 0,.int .i64 0,.slice none 0 0,.slice none 0 0]):=Cg.h
def m7:∀I,aC I [AV.val (.int .i64 0),AV.val (.int .i64 0),AV.val (.int .i64 0),AV.rows 1 [],AV.val (.int .i64 0),AV.rows 3 [],AV.val (.int .i64 0),AV.val (.int .i64 0),AV.val (.bool false),AV.val (.int .i64 0),AV.val (.int .i64 0),AV.rows 9 [],AV.rows 3 []] (Value.cells (.agg #[.int .i64 0,.int .i64 0,.int .i64 0,.slice none 0 0,.int .i64 0,.slice none 0 0,.int .i64 0,.int .i64 0,.bool false,.int .i64 0,.int .i64 0,.slice none 0 0,.slice none 0 0])).toList:=λ_=>⟨⟨rfl,rfl⟩,⟨rfl,rfl⟩,⟨rfl,rfl⟩,⟨c9 _ _,rfl⟩,⟨rfl,rfl⟩,⟨c9 _ _,rfl⟩,⟨rfl,rfl⟩,⟨rfl,rfl⟩,⟨rfl,rfl⟩,⟨rfl,rfl⟩,⟨rfl,rfl⟩,⟨c9 _ _,rfl⟩,⟨c9 _ _,rfl⟩,trivial⟩
instance Ch:bn prog 54 true 7 72 (.agg #[.int .i64 0,.int .i64 0,.int .i64 0,.int .i64 0,.int .i64 0,.int .i64 0,.slice none 0 0]):=⟨by kernel_rfl,by kernel_rfl⟩
def bK:Ty prog 54 true 7 72 (.agg #[.int .i64 0,.int .i64 0,.int .i64 0,.int .i64 0,.int .i64 0,.int .i64 0,.slice none 0 0]):=Ch.h
def dP:∀I,aC I [AV.val (.int .i64 0),AV.val (.int .i64 0),AV.val (.int .i64 0),AV.val (.int .i64 0),AV.val (.int .i64 0),AV.val (.int .i64 0),AV.rows 3 []] (Value.cells (.agg #[.int .i64 0,.int .i64 0,.int .i64 0,.int .i64 0,.int .i64 0,.int .i64 0,.slice none 0 0])).toList:=λ_=>⟨⟨rfl,rfl⟩,⟨rfl,rfl⟩,⟨rfl,rfl⟩,⟨rfl,rfl⟩,⟨rfl,rfl⟩,⟨rfl,rfl⟩,⟨c9 _ _,rfl⟩,trivial⟩
def lU:∀u∈(Value.cells (.agg #[.int .i64 0,.int .i64 0,.int .i64 0,.int .i64 0,.int .i64 0,.int .i64 0,.slice none 0 0])).toList,u.oneCell'=true:=by simp[Value.cells,Value.oneCell']
instance HB:oL prog 54:=⟨by kernel_rfl⟩
instance Ci:bn prog 56 true 9 88 (.agg #[.int .i64 0,.bool false,.int .i64 0,.int .i64 0,.int .i64 0,.int .i64 0,.int .i64 0,.int .i64 0,.slice none 0 0]):=⟨by kernel_rfl,by kernel_rfl⟩
def dQ:Ty prog 56 true 9 88 (.agg #[.int .i64 0,.bool false,.int .i64 0,.int .i64 0,.int .i64 0,.int .i64 0,.int .i64 0,.int .i64 0,.slice none 0 0]):=Ci.h
def oR:∀I,aC I [AV.val (.int .i64 0),AV.val (.bool false),AV.val (.int .i64 0),AV.val (.int .i64 0),AV.val (.int .i64 0),AV.val (.int .i64 0),AV.val (.int .i64 0),AV.val (.int .i64 0),AV.rows 3 []] (Value.cells (.agg #[.int .i64 0,.bool false,.int .i64 0,.int .i64 0,.int .i64 0,.int .i64 0,.int .i64 0,.int .i64 0,.slice none 0 0])).toList:=λ_=>⟨⟨rfl,rfl⟩,⟨rfl,rfl⟩,⟨rfl,rfl⟩,⟨rfl,rfl⟩,⟨rfl,rfl⟩,⟨rfl,rfl⟩,⟨rfl,rfl⟩,⟨rfl,rfl⟩,⟨c9 _ _,rfl⟩,trivial⟩
instance HC:bn prog 65 false 1 24 (.slice none 0 0):=⟨by kernel_rfl,by kernel_rfl⟩
instance HD:bn prog 66 false 1 24 (.slice none 0 0):=⟨by kernel_rfl,by kernel_rfl⟩
instance HE:bn prog 67 false 1 24 (.slice none 0 0):=⟨by kernel_rfl,by kernel_rfl⟩
instance HF:bn prog 68 false 1 24 (.slice none 0 0):=⟨by kernel_rfl,by kernel_rfl⟩
instance HG:bn prog 70 true 5 104 (.agg #[.int .i64 0,.slice none 0 0,.slice none 0 0,.slice none 0 0,.slice none 0 0]):=⟨by kernel_rfl,by kernel_rfl⟩
instance Cj:bn prog 93 false 1 24 (.slice none 0 0):=⟨by kernel_rfl,by kernel_rfl⟩
def Ck:Ty prog 93 false 1 24 (.slice none 0 0):=Cj.h
instance Cl:bn prog 95 true 7 136 (.agg #[.int .i64 0,.bool false,.slice none 0 0,.slice none 0 0,.slice none 0 0,.slice none 0 0,.slice none 0 0]):=⟨by kernel_rfl,by kernel_rfl⟩
def gq:Ty prog 95 true 7 136 (.agg #[.int .i64 0,.bool false,.slice none 0 0,.slice none 0 0,.slice none 0 0,.slice none 0 0,.slice none 0 0]):=Cl.h
def oS:∀I,aC I [AV.val (.int .i64 0),AV.val (.bool false),AV.rows 2 [],AV.rows 7 [],AV.rows 7 [],AV.rows 3 [],AV.rows 3 []] (Value.cells (.agg #[.int .i64 0,.bool false,.slice none 0 0,.slice none 0 0,.slice none 0 0,.slice none 0 0,.slice none 0 0])).toList:=λ_=>⟨⟨rfl,rfl⟩,⟨rfl,rfl⟩,⟨c9 _ _,rfl⟩,⟨c9 _ _,rfl⟩,⟨c9 _ _,rfl⟩,⟨c9 _ _,rfl⟩,⟨c9 _ _,rfl⟩,trivial⟩
instance Cm:bn prog 97 true 2 16 (.agg #[.int .i64 0,.int .i64 0]):=⟨by kernel_rfl,by kernel_rfl⟩
def jL:Ty prog 97 true 2 16 (.agg #[.int .i64 0,.int .i64 0]):=Cm.h
def oT:∀I,aC I [AV.val (.int .i64 0),AV.val (.int .i64 0)] (Value.cells (.agg #[.int .i64 0,.int .i64 0])).toList:=λ_=>⟨⟨rfl,rfl⟩,⟨rfl,rfl⟩,trivial⟩
instance Cn:bn prog 108 true 15 184 (.agg #[.int .i64 0,.int .i64 0,.int .i64 0,.int .i64 0,.int .i64 0,.int .i64 0,.int .i64 0,.int .i64 0,.bool false,.slice none 0 0,.int .i64 0,.int .i64 0,.slice none 0 0,.slice none 0 0,.slice none 0 0]):=⟨by kernel_rfl,by kernel_rfl⟩
def eb:Ty prog 108 true 15 184 (.agg #[.int .i64 0,.int .i64 0,.int .i64 0,.int .i64 0,.int .i64 0,.int .i64 0,.int .i64 0,.int .i64 0,.bool false,.slice none 0 0,.int .i64 0,.int .i64 0,.slice none 0 0,.slice none 0 0,.slice none 0 0]):=Cn.h
def rA:∀I,aC I [AV.val (.int .i64 0),AV.val (.int .i64 0),AV.val (.int .i64 0),AV.val (.int .i64 0),AV.val (.int .i64 0),AV.val (.int .i64 0),AV.val (.int .i64 0),AV.val (.int .i64 0),AV.val (.bool false),AV.rows 3 [],AV.val (.int .i64 0),AV.val (.int .i64 0),AV.rows 7 [],AV.rows 7 [],AV.rows 3 []] (Value.cells (.agg #[.int .i64 0,.int .i64 0,.int .i64 0,.int .i64 0,.int .i64 0,.int .i64 0,.int .i64 0,.int .i64 0,.bool false,.slice none 0 0,.int .i64 0,.int .i64 0,.slice none 0 0,.slice none 0 0,.slice none 0 0])).toList:=λ_=>⟨⟨rfl,rfl⟩,⟨rfl,rfl⟩,⟨rfl,rfl⟩,⟨rfl,rfl⟩,⟨rfl,rfl⟩,⟨rfl,rfl⟩,⟨rfl,rfl⟩,⟨rfl,rfl⟩,⟨rfl,rfl⟩,⟨c9 _ _,rfl⟩,⟨rfl,rfl⟩,⟨rfl,rfl⟩,⟨c9 _ _,rfl⟩,⟨c9 _ _,rfl⟩,⟨c9 _ _,rfl⟩,trivial⟩
instance Co:bn prog 125 true 3 24 (.agg #[.int .i64 0,.int .i64 0,.int .i64 0]):=⟨by kernel_rfl,by kernel_rfl⟩
def ep:Ty prog 125 true 3 24 (.agg #[.int .i64 0,.int .i64 0,.int .i64 0]):=Co.h
def gY:∀I,aC I [AV.val (.int .i64 0),AV.val (.int .i64 0),AV.val (.int .i64 0)] (Value.cells (.agg #[.int .i64 0,.int .i64 0,.int .i64 0])).toList:=λ_=>⟨⟨rfl,rfl⟩,⟨rfl,rfl⟩,⟨rfl,rfl⟩,trivial⟩
instance HH:oL prog 125:=⟨by kernel_rfl⟩
instance HI:bn prog 193 false 1 24 (.slice none 0 0):=⟨by kernel_rfl,by kernel_rfl⟩
instance HJ:bn prog 194 false 1 24 (.slice none 0 0):=⟨by kernel_rfl,by kernel_rfl⟩
instance Cp:bn prog 195 false 1 24 (.slice none 0 0):=⟨by kernel_rfl,by kernel_rfl⟩
def rB:Ty prog 195 false 1 24 (.slice none 0 0):=Cp.h
instance Cq:bn prog 197 true 7 136 (.agg #[.int .i64 0,.bool false,.slice none 0 0,.slice none 0 0,.slice none 0 0,.slice none 0 0,.slice none 0 0]):=⟨by kernel_rfl,by kernel_rfl⟩
def rC:Ty prog 197 true 7 136 (.agg #[.int .i64 0,.bool false,.slice none 0 0,.slice none 0 0,.slice none 0 0,.slice none 0 0,.slice none 0 0]):=Cq.h
instance HK:bn prog 199 true 2 16 (.agg #[.int .i64 0,.int .i64 0]):=⟨by kernel_rfl,by kernel_rfl⟩
instance Cr:bn prog 201 true 15 184 (.agg #[.int .i64 0,.int .i64 0,.int .i64 0,.int .i64 0,.int .i64 0,.int .i64 0,.int .i64 0,.int .i64 0,.bool false,.slice none 0 0,.int .i64 0,.int .i64 0,.slice none 0 0,.slice none 0 0,.slice none 0 0]):=⟨by kernel_rfl,by kernel_rfl⟩
def rD:Ty prog 201 true 15 184 (.agg #[.int .i64 0,.int .i64 0,.int .i64 0,.int .i64 0,.int .i64 0,.int .i64 0,.int .i64 0,.int .i64 0,.bool false,.slice none 0 0,.int .i64 0,.int .i64 0,.slice none 0 0,.slice none 0 0,.slice none 0 0]):=Cr.h
instance HL:bn prog 203 false 1 24 (.slice none 0 0):=⟨by kernel_rfl,by kernel_rfl⟩
instance Cs:bn prog 205 true 13 168 (.agg #[.int .i64 0,.int .i64 0,.int .i64 0,.slice none 0 0,.int .i64 0,.slice none 0 0,.int .i64 0,.int .i64 0,.bool false,.int .i64 0,.int .i64 0,.slice none 0 0,.slice none 0 0]):=⟨by kernel_rfl,by kernel_rfl⟩
def rE:Ty prog 205 true 13 168 (.agg #[.int .i64 0,.int .i64 0,.int .i64 0,.slice none 0 0,.int .i64 0,.slice none 0 0,.int .i64 0,.int .i64 0,.bool false,.int .i64 0,.int .i64 0,.slice none 0 0,.slice none 0 0]):=Cs.h
instance HM:bn prog 249 true 3 24 (.agg #[.int .i64 0,.int .i64 0,.int .i64 0]):=⟨by kernel_rfl,by kernel_rfl⟩
instance Ct:bn prog 267 true 7 72 (.agg #[.int .i64 0,.int .i64 0,.int .i64 0,.int .i64 0,.int .i64 0,.int .i64 0,.slice none 0 0]):=⟨by kernel_rfl,by kernel_rfl⟩
def rF:Ty prog 267 true 7 72 (.agg #[.int .i64 0,.int .i64 0,.int .i64 0,.int .i64 0,.int .i64 0,.int .i64 0,.slice none 0 0]):=Ct.h
instance Cu:bn prog 270 true 9 88 (.agg #[.int .i64 0,.bool false,.int .i64 0,.int .i64 0,.int .i64 0,.int .i64 0,.int .i64 0,.int .i64 0,.slice none 0 0]):=⟨by kernel_rfl,by kernel_rfl⟩
def rG:Ty prog 270 true 9 88 (.agg #[.int .i64 0,.bool false,.int .i64 0,.int .i64 0,.int .i64 0,.int .i64 0,.int .i64 0,.int .i64 0,.slice none 0 0]):=Cu.h
instance HN:bn prog 272 true 2 16 (.agg #[.int .i64 0,.int .i64 0]):=⟨by kernel_rfl,by kernel_rfl⟩
instance Cv:cV prog 3 (.int .i64):=⟨by kernel_rfl⟩
def lV:prog.underlying 3=some (.int .i64):=Cv.h
instance Cw:cV prog 4 (.bool):=⟨by kernel_rfl⟩
def oU:prog.underlying 4=some (.bool):=Cw.h
instance Cx:cV prog 23 (.slice 95):=⟨by kernel_rfl⟩
def iv:prog.underlying 23=some (.slice 95):=Cx.h
instance Cy:cV prog 24 (.slice 108):=⟨by kernel_rfl⟩
def eH:prog.underlying 24=some (.slice 108):=Cy.h
instance Cz:cV prog 25 (.slice 45):=⟨by kernel_rfl⟩
def eS:prog.underlying 25=some (.slice 45):=Cz.h
instance CA:cV prog 26 (.slice 40):=⟨by kernel_rfl⟩
def oV:prog.underlying 26=some (.slice 40):=CA.h
instance CB:cV prog 34 (.slice 54):=⟨by kernel_rfl⟩
def cQ:prog.underlying 34=some (.slice 54):=CB.h
instance CC:cV prog 39 (.slice 3):=⟨by kernel_rfl⟩
def oW:prog.underlying 39=some (.slice 3):=CC.h
instance CD:cV prog 40 (.slice 125):=⟨by kernel_rfl⟩
def iw:prog.underlying 40=some (.slice 125):=CD.h
instance CE:cV prog 43 (.slice 56):=⟨by kernel_rfl⟩
def eI:prog.underlying 43=some (.slice 56):=CE.h
instance CF:cV prog 65 (.slice 197):=⟨by kernel_rfl⟩
def rH:prog.underlying 65=some (.slice 197):=CF.h
instance CG:cV prog 66 (.slice 201):=⟨by kernel_rfl⟩
def rI:prog.underlying 66=some (.slice 201):=CG.h
instance CH:cV prog 67 (.slice 205):=⟨by kernel_rfl⟩
def rJ:prog.underlying 67=some (.slice 205):=CH.h
instance CI:cV prog 68 (.slice 195):=⟨by kernel_rfl⟩
def rK:prog.underlying 68=some (.slice 195):=CI.h
instance CJ:cV prog 93 (.slice 97):=⟨by kernel_rfl⟩
def m8:prog.underlying 93=some (.slice 97):=CJ.h
instance CK:cV prog 162 (.map 3 3):=⟨by kernel_rfl⟩
def CL:prog.underlying 162=some (.map 3 3):=CK.h
instance HO:cV prog 193 (.slice 272):=⟨by kernel_rfl⟩
instance CM:cV prog 194 (.slice 267):=⟨by kernel_rfl⟩
def rL:prog.underlying 194=some (.slice 267):=CM.h
instance HP:cV prog 195 (.slice 249):=⟨by kernel_rfl⟩
instance CN:cV prog 203 (.slice 270):=⟨by kernel_rfl⟩
def rM:prog.underlying 203=some (.slice 270):=CN.h
instance HQ:aD prog 28 0 0 1:=⟨by unfold aB;kernel_rfl⟩
instance HR:aD prog 28 1 1 1:=⟨by unfold aB;kernel_rfl⟩
instance HT:aD prog 28 2 2 1:=⟨by unfold aB;kernel_rfl⟩
instance HU:aD prog 28 3 3 1:=⟨by unfold aB;kernel_rfl⟩
instance HV:aD prog 28 4 4 1:=⟨by unfold aB;kernel_rfl⟩
instance HW:aD prog 42 0 0 1:=⟨by unfold aB;kernel_rfl⟩
instance HX:aD prog 42 1 1 1:=⟨by unfold aB;kernel_rfl⟩
instance HY:aD prog 45 0 0 1:=⟨by unfold aB;kernel_rfl⟩
instance HZ:aD prog 45 1 1 1:=⟨by unfold aB;kernel_rfl⟩
instance H3:aD prog 45 2 2 1:=⟨by unfold aB;kernel_rfl⟩
instance H4:aD prog 45 3 3 1:=⟨by unfold aB;kernel_rfl⟩
instance H5:aD prog 45 4 4 1:=⟨by unfold aB;kernel_rfl⟩
instance H6:aD prog 45 5 5 1:=⟨by unfold aB;kernel_rfl⟩
instance H7:aD prog 45 6 6 1:=⟨by unfold aB;kernel_rfl⟩
instance H8:aD prog 45 7 7 1:=⟨by unfold aB;kernel_rfl⟩
instance H9:aD prog 45 8 8 1:=⟨by unfold aB;kernel_rfl⟩
instance Ia:aD prog 45 9 9 2:=⟨by unfold aB;kernel_rfl⟩
instance Ib:aD prog 45 10 11 1:=⟨by unfold aB;kernel_rfl⟩
instance Ic:aD prog 45 11 12 1:=⟨by unfold aB;kernel_rfl⟩
instance Ie:aD prog 54 0 0 1:=⟨by unfold aB;kernel_rfl⟩
instance If:aD prog 54 1 1 2:=⟨by unfold aB;kernel_rfl⟩
instance Ig:aD prog 54 2 3 1:=⟨by unfold aB;kernel_rfl⟩
instance Ih:aD prog 54 3 4 1:=⟨by unfold aB;kernel_rfl⟩
instance Ii:aD prog 54 4 5 1:=⟨by unfold aB;kernel_rfl⟩
instance Ij:aD prog 54 5 6 1:=⟨by unfold aB;kernel_rfl⟩
instance Ik:aD prog 56 0 0 1:=⟨by unfold aB;kernel_rfl⟩
instance Il:aD prog 56 1 1 1:=⟨by unfold aB;kernel_rfl⟩
instance Io:aD prog 56 2 2 7:=⟨by unfold aB;kernel_rfl⟩
instance Ip:aD prog 70 0 0 1:=⟨by unfold aB;kernel_rfl⟩
instance Iq:aD prog 70 1 1 1:=⟨by unfold aB;kernel_rfl⟩
instance Ir:aD prog 70 2 2 1:=⟨by unfold aB;kernel_rfl⟩
instance Is:aD prog 70 3 3 1:=⟨by unfold aB;kernel_rfl⟩
instance It:aD prog 70 4 4 1:=⟨by unfold aB;kernel_rfl⟩
instance Iu:aD prog 95 0 0 1:=⟨by unfold aB;kernel_rfl⟩
instance Iv:aD prog 95 1 1 1:=⟨by unfold aB;kernel_rfl⟩
instance Iw:aD prog 95 2 2 1:=⟨by unfold aB;kernel_rfl⟩
instance Ix:aD prog 95 3 3 1:=⟨by unfold aB;kernel_rfl⟩
instance Iy:aD prog 95 4 4 1:=⟨by unfold aB;kernel_rfl⟩
instance Iz:aD prog 95 5 5 1:=⟨by unfold aB;kernel_rfl⟩
instance IA:aD prog 95 6 6 1:=⟨by unfold aB;kernel_rfl⟩
instance IB:aD prog 97 0 0 1:=⟨by unfold aB;kernel_rfl⟩
instance IC:aD prog 97 1 1 1:=⟨by unfold aB;kernel_rfl⟩
instance ID:aD prog 108 0 0 1:=⟨by unfold aB;kernel_rfl⟩
instance IE:aD prog 108 1 1 1:=⟨by unfold aB;kernel_rfl⟩
instance IF:aD prog 108 2 2 1:=⟨by unfold aB;kernel_rfl⟩
instance IG:aD prog 108 3 3 1:=⟨by unfold aB;kernel_rfl⟩
instance IH:aD prog 108 4 4 1:=⟨by unfold aB;kernel_rfl⟩
instance II:aD prog 108 5 5 2:=⟨by unfold aB;kernel_rfl⟩
instance IJ:aD prog 108 6 7 1:=⟨by unfold aB;kernel_rfl⟩
instance IK:aD prog 108 7 8 1:=⟨by unfold aB;kernel_rfl⟩
instance IL:aD prog 108 8 9 1:=⟨by unfold aB;kernel_rfl⟩
instance IM:aD prog 108 9 10 1:=⟨by unfold aB;kernel_rfl⟩
instance IN:aD prog 108 10 11 1:=⟨by unfold aB;kernel_rfl⟩
instance IP:aD prog 108 11 12 1:=⟨by unfold aB;kernel_rfl⟩
instance IQ:aD prog 108 12 13 1:=⟨by unfold aB;kernel_rfl⟩
instance IS:aD prog 108 13 14 1:=⟨by unfold aB;kernel_rfl⟩
instance IT:aD prog 125 0 0 1:=⟨by unfold aB;kernel_rfl⟩
instance IU:oK prog 125 0 0 1:=⟨by unfold ic;kernel_rfl⟩
instance IV:aD prog 125 1 1 2:=⟨by unfold aB;kernel_rfl⟩
instance IW:oK prog 125 1 1 2:=⟨by unfold ic;kernel_rfl⟩
instance IX:aD prog 197 0 0 1:=⟨by unfold aB;kernel_rfl⟩
instance IY:aD prog 197 1 1 1:=⟨by unfold aB;kernel_rfl⟩
instance IZ:aD prog 197 2 2 1:=⟨by unfold aB;kernel_rfl⟩
instance I1:aD prog 197 3 3 1:=⟨by unfold aB;kernel_rfl⟩
instance I4:aD prog 197 4 4 1:=⟨by unfold aB;kernel_rfl⟩
instance I5:aD prog 197 5 5 1:=⟨by unfold aB;kernel_rfl⟩
instance I6:aD prog 197 6 6 1:=⟨by unfold aB;kernel_rfl⟩
instance I7:aD prog 199 0 0 1:=⟨by unfold aB;kernel_rfl⟩
instance I8:aD prog 199 1 1 1:=⟨by unfold aB;kernel_rfl⟩
instance I9:aD prog 201 0 0 1:=⟨by unfold aB;kernel_rfl⟩
instance Ja:aD prog 201 1 1 1:=⟨by unfold aB;kernel_rfl⟩
instance Jb:aD prog 201 2 2 1:=⟨by unfold aB;kernel_rfl⟩
instance Jc:aD prog 201 3 3 1:=⟨by unfold aB;kernel_rfl⟩
instance Jd:aD prog 201 4 4 1:=⟨by unfold aB;kernel_rfl⟩
instance Je:aD prog 201 5 5 2:=⟨by unfold aB;kernel_rfl⟩
instance Jf:aD prog 201 6 7 1:=⟨by unfold aB;kernel_rfl⟩
instance Jg:aD prog 201 7 8 1:=⟨by unfold aB;kernel_rfl⟩
instance Jh:aD prog 201 8 9 1:=⟨by unfold aB;kernel_rfl⟩
instance Ji:aD prog 201 9 10 1:=⟨by unfold aB;kernel_rfl⟩
instance Jj:aD prog 201 10 11 1:=⟨by unfold aB;kernel_rfl⟩
instance Jk:aD prog 201 11 12 1:=⟨by unfold aB;kernel_rfl⟩
instance Jl:aD prog 201 12 13 1:=⟨by unfold aB;kernel_rfl⟩
instance Jm:aD prog 201 13 14 1:=⟨by unfold aB;kernel_rfl⟩
instance Jn:aD prog 205 0 0 1:=⟨by unfold aB;kernel_rfl⟩
instance Jo:aD prog 205 1 1 1:=⟨by unfold aB;kernel_rfl⟩
instance Jp:aD prog 205 2 2 1:=⟨by unfold aB;kernel_rfl⟩
instance Jq:aD prog 205 3 3 1:=⟨by unfold aB;kernel_rfl⟩
instance Jr:aD prog 205 4 4 1:=⟨by unfold aB;kernel_rfl⟩
instance Js:aD prog 205 5 5 1:=⟨by unfold aB;kernel_rfl⟩
instance Jt:aD prog 205 6 6 1:=⟨by unfold aB;kernel_rfl⟩
instance Ju:aD prog 205 7 7 1:=⟨by unfold aB;kernel_rfl⟩
instance Jv:aD prog 205 8 8 1:=⟨by unfold aB;kernel_rfl⟩
instance Jw:aD prog 205 9 9 2:=⟨by unfold aB;kernel_rfl⟩
instance Jx:aD prog 205 10 11 1:=⟨by unfold aB;kernel_rfl⟩
instance Jy:aD prog 205 11 12 1:=⟨by unfold aB;kernel_rfl⟩
instance Jz:aD prog 249 0 0 1:=⟨by unfold aB;kernel_rfl⟩
instance JA:aD prog 249 1 1 2:=⟨by unfold aB;kernel_rfl⟩
instance JB:aD prog 267 0 0 1:=⟨by unfold aB;kernel_rfl⟩
instance JC:aD prog 267 1 1 2:=⟨by unfold aB;kernel_rfl⟩
instance JD:aD prog 267 2 3 1:=⟨by unfold aB;kernel_rfl⟩
instance JE:aD prog 267 3 4 1:=⟨by unfold aB;kernel_rfl⟩
instance JF:aD prog 267 4 5 1:=⟨by unfold aB;kernel_rfl⟩
instance JG:aD prog 267 5 6 1:=⟨by unfold aB;kernel_rfl⟩
instance JH:aD prog 270 0 0 1:=⟨by unfold aB;kernel_rfl⟩
instance JI:aD prog 270 1 1 1:=⟨by unfold aB;kernel_rfl⟩
instance JJ:aD prog 270 2 2 7:=⟨by unfold aB;kernel_rfl⟩
instance JK:aD prog 272 0 0 1:=⟨by unfold aB;kernel_rfl⟩
instance JL:aD prog 272 1 1 1:=⟨by unfold aB;kernel_rfl⟩
def jM:lD prog 42 2:=⟨by kernel_rfl,λxs ys w hx hy=>by
 match xs,ys,hx,hy with
 |[x0,x1],[y0,y1],_,_=>
  simp[go_sem,Tryz.underlying42]
  (repeat' split)<;>simp_all⟩
def wc:lD prog 125 3:=⟨by kernel_rfl,λxs ys w hx hy=>by
 match xs,ys,hx,hy with
 |[x0,x1,x2],[y0,y1,y2],_,_=>
  simp[go_sem,Tryz.underlying125]
  (repeat' split)<;>simp_all⟩
end Go.Proofs.YtldbakcpcfdlaaaGreat
namespace Go.Proofs.YtldbakcpcfdlaaaGreat
open Go Go.RowKit Tryz
def Own.is (x:AV) (v:Value):Own:=⟨λ_=>False,λI _=>x.h I v,λ_ _ _ _ hl _ h=>x.up _ _ _ hl h⟩
def kJ (ds:List Nat) (a:Act):Env:=ds.map λt=>(t,AV.val (a.tmps.getD t undef))
def we {I:Im} {a:Act}:∀ds:List Nat,br I a (kJ ds a)
 |[],t,x,e=>by simp[kJ,Env.get] at e
 |s::ds,t,x,e=>by
  simp only[kJ,List.map_cons,Env.get] at e;cases hb:Nat.beq s t with
  |true=>rw[hb] at e;obtain rfl:s=t:=Nat.eq_of_beq_eq_true hb;simp only[cond_true,Option.some.injEq] at e;subst e;exact(rfl:a.tmps.getD s undef=a.tmps.getD s undef)
  |false=>rw[hb] at e;exact we ds t x (by simpa[kJ] using e)
section
variable {P:Program} {c:Ctx} {I:Im} {H:List Own} {Γ:Env} {a:Act} {w:World} {Q:Exit->Act->World->Prop} {ops:Array Oper} {rest os:List Oper} {Hf:List (EA->Own)} {ms:Meta} {E:TypeId} {sz:Nat} {l:List (List AV)} {v:Value} {x:AV}
def St.nf {H':List Own} (U:St c I H Γ a w) (h:H=H':=by first|(simp only[fill,hole,List.set_cons_zero,List.set_cons_succ,List.cons_append,List.nil_append,List.append_nil];exact rfl)|exact rfl):St c I H' Γ a w:=h▸U
def St.CO (U:St c I H Γ a w) (h:x.h I v):St c I (H++[Own.is x v]) Γ a w:=
 ⟨U.step,⟨λy hy=>by
  rcases List.mem_append.1 hy with hy|hy
  .exact U.own.all y hy
  .obtain rfl:=by simpa using hy
   exact⟨h,λb e=>by cases e⟩,
  by rw[List.pairwise_append];exact⟨U.own.apart,by simp,λy _ z hz b _ e=>by obtain rfl:z=_:=List.mem_singleton.1 hz;exact e.elim⟩⟩,U.env,U.size,U.defers⟩
def bg.fP {d:Nat} {f:FuncId} {ys:Array Operand} {ts:Array TypeId} {ty:TypeId} {p:String} {af:Array Edge} {xs:List AV} (k:Nat) (hk:Hf[k]?=some λ_=>Own.gone) (hd:Nat.blt d c.n=true) (hf:fG P f xs E sz l)
 (eM:∀I a,br I a (Γ.only ((⟨some d,.call ⟨.value (.func f),ys,ts⟩,ty,p,af,none⟩:Oper).looksAt ops))->true=true->bI I xs (ys.map a.eval).toList)
 (r:bg P c ops Q ((d,AV.oC)::Γ) (Hf.set k λa=>Own.row (a.tmps.getD d undef) E sz l) os ms):bg P c ops Q Γ Hf (⟨some d,.call ⟨.value (.func f),ys,ts⟩,ty,p,af,none⟩::os) (([k],some (k,[d]))::ms):=
 bg.cons (u:=some ⟨k,[d],λa=>Own.row (a.tmps.getD d undef) E sz l⟩) (x:=AV.oC) (qY (g:=λv=>Own.row v E sz l) λv v' e=>e▸rfl) (λF W0 I0 I γ a w Q U kk=>by
  refine U.fP hf eM hd λI' v a' w' bj=>?_;have hv:a'.tmps.getD d undef=v:=bj.env d (.val v) (by simp[Env.get]);have dC:=bj.oA k (jH hk);have CP:=dC.own.all (Own.row v E sz l) (List.mem_of_getElem? (i:=k) (by rw[List.getElem?_set_self (List.getElem?_eq_some_iff.1 (jH (a:=ea a γ) (F:=F) hk)).1]));have h1:v.oneCell'=true:=by
   obtain⟨_,⟨_,rfl|⟨q,rfl,_⟩⟩|⟨b,cap,cur,rfl,_⟩⟩:=CP.1<;>rfl
  have CQ:St ⟨W0.1,I0,c.n,W0.2⟩ I' ((cr [k] (ea a γ) F 0 Hf).set k (Own.row v E sz l)) ((d,AV.oC)::Γ.only ((⟨some d,.call ⟨.value (.func f),ys,ts⟩,ty,p,af,none⟩:Oper).looksAt ops)) a' w':=
   ⟨dC.step,dC.own,λt y e=>by
    simp only[Env.get] at e;cases hb:Nat.beq d t with
    |true=>rw[hb] at e;obtain rfl:d=t:=Nat.eq_of_beq_eq_true hb;simp at e;subst e;rw[hv];exact h1
    |false=>rw[hb] at e;exact dC.env t y (by simp only[Env.get,hb];exact e),dC.size,dC.defers⟩
  exact kk γ (λ_ _=>rfl) I' a' w' (CQ.pass (lN (a':=ea a' γ) (f:=λa=>Own.row (a.tmps.getD d undef) E sz l) (by rw[hv])))) r
def Ok.to {g:Bool} {o:Oper} {y:AV} (h:Ok P H Γ g o x) (e:x=y:=by rfl):Ok P H Γ g o y:=e▸h
def St.CR {d:Nat} (k:Nat) (U:St c I H Γ a w) (hk:H[k]?=some (Own.is x (a.tmps.getD d undef))):St c I (H.set k Own.gone) ((d,x)::Γ) a w:=by
 have hx:=(U.own.all _ (List.mem_of_getElem? hk)).1;refine⟨U.step,⟨λo ho=>?_,fB U.own.apart λb e=>e.elim⟩,λt y e=>?_,U.size,U.defers⟩
 .rcases List.mem_or_eq_of_mem_set ho with ho|rfl
  .exact U.own.all o ho
  exact⟨trivial,λb e=>by cases e⟩
 simp only[Env.get] at e;cases hb:Nat.beq d t with
 |true=>rw[hb] at e;obtain rfl:d=t:=Nat.eq_of_beq_eq_true hb;simp at e;subst e;exact hx
 |false=>rw[hb] at e;exact U.env t y (by simpa using e)
end
def CS {P:Program} {H:List Own} {Γ:Env} {g:Bool} {d:Option Tmp} {ty:TypeId} {p:String} {af:Array Edge} {gd:Option (Nat×Bool)} {f:FuncId} {ys:Array Operand} {ts:Array TypeId} {xs:List AV} {res:AV} (hf:g=true->Fn P f xs res) (h:∀I a,br I a Γ->g=true->bI I xs (ys.map a.eval).toList):
 Ok P H Γ g ⟨d,.call ⟨.value (.func f),ys,ts⟩,ty,p,af,gd⟩ res:=λbase I a w K Q he hm hw hg k=>fA (hf hg) h base I a w K Q he hm hw hg k
section
variable {P:Program} {c:Ctx} {I:Im} {H:List Own} {Γ:Env} {a:Act} {w:World} {Q:Exit->Act->World->Prop} {ops:Array Oper} {rest os:List Oper} {Hf:List (EA->Own)} {ms:Meta} {E:TypeId} {sz:Nat} {l:List (List AV)} {v:Value} {x:AV}
def oX {v:Value} (h:(Own.row v E sz l).ok I w) (hl:l≠[]):∃b cap,v=.slice (some ⟨b,0,none⟩) l.length cap:=by
 obtain⟨_,⟨h0,_⟩|⟨b,cap,cur,e,_⟩⟩:=h
 .exact absurd h0 hl
 exact⟨b,cap,e⟩
def kK:Value->Nat
 |.slice (some q) _ _=>q.block
 |_=>0
def be {g:Bool} {d:Option Tmp} {y z:Operand} {ty T:TypeId} {p:String} {af:Array Edge} {gd:Option (Nat×Bool)} {ag:Bool} {m:Nat} {zv:Value} {i:Int} (k:Nat) (hT:P.underlying T=some (.slice E)) (hE:Ty P E ag sz m zv) (h:At Γ g y (.val v)) (hi:At Γ g z (.int i)) (hk:H[k]?=some (Own.row v E sz l)) (hb:g=true->0<=i/\i<l.length):
 Ok P H Γ g ⟨d,.indexAddr T y z,ty,p,af,gd⟩ (.val (.pointer (some ⟨kK v,i.toNat*sz,none⟩))):=
 dr λbase I a w he hm hw hg=>by
  obtain⟨h0,h1⟩:=hb hg;obtain⟨b,cap,rfl⟩:=oX (hw.all _ (List.mem_of_getElem? hk)).1 (by rintro rfl;simp at h1;omega);have e:a.eval y=_:=h I a he hg;have e2:a.eval z=_:=hi I a he hg;have U:(sizeOf E).run P w=.ok sz w:=hE.size;refine⟨_,?_,rfl⟩;simp only[execOp,e,e2,Instr.indexAt,asIntOf,Sem.run_bind,Sem.run_pure,Result.andThen_ok,run_underlying hT];simp[h0,h1,add_plain,U,kK]
def fk {g:Bool} {d:Option Tmp} {y:Operand} {ty T:TypeId} {p:String} {af:Array Edge} {gd:Option (Nat×Bool)} {n m:Nat} {zv:Value} {q i j:Nat} {r:List AV} (k:Nat) (hT:Ty P T false n m zv) (h:At Γ g y (.val (.pointer (some ⟨kK v,q,none⟩)))) (hk:H[k]?=some (Own.row v E sz l))
 (hr:g=true->l[i]?=some r) (hq:q=i*sz+j) (hx:r[j]?=some x) (CU:Nat.blt j sz=true):Ok P H Γ g ⟨d,.load T y,ty,p,af,gd⟩ x:=
 dr λbase I a w he hm hw hg=>by
  obtain⟨b,cap,rfl⟩:=oX (hw.all _ (List.mem_of_getElem? hk)).1 (by rintro rfl;simpa using hr hg);have e:a.eval y=_:=h I a he hg;have hj:j<sz:=by simpa using CU
  obtain⟨cs,h1,h2,h3⟩:=Ae hk hw (hr hg) hq om;obtain⟨u,hu,CV,_⟩:=h1.get (i:=0) (x:=x) (by rw[List.getElem?_drop];simpa using hx);refine⟨u,?_,CV⟩;have hc:w.cell? ⟨b,q,none⟩=some u:=h3 0 u hu;simp only[execOp,e,Instr.loadAt,Instr.sureAddr,Sem.run_bind,Sem.run_pure,Result.andThen_ok,kK,nW hT hc]
end
end Go.Proofs.YtldbakcpcfdlaaaGreat
namespace Go.Proofs.YtldbakcpcfdlaaaGreat
open Go Go.RowKit Tryz
section
variable {P:Program} {c:Ctx} {I:Im} {H:List Own} {Γ:Env} {a:Act} {w:World} {Q:Exit->Act->World->Prop} {ops:Array Oper} {rest:List Oper} {E T ty:TypeId} {y z:Operand} {m:Nat} {zv:Value} {p:String} {af:Array Edge}
def bm.conv {α β:Type} {f:FuncId} {args:List AV} {h0:List Own} {ok:α->Prop} {h1:α->List Own} {res:α->AV} {wg:β->Prop} {qB:β->List Own} {iN:β->AV} (h:bm P f args h0 ok h1 res) (k:∀x,ok x->∃y,wg y/\qB y=h1 x/\iN y=res x):bm P f args h0 wg qB iN:=
 ⟨h.1,λI w vs hm ho ha=>(h.2 I w vs hm ho ha).mono λe w' he=>by
   cases e with
   |panicked _=>exact he.elim
   |outgrown=>exact he.elim
   |returned v=>
    obtain⟨x,I',hx,aX,cS,hv⟩:=he
    obtain⟨y,hy,e1,e2⟩:=k x hx
    exact⟨y,I',hy,aX,e1▸cS,e2▸hv⟩⟩
end
end Go.Proofs.YtldbakcpcfdlaaaGreat
namespace Go.Proofs.YtldbakcpcfdlaaaGreat
open Go Go.RowKit Tryz
def Own.many (L:List Own):Own:=
 ⟨λb=>∃o∈L,o.bP b,λI w=>(∀o∈L,o.ok I w)/\L.Pairwise eE,
  λI I' w w' hl hb h=>⟨λo ho=>o.fy I I' w w' hl (λb e=>hb b ⟨o,ho,e⟩) (h.1 o ho),h.2⟩⟩
def Own.res {α:Type} (ok:α->Prop) (res:α->AV) (g:Value->List Own) (v:Value):Own:=
 ⟨λb=>∃o∈g v,o.bP b,λI w=>(∃x,ok x/\(res x).h I v)/\(∀o∈g v,o.ok I w)/\(g v).Pairwise eE,
  λI I' w w' hl hb h=>⟨let⟨x,h1,h2⟩:=h.1;⟨x,h1,(res x).up _ _ _ hl h2⟩,λo ho=>o.fy I I' w w' hl (λb e=>hb b ⟨o,ho,e⟩) (h.2.1 o ho),h.2.2⟩⟩
def AV.some {α:Type} (ok:α->Prop) (f:α->AV):AV:=⟨λI v=>∃x,ok x/\(f x).h I v,λI J v hl ⟨x,h,k⟩=>⟨x,h,(f x).up I J v hl k⟩⟩
section
variable {P:Program} {c:Ctx} {I:Im} {H:List Own} {Γ:Env} {a:Act} {w:World} {Q:Exit->Act->World->Prop} {ops:Array Oper} {rest os:List Oper} {Hf:List (EA->Own)} {ms:Meta} {E T:TypeId} {sz:Nat} {l:List (List AV)} {v:Value} {x:AV}
def aO.open {base:Nat->Prop} {k:Nat} {o:Own} {L:List Own} (h:aO base I w H) (hk:H[k]?=Option.some o) (hb:∀b,(∃p∈L,p.bP b)->o.bP b) (ho:∀p∈L,p.ok I w) (hL:L.Pairwise eE):aO base I w (H.set k Own.gone++L):=by
 refine⟨λy hy=>?_,List.pairwise_append.2 ⟨fB h.apart λb e=>e.elim,hL,λy hy z hz b e e'=>?_⟩⟩
 .rcases List.mem_append.1 hy with hy|hy
  .rcases List.mem_or_eq_of_mem_set hy with hy|rfl
   .exact h.all y hy
   exact⟨trivial,λb e=>e.elim⟩
  exact⟨ho y hy,λb e=>(h.all o (List.mem_of_getElem? hk)).2 b (hb b ⟨y,hy,e⟩)⟩
 obtain⟨i,hi⟩:=List.mem_iff_getElem?.1 hy;rw[List.getElem?_set] at hi;split at hi
 .split at hi
  .cases hi;exact e
  cases hi
 rename_i aY;exact jw h.apart (λe=>aY e.symm) hi hk b e (hb b ⟨z,hz,e'⟩)
def St.split {L:List Own} (k:Nat) (U:St c I H Γ a w) (hk:H[k]?=Option.some (Own.many L)):St c I (H.set k Own.gone++L) Γ a w:=by
 obtain⟨h1,h2⟩:=(U.own.all _ (List.mem_of_getElem? hk)).1;exact⟨U.step,U.own.open hk (λb h=>h) h1 h2,U.env,U.size,U.defers⟩
def aO.close {base:Nat->Prop} {o:Own} {L:List Own} (h:aO base I w (H++L)) (hb:∀b,o.bP b->∃p∈L,p.bP b) (ho:o.ok I w):aO base I w (H++[o]):=by
 obtain⟨h1,h2,h3⟩:=List.pairwise_append.1 h.apart;refine⟨λy hy=>?_,List.pairwise_append.2 ⟨h1,by simp,λy hy z hz b e e'=>?_⟩⟩
 .rcases List.mem_append.1 hy with hy|hy
  .exact h.all y (List.mem_append_left _ hy)
  obtain rfl:=List.mem_singleton.1 hy;exact⟨ho,λb e=>let⟨p,hp,e'⟩:=hb b e;(h.all p (List.mem_append_right _ hp)).2 b e'⟩
 obtain rfl:=List.mem_singleton.1 hz;obtain⟨p,hp,e2⟩:=hb b e';exact h3 y hy p hp b e e2
def St.join {L:List Own} (U:St c I (H++L) Γ a w):St c I (H++[Own.many L]) Γ a w:=
 ⟨U.step,U.own.close (λb h=>h) ⟨λo ho=>(U.own.all o (List.mem_append_right _ ho)).1,(List.pairwise_append.1 U.own.apart).2.1⟩,U.env,U.size,U.defers⟩
def aC.imp {I:Im}:∀{l m:List AV} {cs:List Value},aC I l cs->l.length=m.length->(∀(i:Nat) (x y:AV) (v:Value),l[i]?=Option.some x->m[i]?=Option.some y->x.h I v->y.h I v)->aC I m cs
 |[],[],[],_,_,_=>trivial
 |x::l,y::m,v::cs,h,hl,hi=>⟨⟨hi 0 x y v rfl rfl h.1.1,h.1.2⟩,aC.imp h.2 (by simpa using hl) λi x y v h1 h2=>hi (i+1) x y v (by simpa using h1) (by simpa using h2)⟩
 |[],_::_,_,_,hl,_=>by simp at hl
 |_::_,[],_,_,hl,_=>by simp at hl
 |[],[],_::_,h,_,_=>h.elim
 |_::_,_::_,[],h,_,_=>h.elim
def aC.none {I:Im} {cs:List Value} (h:aC I [] cs):cs=[]:=by
 cases cs with
 |nil=>rfl
 |cons u us=>exact h.elim
def aC.split {I:Im} {l m:List AV} {cs:List Value} (h:aC I (l++m) cs):aC I l (cs.take l.length)/\aC I m (cs.drop l.length):=
 ⟨(h.take l.length).cast aJ rfl,(h.drop l.length).cast aJ rfl⟩
end
section
variable {P:Program} {c:Ctx} {I:Im} {H:List Own} {Γ:Env} {a:Act} {w:World} {Q:Exit->Act->World->Prop} {ops:Array Oper} {rest:List Oper} {E T:TypeId} {sz:Nat} {l:List (List AV)} {v:Value} {x:AV}
def aO.swap {base:Nat->Prop} {k:Nat} {o o':Own} (h:aO base I w H) (hk:H[k]?=some o) (hb:∀b,o'.bP b->o.bP b) (ok:o'.ok I w):aO base I w (H.set k o'):=by
 refine⟨λy hy=>?_,fB h.apart λb e=>.inl ⟨o,hk,hb b e⟩⟩;rcases List.mem_or_eq_of_mem_set hy with hy|rfl
 .exact h.all y hy
 exact⟨ok,λb e=>(h.all o (List.mem_of_getElem? hk)).2 b (hb b e)⟩
def St.swap {o o':Own} (k:Nat) (U:St c I H Γ a w) (hk:H[k]?=some o) (hb:∀b,o'.bP b->o.bP b) (ok:o.ok I w->o'.ok I w):St c I (H.set k o') Γ a w:=
 ⟨U.step,U.own.swap hk hb (ok (U.own.all _ (List.mem_of_getElem? hk)).1),U.env,U.size,U.defers⟩
def St.focus {L:List Own} {O:Own} (k i:Nat) (U:St c I H Γ a w) (hk:H[k]?=some (Own.many L)) (hi:L[i]?=some O):St c I (H.set k (Own.many (L.set i Own.gone))++[O]) Γ a w:=by
 obtain⟨h1,h2⟩:=(U.own.all _ (List.mem_of_getElem? hk)).1;have hO:=List.mem_of_getElem? hi;have oY:∀b,(Own.many (L.set i Own.gone)).bP b->(Own.many L).bP b:=λb ⟨o,ho,e⟩=>by
  rcases List.mem_or_eq_of_mem_set ho with ho|rfl
  .exact⟨o,ho,e⟩
  exact e.elim
 have ak:(Own.many (L.set i Own.gone)).ok I w:=⟨λo ho=>by
  rcases List.mem_or_eq_of_mem_set ho with ho|rfl
  .exact h1 o ho
  exact trivial,fB h2 λb e=>e.elim⟩
 have CW:eE (Own.many (L.set i Own.gone)) O:=λb ⟨o,ho,e⟩ e'=>by
  obtain⟨j,hj⟩:=List.mem_iff_getElem?.1 ho;rw[List.getElem?_set] at hj;split at hj
  .split at hj
   .cases hj;exact e
   cases hj
  rename_i aY;exact jw h2 (λe=>aY e.symm) hj hi b e e'
 have h3:=U.own.swap hk oY ak;refine⟨U.step,⟨λy hy=>?_,List.pairwise_append.2 ⟨h3.apart,by simp,λy hy z hz b e e'=>?_⟩⟩,U.env,U.size,U.defers⟩
 .rcases List.mem_append.1 hy with hy|hy
  .exact h3.all y hy
  obtain rfl:=List.mem_singleton.1 hy;exact⟨h1 y hO,λb e=>(U.own.all _ (List.mem_of_getElem? hk)).2 b ⟨y,hO,e⟩⟩
 obtain rfl:=List.mem_singleton.1 hz;obtain⟨j,hj⟩:=List.mem_iff_getElem?.1 hy;have ei:=(List.getElem?_eq_some_iff.1 hk).1;by_cases rN:j=k
 .subst rN;rw[List.getElem?_set_self ei] at hj;cases hj;exact CW b e e'
 rw[List.getElem?_set_ne (λe=>rN e.symm)] at hj;exact jw U.own.apart rN hj hk b e ⟨z,hO,e'⟩
def St.wh {L:List Own} {O:Own} (k i:Nat) (U:St c I (H++[O]) Γ a w) (hk:H[k]?=some (Own.many L)) (hi:L[i]?=some Own.gone):St c I (H.set k (Own.many (L.set i O))) Γ a w:=by
 have ei:=(List.getElem?_eq_some_iff.1 hk).1;have cX:(H++[O])[k]?=some (Own.many L):=by rw[List.getElem?_append_left ei];exact hk
 obtain⟨h1,h2⟩:=(U.own.all _ (List.mem_of_getElem? cX)).1;obtain⟨p1,_,p3⟩:=List.pairwise_append.1 U.own.apart;have hO:=U.own.all O aJ;have CX:∀y∈L,eE y O:=λy hy b e e'=>p3 _ (List.mem_of_getElem? hk) O aJ b ⟨y,hy,e⟩ e';refine⟨U.step,⟨λy hy=>?_,fB p1 λb ⟨o,ho,e⟩=>?_⟩,U.env,U.size,U.defers⟩
 .rcases List.mem_or_eq_of_mem_set hy with hy|rfl
  .exact U.own.all y (List.mem_append_left _ hy)
  refine⟨⟨λo ho=>?_,fB h2 λb e=>.inr λy hy e'=>CX y hy b e' e⟩,λb ⟨o,ho,e⟩=>?_⟩
  .rcases List.mem_or_eq_of_mem_set ho with ho|rfl
   .exact h1 o ho
   exact hO.1
  rcases List.mem_or_eq_of_mem_set ho with ho|rfl
  .exact(U.own.all _ (List.mem_of_getElem? cX)).2 b ⟨o,ho,e⟩
  exact hO.2 b e
 rcases List.mem_or_eq_of_mem_set ho with ho|rfl
 .exact .inl ⟨_,hk,o,ho,e⟩
 exact .inr λy hy e'=>p3 y hy o aJ b e' e
def St.merge {L:List Own} {O:Own} (k:Nat) (U:St c I (H++[O]) Γ a w) (hk:H[k]?=some (Own.many L)):St c I (H.set k (Own.many (L++[O]))) Γ a w:=by
 have ei:=(List.getElem?_eq_some_iff.1 hk).1;have bj:St c I (H.set k (Own.many (L++[Own.gone]))++[O]) Γ a w:=by
  have:=U.swap (o:=Own.many L) (o':=Own.many (L++[Own.gone])) k (by rw[List.getElem?_append_left ei];exact hk) (λb ⟨o,ho,e⟩=>by
   rcases List.mem_append.1 ho with ho|ho
   .exact⟨o,ho,e⟩
   .obtain rfl:=List.mem_singleton.1 ho;exact e.elim) (λh=>⟨λo ho=>by
   rcases List.mem_append.1 ho with ho|ho
   .exact h.1 o ho
   obtain rfl:=List.mem_singleton.1 ho;exact trivial,List.pairwise_append.2 ⟨h.2,by simp,λy _ z hz b _ e=>by obtain rfl:=List.mem_singleton.1 hz;exact e⟩⟩)
  rwa[List.set_append_left _ _ ei] at this
 have:=bj.wh k L.length (by rw[List.getElem?_set_self ei]) aJ;simpa[List.set_append_right,ei] using this
def St.tie {L:List Own} (n:Nat) (U:St c I H Γ a w) (hn:H.drop n=L:=by rfl):St c I (H.take n++[Own.many L]) Γ a w:=by
 subst hn;exact St.join (by rw[List.take_append_drop];exact U)
noncomputable def Im.with (I:Im) (w:World) (O:Own):Im:=λb=>
 haveI:=Classical.propDecidable (O.bP b)
 if O.bP b then(match w.heap[b]? with|some (.cells cs _ _)=>some cs|_=>none) else I b
def bR (I':Im) (w:World) (O:Own):Prop:=∀b cs T fr,O.bP b->w.heap[b]?=some (.cells cs T fr)->I' b=some cs
def bR.up {I J:Im} {O:Own} (h:bR I w O) (hl:Im.le I J):bR J w O:=λb cs T fr e k=>hl _ _ (h b cs T fr e k)
def bR.sub {I':Im} {O:Own} {L:List Own} (h:bR I' w (Own.many L)) (ho:O∈L):bR I' w O:=λb cs T fr e k=>h b cs T fr ⟨O,ho,e⟩ k
def St.oZ {O:Own} (k:Nat) (U:St c I H Γ a w) (hk:H[k]?=some O):∃I',St c I' (H.set k Own.gone) Γ a w/\Im.le I I'/\bR I' w O:=by
 classical
 obtain⟨_,h2⟩:=U.own.all O (List.mem_of_getElem? hk);have jA:∀b,O.bP b->I.with w O b=(match w.heap[b]? with|some (.cells cs _ _)=>some cs|_=>none):=λb e=>by unfold Im.with;exact if_pos e
 have ly:∀b,¬O.bP b->I.with w O b=I b:=λb e=>by unfold Im.with;exact if_neg e
 have hle:Im.le I (I.with w O):=λb cs e=>by
  rw[ly b λh=>by rw[(h2 b h).2.1] at e;cases e];exact e
 refine⟨I.with w O,⟨⟨Im.le_trans U.step.le hle,λb hb hf=>?_,λb ds e=>?_,U.step.below⟩,⟨λo ho=>?_,fB U.own.apart λb e=>e.elim⟩,U.env.up hle,U.size,U.defers⟩,hle,λb cs T fr e h=>?_⟩
 .rw[ly b λe=>by rcases(h2 b e).1 with h|h;exact absurd h om;exact hf h];exact U.step.cR b hb hf
 .by_cases h:O.bP b
  .rw[jA b h] at e;split at e
   .rename_i cs T fr hw;cases e;exact⟨T,fr,hw⟩
   cases e
  rw[ly b h] at e;exact U.step.bO b ds e
 .obtain⟨i,hi⟩:=List.mem_iff_getElem?.1 ho;have ei:k<H.length:=(List.getElem?_eq_some_iff.1 hk).1;by_cases gP:i=k
  .subst gP;rw[List.getElem?_set_self ei] at hi;cases hi;exact⟨trivial,λb e=>e.elim⟩
  rw[List.getElem?_set_ne (λe=>gP e.symm)] at hi;obtain⟨h1,h3⟩:=U.own.all o (List.mem_of_getElem? hi);refine⟨o.fy I _ w w hle (λ_ _=>rfl) h1,λb e=>?_⟩;obtain⟨a1,a2,a3⟩:=h3 b e;exact⟨a1,(ly b λh=>jw U.own.apart gP hi hk b e h).trans a2,a3⟩
 rw[jA b e,h]
def bR.row {I':Im} (h:bR I' w (Own.row v E sz l)) (ok:(Own.row v E sz l).ok I w) (hle:Im.le I I'):(AV.rows sz l).h I' v:=by
 obtain⟨bf,⟨rfl,ke⟩|⟨b,cap,cur,rfl,h0,hb,h3,h4,h5,hl⟩⟩:=ok
 .rcases ke with rfl|⟨q,rfl,hq⟩
  .exact c9 sz I'
  exact⟨some q,0,rfl,Nat.le_refl _,by simp[maxLen],λr hr=>by simp at hr,.inl rfl,(λh=>by cases h)⟩
 refine⟨some ⟨b,0,none⟩,cap,rfl,h3,h4,bf,?_,(λh=>by cases h)⟩;by_cases kg:l=[]
 .exact .inl kg
 refine .inr ⟨_,rfl,rfl,cur,h b cur E (0,0) (pV (q:=⟨b,0,none⟩) h0) hb,(hl.up hle).cast rfl ?_⟩;simp[eO bf]
def ec (I:Im) (C D:List AV):Prop:=∀cs,aC I C cs->aC I D cs
def ec.flat {α:Type} {f g:α->List AV}:∀{m:List α},(∀x∈m,ec I (f x) (g x))->(∀x∈m,(f x).length=(g x).length)->ec I (m.map f).flatten (m.map g).flatten
 |[],_,_=>λcs h=>h
 |x::m,h,hn=>λcs hc=>by
  simp only[List.map_cons,List.flatten_cons] at hc⊢;obtain⟨h1,h2⟩:=hc.split;have e1:=h x aJ _ h1;have e2:=ec.flat (λy hy=>h y (by simp[hy])) (λy hy=>hn y (by simp[hy])) _ h2;exact(e1.append e2).cast rfl (List.take_append_drop _ _)
def wi {α:Type} {f g:α->List AV} {m:List α} (h:(AV.rows sz (m.map f)).h I v) (U:∀x∈m,ec I (f x) (g x)) (hn:∀x∈m,(f x).length=(g x).length):(AV.rows sz (m.map g)).h I v:=by
 obtain⟨p,cap,e,h1,h2,h3,h4,h5⟩:=h;refine⟨p,cap,by simpa using e,by simpa using h1,h2,λr hr=>?_,?_,h5⟩
 .obtain⟨x,hx,rfl⟩:=List.mem_map.1 hr;rw[<-hn x hx];exact h3 _ (List.mem_map.2 ⟨x,hx,rfl⟩)
 rcases h4 with h4|⟨q,hq,hc⟩
 .rw[List.map_eq_nil_iff] at h4;subst h4;exact .inl rfl
 obtain⟨nS,cs,e1,hl⟩:=hc;have hlen:(m.map f).flatten.length=(m.map g).flatten.length:=by
  rw[eO h3,eO (sz:=sz) λr hr=>by
   obtain⟨x,hx,rfl⟩:=List.mem_map.1 hr;rw[<-hn x hx];exact h3 _ (List.mem_map.2 ⟨x,hx,rfl⟩)]
  simp
 exact .inr ⟨q,hq,nS,cs,e1,by rw[<-hlen];exact ec.flat U hn _ hl⟩
def ee {C:List AV} {u:Value} {y:AV} (q:Nat) (hq:C[q]?=some (.val u)) (hy:y.h I u):ec I C (C.set q y):=λcs h=>by
 obtain⟨u',hu,hv,h1⟩:=h.get hq;obtain rfl:u'=u:=hv;refine(h.set q hy h1).cast rfl (qp hu)
def ec.trans {C D F:List AV} (h:ec I C D) (k:ec I D F):ec I C F:=λcs e=>k cs (h cs e)
def ec.refl (C:List AV):ec I C C:=λ_ h=>h
def Own.Flat (o:Own):Prop:=∀I J w,o.ok I w->o.ok J w
def AV.Flat (x:AV):Prop:=∀I J v,x.h I v->x.h J v
def o1 {u:Value}:(AV.val u).Flat:=λ_ _ _ h=>h
def wj {J:Im}:∀{C:List AV} {cs:List Value},(∀x∈C,x.Flat)->aC I C cs->aC J C cs
 |[],[],_,_=>trivial
 |x::C,u::cs,h,k=>⟨⟨h x aJ _ _ _ k.1.1,k.1.2⟩,wj (λy hy=>h y (by simp[hy])) k.2⟩
 |[],_::_,_,k=>k.elim
 |_::_,[],_,k=>k.elim
def wk (h:∀r∈l,∀x∈r,x.Flat):(Own.row v E sz l).Flat:=λI J w ⟨h1,h2⟩=>
 ⟨h1,h2.imp id λ⟨b,cap,cur,e,h0,hb,h3,h4,h5,hl⟩=>⟨b,cap,cur,e,h0,hb,h3,h4,h5,wj (λx hx=>by
  obtain⟨r,hr,hx⟩:=List.mem_flatten.1 hx;exact h r hr x hx) hl⟩⟩
def rO {L:List Own} (h:∀o∈L,o.Flat):(Own.many L).Flat:=λI J w ⟨h1,h2⟩=>⟨λo ho=>h o ho I J w (h1 o ho),h2⟩
def St.wm {α:Type} {d:Nat} {f:FuncId} {ys:Array Operand} {ts:Array TypeId} {ty:TypeId} {p:String} {af:Array Edge} {xs eR:List AV} {ok:α->Prop} {h1:α->List Own} {res:α->AV} (U:St c I H Γ a w) (hf:bm P f eR [] ok h1 res) (h:∀I a,br I a Γ->true=true->bI I xs (ys.map a.eval).toList)
 (fz:∀c I a w,St c I H (eF 0 xs) a w->∃I2 H2 Γ2,St c I2 H2 Γ2 a w/\jJ 0 eR Γ2) (hn:eR.length=xs.length) (hd:Nat.blt d c.n=true)
 (hO:∀x,ok x->∀o∈h1 x,o.Flat) (hr:∀x,ok x->(res x).Flat)
 (k:∀x I' a' w',ok x->St c I' (H++h1 x) ((d,res x)::Γ) a' w'->wpList P ops Q rest a' w'):wpList P ops Q (⟨some d,.call ⟨.value (.func f),ys,ts⟩,ty,p,af,none⟩::rest) a w:=by
 have hm:=U.step.bO;have h0:=h I a U.env rfl;obtain⟨I2,H2,Γ2,dC,rn⟩:=fz ⟨w,I,(ys.map a.eval).size,λ_=>True⟩ I {tmps:=ys.map a.eval,defers:=[]} w ⟨cE.refl hm,U.own.weaken λb _=>.inr trivial,rm h0,rfl,rfl⟩;have hx:=rl eR [] (ys.map a.eval).toList (by rw[h0.length,hn]) (by rw[List.nil_append,Array.toArray_toList];exact dC.env) rn;have hle:Im.le I I2:=dC.step.le;refine eN rfl ?_;unfold Oper.wp;rw[oG hf.1 rfl,Oper.upon_enter];refine Calls.mono (hf.2 I2 w _ dC.step.bO (aO.nil _ _ _) hx) λe w' he=>?_;cases e with
 |panicked _=>exact he.elim
 |outgrown=>exact he.elim
 |returned v=>
  obtain⟨x,I3,ak,aX,ho,hv⟩:=he
  have aX:=cE.none aX
  have hold:∀b,b<w.heap.size->(λb=>if b<w.heap.size then I b else I3 b) b=I b:=λb hb=>if_pos hb
  have iS:Step I w (λb=>if b<w.heap.size then I b else I3 b) w':=⟨λb cs e=>by
   show(if b<w.heap.size then I b else I3 b)=_;rw[if_pos (hm.lt e)];exact e,hold,λb cs e=>by
   change(if b<w.heap.size then I b else I3 b)=some cs at e;split at e
   .exact aX.bO b cs (aX.le b cs (hle b cs e))
   exact aX.bO b cs e,aX.below⟩
  have cS:=U.own.step iS
  refine k x _ _ w' ak ⟨U.step.trans iS,⟨λo dL=>?_,List.pairwise_append.2 ⟨cS.apart,ho.apart,λo CY o' CZ b e e'=>?_⟩⟩,(U.env.up iS.le).put (by rw[U.size];simpa using hd) (hr x ak _ _ _ hv),by simp[Act.put,U.size],U.defers⟩
  .rcases List.mem_append.1 dL with dL|dL
   .exact cS.all o dL
   obtain⟨q1,q2⟩:=ho.all o dL
   refine⟨hO x ak o dL _ _ _ q1,λb e=>?_⟩
   obtain⟨r1,r2,r3⟩:=q2 b e
   have hb:w.heap.size<=b:=r1.elim id λh=>by simp[cH] at h
   refine⟨.inl (Nat.le_trans U.step.below.size hb),?_,r3⟩
   show(if b<w.heap.size then I b else I3 b)=none
   rw[if_neg om];exact r2
  have l1:=((U.own.all o CY).2 b e).2.2
  have l2:w.heap.size<=b:=((ho.all o' CZ).2 b e').1.elim id λh=>by simp[cH] at h
  omega
def Own.aG {α:Type} (ok:α->Prop) (h1:α->List Own) (res:α->AV) (g:Own) (v:Value):Own:=
 ⟨g.bP,λI w=>g.ok I w/\∃x,ok x/\(res x).h I v/\g=Own.many (h1 x),
  λI I' w w' hl hb ⟨h,x,h1,h2,h3⟩=>⟨g.fy I I' w w' hl hb h,x,h1,(res x).up _ _ _ hl h2,h3⟩⟩
def St.wo {α:Type} {d:Nat} {ok:α->Prop} {h1:α->List Own} {res:α->AV} {g:Own} (k:Nat) (U:St c I H Γ a w) (hk:H[k]?=some (Own.aG ok h1 res g (a.tmps.getD d undef))):∃x,ok x/\St c I (H.set k Own.gone++h1 x) ((d,res x)::Γ) a w:=by
 obtain⟨hg,x,hx,hv,rfl⟩:=(U.own.all _ (List.mem_of_getElem? hk)).1;refine⟨x,hx,U.step,U.own.open hk (λb h=>h) hg.1 hg.2,λt y e=>?_,U.size,U.defers⟩;simp only[Env.get] at e;cases hb:Nat.beq d t with
 |true=>rw[hb] at e;obtain rfl:d=t:=Nat.eq_of_beq_eq_true hb;simp at e;subst e;exact hv
 |false=>rw[hb] at e;exact U.env t y (by simpa using e)
end
end Go.Proofs.YtldbakcpcfdlaaaGreat

/- Part 8: rules of the proofs. -/
import Derived.Test.YtldbakcpcfdlaaaGreatProg
import Derived.Test.YtldbakcpcfdlaaaGreatP06
set_option linter.all false
set_option maxRecDepth 100000
namespace Go.Proofs.YtldbakcpcfdlaaaGreat
open Go Go.RowKit Tryz
instance Sk:c4 prog 3 false 1 8 (.int .i64 0):=⟨by kernel_rfl,by kernel_rfl⟩
def cT:Ty prog 3 false 1 8 (.int .i64 0):=Sk.h
def Sl:∀I,bs I [AV.val (.int .i64 0)] (Value.cells (.int .i64 0)).toList:=λ_=>⟨⟨rfl,rfl⟩,trivial⟩
def wi:∀u∈(Value.cells (.int .i64 0)).toList,u.oneCell'=true:=by simp[Value.cells,Value.oneCell']
instance Sm:c4 prog 4 false 1 1 (.bool false):=⟨by kernel_rfl,by kernel_rfl⟩
def rA:Ty prog 4 false 1 1 (.bool false):=Sm.h
def Sn:∀I,bs I [AV.val (.bool false)] (Value.cells (.bool false)).toList:=λ_=>⟨⟨rfl,rfl⟩,trivial⟩
instance ti5:c4 prog 5 false 1 1 (.int .u8 0):=⟨by kernel_rfl,by kernel_rfl⟩
instance adC:c4 prog 22 false 1 24 (.slice none 0 0):=⟨by kernel_rfl,by kernel_rfl⟩
instance adD:c4 prog 23 false 1 24 (.slice none 0 0):=⟨by kernel_rfl,by kernel_rfl⟩
instance So:c4 prog 24 false 1 24 (.slice none 0 0):=⟨by kernel_rfl,by kernel_rfl⟩
def Fa:Ty prog 24 false 1 24 (.slice none 0 0):=So.h
instance adE:c4 prog 25 false 1 24 (.slice none 0 0):=⟨by kernel_rfl,by kernel_rfl⟩
instance adF:c4 prog 26 false 1 24 (.slice none 0 0):=⟨by kernel_rfl,by kernel_rfl⟩
instance Sp:c4 prog 28 true 5 104 (.agg #[.int .i64 0,.slice none 0 0,.slice none 0 0,.slice none 0 0,.slice none 0 0]):=⟨by kernel_rfl,by kernel_rfl⟩
def dz:Ty prog 28 true 5 104 (.agg #[.int .i64 0,.slice none 0 0,.slice none 0 0,.slice none 0 0,.slice none 0 0]):=Sp.h
def dT:∀I,bs I [AV.val (.int .i64 0),AV.rows 7 [],AV.rows 15 [],AV.rows 13 [],AV.rows 1 []] (Value.cells (.agg #[.int .i64 0,.slice none 0 0,.slice none 0 0,.slice none 0 0,.slice none 0 0])).toList:=λ_=>⟨⟨rfl,rfl⟩,⟨eQ _ _,rfl⟩,⟨eQ _ _,rfl⟩,⟨eQ _ _,rfl⟩,⟨eQ _ _,rfl⟩,trivial⟩
def ny:∀I,bs I [AV.val (.int .i64 0),AV.val (.slice none 0 0),AV.val (.slice none 0 0),AV.val (.slice none 0 0),AV.val (.slice none 0 0)] (Value.cells (.agg #[.int .i64 0,.slice none 0 0,.slice none 0 0,.slice none 0 0,.slice none 0 0])).toList:=λ_=>⟨⟨rfl,rfl⟩,⟨rfl,rfl⟩,⟨rfl,rfl⟩,⟨rfl,rfl⟩,⟨rfl,rfl⟩,trivial⟩
instance adG:nw prog 28:=⟨by kernel_rfl⟩
instance Sq:c4 prog 34 false 1 24 (.slice none 0 0):=⟨by kernel_rfl,by kernel_rfl⟩
def Bu:Ty prog 34 false 1 24 (.slice none 0 0):=Sq.h
instance adH:c4 prog 37 false 1 24 (.slice none 0 0):=⟨by kernel_rfl,by kernel_rfl⟩
instance Sr:c4 prog 39 false 1 24 (.slice none 0 0):=⟨by kernel_rfl,by kernel_rfl⟩
def Ss:Ty prog 39 false 1 24 (.slice none 0 0):=Sr.h
instance Su:c4 prog 40 false 1 24 (.slice none 0 0):=⟨by kernel_rfl,by kernel_rfl⟩
def iH:Ty prog 40 false 1 24 (.slice none 0 0):=Su.h
def KE:∀I,bs I [AV.rows 3 []] (Value.cells (.slice none 0 0)).toList:=λ_=>⟨⟨eQ _ _,rfl⟩,trivial⟩
def Sv:∀I,bs I [AV.val (.slice none 0 0)] (Value.cells (.slice none 0 0)).toList:=λ_=>⟨⟨rfl,rfl⟩,trivial⟩
def Bv:∀u∈(Value.cells (.slice none 0 0)).toList,u.oneCell'=true:=by simp[Value.cells,Value.oneCell']
instance Sw:c4 prog 42 true 2 16 (.agg #[.int .i64 0,.int .i64 0]):=⟨by kernel_rfl,by kernel_rfl⟩
def jg:Ty prog 42 true 2 16 (.agg #[.int .i64 0,.int .i64 0]):=Sw.h
def iI:∀I,bs I [AV.val (.int .i64 0),AV.val (.int .i64 0)] (Value.cells (.agg #[.int .i64 0,.int .i64 0])).toList:=λ_=>⟨⟨rfl,rfl⟩,⟨rfl,rfl⟩,trivial⟩
def Bw:∀u∈(Value.cells (.agg #[.int .i64 0,.int .i64 0])).toList,u.oneCell'=true:=by simp[Value.cells,Value.oneCell']
instance adI:nw prog 42:=⟨by kernel_rfl⟩
instance Sx:c4 prog 43 false 1 24 (.slice none 0 0):=⟨by kernel_rfl,by kernel_rfl⟩
def Sy:Ty prog 43 false 1 24 (.slice none 0 0):=Sx.h
instance Sz:c4 prog 45 true 13 168 (.agg #[.int .i64 0,.int .i64 0,.int .i64 0,.slice none 0 0,.int .i64 0,.slice none 0 0,.int .i64 0,.int .i64 0,.bool false,.int .i64 0,.int .i64 0,.slice none 0 0,.slice none 0 0]):=⟨by kernel_rfl,by kernel_rfl⟩
def dm:Ty prog 45 true 13 168 (.agg #[.int .i64 0,.int .i64 0,.int .i64 0,.slice none 0 0,.int .i64 0,.slice none 0 0,.int .i64 0,.int .i64 0,.bool false,.int .i64 0,.int .i64 0,.slice none 0 0,.slice none 0 0]):=Sz.h
def g0:∀I,bs I [AV.val (.int .i64 0),AV.val (.int .i64 0),AV.val (.int .i64 0),AV.rows 1 [],AV.val (.int .i64 0),AV.rows 3 [],AV.val (.int .i64 0),AV.val (.int .i64 0),AV.val (.bool false),AV.val (.int .i64 0),AV.val (.int .i64 0),AV.rows 9 [],AV.rows 3 []] (Value.cells (.agg #[.int .i64 0,.int .i64 0,.int .i64 0,.slice none 0 0,.int .i64 0,.slice none 0 0,.int .i64 0,.int .i64 0,.bool false,.int .i64 0,.int .i64 0,.slice none 0 0,.slice none 0 0])).toList:=λ_=>⟨⟨rfl,rfl⟩,⟨rfl,rfl⟩,⟨rfl,rfl⟩,⟨eQ _ _,rfl⟩,⟨rfl,rfl⟩,⟨eQ _ _,rfl⟩,⟨rfl,rfl⟩,⟨rfl,rfl⟩,⟨rfl,rfl⟩,⟨rfl,rfl⟩,⟨rfl,rfl⟩,⟨eQ _ _,rfl⟩,⟨eQ _ _,rfl⟩,trivial⟩
def yT:∀u∈(Value.cells (.agg #[.int .i64 0,.int .i64 0,.int .i64 0,.slice none 0 0,.int .i64 0,.slice none 0 0,.int .i64 0,.int .i64 0,.bool false,.int .i64 0,.int .i64 0,.slice none 0 0,.slice none 0 0])).toList,u.oneCell'=true:=by simp[Value.cells,Value.oneCell']
instance adJ:nw prog 45:=⟨by kernel_rfl⟩
instance SA:c4 prog 49 true 11 88 (.agg #[.int .i64 0,.int .i64 0,.int .i64 0,.int .i64 0,.int .i64 0,.int .i64 0,.int .i64 0,.int .i64 0,.int .i64 0,.int .i64 0,.int .i64 0]):=⟨by kernel_rfl,by kernel_rfl⟩
def ll:Ty prog 49 true 11 88 (.agg #[.int .i64 0,.int .i64 0,.int .i64 0,.int .i64 0,.int .i64 0,.int .i64 0,.int .i64 0,.int .i64 0,.int .i64 0,.int .i64 0,.int .i64 0]):=SA.h
def n6:∀I,bs I [AV.val (.int .i64 0),AV.val (.int .i64 0),AV.val (.int .i64 0),AV.val (.int .i64 0),AV.val (.int .i64 0),AV.val (.int .i64 0),AV.val (.int .i64 0),AV.val (.int .i64 0),AV.val (.int .i64 0),AV.val (.int .i64 0),AV.val (.int .i64 0)] (Value.cells (.agg #[.int .i64 0,.int .i64 0,.int .i64 0,.int .i64 0,.int .i64 0,.int .i64 0,.int .i64 0,.int .i64 0,.int .i64 0,.int .i64 0,.int .i64 0])).toList:=λ_=>⟨⟨rfl,rfl⟩,⟨rfl,rfl⟩,⟨rfl,rfl⟩,⟨rfl,rfl⟩,⟨rfl,rfl⟩,⟨rfl,rfl⟩,⟨rfl,rfl⟩,⟨rfl,rfl⟩,⟨rfl,rfl⟩,⟨rfl,rfl⟩,⟨rfl,rfl⟩,trivial⟩
instance adK:nw prog 49:=⟨by kernel_rfl⟩
instance SB:c4 prog 54 true 7 72 (.agg #[.int .i64 0,.int .i64 0,.int .i64 0,.int .i64 0,.int .i64 0,.int .i64 0,.slice none 0 0]):=⟨by kernel_rfl,by kernel_rfl⟩
def bI:Ty prog 54 true 7 72 (.agg #[.int .i64 0,.int .i64 0,.int .i64 0,.int .i64 0,.int .i64 0,.int .i64 0,.slice none 0 0]):=SB.h
def dY:∀I,bs I [AV.val (.int .i64 0),AV.val (.int .i64 0),AV.val (.int .i64 0),AV.val (.int .i64 0),AV.val (.int .i64 0),AV.val (.int .i64 0),AV.rows 3 []] (Value.cells (.agg #[.int .i64 0,.int .i64 0,.int .i64 0,.int .i64 0,.int .i64 0,.int .i64 0,.slice none 0 0])).toList:=λ_=>⟨⟨rfl,rfl⟩,⟨rfl,rfl⟩,⟨rfl,rfl⟩,⟨rfl,rfl⟩,⟨rfl,rfl⟩,⟨rfl,rfl⟩,⟨eQ _ _,rfl⟩,trivial⟩
def j9:∀u∈(Value.cells (.agg #[.int .i64 0,.int .i64 0,.int .i64 0,.int .i64 0,.int .i64 0,.int .i64 0,.slice none 0 0])).toList,u.oneCell'=true:=by simp[Value.cells,Value.oneCell']
instance adL:nw prog 54:=⟨by kernel_rfl⟩
instance SC:c4 prog 56 true 9 88 (.agg #[.int .i64 0,.bool false,.int .i64 0,.int .i64 0,.int .i64 0,.int .i64 0,.int .i64 0,.int .i64 0,.slice none 0 0]):=⟨by kernel_rfl,by kernel_rfl⟩
def dI:Ty prog 56 true 9 88 (.agg #[.int .i64 0,.bool false,.int .i64 0,.int .i64 0,.int .i64 0,.int .i64 0,.int .i64 0,.int .i64 0,.slice none 0 0]):=SC.h
def lq:∀I,bs I [AV.val (.int .i64 0),AV.val (.bool false),AV.val (.int .i64 0),AV.val (.int .i64 0),AV.val (.int .i64 0),AV.val (.int .i64 0),AV.val (.int .i64 0),AV.val (.int .i64 0),AV.rows 3 []] (Value.cells (.agg #[.int .i64 0,.bool false,.int .i64 0,.int .i64 0,.int .i64 0,.int .i64 0,.int .i64 0,.int .i64 0,.slice none 0 0])).toList:=λ_=>⟨⟨rfl,rfl⟩,⟨rfl,rfl⟩,⟨rfl,rfl⟩,⟨rfl,rfl⟩,⟨rfl,rfl⟩,⟨rfl,rfl⟩,⟨rfl,rfl⟩,⟨rfl,rfl⟩,⟨eQ _ _,rfl⟩,trivial⟩
def rB:∀u∈(Value.cells (.agg #[.int .i64 0,.bool false,.int .i64 0,.int .i64 0,.int .i64 0,.int .i64 0,.int .i64 0,.int .i64 0,.slice none 0 0])).toList,u.oneCell'=true:=by simp[Value.cells,Value.oneCell']
instance adM:nw prog 56:=⟨by kernel_rfl⟩
instance adN:c4 prog 65 false 1 24 (.slice none 0 0):=⟨by kernel_rfl,by kernel_rfl⟩
instance adO:c4 prog 66 false 1 24 (.slice none 0 0):=⟨by kernel_rfl,by kernel_rfl⟩
instance adP:c4 prog 67 false 1 24 (.slice none 0 0):=⟨by kernel_rfl,by kernel_rfl⟩
instance adQ:c4 prog 68 false 1 24 (.slice none 0 0):=⟨by kernel_rfl,by kernel_rfl⟩
instance adR:c4 prog 70 true 5 104 (.agg #[.int .i64 0,.slice none 0 0,.slice none 0 0,.slice none 0 0,.slice none 0 0]):=⟨by kernel_rfl,by kernel_rfl⟩
instance adS:c4 prog 85 false 1 8 (.pointer none):=⟨by kernel_rfl,by kernel_rfl⟩
instance adT:c4 prog 91 true 7 136 (.agg #[.pointer none,.int .i64 0,.slice none 0 0,.slice none 0 0,.slice none 0 0,.slice none 0 0,.slice none 0 0]):=⟨by kernel_rfl,by kernel_rfl⟩
instance adU:nw prog 91:=⟨by kernel_rfl⟩
instance SD:c4 prog 93 false 1 24 (.slice none 0 0):=⟨by kernel_rfl,by kernel_rfl⟩
def SE:Ty prog 93 false 1 24 (.slice none 0 0):=SD.h
instance SF:c4 prog 95 true 7 136 (.agg #[.int .i64 0,.bool false,.slice none 0 0,.slice none 0 0,.slice none 0 0,.slice none 0 0,.slice none 0 0]):=⟨by kernel_rfl,by kernel_rfl⟩
def bL:Ty prog 95 true 7 136 (.agg #[.int .i64 0,.bool false,.slice none 0 0,.slice none 0 0,.slice none 0 0,.slice none 0 0,.slice none 0 0]):=SF.h
def di:∀I,bs I [AV.val (.int .i64 0),AV.val (.bool false),AV.rows 2 [],AV.rows 7 [],AV.rows 7 [],AV.rows 3 [],AV.rows 3 []] (Value.cells (.agg #[.int .i64 0,.bool false,.slice none 0 0,.slice none 0 0,.slice none 0 0,.slice none 0 0,.slice none 0 0])).toList:=λ_=>⟨⟨rfl,rfl⟩,⟨rfl,rfl⟩,⟨eQ _ _,rfl⟩,⟨eQ _ _,rfl⟩,⟨eQ _ _,rfl⟩,⟨eQ _ _,rfl⟩,⟨eQ _ _,rfl⟩,trivial⟩
def wj:∀I,bs I [AV.val (.int .i64 0),AV.val (.bool false),AV.val (.slice none 0 0),AV.val (.slice none 0 0),AV.val (.slice none 0 0),AV.val (.slice none 0 0),AV.val (.slice none 0 0)] (Value.cells (.agg #[.int .i64 0,.bool false,.slice none 0 0,.slice none 0 0,.slice none 0 0,.slice none 0 0,.slice none 0 0])).toList:=λ_=>⟨⟨rfl,rfl⟩,⟨rfl,rfl⟩,⟨rfl,rfl⟩,⟨rfl,rfl⟩,⟨rfl,rfl⟩,⟨rfl,rfl⟩,⟨rfl,rfl⟩,trivial⟩
def wk:∀u∈(Value.cells (.agg #[.int .i64 0,.bool false,.slice none 0 0,.slice none 0 0,.slice none 0 0,.slice none 0 0,.slice none 0 0])).toList,u.oneCell'=true:=by simp[Value.cells,Value.oneCell']
instance adV:nw prog 95:=⟨by kernel_rfl⟩
instance SG:c4 prog 97 true 2 16 (.agg #[.int .i64 0,.int .i64 0]):=⟨by kernel_rfl,by kernel_rfl⟩
def dP:Ty prog 97 true 2 16 (.agg #[.int .i64 0,.int .i64 0]):=SG.h
def kD:∀I,bs I [AV.val (.int .i64 0),AV.val (.int .i64 0)] (Value.cells (.agg #[.int .i64 0,.int .i64 0])).toList:=λ_=>⟨⟨rfl,rfl⟩,⟨rfl,rfl⟩,trivial⟩
def wm:∀u∈(Value.cells (.agg #[.int .i64 0,.int .i64 0])).toList,u.oneCell'=true:=by simp[Value.cells,Value.oneCell']
instance adW:nw prog 97:=⟨by kernel_rfl⟩
instance SH:c4 prog 108 true 15 184 (.agg #[.int .i64 0,.int .i64 0,.int .i64 0,.int .i64 0,.int .i64 0,.int .i64 0,.int .i64 0,.int .i64 0,.bool false,.slice none 0 0,.int .i64 0,.int .i64 0,.slice none 0 0,.slice none 0 0,.slice none 0 0]):=⟨by kernel_rfl,by kernel_rfl⟩
def cH:Ty prog 108 true 15 184 (.agg #[.int .i64 0,.int .i64 0,.int .i64 0,.int .i64 0,.int .i64 0,.int .i64 0,.int .i64 0,.int .i64 0,.bool false,.slice none 0 0,.int .i64 0,.int .i64 0,.slice none 0 0,.slice none 0 0,.slice none 0 0]):=SH.h
def dN:∀I,bs I [AV.val (.int .i64 0),AV.val (.int .i64 0),AV.val (.int .i64 0),AV.val (.int .i64 0),AV.val (.int .i64 0),AV.val (.int .i64 0),AV.val (.int .i64 0),AV.val (.int .i64 0),AV.val (.bool false),AV.rows 3 [],AV.val (.int .i64 0),AV.val (.int .i64 0),AV.rows 7 [],AV.rows 7 [],AV.rows 3 []] (Value.cells (.agg #[.int .i64 0,.int .i64 0,.int .i64 0,.int .i64 0,.int .i64 0,.int .i64 0,.int .i64 0,.int .i64 0,.bool false,.slice none 0 0,.int .i64 0,.int .i64 0,.slice none 0 0,.slice none 0 0,.slice none 0 0])).toList:=λ_=>⟨⟨rfl,rfl⟩,⟨rfl,rfl⟩,⟨rfl,rfl⟩,⟨rfl,rfl⟩,⟨rfl,rfl⟩,⟨rfl,rfl⟩,⟨rfl,rfl⟩,⟨rfl,rfl⟩,⟨rfl,rfl⟩,⟨eQ _ _,rfl⟩,⟨rfl,rfl⟩,⟨rfl,rfl⟩,⟨eQ _ _,rfl⟩,⟨eQ _ _,rfl⟩,⟨eQ _ _,rfl⟩,trivial⟩
def SI:∀I,bs I [AV.val (.int .i64 0),AV.val (.int .i64 0),AV.val (.int .i64 0),AV.val (.int .i64 0),AV.val (.int .i64 0),AV.val (.int .i64 0),AV.val (.int .i64 0),AV.val (.int .i64 0),AV.val (.bool false),AV.val (.slice none 0 0),AV.val (.int .i64 0),AV.val (.int .i64 0),AV.val (.slice none 0 0),AV.val (.slice none 0 0),AV.val (.slice none 0 0)] (Value.cells (.agg #[.int .i64 0,.int .i64 0,.int .i64 0,.int .i64 0,.int .i64 0,.int .i64 0,.int .i64 0,.int .i64 0,.bool false,.slice none 0 0,.int .i64 0,.int .i64 0,.slice none 0 0,.slice none 0 0,.slice none 0 0])).toList:=λ_=>⟨⟨rfl,rfl⟩,⟨rfl,rfl⟩,⟨rfl,rfl⟩,⟨rfl,rfl⟩,⟨rfl,rfl⟩,⟨rfl,rfl⟩,⟨rfl,rfl⟩,⟨rfl,rfl⟩,⟨rfl,rfl⟩,⟨rfl,rfl⟩,⟨rfl,rfl⟩,⟨rfl,rfl⟩,⟨rfl,rfl⟩,⟨rfl,rfl⟩,⟨rfl,rfl⟩,trivial⟩
def gj:∀u∈(Value.cells (.agg #[.int .i64 0,.int .i64 0,.int .i64 0,.int .i64 0,.int .i64 0,.int .i64 0,.int .i64 0,.int .i64 0,.bool false,.slice none 0 0,.int .i64 0,.int .i64 0,.slice none 0 0,.slice none 0 0,.slice none 0 0])).toList,u.oneCell'=true:=by simp[Value.cells,Value.oneCell']
instance adX:nw prog 108:=⟨by kernel_rfl⟩
instance SJ:c4 prog 125 true 3 24 (.agg #[.int .i64 0,.int .i64 0,.int .i64 0]):=⟨by kernel_rfl,by kernel_rfl⟩
def cM:Ty prog 125 true 3 24 (.agg #[.int .i64 0,.int .i64 0,.int .i64 0]):=SJ.h
def fE:∀I,bs I [AV.val (.int .i64 0),AV.val (.int .i64 0),AV.val (.int .i64 0)] (Value.cells (.agg #[.int .i64 0,.int .i64 0,.int .i64 0])).toList:=λ_=>⟨⟨rfl,rfl⟩,⟨rfl,rfl⟩,⟨rfl,rfl⟩,trivial⟩
def gM:∀u∈(Value.cells (.agg #[.int .i64 0,.int .i64 0,.int .i64 0])).toList,u.oneCell'=true:=by simp[Value.cells,Value.oneCell']
instance adY:nw prog 125:=⟨by kernel_rfl⟩
instance adZ:c4 prog 147 true 2 32 (.agg #[.slice none 0 0,.int .i64 0]):=⟨by kernel_rfl,by kernel_rfl⟩
instance ad0:nw prog 147:=⟨by kernel_rfl⟩
instance ad1:c4 prog 193 false 1 24 (.slice none 0 0):=⟨by kernel_rfl,by kernel_rfl⟩
instance ad2:c4 prog 194 false 1 24 (.slice none 0 0):=⟨by kernel_rfl,by kernel_rfl⟩
instance SK:c4 prog 195 false 1 24 (.slice none 0 0):=⟨by kernel_rfl,by kernel_rfl⟩
def Fb:Ty prog 195 false 1 24 (.slice none 0 0):=SK.h
instance SL:c4 prog 197 true 7 136 (.agg #[.int .i64 0,.bool false,.slice none 0 0,.slice none 0 0,.slice none 0 0,.slice none 0 0,.slice none 0 0]):=⟨by kernel_rfl,by kernel_rfl⟩
def Fc:Ty prog 197 true 7 136 (.agg #[.int .i64 0,.bool false,.slice none 0 0,.slice none 0 0,.slice none 0 0,.slice none 0 0,.slice none 0 0]):=SL.h
instance ad3:c4 prog 199 true 2 16 (.agg #[.int .i64 0,.int .i64 0]):=⟨by kernel_rfl,by kernel_rfl⟩
instance SM:c4 prog 201 true 15 184 (.agg #[.int .i64 0,.int .i64 0,.int .i64 0,.int .i64 0,.int .i64 0,.int .i64 0,.int .i64 0,.int .i64 0,.bool false,.slice none 0 0,.int .i64 0,.int .i64 0,.slice none 0 0,.slice none 0 0,.slice none 0 0]):=⟨by kernel_rfl,by kernel_rfl⟩
def Fe:Ty prog 201 true 15 184 (.agg #[.int .i64 0,.int .i64 0,.int .i64 0,.int .i64 0,.int .i64 0,.int .i64 0,.int .i64 0,.int .i64 0,.bool false,.slice none 0 0,.int .i64 0,.int .i64 0,.slice none 0 0,.slice none 0 0,.slice none 0 0]):=SM.h
instance ad4:c4 prog 203 false 1 24 (.slice none 0 0):=⟨by kernel_rfl,by kernel_rfl⟩
instance SN:c4 prog 205 true 13 168 (.agg #[.int .i64 0,.int .i64 0,.int .i64 0,.slice none 0 0,.int .i64 0,.slice none 0 0,.int .i64 0,.int .i64 0,.bool false,.int .i64 0,.int .i64 0,.slice none 0 0,.slice none 0 0]):=⟨by kernel_rfl,by kernel_rfl⟩
def Ff:Ty prog 205 true 13 168 (.agg #[.int .i64 0,.int .i64 0,.int .i64 0,.slice none 0 0,.int .i64 0,.slice none 0 0,.int .i64 0,.int .i64 0,.bool false,.int .i64 0,.int .i64 0,.slice none 0 0,.slice none 0 0]):=SN.h
instance ad5:c4 prog 249 true 3 24 (.agg #[.int .i64 0,.int .i64 0,.int .i64 0]):=⟨by kernel_rfl,by kernel_rfl⟩
instance SO:c4 prog 267 true 7 72 (.agg #[.int .i64 0,.int .i64 0,.int .i64 0,.int .i64 0,.int .i64 0,.int .i64 0,.slice none 0 0]):=⟨by kernel_rfl,by kernel_rfl⟩
def Fg:Ty prog 267 true 7 72 (.agg #[.int .i64 0,.int .i64 0,.int .i64 0,.int .i64 0,.int .i64 0,.int .i64 0,.slice none 0 0]):=SO.h
instance SP:c4 prog 270 true 9 88 (.agg #[.int .i64 0,.bool false,.int .i64 0,.int .i64 0,.int .i64 0,.int .i64 0,.int .i64 0,.int .i64 0,.slice none 0 0]):=⟨by kernel_rfl,by kernel_rfl⟩
def Fh:Ty prog 270 true 9 88 (.agg #[.int .i64 0,.bool false,.int .i64 0,.int .i64 0,.int .i64 0,.int .i64 0,.int .i64 0,.int .i64 0,.slice none 0 0]):=SP.h
instance ad6:c4 prog 272 true 2 16 (.agg #[.int .i64 0,.int .i64 0]):=⟨by kernel_rfl,by kernel_rfl⟩
instance SQ:fP prog 3 (.int .i64):=⟨by kernel_rfl⟩
def sW:prog.underlying 3=some (.int .i64):=SQ.h
instance SR:fP prog 4 (.bool):=⟨by kernel_rfl⟩
def n7:prog.underlying 4=some (.bool):=SR.h
instance ad7:fP prog 22 (.slice 5):=⟨by kernel_rfl⟩
instance SS:fP prog 23 (.slice 95):=⟨by kernel_rfl⟩
def jw:prog.underlying 23=some (.slice 95):=SS.h
instance SU:fP prog 24 (.slice 108):=⟨by kernel_rfl⟩
def dC:prog.underlying 24=some (.slice 108):=SU.h
instance SV:fP prog 25 (.slice 45):=⟨by kernel_rfl⟩
def gz:prog.underlying 25=some (.slice 45):=SV.h
instance SW:fP prog 26 (.slice 40):=⟨by kernel_rfl⟩
def pb:prog.underlying 26=some (.slice 40):=SW.h
instance SX:fP prog 34 (.slice 54):=⟨by kernel_rfl⟩
def du:prog.underlying 34=some (.slice 54):=SX.h
instance SY:fP prog 37 (.slice 49):=⟨by kernel_rfl⟩
def mJ:prog.underlying 37=some (.slice 49):=SY.h
instance SZ:fP prog 39 (.slice 3):=⟨by kernel_rfl⟩
def kG:prog.underlying 39=some (.slice 3):=SZ.h
instance S0:fP prog 40 (.slice 125):=⟨by kernel_rfl⟩
def dw:prog.underlying 40=some (.slice 125):=S0.h
instance S1:fP prog 43 (.slice 56):=⟨by kernel_rfl⟩
def eD:prog.underlying 43=some (.slice 56):=S1.h
instance S2:fP prog 65 (.slice 197):=⟨by kernel_rfl⟩
def Fi:prog.underlying 65=some (.slice 197):=S2.h
instance S3:fP prog 66 (.slice 201):=⟨by kernel_rfl⟩
def Fj:prog.underlying 66=some (.slice 201):=S3.h
instance S4:fP prog 67 (.slice 205):=⟨by kernel_rfl⟩
def Fk:prog.underlying 67=some (.slice 205):=S4.h
instance S5:fP prog 68 (.slice 195):=⟨by kernel_rfl⟩
def Fl:prog.underlying 68=some (.slice 195):=S5.h
instance S6:fP prog 93 (.slice 97):=⟨by kernel_rfl⟩
def eM:prog.underlying 93=some (.slice 97):=S6.h
instance S7:fP prog 162 (.map 3 3):=⟨by kernel_rfl⟩
def S8:prog.underlying 162=some (.map 3 3):=S7.h
instance ad8:fP prog 193 (.slice 272):=⟨by kernel_rfl⟩
instance S9:fP prog 194 (.slice 267):=⟨by kernel_rfl⟩
def Fm:prog.underlying 194=some (.slice 267):=S9.h
instance ad9:fP prog 195 (.slice 249):=⟨by kernel_rfl⟩
instance Ta:fP prog 203 (.slice 270):=⟨by kernel_rfl⟩
def Fo:prog.underlying 203=some (.slice 270):=Ta.h
instance Tb:fP prog 292 (.slice 42):=⟨by kernel_rfl⟩
def KF:prog.underlying 292=some (.slice 42):=Tb.h
instance aea:bn prog 28 0 0 1:=⟨by unfold bk;kernel_rfl⟩
instance aeb:dr prog 28 0 0 1:=⟨by unfold cR;kernel_rfl⟩
instance aec:bn prog 28 1 1 1:=⟨by unfold bk;kernel_rfl⟩
instance aed:bn prog 28 2 2 1:=⟨by unfold bk;kernel_rfl⟩
instance Tc:dr prog 28 2 2 1:=⟨by unfold cR;kernel_rfl⟩
def KG:cR prog 28 2=some (2,1):=Tc.h
instance aee:bn prog 28 3 3 1:=⟨by unfold bk;kernel_rfl⟩
instance aef:bn prog 28 4 4 1:=⟨by unfold bk;kernel_rfl⟩
instance aeg:dr prog 28 4 4 1:=⟨by unfold cR;kernel_rfl⟩
instance aeh:bn prog 42 0 0 1:=⟨by unfold bk;kernel_rfl⟩
instance aei:dr prog 42 0 0 1:=⟨by unfold cR;kernel_rfl⟩
instance aej:bn prog 42 1 1 1:=⟨by unfold bk;kernel_rfl⟩
instance aek:dr prog 42 1 1 1:=⟨by unfold cR;kernel_rfl⟩
instance ael:bn prog 45 0 0 1:=⟨by unfold bk;kernel_rfl⟩
instance aem:dr prog 45 0 0 1:=⟨by unfold cR;kernel_rfl⟩
instance aen:bn prog 45 1 1 1:=⟨by unfold bk;kernel_rfl⟩
instance aeo:dr prog 45 1 1 1:=⟨by unfold cR;kernel_rfl⟩
instance aep:bn prog 45 2 2 1:=⟨by unfold bk;kernel_rfl⟩
instance aeq:dr prog 45 2 2 1:=⟨by unfold cR;kernel_rfl⟩
instance aer:bn prog 45 3 3 1:=⟨by unfold bk;kernel_rfl⟩
instance Td:dr prog 45 3 3 1:=⟨by unfold cR;kernel_rfl⟩
def Te:cR prog 45 3=some (3,1):=Td.h
instance aes:bn prog 45 4 4 1:=⟨by unfold bk;kernel_rfl⟩
instance aet:bn prog 45 5 5 1:=⟨by unfold bk;kernel_rfl⟩
instance aeu:dr prog 45 5 5 1:=⟨by unfold cR;kernel_rfl⟩
instance aev:bn prog 45 6 6 1:=⟨by unfold bk;kernel_rfl⟩
instance aew:dr prog 45 6 6 1:=⟨by unfold cR;kernel_rfl⟩
instance aex:bn prog 45 7 7 1:=⟨by unfold bk;kernel_rfl⟩
instance aey:bn prog 45 8 8 1:=⟨by unfold bk;kernel_rfl⟩
instance aez:bn prog 45 9 9 2:=⟨by unfold bk;kernel_rfl⟩
instance aeA:bn prog 45 10 11 1:=⟨by unfold bk;kernel_rfl⟩
instance aeB:bn prog 45 11 12 1:=⟨by unfold bk;kernel_rfl⟩
instance aeC:bn prog 49 0 0 1:=⟨by unfold bk;kernel_rfl⟩
instance aeD:dr prog 49 0 0 1:=⟨by unfold cR;kernel_rfl⟩
instance aeE:bn prog 49 1 1 1:=⟨by unfold bk;kernel_rfl⟩
instance aeF:dr prog 49 1 1 1:=⟨by unfold cR;kernel_rfl⟩
instance aeG:bn prog 49 2 2 1:=⟨by unfold bk;kernel_rfl⟩
instance aeH:dr prog 49 2 2 1:=⟨by unfold cR;kernel_rfl⟩
instance aeI:bn prog 49 3 3 1:=⟨by unfold bk;kernel_rfl⟩
instance aeJ:dr prog 49 3 3 1:=⟨by unfold cR;kernel_rfl⟩
instance aeK:bn prog 49 4 4 1:=⟨by unfold bk;kernel_rfl⟩
instance aeL:dr prog 49 4 4 1:=⟨by unfold cR;kernel_rfl⟩
instance aeM:bn prog 49 5 5 1:=⟨by unfold bk;kernel_rfl⟩
instance aeN:dr prog 49 5 5 1:=⟨by unfold cR;kernel_rfl⟩
instance aeO:bn prog 49 6 6 1:=⟨by unfold bk;kernel_rfl⟩
instance aeP:dr prog 49 6 6 1:=⟨by unfold cR;kernel_rfl⟩
instance aeQ:bn prog 49 7 7 1:=⟨by unfold bk;kernel_rfl⟩
instance aeR:dr prog 49 7 7 1:=⟨by unfold cR;kernel_rfl⟩
instance aeS:bn prog 49 8 8 1:=⟨by unfold bk;kernel_rfl⟩
instance aeT:bn prog 49 9 9 1:=⟨by unfold bk;kernel_rfl⟩
instance aeU:bn prog 49 10 10 1:=⟨by unfold bk;kernel_rfl⟩
instance aeV:dr prog 49 10 10 1:=⟨by unfold cR;kernel_rfl⟩
instance aeW:bn prog 54 0 0 1:=⟨by unfold bk;kernel_rfl⟩
instance aeX:dr prog 54 0 0 1:=⟨by unfold cR;kernel_rfl⟩
instance aeY:bn prog 54 1 1 2:=⟨by unfold bk;kernel_rfl⟩
instance aeZ:dr prog 54 1 1 2:=⟨by unfold cR;kernel_rfl⟩
instance ae0:bn prog 54 2 3 1:=⟨by unfold bk;kernel_rfl⟩
instance ae1:dr prog 54 2 3 1:=⟨by unfold cR;kernel_rfl⟩
instance ae2:bn prog 54 3 4 1:=⟨by unfold bk;kernel_rfl⟩
instance ae3:dr prog 54 3 4 1:=⟨by unfold cR;kernel_rfl⟩
instance ae4:bn prog 54 4 5 1:=⟨by unfold bk;kernel_rfl⟩
instance ae5:dr prog 54 4 5 1:=⟨by unfold cR;kernel_rfl⟩
instance ae6:bn prog 54 5 6 1:=⟨by unfold bk;kernel_rfl⟩
instance ae7:dr prog 54 5 6 1:=⟨by unfold cR;kernel_rfl⟩
instance ae8:bn prog 56 0 0 1:=⟨by unfold bk;kernel_rfl⟩
instance ae9:dr prog 56 0 0 1:=⟨by unfold cR;kernel_rfl⟩
instance afa:bn prog 56 1 1 1:=⟨by unfold bk;kernel_rfl⟩
instance afb:dr prog 56 1 1 1:=⟨by unfold cR;kernel_rfl⟩
instance afc:bn prog 56 2 2 7:=⟨by unfold bk;kernel_rfl⟩
instance Tf:dr prog 56 2 2 7:=⟨by unfold cR;kernel_rfl⟩
def Tg:cR prog 56 2=some (2,7):=Tf.h
instance afd:bn prog 70 0 0 1:=⟨by unfold bk;kernel_rfl⟩
instance afe:bn prog 70 1 1 1:=⟨by unfold bk;kernel_rfl⟩
instance aff:bn prog 70 2 2 1:=⟨by unfold bk;kernel_rfl⟩
instance afg:bn prog 70 3 3 1:=⟨by unfold bk;kernel_rfl⟩
instance afh:bn prog 70 4 4 1:=⟨by unfold bk;kernel_rfl⟩
instance afi:bn prog 91 0 0 1:=⟨by unfold bk;kernel_rfl⟩
instance afj:dr prog 91 0 0 1:=⟨by unfold cR;kernel_rfl⟩
instance afk:bn prog 91 1 1 5:=⟨by unfold bk;kernel_rfl⟩
instance afl:dr prog 91 1 1 5:=⟨by unfold cR;kernel_rfl⟩
instance afm:bn prog 91 2 6 1:=⟨by unfold bk;kernel_rfl⟩
instance afn:bn prog 95 0 0 1:=⟨by unfold bk;kernel_rfl⟩
instance afo:dr prog 95 0 0 1:=⟨by unfold cR;kernel_rfl⟩
instance afp:bn prog 95 1 1 1:=⟨by unfold bk;kernel_rfl⟩
instance afq:dr prog 95 1 1 1:=⟨by unfold cR;kernel_rfl⟩
instance afr:bn prog 95 2 2 1:=⟨by unfold bk;kernel_rfl⟩
instance Th:dr prog 95 2 2 1:=⟨by unfold cR;kernel_rfl⟩
def Ti:cR prog 95 2=some (2,1):=Th.h
instance afs:bn prog 95 3 3 1:=⟨by unfold bk;kernel_rfl⟩
instance Tj:dr prog 95 3 3 1:=⟨by unfold cR;kernel_rfl⟩
def Tk:cR prog 95 3=some (3,1):=Tj.h
instance aft:bn prog 95 4 4 1:=⟨by unfold bk;kernel_rfl⟩
instance Tl:dr prog 95 4 4 1:=⟨by unfold cR;kernel_rfl⟩
def Tm:cR prog 95 4=some (4,1):=Tl.h
instance afu:bn prog 95 5 5 1:=⟨by unfold bk;kernel_rfl⟩
instance Tn:dr prog 95 5 5 1:=⟨by unfold cR;kernel_rfl⟩
def To:cR prog 95 5=some (5,1):=Tn.h
instance afv:bn prog 95 6 6 1:=⟨by unfold bk;kernel_rfl⟩
instance Tp:dr prog 95 6 6 1:=⟨by unfold cR;kernel_rfl⟩
def Tq:cR prog 95 6=some (6,1):=Tp.h
instance afw:bn prog 97 0 0 1:=⟨by unfold bk;kernel_rfl⟩
instance afx:dr prog 97 0 0 1:=⟨by unfold cR;kernel_rfl⟩
instance afy:bn prog 97 1 1 1:=⟨by unfold bk;kernel_rfl⟩
instance afz:dr prog 97 1 1 1:=⟨by unfold cR;kernel_rfl⟩
instance afA:bn prog 108 0 0 1:=⟨by unfold bk;kernel_rfl⟩
instance afB:dr prog 108 0 0 1:=⟨by unfold cR;kernel_rfl⟩
instance afC:bn prog 108 1 1 1:=⟨by unfold bk;kernel_rfl⟩
instance afD:dr prog 108 1 1 1:=⟨by unfold cR;kernel_rfl⟩
instance afE:bn prog 108 2 2 1:=⟨by unfold bk;kernel_rfl⟩
instance afF:dr prog 108 2 2 1:=⟨by unfold cR;kernel_rfl⟩
instance afG:bn prog 108 3 3 1:=⟨by unfold bk;kernel_rfl⟩
instance afH:dr prog 108 3 3 1:=⟨by unfold cR;kernel_rfl⟩
instance afI:bn prog 108 4 4 1:=⟨by unfold bk;kernel_rfl⟩
instance afJ:dr prog 108 4 4 1:=⟨by unfold cR;kernel_rfl⟩
instance afK:bn prog 108 5 5 2:=⟨by unfold bk;kernel_rfl⟩
instance afL:dr prog 108 5 5 2:=⟨by unfold cR;kernel_rfl⟩
instance afM:bn prog 108 6 7 1:=⟨by unfold bk;kernel_rfl⟩
instance afN:dr prog 108 6 7 1:=⟨by unfold cR;kernel_rfl⟩
instance afO:bn prog 108 7 8 1:=⟨by unfold bk;kernel_rfl⟩
instance afP:dr prog 108 7 8 1:=⟨by unfold cR;kernel_rfl⟩
instance afQ:bn prog 108 8 9 1:=⟨by unfold bk;kernel_rfl⟩
instance afR:dr prog 108 8 9 1:=⟨by unfold cR;kernel_rfl⟩
instance afS:bn prog 108 9 10 1:=⟨by unfold bk;kernel_rfl⟩
instance afT:dr prog 108 9 10 1:=⟨by unfold cR;kernel_rfl⟩
instance afU:bn prog 108 10 11 1:=⟨by unfold bk;kernel_rfl⟩
instance afV:dr prog 108 10 11 1:=⟨by unfold cR;kernel_rfl⟩
instance afW:bn prog 108 11 12 1:=⟨by unfold bk;kernel_rfl⟩
instance afX:dr prog 108 11 12 1:=⟨by unfold cR;kernel_rfl⟩
instance afY:bn prog 108 12 13 1:=⟨by unfold bk;kernel_rfl⟩
instance afZ:bn prog 108 13 14 1:=⟨by unfold bk;kernel_rfl⟩
instance af0:bn prog 125 0 0 1:=⟨by unfold bk;kernel_rfl⟩
instance af1:dr prog 125 0 0 1:=⟨by unfold cR;kernel_rfl⟩
instance af2:bn prog 125 1 1 2:=⟨by unfold bk;kernel_rfl⟩
instance af3:dr prog 125 1 1 2:=⟨by unfold cR;kernel_rfl⟩
instance af4:bn prog 147 0 0 1:=⟨by unfold bk;kernel_rfl⟩
instance af5:dr prog 147 0 0 1:=⟨by unfold cR;kernel_rfl⟩
instance af6:bn prog 147 1 1 1:=⟨by unfold bk;kernel_rfl⟩
instance af7:bn prog 197 0 0 1:=⟨by unfold bk;kernel_rfl⟩
instance af8:bn prog 197 1 1 1:=⟨by unfold bk;kernel_rfl⟩
instance af9:bn prog 197 2 2 1:=⟨by unfold bk;kernel_rfl⟩
instance aga:bn prog 197 3 3 1:=⟨by unfold bk;kernel_rfl⟩
instance agb:bn prog 197 4 4 1:=⟨by unfold bk;kernel_rfl⟩
instance agc:bn prog 197 5 5 1:=⟨by unfold bk;kernel_rfl⟩
instance agd:bn prog 197 6 6 1:=⟨by unfold bk;kernel_rfl⟩
instance age:bn prog 199 0 0 1:=⟨by unfold bk;kernel_rfl⟩
instance agf:bn prog 199 1 1 1:=⟨by unfold bk;kernel_rfl⟩
instance agh:bn prog 201 0 0 1:=⟨by unfold bk;kernel_rfl⟩
instance agi:bn prog 201 1 1 1:=⟨by unfold bk;kernel_rfl⟩
instance agj:bn prog 201 2 2 1:=⟨by unfold bk;kernel_rfl⟩
instance agk:bn prog 201 3 3 1:=⟨by unfold bk;kernel_rfl⟩
instance agl:bn prog 201 4 4 1:=⟨by unfold bk;kernel_rfl⟩
instance agm:bn prog 201 5 5 2:=⟨by unfold bk;kernel_rfl⟩
instance agn:bn prog 201 6 7 1:=⟨by unfold bk;kernel_rfl⟩
instance ago:bn prog 201 7 8 1:=⟨by unfold bk;kernel_rfl⟩
instance agp:bn prog 201 8 9 1:=⟨by unfold bk;kernel_rfl⟩
instance agq:bn prog 201 9 10 1:=⟨by unfold bk;kernel_rfl⟩
instance agr:bn prog 201 10 11 1:=⟨by unfold bk;kernel_rfl⟩
instance ags:bn prog 201 11 12 1:=⟨by unfold bk;kernel_rfl⟩
instance agt:bn prog 201 12 13 1:=⟨by unfold bk;kernel_rfl⟩
instance agu:bn prog 201 13 14 1:=⟨by unfold bk;kernel_rfl⟩
instance agv:bn prog 205 0 0 1:=⟨by unfold bk;kernel_rfl⟩
instance agw:bn prog 205 1 1 1:=⟨by unfold bk;kernel_rfl⟩
instance agx:bn prog 205 2 2 1:=⟨by unfold bk;kernel_rfl⟩
instance agy:bn prog 205 3 3 1:=⟨by unfold bk;kernel_rfl⟩
instance agz:bn prog 205 4 4 1:=⟨by unfold bk;kernel_rfl⟩
instance agA:bn prog 205 5 5 1:=⟨by unfold bk;kernel_rfl⟩
instance agB:bn prog 205 6 6 1:=⟨by unfold bk;kernel_rfl⟩
instance agC:bn prog 205 7 7 1:=⟨by unfold bk;kernel_rfl⟩
instance agD:bn prog 205 8 8 1:=⟨by unfold bk;kernel_rfl⟩
instance agE:bn prog 205 9 9 2:=⟨by unfold bk;kernel_rfl⟩
instance agF:bn prog 205 10 11 1:=⟨by unfold bk;kernel_rfl⟩
instance agG:bn prog 205 11 12 1:=⟨by unfold bk;kernel_rfl⟩
instance agH:bn prog 249 0 0 1:=⟨by unfold bk;kernel_rfl⟩
instance agI:bn prog 249 1 1 2:=⟨by unfold bk;kernel_rfl⟩
instance agJ:bn prog 267 0 0 1:=⟨by unfold bk;kernel_rfl⟩
instance agK:bn prog 267 1 1 2:=⟨by unfold bk;kernel_rfl⟩
instance agL:bn prog 267 2 3 1:=⟨by unfold bk;kernel_rfl⟩
instance agM:bn prog 267 3 4 1:=⟨by unfold bk;kernel_rfl⟩
instance agN:bn prog 267 4 5 1:=⟨by unfold bk;kernel_rfl⟩
instance agO:bn prog 267 5 6 1:=⟨by unfold bk;kernel_rfl⟩
instance agP:bn prog 270 0 0 1:=⟨by unfold bk;kernel_rfl⟩
instance agQ:bn prog 270 1 1 1:=⟨by unfold bk;kernel_rfl⟩
instance agR:bn prog 270 2 2 7:=⟨by unfold bk;kernel_rfl⟩
instance agS:bn prog 272 0 0 1:=⟨by unfold bk;kernel_rfl⟩
instance agT:bn prog 272 1 1 1:=⟨by unfold bk;kernel_rfl⟩
def qh:ue prog 42 2:=⟨by kernel_rfl,λxs ys w hx hy=>by
 match xs,ys,hx,hy with
 |[x0,x1],[y0,y1],_,_=>
  simp[go_sem,Tryz.underlying42]
  (repeat' split)<;>simp_all⟩
def yU:ue prog 125 3:=⟨by kernel_rfl,λxs ys w hx hy=>by
 match xs,ys,hx,hy with
 |[x0,x1,x2],[y0,y1,y2],_,_=>
  simp[go_sem,Tryz.underlying125]
  (repeat' split)<;>simp_all⟩
def Tr:ue prog 97 2:=⟨by kernel_rfl,λxs ys w hx hy=>by
 match xs,ys,hx,hy with
 |[x0,x1],[y0,y1],_,_=>
  simp[go_sem,Tryz.underlying97]
  (repeat' split)<;>simp_all⟩
end Go.Proofs.YtldbakcpcfdlaaaGreat
namespace Go.Proofs.YtldbakcpcfdlaaaGreat
open Go Go.RowKit Tryz
def Own.is (x:AV) (v:Value):Own:=⟨λ_=>False,λI _=>x.h I v,λ_ _ _ _ hl _ h=>x.up _ _ _ hl h⟩
def pd (ds:List Nat) (a:Act):Env:=ds.map λt=>(t,AV.val (a.tmps.getD t undef))
def Fp {I:Im} {a:Act}:∀ds:List Nat,cW I a (pd ds a)
 |[],t,x,e=>by simp[pd,Env.get] at e
 |s::ds,t,x,e=>by
  simp only[pd,List.map_cons,Env.get] at e;cases hb:Nat.beq s t with
  |true=>rw[hb] at e;obtain rfl:s=t:=Nat.eq_of_beq_eq_true hb;simp only[cond_true,Option.some.injEq] at e;subst e;exact(rfl:a.tmps.getD s undef=a.tmps.getD s undef)
  |false=>rw[hb] at e;exact Fp ds t x (by simpa[pd] using e)
section
variable {P:Program} {c:Ctx} {I:Im} {H:List Own} {Γ:Env} {a:Act} {w:World} {Q:Exit->Act->World->Prop} {ops:Array Oper} {rest os:List Oper} {Hf:List (EA->Own)} {ms:Meta} {E:TypeId} {sz:Nat} {l:List (List AV)} {v:Value} {x:AV}
def St.nf {H':List Own} (U:St c I H Γ a w) (h:H=H':=by first|(simp only[fill,hole,List.set_cons_zero,List.set_cons_succ,List.cons_append,List.nil_append,List.append_nil];exact rfl)|exact rfl):St c I H' Γ a w:=h▸U
def St.KH (U:St c I H Γ a w) (h:x.h I v):St c I (H++[Own.is x v]) Γ a w:=
 ⟨U.step,⟨λy hy=>by
  rcases List.mem_append.1 hy with hy|hy
  .exact U.own.all y hy
  .obtain rfl:=by simpa using hy
   exact⟨h,λb e=>by cases e⟩,
  by rw[List.pairwise_append];exact⟨U.own.apart,by simp,λy _ z hz b _ e=>by obtain rfl:z=_:=List.mem_singleton.1 hz;exact e.elim⟩⟩,U.env,U.size,U.defers⟩
def aP.gh {d:Nat} {f:FuncId} {ys:Array Operand} {ts:Array TypeId} {ty:TypeId} {p:String} {af:Array Edge} {xs:List AV} (k:Nat) (hk:Hf[k]?=some λ_=>Own.gone) (hd:Nat.blt d c.n=true) (hf:gR P f xs E sz l)
 (ij:∀I a,cW I a (Γ.only ((⟨some d,.call ⟨.value (.func f),ys,ts⟩,ty,p,af,none⟩:Oper).looksAt ops))->true=true->c7 I xs (ys.map a.eval).toList)
 (r:aP P c ops Q ((d,AV.jd)::Γ) (Hf.set k λa=>Own.row (a.tmps.getD d undef) E sz l) os ms):aP P c ops Q Γ Hf (⟨some d,.call ⟨.value (.func f),ys,ts⟩,ty,p,af,none⟩::os) (([k],some (k,[d]))::ms):=
 aP.cons (u:=some ⟨k,[d],λa=>Own.row (a.tmps.getD d undef) E sz l⟩) (x:=AV.jd) (sS (g:=λv=>Own.row v E sz l) λv v' e=>e▸rfl) (λF W0 I0 I γ a w Q U kk=>by
  refine U.gh hf ij hd λI' v a' w' bB=>?_;have hv:a'.tmps.getD d undef=v:=bB.env d (.val v) (by simp[Env.get]);have eW:=bB.sR k (kv hk);have uu:=eW.own.all (Own.row v E sz l) (List.mem_of_getElem? (i:=k) (by rw[List.getElem?_set_self (List.getElem?_eq_some_iff.1 (kv (a:=ea a γ) (F:=F) hk)).1]));have h1:v.oneCell'=true:=by
   obtain⟨_,⟨_,rfl|⟨q,rfl,_⟩⟩|⟨b,cap,cur,rfl,_⟩⟩:=uu.1<;>rfl
  have rj:St ⟨W0.1,I0,c.n,W0.2⟩ I' ((dq [k] (ea a γ) F 0 Hf).set k (Own.row v E sz l)) ((d,AV.jd)::Γ.only ((⟨some d,.call ⟨.value (.func f),ys,ts⟩,ty,p,af,none⟩:Oper).looksAt ops)) a' w':=
   ⟨eW.step,eW.own,λt y e=>by
    simp only[Env.get] at e;cases hb:Nat.beq d t with
    |true=>rw[hb] at e;obtain rfl:d=t:=Nat.eq_of_beq_eq_true hb;simp at e;subst e;rw[hv];exact h1
    |false=>rw[hb] at e;exact eW.env t y (by simp only[Env.get,hb];exact e),eW.size,eW.defers⟩
  exact kk γ (λ_ _=>rfl) I' a' w' (rj.pass (l7 (a':=ea a' γ) (f:=λa=>Own.row (a.tmps.getD d undef) E sz l) (by rw[hv])))) r
def aP.Bx {o:Oper} {d:Nat} (k:Nat) (ds:List Nat) (y:EA->AV) (hk:Hf[k]?=some λ_=>Own.gone) (hg:o.guard=none) (ho:o.dst=some d) (hd:Nat.blt d c.n=true) (hx:∀a a':EA,(∀t∈ds,a.tmps.getD t undef=a'.tmps.getD t undef)->y a=y a') (dG:ds.contains d=false)
 (h:∀{γ:Nat->Own} F a I,cW I a (Γ.only (o.looksAt ops))->Ok P (dq [k] (ea a γ) F 0 Hf) (pd ds a++Γ.only (o.looksAt ops)) true o (y (ea a γ)))
 (r:aP P c ops Q ((d,AV.any)::Γ) (Hf.set k λa=>Own.is (y a) (a.tmps.getD d undef)) os ms):aP P c ops Q Γ Hf (o::os) (([k],some (k,d::ds))::ms):=
 aP.cons (u:=some ⟨k,d::ds,λa=>Own.is (y a) (a.tmps.getD d undef)⟩) (x:=AV.any) (λv e=>by
  cases e;intro a a' hh;show Own.is (y a) _=Own.is (y a') _;rw[hx a a' λt ht=>(hh t (List.mem_cons_of_mem _ ht)).1,(hh d be).1]) (λF W0 I0 I γ a w Q U kk=>by
  unfold wpList;rw[if_pos (by simp[Region.wanted,hg])];refine .inl (h F a I U.env _ I a w _ _ ((Fp ds).append U.env) U.step.c9 U.own rfl λv I' w' hv s=>?_);rw[ho];have iF:d<c.n:=by simpa using hd
  have cJ:=U.size;have bB:=U.put (d:=d) (x:=AV.any) (v:=v) iF trivial s;have yV:(a.put (some d) v).tmps.getD d undef=v:=by simp[Act.put,cJ,iF]
  have By:y (ea (a.put (some d) v) γ)=y (ea a γ):=hx _ _ λt ht=>by
   have bH:d≠t:=λe=>by
    subst e;have:ds.contains d=true:=by simpa using ht
    rw[dG] at this;cases this
   simp[Act.put,bH]
  have eW:=(bB.KH (x:=y (ea a γ)) (v:=v) hv).sR k (kv hk);refine kk γ (λ_ _=>rfl) I' (a.put (some d) v) w' (St.pass (H:=(dq [k] (ea a γ) F 0 Hf).set k (Own.is (y (ea a γ)) v)) ?_ (l7 (a':=ea (a.put (some d) v) γ) (f:=λa=>Own.is (y a) (a.tmps.getD d undef)) (by rw[yV,By])));rw[ho];exact eW) (by rw[ho];exact r)
def Tt {g:Bool}:At Γ g (.const (.slice none 0 0)) AV.bare:=λ_ _ _ _=>.inl rfl
def Ok.to {g:Bool} {o:Oper} {y:AV} (h:Ok P H Γ g o x) (e:x=y:=by rfl):Ok P H Γ g o y:=e▸h
def rC {t:Nat} (he:cW I a Γ) (h:Env.get t Γ=some AV.jd:=by rfl):(AV.val (a.tmps.getD t undef)).One:=λI v hv=>by
 obtain rfl:v=a.tmps.getD t undef:=hv;exact he t _ h
def St.rD {d:Nat} (k:Nat) (U:St c I H Γ a w) (hk:H[k]?=some (Own.is x (a.tmps.getD d undef))):St c I (H.set k Own.gone) ((d,x)::Γ) a w:=by
 have hx:=(U.own.all _ (List.mem_of_getElem? hk)).1;refine⟨U.step,⟨λo ho=>?_,lV U.own.apart λb e=>e.elim⟩,λt y e=>?_,U.size,U.defers⟩
 .rcases List.mem_or_eq_of_mem_set ho with ho|rfl
  .exact U.own.all o ho
  exact⟨trivial,λb e=>by cases e⟩
 simp only[Env.get] at e;cases hb:Nat.beq d t with
 |true=>rw[hb] at e;obtain rfl:d=t:=Nat.eq_of_beq_eq_true hb;simp at e;subst e;exact hx
 |false=>rw[hb] at e;exact U.env t y (by simpa using e)
def Tu {g:Bool} {d:Option Tmp} {y z:Operand} {T T' ty:TypeId} {p:String} {af:Array Edge} {gd:Option (Nat×Bool)} {m n:Int} (hy:At Γ g y (.int m)) (hz:At Γ g z (.int n)):
 Ok P H Γ g ⟨d,.call ⟨.builtin .max,#[y,z],#[T,T']⟩,ty,p,af,gd⟩ (.int (if m<n then n else m)):=
 gK λI a w he hg=>by
  have h1:a.eval y=.int .i64 m:=hy I a he hg;have h2:a.eval z=.int .i64 n:=hz I a he hg;simp only[execOp,resolve,invoke,builtin,Sem.run_bind,Sem.run_pure,Result.andThen_ok,List.map_toArray,List.map_cons,List.map_nil,h1,h2];simp[Builtin.max_,Builtin.max2]
end
def KI {P:Program} {H:List Own} {Γ:Env} {g:Bool} {d:Option Tmp} {ty:TypeId} {p:String} {af:Array Edge} {gd:Option (Nat×Bool)} {f:FuncId} {ys:Array Operand} {ts:Array TypeId} {xs:List AV} {res:AV} (hf:g=true->Fn P f xs res) (h:∀I a,cW I a Γ->g=true->c7 I xs (ys.map a.eval).toList):
 Ok P H Γ g ⟨d,.call ⟨.value (.func f),ys,ts⟩,ty,p,af,gd⟩ res:=λbase I a w K Q he hm hw hg k=>bx (hf hg) h base I a w K Q he hm hw hg k
section
variable {P:Program} {c:Ctx} {I:Im} {H:List Own} {Γ:Env} {a:Act} {w:World} {Q:Exit->Act->World->Prop} {ops:Array Oper} {rest os:List Oper} {Hf:List (EA->Own)} {ms:Meta} {E:TypeId} {sz:Nat} {l:List (List AV)} {v:Value} {x:AV}
def aP.Bp {T ty:TypeId} {d m n:Nat} {p:String} {af:Array Edge} {zv:Value} {ag:Bool} {len:Nat} {gL:List (List AV)} {parts:List (Nat×Operand)} {ps:List (Nat×List AV)} (k:Nat) (hk:Hf[k]?=some λ_=>Own.gone) (hd:Nat.blt d c.n=true) (hT:P.underlying T=some (.slice E)) (hE:Ty P E ag n m zv) (fA:zv.cells.size=sz) (lY:∀u∈zv.cells.toList,u.oneCell'=true)
 (cJ:Nat.blt 0 sz=true) (mF:Nat.blt 0 len=true) (p7:Nat.ble (len*sz) 16777216=true) (hp:bf (ni sz) (Γ.only ((⟨some d,.buildSlice T len parts.toArray,ty,p,af,none⟩:Oper).looksAt ops)) true (len*sz) parts ps) (jK:filled (List.replicate (len*sz) AV.any) ps=gL.flatten) (hlen:gL.length=len) (hr:∀r∈gL,r.length=sz) (hn:n=sz)
 (r:aP P c ops Q ((d,AV.jd)::Γ) (Hf.set k λa=>Own.row (a.tmps.getD d undef) E sz gL) os ms):aP P c ops Q Γ Hf (⟨some d,.buildSlice T len parts.toArray,ty,p,af,none⟩::os) (([k],some (k,[d]))::ms):=
 aP.cons (u:=some ⟨k,[d],λa=>Own.row (a.tmps.getD d undef) E sz gL⟩) (x:=AV.jd) (sS (g:=λv=>Own.row v E sz gL) λv v' e=>e▸rfl) (λF W0 I0 I γ a w Q U kk=>by
  refine U.Bp hd hT hE fA lY cJ mF p7 hp jK hlen hr hn λb I' a' w' bB=>?_;generalize Tv:Value.slice (some ⟨b,0,none⟩) len len=v at bB;have h1:v.oneCell'=true:=by rw[<-Tv];rfl
  have hv:a'.tmps.getD d undef=v:=bB.env d (.val v) (by simp[Env.get]);have eW:=bB.sR k (kv hk);have rj:St ⟨W0.1,I0,c.n,W0.2⟩ I' ((dq [k] (ea a γ) F 0 Hf).set k (Own.row v E sz gL)) ((d,AV.jd)::Γ.only ((⟨some d,.buildSlice T len parts.toArray,ty,p,af,none⟩:Oper).looksAt ops)) a' w':=
   ⟨eW.step,eW.own,λt y e=>by
    simp only[Env.get] at e;cases hb:Nat.beq d t with
    |true=>rw[hb] at e;obtain rfl:d=t:=Nat.eq_of_beq_eq_true hb;simp at e;subst e;rw[hv];exact h1
    |false=>rw[hb] at e;exact eW.env t y (by simp only[Env.get,hb];exact e),eW.size,eW.defers⟩
  exact kk γ (λ_ _=>rfl) I' a' w' (rj.pass (l7 (a':=ea a' γ) (f:=λa=>Own.row (a.tmps.getD d undef) E sz gL) (by rw[hv])))) r
def Tw (w:World) (d:Nat) (t e:TypeId) (q:Option Addr) (n k:Nat) (h:P.underlying t=some (.slice e)):(Op.equalIn (d+1) t (.slice q n k) (.slice none 0 0)).run P w=.ok q.isNone w:=by
 cases q<;>simp[Op.equalIn,run_underlying h]
def Tx {g:Bool} {d:Option Tmp} {y z:Operand} {ty T T':TypeId} {p:String} {af:Array Edge} {gd:Option (Nat×Bool)} {q:Option Addr} {n k:Nat} (hT:P.underlying T=some (.slice E)) (hy:At Γ g y (.val (.slice q n k))) (hz:At Γ g z (.val (.slice none 0 0))):Ok P H Γ g ⟨d,.binOp .eql T y z T',ty,p,af,gd⟩ (.bool q.isNone):=
 gK λI a w he hg=>by
  have h1:a.eval y=.slice q n k:=hy I a he hg;have h2:a.eval z=.slice none 0 0:=hz I a he hg;simp only[execOp,h1,h2];simp[eqGuard,binOp,Op.equal,Op.maxDepth,Tw w 9999 T E q n k hT]
def yW {v:Value} (h:(Own.row v E sz l).ok I w) (hl:l≠[]):∃b cap,v=.slice (some ⟨b,0,none⟩) l.length cap:=by
 obtain⟨_,⟨h0,_⟩|⟨b,cap,cur,e,_⟩⟩:=h
 .exact absurd h0 hl
 exact⟨b,cap,e⟩
def rE:Value->Nat
 |.slice (some q) _ _=>q.block
 |_=>0
def cw {g:Bool} {d:Option Tmp} {y z:Operand} {ty T:TypeId} {p:String} {af:Array Edge} {gd:Option (Nat×Bool)} {ag:Bool} {m:Nat} {zv:Value} {i:Int} (k:Nat) (hT:P.underlying T=some (.slice E)) (hE:Ty P E ag sz m zv) (h:At Γ g y (.val v)) (hi:At Γ g z (.int i)) (hk:H[k]?=some (Own.row v E sz l)) (hb:g=true->0<=i/\i<l.length):
 Ok P H Γ g ⟨d,.indexAddr T y z,ty,p,af,gd⟩ (.val (.pointer (some ⟨rE v,i.toNat*sz,none⟩))):=
 gq λbase I a w he hm hw hg=>by
  obtain⟨h0,h1⟩:=hb hg;obtain⟨b,cap,rfl⟩:=yW (hw.all _ (List.mem_of_getElem? hk)).1 (by rintro rfl;simp at h1;omega);have e:a.eval y=_:=h I a he hg;have e2:a.eval z=_:=hi I a he hg;have U:(sizeOf E).run P w=.ok sz w:=hE.size;refine⟨_,?_,rfl⟩;simp only[execOp,e,e2,Instr.indexAt,asIntOf,Sem.run_bind,Sem.run_pure,Result.andThen_ok,run_underlying hT];simp[h0,h1,add_plain,U,rE]
def kH {g:Bool} {d:Option Tmp} {y:Operand} {ty T:TypeId} {p:String} {af:Array Edge} {gd:Option (Nat×Bool)} {n m:Nat} {zv:Value} {q i j:Nat} {r:List AV} (k:Nat) (hT:Ty P T false n m zv) (h:At Γ g y (.val (.pointer (some ⟨rE v,q,none⟩)))) (hk:H[k]?=some (Own.row v E sz l))
 (hr:g=true->l[i]?=some r) (hq:q=i*sz+j) (hx:r[j]?=some x) (D3:Nat.blt j sz=true):Ok P H Γ g ⟨d,.load T y,ty,p,af,gd⟩ x:=
 gq λbase I a w he hm hw hg=>by
  obtain⟨b,cap,rfl⟩:=yW (hw.all _ (List.mem_of_getElem? hk)).1 (by rintro rfl;simpa using hr hg);have e:a.eval y=_:=h I a he hg;have hj:j<sz:=by simpa using D3
  obtain⟨cs,h1,h2,h3⟩:=AX hk hw (hr hg) hq om;obtain⟨u,hu,D4,_⟩:=h1.get (i:=0) (x:=x) (by rw[List.getElem?_drop];simpa using hx);refine⟨u,?_,D4⟩;have hc:w.cell? ⟨b,q,none⟩=some u:=h3 0 u hu;simp only[execOp,e,Instr.loadAt,Instr.sureAddr,Sem.run_bind,Sem.run_pure,Result.andThen_ok,rE,yf hT hc]
def KJ {g:Bool} {d:Option Tmp} {y:Operand} {ty T:TypeId} {p:String} {af:Array Edge} {gd:Option (Nat×Bool)} {m:Nat} {zv:Value} {q i:Nat} {r:List AV} (k:Nat) (hT:Ty P T true sz m zv) (h:At Γ g y (.val (.pointer (some ⟨rE v,q,none⟩)))) (hk:H[k]?=some (Own.row v E sz l))
 (hr:g=true->l[i]?=some r) (hq:q=i*sz):Ok P H Γ g ⟨d,.load T y,ty,p,af,gd⟩ (.agg r):=
 gq λbase I a w he hm hw hg=>by
  obtain⟨b,cap,rfl⟩:=yW (hw.all _ (List.mem_of_getElem? hk)).1 (by rintro rfl;simpa using hr hg);have e:a.eval y=_:=h I a he hg;obtain⟨cs,h1,h2,h3⟩:=AX (q:=q) hk hw (hr hg) (j:=0) (by rw[hq];rfl) om;refine⟨.agg cs.toArray,?_,_,rfl,by simpa using h1⟩;have h4:∀t u,cs[t]?=some u->w.cell? ((⟨b,q,none⟩:Addr).add t)=some u:=λt u hu=>by rw[add_plain];exact h3 t u hu
  simp only[execOp,e,Instr.loadAt,Instr.sureAddr,Sem.run_bind,Sem.run_pure,Result.andThen_ok,rE,yg hT om h4]
def aP.KL {d:Nat} {f:FuncId} {ys:Array Operand} {ts:Array TypeId} {ty:TypeId} {p:String} {af:Array Edge} {xs:List AV} {ok:Value->Prop} {l2:List (List AV)} (k:Nat) (hk:Hf[k]?=some λ_=>Own.row v E sz l) (hd:Nat.blt d c.n=true) (hf:bG P f xs [Own.row v E sz l] ok (λu=>[Own.row u E sz l2]) AV.val)
 (ij:∀I a,cW I a (Γ.only ((⟨some d,.call ⟨.value (.func f),ys,ts⟩,ty,p,af,none⟩:Oper).looksAt ops))->true=true->c7 I xs (ys.map a.eval).toList)
 (r:aP P c ops Q ((d,AV.jd)::Γ) (Hf.set k λa=>Own.row (a.tmps.getD d undef) E sz l2) os ms):aP P c ops Q Γ Hf (⟨some d,.call ⟨.value (.func f),ys,ts⟩,ty,p,af,none⟩::os) (([k],some (k,[d]))::ms):=
 aP.cons (u:=some ⟨k,[d],λa=>Own.row (a.tmps.getD d undef) E sz l2⟩) (x:=AV.jd) (sS (g:=λv=>Own.row v E sz l2) λv v' e=>e▸rfl) (λF W0 I0 I γ a w Q U kk=>by
  have iR:(dq [k] (ea a γ) F 0 Hf)[k]?=some (Own.row v E sz l):=kv hk;refine U.dX [k] hf ij (by simpa using iR) be hd λv' I' a' w' _ bB=>?_;simp only[hole,fill,List.append_nil,List.set_set] at bB;have hv:a'.tmps.getD d undef=v':=bB.env d (.val v') (by simp[Env.get]);have uu:=bB.own.all (Own.row v' E sz l2) (List.mem_of_getElem? (i:=k) (by rw[List.getElem?_set_self (List.getElem?_eq_some_iff.1 iR).1]));have h1:v'.oneCell'=true:=by
   obtain⟨_,⟨_,rfl|⟨q,rfl,_⟩⟩|⟨b,cap,cur,rfl,_⟩⟩:=uu.1<;>rfl
  have rj:St ⟨W0.1,I0,c.n,W0.2⟩ I' ((dq [k] (ea a γ) F 0 Hf).set k (Own.row v' E sz l2)) ((d,AV.jd)::Γ.only ((⟨some d,.call ⟨.value (.func f),ys,ts⟩,ty,p,af,none⟩:Oper).looksAt ops)) a' w':=
   ⟨bB.step,bB.own,λt y e=>by
    simp only[Env.get] at e;cases hb:Nat.beq d t with
    |true=>rw[hb] at e;obtain rfl:d=t:=Nat.eq_of_beq_eq_true hb;simp at e;subst e;rw[hv];exact h1
    |false=>rw[hb] at e;exact bB.env t y (by simp only[Env.get,hb];exact e),bB.size,bB.defers⟩
  exact kk γ (λ_ _=>rfl) I' a' w' (rj.pass (l7 (a':=ea a' γ) (f:=λa=>Own.row (a.tmps.getD d undef) E sz l2) (by rw[hv])))) r
def St.Tz {t:Nat} (U:St c I H Γ a w) (ht:Env.get t Γ=some (.rows sz l)):∃q cap,(q=none->l=[])/\St c I H ((t,.val (.slice q l.length cap))::Γ) a w:=by
 obtain⟨q,cap,e,h1,h2,h3,h4,h5⟩:=U.env t _ ht;refine⟨q,cap,λhq=>?_,U.step,U.own,λs u hu=>?_,U.size,U.defers⟩
 .rcases h4 with h4|⟨q',e',_⟩
  .exact h4
  rw[hq] at e';cases e'
 simp only[Env.get] at hu;cases hb:Nat.beq t s with
 |true=>
  rw[hb] at hu;simp at hu;subst hu
  obtain rfl:t=s:=Nat.eq_of_beq_eq_true hb
  exact e
 |false=>rw[hb] at hu;exact U.env s u hu
end
end Go.Proofs.YtldbakcpcfdlaaaGreat
namespace Go.Proofs.YtldbakcpcfdlaaaGreat
open Go Go.RowKit Tryz
section
variable {P:Program} {c:Ctx} {I:Im} {H:List Own} {Γ:Env} {a:Act} {w:World} {Q:Exit->Act->World->Prop} {ops:Array Oper} {rest:List Oper} {E T ty:TypeId} {y z:Operand} {m:Nat} {zv:Value} {p:String} {af:Array Edge}
def bG.conv {α β:Type} {f:FuncId} {args:List AV} {h0:List Own} {ok:α->Prop} {h1:α->List Own} {res:α->AV} {KM:β->Prop} {Ee:β->List Own} {q5:β->AV} (h:bG P f args h0 ok h1 res) (k:∀x,ok x->∃y,KM y/\Ee y=h1 x/\q5 y=res x):bG P f args h0 KM Ee q5:=
 ⟨h.1,λI w vs hm ho ha=>(h.2 I w vs hm ho ha).mono λe w' he=>by
   cases e with
   |panicked _=>exact he.elim
   |outgrown=>exact he.elim
   |returned v=>
    obtain⟨x,I',hx,bJ,eG,hv⟩:=he
    obtain⟨y,hy,e1,e2⟩:=k x hx
    exact⟨y,I',hy,bJ,e1▸eG,e2▸hv⟩⟩
end
end Go.Proofs.YtldbakcpcfdlaaaGreat

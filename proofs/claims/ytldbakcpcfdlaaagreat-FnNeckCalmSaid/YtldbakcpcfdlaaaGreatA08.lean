/- Part 8: rules of the proofs. -/
import Derived.Test.YtldbakcpcfdlaaaGreatProg
import Derived.Laws.AppendOwn
import Derived.Test.YtldbakcpcfdlaaaGreatA07
set_option linter.all false
set_option maxRecDepth 100000
namespace Go.Proofs.YtldbakcpcfdlaaaGreat
open Go Go.RowKit Tryz
instance SJ:cL prog 3 false 1 8 (.int .i64 0):=⟨by kernel_rfl,by kernel_rfl⟩
def cB:Ty prog 3 false 1 8 (.int .i64 0):=SJ.h
def ix:∀u∈(Value.cells (.int .i64 0)).toList,u.oneCell'=true:=by simp[Value.cells,Value.oneCell']
instance SK:cL prog 4 false 1 1 (.bool false):=⟨by kernel_rfl,by kernel_rfl⟩
def xA:Ty prog 4 false 1 1 (.bool false):=SK.h
def SL:∀I,bm I [AV.val (.bool false)] (Value.cells (.bool false)).toList:=λ_=>⟨⟨rfl,rfl⟩,trivial⟩
instance SM:cL prog 5 false 1 1 (.int .u8 0):=⟨by kernel_rfl,by kernel_rfl⟩
def te:Ty prog 5 false 1 1 (.int .u8 0):=SM.h
instance aeN:cL prog 22 false 1 24 (.slice none 0 0):=⟨by kernel_rfl,by kernel_rfl⟩
instance SN:cL prog 23 false 1 24 (.slice none 0 0):=⟨by kernel_rfl,by kernel_rfl⟩
def SO:Ty prog 23 false 1 24 (.slice none 0 0):=SN.h
instance SP:cL prog 24 false 1 24 (.slice none 0 0):=⟨by kernel_rfl,by kernel_rfl⟩
def xB:Ty prog 24 false 1 24 (.slice none 0 0):=SP.h
instance aeO:cL prog 25 false 1 24 (.slice none 0 0):=⟨by kernel_rfl,by kernel_rfl⟩
instance aeP:cL prog 26 false 1 24 (.slice none 0 0):=⟨by kernel_rfl,by kernel_rfl⟩
instance SQ:cL prog 28 true 5 104 (.agg #[.int .i64 0,.slice none 0 0,.slice none 0 0,.slice none 0 0,.slice none 0 0]):=⟨by kernel_rfl,by kernel_rfl⟩
def eE:Ty prog 28 true 5 104 (.agg #[.int .i64 0,.slice none 0 0,.slice none 0 0,.slice none 0 0,.slice none 0 0]):=SQ.h
def eQ:∀I,bm I [AV.val (.int .i64 0),AV.rows 7 [],AV.rows 15 [],AV.rows 13 [],AV.rows 1 []] (Value.cells (.agg #[.int .i64 0,.slice none 0 0,.slice none 0 0,.slice none 0 0,.slice none 0 0])).toList:=λ_=>⟨⟨rfl,rfl⟩,⟨fA _ _,rfl⟩,⟨fA _ _,rfl⟩,⟨fA _ _,rfl⟩,⟨fA _ _,rfl⟩,trivial⟩
def xC:∀I,bm I [AV.val (.int .i64 0),AV.val (.slice none 0 0),AV.val (.slice none 0 0),AV.val (.slice none 0 0),AV.val (.slice none 0 0)] (Value.cells (.agg #[.int .i64 0,.slice none 0 0,.slice none 0 0,.slice none 0 0,.slice none 0 0])).toList:=λ_=>⟨⟨rfl,rfl⟩,⟨rfl,rfl⟩,⟨rfl,rfl⟩,⟨rfl,rfl⟩,⟨rfl,rfl⟩,trivial⟩
instance aeQ:ml prog 28:=⟨by kernel_rfl⟩
instance aeR:cL prog 34 false 1 24 (.slice none 0 0):=⟨by kernel_rfl,by kernel_rfl⟩
instance SR:cL prog 37 false 1 24 (.slice none 0 0):=⟨by kernel_rfl,by kernel_rfl⟩
def SS:Ty prog 37 false 1 24 (.slice none 0 0):=SR.h
instance aeS:cL prog 39 false 1 24 (.slice none 0 0):=⟨by kernel_rfl,by kernel_rfl⟩
instance SU:cL prog 40 false 1 24 (.slice none 0 0):=⟨by kernel_rfl,by kernel_rfl⟩
def pw:Ty prog 40 false 1 24 (.slice none 0 0):=SU.h
def Ag:∀u∈(Value.cells (.slice none 0 0)).toList,u.oneCell'=true:=by simp[Value.cells,Value.oneCell']
instance SV:cL prog 42 true 2 16 (.agg #[.int .i64 0,.int .i64 0]):=⟨by kernel_rfl,by kernel_rfl⟩
def iH:Ty prog 42 true 2 16 (.agg #[.int .i64 0,.int .i64 0]):=SV.h
def gx:∀I,bm I [AV.val (.int .i64 0),AV.val (.int .i64 0)] (Value.cells (.agg #[.int .i64 0,.int .i64 0])).toList:=λ_=>⟨⟨rfl,rfl⟩,⟨rfl,rfl⟩,trivial⟩
def Ah:∀u∈(Value.cells (.agg #[.int .i64 0,.int .i64 0])).toList,u.oneCell'=true:=by simp[Value.cells,Value.oneCell']
instance aeT:ml prog 42:=⟨by kernel_rfl⟩
instance aeU:cL prog 43 false 1 24 (.slice none 0 0):=⟨by kernel_rfl,by kernel_rfl⟩
instance SW:cL prog 45 true 13 168 (.agg #[.int .i64 0,.int .i64 0,.int .i64 0,.slice none 0 0,.int .i64 0,.slice none 0 0,.int .i64 0,.int .i64 0,.bool false,.int .i64 0,.int .i64 0,.slice none 0 0,.slice none 0 0]):=⟨by kernel_rfl,by kernel_rfl⟩
def ei:Ty prog 45 true 13 168 (.agg #[.int .i64 0,.int .i64 0,.int .i64 0,.slice none 0 0,.int .i64 0,.slice none 0 0,.int .i64 0,.int .i64 0,.bool false,.int .i64 0,.int .i64 0,.slice none 0 0,.slice none 0 0]):=SW.h
def jj:∀I,bm I [AV.val (.int .i64 0),AV.val (.int .i64 0),AV.val (.int .i64 0),AV.rows 1 [],AV.val (.int .i64 0),AV.rows 3 [],AV.val (.int .i64 0),AV.val (.int .i64 0),AV.val (.bool false),AV.val (.int .i64 0),AV.val (.int .i64 0),AV.rows 9 [],AV.rows 3 []] (Value.cells (.agg #[.int .i64 0,.int .i64 0,.int .i64 0,.slice none 0 0,.int .i64 0,.slice none 0 0,.int .i64 0,.int .i64 0,.bool false,.int .i64 0,.int .i64 0,.slice none 0 0,.slice none 0 0])).toList:=λ_=>⟨⟨rfl,rfl⟩,⟨rfl,rfl⟩,⟨rfl,rfl⟩,⟨fA _ _,rfl⟩,⟨rfl,rfl⟩,⟨fA _ _,rfl⟩,⟨rfl,rfl⟩,⟨rfl,rfl⟩,⟨rfl,rfl⟩,⟨rfl,rfl⟩,⟨rfl,rfl⟩,⟨fA _ _,rfl⟩,⟨fA _ _,rfl⟩,trivial⟩
def xD:∀u∈(Value.cells (.agg #[.int .i64 0,.int .i64 0,.int .i64 0,.slice none 0 0,.int .i64 0,.slice none 0 0,.int .i64 0,.int .i64 0,.bool false,.int .i64 0,.int .i64 0,.slice none 0 0,.slice none 0 0])).toList,u.oneCell'=true:=by simp[Value.cells,Value.oneCell']
instance aeV:ml prog 45:=⟨by kernel_rfl⟩
instance SX:cL prog 49 true 11 88 (.agg #[.int .i64 0,.int .i64 0,.int .i64 0,.int .i64 0,.int .i64 0,.int .i64 0,.int .i64 0,.int .i64 0,.int .i64 0,.int .i64 0,.int .i64 0]):=⟨by kernel_rfl,by kernel_rfl⟩
def Ai:Ty prog 49 true 11 88 (.agg #[.int .i64 0,.int .i64 0,.int .i64 0,.int .i64 0,.int .i64 0,.int .i64 0,.int .i64 0,.int .i64 0,.int .i64 0,.int .i64 0,.int .i64 0]):=SX.h
def gT:∀I,bm I [AV.val (.int .i64 0),AV.val (.int .i64 0),AV.val (.int .i64 0),AV.val (.int .i64 0),AV.val (.int .i64 0),AV.val (.int .i64 0),AV.val (.int .i64 0),AV.val (.int .i64 0),AV.val (.int .i64 0),AV.val (.int .i64 0),AV.val (.int .i64 0)] (Value.cells (.agg #[.int .i64 0,.int .i64 0,.int .i64 0,.int .i64 0,.int .i64 0,.int .i64 0,.int .i64 0,.int .i64 0,.int .i64 0,.int .i64 0,.int .i64 0])).toList:=λ_=>⟨⟨rfl,rfl⟩,⟨rfl,rfl⟩,⟨rfl,rfl⟩,⟨rfl,rfl⟩,⟨rfl,rfl⟩,⟨rfl,rfl⟩,⟨rfl,rfl⟩,⟨rfl,rfl⟩,⟨rfl,rfl⟩,⟨rfl,rfl⟩,⟨rfl,rfl⟩,trivial⟩
def SY:∀u∈(Value.cells (.agg #[.int .i64 0,.int .i64 0,.int .i64 0,.int .i64 0,.int .i64 0,.int .i64 0,.int .i64 0,.int .i64 0,.int .i64 0,.int .i64 0,.int .i64 0])).toList,u.oneCell'=true:=by simp[Value.cells,Value.oneCell']
instance aeW:ml prog 49:=⟨by kernel_rfl⟩
instance SZ:cL prog 54 true 7 72 (.agg #[.int .i64 0,.int .i64 0,.int .i64 0,.int .i64 0,.int .i64 0,.int .i64 0,.slice none 0 0]):=⟨by kernel_rfl,by kernel_rfl⟩
def bL:Ty prog 54 true 7 72 (.agg #[.int .i64 0,.int .i64 0,.int .i64 0,.int .i64 0,.int .i64 0,.int .i64 0,.slice none 0 0]):=SZ.h
def dy:∀I,bm I [AV.val (.int .i64 0),AV.val (.int .i64 0),AV.val (.int .i64 0),AV.val (.int .i64 0),AV.val (.int .i64 0),AV.val (.int .i64 0),AV.rows 3 []] (Value.cells (.agg #[.int .i64 0,.int .i64 0,.int .i64 0,.int .i64 0,.int .i64 0,.int .i64 0,.slice none 0 0])).toList:=λ_=>⟨⟨rfl,rfl⟩,⟨rfl,rfl⟩,⟨rfl,rfl⟩,⟨rfl,rfl⟩,⟨rfl,rfl⟩,⟨rfl,rfl⟩,⟨fA _ _,rfl⟩,trivial⟩
def iy:∀u∈(Value.cells (.agg #[.int .i64 0,.int .i64 0,.int .i64 0,.int .i64 0,.int .i64 0,.int .i64 0,.slice none 0 0])).toList,u.oneCell'=true:=by simp[Value.cells,Value.oneCell']
instance aeX:ml prog 54:=⟨by kernel_rfl⟩
instance S0:cL prog 56 true 9 88 (.agg #[.int .i64 0,.bool false,.int .i64 0,.int .i64 0,.int .i64 0,.int .i64 0,.int .i64 0,.int .i64 0,.slice none 0 0]):=⟨by kernel_rfl,by kernel_rfl⟩
def eI:Ty prog 56 true 9 88 (.agg #[.int .i64 0,.bool false,.int .i64 0,.int .i64 0,.int .i64 0,.int .i64 0,.int .i64 0,.int .i64 0,.slice none 0 0]):=S0.h
def m5:∀I,bm I [AV.val (.int .i64 0),AV.val (.bool false),AV.val (.int .i64 0),AV.val (.int .i64 0),AV.val (.int .i64 0),AV.val (.int .i64 0),AV.val (.int .i64 0),AV.val (.int .i64 0),AV.rows 3 []] (Value.cells (.agg #[.int .i64 0,.bool false,.int .i64 0,.int .i64 0,.int .i64 0,.int .i64 0,.int .i64 0,.int .i64 0,.slice none 0 0])).toList:=λ_=>⟨⟨rfl,rfl⟩,⟨rfl,rfl⟩,⟨rfl,rfl⟩,⟨rfl,rfl⟩,⟨rfl,rfl⟩,⟨rfl,rfl⟩,⟨rfl,rfl⟩,⟨rfl,rfl⟩,⟨fA _ _,rfl⟩,trivial⟩
def rJ:∀u∈(Value.cells (.agg #[.int .i64 0,.bool false,.int .i64 0,.int .i64 0,.int .i64 0,.int .i64 0,.int .i64 0,.int .i64 0,.slice none 0 0])).toList,u.oneCell'=true:=by simp[Value.cells,Value.oneCell']
instance aeY:ml prog 56:=⟨by kernel_rfl⟩
instance aeZ:cL prog 65 false 1 24 (.slice none 0 0):=⟨by kernel_rfl,by kernel_rfl⟩
instance ae0:cL prog 66 false 1 24 (.slice none 0 0):=⟨by kernel_rfl,by kernel_rfl⟩
instance ae1:cL prog 67 false 1 24 (.slice none 0 0):=⟨by kernel_rfl,by kernel_rfl⟩
instance ae2:cL prog 68 false 1 24 (.slice none 0 0):=⟨by kernel_rfl,by kernel_rfl⟩
instance ae3:cL prog 70 true 5 104 (.agg #[.int .i64 0,.slice none 0 0,.slice none 0 0,.slice none 0 0,.slice none 0 0]):=⟨by kernel_rfl,by kernel_rfl⟩
instance ae4:cL prog 85 false 1 8 (.pointer none):=⟨by kernel_rfl,by kernel_rfl⟩
instance ae5:cL prog 91 true 7 136 (.agg #[.pointer none,.int .i64 0,.slice none 0 0,.slice none 0 0,.slice none 0 0,.slice none 0 0,.slice none 0 0]):=⟨by kernel_rfl,by kernel_rfl⟩
def S1:∀I,bm I [AV.val (.pointer none),AV.val (.int .i64 0),AV.val (.slice none 0 0),AV.val (.slice none 0 0),AV.val (.slice none 0 0),AV.val (.slice none 0 0),AV.val (.slice none 0 0)] (Value.cells (.agg #[.pointer none,.int .i64 0,.slice none 0 0,.slice none 0 0,.slice none 0 0,.slice none 0 0,.slice none 0 0])).toList:=λ_=>⟨⟨rfl,rfl⟩,⟨rfl,rfl⟩,⟨rfl,rfl⟩,⟨rfl,rfl⟩,⟨rfl,rfl⟩,⟨rfl,rfl⟩,⟨rfl,rfl⟩,trivial⟩
instance ae6:ml prog 91:=⟨by kernel_rfl⟩
instance ae7:cL prog 93 false 1 24 (.slice none 0 0):=⟨by kernel_rfl,by kernel_rfl⟩
instance S2:cL prog 95 true 7 136 (.agg #[.int .i64 0,.bool false,.slice none 0 0,.slice none 0 0,.slice none 0 0,.slice none 0 0,.slice none 0 0]):=⟨by kernel_rfl,by kernel_rfl⟩
def ck:Ty prog 95 true 7 136 (.agg #[.int .i64 0,.bool false,.slice none 0 0,.slice none 0 0,.slice none 0 0,.slice none 0 0,.slice none 0 0]):=S2.h
def c9:∀I,bm I [AV.val (.int .i64 0),AV.val (.bool false),AV.rows 2 [],AV.rows 7 [],AV.rows 7 [],AV.rows 3 [],AV.rows 3 []] (Value.cells (.agg #[.int .i64 0,.bool false,.slice none 0 0,.slice none 0 0,.slice none 0 0,.slice none 0 0,.slice none 0 0])).toList:=λ_=>⟨⟨rfl,rfl⟩,⟨rfl,rfl⟩,⟨fA _ _,rfl⟩,⟨fA _ _,rfl⟩,⟨fA _ _,rfl⟩,⟨fA _ _,rfl⟩,⟨fA _ _,rfl⟩,trivial⟩
def Kn:∀I,bm I [AV.val (.int .i64 0),AV.val (.bool false),AV.val (.slice none 0 0),AV.val (.slice none 0 0),AV.val (.slice none 0 0),AV.val (.slice none 0 0),AV.val (.slice none 0 0)] (Value.cells (.agg #[.int .i64 0,.bool false,.slice none 0 0,.slice none 0 0,.slice none 0 0,.slice none 0 0,.slice none 0 0])).toList:=λ_=>⟨⟨rfl,rfl⟩,⟨rfl,rfl⟩,⟨rfl,rfl⟩,⟨rfl,rfl⟩,⟨rfl,rfl⟩,⟨rfl,rfl⟩,⟨rfl,rfl⟩,trivial⟩
def Aj:∀u∈(Value.cells (.agg #[.int .i64 0,.bool false,.slice none 0 0,.slice none 0 0,.slice none 0 0,.slice none 0 0,.slice none 0 0])).toList,u.oneCell'=true:=by simp[Value.cells,Value.oneCell']
instance ae8:ml prog 95:=⟨by kernel_rfl⟩
instance S3:cL prog 97 true 2 16 (.agg #[.int .i64 0,.int .i64 0]):=⟨by kernel_rfl,by kernel_rfl⟩
def dR:Ty prog 97 true 2 16 (.agg #[.int .i64 0,.int .i64 0]):=S3.h
def mr:∀I,bm I [AV.val (.int .i64 0),AV.val (.int .i64 0)] (Value.cells (.agg #[.int .i64 0,.int .i64 0])).toList:=λ_=>⟨⟨rfl,rfl⟩,⟨rfl,rfl⟩,trivial⟩
def Ko:∀u∈(Value.cells (.agg #[.int .i64 0,.int .i64 0])).toList,u.oneCell'=true:=by simp[Value.cells,Value.oneCell']
instance ae9:ml prog 97:=⟨by kernel_rfl⟩
instance S4:cL prog 108 true 15 184 (.agg #[.int .i64 0,.int .i64 0,.int .i64 0,.int .i64 0,.int .i64 0,.int .i64 0,.int .i64 0,.int .i64 0,.bool false,.slice none 0 0,.int .i64 0,.int .i64 0,.slice none 0 0,.slice none 0 0,.slice none 0 0]):=⟨by kernel_rfl,by kernel_rfl⟩
def cV:Ty prog 108 true 15 184 (.agg #[.int .i64 0,.int .i64 0,.int .i64 0,.int .i64 0,.int .i64 0,.int .i64 0,.int .i64 0,.int .i64 0,.bool false,.slice none 0 0,.int .i64 0,.int .i64 0,.slice none 0 0,.slice none 0 0,.slice none 0 0]):=S4.h
def dr:∀I,bm I [AV.val (.int .i64 0),AV.val (.int .i64 0),AV.val (.int .i64 0),AV.val (.int .i64 0),AV.val (.int .i64 0),AV.val (.int .i64 0),AV.val (.int .i64 0),AV.val (.int .i64 0),AV.val (.bool false),AV.rows 3 [],AV.val (.int .i64 0),AV.val (.int .i64 0),AV.rows 7 [],AV.rows 7 [],AV.rows 3 []] (Value.cells (.agg #[.int .i64 0,.int .i64 0,.int .i64 0,.int .i64 0,.int .i64 0,.int .i64 0,.int .i64 0,.int .i64 0,.bool false,.slice none 0 0,.int .i64 0,.int .i64 0,.slice none 0 0,.slice none 0 0,.slice none 0 0])).toList:=λ_=>⟨⟨rfl,rfl⟩,⟨rfl,rfl⟩,⟨rfl,rfl⟩,⟨rfl,rfl⟩,⟨rfl,rfl⟩,⟨rfl,rfl⟩,⟨rfl,rfl⟩,⟨rfl,rfl⟩,⟨rfl,rfl⟩,⟨fA _ _,rfl⟩,⟨rfl,rfl⟩,⟨rfl,rfl⟩,⟨fA _ _,rfl⟩,⟨fA _ _,rfl⟩,⟨fA _ _,rfl⟩,trivial⟩
def S5:∀I,bm I [AV.val (.int .i64 0),AV.val (.int .i64 0),AV.val (.int .i64 0),AV.val (.int .i64 0),AV.val (.int .i64 0),AV.val (.int .i64 0),AV.val (.int .i64 0),AV.val (.int .i64 0),AV.val (.bool false),AV.val (.slice none 0 0),AV.val (.int .i64 0),AV.val (.int .i64 0),AV.val (.slice none 0 0),AV.val (.slice none 0 0),AV.val (.slice none 0 0)] (Value.cells (.agg #[.int .i64 0,.int .i64 0,.int .i64 0,.int .i64 0,.int .i64 0,.int .i64 0,.int .i64 0,.int .i64 0,.bool false,.slice none 0 0,.int .i64 0,.int .i64 0,.slice none 0 0,.slice none 0 0,.slice none 0 0])).toList:=λ_=>⟨⟨rfl,rfl⟩,⟨rfl,rfl⟩,⟨rfl,rfl⟩,⟨rfl,rfl⟩,⟨rfl,rfl⟩,⟨rfl,rfl⟩,⟨rfl,rfl⟩,⟨rfl,rfl⟩,⟨rfl,rfl⟩,⟨rfl,rfl⟩,⟨rfl,rfl⟩,⟨rfl,rfl⟩,⟨rfl,rfl⟩,⟨rfl,rfl⟩,⟨rfl,rfl⟩,trivial⟩
def fo:∀u∈(Value.cells (.agg #[.int .i64 0,.int .i64 0,.int .i64 0,.int .i64 0,.int .i64 0,.int .i64 0,.int .i64 0,.int .i64 0,.bool false,.slice none 0 0,.int .i64 0,.int .i64 0,.slice none 0 0,.slice none 0 0,.slice none 0 0])).toList,u.oneCell'=true:=by simp[Value.cells,Value.oneCell']
instance afa:ml prog 108:=⟨by kernel_rfl⟩
instance S6:cL prog 125 true 3 24 (.agg #[.int .i64 0,.int .i64 0,.int .i64 0]):=⟨by kernel_rfl,by kernel_rfl⟩
def cx:Ty prog 125 true 3 24 (.agg #[.int .i64 0,.int .i64 0,.int .i64 0]):=S6.h
def ez:∀I,bm I [AV.val (.int .i64 0),AV.val (.int .i64 0),AV.val (.int .i64 0)] (Value.cells (.agg #[.int .i64 0,.int .i64 0,.int .i64 0])).toList:=λ_=>⟨⟨rfl,rfl⟩,⟨rfl,rfl⟩,⟨rfl,rfl⟩,trivial⟩
def eJ:∀u∈(Value.cells (.agg #[.int .i64 0,.int .i64 0,.int .i64 0])).toList,u.oneCell'=true:=by simp[Value.cells,Value.oneCell']
instance afb:ml prog 125:=⟨by kernel_rfl⟩
instance afc:cL prog 147 true 2 32 (.agg #[.slice none 0 0,.int .i64 0]):=⟨by kernel_rfl,by kernel_rfl⟩
def S7:∀I,bm I [AV.rows 1 [],AV.val (.int .i64 0)] (Value.cells (.agg #[.slice none 0 0,.int .i64 0])).toList:=λ_=>⟨⟨fA _ _,rfl⟩,⟨rfl,rfl⟩,trivial⟩
instance afd:ml prog 147:=⟨by kernel_rfl⟩
instance afe:cL prog 193 false 1 24 (.slice none 0 0):=⟨by kernel_rfl,by kernel_rfl⟩
instance aff:cL prog 194 false 1 24 (.slice none 0 0):=⟨by kernel_rfl,by kernel_rfl⟩
instance afg:cL prog 195 false 1 24 (.slice none 0 0):=⟨by kernel_rfl,by kernel_rfl⟩
instance afh:cL prog 197 true 7 136 (.agg #[.int .i64 0,.bool false,.slice none 0 0,.slice none 0 0,.slice none 0 0,.slice none 0 0,.slice none 0 0]):=⟨by kernel_rfl,by kernel_rfl⟩
instance afi:cL prog 199 true 2 16 (.agg #[.int .i64 0,.int .i64 0]):=⟨by kernel_rfl,by kernel_rfl⟩
instance afj:cL prog 201 true 15 184 (.agg #[.int .i64 0,.int .i64 0,.int .i64 0,.int .i64 0,.int .i64 0,.int .i64 0,.int .i64 0,.int .i64 0,.bool false,.slice none 0 0,.int .i64 0,.int .i64 0,.slice none 0 0,.slice none 0 0,.slice none 0 0]):=⟨by kernel_rfl,by kernel_rfl⟩
instance afk:cL prog 203 false 1 24 (.slice none 0 0):=⟨by kernel_rfl,by kernel_rfl⟩
instance afl:cL prog 205 true 13 168 (.agg #[.int .i64 0,.int .i64 0,.int .i64 0,.slice none 0 0,.int .i64 0,.slice none 0 0,.int .i64 0,.int .i64 0,.bool false,.int .i64 0,.int .i64 0,.slice none 0 0,.slice none 0 0]):=⟨by kernel_rfl,by kernel_rfl⟩
instance afm:cL prog 249 true 3 24 (.agg #[.int .i64 0,.int .i64 0,.int .i64 0]):=⟨by kernel_rfl,by kernel_rfl⟩
instance afn:cL prog 267 true 7 72 (.agg #[.int .i64 0,.int .i64 0,.int .i64 0,.int .i64 0,.int .i64 0,.int .i64 0,.slice none 0 0]):=⟨by kernel_rfl,by kernel_rfl⟩
instance afo:cL prog 270 true 9 88 (.agg #[.int .i64 0,.bool false,.int .i64 0,.int .i64 0,.int .i64 0,.int .i64 0,.int .i64 0,.int .i64 0,.slice none 0 0]):=⟨by kernel_rfl,by kernel_rfl⟩
instance afp:cL prog 272 true 2 16 (.agg #[.int .i64 0,.int .i64 0]):=⟨by kernel_rfl,by kernel_rfl⟩
instance S8:fF prog 3 (.int .i64):=⟨by kernel_rfl⟩
def nP:prog.underlying 3=some (.int .i64):=S8.h
instance S9:fF prog 4 (.bool):=⟨by kernel_rfl⟩
def xE:prog.underlying 4=some (.bool):=S9.h
instance Ta:fF prog 22 (.slice 5):=⟨by kernel_rfl⟩
def tf:prog.underlying 22=some (.slice 5):=Ta.h
instance Tb:fF prog 23 (.slice 95):=⟨by kernel_rfl⟩
def nQ:prog.underlying 23=some (.slice 95):=Tb.h
instance Tc:fF prog 24 (.slice 108):=⟨by kernel_rfl⟩
def eA:prog.underlying 24=some (.slice 108):=Tc.h
instance Td:fF prog 25 (.slice 45):=⟨by kernel_rfl⟩
def ju:prog.underlying 25=some (.slice 45):=Td.h
instance Te:fF prog 26 (.slice 40):=⟨by kernel_rfl⟩
def xF:prog.underlying 26=some (.slice 40):=Te.h
instance Tf:fF prog 34 (.slice 54):=⟨by kernel_rfl⟩
def dA:prog.underlying 34=some (.slice 54):=Tf.h
instance Tg:fF prog 37 (.slice 49):=⟨by kernel_rfl⟩
def Th:prog.underlying 37=some (.slice 49):=Tg.h
instance Ti:fF prog 39 (.slice 3):=⟨by kernel_rfl⟩
def cG:prog.underlying 39=some (.slice 3):=Ti.h
instance Tj:fF prog 40 (.slice 125):=⟨by kernel_rfl⟩
def c4:prog.underlying 40=some (.slice 125):=Tj.h
instance Tk:fF prog 43 (.slice 56):=⟨by kernel_rfl⟩
def gy:prog.underlying 43=some (.slice 56):=Tk.h
instance afq:fF prog 65 (.slice 197):=⟨by kernel_rfl⟩
instance afr:fF prog 66 (.slice 201):=⟨by kernel_rfl⟩
instance afs:fF prog 67 (.slice 205):=⟨by kernel_rfl⟩
instance aft:fF prog 68 (.slice 195):=⟨by kernel_rfl⟩
instance Tl:fF prog 93 (.slice 97):=⟨by kernel_rfl⟩
def fq:prog.underlying 93=some (.slice 97):=Tl.h
instance Tm:fF prog 162 (.map 3 3):=⟨by kernel_rfl⟩
def Tn:prog.underlying 162=some (.map 3 3):=Tm.h
instance afu:fF prog 193 (.slice 272):=⟨by kernel_rfl⟩
instance afv:fF prog 194 (.slice 267):=⟨by kernel_rfl⟩
instance afw:fF prog 195 (.slice 249):=⟨by kernel_rfl⟩
instance afx:fF prog 203 (.slice 270):=⟨by kernel_rfl⟩
instance To:fF prog 292 (.slice 42):=⟨by kernel_rfl⟩
def Kp:prog.underlying 292=some (.slice 42):=To.h
instance afy:bl prog 28 0 0 1:=⟨by unfold be;kernel_rfl⟩
instance afz:c5 prog 28 0 0 1:=⟨by unfold cD;kernel_rfl⟩
instance afA:bl prog 28 1 1 1:=⟨by unfold be;kernel_rfl⟩
instance afB:bl prog 28 2 2 1:=⟨by unfold be;kernel_rfl⟩
instance Tp:c5 prog 28 2 2 1:=⟨by unfold cD;kernel_rfl⟩
def Kq:cD prog 28 2=some (2,1):=Tp.h
instance afC:bl prog 28 3 3 1:=⟨by unfold be;kernel_rfl⟩
instance afD:bl prog 28 4 4 1:=⟨by unfold be;kernel_rfl⟩
instance afE:c5 prog 28 4 4 1:=⟨by unfold cD;kernel_rfl⟩
instance afF:bl prog 42 0 0 1:=⟨by unfold be;kernel_rfl⟩
instance afG:c5 prog 42 0 0 1:=⟨by unfold cD;kernel_rfl⟩
instance afH:bl prog 42 1 1 1:=⟨by unfold be;kernel_rfl⟩
instance afI:c5 prog 42 1 1 1:=⟨by unfold cD;kernel_rfl⟩
instance afJ:bl prog 45 0 0 1:=⟨by unfold be;kernel_rfl⟩
instance afK:c5 prog 45 0 0 1:=⟨by unfold cD;kernel_rfl⟩
instance afL:bl prog 45 1 1 1:=⟨by unfold be;kernel_rfl⟩
instance afM:c5 prog 45 1 1 1:=⟨by unfold cD;kernel_rfl⟩
instance afN:bl prog 45 2 2 1:=⟨by unfold be;kernel_rfl⟩
instance afO:c5 prog 45 2 2 1:=⟨by unfold cD;kernel_rfl⟩
instance afP:bl prog 45 3 3 1:=⟨by unfold be;kernel_rfl⟩
instance Tq:c5 prog 45 3 3 1:=⟨by unfold cD;kernel_rfl⟩
def Tr:cD prog 45 3=some (3,1):=Tq.h
instance afQ:bl prog 45 4 4 1:=⟨by unfold be;kernel_rfl⟩
instance afR:bl prog 45 5 5 1:=⟨by unfold be;kernel_rfl⟩
instance afS:c5 prog 45 5 5 1:=⟨by unfold cD;kernel_rfl⟩
instance afT:bl prog 45 6 6 1:=⟨by unfold be;kernel_rfl⟩
instance afU:c5 prog 45 6 6 1:=⟨by unfold cD;kernel_rfl⟩
instance afV:bl prog 45 7 7 1:=⟨by unfold be;kernel_rfl⟩
instance afW:bl prog 45 8 8 1:=⟨by unfold be;kernel_rfl⟩
instance afX:bl prog 45 9 9 2:=⟨by unfold be;kernel_rfl⟩
instance afY:bl prog 45 10 11 1:=⟨by unfold be;kernel_rfl⟩
instance afZ:bl prog 45 11 12 1:=⟨by unfold be;kernel_rfl⟩
instance af0:bl prog 49 0 0 1:=⟨by unfold be;kernel_rfl⟩
instance af1:c5 prog 49 0 0 1:=⟨by unfold cD;kernel_rfl⟩
instance af2:bl prog 49 1 1 1:=⟨by unfold be;kernel_rfl⟩
instance af3:c5 prog 49 1 1 1:=⟨by unfold cD;kernel_rfl⟩
instance af4:bl prog 49 2 2 1:=⟨by unfold be;kernel_rfl⟩
instance af5:c5 prog 49 2 2 1:=⟨by unfold cD;kernel_rfl⟩
instance af6:bl prog 49 3 3 1:=⟨by unfold be;kernel_rfl⟩
instance af7:c5 prog 49 3 3 1:=⟨by unfold cD;kernel_rfl⟩
instance af8:bl prog 49 4 4 1:=⟨by unfold be;kernel_rfl⟩
instance af9:c5 prog 49 4 4 1:=⟨by unfold cD;kernel_rfl⟩
instance aga:bl prog 49 5 5 1:=⟨by unfold be;kernel_rfl⟩
instance agb:c5 prog 49 5 5 1:=⟨by unfold cD;kernel_rfl⟩
instance agc:bl prog 49 6 6 1:=⟨by unfold be;kernel_rfl⟩
instance agd:c5 prog 49 6 6 1:=⟨by unfold cD;kernel_rfl⟩
instance age:bl prog 49 7 7 1:=⟨by unfold be;kernel_rfl⟩
instance agf:c5 prog 49 7 7 1:=⟨by unfold cD;kernel_rfl⟩
instance agh:bl prog 49 8 8 1:=⟨by unfold be;kernel_rfl⟩
instance agi:bl prog 49 9 9 1:=⟨by unfold be;kernel_rfl⟩
instance agj:bl prog 49 10 10 1:=⟨by unfold be;kernel_rfl⟩
instance agk:c5 prog 49 10 10 1:=⟨by unfold cD;kernel_rfl⟩
instance agl:bl prog 54 0 0 1:=⟨by unfold be;kernel_rfl⟩
instance agm:c5 prog 54 0 0 1:=⟨by unfold cD;kernel_rfl⟩
instance agn:bl prog 54 1 1 2:=⟨by unfold be;kernel_rfl⟩
instance ago:c5 prog 54 1 1 2:=⟨by unfold cD;kernel_rfl⟩
instance agp:bl prog 54 2 3 1:=⟨by unfold be;kernel_rfl⟩
instance agq:c5 prog 54 2 3 1:=⟨by unfold cD;kernel_rfl⟩
instance agr:bl prog 54 3 4 1:=⟨by unfold be;kernel_rfl⟩
instance ags:c5 prog 54 3 4 1:=⟨by unfold cD;kernel_rfl⟩
instance agt:bl prog 54 4 5 1:=⟨by unfold be;kernel_rfl⟩
instance agu:c5 prog 54 4 5 1:=⟨by unfold cD;kernel_rfl⟩
instance agv:bl prog 54 5 6 1:=⟨by unfold be;kernel_rfl⟩
instance agw:c5 prog 54 5 6 1:=⟨by unfold cD;kernel_rfl⟩
instance agx:bl prog 56 0 0 1:=⟨by unfold be;kernel_rfl⟩
instance agy:c5 prog 56 0 0 1:=⟨by unfold cD;kernel_rfl⟩
instance agz:bl prog 56 1 1 1:=⟨by unfold be;kernel_rfl⟩
instance agA:c5 prog 56 1 1 1:=⟨by unfold cD;kernel_rfl⟩
instance agB:bl prog 56 2 2 7:=⟨by unfold be;kernel_rfl⟩
instance agC:c5 prog 56 2 2 7:=⟨by unfold cD;kernel_rfl⟩
instance agD:bl prog 70 0 0 1:=⟨by unfold be;kernel_rfl⟩
instance agE:bl prog 70 1 1 1:=⟨by unfold be;kernel_rfl⟩
instance agF:bl prog 70 2 2 1:=⟨by unfold be;kernel_rfl⟩
instance agG:bl prog 70 3 3 1:=⟨by unfold be;kernel_rfl⟩
instance agH:bl prog 70 4 4 1:=⟨by unfold be;kernel_rfl⟩
instance agI:bl prog 91 0 0 1:=⟨by unfold be;kernel_rfl⟩
instance agJ:c5 prog 91 0 0 1:=⟨by unfold cD;kernel_rfl⟩
instance agK:bl prog 91 1 1 5:=⟨by unfold be;kernel_rfl⟩
instance agL:c5 prog 91 1 1 5:=⟨by unfold cD;kernel_rfl⟩
instance agM:bl prog 91 2 6 1:=⟨by unfold be;kernel_rfl⟩
instance agN:bl prog 95 0 0 1:=⟨by unfold be;kernel_rfl⟩
instance agO:c5 prog 95 0 0 1:=⟨by unfold cD;kernel_rfl⟩
instance agP:bl prog 95 1 1 1:=⟨by unfold be;kernel_rfl⟩
instance agQ:c5 prog 95 1 1 1:=⟨by unfold cD;kernel_rfl⟩
instance agR:bl prog 95 2 2 1:=⟨by unfold be;kernel_rfl⟩
instance Ts:c5 prog 95 2 2 1:=⟨by unfold cD;kernel_rfl⟩
def Tt:cD prog 95 2=some (2,1):=Ts.h
instance agS:bl prog 95 3 3 1:=⟨by unfold be;kernel_rfl⟩
instance Tu:c5 prog 95 3 3 1:=⟨by unfold cD;kernel_rfl⟩
def Tv:cD prog 95 3=some (3,1):=Tu.h
instance agT:bl prog 95 4 4 1:=⟨by unfold be;kernel_rfl⟩
instance Tw:c5 prog 95 4 4 1:=⟨by unfold cD;kernel_rfl⟩
def Tx:cD prog 95 4=some (4,1):=Tw.h
instance agU:bl prog 95 5 5 1:=⟨by unfold be;kernel_rfl⟩
instance Tz:c5 prog 95 5 5 1:=⟨by unfold cD;kernel_rfl⟩
def TA:cD prog 95 5=some (5,1):=Tz.h
instance agV:bl prog 95 6 6 1:=⟨by unfold be;kernel_rfl⟩
instance TB:c5 prog 95 6 6 1:=⟨by unfold cD;kernel_rfl⟩
def TC:cD prog 95 6=some (6,1):=TB.h
instance agW:bl prog 97 0 0 1:=⟨by unfold be;kernel_rfl⟩
instance agX:c5 prog 97 0 0 1:=⟨by unfold cD;kernel_rfl⟩
instance agY:bl prog 97 1 1 1:=⟨by unfold be;kernel_rfl⟩
instance agZ:c5 prog 97 1 1 1:=⟨by unfold cD;kernel_rfl⟩
instance ag0:bl prog 108 0 0 1:=⟨by unfold be;kernel_rfl⟩
instance TE:c5 prog 108 0 0 1:=⟨by unfold cD;kernel_rfl⟩
def TF:cD prog 108 0=some (0,1):=TE.h
instance ag1:bl prog 108 1 1 1:=⟨by unfold be;kernel_rfl⟩
instance ag2:c5 prog 108 1 1 1:=⟨by unfold cD;kernel_rfl⟩
instance ag3:bl prog 108 2 2 1:=⟨by unfold be;kernel_rfl⟩
instance TG:c5 prog 108 2 2 1:=⟨by unfold cD;kernel_rfl⟩
def TH:cD prog 108 2=some (2,1):=TG.h
instance ag4:bl prog 108 3 3 1:=⟨by unfold be;kernel_rfl⟩
instance ag5:c5 prog 108 3 3 1:=⟨by unfold cD;kernel_rfl⟩
instance ag6:bl prog 108 4 4 1:=⟨by unfold be;kernel_rfl⟩
instance ag7:c5 prog 108 4 4 1:=⟨by unfold cD;kernel_rfl⟩
instance ag8:bl prog 108 5 5 2:=⟨by unfold be;kernel_rfl⟩
instance ag9:c5 prog 108 5 5 2:=⟨by unfold cD;kernel_rfl⟩
instance aha:bl prog 108 6 7 1:=⟨by unfold be;kernel_rfl⟩
instance ahb:c5 prog 108 6 7 1:=⟨by unfold cD;kernel_rfl⟩
instance ahc:bl prog 108 7 8 1:=⟨by unfold be;kernel_rfl⟩
instance ahd:c5 prog 108 7 8 1:=⟨by unfold cD;kernel_rfl⟩
instance ahe:bl prog 108 8 9 1:=⟨by unfold be;kernel_rfl⟩
instance ahf:c5 prog 108 8 9 1:=⟨by unfold cD;kernel_rfl⟩
instance ahg:bl prog 108 9 10 1:=⟨by unfold be;kernel_rfl⟩
instance ahh:c5 prog 108 9 10 1:=⟨by unfold cD;kernel_rfl⟩
instance ahi:bl prog 108 10 11 1:=⟨by unfold be;kernel_rfl⟩
instance ahj:c5 prog 108 10 11 1:=⟨by unfold cD;kernel_rfl⟩
instance ahk:bl prog 108 11 12 1:=⟨by unfold be;kernel_rfl⟩
instance ahl:c5 prog 108 11 12 1:=⟨by unfold cD;kernel_rfl⟩
instance ahm:bl prog 108 12 13 1:=⟨by unfold be;kernel_rfl⟩
instance ahn:bl prog 108 13 14 1:=⟨by unfold be;kernel_rfl⟩
instance aho:bl prog 125 0 0 1:=⟨by unfold be;kernel_rfl⟩
instance ahp:c5 prog 125 0 0 1:=⟨by unfold cD;kernel_rfl⟩
instance ahq:bl prog 125 1 1 2:=⟨by unfold be;kernel_rfl⟩
instance ahr:c5 prog 125 1 1 2:=⟨by unfold cD;kernel_rfl⟩
instance ahs:bl prog 147 0 0 1:=⟨by unfold be;kernel_rfl⟩
instance aht:c5 prog 147 0 0 1:=⟨by unfold cD;kernel_rfl⟩
instance ahu:bl prog 147 1 1 1:=⟨by unfold be;kernel_rfl⟩
instance ahv:bl prog 197 0 0 1:=⟨by unfold be;kernel_rfl⟩
instance ahw:bl prog 197 1 1 1:=⟨by unfold be;kernel_rfl⟩
instance ahx:bl prog 197 2 2 1:=⟨by unfold be;kernel_rfl⟩
instance ahy:bl prog 197 3 3 1:=⟨by unfold be;kernel_rfl⟩
instance ahz:bl prog 197 4 4 1:=⟨by unfold be;kernel_rfl⟩
instance ahA:bl prog 197 5 5 1:=⟨by unfold be;kernel_rfl⟩
instance ahB:bl prog 197 6 6 1:=⟨by unfold be;kernel_rfl⟩
instance ahC:bl prog 199 0 0 1:=⟨by unfold be;kernel_rfl⟩
instance ahD:bl prog 199 1 1 1:=⟨by unfold be;kernel_rfl⟩
instance ahE:bl prog 201 0 0 1:=⟨by unfold be;kernel_rfl⟩
instance ahF:bl prog 201 1 1 1:=⟨by unfold be;kernel_rfl⟩
instance ahG:bl prog 201 2 2 1:=⟨by unfold be;kernel_rfl⟩
instance ahH:bl prog 201 3 3 1:=⟨by unfold be;kernel_rfl⟩
instance ahI:bl prog 201 4 4 1:=⟨by unfold be;kernel_rfl⟩
instance ahJ:bl prog 201 5 5 2:=⟨by unfold be;kernel_rfl⟩
instance ahK:bl prog 201 6 7 1:=⟨by unfold be;kernel_rfl⟩
instance ahL:bl prog 201 7 8 1:=⟨by unfold be;kernel_rfl⟩
instance ahM:bl prog 201 8 9 1:=⟨by unfold be;kernel_rfl⟩
instance ahN:bl prog 201 9 10 1:=⟨by unfold be;kernel_rfl⟩
instance ahO:bl prog 201 10 11 1:=⟨by unfold be;kernel_rfl⟩
instance ahP:bl prog 201 11 12 1:=⟨by unfold be;kernel_rfl⟩
instance ahQ:bl prog 201 12 13 1:=⟨by unfold be;kernel_rfl⟩
instance ahR:bl prog 201 13 14 1:=⟨by unfold be;kernel_rfl⟩
instance ahS:bl prog 205 0 0 1:=⟨by unfold be;kernel_rfl⟩
instance ahT:bl prog 205 1 1 1:=⟨by unfold be;kernel_rfl⟩
instance ahU:bl prog 205 2 2 1:=⟨by unfold be;kernel_rfl⟩
instance ahV:bl prog 205 3 3 1:=⟨by unfold be;kernel_rfl⟩
instance ahW:bl prog 205 4 4 1:=⟨by unfold be;kernel_rfl⟩
instance ahX:bl prog 205 5 5 1:=⟨by unfold be;kernel_rfl⟩
instance ahY:bl prog 205 6 6 1:=⟨by unfold be;kernel_rfl⟩
instance ahZ:bl prog 205 7 7 1:=⟨by unfold be;kernel_rfl⟩
instance ah0:bl prog 205 8 8 1:=⟨by unfold be;kernel_rfl⟩
instance ah1:bl prog 205 9 9 2:=⟨by unfold be;kernel_rfl⟩
instance ah2:bl prog 205 10 11 1:=⟨by unfold be;kernel_rfl⟩
instance ah3:bl prog 205 11 12 1:=⟨by unfold be;kernel_rfl⟩
instance ah4:bl prog 249 0 0 1:=⟨by unfold be;kernel_rfl⟩
instance ah5:bl prog 249 1 1 2:=⟨by unfold be;kernel_rfl⟩
instance ah6:bl prog 267 0 0 1:=⟨by unfold be;kernel_rfl⟩
instance ah7:bl prog 267 1 1 2:=⟨by unfold be;kernel_rfl⟩
instance ah8:bl prog 267 2 3 1:=⟨by unfold be;kernel_rfl⟩
instance ah9:bl prog 267 3 4 1:=⟨by unfold be;kernel_rfl⟩
instance aia:bl prog 267 4 5 1:=⟨by unfold be;kernel_rfl⟩
instance aib:bl prog 267 5 6 1:=⟨by unfold be;kernel_rfl⟩
instance aic:bl prog 270 0 0 1:=⟨by unfold be;kernel_rfl⟩
instance aid:bl prog 270 1 1 1:=⟨by unfold be;kernel_rfl⟩
instance aie:bl prog 270 2 2 7:=⟨by unfold be;kernel_rfl⟩
instance aif:bl prog 272 0 0 1:=⟨by unfold be;kernel_rfl⟩
instance aih:bl prog 272 1 1 1:=⟨by unfold be;kernel_rfl⟩
def mu:xa prog 42 2:=⟨by kernel_rfl,λxs ys w hx hy=>by
 match xs,ys,hx,hy with
 |[x0,x1],[y0,y1],_,_=>
  simp[go_sem,Tryz.underlying42]
  (repeat' split)<;>simp_all⟩
def vj:xa prog 125 3:=⟨by kernel_rfl,λxs ys w hx hy=>by
 match xs,ys,hx,hy with
 |[x0,x1,x2],[y0,y1,y2],_,_=>
  simp[go_sem,Tryz.underlying125]
  (repeat' split)<;>simp_all⟩
def Kr:xa prog 97 2:=⟨by kernel_rfl,λxs ys w hx hy=>by
 match xs,ys,hx,hy with
 |[x0,x1],[y0,y1],_,_=>
  simp[go_sem,Tryz.underlying97]
  (repeat' split)<;>simp_all⟩
end Go.Proofs.YtldbakcpcfdlaaaGreat
namespace Go.Proofs.YtldbakcpcfdlaaaGreat
open Go Go.RowKit Tryz
def Own.is (x:AV) (v:Value):Own:=⟨λ_=>False,λI _=>x.h I v,λ_ _ _ _ hl _ h=>x.up _ _ _ hl h⟩
def xG (ds:List Nat) (a:Act):Env:=ds.map λt=>(t,AV.val (a.tmps.getD t undef))
def Ks {I:Im} {a:Act}:∀ds:List Nat,cM I a (xG ds a)
 |[],t,x,e=>by simp[xG,Env.get] at e
 |s::ds,t,x,e=>by
  simp only[xG,List.map_cons,Env.get] at e;cases hb:Nat.beq s t with
  |true=>rw[hb] at e;obtain rfl:s=t:=Nat.eq_of_beq_eq_true hb;simp only[cond_true,Option.some.injEq] at e;subst e;exact(rfl:a.tmps.getD s undef=a.tmps.getD s undef)
  |false=>rw[hb] at e;exact Ks ds t x (by simpa[xG] using e)
section
variable {P:Program} {c:Ctx} {I:Im} {H:List Own} {Γ:Env} {a:Act} {w:World} {Q:Exit->Act->World->Prop} {ops:Array Oper} {rest os:List Oper} {Hf:List (EA->Own)} {ms:Meta} {E:TypeId} {sz:Nat} {l:List (List AV)} {v:Value} {x:AV}
def St.nf {H':List Own} (U:St c I H Γ a w) (h:H=H':=by first|(simp only[fill,hole,List.set_cons_zero,List.set_cons_succ,List.cons_append,List.nil_append,List.append_nil];exact rfl)|exact rfl):St c I H' Γ a w:=h▸U
def St.TI (U:St c I H Γ a w) (h:x.h I v):St c I (H++[Own.is x v]) Γ a w:=
 ⟨U.step,⟨λy hy=>by
  rcases List.mem_append.1 hy with hy|hy
  .exact U.own.all y hy
  .obtain rfl:=by simpa using hy
   exact⟨h,λb e=>by cases e⟩,
  by rw[List.pairwise_append];exact⟨U.own.apart,by simp,λy _ z hz b _ e=>by obtain rfl:z=_:=List.mem_singleton.1 hz;exact e.elim⟩⟩,U.env,U.size,U.defers⟩
def aI.km {d:Nat} {f:FuncId} {ys:Array Operand} {ts:Array TypeId} {ty:TypeId} {p:String} {af:Array Edge} {xs:List AV} (k:Nat) (hk:Hf[k]?=some λ_=>Own.gone) (hd:Nat.blt d c.n=true) (hf:gO P f xs E sz l)
 (hO:∀I a,cM I a (Γ.only ((⟨some d,.call ⟨.value (.func f),ys,ts⟩,ty,p,af,none⟩:Oper).looksAt ops))->true=true->cP I xs (ys.map a.eval).toList)
 (r:aI P c ops Q ((d,AV.ki)::Γ) (Hf.set k λa=>Own.row (a.tmps.getD d undef) E sz l) os ms):aI P c ops Q Γ Hf (⟨some d,.call ⟨.value (.func f),ys,ts⟩,ty,p,af,none⟩::os) (([k],some (k,[d]))::ms):=
 aI.cons (u:=some ⟨k,[d],λa=>Own.row (a.tmps.getD d undef) E sz l⟩) (x:=AV.ki) (ql (g:=λv=>Own.row v E sz l) λv v' e=>e▸rfl) (λF W0 I0 I γ a w Q U kk=>by
  refine U.km hf hO hd λI' v a' w' bM=>?_;have hv:a'.tmps.getD d undef=v:=bM.env d (.val v) (by simp[Env.get]);have ey:=bM.qk k (js hk);have s5:=ey.own.all (Own.row v E sz l) (List.mem_of_getElem? (i:=k) (by rw[List.getElem?_set_self (List.getElem?_eq_some_iff.1 (js (a:=ea a γ) (F:=F) hk)).1]));have h1:v.oneCell'=true:=by
   obtain⟨_,⟨_,rfl|⟨q,rfl,_⟩⟩|⟨b,cap,cur,rfl,_⟩⟩:=s5.1<;>rfl
  have jI:St ⟨W0.1,I0,c.n,W0.2⟩ I' ((dG [k] (ea a γ) F 0 Hf).set k (Own.row v E sz l)) ((d,AV.ki)::Γ.only ((⟨some d,.call ⟨.value (.func f),ys,ts⟩,ty,p,af,none⟩:Oper).looksAt ops)) a' w':=
   ⟨ey.step,ey.own,λt y e=>by
    simp only[Env.get] at e;cases hb:Nat.beq d t with
    |true=>rw[hb] at e;obtain rfl:d=t:=Nat.eq_of_beq_eq_true hb;simp at e;subst e;rw[hv];exact h1
    |false=>rw[hb] at e;exact ey.env t y (by simp only[Env.get,hb];exact e),ey.size,ey.defers⟩
  exact kk γ (λ_ _=>rfl) I' a' w' (jI.pass (kJ (a':=ea a' γ) (f:=λa=>Own.row (a.tmps.getD d undef) E sz l) (by rw[hv])))) r
def aI.Ak {o:Oper} {d:Nat} (k:Nat) (ds:List Nat) (y:EA->AV) (hk:Hf[k]?=some λ_=>Own.gone) (hg:o.guard=none) (ho:o.dst=some d) (hd:Nat.blt d c.n=true) (hx:∀a a':EA,(∀t∈ds,a.tmps.getD t undef=a'.tmps.getD t undef)->y a=y a') (dU:ds.contains d=false)
 (h:∀{γ:Nat->Own} F a I,cM I a (Γ.only (o.looksAt ops))->Ok P (dG [k] (ea a γ) F 0 Hf) (xG ds a++Γ.only (o.looksAt ops)) true o (y (ea a γ)))
 (r:aI P c ops Q ((d,AV.any)::Γ) (Hf.set k λa=>Own.is (y a) (a.tmps.getD d undef)) os ms):aI P c ops Q Γ Hf (o::os) (([k],some (k,d::ds))::ms):=
 aI.cons (u:=some ⟨k,d::ds,λa=>Own.is (y a) (a.tmps.getD d undef)⟩) (x:=AV.any) (λv e=>by
  cases e;intro a a' hh;show Own.is (y a) _=Own.is (y a') _;rw[hx a a' λt ht=>(hh t (List.mem_cons_of_mem _ ht)).1,(hh d bt).1]) (λF W0 I0 I γ a w Q U kk=>by
  unfold wpList;rw[if_pos (by simp[Region.wanted,hg])];refine .inl (h F a I U.env _ I a w _ _ ((Ks ds).append U.env) U.step.cX U.own rfl λv I' w' hv s=>?_);rw[ho];have jg:d<c.n:=by simpa using hd
  have cF:=U.size;have bM:=U.put (d:=d) (x:=AV.any) (v:=v) jg trivial s;have D4:(a.put (some d) v).tmps.getD d undef=v:=by simp[Act.put,cF,jg]
  have Kt:y (ea (a.put (some d) v) γ)=y (ea a γ):=hx _ _ λt ht=>by
   have bH:d≠t:=λe=>by
    subst e;have:ds.contains d=true:=by simpa using ht
    rw[dU] at this;cases this
   simp[Act.put,bH]
  have ey:=(bM.TI (x:=y (ea a γ)) (v:=v) hv).qk k (js hk);refine kk γ (λ_ _=>rfl) I' (a.put (some d) v) w' (St.pass (H:=(dG [k] (ea a γ) F 0 Hf).set k (Own.is (y (ea a γ)) v)) ?_ (kJ (a':=ea (a.put (some d) v) γ) (f:=λa=>Own.is (y a) (a.tmps.getD d undef)) (by rw[D4,Kt])));rw[ho];exact ey) (by rw[ho];exact r)
def TJ {g:Bool}:At Γ g (.const (.slice none 0 0)) AV.bare:=λ_ _ _ _=>.inl rfl
def Ok.to {g:Bool} {o:Oper} {y:AV} (h:Ok P H Γ g o x) (e:x=y:=by rfl):Ok P H Γ g o y:=e▸h
def rK {t:Nat} (he:cM I a Γ) (h:Env.get t Γ=some AV.ki:=by rfl):(AV.val (a.tmps.getD t undef)).One:=λI v hv=>by
 obtain rfl:v=a.tmps.getD t undef:=hv;exact he t _ h
def St.Al {d:Nat} (k:Nat) (U:St c I H Γ a w) (hk:H[k]?=some (Own.is x (a.tmps.getD d undef))):St c I (H.set k Own.gone) ((d,x)::Γ) a w:=by
 have hx:=(U.own.all _ (List.mem_of_getElem? hk)).1;refine⟨U.step,⟨λo ho=>?_,pe U.own.apart λb e=>e.elim⟩,λt y e=>?_,U.size,U.defers⟩
 .rcases List.mem_or_eq_of_mem_set ho with ho|rfl
  .exact U.own.all o ho
  exact⟨trivial,λb e=>by cases e⟩
 simp only[Env.get] at e;cases hb:Nat.beq d t with
 |true=>rw[hb] at e;obtain rfl:d=t:=Nat.eq_of_beq_eq_true hb;simp at e;subst e;exact hx
 |false=>rw[hb] at e;exact U.env t y (by simpa using e)
def TK {g:Bool} {d:Option Tmp} {y z:Operand} {T T' ty:TypeId} {p:String} {af:Array Edge} {gd:Option (Nat×Bool)} {m n:Int} (hy:At Γ g y (.int m)) (hz:At Γ g z (.int n)):
 Ok P H Γ g ⟨d,.call ⟨.builtin .max,#[y,z],#[T,T']⟩,ty,p,af,gd⟩ (.int (if m<n then n else m)):=
 gr λI a w he hg=>by
  have h1:a.eval y=.int .i64 m:=hy I a he hg;have h2:a.eval z=.int .i64 n:=hz I a he hg;simp only[execOp,resolve,invoke,builtin,Sem.run_bind,Sem.run_pure,Result.andThen_ok,List.map_toArray,List.map_cons,List.map_nil,h1,h2];simp[Builtin.max_,Builtin.max2]
end
def Ku {P:Program} {H:List Own} {Γ:Env} {g:Bool} {d:Option Tmp} {ty:TypeId} {p:String} {af:Array Edge} {gd:Option (Nat×Bool)} {f:FuncId} {ys:Array Operand} {ts:Array TypeId} {xs:List AV} {res:AV} (hf:g=true->Fn P f xs res) (h:∀I a,cM I a Γ->g=true->cP I xs (ys.map a.eval).toList):
 Ok P H Γ g ⟨d,.call ⟨.value (.func f),ys,ts⟩,ty,p,af,gd⟩ res:=λbase I a w K Q he hm hw hg k=>cq (hf hg) h base I a w K Q he hm hw hg k
def AV.cut (b o k:Nat):AV:=⟨λ_ v=>∃q c,v=.slice q k c/\(k=0\/q=some ⟨b,o,none⟩),λ_ _ _ _ h=>h⟩
section
variable {P:Program} {c:Ctx} {I:Im} {H:List Own} {Γ:Env} {a:Act} {w:World} {Q:Exit->Act->World->Prop} {ops:Array Oper} {rest:List Oper}
variable {d:Nat} {dd:Option Tmp} {y z z' z2:Operand} {ty T T' E E':TypeId} {p:String} {af:Array Edge} {g:Bool} {gd:Option (Nat×Bool)} {n m:Nat} {zv:Value}
def Kv {q:Option Addr} {n cap lo hi mx:Nat} {t1 t2 t3:Int} {sz:Nat} {ag:Bool} (hT:P.underlying T=some (.slice E)) (hE:Ty P E ag sz m zv) (h:At Γ g y (.val (.slice q n cap))) (h1:At Γ g z (.int t1)) (h2:At Γ g z' (.int t2)) (h3:At Γ g z2 (.int t3)) (e1:t1=lo) (e2:t2=hi) (e3:t3=mx) (pn:lo<=hi) (DF:hi<=mx) (rH:mx<=cap):
 Ok P H Γ g ⟨some d,.slice T y (some z) (some z') (some z2),ty,p,af,gd⟩ .any:=
 fY λ_ I a w he _ _ hg=>by
  subst e1 e2 e3;have e:a.eval y=_:=h I a he hg;have e1:a.eval z=_:=h1 I a he hg;have e2:a.eval z'=_:=h2 I a he hg;have e3:a.eval z2=_:=h3 I a he hg;have U:(sizeOf E).run P w=.ok sz w:=hE.size;have c1:(lo:Int)<=(hi:Int):=by omega
  have c2:(hi:Int)<=(mx:Int):=by omega
  have c3:(mx:Int)<=(cap:Int):=by omega
  refine⟨sliced q lo hi mx sz,?_,trivial⟩;simp only[execOp,Option.map_some,Option.map_none,e,e1,e2,e3,Instr.sliceAt,Sem.run_bind,run_underlying hT,Result.andThen_ok];simp[Instr.slice,run_underlying hT,Instr.sliceBounds,run_sliceBound,pn,DF,rH,c1,c2,c3,U,sliced]
def D5 {b n cap lo sz:Nat} {t:Int} {ag:Bool} (hT:P.underlying T=some (.slice E)) (hE:Ty P E ag sz m zv) (h:At Γ g y (.val (.slice (some ⟨b,0,none⟩) n cap))) (h1:At Γ g z (.int t)) (ht:t=lo) (pn:lo<=n) (kD:n<=cap):
 Ok P H Γ g ⟨some d,.slice T y (some z) none none,ty,p,af,gd⟩ (.cut b (lo*sz) (n-lo)):=
 fY λ_ I a w he _ _ hg=>by
  subst ht;have e:a.eval y=_:=h I a he hg;have e1:a.eval z=_:=h1 I a he hg;have U:(sizeOf E).run P w=.ok sz w:=hE.size;have c1:(lo:Int)<=(n:Int):=by omega
  refine⟨.slice (if cap=lo then some ⟨b,0,none⟩ else some ⟨b,lo*sz,none⟩) (n-lo) (cap-lo),?_,_,_,rfl,?_⟩
  .simp only[execOp,Option.map_some,Option.map_none,e,e1,Instr.sliceAt,Sem.run_bind,run_underlying hT,Result.andThen_ok];simp[Instr.slice,run_underlying hT,Instr.sliceBounds,run_sliceBound,pn,c1,U,sliced,add_plain]
  split
  .exact .inl om
  exact .inr rfl
def Kw {b n cap lo hi sz:Nat} {t t2:Int} {ag:Bool} (hT:P.underlying T=some (.slice E)) (hE:Ty P E ag sz m zv) (h:At Γ g y (.val (.slice (some ⟨b,0,none⟩) n cap))) (h1:At Γ g z (.int t)) (h2:At Γ g z' (.int t2)) (ht:t=lo) (TL:t2=hi) (pn:lo<=hi) (kD:hi<=cap):
 Ok P H Γ g ⟨some d,.slice T y (some z) (some z') none,ty,p,af,gd⟩ (.cut b (lo*sz) (hi-lo)):=
 fY λ_ I a w he _ _ hg=>by
  subst ht TL;have e:a.eval y=_:=h I a he hg;have e1:a.eval z=_:=h1 I a he hg;have e2:a.eval z'=_:=h2 I a he hg;have U:(sizeOf E).run P w=.ok sz w:=hE.size;have c1:(lo:Int)<=(hi:Int):=by omega
  have c2:(hi:Int)<=(cap:Int):=by omega
  refine⟨.slice (if cap=lo then some ⟨b,0,none⟩ else some ⟨b,lo*sz,none⟩) (hi-lo) (cap-lo),?_,_,_,rfl,?_⟩
  .simp only[execOp,Option.map_some,Option.map_none,e,e1,e2,Instr.sliceAt,Sem.run_bind,run_underlying hT,Result.andThen_ok];simp[Instr.slice,run_underlying hT,Instr.sliceBounds,run_sliceBound,pn,kD,c1,c2,U,sliced,add_plain]
  split
  .exact .inl om
  exact .inr rfl
def St.Kx {b i cap o2 m2 sz:Nat} {ag:Bool} {L:List (Option AV)} {xs:List AV} (k:Nat) (U:St c I H Γ a w) (hU:P.underlying T=some (.slice E)) (hE:Ty P E ag sz m zv) (hy:At Γ true y (.val (.slice (some ⟨b,0,none⟩) i cap))) (hz:At Γ true z (.cut b o2 m2)) (hk:H[k]?=some (Own.raw b E L))
 (hx:(L.drop o2).take xs.length=xs.map some) (lD:xs.length=m2*sz) (w6:i+m2<=cap) (jF:i*sz+xs.length<=L.length) (hd:Nat.blt d c.n=true)
 (kk:∀{a' w'},St c I (H.set k (Own.raw b E (over L (i*sz) (xs.map some)))) ((d,.val (.slice (some ⟨b,0,none⟩) (i+m2) cap))::Γ) a' w'->wpList P ops Q rest a' w'):
 wpList P ops Q (⟨some d,.call ⟨.builtin .append,#[y,z],#[T,T]⟩,ty,p,af,none⟩::rest) a w:=by
 have e1:a.eval y=_:=hy I a U.env rfl;obtain⟨q,cc,e2,hq⟩:=hz I a U.env rfl;obtain⟨cs,h2,h3⟩:=DB (U.own.all _ (List.mem_of_getElem? hk)).1 hx;obtain⟨⟨cur,hb,je,nN⟩,_⟩:=U.own.all _ (List.mem_of_getElem? hk);have aR:cs.length=m2*sz:=by rw[h2.length,lD]
 obtain⟨ti,hi,rz,iu,uT⟩:=hE.get;have hr:(Builtin.append_ #[T,T] ty #[.slice (some ⟨b,0,none⟩) i cap,.slice q m2 cc]).run P w=.ok (.slice (some ⟨b,0,none⟩) (i+m2) cap) (w.setRow b (over cur.toList (i*sz) cs).toArray):=by
  rcases hq with rfl|rfl
  .have D6:cs=[]:=List.length_eq_zero_iff.1 (by rw[aR,Nat.zero_mul]);subst D6;have TM:(over cur.toList (i*sz) ([]:List Value)).toArray=cur:=by simp[over]
   rw[TM,setRow_self w b cur E (0,0) hb];have C9:(Builtin.firstCells ti.size 0 (.slice q 0 cc)).run P w=.ok #[] w:=by
    cases q with
    |none=>rfl
    |some qa=>simpa using run_firstCells_some (P:=P) w ti.size 0 qa 0 cc [] bt bt
   have Ky:i<=cap:=by omega
   simp[Builtin.append_,run_underlying hU,sizeOf,typeInfo,hi,Builtin.lenOf,Ky,C9,Addr.add_lit,storeCells]
  have:=run_append_room (P:=P) w T ty E ti hU hi b i cap cur hb ⟨b,o2,none⟩ m2 cc cs (by rw[aR,rz]) h3 h2.one w6 (by rw[rz,aR,<-lD,je];exact jF);rw[rz] at this;exact this
 refine hZ rfl ?_;unfold Oper.wp;simp only[execOp,resolve,invoke,builtin,Sem.run_bind,Sem.run_pure,Result.andThen_ok,List.map_toArray,List.map_cons,List.map_nil,e1,e2,hr];have bM:=U.copied k hk hb je nN h2 jF (o:=i*sz);exact kk (bM.lC bM.step (Im.le_refl _) bM.own hd rfl)
def TO {z:Array Value} {n:Nat} (h:∀u∈z.toList,u.oneCell'=true):∀u∈(Builtin.zeroCells z n).toList,u.oneCell'=true:=λu hu=>by
 unfold Builtin.zeroCells at hu;simp only[Array.toList_map,List.mem_map] at hu;obtain⟨i,hi,rfl⟩:=hu;have hz:0<z.size:=by
  rcases Nat.eq_zero_or_pos z.size with h0|h0
  .simp[h0] at hi
  exact h0
 have cj:i%z.size<z.size:=Nat.mod_lt _ hz;rw[getElem!_pos z _ cj];exact h _ bt
def St.D7 {b o k' sz:Nat} {ag:Bool} {L:List (Option AV)} (k:Nat) (U:St c I H Γ a w) (hU:P.underlying T=some (.slice E)) (hE:Ty P E ag sz m zv) (fe:zv.cells.size=sz) (nI:∀u∈zv.cells.toList,u.oneCell'=true) (hy:At Γ true y (.cut b o k')) (hn:0<k') (hk:H[k]?=some (Own.raw b T' L)) (jF:o+k'*sz<=L.length)
 (kk:∀{a' w'},St c I (H.set k (Own.raw b T' (over L o ((List.replicate (k'*sz) AV.any).map some)))) Γ a' w'->wpList P ops Q rest a' w'):
 wpList P ops Q (⟨none,.call ⟨.builtin .clear,#[y],#[T]⟩,ty,p,af,none⟩::rest) a w:=by
 obtain⟨q,cc,e2,hq⟩:=hy I a U.env rfl;obtain rfl:=hq.resolve_left om;obtain⟨⟨cur,hb,je,nN⟩,_⟩:=U.own.all _ (List.mem_of_getElem? hk);obtain⟨ti,hi,rz,iu,uT⟩:=hE.get;have ma:(Builtin.zeroCells zv.cells k').toList.length=k'*sz:=by rw[Array.length_toList,size_zeroCells,fe]
 have h1:=TO (n:=k') nI;have hh:bm I (List.replicate (k'*sz) AV.any) (Builtin.zeroCells zv.cells k').toList:=by
  refine z1 (by rw[ma,List.length_replicate]) λi x hx=>?_;have iG:i<k'*sz:=by have:=(List.getElem?_eq_some_iff.1 hx).1;simpa using this
  rw[List.getElem?_replicate,if_pos iG] at hx;cases hx;have TP:i<(Builtin.zeroCells zv.cells k').toList.length:=by rw[ma];exact iG
  exact⟨_,List.getElem?_eq_getElem TP,trivial,h1 _ (List.getElem_mem _)⟩
 have bX:=run_storeCells_at P b o T' (Builtin.zeroCells zv.cells k').toList 0 cur w hb (by rw[ma,je];simpa using jF) h1;simp only[Nat.add_zero] at bX;have TQ:(zeroValue E).run P w=.ok zv w:=by simp[zeroValue,typeInfo,hi,uT]
 have hr:(Builtin.clear_ #[T] ty #[.slice (some ⟨b,o,none⟩) k' cc]).run P w=.ok (.tuple #[]) (w.setRow b (over cur.toList o (Builtin.zeroCells zv.cells k').toList).toArray):=by
  obtain⟨j,rfl⟩:∃j,k'=j+1:=⟨k'-1,by omega⟩;simp[Builtin.clear_,run_underlying hU,TQ,bX,over]
 refine hZ rfl ?_;unfold Oper.wp;simp only[execOp,resolve,invoke,builtin,Sem.run_bind,Sem.run_pure,Result.andThen_ok,List.map_toArray,List.map_cons,List.map_nil,e2,hr];exact kk (U.copied k hk hb je nN hh (by rw[List.length_replicate];exact jF) (o:=o))
def xH (P:Program) (fv:AV) (args:List AV) (h0:List Own) (res:AV):Prop:=
 ∀(I:Im) (w:World) (v:Value) (vs:Array Value),dx w I->fv.h I v->bO (dz h0) I w h0->cP I args vs.toList->
  ∃f first fZ,v=.func (.func f) first fZ/\nG P f/\Calls P f (first++vs++fZ) w (po ⟨w,I,0,dz h0⟩ (λ_:Unit=>True) (λ_=>h0) (λ_=>res))
def fQ.val {f:FuncId} {args fZ:List AV} {h0:List Own} {res:AV} (h:fQ P f (args++fZ) h0 h0 res):xH P (.fn f fZ) args h0 res:=λI w v vs hm ⟨cs,e,hc⟩ ho ha=>
 ⟨f,#[],cs,e,h.1,h.2 I w (#[]++vs++cs) hm ho (by simpa using ha.append hc)⟩
def Step.TR {F:Nat->Prop} {I':Im} {w':World} (h:Step I w I' w'):eF F I w I' w':=
 ⟨h.le,λb hb _=>h.fL b hb,h.cX,⟨h.below.os,h.below.tape,h.below.output,h.below.size,λk hk _=>h.below.block k hk⟩⟩
def jZ.frame {fv:AV} {args:List AV} {h0:List Own} {res:AV} (h:jZ P fv args res):xH P fv args h0 res:=λI w v vs hm hf ho ha=>
 let⟨f,first,fZ,e,sS,hc⟩:=h I w v vs hm hf ha
 ⟨f,first,fZ,e,sS,hc.mono λe w' he=>by
   cases e with
   |panicked _=>exact he.elim
   |outgrown=>exact he.elim
   |returned u=>
    obtain⟨I',U,hx⟩:=he
    exact⟨(),I',trivial,U.TR,(ho.step U).weaken λb hb=>Or.inr hb,hx⟩⟩
def St.Kz {fv res:AV} {ys:Array Operand} {ts:Array TypeId} {xs:List AV} {h0:List Own} (ks:List Nat) (U:St c I H Γ a w) (hf:xH P fv xs h0 res) (hy:At Γ true y fv) (hO:∀I a,cM I a Γ->true=true->cP I xs (ys.map a.eval).toList) (gK:ks.map (λk=>H[k]?)=h0.map some) (dU:decide ks.Nodup=true) (hd:Nat.blt d c.n=true)
 (k:∀I' a' w',St c I' (fill (hole H ks) ks h0) ((d,res)::Γ) a' w'->wpList P ops Q rest a' w'):wpList P ops Q (⟨some d,.call ⟨.value y,ys,ts⟩,ty,p,af,none⟩::rest) a w:=by
 have dU:=of_decide_eq_true dU;have dN:bO (dz h0) I w h0:=(U.own.pick gK dU).exact;obtain⟨f,first,fZ,e,sS,hc⟩:=hf I w (a.eval y) (ys.map a.eval) U.step.cX (hy I a U.env rfl) dN (hO I a U.env rfl);refine hZ rfl ?_;unfold Oper.wp;have hr:(execOp a.eval (⟨some d,.call ⟨.value y,ys,ts⟩,ty,p,af,none⟩:Oper)).run P w=.ok (.enter f (first++ys.map a.eval++fZ)) w:=by
  simp only[execOp,resolve,Deferred.ofValue,e,Sem.run_bind,Sem.run_pure,Result.andThen_ok,invoke,sS _ w]
 rw[hr,Oper.upon_enter];refine Calls.mono hc λe w' he=>?_;cases e with
 |panicked _=>exact he.elim
 |outgrown=>exact he.elim
 |returned v=>
  obtain⟨x,I',_,bX,ho,hv⟩:=he
  exact k I' _ w' (U.xu (h1:=λ_:Unit=>h0) (res:=λ_=>res) (x:=()) ks gK dU bX ho hv hd)
end
def KA {α:Type} {L X:List α} {o:Nat} (h:o<=L.length):(over L o X).take o=L.take o:=by
 unfold over;rw[List.append_assoc];exact List.take_left' fK
def KB {l:List (List AV)} {sz i:Nat} {R Y:List (Option AV)} (dP:∀r∈l,r.length=sz) (hi:i<l.length):
 (over (over (l.flatten.map some++R) (i*sz) ((l.drop (i+1)).flatten.map some)) ((i+(l.length-(i+1)))*sz) Y).take ((l.take i++l.drop (i+1)).length*sz)=(l.take i++l.drop (i+1)).flatten.map some:=by
 have hA:(l.take i).flatten.length=i*sz:=by rw[fM λr hr=>dP r (List.mem_of_mem_take hr),List.length_take,Nat.min_eq_left om]
 have hB:(l.drop (i+1)).flatten.length=(l.length-(i+1))*sz:=by rw[fM λr hr=>dP r (List.mem_of_mem_drop hr),List.length_drop]
 have hF:l.flatten.length=l.length*sz:=fM dP;have hlen:(l.take i++l.drop (i+1)).length=i+(l.length-(i+1)):=by simp;omega
 have hm:(i+(l.length-(i+1)))*sz=i*sz+(l.length-(i+1))*sz:=Nat.add_mul _ _ _;have hle:i*sz+(l.length-(i+1))*sz<=l.length*sz:=by rw[<-Nat.add_mul];exact Nat.mul_le_mul_right _ om
 rw[hlen,KA]
 .unfold over;have h1:(l.flatten.map some++R).take (i*sz)=(l.take i).flatten.map some:=by
   have e:l.flatten=(l.take i).flatten++(l.drop i).flatten:=by rw[<-List.flatten_append,List.take_append_drop]
   rw[e,List.map_append,List.append_assoc];exact List.take_left' (by rw[List.length_map,hA])
  rw[h1,hm,<-List.map_append,<-List.flatten_append];exact List.take_left' (by rw[List.length_map,List.flatten_append,List.length_append,hA,hB])
 rw[jR]<;>simp only[List.length_append,List.length_map,hF,hB]<;>omega
end Go.Proofs.YtldbakcpcfdlaaaGreat

/- Part 15: rules of the proofs, contracts of functions, plain facts. -/
import Derived.Test.YtoeioeimmfpefaaGreatProg
import Derived.Test.YtoeioeimmfpefaaGreatP14
set_option linter.unusedVariables false
set_option linter.unusedSimpArgs false
set_option maxRecDepth 100000
namespace Go.Proofs.YtoeioeimmfpefaaGreat
open Go Go.RowKit
instance OD:dM Tryz.prog 3 false 1 8 (.int .i64 0):=⟨by kernel_rfl,by kernel_rfl⟩
theorem fT:Ty Tryz.prog 3 false 1 8 (.int .i64 0):=OD.h
theorem qS:∀u∈(Value.cells (.int .i64 0)).toList,u.oneCell'=true:=by simp[Value.cells,Value.oneCell']
instance OE:dM Tryz.prog 4 false 1 1 (.bool false):=⟨by kernel_rfl,by kernel_rfl⟩
theorem v5:Ty Tryz.prog 4 false 1 1 (.bool false):=OE.h
theorem OF:∀I,bD I [AV.val (.bool false)] (Value.cells (.bool false)).toList:=fun _=>⟨⟨rfl,rfl⟩,trivial⟩
instance OG:dM Tryz.prog 5 false 1 1 (.int .u8 0):=⟨by kernel_rfl,by kernel_rfl⟩
theorem sw:Ty Tryz.prog 5 false 1 1 (.int .u8 0):=OG.h
instance ZZ:dM Tryz.prog 22 false 1 24 (.slice none 0 0):=⟨by kernel_rfl,by kernel_rfl⟩
instance Z0:dM Tryz.prog 23 false 1 24 (.slice none 0 0):=⟨by kernel_rfl,by kernel_rfl⟩
instance OH:dM Tryz.prog 24 false 1 24 (.slice none 0 0):=⟨by kernel_rfl,by kernel_rfl⟩
theorem BU:Ty Tryz.prog 24 false 1 24 (.slice none 0 0):=OH.h
instance Z1:dM Tryz.prog 25 false 1 24 (.slice none 0 0):=⟨by kernel_rfl,by kernel_rfl⟩
instance Z2:dM Tryz.prog 26 false 1 24 (.slice none 0 0):=⟨by kernel_rfl,by kernel_rfl⟩
instance OI:dM Tryz.prog 28 true 5 104 (.agg #[.int .i64 0,.slice none 0 0,.slice none 0 0,.slice none 0 0,.slice none 0 0]):=⟨by kernel_rfl,by kernel_rfl⟩
theorem cG:Ty Tryz.prog 28 true 5 104 (.agg #[.int .i64 0,.slice none 0 0,.slice none 0 0,.slice none 0 0,.slice none 0 0]):=OI.h
theorem g9:∀I,bD I [AV.val (.int .i64 0),AV.rows 7 [],AV.rows 15 [],AV.rows 13 [],AV.rows 1 []] (Value.cells (.agg #[.int .i64 0,.slice none 0 0,.slice none 0 0,.slice none 0 0,.slice none 0 0])).toList:=fun _=>⟨⟨rfl,rfl⟩,⟨eb _ _,rfl⟩,⟨eb _ _,rfl⟩,⟨eb _ _,rfl⟩,⟨eb _ _,rfl⟩,trivial⟩
theorem tT:∀I,bD I [AV.val (.int .i64 0),AV.val (.slice none 0 0),AV.val (.slice none 0 0),AV.val (.slice none 0 0),AV.val (.slice none 0 0)] (Value.cells (.agg #[.int .i64 0,.slice none 0 0,.slice none 0 0,.slice none 0 0,.slice none 0 0])).toList:=fun _=>⟨⟨rfl,rfl⟩,⟨rfl,rfl⟩,⟨rfl,rfl⟩,⟨rfl,rfl⟩,⟨rfl,rfl⟩,trivial⟩
instance Z3:lX Tryz.prog 28:=⟨by kernel_rfl⟩
instance Z4:dM Tryz.prog 33 false 1 24 (.slice none 0 0):=⟨by kernel_rfl,by kernel_rfl⟩
instance OJ:dM Tryz.prog 36 false 1 24 (.slice none 0 0):=⟨by kernel_rfl,by kernel_rfl⟩
theorem OK:Ty Tryz.prog 36 false 1 24 (.slice none 0 0):=OJ.h
instance OL:dM Tryz.prog 39 true 11 88 (.agg #[.int .i64 0,.int .i64 0,.int .i64 0,.int .i64 0,.int .i64 0,.int .i64 0,.int .i64 0,.int .i64 0,.int .i64 0,.int .i64 0,.int .i64 0]):=⟨by kernel_rfl,by kernel_rfl⟩
theorem oz:Ty Tryz.prog 39 true 11 88 (.agg #[.int .i64 0,.int .i64 0,.int .i64 0,.int .i64 0,.int .i64 0,.int .i64 0,.int .i64 0,.int .i64 0,.int .i64 0,.int .i64 0,.int .i64 0]):=OL.h
theorem jb:∀I,bD I [AV.val (.int .i64 0),AV.val (.int .i64 0),AV.val (.int .i64 0),AV.val (.int .i64 0),AV.val (.int .i64 0),AV.val (.int .i64 0),AV.val (.int .i64 0),AV.val (.int .i64 0),AV.val (.int .i64 0),AV.val (.int .i64 0),AV.val (.int .i64 0)] (Value.cells (.agg #[.int .i64 0,.int .i64 0,.int .i64 0,.int .i64 0,.int .i64 0,.int .i64 0,.int .i64 0,.int .i64 0,.int .i64 0,.int .i64 0,.int .i64 0])).toList:=fun _=>⟨⟨rfl,rfl⟩,⟨rfl,rfl⟩,⟨rfl,rfl⟩,⟨rfl,rfl⟩,⟨rfl,rfl⟩,⟨rfl,rfl⟩,⟨rfl,rfl⟩,⟨rfl,rfl⟩,⟨rfl,rfl⟩,⟨rfl,rfl⟩,⟨rfl,rfl⟩,trivial⟩
theorem OM:∀u∈(Value.cells (.agg #[.int .i64 0,.int .i64 0,.int .i64 0,.int .i64 0,.int .i64 0,.int .i64 0,.int .i64 0,.int .i64 0,.int .i64 0,.int .i64 0,.int .i64 0])).toList,u.oneCell'=true:=by simp[Value.cells,Value.oneCell']
instance Z5:lX Tryz.prog 39:=⟨by kernel_rfl⟩
instance Z6:dM Tryz.prog 41 false 1 24 (.slice none 0 0):=⟨by kernel_rfl,by kernel_rfl⟩
instance ON:dM Tryz.prog 42 false 1 24 (.slice none 0 0):=⟨by kernel_rfl,by kernel_rfl⟩
theorem kr:Ty Tryz.prog 42 false 1 24 (.slice none 0 0):=ON.h
theorem OO:∀I,bD I [AV.rows 3 []] (Value.cells (.slice none 0 0)).toList:=fun _=>⟨⟨eb _ _,rfl⟩,trivial⟩
theorem BV:∀u∈(Value.cells (.slice none 0 0)).toList,u.oneCell'=true:=by simp[Value.cells,Value.oneCell']
instance OP:dM Tryz.prog 44 true 7 136 (.agg #[.int .i64 0,.bool false,.slice none 0 0,.slice none 0 0,.slice none 0 0,.slice none 0 0,.slice none 0 0]):=⟨by kernel_rfl,by kernel_rfl⟩
theorem ba:Ty Tryz.prog 44 true 7 136 (.agg #[.int .i64 0,.bool false,.slice none 0 0,.slice none 0 0,.slice none 0 0,.slice none 0 0,.slice none 0 0]):=OP.h
theorem df:∀I,bD I [AV.val (.int .i64 0),AV.val (.bool false),AV.rows 2 [],AV.rows 7 [],AV.rows 7 [],AV.rows 3 [],AV.rows 3 []] (Value.cells (.agg #[.int .i64 0,.bool false,.slice none 0 0,.slice none 0 0,.slice none 0 0,.slice none 0 0,.slice none 0 0])).toList:=fun _=>⟨⟨rfl,rfl⟩,⟨rfl,rfl⟩,⟨eb _ _,rfl⟩,⟨eb _ _,rfl⟩,⟨eb _ _,rfl⟩,⟨eb _ _,rfl⟩,⟨eb _ _,rfl⟩,trivial⟩
theorem ym:∀I,bD I [AV.val (.int .i64 0),AV.val (.bool false),AV.val (.slice none 0 0),AV.val (.slice none 0 0),AV.val (.slice none 0 0),AV.val (.slice none 0 0),AV.val (.slice none 0 0)] (Value.cells (.agg #[.int .i64 0,.bool false,.slice none 0 0,.slice none 0 0,.slice none 0 0,.slice none 0 0,.slice none 0 0])).toList:=fun _=>⟨⟨rfl,rfl⟩,⟨rfl,rfl⟩,⟨rfl,rfl⟩,⟨rfl,rfl⟩,⟨rfl,rfl⟩,⟨rfl,rfl⟩,⟨rfl,rfl⟩,trivial⟩
theorem yn:∀u∈(Value.cells (.agg #[.int .i64 0,.bool false,.slice none 0 0,.slice none 0 0,.slice none 0 0,.slice none 0 0,.slice none 0 0])).toList,u.oneCell'=true:=by simp[Value.cells,Value.oneCell']
instance Z7:lX Tryz.prog 44:=⟨by kernel_rfl⟩
instance Z8:dM Tryz.prog 46 false 1 24 (.slice none 0 0):=⟨by kernel_rfl,by kernel_rfl⟩
instance OQ:dM Tryz.prog 48 true 2 16 (.agg #[.int .i64 0,.int .i64 0]):=⟨by kernel_rfl,by kernel_rfl⟩
theorem gj:Ty Tryz.prog 48 true 2 16 (.agg #[.int .i64 0,.int .i64 0]):=OQ.h
theorem iC:∀I,bD I [AV.val (.int .i64 0),AV.val (.int .i64 0)] (Value.cells (.agg #[.int .i64 0,.int .i64 0])).toList:=fun _=>⟨⟨rfl,rfl⟩,⟨rfl,rfl⟩,trivial⟩
theorem yo:∀u∈(Value.cells (.agg #[.int .i64 0,.int .i64 0])).toList,u.oneCell'=true:=by simp[Value.cells,Value.oneCell']
instance Z9:lX Tryz.prog 48:=⟨by kernel_rfl⟩
instance aaa:dM Tryz.prog 49 false 1 24 (.slice none 0 0):=⟨by kernel_rfl,by kernel_rfl⟩
instance OR:dM Tryz.prog 51 true 13 168 (.agg #[.int .i64 0,.int .i64 0,.int .i64 0,.slice none 0 0,.int .i64 0,.slice none 0 0,.int .i64 0,.int .i64 0,.bool false,.int .i64 0,.int .i64 0,.slice none 0 0,.slice none 0 0]):=⟨by kernel_rfl,by kernel_rfl⟩
theorem cy:Ty Tryz.prog 51 true 13 168 (.agg #[.int .i64 0,.int .i64 0,.int .i64 0,.slice none 0 0,.int .i64 0,.slice none 0 0,.int .i64 0,.int .i64 0,.bool false,.int .i64 0,.int .i64 0,.slice none 0 0,.slice none 0 0]):=OR.h
theorem iP:∀I,bD I [AV.val (.int .i64 0),AV.val (.int .i64 0),AV.val (.int .i64 0),AV.rows 1 [],AV.val (.int .i64 0),AV.rows 3 [],AV.val (.int .i64 0),AV.val (.int .i64 0),AV.val (.bool false),AV.val (.int .i64 0),AV.val (.int .i64 0),AV.rows 9 [],AV.rows 3 []] (Value.cells (.agg #[.int .i64 0,.int .i64 0,.int .i64 0,.slice none 0 0,.int .i64 0,.slice none 0 0,.int .i64 0,.int .i64 0,.bool false,.int .i64 0,.int .i64 0,.slice none 0 0,.slice none 0 0])).toList:=fun _=>⟨⟨rfl,rfl⟩,⟨rfl,rfl⟩,⟨rfl,rfl⟩,⟨eb _ _,rfl⟩,⟨rfl,rfl⟩,⟨eb _ _,rfl⟩,⟨rfl,rfl⟩,⟨rfl,rfl⟩,⟨rfl,rfl⟩,⟨rfl,rfl⟩,⟨rfl,rfl⟩,⟨eb _ _,rfl⟩,⟨eb _ _,rfl⟩,trivial⟩
theorem yp:∀u∈(Value.cells (.agg #[.int .i64 0,.int .i64 0,.int .i64 0,.slice none 0 0,.int .i64 0,.slice none 0 0,.int .i64 0,.int .i64 0,.bool false,.int .i64 0,.int .i64 0,.slice none 0 0,.slice none 0 0])).toList,u.oneCell'=true:=by simp[Value.cells,Value.oneCell']
instance aab:lX Tryz.prog 51:=⟨by kernel_rfl⟩
instance aac:dM Tryz.prog 59 false 1 8 (.pointer none):=⟨by kernel_rfl,by kernel_rfl⟩
instance aad:dM Tryz.prog 62 true 7 136 (.agg #[.pointer none,.int .i64 0,.slice none 0 0,.slice none 0 0,.slice none 0 0,.slice none 0 0,.slice none 0 0]):=⟨by kernel_rfl,by kernel_rfl⟩
theorem OS:∀I,bD I [AV.val (.pointer none),AV.val (.int .i64 0),AV.val (.slice none 0 0),AV.val (.slice none 0 0),AV.val (.slice none 0 0),AV.val (.slice none 0 0),AV.val (.slice none 0 0)] (Value.cells (.agg #[.pointer none,.int .i64 0,.slice none 0 0,.slice none 0 0,.slice none 0 0,.slice none 0 0,.slice none 0 0])).toList:=fun _=>⟨⟨rfl,rfl⟩,⟨rfl,rfl⟩,⟨rfl,rfl⟩,⟨rfl,rfl⟩,⟨rfl,rfl⟩,⟨rfl,rfl⟩,⟨rfl,rfl⟩,trivial⟩
instance aae:lX Tryz.prog 62:=⟨by kernel_rfl⟩
instance OT:dM Tryz.prog 74 true 15 184 (.agg #[.int .i64 0,.int .i64 0,.int .i64 0,.int .i64 0,.int .i64 0,.int .i64 0,.int .i64 0,.int .i64 0,.bool false,.slice none 0 0,.int .i64 0,.int .i64 0,.slice none 0 0,.slice none 0 0,.slice none 0 0]):=⟨by kernel_rfl,by kernel_rfl⟩
theorem cj:Ty Tryz.prog 74 true 15 184 (.agg #[.int .i64 0,.int .i64 0,.int .i64 0,.int .i64 0,.int .i64 0,.int .i64 0,.int .i64 0,.int .i64 0,.bool false,.slice none 0 0,.int .i64 0,.int .i64 0,.slice none 0 0,.slice none 0 0,.slice none 0 0]):=OT.h
theorem dB:∀I,bD I [AV.val (.int .i64 0),AV.val (.int .i64 0),AV.val (.int .i64 0),AV.val (.int .i64 0),AV.val (.int .i64 0),AV.val (.int .i64 0),AV.val (.int .i64 0),AV.val (.int .i64 0),AV.val (.bool false),AV.rows 3 [],AV.val (.int .i64 0),AV.val (.int .i64 0),AV.rows 7 [],AV.rows 7 [],AV.rows 3 []] (Value.cells (.agg #[.int .i64 0,.int .i64 0,.int .i64 0,.int .i64 0,.int .i64 0,.int .i64 0,.int .i64 0,.int .i64 0,.bool false,.slice none 0 0,.int .i64 0,.int .i64 0,.slice none 0 0,.slice none 0 0,.slice none 0 0])).toList:=fun _=>⟨⟨rfl,rfl⟩,⟨rfl,rfl⟩,⟨rfl,rfl⟩,⟨rfl,rfl⟩,⟨rfl,rfl⟩,⟨rfl,rfl⟩,⟨rfl,rfl⟩,⟨rfl,rfl⟩,⟨rfl,rfl⟩,⟨eb _ _,rfl⟩,⟨rfl,rfl⟩,⟨rfl,rfl⟩,⟨eb _ _,rfl⟩,⟨eb _ _,rfl⟩,⟨eb _ _,rfl⟩,trivial⟩
theorem OU:∀I,bD I [AV.val (.int .i64 0),AV.val (.int .i64 0),AV.val (.int .i64 0),AV.val (.int .i64 0),AV.val (.int .i64 0),AV.val (.int .i64 0),AV.val (.int .i64 0),AV.val (.int .i64 0),AV.val (.bool false),AV.val (.slice none 0 0),AV.val (.int .i64 0),AV.val (.int .i64 0),AV.val (.slice none 0 0),AV.val (.slice none 0 0),AV.val (.slice none 0 0)] (Value.cells (.agg #[.int .i64 0,.int .i64 0,.int .i64 0,.int .i64 0,.int .i64 0,.int .i64 0,.int .i64 0,.int .i64 0,.bool false,.slice none 0 0,.int .i64 0,.int .i64 0,.slice none 0 0,.slice none 0 0,.slice none 0 0])).toList:=fun _=>⟨⟨rfl,rfl⟩,⟨rfl,rfl⟩,⟨rfl,rfl⟩,⟨rfl,rfl⟩,⟨rfl,rfl⟩,⟨rfl,rfl⟩,⟨rfl,rfl⟩,⟨rfl,rfl⟩,⟨rfl,rfl⟩,⟨rfl,rfl⟩,⟨rfl,rfl⟩,⟨rfl,rfl⟩,⟨rfl,rfl⟩,⟨rfl,rfl⟩,⟨rfl,rfl⟩,trivial⟩
theorem fF:∀u∈(Value.cells (.agg #[.int .i64 0,.int .i64 0,.int .i64 0,.int .i64 0,.int .i64 0,.int .i64 0,.int .i64 0,.int .i64 0,.bool false,.slice none 0 0,.int .i64 0,.int .i64 0,.slice none 0 0,.slice none 0 0,.slice none 0 0])).toList,u.oneCell'=true:=by simp[Value.cells,Value.oneCell']
instance aaf:lX Tryz.prog 74:=⟨by kernel_rfl⟩
instance OV:dM Tryz.prog 86 true 2 16 (.agg #[.int .i64 0,.int .i64 0]):=⟨by kernel_rfl,by kernel_rfl⟩
theorem dz:Ty Tryz.prog 86 true 2 16 (.agg #[.int .i64 0,.int .i64 0]):=OV.h
theorem lZ:∀I,bD I [AV.val (.int .i64 0),AV.val (.int .i64 0)] (Value.cells (.agg #[.int .i64 0,.int .i64 0])).toList:=fun _=>⟨⟨rfl,rfl⟩,⟨rfl,rfl⟩,trivial⟩
theorem yq:∀u∈(Value.cells (.agg #[.int .i64 0,.int .i64 0])).toList,u.oneCell'=true:=by simp[Value.cells,Value.oneCell']
instance aag:lX Tryz.prog 86:=⟨by kernel_rfl⟩
instance aah:dM Tryz.prog 88 true 2 32 (.agg #[.slice none 0 0,.int .i64 0]):=⟨by kernel_rfl,by kernel_rfl⟩
theorem OW:∀I,bD I [AV.rows 1 [],AV.val (.int .i64 0)] (Value.cells (.agg #[.slice none 0 0,.int .i64 0])).toList:=fun _=>⟨⟨eb _ _,rfl⟩,⟨rfl,rfl⟩,trivial⟩
instance aai:lX Tryz.prog 88:=⟨by kernel_rfl⟩
instance OX:dM Tryz.prog 97 true 3 24 (.agg #[.int .i64 0,.int .i64 0,.int .i64 0]):=⟨by kernel_rfl,by kernel_rfl⟩
theorem bk:Ty Tryz.prog 97 true 3 24 (.agg #[.int .i64 0,.int .i64 0,.int .i64 0]):=OX.h
theorem eV:∀I,bD I [AV.val (.int .i64 0),AV.val (.int .i64 0),AV.val (.int .i64 0)] (Value.cells (.agg #[.int .i64 0,.int .i64 0,.int .i64 0])).toList:=fun _=>⟨⟨rfl,rfl⟩,⟨rfl,rfl⟩,⟨rfl,rfl⟩,trivial⟩
theorem fU:∀u∈(Value.cells (.agg #[.int .i64 0,.int .i64 0,.int .i64 0])).toList,u.oneCell'=true:=by simp[Value.cells,Value.oneCell']
instance aaj:lX Tryz.prog 97:=⟨by kernel_rfl⟩
instance OY:dM Tryz.prog 100 true 7 72 (.agg #[.int .i64 0,.int .i64 0,.int .i64 0,.int .i64 0,.int .i64 0,.int .i64 0,.slice none 0 0]):=⟨by kernel_rfl,by kernel_rfl⟩
theorem bt:Ty Tryz.prog 100 true 7 72 (.agg #[.int .i64 0,.int .i64 0,.int .i64 0,.int .i64 0,.int .i64 0,.int .i64 0,.slice none 0 0]):=OY.h
theorem dO:∀I,bD I [AV.val (.int .i64 0),AV.val (.int .i64 0),AV.val (.int .i64 0),AV.val (.int .i64 0),AV.val (.int .i64 0),AV.val (.int .i64 0),AV.rows 3 []] (Value.cells (.agg #[.int .i64 0,.int .i64 0,.int .i64 0,.int .i64 0,.int .i64 0,.int .i64 0,.slice none 0 0])).toList:=fun _=>⟨⟨rfl,rfl⟩,⟨rfl,rfl⟩,⟨rfl,rfl⟩,⟨rfl,rfl⟩,⟨rfl,rfl⟩,⟨rfl,rfl⟩,⟨eb _ _,rfl⟩,trivial⟩
theorem jD:∀u∈(Value.cells (.agg #[.int .i64 0,.int .i64 0,.int .i64 0,.int .i64 0,.int .i64 0,.int .i64 0,.slice none 0 0])).toList,u.oneCell'=true:=by simp[Value.cells,Value.oneCell']
instance aak:lX Tryz.prog 100:=⟨by kernel_rfl⟩
instance OZ:dM Tryz.prog 121 true 9 88 (.agg #[.int .i64 0,.bool false,.int .i64 0,.int .i64 0,.int .i64 0,.int .i64 0,.int .i64 0,.int .i64 0,.slice none 0 0]):=⟨by kernel_rfl,by kernel_rfl⟩
theorem dC:Ty Tryz.prog 121 true 9 88 (.agg #[.int .i64 0,.bool false,.int .i64 0,.int .i64 0,.int .i64 0,.int .i64 0,.int .i64 0,.int .i64 0,.slice none 0 0]):=OZ.h
theorem mL:∀I,bD I [AV.val (.int .i64 0),AV.val (.bool false),AV.val (.int .i64 0),AV.val (.int .i64 0),AV.val (.int .i64 0),AV.val (.int .i64 0),AV.val (.int .i64 0),AV.val (.int .i64 0),AV.rows 3 []] (Value.cells (.agg #[.int .i64 0,.bool false,.int .i64 0,.int .i64 0,.int .i64 0,.int .i64 0,.int .i64 0,.int .i64 0,.slice none 0 0])).toList:=fun _=>⟨⟨rfl,rfl⟩,⟨rfl,rfl⟩,⟨rfl,rfl⟩,⟨rfl,rfl⟩,⟨rfl,rfl⟩,⟨rfl,rfl⟩,⟨rfl,rfl⟩,⟨rfl,rfl⟩,⟨eb _ _,rfl⟩,trivial⟩
theorem qT:∀u∈(Value.cells (.agg #[.int .i64 0,.bool false,.int .i64 0,.int .i64 0,.int .i64 0,.int .i64 0,.int .i64 0,.int .i64 0,.slice none 0 0])).toList,u.oneCell'=true:=by simp[Value.cells,Value.oneCell']
instance aal:lX Tryz.prog 121:=⟨by kernel_rfl⟩
instance O0:iz Tryz.prog 3 (.int .i64):=⟨by kernel_rfl⟩
theorem nA:Tryz.prog.underlying 3=some (.int .i64):=O0.h
instance O1:iz Tryz.prog 22 (.slice 5):=⟨by kernel_rfl⟩
theorem sx:Tryz.prog.underlying 22=some (.slice 5):=O1.h
instance O2:iz Tryz.prog 23 (.slice 44):=⟨by kernel_rfl⟩
theorem kt:Tryz.prog.underlying 23=some (.slice 44):=O2.h
instance O3:iz Tryz.prog 24 (.slice 74):=⟨by kernel_rfl⟩
theorem dh:Tryz.prog.underlying 24=some (.slice 74):=O3.h
instance O4:iz Tryz.prog 25 (.slice 51):=⟨by kernel_rfl⟩
theorem iD:Tryz.prog.underlying 25=some (.slice 51):=O4.h
instance O5:iz Tryz.prog 26 (.slice 42):=⟨by kernel_rfl⟩
theorem nB:Tryz.prog.underlying 26=some (.slice 42):=O5.h
instance O6:iz Tryz.prog 33 (.slice 100):=⟨by kernel_rfl⟩
theorem cM:Tryz.prog.underlying 33=some (.slice 100):=O6.h
instance O7:iz Tryz.prog 36 (.slice 39):=⟨by kernel_rfl⟩
theorem sB:Tryz.prog.underlying 36=some (.slice 39):=O7.h
instance O8:iz Tryz.prog 41 (.slice 86):=⟨by kernel_rfl⟩
theorem ea:Tryz.prog.underlying 41=some (.slice 86):=O8.h
instance O9:iz Tryz.prog 42 (.slice 97):=⟨by kernel_rfl⟩
theorem bA:Tryz.prog.underlying 42=some (.slice 97):=O9.h
instance Pa:iz Tryz.prog 46 (.slice 3):=⟨by kernel_rfl⟩
theorem il:Tryz.prog.underlying 46=some (.slice 3):=Pa.h
instance Pb:iz Tryz.prog 49 (.slice 121):=⟨by kernel_rfl⟩
theorem ef:Tryz.prog.underlying 49=some (.slice 121):=Pb.h
instance Pc:iz Tryz.prog 108 (.map 3 3):=⟨by kernel_rfl⟩
theorem Pd:Tryz.prog.underlying 108=some (.map 3 3):=Pc.h
instance Pe:iz Tryz.prog 188 (.slice 48):=⟨by kernel_rfl⟩
theorem v8:Tryz.prog.underlying 188=some (.slice 48):=Pe.h
instance aam:cw Tryz.prog 28 0 0 1:=⟨by unfold cn;kernel_rfl⟩
instance aan:cV Tryz.prog 28 0 0 1:=⟨by unfold cA;kernel_rfl⟩
instance aao:cw Tryz.prog 28 1 1 1:=⟨by unfold cn;kernel_rfl⟩
instance aap:cw Tryz.prog 28 2 2 1:=⟨by unfold cn;kernel_rfl⟩
instance Pf:cV Tryz.prog 28 2 2 1:=⟨by unfold cA;kernel_rfl⟩
theorem Pg:cA Tryz.prog 28 2=some (2,1):=Pf.h
instance aaq:cw Tryz.prog 28 3 3 1:=⟨by unfold cn;kernel_rfl⟩
instance aar:cw Tryz.prog 28 4 4 1:=⟨by unfold cn;kernel_rfl⟩
instance aas:cV Tryz.prog 28 4 4 1:=⟨by unfold cA;kernel_rfl⟩
instance aat:cw Tryz.prog 39 0 0 1:=⟨by unfold cn;kernel_rfl⟩
instance aau:cV Tryz.prog 39 0 0 1:=⟨by unfold cA;kernel_rfl⟩
instance aav:cw Tryz.prog 39 1 1 1:=⟨by unfold cn;kernel_rfl⟩
instance aaw:cV Tryz.prog 39 1 1 1:=⟨by unfold cA;kernel_rfl⟩
instance aax:cw Tryz.prog 39 2 2 1:=⟨by unfold cn;kernel_rfl⟩
instance aay:cV Tryz.prog 39 2 2 1:=⟨by unfold cA;kernel_rfl⟩
instance aaz:cw Tryz.prog 39 3 3 1:=⟨by unfold cn;kernel_rfl⟩
instance aaA:cV Tryz.prog 39 3 3 1:=⟨by unfold cA;kernel_rfl⟩
instance aaB:cw Tryz.prog 39 4 4 1:=⟨by unfold cn;kernel_rfl⟩
instance aaC:cV Tryz.prog 39 4 4 1:=⟨by unfold cA;kernel_rfl⟩
instance aaD:cw Tryz.prog 39 5 5 1:=⟨by unfold cn;kernel_rfl⟩
instance aaE:cV Tryz.prog 39 5 5 1:=⟨by unfold cA;kernel_rfl⟩
instance aaF:cw Tryz.prog 39 6 6 1:=⟨by unfold cn;kernel_rfl⟩
instance aaG:cV Tryz.prog 39 6 6 1:=⟨by unfold cA;kernel_rfl⟩
instance aaH:cw Tryz.prog 39 7 7 1:=⟨by unfold cn;kernel_rfl⟩
instance aaI:cV Tryz.prog 39 7 7 1:=⟨by unfold cA;kernel_rfl⟩
instance aaJ:cw Tryz.prog 39 8 8 1:=⟨by unfold cn;kernel_rfl⟩
instance aaK:cw Tryz.prog 39 9 9 1:=⟨by unfold cn;kernel_rfl⟩
instance aaL:cw Tryz.prog 39 10 10 1:=⟨by unfold cn;kernel_rfl⟩
instance aaM:cV Tryz.prog 39 10 10 1:=⟨by unfold cA;kernel_rfl⟩
instance aaN:cw Tryz.prog 44 0 0 1:=⟨by unfold cn;kernel_rfl⟩
instance aaO:cV Tryz.prog 44 0 0 1:=⟨by unfold cA;kernel_rfl⟩
instance aaP:cw Tryz.prog 44 1 1 1:=⟨by unfold cn;kernel_rfl⟩
instance aaQ:cV Tryz.prog 44 1 1 1:=⟨by unfold cA;kernel_rfl⟩
instance aaR:cw Tryz.prog 44 2 2 1:=⟨by unfold cn;kernel_rfl⟩
instance Ph:cV Tryz.prog 44 2 2 1:=⟨by unfold cA;kernel_rfl⟩
theorem Pj:cA Tryz.prog 44 2=some (2,1):=Ph.h
instance aaS:cw Tryz.prog 44 3 3 1:=⟨by unfold cn;kernel_rfl⟩
instance Pk:cV Tryz.prog 44 3 3 1:=⟨by unfold cA;kernel_rfl⟩
theorem Pm:cA Tryz.prog 44 3=some (3,1):=Pk.h
instance aaT:cw Tryz.prog 44 4 4 1:=⟨by unfold cn;kernel_rfl⟩
instance Pn:cV Tryz.prog 44 4 4 1:=⟨by unfold cA;kernel_rfl⟩
theorem Po:cA Tryz.prog 44 4=some (4,1):=Pn.h
instance aaU:cw Tryz.prog 44 5 5 1:=⟨by unfold cn;kernel_rfl⟩
instance Pp:cV Tryz.prog 44 5 5 1:=⟨by unfold cA;kernel_rfl⟩
theorem Pq:cA Tryz.prog 44 5=some (5,1):=Pp.h
instance aaV:cw Tryz.prog 44 6 6 1:=⟨by unfold cn;kernel_rfl⟩
instance Pr:cV Tryz.prog 44 6 6 1:=⟨by unfold cA;kernel_rfl⟩
theorem Ps:cA Tryz.prog 44 6=some (6,1):=Pr.h
instance aaW:cw Tryz.prog 48 0 0 1:=⟨by unfold cn;kernel_rfl⟩
instance aaX:cV Tryz.prog 48 0 0 1:=⟨by unfold cA;kernel_rfl⟩
instance aaY:cw Tryz.prog 48 1 1 1:=⟨by unfold cn;kernel_rfl⟩
instance aaZ:cV Tryz.prog 48 1 1 1:=⟨by unfold cA;kernel_rfl⟩
instance aa0:cw Tryz.prog 51 0 0 1:=⟨by unfold cn;kernel_rfl⟩
instance aa1:cV Tryz.prog 51 0 0 1:=⟨by unfold cA;kernel_rfl⟩
instance aa2:cw Tryz.prog 51 1 1 1:=⟨by unfold cn;kernel_rfl⟩
instance aa3:cV Tryz.prog 51 1 1 1:=⟨by unfold cA;kernel_rfl⟩
instance aa4:cw Tryz.prog 51 2 2 1:=⟨by unfold cn;kernel_rfl⟩
instance aa5:cV Tryz.prog 51 2 2 1:=⟨by unfold cA;kernel_rfl⟩
instance aa6:cw Tryz.prog 51 3 3 1:=⟨by unfold cn;kernel_rfl⟩
instance Pt:cV Tryz.prog 51 3 3 1:=⟨by unfold cA;kernel_rfl⟩
theorem Pu:cA Tryz.prog 51 3=some (3,1):=Pt.h
instance aa7:cw Tryz.prog 51 4 4 1:=⟨by unfold cn;kernel_rfl⟩
instance aa8:cw Tryz.prog 51 5 5 1:=⟨by unfold cn;kernel_rfl⟩
instance aa9:cV Tryz.prog 51 5 5 1:=⟨by unfold cA;kernel_rfl⟩
instance aba:cw Tryz.prog 51 6 6 1:=⟨by unfold cn;kernel_rfl⟩
instance abb:cV Tryz.prog 51 6 6 1:=⟨by unfold cA;kernel_rfl⟩
instance abc:cw Tryz.prog 51 7 7 1:=⟨by unfold cn;kernel_rfl⟩
instance abd:cw Tryz.prog 51 8 8 1:=⟨by unfold cn;kernel_rfl⟩
instance abe:cw Tryz.prog 51 9 9 2:=⟨by unfold cn;kernel_rfl⟩
instance abf:cw Tryz.prog 51 10 11 1:=⟨by unfold cn;kernel_rfl⟩
instance abg:cw Tryz.prog 51 11 12 1:=⟨by unfold cn;kernel_rfl⟩
instance abh:cw Tryz.prog 62 0 0 1:=⟨by unfold cn;kernel_rfl⟩
instance abi:cV Tryz.prog 62 0 0 1:=⟨by unfold cA;kernel_rfl⟩
instance abj:cw Tryz.prog 62 1 1 5:=⟨by unfold cn;kernel_rfl⟩
instance abk:cV Tryz.prog 62 1 1 5:=⟨by unfold cA;kernel_rfl⟩
instance abl:cw Tryz.prog 62 2 6 1:=⟨by unfold cn;kernel_rfl⟩
instance abm:cw Tryz.prog 74 0 0 1:=⟨by unfold cn;kernel_rfl⟩
instance abn:cV Tryz.prog 74 0 0 1:=⟨by unfold cA;kernel_rfl⟩
instance abo:cw Tryz.prog 74 1 1 1:=⟨by unfold cn;kernel_rfl⟩
instance abp:cV Tryz.prog 74 1 1 1:=⟨by unfold cA;kernel_rfl⟩
instance abq:cw Tryz.prog 74 2 2 1:=⟨by unfold cn;kernel_rfl⟩
instance abr:cV Tryz.prog 74 2 2 1:=⟨by unfold cA;kernel_rfl⟩
instance abt:cw Tryz.prog 74 3 3 1:=⟨by unfold cn;kernel_rfl⟩
instance abu:cV Tryz.prog 74 3 3 1:=⟨by unfold cA;kernel_rfl⟩
instance abv:cw Tryz.prog 74 4 4 1:=⟨by unfold cn;kernel_rfl⟩
instance abw:cV Tryz.prog 74 4 4 1:=⟨by unfold cA;kernel_rfl⟩
instance abx:cw Tryz.prog 74 5 5 2:=⟨by unfold cn;kernel_rfl⟩
instance aby:cV Tryz.prog 74 5 5 2:=⟨by unfold cA;kernel_rfl⟩
instance abz:cw Tryz.prog 74 6 7 1:=⟨by unfold cn;kernel_rfl⟩
instance abA:cV Tryz.prog 74 6 7 1:=⟨by unfold cA;kernel_rfl⟩
instance abB:cw Tryz.prog 74 7 8 1:=⟨by unfold cn;kernel_rfl⟩
instance abC:cV Tryz.prog 74 7 8 1:=⟨by unfold cA;kernel_rfl⟩
instance abD:cw Tryz.prog 74 8 9 1:=⟨by unfold cn;kernel_rfl⟩
instance abE:cV Tryz.prog 74 8 9 1:=⟨by unfold cA;kernel_rfl⟩
instance abF:cw Tryz.prog 74 9 10 1:=⟨by unfold cn;kernel_rfl⟩
instance abG:cV Tryz.prog 74 9 10 1:=⟨by unfold cA;kernel_rfl⟩
instance abH:cw Tryz.prog 74 10 11 1:=⟨by unfold cn;kernel_rfl⟩
instance abI:cV Tryz.prog 74 10 11 1:=⟨by unfold cA;kernel_rfl⟩
instance abJ:cw Tryz.prog 74 11 12 1:=⟨by unfold cn;kernel_rfl⟩
instance abK:cV Tryz.prog 74 11 12 1:=⟨by unfold cA;kernel_rfl⟩
instance abL:cw Tryz.prog 74 12 13 1:=⟨by unfold cn;kernel_rfl⟩
instance abM:cw Tryz.prog 74 13 14 1:=⟨by unfold cn;kernel_rfl⟩
instance abN:cw Tryz.prog 86 0 0 1:=⟨by unfold cn;kernel_rfl⟩
instance abO:cV Tryz.prog 86 0 0 1:=⟨by unfold cA;kernel_rfl⟩
instance abP:cw Tryz.prog 86 1 1 1:=⟨by unfold cn;kernel_rfl⟩
instance abQ:cV Tryz.prog 86 1 1 1:=⟨by unfold cA;kernel_rfl⟩
instance abR:cw Tryz.prog 88 0 0 1:=⟨by unfold cn;kernel_rfl⟩
instance abS:cV Tryz.prog 88 0 0 1:=⟨by unfold cA;kernel_rfl⟩
instance abT:cw Tryz.prog 88 1 1 1:=⟨by unfold cn;kernel_rfl⟩
instance abU:cw Tryz.prog 97 0 0 1:=⟨by unfold cn;kernel_rfl⟩
instance abV:cV Tryz.prog 97 0 0 1:=⟨by unfold cA;kernel_rfl⟩
instance abW:cw Tryz.prog 97 1 1 2:=⟨by unfold cn;kernel_rfl⟩
instance abX:cV Tryz.prog 97 1 1 2:=⟨by unfold cA;kernel_rfl⟩
instance abY:cw Tryz.prog 100 0 0 1:=⟨by unfold cn;kernel_rfl⟩
instance abZ:cV Tryz.prog 100 0 0 1:=⟨by unfold cA;kernel_rfl⟩
instance ab0:cw Tryz.prog 100 1 1 2:=⟨by unfold cn;kernel_rfl⟩
instance ab1:cV Tryz.prog 100 1 1 2:=⟨by unfold cA;kernel_rfl⟩
instance ab2:cw Tryz.prog 100 2 3 1:=⟨by unfold cn;kernel_rfl⟩
instance ab3:cV Tryz.prog 100 2 3 1:=⟨by unfold cA;kernel_rfl⟩
instance ab4:cw Tryz.prog 100 3 4 1:=⟨by unfold cn;kernel_rfl⟩
instance ab5:cV Tryz.prog 100 3 4 1:=⟨by unfold cA;kernel_rfl⟩
instance ab6:cw Tryz.prog 100 4 5 1:=⟨by unfold cn;kernel_rfl⟩
instance ab7:cV Tryz.prog 100 4 5 1:=⟨by unfold cA;kernel_rfl⟩
instance ab8:cw Tryz.prog 100 5 6 1:=⟨by unfold cn;kernel_rfl⟩
instance ab9:cV Tryz.prog 100 5 6 1:=⟨by unfold cA;kernel_rfl⟩
instance aca:cw Tryz.prog 121 0 0 1:=⟨by unfold cn;kernel_rfl⟩
instance acb:cV Tryz.prog 121 0 0 1:=⟨by unfold cA;kernel_rfl⟩
instance acd:cw Tryz.prog 121 1 1 1:=⟨by unfold cn;kernel_rfl⟩
instance ace:cV Tryz.prog 121 1 1 1:=⟨by unfold cA;kernel_rfl⟩
instance acf:cw Tryz.prog 121 2 2 7:=⟨by unfold cn;kernel_rfl⟩
instance acg:cV Tryz.prog 121 2 2 7:=⟨by unfold cA;kernel_rfl⟩
theorem l3:vz Tryz.prog 48 2:=⟨by kernel_rfl,fun xs ys w hx hy=>by
 match xs,ys,hx,hy with
 |[x0,x1],[y0,y1],_,_=>
  simp[go_sem,Tryz.underlying48]
  (repeat' split)<;>simp_all⟩
theorem tU:vz Tryz.prog 97 3:=⟨by kernel_rfl,fun xs ys w hx hy=>by
 match xs,ys,hx,hy with
 |[x0,x1,x2],[y0,y1,y2],_,_=>
  simp[go_sem,Tryz.underlying97]
  (repeat' split)<;>simp_all⟩
theorem G5:vz Tryz.prog 86 2:=⟨by kernel_rfl,fun xs ys w hx hy=>by
 match xs,ys,hx,hy with
 |[x0,x1],[y0,y1],_,_=>
  simp[go_sem,Tryz.underlying86]
  (repeat' split)<;>simp_all⟩
instance Pv:iz Tryz.prog 4 (.bool):=⟨by kernel_rfl⟩
theorem wa:Tryz.prog.underlying 4=some (.bool):=Pv.h
end Go.Proofs.YtoeioeimmfpefaaGreat

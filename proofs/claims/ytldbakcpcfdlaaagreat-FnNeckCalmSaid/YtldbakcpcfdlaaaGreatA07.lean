/- Part 7: rules of the proofs. -/
import Derived.Test.YtldbakcpcfdlaaaGreatA06
set_option linter.all false
namespace Go.Proofs.YtldbakcpcfdlaaaGreat
open Go Go.RowKit
section
variable {P:Program} {c:Ctx} {I:Im} {H:List Own} {Γ:Env} {a:Act} {w:World} {Q:Exit->Act->World->Prop} {ops:Array Oper} {rest:List Oper} {o:Oper} {x:AV} {g G:Bool} {y z y2:Operand} {ty T T':TypeId} {p:String} {af:Array Edge} {n m f:Nat} {zv:Value} {d:Option Tmp} {gd:Option (Nat×Bool)} {bo:BinOp} {uo:UnOp} {cc:Go.Call}
def Ok.J3 {m n:Int} (hy:At Γ g y (.int m):=by first|exact .tt|exact .c|exact .ag) (hz:At Γ g z (.int n):=by first|exact .tt|exact .c|exact .ag):Ok P H Γ g ⟨d,.binOp .eql T y z T',ty,p,af,gd⟩ (.bool (m==n)):=QT hy hz
def Ok.J4 {m n:Int} (hy:At Γ g y (.int m):=by first|exact .tt|exact .c|exact .ag) (hz:At Γ g z (.int n):=by first|exact .tt|exact .c|exact .ag):Ok P H Γ g ⟨d,.binOp .neq T y z T',ty,p,af,gd⟩ (.bool (m !=n)):=QU hy hz
def Ok.J5 {m n:Int} (hy:At Γ g y (.int m):=by first|exact .tt|exact .c|exact .ag) (hz:At Γ g z (.int n):=by first|exact .tt|exact .c|exact .ag):Ok P H Γ g ⟨d,.binOp .lss T y z T',ty,p,af,gd⟩ (.bool (decide (m<n))):=Ir hy hz
def Ok.J6 {m n:Int} (hy:At Γ g y (.int m):=by first|exact .tt|exact .c|exact .ag) (hz:At Γ g z (.int n):=by first|exact .tt|exact .c|exact .ag):Ok P H Γ g ⟨d,.binOp .leq T y z T',ty,p,af,gd⟩ (.bool (decide (m<=n))):=Is hy hz
def Ok.J7 {m n:Int} (hy:At Γ g y (.int m):=by first|exact .tt|exact .c|exact .ag) (hz:At Γ g z (.int n):=by first|exact .tt|exact .c|exact .ag):Ok P H Γ g ⟨d,.binOp .gtr T y z T',ty,p,af,gd⟩ (.bool (decide (n<m))):=It hy hz
def Ok.J8 {m n:Int} (hy:At Γ g y (.int m):=by first|exact .tt|exact .c|exact .ag) (hz:At Γ g z (.int n):=by first|exact .tt|exact .c|exact .ag):Ok P H Γ g ⟨d,.binOp .geq T y z T',ty,p,af,gd⟩ (.bool (decide (n<=m))):=Iu hy hz
def Ok.DZ {m n:Int} (hy:At Γ g y (.int m):=by first|exact .tt|exact .c|exact .ag) (hz:At Γ g z (.int n):=by first|exact .tt|exact .c|exact .ag) (hb:g=true->-9223372036854775808<=m+n/\m+n<=9223372036854775807:=by intro hg;first|omega|(simp at hg;omega)):Ok P H Γ g ⟨d,.binOp .add T y z T',ty,p,af,gd⟩ (.int (m+n)):=jW hy hz hb
def Ok.D0 {m n:Int} (hy:At Γ g y (.int m):=by first|exact .tt|exact .c|exact .ag) (hz:At Γ g z (.int n):=by first|exact .tt|exact .c|exact .ag) (hb:g=true->-9223372036854775808<=m-n/\m-n<=9223372036854775807:=by intro hg;first|omega|(simp at hg;omega)):Ok P H Γ g ⟨d,.binOp .sub T y z T',ty,p,af,gd⟩ (.int (m-n)):=Iq hy hz hb
def Ok.J9 {aa:Operand} {b x:Bool} (hc:At Γ g y (.bool b):=by first|exact .tt|exact .ag) (ha:At Γ g aa (.cond b (.bool x)):=by exact .pc):Ok P H Γ g ⟨d,.pick y aa (.const (.bool false)),ty,p,af,gd⟩ (.bool (b&&x)):=QR hc ha .c
def Ok.Ka {bb:Operand} {b x:Bool} (hc:At Γ g y (.bool b):=by first|exact .tt|exact .ag) (hb:At Γ g bb (.cond (!b) (.bool x)):=by exact .pc):Ok P H Γ g ⟨d,.pick y (.const (.bool true)) bb,ty,p,af,gd⟩ (.bool (b||x)):=QS hc .c hb
def Ok.kM (h:Ok P H Γ g ⟨d,.move y,ty,p,af,gd⟩ x):Ok P H Γ g ⟨d,.move y,ty,p,af,gd⟩ x:=h
def Ok.kL (h:Ok P H Γ g ⟨d,.load T y,ty,p,af,gd⟩ x):Ok P H Γ g ⟨d,.load T y,ty,p,af,gd⟩ x:=h
def Ok.kF (h:Ok P H Γ g ⟨d,.fieldAddr T y f,ty,p,af,gd⟩ x):Ok P H Γ g ⟨d,.fieldAddr T y f,ty,p,af,gd⟩ x:=h
def Ok.kA (h:Ok P H Γ g ⟨d,.assign y,ty,p,af,gd⟩ x):Ok P H Γ g ⟨d,.assign y,ty,p,af,gd⟩ x:=h
def Ok.Kb (h:Ok P H Γ g ⟨d,.binOp .eql T y z T',ty,p,af,gd⟩ x):Ok P H Γ g ⟨d,.binOp .eql T y z T',ty,p,af,gd⟩ x:=h
def Ok.Kc (h:Ok P H Γ g ⟨d,.binOp .lss T y z T',ty,p,af,gd⟩ x):Ok P H Γ g ⟨d,.binOp .lss T y z T',ty,p,af,gd⟩ x:=h
def Ok.kP (h:Ok P H Γ g ⟨d,.pick y z y2,ty,p,af,gd⟩ x):Ok P H Γ g ⟨d,.pick y z y2,ty,p,af,gd⟩ x:=h
def Ok.kC (h:Ok P H Γ g ⟨d,.call cc,ty,p,af,gd⟩ x):Ok P H Γ g ⟨d,.call cc,ty,p,af,gd⟩ x:=h
def Ok.kI (h:Ok P H Γ g ⟨d,.indexAddr T y z,ty,p,af,gd⟩ x):Ok P H Γ g ⟨d,.indexAddr T y z,ty,p,af,gd⟩ x:=h
def Ok.Kd (h:Ok P H Γ g ⟨d,.binOp .add T y z T',ty,p,af,gd⟩ x):Ok P H Γ g ⟨d,.binOp .add T y z T',ty,p,af,gd⟩ x:=h
def Ok.kX (h:Ok P H Γ g ⟨d,.box T y,ty,p,af,gd⟩ x):Ok P H Γ g ⟨d,.box T y,ty,p,af,gd⟩ x:=h
def Ok.kN (h:Ok P H Γ g ⟨d,.unOp uo T y,ty,p,af,gd⟩ x):Ok P H Γ g ⟨d,.unOp uo T y,ty,p,af,gd⟩ x:=h
def Ok.kZ (h:Ok P H Γ g ⟨d,.nilCheck y,ty,p,af,gd⟩ x):Ok P H Γ g ⟨d,.nilCheck y,ty,p,af,gd⟩ x:=h
def Ok.kE (h:Ok P H Γ g ⟨d,.extract y f,ty,p,af,gd⟩ x):Ok P H Γ g ⟨d,.extract y f,ty,p,af,gd⟩ x:=h
def Ok.Ke (h:Ok P H Γ g ⟨d,.binOp .gtr T y z T',ty,p,af,gd⟩ x):Ok P H Γ g ⟨d,.binOp .gtr T y z T',ty,p,af,gd⟩ x:=h
def Ok.Kf (h:Ok P H Γ g ⟨d,.binOp .neq T y z T',ty,p,af,gd⟩ x):Ok P H Γ g ⟨d,.binOp .neq T y z T',ty,p,af,gd⟩ x:=h
def Ok.Kg (h:Ok P H Γ g ⟨d,.binOp .sub T y z T',ty,p,af,gd⟩ x):Ok P H Γ g ⟨d,.binOp .sub T y z T',ty,p,af,gd⟩ x:=h
def Ok.Kh (h:Ok P H Γ g ⟨d,.binOp .leq T y z T',ty,p,af,gd⟩ x):Ok P H Γ g ⟨d,.binOp .leq T y z T',ty,p,af,gd⟩ x:=h
def Ok.Ki (h:Ok P H Γ g ⟨d,.binOp .geq T y z T',ty,p,af,gd⟩ x):Ok P H Γ g ⟨d,.binOp .geq T y z T',ty,p,af,gd⟩ x:=h
def Ok.zo (h:Ok P H Γ g o x:=by
 first
 |(apply Ok.kM;first|exact .mv|exact wN .c)
 |(apply Ok.kL;first|exact .l1|exact .lb 0|exact .DT|exact .DU|exact .ls 0|exact .lb 1|exact .ls 1|exact .lb 2|exact .ls 2|exact .lb 3|exact .ls 3|exact .lb 4|exact .ls 4|exact .lb 5|exact .ls 5|exact .lb 6|exact .ls 6)
 |(apply Ok.kF;first|exact .fp|exact .fv)
 |(apply Ok.kA;first|exact .as|exact uL .c)
 |(apply Ok.Kb;exact .J3)
 |(apply Ok.Kc;exact .J5)
 |(apply Ok.kP;first|exact .Ka|exact .J9)
 |(apply Ok.kC;first|exact .DV|exact .DW|exact .DX)
 |(apply Ok.kI;first|exact .JY|exact .JX|exact .JZ)
 |(apply Ok.Kd;exact .DZ)
 |(apply Ok.kX;exact .bp)
 |(apply Ok.kN;exact .nt)
 |(apply Ok.kZ;exact .nl)
 |(apply Ok.kE;exact .e)
 |(apply Ok.Ke;exact .J7)
 |(apply Ok.Kf;exact .J4)
 |(apply Ok.Kg;exact .D0)
 |(apply Ok.Kh;exact .J6)
 |(apply Ok.Ki;exact .J8)):Ok P H Γ g o x:=h
def Ok.zp (h:Ok P H Γ g o x:=by
 first
 |(apply Ok.kM;first|exact .mx .ag|exact .mv|exact wN .c)
 |(apply Ok.kL;first|exact .lx .ag|exact .xz 0 .ag|exact .xz 1 .ag|exact .xz 2 .ag|exact .xz 3 .ag|exact .xz 4 .ag|exact .l1|exact .lb 0|exact .DT|exact .DU|exact .ls 0|exact .lb 1|exact .ls 1|exact .lb 2|exact .ls 2|exact .lb 3|exact .ls 3|exact .lb 4|exact .ls 4|exact .lb 5|exact .ls 5|exact .lb 6|exact .ls 6)
 |(apply Ok.kF;first|exact .fx .ag|exact .Su .ag|exact .fp|exact .fv)
 |(apply Ok.kA;first|exact .Sq .ag|exact .as|exact uL .c)
 |(apply Ok.Kb;exact .J3)
 |(apply Ok.Kc;exact .J5)
 |(apply Ok.kP;first|exact .Ka|exact .J9)
 |(apply Ok.kC;first|exact .DV|exact .DW|exact .DX)
 |(apply Ok.kI;first|exact .JY|exact .JX|exact .JZ)
 |(apply Ok.Kd;exact .DZ)
 |(apply Ok.kX;exact .bp)
 |(apply Ok.kN;first|exact .Sr .ag|exact .nt)
 |(apply Ok.kZ;exact .nl)
 |(apply Ok.kE;exact .e)
 |(apply Ok.Ke;exact .J7)
 |(apply Ok.Kf;exact .J4)
 |(apply Ok.Kg;exact .D0)
 |(apply Ok.Kh;exact .J6)
 |(apply Ok.Ki;exact .J8)):Ok P H Γ g o x:=h
def hP.zg {b:Bool} (h:hP ops Γ o b:=by first|exact .T|exact .F|exact .T2|exact .F2):hP ops Γ o b:=h
def St.oy {d:Nat} {op:Op} (U:St c I H Γ a w) (hd:Nat.blt d c.n=true) (ok:Ok P H Γ true ⟨some d,op,ty,p,af,none⟩ x) (k:∀I' a' w',St c I' H ((d,x)::Γ) a' w'->wpList P ops Q rest a' w'):wpList P ops Q (⟨some d,op,ty,p,af,none⟩::rest) a w:=U.op rfl rfl hd ok k
def St.qy {d:Nat} {op:Op} {gd:Nat×Bool} (U:St c I H Γ a w) (hd:Nat.blt d c.n=true) (hg:hP ops Γ ⟨some d,op,ty,p,af,some gd⟩ G) (ok:Ok P H Γ G ⟨some d,op,ty,p,af,some gd⟩ x) (k:∀I' a' w',St c I' H ((d,.cond G x)::Γ) a' w'->wpList P ops Q rest a' w'):wpList P ops Q (⟨some d,op,ty,p,af,some gd⟩::rest) a w:=U.zy hg rfl hd ok k
def St.sz {b:Nat} {l lx:List AV} (k:Nat) (U:St c I H Γ a w) (kk:∀I' a' w',St c I' (H.set k (Own.box b T' lx)) Γ a' w'->wpList P ops Q rest a' w') [hT:cL P T true n m zv] (hy:At Γ true y (.val (.pointer (some ⟨b,0,none⟩))):=by first|exact .tt|exact .ag|exact .c) (hz:At Γ true z (.agg lx):=by first|exact .tt|exact .ag|exact .c)
 (hk:H[k]?=some (Own.box b T' l):=by rfl) (hn:lx.length=n:=by first|rfl|assumption) (hl:l.length=n:=by rfl):wpList P ops Q (⟨none,.store T y z,ty,p,af,none⟩::rest) a w:=U.IS k hT.h hy hz hk hn hl λ_ _ h=>kk _ _ _ h
def St.sy {b q:Nat} {l:List AV} (k:Nat) (U:St c I H Γ a w) (kk:∀I' a' w',St c I' (H.set k (Own.box b T' (l.set q x))) Γ a' w'->wpList P ops Q rest a' w') [hT:cL P T false 1 m zv] (hy:At Γ true y (.val (.pointer (some ⟨b,q,none⟩))):=by first|exact .tt|exact .ag|exact .c) (hz:At Γ true z x:=by first|exact .tt|exact .ag|exact .c|exact .nil (.t rfl)|exact .nil .c)
 (hx:x.One:=by first|exact fi rfl|exact dD|exact fB|exact fE|assumption) (hk:H[k]?=some (Own.box b T' l):=by rfl) (hq:Nat.ble (q+1) l.length=true:=by rfl):wpList P ops Q (⟨none,.store T y z,ty,p,af,none⟩::rest) a w:=U.uR k hT.h hy hz hx hk hq λ_ _ h=>kk _ _ _ h
def iF.oo {os:List Oper} {d:Nat} {op:Op} (hg:d=d) (ok:Ok P H (Γ.only ((⟨some d,op,ty,p,af,none⟩:Oper).looksAt ops)) true ⟨some d,op,ty,p,af,none⟩ x) (k:iF P c H ops Q ((d,x)::Γ) os):iF P c H ops Q Γ (⟨some d,op,ty,p,af,none⟩::os):=.cons (.of rfl ok) k
def iF.qq {os:List Oper} {d:Nat} {op:Op} {gd:Nat×Bool} (hg:hP ops (Γ.only ((⟨some d,op,ty,p,af,some gd⟩:Oper).looksAt ops)) ⟨some d,op,ty,p,af,some gd⟩ G) (ok:Ok P H (Γ.only ((⟨some d,op,ty,p,af,some gd⟩:Oper).looksAt ops)) G ⟨some d,op,ty,p,af,some gd⟩ x) (k:iF P c H ops Q ((d,.cond G x)::Γ) os):iF P c H ops Q Γ (⟨some d,op,ty,p,af,some gd⟩::os):=.cons (.zA hg ok) k
def Sv (h:wpList P ops Q (⟨none,.store T y z,ty,p,af,none⟩::rest) a w):wpList P ops Q (⟨none,.store T y z,ty,p,af,none⟩::rest) a w:=h
end
structure Hid (Q:Prop):Prop where
 out:Q
def zz {P Q:Prop} (k:Q) (h:Hid Q->P:=by
 intro gk;(with_reducible (repeat(first|refine nn ?_|refine sr ?_|refine ba ?_|refine wp_seq ?_|refine wp_block ?_|refine St.region ?_|refine wpList_nil ?_|refine wS ?_|refine wp_skip ?_)));first
 |(apply St.oy U;rfl;exact .zo;intro I a w U)
 |(apply St.qy U;rfl;exact .zg;exact .zp;intro I a w U)
 |(refine Sv ?_;first|refine U.sy 0 (λI a w U=>?_)|refine U.sz 0 (λI a w U=>?_)|refine U.sy 1 (λI a w U=>?_)|refine U.sz 1 (λI a w U=>?_)|refine U.sy 2 (λI a w U=>?_)|refine U.sz 2 (λI a w U=>?_)|refine U.sy 3 (λI a w U=>?_)|refine U.sz 3 (λI a w U=>?_)|refine U.sy 4 (λI a w U=>?_)|refine U.sz 4 (λI a w U=>?_)|refine U.sz 5 (λI a w U=>?_)|refine U.sz 6 (λI a w U=>?_))
 |(refine U.dk ?_;(repeat(first|(apply iF.oo;rfl;exact .zo)|(apply iF.qq;exact .zg;exact .zp)));refine .nil ?_;intro I a w U)
 revert I a w;exact gk.out):P:=h ⟨k⟩
def zk {P Q:Prop} (k:Q) (h:Hid Q->P:=by
 intro gk;first|(apply iF.oo;rfl;exact .zo)|(apply iF.qq;exact .zg;exact .zp)|refine .o .zo ?_|refine .q .zg .zp ?_
 exact gk.out):P:=h ⟨k⟩
def bw {P Q:Prop} (k:Q) (h:Hid Q->P:=by intro gk;(iterate 1 (refine zz λI a w U=>?_));revert I a w;exact gk.out):P:=h ⟨k⟩
def aF {P Q:Prop} (k:Q) (h:Hid Q->P:=by intro gk;(iterate 2 (refine zz λI a w U=>?_));revert I a w;exact gk.out):P:=h ⟨k⟩
def bc {P Q:Prop} (k:Q) (h:Hid Q->P:=by intro gk;(iterate 3 (refine zz λI a w U=>?_));revert I a w;exact gk.out):P:=h ⟨k⟩
def bj {P Q:Prop} (k:Q) (h:Hid Q->P:=by intro gk;(iterate 4 (refine zz λI a w U=>?_));revert I a w;exact gk.out):P:=h ⟨k⟩
def bK {P Q:Prop} (k:Q) (h:Hid Q->P:=by intro gk;(iterate 5 (refine zz λI a w U=>?_));revert I a w;exact gk.out):P:=h ⟨k⟩
def dp {P Q:Prop} (k:Q) (h:Hid Q->P:=by intro gk;(iterate 6 (refine zz λI a w U=>?_));revert I a w;exact gk.out):P:=h ⟨k⟩
def fm {P Q:Prop} (k:Q) (h:Hid Q->P:=by intro gk;(iterate 7 (refine zz λI a w U=>?_));revert I a w;exact gk.out):P:=h ⟨k⟩
def j3 {P Q:Prop} (k:Q) (h:Hid Q->P:=by intro gk;(iterate 8 (refine zz λI a w U=>?_));revert I a w;exact gk.out):P:=h ⟨k⟩
def tb {P Q:Prop} (k:Q) (h:Hid Q->P:=by intro gk;(iterate 9 (refine zz λI a w U=>?_));revert I a w;exact gk.out):P:=h ⟨k⟩
def rI {P Q:Prop} (k:Q) (h:Hid Q->P:=by intro gk;(iterate 10 (refine zz λI a w U=>?_));revert I a w;exact gk.out):P:=h ⟨k⟩
def z9 {P Q:Prop} (k:Q) (h:Hid Q->P:=by intro gk;(iterate 11 (refine zz λI a w U=>?_));revert I a w;exact gk.out):P:=h ⟨k⟩
def Aa {P Q:Prop} (k:Q) (h:Hid Q->P:=by intro gk;(iterate 12 (refine zz λI a w U=>?_));revert I a w;exact gk.out):P:=h ⟨k⟩
def tc {P Q:Prop} (k:Q) (h:Hid Q->P:=by intro gk;(iterate 13 (refine zz λI a w U=>?_));revert I a w;exact gk.out):P:=h ⟨k⟩
def Sw {P Q:Prop} (k:Q) (h:Hid Q->P:=by intro gk;(iterate 14 (refine zz λI a w U=>?_));revert I a w;exact gk.out):P:=h ⟨k⟩
def Ab {P Q:Prop} (k:Q) (h:Hid Q->P:=by intro gk;(iterate 15 (refine zz λI a w U=>?_));revert I a w;exact gk.out):P:=h ⟨k⟩
def Sx {P Q:Prop} (k:Q) (h:Hid Q->P:=by intro gk;(iterate 16 (refine zz λI a w U=>?_));revert I a w;exact gk.out):P:=h ⟨k⟩
def Kj {P Q:Prop} (k:Q) (h:Hid Q->P:=by intro gk;(iterate 17 (refine zz λI a w U=>?_));revert I a w;exact gk.out):P:=h ⟨k⟩
def Kk {P Q:Prop} (k:Q) (h:Hid Q->P:=by intro gk;(iterate 19 (refine zz λI a w U=>?_));revert I a w;exact gk.out):P:=h ⟨k⟩
def Sy {P Q:Prop} (k:Q) (h:Hid Q->P:=by intro gk;(iterate 20 (refine zz λI a w U=>?_));revert I a w;exact gk.out):P:=h ⟨k⟩
def Kl {P Q:Prop} (k:Q) (h:Hid Q->P:=by intro gk;(iterate 21 (refine zz λI a w U=>?_));revert I a w;exact gk.out):P:=h ⟨k⟩
def Sz {P Q:Prop} (k:Q) (h:Hid Q->P:=by intro gk;(iterate 22 (refine zz λI a w U=>?_));revert I a w;exact gk.out):P:=h ⟨k⟩
def SA {P Q:Prop} (k:Q) (h:Hid Q->P:=by intro gk;(iterate 23 (refine zz λI a w U=>?_));revert I a w;exact gk.out):P:=h ⟨k⟩
def SB {P Q:Prop} (k:Q) (h:Hid Q->P:=by intro gk;(iterate 24 (refine zz λI a w U=>?_));revert I a w;exact gk.out):P:=h ⟨k⟩
def SC {P Q:Prop} (k:Q) (h:Hid Q->P:=by intro gk;(iterate 27 (refine zz λI a w U=>?_));revert I a w;exact gk.out):P:=h ⟨k⟩
def D1 {P Q:Prop} (k:Q) (h:Hid Q->P:=by intro gk;(iterate 32 (refine zz λI a w U=>?_));revert I a w;exact gk.out):P:=h ⟨k⟩
def zt {P Q:Prop} (k:Q) (h:Hid Q->P:=by
 intro gk;(with_reducible (repeat(first|refine nn ?_|refine sr ?_|refine ba ?_|refine wp_seq ?_|refine wp_block ?_|refine St.region ?_|refine wpList_nil ?_|refine wS ?_|refine wp_skip ?_|refine wp_ret ?_|refine uP ?_|refine sJ ?_|refine wp_exit ?_|refine cm ?_|refine dS ?_|refine Q0 rfl ?_)));exact gk.out):P:=h ⟨k⟩
def cz {P Q R:Prop} (k:Q) (l:R) (h:Hid Q->Hid R->P:=by
 intro gk gl;refine U.cd (λgb=>?_) (λgb=>?_)
 ·(try simp only[B] at gb);revert gb;exact gk.out
 (try simp only[B] at gb);revert gb;exact gl.out):P:=h ⟨k⟩ ⟨l⟩
def kO {P Q R:Prop} (k:Q) (l:R) (h:Hid Q->Hid R->P:=by
 intro gk gl;refine U.cd (λgb=>?_) (λgb=>?_)
 ·(try simp only[B] at gb);revert gb;exact gk.out
 revert gb;exact gl.out):P:=h ⟨k⟩ ⟨l⟩
def Km {P Q R:Prop} (k:Q) (l:R) (h:Hid Q->Hid R->P:=by
 intro gk gl;refine U.cd (λgb=>?_) (λgb=>?_)
 .revert gb;exact gk.out
 (try simp only[B] at gb);revert gb;exact gl.out):P:=h ⟨k⟩ ⟨l⟩
def ao {P Q:Prop} (k:Q) (h:Hid Q->P:=by intro gk;(iterate 1 (refine zz λI a w U=>?_));refine zt ?_;revert I a w;exact gk.out):P:=h ⟨k⟩
def aq {P Q:Prop} (k:Q) (h:Hid Q->P:=by intro gk;(iterate 2 (refine zz λI a w U=>?_));refine zt ?_;revert I a w;exact gk.out):P:=h ⟨k⟩
def aM {P Q:Prop} (k:Q) (h:Hid Q->P:=by intro gk;(iterate 3 (refine zz λI a w U=>?_));refine zt ?_;revert I a w;exact gk.out):P:=h ⟨k⟩
def bk {P Q:Prop} (k:Q) (h:Hid Q->P:=by intro gk;refine ao λI a w U=>?_;refine U.rt ?_;exact gk.out):P:=h ⟨k⟩
def dh {P Q:Prop} (k:Q) (h:Hid Q->P:=by intro gk;refine aq λI a w U=>?_;refine U.rt ?_;exact gk.out):P:=h ⟨k⟩
def qx {P Q:Prop} (k:Q) (h:Hid Q->P:=by intro gk;refine aM λI a w U=>?_;refine U.rt ?_;exact gk.out):P:=h ⟨k⟩
def aV {P Q:Prop} (k:Q) (h:Hid Q->P:=by intro gk;(iterate 4 (refine zz λI a w U=>?_));refine zt ?_;revert I a w;exact gk.out):P:=h ⟨k⟩
def cn {P Q:Prop} (k:Q) (h:Hid Q->P:=by intro gk;(iterate 5 (refine zz λI a w U=>?_));refine zt ?_;revert I a w;exact gk.out):P:=h ⟨k⟩
def iU {P Q:Prop} (k:Q) (h:Hid Q->P:=by intro gk;(iterate 6 (refine zz λI a w U=>?_));refine zt ?_;revert I a w;exact gk.out):P:=h ⟨k⟩
def ib {P Q:Prop} (k:Q) (h:Hid Q->P:=by intro gk;(iterate 7 (refine zz λI a w U=>?_));refine zt ?_;revert I a w;exact gk.out):P:=h ⟨k⟩
def m3 {P Q:Prop} (k:Q) (h:Hid Q->P:=by intro gk;(iterate 8 (refine zz λI a w U=>?_));refine zt ?_;revert I a w;exact gk.out):P:=h ⟨k⟩
def m4 {P Q:Prop} (k:Q) (h:Hid Q->P:=by intro gk;(iterate 9 (refine zz λI a w U=>?_));refine zt ?_;revert I a w;exact gk.out):P:=h ⟨k⟩
def td {P Q:Prop} (k:Q) (h:Hid Q->P:=by intro gk;(iterate 10 (refine zz λI a w U=>?_));refine zt ?_;revert I a w;exact gk.out):P:=h ⟨k⟩
def Ac {P Q:Prop} (k:Q) (h:Hid Q->P:=by intro gk;(iterate 11 (refine zz λI a w U=>?_));refine zt ?_;revert I a w;exact gk.out):P:=h ⟨k⟩
def vh {P Q:Prop} (k:Q) (h:Hid Q->P:=by intro gk;(iterate 12 (refine zz λI a w U=>?_));refine zt ?_;revert I a w;exact gk.out):P:=h ⟨k⟩
def Ad {P Q:Prop} (k:Q) (h:Hid Q->P:=by intro gk;(iterate 13 (refine zz λI a w U=>?_));refine zt ?_;revert I a w;exact gk.out):P:=h ⟨k⟩
def D2 {P Q:Prop} (k:Q) (h:Hid Q->P:=by intro gk;(iterate 17 (refine zz λI a w U=>?_));refine zt ?_;revert I a w;exact gk.out):P:=h ⟨k⟩
def SD {P Q:Prop} (k:Q) (h:Hid Q->P:=by intro gk;(iterate 19 (refine zz λI a w U=>?_));refine zt ?_;revert I a w;exact gk.out):P:=h ⟨k⟩
def D3 {P Q:Prop} (k:Q) (h:Hid Q->P:=by intro gk;(iterate 20 (refine zz λI a w U=>?_));refine zt ?_;revert I a w;exact gk.out):P:=h ⟨k⟩
def SE {P Q:Prop} (k:Q) (h:Hid Q->P:=by intro gk;(iterate 22 (refine zz λI a w U=>?_));refine zt ?_;revert I a w;exact gk.out):P:=h ⟨k⟩
def Ae {P Q:Prop} (k:Q) (h:Hid Q->P:=by intro gk;(iterate 23 (refine zz λI a w U=>?_));refine zt ?_;revert I a w;exact gk.out):P:=h ⟨k⟩
def SF {P Q:Prop} (k:Q) (h:Hid Q->P:=by intro gk;(iterate 29 (refine zz λI a w U=>?_));refine zt ?_;revert I a w;exact gk.out):P:=h ⟨k⟩
def SG {P Q:Prop} (k:Q) (h:Hid Q->P:=by intro gk;(iterate 31 (refine zz λI a w U=>?_));refine zt ?_;revert I a w;exact gk.out):P:=h ⟨k⟩
def aW {P Q:Prop} (k:Q) (h:Hid Q->P:=by intro gk;(iterate 1 (refine zk ?_));exact gk.out):P:=h ⟨k⟩
def cg {P Q:Prop} (k:Q) (h:Hid Q->P:=by intro gk;(iterate 2 (refine zk ?_));exact gk.out):P:=h ⟨k⟩
def dw {P Q:Prop} (k:Q) (h:Hid Q->P:=by intro gk;(iterate 3 (refine zk ?_));exact gk.out):P:=h ⟨k⟩
def dq {P Q:Prop} (k:Q) (h:Hid Q->P:=by intro gk;(iterate 4 (refine zk ?_));exact gk.out):P:=h ⟨k⟩
def eP {P Q:Prop} (k:Q) (h:Hid Q->P:=by intro gk;(iterate 5 (refine zk ?_));exact gk.out):P:=h ⟨k⟩
def gw {P Q:Prop} (k:Q) (h:Hid Q->P:=by intro gk;(iterate 6 (refine zk ?_));exact gk.out):P:=h ⟨k⟩
def jJ {P Q:Prop} (k:Q) (h:Hid Q->P:=by intro gk;(iterate 7 (refine zk ?_));exact gk.out):P:=h ⟨k⟩
def mn {P Q:Prop} (k:Q) (h:Hid Q->P:=by intro gk;(iterate 8 (refine zk ?_));exact gk.out):P:=h ⟨k⟩
def vi {P Q:Prop} (k:Q) (h:Hid Q->P:=by intro gk;(iterate 9 (refine zk ?_));exact gk.out):P:=h ⟨k⟩
def mo {P Q:Prop} (k:Q) (h:Hid Q->P:=by intro gk;(iterate 10 (refine zk ?_));exact gk.out):P:=h ⟨k⟩
def SH {P Q:Prop} (k:Q) (h:Hid Q->P:=by intro gk;(iterate 11 (refine zk ?_));exact gk.out):P:=h ⟨k⟩
def Af {P Q:Prop} (k:Q) (h:Hid Q->P:=by intro gk;(iterate 12 (refine zk ?_));exact gk.out):P:=h ⟨k⟩
def qz {P Q:Prop} (k:Q) (h:Hid Q->P:=by intro gk;(iterate 14 (refine zk ?_));exact gk.out):P:=h ⟨k⟩
def SI {P Q:Prop} (k:Q) (h:Hid Q->P:=by intro gk;(iterate 15 (refine zk ?_));exact gk.out):P:=h ⟨k⟩
def mq {P Q:Prop} (k:Q) (h:Hid Q->P:=by intro gk;(iterate 16 (refine zk ?_));exact gk.out):P:=h ⟨k⟩
section
variable {P:Program} {c:Ctx} {I:Im} {H:List Own} {Γ:Env} {a:Act} {w:World} {E T:TypeId} {v:Value} {sz:Nat} {l:List (List AV)} {u:List AV} {b:Nat}
def St.fr (k t:Nat) (U:St c I H Γ a w) (hk:H[k]?=some (Own.row v E sz l):=by rfl) (ht:Env.get t Γ=some (.val v):=by rfl):∃I',St c I' (H.set k Own.gone) ((t,.rows sz l)::Γ) a w:=
 let⟨I',h,hf⟩:=U.ph k hk
 ⟨I',h.sQ ht hf⟩
def St.fb (k t:Nat) (U:St c I H Γ a w) (hk:H[k]?=some (Own.box b T u):=by rfl) (ht:Env.get t Γ=some (.val (.pointer (some ⟨b,0,none⟩))):=by rfl):∃I',St c I' (H.set k Own.gone) ((t,.ptr u)::Γ) a w:=
 let⟨I',h,hf⟩:=U.I7 k hk
 ⟨I',h.sQ ht hf⟩
def St.fu (k q j:Nat) (U:St c I H Γ a w) (hk:H[k]?=some (Own.row v E sz l):=by rfl) (hj:(H.set k Own.gone)[j]?=some (Own.box b T u):=by rfl) (hq:u[q]?=some (.val v):=by rfl):∃I',St c I' ((H.set k Own.gone).set j (Own.box b T (u.set q (.rows sz l)))) Γ a w:=
 let⟨I',h,hf⟩:=U.ph k hk
 ⟨I',h.qf j hj hq hf⟩
end
section
variable {P:Program} {H:List Own} {Γ:Env}
def Fn.go {f:FuncId} {fn:Func} {code:Code} {args:List AV} {res:AV} (N:Nat) (hf:P.funcs[f]?=some fn) (hn:fn.ntmps=N)
 (h:∀(W:World) (I:Im) (a:Act),St ⟨W,I,N,jD⟩ I [] (ke 0 args) a W->code.wp P (bodyPost P fn (sI jD I W res)) a W)
 (hb:fn.body=some code:=by rfl) (hN:Nat.ble args.length N=true:=by rfl) (l4:(fn.name== "runtime.NumGoroutine")=false:=by kernel_rfl):Fn P f args res:=Fn.intro N hf hb hn hN l4 h
def jG.sx {s b n m:Nat} {T T':TypeId} {zv:Value} {l:List AV} (k:Nat) [hT:cL P T true n m zv] (h:Env.get s Γ=some (.val (.pointer (some ⟨b,0,none⟩))):=by rfl) (hk:H[k]?=some (Own.box b T' l):=by rfl) (hn:l.length=n:=by first|rfl|assumption):jG P H Γ (.cell s T) (.agg l):=.s k hT.h h hk hn
def jG.x {r:ResultVar} {x:AV} (h:jG P H Γ r x:=by first|exact .t rfl|exact .nil rfl):jG P H Γ r x:=h
def TD {α:Type}:(∀(n:Nat) (a:α) (l:List α),List.take (n+1) (a::l)=a::List.take n l)/\(∀l:List α,List.take 0 l=[])/\(∀(n:Nat) (a:α) (l:List α),List.drop (n+1) (a::l)=List.drop n l)/\(∀l:List α,List.drop 0 l=l):=
 ⟨λ_ _ _=>rfl,λ_=>rfl,λ_ _ _=>rfl,λ_=>rfl⟩
end
section
variable {P:Program} {c:Ctx} {I:Im} {H:List Own} {Γ:Env} {a:Act} {w:World}
def St.ln {α:Type} {s:Nat} {f:α->List AV} {l:List α} {xs:List AV} (U:St c I H Γ a w) (t i:Nat) (ht:Env.get t Γ=some (.agg xs):=by rfl) (hi:xs[i]?=some (.rows s (l.map f)):=by rfl):l.length<=9223372036854775807:=by
 obtain⟨cs,_,hc⟩:=U.env t _ ht;obtain⟨u,_,h,_⟩:=hc.get hi;exact xd h
end
section
variable {P:Program} {c:Ctx} {I:Im} {H:List Own} {Γ:Env} {a:Act} {w:World} {Q:Exit->Act->World->Prop} {ops:Array Oper} {rest:List Oper} {y z:Operand} {ty T E:TypeId} {p:String} {af:Array Edge} {m n sz d:Nat} {zv:Value} {ag:Bool}
def St.ap {v:Value} {l l2:List (List AV)} (k:Nat) (U:St c I H Γ a w) (kk:∀v' a' w',St c I (H.set k (Own.row v' E sz (l++l2))) ((d,.val v')::Γ) a' w'->wpList P ops Q rest a' w') [hU:fF P T (.slice E)] [hE:cL P E ag sz m zv]
 (hy:At Γ true y (.val v):=by first|exact .tt|exact .c) (hz:At Γ true z (.rows sz l2):=by first|exact .tt|exact .nil .tt) (hk:H[k]?=some (Own.row v E sz l):=by rfl) (hb:(l.length+l2.length)*m<=140737488355328/\l.length+l2.length<=140737488355328:=by simp;omega) (hd:Nat.blt d c.n=true:=by rfl) (fe:zv.cells.size=sz:=by rfl):
 wpList P ops Q (⟨some d,.call ⟨.builtin .append,#[y,z],#[T,T]⟩,ty,p,af,none⟩::rest) a w:=U.append k hd hU.h hE.h fe hy hz hk hb kk
def St.l0 (U:St c I H Γ a w) (k:∀b I a' w',St c I (H++[Own.row (.slice (some ⟨b,0,none⟩) 0 0) E sz []]) ((d,.val (.slice (some ⟨b,0,none⟩) 0 0))::Γ) a' w'->wpList P ops Q rest a' w') [hU:fF P T (.slice E)] [hE:cL P E ag sz m zv] (cF:0<sz:=by decide) (hd:Nat.blt d c.n=true:=by rfl):
 wpList P ops Q (⟨some d,.buildSlice T 0 #[],ty,p,af,none⟩::rest) a w:=U.Rv hd hU.h hE.h cF k
def St.dt {id:Nat} {l:List Oper} (n:Nat) (U:St c I H Γ a w) (run:kf P c H l.toArray Q (l.drop n) Γ (l.take n)) (hm:P.follows .mixedOrders=true:=by kernel_rfl) (ff:lG (l.take n) (l.drop n)=true:=by kernel_rfl) (hd:((l.take n).all λo=>Nat.blt (o.dst.getD 0) c.n)=true:=by kernel_rfl):(Code.region id l.toArray true).wp P Q a w:=U.RG n hm ff hd run
def St.da {id:Nat} {l:List Oper} (n:Nat) (U:St c I H Γ a w) (run:fk P c H l.toArray Q (l.drop n) (λ_=>[]) 0 Γ (l.take n)) (hm:P.follows .mixedOrders=true:=by kernel_rfl) (ff:lG (l.take n) (l.drop n)=true:=by kernel_rfl) (hd:((l.take n).all λo=>Nat.blt (o.dst.getD 0) c.n)=true:=by kernel_rfl):(Code.region id l.toArray true).wp P Q a w:=U.Jr n hm ff hd run
end
end Go.Proofs.YtldbakcpcfdlaaaGreat

/- Part 7: rules of the proofs. -/
import Derived.Test.YtldbakcpcfdlaaaGreatProg
import Derived.Test.YtldbakcpcfdlaaaGreatP06
set_option linter.all false
namespace Go.Proofs.YtldbakcpcfdlaaaGreat
open Go Go.RowKit Tryz
section
variable {P:Program} {c:Ctx} {I:Im} {H:List Own} {Γ:Env} {a:Act} {w:World} {Q:Exit->Act->World->Prop} {ops:Array Oper} {rest:List Oper} {o:Oper} {x:AV} {g G:Bool} {y z y2:Operand} {ty T T':TypeId} {p:String} {af:Array Edge} {n m f:Nat} {zv:Value} {d:Option Tmp} {gd:Option (Nat×Bool)} {bo:BinOp} {uo:UnOp} {cc:Go.Call}
def Ok.QJ {m n:Int} (hy:At Γ g y (.int m):=by first|exact .tt|exact .c|exact .ag) (hz:At Γ g z (.int n):=by first|exact .tt|exact .c|exact .ag):Ok P H Γ g ⟨d,.binOp .eql T y z T',ty,p,af,gd⟩ (.bool (m==n)):=YB hy hz
def Ok.QK {m n:Int} (hy:At Γ g y (.int m):=by first|exact .tt|exact .c|exact .ag) (hz:At Γ g z (.int n):=by first|exact .tt|exact .c|exact .ag):Ok P H Γ g ⟨d,.binOp .neq T y z T',ty,p,af,gd⟩ (.bool (m !=n)):=YC hy hz
def Ok.QL {m n:Int} (hy:At Γ g y (.int m):=by first|exact .tt|exact .c|exact .ag) (hz:At Γ g z (.int n):=by first|exact .tt|exact .c|exact .ag):Ok P H Γ g ⟨d,.binOp .lss T y z T',ty,p,af,gd⟩ (.bool (decide (m<n))):=Ph hy hz
def Ok.QM {m n:Int} (hy:At Γ g y (.int m):=by first|exact .tt|exact .c|exact .ag) (hz:At Γ g z (.int n):=by first|exact .tt|exact .c|exact .ag):Ok P H Γ g ⟨d,.binOp .leq T y z T',ty,p,af,gd⟩ (.bool (decide (m<=n))):=Pj hy hz
def Ok.QN {m n:Int} (hy:At Γ g y (.int m):=by first|exact .tt|exact .c|exact .ag) (hz:At Γ g z (.int n):=by first|exact .tt|exact .c|exact .ag):Ok P H Γ g ⟨d,.binOp .gtr T y z T',ty,p,af,gd⟩ (.bool (decide (n<m))):=Pk hy hz
def Ok.QO {m n:Int} (hy:At Γ g y (.int m):=by first|exact .tt|exact .c|exact .ag) (hz:At Γ g z (.int n):=by first|exact .tt|exact .c|exact .ag):Ok P H Γ g ⟨d,.binOp .geq T y z T',ty,p,af,gd⟩ (.bool (decide (n<=m))):=Pm hy hz
def Ok.JJ {m n:Int} (hy:At Γ g y (.int m):=by first|exact .tt|exact .c|exact .ag) (hz:At Γ g z (.int n):=by first|exact .tt|exact .c|exact .ag) (hb:g=true->-9223372036854775808<=m+n/\m+n<=9223372036854775807:=by intro hg;first|omega|(simp at hg;omega)):Ok P H Γ g ⟨d,.binOp .add T y z T',ty,p,af,gd⟩ (.int (m+n)):=lW hy hz hb
def Ok.JK {m n:Int} (hy:At Γ g y (.int m):=by first|exact .tt|exact .c|exact .ag) (hz:At Γ g z (.int n):=by first|exact .tt|exact .c|exact .ag) (hb:g=true->-9223372036854775808<=m-n/\m-n<=9223372036854775807:=by intro hg;first|omega|(simp at hg;omega)):Ok P H Γ g ⟨d,.binOp .sub T y z T',ty,p,af,gd⟩ (.int (m-n)):=Pg hy hz hb
def Ok.QP {aa:Operand} {b x:Bool} (hc:At Γ g y (.bool b):=by first|exact .tt|exact .ag) (ha:At Γ g aa (.cond b (.bool x)):=by exact .pc):Ok P H Γ g ⟨d,.pick y aa (.const (.bool false)),ty,p,af,gd⟩ (.bool (b&&x)):=Yz hc ha .c
def Ok.QQ {bb:Operand} {b x:Bool} (hc:At Γ g y (.bool b):=by first|exact .tt|exact .ag) (hb:At Γ g bb (.cond (!b) (.bool x)):=by exact .pc):Ok P H Γ g ⟨d,.pick y (.const (.bool true)) bb,ty,p,af,gd⟩ (.bool (b||x)):=YA hc .c hb
def Ok.kM (h:Ok P H Γ g ⟨d,.move y,ty,p,af,gd⟩ x):Ok P H Γ g ⟨d,.move y,ty,p,af,gd⟩ x:=h
def Ok.kL (h:Ok P H Γ g ⟨d,.load T y,ty,p,af,gd⟩ x):Ok P H Γ g ⟨d,.load T y,ty,p,af,gd⟩ x:=h
def Ok.kF (h:Ok P H Γ g ⟨d,.fieldAddr T y f,ty,p,af,gd⟩ x):Ok P H Γ g ⟨d,.fieldAddr T y f,ty,p,af,gd⟩ x:=h
def Ok.kA (h:Ok P H Γ g ⟨d,.assign y,ty,p,af,gd⟩ x):Ok P H Γ g ⟨d,.assign y,ty,p,af,gd⟩ x:=h
def Ok.QR (h:Ok P H Γ g ⟨d,.binOp .eql T y z T',ty,p,af,gd⟩ x):Ok P H Γ g ⟨d,.binOp .eql T y z T',ty,p,af,gd⟩ x:=h
def Ok.QS (h:Ok P H Γ g ⟨d,.binOp .lss T y z T',ty,p,af,gd⟩ x):Ok P H Γ g ⟨d,.binOp .lss T y z T',ty,p,af,gd⟩ x:=h
def Ok.kP (h:Ok P H Γ g ⟨d,.pick y z y2,ty,p,af,gd⟩ x):Ok P H Γ g ⟨d,.pick y z y2,ty,p,af,gd⟩ x:=h
def Ok.kC (h:Ok P H Γ g ⟨d,.call cc,ty,p,af,gd⟩ x):Ok P H Γ g ⟨d,.call cc,ty,p,af,gd⟩ x:=h
def Ok.kI (h:Ok P H Γ g ⟨d,.indexAddr T y z,ty,p,af,gd⟩ x):Ok P H Γ g ⟨d,.indexAddr T y z,ty,p,af,gd⟩ x:=h
def Ok.QT (h:Ok P H Γ g ⟨d,.binOp .add T y z T',ty,p,af,gd⟩ x):Ok P H Γ g ⟨d,.binOp .add T y z T',ty,p,af,gd⟩ x:=h
def Ok.kX (h:Ok P H Γ g ⟨d,.box T y,ty,p,af,gd⟩ x):Ok P H Γ g ⟨d,.box T y,ty,p,af,gd⟩ x:=h
def Ok.kN (h:Ok P H Γ g ⟨d,.unOp uo T y,ty,p,af,gd⟩ x):Ok P H Γ g ⟨d,.unOp uo T y,ty,p,af,gd⟩ x:=h
def Ok.kZ (h:Ok P H Γ g ⟨d,.nilCheck y,ty,p,af,gd⟩ x):Ok P H Γ g ⟨d,.nilCheck y,ty,p,af,gd⟩ x:=h
def Ok.kE (h:Ok P H Γ g ⟨d,.extract y f,ty,p,af,gd⟩ x):Ok P H Γ g ⟨d,.extract y f,ty,p,af,gd⟩ x:=h
def Ok.QU (h:Ok P H Γ g ⟨d,.binOp .gtr T y z T',ty,p,af,gd⟩ x):Ok P H Γ g ⟨d,.binOp .gtr T y z T',ty,p,af,gd⟩ x:=h
def Ok.QV (h:Ok P H Γ g ⟨d,.binOp .neq T y z T',ty,p,af,gd⟩ x):Ok P H Γ g ⟨d,.binOp .neq T y z T',ty,p,af,gd⟩ x:=h
def Ok.QW (h:Ok P H Γ g ⟨d,.binOp .sub T y z T',ty,p,af,gd⟩ x):Ok P H Γ g ⟨d,.binOp .sub T y z T',ty,p,af,gd⟩ x:=h
def Ok.QX (h:Ok P H Γ g ⟨d,.binOp .leq T y z T',ty,p,af,gd⟩ x):Ok P H Γ g ⟨d,.binOp .leq T y z T',ty,p,af,gd⟩ x:=h
def Ok.QY (h:Ok P H Γ g ⟨d,.binOp .geq T y z T',ty,p,af,gd⟩ x):Ok P H Γ g ⟨d,.binOp .geq T y z T',ty,p,af,gd⟩ x:=h
def Ok.zo (h:Ok P H Γ g o x:=by
 first
 |(apply Ok.kM;first|exact .mv|exact zZ .c)
 |(apply Ok.kL;first|exact .l1|exact .lb 0|exact .JD|exact .JE|exact .ls 0|exact .lb 1|exact .ls 1|exact .lb 2|exact .ls 2|exact .lb 3|exact .ls 3|exact .lb 4|exact .ls 4|exact .lb 5|exact .ls 5|exact .lb 6|exact .ls 6)
 |(apply Ok.kF;first|exact .fp|exact .fv)
 |(apply Ok.kA;first|exact .as|exact uO .c)
 |(apply Ok.QR;exact .QJ)
 |(apply Ok.QS;exact .QL)
 |(apply Ok.kP;first|exact .QQ|exact .QP)
 |(apply Ok.kC;first|exact .JF|exact .JG|exact .JH)
 |(apply Ok.kI;first|exact .QE|exact .QD|exact .QF)
 |(apply Ok.QT;exact .JJ)
 |(apply Ok.kX;exact .bp)
 |(apply Ok.kN;exact .nt)
 |(apply Ok.kZ;exact .nl)
 |(apply Ok.kE;exact .e)
 |(apply Ok.QU;exact .QN)
 |(apply Ok.QV;exact .QK)
 |(apply Ok.QW;exact .JK)
 |(apply Ok.QX;exact .QM)
 |(apply Ok.QY;exact .QO)):Ok P H Γ g o x:=h
def Ok.zp (h:Ok P H Γ g o x:=by
 first
 |(apply Ok.kM;first|exact .mx .ag|exact .mv|exact zZ .c)
 |(apply Ok.kL;first|exact .lx .ag|exact .Cw 0 .ag|exact .Cw 1 .ag|exact .Cw 2 .ag|exact .Cw 3 .ag|exact .Cw 4 .ag|exact .l1|exact .lb 0|exact .JD|exact .JE|exact .ls 0|exact .lb 1|exact .ls 1|exact .lb 2|exact .ls 2|exact .lb 3|exact .ls 3|exact .lb 4|exact .ls 4|exact .lb 5|exact .ls 5|exact .lb 6|exact .ls 6)
 |(apply Ok.kF;first|exact .fx .ag|exact .fvx .ag|exact .fp|exact .fv)
 |(apply Ok.kA;first|exact .asx .ag|exact .as|exact uO .c)
 |(apply Ok.QR;exact .QJ)
 |(apply Ok.QS;exact .QL)
 |(apply Ok.kP;first|exact .QQ|exact .QP)
 |(apply Ok.kC;first|exact .JF|exact .JG|exact .JH)
 |(apply Ok.kI;first|exact .QE|exact .QD|exact .QF)
 |(apply Ok.QT;exact .JJ)
 |(apply Ok.kX;exact .bp)
 |(apply Ok.kN;first|exact .ntx .ag|exact .nt)
 |(apply Ok.kZ;exact .nl)
 |(apply Ok.kE;exact .e)
 |(apply Ok.QU;exact .QN)
 |(apply Ok.QV;exact .QK)
 |(apply Ok.QW;exact .JK)
 |(apply Ok.QX;exact .QM)
 |(apply Ok.QY;exact .QO)):Ok P H Γ g o x:=h
def jT.zg {b:Bool} (h:jT ops Γ o b:=by first|exact .T|exact .F|exact .T2|exact .F2):jT ops Γ o b:=h
def St.oy {d:Nat} {op:Op} (U:St c I H Γ a w) (hd:Nat.blt d c.n=true) (ok:Ok P H Γ true ⟨some d,op,ty,p,af,none⟩ x) (k:∀I' a' w',St c I' H ((d,x)::Γ) a' w'->wpList P ops Q rest a' w'):wpList P ops Q (⟨some d,op,ty,p,af,none⟩::rest) a w:=U.op rfl rfl hd ok k
def St.qy {d:Nat} {op:Op} {gd:Nat×Bool} (U:St c I H Γ a w) (hd:Nat.blt d c.n=true) (hg:jT ops Γ ⟨some d,op,ty,p,af,some gd⟩ G) (ok:Ok P H Γ G ⟨some d,op,ty,p,af,some gd⟩ x) (k:∀I' a' w',St c I' H ((d,.cond G x)::Γ) a' w'->wpList P ops Q rest a' w'):wpList P ops Q (⟨some d,op,ty,p,af,some gd⟩::rest) a w:=U.EN hg rfl hd ok k
def St.sz {b:Nat} {l lx:List AV} (k:Nat) (U:St c I H Γ a w) (kk:∀I' a' w',St c I' (H.set k (Own.box b T' lx)) Γ a' w'->wpList P ops Q rest a' w') [hT:eT P T true n m zv] (hy:At Γ true y (.val (.pointer (some ⟨b,0,none⟩))):=by first|exact .tt|exact .ag|exact .c) (hz:At Γ true z (.agg lx):=by first|exact .tt|exact .ag|exact .c)
 (hk:H[k]?=some (Own.box b T' l):=by rfl) (hn:lx.length=n:=by first|rfl|assumption) (hl:l.length=n:=by rfl):wpList P ops Q (⟨none,.store T y z,ty,p,af,none⟩::rest) a w:=U.PH k hT.h hy hz hk hn hl λ_ _ h=>kk _ _ _ h
def St.sy {b q:Nat} {l:List AV} (k:Nat) (U:St c I H Γ a w) (kk:∀I' a' w',St c I' (H.set k (Own.box b T' (l.set q x))) Γ a' w'->wpList P ops Q rest a' w') [hT:eT P T false 1 m zv] (hy:At Γ true y (.val (.pointer (some ⟨b,q,none⟩))):=by first|exact .tt|exact .ag|exact .c) (hz:At Γ true z x:=by first|exact .tt|exact .ag|exact .c|exact .nil (.t rfl)|exact .nil .c)
 (hx:x.One:=by first|exact j6 rfl|exact kg|exact kh|exact kr|assumption) (hk:H[k]?=some (Own.box b T' l):=by rfl) (hq:Nat.ble (q+1) l.length=true:=by rfl):wpList P ops Q (⟨none,.store T y z,ty,p,af,none⟩::rest) a w:=U.EV k hT.h hy hz hx hk hq λ_ _ h=>kk _ _ _ h
def kq.oo {os:List Oper} {d:Nat} {op:Op} (hg:d=d) (ok:Ok P H (Γ.only ((⟨some d,op,ty,p,af,none⟩:Oper).looksAt ops)) true ⟨some d,op,ty,p,af,none⟩ x) (k:kq P c H ops Q ((d,x)::Γ) os):kq P c H ops Q Γ (⟨some d,op,ty,p,af,none⟩::os):=.cons (.of rfl ok) k
def kq.qq {os:List Oper} {d:Nat} {op:Op} {gd:Nat×Bool} (hg:jT ops (Γ.only ((⟨some d,op,ty,p,af,some gd⟩:Oper).looksAt ops)) ⟨some d,op,ty,p,af,some gd⟩ G) (ok:Ok P H (Γ.only ((⟨some d,op,ty,p,af,some gd⟩:Oper).looksAt ops)) G ⟨some d,op,ty,p,af,some gd⟩ x) (k:kq P c H ops Q ((d,.cond G x)::Γ) os):kq P c H ops Q Γ (⟨some d,op,ty,p,af,some gd⟩::os):=.cons (.EO hg ok) k
def aak (h:wpList P ops Q (⟨none,.store T y z,ty,p,af,none⟩::rest) a w):wpList P ops Q (⟨none,.store T y z,ty,p,af,none⟩::rest) a w:=h
end
structure Hid (Q:Prop):Prop where
 out:Q
def zz {P Q:Prop} (k:Q) (h:Hid Q->P:=by
 intro gk;(with_reducible (repeat(first|refine nn ?_|refine sr ?_|refine bm ?_|refine wp_seq ?_|refine wp_block ?_|refine St.region ?_|refine wpList_nil ?_|refine z4 ?_|refine wp_skip ?_)));first
 |(apply St.oy U;rfl;exact .zo;intro I a w U)
 |(apply St.qy U;rfl;exact .zg;exact .zp;intro I a w U)
 |(refine aak ?_;first|refine U.sy 0 (λI a w U=>?_)|refine U.sz 0 (λI a w U=>?_)|refine U.sy 1 (λI a w U=>?_)|refine U.sz 1 (λI a w U=>?_)|refine U.sy 2 (λI a w U=>?_)|refine U.sz 2 (λI a w U=>?_)|refine U.sy 3 (λI a w U=>?_)|refine U.sz 3 (λI a w U=>?_)|refine U.sy 4 (λI a w U=>?_)|refine U.sz 4 (λI a w U=>?_)|refine U.sz 5 (λI a w U=>?_)|refine U.sz 6 (λI a w U=>?_))
 |(refine U.dk ?_;(repeat(first|(apply kq.oo;rfl;exact .zo)|(apply kq.qq;exact .zg;exact .zp)));refine .nil ?_;intro I a w U)
 revert I a w;exact gk.out):P:=h ⟨k⟩
def zk {P Q:Prop} (k:Q) (h:Hid Q->P:=by
 intro gk;first|(apply kq.oo;rfl;exact .zo)|(apply kq.qq;exact .zg;exact .zp)|refine .o .zo ?_|refine .q .zg .zp ?_
 exact gk.out):P:=h ⟨k⟩
def bD {P Q:Prop} (k:Q) (h:Hid Q->P:=by intro gk;(iterate 1 (refine zz λI a w U=>?_));revert I a w;exact gk.out):P:=h ⟨k⟩
def aG {P Q:Prop} (k:Q) (h:Hid Q->P:=by intro gk;(iterate 2 (refine zz λI a w U=>?_));revert I a w;exact gk.out):P:=h ⟨k⟩
def bk {P Q:Prop} (k:Q) (h:Hid Q->P:=by intro gk;(iterate 3 (refine zz λI a w U=>?_));revert I a w;exact gk.out):P:=h ⟨k⟩
def bx {P Q:Prop} (k:Q) (h:Hid Q->P:=by intro gk;(iterate 4 (refine zz λI a w U=>?_));revert I a w;exact gk.out):P:=h ⟨k⟩
def bY {P Q:Prop} (k:Q) (h:Hid Q->P:=by intro gk;(iterate 5 (refine zz λI a w U=>?_));revert I a w;exact gk.out):P:=h ⟨k⟩
def dZ {P Q:Prop} (k:Q) (h:Hid Q->P:=by intro gk;(iterate 6 (refine zz λI a w U=>?_));revert I a w;exact gk.out):P:=h ⟨k⟩
def g9 {P Q:Prop} (k:Q) (h:Hid Q->P:=by intro gk;(iterate 7 (refine zz λI a w U=>?_));revert I a w;exact gk.out):P:=h ⟨k⟩
def mz {P Q:Prop} (k:Q) (h:Hid Q->P:=by intro gk;(iterate 8 (refine zz λI a w U=>?_));revert I a w;exact gk.out):P:=h ⟨k⟩
def wJ {P Q:Prop} (k:Q) (h:Hid Q->P:=by intro gk;(iterate 9 (refine zz λI a w U=>?_));revert I a w;exact gk.out):P:=h ⟨k⟩
def wL {P Q:Prop} (k:Q) (h:Hid Q->P:=by intro gk;(iterate 10 (refine zz λI a w U=>?_));revert I a w;exact gk.out):P:=h ⟨k⟩
def Cx {P Q:Prop} (k:Q) (h:Hid Q->P:=by intro gk;(iterate 11 (refine zz λI a w U=>?_));revert I a w;exact gk.out):P:=h ⟨k⟩
def Fp {P Q:Prop} (k:Q) (h:Hid Q->P:=by intro gk;(iterate 12 (refine zz λI a w U=>?_));revert I a w;exact gk.out):P:=h ⟨k⟩
def wM {P Q:Prop} (k:Q) (h:Hid Q->P:=by intro gk;(iterate 13 (refine zz λI a w U=>?_));revert I a w;exact gk.out):P:=h ⟨k⟩
def aal {P Q:Prop} (k:Q) (h:Hid Q->P:=by intro gk;(iterate 14 (refine zz λI a w U=>?_));revert I a w;exact gk.out):P:=h ⟨k⟩
def Fq {P Q:Prop} (k:Q) (h:Hid Q->P:=by intro gk;(iterate 15 (refine zz λI a w U=>?_));revert I a w;exact gk.out):P:=h ⟨k⟩
def aam {P Q:Prop} (k:Q) (h:Hid Q->P:=by intro gk;(iterate 16 (refine zz λI a w U=>?_));revert I a w;exact gk.out):P:=h ⟨k⟩
def QZ {P Q:Prop} (k:Q) (h:Hid Q->P:=by intro gk;(iterate 17 (refine zz λI a w U=>?_));revert I a w;exact gk.out):P:=h ⟨k⟩
def Q0 {P Q:Prop} (k:Q) (h:Hid Q->P:=by intro gk;(iterate 19 (refine zz λI a w U=>?_));revert I a w;exact gk.out):P:=h ⟨k⟩
def aan {P Q:Prop} (k:Q) (h:Hid Q->P:=by intro gk;(iterate 20 (refine zz λI a w U=>?_));revert I a w;exact gk.out):P:=h ⟨k⟩
def Q1 {P Q:Prop} (k:Q) (h:Hid Q->P:=by intro gk;(iterate 21 (refine zz λI a w U=>?_));revert I a w;exact gk.out):P:=h ⟨k⟩
def aao {P Q:Prop} (k:Q) (h:Hid Q->P:=by intro gk;(iterate 22 (refine zz λI a w U=>?_));revert I a w;exact gk.out):P:=h ⟨k⟩
def aap {P Q:Prop} (k:Q) (h:Hid Q->P:=by intro gk;(iterate 23 (refine zz λI a w U=>?_));revert I a w;exact gk.out):P:=h ⟨k⟩
def aaq {P Q:Prop} (k:Q) (h:Hid Q->P:=by intro gk;(iterate 24 (refine zz λI a w U=>?_));revert I a w;exact gk.out):P:=h ⟨k⟩
def aar {P Q:Prop} (k:Q) (h:Hid Q->P:=by intro gk;(iterate 27 (refine zz λI a w U=>?_));revert I a w;exact gk.out):P:=h ⟨k⟩
def JL {P Q:Prop} (k:Q) (h:Hid Q->P:=by intro gk;(iterate 32 (refine zz λI a w U=>?_));revert I a w;exact gk.out):P:=h ⟨k⟩
def zt {P Q:Prop} (k:Q) (h:Hid Q->P:=by
 intro gk;(with_reducible (repeat(first|refine nn ?_|refine sr ?_|refine bm ?_|refine wp_seq ?_|refine wp_block ?_|refine St.region ?_|refine wpList_nil ?_|refine z4 ?_|refine wp_skip ?_|refine wp_ret ?_|refine z3 ?_|refine xQ ?_|refine wp_exit ?_|refine cB ?_|refine fo ?_|refine YH rfl ?_)));exact gk.out):P:=h ⟨k⟩
def cz {P Q R:Prop} (k:Q) (l:R) (h:Hid Q->Hid R->P:=by
 intro gk gl;refine U.cd (λgb=>?_) (λgb=>?_)
 ·(try simp only[B] at gb);revert gb;exact gk.out
 (try simp only[B] at gb);revert gb;exact gl.out):P:=h ⟨k⟩ ⟨l⟩
def tN {P Q R:Prop} (k:Q) (l:R) (h:Hid Q->Hid R->P:=by
 intro gk gl;refine U.cd (λgb=>?_) (λgb=>?_)
 ·(try simp only[B] at gb);revert gb;exact gk.out
 revert gb;exact gl.out):P:=h ⟨k⟩ ⟨l⟩
def Cy {P Q R:Prop} (k:Q) (l:R) (h:Hid Q->Hid R->P:=by
 intro gk gl;refine U.cd (λgb=>?_) (λgb=>?_)
 .revert gb;exact gk.out
 (try simp only[B] at gb);revert gb;exact gl.out):P:=h ⟨k⟩ ⟨l⟩
def aB {P Q:Prop} (k:Q) (h:Hid Q->P:=by intro gk;(iterate 1 (refine zz λI a w U=>?_));refine zt ?_;revert I a w;exact gk.out):P:=h ⟨k⟩
def aF {P Q:Prop} (k:Q) (h:Hid Q->P:=by intro gk;(iterate 2 (refine zz λI a w U=>?_));refine zt ?_;revert I a w;exact gk.out):P:=h ⟨k⟩
def aR {P Q:Prop} (k:Q) (h:Hid Q->P:=by intro gk;(iterate 3 (refine zz λI a w U=>?_));refine zt ?_;revert I a w;exact gk.out):P:=h ⟨k⟩
def bf {P Q:Prop} (k:Q) (h:Hid Q->P:=by intro gk;refine aB λI a w U=>?_;refine U.rt ?_;exact gk.out):P:=h ⟨k⟩
def c8 {P Q:Prop} (k:Q) (h:Hid Q->P:=by intro gk;refine aF λI a w U=>?_;refine U.rt ?_;exact gk.out):P:=h ⟨k⟩
def tO {P Q:Prop} (k:Q) (h:Hid Q->P:=by intro gk;refine aR λI a w U=>?_;refine U.rt ?_;exact gk.out):P:=h ⟨k⟩
def aX {P Q:Prop} (k:Q) (h:Hid Q->P:=by intro gk;(iterate 4 (refine zz λI a w U=>?_));refine zt ?_;revert I a w;exact gk.out):P:=h ⟨k⟩
def cF {P Q:Prop} (k:Q) (h:Hid Q->P:=by intro gk;(iterate 5 (refine zz λI a w U=>?_));refine zt ?_;revert I a w;exact gk.out):P:=h ⟨k⟩
def iM {P Q:Prop} (k:Q) (h:Hid Q->P:=by intro gk;(iterate 6 (refine zz λI a w U=>?_));refine zt ?_;revert I a w;exact gk.out):P:=h ⟨k⟩
def jW {P Q:Prop} (k:Q) (h:Hid Q->P:=by intro gk;(iterate 7 (refine zz λI a w U=>?_));refine zt ?_;revert I a w;exact gk.out):P:=h ⟨k⟩
def pJ {P Q:Prop} (k:Q) (h:Hid Q->P:=by intro gk;(iterate 8 (refine zz λI a w U=>?_));refine zt ?_;revert I a w;exact gk.out):P:=h ⟨k⟩
def oE {P Q:Prop} (k:Q) (h:Hid Q->P:=by intro gk;(iterate 9 (refine zz λI a w U=>?_));refine zt ?_;revert I a w;exact gk.out):P:=h ⟨k⟩
def yf {P Q:Prop} (k:Q) (h:Hid Q->P:=by intro gk;(iterate 10 (refine zz λI a w U=>?_));refine zt ?_;revert I a w;exact gk.out):P:=h ⟨k⟩
def Ai {P Q:Prop} (k:Q) (h:Hid Q->P:=by intro gk;(iterate 11 (refine zz λI a w U=>?_));refine zt ?_;revert I a w;exact gk.out):P:=h ⟨k⟩
def yg {P Q:Prop} (k:Q) (h:Hid Q->P:=by intro gk;(iterate 12 (refine zz λI a w U=>?_));refine zt ?_;revert I a w;exact gk.out):P:=h ⟨k⟩
def Fs {P Q:Prop} (k:Q) (h:Hid Q->P:=by intro gk;(iterate 13 (refine zz λI a w U=>?_));refine zt ?_;revert I a w;exact gk.out):P:=h ⟨k⟩
def aas {P Q:Prop} (k:Q) (h:Hid Q->P:=by intro gk;(iterate 14 (refine zz λI a w U=>?_));refine zt ?_;revert I a w;exact gk.out):P:=h ⟨k⟩
def aat {P Q:Prop} (k:Q) (h:Hid Q->P:=by intro gk;(iterate 16 (refine zz λI a w U=>?_));refine zt ?_;revert I a w;exact gk.out):P:=h ⟨k⟩
def JM {P Q:Prop} (k:Q) (h:Hid Q->P:=by intro gk;(iterate 17 (refine zz λI a w U=>?_));refine zt ?_;revert I a w;exact gk.out):P:=h ⟨k⟩
def Q2 {P Q:Prop} (k:Q) (h:Hid Q->P:=by intro gk;(iterate 19 (refine zz λI a w U=>?_));refine zt ?_;revert I a w;exact gk.out):P:=h ⟨k⟩
def JN {P Q:Prop} (k:Q) (h:Hid Q->P:=by intro gk;(iterate 20 (refine zz λI a w U=>?_));refine zt ?_;revert I a w;exact gk.out):P:=h ⟨k⟩
def aau {P Q:Prop} (k:Q) (h:Hid Q->P:=by intro gk;(iterate 21 (refine zz λI a w U=>?_));refine zt ?_;revert I a w;exact gk.out):P:=h ⟨k⟩
def aav {P Q:Prop} (k:Q) (h:Hid Q->P:=by intro gk;(iterate 22 (refine zz λI a w U=>?_));refine zt ?_;revert I a w;exact gk.out):P:=h ⟨k⟩
def Ft {P Q:Prop} (k:Q) (h:Hid Q->P:=by intro gk;(iterate 23 (refine zz λI a w U=>?_));refine zt ?_;revert I a w;exact gk.out):P:=h ⟨k⟩
def aaw {P Q:Prop} (k:Q) (h:Hid Q->P:=by intro gk;(iterate 29 (refine zz λI a w U=>?_));refine zt ?_;revert I a w;exact gk.out):P:=h ⟨k⟩
def JO {P Q:Prop} (k:Q) (h:Hid Q->P:=by intro gk;(iterate 31 (refine zz λI a w U=>?_));refine zt ?_;revert I a w;exact gk.out):P:=h ⟨k⟩
def bG {P Q:Prop} (k:Q) (h:Hid Q->P:=by intro gk;(iterate 1 (refine zk ?_));exact gk.out):P:=h ⟨k⟩
def cG {P Q:Prop} (k:Q) (h:Hid Q->P:=by intro gk;(iterate 2 (refine zk ?_));exact gk.out):P:=h ⟨k⟩
def dO {P Q:Prop} (k:Q) (h:Hid Q->P:=by intro gk;(iterate 3 (refine zk ?_));exact gk.out):P:=h ⟨k⟩
def eb {P Q:Prop} (k:Q) (h:Hid Q->P:=by intro gk;(iterate 4 (refine zk ?_));exact gk.out):P:=h ⟨k⟩
def fZ {P Q:Prop} (k:Q) (h:Hid Q->P:=by intro gk;(iterate 5 (refine zk ?_));exact gk.out):P:=h ⟨k⟩
def iA {P Q:Prop} (k:Q) (h:Hid Q->P:=by intro gk;(iterate 6 (refine zk ?_));exact gk.out):P:=h ⟨k⟩
def mA {P Q:Prop} (k:Q) (h:Hid Q->P:=by intro gk;(iterate 7 (refine zk ?_));exact gk.out):P:=h ⟨k⟩
def ny {P Q:Prop} (k:Q) (h:Hid Q->P:=by intro gk;(iterate 8 (refine zk ?_));exact gk.out):P:=h ⟨k⟩
def vh {P Q:Prop} (k:Q) (h:Hid Q->P:=by intro gk;(iterate 9 (refine zk ?_));exact gk.out):P:=h ⟨k⟩
def pK {P Q:Prop} (k:Q) (h:Hid Q->P:=by intro gk;(iterate 10 (refine zk ?_));exact gk.out):P:=h ⟨k⟩
def Q3 {P Q:Prop} (k:Q) (h:Hid Q->P:=by intro gk;(iterate 11 (refine zk ?_));exact gk.out):P:=h ⟨k⟩
def Fu {P Q:Prop} (k:Q) (h:Hid Q->P:=by intro gk;(iterate 12 (refine zk ?_));exact gk.out):P:=h ⟨k⟩
def tP {P Q:Prop} (k:Q) (h:Hid Q->P:=by intro gk;(iterate 14 (refine zk ?_));exact gk.out):P:=h ⟨k⟩
def aax {P Q:Prop} (k:Q) (h:Hid Q->P:=by intro gk;(iterate 15 (refine zk ?_));exact gk.out):P:=h ⟨k⟩
def pL {P Q:Prop} (k:Q) (h:Hid Q->P:=by intro gk;(iterate 16 (refine zk ?_));exact gk.out):P:=h ⟨k⟩
section
variable {P:Program} {c:Ctx} {I:Im} {H:List Own} {Γ:Env} {a:Act} {w:World} {E T:TypeId} {v:Value} {sz:Nat} {l:List (List AV)} {u:List AV} {b:Nat}
def St.fr (k t:Nat) (U:St c I H Γ a w) (hk:H[k]?=some (Own.row v E sz l):=by rfl) (ht:Env.get t Γ=some (.val v):=by rfl):∃I',St c I' (H.set k Own.gone) ((t,.rows sz l)::Γ) a w:=
 let⟨I',h,hf⟩:=U.wy k hk
 ⟨I',h.z7 ht hf⟩
def St.fb (k t:Nat) (U:St c I H Γ a w) (hk:H[k]?=some (Own.box b T u):=by rfl) (ht:Env.get t Γ=some (.val (.pointer (some ⟨b,0,none⟩))):=by rfl):∃I',St c I' (H.set k Own.gone) ((t,.ptr u)::Γ) a w:=
 let⟨I',h,hf⟩:=U.PR k hk
 ⟨I',h.z7 ht hf⟩
def St.fu (k q j:Nat) (U:St c I H Γ a w) (hk:H[k]?=some (Own.row v E sz l):=by rfl) (hj:(H.set k Own.gone)[j]?=some (Own.box b T u):=by rfl) (hq:u[q]?=some (.val v):=by rfl):∃I',St c I' ((H.set k Own.gone).set j (Own.box b T (u.set q (.rows sz l)))) Γ a w:=
 let⟨I',h,hf⟩:=U.wy k hk
 ⟨I',h.nY j hj hq hf⟩
end
section
variable {P:Program} {H:List Own} {Γ:Env}
def Fn.go {f:FuncId} {fn:Func} {code:Code} {args:List AV} {res:AV} (N:Nat) (hf:P.funcs[f]?=some fn) (hn:fn.ntmps=N)
 (h:∀(W:World) (I:Im) (a:Act),St ⟨W,I,N,lV⟩ I [] (nk 0 args) a W->code.wp P (bodyPost P fn (xO lV I W res)) a W)
 (hb:fn.body=some code:=by rfl) (hN:Nat.ble args.length N=true:=by rfl) (pq:(fn.name== "runtime.NumGoroutine")=false:=by kernel_rfl):Fn P f args res:=Fn.intro N hf hb hn hN pq h
def lZ.sx {s b n m:Nat} {T T':TypeId} {zv:Value} {l:List AV} (k:Nat) [hT:eT P T true n m zv] (h:Env.get s Γ=some (.val (.pointer (some ⟨b,0,none⟩))):=by rfl) (hk:H[k]?=some (Own.box b T' l):=by rfl) (hn:l.length=n:=by first|rfl|assumption):lZ P H Γ (.cell s T) (.agg l):=.s k hT.h h hk hn
def lZ.x {r:ResultVar} {x:AV} (h:lZ P H Γ r x:=by first|exact .t rfl|exact .nil rfl):lZ P H Γ r x:=h
def TD {α:Type}:(∀(n:Nat) (a:α) (l:List α),List.take (n+1) (a::l)=a::List.take n l)/\(∀l:List α,List.take 0 l=[])/\(∀(n:Nat) (a:α) (l:List α),List.drop (n+1) (a::l)=List.drop n l)/\(∀l:List α,List.drop 0 l=l):=
 ⟨λ_ _ _=>rfl,λ_=>rfl,λ_ _ _=>rfl,λ_=>rfl⟩
end
section
variable {P:Program} {c:Ctx} {I:Im} {H:List Own} {Γ:Env} {a:Act} {w:World}
def St.ln {α:Type} {s:Nat} {f:α->List AV} {l:List α} {xs:List AV} (U:St c I H Γ a w) (t i:Nat) (ht:Env.get t Γ=some (.agg xs):=by rfl) (hi:xs[i]?=some (.rows s (l.map f)):=by rfl):l.length<=9223372036854775807:=by
 obtain⟨cs,_,hc⟩:=U.env t _ ht;obtain⟨u,_,h,_⟩:=hc.get hi;exact xW h
end
section
variable {P:Program} {c:Ctx} {I:Im} {H:List Own} {Γ:Env} {a:Act} {w:World} {Q:Exit->Act->World->Prop} {ops:Array Oper} {rest:List Oper} {y z:Operand} {ty T E:TypeId} {p:String} {af:Array Edge} {m n sz d:Nat} {zv:Value} {ag:Bool}
def St.ap {v:Value} {l l2:List (List AV)} (k:Nat) (U:St c I H Γ a w) (kk:∀v' a' w',St c I (H.set k (Own.row v' E sz (l++l2))) ((d,.val v')::Γ) a' w'->wpList P ops Q rest a' w') [hU:ju P T (.slice E)] [hE:eT P E ag sz m zv]
 (hy:At Γ true y (.val v):=by first|exact .tt|exact .c) (hz:At Γ true z (.rows sz l2):=by first|exact .tt|exact .nil .tt) (hk:H[k]?=some (Own.row v E sz l):=by rfl) (hb:(l.length+l2.length)*m<=140737488355328/\l.length+l2.length<=140737488355328:=by simp;omega) (hd:Nat.blt d c.n=true:=by rfl) (gT:zv.cells.size=sz:=by rfl):
 wpList P ops Q (⟨some d,.call ⟨.builtin .append,#[y,z],#[T,T]⟩,ty,p,af,none⟩::rest) a w:=U.append k hd hU.h hE.h gT hy hz hk hb kk
def St.l0 (U:St c I H Γ a w) (k:∀b I a' w',St c I (H++[Own.row (.slice (some ⟨b,0,none⟩) 0 0) E sz []]) ((d,.val (.slice (some ⟨b,0,none⟩) 0 0))::Γ) a' w'->wpList P ops Q rest a' w') [hU:ju P T (.slice E)] [hE:eT P E ag sz m zv] (db:0<sz:=by decide) (hd:Nat.blt d c.n=true:=by rfl):
 wpList P ops Q (⟨some d,.buildSlice T 0 #[],ty,p,af,none⟩::rest) a w:=U.Zh hd hU.h hE.h db k
def St.dt {id:Nat} {l:List Oper} (n:Nat) (U:St c I H Γ a w) (run:nv P c H l.toArray Q (l.drop n) Γ (l.take n)) (hm:P.follows .mixedOrders=true:=by kernel_rfl) (gU:oA (l.take n) (l.drop n)=true:=by kernel_rfl) (hd:((l.take n).all λo=>Nat.blt (o.dst.getD 0) c.n)=true:=by kernel_rfl):(Code.region id l.toArray true).wp P Q a w:=U.Zs n hm gU hd run
def St.da {id:Nat} {l:List Oper} (n:Nat) (U:St c I H Γ a w) (run:gW P c H l.toArray Q (l.drop n) (λ_=>[]) 0 Γ (l.take n)) (hm:P.follows .mixedOrders=true:=by kernel_rfl) (gU:oA (l.take n) (l.drop n)=true:=by kernel_rfl) (hd:((l.take n).all λo=>Nat.blt (o.dst.getD 0) c.n)=true:=by kernel_rfl):(Code.region id l.toArray true).wp P Q a w:=U.Qb n hm gU hd run
end
end Go.Proofs.YtldbakcpcfdlaaaGreat
set_option maxRecDepth 100000
namespace Go.Proofs.YtldbakcpcfdlaaaGreat
open Go Go.RowKit Tryz
instance ti3:eT prog 3 false 1 8 (.int .i64 0):=⟨by kernel_rfl,by kernel_rfl⟩
def jH:Ty prog 3 false 1 8 (.int .i64 0):=ti3.h
def wN:∀u∈(Value.cells (.int .i64 0)).toList,u.oneCell'=true:=by simp[Value.cells,Value.oneCell']
instance ti4:eT prog 4 false 1 1 (.bool false):=⟨by kernel_rfl,by kernel_rfl⟩
def Aj:Ty prog 4 false 1 1 (.bool false):=ti4.h
def zc4:∀I,bN I [AV.val (.bool false)] (Value.cells (.bool false)).toList:=λ_=>⟨⟨rfl,rfl⟩,trivial⟩
instance ti5:eT prog 5 false 1 1 (.int .u8 0):=⟨by kernel_rfl,by kernel_rfl⟩
def yh:Ty prog 5 false 1 1 (.int .u8 0):=ti5.h
instance aoL:eT prog 22 false 1 24 (.slice none 0 0):=⟨by kernel_rfl,by kernel_rfl⟩
instance aoM:eT prog 23 false 1 24 (.slice none 0 0):=⟨by kernel_rfl,by kernel_rfl⟩
instance aaC:eT prog 24 false 1 24 (.slice none 0 0):=⟨by kernel_rfl,by kernel_rfl⟩
def JP:Ty prog 24 false 1 24 (.slice none 0 0):=aaC.h
instance aoN:eT prog 25 false 1 24 (.slice none 0 0):=⟨by kernel_rfl,by kernel_rfl⟩
instance aoO:eT prog 26 false 1 24 (.slice none 0 0):=⟨by kernel_rfl,by kernel_rfl⟩
instance aaD:eT prog 28 true 5 104 (.agg #[.int .i64 0,.slice none 0 0,.slice none 0 0,.slice none 0 0,.slice none 0 0]):=⟨by kernel_rfl,by kernel_rfl⟩
def dP:Ty prog 28 true 5 104 (.agg #[.int .i64 0,.slice none 0 0,.slice none 0 0,.slice none 0 0,.slice none 0 0]):=aaD.h
def dW:∀I,bN I [AV.val (.int .i64 0),AV.rows 7 [],AV.rows 15 [],AV.rows 13 [],AV.rows 1 []] (Value.cells (.agg #[.int .i64 0,.slice none 0 0,.slice none 0 0,.slice none 0 0,.slice none 0 0])).toList:=λ_=>⟨⟨rfl,rfl⟩,⟨fN _ _,rfl⟩,⟨fN _ _,rfl⟩,⟨fN _ _,rfl⟩,⟨fN _ _,rfl⟩,trivial⟩
def Ak:∀I,bN I [AV.val (.int .i64 0),AV.val (.slice none 0 0),AV.val (.slice none 0 0),AV.val (.slice none 0 0),AV.val (.slice none 0 0)] (Value.cells (.agg #[.int .i64 0,.slice none 0 0,.slice none 0 0,.slice none 0 0,.slice none 0 0])).toList:=λ_=>⟨⟨rfl,rfl⟩,⟨rfl,rfl⟩,⟨rfl,rfl⟩,⟨rfl,rfl⟩,⟨rfl,rfl⟩,trivial⟩
instance aoP:pI prog 28:=⟨by kernel_rfl⟩
instance aaE:eT prog 34 false 1 24 (.slice none 0 0):=⟨by kernel_rfl,by kernel_rfl⟩
def Q4:Ty prog 34 false 1 24 (.slice none 0 0):=aaE.h
def aaF:∀I,bN I [AV.rows 7 []] (Value.cells (.slice none 0 0)).toList:=λ_=>⟨⟨fN _ _,rfl⟩,trivial⟩
def aaG:∀u∈(Value.cells (.slice none 0 0)).toList,u.oneCell'=true:=by simp[Value.cells,Value.oneCell']
instance aaH:eT prog 37 false 1 24 (.slice none 0 0):=⟨by kernel_rfl,by kernel_rfl⟩
def aaI:Ty prog 37 false 1 24 (.slice none 0 0):=aaH.h
instance aoQ:eT prog 39 false 1 24 (.slice none 0 0):=⟨by kernel_rfl,by kernel_rfl⟩
instance aaJ:eT prog 40 false 1 24 (.slice none 0 0):=⟨by kernel_rfl,by kernel_rfl⟩
def qz:Ty prog 40 false 1 24 (.slice none 0 0):=aaJ.h
def Q5:∀I,bN I [AV.rows 3 []] (Value.cells (.slice none 0 0)).toList:=λ_=>⟨⟨fN _ _,rfl⟩,trivial⟩
def JQ:∀u∈(Value.cells (.slice none 0 0)).toList,u.oneCell'=true:=by simp[Value.cells,Value.oneCell']
instance aaK:eT prog 42 true 2 16 (.agg #[.int .i64 0,.int .i64 0]):=⟨by kernel_rfl,by kernel_rfl⟩
def mQ:Ty prog 42 true 2 16 (.agg #[.int .i64 0,.int .i64 0]):=aaK.h
def kv:∀I,bN I [AV.val (.int .i64 0),AV.val (.int .i64 0)] (Value.cells (.agg #[.int .i64 0,.int .i64 0])).toList:=λ_=>⟨⟨rfl,rfl⟩,⟨rfl,rfl⟩,trivial⟩
def Fv:∀u∈(Value.cells (.agg #[.int .i64 0,.int .i64 0])).toList,u.oneCell'=true:=by simp[Value.cells,Value.oneCell']
instance aoR:pI prog 42:=⟨by kernel_rfl⟩
instance aoS:eT prog 43 false 1 24 (.slice none 0 0):=⟨by kernel_rfl,by kernel_rfl⟩
instance aaL:eT prog 45 true 13 168 (.agg #[.int .i64 0,.int .i64 0,.int .i64 0,.slice none 0 0,.int .i64 0,.slice none 0 0,.int .i64 0,.int .i64 0,.bool false,.int .i64 0,.int .i64 0,.slice none 0 0,.slice none 0 0]):=⟨by kernel_rfl,by kernel_rfl⟩
def eJ:Ty prog 45 true 13 168 (.agg #[.int .i64 0,.int .i64 0,.int .i64 0,.slice none 0 0,.int .i64 0,.slice none 0 0,.int .i64 0,.int .i64 0,.bool false,.int .i64 0,.int .i64 0,.slice none 0 0,.slice none 0 0]):=aaL.h
def im:∀I,bN I [AV.val (.int .i64 0),AV.val (.int .i64 0),AV.val (.int .i64 0),AV.rows 1 [],AV.val (.int .i64 0),AV.rows 3 [],AV.val (.int .i64 0),AV.val (.int .i64 0),AV.val (.bool false),AV.val (.int .i64 0),AV.val (.int .i64 0),AV.rows 9 [],AV.rows 3 []] (Value.cells (.agg #[.int .i64 0,.int .i64 0,.int .i64 0,.slice none 0 0,.int .i64 0,.slice none 0 0,.int .i64 0,.int .i64 0,.bool false,.int .i64 0,.int .i64 0,.slice none 0 0,.slice none 0 0])).toList:=λ_=>⟨⟨rfl,rfl⟩,⟨rfl,rfl⟩,⟨rfl,rfl⟩,⟨fN _ _,rfl⟩,⟨rfl,rfl⟩,⟨fN _ _,rfl⟩,⟨rfl,rfl⟩,⟨rfl,rfl⟩,⟨rfl,rfl⟩,⟨rfl,rfl⟩,⟨rfl,rfl⟩,⟨fN _ _,rfl⟩,⟨fN _ _,rfl⟩,trivial⟩
def Fw:∀u∈(Value.cells (.agg #[.int .i64 0,.int .i64 0,.int .i64 0,.slice none 0 0,.int .i64 0,.slice none 0 0,.int .i64 0,.int .i64 0,.bool false,.int .i64 0,.int .i64 0,.slice none 0 0,.slice none 0 0])).toList,u.oneCell'=true:=by simp[Value.cells,Value.oneCell']
instance aoT:pI prog 45:=⟨by kernel_rfl⟩
instance aaM:eT prog 49 true 11 88 (.agg #[.int .i64 0,.int .i64 0,.int .i64 0,.int .i64 0,.int .i64 0,.int .i64 0,.int .i64 0,.int .i64 0,.int .i64 0,.int .i64 0,.int .i64 0]):=⟨by kernel_rfl,by kernel_rfl⟩
def Al:Ty prog 49 true 11 88 (.agg #[.int .i64 0,.int .i64 0,.int .i64 0,.int .i64 0,.int .i64 0,.int .i64 0,.int .i64 0,.int .i64 0,.int .i64 0,.int .i64 0,.int .i64 0]):=aaM.h
def gO:∀I,bN I [AV.val (.int .i64 0),AV.val (.int .i64 0),AV.val (.int .i64 0),AV.val (.int .i64 0),AV.val (.int .i64 0),AV.val (.int .i64 0),AV.val (.int .i64 0),AV.val (.int .i64 0),AV.val (.int .i64 0),AV.val (.int .i64 0),AV.val (.int .i64 0)] (Value.cells (.agg #[.int .i64 0,.int .i64 0,.int .i64 0,.int .i64 0,.int .i64 0,.int .i64 0,.int .i64 0,.int .i64 0,.int .i64 0,.int .i64 0,.int .i64 0])).toList:=λ_=>⟨⟨rfl,rfl⟩,⟨rfl,rfl⟩,⟨rfl,rfl⟩,⟨rfl,rfl⟩,⟨rfl,rfl⟩,⟨rfl,rfl⟩,⟨rfl,rfl⟩,⟨rfl,rfl⟩,⟨rfl,rfl⟩,⟨rfl,rfl⟩,⟨rfl,rfl⟩,trivial⟩
def aaN:∀u∈(Value.cells (.agg #[.int .i64 0,.int .i64 0,.int .i64 0,.int .i64 0,.int .i64 0,.int .i64 0,.int .i64 0,.int .i64 0,.int .i64 0,.int .i64 0,.int .i64 0])).toList,u.oneCell'=true:=by simp[Value.cells,Value.oneCell']
instance aoU:pI prog 49:=⟨by kernel_rfl⟩
instance aaO:eT prog 54 true 7 72 (.agg #[.int .i64 0,.int .i64 0,.int .i64 0,.int .i64 0,.int .i64 0,.int .i64 0,.slice none 0 0]):=⟨by kernel_rfl,by kernel_rfl⟩
def bL:Ty prog 54 true 7 72 (.agg #[.int .i64 0,.int .i64 0,.int .i64 0,.int .i64 0,.int .i64 0,.int .i64 0,.slice none 0 0]):=aaO.h
def ee:∀I,bN I [AV.val (.int .i64 0),AV.val (.int .i64 0),AV.val (.int .i64 0),AV.val (.int .i64 0),AV.val (.int .i64 0),AV.val (.int .i64 0),AV.rows 3 []] (Value.cells (.agg #[.int .i64 0,.int .i64 0,.int .i64 0,.int .i64 0,.int .i64 0,.int .i64 0,.slice none 0 0])).toList:=λ_=>⟨⟨rfl,rfl⟩,⟨rfl,rfl⟩,⟨rfl,rfl⟩,⟨rfl,rfl⟩,⟨rfl,rfl⟩,⟨rfl,rfl⟩,⟨fN _ _,rfl⟩,trivial⟩
def mB:∀u∈(Value.cells (.agg #[.int .i64 0,.int .i64 0,.int .i64 0,.int .i64 0,.int .i64 0,.int .i64 0,.slice none 0 0])).toList,u.oneCell'=true:=by simp[Value.cells,Value.oneCell']
instance aoV:pI prog 54:=⟨by kernel_rfl⟩
instance aaP:eT prog 56 true 9 88 (.agg #[.int .i64 0,.bool false,.int .i64 0,.int .i64 0,.int .i64 0,.int .i64 0,.int .i64 0,.int .i64 0,.slice none 0 0]):=⟨by kernel_rfl,by kernel_rfl⟩
def fg:Ty prog 56 true 9 88 (.agg #[.int .i64 0,.bool false,.int .i64 0,.int .i64 0,.int .i64 0,.int .i64 0,.int .i64 0,.int .i64 0,.slice none 0 0]):=aaP.h
def pM:∀I,bN I [AV.val (.int .i64 0),AV.val (.bool false),AV.val (.int .i64 0),AV.val (.int .i64 0),AV.val (.int .i64 0),AV.val (.int .i64 0),AV.val (.int .i64 0),AV.val (.int .i64 0),AV.rows 3 []] (Value.cells (.agg #[.int .i64 0,.bool false,.int .i64 0,.int .i64 0,.int .i64 0,.int .i64 0,.int .i64 0,.int .i64 0,.slice none 0 0])).toList:=λ_=>⟨⟨rfl,rfl⟩,⟨rfl,rfl⟩,⟨rfl,rfl⟩,⟨rfl,rfl⟩,⟨rfl,rfl⟩,⟨rfl,rfl⟩,⟨rfl,rfl⟩,⟨rfl,rfl⟩,⟨fN _ _,rfl⟩,trivial⟩
def wO:∀u∈(Value.cells (.agg #[.int .i64 0,.bool false,.int .i64 0,.int .i64 0,.int .i64 0,.int .i64 0,.int .i64 0,.int .i64 0,.slice none 0 0])).toList,u.oneCell'=true:=by simp[Value.cells,Value.oneCell']
instance aoW:pI prog 56:=⟨by kernel_rfl⟩
instance aoX:eT prog 85 false 1 8 (.pointer none):=⟨by kernel_rfl,by kernel_rfl⟩
instance aoY:eT prog 91 true 7 136 (.agg #[.pointer none,.int .i64 0,.slice none 0 0,.slice none 0 0,.slice none 0 0,.slice none 0 0,.slice none 0 0]):=⟨by kernel_rfl,by kernel_rfl⟩
def aaQ:∀I,bN I [AV.val (.pointer none),AV.val (.int .i64 0),AV.val (.slice none 0 0),AV.val (.slice none 0 0),AV.val (.slice none 0 0),AV.val (.slice none 0 0),AV.val (.slice none 0 0)] (Value.cells (.agg #[.pointer none,.int .i64 0,.slice none 0 0,.slice none 0 0,.slice none 0 0,.slice none 0 0,.slice none 0 0])).toList:=λ_=>⟨⟨rfl,rfl⟩,⟨rfl,rfl⟩,⟨rfl,rfl⟩,⟨rfl,rfl⟩,⟨rfl,rfl⟩,⟨rfl,rfl⟩,⟨rfl,rfl⟩,trivial⟩
instance aoZ:pI prog 91:=⟨by kernel_rfl⟩
instance ao0:eT prog 93 false 1 24 (.slice none 0 0):=⟨by kernel_rfl,by kernel_rfl⟩
instance aaR:eT prog 95 true 7 136 (.agg #[.int .i64 0,.bool false,.slice none 0 0,.slice none 0 0,.slice none 0 0,.slice none 0 0,.slice none 0 0]):=⟨by kernel_rfl,by kernel_rfl⟩
def cA:Ty prog 95 true 7 136 (.agg #[.int .i64 0,.bool false,.slice none 0 0,.slice none 0 0,.slice none 0 0,.slice none 0 0,.slice none 0 0]):=aaR.h
def dS:∀I,bN I [AV.val (.int .i64 0),AV.val (.bool false),AV.rows 2 [],AV.rows 7 [],AV.rows 7 [],AV.rows 3 [],AV.rows 3 []] (Value.cells (.agg #[.int .i64 0,.bool false,.slice none 0 0,.slice none 0 0,.slice none 0 0,.slice none 0 0,.slice none 0 0])).toList:=λ_=>⟨⟨rfl,rfl⟩,⟨rfl,rfl⟩,⟨fN _ _,rfl⟩,⟨fN _ _,rfl⟩,⟨fN _ _,rfl⟩,⟨fN _ _,rfl⟩,⟨fN _ _,rfl⟩,trivial⟩
def Fx:∀I,bN I [AV.val (.int .i64 0),AV.val (.bool false),AV.val (.slice none 0 0),AV.val (.slice none 0 0),AV.val (.slice none 0 0),AV.val (.slice none 0 0),AV.val (.slice none 0 0)] (Value.cells (.agg #[.int .i64 0,.bool false,.slice none 0 0,.slice none 0 0,.slice none 0 0,.slice none 0 0,.slice none 0 0])).toList:=λ_=>⟨⟨rfl,rfl⟩,⟨rfl,rfl⟩,⟨rfl,rfl⟩,⟨rfl,rfl⟩,⟨rfl,rfl⟩,⟨rfl,rfl⟩,⟨rfl,rfl⟩,trivial⟩
def Fy:∀u∈(Value.cells (.agg #[.int .i64 0,.bool false,.slice none 0 0,.slice none 0 0,.slice none 0 0,.slice none 0 0,.slice none 0 0])).toList,u.oneCell'=true:=by simp[Value.cells,Value.oneCell']
instance ao1:pI prog 95:=⟨by kernel_rfl⟩
instance aaS:eT prog 97 true 2 16 (.agg #[.int .i64 0,.int .i64 0]):=⟨by kernel_rfl,by kernel_rfl⟩
def fh:Ty prog 97 true 2 16 (.agg #[.int .i64 0,.int .i64 0]):=aaS.h
def oF:∀I,bN I [AV.val (.int .i64 0),AV.val (.int .i64 0)] (Value.cells (.agg #[.int .i64 0,.int .i64 0])).toList:=λ_=>⟨⟨rfl,rfl⟩,⟨rfl,rfl⟩,trivial⟩
def Fz:∀u∈(Value.cells (.agg #[.int .i64 0,.int .i64 0])).toList,u.oneCell'=true:=by simp[Value.cells,Value.oneCell']
instance ao2:pI prog 97:=⟨by kernel_rfl⟩
instance aaT:eT prog 108 true 15 184 (.agg #[.int .i64 0,.int .i64 0,.int .i64 0,.int .i64 0,.int .i64 0,.int .i64 0,.int .i64 0,.int .i64 0,.bool false,.slice none 0 0,.int .i64 0,.int .i64 0,.slice none 0 0,.slice none 0 0,.slice none 0 0]):=⟨by kernel_rfl,by kernel_rfl⟩
def dV:Ty prog 108 true 15 184 (.agg #[.int .i64 0,.int .i64 0,.int .i64 0,.int .i64 0,.int .i64 0,.int .i64 0,.int .i64 0,.int .i64 0,.bool false,.slice none 0 0,.int .i64 0,.int .i64 0,.slice none 0 0,.slice none 0 0,.slice none 0 0]):=aaT.h
def eU:∀I,bN I [AV.val (.int .i64 0),AV.val (.int .i64 0),AV.val (.int .i64 0),AV.val (.int .i64 0),AV.val (.int .i64 0),AV.val (.int .i64 0),AV.val (.int .i64 0),AV.val (.int .i64 0),AV.val (.bool false),AV.rows 3 [],AV.val (.int .i64 0),AV.val (.int .i64 0),AV.rows 7 [],AV.rows 7 [],AV.rows 3 []] (Value.cells (.agg #[.int .i64 0,.int .i64 0,.int .i64 0,.int .i64 0,.int .i64 0,.int .i64 0,.int .i64 0,.int .i64 0,.bool false,.slice none 0 0,.int .i64 0,.int .i64 0,.slice none 0 0,.slice none 0 0,.slice none 0 0])).toList:=λ_=>⟨⟨rfl,rfl⟩,⟨rfl,rfl⟩,⟨rfl,rfl⟩,⟨rfl,rfl⟩,⟨rfl,rfl⟩,⟨rfl,rfl⟩,⟨rfl,rfl⟩,⟨rfl,rfl⟩,⟨rfl,rfl⟩,⟨fN _ _,rfl⟩,⟨rfl,rfl⟩,⟨rfl,rfl⟩,⟨fN _ _,rfl⟩,⟨fN _ _,rfl⟩,⟨fN _ _,rfl⟩,trivial⟩
def aaU:∀I,bN I [AV.val (.int .i64 0),AV.val (.int .i64 0),AV.val (.int .i64 0),AV.val (.int .i64 0),AV.val (.int .i64 0),AV.val (.int .i64 0),AV.val (.int .i64 0),AV.val (.int .i64 0),AV.val (.bool false),AV.val (.slice none 0 0),AV.val (.int .i64 0),AV.val (.int .i64 0),AV.val (.slice none 0 0),AV.val (.slice none 0 0),AV.val (.slice none 0 0)] (Value.cells (.agg #[.int .i64 0,.int .i64 0,.int .i64 0,.int .i64 0,.int .i64 0,.int .i64 0,.int .i64 0,.int .i64 0,.bool false,.slice none 0 0,.int .i64 0,.int .i64 0,.slice none 0 0,.slice none 0 0,.slice none 0 0])).toList:=λ_=>⟨⟨rfl,rfl⟩,⟨rfl,rfl⟩,⟨rfl,rfl⟩,⟨rfl,rfl⟩,⟨rfl,rfl⟩,⟨rfl,rfl⟩,⟨rfl,rfl⟩,⟨rfl,rfl⟩,⟨rfl,rfl⟩,⟨rfl,rfl⟩,⟨rfl,rfl⟩,⟨rfl,rfl⟩,⟨rfl,rfl⟩,⟨rfl,rfl⟩,⟨rfl,rfl⟩,trivial⟩
def iN:∀u∈(Value.cells (.agg #[.int .i64 0,.int .i64 0,.int .i64 0,.int .i64 0,.int .i64 0,.int .i64 0,.int .i64 0,.int .i64 0,.bool false,.slice none 0 0,.int .i64 0,.int .i64 0,.slice none 0 0,.slice none 0 0,.slice none 0 0])).toList,u.oneCell'=true:=by simp[Value.cells,Value.oneCell']
instance ao3:pI prog 108:=⟨by kernel_rfl⟩
instance aaV:eT prog 125 true 3 24 (.agg #[.int .i64 0,.int .i64 0,.int .i64 0]):=⟨by kernel_rfl,by kernel_rfl⟩
def cW:Ty prog 125 true 3 24 (.agg #[.int .i64 0,.int .i64 0,.int .i64 0]):=aaV.h
def gX:∀I,bN I [AV.val (.int .i64 0),AV.val (.int .i64 0),AV.val (.int .i64 0)] (Value.cells (.agg #[.int .i64 0,.int .i64 0,.int .i64 0])).toList:=λ_=>⟨⟨rfl,rfl⟩,⟨rfl,rfl⟩,⟨rfl,rfl⟩,trivial⟩
def jk:∀u∈(Value.cells (.agg #[.int .i64 0,.int .i64 0,.int .i64 0])).toList,u.oneCell'=true:=by simp[Value.cells,Value.oneCell']
instance ao4:pI prog 125:=⟨by kernel_rfl⟩
instance ao5:eT prog 147 true 2 32 (.agg #[.slice none 0 0,.int .i64 0]):=⟨by kernel_rfl,by kernel_rfl⟩
def aaW:∀I,bN I [AV.rows 1 [],AV.val (.int .i64 0)] (Value.cells (.agg #[.slice none 0 0,.int .i64 0])).toList:=λ_=>⟨⟨fN _ _,rfl⟩,⟨rfl,rfl⟩,trivial⟩
instance ao6:pI prog 147:=⟨by kernel_rfl⟩
instance aaX:eT prog 182 true 2 16 (.agg #[.int .i64 0,.int .i64 0]):=⟨by kernel_rfl,by kernel_rfl⟩
def Q6:Ty prog 182 true 2 16 (.agg #[.int .i64 0,.int .i64 0]):=aaX.h
def Q7:∀I,bN I [AV.val (.int .i64 0),AV.val (.int .i64 0)] (Value.cells (.agg #[.int .i64 0,.int .i64 0])).toList:=λ_=>⟨⟨rfl,rfl⟩,⟨rfl,rfl⟩,trivial⟩
instance ui3:ju prog 3 (.int .i64):=⟨by kernel_rfl⟩
def oG:prog.underlying 3=some (.int .i64):=ui3.h
instance ui4:ju prog 4 (.bool):=⟨by kernel_rfl⟩
def wP:prog.underlying 4=some (.bool):=ui4.h
instance aa0:ju prog 22 (.slice 5):=⟨by kernel_rfl⟩
def yi:prog.underlying 22=some (.slice 5):=aa0.h
instance aa1:ju prog 23 (.slice 95):=⟨by kernel_rfl⟩
def vi:prog.underlying 23=some (.slice 95):=aa1.h
instance aa2:ju prog 24 (.slice 108):=⟨by kernel_rfl⟩
def gA:prog.underlying 24=some (.slice 108):=aa2.h
instance aa3:ju prog 25 (.slice 45):=⟨by kernel_rfl⟩
def mR:prog.underlying 25=some (.slice 45):=aa3.h
instance aa4:ju prog 26 (.slice 40):=⟨by kernel_rfl⟩
def Cz:prog.underlying 26=some (.slice 40):=aa4.h
instance aa5:ju prog 34 (.slice 54):=⟨by kernel_rfl⟩
def di:prog.underlying 34=some (.slice 54):=aa5.h
instance aa6:ju prog 37 (.slice 49):=⟨by kernel_rfl⟩
def Q8:prog.underlying 37=some (.slice 49):=aa6.h
instance aa7:ju prog 39 (.slice 3):=⟨by kernel_rfl⟩
def kR:prog.underlying 39=some (.slice 3):=aa7.h
instance aa8:ju prog 40 (.slice 125):=⟨by kernel_rfl⟩
def dX:prog.underlying 40=some (.slice 125):=aa8.h
instance aa9:ju prog 43 (.slice 56):=⟨by kernel_rfl⟩
def gP:prog.underlying 43=some (.slice 56):=aa9.h
instance aba:ju prog 93 (.slice 97):=⟨by kernel_rfl⟩
def gQ:prog.underlying 93=some (.slice 97):=aba.h
instance abb:ju prog 162 (.map 3 3):=⟨by kernel_rfl⟩
def abc:prog.underlying 162=some (.map 3 3):=abb.h
instance abd:ju prog 181 (.map 182 4):=⟨by kernel_rfl⟩
def abe:prog.underlying 181=some (.map 182 4):=abd.h
instance abf:ju prog 182 (.array 2 3):=⟨by kernel_rfl⟩
def JR:prog.underlying 182=some (.array 2 3):=abf.h
instance ao7:ju prog 236 (.slice 34):=⟨by kernel_rfl⟩
instance abg:ju prog 292 (.slice 42):=⟨by kernel_rfl⟩
def Q9:prog.underlying 292=some (.slice 42):=abg.h
instance ao8:cO prog 28 0 0 1:=⟨by unfold cL;kernel_rfl⟩
instance ao9:dH prog 28 0 0 1:=⟨by unfold cR;kernel_rfl⟩
instance apa:cO prog 28 1 1 1:=⟨by unfold cL;kernel_rfl⟩
instance apb:cO prog 28 2 2 1:=⟨by unfold cL;kernel_rfl⟩
instance abh:dH prog 28 2 2 1:=⟨by unfold cR;kernel_rfl⟩
def abi:cR prog 28 2=some (2,1):=abh.h
instance apc:cO prog 28 3 3 1:=⟨by unfold cL;kernel_rfl⟩
instance apd:cO prog 28 4 4 1:=⟨by unfold cL;kernel_rfl⟩
instance ape:dH prog 28 4 4 1:=⟨by unfold cR;kernel_rfl⟩
instance apf:cO prog 42 0 0 1:=⟨by unfold cL;kernel_rfl⟩
instance apg:dH prog 42 0 0 1:=⟨by unfold cR;kernel_rfl⟩
instance aph:cO prog 42 1 1 1:=⟨by unfold cL;kernel_rfl⟩
instance api:dH prog 42 1 1 1:=⟨by unfold cR;kernel_rfl⟩
instance apj:cO prog 45 0 0 1:=⟨by unfold cL;kernel_rfl⟩
instance apk:dH prog 45 0 0 1:=⟨by unfold cR;kernel_rfl⟩
instance apl:cO prog 45 1 1 1:=⟨by unfold cL;kernel_rfl⟩
instance apm:dH prog 45 1 1 1:=⟨by unfold cR;kernel_rfl⟩
instance apn:cO prog 45 2 2 1:=⟨by unfold cL;kernel_rfl⟩
instance apo:dH prog 45 2 2 1:=⟨by unfold cR;kernel_rfl⟩
instance apq:cO prog 45 3 3 1:=⟨by unfold cL;kernel_rfl⟩
instance abj:dH prog 45 3 3 1:=⟨by unfold cR;kernel_rfl⟩
def abk:cR prog 45 3=some (3,1):=abj.h
instance apr:cO prog 45 4 4 1:=⟨by unfold cL;kernel_rfl⟩
instance aps:cO prog 45 5 5 1:=⟨by unfold cL;kernel_rfl⟩
instance apt:dH prog 45 5 5 1:=⟨by unfold cR;kernel_rfl⟩
instance apu:cO prog 45 6 6 1:=⟨by unfold cL;kernel_rfl⟩
instance apv:dH prog 45 6 6 1:=⟨by unfold cR;kernel_rfl⟩
instance apw:cO prog 45 7 7 1:=⟨by unfold cL;kernel_rfl⟩
instance apx:cO prog 45 8 8 1:=⟨by unfold cL;kernel_rfl⟩
instance apy:cO prog 45 9 9 2:=⟨by unfold cL;kernel_rfl⟩
instance apz:cO prog 45 10 11 1:=⟨by unfold cL;kernel_rfl⟩
instance apA:cO prog 45 11 12 1:=⟨by unfold cL;kernel_rfl⟩
instance apB:cO prog 49 0 0 1:=⟨by unfold cL;kernel_rfl⟩
instance apC:dH prog 49 0 0 1:=⟨by unfold cR;kernel_rfl⟩
instance apD:cO prog 49 1 1 1:=⟨by unfold cL;kernel_rfl⟩
instance apE:dH prog 49 1 1 1:=⟨by unfold cR;kernel_rfl⟩
instance apF:cO prog 49 2 2 1:=⟨by unfold cL;kernel_rfl⟩
instance apG:dH prog 49 2 2 1:=⟨by unfold cR;kernel_rfl⟩
instance apH:cO prog 49 3 3 1:=⟨by unfold cL;kernel_rfl⟩
instance apI:dH prog 49 3 3 1:=⟨by unfold cR;kernel_rfl⟩
instance apJ:cO prog 49 4 4 1:=⟨by unfold cL;kernel_rfl⟩
instance apK:dH prog 49 4 4 1:=⟨by unfold cR;kernel_rfl⟩
instance apL:cO prog 49 5 5 1:=⟨by unfold cL;kernel_rfl⟩
instance apM:dH prog 49 5 5 1:=⟨by unfold cR;kernel_rfl⟩
instance apN:cO prog 49 6 6 1:=⟨by unfold cL;kernel_rfl⟩
instance apO:dH prog 49 6 6 1:=⟨by unfold cR;kernel_rfl⟩
instance apP:cO prog 49 7 7 1:=⟨by unfold cL;kernel_rfl⟩
instance apQ:dH prog 49 7 7 1:=⟨by unfold cR;kernel_rfl⟩
instance apR:cO prog 49 8 8 1:=⟨by unfold cL;kernel_rfl⟩
instance apS:dH prog 49 8 8 1:=⟨by unfold cR;kernel_rfl⟩
instance apT:cO prog 49 9 9 1:=⟨by unfold cL;kernel_rfl⟩
instance apU:dH prog 49 9 9 1:=⟨by unfold cR;kernel_rfl⟩
instance apV:cO prog 49 10 10 1:=⟨by unfold cL;kernel_rfl⟩
instance apW:dH prog 49 10 10 1:=⟨by unfold cR;kernel_rfl⟩
instance apX:cO prog 54 0 0 1:=⟨by unfold cL;kernel_rfl⟩
instance apY:dH prog 54 0 0 1:=⟨by unfold cR;kernel_rfl⟩
instance apZ:cO prog 54 1 1 2:=⟨by unfold cL;kernel_rfl⟩
instance ap0:dH prog 54 1 1 2:=⟨by unfold cR;kernel_rfl⟩
instance ap1:cO prog 54 2 3 1:=⟨by unfold cL;kernel_rfl⟩
instance ap2:dH prog 54 2 3 1:=⟨by unfold cR;kernel_rfl⟩
instance ap3:cO prog 54 3 4 1:=⟨by unfold cL;kernel_rfl⟩
instance ap4:dH prog 54 3 4 1:=⟨by unfold cR;kernel_rfl⟩
instance ap5:cO prog 54 4 5 1:=⟨by unfold cL;kernel_rfl⟩
instance ap6:dH prog 54 4 5 1:=⟨by unfold cR;kernel_rfl⟩
instance ap7:cO prog 54 5 6 1:=⟨by unfold cL;kernel_rfl⟩
instance ap8:dH prog 54 5 6 1:=⟨by unfold cR;kernel_rfl⟩
instance ap9:cO prog 56 0 0 1:=⟨by unfold cL;kernel_rfl⟩
instance aqa:dH prog 56 0 0 1:=⟨by unfold cR;kernel_rfl⟩
instance aqb:cO prog 56 1 1 1:=⟨by unfold cL;kernel_rfl⟩
instance aqc:dH prog 56 1 1 1:=⟨by unfold cR;kernel_rfl⟩
instance aqd:cO prog 56 2 2 7:=⟨by unfold cL;kernel_rfl⟩
instance aqe:dH prog 56 2 2 7:=⟨by unfold cR;kernel_rfl⟩
instance aqf:cO prog 91 0 0 1:=⟨by unfold cL;kernel_rfl⟩
instance aqg:dH prog 91 0 0 1:=⟨by unfold cR;kernel_rfl⟩
instance aqh:cO prog 91 1 1 5:=⟨by unfold cL;kernel_rfl⟩
instance aqi:dH prog 91 1 1 5:=⟨by unfold cR;kernel_rfl⟩
instance aqj:cO prog 91 2 6 1:=⟨by unfold cL;kernel_rfl⟩
instance aqk:cO prog 95 0 0 1:=⟨by unfold cL;kernel_rfl⟩
instance aql:dH prog 95 0 0 1:=⟨by unfold cR;kernel_rfl⟩
instance aqm:cO prog 95 1 1 1:=⟨by unfold cL;kernel_rfl⟩
instance aqn:dH prog 95 1 1 1:=⟨by unfold cR;kernel_rfl⟩
instance aqo:cO prog 95 2 2 1:=⟨by unfold cL;kernel_rfl⟩
instance abl:dH prog 95 2 2 1:=⟨by unfold cR;kernel_rfl⟩
def abm:cR prog 95 2=some (2,1):=abl.h
instance aqp:cO prog 95 3 3 1:=⟨by unfold cL;kernel_rfl⟩
instance abn:dH prog 95 3 3 1:=⟨by unfold cR;kernel_rfl⟩
def abo:cR prog 95 3=some (3,1):=abn.h
instance aqq:cO prog 95 4 4 1:=⟨by unfold cL;kernel_rfl⟩
instance abp:dH prog 95 4 4 1:=⟨by unfold cR;kernel_rfl⟩
def abq:cR prog 95 4=some (4,1):=abp.h
instance aqr:cO prog 95 5 5 1:=⟨by unfold cL;kernel_rfl⟩
instance abr:dH prog 95 5 5 1:=⟨by unfold cR;kernel_rfl⟩
def abt:cR prog 95 5=some (5,1):=abr.h
instance aqs:cO prog 95 6 6 1:=⟨by unfold cL;kernel_rfl⟩
instance abu:dH prog 95 6 6 1:=⟨by unfold cR;kernel_rfl⟩
def abv:cR prog 95 6=some (6,1):=abu.h
instance aqt:cO prog 97 0 0 1:=⟨by unfold cL;kernel_rfl⟩
instance aqu:dH prog 97 0 0 1:=⟨by unfold cR;kernel_rfl⟩
instance aqv:cO prog 97 1 1 1:=⟨by unfold cL;kernel_rfl⟩
instance aqw:dH prog 97 1 1 1:=⟨by unfold cR;kernel_rfl⟩
instance aqx:cO prog 108 0 0 1:=⟨by unfold cL;kernel_rfl⟩
instance aqy:dH prog 108 0 0 1:=⟨by unfold cR;kernel_rfl⟩
instance aqz:cO prog 108 1 1 1:=⟨by unfold cL;kernel_rfl⟩
instance aqA:dH prog 108 1 1 1:=⟨by unfold cR;kernel_rfl⟩
instance aqB:cO prog 108 2 2 1:=⟨by unfold cL;kernel_rfl⟩
instance aqC:dH prog 108 2 2 1:=⟨by unfold cR;kernel_rfl⟩
instance aqD:cO prog 108 3 3 1:=⟨by unfold cL;kernel_rfl⟩
instance aqE:dH prog 108 3 3 1:=⟨by unfold cR;kernel_rfl⟩
instance aqF:cO prog 108 4 4 1:=⟨by unfold cL;kernel_rfl⟩
instance aqG:dH prog 108 4 4 1:=⟨by unfold cR;kernel_rfl⟩
instance aqH:cO prog 108 5 5 2:=⟨by unfold cL;kernel_rfl⟩
instance aqI:dH prog 108 5 5 2:=⟨by unfold cR;kernel_rfl⟩
instance aqJ:cO prog 108 6 7 1:=⟨by unfold cL;kernel_rfl⟩
instance aqK:dH prog 108 6 7 1:=⟨by unfold cR;kernel_rfl⟩
instance aqL:cO prog 108 7 8 1:=⟨by unfold cL;kernel_rfl⟩
instance aqM:dH prog 108 7 8 1:=⟨by unfold cR;kernel_rfl⟩
instance aqN:cO prog 108 8 9 1:=⟨by unfold cL;kernel_rfl⟩
instance aqO:dH prog 108 8 9 1:=⟨by unfold cR;kernel_rfl⟩
instance aqP:cO prog 108 9 10 1:=⟨by unfold cL;kernel_rfl⟩
instance aqQ:dH prog 108 9 10 1:=⟨by unfold cR;kernel_rfl⟩
instance aqR:cO prog 108 10 11 1:=⟨by unfold cL;kernel_rfl⟩
instance aqS:dH prog 108 10 11 1:=⟨by unfold cR;kernel_rfl⟩
instance aqT:cO prog 108 11 12 1:=⟨by unfold cL;kernel_rfl⟩
instance aqU:dH prog 108 11 12 1:=⟨by unfold cR;kernel_rfl⟩
instance aqV:cO prog 108 12 13 1:=⟨by unfold cL;kernel_rfl⟩
instance aqW:cO prog 108 13 14 1:=⟨by unfold cL;kernel_rfl⟩
instance aqX:cO prog 125 0 0 1:=⟨by unfold cL;kernel_rfl⟩
instance aqY:dH prog 125 0 0 1:=⟨by unfold cR;kernel_rfl⟩
instance aqZ:cO prog 125 1 1 2:=⟨by unfold cL;kernel_rfl⟩
instance aq0:dH prog 125 1 1 2:=⟨by unfold cR;kernel_rfl⟩
instance aq1:cO prog 147 0 0 1:=⟨by unfold cL;kernel_rfl⟩
instance aq2:dH prog 147 0 0 1:=⟨by unfold cR;kernel_rfl⟩
instance aq3:cO prog 147 1 1 1:=⟨by unfold cL;kernel_rfl⟩
def nz:B7 prog 42 2:=⟨by kernel_rfl,λxs ys w hx hy=>by
 match xs,ys,hx,hy with
 |[x0,x1],[y0,y1],_,_=>
  simp[go_sem,Tryz.underlying42]
  (repeat' split)<;>simp_all⟩
def wQ:B7 prog 125 3:=⟨by kernel_rfl,λxs ys w hx hy=>by
 match xs,ys,hx,hy with
 |[x0,x1,x2],[y0,y1,y2],_,_=>
  simp[go_sem,Tryz.underlying125]
  (repeat' split)<;>simp_all⟩
def Ra:B7 prog 97 2:=⟨by kernel_rfl,λxs ys w hx hy=>by
 match xs,ys,hx,hy with
 |[x0,x1],[y0,y1],_,_=>
  simp[go_sem,Tryz.underlying97]
  (repeat' split)<;>simp_all⟩
end Go.Proofs.YtldbakcpcfdlaaaGreat

/- Part 7: rules of the proofs. -/
import Derived.Test.YtdanidpleofjgaaGreatProg
import Derived.Test.YtdanidpleofjgaaGreatP06
set_option linter.all false
namespace Go.Proofs.YtdanidpleofjgaaGreat
open Go Go.RowKit Tryz
section
variable {P:Program} {c:Ctx} {I:Im} {H:List Own} {Γ:Env} {a:Act} {w:World} {Q:Exit->Act->World->Prop} {ops:Array Oper} {rest:List Oper} {o:Oper} {x:AV} {g G:Bool} {y z y2:Operand} {ty T T':TypeId} {p:String} {af:Array Edge} {n m f:Nat} {zv:Value} {d:Option Tmp} {gd:Option (Nat×Bool)} {bo:BinOp} {uo:UnOp} {cc:Go.Call}
def Ok.Nu {m n:Int} (hy:At Γ g y (.int m):=by first|exact .tt|exact .c|exact .ag) (hz:At Γ g z (.int n):=by first|exact .tt|exact .c|exact .ag):Ok P H Γ g ⟨d,.binOp .eql T y z T',ty,p,af,gd⟩ (.bool (m==n)):=UF hy hz
def Ok.Nv {m n:Int} (hy:At Γ g y (.int m):=by first|exact .tt|exact .c|exact .ag) (hz:At Γ g z (.int n):=by first|exact .tt|exact .c|exact .ag):Ok P H Γ g ⟨d,.binOp .neq T y z T',ty,p,af,gd⟩ (.bool (m !=n)):=UG hy hz
def Ok.Nw {m n:Int} (hy:At Γ g y (.int m):=by first|exact .tt|exact .c|exact .ag) (hz:At Γ g z (.int n):=by first|exact .tt|exact .c|exact .ag):Ok P H Γ g ⟨d,.binOp .lss T y z T',ty,p,af,gd⟩ (.bool (decide (m<n))):=LX hy hz
def Ok.Nx {m n:Int} (hy:At Γ g y (.int m):=by first|exact .tt|exact .c|exact .ag) (hz:At Γ g z (.int n):=by first|exact .tt|exact .c|exact .ag):Ok P H Γ g ⟨d,.binOp .leq T y z T',ty,p,af,gd⟩ (.bool (decide (m<=n))):=LY hy hz
def Ok.Ny {m n:Int} (hy:At Γ g y (.int m):=by first|exact .tt|exact .c|exact .ag) (hz:At Γ g z (.int n):=by first|exact .tt|exact .c|exact .ag):Ok P H Γ g ⟨d,.binOp .gtr T y z T',ty,p,af,gd⟩ (.bool (decide (n<m))):=LZ hy hz
def Ok.Nz {m n:Int} (hy:At Γ g y (.int m):=by first|exact .tt|exact .c|exact .ag) (hz:At Γ g z (.int n):=by first|exact .tt|exact .c|exact .ag):Ok P H Γ g ⟨d,.binOp .geq T y z T',ty,p,af,gd⟩ (.bool (decide (n<=m))):=L0 hy hz
def Ok.GZ {m n:Int} (hy:At Γ g y (.int m):=by first|exact .tt|exact .c|exact .ag) (hz:At Γ g z (.int n):=by first|exact .tt|exact .c|exact .ag) (hb:g=true->-9223372036854775808<=m+n/\m+n<=9223372036854775807:=by intro hg;first|omega|(simp at hg;omega)):Ok P H Γ g ⟨d,.binOp .add T y z T',ty,p,af,gd⟩ (.int (m+n)):=lz hy hz hb
def Ok.G0 {m n:Int} (hy:At Γ g y (.int m):=by first|exact .tt|exact .c|exact .ag) (hz:At Γ g z (.int n):=by first|exact .tt|exact .c|exact .ag) (hb:g=true->-9223372036854775808<=m-n/\m-n<=9223372036854775807:=by intro hg;first|omega|(simp at hg;omega)):Ok P H Γ g ⟨d,.binOp .sub T y z T',ty,p,af,gd⟩ (.int (m-n)):=LW hy hz hb
def Ok.NA {aa:Operand} {b x:Bool} (hc:At Γ g y (.bool b):=by first|exact .tt|exact .ag) (ha:At Γ g aa (.cond b (.bool x)):=by exact .pc):Ok P H Γ g ⟨d,.pick y aa (.const (.bool false)),ty,p,af,gd⟩ (.bool (b&&x)):=UD hc ha .c
def Ok.NB {bb:Operand} {b x:Bool} (hc:At Γ g y (.bool b):=by first|exact .tt|exact .ag) (hb:At Γ g bb (.cond (!b) (.bool x)):=by exact .pc):Ok P H Γ g ⟨d,.pick y (.const (.bool true)) bb,ty,p,af,gd⟩ (.bool (b||x)):=UE hc .c hb
def Ok.kM (h:Ok P H Γ g ⟨d,.move y,ty,p,af,gd⟩ x):Ok P H Γ g ⟨d,.move y,ty,p,af,gd⟩ x:=h
def Ok.kL (h:Ok P H Γ g ⟨d,.load T y,ty,p,af,gd⟩ x):Ok P H Γ g ⟨d,.load T y,ty,p,af,gd⟩ x:=h
def Ok.kF (h:Ok P H Γ g ⟨d,.fieldAddr T y f,ty,p,af,gd⟩ x):Ok P H Γ g ⟨d,.fieldAddr T y f,ty,p,af,gd⟩ x:=h
def Ok.kA (h:Ok P H Γ g ⟨d,.assign y,ty,p,af,gd⟩ x):Ok P H Γ g ⟨d,.assign y,ty,p,af,gd⟩ x:=h
def Ok.NC (h:Ok P H Γ g ⟨d,.binOp .eql T y z T',ty,p,af,gd⟩ x):Ok P H Γ g ⟨d,.binOp .eql T y z T',ty,p,af,gd⟩ x:=h
def Ok.ND (h:Ok P H Γ g ⟨d,.binOp .lss T y z T',ty,p,af,gd⟩ x):Ok P H Γ g ⟨d,.binOp .lss T y z T',ty,p,af,gd⟩ x:=h
def Ok.kP (h:Ok P H Γ g ⟨d,.pick y z y2,ty,p,af,gd⟩ x):Ok P H Γ g ⟨d,.pick y z y2,ty,p,af,gd⟩ x:=h
def Ok.kC (h:Ok P H Γ g ⟨d,.call cc,ty,p,af,gd⟩ x):Ok P H Γ g ⟨d,.call cc,ty,p,af,gd⟩ x:=h
def Ok.kI (h:Ok P H Γ g ⟨d,.indexAddr T y z,ty,p,af,gd⟩ x):Ok P H Γ g ⟨d,.indexAddr T y z,ty,p,af,gd⟩ x:=h
def Ok.NF (h:Ok P H Γ g ⟨d,.binOp .add T y z T',ty,p,af,gd⟩ x):Ok P H Γ g ⟨d,.binOp .add T y z T',ty,p,af,gd⟩ x:=h
def Ok.kX (h:Ok P H Γ g ⟨d,.box T y,ty,p,af,gd⟩ x):Ok P H Γ g ⟨d,.box T y,ty,p,af,gd⟩ x:=h
def Ok.kN (h:Ok P H Γ g ⟨d,.unOp uo T y,ty,p,af,gd⟩ x):Ok P H Γ g ⟨d,.unOp uo T y,ty,p,af,gd⟩ x:=h
def Ok.kZ (h:Ok P H Γ g ⟨d,.nilCheck y,ty,p,af,gd⟩ x):Ok P H Γ g ⟨d,.nilCheck y,ty,p,af,gd⟩ x:=h
def Ok.kE (h:Ok P H Γ g ⟨d,.extract y f,ty,p,af,gd⟩ x):Ok P H Γ g ⟨d,.extract y f,ty,p,af,gd⟩ x:=h
def Ok.NG (h:Ok P H Γ g ⟨d,.binOp .gtr T y z T',ty,p,af,gd⟩ x):Ok P H Γ g ⟨d,.binOp .gtr T y z T',ty,p,af,gd⟩ x:=h
def Ok.NH (h:Ok P H Γ g ⟨d,.binOp .neq T y z T',ty,p,af,gd⟩ x):Ok P H Γ g ⟨d,.binOp .neq T y z T',ty,p,af,gd⟩ x:=h
def Ok.NI (h:Ok P H Γ g ⟨d,.binOp .sub T y z T',ty,p,af,gd⟩ x):Ok P H Γ g ⟨d,.binOp .sub T y z T',ty,p,af,gd⟩ x:=h
def Ok.NJ (h:Ok P H Γ g ⟨d,.binOp .leq T y z T',ty,p,af,gd⟩ x):Ok P H Γ g ⟨d,.binOp .leq T y z T',ty,p,af,gd⟩ x:=h
def Ok.NK (h:Ok P H Γ g ⟨d,.binOp .geq T y z T',ty,p,af,gd⟩ x):Ok P H Γ g ⟨d,.binOp .geq T y z T',ty,p,af,gd⟩ x:=h
def Ok.zo (h:Ok P H Γ g o x:=by
 first
 |(apply Ok.kM;first|exact .mv|exact z1 .c)
 |(apply Ok.kL;first|exact .l1|exact .lb 0|exact .GS|exact .GU|exact .ls 0|exact .lb 1|exact .ls 1|exact .lb 2|exact .ls 2|exact .lb 3|exact .ls 3|exact .lb 4|exact .ls 4|exact .lb 5|exact .ls 5|exact .lb 6|exact .ls 6)
 |(apply Ok.kF;first|exact .fp|exact .fv)
 |(apply Ok.kA;first|exact .as|exact xZ .c)
 |(apply Ok.NC;exact .Nu)
 |(apply Ok.ND;exact .Nw)
 |(apply Ok.kP;first|exact .NB|exact .NA)
 |(apply Ok.kC;first|exact .GV|exact .GW|exact .GX)
 |(apply Ok.kI;first|exact .Np|exact .No|exact .Nq)
 |(apply Ok.NF;exact .GZ)
 |(apply Ok.kX;exact .bp)
 |(apply Ok.kN;exact .nt)
 |(apply Ok.kZ;exact .nl)
 |(apply Ok.kE;exact .e)
 |(apply Ok.NG;exact .Ny)
 |(apply Ok.NH;exact .Nv)
 |(apply Ok.NI;exact .G0)
 |(apply Ok.NJ;exact .Nx)
 |(apply Ok.NK;exact .Nz)):Ok P H Γ g o x:=h
def Ok.zp (h:Ok P H Γ g o x:=by
 first
 |(apply Ok.kM;first|exact .mx .ag|exact .mv|exact z1 .c)
 |(apply Ok.kL;first|exact .lx .ag|exact .AM 0 .ag|exact .AM 1 .ag|exact .AM 2 .ag|exact .AM 3 .ag|exact .AM 4 .ag|exact .l1|exact .lb 0|exact .GS|exact .GU|exact .ls 0|exact .lb 1|exact .ls 1|exact .lb 2|exact .ls 2|exact .lb 3|exact .ls 3|exact .lb 4|exact .ls 4|exact .lb 5|exact .ls 5|exact .lb 6|exact .ls 6)
 |(apply Ok.kF;first|exact .fx .ag|exact .Wd .ag|exact .fp|exact .fv)
 |(apply Ok.kA;first|exact .Wa .ag|exact .as|exact xZ .c)
 |(apply Ok.NC;exact .Nu)
 |(apply Ok.ND;exact .Nw)
 |(apply Ok.kP;first|exact .NB|exact .NA)
 |(apply Ok.kC;first|exact .GV|exact .GW|exact .GX)
 |(apply Ok.kI;first|exact .Np|exact .No|exact .Nq)
 |(apply Ok.NF;exact .GZ)
 |(apply Ok.kX;exact .bp)
 |(apply Ok.kN;first|exact .Wb .ag|exact .nt)
 |(apply Ok.kZ;exact .nl)
 |(apply Ok.kE;exact .e)
 |(apply Ok.NG;exact .Ny)
 |(apply Ok.NH;exact .Nv)
 |(apply Ok.NI;exact .G0)
 |(apply Ok.NJ;exact .Nx)
 |(apply Ok.NK;exact .Nz)):Ok P H Γ g o x:=h
def jb.zg {b:Bool} (h:jb ops Γ o b:=by first|exact .T|exact .F|exact .T2|exact .F2):jb ops Γ o b:=h
def St.oy {d:Nat} {op:Op} (U:St c I H Γ a w) (hd:Nat.blt d c.n=true) (ok:Ok P H Γ true ⟨some d,op,ty,p,af,none⟩ x) (k:∀I' a' w',St c I' H ((d,x)::Γ) a' w'->wpList P ops Q rest a' w'):wpList P ops Q (⟨some d,op,ty,p,af,none⟩::rest) a w:=U.op rfl rfl hd ok k
def St.qy {d:Nat} {op:Op} {gd:Nat×Bool} (U:St c I H Γ a w) (hd:Nat.blt d c.n=true) (hg:jb ops Γ ⟨some d,op,ty,p,af,some gd⟩ G) (ok:Ok P H Γ G ⟨some d,op,ty,p,af,some gd⟩ x) (k:∀I' a' w',St c I' H ((d,.cond G x)::Γ) a' w'->wpList P ops Q rest a' w'):wpList P ops Q (⟨some d,op,ty,p,af,some gd⟩::rest) a w:=U.CG hg rfl hd ok k
def St.sz {b:Nat} {l lx:List AV} (k:Nat) (U:St c I H Γ a w) (kk:∀I' a' w',St c I' (H.set k (Own.box b T' lx)) Γ a' w'->wpList P ops Q rest a' w') [hT:er P T true n m zv] (hy:At Γ true y (.val (.pointer (some ⟨b,0,none⟩))):=by first|exact .tt|exact .ag|exact .c) (hz:At Γ true z (.agg lx):=by first|exact .tt|exact .ag|exact .c)
 (hk:H[k]?=some (Own.box b T' l):=by rfl) (hn:lx.length=n:=by first|rfl|assumption) (hl:l.length=n:=by rfl):wpList P ops Q (⟨none,.store T y z,ty,p,af,none⟩::rest) a w:=U.Mn k hT.h hy hz hk hn hl λ_ _ h=>kk _ _ _ h
def St.sy {b q:Nat} {l:List AV} (k:Nat) (U:St c I H Γ a w) (kk:∀I' a' w',St c I' (H.set k (Own.box b T' (l.set q x))) Γ a' w'->wpList P ops Q rest a' w') [hT:er P T false 1 m zv] (hy:At Γ true y (.val (.pointer (some ⟨b,q,none⟩))):=by first|exact .tt|exact .ag|exact .c) (hz:At Γ true z x:=by first|exact .tt|exact .ag|exact .c|exact .nil (.t rfl)|exact .nil .c)
 (hx:x.One:=by first|exact gn rfl|exact en|exact gC|exact gE|assumption) (hk:H[k]?=some (Own.box b T' l):=by rfl) (hq:Nat.ble (q+1) l.length=true:=by rfl):wpList P ops Q (⟨none,.store T y z,ty,p,af,none⟩::rest) a w:=U.ye k hT.h hy hz hx hk hq λ_ _ h=>kk _ _ _ h
def jD.oo {os:List Oper} {d:Nat} {op:Op} (hg:d=d) (ok:Ok P H (Γ.only ((⟨some d,op,ty,p,af,none⟩:Oper).looksAt ops)) true ⟨some d,op,ty,p,af,none⟩ x) (k:jD P c H ops Q ((d,x)::Γ) os):jD P c H ops Q Γ (⟨some d,op,ty,p,af,none⟩::os):=.cons (.of rfl ok) k
def jD.qq {os:List Oper} {d:Nat} {op:Op} {gd:Nat×Bool} (hg:jb ops (Γ.only ((⟨some d,op,ty,p,af,some gd⟩:Oper).looksAt ops)) ⟨some d,op,ty,p,af,some gd⟩ G) (ok:Ok P H (Γ.only ((⟨some d,op,ty,p,af,some gd⟩:Oper).looksAt ops)) G ⟨some d,op,ty,p,af,some gd⟩ x) (k:jD P c H ops Q ((d,.cond G x)::Γ) os):jD P c H ops Q Γ (⟨some d,op,ty,p,af,some gd⟩::os):=.cons (.CH hg ok) k
def Wf (h:wpList P ops Q (⟨none,.store T y z,ty,p,af,none⟩::rest) a w):wpList P ops Q (⟨none,.store T y z,ty,p,af,none⟩::rest) a w:=h
end
structure Hid (Q:Prop):Prop where
 out:Q
def zz {P Q:Prop} (k:Q) (h:Hid Q->P:=by
 intro gk;(with_reducible (repeat(first|refine nn ?_|refine sr ?_|refine bk ?_|refine wp_seq ?_|refine wp_block ?_|refine St.region ?_|refine wpList_nil ?_|refine z7 ?_|refine wp_skip ?_)));first
 |(apply St.oy U;rfl;exact .zo;intro I a w U)
 |(apply St.qy U;rfl;exact .zg;exact .zp;intro I a w U)
 |(refine Wf ?_;first|refine U.sy 0 (λI a w U=>?_)|refine U.sz 0 (λI a w U=>?_)|refine U.sy 1 (λI a w U=>?_)|refine U.sz 1 (λI a w U=>?_)|refine U.sy 2 (λI a w U=>?_)|refine U.sz 2 (λI a w U=>?_)|refine U.sy 3 (λI a w U=>?_)|refine U.sz 3 (λI a w U=>?_)|refine U.sy 4 (λI a w U=>?_)|refine U.sz 4 (λI a w U=>?_)|refine U.sz 5 (λI a w U=>?_)|refine U.sz 6 (λI a w U=>?_))
 |(refine U.dk ?_;(repeat(first|(apply jD.oo;rfl;exact .zo)|(apply jD.qq;exact .zg;exact .zp)));refine .nil ?_;intro I a w U)
 revert I a w;exact gk.out):P:=h ⟨k⟩
def zk {P Q:Prop} (k:Q) (h:Hid Q->P:=by
 intro gk;first|(apply jD.oo;rfl;exact .zo)|(apply jD.qq;exact .zg;exact .zp)|refine .o .zo ?_|refine .q .zg .zp ?_
 exact gk.out):P:=h ⟨k⟩
def bA {P Q:Prop} (k:Q) (h:Hid Q->P:=by intro gk;(iterate 1 (refine zz λI a w U=>?_));revert I a w;exact gk.out):P:=h ⟨k⟩
def aH {P Q:Prop} (k:Q) (h:Hid Q->P:=by intro gk;(iterate 2 (refine zz λI a w U=>?_));revert I a w;exact gk.out):P:=h ⟨k⟩
def aV {P Q:Prop} (k:Q) (h:Hid Q->P:=by intro gk;(iterate 3 (refine zz λI a w U=>?_));revert I a w;exact gk.out):P:=h ⟨k⟩
def bz {P Q:Prop} (k:Q) (h:Hid Q->P:=by intro gk;(iterate 4 (refine zz λI a w U=>?_));revert I a w;exact gk.out):P:=h ⟨k⟩
def bO {P Q:Prop} (k:Q) (h:Hid Q->P:=by intro gk;(iterate 5 (refine zz λI a w U=>?_));revert I a w;exact gk.out):P:=h ⟨k⟩
def dI {P Q:Prop} (k:Q) (h:Hid Q->P:=by intro gk;(iterate 6 (refine zz λI a w U=>?_));revert I a w;exact gk.out):P:=h ⟨k⟩
def fo {P Q:Prop} (k:Q) (h:Hid Q->P:=by intro gk;(iterate 7 (refine zz λI a w U=>?_));revert I a w;exact gk.out):P:=h ⟨k⟩
def lI {P Q:Prop} (k:Q) (h:Hid Q->P:=by intro gk;(iterate 8 (refine zz λI a w U=>?_));revert I a w;exact gk.out):P:=h ⟨k⟩
def wj {P Q:Prop} (k:Q) (h:Hid Q->P:=by intro gk;(iterate 9 (refine zz λI a w U=>?_));revert I a w;exact gk.out):P:=h ⟨k⟩
def uD {P Q:Prop} (k:Q) (h:Hid Q->P:=by intro gk;(iterate 10 (refine zz λI a w U=>?_));revert I a w;exact gk.out):P:=h ⟨k⟩
def yt {P Q:Prop} (k:Q) (h:Hid Q->P:=by intro gk;(iterate 11 (refine zz λI a w U=>?_));revert I a w;exact gk.out):P:=h ⟨k⟩
def Dd {P Q:Prop} (k:Q) (h:Hid Q->P:=by intro gk;(iterate 12 (refine zz λI a w U=>?_));revert I a w;exact gk.out):P:=h ⟨k⟩
def th {P Q:Prop} (k:Q) (h:Hid Q->P:=by intro gk;(iterate 13 (refine zz λI a w U=>?_));revert I a w;exact gk.out):P:=h ⟨k⟩
def Wg {P Q:Prop} (k:Q) (h:Hid Q->P:=by intro gk;(iterate 14 (refine zz λI a w U=>?_));revert I a w;exact gk.out):P:=h ⟨k⟩
def yu {P Q:Prop} (k:Q) (h:Hid Q->P:=by intro gk;(iterate 15 (refine zz λI a w U=>?_));revert I a w;exact gk.out):P:=h ⟨k⟩
def NL {P Q:Prop} (k:Q) (h:Hid Q->P:=by intro gk;(iterate 16 (refine zz λI a w U=>?_));revert I a w;exact gk.out):P:=h ⟨k⟩
def NM {P Q:Prop} (k:Q) (h:Hid Q->P:=by intro gk;(iterate 17 (refine zz λI a w U=>?_));revert I a w;exact gk.out):P:=h ⟨k⟩
def NN {P Q:Prop} (k:Q) (h:Hid Q->P:=by intro gk;(iterate 19 (refine zz λI a w U=>?_));revert I a w;exact gk.out):P:=h ⟨k⟩
def Wh {P Q:Prop} (k:Q) (h:Hid Q->P:=by intro gk;(iterate 20 (refine zz λI a w U=>?_));revert I a w;exact gk.out):P:=h ⟨k⟩
def NO {P Q:Prop} (k:Q) (h:Hid Q->P:=by intro gk;(iterate 21 (refine zz λI a w U=>?_));revert I a w;exact gk.out):P:=h ⟨k⟩
def Wi {P Q:Prop} (k:Q) (h:Hid Q->P:=by intro gk;(iterate 22 (refine zz λI a w U=>?_));revert I a w;exact gk.out):P:=h ⟨k⟩
def Wj {P Q:Prop} (k:Q) (h:Hid Q->P:=by intro gk;(iterate 23 (refine zz λI a w U=>?_));revert I a w;exact gk.out):P:=h ⟨k⟩
def Wk {P Q:Prop} (k:Q) (h:Hid Q->P:=by intro gk;(iterate 24 (refine zz λI a w U=>?_));revert I a w;exact gk.out):P:=h ⟨k⟩
def NP {P Q:Prop} (k:Q) (h:Hid Q->P:=by intro gk;(iterate 27 (refine zz λI a w U=>?_));revert I a w;exact gk.out):P:=h ⟨k⟩
def De {P Q:Prop} (k:Q) (h:Hid Q->P:=by intro gk;(iterate 32 (refine zz λI a w U=>?_));revert I a w;exact gk.out):P:=h ⟨k⟩
def zt {P Q:Prop} (k:Q) (h:Hid Q->P:=by
 intro gk;(with_reducible (repeat(first|refine nn ?_|refine sr ?_|refine bk ?_|refine wp_seq ?_|refine wp_block ?_|refine St.region ?_|refine wpList_nil ?_|refine z7 ?_|refine wp_skip ?_|refine wp_ret ?_|refine yc ?_|refine vI ?_|refine wp_exit ?_|refine cM ?_|refine fI ?_|refine UM rfl ?_)));exact gk.out):P:=h ⟨k⟩
def cz {P Q R:Prop} (k:Q) (l:R) (h:Hid Q->Hid R->P:=by
 intro gk gl;refine U.cd (λgb=>?_) (λgb=>?_)
 ·(try simp only[B] at gb);revert gb;exact gk.out
 (try simp only[B] at gb);revert gb;exact gl.out):P:=h ⟨k⟩ ⟨l⟩
def oV {P Q R:Prop} (k:Q) (l:R) (h:Hid Q->Hid R->P:=by
 intro gk gl;refine U.cd (λgb=>?_) (λgb=>?_)
 ·(try simp only[B] at gb);revert gb;exact gk.out
 revert gb;exact gl.out):P:=h ⟨k⟩ ⟨l⟩
def AN {P Q R:Prop} (k:Q) (l:R) (h:Hid Q->Hid R->P:=by
 intro gk gl;refine U.cd (λgb=>?_) (λgb=>?_)
 .revert gb;exact gk.out
 (try simp only[B] at gb);revert gb;exact gl.out):P:=h ⟨k⟩ ⟨l⟩
def ax {P Q:Prop} (k:Q) (h:Hid Q->P:=by intro gk;(iterate 1 (refine zz λI a w U=>?_));refine zt ?_;revert I a w;exact gk.out):P:=h ⟨k⟩
def aB {P Q:Prop} (k:Q) (h:Hid Q->P:=by intro gk;(iterate 2 (refine zz λI a w U=>?_));refine zt ?_;revert I a w;exact gk.out):P:=h ⟨k⟩
def aN {P Q:Prop} (k:Q) (h:Hid Q->P:=by intro gk;(iterate 3 (refine zz λI a w U=>?_));refine zt ?_;revert I a w;exact gk.out):P:=h ⟨k⟩
def bc {P Q:Prop} (k:Q) (h:Hid Q->P:=by intro gk;refine ax λI a w U=>?_;refine U.rt ?_;exact gk.out):P:=h ⟨k⟩
def di {P Q:Prop} (k:Q) (h:Hid Q->P:=by intro gk;refine aB λI a w U=>?_;refine U.rt ?_;exact gk.out):P:=h ⟨k⟩
def tj {P Q:Prop} (k:Q) (h:Hid Q->P:=by intro gk;refine aN λI a w U=>?_;refine U.rt ?_;exact gk.out):P:=h ⟨k⟩
def aY {P Q:Prop} (k:Q) (h:Hid Q->P:=by intro gk;(iterate 4 (refine zz λI a w U=>?_));refine zt ?_;revert I a w;exact gk.out):P:=h ⟨k⟩
def ct {P Q:Prop} (k:Q) (h:Hid Q->P:=by intro gk;(iterate 5 (refine zz λI a w U=>?_));refine zt ?_;revert I a w;exact gk.out):P:=h ⟨k⟩
def gY {P Q:Prop} (k:Q) (h:Hid Q->P:=by intro gk;(iterate 6 (refine zz λI a w U=>?_));refine zt ?_;revert I a w;exact gk.out):P:=h ⟨k⟩
def jf {P Q:Prop} (k:Q) (h:Hid Q->P:=by intro gk;(iterate 7 (refine zz λI a w U=>?_));refine zt ?_;revert I a w;exact gk.out):P:=h ⟨k⟩
def rR {P Q:Prop} (k:Q) (h:Hid Q->P:=by intro gk;(iterate 8 (refine zz λI a w U=>?_));refine zt ?_;revert I a w;exact gk.out):P:=h ⟨k⟩
def mA {P Q:Prop} (k:Q) (h:Hid Q->P:=by intro gk;(iterate 9 (refine zz λI a w U=>?_));refine zt ?_;revert I a w;exact gk.out):P:=h ⟨k⟩
def uE {P Q:Prop} (k:Q) (h:Hid Q->P:=by intro gk;(iterate 10 (refine zz λI a w U=>?_));refine zt ?_;revert I a w;exact gk.out):P:=h ⟨k⟩
def AO {P Q:Prop} (k:Q) (h:Hid Q->P:=by intro gk;(iterate 11 (refine zz λI a w U=>?_));refine zt ?_;revert I a w;exact gk.out):P:=h ⟨k⟩
def AP {P Q:Prop} (k:Q) (h:Hid Q->P:=by intro gk;(iterate 12 (refine zz λI a w U=>?_));refine zt ?_;revert I a w;exact gk.out):P:=h ⟨k⟩
def AQ {P Q:Prop} (k:Q) (h:Hid Q->P:=by intro gk;(iterate 13 (refine zz λI a w U=>?_));refine zt ?_;revert I a w;exact gk.out):P:=h ⟨k⟩
def G1 {P Q:Prop} (k:Q) (h:Hid Q->P:=by intro gk;(iterate 17 (refine zz λI a w U=>?_));refine zt ?_;revert I a w;exact gk.out):P:=h ⟨k⟩
def Wl {P Q:Prop} (k:Q) (h:Hid Q->P:=by intro gk;(iterate 19 (refine zz λI a w U=>?_));refine zt ?_;revert I a w;exact gk.out):P:=h ⟨k⟩
def G2 {P Q:Prop} (k:Q) (h:Hid Q->P:=by intro gk;(iterate 20 (refine zz λI a w U=>?_));refine zt ?_;revert I a w;exact gk.out):P:=h ⟨k⟩
def Wm {P Q:Prop} (k:Q) (h:Hid Q->P:=by intro gk;(iterate 22 (refine zz λI a w U=>?_));refine zt ?_;revert I a w;exact gk.out):P:=h ⟨k⟩
def Df {P Q:Prop} (k:Q) (h:Hid Q->P:=by intro gk;(iterate 23 (refine zz λI a w U=>?_));refine zt ?_;revert I a w;exact gk.out):P:=h ⟨k⟩
def Wn {P Q:Prop} (k:Q) (h:Hid Q->P:=by intro gk;(iterate 29 (refine zz λI a w U=>?_));refine zt ?_;revert I a w;exact gk.out):P:=h ⟨k⟩
def Wo {P Q:Prop} (k:Q) (h:Hid Q->P:=by intro gk;(iterate 31 (refine zz λI a w U=>?_));refine zt ?_;revert I a w;exact gk.out):P:=h ⟨k⟩
def aX {P Q:Prop} (k:Q) (h:Hid Q->P:=by intro gk;(iterate 1 (refine zk ?_));exact gk.out):P:=h ⟨k⟩
def cj {P Q:Prop} (k:Q) (h:Hid Q->P:=by intro gk;(iterate 2 (refine zk ?_));exact gk.out):P:=h ⟨k⟩
def dJ {P Q:Prop} (k:Q) (h:Hid Q->P:=by intro gk;(iterate 3 (refine zk ?_));exact gk.out):P:=h ⟨k⟩
def dM {P Q:Prop} (k:Q) (h:Hid Q->P:=by intro gk;(iterate 4 (refine zk ?_));exact gk.out):P:=h ⟨k⟩
def fD {P Q:Prop} (k:Q) (h:Hid Q->P:=by intro gk;(iterate 5 (refine zk ?_));exact gk.out):P:=h ⟨k⟩
def gZ {P Q:Prop} (k:Q) (h:Hid Q->P:=by intro gk;(iterate 6 (refine zk ?_));exact gk.out):P:=h ⟨k⟩
def kJ {P Q:Prop} (k:Q) (h:Hid Q->P:=by intro gk;(iterate 7 (refine zk ?_));exact gk.out):P:=h ⟨k⟩
def mB {P Q:Prop} (k:Q) (h:Hid Q->P:=by intro gk;(iterate 8 (refine zk ?_));exact gk.out):P:=h ⟨k⟩
def yv {P Q:Prop} (k:Q) (h:Hid Q->P:=by intro gk;(iterate 9 (refine zk ?_));exact gk.out):P:=h ⟨k⟩
def lh {P Q:Prop} (k:Q) (h:Hid Q->P:=by intro gk;(iterate 10 (refine zk ?_));exact gk.out):P:=h ⟨k⟩
def Wp {P Q:Prop} (k:Q) (h:Hid Q->P:=by intro gk;(iterate 11 (refine zk ?_));exact gk.out):P:=h ⟨k⟩
def AR {P Q:Prop} (k:Q) (h:Hid Q->P:=by intro gk;(iterate 12 (refine zk ?_));exact gk.out):P:=h ⟨k⟩
def Wq {P Q:Prop} (k:Q) (h:Hid Q->P:=by intro gk;(iterate 13 (refine zk ?_));exact gk.out):P:=h ⟨k⟩
def tk {P Q:Prop} (k:Q) (h:Hid Q->P:=by intro gk;(iterate 14 (refine zk ?_));exact gk.out):P:=h ⟨k⟩
def Wr {P Q:Prop} (k:Q) (h:Hid Q->P:=by intro gk;(iterate 15 (refine zk ?_));exact gk.out):P:=h ⟨k⟩
def nd {P Q:Prop} (k:Q) (h:Hid Q->P:=by intro gk;(iterate 16 (refine zk ?_));exact gk.out):P:=h ⟨k⟩
section
variable {P:Program} {c:Ctx} {I:Im} {H:List Own} {Γ:Env} {a:Act} {w:World} {E T:TypeId} {v:Value} {sz:Nat} {l:List (List AV)} {u:List AV} {b:Nat}
def St.fr (k t:Nat) (U:St c I H Γ a w) (hk:H[k]?=some (Own.row v E sz l):=by rfl) (ht:Env.get t Γ=some (.val v):=by rfl):∃I',St c I' (H.set k Own.gone) ((t,.rows sz l)::Γ) a w:=
 let⟨I',h,hf⟩:=U.rI k hk
 ⟨I',h.vP ht hf⟩
def St.fb (k t:Nat) (U:St c I H Γ a w) (hk:H[k]?=some (Own.box b T u):=by rfl) (ht:Env.get t Γ=some (.val (.pointer (some ⟨b,0,none⟩))):=by rfl):∃I',St c I' (H.set k Own.gone) ((t,.ptr u)::Γ) a w:=
 let⟨I',h,hf⟩:=U.My k hk
 ⟨I',h.vP ht hf⟩
def St.fu (k q j:Nat) (U:St c I H Γ a w) (hk:H[k]?=some (Own.row v E sz l):=by rfl) (hj:(H.set k Own.gone)[j]?=some (Own.box b T u):=by rfl) (hq:u[q]?=some (.val v):=by rfl):∃I',St c I' ((H.set k Own.gone).set j (Own.box b T (u.set q (.rows sz l)))) Γ a w:=
 let⟨I',h,hf⟩:=U.rI k hk
 ⟨I',h.mo j hj hq hf⟩
end
section
variable {P:Program} {H:List Own} {Γ:Env}
def Fn.go {f:FuncId} {fn:Func} {code:Code} {args:List AV} {res:AV} (N:Nat) (hf:P.funcs[f]?=some fn) (hn:fn.ntmps=N)
 (h:∀(W:World) (I:Im) (a:Act),St ⟨W,I,N,kx⟩ I [] (lT 0 args) a W->code.wp P (bodyPost P fn (vH kx I W res)) a W)
 (hb:fn.body=some code:=by rfl) (hN:Nat.ble args.length N=true:=by rfl) (oF:(fn.name== "runtime.NumGoroutine")=false:=by kernel_rfl):Fn P f args res:=Fn.intro N hf hb hn hN oF h
def ky.sx {s b n m:Nat} {T T':TypeId} {zv:Value} {l:List AV} (k:Nat) [hT:er P T true n m zv] (h:Env.get s Γ=some (.val (.pointer (some ⟨b,0,none⟩))):=by rfl) (hk:H[k]?=some (Own.box b T' l):=by rfl) (hn:l.length=n:=by first|rfl|assumption):ky P H Γ (.cell s T) (.agg l):=.s k hT.h h hk hn
def ky.x {r:ResultVar} {x:AV} (h:ky P H Γ r x:=by first|exact .t rfl|exact .nil rfl):ky P H Γ r x:=h
def TD {α:Type}:(∀(n:Nat) (a:α) (l:List α),List.take (n+1) (a::l)=a::List.take n l)/\(∀l:List α,List.take 0 l=[])/\(∀(n:Nat) (a:α) (l:List α),List.drop (n+1) (a::l)=List.drop n l)/\(∀l:List α,List.drop 0 l=l):=
 ⟨λ_ _ _=>rfl,λ_=>rfl,λ_ _ _=>rfl,λ_=>rfl⟩
end
section
variable {P:Program} {c:Ctx} {I:Im} {H:List Own} {Γ:Env} {a:Act} {w:World}
def St.ln {α:Type} {s:Nat} {f:α->List AV} {l:List α} {xs:List AV} (U:St c I H Γ a w) (t i:Nat) (ht:Env.get t Γ=some (.agg xs):=by rfl) (hi:xs[i]?=some (.rows s (l.map f)):=by rfl):l.length<=9223372036854775807:=by
 obtain⟨cs,_,hc⟩:=U.env t _ ht;obtain⟨u,_,h,_⟩:=hc.get hi;exact Ap h
end
section
variable {P:Program} {c:Ctx} {I:Im} {H:List Own} {Γ:Env} {a:Act} {w:World} {Q:Exit->Act->World->Prop} {ops:Array Oper} {rest:List Oper} {y z:Operand} {ty T E:TypeId} {p:String} {af:Array Edge} {m n sz d:Nat} {zv:Value} {ag:Bool}
def St.ap {v:Value} {l l2:List (List AV)} (k:Nat) (U:St c I H Γ a w) (kk:∀v' a' w',St c I (H.set k (Own.row v' E sz (l++l2))) ((d,.val v')::Γ) a' w'->wpList P ops Q rest a' w') [hU:jt P T (.slice E)] [hE:er P E ag sz m zv]
 (hy:At Γ true y (.val v):=by first|exact .tt|exact .c) (hz:At Γ true z (.rows sz l2):=by first|exact .tt|exact .nil .tt) (hk:H[k]?=some (Own.row v E sz l):=by rfl) (hb:(l.length+l2.length)*m<=140737488355328/\l.length+l2.length<=140737488355328:=by simp;omega) (hd:Nat.blt d c.n=true:=by rfl) (fW:zv.cells.size=sz:=by rfl):
 wpList P ops Q (⟨some d,.call ⟨.builtin .append,#[y,z],#[T,T]⟩,ty,p,af,none⟩::rest) a w:=U.append k hd hU.h hE.h fW hy hz hk hb kk
def St.l0 (U:St c I H Γ a w) (k:∀b I a' w',St c I (H++[Own.row (.slice (some ⟨b,0,none⟩) 0 0) E sz []]) ((d,.val (.slice (some ⟨b,0,none⟩) 0 0))::Γ) a' w'->wpList P ops Q rest a' w') [hU:jt P T (.slice E)] [hE:er P E ag sz m zv] (cN:0<sz:=by decide) (hd:Nat.blt d c.n=true:=by rfl):
 wpList P ops Q (⟨some d,.buildSlice T 0 #[],ty,p,af,none⟩::rest) a w:=U.Vj hd hU.h hE.h cN k
def St.dt {id:Nat} {l:List Oper} (n:Nat) (U:St c I H Γ a w) (run:lV P c H l.toArray Q (l.drop n) Γ (l.take n)) (hm:P.follows .mixedOrders=true:=by kernel_rfl) (fX:nc (l.take n) (l.drop n)=true:=by kernel_rfl) (hd:((l.take n).all λo=>Nat.blt (o.dst.getD 0) c.n)=true:=by kernel_rfl):(Code.region id l.toArray true).wp P Q a w:=U.Vu n hm fX hd run
def St.da {id:Nat} {l:List Oper} (n:Nat) (U:St c I H Γ a w) (run:gv P c H l.toArray Q (l.drop n) (λ_=>[]) 0 Γ (l.take n)) (hm:P.follows .mixedOrders=true:=by kernel_rfl) (fX:nc (l.take n) (l.drop n)=true:=by kernel_rfl) (hd:((l.take n).all λo=>Nat.blt (o.dst.getD 0) c.n)=true:=by kernel_rfl):(Code.region id l.toArray true).wp P Q a w:=U.MR n hm fX hd run
end
end Go.Proofs.YtdanidpleofjgaaGreat
set_option maxRecDepth 100000
namespace Go.Proofs.YtdanidpleofjgaaGreat
open Go Go.RowKit Tryz
instance Ws:er prog 3 false 1 8 (.int .i64 0):=⟨by kernel_rfl,by kernel_rfl⟩
def cx:Ty prog 3 false 1 8 (.int .i64 0):=Ws.h
def iO:∀u∈(Value.cells (.int .i64 0)).toList,u.oneCell'=true:=by simp[Value.cells,Value.oneCell']
instance Wt:er prog 4 false 1 1 (.bool false):=⟨by kernel_rfl,by kernel_rfl⟩
def AS:Ty prog 4 false 1 1 (.bool false):=Wt.h
def Wu:∀I,bx I [AV.val (.bool false)] (Value.cells (.bool false)).toList:=λ_=>⟨⟨rfl,rfl⟩,trivial⟩
instance Wv:er prog 5 false 1 1 (.int .u8 0):=⟨by kernel_rfl,by kernel_rfl⟩
def wk:Ty prog 5 false 1 1 (.int .u8 0):=Wv.h
instance ajU:er prog 22 false 1 24 (.slice none 0 0):=⟨by kernel_rfl,by kernel_rfl⟩
instance Ww:er prog 23 false 1 24 (.slice none 0 0):=⟨by kernel_rfl,by kernel_rfl⟩
def Wx:Ty prog 23 false 1 24 (.slice none 0 0):=Ww.h
instance Wy:er prog 24 false 1 24 (.slice none 0 0):=⟨by kernel_rfl,by kernel_rfl⟩
def AT:Ty prog 24 false 1 24 (.slice none 0 0):=Wy.h
instance ajV:er prog 25 false 1 24 (.slice none 0 0):=⟨by kernel_rfl,by kernel_rfl⟩
instance ajW:er prog 26 false 1 24 (.slice none 0 0):=⟨by kernel_rfl,by kernel_rfl⟩
instance Wz:er prog 28 true 5 104 (.agg #[.int .i64 0,.slice none 0 0,.slice none 0 0,.slice none 0 0,.slice none 0 0]):=⟨by kernel_rfl,by kernel_rfl⟩
def dx:Ty prog 28 true 5 104 (.agg #[.int .i64 0,.slice none 0 0,.slice none 0 0,.slice none 0 0,.slice none 0 0]):=Wz.h
def dB:∀I,bx I [AV.val (.int .i64 0),AV.rows 7 [],AV.rows 15 [],AV.rows 13 [],AV.rows 1 []] (Value.cells (.agg #[.int .i64 0,.slice none 0 0,.slice none 0 0,.slice none 0 0,.slice none 0 0])).toList:=λ_=>⟨⟨rfl,rfl⟩,⟨eW _ _,rfl⟩,⟨eW _ _,rfl⟩,⟨eW _ _,rfl⟩,⟨eW _ _,rfl⟩,trivial⟩
def wm:∀I,bx I [AV.val (.int .i64 0),AV.val (.slice none 0 0),AV.val (.slice none 0 0),AV.val (.slice none 0 0),AV.val (.slice none 0 0)] (Value.cells (.agg #[.int .i64 0,.slice none 0 0,.slice none 0 0,.slice none 0 0,.slice none 0 0])).toList:=λ_=>⟨⟨rfl,rfl⟩,⟨rfl,rfl⟩,⟨rfl,rfl⟩,⟨rfl,rfl⟩,⟨rfl,rfl⟩,trivial⟩
instance ajX:oT prog 28:=⟨by kernel_rfl⟩
instance WA:er prog 30 true 11 88 (.agg #[.int .i64 0,.int .i64 0,.int .i64 0,.int .i64 0,.int .i64 0,.int .i64 0,.int .i64 0,.int .i64 0,.int .i64 0,.int .i64 0,.int .i64 0]):=⟨by kernel_rfl,by kernel_rfl⟩
def oW:Ty prog 30 true 11 88 (.agg #[.int .i64 0,.int .i64 0,.int .i64 0,.int .i64 0,.int .i64 0,.int .i64 0,.int .i64 0,.int .i64 0,.int .i64 0,.int .i64 0,.int .i64 0]):=WA.h
def ib:∀I,bx I [AV.val (.int .i64 0),AV.val (.int .i64 0),AV.val (.int .i64 0),AV.val (.int .i64 0),AV.val (.int .i64 0),AV.val (.int .i64 0),AV.val (.int .i64 0),AV.val (.int .i64 0),AV.val (.int .i64 0),AV.val (.int .i64 0),AV.val (.int .i64 0)] (Value.cells (.agg #[.int .i64 0,.int .i64 0,.int .i64 0,.int .i64 0,.int .i64 0,.int .i64 0,.int .i64 0,.int .i64 0,.int .i64 0,.int .i64 0,.int .i64 0])).toList:=λ_=>⟨⟨rfl,rfl⟩,⟨rfl,rfl⟩,⟨rfl,rfl⟩,⟨rfl,rfl⟩,⟨rfl,rfl⟩,⟨rfl,rfl⟩,⟨rfl,rfl⟩,⟨rfl,rfl⟩,⟨rfl,rfl⟩,⟨rfl,rfl⟩,⟨rfl,rfl⟩,trivial⟩
def WB:∀u∈(Value.cells (.agg #[.int .i64 0,.int .i64 0,.int .i64 0,.int .i64 0,.int .i64 0,.int .i64 0,.int .i64 0,.int .i64 0,.int .i64 0,.int .i64 0,.int .i64 0])).toList,u.oneCell'=true:=by simp[Value.cells,Value.oneCell']
instance ajY:oT prog 30:=⟨by kernel_rfl⟩
instance ajZ:er prog 39 false 1 24 (.slice none 0 0):=⟨by kernel_rfl,by kernel_rfl⟩
instance aj0:er prog 40 false 1 24 (.slice none 0 0):=⟨by kernel_rfl,by kernel_rfl⟩
instance WC:er prog 41 false 1 24 (.slice none 0 0):=⟨by kernel_rfl,by kernel_rfl⟩
def qz:Ty prog 41 false 1 24 (.slice none 0 0):=WC.h
def WD:∀I,bx I [AV.rows 3 []] (Value.cells (.slice none 0 0)).toList:=λ_=>⟨⟨eW _ _,rfl⟩,trivial⟩
def Dg:∀u∈(Value.cells (.slice none 0 0)).toList,u.oneCell'=true:=by simp[Value.cells,Value.oneCell']
instance WE:er prog 43 true 7 136 (.agg #[.int .i64 0,.bool false,.slice none 0 0,.slice none 0 0,.slice none 0 0,.slice none 0 0,.slice none 0 0]):=⟨by kernel_rfl,by kernel_rfl⟩
def cq:Ty prog 43 true 7 136 (.agg #[.int .i64 0,.bool false,.slice none 0 0,.slice none 0 0,.slice none 0 0,.slice none 0 0,.slice none 0 0]):=WE.h
def dz:∀I,bx I [AV.val (.int .i64 0),AV.val (.bool false),AV.rows 2 [],AV.rows 7 [],AV.rows 7 [],AV.rows 3 [],AV.rows 3 []] (Value.cells (.agg #[.int .i64 0,.bool false,.slice none 0 0,.slice none 0 0,.slice none 0 0,.slice none 0 0,.slice none 0 0])).toList:=λ_=>⟨⟨rfl,rfl⟩,⟨rfl,rfl⟩,⟨eW _ _,rfl⟩,⟨eW _ _,rfl⟩,⟨eW _ _,rfl⟩,⟨eW _ _,rfl⟩,⟨eW _ _,rfl⟩,trivial⟩
def Dh:∀I,bx I [AV.val (.int .i64 0),AV.val (.bool false),AV.val (.slice none 0 0),AV.val (.slice none 0 0),AV.val (.slice none 0 0),AV.val (.slice none 0 0),AV.val (.slice none 0 0)] (Value.cells (.agg #[.int .i64 0,.bool false,.slice none 0 0,.slice none 0 0,.slice none 0 0,.slice none 0 0,.slice none 0 0])).toList:=λ_=>⟨⟨rfl,rfl⟩,⟨rfl,rfl⟩,⟨rfl,rfl⟩,⟨rfl,rfl⟩,⟨rfl,rfl⟩,⟨rfl,rfl⟩,⟨rfl,rfl⟩,trivial⟩
def AU:∀u∈(Value.cells (.agg #[.int .i64 0,.bool false,.slice none 0 0,.slice none 0 0,.slice none 0 0,.slice none 0 0,.slice none 0 0])).toList,u.oneCell'=true:=by simp[Value.cells,Value.oneCell']
instance aj1:oT prog 43:=⟨by kernel_rfl⟩
instance WG:er prog 46 true 2 16 (.agg #[.int .i64 0,.int .i64 0]):=⟨by kernel_rfl,by kernel_rfl⟩
def ew:Ty prog 46 true 2 16 (.agg #[.int .i64 0,.int .i64 0]):=WG.h
def mC:∀I,bx I [AV.val (.int .i64 0),AV.val (.int .i64 0)] (Value.cells (.agg #[.int .i64 0,.int .i64 0])).toList:=λ_=>⟨⟨rfl,rfl⟩,⟨rfl,rfl⟩,trivial⟩
def Di:∀u∈(Value.cells (.agg #[.int .i64 0,.int .i64 0])).toList,u.oneCell'=true:=by simp[Value.cells,Value.oneCell']
instance aj2:oT prog 46:=⟨by kernel_rfl⟩
instance aj3:er prog 48 false 1 24 (.slice none 0 0):=⟨by kernel_rfl,by kernel_rfl⟩
instance WH:er prog 50 true 2 16 (.agg #[.int .i64 0,.int .i64 0]):=⟨by kernel_rfl,by kernel_rfl⟩
def jF:Ty prog 50 true 2 16 (.agg #[.int .i64 0,.int .i64 0]):=WH.h
def ic:∀I,bx I [AV.val (.int .i64 0),AV.val (.int .i64 0)] (Value.cells (.agg #[.int .i64 0,.int .i64 0])).toList:=λ_=>⟨⟨rfl,rfl⟩,⟨rfl,rfl⟩,trivial⟩
def Dj:∀u∈(Value.cells (.agg #[.int .i64 0,.int .i64 0])).toList,u.oneCell'=true:=by simp[Value.cells,Value.oneCell']
instance aj4:oT prog 50:=⟨by kernel_rfl⟩
instance aj5:er prog 51 false 1 24 (.slice none 0 0):=⟨by kernel_rfl,by kernel_rfl⟩
instance WI:er prog 53 true 13 168 (.agg #[.int .i64 0,.int .i64 0,.int .i64 0,.slice none 0 0,.int .i64 0,.slice none 0 0,.int .i64 0,.int .i64 0,.bool false,.int .i64 0,.int .i64 0,.slice none 0 0,.slice none 0 0]):=⟨by kernel_rfl,by kernel_rfl⟩
def eR:Ty prog 53 true 13 168 (.agg #[.int .i64 0,.int .i64 0,.int .i64 0,.slice none 0 0,.int .i64 0,.slice none 0 0,.int .i64 0,.int .i64 0,.bool false,.int .i64 0,.int .i64 0,.slice none 0 0,.slice none 0 0]):=WI.h
def j2:∀I,bx I [AV.val (.int .i64 0),AV.val (.int .i64 0),AV.val (.int .i64 0),AV.rows 1 [],AV.val (.int .i64 0),AV.rows 3 [],AV.val (.int .i64 0),AV.val (.int .i64 0),AV.val (.bool false),AV.val (.int .i64 0),AV.val (.int .i64 0),AV.rows 9 [],AV.rows 3 []] (Value.cells (.agg #[.int .i64 0,.int .i64 0,.int .i64 0,.slice none 0 0,.int .i64 0,.slice none 0 0,.int .i64 0,.int .i64 0,.bool false,.int .i64 0,.int .i64 0,.slice none 0 0,.slice none 0 0])).toList:=λ_=>⟨⟨rfl,rfl⟩,⟨rfl,rfl⟩,⟨rfl,rfl⟩,⟨eW _ _,rfl⟩,⟨rfl,rfl⟩,⟨eW _ _,rfl⟩,⟨rfl,rfl⟩,⟨rfl,rfl⟩,⟨rfl,rfl⟩,⟨rfl,rfl⟩,⟨rfl,rfl⟩,⟨eW _ _,rfl⟩,⟨eW _ _,rfl⟩,trivial⟩
def AW:∀u∈(Value.cells (.agg #[.int .i64 0,.int .i64 0,.int .i64 0,.slice none 0 0,.int .i64 0,.slice none 0 0,.int .i64 0,.int .i64 0,.bool false,.int .i64 0,.int .i64 0,.slice none 0 0,.slice none 0 0])).toList,u.oneCell'=true:=by simp[Value.cells,Value.oneCell']
instance aj6:oT prog 53:=⟨by kernel_rfl⟩
instance WJ:er prog 57 false 1 24 (.slice none 0 0):=⟨by kernel_rfl,by kernel_rfl⟩
def WK:Ty prog 57 false 1 24 (.slice none 0 0):=WJ.h
instance WL:er prog 62 true 7 72 (.agg #[.int .i64 0,.int .i64 0,.int .i64 0,.int .i64 0,.int .i64 0,.int .i64 0,.slice none 0 0]):=⟨by kernel_rfl,by kernel_rfl⟩
def bU:Ty prog 62 true 7 72 (.agg #[.int .i64 0,.int .i64 0,.int .i64 0,.int .i64 0,.int .i64 0,.int .i64 0,.slice none 0 0]):=WL.h
def dR:∀I,bx I [AV.val (.int .i64 0),AV.val (.int .i64 0),AV.val (.int .i64 0),AV.val (.int .i64 0),AV.val (.int .i64 0),AV.val (.int .i64 0),AV.rows 3 []] (Value.cells (.agg #[.int .i64 0,.int .i64 0,.int .i64 0,.int .i64 0,.int .i64 0,.int .i64 0,.slice none 0 0])).toList:=λ_=>⟨⟨rfl,rfl⟩,⟨rfl,rfl⟩,⟨rfl,rfl⟩,⟨rfl,rfl⟩,⟨rfl,rfl⟩,⟨rfl,rfl⟩,⟨eW _ _,rfl⟩,trivial⟩
def ju:∀u∈(Value.cells (.agg #[.int .i64 0,.int .i64 0,.int .i64 0,.int .i64 0,.int .i64 0,.int .i64 0,.slice none 0 0])).toList,u.oneCell'=true:=by simp[Value.cells,Value.oneCell']
instance aj7:oT prog 62:=⟨by kernel_rfl⟩
instance aj8:er prog 70 false 1 8 (.pointer none):=⟨by kernel_rfl,by kernel_rfl⟩
instance aj9:er prog 77 true 7 136 (.agg #[.pointer none,.int .i64 0,.slice none 0 0,.slice none 0 0,.slice none 0 0,.slice none 0 0,.slice none 0 0]):=⟨by kernel_rfl,by kernel_rfl⟩
def WM:∀I,bx I [AV.val (.pointer none),AV.val (.int .i64 0),AV.val (.slice none 0 0),AV.val (.slice none 0 0),AV.val (.slice none 0 0),AV.val (.slice none 0 0),AV.val (.slice none 0 0)] (Value.cells (.agg #[.pointer none,.int .i64 0,.slice none 0 0,.slice none 0 0,.slice none 0 0,.slice none 0 0,.slice none 0 0])).toList:=λ_=>⟨⟨rfl,rfl⟩,⟨rfl,rfl⟩,⟨rfl,rfl⟩,⟨rfl,rfl⟩,⟨rfl,rfl⟩,⟨rfl,rfl⟩,⟨rfl,rfl⟩,trivial⟩
instance aka:oT prog 77:=⟨by kernel_rfl⟩
instance WN:er prog 84 true 15 184 (.agg #[.int .i64 0,.int .i64 0,.int .i64 0,.int .i64 0,.int .i64 0,.int .i64 0,.int .i64 0,.int .i64 0,.bool false,.slice none 0 0,.int .i64 0,.int .i64 0,.slice none 0 0,.slice none 0 0,.slice none 0 0]):=⟨by kernel_rfl,by kernel_rfl⟩
def dj:Ty prog 84 true 15 184 (.agg #[.int .i64 0,.int .i64 0,.int .i64 0,.int .i64 0,.int .i64 0,.int .i64 0,.int .i64 0,.int .i64 0,.bool false,.slice none 0 0,.int .i64 0,.int .i64 0,.slice none 0 0,.slice none 0 0,.slice none 0 0]):=WN.h
def dN:∀I,bx I [AV.val (.int .i64 0),AV.val (.int .i64 0),AV.val (.int .i64 0),AV.val (.int .i64 0),AV.val (.int .i64 0),AV.val (.int .i64 0),AV.val (.int .i64 0),AV.val (.int .i64 0),AV.val (.bool false),AV.rows 3 [],AV.val (.int .i64 0),AV.val (.int .i64 0),AV.rows 7 [],AV.rows 7 [],AV.rows 3 []] (Value.cells (.agg #[.int .i64 0,.int .i64 0,.int .i64 0,.int .i64 0,.int .i64 0,.int .i64 0,.int .i64 0,.int .i64 0,.bool false,.slice none 0 0,.int .i64 0,.int .i64 0,.slice none 0 0,.slice none 0 0,.slice none 0 0])).toList:=λ_=>⟨⟨rfl,rfl⟩,⟨rfl,rfl⟩,⟨rfl,rfl⟩,⟨rfl,rfl⟩,⟨rfl,rfl⟩,⟨rfl,rfl⟩,⟨rfl,rfl⟩,⟨rfl,rfl⟩,⟨rfl,rfl⟩,⟨eW _ _,rfl⟩,⟨rfl,rfl⟩,⟨rfl,rfl⟩,⟨eW _ _,rfl⟩,⟨eW _ _,rfl⟩,⟨eW _ _,rfl⟩,trivial⟩
def WO:∀I,bx I [AV.val (.int .i64 0),AV.val (.int .i64 0),AV.val (.int .i64 0),AV.val (.int .i64 0),AV.val (.int .i64 0),AV.val (.int .i64 0),AV.val (.int .i64 0),AV.val (.int .i64 0),AV.val (.bool false),AV.val (.slice none 0 0),AV.val (.int .i64 0),AV.val (.int .i64 0),AV.val (.slice none 0 0),AV.val (.slice none 0 0),AV.val (.slice none 0 0)] (Value.cells (.agg #[.int .i64 0,.int .i64 0,.int .i64 0,.int .i64 0,.int .i64 0,.int .i64 0,.int .i64 0,.int .i64 0,.bool false,.slice none 0 0,.int .i64 0,.int .i64 0,.slice none 0 0,.slice none 0 0,.slice none 0 0])).toList:=λ_=>⟨⟨rfl,rfl⟩,⟨rfl,rfl⟩,⟨rfl,rfl⟩,⟨rfl,rfl⟩,⟨rfl,rfl⟩,⟨rfl,rfl⟩,⟨rfl,rfl⟩,⟨rfl,rfl⟩,⟨rfl,rfl⟩,⟨rfl,rfl⟩,⟨rfl,rfl⟩,⟨rfl,rfl⟩,⟨rfl,rfl⟩,⟨rfl,rfl⟩,⟨rfl,rfl⟩,trivial⟩
def gw:∀u∈(Value.cells (.agg #[.int .i64 0,.int .i64 0,.int .i64 0,.int .i64 0,.int .i64 0,.int .i64 0,.int .i64 0,.int .i64 0,.bool false,.slice none 0 0,.int .i64 0,.int .i64 0,.slice none 0 0,.slice none 0 0,.slice none 0 0])).toList,u.oneCell'=true:=by simp[Value.cells,Value.oneCell']
instance akb:oT prog 84:=⟨by kernel_rfl⟩
instance akc:er prog 100 true 2 32 (.agg #[.slice none 0 0,.int .i64 0]):=⟨by kernel_rfl,by kernel_rfl⟩
def WQ:∀I,bx I [AV.rows 1 [],AV.val (.int .i64 0)] (Value.cells (.agg #[.slice none 0 0,.int .i64 0])).toList:=λ_=>⟨⟨eW _ _,rfl⟩,⟨rfl,rfl⟩,trivial⟩
instance akd:oT prog 100:=⟨by kernel_rfl⟩
instance WR:er prog 115 true 3 24 (.agg #[.int .i64 0,.int .i64 0,.int .i64 0]):=⟨by kernel_rfl,by kernel_rfl⟩
def cE:Ty prog 115 true 3 24 (.agg #[.int .i64 0,.int .i64 0,.int .i64 0]):=WR.h
def fh:∀I,bx I [AV.val (.int .i64 0),AV.val (.int .i64 0),AV.val (.int .i64 0)] (Value.cells (.agg #[.int .i64 0,.int .i64 0,.int .i64 0])).toList:=λ_=>⟨⟨rfl,rfl⟩,⟨rfl,rfl⟩,⟨rfl,rfl⟩,trivial⟩
def fE:∀u∈(Value.cells (.agg #[.int .i64 0,.int .i64 0,.int .i64 0])).toList,u.oneCell'=true:=by simp[Value.cells,Value.oneCell']
instance ake:oT prog 115:=⟨by kernel_rfl⟩
instance WS:er prog 128 true 9 88 (.agg #[.int .i64 0,.bool false,.int .i64 0,.int .i64 0,.int .i64 0,.int .i64 0,.int .i64 0,.int .i64 0,.slice none 0 0]):=⟨by kernel_rfl,by kernel_rfl⟩
def fF:Ty prog 128 true 9 88 (.agg #[.int .i64 0,.bool false,.int .i64 0,.int .i64 0,.int .i64 0,.int .i64 0,.int .i64 0,.int .i64 0,.slice none 0 0]):=WS.h
def pG:∀I,bx I [AV.val (.int .i64 0),AV.val (.bool false),AV.val (.int .i64 0),AV.val (.int .i64 0),AV.val (.int .i64 0),AV.val (.int .i64 0),AV.val (.int .i64 0),AV.val (.int .i64 0),AV.rows 3 []] (Value.cells (.agg #[.int .i64 0,.bool false,.int .i64 0,.int .i64 0,.int .i64 0,.int .i64 0,.int .i64 0,.int .i64 0,.slice none 0 0])).toList:=λ_=>⟨⟨rfl,rfl⟩,⟨rfl,rfl⟩,⟨rfl,rfl⟩,⟨rfl,rfl⟩,⟨rfl,rfl⟩,⟨rfl,rfl⟩,⟨rfl,rfl⟩,⟨rfl,rfl⟩,⟨eW _ _,rfl⟩,trivial⟩
def uF:∀u∈(Value.cells (.agg #[.int .i64 0,.bool false,.int .i64 0,.int .i64 0,.int .i64 0,.int .i64 0,.int .i64 0,.int .i64 0,.slice none 0 0])).toList,u.oneCell'=true:=by simp[Value.cells,Value.oneCell']
instance akf:oT prog 128:=⟨by kernel_rfl⟩
instance WT:jt prog 3 (.int .i64):=⟨by kernel_rfl⟩
def qA:prog.underlying 3=some (.int .i64):=WT.h
instance WU:jt prog 4 (.bool):=⟨by kernel_rfl⟩
def lj:prog.underlying 4=some (.bool):=WU.h
instance WV:jt prog 22 (.slice 5):=⟨by kernel_rfl⟩
def wo:prog.underlying 22=some (.slice 5):=WV.h
instance WW:jt prog 23 (.slice 43):=⟨by kernel_rfl⟩
def pH:prog.underlying 23=some (.slice 43):=WW.h
instance WX:jt prog 24 (.slice 84):=⟨by kernel_rfl⟩
def fi:prog.underlying 24=some (.slice 84):=WX.h
instance WY:jt prog 25 (.slice 53):=⟨by kernel_rfl⟩
def kj:prog.underlying 25=some (.slice 53):=WY.h
instance WZ:jt prog 26 (.slice 41):=⟨by kernel_rfl⟩
def yw:prog.underlying 26=some (.slice 41):=WZ.h
instance W1:jt prog 39 (.slice 46):=⟨by kernel_rfl⟩
def fP:prog.underlying 39=some (.slice 46):=W1.h
instance W2:jt prog 40 (.slice 62):=⟨by kernel_rfl⟩
def ea:prog.underlying 40=some (.slice 62):=W2.h
instance W3:jt prog 41 (.slice 115):=⟨by kernel_rfl⟩
def du:prog.underlying 41=some (.slice 115):=W3.h
instance W4:jt prog 48 (.slice 3):=⟨by kernel_rfl⟩
def cH:prog.underlying 48=some (.slice 3):=W4.h
instance W5:jt prog 51 (.slice 128):=⟨by kernel_rfl⟩
def ie:prog.underlying 51=some (.slice 128):=W5.h
instance W6:jt prog 57 (.slice 30):=⟨by kernel_rfl⟩
def W7:prog.underlying 57=some (.slice 30):=W6.h
instance W8:jt prog 126 (.map 3 3):=⟨by kernel_rfl⟩
def W9:prog.underlying 126=some (.map 3 3):=W8.h
instance Xa:jt prog 189 (.slice 50):=⟨by kernel_rfl⟩
def NQ:prog.underlying 189=some (.slice 50):=Xa.h
instance akg:cJ prog 28 0 0 1:=⟨by unfold cD;kernel_rfl⟩
instance akh:dw prog 28 0 0 1:=⟨by unfold cK;kernel_rfl⟩
instance aki:cJ prog 28 1 1 1:=⟨by unfold cD;kernel_rfl⟩
instance akj:cJ prog 28 2 2 1:=⟨by unfold cD;kernel_rfl⟩
instance Xb:dw prog 28 2 2 1:=⟨by unfold cK;kernel_rfl⟩
def NR:cK prog 28 2=some (2,1):=Xb.h
instance akk:cJ prog 28 3 3 1:=⟨by unfold cD;kernel_rfl⟩
instance akl:cJ prog 28 4 4 1:=⟨by unfold cD;kernel_rfl⟩
instance akm:dw prog 28 4 4 1:=⟨by unfold cK;kernel_rfl⟩
instance akn:cJ prog 30 0 0 1:=⟨by unfold cD;kernel_rfl⟩
instance ako:dw prog 30 0 0 1:=⟨by unfold cK;kernel_rfl⟩
instance akp:cJ prog 30 1 1 1:=⟨by unfold cD;kernel_rfl⟩
instance akq:dw prog 30 1 1 1:=⟨by unfold cK;kernel_rfl⟩
instance akr:cJ prog 30 2 2 1:=⟨by unfold cD;kernel_rfl⟩
instance aks:dw prog 30 2 2 1:=⟨by unfold cK;kernel_rfl⟩
instance akt:cJ prog 30 3 3 1:=⟨by unfold cD;kernel_rfl⟩
instance aku:dw prog 30 3 3 1:=⟨by unfold cK;kernel_rfl⟩
instance akv:cJ prog 30 4 4 1:=⟨by unfold cD;kernel_rfl⟩
instance akw:dw prog 30 4 4 1:=⟨by unfold cK;kernel_rfl⟩
instance akx:cJ prog 30 5 5 1:=⟨by unfold cD;kernel_rfl⟩
instance aky:dw prog 30 5 5 1:=⟨by unfold cK;kernel_rfl⟩
instance akz:cJ prog 30 6 6 1:=⟨by unfold cD;kernel_rfl⟩
instance akA:dw prog 30 6 6 1:=⟨by unfold cK;kernel_rfl⟩
instance akB:cJ prog 30 7 7 1:=⟨by unfold cD;kernel_rfl⟩
instance akC:dw prog 30 7 7 1:=⟨by unfold cK;kernel_rfl⟩
instance akD:cJ prog 30 8 8 1:=⟨by unfold cD;kernel_rfl⟩
instance akE:cJ prog 30 9 9 1:=⟨by unfold cD;kernel_rfl⟩
instance akF:cJ prog 30 10 10 1:=⟨by unfold cD;kernel_rfl⟩
instance akG:dw prog 30 10 10 1:=⟨by unfold cK;kernel_rfl⟩
instance akH:cJ prog 43 0 0 1:=⟨by unfold cD;kernel_rfl⟩
instance akI:dw prog 43 0 0 1:=⟨by unfold cK;kernel_rfl⟩
instance akJ:cJ prog 43 1 1 1:=⟨by unfold cD;kernel_rfl⟩
instance akK:dw prog 43 1 1 1:=⟨by unfold cK;kernel_rfl⟩
instance akL:cJ prog 43 2 2 1:=⟨by unfold cD;kernel_rfl⟩
instance Xc:dw prog 43 2 2 1:=⟨by unfold cK;kernel_rfl⟩
def Xd:cK prog 43 2=some (2,1):=Xc.h
instance akM:cJ prog 43 3 3 1:=⟨by unfold cD;kernel_rfl⟩
instance Xe:dw prog 43 3 3 1:=⟨by unfold cK;kernel_rfl⟩
def Xf:cK prog 43 3=some (3,1):=Xe.h
instance akN:cJ prog 43 4 4 1:=⟨by unfold cD;kernel_rfl⟩
instance Xg:dw prog 43 4 4 1:=⟨by unfold cK;kernel_rfl⟩
def Xh:cK prog 43 4=some (4,1):=Xg.h
instance akO:cJ prog 43 5 5 1:=⟨by unfold cD;kernel_rfl⟩
instance Xi:dw prog 43 5 5 1:=⟨by unfold cK;kernel_rfl⟩
def Xj:cK prog 43 5=some (5,1):=Xi.h
instance akP:cJ prog 43 6 6 1:=⟨by unfold cD;kernel_rfl⟩
instance Xk:dw prog 43 6 6 1:=⟨by unfold cK;kernel_rfl⟩
def Xl:cK prog 43 6=some (6,1):=Xk.h
instance akQ:cJ prog 46 0 0 1:=⟨by unfold cD;kernel_rfl⟩
instance akR:dw prog 46 0 0 1:=⟨by unfold cK;kernel_rfl⟩
instance akS:cJ prog 46 1 1 1:=⟨by unfold cD;kernel_rfl⟩
instance akT:dw prog 46 1 1 1:=⟨by unfold cK;kernel_rfl⟩
instance akU:cJ prog 50 0 0 1:=⟨by unfold cD;kernel_rfl⟩
instance akV:dw prog 50 0 0 1:=⟨by unfold cK;kernel_rfl⟩
instance akW:cJ prog 50 1 1 1:=⟨by unfold cD;kernel_rfl⟩
instance akX:dw prog 50 1 1 1:=⟨by unfold cK;kernel_rfl⟩
instance akY:cJ prog 53 0 0 1:=⟨by unfold cD;kernel_rfl⟩
instance akZ:dw prog 53 0 0 1:=⟨by unfold cK;kernel_rfl⟩
instance ak0:cJ prog 53 1 1 1:=⟨by unfold cD;kernel_rfl⟩
instance ak1:dw prog 53 1 1 1:=⟨by unfold cK;kernel_rfl⟩
instance ak2:cJ prog 53 2 2 1:=⟨by unfold cD;kernel_rfl⟩
instance ak3:dw prog 53 2 2 1:=⟨by unfold cK;kernel_rfl⟩
instance ak4:cJ prog 53 3 3 1:=⟨by unfold cD;kernel_rfl⟩
instance Xm:dw prog 53 3 3 1:=⟨by unfold cK;kernel_rfl⟩
def Xn:cK prog 53 3=some (3,1):=Xm.h
instance ak5:cJ prog 53 4 4 1:=⟨by unfold cD;kernel_rfl⟩
instance ak6:cJ prog 53 5 5 1:=⟨by unfold cD;kernel_rfl⟩
instance ak7:dw prog 53 5 5 1:=⟨by unfold cK;kernel_rfl⟩
instance ak8:cJ prog 53 6 6 1:=⟨by unfold cD;kernel_rfl⟩
instance ak9:dw prog 53 6 6 1:=⟨by unfold cK;kernel_rfl⟩
instance ala:cJ prog 53 7 7 1:=⟨by unfold cD;kernel_rfl⟩
instance alb:cJ prog 53 8 8 1:=⟨by unfold cD;kernel_rfl⟩
instance alc:cJ prog 53 9 9 2:=⟨by unfold cD;kernel_rfl⟩
instance ald:cJ prog 53 10 11 1:=⟨by unfold cD;kernel_rfl⟩
instance ale:cJ prog 53 11 12 1:=⟨by unfold cD;kernel_rfl⟩
instance alf:cJ prog 62 0 0 1:=⟨by unfold cD;kernel_rfl⟩
instance alg:dw prog 62 0 0 1:=⟨by unfold cK;kernel_rfl⟩
instance alh:cJ prog 62 1 1 2:=⟨by unfold cD;kernel_rfl⟩
instance ali:dw prog 62 1 1 2:=⟨by unfold cK;kernel_rfl⟩
instance alj:cJ prog 62 2 3 1:=⟨by unfold cD;kernel_rfl⟩
instance alk:dw prog 62 2 3 1:=⟨by unfold cK;kernel_rfl⟩
instance alm:cJ prog 62 3 4 1:=⟨by unfold cD;kernel_rfl⟩
instance aln:dw prog 62 3 4 1:=⟨by unfold cK;kernel_rfl⟩
instance alo:cJ prog 62 4 5 1:=⟨by unfold cD;kernel_rfl⟩
instance alp:dw prog 62 4 5 1:=⟨by unfold cK;kernel_rfl⟩
instance alq:cJ prog 62 5 6 1:=⟨by unfold cD;kernel_rfl⟩
instance alr:dw prog 62 5 6 1:=⟨by unfold cK;kernel_rfl⟩
instance als:cJ prog 77 0 0 1:=⟨by unfold cD;kernel_rfl⟩
instance alu:dw prog 77 0 0 1:=⟨by unfold cK;kernel_rfl⟩
instance alv:cJ prog 77 1 1 5:=⟨by unfold cD;kernel_rfl⟩
instance alw:dw prog 77 1 1 5:=⟨by unfold cK;kernel_rfl⟩
instance alx:cJ prog 77 2 6 1:=⟨by unfold cD;kernel_rfl⟩
instance aly:cJ prog 84 0 0 1:=⟨by unfold cD;kernel_rfl⟩
instance Xo:dw prog 84 0 0 1:=⟨by unfold cK;kernel_rfl⟩
def Xp:cK prog 84 0=some (0,1):=Xo.h
instance alz:cJ prog 84 1 1 1:=⟨by unfold cD;kernel_rfl⟩
instance alA:dw prog 84 1 1 1:=⟨by unfold cK;kernel_rfl⟩
instance alB:cJ prog 84 2 2 1:=⟨by unfold cD;kernel_rfl⟩
instance Xq:dw prog 84 2 2 1:=⟨by unfold cK;kernel_rfl⟩
def Xr:cK prog 84 2=some (2,1):=Xq.h
instance alC:cJ prog 84 3 3 1:=⟨by unfold cD;kernel_rfl⟩
instance alD:dw prog 84 3 3 1:=⟨by unfold cK;kernel_rfl⟩
instance alE:cJ prog 84 4 4 1:=⟨by unfold cD;kernel_rfl⟩
instance alF:dw prog 84 4 4 1:=⟨by unfold cK;kernel_rfl⟩
instance alG:cJ prog 84 5 5 2:=⟨by unfold cD;kernel_rfl⟩
instance alH:dw prog 84 5 5 2:=⟨by unfold cK;kernel_rfl⟩
instance alI:cJ prog 84 6 7 1:=⟨by unfold cD;kernel_rfl⟩
instance alJ:dw prog 84 6 7 1:=⟨by unfold cK;kernel_rfl⟩
instance alK:cJ prog 84 7 8 1:=⟨by unfold cD;kernel_rfl⟩
instance alL:dw prog 84 7 8 1:=⟨by unfold cK;kernel_rfl⟩
instance alM:cJ prog 84 8 9 1:=⟨by unfold cD;kernel_rfl⟩
instance alN:dw prog 84 8 9 1:=⟨by unfold cK;kernel_rfl⟩
instance alO:cJ prog 84 9 10 1:=⟨by unfold cD;kernel_rfl⟩
instance alP:dw prog 84 9 10 1:=⟨by unfold cK;kernel_rfl⟩
instance alQ:cJ prog 84 10 11 1:=⟨by unfold cD;kernel_rfl⟩
instance alR:dw prog 84 10 11 1:=⟨by unfold cK;kernel_rfl⟩
instance alS:cJ prog 84 11 12 1:=⟨by unfold cD;kernel_rfl⟩
instance alT:dw prog 84 11 12 1:=⟨by unfold cK;kernel_rfl⟩
instance alU:cJ prog 84 12 13 1:=⟨by unfold cD;kernel_rfl⟩
instance alV:cJ prog 84 13 14 1:=⟨by unfold cD;kernel_rfl⟩
instance alW:cJ prog 100 0 0 1:=⟨by unfold cD;kernel_rfl⟩
instance alX:dw prog 100 0 0 1:=⟨by unfold cK;kernel_rfl⟩
instance alY:cJ prog 100 1 1 1:=⟨by unfold cD;kernel_rfl⟩
instance alZ:cJ prog 115 0 0 1:=⟨by unfold cD;kernel_rfl⟩
instance al0:dw prog 115 0 0 1:=⟨by unfold cK;kernel_rfl⟩
instance al1:cJ prog 115 1 1 2:=⟨by unfold cD;kernel_rfl⟩
instance al2:dw prog 115 1 1 2:=⟨by unfold cK;kernel_rfl⟩
instance al3:cJ prog 128 0 0 1:=⟨by unfold cD;kernel_rfl⟩
instance al4:dw prog 128 0 0 1:=⟨by unfold cK;kernel_rfl⟩
instance al5:cJ prog 128 1 1 1:=⟨by unfold cD;kernel_rfl⟩
instance al6:dw prog 128 1 1 1:=⟨by unfold cK;kernel_rfl⟩
instance al7:cJ prog 128 2 2 7:=⟨by unfold cD;kernel_rfl⟩
instance al8:dw prog 128 2 2 7:=⟨by unfold cK;kernel_rfl⟩
def mD:Am prog 50 2:=⟨by kernel_rfl,λxs ys w hx hy=>by
 match xs,ys,hx,hy with
 |[x0,x1],[y0,y1],_,_=>
  simp[go_sem,Tryz.underlying50]
  (repeat' split)<;>simp_all⟩
def wq:Am prog 115 3:=⟨by kernel_rfl,λxs ys w hx hy=>by
 match xs,ys,hx,hy with
 |[x0,x1,x2],[y0,y1,y2],_,_=>
  simp[go_sem,Tryz.underlying115]
  (repeat' split)<;>simp_all⟩
def G3:Am prog 46 2:=⟨by kernel_rfl,λxs ys w hx hy=>by
 match xs,ys,hx,hy with
 |[x0,x1],[y0,y1],_,_=>
  simp[go_sem,Tryz.underlying46]
  (repeat' split)<;>simp_all⟩
end Go.Proofs.YtdanidpleofjgaaGreat

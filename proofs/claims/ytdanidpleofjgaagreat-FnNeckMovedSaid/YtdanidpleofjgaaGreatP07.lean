/- Part 7: rules of the proofs. -/
import Derived.Test.YtdanidpleofjgaaGreatProg
import Derived.Test.YtdanidpleofjgaaGreatP06
set_option linter.all false
namespace Go.Proofs.YtdanidpleofjgaaGreat
open Go Go.RowKit Tryz
section
variable {P:Program} {c:Ctx} {I:Im} {H:List Own} {Γ:Env} {a:Act} {w:World} {Q:Exit->Act->World->Prop} {ops:Array Oper} {rest:List Oper} {o:Oper} {x:AV} {g G:Bool} {y z y2:Operand} {ty T T':TypeId} {p:String} {af:Array Edge} {n m f:Nat} {zv:Value} {d:Option Tmp} {gd:Option (Nat×Bool)} {bo:BinOp} {uo:UnOp} {cc:Go.Call}
def Ok.Od {m n:Int} (hy:At Γ g y (.int m):=by first|exact .tt|exact .c|exact .ag) (hz:At Γ g z (.int n):=by first|exact .tt|exact .c|exact .ag):Ok P H Γ g ⟨d,.binOp .eql T y z T',ty,p,af,gd⟩ (.bool (m==n)):=VV hy hz
def Ok.Oe {m n:Int} (hy:At Γ g y (.int m):=by first|exact .tt|exact .c|exact .ag) (hz:At Γ g z (.int n):=by first|exact .tt|exact .c|exact .ag):Ok P H Γ g ⟨d,.binOp .neq T y z T',ty,p,af,gd⟩ (.bool (m !=n)):=VW hy hz
def Ok.Of {m n:Int} (hy:At Γ g y (.int m):=by first|exact .tt|exact .c|exact .ag) (hz:At Γ g z (.int n):=by first|exact .tt|exact .c|exact .ag):Ok P H Γ g ⟨d,.binOp .lss T y z T',ty,p,af,gd⟩ (.bool (decide (m<n))):=MJ hy hz
def Ok.Og {m n:Int} (hy:At Γ g y (.int m):=by first|exact .tt|exact .c|exact .ag) (hz:At Γ g z (.int n):=by first|exact .tt|exact .c|exact .ag):Ok P H Γ g ⟨d,.binOp .leq T y z T',ty,p,af,gd⟩ (.bool (decide (m<=n))):=MK hy hz
def Ok.Oh {m n:Int} (hy:At Γ g y (.int m):=by first|exact .tt|exact .c|exact .ag) (hz:At Γ g z (.int n):=by first|exact .tt|exact .c|exact .ag):Ok P H Γ g ⟨d,.binOp .gtr T y z T',ty,p,af,gd⟩ (.bool (decide (n<m))):=ML hy hz
def Ok.Oi {m n:Int} (hy:At Γ g y (.int m):=by first|exact .tt|exact .c|exact .ag) (hz:At Γ g z (.int n):=by first|exact .tt|exact .c|exact .ag):Ok P H Γ g ⟨d,.binOp .geq T y z T',ty,p,af,gd⟩ (.bool (decide (n<=m))):=MM hy hz
def Ok.HR {m n:Int} (hy:At Γ g y (.int m):=by first|exact .tt|exact .c|exact .ag) (hz:At Γ g z (.int n):=by first|exact .tt|exact .c|exact .ag) (hb:g=true->-9223372036854775808<=m+n/\m+n<=9223372036854775807:=by intro hg;first|omega|(simp at hg;omega)):Ok P H Γ g ⟨d,.binOp .add T y z T',ty,p,af,gd⟩ (.int (m+n)):=mH hy hz hb
def Ok.HT {m n:Int} (hy:At Γ g y (.int m):=by first|exact .tt|exact .c|exact .ag) (hz:At Γ g z (.int n):=by first|exact .tt|exact .c|exact .ag) (hb:g=true->-9223372036854775808<=m-n/\m-n<=9223372036854775807:=by intro hg;first|omega|(simp at hg;omega)):Ok P H Γ g ⟨d,.binOp .sub T y z T',ty,p,af,gd⟩ (.int (m-n)):=MI hy hz hb
def Ok.Oj {aa:Operand} {b x:Bool} (hc:At Γ g y (.bool b):=by first|exact .tt|exact .ag) (ha:At Γ g aa (.cond b (.bool x)):=by exact .pc):Ok P H Γ g ⟨d,.pick y aa (.const (.bool false)),ty,p,af,gd⟩ (.bool (b&&x)):=VT hc ha .c
def Ok.Ol {bb:Operand} {b x:Bool} (hc:At Γ g y (.bool b):=by first|exact .tt|exact .ag) (hb:At Γ g bb (.cond (!b) (.bool x)):=by exact .pc):Ok P H Γ g ⟨d,.pick y (.const (.bool true)) bb,ty,p,af,gd⟩ (.bool (b||x)):=VU hc .c hb
def Ok.kM (h:Ok P H Γ g ⟨d,.move y,ty,p,af,gd⟩ x):Ok P H Γ g ⟨d,.move y,ty,p,af,gd⟩ x:=h
def Ok.kL (h:Ok P H Γ g ⟨d,.load T y,ty,p,af,gd⟩ x):Ok P H Γ g ⟨d,.load T y,ty,p,af,gd⟩ x:=h
def Ok.kF (h:Ok P H Γ g ⟨d,.fieldAddr T y f,ty,p,af,gd⟩ x):Ok P H Γ g ⟨d,.fieldAddr T y f,ty,p,af,gd⟩ x:=h
def Ok.kA (h:Ok P H Γ g ⟨d,.assign y,ty,p,af,gd⟩ x):Ok P H Γ g ⟨d,.assign y,ty,p,af,gd⟩ x:=h
def Ok.Om (h:Ok P H Γ g ⟨d,.binOp .eql T y z T',ty,p,af,gd⟩ x):Ok P H Γ g ⟨d,.binOp .eql T y z T',ty,p,af,gd⟩ x:=h
def Ok.On (h:Ok P H Γ g ⟨d,.binOp .lss T y z T',ty,p,af,gd⟩ x):Ok P H Γ g ⟨d,.binOp .lss T y z T',ty,p,af,gd⟩ x:=h
def Ok.kP (h:Ok P H Γ g ⟨d,.pick y z y2,ty,p,af,gd⟩ x):Ok P H Γ g ⟨d,.pick y z y2,ty,p,af,gd⟩ x:=h
def Ok.kC (h:Ok P H Γ g ⟨d,.call cc,ty,p,af,gd⟩ x):Ok P H Γ g ⟨d,.call cc,ty,p,af,gd⟩ x:=h
def Ok.kI (h:Ok P H Γ g ⟨d,.indexAddr T y z,ty,p,af,gd⟩ x):Ok P H Γ g ⟨d,.indexAddr T y z,ty,p,af,gd⟩ x:=h
def Ok.Oo (h:Ok P H Γ g ⟨d,.binOp .add T y z T',ty,p,af,gd⟩ x):Ok P H Γ g ⟨d,.binOp .add T y z T',ty,p,af,gd⟩ x:=h
def Ok.kX (h:Ok P H Γ g ⟨d,.box T y,ty,p,af,gd⟩ x):Ok P H Γ g ⟨d,.box T y,ty,p,af,gd⟩ x:=h
def Ok.kN (h:Ok P H Γ g ⟨d,.unOp uo T y,ty,p,af,gd⟩ x):Ok P H Γ g ⟨d,.unOp uo T y,ty,p,af,gd⟩ x:=h
def Ok.kZ (h:Ok P H Γ g ⟨d,.nilCheck y,ty,p,af,gd⟩ x):Ok P H Γ g ⟨d,.nilCheck y,ty,p,af,gd⟩ x:=h
def Ok.kE (h:Ok P H Γ g ⟨d,.extract y f,ty,p,af,gd⟩ x):Ok P H Γ g ⟨d,.extract y f,ty,p,af,gd⟩ x:=h
def Ok.Oq (h:Ok P H Γ g ⟨d,.binOp .gtr T y z T',ty,p,af,gd⟩ x):Ok P H Γ g ⟨d,.binOp .gtr T y z T',ty,p,af,gd⟩ x:=h
def Ok.Ot (h:Ok P H Γ g ⟨d,.binOp .neq T y z T',ty,p,af,gd⟩ x):Ok P H Γ g ⟨d,.binOp .neq T y z T',ty,p,af,gd⟩ x:=h
def Ok.Ou (h:Ok P H Γ g ⟨d,.binOp .sub T y z T',ty,p,af,gd⟩ x):Ok P H Γ g ⟨d,.binOp .sub T y z T',ty,p,af,gd⟩ x:=h
def Ok.Ov (h:Ok P H Γ g ⟨d,.binOp .leq T y z T',ty,p,af,gd⟩ x):Ok P H Γ g ⟨d,.binOp .leq T y z T',ty,p,af,gd⟩ x:=h
def Ok.Ow (h:Ok P H Γ g ⟨d,.binOp .geq T y z T',ty,p,af,gd⟩ x):Ok P H Γ g ⟨d,.binOp .geq T y z T',ty,p,af,gd⟩ x:=h
def Ok.zo (h:Ok P H Γ g o x:=by
 first
 |(apply Ok.kM;first|exact .mv|exact AD .c)
 |(apply Ok.kL;first|exact .l1|exact .lb 0|exact .HL|exact .HM|exact .ls 0|exact .lb 1|exact .ls 1|exact .lb 2|exact .ls 2|exact .lb 3|exact .ls 3|exact .lb 4|exact .ls 4|exact .lb 5|exact .ls 5|exact .lb 6|exact .ls 6)
 |(apply Ok.kF;first|exact .fp|exact .fv)
 |(apply Ok.kA;first|exact .as|exact ym .c)
 |(apply Ok.Om;exact .Od)
 |(apply Ok.On;exact .Of)
 |(apply Ok.kP;first|exact .Ol|exact .Oj)
 |(apply Ok.kC;first|exact .HN|exact .HO|exact .HP)
 |(apply Ok.kI;first|exact .N8|exact .N7|exact .N9)
 |(apply Ok.Oo;exact .HR)
 |(apply Ok.kX;exact .bp)
 |(apply Ok.kN;exact .nt)
 |(apply Ok.kZ;exact .nl)
 |(apply Ok.kE;exact .e)
 |(apply Ok.Oq;exact .Oh)
 |(apply Ok.Ot;exact .Oe)
 |(apply Ok.Ou;exact .HT)
 |(apply Ok.Ov;exact .Og)
 |(apply Ok.Ow;exact .Oi)):Ok P H Γ g o x:=h
def Ok.zp (h:Ok P H Γ g o x:=by
 first
 |(apply Ok.kM;first|exact .mx .ag|exact .mv|exact AD .c)
 |(apply Ok.kL;first|exact .lx .ag|exact .Bl 0 .ag|exact .Bl 1 .ag|exact .Bl 2 .ag|exact .Bl 3 .ag|exact .Bl 4 .ag|exact .l1|exact .lb 0|exact .HL|exact .HM|exact .ls 0|exact .lb 1|exact .ls 1|exact .lb 2|exact .ls 2|exact .lb 3|exact .ls 3|exact .lb 4|exact .ls 4|exact .lb 5|exact .ls 5|exact .lb 6|exact .ls 6)
 |(apply Ok.kF;first|exact .fx .ag|exact .XB .ag|exact .fp|exact .fv)
 |(apply Ok.kA;first|exact .Xy .ag|exact .as|exact ym .c)
 |(apply Ok.Om;exact .Od)
 |(apply Ok.On;exact .Of)
 |(apply Ok.kP;first|exact .Ol|exact .Oj)
 |(apply Ok.kC;first|exact .HN|exact .HO|exact .HP)
 |(apply Ok.kI;first|exact .N8|exact .N7|exact .N9)
 |(apply Ok.Oo;exact .HR)
 |(apply Ok.kX;exact .bp)
 |(apply Ok.kN;first|exact .Xz .ag|exact .nt)
 |(apply Ok.kZ;exact .nl)
 |(apply Ok.kE;exact .e)
 |(apply Ok.Oq;exact .Oh)
 |(apply Ok.Ot;exact .Oe)
 |(apply Ok.Ou;exact .HT)
 |(apply Ok.Ov;exact .Og)
 |(apply Ok.Ow;exact .Oi)):Ok P H Γ g o x:=h
def jA.zg {b:Bool} (h:jA ops Γ o b:=by first|exact .T|exact .F|exact .T2|exact .F2):jA ops Γ o b:=h
def St.oy {d:Nat} {op:Op} (U:St c I H Γ a w) (hd:Nat.blt d c.n=true) (ok:Ok P H Γ true ⟨some d,op,ty,p,af,none⟩ x) (k:∀I' a' w',St c I' H ((d,x)::Γ) a' w'->wpList P ops Q rest a' w'):wpList P ops Q (⟨some d,op,ty,p,af,none⟩::rest) a w:=U.op rfl rfl hd ok k
def St.qy {d:Nat} {op:Op} {gd:Nat×Bool} (U:St c I H Γ a w) (hd:Nat.blt d c.n=true) (hg:jA ops Γ ⟨some d,op,ty,p,af,some gd⟩ G) (ok:Ok P H Γ G ⟨some d,op,ty,p,af,some gd⟩ x) (k:∀I' a' w',St c I' H ((d,.cond G x)::Γ) a' w'->wpList P ops Q rest a' w'):wpList P ops Q (⟨some d,op,ty,p,af,some gd⟩::rest) a w:=U.Dd hg rfl hd ok k
def St.sz {b:Nat} {l lx:List AV} (k:Nat) (U:St c I H Γ a w) (kk:∀I' a' w',St c I' (H.set k (Own.box b T' lx)) Γ a' w'->wpList P ops Q rest a' w') [hT:eM P T true n m zv] (hy:At Γ true y (.val (.pointer (some ⟨b,0,none⟩))):=by first|exact .tt|exact .ag|exact .c) (hz:At Γ true z (.agg lx):=by first|exact .tt|exact .ag|exact .c)
 (hk:H[k]?=some (Own.box b T' l):=by rfl) (hn:lx.length=n:=by first|rfl|assumption) (hl:l.length=n:=by rfl):wpList P ops Q (⟨none,.store T y z,ty,p,af,none⟩::rest) a w:=U.M7 k hT.h hy hz hk hn hl λ_ _ h=>kk _ _ _ h
def St.sy {b q:Nat} {l:List AV} (k:Nat) (U:St c I H Γ a w) (kk:∀I' a' w',St c I' (H.set k (Own.box b T' (l.set q x))) Γ a' w'->wpList P ops Q rest a' w') [hT:eM P T false 1 m zv] (hy:At Γ true y (.val (.pointer (some ⟨b,q,none⟩))):=by first|exact .tt|exact .ag|exact .c) (hz:At Γ true z x:=by first|exact .tt|exact .ag|exact .c|exact .nil (.t rfl)|exact .nil .c)
 (hx:x.One:=by first|exact lG rfl|exact lQ|exact lR|exact lV|assumption) (hk:H[k]?=some (Own.box b T' l):=by rfl) (hq:Nat.ble (q+1) l.length=true:=by rfl):wpList P ops Q (⟨none,.store T y z,ty,p,af,none⟩::rest) a w:=U.GZ k hT.h hy hz hx hk hq λ_ _ h=>kk _ _ _ h
def j2.oo {os:List Oper} {d:Nat} {op:Op} (hg:d=d) (ok:Ok P H (Γ.only ((⟨some d,op,ty,p,af,none⟩:Oper).looksAt ops)) true ⟨some d,op,ty,p,af,none⟩ x) (k:j2 P c H ops Q ((d,x)::Γ) os):j2 P c H ops Q Γ (⟨some d,op,ty,p,af,none⟩::os):=.cons (.of rfl ok) k
def j2.qq {os:List Oper} {d:Nat} {op:Op} {gd:Nat×Bool} (hg:jA ops (Γ.only ((⟨some d,op,ty,p,af,some gd⟩:Oper).looksAt ops)) ⟨some d,op,ty,p,af,some gd⟩ G) (ok:Ok P H (Γ.only ((⟨some d,op,ty,p,af,some gd⟩:Oper).looksAt ops)) G ⟨some d,op,ty,p,af,some gd⟩ x) (k:j2 P c H ops Q ((d,.cond G x)::Γ) os):j2 P c H ops Q Γ (⟨some d,op,ty,p,af,some gd⟩::os):=.cons (.De hg ok) k
def XC (h:wpList P ops Q (⟨none,.store T y z,ty,p,af,none⟩::rest) a w):wpList P ops Q (⟨none,.store T y z,ty,p,af,none⟩::rest) a w:=h
end
structure Hid (Q:Prop):Prop where
 out:Q
def zz {P Q:Prop} (k:Q) (h:Hid Q->P:=by
 intro gk;(with_reducible (repeat(first|refine nn ?_|refine sr ?_|refine bj ?_|refine wp_seq ?_|refine wp_block ?_|refine St.region ?_|refine wpList_nil ?_|refine wB ?_|refine wp_skip ?_)));first
 |(apply St.oy U;rfl;exact .zo;intro I a w U)
 |(apply St.qy U;rfl;exact .zg;exact .zp;intro I a w U)
 |(refine XC ?_;first|refine U.sy 0 (λI a w U=>?_)|refine U.sz 0 (λI a w U=>?_)|refine U.sy 1 (λI a w U=>?_)|refine U.sz 1 (λI a w U=>?_)|refine U.sy 2 (λI a w U=>?_)|refine U.sz 2 (λI a w U=>?_)|refine U.sy 3 (λI a w U=>?_)|refine U.sz 3 (λI a w U=>?_)|refine U.sy 4 (λI a w U=>?_)|refine U.sz 4 (λI a w U=>?_)|refine U.sz 5 (λI a w U=>?_)|refine U.sz 6 (λI a w U=>?_))
 |(refine U.dk ?_;(repeat(first|(apply j2.oo;rfl;exact .zo)|(apply j2.qq;exact .zg;exact .zp)));refine .nil ?_;intro I a w U)
 revert I a w;exact gk.out):P:=h ⟨k⟩
def zk {P Q:Prop} (k:Q) (h:Hid Q->P:=by
 intro gk;first|(apply j2.oo;rfl;exact .zo)|(apply j2.qq;exact .zg;exact .zp)|refine .o .zo ?_|refine .q .zg .zp ?_
 exact gk.out):P:=h ⟨k⟩
def bK {P Q:Prop} (k:Q) (h:Hid Q->P:=by intro gk;(iterate 1 (refine zz λI a w U=>?_));revert I a w;exact gk.out):P:=h ⟨k⟩
def aG {P Q:Prop} (k:Q) (h:Hid Q->P:=by intro gk;(iterate 2 (refine zz λI a w U=>?_));revert I a w;exact gk.out):P:=h ⟨k⟩
def bm {P Q:Prop} (k:Q) (h:Hid Q->P:=by intro gk;(iterate 3 (refine zz λI a w U=>?_));revert I a w;exact gk.out):P:=h ⟨k⟩
def bB {P Q:Prop} (k:Q) (h:Hid Q->P:=by intro gk;(iterate 4 (refine zz λI a w U=>?_));revert I a w;exact gk.out):P:=h ⟨k⟩
def cj {P Q:Prop} (k:Q) (h:Hid Q->P:=by intro gk;(iterate 5 (refine zz λI a w U=>?_));revert I a w;exact gk.out):P:=h ⟨k⟩
def ee {P Q:Prop} (k:Q) (h:Hid Q->P:=by intro gk;(iterate 6 (refine zz λI a w U=>?_));revert I a w;exact gk.out):P:=h ⟨k⟩
def gT {P Q:Prop} (k:Q) (h:Hid Q->P:=by intro gk;(iterate 7 (refine zz λI a w U=>?_));revert I a w;exact gk.out):P:=h ⟨k⟩
def mn {P Q:Prop} (k:Q) (h:Hid Q->P:=by intro gk;(iterate 8 (refine zz λI a w U=>?_));revert I a w;exact gk.out):P:=h ⟨k⟩
def yH {P Q:Prop} (k:Q) (h:Hid Q->P:=by intro gk;(iterate 9 (refine zz λI a w U=>?_));revert I a w;exact gk.out):P:=h ⟨k⟩
def va {P Q:Prop} (k:Q) (h:Hid Q->P:=by intro gk;(iterate 10 (refine zz λI a w U=>?_));revert I a w;exact gk.out):P:=h ⟨k⟩
def yI {P Q:Prop} (k:Q) (h:Hid Q->P:=by intro gk;(iterate 11 (refine zz λI a w U=>?_));revert I a w;exact gk.out):P:=h ⟨k⟩
def DP {P Q:Prop} (k:Q) (h:Hid Q->P:=by intro gk;(iterate 12 (refine zz λI a w U=>?_));revert I a w;exact gk.out):P:=h ⟨k⟩
def wW {P Q:Prop} (k:Q) (h:Hid Q->P:=by intro gk;(iterate 13 (refine zz λI a w U=>?_));revert I a w;exact gk.out):P:=h ⟨k⟩
def XD {P Q:Prop} (k:Q) (h:Hid Q->P:=by intro gk;(iterate 14 (refine zz λI a w U=>?_));revert I a w;exact gk.out):P:=h ⟨k⟩
def DQ {P Q:Prop} (k:Q) (h:Hid Q->P:=by intro gk;(iterate 15 (refine zz λI a w U=>?_));revert I a w;exact gk.out):P:=h ⟨k⟩
def XE {P Q:Prop} (k:Q) (h:Hid Q->P:=by intro gk;(iterate 16 (refine zz λI a w U=>?_));revert I a w;exact gk.out):P:=h ⟨k⟩
def Ox {P Q:Prop} (k:Q) (h:Hid Q->P:=by intro gk;(iterate 17 (refine zz λI a w U=>?_));revert I a w;exact gk.out):P:=h ⟨k⟩
def Oy {P Q:Prop} (k:Q) (h:Hid Q->P:=by intro gk;(iterate 19 (refine zz λI a w U=>?_));revert I a w;exact gk.out):P:=h ⟨k⟩
def XF {P Q:Prop} (k:Q) (h:Hid Q->P:=by intro gk;(iterate 20 (refine zz λI a w U=>?_));revert I a w;exact gk.out):P:=h ⟨k⟩
def Oz {P Q:Prop} (k:Q) (h:Hid Q->P:=by intro gk;(iterate 21 (refine zz λI a w U=>?_));revert I a w;exact gk.out):P:=h ⟨k⟩
def XG {P Q:Prop} (k:Q) (h:Hid Q->P:=by intro gk;(iterate 22 (refine zz λI a w U=>?_));revert I a w;exact gk.out):P:=h ⟨k⟩
def OA {P Q:Prop} (k:Q) (h:Hid Q->P:=by intro gk;(iterate 23 (refine zz λI a w U=>?_));revert I a w;exact gk.out):P:=h ⟨k⟩
def XH {P Q:Prop} (k:Q) (h:Hid Q->P:=by intro gk;(iterate 24 (refine zz λI a w U=>?_));revert I a w;exact gk.out):P:=h ⟨k⟩
def XI {P Q:Prop} (k:Q) (h:Hid Q->P:=by intro gk;(iterate 27 (refine zz λI a w U=>?_));revert I a w;exact gk.out):P:=h ⟨k⟩
def HU {P Q:Prop} (k:Q) (h:Hid Q->P:=by intro gk;(iterate 32 (refine zz λI a w U=>?_));revert I a w;exact gk.out):P:=h ⟨k⟩
def zt {P Q:Prop} (k:Q) (h:Hid Q->P:=by
 intro gk;(with_reducible (repeat(first|refine nn ?_|refine sr ?_|refine bj ?_|refine wp_seq ?_|refine wp_block ?_|refine St.region ?_|refine wpList_nil ?_|refine wB ?_|refine wp_skip ?_|refine wp_ret ?_|refine yq ?_|refine wC ?_|refine wp_exit ?_|refine cy ?_|refine fk ?_|refine V2 rfl ?_)));exact gk.out):P:=h ⟨k⟩
def cz {P Q R:Prop} (k:Q) (l:R) (h:Hid Q->Hid R->P:=by
 intro gk gl;refine U.cd (λgb=>?_) (λgb=>?_)
 ·(try simp only[B] at gb);revert gb;exact gk.out
 (try simp only[B] at gb);revert gb;exact gl.out):P:=h ⟨k⟩ ⟨l⟩
def px {P Q R:Prop} (k:Q) (l:R) (h:Hid Q->Hid R->P:=by
 intro gk gl;refine U.cd (λgb=>?_) (λgb=>?_)
 ·(try simp only[B] at gb);revert gb;exact gk.out
 revert gb;exact gl.out):P:=h ⟨k⟩ ⟨l⟩
def OB {P Q R:Prop} (k:Q) (l:R) (h:Hid Q->Hid R->P:=by
 intro gk gl;refine U.cd (λgb=>?_) (λgb=>?_)
 .revert gb;exact gk.out
 (try simp only[B] at gb);revert gb;exact gl.out):P:=h ⟨k⟩ ⟨l⟩
def aB {P Q:Prop} (k:Q) (h:Hid Q->P:=by intro gk;(iterate 1 (refine zz λI a w U=>?_));refine zt ?_;revert I a w;exact gk.out):P:=h ⟨k⟩
def aF {P Q:Prop} (k:Q) (h:Hid Q->P:=by intro gk;(iterate 2 (refine zz λI a w U=>?_));refine zt ?_;revert I a w;exact gk.out):P:=h ⟨k⟩
def aR {P Q:Prop} (k:Q) (h:Hid Q->P:=by intro gk;(iterate 3 (refine zz λI a w U=>?_));refine zt ?_;revert I a w;exact gk.out):P:=h ⟨k⟩
def bh {P Q:Prop} (k:Q) (h:Hid Q->P:=by intro gk;refine aB λI a w U=>?_;refine U.rt ?_;exact gk.out):P:=h ⟨k⟩
def dG {P Q:Prop} (k:Q) (h:Hid Q->P:=by intro gk;refine aF λI a w U=>?_;refine U.rt ?_;exact gk.out):P:=h ⟨k⟩
def tJ {P Q:Prop} (k:Q) (h:Hid Q->P:=by intro gk;refine aR λI a w U=>?_;refine U.rt ?_;exact gk.out):P:=h ⟨k⟩
def aZ {P Q:Prop} (k:Q) (h:Hid Q->P:=by intro gk;(iterate 4 (refine zz λI a w U=>?_));refine zt ?_;revert I a w;exact gk.out):P:=h ⟨k⟩
def cI {P Q:Prop} (k:Q) (h:Hid Q->P:=by intro gk;(iterate 5 (refine zz λI a w U=>?_));refine zt ?_;revert I a w;exact gk.out):P:=h ⟨k⟩
def iP {P Q:Prop} (k:Q) (h:Hid Q->P:=by intro gk;(iterate 6 (refine zz λI a w U=>?_));refine zt ?_;revert I a w;exact gk.out):P:=h ⟨k⟩
def jD {P Q:Prop} (k:Q) (h:Hid Q->P:=by intro gk;(iterate 7 (refine zz λI a w U=>?_));refine zt ?_;revert I a w;exact gk.out):P:=h ⟨k⟩
def py {P Q:Prop} (k:Q) (h:Hid Q->P:=by intro gk;(iterate 8 (refine zz λI a w U=>?_));refine zt ?_;revert I a w;exact gk.out):P:=h ⟨k⟩
def pz {P Q:Prop} (k:Q) (h:Hid Q->P:=by intro gk;(iterate 9 (refine zz λI a w U=>?_));refine zt ?_;revert I a w;exact gk.out):P:=h ⟨k⟩
def wX {P Q:Prop} (k:Q) (h:Hid Q->P:=by intro gk;(iterate 10 (refine zz λI a w U=>?_));refine zt ?_;revert I a w;exact gk.out):P:=h ⟨k⟩
def Bm {P Q:Prop} (k:Q) (h:Hid Q->P:=by intro gk;(iterate 11 (refine zz λI a w U=>?_));refine zt ?_;revert I a w;exact gk.out):P:=h ⟨k⟩
def Bn {P Q:Prop} (k:Q) (h:Hid Q->P:=by intro gk;(iterate 12 (refine zz λI a w U=>?_));refine zt ?_;revert I a w;exact gk.out):P:=h ⟨k⟩
def Bo {P Q:Prop} (k:Q) (h:Hid Q->P:=by intro gk;(iterate 13 (refine zz λI a w U=>?_));refine zt ?_;revert I a w;exact gk.out):P:=h ⟨k⟩
def HV {P Q:Prop} (k:Q) (h:Hid Q->P:=by intro gk;(iterate 17 (refine zz λI a w U=>?_));refine zt ?_;revert I a w;exact gk.out):P:=h ⟨k⟩
def XJ {P Q:Prop} (k:Q) (h:Hid Q->P:=by intro gk;(iterate 19 (refine zz λI a w U=>?_));refine zt ?_;revert I a w;exact gk.out):P:=h ⟨k⟩
def HW {P Q:Prop} (k:Q) (h:Hid Q->P:=by intro gk;(iterate 20 (refine zz λI a w U=>?_));refine zt ?_;revert I a w;exact gk.out):P:=h ⟨k⟩
def XK {P Q:Prop} (k:Q) (h:Hid Q->P:=by intro gk;(iterate 21 (refine zz λI a w U=>?_));refine zt ?_;revert I a w;exact gk.out):P:=h ⟨k⟩
def XL {P Q:Prop} (k:Q) (h:Hid Q->P:=by intro gk;(iterate 22 (refine zz λI a w U=>?_));refine zt ?_;revert I a w;exact gk.out):P:=h ⟨k⟩
def Bp {P Q:Prop} (k:Q) (h:Hid Q->P:=by intro gk;(iterate 23 (refine zz λI a w U=>?_));refine zt ?_;revert I a w;exact gk.out):P:=h ⟨k⟩
def OC {P Q:Prop} (k:Q) (h:Hid Q->P:=by intro gk;(iterate 29 (refine zz λI a w U=>?_));refine zt ?_;revert I a w;exact gk.out):P:=h ⟨k⟩
def XM {P Q:Prop} (k:Q) (h:Hid Q->P:=by intro gk;(iterate 31 (refine zz λI a w U=>?_));refine zt ?_;revert I a w;exact gk.out):P:=h ⟨k⟩
def bJ {P Q:Prop} (k:Q) (h:Hid Q->P:=by intro gk;(iterate 1 (refine zk ?_));exact gk.out):P:=h ⟨k⟩
def cB {P Q:Prop} (k:Q) (h:Hid Q->P:=by intro gk;(iterate 2 (refine zk ?_));exact gk.out):P:=h ⟨k⟩
def dD {P Q:Prop} (k:Q) (h:Hid Q->P:=by intro gk;(iterate 3 (refine zk ?_));exact gk.out):P:=h ⟨k⟩
def ef {P Q:Prop} (k:Q) (h:Hid Q->P:=by intro gk;(iterate 4 (refine zk ?_));exact gk.out):P:=h ⟨k⟩
def gF {P Q:Prop} (k:Q) (h:Hid Q->P:=by intro gk;(iterate 5 (refine zk ?_));exact gk.out):P:=h ⟨k⟩
def iC {P Q:Prop} (k:Q) (h:Hid Q->P:=by intro gk;(iterate 6 (refine zk ?_));exact gk.out):P:=h ⟨k⟩
def mo {P Q:Prop} (k:Q) (h:Hid Q->P:=by intro gk;(iterate 7 (refine zk ?_));exact gk.out):P:=h ⟨k⟩
def pB {P Q:Prop} (k:Q) (h:Hid Q->P:=by intro gk;(iterate 8 (refine zk ?_));exact gk.out):P:=h ⟨k⟩
def yJ {P Q:Prop} (k:Q) (h:Hid Q->P:=by intro gk;(iterate 9 (refine zk ?_));exact gk.out):P:=h ⟨k⟩
def pC {P Q:Prop} (k:Q) (h:Hid Q->P:=by intro gk;(iterate 10 (refine zk ?_));exact gk.out):P:=h ⟨k⟩
def XN {P Q:Prop} (k:Q) (h:Hid Q->P:=by intro gk;(iterate 11 (refine zk ?_));exact gk.out):P:=h ⟨k⟩
def DR {P Q:Prop} (k:Q) (h:Hid Q->P:=by intro gk;(iterate 12 (refine zk ?_));exact gk.out):P:=h ⟨k⟩
def rf {P Q:Prop} (k:Q) (h:Hid Q->P:=by intro gk;(iterate 14 (refine zk ?_));exact gk.out):P:=h ⟨k⟩
def XO {P Q:Prop} (k:Q) (h:Hid Q->P:=by intro gk;(iterate 15 (refine zk ?_));exact gk.out):P:=h ⟨k⟩
def nT {P Q:Prop} (k:Q) (h:Hid Q->P:=by intro gk;(iterate 16 (refine zk ?_));exact gk.out):P:=h ⟨k⟩
section
variable {P:Program} {c:Ctx} {I:Im} {H:List Own} {Γ:Env} {a:Act} {w:World} {E T:TypeId} {v:Value} {sz:Nat} {l:List (List AV)} {u:List AV} {b:Nat}
def St.fr (k t:Nat) (U:St c I H Γ a w) (hk:H[k]?=some (Own.row v E sz l):=by rfl) (ht:Env.get t Γ=some (.val v):=by rfl):∃I',St c I' (H.set k Own.gone) ((t,.rows sz l)::Γ) a w:=
 let⟨I',h,hf⟩:=U.uQ k hk
 ⟨I',h.yw ht hf⟩
def St.fb (k t:Nat) (U:St c I H Γ a w) (hk:H[k]?=some (Own.box b T u):=by rfl) (ht:Env.get t Γ=some (.val (.pointer (some ⟨b,0,none⟩))):=by rfl):∃I',St c I' (H.set k Own.gone) ((t,.ptr u)::Γ) a w:=
 let⟨I',h,hf⟩:=U.Nk k hk
 ⟨I',h.yw ht hf⟩
def St.fu (k q j:Nat) (U:St c I H Γ a w) (hk:H[k]?=some (Own.row v E sz l):=by rfl) (hj:(H.set k Own.gone)[j]?=some (Own.box b T u):=by rfl) (hq:u[q]?=some (.val v):=by rfl):∃I',St c I' ((H.set k Own.gone).set j (Own.box b T (u.set q (.rows sz l)))) Γ a w:=
 let⟨I',h,hf⟩:=U.uQ k hk
 ⟨I',h.ni j hj hq hf⟩
end
section
variable {P:Program} {H:List Own} {Γ:Env}
def Fn.go {f:FuncId} {fn:Func} {code:Code} {args:List AV} {res:AV} (N:Nat) (hf:P.funcs[f]?=some fn) (hn:fn.ntmps=N)
 (h:∀(W:World) (I:Im) (a:Act),St ⟨W,I,N,lF⟩ I [] (mI 0 args) a W->code.wp P (bodyPost P fn (wA lF I W res)) a W)
 (hb:fn.body=some code:=by rfl) (hN:Nat.ble args.length N=true:=by rfl) (oz:(fn.name== "runtime.NumGoroutine")=false:=by kernel_rfl):Fn P f args res:=Fn.intro N hf hb hn hN oz h
def lH.sx {s b n m:Nat} {T T':TypeId} {zv:Value} {l:List AV} (k:Nat) [hT:eM P T true n m zv] (h:Env.get s Γ=some (.val (.pointer (some ⟨b,0,none⟩))):=by rfl) (hk:H[k]?=some (Own.box b T' l):=by rfl) (hn:l.length=n:=by first|rfl|assumption):lH P H Γ (.cell s T) (.agg l):=.s k hT.h h hk hn
def lH.x {r:ResultVar} {x:AV} (h:lH P H Γ r x:=by first|exact .t rfl|exact .nil rfl):lH P H Γ r x:=h
def TD {α:Type}:(∀(n:Nat) (a:α) (l:List α),List.take (n+1) (a::l)=a::List.take n l)/\(∀l:List α,List.take 0 l=[])/\(∀(n:Nat) (a:α) (l:List α),List.drop (n+1) (a::l)=List.drop n l)/\(∀l:List α,List.drop 0 l=l):=
 ⟨λ_ _ _=>rfl,λ_=>rfl,λ_ _ _=>rfl,λ_=>rfl⟩
end
section
variable {P:Program} {c:Ctx} {I:Im} {H:List Own} {Γ:Env} {a:Act} {w:World}
def St.ln {α:Type} {s:Nat} {f:α->List AV} {l:List α} {xs:List AV} (U:St c I H Γ a w) (t i:Nat) (ht:Env.get t Γ=some (.agg xs):=by rfl) (hi:xs[i]?=some (.rows s (l.map f)):=by rfl):l.length<=9223372036854775807:=by
 obtain⟨cs,_,hc⟩:=U.env t _ ht;obtain⟨u,_,h,_⟩:=hc.get hi;exact AX h
end
section
variable {P:Program} {c:Ctx} {I:Im} {H:List Own} {Γ:Env} {a:Act} {w:World} {Q:Exit->Act->World->Prop} {ops:Array Oper} {rest:List Oper} {y z:Operand} {ty T E:TypeId} {p:String} {af:Array Edge} {m n sz d:Nat} {zv:Value} {ag:Bool}
def St.ap {v:Value} {l l2:List (List AV)} (k:Nat) (U:St c I H Γ a w) (kk:∀v' a' w',St c I (H.set k (Own.row v' E sz (l++l2))) ((d,.val v')::Γ) a' w'->wpList P ops Q rest a' w') [hU:jP P T (.slice E)] [hE:eM P E ag sz m zv]
 (hy:At Γ true y (.val v):=by first|exact .tt|exact .c) (hz:At Γ true z (.rows sz l2):=by first|exact .tt|exact .nil .tt) (hk:H[k]?=some (Own.row v E sz l):=by rfl) (hb:(l.length+l2.length)*m<=140737488355328/\l.length+l2.length<=140737488355328:=by simp;omega) (hd:Nat.blt d c.n=true:=by rfl) (gR:zv.cells.size=sz:=by rfl):
 wpList P ops Q (⟨some d,.call ⟨.builtin .append,#[y,z],#[T,T]⟩,ty,p,af,none⟩::rest) a w:=U.append k hd hU.h hE.h gR hy hz hk hb kk
def St.l0 (U:St c I H Γ a w) (k:∀b I a' w',St c I (H++[Own.row (.slice (some ⟨b,0,none⟩) 0 0) E sz []]) ((d,.val (.slice (some ⟨b,0,none⟩) 0 0))::Γ) a' w'->wpList P ops Q rest a' w') [hU:jP P T (.slice E)] [hE:eM P E ag sz m zv] (cT:0<sz:=by decide) (hd:Nat.blt d c.n=true:=by rfl):
 wpList P ops Q (⟨some d,.buildSlice T 0 #[],ty,p,af,none⟩::rest) a w:=U.WC hd hU.h hE.h cT k
def St.dt {id:Nat} {l:List Oper} (n:Nat) (U:St c I H Γ a w) (run:mM P c H l.toArray Q (l.drop n) Γ (l.take n)) (hm:P.follows .mixedOrders=true:=by kernel_rfl) (gE:nP (l.take n) (l.drop n)=true:=by kernel_rfl) (hd:((l.take n).all λo=>Nat.blt (o.dst.getD 0) c.n)=true:=by kernel_rfl):(Code.region id l.toArray true).wp P Q a w:=U.WQ n hm gE hd run
def St.da {id:Nat} {l:List Oper} (n:Nat) (U:St c I H Γ a w) (run:gJ P c H l.toArray Q (l.drop n) (λ_=>[]) 0 Γ (l.take n)) (hm:P.follows .mixedOrders=true:=by kernel_rfl) (gE:nP (l.take n) (l.drop n)=true:=by kernel_rfl) (hd:((l.take n).all λo=>Nat.blt (o.dst.getD 0) c.n)=true:=by kernel_rfl):(Code.region id l.toArray true).wp P Q a w:=U.NF n hm gE hd run
end
end Go.Proofs.YtdanidpleofjgaaGreat
set_option maxRecDepth 100000
namespace Go.Proofs.YtdanidpleofjgaaGreat
open Go Go.RowKit Tryz
instance XP:eM prog 3 false 1 8 (.int .i64 0):=⟨by kernel_rfl,by kernel_rfl⟩
def jQ:Ty prog 3 false 1 8 (.int .i64 0):=XP.h
def vb:∀u∈(Value.cells (.int .i64 0)).toList,u.oneCell'=true:=by simp[Value.cells,Value.oneCell']
instance XQ:eM prog 4 false 1 1 (.bool false):=⟨by kernel_rfl,by kernel_rfl⟩
def Bq:Ty prog 4 false 1 1 (.bool false):=XQ.h
def XR:∀I,bO I [AV.val (.bool false)] (Value.cells (.bool false)).toList:=λ_=>⟨⟨rfl,rfl⟩,trivial⟩
instance XS:eM prog 5 false 1 1 (.int .u8 0):=⟨by kernel_rfl,by kernel_rfl⟩
def wY:Ty prog 5 false 1 1 (.int .u8 0):=XS.h
instance aly:eM prog 22 false 1 24 (.slice none 0 0):=⟨by kernel_rfl,by kernel_rfl⟩
instance alz:eM prog 23 false 1 24 (.slice none 0 0):=⟨by kernel_rfl,by kernel_rfl⟩
instance XT:eM prog 24 false 1 24 (.slice none 0 0):=⟨by kernel_rfl,by kernel_rfl⟩
def HX:Ty prog 24 false 1 24 (.slice none 0 0):=XT.h
instance alA:eM prog 25 false 1 24 (.slice none 0 0):=⟨by kernel_rfl,by kernel_rfl⟩
instance alB:eM prog 26 false 1 24 (.slice none 0 0):=⟨by kernel_rfl,by kernel_rfl⟩
instance XU:eM prog 28 true 5 104 (.agg #[.int .i64 0,.slice none 0 0,.slice none 0 0,.slice none 0 0,.slice none 0 0]):=⟨by kernel_rfl,by kernel_rfl⟩
def dM:Ty prog 28 true 5 104 (.agg #[.int .i64 0,.slice none 0 0,.slice none 0 0,.slice none 0 0,.slice none 0 0]):=XU.h
def ei:∀I,bO I [AV.val (.int .i64 0),AV.rows 7 [],AV.rows 15 [],AV.rows 13 [],AV.rows 1 []] (Value.cells (.agg #[.int .i64 0,.slice none 0 0,.slice none 0 0,.slice none 0 0,.slice none 0 0])).toList:=λ_=>⟨⟨rfl,rfl⟩,⟨fB _ _,rfl⟩,⟨fB _ _,rfl⟩,⟨fB _ _,rfl⟩,⟨fB _ _,rfl⟩,trivial⟩
def yK:∀I,bO I [AV.val (.int .i64 0),AV.val (.slice none 0 0),AV.val (.slice none 0 0),AV.val (.slice none 0 0),AV.val (.slice none 0 0)] (Value.cells (.agg #[.int .i64 0,.slice none 0 0,.slice none 0 0,.slice none 0 0,.slice none 0 0])).toList:=λ_=>⟨⟨rfl,rfl⟩,⟨rfl,rfl⟩,⟨rfl,rfl⟩,⟨rfl,rfl⟩,⟨rfl,rfl⟩,trivial⟩
instance alC:oM prog 28:=⟨by kernel_rfl⟩
instance XV:eM prog 30 true 11 88 (.agg #[.int .i64 0,.int .i64 0,.int .i64 0,.int .i64 0,.int .i64 0,.int .i64 0,.int .i64 0,.int .i64 0,.int .i64 0,.int .i64 0,.int .i64 0]):=⟨by kernel_rfl,by kernel_rfl⟩
def yL:Ty prog 30 true 11 88 (.agg #[.int .i64 0,.int .i64 0,.int .i64 0,.int .i64 0,.int .i64 0,.int .i64 0,.int .i64 0,.int .i64 0,.int .i64 0,.int .i64 0,.int .i64 0]):=XV.h
def jo:∀I,bO I [AV.val (.int .i64 0),AV.val (.int .i64 0),AV.val (.int .i64 0),AV.val (.int .i64 0),AV.val (.int .i64 0),AV.val (.int .i64 0),AV.val (.int .i64 0),AV.val (.int .i64 0),AV.val (.int .i64 0),AV.val (.int .i64 0),AV.val (.int .i64 0)] (Value.cells (.agg #[.int .i64 0,.int .i64 0,.int .i64 0,.int .i64 0,.int .i64 0,.int .i64 0,.int .i64 0,.int .i64 0,.int .i64 0,.int .i64 0,.int .i64 0])).toList:=λ_=>⟨⟨rfl,rfl⟩,⟨rfl,rfl⟩,⟨rfl,rfl⟩,⟨rfl,rfl⟩,⟨rfl,rfl⟩,⟨rfl,rfl⟩,⟨rfl,rfl⟩,⟨rfl,rfl⟩,⟨rfl,rfl⟩,⟨rfl,rfl⟩,⟨rfl,rfl⟩,trivial⟩
def XW:∀u∈(Value.cells (.agg #[.int .i64 0,.int .i64 0,.int .i64 0,.int .i64 0,.int .i64 0,.int .i64 0,.int .i64 0,.int .i64 0,.int .i64 0,.int .i64 0,.int .i64 0])).toList,u.oneCell'=true:=by simp[Value.cells,Value.oneCell']
instance alD:oM prog 30:=⟨by kernel_rfl⟩
instance alE:eM prog 39 false 1 24 (.slice none 0 0):=⟨by kernel_rfl,by kernel_rfl⟩
instance alF:eM prog 40 false 1 24 (.slice none 0 0):=⟨by kernel_rfl,by kernel_rfl⟩
instance XX:eM prog 41 false 1 24 (.slice none 0 0):=⟨by kernel_rfl,by kernel_rfl⟩
def tK:Ty prog 41 false 1 24 (.slice none 0 0):=XX.h
def XY:∀I,bO I [AV.rows 3 []] (Value.cells (.slice none 0 0)).toList:=λ_=>⟨⟨fB _ _,rfl⟩,trivial⟩
def HY:∀u∈(Value.cells (.slice none 0 0)).toList,u.oneCell'=true:=by simp[Value.cells,Value.oneCell']
instance XZ:eM prog 43 true 7 136 (.agg #[.int .i64 0,.bool false,.slice none 0 0,.slice none 0 0,.slice none 0 0,.slice none 0 0,.slice none 0 0]):=⟨by kernel_rfl,by kernel_rfl⟩
def cv:Ty prog 43 true 7 136 (.agg #[.int .i64 0,.bool false,.slice none 0 0,.slice none 0 0,.slice none 0 0,.slice none 0 0,.slice none 0 0]):=XZ.h
def dN:∀I,bO I [AV.val (.int .i64 0),AV.val (.bool false),AV.rows 2 [],AV.rows 7 [],AV.rows 7 [],AV.rows 3 [],AV.rows 3 []] (Value.cells (.agg #[.int .i64 0,.bool false,.slice none 0 0,.slice none 0 0,.slice none 0 0,.slice none 0 0,.slice none 0 0])).toList:=λ_=>⟨⟨rfl,rfl⟩,⟨rfl,rfl⟩,⟨fB _ _,rfl⟩,⟨fB _ _,rfl⟩,⟨fB _ _,rfl⟩,⟨fB _ _,rfl⟩,⟨fB _ _,rfl⟩,trivial⟩
def DS:∀I,bO I [AV.val (.int .i64 0),AV.val (.bool false),AV.val (.slice none 0 0),AV.val (.slice none 0 0),AV.val (.slice none 0 0),AV.val (.slice none 0 0),AV.val (.slice none 0 0)] (Value.cells (.agg #[.int .i64 0,.bool false,.slice none 0 0,.slice none 0 0,.slice none 0 0,.slice none 0 0,.slice none 0 0])).toList:=λ_=>⟨⟨rfl,rfl⟩,⟨rfl,rfl⟩,⟨rfl,rfl⟩,⟨rfl,rfl⟩,⟨rfl,rfl⟩,⟨rfl,rfl⟩,⟨rfl,rfl⟩,trivial⟩
def DT:∀u∈(Value.cells (.agg #[.int .i64 0,.bool false,.slice none 0 0,.slice none 0 0,.slice none 0 0,.slice none 0 0,.slice none 0 0])).toList,u.oneCell'=true:=by simp[Value.cells,Value.oneCell']
instance alG:oM prog 43:=⟨by kernel_rfl⟩
instance X0:eM prog 46 true 2 16 (.agg #[.int .i64 0,.int .i64 0]):=⟨by kernel_rfl,by kernel_rfl⟩
def fo:Ty prog 46 true 2 16 (.agg #[.int .i64 0,.int .i64 0]):=X0.h
def oN:∀I,bO I [AV.val (.int .i64 0),AV.val (.int .i64 0)] (Value.cells (.agg #[.int .i64 0,.int .i64 0])).toList:=λ_=>⟨⟨rfl,rfl⟩,⟨rfl,rfl⟩,trivial⟩
def DU:∀u∈(Value.cells (.agg #[.int .i64 0,.int .i64 0])).toList,u.oneCell'=true:=by simp[Value.cells,Value.oneCell']
instance alH:oM prog 46:=⟨by kernel_rfl⟩
instance alI:eM prog 48 false 1 24 (.slice none 0 0):=⟨by kernel_rfl,by kernel_rfl⟩
instance X1:eM prog 50 true 2 16 (.agg #[.int .i64 0,.int .i64 0]):=⟨by kernel_rfl,by kernel_rfl⟩
def mP:Ty prog 50 true 2 16 (.agg #[.int .i64 0,.int .i64 0]):=X1.h
def ke:∀I,bO I [AV.val (.int .i64 0),AV.val (.int .i64 0)] (Value.cells (.agg #[.int .i64 0,.int .i64 0])).toList:=λ_=>⟨⟨rfl,rfl⟩,⟨rfl,rfl⟩,trivial⟩
def DV:∀u∈(Value.cells (.agg #[.int .i64 0,.int .i64 0])).toList,u.oneCell'=true:=by simp[Value.cells,Value.oneCell']
instance alJ:oM prog 50:=⟨by kernel_rfl⟩
instance alK:eM prog 51 false 1 24 (.slice none 0 0):=⟨by kernel_rfl,by kernel_rfl⟩
instance X2:eM prog 53 true 13 168 (.agg #[.int .i64 0,.int .i64 0,.int .i64 0,.slice none 0 0,.int .i64 0,.slice none 0 0,.int .i64 0,.int .i64 0,.bool false,.int .i64 0,.int .i64 0,.slice none 0 0,.slice none 0 0]):=⟨by kernel_rfl,by kernel_rfl⟩
def fI:Ty prog 53 true 13 168 (.agg #[.int .i64 0,.int .i64 0,.int .i64 0,.slice none 0 0,.int .i64 0,.slice none 0 0,.int .i64 0,.int .i64 0,.bool false,.int .i64 0,.int .i64 0,.slice none 0 0,.slice none 0 0]):=X2.h
def j4:∀I,bO I [AV.val (.int .i64 0),AV.val (.int .i64 0),AV.val (.int .i64 0),AV.rows 1 [],AV.val (.int .i64 0),AV.rows 3 [],AV.val (.int .i64 0),AV.val (.int .i64 0),AV.val (.bool false),AV.val (.int .i64 0),AV.val (.int .i64 0),AV.rows 9 [],AV.rows 3 []] (Value.cells (.agg #[.int .i64 0,.int .i64 0,.int .i64 0,.slice none 0 0,.int .i64 0,.slice none 0 0,.int .i64 0,.int .i64 0,.bool false,.int .i64 0,.int .i64 0,.slice none 0 0,.slice none 0 0])).toList:=λ_=>⟨⟨rfl,rfl⟩,⟨rfl,rfl⟩,⟨rfl,rfl⟩,⟨fB _ _,rfl⟩,⟨rfl,rfl⟩,⟨fB _ _,rfl⟩,⟨rfl,rfl⟩,⟨rfl,rfl⟩,⟨rfl,rfl⟩,⟨rfl,rfl⟩,⟨rfl,rfl⟩,⟨fB _ _,rfl⟩,⟨fB _ _,rfl⟩,trivial⟩
def DW:∀u∈(Value.cells (.agg #[.int .i64 0,.int .i64 0,.int .i64 0,.slice none 0 0,.int .i64 0,.slice none 0 0,.int .i64 0,.int .i64 0,.bool false,.int .i64 0,.int .i64 0,.slice none 0 0,.slice none 0 0])).toList,u.oneCell'=true:=by simp[Value.cells,Value.oneCell']
instance alL:oM prog 53:=⟨by kernel_rfl⟩
instance X3:eM prog 57 false 1 24 (.slice none 0 0):=⟨by kernel_rfl,by kernel_rfl⟩
def X4:Ty prog 57 false 1 24 (.slice none 0 0):=X3.h
instance X5:eM prog 62 true 7 72 (.agg #[.int .i64 0,.int .i64 0,.int .i64 0,.int .i64 0,.int .i64 0,.int .i64 0,.slice none 0 0]):=⟨by kernel_rfl,by kernel_rfl⟩
def bQ:Ty prog 62 true 7 72 (.agg #[.int .i64 0,.int .i64 0,.int .i64 0,.int .i64 0,.int .i64 0,.int .i64 0,.slice none 0 0]):=X5.h
def dO:∀I,bO I [AV.val (.int .i64 0),AV.val (.int .i64 0),AV.val (.int .i64 0),AV.val (.int .i64 0),AV.val (.int .i64 0),AV.val (.int .i64 0),AV.rows 3 []] (Value.cells (.agg #[.int .i64 0,.int .i64 0,.int .i64 0,.int .i64 0,.int .i64 0,.int .i64 0,.slice none 0 0])).toList:=λ_=>⟨⟨rfl,rfl⟩,⟨rfl,rfl⟩,⟨rfl,rfl⟩,⟨rfl,rfl⟩,⟨rfl,rfl⟩,⟨rfl,rfl⟩,⟨fB _ _,rfl⟩,trivial⟩
def lX:∀u∈(Value.cells (.agg #[.int .i64 0,.int .i64 0,.int .i64 0,.int .i64 0,.int .i64 0,.int .i64 0,.slice none 0 0])).toList,u.oneCell'=true:=by simp[Value.cells,Value.oneCell']
instance alM:oM prog 62:=⟨by kernel_rfl⟩
instance alN:eM prog 70 false 1 8 (.pointer none):=⟨by kernel_rfl,by kernel_rfl⟩
instance alO:eM prog 77 true 7 136 (.agg #[.pointer none,.int .i64 0,.slice none 0 0,.slice none 0 0,.slice none 0 0,.slice none 0 0,.slice none 0 0]):=⟨by kernel_rfl,by kernel_rfl⟩
def X6:∀I,bO I [AV.val (.pointer none),AV.val (.int .i64 0),AV.val (.slice none 0 0),AV.val (.slice none 0 0),AV.val (.slice none 0 0),AV.val (.slice none 0 0),AV.val (.slice none 0 0)] (Value.cells (.agg #[.pointer none,.int .i64 0,.slice none 0 0,.slice none 0 0,.slice none 0 0,.slice none 0 0,.slice none 0 0])).toList:=λ_=>⟨⟨rfl,rfl⟩,⟨rfl,rfl⟩,⟨rfl,rfl⟩,⟨rfl,rfl⟩,⟨rfl,rfl⟩,⟨rfl,rfl⟩,⟨rfl,rfl⟩,trivial⟩
instance alP:oM prog 77:=⟨by kernel_rfl⟩
instance X7:eM prog 84 true 15 184 (.agg #[.int .i64 0,.int .i64 0,.int .i64 0,.int .i64 0,.int .i64 0,.int .i64 0,.int .i64 0,.int .i64 0,.bool false,.slice none 0 0,.int .i64 0,.int .i64 0,.slice none 0 0,.slice none 0 0,.slice none 0 0]):=⟨by kernel_rfl,by kernel_rfl⟩
def dI:Ty prog 84 true 15 184 (.agg #[.int .i64 0,.int .i64 0,.int .i64 0,.int .i64 0,.int .i64 0,.int .i64 0,.int .i64 0,.int .i64 0,.bool false,.slice none 0 0,.int .i64 0,.int .i64 0,.slice none 0 0,.slice none 0 0,.slice none 0 0]):=X7.h
def eI:∀I,bO I [AV.val (.int .i64 0),AV.val (.int .i64 0),AV.val (.int .i64 0),AV.val (.int .i64 0),AV.val (.int .i64 0),AV.val (.int .i64 0),AV.val (.int .i64 0),AV.val (.int .i64 0),AV.val (.bool false),AV.rows 3 [],AV.val (.int .i64 0),AV.val (.int .i64 0),AV.rows 7 [],AV.rows 7 [],AV.rows 3 []] (Value.cells (.agg #[.int .i64 0,.int .i64 0,.int .i64 0,.int .i64 0,.int .i64 0,.int .i64 0,.int .i64 0,.int .i64 0,.bool false,.slice none 0 0,.int .i64 0,.int .i64 0,.slice none 0 0,.slice none 0 0,.slice none 0 0])).toList:=λ_=>⟨⟨rfl,rfl⟩,⟨rfl,rfl⟩,⟨rfl,rfl⟩,⟨rfl,rfl⟩,⟨rfl,rfl⟩,⟨rfl,rfl⟩,⟨rfl,rfl⟩,⟨rfl,rfl⟩,⟨rfl,rfl⟩,⟨fB _ _,rfl⟩,⟨rfl,rfl⟩,⟨rfl,rfl⟩,⟨fB _ _,rfl⟩,⟨fB _ _,rfl⟩,⟨fB _ _,rfl⟩,trivial⟩
def X8:∀I,bO I [AV.val (.int .i64 0),AV.val (.int .i64 0),AV.val (.int .i64 0),AV.val (.int .i64 0),AV.val (.int .i64 0),AV.val (.int .i64 0),AV.val (.int .i64 0),AV.val (.int .i64 0),AV.val (.bool false),AV.val (.slice none 0 0),AV.val (.int .i64 0),AV.val (.int .i64 0),AV.val (.slice none 0 0),AV.val (.slice none 0 0),AV.val (.slice none 0 0)] (Value.cells (.agg #[.int .i64 0,.int .i64 0,.int .i64 0,.int .i64 0,.int .i64 0,.int .i64 0,.int .i64 0,.int .i64 0,.bool false,.slice none 0 0,.int .i64 0,.int .i64 0,.slice none 0 0,.slice none 0 0,.slice none 0 0])).toList:=λ_=>⟨⟨rfl,rfl⟩,⟨rfl,rfl⟩,⟨rfl,rfl⟩,⟨rfl,rfl⟩,⟨rfl,rfl⟩,⟨rfl,rfl⟩,⟨rfl,rfl⟩,⟨rfl,rfl⟩,⟨rfl,rfl⟩,⟨rfl,rfl⟩,⟨rfl,rfl⟩,⟨rfl,rfl⟩,⟨rfl,rfl⟩,⟨rfl,rfl⟩,⟨rfl,rfl⟩,trivial⟩
def ir:∀u∈(Value.cells (.agg #[.int .i64 0,.int .i64 0,.int .i64 0,.int .i64 0,.int .i64 0,.int .i64 0,.int .i64 0,.int .i64 0,.bool false,.slice none 0 0,.int .i64 0,.int .i64 0,.slice none 0 0,.slice none 0 0,.slice none 0 0])).toList,u.oneCell'=true:=by simp[Value.cells,Value.oneCell']
instance alQ:oM prog 84:=⟨by kernel_rfl⟩
instance alR:eM prog 100 true 2 32 (.agg #[.slice none 0 0,.int .i64 0]):=⟨by kernel_rfl,by kernel_rfl⟩
def X9:∀I,bO I [AV.rows 1 [],AV.val (.int .i64 0)] (Value.cells (.agg #[.slice none 0 0,.int .i64 0])).toList:=λ_=>⟨⟨fB _ _,rfl⟩,⟨rfl,rfl⟩,trivial⟩
instance alS:oM prog 100:=⟨by kernel_rfl⟩
instance Ya:eM prog 115 true 3 24 (.agg #[.int .i64 0,.int .i64 0,.int .i64 0]):=⟨by kernel_rfl,by kernel_rfl⟩
def cV:Ty prog 115 true 3 24 (.agg #[.int .i64 0,.int .i64 0,.int .i64 0]):=Ya.h
def gK:∀I,bO I [AV.val (.int .i64 0),AV.val (.int .i64 0),AV.val (.int .i64 0)] (Value.cells (.agg #[.int .i64 0,.int .i64 0,.int .i64 0])).toList:=λ_=>⟨⟨rfl,rfl⟩,⟨rfl,rfl⟩,⟨rfl,rfl⟩,trivial⟩
def iQ:∀u∈(Value.cells (.agg #[.int .i64 0,.int .i64 0,.int .i64 0])).toList,u.oneCell'=true:=by simp[Value.cells,Value.oneCell']
instance alT:oM prog 115:=⟨by kernel_rfl⟩
instance Yb:eM prog 128 true 9 88 (.agg #[.int .i64 0,.bool false,.int .i64 0,.int .i64 0,.int .i64 0,.int .i64 0,.int .i64 0,.int .i64 0,.slice none 0 0]):=⟨by kernel_rfl,by kernel_rfl⟩
def ga:Ty prog 128 true 9 88 (.agg #[.int .i64 0,.bool false,.int .i64 0,.int .i64 0,.int .i64 0,.int .i64 0,.int .i64 0,.int .i64 0,.slice none 0 0]):=Yb.h
def pD:∀I,bO I [AV.val (.int .i64 0),AV.val (.bool false),AV.val (.int .i64 0),AV.val (.int .i64 0),AV.val (.int .i64 0),AV.val (.int .i64 0),AV.val (.int .i64 0),AV.val (.int .i64 0),AV.rows 3 []] (Value.cells (.agg #[.int .i64 0,.bool false,.int .i64 0,.int .i64 0,.int .i64 0,.int .i64 0,.int .i64 0,.int .i64 0,.slice none 0 0])).toList:=λ_=>⟨⟨rfl,rfl⟩,⟨rfl,rfl⟩,⟨rfl,rfl⟩,⟨rfl,rfl⟩,⟨rfl,rfl⟩,⟨rfl,rfl⟩,⟨rfl,rfl⟩,⟨rfl,rfl⟩,⟨fB _ _,rfl⟩,trivial⟩
def ve:∀u∈(Value.cells (.agg #[.int .i64 0,.bool false,.int .i64 0,.int .i64 0,.int .i64 0,.int .i64 0,.int .i64 0,.int .i64 0,.slice none 0 0])).toList,u.oneCell'=true:=by simp[Value.cells,Value.oneCell']
instance alU:oM prog 128:=⟨by kernel_rfl⟩
instance Yc:jP prog 3 (.int .i64):=⟨by kernel_rfl⟩
def rh:prog.underlying 3=some (.int .i64):=Yc.h
instance Yd:jP prog 4 (.bool):=⟨by kernel_rfl⟩
def yM:prog.underlying 4=some (.bool):=Yd.h
instance Ye:jP prog 22 (.slice 5):=⟨by kernel_rfl⟩
def wZ:prog.underlying 22=some (.slice 5):=Ye.h
instance Yf:jP prog 23 (.slice 43):=⟨by kernel_rfl⟩
def tL:prog.underlying 23=some (.slice 43):=Yf.h
instance Yg:jP prog 24 (.slice 84):=⟨by kernel_rfl⟩
def gf:prog.underlying 24=some (.slice 84):=Yg.h
instance Yh:jP prog 25 (.slice 53):=⟨by kernel_rfl⟩
def oO:prog.underlying 25=some (.slice 53):=Yh.h
instance Yi:jP prog 26 (.slice 41):=⟨by kernel_rfl⟩
def Br:prog.underlying 26=some (.slice 41):=Yi.h
instance Yj:jP prog 39 (.slice 46):=⟨by kernel_rfl⟩
def gU:prog.underlying 39=some (.slice 46):=Yj.h
instance Yk:jP prog 40 (.slice 62):=⟨by kernel_rfl⟩
def eJ:prog.underlying 40=some (.slice 62):=Yk.h
instance Yl:jP prog 41 (.slice 115):=⟨by kernel_rfl⟩
def en:prog.underlying 41=some (.slice 115):=Yl.h
instance Ym:jP prog 48 (.slice 3):=⟨by kernel_rfl⟩
def ky:prog.underlying 48=some (.slice 3):=Ym.h
instance Yn:jP prog 51 (.slice 128):=⟨by kernel_rfl⟩
def iD:prog.underlying 51=some (.slice 128):=Yn.h
instance Yo:jP prog 57 (.slice 30):=⟨by kernel_rfl⟩
def OD:prog.underlying 57=some (.slice 30):=Yo.h
instance Yp:jP prog 126 (.map 3 3):=⟨by kernel_rfl⟩
def Yq:prog.underlying 126=some (.map 3 3):=Yp.h
instance Yr:jP prog 189 (.slice 50):=⟨by kernel_rfl⟩
def OE:prog.underlying 189=some (.slice 50):=Yr.h
instance alV:cH prog 28 0 0 1:=⟨by unfold cG;kernel_rfl⟩
instance alW:dC prog 28 0 0 1:=⟨by unfold cO;kernel_rfl⟩
instance alX:cH prog 28 1 1 1:=⟨by unfold cG;kernel_rfl⟩
instance alY:cH prog 28 2 2 1:=⟨by unfold cG;kernel_rfl⟩
instance Ys:dC prog 28 2 2 1:=⟨by unfold cO;kernel_rfl⟩
def Yt:cO prog 28 2=some (2,1):=Ys.h
instance alZ:cH prog 28 3 3 1:=⟨by unfold cG;kernel_rfl⟩
instance al0:cH prog 28 4 4 1:=⟨by unfold cG;kernel_rfl⟩
instance al1:dC prog 28 4 4 1:=⟨by unfold cO;kernel_rfl⟩
instance al2:cH prog 30 0 0 1:=⟨by unfold cG;kernel_rfl⟩
instance al3:dC prog 30 0 0 1:=⟨by unfold cO;kernel_rfl⟩
instance al4:cH prog 30 1 1 1:=⟨by unfold cG;kernel_rfl⟩
instance al5:dC prog 30 1 1 1:=⟨by unfold cO;kernel_rfl⟩
instance al6:cH prog 30 2 2 1:=⟨by unfold cG;kernel_rfl⟩
instance al7:dC prog 30 2 2 1:=⟨by unfold cO;kernel_rfl⟩
instance al8:cH prog 30 3 3 1:=⟨by unfold cG;kernel_rfl⟩
instance al9:dC prog 30 3 3 1:=⟨by unfold cO;kernel_rfl⟩
instance ama:cH prog 30 4 4 1:=⟨by unfold cG;kernel_rfl⟩
instance amb:dC prog 30 4 4 1:=⟨by unfold cO;kernel_rfl⟩
instance amc:cH prog 30 5 5 1:=⟨by unfold cG;kernel_rfl⟩
instance amd:dC prog 30 5 5 1:=⟨by unfold cO;kernel_rfl⟩
instance ame:cH prog 30 6 6 1:=⟨by unfold cG;kernel_rfl⟩
instance amf:dC prog 30 6 6 1:=⟨by unfold cO;kernel_rfl⟩
instance amg:cH prog 30 7 7 1:=⟨by unfold cG;kernel_rfl⟩
instance amh:dC prog 30 7 7 1:=⟨by unfold cO;kernel_rfl⟩
instance ami:cH prog 30 8 8 1:=⟨by unfold cG;kernel_rfl⟩
instance amj:cH prog 30 9 9 1:=⟨by unfold cG;kernel_rfl⟩
instance amk:cH prog 30 10 10 1:=⟨by unfold cG;kernel_rfl⟩
instance aml:dC prog 30 10 10 1:=⟨by unfold cO;kernel_rfl⟩
instance amm:cH prog 43 0 0 1:=⟨by unfold cG;kernel_rfl⟩
instance amn:dC prog 43 0 0 1:=⟨by unfold cO;kernel_rfl⟩
instance amo:cH prog 43 1 1 1:=⟨by unfold cG;kernel_rfl⟩
instance amp:dC prog 43 1 1 1:=⟨by unfold cO;kernel_rfl⟩
instance amq:cH prog 43 2 2 1:=⟨by unfold cG;kernel_rfl⟩
instance Yu:dC prog 43 2 2 1:=⟨by unfold cO;kernel_rfl⟩
def Yv:cO prog 43 2=some (2,1):=Yu.h
instance amr:cH prog 43 3 3 1:=⟨by unfold cG;kernel_rfl⟩
instance Yw:dC prog 43 3 3 1:=⟨by unfold cO;kernel_rfl⟩
def Yx:cO prog 43 3=some (3,1):=Yw.h
instance ams:cH prog 43 4 4 1:=⟨by unfold cG;kernel_rfl⟩
instance Yy:dC prog 43 4 4 1:=⟨by unfold cO;kernel_rfl⟩
def Yz:cO prog 43 4=some (4,1):=Yy.h
instance amt:cH prog 43 5 5 1:=⟨by unfold cG;kernel_rfl⟩
instance YA:dC prog 43 5 5 1:=⟨by unfold cO;kernel_rfl⟩
def YB:cO prog 43 5=some (5,1):=YA.h
instance amu:cH prog 43 6 6 1:=⟨by unfold cG;kernel_rfl⟩
instance YC:dC prog 43 6 6 1:=⟨by unfold cO;kernel_rfl⟩
def YD:cO prog 43 6=some (6,1):=YC.h
instance amv:cH prog 46 0 0 1:=⟨by unfold cG;kernel_rfl⟩
instance amw:dC prog 46 0 0 1:=⟨by unfold cO;kernel_rfl⟩
instance amx:cH prog 46 1 1 1:=⟨by unfold cG;kernel_rfl⟩
instance amy:dC prog 46 1 1 1:=⟨by unfold cO;kernel_rfl⟩
instance amz:cH prog 50 0 0 1:=⟨by unfold cG;kernel_rfl⟩
instance amA:dC prog 50 0 0 1:=⟨by unfold cO;kernel_rfl⟩
instance amB:cH prog 50 1 1 1:=⟨by unfold cG;kernel_rfl⟩
instance amC:dC prog 50 1 1 1:=⟨by unfold cO;kernel_rfl⟩
instance amD:cH prog 53 0 0 1:=⟨by unfold cG;kernel_rfl⟩
instance amE:dC prog 53 0 0 1:=⟨by unfold cO;kernel_rfl⟩
instance amF:cH prog 53 1 1 1:=⟨by unfold cG;kernel_rfl⟩
instance amG:dC prog 53 1 1 1:=⟨by unfold cO;kernel_rfl⟩
instance amH:cH prog 53 2 2 1:=⟨by unfold cG;kernel_rfl⟩
instance amI:dC prog 53 2 2 1:=⟨by unfold cO;kernel_rfl⟩
instance amJ:cH prog 53 3 3 1:=⟨by unfold cG;kernel_rfl⟩
instance YE:dC prog 53 3 3 1:=⟨by unfold cO;kernel_rfl⟩
def YF:cO prog 53 3=some (3,1):=YE.h
instance amK:cH prog 53 4 4 1:=⟨by unfold cG;kernel_rfl⟩
instance amL:cH prog 53 5 5 1:=⟨by unfold cG;kernel_rfl⟩
instance amM:dC prog 53 5 5 1:=⟨by unfold cO;kernel_rfl⟩
instance amN:cH prog 53 6 6 1:=⟨by unfold cG;kernel_rfl⟩
instance amO:dC prog 53 6 6 1:=⟨by unfold cO;kernel_rfl⟩
instance amP:cH prog 53 7 7 1:=⟨by unfold cG;kernel_rfl⟩
instance amQ:cH prog 53 8 8 1:=⟨by unfold cG;kernel_rfl⟩
instance amR:cH prog 53 9 9 2:=⟨by unfold cG;kernel_rfl⟩
instance amS:cH prog 53 10 11 1:=⟨by unfold cG;kernel_rfl⟩
instance amT:cH prog 53 11 12 1:=⟨by unfold cG;kernel_rfl⟩
instance amU:cH prog 62 0 0 1:=⟨by unfold cG;kernel_rfl⟩
instance amV:dC prog 62 0 0 1:=⟨by unfold cO;kernel_rfl⟩
instance amW:cH prog 62 1 1 2:=⟨by unfold cG;kernel_rfl⟩
instance amX:dC prog 62 1 1 2:=⟨by unfold cO;kernel_rfl⟩
instance amY:cH prog 62 2 3 1:=⟨by unfold cG;kernel_rfl⟩
instance amZ:dC prog 62 2 3 1:=⟨by unfold cO;kernel_rfl⟩
instance am0:cH prog 62 3 4 1:=⟨by unfold cG;kernel_rfl⟩
instance am1:dC prog 62 3 4 1:=⟨by unfold cO;kernel_rfl⟩
instance am2:cH prog 62 4 5 1:=⟨by unfold cG;kernel_rfl⟩
instance am3:dC prog 62 4 5 1:=⟨by unfold cO;kernel_rfl⟩
instance am4:cH prog 62 5 6 1:=⟨by unfold cG;kernel_rfl⟩
instance am5:dC prog 62 5 6 1:=⟨by unfold cO;kernel_rfl⟩
instance am6:cH prog 77 0 0 1:=⟨by unfold cG;kernel_rfl⟩
instance am7:dC prog 77 0 0 1:=⟨by unfold cO;kernel_rfl⟩
instance am8:cH prog 77 1 1 5:=⟨by unfold cG;kernel_rfl⟩
instance am9:dC prog 77 1 1 5:=⟨by unfold cO;kernel_rfl⟩
instance ana:cH prog 77 2 6 1:=⟨by unfold cG;kernel_rfl⟩
instance anb:cH prog 84 0 0 1:=⟨by unfold cG;kernel_rfl⟩
instance anc:dC prog 84 0 0 1:=⟨by unfold cO;kernel_rfl⟩
instance ane:cH prog 84 1 1 1:=⟨by unfold cG;kernel_rfl⟩
instance anf:dC prog 84 1 1 1:=⟨by unfold cO;kernel_rfl⟩
instance ang:cH prog 84 2 2 1:=⟨by unfold cG;kernel_rfl⟩
instance anh:dC prog 84 2 2 1:=⟨by unfold cO;kernel_rfl⟩
instance ani:cH prog 84 3 3 1:=⟨by unfold cG;kernel_rfl⟩
instance anj:dC prog 84 3 3 1:=⟨by unfold cO;kernel_rfl⟩
instance ank:cH prog 84 4 4 1:=⟨by unfold cG;kernel_rfl⟩
instance anl:dC prog 84 4 4 1:=⟨by unfold cO;kernel_rfl⟩
instance anm:cH prog 84 5 5 2:=⟨by unfold cG;kernel_rfl⟩
instance ann:dC prog 84 5 5 2:=⟨by unfold cO;kernel_rfl⟩
instance ano:cH prog 84 6 7 1:=⟨by unfold cG;kernel_rfl⟩
instance anp:dC prog 84 6 7 1:=⟨by unfold cO;kernel_rfl⟩
instance anq:cH prog 84 7 8 1:=⟨by unfold cG;kernel_rfl⟩
instance anr:dC prog 84 7 8 1:=⟨by unfold cO;kernel_rfl⟩
instance ans:cH prog 84 8 9 1:=⟨by unfold cG;kernel_rfl⟩
instance ant:dC prog 84 8 9 1:=⟨by unfold cO;kernel_rfl⟩
instance anu:cH prog 84 9 10 1:=⟨by unfold cG;kernel_rfl⟩
instance anv:dC prog 84 9 10 1:=⟨by unfold cO;kernel_rfl⟩
instance anw:cH prog 84 10 11 1:=⟨by unfold cG;kernel_rfl⟩
instance anx:dC prog 84 10 11 1:=⟨by unfold cO;kernel_rfl⟩
instance anz:cH prog 84 11 12 1:=⟨by unfold cG;kernel_rfl⟩
instance anA:dC prog 84 11 12 1:=⟨by unfold cO;kernel_rfl⟩
instance anB:cH prog 84 12 13 1:=⟨by unfold cG;kernel_rfl⟩
instance anC:cH prog 84 13 14 1:=⟨by unfold cG;kernel_rfl⟩
instance anD:cH prog 100 0 0 1:=⟨by unfold cG;kernel_rfl⟩
instance anE:dC prog 100 0 0 1:=⟨by unfold cO;kernel_rfl⟩
instance anF:cH prog 100 1 1 1:=⟨by unfold cG;kernel_rfl⟩
instance anG:cH prog 115 0 0 1:=⟨by unfold cG;kernel_rfl⟩
instance anH:dC prog 115 0 0 1:=⟨by unfold cO;kernel_rfl⟩
instance anI:cH prog 115 1 1 2:=⟨by unfold cG;kernel_rfl⟩
instance anJ:dC prog 115 1 1 2:=⟨by unfold cO;kernel_rfl⟩
instance anK:cH prog 128 0 0 1:=⟨by unfold cG;kernel_rfl⟩
instance anL:dC prog 128 0 0 1:=⟨by unfold cO;kernel_rfl⟩
instance anM:cH prog 128 1 1 1:=⟨by unfold cG;kernel_rfl⟩
instance anN:dC prog 128 1 1 1:=⟨by unfold cO;kernel_rfl⟩
instance anO:cH prog 128 2 2 7:=⟨by unfold cG;kernel_rfl⟩
instance anP:dC prog 128 2 2 7:=⟨by unfold cO;kernel_rfl⟩
def nU:AT prog 50 2:=⟨by kernel_rfl,λxs ys w hx hy=>by
 match xs,ys,hx,hy with
 |[x0,x1],[y0,y1],_,_=>
  simp[go_sem,Tryz.underlying50]
  (repeat' split)<;>simp_all⟩
def yN:AT prog 115 3:=⟨by kernel_rfl,λxs ys w hx hy=>by
 match xs,ys,hx,hy with
 |[x0,x1,x2],[y0,y1,y2],_,_=>
  simp[go_sem,Tryz.underlying115]
  (repeat' split)<;>simp_all⟩
def OF:AT prog 46 2:=⟨by kernel_rfl,λxs ys w hx hy=>by
 match xs,ys,hx,hy with
 |[x0,x1],[y0,y1],_,_=>
  simp[go_sem,Tryz.underlying46]
  (repeat' split)<;>simp_all⟩
end Go.Proofs.YtdanidpleofjgaaGreat

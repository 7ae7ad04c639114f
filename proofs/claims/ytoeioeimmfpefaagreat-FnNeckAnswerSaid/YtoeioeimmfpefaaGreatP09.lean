/- Part 9: rules of the proofs, contracts of functions, plain facts. -/
import Derived.Test.YtoeioeimmfpefaaGreatP08
set_option linter.unusedVariables false
set_option linter.unusedSimpArgs false
namespace Go.Proofs.YtoeioeimmfpefaaGreat
open Go Go.RowKit
section
variable {Γ:Env} {g g' b:Bool} {t:Nat} {x:AV} {o:Operand}
theorem At.tt (h:Env.get t Γ=some x:=by rfl):At Γ g (.tmp t) x:=.t h
theorem At.ag (h:Env.get t Γ=some (AV.cond g' x):=by rfl) (hg:g=true→g'=true:=by intro hg;first|exact hg|exact(Bool.and_eq_true_iff.1 hg).1|exact(Bool.and_eq_true_iff.1 (Bool.and_eq_true_iff.1 hg).1).1):At Γ g (.tmp t) x:=.g h hg
theorem At.r (h:At Γ g o x:=by first|exact .t rfl|exact .nil (.t rfl)):At Γ g o x:=h
theorem At.pc (h:At Γ g o x:=by first|exact .t rfl|exact .gc rfl (fun hg=>hg)|exact .gc rfl (fun hg=>(Bool.and_eq_true_iff.1 hg).1)):At Γ g o x:=h
end
section
variable {P:Program} {c:Ctx} {I:Im} {H:List Own} {Γ:Env} {a:Act} {w:World} {Q:Exit→Act→World→Prop} {ops:Array Oper} {rest os:List Oper} {g G b:Bool} {x:AV} {d t j:Nat} {op:Op} {ty:TypeId} {p:String} {af:Array Edge} {gd:Option (Nat×Bool)} {y:Operand} {v:Value}
theorem gJ.T {o:Oper} (h:o.guard=some (j,true):=by rfl) (hj:(ops[j]?).bind (·.dst)=some t:=by rfl) (ht:Env.get t Γ=some (.bool b):=by rfl):gJ ops Γ o b:=E8 h hj ht
theorem gJ.F {o:Oper} (h:o.guard=some (j,false):=by rfl) (hj:(ops[j]?).bind (·.dst)=some t:=by rfl) (ht:Env.get t Γ=some (.bool b):=by rfl):gJ ops Γ o (!b):=MQ h hj ht
theorem gJ.T2 {o:Oper} (h:o.guard=some (j,true):=by rfl) (hj:(ops[j]?).bind (·.dst)=some t:=by rfl) (ht:Env.get t Γ=some (.cond g (.bool b)):=by rfl):gJ ops Γ o (g&&b):=MR h hj ht
theorem gJ.F2 {o:Oper} (h:o.guard=some (j,false):=by rfl) (hj:(ops[j]?).bind (·.dst)=some t:=by rfl) (ht:Env.get t Γ=some (.cond g (.bool b)):=by rfl):gJ ops Γ o (g&&!b):=MS h hj ht
theorem St.o (hs:St c I H Γ a w) (ok:Ok P H Γ true ⟨some d,op,ty,p,af,none⟩ x) (k:∀{I' a' w'},St c I' H ((d,x)::Γ) a' w'→wpList P ops Q rest a' w') (hd:Nat.blt d c.n=true:=by rfl):wpList P ops Q (⟨some d,op,ty,p,af,none⟩::rest) a w:=hs.op rfl rfl hd ok fun _ _ _ h=>k h
theorem St.m (hs:St c I H Γ a w) (k:∀{I' a' w'},St c I' H ((d,x)::Γ) a' w'→wpList P ops Q rest a' w') (hy:Env.get t Γ=some x:=by rfl) (hd:Nat.blt d c.n=true:=by rfl):wpList P ops Q (⟨some d,.move (.tmp t),ty,p,af,none⟩::rest) a w:=hs.op rfl rfl hd (tx (.t hy)) fun _ _ _ h=>k h
theorem St.s (hs:St c I H Γ a w) (k:∀{I' a' w'},St c I' H ((d,x)::Γ) a' w'→wpList P ops Q rest a' w') (hy:Env.get t Γ=some x:=by rfl) (hd:Nat.blt d c.n=true:=by rfl):wpList P ops Q (⟨some d,.assign (.tmp t),ty,p,af,none⟩::rest) a w:=hs.op rfl rfl hd (tz (.t hy)) fun _ _ _ h=>k h
theorem St.mc (hs:St c I H Γ a w) (k:∀{I' a' w'},St c I' H ((d,.val v)::Γ) a' w'→wpList P ops Q rest a' w') (hd:Nat.blt d c.n=true:=by rfl):wpList P ops Q (⟨some d,.move (.const v),ty,p,af,none⟩::rest) a w:=hs.op rfl rfl hd (tx .c) fun _ _ _ h=>k h
theorem St.sc (hs:St c I H Γ a w) (k:∀{I' a' w'},St c I' H ((d,.val v)::Γ) a' w'→wpList P ops Q rest a' w') (hd:Nat.blt d c.n=true:=by rfl):wpList P ops Q (⟨some d,.assign (.const v),ty,p,af,none⟩::rest) a w:=hs.op rfl rfl hd (tz .c) fun _ _ _ h=>k h
theorem St.q (hs:St c I H Γ a w) (hg:gJ ops Γ ⟨some d,op,ty,p,af,gd⟩ G) (ok:Ok P H Γ G ⟨some d,op,ty,p,af,gd⟩ x) (k:∀{I' a' w'},St c I' H ((d,.cond G x)::Γ) a' w'→wpList P ops Q rest a' w') (hd:Nat.blt d c.n=true:=by rfl):wpList P ops Q (⟨some d,op,ty,p,af,gd⟩::rest) a w:=hs.xC hg rfl hd ok fun _ _ _ h=>k h
theorem ij.o {o:Oper} (ok:Ok P H (Γ.only (o.looksAt ops)) true o x) (k:ij P c H ops Q ((o.dst.getD 0,x)::Γ) os) (hg:o.guard=none:=by rfl):ij P c H ops Q Γ (o::os):=.cons (.of hg ok) k
theorem ij.q {o:Oper} (hg:gJ ops (Γ.only (o.looksAt ops)) o G) (ok:Ok P H (Γ.only (o.looksAt ops)) G o x) (k:ij P c H ops Q ((o.dst.getD 0,AV.cond G x)::Γ) os):ij P c H ops Q Γ (o::os):=.cons (.xD hg ok) k
theorem St.dk {id:Nat} {l:List Oper} (hs:St c I H Γ a w) (run:ij P c H l.toArray Q Γ l) (hm:P.follows .mixedOrders=true:=by kernel_rfl) (dx:tF l=true:=by kernel_rfl) (hd:(l.all fun o=>Nat.blt (o.dst.getD 0) c.n)=true:=by rfl):(Code.region id l.toArray true).wp P Q a w:=hs.MV hm dx hd run
end
theorem B:(∀(p:Prop) [Decidable p],(decide p=true)=p)∧(∀(p:Prop) [Decidable p],(decide p=false)↔¬p)∧(∀b:Bool,((!b)=true)=(b=false))∧(∀b:Bool,((!b)=false)=(b=true))∧(∀a b:Bool,((a&&b)=true)=(a=true∧b=true))∧
 (∀a b:Bool,((a||b)=true)=(a=true∨b=true))∧(∀a b:Bool,((a&&b)=false)↔(a=false∨b=false))∧(∀a b:Bool,((a||b)=false)↔(a=false∧b=false))∧(∀(α:Type) [BEq α] [LawfulBEq α] (a b:α),(a==b)=true↔a=b)∧(∀(α:Type) [BEq α] [LawfulBEq α] (a b:α),(a !=b)=true↔¬a=b)∧
 (∀(α:Type) [BEq α] [LawfulBEq α] (a b:α),(a !=b)=false↔a=b)∧(∀(α:Type) [BEq α] [LawfulBEq α] (a b:α),(a==b)=false↔¬a=b)∧
 (∀a b:Int,(¬a<b)↔b≤a)∧(∀a b:Int,(¬a≤b)↔b<a)∧(∀n m:Nat,((n:Int)<m)↔n<m)∧(∀n m:Nat,((n:Int)≤m)↔n≤m):=
 ⟨fun _ _=>decide_eq_true_eq,fun _ _=>decide_eq_false_iff_not,fun b=>by simp,fun b=>by simp,Bool.and_eq_true,Bool.or_eq_true,fun _ _=>Bool.and_eq_false_iff,fun _ _=>Bool.or_eq_false_iff,fun _ _ _ _ _=>beq_iff_eq,fun _ _ _ _ _=>bne_iff_ne,fun _ _ _ _ _=>bne_eq_false_iff_eq,fun _ _ _ _ _=>beq_eq_false_iff_ne,fun _ _=>Int.not_lt,fun _ _=>Int.not_le,fun _ _=>Int.ofNat_lt,fun _ _=>Int.ofNat_le⟩
class dM (P:Program) (T:TypeId) (ag:outParam Bool) (n m:outParam Nat) (zv:outParam Value):Prop where
 h:Ty P T ag n m zv
class cw (P:Program) (T:TypeId) (f:Nat) (o sz:outParam Nat):Prop where
 h:cn P T f o sz
class cV (P:Program) (T:TypeId) (f:Nat) (o sz:outParam Nat):Prop where
 h:cA P T f=some (o,sz)
class iz (P:Program) (T:TypeId) (k:outParam TypeDesc):Prop where
 h:P.underlying T=some k
class lX (P:Program) (T:TypeId):Prop where
 h:AZ P T=true
def run:Nat→Nat→List Nat→List Nat
 |0,_,l=>l
 |n+1,a,l=>a::run n (a+1) l
section
variable {P:Program} {H:List Own} {Γ:Env} {g:Bool} {d:Option Tmp} {y z:Operand} {ty T T' E:TypeId} {p:String} {af:Array Edge} {gd:Option (Nat×Bool)} {n m o:Nat} {zv:Value}
theorem Ok.mv {t:Nat} {x:AV} (h:Env.get t Γ=some x:=by rfl):Ok P H Γ g ⟨d,.move (.tmp t),ty,p,af,gd⟩ x:=tx (.t h)
theorem Ok.mx {x:AV} (h:At Γ g y x):Ok P H Γ g ⟨d,.move y,ty,p,af,gd⟩ x:=tx h
theorem Ok.as {t:Nat} {x:AV} (h:Env.get t Γ=some x:=by rfl):Ok P H Γ g ⟨d,.assign (.tmp t),ty,p,af,gd⟩ x:=tz (.t h)
theorem Ok.NI {x:AV} (h:At Γ g y x):Ok P H Γ g ⟨d,.assign y,ty,p,af,gd⟩ x:=tz h
theorem Ok.nt {t:Nat} {b:Bool} (h:Env.get t Γ=some (.bool b):=by rfl):Ok P H Γ g ⟨d,.unOp .not T (.tmp t),ty,p,af,gd⟩ (.bool (!b)):=EU (.t h)
theorem Ok.NJ {b:Bool} (h:At Γ g y (.bool b)):Ok P H Γ g ⟨d,.unOp .not T y,ty,p,af,gd⟩ (.bool (!b)):=EU h
theorem Ok.ad {m n:Int} (hy:At Γ g y (.int m):=by first|exact .tt|exact .ag|exact .c) (hz:At Γ g z (.int n):=by first|exact .tt|exact .ag|exact .c) (hb:g=true→-9223372036854775808≤m+n∧m+n≤9223372036854775807:=by intro _;omega):Ok P H Γ g ⟨d,.binOp .add T y z T',ty,p,af,gd⟩ (.int (m+n)):=jM hy hz hb
theorem Ok.lss {t u:Nat} {m n:Int} (hy:Env.get t Γ=some (.int m):=by rfl) (hz:Env.get u Γ=some (.int n):=by rfl):Ok P H Γ g ⟨d,.binOp .lss T (.tmp t) (.tmp u) T',ty,p,af,gd⟩ (.bool (decide (m<n))):=AA (.t hy) (.t hz)
theorem Ok.vH {t:Nat} {m n:Int} (hy:Env.get t Γ=some (.int m):=by rfl):Ok P H Γ g ⟨d,.binOp .lss T (.tmp t) (.const (.int .i64 n)) T',ty,p,af,gd⟩ (.bool (decide (m<n))):=AA (.t hy) .c
theorem Ok.leq {t u:Nat} {m n:Int} (hy:Env.get t Γ=some (.int m):=by rfl) (hz:Env.get u Γ=some (.int n):=by rfl):Ok P H Γ g ⟨d,.binOp .leq T (.tmp t) (.tmp u) T',ty,p,af,gd⟩ (.bool (decide (m≤n))):=EW (.t hy) (.t hz)
theorem Ok.gtr {t u:Nat} {m n:Int} (hy:Env.get t Γ=some (.int m):=by rfl) (hz:Env.get u Γ=some (.int n):=by rfl):Ok P H Γ g ⟨d,.binOp .gtr T (.tmp t) (.tmp u) T',ty,p,af,gd⟩ (.bool (decide (n<m))):=EX (.t hy) (.t hz)
theorem Ok.geq {t u:Nat} {m n:Int} (hy:Env.get t Γ=some (.int m):=by rfl) (hz:Env.get u Γ=some (.int n):=by rfl):Ok P H Γ g ⟨d,.binOp .geq T (.tmp t) (.tmp u) T',ty,p,af,gd⟩ (.bool (decide (n≤m))):=AB (.t hy) (.t hz)
theorem Ok.NK {t:Nat} {m n:Int} (hy:Env.get t Γ=some (.int m):=by rfl):Ok P H Γ g ⟨d,.binOp .geq T (.tmp t) (.const (.int .i64 n)) T',ty,p,af,gd⟩ (.bool (decide (n≤m))):=AB (.t hy) .c
theorem Ok.F8 {t u:Nat} {m n:Int} (hy:Env.get t Γ=some (.int m):=by rfl) (hz:Env.get u Γ=some (.int n):=by rfl):Ok P H Γ g ⟨d,.binOp .eql T (.tmp t) (.tmp u) T',ty,p,af,gd⟩ (.bool (m==n)):=AD (.t hy) (.t hz)
theorem Ok.si {t:Nat} {m n:Int} (hy:Env.get t Γ=some (.int m):=by rfl):Ok P H Γ g ⟨d,.binOp .eql T (.tmp t) (.const (.int .i64 n)) T',ty,p,af,gd⟩ (.bool (m==n)):=AD (.t hy) .c
theorem Ok.NL {t u:Nat} {m n:Int} (hy:Env.get t Γ=some (.int m):=by rfl) (hz:Env.get u Γ=some (.int n):=by rfl):Ok P H Γ g ⟨d,.binOp .neq T (.tmp t) (.tmp u) T',ty,p,af,gd⟩ (.bool (m !=n)):=EY (.t hy) (.t hz)
theorem Ok.an {t:Nat} {aa:Operand} {b x:Bool} (hc:Env.get t Γ=some (.bool b):=by rfl) (ha:At Γ g aa (.cond b (.bool x)):=by exact .pc):Ok P H Γ g ⟨d,.pick (.tmp t) aa (.const (.bool false)),ty,p,af,gd⟩ (.bool (b&&x)):=ET (.t hc) ha .c
theorem Ok.e {t:Nat} {l:List AV} {i:Nat} {x:AV} (h:Env.get t Γ=some (.c9 l):=by rfl) (hx:l[i]?=some x:=by rfl):Ok P H Γ g ⟨d,.extract (.tmp t) i,ty,p,af,gd⟩ x:=Ng (.t h) hx
theorem Ok.bp {t:Nat} {l:List AV} (h:Env.get t Γ=some (.agg l):=by rfl):Ok P H Γ g ⟨d,.box T (.tmp t),ty,p,af,gd⟩ (.ptr l):=M0 (.t h)
theorem Ok.nl {x:AV} (h:Ok P H Γ g ⟨d,.nilCheck y,ty,p,af,gd⟩ x:=by first|exact FH .tt|exact FI .tt|exact NM .tt|exact FH .ag|exact FI .ag|exact NM .ag):Ok P H Γ g ⟨d,.nilCheck y,ty,p,af,gd⟩ x:=h
theorem Ok.l1 {t:Nat} {x:AV} {l:List AV} [hT:dM P T false n m zv] (h:Env.get t Γ=some (.ptr (x::l)):=by rfl):Ok P H Γ g ⟨d,.load T (.tmp t),ty,p,af,gd⟩ x:=EZ hT.h (.t h)
theorem Ok.lx {x:AV} {l:List AV} [hT:dM P T false n m zv] (h:At Γ g y (.ptr (x::l))):Ok P H Γ g ⟨d,.load T y,ty,p,af,gd⟩ x:=EZ hT.h h
theorem Ok.lb {t b q:Nat} {x:AV} {l:List AV} (k:Nat) [hT:dM P T false n m zv] (h:Env.get t Γ=some (.val (.pointer (some ⟨b,q,none⟩))):=by rfl) (hH:H[k]?=some (Own.box b T' l):=by rfl) (hx:l[q]?=some x:=by rfl):Ok P H Γ g ⟨d,.load T (.tmp t),ty,p,af,gd⟩ x:=E4 k hT.h (.t h) hH hx
theorem Ok.vI {b q:Nat} {x:AV} {l:List AV} (k:Nat) [hT:dM P T false n m zv] (h:At Γ g y (.val (.pointer (some ⟨b,q,none⟩)))) (hH:H[k]?=some (Own.box b T' l):=by rfl) (hx:l[q]?=some x:=by rfl):Ok P H Γ g ⟨d,.load T y,ty,p,af,gd⟩ x:=E4 k hT.h h hH hx
theorem Ok.ls {t b q:Nat} {l l':List AV} (k:Nat) [hT:dM P T true n m zv] (h:Env.get t Γ=some (.val (.pointer (some ⟨b,q,none⟩))):=by rfl) (hH:H[k]?=some (Own.box b T' l):=by rfl) (hx:(l.drop q).take n=l':=by rfl) (hn:l'.length=n:=by rfl):Ok P H Γ g ⟨d,.load T (.tmp t),ty,p,af,gd⟩ (.agg l'):=AE k hT.h (.t h) hH hx hn
theorem Ok.Bq {l:List AV} [hT:dM P T true n m zv] (h:At Γ g y (.ptr l):=by first|exact .tt|exact .ag|exact .c) (hn:l.length=n:=by rfl):Ok P H Γ g ⟨d,.load T y,ty,p,af,gd⟩ (.agg l):=ML hT.h h hn
theorem Ok.Br {l:List AV} [hT:dM P T true n m zv] (h:At Γ g y (.ptr l):=by first|exact .tt|exact .ag|exact .c) (hn:Nat.ble n l.length=true:=by rfl):Ok P H Γ g ⟨d,.load T y,ty,p,af,gd⟩ (.agg (l.take n)):=E0 hT.h h hn
theorem Ok.la {x:AV} (h:Ok P H Γ g ⟨d,.load T y,ty,p,af,gd⟩ x:=by first|exact .Bq|exact .Br):Ok P H Γ g ⟨d,.load T y,ty,p,af,gd⟩ x:=h
theorem Ok.fp {t f size:Nat} {l:List AV} [hf:cw P T f o size] (h:Env.get t Γ=some (.ptr l):=by rfl) (hs:Nat.blt 0 size=true:=by rfl):Ok P H Γ g ⟨d,.fieldAddr T (.tmp t) f,ty,p,af,gd⟩ (.ptr (l.drop o)):=E2 hf.h hs (.t h)
theorem Ok.fx {f size:Nat} {l:List AV} [hf:cw P T f o size] (h:At Γ g y (.ptr l)) (hs:Nat.blt 0 size=true:=by rfl):Ok P H Γ g ⟨d,.fieldAddr T y f,ty,p,af,gd⟩ (.ptr (l.drop o)):=E2 hf.h hs h
theorem Ok.fv {t f size b q:Nat} [hf:cw P T f o size] (h:Env.get t Γ=some (.val (.pointer (some ⟨b,q,none⟩))):=by rfl) (hs:Nat.blt 0 size=true:=by rfl):Ok P H Γ g ⟨d,.fieldAddr T (.tmp t) f,ty,p,af,gd⟩ (.val (.pointer (some ⟨b,q+o,none⟩))):=E3 hf.h hs (.t h)
theorem Ok.NN {f size b q:Nat} [hf:cw P T f o size] (h:At Γ g y (.val (.pointer (some ⟨b,q,none⟩)))) (hs:Nat.blt 0 size=true:=by rfl):Ok P H Γ g ⟨d,.fieldAddr T y f,ty,p,af,gd⟩ (.val (.pointer (some ⟨b,q+o,none⟩))):=E3 hf.h hs h
theorem Ok.F9 {α:Type} {s:Nat} {f:α→List AV} {l:List α} [hT:iz P T (.slice E)] (h:At Γ g y (.rows s (l.map f)):=by first|exact .tt|exact .ag|exact .c):Ok P H Γ g ⟨d,.call ⟨.builtin .len,#[y],#[T]⟩,ty,p,af,gd⟩ (.int l.length):=Np hT.h h
theorem Ok.Ga {s:Nat} {l:List (List AV)} [hT:iz P T (.slice E)] (h:At Γ g y (.rows s l):=by first|exact .tt|exact .ag|exact .c):Ok P H Γ g ⟨d,.call ⟨.builtin .len,#[y],#[T]⟩,ty,p,af,gd⟩ (.int l.length):=vg hT.h h
theorem Ok.Gb {q:Option Addr} {k cap:Nat} [hT:iz P T (.slice E)] (h:At Γ g y (.val (.slice q k cap)):=by first|exact .tt|exact .ag|exact .c):Ok P H Γ g ⟨d,.call ⟨.builtin .len,#[y],#[T]⟩,ty,p,af,gd⟩ (.int k):=MM hT.h h
theorem Ok.Gc {α:Type} [Inhabited α] {s:Nat} {ag:Bool} {f:α→List AV} {l:List α} {i:Int} [hT:iz P T (.slice E)] [hE:dM P E ag s m zv] (h:At Γ g y (.rows s (l.map f)):=by first|exact .tt|exact .ag|exact .c) (hi:At Γ g z (.int i):=by first|exact .tt|exact .ag|exact .c) (hb:g=true→0≤i∧i<l.length:=by intro hg;first|omega|assumption|(simp at hg;omega)):Ok P H Γ g ⟨d,.indexAddr T y z,ty,p,af,gd⟩ (.ptr (f (ab l i.toNat))):=iM hT.h hE.h h hi hb
theorem Ok.Gd {α:Type} [Inhabited α] {s:Nat} {ag:Bool} {f:α→List AV} {l:List α} {i:Nat} [hT:iz P T (.slice E)] [hE:dM P E ag s m zv] (h:At Γ g y (.rows s (l.map f)):=by first|exact .tt|exact .ag|exact .c) (hi:At Γ g z (.int (i:Int)):=by first|exact .tt|exact .ag|exact .c) (hb:g=true→i<l.length:=by intro hg;first|omega|assumption|(simp at hg;omega)):Ok P H Γ g ⟨d,.indexAddr T y z,ty,p,af,gd⟩ (.ptr (f (ab l i))):=eZ hT.h hE.h h hi hb
theorem Ok.Ge {s:Nat} {ag:Bool} {l:List (List AV)} {i:Int} [hT:iz P T (.slice E)] [hE:dM P E ag s m zv] (h:At Γ g y (.rows s l):=by first|exact .tt|exact .ag|exact .c) (hi:At Γ g z (.int i):=by first|exact .tt|exact .ag|exact .c) (hb:g=true→0≤i∧i<l.length:=by intro hg;first|omega|assumption|(simp at hg;omega)):Ok P H Γ g ⟨d,.indexAddr T y z,ty,p,af,gd⟩ (.ptr (l.getD i.toNat [])):=iX hT.h hE.h h hi hb
theorem Ok.cl {f:FuncId} {ys:Array Operand} {ts:Array TypeId} {xs:List AV} {res:AV} (hf:Fn P f xs res) (h:∀I a,cF I a Γ→g=true→cN I xs (ys.map a.eval).toList:=by repeat(first|exact aP|refine aw (by first|exact .tt|exact .ag|exact .c|exact .f|exact .nil (.t rfl)|exact .nil .c) ?_)):Ok P H Γ g ⟨d,.call ⟨.value (.func f),ys,ts⟩,ty,p,af,gd⟩ res:=cI hf h
theorem Ok.c1 {f:FuncId} {t:Nat} {ts:Array TypeId} {x res:AV} (hf:Fn P f [x] res) (h:Env.get t Γ=some x:=by rfl):Ok P H Γ g ⟨d,.call ⟨.value (.func f),#[.tmp t],ts⟩,ty,p,af,gd⟩ res:=cI hf (aw (.t h) aP)
theorem Ok.c2 {f:FuncId} {t u:Nat} {ts:Array TypeId} {x x' res:AV} (hf:Fn P f [x,x'] res) (h:Env.get t Γ=some x:=by rfl) (h':Env.get u Γ=some x':=by rfl):Ok P H Γ g ⟨d,.call ⟨.value (.func f),#[.tmp t,.tmp u],ts⟩,ty,p,af,gd⟩ res:=cI hf (aw (.t h) (aw (.t h') aP))
theorem Ok.c3 {f:FuncId} {t u v:Nat} {ts:Array TypeId} {x x' y' res:AV} (hf:Fn P f [x,x',y'] res) (h:Env.get t Γ=some x:=by rfl) (h':Env.get u Γ=some x':=by rfl) (h2:Env.get v Γ=some y':=by rfl):Ok P H Γ g ⟨d,.call ⟨.value (.func f),#[.tmp t,.tmp u,.tmp v],ts⟩,ty,p,af,gd⟩ res:=cI hf (aw (.t h) (aw (.t h') (aw (.t h2) aP)))
theorem aZ.u {sz i o' q:Nat} {lx:List AV} {r:List (Nat×Operand)} {s:List (Nat×List AV)} (k:aZ (nk sz) Γ g n r s) (hp:nk sz i=some (o',q):=by rfl) (h:At Γ g y (.agg lx):=by first|exact .tt|exact .ag|exact .c) (hl:lx.length=q:=by rfl) (ho:Nat.ble (o'+q) n=true:=by rfl):aZ (nk sz) Γ g n ((i,y)::r) ((o',lx)::s):=aZ.s hp hl ho h k
theorem aZ.v {sz i o':Nat} {x:AV} {r:List (Nat×Operand)} {s:List (Nat×List AV)} (k:aZ (nk sz) Γ g n r s) (hp:nk sz i=some (o',1):=by rfl) (ho:Nat.ble (o'+1) n=true:=by rfl) (h:At Γ g y x:=by first|exact .tt|exact .ag|exact .c|exact .nil (.t rfl)|exact .nil .c) (hx:x.One:=by first|exact iY rfl|exact jj|exact jk|exact jl|assumption):aZ (nk sz) Γ g n ((i,y)::r) ((o',[x])::s):=aZ.c hp ho h hx k
theorem Ok.li {ag:Bool} {sz len:Nat} (gw:List (List AV)) {parts:List (Nat×Operand)} {ps:List (Nat×List AV)} [hT:iz P T (.slice E)] [hE:dM P E ag sz m zv] (np:∀u∈zv.cells.toList,u.oneCell'=true) (hp:aZ (nk sz) Γ g (len*sz) parts ps)
 (fB:zv.cells.size=sz:=by rfl) (cr:Nat.blt 0 sz=true:=by rfl) (qG:Nat.ble (len*sz) 16777216=true:=by rfl) (iZ:filled (List.replicate (len*sz) AV.any) ps=gw.flatten:=by rfl) (hlen:gw.length=len:=by rfl) (hr:∀r∈gw,r.length=sz:=by first|(simp;done)|(simp[xU];done)|(intro r hr;repeat(first|(rcases List.mem_cons.1 hr with h|hr;·(subst h;rfl))|(simp at hr;done)))):
 Ok P H Γ g ⟨d,.buildSlice T len parts.toArray,ty,p,af,gd⟩ (.rows sz gw):=Nn hT.h hE.h fB np cr qG hp iZ hlen hr
theorem Ok.bd {l0:List AV} {parts:List (Nat×Operand)} {ps:List (Nat×List AV)} [hT:dM P T true n m zv] (hz:∀I,bD I l0 zv.cells.toList) (hp:aZ (cA P T) Γ g n parts ps) [hk:lX P T] (hn:l0.length=n:=by rfl):Ok P H Γ g ⟨d,.build T parts.toArray,ty,p,af,gd⟩ (.agg (filled l0 ps)):=Nk hT.h hk.h hz hn hp
theorem aZ.k {i o':Nat} {x:AV} {r:List (Nat×Operand)} {s:List (Nat×List AV)} (k:aZ (cA P T) Γ g n r s) [hp:cV P T i o' 1] (ho:Nat.ble (o'+1) n=true:=by rfl) (h:At Γ g y x:=by first|exact .tt|exact .ag|exact .c|exact .nil (.t rfl)|exact .nil .c) (hx:x.One:=by first|exact iY rfl|exact jj|exact jk|exact jl|assumption):aZ (cA P T) Γ g n ((i,y)::r) ((o',[x])::s):=aZ.c hp.h ho h hx k
theorem aZ.t {i o' q:Nat} {lx:List AV} {r:List (Nat×Operand)} {s:List (Nat×List AV)} (k:aZ (cA P T) Γ g n r s) [hp:cV P T i o' q] (h:At Γ g y (.agg lx):=by first|exact .tt|exact .ag|exact .c) (hl:lx.length=q:=by rfl) (ho:Nat.ble (o'+q) n=true:=by rfl):aZ (cA P T) Γ g n ((i,y)::r) ((o',lx)::s):=aZ.s hp.h hl ho h k
end
section
variable {P:Program} {c:Ctx} {I:Im} {H:List Own} {Γ:Env} {a:Act} {w:World} {Q:Exit→Act→World→Prop} {ops:Array Oper} {rest os:List Oper} {Hf:List (Act→Own)} {ms:Meta} {tail:List Oper} {M:Act→List Own} {k':Nat} {oo:Oper} {x:AV} {d n m:Nat} {G:Bool} {y z:Operand} {ty T T':TypeId} {p:String} {af:Array Edge} {zv:Value}
theorem nn {N:Act→World→Prop} (h:N a w):wpList P ops (Exit.then N Q) [] a w:=h
theorem sr {id:Nat} {l:List Oper} {c2:Code} (h:wpList P l.toArray (Exit.then (c2.wp P Q) Q) l a w):(Code.seq (.region id l.toArray false) c2).wp P Q a w:=wp_seq (St.region h)
theorem St.cd {cc:Operand} {t e:Code} {b:Bool} (hs:St c I H Γ a w) (h1:b=true→t.wp P Q a w) (h2:b=false→e.wp P Q a w) (hc:At Γ true cc (.bool b):=by first|exact .tt|exact .ag|exact .c):(Code.cond cc t e).wp P Q a w:=hs.cond hc h1 h2
theorem aV.o (h:∀{F a},Ok P (dy [] a F 0 Hf) (Γ.only (oo.looksAt ops)) true oo x) (k:aV P c ops Q ((oo.dst.getD 0,x)::Γ) Hf os ms) (hg:oo.guard=none:=by rfl) (ho:oo.dst=some (oo.dst.getD 0):=by rfl) (hd:Nat.blt (oo.dst.getD 0) c.n=true:=by rfl):aV P c ops Q Γ Hf (oo::os) (([],none)::ms):=.op hg ho hd (fun _ _=>h) k
theorem aV.r (T:List Nat) (h:∀{F a},Ok P (dy T a F 0 Hf) (Γ.only (oo.looksAt ops)) true oo x) (k:aV P c ops Q ((oo.dst.getD 0,x)::Γ) Hf os ms) (hc:∀F a a',dy T a F 0 Hf=dy T a' F 0 Hf:=by exact fun _ _ _=>rfl) (hg:oo.guard=none:=by rfl) (ho:oo.dst=some (oo.dst.getD 0):=by rfl) (hd:Nat.blt (oo.dst.getD 0) c.n=true:=by rfl):aV P c ops Q Γ Hf (oo::os) ((T,none)::ms):=.NG T hc hg ho hd (fun _ _=>h) k
theorem lT.o (ok:Ok P H (Γ.only (oo.looksAt ops)) true oo x) (k:lT P c H ops Q tail ((oo.dst.getD 0,x)::Γ) os) (hg:oo.guard=none:=by rfl):lT P c H ops Q tail Γ (oo::os):=.cons (.of hg ok) k
theorem lT.q (hg:gJ ops (Γ.only (oo.looksAt ops)) oo G) (ok:Ok P H (Γ.only (oo.looksAt ops)) G oo x) (k:lT P c H ops Q tail ((oo.dst.getD 0,AV.cond G x)::Γ) os):lT P c H ops Q tail Γ (oo::os):=.cons (.xD hg ok) k
theorem fl.o (ok:Ok P H (Γ.only (oo.looksAt ops)) true oo x) (k:fl P c H ops Q tail M (k'+1) ((oo.dst.getD 0,x)::Γ) os) (hg:oo.guard=none:=by rfl):fl P c H ops Q tail M k' Γ (oo::os):=.cons (.of hg ok) k
theorem fl.q (hg:gJ ops (Γ.only (oo.looksAt ops)) oo G) (ok:Ok P H (Γ.only (oo.looksAt ops)) G oo x) (k:fl P c H ops Q tail M (k'+1) ((oo.dst.getD 0,AV.cond G x)::Γ) os):fl P c H ops Q tail M k' Γ (oo::os):=.cons (.xD hg ok) k
theorem St.sb {b:Nat} {l lx:List AV} (k:Nat) (hs:St c I H Γ a w) (kk:∀{a' w'},St c I (H.set k (Own.box b T' lx)) Γ a' w'→wpList P ops Q rest a' w') [hT:dM P T true n m zv] (hy:At Γ true y (.val (.pointer (some ⟨b,0,none⟩))):=by first|exact .tt|exact .ag|exact .c) (hz:At Γ true z (.agg lx):=by first|exact .tt|exact .ag|exact .c)
 (hk:H[k]?=some (Own.box b T' l):=by rfl) (hn:lx.length=n:=by first|rfl|assumption) (hl:l.length=n:=by rfl):wpList P ops Q (⟨none,.store T y z,ty,p,af,none⟩::rest) a w:=hs.Fk k hT.h hy hz hk hn hl fun _ _ h=>kk h
theorem St.s1 {b q:Nat} {l:List AV} (k:Nat) (hs:St c I H Γ a w) (kk:∀{a' w'},St c I (H.set k (Own.box b T' (l.set q x))) Γ a' w'→wpList P ops Q rest a' w') [hT:dM P T false 1 m zv] (hy:At Γ true y (.val (.pointer (some ⟨b,q,none⟩))):=by first|exact .tt|exact .ag|exact .c) (hz:At Γ true z x:=by first|exact .tt|exact .ag|exact .c|exact .nil (.t rfl)|exact .nil .c)
 (hx:x.One:=by first|exact iY rfl|exact jj|exact jk|exact jl|assumption) (hk:H[k]?=some (Own.box b T' l):=by rfl) (hq:Nat.ble (q+1) l.length=true:=by rfl):wpList P ops Q (⟨none,.store T y z,ty,p,af,none⟩::rest) a w:=hs.AN k hT.h hy hz hx hk hq fun _ _ h=>kk h
theorem St.ag {σ:Type} {m:lI σ} {μ:σ→Nat} {x:σ} {Γ0:Env} (y:σ) (hs:St c I H Γ a w) (al:m.ok y) (hμ:μ y<μ x:=by first|omega|(simp;omega)) (hH:H=m.own y:=by rfl) (h1:Env.le (m.env y) Γ:=by repeat(first|exact Env.le_nil|refine Env.dI rfl (by first|rfl|(congr 1;done)) ?_)) (h0:Env.le Γ0 Γ:=by repeat(first|exact Env.le_rfl|refine Env.ie rfl ?_)):xA m μ x c Γ0 a w:=hs.again y hμ al hH h1 h0
theorem St.me {σ:Type} {m:lI σ} {Γ0:Env} (y:σ) (hs:St c I H Γ a w) (al:m.ok y) (hH:H=m.own y:=by rfl) (h1:Env.le (m.env y) Γ:=by repeat(first|exact Env.le_nil|refine Env.dI rfl (by first|rfl|(congr 1;done)) ?_)) (h0:Env.le Γ0 Γ:=by repeat(first|exact Env.le_rfl|exact Env.xz|refine Env.ie rfl ?_)):AH m c Γ0 a w:=hs.meet y al hH h1 h0
theorem St.lo {σ:Type} (ms:List Nat) (m:lI σ) (μ:σ→Nat) {body:Code} (x:σ) (hs:St c I H Γ a w) (al:m.ok x) (round:∀x I a w,m.ok x→St c I (m.own x) (m.env x++Env.mA ms Γ) a w→body.wp P (Exit.then (xA m μ x c (Env.mA ms Γ)) Q) a w) (hH:H=m.own x:=by rfl) (h1:Env.le (m.env x) Γ:=by repeat(first|exact Env.le_nil|refine Env.dI rfl (by rfl) ?_)):(Code.loop body).wp P Q a w:=St.E6 ms m μ x hs hH al h1 round
theorem St.rt {fn:Func} {rs:List ResultVar} {xs:List AV} {res:AV} (hs:St c I H Γ a w) (e:pJ xs=res) (hr:fn.results=rs.toArray:=by rfl) (h:aU P H Γ rs xs:=by first|exact aU.cons (.t rfl) aU.nil|exact aU.cons (by first|exact .t rfl|exact .nil rfl) aU.nil|exact aU.nil|exact aU.cons (by first|exact .t rfl|exact .nil rfl) (aU.cons (by first|exact .t rfl|exact .nil rfl) aU.nil)|exact aU.cons (by first|exact .t rfl|exact .nil rfl) (aU.cons (by first|exact .t rfl|exact .nil rfl) (aU.cons (by first|exact .t rfl|exact .nil rfl) aU.nil))):bodyPost P fn (tD c.F c.I c.W res) .ret a w:=hs.ret hr h e
end
end Go.Proofs.YtoeioeimmfpefaaGreat

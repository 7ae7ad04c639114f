/- Part 6: rules of the proofs. -/
import Derived.Test.YtldbakcpcfdlaaaGreatU05
set_option linter.all false
namespace Go.Proofs.YtldbakcpcfdlaaaGreat
open Go Go.RowKit
class bn (P:Program) (T:TypeId) (ag:outParam Bool) (n m:outParam Nat) (zv:outParam Value):Prop where
 h:Ty P T ag n m zv
class aD (P:Program) (T:TypeId) (f:Nat) (o sz:outParam Nat):Prop where
 h:aB P T f o sz
class oK (P:Program) (T:TypeId) (f:Nat) (o sz:outParam Nat):Prop where
 h:ic P T f=some (o,sz)
class cV (P:Program) (T:TypeId) (k:outParam TypeDesc):Prop where
 h:P.underlying T=some k
class oL (P:Program) (T:TypeId):Prop where
 h:qv P T=true
def run:Nat->Nat->List Nat->List Nat
 |0,_,l=>l
 |n+1,a,l=>a::run n (a+1) l
section
variable {P:Program} {H:List Own} {Γ:Env} {g:Bool} {d:Option Tmp} {y z:Operand} {ty T T' E:TypeId} {p:String} {af:Array Edge} {gd:Option (Nat×Bool)} {n m o:Nat} {zv:Value}
def Ok.mv {t:Nat} {x:AV} (h:Env.get t Γ=some x:=by rfl):Ok P H Γ g ⟨d,.move (.tmp t),ty,p,af,gd⟩ x:=mw (.t h)
def Ok.mx {x:AV} (h:At Γ g y x):Ok P H Γ g ⟨d,.move y,ty,p,af,gd⟩ x:=mw h
def Ok.as {t:Nat} {x:AV} (h:Env.get t Γ=some x:=by rfl):Ok P H Γ g ⟨d,.assign (.tmp t),ty,p,af,gd⟩ x:=lr (.t h)
def Ok.BK {x:AV} (h:At Γ g y x):Ok P H Γ g ⟨d,.assign y,ty,p,af,gd⟩ x:=lr h
def Ok.nt {t:Nat} {b:Bool} (h:Env.get t Γ=some (.bool b):=by rfl):Ok P H Γ g ⟨d,.unOp .not T (.tmp t),ty,p,af,gd⟩ (.bool (!b)):=tu (.t h)
def Ok.BL {b:Bool} (h:At Γ g y (.bool b)):Ok P H Γ g ⟨d,.unOp .not T y,ty,p,af,gd⟩ (.bool (!b)):=tu h
def Ok.lss {t u:Nat} {m n:Int} (hy:Env.get t Γ=some (.int m):=by rfl) (hz:Env.get u Γ=some (.int n):=by rfl):Ok P H Γ g ⟨d,.binOp .lss T (.tmp t) (.tmp u) T',ty,p,af,gd⟩ (.bool (decide (m<n))):=tv (.t hy) (.t hz)
def Ok.leq {t u:Nat} {m n:Int} (hy:Env.get t Γ=some (.int m):=by rfl) (hz:Env.get u Γ=some (.int n):=by rfl):Ok P H Γ g ⟨d,.binOp .leq T (.tmp t) (.tmp u) T',ty,p,af,gd⟩ (.bool (decide (m<=n))):=tw (.t hy) (.t hz)
def Ok.gtr {t u:Nat} {m n:Int} (hy:Env.get t Γ=some (.int m):=by rfl) (hz:Env.get u Γ=some (.int n):=by rfl):Ok P H Γ g ⟨d,.binOp .gtr T (.tmp t) (.tmp u) T',ty,p,af,gd⟩ (.bool (decide (n<m))):=tx (.t hy) (.t hz)
def Ok.geq {t u:Nat} {m n:Int} (hy:Env.get t Γ=some (.int m):=by rfl) (hz:Env.get u Γ=some (.int n):=by rfl):Ok P H Γ g ⟨d,.binOp .geq T (.tmp t) (.tmp u) T',ty,p,af,gd⟩ (.bool (decide (n<=m))):=tz (.t hy) (.t hz)
def Ok.oM {t:Nat} {m n:Int} (hy:Env.get t Γ=some (.int m):=by rfl):Ok P H Γ g ⟨d,.binOp .eql T (.tmp t) (.const (.int .i64 n)) T',ty,p,af,gd⟩ (.bool (m==n)):=tC (.t hy) .c
def Ok.e {t:Nat} {l:List AV} {i:Nat} {x:AV} (h:Env.get t Γ=some (.mo l):=by rfl) (hx:l[i]?=some x:=by rfl):Ok P H Γ g ⟨d,.extract (.tmp t) i,ty,p,af,gd⟩ x:=An (.t h) hx
def Ok.bp {t:Nat} {l:List AV} (h:Env.get t Γ=some (.agg l):=by rfl):Ok P H Γ g ⟨d,.box T (.tmp t),ty,p,af,gd⟩ (.ptr l):=z1 (.t h)
def Ok.nl {x:AV} (h:Ok P H Γ g ⟨d,.nilCheck y,ty,p,af,gd⟩ x:=by first|exact uB .tt|exact uC .tt|exact BM .tt|exact uB .ag|exact uC .ag|exact BM .ag):Ok P H Γ g ⟨d,.nilCheck y,ty,p,af,gd⟩ x:=h
def Ok.l1 {t:Nat} {x:AV} {l:List AV} [hT:bn P T false n m zv] (h:Env.get t Γ=some (.ptr (x::l)):=by rfl):Ok P H Γ g ⟨d,.load T (.tmp t),ty,p,af,gd⟩ x:=tD hT.h (.t h)
def Ok.lx {x:AV} {l:List AV} [hT:bn P T false n m zv] (h:At Γ g y (.ptr (x::l))):Ok P H Γ g ⟨d,.load T y,ty,p,af,gd⟩ x:=tD hT.h h
def Ok.lb {t b q:Nat} {x:AV} {l:List AV} (k:Nat) [hT:bn P T false n m zv] (h:Env.get t Γ=some (.val (.pointer (some ⟨b,q,none⟩))):=by rfl) (hH:H[k]?=some (Own.box b T' l):=by rfl) (hx:l[q]?=some x:=by rfl):Ok P H Γ g ⟨d,.load T (.tmp t),ty,p,af,gd⟩ x:=tI k hT.h (.t h) hH hx
def Ok.m2 {b q:Nat} {x:AV} {l:List AV} (k:Nat) [hT:bn P T false n m zv] (h:At Γ g y (.val (.pointer (some ⟨b,q,none⟩)))) (hH:H[k]?=some (Own.box b T' l):=by rfl) (hx:l[q]?=some x:=by rfl):Ok P H Γ g ⟨d,.load T y,ty,p,af,gd⟩ x:=tI k hT.h h hH hx
def Ok.ls {t b q:Nat} {l l':List AV} (k:Nat) [hT:bn P T true n m zv] (h:Env.get t Γ=some (.val (.pointer (some ⟨b,q,none⟩))):=by rfl) (hH:H[k]?=some (Own.box b T' l):=by rfl) (hx:(l.drop q).take n=l':=by rfl) (hn:l'.length=n:=by rfl):Ok P H Γ g ⟨d,.load T (.tmp t),ty,p,af,gd⟩ (.agg l'):=zJ k hT.h (.t h) hH hx hn
def Ok.rf {l:List AV} [hT:bn P T true n m zv] (h:At Γ g y (.ptr l):=by first|exact .tt|exact .ag|exact .c) (hn:l.length=n:=by rfl):Ok P H Γ g ⟨d,.load T y,ty,p,af,gd⟩ (.agg l):=zI hT.h h hn
def Ok.rh {l:List AV} [hT:bn P T true n m zv] (h:At Γ g y (.ptr l):=by first|exact .tt|exact .ag|exact .c) (hn:Nat.ble n l.length=true:=by rfl):Ok P H Γ g ⟨d,.load T y,ty,p,af,gd⟩ (.agg (l.take n)):=tE hT.h h hn
def Ok.la {x:AV} (h:Ok P H Γ g ⟨d,.load T y,ty,p,af,gd⟩ x:=by first|exact .rf|exact .rh):Ok P H Γ g ⟨d,.load T y,ty,p,af,gd⟩ x:=h
def Ok.fp {t f size:Nat} {l:List AV} [hf:aD P T f o size] (h:Env.get t Γ=some (.ptr l):=by rfl) (U:Nat.blt 0 size=true:=by rfl):Ok P H Γ g ⟨d,.fieldAddr T (.tmp t) f,ty,p,af,gd⟩ (.ptr (l.drop o)):=tG hf.h U (.t h)
def Ok.fx {f size:Nat} {l:List AV} [hf:aD P T f o size] (h:At Γ g y (.ptr l)) (U:Nat.blt 0 size=true:=by rfl):Ok P H Γ g ⟨d,.fieldAddr T y f,ty,p,af,gd⟩ (.ptr (l.drop o)):=tG hf.h U h
def Ok.fv {t f size b q:Nat} [hf:aD P T f o size] (h:Env.get t Γ=some (.val (.pointer (some ⟨b,q,none⟩))):=by rfl) (U:Nat.blt 0 size=true:=by rfl):Ok P H Γ g ⟨d,.fieldAddr T (.tmp t) f,ty,p,af,gd⟩ (.val (.pointer (some ⟨b,q+o,none⟩))):=tH hf.h U (.t h)
def Ok.BN {f size b q:Nat} [hf:aD P T f o size] (h:At Γ g y (.val (.pointer (some ⟨b,q,none⟩)))) (U:Nat.blt 0 size=true:=by rfl):Ok P H Γ g ⟨d,.fieldAddr T y f,ty,p,af,gd⟩ (.val (.pointer (some ⟨b,q+o,none⟩))):=tH hf.h U h
def Ok.ri {α:Type} {s:Nat} {f:α->List AV} {l:List α} [hT:cV P T (.slice E)] (h:At Γ g y (.rows s (l.map f)):=by first|exact .tt|exact .ag|exact .c):Ok P H Γ g ⟨d,.call ⟨.builtin .len,#[y],#[T]⟩,ty,p,af,gd⟩ (.int l.length):=Ay hT.h h
def Ok.rj {s:Nat} {l:List (List AV)} [hT:cV P T (.slice E)] (h:At Γ g y (.rows s l):=by first|exact .tt|exact .ag|exact .c):Ok P H Γ g ⟨d,.call ⟨.builtin .len,#[y],#[T]⟩,ty,p,af,gd⟩ (.int l.length):=pY hT.h h
def Ok.rk {q:Option Addr} {k cap:Nat} [hT:cV P T (.slice E)] (h:At Γ g y (.val (.slice q k cap)):=by first|exact .tt|exact .ag|exact .c):Ok P H Γ g ⟨d,.call ⟨.builtin .len,#[y],#[T]⟩,ty,p,af,gd⟩ (.int k):=zK hT.h h
def Ok.ln {x:AV} (h:Ok P H Γ g ⟨d,.call ⟨.builtin .len,#[y],#[T]⟩,ty,p,af,gd⟩ x:=by first|exact .ri|exact .rj|exact .rk):Ok P H Γ g ⟨d,.call ⟨.builtin .len,#[y],#[T]⟩,ty,p,af,gd⟩ x:=h
def Ok.vB {α:Type} [Inhabited α] {s:Nat} {ag:Bool} {f:α->List AV} {l:List α} {i:Int} [hT:cV P T (.slice E)] [hE:bn P E ag s m zv] (h:At Γ g y (.rows s (l.map f)):=by first|exact .tt|exact .ag|exact .c) (hi:At Γ g z (.int i):=by first|exact .tt|exact .ag|exact .c) (hb:g=true->0<=i/\i<l.length:=by intro hg;first|omega|assumption|(simp at hg;omega)):Ok P H Γ g ⟨d,.indexAddr T y z,ty,p,af,gd⟩ (.ptr (f (ae l i.toNat))):=gR hT.h hE.h h hi hb
def Ok.vC {α:Type} [Inhabited α] {s:Nat} {ag:Bool} {f:α->List AV} {l:List α} {i:Nat} [hT:cV P T (.slice E)] [hE:bn P E ag s m zv] (h:At Γ g y (.rows s (l.map f)):=by first|exact .tt|exact .ag|exact .c) (hi:At Γ g z (.int (i:Int)):=by first|exact .tt|exact .ag|exact .c) (hb:g=true->i<l.length:=by intro hg;first|omega|assumption|(simp at hg;omega)):Ok P H Γ g ⟨d,.indexAddr T y z,ty,p,af,gd⟩ (.ptr (f (ae l i))):=ij hT.h hE.h h hi hb
def Ok.vD {s:Nat} {ag:Bool} {l:List (List AV)} {i:Int} [hT:cV P T (.slice E)] [hE:bn P E ag s m zv] (h:At Γ g y (.rows s l):=by first|exact .tt|exact .ag|exact .c) (hi:At Γ g z (.int i):=by first|exact .tt|exact .ag|exact .c) (hb:g=true->0<=i/\i<l.length:=by intro hg;first|omega|assumption|(simp at hg;omega)):Ok P H Γ g ⟨d,.indexAddr T y z,ty,p,af,gd⟩ (.ptr (l.getD i.toNat [])):=hP hT.h hE.h h hi hb
def Ok.cl {f:FuncId} {ys:Array Operand} {ts:Array TypeId} {xs:List AV} {res:AV} (hf:Fn P f xs res) (h:∀I a,br I a Γ->g=true->bI I xs (ys.map a.eval).toList:=by repeat(first|exact aP|refine az (by first|exact .tt|exact .ag|exact .c|exact .f|exact .nil (.t rfl)|exact .nil .c) ?_)):Ok P H Γ g ⟨d,.call ⟨.value (.func f),ys,ts⟩,ty,p,af,gd⟩ res:=fA hf h
def Ok.c1 {f:FuncId} {t:Nat} {ts:Array TypeId} {x res:AV} (hf:Fn P f [x] res) (h:Env.get t Γ=some x:=by rfl):Ok P H Γ g ⟨d,.call ⟨.value (.func f),#[.tmp t],ts⟩,ty,p,af,gd⟩ res:=fA hf (az (.t h) aP)
def Ok.c2 {f:FuncId} {t u:Nat} {ts:Array TypeId} {x x' res:AV} (hf:Fn P f [x,x'] res) (h:Env.get t Γ=some x:=by rfl) (h':Env.get u Γ=some x':=by rfl):Ok P H Γ g ⟨d,.call ⟨.value (.func f),#[.tmp t,.tmp u],ts⟩,ty,p,af,gd⟩ res:=fA hf (az (.t h) (az (.t h') aP))
def bU.u {sz i o' q:Nat} {lx:List AV} {r:List (Nat×Operand)} {s:List (Nat×List AV)} (k:bU (ie sz) Γ g n r s) (hp:ie sz i=some (o',q):=by rfl) (h:At Γ g y (.agg lx):=by first|exact .tt|exact .ag|exact .c) (hl:lx.length=q:=by rfl) (ho:Nat.ble (o'+q) n=true:=by rfl):bU (ie sz) Γ g n ((i,y)::r) ((o',lx)::s):=bU.s hp hl ho h k
def bU.v {sz i o':Nat} {x:AV} {r:List (Nat×Operand)} {s:List (Nat×List AV)} (k:bU (ie sz) Γ g n r s) (hp:ie sz i=some (o',1):=by rfl) (ho:Nat.ble (o'+1) n=true:=by rfl) (h:At Γ g y x:=by first|exact .tt|exact .ag|exact .c|exact .nil (.t rfl)|exact .nil .c) (hx:x.One:=by first|exact bA rfl|exact bE|exact bF|exact bG|assumption):bU (ie sz) Γ g n ((i,y)::r) ((o',[x])::s):=bU.c hp ho h hx k
def Ok.li {ag:Bool} {sz len:Nat} (ig:List (List AV)) {parts:List (Nat×Operand)} {ps:List (Nat×List AV)} [hT:cV P T (.slice E)] [hE:bn P E ag sz m zv] (kh:∀u∈zv.cells.toList,u.oneCell'=true) (hp:bU (ie sz) Γ g (len*sz) parts ps)
 (dV:zv.cells.size=sz:=by rfl) (bf:Nat.blt 0 sz=true:=by rfl) (lC:Nat.ble (len*sz) 16777216=true:=by rfl) (fM:filled (List.replicate (len*sz) AV.any) ps=ig.flatten:=by rfl) (hlen:ig.length=len:=by rfl) (hr:∀r∈ig,r.length=sz:=by first|(simp;done)|(simp[gD];done)|(intro r hr;repeat(first|(rcases List.mem_cons.1 hr with h|hr;·(subst h;rfl))|(simp at hr;done)))):
 Ok P H Γ g ⟨d,.buildSlice T len parts.toArray,ty,p,af,gd⟩ (.rows sz ig):=uz hT.h hE.h dV kh bf lC hp fM hlen hr
def Ok.bd {l0:List AV} {parts:List (Nat×Operand)} {ps:List (Nat×List AV)} [hT:bn P T true n m zv] (hz:∀I,aC I l0 zv.cells.toList) (hp:bU (ic P T) Γ g n parts ps) [hk:oL P T] (hn:l0.length=n:=by rfl):Ok P H Γ g ⟨d,.build T parts.toArray,ty,p,af,gd⟩ (.agg (filled l0 ps)):=Ar hT.h hk.h hz hn hp
def bU.k {i o':Nat} {x:AV} {r:List (Nat×Operand)} {s:List (Nat×List AV)} (k:bU (ic P T) Γ g n r s) [hp:oK P T i o' 1] (ho:Nat.ble (o'+1) n=true:=by rfl) (h:At Γ g y x:=by first|exact .tt|exact .ag|exact .c|exact .nil (.t rfl)|exact .nil .c) (hx:x.One:=by first|exact bA rfl|exact bE|exact bF|exact bG|assumption):bU (ic P T) Γ g n ((i,y)::r) ((o',[x])::s):=bU.c hp.h ho h hx k
def bU.t {i o' q:Nat} {lx:List AV} {r:List (Nat×Operand)} {s:List (Nat×List AV)} (k:bU (ic P T) Γ g n r s) [hp:oK P T i o' q] (h:At Γ g y (.agg lx):=by first|exact .tt|exact .ag|exact .c) (hl:lx.length=q:=by rfl) (ho:Nat.ble (o'+q) n=true:=by rfl):bU (ic P T) Γ g n ((i,y)::r) ((o',lx)::s):=bU.s hp.h hl ho h k
end
section
variable {P:Program} {c:Ctx} {I:Im} {H:List Own} {Γ:Env} {a:Act} {w:World} {Q:Exit->Act->World->Prop} {ops:Array Oper} {rest os:List Oper} {Hf:List (EA->Own)} {ms:Meta} {tail:List Oper} {M:Act->List Own} {k':Nat} {oo:Oper} {x:AV} {d n m:Nat} {G:Bool} {y z:Operand} {ty T T':TypeId} {p:String} {af:Array Edge} {zv:Value}
def nn {N:Act->World->Prop} (h:N a w):wpList P ops (Exit.then N Q) [] a w:=h
def sr {id:Nat} {l:List Oper} {c2:Code} (h:wpList P l.toArray (Exit.then (c2.wp P Q) Q) l a w):(Code.seq (.region id l.toArray false) c2).wp P Q a w:=wp_seq (St.region h)
def St.cd {cc:Operand} {t e:Code} {b:Bool} (U:St c I H Γ a w) (h1:b=true->t.wp P Q a w) (h2:b=false->e.wp P Q a w) (hc:At Γ true cc (.bool b):=by first|exact .tt|exact .ag|exact .c):(Code.cond cc t e).wp P Q a w:=U.cond hc h1 h2
def bg.o (h:∀{F a},Ok P (cr [] a F 0 Hf) (Γ.only (oo.looksAt ops)) true oo x) (k:bg P c ops Q ((oo.dst.getD 0,x)::Γ) Hf os ms) (hg:oo.guard=none:=by rfl) (ho:oo.dst=some (oo.dst.getD 0):=by rfl) (hd:Nat.blt (oo.dst.getD 0) c.n=true:=by rfl):bg P c ops Q Γ Hf (oo::os) (([],none)::ms):=.op hg ho hd (λ_ _=>h) k
def bg.r (T:List Nat) (h:∀{F a},Ok P (cr T a F 0 Hf) (Γ.only (oo.looksAt ops)) true oo x) (k:bg P c ops Q ((oo.dst.getD 0,x)::Γ) Hf os ms) (hc:∀F a a',cr T a F 0 Hf=cr T a' F 0 Hf:=by exactλ_ _ _=>rfl) (hg:oo.guard=none:=by rfl) (ho:oo.dst=some (oo.dst.getD 0):=by rfl) (hd:Nat.blt (oo.dst.getD 0) c.n=true:=by rfl):bg P c ops Q Γ Hf (oo::os) ((T,none)::ms):=.Be T hc hg ho hd (λ_ _=>h) k
def fh.o (ok:Ok P H (Γ.only (oo.looksAt ops)) true oo x) (k:fh P c H ops Q tail ((oo.dst.getD 0,x)::Γ) os) (hg:oo.guard=none:=by rfl):fh P c H ops Q tail Γ (oo::os):=.cons (.of hg ok) k
def fh.q (hg:di ops (Γ.only (oo.looksAt ops)) oo G) (ok:Ok P H (Γ.only (oo.looksAt ops)) G oo x) (k:fh P c H ops Q tail ((oo.dst.getD 0,AV.cond G x)::Γ) os):fh P c H ops Q tail Γ (oo::os):=.cons (.n1 hg ok) k
def dY.o (ok:Ok P H (Γ.only (oo.looksAt ops)) true oo x) (k:dY P c H ops Q tail M (k'+1) ((oo.dst.getD 0,x)::Γ) os) (hg:oo.guard=none:=by rfl):dY P c H ops Q tail M k' Γ (oo::os):=.cons (.of hg ok) k
def dY.q (hg:di ops (Γ.only (oo.looksAt ops)) oo G) (ok:Ok P H (Γ.only (oo.looksAt ops)) G oo x) (k:dY P c H ops Q tail M (k'+1) ((oo.dst.getD 0,AV.cond G x)::Γ) os):dY P c H ops Q tail M k' Γ (oo::os):=.cons (.n1 hg ok) k
def St.sb {b:Nat} {l lx:List AV} (k:Nat) (U:St c I H Γ a w) (kk:∀{a' w'},St c I (H.set k (Own.box b T' lx)) Γ a' w'->wpList P ops Q rest a' w') [hT:bn P T true n m zv] (hy:At Γ true y (.val (.pointer (some ⟨b,0,none⟩))):=by first|exact .tt|exact .ag|exact .c) (hz:At Γ true z (.agg lx):=by first|exact .tt|exact .ag|exact .c)
 (hk:H[k]?=some (Own.box b T' l):=by rfl) (hn:lx.length=n:=by first|rfl|assumption) (hl:l.length=n:=by rfl):wpList P ops Q (⟨none,.store T y z,ty,p,af,none⟩::rest) a w:=U.ub k hT.h hy hz hk hn hl λ_ _ h=>kk h
def St.s1 {b q:Nat} {l:List AV} (k:Nat) (U:St c I H Γ a w) (kk:∀{a' w'},St c I (H.set k (Own.box b T' (l.set q x))) Γ a' w'->wpList P ops Q rest a' w') [hT:bn P T false 1 m zv] (hy:At Γ true y (.val (.pointer (some ⟨b,q,none⟩))):=by first|exact .tt|exact .ag|exact .c) (hz:At Γ true z x:=by first|exact .tt|exact .ag|exact .c|exact .nil (.t rfl)|exact .nil .c)
 (hx:x.One:=by first|exact bA rfl|exact bE|exact bF|exact bG|assumption) (hk:H[k]?=some (Own.box b T' l):=by rfl) (hq:Nat.ble (q+1) l.length=true:=by rfl):wpList P ops Q (⟨none,.store T y z,ty,p,af,none⟩::rest) a w:=U.ua k hT.h hy hz hx hk hq λ_ _ h=>kk h
def St.ag {σ:Type} {m:iO σ} {μ:σ->Nat} {x:σ} {Γ0:Env} (y:σ) (U:St c I H Γ a w) (ak:m.ok y) (hμ:μ y<μ x:=by first|omega|(simp;omega)) (hH:H=m.own y:=by rfl) (h1:Env.le (m.env y) Γ:=by repeat(first|exact Env.le_nil|refine Env.aU rfl (by first|rfl|(congr 1;done)) ?_)) (h0:Env.le Γ0 Γ:=by repeat(first|exact Env.le_rfl|refine Env.cL rfl ?_)):nY m μ x c Γ0 a w:=U.again y hμ ak hH h1 h0
def St.lo {σ:Type} (ms:List Nat) (m:iO σ) (μ:σ->Nat) {body:Code} (x:σ) (U:St c I H Γ a w) (ak:m.ok x) (round:∀x I a w,m.ok x->St c I (m.own x) (m.env x++Env.hX ms Γ) a w->body.wp P (Exit.then (nY m μ x c (Env.hX ms Γ)) Q) a w) (hH:H=m.own x:=by rfl) (h1:Env.le (m.env x) Γ:=by repeat(first|exact Env.le_nil|refine Env.aU rfl bh ?_)):(Code.loop body).wp P Q a w:=St.ju ms m μ x U hH ak h1 round
def St.rt {fn:Func} {rs:List ResultVar} {xs:List AV} {res:AV} (U:St c I H Γ a w) (e:ko xs=res) (hr:fn.results=rs.toArray:=by rfl) (h:cC P H Γ rs xs:=by first|exact cC.cons (.t rfl) cC.nil|exact cC.cons (by first|exact .t rfl|exact .nil rfl) cC.nil|exact cC.nil|exact cC.cons (by first|exact .t rfl|exact .nil rfl) (cC.cons (by first|exact .t rfl|exact .nil rfl) cC.nil)|exact cC.cons (by first|exact .t rfl|exact .nil rfl) (cC.cons (by first|exact .t rfl|exact .nil rfl) (cC.cons (by first|exact .t rfl|exact .nil rfl) cC.nil))):bodyPost P fn (ka c.F c.I c.W res) .ret a w:=U.ret hr h e
end
def bI.set {I:Im}:∀{l:List AV} {cs:List Value},bI I l cs->∀{i:Nat} {u:Value} {y:AV},l[i]?=some (.val u)->y.h I u->bI I (l.set i y) cs
 |[],[],_,i,_,_,hi,_=>by simp at hi
 |x::xs,c::cs,h,0,u,y,hi,hy=>by
  simp at hi;subst hi;exact⟨by have e:c=u:=h.1;rw[e];exact hy,h.2⟩
 |x::xs,c::cs,h,i+1,u,y,hi,hy=>⟨h.1,bI.set h.2 (by simpa using hi) hy⟩
 |[],_::_,h,_,_,_,_,_=>h.elim
 |_::_,[],h,_,_,_,_,_=>h.elim
def jJ:Nat->List AV->Env->Prop
 |_,[],_=>True
 |k,x::r,Γ=>Env.get k Γ=some x/\jJ (k+1) r Γ
def rl {I:Im} {Γ:Env}:∀(xs:List AV) (pre vs:List Value),vs.length=xs.length->br I {tmps:=(pre++vs).toArray,defers:=[]} Γ->jJ pre.length xs Γ->bI I xs vs
 |[],_,[],_,_,_=>trivial
 |x::r,pre,v::vs,hl,he,h=>
  ⟨by simpa using he pre.length x h.1,rl r (pre++[v]) vs (by simpa using hl) (by simpa using he) (by simpa using h.2)⟩
 |[],_,_::_,hl,_,_=>by simp at hl
 |_::_,_,[],hl,_,_=>by simp at hl
def rm {I:Im} {l:List AV} {vs:Array Value} (h:bI I l vs.toList):br I {tmps:=vs,defers:=[]} (eF 0 l):=λt x e=>by
 have:=nX l vs.toList [] [] h t x e;simpa using this
section
variable {P:Program} {c:Ctx} {I:Im} {H:List Own} {Γ:Env} {a:Act} {w:World} {E T:TypeId} {v:Value} {sz:Nat} {l:List (List AV)} {u xs eR:List AV} {b:Nat} {x y res iN:AV} {f:FuncId}
def St.BO {t:Nat} (U:St c I H Γ a w) (h:∀v,x.h I v->y.h I v) (ht:Env.get t Γ=some x):St c I H ((t,y)::Γ) a w:=
 ⟨U.step,U.own,λs z e=>by
  simp only[Env.get] at e;cases hb:Nat.beq t s with
  |true=>rw[hb] at e;obtain rfl:t=s:=Nat.eq_of_beq_eq_true hb;simp at e;subst e;exact h _ (U.env t x ht)
  |false=>rw[hb] at e;exact U.env s z (by simpa using e),U.size,U.defers⟩
def bm.frozen {α:Type} {args:List AV} {ok:α->Prop} {h1:α->List Own} {r:α->AV} (h:bm P f args [] ok h1 r) (fz:∀x c I a w,ok x->St c I (h1 x) [(0,r x)] a w->∃I2 H2 Γ2,St c I2 H2 ((0,iN)::Γ2) a w):Fn P f args iN:=
 ⟨h.1,λI w vs hm ha=>(h.2 I w vs hm (aO.nil _ _ _) ha).mono λe w' he=>by
   cases e with
   |panicked _=>exact he.elim
   |outgrown=>exact he.elim
   |returned v=>
    obtain⟨x,I',ak,aX,ho,hx⟩:=he
    obtain⟨I2,H2,Γ2,U⟩:=fz x ⟨w,I,1,cH []⟩ I' {tmps:=#[v],defers:=[]} w' ak ⟨aX,ho,rm (l:=[r x]) (vs:=#[v]) ⟨hx,trivial⟩,rfl,rfl⟩
    exact⟨I2,cE.none U.step,by simpa using U.env 0 iN rfl⟩⟩
def oN {g:Bool} {d:Option Tmp} {ys:Array Operand} {ts:Array TypeId} {ty:TypeId} {p:String} {af:Array Edge} {gd:Option (Nat×Bool)} (hf:Fn P f eR res) (h:∀I a,br I a Γ->g=true->bI I xs (ys.map a.eval).toList)
 (fz:∀c I a w,St c I H (eF 0 xs) a w->∃I2 H2 Γ2,St c I2 H2 Γ2 a w/\jJ 0 eR Γ2) (BP:∀I J u,res.h I u->res.h J u:=by exactλ_ _ _ h=>h) (hn:eR.length=xs.length:=by rfl):Ok P H Γ g ⟨d,.call ⟨.value (.func f),ys,ts⟩,ty,p,af,gd⟩ res:=
 λbase I a w K Q he hm hw hg kk=>by
  have h0:=h I a he hg;obtain⟨I2,H2,Γ2,dC,rn⟩:=fz ⟨w,I,(ys.map a.eval).size,λ_=>True⟩ I {tmps:=ys.map a.eval,defers:=[]} w ⟨cE.refl hm,hw.weaken λb _=>.inr trivial,rm h0,rfl,rfl⟩;have hx:=rl eR [] (ys.map a.eval).toList (by rw[h0.length,hn]) (by rw[List.nil_append,Array.toArray_toList];exact dC.env) rn;have hle:Im.le I I2:=dC.step.le;have hc:=hf.2 I2 w (ys.map a.eval) dC.step.bO hx;unfold Oper.wp;have hr:(execOp a.eval (⟨d,.call ⟨.value (.func f),ys,ts⟩,ty,p,af,gd⟩:Oper)).run P w=.ok (.enter f (ys.map a.eval)) w:=by
   simp only[execOp,resolve,Act.eval];simp[go_sem,hf.1 _ w]
  rw[hr,Oper.upon_enter];refine Calls.mono hc λe w' he=>?_;cases e with
  |returned u=>
   obtain⟨I3,U,hx⟩:=he
   refine kk u (λb=>if b<w.heap.size then I b else I3 b) w' (BP _ _ _ hx) ⟨λb cs e=>?_,λb hb=>if_pos hb,λb cs e=>?_,U.below⟩
   .show(if b<w.heap.size then I b else I3 b)=_
    rw[if_pos (hm.lt e)];exact e
   change(if b<w.heap.size then I b else I3 b)=some cs at e
   split at e
   .exact U.bO b cs (U.le b cs (hle b cs e))
   exact U.bO b cs e
  |panicked _=>exact he.elim
  |outgrown=>exact he.elim
end
section
variable {P:Program} {c:Ctx} {I:Im} {H:List Own} {Γ:Env} {a:Act} {w:World} {Q:Exit->Act->World->Prop} {ops:Array Oper} {rest:List Oper} {o:Oper} {x:AV} {g G:Bool} {y z y2:Operand} {ty T T':TypeId} {p:String} {af:Array Edge} {n m f:Nat} {zv:Value} {d:Option Tmp} {gd:Option (Nat×Bool)} {bo:BinOp} {uo:UnOp} {cc:Go.Call}
def Ok.vE {m n:Int} (hy:At Γ g y (.int m):=by first|exact .tt|exact .c|exact .ag) (hz:At Γ g z (.int n):=by first|exact .tt|exact .c|exact .ag):Ok P H Γ g ⟨d,.binOp .eql T y z T',ty,p,af,gd⟩ (.bool (m==n)):=tC hy hz
def Ok.vF {m n:Int} (hy:At Γ g y (.int m):=by first|exact .tt|exact .c|exact .ag) (hz:At Γ g z (.int n):=by first|exact .tt|exact .c|exact .ag):Ok P H Γ g ⟨d,.binOp .neq T y z T',ty,p,af,gd⟩ (.bool (m !=n)):=zF hy hz
def Ok.vG {m n:Int} (hy:At Γ g y (.int m):=by first|exact .tt|exact .c|exact .ag) (hz:At Γ g z (.int n):=by first|exact .tt|exact .c|exact .ag):Ok P H Γ g ⟨d,.binOp .lss T y z T',ty,p,af,gd⟩ (.bool (decide (m<n))):=tv hy hz
def Ok.vH {m n:Int} (hy:At Γ g y (.int m):=by first|exact .tt|exact .c|exact .ag) (hz:At Γ g z (.int n):=by first|exact .tt|exact .c|exact .ag):Ok P H Γ g ⟨d,.binOp .leq T y z T',ty,p,af,gd⟩ (.bool (decide (m<=n))):=tw hy hz
def Ok.vI {m n:Int} (hy:At Γ g y (.int m):=by first|exact .tt|exact .c|exact .ag) (hz:At Γ g z (.int n):=by first|exact .tt|exact .c|exact .ag):Ok P H Γ g ⟨d,.binOp .gtr T y z T',ty,p,af,gd⟩ (.bool (decide (n<m))):=tx hy hz
def Ok.vJ {m n:Int} (hy:At Γ g y (.int m):=by first|exact .tt|exact .c|exact .ag) (hz:At Γ g z (.int n):=by first|exact .tt|exact .c|exact .ag):Ok P H Γ g ⟨d,.binOp .geq T y z T',ty,p,af,gd⟩ (.bool (decide (n<=m))):=tz hy hz
def Ok.vK {m n:Int} (hy:At Γ g y (.int m):=by first|exact .tt|exact .c|exact .ag) (hz:At Γ g z (.int n):=by first|exact .tt|exact .c|exact .ag) (hb:g=true->-9223372036854775808<=m+n/\m+n<=9223372036854775807:=by intro hg;first|omega|(simp at hg;omega)):Ok P H Γ g ⟨d,.binOp .add T y z T',ty,p,af,gd⟩ (.int (m+n)):=ba hy hz hb
def Ok.vL {m n:Int} (hy:At Γ g y (.int m):=by first|exact .tt|exact .c|exact .ag) (hz:At Γ g z (.int n):=by first|exact .tt|exact .c|exact .ag) (hb:g=true->-9223372036854775808<=m-n/\m-n<=9223372036854775807:=by intro hg;first|omega|(simp at hg;omega)):Ok P H Γ g ⟨d,.binOp .sub T y z T',ty,p,af,gd⟩ (.int (m-n)):=zE hy hz hb
def Ok.vM {aa:Operand} {b x:Bool} (hc:At Γ g y (.bool b):=by first|exact .tt|exact .ag) (ha:At Γ g aa (.cond b (.bool x)):=by exact .pc):Ok P H Γ g ⟨d,.pick y aa (.const (.bool false)),ty,p,af,gd⟩ (.bool (b&&x)):=zC hc ha .c
def Ok.vN {bb:Operand} {b x:Bool} (hc:At Γ g y (.bool b):=by first|exact .tt|exact .ag) (hb:At Γ g bb (.cond (!b) (.bool x)):=by exact .pc):Ok P H Γ g ⟨d,.pick y (.const (.bool true)) bb,ty,p,af,gd⟩ (.bool (b||x)):=zD hc .c hb
def Ok.kM (h:Ok P H Γ g ⟨d,.move y,ty,p,af,gd⟩ x):Ok P H Γ g ⟨d,.move y,ty,p,af,gd⟩ x:=h
def Ok.kL (h:Ok P H Γ g ⟨d,.load T y,ty,p,af,gd⟩ x):Ok P H Γ g ⟨d,.load T y,ty,p,af,gd⟩ x:=h
def Ok.kF (h:Ok P H Γ g ⟨d,.fieldAddr T y f,ty,p,af,gd⟩ x):Ok P H Γ g ⟨d,.fieldAddr T y f,ty,p,af,gd⟩ x:=h
def Ok.kA (h:Ok P H Γ g ⟨d,.assign y,ty,p,af,gd⟩ x):Ok P H Γ g ⟨d,.assign y,ty,p,af,gd⟩ x:=h
def Ok.vO (h:Ok P H Γ g ⟨d,.binOp .eql T y z T',ty,p,af,gd⟩ x):Ok P H Γ g ⟨d,.binOp .eql T y z T',ty,p,af,gd⟩ x:=h
def Ok.vP (h:Ok P H Γ g ⟨d,.binOp .lss T y z T',ty,p,af,gd⟩ x):Ok P H Γ g ⟨d,.binOp .lss T y z T',ty,p,af,gd⟩ x:=h
def Ok.kP (h:Ok P H Γ g ⟨d,.pick y z y2,ty,p,af,gd⟩ x):Ok P H Γ g ⟨d,.pick y z y2,ty,p,af,gd⟩ x:=h
def Ok.kC (h:Ok P H Γ g ⟨d,.call cc,ty,p,af,gd⟩ x):Ok P H Γ g ⟨d,.call cc,ty,p,af,gd⟩ x:=h
def Ok.kI (h:Ok P H Γ g ⟨d,.indexAddr T y z,ty,p,af,gd⟩ x):Ok P H Γ g ⟨d,.indexAddr T y z,ty,p,af,gd⟩ x:=h
def Ok.vQ (h:Ok P H Γ g ⟨d,.binOp .add T y z T',ty,p,af,gd⟩ x):Ok P H Γ g ⟨d,.binOp .add T y z T',ty,p,af,gd⟩ x:=h
def Ok.kX (h:Ok P H Γ g ⟨d,.box T y,ty,p,af,gd⟩ x):Ok P H Γ g ⟨d,.box T y,ty,p,af,gd⟩ x:=h
def Ok.kN (h:Ok P H Γ g ⟨d,.unOp uo T y,ty,p,af,gd⟩ x):Ok P H Γ g ⟨d,.unOp uo T y,ty,p,af,gd⟩ x:=h
def Ok.kZ (h:Ok P H Γ g ⟨d,.nilCheck y,ty,p,af,gd⟩ x):Ok P H Γ g ⟨d,.nilCheck y,ty,p,af,gd⟩ x:=h
def Ok.kE (h:Ok P H Γ g ⟨d,.extract y f,ty,p,af,gd⟩ x):Ok P H Γ g ⟨d,.extract y f,ty,p,af,gd⟩ x:=h
def Ok.vR (h:Ok P H Γ g ⟨d,.binOp .gtr T y z T',ty,p,af,gd⟩ x):Ok P H Γ g ⟨d,.binOp .gtr T y z T',ty,p,af,gd⟩ x:=h
def Ok.vS (h:Ok P H Γ g ⟨d,.binOp .neq T y z T',ty,p,af,gd⟩ x):Ok P H Γ g ⟨d,.binOp .neq T y z T',ty,p,af,gd⟩ x:=h
def Ok.vT (h:Ok P H Γ g ⟨d,.binOp .sub T y z T',ty,p,af,gd⟩ x):Ok P H Γ g ⟨d,.binOp .sub T y z T',ty,p,af,gd⟩ x:=h
def Ok.vU (h:Ok P H Γ g ⟨d,.binOp .leq T y z T',ty,p,af,gd⟩ x):Ok P H Γ g ⟨d,.binOp .leq T y z T',ty,p,af,gd⟩ x:=h
def Ok.vV (h:Ok P H Γ g ⟨d,.binOp .geq T y z T',ty,p,af,gd⟩ x):Ok P H Γ g ⟨d,.binOp .geq T y z T',ty,p,af,gd⟩ x:=h
def Ok.zo (h:Ok P H Γ g o x:=by
 first
 |(apply Ok.kM;first|exact .mv|exact mw .c)
 |(apply Ok.kL;first|exact .l1|exact .lb 0|exact .rf|exact .rh|exact .ls 0|exact .lb 1|exact .ls 1|exact .lb 2|exact .ls 2|exact .lb 3|exact .ls 3|exact .lb 4|exact .ls 4|exact .lb 5|exact .ls 5|exact .lb 6|exact .ls 6)
 |(apply Ok.kF;first|exact .fp|exact .fv)
 |(apply Ok.kA;first|exact .as|exact lr .c)
 |(apply Ok.vO;exact .vE)
 |(apply Ok.vP;exact .vG)
 |(apply Ok.kP;first|exact .vN|exact .vM)
 |(apply Ok.kC;first|exact .ri|exact .rj|exact .rk)
 |(apply Ok.kI;first|exact .vC|exact .vB|exact .vD)
 |(apply Ok.vQ;exact .vK)
 |(apply Ok.kX;exact .bp)
 |(apply Ok.kN;exact .nt)
 |(apply Ok.kZ;exact .nl)
 |(apply Ok.kE;exact .e)
 |(apply Ok.vR;exact .vI)
 |(apply Ok.vS;exact .vF)
 |(apply Ok.vT;exact .vL)
 |(apply Ok.vU;exact .vH)
 |(apply Ok.vV;exact .vJ)):Ok P H Γ g o x:=h
def Ok.zp (h:Ok P H Γ g o x:=by
 first
 |(apply Ok.kM;first|exact .mx .ag|exact .mv|exact mw .c)
 |(apply Ok.kL;first|exact .lx .ag|exact .m2 0 .ag|exact .m2 1 .ag|exact .m2 2 .ag|exact .m2 3 .ag|exact .m2 4 .ag|exact .l1|exact .lb 0|exact .rf|exact .rh|exact .ls 0|exact .lb 1|exact .ls 1|exact .lb 2|exact .ls 2|exact .lb 3|exact .ls 3|exact .lb 4|exact .ls 4|exact .lb 5|exact .ls 5|exact .lb 6|exact .ls 6)
 |(apply Ok.kF;first|exact .fx .ag|exact .BN .ag|exact .fp|exact .fv)
 |(apply Ok.kA;first|exact .BK .ag|exact .as|exact lr .c)
 |(apply Ok.vO;exact .vE)
 |(apply Ok.vP;exact .vG)
 |(apply Ok.kP;first|exact .vN|exact .vM)
 |(apply Ok.kC;first|exact .ri|exact .rj|exact .rk)
 |(apply Ok.kI;first|exact .vC|exact .vB|exact .vD)
 |(apply Ok.vQ;exact .vK)
 |(apply Ok.kX;exact .bp)
 |(apply Ok.kN;first|exact .BL .ag|exact .nt)
 |(apply Ok.kZ;exact .nl)
 |(apply Ok.kE;exact .e)
 |(apply Ok.vR;exact .vI)
 |(apply Ok.vS;exact .vF)
 |(apply Ok.vT;exact .vL)
 |(apply Ok.vU;exact .vH)
 |(apply Ok.vV;exact .vJ)):Ok P H Γ g o x:=h
def di.zg {b:Bool} (h:di ops Γ o b:=by first|exact .T|exact .F|exact .T2|exact .F2):di ops Γ o b:=h
def St.oy {d:Nat} {op:Op} (U:St c I H Γ a w) (hd:Nat.blt d c.n=true) (ok:Ok P H Γ true ⟨some d,op,ty,p,af,none⟩ x) (k:∀I' a' w',St c I' H ((d,x)::Γ) a' w'->wpList P ops Q rest a' w'):wpList P ops Q (⟨some d,op,ty,p,af,none⟩::rest) a w:=U.op rfl rfl hd ok k
def St.qy {d:Nat} {op:Op} {gd:Nat×Bool} (U:St c I H Γ a w) (hd:Nat.blt d c.n=true) (hg:di ops Γ ⟨some d,op,ty,p,af,some gd⟩ G) (ok:Ok P H Γ G ⟨some d,op,ty,p,af,some gd⟩ x) (k:∀I' a' w',St c I' H ((d,.cond G x)::Γ) a' w'->wpList P ops Q rest a' w'):wpList P ops Q (⟨some d,op,ty,p,af,some gd⟩::rest) a w:=U.n0 hg rfl hd ok k
def St.sz {b:Nat} {l lx:List AV} (k:Nat) (U:St c I H Γ a w) (kk:∀I' a' w',St c I' (H.set k (Own.box b T' lx)) Γ a' w'->wpList P ops Q rest a' w') [hT:bn P T true n m zv] (hy:At Γ true y (.val (.pointer (some ⟨b,0,none⟩))):=by first|exact .tt|exact .ag|exact .c) (hz:At Γ true z (.agg lx):=by first|exact .tt|exact .ag|exact .c)
 (hk:H[k]?=some (Own.box b T' l):=by rfl) (hn:lx.length=n:=by first|rfl|assumption) (hl:l.length=n:=by rfl):wpList P ops Q (⟨none,.store T y z,ty,p,af,none⟩::rest) a w:=U.ub k hT.h hy hz hk hn hl λ_ _ h=>kk _ _ _ h
def St.sy {b q:Nat} {l:List AV} (k:Nat) (U:St c I H Γ a w) (kk:∀I' a' w',St c I' (H.set k (Own.box b T' (l.set q x))) Γ a' w'->wpList P ops Q rest a' w') [hT:bn P T false 1 m zv] (hy:At Γ true y (.val (.pointer (some ⟨b,q,none⟩))):=by first|exact .tt|exact .ag|exact .c) (hz:At Γ true z x:=by first|exact .tt|exact .ag|exact .c|exact .nil (.t rfl)|exact .nil .c)
 (hx:x.One:=by first|exact bA rfl|exact bE|exact bF|exact bG|assumption) (hk:H[k]?=some (Own.box b T' l):=by rfl) (hq:Nat.ble (q+1) l.length=true:=by rfl):wpList P ops Q (⟨none,.store T y z,ty,p,af,none⟩::rest) a w:=U.ua k hT.h hy hz hx hk hq λ_ _ h=>kk _ _ _ h
def dy.oo {os:List Oper} {d:Nat} {op:Op} (hg:d=d) (ok:Ok P H (Γ.only ((⟨some d,op,ty,p,af,none⟩:Oper).looksAt ops)) true ⟨some d,op,ty,p,af,none⟩ x) (k:dy P c H ops Q ((d,x)::Γ) os):dy P c H ops Q Γ (⟨some d,op,ty,p,af,none⟩::os):=.cons (.of rfl ok) k
def dy.qq {os:List Oper} {d:Nat} {op:Op} {gd:Nat×Bool} (hg:di ops (Γ.only ((⟨some d,op,ty,p,af,some gd⟩:Oper).looksAt ops)) ⟨some d,op,ty,p,af,some gd⟩ G) (ok:Ok P H (Γ.only ((⟨some d,op,ty,p,af,some gd⟩:Oper).looksAt ops)) G ⟨some d,op,ty,p,af,some gd⟩ x) (k:dy P c H ops Q ((d,.cond G x)::Γ) os):dy P c H ops Q Γ (⟨some d,op,ty,p,af,some gd⟩::os):=.cons (.n1 hg ok) k
def BQ (h:wpList P ops Q (⟨none,.store T y z,ty,p,af,none⟩::rest) a w):wpList P ops Q (⟨none,.store T y z,ty,p,af,none⟩::rest) a w:=h
end
structure Hid (Q:Prop):Prop where
 out:Q
def zz {P Q:Prop} (k:Q) (h:Hid Q->P:=by
 intro gk;(with_reducible (repeat(first|refine nn ?_|refine sr ?_|refine bM ?_|refine wp_seq ?_|refine wp_block ?_|refine St.region ?_|refine wpList_nil ?_|refine tK ?_|refine wp_skip ?_)));first
 |(apply St.oy U;rfl;exact .zo;intro I a w U)
 |(apply St.qy U;rfl;exact .zg;exact .zp;intro I a w U)
 |(refine BQ ?_;first|refine U.sy 0 (λI a w U=>?_)|refine U.sz 0 (λI a w U=>?_)|refine U.sy 1 (λI a w U=>?_)|refine U.sz 1 (λI a w U=>?_)|refine U.sy 2 (λI a w U=>?_)|refine U.sz 2 (λI a w U=>?_)|refine U.sy 3 (λI a w U=>?_)|refine U.sz 3 (λI a w U=>?_)|refine U.sy 4 (λI a w U=>?_)|refine U.sz 4 (λI a w U=>?_)|refine U.sz 5 (λI a w U=>?_)|refine U.sz 6 (λI a w U=>?_))
 |(refine U.dk ?_;(repeat(first|(apply dy.oo;rfl;exact .zo)|(apply dy.qq;exact .zg;exact .zp)));refine .nil ?_;intro I a w U)
 revert I a w;exact gk.out):P:=h ⟨k⟩
def zk {P Q:Prop} (k:Q) (h:Hid Q->P:=by
 intro gk;first|(apply dy.oo;rfl;exact .zo)|(apply dy.qq;exact .zg;exact .zp)|refine .o .zo ?_|refine .q .zg .zp ?_
 exact gk.out):P:=h ⟨k⟩
def aV {P Q:Prop} (k:Q) (h:Hid Q->P:=by intro gk;(iterate 1 (refine zz λI a w U=>?_));revert I a w;exact gk.out):P:=h ⟨k⟩
def aL {P Q:Prop} (k:Q) (h:Hid Q->P:=by intro gk;(iterate 2 (refine zz λI a w U=>?_));revert I a w;exact gk.out):P:=h ⟨k⟩
def aN {P Q:Prop} (k:Q) (h:Hid Q->P:=by intro gk;(iterate 3 (refine zz λI a w U=>?_));revert I a w;exact gk.out):P:=h ⟨k⟩
def ax {P Q:Prop} (k:Q) (h:Hid Q->P:=by intro gk;(iterate 4 (refine zz λI a w U=>?_));revert I a w;exact gk.out):P:=h ⟨k⟩
def bJ {P Q:Prop} (k:Q) (h:Hid Q->P:=by intro gk;(iterate 5 (refine zz λI a w U=>?_));revert I a w;exact gk.out):P:=h ⟨k⟩
def fH {P Q:Prop} (k:Q) (h:Hid Q->P:=by intro gk;(iterate 6 (refine zz λI a w U=>?_));revert I a w;exact gk.out):P:=h ⟨k⟩
def gX {P Q:Prop} (k:Q) (h:Hid Q->P:=by intro gk;(iterate 7 (refine zz λI a w U=>?_));revert I a w;exact gk.out):P:=h ⟨k⟩
def vW {P Q:Prop} (k:Q) (h:Hid Q->P:=by intro gk;(iterate 8 (refine zz λI a w U=>?_));revert I a w;exact gk.out):P:=h ⟨k⟩
def BR {P Q:Prop} (k:Q) (h:Hid Q->P:=by intro gk;(iterate 9 (refine zz λI a w U=>?_));revert I a w;exact gk.out):P:=h ⟨k⟩
def lO {P Q:Prop} (k:Q) (h:Hid Q->P:=by intro gk;(iterate 10 (refine zz λI a w U=>?_));revert I a w;exact gk.out):P:=h ⟨k⟩
def vX {P Q:Prop} (k:Q) (h:Hid Q->P:=by intro gk;(iterate 11 (refine zz λI a w U=>?_));revert I a w;exact gk.out):P:=h ⟨k⟩
def vY {P Q:Prop} (k:Q) (h:Hid Q->P:=by intro gk;(iterate 12 (refine zz λI a w U=>?_));revert I a w;exact gk.out):P:=h ⟨k⟩
def vZ {P Q:Prop} (k:Q) (h:Hid Q->P:=by intro gk;(iterate 13 (refine zz λI a w U=>?_));revert I a w;exact gk.out):P:=h ⟨k⟩
def rq {P Q:Prop} (k:Q) (h:Hid Q->P:=by intro gk;(iterate 14 (refine zz λI a w U=>?_));revert I a w;exact gk.out):P:=h ⟨k⟩
def BS {P Q:Prop} (k:Q) (h:Hid Q->P:=by intro gk;(iterate 15 (refine zz λI a w U=>?_));revert I a w;exact gk.out):P:=h ⟨k⟩
def v3 {P Q:Prop} (k:Q) (h:Hid Q->P:=by intro gk;(iterate 17 (refine zz λI a w U=>?_));revert I a w;exact gk.out):P:=h ⟨k⟩
def v7 {P Q:Prop} (k:Q) (h:Hid Q->P:=by intro gk;(iterate 19 (refine zz λI a w U=>?_));revert I a w;exact gk.out):P:=h ⟨k⟩
def BT {P Q:Prop} (k:Q) (h:Hid Q->P:=by intro gk;(iterate 22 (refine zz λI a w U=>?_));revert I a w;exact gk.out):P:=h ⟨k⟩
def BU {P Q:Prop} (k:Q) (h:Hid Q->P:=by intro gk;(iterate 23 (refine zz λI a w U=>?_));revert I a w;exact gk.out):P:=h ⟨k⟩
def BV {P Q:Prop} (k:Q) (h:Hid Q->P:=by intro gk;(iterate 24 (refine zz λI a w U=>?_));revert I a w;exact gk.out):P:=h ⟨k⟩
def zt {P Q:Prop} (k:Q) (h:Hid Q->P:=by
 intro gk;(with_reducible (repeat(first|refine nn ?_|refine sr ?_|refine bM ?_|refine wp_seq ?_|refine wp_block ?_|refine St.region ?_|refine wpList_nil ?_|refine tK ?_|refine wp_skip ?_|refine wp_ret ?_|refine zN ?_|refine zO ?_|refine wp_exit ?_|refine zM ?_|refine zP ?_|refine zQ rfl ?_)));exact gk.out):P:=h ⟨k⟩
def cz {P Q R:Prop} (k:Q) (l:R) (h:Hid Q->Hid R->P:=by
 intro gk gl;refine U.cd (λgb=>?_) (λgb=>?_)
 ·(try simp only[B] at gb);revert gb;exact gk.out
 (try simp only[B] at gb);revert gb;exact gl.out):P:=h ⟨k⟩ ⟨l⟩
def BW {P Q R:Prop} (k:Q) (l:R) (h:Hid Q->Hid R->P:=by
 intro gk gl;refine U.cd (λgb=>?_) (λgb=>?_)
 .revert gb;exact gk.out
 (try simp only[B] at gb);revert gb;exact gl.out):P:=h ⟨k⟩ ⟨l⟩
def aq {P Q:Prop} (k:Q) (h:Hid Q->P:=by intro gk;(iterate 1 (refine zz λI a w U=>?_));refine zt ?_;revert I a w;exact gk.out):P:=h ⟨k⟩
def aH {P Q:Prop} (k:Q) (h:Hid Q->P:=by intro gk;(iterate 2 (refine zz λI a w U=>?_));refine zt ?_;revert I a w;exact gk.out):P:=h ⟨k⟩
def aK {P Q:Prop} (k:Q) (h:Hid Q->P:=by intro gk;(iterate 3 (refine zz λI a w U=>?_));refine zt ?_;revert I a w;exact gk.out):P:=h ⟨k⟩
def an {P Q:Prop} (k:Q) (h:Hid Q->P:=by intro gk;refine aq λI a w U=>?_;refine U.rt ?_;exact gk.out):P:=h ⟨k⟩
def bQ {P Q:Prop} (k:Q) (h:Hid Q->P:=by intro gk;refine aH λI a w U=>?_;refine U.rt ?_;exact gk.out):P:=h ⟨k⟩
def oO {P Q:Prop} (k:Q) (h:Hid Q->P:=by intro gk;refine aK λI a w U=>?_;refine U.rt ?_;exact gk.out):P:=h ⟨k⟩
def bc {P Q:Prop} (k:Q) (h:Hid Q->P:=by intro gk;(iterate 4 (refine zz λI a w U=>?_));refine zt ?_;revert I a w;exact gk.out):P:=h ⟨k⟩
def cK {P Q:Prop} (k:Q) (h:Hid Q->P:=by intro gk;(iterate 5 (refine zz λI a w U=>?_));refine zt ?_;revert I a w;exact gk.out):P:=h ⟨k⟩
def fQ {P Q:Prop} (k:Q) (h:Hid Q->P:=by intro gk;(iterate 6 (refine zz λI a w U=>?_));refine zt ?_;revert I a w;exact gk.out):P:=h ⟨k⟩
def lP {P Q:Prop} (k:Q) (h:Hid Q->P:=by intro gk;(iterate 7 (refine zz λI a w U=>?_));refine zt ?_;revert I a w;exact gk.out):P:=h ⟨k⟩
def db {P Q:Prop} (k:Q) (h:Hid Q->P:=by intro gk;(iterate 8 (refine zz λI a w U=>?_));refine zt ?_;revert I a w;exact gk.out):P:=h ⟨k⟩
def lQ {P Q:Prop} (k:Q) (h:Hid Q->P:=by intro gk;(iterate 9 (refine zz λI a w U=>?_));refine zt ?_;revert I a w;exact gk.out):P:=h ⟨k⟩
def m5 {P Q:Prop} (k:Q) (h:Hid Q->P:=by intro gk;(iterate 10 (refine zz λI a w U=>?_));refine zt ?_;revert I a w;exact gk.out):P:=h ⟨k⟩
def v8 {P Q:Prop} (k:Q) (h:Hid Q->P:=by intro gk;(iterate 11 (refine zz λI a w U=>?_));refine zt ?_;revert I a w;exact gk.out):P:=h ⟨k⟩
def BX {P Q:Prop} (k:Q) (h:Hid Q->P:=by intro gk;(iterate 12 (refine zz λI a w U=>?_));refine zt ?_;revert I a w;exact gk.out):P:=h ⟨k⟩
def rr {P Q:Prop} (k:Q) (h:Hid Q->P:=by intro gk;(iterate 13 (refine zz λI a w U=>?_));refine zt ?_;revert I a w;exact gk.out):P:=h ⟨k⟩
def BY {P Q:Prop} (k:Q) (h:Hid Q->P:=by intro gk;(iterate 17 (refine zz λI a w U=>?_));refine zt ?_;revert I a w;exact gk.out):P:=h ⟨k⟩
def BZ {P Q:Prop} (k:Q) (h:Hid Q->P:=by intro gk;(iterate 19 (refine zz λI a w U=>?_));refine zt ?_;revert I a w;exact gk.out):P:=h ⟨k⟩
def B0 {P Q:Prop} (k:Q) (h:Hid Q->P:=by intro gk;(iterate 20 (refine zz λI a w U=>?_));refine zt ?_;revert I a w;exact gk.out):P:=h ⟨k⟩
def B1 {P Q:Prop} (k:Q) (h:Hid Q->P:=by intro gk;(iterate 22 (refine zz λI a w U=>?_));refine zt ?_;revert I a w;exact gk.out):P:=h ⟨k⟩
def ru {P Q:Prop} (k:Q) (h:Hid Q->P:=by intro gk;(iterate 23 (refine zz λI a w U=>?_));refine zt ?_;revert I a w;exact gk.out):P:=h ⟨k⟩
def B2 {P Q:Prop} (k:Q) (h:Hid Q->P:=by intro gk;(iterate 31 (refine zz λI a w U=>?_));refine zt ?_;revert I a w;exact gk.out):P:=h ⟨k⟩
def c6 {P Q:Prop} (k:Q) (h:Hid Q->P:=by intro gk;(iterate 1 (refine zk ?_));exact gk.out):P:=h ⟨k⟩
def fj {P Q:Prop} (k:Q) (h:Hid Q->P:=by intro gk;(iterate 2 (refine zk ?_));exact gk.out):P:=h ⟨k⟩
def gE {P Q:Prop} (k:Q) (h:Hid Q->P:=by intro gk;(iterate 3 (refine zk ?_));exact gk.out):P:=h ⟨k⟩
def iu {P Q:Prop} (k:Q) (h:Hid Q->P:=by intro gk;(iterate 4 (refine zk ?_));exact gk.out):P:=h ⟨k⟩
def lR {P Q:Prop} (k:Q) (h:Hid Q->P:=by intro gk;(iterate 5 (refine zk ?_));exact gk.out):P:=h ⟨k⟩
def lS {P Q:Prop} (k:Q) (h:Hid Q->P:=by intro gk;(iterate 6 (refine zk ?_));exact gk.out):P:=h ⟨k⟩
def wa {P Q:Prop} (k:Q) (h:Hid Q->P:=by intro gk;(iterate 7 (refine zk ?_));exact gk.out):P:=h ⟨k⟩
def jd {P Q:Prop} (k:Q) (h:Hid Q->P:=by intro gk;(iterate 8 (refine zk ?_));exact gk.out):P:=h ⟨k⟩
def rv {P Q:Prop} (k:Q) (h:Hid Q->P:=by intro gk;(iterate 9 (refine zk ?_));exact gk.out):P:=h ⟨k⟩
def wb {P Q:Prop} (k:Q) (h:Hid Q->P:=by intro gk;(iterate 10 (refine zk ?_));exact gk.out):P:=h ⟨k⟩
def B3 {P Q:Prop} (k:Q) (h:Hid Q->P:=by intro gk;(iterate 12 (refine zk ?_));exact gk.out):P:=h ⟨k⟩
def m6 {P Q:Prop} (k:Q) (h:Hid Q->P:=by intro gk;(iterate 14 (refine zk ?_));exact gk.out):P:=h ⟨k⟩
def jK {P Q:Prop} (k:Q) (h:Hid Q->P:=by intro gk;(iterate 16 (refine zk ?_));exact gk.out):P:=h ⟨k⟩
section
variable {P:Program} {c:Ctx} {I:Im} {H:List Own} {Γ:Env} {a:Act} {w:World} {E T:TypeId} {v:Value} {sz:Nat} {l:List (List AV)} {u:List AV} {b:Nat}
def St.fr (k t:Nat) (U:St c I H Γ a w) (hk:H[k]?=some (Own.row v E sz l):=by rfl) (ht:Env.get t Γ=some (.val v):=by rfl):∃I',St c I' (H.set k Own.gone) ((t,.rows sz l)::Γ) a w:=
 let⟨I',h,hf⟩:=U.uu k hk
 ⟨I',h.uv ht hf⟩
def St.fb (k t:Nat) (U:St c I H Γ a w) (hk:H[k]?=some (Own.box b T u):=by rfl) (ht:Env.get t Γ=some (.val (.pointer (some ⟨b,0,none⟩))):=by rfl):∃I',St c I' (H.set k Own.gone) ((t,.ptr u)::Γ) a w:=
 let⟨I',h,hf⟩:=U.Ak k hk
 ⟨I',h.uv ht hf⟩
end
section
variable {P:Program} {H:List Own} {Γ:Env}
def Fn.go {f:FuncId} {fn:Func} {code:Code} {args:List AV} {res:AV} (N:Nat) (hf:P.funcs[f]?=some fn) (hn:fn.ntmps=N)
 (h:∀(W:World) (I:Im) (a:Act),St ⟨W,I,N,gO⟩ I [] (eF 0 args) a W->code.wp P (bodyPost P fn (ka gO I W res)) a W)
 (hb:fn.body=some code:=by rfl) (hN:Nat.ble args.length N=true:=by rfl) (fX:(fn.name== "runtime.NumGoroutine")=false:=by kernel_rfl):Fn P f args res:=Fn.intro N hf hb hn hN fX h
def fD.sx {s b n m:Nat} {T T':TypeId} {zv:Value} {l:List AV} (k:Nat) [hT:bn P T true n m zv] (h:Env.get s Γ=some (.val (.pointer (some ⟨b,0,none⟩))):=by rfl) (hk:H[k]?=some (Own.box b T' l):=by rfl) (hn:l.length=n:=by first|rfl|assumption):fD P H Γ (.cell s T) (.agg l):=.s k hT.h h hk hn
def fD.x {r:ResultVar} {x:AV} (h:fD P H Γ r x:=by first|exact .t rfl|exact .nil rfl):fD P H Γ r x:=h
def TD {α:Type}:(∀(n:Nat) (a:α) (l:List α),List.take (n+1) (a::l)=a::List.take n l)/\(∀l:List α,List.take 0 l=[])/\(∀(n:Nat) (a:α) (l:List α),List.drop (n+1) (a::l)=List.drop n l)/\(∀l:List α,List.drop 0 l=l):=
 ⟨λ_ _ _=>rfl,λ_=>rfl,λ_ _ _=>rfl,λ_=>rfl⟩
end
section
variable {P:Program} {c:Ctx} {I:Im} {H:List Own} {Γ:Env} {a:Act} {w:World}
def St.ln {α:Type} {s:Nat} {f:α->List AV} {l:List α} {xs:List AV} (U:St c I H Γ a w) (t i:Nat) (ht:Env.get t Γ=some (.agg xs):=by rfl) (hi:xs[i]?=some (.rows s (l.map f)):=by rfl):l.length<=9223372036854775807:=by
 obtain⟨cs,_,hc⟩:=U.env t _ ht;obtain⟨u,_,h,_⟩:=hc.get hi;exact mO h
end
section
variable {P:Program} {c:Ctx} {I:Im} {H:List Own} {Γ:Env} {a:Act} {w:World} {Q:Exit->Act->World->Prop} {ops:Array Oper} {rest:List Oper} {y z:Operand} {ty T E:TypeId} {p:String} {af:Array Edge} {m n sz d:Nat} {zv:Value} {ag:Bool}
def St.ap {v:Value} {l l2:List (List AV)} (k:Nat) (U:St c I H Γ a w) (kk:∀v' a' w',St c I (H.set k (Own.row v' E sz (l++l2))) ((d,.val v')::Γ) a' w'->wpList P ops Q rest a' w') [hU:cV P T (.slice E)] [hE:bn P E ag sz m zv]
 (hy:At Γ true y (.val v):=by first|exact .tt|exact .c) (hz:At Γ true z (.rows sz l2):=by first|exact .tt|exact .nil .tt) (hk:H[k]?=some (Own.row v E sz l):=by rfl) (hb:(l.length+l2.length)*m<=140737488355328/\l.length+l2.length<=140737488355328:=by simp;omega) (hd:Nat.blt d c.n=true:=by rfl) (dV:zv.cells.size=sz:=by rfl):
 wpList P ops Q (⟨some d,.call ⟨.builtin .append,#[y,z],#[T,T]⟩,ty,p,af,none⟩::rest) a w:=U.append k hd hU.h hE.h dV hy hz hk hb kk
def St.l0 (U:St c I H Γ a w) (k:∀b I a' w',St c I (H++[Own.row (.slice (some ⟨b,0,none⟩) 0 0) E sz []]) ((d,.val (.slice (some ⟨b,0,none⟩) 0 0))::Γ) a' w'->wpList P ops Q rest a' w') [hU:cV P T (.slice E)] [hE:bn P E ag sz m zv] (bf:0<sz:=by decide) (hd:Nat.blt d c.n=true:=by rfl):
 wpList P ops Q (⟨some d,.buildSlice T 0 #[],ty,p,af,none⟩::rest) a w:=U.AA hd hU.h hE.h bf k
def St.dt {id:Nat} {l:List Oper} (n:Nat) (U:St c I H Γ a w) (run:fh P c H l.toArray Q (l.drop n) Γ (l.take n)) (hm:P.follows .mixedOrders=true:=by kernel_rfl) (cI:gf (l.take n) (l.drop n)=true:=by kernel_rfl) (hd:((l.take n).all λo=>Nat.blt (o.dst.getD 0) c.n)=true:=by kernel_rfl):(Code.region id l.toArray true).wp P Q a w:=U.AR n hm cI hd run
end
end Go.Proofs.YtldbakcpcfdlaaaGreat

/- Part 0: rules of the proofs. -/
import Derived.WalkKit
import Derived.WalkSpells
import Derived.WalkLawsBesides
import Derived.Deep.LoopGhost
set_option linter.all false
namespace Go.Proofs.YtldbakcpcfdlaaaGreat
open Go Go.RowKit
def om {P:Prop} (h:P:=by omega):P:=h
def aP {P:Prop} (h:P:=by kernel_rfl):P:=h
def aO {P:Prop} (h:P:=by decide):P:=h
def bt {P:Prop} (h:P:=by simp):P:=h
def fK {P:Prop} (h:P:=by simp;omega):P:=h
def ef {P:Prop} (h:P:=by rfl):P:=h
def eZ {P:Prop} (h:P:=by trivial):P:=h
def gG {P:Prop} (h:P:=by rw[List.length_map];omega):P:=h
def mR {P:Prop} (h:P:=by simp only[List.length_map];omega):P:=h
def oq {P:Prop} (h:P:=by first|omega|(dsimp only;omega)|(dsimp only;push_cast;omega)|(push_cast;omega)|simp):P:=h
abbrev Im:=Nat->Option (Array Value)
def Im.le (I J:Im):Prop:=∀b cs,I b=some cs->J b=some cs
def Im.le_refl (I:Im):Im.le I I:=λ_ _ h=>h
def Im.le_trans {I J K:Im} (h:Im.le I J) (k:Im.le J K):Im.le I K:=λb cs e=>k b cs (h b cs e)
structure AV where
 h:Im->Value->Prop
 up:∀I J v,Im.le I J->h I v->h J v
def bm (I:Im):List AV->List Value->Prop
 |[],[]=>True
 |x::xs,c::cs=>(x.h I c/\c.oneCell'=true)/\bm I xs cs
 |_,_=>False
def bm.up {I J:Im} (hl:Im.le I J):∀{l:List AV} {cs:List Value},bm I l cs->bm J l cs
 |[],[],_=>trivial
 |x::xs,c::cs,h=>⟨⟨x.up I J c hl h.1.1,h.1.2⟩,bm.up hl h.2⟩
 |[],_::_,h=>h.elim
 |_::_,[],h=>h.elim
def bm.length {I:Im}:∀{l:List AV} {cs:List Value},bm I l cs->cs.length=l.length
 |[],[],_=>rfl
 |_::_,_::_,h=>by simp[bm.length h.2]
 |[],_::_,h=>h.elim
 |_::_,[],h=>h.elim
def bm.get {I:Im}:∀{l:List AV} {cs:List Value},bm I l cs->∀{i:Nat} {x:AV},l[i]?=some x->∃c,cs[i]?=some c/\x.h I c/\c.oneCell'=true
 |[],[],_,i,x,hx=>by simp at hx
 |y::ys,c::cs,h,0,x,hx=>by simp at hx;subst hx;exact⟨c,by simp,h.1⟩
 |y::ys,c::cs,h,i+1,x,hx=>by
  obtain⟨d,hd⟩:=bm.get h.2 (i:=i) (x:=x) (by simpa using hx);exact⟨d,by simpa using hd⟩
 |[],_::_,h,_,_,_=>h.elim
 |_::_,[],h,_,_,_=>h.elim
def bm.one {I:Im}:∀{l:List AV} {cs:List Value},bm I l cs->∀c∈cs,c.oneCell'=true
 |[],[],_,c,hc=>by simp at hc
 |y::ys,d::cs,h,c,hc=>by
  rcases List.mem_cons.1 hc with rfl|hc
  .exact h.1.2
  exact bm.one h.2 c hc
 |[],_::_,h,_,_=>h.elim
 |_::_,[],h,_,_=>h.elim
def bm.drop {I:Im}:∀{l:List AV} {cs:List Value},bm I l cs->∀n,bm I (l.drop n) (cs.drop n)
 |l,cs,h,0=>by simpa using h
 |[],[],_,n+1=>by simp[bm]
 |x::xs,c::cs,h,n+1=>by simpa using bm.drop h.2 n
 |[],_::_,h,_=>h.elim
 |_::_,[],h,_=>h.elim
def bm.take {I:Im}:∀{l:List AV} {cs:List Value},bm I l cs->∀n,bm I (l.take n) (cs.take n)
 |l,cs,h,0=>by simp[bm]
 |[],[],_,n+1=>by simp[bm]
 |x::xs,c::cs,h,n+1=>by simpa using⟨h.1,bm.take h.2 n⟩
 |[],_::_,h,_=>h.elim
 |_::_,[],h,_=>h.elim
def bm.append {I:Im}:∀{l m:List AV} {cs ds:List Value},bm I l cs->bm I m ds->bm I (l++m) (cs++ds)
 |[],m,[],ds,_,k=>by simpa using k
 |x::xs,m,c::cs,ds,h,k=>by simpa using⟨h.1,bm.append h.2 k⟩
 |[],_,_::_,_,h,_=>h.elim
 |_::_,_,[],_,h,_=>h.elim
def bm.set {I:Im}:∀{l:List AV} {cs:List Value},bm I l cs->∀(n:Nat) {x:AV} {c:Value},x.h I c->c.oneCell'=true->bm I (l.set n x) (cs.set n c)
 |[],[],_,n,_,_,_,_=>by simp[bm]
 |y::xs,d::cs,h,0,_,_,hx,ho=>by simpa using⟨⟨hx,ho⟩,h.2⟩
 |y::xs,d::cs,h,n+1,_,_,hx,ho=>by simpa using⟨h.1,bm.set h.2 n hx ho⟩
 |[],_::_,h,_,_,_,_,_=>h.elim
 |_::_,[],h,_,_,_,_,_=>h.elim
def bm.cast {I:Im} {l m:List AV} {cs ds:List Value} (h:bm I l cs) (e:l=m) (f:cs=ds):bm I m ds:=e▸f▸h
def AV.any:AV:=⟨λ_ _=>True,λ_ _ _ _ h=>h⟩
def AV.val (x:Value):AV:=⟨λ_ v=>v=x,λ_ _ _ _ h=>h⟩
abbrev AV.int (n:Int):AV:=AV.val (.int .i64 n)
abbrev AV.bool (b:Bool):AV:=AV.val (.bool b)
def AV.agg (l:List AV):AV:=⟨λI v=>∃cs:Array Value,v=.agg cs/\bm I l cs.toList,λ_ _ _ hl ⟨cs,e,h⟩=>⟨cs,e,h.up hl⟩⟩
def cP (I:Im):List AV->List Value->Prop
 |[],[]=>True
 |x::xs,c::cs=>x.h I c/\cP I xs cs
 |_,_=>False
def cP.up {I J:Im} (hl:Im.le I J):∀{l:List AV} {cs:List Value},cP I l cs->cP J l cs
 |[],[],_=>trivial
 |x::xs,c::cs,h=>⟨x.up I J c hl h.1,cP.up hl h.2⟩
 |[],_::_,h=>h.elim
 |_::_,[],h=>h.elim
def cP.length {I:Im}:∀{l:List AV} {cs:List Value},cP I l cs->cs.length=l.length
 |[],[],_=>rfl
 |_::_,_::_,h=>by simp[cP.length h.2]
 |[],_::_,h=>h.elim
 |_::_,[],h=>h.elim
def cP.get {I:Im}:∀{l:List AV} {cs:List Value},cP I l cs->∀{i:Nat} {x:AV},l[i]?=some x->∃c,cs[i]?=some c/\x.h I c
 |[],[],_,i,x,hx=>by simp at hx
 |y::ys,c::cs,h,0,x,hx=>by simp at hx;subst hx;exact⟨c,by simp,h.1⟩
 |y::ys,c::cs,h,i+1,x,hx=>by
  obtain⟨d,hd⟩:=cP.get h.2 (i:=i) (x:=x) (by simpa using hx);exact⟨d,by simpa using hd⟩
 |[],_::_,h,_,_,_=>h.elim
 |_::_,[],h,_,_,_=>h.elim
def AV.c6 (l:List AV):AV:=⟨λI v=>∃cs:Array Value,v=.tuple cs/\cP I l cs.toList,λ_ _ _ hl ⟨cs,e,h⟩=>⟨cs,e,h.up hl⟩⟩
def ky (I:Im) (p:Addr) (l:List AV):Prop:=p.spot=none/\∃cs,I p.block=some cs/\bm I l ((cs.toList.drop p.off).take l.length)
def ky.up {I J:Im} (hl:Im.le I J) {p:Addr} {l:List AV} (h:ky I p l):ky J p l:=
 let⟨U,cs,e,k⟩:=h;⟨U,cs,hl _ _ e,k.up hl⟩
def ky.drop {I:Im} {p:Addr} {l:List AV} (h:ky I p l) (n:Nat):ky I ⟨p.block,p.off+n,none⟩ (l.drop n):=by
 obtain⟨U,cs,e,k⟩:=h;refine⟨rfl,cs,e,(k.drop n).cast rfl ?_⟩;simp[List.drop_take,List.drop_drop]
def ky.take {I:Im} {p:Addr} {l:List AV} (h:ky I p l) (n:Nat):ky I p (l.take n):=by
 obtain⟨U,cs,e,k⟩:=h;refine⟨U,cs,e,(k.take n).cast rfl ?_⟩;rw[List.length_take,List.take_take]
def AV.ptr (l:List AV):AV:=⟨λI v=>∃p,v=.pointer (some p)/\ky I p l,λ_ _ _ hl ⟨p,e,h⟩=>⟨p,e,h.up hl⟩⟩
def AV.rows (sz:Nat) (l:List (List AV)):AV:=
 ⟨λI v=>∃p cap,v=.slice p l.length cap/\l.length<=cap/\cap<=maxLen/\
  (∀r∈l,r.length=sz)/\(l=[]\/∃q,p=some q/\ky I q l.flatten)/\(p=none->cap=0),
  λ_ _ _ hl ⟨p,cap,e,h1,h2,h3,h4,h5⟩=>⟨p,cap,e,h1,h2,h3,h4.imp id λ⟨q,e,k⟩=>⟨q,e,k.up hl⟩,h5⟩⟩
def fA (sz:Nat) (I:Im):(AV.rows sz []).h I (.slice none 0 0):=⟨none,0,rfl,Nat.le_refl _,by simp[maxLen],λr hr=>by simp at hr,.inl rfl,λ_=>rfl⟩
def AV.cond (g:Bool) (x:AV):AV:=⟨λI v=>(g=true->x.h I v)/\(g=false->v=undef),λ_ _ _ hl h=>⟨λe=>x.up _ _ _ hl (h.1 e),h.2⟩⟩
def zq {α:Type}:∀(l:List (List α)) (sz:Nat),(∀r∈l,r.length=sz)->∀(i:Nat) (r:List α),l[i]?=some r->(l.flatten.drop (i*sz)).take sz=r
 |[],_,_,_,_,h=>by simp at h
 |x::xs,sz,U,0,r,h=>by
  simp at h;subst h;have:x.length=sz:=U x bt;simp[<-this]
 |x::xs,sz,U,i+1,r,h=>by
  have hx:x.length=sz:=U x bt;have:=zq xs sz (λr hr=>U r (by simp[hr])) i r (by simpa using h);rw[List.flatten_cons,show(i+1)*sz=x.length+i*sz from by rw[hx,Nat.succ_mul,Nat.add_comm],List.drop_append,List.drop_eq_nil_of_le om];simpa using this
def nth (l:List (List AV)) (i:Nat):List AV:=l.getD i []
def QQ {α:Type} [Inhabited α] (f:α->List AV) (l:List α) (i:Nat) (h:i<l.length):nth (l.map f) i=f (l[i]!):=by
 simp[nth,List.getD,h]
def Il {I:Im} {sz:Nat} {l:List (List AV)} {v:Value} (h:(AV.rows sz l).h I v) {i:Nat} (hi:i<l.length):
 ∃b off cap,v=.slice (some ⟨b,off,none⟩) l.length cap/\ky I ⟨b,off+i*sz,none⟩ (nth l i):=by
 obtain⟨p,cap,e,h1,h2,h3,h4,_⟩:=h;rcases h4 with h4|⟨⟨b,off,s⟩,hp,k⟩
 .subst h4;simp at hi
 obtain rfl:s=none:=k.1;refine⟨b,off,cap,by rw[e,hp],?_⟩;have hr:l[i]?=some (nth l i):=by simp[nth,hi]
 have:=(k.drop (i*sz)).take sz;rwa[zq l sz h3 i _ hr] at this
def dx (w:World) (I:Im):Prop:=∀b cs,I b=some cs->∃e fr,w.heap[b]?=some (.cells cs e fr)
def dx.lt {w:World} {I:Im} (h:dx w I) {b:Nat} {cs:Array Value} (e:I b=some cs):b<w.heap.size:=by
 obtain⟨_,_,k⟩:=h b cs e;exact(Array.getElem?_eq_some_iff.1 k).1
structure Step (I:Im) (w:World) (I':Im) (w':World):Prop where
 le:Im.le I I'
 fL:∀b,b<w.heap.size->I' b=I b
 cX:dx w' I'
 below:Below w.heap.size w w'
def Step.refl {I:Im} {w:World} (h:dx w I):Step I w I w:=⟨Im.le_refl I,λ_ _=>rfl,h,Below.refl _ _⟩
def Step.trans {I I' wK:Im} {w w' sG:World} (h:Step I w I' w') (k:Step I' w' wK sG):Step I w wK sG:=
 ⟨Im.le_trans h.le k.le,λb hb=>(k.fL b (Nat.lt_of_lt_of_le hb h.below.size)).trans (h.fL b hb),k.cX,h.below.trans (k.below.mono h.below.size)⟩
abbrev jD:Nat->Prop:=λ_=>False
structure Kept (F:Nat->Prop) (w w':World):Prop where
 os:w'.os=w.os
 tape:w'.tape=w.tape
 output:w'.output=w.output
 size:w.heap.size<=w'.heap.size
 block:∀k,k<w.heap.size->¬F k->w'.heap[k]?=w.heap[k]?
def Kept.refl (F:Nat->Prop) (w:World):Kept F w w:=⟨rfl,rfl,rfl,Nat.le_refl _,λ_ _ _=>rfl⟩
def Kept.drew {F:Nat->Prop} {a w:World} (h:Kept F a w):Kept F a w.drew:=⟨h.os,h.tape,h.output,h.size,h.block⟩
def Kept.all {w w':World} (h:Kept jD w w'):Below w.heap.size w w':=⟨h.os,h.tape,h.output,h.size,λk hk=>h.block k hk (λf=>f)⟩
structure eF (F:Nat->Prop) (I:Im) (w:World) (I':Im) (w':World):Prop where
 le:Im.le I I'
 fL:∀b,b<w.heap.size->¬F b->I' b=I b
 cX:dx w' I'
 below:Kept F w w'
def eF.refl {F:Nat->Prop} {I:Im} {w:World} (h:dx w I):eF F I w I w:=⟨Im.le_refl I,λ_ _ _=>rfl,h,Kept.refl _ _⟩
def eF.all {I I':Im} {w w':World} (h:eF jD I w I' w'):Step I w I' w':=⟨h.le,λb hb=>h.fL b hb (λf=>f),h.cX,h.below.all⟩
def eF.trans {F:Nat->Prop} {I I' wK:Im} {w w' sG:World} (h:eF F I w I' w') (k:Step I' w' wK sG):eF F I w wK sG:=
 ⟨Im.le_trans h.le k.le,λb hb hf=>(k.fL b (Nat.lt_of_lt_of_le hb h.below.size)).trans (h.fL b hb hf),k.cX,
  ⟨k.below.os.trans h.below.os,k.below.tape.trans h.below.tape,k.below.output.trans h.below.output,Nat.le_trans h.below.size k.below.size,
   λi hi hf=>(k.below.block i (Nat.lt_of_lt_of_le hi h.below.size)).trans (h.below.block i hi hf)⟩⟩
def dx.drew {w:World} {I:Im} (h:dx w I):dx w.drew I:=h
def Im.add (I:Im) (b:Nat) (cs:Array Value):Im:=λk=>if k=b then some cs else I k
def Im.wL {I:Im} {b:Nat} {cs:Array Value} (h:I b=none):Im.le I (I.add b cs):=λk ds e=>by
 unfold Im.add;split
 .subst k;rw[h] at e;cases e
 exact e
def dx.none {w:World} {I:Im} (h:dx w I) {b:Nat} (hb:w.heap.size<=b):I b=none:=by
 cases e:I b with
 |none=>rfl
 |some cs=>have:=h.lt e;omega
def ru (w:World) (o:Obj):(w.alloc o).heap[w.heap.size]?=some o:=by
 show(w.heap.push o)[w.heap.size]?=_;simp
def dx.wM {w:World} {I:Im} (h:dx w I) (cs:Array Value) (T:TypeId) (fr:Nat×Nat):dx (w.alloc (.cells cs T fr)) (I.add w.heap.size cs):=by
 intro b ds e;unfold Im.add at e;split at e
 .rename_i hb;subst hb;cases e;exact⟨T,fr,ru w _⟩
 obtain⟨e',CK,k⟩:=h b ds e;exact⟨e',CK,by rw[Below.heap_alloc w _ b (h.lt e)];exact k⟩
def Step.wM {w:World} {I:Im} (h:dx w I) (cs:Array Value) (T:TypeId) (fr:Nat×Nat):Step I w (I.add w.heap.size cs) (w.alloc (.cells cs T fr)):=
 ⟨Im.wL (h.none (Nat.le_refl _)),λb hb=>by unfold Im.add;rw[if_neg om],h.wM cs T fr,(Below.refl _ _).alloc (Nat.le_refl _) _⟩
def dx.alloc {w:World} {I:Im} (h:dx w I) (o:Obj):dx (w.alloc o) I:=λb ds e=>by
 obtain⟨e',CK,k⟩:=h b ds e;exact⟨e',CK,by rw[Below.heap_alloc w _ b (h.lt e)];exact k⟩
def Step.alloc {w:World} {I:Im} (h:dx w I) (o:Obj):Step I w I (w.alloc o):=
 ⟨Im.le_refl _,λ_ _=>rfl,h.alloc o,(Below.refl _ _).alloc (Nat.le_refl _) _⟩
def cell_of {w:World} {I:Im} (h:dx w I) {p:Addr} {l:List AV} (k:ky I p l) {i:Nat} {x:AV} (hx:l[i]?=some x):
 ∃c,w.cell? ⟨p.block,p.off+i,none⟩=some c/\x.h I c/\c.oneCell'=true:=by
 obtain⟨U,cs,e,hh⟩:=k;obtain⟨c,hc,CL⟩:=hh.get hx;obtain⟨T,fr,hw⟩:=h _ _ e;refine⟨c,?_,CL⟩;simp only[World.cell?,hw,Option.isSome_none,Bool.false_eq_true,if_false];rw[List.getElem?_take] at hc;split at hc
 .simpa using hc
 cases hc
structure Own where
 fh:Nat->Prop
 ok:Im->World->Prop
 jd:∀I I' w w',Im.le I I'->(∀b,fh b->w'.heap[b]?=w.heap[b]?)->ok I w->ok I' w'
def Own.box (b:Nat) (T:TypeId) (l:List AV):Own:=
 ⟨λk=>b=k,λI w=>∃cs,w.heap[b]?=some (.cells cs T (0,0))/\bm I l cs.toList,
  λ_ _ _ _ hl hb ⟨cs,e,h⟩=>⟨cs,(hb b rfl).trans e,h.up hl⟩⟩
def l3:Value->Option Nat
 |.slice (some a) _ cap=>if cap=0 then none else some a.block
 |_=>none
def sH (v:Value):Prop:=v=.slice none 0 0\/∃q:Addr,v=.slice (some q) 0 0/\q.spot=none
def Own.row (v:Value) (T:TypeId) (sz:Nat) (l:List (List AV)):Own:=
 ⟨λk=>l3 v=some k,λI w=>(∀r∈l,r.length=sz)/\((l=[]/\sH v)\/
  ∃b cap cur,v=.slice (some ⟨b,0,none⟩) l.length cap/\0<cap/\w.heap[b]?=some (.cells cur T (0,0))/\l.length<=cap/\cap<=maxLen/\cur.size=cap*sz/\bm I l.flatten (cur.toList.take (l.length*sz))),
  λI I' w w' hl hb ⟨hr,h⟩=>⟨hr,h.imp id λ⟨b,cap,cur,e,h0,h1,h2,h3,h4,h5⟩=>⟨b,cap,cur,e,h0,by
   rw[hb b (by rw[e];simp[l3];omega)];exact h1,h2,h3,h4,h5.up hl⟩⟩⟩
def uK {q:Addr} {n cap:Nat} (h:0<cap):l3 (.slice (some q) n cap)=some q.block:=if_neg om
def rv {v:Value} {T:TypeId} {sz:Nat} {l:List (List AV)} {b:Nat}:(Own.row v T sz l).fh b=(l3 v=some b):=rfl
def Io {q:Addr} {n cap sz:Nat} {T:TypeId} {l:List (List AV)} (h:0<cap):(Own.row (.slice (some q) n cap) T sz l).fh q.block:=uK (n:=n) h
def CM {q:Addr} {n cap sz:Nat} {T:TypeId} {l:List (List AV)} (h:0<cap) {b:Nat} (e:(Own.row (.slice (some q) n cap) T sz l).fh b):b=q.block:=by
 have e:l3 (.slice (some q) n cap)=some b:=e;rw[uK h] at e;injection e with e;exact e.symm
def kz (o p:Own):Prop:=∀b,o.fh b->p.fh b->False
structure bO (base:Nat->Prop) (I:Im) (w:World) (H:List Own):Prop where
 all:∀o∈H,o.ok I w/\∀b,o.fh b->base b/\I b=none/\b<w.heap.size
 apart:H.Pairwise kz
def bO.step {base:Nat->Prop} {I I':Im} {w w':World} {H:List Own} (h:bO base I w H) (s:Step I w I' w'):bO base I' w' H:=
 ⟨λo ho=>by
  obtain⟨h1,h2⟩:=h.all o ho;refine⟨o.jd I I' w w' s.le (λb hb=>s.below.block b (h2 b hb).2.2) h1,λb hb=>?_⟩;obtain⟨k1,k2,k3⟩:=h2 b hb;exact⟨k1,(s.fL b k3).trans k2,Nat.lt_of_lt_of_le k3 s.below.size⟩,h.apart⟩
def bO.nil (base:Nat->Prop) (I:Im) (w:World):bO base I w []:=⟨λ_ h=>by simp at h,List.Pairwise.nil⟩
abbrev Env:=List (Nat×AV)
def Env.get (t:Nat):Env->Option AV
 |[]=>none
 |p::r=>bif Nat.beq p.1 t then some p.2 else Env.get t r
def cM (I:Im) (a:Act) (Γ:Env):Prop:=∀t x,Env.get t Γ=some x->x.h I (a.tmps.getD t undef)
def cM.up {I J:Im} {a:Act} {Γ:Env} (hl:Im.le I J) (h:cM I a Γ):cM J a Γ:=λt x e=>x.up _ _ _ hl (h t x e)
def cM.put {I:Im} {a:Act} {Γ:Env} (h:cM I a Γ) {d:Nat} (hd:d<a.tmps.size) {x:AV} {v:Value} (hx:x.h I v):cM I (a.put (some d) v) ((d,x)::Γ):=by
 intro t y e;simp only[Env.get] at e;cases hb:Nat.beq d t with
 |true=>
  rw[hb] at e;simp at e
  obtain rfl:d=t:=Nat.eq_of_beq_eq_true hb
  subst e
  simpa[Act.put,hd] using hx
 |false=>
  rw[hb] at e;simp at e
  have bH:d≠t:=λhh=>by subst hh;simp at hb
  have:=h t y e
  simpa[Act.put,bH] using this
structure Ctx where
 W:World
 I:Im
 n:Nat
 F:Nat->Prop
def Ctx.own (c:Ctx) (b:Nat):Prop:=c.W.heap.size<=b\/c.F b
structure St (c:Ctx) (I:Im) (H:List Own) (Γ:Env) (a:Act) (w:World):Prop where
 step:eF c.F c.I c.W I w
 own:bO c.own I w H
 env:cM I a Γ
 size:a.tmps.size=c.n
 defers:a.defers=[]
def At (Γ:Env) (g:Bool) (o:Operand) (x:AV):Prop:=∀I a,cM I a Γ->g=true->x.h I (a.eval o)
def At.t {Γ:Env} {g:Bool} {t:Nat} {x:AV} (h:Env.get t Γ=some x):At Γ g (.tmp t) x:=λ_ _ he _=>he t x h
def At.g {Γ:Env} {g g':Bool} {t:Nat} {x:AV} (h:Env.get t Γ=some (AV.cond g' x)) (hg:g=true->g'=true):At Γ g (.tmp t) x:=λ_ _ he e=>(he t _ h).1 (hg e)
def At.c {Γ:Env} {g:Bool} {v:Value}:At Γ g (.const v) (AV.val v):=λ_ _ _ _=>rfl
def At.f {Γ:Env} {g:Bool} {f:FuncId}:At Γ g (.func f) (AV.val (.func (.func f) #[] #[])):=λ_ _ _ _=>rfl
def Ok (P:Program) (H:List Own) (Γ:Env) (g:Bool) (o:Oper) (x:AV):Prop:=
 ∀(base:Nat->Prop) (I:Im) (a:Act) (w:World) (K:Act->World->Prop) (Q:Exit->Act->World->Prop),cM I a Γ->dx w I->bO base I w H->g=true->
  (∀v I' w',x.h I' v->Step I w I' w'->K (a.put o.dst v) w')->o.wp P a w K Q
section
variable {P:Program} {c:Ctx} {I:Im} {H:List Own} {Γ:Env} {a:Act} {w:World} {Q:Exit->Act->World->Prop} {ops:Array Oper} {rest:List Oper}
def St.put {I':Im} {w':World} (U:St c I H Γ a w) {d:Nat} (hd:d<c.n) {x:AV} {v:Value} (hx:x.h I' v) (s:Step I w I' w'):St c I' H ((d,x)::Γ) (a.put (some d) v) w':=
 ⟨U.step.trans s,U.own.step s,(U.env.up s.le).put (by rw[U.size];exact hd) hx,by simp[Act.put,U.size],U.defers⟩
def St.room (U:St c I H Γ a w):c.own w.heap.size:=.inl U.step.below.size
def St.op {o:Oper} {d:Nat} {x:AV} (U:St c I H Γ a w) (hg:o.guard=none) (ho:o.dst=some d) (hd:Nat.blt d c.n=true) (ok:Ok P H Γ true o x)
 (k:∀I' a' w',St c I' H ((d,x)::Γ) a' w'->wpList P ops Q rest a' w'):wpList P ops Q (o::rest) a w:=by
 unfold wpList;rw[if_pos (by simp[Region.wanted,hg])];refine .inl (ok c.own I a w _ _ U.env U.step.cX U.own rfl λv I' w' hx s=>k I' _ w' ?_);rw[ho];exact U.put (by simpa using hd) hx s
end
section
variable {P:Program} {H:List Own} {Γ:Env} {g:Bool}
def fY {o:Oper} {x:AV}
 (h:∀(base:Nat->Prop) I a w,cM I a Γ->dx w I->bO base I w H->g=true->∃v,(execOp a.eval o).run P w=.ok (.value v) w/\x.h I v):Ok P H Γ g o x:=
 λbase I a w K Q he hm hw hg k=>by
  obtain⟨v,hr,hx⟩:=h base I a w he hm hw hg;unfold Oper.wp;rw[hr];exact k v I w hx (Step.refl hm)
def gr {o:Oper} {v:Value}
 (h:∀I a w,cM I a Γ->g=true->(execOp a.eval o).run P w=.ok (.value v) w):Ok P H Γ g o (.val v):=
 fY λ_ I a w he _ _ hg=>⟨v,h I a w he hg,rfl⟩
def wN {d:Option Tmp} {y:Operand} {ty:TypeId} {p:String} {af:Array Edge} {gd:Option (Nat×Bool)} {x:AV} (h:At Γ g y x):
 Ok P H Γ g ⟨d,.move y,ty,p,af,gd⟩ x:=
 fY λ_ I a w he _ _ hg=>⟨_,rfl,h I a he hg⟩
def uL {d:Option Tmp} {y:Operand} {ty:TypeId} {p:String} {af:Array Edge} {gd:Option (Nat×Bool)} {x:AV} (h:At Γ g y x):
 Ok P H Γ g ⟨d,.assign y,ty,p,af,gd⟩ x:=
 fY λ_ I a w he _ _ hg=>⟨_,rfl,h I a he hg⟩
def QR {d:Option Tmp} {cc aa bb:Operand} {ty:TypeId} {p:String} {af:Array Edge} {gd:Option (Nat×Bool)} {b x:Bool}
 (hc:At Γ g cc (.bool b)) (ha:At Γ g aa (.cond b (.bool x))) (hb:At Γ g bb (.bool false)):
 Ok P H Γ g ⟨d,.pick cc aa bb,ty,p,af,gd⟩ (.bool (b&&x)):=by
 refine gr λI a w he hg=>?_;have h1:a.eval cc=.bool b:=hc I a he hg;have h3:a.eval bb=.bool false:=hb I a he hg;have h2:=ha I a he hg;cases b
 .simp[execOp,h1,h3,asBool,Sem.run_bind]
 have CN:a.eval aa=.bool x:=h2.1 rfl;simp[execOp,h1,CN,asBool,Sem.run_bind]
def QS {d:Option Tmp} {cc aa bb:Operand} {ty:TypeId} {p:String} {af:Array Edge} {gd:Option (Nat×Bool)} {b x:Bool}
 (hc:At Γ g cc (.bool b)) (ha:At Γ g aa (.bool true)) (hb:At Γ g bb (.cond (!b) (.bool x))):
 Ok P H Γ g ⟨d,.pick cc aa bb,ty,p,af,gd⟩ (.bool (b||x)):=by
 refine gr λI a w he hg=>?_;have h1:a.eval cc=.bool b:=hc I a he hg;have h3:a.eval aa=.bool true:=ha I a he hg;have h2:=hb I a he hg;cases b
 .have CN:a.eval bb=.bool x:=h2.1 rfl;simp[execOp,h1,CN,asBool,Sem.run_bind]
 simp[execOp,h1,h3,asBool,Sem.run_bind]
variable {d:Option Tmp} {y z:Operand} {ty T T':TypeId} {p:String} {af:Array Edge} {gd:Option (Nat×Bool)}
def Ip {b:Bool} (h:At Γ g y (.bool b)):Ok P H Γ g ⟨d,.unOp .not T y,ty,p,af,gd⟩ (.bool (!b)):=
 gr λI a w he hg=>by have h1:a.eval y=.bool b:=h I a he hg;simp only[execOp,h1];simp[go_sem]
def jW {m n:Int} (hy:At Γ g y (.int m)) (hz:At Γ g z (.int n)) (hb:g=true->-9223372036854775808<=m+n/\m+n<=9223372036854775807):
 Ok P H Γ g ⟨d,.binOp .add T y z T',ty,p,af,gd⟩ (.int (m+n)):=
 gr λI a w he hg=>by
  have h1:a.eval y=.int .i64 m:=hy I a he hg;have h2:a.eval z=.int .i64 n:=hz I a he hg;have h3:IntKind.i64.wrap (m+n)=m+n:=IntWalk.i64_in _ (hb hg);simp only[execOp,h1,h2];simp[go_sem,eqGuard,binOp,Op.intArith,h3]
def Iq {m n:Int} (hy:At Γ g y (.int m)) (hz:At Γ g z (.int n)) (hb:g=true->-9223372036854775808<=m-n/\m-n<=9223372036854775807):
 Ok P H Γ g ⟨d,.binOp .sub T y z T',ty,p,af,gd⟩ (.int (m-n)):=
 gr λI a w he hg=>by
  have h1:a.eval y=.int .i64 m:=hy I a he hg;have h2:a.eval z=.int .i64 n:=hz I a he hg;have h3:IntKind.i64.wrap (m-n)=m-n:=IntWalk.i64_in _ (hb hg);simp only[execOp,h1,h2];simp[go_sem,eqGuard,binOp,Op.intArith,h3]
def mS {m n:Int} (hy:At Γ g y (.int m)) (hz:At Γ g z (.int n)) (hb:g=true->-9223372036854775808<=m*n/\m*n<=9223372036854775807):
 Ok P H Γ g ⟨d,.binOp .mul T y z T',ty,p,af,gd⟩ (.int (m*n)):=
 gr λI a w he hg=>by
  have h1:a.eval y=.int .i64 m:=hy I a he hg;have h2:a.eval z=.int .i64 n:=hz I a he hg;have h3:IntKind.i64.wrap (m*n)=m*n:=IntWalk.i64_in _ (hb hg);simp only[execOp,h1,h2];simp[go_sem,eqGuard,binOp,Op.intArith,h3]
def Ir {m n:Int} (hy:At Γ g y (.int m)) (hz:At Γ g z (.int n)):
 Ok P H Γ g ⟨d,.binOp .lss T y z T',ty,p,af,gd⟩ (.bool (decide (m<n))):=
 gr λI a w he hg=>by
  have h1:a.eval y=.int .i64 m:=hy I a he hg;have h2:a.eval z=.int .i64 n:=hz I a he hg;simp only[execOp,h1,h2];simp[go_sem,eqGuard,binOp,Op.intCmp]
def Is {m n:Int} (hy:At Γ g y (.int m)) (hz:At Γ g z (.int n)):
 Ok P H Γ g ⟨d,.binOp .leq T y z T',ty,p,af,gd⟩ (.bool (decide (m<=n))):=
 gr λI a w he hg=>by
  have h1:a.eval y=.int .i64 m:=hy I a he hg;have h2:a.eval z=.int .i64 n:=hz I a he hg;simp only[execOp,h1,h2];simp[go_sem,eqGuard,binOp,Op.intCmp]
def It {m n:Int} (hy:At Γ g y (.int m)) (hz:At Γ g z (.int n)):
 Ok P H Γ g ⟨d,.binOp .gtr T y z T',ty,p,af,gd⟩ (.bool (decide (n<m))):=
 gr λI a w he hg=>by
  have h1:a.eval y=.int .i64 m:=hy I a he hg;have h2:a.eval z=.int .i64 n:=hz I a he hg;simp only[execOp,h1,h2];simp[go_sem,eqGuard,binOp,Op.intCmp]
def Iu {m n:Int} (hy:At Γ g y (.int m)) (hz:At Γ g z (.int n)):
 Ok P H Γ g ⟨d,.binOp .geq T y z T',ty,p,af,gd⟩ (.bool (decide (n<=m))):=
 gr λI a w he hg=>by
  have h1:a.eval y=.int .i64 m:=hy I a he hg;have h2:a.eval z=.int .i64 n:=hz I a he hg;simp only[execOp,h1,h2];simp[go_sem,eqGuard,binOp,Op.intCmp]
def QT {m n:Int} (hy:At Γ g y (.int m)) (hz:At Γ g z (.int n)):
 Ok P H Γ g ⟨d,.binOp .eql T y z T',ty,p,af,gd⟩ (.bool (m==n)):=
 gr λI a w he hg=>by
  have h1:a.eval y=.int .i64 m:=hy I a he hg;have h2:a.eval z=.int .i64 n:=hz I a he hg;simp only[execOp,h1,h2];simp[go_sem,eqGuard,binOp,Op.intCmp]
def QU {m n:Int} (hy:At Γ g y (.int m)) (hz:At Γ g z (.int n)):
 Ok P H Γ g ⟨d,.binOp .neq T y z T',ty,p,af,gd⟩ (.bool (m !=n)):=
 gr λI a w he hg=>by
  have h1:a.eval y=.int .i64 m:=hy I a he hg;have h2:a.eval z=.int .i64 n:=hz I a he hg;simp only[execOp,h1,h2];simp[go_sem,eqGuard,binOp,Op.intCmp]
def QV {m n:Int} (hy:At Γ g y (.int m)) (hz:At Γ g z (.int n)):Ok P H Γ g ⟨d,.binOp .sub T y z T',ty,p,af,gd⟩ (.int (IntKind.i64.wrap (m-n))):=
 gr λI a w he hg=>by
  have h1:a.eval y=.int .i64 m:=hy I a he hg;have h2:a.eval z=.int .i64 n:=hz I a he hg;simp only[execOp,h1,h2];simp[go_sem,eqGuard,binOp,Op.intArith]
end
structure Ty (P:Program) (T:TypeId) (ag:Bool) (n bytes:Nat) (z:Value):Prop where
 ag:((P.underlying T).map λd=>match d with|.struct _=>true|.array _ _=>true|_=>false)=some ag
 info:((P.info? T).map λi=>(i.size,i.bytes,i.zero))=some (n,bytes,some z)
section
variable {P:Program} {w:World} {T:TypeId} {n m:Nat} {z:Value}
def Ty.get {ag:Bool} (h:Ty P T ag n m z):∃i,P.info? T=some i/\i.size=n/\i.bytes=m/\i.zero=some z:=by
 have:=h.info;cases hi:P.info? T with
 |none=>rw[hi] at this;simp at this
 |some i=>rw[hi] at this;simp at this;exact⟨i,rfl,this.1,this.2.1,this.2.2⟩
def Ty.size {ag:Bool} (h:Ty P T ag n m z):(sizeOf T).run P w=.ok n w:=by
 obtain⟨i,hi,h1,_⟩:=h.get;simp[sizeOf,typeInfo,hi,h1]
def Ty.zero {ag:Bool} (h:Ty P T ag n m z):(zeroValue T).run P w=.ok z w:=by
 obtain⟨i,hi,_,_,h1⟩:=h.get;simp[zeroValue,typeInfo,hi,h1]
def Ty.isAgg {ag:Bool} (h:Ty P T ag n m z):(isAgg T).run P w=.ok ag w:=by
 have:=h.ag;cases hi:P.underlying T with
 |none=>rw[hi] at this;simp at this
 |some d=>
  rw[hi] at this;simp at this
  subst this
  cases d<;>simp[Go.isAgg,run_underlying hi]
def wO (h:Ty P T false n m z) {p:Addr} {v:Value} (hc:w.cell? p=some v):(loadVar T p).run P w=.ok v w:=by
 simp only[loadVar,Sem.run_bind,h.isAgg,Result.andThen_ok];simp[hc]
def wP (h:Ty P T true n m z) {p:Addr} {cs:List Value} (hn:cs.length=n) (hc:∀j v,cs[j]?=some v->w.cell? (p.add j)=some v):
 (loadVar T p).run P w=.ok (.agg cs.toArray) w:=by
 subst hn;simp only[loadVar,Sem.run_bind,h.isAgg,Result.andThen_ok,if_true,h.size,run_loadCells_list w p cs hc];rfl
end
def add_plain (b o j:Nat):(⟨b,o,none⟩:Addr).add j=⟨b,o+j,none⟩:=by unfold Addr.add;split<;>simp_all
section
variable {P:Program} {H:List Own} {Γ:Env} {g:Bool} {d:Option Tmp} {y z:Operand} {ty T T' E:TypeId} {p:String} {af:Array Edge} {gd:Option (Nat×Bool)} {n m o:Nat} {zv:Value}
def ky.toArray {I:Im} {q:Addr} {l:List AV} (k:ky I q l) {w:World} (hm:dx w I):
 ∃cs:List Value,cs.length=l.length/\bm I l cs/\∀j v,cs[j]?=some v->w.cell? (q.add j)=some v:=by
 obtain⟨U,cs,e,hh⟩:=k;refine⟨_,hh.length,hh,λj v hv=>?_⟩;obtain⟨T,fr,hw⟩:=hm _ _ e;obtain⟨b,off,s⟩:=q;obtain rfl:s=none:=U;rw[add_plain];simp only[World.cell?,hw,Option.isSome_none,Bool.false_eq_true,if_false];rw[List.getElem?_take] at hv;split at hv
 .simpa using hv
 cases hv
def Iv {x:AV} {l:List AV} (hT:Ty P T false n m zv) (h:At Γ g y (.ptr (x::l))):Ok P H Γ g ⟨d,.load T y,ty,p,af,gd⟩ x:=
 fY λ_ I a w he hm _ hg=>by
  obtain⟨q,e,k⟩:=h I a he hg;obtain⟨c,hc,hx,_⟩:=cell_of hm k (i:=0) (x:=x) rfl;obtain⟨b,off,s⟩:=q;obtain rfl:s=none:=k.1;refine⟨c,?_,hx⟩;have QW:w.cell? ⟨b,off,none⟩=some c:=hc;simp only[execOp,e,Instr.loadAt,Instr.sureAddr,Sem.run_bind,Sem.run_pure,Result.andThen_ok,wO hT QW]
def Iw {l:List AV} (hT:Ty P T true n m zv) (h:At Γ g y (.ptr l)) (hn:Nat.ble n l.length=true):Ok P H Γ g ⟨d,.load T y,ty,p,af,gd⟩ (.agg (l.take n)):=
 fY λ_ I a w he hm _ hg=>by
  obtain⟨q,e,k⟩:=h I a he hg;obtain⟨cs,h1,h2,h3⟩:=(k.take n).toArray hm;have hn':n<=l.length:=Nat.le_of_ble_eq_true hn;refine⟨.agg cs.toArray,?_,cs.toArray,rfl,by simpa using h2⟩;have h4:cs.length=n:=by rw[h1,List.length_take];omega
  simp only[execOp,e,Instr.loadAt,Instr.sureAddr,Sem.run_bind,Sem.run_pure,Result.andThen_ok,wP hT h4 h3]
def QX {l:List AV} (hT:Ty P T true n m zv) (h:At Γ g y (.ptr l)) (hn:l.length=n):Ok P H Γ g ⟨d,.load T y,ty,p,af,gd⟩ (.agg l):=by
 have:=Iw (H:=H) (d:=d) (ty:=ty) (p:=p) (af:=af) (gd:=gd) hT h (by rw[hn];simp);rwa[List.take_of_length_le om] at this
def be (P:Program) (T:TypeId) (f:Nat) (off size:Nat):Prop:=
 ((P.underlying T).bind λdd=>match dd with|.struct fs=>(fs[f]?).map λx=>(x.offset,(P.info? x.type).map (·.size))|_=>none)=some (off,some size)
def be.get {f off size:Nat} (h:be P T f off size):∃fs x i,P.underlying T=some (.struct fs)/\fs[f]?=some x/\x.offset=off/\P.info? x.type=some i/\i.size=size:=by
 unfold be at h;cases hu:P.underlying T with
 |none=>rw[hu] at h;simp at h
 |some dd=>
  rw[hu] at h
  cases dd<;>simp at h
  rename_i fs
  obtain⟨x,h1,h2,h3⟩:=h
  obtain⟨i,hi,U⟩:=h3
  exact⟨fs,x,i,rfl,h1,h2,hi,U⟩
def Ix {w:World} {f off size:Nat} (h:be P T f off size) (U:0<size) (b o:Nat):
 (Instr.fieldAt T (.pointer (some ⟨b,o,none⟩)) f).run P w=.ok (.pointer (some ⟨b,o+off,none⟩)) w:=by
 obtain⟨fs,x,i,h1,h2,h3,h4,h5⟩:=h.get;have h6:(sizeOf x.type).run P w=.ok size w:=by simp[sizeOf,typeInfo,h4,h5]
 simp only[Instr.fieldAt,Sem.run_bind,run_underlying h1,Result.andThen_ok,h2,Instr.sureAddr,Sem.run_pure,fieldPlace,h6];rw[if_neg om];simp[h3,add_plain]
def Iy {f size:Nat} {l:List AV} (hf:be P T f o size) (U:Nat.blt 0 size=true) (h:At Γ g y (.ptr l)):Ok P H Γ g ⟨d,.fieldAddr T y f,ty,p,af,gd⟩ (.ptr (l.drop o)):=
 fY λ_ I a w he hm _ hg=>by
  obtain⟨q,e,k⟩:=h I a he hg;obtain⟨b,off,s⟩:=q;obtain rfl:s=none:=k.1;refine⟨_,?_,⟨b,off+o,none⟩,rfl,k.drop o⟩;simp only[execOp,e,Sem.run_bind,Ix hf (by simpa using U) b off,Result.andThen_ok];rfl
def Iz {f size b q:Nat} (hf:be P T f o size) (U:Nat.blt 0 size=true) (h:At Γ g y (.val (.pointer (some ⟨b,q,none⟩)))):Ok P H Γ g ⟨d,.fieldAddr T y f,ty,p,af,gd⟩ (.val (.pointer (some ⟨b,q+o,none⟩))):=
 gr λI a w he hg=>by
  have e:a.eval y=_:=h I a he hg;simp only[execOp,e,Sem.run_bind,Ix hf (by simpa using U) b q,Result.andThen_ok];rfl
def IA {b q:Nat} {x:AV} {l:List AV} (k:Nat) (hT:Ty P T false n m zv) (h:At Γ g y (.val (.pointer (some ⟨b,q,none⟩)))) (hH:H[k]?=some (Own.box b T' l)) (hx:l[q]?=some x):
 Ok P H Γ g ⟨d,.load T y,ty,p,af,gd⟩ x:=
 fY λbase I a w he hm hw hg=>by
  have e:a.eval y=_:=h I a he hg;obtain⟨cs,hb,hl⟩:=(hw.all _ (List.mem_of_getElem? hH)).1;obtain⟨c,hc,CL,_⟩:=hl.get hx;refine⟨c,?_,CL⟩;have uM:w.cell? ⟨b,q,none⟩=some c:=by simp only[World.cell?,hb];simpa using hc
  simp only[execOp,e,Instr.loadAt,Instr.sureAddr,Sem.run_bind,Sem.run_pure,Result.andThen_ok,wO hT uM]
def zs {b q:Nat} {l l':List AV} (k:Nat) (hT:Ty P T true n m zv) (h:At Γ g y (.val (.pointer (some ⟨b,q,none⟩)))) (hH:H[k]?=some (Own.box b T' l)) (hx:(l.drop q).take n=l') (hn:l'.length=n):
 Ok P H Γ g ⟨d,.load T y,ty,p,af,gd⟩ (.agg l'):=
 fY λbase I a w he hm hw hg=>by
  have e:a.eval y=_:=h I a he hg;obtain⟨cs,hb,hl⟩:=(hw.all _ (List.mem_of_getElem? hH)).1;have pb:=(hl.drop q).take n;rw[hx] at pb;refine⟨.agg ((cs.toList.drop q).take n).toArray,?_,_,rfl,by simpa using pb⟩;have h4:((cs.toList.drop q).take n).length=n:=by rw[pb.length,hn]
  have h3:∀j v,((cs.toList.drop q).take n)[j]?=some v->w.cell? ((⟨b,q,none⟩:Addr).add j)=some v:=λj v hv=>by
   rw[add_plain];simp only[World.cell?,hb,Option.isSome_none,Bool.false_eq_true,if_false];rw[List.getElem?_take] at hv;split at hv
   .simpa using hv
   cases hv
  simp only[execOp,e,Instr.loadAt,Instr.sureAddr,Sem.run_bind,Sem.run_pure,Result.andThen_ok,wP hT h4 h3]
def wQ {s:Nat} {l:List (List AV)} (hT:P.underlying T=some (.slice E)) (h:At Γ g y (.rows s l)):Ok P H Γ g ⟨d,.call ⟨.builtin .len,#[y],#[T]⟩,ty,p,af,gd⟩ (.int l.length):=
 gr λI a w he hg=>by
  obtain⟨q,cap,e,_⟩:=h I a he hg;simp only[execOp,resolve,List.map_toArray,List.map_cons,List.map_nil,e];simp[go_sem,Builtin.len_,run_underlying hT]
def QY {q:Option Addr} {k cap:Nat} (hT:P.underlying T=some (.slice E)) (h:At Γ g y (.val (.slice q k cap))):Ok P H Γ g ⟨d,.call ⟨.builtin .len,#[y],#[T]⟩,ty,p,af,gd⟩ (.int k):=
 gr λI a w he hg=>by
  have e:a.eval y=_:=h I a he hg;simp only[execOp,resolve,List.map_toArray,List.map_cons,List.map_nil,e];simp[go_sem,Builtin.len_,run_underlying hT]
def eM {s:Nat} {ag:Bool} {l:List (List AV)} {i:Int} (hT:P.underlying T=some (.slice E)) (hE:Ty P E ag s m zv) (h:At Γ g y (.rows s l)) (hi:At Γ g z (.int i)) (hb:g=true->0<=i/\i<l.length):
 Ok P H Γ g ⟨d,.indexAddr T y z,ty,p,af,gd⟩ (.ptr (nth l i.toNat)):=
 fY λ_ I a w he hm _ hg=>by
  obtain⟨h0,h1⟩:=hb hg;have e2:a.eval z=_:=hi I a he hg;obtain⟨b,off,cap,e,k⟩:=Il (h I a he hg) (i:=i.toNat) om;refine⟨_,?_,_,rfl,k⟩;have U:(sizeOf E).run P w=.ok s w:=hE.size;simp only[execOp,e,e2,Instr.indexAt,asIntOf,Sem.run_bind,Sem.run_pure,Result.andThen_ok,run_underlying hT];simp[h0,h1,add_plain,U]
end
def uN (I:Im) (w:World) (res:AV):Ending->World->Prop
 |.returned v,w'=>∃I',Step I w I' w'/\res.h I' v
 |_,_=>False
def sI (F:Nat->Prop) (I:Im) (w:World) (res:AV):Ending->World->Prop
 |.returned v,w'=>∃I',eF F I w I' w'/\res.h I' v
 |_,_=>False
def sI.all {I:Im} {w:World} {res:AV} {e:Ending} {w':World} (h:sI jD I w res e w'):uN I w res e w':=by
 cases e with
 |returned v=>obtain⟨I',h1,h2⟩:=h;exact⟨I',h1.all,h2⟩
 |panicked _=>exact h.elim
 |outgrown=>exact h.elim
def nG (P:Program) (f:FuncId):Prop:=∀vs w,(callFunc f vs).run P w=.ok (.enter f vs) w
def nG.of {P:Program} {f:FuncId} {fn:Func} {code:Code} (hf:P.funcs[f]?=some fn) (hb:fn.body=some code) (hn:(fn.name== "runtime.NumGoroutine")=false):nG P f:=λvs w=>by
 have uO:¬fn.name= "runtime.NumGoroutine" :=by simpa using hn
 simp[callFunc,hf,uO,hb]
def Fn (P:Program) (f:FuncId) (args:List AV) (res:AV):Prop:=
 nG P f/\∀(I:Im) (w:World) (vs:Array Value),dx w I->cP I args vs.toList->Calls P f vs w (uN I w res)
def ke (k:Nat):List AV->Env
 |[]=>[]
 |x::r=>(k,x)::ke (k+1) r
def wR {I:Im}:∀(l:List AV) (vs:List Value) (pre post:List Value),cP I l vs->
 ∀t x,Env.get t (ke pre.length l)=some x->x.h I ((pre++vs++post).toArray.getD t undef)
 |[],_,_,_,_,t,x,e=>by simp[ke,Env.get] at e
 |y::l,[],_,_,h,_,_,_=>h.elim
 |y::l,v::vs,pre,post,h,t,x,e=>by
  simp only[ke,Env.get] at e;cases hb:Nat.beq pre.length t with
  |true=>
   rw[hb] at e;simp at e
   obtain rfl:pre.length=t:=Nat.eq_of_beq_eq_true hb
   subst e
   simpa using h.1
  |false=>
   rw[hb] at e
   have:=wR l vs (pre++[v]) post h.2 t x (by simpa using e)
   simpa using this
def At.gc {Γ:Env} {g g' b:Bool} {t:Nat} {x:AV} (h:Env.get t Γ=some (AV.cond (g'&&b) x)) (hg:g=true->g'=true):At Γ g (.tmp t) (AV.cond b x):=λ_ _ he e=>by
 have:=he t _ h;rw[hg e,Bool.true_and] at this;exact this
section
variable {P:Program} {c:Ctx} {I:Im} {H:List Own} {Γ:Env} {a:Act} {w:World} {Q:Exit->Act->World->Prop}
def Fn.intro {f:FuncId} {fn:Func} {code:Code} {args:List AV} {res:AV} (N:Nat) (hf:P.funcs[f]?=some fn) (hb:fn.body=some code) (hn:fn.ntmps=N) (hN:Nat.ble args.length N=true) (l4:(fn.name== "runtime.NumGoroutine")=false)
 (h:∀(W:World) (I:Im) (a:Act),St ⟨W,I,N,jD⟩ I [] (ke 0 args) a W->code.wp P (bodyPost P fn (sI jD I W res)) a W):Fn P f args res:=by
 refine⟨nG.of hf hb l4,λI w vs hm ha=>?_⟩;refine Calls.mono (R:=sI jD I w res) (calls_of_wp hf hb ?_) λe w' he=>he.all;have hl:vs.size=args.length:=by simpa using ha.length
 have QZ:args.length<=N:=Nat.le_of_ble_eq_true hN;refine h w I _ ⟨eF.refl hm,bO.nil _ _ _,?_,?_,rfl⟩
 .intro t x e;have:=wR args vs.toList [] (List.replicate (fn.ntmps-vs.size) undef) ha t x e;have heq:(vs++Array.replicate (fn.ntmps-vs.size) undef)=([]++vs.toList++List.replicate (fn.ntmps-vs.size) undef).toArray:=by
   apply Array.toList_inj.1;simp
  rw[heq];exact this
 simp[hn,hl];omega
def Fn.cast {f:FuncId} {args IB:List AV} {res mT:AV} (h:Fn P f args res) (e:args=IB) (e':res=mT):Fn P f IB mT:=e▸e'▸h
def cq {g:Bool} {d:Option Tmp} {f:FuncId} {ys:Array Operand} {ts:Array TypeId} {ty:TypeId} {p:String} {af:Array Edge} {gd:Option (Nat×Bool)} {xs:List AV} {res:AV}
 (hf:Fn P f xs res) (h:∀I a,cM I a Γ->g=true->cP I xs (ys.map a.eval).toList):Ok P H Γ g ⟨d,.call ⟨.value (.func f),ys,ts⟩,ty,p,af,gd⟩ res:=
 λbase I a w K Q he hm hw hg k=>by
  have hc:=hf.2 I w (ys.map a.eval) hm (h I a he hg);unfold Oper.wp;have hr:(execOp a.eval (⟨d,.call ⟨.value (.func f),ys,ts⟩,ty,p,af,gd⟩:Oper)).run P w=.ok (.enter f (ys.map a.eval)) w:=by
   simp only[execOp,resolve,Act.eval];simp[go_sem,hf.1 _ w]
  rw[hr,Oper.upon_enter];refine Calls.mono hc λe w' he=>?_;cases e with
  |returned v=>obtain⟨I',U,hx⟩:=he;exact k v I' w' hx U
  |panicked _=>exact he.elim
  |outgrown=>exact he.elim
def aB {g:Bool}:∀I a,cM I a Γ->g=true->cP I [] ((#[]:Array Operand).map a.eval).toList:=λ_ _ _ _=>by simp[cP]
def ai {g:Bool} {y:Operand} {ys:List Operand} {x:AV} {xs:List AV} (h:At Γ g y x) (k:∀I a,cM I a Γ->g=true->cP I xs (ys.toArray.map a.eval).toList):
 ∀I a,cM I a Γ->g=true->cP I (x::xs) ((y::ys).toArray.map a.eval).toList:=λI a he hg=>by
 have:=k I a he hg;simp only[List.map_toArray,List.map_cons] at this⊢;exact⟨h I a he hg,this⟩
def ba {N:Act->World->Prop} (h:N a w):Exit.then N Q .normal a w:=h
def cm {N:Act->World->Prop} {i:Nat} (h:Q (.exit i) a w):Exit.then N Q (.exit i) a w:=h
def uP {N:Act->World->Prop} (h:Q .ret a w):Exit.then N Q .ret a w:=h
def wS {i:Nat} (h:Q .normal a w):Exit.inBlock i Q .normal a w:=h
def sJ {i:Nat} (h:Q .ret a w):Exit.inBlock i Q .ret a w:=h
def dS {i:Nat} (h:Q .normal a w):Exit.inBlock i Q (.exit i) a w:=by simp only[Exit.inBlock,if_true];exact h
def Q0 {i j:Nat} (bH:Nat.beq j i=false) (h:Q (.exit j) a w):Exit.inBlock i Q (.exit j) a w:=by
 have:j≠i:=λe=>by subst e;simp at bH
 simp only[Exit.inBlock,if_neg this];exact h
def St.cond {cc:Operand} {t e:Code} {b:Bool} (U:St c I H Γ a w) (hc:At Γ true cc (.bool b)) (h1:b=true->t.wp P Q a w) (h2:b=false->e.wp P Q a w):(Code.cond cc t e).wp P Q a w:=
 wp_cond_split (hc I a U.env rfl) h1 h2
def Env.mU (ms:List Nat) (Γ:Env):Env:=Γ.filter λp=>!ms.contains p.1
def Env.CO {ms:List Nat} {t:Nat} {x:AV}:∀{Γ:Env},Env.get t (Env.mU ms Γ)=some x->Env.get t Γ=some x/\ms.contains t=false
 |[],h=>by simp[Env.mU,Env.get] at h
 |p::r,h=>by
  have ih:=λk=>Env.CO (ms:=ms) (t:=t) (x:=x) (Γ:=r) k;unfold Env.mU at h ih;rw[List.filter_cons] at h;cases hm:ms.contains p.1 with
  |true=>
   rw[hm] at h
   have:=ih (by simpa using h)
   refine⟨?_,this.2⟩
   simp only[Env.get]
   cases hb:Nat.beq p.1 t with
   |true=>
    obtain rfl:p.1=t:=Nat.eq_of_beq_eq_true hb
    rw[this.2] at hm;cases hm
   |false=>simpa using this.1
  |false=>
   rw[hm] at h
   simp only[Bool.not_false,if_true,Env.get] at h⊢
   cases hb:Nat.beq p.1 t with
   |true=>
    rw[hb] at h
    obtain rfl:p.1=t:=Nat.eq_of_beq_eq_true hb
    exact⟨h,hm⟩
   |false=>
    rw[hb] at h
    exact ih h
def Env.le (Γ' Γ:Env):Prop:=∀t x,Env.get t Γ'=some x->Env.get t Γ=some x
def Env.le_nil {Γ:Env}:Env.le [] Γ:=λ_ _ h=>by simp[Env.get] at h
def Env.Q1 {Γ Γ':Env} {t:Nat} {x:AV} (hx:Env.get t Γ=some x) (h:Env.le Γ' Γ):Env.le ((t,x)::Γ') Γ:=λs y e=>by
 simp only[Env.get] at e;cases hb:Nat.beq t s with
 |true=>rw[hb] at e;obtain rfl:t=s:=Nat.eq_of_beq_eq_true hb;simp at e;subst e;exact hx
 |false=>rw[hb] at e;exact h s y e
def St.weaken {Γ':Env} (U:St c I H Γ a w) (h:cM I a Γ->cM I a Γ'):St c I H Γ' a w:=⟨U.step,U.own,h U.env,U.size,U.defers⟩
def St.le {Γ':Env} (U:St c I H Γ a w) (h:Env.le Γ' Γ):St c I H Γ' a w:=U.weaken λhe t x e=>he t x (h t x e)
def cM.append {Γ':Env} (h':cM I a Γ') (h:cM I a Γ):cM I a (Γ'++Γ):=by
 intro t x e;induction Γ' with
 |nil=>exact h t x e
 |cons p r ih=>
  simp only[List.cons_append,Env.get] at e
  have hr:cM I a r->cM I a r:=id
  cases hb:Nat.beq p.1 t with
  |true=>rw[hb] at e;exact h' t x (by simp only[Env.get,hb];exact e)
  |false=>
   rw[hb] at e
   have key:∀(s:Env),(∀u z,Env.get u s=some z->z.h I (a.tmps.getD u undef)\/u≠t)->Env.get t (s++Γ)=some x->x.h I (a.tmps.getD t undef):=by
    intro s;induction s with
    |nil=>intro _ e;exact h t x e
    |cons q s wT=>
     intro U e
     simp only[List.cons_append,Env.get] at e
     cases hq:Nat.beq q.1 t with
     |true=>
      rw[hq] at e
      exact(U t x (by simp only[Env.get,hq];exact e)).resolve_right bt
     |false=>
      rw[hq] at e
      refine wT (λu z hz=>?_) e
      by_cases hu:u=t
      .subst hu
       exact U u z (by simp only[Env.get,hq];exact hz)
      exact .inr hu
   refine key r (λu z hz=>?_) e
   by_cases hu:u=t
   .subst hu
    exact .inl (h' u z (by simp only[Env.get,hb];exact hz))
   exact .inr hu
structure l5 (σ:Type) where
 env:σ->Env
 own:σ->List Own
 ok:σ->Prop
def l5.holds {σ:Type} (m:l5 σ) (c:Ctx) (Γ0:Env) (x:σ) (a:Act) (w:World):Prop:=m.ok x/\∃I,St c I (m.own x) (m.env x++Γ0) a w
def St.CP {σ:Type} {m:l5 σ} {Γ0:Env} (U:St c I H Γ a w) (x:σ) (hH:H=m.own x) (al:m.ok x) (h1:Env.le (m.env x) Γ) (h0:Env.le Γ0 Γ):m.holds c Γ0 x a w:=by
 subst hH;exact⟨al,I,U.weaken λhe=>cM.append (λt x e=>he t x (h1 t x e)) (λt x e=>he t x (h0 t x e))⟩
def Env.zu {ms:List Nat} {Γ:Env}:Env.le (Env.mU ms Γ) Γ:=λ_ _ h=>(Env.CO h).1
def Env.iB {ms:List Nat} {Γ Γ':Env} {t:Nat} {x:AV} (ht:ms.contains t=true) (h:Env.le (Env.mU ms Γ) Γ'):Env.le (Env.mU ms Γ) ((t,x)::Γ'):=λs y e=>by
 simp only[Env.get];cases hb:Nat.beq t s with
 |true=>
  obtain rfl:t=s:=Nat.eq_of_beq_eq_true hb
  rw[(Env.CO e).2] at ht;cases ht
 |false=>exact h s y e
def St.loop {σ:Type} (m:l5 σ) (μ:σ->Nat) {Γ0:Env} {body:Code} (x:σ) (h0:m.holds c Γ0 x a w)
 (round:∀x I a w,m.ok x->St c I (m.own x) (m.env x++Γ0) a w->body.wp P (Exit.then (λa w=>∃y,μ y<μ x/\m.holds c Γ0 y a w) Q) a w):(Code.loop body).wp P Q a w:=by
 refine wp_loop_ghost (λn a w=>∃y,μ y=n/\m.holds c Γ0 y a w) (μ x) ⟨x,rfl,h0⟩ ?_;rintro n a w ⟨y,rfl,al,I,U⟩;refine wp_mono (round y I a w al U) λe a' w' hq=>?_;cases e with
 |normal=>obtain⟨z,h1,h2⟩:=hq;exact⟨μ z,h1,z,rfl,h2⟩
 |_=>exact hq
def Env.le_rfl:Env.le Γ Γ:=λ_ _ h=>h
def Env.dM {Γ':Env} {t:Nat} {x x':AV} (hx:Env.get t Γ=some x') (e:x'=x) (h:Env.le Γ' Γ):Env.le ((t,x)::Γ') Γ:=Env.Q1 (by rw[hx,e]) h
def zw {σ:Type} (m:l5 σ) (μ:σ->Nat) (x:σ) (c:Ctx) (Γ0:Env) (a:Act) (w:World):Prop:=∃y,μ y<μ x/\m.holds c Γ0 y a w
def CQ {σ:Type} (m:l5 σ) (c:Ctx) (Γ0:Env) (a:Act) (w:World):Prop:=∃z,m.holds c Γ0 z a w
def St.IC {σ:Type} (ms:List Nat) (m:l5 σ) (μ:σ->Nat) {body:Code} (x:σ) (U:St c I H Γ a w) (hH:H=m.own x) (al:m.ok x) (h1:Env.le (m.env x) Γ)
 (round:∀x I a w,m.ok x->St c I (m.own x) (m.env x++Env.mU ms Γ) a w->body.wp P (Exit.then (zw m μ x c (Env.mU ms Γ)) Q) a w):(Code.loop body).wp P Q a w:=
 St.loop m μ x (U.CP x hH al h1 Env.zu) round
def St.again {σ:Type} {m:l5 σ} {μ:σ->Nat} {x:σ} {Γ0:Env} (y:σ) (U:St c I H Γ a w) (hμ:μ y<μ x) (al:m.ok y) (hH:H=m.own y) (h1:Env.le (m.env y) Γ) (h0:Env.le Γ0 Γ):zw m μ x c Γ0 a w:=
 ⟨y,hμ,U.CP y hH al h1 h0⟩
def St.meet {σ:Type} {m:l5 σ} {Γ0:Env} (y:σ) (U:St c I H Γ a w) (al:m.ok y) (hH:H=m.own y) (h1:Env.le (m.env y) Γ) (h0:Env.le Γ0 Γ):CQ m c Γ0 a w:=
 ⟨y,U.CP y hH al h1 h0⟩
def St.cut {σ:Type} (ms:List Nat) (m:l5 σ) {x y:Code} (_hs:St c I H Γ a w) (h1:x.wp P (Exit.then (CQ m c (Env.mU ms Γ)) Q) a w)
 (h2:∀z I a w,m.ok z->St c I (m.own z) (m.env z++Env.mU ms Γ) a w->y.wp P Q a w):(Code.seq x y).wp P Q a w:=by
 refine wp_seq (wp_mono h1 λe a' w' hq=>?_);cases e with
 |normal=>obtain⟨z,al,I,U⟩:=hq;exact h2 z I a' w' al U
 |_=>exact hq
def St.region {id:Nat} {l:List Oper} (h:wpList P l.toArray Q l a w):(Code.region id l.toArray false).wp P Q a w:=wp_region_lit h
def zx {t:Nat} {b:Bool} (h:a.tmps.getD t undef=.bool b):a.tmps[t]?=some (.bool b):=by
 rw[Array.getD_eq_getD_getElem?] at h;cases e:a.tmps[t]? with
 |none=>rw[e] at h;simp[undef] at h
 |some v=>rw[e] at h;simpa using h
def ID {t:Nat} (h:a.tmps.getD t undef=undef):a.tmps[t]?=none\/a.tmps[t]?=some undef:=by
 rw[Array.getD_eq_getD_getElem?] at h;cases e:a.tmps[t]? with
 |none=>exact .inl rfl
 |some v=>rw[e] at h;simp at h;exact .inr (by rw[h])
def hP (ops:Array Oper) (Γ:Env) (o:Oper) (G:Bool):Prop:=∀I a,cM I a Γ->Region.wanted o (yielded ops a.tmps)=G
def CR {ops:Array Oper} {o:Oper} {j t:Nat} {b:Bool} (h:o.guard=some (j,true)) (hj:(ops[j]?).bind (·.dst)=some t) (ht:Env.get t Γ=some (.bool b)):hP ops Γ o b:=λI a he=>by
 have:=zx (he t _ ht);simp only[Region.wanted,h,yielded,hj,Option.bind_some,this];cases b<;>rfl
def IE {ops:Array Oper} {o:Oper} {j t:Nat} {b:Bool} (h:o.guard=some (j,false)) (hj:(ops[j]?).bind (·.dst)=some t) (ht:Env.get t Γ=some (.bool b)):hP ops Γ o (!b):=λI a he=>by
 have:=zx (he t _ ht);simp only[Region.wanted,h,yielded,hj,Option.bind_some,this];cases b<;>rfl
def Q2 {ops:Array Oper} {o:Oper} {j t:Nat} {g b:Bool} (h:o.guard=some (j,true)) (hj:(ops[j]?).bind (·.dst)=some t) (ht:Env.get t Γ=some (.cond g (.bool b))):hP ops Γ o (g&&b):=λI a he=>by
 have hc:=he t _ ht;cases g
 .rcases ID (hc.2 rfl) with e|e<;>simp[Region.wanted,h,yielded,hj,e,undef]
 have:=zx (hc.1 rfl);simp only[Region.wanted,h,yielded,hj,Option.bind_some,this];cases b<;>rfl
def Q3 {ops:Array Oper} {o:Oper} {j t:Nat} {g b:Bool} (h:o.guard=some (j,false)) (hj:(ops[j]?).bind (·.dst)=some t) (ht:Env.get t Γ=some (.cond g (.bool b))):hP ops Γ o (g&&!b):=λI a he=>by
 have hc:=he t _ ht;cases g
 .rcases ID (hc.2 rfl) with e|e<;>simp[Region.wanted,h,yielded,hj,e,undef]
 have:=zx (hc.1 rfl);simp only[Region.wanted,h,yielded,hj,Option.bind_some,this];cases b<;>rfl
def St.zy {ops:Array Oper} {rest:List Oper} {o:Oper} {d:Nat} {x:AV} {G:Bool} (U:St c I H Γ a w) (hg:hP ops Γ o G) (ho:o.dst=some d) (hd:Nat.blt d c.n=true) (ok:Ok P H Γ G o x)
 (k:∀I' a' w',St c I' H ((d,.cond G x)::Γ) a' w'->wpList P ops Q rest a' w'):wpList P ops Q (o::rest) a w:=by
 unfold wpList;rw[hg I a U.env];cases G with
 |true=>
  rw[if_pos rfl]
  refine .inl (ok c.own I a w _ _ U.env U.step.cX U.own rfl λv I' w' hx s=>k I' _ w' ?_)
  rw[ho]
  exact U.put (by simpa using hd) ⟨λ_=>hx,λh=>(by cases h)⟩ s
 |false=>
  rw[if_neg bt]
  refine k I _ w ?_
  rw[ho]
  exact U.put (by simpa using hd) ⟨λh=>(by cases h),λ_=>rfl⟩ (Step.refl U.step.cX)
end
end Go.Proofs.YtldbakcpcfdlaaaGreat

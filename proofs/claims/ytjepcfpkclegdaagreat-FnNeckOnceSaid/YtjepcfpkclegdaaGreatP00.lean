/- Part 0: rules of the proofs. -/
import Derived.WalkKit
import Derived.WalkSpells
import Derived.WalkLawsBesides
import Derived.Deep.LoopGhost
import Derived.Orders
set_option linter.unusedVariables false
set_option linter.unusedSimpArgs false
namespace Go.Proofs.YtjepcfpkclegdaaGreat
open Go Go.RowKit
abbrev Im:=Nat->Option (Array Value)
def Im.le (I J:Im):Prop:=∀b cs,I b=some cs->J b=some cs
theorem Im.le_refl (I:Im):Im.le I I:=λ_ _ h=>h
theorem Im.le_trans {I J K:Im} (h:Im.le I J) (k:Im.le J K):Im.le I K:=λb cs e=>k b cs (h b cs e)
structure AV where
 h:Im->Value->Prop
 up:∀I J v,Im.le I J->h I v->h J v
def bJ (I:Im):List AV->List Value->Prop
 |[],[]=>True
 |x::xs,c::cs=>(x.h I c/\c.oneCell'=true)/\bJ I xs cs
 |_,_=>False
theorem bJ.up {I J:Im} (hl:Im.le I J):∀{l:List AV} {cs:List Value},bJ I l cs->bJ J l cs
 |[],[],_=>trivial
 |x::xs,c::cs,h=>⟨⟨x.up I J c hl h.1.1,h.1.2⟩,bJ.up hl h.2⟩
 |[],_::_,h=>h.elim
 |_::_,[],h=>h.elim
theorem bJ.length {I:Im}:∀{l:List AV} {cs:List Value},bJ I l cs->cs.length=l.length
 |[],[],_=>rfl
 |_::_,_::_,h=>by simp[bJ.length h.2]
 |[],_::_,h=>h.elim
 |_::_,[],h=>h.elim
theorem bJ.get {I:Im}:∀{l:List AV} {cs:List Value},bJ I l cs->∀{i:Nat} {x:AV},l[i]?=some x->∃c,cs[i]?=some c/\x.h I c/\c.oneCell'=true
 |[],[],_,i,x,hx=>by simp at hx
 |y::ys,c::cs,h,0,x,hx=>by simp at hx;subst hx;exact⟨c,by simp,h.1⟩
 |y::ys,c::cs,h,i+1,x,hx=>by
  obtain⟨d,hd⟩:=bJ.get h.2 (i:=i) (x:=x) (by simpa using hx)
  exact⟨d,by simpa using hd⟩
 |[],_::_,h,_,_,_=>h.elim
 |_::_,[],h,_,_,_=>h.elim
theorem bJ.one {I:Im}:∀{l:List AV} {cs:List Value},bJ I l cs->∀c∈cs,c.oneCell'=true
 |[],[],_,c,hc=>by simp at hc
 |y::ys,d::cs,h,c,hc=>by
  rcases List.mem_cons.1 hc with rfl|hc
  ·exact h.1.2
  ·exact bJ.one h.2 c hc
 |[],_::_,h,_,_=>h.elim
 |_::_,[],h,_,_=>h.elim
theorem bJ.drop {I:Im}:∀{l:List AV} {cs:List Value},bJ I l cs->∀n,bJ I (l.drop n) (cs.drop n)
 |l,cs,h,0=>by simpa using h
 |[],[],_,n+1=>by simp[bJ]
 |x::xs,c::cs,h,n+1=>by simpa using bJ.drop h.2 n
 |[],_::_,h,_=>h.elim
 |_::_,[],h,_=>h.elim
theorem bJ.take {I:Im}:∀{l:List AV} {cs:List Value},bJ I l cs->∀n,bJ I (l.take n) (cs.take n)
 |l,cs,h,0=>by simp[bJ]
 |[],[],_,n+1=>by simp[bJ]
 |x::xs,c::cs,h,n+1=>by simpa using⟨h.1,bJ.take h.2 n⟩
 |[],_::_,h,_=>h.elim
 |_::_,[],h,_=>h.elim
theorem bJ.append {I:Im}:∀{l m:List AV} {cs ds:List Value},bJ I l cs->bJ I m ds->bJ I (l++m) (cs++ds)
 |[],m,[],ds,_,k=>by simpa using k
 |x::xs,m,c::cs,ds,h,k=>by simpa using⟨h.1,bJ.append h.2 k⟩
 |[],_,_::_,_,h,_=>h.elim
 |_::_,_,[],_,h,_=>h.elim
theorem bJ.set {I:Im}:∀{l:List AV} {cs:List Value},bJ I l cs->∀(n:Nat) {x:AV} {c:Value},x.h I c->c.oneCell'=true->bJ I (l.set n x) (cs.set n c)
 |[],[],_,n,_,_,_,_=>by simp[bJ]
 |y::xs,d::cs,h,0,_,_,hx,ho=>by simpa using⟨⟨hx,ho⟩,h.2⟩
 |y::xs,d::cs,h,n+1,_,_,hx,ho=>by simpa using⟨h.1,bJ.set h.2 n hx ho⟩
 |[],_::_,h,_,_,_,_,_=>h.elim
 |_::_,[],h,_,_,_,_,_=>h.elim
theorem bJ.cast {I:Im} {l m:List AV} {cs ds:List Value} (h:bJ I l cs) (e:l=m) (f:cs=ds):bJ I m ds:=e▸f▸h
def AV.any:AV:=⟨λ_ _=>True,λ_ _ _ _ h=>h⟩
def AV.val (x:Value):AV:=⟨λ_ v=>v=x,λ_ _ _ _ h=>h⟩
abbrev AV.int (n:Int):AV:=AV.val (.int .i64 n)
abbrev AV.bool (b:Bool):AV:=AV.val (.bool b)
def AV.agg (l:List AV):AV:=⟨λI v=>∃cs:Array Value,v=.agg cs/\bJ I l cs.toList,λ_ _ _ hl ⟨cs,e,h⟩=>⟨cs,e,h.up hl⟩⟩
def c8 (I:Im):List AV->List Value->Prop
 |[],[]=>True
 |x::xs,c::cs=>x.h I c/\c8 I xs cs
 |_,_=>False
theorem c8.up {I J:Im} (hl:Im.le I J):∀{l:List AV} {cs:List Value},c8 I l cs->c8 J l cs
 |[],[],_=>trivial
 |x::xs,c::cs,h=>⟨x.up I J c hl h.1,c8.up hl h.2⟩
 |[],_::_,h=>h.elim
 |_::_,[],h=>h.elim
theorem c8.length {I:Im}:∀{l:List AV} {cs:List Value},c8 I l cs->cs.length=l.length
 |[],[],_=>rfl
 |_::_,_::_,h=>by simp[c8.length h.2]
 |[],_::_,h=>h.elim
 |_::_,[],h=>h.elim
theorem c8.get {I:Im}:∀{l:List AV} {cs:List Value},c8 I l cs->∀{i:Nat} {x:AV},l[i]?=some x->∃c,cs[i]?=some c/\x.h I c
 |[],[],_,i,x,hx=>by simp at hx
 |y::ys,c::cs,h,0,x,hx=>by simp at hx;subst hx;exact⟨c,by simp,h.1⟩
 |y::ys,c::cs,h,i+1,x,hx=>by
  obtain⟨d,hd⟩:=c8.get h.2 (i:=i) (x:=x) (by simpa using hx)
  exact⟨d,by simpa using hd⟩
 |[],_::_,h,_,_,_=>h.elim
 |_::_,[],h,_,_,_=>h.elim
def AV.dx (l:List AV):AV:=⟨λI v=>∃cs:Array Value,v=.tuple cs/\c8 I l cs.toList,λ_ _ _ hl ⟨cs,e,h⟩=>⟨cs,e,h.up hl⟩⟩
def ni (I:Im) (p:Addr) (l:List AV):Prop:=p.spot=none/\∃cs,I p.block=some cs/\bJ I l ((cs.toList.drop p.off).take l.length)
theorem ni.up {I J:Im} (hl:Im.le I J) {p:Addr} {l:List AV} (h:ni I p l):ni J p l:=
 let⟨U,cs,e,k⟩:=h;⟨U,cs,hl _ _ e,k.up hl⟩
theorem ni.drop {I:Im} {p:Addr} {l:List AV} (h:ni I p l) (n:Nat):ni I ⟨p.block,p.off+n,none⟩ (l.drop n):=by
 obtain⟨U,cs,e,k⟩:=h
 refine⟨rfl,cs,e,(k.drop n).cast rfl ?_⟩
 simp[List.drop_take,List.drop_drop]
theorem ni.take {I:Im} {p:Addr} {l:List AV} (h:ni I p l) (n:Nat):ni I p (l.take n):=by
 obtain⟨U,cs,e,k⟩:=h
 refine⟨U,cs,e,(k.take n).cast rfl ?_⟩
 rw[List.length_take,List.take_take]
def AV.ptr (l:List AV):AV:=⟨λI v=>∃p,v=.pointer (some p)/\ni I p l,λ_ _ _ hl ⟨p,e,h⟩=>⟨p,e,h.up hl⟩⟩
def AV.rows (sz:Nat) (l:List (List AV)):AV:=
 ⟨λI v=>∃p cap,v=.slice p l.length cap/\l.length<=cap/\cap<=maxLen/\
  (∀r∈l,r.length=sz)/\(l=[]\/∃q,p=some q/\ni I q l.flatten)/\(p=none->cap=0),
  λ_ _ _ hl ⟨p,cap,e,h1,h2,h3,h4,h5⟩=>⟨p,cap,e,h1,h2,h3,h4.imp id λ⟨q,e,k⟩=>⟨q,e,k.up hl⟩,h5⟩⟩
theorem eO (sz:Nat) (I:Im):(AV.rows sz []).h I (.slice none 0 0):=⟨none,0,rfl,Nat.le_refl _,by simp[maxLen],λr hr=>by simp at hr,.inl rfl,λ_=>rfl⟩
def AV.cond (g:Bool) (x:AV):AV:=⟨λI v=>(g=true->x.h I v)/\(g=false->v=undef),λ_ _ _ hl h=>⟨λe=>x.up _ _ _ hl (h.1 e),h.2⟩⟩
theorem BF {α:Type}:∀(l:List (List α)) (sz:Nat),(∀r∈l,r.length=sz)->∀(i:Nat) (r:List α),l[i]?=some r->(l.flatten.drop (i*sz)).take sz=r
 |[],_,_,_,_,h=>by simp at h
 |x::xs,sz,U,0,r,h=>by
  simp at h;subst h
  have:x.length=sz:=U x (by simp)
  simp[<-this]
 |x::xs,sz,U,i+1,r,h=>by
  have hx:x.length=sz:=U x (by simp)
  have:=BF xs sz (λr hr=>U r (by simp[hr])) i r (by simpa using h)
  rw[List.flatten_cons,show(i+1)*sz=x.length+i*sz from by rw[hx,Nat.succ_mul,Nat.add_comm],List.drop_append,List.drop_eq_nil_of_le (by omega)]
  simpa using this
def nth (l:List (List AV)) (i:Nat):List AV:=l.getD i []
theorem SO {α:Type} [Inhabited α] (f:α->List AV) (l:List α) (i:Nat) (h:i<l.length):nth (l.map f) i=f (l[i]!):=by
 simp[nth,List.getD,h]
theorem J8 {I:Im} {sz:Nat} {l:List (List AV)} {v:Value} (h:(AV.rows sz l).h I v) {i:Nat} (hi:i<l.length):
 ∃b off cap,v=.slice (some ⟨b,off,none⟩) l.length cap/\ni I ⟨b,off+i*sz,none⟩ (nth l i):=by
 obtain⟨p,cap,e,h1,h2,h3,h4,_⟩:=h
 rcases h4 with h4|⟨⟨b,off,s⟩,hp,k⟩
 ·subst h4;simp at hi
 ·obtain rfl:s=none:=k.1
  refine⟨b,off,cap,by rw[e,hp],?_⟩
  have hr:l[i]?=some (nth l i):=by simp[nth,hi]
  have:=(k.drop (i*sz)).take sz
  rwa[BF l sz h3 i _ hr] at this
def dV (w:World) (I:Im):Prop:=∀b cs,I b=some cs->∃e fr,w.heap[b]?=some (.cells cs e fr)
theorem dV.lt {w:World} {I:Im} (h:dV w I) {b:Nat} {cs:Array Value} (e:I b=some cs):b<w.heap.size:=by
 obtain⟨_,_,k⟩:=h b cs e
 exact(Array.getElem?_eq_some_iff.1 k).1
structure Step (I:Im) (w:World) (I':Im) (w':World):Prop where
 le:Im.le I I'
 gH:∀b,b<w.heap.size->I' b=I b
 c9:dV w' I'
 below:Below w.heap.size w w'
theorem Step.refl {I:Im} {w:World} (h:dV w I):Step I w I w:=⟨Im.le_refl I,λ_ _=>rfl,h,Below.refl _ _⟩
theorem Step.trans {I I' zj:Im} {w w' vJ:World} (h:Step I w I' w') (k:Step I' w' zj vJ):Step I w zj vJ:=
 ⟨Im.le_trans h.le k.le,λb hb=>(k.gH b (Nat.lt_of_lt_of_le hb h.below.size)).trans (h.gH b hb),k.c9,h.below.trans (k.below.mono h.below.size)⟩
abbrev lu:Nat->Prop:=λ_=>False
structure Kept (F:Nat->Prop) (w w':World):Prop where
 os:w'.os=w.os
 tape:w'.tape=w.tape
 output:w'.output=w.output
 size:w.heap.size<=w'.heap.size
 block:∀k,k<w.heap.size->¬F k->w'.heap[k]?=w.heap[k]?
theorem Kept.refl (F:Nat->Prop) (w:World):Kept F w w:=⟨rfl,rfl,rfl,Nat.le_refl _,λ_ _ _=>rfl⟩
theorem Kept.drew {F:Nat->Prop} {a w:World} (h:Kept F a w):Kept F a w.drew:=⟨h.os,h.tape,h.output,h.size,h.block⟩
theorem Kept.all {w w':World} (h:Kept lu w w'):Below w.heap.size w w':=⟨h.os,h.tape,h.output,h.size,λk hk=>h.block k hk (λf=>f)⟩
structure fC (F:Nat->Prop) (I:Im) (w:World) (I':Im) (w':World):Prop where
 le:Im.le I I'
 gH:∀b,b<w.heap.size->¬F b->I' b=I b
 c9:dV w' I'
 below:Kept F w w'
theorem fC.refl {F:Nat->Prop} {I:Im} {w:World} (h:dV w I):fC F I w I w:=⟨Im.le_refl I,λ_ _ _=>rfl,h,Kept.refl _ _⟩
theorem fC.all {I I':Im} {w w':World} (h:fC lu I w I' w'):Step I w I' w':=⟨h.le,λb hb=>h.gH b hb (λf=>f),h.c9,h.below.all⟩
theorem fC.trans {F:Nat->Prop} {I I' zj:Im} {w w' vJ:World} (h:fC F I w I' w') (k:Step I' w' zj vJ):fC F I w zj vJ:=
 ⟨Im.le_trans h.le k.le,λb hb hf=>(k.gH b (Nat.lt_of_lt_of_le hb h.below.size)).trans (h.gH b hb hf),k.c9,
  ⟨k.below.os.trans h.below.os,k.below.tape.trans h.below.tape,k.below.output.trans h.below.output,Nat.le_trans h.below.size k.below.size,
   λi hi hf=>(k.below.block i (Nat.lt_of_lt_of_le hi h.below.size)).trans (h.below.block i hi hf)⟩⟩
theorem dV.drew {w:World} {I:Im} (h:dV w I):dV w.drew I:=h
def Im.add (I:Im) (b:Nat) (cs:Array Value):Im:=λk=>if k=b then some cs else I k
theorem Im.zl {I:Im} {b:Nat} {cs:Array Value} (h:I b=none):Im.le I (I.add b cs):=λk ds e=>by
 unfold Im.add;split
 ·subst k;rw[h] at e;cases e
 ·exact e
theorem dV.none {w:World} {I:Im} (h:dV w I) {b:Nat} (hb:w.heap.size<=b):I b=none:=by
 cases e:I b with
 |none=>rfl
 |some cs=>have:=h.lt e;omega
theorem s7 (w:World) (o:Obj):(w.alloc o).heap[w.heap.size]?=some o:=by
 show(w.heap.push o)[w.heap.size]?=_
 simp
theorem dV.zm {w:World} {I:Im} (h:dV w I) (cs:Array Value) (T:TypeId) (fr:Nat×Nat):dV (w.alloc (.cells cs T fr)) (I.add w.heap.size cs):=by
 intro b ds e
 unfold Im.add at e
 split at e
 ·rename_i hb;subst hb;cases e;exact⟨T,fr,s7 w _⟩
 ·obtain⟨e',EG,k⟩:=h b ds e
  exact⟨e',EG,by rw[Below.heap_alloc w _ b (h.lt e)];exact k⟩
theorem Step.zm {w:World} {I:Im} (h:dV w I) (cs:Array Value) (T:TypeId) (fr:Nat×Nat):Step I w (I.add w.heap.size cs) (w.alloc (.cells cs T fr)):=
 ⟨Im.zl (h.none (Nat.le_refl _)),λb hb=>by unfold Im.add;rw[if_neg (by omega)],h.zm cs T fr,(Below.refl _ _).alloc (Nat.le_refl _) _⟩
theorem dV.alloc {w:World} {I:Im} (h:dV w I) (o:Obj):dV (w.alloc o) I:=λb ds e=>by
 obtain⟨e',EG,k⟩:=h b ds e
 exact⟨e',EG,by rw[Below.heap_alloc w _ b (h.lt e)];exact k⟩
theorem Step.alloc {w:World} {I:Im} (h:dV w I) (o:Obj):Step I w I (w.alloc o):=
 ⟨Im.le_refl _,λ_ _=>rfl,h.alloc o,(Below.refl _ _).alloc (Nat.le_refl _) _⟩
theorem cell_of {w:World} {I:Im} (h:dV w I) {p:Addr} {l:List AV} (k:ni I p l) {i:Nat} {x:AV} (hx:l[i]?=some x):
 ∃c,w.cell? ⟨p.block,p.off+i,none⟩=some c/\x.h I c/\c.oneCell'=true:=by
 obtain⟨U,cs,e,hh⟩:=k
 obtain⟨c,hc,EH⟩:=hh.get hx
 obtain⟨T,fr,hw⟩:=h _ _ e
 refine⟨c,?_,EH⟩
 simp only[World.cell?,hw,Option.isSome_none,Bool.false_eq_true,if_false]
 rw[List.getElem?_take] at hc
 split at hc
 ·simpa using hc
 ·cases hc
structure Own where
 ei:Option Nat
 ok:Im->World->Prop
 iR:∀I I' w w',Im.le I I'->(∀b,ei=some b->w'.heap[b]?=w.heap[b]?)->ok I w->ok I' w'
def Own.box (b:Nat) (T:TypeId) (l:List AV):Own:=
 ⟨some b,λI w=>∃cs,w.heap[b]?=some (.cells cs T (0,0))/\bJ I l cs.toList,
  λ_ _ _ _ hl hb ⟨cs,e,h⟩=>⟨cs,(hb b rfl).trans e,h.up hl⟩⟩
def nY:Value->Option Nat
 |.slice (some a) _ cap=>if cap=0 then none else some a.block
 |_=>none
def vL (v:Value):Prop:=v=.slice none 0 0\/∃q:Addr,v=.slice (some q) 0 0/\q.spot=none
def Own.row (v:Value) (T:TypeId) (sz:Nat) (l:List (List AV)):Own:=
 ⟨nY v,λI w=>(∀r∈l,r.length=sz)/\((l=[]/\vL v)\/
  ∃b cap cur,v=.slice (some ⟨b,0,none⟩) l.length cap/\0<cap/\w.heap[b]?=some (.cells cur T (0,0))/\l.length<=cap/\cap<=maxLen/\cur.size=cap*sz/\bJ I l.flatten (cur.toList.take (l.length*sz))),
  λI I' w w' hl hb ⟨hr,h⟩=>⟨hr,h.imp id λ⟨b,cap,cur,e,h0,h1,h2,h3,h4,h5⟩=>⟨b,cap,cur,e,h0,by
   rw[hb b (by rw[e];simp[nY];omega)];exact h1,h2,h3,h4,h5.up hl⟩⟩⟩
theorem zn {q:Addr} {n cap:Nat} (h:0<cap):nY (.slice (some q) n cap)=some q.block:=if_neg (by omega)
theorem xG {v:Value} {T:TypeId} {sz:Nat} {l:List (List AV)}:(Own.row v T sz l).ei=nY v:=rfl
theorem zq {q:Addr} {n cap sz:Nat} {T:TypeId} {l:List (List AV)} (h:0<cap):(Own.row (.slice (some q) n cap) T sz l).ei=some q.block:=zn (n:=n) h
structure cj (base:Nat->Prop) (I:Im) (w:World) (H:List Own):Prop where
 all:∀o∈H,o.ok I w/\∀b,o.ei=some b->base b/\I b=none/\b<w.heap.size
 nodup:(H.filterMap Own.ei).Nodup
theorem cj.step {base:Nat->Prop} {I I':Im} {w w':World} {H:List Own} (h:cj base I w H) (s:Step I w I' w'):cj base I' w' H:=
 ⟨λo ho=>by
  obtain⟨h1,h2⟩:=h.all o ho
  refine⟨o.iR I I' w w' s.le (λb hb=>s.below.block b (h2 b hb).2.2) h1,λb hb=>?_⟩
  obtain⟨k1,k2,k3⟩:=h2 b hb
  exact⟨k1,(s.gH b k3).trans k2,Nat.lt_of_lt_of_le k3 s.below.size⟩,h.nodup⟩
theorem cj.nil (base:Nat->Prop) (I:Im) (w:World):cj base I w []:=⟨λ_ h=>by simp at h,List.Pairwise.nil⟩
abbrev Env:=List (Nat×AV)
def Env.get (t:Nat):Env->Option AV
 |[]=>none
 |p::r=>bif Nat.beq p.1 t then some p.2 else Env.get t r
def cP (I:Im) (a:Act) (Γ:Env):Prop:=∀t x,Env.get t Γ=some x->x.h I (a.tmps.getD t undef)
theorem cP.up {I J:Im} {a:Act} {Γ:Env} (hl:Im.le I J) (h:cP I a Γ):cP J a Γ:=λt x e=>x.up _ _ _ hl (h t x e)
theorem cP.put {I:Im} {a:Act} {Γ:Env} (h:cP I a Γ) {d:Nat} (hd:d<a.tmps.size) {x:AV} {v:Value} (hx:x.h I v):cP I (a.put (some d) v) ((d,x)::Γ):=by
 intro t y e
 simp only[Env.get] at e
 cases hb:Nat.beq d t with
 |true=>
  rw[hb] at e;simp at e
  obtain rfl:d=t:=Nat.eq_of_beq_eq_true hb
  subst e
  simpa[Act.put,hd] using hx
 |false=>
  rw[hb] at e;simp at e
  have bj:d≠t:=λhh=>by subst hh;simp at hb
  have:=h t y e
  simpa[Act.put,bj] using this
structure Ctx where
 W:World
 I:Im
 n:Nat
 F:Nat->Prop
def Ctx.own (c:Ctx) (b:Nat):Prop:=c.W.heap.size<=b\/c.F b
structure St (c:Ctx) (I:Im) (H:List Own) (Γ:Env) (a:Act) (w:World):Prop where
 step:fC c.F c.I c.W I w
 own:cj c.own I w H
 env:cP I a Γ
 size:a.tmps.size=c.n
 defers:a.defers=[]
def At (Γ:Env) (g:Bool) (o:Operand) (x:AV):Prop:=∀I a,cP I a Γ->g=true->x.h I (a.eval o)
theorem At.t {Γ:Env} {g:Bool} {t:Nat} {x:AV} (h:Env.get t Γ=some x):At Γ g (.tmp t) x:=λ_ _ he _=>he t x h
theorem At.g {Γ:Env} {g g':Bool} {t:Nat} {x:AV} (h:Env.get t Γ=some (AV.cond g' x)) (hg:g=true->g'=true):At Γ g (.tmp t) x:=λ_ _ he e=>(he t _ h).1 (hg e)
theorem At.c {Γ:Env} {g:Bool} {v:Value}:At Γ g (.const v) (AV.val v):=λ_ _ _ _=>rfl
theorem At.f {Γ:Env} {g:Bool} {f:FuncId}:At Γ g (.func f) (AV.val (.func (.func f) #[] #[])):=λ_ _ _ _=>rfl
def Ok (P:Program) (H:List Own) (Γ:Env) (g:Bool) (o:Oper) (x:AV):Prop:=
 ∀(base:Nat->Prop) (I:Im) (a:Act) (w:World) (K:Act->World->Prop) (Q:Exit->Act->World->Prop),cP I a Γ->dV w I->cj base I w H->g=true->
  (∀v I' w',x.h I' v->Step I w I' w'->K (a.put o.dst v) w')->o.wp P a w K Q
section
variable {P:Program} {c:Ctx} {I:Im} {H:List Own} {Γ:Env} {a:Act} {w:World} {Q:Exit->Act->World->Prop} {ops:Array Oper} {rest:List Oper}
theorem St.put {I':Im} {w':World} (U:St c I H Γ a w) {d:Nat} (hd:d<c.n) {x:AV} {v:Value} (hx:x.h I' v) (s:Step I w I' w'):St c I' H ((d,x)::Γ) (a.put (some d) v) w':=
 ⟨U.step.trans s,U.own.step s,(U.env.up s.le).put (by rw[U.size];exact hd) hx,by simp[Act.put,U.size],U.defers⟩
theorem St.room (U:St c I H Γ a w):c.own w.heap.size:=.inl U.step.below.size
theorem St.op {o:Oper} {d:Nat} {x:AV} (U:St c I H Γ a w) (hg:o.guard=none) (ho:o.dst=some d) (hd:Nat.blt d c.n=true) (ok:Ok P H Γ true o x)
 (k:∀I' a' w',St c I' H ((d,x)::Γ) a' w'->wpList P ops Q rest a' w'):wpList P ops Q (o::rest) a w:=by
 unfold wpList
 rw[if_pos (by simp[Region.wanted,hg])]
 refine .inl (ok c.own I a w _ _ U.env U.step.c9 U.own rfl λv I' w' hx s=>k I' _ w' ?_)
 rw[ho]
 exact U.put (by simpa using hd) hx s
end
section
variable {P:Program} {H:List Own} {Γ:Env} {g:Bool}
theorem gB {o:Oper} {x:AV}
 (h:∀(base:Nat->Prop) I a w,cP I a Γ->dV w I->cj base I w H->g=true->∃v,(execOp a.eval o).run P w=.ok (.value v) w/\x.h I v):Ok P H Γ g o x:=
 λbase I a w K Q he hm hw hg k=>by
  obtain⟨v,hr,hx⟩:=h base I a w he hm hw hg
  unfold Oper.wp
  rw[hr]
  exact k v I w hx (Step.refl hm)
theorem iS {o:Oper} {v:Value}
 (h:∀I a w,cP I a Γ->g=true->(execOp a.eval o).run P w=.ok (.value v) w):Ok P H Γ g o (.val v):=
 gB λ_ I a w he _ _ hg=>⟨v,h I a w he hg,rfl⟩
theorem zs {d:Option Tmp} {y:Operand} {ty:TypeId} {p:String} {af:Array Edge} {gd:Option (Nat×Bool)} {x:AV} (h:At Γ g y x):
 Ok P H Γ g ⟨d,.move y,ty,p,af,gd⟩ x:=
 gB λ_ I a w he _ _ hg=>⟨_,rfl,h I a he hg⟩
theorem ux {d:Option Tmp} {y:Operand} {ty:TypeId} {p:String} {af:Array Edge} {gd:Option (Nat×Bool)} {x:AV} (h:At Γ g y x):
 Ok P H Γ g ⟨d,.assign y,ty,p,af,gd⟩ x:=
 gB λ_ I a w he _ _ hg=>⟨_,rfl,h I a he hg⟩
theorem SP {d:Option Tmp} {cc aa bb:Operand} {ty:TypeId} {p:String} {af:Array Edge} {gd:Option (Nat×Bool)} {b x:Bool}
 (hc:At Γ g cc (.bool b)) (ha:At Γ g aa (.cond b (.bool x))) (hb:At Γ g bb (.bool false)):
 Ok P H Γ g ⟨d,.pick cc aa bb,ty,p,af,gd⟩ (.bool (b&&x)):=by
 refine iS λI a w he hg=>?_
 have h1:a.eval cc=.bool b:=hc I a he hg
 have h3:a.eval bb=.bool false:=hb I a he hg
 have h2:=ha I a he hg
 cases b
 ·simp[execOp,h1,h3,asBool,Sem.run_bind]
 ·have EI:a.eval aa=.bool x:=h2.1 rfl
  simp[execOp,h1,EI,asBool,Sem.run_bind]
theorem SQ {d:Option Tmp} {cc aa bb:Operand} {ty:TypeId} {p:String} {af:Array Edge} {gd:Option (Nat×Bool)} {b x:Bool}
 (hc:At Γ g cc (.bool b)) (ha:At Γ g aa (.bool true)) (hb:At Γ g bb (.cond (!b) (.bool x))):
 Ok P H Γ g ⟨d,.pick cc aa bb,ty,p,af,gd⟩ (.bool (b||x)):=by
 refine iS λI a w he hg=>?_
 have h1:a.eval cc=.bool b:=hc I a he hg
 have h3:a.eval aa=.bool true:=ha I a he hg
 have h2:=hb I a he hg
 cases b
 ·have EI:a.eval bb=.bool x:=h2.1 rfl
  simp[execOp,h1,EI,asBool,Sem.run_bind]
 ·simp[execOp,h1,h3,asBool,Sem.run_bind]
variable {d:Option Tmp} {y z:Operand} {ty T T':TypeId} {p:String} {af:Array Edge} {gd:Option (Nat×Bool)}
theorem J9 {b:Bool} (h:At Γ g y (.bool b)):Ok P H Γ g ⟨d,.unOp .not T y,ty,p,af,gd⟩ (.bool (!b)):=
 iS λI a w he hg=>by have h1:a.eval y=.bool b:=h I a he hg;simp only[execOp,h1];simp[go_sem]
theorem kS {m n:Int} (hy:At Γ g y (.int m)) (hz:At Γ g z (.int n)) (hb:g=true->-9223372036854775808<=m+n/\m+n<=9223372036854775807):
 Ok P H Γ g ⟨d,.binOp .add T y z T',ty,p,af,gd⟩ (.int (m+n)):=
 iS λI a w he hg=>by
  have h1:a.eval y=.int .i64 m:=hy I a he hg
  have h2:a.eval z=.int .i64 n:=hz I a he hg
  have h3:IntKind.i64.wrap (m+n)=m+n:=IntWalk.i64_in _ (hb hg)
  simp only[execOp,h1,h2];simp[go_sem,eqGuard,binOp,Op.intArith,h3]
theorem Ka {m n:Int} (hy:At Γ g y (.int m)) (hz:At Γ g z (.int n)) (hb:g=true->-9223372036854775808<=m-n/\m-n<=9223372036854775807):
 Ok P H Γ g ⟨d,.binOp .sub T y z T',ty,p,af,gd⟩ (.int (m-n)):=
 iS λI a w he hg=>by
  have h1:a.eval y=.int .i64 m:=hy I a he hg
  have h2:a.eval z=.int .i64 n:=hz I a he hg
  have h3:IntKind.i64.wrap (m-n)=m-n:=IntWalk.i64_in _ (hb hg)
  simp only[execOp,h1,h2];simp[go_sem,eqGuard,binOp,Op.intArith,h3]
theorem kf {m n:Int} (hy:At Γ g y (.int m)) (hz:At Γ g z (.int n)) (hb:g=true->-9223372036854775808<=m*n/\m*n<=9223372036854775807):
 Ok P H Γ g ⟨d,.binOp .mul T y z T',ty,p,af,gd⟩ (.int (m*n)):=
 iS λI a w he hg=>by
  have h1:a.eval y=.int .i64 m:=hy I a he hg
  have h2:a.eval z=.int .i64 n:=hz I a he hg
  have h3:IntKind.i64.wrap (m*n)=m*n:=IntWalk.i64_in _ (hb hg)
  simp only[execOp,h1,h2];simp[go_sem,eqGuard,binOp,Op.intArith,h3]
theorem Kb {m n:Int} (hy:At Γ g y (.int m)) (hz:At Γ g z (.int n)):
 Ok P H Γ g ⟨d,.binOp .lss T y z T',ty,p,af,gd⟩ (.bool (decide (m<n))):=
 iS λI a w he hg=>by
  have h1:a.eval y=.int .i64 m:=hy I a he hg
  have h2:a.eval z=.int .i64 n:=hz I a he hg
  simp only[execOp,h1,h2];simp[go_sem,eqGuard,binOp,Op.intCmp]
theorem Kc {m n:Int} (hy:At Γ g y (.int m)) (hz:At Γ g z (.int n)):
 Ok P H Γ g ⟨d,.binOp .leq T y z T',ty,p,af,gd⟩ (.bool (decide (m<=n))):=
 iS λI a w he hg=>by
  have h1:a.eval y=.int .i64 m:=hy I a he hg
  have h2:a.eval z=.int .i64 n:=hz I a he hg
  simp only[execOp,h1,h2];simp[go_sem,eqGuard,binOp,Op.intCmp]
theorem Kd {m n:Int} (hy:At Γ g y (.int m)) (hz:At Γ g z (.int n)):
 Ok P H Γ g ⟨d,.binOp .gtr T y z T',ty,p,af,gd⟩ (.bool (decide (n<m))):=
 iS λI a w he hg=>by
  have h1:a.eval y=.int .i64 m:=hy I a he hg
  have h2:a.eval z=.int .i64 n:=hz I a he hg
  simp only[execOp,h1,h2];simp[go_sem,eqGuard,binOp,Op.intCmp]
theorem Ke {m n:Int} (hy:At Γ g y (.int m)) (hz:At Γ g z (.int n)):
 Ok P H Γ g ⟨d,.binOp .geq T y z T',ty,p,af,gd⟩ (.bool (decide (n<=m))):=
 iS λI a w he hg=>by
  have h1:a.eval y=.int .i64 m:=hy I a he hg
  have h2:a.eval z=.int .i64 n:=hz I a he hg
  simp only[execOp,h1,h2];simp[go_sem,eqGuard,binOp,Op.intCmp]
theorem SR {m n:Int} (hy:At Γ g y (.int m)) (hz:At Γ g z (.int n)):
 Ok P H Γ g ⟨d,.binOp .eql T y z T',ty,p,af,gd⟩ (.bool (m==n)):=
 iS λI a w he hg=>by
  have h1:a.eval y=.int .i64 m:=hy I a he hg
  have h2:a.eval z=.int .i64 n:=hz I a he hg
  simp only[execOp,h1,h2];simp[go_sem,eqGuard,binOp,Op.intCmp]
theorem SS {m n:Int} (hy:At Γ g y (.int m)) (hz:At Γ g z (.int n)):
 Ok P H Γ g ⟨d,.binOp .neq T y z T',ty,p,af,gd⟩ (.bool (m !=n)):=
 iS λI a w he hg=>by
  have h1:a.eval y=.int .i64 m:=hy I a he hg
  have h2:a.eval z=.int .i64 n:=hz I a he hg
  simp only[execOp,h1,h2];simp[go_sem,eqGuard,binOp,Op.intCmp]
theorem SU {m n:Int} (hy:At Γ g y (.int m)) (hz:At Γ g z (.int n)):Ok P H Γ g ⟨d,.binOp .sub T y z T',ty,p,af,gd⟩ (.int (IntKind.i64.wrap (m-n))):=
 iS λI a w he hg=>by
  have h1:a.eval y=.int .i64 m:=hy I a he hg
  have h2:a.eval z=.int .i64 n:=hz I a he hg
  simp only[execOp,h1,h2];simp[go_sem,eqGuard,binOp,Op.intArith]
end
structure Ty (P:Program) (T:TypeId) (ag:Bool) (n bytes:Nat) (z:Value):Prop where
 ag:((P.underlying T).map λd=>match d with|.struct _=>true|.array _ _=>true|_=>false)=some ag
 info:((P.info? T).map λi=>(i.size,i.bytes,i.zero))=some (n,bytes,some z)
section
variable {P:Program} {w:World} {T:TypeId} {n m:Nat} {z:Value}
theorem Ty.get {ag:Bool} (h:Ty P T ag n m z):∃i,P.info? T=some i/\i.size=n/\i.bytes=m/\i.zero=some z:=by
 have:=h.info
 cases hi:P.info? T with
 |none=>rw[hi] at this;simp at this
 |some i=>rw[hi] at this;simp at this;exact⟨i,rfl,this.1,this.2.1,this.2.2⟩
theorem Ty.size {ag:Bool} (h:Ty P T ag n m z):(sizeOf T).run P w=.ok n w:=by
 obtain⟨i,hi,h1,_⟩:=h.get
 simp[sizeOf,typeInfo,hi,h1]
theorem Ty.zero {ag:Bool} (h:Ty P T ag n m z):(zeroValue T).run P w=.ok z w:=by
 obtain⟨i,hi,_,_,h1⟩:=h.get
 simp[zeroValue,typeInfo,hi,h1]
theorem Ty.isAgg {ag:Bool} (h:Ty P T ag n m z):(isAgg T).run P w=.ok ag w:=by
 have:=h.ag
 cases hi:P.underlying T with
 |none=>rw[hi] at this;simp at this
 |some d=>
  rw[hi] at this;simp at this
  subst this
  cases d<;>simp[Go.isAgg,run_underlying hi]
theorem zu (h:Ty P T false n m z) {p:Addr} {v:Value} (hc:w.cell? p=some v):(loadVar T p).run P w=.ok v w:=by
 simp only[loadVar,Sem.run_bind,h.isAgg,Result.andThen_ok]
 simp[hc]
theorem zw (h:Ty P T true n m z) {p:Addr} {cs:List Value} (hn:cs.length=n) (hc:∀j v,cs[j]?=some v->w.cell? (p.add j)=some v):
 (loadVar T p).run P w=.ok (.agg cs.toArray) w:=by
 subst hn
 simp only[loadVar,Sem.run_bind,h.isAgg,Result.andThen_ok,if_true,h.size,run_loadCells_list w p cs hc]
 rfl
end
theorem add_plain (b o j:Nat):(⟨b,o,none⟩:Addr).add j=⟨b,o+j,none⟩:=by unfold Addr.add;split<;>simp_all
section
variable {P:Program} {H:List Own} {Γ:Env} {g:Bool} {d:Option Tmp} {y z:Operand} {ty T T' E:TypeId} {p:String} {af:Array Edge} {gd:Option (Nat×Bool)} {n m o:Nat} {zv:Value}
theorem ni.toArray {I:Im} {q:Addr} {l:List AV} (k:ni I q l) {w:World} (hm:dV w I):
 ∃cs:List Value,cs.length=l.length/\bJ I l cs/\∀j v,cs[j]?=some v->w.cell? (q.add j)=some v:=by
 obtain⟨U,cs,e,hh⟩:=k
 refine⟨_,hh.length,hh,λj v hv=>?_⟩
 obtain⟨T,fr,hw⟩:=hm _ _ e
 obtain⟨b,off,s⟩:=q
 obtain rfl:s=none:=U
 rw[add_plain]
 simp only[World.cell?,hw,Option.isSome_none,Bool.false_eq_true,if_false]
 rw[List.getElem?_take] at hv
 split at hv
 ·simpa using hv
 ·cases hv
theorem Kf {x:AV} {l:List AV} (hT:Ty P T false n m zv) (h:At Γ g y (.ptr (x::l))):Ok P H Γ g ⟨d,.load T y,ty,p,af,gd⟩ x:=
 gB λ_ I a w he hm _ hg=>by
  obtain⟨q,e,k⟩:=h I a he hg
  obtain⟨c,hc,hx,_⟩:=cell_of hm k (i:=0) (x:=x) rfl
  obtain⟨b,off,s⟩:=q
  obtain rfl:s=none:=k.1
  refine⟨c,?_,hx⟩
  have SV:w.cell? ⟨b,off,none⟩=some c:=hc
  simp only[execOp,e,Instr.loadAt,Instr.sureAddr,Sem.run_bind,Sem.run_pure,Result.andThen_ok,zu hT SV]
theorem Kg {l:List AV} (hT:Ty P T true n m zv) (h:At Γ g y (.ptr l)) (hn:Nat.ble n l.length=true):Ok P H Γ g ⟨d,.load T y,ty,p,af,gd⟩ (.agg (l.take n)):=
 gB λ_ I a w he hm _ hg=>by
  obtain⟨q,e,k⟩:=h I a he hg
  obtain⟨cs,h1,h2,h3⟩:=(k.take n).toArray hm
  have hn':n<=l.length:=Nat.le_of_ble_eq_true hn
  refine⟨.agg cs.toArray,?_,cs.toArray,rfl,by simpa using h2⟩
  have h4:cs.length=n:=by rw[h1,List.length_take];omega
  simp only[execOp,e,Instr.loadAt,Instr.sureAddr,Sem.run_bind,Sem.run_pure,Result.andThen_ok,zw hT h4 h3]
theorem SW {l:List AV} (hT:Ty P T true n m zv) (h:At Γ g y (.ptr l)) (hn:l.length=n):Ok P H Γ g ⟨d,.load T y,ty,p,af,gd⟩ (.agg l):=by
 have:=Kg (H:=H) (d:=d) (ty:=ty) (p:=p) (af:=af) (gd:=gd) hT h (by rw[hn];simp)
 rwa[List.take_of_length_le (by omega)] at this
def cB (P:Program) (T:TypeId) (f:Nat) (off size:Nat):Prop:=
 ((P.underlying T).bind λdd=>match dd with|.struct fs=>(fs[f]?).map λx=>(x.offset,(P.info? x.type).map (·.size))|_=>none)=some (off,some size)
theorem cB.get {f off size:Nat} (h:cB P T f off size):∃fs x i,P.underlying T=some (.struct fs)/\fs[f]?=some x/\x.offset=off/\P.info? x.type=some i/\i.size=size:=by
 unfold cB at h
 cases hu:P.underlying T with
 |none=>rw[hu] at h;simp at h
 |some dd=>
  rw[hu] at h
  cases dd<;>simp at h
  rename_i fs
  obtain⟨x,h1,h2,h3⟩:=h
  obtain⟨i,hi,U⟩:=h3
  exact⟨fs,x,i,rfl,h1,h2,hi,U⟩
theorem Kh {w:World} {f off size:Nat} (h:cB P T f off size) (U:0<size) (b o:Nat):
 (Instr.fieldAt T (.pointer (some ⟨b,o,none⟩)) f).run P w=.ok (.pointer (some ⟨b,o+off,none⟩)) w:=by
 obtain⟨fs,x,i,h1,h2,h3,h4,h5⟩:=h.get
 have h6:(sizeOf x.type).run P w=.ok size w:=by simp[sizeOf,typeInfo,h4,h5]
 simp only[Instr.fieldAt,Sem.run_bind,run_underlying h1,Result.andThen_ok,h2,Instr.sureAddr,Sem.run_pure,fieldPlace,h6]
 rw[if_neg (by omega)]
 simp[h3,add_plain]
theorem Ki {f size:Nat} {l:List AV} (hf:cB P T f o size) (U:Nat.blt 0 size=true) (h:At Γ g y (.ptr l)):Ok P H Γ g ⟨d,.fieldAddr T y f,ty,p,af,gd⟩ (.ptr (l.drop o)):=
 gB λ_ I a w he hm _ hg=>by
  obtain⟨q,e,k⟩:=h I a he hg
  obtain⟨b,off,s⟩:=q
  obtain rfl:s=none:=k.1
  refine⟨_,?_,⟨b,off+o,none⟩,rfl,k.drop o⟩
  simp only[execOp,e,Sem.run_bind,Kh hf (by simpa using U) b off,Result.andThen_ok]
  rfl
theorem Kj {f size b q:Nat} (hf:cB P T f o size) (U:Nat.blt 0 size=true) (h:At Γ g y (.val (.pointer (some ⟨b,q,none⟩)))):Ok P H Γ g ⟨d,.fieldAddr T y f,ty,p,af,gd⟩ (.val (.pointer (some ⟨b,q+o,none⟩))):=
 iS λI a w he hg=>by
  have e:a.eval y=_:=h I a he hg
  simp only[execOp,e,Sem.run_bind,Kh hf (by simpa using U) b q,Result.andThen_ok]
  rfl
theorem Kk {b q:Nat} {x:AV} {l:List AV} (k:Nat) (hT:Ty P T false n m zv) (h:At Γ g y (.val (.pointer (some ⟨b,q,none⟩)))) (hH:H[k]?=some (Own.box b T' l)) (hx:l[q]?=some x):
 Ok P H Γ g ⟨d,.load T y,ty,p,af,gd⟩ x:=
 gB λbase I a w he hm hw hg=>by
  have e:a.eval y=_:=h I a he hg
  obtain⟨cs,hb,hl⟩:=(hw.all _ (List.mem_of_getElem? hH)).1
  obtain⟨c,hc,EH,_⟩:=hl.get hx
  refine⟨c,?_,EH⟩
  have xH:w.cell? ⟨b,q,none⟩=some c:=by simp only[World.cell?,hb];simpa using hc
  simp only[execOp,e,Instr.loadAt,Instr.sureAddr,Sem.run_bind,Sem.run_pure,Result.andThen_ok,zu hT xH]
theorem EJ {b q:Nat} {l l':List AV} (k:Nat) (hT:Ty P T true n m zv) (h:At Γ g y (.val (.pointer (some ⟨b,q,none⟩)))) (hH:H[k]?=some (Own.box b T' l)) (hx:(l.drop q).take n=l') (hn:l'.length=n):
 Ok P H Γ g ⟨d,.load T y,ty,p,af,gd⟩ (.agg l'):=
 gB λbase I a w he hm hw hg=>by
  have e:a.eval y=_:=h I a he hg
  obtain⟨cs,hb,hl⟩:=(hw.all _ (List.mem_of_getElem? hH)).1
  have pq:=(hl.drop q).take n
  rw[hx] at pq
  refine⟨.agg ((cs.toList.drop q).take n).toArray,?_,_,rfl,by simpa using pq⟩
  have h4:((cs.toList.drop q).take n).length=n:=by rw[pq.length,hn]
  have h3:∀j v,((cs.toList.drop q).take n)[j]?=some v->w.cell? ((⟨b,q,none⟩:Addr).add j)=some v:=λj v hv=>by
   rw[add_plain]
   simp only[World.cell?,hb,Option.isSome_none,Bool.false_eq_true,if_false]
   rw[List.getElem?_take] at hv
   split at hv
   ·simpa using hv
   ·cases hv
  simp only[execOp,e,Instr.loadAt,Instr.sureAddr,Sem.run_bind,Sem.run_pure,Result.andThen_ok,zw hT h4 h3]
theorem zx {s:Nat} {l:List (List AV)} (hT:P.underlying T=some (.slice E)) (h:At Γ g y (.rows s l)):Ok P H Γ g ⟨d,.call ⟨.builtin .len,#[y],#[T]⟩,ty,p,af,gd⟩ (.int l.length):=
 iS λI a w he hg=>by
  obtain⟨q,cap,e,_⟩:=h I a he hg
  simp only[execOp,resolve,List.map_toArray,List.map_cons,List.map_nil,e]
  simp[go_sem,Builtin.len_,run_underlying hT]
theorem EK {q:Option Addr} {k cap:Nat} (hT:P.underlying T=some (.slice E)) (h:At Γ g y (.val (.slice q k cap))):Ok P H Γ g ⟨d,.call ⟨.builtin .len,#[y],#[T]⟩,ty,p,af,gd⟩ (.int k):=
 iS λI a w he hg=>by
  have e:a.eval y=_:=h I a he hg
  simp only[execOp,resolve,List.map_toArray,List.map_cons,List.map_nil,e]
  simp[go_sem,Builtin.len_,run_underlying hT]
theorem fZ {s:Nat} {ag:Bool} {l:List (List AV)} {i:Int} (hT:P.underlying T=some (.slice E)) (hE:Ty P E ag s m zv) (h:At Γ g y (.rows s l)) (hi:At Γ g z (.int i)) (hb:g=true->0<=i/\i<l.length):
 Ok P H Γ g ⟨d,.indexAddr T y z,ty,p,af,gd⟩ (.ptr (nth l i.toNat)):=
 gB λ_ I a w he hm _ hg=>by
  obtain⟨h0,h1⟩:=hb hg
  have e2:a.eval z=_:=hi I a he hg
  obtain⟨b,off,cap,e,k⟩:=J8 (h I a he hg) (i:=i.toNat) (by omega)
  refine⟨_,?_,_,rfl,k⟩
  have U:(sizeOf E).run P w=.ok s w:=hE.size
  simp only[execOp,e,e2,Instr.indexAt,asIntOf,Sem.run_bind,Sem.run_pure,Result.andThen_ok,run_underlying hT]
  simp[h0,h1,add_plain,U]
end
def xI (I:Im) (w:World) (res:AV):Ending->World->Prop
 |.returned v,w'=>∃I',Step I w I' w'/\res.h I' v
 |_,_=>False
def vM (F:Nat->Prop) (I:Im) (w:World) (res:AV):Ending->World->Prop
 |.returned v,w'=>∃I',fC F I w I' w'/\res.h I' v
 |_,_=>False
theorem vM.all {I:Im} {w:World} {res:AV} {e:Ending} {w':World} (h:vM lu I w res e w'):xI I w res e w':=by
 cases e with
 |returned v=>obtain⟨I',h1,h2⟩:=h;exact⟨I',h1.all,h2⟩
 |panicked _=>exact h.elim
 |outgrown=>exact h.elim
def qf (P:Program) (f:FuncId):Prop:=∀vs w,(callFunc f vs).run P w=.ok (.enter f vs) w
theorem qf.of {P:Program} {f:FuncId} {fn:Func} {code:Code} (hf:P.funcs[f]?=some fn) (hb:fn.body=some code) (hn:(fn.name== "runtime.NumGoroutine")=false):qf P f:=λvs w=>by
 have BG:¬fn.name= "runtime.NumGoroutine" :=by simpa using hn
 simp[callFunc,hf,BG,hb]
def Fn (P:Program) (f:FuncId) (args:List AV) (res:AV):Prop:=
 qf P f/\∀(I:Im) (w:World) (vs:Array Value),dV w I->c8 I args vs.toList->Calls P f vs w (xI I w res)
def mK (k:Nat):List AV->Env
 |[]=>[]
 |x::r=>(k,x)::mK (k+1) r
theorem zy {I:Im}:∀(l:List AV) (vs:List Value) (pre post:List Value),c8 I l vs->
 ∀t x,Env.get t (mK pre.length l)=some x->x.h I ((pre++vs++post).toArray.getD t undef)
 |[],_,_,_,_,t,x,e=>by simp[mK,Env.get] at e
 |y::l,[],_,_,h,_,_,_=>h.elim
 |y::l,v::vs,pre,post,h,t,x,e=>by
  simp only[mK,Env.get] at e
  cases hb:Nat.beq pre.length t with
  |true=>
   rw[hb] at e;simp at e
   obtain rfl:pre.length=t:=Nat.eq_of_beq_eq_true hb
   subst e
   simpa using h.1
  |false=>
   rw[hb] at e
   have:=zy l vs (pre++[v]) post h.2 t x (by simpa using e)
   simpa using this
theorem At.gc {Γ:Env} {g g' b:Bool} {t:Nat} {x:AV} (h:Env.get t Γ=some (AV.cond (g'&&b) x)) (hg:g=true->g'=true):At Γ g (.tmp t) (AV.cond b x):=λ_ _ he e=>by
 have:=he t _ h
 rw[hg e,Bool.true_and] at this
 exact this
section
variable {P:Program} {c:Ctx} {I:Im} {H:List Own} {Γ:Env} {a:Act} {w:World} {Q:Exit->Act->World->Prop}
theorem Fn.intro {f:FuncId} {fn:Func} {code:Code} {args:List AV} {res:AV} (N:Nat) (hf:P.funcs[f]?=some fn) (hb:fn.body=some code) (hn:fn.ntmps=N) (hN:Nat.ble args.length N=true) (oK:(fn.name== "runtime.NumGoroutine")=false)
 (h:∀(W:World) (I:Im) (a:Act),St ⟨W,I,N,lu⟩ I [] (mK 0 args) a W->code.wp P (bodyPost P fn (vM lu I W res)) a W):Fn P f args res:=by
 refine⟨qf.of hf hb oK,λI w vs hm ha=>?_⟩
 refine Calls.mono (R:=vM lu I w res) (calls_of_wp hf hb ?_) λe w' he=>he.all
 have hl:vs.size=args.length:=by simpa using ha.length
 have SX:args.length<=N:=Nat.le_of_ble_eq_true hN
 refine h w I _ ⟨fC.refl hm,cj.nil _ _ _,?_,?_,rfl⟩
 ·intro t x e
  have:=zy args vs.toList [] (List.replicate (fn.ntmps-vs.size) undef) ha t x e
  have heq:(vs++Array.replicate (fn.ntmps-vs.size) undef)=([]++vs.toList++List.replicate (fn.ntmps-vs.size) undef).toArray:=by
   apply Array.toList_inj.1;simp
  rw[heq];exact this
 ·simp[hn,hl];omega
theorem Fn.cast {f:FuncId} {args Kl:List AV} {res xJ:AV} (h:Fn P f args res) (e:args=Kl) (e':res=xJ):Fn P f Kl xJ:=e▸e'▸h
theorem bY {g:Bool} {d:Option Tmp} {f:FuncId} {ys:Array Operand} {ts:Array TypeId} {ty:TypeId} {p:String} {af:Array Edge} {gd:Option (Nat×Bool)} {xs:List AV} {res:AV}
 (hf:Fn P f xs res) (h:∀I a,cP I a Γ->g=true->c8 I xs (ys.map a.eval).toList):Ok P H Γ g ⟨d,.call ⟨.value (.func f),ys,ts⟩,ty,p,af,gd⟩ res:=
 λbase I a w K Q he hm hw hg k=>by
  have hc:=hf.2 I w (ys.map a.eval) hm (h I a he hg)
  unfold Oper.wp
  have hr:(execOp a.eval (⟨d,.call ⟨.value (.func f),ys,ts⟩,ty,p,af,gd⟩:Oper)).run P w=.ok (.enter f (ys.map a.eval)) w:=by
   simp only[execOp,resolve,Act.eval]
   simp[go_sem,hf.1 _ w]
  rw[hr,Oper.upon_enter]
  refine Calls.mono hc λe w' he=>?_
  cases e with
  |returned v=>obtain⟨I',U,hx⟩:=he;exact k v I' w' hx U
  |panicked _=>exact he.elim
  |outgrown=>exact he.elim
theorem aL {g:Bool}:∀I a,cP I a Γ->g=true->c8 I [] ((#[]:Array Operand).map a.eval).toList:=λ_ _ _ _=>by simp[c8]
theorem aw {g:Bool} {y:Operand} {ys:List Operand} {x:AV} {xs:List AV} (h:At Γ g y x) (k:∀I a,cP I a Γ->g=true->c8 I xs (ys.toArray.map a.eval).toList):
 ∀I a,cP I a Γ->g=true->c8 I (x::xs) ((y::ys).toArray.map a.eval).toList:=λI a he hg=>by
 have:=k I a he hg
 simp only[List.map_toArray,List.map_cons] at this⊢
 exact⟨h I a he hg,this⟩
theorem aY {N:Act->World->Prop} (h:N a w):Exit.then N Q .normal a w:=h
theorem cN {N:Act->World->Prop} {i:Nat} (h:Q (.exit i) a w):Exit.then N Q (.exit i) a w:=h
theorem xK {N:Act->World->Prop} (h:Q .ret a w):Exit.then N Q .ret a w:=h
theorem zA {i:Nat} (h:Q .normal a w):Exit.inBlock i Q .normal a w:=h
theorem vN {i:Nat} (h:Q .ret a w):Exit.inBlock i Q .ret a w:=h
theorem gw {i:Nat} (h:Q .normal a w):Exit.inBlock i Q (.exit i) a w:=by simp only[Exit.inBlock,if_true];exact h
theorem SY {i j:Nat} (bj:Nat.beq j i=false) (h:Q (.exit j) a w):Exit.inBlock i Q (.exit j) a w:=by
 have:j≠i:=λe=>by subst e;simp at bj
 simp only[Exit.inBlock,if_neg this];exact h
theorem St.cond {cc:Operand} {t e:Code} {b:Bool} (U:St c I H Γ a w) (hc:At Γ true cc (.bool b)) (h1:b=true->t.wp P Q a w) (h2:b=false->e.wp P Q a w):(Code.cond cc t e).wp P Q a w:=
 wp_cond_split (hc I a U.env rfl) h1 h2
def Env.pr (ms:List Nat) (Γ:Env):Env:=Γ.filter λp=>!ms.contains p.1
theorem Env.EL {ms:List Nat} {t:Nat} {x:AV}:∀{Γ:Env},Env.get t (Env.pr ms Γ)=some x->Env.get t Γ=some x/\ms.contains t=false
 |[],h=>by simp[Env.pr,Env.get] at h
 |p::r,h=>by
  have ih:=λk=>Env.EL (ms:=ms) (t:=t) (x:=x) (Γ:=r) k
  unfold Env.pr at h ih
  rw[List.filter_cons] at h
  cases hm:ms.contains p.1 with
  |true=>
   rw[hm] at h
   have:=ih (by simpa using h)
   refine⟨?_,this.2⟩
   simp only[Env.get]
   cases hb:Nat.beq p.1 t with
   |true=>
    obtain rfl:p.1=t:=Nat.eq_of_beq_eq_true hb
    rw[this.2] at hm;cases hm
   |false=>simpa using this.1
  |false=>
   rw[hm] at h
   simp only[Bool.not_false,if_true,Env.get] at h⊢
   cases hb:Nat.beq p.1 t with
   |true=>
    rw[hb] at h
    obtain rfl:p.1=t:=Nat.eq_of_beq_eq_true hb
    exact⟨h,hm⟩
   |false=>
    rw[hb] at h
    exact ih h
def Env.le (Γ' Γ:Env):Prop:=∀t x,Env.get t Γ'=some x->Env.get t Γ=some x
theorem Env.le_nil {Γ:Env}:Env.le [] Γ:=λ_ _ h=>by simp[Env.get] at h
theorem Env.SZ {Γ Γ':Env} {t:Nat} {x:AV} (hx:Env.get t Γ=some x) (h:Env.le Γ' Γ):Env.le ((t,x)::Γ') Γ:=λs y e=>by
 simp only[Env.get] at e
 cases hb:Nat.beq t s with
 |true=>rw[hb] at e;obtain rfl:t=s:=Nat.eq_of_beq_eq_true hb;simp at e;subst e;exact hx
 |false=>rw[hb] at e;exact h s y e
theorem St.weaken {Γ':Env} (U:St c I H Γ a w) (h:cP I a Γ->cP I a Γ'):St c I H Γ' a w:=⟨U.step,U.own,h U.env,U.size,U.defers⟩
theorem St.le {Γ':Env} (U:St c I H Γ a w) (h:Env.le Γ' Γ):St c I H Γ' a w:=U.weaken λhe t x e=>he t x (h t x e)
theorem cP.append {Γ':Env} (h':cP I a Γ') (h:cP I a Γ):cP I a (Γ'++Γ):=by
 intro t x e
 induction Γ' with
 |nil=>exact h t x e
 |cons p r ih=>
  simp only[List.cons_append,Env.get] at e
  have hr:cP I a r->cP I a r:=id
  cases hb:Nat.beq p.1 t with
  |true=>rw[hb] at e;exact h' t x (by simp only[Env.get,hb];exact e)
  |false=>
   rw[hb] at e
   have key:∀(s:Env),(∀u z,Env.get u s=some z->z.h I (a.tmps.getD u undef)\/u≠t)->Env.get t (s++Γ)=some x->x.h I (a.tmps.getD t undef):=by
    intro s
    induction s with
    |nil=>intro _ e;exact h t x e
    |cons q s zB=>
     intro U e
     simp only[List.cons_append,Env.get] at e
     cases hq:Nat.beq q.1 t with
     |true=>
      rw[hq] at e
      exact(U t x (by simp only[Env.get,hq];exact e)).resolve_right (by simp)
     |false=>
      rw[hq] at e
      refine zB (λu z hz=>?_) e
      by_cases hu:u=t
      ·subst hu
       exact U u z (by simp only[Env.get,hq];exact hz)
      ·exact .inr hu
   refine key r (λu z hz=>?_) e
   by_cases hu:u=t
   ·subst hu
    exact .inl (h' u z (by simp only[Env.get,hb];exact hz))
   ·exact .inr hu
structure oL (σ:Type) where
 env:σ->Env
 own:σ->List Own
 ok:σ->Prop
def oL.holds {σ:Type} (m:oL σ) (c:Ctx) (Γ0:Env) (x:σ) (a:Act) (w:World):Prop:=m.ok x/\∃I,St c I (m.own x) (m.env x++Γ0) a w
theorem St.EM {σ:Type} {m:oL σ} {Γ0:Env} (U:St c I H Γ a w) (x:σ) (hH:H=m.own x) (aj:m.ok x) (h1:Env.le (m.env x) Γ) (h0:Env.le Γ0 Γ):m.holds c Γ0 x a w:=by
 subst hH
 exact⟨aj,I,U.weaken λhe=>cP.append (λt x e=>he t x (h1 t x e)) (λt x e=>he t x (h0 t x e))⟩
theorem Env.BH {ms:List Nat} {Γ:Env}:Env.le (Env.pr ms Γ) Γ:=λ_ _ h=>(Env.EL h).1
theorem Env.jf {ms:List Nat} {Γ Γ':Env} {t:Nat} {x:AV} (ht:ms.contains t=true) (h:Env.le (Env.pr ms Γ) Γ'):Env.le (Env.pr ms Γ) ((t,x)::Γ'):=λs y e=>by
 simp only[Env.get]
 cases hb:Nat.beq t s with
 |true=>
  obtain rfl:t=s:=Nat.eq_of_beq_eq_true hb
  rw[(Env.EL e).2] at ht;cases ht
 |false=>exact h s y e
theorem St.loop {σ:Type} (m:oL σ) (μ:σ->Nat) {Γ0:Env} {body:Code} (x:σ) (h0:m.holds c Γ0 x a w)
 (round:∀x I a w,m.ok x->St c I (m.own x) (m.env x++Γ0) a w->body.wp P (Exit.then (λa w=>∃y,μ y<μ x/\m.holds c Γ0 y a w) Q) a w):(Code.loop body).wp P Q a w:=by
 refine wp_loop_ghost (λn a w=>∃y,μ y=n/\m.holds c Γ0 y a w) (μ x) ⟨x,rfl,h0⟩ ?_
 rintro n a w ⟨y,rfl,aj,I,U⟩
 refine wp_mono (round y I a w aj U) λe a' w' hq=>?_
 cases e with
 |normal=>obtain⟨z,h1,h2⟩:=hq;exact⟨μ z,h1,z,rfl,h2⟩
 |_=>exact hq
theorem Env.le_rfl:Env.le Γ Γ:=λ_ _ h=>h
theorem Env.dK {Γ':Env} {t:Nat} {x x':AV} (hx:Env.get t Γ=some x') (e:x'=x) (h:Env.le Γ' Γ):Env.le ((t,x)::Γ') Γ:=Env.SZ (by rw[hx,e]) h
def BI {σ:Type} (m:oL σ) (μ:σ->Nat) (x:σ) (c:Ctx) (Γ0:Env) (a:Act) (w:World):Prop:=∃y,μ y<μ x/\m.holds c Γ0 y a w
def EN {σ:Type} (m:oL σ) (c:Ctx) (Γ0:Env) (a:Act) (w:World):Prop:=∃z,m.holds c Γ0 z a w
theorem St.EO {σ:Type} (ms:List Nat) (m:oL σ) (μ:σ->Nat) {body:Code} (x:σ) (U:St c I H Γ a w) (hH:H=m.own x) (aj:m.ok x) (h1:Env.le (m.env x) Γ)
 (round:∀x I a w,m.ok x->St c I (m.own x) (m.env x++Env.pr ms Γ) a w->body.wp P (Exit.then (BI m μ x c (Env.pr ms Γ)) Q) a w):(Code.loop body).wp P Q a w:=
 St.loop m μ x (U.EM x hH aj h1 Env.BH) round
theorem St.again {σ:Type} {m:oL σ} {μ:σ->Nat} {x:σ} {Γ0:Env} (y:σ) (U:St c I H Γ a w) (hμ:μ y<μ x) (aj:m.ok y) (hH:H=m.own y) (h1:Env.le (m.env y) Γ) (h0:Env.le Γ0 Γ):BI m μ x c Γ0 a w:=
 ⟨y,hμ,U.EM y hH aj h1 h0⟩
theorem St.meet {σ:Type} {m:oL σ} {Γ0:Env} (y:σ) (U:St c I H Γ a w) (aj:m.ok y) (hH:H=m.own y) (h1:Env.le (m.env y) Γ) (h0:Env.le Γ0 Γ):EN m c Γ0 a w:=
 ⟨y,U.EM y hH aj h1 h0⟩
theorem St.cut {σ:Type} (ms:List Nat) (m:oL σ) {x y:Code} (_hs:St c I H Γ a w) (h1:x.wp P (Exit.then (EN m c (Env.pr ms Γ)) Q) a w)
 (h2:∀z I a w,m.ok z->St c I (m.own z) (m.env z++Env.pr ms Γ) a w->y.wp P Q a w):(Code.seq x y).wp P Q a w:=by
 refine wp_seq (wp_mono h1 λe a' w' hq=>?_)
 cases e with
 |normal=>obtain⟨z,aj,I,U⟩:=hq;exact h2 z I a' w' aj U
 |_=>exact hq
theorem St.region {id:Nat} {l:List Oper} (h:wpList P l.toArray Q l a w):(Code.region id l.toArray false).wp P Q a w:=wp_region_lit h
theorem BJ {t:Nat} {b:Bool} (h:a.tmps.getD t undef=.bool b):a.tmps[t]?=some (.bool b):=by
 rw[Array.getD_eq_getD_getElem?] at h
 cases e:a.tmps[t]? with
 |none=>rw[e] at h;simp[undef] at h
 |some v=>rw[e] at h;simpa using h
theorem Km {t:Nat} (h:a.tmps.getD t undef=undef):a.tmps[t]?=none\/a.tmps[t]?=some undef:=by
 rw[Array.getD_eq_getD_getElem?] at h
 cases e:a.tmps[t]? with
 |none=>exact .inl rfl
 |some v=>rw[e] at h;simp at h;exact .inr (by rw[h])
def jG (ops:Array Oper) (Γ:Env) (o:Oper) (G:Bool):Prop:=∀I a,cP I a Γ->Region.wanted o (yielded ops a.tmps)=G
theorem Kn {ops:Array Oper} {o:Oper} {j t:Nat} {b:Bool} (h:o.guard=some (j,true)) (hj:(ops[j]?).bind (·.dst)=some t) (ht:Env.get t Γ=some (.bool b)):jG ops Γ o b:=λI a he=>by
 have:=BJ (he t _ ht)
 simp only[Region.wanted,h,yielded,hj,Option.bind_some,this]
 cases b<;>rfl
theorem S0 {ops:Array Oper} {o:Oper} {j t:Nat} {b:Bool} (h:o.guard=some (j,false)) (hj:(ops[j]?).bind (·.dst)=some t) (ht:Env.get t Γ=some (.bool b)):jG ops Γ o (!b):=λI a he=>by
 have:=BJ (he t _ ht)
 simp only[Region.wanted,h,yielded,hj,Option.bind_some,this]
 cases b<;>rfl
theorem S1 {ops:Array Oper} {o:Oper} {j t:Nat} {g b:Bool} (h:o.guard=some (j,true)) (hj:(ops[j]?).bind (·.dst)=some t) (ht:Env.get t Γ=some (.cond g (.bool b))):jG ops Γ o (g&&b):=λI a he=>by
 have hc:=he t _ ht
 cases g
 ·rcases Km (hc.2 rfl) with e|e<;>simp[Region.wanted,h,yielded,hj,e,undef]
 ·have:=BJ (hc.1 rfl)
  simp only[Region.wanted,h,yielded,hj,Option.bind_some,this]
  cases b<;>rfl
theorem S2 {ops:Array Oper} {o:Oper} {j t:Nat} {g b:Bool} (h:o.guard=some (j,false)) (hj:(ops[j]?).bind (·.dst)=some t) (ht:Env.get t Γ=some (.cond g (.bool b))):jG ops Γ o (g&&!b):=λI a he=>by
 have hc:=he t _ ht
 cases g
 ·rcases Km (hc.2 rfl) with e|e<;>simp[Region.wanted,h,yielded,hj,e,undef]
 ·have:=BJ (hc.1 rfl)
  simp only[Region.wanted,h,yielded,hj,Option.bind_some,this]
  cases b<;>rfl
theorem St.BK {ops:Array Oper} {rest:List Oper} {o:Oper} {d:Nat} {x:AV} {G:Bool} (U:St c I H Γ a w) (hg:jG ops Γ o G) (ho:o.dst=some d) (hd:Nat.blt d c.n=true) (ok:Ok P H Γ G o x)
 (k:∀I' a' w',St c I' H ((d,.cond G x)::Γ) a' w'->wpList P ops Q rest a' w'):wpList P ops Q (o::rest) a w:=by
 unfold wpList
 rw[hg I a U.env]
 cases G with
 |true=>
  rw[if_pos rfl]
  refine .inl (ok c.own I a w _ _ U.env U.step.c9 U.own rfl λv I' w' hx s=>k I' _ w' ?_)
  rw[ho]
  exact U.put (by simpa using hd) ⟨λ_=>hx,λh=>(by cases h)⟩ s
 |false=>
  rw[if_neg (by simp)]
  refine k I _ w ?_
  rw[ho]
  exact U.put (by simpa using hd) ⟨λh=>(by cases h),λ_=>rfl⟩ (Step.refl U.step.c9)
end
def Env.only (ts:List Nat) (Γ:Env):Env:=Γ.filter λp=>ts.contains p.1
theorem Env.EP {ts:List Nat} {t:Nat} {x:AV}:∀{Γ:Env},Env.get t (Env.only ts Γ)=some x->Env.get t Γ=some x/\ts.contains t=true
 |[],h=>by simp[Env.only,Env.get] at h
 |p::r,h=>by
  have ih:=λk=>Env.EP (ts:=ts) (t:=t) (x:=x) (Γ:=r) k
  unfold Env.only at h ih
  rw[List.filter_cons] at h
  cases hm:ts.contains p.1 with
  |false=>
   rw[hm] at h
   have:=ih (by simpa using h)
   refine⟨?_,this.2⟩
   simp only[Env.get]
   cases hb:Nat.beq p.1 t with
   |true=>
    obtain rfl:p.1=t:=Nat.eq_of_beq_eq_true hb
    rw[this.2] at hm;cases hm
   |false=>simpa using this.1
  |true=>
   rw[hm] at h
   simp only[if_true,Env.get] at h⊢
   cases hb:Nat.beq p.1 t with
   |true=>
    rw[hb] at h
    obtain rfl:p.1=t:=Nat.eq_of_beq_eq_true hb
    exact⟨h,hm⟩
   |false=>
    rw[hb] at h
    exact ih h
def pt (P:Program) (H:List Own) (ops:Array Oper) (Γ:Env) (o:Oper) (x:AV):Prop:=
 ∀(base:Nat->Prop) (I:Im) (a:Act) (w:World) (K:Act->World->Prop) (Q:Exit->Act->World->Prop),cP I a Γ->dV w I->cj base I w H->
  (∀v I' w',x.h I' v->Step I w I' w'->K (a.put o.dst v) w')->
  if Region.wanted o (yielded ops a.tmps) then o.wp P a w K Q else K (a.put o.dst undef) w
section
variable {P:Program} {H:List Own} {Γ:Env}
theorem pt.of {ops:Array Oper} {o:Oper} {x:AV} (hg:o.guard=none) (ok:Ok P H Γ true o x):pt P H ops Γ o x:=λbase I a w K Q he hm hw k=>by
 rw[if_pos (by simp[Region.wanted,hg])]
 exact ok base I a w K Q he hm hw rfl k
theorem pt.BL {ops:Array Oper} {o:Oper} {x:AV} {G:Bool} (hg:jG ops Γ o G) (ok:Ok P H Γ G o x):pt P H ops Γ o (.cond G x):=λbase I a w K Q he hm hw k=>by
 rw[hg I a he]
 cases G with
 |true=>
  rw[if_pos rfl]
  exact ok base I a w K Q he hm hw rfl λv I' w' hx s=>k v I' w' ⟨λ_=>hx,λh=>(by cases h)⟩ s
 |false=>
  rw[if_neg (by simp)]
  exact k undef I w ⟨λh=>(by cases h),λ_=>rfl⟩ (Step.refl hm)
def s8 (P:Program) (H:List Own) (ops:Array Oper):Env->List Oper->List AV->Prop
 |_,[],[]=>True
 |Γ,o::os,x::xs=>pt P H ops (Γ.only (o.looksAt ops)) o x/\s8 P H ops ((o.dst.getD 0,x)::Γ) os xs
 |_,_,_=>False
theorem s8.n {ops:Array Oper}:s8 P H ops Γ [] []:=trivial
theorem s8.c {ops:Array Oper} {o:Oper} {os:List Oper} {x:AV} {xs:List AV} (h:pt P H ops (Γ.only (o.looksAt ops)) o x) (k:s8 P H ops ((o.dst.getD 0,x)::Γ) os xs):s8 P H ops Γ (o::os) (x::xs):=⟨h,k⟩
def ru (Γ:Env):List Oper->List AV->Env
 |o::os,x::xs=>ru ((o.dst.getD 0,x)::Γ) os xs
 |_,_=>Γ
end
def zC (s:List Nat) (x:Nat):List Nat:=if s.contains x then s else x::s
theorem Ko {s:List Nat} {x k:Nat} (h:k∈zC s x):k=x\/k∈s:=by
 unfold zC at h;split at h
 ·exact .inr h
 ·exact List.mem_cons.1 h
def Kp (s t:List Nat):List Nat:=t.foldl zC s
theorem Kq {k:Nat}:∀{t s:List Nat},k∈Kp s t->k∈s\/k∈t
 |[],s,h=>.inl h
 |x::t,s,h=>by
  rcases Kq (t:=t) (s:=zC s x) h with h|h
  ·rcases Ko h with rfl|h
   ·exact .inr (by simp)
   ·exact .inl h
  ·exact .inr (by simp[h])
def uy (acc:List (List Nat)):List Edge->List Nat
 |[]=>[]
 |e::r=>if Region.binds .any e then Kp (zC (uy acc r) e.on) (acc.getD e.on []) else uy acc r
def jZ:List (List Nat)->List Oper->List (List Nat)
 |acc,[]=>acc
 |acc,o::os=>jZ (acc++[uy acc o.after.toList]) os
theorem Kr {S:Nat->Bool} {acc:List (List Nat)} (Ks:∀i k,k∈acc.getD i []->S i=true->S k=true):∀{es:List Edge},(∀e∈es,Region.binds .any e=true->S e.on=true)->∀k∈uy acc es,S k=true
 |[],_,k,h=>by simp[uy] at h
 |e::r,he,k,h=>by
  have ih:=Kr Ks (es:=r) (λe' h'=>he e' (by simp[h']))
  unfold uy at h
  split at h
  ·rename_i hb
   have Kt:=he e (by simp) hb
   rcases Kq h with h|h
   ·rcases Ko h with rfl|h
    ·exact Kt
    ·exact ih k h
   ·exact Ks _ _ h Kt
  ·exact ih k h
theorem BM {S:Nat->Bool}:∀(os:List Oper) (acc:List (List Nat)),(∀i k,k∈acc.getD i []->S i=true->S k=true)->
 (∀i o,os[i]?=some o->S (acc.length+i)=true->∀e∈o.after.toList,Region.binds .any e=true->S e.on=true)->
 ∀i k,k∈(jZ acc os).getD i []->S i=true->S k=true
 |[],acc,h,_=>h
 |o::os,acc,h,U=>by
  unfold jZ
  refine BM os _ (λi k hk hi=>?_) (λi o' ho hi=>?_)
  ·by_cases bw:i<acc.length
   ·refine h i k ?_ hi
    simpa[List.getD,List.getElem?_append_left bw] using hk
   ·by_cases heq:i=acc.length
    ·subst heq
     have eY:k∈uy acc o.after.toList:=by simpa[List.getD] using hk
     by_cases hS:S acc.length=true
     ·exact Kr h (U 0 o rfl (by simpa using hS)) k eY
     ·exact absurd hi hS
    ·have:(acc++[uy acc o.after.toList])[i]?=none:=by simp;omega
     rw[List.getD_eq_getElem?_getD,this] at hk;simp at hk
  ·have:=U (i+1) o' (by simpa using ho)
   simp only[List.length_append,List.length_cons,List.length_nil] at hi
   exact this (by rw[<-hi];congr 1;omega)
def slotsOf (ops:Array Oper) (o:Oper):List Nat:=o.dst.toList++o.looksAt ops
abbrev oM:=Nat×Nat×AV
def eZ:Nat->List Oper->List AV->List oM
 |k,o::os,x::xs=>(k,o.dst.getD 0,x)::eZ (k+1) os xs
 |_,_,_=>[]
def fe (l:List oM):Env:=l.map (·.2)
theorem zD {t:Nat} {Γ:Env} {p q:oM->Bool}:∀(L:List oM),(∀e∈L,e.2.1=t->p e=q e)->Env.get t (fe (L.filter p)++Γ)=Env.get t (fe (L.filter q)++Γ)
 |[],_=>rfl
 |e::L,h=>by
  have ih:=zD (t:=t) (Γ:=Γ) (p:=p) (q:=q) L (λe' h'=>h e' (by simp[h']))
  by_cases ht:e.2.1=t
  ·have:=h e (by simp) ht
   cases hp:p e
   ·have hq:q e=false:=by rw[<-this];exact hp
    simpa[List.filter_cons,hp,hq] using ih
   ·have hq:q e=true:=by rw[<-this];exact hp
    simp[hp,hq,fe,Env.get,ht]
  ·have hb:Nat.beq e.2.1 t=false:=by
    cases hb:Nat.beq e.2.1 t with
    |false=>rfl
    |true=>exact absurd (Nat.eq_of_beq_eq_true hb) ht
   have key:∀(r:Bool->List oM),True:=λ_=>trivial
   cases hp:p e<;>cases hq:q e<;>simp[hp,hq,fe,Env.get,hb]<;>simpa[fe] using ih
theorem ER {t i:Nat} {x:AV} {Γ:Env} {p:oM->Bool}:∀(L:List oM),L.Pairwise (λe f=>f.1<e.1)->(i,t,x)∈L->p (i,t,x)=true->(∀e∈L,p e=true->e.2.1=t->e.1<=i)->
 Env.get t (fe (L.filter p)++Γ)=some x
 |[],_,h,_,_=>by simp at h
 |e::L,hL,hm,hp,hle=>by
  rcases List.mem_cons.1 hm with rfl|nZ
  ·simp[hp,fe,Env.get]
  ·have bw:i<e.1:=(List.pairwise_cons.1 hL).1 _ nZ
   have ih:=ER (Γ:=Γ) L (List.pairwise_cons.1 hL).2 nZ hp (λe' h'=>hle e' (by simp[h']))
   cases ES:p e
   ·simpa[List.filter_cons,ES] using ih
   ·have bj:e.2.1≠t:=λht=>by have:=hle e (by simp) ES ht;omega
    have hb:Nat.beq e.2.1 t=false:=by
     cases hb:Nat.beq e.2.1 t with
     |false=>rfl
     |true=>exact absurd (Nat.eq_of_beq_eq_true hb) bj
    simpa[List.filter_cons,ES,fe,Env.get,hb] using ih
theorem Ku {e:oM}:∀{k:Nat} {os:List Oper} {xs:List AV},e∈eZ k os xs->∃i o,os[i]?=some o/\xs[i]?=some e.2.2/\e.1=k+i/\e.2.1=o.dst.getD 0
 |k,[],_,h=>by simp[eZ] at h
 |k,o::os,[],h=>by simp[eZ] at h
 |k,o::os,x::xs,h=>by
  rcases List.mem_cons.1 h with rfl|h
  ·exact⟨0,o,rfl,rfl,rfl,rfl⟩
  ·obtain⟨i,o',h1,h2,h3,h4⟩:=Ku h
   exact⟨i+1,o',by simpa using h1,by simpa using h2,by omega,h4⟩
theorem S3 {i:Nat} {o:Oper} {x:AV}:∀{k:Nat} {os:List Oper} {xs:List AV},os[i]?=some o->xs[i]?=some x->(k+i,o.dst.getD 0,x)∈eZ k os xs:=by
 induction i with
 |zero=>intro k os xs h1 h2;cases os<;>cases xs<;>simp at h1 h2;subst h1 h2;simp[eZ]
 |succ i ih=>
  intro k os xs h1 h2
  cases os<;>cases xs<;>simp at h1 h2
  have:=ih (k:=k+1) h1 h2
  simp only[eZ,List.mem_cons]
  exact .inr (by rw[show k+(i+1)=k+1+i from by omega];exact this)
theorem BN:∀(k:Nat) (os:List Oper) (xs:List AV),(eZ k os xs).Pairwise (λe f=>e.1<f.1)/\∀e∈eZ k os xs,k<=e.1
 |k,[],_=>by simp[eZ]
 |k,o::os,[]=>by simp[eZ]
 |k,o::os,x::xs=>by
  have ih:=BN (k+1) os xs
  refine⟨List.pairwise_cons.2 ⟨λe he=>by have:=ih.2 e he;simp;omega,ih.1⟩,λe he=>?_⟩
  rcases List.mem_cons.1 he with rfl|he
  ·simp
  ·have:=ih.2 e he;omega
theorem s8.at {P:Program} {H:List Own} {ops:Array Oper} {Γ0:Env}:∀(os:List Oper) (xs:List AV) (k:Nat) (done:List oM),s8 P H ops (fe done++Γ0) os xs->(∀e∈done,e.1<k)->
 os.length=xs.length/\∀i o x,os[i]?=some o->xs[i]?=some x->pt P H ops ((fe (((eZ k os xs).reverse++done).filter λe=>decide (e.1<k+i))++Γ0).only (o.looksAt ops)) o x
 |[],[],_,_,_,_=>⟨rfl,λi o x h=>by simp at h⟩
 |o::os,x::xs,k,done,h,hd=>by
  obtain⟨h1,h2⟩:=h
  have ih:=s8.at os xs (k+1) ((k,o.dst.getD 0,x)::done) h2 (λe he=>by
   rcases List.mem_cons.1 he with rfl|he
   ·simp
   ·have:=hd e he;omega)
  refine⟨by simp[ih.1],λi o' x' ho hx=>?_⟩
  have zE:(eZ k (o::os) (x::xs)).reverse++done=(eZ (k+1) os xs).reverse++((k,o.dst.getD 0,x)::done):=by simp[eZ]
  rw[zE]
  cases i with
  |zero=>
   simp at ho hx;subst ho hx
   have hf:((eZ (k+1) os xs).reverse++((k,o.dst.getD 0,x)::done)).filter (λe=>decide (e.1<k+0))=done:=by
    rw[List.filter_append]
    have e1:(eZ (k+1) os xs).reverse.filter (λe=>decide (e.1<k+0))=[]:=by
     rw[List.filter_eq_nil_iff]
     intro e he
     have:=(BN (k+1) os xs).2 e (List.mem_reverse.1 he)
     simp;omega
    rw[e1,List.filter_cons]
    simp only[Nat.add_zero,Nat.lt_irrefl,decide_false,Bool.false_eq_true,if_false,List.nil_append]
    rw[List.filter_eq_self]
    intro e he
    simpa using hd e he
   rw[hf];exact h1
  |succ i=>
   have:=ih.2 i o' x' (by simpa using ho) (by simpa using hx)
   rw[show k+(i+1)=k+1+i from by omega]
   exact this
 |[],_::_,_,_,h,_=>h.elim
 |_::_,[],_,_,h,_=>h.elim
theorem Kv:∀(os:List Oper) (xs:List AV) (k:Nat) (Γ:Env),ru Γ os xs=fe (eZ k os xs).reverse++Γ
 |[],_,_,_=>by simp[ru,eZ,fe]
 |_::_,[],_,_=>by simp[ru,eZ,fe]
 |o::os,x::xs,k,Γ=>by
  rw[ru,Kv os xs (k+1)]
  simp[eZ,fe]
section
variable {P:Program} {c:Ctx} {I:Im} {H:List Own} {Γ:Env} {a:Act} {w:World} {Q:Exit->Act->World->Prop}
theorem filter_lt {α:Type} {p q:α->Bool} {i:α}:∀{l:List α},i∈l->p i=true->q i=false->(∀j,q j=true->p j=true)->(l.filter q).length<(l.filter p).length
 |[],h,_,_,_=>by simp at h
 |x::l,h,hp,hq,ET=>by
  have hle:∀l:List α,(l.filter q).length<=(l.filter p).length:=λl=>by
   induction l with
   |nil=>simp
   |cons y l ih=>
    cases hy:q y
    ·cases EU:p y<;>simp[hy,EU]<;>omega
    ·simp[hy,ET y hy];omega
  rcases List.mem_cons.1 h with rfl|h
  ·have:=hle l
   simp[hp,hq];omega
  ·have ih:=filter_lt h hp hq ET
   cases hy:q x
   ·cases EU:p x<;>simp[hy,EU]<;>omega
   ·simp[hy,ET x hy];omega
theorem BO {listed:Array Bool} {i j:Nat} (hi:i<listed.size) (v:Bool):(listed.setIfInBounds i true).getD j v=if j=i then true else listed.getD j v:=by
 by_cases h:j=i
 ·subst h;simp[hi]
 ·rw[if_neg h,Array.getD_eq_getD_getElem?,Array.getElem?_setIfInBounds_ne (λe=>h e.symm),<-Array.getD_eq_getD_getElem?]
end
def Own.gone:Own:=⟨none,λ_ _=>True,λ_ _ _ _ _ _ _=>trivial⟩
section
variable {base:Nat->Prop} {I:Im} {w:World} {H:List Own}
theorem cj.push (h:cj base I w H) (hb:base w.heap.size) {o:Obj} {x:Own} (kr:x.ei=some w.heap.size) (hm:dV w I) (ok:x.ok I (w.alloc o)):cj base I (w.alloc o) (H++[x]):=by
 have h':=h.step (Step.alloc hm o)
 refine⟨λy hy=>?_,?_⟩
 ·rcases List.mem_append.1 hy with hy|hy
  ·exact h'.all y hy
  ·obtain rfl:y=x:=by simpa using hy
   refine⟨ok,λb e=>?_⟩
   rw[kr] at e;cases e
   exact⟨hb,hm.none (Nat.le_refl _),by simp⟩
 ·rw[List.filterMap_append,List.nodup_append]
  refine⟨h'.nodup,by simp[kr],λb vP b' ah=>?_⟩
  obtain⟨y,hy,e⟩:=List.mem_filterMap.1 vP
  have:=((h.all y hy).2 b e).2.2
  simp[kr] at ah
  omega
theorem s9 {x:Own} {k:Nat} (hd:(H.filterMap Own.ei).Nodup) (hx:∀b,x.ei=some b->(∃y,H[k]?=some y/\y.ei=some b)\/∀y∈H,y.ei≠some b):
 ((H.set k x).filterMap Own.ei).Nodup:=by
 induction H generalizing k with
 |nil=>simp
 |cons z H ih=>
  cases k with
  |zero=>
   simp only[List.set_cons_zero]
   cases hb:x.ei with
   |none=>
    rw[List.filterMap_cons,hb]
    rw[List.filterMap_cons] at hd
    cases hz:z.ei with
    |none=>rw[hz] at hd;exact hd
    |some c=>rw[hz] at hd;exact(List.nodup_cons.1 hd).2
   |some b=>
    rw[List.filterMap_cons,hb]
    have jH:(H.filterMap Own.ei).Nodup:=by
     rw[List.filterMap_cons] at hd
     cases hz:z.ei with
     |none=>rw[hz] at hd;exact hd
     |some c=>rw[hz] at hd;exact(List.nodup_cons.1 hd).2
    refine List.nodup_cons.2 ⟨λhm=>?_,jH⟩
    obtain⟨y,hy,e⟩:=List.mem_filterMap.1 hm
    rcases hx b hb with⟨y',h1,h2⟩|h
    ·simp at h1;subst h1
     rw[List.filterMap_cons,h2] at hd
     exact(List.nodup_cons.1 hd).1 (List.mem_filterMap.2 ⟨y,hy,e⟩)
    ·exact h y (by simp[hy]) e
  |succ k=>
   simp only[List.set_cons_succ]
   rw[List.filterMap_cons] at hd⊢
   cases hz:z.ei with
   |none=>
    rw[hz] at hd
    refine ih hd λb hb=>?_
    rcases hx b hb with⟨y,h1,h2⟩|h
    ·exact .inl ⟨y,by simpa using h1,h2⟩
    ·exact .inr λy hy=>h y (by simp[hy])
   |some c=>
    rw[hz] at hd
    obtain⟨h1,h2⟩:=List.nodup_cons.1 hd
    refine List.nodup_cons.2 ⟨λhm=>?_,ih h2 λb hb=>?_⟩
    ·obtain⟨y,hy,e⟩:=List.mem_filterMap.1 hm
     rcases List.mem_or_eq_of_mem_set hy with hy|rfl
     ·exact h1 (List.mem_filterMap.2 ⟨y,hy,e⟩)
     ·rcases hx c e with⟨y',h3,h4⟩|h
      ·exact h1 (List.mem_filterMap.2 ⟨y',List.mem_of_getElem? (by simpa using h3),h4⟩)
      ·exact h z (by simp) hz
    ·rcases hx b hb with⟨y,h3,h4⟩|h
     ·exact .inl ⟨y,by simpa using h3,h4⟩
     ·exact .inr λy hy=>h y (by simp[hy])
theorem cj.write {w':World} {k:Nat} {x x':Own} (h:cj base I w H) (hk:H[k]?=some x) (kr:x'.ei=x.ei) (S4:w'.heap.size=w.heap.size)
 (hw:∀b,some b≠x.ei->w'.heap[b]?=w.heap[b]?) (ok:x'.ok I w'):cj base I w' (H.set k x'):=by
 have lV:k<H.length:=(List.getElem?_eq_some_iff.1 hk).1
 refine⟨λy hy=>?_,s9 h.nodup λb hb=>.inl ⟨x,hk,by rw[<-kr];exact hb⟩⟩
 rw[List.mem_iff_getElem?] at hy
 obtain⟨i,hi⟩:=hy
 by_cases vQ:i=k
 ·subst vQ
  rw[List.getElem?_set_self lV] at hi
  cases hi
  obtain⟨_,h2⟩:=h.all x (List.mem_of_getElem? hk)
  exact⟨ok,λb hb=>by obtain⟨a1,a2,a3⟩:=h2 b (by rw[<-kr];exact hb);exact⟨a1,a2,by omega⟩⟩
 ·rw[List.getElem?_set_ne (λe=>vQ e.symm)] at hi
  obtain⟨h1,h2⟩:=h.all y (List.mem_of_getElem? hi)
  refine⟨y.iR I I w w' (Im.le_refl I) (λb hb=>hw b λe=>?_) h1,λb hb=>by obtain⟨a1,a2,a3⟩:=h2 b hb;exact⟨a1,a2,by omega⟩⟩
  have cy:=h.nodup
  have bj:∀(L:List Own) (i k:Nat),(L.filterMap Own.ei).Nodup->i≠k->L[i]?=some y->L[k]?=some x->False:=by
   intro L
   induction L with
   |nil=>intro i k _ _ hi;simp at hi
   |cons z L ih=>
    intro i k cy bj hi hk
    cases i with
    |zero=>
     cases k with
     |zero=>exact bj rfl
     |succ k=>
      simp at hi hk;subst hi
      rw[List.filterMap_cons,hb] at cy
      exact(List.nodup_cons.1 cy).1 (List.mem_filterMap.2 ⟨x,List.mem_of_getElem? hk,e.symm⟩)
    |succ i=>
     cases k with
     |zero=>
      simp at hi hk;subst hk
      rw[List.filterMap_cons,<-e] at cy
      exact(List.nodup_cons.1 cy).1 (List.mem_filterMap.2 ⟨y,List.mem_of_getElem? hi,hb⟩)
     |succ k=>
      refine ih i k ?_ (by omega) (by simpa using hi) (by simpa using hk)
      rw[List.filterMap_cons] at cy
      cases hz:z.ei with
      |none=>rw[hz] at cy;exact cy
      |some c=>rw[hz] at cy;exact(List.nodup_cons.1 cy).2
  exact bj H i k cy vQ hi hk
theorem fC.write {c:Ctx} {w':World} {b:Nat} (U:fC c.F c.I c.W I w) (hb:c.own b) (hI:I b=none) (S4:w'.heap.size=w.heap.size)
 (S5:w'.os=w.os) (S6:w'.tape=w.tape) (S7:w'.output=w.output) (hw:∀k,k≠b->w'.heap[k]?=w.heap[k]?):fC c.F c.I c.W I w':=
 ⟨U.le,U.gH,λk cs e=>by
  obtain⟨T,fr,hh⟩:=U.c9 k cs e
  exact⟨T,fr,by rw[hw k (λh=>by subst h;rw[hI] at e;cases e)];exact hh⟩,
  ⟨S5.trans U.below.os,S6.trans U.below.tape,S7.trans U.below.output,by have:=U.below.size;omega,λk hk hf=>(hw k (λe=>by subst e;rcases hb with h|h;exact absurd h (by omega);exact hf h)).trans (U.below.block k hk hf)⟩⟩
end
section
variable {P:Program} {c:Ctx} {I:Im} {H:List Own} {Γ:Env} {a:Act} {w:World} {Q:Exit->Act->World->Prop} {ops:Array Oper} {rest:List Oper}
variable {d:Nat} {y z:Operand} {ty T T' E:TypeId} {p:String} {af:Array Edge} {g:Bool} {gd:Option (Nat×Bool)} {n m:Nat} {zv:Value}
theorem St.nj {I':Im} {w':World} {H':List Own} (U:St c I H Γ a w) (bc:fC c.F c.I c.W I' w') (hle:Im.le I I') (ho:cj c.own I' w' H') {d:Nat} (hd:Nat.blt d c.n=true) {x:AV} {v:Value} (hx:x.h I' v):
 St c I' H' ((d,x)::Γ) (a.put (some d) v) w':=
 ⟨bc,ho,(U.env.up hle).put (by rw[U.size];simpa using hd) hx,by simp[Act.put,U.size],U.defers⟩
theorem zF {w:World} {T:TypeId} {v:Value}:(newVar T v).run P w=.ok ⟨w.heap.size,0,none⟩ (w.alloc (.cells v.cells T)):=by
 rfl
theorem S8 {d:Option Tmp} {l:List AV} (h:At Γ g y (.agg l)):Ok P H Γ g ⟨d,.box T y,ty,p,af,gd⟩ (.ptr l):=
 λbase I a w K Q he hm hw hg k=>by
  obtain⟨cs,e,hl⟩:=h I a he hg
  unfold Oper.wp
  simp only[execOp,Instr.box,e,Sem.run_bind,zF,Result.andThen_ok,Sem.run_pure,Value.cells,Oper.upon_value]
  refine k _ _ _ ⟨⟨w.heap.size,0,none⟩,rfl,rfl,cs,by simp[Im.add],?_⟩ (Step.zm hm cs T (0,0))
  have:=(hl.up (Im.zl (cs:=cs) (hm.none (Nat.le_refl _))))
  refine this.cast rfl ?_
  have hlen:=this.length
  simp only[List.drop_zero]
  rw[List.take_of_length_le (by omega)]
theorem zG {v:Value} (h:v.oneCell'=true):v.cells=#[v]:=by
 cases v<;>simp_all[Value.cells,Value.oneCell']
def AV.One (x:AV):Prop:=∀I v,x.h I v->v.oneCell'=true
theorem jR {v:Value} (h:v.oneCell'=true):(AV.val v).One:=λ_ _ e=>by rw[show _=v from e];exact h
theorem j0 {s:Nat} {l:List (List AV)}:(AV.rows s l).One:=λ_ _ ⟨_,_,e,_⟩=>by rw[e];rfl
theorem j1 {l:List AV}:(AV.ptr l).One:=λ_ _ ⟨_,e,_⟩=>by rw[e];rfl
theorem xL {d:Option Tmp} {x:AV} (h:At Γ g y x) (hx:x.One):Ok P H Γ g ⟨d,.box T y,ty,p,af,gd⟩ (.ptr [x]):=
 λbase I a w K Q he hm hw hg k=>by
  have e:=h I a he hg
  unfold Oper.wp
  simp only[execOp,Instr.box,Sem.run_bind,zF,Result.andThen_ok,Sem.run_pure,zG (hx _ _ e),Oper.upon_value]
  refine k _ _ _ ⟨⟨w.heap.size,0,none⟩,rfl,rfl,#[a.eval y],by simp[Im.add],?_⟩ (Step.zm hm _ T (0,0))
  simp only[List.drop_zero,List.length_cons,List.length_nil]
  exact⟨⟨x.up _ _ _ (Im.zl (hm.none (Nat.le_refl _))) e,hx _ _ e⟩,trivial⟩
theorem St.alloc {l:List AV} {ag:Bool} (U:St c I H Γ a w) (hd:Nat.blt d c.n=true) (hT:Ty P T ag n m zv) (hz:∀I,bJ I l zv.cells.toList)
 (k:∀b I a' w',St c I (H++[Own.box b T l]) ((d,.val (.pointer (some ⟨b,0,none⟩)))::Γ) a' w'->wpList P ops Q rest a' w'):
 wpList P ops Q (⟨some d,.alloc T,ty,p,af,none⟩::rest) a w:=by
 unfold wpList
 rw[if_pos (by simp[Region.wanted])]
 left
 unfold Oper.wp
 have vR:(zeroValue T).run P w=.ok zv w:=hT.zero
 simp only[execOp,Instr.alloc,Sem.run_bind,vR,Result.andThen_ok,zF,Sem.run_pure,Oper.upon_value]
 refine k w.heap.size I _ _ (U.nj (U.step.trans (Step.alloc U.step.c9 _)) (Im.le_refl _) (U.own.push (x:=Own.box w.heap.size T l) U.room rfl U.step.c9 ⟨_,s7 w _,hz I⟩) hd rfl)
theorem St.box {l:List AV} (U:St c I H Γ a w) (hd:Nat.blt d c.n=true) (h:At Γ true y (.agg l))
 (k:∀b I a' w',St c I (H++[Own.box b T l]) ((d,.val (.pointer (some ⟨b,0,none⟩)))::Γ) a' w'->wpList P ops Q rest a' w'):
 wpList P ops Q (⟨some d,.box T y,ty,p,af,none⟩::rest) a w:=by
 unfold wpList
 rw[if_pos (by simp[Region.wanted])]
 left
 obtain⟨cs,e,hl⟩:=h I a U.env rfl
 unfold Oper.wp
 simp only[execOp,Instr.box,e,Sem.run_bind,zF,Result.andThen_ok,Sem.run_pure,Value.cells,Oper.upon_value]
 exact k w.heap.size I _ _ (U.nj (U.step.trans (Step.alloc U.step.c9 _)) (Im.le_refl _) (U.own.push (x:=Own.box w.heap.size T l) U.room rfl U.step.c9 ⟨_,s7 w _,hl⟩) hd rfl)
def fy {α:Type} (l:List α) (q:Nat) (x:List α):List α:=l.take q++x++l.drop (q+x.length)
theorem Kw {w:World} {ag:Bool} (hT:Ty P T ag n m zv) {b q:Nat} {cs:Array Value} {v:Value} (hb:w.heap[b]?=some (.cells cs T' (0,0))) (hv:v.cells.size=n) (hq:q+n<=cs.size) (h1:∀u∈v.cells.toList,u.oneCell'=true):
 (storeVar T ⟨b,q,none⟩ v).run P w=.ok () (w.setRow b (fy cs.toList q v.cells.toList).toArray):=by
 have cK:(sizeOf T).run P w=.ok n w:=hT.size
 have bc:=run_storeCells_at P b q T' v.cells.toList 0 cs w hb (by simp;omega) h1
 simp only[Nat.add_zero] at bc
 simp only[storeVar,Sem.run_bind,cK,Result.andThen_ok,hv,ne_eq,not_true_eq_false,if_false,bc]
 simp[fy]
theorem xM {w w':World} {v:Value} {b q:Nat} {K:Act->World->Prop} {Q:Exit->Act->World->Prop} (hy:a.eval y=.pointer (some ⟨b,q,none⟩)) (hz:a.eval z=v)
 (hr:(storeVar T ⟨b,q,none⟩ v).run P w=.ok () w') (k:K a w'):(⟨none,.store T y z,ty,p,af,gd⟩:Oper).wp P a w K Q:=by
 unfold Oper.wp
 simp only[execOp,Instr.storeAt,hy,hz,Instr.sureAddr,Sem.run_bind,Sem.run_pure,Result.andThen_ok,hr,Oper.upon_skip]
 exact k
theorem St.written {H':List Own} {w':World} (U:St c I H Γ a w) (bc:fC c.F c.I c.W I w') (ho:cj c.own I w' H'):St c I H' Γ a w':=
 ⟨bc,ho,U.env,U.size,U.defers⟩
theorem St.BP {ag:Bool} {b q:Nat} {l lx:List AV} {v:Value} (k:Nat) (U:St c I H Γ a w) (hT:Ty P T ag n m zv) (hk:H[k]?=some (Own.box b T' l)) (hv:bJ I lx v.cells.toList) (hn:lx.length=n) (hq:Nat.ble (q+n) l.length=true):
 ∃w',(storeVar T ⟨b,q,none⟩ v).run P w=.ok () w'/\St c I (H.set k (Own.box b T' (fy l q lx))) Γ a w':=by
 obtain⟨⟨cs,hb,hl⟩,h2⟩:=U.own.all _ (List.mem_of_getElem? hk)
 obtain⟨vT,ta,tb⟩:=h2 b rfl
 have hlen:=hl.length
 have pw:=hv.length
 have Kx:q+n<=l.length:=Nat.le_of_ble_eq_true hq
 have cK:cs.size=l.length:=by simpa using hlen
 have hr:=Kw (P:=P) hT (q:=q) (v:=v) hb (by simp at pw;omega) (by omega) hv.one
 refine⟨_,hr,U.written (U.step.write vT ta (by simp) rfl rfl rfl λk' eY=>setRow_other w b k' _ eY) (U.own.write hk rfl (by simp) (λk' eY=>setRow_other w b k' _ λe=>eY (by rw[e];rfl)) ⟨_,setRow_heap w b cs _ T' _ hb,?_⟩)⟩
 have xN:lx.length=v.cells.toList.length:=pw.symm
 simp only[fy,xN]
 exact((hl.take q).append hv).append (hl.drop (q+v.cells.toList.length))
end
section
variable {P:Program} {c:Ctx} {I:Im} {H:List Own} {Γ:Env} {a:Act} {w:World} {Q:Exit->Act->World->Prop} {ops:Array Oper} {rest:List Oper}
variable {d:Nat} {y z:Operand} {ty T T' E:TypeId} {p:String} {af:Array Edge} {g:Bool} {gd:Option (Nat×Bool)} {n m:Nat} {zv:Value}
theorem jI {o:Oper} (hg:o.guard=none) (h:o.wp P a w (wpList P ops Q rest) Q):wpList P ops Q (o::rest) a w:=by
 unfold wpList
 rw[if_pos (by simp[Region.wanted,hg])]
 exact .inl h
theorem Ky {α:Type} {l:List α} {q:Nat} {x:α} (h:q<l.length):fy l q [x]=l.set q x:=by
 rw[List.set_eq_take_append_cons_drop,if_pos h]
 simp[fy]
theorem St.BQ {b q:Nat} {l:List AV} {x:AV} (k:Nat) (U:St c I H Γ a w) (hT:Ty P T false 1 m zv) (hy:At Γ true y (.val (.pointer (some ⟨b,q,none⟩)))) (hz:At Γ true z x) (hx:x.One)
 (hk:H[k]?=some (Own.box b T' l)) (hq:Nat.ble (q+1) l.length=true)
 (kk:∀a' w',St c I (H.set k (Own.box b T' (l.set q x))) Γ a' w'->wpList P ops Q rest a' w'):
 wpList P ops Q (⟨none,.store T y z,ty,p,af,none⟩::rest) a w:=by
 have hv:=hz I a U.env rfl
 have hc:=zG (hx _ _ hv)
 obtain⟨w',hr,ct⟩:=U.BP (q:=q) (lx:=[x]) (v:=a.eval z) k hT hk (by rw[hc];exact⟨⟨hv,hx _ _ hv⟩,trivial⟩) rfl hq
 rw[Ky (Nat.le_of_ble_eq_true hq)] at ct
 exact jI rfl (xM (hy I a U.env rfl) rfl hr (kk _ _ ct))
theorem St.rv {b q:Nat} {l lx:List AV} (k:Nat) (U:St c I H Γ a w) (hT:Ty P T true n m zv) (hy:At Γ true y (.val (.pointer (some ⟨b,q,none⟩)))) (hz:At Γ true z (.agg lx))
 (hk:H[k]?=some (Own.box b T' l)) (hn:lx.length=n) (hq:Nat.ble (q+n) l.length=true)
 (kk:∀a' w',St c I (H.set k (Own.box b T' (fy l q lx))) Γ a' w'->wpList P ops Q rest a' w'):
 wpList P ops Q (⟨none,.store T y z,ty,p,af,none⟩::rest) a w:=by
 obtain⟨cs,hv,hl⟩:=hz I a U.env rfl
 obtain⟨w',hr,ct⟩:=U.BP (q:=q) (lx:=lx) (v:=a.eval z) k hT hk (by rw[hv];exact hl) hn hq
 exact jI rfl (xM (hy I a U.env rfl) rfl hr (kk _ _ ct))
theorem St.Kz {b:Nat} {l lx:List AV} (k:Nat) (U:St c I H Γ a w) (hT:Ty P T true n m zv) (hy:At Γ true y (.val (.pointer (some ⟨b,0,none⟩)))) (hz:At Γ true z (.agg lx))
 (hk:H[k]?=some (Own.box b T' l)) (hn:lx.length=n) (hl:l.length=n)
 (kk:∀a' w',St c I (H.set k (Own.box b T' lx)) Γ a' w'->wpList P ops Q rest a' w'):
 wpList P ops Q (⟨none,.store T y z,ty,p,af,none⟩::rest) a w:=
 U.rv k hT hy hz hk hn (by rw[hl];simp) λa' w' h=>kk a' w' (by
  have e:fy l 0 lx=lx:=by simp[fy];omega
  rwa[e] at h)
theorem St.EV {b:Nat} {l:List AV} {x:AV} (k:Nat) (U:St c I H Γ a w) (hT:Ty P T false 1 m zv) (hy:At Γ true y (.val (.pointer (some ⟨b,0,none⟩)))) (hz:At Γ true z x) (hx:x.One)
 (hk:H[k]?=some (Own.box b T' l)) (hl:l.length=1)
 (kk:∀a' w',St c I (H.set k (Own.box b T' [x])) Γ a' w'->wpList P ops Q rest a' w'):
 wpList P ops Q (⟨none,.store T y z,ty,p,af,none⟩::rest) a w:=
 U.BQ k hT hy hz hx hk (by rw[hl];rfl) λa' w' h=>kk a' w' (by
  have e:l.set 0 x=[x]:=by
   match l,hl with
   |[_],_=>rfl
  rwa[e] at h)
theorem St.gC {sz:Nat} (U:St c I H Γ a w) (T:TypeId):St c I (H++[Own.row (.slice none 0 0) T sz []]) Γ a w:=
 ⟨U.step,⟨λy hy=>by
  rcases List.mem_append.1 hy with hy|hy
  ·exact U.own.all y hy
  ·obtain rfl:=by simpa using hy
   exact⟨⟨λr hr=>by simp at hr,.inl ⟨rfl,.inl rfl⟩⟩,λb e=>by simp[Own.row,nY] at e⟩,
  by rw[List.filterMap_append];simpa[Own.row,nY] using U.own.nodup⟩,U.env,U.size,U.defers⟩
theorem KA {v:Value} (h:vL v):nY v=none:=by
 rcases h with rfl|⟨q,rfl,_⟩<;>simp[nY]
theorem St.BR {v:Value} {sz:Nat} (U:St c I H Γ a w) (T:TypeId) (hv:vL v):St c I (H++[Own.row v T sz []]) Γ a w:=
 ⟨U.step,⟨λy hy=>by
  rcases List.mem_append.1 hy with hy|hy
  ·exact U.own.all y hy
  ·obtain rfl:=by simpa using hy
   exact⟨⟨λr hr=>by simp at hr,.inl ⟨rfl,hv⟩⟩,λb e=>by rw[show(Own.row v T sz []).ei=nY v from rfl,KA hv] at e;cases e⟩,
  by rw[List.filterMap_append]
     have:([Own.row v T sz []]:List Own).filterMap Own.ei=[]:=by
      rw[List.filterMap_cons,show(Own.row v T sz []).ei=nY v from rfl,KA hv];rfl
     rw[this,List.append_nil];exact U.own.nodup⟩,U.env,U.size,U.defers⟩
theorem gI {α:Type} {sz:Nat}:∀{l:List (List α)},(∀r∈l,r.length=sz)->l.flatten.length=l.length*sz
 |[],_=>by simp
 |x::l,h=>by
  rw[List.flatten_cons,List.length_append,h x (by simp),gI (λr hr=>h r (by simp[hr])),List.length_cons,Nat.succ_mul,Nat.add_comm]
def zH (w:World) (E:TypeId) (sz:Nat) (v:Value) (k:Nat) (xs:List Value):Prop:=
 xs.length=k*sz/\((k=0/\vL v)\/∃b cap cur,v=.slice (some ⟨b,0,none⟩) k cap/\0<cap/\w.heap[b]?=some (.cells cur E (0,0))/\k<=cap/\cap<=maxLen/\cur.size=cap*sz/\cur.toList.take (k*sz)=xs)
theorem S9 {v:Value} {i:TypeInfo} {sz k mm:Nat} {xs:List Value} (hU:P.underlying T=some (.slice E)) (hi:P.info? E=some i) (hz:i.zero=some zv) (h1:i.size=sz) (h2:i.bytes=m) (ga:zv.cells.size=sz)
 (en:zH w E sz v k xs) (ad:Addr) (cp:Nat) (cs:List Value) (hl:cs.length=mm*sz) (hc:∀j u,cs[j]?=some u->w.cell? (ad.add j)=some u) (BS:∀u∈cs,u.oneCell'=true)
 (uz:k+mm<=maxLen) (hb:(k+mm)*m<=140737488355328):
 ∃v' w',(Builtin.append_ #[T,T] ty #[v,.slice (some ad) mm cp]).run P w=.ok v' w'/\zH w' E sz v' (k+mm) (xs++cs)/\
  ((v'=v/\w'=w)\/(∃g cap mq cur,v=.slice (some ⟨g,0,none⟩) k cap/\0<cap/\v'=.slice (some ⟨g,0,none⟩) (k+mm) mq/\0<mq/\w'=w.setRow g cur)\/
   ∃mq cur,v'=.slice (some ⟨w.heap.size,0,none⟩) (k+mm) mq/\0<mq/\w'=w.drew.alloc (.cells cur E)):=by
 subst h1 h2
 have ahQ:k+mm<=9223372036854775807:=by simp only[maxLen] at uz;omega
 have n5:=en.1
 have hlen:(xs++cs).length=(k+mm)*i.size:=by rw[List.length_append,n5,hl,Nat.add_mul]
 have fresh:∀gH,0<k+mm->zH (w.drew.alloc (.cells (xs.toArray++cs.toArray++Builtin.zeroCells zv.cells (grownCap w (k+mm) gH E-(k+mm))) E)) E i.size
  (.slice (some ⟨w.heap.size,0,none⟩) (k+mm) (grownCap w (k+mm) gH E)) (k+mm) (xs++cs):=λgH mL=>by
  have n6:=grownCap_ge w (k+mm) gH E
  refine⟨hlen,.inr ⟨w.heap.size,_,_,rfl,by omega,s7 w.drew _,n6,grownCap_le_maxLen w (k+mm) gH E uz,?_,?_⟩⟩
  ·have e1:=size_zeroCells zv.cells (grownCap w (k+mm) gH E-(k+mm))
   rw[Array.size_append,Array.size_append,e1,ga]
   simp only[List.size_toArray,n5,hl,<-Nat.add_mul]
   congr 1;omega
  ·simp only[Array.toList_append,List.append_assoc]
   rw[<-List.append_assoc,<-hlen]
   exact List.take_left
 have EW:∀gH,0<k+mm->0<grownCap w (k+mm) gH E:=λgH h=>by have:=grownCap_ge w (k+mm) gH E;omega
 rcases en.2 with⟨rfl,tc⟩|⟨g,cap,cur,rfl,EX,hg,KB,EY,kt,KC⟩
 ·obtain rfl:xs=[]:=List.eq_nil_of_length_eq_zero (by simpa using n5)
  rcases Nat.eq_zero_or_pos mm with rfl|mL
  ·obtain rfl:cs=[]:=List.eq_nil_of_length_eq_zero (by simpa using hl)
   refine⟨v,w,?_,⟨by simp,.inl ⟨rfl,tc⟩⟩,.inl ⟨rfl,rfl⟩⟩
   rcases tc with rfl|⟨q,rfl,_⟩
   ·simp[Builtin.append_,run_underlying hU,sizeOf,typeInfo,hi,Builtin.lenOf,Builtin.firstCells,loadCells,loadCellsFrom]
   ·simp[Builtin.append_,run_underlying hU,sizeOf,typeInfo,hi,Builtin.lenOf,Builtin.firstCells,loadCells,loadCellsFrom,storeCells]
  ·rcases tc with rfl|⟨q,rfl,_⟩
   ·have hr:=run_append_nil (P:=P) w T ty E i zv hU hi hz ad mm cp cs hl hc mL (by omega) (by simp only[Nat.zero_add] at hb;omega)
    have hf:=fresh 0 (by omega)
    have KD:=EW 0 (by omega)
    simp only[Nat.zero_add,List.nil_append,Array.empty_append] at hf KD⊢
    exact⟨_,_,hr,hf,.inr (.inr ⟨_,_,rfl,KD,rfl⟩)⟩
   ·have hr:=run_append_grow (P:=P) w T ty E i zv hU hi hz q 0 0 [] (by simp) (λj u h=>by simp at h) ad mm cp cs hl hc (by omega) (by omega) (growslice_fits (by omega) hb)
    exact⟨_,_,hr,fresh 0 (by omega),.inr (.inr ⟨_,_,rfl,EW 0 (by omega),rfl⟩)⟩
 ·by_cases zI:k+mm<=cap
  ·have iT:k*i.size+cs.length<=cur.size:=by rw[hl,kt,<-Nat.add_mul];exact Nat.mul_le_mul_right _ zI
   have hr:=run_append_room (P:=P) w T ty E i hU hi g k cap cur hg ad mm cp cs hl hc BS zI iT
   refine⟨_,_,hr,⟨hlen,.inr ⟨g,cap,_,rfl,EX,setRow_heap w g cur _ E _ hg,zI,EY,?_,?_⟩⟩,.inr (.inl ⟨g,cap,cap,_,rfl,EX,rfl,EX,rfl⟩)⟩
   ·simp only[List.size_toArray,List.length_append,List.length_take,List.length_drop,Array.length_toList]
    omega
   ·rw[KC,<-hlen]
    exact List.take_left
  ·have holds:∀j u,xs[j]?=some u->w.cell? ((⟨g,0,none⟩:Addr).add j)=some u:=λj u hu=>by
    rw[add_plain]
    simp only[World.cell?,hg,Option.isSome_none,Bool.false_eq_true,if_false]
    rw[<-KC,List.getElem?_take] at hu
    split at hu
    ·simpa using hu
    ·cases hu
   have hr:=run_append_grow (P:=P) w T ty E i zv hU hi hz ⟨g,0,none⟩ k cap xs n5 holds ad mm cp cs hl hc (by omega) (by omega) (growslice_fits (by omega) hb)
   exact⟨_,_,hr,fresh cap (by omega),.inr (.inr ⟨_,_,rfl,EW cap (by omega),rfl⟩)⟩
theorem Ta {I:Im} {w:World} {E:TypeId} {sz:Nat} {v:Value} {l:List (List AV)} (h:(Own.row v E sz l).ok I w):∃xs,zH w E sz v l.length xs/\bJ I l.flatten xs:=by
 obtain⟨cK,⟨rfl,hb⟩|⟨b,cap,cur,e,h0,h1,h2,h3,h4,h5⟩⟩:=h
 ·exact⟨[],⟨by simp,.inl ⟨rfl,hb⟩⟩,trivial⟩
 ·exact⟨_,⟨by rw[h5.length,gI cK],.inr ⟨b,cap,cur,e,h0,h1,h2,h3,h4,rfl⟩⟩,h5⟩
theorem Tb {I:Im} {w:World} {E:TypeId} {sz:Nat} {v:Value} {l:List (List AV)} {xs:List Value} (cK:∀r∈l,r.length=sz) (h:zH w E sz v l.length xs) (hx:bJ I l.flatten xs):(Own.row v E sz l).ok I w:=by
 obtain⟨_,⟨h0,hb⟩|⟨b,cap,cur,e,h0,h1,h2,h3,h4,rfl⟩⟩:=h
 ·exact⟨cK,.inl ⟨List.eq_nil_of_length_eq_zero h0,hb⟩⟩
 ·exact⟨cK,.inr ⟨b,cap,cur,e,h0,h1,h2,h3,h4,hx⟩⟩
theorem cj.renew {base:Nat->Prop} {w':World} {k:Nat} {x x':Own} (h:cj base I w H) (hm:dV w I) (hb:base w.heap.size) (hk:H[k]?=some x) (kr:x'.ei=some w.heap.size)
 (bc:Step I w I w') (bw:w.heap.size<w'.heap.size) (ok:x'.ok I w'):cj base I w' (H.set k x'):=by
 have h':=h.step bc
 refine⟨λy hy=>?_,s9 h.nodup λb e=>.inr λy hy e'=>?_⟩
 ·rcases List.mem_or_eq_of_mem_set hy with hy|rfl
  ·exact h'.all y hy
  ·exact⟨ok,λb e=>by rw[kr] at e;cases e;exact⟨hb,hm.none (Nat.le_refl _),bw⟩⟩
 ·rw[kr] at e;cases e
  have:=((h.all y hy).2 _ e').2.2
  omega
theorem Step.EZ {w:World} {I:Im} (h:dV w I) (o:Obj):Step I w I (w.drew.alloc o):=
 ⟨Im.le_refl _,λ_ _=>rfl,dV.alloc (w:=w.drew) h o,((Below.refl w.heap.size w).drew).alloc (Nat.le_refl _) _⟩
theorem St.BT {v:Value} {sz:Nat} {l l2:List (List AV)} {x:Value} {ag:Bool} (k:Nat) (U:St c I H Γ a w) (hU:P.underlying T=some (.slice E)) (hE:Ty P E ag sz m zv) (ga:zv.cells.size=sz)
 (hk:H[k]?=some (Own.row v E sz l)) (hx:(AV.rows sz l2).h I x) (hb:(l.length+l2.length)*m<=140737488355328) (uz:l.length+l2.length<=maxLen):
 ∃v' w',(Builtin.append_ #[T,T] ty #[v,x]).run P w=.ok v' w'/\St c I (H.set k (Own.row v' E sz (l++l2))) Γ a w':=by
 obtain⟨fY,h2⟩:=U.own.all _ (List.mem_of_getElem? hk)
 have Tc:=fY.1
 obtain⟨xs,en,hl⟩:=Ta fY
 obtain⟨q,cap,e,g1,g2,g3,g4,g5⟩:=hx
 obtain⟨i,hi,td,iU,uB⟩:=hE.get
 have lV:k<H.length:=(List.getElem?_eq_some_iff.1 hk).1
 have ry:H.set k (Own.row v E sz l)=H:=by
  rw[List.getElem?_eq_getElem lV] at hk
  have eY:H[k]=Own.row v E sz l:=by simpa using hk
  rw[<-eY];exact List.set_getElem_self lV
 cases q with
 |none=>
  have pq:l2=[]:=g4.resolve_right (λ⟨_,h,_⟩=>by cases h)
  subst pq
  have nk:=g5 rfl
  subst nk
  refine⟨v,w,?_,?_⟩
  ·rw[e]
   rcases en.2 with⟨h0,rfl|⟨q,rfl,_⟩⟩|⟨b,cap,cur,rfl,_,_,KB,_⟩
   ·simp[Builtin.append_,run_underlying hU,sizeOf,typeInfo,hi,Builtin.lenOf,Builtin.firstCells]
   ·simp[Builtin.append_,run_underlying hU,sizeOf,typeInfo,hi,Builtin.lenOf,Builtin.firstCells,storeCells]
   ·simp[Builtin.append_,run_underlying hU,sizeOf,typeInfo,hi,Builtin.lenOf,Builtin.firstCells,storeCells,KB]
  ·rw[List.append_nil,ry];exact U
 |some q=>
  have Td:∃cs:List Value,bJ I l2.flatten cs/\∀j u,cs[j]?=some u->w.cell? (q.add j)=some u:=by
   rcases g4 with rfl|⟨q,hq,kk⟩
   ·exact⟨[],trivial,λj u h=>by simp at h⟩
   ·cases hq
    obtain⟨b,off,s⟩:=q
    obtain rfl:s=none:=kk.1
    obtain⟨cs,h1,h2,h3⟩:=kk.toArray U.step.c9
    exact⟨cs,h2,h3⟩
  obtain⟨cs,kt,xH⟩:=Td
  have hlen:cs.length=l2.length*sz:=by rw[kt.length,gI g3]
  obtain⟨v',w',hr,E0,hw⟩:=S9 (P:=P) (ty:=ty) hU hi uB td iU ga en q cap cs hlen xH kt.one uz hb
  refine⟨v',w',by rw[e];exact hr,?_⟩
  have aj:(Own.row v' E sz (l++l2)).ok I w':=Tb (xs:=xs++cs) (λr hr=>by
   rcases List.mem_append.1 hr with hr|hr
   ·exact Tc r hr
   ·exact g3 r hr) (by rw[List.length_append];exact E0) (by rw[List.flatten_append];exact hl.append kt)
  rcases hw with⟨rfl,rfl⟩|⟨gg,Te,oN,cur,rfl,n7,rfl,j2,rfl⟩|⟨oN,cur,rfl,j2,rfl⟩
  ·refine U.written U.step ⟨λy hy=>?_,s9 U.own.nodup λb hb=>.inl ⟨_,hk,hb⟩⟩
   rcases List.mem_or_eq_of_mem_set hy with hy|rfl
   ·exact U.own.all y hy
   ·exact⟨aj,h2⟩
  ·have ae:nY (.slice (some ⟨gg,0,none⟩) l.length Te)=some gg:=zn (by omega)
   have ah:∀n,nY (.slice (some ⟨gg,0,none⟩) n oN)=some gg:=λn=>zn (by omega)
   obtain⟨k1,k2,k3⟩:=h2 gg ae
   exact U.written (U.step.write k1 k2 (by simp) rfl rfl rfl λk' eY=>setRow_other w gg k' _ eY) (U.own.write hk (by rw[xG,xG,ae,ah]) (by simp) (λk' eY=>setRow_other w gg k' _ λe=>eY (by rw[e];exact ae.symm)) aj)
  ·have st:=Step.EZ U.step.c9 (.cells cur E)
   exact U.written (U.step.trans st) (U.own.renew U.step.c9 U.room hk (zq (by omega)) st (by simp) aj)
theorem St.append {v:Value} {sz:Nat} {l l2:List (List AV)} {ag:Bool} (k:Nat) (U:St c I H Γ a w) (hd:Nat.blt d c.n=true) (hU:P.underlying T=some (.slice E)) (hE:Ty P E ag sz m zv) (ga:zv.cells.size=sz)
 (hy:At Γ true y (.val v)) (hz:At Γ true z (.rows sz l2)) (hk:H[k]?=some (Own.row v E sz l)) (hb:(l.length+l2.length)*m<=140737488355328/\l.length+l2.length<=140737488355328)
 (kk:∀v' a' w',St c I (H.set k (Own.row v' E sz (l++l2))) ((d,.val v')::Γ) a' w'->wpList P ops Q rest a' w'):
 wpList P ops Q (⟨some d,.call ⟨.builtin .append,#[y,z],#[T,T]⟩,ty,p,af,none⟩::rest) a w:=by
 obtain⟨v',w',hr,ct⟩:=U.BT (ty:=ty) k hU hE ga hk (hz I a U.env rfl) hb.1 (by simp only[maxLen];omega)
 refine jI rfl ?_
 have e1:a.eval y=v:=hy I a U.env rfl
 unfold Oper.wp
 simp only[execOp,resolve,invoke,builtin,Sem.run_bind,Sem.run_pure,Result.andThen_ok,List.map_toArray,List.map_cons,List.map_nil,e1,hr]
 exact kk v' _ _ (ct.nj ct.step (Im.le_refl _) ct.own hd rfl)
end
section
variable {P:Program} {c:Ctx} {I:Im} {H:List Own} {Γ:Env} {a:Act} {w:World} {Q:Exit->Act->World->Prop} {ops:Array Oper} {rest:List Oper}
variable {d:Nat} {y z:Operand} {ty T T' E:TypeId} {p:String} {af:Array Edge} {g:Bool} {gd:Option (Nat×Bool)} {n m:Nat} {zv:Value}
theorem Tf {I:Im} {z:Array Value} {l:List AV} (h:bJ I l z.toList):∀k,bJ I (List.replicate k l).flatten (madeCells z (k*z.size)).toList:=by
 intro k
 have key:∀k,(madeCells z (k*z.size)).toList=(List.replicate k z.toList).flatten:=by
  intro k
  apply List.ext_getElem?
  intro j
  simp only[madeCells]
  by_cases hz:z.size=0
  ·have:z.toList=[]:=by simpa using hz
   simp[hz,this]
  ·have kT:(List.replicate k z.toList).flatten.length=k*z.size:=by
    rw[gI (sz:=z.size) (λr hr=>by rw[(List.mem_replicate.1 hr).2];simp),List.length_replicate]
   by_cases hj:j<k*z.size
   ·have hq:j/z.size<k:=Nat.div_lt_of_lt_mul (by rw[Nat.mul_comm];exact hj)
    have hm:j%z.size<z.size:=Nat.mod_lt _ (by omega)
    have hr:(List.replicate k z.toList)[j/z.size]?=some z.toList:=by simp[hq]
    have h2:=BF (List.replicate k z.toList) z.size (λr hr=>by rw[(List.mem_replicate.1 hr).2];simp) _ _ hr
    have h3:(List.replicate k z.toList).flatten[j]?=z.toList[j%z.size]?:=by
     have h4:(((List.replicate k z.toList).flatten.drop (j/z.size*z.size)).take z.size)[j%z.size]?=z.toList[j%z.size]?:=by rw[h2]
     rw[List.getElem?_take,if_pos hm,List.getElem?_drop] at h4
     rw[<-h4];congr 1
     have:=Nat.div_add_mod j z.size
     rw[Nat.mul_comm] at this
     exact this.symm
    rw[h3]
    simp[hj,hm]
   ·have e1:(List.replicate k z.toList).flatten[j]?=none:=by simp only[List.getElem?_eq_none_iff];omega
    rw[e1]
    simp;omega
 rw[key]
 induction k with
 |zero=>simp[bJ]
 |succ k ih=>
  rw[List.replicate_succ,List.replicate_succ,List.flatten_cons,List.flatten_cons]
  exact h.append ih
theorem St.make {l:List AV} {sz:Nat} {ag:Bool} {k:Nat} (U:St c I H Γ a w) (hd:Nat.blt d c.n=true) (hU:P.underlying T=some (.slice E)) (hE:Ty P E ag sz m zv) (KE:∀I,bJ I l zv.cells.toList) (ga:zv.cells.size=sz)
 (hy:At Γ true y (.int k)) (hz:At Γ true z (.int k)) (hb:m*k<=281474976710656/\k<=281474976710656)
 (kk:∀b a' w',St c I (H++[Own.row (.slice (some ⟨b,0,none⟩) k k) E sz (List.replicate k l)]) ((d,.val (.slice (some ⟨b,0,none⟩) k k))::Γ) a' w'->wpList P ops Q rest a' w'):
 wpList P ops Q (⟨some d,.makeSlice T y z,ty,p,af,none⟩::rest) a w:=by
 obtain⟨i,hi,h1,h2,h3⟩:=hE.get
 have uz:k<=maxLen:=by simp only[maxLen];omega
 have hr:=run_make (P:=P) w T E i zv hU hi h3 .i64 .i64 k k (by omega) (Int.le_refl _) (by rw[h2];have:=hb.1;have:((m*k:Nat):Int)<=281474976710656:=by omega
                                                                                           rwa[Int.natCast_mul] at this) (by omega)
 simp only[Int.toNat_natCast] at hr
 refine jI rfl ?_
 have e1:a.eval y=.int .i64 k:=hy I a U.env rfl
 have e2:a.eval z=.int .i64 k:=hz I a U.env rfl
 unfold Oper.wp
 simp only[execOp,e1,e2,hr,Sem.run_bind,Sem.run_pure,Result.andThen_ok,Oper.upon_value]
 rw[h1]
 have hlen:l.length=sz:=by rw[<-ga,<-(KE I).length];simp
 have hm:=Tf (KE I) k
 rw[ga] at hm
 have Tg:∀r∈List.replicate k l,r.length=sz:=λr hr=>by rw[(List.mem_replicate.1 hr).2,hlen]
 have bc:=Step.alloc U.step.c9 (.cells (madeCells zv.cells (k*sz)) E)
 refine kk w.heap.size _ _ (U.nj (U.step.trans bc) (Im.le_refl _) ?_ hd rfl)
 rcases Nat.eq_zero_or_pos k with rfl|mL
 ·have:=((St.written U (U.step.trans bc) (U.own.step bc)).BR (sz:=sz) (v:=.slice (some ⟨w.heap.size,0,none⟩) 0 0) E (.inr ⟨_,rfl,rfl⟩)).own
  simpa using this
 ·refine U.own.push (x:=Own.row (.slice (some ⟨w.heap.size,0,none⟩) k k) E sz (List.replicate k l)) U.room (zq (by omega)) U.step.c9 ⟨Tg,.inr ⟨w.heap.size,k,_,by rw[List.length_replicate],mL,s7 w _,by simp,uz,size_madeCells _ _,?_⟩⟩
  rw[List.length_replicate,List.take_of_length_le (by simp[madeCells])]
  exact hm
theorem St.shape {v:Value} {sz:Nat} {l:List (List AV)} (k:Nat) (U:St c I H Γ a w) (hk:H[k]?=some (Own.row v E sz l)) (hl:0<l.length):∃b cap,v=.slice (some ⟨b,0,none⟩) l.length cap:=by
 obtain⟨⟨_,⟨h0,_⟩|⟨b,cap,cur,e,_⟩⟩,_⟩:=U.own.all _ (List.mem_of_getElem? hk)
 ·subst h0;simp at hl
 ·exact⟨b,cap,e⟩
theorem Th {I:Im} {w:World} {v:Value} {sz:Nat} {l:List (List AV)} (h:(Own.row v E sz l).ok I w):∃q cap,v=.slice q l.length cap:=by
 obtain⟨_,⟨rfl,rfl|⟨q,rfl,_⟩⟩|⟨b,cap,cur,e,_⟩⟩:=h
 ·exact⟨none,0,rfl⟩
 ·exact⟨some q,0,rfl⟩
 ·exact⟨_,cap,e⟩
theorem rz {d:Option Tmp} {v:Value} {sz:Nat} {l:List (List AV)} (k:Nat) (hT:P.underlying T=some (.slice T')) (h:At Γ g y (.val v)) (hk:H[k]?=some (Own.row v E sz l)):Ok P H Γ g ⟨d,.call ⟨.builtin .len,#[y],#[T]⟩,ty,p,af,gd⟩ (.int l.length):=
 gB λbase I a w he hm hw hg=>by
  have e:a.eval y=_:=h I a he hg
  refine⟨_,?_,rfl⟩
  have hv:=Th (hw.all _ (List.mem_of_getElem? hk)).1
  obtain⟨q,cap,rfl⟩:=hv
  simp only[execOp,resolve,List.map_toArray,List.map_cons,List.map_nil,e]
  simp[go_sem,Builtin.len_,run_underlying hT]
theorem jr {d:Option Tmp} {ag:Bool} {b sz k cap:Nat} {i:Int} (hT:P.underlying T=some (.slice E)) (hE:Ty P E ag sz m zv) (h:At Γ g y (.val (.slice (some ⟨b,0,none⟩) k cap))) (hi:At Γ g z (.int i)) (hb:g=true->0<=i/\i<k):
 Ok P H Γ g ⟨d,.indexAddr T y z,ty,p,af,gd⟩ (.val (.pointer (some ⟨b,i.toNat*sz,none⟩))):=
 iS λI a w he hg=>by
  obtain⟨h0,h1⟩:=hb hg
  have e:a.eval y=_:=h I a he hg
  have e2:a.eval z=_:=hi I a he hg
  have U:(sizeOf E).run P w=.ok sz w:=hE.size
  simp only[execOp,e,e2,Instr.indexAt,asIntOf,Sem.run_bind,Sem.run_pure,Result.andThen_ok,run_underlying hT]
  simp[h0,h1,add_plain,U]
theorem KF {I:Im} {w:World} {sz b cap:Nat} {l:List (List AV)} (h:(Own.row (.slice (some ⟨b,0,none⟩) l.length cap) E sz l).ok I w) (hl:l≠[]):
 ∃cur,0<cap/\w.heap[b]?=some (.cells cur E (0,0))/\l.length<=cap/\cap<=maxLen/\cur.size=cap*sz/\bJ I l.flatten (cur.toList.take (l.length*sz)):=by
 obtain⟨_,⟨h0,_⟩|⟨b',mq,cur,e,h0,h1,h2,h3,h4,h5⟩⟩:=h
 ·exact absurd h0 hl
 ·cases e;exact⟨cur,h0,h1,h2,h3,h4,h5⟩
theorem BU {k b cap q sz i j:Nat} {l:List (List AV)} {r:List AV} (hk:H[k]?=some (Own.row (.slice (some ⟨b,0,none⟩) l.length cap) E sz l)) {base:Nat->Prop} (hw:cj base I w H) (hr:l[i]?=some r) (hq:q=i*sz+j) (hj:j<=sz):
 ∃cs:List Value,bJ I (r.drop j) cs/\cs.length=sz-j/\∀t u,cs[t]?=some u->w.cell? ⟨b,q+t,none⟩=some u:=by
 obtain⟨aj,_⟩:=hw.all _ (List.mem_of_getElem? hk)
 have cK:=aj.1
 have hi:i<l.length:=(List.getElem?_eq_some_iff.1 hr).1
 obtain⟨cur,_,hb,h3,_,h5,hl⟩:=KF aj (λe=>by subst e;simp at hi)
 have ku:r.length=sz:=cK r (List.mem_of_getElem? hr)
 have pq:=((hl.drop (i*sz)).take sz).drop j
 rw[BF l sz cK i r hr] at pq
 refine⟨_,pq,?_,λt u hu=>?_⟩
 ·rw[pq.length,List.length_drop,ku]
 ·rw[List.getElem?_drop,List.getElem?_take] at hu
  split at hu
  ·rename_i bw
   rw[List.getElem?_drop,List.getElem?_take] at hu
   split at hu
   ·simp only[World.cell?,hb,Option.isSome_none,Bool.false_eq_true,if_false]
    rw[hq,<-Array.getElem?_toList,Nat.add_assoc,hu]
   ·cases hu
  ·cases hu
theorem Ti {d:Option Tmp} {b q cap sz i j:Nat} {l:List (List AV)} {r:List AV} {x:AV} (k:Nat) (hT:Ty P T false n m zv) (h:At Γ g y (.val (.pointer (some ⟨b,q,none⟩)))) (hk:H[k]?=some (Own.row (.slice (some ⟨b,0,none⟩) l.length cap) E sz l))
 (hr:g=true->l[i]?=some r) (hq:q=i*sz+j) (hx:r[j]?=some x) (E1:Nat.blt j sz=true):Ok P H Γ g ⟨d,.load T y,ty,p,af,gd⟩ x:=
 gB λbase I a w he hm hw hg=>by
  have e:a.eval y=_:=h I a he hg
  have hj:j<sz:=by simpa using E1
  obtain⟨cs,h1,h2,h3⟩:=BU hk hw (hr hg) hq (by omega)
  obtain⟨u,hu,E2,_⟩:=h1.get (i:=0) (x:=x) (by rw[List.getElem?_drop];simpa using hx)
  refine⟨u,?_,E2⟩
  have hc:w.cell? ⟨b,q,none⟩=some u:=h3 0 u hu
  simp only[execOp,e,Instr.loadAt,Instr.sureAddr,Sem.run_bind,Sem.run_pure,Result.andThen_ok,zu hT hc]
theorem rA {d:Option Tmp} {b q cap sz i:Nat} {l:List (List AV)} {r:List AV} (k:Nat) (hT:Ty P T true sz m zv) (h:At Γ g y (.val (.pointer (some ⟨b,q,none⟩)))) (hk:H[k]?=some (Own.row (.slice (some ⟨b,0,none⟩) l.length cap) E sz l))
 (hr:g=true->l[i]?=some r) (hq:q=i*sz):Ok P H Γ g ⟨d,.load T y,ty,p,af,gd⟩ (.agg r):=
 gB λbase I a w he hm hw hg=>by
  have e:a.eval y=_:=h I a he hg
  obtain⟨cs,h1,h2,h3⟩:=BU (q:=q) hk hw (hr hg) (j:=0) (by rw[hq];rfl) (by omega)
  refine⟨.agg cs.toArray,?_,_,rfl,by simpa using h1⟩
  have h4:∀t u,cs[t]?=some u->w.cell? ((⟨b,q,none⟩:Addr).add t)=some u:=λt u hu=>by rw[add_plain];exact h3 t u hu
  simp only[execOp,e,Instr.loadAt,Instr.sureAddr,Sem.run_bind,Sem.run_pure,Result.andThen_ok,zw hT (by omega) h4]
theorem KG {α:Type} {sz:Nat}:∀{l:List (List α)} {i j:Nat} {r x:List α},(∀r∈l,r.length=sz)->l[i]?=some r->j+x.length<=sz->fy l.flatten (i*sz+j) x=(l.set i (fy r j x)).flatten
 |[],_,_,_,_,_,h,_=>by simp at h
 |y::l,0,j,r,x,U,h,hj=>by
  simp at h;subst h
  have hy:y.length=sz:=U y (by simp)
  simp only[List.set_cons_zero,List.flatten_cons,fy,Nat.zero_mul,Nat.zero_add]
  rw[List.take_append_of_le_length (by omega),List.drop_append_of_le_length (by omega)]
  simp
 |y::l,i+1,j,r,x,U,h,hj=>by
  have hy:y.length=sz:=U y (by simp)
  have ih:=KG (l:=l) (i:=i) (j:=j) (r:=r) (x:=x) (λr hr=>U r (by simp[hr])) (by simpa using h) hj
  rw[List.set_cons_succ,List.flatten_cons,List.flatten_cons,<-ih]
  simp only[fy]
  have e1:(i+1)*sz+j=y.length+(i*sz+j):=by rw[hy,Nat.succ_mul];omega
  rw[e1,List.take_append,List.take_of_length_le (Nat.le_add_right _ _),Nat.add_sub_cancel_left,Nat.add_assoc,List.drop_append,List.drop_eq_nil_of_le (by omega)]
  simp[Nat.add_assoc]
theorem Tj {α:Type} (L x:List α) (q N:Nat) (h:q+x.length<=N) (hL:N<=L.length):(fy L q x).take N=fy (L.take N) q x:=by
 apply List.ext_getElem?
 intro t
 simp only[fy,List.getElem?_take,List.getElem?_append,List.length_append,List.length_take,List.getElem?_drop]
 (repeat' split)<;>first|rfl|omega|(congr 1;omega)|skip
theorem St.KH {ag:Bool} {b cap q sz i j:Nat} {l:List (List AV)} {r lx:List AV} {v:Value} (k:Nat) (U:St c I H Γ a w) (hT:Ty P T ag n m zv) (hk:H[k]?=some (Own.row (.slice (some ⟨b,0,none⟩) l.length cap) E sz l))
 (hv:bJ I lx v.cells.toList) (hn:lx.length=n) (hr:l[i]?=some r) (hq:q=i*sz+j) (hj:j+n<=sz):
 ∃w',(storeVar T ⟨b,q,none⟩ v).run P w=.ok () w'/\St c I (H.set k (Own.row (.slice (some ⟨b,0,none⟩) l.length cap) E sz (l.set i (fy r j lx)))) Γ a w':=by
 obtain⟨aj,h2⟩:=U.own.all _ (List.mem_of_getElem? hk)
 have cK:=aj.1
 have hi:i<l.length:=(List.getElem?_eq_some_iff.1 hr).1
 obtain⟨cur,h0,hb,h3,h4,h5,hl⟩:=KF aj (λe=>by subst e;simp at hi)
 have kr:(Own.row (.slice (some ⟨b,0,none⟩) l.length cap) E sz l).ei=some b:=zq (by omega)
 obtain⟨vT,ta,tb⟩:=h2 b kr
 have ku:r.length=sz:=cK r (List.mem_of_getElem? hr)
 have pw:=hv.length
 have hle:(i+1)*sz<=l.length*sz:=Nat.mul_le_mul_right _ hi
 have nk:l.length*sz<=cap*sz:=Nat.mul_le_mul_right _ h3
 rw[Nat.succ_mul] at hle
 have j3:=Kw (P:=P) hT (q:=q) (v:=v) hb (by simp at pw;omega) (by omega) hv.one
 refine⟨_,j3,U.written (U.step.write vT ta (by simp) rfl rfl rfl λk' eY=>setRow_other w b k' _ eY) (U.own.write hk rfl (by simp) (λk' eY=>setRow_other w b k' _ λe=>eY (by rw[e];exact kr.symm)) ?_)⟩
 have Tk:v.cells.toList.length=n:=by omega
 have rB:v.cells.size=n:=by simpa using Tk
 have Tl:q+n<=cur.size:=by omega
 refine⟨λx hx=>?_,.inr ⟨b,cap,_,by rw[List.length_set],h0,setRow_heap w b cur _ E _ hb,by rw[List.length_set];exact h3,h4,?_,?_⟩⟩
 ·rcases List.mem_or_eq_of_mem_set hx with hx|rfl
  ·exact cK x hx
  ·simp only[fy,List.length_append,List.length_take,List.length_drop];omega
 ·simp only[fy,List.size_toArray,List.length_append,List.length_take,List.length_drop,Array.length_toList];omega
 ·rw[List.length_set]
  rw[show((fy cur.toList q v.cells.toList).toArray.toList.take (l.length*sz))=fy (cur.toList.take (l.length*sz)) q v.cells.toList from Tj _ _ _ _ (by omega) (by simp;omega)]
  rw[<-KG cK hr (by omega),<-hq]
  simp only[fy]
  have xN:lx.length=v.cells.toList.length:=pw.symm
  rw[xN]
  exact((hl.take q).append hv).append (hl.drop (q+v.cells.toList.length))
end
end Go.Proofs.YtjepcfpkclegdaaGreat

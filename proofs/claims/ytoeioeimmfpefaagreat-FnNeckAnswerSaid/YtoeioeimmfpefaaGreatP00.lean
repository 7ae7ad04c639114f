/- Part 0: rules of the proofs, contracts of functions, plain facts. -/
import Derived.WalkKit
import Derived.WalkSpells
import Derived.WalkLawsBesides
set_option linter.unusedVariables false
set_option linter.unusedSimpArgs false
namespace Go.Proofs.YtoeioeimmfpefaaGreat
open Go Go.RowKit
abbrev Im:=Nat→Option (Array Value)
def Im.le (I J:Im):Prop:=∀b cs,I b=some cs→J b=some cs
theorem Im.le_refl (I:Im):Im.le I I:=fun _ _ h=>h
theorem Im.le_trans {I J K:Im} (h:Im.le I J) (k:Im.le J K):Im.le I K:=fun b cs e=>k b cs (h b cs e)
structure AV where
 h:Im→Value→Prop
 up:∀I J v,Im.le I J→h I v→h J v
def bD (I:Im):List AV→List Value→Prop
 |[],[]=>True
 |x::xs,c::cs=>(x.h I c∧c.oneCell'=true)∧bD I xs cs
 |_,_=>False
theorem bD.up {I J:Im} (hl:Im.le I J):∀{l:List AV} {cs:List Value},bD I l cs→bD J l cs
 |[],[],_=>trivial
 |x::xs,c::cs,h=>⟨⟨x.up I J c hl h.1.1,h.1.2⟩,bD.up hl h.2⟩
 |[],_::_,h=>h.elim
 |_::_,[],h=>h.elim
theorem bD.length {I:Im}:∀{l:List AV} {cs:List Value},bD I l cs→cs.length=l.length
 |[],[],_=>rfl
 |_::_,_::_,h=>by simp[bD.length h.2]
 |[],_::_,h=>h.elim
 |_::_,[],h=>h.elim
theorem bD.get {I:Im}:∀{l:List AV} {cs:List Value},bD I l cs→∀{i:Nat} {x:AV},l[i]?=some x→∃c,cs[i]?=some c∧x.h I c∧c.oneCell'=true
 |[],[],_,i,x,hx=>by simp at hx
 |y::ys,c::cs,h,0,x,hx=>by simp at hx;subst hx;exact⟨c,by simp,h.1⟩
 |y::ys,c::cs,h,i+1,x,hx=>by
  obtain⟨d,hd⟩:=bD.get h.2 (i:=i) (x:=x) (by simpa using hx)
  exact⟨d,by simpa using hd⟩
 |[],_::_,h,_,_,_=>h.elim
 |_::_,[],h,_,_,_=>h.elim
theorem bD.one {I:Im}:∀{l:List AV} {cs:List Value},bD I l cs→∀c∈cs,c.oneCell'=true
 |[],[],_,c,hc=>by simp at hc
 |y::ys,d::cs,h,c,hc=>by
  rcases List.mem_cons.1 hc with rfl|hc
  ·exact h.1.2
  ·exact bD.one h.2 c hc
 |[],_::_,h,_,_=>h.elim
 |_::_,[],h,_,_=>h.elim
theorem bD.drop {I:Im}:∀{l:List AV} {cs:List Value},bD I l cs→∀n,bD I (l.drop n) (cs.drop n)
 |l,cs,h,0=>by simpa using h
 |[],[],_,n+1=>by simp[bD]
 |x::xs,c::cs,h,n+1=>by simpa using bD.drop h.2 n
 |[],_::_,h,_=>h.elim
 |_::_,[],h,_=>h.elim
theorem bD.take {I:Im}:∀{l:List AV} {cs:List Value},bD I l cs→∀n,bD I (l.take n) (cs.take n)
 |l,cs,h,0=>by simp[bD]
 |[],[],_,n+1=>by simp[bD]
 |x::xs,c::cs,h,n+1=>by simpa using⟨h.1,bD.take h.2 n⟩
 |[],_::_,h,_=>h.elim
 |_::_,[],h,_=>h.elim
theorem bD.append {I:Im}:∀{l m:List AV} {cs ds:List Value},bD I l cs→bD I m ds→bD I (l++m) (cs++ds)
 |[],m,[],ds,_,k=>by simpa using k
 |x::xs,m,c::cs,ds,h,k=>by simpa using⟨h.1,bD.append h.2 k⟩
 |[],_,_::_,_,h,_=>h.elim
 |_::_,_,[],_,h,_=>h.elim
theorem bD.set {I:Im}:∀{l:List AV} {cs:List Value},bD I l cs→∀(n:Nat) {x:AV} {c:Value},x.h I c→c.oneCell'=true→bD I (l.set n x) (cs.set n c)
 |[],[],_,n,_,_,_,_=>by simp[bD]
 |y::xs,d::cs,h,0,_,_,hx,ho=>by simpa using⟨⟨hx,ho⟩,h.2⟩
 |y::xs,d::cs,h,n+1,_,_,hx,ho=>by simpa using⟨h.1,bD.set h.2 n hx ho⟩
 |[],_::_,h,_,_,_,_,_=>h.elim
 |_::_,[],h,_,_,_,_,_=>h.elim
theorem bD.cast {I:Im} {l m:List AV} {cs ds:List Value} (h:bD I l cs) (e:l=m) (f:cs=ds):bD I m ds:=e▸f▸h
def AV.any:AV:=⟨fun _ _=>True,fun _ _ _ _ h=>h⟩
def AV.val (x:Value):AV:=⟨fun _ v=>v=x,fun _ _ _ _ h=>h⟩
abbrev AV.int (n:Int):AV:=AV.val (.int .i64 n)
abbrev AV.bool (b:Bool):AV:=AV.val (.bool b)
def AV.agg (l:List AV):AV:=⟨fun I v=>∃cs:Array Value,v=.agg cs∧bD I l cs.toList,fun _ _ _ hl ⟨cs,e,h⟩=>⟨cs,e,h.up hl⟩⟩
def cN (I:Im):List AV→List Value→Prop
 |[],[]=>True
 |x::xs,c::cs=>x.h I c∧cN I xs cs
 |_,_=>False
theorem cN.up {I J:Im} (hl:Im.le I J):∀{l:List AV} {cs:List Value},cN I l cs→cN J l cs
 |[],[],_=>trivial
 |x::xs,c::cs,h=>⟨x.up I J c hl h.1,cN.up hl h.2⟩
 |[],_::_,h=>h.elim
 |_::_,[],h=>h.elim
theorem cN.length {I:Im}:∀{l:List AV} {cs:List Value},cN I l cs→cs.length=l.length
 |[],[],_=>rfl
 |_::_,_::_,h=>by simp[cN.length h.2]
 |[],_::_,h=>h.elim
 |_::_,[],h=>h.elim
theorem cN.get {I:Im}:∀{l:List AV} {cs:List Value},cN I l cs→∀{i:Nat} {x:AV},l[i]?=some x→∃c,cs[i]?=some c∧x.h I c
 |[],[],_,i,x,hx=>by simp at hx
 |y::ys,c::cs,h,0,x,hx=>by simp at hx;subst hx;exact⟨c,by simp,h.1⟩
 |y::ys,c::cs,h,i+1,x,hx=>by
  obtain⟨d,hd⟩:=cN.get h.2 (i:=i) (x:=x) (by simpa using hx)
  exact⟨d,by simpa using hd⟩
 |[],_::_,h,_,_,_=>h.elim
 |_::_,[],h,_,_,_=>h.elim
def AV.c9 (l:List AV):AV:=⟨fun I v=>∃cs:Array Value,v=.tuple cs∧cN I l cs.toList,fun _ _ _ hl ⟨cs,e,h⟩=>⟨cs,e,h.up hl⟩⟩
def kh (I:Im) (p:Addr) (l:List AV):Prop:=p.spot=none∧∃cs,I p.block=some cs∧bD I l ((cs.toList.drop p.off).take l.length)
theorem kh.up {I J:Im} (hl:Im.le I J) {p:Addr} {l:List AV} (h:kh I p l):kh J p l:=
 let⟨hs,cs,e,k⟩:=h;⟨hs,cs,hl _ _ e,k.up hl⟩
theorem kh.drop {I:Im} {p:Addr} {l:List AV} (h:kh I p l) (n:Nat):kh I ⟨p.block,p.off+n,none⟩ (l.drop n):=by
 obtain⟨hs,cs,e,k⟩:=h
 refine⟨rfl,cs,e,(k.drop n).cast rfl ?_⟩
 simp[List.drop_take,List.drop_drop]
theorem kh.take {I:Im} {p:Addr} {l:List AV} (h:kh I p l) (n:Nat):kh I p (l.take n):=by
 obtain⟨hs,cs,e,k⟩:=h
 refine⟨hs,cs,e,(k.take n).cast rfl ?_⟩
 rw[List.length_take,List.take_take]
def AV.ptr (l:List AV):AV:=⟨fun I v=>∃p,v=.pointer (some p)∧kh I p l,fun _ _ _ hl ⟨p,e,h⟩=>⟨p,e,h.up hl⟩⟩
def AV.rows (sz:Nat) (l:List (List AV)):AV:=
 ⟨fun I v=>∃p cap,v=.slice p l.length cap∧l.length≤cap∧cap≤maxLen∧
  (∀r∈l,r.length=sz)∧(l=[]∨∃q,p=some q∧kh I q l.flatten)∧(p=none→cap=0),
  fun _ _ _ hl ⟨p,cap,e,h1,h2,h3,h4,h5⟩=>⟨p,cap,e,h1,h2,h3,h4.imp id fun⟨q,e,k⟩=>⟨q,e,k.up hl⟩,h5⟩⟩
theorem eb (sz:Nat) (I:Im):(AV.rows sz []).h I (.slice none 0 0):=⟨none,0,rfl,Nat.le_refl _,by simp[maxLen],fun r hr=>by simp at hr,.inl rfl,fun _=>rfl⟩
def AV.cond (g:Bool) (x:AV):AV:=⟨fun I v=>(g=true→x.h I v)∧(g=false→v=undef),fun _ _ _ hl h=>⟨fun e=>x.up _ _ _ hl (h.1 e),h.2⟩⟩
theorem xx {α:Type}:∀(l:List (List α)) (sz:Nat),(∀r∈l,r.length=sz)→∀(i:Nat) (r:List α),l[i]?=some r→(l.flatten.drop (i*sz)).take sz=r
 |[],_,_,_,_,h=>by simp at h
 |x::xs,sz,hs,0,r,h=>by
  simp at h;subst h
  have:x.length=sz:=hs x (by simp)
  simp[←this]
 |x::xs,sz,hs,i+1,r,h=>by
  have hx:x.length=sz:=hs x (by simp)
  have:=xx xs sz (fun r hr=>hs r (by simp[hr])) i r (by simpa using h)
  rw[List.flatten_cons,show(i+1)*sz=x.length+i*sz from by rw[hx,Nat.succ_mul,Nat.add_comm],List.drop_append,List.drop_eq_nil_of_le (by omega)]
  simpa using this
def nth (l:List (List AV)) (i:Nat):List AV:=l.getD i []
theorem MH {α:Type} [Inhabited α] (f:α→List AV) (l:List α) (i:Nat) (h:i<l.length):nth (l.map f) i=f (l[i]!):=by
 simp[nth,List.getD,h]
theorem ES {I:Im} {sz:Nat} {l:List (List AV)} {v:Value} (h:(AV.rows sz l).h I v) {i:Nat} (hi:i<l.length):
 ∃b off cap,v=.slice (some ⟨b,off,none⟩) l.length cap∧kh I ⟨b,off+i*sz,none⟩ (nth l i):=by
 obtain⟨p,cap,e,h1,h2,h3,h4,_⟩:=h
 rcases h4 with h4|⟨⟨b,off,s⟩,hp,k⟩
 ·subst h4;simp at hi
 ·obtain rfl:s=none:=k.1
  refine⟨b,off,cap,by rw[e,hp],?_⟩
  have hr:l[i]?=some (nth l i):=by simp[nth,hi]
  have:=(k.drop (i*sz)).take sz
  rwa[xx l sz h3 i _ hr] at this
def dr (w:World) (I:Im):Prop:=∀b cs,I b=some cs→∃e fr,w.heap[b]?=some (.cells cs e fr)
theorem dr.lt {w:World} {I:Im} (h:dr w I) {b:Nat} {cs:Array Value} (e:I b=some cs):b<w.heap.size:=by
 obtain⟨_,_,k⟩:=h b cs e
 exact(Array.getElem?_eq_some_iff.1 k).1
structure Step (I:Im) (w:World) (I':Im) (w':World):Prop where
 le:Im.le I I'
 eB:∀b,b<w.heap.size→I' b=I b
 cE:dr w' I'
 below:Below w.heap.size w w'
theorem Step.refl {I:Im} {w:World} (h:dr w I):Step I w I w:=⟨Im.le_refl I,fun _ _=>rfl,h,Below.refl _ _⟩
theorem Step.trans {I I' u6:Im} {w w' rL:World} (h:Step I w I' w') (k:Step I' w' u6 rL):Step I w u6 rL:=
 ⟨Im.le_trans h.le k.le,fun b hb=>(k.eB b (Nat.lt_of_lt_of_le hb h.below.size)).trans (h.eB b hb),k.cE,h.below.trans (k.below.mono h.below.size)⟩
abbrev jL:Nat→Prop:=fun _=>False
structure Kept (F:Nat→Prop) (w w':World):Prop where
 os:w'.os=w.os
 tape:w'.tape=w.tape
 output:w'.output=w.output
 size:w.heap.size≤w'.heap.size
 block:∀k,k<w.heap.size→¬F k→w'.heap[k]?=w.heap[k]?
theorem Kept.refl (F:Nat→Prop) (w:World):Kept F w w:=⟨rfl,rfl,rfl,Nat.le_refl _,fun _ _ _=>rfl⟩
theorem Kept.drew {F:Nat→Prop} {a w:World} (h:Kept F a w):Kept F a w.drew:=⟨h.os,h.tape,h.output,h.size,h.block⟩
theorem Kept.all {w w':World} (h:Kept jL w w'):Below w.heap.size w w':=⟨h.os,h.tape,h.output,h.size,fun k hk=>h.block k hk (fun f=>f)⟩
structure en (F:Nat→Prop) (I:Im) (w:World) (I':Im) (w':World):Prop where
 le:Im.le I I'
 eB:∀b,b<w.heap.size→¬F b→I' b=I b
 cE:dr w' I'
 below:Kept F w w'
theorem en.refl {F:Nat→Prop} {I:Im} {w:World} (h:dr w I):en F I w I w:=⟨Im.le_refl I,fun _ _ _=>rfl,h,Kept.refl _ _⟩
theorem en.all {I I':Im} {w w':World} (h:en jL I w I' w'):Step I w I' w':=⟨h.le,fun b hb=>h.eB b hb (fun f=>f),h.cE,h.below.all⟩
theorem en.trans {F:Nat→Prop} {I I' u6:Im} {w w' rL:World} (h:en F I w I' w') (k:Step I' w' u6 rL):en F I w u6 rL:=
 ⟨Im.le_trans h.le k.le,fun b hb hf=>(k.eB b (Nat.lt_of_lt_of_le hb h.below.size)).trans (h.eB b hb hf),k.cE,
  ⟨k.below.os.trans h.below.os,k.below.tape.trans h.below.tape,k.below.output.trans h.below.output,Nat.le_trans h.below.size k.below.size,
   fun i hi hf=>(k.below.block i (Nat.lt_of_lt_of_le hi h.below.size)).trans (h.below.block i hi hf)⟩⟩
theorem dr.drew {w:World} {I:Im} (h:dr w I):dr w.drew I:=h
def Im.add (I:Im) (b:Nat) (cs:Array Value):Im:=fun k=>if k=b then some cs else I k
theorem Im.u7 {I:Im} {b:Nat} {cs:Array Value} (h:I b=none):Im.le I (I.add b cs):=fun k ds e=>by
 unfold Im.add;split
 ·subst k;rw[h] at e;cases e
 ·exact e
theorem dr.none {w:World} {I:Im} (h:dr w I) {b:Nat} (hb:w.heap.size≤b):I b=none:=by
 cases e:I b with
 |none=>rfl
 |some cs=>have:=h.lt e;omega
theorem qC (w:World) (o:Obj):(w.alloc o).heap[w.heap.size]?=some o:=by
 show(w.heap.push o)[w.heap.size]?=_
 simp
theorem dr.u9 {w:World} {I:Im} (h:dr w I) (cs:Array Value) (T:TypeId) (fr:Nat×Nat):dr (w.alloc (.cells cs T fr)) (I.add w.heap.size cs):=by
 intro b ds e
 unfold Im.add at e
 split at e
 ·rename_i hb;subst hb;cases e;exact⟨T,fr,qC w _⟩
 ·obtain⟨e',Ax,k⟩:=h b ds e
  exact⟨e',Ax,by rw[Below.heap_alloc w _ b (h.lt e)];exact k⟩
theorem Step.u9 {w:World} {I:Im} (h:dr w I) (cs:Array Value) (T:TypeId) (fr:Nat×Nat):Step I w (I.add w.heap.size cs) (w.alloc (.cells cs T fr)):=
 ⟨Im.u7 (h.none (Nat.le_refl _)),fun b hb=>by unfold Im.add;rw[if_neg (by omega)],h.u9 cs T fr,(Below.refl _ _).alloc (Nat.le_refl _) _⟩
theorem dr.alloc {w:World} {I:Im} (h:dr w I) (o:Obj):dr (w.alloc o) I:=fun b ds e=>by
 obtain⟨e',Ax,k⟩:=h b ds e
 exact⟨e',Ax,by rw[Below.heap_alloc w _ b (h.lt e)];exact k⟩
theorem Step.alloc {w:World} {I:Im} (h:dr w I) (o:Obj):Step I w I (w.alloc o):=
 ⟨Im.le_refl _,fun _ _=>rfl,h.alloc o,(Below.refl _ _).alloc (Nat.le_refl _) _⟩
theorem cell_of {w:World} {I:Im} (h:dr w I) {p:Addr} {l:List AV} (k:kh I p l) {i:Nat} {x:AV} (hx:l[i]?=some x):
 ∃c,w.cell? ⟨p.block,p.off+i,none⟩=some c∧x.h I c∧c.oneCell'=true:=by
 obtain⟨hs,cs,e,hh⟩:=k
 obtain⟨c,hc,Ay⟩:=hh.get hx
 obtain⟨T,fr,hw⟩:=h _ _ e
 refine⟨c,?_,Ay⟩
 simp only[World.cell?,hw,Option.isSome_none,Bool.false_eq_true,if_false]
 rw[List.getElem?_take] at hc
 split at hc
 ·simpa using hc
 ·cases hc
structure Own where
 dH:Option Nat
 ok:Im→World→Prop
 fN:∀I I' w w',Im.le I I'→(∀b,dH=some b→w'.heap[b]?=w.heap[b]?)→ok I w→ok I' w'
def Own.box (b:Nat) (T:TypeId) (l:List AV):Own:=
 ⟨some b,fun I w=>∃cs,w.heap[b]?=some (.cells cs T (0,0))∧bD I l cs.toList,
  fun _ _ _ _ hl hb ⟨cs,e,h⟩=>⟨cs,(hb b rfl).trans e,h.up hl⟩⟩
def kV:Value→Option Nat
 |.slice (some a) _ cap=>if cap=0 then none else some a.block
 |_=>none
def rM (v:Value):Prop:=v=.slice none 0 0∨∃q:Addr,v=.slice (some q) 0 0∧q.spot=none
def Own.row (v:Value) (T:TypeId) (sz:Nat) (l:List (List AV)):Own:=
 ⟨kV v,fun I w=>(∀r∈l,r.length=sz)∧((l=[]∧rM v)∨
  ∃b cap cur,v=.slice (some ⟨b,0,none⟩) l.length cap∧0<cap∧w.heap[b]?=some (.cells cur T (0,0))∧l.length≤cap∧cap≤maxLen∧cur.size=cap*sz∧bD I l.flatten (cur.toList.take (l.length*sz))),
  fun I I' w w' hl hb ⟨hr,h⟩=>⟨hr,h.imp id fun⟨b,cap,cur,e,h0,h1,h2,h3,h4,h5⟩=>⟨b,cap,cur,e,h0,by
   rw[hb b (by rw[e];simp[kV];omega)];exact h1,h2,h3,h4,h5.up hl⟩⟩⟩
theorem va {q:Addr} {n cap:Nat} (h:0<cap):kV (.slice (some q) n cap)=some q.block:=if_neg (by omega)
theorem tw {v:Value} {T:TypeId} {sz:Nat} {l:List (List AV)}:(Own.row v T sz l).dH=kV v:=rfl
theorem vb {q:Addr} {n cap sz:Nat} {T:TypeId} {l:List (List AV)} (h:0<cap):(Own.row (.slice (some q) n cap) T sz l).dH=some q.block:=va (n:=n) h
structure bQ (base:Nat→Prop) (I:Im) (w:World) (H:List Own):Prop where
 all:∀o∈H,o.ok I w∧∀b,o.dH=some b→base b∧I b=none∧b<w.heap.size
 nodup:(H.filterMap Own.dH).Nodup
theorem bQ.step {base:Nat→Prop} {I I':Im} {w w':World} {H:List Own} (h:bQ base I w H) (s:Step I w I' w'):bQ base I' w' H:=
 ⟨fun o ho=>by
  obtain⟨h1,h2⟩:=h.all o ho
  refine⟨o.fN I I' w w' s.le (fun b hb=>s.below.block b (h2 b hb).2.2) h1,fun b hb=>?_⟩
  obtain⟨k1,k2,k3⟩:=h2 b hb
  exact⟨k1,(s.eB b k3).trans k2,Nat.lt_of_lt_of_le k3 s.below.size⟩,h.nodup⟩
theorem bQ.nil (base:Nat→Prop) (I:Im) (w:World):bQ base I w []:=⟨fun _ h=>by simp at h,List.Pairwise.nil⟩
abbrev Env:=List (Nat×AV)
def Env.get (t:Nat):Env→Option AV
 |[]=>none
 |p::r=>bif Nat.beq p.1 t then some p.2 else Env.get t r
def cF (I:Im) (a:Act) (Γ:Env):Prop:=∀t x,Env.get t Γ=some x→x.h I (a.tmps.getD t undef)
theorem cF.up {I J:Im} {a:Act} {Γ:Env} (hl:Im.le I J) (h:cF I a Γ):cF J a Γ:=fun t x e=>x.up _ _ _ hl (h t x e)
theorem cF.put {I:Im} {a:Act} {Γ:Env} (h:cF I a Γ) {d:Nat} (hd:d<a.tmps.size) {x:AV} {v:Value} (hx:x.h I v):cF I (a.put (some d) v) ((d,x)::Γ):=by
 intro t y e
 simp only[Env.get] at e
 cases hb:Nat.beq d t with
 |true=>
  rw[hb] at e;simp at e
  obtain rfl:d=t:=Nat.eq_of_beq_eq_true hb
  subst e
  simpa[Act.put,hd] using hx
 |false=>
  rw[hb] at e;simp at e
  have bn:d≠t:=fun hh=>by subst hh;simp at hb
  have:=h t y e
  simpa[Act.put,bn] using this
structure Ctx where
 W:World
 I:Im
 n:Nat
 F:Nat→Prop
def Ctx.own (c:Ctx) (b:Nat):Prop:=c.W.heap.size≤b∨c.F b
structure St (c:Ctx) (I:Im) (H:List Own) (Γ:Env) (a:Act) (w:World):Prop where
 step:en c.F c.I c.W I w
 own:bQ c.own I w H
 env:cF I a Γ
 size:a.tmps.size=c.n
 defers:a.defers=[]
def At (Γ:Env) (g:Bool) (o:Operand) (x:AV):Prop:=∀I a,cF I a Γ→g=true→x.h I (a.eval o)
theorem At.t {Γ:Env} {g:Bool} {t:Nat} {x:AV} (h:Env.get t Γ=some x):At Γ g (.tmp t) x:=fun _ _ he _=>he t x h
theorem At.g {Γ:Env} {g g':Bool} {t:Nat} {x:AV} (h:Env.get t Γ=some (AV.cond g' x)) (hg:g=true→g'=true):At Γ g (.tmp t) x:=fun _ _ he e=>(he t _ h).1 (hg e)
theorem At.c {Γ:Env} {g:Bool} {v:Value}:At Γ g (.const v) (AV.val v):=fun _ _ _ _=>rfl
theorem At.f {Γ:Env} {g:Bool} {f:FuncId}:At Γ g (.func f) (AV.val (.func (.func f) #[] #[])):=fun _ _ _ _=>rfl
def Ok (P:Program) (H:List Own) (Γ:Env) (g:Bool) (o:Oper) (x:AV):Prop:=
 ∀(base:Nat→Prop) (I:Im) (a:Act) (w:World) (K:Act→World→Prop) (Q:Exit→Act→World→Prop),cF I a Γ→dr w I→bQ base I w H→g=true→
  (∀v I' w',x.h I' v→Step I w I' w'→K (a.put o.dst v) w')→o.wp P a w K Q
section
variable {P:Program} {c:Ctx} {I:Im} {H:List Own} {Γ:Env} {a:Act} {w:World} {Q:Exit→Act→World→Prop} {ops:Array Oper} {rest:List Oper}
theorem St.put {I':Im} {w':World} (hs:St c I H Γ a w) {d:Nat} (hd:d<c.n) {x:AV} {v:Value} (hx:x.h I' v) (s:Step I w I' w'):St c I' H ((d,x)::Γ) (a.put (some d) v) w':=
 ⟨hs.step.trans s,hs.own.step s,(hs.env.up s.le).put (by rw[hs.size];exact hd) hx,by simp[Act.put,hs.size],hs.defers⟩
theorem St.room (hs:St c I H Γ a w):c.own w.heap.size:=.inl hs.step.below.size
theorem St.op {o:Oper} {d:Nat} {x:AV} (hs:St c I H Γ a w) (hg:o.guard=none) (ho:o.dst=some d) (hd:Nat.blt d c.n=true) (ok:Ok P H Γ true o x)
 (k:∀I' a' w',St c I' H ((d,x)::Γ) a' w'→wpList P ops Q rest a' w'):wpList P ops Q (o::rest) a w:=by
 unfold wpList
 rw[if_pos (by simp[Region.wanted,hg])]
 refine .inl (ok c.own I a w _ _ hs.env hs.step.cE hs.own rfl fun v I' w' hx s=>k I' _ w' ?_)
 rw[ho]
 exact hs.put (by simpa using hd) hx s
end
end Go.Proofs.YtoeioeimmfpefaaGreat

/- Part 9: rules of the proofs. -/
import Derived.Test.YtldbakcpcfdlaaaGreatP08
set_option linter.all false
namespace Go.Proofs.YtldbakcpcfdlaaaGreat
open Go Go.RowKit
def Own.many (L:List Own):Own:=
 ⟨λb=>∃o∈L,o.eo b,λI w=>(∀o∈L,o.ok I w)/\L.Pairwise ld,
  λI I' w w' hl hb h=>⟨λo ho=>o.iB I I' w w' hl (λb e=>hb b ⟨o,ho,e⟩) (h.1 o ho),h.2⟩⟩
def Own.res {α:Type} (ok:α->Prop) (res:α->AV) (g:Value->List Own) (v:Value):Own:=
 ⟨λb=>∃o∈g v,o.eo b,λI w=>(∃x,ok x/\(res x).h I v)/\(∀o∈g v,o.ok I w)/\(g v).Pairwise ld,
  λI I' w w' hl hb h=>⟨let⟨x,h1,h2⟩:=h.1;⟨x,h1,(res x).up _ _ _ hl h2⟩,λo ho=>o.iB I I' w w' hl (λb e=>hb b ⟨o,ho,e⟩) (h.2.1 o ho),h.2.2⟩⟩
def AV.some {α:Type} (ok:α->Prop) (f:α->AV):AV:=⟨λI v=>∃x,ok x/\(f x).h I v,λI J v hl ⟨x,h,k⟩=>⟨x,h,(f x).up I J v hl k⟩⟩
section
variable {P:Program} {c:Ctx} {I:Im} {H:List Own} {Γ:Env} {a:Act} {w:World} {Q:Exit->Act->World->Prop} {ops:Array Oper} {rest os:List Oper} {Hf:List (EA->Own)} {ms:Meta} {E T:TypeId} {sz:Nat} {l:List (List AV)} {v:Value} {x:AV}
def bQ.open {base:Nat->Prop} {k:Nat} {o:Own} {L:List Own} (h:bQ base I w H) (hk:H[k]?=Option.some o) (hb:∀b,(∃p∈L,p.eo b)->o.eo b) (ho:∀p∈L,p.ok I w) (hL:L.Pairwise ld):bQ base I w (H.set k Own.gone++L):=by
 refine⟨λy hy=>?_,List.pairwise_append.2 ⟨lV h.apart λb e=>e.elim,hL,λy hy z hz b e e'=>?_⟩⟩
 .rcases List.mem_append.1 hy with hy|hy
  .rcases List.mem_or_eq_of_mem_set hy with hy|rfl
   .exact h.all y hy
   exact⟨trivial,λb e=>e.elim⟩
  exact⟨ho y hy,λb e=>(h.all o (List.mem_of_getElem? hk)).2 b (hb b ⟨y,hy,e⟩)⟩
 obtain⟨i,hi⟩:=List.mem_iff_getElem?.1 hy;rw[List.getElem?_set] at hi;split at hi
 .split at hi
  .cases hi;exact e
  cases hi
 rename_i bH;exact sH h.apart (λe=>bH e.symm) hi hk b e (hb b ⟨z,hz,e'⟩)
def St.split {L:List Own} (k:Nat) (U:St c I H Γ a w) (hk:H[k]?=Option.some (Own.many L)):St c I (H.set k Own.gone++L) Γ a w:=by
 obtain⟨h1,h2⟩:=(U.own.all _ (List.mem_of_getElem? hk)).1;exact⟨U.step,U.own.open hk (λb h=>h) h1 h2,U.env,U.size,U.defers⟩
def bQ.close {base:Nat->Prop} {o:Own} {L:List Own} (h:bQ base I w (H++L)) (hb:∀b,o.eo b->∃p∈L,p.eo b) (ho:o.ok I w):bQ base I w (H++[o]):=by
 obtain⟨h1,h2,h3⟩:=List.pairwise_append.1 h.apart;refine⟨λy hy=>?_,List.pairwise_append.2 ⟨h1,by simp,λy hy z hz b e e'=>?_⟩⟩
 .rcases List.mem_append.1 hy with hy|hy
  .exact h.all y (List.mem_append_left _ hy)
  obtain rfl:=List.mem_singleton.1 hy;exact⟨ho,λb e=>let⟨p,hp,e'⟩:=hb b e;(h.all p (List.mem_append_right _ hp)).2 b e'⟩
 obtain rfl:=List.mem_singleton.1 hz;obtain⟨p,hp,e2⟩:=hb b e';exact h3 y hy p hp b e e2
def St.join {L:List Own} (U:St c I (H++L) Γ a w):St c I (H++[Own.many L]) Γ a w:=
 ⟨U.step,U.own.close (λb h=>h) ⟨λo ho=>(U.own.all o (List.mem_append_right _ ho)).1,(List.pairwise_append.1 U.own.apart).2.1⟩,U.env,U.size,U.defers⟩
def bs.imp {I:Im}:∀{l m:List AV} {cs:List Value},bs I l cs->l.length=m.length->(∀(i:Nat) (x y:AV) (v:Value),l[i]?=Option.some x->m[i]?=Option.some y->x.h I v->y.h I v)->bs I m cs
 |[],[],[],_,_,_=>trivial
 |x::l,y::m,v::cs,h,hl,hi=>⟨⟨hi 0 x y v rfl rfl h.1.1,h.1.2⟩,bs.imp h.2 (by simpa using hl) λi x y v h1 h2=>hi (i+1) x y v (by simpa using h1) (by simpa using h2)⟩
 |[],_::_,_,_,hl,_=>by simp at hl
 |_::_,[],_,_,hl,_=>by simp at hl
 |[],[],_::_,h,_,_=>h.elim
 |_::_,_::_,[],h,_,_=>h.elim
def bs.none {I:Im} {cs:List Value} (h:bs I [] cs):cs=[]:=by
 cases cs with
 |nil=>rfl
 |cons u us=>exact h.elim
def bs.split {I:Im} {l m:List AV} {cs:List Value} (h:bs I (l++m) cs):bs I l (cs.take l.length)/\bs I m (cs.drop l.length):=
 ⟨(h.take l.length).cast be rfl,(h.drop l.length).cast be rfl⟩
end
section
variable {P:Program} {c:Ctx} {I:Im} {H:List Own} {Γ:Env} {a:Act} {w:World} {Q:Exit->Act->World->Prop} {ops:Array Oper} {rest:List Oper} {E T:TypeId} {sz:Nat} {l:List (List AV)} {v:Value} {x:AV}
def bQ.swap {base:Nat->Prop} {k:Nat} {o o':Own} (h:bQ base I w H) (hk:H[k]?=some o) (hb:∀b,o'.eo b->o.eo b) (ok:o'.ok I w):bQ base I w (H.set k o'):=by
 refine⟨λy hy=>?_,lV h.apart λb e=>.inl ⟨o,hk,hb b e⟩⟩;rcases List.mem_or_eq_of_mem_set hy with hy|rfl
 .exact h.all y hy
 exact⟨ok,λb e=>(h.all o (List.mem_of_getElem? hk)).2 b (hb b e)⟩
def St.swap {o o':Own} (k:Nat) (U:St c I H Γ a w) (hk:H[k]?=some o) (hb:∀b,o'.eo b->o.eo b) (ok:o.ok I w->o'.ok I w):St c I (H.set k o') Γ a w:=
 ⟨U.step,U.own.swap hk hb (ok (U.own.all _ (List.mem_of_getElem? hk)).1),U.env,U.size,U.defers⟩
def St.focus {L:List Own} {O:Own} (k i:Nat) (U:St c I H Γ a w) (hk:H[k]?=some (Own.many L)) (hi:L[i]?=some O):St c I (H.set k (Own.many (L.set i Own.gone))++[O]) Γ a w:=by
 obtain⟨h1,h2⟩:=(U.own.all _ (List.mem_of_getElem? hk)).1;have hO:=List.mem_of_getElem? hi;have Bz:∀b,(Own.many (L.set i Own.gone)).eo b->(Own.many L).eo b:=λb ⟨o,ho,e⟩=>by
  rcases List.mem_or_eq_of_mem_set ho with ho|rfl
  .exact⟨o,ho,e⟩
  exact e.elim
 have aj:(Own.many (L.set i Own.gone)).ok I w:=⟨λo ho=>by
  rcases List.mem_or_eq_of_mem_set ho with ho|rfl
  .exact h1 o ho
  exact trivial,lV h2 λb e=>e.elim⟩
 have TA:ld (Own.many (L.set i Own.gone)) O:=λb ⟨o,ho,e⟩ e'=>by
  obtain⟨j,hj⟩:=List.mem_iff_getElem?.1 ho;rw[List.getElem?_set] at hj;split at hj
  .split at hj
   .cases hj;exact e
   cases hj
  rename_i bH;exact sH h2 (λe=>bH e.symm) hj hi b e e'
 have h3:=U.own.swap hk Bz aj;refine⟨U.step,⟨λy hy=>?_,List.pairwise_append.2 ⟨h3.apart,by simp,λy hy z hz b e e'=>?_⟩⟩,U.env,U.size,U.defers⟩
 .rcases List.mem_append.1 hy with hy|hy
  .exact h3.all y hy
  obtain rfl:=List.mem_singleton.1 hy;exact⟨h1 y hO,λb e=>(U.own.all _ (List.mem_of_getElem? hk)).2 b ⟨y,hO,e⟩⟩
 obtain rfl:=List.mem_singleton.1 hz;obtain⟨j,hj⟩:=List.mem_iff_getElem?.1 hy;have gr:=(List.getElem?_eq_some_iff.1 hk).1;by_cases Fq:j=k
 .subst Fq;rw[List.getElem?_set_self gr] at hj;cases hj;exact TA b e e'
 rw[List.getElem?_set_ne (λe=>Fq e.symm)] at hj;exact sH U.own.apart Fq hj hk b e ⟨z,hO,e'⟩
def St.KN {L:List Own} {O:Own} (k i:Nat) (U:St c I (H++[O]) Γ a w) (hk:H[k]?=some (Own.many L)) (hi:L[i]?=some Own.gone):St c I (H.set k (Own.many (L.set i O))) Γ a w:=by
 have gr:=(List.getElem?_eq_some_iff.1 hk).1;have ek:(H++[O])[k]?=some (Own.many L):=by rw[List.getElem?_append_left gr];exact hk
 obtain⟨h1,h2⟩:=(U.own.all _ (List.mem_of_getElem? ek)).1;obtain⟨p1,_,p3⟩:=List.pairwise_append.1 U.own.apart;have hO:=U.own.all O be;have TB:∀y∈L,ld y O:=λy hy b e e'=>p3 _ (List.mem_of_getElem? hk) O be b ⟨y,hy,e⟩ e';refine⟨U.step,⟨λy hy=>?_,lV p1 λb ⟨o,ho,e⟩=>?_⟩,U.env,U.size,U.defers⟩
 .rcases List.mem_or_eq_of_mem_set hy with hy|rfl
  .exact U.own.all y (List.mem_append_left _ hy)
  refine⟨⟨λo ho=>?_,lV h2 λb e=>.inr λy hy e'=>TB y hy b e' e⟩,λb ⟨o,ho,e⟩=>?_⟩
  .rcases List.mem_or_eq_of_mem_set ho with ho|rfl
   .exact h1 o ho
   exact hO.1
  rcases List.mem_or_eq_of_mem_set ho with ho|rfl
  .exact(U.own.all _ (List.mem_of_getElem? ek)).2 b ⟨o,ho,e⟩
  exact hO.2 b e
 rcases List.mem_or_eq_of_mem_set ho with ho|rfl
 .exact .inl ⟨_,hk,o,ho,e⟩
 exact .inr λy hy e'=>p3 y hy o be b e' e
def St.merge {L:List Own} {O:Own} (k:Nat) (U:St c I (H++[O]) Γ a w) (hk:H[k]?=some (Own.many L)):St c I (H.set k (Own.many (L++[O]))) Γ a w:=by
 have gr:=(List.getElem?_eq_some_iff.1 hk).1;have bB:St c I (H.set k (Own.many (L++[Own.gone]))++[O]) Γ a w:=by
  have:=U.swap (o:=Own.many L) (o':=Own.many (L++[Own.gone])) k (by rw[List.getElem?_append_left gr];exact hk) (λb ⟨o,ho,e⟩=>by
   rcases List.mem_append.1 ho with ho|ho
   .exact⟨o,ho,e⟩
   .obtain rfl:=List.mem_singleton.1 ho;exact e.elim) (λh=>⟨λo ho=>by
   rcases List.mem_append.1 ho with ho|ho
   .exact h.1 o ho
   obtain rfl:=List.mem_singleton.1 ho;exact trivial,List.pairwise_append.2 ⟨h.2,by simp,λy _ z hz b _ e=>by obtain rfl:=List.mem_singleton.1 hz;exact e⟩⟩)
  rwa[List.set_append_left _ _ gr] at this
 have:=bB.KN k L.length (by rw[List.getElem?_set_self gr]) be;simpa[List.set_append_right,gr] using this
def St.tie {L:List Own} (n:Nat) (U:St c I H Γ a w) (hn:H.drop n=L:=by rfl):St c I (H.take n++[Own.many L]) Γ a w:=by
 subst hn;exact St.join (by rw[List.take_append_drop];exact U)
noncomputable def Im.with (I:Im) (w:World) (O:Own):Im:=λb=>
 haveI:=Classical.propDecidable (O.eo b)
 if O.eo b then(match w.heap[b]? with|some (.cells cs _ _)=>some cs|_=>none) else I b
def ew (I':Im) (w:World) (O:Own):Prop:=∀b cs T fr,O.eo b->w.heap[b]?=some (.cells cs T fr)->I' b=some cs
def ew.up {I J:Im} {O:Own} (h:ew I w O) (hl:Im.le I J):ew J w O:=λb cs T fr e k=>hl _ _ (h b cs T fr e k)
def ew.sub {I':Im} {O:Own} {L:List Own} (h:ew I' w (Own.many L)) (ho:O∈L):ew I' w O:=λb cs T fr e k=>h b cs T fr ⟨O,ho,e⟩ k
def St.KO {O:Own} (k:Nat) (U:St c I H Γ a w) (hk:H[k]?=some O):∃I',St c I' (H.set k Own.gone) Γ a w/\Im.le I I'/\ew I' w O:=by
 classical
 obtain⟨_,h2⟩:=U.own.all O (List.mem_of_getElem? hk);have sN:∀b,O.eo b->I.with w O b=(match w.heap[b]? with|some (.cells cs _ _)=>some cs|_=>none):=λb e=>by unfold Im.with;exact if_pos e
 have vL:∀b,¬O.eo b->I.with w O b=I b:=λb e=>by unfold Im.with;exact if_neg e
 have hle:Im.le I (I.with w O):=λb cs e=>by
  rw[vL b λh=>by rw[(h2 b h).2.1] at e;cases e];exact e
 refine⟨I.with w O,⟨⟨Im.le_trans U.step.le hle,λb hb hf=>?_,λb ds e=>?_,U.step.below⟩,⟨λo ho=>?_,lV U.own.apart λb e=>e.elim⟩,U.env.up hle,U.size,U.defers⟩,hle,λb cs T fr e h=>?_⟩
 .rw[vL b λe=>by rcases(h2 b e).1 with h|h;exact absurd h om;exact hf h];exact U.step.fS b hb hf
 .by_cases h:O.eo b
  .rw[sN b h] at e;split at e
   .rename_i cs T fr hw;cases e;exact⟨T,fr,hw⟩
   cases e
  rw[vL b h] at e;exact U.step.c9 b ds e
 .obtain⟨i,hi⟩:=List.mem_iff_getElem?.1 ho;have gr:k<H.length:=(List.getElem?_eq_some_iff.1 hk).1;by_cases oY:i=k
  .subst oY;rw[List.getElem?_set_self gr] at hi;cases hi;exact⟨trivial,λb e=>e.elim⟩
  rw[List.getElem?_set_ne (λe=>oY e.symm)] at hi;obtain⟨h1,h3⟩:=U.own.all o (List.mem_of_getElem? hi);refine⟨o.iB I _ w w hle (λ_ _=>rfl) h1,λb e=>?_⟩;obtain⟨a1,a2,a3⟩:=h3 b e;exact⟨a1,(vL b λh=>sH U.own.apart oY hi hk b e h).trans a2,a3⟩
 rw[sN b e,h]
def ew.row {I':Im} (h:ew I' w (Own.row v E sz l)) (ok:(Own.row v E sz l).ok I w) (hle:Im.le I I'):(AV.rows sz l).h I' v:=by
 obtain⟨cJ,⟨rfl,oZ⟩|⟨b,cap,cur,rfl,h0,hb,h3,h4,h5,hl⟩⟩:=ok
 .rcases oZ with rfl|⟨q,rfl,hq⟩
  .exact eQ sz I'
  exact⟨some q,0,rfl,Nat.le_refl _,by simp[maxLen],λr hr=>by simp at hr,.inl rfl,(λh=>by cases h)⟩
 refine⟨some ⟨b,0,none⟩,cap,rfl,h3,h4,cJ,?_,(λh=>by cases h)⟩;by_cases nh:l=[]
 .exact .inl nh
 refine .inr ⟨_,rfl,rfl,cur,h b cur E (0,0) (DK (q:=⟨b,0,none⟩) h0) hb,(hl.up hle).cast rfl ?_⟩;simp[fL cJ]
def jx (I:Im) (C D:List AV):Prop:=∀cs,bs I C cs->bs I D cs
def jx.flat {α:Type} {f g:α->List AV}:∀{m:List α},(∀x∈m,jx I (f x) (g x))->(∀x∈m,(f x).length=(g x).length)->jx I (m.map f).flatten (m.map g).flatten
 |[],_,_=>λcs h=>h
 |x::m,h,hn=>λcs hc=>by
  simp only[List.map_cons,List.flatten_cons] at hc⊢;obtain⟨h1,h2⟩:=hc.split;have e1:=h x be _ h1;have e2:=jx.flat (λy hy=>h y (by simp[hy])) (λy hy=>hn y (by simp[hy])) _ h2;exact(e1.append e2).cast rfl (List.take_append_drop _ _)
def KP {α:Type} {f g:α->List AV} {m:List α} (h:(AV.rows sz (m.map f)).h I v) (U:∀x∈m,jx I (f x) (g x)) (hn:∀x∈m,(f x).length=(g x).length):(AV.rows sz (m.map g)).h I v:=by
 obtain⟨p,cap,e,h1,h2,h3,h4,h5⟩:=h;refine⟨p,cap,by simpa using e,by simpa using h1,h2,λr hr=>?_,?_,h5⟩
 .obtain⟨x,hx,rfl⟩:=List.mem_map.1 hr;rw[<-hn x hx];exact h3 _ (List.mem_map.2 ⟨x,hx,rfl⟩)
 rcases h4 with h4|⟨q,hq,hc⟩
 .rw[List.map_eq_nil_iff] at h4;subst h4;exact .inl rfl
 obtain⟨oV,cs,e1,hl⟩:=hc;have hlen:(m.map f).flatten.length=(m.map g).flatten.length:=by
  rw[fL h3,fL (sz:=sz) λr hr=>by
   obtain⟨x,hx,rfl⟩:=List.mem_map.1 hr;rw[<-hn x hx];exact h3 _ (List.mem_map.2 ⟨x,hx,rfl⟩)]
  simp
 exact .inr ⟨q,hq,oV,cs,e1,by rw[<-hlen];exact jx.flat U hn _ hl⟩
def jQ {C:List AV} {u:Value} {y:AV} (q:Nat) (hq:C[q]?=some (.val u)) (hy:y.h I u):jx I C (C.set q y):=λcs h=>by
 obtain⟨u',hu,hv,h1⟩:=h.get hq;obtain rfl:u'=u:=hv;refine(h.set q hy h1).cast rfl (yv hu)
def jx.trans {C D F:List AV} (h:jx I C D) (k:jx I D F):jx I C F:=λcs e=>k cs (h cs e)
def jx.refl (C:List AV):jx I C C:=λ_ h=>h
def Own.Flat (o:Own):Prop:=∀I J w,o.ok I w->o.ok J w
def AV.Flat (x:AV):Prop:=∀I J v,x.h I v->x.h J v
def qi {u:Value}:(AV.val u).Flat:=λ_ _ _ h=>h
def Fs {J:Im}:∀{C:List AV} {cs:List Value},(∀x∈C,x.Flat)->bs I C cs->bs J C cs
 |[],[],_,_=>trivial
 |x::C,u::cs,h,k=>⟨⟨h x be _ _ _ k.1.1,k.1.2⟩,Fs (λy hy=>h y (by simp[hy])) k.2⟩
 |[],_::_,_,k=>k.elim
 |_::_,[],_,k=>k.elim
def BA (h:∀r∈l,∀x∈r,x.Flat):(Own.row v E sz l).Flat:=λI J w ⟨h1,h2⟩=>
 ⟨h1,h2.imp id λ⟨b,cap,cur,e,h0,hb,h3,h4,h5,hl⟩=>⟨b,cap,cur,e,h0,hb,h3,h4,h5,Fs (λx hx=>by
  obtain⟨r,hr,hx⟩:=List.mem_flatten.1 hx;exact h r hr x hx) hl⟩⟩
def Ft {L:List Own} (h:∀o∈L,o.Flat):(Own.many L).Flat:=λI J w ⟨h1,h2⟩=>⟨λo ho=>h o ho I J w (h1 o ho),h2⟩
def St.Fu {α:Type} {d:Nat} {f:FuncId} {ys:Array Operand} {ts:Array TypeId} {ty:TypeId} {p:String} {af:Array Edge} {xs gi:List AV} {ok:α->Prop} {h1:α->List Own} {res:α->AV} (U:St c I H Γ a w) (hf:bG P f gi [] ok h1 res) (h:∀I a,cW I a Γ->true=true->c7 I xs (ys.map a.eval).toList)
 (fz:∀c I a w,St c I H (js 0 xs) a w->∃I2 H2 Γ2,St c I2 H2 Γ2 a w/\sV 0 gi Γ2) (hn:gi.length=xs.length) (hd:Nat.blt d c.n=true)
 (hO:∀x,ok x->∀o∈h1 x,o.Flat) (hr:∀x,ok x->(res x).Flat)
 (k:∀x I' a' w',ok x->St c I' (H++h1 x) ((d,res x)::Γ) a' w'->wpList P ops Q rest a' w'):wpList P ops Q (⟨some d,.call ⟨.value (.func f),ys,ts⟩,ty,p,af,none⟩::rest) a w:=by
 have hm:=U.step.c9;have h0:=h I a U.env rfl;obtain⟨I2,H2,Γ2,eW,rv⟩:=fz ⟨w,I,(ys.map a.eval).size,λ_=>True⟩ I {tmps:=ys.map a.eval,defers:=[]} w ⟨eR.refl hm,U.own.weaken λb _=>.inr trivial,E1 h0,rfl,rfl⟩;have hx:=E0 gi [] (ys.map a.eval).toList (by rw[h0.length,hn]) (by rw[List.nil_append,Array.toArray_toList];exact eW.env) rv;have hle:Im.le I I2:=eW.step.le;refine ik rfl ?_;unfold Oper.wp;rw[Bl hf.1 rfl,Oper.upon_enter];refine Calls.mono (hf.2 I2 w _ eW.step.c9 (bQ.nil _ _ _) hx) λe w' he=>?_;cases e with
 |panicked _=>exact he.elim
 |outgrown=>exact he.elim
 |returned v=>
  obtain⟨x,I3,aj,bJ,ho,hv⟩:=he
  have bJ:=eR.none bJ
  have hold:∀b,b<w.heap.size->(λb=>if b<w.heap.size then I b else I3 b) b=I b:=λb hb=>if_pos hb
  have q9:Step I w (λb=>if b<w.heap.size then I b else I3 b) w':=⟨λb cs e=>by
   show(if b<w.heap.size then I b else I3 b)=_;rw[if_pos (hm.lt e)];exact e,hold,λb cs e=>by
   change(if b<w.heap.size then I b else I3 b)=some cs at e;split at e
   .exact bJ.c9 b cs (bJ.le b cs (hle b cs e))
   exact bJ.c9 b cs e,bJ.below⟩
  have eG:=U.own.step q9
  refine k x _ _ w' aj ⟨U.step.trans q9,⟨λo jt=>?_,List.pairwise_append.2 ⟨eG.apart,ho.apart,λo TC o' yO b e e'=>?_⟩⟩,(U.env.up q9.le).put (by rw[U.size];simpa using hd) (hr x aj _ _ _ hv),by simp[Act.put,U.size],U.defers⟩
  .rcases List.mem_append.1 jt with jt|jt
   .exact eG.all o jt
   obtain⟨q1,q2⟩:=ho.all o jt
   refine⟨hO x aj o jt _ _ _ q1,λb e=>?_⟩
   obtain⟨r1,r2,r3⟩:=q2 b e
   have hb:w.heap.size<=b:=r1.elim id λh=>by simp[dS] at h
   refine⟨.inl (Nat.le_trans U.step.below.size hb),?_,r3⟩
   show(if b<w.heap.size then I b else I3 b)=none
   rw[if_neg om];exact r2
  have l1:=((U.own.all o TC).2 b e).2.2
  have l2:w.heap.size<=b:=((ho.all o' yO).2 b e').1.elim id λh=>by simp[dS] at h
  omega
def Own.au {α:Type} (ok:α->Prop) (h1:α->List Own) (res:α->AV) (g:Own) (v:Value):Own:=
 ⟨g.eo,λI w=>g.ok I w/\∃x,ok x/\(res x).h I v/\g=Own.many (h1 x),
  λI I' w w' hl hb ⟨h,x,h1,h2,h3⟩=>⟨g.iB I I' w w' hl hb h,x,h1,(res x).up _ _ _ hl h2,h3⟩⟩
def St.qj {α:Type} {d:Nat} {ok:α->Prop} {h1:α->List Own} {res:α->AV} {g:Own} (k:Nat) (U:St c I H Γ a w) (hk:H[k]?=some (Own.au ok h1 res g (a.tmps.getD d undef))):∃x,ok x/\St c I (H.set k Own.gone++h1 x) ((d,res x)::Γ) a w:=by
 obtain⟨hg,x,hx,hv,rfl⟩:=(U.own.all _ (List.mem_of_getElem? hk)).1;refine⟨x,hx,U.step,U.own.open hk (λb h=>h) hg.1 hg.2,λt y e=>?_,U.size,U.defers⟩;simp only[Env.get] at e;cases hb:Nat.beq d t with
 |true=>rw[hb] at e;obtain rfl:d=t:=Nat.eq_of_beq_eq_true hb;simp at e;subst e;exact hv
 |false=>rw[hb] at e;exact U.env t y (by simpa using e)
end
def Own.tree {α:Type} (v:Value) (E:TypeId) (sz:Nat) (C:α->List AV) (O:α->List Own) (l:List α):Own:=Own.many [Own.row v E sz (l.map C),Own.many (l.map λx=>Own.many (O x))]
section
variable {P:Program} {c:Ctx} {I I':Im} {H:List Own} {Γ:Env} {a:Act} {w:World} {E T:TypeId} {sz:Nat} {v:Value} {α β:Type} {C:α->List AV} {O:α->List Own} {l:List α}
def St.TE {L:List Own} {M:List Own} (k i:Nat) (U:St c I H Γ a w) (hk:H[k]?=some (Own.many L)) (hi:L[i]?=some (Own.many M)):St c I (H.set k (Own.many (L.set i Own.gone))++M) Γ a w:=by
 have h:=(U.focus k i hk hi).split (L:=M) H.length (by rw[List.getElem?_append_right be];simp);obtain⟨h1,h2,h3⟩:=List.pairwise_append.1 h.own.apart;have e:(H.set k (Own.many (L.set i Own.gone))++[Own.many M]).set H.length Own.gone=H.set k (Own.many (L.set i Own.gone))++[Own.gone]:=by
  rw[List.set_append_right _ _ be];simp
 rw[e] at h;refine⟨h.step,⟨λo ho=>h.own.all o ?_,?_⟩,h.env,h.size,h.defers⟩
 .rcases List.mem_append.1 ho with ho|ho
  .exact List.mem_append_left _ (List.mem_append_left _ ho)
  exact List.mem_append_right _ ho
 exact h.own.apart.sublist (List.Sublist.append (List.sublist_append_left _ _) (List.Sublist.refl _))
def St.TF {L M M':List Own} (k i:Nat) (U:St c I (H.set k (Own.many (L.set i Own.gone))++M') Γ a w) (hk:k<H.length) (hi:i<L.length):St c I (H.set k (Own.many (L.set i (Own.many M')))) Γ a w:=by
 have h:=U.join.KN k i (L:=L.set i Own.gone) (by rw[List.getElem?_set_self hk]) (by rw[List.getElem?_set_self hi]);rwa[List.set_set,List.set_set] at h
def ew.tree {D:α->List AV} (h:ew I' w (Own.tree v E sz C O l)) (ok:(Own.tree v E sz C O l).ok I w) (hle:Im.le I I') (U:∀x∈l,(Own.many (O x)).ok I w->ew I' w (Own.many (O x))->jx I' (C x) (D x)) (hn:∀x,(C x).length=(D x).length):(AV.rows sz (l.map D)).h I' v:=by
 have h1:=ok.1 (Own.row v E sz (l.map C)) be;have h2:=ok.1 (Own.many (l.map λx=>Own.many (O x))) be;have s1:ew I' w (Own.row v E sz (l.map C)):=ew.sub h be;have s2:ew I' w (Own.many (l.map λx=>Own.many (O x))):=ew.sub h be;exact KP (s1.row h1 hle) (λx hx=>U x hx (h2.1 _ (List.mem_map.2 ⟨x,hx,rfl⟩)) (s2.sub (List.mem_map.2 ⟨x,hx,rfl⟩))) λx _=>hn x
def wo (h:∀x∈l,∀y∈C x,y.Flat) (k:∀x∈l,∀o∈O x,o.Flat):(Own.tree v E sz C O l).Flat:=Ft λo ho=>by
 simp only[List.mem_cons,List.not_mem_nil,or_false] at ho;rcases ho with rfl|rfl
 .exact BA λr hr x hx=>by
   obtain⟨y,hy,rfl⟩:=List.mem_map.1 hr;exact h y hy x hx
 exact Ft λo ho=>by
  obtain⟨x,hx,rfl⟩:=List.mem_map.1 ho;exact Ft (k x hx)
end
structure VT where
 x:aJ
 u:Value
structure ka where
 bD:TypeId
 bl:TypeId
 slot:TypeId
 int:TypeId
 answer:TypeId
 server:TypeId
 word:TypeId
 call:TypeId
 seen:TypeId
def VT.cells (t:VT):List AV:=[.int t.x.key,.int t.x.aw.time,.int t.x.aw.site,.int t.x.val,.int t.x.aB,.int t.x.call,.val t.u]
def Own.aK (K:ka) (u:Value) (l:List ao):Own:=Own.row u K.bD 3 (l.map ao.cells)
def VT.owns (K:ka) (t:VT):List Own:=[Own.aK K t.u t.x.aK]
def Own.ar (K:ka) (v:Value) (l:List VT):Own:=Own.tree v K.bl 7 VT.cells (VT.owns K) l
def mK (l:List VT):List aJ:=l.map VT.x
structure WT where
 x:az
 u1:Value
 u2:Value
 u3:Value
 u4:Value
 vs:List VT
 ws:List VT
def WT.cells (t:WT):List AV:=[.int t.x.kind,.int t.x.bj,.int t.x.to,.int t.x.call,.int t.x.key,.int t.x.aw.time,.int t.x.aw.site,.int t.x.val,.bool t.x.yes,.val t.u1,.int t.x.slot,.int t.x.bX,.val t.u2,.val t.u3,.val t.u4]
def WT.owns (K:ka) (t:WT):List Own:=[Own.aK K t.u1 t.x.aK,Own.ar K t.u2 t.vs,Own.ar K t.u3 t.ws,Own.aK K t.u4 t.x.aE]
def WT.plain (t:WT):az:={t.x with ar:=mK t.vs,waits:=mK t.ws}
def Own.words (K:ka) (v:Value) (l:List WT):Own:=Own.tree v K.word 15 WT.cells (WT.owns K) l
structure ST where
 x:Server
 u1:Value
 u2:Value
 u3:Value
 u4:Value
 u5:Value
 vs:List VT
 ws:List VT
def Own.aQ (K:ka) (u:Value) (l:List ct):Own:=Own.row u K.slot 2 (l.map ct.cells)
def ST.cells (t:ST):List AV:=[.int t.x.site,.bool t.x.up,.val t.u1,.val t.u2,.val t.u3,.val t.u4,.val t.u5]
def ST.owns (K:ka) (t:ST):List Own:=[Own.aQ K t.u1 t.x.aQ,Own.ar K t.u2 t.vs,Own.ar K t.u3 t.ws,Own.aK K t.u4 t.x.aE,Own.aK K t.u5 t.x.bq]
def ST.plain (t:ST):Server:={t.x with ar:=mK t.vs,waits:=mK t.ws}
def Own.aF (K:ka) (v:Value) (l:List ST):Own:=Own.tree v K.server 7 ST.cells (ST.owns K) l
structure AT where
 x:Answer
 u:Value
def AT.cells (t:AT):List AV:=[.int t.x.key,.bool t.x.yes,.int t.x.bl.key,.int t.x.bl.aw.time,.int t.x.bl.aw.site,.int t.x.bl.val,.int t.x.bl.aB,.int t.x.bl.call,.val t.u]
def AT.owns (K:ka) (t:AT):List Own:=[Own.aK K t.u t.x.bl.aK]
def Own.answers (K:ka) (v:Value) (l:List AT):Own:=Own.tree v K.answer 9 AT.cells (AT.owns K) l
structure CT where
 x:Call
 u1:Value
 u2:Value
 u3:Value
 u4:Value
 au:List AT
def Own.ints (K:ka) (u:Value) (l:List Int):Own:=Own.row u K.int 1 (l.map lF)
def CT.cells (t:CT):List AV:=[.int t.x.aB,.int t.x.num,.int t.x.kind,.val t.u1,.int t.x.val,.val t.u2,.int t.x.bw,.int t.x.end_,.bool t.x.over,.int t.x.aw.time,.int t.x.aw.site,.val t.u3,.val t.u4]
def CT.owns (K:ka) (t:CT):List Own:=[Own.ints K t.u1 t.x.keys,Own.aK K t.u2 t.x.ctx,Own.answers K t.u3 t.au,Own.aK K t.u4 t.x.aO]
def CT.plain (t:CT):Call:={t.x with au:=t.au.map AT.x}
def Own.calls (K:ka) (v:Value) (l:List CT):Own:=Own.tree v K.call 13 CT.cells (CT.owns K) l
structure DT where
 x:List ao
 u:Value
def DT.cells (t:DT):List AV:=[.val t.u]
def DT.owns (K:ka) (t:DT):List Own:=[Own.aK K t.u t.x]
def Own.seen (K:ka) (v:Value) (l:List DT):Own:=Own.tree v K.seen 1 DT.cells (DT.owns K) l
structure NT where
 time:Int
 u1:Value
 u2:Value
 u3:Value
 u4:Value
 aF:List ST
 aC:List WT
 calls:List CT
 seen:List DT
def NT.cells (t:NT):List AV:=[.int t.time,.val t.u1,.val t.u2,.val t.u3,.val t.u4]
def NT.owns (K:ka) (t:NT):List Own:=[Own.aF K t.u1 t.aF,Own.words K t.u2 t.aC,Own.calls K t.u3 t.calls,Own.seen K t.u4 t.seen]
def NT.plain (t:NT):aM:=⟨t.time,t.aF.map ST.plain,t.aC.map WT.plain,t.calls.map CT.plain,t.seen.map DT.x⟩
def NT.av (t:NT):AV:=.agg t.cells
section
variable {I I':Im} {w:World} {K:ka} {v:Value}
def ew.aK {u:Value} {l:List ao} (h:ew I' w (Own.aK K u l)) (ok:(Own.aK K u l).ok I w) (hle:Im.le I I'):(bm l).h I' u:=h.row ok hle
def ew.ar {l:List VT} (h:ew I' w (Own.ar K v l)) (ok:(Own.ar K v l).ok I w) (hle:Im.le I I'):(cm (mK l)).h I' v:=by
 have:=ew.tree (D:=λt=>t.x.cells) h ok hle (λt _ o s=>jQ 6 rfl ((s.sub (O:=Own.aK K t.u t.x.aK) (by simp[VT.owns])).aK (o.1 _ (by simp[VT.owns])) hle)) λ_=>rfl;simpa[cm,mK,List.map_map,Function.comp_def] using this
def WT.qk {t:WT} (o:(Own.many (t.owns K)).ok I w) (s:ew I' w (Own.many (t.owns K))) (hle:Im.le I I'):jx I' t.cells t.plain.cells:=by
 have s1:=((s.sub (O:=Own.aK K t.u1 t.x.aK) (by simp[WT.owns])).aK (o.1 _ (by simp[WT.owns])) hle);have s2:=((s.sub (O:=Own.ar K t.u2 t.vs) (by simp[WT.owns])).ar (o.1 _ (by simp[WT.owns])) hle);have s3:=((s.sub (O:=Own.ar K t.u3 t.ws) (by simp[WT.owns])).ar (o.1 _ (by simp[WT.owns])) hle);have s4:=((s.sub (O:=Own.aK K t.u4 t.x.aE) (by simp[WT.owns])).aK (o.1 _ (by simp[WT.owns])) hle);exact((jQ 9 rfl s1).trans (jQ 12 rfl s2)).trans ((jQ 13 rfl s3).trans (jQ 14 rfl s4))
def ew.words {l:List WT} (h:ew I' w (Own.words K v l)) (ok:(Own.words K v l).ok I w) (hle:Im.le I I'):(dW (l.map WT.plain)).h I' v:=by
 have:=ew.tree (D:=λt=>t.plain.cells) h ok hle (λt _ o s=>WT.qk o s hle) λ_=>rfl;simpa[dW,List.map_map,Function.comp_def] using this
def ST.qk {t:ST} (o:(Own.many (t.owns K)).ok I w) (s:ew I' w (Own.many (t.owns K))) (hle:Im.le I I'):jx I' t.cells t.plain.cells:=by
 have s1:(l4 t.x.aQ).h I' t.u1:=(s.sub (O:=Own.aQ K t.u1 t.x.aQ) (by simp[ST.owns])).row (o.1 (Own.aQ K t.u1 t.x.aQ) (by simp[ST.owns])) hle;have s2:=((s.sub (O:=Own.ar K t.u2 t.vs) (by simp[ST.owns])).ar (o.1 _ (by simp[ST.owns])) hle);have s3:=((s.sub (O:=Own.ar K t.u3 t.ws) (by simp[ST.owns])).ar (o.1 _ (by simp[ST.owns])) hle);have s4:=((s.sub (O:=Own.aK K t.u4 t.x.aE) (by simp[ST.owns])).aK (o.1 _ (by simp[ST.owns])) hle);have s5:=((s.sub (O:=Own.aK K t.u5 t.x.bq) (by simp[ST.owns])).aK (o.1 _ (by simp[ST.owns])) hle);exact((jQ 2 rfl s1).trans (jQ 3 rfl s2)).trans (((jQ 4 rfl s3).trans (jQ 5 rfl s4)).trans (jQ 6 rfl s5))
def ew.aF {l:List ST} (h:ew I' w (Own.aF K v l)) (ok:(Own.aF K v l).ok I w) (hle:Im.le I I'):(n3 (l.map ST.plain)).h I' v:=by
 have:=ew.tree (D:=λt=>t.plain.cells) h ok hle (λt _ o s=>ST.qk o s hle) λ_=>rfl;simpa[n3,List.map_map,Function.comp_def] using this
def ew.answers {l:List AT} (h:ew I' w (Own.answers K v l)) (ok:(Own.answers K v l).ok I w) (hle:Im.le I I'):(j7 (l.map AT.x)).h I' v:=by
 have:=ew.tree (D:=λt=>t.x.cells) h ok hle (λt _ o s=>jQ 8 rfl ((s.sub (O:=Own.aK K t.u t.x.bl.aK) (by simp[AT.owns])).aK (o.1 _ (by simp[AT.owns])) hle)) λ_=>rfl;simpa[j7,List.map_map,Function.comp_def] using this
def CT.qk {t:CT} (o:(Own.many (t.owns K)).ok I w) (s:ew I' w (Own.many (t.owns K))) (hle:Im.le I I'):jx I' t.cells t.plain.cells:=by
 have s1:(fM t.x.keys).h I' t.u1:=(s.sub (O:=Own.ints K t.u1 t.x.keys) (by simp[CT.owns])).row (o.1 (Own.ints K t.u1 t.x.keys) (by simp[CT.owns])) hle;have s2:=((s.sub (O:=Own.aK K t.u2 t.x.ctx) (by simp[CT.owns])).aK (o.1 _ (by simp[CT.owns])) hle);have s3:=((s.sub (O:=Own.answers K t.u3 t.au) (by simp[CT.owns])).answers (o.1 _ (by simp[CT.owns])) hle);have s4:=((s.sub (O:=Own.aK K t.u4 t.x.aO) (by simp[CT.owns])).aK (o.1 _ (by simp[CT.owns])) hle);exact((jQ 3 rfl s1).trans (jQ 5 rfl s2)).trans ((jQ 11 rfl s3).trans (jQ 12 rfl s4))
def ew.calls {l:List CT} (h:ew I' w (Own.calls K v l)) (ok:(Own.calls K v l).ok I w) (hle:Im.le I I'):(jb (l.map CT.plain)).h I' v:=by
 have:=ew.tree (D:=λt=>t.plain.cells) h ok hle (λt _ o s=>CT.qk o s hle) λ_=>rfl;simpa[jb,List.map_map,Function.comp_def] using this
def ew.seen {l:List DT} (h:ew I' w (Own.seen K v l)) (ok:(Own.seen K v l).ok I w) (hle:Im.le I I'):(lG (l.map DT.x)).h I' v:=by
 have:=ew.tree (D:=λt=>fh t.x) h ok hle (λt _ o s=>jQ 0 rfl ((s.sub (O:=Own.aK K t.u t.x) (by simp[DT.owns])).aK (o.1 _ (by simp[DT.owns])) hle)) λ_=>rfl;simpa[lG,List.map_map,Function.comp_def] using this
def NT.qk {t:NT} (o:(Own.many (t.owns K)).ok I w) (s:ew I' w (Own.many (t.owns K))) (hle:Im.le I I'):jx I' t.cells t.plain.cells:=by
 have s1:=((s.sub (O:=Own.aF K t.u1 t.aF) (by simp[NT.owns])).aF (o.1 _ (by simp[NT.owns])) hle);have s2:=((s.sub (O:=Own.words K t.u2 t.aC) (by simp[NT.owns])).words (o.1 _ (by simp[NT.owns])) hle);have s3:=((s.sub (O:=Own.calls K t.u3 t.calls) (by simp[NT.owns])).calls (o.1 _ (by simp[NT.owns])) hle);have s4:=((s.sub (O:=Own.seen K t.u4 t.seen) (by simp[NT.owns])).seen (o.1 _ (by simp[NT.owns])) hle);exact((jQ 1 rfl s1).trans (jQ 2 rfl s2)).trans ((jQ 3 rfl s3).trans (jQ 4 rfl s4))
def wq {u:Value} {l:List ao}:(Own.aK K u l).Flat:=BA λr hr x hx=>by
 obtain⟨d,_,rfl⟩:=List.mem_map.1 hr;simp only[ao.cells,List.mem_cons,List.not_mem_nil,or_false] at hx;rcases hx with rfl|rfl|rfl<;>exact qi
def VT.flat (t:VT):∀y∈t.cells,y.Flat:=λy hy=>by
 simp only[VT.cells,List.mem_cons,List.not_mem_nil,or_false] at hy;rcases hy with rfl|rfl|rfl|rfl|rfl|rfl|rfl<;>exact qi
def KQ {l:List VT}:(Own.ar K v l).Flat:=wo (λt _=>t.flat) λt _ o ho=>by
 obtain rfl:=List.mem_singleton.1 ho;exact wq
def WT.flat (t:WT):∀y∈t.cells,y.Flat:=λy hy=>by
 simp only[WT.cells,List.mem_cons,List.not_mem_nil,or_false] at hy;rcases hy with rfl|rfl|rfl|rfl|rfl|rfl|rfl|rfl|rfl|rfl|rfl|rfl|rfl|rfl|rfl<;>exact qi
def TG {l:List WT}:(Own.words K v l).Flat:=wo (λt _=>t.flat) λt _ o ho=>by
 simp only[WT.owns,List.mem_cons,List.not_mem_nil,or_false] at ho;rcases ho with rfl|rfl|rfl|rfl<;>first|exact wq|exact KQ
def ST.flat (t:ST):∀y∈t.cells,y.Flat:=λy hy=>by
 simp only[ST.cells,List.mem_cons,List.not_mem_nil,or_false] at hy;rcases hy with rfl|rfl|rfl|rfl|rfl|rfl|rfl<;>exact qi
def TH {u:Value} {l:List ct}:(Own.aQ K u l).Flat:=BA λr hr x hx=>by
 obtain⟨d,_,rfl⟩:=List.mem_map.1 hr;simp only[ct.cells,List.mem_cons,List.not_mem_nil,or_false] at hx;rcases hx with rfl|rfl<;>exact qi
def TI {l:List ST}:(Own.aF K v l).Flat:=wo (λt _=>t.flat) λt _ o ho=>by
 simp only[ST.owns,List.mem_cons,List.not_mem_nil,or_false] at ho;rcases ho with rfl|rfl|rfl|rfl|rfl<;>first|exact TH|exact wq|exact KQ
def AT.flat (t:AT):∀y∈t.cells,y.Flat:=λy hy=>by
 simp only[AT.cells,List.mem_cons,List.not_mem_nil,or_false] at hy;rcases hy with rfl|rfl|rfl|rfl|rfl|rfl|rfl|rfl|rfl<;>exact qi
def TJ {l:List AT}:(Own.answers K v l).Flat:=wo (λt _=>t.flat) λt _ o ho=>by
 obtain rfl:=List.mem_singleton.1 ho;exact wq
def TK {u:Value} {l:List Int}:(Own.ints K u l).Flat:=BA λr hr x hx=>by
 obtain⟨d,_,rfl⟩:=List.mem_map.1 hr;obtain rfl:=List.mem_singleton.1 hx;exact qi
def CT.flat (t:CT):∀y∈t.cells,y.Flat:=λy hy=>by
 simp only[CT.cells,List.mem_cons,List.not_mem_nil,or_false] at hy;rcases hy with rfl|rfl|rfl|rfl|rfl|rfl|rfl|rfl|rfl|rfl|rfl|rfl|rfl<;>exact qi
def TL {l:List CT}:(Own.calls K v l).Flat:=wo (λt _=>t.flat) λt _ o ho=>by
 simp only[CT.owns,List.mem_cons,List.not_mem_nil,or_false] at ho;rcases ho with rfl|rfl|rfl|rfl<;>first|exact TK|exact wq|exact TJ
def TM {l:List DT}:(Own.seen K v l).Flat:=wo (λt _ y hy=>by obtain rfl:=List.mem_singleton.1 hy;exact qi) λt _ o ho=>by
 obtain rfl:=List.mem_singleton.1 ho;exact wq
def NT.Fv (t:NT):∀o∈t.owns K,o.Flat:=λo ho=>by
 simp only[NT.owns,List.mem_cons,List.not_mem_nil,or_false] at ho;rcases ho with rfl|rfl|rfl|rfl
 .exact TI
 .exact TG
 .exact TL
 exact TM
end
end Go.Proofs.YtldbakcpcfdlaaaGreat
namespace Go.Proofs.YtldbakcpcfdlaaaGreat
def aN {α:Type} (f:Nat->α->α×Nat):Nat->List α->List α×Nat
 |k,[]=>([],k)
 |k,x::r=>((f k x).1::(aN f (f k x).2 r).1,(aN f (f k x).2 r).2)
section
variable {α β:Type} {f:Nat->α->α×Nat}
def BB:∀{k:Nat} {l m:List α},aN f k (l++m)=((aN f k l).1++(aN f (aN f k l).2 m).1,(aN f (aN f k l).2 m).2)
 |_,[],_=>rfl
 |k,x::l,m=>by simp only[List.cons_append,aN];rw[BB]
def fJ:∀{k:Nat} {l:List α},(aN f k l).1.length=l.length
 |_,[]=>rfl
 |k,x::l=>by simp[aN,fJ]
def uA {f':Nat->β->β×Nat} {g:α->β} (h:∀k x,f' k (g x)=(g (f k x).1,(f k x).2)):∀{k:Nat} {l:List α},aN f' k (l.map g)=((aN f k l).1.map g,(aN f k l).2)
 |_,[]=>rfl
 |k,x::l=>by simp only[List.map_cons,aN];rw[h,uA h]
def Fw {k i:Nat} {l:List α} {x:α} (hx:l[i]?=some x):aN f k (l.take (i+1))=((aN f k (l.take i)).1++[(f (aN f k (l.take i)).2 x).1],(f (aN f k (l.take i)).2 x).2):=by
 rw[List.take_add_one,hx,Option.toList_some,BB];rfl
def KR (h:∀k x,k<=(f k x).2):∀{k:Nat} {l:List α},k<=(aN f k l).2
 |k,[]=>Nat.le_refl k
 |k,x::l=>Nat.le_trans (h k x) (KR h)
def TO (h:∀k x,k<=(f k x).2) {k i:Nat} {l:List α}:(aN f k (l.take i)).2<=(aN f k l).2:=by
 conv=>rhs;rw[<-List.take_append_drop i l,BB]
 exact KR h
def TP {k i:Nat} {l:List α} {x:α} (hx:l[i]?=some x):(aN f k l).1[i]?=some (f (aN f k (l.take i)).2 x).1:=by
 have hi:=(List.getElem?_eq_some_iff.1 hx).1;conv=>lhs;rw[<-List.take_append_drop (i+1) l,BB,Fw hx]
 rw[List.getElem?_append_left (by simp[fJ];omega),List.getElem?_append_right (by simp[fJ];omega)];have:i-(aN f k (l.take i)).1.length=0:=by rw[fJ,List.length_take];omega
 rw[this];rfl
def fj (f:Nat->α->α×Nat) (k:Nat) (l:List α) (i:Nat):List α:=(aN f k (l.take i)).1++l.drop i
def KS {k i:Nat} {l:List α} (h:l.length<=i):fj f k l i=(aN f k l).1:=by
 simp[fj,List.take_of_length_le h,List.drop_eq_nil_of_le h]
def iT {k i:Nat} {l:List α}:(fj f k l i).length=l.length:=by simp[fj,fJ];omega
def KT {k i:Nat} {l:List α} {x:α} (hx:l[i]?=some x):(fj f k l i)[i]?=some x:=by
 have hi:=(List.getElem?_eq_some_iff.1 hx).1;unfold fj;rw[List.getElem?_append_right (by rw[fJ,List.length_take];omega),fJ,List.length_take,List.getElem?_drop];rw[show i+(i-min i l.length)=i by omega];exact hx
def KU {k i:Nat} {l:List α} {x:α} (hx:l[i]?=some x):fj f k l (i+1)=(fj f k l i).set i (f (aN f k (l.take i)).2 x).1:=by
 have hi:=(List.getElem?_eq_some_iff.1 hx).1;unfold fj;have hl:(aN f k (l.take i)).1.length=i:=by rw[fJ,List.length_take];omega
 rw[Fw hx,List.set_append_right _ _ om,hl,Nat.sub_self];have hd:l.drop i=x::l.drop (i+1):=by
  rw[List.drop_eq_getElem_cons hi];obtain⟨_,e⟩:=List.getElem?_eq_some_iff.1 hx;rw[e]
 rw[hd];simp
end
def iJ (k:Nat) (_:ao):ao×Nat:=(⟨k,⟨(k+1:Nat),(k+2:Nat)⟩⟩,k+3)
def jy (k:Nat) (_:ct):ct×Nat:=(⟨k,(k+1:Nat)⟩,k+2)
def kJ (k:Nat) (_:Int):Int×Nat:=(k,k+1)
def cn (k:Nat) (l:List ao):List ao×Nat:=aN iJ k l
def mL (k:Nat) (l:List ct):List ct×Nat:=aN jy k l
def mM (k:Nat) (l:List Int):List Int×Nat:=aN kJ k l
def cx (k:Nat) (v:aJ):aJ×Nat:=(⟨k,⟨(k+1:Nat),(k+2:Nat)⟩,(k+3:Nat),(k+4:Nat),(k+5:Nat),(cn (k+6) v.aK).1⟩,(cn (k+6) v.aK).2)
def rF (k:Nat) (t:VT):VT×Nat:=(⟨(cx k t.x).1,t.u⟩,(cx k t.x).2)
def lK (k:Nat) (l:List VT):List VT×Nat:=aN rF k l
def Fx {k:Nat} {l:List VT}:aN cx k (mK l)=(mK (lK k l).1,(lK k l).2):=uA (f:=rF) (g:=VT.x) λ_ _=>rfl
def dU (k:Nat):Bool:=(k:Int)%3==0
def kK (k:Nat) (t:ST):ST×Nat:=
 let a:=mL (k+2) t.x.aQ;let b:=lK a.2 t.vs;let c:=lK b.2 t.ws;let d:=cn c.2 t.x.aE;let e:=cn d.2 t.x.bq
 (⟨⟨k,dU (k+1),a.1,t.x.ar,t.x.waits,d.1,e.1⟩,t.u1,t.u2,t.u3,t.u4,t.u5,b.1,c.1⟩,e.2)
def gA (k:Nat) (s:Server):Server×Nat:=
 let a:=mL (k+2) s.aQ;let b:=aN cx a.2 s.ar;let c:=aN cx b.2 s.waits;let d:=cn c.2 s.aE;let e:=cn d.2 s.bq
 (⟨k,dU (k+1),a.1,b.1,c.1,d.1,e.1⟩,e.2)
def KV (k:Nat) (t:ST):gA k t.plain=((kK k t).1.plain,(kK k t).2):=by
 simp only[gA,kK,ST.plain,Fx]
def kO (k:Nat) (t:WT):WT×Nat:=
 let a:=cn (k+9) t.x.aK;let b:=lK (a.2+2) t.vs;let c:=lK b.2 t.ws;let d:=cn c.2 t.x.aE
 (⟨⟨k,(k+1:Nat),(k+2:Nat),(k+3:Nat),(k+4:Nat),⟨(k+5:Nat),(k+6:Nat)⟩,(k+7:Nat),dU (k+8),a.1,a.2,(a.2+1:Nat),t.x.ar,t.x.waits,d.1⟩,t.u1,t.u2,t.u3,t.u4,b.1,c.1⟩,d.2)
def dA (k:Nat) (t:az):az×Nat:=
 let a:=cn (k+9) t.aK;let b:=aN cx (a.2+2) t.ar;let c:=aN cx b.2 t.waits;let d:=cn c.2 t.aE
 (⟨k,(k+1:Nat),(k+2:Nat),(k+3:Nat),(k+4:Nat),⟨(k+5:Nat),(k+6:Nat)⟩,(k+7:Nat),dU (k+8),a.1,a.2,(a.2+1:Nat),b.1,c.1,d.1⟩,d.2)
def KW (k:Nat) (t:WT):dA k t.plain=((kO k t).1.plain,(kO k t).2):=by
 simp only[dA,kO,WT.plain,Fx]
def ey (k:Nat) (a:Answer):Answer×Nat:=(⟨k,dU (k+1),(cx (k+2) a.bl).1⟩,(cx (k+2) a.bl).2)
def kQ (k:Nat) (t:AT):AT×Nat:=(⟨(ey k t.x).1,t.u⟩,(ey k t.x).2)
def TQ {k:Nat} {l:List AT}:aN ey k (l.map AT.x)=((aN kQ k l).1.map AT.x,(aN kQ k l).2):=uA (f:=kQ) (g:=AT.x) λ_ _=>rfl
def kR (k:Nat) (t:CT):CT×Nat:=
 let a:=mM (k+3) t.x.keys;let b:=cn (a.2+1) t.x.ctx;let c:=aN kQ (b.2+5) t.au;let d:=cn c.2 t.x.aO
 (⟨⟨k,(k+1:Nat),(k+2:Nat),a.1,a.2,b.1,b.2,(b.2+1:Nat),dU (b.2+2),⟨(b.2+3:Nat),(b.2+4:Nat)⟩,t.x.au,d.1⟩,t.u1,t.u2,t.u3,t.u4,c.1⟩,d.2)
def dQ (k:Nat) (t:Call):Call×Nat:=
 let a:=mM (k+3) t.keys;let b:=cn (a.2+1) t.ctx;let c:=aN ey (b.2+5) t.au;let d:=cn c.2 t.aO
 (⟨k,(k+1:Nat),(k+2:Nat),a.1,a.2,b.1,b.2,(b.2+1:Nat),dU (b.2+2),⟨(b.2+3:Nat),(b.2+4:Nat)⟩,c.1,d.1⟩,d.2)
def KX (k:Nat) (t:CT):dQ k t.plain=((kR k t).1.plain,(kR k t).2):=by
 simp only[dQ,kR,CT.plain,TQ]
def mN (k:Nat) (t:DT):DT×Nat:=(⟨(cn k t.x).1,t.u⟩,(cn k t.x).2)
def TR {k:Nat} {l:List DT}:aN cn k (l.map DT.x)=((aN mN k l).1.map DT.x,(aN mN k l).2):=uA (f:=mN) (g:=DT.x) λ_ _=>rfl
def jz (k:Nat) (t:NT):NT×Nat:=
 let a:=aN kK k t.aF;let b:=aN kO a.2 t.aC;let c:=aN kR b.2 t.calls;let d:=aN mN c.2 t.seen
 (⟨t.time,t.u1,t.u2,t.u3,t.u4,a.1,b.1,c.1,d.1⟩,d.2)
def n8 (k:Nat) (t:aM):aM×Nat:=
 let a:=aN gA k t.aF;let b:=aN dA a.2 t.aC;let c:=aN dQ b.2 t.calls;let d:=aN cn c.2 t.seen
 (⟨t.time,a.1,b.1,c.1,d.1⟩,d.2)
def TS (k:Nat) (t:NT):n8 k t.plain=((jz k t).1.plain,(jz k t).2):=by
 simp only[n8,jz,NT.plain,uA (f:=kK) (g:=ST.plain) KV,uA (f:=kO) (g:=WT.plain) KW,uA (f:=kR) (g:=CT.plain) KX,TR]
def gI {α:Type} {f:Nat->α->α×Nat} {c:α->Nat} (h:∀k x,(f k x).2=k+c x):∀{k:Nat} {l:List α},(aN f k l).2=k+(l.map c).sum
 |k,[]=>by simp[aN]
 |k,x::l=>by simp only[aN,List.map_cons,List.sum_cons];rw[gI h,h];omega
def yX {α:Type} (c:Nat):∀l:List α,(l.map λ_=>c).sum=c*l.length
 |[]=>by simp
 |x::l=>by simp only[List.map_cons,List.sum_cons,List.length_cons,yX c l];rw[Nat.mul_add];omega
def ez {k:Nat} {l:List ao}:(cn k l).2=k+3*l.length:=by
 unfold cn;rw[gI (c:=λ_=>3) λ_ _=>rfl,yX]
def yY {k:Nat} {l:List ct}:(mL k l).2=k+2*l.length:=by
 unfold mL;rw[gI (c:=λ_=>2) λ_ _=>rfl,yX]
def yZ {k:Nat} {l:List Int}:(mM k l).2=k+l.length:=by
 unfold mM;rw[gI (c:=λ_=>1) λ_ _=>rfl,yX,Nat.one_mul]
def jh (v:aJ):Nat:=6+3*v.aK.length
def n9 (l:List aJ):Nat:=(l.map jh).sum
def za (k:Nat) (v:aJ):(cx k v).2=k+jh v:=by
 simp only[cx,ez,jh];omega
def pe {k:Nat} {l:List aJ}:(aN cx k l).2=k+n9 l:=gI za
def sX {k:Nat} {l:List VT}:(lK k l).2=k+n9 (mK l):=by
 rw[<-pe,Fx]
def lL (s:Server):Nat:=2+2*s.aQ.length+n9 s.ar+n9 s.waits+3*s.aE.length+3*s.bq.length
def wu (k:Nat) (s:Server):(gA k s).2=k+lL s:=by
 simp only[gA,ez,yY,pe,lL];omega
def lM (m:az):Nat:=11+3*m.aK.length+n9 m.ar+n9 m.waits+3*m.aE.length
def wv (k:Nat) (m:az):(dA k m).2=k+lM m:=by
 simp only[dA,ez,pe,lM];omega
def lr (a:Answer):Nat:=2+jh a.bl
def wx (k:Nat) (a:Answer):(ey k a).2=k+lr a:=by
 simp only[ey,za,lr];omega
def lN (q:Call):Nat:=9+q.keys.length+3*q.ctx.length+(q.au.map lr).sum+3*q.aO.length
def wy (k:Nat) (q:Call):(dQ k q).2=k+lN q:=by
 simp only[dQ,ez,yZ,gI wx,lN];omega
def pf (w:aM):Nat:=(w.aF.map lL).sum+(w.aC.map lM).sum+(w.calls.map lN).sum+(w.seen.map λl=>3*l.length).sum
def zb (k:Nat) (w:aM):(n8 k w).2=k+pf w:=by
 simp only[n8,gI wu,gI wv,gI wy,gI (f:=cn) (c:=λl=>3*l.length) λ_ _=>ez,pf];omega
def KY (k:Nat) (t:VT):(rF k t).2=k+jh t.x:=za k t.x
def BC (k:Nat) (t:ST):(kK k t).2=k+lL t.plain:=by rw[<-wu,KV]
def BD (k:Nat) (t:WT):(kO k t).2=k+lM t.plain:=by rw[<-wv,KW]
def Fy (k:Nat) (t:AT):(kQ k t).2=k+lr t.x:=wx k t.x
def KZ {k:Nat} {l:List AT}:(aN kQ k l).2=k+((l.map AT.x).map lr).sum:=by rw[gI Fy,List.map_map];rfl
def BE (k:Nat) (t:CT):(kR k t).2=k+lN t.plain:=by rw[<-wy,KX]
def K0 (k:Nat) (t:DT):(mN k t).2=k+3*t.x.length:=ez
def get_some {α:Type} {l:List α} {i:Nat} (h:i<l.length):∃t,l[i]?=some t:=⟨_,List.getElem?_eq_getElem h⟩
def lu {α:Type} {f:Nat->α->α×Nat} {c:α->Nat} (hc:∀k x,(f k x).2=k+c x) (h1:∀x,1<=c x) {k:Nat} {l:List α}:k+l.length<=(aN f k l).2:=by
 rw[gI hc];have:∀m:List α,m.length<=(m.map c).sum:=λm=>by
  induction m with
  |nil=>exact Nat.zero_le _
  |cons x m ih=>have:=h1 x;simp only[List.length_cons,List.map_cons,List.sum_cons];omega
 have:=this l;omega
def rG {α:Type} [Inhabited α] {f:Nat->α->α×Nat} {k i kk:Nat} {l:List α} {t:α} (hx:l[i]?=some t) (cV:(aN f k (l.take i)).2=kk):ae (aN f k l).1 i=(f kk t).1:=by
 subst cV;simp[ae,TP hx]
def kb {α:Type} {f:Nat->α->α×Nat} {c:α->Nat} (hc:∀k x,(f k x).2=k+c x) {k i kk:Nat} {l:List α} {x:α} (hx:l[i]?=some x) (cV:(aN f k (l.take i)).2=kk):(aN f k (l.take (i+1))).2=(f kk x).2/\kk+c x<=(aN f k l).2:=by
 subst cV;have e:(aN f k (l.take (i+1))).2=(f (aN f k (l.take i)).2 x).2:=by rw[Fw hx]
 refine⟨e,?_⟩;rw[<-hc,<-e];exact TO λk x=>by rw[hc];omega
end Go.Proofs.YtldbakcpcfdlaaaGreat
namespace Go.Proofs.YtldbakcpcfdlaaaGreat
open Go Go.RowKit
section
variable {P:Program} {c:Ctx} {I:Im} {H:List Own} {Γ:Env} {a:Act} {w:World} {Q:Exit->Act->World->Prop} {ops:Array Oper} {rest:List Oper} {E T:TypeId} {sz:Nat} {v:Value} {R:List (List AV)} {D:List AV} {α:Type} {C:α->List AV} {O:α->List Own} {l l':List α} {x:α}
def St.dE {y z:Operand} {ty:TypeId} {p:String} {af:Array Edge} {m:Nat} {zv:Value} {q i j:Nat} {x:AV} (k:Nat) (U:St c I H Γ a w) (hT:Ty P T false 1 m zv) (hy:At Γ true y (.val (.pointer (some ⟨rE v,q,none⟩)))) (hz:At Γ true z x) (hx:x.One)
 (hk:H[k]?=some (Own.row v E sz (R.set i D))) (hi:i<R.length) (hq:q=i*sz+j) (hj:Nat.ble (j+1) sz=true)
 (kk:∀a' w',St c I (H.set k (Own.row v E sz (R.set i (D.set j x)))) Γ a' w'->wpList P ops Q rest a' w'):
 wpList P ops Q (⟨none,.store T y z,ty,p,af,none⟩::rest) a w:=by
 have ho:=(U.own.all _ (List.mem_of_getElem? hk)).1;have hC:(R.set i D)[i]?=some D:=by simp[hi]
 obtain⟨b,cap,rfl⟩:=yW ho (by intro h;rw[h] at hC;simp at hC);have cJ:D.length=sz:=ho.1 D (List.mem_of_getElem? hC);refine U.ui (i:=i) (j:=j) (r:=D) (l:=R.set i D) k hT hy hz hx hk hC hq hj λa' w' bB=>kk a' w' ?_;rw[List.set_set,DX (by have:=Nat.le_of_ble_eq_true hj;omega)] at bB;exact bB
def lO {i:Nat} (h:i<R.length):(R.set i D)[((i:Int)).toNat]?=some D:=by simp[h]
def St.Fz (k i:Nat) (U:St c I H Γ a w) (hk:H[k]?=some (Own.row v E sz R)) (hC:R[i]?=some D):St c I (H.set k (Own.row v E sz (R.set i D))) Γ a w:=by
 rw[yv hC,yv hk];exact U
def St.TU (i:Nat) (U:St c I [Own.row v E sz (l.map C),Own.many (l.map λx=>Own.many (O x))] Γ a w) (hx:l[i]?=some x):
 St c I ([Own.row v E sz ((l.map C).set i (C x)),Own.many ((l.map λx=>Own.many (O x)).set i Own.gone)]++O x) Γ a w:=
 (U.Fz 0 i rfl (by rw[List.getElem?_map,hx];rfl)).TE 1 i rfl (by rw[List.getElem?_map,hx];rfl)
def St.TV {D:List AV} {M:List Own} (x:α) (i:Nat) (U:St c I ([Own.row v E sz ((l.map C).set i D),Own.many ((l.map λx=>Own.many (O x)).set i Own.gone)]++M) Γ a w) (hi:i<l.length) (hl:l.set i x=l') (hC:C x=D) (hM:O x=M):
 St c I [Own.row v E sz (l'.map C),Own.many (l'.map λx=>Own.many (O x))] Γ a w:=by
 subst hl hC hM;have h:=St.TF (H:=[Own.row v E sz ((l.map C).set i (C x)),Own.many (l.map λx=>Own.many (O x))]) (L:=l.map λx=>Own.many (O x)) (M:=[]) (M':=O x) 1 i U be (by simpa using hi);simp only[List.map_set] at h⊢;exact h
def St.wz {f:Nat->α->α×Nat} {k i:Nat} (U:St c I [Own.row v E sz ((fj f k l i).map C),Own.many ((fj f k l i).map λx=>Own.many (O x))] Γ a w) (hx:l[i]?=some x):
 ∃m,fj f k l i=m/\m.length=l.length/\St c I ([Own.row v E sz ((m.map C).set i (C x)),Own.many ((m.map λx=>Own.many (O x)).set i Own.gone)]++O x) Γ a w:=⟨_,rfl,iT,U.TU i (KT hx)⟩
def St.wA {f:Nat->α->α×Nat} {k i kk:Nat} {m:List α} {D:List AV} {M:List Own} (U:St c I ([Own.row v E sz ((m.map C).set i D),Own.many ((m.map λx=>Own.many (O x)).set i Own.gone)]++M) Γ a w) (hx:l[i]?=some x) (hm:fj f k l i=m) (cV:(aN f k (l.take i)).2=kk) (hC:C (f kk x).1=D) (hM:O (f kk x).1=M):
 St c I [Own.row v E sz ((fj f k l (i+1)).map C),Own.many ((fj f k l (i+1)).map λx=>Own.many (O x))] Γ a w:=by
 subst hm cV;exact U.TV (f _ x).1 i (by rw[iT];exact(List.getElem?_eq_some_iff.1 hx).1) (KU hx).symm hC hM
def St.BF {f:Nat->α->α×Nat} {k i:Nat} (U:St c I [Own.row v E sz ((fj f k l i).map C)] Γ a w) (hx:l[i]?=some x):
 ∃m,fj f k l i=m/\m.length=l.length/\St c I [Own.row v E sz ((m.map C).set i (C x))] Γ a w:=⟨_,rfl,iT,U.Fz 0 i rfl (by rw[List.getElem?_map,KT hx];rfl)⟩
def St.BG {f:Nat->α->α×Nat} {k i kk:Nat} {m:List α} {D:List AV} (U:St c I [Own.row v E sz ((m.map C).set i D)] Γ a w) (hx:l[i]?=some x) (hm:fj f k l i=m) (cV:(aN f k (l.take i)).2=kk) (hC:C (f kk x).1=D):
 St c I [Own.row v E sz ((fj f k l (i+1)).map C)] Γ a w:=by
 subst hm cV hC;rw[KU hx,List.map_set];exact U
def St.wB {f:Nat->α->α×Nat} {k i:Nat} (U:St c I [Own.row v E sz ((fj f k l i).map C),Own.many ((fj f k l i).map λx=>Own.many (O x))] Γ a w) (h:l.length<=i):
 St c I [Own.tree v E sz C O (aN f k l).1] Γ a w:=by
 rw[KS h] at U;exact St.join (H:=[]) U
def St.BH {f:Nat->α->α×Nat} {k i:Nat} (U:St c I [Own.row v E sz ((fj f k l i).map C)] Γ a w) (h:l.length<=i):St c I [Own.row v E sz ((aN f k l).1.map C)] Γ a w:=by
 rw[KS h] at U;exact U
def St.parts {L:List Own} (U:St c I [Own.many L] Γ a w):St c I L Γ a w:=by
 have h:=U.split (L:=L) 0 rfl;exact⟨h.step,⟨λo ho=>h.own.all o (by simp[ho]),(List.pairwise_append.1 h.own.apart).2.1⟩,h.env,h.size,h.defers⟩
def St.whole {L:List Own} (U:St c I L Γ a w):St c I [Own.many L] Γ a w:=St.join (H:=[]) U
def St.wC {M:List Own} {n m:Nat} {z D:List AV} (x:α) (U:St c I ([Own.row v E sz ((l.map C++List.replicate n z).set l.length D),Own.many (l.map λx=>Own.many (O x))]++M) Γ a w) (hn:n=m+1) (hC:C x=D) (hM:O x=M):
 St c I [Own.row v E sz ((l++[x]).map C++List.replicate m z),Own.many ((l++[x]).map λx=>Own.many (O x))] Γ a w:=by
 subst hn hC hM;have h:=U.join.merge 1 rfl;have e:(l.map C++List.replicate (m+1) z).set l.length (C x)=(l++[x]).map C++List.replicate m z:=by
  rw[List.set_append_right _ _ be];simp[List.replicate_succ]
 rw[e] at h;simpa using h
def St.mO (U:St c I H Γ a w):St c I (H++[Own.many []]) Γ a w:=St.join (L:=[]) (by rw[List.append_nil];exact U)
def St.mP (k:Nat) (U:St c I H Γ a w) (hk:H[k]?=some (Own.tree v E sz C O l)):(AV.val v).One:=by
 obtain⟨h1,_⟩:=(U.own.all _ (List.mem_of_getElem? hk)).1;obtain⟨q,cap,rfl,_⟩:=Bn (h1 (Own.row v E sz (l.map C)) be);exact cL rfl
def St.wD {n:Nat} {z:List AV} (U:St c I [Own.row v E sz (l.map C++List.replicate n z),Own.many (l.map λx=>Own.many (O x))] Γ a w) (hn:n=0):St c I [Own.tree v E sz C O l] Γ a w:=by
 subst hn;rw[List.replicate_zero,List.append_nil] at U;exact St.join (H:=[]) U
def nz {β:Type} [Inhabited β] {f:α->β} {ts:List α} {l:List β} {t:α} (h:ts.map f=l.take ts.length/\ts.length<=l.length) (hb:ts.length<l.length) (ht:f t=ae l ts.length):(ts++[t]).map f=l.take (ts++[t]).length/\(ts++[t]).length<=l.length:=by
 refine⟨?_,by simp;omega⟩;rw[List.map_append,h.1,List.length_append,List.length_singleton,ep hb,List.map_singleton,ht]
def nA {β:Type} {f:α->β} {ts:List α} {l:List β} (h:ts.map f=l.take ts.length/\ts.length<=l.length) (hb:l.length<=ts.length):ts.map f=l:=by
 rw[h.1,List.take_of_length_le hb]
def St.zc {y z:Operand} {ty:TypeId} {p:String} {af:Array Edge} {m:Nat} {zv:Value} {q i:Nat} {lx:List AV} (k:Nat) (U:St c I H Γ a w) (hT:Ty P T true sz m zv) (hy:At Γ true y (.val (.pointer (some ⟨rE v,q,none⟩)))) (hz:At Γ true z (.agg lx))
 (hk:H[k]?=some (Own.row v E sz R)) (hi:i<R.length) (hq:q=i*sz) (hn:lx.length=sz)
 (kk:∀a' w',St c I (H.set k (Own.row v E sz (R.set i lx))) Γ a' w'->wpList P ops Q rest a' w'):
 wpList P ops Q (⟨none,.store T y z,ty,p,af,none⟩::rest) a w:=by
 have ho:=(U.own.all _ (List.mem_of_getElem? hk)).1;obtain⟨D,hD⟩:=get_some hi;obtain⟨b,cap,rfl⟩:=yW ho (by intro h;rw[h] at hi;simp at hi);exact U.ja k hT hy hz hk hD hq hn kk
def St.TW {y z:Operand} {ty:TypeId} {p:String} {af:Array Edge} {m:Nat} {zv:Value} {q i:Nat} {x:AV} (k:Nat) (U:St c I H Γ a w) (hT:Ty P T false 1 m zv) (hy:At Γ true y (.val (.pointer (some ⟨rE v,q,none⟩)))) (hz:At Γ true z x) (hx:x.One)
 (hk:H[k]?=some (Own.row v E 1 R)) (hi:i<R.length) (hq:q=i*1)
 (kk:∀a' w',St c I (H.set k (Own.row v E 1 (R.set i [x]))) Γ a' w'->wpList P ops Q rest a' w'):
 wpList P ops Q (⟨none,.store T y z,ty,p,af,none⟩::rest) a w:=by
 obtain⟨D,hD⟩:=get_some hi;have hl:D.length=1:=(U.own.all _ (List.mem_of_getElem? hk)).1.1 D (List.mem_of_getElem? hD);obtain⟨d,rfl⟩:∃d,D=[d]:=List.length_eq_one_iff.1 hl;have bB:=U.Fz k i hk hD;have gr:=(List.getElem?_eq_some_iff.1 hk).1;refine bB.dE (j:=0) (R:=R) (i:=i) k hT hy hz hx (by rw[List.getElem?_set_self gr]) hi hq rfl λa' w' h=>kk a' w' ?_;rw[List.set_set] at h;exact h
end
end Go.Proofs.YtldbakcpcfdlaaaGreat

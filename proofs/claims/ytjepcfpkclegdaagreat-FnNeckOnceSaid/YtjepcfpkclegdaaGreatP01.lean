/- Part 1: rules of the proofs. -/
import Derived.Lib.ItoaNum
import Derived.Laws.BytesString
import Derived.Laws.DeepStrings4
import Derived.Lib.SlBytesRow
import Derived.Lib.Strings
import Derived.Lib.ItoaLen
import Derived.Test.YtjepcfpkclegdaaGreatP00
set_option linter.unusedVariables false
set_option linter.unusedSimpArgs false
namespace Go.Proofs.YtjepcfpkclegdaaGreat
open Go Go.RowKit
theorem E3 {α:Type} {l:List α} {i:Nat} {x:α} (h:l[i]?=some x):l.set i x=l:=by
 obtain⟨hi,rfl⟩:=List.getElem?_eq_some_iff.1 h
 exact List.set_getElem_self hi
theorem KI:∀{H:List Own} {i k b:Nat} {x y:Own},(H.filterMap Own.ei).Nodup->i≠k->H[i]?=some y->H[k]?=some x->y.ei=some b->x.ei=some b->False
 |[],_,_,_,_,_,_,_,h,_,_,_=>by simp at h
 |z::H,i,k,b,x,y,cy,bj,hi,hk,hy,hx=>by
  rw[List.filterMap_cons] at cy
  cases i with
  |zero=>
   cases k with
   |zero=>exact bj rfl
   |succ k=>
    simp at hi hk;subst hi
    rw[hy] at cy
    exact(List.nodup_cons.1 cy).1 (List.mem_filterMap.2 ⟨x,List.mem_of_getElem? hk,hx⟩)
  |succ i=>
   have Tm:(H.filterMap Own.ei).Nodup:=by
    cases hz:z.ei with
    |none=>rw[hz] at cy;exact cy
    |some c=>rw[hz] at cy;exact(List.nodup_cons.1 cy).2
   cases k with
   |zero=>
    simp at hi hk;subst hk
    rw[hx] at cy
    exact(List.nodup_cons.1 cy).1 (List.mem_filterMap.2 ⟨y,List.mem_of_getElem? hi,hy⟩)
   |succ k=>exact KI (i:=i) (k:=k) Tm (by omega) (by simpa using hi) (by simpa using hk) hy hx
section
variable {P:Program} {c:Ctx} {I:Im} {H:List Own} {Γ:Env} {a:Act} {w:World} {Q:Exit->Act->World->Prop} {ops:Array Oper} {rest:List Oper}
variable {d:Nat} {y z:Operand} {ty T T' E:TypeId} {p:String} {af:Array Edge} {g:Bool} {gd:Option (Nat×Bool)} {n m:Nat} {zv:Value}
theorem St.freeze {x:Own} {b:Nat} {cs:Array Value} (k:Nat) (U:St c I H Γ a w) (hk:H[k]?=some x) (hx:x.ei=some b) (hb:w.heap[b]?=some (.cells cs T (0,0))):
 St c (I.add b cs) (H.set k Own.gone) Γ a w/\Im.le I (I.add b cs):=by
 obtain⟨_,h2⟩:=U.own.all x (List.mem_of_getElem? hk)
 obtain⟨k1,k2,k3⟩:=h2 b hx
 have hle:Im.le I (I.add b cs):=Im.zl k2
 refine⟨⟨⟨Im.le_trans U.step.le hle,λb' vP KJ=>?_,λb' ds e=>?_,U.step.below⟩,⟨λo ho=>?_,s9 U.own.nodup λb e=>by cases e⟩,U.env.up hle,U.size,U.defers⟩,hle⟩
 ·unfold Im.add;rw[if_neg (λe=>by subst e;rcases k1 with h|h;exact absurd h (by omega);exact KJ h)];exact U.step.gH b' vP KJ
 ·unfold Im.add at e
  split at e
  ·rename_i h;subst h;cases e;exact⟨T,(0,0),hb⟩
  ·exact U.step.c9 b' ds e
 ·rw[List.mem_iff_getElem?] at ho
  obtain⟨i,hi⟩:=ho
  have lV:k<H.length:=(List.getElem?_eq_some_iff.1 hk).1
  by_cases vQ:i=k
  ·subst vQ
   rw[List.getElem?_set_self lV] at hi;cases hi
   exact⟨trivial,λb e=>by cases e⟩
  ·rw[List.getElem?_set_ne (λe=>vQ e.symm)] at hi
   obtain⟨h1,h3⟩:=U.own.all o (List.mem_of_getElem? hi)
   refine⟨o.iR I _ w w hle (λ_ _=>rfl) h1,λb' e=>?_⟩
   obtain⟨a1,a2,a3⟩:=h3 b' e
   refine⟨a1,?_,a3⟩
   unfold Im.add
   rw[if_neg (λh=>by subst h;exact KI U.own.nodup vQ hi hk e hx)]
   exact a2
theorem St.uC {v:Value} {sz:Nat} {l:List (List AV)} (k:Nat) (U:St c I H Γ a w) (hk:H[k]?=some (Own.row v E sz l)):
 ∃I',St c I' (H.set k Own.gone) Γ a w/\(AV.rows sz l).h I' v:=by
 obtain⟨⟨cK,⟨rfl,tc⟩|⟨b,cap,cur,rfl,h0,hb,h3,h4,h5,hl⟩⟩,h2⟩:=U.own.all _ (List.mem_of_getElem? hk)
 ·refine⟨I,⟨U.step,⟨λo ho=>?_,s9 U.own.nodup λb e=>by cases e⟩,U.env,U.size,U.defers⟩,?_⟩
  ·rcases List.mem_or_eq_of_mem_set ho with ho|rfl
   ·exact U.own.all o ho
   ·exact⟨trivial,λb e=>by cases e⟩
  ·rcases tc with rfl|⟨q,rfl,hq⟩
   ·exact eO sz I
   ·exact⟨some q,0,rfl,Nat.le_refl _,by simp[maxLen],λr hr=>by simp at hr,.inl rfl,(λh=>by cases h)⟩
 ·obtain⟨ct,hle⟩:=U.freeze k hk (b:=b) (zq (by omega)) hb
  refine⟨_,ct,some ⟨b,0,none⟩,cap,rfl,h3,h4,cK,?_,(λh=>by cases h)⟩
  by_cases px:l=[]
  ·exact .inl px
  ·refine .inr ⟨_,rfl,rfl,cur,by simp[Im.add],(hl.up hle).cast rfl ?_⟩
   simp[gI cK]
theorem St.KK {b:Nat} {l:List AV} (k:Nat) (U:St c I H Γ a w) (hk:H[k]?=some (Own.box b T l)):
 ∃I',St c I' (H.set k Own.gone) Γ a w/\(AV.ptr l).h I' (.pointer (some ⟨b,0,none⟩)):=by
 obtain⟨⟨cs,hb,hl⟩,h2⟩:=U.own.all _ (List.mem_of_getElem? hk)
 obtain⟨ct,hle⟩:=U.freeze k hk (b:=b) rfl hb
 refine⟨_,ct,⟨b,0,none⟩,rfl,rfl,cs,by simp[Im.add],(hl.up hle).cast rfl ?_⟩
 have:=hl.length
 simp only[List.drop_zero]
 rw[List.take_of_length_le (by omega)]
theorem St.xO {t:Nat} {v:Value} {x:AV} (U:St c I H Γ a w) (ht:Env.get t Γ=some (.val v)) (hx:x.h I v):St c I H ((t,x)::Γ) a w:=
 ⟨U.step,U.own,λs u e=>by
  simp only[Env.get] at e
  cases hb:Nat.beq t s with
  |true=>
   rw[hb] at e;simp at e;subst e
   obtain rfl:t=s:=Nat.eq_of_beq_eq_true hb
   have hv:a.tmps.getD t undef=v:=U.env t _ ht
   rw[hv];exact hx
  |false=>rw[hb] at e;exact U.env s u e,U.size,U.defers⟩
theorem cj.same {base:Nat->Prop} {k:Nat} {x x':Own} (h:cj base I w H) (hk:H[k]?=some x) (kr:x'.ei=x.ei) (ok:x'.ok I w):cj base I w (H.set k x'):=
 h.write hk kr rfl (λ_ _=>rfl) ok
theorem St.np {b q:Nat} {l:List AV} {v:Value} {x:AV} (k:Nat) (U:St c I H Γ a w) (hk:H[k]?=some (Own.box b T l)) (hq:l[q]?=some (.val v)) (hx:x.h I v):St c I (H.set k (Own.box b T (l.set q x))) Γ a w:=by
 obtain⟨⟨cs,hb,hl⟩,_⟩:=U.own.all _ (List.mem_of_getElem? hk)
 refine⟨U.step,U.own.same hk rfl ⟨cs,hb,?_⟩,U.env,U.size,U.defers⟩
 obtain⟨u,hu,hv,h1⟩:=hl.get hq
 obtain rfl:u=v:=hv
 have:=hl.set q hx h1
 refine this.cast rfl ?_
 exact E3 hu
theorem St.drop (k:Nat) (U:St c I H Γ a w):St c I (H.take k) Γ a w:=
 ⟨U.step,⟨λo ho=>U.own.all o (List.mem_of_mem_take ho),U.own.nodup.sublist ((List.take_sublist k H).filterMap _)⟩,U.env,U.size,U.defers⟩
end
section
variable {P:Program} {H:List Own} {Γ:Env} {g:Bool} {d:Option Tmp} {y z z':Operand} {ty T T' E:TypeId} {p:String} {af:Array Edge} {gd:Option (Nat×Bool)} {n m:Nat} {zv:Value}
theorem KL {I:Im} {sz:Nat} {l:List (List AV)} {q:Option Addr} {cap lo hi:Nat} (h:(AV.rows sz l).h I (.slice q l.length cap)) (h1:lo<=hi) (h2:hi<=l.length):
 (AV.rows sz ((l.drop lo).take (hi-lo))).h I (sliced q lo hi cap sz):=by
 obtain⟨q',mq,e,g1,g2,g3,g4,g5⟩:=h
 cases e
 have hlen:((l.drop lo).take (hi-lo)).length=hi-lo:=by simp;omega
 have uD:∀r∈(l.drop lo).take (hi-lo),r.length=sz:=λr hr=>g3 r (List.mem_of_mem_drop (List.mem_of_mem_take hr))
 refine⟨if cap-lo=0 then q else q.map (·.add (lo*sz)),cap-lo,?_,by omega,by omega,uD,?_,?_⟩
 ·rw[hlen]
  unfold sliced
  by_cases hc:cap=lo
  ·rw[if_pos hc,if_pos (by omega)]
  ·rw[if_neg hc,if_neg (by omega)]
 ·by_cases h0:hi=lo
  ·left;apply List.eq_nil_of_length_eq_zero;omega
  ·right
   have bj:l≠[]:=λe=>by subst e;simp at h2;omega
   obtain⟨⟨b,off,s⟩,rfl,kk⟩:=g4.resolve_left bj
   obtain rfl:s=none:=kk.1
   refine⟨⟨b,off+lo*sz,none⟩,by rw[if_neg (by omega)];simp[add_plain],?_⟩
   have h3:=(kk.drop (lo*sz)).take ((hi-lo)*sz)
   have e1:((l.drop lo).take (hi-lo)).flatten=(l.flatten.drop (lo*sz)).take ((hi-lo)*sz):=by
    have fd:∀(l:List (List AV)) (k:Nat),(∀r∈l,r.length=sz)->(l.drop k).flatten=l.flatten.drop (k*sz):=λl=>by
     induction l with
     |nil=>intro k _;simp
     |cons x l ih=>
      intro k hl
      cases k with
      |zero=>simp
      |succ k=>
       rw[List.drop_succ_cons,ih k (λr hr=>hl r (by simp[hr])),List.flatten_cons,Nat.succ_mul,Nat.add_comm,<-hl x (by simp),List.drop_append]
       simp
    have ft:∀(l:List (List AV)) (k:Nat),(∀r∈l,r.length=sz)->(l.take k).flatten=l.flatten.take (k*sz):=λl=>by
     induction l with
     |nil=>intro k _;simp
     |cons x l ih=>
      intro k hl
      cases k with
      |zero=>simp
      |succ k=>
       rw[List.take_succ_cons,List.flatten_cons,ih k (λr hr=>hl r (by simp[hr])),List.flatten_cons,Nat.succ_mul,Nat.add_comm,<-hl x (by simp),List.take_append]
       simp
       rw[List.take_of_length_le (by omega)]
    rw[ft _ _ (λr hr=>g3 r (List.mem_of_mem_drop hr)),fd _ _ g3]
   rw[e1];exact h3
 ·intro hn
  cases q with
  |none=>have:=g5 rfl;omega
  |some q=>split at hn<;>simp at hn
theorem BV {s:Nat} {ag:Bool} {l:List (List AV)} {lo:Int} (hT:P.underlying T=some (.slice E)) (hE:Ty P E ag s m zv) (h:At Γ g y (.rows s l)) (h1:At Γ g z (.int lo)) (hb:g=true->0<=lo/\lo<=l.length):
 Ok P H Γ g ⟨d,.slice T y (some z) none none,ty,p,af,gd⟩ (.rows s (l.drop lo.toNat)):=
 gB λ_ I a w he _ _ hg=>by
  obtain⟨b0,b1⟩:=hb hg
  have hy:=h I a he hg
  obtain⟨q,cap,e,g1,_⟩:=id hy
  rw[e] at hy
  have e1:a.eval z=_:=h1 I a he hg
  have U:(sizeOf E).run P w=.ok s w:=hE.size
  have:=KL (lo:=lo.toNat) (hi:=l.length) hy (by omega) (by omega)
  rw[List.take_of_length_le (by simp)] at this
  refine⟨_,?_,this⟩
  simp only[execOp,Option.map_some,Option.map_none,e,e1,Instr.sliceAt,Sem.run_bind,run_underlying hT,Result.andThen_ok]
  simp[Instr.slice,run_underlying hT,Instr.sliceBounds,run_sliceBound,b0,b1,U,sliced]
theorem te {s:Nat} {ag:Bool} {l:List (List AV)} {hi:Int} (hT:P.underlying T=some (.slice E)) (hE:Ty P E ag s m zv) (h:At Γ g y (.rows s l)) (h2:At Γ g z' (.int hi)) (hb:g=true->0<=hi/\hi<=l.length):
 Ok P H Γ g ⟨d,.slice T y none (some z') none,ty,p,af,gd⟩ (.rows s (l.take hi.toNat)):=
 gB λ_ I a w he _ _ hg=>by
  obtain⟨b1,b2⟩:=hb hg
  have hy:=h I a he hg
  obtain⟨q,cap,e,g1,_⟩:=id hy
  rw[e] at hy
  have e2:a.eval z'=_:=h2 I a he hg
  have U:(sizeOf E).run P w=.ok s w:=hE.size
  have:=KL (lo:=0) (hi:=hi.toNat) hy (by omega) (by omega)
  rw[List.drop_zero,Nat.sub_zero] at this
  refine⟨_,?_,this⟩
  have c2:hi<=(cap:Int):=by omega
  simp only[execOp,Option.map_some,Option.map_none,e,e2,Instr.sliceAt,Sem.run_bind,run_underlying hT,Result.andThen_ok]
  simp[Instr.slice,run_underlying hT,Instr.sliceBounds,run_sliceBound,b1,c2,U,sliced]
theorem Tn {l:List AV} {i:Nat} {x:AV} (h:At Γ g y (.dx l)) (hx:l[i]?=some x):Ok P H Γ g ⟨d,.extract y i,ty,p,af,gd⟩ x:=
 gB λ_ I a w he _ _ hg=>by
  obtain⟨cs,e,hl⟩:=h I a he hg
  obtain⟨v,hv,To⟩:=hl.get hx
  refine⟨v,?_,To⟩
  have dT:cs[i]?=some v:=by simpa using hv
  simp only[execOp,e,Instr.extract]
  simp[dT]
end
theorem At.ca {Γ:Env} {g:Bool} {cs:Array Value} {l:List AV} (h:∀I,bJ I l cs.toList):At Γ g (.const (.agg cs)) (.agg l):=λI _ _ _=>⟨cs,rfl,h I⟩
theorem At.nil {Γ:Env} {g:Bool} {o:Operand} {sz:Nat} (h:At Γ g o (.val (.slice none 0 0))):At Γ g o (.rows sz []):=λI a he hg=>by
 have e:a.eval o=_:=h I a he hg
 rw[e];exact eO sz I
theorem At.mono {Γ:Env} {g:Bool} {o:Operand} {x y:AV} (h:At Γ g o x) (k:∀I v,x.h I v->y.h I v):At Γ g o y:=λI a he hg=>k I _ (h I a he hg)
section
variable {P:Program} {H:List Own} {Γ:Env} {g:Bool} {d:Option Tmp} {y z z':Operand} {ty T T' E:TypeId} {p:String} {af:Array Edge} {gd:Option (Nat×Bool)} {n m:Nat} {zv:Value}
def bf (place:Nat->Option (Nat×Nat)) (Γ:Env) (g:Bool) (n:Nat):List (Nat×Operand)->List (Nat×List AV)->Prop
 |[],[]=>True
 |(i,y)::r,(o,lx)::s=>(place i=some (o,lx.length)/\o+lx.length<=n/\∀I a,cP I a Γ->g=true->bJ I lx (a.eval y).cells.toList)/\bf place Γ g n r s
 |_,_=>False
theorem bf.nil {place:Nat->Option (Nat×Nat)}:bf place Γ g n [] []:=trivial
theorem bf.c {place:Nat->Option (Nat×Nat)} {i o:Nat} {x:AV} {r:List (Nat×Operand)} {s:List (Nat×List AV)} (hp:place i=some (o,1)) (ho:Nat.ble (o+1) n=true) (h:At Γ g y x) (hx:x.One) (k:bf place Γ g n r s):
 bf place Γ g n ((i,y)::r) ((o,[x])::s):=⟨⟨hp,Nat.le_of_ble_eq_true ho,λI a he hg=>by
  have e:=h I a he hg
  rw[zG (hx _ _ e)];exact⟨⟨e,hx _ _ e⟩,trivial⟩⟩,k⟩
theorem bf.s {place:Nat->Option (Nat×Nat)} {i o q:Nat} {lx:List AV} {r:List (Nat×Operand)} {s:List (Nat×List AV)} (hp:place i=some (o,q)) (hl:lx.length=q) (ho:Nat.ble (o+q) n=true) (h:At Γ g y (.agg lx)) (k:bf place Γ g n r s):
 bf place Γ g n ((i,y)::r) ((o,lx)::s):=⟨⟨by rw[hp,hl],by rw[hl];exact Nat.le_of_ble_eq_true ho,λI a he hg=>by
  obtain⟨cs,e,hl⟩:=h I a he hg
  rw[e];exact hl⟩,k⟩
def filled (l0:List AV) (ps:List (Nat×List AV)):List AV:=ps.foldl (λl q=>fy l q.1 q.2) l0
theorem Tp (v:Array Value) (o:Nat):∀(cs:Array Value),o+v.size<=cs.size->(v.zipIdx.foldl (λcs (c,j)=>cs.setIfInBounds (o+j) c) cs).toList=fy cs.toList o v.toList:=by
 intro cs hle
 have key:∀(l:List Value) (k:Nat) (cs:Array Value),o+k+l.length<=cs.size->((l.zipIdx k).foldl (λcs (x:Value×Nat)=>cs.setIfInBounds (o+x.2) x.1) cs).toList=fy cs.toList (o+k) l:=by
  intro l
  induction l with
  |nil=>intro k cs _;simp[fy]
  |cons x l ih=>
   intro k cs hk
   simp only[List.length_cons] at hk
   rw[List.zipIdx_cons,List.foldl_cons,ih (k+1) _ (by simp;omega)]
   simp only[fy,Array.toList_setIfInBounds]
   apply List.ext_getElem?
   intro t
   simp only[List.getElem?_append,List.length_take,List.length_set,List.getElem?_take,List.getElem?_drop,List.getElem?_set,List.length_append,List.length_cons,Array.length_toList,List.getElem?_cons]
   (repeat' split)<;>first|rfl|omega|(congr 1;omega)|skip
 have:=key v.toList 0 cs (by simpa using hle)
 rw[Nat.add_zero] at this
 rw[<-this]
 congr 1
 rw[<-Array.foldl_toList]
 simp
theorem zJ {I:Im} {a:Act} {place:Nat->Option (Nat×Nat)} (he:cP I a Γ) (hg:g=true):∀{parts:List (Nat×Operand)} {ps:List (Nat×List AV)} {l0:List AV} {cs:Array Value},bf place Γ g n parts ps->bJ I l0 cs.toList->l0.length=n->
 ∃iV,Instr.fill place cs (parts.map λq=>(q.1,a.eval q.2))=some iV/\bJ I (filled l0 ps) iV.toList/\(filled l0 ps).length=n
 |[],[],l0,cs,_,h,hl=>⟨cs,rfl,h,hl⟩
 |(i,y)::r,(o,lx)::s,l0,cs,⟨⟨h1,h2,h3⟩,k⟩,h,hl=>by
  have hv:=h3 I a he hg
  have pw:=hv.length
  have bB:=h.length
  have cK:(a.eval y).cells.size=lx.length:=by simpa using pw
  have kt:cs.size=n:=by simp at bB;omega
  have zK:bJ I (fy l0 o lx) (fy cs.toList o (a.eval y).cells.toList):=by
   simp only[fy]
   rw[pw]
   exact((h.take o).append hv).append (h.drop (o+lx.length))
  have hz:=Tp (a.eval y).cells o cs (by omega)
  have Tq:(fy l0 o lx).length=n:=by simp only[fy,List.length_append,List.length_take,List.length_drop];omega
  obtain⟨iV,e1,e2,e3⟩:=zJ he hg (parts:=r) (ps:=s) (l0:=fy l0 o lx) (cs:=(a.eval y).cells.zipIdx.foldl (λcs (c,j)=>cs.setIfInBounds (o+j) c) cs) k (by rw[hz];exact zK) Tq
  refine⟨iV,?_,e2,e3⟩
  simp only[List.map_cons,Instr.fill,h1]
  rw[if_neg (by rw[cK,kt];simp;omega)]
  exact e1
 |[],_::_,_,_,h,_,_=>h.elim
 |_::_,[],_,_,h,_,_=>h.elim
def cI (P:Program) (T:TypeId):Nat->Option (Nat×Nat):=λf=>
 (P.underlying T).bind λdd=>match dd with|.struct fs=>(fs[f]?).bind λx=>(P.info? x.type).map λi=>(x.offset,i.size)|_=>none
theorem KM {pl E4:Nat->Option (Nat×Nat)}:∀(parts:List (Nat×Value)) (cs:Array Value),(∀q∈parts,pl q.1=E4 q.1)->Instr.fill pl cs parts=Instr.fill E4 cs parts
 |[],_,_=>rfl
 |(i,v)::r,cs,h=>by
  simp only[Instr.fill,h (i,v) (by simp)]
  cases E4 i with
  |none=>rfl
  |some q=>simp only;split
           ·rfl
           ·exact KM r _ (λq hq=>h q (by simp[hq]))
def E5 (P:Program) (T:TypeId):Bool:=match P.underlying T with|some (.struct fs)=>fs.all λx=>(P.info? x.type).isSome|_=>false
theorem run_places {P:Program} {w:World} (fs:Array Field) (h:(fs.all λx=>(P.info? x.type).isSome)=true):
 (fs.mapM λf=>do pure (f.offset,<-sizeOf f.type):Sem (Array (Nat×Nat))).run P w=.ok (fs.map λf=>(f.offset,((P.info? f.type).map (·.size)).getD 0)) w:=by
 have key:∀(l:List Field),(∀x∈l,(P.info? x.type).isSome=true)->(l.mapM λf=>do pure (f.offset,<-sizeOf f.type):Sem (List (Nat×Nat))).run P w=.ok (l.map λf=>(f.offset,((P.info? f.type).map (·.size)).getD 0)) w:=by
  intro l
  induction l with
  |nil=>intro _;simp
  |cons x l ih=>
   intro hl
   obtain⟨i,hi⟩:=Option.isSome_iff_exists.1 (hl x (by simp))
   have U:(sizeOf x.type).run P w=.ok i.size w:=by simp[sizeOf,typeInfo,hi]
   rw[List.mapM_cons]
   simp only[Sem.run_bind,U,Result.andThen_ok,Sem.run_pure,ih (λy hy=>hl y (by simp[hy]))]
   simp[hi]
 rw[Array.mapM_eq_mapM_toList]
 have h':∀x∈fs.toList,(P.info? x.type).isSome=true:=by
  intro x hx
  rw[Array.all_eq_true'] at h
  exact h x (by simpa using hx)
 have e:=key fs.toList h'
 rw[show(List.toArray<$>(fs.toList.mapM λf=>do pure (f.offset,<-sizeOf f.type):Sem (List (Nat×Nat))))=(do let l<-(fs.toList.mapM λf=>do pure (f.offset,<-sizeOf f.type):Sem (List (Nat×Nat)));pure l.toArray) from rfl]
 simp only[Sem.run_bind,e,Result.andThen_ok,Sem.run_pure]
 congr 1
 apply Array.toList_inj.1;simp
theorem Tr {l0:List AV} {parts:List (Nat×Operand)} {ps:List (Nat×List AV)} (hT:Ty P T true n m zv) (hk:E5 P T=true) (hz:∀I,bJ I l0 zv.cells.toList) (hn:l0.length=n) (hp:bf (cI P T) Γ g n parts ps):
 Ok P H Γ g ⟨d,.build T parts.toArray,ty,p,af,gd⟩ (.agg (filled l0 ps)):=
 gB λ_ I a w he _ _ hg=>by
  obtain⟨iV,e1,e2,_⟩:=zJ he hg hp (hz I) hn
  refine⟨.agg iV,?_,iV,rfl,e2⟩
  have vR:(zeroValue T).run P w=.ok zv w:=hT.zero
  unfold E5 at hk
  cases hu:P.underlying T with
  |none=>rw[hu] at hk;cases hk
  |some dd=>
   rw[hu] at hk
   cases dd with
   |struct fs=>
    simp only at hk
    have Ts:=run_places (P:=P) (w:=w) fs hk
    have E6:Instr.fill ((fs.map λf=>(f.offset,((P.info? f.type).map (·.size)).getD 0))[·]?) zv.cells (parts.map λq=>(q.1,a.eval q.2))=some iV:=by
     rw[<-e1]
     refine KM _ _ λq _=>?_
     simp only[cI,hu,Option.bind_some,Array.getElem?_map]
     cases hf:fs[q.1]? with
     |none=>rfl
     |some f=>
      have:=(Array.all_eq_true'.1 hk) f (Array.mem_of_getElem? hf)
      obtain⟨i,hi⟩:=Option.isSome_iff_exists.1 this
      simp[hi]
    simp only[execOp,Instr.build,Sem.run_bind,vR,Result.andThen_ok,run_underlying hu,Ts,Sem.run_pure,List.map_toArray,List.toList_toArray]
    rw[E6]
    rfl
   |_=>cases hk
def py (sz:Nat):Nat->Option (Nat×Nat):=λi=>some (i*sz,sz)
theorem KN {I:Im}:∀{cs:List Value},(∀c∈cs,c.oneCell'=true)->bJ I (List.replicate cs.length AV.any) cs
 |[],_=>trivial
 |c::cs,h=>by
  rw[List.length_cons,List.replicate_succ]
  exact⟨⟨trivial,h c (by simp)⟩,KN (λd hd=>h d (by simp[hd]))⟩
theorem BW {w:World} {T:TypeId} {cs:Array Value}:(newRow T cs).run P w=.ok ⟨w.heap.size,0,none⟩ (w.alloc (.cells cs T)):=rfl
theorem KO {I:Im} {a:Act} {w:World} {ag:Bool} {sz len:Nat} {parts:List (Nat×Operand)} {ps:List (Nat×List AV)} (he:cP I a Γ) (hg:g=true) (hT:P.underlying T=some (.slice E)) (hE:Ty P E ag sz m zv) (ga:zv.cells.size=sz) (qg:∀u∈zv.cells.toList,u.oneCell'=true)
 (uE:len*sz<=16777216) (hp:bf (py sz) Γ g (len*sz) parts ps):
 ∃cs,(Instr.buildSlice T len (parts.toArray.map λ(i,x)=>(i,a.eval x))).run P w=.ok (.slice (some ⟨w.heap.size,0,none⟩) len len) (w.alloc (.cells cs E))/\bJ I (filled (List.replicate (len*sz) AV.any) ps) cs.toList/\cs.size=len*sz:=by
 have U:(sizeOf E).run P w=.ok sz w:=hE.size
 have hz:(zeroValue E).run P w=.ok zv w:=hE.zero
 have KP:∀z:Array Value,(len*sz=0\/z=zv.cells)->bJ I (List.replicate (len*sz) AV.any) ((Array.range (len*sz)).map λj=>z[j%z.size]!).toList:=λz Tt=>by
  have:=KN (I:=I) (cs:=((Array.range (len*sz)).map λj=>z[j%z.size]!).toList) (λc hc=>by
   rcases Tt with h0|rfl
   ·simp[h0] at hc
   ·rw[Array.mem_toList_iff,Array.mem_map] at hc
    obtain⟨j,hj,rfl⟩:=hc
    have mL:0<zv.cells.size:=by
     rw[ga]
     rcases Nat.eq_zero_or_pos sz with h|h
     ·subst h;simp at hj
     ·exact h
    have bw:=Nat.mod_lt j mL
    rw[getElem!_pos zv.cells _ bw]
    exact qg _ (by simp))
  refine this.cast ?_ rfl
  simp
 have px:(List.replicate (len*sz) AV.any).length=len*sz:=by simp
 have BX:¬len*sz>2^24:=by omega
 by_cases h0:len*sz=0
 ·obtain⟨cs,e1,e2,e3⟩:=zJ he hg hp (KP #[] (.inl h0)) px
  refine⟨cs,?_,e2,by have:=e2.length;simp at this;omega⟩
  have uF:Instr.fill (λi=>some (i*sz,sz)) ((Array.range (len*sz)).map λj=>(#[]:Array Value)[j%(#[]:Array Value).size]!) (parts.map λq=>(q.1,a.eval q.2))=some cs:=e1
  simp only[Instr.buildSlice,Sem.run_bind,run_underlying hT,Result.andThen_ok,U,if_neg BX,if_pos h0,Sem.run_pure,List.map_toArray,List.toList_toArray,uF,BW]
 ·obtain⟨cs,e1,e2,e3⟩:=zJ he hg hp (KP zv.cells (.inr rfl)) px
  refine⟨cs,?_,e2,by have:=e2.length;simp at this;omega⟩
  have uF:Instr.fill (λi=>some (i*sz,sz)) ((Array.range (len*sz)).map λj=>zv.cells[j%zv.cells.size]!) (parts.map λq=>(q.1,a.eval q.2))=some cs:=e1
  simp only[Instr.buildSlice,Sem.run_bind,run_underlying hT,Result.andThen_ok,U,if_neg BX,if_neg h0,hz,Sem.run_pure,List.map_toArray,List.toList_toArray,uF,BW]
theorem Tu {ag:Bool} {sz len:Nat} {js:List (List AV)} {parts:List (Nat×Operand)} {ps:List (Nat×List AV)} (hT:P.underlying T=some (.slice E)) (hE:Ty P E ag sz m zv) (ga:zv.cells.size=sz) (qg:∀u∈zv.cells.toList,u.oneCell'=true)
 (cK:Nat.blt 0 sz=true) (uE:Nat.ble (len*sz) 16777216=true) (hp:bf (py sz) Γ g (len*sz) parts ps) (kT:filled (List.replicate (len*sz) AV.any) ps=js.flatten) (hlen:js.length=len) (hr:∀r∈js,r.length=sz):
 Ok P H Γ g ⟨d,.buildSlice T len parts.toArray,ty,p,af,gd⟩ (.rows sz js):=
 λbase I a w K Q he hm hw hg k=>by
  have E7:=Nat.le_of_ble_eq_true uE
  obtain⟨cs,e1,e2,e3⟩:=KO (w:=w) he hg hT hE ga qg E7 hp
  unfold Oper.wp
  simp only[execOp,Sem.run_bind,e1,Result.andThen_ok,Sem.run_pure,Oper.upon_value]
  refine k _ _ _ ⟨some ⟨w.heap.size,0,none⟩,len,by rw[hlen],by omega,?_,hr,.inr ⟨_,rfl,rfl,cs,by simp[Im.add],?_⟩,(λh=>by cases h)⟩ (Step.zm hm cs E (0,0))
  ·simp only[maxLen]
   have h:0<sz:=by simpa using cK
   have:len*1<=len*sz:=Nat.mul_le_mul_left _ h
   omega
  ·rw[kT] at e2
   refine(e2.up (Im.zl (hm.none (Nat.le_refl _)))).cast rfl ?_
   simp only[List.drop_zero]
   rw[List.take_of_length_le (by rw[<-e2.length];simp)]
structure zL (P:Program) (T:TypeId) (n:Nat):Prop where
 gd:P.eqGuardType P.depth T=false
 eq:∀(xs ys:List Int) (w:World),xs.length=n->ys.length=n->(Op.equalIn 10000 T (.agg (xs.map (Value.int .i64)).toArray) (.agg (ys.map (Value.int .i64)).toArray)).run P w=.ok (xs==ys) w
theorem BY {I:Im} {v:Value} {xs:List Int} (h:(AV.agg (xs.map AV.int)).h I v):v=.agg (xs.map (Value.int .i64)).toArray:=by
 obtain⟨cs,e,hl⟩:=h
 have key:∀(xs:List Int) (cs:List Value),bJ I (xs.map AV.int) cs->cs=xs.map (Value.int .i64):=by
  intro xs
  induction xs with
  |nil=>intro cs h;cases cs with
        |nil=>rfl
        |cons _ _=>exact h.elim
  |cons x xs ih=>
   intro cs h
   cases cs with
   |nil=>exact h.elim
   |cons c cs=>
    have e1:c=.int .i64 x:=h.1.1
    rw[e1,ih cs h.2];rfl
 rw[e];congr 1;apply Array.toList_inj.1;rw[key xs _ hl]
theorem mM (xs ys:List Int) (hT:zL P T n) (hx:xs.length=n) (E8:ys.length=n) (hy:At Γ g y (.agg (xs.map AV.int))) (hz:At Γ g z (.agg (ys.map AV.int))):
 Ok P H Γ g ⟨d,.binOp .eql T y z T',ty,p,af,gd⟩ (.bool (xs==ys)):=
 iS λI a w he hg=>by
  have e1:=BY (hy I a he hg)
  have e2:=BY (hz I a he hg)
  simp only[execOp,e1,e2,Sem.run_bind,run_eqGuard_agg w .eql T y z _ _ hT.gd,Result.andThen_ok,run_eql_struct,hT.eq xs ys w hx E8,Sem.run_pure]
theorem uG (xs ys:List Int) (hT:zL P T n) (hx:xs.length=n) (E8:ys.length=n) (hy:At Γ g y (.agg (xs.map AV.int))) (hz:At Γ g z (.agg (ys.map AV.int))):
 Ok P H Γ g ⟨d,.binOp .neq T y z T',ty,p,af,gd⟩ (.bool (xs !=ys)):=
 iS λI a w he hg=>by
  have e1:=BY (hy I a he hg)
  have e2:=BY (hz I a he hg)
  simp only[execOp,e1,e2,Sem.run_bind,run_eqGuard_agg w .neq T y z _ _ hT.gd,Result.andThen_ok,run_neq_struct,hT.eq xs ys w hx E8,Sem.run_pure]
  rfl
theorem KQ {b b':Bool} (hy:At Γ g y (.bool b)) (hz:At Γ g z (.bool b')) (hT:P.underlying T=some .bool):Ok P H Γ g ⟨d,.binOp .eql T y z T',ty,p,af,gd⟩ (.bool (b==b')):=
 iS λI a w he hg=>by
  have h1:a.eval y=.bool b:=hy I a he hg
  have h2:a.eval z=.bool b':=hz I a he hg
  simp only[execOp,h1,h2]
  simp[eqGuard,binOp,Op.equal,Op.maxDepth,run_equalIn_bool' w 9999 T b b' hT]
theorem E9 {b b':Bool} (hy:At Γ g y (.bool b)) (hz:At Γ g z (.bool b')) (hT:P.underlying T=some .bool):Ok P H Γ g ⟨d,.binOp .neq T y z T',ty,p,af,gd⟩ (.bool (b !=b')):=
 iS λI a w he hg=>by
  have h1:a.eval y=.bool b:=hy I a he hg
  have h2:a.eval z=.bool b':=hz I a he hg
  simp only[execOp,h1,h2]
  simp[eqGuard,binOp,Op.equal,Op.maxDepth,run_equalIn_bool' w 9999 T b b' hT]
  cases b<;>cases b'<;>rfl
theorem tf {a' b:Int} (hy:At Γ g y (.int a')) (hz:At Γ g z (.int b)) (hb:g=true->0<=a'/\0<b/\a'<=9223372036854775807):Ok P H Γ g ⟨d,.binOp .quo T y z T',ty,p,af,gd⟩ (.int (a'/b)):=
 iS λI a w he hg=>by
  have h1:a.eval y=.int .i64 a':=hy I a he hg
  have h2:a.eval z=.int .i64 b:=hz I a he hg
  obtain⟨g1,g2,g3⟩:=hb hg
  have bj:b≠0:=by omega
  have h4:a'.tdiv b=a'/b:=Int.tdiv_eq_ediv_of_nonneg g1
  have h5:a'/b<=a':=Int.ediv_le_self _ g1
  have h6:0<=a'/b:=Int.ediv_nonneg g1 (by omega)
  have h3:IntKind.i64.wrap (a'/b)=a'/b:=IntWalk.i64_in _ (by omega)
  simp only[execOp,h1,h2]
  simp[go_sem,eqGuard,binOp,Op.intDiv,bj,h4,h3]
theorem tg {a' b:Int} (hy:At Γ g y (.int a')) (hz:At Γ g z (.int b)) (hb:g=true->0<=a'/\0<b/\a'<=9223372036854775807):Ok P H Γ g ⟨d,.binOp .rem T y z T',ty,p,af,gd⟩ (.int (a'%b)):=
 iS λI a w he hg=>by
  have h1:a.eval y=.int .i64 a':=hy I a he hg
  have h2:a.eval z=.int .i64 b:=hz I a he hg
  obtain⟨g1,g2,g3⟩:=hb hg
  have bj:b≠0:=by omega
  have h4:a'.tmod b=a'%b:=Int.tmod_eq_emod_of_nonneg g1
  have h5:=Int.emod_lt_of_pos a' g2
  have h6:=Int.emod_nonneg a' bj
  have h8:=Int.mul_ediv_add_emod a' b
  have h9:0<=b*(a'/b):=Int.mul_nonneg (by omega) (Int.ediv_nonneg g1 (by omega))
  have h7:a'%b<=a':=by omega
  have h3:IntKind.i64.wrap (a'%b)=a'%b:=IntWalk.i64_in _ (by omega)
  simp only[execOp,h1,h2]
  simp[go_sem,eqGuard,binOp,Op.intDiv,bj,h4,h3]
end
section
variable {P:Program} {c:Ctx} {I:Im} {H:List Own} {Γ:Env} {a:Act} {w:World} {Q:Exit->Act->World->Prop}
def zM (tmps:Array Value) (r:ResultVar):Sem Value:=
 match r with
 |.tmp t=>pure (tmps.getD t undef)
 |.cell s t=>do loadVar t (<-asAddr (tmps.getD s undef))
def ly (P:Program) (H:List Own) (Γ:Env) (r:ResultVar) (x:AV):Prop:=
 ∀(base:Nat->Prop) I a w,cP I a Γ->dV w I->cj base I w H->
  ∃v,(zM a.tmps r).run P w=.ok v w/\x.h I v
theorem ly.t {t:Nat} {x:AV} (h:Env.get t Γ=some x):ly P H Γ (.tmp t) x:=λ_ _ _ _ he _ _=>⟨_,rfl,he t x h⟩
theorem ly.nil {t:Nat} {sz:Nat} (h:Env.get t Γ=some (.val (.slice none 0 0))):ly P H Γ (.tmp t) (.rows sz []):=λ_ I a _ he _ _=>⟨_,rfl,by
 have e:a.tmps.getD t undef=_:=he t _ h
 rw[e];exact eO sz I⟩
theorem ly.s {s b n m:Nat} {T T':TypeId} {zv:Value} {l:List AV} (k:Nat) (hT:Ty P T true n m zv) (h:Env.get s Γ=some (.val (.pointer (some ⟨b,0,none⟩)))) (hk:H[k]?=some (Own.box b T' l)) (hn:l.length=n):ly P H Γ (.cell s T) (.agg l):=λbase I a w he _ hw=>by
 have e:a.tmps.getD s undef=_:=he s _ h
 obtain⟨cs,hb,hl⟩:=(hw.all _ (List.mem_of_getElem? hk)).1
 have hlen:=hl.length
 have h3:∀j v,cs.toList[j]?=some v->w.cell? ((⟨b,0,none⟩:Addr).add j)=some v:=λj v hv=>by
  rw[add_plain]
  simp only[World.cell?,hb,Option.isSome_none,Bool.false_eq_true,if_false]
  simpa using hv
 refine⟨.agg cs,?_,cs,rfl,hl⟩
 have:=zw hT (w:=w) (p:=⟨b,0,none⟩) (cs:=cs.toList) (by omega) h3
 simp only[zM,e,asAddr,Sem.run_bind,Sem.run_pure,Result.andThen_ok]
 simpa using this
theorem ly.cc {s b m:Nat} {T T':TypeId} {zv:Value} {x:AV} (k:Nat) (hT:Ty P T false 1 m zv) (h:Env.get s Γ=some (.val (.pointer (some ⟨b,0,none⟩)))) (hk:H[k]?=some (Own.box b T' [x])):ly P H Γ (.cell s T) x:=λbase I a w he _ hw=>by
 have e:a.tmps.getD s undef=_:=he s _ h
 obtain⟨cs,hb,hl⟩:=(hw.all _ (List.mem_of_getElem? hk)).1
 obtain⟨u,hu,hx,_⟩:=hl.get (i:=0) (x:=x) rfl
 have hc:w.cell? ⟨b,0,none⟩=some u:=by simp only[World.cell?,hb];simpa using hu
 refine⟨u,?_,hx⟩
 simp only[zM,e,asAddr,Sem.run_bind,Sem.run_pure,Result.andThen_ok,zu hT hc]
def aX (P:Program) (H:List Own) (Γ:Env):List ResultVar->List AV->Prop
 |[],[]=>True
 |r::rs,x::xs=>ly P H Γ r x/\aX P H Γ rs xs
 |_,_=>False
theorem KR {base:Nat->Prop} (he:cP I a Γ) (hm:dV w I) (hw:cj base I w H):∀{rs:List ResultVar} {xs:List AV},aX P H Γ rs xs->
 ∃vs:List Value,(rs.mapM (zM a.tmps)).run P w=.ok vs w/\c8 I xs vs
 |[],[],_=>⟨[],by simp,trivial⟩
 |r::rs,x::xs,⟨h,k⟩=>by
  obtain⟨v,h1,h2⟩:=h base I a w he hm hw
  obtain⟨vs,h3,h4⟩:=KR he hm hw k
  refine⟨v::vs,?_,h2,h4⟩
  rw[List.mapM_cons]
  simp only[Sem.run_bind,h1,h3,Result.andThen_ok,Sem.run_pure]
 |[],_::_,h=>h.elim
 |_::_,[],h=>h.elim
def th:List AV->AV
 |[x]=>x
 |l=>.dx l
theorem St.zN {fn:Func} {rs:List ResultVar} {xs:List AV} (U:St c I H Γ a w) (hr:fn.results=rs.toArray) (h:aX P H Γ rs xs):∃v,(results fn a.tmps).run P w=.ok v w/\(th xs).h I v:=by
 obtain⟨vs,h1,h2⟩:=KR (P:=P) U.env U.step.c9 U.own h
 have hlen:=h2.length
 have e:(results fn a.tmps).run P w=.ok (if h:vs.toArray.size=1 then vs.toArray[0] else .tuple vs.toArray) w:=by
  show(do let vs<-fn.results.mapM (zM a.tmps);pure (if h:vs.size=1 then vs[0] else .tuple vs):Sem Value).run P w=_
  rw[hr,Array.mapM_eq_mapM_toList]
  rw[show∀(f:ResultVar->Sem Value),(List.toArray<$>(rs.toArray.toList.mapM f))=(do let l<-rs.mapM f;pure l.toArray) fromλ_=>rfl]
  simp only[Sem.run_bind,h1,Result.andThen_ok,Sem.run_pure]
 refine⟨_,e,?_⟩
 match xs,vs,h2 with
 |[],[],_=>exact⟨#[],rfl,trivial⟩
 |[x],[v],h2=>exact h2.1
 |x::x'::xs,v::v'::vs,h2=>exact⟨(v::v'::vs).toArray,rfl,h2⟩
theorem St.ret {fn:Func} {rs:List ResultVar} {xs:List AV} {res:AV} (U:St c I H Γ a w) (hr:fn.results=rs.toArray) (h:aX P H Γ rs xs) (e:th xs=res):bodyPost P fn (vM c.F c.I c.W res) .ret a w:=by
 subst e
 obtain⟨v,h1,h2⟩:=U.zN hr h
 exact⟨U.defers,v,h1,I,U.step,h2⟩
theorem aX.nil:aX P H Γ [] []:=trivial
theorem aX.cons {r:ResultVar} {rs:List ResultVar} {x:AV} {xs:List AV} (h:ly P H Γ r x) (k:aX P H Γ rs xs):aX P H Γ (r::rs) (x::xs):=⟨h,k⟩
def AV.fn (f:FuncId) (gM:List AV):AV:=⟨λI v=>∃cs:Array Value,v=.func (.func f) #[] cs/\c8 I gM cs.toList,λ_ _ _ hl ⟨cs,e,h⟩=>⟨cs,e,h.up hl⟩⟩
def lW (P:Program) (fv:AV) (args:List AV) (res:AV):Prop:=
 ∀(I:Im) (w:World) (v:Value) (vs:Array Value),dV w I->fv.h I v->c8 I args vs.toList->
  ∃f first gM,v=.func (.func f) first gM/\qf P f/\Calls P f (first++vs++gM) w (xI I w res)
theorem c8.append {I:Im}:∀{l m:List AV} {cs ds:List Value},c8 I l cs->c8 I m ds->c8 I (l++m) (cs++ds)
 |[],m,[],ds,_,k=>by simpa using k
 |x::xs,m,c::cs,ds,h,k=>by simpa using⟨h.1,c8.append h.2 k⟩
 |[],_,_::_,_,h,_=>h.elim
 |_::_,_,[],_,h,_=>h.elim
theorem Fn.val {f:FuncId} {args gM:List AV} {res:AV} (h:Fn P f (args++gM) res):lW P (.fn f gM) args res:=λI w v vs hm ⟨cs,e,hc⟩ ha=>
 ⟨f,#[],cs,e,h.1,h.2 I w (#[]++vs++cs) hm (by simpa using ha.append hc)⟩
section
variable {d:Option Tmp} {y z:Operand} {ty T T' E:TypeId} {p:String} {af:Array Edge} {g:Bool} {gd:Option (Nat×Bool)} {n m:Nat} {zv:Value}
theorem mN {f:FuncId} {ys:Array Operand} {gM:List AV} (h:∀I a,cP I a Γ->g=true->c8 I gM (ys.map a.eval).toList):Ok P H Γ g ⟨d,.makeFunc (.func f) #[] ys,ty,p,af,gd⟩ (.fn f gM):=
 gB λ_ I a w he _ _ hg=>⟨.func (.func f) #[] (ys.map a.eval),by simp[execOp,Instr.makeFunc],_,rfl,h I a he hg⟩
theorem rC {fv res:AV} {ys:Array Operand} {ts:Array TypeId} {xs:List AV} (hf:lW P fv xs res) (hy:At Γ g y fv) (h:∀I a,cP I a Γ->g=true->c8 I xs (ys.map a.eval).toList):Ok P H Γ g ⟨d,.call ⟨.value y,ys,ts⟩,ty,p,af,gd⟩ res:=
 λbase I a w K Q he hm hw hg k=>by
  obtain⟨f,first,gM,e,vU,hc⟩:=hf I w (a.eval y) (ys.map a.eval) hm (hy I a he hg) (h I a he hg)
  unfold Oper.wp
  have hr:(execOp a.eval (⟨d,.call ⟨.value y,ys,ts⟩,ty,p,af,gd⟩:Oper)).run P w=.ok (.enter f (first++ys.map a.eval++gM)) w:=by
   simp only[execOp,resolve,Deferred.ofValue,e,Sem.run_bind,Sem.run_pure,Result.andThen_ok,invoke,vU _ w]
  rw[hr,Oper.upon_enter]
  refine Calls.mono hc λe w' he=>?_
  cases e with
  |returned v=>obtain⟨I',U,hx⟩:=he;exact k v I' w' hx U
  |panicked _=>exact he.elim
  |outgrown=>exact he.elim
end
section
variable {α:Type} [Inhabited α]
def ab (l:List α) (i:Nat):α:=l.getD i default
theorem KS {l:List α} {i:Nat} (h:i<l.length):l[i]?=some (ab l i):=by simp[ab,h]
theorem Tv (f:α->List AV) {l:List α} {i:Nat} (h:i<l.length):nth (l.map f) i=f (ab l i):=by simp[nth,ab,List.getD,h]
theorem mr {l:List α} {i:Nat} (h:i<l.length):l.drop i=ab l i::l.drop (i+1):=by
 rw[List.drop_eq_getElem_cons h];simp[ab,h]
theorem dW {l:List α} {i:Nat} (h:i<l.length):l.take (i+1)=l.take i++[ab l i]:=by
 rw[List.take_succ_eq_append_getElem h];simp[ab,h]
theorem fS {d:Option Tmp} {y z:Operand} {ty T E:TypeId} {p:String} {af:Array Edge} {g:Bool} {gd:Option (Nat×Bool)} {m:Nat} {zv:Value} {s:Nat} {ag:Bool} {f:α->List AV} {l:List α} {i:Int}
 (hT:P.underlying T=some (.slice E)) (hE:Ty P E ag s m zv) (h:At Γ g y (.rows s (l.map f))) (hi:At Γ g z (.int i)) (hb:g=true->0<=i/\i<l.length):
 Ok P H Γ g ⟨d,.indexAddr T y z,ty,p,af,gd⟩ (.ptr (f (ab l i.toNat))):=
 gB λbase I a w he hm hw hg=>by
  obtain⟨h0,h1⟩:=hb hg
  have e2:a.eval z=_:=hi I a he hg
  obtain⟨b,off,cap,e,k⟩:=J8 (h I a he hg) (i:=i.toNat) (by rw[List.length_map];omega)
  rw[Tv f (by omega)] at k
  refine⟨_,?_,_,rfl,k⟩
  have U:(sizeOf E).run P w=.ok s w:=hE.size
  have h1':i<((l.map f).length:Int):=by rw[List.length_map];exact h1
  simp only[execOp,e,e2,Instr.indexAt,asIntOf,Sem.run_bind,Sem.run_pure,Result.andThen_ok,run_underlying hT]
  rw[List.length_map] at*
  simp[h0,h1,add_plain,U]
end
theorem dS {α:Type} [Inhabited α] {d:Option Tmp} {y z:Operand} {ty T E:TypeId} {p:String} {af:Array Edge} {g:Bool} {gd:Option (Nat×Bool)} {m:Nat} {zv:Value} {s:Nat} {ag:Bool} {f:α->List AV} {l:List α} {i:Nat}
 (hT:P.underlying T=some (.slice E)) (hE:Ty P E ag s m zv) (h:At Γ g y (.rows s (l.map f))) (hi:At Γ g z (.int (i:Int))) (hb:g=true->i<l.length):
 Ok P H Γ g ⟨d,.indexAddr T y z,ty,p,af,gd⟩ (.ptr (f (ab l i))):=
 fS hT hE h hi λe=>⟨by omega,by have:=hb e;omega⟩
theorem Tw {α:Type} {d:Option Tmp} {y:Operand} {ty T E:TypeId} {p:String} {af:Array Edge} {g:Bool} {gd:Option (Nat×Bool)} {s:Nat} {f:α->List AV} {l:List α} (hT:P.underlying T=some (.slice E)) (h:At Γ g y (.rows s (l.map f))):
 Ok P H Γ g ⟨d,.call ⟨.builtin .len,#[y],#[T]⟩,ty,p,af,gd⟩ (.int l.length):=by
 have:=zx (H:=H) (d:=d) (ty:=ty) (p:=p) (af:=af) (gd:=gd) hT h
 rwa[List.length_map] at this
theorem zO {α:Type} {s:Nat} {f:α->List AV} {l:List α} {v:Value} (h:(AV.rows s (l.map f)).h I v):l.length<=9223372036854775807:=by
 obtain⟨_,cap,_,h1,h2,_⟩:=h
 rw[List.length_map] at h1
 simp only[maxLen] at h2;omega
theorem St.Tx {t s:Nat} {l:List (List AV)} (U:St c I H Γ a w) (ht:Env.get t Γ=some (.rows s l)):l.length<=9223372036854775807:=by
 obtain⟨_,cap,_,h1,h2,_⟩:=U.env t _ ht
 simp only[maxLen] at h2;omega
theorem St.cW {α:Type} {t s:Nat} {f:α->List AV} {l:List α} (U:St c I H Γ a w) (ht:Env.get t Γ=some (.rows s (l.map f))):l.length<=9223372036854775807:=by
 have:=U.Tx ht;rwa[List.length_map] at this
theorem bG {b b':Bool} (h:b=b'):th [AV.bool b]=AV.bool b':=by rw[h];rfl
theorem fD {b b':Int} (h:b=b'):th [AV.int b]=AV.int b':=by rw[h];rfl
section
variable {ops:Array Oper} {rest:List Oper} {d:Nat} {y z:Operand} {ty T T' E:TypeId} {p:String} {af:Array Edge} {g:Bool} {gd:Option (Nat×Bool)} {n m:Nat} {zv:Value}
theorem KT {d:Option Tmp} {q:Addr} (h:At Γ g y (.val (.pointer (some q)))):Ok P H Γ g ⟨d,.nilCheck y,ty,p,af,gd⟩ (.val (.pointer (some q))):=
 iS λI a w he hg=>by
  have e:a.eval y=_:=h I a he hg
  simp only[execOp,e,Sem.run_bind,Sem.run_pure,Result.andThen_ok]
theorem KU {d:Option Tmp} {l:List AV} (h:At Γ g y (.ptr l)):Ok P H Γ g ⟨d,.nilCheck y,ty,p,af,gd⟩ (.ptr l):=
 gB λ_ I a w he _ _ hg=>by
  obtain⟨q,e,k⟩:=h I a he hg
  refine⟨_,?_,q,rfl,k⟩
  simp only[execOp,e,Sem.run_bind,Sem.run_pure,Result.andThen_ok]
theorem St.Tz {sz:Nat} {ag:Bool} (U:St c I H Γ a w) (hd:Nat.blt d c.n=true) (hT:P.underlying T=some (.slice E)) (hE:Ty P E ag sz m zv) (cK:0<sz)
 (k:∀b I a' w',St c I (H++[Own.row (.slice (some ⟨b,0,none⟩) 0 0) E sz []]) ((d,.val (.slice (some ⟨b,0,none⟩) 0 0))::Γ) a' w'->wpList P ops Q rest a' w'):
 wpList P ops Q (⟨some d,.buildSlice T 0 #[],ty,p,af,none⟩::rest) a w:=by
 have jJ:(sizeOf E).run P w=.ok sz w:=hE.size
 refine jI rfl ?_
 have hr:(Instr.buildSlice T 0 ((#[]:Array (Nat×Operand)).map λ(i,x)=>(i,a.eval x))).run P w=.ok (.slice (some ⟨w.heap.size,0,none⟩) 0 0) (w.alloc (.cells #[] E)):=by
  simp only[Instr.buildSlice,Sem.run_bind,run_underlying hT,Result.andThen_ok,jJ]
  have e0:Array.range 0=#[]:=rfl
  simp[Instr.fill,BW,e0]
 unfold Oper.wp
 simp only[execOp,Sem.run_bind,hr,Result.andThen_ok,Sem.run_pure,Oper.upon_value]
 have s1:=Step.alloc U.step.c9 (.cells #[] E)
 exact k w.heap.size I _ _ (St.BR (U.nj (U.step.trans s1) (Im.le_refl _) (U.own.step s1) hd rfl) E (.inr ⟨⟨w.heap.size,0,none⟩,rfl,rfl⟩))
theorem St.zP {b cap q sz i j:Nat} {l:List (List AV)} {r:List AV} {x:AV} (k:Nat) (U:St c I H Γ a w) (hT:Ty P T false 1 m zv) (hy:At Γ true y (.val (.pointer (some ⟨b,q,none⟩)))) (hz:At Γ true z x) (hx:x.One)
 (hk:H[k]?=some (Own.row (.slice (some ⟨b,0,none⟩) l.length cap) E sz l)) (hr:l[i]?=some r) (hq:q=i*sz+j) (hj:Nat.ble (j+1) sz=true)
 (kk:∀a' w',St c I (H.set k (Own.row (.slice (some ⟨b,0,none⟩) l.length cap) E sz (l.set i (fy r j [x])))) Γ a' w'->wpList P ops Q rest a' w'):
 wpList P ops Q (⟨none,.store T y z,ty,p,af,none⟩::rest) a w:=by
 have hv:=hz I a U.env rfl
 have hc:=zG (hx _ _ hv)
 obtain⟨w',j3,ct⟩:=U.KH (q:=q) (lx:=[x]) (v:=a.eval z) k hT hk (by rw[hc];exact⟨⟨hv,hx _ _ hv⟩,trivial⟩) rfl hr hq (Nat.le_of_ble_eq_true hj)
 exact jI rfl (xM (hy I a U.env rfl) rfl j3 (kk _ _ ct))
theorem St.lX {b cap q sz i:Nat} {l:List (List AV)} {r lx:List AV} (k:Nat) (U:St c I H Γ a w) (hT:Ty P T true sz m zv) (hy:At Γ true y (.val (.pointer (some ⟨b,q,none⟩)))) (hz:At Γ true z (.agg lx))
 (hk:H[k]?=some (Own.row (.slice (some ⟨b,0,none⟩) l.length cap) E sz l)) (hr:l[i]?=some r) (hq:q=i*sz) (hn:lx.length=sz)
 (kk:∀a' w',St c I (H.set k (Own.row (.slice (some ⟨b,0,none⟩) l.length cap) E sz (l.set i lx))) Γ a' w'->wpList P ops Q rest a' w'):
 wpList P ops Q (⟨none,.store T y z,ty,p,af,none⟩::rest) a w:=by
 obtain⟨cs,hv,hl⟩:=hz I a U.env rfl
 obtain⟨w',j3,ct⟩:=U.KH (q:=q) (lx:=lx) (j:=0) (v:=a.eval z) k hT hk (by rw[hv];exact hl) hn hr (by rw[hq];rfl) (by omega)
 refine jI rfl (xM (hy I a U.env rfl) rfl j3 (kk _ _ ?_))
 have cK:r.length=sz:=((U.own.all _ (List.mem_of_getElem? hk)).1.1) r (List.mem_of_getElem? hr)
 have e:fy r 0 lx=lx:=by simp[fy];omega
 rwa[e] at ct
end
end
theorem cj.perm {base:Nat->Prop} {I:Im} {w:World} {H H':List Own} (h:cj base I w H) (hp:H.Perm H'):cj base I w H':=
 ⟨λo ho=>h.all o (hp.mem_iff.2 ho),(hp.filterMap Own.ei).nodup_iff.1 h.nodup⟩
theorem cj.left {base:Nat->Prop} {I:Im} {w:World} {H K:List Own} (h:cj base I w (H++K)):cj base I w H:=
 ⟨λo ho=>h.all o (List.mem_append_left _ ho),h.nodup.sublist ((List.sublist_append_left H K).filterMap _)⟩
abbrev Mk:=Option (Value->Own)
def BZ (P:Program) (H:List Own) (ops:Array Oper) (Γ:Env) (o:Oper) (x:AV) (r:Mk):Prop:=
 ∀(base:Nat->Prop) (I:Im) (a:Act) (w:World) (K:Act->World->Prop) (Q:Exit->Act->World->Prop),cP I a Γ->dV w I->cj base I w H->
  (∀v I' w',x.h I' v->Step I w I' w'->(∀f,r=some f->(f v).ok I' w'/\∀b,(f v).ei=some b->w.heap.size<=b/\I' b=none/\b<w'.heap.size)->K (a.put o.dst v) w')->
  if Region.wanted o (yielded ops a.tmps) then o.wp P a w K Q else K (a.put o.dst undef) w
theorem pt.r {P:Program} {H:List Own} {ops:Array Oper} {Γ:Env} {o:Oper} {x:AV} (h:pt P H ops Γ o x):BZ P H ops Γ o x none:=
 λbase I a w K Q he hm hw k=>h base I a w K Q he hm hw λv I' w' hx U=>k v I' w' hx U λf e=>by cases e
def made (S:Nat->Bool) (a:Act):Nat->List Oper->List (AV×Mk)->List Own
 |k,o::os,(_,some f)::xs=>bif S k then f (a.tmps.getD (o.dst.getD 0) undef)::made S a (k+1) os xs else made S a (k+1) os xs
 |k,_::os,(_,none)::xs=>made S a (k+1) os xs
 |_,_,_=>[]
theorem Fa {S:Nat->Bool} {a a':Act}:∀{k:Nat} {os:List Oper} {xs:List (AV×Mk)},(∀(i:Nat) (o:Oper) (x:AV) (f:Value->Own),os[i]?=some o->xs[i]?=some (x,some f)->S (k+i)=true->a.tmps.getD (o.dst.getD 0) undef=a'.tmps.getD (o.dst.getD 0) undef)->made S a k os xs=made S a' k os xs
 |_,[],_,_=>by unfold made;rfl
 |_,_::_,[],_=>by simp[made]
 |k,o::os,(x,some f)::xs,h=>by
  have ih:=Fa (S:=S) (a:=a) (a':=a') (k:=k+1) (os:=os) (xs:=xs) λi o' x' f' h1 h2 h3=>h (i+1) o' x' f' (by simpa using h1) (by simpa using h2) (by rw[show k+(i+1)=k+1+i from by omega];exact h3)
  simp only[made]
  cases hS:S k
  ·exact ih
  ·rw[h 0 o x f rfl rfl hS,ih]
 |k,o::os,(x,none)::xs,h=>by
  simp only[made]
  exact Fa λi o' x' f' h1 h2 h3=>h (i+1) o' x' f' (by simpa using h1) (by simpa using h2) (by rw[show k+(i+1)=k+1+i from by omega];exact h3)
theorem uH {S S':Nat->Bool} {a:Act}:∀{k:Nat} {os:List Oper} {xs:List (AV×Mk)},(∀(i:Nat) (o:Oper) (x:AV) (f:Value->Own),os[i]?=some o->xs[i]?=some (x,some f)->S (k+i)=S' (k+i))->made S a k os xs=made S' a k os xs
 |_,[],_,_=>by unfold made;rfl
 |_,_::_,[],_=>by simp[made]
 |k,o::os,(x,some f)::xs,h=>by
  simp only[made]
  rw[show S k=S' k from h 0 o x f rfl rfl,uH (S:=S) (S':=S') (k:=k+1) (os:=os) (xs:=xs) λi o' x' f' h1 h2=>by
   have:=h (i+1) o' x' f' (by simpa using h1) (by simpa using h2)
   rw[show k+1+i=k+(i+1) from by omega];exact this]
 |k,o::os,(x,none)::xs,h=>by
  simp only[made]
  exact uH λi o' x' f' h1 h2=>by
   have:=h (i+1) o' x' f' (by simpa using h1) (by simpa using h2)
   rw[show k+1+i=k+(i+1) from by omega];exact this
theorem Fb {S:Nat->Bool} {a:Act}:∀{k i:Nat} {os:List Oper} {xs:List (AV×Mk)} {o:Oper} {x:AV} {f:Value->Own},os[i]?=some o->xs[i]?=some (x,some f)->S (k+i)=false->
 (f (a.tmps.getD (o.dst.getD 0) undef)::made S a k os xs).Perm (made (λj=>if j=k+i then true else S j) a k os xs)
 |k,0,o'::os,(x',m)::xs,o,x,f,h1,h2,h3=>by
  simp at h1 h2;obtain⟨rfl,rfl⟩:=h2;subst h1
  simp only[made]
  have TA:S k=false:=h3
  rw[TA]
  simp only[Nat.add_zero,if_true,cond_true,cond_false]
  rw[uH (S:=S) (S':=λj=>if j=k then true else S j) λi o' x' f' _ _=>by rw[if_neg (by omega)]]
 |k,i+1,o'::os,(x',some f')::xs,o,x,f,h1,h2,h3=>by
  have ih:=Fb (S:=S) (a:=a) (k:=k+1) (i:=i) (os:=os) (xs:=xs) (o:=o) (x:=x) (f:=f) (by simpa using h1) (by simpa using h2) (by rw[show k+1+i=k+(i+1) from by omega];exact h3)
  rw[show k+1+i=k+(i+1) from by omega] at ih
  simp only[made]
  rw[if_neg (by omega)]
  cases S k
  ·exact ih
  ·exact(List.Perm.swap _ _ _).trans (ih.cons _)
 |k,i+1,o'::os,(x',none)::xs,o,x,f,h1,h2,h3=>by
  have ih:=Fb (S:=S) (a:=a) (k:=k+1) (i:=i) (os:=os) (xs:=xs) (o:=o) (x:=x) (f:=f) (by simpa using h1) (by simpa using h2) (by rw[show k+1+i=k+(i+1) from by omega];exact h3)
  rw[show k+1+i=k+(i+1) from by omega] at ih
  simp only[made]
  exact ih
 |_,_,[],_,_,_,_,h1,_,_=>by simp at h1
 |_,_,_::_,[],_,_,_,_,h2,_=>by simp at h2
def xP (P:Program) (H:List Own) (ops:Array Oper):Env->List Oper->List (AV×Mk)->Prop
 |_,[],[]=>True
 |Γ,o::os,x::xs=>BZ P H ops (Γ.only (o.looksAt ops)) o x.1 x.2/\xP P H ops ((o.dst.getD 0,x.1)::Γ) os xs
 |_,_,_=>False
theorem xP.at {P:Program} {H:List Own} {ops:Array Oper} {Γ0:Env}:∀(os:List Oper) (xs:List (AV×Mk)) (k:Nat) (done:List oM),xP P H ops (fe done++Γ0) os xs->(∀e∈done,e.1<k)->
 os.length=xs.length/\∀i o x,os[i]?=some o->xs[i]?=some x->BZ P H ops ((fe (((eZ k os (xs.map (·.1))).reverse++done).filter λe=>decide (e.1<k+i))++Γ0).only (o.looksAt ops)) o x.1 x.2
 |[],[],_,_,_,_=>⟨rfl,λi o x h=>by simp at h⟩
 |o::os,x::xs,k,done,h,hd=>by
  obtain⟨h1,h2⟩:=h
  have ih:=xP.at os xs (k+1) ((k,o.dst.getD 0,x.1)::done) h2 (λe he=>by
   rcases List.mem_cons.1 he with rfl|he
   ·simp
   ·have:=hd e he;omega)
  refine⟨by simp[ih.1],λi o' x' ho hx=>?_⟩
  have zE:(eZ k (o::os) ((x::xs).map (·.1))).reverse++done=(eZ (k+1) os (xs.map (·.1))).reverse++((k,o.dst.getD 0,x.1)::done):=by simp[eZ]
  rw[zE]
  cases i with
  |zero=>
   simp at ho hx;subst ho hx
   have hf:((eZ (k+1) os (xs.map (·.1))).reverse++((k,o.dst.getD 0,x.1)::done)).filter (λe=>decide (e.1<k+0))=done:=by
    rw[List.filter_append]
    have e1:(eZ (k+1) os (xs.map (·.1))).reverse.filter (λe=>decide (e.1<k+0))=[]:=by
     rw[List.filter_eq_nil_iff]
     intro e he
     have:=(BN (k+1) os (xs.map (·.1))).2 e (List.mem_reverse.1 he)
     simp;omega
    rw[e1,List.filter_cons]
    simp only[Nat.add_zero,Nat.lt_irrefl,decide_false,Bool.false_eq_true,if_false,List.nil_append]
    rw[List.filter_eq_self]
    intro e he
    simpa using hd e he
   rw[hf];exact h1
  |succ i=>
   have:=ih.2 i o' x' (by simpa using ho) (by simpa using hx)
   rw[show k+(i+1)=k+1+i from by omega]
   exact this
 |[],_::_,_,_,h,_=>h.elim
 |_::_,[],_,_,h,_=>h.elim
def n8 (pre tail:List Oper):Bool:=
 let l:=pre++tail
 let C:=jZ [] l
 let p:=pre.length
 (l.zipIdx.all λ(o,i)=>(o.after.toList.all λe=>!Region.binds .any e||Nat.blt e.on i))&&
 (pre.zipIdx.all λ(o,i)=>o.dst.isSome&&
   ((slotsOf l.toArray o).all λt=>pre.zipIdx.all λ(o',j)=>Nat.beq i j||!(o'.dst==some t)||(if j<i then(C.getD i []).contains j else(C.getD j []).contains i))&&
   (pre.zipIdx.all λ(o',j)=>Nat.beq i j||!(o'.dst==o.dst)))&&
 (List.range tail.length).all λi=>(List.range (p+i)).all λj=>(C.getD (p+i) []).contains j
theorem Fc {pre tail:List Oper} (h:n8 pre tail=true) {i:Nat} {o:Oper} (ho:(pre++tail)[i]?=some o):∀e∈o.after.toList,Region.binds .any e=true->e.on<i:=λe he hb=>by
 simp only[n8,List.all_eq_true,Bool.and_eq_true] at h
 have hm:(o,i)∈(pre++tail).zipIdx:=by rw[List.mem_zipIdx_iff_getElem?];exact ho
 have:=h.1.1 _ hm e he
 rw[hb] at this
 simpa using this
theorem Fe {pre tail:List Oper} (h:n8 pre tail=true) {i:Nat} {o:Oper} (ho:pre[i]?=some o):
 (∃d,o.dst=some d)/\(∀t∈slotsOf (pre++tail).toArray o,∀j o',pre[j]?=some o'->i≠j->o'.dst=some t->if j<i then j∈(jZ [] (pre++tail)).getD i [] else i∈(jZ [] (pre++tail)).getD j [])/\
 ∀j o',pre[j]?=some o'->i≠j->o'.dst≠o.dst:=by
 simp only[n8,List.all_eq_true,Bool.and_eq_true] at h
 have hm:(o,i)∈pre.zipIdx:=by rw[List.mem_zipIdx_iff_getElem?];exact ho
 obtain⟨⟨h1,h3⟩,h4⟩:=h.1.2 _ hm
 have hb:∀j,i≠j->Nat.beq i j=false:=λj bj=>by
  cases hb:Nat.beq i j with
  |false=>rfl
  |true=>exact absurd (Nat.eq_of_beq_eq_true hb) bj
 refine⟨Option.isSome_iff_exists.1 h1,λt ht j o' mu bj hd=>?_,λj o' mu bj hd=>?_⟩
 ·have nZ:(o',j)∈pre.zipIdx:=by rw[List.mem_zipIdx_iff_getElem?];exact mu
  have:=h3 t ht _ nZ
  simp only[hb j bj,hd,Bool.false_or] at this
  have h5:(!(some t==some t))=false:=by simp
  rw[h5,Bool.false_or] at this
  split
  ·rename_i bw;rw[if_pos bw] at this;simpa using this
  ·rename_i bw;rw[if_neg bw] at this;simpa using this
 ·have nZ:(o',j)∈pre.zipIdx:=by rw[List.mem_zipIdx_iff_getElem?];exact mu
  have:=h4 _ nZ
  simp only[hb j bj,hd,Bool.false_or] at this
  simp at this
theorem Ff {pre tail:List Oper} (h:n8 pre tail=true) {i j:Nat} (hi:pre.length<=i) (iU:i<(pre++tail).length) (hj:j<i):j∈(jZ [] (pre++tail)).getD i []:=by
 simp only[n8,List.all_eq_true,Bool.and_eq_true] at h
 have:=h.2 (i-pre.length) (by simp at iU⊢;omega) j (by simp;omega)
 rw[show pre.length+(i-pre.length)=i from by omega] at this
 simpa using this
section
variable {P:Program} {c:Ctx} {I:Im} {H:List Own} {Γ:Env} {a:Act} {w:World} {Q:Exit->Act->World->Prop}
theorem xQ {listed:Array Bool} {i:Nat} (h:i<listed.size):listed.getD i true=listed.getD i false:=by simp[h]
theorem Fg {pre tail:List Oper} {listed:Array Bool} (cK:listed.size=(pre++tail).length)
 (bB:∀(i:Nat) (o:Oper),(pre++tail)[i]?=some o->listed.getD i false=true->∀e∈o.after.toList,Region.binds .any e=true->listed.getD e.on false=true) {i:Nat} {o:Oper} (ho:(pre++tail)[i]?=some o)
 (h3:∀e∈o.after.toList,Region.binds .any e=true->listed.getD e.on false=true):∀j,j≠i->j∈(jZ [] (pre++tail)).getD i []->listed.getD j false=true:=λj zQ hj=>by
 have bw:i<(pre++tail).length:=(List.getElem?_eq_some_iff.1 ho).1
 have j4:∀j,(listed.setIfInBounds i true).getD j false=if j=i then true else listed.getD j false:=λj=>BO (by omega) false
 have TB:=BM (S:=λj=>(listed.setIfInBounds i true).getD j false) (pre++tail) [] (λi k hk=>by simp at hk) (λi' o' mu qh e he hb=>by
  have iU:(listed.setIfInBounds i true).getD i' false=true:=by simpa using qh
  show(listed.setIfInBounds i true).getD e.on false=true
  rw[j4] at iU⊢
  split
  ·rfl
  ·split at iU
   ·rename_i zR;subst zR
    rw[ho] at mu;cases mu
    exact h3 e he hb
   ·exact bB i' o' mu iU e he hb)
 have h':=TB i j hj (by show(listed.setIfInBounds i true).getD i false=true;rw[j4];simp)
 have TC:(listed.setIfInBounds i true).getD j false=true:=h'
 rwa[j4,if_neg zQ] at TC
theorem B0 {pre tail:List Oper} (hE:∀{i:Nat} {o:Oper},(pre++tail)[i]?=some o->∀e∈o.after.toList,Region.binds .any e=true->e.on<i)
 (hT:∀{i j:Nat},pre.length<=i->i<(pre++tail).length->j<i->j∈(jZ [] (pre++tail)).getD i []):∀(m j:Nat) (listed:Array Bool) (fuel:Nat) (a:Act) (w:World),(pre++tail).length-j=m->pre.length<=j->j<=(pre++tail).length->m<=fuel->listed.size=(pre++tail).length->
 (∀i,i<(pre++tail).length->(listed.getD i false=true↔i<j))->wpList P (pre++tail).toArray Q ((pre++tail).drop j) a w->wpAny P .any (pre++tail).toArray Q fuel listed a w:=by
 intro m
 induction m with
 |zero=>
  intro j listed fuel a w hm hp hj hf cK hl h
  have tj:j=(pre++tail).length:=by omega
  have oO:(pre++tail).drop j=[]:=by rw[tj];simp
  rw[oO] at h
  have KV:Region.ready .any (pre++tail).toArray listed=[]:=by
   rw[List.eq_nil_iff_forall_not_mem]
   intro i hi
   obtain⟨h1,o,h2,_⟩:=mem_ready.1 hi
   have bw:i<(pre++tail).length:=by have:=(Array.getElem?_eq_some_iff.1 h2).1;simpa using this
   have h4:=(hl i bw).2 (by omega)
   have h5:listed.getD i true=listed.getD i false:=xQ (by omega)
   rw[h5,h4] at h1;cases h1
  cases fuel with
  |zero=>exact⟨KV,h⟩
  |succ fuel=>exact⟨λ_=>h,λi hi=>by rw[KV] at hi;cases hi⟩
 |succ m ih=>
  intro j listed fuel a w hm hp hj hf cK hl h
  have lY:j<(pre++tail).length:=by omega
  cases fuel with
  |zero=>omega
  |succ fuel=>
   have bB:∀(i:Nat) (o:Oper),(pre++tail)[i]?=some o->listed.getD i false=true->∀e∈o.after.toList,Region.binds .any e=true->listed.getD e.on false=true:=λi o ho hi e he hb=>by
    have bw:i<(pre++tail).length:=(List.getElem?_eq_some_iff.1 ho).1
    have h1:=(hl i bw).1 hi
    have h2:=hE ho e he hb
    exact(hl e.on (by omega)).2 (by omega)
   have hd:∀i,i<(pre++tail).length->listed.getD i true=listed.getD i false:=λi hi=>xQ (by omega)
   have TE:∀i∈Region.ready .any (pre++tail).toArray listed,i=j:=λi hi=>by
    obtain⟨h1,o,h2,h3⟩:=mem_ready.1 hi
    have bw:i<(pre++tail).length:=by have:=(Array.getElem?_eq_some_iff.1 h2).1;simpa using this
    have ho:(pre++tail)[i]?=some o:=by simpa using h2
    have xR:¬i<j:=λh'=>by rw[hd i bw,(hl i bw).2 h'] at h1;cases h1
    by_cases gN:i=j
    ·exact gN
    ·have hb:=Fg cK bB ho (λe he hb=>h3 e (by simpa using he) hb) j (λe=>gN e.symm) (hT (by omega) bw (by omega))
     have:=(hl j lY).1 hb
     omega
   refine⟨λhr=>?_,λi hi=>?_⟩
   ·exfalso
    have:j∈Region.ready .any (pre++tail).toArray listed:=by
     refine mem_ready.2 ⟨?_,(pre++tail)[j],by simp[lY],λe he hb=>?_⟩
     ·rw[hd j lY]
      cases hb:listed.getD j false with
      |false=>rfl
      |true=>have:=(hl j lY).1 hb;omega
     ·have h2:=hE (i:=j) (o:=(pre++tail)[j]) (by simp[lY]) e (by simpa using he) hb
      exact(hl e.on (by omega)).2 h2
    rw[hr] at this;cases this
   ·obtain rfl:=TE i hi
    have oO:(pre++tail).drop i=(pre++tail)[i]::(pre++tail).drop (i+1):=List.drop_eq_getElem_cons lY
    rw[oO] at h
    have KW:∀a w,wpList P (pre++tail).toArray Q ((pre++tail).drop (i+1)) a w->wpAny P .any (pre++tail).toArray Q fuel (listed.setIfInBounds i true) a w:=λa w h'=>
     ih (i+1) (listed.setIfInBounds i true) fuel a w (by omega) (by omega) (by omega) (by omega) (by simpa using cK) (λk hk=>by
      rw[BO (by omega)]
      split
      ·rename_i e;subst e;simp
      ·rename_i e;rw[hl k hk];omega) h'
    unfold wpOp
    have hg:(pre++tail).toArray[i]?=some (pre++tail)[i]:=by simp[lY]
    simp only[hg]
    unfold wpList at h
    by_cases hw:Region.wanted (pre++tail)[i] (yielded (pre++tail).toArray a.tmps)=true
    ·rw[if_pos hw] at h⊢;exact h.imp (Oper.wp_mono KW) id
    ·rw[if_neg hw] at h⊢;exact KW _ _ h
theorem KX {pre tail:List Oper} {listed:Array Bool} {n:Nat} (hf:((List.range (pre++tail).length).filter λi=>!listed.getD i false).length<=n) (oP:∀i,i<(pre++tail).length->listed.getD i false=true->i<pre.length) (aN:∀i,i<pre.length->listed.getD i false=true):(pre++tail).length-pre.length<=n:=by
 have h1:((List.range (pre++tail).length).filter λi=>!listed.getD i false)=(List.range (pre++tail).length).filter λi=>decide (pre.length<=i):=by
  apply List.filter_congr
  intro i hi
  have qh:i<(pre++tail).length:=by simpa using hi
  cases hb:listed.getD i false with
  |true=>have:=oP i qh hb;simp;omega
  |false=>
   have:¬i<pre.length:=λh=>by rw[aN i h] at hb;cases hb
   simp;omega
 rw[h1] at hf
 have h2:((List.range (pre++tail).length).filter λi=>decide (pre.length<=i)).length=(pre++tail).length-pre.length:=by
  have:(List.range (pre++tail).length)=List.range pre.length++(List.range tail.length).map (pre.length+·):=by
   rw[List.length_append,List.range_add]
  rw[this,List.filter_append]
  have a1:(List.range pre.length).filter (λi=>decide (pre.length<=i))=[]:=by
   rw[List.filter_eq_nil_iff];intro i hi;simp at hi⊢;omega
  have a2:((List.range tail.length).map (pre.length+·)).filter (λi=>decide (pre.length<=i))=(List.range tail.length).map (pre.length+·):=by
   rw[List.filter_eq_self];intro i hi;simp at hi⊢;omega
  rw[a1,a2];simp
 omega
theorem TF {pre tail:List Oper} {xs:List (AV×Mk)} (gf:n8 pre tail=true) (hlen:pre.length=xs.length) (hd:∀o∈pre,Nat.blt (o.dst.getD 0) c.n=true)
 (run:∀i o x,pre[i]?=some o->xs[i]?=some x->BZ P H (pre++tail).toArray ((fe ((eZ 0 pre (xs.map (·.1))).reverse.filter λe=>decide (e.1<i))++Γ).only (o.looksAt (pre++tail).toArray)) o x.1 x.2)
 (k:∀I' a' w',St c I' (H++made (λ_=>true) a' 0 pre xs) (fe (eZ 0 pre (xs.map (·.1))).reverse++Γ) a' w'->wpList P (pre++tail).toArray Q tail a' w'):
 ∀(fuel:Nat) (listed:Array Bool) (I:Im) (a:Act) (w:World),listed.size=(pre++tail).length->((List.range (pre++tail).length).filter λi=>!listed.getD i false).length<=fuel->
  (∀i,i<(pre++tail).length->listed.getD i false=true->i<pre.length)->
  (∀(i:Nat) (o:Oper),(pre++tail)[i]?=some o->listed.getD i false=true->∀e∈o.after.toList,Region.binds .any e=true->listed.getD e.on false=true)->
  St c I (H++made (λi=>listed.getD i false) a 0 pre xs) (fe ((eZ 0 pre (xs.map (·.1))).reverse.filter λe=>listed.getD e.1 false)++Γ) a w->wpAny P .any (pre++tail).toArray Q fuel listed a w:=by
 have hL:(eZ 0 pre (xs.map (·.1))).reverse.Pairwise (λe f=>f.1<e.1):=by
  rw[List.pairwise_reverse];exact(BN 0 pre (xs.map (·.1))).1
 have rD:∀e∈(eZ 0 pre (xs.map (·.1))).reverse,∃o',pre[e.1]?=some o'/\o'.dst=some e.2.1:=λe he=>by
  obtain⟨j,o',g1,_,g3,g4⟩:=Ku (List.mem_reverse.1 he)
  obtain⟨d',jH⟩:=(Fe gf g1).1
  refine⟨o',by rw[g3,Nat.zero_add];exact g1,?_⟩
  rw[g4,jH];rfl
 intro fuel
 induction fuel with
 |zero=>
  intro listed I a w cK hf oP bB U
  have h0:∀i,i<(pre++tail).length->listed.getD i false=true:=λi hi=>by
   have:(List.range (pre++tail).length).filter (λi=>!listed.getD i false)=[]:=List.eq_nil_of_length_eq_zero (by omega)
   rw[List.filter_eq_nil_iff] at this
   simpa using this i (by simpa using hi)
  have jS:tail=[]:=by
   rcases tail with _|⟨t,ts⟩
   ·rfl
   ·have:=oP pre.length (by simp) (h0 pre.length (by simp));omega
  have e1:(eZ 0 pre (xs.map (·.1))).reverse.filter (λe=>listed.getD e.1 false)=(eZ 0 pre (xs.map (·.1))).reverse:=by
   rw[List.filter_eq_self]
   intro e he
   obtain⟨o',h1,_⟩:=rD e he
   have:=(List.getElem?_eq_some_iff.1 h1).1
   exact h0 e.1 (by simp;omega)
  have e2:made (λi=>listed.getD i false) a 0 pre xs=made (λ_=>true) a 0 pre xs:=uH λi o x f h1 h2=>by
   have:=(List.getElem?_eq_some_iff.1 h1).1
   rw[Nat.zero_add];exact h0 i (by simp;omega)
  rw[e1,e2] at U
  have hw:=k I a w U
  exact B0 (Fc gf) (Ff gf) 0 (pre++tail).length listed 0 a w (by omega) (by simp) (by omega) (by omega) cK (λi hi=>⟨λ_=>hi,λ_=>h0 i hi⟩) (by subst jS;simpa using hw)
 |succ fuel ih=>
  intro listed I a w cK hf oP bB U
  by_cases aN:∀i,i<pre.length->listed.getD i false=true
  ·have e1:(eZ 0 pre (xs.map (·.1))).reverse.filter (λe=>listed.getD e.1 false)=(eZ 0 pre (xs.map (·.1))).reverse:=by
    rw[List.filter_eq_self]
    intro e he
    obtain⟨o',h1,_⟩:=rD e he
    exact aN e.1 (List.getElem?_eq_some_iff.1 h1).1
   have e2:made (λi=>listed.getD i false) a 0 pre xs=made (λ_=>true) a 0 pre xs:=uH λi o x f h1 h2=>by
    rw[Nat.zero_add];exact aN i (List.getElem?_eq_some_iff.1 h1).1
   rw[e1,e2] at U
   have TG:=KX hf oP aN
   refine B0 (Fc gf) (Ff gf) _ pre.length listed (fuel+1) a w rfl (by omega) (by simp) TG cK (λi hi=>⟨oP i hi,aN i⟩) ?_
   rw[List.drop_left]
   exact k I a w U
  ·have zS:∃i0,i0<pre.length/\listed.getD i0 false=false:=by
    refine Classical.byContradiction λhn=>aN λi hi=>?_
    cases hb:listed.getD i false with
    |true=>rfl
    |false=>exact absurd ⟨i,hi,hb⟩ hn
   obtain⟨i0,zT,tk⟩:=zS
   refine⟨λhr=>?_,λi hi=>?_⟩
   ·exfalso
    have:∀i,i<(pre++tail).length->listed.getD i false=true:=λi=>by
     induction i using Nat.strongRecOn with
     |_ i zB=>
      intro hi
      cases hl:listed.getD i false with
      |true=>rfl
      |false=>
       have jt:i∈Region.ready .any (pre++tail).toArray listed:=by
        refine mem_ready.2 ⟨by rw[xQ (by omega)];exact hl,(pre++tail)[i],by simp[hi],λe he hb=>?_⟩
        have bw:=Fc gf (i:=i) (o:=(pre++tail)[i]) (by simp[hi]) e (by simpa using he) hb
        exact zB e.on bw (by omega)
       rw[hr] at jt;cases jt
    rw[this i0 (by simp;omega)] at tk;cases tk
   ·obtain⟨h1,o,h2,h3⟩:=mem_ready.1 hi
    have bw:i<(pre++tail).length:=by have:=(Array.getElem?_eq_some_iff.1 h2).1;simpa using this
    have kv:(pre++tail)[i]?=some o:=by simpa using h2
    rw[xQ (by omega)] at h1
    have aH:=Fg cK bB kv (λe he hb=>h3 e (by simpa using he) hb)
    have KY:i<pre.length:=by
     refine Classical.byContradiction λhn=>?_
     have:=aH i0 (by omega) (Ff gf (by omega) bw (by omega))
     rw[this] at tk;cases tk
    have ho:pre[i]?=some o:=by rw[List.getElem?_append_left KY] at kv;exact kv
    obtain⟨⟨d,vX⟩,B1,KZ⟩:=Fe gf ho
    have Fh:=BM (S:=λj=>listed.getD j false) (pre++tail) [] (λi k hk=>by simp at hk) (λi o ho hi e he hb=>bB i o ho (by simpa using hi) e he hb)
    have vY:∀j,i∈(jZ [] (pre++tail)).getD j []->listed.getD j false=false:=λj hj=>by
     cases hb:listed.getD j false with
     |false=>rfl
     |true=>rw[Fh j i hj hb] at h1;cases h1
    have j4:∀j,(listed.setIfInBounds i true).getD j false=if j=i then true else listed.getD j false:=λj=>BO (by omega) false
    have Fi:∀(i':Nat) (o':Oper),(pre++tail)[i']?=some o'->(listed.setIfInBounds i true).getD i' false=true->∀e∈o'.after.toList,Region.binds .any e=true->(listed.setIfInBounds i true).getD e.on false=true:=λi' o' mu iU e he hb=>by
     rw[j4] at iU⊢
     split
     ·rfl
     ·split at iU
      ·rename_i zR;subst zR
       rw[kv] at mu;cases mu
       exact h3 e (by simpa using he) hb
      ·exact bB i' o' mu iU e he hb
    have n5:i<xs.length:=by omega
    have nq:xs[i]?=some xs[i]:=by simp[n5]
    generalize xs[i]=x at nq
    obtain⟨x,r⟩:=x
    have TH:(xs.map (·.1))[i]?=some x:=by simp[nq]
    have j3:=run i o (x,r) ho nq
    have Fj:cP I a ((fe ((eZ 0 pre (xs.map (·.1))).reverse.filter λe=>decide (e.1<i))++Γ).only (o.looksAt (pre++tail).toArray)):=λt y e=>by
     obtain⟨g1,g2⟩:=Env.EP e
     have ht:t∈slotsOf (pre++tail).toArray o:=by
      unfold slotsOf;rw[List.mem_append];exact .inr (by simpa using g2)
     rw[zD (q:=λe=>listed.getD e.1 false) _ (λe he qi=>?_)] at g1
     ·exact U.env t y g1
     ·obtain⟨o',k1,k2⟩:=rD e he
      by_cases rE:e.1=i
      ·rw[rE,h1];simp
      ·have:=B1 t ht e.1 o' k1 (λh=>rE h.symm) (by rw[k2,qi])
       split at this
       ·rename_i oQ;rw[aH e.1 rE this];simpa using oQ
       ·rename_i oQ;rw[vY e.1 this];simpa using oQ
    have Fk:((List.range (pre++tail).length).filter λj=>!(listed.setIfInBounds i true).getD j false).length<=fuel:=by
     have:=filter_lt (l:=List.range (pre++tail).length) (p:=λj=>!listed.getD j false) (q:=λj=>!(listed.setIfInBounds i true).getD j false) (i:=i) (by simpa using bw) (by simp only[h1];rfl) (by simp only[j4];simp) (λj hj=>by
      simp only[j4] at hj;split at hj
      ·cases hj
      ·exact hj)
     omega
    have Fl:∀j,j<(pre++tail).length->(listed.setIfInBounds i true).getD j false=true->j<pre.length:=λj hj hb=>by
     rw[j4] at hb;split at hb
     ·rename_i e;subst e;exact KY
     ·exact oP j hj hb
    have uD:(i,d,x)∈(eZ 0 pre (xs.map (·.1))).reverse:=by
     rw[List.mem_reverse]
     have:=S3 (k:=0) ho TH
     rwa[vX,Nat.zero_add] at this
    unfold wpOp
    simp only[h2]
    have lz:=j3 c.own I a w (wpAny P .any (pre++tail).toArray Q fuel (listed.setIfInBounds i true)) Q Fj U.step.c9 U.own.left (λv I' w' hv st TI=>by
     refine ih (listed.setIfInBounds i true) I' _ w' (by simpa using cK) Fk Fl Fi ?_
     rw[vX]
     have rF:d<c.n:=by
      have:=hd o (List.mem_of_getElem? ho)
      rw[vX] at this;simpa using this
     have pz:=U.put (d:=d) (x:=x) (v:=v) rF hv st
     have ry:made (λi=>listed.getD i false) a 0 pre xs=made (λi=>listed.getD i false) (a.put (some d) v) 0 pre xs:=Fa λj o' x' f' g1 g2 g3=>by
      have zQ:j≠i:=λe=>by subst e;rw[Nat.zero_add,h1] at g3;cases g3
      have bj:=KZ j o' g1 (λe=>zQ e.symm)
      obtain⟨d',jH⟩:=(Fe gf g1).1
      have uI:d≠d':=λe=>bj (by rw[jH,vX,e])
      rw[jH]
      simp[Act.put,uI]
     have en:cj c.own I' w' (H++made (λj=>(listed.setIfInBounds i true).getD j false) (a.put (some d) v) 0 pre xs):=by
      have h6:=pz.own
      rw[ry] at h6
      cases r with
      |none=>
       have e3:made (λj=>(listed.setIfInBounds i true).getD j false) (a.put (some d) v) 0 pre xs=made (λi=>listed.getD i false) (a.put (some d) v) 0 pre xs:=uH λj o' x' f' g1 g2=>by
        have zQ:j≠i:=λe=>by subst e;rw[nq] at g2;cases g2
        rw[Nat.zero_add,j4,if_neg zQ]
       rw[e3];exact h6
      |some f=>
       obtain⟨aj,kr⟩:=TI f rfl
       have dT:(a.put (some d) v).tmps.getD d undef=v:=by simp[Act.put,U.size,rF]
       have hp:=Fb (S:=λi=>listed.getD i false) (a:=a.put (some d) v) (k:=0) ho nq (by rw[Nat.zero_add];exact h1)
       rw[vX] at hp
       simp only[Option.getD_some,dT] at hp
       have e4:made (λj=>if j=0+i then true else listed.getD j false) (a.put (some d) v) 0 pre xs=made (λj=>(listed.setIfInBounds i true).getD j false) (a.put (some d) v) 0 pre xs:=uH λj o' x' f' g1 g2=>by
        rw[j4];simp
       rw[e4] at hp
       have h7:cj c.own I' w' (f v::(H++made (λi=>listed.getD i false) (a.put (some d) v) 0 pre xs)):=by
        refine⟨λo ho=>?_,?_⟩
        ·rcases List.mem_cons.1 ho with rfl|ho
         ·exact⟨aj,λb e=>by
           obtain⟨q1,q2,q3⟩:=kr b e
           exact⟨.inl (Nat.le_trans U.step.below.size q1),q2,q3⟩⟩
         ·exact h6.all o ho
        ·rw[List.filterMap_cons]
         cases hb:(f v).ei with
         |none=>exact h6.nodup
         |some b=>
          refine List.nodup_cons.2 ⟨λhm=>?_,h6.nodup⟩
          obtain⟨y,hy,e⟩:=List.mem_filterMap.1 hm
          rw[<-ry] at hy
          have:=((U.own.all y hy).2 b e).2.2
          have:=(kr b hb).1
          omega
       exact h7.perm ((List.perm_middle.symm).trans (hp.append_left H))
     refine⟨pz.step,en,?_,pz.size,pz.defers⟩
     intro t y e
     refine pz.env t y ?_
     by_cases tl:t=d
     ·subst tl
      rw[ER (i:=i) (x:=x) _ hL uD (by simp only[j4];simp) (λe he hp qi=>?_)] at e
      ·rw[<-e];simp[Env.get]
      ·obtain⟨o',k1,k2⟩:=rD e he
       by_cases hle:e.1<=i
       ·exact hle
       ·have bj:e.1≠i:=by omega
        exact absurd (by rw[k2,qi,vX]) (KZ e.1 o' k1 (λh=>bj h.symm))
     ·rw[zD (q:=λe=>listed.getD e.1 false) _ (λe he qi=>?_)] at e
      ·have hb:Nat.beq d t=false:=by
        cases hb:Nat.beq d t with
        |false=>rfl
        |true=>exact absurd (Nat.eq_of_beq_eq_true hb).symm tl
       simp only[Env.get,hb,cond_false];exact e
      ·obtain⟨o',k1,k2⟩:=rD e he
       have bj:e.1≠i:=λh=>by
        rw[h,ho] at k1;cases k1
        rw[vX] at k2;cases k2
        exact tl qi.symm
       simp only[j4,if_neg bj])
    by_cases hw:Region.wanted o (yielded (pre++tail).toArray a.tmps)=true
    ·rw[if_pos hw] at lz⊢;exact .inl lz
    ·rw[if_neg hw] at lz⊢;exact lz
end
structure cw where
 time:Int
 site:Int
deriving DecidableEq,Inhabited
structure au where
 key:Int
 aq:cw
deriving DecidableEq,Inhabited
structure aB where
 key:Int
 aq:cw
 val:Int
 an:Int
 call:Int
 aO:List au
deriving DecidableEq,Inhabited
structure aC where
 kind:Int
 aR:Int
 to:Int
 call:Int
 key:Int
 aq:cw
 val:Int
 yes:Bool
 aO:List au
 slot:Int
 bz:Int
 ao:List aB
 waits:List aB
 aD:List au
deriving DecidableEq,Inhabited
structure dG where
 bz:Int
 dH:Int
deriving DecidableEq,Inhabited
structure Server where
 site:Int
 up:Bool
 aG:List dG
 ao:List aB
 waits:List aB
 aD:List au
 bl:List au
deriving DecidableEq,Inhabited
structure Answer where
 key:Int
 yes:Bool
 be:aB
deriving DecidableEq,Inhabited
structure Call where
 an:Int
 num:Int
 kind:Int
 keys:List Int
 val:Int
 ctx:List au
 bD:Int
 end_:Int
 over:Bool
 aq:cw
 az:List Answer
 aP:List au
deriving DecidableEq,Inhabited
structure aE where
 time:Int
 ax:List Server
 ar:List aC
 calls:List Call
 seen:List (List au)
deriving DecidableEq,Inhabited
structure Ev where
 kind:Int
 at_:Int
 an:Int
 word:Int
 iR:Int
 slot:Int
 call:Int
 a:Int
 b:Int
 c:Int
 val:Int
deriving DecidableEq,Inhabited
def cw.cells (s:cw):List AV:=[.int s.time,.int s.site]
def au.cells (d:au):List AV:=[.int d.key,.int d.aq.time,.int d.aq.site]
def bm (l:List au):AV:=.rows 3 (l.map au.cells)
def aB.cells (v:aB):List AV:=[.int v.key,.int v.aq.time,.int v.aq.site,.int v.val,.int v.an,.int v.call,bm v.aO]
def bX (l:List aB):AV:=.rows 7 (l.map aB.cells)
def aC.cells (w:aC):List AV:=[.int w.kind,.int w.aR,.int w.to,.int w.call,.int w.key,.int w.aq.time,.int w.aq.site,.int w.val,.bool w.yes,bm w.aO,.int w.slot,.int w.bz,bX w.ao,bX w.waits,bm w.aD]
def bq (l:List aC):AV:=.rows 15 (l.map aC.cells)
def dG.cells (s:dG):List AV:=[.int s.bz,.int s.dH]
def uJ (l:List dG):AV:=.rows 2 (l.map dG.cells)
def Server.cells (s:Server):List AV:=[.int s.site,.bool s.up,uJ s.aG,bX s.ao,bX s.waits,bm s.aD,bm s.bl]
def bR (l:List Server):AV:=.rows 7 (l.map Server.cells)
def Answer.cells (a:Answer):List AV:=[.int a.key,.bool a.yes,.int a.be.key,.int a.be.aq.time,.int a.be.aq.site,.int a.be.val,.int a.be.an,.int a.be.call,bm a.be.aO]
def qj (l:List Answer):AV:=.rows 9 (l.map Answer.cells)
def B2 (k:Int):List AV:=[.int k]
def jg (l:List Int):AV:=.rows 1 (l.map B2)
def Call.cells (c:Call):List AV:=[.int c.an,.int c.num,.int c.kind,jg c.keys,.int c.val,bm c.ctx,.int c.bD,.int c.end_,.bool c.over,.int c.aq.time,.int c.aq.site,qj c.az,bm c.aP]
def bK (l:List Call):AV:=.rows 13 (l.map Call.cells)
def fE (l:List au):List AV:=[bm l]
def bQ (l:List (List au)):AV:=.rows 1 (l.map fE)
def aE.cells (w:aE):List AV:=[.int w.time,bR w.ax,bq w.ar,bK w.calls,bQ w.seen]
def Ev.cells (e:Ev):List AV:=[.int e.kind,.int e.at_,.int e.an,.int e.word,.int e.iR,.int e.slot,.int e.call,.int e.a,.int e.b,.int e.c,.int e.val]
def Fm (l:List Ev):AV:=.rows 11 (l.map Ev.cells)
def cw.av (s:cw):AV:=.agg s.cells
def au.av (s:au):AV:=.agg s.cells
def aB.av (s:aB):AV:=.agg s.cells
def aC.av (s:aC):AV:=.agg s.cells
def dG.av (s:dG):AV:=.agg s.cells
def Server.av (s:Server):AV:=.agg s.cells
def Answer.av (s:Answer):AV:=.agg s.cells
def Call.av (s:Call):AV:=.agg s.cells
def aE.av (s:aE):AV:=.agg s.cells
def Ev.av (s:Ev):AV:=.agg s.cells
end Go.Proofs.YtjepcfpkclegdaaGreat
set_option linter.unusedVariables false
set_option linter.unusedSimpArgs false
namespace Go.Proofs.YtjepcfpkclegdaaGreat
def gh (n:Int):Prop:=-9223372036854775808<=n/\n<=9223372036854775807
def aQ (n low high:Int):Bool:=decide (low<=n)&&decide (n<=high)
def cL (n:Int):Bool:=aQ n 0 3
def dp (n:Int):Bool:=aQ n 0 5
def ff (n:Int):Bool:=aQ n 0 1
def db (s:cw):Bool:=aQ s.time 1 9999&&cL s.site
def bP (a b:cw):Bool:=decide (a.time<b.time)||(a.time==b.time&&decide (a.site<b.site))
def dL (s:cw):Bool:=s.time==0&&s.site==0
def kx (s:cw):Bool:=dL s||db s
def bL (n:Int):Int:=if cL n then n/2 else-1
def dZ (a b:au):Bool:=decide (a.key<b.key)||(a.key==b.key&&bP a.aq b.aq)
def dI (last:Int):List au->Bool
 |[]=>true
 |d::r=>aQ d.key (last+1) 5&&db d.aq&&dI d.key r
def bN (l:List au):Bool:=dI (-1) l
def cF (n:Nat) (f:Nat->Bool):Bool:=decide (∀i,i<n->f i=true)
theorem eP {n k:Nat} {f:Nat->Bool} (h:∀i,i<k->f i=true) (hk:n<=k):cF n f=true:=by
 simp only[cF,decide_eq_true_eq];exactλi hi=>h i (by omega)
theorem eB {n k:Nat} {f:Nat->Bool} (hk:k<n) (h:f k=false):cF n f=false:=by
 simp only[cF,decide_eq_false_iff_not];exactλhh=>by rw[hh k hk] at h;cases h
theorem fg {k:Nat} {f:Nat->Bool} (h:∀i,i<k->f i=true) (hf:f k=true):∀i,i<k+1->f i=true:=λi hi=>by
 by_cases e:i=k
 ·subst e;exact hf
 ·exact h i (by omega)
theorem gx {n:Nat} {f:Nat->Bool}:cF n f=true↔∀i,i<n->f i=true:=by simp[cF]
theorem xS {n m:Nat} {f g:Nat->Bool} (hn:n=m) (h:∀i,i<n->f i=g i):cF n f=cF m g:=by
 subst hn
 rw[Bool.eq_iff_iff,gx,gx]
 exact⟨λk i hi=>by rw[<-h i hi];exact k i hi,λk i hi=>by rw[h i hi];exact k i hi⟩
def eQ {α:Type} [Inhabited α] (aW:α->Bool) (less:α->α->Bool) (l:List α) (k:Nat):Bool:=aW (ab l k)&&(decide (k=0)||less (ab l (k-1)) (ab l k))
theorem uK {α:Type} [Inhabited α] (aW:α->Bool) (less:α->α->Bool) (l:List α) (k:Nat):
 (!aW (ab l k)||(decide (0<(k:Int))&&!less (ab l ((k:Int)-1).toNat) (ab l k)))=!eQ aW less l k:=by
 rw[show((k:Int)-1).toNat=k-1 from by omega]
 unfold eQ
 rcases Nat.eq_zero_or_pos k with rfl|h
 ·simp
 ·have h2:k≠0:=by omega
  have h3:0<k:=h
  simp[h2,h3]
def Fo (t:Int) (l:List au):Bool:=cF l.length λi=>decide ((ab l i).aq.time<t)
def dM (v:aB):Bool:=dp v.key&&db v.aq&&aQ v.val 0 9999&&ff v.an&&aQ v.call 1 99&&bN v.aO&&Fo v.aq.time v.aO
def aB.aT (v:aB):au:=⟨v.key,v.aq⟩
def gy (a b:aB):Bool:=dZ a.aT b.aT
def cn (l:List aB):Bool:=decide (l.length<=80)&&cF l.length (eQ dM gy l)
def lZ (d:au):Bool:=dp d.key&&db d.aq
def gi (l:List au):Bool:=decide (l.length<=80)&&cF l.length (eQ lZ dZ l)
def lB (n:Int):Bool:=cL n||aQ n 10 11
def bO (w:aC):Bool:=
 aQ w.kind 1 10&&lB w.aR&&lB w.to&&aQ w.call 0 99&&dp w.key&&kx w.aq&&aQ w.val 0 9999&&bN w.aO&&aQ w.slot 0 2&&aQ w.bz 0 9999&&
  cn w.ao&&cn w.waits&&gi w.aD
def cQ (key:Int):Int:=if dp key then key*3/6 else-1
open Go
def dec (n:Int):List UInt8:=Lib.itoa n
def written (n:Int):Bool:=aQ n 0 99999
def Ev.ints (e:Ev):List Int:=[e.kind,e.at_,e.an,e.word,e.iR,e.slot,e.call,e.a,e.b,e.c,e.val]
def Ev.Fit (e:Ev):Prop:=∀x∈e.ints,gh x
def TJ (ns:List Int):List UInt8:=(ns.map λn=>32::dec n).flatten
structure Form where
 word:List UInt8
 ev:Ev
 K0:List Nat
deriving DecidableEq,Inhabited
def Form.K1 (f:Form) (e:Ev):List Int:=f.K0.map λo=>e.ints.getD o 0
def Form.made (f:Form) (e:Ev):List Int:=f.K0.foldl (λm o=>m.set o (e.ints.getD o 0)) f.ev.ints
def Form.write (f:Form) (e:Ev):List UInt8:=if(f.K1 e).all written&&decide (f.made e=e.ints) then f.word++TJ (f.K1 e)++[10] else[]
end Go.Proofs.YtjepcfpkclegdaaGreat
set_option linter.unusedVariables false
set_option linter.unusedSimpArgs false
namespace Go.Proofs.YtjepcfpkclegdaaGreat
open Go Go.RowKit
abbrev AV.u8 (n:Int):AV:=.val (.int .u8 n)
abbrev AV.byte (x:UInt8):AV:=.u8 (x.toNat:Int)
section
variable {P:Program} {H:List Own} {Γ:Env} {g:Bool} {d:Option Tmp} {y z z':Operand} {ty T T' E:TypeId} {p:String} {af:Array Edge} {gd:Option (Nat×Bool)} {n m:Nat} {zv:Value} {k k':List UInt8}
theorem B3 {m:Int} (hT:(P.underlying T).isSome=true) (TK:P.underlying T'=some (.int .i64)) (hy:At Γ g y (.u8 m)) (hb:g=true->0<=m/\m<=255):Ok P H Γ g ⟨d,.convert T T' y,ty,p,af,gd⟩ (.int m):=
 iS λI a w he hg=>by
  have h1:a.eval y=.int .u8 m:=hy I a he hg
  obtain⟨b0,b1⟩:=hb hg
  have h3:IntKind.i64.wrap m=m:=IntWalk.i64_in _ ⟨by omega,by omega⟩
  simp only[execOp,h1]
  simp[go_sem,hT,TK,h3]
end
section
variable {P:Program} {c:Ctx} {I:Im} {H:List Own} {Γ:Env} {a:Act} {w:World} {Q:Exit->Act->World->Prop}
def oR (T:TypeId) (l:List AV):Value->Own
 |.pointer (some ⟨b,0,none⟩)=>Own.box b T l
 |_=>Own.gone
def AV.vZ:AV:=⟨λ_ v=>∃b,v=.pointer (some ⟨b,0,none⟩),λ_ _ _ _ h=>h⟩
def gj (P:Program) (c:Ctx) (H:List Own) (ops:Array Oper) (Q:Exit->Act->World->Prop) (tail:List Oper) (M:Act->List Own) (k:Nat) (Γ:Env) (os:List Oper):Prop:=
 ∃xs,xP P H ops Γ os xs/\∀I' a' w',St c I' (H++(M a'++made (λ_=>true) a' k os xs)) (ru Γ os (xs.map (·.1))) a' w'->wpList P ops Q tail a' w'
theorem gj.nil {ops:Array Oper} {tail:List Oper} {M:Act->List Own} {k:Nat} (h:∀I' a' w',St c I' (H++M a') Γ a' w'->wpList P ops Q tail a' w'):gj P c H ops Q tail M k Γ []:=
 ⟨[],trivial,λI' a' w' U=>h I' a' w' (by simpa[made,ru] using U)⟩
theorem gj.cons {ops:Array Oper} {tail:List Oper} {M:Act->List Own} {k:Nat} {o:Oper} {os:List Oper} {x:AV} (h:pt P H ops (Γ.only (o.looksAt ops)) o x) (r:gj P c H ops Q tail M (k+1) ((o.dst.getD 0,x)::Γ) os):gj P c H ops Q tail M k Γ (o::os):=
 let⟨xs,h1,h2⟩:=r
 ⟨(x,none)::xs,⟨h.r,h1⟩,λI' a' w' U=>h2 I' a' w' (by simpa[made,ru] using U)⟩
theorem gj.alloc {ops:Array Oper} {tail:List Oper} {M:Act->List Own} {k d:Nat} {os:List Oper} {T ty:TypeId} {p:String} {af:Array Edge} {ag:Bool} {n m:Nat} {zv:Value} {l:List AV} (hT:Ty P T ag n m zv) (hz:∀I,bJ I l zv.cells.toList)
 (r:gj P c H ops Q tail (λa=>M a++[oR T l (a.tmps.getD d undef)]) (k+1) ((d,AV.vZ)::Γ) os):gj P c H ops Q tail M k Γ (⟨some d,.alloc T,ty,p,af,none⟩::os):=by
 obtain⟨xs,h1,h2⟩:=r
 refine⟨(AV.vZ,some (oR T l))::xs,⟨?_,h1⟩,λI' a' w' U=>h2 I' a' w' (by simpa[made,ru] using U)⟩
 intro base I a w K Q he hm hw kk
 rw[if_pos (by simp[Region.wanted])]
 unfold Oper.wp
 have vR:(zeroValue T).run P w=.ok zv w:=hT.zero
 simp only[execOp,Instr.alloc,Sem.run_bind,vR,Result.andThen_ok,zF,Sem.run_pure,Oper.upon_value]
 refine kk _ I _ ⟨_,rfl⟩ (Step.alloc hm _) λf hf=>?_
 cases hf
 refine⟨⟨_,s7 w _,hz I⟩,λb hb=>?_⟩
 cases hb
 exact⟨Nat.le_refl _,hm.none (Nat.le_refl _),by simp⟩
theorem St.K2 {id:Nat} (pre tail:List Oper) (U:St c I H Γ a w) (hm:P.follows .mixedOrders=true) (gf:n8 pre tail=true) (hd:(pre.all λo=>Nat.blt (o.dst.getD 0) c.n)=true)
 (run:gj P c H (pre++tail).toArray Q tail (λ_=>[]) 0 Γ pre):(Code.region id (pre++tail).toArray true).wp P Q a w:=by
 obtain⟨xs,run,k⟩:=run
 refine wp_region_any hm ?_
 obtain⟨hlen,j3⟩:=xP.at (Γ0:=Γ) pre xs 0 [] (by simpa[fe] using run) (λe he=>by simp at he)
 have hf:∀i:Nat,(Array.replicate (pre++tail).length false).getD i false=false:=λi=>by
  rw[Array.getD_eq_getD_getElem?,Array.getElem?_replicate];split<;>rfl
 have TL:∀(a:Act),made (λi=>(Array.replicate (pre++tail).length false).getD i false) a 0 pre xs=[]:=λa=>by
  rw[uH (S':=λ_=>false) λi o x f _ _=>hf _]
  have key:∀(k:Nat) (os:List Oper) (xs:List (AV×Mk)),made (λ_=>false) a k os xs=[]:=by
   intro k os
   induction os generalizing k with
   |nil=>intro xs;unfold made;rfl
   |cons o os ih=>
    intro xs
    cases xs with
    |nil=>simp[made]
    |cons x xs=>
     obtain⟨x,r⟩:=x
     cases r with
     |none=>simp only[made];exact ih _ _
     |some f=>simp only[made,cond_false];exact ih _ _
  exact key _ _ _
 have:=TF (P:=P) (c:=c) (H:=H) (Γ:=Γ) (Q:=Q) gf hlen (by simpa using hd) (λi o x ho hx=>by simpa using j3 i o x ho hx) (λI' a' w' h=>by
  rw[<-Kv] at h;exact k I' a' w' (by simpa using h)) (pre++tail).length (Array.replicate (pre++tail).length false) I a {w with drawn:=w.drawn+1} (by simp)
  (by simpa using List.length_filter_le _ (List.range (pre++tail).length)) (λi hi h=>by rw[hf] at h;cases h) (λi o ho hi=>by rw[hf] at hi;cases hi) (by
    have he:(eZ 0 pre (xs.map (·.1))).reverse.filter (λe=>(Array.replicate (pre++tail).length false).getD e.1 false)=[]:=by
     rw[List.filter_eq_nil_iff];intro e _;rw[hf];simp
    rw[he,TL,List.append_nil]
    exact⟨⟨U.step.le,U.step.gH,U.step.c9,U.step.below.drew⟩,⟨λo ho=>⟨o.iR I I w _ (Im.le_refl I) (λ_ _=>rfl) (U.own.all o ho).1,(U.own.all o ho).2⟩,U.own.nodup⟩,U.env,U.size,U.defers⟩)
 simpa using this
theorem St.K3 {id:Nat} {l:List Oper} (n:Nat) (U:St c I H Γ a w) (hm:P.follows .mixedOrders=true) (gf:n8 (l.take n) (l.drop n)=true) (hd:((l.take n).all λo=>Nat.blt (o.dst.getD 0) c.n)=true)
 (run:gj P c H l.toArray Q (l.drop n) (λ_=>[]) 0 Γ (l.take n)):(Code.region id l.toArray true).wp P Q a w:=by
 have e:l.take n++l.drop n=l:=List.take_append_drop n l
 have:=U.K2 (id:=id) (Q:=Q) (l.take n) (l.drop n) hm gf hd (by rw[e];exact run)
 rwa[e] at this
theorem St.tm {d:Nat} {T:TypeId} {l:List AV} (U:St c I (H++([]++[oR T l (a.tmps.getD d undef)])) Γ a w) (h:Env.get d Γ=some AV.vZ):∃b,St c I (H++[Own.box b T l]) ((d,.val (.pointer (some ⟨b,0,none⟩)))::Γ) a w:=by
 obtain⟨b,hb⟩:∃b,a.tmps.getD d undef=.pointer (some ⟨b,0,none⟩):=U.env d _ h
 rw[hb] at U
 refine⟨b,U.step,by simpa[oR] using U.own,λt x e=>?_,U.size,U.defers⟩
 simp only[Env.get] at e
 cases n9:Nat.beq d t with
 |true=>
  rw[n9] at e;simp only[cond_true] at e;cases e
  obtain rfl:d=t:=Nat.eq_of_beq_eq_true n9
  exact hb
 |false=>rw[n9] at e;exact U.env t x (by simpa using e)
def mO (P:Program) (c:Ctx) (H:List Own) (ops:Array Oper) (Q:Exit->Act->World->Prop) (tail:List Oper) (Γ:Env) (os:List Oper):Prop:=∀k,gj P c H ops Q tail (λ_=>[]) k Γ os
theorem mO.nil {ops:Array Oper} {tail:List Oper} (k:∀I' a' w',St c I' H Γ a' w'->wpList P ops Q tail a' w'):mO P c H ops Q tail Γ []:=λ_=>.nil λI a w U=>k I a w (by simpa using U)
theorem mO.cons {ops:Array Oper} {tail:List Oper} {o:Oper} {os:List Oper} {x:AV} (h:pt P H ops (Γ.only (o.looksAt ops)) o x) (k:mO P c H ops Q tail ((o.dst.getD 0,x)::Γ) os):mO P c H ops Q tail Γ (o::os):=λn=>.cons h (k (n+1))
theorem St.TM {id:Nat} {l:List Oper} (n:Nat) (U:St c I H Γ a w) (hm:P.follows .mixedOrders=true) (gf:n8 (l.take n) (l.drop n)=true) (hd:((l.take n).all λo=>Nat.blt (o.dst.getD 0) c.n)=true)
 (run:mO P c H l.toArray Q (l.drop n) Γ (l.take n)):(Code.region id l.toArray true).wp P Q a w:=U.K3 n hm gf hd (run 0)
def j5 (P:Program) (c:Ctx) (H:List Own) (ops:Array Oper) (Q:Exit->Act->World->Prop) (Γ:Env) (os:List Oper):Prop:=mO P c H ops Q [] Γ os
theorem j5.nil {ops:Array Oper} (k:∀I' a' w',St c I' H Γ a' w'->Q .normal a' w'):j5 P c H ops Q Γ []:=mO.nil λI a w h=>wpList_nil (k I a w h)
theorem j5.cons {ops:Array Oper} {o:Oper} {os:List Oper} {x:AV} (h:pt P H ops (Γ.only (o.looksAt ops)) o x) (k:j5 P c H ops Q ((o.dst.getD 0,x)::Γ) os):j5 P c H ops Q Γ (o::os):=mO.cons h k
theorem St.TO {id:Nat} {l:List Oper} (U:St c I H Γ a w) (hm:P.follows .mixedOrders=true) (gf:n8 l []=true) (hd:(l.all λo=>Nat.blt (o.dst.getD 0) c.n)=true)
 (run:j5 P c H l.toArray Q Γ l):(Code.region id l.toArray true).wp P Q a w:=by
 have:=U.K2 (id:=id) (Q:=Q) l [] hm gf hd (by rw[List.append_nil];exact run 0)
 rwa[List.append_nil] at this
end
theorem j6 {f:FuncId} {l:List AV}:(AV.fn f l).One:=λ_ _ ⟨_,e,_⟩=>by rw[e];rfl
theorem Fn.xT {P:Program} {f:FuncId} {args:List AV} {res:AV} (h:Fn P f args res):lW P (AV.val (.func (.func f) #[] #[])) args res:=λI w v vs hm e ha=>
 ⟨f,#[],#[],e,h.1,by simpa using h.2 I w vs hm ha⟩
end Go.Proofs.YtjepcfpkclegdaaGreat

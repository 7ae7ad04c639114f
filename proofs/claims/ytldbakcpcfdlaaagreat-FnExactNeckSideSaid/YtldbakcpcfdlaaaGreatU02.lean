/- Part 2: rules of the proofs. -/
import Derived.Test.YtldbakcpcfdlaaaGreatU01
set_option linter.all false
namespace Go.Proofs.YtldbakcpcfdlaaaGreat
open Go Go.RowKit
def qp {α:Type} {l:List α} {i:Nat} {x:α} (h:l[i]?=some x):l.set i x=l:=by
 obtain⟨hi,rfl⟩:=List.getElem?_eq_some_iff.1 h;exact List.set_getElem_self hi
def Ai {H:List Own} {i k b:Nat} {x y:Own} (h:H.Pairwise eE) (aY:i≠k) (hi:H[i]?=some y) (hk:H[k]?=some x) (hy:y.bP b) (hx:x.bP b):False:=jw h aY hi hk b hy hx
section
variable {P:Program} {c:Ctx} {I:Im} {H:List Own} {Γ:Env} {a:Act} {w:World} {Q:Exit->Act->World->Prop} {ops:Array Oper} {rest:List Oper}
variable {d:Nat} {y z:Operand} {ty T T' E:TypeId} {p:String} {af:Array Edge} {g:Bool} {gd:Option (Nat×Bool)} {n m:Nat} {zv:Value}
def St.freeze {x:Own} {b:Nat} {cs:Array Value} (k:Nat) (U:St c I H Γ a w) (hk:H[k]?=some x) (hx:x.bP b) (hb:w.heap[b]?=some (.cells cs T (0,0))):
 St c (I.add b cs) (H.set k Own.gone) Γ a w/\Im.le I (I.add b cs):=by
 obtain⟨_,h2⟩:=U.own.all x (List.mem_of_getElem? hk);obtain⟨k1,k2,k3⟩:=h2 b hx;have hle:Im.le I (I.add b cs):=Im.mr k2;refine⟨⟨⟨Im.le_trans U.step.le hle,λb' Aj ur=>?_,λb' ds e=>?_,U.step.below⟩,⟨λo ho=>?_,fB U.own.apart λb e=>e.elim⟩,U.env.up hle,U.size,U.defers⟩,hle⟩
 .unfold Im.add;rw[if_neg (λe=>by subst e;rcases k1 with h|h;exact absurd h om;exact ur h)];exact U.step.cR b' Aj ur
 .unfold Im.add at e;split at e
  .rename_i h;subst h;cases e;exact⟨T,(0,0),hb⟩
  exact U.step.bO b' ds e
 rw[List.mem_iff_getElem?] at ho;obtain⟨i,hi⟩:=ho;have ei:k<H.length:=(List.getElem?_eq_some_iff.1 hk).1;by_cases gP:i=k
 .subst gP;rw[List.getElem?_set_self ei] at hi;cases hi;exact⟨trivial,λb e=>e.elim⟩
 rw[List.getElem?_set_ne (λe=>gP e.symm)] at hi;obtain⟨h1,h3⟩:=U.own.all o (List.mem_of_getElem? hi);refine⟨o.fy I _ w w hle (λ_ _=>rfl) h1,λb' e=>?_⟩;obtain⟨a1,a2,a3⟩:=h3 b' e;refine⟨a1,?_,a3⟩;unfold Im.add;rw[if_neg (λh=>by subst h;exact Ai U.own.apart gP hi hk e hx)];exact a2
def St.uu {v:Value} {sz:Nat} {l:List (List AV)} (k:Nat) (U:St c I H Γ a w) (hk:H[k]?=some (Own.row v E sz l)):
 ∃I',St c I' (H.set k Own.gone) Γ a w/\(AV.rows sz l).h I' v:=by
 obtain⟨⟨bf,⟨rfl,ke⟩|⟨b,cap,cur,rfl,h0,hb,h3,h4,h5,hl⟩⟩,h2⟩:=U.own.all _ (List.mem_of_getElem? hk)
 .refine⟨I,⟨U.step,⟨λo ho=>?_,fB U.own.apart λb e=>e.elim⟩,U.env,U.size,U.defers⟩,?_⟩
  .rcases List.mem_or_eq_of_mem_set ho with ho|rfl
   .exact U.own.all o ho
   exact⟨trivial,λb e=>e.elim⟩
  rcases ke with rfl|⟨q,rfl,hq⟩
  .exact c9 sz I
  exact⟨some q,0,rfl,Nat.le_refl _,by simp[maxLen],λr hr=>by simp at hr,.inl rfl,(λh=>by cases h)⟩
 obtain⟨bj,hle⟩:=U.freeze k hk (b:=b) (pV om) hb;refine⟨_,bj,some ⟨b,0,none⟩,cap,rfl,h3,h4,bf,?_,(λh=>by cases h)⟩;by_cases kg:l=[]
 .exact .inl kg
 refine .inr ⟨_,rfl,rfl,cur,by simp[Im.add],(hl.up hle).cast rfl ?_⟩;simp[eO bf]
def St.Ak {b:Nat} {l:List AV} (k:Nat) (U:St c I H Γ a w) (hk:H[k]?=some (Own.box b T l)):
 ∃I',St c I' (H.set k Own.gone) Γ a w/\(AV.ptr l).h I' (.pointer (some ⟨b,0,none⟩)):=by
 obtain⟨⟨cs,hb,hl⟩,h2⟩:=U.own.all _ (List.mem_of_getElem? hk);obtain⟨bj,hle⟩:=U.freeze k hk (b:=b) rfl hb;refine⟨_,bj,⟨b,0,none⟩,rfl,rfl,cs,by simp[Im.add],(hl.up hle).cast rfl ?_⟩;have:=hl.length;simp only[List.drop_zero];rw[List.take_of_length_le om]
def St.uv {t:Nat} {v:Value} {x:AV} (U:St c I H Γ a w) (ht:Env.get t Γ=some (.val v)) (hx:x.h I v):St c I H ((t,x)::Γ) a w:=
 ⟨U.step,U.own,λs u e=>by
  simp only[Env.get] at e;cases hb:Nat.beq t s with
  |true=>
   rw[hb] at e;simp at e;subst e
   obtain rfl:t=s:=Nat.eq_of_beq_eq_true hb
   have hv:a.tmps.getD t undef=v:=U.env t _ ht
   rw[hv];exact hx
  |false=>rw[hb] at e;exact U.env s u e,U.size,U.defers⟩
def aO.same {base:Nat->Prop} {k:Nat} {x x':Own} (h:aO base I w H) (hk:H[k]?=some x) (dU:x'.bP=x.bP) (ok:x'.ok I w):aO base I w (H.set k x'):=
 h.write hk dU rfl (λ_ _=>rfl) ok
def St.drop (k:Nat) (U:St c I H Γ a w):St c I (H.take k) Γ a w:=
 ⟨U.step,⟨λo ho=>U.own.all o (List.mem_of_mem_take ho),U.own.apart.sublist (List.take_sublist k H)⟩,U.env,U.size,U.defers⟩
end
section
variable {P:Program} {H:List Own} {Γ:Env} {g:Bool} {d:Option Tmp} {y z z':Operand} {ty T T' E:TypeId} {p:String} {af:Array Edge} {gd:Option (Nat×Bool)} {n m:Nat} {zv:Value}
def Al {I:Im} {sz:Nat} {l:List (List AV)} {q:Option Addr} {cap lo hi:Nat} (h:(AV.rows sz l).h I (.slice q l.length cap)) (h1:lo<=hi) (h2:hi<=l.length):
 (AV.rows sz ((l.drop lo).take (hi-lo))).h I (sliced q lo hi cap sz):=by
 obtain⟨q',gB,e,g1,g2,g3,g4,g5⟩:=h;cases e;have hlen:((l.drop lo).take (hi-lo)).length=hi-lo:=by simp;omega
 have mJ:∀r∈(l.drop lo).take (hi-lo),r.length=sz:=λr hr=>g3 r (List.mem_of_mem_drop (List.mem_of_mem_take hr));refine⟨if cap-lo=0 then q else q.map (·.add (lo*sz)),cap-lo,?_,by omega,by omega,mJ,?_,?_⟩
 .rw[hlen];unfold sliced;by_cases hc:cap=lo
  .rw[if_pos hc,if_pos om]
  rw[if_neg hc,if_neg om]
 .by_cases h0:hi=lo
  .left;apply List.eq_nil_of_length_eq_zero;omega
  right;have aY:l≠[]:=λe=>by subst e;simp at h2;omega
  obtain⟨⟨b,off,s⟩,rfl,kk⟩:=g4.resolve_left aY;obtain rfl:s=none:=kk.1;refine⟨⟨b,off+lo*sz,none⟩,by rw[if_neg om];simp[add_plain],?_⟩;have h3:=(kk.drop (lo*sz)).take ((hi-lo)*sz);have e1:((l.drop lo).take (hi-lo)).flatten=(l.flatten.drop (lo*sz)).take ((hi-lo)*sz):=by
   have fd:∀(l:List (List AV)) (k:Nat),(∀r∈l,r.length=sz)->(l.drop k).flatten=l.flatten.drop (k*sz):=λl=>by
    induction l with
    |nil=>intro k _;simp
    |cons x l ih=>
     intro k hl
     cases k with
     |zero=>simp
     |succ k=>
      rw[List.drop_succ_cons,ih k (λr hr=>hl r (by simp[hr])),List.flatten_cons,Nat.succ_mul,Nat.add_comm,<-hl x aJ,List.drop_append]
      simp
   have ft:∀(l:List (List AV)) (k:Nat),(∀r∈l,r.length=sz)->(l.take k).flatten=l.flatten.take (k*sz):=λl=>by
    induction l with
    |nil=>intro k _;simp
    |cons x l ih=>
     intro k hl
     cases k with
     |zero=>simp
     |succ k=>
      rw[List.take_succ_cons,List.flatten_cons,ih k (λr hr=>hl r (by simp[hr])),List.flatten_cons,Nat.succ_mul,Nat.add_comm,<-hl x aJ,List.take_append]
      simp
      rw[List.take_of_length_le om]
   rw[ft _ _ (λr hr=>g3 r (List.mem_of_mem_drop hr)),fd _ _ g3]
  rw[e1];exact h3
 intro hn;cases q with
 |none=>have:=g5 rfl;omega
 |some q=>split at hn<;>simp at hn
def Am {s:Nat} {ag:Bool} {l:List (List AV)} {hi:Int} (hT:P.underlying T=some (.slice E)) (hE:Ty P E ag s m zv) (h:At Γ g y (.rows s l)) (h2:At Γ g z' (.int hi)) (hb:g=true->0<=hi/\hi<=l.length):
 Ok P H Γ g ⟨d,.slice T y none (some z') none,ty,p,af,gd⟩ (.rows s (l.take hi.toNat)):=
 dr λ_ I a w he _ _ hg=>by
  obtain⟨b1,b2⟩:=hb hg;have hy:=h I a he hg;obtain⟨q,cap,e,g1,_⟩:=id hy;rw[e] at hy;have e2:a.eval z'=_:=h2 I a he hg;have U:(sizeOf E).run P w=.ok s w:=hE.size;have:=Al (lo:=0) (hi:=hi.toNat) hy om om;rw[List.drop_zero,Nat.sub_zero] at this;refine⟨_,?_,this⟩;have c2:hi<=(cap:Int):=by omega
  simp only[execOp,Option.map_some,Option.map_none,e,e2,Instr.sliceAt,Sem.run_bind,run_underlying hT,Result.andThen_ok];simp[Instr.slice,run_underlying hT,Instr.sliceBounds,run_sliceBound,b1,c2,U,sliced]
def An {l:List AV} {i:Nat} {x:AV} (h:At Γ g y (.mo l)) (hx:l[i]?=some x):Ok P H Γ g ⟨d,.extract y i,ty,p,af,gd⟩ x:=
 dr λ_ I a w he _ _ hg=>by
  obtain⟨cs,e,hl⟩:=h I a he hg;obtain⟨v,hv,Ao⟩:=hl.get hx;refine⟨v,?_,Ao⟩;have qt:cs[i]?=some v:=by simpa using hv
  simp only[execOp,e,Instr.extract];simp[qt]
end
def At.ca {Γ:Env} {g:Bool} {cs:Array Value} {l:List AV} (h:∀I,aC I l cs.toList):At Γ g (.const (.agg cs)) (.agg l):=λI _ _ _=>⟨cs,rfl,h I⟩
def At.nil {Γ:Env} {g:Bool} {o:Operand} {sz:Nat} (h:At Γ g o (.val (.slice none 0 0))):At Γ g o (.rows sz []):=λI a he hg=>by
 have e:a.eval o=_:=h I a he hg;rw[e];exact c9 sz I
def At.mono {Γ:Env} {g:Bool} {o:Operand} {x y:AV} (h:At Γ g o x) (k:∀I v,x.h I v->y.h I v):At Γ g o y:=λI a he hg=>k I _ (h I a he hg)
section
variable {P:Program} {H:List Own} {Γ:Env} {g:Bool} {d:Option Tmp} {y z z':Operand} {ty T T' E:TypeId} {p:String} {af:Array Edge} {gd:Option (Nat×Bool)} {n m:Nat} {zv:Value}
def bU (place:Nat->Option (Nat×Nat)) (Γ:Env) (g:Bool) (n:Nat):List (Nat×Operand)->List (Nat×List AV)->Prop
 |[],[]=>True
 |(i,y)::r,(o,lx)::s=>(place i=some (o,lx.length)/\o+lx.length<=n/\∀I a,br I a Γ->g=true->aC I lx (a.eval y).cells.toList)/\bU place Γ g n r s
 |_,_=>False
def bU.nil {place:Nat->Option (Nat×Nat)}:bU place Γ g n [] []:=trivial
def bU.c {place:Nat->Option (Nat×Nat)} {i o:Nat} {x:AV} {r:List (Nat×Operand)} {s:List (Nat×List AV)} (hp:place i=some (o,1)) (ho:Nat.ble (o+1) n=true) (h:At Γ g y x) (hx:x.One) (k:bU place Γ g n r s):
 bU place Γ g n ((i,y)::r) ((o,[x])::s):=⟨⟨hp,Nat.le_of_ble_eq_true ho,λI a he hg=>by
  have e:=h I a he hg;rw[n5 (hx _ _ e)];exact⟨⟨e,hx _ _ e⟩,trivial⟩⟩,k⟩
def bU.s {place:Nat->Option (Nat×Nat)} {i o q:Nat} {lx:List AV} {r:List (Nat×Operand)} {s:List (Nat×List AV)} (hp:place i=some (o,q)) (hl:lx.length=q) (ho:Nat.ble (o+q) n=true) (h:At Γ g y (.agg lx)) (k:bU place Γ g n r s):
 bU place Γ g n ((i,y)::r) ((o,lx)::s):=⟨⟨by rw[hp,hl],by rw[hl];exact Nat.le_of_ble_eq_true ho,λI a he hg=>by
  obtain⟨cs,e,hl⟩:=h I a he hg;rw[e];exact hl⟩,k⟩
def filled (l0:List AV) (ps:List (Nat×List AV)):List AV:=ps.foldl (λl q=>cm l q.1 q.2) l0
def Ap (v:Array Value) (o:Nat):∀(cs:Array Value),o+v.size<=cs.size->(v.zipIdx.foldl (λcs (c,j)=>cs.setIfInBounds (o+j) c) cs).toList=cm cs.toList o v.toList:=by
 intro cs hle;have key:∀(l:List Value) (k:Nat) (cs:Array Value),o+k+l.length<=cs.size->((l.zipIdx k).foldl (λcs (x:Value×Nat)=>cs.setIfInBounds (o+x.2) x.1) cs).toList=cm cs.toList (o+k) l:=by
  intro l;induction l with
  |nil=>intro k cs _;simp[cm]
  |cons x l ih=>
   intro k cs hk
   simp only[List.length_cons] at hk
   rw[List.zipIdx_cons,List.foldl_cons,ih (k+1) _ dF]
   simp only[cm,Array.toList_setIfInBounds]
   apply List.ext_getElem?
   intro t
   simp only[List.getElem?_append,List.length_take,List.length_set,List.getElem?_take,List.getElem?_drop,List.getElem?_set,List.length_append,List.length_cons,Array.length_toList,List.getElem?_cons]
   (repeat' split)<;>first|rfl|omega|(congr 1;omega)|skip
 have:=key v.toList 0 cs (by simpa using hle);rw[Nat.add_zero] at this;rw[<-this];congr 1;rw[<-Array.foldl_toList];simp
def n7 {I:Im} {a:Act} {place:Nat->Option (Nat×Nat)} (he:br I a Γ) (hg:g=true):∀{parts:List (Nat×Operand)} {ps:List (Nat×List AV)} {l0:List AV} {cs:Array Value},bU place Γ g n parts ps->aC I l0 cs.toList->l0.length=n->
 ∃dj,Instr.fill place cs (parts.map λq=>(q.1,a.eval q.2))=some dj/\aC I (filled l0 ps) dj.toList/\(filled l0 ps).length=n
 |[],[],l0,cs,_,h,hl=>⟨cs,rfl,h,hl⟩
 |(i,y)::r,(o,lx)::s,l0,cs,⟨⟨h1,h2,h3⟩,k⟩,h,hl=>by
  have hv:=h3 I a he hg;have jx:=hv.length;have cN:=h.length;have bf:(a.eval y).cells.size=lx.length:=by simpa using jx
  have fC:cs.size=n:=by simp at cN;omega
  have iS:aC I (cm l0 o lx) (cm cs.toList o (a.eval y).cells.toList):=by
   simp only[cm];rw[jx];exact((h.take o).append hv).append (h.drop (o+lx.length))
  have hz:=Ap (a.eval y).cells o cs om;have Aq:(cm l0 o lx).length=n:=by simp only[cm,List.length_append,List.length_take,List.length_drop];omega
  obtain⟨dj,e1,e2,e3⟩:=n7 he hg (parts:=r) (ps:=s) (l0:=cm l0 o lx) (cs:=(a.eval y).cells.zipIdx.foldl (λcs (c,j)=>cs.setIfInBounds (o+j) c) cs) k (by rw[hz];exact iS) Aq;refine⟨dj,?_,e2,e3⟩;simp only[List.map_cons,Instr.fill,h1];rw[if_neg (by rw[bf,fC];simp;omega)];exact e1
 |[],_::_,_,_,h,_,_=>h.elim
 |_::_,[],_,_,h,_,_=>h.elim
def ic (P:Program) (T:TypeId):Nat->Option (Nat×Nat):=λf=>
 (P.underlying T).bind λdd=>match dd with|.struct fs=>(fs[f]?).bind λx=>(P.info? x.type).map λi=>(x.offset,i.size)|_=>none
def uw {pl qu:Nat->Option (Nat×Nat)}:∀(parts:List (Nat×Value)) (cs:Array Value),(∀q∈parts,pl q.1=qu q.1)->Instr.fill pl cs parts=Instr.fill qu cs parts
 |[],_,_=>rfl
 |(i,v)::r,cs,h=>by
  simp only[Instr.fill,h (i,v) aJ];cases qu i with
  |none=>rfl
  |some q=>simp only;split
           .rfl
           exact uw r _ (λq hq=>h q (by simp[hq]))
def qv (P:Program) (T:TypeId):Bool:=match P.underlying T with|some (.struct fs)=>fs.all λx=>(P.info? x.type).isSome|_=>false
def run_places {P:Program} {w:World} (fs:Array Field) (h:(fs.all λx=>(P.info? x.type).isSome)=true):
 (fs.mapM λf=>do pure (f.offset,<-sizeOf f.type):Sem (Array (Nat×Nat))).run P w=.ok (fs.map λf=>(f.offset,((P.info? f.type).map (·.size)).getD 0)) w:=by
 have key:∀(l:List Field),(∀x∈l,(P.info? x.type).isSome=true)->(l.mapM λf=>do pure (f.offset,<-sizeOf f.type):Sem (List (Nat×Nat))).run P w=.ok (l.map λf=>(f.offset,((P.info? f.type).map (·.size)).getD 0)) w:=by
  intro l;induction l with
  |nil=>intro _;simp
  |cons x l ih=>
   intro hl
   obtain⟨i,hi⟩:=Option.isSome_iff_exists.1 (hl x aJ)
   have U:(sizeOf x.type).run P w=.ok i.size w:=by simp[sizeOf,typeInfo,hi]
   rw[List.mapM_cons]
   simp only[Sem.run_bind,U,Result.andThen_ok,Sem.run_pure,ih (λy hy=>hl y (by simp[hy]))]
   simp[hi]
 rw[Array.mapM_eq_mapM_toList];have h':∀x∈fs.toList,(P.info? x.type).isSome=true:=by
  intro x hx;rw[Array.all_eq_true'] at h;exact h x (by simpa using hx)
 have e:=key fs.toList h';rw[show(List.toArray<$>(fs.toList.mapM λf=>do pure (f.offset,<-sizeOf f.type):Sem (List (Nat×Nat))))=(do let l<-(fs.toList.mapM λf=>do pure (f.offset,<-sizeOf f.type):Sem (List (Nat×Nat)));pure l.toArray) from rfl];simp only[Sem.run_bind,e,Result.andThen_ok,Sem.run_pure];congr 1;apply Array.toList_inj.1;simp
def Ar {l0:List AV} {parts:List (Nat×Operand)} {ps:List (Nat×List AV)} (hT:Ty P T true n m zv) (hk:qv P T=true) (hz:∀I,aC I l0 zv.cells.toList) (hn:l0.length=n) (hp:bU (ic P T) Γ g n parts ps):
 Ok P H Γ g ⟨d,.build T parts.toArray,ty,p,af,gd⟩ (.agg (filled l0 ps)):=
 dr λ_ I a w he _ _ hg=>by
  obtain⟨dj,e1,e2,_⟩:=n7 he hg hp (hz I) hn;refine⟨.agg dj,?_,dj,rfl,e2⟩;have mD:(zeroValue T).run P w=.ok zv w:=hT.zero;unfold qv at hk;cases hu:P.underlying T with
  |none=>rw[hu] at hk;cases hk
  |some dd=>
   rw[hu] at hk
   cases dd with
   |struct fs=>
    simp only at hk
    have fZ:=run_places (P:=P) (w:=w) fs hk
    have As:Instr.fill ((fs.map λf=>(f.offset,((P.info? f.type).map (·.size)).getD 0))[·]?) zv.cells (parts.map λq=>(q.1,a.eval q.2))=some dj:=by
     rw[<-e1];refine uw _ _ λq _=>?_;simp only[ic,hu,Option.bind_some,Array.getElem?_map];cases hf:fs[q.1]? with
     |none=>rfl
     |some f=>
      have:=(Array.all_eq_true'.1 hk) f (Array.mem_of_getElem? hf)
      obtain⟨i,hi⟩:=Option.isSome_iff_exists.1 this
      simp[hi]
    simp only[execOp,Instr.build,Sem.run_bind,mD,Result.andThen_ok,run_underlying hu,fZ,Sem.run_pure,List.map_toArray,List.toList_toArray]
    rw[As]
    rfl
   |_=>cases hk
def ie (sz:Nat):Nat->Option (Nat×Nat):=λi=>some (i*sz,sz)
def ux {I:Im}:∀{cs:List Value},(∀c∈cs,c.oneCell'=true)->aC I (List.replicate cs.length AV.any) cs
 |[],_=>trivial
 |c::cs,h=>by
  rw[List.length_cons,List.replicate_succ];exact⟨⟨trivial,h c aJ⟩,ux (λd hd=>h d (by simp[hd]))⟩
def qw {w:World} {T:TypeId} {cs:Array Value}:(newRow T cs).run P w=.ok ⟨w.heap.size,0,none⟩ (w.alloc (.cells cs T)):=rfl
def Au {I:Im} {a:Act} {w:World} {ag:Bool} {sz len:Nat} {parts:List (Nat×Operand)} {ps:List (Nat×List AV)} (he:br I a Γ) (hg:g=true) (hT:P.underlying T=some (.slice E)) (hE:Ty P E ag sz m zv) (dV:zv.cells.size=sz) (kh:∀u∈zv.cells.toList,u.oneCell'=true)
 (lC:len*sz<=16777216) (hp:bU (ie sz) Γ g (len*sz) parts ps):
 ∃cs,(Instr.buildSlice T len (parts.toArray.map λ(i,x)=>(i,a.eval x))).run P w=.ok (.slice (some ⟨w.heap.size,0,none⟩) len len) (w.alloc (.cells cs E))/\aC I (filled (List.replicate (len*sz) AV.any) ps) cs.toList/\cs.size=len*sz:=by
 have U:(sizeOf E).run P w=.ok sz w:=hE.size;have hz:(zeroValue E).run P w=.ok zv w:=hE.zero;have uy:∀z:Array Value,(len*sz=0\/z=zv.cells)->aC I (List.replicate (len*sz) AV.any) ((Array.range (len*sz)).map λj=>z[j%z.size]!).toList:=λz Av=>by
  have:=ux (I:=I) (cs:=((Array.range (len*sz)).map λj=>z[j%z.size]!).toList) (λc hc=>by
   rcases Av with h0|rfl
   .simp[h0] at hc
   rw[Array.mem_toList_iff,Array.mem_map] at hc;obtain⟨j,hj,rfl⟩:=hc;have ia:0<zv.cells.size:=by
    rw[dV];rcases Nat.eq_zero_or_pos sz with h|h
    .subst h;simp at hj
    exact h
   have bH:=Nat.mod_lt j ia;rw[getElem!_pos zv.cells _ bH];exact kh _ aJ)
  refine this.cast ?_ rfl;simp
 have kg:(List.replicate (len*sz) AV.any).length=len*sz:=by simp
 have n8:¬len*sz>2^24:=by omega
 by_cases h0:len*sz=0
 .obtain⟨cs,e1,e2,e3⟩:=n7 he hg hp (uy #[] (.inl h0)) kg;refine⟨cs,?_,e2,by have:=e2.length;simp at this;omega⟩;have qx:Instr.fill (λi=>some (i*sz,sz)) ((Array.range (len*sz)).map λj=>(#[]:Array Value)[j%(#[]:Array Value).size]!) (parts.map λq=>(q.1,a.eval q.2))=some cs:=e1;simp only[Instr.buildSlice,Sem.run_bind,run_underlying hT,Result.andThen_ok,U,if_neg n8,if_pos h0,Sem.run_pure,List.map_toArray,List.toList_toArray,qx,qw]
 obtain⟨cs,e1,e2,e3⟩:=n7 he hg hp (uy zv.cells (.inr rfl)) kg;refine⟨cs,?_,e2,by have:=e2.length;simp at this;omega⟩;have qx:Instr.fill (λi=>some (i*sz,sz)) ((Array.range (len*sz)).map λj=>zv.cells[j%zv.cells.size]!) (parts.map λq=>(q.1,a.eval q.2))=some cs:=e1;simp only[Instr.buildSlice,Sem.run_bind,run_underlying hT,Result.andThen_ok,U,if_neg n8,if_neg h0,hz,Sem.run_pure,List.map_toArray,List.toList_toArray,qx,qw]
def uz {ag:Bool} {sz len:Nat} {ig:List (List AV)} {parts:List (Nat×Operand)} {ps:List (Nat×List AV)} (hT:P.underlying T=some (.slice E)) (hE:Ty P E ag sz m zv) (dV:zv.cells.size=sz) (kh:∀u∈zv.cells.toList,u.oneCell'=true)
 (bf:Nat.blt 0 sz=true) (lC:Nat.ble (len*sz) 16777216=true) (hp:bU (ie sz) Γ g (len*sz) parts ps) (fM:filled (List.replicate (len*sz) AV.any) ps=ig.flatten) (hlen:ig.length=len) (hr:∀r∈ig,r.length=sz):
 Ok P H Γ g ⟨d,.buildSlice T len parts.toArray,ty,p,af,gd⟩ (.rows sz ig):=
 λbase I a w K Q he hm hw hg k=>by
  have Aw:=Nat.le_of_ble_eq_true lC;obtain⟨cs,e1,e2,e3⟩:=Au (w:=w) he hg hT hE dV kh Aw hp;unfold Oper.wp;simp only[execOp,Sem.run_bind,e1,Result.andThen_ok,Sem.run_pure,Oper.upon_value];refine k _ _ _ ⟨some ⟨w.heap.size,0,none⟩,len,by rw[hlen],by omega,?_,hr,.inr ⟨_,rfl,rfl,cs,by simp[Im.add],?_⟩,(λh=>by cases h)⟩ (Step.mu hm cs E (0,0))
  .simp only[maxLen];have h:0<sz:=by simpa using bf
   have:len*1<=len*sz:=Nat.mul_le_mul_left _ h;omega
  rw[fM] at e2;refine(e2.up (Im.mr (hm.none (Nat.le_refl _)))).cast rfl ?_;simp only[List.drop_zero];rw[List.take_of_length_le (by rw[<-e2.length];simp)]
structure lD (P:Program) (T:TypeId) (n:Nat):Prop where
 gd:P.eqGuardType P.depth T=false
 eq:∀(xs ys:List Int) (w:World),xs.length=n->ys.length=n->(Op.equalIn 10000 T (.agg (xs.map (Value.int .i64)).toArray) (.agg (ys.map (Value.int .i64)).toArray)).run P w=.ok (xs==ys) w
def n9 {I:Im} {v:Value} {xs:List Int} (h:(AV.agg (xs.map AV.int)).h I v):v=.agg (xs.map (Value.int .i64)).toArray:=by
 obtain⟨cs,e,hl⟩:=h;have key:∀(xs:List Int) (cs:List Value),aC I (xs.map AV.int) cs->cs=xs.map (Value.int .i64):=by
  intro xs;induction xs with
  |nil=>intro cs h;cases cs with
        |nil=>rfl
        |cons _ _=>exact h.elim
  |cons x xs ih=>
   intro cs h
   cases cs with
   |nil=>exact h.elim
   |cons c cs=>
    have e1:c=.int .i64 x:=h.1.1
    rw[e1,ih cs h.2];rfl
 rw[e];congr 1;apply Array.toList_inj.1;rw[key xs _ hl]
def ki (xs ys:List Int) (hT:lD P T n) (hx:xs.length=n) (kj:ys.length=n) (hy:At Γ g y (.agg (xs.map AV.int))) (hz:At Γ g z (.agg (ys.map AV.int))):
 Ok P H Γ g ⟨d,.binOp .eql T y z T',ty,p,af,gd⟩ (.bool (xs==ys)):=
 du λI a w he hg=>by
  have e1:=n9 (hy I a he hg);have e2:=n9 (hz I a he hg);simp only[execOp,e1,e2,Sem.run_bind,run_eqGuard_agg w .eql T y z _ _ hT.gd,Result.andThen_ok,run_eql_struct,hT.eq xs ys w hx kj,Sem.run_pure]
def qz (xs ys:List Int) (hT:lD P T n) (hx:xs.length=n) (kj:ys.length=n) (hy:At Γ g y (.agg (xs.map AV.int))) (hz:At Γ g z (.agg (ys.map AV.int))):
 Ok P H Γ g ⟨d,.binOp .neq T y z T',ty,p,af,gd⟩ (.bool (xs !=ys)):=
 du λI a w he hg=>by
  have e1:=n9 (hy I a he hg);have e2:=n9 (hz I a he hg);simp only[execOp,e1,e2,Sem.run_bind,run_eqGuard_agg w .neq T y z _ _ hT.gd,Result.andThen_ok,run_neq_struct,hT.eq xs ys w hx kj,Sem.run_pure];rfl
def oa {b b':Bool} (hy:At Γ g y (.bool b)) (hz:At Γ g z (.bool b')) (hT:P.underlying T=some .bool):Ok P H Γ g ⟨d,.binOp .neq T y z T',ty,p,af,gd⟩ (.bool (b !=b')):=
 du λI a w he hg=>by
  have h1:a.eval y=.bool b:=hy I a he hg;have h2:a.eval z=.bool b':=hz I a he hg;simp only[execOp,h1,h2];simp[eqGuard,binOp,Op.equal,Op.maxDepth,run_equalIn_bool' w 9999 T b b' hT];cases b<;>cases b'<;>rfl
def ob {a' b:Int} (hy:At Γ g y (.int a')) (hz:At Γ g z (.int b)) (hb:g=true->0<=a'/\0<b/\a'<=9223372036854775807):Ok P H Γ g ⟨d,.binOp .quo T y z T',ty,p,af,gd⟩ (.int (a'/b)):=
 du λI a w he hg=>by
  have h1:a.eval y=.int .i64 a':=hy I a he hg;have h2:a.eval z=.int .i64 b:=hz I a he hg;obtain⟨g1,g2,g3⟩:=hb hg;have aY:b≠0:=by omega
  have h4:a'.tdiv b=a'/b:=Int.tdiv_eq_ediv_of_nonneg g1;have h5:a'/b<=a':=Int.ediv_le_self _ g1;have h6:0<=a'/b:=Int.ediv_nonneg g1 om;have h3:IntKind.i64.wrap (a'/b)=a'/b:=IntWalk.i64_in _ om;simp only[execOp,h1,h2];simp[go_sem,eqGuard,binOp,Op.intDiv,aY,h4,h3]
def oc {a' b:Int} (hy:At Γ g y (.int a')) (hz:At Γ g z (.int b)) (hb:g=true->0<=a'/\0<b/\a'<=9223372036854775807):Ok P H Γ g ⟨d,.binOp .rem T y z T',ty,p,af,gd⟩ (.int (a'%b)):=
 du λI a w he hg=>by
  have h1:a.eval y=.int .i64 a':=hy I a he hg;have h2:a.eval z=.int .i64 b:=hz I a he hg;obtain⟨g1,g2,g3⟩:=hb hg;have aY:b≠0:=by omega
  have h4:a'.tmod b=a'%b:=Int.tmod_eq_emod_of_nonneg g1;have h5:=Int.emod_lt_of_pos a' g2;have h6:=Int.emod_nonneg a' aY;have h8:=Int.mul_ediv_add_emod a' b;have h9:0<=b*(a'/b):=Int.mul_nonneg om (Int.ediv_nonneg g1 om);have h7:a'%b<=a':=by omega
  have h3:IntKind.i64.wrap (a'%b)=a'%b:=IntWalk.i64_in _ om;simp only[execOp,h1,h2];simp[go_sem,eqGuard,binOp,Op.intDiv,aY,h4,h3]
end
section
variable {P:Program} {c:Ctx} {I:Im} {H:List Own} {Γ:Env} {a:Act} {w:World} {Q:Exit->Act->World->Prop}
def mK (tmps:Array Value) (r:ResultVar):Sem Value:=
 match r with
 |.tmp t=>pure (tmps.getD t undef)
 |.cell s t=>do loadVar t (<-asAddr (tmps.getD s undef))
def fD (P:Program) (H:List Own) (Γ:Env) (r:ResultVar) (x:AV):Prop:=
 ∀(base:Nat->Prop) I a w,br I a Γ->cx w I->aO base I w H->
  ∃v,(mK a.tmps r).run P w=.ok v w/\x.h I v
def fD.t {t:Nat} {x:AV} (h:Env.get t Γ=some x):fD P H Γ (.tmp t) x:=λ_ _ _ _ he _ _=>⟨_,rfl,he t x h⟩
def fD.nil {t:Nat} {sz:Nat} (h:Env.get t Γ=some (.val (.slice none 0 0))):fD P H Γ (.tmp t) (.rows sz []):=λ_ I a _ he _ _=>⟨_,rfl,by
 have e:a.tmps.getD t undef=_:=he t _ h;rw[e];exact c9 sz I⟩
def fD.s {s b n m:Nat} {T T':TypeId} {zv:Value} {l:List AV} (k:Nat) (hT:Ty P T true n m zv) (h:Env.get s Γ=some (.val (.pointer (some ⟨b,0,none⟩)))) (hk:H[k]?=some (Own.box b T' l)) (hn:l.length=n):fD P H Γ (.cell s T) (.agg l):=λbase I a w he _ hw=>by
 have e:a.tmps.getD s undef=_:=he s _ h;obtain⟨cs,hb,hl⟩:=(hw.all _ (List.mem_of_getElem? hk)).1;have hlen:=hl.length;have h3:∀j v,cs.toList[j]?=some v->w.cell? ((⟨b,0,none⟩:Addr).add j)=some v:=λj v hv=>by
  rw[add_plain];simp only[World.cell?,hb,Option.isSome_none,Bool.false_eq_true,if_false];simpa using hv
 refine⟨.agg cs,?_,cs,rfl,hl⟩;have:=pX hT (w:=w) (p:=⟨b,0,none⟩) (cs:=cs.toList) om h3;simp only[mK,e,asAddr,Sem.run_bind,Sem.run_pure,Result.andThen_ok];simpa using this
def fD.cc {s b m:Nat} {T T':TypeId} {zv:Value} {x:AV} (k:Nat) (hT:Ty P T false 1 m zv) (h:Env.get s Γ=some (.val (.pointer (some ⟨b,0,none⟩)))) (hk:H[k]?=some (Own.box b T' [x])):fD P H Γ (.cell s T) x:=λbase I a w he _ hw=>by
 have e:a.tmps.getD s undef=_:=he s _ h;obtain⟨cs,hb,hl⟩:=(hw.all _ (List.mem_of_getElem? hk)).1;obtain⟨u,hu,hx,_⟩:=hl.get (i:=0) (x:=x) rfl;have hc:w.cell? ⟨b,0,none⟩=some u:=by simp only[World.cell?,hb];simpa using hu
 refine⟨u,?_,hx⟩;simp only[mK,e,asAddr,Sem.run_bind,Sem.run_pure,Result.andThen_ok,nW hT hc]
def cC (P:Program) (H:List Own) (Γ:Env):List ResultVar->List AV->Prop
 |[],[]=>True
 |r::rs,x::xs=>fD P H Γ r x/\cC P H Γ rs xs
 |_,_=>False
def uA {base:Nat->Prop} (he:br I a Γ) (hm:cx w I) (hw:aO base I w H):∀{rs:List ResultVar} {xs:List AV},cC P H Γ rs xs->
 ∃vs:List Value,(rs.mapM (mK a.tmps)).run P w=.ok vs w/\bI I xs vs
 |[],[],_=>⟨[],by simp,trivial⟩
 |r::rs,x::xs,⟨h,k⟩=>by
  obtain⟨v,h1,h2⟩:=h base I a w he hm hw;obtain⟨vs,h3,h4⟩:=uA he hm hw k;refine⟨v::vs,?_,h2,h4⟩;rw[List.mapM_cons];simp only[Sem.run_bind,h1,h3,Result.andThen_ok,Sem.run_pure]
 |[],_::_,h=>h.elim
 |_::_,[],h=>h.elim
def ko:List AV->AV
 |[x]=>x
 |l=>.mo l
def St.od {fn:Func} {rs:List ResultVar} {xs:List AV} (U:St c I H Γ a w) (hr:fn.results=rs.toArray) (h:cC P H Γ rs xs):∃v,(results fn a.tmps).run P w=.ok v w/\(ko xs).h I v:=by
 obtain⟨vs,h1,h2⟩:=uA (P:=P) U.env U.step.bO U.own h;have hlen:=h2.length;have e:(results fn a.tmps).run P w=.ok (if h:vs.toArray.size=1 then vs.toArray[0] else .tuple vs.toArray) w:=by
  show(do let vs<-fn.results.mapM (mK a.tmps);pure (if h:vs.size=1 then vs[0] else .tuple vs):Sem Value).run P w=_;rw[hr,Array.mapM_eq_mapM_toList];rw[show∀(f:ResultVar->Sem Value),(List.toArray<$>(rs.toArray.toList.mapM f))=(do let l<-rs.mapM f;pure l.toArray) fromλ_=>rfl];simp only[Sem.run_bind,h1,Result.andThen_ok,Sem.run_pure]
 refine⟨_,e,?_⟩;match xs,vs,h2 with
 |[],[],_=>exact⟨#[],rfl,trivial⟩
 |[x],[v],h2=>exact h2.1
 |x::x'::xs,v::v'::vs,h2=>exact⟨(v::v'::vs).toArray,rfl,h2⟩
def St.ret {fn:Func} {rs:List ResultVar} {xs:List AV} {res:AV} (U:St c I H Γ a w) (hr:fn.results=rs.toArray) (h:cC P H Γ rs xs) (e:ko xs=res):bodyPost P fn (ka c.F c.I c.W res) .ret a w:=by
 subst e;obtain⟨v,h1,h2⟩:=U.od hr h;exact⟨U.defers,v,h1,I,U.step,h2⟩
def cC.nil:cC P H Γ [] []:=trivial
def cC.cons {r:ResultVar} {rs:List ResultVar} {x:AV} {xs:List AV} (h:fD P H Γ r x) (k:cC P H Γ rs xs):cC P H Γ (r::rs) (x::xs):=⟨h,k⟩
def AV.fn (f:FuncId) (dX:List AV):AV:=⟨λI v=>∃cs:Array Value,v=.func (.func f) #[] cs/\bI I dX cs.toList,λ_ _ _ hl ⟨cs,e,h⟩=>⟨cs,e,h.up hl⟩⟩
def ga (P:Program) (fv:AV) (args:List AV) (res:AV):Prop:=
 ∀(I:Im) (w:World) (v:Value) (vs:Array Value),cx w I->fv.h I v->bI I args vs.toList->
  ∃f first dX,v=.func (.func f) first dX/\iM P f/\Calls P f (first++vs++dX) w (pZ I w res)
def bI.append {I:Im}:∀{l m:List AV} {cs ds:List Value},bI I l cs->bI I m ds->bI I (l++m) (cs++ds)
 |[],m,[],ds,_,k=>by simpa using k
 |x::xs,m,c::cs,ds,h,k=>by simpa using⟨h.1,bI.append h.2 k⟩
 |[],_,_::_,_,h,_=>h.elim
 |_::_,_,[],_,h,_=>h.elim
def Fn.val {f:FuncId} {args dX:List AV} {res:AV} (h:Fn P f (args++dX) res):ga P (.fn f dX) args res:=λI w v vs hm ⟨cs,e,hc⟩ ha=>
 ⟨f,#[],cs,e,h.1,h.2 I w (#[]++vs++cs) hm (by simpa using ha.append hc)⟩
section
variable {d:Option Tmp} {y z:Operand} {ty T T' E:TypeId} {p:String} {af:Array Edge} {g:Bool} {gd:Option (Nat×Bool)} {n m:Nat} {zv:Value}
def qA {f:FuncId} {ys:Array Operand} {dX:List AV} (h:∀I a,br I a Γ->g=true->bI I dX (ys.map a.eval).toList):Ok P H Γ g ⟨d,.makeFunc (.func f) #[] ys,ty,p,af,gd⟩ (.fn f dX):=
 dr λ_ I a w he _ _ hg=>⟨.func (.func f) #[] (ys.map a.eval),by simp[execOp,Instr.makeFunc],_,rfl,h I a he hg⟩
def mL {fv res:AV} {ys:Array Operand} {ts:Array TypeId} {xs:List AV} (hf:ga P fv xs res) (hy:At Γ g y fv) (h:∀I a,br I a Γ->g=true->bI I xs (ys.map a.eval).toList):Ok P H Γ g ⟨d,.call ⟨.value y,ys,ts⟩,ty,p,af,gd⟩ res:=
 λbase I a w K Q he hm hw hg k=>by
  obtain⟨f,first,dX,e,mM,hc⟩:=hf I w (a.eval y) (ys.map a.eval) hm (hy I a he hg) (h I a he hg);unfold Oper.wp;have hr:(execOp a.eval (⟨d,.call ⟨.value y,ys,ts⟩,ty,p,af,gd⟩:Oper)).run P w=.ok (.enter f (first++ys.map a.eval++dX)) w:=by
   simp only[execOp,resolve,Deferred.ofValue,e,Sem.run_bind,Sem.run_pure,Result.andThen_ok,invoke,mM _ w]
  rw[hr,Oper.upon_enter];refine Calls.mono hc λe w' he=>?_;cases e with
  |returned v=>obtain⟨I',U,hx⟩:=he;exact k v I' w' hx U
  |panicked _=>exact he.elim
  |outgrown=>exact he.elim
end
section
variable {α:Type} [Inhabited α]
def ae (l:List α) (i:Nat):α:=l.getD i default
def Ax (f:α->List AV) {l:List α} {i:Nat} (h:i<l.length):nth (l.map f) i=f (ae l i):=by simp[nth,ae,List.getD,h]
def lE {l:List α} {i:Nat} (h:i<l.length):l.drop i=ae l i::l.drop (i+1):=by
 rw[List.drop_eq_getElem_cons h];simp[ae,h]
def mN {l:List α} {i:Nat} (h:i<l.length):l.take (i+1)=l.take i++[ae l i]:=by
 rw[List.take_succ_eq_append_getElem h];simp[ae,h]
def gR {d:Option Tmp} {y z:Operand} {ty T E:TypeId} {p:String} {af:Array Edge} {g:Bool} {gd:Option (Nat×Bool)} {m:Nat} {zv:Value} {s:Nat} {ag:Bool} {f:α->List AV} {l:List α} {i:Int}
 (hT:P.underlying T=some (.slice E)) (hE:Ty P E ag s m zv) (h:At Γ g y (.rows s (l.map f))) (hi:At Γ g z (.int i)) (hb:g=true->0<=i/\i<l.length):
 Ok P H Γ g ⟨d,.indexAddr T y z,ty,p,af,gd⟩ (.ptr (f (ae l i.toNat))):=
 dr λbase I a w he hm hw hg=>by
  obtain⟨h0,h1⟩:=hb hg;have e2:a.eval z=_:=hi I a he hg;obtain⟨b,off,cap,e,k⟩:=tp (h I a he hg) (i:=i.toNat) nT;rw[Ax f om] at k;refine⟨_,?_,_,rfl,k⟩;have U:(sizeOf E).run P w=.ok s w:=hE.size;have qB:i<((l.map f).length:Int):=by rw[List.length_map];exact h1
  simp only[execOp,e,e2,Instr.indexAt,asIntOf,Sem.run_bind,Sem.run_pure,Result.andThen_ok,run_underlying hT];rw[List.length_map] at*;simp[h0,h1,add_plain,U]
end
def ij {α:Type} [Inhabited α] {d:Option Tmp} {y z:Operand} {ty T E:TypeId} {p:String} {af:Array Edge} {g:Bool} {gd:Option (Nat×Bool)} {m:Nat} {zv:Value} {s:Nat} {ag:Bool} {f:α->List AV} {l:List α} {i:Nat}
 (hT:P.underlying T=some (.slice E)) (hE:Ty P E ag s m zv) (h:At Γ g y (.rows s (l.map f))) (hi:At Γ g z (.int (i:Int))) (hb:g=true->i<l.length):
 Ok P H Γ g ⟨d,.indexAddr T y z,ty,p,af,gd⟩ (.ptr (f (ae l i))):=
 gR hT hE h hi λe=>⟨by omega,by have:=hb e;omega⟩
def Ay {α:Type} {d:Option Tmp} {y:Operand} {ty T E:TypeId} {p:String} {af:Array Edge} {g:Bool} {gd:Option (Nat×Bool)} {s:Nat} {f:α->List AV} {l:List α} (hT:P.underlying T=some (.slice E)) (h:At Γ g y (.rows s (l.map f))):
 Ok P H Γ g ⟨d,.call ⟨.builtin .len,#[y],#[T]⟩,ty,p,af,gd⟩ (.int l.length):=by
 have:=pY (H:=H) (d:=d) (ty:=ty) (p:=p) (af:=af) (gd:=gd) hT h;rwa[List.length_map] at this
def mO {α:Type} {s:Nat} {f:α->List AV} {l:List α} {v:Value} (h:(AV.rows s (l.map f)).h I v):l.length<=9223372036854775807:=by
 obtain⟨_,cap,_,h1,h2,_⟩:=h;rw[List.length_map] at h1;simp only[maxLen] at h2;omega
def St.Az {t s:Nat} {l:List (List AV)} (U:St c I H Γ a w) (ht:Env.get t Γ=some (.rows s l)):l.length<=9223372036854775807:=by
 obtain⟨_,cap,_,h1,h2,_⟩:=U.env t _ ht;simp only[maxLen] at h2;omega
def St.cB {α:Type} {t s:Nat} {f:α->List AV} {l:List α} (U:St c I H Γ a w) (ht:Env.get t Γ=some (.rows s (l.map f))):l.length<=9223372036854775807:=by
 have:=U.Az ht;rwa[List.length_map] at this
def aQ {b b':Bool} (h:b=b'):ko [AV.bool b]=AV.bool b':=by rw[h];rfl
def aT {b b':Int} (h:b=b'):ko [AV.int b]=AV.int b':=by rw[h];rfl
section
variable {ops:Array Oper} {rest:List Oper} {d:Nat} {y z:Operand} {ty T T' E:TypeId} {p:String} {af:Array Edge} {g:Bool} {gd:Option (Nat×Bool)} {n m:Nat} {zv:Value}
def uB {d:Option Tmp} {q:Addr} (h:At Γ g y (.val (.pointer (some q)))):Ok P H Γ g ⟨d,.nilCheck y,ty,p,af,gd⟩ (.val (.pointer (some q))):=
 du λI a w he hg=>by
  have e:a.eval y=_:=h I a he hg;simp only[execOp,e,Sem.run_bind,Sem.run_pure,Result.andThen_ok]
def uC {d:Option Tmp} {l:List AV} (h:At Γ g y (.ptr l)):Ok P H Γ g ⟨d,.nilCheck y,ty,p,af,gd⟩ (.ptr l):=
 dr λ_ I a w he _ _ hg=>by
  obtain⟨q,e,k⟩:=h I a he hg;refine⟨_,?_,q,rfl,k⟩;simp only[execOp,e,Sem.run_bind,Sem.run_pure,Result.andThen_ok]
def St.AA {sz:Nat} {ag:Bool} (U:St c I H Γ a w) (hd:Nat.blt d c.n=true) (hT:P.underlying T=some (.slice E)) (hE:Ty P E ag sz m zv) (bf:0<sz)
 (k:∀b I a' w',St c I (H++[Own.row (.slice (some ⟨b,0,none⟩) 0 0) E sz []]) ((d,.val (.slice (some ⟨b,0,none⟩) 0 0))::Γ) a' w'->wpList P ops Q rest a' w'):
 wpList P ops Q (⟨some d,.buildSlice T 0 #[],ty,p,af,none⟩::rest) a w:=by
 have AB:(sizeOf E).run P w=.ok sz w:=hE.size;refine eN rfl ?_;have hr:(Instr.buildSlice T 0 ((#[]:Array (Nat×Operand)).map λ(i,x)=>(i,a.eval x))).run P w=.ok (.slice (some ⟨w.heap.size,0,none⟩) 0 0) (w.alloc (.cells #[] E)):=by
  simp only[Instr.buildSlice,Sem.run_bind,run_underlying hT,Result.andThen_ok,AB];have e0:Array.range 0=#[]:=rfl;simp[Instr.fill,qw,e0]
 unfold Oper.wp;simp only[execOp,Sem.run_bind,hr,Result.andThen_ok,Sem.run_pure,Oper.upon_value];have s1:=Step.alloc U.step.bO (.cells #[] E);exact k w.heap.size I _ _ (St.ud (U.hZ (U.step.trans s1) (Im.le_refl _) (U.own.step s1) hd rfl) E (.inr ⟨⟨w.heap.size,0,none⟩,rfl,rfl⟩))
def St.uD {b cap q sz i j:Nat} {l:List (List AV)} {r:List AV} {x:AV} (k:Nat) (U:St c I H Γ a w) (hT:Ty P T false 1 m zv) (hy:At Γ true y (.val (.pointer (some ⟨b,q,none⟩)))) (hz:At Γ true z x) (hx:x.One)
 (hk:H[k]?=some (Own.row (.slice (some ⟨b,0,none⟩) l.length cap) E sz l)) (hr:l[i]?=some r) (hq:q=i*sz+j) (hj:Nat.ble (j+1) sz=true)
 (kk:∀a' w',St c I (H.set k (Own.row (.slice (some ⟨b,0,none⟩) l.length cap) E sz (l.set i (cm r j [x])))) Γ a' w'->wpList P ops Q rest a' w'):
 wpList P ops Q (⟨none,.store T y z,ty,p,af,none⟩::rest) a w:=by
 have hv:=hz I a U.env rfl;have hc:=n5 (hx _ _ hv);obtain⟨w',dM,bj⟩:=U.uq (q:=q) (lx:=[x]) (v:=a.eval z) k hT hk (by rw[hc];exact⟨⟨hv,hx _ _ hv⟩,trivial⟩) rfl hr hq (Nat.le_of_ble_eq_true hj);exact eN rfl (mE (hy I a U.env rfl) rfl dM (kk _ _ bj))
def St.qC {b cap q sz i:Nat} {l:List (List AV)} {r lx:List AV} (k:Nat) (U:St c I H Γ a w) (hT:Ty P T true sz m zv) (hy:At Γ true y (.val (.pointer (some ⟨b,q,none⟩)))) (hz:At Γ true z (.agg lx))
 (hk:H[k]?=some (Own.row (.slice (some ⟨b,0,none⟩) l.length cap) E sz l)) (hr:l[i]?=some r) (hq:q=i*sz) (hn:lx.length=sz)
 (kk:∀a' w',St c I (H.set k (Own.row (.slice (some ⟨b,0,none⟩) l.length cap) E sz (l.set i lx))) Γ a' w'->wpList P ops Q rest a' w'):
 wpList P ops Q (⟨none,.store T y z,ty,p,af,none⟩::rest) a w:=by
 obtain⟨cs,hv,hl⟩:=hz I a U.env rfl;obtain⟨w',dM,bj⟩:=U.uq (q:=q) (lx:=lx) (j:=0) (v:=a.eval z) k hT hk (by rw[hv];exact hl) hn hr (by rw[hq];rfl) om;refine eN rfl (mE (hy I a U.env rfl) rfl dM (kk _ _ ?_));have bf:r.length=sz:=((U.own.all _ (List.mem_of_getElem? hk)).1.1) r (List.mem_of_getElem? hr);have e:cm r 0 lx=lx:=by simp[cm];omega
 rwa[e] at bj
end
end
end Go.Proofs.YtldbakcpcfdlaaaGreat

/- Part 2: rules of the proofs. -/
import Derived.Test.YtldbakcpcfdlaaaGreatA01
set_option linter.all false
namespace Go.Proofs.YtldbakcpcfdlaaaGreat
open Go Go.RowKit
def zI {α:Type} {l:List α} {i:Nat} {x:α} (h:l[i]?=some x):l.set i x=l:=by
 obtain⟨hi,rfl⟩:=List.getElem?_eq_some_iff.1 h;exact List.set_getElem_self hi
def Rk {H:List Own} {i k b:Nat} {x y:Own} (h:H.Pairwise kz) (bH:i≠k) (hi:H[i]?=some y) (hk:H[k]?=some x) (hy:y.fh b) (hx:x.fh b):False:=wX h bH hi hk b hy hx
section
variable {P:Program} {c:Ctx} {I:Im} {H:List Own} {Γ:Env} {a:Act} {w:World} {Q:Exit->Act->World->Prop} {ops:Array Oper} {rest:List Oper}
variable {d:Nat} {y z:Operand} {ty T T' E:TypeId} {p:String} {af:Array Edge} {g:Bool} {gd:Option (Nat×Bool)} {n m:Nat} {zv:Value}
def St.freeze {x:Own} {b:Nat} {cs:Array Value} (k:Nat) (U:St c I H Γ a w) (hk:H[k]?=some x) (hx:x.fh b) (hb:w.heap[b]?=some (.cells cs T (0,0))):
 St c (I.add b cs) (H.set k Own.gone) Γ a w/\Im.le I (I.add b cs):=by
 obtain⟨_,h2⟩:=U.own.all x (List.mem_of_getElem? hk);obtain⟨k1,k2,k3⟩:=h2 b hx;have hle:Im.le I (I.add b cs):=Im.wL k2;refine⟨⟨⟨Im.le_trans U.step.le hle,λb' C5 I6=>?_,λb' ds e=>?_,U.step.below⟩,⟨λo ho=>?_,pe U.own.apart λb e=>e.elim⟩,U.env.up hle,U.size,U.defers⟩,hle⟩
 .unfold Im.add;rw[if_neg (λe=>by subst e;rcases k1 with h|h;exact absurd h om;exact I6 h)];exact U.step.fL b' C5 I6
 .unfold Im.add at e;split at e
  .rename_i h;subst h;cases e;exact⟨T,(0,0),hb⟩
  exact U.step.cX b' ds e
 rw[List.mem_iff_getElem?] at ho;obtain⟨i,hi⟩:=ho;have jX:k<H.length:=(List.getElem?_eq_some_iff.1 hk).1;by_cases sK:i=k
 .subst sK;rw[List.getElem?_set_self jX] at hi;cases hi;exact⟨trivial,λb e=>e.elim⟩
 rw[List.getElem?_set_ne (λe=>sK e.symm)] at hi;obtain⟨h1,h3⟩:=U.own.all o (List.mem_of_getElem? hi);refine⟨o.jd I _ w w hle (λ_ _=>rfl) h1,λb' e=>?_⟩;obtain⟨a1,a2,a3⟩:=h3 b' e;refine⟨a1,?_,a3⟩;unfold Im.add;rw[if_neg (λh=>by subst h;exact Rk U.own.apart sK hi hk e hx)];exact a2
def St.ph {v:Value} {sz:Nat} {l:List (List AV)} (k:Nat) (U:St c I H Γ a w) (hk:H[k]?=some (Own.row v E sz l)):
 ∃I',St c I' (H.set k Own.gone) Γ a w/\(AV.rows sz l).h I' v:=by
 obtain⟨⟨cF,⟨rfl,qe⟩|⟨b,cap,cur,rfl,h0,hb,h3,h4,h5,hl⟩⟩,h2⟩:=U.own.all _ (List.mem_of_getElem? hk)
 .refine⟨I,⟨U.step,⟨λo ho=>?_,pe U.own.apart λb e=>e.elim⟩,U.env,U.size,U.defers⟩,?_⟩
  .rcases List.mem_or_eq_of_mem_set ho with ho|rfl
   .exact U.own.all o ho
   exact⟨trivial,λb e=>e.elim⟩
  rcases qe with rfl|⟨q,rfl,hq⟩
  .exact fA sz I
  exact⟨some q,0,rfl,Nat.le_refl _,by simp[maxLen],λr hr=>by simp at hr,.inl rfl,(λh=>by cases h)⟩
 obtain⟨bM,hle⟩:=U.freeze k hk (b:=b) (Io om) hb;refine⟨_,bM,some ⟨b,0,none⟩,cap,rfl,h3,h4,cF,?_,(λh=>by cases h)⟩;by_cases ma:l=[]
 .exact .inl ma
 refine .inr ⟨_,rfl,rfl,cur,by simp[Im.add],(hl.up hle).cast rfl ?_⟩;simp[fM cF]
def St.I7 {b:Nat} {l:List AV} (k:Nat) (U:St c I H Γ a w) (hk:H[k]?=some (Own.box b T l)):
 ∃I',St c I' (H.set k Own.gone) Γ a w/\(AV.ptr l).h I' (.pointer (some ⟨b,0,none⟩)):=by
 obtain⟨⟨cs,hb,hl⟩,h2⟩:=U.own.all _ (List.mem_of_getElem? hk);obtain⟨bM,hle⟩:=U.freeze k hk (b:=b) rfl hb;refine⟨_,bM,⟨b,0,none⟩,rfl,rfl,cs,by simp[Im.add],(hl.up hle).cast rfl ?_⟩;have:=hl.length;simp only[List.drop_zero];rw[List.take_of_length_le om]
def St.sQ {t:Nat} {v:Value} {x:AV} (U:St c I H Γ a w) (ht:Env.get t Γ=some (.val v)) (hx:x.h I v):St c I H ((t,x)::Γ) a w:=
 ⟨U.step,U.own,λs u e=>by
  simp only[Env.get] at e;cases hb:Nat.beq t s with
  |true=>
   rw[hb] at e;simp at e;subst e
   obtain rfl:t=s:=Nat.eq_of_beq_eq_true hb
   have hv:a.tmps.getD t undef=v:=U.env t _ ht
   rw[hv];exact hx
  |false=>rw[hb] at e;exact U.env s u e,U.size,U.defers⟩
def bO.same {base:Nat->Prop} {k:Nat} {x x':Own} (h:bO base I w H) (hk:H[k]?=some x) (jq:x'.fh=x.fh) (ok:x'.ok I w):bO base I w (H.set k x'):=
 h.write hk jq rfl (λ_ _=>rfl) ok
def St.qf {b q:Nat} {l:List AV} {v:Value} {x:AV} (k:Nat) (U:St c I H Γ a w) (hk:H[k]?=some (Own.box b T l)) (hq:l[q]?=some (.val v)) (hx:x.h I v):St c I (H.set k (Own.box b T (l.set q x))) Γ a w:=by
 obtain⟨⟨cs,hb,hl⟩,_⟩:=U.own.all _ (List.mem_of_getElem? hk);refine⟨U.step,U.own.same hk rfl ⟨cs,hb,?_⟩,U.env,U.size,U.defers⟩;obtain⟨u,hu,hv,h1⟩:=hl.get hq;obtain rfl:u=v:=hv;have:=hl.set q hx h1;refine this.cast rfl ?_;exact zI hu
def St.drop (k:Nat) (U:St c I H Γ a w):St c I (H.take k) Γ a w:=
 ⟨U.step,⟨λo ho=>U.own.all o (List.mem_of_mem_take ho),U.own.apart.sublist (List.take_sublist k H)⟩,U.env,U.size,U.defers⟩
end
section
variable {P:Program} {H:List Own} {Γ:Env} {g:Bool} {d:Option Tmp} {y z z':Operand} {ty T T' E:TypeId} {p:String} {af:Array Edge} {gd:Option (Nat×Bool)} {n m:Nat} {zv:Value}
def I8 {I:Im} {sz:Nat} {l:List (List AV)} {q:Option Addr} {cap lo hi:Nat} (h:(AV.rows sz l).h I (.slice q l.length cap)) (h1:lo<=hi) (h2:hi<=l.length):
 (AV.rows sz ((l.drop lo).take (hi-lo))).h I (sliced q lo hi cap sz):=by
 obtain⟨q',mY,e,g1,g2,g3,g4,g5⟩:=h;cases e;have hlen:((l.drop lo).take (hi-lo)).length=hi-lo:=by simp;omega
 have rA:∀r∈(l.drop lo).take (hi-lo),r.length=sz:=λr hr=>g3 r (List.mem_of_mem_drop (List.mem_of_mem_take hr));refine⟨if cap-lo=0 then q else q.map (·.add (lo*sz)),cap-lo,?_,by omega,by omega,rA,?_,?_⟩
 .rw[hlen];unfold sliced;by_cases hc:cap=lo
  .rw[if_pos hc,if_pos om]
  rw[if_neg hc,if_neg om]
 .by_cases h0:hi=lo
  .left;apply List.eq_nil_of_length_eq_zero;omega
  right;have bH:l≠[]:=λe=>by subst e;simp at h2;omega
  obtain⟨⟨b,off,s⟩,rfl,kk⟩:=g4.resolve_left bH;obtain rfl:s=none:=kk.1;refine⟨⟨b,off+lo*sz,none⟩,by rw[if_neg om];simp[add_plain],?_⟩;have h3:=(kk.drop (lo*sz)).take ((hi-lo)*sz);have e1:((l.drop lo).take (hi-lo)).flatten=(l.flatten.drop (lo*sz)).take ((hi-lo)*sz):=by
   have fd:∀(l:List (List AV)) (k:Nat),(∀r∈l,r.length=sz)->(l.drop k).flatten=l.flatten.drop (k*sz):=λl=>by
    induction l with
    |nil=>intro k _;simp
    |cons x l ih=>
     intro k hl
     cases k with
     |zero=>simp
     |succ k=>
      rw[List.drop_succ_cons,ih k (λr hr=>hl r (by simp[hr])),List.flatten_cons,Nat.succ_mul,Nat.add_comm,<-hl x bt,List.drop_append]
      simp
   have ft:∀(l:List (List AV)) (k:Nat),(∀r∈l,r.length=sz)->(l.take k).flatten=l.flatten.take (k*sz):=λl=>by
    induction l with
    |nil=>intro k _;simp
    |cons x l ih=>
     intro k hl
     cases k with
     |zero=>simp
     |succ k=>
      rw[List.take_succ_cons,List.flatten_cons,ih k (λr hr=>hl r (by simp[hr])),List.flatten_cons,Nat.succ_mul,Nat.add_comm,<-hl x bt,List.take_append]
      simp
      rw[List.take_of_length_le om]
   rw[ft _ _ (λr hr=>g3 r (List.mem_of_mem_drop hr)),fd _ _ g3]
  rw[e1];exact h3
 intro hn;cases q with
 |none=>have:=g5 rfl;omega
 |some q=>split at hn<;>simp at hn
def w7 {s:Nat} {ag:Bool} {l:List (List AV)} {lo:Int} (hT:P.underlying T=some (.slice E)) (hE:Ty P E ag s m zv) (h:At Γ g y (.rows s l)) (h1:At Γ g z (.int lo)) (hb:g=true->0<=lo/\lo<=l.length):
 Ok P H Γ g ⟨d,.slice T y (some z) none none,ty,p,af,gd⟩ (.rows s (l.drop lo.toNat)):=
 fY λ_ I a w he _ _ hg=>by
  obtain⟨b0,b1⟩:=hb hg;have hy:=h I a he hg;obtain⟨q,cap,e,g1,_⟩:=id hy;rw[e] at hy;have e1:a.eval z=_:=h1 I a he hg;have U:(sizeOf E).run P w=.ok s w:=hE.size;have:=I8 (lo:=lo.toNat) (hi:=l.length) hy om om;rw[List.take_of_length_le bt] at this;refine⟨_,?_,this⟩;simp only[execOp,Option.map_some,Option.map_none,e,e1,Instr.sliceAt,Sem.run_bind,run_underlying hT,Result.andThen_ok];simp[Instr.slice,run_underlying hT,Instr.sliceBounds,run_sliceBound,b0,b1,U,sliced]
def w8 {s:Nat} {ag:Bool} {l:List (List AV)} {hi:Int} (hT:P.underlying T=some (.slice E)) (hE:Ty P E ag s m zv) (h:At Γ g y (.rows s l)) (h2:At Γ g z' (.int hi)) (hb:g=true->0<=hi/\hi<=l.length):
 Ok P H Γ g ⟨d,.slice T y none (some z') none,ty,p,af,gd⟩ (.rows s (l.take hi.toNat)):=
 fY λ_ I a w he _ _ hg=>by
  obtain⟨b1,b2⟩:=hb hg;have hy:=h I a he hg;obtain⟨q,cap,e,g1,_⟩:=id hy;rw[e] at hy;have e2:a.eval z'=_:=h2 I a he hg;have U:(sizeOf E).run P w=.ok s w:=hE.size;have:=I8 (lo:=0) (hi:=hi.toNat) hy om om;rw[List.drop_zero,Nat.sub_zero] at this;refine⟨_,?_,this⟩;have c2:hi<=(cap:Int):=by omega
  simp only[execOp,Option.map_some,Option.map_none,e,e2,Instr.sliceAt,Sem.run_bind,run_underlying hT,Result.andThen_ok];simp[Instr.slice,run_underlying hT,Instr.sliceBounds,run_sliceBound,b1,c2,U,sliced]
def Rl {l:List AV} {i:Nat} {x:AV} (h:At Γ g y (.c6 l)) (hx:l[i]?=some x):Ok P H Γ g ⟨d,.extract y i,ty,p,af,gd⟩ x:=
 fY λ_ I a w he _ _ hg=>by
  obtain⟨cs,e,hl⟩:=h I a he hg;obtain⟨v,hv,Rm⟩:=hl.get hx;refine⟨v,?_,Rm⟩;have C6:cs[i]?=some v:=by simpa using hv
  simp only[execOp,e,Instr.extract];simp[C6]
end
def At.ca {Γ:Env} {g:Bool} {cs:Array Value} {l:List AV} (h:∀I,bm I l cs.toList):At Γ g (.const (.agg cs)) (.agg l):=λI _ _ _=>⟨cs,rfl,h I⟩
def At.nil {Γ:Env} {g:Bool} {o:Operand} {sz:Nat} (h:At Γ g o (.val (.slice none 0 0))):At Γ g o (.rows sz []):=λI a he hg=>by
 have e:a.eval o=_:=h I a he hg;rw[e];exact fA sz I
def At.mono {Γ:Env} {g:Bool} {o:Operand} {x y:AV} (h:At Γ g o x) (k:∀I v,x.h I v->y.h I v):At Γ g o y:=λI a he hg=>k I _ (h I a he hg)
section
variable {P:Program} {H:List Own} {Γ:Env} {g:Bool} {d:Option Tmp} {y z z':Operand} {ty T T' E:TypeId} {p:String} {af:Array Edge} {gd:Option (Nat×Bool)} {n m:Nat} {zv:Value}
def aT (place:Nat->Option (Nat×Nat)) (Γ:Env) (g:Bool) (n:Nat):List (Nat×Operand)->List (Nat×List AV)->Prop
 |[],[]=>True
 |(i,y)::r,(o,lx)::s=>(place i=some (o,lx.length)/\o+lx.length<=n/\∀I a,cM I a Γ->g=true->bm I lx (a.eval y).cells.toList)/\aT place Γ g n r s
 |_,_=>False
def aT.nil {place:Nat->Option (Nat×Nat)}:aT place Γ g n [] []:=trivial
def aT.c {place:Nat->Option (Nat×Nat)} {i o:Nat} {x:AV} {r:List (Nat×Operand)} {s:List (Nat×List AV)} (hp:place i=some (o,1)) (ho:Nat.ble (o+1) n=true) (h:At Γ g y x) (hx:x.One) (k:aT place Γ g n r s):
 aT place Γ g n ((i,y)::r) ((o,[x])::s):=⟨⟨hp,Nat.le_of_ble_eq_true ho,λI a he hg=>by
  have e:=h I a he hg;rw[wZ (hx _ _ e)];exact⟨⟨e,hx _ _ e⟩,trivial⟩⟩,k⟩
def aT.s {place:Nat->Option (Nat×Nat)} {i o q:Nat} {lx:List AV} {r:List (Nat×Operand)} {s:List (Nat×List AV)} (hp:place i=some (o,q)) (hl:lx.length=q) (ho:Nat.ble (o+q) n=true) (h:At Γ g y (.agg lx)) (k:aT place Γ g n r s):
 aT place Γ g n ((i,y)::r) ((o,lx)::s):=⟨⟨by rw[hp,hl],by rw[hl];exact Nat.le_of_ble_eq_true ho,λI a he hg=>by
  obtain⟨cs,e,hl⟩:=h I a he hg;rw[e];exact hl⟩,k⟩
def filled (l0:List AV) (ps:List (Nat×List AV)):List AV:=ps.foldl (λl q=>dV l q.1 q.2) l0
def Rn (v:Array Value) (o:Nat):∀(cs:Array Value),o+v.size<=cs.size->(v.zipIdx.foldl (λcs (c,j)=>cs.setIfInBounds (o+j) c) cs).toList=dV cs.toList o v.toList:=by
 intro cs hle;have key:∀(l:List Value) (k:Nat) (cs:Array Value),o+k+l.length<=cs.size->((l.zipIdx k).foldl (λcs (x:Value×Nat)=>cs.setIfInBounds (o+x.2) x.1) cs).toList=dV cs.toList (o+k) l:=by
  intro l;induction l with
  |nil=>intro k cs _;simp[dV]
  |cons x l ih=>
   intro k cs hk
   simp only[List.length_cons] at hk
   rw[List.zipIdx_cons,List.foldl_cons,ih (k+1) _ fK]
   simp only[dV,Array.toList_setIfInBounds]
   apply List.ext_getElem?
   intro t
   simp only[List.getElem?_append,List.length_take,List.length_set,List.getElem?_take,List.getElem?_drop,List.getElem?_set,List.length_append,List.length_cons,Array.length_toList,List.getElem?_cons]
   (repeat' split)<;>first|rfl|omega|(congr 1;omega)|skip
 have:=key v.toList 0 cs (by simpa using hle);rw[Nat.add_zero] at this;rw[<-this];congr 1;rw[<-Array.foldl_toList];simp
def zJ {I:Im} {a:Act} {place:Nat->Option (Nat×Nat)} (he:cM I a Γ) (hg:g=true):∀{parts:List (Nat×Operand)} {ps:List (Nat×List AV)} {l0:List AV} {cs:Array Value},aT place Γ g n parts ps->bm I l0 cs.toList->l0.length=n->
 ∃iv,Instr.fill place cs (parts.map λq=>(q.1,a.eval q.2))=some iv/\bm I (filled l0 ps) iv.toList/\(filled l0 ps).length=n
 |[],[],l0,cs,_,h,hl=>⟨cs,rfl,h,hl⟩
 |(i,y)::r,(o,lx)::s,l0,cs,⟨⟨h1,h2,h3⟩,k⟩,h,hl=>by
  have hv:=h3 I a he hg;have mW:=hv.length;have aR:=h.length;have cF:(a.eval y).cells.size=lx.length:=by simpa using mW
  have je:cs.size=n:=by simp at aR;omega
  have w9:bm I (dV l0 o lx) (dV cs.toList o (a.eval y).cells.toList):=by
   simp only[dV];rw[mW];exact((h.take o).append hv).append (h.drop (o+lx.length))
  have hz:=Rn (a.eval y).cells o cs om;have Ro:(dV l0 o lx).length=n:=by simp only[dV,List.length_append,List.length_take,List.length_drop];omega
  obtain⟨iv,e1,e2,e3⟩:=zJ he hg (parts:=r) (ps:=s) (l0:=dV l0 o lx) (cs:=(a.eval y).cells.zipIdx.foldl (λcs (c,j)=>cs.setIfInBounds (o+j) c) cs) k (by rw[hz];exact w9) Ro;refine⟨iv,?_,e2,e3⟩;simp only[List.map_cons,Instr.fill,h1];rw[if_neg (by rw[cF,je];simp;omega)];exact e1
 |[],_::_,_,_,h,_,_=>h.elim
 |_::_,[],_,_,h,_,_=>h.elim
def cD (P:Program) (T:TypeId):Nat->Option (Nat×Nat):=λf=>
 (P.underlying T).bind λdd=>match dd with|.struct fs=>(fs[f]?).bind λx=>(P.info? x.type).map λi=>(x.offset,i.size)|_=>none
def I9 {pl C7:Nat->Option (Nat×Nat)}:∀(parts:List (Nat×Value)) (cs:Array Value),(∀q∈parts,pl q.1=C7 q.1)->Instr.fill pl cs parts=Instr.fill C7 cs parts
 |[],_,_=>rfl
 |(i,v)::r,cs,h=>by
  simp only[Instr.fill,h (i,v) bt];cases C7 i with
  |none=>rfl
  |some q=>simp only;split
           .rfl
           exact I9 r _ (λq hq=>h q (by simp[hq]))
def C8 (P:Program) (T:TypeId):Bool:=match P.underlying T with|some (.struct fs)=>fs.all λx=>(P.info? x.type).isSome|_=>false
def run_places {P:Program} {w:World} (fs:Array Field) (h:(fs.all λx=>(P.info? x.type).isSome)=true):
 (fs.mapM λf=>do pure (f.offset,<-sizeOf f.type):Sem (Array (Nat×Nat))).run P w=.ok (fs.map λf=>(f.offset,((P.info? f.type).map (·.size)).getD 0)) w:=by
 have key:∀(l:List Field),(∀x∈l,(P.info? x.type).isSome=true)->(l.mapM λf=>do pure (f.offset,<-sizeOf f.type):Sem (List (Nat×Nat))).run P w=.ok (l.map λf=>(f.offset,((P.info? f.type).map (·.size)).getD 0)) w:=by
  intro l;induction l with
  |nil=>intro _;simp
  |cons x l ih=>
   intro hl
   obtain⟨i,hi⟩:=Option.isSome_iff_exists.1 (hl x bt)
   have U:(sizeOf x.type).run P w=.ok i.size w:=by simp[sizeOf,typeInfo,hi]
   rw[List.mapM_cons]
   simp only[Sem.run_bind,U,Result.andThen_ok,Sem.run_pure,ih (λy hy=>hl y (by simp[hy]))]
   simp[hi]
 rw[Array.mapM_eq_mapM_toList];have h':∀x∈fs.toList,(P.info? x.type).isSome=true:=by
  intro x hx;rw[Array.all_eq_true'] at h;exact h x (by simpa using hx)
 have e:=key fs.toList h';rw[show(List.toArray<$>(fs.toList.mapM λf=>do pure (f.offset,<-sizeOf f.type):Sem (List (Nat×Nat))))=(do let l<-(fs.toList.mapM λf=>do pure (f.offset,<-sizeOf f.type):Sem (List (Nat×Nat)));pure l.toArray) from rfl];simp only[Sem.run_bind,e,Result.andThen_ok,Sem.run_pure];congr 1;apply Array.toList_inj.1;simp
def Rp {l0:List AV} {parts:List (Nat×Operand)} {ps:List (Nat×List AV)} (hT:Ty P T true n m zv) (hk:C8 P T=true) (hz:∀I,bm I l0 zv.cells.toList) (hn:l0.length=n) (hp:aT (cD P T) Γ g n parts ps):
 Ok P H Γ g ⟨d,.build T parts.toArray,ty,p,af,gd⟩ (.agg (filled l0 ps)):=
 fY λ_ I a w he _ _ hg=>by
  obtain⟨iv,e1,e2,_⟩:=zJ he hg hp (hz I) hn;refine⟨.agg iv,?_,iv,rfl,e2⟩;have w3:(zeroValue T).run P w=.ok zv w:=hT.zero;unfold C8 at hk;cases hu:P.underlying T with
  |none=>rw[hu] at hk;cases hk
  |some dd=>
   rw[hu] at hk
   cases dd with
   |struct fs=>
    simp only at hk
    have Rq:=run_places (P:=P) (w:=w) fs hk
    have C9:Instr.fill ((fs.map λf=>(f.offset,((P.info? f.type).map (·.size)).getD 0))[·]?) zv.cells (parts.map λq=>(q.1,a.eval q.2))=some iv:=by
     rw[<-e1];refine I9 _ _ λq _=>?_;simp only[cD,hu,Option.bind_some,Array.getElem?_map];cases hf:fs[q.1]? with
     |none=>rfl
     |some f=>
      have:=(Array.all_eq_true'.1 hk) f (Array.mem_of_getElem? hf)
      obtain⟨i,hi⟩:=Option.isSome_iff_exists.1 this
      simp[hi]
    simp only[execOp,Instr.build,Sem.run_bind,w3,Result.andThen_ok,run_underlying hu,Rq,Sem.run_pure,List.map_toArray,List.toList_toArray]
    rw[C9]
    rfl
   |_=>cases hk
def nH (sz:Nat):Nat->Option (Nat×Nat):=λi=>some (i*sz,sz)
def Ja {I:Im}:∀{cs:List Value},(∀c∈cs,c.oneCell'=true)->bm I (List.replicate cs.length AV.any) cs
 |[],_=>trivial
 |c::cs,h=>by
  rw[List.length_cons,List.replicate_succ];exact⟨⟨trivial,h c bt⟩,Ja (λd hd=>h d (by simp[hd]))⟩
def zK {w:World} {T:TypeId} {cs:Array Value}:(newRow T cs).run P w=.ok ⟨w.heap.size,0,none⟩ (w.alloc (.cells cs T)):=rfl
def Jb {I:Im} {a:Act} {w:World} {ag:Bool} {sz len:Nat} {parts:List (Nat×Operand)} {ps:List (Nat×List AV)} (he:cM I a Γ) (hg:g=true) (hT:P.underlying T=some (.slice E)) (hE:Ty P E ag sz m zv) (fe:zv.cells.size=sz) (nI:∀u∈zv.cells.toList,u.oneCell'=true)
 (rB:len*sz<=16777216) (hp:aT (nH sz) Γ g (len*sz) parts ps):
 ∃cs,(Instr.buildSlice T len (parts.toArray.map λ(i,x)=>(i,a.eval x))).run P w=.ok (.slice (some ⟨w.heap.size,0,none⟩) len len) (w.alloc (.cells cs E))/\bm I (filled (List.replicate (len*sz) AV.any) ps) cs.toList/\cs.size=len*sz:=by
 have U:(sizeOf E).run P w=.ok sz w:=hE.size;have hz:(zeroValue E).run P w=.ok zv w:=hE.zero;have Jc:∀z:Array Value,(len*sz=0\/z=zv.cells)->bm I (List.replicate (len*sz) AV.any) ((Array.range (len*sz)).map λj=>z[j%z.size]!).toList:=λz Rr=>by
  have:=Ja (I:=I) (cs:=((Array.range (len*sz)).map λj=>z[j%z.size]!).toList) (λc hc=>by
   rcases Rr with h0|rfl
   .simp[h0] at hc
   rw[Array.mem_toList_iff,Array.mem_map] at hc;obtain⟨j,hj,rfl⟩:=hc;have lE:0<zv.cells.size:=by
    rw[fe];rcases Nat.eq_zero_or_pos sz with h|h
    .subst h;simp at hj
    exact h
   have cj:=Nat.mod_lt j lE;rw[getElem!_pos zv.cells _ cj];exact nI _ bt)
  refine this.cast ?_ rfl;simp
 have ma:(List.replicate (len*sz) AV.any).length=len*sz:=by simp
 have zL:¬len*sz>2^24:=by omega
 by_cases h0:len*sz=0
 .obtain⟨cs,e1,e2,e3⟩:=zJ he hg hp (Jc #[] (.inl h0)) ma;refine⟨cs,?_,e2,by have:=e2.length;simp at this;omega⟩;have Da:Instr.fill (λi=>some (i*sz,sz)) ((Array.range (len*sz)).map λj=>(#[]:Array Value)[j%(#[]:Array Value).size]!) (parts.map λq=>(q.1,a.eval q.2))=some cs:=e1;simp only[Instr.buildSlice,Sem.run_bind,run_underlying hT,Result.andThen_ok,U,if_neg zL,if_pos h0,Sem.run_pure,List.map_toArray,List.toList_toArray,Da,zK]
 obtain⟨cs,e1,e2,e3⟩:=zJ he hg hp (Jc zv.cells (.inr rfl)) ma;refine⟨cs,?_,e2,by have:=e2.length;simp at this;omega⟩;have Da:Instr.fill (λi=>some (i*sz,sz)) ((Array.range (len*sz)).map λj=>zv.cells[j%zv.cells.size]!) (parts.map λq=>(q.1,a.eval q.2))=some cs:=e1;simp only[Instr.buildSlice,Sem.run_bind,run_underlying hT,Result.andThen_ok,U,if_neg zL,if_neg h0,hz,Sem.run_pure,List.map_toArray,List.toList_toArray,Da,zK]
def Db {ag:Bool} {sz len:Nat} {gH:List (List AV)} {parts:List (Nat×Operand)} {ps:List (Nat×List AV)} (hT:P.underlying T=some (.slice E)) (hE:Ty P E ag sz m zv) (fe:zv.cells.size=sz) (nI:∀u∈zv.cells.toList,u.oneCell'=true)
 (cF:Nat.blt 0 sz=true) (rB:Nat.ble (len*sz) 16777216=true) (hp:aT (nH sz) Γ g (len*sz) parts ps) (jr:filled (List.replicate (len*sz) AV.any) ps=gH.flatten) (hlen:gH.length=len) (hr:∀r∈gH,r.length=sz):
 Ok P H Γ g ⟨d,.buildSlice T len parts.toArray,ty,p,af,gd⟩ (.rows sz gH):=
 λbase I a w K Q he hm hw hg k=>by
  have Dc:=Nat.le_of_ble_eq_true rB;obtain⟨cs,e1,e2,e3⟩:=Jb (w:=w) he hg hT hE fe nI Dc hp;unfold Oper.wp;simp only[execOp,Sem.run_bind,e1,Result.andThen_ok,Sem.run_pure,Oper.upon_value];refine k _ _ _ ⟨some ⟨w.heap.size,0,none⟩,len,by rw[hlen],by omega,?_,hr,.inr ⟨_,rfl,rfl,cs,by simp[Im.add],?_⟩,(λh=>by cases h)⟩ (Step.wM hm cs E (0,0))
  .simp only[maxLen];have h:0<sz:=by simpa using cF
   have:len*1<=len*sz:=Nat.mul_le_mul_left _ h;omega
  rw[jr] at e2;refine(e2.up (Im.wL (hm.none (Nat.le_refl _)))).cast rfl ?_;simp only[List.drop_zero];rw[List.take_of_length_le (by rw[<-e2.length];simp)]
structure xa (P:Program) (T:TypeId) (n:Nat):Prop where
 gd:P.eqGuardType P.depth T=false
 eq:∀(xs ys:List Int) (w:World),xs.length=n->ys.length=n->(Op.equalIn 10000 T (.agg (xs.map (Value.int .i64)).toArray) (.agg (ys.map (Value.int .i64)).toArray)).run P w=.ok (xs==ys) w
def zM {I:Im} {v:Value} {xs:List Int} (h:(AV.agg (xs.map AV.int)).h I v):v=.agg (xs.map (Value.int .i64)).toArray:=by
 obtain⟨cs,e,hl⟩:=h;have key:∀(xs:List Int) (cs:List Value),bm I (xs.map AV.int) cs->cs=xs.map (Value.int .i64):=by
  intro xs;induction xs with
  |nil=>intro cs h;cases cs with
        |nil=>rfl
        |cons _ _=>exact h.elim
  |cons x xs ih=>
   intro cs h
   cases cs with
   |nil=>exact h.elim
   |cons c cs=>
    have e1:c=.int .i64 x:=h.1.1
    rw[e1,ih cs h.2];rfl
 rw[e];congr 1;apply Array.toList_inj.1;rw[key xs _ hl]
def lF (xs ys:List Int) (hT:xa P T n) (hx:xs.length=n) (Dd:ys.length=n) (hy:At Γ g y (.agg (xs.map AV.int))) (hz:At Γ g z (.agg (ys.map AV.int))):
 Ok P H Γ g ⟨d,.binOp .eql T y z T',ty,p,af,gd⟩ (.bool (xs==ys)):=
 gr λI a w he hg=>by
  have e1:=zM (hy I a he hg);have e2:=zM (hz I a he hg);simp only[execOp,e1,e2,Sem.run_bind,run_eqGuard_agg w .eql T y z _ _ hT.gd,Result.andThen_ok,run_eql_struct,hT.eq xs ys w hx Dd,Sem.run_pure]
def sR (xs ys:List Int) (hT:xa P T n) (hx:xs.length=n) (Dd:ys.length=n) (hy:At Γ g y (.agg (xs.map AV.int))) (hz:At Γ g z (.agg (ys.map AV.int))):
 Ok P H Γ g ⟨d,.binOp .neq T y z T',ty,p,af,gd⟩ (.bool (xs !=ys)):=
 gr λI a w he hg=>by
  have e1:=zM (hy I a he hg);have e2:=zM (hz I a he hg);simp only[execOp,e1,e2,Sem.run_bind,run_eqGuard_agg w .neq T y z _ _ hT.gd,Result.andThen_ok,run_neq_struct,hT.eq xs ys w hx Dd,Sem.run_pure];rfl
def Jd {b b':Bool} (hy:At Γ g y (.bool b)) (hz:At Γ g z (.bool b')) (hT:P.underlying T=some .bool):Ok P H Γ g ⟨d,.binOp .eql T y z T',ty,p,af,gd⟩ (.bool (b==b')):=
 gr λI a w he hg=>by
  have h1:a.eval y=.bool b:=hy I a he hg;have h2:a.eval z=.bool b':=hz I a he hg;simp only[execOp,h1,h2];simp[eqGuard,binOp,Op.equal,Op.maxDepth,run_equalIn_bool' w 9999 T b b' hT]
def De {b b':Bool} (hy:At Γ g y (.bool b)) (hz:At Γ g z (.bool b')) (hT:P.underlying T=some .bool):Ok P H Γ g ⟨d,.binOp .neq T y z T',ty,p,af,gd⟩ (.bool (b !=b')):=
 gr λI a w he hg=>by
  have h1:a.eval y=.bool b:=hy I a he hg;have h2:a.eval z=.bool b':=hz I a he hg;simp only[execOp,h1,h2];simp[eqGuard,binOp,Op.equal,Op.maxDepth,run_equalIn_bool' w 9999 T b b' hT];cases b<;>cases b'<;>rfl
def uV {a' b:Int} (hy:At Γ g y (.int a')) (hz:At Γ g z (.int b)) (hb:g=true->0<=a'/\0<b/\a'<=9223372036854775807):Ok P H Γ g ⟨d,.binOp .quo T y z T',ty,p,af,gd⟩ (.int (a'/b)):=
 gr λI a w he hg=>by
  have h1:a.eval y=.int .i64 a':=hy I a he hg;have h2:a.eval z=.int .i64 b:=hz I a he hg;obtain⟨g1,g2,g3⟩:=hb hg;have bH:b≠0:=by omega
  have h4:a'.tdiv b=a'/b:=Int.tdiv_eq_ediv_of_nonneg g1;have h5:a'/b<=a':=Int.ediv_le_self _ g1;have h6:0<=a'/b:=Int.ediv_nonneg g1 om;have h3:IntKind.i64.wrap (a'/b)=a'/b:=IntWalk.i64_in _ om;simp only[execOp,h1,h2];simp[go_sem,eqGuard,binOp,Op.intDiv,bH,h4,h3]
def rC {a' b:Int} (hy:At Γ g y (.int a')) (hz:At Γ g z (.int b)) (hb:g=true->0<=a'/\0<b/\a'<=9223372036854775807):Ok P H Γ g ⟨d,.binOp .rem T y z T',ty,p,af,gd⟩ (.int (a'%b)):=
 gr λI a w he hg=>by
  have h1:a.eval y=.int .i64 a':=hy I a he hg;have h2:a.eval z=.int .i64 b:=hz I a he hg;obtain⟨g1,g2,g3⟩:=hb hg;have bH:b≠0:=by omega
  have h4:a'.tmod b=a'%b:=Int.tmod_eq_emod_of_nonneg g1;have h5:=Int.emod_lt_of_pos a' g2;have h6:=Int.emod_nonneg a' bH;have h8:=Int.mul_ediv_add_emod a' b;have h9:0<=b*(a'/b):=Int.mul_nonneg om (Int.ediv_nonneg g1 om);have h7:a'%b<=a':=by omega
  have h3:IntKind.i64.wrap (a'%b)=a'%b:=IntWalk.i64_in _ om;simp only[execOp,h1,h2];simp[go_sem,eqGuard,binOp,Op.intDiv,bH,h4,h3]
end
section
variable {P:Program} {c:Ctx} {I:Im} {H:List Own} {Γ:Env} {a:Act} {w:World} {Q:Exit->Act->World->Prop}
def xb (tmps:Array Value) (r:ResultVar):Sem Value:=
 match r with
 |.tmp t=>pure (tmps.getD t undef)
 |.cell s t=>do loadVar t (<-asAddr (tmps.getD s undef))
def jG (P:Program) (H:List Own) (Γ:Env) (r:ResultVar) (x:AV):Prop:=
 ∀(base:Nat->Prop) I a w,cM I a Γ->dx w I->bO base I w H->
  ∃v,(xb a.tmps r).run P w=.ok v w/\x.h I v
def jG.t {t:Nat} {x:AV} (h:Env.get t Γ=some x):jG P H Γ (.tmp t) x:=λ_ _ _ _ he _ _=>⟨_,rfl,he t x h⟩
def jG.nil {t:Nat} {sz:Nat} (h:Env.get t Γ=some (.val (.slice none 0 0))):jG P H Γ (.tmp t) (.rows sz []):=λ_ I a _ he _ _=>⟨_,rfl,by
 have e:a.tmps.getD t undef=_:=he t _ h;rw[e];exact fA sz I⟩
def jG.s {s b n m:Nat} {T T':TypeId} {zv:Value} {l:List AV} (k:Nat) (hT:Ty P T true n m zv) (h:Env.get s Γ=some (.val (.pointer (some ⟨b,0,none⟩)))) (hk:H[k]?=some (Own.box b T' l)) (hn:l.length=n):jG P H Γ (.cell s T) (.agg l):=λbase I a w he _ hw=>by
 have e:a.tmps.getD s undef=_:=he s _ h;obtain⟨cs,hb,hl⟩:=(hw.all _ (List.mem_of_getElem? hk)).1;have hlen:=hl.length;have h3:∀j v,cs.toList[j]?=some v->w.cell? ((⟨b,0,none⟩:Addr).add j)=some v:=λj v hv=>by
  rw[add_plain];simp only[World.cell?,hb,Option.isSome_none,Bool.false_eq_true,if_false];simpa using hv
 refine⟨.agg cs,?_,cs,rfl,hl⟩;have:=wP hT (w:=w) (p:=⟨b,0,none⟩) (cs:=cs.toList) om h3;simp only[xb,e,asAddr,Sem.run_bind,Sem.run_pure,Result.andThen_ok];simpa using this
def jG.cc {s b m:Nat} {T T':TypeId} {zv:Value} {x:AV} (k:Nat) (hT:Ty P T false 1 m zv) (h:Env.get s Γ=some (.val (.pointer (some ⟨b,0,none⟩)))) (hk:H[k]?=some (Own.box b T' [x])):jG P H Γ (.cell s T) x:=λbase I a w he _ hw=>by
 have e:a.tmps.getD s undef=_:=he s _ h;obtain⟨cs,hb,hl⟩:=(hw.all _ (List.mem_of_getElem? hk)).1;obtain⟨u,hu,hx,_⟩:=hl.get (i:=0) (x:=x) rfl;have hc:w.cell? ⟨b,0,none⟩=some u:=by simp only[World.cell?,hb];simpa using hu
 refine⟨u,?_,hx⟩;simp only[xb,e,asAddr,Sem.run_bind,Sem.run_pure,Result.andThen_ok,wO hT hc]
def aX (P:Program) (H:List Own) (Γ:Env):List ResultVar->List AV->Prop
 |[],[]=>True
 |r::rs,x::xs=>jG P H Γ r x/\aX P H Γ rs xs
 |_,_=>False
def Je {base:Nat->Prop} (he:cM I a Γ) (hm:dx w I) (hw:bO base I w H):∀{rs:List ResultVar} {xs:List AV},aX P H Γ rs xs->
 ∃vs:List Value,(rs.mapM (xb a.tmps)).run P w=.ok vs w/\cP I xs vs
 |[],[],_=>⟨[],by simp,trivial⟩
 |r::rs,x::xs,⟨h,k⟩=>by
  obtain⟨v,h1,h2⟩:=h base I a w he hm hw;obtain⟨vs,h3,h4⟩:=Je he hm hw k;refine⟨v::vs,?_,h2,h4⟩;rw[List.mapM_cons];simp only[Sem.run_bind,h1,h3,Result.andThen_ok,Sem.run_pure]
 |[],_::_,h=>h.elim
 |_::_,[],h=>h.elim
def qg:List AV->AV
 |[x]=>x
 |l=>.c6 l
def St.xc {fn:Func} {rs:List ResultVar} {xs:List AV} (U:St c I H Γ a w) (hr:fn.results=rs.toArray) (h:aX P H Γ rs xs):∃v,(results fn a.tmps).run P w=.ok v w/\(qg xs).h I v:=by
 obtain⟨vs,h1,h2⟩:=Je (P:=P) U.env U.step.cX U.own h;have hlen:=h2.length;have e:(results fn a.tmps).run P w=.ok (if h:vs.toArray.size=1 then vs.toArray[0] else .tuple vs.toArray) w:=by
  show(do let vs<-fn.results.mapM (xb a.tmps);pure (if h:vs.size=1 then vs[0] else .tuple vs):Sem Value).run P w=_;rw[hr,Array.mapM_eq_mapM_toList];rw[show∀(f:ResultVar->Sem Value),(List.toArray<$>(rs.toArray.toList.mapM f))=(do let l<-rs.mapM f;pure l.toArray) fromλ_=>rfl];simp only[Sem.run_bind,h1,Result.andThen_ok,Sem.run_pure]
 refine⟨_,e,?_⟩;match xs,vs,h2 with
 |[],[],_=>exact⟨#[],rfl,trivial⟩
 |[x],[v],h2=>exact h2.1
 |x::x'::xs,v::v'::vs,h2=>exact⟨(v::v'::vs).toArray,rfl,h2⟩
def St.ret {fn:Func} {rs:List ResultVar} {xs:List AV} {res:AV} (U:St c I H Γ a w) (hr:fn.results=rs.toArray) (h:aX P H Γ rs xs) (e:qg xs=res):bodyPost P fn (sI c.F c.I c.W res) .ret a w:=by
 subst e;obtain⟨v,h1,h2⟩:=U.xc hr h;exact⟨U.defers,v,h1,I,U.step,h2⟩
def aX.nil:aX P H Γ [] []:=trivial
def aX.cons {r:ResultVar} {rs:List ResultVar} {x:AV} {xs:List AV} (h:jG P H Γ r x) (k:aX P H Γ rs xs):aX P H Γ (r::rs) (x::xs):=⟨h,k⟩
def AV.fn (f:FuncId) (fZ:List AV):AV:=⟨λI v=>∃cs:Array Value,v=.func (.func f) #[] cs/\cP I fZ cs.toList,λ_ _ _ hl ⟨cs,e,h⟩=>⟨cs,e,h.up hl⟩⟩
def jZ (P:Program) (fv:AV) (args:List AV) (res:AV):Prop:=
 ∀(I:Im) (w:World) (v:Value) (vs:Array Value),dx w I->fv.h I v->cP I args vs.toList->
  ∃f first fZ,v=.func (.func f) first fZ/\nG P f/\Calls P f (first++vs++fZ) w (uN I w res)
def cP.append {I:Im}:∀{l m:List AV} {cs ds:List Value},cP I l cs->cP I m ds->cP I (l++m) (cs++ds)
 |[],m,[],ds,_,k=>by simpa using k
 |x::xs,m,c::cs,ds,h,k=>by simpa using⟨h.1,cP.append h.2 k⟩
 |[],_,_::_,_,h,_=>h.elim
 |_::_,_,[],_,h,_=>h.elim
def Fn.val {f:FuncId} {args fZ:List AV} {res:AV} (h:Fn P f (args++fZ) res):jZ P (.fn f fZ) args res:=λI w v vs hm ⟨cs,e,hc⟩ ha=>
 ⟨f,#[],cs,e,h.1,h.2 I w (#[]++vs++cs) hm (by simpa using ha.append hc)⟩
section
variable {d:Option Tmp} {y z:Operand} {ty T T' E:TypeId} {p:String} {af:Array Edge} {g:Bool} {gd:Option (Nat×Bool)} {n m:Nat} {zv:Value}
def mb {f:FuncId} {ys:Array Operand} {fZ:List AV} (h:∀I a,cM I a Γ->g=true->cP I fZ (ys.map a.eval).toList):Ok P H Γ g ⟨d,.makeFunc (.func f) #[] ys,ty,p,af,gd⟩ (.fn f fZ):=
 fY λ_ I a w he _ _ hg=>⟨.func (.func f) #[] (ys.map a.eval),by simp[execOp,Instr.makeFunc],_,rfl,h I a he hg⟩
def uW {fv res:AV} {ys:Array Operand} {ts:Array TypeId} {xs:List AV} (hf:jZ P fv xs res) (hy:At Γ g y fv) (h:∀I a,cM I a Γ->g=true->cP I xs (ys.map a.eval).toList):Ok P H Γ g ⟨d,.call ⟨.value y,ys,ts⟩,ty,p,af,gd⟩ res:=
 λbase I a w K Q he hm hw hg k=>by
  obtain⟨f,first,fZ,e,sS,hc⟩:=hf I w (a.eval y) (ys.map a.eval) hm (hy I a he hg) (h I a he hg);unfold Oper.wp;have hr:(execOp a.eval (⟨d,.call ⟨.value y,ys,ts⟩,ty,p,af,gd⟩:Oper)).run P w=.ok (.enter f (first++ys.map a.eval++fZ)) w:=by
   simp only[execOp,resolve,Deferred.ofValue,e,Sem.run_bind,Sem.run_pure,Result.andThen_ok,invoke,sS _ w]
  rw[hr,Oper.upon_enter];refine Calls.mono hc λe w' he=>?_;cases e with
  |returned v=>obtain⟨I',U,hx⟩:=he;exact k v I' w' hx U
  |panicked _=>exact he.elim
  |outgrown=>exact he.elim
end
section
variable {α:Type} [Inhabited α]
def ab (l:List α) (i:Nat):α:=l.getD i default
def Jf {l:List α} {i:Nat} (h:i<l.length):l[i]?=some (ab l i):=by simp[ab,h]
def Rs (f:α->List AV) {l:List α} {i:Nat} (h:i<l.length):nth (l.map f) i=f (ab l i):=by simp[nth,ab,List.getD,h]
def j0 {l:List α} {i:Nat} (h:i<l.length):l.drop i=ab l i::l.drop (i+1):=by
 rw[List.drop_eq_getElem_cons h];simp[ab,h]
def dO {l:List α} {i:Nat} (h:i<l.length):l.take (i+1)=l.take i++[ab l i]:=by
 rw[List.take_succ_eq_append_getElem h];simp[ab,h]
def eG {d:Option Tmp} {y z:Operand} {ty T E:TypeId} {p:String} {af:Array Edge} {g:Bool} {gd:Option (Nat×Bool)} {m:Nat} {zv:Value} {s:Nat} {ag:Bool} {f:α->List AV} {l:List α} {i:Int}
 (hT:P.underlying T=some (.slice E)) (hE:Ty P E ag s m zv) (h:At Γ g y (.rows s (l.map f))) (hi:At Γ g z (.int i)) (hb:g=true->0<=i/\i<l.length):
 Ok P H Γ g ⟨d,.indexAddr T y z,ty,p,af,gd⟩ (.ptr (f (ab l i.toNat))):=
 fY λbase I a w he hm hw hg=>by
  obtain⟨h0,h1⟩:=hb hg;have e2:a.eval z=_:=hi I a he hg;obtain⟨b,off,cap,e,k⟩:=Il (h I a he hg) (i:=i.toNat) gG;rw[Rs f om] at k;refine⟨_,?_,_,rfl,k⟩;have U:(sizeOf E).run P w=.ok s w:=hE.size;have Df:i<((l.map f).length:Int):=by rw[List.length_map];exact h1
  simp only[execOp,e,e2,Instr.indexAt,asIntOf,Sem.run_bind,Sem.run_pure,Result.andThen_ok,run_underlying hT];rw[List.length_map] at*;simp[h0,h1,add_plain,U]
end
def dE {α:Type} [Inhabited α] {d:Option Tmp} {y z:Operand} {ty T E:TypeId} {p:String} {af:Array Edge} {g:Bool} {gd:Option (Nat×Bool)} {m:Nat} {zv:Value} {s:Nat} {ag:Bool} {f:α->List AV} {l:List α} {i:Nat}
 (hT:P.underlying T=some (.slice E)) (hE:Ty P E ag s m zv) (h:At Γ g y (.rows s (l.map f))) (hi:At Γ g z (.int (i:Int))) (hb:g=true->i<l.length):
 Ok P H Γ g ⟨d,.indexAddr T y z,ty,p,af,gd⟩ (.ptr (f (ab l i))):=
 eG hT hE h hi λe=>⟨by omega,by have:=hb e;omega⟩
def Rt {α:Type} {d:Option Tmp} {y:Operand} {ty T E:TypeId} {p:String} {af:Array Edge} {g:Bool} {gd:Option (Nat×Bool)} {s:Nat} {f:α->List AV} {l:List α} (hT:P.underlying T=some (.slice E)) (h:At Γ g y (.rows s (l.map f))):
 Ok P H Γ g ⟨d,.call ⟨.builtin .len,#[y],#[T]⟩,ty,p,af,gd⟩ (.int l.length):=by
 have:=wQ (H:=H) (d:=d) (ty:=ty) (p:=p) (af:=af) (gd:=gd) hT h;rwa[List.length_map] at this
def xd {α:Type} {s:Nat} {f:α->List AV} {l:List α} {v:Value} (h:(AV.rows s (l.map f)).h I v):l.length<=9223372036854775807:=by
 obtain⟨_,cap,_,h1,h2,_⟩:=h;rw[List.length_map] at h1;simp only[maxLen] at h2;omega
def St.Ru {t s:Nat} {l:List (List AV)} (U:St c I H Γ a w) (ht:Env.get t Γ=some (.rows s l)):l.length<=9223372036854775807:=by
 obtain⟨_,cap,_,h1,h2,_⟩:=U.env t _ ht;simp only[maxLen] at h2;omega
def St.eh {α:Type} {t s:Nat} {f:α->List AV} {l:List α} (U:St c I H Γ a w) (ht:Env.get t Γ=some (.rows s (l.map f))):l.length<=9223372036854775807:=by
 have:=U.Ru ht;rwa[List.length_map] at this
def bI {b b':Bool} (h:b=b'):qg [AV.bool b]=AV.bool b':=by rw[h];rfl
def eW {b b':Int} (h:b=b'):qg [AV.int b]=AV.int b':=by rw[h];rfl
section
variable {ops:Array Oper} {rest:List Oper} {d:Nat} {y z:Operand} {ty T T' E:TypeId} {p:String} {af:Array Edge} {g:Bool} {gd:Option (Nat×Bool)} {n m:Nat} {zv:Value}
def Jg {d:Option Tmp} {q:Addr} (h:At Γ g y (.val (.pointer (some q)))):Ok P H Γ g ⟨d,.nilCheck y,ty,p,af,gd⟩ (.val (.pointer (some q))):=
 gr λI a w he hg=>by
  have e:a.eval y=_:=h I a he hg;simp only[execOp,e,Sem.run_bind,Sem.run_pure,Result.andThen_ok]
def Jh {d:Option Tmp} {l:List AV} (h:At Γ g y (.ptr l)):Ok P H Γ g ⟨d,.nilCheck y,ty,p,af,gd⟩ (.ptr l):=
 fY λ_ I a w he _ _ hg=>by
  obtain⟨q,e,k⟩:=h I a he hg;refine⟨_,?_,q,rfl,k⟩;simp only[execOp,e,Sem.run_bind,Sem.run_pure,Result.andThen_ok]
def St.Rv {sz:Nat} {ag:Bool} (U:St c I H Γ a w) (hd:Nat.blt d c.n=true) (hT:P.underlying T=some (.slice E)) (hE:Ty P E ag sz m zv) (cF:0<sz)
 (k:∀b I a' w',St c I (H++[Own.row (.slice (some ⟨b,0,none⟩) 0 0) E sz []]) ((d,.val (.slice (some ⟨b,0,none⟩) 0 0))::Γ) a' w'->wpList P ops Q rest a' w'):
 wpList P ops Q (⟨some d,.buildSlice T 0 #[],ty,p,af,none⟩::rest) a w:=by
 have gI:(sizeOf E).run P w=.ok sz w:=hE.size;refine hZ rfl ?_;have hr:(Instr.buildSlice T 0 ((#[]:Array (Nat×Operand)).map λ(i,x)=>(i,a.eval x))).run P w=.ok (.slice (some ⟨w.heap.size,0,none⟩) 0 0) (w.alloc (.cells #[] E)):=by
  simp only[Instr.buildSlice,Sem.run_bind,run_underlying hT,Result.andThen_ok,gI];have e0:Array.range 0=#[]:=rfl;simp[Instr.fill,zK,e0]
 unfold Oper.wp;simp only[execOp,Sem.run_bind,hr,Result.andThen_ok,Sem.run_pure,Oper.upon_value];have s1:=Step.alloc U.step.cX (.cells #[] E);exact k w.heap.size I _ _ (St.zF (U.lC (U.step.trans s1) (Im.le_refl _) (U.own.step s1) hd rfl) E (.inr ⟨⟨w.heap.size,0,none⟩,rfl,rfl⟩))
def St.sT {b cap q sz i j:Nat} {l:List (List AV)} {r:List AV} {x:AV} (k:Nat) (U:St c I H Γ a w) (hT:Ty P T false 1 m zv) (hy:At Γ true y (.val (.pointer (some ⟨b,q,none⟩)))) (hz:At Γ true z x) (hx:x.One)
 (hk:H[k]?=some (Own.row (.slice (some ⟨b,0,none⟩) l.length cap) E sz l)) (hr:l[i]?=some r) (hq:q=i*sz+j) (hj:Nat.ble (j+1) sz=true)
 (kk:∀a' w',St c I (H.set k (Own.row (.slice (some ⟨b,0,none⟩) l.length cap) E sz (l.set i (dV r j [x])))) Γ a' w'->wpList P ops Q rest a' w'):
 wpList P ops Q (⟨none,.store T y z,ty,p,af,none⟩::rest) a w:=by
 have hv:=hz I a U.env rfl;have hc:=wZ (hx _ _ hv);obtain⟨w',ia,bM⟩:=U.C4 (q:=q) (lx:=[x]) (v:=a.eval z) k hT hk (by rw[hc];exact⟨⟨hv,hx _ _ hv⟩,trivial⟩) rfl hr hq (Nat.le_of_ble_eq_true hj);exact hZ rfl (sL (hy I a U.env rfl) rfl ia (kk _ _ bM))
def St.jf {b cap q sz i:Nat} {l:List (List AV)} {r lx:List AV} (k:Nat) (U:St c I H Γ a w) (hT:Ty P T true sz m zv) (hy:At Γ true y (.val (.pointer (some ⟨b,q,none⟩)))) (hz:At Γ true z (.agg lx))
 (hk:H[k]?=some (Own.row (.slice (some ⟨b,0,none⟩) l.length cap) E sz l)) (hr:l[i]?=some r) (hq:q=i*sz) (hn:lx.length=sz)
 (kk:∀a' w',St c I (H.set k (Own.row (.slice (some ⟨b,0,none⟩) l.length cap) E sz (l.set i lx))) Γ a' w'->wpList P ops Q rest a' w'):
 wpList P ops Q (⟨none,.store T y z,ty,p,af,none⟩::rest) a w:=by
 obtain⟨cs,hv,hl⟩:=hz I a U.env rfl;obtain⟨w',ia,bM⟩:=U.C4 (q:=q) (lx:=lx) (j:=0) (v:=a.eval z) k hT hk (by rw[hv];exact hl) hn hr (by rw[hq];rfl) om;refine hZ rfl (sL (hy I a U.env rfl) rfl ia (kk _ _ ?_));have cF:r.length=sz:=((U.own.all _ (List.mem_of_getElem? hk)).1.1) r (List.mem_of_getElem? hr);have e:dV r 0 lx=lx:=by simp[dV];omega
 rwa[e] at bM
end
end
end Go.Proofs.YtldbakcpcfdlaaaGreat

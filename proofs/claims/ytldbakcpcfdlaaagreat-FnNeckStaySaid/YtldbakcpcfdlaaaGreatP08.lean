/- Part 8: rules of the proofs. -/
import Derived.Laws.AppendOwn
import Derived.RangeFuncNested
import Derived.RangeFuncLeaves
import Derived.Test.YtldbakcpcfdlaaaGreatP07
set_option linter.all false
namespace Go.Proofs.YtldbakcpcfdlaaaGreat
open Go Go.RowKit
def Own.is (x:AV) (v:Value):Own:=⟨λ_=>False,λI _=>x.h I v,λ_ _ _ _ hl _ h=>x.up _ _ _ hl h⟩
def CA (ds:List Nat) (a:Act):Env:=ds.map λt=>(t,AV.val (a.tmps.getD t undef))
def Rb {I:Im} {a:Act}:∀ds:List Nat,dy I a (CA ds a)
 |[],t,x,e=>by simp[CA,Env.get] at e
 |s::ds,t,x,e=>by
  simp only[CA,List.map_cons,Env.get] at e;cases hb:Nat.beq s t with
  |true=>rw[hb] at e;obtain rfl:s=t:=Nat.eq_of_beq_eq_true hb;simp only[cond_true,Option.some.injEq] at e;subst e;exact(rfl:a.tmps.getD s undef=a.tmps.getD s undef)
  |false=>rw[hb] at e;exact Rb ds t x (by simpa[CA] using e)
section
variable {P:Program} {c:Ctx} {I:Im} {H:List Own} {Γ:Env} {a:Act} {w:World} {Q:Exit->Act->World->Prop} {ops:Array Oper} {rest os:List Oper} {Hf:List (EA->Own)} {ms:Meta} {E:TypeId} {sz:Nat} {l:List (List AV)} {v:Value} {x:AV}
def St.nf {H':List Own} (U:St c I H Γ a w) (h:H=H':=by first|(simp only[fill,hole,List.set_cons_zero,List.set_cons_succ,List.cons_append,List.nil_append,List.append_nil];exact rfl)|exact rfl):St c I H' Γ a w:=h▸U
def St.abw (U:St c I H Γ a w) (h:x.h I v):St c I (H++[Own.is x v]) Γ a w:=
 ⟨U.step,⟨λy hy=>by
  rcases List.mem_append.1 hy with hy|hy
  .exact U.own.all y hy
  .obtain rfl:=by simpa using hy
   exact⟨h,λb e=>by cases e⟩,
  by rw[List.pairwise_append];exact⟨U.own.apart,by simp,λy _ z hz b _ e=>by obtain rfl:z=_:=List.mem_singleton.1 hz;exact e.elim⟩⟩,U.env,U.size,U.defers⟩
def bc.pG {d:Nat} {f:FuncId} {ys:Array Operand} {ts:Array TypeId} {ty:TypeId} {p:String} {af:Array Edge} {xs:List AV} (k:Nat) (hk:Hf[k]?=some λ_=>Own.gone) (hd:Nat.blt d c.n=true) (hf:kQ P f xs E sz l)
 (jd:∀I a,dy I a (Γ.only ((⟨some d,.call ⟨.value (.func f),ys,ts⟩,ty,p,af,none⟩:Oper).looksAt ops))->true=true->dE I xs (ys.map a.eval).toList)
 (r:bc P c ops Q ((d,AV.nx)::Γ) (Hf.set k λa=>Own.row (a.tmps.getD d undef) E sz l) os ms):bc P c ops Q Γ Hf (⟨some d,.call ⟨.value (.func f),ys,ts⟩,ty,p,af,none⟩::os) (([k],some (k,[d]))::ms):=
 bc.cons (u:=some ⟨k,[d],λa=>Own.row (a.tmps.getD d undef) E sz l⟩) (x:=AV.nx) (wF (g:=λv=>Own.row v E sz l) λv v' e=>e▸rfl) (λF W0 I0 I γ a w Q U kk=>by
  refine U.pG hf jd hd λI' v a' w' cH=>?_;have hv:a'.tmps.getD d undef=v:=cH.env d (.val v) (by simp[Env.get]);have fH:=cH.Cm k (mP hk);have x8:=fH.own.all (Own.row v E sz l) (List.mem_of_getElem? (i:=k) (by rw[List.getElem?_set_self (List.getElem?_eq_some_iff.1 (mP (a:=ea a γ) (F:=F) hk)).1]));have h1:v.oneCell'=true:=by
   obtain⟨_,⟨_,rfl|⟨q,rfl,_⟩⟩|⟨b,cap,cur,rfl,_⟩⟩:=x8.1<;>rfl
  have oD:St ⟨W0.1,I0,c.n,W0.2⟩ I' ((fq [k] (ea a γ) F 0 Hf).set k (Own.row v E sz l)) ((d,AV.nx)::Γ.only ((⟨some d,.call ⟨.value (.func f),ys,ts⟩,ty,p,af,none⟩:Oper).looksAt ops)) a' w':=
   ⟨fH.step,fH.own,λt y e=>by
    simp only[Env.get] at e;cases hb:Nat.beq d t with
    |true=>rw[hb] at e;obtain rfl:d=t:=Nat.eq_of_beq_eq_true hb;simp at e;subst e;rw[hv];exact h1
    |false=>rw[hb] at e;exact fH.env t y (by simp only[Env.get,hb];exact e),fH.size,fH.defers⟩
  exact kk γ (λ_ _=>rfl) I' a' w' (oD.pass (pF (a':=ea a' γ) (f:=λa=>Own.row (a.tmps.getD d undef) E sz l) (by rw[hv])))) r
def bc.JS {o:Oper} {d:Nat} (k:Nat) (ds:List Nat) (y:EA->AV) (hk:Hf[k]?=some λ_=>Own.gone) (hg:o.guard=none) (ho:o.dst=some d) (hd:Nat.blt d c.n=true) (hx:∀a a':EA,(∀t∈ds,a.tmps.getD t undef=a'.tmps.getD t undef)->y a=y a') (eW:ds.contains d=false)
 (h:∀{γ:Nat->Own} F a I,dy I a (Γ.only (o.looksAt ops))->Ok P (fq [k] (ea a γ) F 0 Hf) (CA ds a++Γ.only (o.looksAt ops)) true o (y (ea a γ)))
 (r:bc P c ops Q ((d,AV.any)::Γ) (Hf.set k λa=>Own.is (y a) (a.tmps.getD d undef)) os ms):bc P c ops Q Γ Hf (o::os) (([k],some (k,d::ds))::ms):=
 bc.cons (u:=some ⟨k,d::ds,λa=>Own.is (y a) (a.tmps.getD d undef)⟩) (x:=AV.any) (λv e=>by
  cases e;intro a a' hh;show Own.is (y a) _=Own.is (y a') _;rw[hx a a' λt ht=>(hh t (List.mem_cons_of_mem _ ht)).1,(hh d bn).1]) (λF W0 I0 I γ a w Q U kk=>by
  unfold wpList;rw[if_pos (by simp[Region.wanted,hg])];refine .inl (h F a I U.env _ I a w _ _ ((Rb ds).append U.env) U.step.dF U.own rfl λv I' w' hv s=>?_);rw[ho];have ko:d<c.n:=by simpa using hd
  have db:=U.size;have cH:=U.put (d:=d) (x:=AV.any) (v:=v) ko trivial s;have JT:(a.put (some d) v).tmps.getD d undef=v:=by simp[Act.put,db,ko]
  have Rc:y (ea (a.put (some d) v) γ)=y (ea a γ):=hx _ _ λt ht=>by
   have aW:d≠t:=λe=>by
    subst e;have:ds.contains d=true:=by simpa using ht
    rw[eW] at this;cases this
   simp[Act.put,aW]
  have fH:=(cH.abw (x:=y (ea a γ)) (v:=v) hv).Cm k (mP hk);refine kk γ (λ_ _=>rfl) I' (a.put (some d) v) w' (St.pass (H:=(fq [k] (ea a γ) F 0 Hf).set k (Own.is (y (ea a γ)) v)) ?_ (pF (a':=ea (a.put (some d) v) γ) (f:=λa=>Own.is (y a) (a.tmps.getD d undef)) (by rw[JT,Rc])));rw[ho];exact fH) (by rw[ho];exact r)
def abx {g:Bool}:At Γ g (.const (.slice none 0 0)) AV.bare:=λ_ _ _ _=>.inl rfl
def Ok.to {g:Bool} {o:Oper} {y:AV} (h:Ok P H Γ g o x) (e:x=y:=by rfl):Ok P H Γ g o y:=e▸h
def yj {t:Nat} (he:dy I a Γ) (h:Env.get t Γ=some AV.nx:=by rfl):(AV.val (a.tmps.getD t undef)).One:=λI v hv=>by
 obtain rfl:v=a.tmps.getD t undef:=hv;exact he t _ h
def St.JU {d:Nat} (k:Nat) (U:St c I H Γ a w) (hk:H[k]?=some (Own.is x (a.tmps.getD d undef))):St c I (H.set k Own.gone) ((d,x)::Γ) a w:=by
 have hx:=(U.own.all _ (List.mem_of_getElem? hk)).1;refine⟨U.step,⟨λo ho=>?_,uR U.own.apart λb e=>e.elim⟩,λt y e=>?_,U.size,U.defers⟩
 .rcases List.mem_or_eq_of_mem_set ho with ho|rfl
  .exact U.own.all o ho
  exact⟨trivial,λb e=>by cases e⟩
 simp only[Env.get] at e;cases hb:Nat.beq d t with
 |true=>rw[hb] at e;obtain rfl:d=t:=Nat.eq_of_beq_eq_true hb;simp at e;subst e;exact hx
 |false=>rw[hb] at e;exact U.env t y (by simpa using e)
def aby {g:Bool} {d:Option Tmp} {y z:Operand} {T T' ty:TypeId} {p:String} {af:Array Edge} {gd:Option (Nat×Bool)} {m n:Int} (hy:At Γ g y (.int m)) (hz:At Γ g z (.int n)):
 Ok P H Γ g ⟨d,.call ⟨.builtin .max,#[y,z],#[T,T']⟩,ty,p,af,gd⟩ (.int (if m<n then n else m)):=
 iS λI a w he hg=>by
  have h1:a.eval y=.int .i64 m:=hy I a he hg;have h2:a.eval z=.int .i64 n:=hz I a he hg;simp only[execOp,resolve,invoke,builtin,Sem.run_bind,Sem.run_pure,Result.andThen_ok,List.map_toArray,List.map_cons,List.map_nil,h1,h2];simp[Builtin.max_,Builtin.max2]
end
def CB {P:Program} {H:List Own} {Γ:Env} {g:Bool} {d:Option Tmp} {ty:TypeId} {p:String} {af:Array Edge} {gd:Option (Nat×Bool)} {f:FuncId} {ys:Array Operand} {ts:Array TypeId} {xs:List AV} {res:AV} (hf:g=true->Fn P f xs res) (h:∀I a,dy I a Γ->g=true->dE I xs (ys.map a.eval).toList):
 Ok P H Γ g ⟨d,.call ⟨.value (.func f),ys,ts⟩,ty,p,af,gd⟩ res:=λbase I a w K Q he hm hw hg k=>bO (hf hg) h base I a w K Q he hm hw hg k
def AV.cut (b o k:Nat):AV:=⟨λ_ v=>∃q c,v=.slice q k c/\(k=0\/q=some ⟨b,o,none⟩),λ_ _ _ _ h=>h⟩
section
variable {P:Program} {c:Ctx} {I:Im} {H:List Own} {Γ:Env} {a:Act} {w:World} {Q:Exit->Act->World->Prop} {ops:Array Oper} {rest:List Oper}
variable {d:Nat} {dd:Option Tmp} {y z z' z2:Operand} {ty T T' E E':TypeId} {p:String} {af:Array Edge} {g:Bool} {gd:Option (Nat×Bool)} {n m:Nat} {zv:Value}
def Rd {q:Option Addr} {n cap lo hi mx:Nat} {t1 t2 t3:Int} {sz:Nat} {ag:Bool} (hT:P.underlying T=some (.slice E)) (hE:Ty P E ag sz m zv) (h:At Γ g y (.val (.slice q n cap))) (h1:At Γ g z (.int t1)) (h2:At Γ g z' (.int t2)) (h3:At Γ g z2 (.int t3)) (e1:t1=lo) (e2:t2=hi) (e3:t3=mx) (tG:lo<=hi) (Jq:hi<=mx) (qv:mx<=cap):
 Ok P H Γ g ⟨some d,.slice T y (some z) (some z') (some z2),ty,p,af,gd⟩ .any:=
 ij λ_ I a w he _ _ hg=>by
  subst e1 e2 e3;have e:a.eval y=_:=h I a he hg;have e1:a.eval z=_:=h1 I a he hg;have e2:a.eval z'=_:=h2 I a he hg;have e3:a.eval z2=_:=h3 I a he hg;have U:(sizeOf E).run P w=.ok sz w:=hE.size;have c1:(lo:Int)<=(hi:Int):=by omega
  have c2:(hi:Int)<=(mx:Int):=by omega
  have c3:(mx:Int)<=(cap:Int):=by omega
  refine⟨sliced q lo hi mx sz,?_,trivial⟩;simp only[execOp,Option.map_some,Option.map_none,e,e1,e2,e3,Instr.sliceAt,Sem.run_bind,run_underlying hT,Result.andThen_ok];simp[Instr.slice,run_underlying hT,Instr.sliceBounds,run_sliceBound,tG,Jq,qv,c1,c2,c3,U,sliced]
def JV {b n cap lo sz:Nat} {t:Int} {ag:Bool} (hT:P.underlying T=some (.slice E)) (hE:Ty P E ag sz m zv) (h:At Γ g y (.val (.slice (some ⟨b,0,none⟩) n cap))) (h1:At Γ g z (.int t)) (ht:t=lo) (tG:lo<=n) (nX:n<=cap):
 Ok P H Γ g ⟨some d,.slice T y (some z) none none,ty,p,af,gd⟩ (.cut b (lo*sz) (n-lo)):=
 ij λ_ I a w he _ _ hg=>by
  subst ht;have e:a.eval y=_:=h I a he hg;have e1:a.eval z=_:=h1 I a he hg;have U:(sizeOf E).run P w=.ok sz w:=hE.size;have c1:(lo:Int)<=(n:Int):=by omega
  refine⟨.slice (if cap=lo then some ⟨b,0,none⟩ else some ⟨b,lo*sz,none⟩) (n-lo) (cap-lo),?_,_,_,rfl,?_⟩
  .simp only[execOp,Option.map_some,Option.map_none,e,e1,Instr.sliceAt,Sem.run_bind,run_underlying hT,Result.andThen_ok];simp[Instr.slice,run_underlying hT,Instr.sliceBounds,run_sliceBound,tG,c1,U,sliced,add_plain]
  split
  .exact .inl om
  exact .inr rfl
def Re {b n cap lo hi sz:Nat} {t t2:Int} {ag:Bool} (hT:P.underlying T=some (.slice E)) (hE:Ty P E ag sz m zv) (h:At Γ g y (.val (.slice (some ⟨b,0,none⟩) n cap))) (h1:At Γ g z (.int t)) (h2:At Γ g z' (.int t2)) (ht:t=lo) (Am:t2=hi) (tG:lo<=hi) (nX:hi<=cap):
 Ok P H Γ g ⟨some d,.slice T y (some z) (some z') none,ty,p,af,gd⟩ (.cut b (lo*sz) (hi-lo)):=
 ij λ_ I a w he _ _ hg=>by
  subst ht Am;have e:a.eval y=_:=h I a he hg;have e1:a.eval z=_:=h1 I a he hg;have e2:a.eval z'=_:=h2 I a he hg;have U:(sizeOf E).run P w=.ok sz w:=hE.size;have c1:(lo:Int)<=(hi:Int):=by omega
  have c2:(hi:Int)<=(cap:Int):=by omega
  refine⟨.slice (if cap=lo then some ⟨b,0,none⟩ else some ⟨b,lo*sz,none⟩) (hi-lo) (cap-lo),?_,_,_,rfl,?_⟩
  .simp only[execOp,Option.map_some,Option.map_none,e,e1,e2,Instr.sliceAt,Sem.run_bind,run_underlying hT,Result.andThen_ok];simp[Instr.slice,run_underlying hT,Instr.sliceBounds,run_sliceBound,tG,nX,c1,c2,U,sliced,add_plain]
  split
  .exact .inl om
  exact .inr rfl
def St.Rf {b i cap o2 m2 sz:Nat} {ag:Bool} {L:List (Option AV)} {xs:List AV} (k:Nat) (U:St c I H Γ a w) (hU:P.underlying T=some (.slice E)) (hE:Ty P E ag sz m zv) (hy:At Γ true y (.val (.slice (some ⟨b,0,none⟩) i cap))) (hz:At Γ true z (.cut b o2 m2)) (hk:H[k]?=some (Own.raw b E L))
 (hx:(L.drop o2).take xs.length=xs.map some) (np:xs.length=m2*sz) (B4:i+m2<=cap) (jf:i*sz+xs.length<=L.length) (hd:Nat.blt d c.n=true)
 (kk:∀{a' w'},St c I (H.set k (Own.raw b E (over L (i*sz) (xs.map some)))) ((d,.val (.slice (some ⟨b,0,none⟩) (i+m2) cap))::Γ) a' w'->wpList P ops Q rest a' w'):
 wpList P ops Q (⟨some d,.call ⟨.builtin .append,#[y,z],#[T,T]⟩,ty,p,af,none⟩::rest) a w:=by
 have e1:a.eval y=_:=hy I a U.env rfl;obtain⟨q,cc,e2,hq⟩:=hz I a U.env rfl;obtain⟨cs,h2,h3⟩:=Jm (U.own.all _ (List.mem_of_getElem? hk)).1 hx;obtain⟨⟨cur,hb,ki,sg⟩,_⟩:=U.own.all _ (List.mem_of_getElem? hk);have bq:cs.length=m2*sz:=by rw[h2.length,np]
 obtain⟨ti,hi,uV,jg,rW⟩:=hE.get;have hr:(Builtin.append_ #[T,T] ty #[.slice (some ⟨b,0,none⟩) i cap,.slice q m2 cc]).run P w=.ok (.slice (some ⟨b,0,none⟩) (i+m2) cap) (w.setRow b (over cur.toList (i*sz) cs).toArray):=by
  rcases hq with rfl|rfl
  .have JW:cs=[]:=List.length_eq_zero_iff.1 (by rw[bq,Nat.zero_mul]);subst JW;have CC:(over cur.toList (i*sz) ([]:List Value)).toArray=cur:=by simp[over]
   rw[CC,setRow_self w b cur E (0,0) hb];have IT:(Builtin.firstCells ti.size 0 (.slice q 0 cc)).run P w=.ok #[] w:=by
    cases q with
    |none=>rfl
    |some qa=>simpa using run_firstCells_some (P:=P) w ti.size 0 qa 0 cc [] bn bn
   have hr0:i<=cap:=by omega
   simp[Builtin.append_,run_underlying hU,sizeOf,typeInfo,hi,Builtin.lenOf,hr0,IT,Addr.add_lit,storeCells]
  have:=run_append_room (P:=P) w T ty E ti hU hi b i cap cur hb ⟨b,o2,none⟩ m2 cc cs (by rw[bq,uV]) h3 h2.one B4 (by rw[uV,bq,<-np,ki];exact jf);rw[uV] at this;exact this
 refine jU rfl ?_;unfold Oper.wp;simp only[execOp,resolve,invoke,builtin,Sem.run_bind,Sem.run_pure,Result.andThen_ok,List.map_toArray,List.map_cons,List.map_nil,e1,e2,hr];have cH:=U.copied k hk hb ki sg h2 jf (o:=i*sz);exact kk (cH.nW cH.step (Im.le_refl _) cH.own hd rfl)
def abA {z:Array Value} {n:Nat} (h:∀u∈z.toList,u.oneCell'=true):∀u∈(Builtin.zeroCells z n).toList,u.oneCell'=true:=λu hu=>by
 unfold Builtin.zeroCells at hu;simp only[Array.toList_map,List.mem_map] at hu;obtain⟨i,hi,rfl⟩:=hu;have hz:0<z.size:=by
  rcases Nat.eq_zero_or_pos z.size with h0|h0
  .simp[h0] at hi
  exact h0
 have bz:i%z.size<z.size:=Nat.mod_lt _ hz;rw[getElem!_pos z _ bz];exact h _ bn
def St.JX {b o k' sz:Nat} {ag:Bool} {L:List (Option AV)} (k:Nat) (U:St c I H Γ a w) (hU:P.underlying T=some (.slice E)) (hE:Ty P E ag sz m zv) (gT:zv.cells.size=sz) (rZ:∀u∈zv.cells.toList,u.oneCell'=true) (hy:At Γ true y (.cut b o k')) (hn:0<k') (hk:H[k]?=some (Own.raw b T' L)) (jf:o+k'*sz<=L.length)
 (kk:∀{a' w'},St c I (H.set k (Own.raw b T' (over L o ((List.replicate (k'*sz) AV.any).map some)))) Γ a' w'->wpList P ops Q rest a' w'):
 wpList P ops Q (⟨none,.call ⟨.builtin .clear,#[y],#[T]⟩,ty,p,af,none⟩::rest) a w:=by
 obtain⟨q,cc,e2,hq⟩:=hy I a U.env rfl;obtain rfl:=hq.resolve_left om;obtain⟨⟨cur,hb,ki,sg⟩,_⟩:=U.own.all _ (List.mem_of_getElem? hk);obtain⟨ti,hi,uV,jg,rW⟩:=hE.get;have rX:(Builtin.zeroCells zv.cells k').toList.length=k'*sz:=by rw[Array.length_toList,size_zeroCells,gT]
 have h1:=abA (n:=k') rZ;have hh:bN I (List.replicate (k'*sz) AV.any) (Builtin.zeroCells zv.cells k').toList:=by
  refine Fh (by rw[rX,List.length_replicate]) λi x hx=>?_;have lI:i<k'*sz:=by have:=(List.getElem?_eq_some_iff.1 hx).1;simpa using this
  rw[List.getElem?_replicate,if_pos lI] at hx;cases hx;have abB:i<(Builtin.zeroCells zv.cells k').toList.length:=by rw[rX];exact lI
  exact⟨_,List.getElem?_eq_getElem abB,trivial,h1 _ (List.getElem_mem _)⟩
 have bj:=run_storeCells_at P b o T' (Builtin.zeroCells zv.cells k').toList 0 cur w hb (by rw[rX,ki];simpa using jf) h1;simp only[Nat.add_zero] at bj;have hzv:(zeroValue E).run P w=.ok zv w:=by simp[zeroValue,typeInfo,hi,rW]
 have hr:(Builtin.clear_ #[T] ty #[.slice (some ⟨b,o,none⟩) k' cc]).run P w=.ok (.tuple #[]) (w.setRow b (over cur.toList o (Builtin.zeroCells zv.cells k').toList).toArray):=by
  obtain⟨j,rfl⟩:∃j,k'=j+1:=⟨k'-1,by omega⟩;simp[Builtin.clear_,run_underlying hU,hzv,bj,over]
 refine jU rfl ?_;unfold Oper.wp;simp only[execOp,resolve,invoke,builtin,Sem.run_bind,Sem.run_pure,Result.andThen_ok,List.map_toArray,List.map_cons,List.map_nil,e2,hr];exact kk (U.copied k hk hb ki sg hh (by rw[List.length_replicate];exact jf) (o:=o))
def CD (P:Program) (fv:AV) (args:List AV) (h0:List Own) (res:AV):Prop:=
 ∀(I:Im) (w:World) (v:Value) (vs:Array Value),eM w I->fv.h I v->cy (eS h0) I w h0->dE I args vs.toList->
  ∃f first iK,v=.func (.func f) first iK/\rU P f/\Calls P f (first++vs++iK) w (tI ⟨w,I,0,eS h0⟩ (λ_:Unit=>True) (λ_=>h0) (λ_=>res))
def jV.val {f:FuncId} {args iK:List AV} {h0:List Own} {res:AV} (h:jV P f (args++iK) h0 h0 res):CD P (.fn f iK) args h0 res:=λI w v vs hm ⟨cs,e,hc⟩ ho ha=>
 ⟨f,#[],cs,e,h.1,h.2 I w (#[]++vs++cs) hm ho (by simpa using ha.append hc)⟩
def Step.toF {F:Nat->Prop} {I':Im} {w':World} (h:Step I w I' w'):gw F I w I' w':=
 ⟨h.le,λb hb _=>h.dz b hb,h.dF,⟨h.below.os,h.below.tape,h.below.output,h.below.size,λk hk _=>h.below.block k hk⟩⟩
def lh.frame {fv:AV} {args:List AV} {h0:List Own} {res:AV} (h:lh P fv args res):CD P fv args h0 res:=λI w v vs hm hf ho ha=>
 let⟨f,first,iK,e,xV,hc⟩:=h I w v vs hm hf ha
 ⟨f,first,iK,e,xV,hc.mono λe w' he=>by
   cases e with
   |panicked _=>exact he.elim
   |outgrown=>exact he.elim
   |returned u=>
    obtain⟨I',U,hx⟩:=he
    exact⟨(),I',trivial,U.toF,(ho.step U).weaken λb hb=>Or.inr hb,hx⟩⟩
def St.Rg {fv res:AV} {ys:Array Operand} {ts:Array TypeId} {xs:List AV} {h0:List Own} (ks:List Nat) (U:St c I H Γ a w) (hf:CD P fv xs h0 res) (hy:At Γ true y fv) (jd:∀I a,dy I a Γ->true=true->dE I xs (ys.map a.eval).toList) (gN:ks.map (λk=>H[k]?)=h0.map some) (eW:decide ks.Nodup=true) (hd:Nat.blt d c.n=true)
 (k:∀I' a' w',St c I' (fill (hole H ks) ks h0) ((d,res)::Γ) a' w'->wpList P ops Q rest a' w'):wpList P ops Q (⟨some d,.call ⟨.value y,ys,ts⟩,ty,p,af,none⟩::rest) a w:=by
 have eW:=of_decide_eq_true eW;have eH:cy (eS h0) I w h0:=(U.own.pick gN eW).exact;obtain⟨f,first,iK,e,xV,hc⟩:=hf I w (a.eval y) (ys.map a.eval) U.step.dF (hy I a U.env rfl) eH (jd I a U.env rfl);refine jU rfl ?_;unfold Oper.wp;have hr:(execOp a.eval (⟨some d,.call ⟨.value y,ys,ts⟩,ty,p,af,none⟩:Oper)).run P w=.ok (.enter f (first++ys.map a.eval++iK)) w:=by
  simp only[execOp,resolve,Deferred.ofValue,e,Sem.run_bind,Sem.run_pure,Result.andThen_ok,invoke,xV _ w]
 rw[hr,Oper.upon_enter];refine Calls.mono hc λe w' he=>?_;cases e with
 |panicked _=>exact he.elim
 |outgrown=>exact he.elim
 |returned v=>
  obtain⟨x,I',_,bj,ho,hv⟩:=he
  exact k I' _ w' (U.Cr (h1:=λ_:Unit=>h0) (res:=λ_=>res) (x:=()) ks gN eW bj ho hv hd)
end
def Rh {α:Type} {L X:List α} {o:Nat} (h:o<=L.length):(over L o X).take o=L.take o:=by
 unfold over;rw[List.append_assoc];exact List.take_left' ig
def Ri {l:List (List AV)} {sz i:Nat} {R Y:List (Option AV)} (fi:∀r∈l,r.length=sz) (hi:i<l.length):
 (over (over (l.flatten.map some++R) (i*sz) ((l.drop (i+1)).flatten.map some)) ((i+(l.length-(i+1)))*sz) Y).take ((l.take i++l.drop (i+1)).length*sz)=(l.take i++l.drop (i+1)).flatten.map some:=by
 have hA:(l.take i).flatten.length=i*sz:=by rw[iz λr hr=>fi r (List.mem_of_mem_take hr),List.length_take,Nat.min_eq_left om]
 have hB:(l.drop (i+1)).flatten.length=(l.length-(i+1))*sz:=by rw[iz λr hr=>fi r (List.mem_of_mem_drop hr),List.length_drop]
 have hF:l.flatten.length=l.length*sz:=iz fi;have hlen:(l.take i++l.drop (i+1)).length=i+(l.length-(i+1)):=by simp;omega
 have hm:(i+(l.length-(i+1)))*sz=i*sz+(l.length-(i+1))*sz:=Nat.add_mul _ _ _;have hle:i*sz+(l.length-(i+1))*sz<=l.length*sz:=by rw[<-Nat.add_mul];exact Nat.mul_le_mul_right _ om
 rw[hlen,Rh]
 .unfold over;have h1:(l.flatten.map some++R).take (i*sz)=(l.take i).flatten.map some:=by
   have e:l.flatten=(l.take i).flatten++(l.drop i).flatten:=by rw[<-List.flatten_append,List.take_append_drop]
   rw[e,List.map_append,List.append_assoc];exact List.take_left' (by rw[List.length_map,hA])
  rw[h1,hm,<-List.map_append,<-List.flatten_append];exact List.take_left' (by rw[List.length_map,List.flatten_append,List.length_append,hA,hB])
 rw[my]<;>simp only[List.length_append,List.length_map,hF,hB]<;>omega
section
variable {P:Program} {c:Ctx} {I:Im} {H:List Own} {Γ:Env} {a:Act} {w:World} {Q:Exit->Act->World->Prop} {ops:Array Oper} {rest os:List Oper} {Hf:List (EA->Own)} {ms:Meta} {E:TypeId} {sz:Nat} {l:List (List AV)} {v:Value} {x:AV}
def bc.Fl {T ty:TypeId} {d m n:Nat} {p:String} {af:Array Edge} {zv:Value} {ag:Bool} {len:Nat} {jG:List (List AV)} {parts:List (Nat×Operand)} {ps:List (Nat×List AV)} (k:Nat) (hk:Hf[k]?=some λ_=>Own.gone) (hd:Nat.blt d c.n=true) (hT:P.underlying T=some (.slice E)) (hE:Ty P E ag n m zv) (gT:zv.cells.size=sz) (rZ:∀u∈zv.cells.toList,u.oneCell'=true)
 (db:Nat.blt 0 sz=true) (nq:Nat.blt 0 len=true) (wz:Nat.ble (len*sz) 16777216=true) (hp:aZ (qn sz) (Γ.only ((⟨some d,.buildSlice T len parts.toArray,ty,p,af,none⟩:Oper).looksAt ops)) true (len*sz) parts ps) (lE:filled (List.replicate (len*sz) AV.any) ps=jG.flatten) (hlen:jG.length=len) (hr:∀r∈jG,r.length=sz) (hn:n=sz)
 (r:bc P c ops Q ((d,AV.nx)::Γ) (Hf.set k λa=>Own.row (a.tmps.getD d undef) E sz jG) os ms):bc P c ops Q Γ Hf (⟨some d,.buildSlice T len parts.toArray,ty,p,af,none⟩::os) (([k],some (k,[d]))::ms):=
 bc.cons (u:=some ⟨k,[d],λa=>Own.row (a.tmps.getD d undef) E sz jG⟩) (x:=AV.nx) (wF (g:=λv=>Own.row v E sz jG) λv v' e=>e▸rfl) (λF W0 I0 I γ a w Q U kk=>by
  refine U.Fl hd hT hE gT rZ db nq wz hp lE hlen hr hn λb I' a' w' cH=>?_;generalize qA:Value.slice (some ⟨b,0,none⟩) len len=v at cH;have h1:v.oneCell'=true:=by rw[<-qA];rfl
  have hv:a'.tmps.getD d undef=v:=cH.env d (.val v) (by simp[Env.get]);have fH:=cH.Cm k (mP hk);have oD:St ⟨W0.1,I0,c.n,W0.2⟩ I' ((fq [k] (ea a γ) F 0 Hf).set k (Own.row v E sz jG)) ((d,AV.nx)::Γ.only ((⟨some d,.buildSlice T len parts.toArray,ty,p,af,none⟩:Oper).looksAt ops)) a' w':=
   ⟨fH.step,fH.own,λt y e=>by
    simp only[Env.get] at e;cases hb:Nat.beq d t with
    |true=>rw[hb] at e;obtain rfl:d=t:=Nat.eq_of_beq_eq_true hb;simp at e;subst e;rw[hv];exact h1
    |false=>rw[hb] at e;exact fH.env t y (by simp only[Env.get,hb];exact e),fH.size,fH.defers⟩
  exact kk γ (λ_ _=>rfl) I' a' w' (oD.pass (pF (a':=ea a' γ) (f:=λa=>Own.row (a.tmps.getD d undef) E sz jG) (by rw[hv])))) r
def abE (w:World) (d:Nat) (t e:TypeId) (q:Option Addr) (n k:Nat) (h:P.underlying t=some (.slice e)):(Op.equalIn (d+1) t (.slice q n k) (.slice none 0 0)).run P w=.ok q.isNone w:=by
 cases q<;>simp[Op.equalIn,run_underlying h]
def abF {g:Bool} {d:Option Tmp} {y z:Operand} {ty T T':TypeId} {p:String} {af:Array Edge} {gd:Option (Nat×Bool)} {q:Option Addr} {n k:Nat} (hT:P.underlying T=some (.slice E)) (hy:At Γ g y (.val (.slice q n k))) (hz:At Γ g z (.val (.slice none 0 0))):Ok P H Γ g ⟨d,.binOp .eql T y z T',ty,p,af,gd⟩ (.bool q.isNone):=
 iS λI a w he hg=>by
  have h1:a.eval y=.slice q n k:=hy I a he hg;have h2:a.eval z=.slice none 0 0:=hz I a he hg;simp only[execOp,h1,h2];simp[eqGuard,binOp,Op.equal,Op.maxDepth,abE w 9999 T E q n k hT]
def JY {v:Value} (h:(Own.row v E sz l).ok I w) (hl:l≠[]):∃b cap,v=.slice (some ⟨b,0,none⟩) l.length cap:=by
 obtain⟨_,⟨h0,_⟩|⟨b,cap,cur,e,_⟩⟩:=h
 .exact absurd h0 hl
 exact⟨b,cap,e⟩
def An:Value->Nat
 |.slice (some q) _ _=>q.block
 |_=>0
def CE {g:Bool} {d:Option Tmp} {y z:Operand} {ty T:TypeId} {p:String} {af:Array Edge} {gd:Option (Nat×Bool)} {ag:Bool} {m:Nat} {zv:Value} {i:Int} (k:Nat) (hT:P.underlying T=some (.slice E)) (hE:Ty P E ag sz m zv) (h:At Γ g y (.val v)) (hi:At Γ g z (.int i)) (hk:H[k]?=some (Own.row v E sz l)) (hb:g=true->0<=i/\i<l.length):
 Ok P H Γ g ⟨d,.indexAddr T y z,ty,p,af,gd⟩ (.val (.pointer (some ⟨An v,i.toNat*sz,none⟩))):=
 ij λbase I a w he hm hw hg=>by
  obtain⟨h0,h1⟩:=hb hg;obtain⟨b,cap,rfl⟩:=JY (hw.all _ (List.mem_of_getElem? hk)).1 (by rintro rfl;simp at h1;omega);have e:a.eval y=_:=h I a he hg;have e2:a.eval z=_:=hi I a he hg;have U:(sizeOf E).run P w=.ok sz w:=hE.size;refine⟨_,?_,rfl⟩;simp only[execOp,e,e2,Instr.indexAt,asIntOf,Sem.run_bind,Sem.run_pure,Result.andThen_ok,run_underlying hT];simp[h0,h1,add_plain,U,An]
def Rj {g:Bool} {d:Option Tmp} {y:Operand} {ty T:TypeId} {p:String} {af:Array Edge} {gd:Option (Nat×Bool)} {n m:Nat} {zv:Value} {q i j:Nat} {r:List AV} (k:Nat) (hT:Ty P T false n m zv) (h:At Γ g y (.val (.pointer (some ⟨An v,q,none⟩)))) (hk:H[k]?=some (Own.row v E sz l))
 (hr:g=true->l[i]?=some r) (hq:q=i*sz+j) (hx:r[j]?=some x) (IM:Nat.blt j sz=true):Ok P H Γ g ⟨d,.load T y,ty,p,af,gd⟩ x:=
 ij λbase I a w he hm hw hg=>by
  obtain⟨b,cap,rfl⟩:=JY (hw.all _ (List.mem_of_getElem? hk)).1 (by rintro rfl;simpa using hr hg);have e:a.eval y=_:=h I a he hg;have hj:j<sz:=by simpa using IM
  obtain⟨cs,h1,h2,h3⟩:=EZ hk hw (hr hg) hq om;obtain⟨u,hu,IN,_⟩:=h1.get (i:=0) (x:=x) (by rw[List.getElem?_drop];simpa using hx);refine⟨u,?_,IN⟩;have hc:w.cell? ⟨b,q,none⟩=some u:=h3 0 u hu;simp only[execOp,e,Instr.loadAt,Instr.sureAddr,Sem.run_bind,Sem.run_pure,Result.andThen_ok,An,BT hT hc]
def Rk {g:Bool} {d:Option Tmp} {y:Operand} {ty T:TypeId} {p:String} {af:Array Edge} {gd:Option (Nat×Bool)} {m:Nat} {zv:Value} {q i:Nat} {r:List AV} (k:Nat) (hT:Ty P T true sz m zv) (h:At Γ g y (.val (.pointer (some ⟨An v,q,none⟩)))) (hk:H[k]?=some (Own.row v E sz l))
 (hr:g=true->l[i]?=some r) (hq:q=i*sz):Ok P H Γ g ⟨d,.load T y,ty,p,af,gd⟩ (.agg r):=
 ij λbase I a w he hm hw hg=>by
  obtain⟨b,cap,rfl⟩:=JY (hw.all _ (List.mem_of_getElem? hk)).1 (by rintro rfl;simpa using hr hg);have e:a.eval y=_:=h I a he hg;obtain⟨cs,h1,h2,h3⟩:=EZ (q:=q) hk hw (hr hg) (j:=0) (by rw[hq];rfl) om;refine⟨.agg cs.toArray,?_,_,rfl,by simpa using h1⟩;have h4:∀t u,cs[t]?=some u->w.cell? ((⟨b,q,none⟩:Addr).add t)=some u:=λt u hu=>by rw[add_plain];exact h3 t u hu
  simp only[execOp,e,Instr.loadAt,Instr.sureAddr,Sem.run_bind,Sem.run_pure,Result.andThen_ok,An,BU hT om h4]
def bc.Rl {d:Nat} {f:FuncId} {ys:Array Operand} {ts:Array TypeId} {ty:TypeId} {p:String} {af:Array Edge} {xs:List AV} {ok:Value->Prop} {l2:List (List AV)} (k:Nat) (hk:Hf[k]?=some λ_=>Own.row v E sz l) (hd:Nat.blt d c.n=true) (hf:dp P f xs [Own.row v E sz l] ok (λu=>[Own.row u E sz l2]) AV.val)
 (jd:∀I a,dy I a (Γ.only ((⟨some d,.call ⟨.value (.func f),ys,ts⟩,ty,p,af,none⟩:Oper).looksAt ops))->true=true->dE I xs (ys.map a.eval).toList)
 (r:bc P c ops Q ((d,AV.nx)::Γ) (Hf.set k λa=>Own.row (a.tmps.getD d undef) E sz l2) os ms):bc P c ops Q Γ Hf (⟨some d,.call ⟨.value (.func f),ys,ts⟩,ty,p,af,none⟩::os) (([k],some (k,[d]))::ms):=
 bc.cons (u:=some ⟨k,[d],λa=>Own.row (a.tmps.getD d undef) E sz l2⟩) (x:=AV.nx) (wF (g:=λv=>Own.row v E sz l2) λv v' e=>e▸rfl) (λF W0 I0 I γ a w Q U kk=>by
  have gN:(fq [k] (ea a γ) F 0 Hf)[k]?=some (Own.row v E sz l):=mP hk;refine U.cY [k] hf jd (by simpa using gN) bn hd λv' I' a' w' _ cH=>?_;simp only[hole,fill,List.append_nil,List.set_set] at cH;have hv:a'.tmps.getD d undef=v':=cH.env d (.val v') (by simp[Env.get]);have x8:=cH.own.all (Own.row v' E sz l2) (List.mem_of_getElem? (i:=k) (by rw[List.getElem?_set_self (List.getElem?_eq_some_iff.1 gN).1]));have h1:v'.oneCell'=true:=by
   obtain⟨_,⟨_,rfl|⟨q,rfl,_⟩⟩|⟨b,cap,cur,rfl,_⟩⟩:=x8.1<;>rfl
  have oD:St ⟨W0.1,I0,c.n,W0.2⟩ I' ((fq [k] (ea a γ) F 0 Hf).set k (Own.row v' E sz l2)) ((d,AV.nx)::Γ.only ((⟨some d,.call ⟨.value (.func f),ys,ts⟩,ty,p,af,none⟩:Oper).looksAt ops)) a' w':=
   ⟨cH.step,cH.own,λt y e=>by
    simp only[Env.get] at e;cases hb:Nat.beq d t with
    |true=>rw[hb] at e;obtain rfl:d=t:=Nat.eq_of_beq_eq_true hb;simp at e;subst e;rw[hv];exact h1
    |false=>rw[hb] at e;exact cH.env t y (by simp only[Env.get,hb];exact e),cH.size,cH.defers⟩
  exact kk γ (λ_ _=>rfl) I' a' w' (oD.pass (pF (a':=ea a' γ) (f:=λa=>Own.row (a.tmps.getD d undef) E sz l2) (by rw[hv])))) r
def St.abG {t:Nat} (U:St c I H Γ a w) (ht:Env.get t Γ=some (.rows sz l)):∃q cap,(q=none->l=[])/\St c I H ((t,.val (.slice q l.length cap))::Γ) a w:=by
 obtain⟨q,cap,e,h1,h2,h3,h4,h5⟩:=U.env t _ ht;refine⟨q,cap,λhq=>?_,U.step,U.own,λs u hu=>?_,U.size,U.defers⟩
 .rcases h4 with h4|⟨q',e',_⟩
  .exact h4
  rw[hq] at e';cases e'
 simp only[Env.get] at hu;cases hb:Nat.beq t s with
 |true=>
  rw[hb] at hu;simp at hu;subst hu
  obtain rfl:t=s:=Nat.eq_of_beq_eq_true hb
  exact e
 |false=>rw[hb] at hu;exact U.env s u hu
end
end Go.Proofs.YtldbakcpcfdlaaaGreat
set_option maxHeartbeats 1000000
namespace Go.Proofs.YtldbakcpcfdlaaaGreat
open Go Go.RowKit
def yk (o:Oper):Bool:=match o.op with|.defer _=>false|_=>true
def abH {o:Oper} (h:yk o=true):∀c,o.op≠.defer c:=λc e=>by simp[yk,e] at h
section
variable {P:Program} {ops:Array Oper} {Q:Exit->Act->World->Prop} {n:Nat}
def abI {F:Fence} {m:Nat} {o:Oper} {a:Act} {N N':Act->World->Prop} {Q':Exit->Act->World->Prop} {r:Result Next} (hd:F.depth=none) (hQ:∀a w,¬Q .outgrown a w)
 (hc:∀f args w R,Calls P f args w R->CallsIn F (m-1) P f args w R) (hr:∀row args w R,Rows P row args w R->RowsIn F (m-1) P row args w R)
 (hN:∀a w,N a w->N' a w) (hq:∀c a w,Q' (.panic c) a w->Q (.panic c) a w) (Cq:∀a w,Q' .outgrown a w->Q .outgrown a w) (h:o.upon P a N Q' r):o.uponIn F m P a N' Q r:=by
 have hn:F.depth.isSome=true->1<=m:=by rw[hd];intro e;cases e
 cases r with
 |ok x w=>
  cases x with
  |value v=>exact hN _ _ h
  |skip=>exact hN _ _ h
  |defer d=>exact hN _ _ h
  |enter f args=>
   refine⟨hn,hc f args w _ (Calls.mono h λe w' he=>?_)⟩
   cases e with
   |returned v=>exact hN _ _ he
   |panicked c=>exact hq _ _ _ he
   |outgrown=>obtain⟨a0,w0,k⟩:=he;exact(hQ _ _ (Cq _ _ k)).elim
  |row row args=>exact⟨hn,hr row args w _ (Rows.mono h λv w' he=>hN _ _ he)⟩
  |_=>exact h.elim
 |halt x w=>
  cases x with
  |panic v=>exact hq _ _ _ h
  |_=>exact h.elim
def JZ {F:Fence} (hF:∀f,F.fn f) (hd:F.depth=none) (hQ:∀a w,¬Q .outgrown a w)
 (hc:∀f args w R,Calls P f args w R->CallsIn F (n-1) P f args w R) (hr:∀row args w R,Rows P row args w R->RowsIn F (n-1) P row args w R) {rest:List Oper}:
 ∀(pre:List Oper),pre.all yk=true->∀a w,wpList P ops (Exit.then (wpListIn F n P ops Q rest) Q) pre a w->wpListIn F n P ops Q (pre++rest) a w
 |[],_,a,w,h=>h
 |o::pre,hp,a,w,h=>by
  simp only[List.all_cons,Bool.and_eq_true] at hp;have ih:=JZ hF hd hQ hc hr (rest:=rest) pre hp.2;simp only[List.cons_append,wpListIn];simp only[wpList] at h;split
  .rename_i hw;rw[if_pos hw] at h;rcases h with h|⟨_,a0,w0,h⟩
   .refine⟨λf _=>hF f,?_⟩;rw[Oper.semAt_eq _ _ _ (abH hp.1)];exact abI hd hQ hc hr ih (λ_ _ _ h=>h) (λ_ _ h=>h) h
   exact(hQ _ _ h).elim
  rename_i hw;rw[if_neg hw] at h;exact⟨λf _=>hF f,ih _ _ h⟩
def FA (hQ:∀a w,¬Q .outgrown a w) {a:Act} {w:World} (rest pre:List Oper) (hp:pre.all yk=true) (h:wpList P ops (Exit.then (wpListIn Fence.wide n P ops Q rest) Q) pre a w):wpListIn Fence.wide n P ops Q (pre++rest) a w:=
 JZ (λ_=>trivial) rfl hQ (λf args w R h=>callsIn_wide.2 h) (λrow args w R h c cs _=>let⟨v,w',r,s⟩:=h c cs;⟨v,w',r,stepsIn_wide.2 s⟩) pre hp a w h
def list_round (lp:Nat) (hQ:∀a w,¬Q .outgrown a w) {a:Act} {w:World} (rest pre:List Oper) (hp:pre.all yk=true) (h:wpList P ops (Exit.then (wpListIn (Fence.wide.inRound lp) n P ops Q rest) Q) pre a w):wpListIn (Fence.wide.inRound lp) n P ops Q (pre++rest) a w:=
 JZ (λ_=>trivial) rfl hQ (λf args w R h=>CallsIn.inRound lp (callsIn_wide.2 h)) (λrow args w R h c cs _=>let⟨v,w',r,s⟩:=h c cs;⟨v,w',r,stepsIn_wide.2 s⟩) pre hp a w h
def then_self {F:Fence}:Exit.then (wpListIn F n P ops Q []) Q=Q:=by
 funext e a w;cases e<;>rfl
def Ao {id:Nat} {l:List Oper} (hQ:∀a w,¬Q .outgrown a w) {a:Act} {w:World} (hp:l.all yk=true) (h:wpList P l.toArray Q l a w):(Code.region id l.toArray false).wpIn Fence.wide n P Q a w:=
 wpIn_region_lit (by
  have:=FA (P:=P) (ops:=l.toArray) (n:=n) hQ (a:=a) (w:=w) [] l hp (by rw[then_self];exact h);simpa using this)
def J0 {id lp:Nat} {l:List Oper} (hQ:∀a w,¬Q .outgrown a w) {a:Act} {w:World} (hp:l.all yk=true) (h:wpList P l.toArray Q l a w):(Code.region id l.toArray false).wpIn (Fence.wide.inRound lp) n P Q a w:=
 wpIn_region_lit (by
  have:=list_round (P:=P) (ops:=l.toArray) (n:=n) lp hQ (a:=a) (w:=w) [] l hp (by rw[then_self];exact h);simpa using this)
def Act.defer (a:Act) (ds:List Deferred):Act:={a with defers:=a.defers++ds}
def Ap (a:Act) (ds:List Deferred) (d:Option Tmp) (v:Value):(Act.defer a ds).put d v=Act.defer (a.put d v) ds:=by
 cases d<;>rfl
def Rm (a:Act) (ds:List Deferred):(Act.defer a ds).eval=a.eval:=by
 funext o;cases o<;>rfl
def Rn (ds:List Deferred) {N:Exit->Act->World->Prop} (hN:∀e a w,Q e a w->N e (Act.defer a ds) w):
 ∀(l:List Oper) (a:Act) (w:World),wpList P ops Q l a w->wpList P ops N l (Act.defer a ds) w
 |[],a,w,h=>hN _ _ _ h
 |o::l,a,w,h=>by
  have ih:=Rn ds hN l;simp only[wpList] at h⊢;have e1:Region.wanted o (yielded ops (Act.defer a ds).tmps)=Region.wanted o (yielded ops a.tmps):=rfl;rw[e1];split
  .rename_i hw;rw[if_pos hw] at h;rcases h with h|⟨h,a0,w0,k⟩
   .refine .inl ?_;unfold Oper.wp at h⊢;rw[Rm];cases hr:(execOp a.eval o).run P w with
    |ok x w'=>
     rw[hr] at h
     cases x with
     |value v=>show wpList _ _ _ _ _ _;rw[Ap];exact ih _ _ h
     |skip=>show wpList _ _ _ _ _ _;rw[Ap];exact ih _ _ h
     |defer d=>have:=ih _ _ h;rw[<-Ap] at this;exact this
     |enter f args=>
      refine Calls.mono (show Calls _ _ _ _ _ from h) λe w' he=>?_
      cases e with
      |returned v=>show wpList _ _ _ _ _ _;rw[Ap];exact ih _ _ he
      |panicked c=>exact hN _ _ _ he
      |outgrown=>obtain⟨a0,w0,k⟩:=he;exact⟨_,_,hN _ _ _ k⟩
     |row row args=>exact Rows.mono (show Rows _ _ _ _ _ from h) λv w' he=>by show wpList _ _ _ _ _ _;rw[Ap];exact ih _ _ he
     |_=>exact h.elim
    |halt x w'=>
     rw[hr] at h
     cases x with
     |panic v=>exact hN _ _ _ h
     |_=>exact h.elim
   refine .inr ⟨?_,_,_,hN _ _ _ k⟩;unfold Oper.asks at h⊢;rw[Rm];exact h
  rename_i hw;rw[if_neg hw] at h;rw[Ap];exact ih _ _ h
end
def eM.grown {w w':World} {I:Im} {row:Option Nat} (h:eM w I) (hg:w.grownBy w' row) (hr:∀r,row=some r->∃o:Obj,w.heap[r]?=some o/\o.isCells=false):eM w' I:=λb cs e=>by
 obtain⟨T,fr,k⟩:=h b cs e;exact⟨T,fr,(grownBy_keeps_cells hg hr k rfl).trans k⟩
def abJ {F:Fence} {n:Nat} {P:Program} {Q:Exit->Act->World->Prop} {next:Act->World->Prop} {R:Ending->World->Prop} {a:Act} {w:World} {d:Tmp} {t:Operand} {ys:Array Operand} {ts:Array TypeId} {ty:TypeId} {p:String} {af:Array Edge}
 {l:Nat} {xs:Array Value} (hF:∀f,F.fn f) (hd:F.depth=none) (hv:a.eval t=.func (.yield l) #[] #[]) (hx:ys.map a.eval=xs) (hy:YieldAt F (n-1) P l xs w R)
 (k:∀e w',R e w'->∃v,e=.returned v/\next (a.put (some d) v) w'):Oper.wpIn F n P ⟨some d,.call ⟨.value t,ys,ts⟩,ty,p,af,none⟩ a w next Q:=by
 obtain⟨fn,tmps,assign,body,hr,hR⟩:=hy;refine⟨λf _=>hF f,?_⟩;rw[Oper.semAt_eq _ _ _ (λc e=>by cases e)];have kj:(execOp a.eval (⟨some d,.call ⟨.value t,ys,ts⟩,ty,p,af,none⟩:Oper)).run P w=.ok (.round l fn tmps assign body) w:=by
  simp only[execOp,resolve,hv,hx];simp[go_sem,hr]
 rw[kj];refine⟨λe=>(by rw[hd] at e;cases e),RoundIn.mono hR λe w' he=>?_⟩;obtain⟨v,rfl,h⟩:=k e w' he;exact h
def St.enter {W:World} {I:Im} {N:Nat} {F:Nat->Prop} {args:List AV} {vs:Array Value} {m:Nat} (hm:eM W I) (ha:dE I args vs.toList) (hn:vs.size+(m-vs.size)=N):
 St ⟨W,I,N,F⟩ I [] (nk 0 args) {tmps:=vs++Array.replicate (m-vs.size) undef,defers:=[]} W:=by
 refine⟨gw.refl hm,cy.nil _ _ _,?_,by simp;omega,rfl⟩;intro t x e;have:=BW args vs.toList [] (List.replicate (m-vs.size) undef) ha t x e;have heq:(vs++Array.replicate (m-vs.size) undef)=([]++vs.toList++List.replicate (m-vs.size) undef).toArray:=by
  apply Array.toList_inj.1;simp
 rw[heq];exact this
def Kept.trans {F:Nat->Prop} {A B C:World} (h:Kept F A B) (k:Kept F B C):Kept F A C:=
 ⟨k.os.trans h.os,k.tape.trans h.tape,k.output.trans h.output,Nat.le_trans h.size k.size,λi hi hf=>(k.block i (Nat.lt_of_lt_of_le hi h.size) hf).trans (h.block i hi hf)⟩
def eM.kept {F:Nat->Prop} {A B:World} {I:Im} (h:eM A I) (hF:∀b cs,I b=some cs->¬F b) (k:Kept F A B):eM B I:=λb cs e=>by
 obtain⟨T,fr,hb⟩:=h b cs e;exact⟨T,fr,(k.block b (h.lt e) (hF b cs e)).trans hb⟩
def St.FB {c:Ctx} {I:Im} {H:List Own} {Γ:Env} {a:Act} {w:World} {d:Nat} {x:AV} {v:Value} (U:St c I H Γ a w) (hd:d<c.n) (hx:x.h I v):St c I H ((d,x)::Γ) (a.put (some d) v) w:=
 ⟨U.step,U.own,U.env.put (by rw[U.size];exact hd) hx,by simp[Act.put,U.size],U.defers⟩
def abK {F:Nat->Prop} {P:Program} {f:FuncId} {fn:Func} {code:Code} {n:Nat} {I:Im} {W:World} {args:List AV} {vs:Array Value} {R:Ending->World->Prop} (N:Nat) (hf:P.funcs[f]?=some fn) (hb:fn.body=some code) (hn:fn.ntmps=N)
 (hN:Nat.ble args.length N=true) (hm:eM W I) (ha:dE I args vs.toList) (h:∀a,St ⟨W,I,N,F⟩ I [] (nk 0 args) a W->code.wpIn Fence.wide n P (bodyPost P fn R) a W):CallsIn Fence.wide n P f vs W R:=
 callsIn_of_wp hf hb trivial (h _ (St.enter hm ha (by have h1:=ha.length;have h2:=Nat.le_of_ble_eq_true hN;rw[Array.length_toList] at h1;omega)))
def abL {F:Nat->Prop} {P:Program} {f:FuncId} {fn:Func} {code:Code} {n:Nat} {I:Im} {W:World} {args:List AV} {vs:Array Value} {R:Ending->World->Prop} (N:Nat) (hf:P.funcs[f]?=some fn) (hb:fn.body=some code) (hn:fn.ntmps=N)
 (hN:Nat.ble args.length N=true) (hm:eM W I) (ha:dE I args vs.toList) (h:∀a,St ⟨W,I,N,F⟩ I [] (nk 0 args) a W->code.wpIn Fence.wide n P (bodyPostM Fence.wide n P fn R) a W):CallsIn Fence.wide n P f vs W R:=
 callsIn_of_wp_marks hf hb trivial (h _ (St.enter hm ha (by have h1:=ha.length;have h2:=Nat.le_of_ble_eq_true hN;rw[Array.length_toList] at h1;omega)))
def J1:∀{l:List (Nat×Value)} {t:Nat} {x:AV},Env.get t (l.map λp=>(p.1,AV.val p.2))=some x->∃v,(t,v)∈l/\x=.val v
 |[],t,x,e=>by simp[Env.get] at e
 |p::l,t,x,e=>by
  simp only[List.map_cons,Env.get] at e;cases hb:Nat.beq p.1 t with
  |true=>
   rw[hb] at e
   obtain rfl:p.1=t:=Nat.eq_of_beq_eq_true hb
   exact⟨p.2,by simp,(Option.some.inj e).symm⟩
  |false=>
   rw[hb] at e
   obtain⟨v,h1,h2⟩:=J1 (l:=l) e
   exact⟨v,List.mem_cons_of_mem _ h1,h2⟩
def St.base {c:Ctx} {I:Im} {H:List Own} {Γ:Env} {a:Act} {w:World} (l:List (Nat×Value)) (U:St c I H Γ a w) (hl:l.map (λp=>Env.get p.1 Γ)=l.map (λp=>some (AV.val p.2)):=by rfl):St ⟨w,c.I,c.n,lV⟩ c.I [] (l.map λp=>(p.1,AV.val p.2)) a w:=by
 refine⟨gw.refl λb cs e=>U.step.dF b cs (U.step.le b cs e),cy.nil _ _ _,λt x e=>?_,U.size,U.defers⟩;obtain⟨v,hv,rfl⟩:=J1 e;have:=List.map_inj_left.1 hl _ hv;exact U.env t _ this
def St.Jt {G:Nat->Prop} {c:Ctx} {I:Im} {H:List Own} {Γ:Env} {a:Act} {w w':World} (l:List (Nat×Value)) (U:St c I H Γ a w) (hG:∀b cs,c.I b=some cs->¬G b) (k:Kept G w w') (hl:l.map (λp=>Env.get p.1 Γ)=l.map (λp=>some (AV.val p.2)):=by rfl):St ⟨w',c.I,c.n,lV⟩ c.I [] (l.map λp=>(p.1,AV.val p.2)) a w':=
 have h:=U.base l hl
 ⟨gw.refl (h.step.dF.kept hG k),cy.nil _ _ _,h.env,h.size,h.defers⟩
def St.blank {c:Ctx} {I:Im} {H:List Own} {Γ:Env} {a:Act} {w:World} (w':World) (l:List (Nat×Value)) (U:St c I H Γ a w) (hl:l.map (λp=>Env.get p.1 Γ)=l.map (λp=>some (AV.val p.2)):=by rfl):St ⟨w',λ_=>none,c.n,lV⟩ (λ_=>none) [] (l.map λp=>(p.1,AV.val p.2)) a w':=
 have h:=U.base l hl
 ⟨gw.refl λb cs e=>(by cases e),cy.nil _ _ _,λt x e=>(by obtain⟨v,_,rfl⟩:=J1 e;exact h.env t _ e),h.size,h.defers⟩
def St.grown {c:Ctx} {I:Im} {H:List Own} {Γ:Env} {a:Act} {w:World} (U:St c I H Γ a w) (hF:c.F=lV):c.W.grownBy w none:=
 ⟨U.step.below.os,U.step.below.tape,U.step.below.output,U.step.below.size,λk hk _=>U.step.below.block k hk (by rw[hF];exactλh=>h)⟩
def Ro {I:Im}:∀{l:List AV} {cs:List Value},bN I l cs->bN I (cs.map AV.val) cs
 |[],[],_=>trivial
 |_::_,_::_,h=>⟨⟨rfl,h.1.2⟩,Ro h.2⟩
 |[],_::_,h=>h.elim
 |_::_,[],h=>h.elim
def Rp {I:Im}:∀{r cs:List Value},bN I (r.map AV.val) cs->cs=r
 |[],[],_=>rfl
 |x::r,y::cs,h=>by rw[Rp h.2,show y=x from h.1.1]
 |[],_::_,h=>h.elim
 |_::_,[],h=>h.elim
def abM {I:Im} {r:List Value} {v:Value} (h:(AV.agg (r.map AV.val)).h I v):v=.agg r.toArray:=by
 obtain⟨cs,e,hc⟩:=h;rw[e,<-Rp hc]
def Rq {I:Im} {sz:Nat}:∀{l:List (List AV)} {cs:List Value},(∀r∈l,r.length=sz)->bN I l.flatten cs->
 ∃vs:List (List Value),vs.length=l.length/\vs.flatten=cs/\(∀r∈vs,r.length=sz)/\∀i,i<l.length->bN I (nth l i) (vs.getD i [])
 |[],[],_,_=>⟨[],rfl,rfl,by simp,λi h=>by simp at h⟩
 |[],_::_,_,h=>h.elim
 |r::l,cs,hr,h=>by
  have h1:bN I r (cs.take sz):=(h.take r.length).cast bn (by rw[hr r bn]);have h2:bN I l.flatten (cs.drop sz):=(h.drop r.length).cast bn (by rw[hr r bn]);obtain⟨vs,e1,e2,e3,e4⟩:=Rq (λx hx=>hr x (by simp[hx])) h2;refine⟨cs.take sz::vs,by simp[e1],by simp[e2],λx hx=>?_,λi hi=>?_⟩
  .rcases List.mem_cons.1 hx with rfl|hx
   .rw[h1.length];exact hr r bn
   exact e3 x hx
  cases i with
  |zero=>exact h1
  |succ i=>exact e4 i (by simpa using hi)
def abN {I:Im} {sz:Nat} {l:List (List AV)} {v:Value} (h:(AV.rows sz l).h I v):
 ∃vs:List (List Value),vs.length=l.length/\(∀r∈vs,r.length=sz)/\(AV.rows sz (vs.map (·.map AV.val))).h I v/\∀i,i<l.length->bN I (nth l i) (vs.getD i []):=by
 obtain⟨p,cap,e,h1,h2,h3,h4,h5⟩:=h;rcases h4 with rfl|⟨q,hq,U,cs,hI,hh⟩
 .exact⟨[],rfl,by simp,⟨p,cap,e,h1,h2,by simp,.inl rfl,h5⟩,λi hi=>by simp at hi⟩
 obtain⟨vs,e1,e2,e3,e4⟩:=Rq h3 hh;have e5:(vs.map (·.map AV.val)).flatten=vs.flatten.map AV.val:=(List.map_flatten ..).symm;refine⟨vs,e1,e3,⟨p,cap,by rw[List.length_map,e1];exact e,by rw[List.length_map,e1];exact h1,h2,λr hr=>?_,.inr ⟨q,hq,U,cs,hI,?_⟩,h5⟩,e4⟩
 .obtain⟨x,hx,rfl⟩:=List.mem_map.1 hr;rw[List.length_map];exact e3 x hx
 rw[e5,List.length_map,e2];refine(Ro hh).cast rfl ?_;rw[hh.length]
def St.oU {P:Program} {c:Ctx} {I:Im} {H:List Own} {Γ:Env} {a:Act} {w:World} {Q:Exit->Act->World->Prop} {ops:Array Oper} {rest:List Oper} {d:Nat} {op:Op} {ty:TypeId} {p:String} {af:Array Edge} {x y:AV} {v:Value} (t:Nat)
 (U:St c I H Γ a w) (hy:y.h c.I v) (ok:Ok P H ((t,y)::Γ) true ⟨some d,op,ty,p,af,none⟩ x) (k:∀{I' a' w'},St c I' H ((d,x)::Γ) a' w'->wpList P ops Q rest a' w') (ht:Env.get t Γ=some (.val v):=by rfl) (hd:Nat.blt d c.n=true:=by rfl):
 wpList P ops Q (⟨some d,op,ty,p,af,none⟩::rest) a w:=by
 unfold wpList;rw[if_pos (by simp[Region.wanted])];exact .inl (ok c.own I a w _ _ (U.z7 ht (y.up _ _ _ U.step.le hy)).env U.step.dF U.own rfl λv I' w' hx s=>k (U.put (by simpa using hd) hx s))
def St.re {c:Ctx} {I:Im} {H:List Own} {Γ:Env} {a:Act} {w:World} (U:St c I H Γ a w):St ⟨w,I,c.n,eS H⟩ I H Γ a w:=
 ⟨gw.refl U.step.dF,U.own.exact.weaken λb h=>.inr h,U.env,U.size,U.defers⟩
def St.un {c:Ctx} {I I2:Im} {H H2:List Own} {Γ Γ2:Env} {a a2:Act} {w w2:World} (U:St c I H Γ a w) (h:St ⟨w,I,c.n,eS H⟩ I2 H2 Γ2 a2 w2):St c I2 H2 Γ2 a2 w2:=by
 have eH:∀b,eS H b->c.own b:=λb k=>(let⟨o,ho,hb⟩:=va.1 k;((U.own.all o ho).2 b hb).1);have kS:∀b,b<c.W.heap.size->¬c.F b->¬eS H b:=λb h1 h2 h3=>(eH b h3).elim (λh=>by omega) h2;have db:=U.step.below.size;refine⟨⟨Im.le_trans U.step.le h.step.le,λb hb hf=>(h.step.dz b (Nat.lt_of_lt_of_le hb db) (kS b hb hf)).trans (U.step.dz b hb hf),h.step.dF,
  ⟨h.step.below.os.trans U.step.below.os,h.step.below.tape.trans U.step.below.tape,h.step.below.output.trans U.step.below.output,Nat.le_trans db h.step.below.size,
   λk hk hf=>(h.step.below.block k (Nat.lt_of_lt_of_le hk db) (kS k hk hf)).trans (U.step.below.block k hk hf)⟩⟩,
  ⟨λo ho=>⟨(h.own.all o ho).1,λb hb=>⟨?_,((h.own.all o ho).2 b hb).2⟩⟩,h.own.apart⟩,h.env,h.size,h.defers⟩
 rcases((h.own.all o ho).2 b hb).1 with k|k
 .exact .inl (Nat.le_trans db k)
 exact eH b k
def boxes (H:List Own):Prop:=∀o∈H,∃b T l,o=Own.box b T l
def Rr {base:Nat->Prop} {I:Im} {w:World} {H:List Own} (h:cy base I w H) (hb:boxes H) {b:Nat} (k:eS H b):∃o:Obj,w.heap[b]?=some o/\o.isCells=true:=by
 obtain⟨o,ho,e⟩:=va.1 k;obtain⟨b',T,l,rfl⟩:=hb o ho;obtain rfl:b'=b:=e;obtain⟨⟨cs,h1,_⟩,_⟩:=h.all _ ho;exact⟨_,h1,rfl⟩
def St.keeps {I I2:Im} {H H2:List Own} {Γ2:Env} {a2:Act} {w w2:World} {n:Nat} {base:Nat->Prop} (h:St ⟨w,I,n,eS H⟩ I2 H2 Γ2 a2 w2) (ho:cy base I w H) (hb:boxes H):KeepsOthers w w2:=
 ⟨h.step.below.size,λk o hk hc=>(h.step.below.block k (Array.getElem?_eq_some_iff.1 hk).1 λe=>by
  obtain⟨o',h1,h2⟩:=Rr ho hb e;rw[hk] at h1;cases h1;rw[hc] at h2;cases h2).trans hk⟩
def St.FC {c:Ctx} {I:Im} {H:List Own} {Γ:Env} {a:Act} {w w':World} {row:Option Nat} (U:St c I H Γ a w) (hb:boxes H) (hg:w.grownBy w' row) (hr:∀r,row=some r->c.W.heap.size<=r/\∃o:Obj,w.heap[r]?=some o/\o.isCells=false):St c I H Γ a w':=by
 have lg:∀b,(∃o:Obj,w.heap[b]?=some o/\o.isCells=true)->w'.heap[b]?=w.heap[b]?:=λb ⟨o,h1,h2⟩=>grownBy_keeps_cells hg (λr e=>(hr r e).2) h1 h2;refine⟨⟨U.step.le,U.step.dz,U.step.dF.grown hg λr e=>(hr r e).2,⟨hg.os.trans U.step.below.os,hg.tape.trans U.step.below.tape,hg.output.trans U.step.below.output,Nat.le_trans U.step.below.size hg.size,
  λk hk hf=>(hg.block k (Nat.lt_of_lt_of_le hk U.step.below.size) λe=>by have:=(hr k e.symm).1;omega).trans (U.step.below.block k hk hf)⟩⟩,⟨λo ho=>?_,U.own.apart⟩,U.env,U.size,U.defers⟩
 obtain⟨h1,h2⟩:=U.own.all o ho;refine⟨o.gi I I w w' (Im.le_refl I) (λb e=>lg b (Rr U.own hb (va.2 ⟨o,ho,e⟩))) h1,λb e=>?_⟩;obtain⟨k1,k2,k3⟩:=h2 b e;exact⟨k1,k2,Nat.lt_of_lt_of_le k3 hg.size⟩
def St.back {c:Ctx} {I I2:Im} {H H2 H3:List Own} {Γ Γ2:Env} {a a2:Act} {w w2:World} (U:St c I H Γ a w) (h:St c I2 (H2++H3) Γ2 a2 w2) (hle:Im.le I I2):St c I2 H2 Γ a w2:=
 ⟨h.step,⟨λo ho=>h.own.all o (List.mem_append_left _ ho),(List.pairwise_append.1 h.own.apart).1⟩,U.env.up hle,U.size,U.defers⟩
def abO {G:Nat->Prop} {n0:Nat} (hG:∀b,n0<=b->G b) (W:World) (l:Nat) (o':Obj) (h:n0<=l):Kept G W (W.putObj l o'):=by
 have hg:=grownBy_putObj' W l o';exact⟨hg.os,hg.tape,hg.output,hg.size,λk hk hf=>hg.block k hk λe=>hf (by cases e;exact hG l h)⟩
def get_mem:∀{Γ:Env} {t:Nat} {x:AV},Env.get t Γ=some x->(t,x)∈Γ
 |[],t,x,e=>by simp[Env.get] at e
 |p::r,t,x,e=>by
  simp only[Env.get] at e;cases hb:Nat.beq p.1 t with
  |true=>rw[hb] at e;obtain rfl:p.1=t:=Nat.eq_of_beq_eq_true hb
         obtain rfl:p.2=x:=Option.some.inj e
         exact List.mem_cons_self ..
  |false=>rw[hb] at e;exact List.mem_cons_of_mem _ (get_mem e)
def St.pick {c:Ctx} {I:Im} {H:List Own} {Γ:Env} {a:Act} {w:World} (Γ':Env) (U:St c I H Γ a w) (h:Γ'.map (λp=>Env.get p.1 Γ)=Γ'.map (λp=>some p.2):=by rfl):St c I H Γ' a w:=
 ⟨U.step,U.own,λt x e=>U.env t x (List.map_inj_left.1 h _ (get_mem e)),U.size,U.defers⟩
def St.leave {P:Program} {c:Ctx} {I:Im} {H:List Own} {Γ:Env} {a:Act} {w:World} {n D:Nat} {fn:Func} {rs:List ResultVar} {xs:List AV} {res:AV} (U:St c I H Γ a w) (hb:boxes H) (hD:c.W.heap.size<=D) (hK:w.heap[D]?=some (.deferred (some []))) (hF:c.F=lV)
 (hr:fn.results=rs.toArray) (h:aV P H Γ rs xs) (e:uX xs=res):LeavesInM Fence.wide n P fn a.tmps (z1 c.I c.W res) [{target:=.collected D,args:=#[]}] .returning w:=by
 subst e;have fH:=U.FC hb (grownBy_putObj' w D (.deferred none)) (λr e=>by cases e;exact⟨hD,_,hK,rfl⟩);obtain⟨v,h1,h2⟩:=fH.Ca hr h;refine⟨by simp,.inl ⟨_,_,rfl,run_takeDeferred hK,v,h1,I,?_,h2⟩⟩;have:=fH.step;rw[hF] at this;exact this.all
def Kept.mono {F G:Nat->Prop} {A B:World} (h:Kept F A B) (k:∀b,F b->G b):Kept G A B:=⟨h.os,h.tape,h.output,h.size,λi hi hf=>h.block i hi λe=>hf (k i e)⟩
def St.Rs {c:Ctx} {I I2:Im} {H H2:List Own} {Γ Γ2:Env} {a a2:Act} {w w2:World} {n:Nat} (U:St c I H Γ a w) (h:St ⟨w,I,n,eS H⟩ I2 H2 Γ2 a2 w2):Kept c.own w w2:=
 h.step.below.mono λb k=>(let⟨o,ho,hb⟩:=va.1 k;((U.own.all o ho).2 b hb).1)
def St.Aq {c:Ctx} {I:Im} {H H':List Own} {Γ:Env} {a:Act} {w:World} (U:St c I H Γ a w) (e:H=H'):St c I H' Γ a w:=e▸U
end Go.Proofs.YtldbakcpcfdlaaaGreat

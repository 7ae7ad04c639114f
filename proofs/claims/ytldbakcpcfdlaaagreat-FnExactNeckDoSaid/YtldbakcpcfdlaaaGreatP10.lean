/- Part 10: rules of the proofs. -/
import Derived.Laws.AppendOwn
import Derived.ProofKit
import Derived.OpenShut
import Derived.Deep.DeepHandedRow
import Derived.Deep.Slices
import Derived.Lib.LaidTab
import Derived.LaidSub
import Derived.Carry
import Derived.Test.YtldbakcpcfdlaaaGreatP09
set_option linter.all false
namespace Go.Proofs.YtldbakcpcfdlaaaGreat
open Go Go.RowKit
def AV.kS (n:Nat):AV:=⟨λ_ v=>∃cs:Array Value,v=.agg cs/\cs.size=n/\∀u∈cs.toList,u.oneCell'=true,λ_ _ _ _ h=>h⟩
def eA:Value->List AV
 |.agg cs=>cs.toList.map AV.val
 |v=>[AV.val v]
section
variable {P:Program} {c:Ctx} {I:Im} {H:List Own} {Γ:Env} {a:Act} {w:World} {Q:Exit->Act->World->Prop} {ops:Array Oper} {rest:List Oper} {E T:TypeId} {sz:Nat} {v:Value} {D:List AV}
def BI:∀{l:List AV} {cs:List Value},bs I l cs->cs.length=l.length/\∀u∈cs,u.oneCell'=true
 |[],[],_=>⟨rfl,λ_ h=>by simp at h⟩
 |x::l,u::cs,h=>⟨by simp[(BI h.2).1],λy hy=>by
   rcases List.mem_cons.1 hy with rfl|hy
   .exact h.1.2
   exact(BI h.2).2 y hy⟩
 |[],_::_,h=>h.elim
 |_::_,[],h=>h.elim
def FA:∀{cs:List Value},(∀u∈cs,u.oneCell'=true)->bs I (cs.map AV.val) cs
 |[],_=>trivial
 |u::cs,h=>⟨⟨rfl,h u be⟩,FA λy hy=>h y (by simp[hy])⟩
def FB:∀{cs ds:List Value},bs I (cs.map AV.val) ds->ds=cs
 |[],[],_=>rfl
 |u::cs,x::ds,h=>by rw[show x=u from h.1.1,FB h.2]
 |[],_::_,h=>h.elim
 |_::_,[],h=>h.elim
def sY {n:Nat} (h:(AV.agg D).h I v) (hn:D.length=n:=by rfl):(AV.kS n).h I v:=by
 obtain⟨cs,rfl,h⟩:=h;obtain⟨h1,h2⟩:=BI h;exact⟨cs,rfl,by rw[<-hn,<-h1];simp,h2⟩
def K1 {n:Nat} (h:(AV.kS n).h I v):(AV.agg (eA v)).h I v:=by
 obtain⟨cs,rfl,_,h⟩:=h;exact⟨cs,rfl,FA h⟩
def uB {n:Nat} (h:(AV.kS n).h I v):(eA v).length=n:=by
 obtain⟨cs,rfl,h,_⟩:=h;simp[eA,h]
def FC (h:(AV.agg D).h I v):jx I (eA v) D:=λds hd=>by
 obtain⟨cs,rfl,h⟩:=h;rw[FB (cs:=cs.toList) hd];exact h
def zd {u:Value} {α:Type} {C:α->List AV} {O:α->List Own} {l:List α} (ho:(Own.many [Own.tree u E sz C O l]).ok I w) (e:(AV.val u).h I v):v.oneCell'=true:=by
 obtain rfl:v=u:=e;obtain⟨q,cap,rfl,_⟩:=Bn (((ho.1 _ (List.mem_singleton.2 rfl)).1) (Own.row v E sz (l.map C)) be);rfl
def aP.rH {Hf:List (EA->Own)} {os:List Oper} {ms:Meta} {α:Type} {d:Nat} {f:FuncId} {ys:Array Operand} {ts:Array TypeId} {ty:TypeId} {p:String} {af:Array Edge} {xs:List AV} {ok:α->Prop} {h1:α->List Own} {res:α->AV} (z:AV) (k:Nat) (hk:Hf[k]?=some λ_=>Own.gone) (hd:Nat.blt d c.n=true) (hf:bG P f xs [] ok h1 res)
 (FD:∀x I w v,ok x->(Own.many (h1 x)).ok I w->(res x).h I v->z.h I v) (ij:∀I a,cW I a (Γ.only ((⟨some d,.call ⟨.value (.func f),ys,ts⟩,ty,p,af,none⟩:Oper).looksAt ops))->true=true->c7 I xs (ys.map a.eval).toList)
 (r:aP P c ops Q ((d,z)::Γ) (Hf.set k λe=>Own.au ok h1 res (e.g d) (e.tmps.getD d undef)) os ms):aP P c ops Q Γ Hf (⟨some d,.call ⟨.value (.func f),ys,ts⟩,ty,p,af,none⟩::os) (([k],some (k,[d]))::ms):=
 aP.cons (u:=some ⟨k,[d],λe=>Own.au ok h1 res (e.g d) (e.tmps.getD d undef)⟩) (x:=z) (λv e=>by
  cases e;intro a a' hh;show Own.au ok h1 res (a.g d) (a.tmps.getD d undef)=Own.au ok h1 res (a'.g d) (a'.tmps.getD d undef);rw[(hh d be).1,(hh d be).2]) (λF W0 I0 I γ a w Q U kk=>by
  refine U.dX [] hf ij rfl bA hd λx I' a' w' hx bB=>?_;have bB:=bB.pass (show fill (hole (dq [k] (ea a γ) F 0 Hf) []) [] (h1 x)=dq [k] (ea a γ) F 0 Hf++h1 x by simp[fill,hole]);have hv:(res x).h I' (a'.tmps.getD d undef):=bB.env d (res x) (by simp[Env.get]);have hm:(Own.many (h1 x)).ok I' w':=⟨λo ho=>(bB.own.all o (List.mem_append_right _ ho)).1,(List.pairwise_append.1 bB.own.apart).2.1⟩;have eG:=bB.own.close (o:=Own.au ok h1 res (Own.many (h1 x)) (a'.tmps.getD d undef)) (λb h=>h) ⟨hm,x,hx,hv,rfl⟩;have eW:St ⟨W0.1,I0,c.n,W0.2⟩ I' (dq [k] (ea a γ) F 0 Hf++[Own.au ok h1 res (Own.many (h1 x)) (a'.tmps.getD d undef)]) ((d,z)::Γ.only ((⟨some d,.call ⟨.value (.func f),ys,ts⟩,ty,p,af,none⟩:Oper).looksAt ops)) a' w':=
   ⟨bB.step,eG,λt y e=>by
    simp only[Env.get] at e;cases hb:Nat.beq d t with
    |true=>rw[hb] at e;obtain rfl:d=t:=Nat.eq_of_beq_eq_true hb;simp at e;subst e;exact FD x I' w' _ hx hm hv
    |false=>rw[hb] at e;exact bB.env t y (by simp only[Env.get,hb];exact e),bB.size,bB.defers⟩
  exact kk (λt=>if t=d then Own.many (h1 x) else γ t) (λt ht=>if_neg λe=>ht (by rw[e])) I' a' w' ((eW.sR k (kv hk)).pass (l7 (a':=ea a' λt=>if t=d then Own.many (h1 x) else γ t) (f:=λe=>Own.au ok h1 res (e.g d) (e.tmps.getD d undef)) (by
   show _=Own.au ok h1 res (if d=d then Own.many (h1 x) else γ d) _;rw[if_pos rfl])))) r
def aP.ze {Hf:List (EA->Own)} {os:List Oper} {ms:Meta} {o:Oper} {d:Nat} (z:AV) (k:Nat) (ds:List Nat) (y:EA->AV) (hk:Hf[k]?=some λ_=>Own.gone) (hg:o.guard=none) (ho:o.dst=some d) (hd:Nat.blt d c.n=true) (hx:∀a a':EA,(∀t∈ds,a.tmps.getD t undef=a'.tmps.getD t undef)->y a=y a') (dG:ds.contains d=false)
 (h:∀{γ:Nat->Own} F a I,cW I a (Γ.only (o.looksAt ops))->Ok P (dq [k] (ea a γ) F 0 Hf) (pd ds a++Γ.only (o.looksAt ops)) true o (y (ea a γ))/\∀I' v,(y (ea a γ)).h I' v->z.h I' v)
 (r:aP P c ops Q ((d,z)::Γ) (Hf.set k λa=>Own.is (y a) (a.tmps.getD d undef)) os ms):aP P c ops Q Γ Hf (o::os) (([k],some (k,d::ds))::ms):=
 aP.cons (u:=some ⟨k,d::ds,λa=>Own.is (y a) (a.tmps.getD d undef)⟩) (x:=z) (λv e=>by
  cases e;intro a a' hh;show Own.is (y a) _=Own.is (y a') _;rw[hx a a' λt ht=>(hh t (List.mem_cons_of_mem _ ht)).1,(hh d be).1]) (λF W0 I0 I γ a w Q U kk=>by
  unfold wpList;rw[if_pos (by simp[Region.wanted,hg])];obtain⟨h1,h2⟩:=h F a I U.env (γ:=γ);refine .inl (h1 _ I a w _ _ ((Fp ds).append U.env) U.step.c9 U.own rfl λv I' w' hv s=>?_);rw[ho];have iF:d<c.n:=by simpa using hd
  have cJ:=U.size;have bB:=U.put (d:=d) (x:=z) (v:=v) iF (h2 I' v hv) s;have yV:(a.put (some d) v).tmps.getD d undef=v:=by simp[Act.put,cJ,iF]
  have By:y (ea (a.put (some d) v) γ)=y (ea a γ):=hx _ _ λt ht=>by
   have bH:d≠t:=λe=>by
    subst e;have:ds.contains d=true:=by simpa using ht
    rw[dG] at this;cases this
   simp[Act.put,bH]
  have eW:=(bB.KH (x:=y (ea a γ)) (v:=v) hv).sR k (kv hk);refine kk γ (λ_ _=>rfl) I' (a.put (some d) v) w' (St.pass (H:=(dq [k] (ea a γ) F 0 Hf).set k (Own.is (y (ea a γ)) v)) ?_ (l7 (a':=ea (a.put (some d) v) γ) (f:=λa=>Own.is (y a) (a.tmps.getD d undef)) (by rw[yV,By])));rw[ho];exact eW) (by rw[ho];exact r)
def K2 {t:Nat} {g:Bool} {n:Nat} {Γ':Env} (he:cW I a Γ') (ht:Env.get t Γ'=some (AV.kS n)):At (pd [t] a++Γ') g (.tmp t) (.agg (eA (a.tmps.getD t undef))):=λI' a' uC _=>by
 have h1:a'.tmps.getD t undef=a.tmps.getD t undef:=uC t (AV.val (a.tmps.getD t undef)) (by simp[pd,Env.get]);show(AV.agg (eA (a.tmps.getD t undef))).h I' (a'.tmps.getD t undef);rw[h1];obtain⟨cs,e,h2,h3⟩:=he t _ ht;rw[e];exact⟨cs,rfl,FA h3⟩
def aP.BJ {Hf:List (EA->Own)} {os:List Oper} {ms:Meta} {d t m:Nat} {zv:Value} {ty:TypeId} {p:String} {af:Array Edge} (k:Nat) (hk:Hf[k]?=some λ_=>Own.gone) (hd:Nat.blt d c.n=true) (hT:P.underlying T=some (.slice E)) (hE:Ty P E true sz m zv) (fA:zv.cells.size=sz) (lY:∀u∈zv.cells.toList,u.oneCell'=true)
 (cJ:Nat.blt 0 sz=true) (p7:Nat.ble (1*sz) 16777216=true) (dG:[t].contains d=false) (ht:Env.get t (Γ.only ((⟨some d,.buildSlice T 1 #[(0,.tmp t)],ty,p,af,none⟩:Oper).looksAt ops))=some (AV.kS sz))
 (r:aP P c ops Q ((d,AV.any)::Γ) (Hf.set k λe=>Own.is (.rows sz [eA (e.tmps.getD t undef)]) (e.tmps.getD d undef)) os ms):aP P c ops Q Γ Hf (⟨some d,.buildSlice T 1 #[(0,.tmp t)],ty,p,af,none⟩::os) (([k],some (k,[d,t]))::ms):=
 aP.ze AV.any k [t] (λe=>.rows sz [eA (e.tmps.getD t undef)]) hk rfl rfl hd (λa b h=>by rw[h t be]) dG (λF a I he=>by
  have hl:(eA (a.tmps.getD t undef)).length=sz:=uB (he t _ ht);refine⟨Ec (gL:=[eA (a.tmps.getD t undef)]) (parts:=[(0,.tmp t)]) (ps:=[(0,eA (a.tmps.getD t undef))]) hT hE fA lY cJ p7 (bf.s (q:=sz) (by simp[ni]) hl be (K2 he ht) .nil) ?_ rfl (λr hr=>by rw[List.mem_singleton.1 hr];exact hl),λ_ _ _=>trivial⟩;generalize eA (a.tmps.getD t undef)=D at hl⊢;simp[filled,eC,hl]) r
def aP.TX {Hf:List (EA->Own)} {os:List Oper} {ms:Meta} {d t m:Nat} {ag:Bool} {zv:Value} {ty:TypeId} {p:String} {af:Array Edge} (k:Nat) (hk:Hf[k]?=some λ_=>Own.gone) (hd:Nat.blt d c.n=true) (hT:P.underlying T=some (.slice E)) (hE:Ty P E ag 1 m zv) (fA:zv.cells.size=1) (lY:∀u∈zv.cells.toList,u.oneCell'=true)
 (dG:[t].contains d=false) (ht:Env.get t (Γ.only ((⟨some d,.buildSlice T 1 #[(0,.tmp t)],ty,p,af,none⟩:Oper).looksAt ops))=some AV.jd)
 (r:aP P c ops Q ((d,AV.any)::Γ) (Hf.set k λe=>Own.is (.rows 1 [[.val (e.tmps.getD t undef)]]) (e.tmps.getD d undef)) os ms):aP P c ops Q Γ Hf (⟨some d,.buildSlice T 1 #[(0,.tmp t)],ty,p,af,none⟩::os) (([k],some (k,[d,t]))::ms):=
 aP.ze AV.any k [t] (λe=>.rows 1 [[.val (e.tmps.getD t undef)]]) hk rfl rfl hd (λa b h=>by rw[h t be]) dG (λF a I he=>
  ⟨Ec (gL:=[[.val (a.tmps.getD t undef)]]) (parts:=[(0,.tmp t)]) (ps:=[(0,[.val (a.tmps.getD t undef)])]) hT hE fA lY rfl rfl (bf.c (by simp[ni]) rfl (λI' a' uC _=>uC t (AV.val (a.tmps.getD t undef)) (by simp[pd,Env.get])) (rC he ht) .nil) rfl rfl (λr hr=>by rw[List.mem_singleton.1 hr];rfl),λ_ _ _=>trivial⟩) r
def St.BK {d t:Nat} (k:Nat) (U:St c I H Γ a w) (hk:H[k]?=some (Own.is (.rows sz [eA (a.tmps.getD t undef)]) (a.tmps.getD d undef))) (ht:Env.get t Γ=some (.agg D)) (hn:D.length=sz):St c I (H.set k Own.gone) ((d,.rows sz [D])::Γ) a w:=by
 have h:=U.rD k hk;have hv:=U.env t _ ht;have h0:=h.env d (.rows sz [eA (a.tmps.getD t undef)]) (by simp[Env.get]);refine⟨h.step,h.own,λs y e=>?_,h.size,h.defers⟩;simp only[Env.get] at e;cases hb:Nat.beq d s with
 |false=>rw[hb] at e;exact U.env s y (by simpa using e)
 |true=>
  rw[hb] at e;obtain rfl:d=s:=Nat.eq_of_beq_eq_true hb;simp at e;subst e
  exact KP (m:=[()]) (f:=λ_=>eA (a.tmps.getD t undef)) (g:=λ_=>D) h0 (λ_ _=>FC hv) λ_ _=>(uB (sY hv hn)).trans hn.symm
def St.TY {d t:Nat} (pre:List AV) (k:Nat) (U:St c I H Γ a w) (hk:H[k]?=some (Own.is (.agg (pre++eA (a.tmps.getD t undef))) (a.tmps.getD d undef))) (ht:Env.get t Γ=some (.agg D)):St c I (H.set k Own.gone) ((d,.agg (pre++D))::Γ) a w:=by
 have h:=U.rD k hk;have hv:=U.env t _ ht;have h0:=h.env d (.agg (pre++eA (a.tmps.getD t undef))) (by simp[Env.get]);refine⟨h.step,h.own,λs y e=>?_,h.size,h.defers⟩;simp only[Env.get] at e;cases hb:Nat.beq d s with
 |false=>rw[hb] at e;exact U.env s y (by simpa using e)
 |true=>
  rw[hb] at e;obtain rfl:d=s:=Nat.eq_of_beq_eq_true hb;simp at e;subst e
  obtain⟨cs,e,hc⟩:=h0
  obtain⟨h1,h2⟩:=hc.split
  exact⟨cs,e,(h1.append (FC hv _ h2)).cast rfl (List.take_append_drop _ _)⟩
def St.nm (d:Nat) (U:St c I H Γ a w):St c I H ((d,.val (a.tmps.getD d undef))::Γ) a w:=
 ⟨U.step,U.own,λs y e=>by
  simp only[Env.get] at e;cases hb:Nat.beq d s with
  |false=>rw[hb] at e;exact U.env s y (by simpa using e)
  |true=>rw[hb] at e;obtain rfl:d=s:=Nat.eq_of_beq_eq_true hb;have e:some (AV.val (a.tmps.getD d undef))=some y:=e;cases e;exact rfl,U.size,U.defers⟩
def TZ (P:Program) (ops:Array Oper) (Q:Exit->Act->World->Prop) (tail:List Oper):Exit->Act->World->Prop
 |.normal=>wpList P ops Q tail
 |e=>Q e
def St.ql {id:Nat} {l:List Oper} (n:Nat) (ms:Meta) (U:St c I H Γ a w) (hm:P.follows .mixedOrders=true) (fB:vY (l.take n) (l.drop n) ms=true) (hd:((l.take n).all λo=>match o.dst with|some d=>Nat.blt d c.n|none=>true)=true)
 (run:aP P c l.toArray (TZ P l.toArray Q (l.drop n)) Γ (H.map λo _=>o) (l.take n) ms):(Code.region id l.toArray true).wp P Q a w:=by
 obtain⟨rs,h0,run,k⟩:=run;subst h0;have e:l.take n++l.drop n=l:=List.take_append_drop n l;have:=U.EB (id:=id) (Q:=Q) (pre:=l.take n) (tail:=l.drop n) (rs:=rs) hm fB hd (by rw[e];exact run) λγ I' a' w' h=>by rw[e];exact k γ I' a' w' h
 rwa[e] at this
def St.uD {β:Type} {f:β->Own} {ts:List β} (n km:Nat) (t:β) (U:St c I H Γ a w) (hM:Own.many (H.drop n)=f t) (hk:(H.take n)[km]?=some (Own.many (ts.map f))):St c I ((H.take n).set km (Own.many ((ts++[t]).map f))) Γ a w:=by
 have h:=(U.tie (L:=H.drop n) n rfl).merge km hk;rw[hM] at h;rw[List.map_append];exact h
def St.sZ (n:Nat) (U:St c I H Γ a w):St c I (H.drop n++H.take n) Γ a w:=by
 have h:=U.own;rw[<-List.take_append_drop n H] at h;obtain⟨h1,h2,h3⟩:=List.pairwise_append.1 h.apart;exact⟨U.step,⟨λo ho=>h.all o (by rcases List.mem_append.1 ho with ho|ho;exact List.mem_append_right _ ho;exact List.mem_append_left _ ho),List.pairwise_append.2 ⟨h2,h1,λy hy z hz=>(h3 z hz y hy).symm⟩⟩,U.env,U.size,U.defers⟩
def uE {α:Type} {C:α->List AV} {ts:List α} {t:α}:ts.map C++[C t]=(ts++[t]).map C:=by simp
end
def AV.cut (b o k:Nat):AV:=⟨λ_ v=>∃q c,v=.slice q k c/\(k=0\/q=Option.some ⟨b,o,none⟩),λ_ _ _ _ h=>h⟩
section
variable {P:Program} {c:Ctx} {I:Im} {H:List Own} {Γ:Env} {a:Act} {w:World} {Q:Exit->Act->World->Prop} {ops:Array Oper} {rest:List Oper}
variable {d:Nat} {dd:Option Tmp} {y z z' z2:Operand} {ty T T' E E':TypeId} {p:String} {af:Array Edge} {g:Bool} {gd:Option (Nat×Bool)} {n m:Nat} {zv:Value}
def K3 {q:Option Addr} {n cap lo hi mx:Nat} {t1 t2 t3:Int} {sz:Nat} {ag:Bool} (hT:P.underlying T=some (.slice E)) (hE:Ty P E ag sz m zv) (h:At Γ g y (.val (.slice q n cap))) (h1:At Γ g z (.int t1)) (h2:At Γ g z' (.int t2)) (h3:At Γ g z2 (.int t3)) (e1:t1=lo) (e2:t2=hi) (e3:t3=mx) (qd:lo<=hi) (EH:hi<=mx) (we:mx<=cap):
 Ok P H Γ g ⟨some d,.slice T y (some z) (some z') (some z2),ty,p,af,gd⟩ .any:=
 gq λ_ I a w he _ _ hg=>by
  subst e1 e2 e3;have e:a.eval y=_:=h I a he hg;have e1:a.eval z=_:=h1 I a he hg;have e2:a.eval z'=_:=h2 I a he hg;have e3:a.eval z2=_:=h3 I a he hg;have U:(sizeOf E).run P w=.ok sz w:=hE.size;have c1:(lo:Int)<=(hi:Int):=by omega
  have c2:(hi:Int)<=(mx:Int):=by omega
  have c3:(mx:Int)<=(cap:Int):=by omega
  refine⟨sliced q lo hi mx sz,?_,trivial⟩;simp only[execOp,Option.map_some,Option.map_none,e,e1,e2,e3,Instr.sliceAt,Sem.run_bind,run_underlying hT,Result.andThen_ok];simp[Instr.slice,run_underlying hT,Instr.sliceBounds,run_sliceBound,qd,EH,we,c1,c2,c3,U,sliced]
def FE {b n cap lo sz:Nat} {t:Int} {ag:Bool} (hT:P.underlying T=some (.slice E)) (hE:Ty P E ag sz m zv) (h:At Γ g y (.val (.slice (some ⟨b,0,none⟩) n cap))) (h1:At Γ g z (.int t)) (ht:t=lo) (qd:lo<=n) (lW:n<=cap):
 Ok P H Γ g ⟨some d,.slice T y (some z) none none,ty,p,af,gd⟩ (.cut b (lo*sz) (n-lo)):=
 gq λ_ I a w he _ _ hg=>by
  subst ht;have e:a.eval y=_:=h I a he hg;have e1:a.eval z=_:=h1 I a he hg;have U:(sizeOf E).run P w=.ok sz w:=hE.size;have c1:(lo:Int)<=(n:Int):=by omega
  refine⟨.slice (if cap=lo then some ⟨b,0,none⟩ else some ⟨b,lo*sz,none⟩) (n-lo) (cap-lo),?_,_,_,rfl,?_⟩
  .simp only[execOp,Option.map_some,Option.map_none,e,e1,Instr.sliceAt,Sem.run_bind,run_underlying hT,Result.andThen_ok];simp[Instr.slice,run_underlying hT,Instr.sliceBounds,run_sliceBound,qd,c1,U,sliced,add_plain]
  split
  .exact .inl om
  exact .inr rfl
def K4 {b n cap lo hi sz:Nat} {t t2:Int} {ag:Bool} (hT:P.underlying T=some (.slice E)) (hE:Ty P E ag sz m zv) (h:At Γ g y (.val (.slice (some ⟨b,0,none⟩) n cap))) (h1:At Γ g z (.int t)) (h2:At Γ g z' (.int t2)) (ht:t=lo) (T0:t2=hi) (qd:lo<=hi) (lW:hi<=cap):
 Ok P H Γ g ⟨some d,.slice T y (some z) (some z') none,ty,p,af,gd⟩ (.cut b (lo*sz) (hi-lo)):=
 gq λ_ I a w he _ _ hg=>by
  subst ht T0;have e:a.eval y=_:=h I a he hg;have e1:a.eval z=_:=h1 I a he hg;have e2:a.eval z'=_:=h2 I a he hg;have U:(sizeOf E).run P w=.ok sz w:=hE.size;have c1:(lo:Int)<=(hi:Int):=by omega
  have c2:(hi:Int)<=(cap:Int):=by omega
  refine⟨.slice (if cap=lo then some ⟨b,0,none⟩ else some ⟨b,lo*sz,none⟩) (hi-lo) (cap-lo),?_,_,_,rfl,?_⟩
  .simp only[execOp,Option.map_some,Option.map_none,e,e1,e2,Instr.sliceAt,Sem.run_bind,run_underlying hT,Result.andThen_ok];simp[Instr.slice,run_underlying hT,Instr.sliceBounds,run_sliceBound,qd,lW,c1,c2,U,sliced,add_plain]
  split
  .exact .inl om
  exact .inr rfl
def St.K5 {b i cap o2 m2 sz:Nat} {ag:Bool} {L:List (Option AV)} {xs:List AV} (k:Nat) (U:St c I H Γ a w) (hU:P.underlying T=some (.slice E)) (hE:Ty P E ag sz m zv) (hy:At Γ true y (.val (.slice (some ⟨b,0,none⟩) i cap))) (hz:At Γ true z (.cut b o2 m2)) (hk:H[k]?=some (Own.raw b E L))
 (hx:(L.drop o2).take xs.length=xs.map some) (mE:xs.length=m2*sz) (yu:i+m2<=cap) (il:i*sz+xs.length<=L.length) (hd:Nat.blt d c.n=true)
 (kk:∀{a' w'},St c I (H.set k (Own.raw b E (over L (i*sz) (xs.map some)))) ((d,.val (.slice (some ⟨b,0,none⟩) (i+m2) cap))::Γ) a' w'->wpList P ops Q rest a' w'):
 wpList P ops Q (⟨some d,.call ⟨.builtin .append,#[y,z],#[T,T]⟩,ty,p,af,none⟩::rest) a w:=by
 have e1:a.eval y=_:=hy I a U.env rfl;obtain⟨q,cc,e2,hq⟩:=hz I a U.env rfl;obtain⟨cs,h2,h3⟩:=EE (U.own.all _ (List.mem_of_getElem? hk)).1 hx;obtain⟨⟨cur,hb,gu,o8⟩,_⟩:=U.own.all _ (List.mem_of_getElem? hk);have dV:cs.length=m2*sz:=by rw[h2.length,mE]
 obtain⟨ti,hi,sJ,iD,vN⟩:=hE.get;have hr:(Builtin.append_ #[T,T] ty #[.slice (some ⟨b,0,none⟩) i cap,.slice q m2 cc]).run P w=.ok (.slice (some ⟨b,0,none⟩) (i+m2) cap) (w.setRow b (over cur.toList (i*sz) cs).toArray):=by
  rcases hq with rfl|rfl
  .have FF:cs=[]:=List.length_eq_zero_iff.1 (by rw[dV,Nat.zero_mul]);subst FF;have K6:(over cur.toList (i*sz) ([]:List Value)).toArray=cur:=by simp[over]
   rw[K6,setRow_self w b cur E (0,0) hb];have Ea:(Builtin.firstCells ti.size 0 (.slice q 0 cc)).run P w=.ok #[] w:=by
    cases q with
    |none=>rfl
    |some qa=>simpa using run_firstCells_some (P:=P) w ti.size 0 qa 0 cc [] be be
   have T4:i<=cap:=by omega
   simp[Builtin.append_,run_underlying hU,sizeOf,typeInfo,hi,Builtin.lenOf,T4,Ea,Addr.add_lit,storeCells]
  have:=run_append_room (P:=P) w T ty E ti hU hi b i cap cur hb ⟨b,o2,none⟩ m2 cc cs (by rw[dV,sJ]) h3 h2.one yu (by rw[sJ,dV,<-mE,gu];exact il);rw[sJ] at this;exact this
 refine ik rfl ?_;unfold Oper.wp;simp only[execOp,resolve,invoke,builtin,Sem.run_bind,Sem.run_pure,Result.andThen_ok,List.map_toArray,List.map_cons,List.map_nil,e1,e2,hr];have bB:=U.copied k hk hb gu o8 h2 il (o:=i*sz);exact kk (bB.mC bB.step (Im.le_refl _) bB.own hd rfl)
def T5 {z:Array Value} {n:Nat} (h:∀u∈z.toList,u.oneCell'=true):∀u∈(Builtin.zeroCells z n).toList,u.oneCell'=true:=λu hu=>by
 unfold Builtin.zeroCells at hu;simp only[Array.toList_map,List.mem_map] at hu;obtain⟨i,hi,rfl⟩:=hu;have hz:0<z.size:=by
  rcases Nat.eq_zero_or_pos z.size with h0|h0
  .simp[h0] at hi
  exact h0
 have bW:i%z.size<z.size:=Nat.mod_lt _ hz;rw[getElem!_pos z _ bW];exact h _ be
def St.FG {b o k' sz:Nat} {ag:Bool} {L:List (Option AV)} (k:Nat) (U:St c I H Γ a w) (hU:P.underlying T=some (.slice E)) (hE:Ty P E ag sz m zv) (fA:zv.cells.size=sz) (lY:∀u∈zv.cells.toList,u.oneCell'=true) (hy:At Γ true y (.cut b o k')) (hn:0<k') (hk:H[k]?=some (Own.raw b T' L)) (il:o+k'*sz<=L.length)
 (kk:∀{a' w'},St c I (H.set k (Own.raw b T' (over L o ((List.replicate (k'*sz) AV.any).map some)))) Γ a' w'->wpList P ops Q rest a' w'):
 wpList P ops Q (⟨none,.call ⟨.builtin .clear,#[y],#[T]⟩,ty,p,af,none⟩::rest) a w:=by
 obtain⟨q,cc,e2,hq⟩:=hy I a U.env rfl;obtain rfl:=hq.resolve_left om;obtain⟨⟨cur,hb,gu,o8⟩,_⟩:=U.own.all _ (List.mem_of_getElem? hk);obtain⟨ti,hi,sJ,iD,vN⟩:=hE.get;have nh:(Builtin.zeroCells zv.cells k').toList.length=k'*sz:=by rw[Array.length_toList,size_zeroCells,fA]
 have h1:=T5 (n:=k') lY;have hh:bs I (List.replicate (k'*sz) AV.any) (Builtin.zeroCells zv.cells k').toList:=by
  refine Bk (by rw[nh,List.length_replicate]) λi x hx=>?_;have jN:i<k'*sz:=by have:=(List.getElem?_eq_some_iff.1 hx).1;simpa using this
  rw[List.getElem?_replicate,if_pos jN] at hx;cases hx;have T6:i<(Builtin.zeroCells zv.cells k').toList.length:=by rw[nh];exact jN
  exact⟨_,List.getElem?_eq_getElem T6,trivial,h1 _ (List.getElem_mem _)⟩
 have bJ:=run_storeCells_at P b o T' (Builtin.zeroCells zv.cells k').toList 0 cur w hb (by rw[nh,gu];simpa using il) h1;simp only[Nat.add_zero] at bJ;have T7:(zeroValue E).run P w=.ok zv w:=by simp[zeroValue,typeInfo,hi,vN]
 have hr:(Builtin.clear_ #[T] ty #[.slice (some ⟨b,o,none⟩) k' cc]).run P w=.ok (.tuple #[]) (w.setRow b (over cur.toList o (Builtin.zeroCells zv.cells k').toList).toArray):=by
  obtain⟨j,rfl⟩:∃j,k'=j+1:=⟨k'-1,by omega⟩;simp[Builtin.clear_,run_underlying hU,T7,bJ,over]
 refine ik rfl ?_;unfold Oper.wp;simp only[execOp,resolve,invoke,builtin,Sem.run_bind,Sem.run_pure,Result.andThen_ok,List.map_toArray,List.map_cons,List.map_nil,e2,hr];exact kk (U.copied k hk hb gu o8 hh (by rw[List.length_replicate];exact il) (o:=o))
def zh (P:Program) (fv:AV) (args:List AV) (h0:List Own) (res:AV):Prop:=
 ∀(I:Im) (w:World) (v:Value) (vs:Array Value),dR w I->fv.h I v->bQ (dS h0) I w h0->c7 I args vs.toList->
  ∃f first gw,v=.func (.func f) first gw/\oX P f/\Calls P f (first++vs++gw) w (qe ⟨w,I,0,dS h0⟩ (λ_:Unit=>True) (λ_=>h0) (λ_=>res))
def er.val {f:FuncId} {args gw:List AV} {h0:List Own} {res:AV} (h:er P f (args++gw) h0 h0 res):zh P (.fn f gw) args h0 res:=λI w v vs hm ⟨cs,e,hc⟩ ho ha=>
 ⟨f,#[],cs,e,h.1,h.2 I w (#[]++vs++cs) hm ho (by simpa using ha.append hc)⟩
def Step.T8 {F:Nat->Prop} {I':Im} {w':World} (h:Step I w I' w'):eR F I w I' w':=
 ⟨h.le,λb hb _=>h.fS b hb,h.c9,⟨h.below.os,h.below.tape,h.below.output,h.below.size,λk hk _=>h.below.block k hk⟩⟩
def lg.frame {fv:AV} {args:List AV} {h0:List Own} {res:AV} (h:lg P fv args res):zh P fv args h0 res:=λI w v vs hm hf ho ha=>
 let⟨f,first,gw,e,ug,hc⟩:=h I w v vs hm hf ha
 ⟨f,first,gw,e,ug,hc.mono λe w' he=>by
   cases e with
   |panicked _=>exact he.elim
   |outgrown=>exact he.elim
   |returned u=>
    obtain⟨I',U,hx⟩:=he
    exact⟨(),I',trivial,U.T8,(ho.step U).weaken λb hb=>Or.inr hb,hx⟩⟩
def St.K7 {fv res:AV} {ys:Array Operand} {ts:Array TypeId} {xs:List AV} {h0:List Own} (ks:List Nat) (U:St c I H Γ a w) (hf:zh P fv xs h0 res) (hy:At Γ true y fv) (ij:∀I a,cW I a Γ->true=true->c7 I xs (ys.map a.eval).toList) (iR:ks.map (λk=>H[k]?)=h0.map some) (dG:decide ks.Nodup=true) (hd:Nat.blt d c.n=true)
 (k:∀I' a' w',St c I' (fill (hole H ks) ks h0) ((d,res)::Γ) a' w'->wpList P ops Q rest a' w'):wpList P ops Q (⟨some d,.call ⟨.value y,ys,ts⟩,ty,p,af,none⟩::rest) a w:=by
 have dG:=of_decide_eq_true dG;have eG:bQ (dS h0) I w h0:=(U.own.pick iR dG).exact;obtain⟨f,first,gw,e,ug,hc⟩:=hf I w (a.eval y) (ys.map a.eval) U.step.c9 (hy I a U.env rfl) eG (ij I a U.env rfl);refine ik rfl ?_;unfold Oper.wp;have hr:(execOp a.eval (⟨some d,.call ⟨.value y,ys,ts⟩,ty,p,af,none⟩:Oper)).run P w=.ok (.enter f (first++ys.map a.eval++gw)) w:=by
  simp only[execOp,resolve,Deferred.ofValue,e,Sem.run_bind,Sem.run_pure,Result.andThen_ok,invoke,ug _ w]
 rw[hr,Oper.upon_enter];refine Calls.mono hc λe w' he=>?_;cases e with
 |panicked _=>exact he.elim
 |outgrown=>exact he.elim
 |returned v=>
  obtain⟨x,I',_,bJ,ho,hv⟩:=he
  exact k I' _ w' (U.EO (h1:=λ_:Unit=>h0) (res:=λ_=>res) (x:=()) ks iR dG bJ ho hv hd)
end
def K8 {α:Type} {L X:List α} {o:Nat} (h:o<=L.length):(over L o X).take o=L.take o:=by
 unfold over;rw[List.append_assoc];exact List.take_left' ff
def K9 {l:List (List AV)} {sz i:Nat} {R Y:List (Option AV)} (dJ:∀r∈l,r.length=sz) (hi:i<l.length):
 (over (over (l.flatten.map some++R) (i*sz) ((l.drop (i+1)).flatten.map some)) ((i+(l.length-(i+1)))*sz) Y).take ((l.take i++l.drop (i+1)).length*sz)=(l.take i++l.drop (i+1)).flatten.map some:=by
 have hA:(l.take i).flatten.length=i*sz:=by rw[fL λr hr=>dJ r (List.mem_of_mem_take hr),List.length_take,Nat.min_eq_left om]
 have hB:(l.drop (i+1)).flatten.length=(l.length-(i+1))*sz:=by rw[fL λr hr=>dJ r (List.mem_of_mem_drop hr),List.length_drop]
 have hF:l.flatten.length=l.length*sz:=fL dJ;have hlen:(l.take i++l.drop (i+1)).length=i+(l.length-(i+1)):=by simp;omega
 have hm:(i+(l.length-(i+1)))*sz=i*sz+(l.length-(i+1))*sz:=Nat.add_mul _ _ _;have hle:i*sz+(l.length-(i+1))*sz<=l.length*sz:=by rw[<-Nat.add_mul];exact Nat.mul_le_mul_right _ om
 rw[hlen,K8]
 .unfold over;have h1:(l.flatten.map some++R).take (i*sz)=(l.take i).flatten.map some:=by
   have e:l.flatten=(l.take i).flatten++(l.drop i).flatten:=by rw[<-List.flatten_append,List.take_append_drop]
   rw[e,List.map_append,List.append_assoc];exact List.take_left' (by rw[List.length_map,hA])
  rw[h1,hm,<-List.map_append,<-List.flatten_append];exact List.take_left' (by rw[List.length_map,List.flatten_append,List.length_append,hA,hB])
 rw[kx]<;>simp only[List.length_append,List.length_map,hF,hB]<;>omega
section
variable {P:Program} {c:Ctx} {I I':Im} {H:List Own} {Γ:Env} {a:Act} {w:World} {E T:TypeId} {sz:Nat} {v:Value} {D D':List AV} {L L':List Own} {K:ka}
def St.BL (n:Nat) (U:St c I H Γ a w):∃I',St c I' (H.take n) Γ a w/\Im.le I I'/\ew I' w (Own.many (H.drop n))/\(Own.many (H.drop n)).ok I w:=by
 have h:=U.tie n rfl;have ho:=(h.own.all (Own.many (H.drop n)) be).1;obtain⟨I',h2,hl,bJ⟩:=h.KO (O:=Own.many (H.drop n)) (H.take n).length be;refine⟨I',?_,hl,bJ,ho⟩;have h3:=h2.drop (H.take n).length;rwa[List.set_append_right _ _ (Nat.le_refl _),List.take_left] at h3
def ew.list (h:ew I' w (Own.many L)) (U:L'.Sublist L):ew I' w (Own.many L'):=λb cs T fr ⟨o,ho,e⟩ k=>h b cs T fr ⟨o,U.subset ho,e⟩ k
def T9 (h:(Own.many L).ok I w) (U:L'.Sublist L):(Own.many L').ok I w:=⟨λo ho=>h.1 o (U.subset ho),h.2.sublist U⟩
def FH (h:jx I D D') (k:(AV.agg D).h I v):(AV.agg D').h I v:=by
 obtain⟨cs,e,k⟩:=k;exact⟨cs,e,h _ k⟩
def La (h:jx I D D') (hn:D.length=D'.length) (k:(AV.ptr D).h I v):(AV.ptr D').h I v:=by
 obtain⟨q,e,oV,cs,e1,hl⟩:=k;exact⟨q,e,oV,cs,e1,by rw[<-hn];exact h _ hl⟩
def St.wE {x y:AV} (t:Nat) (U:St c I H Γ a w) (ht:Env.get t Γ=some x) (h:∀v,x.h I v->y.h I v):St c I H ((t,y)::Γ) a w:=U.E2 h ht
def Ua {t:NT} {y:aM} {zs:List AV} (n:Nat) (hH:(H.drop n).take 4=t.owns K) (hy:t.plain=y) (zf:∀Γ:Env,(∀k,Env.get (k+1) Γ=Env.get (k+1) (js 0 (t.av::zs)))->sV 1 zs Γ) (c:Ctx) (I:Im) (a:Act) (w:World) (U:St c I H (js 0 (t.av::zs)) a w):∃I2 H2 Γ2,St c I2 H2 Γ2 a w/\sV 0 (y.av::zs) Γ2:=by
 subst hy;obtain⟨I',h,hl,bJ,ho⟩:=U.BL 0;have Bz:(t.owns K).Sublist (H.drop 0):=by rw[<-hH];exact(List.take_sublist 4 _).trans (List.drop_sublist n H)
 have h2:=h.wE (x:=t.av) (y:=t.plain.av) 0 rfl λv hv=>FH (NT.qk (T9 ho Bz) (bJ.list Bz) hl) hv;exact⟨I',_,_,h2,rfl,zf _ λk=>rfl⟩
def qm {t:NT} {y:aM} {z:AV} (n:Nat) (hH:(H.drop n).take 4=t.owns K) (hy:t.plain=y) (c:Ctx) (I:Im) (a:Act) (w:World) (U:St c I H (js 0 [t.av,z]) a w):∃I2 H2 Γ2,St c I2 H2 Γ2 a w/\sV 0 [y.av,z] Γ2:=
 Ua (zs:=[z]) n hH hy (λΓ h=>⟨h 0,trivial⟩) c I a w U
def bG.FI {f:FuncId} {args:List AV} {y:aM} (h:bG P f args [] (λt:NT=>t.plain=y) (λt=>t.owns K) (λt=>AV.agg t.cells)):Fn P f args y.av:=h.frozen λt c I a w ht U=>by
 subst ht;obtain⟨I',h,hl,bJ,ho⟩:=U.BL 0;exact⟨I',_,_,h.wE (x:=t.av) (y:=t.plain.av) 0 rfl λv hv=>FH (NT.qk ho bJ hl) hv⟩
def bG.Ub {f:FuncId} {args:List AV} {y:aM} {b:Bool} (h:bG P f args [] (λt:NT=>t.plain=y) (λt=>t.owns K) (λt=>AV.c8 [AV.agg t.cells,AV.bool b])):Fn P f args (AV.c8 [y.av,AV.bool b]):=h.frozen λt c I a w ht U=>by
 subst ht;obtain⟨I',h,hl,bJ,ho⟩:=U.BL 0;refine⟨I',_,_,h.wE (x:=AV.c8 [AV.agg t.cells,AV.bool b]) (y:=AV.c8 [t.plain.av,AV.bool b]) 0 rfl λv hv=>?_⟩;obtain⟨⟨cs⟩,e,k⟩:=hv;match cs,e,k with
 |[_,_],e,⟨k1,k2,_⟩=>exact⟨_,e,FH (NT.qk ho bJ hl) k1,k2,trivial⟩
def bG.ar {f:FuncId} {args:List AV} {m:List aJ} (h:bG P f args [] (λp:Value×List VT=>p.2.map VT.x=m) (λp=>[Own.ar K p.1 p.2]) (λp=>AV.val p.1)):Fn P f args (cm m):=h.frozen λp c I a w hp U=>by
 subst hp;obtain⟨I',h,hl,bJ⟩:=U.KO (O:=Own.ar K p.1 p.2) 0 rfl;have ho:=(U.own.all (Own.ar K p.1 p.2) be).1;exact⟨I',_,_,h.wE (x:=.val p.1) (y:=cm (mK p.2)) 0 rfl λv (hv:v=p.1)=>by rw[hv];exact bJ.ar ho hl⟩
def flat_agg (h:∀y∈D,y.Flat):(AV.agg D).Flat:=λI J v ⟨cs,e,k⟩=>⟨cs,e,Fs h k⟩
def NT.FJ (t:NT):∀y∈t.cells,y.Flat:=λy hy=>by
 simp only[NT.cells,List.mem_cons,List.not_mem_nil,or_false] at hy;rcases hy with rfl|rfl|rfl|rfl|rfl<;>exact qi
def St.oa {α:Type} (E:TypeId) (sz:Nat) (C:α->List AV) (O:α->List Own) (U:St c I H Γ a w):St c I (H++[Own.tree (.slice none 0 0) E sz C O []]) Γ a w:=by
 have h:=(U.en (sz:=sz) E).mO;have h2:=St.join (H:=H) (L:=[Own.row (.slice none 0 0) E sz [],Own.many []]) (by simpa using h);exact h2
def St.FK {t:NT} (n s:Nat) (U:St c I H Γ a w) (hH:H.drop n=t.owns K) (ht:Env.get s Γ=some (.ptr t.cells)):∃I',St c I' (H.take n) ((s,.ptr t.plain.cells)::Γ) a w:=by
 obtain⟨I',h,hl,bJ,ho⟩:=U.BL n;rw[hH] at bJ ho;exact⟨I',h.wE s ht λv hv=>La (NT.qk ho bJ hl) rfl hv⟩
end
def Lb:∀l:List aJ,n9 l<=6*(l.length+(l.map λv=>v.aK.length).sum)
 |[]=>by simp[n9]
 |v::l=>by
  have h:=Lb l;unfold n9 at h⊢;simp only[List.map_cons,List.sum_cons,List.length_cons,jh];omega
def uF {α:Type} {f:α->Nat} {c:Nat}:∀{l:List α},(∀x∈l,f x<=c)->(l.map f).sum<=l.length*c
 |[],_=>by simp
 |x::l,h=>by
  have h1:=h x be;have h2:=uF (l:=l) λy hy=>h y (by simp[hy]);simp only[List.map_cons,List.sum_cons,List.length_cons,Nat.add_mul,Nat.one_mul];omega
def wF {α:Type} {f g:α->Nat} {c:Nat} (h:∀x,f x<=c*(1+g x)):∀l:List α,(l.map f).sum<=c*(l.length+(l.map g).sum)
 |[]=>by simp
 |x::l=>by
  have h1:=h x;have h2:=wF h l;simp only[List.map_cons,List.sum_cons,List.length_cons];have e:c*(l.length+1+(g x+(l.map g).sum))=c*(1+g x)+c*(l.length+(l.map g).sum):=by rw[<-Nat.mul_add];congr 1;omega
  omega
end Go.Proofs.YtldbakcpcfdlaaaGreat
namespace Go.Proofs.YtldbakcpcfdlaaaGreat
open Go Go.RowKit Go.ChangeShapes Go.WideShapes Go.ChangeAt
section
variable {H:Type} {enc:TypeId×Value->H} {P:Program}
def mB (W:World):Im:=λb=>match W.heap[b]? with
 |some (.cells cs _ _)=>some cs
 |_=>none
def DG (W:World):dR W (mB W):=λb cs e=>by
 unfold mB at e;split at e
 .rename_i iE T fr h;cases e;exact⟨T,fr,h⟩
 cases e
def Uc {W:World} {b:Nat} {cs:Array Value} {T:TypeId} {fr:Nat×Nat} (h:W.heap[b]?=some (.cells cs T fr)):mB W b=some cs:=by unfold mB;rw[h]
def Lc {W:World} {a:Addr} {v:Value} (h:W.cell? a=some v):a.spot=none/\∃cs T fr,W.heap[a.block]?=some (.cells cs T fr)/\cs[a.off]?=some v:=by
 have U:=World.cell?_spot h;refine⟨U,?_⟩;unfold World.cell? at h;rw[U] at h;split at h
 .rename_i cs T fr he;exact⟨cs,T,fr,he,by simpa using h⟩
 simp at h
def Ud {W:World} {base:Nat} {a:Addr} {n:Nat} {iE:List Value} {cs:Array Value} {T:TypeId} {fr:Nat×Nat} (h:W.cells? base a n=some iE) (ha:W.heap[a.block]?=some (.cells cs T fr)):(cs.toList.drop a.off).take n=iE:=by
 obtain⟨_,hl,hc⟩:=World.cells?_some h;apply List.ext_getElem?;intro i;rw[List.getElem?_take];split
 .rename_i hi;rw[<-hc i hi,List.getElem?_drop];obtain⟨v,hv⟩:∃v,iE[i]?=some v:=⟨iE[i]'om,by simp[hl,hi]⟩
  obtain⟨_,Ue,T2,fr2,h2,h3⟩:=Lc ((hc i hi).trans hv);have hb:(a.add i).block=a.block:=by unfold Addr.add;split<;>rfl
  have ho:(a.add i).off=a.off+i:=by unfold Addr.add;split<;>simp_all
  rw[hb,ha] at h2;cases h2;rw[hc i hi,hv,<-ho];simpa using h3
 rename_i hi;rw[List.getElem?_eq_none om]
def Uf {n:Int} (h:(Lit.int .i64 n).wf=true):db n:=by
 simp only[Lit.wf,Bool.and_eq_true,decide_eq_true_eq] at h;exact⟨h.1,h.2⟩
def DH {f:Func} {s:ChangeSpec} {apart fresh handsOn again:Bool} {W W':World} {args:Array Value} {v:Value} {ds gs:List (DataW H)} {before pa pv:List MemPlace}
 (hW:DataW.Whole enc P f.params.toList s.vars apart W args.toList ds gs before)
 (Ld:∀(b:Nat) (sp:Nat->Bool) (hd:Bool),DataW.TrodAll enc P W' b sp hd f.resultTypes.toList (v.resultList f.resultTypes.size) (s.fn H (ds++gs)).results [])
 (ij:∀sp:Nat->Bool,(∀p∈before,sp p.block=true)->DataW.TrodAll enc P W' 0 sp true f.params.toList args.toList (s.fn H (ds++gs)).args pa)
 (Le:∀sp:Nat->Bool,(∀p∈before,sp p.block=true)->DataW.TrodVars enc P W' sp s.vars (s.fn H (ds++gs)).vars pv)
 (BM:before=pa++pv) (hb:Below W.heap.size W W')
 (aj:∀(j:Nat) (t:TypeId) (r:Value),f.resultTypes[j]?=some t->(v.resultList f.resultTypes.size)[j]?=some r->Value.okWide P W' .any 0 t r):
 s.post enc P f apart fresh handsOn again W args v W':=by
 have bW:=λp hp=>hW.lt p hp;have hold:∀p∈before,(λb=>decide (b<W.heap.size)) p.block=true:=λp hp=>by simpa using bW p hp
 refine⟨ds,gs,before,[],pa,pv,hW,Ld _ _ _,ij _ hold,Le _ hold,World.keptBut_mono (λp hp=>⟨hp,?_⟩) (hb.frame (·∈before)),λ_=>?_⟩
 .rw[BM,List.mem_append] at hp;exact Or.inr hp
 obtain⟨_,_,_,_,_,hz,hn⟩:=hW;refine⟨aj,_,_,([]++pa)++pv,⟨[]++pa,pv,ChangeShapes.trodAll_append (ij _ (λ_ _=>rfl)) (Ld _ _ _),Le _ (λ_ _=>rfl),rfl,?_,?_⟩,?_⟩
 .intro b off hp;have FL:MemPlace.cell b off∈before:=by rw[BM];simpa using hp
  rw[hb.frozen (p:=⟨b,off,none⟩) (bW _ FL)];exact hz b off FL
 .intro ha;have:=hn ha;rw[BM] at this;simpa using this
 intro p hp _;rw[BM];simpa using hp
end
section
variable {H:Type} {enc:TypeId×Value->H} {P:Program} {W:World}
def ly {α:Type} (enc:TypeId×Value->H) (P:Program) (W:World) (cf:α->List AV) (Fit:α->Prop) (t:TypeId):Prop:=
 ∀n cs x,DataW.trod enc P W 0 (λ_=>true) true n t cs=some x->∃y:α,bs (mB W) (cf y) cs/\Fit y
def eP {t:TypeId} (ht:P.underlying t=some (.int .i64)):ly enc P W (λn:Int=>[AV.int n]) db t:=λn cs x h=>by
 obtain⟨k,rfl,_,hw⟩:=DataW.trod_int ht h;exact⟨k,⟨⟨rfl,rfl⟩,trivial⟩,Uf hw⟩
def BN {t:TypeId} (ht:P.underlying t=some .bool):ly enc P W (λb:Bool=>[AV.bool b]) (λ_=>True) t:=λn cs x h=>by
 obtain⟨k,rfl,_⟩:=DataW.trod_bool ht h;exact⟨k,⟨⟨rfl,rfl⟩,trivial⟩,trivial⟩
def qn {I:Im} {cs:List Value} {k:Nat} (h:cs.length=k):bs I [] (cs.drop k):=by
 rw[List.drop_eq_nil_of_le om];trivial
def c5 {I:Im} {l1 l2:List AV} {cs:List Value} {o s:Nat} (h1:bs I l1 ((cs.drop o).take s)) (h2:bs I l2 (cs.drop (o+s))):bs I (l1++l2) (cs.drop o):=by
 have:=h1.append h2;rwa[<-List.drop_drop,List.take_append_drop] at this
def Lf (fs:Array Field) (i ft off:Nat):Bool:=match fs[i]? with
 |some f=>f.type==ft&&f.offset==off
 |none=>false
def part {α:Type} {cf:α->List AV} {Fit:α->Prop} {fs:Array Field} {m i ft off s:Nat} {cs:List Value} {xs:List (DataW H×List MemPlace)} (ho:ly enc P W cf Fit ft) (hl:xs.length=fs.size)
 (hf:∀(i:Nat) (f:Field),fs[i]?=some f->DataW.trod enc P W 0 (λ_=>true) true m f.type ((cs.drop f.offset).take (P.cellsOf f.type))=xs[i]?) (hb:Lf fs i ft off=true) (U:P.cellsOf ft=s):
 ∃y:α,bs (mB W) (cf y) ((cs.drop off).take s)/\Fit y:=by
 unfold Lf at hb;split at hb
 .rename_i f Lg;rw[Bool.and_eq_true,beq_iff_eq,beq_iff_eq] at hb;have hi:i<fs.size:=(Array.getElem?_eq_some_iff.1 Lg).1;have:=hf i f Lg;rw[List.getElem?_eq_getElem om,hb.1,hb.2,U] at this;exact ho _ _ _ this
 cases hb
def jI {α:Type} [Inhabited α] {cf:α->List AV} {Fit:α->Prop} {sz:Nat} {t e:TypeId} (hu:P.underlying t=some (.slice e)) (hc:P.cellsOf e=sz) (h0:0<sz) (cJ:∀y,(cf y).length=sz) (ho:ly enc P W cf Fit e):
 ly enc P W (λl:List α=>[AV.rows sz (l.map cf)]) (λl=>∀y∈l,Fit y) t:=λn cs x h=>by
 rcases Deep.open_slice hu h with⟨rfl,_⟩|⟨a,len,cap,m,n,D,Pl,rfl,_,Ug,D1,hm,_,Lh⟩
 .exact⟨[],⟨⟨eQ _ _,rfl⟩,trivial⟩,by simp⟩
 have hle:len<=m:=by rw[hm];split<;>omega
 rw[hc] at Lh;have ch:∀i:Nat,∃y:α,i<len->(∃iE,W.cells? 0 (a.add (i*sz)) sz=some iE/\bs (mB W) (cf y) iE)/\Fit y:=λi=>by
  by_cases hi:i<len
  .obtain⟨iE,h1,h2⟩:=Lh i om;obtain⟨y,hy,hf⟩:=ho _ _ _ h2;exact⟨y,λ_=>⟨⟨iE,h1,hy⟩,hf⟩⟩
  exact⟨default,λh=>absurd h hi⟩
 let g:Nat->α:=λi=>(ch i).choose;have hg:∀i,i<len->(∃iE,W.cells? 0 (a.add (i*sz)) sz=some iE/\bs (mB W) (cf (g i)) iE)/\Fit (g i):=λi=>(ch i).choose_spec;have j4:∀r∈((List.range len).map g).map cf,r.length=sz:=λr hr=>by
  simp only[List.map_map,List.mem_map] at hr;obtain⟨i,_,rfl⟩:=hr;exact cJ _
 refine⟨(List.range len).map g,⟨⟨⟨some a,cap,by simp,by simpa using Ug,D1,j4,?_,(λh=>by cases h)⟩,rfl⟩,trivial⟩,?_⟩
 .rcases Nat.eq_zero_or_pos len with hz|mF
  .left;rw[hz];rfl
  right;obtain⟨⟨Uh,FF,hh0⟩,_⟩:=hg 0 mF;obtain⟨_,nh,l8⟩:=World.cells?_some FF;have Li:=l8 0 om;obtain⟨u,Ui⟩:∃u,Uh[0]?=some u:=⟨_,List.getElem?_eq_getElem om⟩;rw[Ui] at Li;obtain⟨Lj,cs,T,fr,hb,_⟩:=Lc Li;have FM:((a.add (0*sz)).add 0)=a:=by simp[Addr.add]
  rw[FM] at hb Lj;refine⟨a,rfl,Lj,cs,Uc hb,?_⟩;have key:∀k,k<=len->bs (mB W) (((List.range k).map g).map cf).flatten ((cs.toList.drop a.off).take (k*sz)):=by
   intro k;induction k with
   |zero=>intro _;simp[bs]
   |succ k ih=>
    intro hk
    have h1:=ih om
    obtain⟨⟨iE,Uj,Uk⟩,_⟩:=hg k om
    have Ul:(a.add (k*sz)).block=a.block:=by unfold Addr.add;split<;>rfl
    have Um:(a.add (k*sz)).off=a.off+k*sz:=by unfold Addr.add;split<;>simp_all
    have h2:=Ud Uj (by rw[Ul];exact hb)
    rw[Um] at h2
    rw[List.range_succ,List.map_append,List.map_append,List.flatten_append,Nat.succ_mul]
    have e3:(cs.toList.drop a.off).take (k*sz+sz)=(cs.toList.drop a.off).take (k*sz)++iE:=by
     rw[<-h2,<-List.drop_drop,List.take_add]
    rw[e3]
    refine h1.append ?_
    simpa using Uk
  have:=key len (Nat.le_refl _);have hlen:(((List.range len).map g).map cf).flatten.length=len*sz:=by
   rw[fL j4];simp
  rwa[hlen]
 intro y hy;obtain⟨i,hi,rfl⟩:=List.mem_map.1 hy;exact(hg i (by simpa using hi)).2
end
section
variable {H:Type} {enc:TypeId×Value->H} {P:Program} {W:World}
def DE {α:Type} {cf:α->List AV} {Fit:α->Prop} {fs:Array Field} {t base:Nat} {v:Value} {d:DataW H} {ps:List MemPlace} (hu:P.underlying t=some (.struct fs)) (ho:ly enc P W cf Fit t) (aj:Value.okWide P W .any base t v) (h:DataW.Trod enc P W 0 (λ_=>true) true t v d ps):
 ∃y,(AV.agg (cf y)).h (mB W) v/\Fit y:=by
 unfold Value.okWide at aj;rw[hu] at aj;obtain⟨cs,rfl,_,_⟩:=aj;obtain⟨fuel,h⟩:=h;obtain⟨y,hy,hf⟩:=ho _ _ _ h;exact⟨y,⟨cs,rfl,hy⟩,hf⟩
def Un {v:Value} (h:∀cs,v≠.agg cs):v.cells.toList=[v]:=by
 cases v<;>first|rfl|exact absurd rfl (h _)
def II {α:Type} {cf:α->AV} {Fit:α->Prop} {t base:Nat} {v:Value} {d:DataW H} {ps:List MemPlace} (ho:ly enc P W (λy=>[cf y]) Fit t) (bH:∀cs,v≠.agg cs) (h:DataW.Trod enc P W 0 (λ_=>true) true t v d ps):
 ∃y,(cf y).h (mB W) v/\Fit y:=by
 obtain⟨fuel,h⟩:=h;rw[Un bH] at h;obtain⟨y,hy,hf⟩:=ho _ _ _ h;exact⟨y,hy.1.1,hf⟩
def Qm {t base:Nat} {v:Value} {k:IntKind} (hu:P.underlying t=some (.int k)) (aj:Value.okWide P W .any base t v):∀cs,v≠.agg cs:=by
 rintro cs rfl;simp[Value.okWide,hu,Cell.okWide,Cell.ok] at aj
def Qp {t base e:Nat} {v:Value} (hu:P.underlying t=some (.slice e)) (aj:Value.okWide P W .any base t v):∀cs,v≠.agg cs:=by
 rintro cs rfl;simp[Value.okWide,hu,Cell.okWide,Cell.ok] at aj
end
def cG.Deep (s:cG):Prop:=db s.time/\db s.site
def ao.Deep (d:ao):Prop:=db d.key/\d.aw.Deep
def aJ.Deep (v:aJ):Prop:=db v.key/\v.aw.Deep/\db v.val/\db v.aB/\db v.call/\∀d∈v.aK,d.Deep
def az.Deep (m:az):Prop:=db m.kind/\db m.bj/\db m.to/\db m.call/\db m.key/\m.aw.Deep/\db m.val/\True/\(∀d∈m.aK,d.Deep)/\db m.slot/\db m.bX/\(∀v∈m.ar,v.Deep)/\(∀v∈m.waits,v.Deep)/\∀d∈m.aE,d.Deep
def ct.Deep (s:ct):Prop:=db s.bX/\db s.fg
def Server.Deep (s:Server):Prop:=db s.site/\True/\(∀x∈s.aQ,x.Deep)/\(∀v∈s.ar,v.Deep)/\(∀v∈s.waits,v.Deep)/\(∀d∈s.aE,d.Deep)/\∀d∈s.bq,d.Deep
def Answer.Deep (a:Answer):Prop:=db a.key/\True/\a.bl.Deep
def Call.Deep (k:Call):Prop:=db k.aB/\db k.num/\db k.kind/\(∀n∈k.keys,db n)/\db k.val/\(∀d∈k.ctx,d.Deep)/\db k.bw/\db k.end_/\True/\k.aw.Deep/\(∀a∈k.au,a.Deep)/\∀d∈k.aO,d.Deep
def aM.Deep (w:aM):Prop:=db w.time/\(∀s∈w.aF,s.Deep)/\(∀m∈w.aC,m.Deep)/\(∀k∈w.calls,k.Deep)/\∀l∈w.seen,∀d∈l,d.Deep
def Ev.Deep (e:Ev):Prop:=db e.kind/\db e.at_/\db e.aB/\db e.word/\db e.iB/\db e.slot/\db e.call/\db e.a/\db e.b/\db e.c/\db e.val
end Go.Proofs.YtldbakcpcfdlaaaGreat

/- Part 44: contracts of functions, plain facts. -/
import Derived.Test.YtldbakcpcfdlaaaGreatP42
set_option linter.all false
set_option maxRecDepth 100000
set_option maxHeartbeats 4000000
namespace Go.Proofs.YtldbakcpcfdlaaaGreat
open Go Go.RowKit Tryz
attribute [local irreducible] wpList Code.wp Ok
def adi {w:aM} (h:fN w=true) (e:Ev):fN (fl w e).1=true:=by
 unfold fl;rw[if_pos h];exact AD h e
def xz:Value->Value
 |.tuple cs=>cs.getD 0 undef
 |_=>undef
section
variable {P:Program} {c:Ctx} {I:Im} {H:List Own} {Γ:Env} {a:Act} {w:World} {Q:Exit->Act->World->Prop} {ops:Array Oper} {rest:List Oper} {E T:TypeId} {sz:Nat} {v:Value} {D:List AV} {Hf:List (EA->Own)} {os:List Oper} {ms:Meta} {ty:TypeId} {p:String} {af:Array Edge}
def Qg:∀{us:List Value},c7 I (us.map AV.val) us
 |[]=>trivial
 |_::_=>⟨rfl,Qg⟩
def Qh {Ts:List Nat} {a:EA} {F:Nat->Own}:∀(n:Nat) (L:List (EA->Own)),(dq Ts a F n L).length=L.length
 |_,[]=>rfl
 |n,f::L=>by simp[dq,Qh (n+1) L]
def adj {k:Nat} {Ts:List Nat} {a a':EA} {F:Nat->Own} {f:EA->Own} {O:Own} (h:O=f a') (hc:dq Ts a F 0 Hf=dq Ts a' F 0 Hf):(dq (k::Ts) a F 0 Hf).set k O=dq (k::Ts) a' F 0 (Hf.set k f):=by
 apply List.ext_getElem?;intro j;rw[o6,List.getElem?_set,List.getElem?_set,o6,Qh];by_cases zG:k=j
 .subst zG;simp only[if_true,Nat.zero_add];by_cases hl:k<Hf.length
  .rw[if_pos hl,if_pos hl];simp[h]
  rw[if_neg hl,if_neg hl];simp
 rw[if_neg zG,if_neg zG];have hj:=congrArg (λL=>L[j]?) hc;simp only[o6,Nat.zero_add] at hj⊢;cases hf:Hf[j]? with
 |none=>rfl
 |some g=>
  rw[hf] at hj
  simp only[Option.map_some,Option.some.injEq] at hj⊢
  have e:(k::Ts).contains j=Ts.contains j:=by
   have:(j==k)=false:=by simpa usingλe=>zG e.symm
   rw[List.contains_cons,this,Bool.false_or]
  rw[e];exact hj
def adk {k:Nat} {Ts:List Nat} {a:EA} {F:Nat->Own} {f:EA->Own} (h:Hf[k]?=some f):(dq (k::Ts) a F 0 Hf)[k]?=some (f a):=by
 rw[o6,h];simp
def aP.adl {α:Type} {d:Nat} {f:FuncId} {ys:Array Operand} {ts:Array TypeId} {xs gi:List AV} {ok:α->Prop} {h1:α->List Own} {res:α->AV} (z:AV) (k:Nat) (Ts:List Nat) (hk:Hf[k]?=some λ_=>Own.gone) (hc:∀F a a',dq Ts a F 0 Hf=dq Ts a' F 0 Hf) (hd:Nat.blt d c.n=true) (hf:bG P f gi [] ok h1 res)
 (ij:∀I a,cW I a (Γ.only ((⟨some d,.call ⟨.value (.func f),ys,ts⟩,ty,p,af,none⟩:Oper).looksAt ops))->true=true->c7 I xs (ys.map a.eval).toList)
 (fz:∀(F:Nat->Own) (e:EA) (c:Ctx) (I:Im) (a:Act) (w:World),St c I (dq (k::Ts) e F 0 Hf) (js 0 xs) a w->∃I2 H2 Γ2,St c I2 H2 Γ2 a w/\sV 0 gi Γ2) (hn:gi.length=xs.length)
 (hO:∀x,ok x->∀o∈h1 x,o.Flat) (hr:∀x,ok x->(res x).Flat) (FD:∀x I v,ok x->(res x).h I v->z.h I v)
 (r:aP P c ops Q ((d,z)::Γ) (Hf.set k λe=>Own.au ok h1 res (e.g d) (e.tmps.getD d undef)) os ms):aP P c ops Q Γ Hf (⟨some d,.call ⟨.value (.func f),ys,ts⟩,ty,p,af,none⟩::os) ((k::Ts,some (k,[d]))::ms):=
 aP.cons (u:=some ⟨k,[d],λe=>Own.au ok h1 res (e.g d) (e.tmps.getD d undef)⟩) (x:=z) (λv e=>by
  cases e;intro a a' hh;show Own.au ok h1 res (a.g d) (a.tmps.getD d undef)=Own.au ok h1 res (a'.g d) (a'.tmps.getD d undef);rw[(hh d be).1,(hh d be).2]) (λF W0 I0 I γ a w Q U kk=>by
  refine U.Fu hf ij (fz F (ea a γ)) hn hd hO hr λx I' a' w' hx bB=>?_;have hv:(res x).h I' (a'.tmps.getD d undef):=bB.env d (res x) (by simp[Env.get]);have hm:(Own.many (h1 x)).ok I' w':=⟨λo ho=>(bB.own.all o (List.mem_append_right _ ho)).1,(List.pairwise_append.1 bB.own.apart).2.1⟩;have eG:=bB.own.close (o:=Own.au ok h1 res (Own.many (h1 x)) (a'.tmps.getD d undef)) (λb h=>h) ⟨hm,x,hx,hv,rfl⟩;have eW:St ⟨W0.1,I0,c.n,W0.2⟩ I' (dq (k::Ts) (ea a γ) F 0 Hf++[Own.au ok h1 res (Own.many (h1 x)) (a'.tmps.getD d undef)]) ((d,z)::Γ.only ((⟨some d,.call ⟨.value (.func f),ys,ts⟩,ty,p,af,none⟩:Oper).looksAt ops)) a' w':=
   ⟨bB.step,eG,λt y e=>by
    simp only[Env.get] at e;cases hb:Nat.beq d t with
    |true=>rw[hb] at e;obtain rfl:d=t:=Nat.eq_of_beq_eq_true hb;simp at e;subst e;exact FD x I' _ hx hv
    |false=>rw[hb] at e;exact bB.env t y (by simp only[Env.get,hb];exact e),bB.size,bB.defers⟩
  exact kk (λt=>if t=d then Own.many (h1 x) else γ t) (λt ht=>if_neg λe=>ht (by rw[e])) I' a' w' ((eW.sR k (adk hk)).pass (adj (a':=ea a' λt=>if t=d then Own.many (h1 x) else γ t) (f:=λe=>Own.au ok h1 res (e.g d) (e.tmps.getD d undef)) (by
   show _=Own.au ok h1 res (if d=d then Own.many (h1 x) else γ d) _;rw[if_pos rfl]) (hc _ _ _)))) r
def aP.adm {d t:Nat} (z:AV) (k:Nat) (hk:Hf[k]?=some λ_=>Own.gone) (hd:Nat.blt d c.n=true) (dG:[t].contains d=false) (ht:Env.get t (Γ.only ((⟨some d,.move (.tmp t),ty,p,af,none⟩:Oper).looksAt ops))=some z) (hz:z.Flat)
 (r:aP P c ops Q ((d,z)::Γ) (Hf.set k λe=>Own.is (.val (e.tmps.getD t undef)) (e.tmps.getD d undef)) os ms):aP P c ops Q Γ Hf (⟨some d,.move (.tmp t),ty,p,af,none⟩::os) (([k],some (k,[d,t]))::ms):=
 aP.ze z k [t] (λe=>.val (e.tmps.getD t undef)) hk rfl rfl hd (λa b h=>by rw[h t be]) dG (λF a I he=>
  ⟨vE λI' a' uC _=>uC t (AV.val (a.tmps.getD t undef)) (by simp[pd,Env.get]),λI' v (hv:v=a.tmps.getD t undef)=>by rw[hv];exact hz _ _ _ (he t _ ht)⟩) r
def aP.adn {d t n:Nat} {l:List AV} (k:Nat) (hk:Hf[k]?=some λ_=>Own.gone) (hd:Nat.blt d c.n=true) (dG:[t].contains d=false) (ht:Env.get t (Γ.only ((⟨some d,.extract (.tmp t) 0,ty,p,af,none⟩:Oper).looksAt ops))=some (.c8 (.kS n::l)))
 (r:aP P c ops Q ((d,.kS n)::Γ) (Hf.set k λe=>Own.is (.agg (eA (xz (e.tmps.getD t undef)))) (e.tmps.getD d undef)) os ms):aP P c ops Q Γ Hf (⟨some d,.extract (.tmp t) 0,ty,p,af,none⟩::os) (([k],some (k,[d,t]))::ms):=
 aP.ze (.kS n) k [t] (λe=>.agg (eA (xz (e.tmps.getD t undef)))) hk rfl rfl hd (λa b h=>by rw[h t be]) dG (λF a I he=>by
  obtain⟨⟨cs⟩,e,gu⟩:=he t _ ht;match cs,e,gu with
  |u::us,e,⟨hu,hus⟩=>
   have e0:xz (a.tmps.getD t undef)=u:=by rw[e];rfl
   refine⟨Ju (l:=.agg (eA u)::us.map AV.val) (i:=0) (λI' a' uC _=>?_) (by rw[<-e0];rfl),λI' v hv=>?_⟩
   .have h1:a'.tmps.getD t undef=a.tmps.getD t undef:=uC t (AV.val (a.tmps.getD t undef)) (by simp[pd,Env.get])
    show(AV.c8 (.agg (eA u)::us.map AV.val)).h I' (a'.tmps.getD t undef)
    rw[h1,e]
    exact⟨_,rfl,K1 hu,Qg⟩
   have hl:(eA u).length=n:=uB hu
   exact sY hv (by show(eA (xz (a.tmps.getD t undef))).length=n;rw[e0];exact hl)) r
def aP.ado {d t' n m:Nat} {T':TypeId} {l:List AV} {zv:Value} (k:Nat) (hk:Hf[k]?=some λa=>j8 T' l (a.tmps.getD d undef)) (hT:Ty P T true n m zv) (hy:Env.get d (Γ.only ((⟨none,.store T (.tmp d) (.tmp t'),ty,p,af,none⟩:Oper).looksAt ops))=some AV.sP)
 (hz:Env.get t' (Γ.only ((⟨none,.store T (.tmp d) (.tmp t'),ty,p,af,none⟩:Oper).looksAt ops))=some (AV.kS n)) (hl:l.length=n)
 (r:aP P c ops Q Γ (Hf.set k λa=>j8 T' (eA (a.tmps.getD t' undef)) (a.tmps.getD d undef)) os ms):aP P c ops Q Γ Hf (⟨none,.store T (.tmp d) (.tmp t'),ty,p,af,none⟩::os) (([k],some (k,[d,t']))::ms):=
 aP.cons (u:=some ⟨k,[d,t'],λa=>j8 T' (eA (a.tmps.getD t' undef)) (a.tmps.getD d undef)⟩) (x:=AV.any) (λv e=>by
  cases e;intro a a' hh;show j8 T' (eA (a.tmps.getD t' undef)) (a.tmps.getD d undef)=j8 T' (eA (a'.tmps.getD t' undef)) (a'.tmps.getD d undef);rw[(hh d be).1,(hh t' be).1]) (λF W0 I0 I γ a w Q U kk=>by
  obtain⟨b,hb⟩:=U.env d _ hy;have hc:=U.env t' _ hz;have hn:=uB hc;obtain⟨cs,hv,sI⟩:=K1 hc;have ek:=kv (a:=ea a γ) (F:=F) hk;rw[wa hb] at ek;obtain⟨w',hr,bB⟩:=U.yr (q:=0) (lx:=eA (a.tmps.getD t' undef)) (v:=a.tmps.getD t' undef) k hT ek (by rw[hv] at sI⊢;exact sI) hn (by rw[hl];simp);have e:eC l 0 (eA (a.tmps.getD t' undef))=eA (a.tmps.getD t' undef):=by
   unfold eC;rw[List.take_zero,List.nil_append,List.drop_eq_nil_of_le om,List.append_nil]
  rw[e] at bB;exact ik rfl (tZ hb rfl hr (kk γ (λ_ _=>rfl) I _ w' (bB.pass (l7 (a':=ea a γ) (f:=λa=>j8 T' (eA (a.tmps.getD t' undef)) (a.tmps.getD d undef)) (wa hb).symm))))) r
def St.adp {d1 d2 d3 s:Nat} {l:List AV} (U:St c I H Γ a w) (h1:Env.get d1 Γ=some (.c8 (.agg D::l))) (h2:Env.get d2 Γ=some (.val (a.tmps.getD d1 undef))) (h3:Env.get d3 Γ=some (.agg (eA (xz (a.tmps.getD d2 undef))))) (h4:Env.get s Γ=some (.ptr (eA (a.tmps.getD d3 undef)))):St c I H ((s,.ptr D)::Γ) a w:=by
 obtain⟨⟨cs⟩,e,gu⟩:=U.env d1 _ h1;have e2:a.tmps.getD d2 undef=a.tmps.getD d1 undef:=U.env d2 _ h2;match cs,e,gu with
 |u::us,e,⟨hu,_⟩=>
  have e0:xz (a.tmps.getD d2 undef)=u:=by rw[e2,e];rfl
  obtain⟨ds,e3,A6⟩:=U.env d3 _ h3
  rw[e0] at A6
  obtain⟨AK,rfl,Qi⟩:=hu
  have e4:ds.toList=AK.toList:=FB A6
  have e5:eA (a.tmps.getD d3 undef)=eA (.agg AK):=by rw[e3];show ds.toList.map AV.val=AK.toList.map AV.val;rw[e4]
  have hl:(eA (.agg AK)).length=D.length:=by
   have:=(BI Qi).1;simpa[eA] using this
  refine U.wE s h4 λv hv=>?_
  rw[e5] at hv
  exact La (FC ⟨AK,rfl,Qi⟩) hl hv
end
def Qj (x:aM) (e:Ev) (hf:x.Fit) (hl:x.calls.length<=1048576):
 bG prog 36 [x.av,e.av] [] (λt:NT=>t.plain=(fl x e).1) (λt=>t.owns KK) (λt=>AV.c8 [AV.agg t.cells,AV.bool (fl x e).2]):=by
 refine bG.intro 21 func36 rfl ntmps36 rfl aq (λW I a U=>?_);refine aA λI a w U=>?_;refine U.alloc rfl dz ny λb4 I a w U=>?_;refine aA λI a w U=>?_;refine U.o (.c1 (PU x hf hl)) λU=>?_;refine al λI a w U=>?_;refine U.cd (λab=>?_) λab=>?_
 .replace ab:=nt ab;refine zt ?_;refine U.o (.bd ny bf.nil) λU=>?_;refine ax λI a w U=>?_;have dG:fl x e=(te,false):=by unfold fl;rw[ab];rfl
  have U:=U.oa KK.server 7 ST.cells (ST.owns KK);have U:=U.oa KK.word 15 WT.cells (WT.owns KK);have U:=U.oa KK.call 13 CT.cells (CT.owns KK);have U:=U.oa KK.seen 1 DT.cells (DT.owns KK);refine U.cE N0 [1,2,3,4] rfl (.cons (.sx 0) (.cons (.t rfl) .nil)) (by rw[dG];rfl) rfl (by rw[dG];rfl)
 replace ab:=nf ab;have hg:=lS.1 ab;refine aA λI a w U=>?_;refine U.o (.c2 (xy x e hg.1 hg.2)) λU=>?_;refine aV λI a w U=>?_;refine U.alloc rfl dz dT λb6 I a w U=>?_;refine U.sb 1 λU=>?_;obtain⟨I,U⟩:=U.fb 1 6;refine aA λI a w U=>?_;refine U.dX [] (HM (kY x e).1 (lS.1 (AD ab e)).1.small) (an .tt aH) rfl bA rfl λt I a w adq U=>?_;change St _ _ ([Own.box b4 28 [AV.int 0,AV.val (.slice none 0 0),AV.val (.slice none 0 0),AV.val (.slice none 0 0),AV.val (.slice none 0 0)],Own.gone]++t.owns KK) _ _ _ at U;refine aI λI a w U=>?_;have dG:fl x e=kY x e:=by unfold fl;rw[if_pos ab]
 refine U.cE t [2,3,4,5] rfl (.cons (.sx 0) (.cons (.t rfl) .nil)) (by rw[dG];exact adq) rfl (by rw[dG];rfl)
def adr (x:aM) (e:Ev):fN (fl x e).1=true\/(fl x e).1=te:=by
 cases h:fN x with
 |true=>left;exact adi h e
 |false=>right;unfold fl;rw[h];rfl
def ads {D:List AV} {b:Bool} (h:(AV.agg D).Flat):(AV.c8 [AV.agg D,AV.bool b]).Flat:=λI J v ⟨⟨cs⟩,e,k⟩=>by
 match cs,e,k with
 |[_,_],e,⟨k1,k2,_⟩=>exact⟨_,e,h _ _ _ k1,k2,trivial⟩
def adt {D:List AV} {n:Nat} {b:Bool} {I:Im} {v:Value} (h:(AV.c8 [AV.agg D,AV.bool b]).h I v) (hn:D.length=n:=by rfl):(AV.c8 [AV.kS n,AV.bool b]).h I v:=by
 obtain⟨⟨cs⟩,e,k⟩:=h;match cs,e,k with
 |[_,_],e,⟨k1,k2,_⟩=>exact⟨_,e,sY k1 hn,k2,trivial⟩
def adu {n:Nat} {b:Bool}:(AV.c8 [AV.kS n,AV.bool b]).Flat:=λI J v ⟨⟨cs⟩,e,k⟩=>by
 match cs,e,k with
 |[_,_],e,⟨k1,k2,_⟩=>exact⟨_,e,k1,k2,trivial⟩
def Qo (x:aM) (e:Ev) (hd:x.Deep):
 Fn prog 11 [x.av,e.av] (AV.bool true):=by
 refine Fn.go 104 func11 ntmps11 (λW I a U=>?_);refine df λI a w U=>?_;refine U.o (bx (Py _ _ om om) (an (.t rfl) (an (.t rfl) aH))) λU=>?_;refine aI λI a w U=>?_;refine cz (λab=>?_) λab=>?_
 .refine aW ?_;rfl
 refine zt ?_;have hw:=OZ ab;have dV:=OY hw;have il:=NF hd;have HG:=O2 hw;have hsx:=O3 hw;obtain⟨Qd,Qe⟩:=It (adr x e);obtain⟨l1,l2⟩:=And.intro (zb 1 x) (zb 1 (fl x e).1);have U:=U.dH;refine U.fV [([],none),([],none),([],none),([],none),([],none),([],none),([],none),([],none),([0],some (0,[6])),([0],some (0,[6])),([],none)] aq aq rfl ?_;refine br ?_;refine .o (bx (xw x hw) (an .tt aH)) ?_;refine br ?_;refine .o (.c1 (CP e))<|.o (.c2 (Qb x e dV.2)) ?_;refine ee ?_;refine aP.alloc 0 rfl rfl dz dT<|aP.ri 0 rfl dz rfl .tt rfl rfl ?_;refine br ?_;refine .nil ?_;intro I a w U;obtain⟨b6,U⟩:=U.nv (d:=6) 0 rfl rfl;obtain⟨I,U⟩:=U.fb 0 6;have U:=U.drop 0;refine aX λI a w U=>?_;refine U.dX [] (Ih x hw) (an .tt aH) rfl bA rfl λt I a w adv U=>?_;have q4:=adv;change St _ _ (t.owns KK) _ _ _ at U;refine U.alloc rfl dz dT λb8 I a w U=>?_;refine al λI a w U=>?_;obtain⟨I,U⟩:=U.fb 4 8;have U:=U.drop 4;change St _ _ (t.owns KK) _ _ _ at U;have U:=U.dH;have U:=U.dH;have U:=U.dH;have U:=U.dH;refine U.ql 9 [([],none),([],none),([],none),([5,0,1,2,3],some (5,[35])),([6],some (6,[31,35])),([7],some (7,[36,31])),([],none),([4],some (4,[9])),([4],some (4,[9,36]))] aq aq rfl ?_;simp only[TD];refine cy ?_;refine .o (.c1 (CP e)) ?_;refine aP.adl (xs:=[t.av,e.av]) (gi:=[x.av,e.av]) (AV.c8 [AV.kS 5,AV.bool (fl x e).2]) 5 [0,1,2,3] rfl (λ_ _ _=>rfl) rfl (Qj x e il dV.1) (an .tt (an .tt aH)) (λF e c I a w U=>by exact qm 0 rfl q4 c I a w U) rfl (λ_ _=>NT.Fv _) (λg _=>ads (flat_agg g.FJ)) (λ_ _ _ _ e=>adt e) ?_;refine aP.adm (AV.c8 [AV.kS 5,AV.bool (fl x e).2]) 6 rfl rfl rfl rfl adu<|aP.adn 7 rfl rfl rfl rfl ?_;refine br ?_;refine aP.alloc 4 rfl rfl dz dT<|aP.ado 4 rfl dz rfl rfl rfl<|aP.rh ?_;intro γ I a w U;obtain⟨b9,U⟩:=U.nv (d:=9) 4 rfl rfl;obtain⟨I,U⟩:=U.fb 4 9;obtain⟨g,ju,U⟩:=U.qj (d:=35) 5 rfl;have U:=U.rD (d:=31) 6 rfl;have U:=U.rD (d:=36) 7 rfl;have U:=U.adp (d1:=35) (d2:=31) (d3:=36) (s:=9) rfl rfl rfl rfl;change St _ _ (t.owns KK++[Own.gone,Own.gone,Own.gone,Own.gone]++g.owns KK) _ _ _ at U;have U:=U.sZ 8;have U:=U.drop 8;have U:=U.sZ 4;change St _ _ (t.owns KK++g.owns KK) _ _ _ at U;show wpList _ _ _ _ _ _;refine aV λI a w U=>?_;refine U.o (nx (xs:=[g.av,(fl x e).1.av]) (gi:=[(fl x e).1.av,(fl x e).1.av]) (pT (fl x e).1) (an .tt (an .tt aH)) (λc I a w U=>by exact qm 4 rfl ju c I a w U)) λU=>?_;refine aR λI a w U=>?_;refine U.q .F (o1 .ag .ag n7) λU=>?_;refine al λI a w U=>?_;refine U.cd (λah=>?_) λah=>?_
 .exfalso;simp at ah;skip
 refine wp_skip<|ba<|wp_seq<|wp_seq<|U.dk ?_;refine cy ?_;refine .o (bx (xw x hw) (an .tt aH)) ?_;refine .o (nx (xs:=[t.av,x.av]) (gi:=[x.av,x.av]) (pT x) (an .tt (an .tt aH)) (λc I a w U=>by exact qm 0 rfl q4 c I a w U)) ?_;refine br ?_;refine .nil ?_;intro I a w U;refine ba ?_;refine U.cd (λai=>?_) λai=>?_
 .exfalso;simp at ai;skip
 refine aV λI a w U=>?_;refine U.eX [0,1,2,3] (zO 1 t (by rw[q4];omega) (by rw[z8 q4];omega)) (an .tt (an .tt aH)) rfl bA rfl λI a w U=>?_;change St _ _ ((jz 1 t).1.owns KK++g.owns KK) _ _ _ at U;refine df λI a w U=>?_;refine U.q .F (nx (xs:=[g.av,(fl x e).1.av]) (gi:=[(fl x e).1.av,(fl x e).1.av]) (pT (fl x e).1) (an .ag (an .ag aH)) (λc I a w U=>by exact qm 4 rfl ju c I a w U)) λU=>?_;refine bV λI a w U=>?_;refine U.q .F (o1 .ag .ag n7) λU=>?_;refine al λI a w U=>?_;refine U.cd (λaG=>?_) λaG=>?_
 .exfalso;simp at aG;omega;skip
 refine aV λI a w U=>?_;refine U.eX [4,5,6,7] (zO 1 g (by rw[ju];omega) (by rw[z8 ju];omega)) (an .tt (an .tt aH)) rfl bA rfl λI a w U=>?_;change St _ _ ((jz 1 t).1.owns KK++(jz 1 g).1.owns KK) _ _ _ at U;refine al λI a w U=>?_;obtain⟨m3,m4⟩:=CH ju 1;obtain⟨I,U⟩:=U.FK (t:=(jz 1 g).1) 4 9 rfl rfl;change St _ _ ((jz 1 t).1.owns KK) _ _ _ at U;rw[m3] at U;refine aV λI a w U=>?_;refine U.o (bx (xp 1 (fl x e).1 om om) (an (.t rfl) (an (.t rfl) aH))) λU=>?_;refine aI λI a w U=>?_;refine U.cd (λaL=>?_) λaL=>?_
 .exfalso;simp at aL;omega;skip
 refine aI λI a w U=>?_;refine U.cd (λbc=>?_) λbc=>?_
 .exfalso;rw[m4] at bc;simp at bc;skip
 refine zt ?_;have U:=U.dH;refine U.fV [([],none),([],none),([],none),([],none),([],none),([],none),([],none),([],none),([4],some (4,[14])),([4],some (4,[14])),([],none)] aq aq rfl ?_;refine br ?_;refine .o (bx (xw x hw) (an .tt aH)) ?_;refine br ?_;refine .o (.c1 (CP e))<|.o (bx ((Qj x e il dV.1).Ub) (an .tt (an .tt aH))) ?_;refine ee ?_;refine aP.alloc 4 rfl rfl dz dT<|aP.ri 4 rfl dz rfl .tt rfl rfl ?_;refine br ?_;refine .nil ?_;intro I a w U;obtain⟨qW,U⟩:=U.nv (d:=14) 4 rfl rfl;obtain⟨I,U⟩:=U.fb 4 14;have U:=U.drop 4;change St _ _ ((jz 1 t).1.owns KK) _ _ _ at U;refine aA λI a w U=>?_;refine U.o (.c2 (pT (fl x e).1)) λU=>?_;refine aR λI a w U=>?_;refine U.q .F (o1 .ag .ag n7) λU=>?_;refine al λI a w U=>?_;refine U.cd (λaY=>?_) λaY=>?_
 .exfalso;simp at aY;skip
 refine aV λI a w U=>?_;refine U.o (bx (xp 1 (fl x e).1 om om) (an (.t rfl) (an (.t rfl) aH))) λU=>?_;refine aI λI a w U=>?_;refine U.cd (λbz=>?_) λbz=>?_
 .exfalso;simp at bz;omega;skip
 refine aI λI a w U=>?_;refine U.cd (λbR=>?_) λbR=>?_
 .exfalso;rw[m4] at bR;simp at bR;skip
 refine aW ?_;rfl
end Go.Proofs.YtldbakcpcfdlaaaGreat

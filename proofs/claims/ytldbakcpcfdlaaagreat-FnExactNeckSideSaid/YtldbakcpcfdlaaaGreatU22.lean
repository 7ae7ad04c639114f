/- Part 22: contracts of functions, plain facts. -/
import Derived.Test.YtldbakcpcfdlaaaGreatU18
set_option linter.all false
set_option maxRecDepth 100000
set_option maxHeartbeats 4000000
namespace Go.Proofs.YtldbakcpcfdlaaaGreat
open Go Go.RowKit Tryz
attribute [local irreducible] wpList Code.wp Ok
def He (m:cu) (h1:bD m.kt) (h2:bD m.to):
 Fn prog 69 [m.av] (AV.bool (lI m)):=by
 refine Fn.go 66 func69 ntmps69 (λW I a U=>?_);refine ax λI a w U=>?_;refine U.o (.cl (dG ..)) λU=>?_;refine aN λI a w U=>?_;refine U.q .T (.cl (yr _ h1)) λU=>?_;refine ax λI a w U=>?_;refine U.q .T (.cl (yr _ h2)) λU=>?_;refine ax λI a w U=>?_;refine U.q .T (.cl (dG ..)) λU=>?_;refine ax λI a w U=>?_;refine U.q .T (.cl (pf ..)) λU=>?_;refine ax λI a w U=>?_;refine U.q .T (.cl (x5 ..)) λU=>?_;refine ax λI a w U=>?_;refine U.q .T (.cl (dG ..)) λU=>?_;refine ax λI a w U=>?_;refine U.q .T (.cl (nq ..)) λU=>?_;refine ax λI a w U=>?_;refine U.q .T (.cl (dG ..)) λU=>?_;refine ax λI a w U=>?_;refine U.q .T (.cl (dG ..)) λU=>?_;refine ax λI a w U=>?_;refine U.q .T (.cl (pM ..)) λU=>?_;refine ax λI a w U=>?_;refine U.q .T (.cl (pM ..)) λU=>?_;refine ax λI a w U=>?_;refine U.q .T (.cl (sN ..)) λU=>?_;refine bQ ?_;rfl
def Hg (m:cu) (h1:bD m.kt) (h2:bD m.to):
 Fn prog 68 [m.av] (AV.bool (nG m)):=by
 refine Fn.go 6 func68 ntmps68 (λW I a U=>?_);refine aN λI a w U=>?_;refine U.o (.c1 (He _ h1 h2)) λU=>?_;refine bQ ?_;rfl
def Hh (x:bB) (s:Int) (ak:fa x=true) (Ka:0<=s/\s<=1):
 bm prog 60 [x.av,AV.int s] [] (λp:Value×List VT=>p.2.map VT.x=j2 x s) (λp=>[Own.ao KK p.1 p.2]) (λp=>AV.val p.1):=by
 refine bm.intro 39 func60 rfl ntmps60 rfl aj (λW I a U=>?_);have h4:=(s7 ak (k:=0) om).2.1;obtain⟨ca,-⟩:=j6 ak (i:=(2*s).toNat) om;obtain⟨cb,-⟩:=j6 ak (i:=(2*s+1).toNat) om;have la:=mg ca;have lb:=mg cb;refine bJ λI a w U=>?_;refine U.o (lu .c .tt (λ_=>by omega)) λU=>?_;refine aN λI a w U=>?_;refine U.dA [] (xW (ae x.aM (2*s).toNat).ao om (λv hv=>by have:=jo ca v hv;omega)) (az .r aP) rfl aZ rfl λ⟨u0,tn⟩ I a w tk U=>?_;refine ax λI a w U=>?_;refine U.o (lu .c .tt (λ_=>by omega)) λU=>?_;refine fQ λI a w U=>?_;refine St.lo (σ:=Nat×Value×List VT) (5::(7::(run 13 25 []))) ⟨λ⟨k,u,vs⟩=>[(25,AV.int k),(5,AV.val u)],λ⟨k,u,vs⟩=>[Own.ao KK u vs],λ⟨k,u,vs⟩=>k<=(ae x.aM (2*s+1).toNat).ao.length/\vs.map VT.x=(((ae x.aM (2*s+1).toNat).ao.take k).foldl cM (ae x.aM (2*s).toNat).ao)⟩ (λ⟨k,u,vs⟩=>(ae x.aM (2*s+1).toNat).ao.length-k) (0,u0,tn) U ?ar ?aW;case ar=>exact⟨Nat.zero_le _,tk⟩
 rintro⟨k,u,vs⟩ I a w ak U;obtain⟨hk,mI⟩:=ak;change St _ _ [Own.ao KK u vs] _ _ _ at U;refine aq λI a w U=>?_;refine cz (λab=>?_) λab=>?_
 .refine aL λI a w U=>?_;refine U.alloc rfl bK dP λb7 I a w U=>?_;refine aq λI a w U=>?_;obtain⟨I,U⟩:=U.fb 1 7;refine aL λI a w U=>?_;refine U.o (.c1 (ld ..)) λU=>?_;refine U.o (oN (xs:=[AV.val u,ay.av ((ae (ae x.aM (2*s+1).toNat).ao k).cG)]) (eR:=[bN (((ae x.aM (2*s+1).toNat).ao.take k).foldl cM (ae x.aM (2*s).toNat).ao),ay.av ((ae (ae x.aM (2*s+1).toNat).ao k).cG)]) (sY (((ae x.aM (2*s+1).toNat).ao.take k).foldl cM (ae x.aM (2*s).toNat).ao) (ae (ae x.aM (2*s+1).toNat).ao k).cG) (az .r (az .tt aP)) (λc I a w U=>by exact o9 0 rfl mI c I a w U)) λU=>?_;refine aq λI a w U=>?_;refine cz (λah=>?_) λah=>?_
  .refine aL λI a w U=>?_;refine U.wm (xs:=[AV.val u,(ae (ae x.aM (2*s+1).toNat).ao k).av]) (eR:=[bN (((ae x.aM (2*s+1).toNat).ao.take k).foldl cM (ae x.aM (2*s).toNat).ao),(ae (ae x.aM (2*s+1).toNat).ao k).av]) (GG (((ae x.aM (2*s+1).toNat).ao.take k).foldl cM (ae x.aM (2*s).toNat).ao) (ae (ae x.aM (2*s+1).toNat).ao k) (by have:=nI ((ae x.aM (2*s+1).toNat).ao.take k) (ae x.aM (2*s).toNat).ao;simp at this;omega) (λv hv=>by have:=pB (λv hv=>jo cb v (List.mem_of_mem_take hv)) (jo ca) v hv;omega) (by have:=jo cb _ (ez ab);omega)) (az .tt (az .tt aP)) (o9 0 rfl mI) rfl rfl (λ_ _ o ho=>by obtain rfl:=List.mem_singleton.1 ho;exact wq) (λ_ _=>o1) λp I a w hp U=>?_;obtain⟨u2,tl⟩:=p;replace hp:tl.map VT.x=eZ (((ae x.aM (2*s+1).toNat).ao.take k).foldl cM (ae x.aM (2*s).toNat).ao) (ae (ae x.aM (2*s+1).toNat).ao k):=hp;refine aK λI a w U=>?_;have U:=U.wP 2;have U:=U.drop 1;exact U.ag (k+1,u2,tl) (⟨by show k+1<=_;omega,by show tl.map VT.x=_;rw[mf ab,cM,if_pos ah];exact hp⟩)
  refine aH λI a w U=>?_;have U:=U.drop 1;exact U.ag (k+1,u,vs) (⟨by show k+1<=_;omega,by show vs.map VT.x=_;rw[mf ab,cM,if_neg om];exact mI⟩)
 refine zt ?_;refine aH λI a w U=>?_;refine U.dN (u,vs) [0] rfl (.cons (.t rfl) .nil) (by show vs.map VT.x=_;rw[mI,List.take_of_length_le om];rfl) rfl rfl
def G7 (l:List Call) (time:Int) (ht:time<=4611686018427387904) (hl:l.length<=1048576) (cN:∀q∈l,bD q.bl):
 Fn prog 73 [ja l,AV.int time] (AV.bool (fV l time)):=by
 refine Fn.go 86 func73 ntmps73 (λW I a U=>?_);refine aq λI a w U=>?_;refine U.makeMap rfl pK λjl a w U=>?_;rw[show(λ_:Int=>(0:Int))=dK l 0 from(EJ l).symm] at U;refine bc λI a w U=>?_;refine St.lo (σ:=Nat) (4::(run 2 6 (9::(run 70 13 [])))) ⟨λk=>[(13,AV.int k)],λk=>[Own.kG prog 3 3 (λx:Int=>Lit.int .i64 x) (λx:Int=>.lit (.int .i64 x)) 0 jl (k) (dK l (k))],λk=>k<=l.length/\∀i,i<k->(fU l time) i=true⟩ (λk=>l.length-k) 0 U ?ar ?aW;case ar=>exact⟨Nat.zero_le _,λi hi=>by omega⟩
 rintro k I a w ak U;obtain⟨jW,au⟩:=ak;refine aq λI a w U=>?_;refine cz (λab=>?_) λab=>?_
 .refine aN λI a w U=>?_;refine U.alloc rfl dO m7 λb7 I a w U=>?_;refine aH λI a w U=>?_;obtain⟨I,U⟩:=U.fb 1 7;refine aN λI a w U=>?_;refine U.o (vz 0 pK .tt (re lV .tt (cN _ (ez ab))) rfl) λU=>?_;refine U.o (ba .tt .c (λ_=>by have:=sA l k (ae l k).bl;omega)) λU=>?_;refine U.mapUpdate 0 pK .tt (re lV .tt (cN _ (ez ab))) .tt (by have:=sA l k (ae l k).bl;omega) om rfl λa w U=>?_;rw[EK ab] at U;refine nn<|wp_seq<|wp_seq<|U.dk ?_;refine fj ?_;refine .o (.c2 (GV _ _ ht)) ?_;refine jK ?_;refine lS ?_;refine .q .F (vz 0 pK .ag (re lV .ag (cN _ (ez ab))) rfl) ?_;refine fj ?_;refine .nil ?_;intro I a w U;refine bM ?_;refine U.cd (λah=>?_) λah=>?_
  .rw[xO] at ah;replace ah:=nt ah;refine an ?_;exact aQ (by unfold fV;rw[cF (f:=fU l time) ab (by unfold fU;rw[ah];rfl)];rfl)
  rw[xO] at ah;replace ah:=nf ah;refine aL λI a w U=>?_;refine U.o (Am eS dO .r .tt (λ_=>by rw[List.length_map];omega)) λU=>?_;rw[<-List.map_take,Int.toNat_natCast] at U;have oh:(l.take k).length=k:=by simp;omega
  refine aH λI a w U=>?_;refine St.lo (σ:=Nat) (4::(9::(run 27 55 []))) ⟨λk2=>[(55,AV.int k2)],λk2=>[Own.kG prog 3 3 (λx:Int=>Lit.int .i64 x) (λx:Int=>.lit (.int .i64 x)) 0 jl (k+1) (dK l (k+1)),Own.gone],λk2=>k2<=k/\∀i,i<k2->(λj=>!fT (ae l j) (ae l k)) i=true⟩ (λk2=>k-k2) 0 U ?fJ ?k8;case fJ=>exact⟨Nat.zero_le _,λi hi=>by omega⟩
  rintro k2 I a w ak U;obtain⟨me,dE⟩:=ak;refine aq λI a w U=>?_;refine cz (λai=>?_) λai=>?_
  .refine aL λI a w U=>?_;refine U.alloc rfl dO m7 λb9 I a w U=>?_;refine aq λI a w U=>?_;obtain⟨I,U⟩:=U.fb 2 9;refine B1 λI a w U=>?_;refine U.cd (λaF=>?_) λaF=>?_
   .change fT (ae (l.take k) k2) (ae l k)=true at aF;rw[yl om] at aF;refine an ?_;exact aQ (by unfold fV;rw[cF (f:=fU l time) ab (by unfold fU;rw[cF (f:=λj=>!fT (ae l j) (ae l k)) (k:=k2) om (by rw[aF];rfl)];simp)];rfl)
   change fT (ae (l.take k) k2) (ae l k)=false at aF;rw[yl om] at aF;refine aH λI a w U=>?_;have U:=U.drop 2;exact U.ag (k2+1) (⟨by omega,cT dE (by rw[aF];rfl)⟩)
  refine zt ?_;refine aH λI a w U=>?_;have U:=U.drop 1;exact U.ag (k+1) (⟨by omega,cT au (by unfold fU;rw[ah,cD dE om];rfl)⟩)
 refine zt ?_;refine bc λI a w U=>?_;refine U.rt ?_;exact aQ (by unfold fV;rw[cD au om,FX];rfl)
def yy (x:bB) (h:eD x<=1048576):
 bm prog 39 [x.av] [] (λt:NT=>NT.plain t=x) (λt=>t.owns KK) (λt=>AV.agg t.cells):=by
 refine bm.intro 24 func39 rfl ntmps39 rfl aj (λW I a U=>?_);refine aV λI a w U=>?_;refine U.alloc rfl ry rz λb2 I a w U=>nn<|sr<|U.alloc rfl ry rz λb3 I a w U=>?_;refine fH λI a w U=>?_;refine U.dA [] (GD x.aM (by unfold eD at h;omega)) (az .r aP) rfl aZ rfl λp9 I a w te U=>?_;obtain⟨v9,t9⟩:=p9;replace te:t9.map ST.plain=x.aM:=te;have U:=U.nf;have J6:=U.jg 2 rfl;refine ax λI a w U=>?_;refine U.dA [] (Gn x.c0 (by unfold eD at h;omega)) (az .r aP) rfl aZ rfl λG8 I a w tf U=>?_;obtain⟨G9,t13⟩:=G8;replace tf:t13.map WT.plain=x.c0:=tf;have U:=U.nf;have J7:=U.jg 3 rfl;refine ax λI a w U=>?_;refine U.dA [] (Gu x.calls (by unfold eD at h;omega)) (az .r aP) rfl aZ rfl λHa I a w tg U=>?_;obtain⟨Hb,t17⟩:=Ha;replace tg:t17.map CT.plain=x.calls:=tg;have U:=U.nf;have J8:=U.jg 4 rfl;refine ax λI a w U=>?_;refine U.dA [] (FF x.seen (by unfold eD at h;omega)) (az .r aP) rfl aZ rfl λHc I a w th U=>?_;obtain⟨Hd,t21⟩:=Hc;replace th:t21.map DT.x=x.seen:=th;have U:=U.nf;have J9:=U.jg 5 rfl;refine bc λI a w U=>?_;refine U.dN (⟨x.time,v9,G9,Hb,Hd,t9,t13,t17,t21⟩:NT) [2,3,4,5] rfl (.cons (.sx 0) .nil) (by show NT.plain _=x;unfold NT.plain;rw[te,tf,tg,th]) rfl rfl
def tj (x:bB) (h:eD x<=1048576):Fn prog 39 [x.av] x.av:=(yy x h).Dv
def G6 (s:Server):
 Fn prog 66 [s.av] (AV.bool (fu s)):=by
 refine Fn.go 127 func66 ntmps66 (λW I a U=>?_);have lens:s.cn.length<=9223372036854775807/\s.ao.length<=9223372036854775807/\s.waits.length<=9223372036854775807/\s.bV.length<=9223372036854775807:=⟨U.ln 0 2,U.ln 0 3,U.ln 0 4,U.ln 0 5⟩;refine ax λI a w U=>?_;refine U.o (.c1 (pe ..)) λU=>?_;refine lO λI a w U=>?_;refine U.q .F (.cl (pM ..)) λU=>?_;refine bJ λI a w U=>?_;refine U.q .F (.cl (pM ..)) λU=>?_;refine bJ λI a w U=>?_;refine U.q .F (.cl (sN ..)) λU=>?_;refine bJ λI a w U=>?_;refine U.q .F (.cl (sN ..)) λU=>?_;refine rr λI a w U=>?_;refine U.cd (λab=>?_) λab=>?_
 .rw[pH] at ab;replace ab:=nt ab;refine an ?_;exact aQ (by unfold fu;rw[ab];rfl)
 rw[pH] at ab;replace ab:=nf ab;obtain⟨nP,ll,tb,GY,GZ,pP⟩:=sP ab;refine bc λI a w U=>?_;refine St.lo (σ:=Nat) (2::(4::(run 25 57 []))) ⟨λk1=>[(57,AV.int k1)],λk1=>[],λk1=>k1<=s.cn.length/\∀i,i<k1->(lg s) i=true⟩ (λk1=>s.cn.length-k1) 0 U ?ar ?aW;case ar=>exact⟨Nat.zero_le _,λi hi=>by omega⟩
 rintro k1 I a w ak U;obtain⟨G0,lp⟩:=ak;refine aq λI a w U=>?_;refine cz (λah=>?_) λah=>?_
 .refine aL λI a w U=>?_;refine U.alloc rfl jL oT λb4 I a w U=>?_;refine aq λI a w U=>?_;obtain⟨I,U⟩:=U.fb 0 4;refine aL λI a w U=>?_;refine U.o (.cl (dG ..)) λU=>?_;refine ax λI a w U=>?_;refine U.q .F (.cl (dG ..)) λU=>?_;refine BX λI a w U=>?_;refine U.cd (λai=>?_) λai=>?_
  .rw[sO] at ai;replace ai:=nt ai;refine an ?_;exact aQ (by unfold fu;rw[ab,cF (f:=lg s) ah ai];simp)
  rw[sO] at ai;replace ai:=nf ai;refine aH λI a w U=>?_;have U:=U.drop 0;exact U.ag (k1+1) (⟨by omega,cT lp ai⟩)
 refine zt ?_;refine bc λI a w U=>?_;refine St.lo (σ:=Nat) (2::(6::(run 10 85 []))) ⟨λk2=>[(85,AV.int k2)],λk2=>[],λk2=>k2<=s.ao.length/\∀i,i<k2->(mh s) i=true⟩ (λk2=>s.ao.length-k2) 0 U ?fJ ?k8;case fJ=>exact⟨Nat.zero_le _,λi hi=>by omega⟩
 rintro k2 I a w ak U;obtain⟨me,dE⟩:=ak;refine aq λI a w U=>?_;refine cz (λaF=>?_) λaF=>?_
 .refine aL λI a w U=>?_;refine U.alloc rfl bK dP λb6 I a w U=>?_;refine aq λI a w U=>?_;obtain⟨I,U⟩:=U.fb 0 6;refine aN λI a w U=>?_;refine U.o (.c2 (xK _ _ (sg (nv ll aF)) nP)) λU=>?_;refine aq λI a w U=>?_;refine U.cd (λaS=>?_) λaS=>?_
  .rw[x6] at aS;replace aS:=nt aS;refine an ?_;exact aQ (by unfold fu;rw[ab,cD lp om,cF (f:=mh s) aF aS];simp)
  rw[x6] at aS;replace aS:=nf aS;refine aH λI a w U=>?_;have U:=U.drop 0;exact U.ag (k2+1) (⟨by omega,cT dE aS⟩)
 refine zt ?_;refine bc λI a w U=>?_;refine St.lo (σ:=Nat) (2::(8::(run 24 98 []))) ⟨λk3=>[(98,AV.int k3)],λk3=>[],λk3=>k3<=s.waits.length/\∀i,i<k3->(mi s) i=true⟩ (λk3=>s.waits.length-k3) 0 U ?nQ ?yw;case nQ=>exact⟨Nat.zero_le _,λi hi=>by omega⟩
 rintro k3 I a w ak U;obtain⟨yx,j7⟩:=ak;refine aq λI a w U=>?_;refine cz (λbL=>?_) λbL=>?_
 .refine aL λI a w U=>?_;refine U.alloc rfl bK dP λb8 I a w U=>?_;refine aq λI a w U=>?_;obtain⟨I,U⟩:=U.fb 0 8;refine U.dk ?_;refine gE ?_;refine .o (.c2 (xK _ _ (sg (nv tb bL)) nP)) ?_;refine iu ?_;refine .q .F (.cl (EG ..)) ?_;refine lS ?_;refine .q .F (.cl (ld ..)) ?_;refine .q .F (.cl (sY ..)) ?_;refine fj ?_;refine .nil ?_;intro I a w U;refine bM ?_;refine U.cd (λbz=>?_) λbz=>?_
  .rw[x7] at bz;replace bz:=nt bz;refine an ?_;exact aQ (by unfold fu;rw[ab,cD lp om,cD dE om,cF (f:=mi s) bL bz];simp)
  rw[x7] at bz;replace bz:=nf bz;refine aH λI a w U=>?_;have U:=U.drop 0;exact U.ag (k3+1) (⟨by omega,cT j7 bz⟩)
 refine zt ?_;refine ax λI a w U=>?_;refine U.o (.cl (Gx ..)) λU=>?_;refine an ?_;exact aQ (by unfold fu;rw[ab,cD lp om,cD dE om,cD j7 om];simp)
def nO (s:Server):fu s=(j4 s&&bC s.cn.length (lg s)&&(bC s.ao.length (gx s s.ao)&&bC s.waits.length (gx s s.waits))&&bC s.waits.length (lh s)&&bC s.bV.length (iL s)):=by
 unfold fu;have e:bC s.waits.length (mi s)=(bC s.waits.length (gx s s.waits)&&bC s.waits.length (lh s)):=by
  rw[<-FN];exact mT rfl λi _=>Gy s i
 have e2:bC s.ao.length (mh s)=bC s.ao.length (gx s s.ao):=rfl;rw[e,e2,Ge];cases j4 s<;>cases bC s.cn.length (lg s)<;>cases bC s.ao.length (gx s s.ao)<;>cases bC s.waits.length (gx s s.waits)<;>simp
def GX (s:Server):
 Fn prog 88 [s.av] (AV.bool (fu s)):=by
 refine Fn.go 177 func88 ntmps88 (λW I a U=>?_);have lens:s.cn.length<=9223372036854775807/\s.ao.length<=9223372036854775807/\s.waits.length<=9223372036854775807/\s.bV.length<=9223372036854775807:=⟨U.ln 0 2,U.ln 0 3,U.ln 0 4,U.ln 0 5⟩;refine ax λI a w U=>?_;refine U.o (.c1 (nm ..)) λU=>?_;refine lO λI a w U=>?_;refine U.q .F (.cl (nu ..)) λU=>?_;refine bJ λI a w U=>?_;refine U.q .F (.cl (nu ..)) λU=>?_;refine bJ λI a w U=>?_;refine U.q .F (.cl (sd ..)) λU=>?_;refine bJ λI a w U=>?_;refine U.q .F (.cl (sd ..)) λU=>?_;refine rr λI a w U=>?_;refine U.cd (λab=>?_) λab=>?_
 .rw[pH] at ab;replace ab:=nt ab;refine an ?_;exact aQ (by unfold fu;rw[ab];rfl)
 rw[pH] at ab;replace ab:=nf ab;obtain⟨nP,ll,tb,GY,GZ,pP⟩:=sP ab;refine aq λI a w U=>?_;refine St.lo (σ:=Nat) (run 2 2 (run 43 55 [])) ⟨λk1=>[(3,AV.int k1)],λk1=>[],λk1=>k1<=s.cn.length/\∀i,i<k1->(lg s) i=true⟩ (λk1=>s.cn.length-k1) 0 U ?ar ?aW;case ar=>exact⟨Nat.zero_le _,λi hi=>by omega⟩
 rintro k1 I a w ak U;obtain⟨G0,lp⟩:=ak;refine cK λI a w U=>?_;refine cz (λah=>?_) λah=>?_
 .refine fH λI a w U=>?_;refine U.o (.cl (dH ..)) λU=>?_;refine vW λI a w U=>?_;refine U.q .F (.cl (dH ..)) λU=>?_;refine B0 λI a w U=>?_;refine U.cd (λai=>?_) λai=>?_
  .rw[yh] at ai;replace ai:=nt ai;refine an ?_;exact aQ (by rw[nO,ab,cF (f:=lg s) ah ai];simp)
  rw[yh] at ai;replace ai:=nf ai;refine aK λI a w U=>?_;exact U.ag (k1+1) (⟨by omega,cT lp ai⟩)
 refine zt ?_;refine aN λI a w U=>?_;refine U.o (.cl (xZ _ _ nP ll)) λU=>?_;refine bJ λI a w U=>?_;refine U.q .F (.cl (xZ _ _ nP tb)) λU=>?_;refine aH λI a w U=>?_;refine U.cd (λaF=>?_) λaF=>?_
 .refine an ?_;exact aQ (by rw[nO,ab];revert aF;cases bC s.ao.length (gx s s.ao)<;>cases bC s.waits.length (gx s s.waits)<;>simp)
 rw[Bool.or_eq_false_iff] at aF;obtain⟨tc,td⟩:=aF;replace tc:=nf tc;replace td:=nf td;refine aq λI a w U=>?_;refine St.lo (σ:=Nat) (2::(run 3 4 (run 40 110 []))) ⟨λk2=>[(4,AV.int k2)],λk2=>[],λk2=>k2<=s.waits.length/\∀i,i<k2->(lh s) i=true⟩ (λk2=>s.waits.length-k2) 0 U ?fJ ?k8;case fJ=>exact⟨Nat.zero_le _,λi hi=>by omega⟩
 rintro k2 I a w ak U;obtain⟨me,dE⟩:=ak;refine cK λI a w U=>?_;refine cz (λaS=>?_) λaS=>?_
 .refine zt ?_;have U:=U.m0;refine U.u9 [([],none),([],none),([],none),([],none),([],none),([],none),([],none),([],none),([],none),([],none),([],none),([],none),([],none),([],none),([],none),([],none),([],none),([],none),([0],some (0,[5])),([0],some (0,[5])),([],none)] aj aj rfl ?_;refine m6 ?_;refine .o (.cl (xu ..)) ?_;refine gE ?_;refine bg.alloc 0 rfl rfl bK dP<|bg.vb 0 rfl bK rfl .tt rfl rfl ?_;refine c6 ?_;refine .nil ?_;intro I a w U;obtain⟨b5,U⟩:=U.ve (d:=5) 0 rfl rfl;obtain⟨I,U⟩:=U.fb 0 5;refine bM<|wp_seq<|U.dk ?_;refine rv ?_;refine .q .F (.cl (xX ..)) ?_;refine fj ?_;refine .q .F (.cl (xX ..)) ?_;refine fj ?_;refine .nil ?_;intro I a w U;refine bM ?_;refine U.cd (λbL=>?_) λbL=>?_
  .rw[yi s _ ll] at bL;replace bL:=nt bL;refine an ?_;exact aQ (by rw[nO,ab,cF (f:=lh s) aS bL];simp)
  rw[yi s _ ll] at bL;replace bL:=nf bL;refine aK λI a w U=>?_;have U:=U.drop 0;exact U.ag (k2+1) (⟨by omega,cT dE bL⟩)
 refine zt ?_;refine aq λI a w U=>?_;refine St.lo (σ:=Nat) (2::(run 3 7 (run 27 150 []))) ⟨λk3=>[(7,AV.int k3)],λk3=>[],λk3=>k3<=s.bV.length/\∀i,i<k3->(iL s) i=true⟩ (λk3=>s.bV.length-k3) 0 U ?nQ ?yw;case nQ=>exact⟨Nat.zero_le _,λi hi=>by omega⟩
 rintro k3 I a w ak U;obtain⟨yx,j7⟩:=ak;refine cK λI a w U=>?_;refine cz (λbz=>?_) λbz=>?_
 .refine zt ?_;have U:=U.m0;refine U.u9 [([],none),([],none),([],none),([],none),([],none),([],none),([],none),([],none),([],none),([],none),([],none),([],none),([],none),([],none),([],none),([],none),([],none),([],none),([0],some (0,[8])),([0],some (0,[8])),([],none)] aj aj rfl ?_;refine m6 ?_;refine .o (.cl (xu ..)) ?_;refine gE ?_;refine bg.alloc 0 rfl rfl bK dP<|bg.vb 0 rfl bK rfl .tt rfl rfl ?_;refine c6 ?_;refine .nil ?_;intro I a w U;obtain⟨b8,U⟩:=U.ve (d:=8) 0 rfl rfl;obtain⟨I,U⟩:=U.fb 0 8;refine aH λI a w U=>?_;refine U.cd (λdf=>?_) λdf=>?_
  .rw[yj s _ ll] at df;replace df:=nt df;refine an ?_;exact aQ (by rw[nO,ab,cF (f:=iL s) bz df];simp)
  rw[yj s _ ll] at df;replace df:=nf df;refine aK λI a w U=>?_;have U:=U.drop 0;exact U.ag (k3+1) (⟨by omega,cT j7 df⟩)
 refine zt ?_;refine an ?_;exact aQ (by rw[nO,ab,cD lp om,tc,td,cD dE om,cD j7 om];rfl)
def G1 (x:bB) (mc:∀q∈x.calls,q.aG.length<=1048576):
 Fn prog 33 [x.av] (AV.bool (fa x)):=by
 refine Fn.go 88 func33 ntmps33 (λW I a U=>?_);have lens:x.aM.length<=9223372036854775807/\x.c0.length<=9223372036854775807/\x.calls.length<=9223372036854775807/\x.seen.length<=9223372036854775807:=⟨U.ln 0 1,U.ln 0 2,U.ln 0 3,U.ln 0 4⟩;refine ax λI a w U=>?_;refine U.o (.cl (dH ..)) λU=>?_;refine BV λI a w U=>?_;refine U.q .F (CS (λhg=>GK x.calls x.time (by simp[aI] at hg;omega) mc) (az .ag (az .ag aP))) λU=>?_;refine aH λI a w U=>?_;refine U.cd (λab=>?_) λab=>?_
 .rw[yo] at ab;replace ab:=nt ab;refine an ?_;exact aQ (by unfold fa;rw[nK,nL];revert ab;cases hJ x<;>cases fV x.calls x.time<;>simp)
 rw[yo] at ab;replace ab:=nf ab;refine aq λI a w U=>?_;refine St.lo (σ:=Nat) (run 2 2 (run 24 36 [])) ⟨λk=>[(3,AV.int k)],λk=>[],λk=>k<=x.aM.length/\∀i,i<k->(js x) i=true⟩ (λk=>x.aM.length-k) 0 U ?ar ?aW;case ar=>exact⟨Nat.zero_le _,λi hi=>by omega⟩
 rintro k I a w ak U;obtain⟨jW,au⟩:=ak;refine cK λI a w U=>?_;refine cz (λah=>?_) λah=>?_
 .refine bJ λI a w U=>?_;refine U.o (.c1 (GX ..)) λU=>?_;refine v8 λI a w U=>?_;refine U.cd (λai=>?_) λai=>?_
  .rw[ym] at ai;replace ai:=nt ai;refine an ?_;exact aQ (by unfold fa;rw[nK,nL];rw[cF (f:=js x) ah ai];simp)
  rw[ym] at ai;replace ai:=nf ai;refine aK λI a w U=>?_;exact U.ag (k+1) (⟨by omega,cT au ai⟩)
 refine zt ?_;refine aq λI a w U=>?_;refine St.lo (σ:=Nat) (2::(4::(run 14 60 []))) ⟨λk2=>[(4,AV.int k2)],λk2=>[],λk2=>k2<=x.c0.length/\∀i,i<k2->(λi=>lI (ae x.c0 i)) i=true⟩ (λk2=>x.c0.length-k2) 0 U ?fJ ?k8;case fJ=>exact⟨Nat.zero_le _,λi hi=>by omega⟩
 rintro k2 I a w ak U;obtain⟨me,dE⟩:=ak;refine cK λI a w U=>?_;refine cz (λaF=>?_) λaF=>?_
 .refine bJ λI a w U=>?_;refine U.o (.c1 (EB ..)) λU=>?_;refine aq λI a w U=>?_;refine U.cd (λaS=>?_) λaS=>?_
  .replace aS:=nt aS;refine an ?_;exact aQ (by unfold fa;rw[nK,nL];rw[cF (f:=λi=>lI (ae x.c0 i)) aF aS];simp)
  replace aS:=nf aS;refine aK λI a w U=>?_;exact U.ag (k2+1) (⟨by omega,cT dE aS⟩)
 refine zt ?_;refine aq λI a w U=>?_;refine St.lo (σ:=Nat) (2::(5::(run 14 74 []))) ⟨λk3=>[(5,AV.int k3)],λk3=>[],λk3=>k3<=x.seen.length/\∀i,i<k3->(λi=>cP (ae x.seen i)) i=true⟩ (λk3=>x.seen.length-k3) 0 U ?nQ ?yw;case nQ=>exact⟨Nat.zero_le _,λi hi=>by omega⟩
 rintro k3 I a w ak U;obtain⟨yx,j7⟩:=ak;refine cK λI a w U=>?_;refine cz (λbL=>?_) λbL=>?_
 .refine bJ λI a w U=>?_;refine U.o (.cl (nr ..)) λU=>?_;refine aq λI a w U=>?_;refine U.cd (λbz=>?_) λbz=>?_
  .replace bz:=nt bz;refine an ?_;exact aQ (by unfold fa;rw[nK,nL];rw[cF (f:=λi=>cP (ae x.seen i)) bL bz];simp)
  replace bz:=nf bz;refine aK λI a w U=>?_;exact U.ag (k3+1) (⟨by omega,cT j7 bz⟩)
 refine zt ?_;refine an ?_;exact aQ (by unfold fa;rw[nK,nL];rw[cD au om,cD dE om,cD j7 om];rw[Bool.and_eq_true] at ab;rw[ab.1,ab.2];rfl)
def G2 (x:bB) (s:Int) (mc:∀q∈x.calls,q.aG.length<=1048576):
 Fn prog 38 [x.av,AV.int s] (bN (dq x s)):=by
 refine Fn.go 65 func38 ntmps38 (λW I a U=>?_);refine aH λI a w U=>?_;refine U.l0 λk7 I a w U=>?_;obtain⟨I,U⟩:=U.fr 0 11;have U:=U.drop 0;refine aL λI a w U=>?_;refine U.o (.c1 (G1 x mc)) λU=>?_;refine aN λI a w U=>?_;refine U.q .F (.cl (dH ..)) λU=>?_;refine aH λI a w U=>?_;refine cz (λab=>?_) λab=>?_
 .refine bQ ?_;exact(by rw[show dq x s=[] by unfold dq;rcases ab with h|h<;>rw[h]<;>simp];rfl)
 have dC:0<=s/\s<=1:=by have:=ab.2;simp[aI] at this;exact this
 have h4:=(s7 ab.1 (k:=0) om).2.1;refine aV λI a w U=>?_;refine U.o (lu .c .tt (λ_=>by omega)) λU=>?_;refine aq λI a w U=>?_;refine St.ju (σ:=Nat) (run 6 5 (run 41 23 [])) ⟨λj=>[(6,AV.int (2*s+(j:Int))),(5,bN (fS x s j))],λj=>[],λj=>j<=2⟩ (λj=>2-j) 0 U rfl ?ar ?gw ?aW;case ar=>exact Nat.zero_le _
 case gw=>exact(Env.aU rfl (by exact congrArg AV.int om) (Env.aU rfl bh Env.le_nil))
 rintro j I a w ak U;have hj:j<=2:=ak;refine aL λI a w U=>?_;refine U.o (lu .c .tt (λ_=>by omega)) λU=>?_;refine aH λI a w U=>?_;refine cz (λah=>?_) λah=>?_
 .obtain⟨cj,-⟩:=j6 ab.1 (i:=(2*s+j).toNat) om;have lj:=mg cj;have lt:=yp ab.1 dC.1 dC.2 (j:=j) om;refine aq λI a w U=>?_;refine St.lo (σ:=Nat) (5::(run 4 7 (run 34 30 []))) ⟨λk=>[(7,AV.int k),(5,bN (((ae x.aM (2*s+j).toNat).ao.take k).foldl cM (fS x s j)))],λk=>[],λk=>k<=(ae x.aM (2*s+j).toNat).ao.length⟩ (λk=>(ae x.aM (2*s+j).toNat).ao.length-k) 0 U ?fJ ?k8;case fJ=>exact Nat.zero_le _
  rintro k I a w ak U;have hk:k<=(ae x.aM (2*s+j).toNat).ao.length:=ak;refine lQ λI a w U=>?_;refine cz (λai=>?_) λai=>?_
  .refine BR λI a w U=>?_;refine U.alloc rfl bK dP λb8 I a w U=>?_;refine aq λI a w U=>?_;obtain⟨I,U⟩:=U.fb 0 8;refine bJ λI a w U=>?_;refine U.o (.cl (Fv ..)) λU=>?_;refine aN λI a w U=>?_;refine U.alloc rfl bK dP λb9 I a w U=>?_;refine U.sb 1 λU=>?_;obtain⟨I,U⟩:=U.fb 1 9;refine aK λI a w U=>?_;refine cz (λaF=>?_) λaF=>?_
   .change(gL _ (ae (ae x.aM (2*s+j).toNat).ao k).cG).isSome=false at aF;refine aL λI a w U=>?_;refine U.o (fA (FY (((ae x.aM (2*s+j).toNat).ao.take k).foldl cM (fS x s j)) (ae (ae x.aM (2*s+j).toNat).ao k) (by have:=nI ((ae x.aM (2*s+j).toNat).ao.take k) (fS x s j);simp at this;omega) (λv hv=>by have:=pB (λv hv=>jo cj v (List.mem_of_mem_take hv)) (yq ab.1 dC.1 dC.2 om) v hv;omega) (by have:=jo cj _ (ez ai);omega)) (az .r (az (.t rfl) aP))) λU=>?_;refine bc λI a w U=>?_;have U:=U.drop 0;refine U.again (k+1) ?bu ?bw bh ?bx (by repeat(first|exact Env.le_rfl|refine Env.cL rfl ?_));case bu=>omega
    case bw=>exact ai
    case bx=>exact(Env.aU rfl bh (Env.aU rfl (by first|exact congrArg bN (by rw[mf ai,<-yu,pI,if_pos (yc aF)])|exact congrArg bN (by rw[mf ai,cM,if_neg (yd aF)])) Env.le_nil))
   change(gL _ (ae (ae x.aM (2*s+j).toNat).ao k).cG).isSome=true at aF;refine aK λI a w U=>?_;have U:=U.drop 0;refine U.again (k+1) ?s8 ?s9 bh ?ta (by repeat(first|exact Env.le_rfl|refine Env.cL rfl ?_));case s8=>omega
   case s9=>exact ai
   case ta=>exact(Env.aU rfl bh (Env.aU rfl (by first|exact congrArg bN (by rw[mf ai,<-yu,pI,if_pos (yc aF)])|exact congrArg bN (by rw[mf ai,cM,if_neg (yd aF)])) Env.le_nil))
  refine zt ?_;refine aK λI a w U=>?_;refine U.again (j+1) ?G3 ?G4 bh ?G5 (by repeat(first|exact Env.le_rfl|refine Env.cL rfl ?_));case G3=>omega
  case G4=>show j+1<=2;omega
  case G5=>exact(Env.aU rfl (by exact congrArg AV.int om) (Env.aU rfl (by exact congrArg bN (by rw[List.take_of_length_le om,nJ])) Env.le_nil))
 refine zt ?_;refine bQ ?_;exact congrArg bN (by unfold dq;rw[ab.1,ab.2,show j=2 by omega,GS (GR (j6 ab.1 (i:=(2*s).toNat) om).1)];rfl)
def Hi (x:bB) (hf:x.Fit) (hl:x.calls.length<=1048576):
 Fn prog 23 [x.av] (AV.bool (fa x)):=by
 refine Fn.go 62 func23 ntmps23 (λW I a U=>?_);have lens:x.aM.length<=9223372036854775807/\x.c0.length<=9223372036854775807/\x.calls.length<=9223372036854775807/\x.seen.length<=9223372036854775807:=⟨U.ln 0 1,U.ln 0 2,U.ln 0 3,U.ln 0 4⟩;refine ax λI a w U=>?_;refine U.o (.cl (dG ..)) λU=>?_;refine BZ λI a w U=>?_;refine U.cd (λab=>?_) λab=>?_
 .replace ab:hJ x=false:=by unfold hJ;rw[ab];rfl
  refine an ?_;exact aQ (by unfold fa;rw[ab];rfl)
 replace ab:hJ x=true:=by unfold hJ;rw[ab];rfl
 refine bc λI a w U=>?_;refine St.lo (σ:=Nat) (run 3 2 (run 15 30 [])) ⟨λk=>[(30,AV.int k)],λk=>[],λk=>k<=x.aM.length/\∀i,i<k->(js x) i=true⟩ (λk=>x.aM.length-k) 0 U ?ar ?aW;case ar=>exact⟨Nat.zero_le _,λi hi=>by omega⟩
 rintro k I a w ak U;obtain⟨jW,au⟩:=ak;refine aq λI a w U=>?_;refine cz (λah=>?_) λah=>?_
 .refine aN λI a w U=>?_;refine U.alloc rfl gq oS λb4 I a w U=>?_;refine aH λI a w U=>?_;obtain⟨I,U⟩:=U.fb 0 4;refine fH λI a w U=>?_;refine U.q .F (.cl (G6 ..)) λU=>?_;refine aH λI a w U=>?_;refine U.cd (λai=>?_) λai=>?_
  .rw[s6] at ai;replace ai:=nt ai;refine an ?_;exact aQ (by unfold fa;rw[cF (f:=js x) ah ai];simp)
  rw[s6] at ai;replace ai:=nf ai;refine aH λI a w U=>?_;have U:=U.drop 0;exact U.ag (k+1) (⟨by omega,cT au ai⟩)
 refine zt ?_;refine aL λI a w U=>?_;refine U.o (.cl (E7 x.c0 nG _ (λm hm=>Fn.uQ (Hg m (hf.1 m hm).1 (hf.1 m hm).2)))) λU=>?_;refine ax λI a w U=>?_;refine U.q .T (.cl (FM x.seen nH _ (λm _=>Fn.uQ (EU m)))) λU=>?_;refine gX λI a w U=>?_;refine U.q .T (fA (G7 x.calls x.time (by have:=ET ab;omega) hl hf.2) (az .ag (az .ag aP))) λU=>?_;refine bQ ?_;exact aQ (by unfold fa;rw[ab,cD au om];rfl)
def yz (x:bB) (s:Int) (hf:x.Fit) (hl:x.calls.length<=1048576):
 bm prog 20 [x.av,AV.int s] [] (λp:Value×List VT=>p.2.map VT.x=dq x s) (λp=>[Own.ao KK p.1 p.2]) (λp=>AV.val p.1):=by
 refine bm.intro 16 func20 rfl ntmps20 rfl aj (λW I a U=>?_);refine aN λI a w U=>?_;refine U.o (.c1 (Hi x hf hl)) λU=>?_;refine aN λI a w U=>?_;refine U.q .F (.cl (dG ..)) λU=>?_;refine aH λI a w U=>?_;refine BW (λab=>?_) λab=>?_
 .refine aq λI a w U=>?_;have U:=U.Dw KK.bs 7 VT.cells (VT.owns KK);refine U.dN (.slice none 0 0,[]) [0] rfl (.cons (.t rfl) .nil) (by show[]=dq x s;unfold dq;rw[if_neg];intro h;rw[Bool.and_eq_true] at h;rw[h.1,h.2] at ab;simp at ab) rfl rfl
 obtain⟨yA,pP⟩:=ab;have Hj:0<=s/\s<=1:=by simpa[aI] using pP
 refine aL λI a w U=>?_;refine U.dA [] (Hh x s yA Hj) (az .tt (az .tt aP)) rfl aZ rfl λp I a w tk U=>?_;refine aq λI a w U=>?_;refine U.dN p [0] rfl (.cons (.t rfl) .nil) (by show _=dq x s;unfold dq;rw[yA,pP];exact tk) rfl rfl
def zx (x:bB) (s:Int) (hd:x.Deep):
 Fn prog 10 [x.av,AV.int s] (AV.bool true):=by
 refine Fn.go 74 func10 ntmps10 (λW I a U=>?_);refine bJ λI a w U=>?_;refine U.o (fA (GL _ _ om om) (az (.t rfl) (az (.t rfl) aP))) λU=>?_;refine aK λI a w U=>?_;refine cz (λab=>?_) λab=>?_
 .refine an ?_;rfl
 refine wp_skip<|bM<|wp_seq ?_;have hw:=GN ab;have cN:=GM hw;have fc:=F4 hd;have Kb:=GO hw;have Kc:=GP hw;have Kd:=GQ (x:=x) (s:=s);have l1:=Db 1 x;refine aV λI a w U=>?_;refine U.o (fA (tj x hw) (az .tt aP)) λU=>U.m λU=>U.o (.c2 (G2 x s cN.2)) λU=>?_;refine aL λI a w U=>?_;refine U.dA [] (yy x hw) (az .tt aP) rfl aZ rfl λt I a w mj U=>?_;have pQ:=mj;change St _ _ (t.owns KK) _ _ _ at U;refine U.alloc rfl ry rz λb7 I a w U=>?_;refine aq λI a w U=>?_;obtain⟨I,U⟩:=U.fb 4 7;have U:=U.drop 4;change St _ _ (t.owns KK) _ _ _ at U;refine aL λI a w U=>?_;refine U.wm (xs:=[t.av,AV.int s]) (eR:=[x.av,AV.int s]) (yz x s fc cN.1) (az .tt (az .tt aP)) (wT 0 rfl pQ) rfl rfl (λ_ _ o ho=>by obtain rfl:=List.mem_singleton.1 ho;exact wq) (λ_ _=>o1) λp I a w ib U=>?_;obtain⟨u,vs⟩:=p;replace ib:vs.map VT.x=(dq x s):=ib;change St _ _ (t.owns KK++[Own.ao KK u vs]) _ _ _ at U;refine aN λI a w U=>?_;refine U.o (oN (xs:=[AV.val u,bN (dq x s)]) (eR:=[bN (dq x s),bN (dq x s)]) (k9 (dq x s)) (az .r (az .r aP)) (λc I a w U=>by exact o9 4 rfl ib c I a w U)) λU=>?_;refine aq λI a w U=>?_;refine U.cd (λah=>?_) λah=>?_
 .exfalso;simp at ah;skip
 refine wp_skip<|bM<|wp_seq<|wp_seq<|U.dk ?_;refine fj ?_;refine .o (fA (tj x hw) (az .tt aP)) ?_;refine .o (oN (xs:=[t.av,x.av]) (eR:=[x.av,x.av]) (GW x) (az .tt (az .tt aP)) (λc I a w U=>by exact wT 0 rfl pQ c I a w U)) ?_;refine c6 ?_;refine .nil ?_;intro I a w U;refine bM ?_;refine U.cd (λai=>?_) λai=>?_
 .exfalso;simp at ai;skip
 refine aN λI a w U=>?_;refine U.dB [0,1,2,3] (Gv 1 t (by rw[pQ];omega) (by rw[Gc pQ];omega)) (az .tt (az .tt aP)) rfl aZ rfl λI a w U=>?_;change St _ _ ((nc 1 t).1.owns KK++[Own.ao KK u vs]) _ _ _ at U;refine fH λI a w U=>?_;refine U.q .F (oN (xs:=[AV.val u,bN (dq x s)]) (eR:=[bN (dq x s),bN (dq x s)]) (k9 (dq x s)) (az .ag (az .ag aP)) (λc I a w U=>by exact o9 4 rfl ib c I a w U)) λU=>?_;refine aH λI a w U=>?_;refine U.cd (λaF=>?_) λaF=>?_
 .exfalso;simp at aF;omega;skip
 refine aN λI a w U=>?_;refine U.dB [4] (nk u 1 vs (by rw[jf,show eT vs=(dq x s) from ib];omega)) (az .r (az .tt aP)) rfl aZ rfl λI a w U=>?_;change St _ _ ((nc 1 t).1.owns KK++[Own.ao KK u (et 1 vs).1]) _ _ _ at U;refine aq λI a w U=>?_;obtain⟨m3,m4⟩:=Gd ib 1;obtain⟨I,U⟩:=U.Dx 4 8 rfl rfl;have U:=U.drop 4;change St _ _ ((nc 1 t).1.owns KK) _ _ _ at U;rw[m3] at U;refine aN λI a w U=>?_;refine U.o (fA (yb 1 (dq x s) (by rw[ng];omega)) (az .r (az (.t rfl) aP))) λU=>?_;refine aK λI a w U=>?_;refine U.cd (λaS=>?_) λaS=>?_
 .exfalso;simp at aS;omega;skip
 refine aK λI a w U=>?_;refine U.cd (λbL=>?_) λbL=>?_
 .exfalso;rw[m4] at bL;simp at bL;skip
 refine aV λI a w U=>?_;refine U.o (fA (tj x hw) (az .tt aP)) λU=>U.m λU=>U.o (fA ((yz x s fc cN.1).ao) (az .tt (az .tt aP))) λU=>?_;refine aN λI a w U=>?_;refine U.o (.cl (k9 (dq x s))) λU=>?_;refine aq λI a w U=>?_;refine U.cd (λbz=>?_) λbz=>?_
 .exfalso;simp at bz;skip
 refine aN λI a w U=>?_;refine U.o (fA (yb 1 (dq x s) (by rw[ng];omega)) (az .r (az (.t rfl) aP))) λU=>?_;refine aK λI a w U=>?_;refine U.cd (λdf=>?_) λdf=>?_
 .exfalso;simp at df;omega;skip
 refine aK λI a w U=>?_;refine U.cd (λjn=>?_) λjn=>?_
 .exfalso;rw[m4] at jn;simp at jn;skip
 refine an ?_;rfl
end Go.Proofs.YtldbakcpcfdlaaaGreat

/- Part 30: contracts of functions, plain facts. -/
import Derived.Test.YtdanidpleofjgaaGreatP34
set_option linter.all false
set_option maxRecDepth 100000
set_option maxHeartbeats 4000000
namespace Go.Proofs.YtdanidpleofjgaaGreat
open Go Go.RowKit Tryz
attribute [local irreducible] wpList Code.wp Ok
def cK (s:Server) (m:ax):Server×List ax:=if s.up&&bI m&&(m.to==s.site) then cJ s m else(s,[])
def gP (w:aj) (e:Ev):aj×Bool:=
 if aH e.word 0 ((w.al.length:Int)-1) then
  let m:=ab w.al e.word.toNat
  let w1:=if e.kind=5\/e.fe=0 then{w with al:=w.al.take e.word.toNat++w.al.drop (e.word.toNat+1)} else w
  if e.kind=5 then(w1,true)
  else if aH m.to 10 11 then(iL w1 m,true)
  else({w1 with aA:=w.aA.set m.to.toNat (cK (ab w.aA m.to.toNat) m).1,al:=eo w1.al (cK (ab w.aA m.to.toNat) m).2},true)
 else(w,false)
def adM {s:Server} {m:ax} (h:bG s):bG (fj s m).1:=by
 unfold fj;split
 .split
  .exact h
  split
  .rename_i hc;simp only[Bool.and_eq_true] at hc;exact(jI.1 hc.2).settle
  exact h
 exact h
def dH.lu {q:Call} {t:Int} (h:dH q t) (hw:cD q=true) (hb:q.bH<t) (hk:q.kind≠1) {a:Answer} (ha:dT a=true) (hy:a.yes=true):dH (lu q a t) t:=by
 obtain⟨he,ho⟩:=nu hw;have be:dS q.aq=true:=h.open_ he;unfold Go.Proofs.YtdanidpleofjgaaGreat.lu;split
 .rename_i hm;have q6:=(zx ha hy).2;have Kn:=h.vR _ hm;have h0:0<=cm q a.key:=by
   unfold sQ at Kn;rw[Bool.and_eq_true,decide_eq_true_eq,q6] at Kn;exact Kn.1
  obtain⟨h1,h2⟩:=tY h0;have hlen:(q.aC.set (cm q a.key).toNat a).length=q.aC.length:=List.length_set ..;have SL:q.aC.length=q.keys.length:=h.full.resolve_left λe=>by rw[e] at hm;simp at hm
  have p7:∀x∈q.aC.set (cm q a.key).toNat a,dT x=true:=λx hx=>by
   rcases sJ hx with rfl|⟨k,fC,_,rfl⟩
   .exact ha
   exact h.aK _ (bf fC)
  have xU:∀x∈q.aC.set (cm q a.key).toNat a,ib q.keys x.key=true:=λx hx=>by
   rcases sJ hx with rfl|⟨k,fC,_,rfl⟩
   .have:=h.has _ (bf h1);rwa[h2] at this
   exact h.has _ (bf fC)
  have Fv:(q.aC.set (cm q a.key).toNat a).map Answer.key=q.aC.map Answer.key:=by
   rw[List.map_set];apply List.ext_getElem
   .simp
   intro n hn1 C9;by_cases e:(cm q a.key).toNat=n
   .subst e;rw[List.getElem_set_self,List.getElem_map];exact h2.symm.trans (by simp[ab,h1])
   rw[List.getElem_set_ne e]
  have ux:(q.aC.set (cm q a.key).toNat a).Pairwise λa b=>gW a b=true:=by
   have e:∀l:List Answer,(l.Pairwise λa b=>gW a b=true)↔(l.map Answer.key).Pairwise (·<·):=λl=>by
    rw[List.pairwise_map];constructor<;>intro hh<;>refine hh.imp λhl=>?_
    .unfold gW at hl;rwa[decide_eq_true_eq] at hl
    unfold gW;rwa[decide_eq_true_eq]
   rw[e,Fv,<-e];exact h.sorted
  have uy:∀d∈q.aL.filter (λd=>decide (d≠a.bl.aU)),sQ {q with aC:=q.aC.set (cm q a.key).toNat a,aL:=q.aL.filter λd=>decide (d≠a.bl.aU)} d=true:=λd hd=>by
   obtain⟨Fj,uk⟩:=List.mem_filter.1 hd;rw[decide_eq_true_eq] at uk;have Ko:d.key≠a.key:=λe=>uk (RE h.aL Fj hm (by rw[e,q6]));obtain⟨x,hx,oi,vP⟩:=(Fg h.sorted).1 (h.vR d Fj);obtain⟨k,fC,rfl⟩:=gm hx;refine(Fg ux).2 ⟨ab q.aC k,Ij fC λe=>?_,oi,vP⟩;subst e;rw[h2] at oi;exact Ko oi.symm
  have cR:bU (q.aL.filter λd=>decide (d≠a.bl.aU))=true:=Pc _ h.aL;dsimp only;split
  .rename_i hz;exact⟨h.ao,h.num,h.keys,h.val,h.ctx,cR,h.bH,h.fits,xU,ux,p7,uy,.inl hz,λe=>absurd e hk,h.read,λ_=>be,
    λ_=>⟨ho,⟨by show q.bH+1<=t;omega,Int.le_refl _⟩,hz,λe=>absurd e hk,λ_=>by show(q.aC.set _ _).length=_;rw[hlen];exact SL⟩⟩
  exact⟨h.ao,h.num,h.keys,h.val,h.ctx,cR,h.bH,h.fits,xU,ux,p7,uy,.inr (by show(q.aC.set _ _).length=_;rw[hlen];exact SL),λe=>absurd e hk,h.read,h.open_,λe=>absurd he e⟩
 exact h
def zR {q:Call} {m:ax} {t:Int} (h:dH q t):dH (cP q m t) t:=by
 unfold cP;split
 .rename_i hc;simp only[Bool.and_eq_true,decide_eq_true_eq] at hc;obtain⟨⟨⟨⟨⟨hm,_⟩,_⟩,gj⟩,hw⟩,hb⟩:=hc;obtain⟨he,ho⟩:=nu hw;split
  .rename_i hk;split
   .rename_i U;obtain⟨hg,tb⟩:=h.put hk;exact⟨h.ao,h.num,h.keys,h.val,h.ctx,h.aL,h.bH,BD U.2,h.has,h.sorted,h.aK,h.vR,h.full,h.put,λe=>absurd hk e,λe=>by have:t=0:=e;have:=h.bH;omega,
     λ_=>⟨ho,⟨by show q.bH+1<=t;omega,Int.le_refl _⟩,tb,λ_=>PD U.2,λe=>absurd hk e⟩⟩
   exact h
  rename_i hk;unfold ig;split
  .rename_i hr;have hg:=ET (q:=q) hm hr.2;split
   .rename_i hn;split
    .exact h.l9 hw hb hk hg gj hn
    exact h
   split
   .rename_i hy;exact h.lu hw hb hk hg hy
   exact h
  exact h
 exact h
def te {s:Server} {m:ax} (h:m.kind=7) (h2:((kz s.ai ⟨m.key,m.aq⟩).isSome&&(m.aO==eX s.site))=false) (hc:cg s.ai=true):cJ s m=(s,[]):=by
 rw[BS hc] at h2;unfold cJ;rw[h];show(s,kK s m)=_;unfold kK;rw[h2];rfl
def tf {s:Server} {m:ax} (h1:¬m.kind=1) (h3:¬m.kind=3) (h5:¬m.kind=5) (h6:¬m.kind=6) (h7:¬m.kind=7) (h8:¬m.kind=8) (h9:¬m.kind=9) (D6:¬m.kind=10):cJ s m=(s,[]):=by
 unfold cJ;rw[if_neg h1,if_neg h3,if_neg h5,if_neg h6,if_neg h7,if_neg h8,if_neg h9,if_neg D6]
def adO (s:Server) (hg:bG s):
 Fn prog 144 [s.av] (dR (gy s)):=by
 refine Fn.go 155 func144 ntmps144 (λW I a U=>?_);have an:=jI.2 hg;have cX:=hg.ok;have lens:s.aw.length<=9223372036854775807/\s.ai.length<=9223372036854775807/\s.waits.length<=9223372036854775807/\s.aD.length<=9223372036854775807/\s.aV.length<=9223372036854775807:=⟨U.ln 0 2,U.ln 0 3,U.ln 0 4,U.ln 0 5,U.ln 0 6⟩;have h3:=hg.aw;have BW:=g0 hg.ai;have lN:=g0 hg.waits;have kW:=iX hg.aD;have rO:∀v∈s.waits,v.aQ.length<=6:=λv hv=>iE (iW (fi hg.waits v hv)).2.2;have hsd:=sU hg.site;refine aF λI a w U=>?_;refine U.l0 λuw I a w U=>?_;refine aG λI a w U=>?_;refine U.o (.c1 (vN ..)) λU=>?_;refine iP λI a w U=>?_;refine U.cd (λae=>?_) λae=>?_
 .rw[E7] at ae;replace ae:=nt ae;refine aF λI a w U=>?_;obtain⟨I,U⟩:=U.fr 0 2;refine U.rt ?_;exact(by rw[an,Bool.true_and] at ae;rw[RN ae];rfl)
 rw[E7] at ae;replace ae:=nf ae;rw[Bool.and_eq_true] at ae;refine aB λI a w U=>?_;refine St.lo (σ:=Nat×Value) (run 2 3 (run 20 24 [])) ⟨λ⟨n,v⟩=>[(4,AV.int n),(3,AV.val v)],λ⟨n,v⟩=>[Own.row v 84 15 ((oX s n).map ax.cells)],λ⟨n,v⟩=>n<=s.aw.length⟩ (λ⟨n,v⟩=>s.aw.length-n) (0,.slice (some ⟨uw,0,none⟩) 0 0) U ?aJ ?bF;case aJ=>exact Nat.zero_le _
 rintro⟨n,v⟩ I a w an U;have hn:n<=s.aw.length:=an;dsimp only at U;refine cI λI a w U=>?_;refine cz (λah=>?_) λah=>?_
 .refine jD λI a w U=>?_;refine cz (λar=>?_) λar=>?_
  .refine bm λI a w U=>?_;refine U.o (bT (Sw s (n:Int) cX.ai cX.waits hg.site h3 om kW) (az (.t rfl) (az (.t rfl) aI))) λU=>?_;refine U.o (.li [(fS s (n:Int)).cells] ir (.u .nil)) λU=>?_;refine U.append 0 rfl gf dI rfl .tt .r rfl (by have:=JG s n;simp;omega) λFw a w U=>?_;rw[cF,RH (by simpa using ar)] at U;refine aZ λI a w U=>?_;exact U.ag (n+1,Fw) (ah)
  refine aR λI a w U=>?_;rw[RI (by simpa using ar)] at U;exact U.ag (n+1,v) (ah)
 refine zt ?_;refine aG λI a w U=>?_;refine U.o (.c1 (rj ..)) λU=>?_;refine U.o (lP .c .tt (λ_=>by omega)) λU=>?_;refine aF λI a w U=>?_;rw[RO om] at U;refine aB λI a w U=>?_;refine St.lo (σ:=Nat×Value) (3::(run 4 6 (run 49 49 []))) ⟨λ⟨k,v⟩=>[(6,AV.int k),(3,AV.val v)],λ⟨k,v⟩=>[Own.row v 84 15 ((ju s k).map ax.cells)],λ⟨k,v⟩=>k<=s.aD.length⟩ (λ⟨k,v⟩=>s.aD.length-k) (0,v) U ?eF ?jS;case eF=>exact Nat.zero_le _
 rintro⟨k,v⟩ I a w an U;have hk:k<=s.aD.length:=an;dsimp only at U;refine cI λI a w U=>?_;refine cz (λaM=>?_) λaM=>?_
 .refine zt ?_;have U:=U.jc;refine U.gw [([],none),([],none),([],none),([],none),([],none),([],none),([],none),([],none),([],none),([],none),([],none),([],none),([],none),([],none),([],none),([],none),([],none),([],none),([1],some (1,[7])),([1],some (1,[7])),([],none)] aS aS rfl ?_;refine rf ?_;refine .o (.cl (ug ..)) ?_;refine dD ?_;refine aY.alloc 1 rfl rfl bQ dO<|aY.q7 1 rfl bQ rfl .tt rfl rfl ?_;refine bJ ?_;refine .nil ?_;intro I a w U;obtain⟨b7,U⟩:=U.oL (d:=7) 1 rfl rfl;obtain⟨I,U⟩:=U.fb 1 7;obtain⟨vd,s8,xL,jf⟩:=Ra hg (bf aM);have hva:kz s.ai ⟨(ab s.aD k).key,(ab s.aD k).aq⟩=some vd:=by rw[BS hg.ai];exact s8
  rw[show(kz s.ai ⟨(ab s.aD k).key,(ab s.aD k).aq⟩).getD default=vd from by rw[hva];rfl] at U;refine bj<|wp_seq<|wp_seq<|U.dk ?_;refine ef ?_;refine .o (.c1 (vz ..)) ?_;refine .o ((by first|exact gS gU fo .tt .tt (λ_=>by have:=rr (rq (fi hg.ai vd jf));omega)|exact ku gU fo .tt .tt (λ_=>by have:=rr (rq (fi hg.ai vd jf));omega)|exact kS gU fo .tt .tt (λ_=>by have:=rr (rq (fi hg.ai vd jf));omega))) ?_;refine dD ?_;refine .nil ?_;intro I a w U;refine bj ?_;refine cz (λaP=>?_) λaP=>?_
  .refine zt ?_;refine aR λI a w U=>?_;have U:=U.drop 1;rw[abW aM xL (by simpa using aP)] at U;exact U.ag (k+1,v) (aM)
  refine wp_skip<|bj<|wp_seq ?_;rw[show ju s k=ju s k++(jt s (ab s.aD k)).take 0 from by simp] at U;refine aB λI a w U=>?_;refine St.lo (σ:=Nat×Value) (3::(9::(run 15 83 []))) ⟨λ⟨j,v2⟩=>[(9,AV.int j),(3,AV.val v2)],λ⟨j,v2⟩=>[Own.row v2 84 15 ((ju s k++(jt s (ab s.aD k)).take j).map ax.cells),Own.gone],λ⟨j,v2⟩=>j<=2⟩ (λ⟨j,v2⟩=>2-j) (0,v) U ?jh ?oY;case jh=>exact Nat.zero_le _
  rintro⟨j,v2⟩ I a w an U;have hj:j<=2:=an;dsimp only at U;refine aF λI a w U=>?_;refine cz (λbx=>?_) λbx=>?_
  .refine gT λI a w U=>?_;refine U.o (.li [vd.cells] lX (.u .nil)) λU=>?_;refine U.o (.bd eI (.k (.k (.k (.k bc.nil))))) λU=>?_;refine U.o (.li [({bW with kind:=5,aO:=s.site,to:=2-2*bM s.site+(j:Int),ai:=[vd]}:ax).cells] ir (.u .nil)) λU=>?_;refine U.append 0 rfl gf dI rfl .tt .r rfl (by have:=zG s k hk;simp;omega) λv97 a w U=>?_;rw[cF,RQ (by unfold cM;rw[<-xL];simpa using aP) s8 om] at U;refine aZ λI a w U=>?_;exact U.ag (j+1,v97) (by show j+1<=2;omega)
  refine zt ?_;refine aR λI a w U=>?_;have U:=U.drop 1;rw[RR aM om] at U;exact U.ag (k+1,v2) (aM)
 refine zt ?_;refine U.l0 λb98 I a w U=>?_;refine aB λI a w U=>?_;rw[RP om] at U;refine aB λI a w U=>?_;refine St.lo (σ:=Nat×Value×Value) (3::(run 4 10 (run 54 99 []))) ⟨λ⟨i,v,u⟩=>[(11,AV.int i),(3,AV.val v),(10,AV.val u)],λ⟨i,v,u⟩=>[Own.row v 84 15 ((og s (nw s i)).map ax.cells),Own.row u 115 3 ((nw s i).map au.cells)],λ⟨i,v,u⟩=>i<=s.waits.length⟩ (λ⟨i,v,u⟩=>s.waits.length-i) (0,v,.slice (some ⟨b98,0,none⟩) 0 0) U ?xW ?Kp;case xW=>exact Nat.zero_le _
 rintro⟨i,v,u⟩ I a w an U;have hi:i<=s.waits.length:=an;dsimp only at U;refine cI λI a w U=>?_;refine cz (λbt=>?_) λbt=>?_
 .refine aB λI a w U=>?_;refine St.lo (σ:=Nat×Value×Value) (3::(10::(run 2 12 (run 47 106 [])))) ⟨λ⟨j,v2,u2⟩=>[(12,AV.int j),(3,AV.val v2),(10,AV.val u2)],λ⟨j,v2,u2⟩=>[Own.row v2 84 15 ((og s (jH s i j)).map ax.cells),Own.row u2 115 3 ((jH s i j).map au.cells)],λ⟨j,v2,u2⟩=>j<=(ab s.waits i).aQ.length⟩ (λ⟨j,v2,u2⟩=>(ab s.waits i).aQ.length-j) (0,v,u) U ?Kq ?adT;case Kq=>exact Nat.zero_le _
  rintro⟨j,v2,u2⟩ I a w an U;have hj:j<=(ab s.waits i).aQ.length:=an;have hdj:=rO _ (bf bt);dsimp only at U;refine pz λI a w U=>?_;refine cz (λcE=>?_) λcE=>?_
  .refine yH λI a w U=>?_;refine U.alloc rfl cV gK λzJ I a w U=>?_;refine aB λI a w U=>?_;obtain⟨I,U⟩:=U.fb 2 13;refine aG λI a w U=>?_;refine U.o (.c2 (QM s _ cX.ai)) λU=>?_;refine bB λI a w U=>?_;refine U.q .T (DL 1 (az .ag (az .ag aI)) rfl (BT (jH s i j) (ab (ab s.waits i).aQ j)) (λ_ _ _ h=>h)) λU=>?_;refine aF λI a w U=>?_;refine U.cd (λdF=>?_) λdF=>?_
   .refine aG λI a w U=>?_;refine U.o (.li [(ab (ab s.waits i).aQ j).cells] iQ (.u .nil)) λU=>?_;refine U.append 1 rfl en cV rfl .tt .r rfl (by have:=zH rO i hi;have:=BN s i j;have:=rO _ (bf bt);simp;omega) λadV a w U=>?_;rw[cF,show jH s i j++[(ab (ab s.waits i).aQ j)]=jH s i (j+1) from by rw[zf cE,EE dF]] at U;refine aB λI a w U=>?_;refine U.dt 12 ?_;simp only[TD];refine gF ?_;refine .o (.c1 (zs _ hg.site)) ?_;refine ef ?_;refine .o (.bd eI (.k (.k (.k (.k (.t bc.nil)))))) ?_;refine .o (.li [(mB s (ab (ab s.waits i).aQ j)).cells] ir (.u .nil)) ?_;refine .nil ?_;intro I a w U;refine U.append 0 rfl gf dI rfl .tt .r rfl (by have:=zH rO i hi;have:=BN s i j;have:=rO _ (bf bt);have:=zG s _ (Nat.le_refl s.aD.length);simp[og];omega) λadW a w U=>?_;rw[cF,RM,show jH s i j++[(ab (ab s.waits i).aQ j)]=jH s i (j+1) from by rw[zf cE,EE dF]] at U;refine aZ λI a w U=>?_;have U:=U.drop 2;exact U.ag (j+1,adW,adV) (cE)
   refine aR λI a w U=>?_;have U:=U.drop 2;rw[show jH s i j=jH s i (j+1) from by rw[zf cE,Qg dF]] at U;exact U.ag (j+1,v2,u2) (cE)
  refine zt ?_;refine aR λI a w U=>?_;rw[I4 bt om] at U;exact U.ag (i+1,v2,u2) (bt)
 refine wp_exit<|cy<|cy<|fk<|bj<|wp_seq ?_;rw[I5 s om,JH ae.2 h3] at U;obtain⟨I,U⟩:=U.fr 0 3;refine bK λI a w U=>?_;refine U.o (bT (JW (gy s) (by have:=Sq hg;omega) (λy hy=>xH (Fl hg y hy))) (az .r aI)) λU=>?_;refine bh ?_;rfl
def Kr {q:Call} {k:Nat} (hk:¬q.kind=1) (h:q.aL.length<=k):sZ q k=asks q:=by
 unfold asks sZ p5;rw[if_neg hk,List.take_length,List.take_of_length_le h];rfl
def SM {q:Call} {a:Answer} {t:Int} {k:Nat} (h:q.aL.length<=k):lu q a t=if(pU q a k=[]/\q.aL≠[]) then{q with aC:=pS q a k,aL:=pU q a k,end_:=t} else{q with aC:=pS q a k,aL:=pU q a k}:=by
 unfold lu pU pS;rw[List.take_of_length_le h];by_cases hm:a.bl.aU∈q.aL
 .rw[if_pos hm,if_pos hm];have aX:q.aL≠[]:=λe=>by rw[e] at hm;simp at hm
  dsimp only;by_cases he:(q.aL.filter λd=>decide (d≠a.bl.aU))=[]
  .rw[if_pos he,if_pos ⟨he,aX⟩]
  rw[if_neg he,if_neg λhh=>he hh.1]
 rw[if_neg hm,if_neg hm];have hf:(q.aL.filter λd=>decide (d≠a.bl.aU))=q.aL:=by
  rw[List.filter_eq_self];intro d hd;simp;rintro rfl;exact hm hd
 rw[hf,if_neg λhh=>hh.2 hh.1]
def SN (q:Call) (m:ax) (t:Int) (he:0<=q.end_):(!bI m||(m.to !=10+q.ao)||(m.call !=q.num)||!ib q.keys m.key||decide (0<q.end_)||q.over||decide (t<=q.bH))=
 !(bI m&&(m.to==10+q.ao)&&(m.call==q.num)&&ib q.keys m.key&&cD q&&decide (q.bH<t)):=by
 have e1:decide (0<q.end_)=!(q.end_==0):=by rw[Bool.eq_iff_iff];simp;omega
 have e2:decide (t<=q.bH)=!decide (q.bH<t):=by rw[Bool.eq_iff_iff];simp
 unfold cD;rw[e1,e2];simp[bne,Bool.or_assoc]
def adX {q:Call} {t:Int} (h:dH q t) {x:Answer} {k:Nat} (hk:k<q.aL.length) (he:ab q.aL k=x.bl.aU) (hx:x.bl.key=x.key):0<=cm q x.key:=by
 have:=h.vR _ (bf hk);unfold sQ at this;rw[Bool.and_eq_true,decide_eq_true_eq,he] at this;rw[<-hx];exact this.1
def adY (q:Call) (g:Value) (x:Answer) (t t0:Int) (h:dH q t0) (oi:x.bl.key=x.key):
 jC prog 216 [q.avG g,x.av,AV.int t] [Own.row g 128 9 (q.aC.map Answer.cells)] [] (lu q x t).av:=by
 refine dr.intro 68 func216 rfl ntmps216 rfl aS (λW I a U=>?_);have mY:=h.lens;refine sr<|U.box rfl .tt λb3 I a w U=>U.o .bp λU=>U.alloc rfl fI j4 λb6 I a w U=>?_;refine zt ?_;refine U.l0 λb9 I a w U=>?_;refine aF λI a w U=>?_;refine St.lo (σ:=Nat×Value) (run 2 7 (run 44 10 [])) ⟨λ⟨k,v⟩=>[(8,AV.int k),(7,AV.val v)],λ⟨k,v⟩=>[Own.row g 128 9 ((pS q x k).map Answer.cells),Own.box b3 53 [AV.int q.ao,AV.int q.num,AV.int q.kind,jb q.keys,AV.int q.val,bE q.ctx,AV.int q.bH,AV.int q.end_,AV.bool q.over,AV.int q.aq.time,AV.int q.aq.site,AV.val g,bE q.aL],Own.box b6 53 [AV.val (.int .i64 0),AV.val (.int .i64 0),AV.val (.int .i64 0),AV.rows 1 [],AV.val (.int .i64 0),AV.rows 3 [],AV.val (.int .i64 0),AV.val (.int .i64 0),AV.val (.bool false),AV.val (.int .i64 0),AV.val (.int .i64 0),AV.rows 9 [],AV.rows 3 []],Own.row v 115 3 ((pU q x k).map au.cells)],λ⟨k,v⟩=>k<=q.aL.length⟩ (λ⟨k,v⟩=>q.aL.length-k) (0,.slice (some ⟨b9,0,none⟩) 0 0) U ?aJ ?bF;case aJ=>exact Nat.zero_le _
 rintro⟨k,v⟩ I a w an U;have hk:k<=q.aL.length:=an;dsimp only at U;refine cI λI a w U=>?_;refine cz (λae=>?_) λae=>?_
 .refine zt ?_;refine U.dk ?_;refine nT ?_;refine dD ?_;refine .q .T (nj [_,_] [_,_] nU rfl rfl .ag .ag) ?_;refine bJ ?_;refine .nil ?_;intro I a w U;refine bj ?_;refine U.cd (λah=>?_) λah=>?_
  .rw[Pf _ x oi,decide_eq_true_eq] at ah;have xX:=adX h ae ah oi;obtain⟨oj,nI⟩:=tY xX;rw[acv h.aL ae ah] at U;obtain⟨bg,SO,eg⟩:=U.j3 0 rfl pj;subst eg;refine wp_seq ?_;refine U.dt 8 ?_;simp only[TD];refine gF ?_;refine .o (N1 (cs:=[AV.int q.ao,AV.int q.num,AV.int q.kind,jb q.keys,AV.int q.val,bE q.ctx,AV.int q.bH,AV.int q.end_,AV.bool q.over,AV.int q.aq.time,AV.int q.aq.site,.val (.slice (some ⟨bg,0,none⟩) (q.aC.map Answer.cells).length SO),bE q.aL]) 0 11 (az .tt (az .tt aI)) rfl rfl (EU q x.key) (λ_ _ _ h=>h)) ?_;refine bJ ?_;refine .o (jj iD ga .tt .tt (λ_=>by simp only[List.length_map];omega)) ?_;refine .nil ?_;intro I a w U;refine U.lS 0 ga .tt .tt rfl (by exact gh om) rfl rfl λa w U=>?_;refine zt ?_;refine aR λI a w U=>?_;have e9:∀y,y=x.cells->(List.map Answer.cells q.aC).set (cm q x.key).toNat y=List.map Answer.cells (pS q x (k+1)):=λy hy=>by rw[hy,abx ae ah,List.map_set]
   rw[e9,aa1 ae ah] at U;rotate_left
   .rfl
   exact U.ag (k+1,v) (ae)
  rw[Pf _ x oi,decide_eq_false_iff_not] at ah;refine ee λI a w U=>?_;refine U.o (.li [(ab q.aL k).cells] iQ (.u .nil)) λU=>?_;refine U.append 3 rfl en cV rfl .tt .r rfl (by have:=aby q x k;simp;omega) λv53 a w U=>?_;rw[cF,aao ae ah,aa0 ae ah] at U;refine aZ λI a w U=>?_;exact U.ag (k+1,v53) (ae)
 refine zt ?_;refine U.m λU=>U.o (sh 3 en .tt rfl) λU=>?_;refine jD λI a w U=>?_;refine U.cd (λar=>?_) λar=>?_
 .rw[Qi,decide_eq_true_eq] at ar;refine aR λI a w U=>?_;obtain⟨I,U⟩:=U.fr 3 7;refine aG λI a w U=>?_;try have ad0:=U.ff 3 rfl
  refine aB λI a w U=>?_;obtain⟨I,U⟩:=U.fu 0 11 1;refine aF λI a w U=>?_;refine U.dw () [] rfl (.cons (.sx 2) .nil) trivial rfl ?_;exact(by rw[SM (k:=k) om,if_pos ar];rfl)
 rw[Qi,decide_eq_false_iff_not] at ar;refine wp_skip<|bj<|wp_seq ?_;obtain⟨I,U⟩:=U.fr 3 7;refine aG λI a w U=>?_;try have ad0:=U.ff 3 rfl
 refine aB λI a w U=>?_;obtain⟨I,U⟩:=U.fu 0 11 1;refine aF λI a w U=>?_;refine U.dw () [] rfl (.cons (.sx 2) .nil) trivial rfl ?_;exact(by rw[SM (k:=k) om,if_neg ar];rfl)
def SP {q:Call} {m:ax} {t t0:Int} (h:dH q t0) (hv:m.kind=4/\(m.yes=true->m.ai.length=1/\(ab m.ai 0).key=m.key)) (gj:ib q.keys m.key=true) (hb:(decide (cm q m.key<0)&&dS m.aq)=true) (ha:pM {q with aC:=c8 q.aC (dh m)}=true):
 ig q m t=if kQ {q with aC:=c8 q.aC (dh m)}=[] then{q with aC:=c8 q.aC (dh m),aL:=kQ {q with aC:=c8 q.aC (dh m)},end_:=t} else{q with aC:=c8 q.aC (dh m),aL:=kQ {q with aC:=c8 q.aC (dh m)}}:=by
 rw[Bool.and_eq_true,decide_eq_true_eq] at hb;have tb:=(Fp h gj hb.1).1;have:((c8 q.aC (dh m)).length:Int)=q.keys.length:=by simpa[pM] using ha
 unfold ig;rw[if_pos hv,if_pos hb.1,if_pos hb.2];unfold l9 kD;dsimp only;rw[if_neg om];generalize kQ {q with aC:=c8 q.aC (dh m)}=y;rw[tb,List.nil_append]
def ad1 {q:Call} {m:ax} {t:Int} (hv:m.kind=4/\(m.yes=true->m.ai.length=1/\(ab m.ai 0).key=m.key)) (hb:(decide (cm q m.key<0)&&dS m.aq)=false) (ah:(decide (0<=cm q m.key)&&m.yes&&decide (0<=eW q.aL (dh m).bl.aU))=false):ig q m t=q:=by
 unfold ig;rw[if_pos hv];by_cases hg:cm q m.key<0
 .rw[decide_eq_true hg,Bool.true_and] at hb;rw[if_pos hg,if_neg (by rw[hb];simp)]
 rw[if_neg hg];split
 .rename_i hy;rw[decide_eq_true om,hy,Bool.true_and,Bool.true_and,decide_eq_false_iff_not,oe] at ah;unfold lu;rw[if_neg ah]
 rfl
def ad2 (s:Server) (m:ax) (hg:bG s) (ho:(aH m.aO 10 11&&decide (1<=m.call)&&fq s m.key)=true):
 Fn prog 242 [s.av,m.av] (AV.dy [((s,gN s m)).1.av,dR ((s,gN s m)).2]):=by
 refine Fn.go 55 func242 ntmps242 (λW I a U=>?_);have an:=jI.2 hg;have cX:=hg.ok;have jv:=hg.small;have sj:∀v∈s.ai,v.aQ.length<=1048576:=jv.2.1.2;refine aG λI a w U=>?_;refine U.alloc rfl cv dN λb4 I a w U=>?_;refine gT λI a w U=>?_;refine U.o (.bd eI (.k (.k (.k (.t bc.nil))))) λU=>?_;refine U.alloc rfl dI eI λb6 I a w U=>?_;refine cj λI a w U=>?_;refine U.o (.cl (Kf s.ai m.key sj)) λU=>?_;refine bm λI a w U=>?_;refine U.alloc rfl bQ dO λb7 I a w U=>?_;refine bB λI a w U=>?_;refine U.o (.c1 (xm ..)) λU=>?_;refine aB λI a w U=>?_;refine U.cd (λae=>?_) λae=>?_
 .replace ae:=nt ae;refine ee λI a w U=>?_;refine U.o (.bd gK (.k (.t bc.nil))) λU=>?_;refine U.o (.cl (rF s.ai ⟨m.key,m.aq⟩)) λU=>?_;refine aR λI a w U=>?_;refine U.cd (λah=>?_) λah=>?_
  .refine aR λI a w U=>?_;refine U.ret rfl (.cons (.sx 0) (.cons (.nil (sz:=15) rfl) aW.nil)) ?_;exact(by show AV.dy [s.av,_]=AV.dy [s.av,dR (gN s m)];unfold gN;rw[ho,if_pos rfl];rw[ae,if_neg bk,show eE s.ai ⟨m.key,m.aq⟩=none from by unfold eE;rw[if_neg (by simpa using ah)]];rfl)
  refine bm λI a w U=>?_;refine U.o ((by first|exact gS eJ bQ .tt .tt (λ_=>by have:=BU ah;omega)|exact ku eJ bQ .tt .tt (λ_=>by have:=BU ah;omega)|exact kS eJ bQ .tt .tt (λ_=>by have:=BU ah;omega))) λU=>?_;refine aZ λI a w U=>?_;refine U.cd (λar=>?_) λar=>?_
  .refine U.gw (([2],none)::rp 2 [([1],some (1,[])),([],none),([1],some (1,[]))]) aS aS rfl ?_;refine .r [2] (.ls 2) ?_;refine .o (.li [_] lX (.u .nil)) ?_;refine bJ ?_;refine aY.jn (x:=AV.any) 1 (λF W0 I0 I a w Q U kk=>U.s1 1 λU=>kk _ _ _ U) ?_;refine bJ ?_;refine aY.jn (x:=AV.any) 1 (λF W0 I0 I a w Q U kk=>U.s1 1 λU=>kk _ _ _ U) ?_;refine .nil ?_;intro I a w U;refine zt ?_;refine U.dt 5 ?_;simp only[TD];refine ef ?_;refine .o (bT (uv s m ⟨4,0,0,m.call,m.key,m.aq,0,true,[],0,0,[ab s.ai (placeOf s.ai ⟨m.key,m.aq⟩).toNat],[],[]⟩ (SB (s:=s) (sj _ (bf (by have:=BU ah;omega))))) (az (.t rfl) (az (.t rfl) (az (.t rfl) aI)))) ?_;refine .nil ?_;intro I a w U;refine aF λI a w U=>?_;refine U.ret rfl (.cons (.sx 0) (.cons .x aW.nil)) ?_;exact(by show AV.dy [s.av,_]=AV.dy [s.av,dR (gN s m)];unfold gN;rw[ho,if_pos rfl];rw[ae,if_neg bk,(BU ah).2.2];rfl)
  cases ar;skip
 replace ae:=nf ae;refine aB λI a w U=>?_;refine U.cd (λaM=>?_) λaM=>?_
 .refine U.gw (([2],none)::rp 2 [([1],some (1,[])),([],none),([1],some (1,[]))]) aS aS rfl ?_;refine .r [2] (.ls 2) ?_;refine .o (.li [_] lX (.u .nil)) ?_;refine bJ ?_;refine aY.jn (x:=AV.any) 1 (λF W0 I0 I a w Q U kk=>U.s1 1 λU=>kk _ _ _ U) ?_;refine bJ ?_;refine aY.jn (x:=AV.any) 1 (λF W0 I0 I a w Q U kk=>U.s1 1 λU=>kk _ _ _ U) ?_;refine .nil ?_;intro I a w U;refine zt ?_;refine U.dt 5 ?_;simp only[TD];refine ef ?_;refine .o (bT (uv s m ⟨4,0,0,m.call,m.key,m.aq,0,true,[],0,0,[(dV s.ai m.key).getD default],[],[]⟩ (SB (s:=s) (by obtain⟨v,hv⟩:=Option.isSome_iff_exists.1 aM;rw[hv];exact sj _ (rv hv).1))) (az (.t rfl) (az (.t rfl) (az (.t rfl) aI)))) ?_;refine .nil ?_;intro I a w U;refine aF λI a w U=>?_;refine U.ret rfl (.cons (.sx 0) (.cons .x aW.nil)) ?_;exact(by show AV.dy [s.av,_]=AV.dy [s.av,dR (gN s m)];unfold gN;rw[ho,if_pos rfl];rw[ae,if_pos rfl];obtain⟨v,hv⟩:=Option.isSome_iff_exists.1 aM;unfold lM;rw[hv];rfl)
 refine zt ?_;refine U.dt 5 ?_;simp only[TD];refine ef ?_;refine .o (.c3 (uv s m ⟨4,0,0,m.call,m.key,m.aq,0,false,[],0,0,[],[],[]⟩ (xi ..)))<|.nil ?_;intro I a w U;refine aF λI a w U=>?_;refine U.ret rfl (.cons (.sx 0) (.cons .x aW.nil)) ?_;exact(by show AV.dy [s.av,_]=AV.dy [s.av,dR (gN s m)];unfold gN;rw[ho,if_pos rfl];rw[ae,if_pos rfl];unfold lM;rw[show dV s.ai m.key=none from BM (by rw[aM];rfl)];rfl)
def ad3 {s:Server} {m:ax} (h:(m.kind==7&&(m.aO==eX s.site)&&decide (0<=placeOf s.ai ⟨m.key,m.aq⟩))=true):cJ s m=(s,[mA s m]):=by
 simp only[Bool.and_eq_true,beq_iff_eq,decide_eq_true_eq] at h;unfold cJ;rw[h.1.1];show(s,kK s m)=_;unfold kK eE;rw[if_pos h.2,h.1.2];simp
def Fx {e:Ev} (h:((e.call==2)&&decide (e.a<e.b))=false):lq e=[e.a]:=by
 unfold lq;rw[if_neg];simpa using h
def Fy {e:Ev} (h:((e.call==2)&&decide (e.a<e.b))=true) (h2:¬e.b<e.c):lq e=[e.a,e.b]:=by
 unfold lq;rw[if_pos (by simpa using h),if_neg h2]
def Fz {e:Ev} (h:((e.call==2)&&decide (e.a<e.b))=true) (h2:e.b<e.c):lq e=[e.a,e.b,e.c]:=by
 unfold lq;rw[if_pos (by simpa using h),if_pos h2]
def ad4 (e:Ev):
 Fn prog 180 [e.av] (jb (lq e)):=by
 refine Fn.go 33 func180 ntmps180 (λW I a U=>?_);refine bB λI a w U=>?_;refine U.DM (jk:=[[AV.int e.a]]) rfl ky jQ rfl vb rfl rfl rfl (bc.c rfl rfl .tt (by first|exact lG rfl|exact lQ|exact lR|exact lV) bc.nil) rfl rfl (by simp only[List.forall_mem_cons];exact⟨rfl,λ_ h=>by simp at h⟩) rfl λb6 I a w U=>?_;refine Bm λI a w U=>?_;refine U.cd (λae=>?_) λae=>?_
 .refine bm λI a w U=>?_;refine U.o (.li [[AV.int e.b]] vb (.v .nil)) λU=>?_;refine U.append 0 rfl ky jQ rfl .tt .r rfl bk λRB a w U=>?_;refine iP λI a w U=>?_;refine cz (λah=>?_) λah=>?_
  .refine bm λI a w U=>?_;refine U.o (.li [[AV.int e.c]] vb (.v .nil)) λU=>?_;refine U.append 0 rfl ky jQ rfl .tt .r rfl bk λv31 a w U=>?_;refine aR λI a w U=>?_;obtain⟨I,U⟩:=U.fr 0 2;refine U.rt ?_;exact(by rw[Fz ae ah];rfl)
  refine aF λI a w U=>?_;obtain⟨I,U⟩:=U.fr 0 2;refine U.rt ?_;exact(by rw[Fy ae (by simpa using ah)];rfl)
 refine aF λI a w U=>?_;obtain⟨I,U⟩:=U.fr 0 2;refine U.rt ?_;exact(by rw[Fx ae];rfl)
def ad5 {w:aj} (h:bR w) (x:Int):tW w.calls x=gH w.calls w.calls.length x:=by
 have key:∀k,k<=w.calls.length->(w.calls.take k).foldl (λn q=>if q.ao=x then q.num else n) 0=gH w.calls k x:=by
  intro k;induction k with
  |zero=>intro _;rw[Jb];rfl
  |succ k ih=>
   intro hk
   rw[eT om,List.foldl_append,ih om,sV om]
   show(if(ab w.calls k).ao=x then(ab w.calls k).num else gH w.calls k x)=_
   split
   .rename_i e
    rw[((tc.1 h.calls).2 k om).2.2.1,e,sV om,if_pos e]
   rfl
 have:=key w.calls.length (Nat.le_refl _);rw[List.take_length] at this;exact this
def Fu:∀{l:List Answer} {acc:List au},bU acc=true->(∀a∈l,dT a=true)->bU (l.foldl s9 acc)=true/\∀key,bN (l.foldl s9 acc) key=dJ (bN acc key) (ur l key)
 |[],acc,ha,_=>⟨ha,λkey=>by show bN acc key=dJ (bN acc key) gn;rw[BZ (ui ha key)]⟩
 |a::r,acc,ha,h=>by
  have hg:=h a bk;cases hy:a.yes
  .have e:s9 acc a=acc:=by unfold s9;rw[hy];simp
   have h2:=Fu (l:=r) ha λb hb=>h b (by simp[hb]);rw[List.foldl_cons,e];refine⟨h2.1,λkey=>?_⟩;rw[h2.2 key];show _=dJ _ (dJ (if a.yes=true/\a.key=key then a.bl.aq else gn) (ur r key));rw[if_neg (by rw[hy];simp),p4 (Ce (l:=r) (λb hb=>h b (by simp[hb])) key)]
  have hd:=zx hg hy;have e:s9 acc a=gq acc ⟨a.key,a.bl.aq⟩:=by unfold s9;rw[hy];simp
  have be:di a.bl.aq=true:=(iW (rm hg hy).1).2.1;have h2:=Fu (l:=r) (zw ha (hd.2▸hd.1)) λb hb=>h b (by simp[hb]);rw[List.foldl_cons,e];refine⟨h2.1,λkey=>?_⟩;rw[h2.2 key,B0 key ha be];show _=dJ _ (dJ (if a.yes=true/\a.key=key then a.bl.aq else gn) (ur r key));by_cases hk:a.key=key
  .rw[if_pos hk,if_pos ⟨hy,hk⟩,IP]
  rw[if_neg hk,if_neg λh=>hk h.2,p4 (Ce (l:=r) (λb hb=>h b (by simp[hb])) key)]
def zO:∀{l:List Answer} {acc:List au},bU acc=true->(∀a∈l,dT a=true)->bU (l.foldl nH acc)=true/\∀key,bN (l.foldl nH acc) key=dJ (bN acc key) (dJ (kO l key) (ur l key))
 |[],acc,ha,_=>⟨ha,λkey=>by show bN acc key=dJ (bN acc key) (dJ gn gn);rw[p4 (Or.inl rfl),BZ (ui ha key)]⟩
 |a::r,acc,ha,h=>by
  have hg:=h a bk;have hr:∀b∈r,dT b=true:=λb hb=>h b (by simp[hb]);cases hy:a.yes
  .have e:nH acc a=acc:=by unfold nH;rw[hy];simp
   have h2:=zO (l:=r) ha hr;rw[List.foldl_cons,e];refine⟨h2.1,λkey=>?_⟩;rw[h2.2 key];show _=dJ _ (dJ (dJ (bN a.bl.aQ key) (kO r key)) (dJ (if a.yes=true/\a.key=key then a.bl.aq else gn) (ur r key)));rw[if_neg (by rw[hy];simp),p4 (Ce hr key),y7 hg hy];show _=dJ _ (dJ (dJ gn (kO r key)) (ur r key));rw[p4 (Fe hr key)]
  have hd:=zx hg hy;have uV:=sX hg;have hv:=rm hg hy;have e:nH acc a=gq (iV acc a.bl.aQ) a.bl.aU:=by unfold nH;rw[hy];simp
  have be:di a.bl.aU.aq=true:=(iW hv.1).2.1;have hj:bU (iV acc a.bl.aQ)=true:=xD ha λd jX=>pK uV jX;have h2:=zO (l:=r) (zw hj hd.1) hr;rw[List.foldl_cons,e];refine⟨h2.1,λkey=>?_⟩;rw[h2.2 key,B0 key hj be,Cd ha uV];show _=dJ _ (dJ (dJ (bN a.bl.aQ key) (kO r key)) (dJ (if a.yes=true/\a.key=key then a.bl.aq else gn) (ur r key)));have e2:a.bl.aU.key=a.key:=hv.2;rw[e2];have e3:a.bl.aU.aq=a.bl.aq:=rfl;rw[e3];apply IN;intro x;by_cases hk:a.key=key
  .rw[if_pos hk,if_pos ⟨hy,hk⟩];simp only[Eu];cases bV x (bN acc key)<;>cases bV x (bN a.bl.aQ key)<;>cases bV x (kO r key)<;>cases bV x a.bl.aq<;>simp
  rw[if_neg hk,if_neg λh=>hk h.2,p4 (Ce hr key)];simp only[Eu];cases bV x (bN acc key)<;>cases bV x (bN a.bl.aQ key)<;>cases bV x (kO r key)<;>simp
def adv {c:Call} (hc:bU c.ctx=true) (h:∀a∈c.aC,dT a=true):JX c=gO c:=by
 unfold gO JX;split
 .rfl
 split
 .rfl
 have Fq:=s7 (acc:=[]) rfl h;have jG:bU (fR c)=true:=Fq.1;have hj:bU (iV c.ctx (fR c))=true:=xD hc λd hd=>pK jG hd;have h1:=Fu hj h;have h2:=zO hc h;refine RU h1.1 h2.1 λkey=>?_;rw[h1.2 key,h2.2 key,Cd hc jG];have e:bN (fR c) key=kO c.aC key:=by
  show bN (c.aC.foldl mX []) key=_;rw[Fq.2 key];show dJ gn _=_;exact p4 (Fe h key)
 rw[e,IP]
def adw {s:Server} {m:ax} (h:bG s) (hm:bI m=true):bG (fT s m).1:=by
 unfold fT;split
 .rename_i hc;simp only[Bool.and_eq_true,decide_eq_true_eq] at hc;split
  .exact h
  split
  .rename_i hk;simp only[Bool.and_eq_true,decide_eq_true_eq] at hk;obtain⟨a1,a2,a3⟩:=Ff h hm hk.1.1;exact(h.put hk.1.2 (by rw[a1]) (by show cM s m.key≠0;rw[(xx hc.2).2];omega) hk.2).settle
  exact h
 exact h
def adx {s:Server} {m:ax} (h:bG s) (hm:bI m=true):∀w∈(fT s m).2,bI w=true:=by
 unfold fT;split
 .split
  .rename_i v hv;intro w hw;obtain rfl:w=_:=by simpa using hw
   exact Q3 h hm (iW (fi h.ai v (Jo hv).1)).2.1
  split
  .rename_i hk;simp only[Bool.and_eq_true,decide_eq_true_eq] at hk;intro w hw;obtain rfl:w=_:=by simpa using hw
   exact Q3 h hm (Ff h hm hk.1.1).2.1
  intro w hw;simp at hw
 intro w hw;simp at hw
def Kk {s:Server} {m:ax} (h:bG s) (hm:bI m=true):∀w∈(cJ s m).2,bI w=true:=by
 unfold cJ;repeat' split
 .exact adx h hm
 .exact aca h hm
 .exact acM h hm
 .intro w hw;simp at hw
 .exact aa5 h hm
 .intro w hw;simp at hw
 .exact acN h hm
 .intro w hw;simp at hw
 intro w hw;simp at hw
def ady (s:Server) (an:ij s=true):
 Fn prog 143 [s.av] ((ll s).av):=by
 refine Fn.go 14 func143 ntmps143 (λW I a U=>?_);have hp:=Ca an;refine bK λI a w U=>?_;refine U.alloc rfl cv dN λb2 I a w U=>?_;refine bK λI a w U=>?_;refine U.o (.c1 (vN ..)) λU=>?_;refine aB λI a w U=>?_;refine U.cd (λae=>?_) λae=>?_
 .exfalso;rw[an] at ae;cases ae;skip
 refine bK λI a w U=>?_;refine U.o (bT (Ci s (by have:=vD hp.2.1;have:=vD hp.2.2.1;exact(JD an).small (by have:=iX hp.2.2.2.1;omega))) (az (.t rfl) aI)) λU=>?_;refine U.alloc rfl cv dN λb3 I a w U=>?_;refine aR λI a w U=>?_;refine U.l0 λma I a w U=>?_;obtain⟨I,U⟩:=U.fr 2 11;refine aZ λI a w U=>?_;refine U.ret rfl (.cons (.sx 0) aW.nil) ?_;rfl
def SI {l vs:List aE} {k:Nat} (hl:cg l=true) (hv:cg vs=true) (hn:l.length+vs.length<=80) (hk:k<vs.length):Fn prog 178 [cn (iT l (vs.take k)),(ab vs k).av] (AV.dy [cn (iT l (vs.take (k+1))),AV.bool (ix (iT l (vs.take k)) (ab vs k))]):=by
 have h2:=IY l vs k;have:=Fh (iT l (vs.take k)) (ab vs k) (R0 hl hv hn k om);rwa[abq (fi hv _ (bf hk)) om,<-ED hk] at this
def td {s:Server} {m:ax} (h:m.kind=7) (h2:((kz s.ai ⟨m.key,m.aq⟩).isSome&&(m.aO==eX s.site))=true) (hc:cg s.ai=true):cJ s m=(s,[mA s m]):=by
 rw[BS hc] at h2;unfold cJ;rw[h];show(s,kK s m)=_;unfold kK;rw[h2];rfl
def adz (s:Server) (slot:Int) (hg:bG s):
 Fn prog 145 [s.av,AV.int slot] (AV.dy [(eZ s slot).1.av,(eZ s slot).2.1.av,AV.bool (eZ s slot).2.2]):=by
 refine Fn.go 59 func145 ntmps145 (λW I a U=>?_);have an:=jI.2 hg;have cX:=hg.ok;have h3:=hg.aw;have e9:∀x,x=cY.cells ⟨(ab s.aw slot.toNat).ba+1,2⟩->(List.map cY.cells s.aw).set slot.toNat x=List.map cY.cells (gV s slot).aw:=λx h=>by rw[h];exact List.map_set.symm
 refine bK λI a w U=>?_;refine U.alloc rfl cv dN λb4 I a w U=>U.alloc rfl dI eI λb5 I a w U=>?_;refine aG λI a w U=>?_;refine U.o (.c1 (vN ..)) λU=>?_;refine aB λI a w U=>?_;refine U.cd (λae=>?_) λae=>?_
 .exfalso;rw[an] at ae;cases ae;skip
 refine bK λI a w U=>?_;refine U.dj [] (acK s hg.small) (az .tt aI) rfl aN rfl λmC I a w zP U=>?_;refine U.alloc rfl cv dN λb7 I a w U=>?_;refine ee λI a w U=>?_;refine U.q .F (.cl (jE ..)) λU=>?_;refine ee λI a w U=>?_;refine U.q .F ((by first|exact gS gU fo .ag .ag (λhg=>by simp[aH] at hg;omega)|exact ku gU fo .ag .ag (λhg=>by simp[aH] at hg;omega)|exact kS gU fo .ag .ag (λhg=>by simp[aH] at hg;omega))) λU=>?_;refine mn λI a w U=>?_;refine U.q .F ((by first|exact gS gU fo .ag .ag (λhg=>by simp[aH] at hg;omega)|exact ku gU fo .ag .ag (λhg=>by simp[aH] at hg;omega)|exact kS gU fo .ag .ag (λhg=>by simp[aH] at hg;omega))) λU=>?_;refine aZ λI a w U=>?_;refine U.cd (λah=>?_) λah=>?_
 .rw[PF] at ah;replace ah:=nt ah;obtain⟨I,U⟩:=U.fu 2 2 3;refine bK λI a w U=>?_;refine U.o (.bd eI bc.nil) λU=>?_;refine aR λI a w U=>?_;refine U.ret rfl (.cons (.sx 0) (.cons (.sx 1) (.cons (.t rfl) aW.nil))) ?_;exact(by unfold eZ;rw[ah];rfl)
 rw[PF] at ah;replace ah:=nf ah;have hmp:=vq ah;have zQ:=rz.1 (E5 hg (i:=slot.toNat) om);have xV:=zL hg ah;refine zt ?_;obtain⟨uw,aoa,e14⟩:=U.j3 2 rfl pj;subst e14;refine U.dt 12 ?_;simp only[TD];refine pC ?_;refine .o (.bd oN (.k (.k bc.nil))) ?_;refine .o (jj gU fo .tt .tt (λ_=>by simp only[List.length_map];omega)) ?_;refine .nil ?_;intro I a w U;refine U.lS 2 fo .tt .tt rfl (by exact gh om) rfl rfl λa w U=>?_;refine zt ?_;rw[e9] at U;rotate_left
 .rfl
 obtain⟨I,U⟩:=U.fu 2 2 3;refine U.dt 4 ?_;simp only[TD];refine dD ?_;refine .o (bT (Sw (gV s slot) slot xV.ai xV.waits hg.site xV.aw om (iX hg.aD)) (az (.t rfl) (az (.t rfl) aI))) ?_;refine .nil ?_;intro I a w U;refine aR λI a w U=>?_;refine U.ret rfl (.cons (.sx 0) (.cons (.sx 1) (.cons (.t rfl) aW.nil))) ?_;exact(by unfold eZ;rw[ah];rfl)
def adC (q:Call) (m:ax) {j:Nat} (hj:j<2):ab (jr q m) j={m with aO:=10+q.ao,to:=2*q.ao+(j:Int),call:=q.num}:=by
 match j,hj with
 |0,_=>show _={m with aO:=10+q.ao,to:=2*q.ao+(0:Int),call:=q.num};rw[Int.add_zero];rfl
 |1,_=>rfl
def SJ (q:Call) (m:ax) {j:Nat} (hj:j<2):(jr q m).take j++[{m with aO:=10+q.ao,to:=2*q.ao+(j:Int),call:=q.num}]=(jr q m).take (j+1):=by
 rw[<-adC q m hj,<-eT hj]
def adD {q:Call} {k:Nat} (h:k<q.aL.length):sZ q k++[xI (ab q.aL k)]=sZ q (k+1):=by
 unfold sZ;rw[eT h,List.map_append,List.append_assoc];rfl
def adE (q:Call) (n:Value) (hg:∀y∈q.aC,dT y=true) (hl:q.aC.length<=1048576):
 Fn prog 218 [q.yV n] (bE (fR q)):=by
 refine Fn.go 23 func218 ntmps218 (λW I a U=>?_);refine aF λI a w U=>?_;refine U.l0 λb5 I a w U=>?_;obtain⟨I,U⟩:=U.fr 0 5;have U:=U.drop 0;refine aF λI a w U=>?_;refine St.lo (σ:=Nat) (run 2 3 (run 16 6 [])) ⟨λk=>[(4,AV.int k),(3,bE ((q.aC.take k).foldl mX []))],λk=>[],λk=>k<=q.aC.length⟩ (λk=>q.aC.length-k) 0 U ?aJ ?bF;case aJ=>exact Nat.zero_le _
 rintro k I a w an U;have hk:k<=q.aC.length:=an;refine cI λI a w U=>?_;refine cz (λae=>?_) λae=>?_
 .refine mn λI a w U=>?_;refine U.o (.cl (J2 _ _ (s7 (acc:=[]) rfl (za hg k)).1 (sX (hg _ (bf ae))))) λU=>?_;refine aZ λI a w U=>?_;refine U.again (k+1) ?iG ?iH eA ?iI (by repeat(first|exact Env.le_rfl|refine Env.ja rfl ?_));case iG=>omega
  case iH=>exact ae
  case iI=>exact(Env.dK rfl eA (Env.dK rfl (by exact congrArg bE (by rw[zd ae];rfl)) Env.le_nil))
 refine zt ?_;refine dG ?_;exact congrArg bE (by rw[List.take_of_length_le om];rfl)
def adF (q:Call) (n:Value) (t:Int) (hg:∀y∈q.aC,dT y=true) (hl:q.aC.length<=1048576) (hn:q.aL.length<=1048576):
 jC prog 239 [q.yV n,AV.int t] [Own.row n 115 3 (q.aL.map au.cells)] [] (kD {q with aL:=q.aL++kQ q} t).av:=by
 refine dr.intro 54 func239 rfl ntmps239 rfl aS (λW I a U=>?_);have jG:bU (fR q)=true:=(s7 (l:=q.aC) (acc:=[]) rfl hg).1;refine sr<|U.box rfl .tt λb2 I a w U=>U.alloc rfl fI j4 λb4 I a w U=>?_;refine bK λI a w U=>?_;refine U.o (.c1 (adE q n hg hl)) λU=>?_;refine aF λI a w U=>?_;refine St.lo (σ:=Nat×Value) (run 2 6 (run 37 10 [])) ⟨λ⟨k,v⟩=>[(6,AV.int k)],λ⟨k,v⟩=>[Own.row v 115 3 ((oc q k).map au.cells),Own.box b2 53 [AV.int q.ao,AV.int q.num,AV.int q.kind,jb q.keys,AV.int q.val,bE q.ctx,AV.int q.bH,AV.int q.end_,AV.bool q.over,AV.int q.aq.time,AV.int q.aq.site,sw q.aC,AV.val v],Own.box b4 53 [AV.val (.int .i64 0),AV.val (.int .i64 0),AV.val (.int .i64 0),AV.rows 1 [],AV.val (.int .i64 0),AV.rows 3 [],AV.val (.int .i64 0),AV.val (.int .i64 0),AV.val (.bool false),AV.val (.int .i64 0),AV.val (.int .i64 0),AV.rows 9 [],AV.rows 3 []]],λ⟨k,v⟩=>k<=q.aC.length⟩ (λ⟨k,v⟩=>q.aC.length-k) (0,n) U ?aJ ?bF;case aJ=>exact Nat.zero_le _
 rintro⟨k,v⟩ I a w an U;have hk:k<=q.aC.length:=an;dsimp only at U;refine cI λI a w U=>?_;refine cz (λae=>?_) λae=>?_
 .refine gT λI a w U=>?_;refine U.o (.cl (aaU _ _ jG)) λU=>?_;refine U.alloc rfl mP ke λb7 I a w U=>?_;refine aB λI a w U=>?_;obtain⟨I,U⟩:=U.fb 3 7;refine U.dk ?_;refine pB ?_;refine .o (.c2 (yS ..))<|.nil ?_;intro I a w U;refine bj ?_;refine U.cd (λah=>?_) λah=>?_
  .refine U.dt 11 ?_;simp only[TD];refine yJ ?_;refine .o (.bd gK (.k (.t bc.nil))) ?_;refine .o (.li [au.cells ⟨(ab q.aC k).key,bN (fR q) (ab q.aC k).key⟩] iQ (.u .nil)) ?_;refine .nil ?_;intro I a w U;refine U.append 0 rfl en cV rfl .tt .r rfl (by have:=Rq q k hk;simp;omega) λJm a w U=>?_;refine U.o .fv λU=>?_;try have aob:=U.ff 0 rfl
   refine aB λI a w U=>?_;rw[cF,abu ae ah] at U;refine aR λI a w U=>?_;have U:=U.drop 3;exact U.ag (k+1,Jm) (ae)
  refine aR λI a w U=>?_;have U:=U.drop 3;rw[abv ae (by rw[ah];simp)] at U;exact U.ag (k+1,v) (ae)
 refine wp_exit<|cy<|cy<|fk<|bj<|wp_seq<|wp_seq ?_;rw[abw hk om] at U;refine aG λI a w U=>?_;refine U.o (sh 0 en .tt rfl) λU=>?_;refine aB λI a w U=>?_;refine cz (λar=>?_) λar=>?_
 .refine aR λI a w U=>?_;obtain⟨I,U⟩:=U.fu 0 12 1;refine aF λI a w U=>?_;refine U.dw () [] rfl (.cons (.sx 2) .nil) trivial rfl ?_;exact(by unfold kD;rw[if_pos (by apply List.length_eq_zero_iff.1;rw[List.length_map] at ar;exact Int.ofNat_eq_zero.1 ar)];rfl)
 refine wp_skip<|bj<|wp_seq ?_;obtain⟨I,U⟩:=U.fu 0 12 1;refine aF λI a w U=>?_;refine U.dw () [] rfl (.cons (.sx 2) .nil) trivial rfl ?_;exact(by unfold kD;rw[if_neg (λe=>ar (by rw[show q.aL++kQ q=[] from e];rfl))];rfl)
def adG (q:Call) (n:Value) (x:Answer) (t:Int) (hg:∀y∈q.aC,dT y=true) (hx:dT x=true) (hl:q.aC.length<=1048575) (mg:q.keys.length<=1048576) (hn:q.aL.length<=1048576):
 jC prog 215 [q.yV n,x.av,AV.int t] [Own.row n 115 3 (q.aL.map au.cells)] [] (l9 q x t).av:=by
 refine dr.intro 62 func215 rfl ntmps215 rfl aS (λW I a U=>?_);refine sr<|U.box rfl .tt λb3 I a w U=>U.o .bp λU=>U.alloc rfl fI j4 λb6 I a w U=>?_;refine zt ?_;refine U.l0 λl6 I a w U=>?_;refine aR λI a w U=>?_;refine St.lo (σ:=Nat×Bool×List Answer×Value) (run 3 7 (run 32 11 [])) ⟨λ⟨k,done,out,v⟩=>[(9,AV.int k),(8,AV.bool done),(7,AV.val v)],λ⟨k,done,out,v⟩=>[Own.row n 115 3 (q.aL.map au.cells),Own.box b3 53 [AV.int q.ao,AV.int q.num,AV.int q.kind,jb q.keys,AV.int q.val,bE q.ctx,AV.int q.bH,AV.int q.end_,AV.bool q.over,AV.int q.aq.time,AV.int q.aq.site,sw q.aC,AV.val n],Own.box b6 53 [AV.val (.int .i64 0),AV.val (.int .i64 0),AV.val (.int .i64 0),AV.rows 1 [],AV.val (.int .i64 0),AV.rows 3 [],AV.val (.int .i64 0),AV.val (.int .i64 0),AV.val (.bool false),AV.val (.int .i64 0),AV.val (.int .i64 0),AV.rows 9 [],AV.rows 3 []],Own.row v 128 9 (out.map Answer.cells)],λ⟨k,done,out,v⟩=>nG q.aC x k done out⟩ (λ⟨k,done,out,v⟩=>q.aC.length-k) (0,false,[],.slice (some ⟨l6,0,none⟩) 0 0) U ?aJ ?bF;case aJ=>exact nG.zero q.aC x
 rintro⟨k,done,out,v⟩ I a w an U;have hp:nG q.aC x k done out:=an;have hk:=hp.hk;have kW:=hp.len;have ss:done.toNat<=1:=by cases done<;>simp
 dsimp only at U;refine cI λI a w U=>?_;refine cz (λae=>?_) λae=>?_
 .refine aB λI a w U=>?_;refine cz (λah=>?_) λah=>?_
  .refine aG λI a w U=>?_;refine U.o (.li [x.cells] ve (.u .nil)) λU=>?_;refine U.ap 3 λv34 a w U=>?_;rw[cF] at U;refine mn λI a w U=>?_;refine U.o (.li [(ab q.aC k).cells] ve (.u .nil)) λU=>?_;refine U.ap 3 λo5 a w U=>?_;rw[cF] at U;refine aZ λI a w U=>?_;exact U.ag (k+1,true,(out++[x])++[ab q.aC k],o5) (by obtain⟨h1,h2⟩:=ah;subst h1;exact hp.before ae h2)
  refine ee λI a w U=>?_;refine U.o (.li [(ab q.aC k).cells] ve (.u .nil)) λU=>?_;refine U.ap 3 λo5 a w U=>?_;rw[cF] at U;refine aZ λI a w U=>?_;exact U.ag (k+1,done,out++[ab q.aC k],o5) (hp.step ae (by rcases ah with h|h;exact .inl h;exact .inr om))
 refine wp_exit<|cy<|cy<|fk<|bj ?_;refine St.cut (σ:=Value) (7::(run 6 43 [])) ⟨λv=>[(7,AV.val v)],λv=>[Own.row n 115 3 (q.aL.map au.cells),Own.box b3 53 [AV.int q.ao,AV.int q.num,AV.int q.kind,jb q.keys,AV.int q.val,bE q.ctx,AV.int q.bH,AV.int q.end_,AV.bool q.over,AV.int q.aq.time,AV.int q.aq.site,sw q.aC,AV.val n],Own.box b6 53 [AV.val (.int .i64 0),AV.val (.int .i64 0),AV.val (.int .i64 0),AV.rows 1 [],AV.val (.int .i64 0),AV.rows 3 [],AV.val (.int .i64 0),AV.val (.int .i64 0),AV.val (.bool false),AV.val (.int .i64 0),AV.val (.int .i64 0),AV.rows 9 [],AV.rows 3 []],Own.row v 128 9 ((c8 q.aC x).map Answer.cells)],λv=>True⟩ U ?Kl ?adH;case Kl=>
  refine aF λI a w U=>?_;refine cz (λar=>?_) λar=>?_
  .refine aG λI a w U=>?_;refine U.o (.li [x.cells] ve (.u .nil)) λU=>?_;refine U.ap 3 λKm a w U=>?_;rw[cF] at U;refine aB λI a w U=>?_;first|rw[show out++[x]=c8 q.aC x from by subst ar;exact hp.uq om] at U|rw[show out=c8 q.aC x from by subst ar;exact hp.um om] at U
   exact U.me Km gD
  refine zt ?_;first|rw[show out++[x]=c8 q.aC x from by subst ar;exact hp.uq om] at U|rw[show out=c8 q.aC x from by subst ar;exact hp.um om] at U
  exact U.me v gD
 rintro v I a w an U;refine wp_seq ?_;obtain⟨I,U⟩:=U.fr 3 7;refine aG λI a w U=>?_;try have aod:=U.ff 3 rfl
 refine py λI a w U=>?_;refine cz (λaM=>?_) λaM=>?_
 .refine wp_seq ?_;obtain⟨I,U⟩:=U.fu 0 12 1;refine aF λI a w U=>?_;refine U.dw () [] rfl (.cons (.sx 2) .nil) trivial rfl ?_;exact(by unfold l9;dsimp only;rw[if_pos (by simpa using aM)];rfl)
 refine aG λI a w U=>?_;refine U.fm [0] (adF {q with aC:=c8 q.aC x} n t (λy hy=>(pX.1 hy).elim (λe=>e▸hx) (hg y)) (by show(c8 q.aC x).length<=_;rw[xE];omega) hn) (az .tt (az .tt aI)) rfl aN rfl λI a w U=>?_;refine aB λI a w U=>?_;refine U.dw () [] rfl (.cons (.sx 2) .nil) trivial rfl ?_;exact(by unfold l9;dsimp only;rw[if_neg (by simpa using aM)];rfl)
def adI {q:Call} {k:Nat} (h:∀a∈q.aC,dT a=true) (hk:q.aC.length<=k):rG q k=kQ q:=by
 have hS:∀key,tU (bN (fR q) key):=λkey=>ui (s7 (acc:=[]) rfl h).1 key;have key:∀l:List Answer,(∀a∈l,dT a=true)->(l.filter λa=>!dS (bN (fR q) a.key)&&nW a (bN (fR q) a.key)).map (λa=>(⟨a.key,bN (fR q) a.key⟩:au))=(l.map (nV (fR q))).flatten:=by
  intro l;induction l with
  |nil=>intro _;rfl
  |cons a r ih=>
   intro hl
   have ih:=ih λx hx=>hl x (by simp[hx])
   have ht:=aa3 (hl a bk) (hS a.key)
   rw[List.map_cons,List.flatten_cons,<-ih]
   unfold nV
   by_cases hp:bV a.bl.aq (bN (fR q) a.key)=true
   .rw[List.filter_cons_of_pos (by rw[ht];exact hp),if_pos hp];rfl
   rw[List.filter_cons_of_neg (by rw[ht];exact hp),if_neg hp];rfl
 unfold rG kQ;rw[List.take_of_length_le hk];exact key _ h
def SK (q:Call) (m:ax) (t:Int):(!cD q||decide (t<=q.bH)||!bI m||(m.to !=10+q.ao)||(m.call !=q.num)||!ib q.keys m.key)=
 !(bI m&&(m.to==10+q.ao)&&(m.call==q.num)&&ib q.keys m.key&&cD q&&decide (q.bH<t)):=by
 have e2:decide (t<=q.bH)=!decide (q.bH<t):=by rw[Bool.eq_iff_iff];simp
 rw[e2,Bool.eq_iff_iff];cases cD q<;>cases bI m<;>cases decide (q.bH<t)<;>cases ib q.keys m.key<;>simp[bne]
def adJ {q:Call} {m:ax} {t t0:Int} (h:dH q t0) (hv:m.kind=4/\(m.yes=true->m.ai.length=1/\(ab m.ai 0).key=m.key)) (gj:ib q.keys m.key=true) (hb:(decide (cm q m.key<0)&&dS m.aq)=true) (ha:pM {q with aC:=c8 q.aC (dh m)}=false):ig q m t={q with aC:=c8 q.aC (dh m)}:=by
 rw[Bool.and_eq_true,decide_eq_true_eq] at hb;have bw:=(Fp h gj hb.1).2;unfold ig;rw[if_pos hv,if_pos hb.1,if_pos hb.2];unfold l9;dsimp only;rw[if_pos];have:¬((c8 q.aC (dh m)).length:Int)=q.keys.length:=by simpa[pM] using ha
 rw[xE] at this⊢;omega
def adK {s:Server} {m:ax} (hm:bI m=true) (h1:(m.kind==1&&fF (m.aO-10)&&decide (0<m.call)&&fq s m.key)=false) (h2:(m.kind==3&&fF (m.aO-10)&&decide (0<m.call)&&fq s m.key)=false)
 (h3:(m.kind==5&&(cr m.aO&&(bM m.aO !=bM s.site)))=false) (h4:(m.kind==6&&(cr m.aO&&(bM m.aO !=bM s.site))&&fq s m.key)=false) (h5:(m.kind==7&&(m.aO==eX s.site)&&decide (0<=placeOf s.ai ⟨m.key,m.aq⟩))=false)
 (h6:(m.kind==8&&(m.aO==eX s.site)&&gY s ⟨m.key,m.aq⟩&&decide ((s.aV.length:Int)<80))=false) (h7:(m.kind==9&&(m.aO==eX s.site)&&decide (0<m.ba))=false)
 (h8:(m.kind==10&&(m.aO==eX s.site)&&([(ab s.aw m.slot.toNat).ba,(ab s.aw m.slot.toNat).bD]==[m.ba,2]))=false):cJ s m=(s,[]):=by
 rw[Bool.and_assoc] at h4 h5 h7 h8;rw[Bool.and_assoc,Bool.and_assoc] at h6;unfold cJ;by_cases k1:m.kind=1
 .rw[if_pos k1];unfold fT;rw[SE h1 k1];rfl
 rw[if_neg k1];by_cases k3:m.kind=3
 .rw[if_pos k3];unfold gN;rw[SE h2 k3];rfl
 rw[if_neg k3];by_cases k5:m.kind=5
 .rw[if_pos k5];unfold fL sT;rw[zu h3 k5];rfl
 rw[if_neg k5];by_cases k6:m.kind=6
 .have h:=zu h4 k6;rw[if_pos k6];unfold iS;rw[if_neg];intro e;unfold fq at h;rw[BR hm,Bool.true_and] at h;simp only[Bool.and_eq_true] at e;rw[e.1.1.1,e.1.1.2,e.2] at h;cases h
 rw[if_neg k6];by_cases k7:m.kind=7
 .have h:=zu h5 k7;rw[if_pos k7];unfold kK eE;rw[if_neg];intro e;rw[Bool.and_eq_true] at e;split at e
  .rename_i hp;rw[e.2,decide_eq_true hp] at h;cases h
  cases e.1
 rw[if_neg k7];by_cases k8:m.kind=8
 .have h:=zu h6 k8;rw[if_pos k8];unfold fK;rw[if_neg];intro e;simp only[Bool.and_eq_true,decide_eq_true_eq] at e;rw[e.1.1,e.1.2,decide_eq_true om] at h;cases h
 rw[if_neg k8];by_cases k9:m.kind=9
 .have h:=zu h7 k9;rw[if_pos k9];unfold fj;rw[if_neg];intro e;simp only[Bool.and_eq_true,decide_eq_true_eq] at e;rw[e.1,decide_eq_true om] at h;cases h
 rw[if_neg k9];by_cases nJ:m.kind=10
 .have h:=zu h8 nJ;rw[if_pos nJ];unfold g8;rw[if_neg];intro e;simp only[Bool.and_eq_true,beq_iff_eq] at e;rw[e.1.2,e.2,e.1.1] at h;simp at h
 rw[if_neg nJ]
def bR.lens {w:aj} (h:bR w):w.calls.length<=20/\∀q∈w.calls,q.aC.length<=3:=⟨(tc.1 h.calls).1,λq hq=>by
 obtain⟨k,hk,rfl⟩:=gm hq;exact(h.call hk).lens.2.2.2.2.1⟩
def adL {x:aj} {e:Ev} (hg:bR x) (h:0<=e.ao/\e.ao<=1) {q:Call} (hq:q∈x.calls++[iK x e]):kv q.ao:=by
 rcases List.mem_append.1 hq with hq|hq
 .obtain⟨k,hk,rfl⟩:=gm hq;have:=pJ.1 (hg.call hk).ao;unfold kv;omega
 obtain rfl:=List.mem_singleton.1 hq;show kv e.ao;unfold kv;omega
def SF (l:List Call) (time:Int) (ht:time<=4611686018427387904) (vM:∀q∈l,q.aC.length<=1048576):
 Fn prog 47 [jl l,AV.int time] (AV.bool (j6 l time)):=by
 refine Fn.go 98 func47 ntmps47 (λW I a U=>?_);have hle:=U.eC (t:=0) rfl;refine aZ λI a w U=>?_;refine cz (λae=>?_) λae=>?_
 .refine bh ?_;exact bP (by unfold j6;rw[Z5 ae];simp)
 refine aB λI a w U=>?_;refine St.lo (σ:=Nat) (run 4 4 (run 87 11 [])) ⟨λk=>[(5,AV.int k)],λk=>[],λk=>k<=l.length/\∀i,i<k->(nF l time) i=true⟩ (λk=>l.length-k) 0 U ?aJ ?bF;case aJ=>exact⟨Nat.zero_le _,λi hi=>by omega⟩
 rintro k I a w an U;obtain⟨pH,aT⟩:=an;refine aZ λI a w U=>?_;refine cz (λah=>?_) λah=>?_
 .refine zt ?_;refine U.dk ?_;refine gF ?_;refine .o (.c2 (Fm _ _ ht (vM _ (bf ah)))) ?_;refine nT ?_;refine dD ?_;refine .nil ?_;intro I a w U;refine bj ?_;refine U.cd (λar=>?_) λar=>?_
  .rw[Rf] at ar;replace ar:=nt ar;refine bh ?_;exact bP (by unfold j6;rw[fY (f:=nF l time) ah (by rw[EV,ar];rfl)];rfl)
  rw[Rf] at ar;replace ar:=nf ar;refine aF λI a w U=>?_;refine St.lo (σ:=Nat) (4::(run 2 6 (run 48 42 []))) ⟨λk2=>[(7,AV.int k2),(6,AV.int (gH l k2 (ab l k).ao))],λk2=>[],λk2=>k2<=k/\∀i,i<k2->(λj=>!mz (ab l j) (ab l k)) i=true⟩ (λk2=>k-k2) 0 U ?eF ?jS;case eF=>exact⟨Nat.zero_le _,λi hi=>by omega⟩
  rintro k2 I a w an U;obtain⟨zI,j7⟩:=an;refine aR λI a w U=>?_;refine cz (λaM=>?_) λaM=>?_
  .refine aB λI a w U=>?_;refine cz (λaP=>?_) λaP=>?_
   .refine zt ?_;refine aR λI a w U=>?_;refine U.again (k2+1) ?iG ?iH eA ?iI (by repeat(first|exact Env.le_rfl|refine Env.ja rfl ?_));case iG=>omega
    case iH=>exact⟨by omega,gI j7 (by show(!mz (ab l k2) (ab l k))=true;rw[abb aP];rfl)⟩
    case iI=>exact(Env.dK rfl eA (Env.dK rfl (by first|exact congrArg AV.int (by rw[sV om,if_neg aP])|exact congrArg AV.int (by rw[Re (aT k2 om),show(ab l k2).ao=(ab l k).ao by omega])) Env.le_nil))
   refine jD λI a w U=>?_;refine U.cd (λbx=>?_) λbx=>?_
   .rw[Rg om] at bx;refine bh ?_;exact bP (by unfold j6;rw[fY (f:=nF l time) ah (by rw[EV,fY (f:=λj=>!mz (ab l j) (ab l k)) (k:=k2) om (by rw[bx];rfl)];simp)];rfl)
   rw[Rg om] at bx;refine aR λI a w U=>?_;refine U.again (k2+1) ?nC ?nD eA ?nE (by repeat(first|exact Env.le_rfl|refine Env.ja rfl ?_));case nC=>omega
   case nD=>exact⟨by omega,gI j7 (by show(!mz (ab l k2) (ab l k))=true;rw[bx];rfl)⟩
   case nE=>exact(Env.dK rfl eA (Env.dK rfl (by first|exact congrArg AV.int (by rw[sV om,if_neg aP])|exact congrArg AV.int (by rw[Re (aT k2 om),show(ab l k2).ao=(ab l k).ao by omega])) Env.le_nil))
  refine zt ?_;refine ee λI a w U=>?_;refine U.o (mH .tt .c (λ_=>by have:=EK l k2 (ab l k).ao;omega)) λU=>?_;refine aB λI a w U=>?_;refine cz (λbt=>?_) λbt=>?_
  .refine bh ?_;exact bP (by unfold j6;rw[fY (f:=nF l time) ah (by rw[EV,sV ah,if_pos rfl,show((ab l k).num==gH l k (ab l k).ao+1)=false by(rw[show k2=k by omega] at bt;simpa using bt)];simp)];rfl)
  refine aR λI a w U=>?_;exact U.ag (k+1) (⟨by omega,gI aT (by rw[EV,ar,fP j7 om];simp only[Bool.true_and,Bool.and_true,beq_iff_eq];rw[sV ah,if_pos rfl];rw[show k2=k by omega] at bt;omega)⟩)
 refine zt ?_;refine bh ?_;exact bP (by unfold j6;rw[fP aT om];simp;omega)
def ado (q:Call) (hg:∀y∈q.aC,dT y=true):
 Fn prog 218 [q.av] (bE (fR q)):=by
 refine Fn.go 23 func218 ntmps218 (λW I a U=>?_);have lens:q.keys.length<=9223372036854775807/\q.aC.length<=9223372036854775807/\q.aL.length<=9223372036854775807:=⟨U.ln 0 3,U.ln 0 11,U.ln 0 12⟩;refine aF λI a w U=>?_;refine U.l0 λb5 I a w U=>?_;obtain⟨I,U⟩:=U.fr 0 5;have U:=U.drop 0;refine aF λI a w U=>?_;refine St.lo (σ:=Nat) (run 2 3 (run 16 6 [])) ⟨λk=>[(4,AV.int k),(3,bE ((q.aC.take k).foldl mX []))],λk=>[],λk=>k<=q.aC.length⟩ (λk=>q.aC.length-k) 0 U ?aJ ?bF;case aJ=>exact Nat.zero_le _
 rintro k I a w an U;have hk:k<=q.aC.length:=an;refine cI λI a w U=>?_;refine cz (λae=>?_) λae=>?_
 .refine mn λI a w U=>?_;refine U.o (.cl (J2 _ _ (s7 (acc:=[]) rfl (za hg k)).1 (sX (hg _ (bf ae))))) λU=>?_;refine aZ λI a w U=>?_;refine U.again (k+1) ?iG ?iH eA ?iI (by repeat(first|exact Env.le_rfl|refine Env.ja rfl ?_));case iG=>omega
  case iH=>exact ae
  case iI=>exact(Env.dK rfl eA (Env.dK rfl (by exact congrArg bE (by rw[zd ae];rfl)) Env.le_nil))
 refine zt ?_;refine dG ?_;exact congrArg bE (by rw[List.take_of_length_le om];rfl)
def Ki (s:Server) (key:Int) (an:ij s=true):
 Fn prog 219 [s.av,AV.int key] (AV.bool (fq s key)):=by
 refine Fn.go 21 func219 ntmps219 (λW I a U=>?_);have hp:=Ca an;refine aF λI a w U=>?_;refine U.dk ?_;refine bJ ?_;refine .o (.c1 (vN ..)) ?_;refine cB ?_;refine .q .T (.cl (vf ..)) ?_;refine gF ?_;refine .q .T (.cl (vz ..)) ?_;refine .q .T ((by first|exact gS gU fo .ag .ag (λhg=>by have:=IS hg;omega)|exact ku gU fo .ag .ag (λhg=>by have:=IS hg;omega)|exact kS gU fo .ag .ag (λhg=>by have:=IS hg;omega))) ?_;refine gF ?_;refine .nil ?_;intro I a w U;refine zt ?_;refine U.rt ?_;exact bP (by rw[an];rfl)
def adp {s:Server} {m:ax} (h:bG s) (hu:s.up=true):bG (fK s m):=by
 unfold fK;split
 .rename_i hc;simp only[Bool.and_eq_true,decide_eq_true_eq] at hc;obtain⟨v,hv,hd⟩:=Cc.1 hc.1.2;exact(h.R9 (BC (iW (fi h.waits v hv)).2.2 _ hd) hc.2 hu).settle
 exact h
def SG (s:Server) (slot:Int) (h1:cg s.ai=true) (h2:cg s.waits=true) (ho:s.aD.length<=80):
 Fn prog 226 [s.av,AV.int slot] ((dW s slot).av):=by
 refine Fn.go 51 func226 ntmps226 (λW I a U=>?_);have lens:s.aw.length<=9223372036854775807/\s.ai.length<=9223372036854775807/\s.waits.length<=9223372036854775807/\s.aD.length<=9223372036854775807/\s.aV.length<=9223372036854775807:=⟨U.ln 0 2,U.ln 0 3,U.ln 0 4,U.ln 0 5,U.ln 0 6⟩;refine sr<|U.box rfl .tt λb2 I a w U=>U.alloc rfl cv dN λb4 I a w U=>?_;refine bm λI a w U=>?_;refine U.o (.cl (ES _ _ h1)) λU=>?_;refine mn λI a w U=>?_;refine U.o (.cl (ES _ _ h2)) λU=>?_;refine cI λI a w U=>?_;refine U.l0 λb23 I a w U=>?_;refine aF λI a w U=>?_;refine St.lo (σ:=Nat×Value) (run 2 5 (run 24 24 [])) ⟨λ⟨k,v⟩=>[(6,AV.int k),(5,AV.val v)],λ⟨k,v⟩=>[Own.box b2 43 [AV.int s.site,AV.bool s.up,su s.aw,cn (s.ai.filter λv=>!eR slot v),cn (s.waits.filter λv=>!eR slot v),bE s.aD,bE s.aV],Own.box b4 43 [AV.val (.int .i64 0),AV.val (.bool false),AV.rows 2 [],AV.rows 7 [],AV.rows 7 [],AV.rows 3 [],AV.rows 3 []],Own.row v 115 3 (((s.aD.take k).filter (λd=>!gG slot d)).map au.cells)],λ⟨k,v⟩=>k<=s.aD.length⟩ (λ⟨k,v⟩=>s.aD.length-k) (0,.slice (some ⟨b23,0,none⟩) 0 0) U ?aJ ?bF;case aJ=>exact Nat.zero_le _
 rintro⟨k,v⟩ I a w an U;have hk:k<=s.aD.length:=an;have kU:=sW (λd=>!gG slot d) s.aD k;dsimp only at U;refine cI λI a w U=>?_;refine cz (λae=>?_) λae=>?_
 .refine ee λI a w U=>?_;refine U.o (.c1 (vz ..)) λU=>?_;refine aF λI a w U=>?_;refine U.cd (λah=>?_) λah=>?_
  .change(λd=>!gG slot d) (ab s.aD k)=true at ah;refine ee λI a w U=>?_;refine U.o (.li [(ab s.aD k).cells] iQ (.u .nil)) λU=>?_;refine U.ap 2 λKj a w U=>?_;rw[cF,<-nY (p:=(λd=>!gG slot d)) ae ah] at U;refine aZ λI a w U=>?_;exact U.ag (k+1,Kj) (ae)
  change(λd=>!gG slot d) (ab s.aD k)=false at ah;refine aR λI a w U=>?_;rw[show(s.aD.take k).filter (λd=>!gG slot d)=(s.aD.take (k+1)).filter (λd=>!gG slot d) from(ob ae ah).symm] at U;exact U.ag (k+1,v) (ae)
 refine zt ?_;refine U.m λU=>?_;obtain⟨I,U⟩:=U.fr 2 48;refine aZ λI a w U=>?_;refine U.ret rfl (.cons (.sx 1) aW.nil) ?_;exact(by rw[show s.aD.take k=s.aD from List.take_of_length_le om];rfl)
def adr (s:Server) (an:ij s=true):
 Fn prog 142 [s.av] ((jF s).av):=by
 refine Fn.go 12 func142 ntmps142 (λW I a U=>?_);have hp:=Ca an;refine bK λI a w U=>?_;refine U.alloc rfl cv dN λb2 I a w U=>?_;refine bK λI a w U=>?_;refine U.o (.c1 (vN ..)) λU=>?_;refine aB λI a w U=>?_;refine U.cd (λae=>?_) λae=>?_
 .exfalso;rw[an] at ae;cases ae;skip
 refine bK λI a w U=>?_;refine U.o (bT (Ci s (by have:=vD hp.2.1;have:=vD hp.2.2.1;exact(JD an).small (by have:=iX hp.2.2.2.1;omega))) (az (.t rfl) aI)) λU=>?_;refine U.alloc rfl cv dN λb3 I a w U=>?_;refine cI λI a w U=>?_;refine U.ret rfl (.cons (.sx 0) aW.nil) ?_;rfl
def rM {s:Server} {m:ax} (h:m.kind=3):cJ s m=(s,gN s m):=by unfold cJ;rw[h];rfl
def rN {s:Server} {m:ax} (h:m.kind=5):cJ s m=((fL s m).1,(fL s m).2):=by unfold cJ;rw[h];rfl
def SH (s:Server) (m:ax):(cJ s m).2.length<=1:=by
 unfold cJ;repeat' split
 .exact ace s m
 .exact acf s m
 .exact acg s m
 .simp
 .show(kK s m).length<=1;unfold kK;split<;>simp
 .simp
 .exact acV s m
 .simp
 simp
def ads {q:Call} {t0:Int} (h:dH q t0) {a:Answer} (hk:a.bl.aU∈q.aL) (he:a.bl.key=a.key):q.aL.filter (λd=>!decide (d.key=a.key))=q.aL.filter λd=>decide (d≠a.bl.aU):=by
 apply List.filter_congr;intro d hd;by_cases e:d.key=a.key
 .have:d=a.bl.aU:=RE h.aL hd hk (e.trans he.symm);rw[decide_eq_true e,this];simp
 rw[decide_eq_false e];have:d≠a.bl.aU:=λe2=>e (by rw[e2];exact he);rw[decide_eq_true this];rfl
def adt {s:Server} {m:ax} (h:(m.kind==8&&(m.aO==eX s.site)&&gY s ⟨m.key,m.aq⟩&&decide ((s.aV.length:Int)<80))=true):cJ s m=(dB {s with aV:=dP s.aV ⟨m.key,m.aq⟩},[]):=by
 simp only[Bool.and_eq_true,beq_iff_eq,decide_eq_true_eq] at h;have hl:s.aV.length<80:=by omega
 rw[rJ h.1.1.1];unfold fK;rw[if_pos (by simp only[Bool.and_eq_true,beq_iff_eq,decide_eq_true_eq];exact⟨⟨h.1.1.2,h.1.2⟩,hl⟩)]
def adu {s:Server} {m:ax} (h:(m.kind==10&&(m.aO==eX s.site)&&([(ab s.aw m.slot.toNat).ba,(ab s.aw m.slot.toNat).bD]==[m.ba,2]))=true):cJ s m=(dB (kg s m),[]):=by
 simp only[Bool.and_eq_true,beq_iff_eq,List.cons.injEq] at h;rw[rL h.1.1];unfold g8;rw[if_pos (by simp only[Bool.and_eq_true,beq_iff_eq];exact⟨⟨h.1.2,h.2.2.1⟩,h.2.1⟩)]
def adi (s:Server) (m:ax) (hg:bG s) (hm:bI m=true) (ho:(aH m.aO 10 11&&decide (1<=m.call)&&fq s m.key)=true):
 Fn prog 241 [s.av,m.av] (AV.dy [(fT s m).1.av,dR (fT s m).2]):=by
 refine Fn.go 150 func241 ntmps241 (λW I a U=>?_);have U:=U.hP (sz:=2) 50;have an:=jI.2 hg;have cX:=hg.ok;have jv:=hg.small;have lN:=mW hm;have Ch:=iE lN.2.2.2;have lens:m.aQ.length<=9223372036854775807/\m.ai.length<=9223372036854775807/\m.waits.length<=9223372036854775807/\m.aD.length<=9223372036854775807:=⟨U.ln 1 9,U.ln 1 12,U.ln 1 13,U.ln 1 14⟩;have hf9:=vx hm;have an7:=jv.2.1.1;have kW:=iX hg.aD;refine aG λI a w U=>?_;refine U.alloc rfl cv dN λb4 I a w U=>?_;refine yH λI a w U=>?_;refine U.o (.bd eI (.k (.k (.k bc.nil)))) λU=>?_;refine U.alloc rfl dI eI λb7 I a w U=>?_;refine cI λI a w U=>?_;refine St.lo (σ:=Nat) (5::(9::(run 37 31 []))) ⟨λk=>[(31,AV.int k)],λk=>[Own.row (.slice none 0 0) 50 2 (([]).map cx.cells),Own.box b4 43 [AV.val (.int .i64 0),AV.val (.bool false),AV.rows 2 [],AV.rows 7 [],AV.rows 7 [],AV.rows 3 [],AV.rows 3 []],Own.box b7 84 [AV.int 2,AV.int 0,AV.int 0,AV.int m.call,AV.int m.key,AV.int 0,AV.int 0,AV.int 0,AV.bool false,bE [],AV.int 0,AV.int 0,cn [],cn [],bE []]],λk=>k<=s.ai.length/\∀i,i<k->oV s m.key (m.aO-10) m.call (ab s.ai i)=false⟩ (λk=>s.ai.length-k) 0 U ?aJ ?bF;case aJ=>exact⟨Nat.zero_le _,λi hi=>by omega⟩
 rintro k I a w an U;obtain⟨hk,aT⟩:=an;refine aB λI a w U=>?_;refine cz (λae=>?_) λae=>?_
 .refine aG λI a w U=>?_;refine U.alloc rfl bQ dO λb9 I a w U=>?_;refine aB λI a w U=>?_;obtain⟨I,U⟩:=U.fb 3 9;refine Oz λI a w U=>?_;refine U.q .T (.cl (Ix s (ab s.ai k))) λU=>?_;refine aF λI a w U=>?_;refine U.cd (λah=>?_) λah=>?_
  .rw[SC] at ah;refine bm λI a w U=>?_;refine U.se 2 mP .tt .tt rfl rfl rfl λa w U=>?_;refine zt ?_;refine U.dt 5 ?_;simp only[TD];refine ef ?_;refine .o (.c3 (uv s m ⟨2,0,0,m.call,m.key,(ab s.ai k).aq,0,false,[],0,0,[],[],[]⟩ (xi ..)))<|.nil ?_;intro I a w U;refine aF λI a w U=>?_;refine U.ret rfl (.cons (.sx 1) (.cons .x aW.nil)) ?_;exact(by rw[Sx ho (by rw[SD ae aT ah];rfl),SD ae aT ah];rfl)
  rw[SC] at ah;refine aF λI a w U=>?_;have U:=U.drop 3;exact U.ag (k+1) (⟨by omega,λi h1=>by rcases Nat.lt_succ_iff_lt_or_eq.1 h1 with h|h;exact aT i h;rw[h];exact ah⟩)
 refine zt ?_;refine cI λI a w U=>?_;refine St.lo (σ:=Nat×Value) (10::(12::(run 10 71 []))) ⟨λ⟨k,v⟩=>[(71,AV.int k),(10,AV.val v)],λ⟨k,v⟩=>[Own.row v 50 2 (((m.aQ.take k).map au.aq).map cx.cells),Own.box b4 43 [AV.val (.int .i64 0),AV.val (.bool false),AV.rows 2 [],AV.rows 7 [],AV.rows 7 [],AV.rows 3 [],AV.rows 3 []],Own.box b7 84 [AV.int 2,AV.int 0,AV.int 0,AV.int m.call,AV.int m.key,AV.int 0,AV.int 0,AV.int 0,AV.bool false,bE [],AV.int 0,AV.int 0,cn [],cn [],bE []]],λ⟨k,v⟩=>k<=m.aQ.length⟩ (λ⟨k,v⟩=>m.aQ.length-k) (0,.slice none 0 0) U ?eF ?jS;case eF=>exact Nat.zero_le _
 rintro⟨k,v⟩ I a w an U;have hk:k<=m.aQ.length:=an;dsimp only at U;refine aB λI a w U=>?_;refine cz (λar=>?_) λar=>?_
 .refine aG λI a w U=>?_;refine U.alloc rfl cV gK λxQ I a w U=>?_;refine aB λI a w U=>?_;obtain⟨I,U⟩:=U.fb 3 12;refine bm λI a w U=>?_;refine U.o (.li [(ab m.aQ k).aq.cells] DV (.u .nil)) λU=>?_;refine U.ap 0 λv79 a w U=>?_;refine aR λI a w U=>?_;have U:=U.drop 3;rw[cF,show(m.aQ.take k).map au.aq++[(ab m.aQ k).aq]=(m.aQ.take (k+1)).map au.aq from by rw[eT ar,List.map_append];rfl] at U;exact U.ag (k+1,v79) (ar)
 refine wp_exit<|cy<|cy<|fk<|bj ?_;refine St.cut (σ:=Value) (10::(run 2 13 (run 14 81 []))) ⟨λv=>[(10,AV.val v)],λv=>[Own.row v 50 2 ((fh s m).map cx.cells),Own.box b4 43 [AV.val (.int .i64 0),AV.val (.bool false),AV.rows 2 [],AV.rows 7 [],AV.rows 7 [],AV.rows 3 [],AV.rows 3 []],Own.box b7 84 [AV.int 2,AV.int 0,AV.int 0,AV.int m.call,AV.int m.key,AV.int 0,AV.int 0,AV.int 0,AV.bool false,bE [],AV.int 0,AV.int 0,cn [],cn [],bE []],Own.gone],λv=>True⟩ U ?adl ?an8;case adl=>
  refine bB λI a w U=>?_;refine U.o (.cl (Kf s.ai m.key jv.2.1.2)) λU=>?_;refine bm λI a w U=>?_;refine U.alloc rfl bQ dO λzJ I a w U=>?_;refine U.sb 3 λU=>?_;obtain⟨I,U⟩:=U.fb 3 13;refine aF λI a w U=>?_;refine U.cd (λaM=>?_) λaM=>?_
  .refine bm λI a w U=>?_;refine U.o (.li [((dV s.ai m.key).getD default).aq.cells] DV (.u .nil)) λU=>?_;refine U.ap 0 λv94 a w U=>?_;refine aB λI a w U=>?_;first|rw[cF,show m.aQ.take k=m.aQ from List.take_of_length_le om,EB aM] at U|rw[show m.aQ.take k=m.aQ from List.take_of_length_le om,EC aM] at U
   exact U.me v94 gD
  refine zt ?_;first|rw[cF,show m.aQ.take k=m.aQ from List.take_of_length_le om,EB aM] at U|rw[show m.aQ.take k=m.aQ from List.take_of_length_le om,EC aM] at U
  exact U.me v gD
 rintro v I a w an U;refine bm λI a w U=>?_;obtain⟨I,U⟩:=U.fr 0 98;refine U.o (.cl (abf s.site (fh s m) hg.site (Jn hg hm))) λU=>?_;refine bm λI a w U=>?_;refine U.alloc rfl mP ke λJ4 I a w U=>?_;refine U.sb 4 λU=>?_;obtain⟨I,U⟩:=U.fb 4 15;refine yI λI a w U=>?_;refine U.o (.bd dO (.k (.t (.k (.k (.k (.k bc.nil))))))) λU=>?_;refine U.alloc rfl bQ dO λb17 I a w U=>?_;refine aB λI a w U=>?_;obtain⟨I,U⟩:=U.fb 5 17;refine py λI a w U=>?_;refine U.cd (λaP=>?_) λaP=>?_
 .rw[RS kW] at aP;replace aP:=nt aP;refine aR λI a w U=>?_;refine U.ret rfl (.cons (.sx 1) (.cons (.nil (sz:=15) rfl) aW.nil)) ?_;exact(by rw[Ke ho (Kh om aT) (by rw[Bool.and_right_comm,aP];rfl)];rfl)
 rw[RS kW] at aP;replace aP:=nf aP;refine bm λI a w U=>?_;refine U.o (.cl (Sa s.ai (eK s m) cX.ai)) λU=>?_;refine jD λI a w U=>?_;refine U.cd (λbx=>?_) λbx=>?_
 .replace bx:=nt bx;refine aR λI a w U=>?_;refine U.ret rfl (.cons (.sx 1) (.cons (.nil (sz:=15) rfl) aW.nil)) ?_;exact(by rw[Ke ho (Kh om aT) (by rw[bx];simp)];rfl)
 replace bx:=nf bx;have pr:=aaR aP bx;rw[if_pos bx] at U;refine bK λI a w U=>?_;refine U.o (.c1 (uu s jv)) λU=>U.alloc rfl cv dN λb19 I a w U=>?_;refine bm λI a w U=>?_;refine U.s1 6 λU=>?_;refine zt ?_;refine U.dt 6 ?_;simp only[TD];refine dD ?_;refine .o (.c1 (oa (eK s m))) ?_;refine .o (bT (J6 s.aD (eK s m).aU (by have:=iX hg.aD;omega)) (az .r (az (.t rfl) aI))) ?_;refine bJ ?_;refine .nil ?_;intro I a w U;refine U.s1 6 λU=>?_;refine aG λI a w U=>?_;refine U.se 2 mP .tt .tt rfl rfl rfl λa w U=>?_;refine zt ?_;refine U.dt 6 ?_;simp only[TD];refine bJ ?_;refine .o (bT (zN {s with ai:=fJ s.ai (eK s m),aD:=dP s.aD (eK s m).aU} (Kd hg hm (by simp only[Bool.and_eq_true] at ho;exact ho.2) pr).ok (iX (Kd hg hm (by simp only[Bool.and_eq_true] at ho;exact ho.2) pr).aD)) (az (.t rfl) aI)) ?_;refine dD ?_;refine .o (.c3 (uv s m ⟨2,0,0,m.call,m.key,(eK s m).aq,0,false,[],0,0,[],[],[]⟩ (xi ..)))<|.nil ?_;intro I a w U;refine aF λI a w U=>?_;refine U.ret rfl (.cons (.sx 1) (.cons .x aW.nil)) ?_;exact(by rw[Sy ho (Kh om aT) pr];rfl)
end Go.Proofs.YtdanidpleofjgaaGreat

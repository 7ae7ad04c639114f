/- Part 34: contracts of functions, plain facts. -/
import Derived.Test.YtdanidpleofjgaaGreatP20
set_option linter.all false
set_option maxRecDepth 100000
set_option maxHeartbeats 4000000
namespace Go.Proofs.YtdanidpleofjgaaGreat
open Go Go.RowKit Tryz
attribute [local irreducible] wpList Code.wp Ok
def SR (l:List Call) (time:Int) (ht:time<=4611686018427387904) (hl:l.length<=1048576) (bq:∀q∈l,kv q.ao):
 Fn prog 63 [jl l,AV.int time] (AV.bool (j6 l time)):=by
 refine Fn.go 86 func63 ntmps63 (λW I a U=>?_);refine aB λI a w U=>?_;refine U.makeMap rfl EO λl6 a w U=>?_;rw[show(λ_:Int=>(0:Int))=gH l 0 from(Jb l).symm] at U;refine aZ λI a w U=>?_;refine St.lo (σ:=Nat) (4::(run 2 6 (9::(run 70 13 [])))) ⟨λk=>[(13,AV.int k)],λk=>[Own.wV prog 3 3 (λx:Int=>Lit.int .i64 x) (λx:Int=>.lit (.int .i64 x)) 0 l6 (k) (gH l (k))],λk=>k<=l.length/\∀i,i<k->(nF l time) i=true⟩ (λk=>l.length-k) 0 U ?aJ ?bF;case aJ=>exact⟨Nat.zero_le _,λi hi=>by omega⟩
 rintro k I a w an U;obtain⟨pH,aT⟩:=an;refine aB λI a w U=>?_;refine cz (λae=>?_) λae=>?_
 .refine bm λI a w U=>?_;refine U.alloc rfl fI j4 λb7 I a w U=>?_;refine aF λI a w U=>?_;obtain⟨I,U⟩:=U.fb 1 7;refine bm λI a w U=>?_;refine U.o (N6 0 EO .tt (HK rh .tt (bq _ (bf ae))) rfl) λU=>?_;refine U.o (mH .tt .c (λ_=>by have:=EK l k (ab l k).ao;omega)) λU=>?_;refine U.mapUpdate 0 EO .tt (HK rh .tt (bq _ (bf ae))) .tt (by have:=EK l k (ab l k).ao;omega) om rfl λa w U=>?_;rw[aaI ae] at U;refine nn<|wp_seq<|wp_seq<|U.dk ?_;refine cB ?_;refine .o (.c2 (JQ _ _ ht)) ?_;refine nT ?_;refine iC ?_;refine .q .F (N6 0 EO .ag (HK rh .ag (bq _ (bf ae))) rfl) ?_;refine cB ?_;refine .nil ?_;intro I a w U;refine bj ?_;refine U.cd (λah=>?_) λah=>?_
  .rw[Rd] at ah;replace ah:=nt ah;refine bh ?_;exact bP (by unfold j6;rw[fY (f:=nF l time) ae (by unfold nF;rw[ah];rfl)];rfl)
  rw[Rd] at ah;replace ah:=nf ah;refine aG λI a w U=>?_;refine U.o (AS oO fI .r .tt (λ_=>by rw[List.length_map];omega)) λU=>?_;rw[<-List.map_take,Int.toNat_natCast] at U;have jO:(l.take k).length=k:=by simp;omega
  refine aF λI a w U=>?_;refine St.lo (σ:=Nat) (4::(9::(run 27 55 []))) ⟨λk2=>[(55,AV.int k2)],λk2=>[Own.wV prog 3 3 (λx:Int=>Lit.int .i64 x) (λx:Int=>.lit (.int .i64 x)) 0 l6 (k+1) (gH l (k+1)),Own.gone],λk2=>k2<=k/\∀i,i<k2->(λj=>!mz (ab l j) (ab l k)) i=true⟩ (λk2=>k-k2) 0 U ?eF ?jS;case eF=>exact⟨Nat.zero_le _,λi hi=>by omega⟩
  rintro k2 I a w an U;obtain⟨zI,j7⟩:=an;refine aB λI a w U=>?_;refine cz (λar=>?_) λar=>?_
  .refine aG λI a w U=>?_;refine U.alloc rfl fI j4 λb9 I a w U=>?_;refine aB λI a w U=>?_;obtain⟨I,U⟩:=U.fb 2 9;refine XL λI a w U=>?_;refine U.cd (λaM=>?_) λaM=>?_
   .change mz (ab (l.take k) k2) (ab l k)=true at aM;rw[Pb om] at aM;refine bh ?_;exact bP (by unfold j6;rw[fY (f:=nF l time) ae (by unfold nF;rw[fY (f:=λj=>!mz (ab l j) (ab l k)) (k:=k2) om (by rw[aM];rfl)];simp)];rfl)
   change mz (ab (l.take k) k2) (ab l k)=false at aM;rw[Pb om] at aM;refine aF λI a w U=>?_;have U:=U.drop 2;exact U.ag (k2+1) (⟨by omega,gI j7 (by rw[aM];rfl)⟩)
  refine zt ?_;refine aF λI a w U=>?_;have U:=U.drop 1;exact U.ag (k+1) (⟨by omega,gI aT (by unfold nF;rw[ah,fP j7 om];rfl)⟩)
 refine zt ?_;refine aZ λI a w U=>?_;refine U.rt ?_;exact bP (by unfold j6;rw[fP aT om,ZJ];rfl)
def vN (s:Server):
 Fn prog 48 [s.av] (AV.bool (ij s)):=by
 refine Fn.go 177 func48 ntmps48 (λW I a U=>?_);have lens:s.aw.length<=9223372036854775807/\s.ai.length<=9223372036854775807/\s.waits.length<=9223372036854775807/\s.aD.length<=9223372036854775807:=⟨U.ln 0 2,U.ln 0 3,U.ln 0 4,U.ln 0 5⟩;refine bB λI a w U=>?_;refine U.o (.c1 (sG ..)) λU=>?_;refine va λI a w U=>?_;refine U.q .F (.cl (vr ..)) λU=>?_;refine cj λI a w U=>?_;refine U.q .F (.cl (vr ..)) λU=>?_;refine cj λI a w U=>?_;refine U.q .F (.cl (IJ ..)) λU=>?_;refine cj λI a w U=>?_;refine U.q .F (.cl (IJ ..)) λU=>?_;refine Bo λI a w U=>?_;refine U.cd (λae=>?_) λae=>?_
 .rw[Ep] at ae;replace ae:=nt ae;refine bh ?_;exact bP (by unfold ij;rw[ae];rfl)
 rw[Ep] at ae;replace ae:=nf ae;obtain⟨Cb,xN,JK,hco,hck,JL⟩:=Er ae;refine aB λI a w U=>?_;refine St.lo (σ:=Nat) (run 2 2 (run 43 55 [])) ⟨λk1=>[(3,AV.int k1)],λk1=>[],λk1=>k1<=s.aw.length/\∀i,i<k1->(sR s) i=true⟩ (λk1=>s.aw.length-k1) 0 U ?aJ ?bF;case aJ=>exact⟨Nat.zero_le _,λi hi=>by omega⟩
 rintro k1 I a w an U;obtain⟨ab3,xO⟩:=an;refine cI λI a w U=>?_;refine cz (λah=>?_) λah=>?_
 .refine ee λI a w U=>?_;refine U.o (.cl (jE ..)) λU=>?_;refine mn λI a w U=>?_;refine U.q .F (.cl (jE ..)) λU=>?_;refine HW λI a w U=>?_;refine U.cd (λar=>?_) λar=>?_
  .rw[PZ] at ar;replace ar:=nt ar;refine bh ?_;exact bP (by rw[Cf,ae,fY (f:=sR s) ah ar];simp)
  rw[PZ] at ar;replace ar:=nf ar;refine aR λI a w U=>?_;exact U.ag (k1+1) (⟨by omega,gI xO ar⟩)
 refine zt ?_;refine bm λI a w U=>?_;refine U.o (.cl (QX _ _ Cb xN)) λU=>?_;refine cj λI a w U=>?_;refine U.q .F (.cl (QX _ _ Cb JK)) λU=>?_;refine aF λI a w U=>?_;refine U.cd (λaM=>?_) λaM=>?_
 .refine bh ?_;exact bP (by rw[Cf,ae];revert aM;cases de s.ai.length (oQ s s.ai)<;>cases de s.waits.length (oQ s s.waits)<;>simp)
 rw[Bool.or_eq_false_iff] at aM;obtain⟨Ck,J9⟩:=aM;replace Ck:=nf Ck;replace J9:=nf J9;refine aB λI a w U=>?_;refine St.lo (σ:=Nat) (2::(run 3 4 (run 40 110 []))) ⟨λk2=>[(4,AV.int k2)],λk2=>[],λk2=>k2<=s.waits.length/\∀i,i<k2->(xe s) i=true⟩ (λk2=>s.waits.length-k2) 0 U ?eF ?jS;case eF=>exact⟨Nat.zero_le _,λi hi=>by omega⟩
 rintro k2 I a w an U;obtain⟨zI,j7⟩:=an;refine cI λI a w U=>?_;refine cz (λaP=>?_) λaP=>?_
 .refine zt ?_;have U:=U.jc;refine U.gw [([],none),([],none),([],none),([],none),([],none),([],none),([],none),([],none),([],none),([],none),([],none),([],none),([],none),([],none),([],none),([],none),([],none),([],none),([0],some (0,[5])),([0],some (0,[5])),([],none)] aS aS rfl ?_;refine rf ?_;refine .o (.cl (ug ..)) ?_;refine dD ?_;refine aY.alloc 0 rfl rfl bQ dO<|aY.q7 0 rfl bQ rfl .tt rfl rfl ?_;refine bJ ?_;refine .nil ?_;intro I a w U;obtain⟨b5,U⟩:=U.oL (d:=5) 0 rfl rfl;obtain⟨I,U⟩:=U.fb 0 5;refine bj<|wp_seq<|U.dk ?_;refine yJ ?_;refine .q .F (.cl (rj ..)) ?_;refine cB ?_;refine .q .F (.cl (rj ..)) ?_;refine cB ?_;refine .nil ?_;intro I a w U;refine bj ?_;refine U.cd (λbx=>?_) λbx=>?_
  .rw[Pv s _ xN] at bx;replace bx:=nt bx;refine bh ?_;exact bP (by rw[Cf,ae,fY (f:=xe s) aP bx];simp)
  rw[Pv s _ xN] at bx;replace bx:=nf bx;refine aR λI a w U=>?_;have U:=U.drop 0;exact U.ag (k2+1) (⟨by omega,gI j7 bx⟩)
 refine zt ?_;refine aB λI a w U=>?_;refine St.lo (σ:=Nat) (2::(run 3 7 (run 27 150 []))) ⟨λk3=>[(7,AV.int k3)],λk3=>[],λk3=>k3<=s.aD.length/\∀i,i<k3->(sM s) i=true⟩ (λk3=>s.aD.length-k3) 0 U ?jh ?oY;case jh=>exact⟨Nat.zero_le _,λi hi=>by omega⟩
 rintro k3 I a w an U;obtain⟨RT,vJ⟩:=an;refine cI λI a w U=>?_;refine cz (λbt=>?_) λbt=>?_
 .refine zt ?_;have U:=U.jc;refine U.gw [([],none),([],none),([],none),([],none),([],none),([],none),([],none),([],none),([],none),([],none),([],none),([],none),([],none),([],none),([],none),([],none),([],none),([],none),([0],some (0,[8])),([0],some (0,[8])),([],none)] aS aS rfl ?_;refine rf ?_;refine .o (.cl (ug ..)) ?_;refine dD ?_;refine aY.alloc 0 rfl rfl bQ dO<|aY.q7 0 rfl bQ rfl .tt rfl rfl ?_;refine bJ ?_;refine .nil ?_;intro I a w U;obtain⟨b8,U⟩:=U.oL (d:=8) 0 rfl rfl;obtain⟨I,U⟩:=U.fb 0 8;refine aF λI a w U=>?_;refine U.cd (λcE=>?_) λcE=>?_
  .rw[Pw s _ xN] at cE;replace cE:=nt cE;refine bh ?_;exact bP (by rw[Cf,ae,fY (f:=sM s) bt cE];simp)
  rw[Pw s _ xN] at cE;replace cE:=nf cE;refine aR λI a w U=>?_;have U:=U.drop 0;exact U.ag (k3+1) (⟨by omega,gI vJ cE⟩)
 refine zt ?_;refine bh ?_;exact bP (by rw[Cf,ae,fP xO om,Ck,J9,fP j7 om,fP vJ om];rfl)
def Fm (q:Call) (time:Int) (ht:time<=4611686018427387904) (vM:q.aC.length<=1048576):
 Fn prog 90 [q.av,AV.int time] (AV.bool (gx q time)):=by
 refine Fn.go 240 func90 ntmps90 (λW I a U=>?_);have lens:q.keys.length<=9223372036854775807/\q.aC.length<=9223372036854775807/\q.aL.length<=9223372036854775807:=⟨U.ln 0 3,U.ln 0 11,U.ln 0 12⟩;refine bB λI a w U=>?_;refine U.o (.cl (jE ..)) λU=>?_;refine bB λI a w U=>?_;refine U.q .F (.cl (jE ..)) λU=>?_;refine cj λI a w U=>?_;refine U.q .F (.cl (jE ..)) λU=>?_;refine bB λI a w U=>?_;refine U.q .F (.cl (Zj ..)) λU=>?_;refine cj λI a w U=>?_;refine U.q .F (.cl (jE ..)) λU=>?_;refine cj λI a w U=>?_;refine U.q .F (.cl (sH ..)) λU=>?_;refine cj λI a w U=>?_;refine U.q .F (.cl (sH ..)) λU=>?_;refine ee λI a w U=>?_;refine U.q .F (.cl (jE ..)) λU=>?_;refine aF λI a w U=>?_;refine U.cd (λae=>?_) λae=>?_
 .replace ae:ru q time=false:=by unfold ru;rw[ae];rfl
  refine bh ?_;exact bP (by rw[xP];rw[ae];rfl)
 replace ae:ru q time=true:=by unfold ru;rw[ae];rfl
 refine va λI a w U=>?_;refine U.q .T (mH .ag .ag (λhg=>by have:=P4 ae;omega)) λU=>?_;refine wW λI a w U=>?_;refine U.q .F2 (.bd ke bc.nil) λU=>?_;refine U.q .F2 (wH [_,_] [_,_] nU rfl rfl .ag .ag) λU=>?_;refine ee λI a w U=>?_;refine U.q .F (.cl (Ql ..)) λU=>?_;refine Bm λI a w U=>?_;refine U.cd (λah=>?_) λah=>?_
 .rw[Ey] at ah;replace ah:zm q=false:=by unfold zm;rw[ah];rfl
  refine bh ?_;exact bP (by rw[xP];rw[ae,ah];rfl)
 rw[Ey] at ah;replace ah:zm q=true:=by unfold zm;rw[ah];rfl
 refine aB λI a w U=>?_;refine St.lo (σ:=Nat) (run 2 4 (run 46 98 [])) ⟨λk=>[(5,AV.int k)],λk=>[],λk=>k<=q.aC.length/\∀i,i<k->(vi q) i=true⟩ (λk=>q.aC.length-k) 0 U ?aJ ?bF;case aJ=>exact⟨Nat.zero_le _,λi hi=>by omega⟩
 rintro k I a w an U;obtain⟨pH,aT⟩:=an;refine cI λI a w U=>?_;refine cz (λar=>?_) λar=>?_
 .refine zt ?_;refine U.dk ?_;refine gF ?_;refine .o (.c1 (Zh ..)) ?_;refine pC ?_;refine .q .F (.cl (Rx ..)) ?_;refine nT ?_;refine iC ?_;refine .nil ?_;intro I a w U;refine bj ?_;refine U.cd (λaM=>?_) λaM=>?_
  .rw[PA] at aM;replace aM:=nt aM;refine bh ?_;exact bP (by rw[xP];rw[fY (f:=vi q) ar aM];simp)
  rw[PA] at aM;replace aM:=nf aM;refine aR λI a w U=>?_;exact U.ag (k+1) (⟨by omega,gI aT aM⟩)
 refine zt ?_;refine Bo λI a w U=>?_;refine U.cd (λaP=>?_) λaP=>?_
 .rw[Qw] at aP;replace aP:=nt aP;refine bh ?_;exact bP (by rw[xP];rw[aP];simp)
 rw[Qw] at aP;replace aP:=nf aP;refine aB λI a w U=>?_;refine St.lo (σ:=Nat) (4::(run 2 6 (run 34 157 []))) ⟨λk2=>[(6,AV.int k2)],λk2=>[],λk2=>k2<=q.aL.length/\∀i,i<k2->(vj q) i=true⟩ (λk2=>q.aL.length-k2) 0 U ?eF ?jS;case eF=>exact⟨Nat.zero_le _,λi hi=>by omega⟩
 rintro k2 I a w an U;obtain⟨zI,j7⟩:=an;refine cI λI a w U=>?_;refine cz (λbx=>?_) λbx=>?_
 .refine zt ?_;refine U.dk ?_;refine mo ?_;refine .o (.c2 (EU ..)) ?_;refine bJ ?_;refine .nil ?_;intro I a w U;refine bj<|wp_seq<|U.dk ?_;refine iC ?_;refine .q .F ((by first|exact gS iD ga .ag .ag (λhg=>by have h0:0<=cm q (ab q.aL k2).key:=(by simpa using hg);have:=vm h0;omega)|exact ku iD ga .ag .ag (λhg=>by have h0:0<=cm q (ab q.aL k2).key:=(by simpa using hg);have:=vm h0;omega)|exact kS iD ga .ag .ag (λhg=>by have h0:0<=cm q (ab q.aL k2).key:=(by simpa using hg);have:=vm h0;omega))) ?_;refine yJ ?_;refine .q .F (.cl (yS ..)) ?_;refine cB ?_;refine .nil ?_;intro I a w U;refine bj ?_;refine U.cd (λbt=>?_) λbt=>?_
  .rw[PB] at bt;replace bt:=nt bt;refine bh ?_;exact bP (by rw[xP];rw[fY (f:=vj q) bx bt];simp)
  rw[PB] at bt;replace bt:=nf bt;refine aR λI a w U=>?_;exact U.ag (k2+1) (⟨by omega,gI j7 bt⟩)
 refine zt ?_;refine aR λI a w U=>?_;refine cz (λcE=>?_) λcE=>?_
 .refine aG λI a w U=>?_;refine U.o (.bd ke bc.nil) λU=>?_;refine U.o (nj [_,_] [_,_] nU rfl rfl .tt .tt) λU=>?_;refine bh ?_;exact bP (by rw[xP];rw[ae,ah,fP aT om,aP,fP j7 om,D5];unfold Et;rw[if_pos cE];rfl)
 refine mn λI a w U=>?_;refine U.q .T (mH .ag .c (λhg=>by have:=P4 ae;omega)) λU=>?_;refine U.q .T .mv λU=>?_;refine U.q .T (.cl (jE ..)) λU=>?_;refine XD λI a w U=>?_;refine U.q .T2 (.cl (w5 ..)) λU=>?_;refine HV λI a w U=>?_;refine U.rt ?_;exact bP (by rw[xP];rw[ae,ah,fP aT om,aP,fP j7 om];unfold Et;rw[if_neg cE];rfl)
def bG.put {s:Server} (h:bG s) {v:aE} (hc:ix s.ai v=true) (U:bM v.aq.site=bM s.site) (be:cM s v.key≠0) (hl:s.aD.length<80):bG {s with ai:=fJ s.ai v,aD:=dP s.aD v.aU}:=by
 obtain⟨h1,h2,h3⟩:=vB hc;have hp:=iW h1;refine⟨h.site,h.aw,Fa h.ai h1 h2 h3,h.waits,JR h.aD (by simp only[ka,Bool.and_eq_true];exact⟨hp.1,hp.2.1⟩) hl,h.aV,h.up,h.aK,λx hx=>?_,h.nZ,h.n5,λw hw x hx=>?_,λd hd=>?_⟩
 .rcases gL.1 hx with rfl|hx
  .exact be
  exact h.here x hx
 .rcases gL.1 hx with rfl|hx
  .intro e;have:=h.n5 w hw;have e2:w.aq=x.aq:=by have:=congrArg au.aq e;exact this.symm
   rw[e2] at this;exact this U
  exact h.apart w hw x hx
 rcases vL.1 hd with rfl|hd
 .exact⟨v,gL.2 (.inl rfl),rfl⟩
 exact P9 (h.ly d hd)
structure dH (q:Call) (t:Int):Prop where
 ao:fF q.ao=true
 num:1<=q.num/\q.num<=99
 keys:iu q=true
 val:0<=q.val/\q.val<=9999
 ctx:bU q.ctx=true
 aL:bU q.aL=true
 bH:1<=q.bH/\q.bH<=t
 fits:lU q.aq=true
 has:∀a∈q.aC,ib q.keys a.key=true
 sorted:q.aC.Pairwise λa b=>gW a b=true
 aK:∀a∈q.aC,dT a=true
 vR:∀d∈q.aL,sQ q d=true
 full:q.aL=[]\/q.aC.length=q.keys.length
 put:q.kind=1->q.aC=[]/\q.aL=[]
 read:q.kind≠1->q.val=0/\dS q.aq=true
 open_:q.end_=0->dS q.aq=true
 ended:q.end_≠0->q.over=false/\(q.bH+1<=q.end_/\q.end_<=t)/\q.aL=[]/\(q.kind=1->dS q.aq=false)/\(q.kind≠1->q.aC.length=q.keys.length)
def ta {q:Call} {t:Int}:gx q t=true↔dH q t:=by
 have e1:(de q.aL.length (rk q))=true↔∀d∈q.aL,sQ q d=true:=by
  have e:rk q=λi=>sQ q (ab q.aL i):=by funext i;rfl
  rw[e];exact uh
 have e2:(((q.aL.length:Int)==0)||pM q)=true↔q.aL=[]\/q.aC.length=q.keys.length:=by
  unfold pM;rw[Bool.or_eq_true,beq_iff_eq,beq_iff_eq];constructor
  .rintro(h|h)
   .exact .inl (List.length_eq_zero_iff.1 om)
   exact .inr om
  rintro(h|h)
  .exact .inl (by rw[h];rfl)
  exact .inr om
 have e3:zl q=true↔(q.kind=1->q.aC=[]/\q.aL=[])/\(q.kind≠1->q.val=0/\dS q.aq=true):=by
  unfold zl;rw[PY];by_cases hk:q.kind=1
  .simp[hk]
  simp[hk]
 have e4:oP q t=true↔(q.end_=0->dS q.aq=true)/\(q.end_≠0->q.over=false/\(q.bH+1<=q.end_/\q.end_<=t)/\q.aL=[]/\(q.kind=1->dS q.aq=false)/\(q.kind≠1->q.aC.length=q.keys.length)):=by
  unfold oP;by_cases he:q.end_=0
  .simp[he]
  rw[if_neg he,IM];unfold pM aH;by_cases hk:q.kind=1
  .simp[hk,he,and_assoc]
  simp[hk,he,and_assoc];omega
 unfold gx mT pN;simp only[Bool.and_eq_true];rw[Rj,e1,e2,e3,e4];constructor
 .rintro⟨⟨⟨⟨⟨⟨⟨⟨⟨⟨a1,a2⟩,a3⟩,a4⟩,a5⟩,a6⟩,a7⟩,a8⟩,⟨⟨a9,xv,BK⟩,IU⟩,IV⟩,a14,a15⟩,a16,a17⟩;simp only[aH,Bool.and_eq_true,decide_eq_true_eq] at a2 a4 a7;exact⟨a1,a2,a3,a4,a5,a6,a7,a8,a9,xv,BK,IU,IV,a14,a15,a16,a17⟩
 intro h;simp only[aH,Bool.and_eq_true,decide_eq_true_eq];exact⟨⟨⟨⟨⟨⟨⟨⟨⟨⟨h.ao,h.num⟩,h.keys⟩,h.val⟩,h.ctx⟩,h.aL⟩,h.bH⟩,h.fits⟩,⟨⟨h.has,h.sorted,h.aK⟩,h.vR⟩,h.full⟩,h.put,h.read⟩,h.open_,h.ended⟩
def Kc {q:Call} {t:Int} (h:dH q t) {key:Int} (hk:ib q.keys key=true):0<=key/\key<=5:=by
 have hu:lj q.keys=true:=by have:=h.keys;simp only[iu,Bool.and_eq_true] at this;exact this.1
 exact IL.1 (y6 hu (od.1 hk))
def Fp {q:Call} {t:Int} (h:dH q t) {key:Int} (hk:ib q.keys key=true) (hn:cm q key<0):q.aL=[]/\q.aC.length<q.keys.length:=by
 have hu:lj q.keys=true:=by have:=h.keys;simp only[iu,Bool.and_eq_true] at this;exact this.1
 have bw:q.aC.length<q.keys.length:=by
  apply Nat.lt_of_not_le;intro hle;have aX:∀a∈q.aC,a.key≠key:=λa ha e=>by
   have:=vI (q:=q) (key:=key).2 ⟨a,ha,e⟩;omega
  have U:((c8 q.aC {(default:Answer) with key:=key}).map Answer.key).Pairwise (·<·):=by
   rw[List.pairwise_map];refine(Jh h.sorted λx hx=>aX x hx).imp λhl=>?_;unfold gW at hl;rwa[decide_eq_true_eq] at hl
  have:=Ed (Qp hu) U λa ha=>by
   rcases pX.1 ha with rfl|ha
   .exact od.1 hk
   exact od.1 (h.has a ha)
  rw[xE] at this;omega
 exact⟨h.full.resolve_right om,bw⟩
def dH.l9 {q:Call} {t:Int} (h:dH q t) (hw:cD q=true) (hb:q.bH<t) (hk:q.kind≠1) {a:Answer} (ha:dT a=true) (gj:ib q.keys a.key=true) (hn:cm q a.key<0):dH (l9 q a t) t:=by
 obtain⟨he,ho⟩:=nu hw;obtain⟨tb,bw⟩:=Fp h gj hn;have aX:∀x∈q.aC,x.key≠a.key:=λx hx e=>by
  have:=vI (q:=q) (key:=a.key).2 ⟨x,hx,e⟩;omega
 have be:dS q.aq=true:=h.open_ he;have p7:∀x∈c8 q.aC a,dT x=true:=λx hx=>by
  rcases pX.1 hx with rfl|hx
  .exact ha
  exact h.aK x hx
 have xU:∀x∈c8 q.aC a,ib q.keys x.key=true:=λx hx=>by
  rcases pX.1 hx with rfl|hx
  .exact gj
  exact h.has x hx
 have ux:=Jh h.sorted aX;have h1:dH {q with aC:=c8 q.aC a} t:=
  ⟨h.ao,h.num,h.keys,h.val,h.ctx,h.aL,h.bH,h.fits,xU,ux,p7,λd hd=>by have:d∈q.aL:=hd;rw[tb] at this;simp at this,.inl tb,λe=>absurd e hk,h.read,h.open_,λe=>absurd he e⟩
 unfold Go.Proofs.YtdanidpleofjgaaGreat.l9;dsimp only;split
 .exact h1
 rename_i hlen;have hl:(c8 q.aC a).length=q.keys.length:=by rw[xE];have:¬(c8 q.aC a).length<q.keys.length:=hlen;rw[xE] at this;omega
 have Fq:∀key,tU (bN (fR {q with aC:=c8 q.aC a}) key):=λkey=>by
  have:=(s7 (l:=c8 q.aC a) (acc:=[]) rfl p7);exact ui this.1 key
 have cR:bU (kQ {q with aC:=c8 q.aC a})=true:=Ji _ Fq ux (λx hx=>by have:=Kc h (xU x hx);omega) p7;have uy:∀d∈kQ {q with aC:=c8 q.aC a},sQ {q with aC:=c8 q.aC a} d=true:=λd hd=>by
  obtain⟨x,hx,e,hls⟩:=Rk hd;refine(Fg ux).2 ⟨x,hx,by rw[e],?_⟩;unfold nW;rw[hls];simp
 unfold kD;split
 .rename_i h0;have h0:q.aL++kQ {q with aC:=c8 q.aC a}=[]:=h0;exact⟨h.ao,h.num,h.keys,h.val,h.ctx,by show bU (q.aL++_)=true;rw[h0];rfl,h.bH,h.fits,xU,ux,p7,λd hd=>by have:d∈q.aL++_:=hd;rw[h0] at this;simp at this,.inl h0,λe=>absurd e hk,h.read,λ_=>be,
   λ_=>⟨ho,⟨by show q.bH+1<=t;omega,Int.le_refl _⟩,h0,λe=>absurd e hk,λ_=>hl⟩⟩
 exact⟨h.ao,h.num,h.keys,h.val,h.ctx,by show bU (q.aL++_)=true;rw[tb];exact cR,h.bH,h.fits,xU,ux,p7,λd hd=>uy d (by have:d∈q.aL++_:=hd;rwa[tb] at this),.inr hl,λe=>absurd e hk,h.read,h.open_,λe=>absurd he e⟩
def tc {l:List Call} {t:Int}:j6 l t=true↔l.length<=20/\∀i,i<l.length->dH (ab l i) t/\(i=0\/(ab l (i-1)).bH<(ab l i).bH)/\(ab l i).num=gH l (i+1) (ab l i).ao/\∀j,j<i->mz (ab l j) (ab l i)=false:=by
 unfold j6 nF zB;rw[Bool.and_eq_true,jm,decide_eq_true_eq];constructor
 .rintro⟨h,hl⟩;refine⟨hl,λi hi=>?_⟩;have:=h i hi;simp only[Bool.and_eq_true,Bool.or_eq_true,decide_eq_true_eq,beq_iff_eq,jm] at this;exact⟨ta.1 this.1.1.1,this.1.1.2,this.1.2,λj hj=>by simpa using this.2 j hj⟩
 rintro⟨hl,h⟩;refine⟨λi hi=>?_,hl⟩;obtain⟨a1,a2,a3,a4⟩:=h i hi;simp only[Bool.and_eq_true,Bool.or_eq_true,decide_eq_true_eq,beq_iff_eq,jm];exact⟨⟨⟨ta.2 a1,a2⟩,a3⟩,λj hj=>by rw[a4 j hj];rfl⟩
def bR.call {w:aj} (h:bR w) {i:Nat} (hi:i<w.calls.length):dH (ab w.calls i) w.time:=((tc.1 h.calls).2 i hi).1
def Fs (s:Server) (m:ax):(!aH m.aO 10 11||decide (m.call<1)||!fq s m.key)=!(aH m.aO 10 11&&decide (1<=m.call)&&fq s m.key):=by
 have e:decide (m.call<1)=!decide (1<=m.call):=by rw[Bool.eq_iff_iff];simp
 rw[e];simp
def Sw (s:Server) (slot:Int) (h1:cg s.ai=true) (h2:cg s.waits=true) (h0:cr s.site=true) (h3:s.aw.length=3) (jK:0<=slot/\slot<3) (ho:s.aD.length<=80):
 Fn prog 192 [s.av,AV.int slot] ((fS s slot).av):=by
 refine Fn.go 63 func192 ntmps192 (λW I a U=>?_);have lens:s.aw.length<=9223372036854775807/\s.ai.length<=9223372036854775807/\s.waits.length<=9223372036854775807/\s.aD.length<=9223372036854775807/\s.aV.length<=9223372036854775807:=⟨U.ln 0 2,U.ln 0 3,U.ln 0 4,U.ln 0 5,U.ln 0 6⟩;refine sr<|U.box rfl .tt λb2 I a w U=>U.alloc rfl dI eI λb4 I a w U=>?_;refine zt ?_;refine U.da 14 ?_;simp only[TD];refine ef ?_;refine .o (.c1 (zs _ h0)) ?_;refine mo ?_;refine .o (.bd X8 (.k (.k (.k (.k (.k bc.nil)))))) ?_;refine gJ.alloc dI eI<|.nil ?_;intro I a w U;obtain⟨b5,U⟩:=U.uX (d:=5) rfl;refine aB λI a w U=>?_;have U:=U.hP (sz:=3) 115;refine bm λI a w U=>?_;refine U.o (.cl (ES _ _ h1)) λU=>?_;refine mn λI a w U=>?_;refine U.o (.cl (ES _ _ h2)) λU=>?_;refine iP λI a w U=>?_;refine St.lo (σ:=Nat×Value) (6::(run 26 36 [])) ⟨λ⟨k,v⟩=>[(6,AV.int k)],λ⟨k,v⟩=>[Own.box b2 43 s.cells,Own.box b4 84 [AV.val (.int .i64 0),AV.val (.int .i64 0),AV.val (.int .i64 0),AV.val (.int .i64 0),AV.val (.int .i64 0),AV.val (.int .i64 0),AV.val (.int .i64 0),AV.val (.int .i64 0),AV.val (.bool false),AV.rows 3 [],AV.val (.int .i64 0),AV.val (.int .i64 0),AV.rows 7 [],AV.rows 7 [],AV.rows 3 []],Own.box b5 84 [AV.int (fS s slot).kind,AV.int (fS s slot).aO,AV.int (fS s slot).to,AV.int (fS s slot).call,AV.int (fS s slot).key,AV.int (fS s slot).aq.time,AV.int (fS s slot).aq.site,AV.int (fS s slot).val,AV.bool (fS s slot).yes,AV.val (.slice none 0 0),AV.int (fS s slot).slot,AV.int (fS s slot).ba,cn (fS s slot).ai,cn (fS s slot).waits,AV.val v],Own.row v 115 3 (((s.aD.take k).filter (gG slot)).map au.cells)],λ⟨k,v⟩=>k<=s.aD.length⟩ (λ⟨k,v⟩=>s.aD.length-k) (0,.slice none 0 0) U ?aJ ?bF;case aJ=>exact Nat.zero_le _
 rintro⟨k,v⟩ I a w an U;have hk:k<=s.aD.length:=an;have kU:=sW (gG slot) s.aD k;dsimp only at U;refine cI λI a w U=>?_;refine cz (λae=>?_) λae=>?_
 .refine ee λI a w U=>?_;refine U.o (.c1 (vz ..)) λU=>?_;refine aF λI a w U=>?_;refine U.cd (λah=>?_) λah=>?_
  .change(gG slot) (ab s.aD k)=true at ah;refine U.dt 8 ?_;simp only[TD];refine mo ?_;refine .o (.li [(ab s.aD k).cells] iQ (.u .nil)) ?_;refine .nil ?_;intro I a w U;refine U.ap 3 λv60 a w U=>?_;refine U.o .fv λU=>?_;try have an6:=U.ff 3 rfl
   refine aB λI a w U=>?_;rw[cF,<-nY (p:=(gG slot)) ae ah] at U;refine aR λI a w U=>?_;exact U.ag (k+1,v60) (ae)
  change(gG slot) (ab s.aD k)=false at ah;refine aR λI a w U=>?_;rw[show(s.aD.take k).filter (gG slot)=(s.aD.take (k+1)).filter (gG slot) from(ob ae ah).symm] at U;exact U.ag (k+1,v) (ae)
 refine wp_exit<|cy<|cy<|fk<|bj<|wp_seq ?_;have U:=U.ni (q:=9) 2 rfl rfl (fB 3 _);obtain⟨I,U⟩:=U.fu 3 14 2;refine aF λI a w U=>?_;refine U.ret rfl (.cons (.sx 1) aW.nil) ?_;exact(by rw[show s.aD.take k=s.aD from List.take_of_length_le om];rfl)
def Kd {s:Server} {m:ax} (h:bG s) (hm:bI m=true) (ho:fq s m.key=true) (hk:(js (fh s m)&&ix s.ai (eK s m)&&decide (s.aD.length<80))=true):bG {s with ai:=fJ s.ai (eK s m),aD:=dP s.aD (eK s m).aU}:=by
 simp only[Bool.and_eq_true,decide_eq_true_eq] at hk;obtain⟨a1,a2,a3⟩:=Ff h hm hk.1.1;exact h.put hk.1.2 (by rw[a1]) (by show cM s m.key≠0;rw[(xx ho).2];omega) hk.2
def adf {s:Server} {m:ax} (h:(aH m.aO 10 11&&decide (1<=m.call)&&fq s m.key)=false):fT s m=(s,[]):=by unfold fT;rw[h];rfl
def Sx {s:Server} {m:ax} (h:(aH m.aO 10 11&&decide (1<=m.call)&&fq s m.key)=true) (hv:(ki s m.key (m.aO-10) m.call).isSome=true):fT s m=(s,[mU s m ((ki s m.key (m.aO-10) m.call).getD default).aq]):=by
 obtain⟨v,hv⟩:=Option.isSome_iff_exists.1 hv;unfold fT;rw[h,hv];rfl
def Ke {s:Server} {m:ax} (h:(aH m.aO 10 11&&decide (1<=m.call)&&fq s m.key)=true) (hv:(ki s m.key (m.aO-10) m.call).isSome=false) (hf:(js (fh s m)&&ix s.ai (eK s m)&&decide (s.aD.length<80))=false):fT s m=(s,[]):=by
 have hv:=BM (o:=ki s m.key (m.aO-10) m.call) (by rw[hv];rfl);unfold fT;rw[h,hv];dsimp only;rw[hf];rfl
def Sy {s:Server} {m:ax} (h:(aH m.aO 10 11&&decide (1<=m.call)&&fq s m.key)=true) (hv:(ki s m.key (m.aO-10) m.call).isSome=false) (hf:(js (fh s m)&&ix s.ai (eK s m)&&decide (s.aD.length<80))=true):
 fT s m=(dB {s with ai:=fJ s.ai (eK s m),aD:=dP s.aD (eK s m).aU},[mU s m (eK s m).aq]):=by
 have hv:=BM (o:=ki s m.key (m.aO-10) m.call) (by rw[hv];rfl);unfold fT;rw[h,hv];dsimp only;rw[hf];rfl
def dH.lens {q:Call} {t:Int} (h:dH q t):1<=q.keys.length/\q.keys.length<=3/\q.ctx.length<=6/\q.aL.length<=6/\q.aC.length<=3/\∀a∈q.aC,a.bl.aQ.length<=6:=by
 have h1:=h.keys;have hu:lj q.keys=true:=by simp only[iu,Bool.and_eq_true] at h1;exact h1.1
 have h2:1<=q.keys.length/\q.keys.length<=3:=by
  simp only[iu,Bool.and_eq_true,Bool.or_eq_true,aH,beq_iff_eq,decide_eq_true_eq] at h1;omega
 have h3:q.aC.length<=q.keys.length:=JA hu (Rj.2 ⟨h.has,h.sorted,h.aK⟩);exact⟨h2.1,h2.2,iE h.ctx,iE h.aL,by omega,λa ha=>iE (sX (h.aK a ha))⟩
def dH.small {q:Call} {t:Int} (h:dH q t):zn q:=by
 have:=h.lens;exact⟨by omega,by omega,by omega,λa ha=>(by have:=this.2.2.2.2.2 a ha;omega),by omega⟩
def dH.Cn {q:Call} {t:Int} (h:dH q t) (ht:0<=t):0<=q.end_/\q.end_<=t:=by
 by_cases he:q.end_=0
 .omega
 have:=h.ended he;have:=h.bH;omega
def Kf (l:List aE) (key:Int) (hd:∀v∈l,v.aQ.length<=1048576):Fn prog 69 [cn l,.int key] (.dy [((dV l key).getD default).av,.bool (dV l key).isSome]):=by
 refine⟨qS.of func69 rfl aS,λI0 w0 vs hm ha=>(callsIn_wide (n:=3)).1 ?_⟩;refine YX (F:=lF) 19 func69 rfl ntmps69 rfl hm ha λa U=>?_;have hQ:∀a w',¬bodyPostM Fence.wide 3 prog f69 (yo I0 w0 (.dy [((dV l key).getD default).av,.bool (dV l key).isSome])) .outgrown a w':=λa w' h=>h;refine wpIn_seq (yP (by exact hQ) rfl ?_);refine U.o (yr .tt (by first|exact lG rfl|exact lQ|exact lR|exact lV)) λU=>?_;refine U.alloc rfl bQ dO λb4 I a w U=>?_;refine U.alloc rfl Bq XR λb5 I a w U=>?_;refine nn (wpIn_seq (wpIn_seq (yP (by exact hQ) rfl ?_)));refine bK λI a w U=>?_;refine U.o (.c1 (aaq l)) λ{I1 a1 w1} U=>nn ?_;refine wpIn_block ?_;obtain⟨p,hp9,hp⟩:∃p,a1.eval (.tmp 9)=.func (.func 177) #[] #[p]/\(AV.ptr [cn l]).h I1 p:=by
  obtain⟨cs,e,h⟩:=U.env 9 _ rfl;obtain⟨cs⟩:=cs;match cs,h with
  |[p],h=>exact⟨p,e,h.1⟩
 have hcx:=U;have U:=U.re;obtain⟨H1,vT⟩:∃H1,H1=[Own.box b4 62 [AV.val (.int .i64 0),AV.val (.int .i64 0),AV.val (.int .i64 0),AV.val (.int .i64 0),AV.val (.int .i64 0),AV.val (.int .i64 0),AV.rows 3 []],Own.box b5 4 [AV.bool false]]:=⟨_,rfl⟩;have ae:boxes H1:=λo ho=>by
  rw[vT] at ho;rcases List.mem_cons.1 ho with rfl|ho
  .exact⟨_,_,_,rfl⟩
  rcases List.mem_cons.1 ho with rfl|ho
  .exact⟨_,_,_,rfl⟩
  cases ho
 have Sz:∀u v,boxes [Own.box b4 62 u,Own.box b5 4 v]:=λu v o ho=>by
  rcases List.mem_cons.1 ho with rfl|ho
  .exact⟨_,_,_,rfl⟩
  rcases List.mem_cons.1 ho with rfl|ho
  .exact⟨_,_,_,rfl⟩
  cases ho
 have U:St ⟨w1,I1,19,eV H1⟩ I1 H1 [(5,.val (.pointer (some ⟨b5,0,none⟩))),(4,.val (.pointer (some ⟨b4,0,none⟩))),(3,.ptr [.int key])] a1 w1:=by
  rw[vT];exact U.pick _
 have bw:∀b,eV H1 b->b<w1.heap.size/\I1 b=none:=λb h=>by
  obtain⟨o,ho,e⟩:=List.mem_filterMap.1 h;exact⟨((U.own.all o ho).2 b e).2.2,((U.own.all o ho).2 b e).2.1⟩
 have A2:=U;have mr:St _ I1 H1 [(5,.val (.pointer (some ⟨b5,0,none⟩))),(4,.val (.pointer (some ⟨b4,0,none⟩)))] a1 w1:=(hcx.pick _).yR (by rw[vT];rfl);have fin:∀{D:Nat} {W:World} {a2 a3:Act} {I:Im} {u:List AV} {b:Bool} {Γ:Env},w1.heap.size<=D->St ⟨w1,I1,19,eV H1⟩ I [Own.box b4 62 u,Own.box b5 4 [.bool b]] ((5,.val (.pointer (some ⟨b5,0,none⟩)))::(4,.val (.pointer (some ⟨b4,0,none⟩)))::Γ) a2 W->W.heap[D]?=some (.deferred (some []))->u.length=7->AV.dy [.agg u,.bool b]=.dy [((dV l key).getD default).av,.bool (dV l key).isSome]->
  a3.tmps=a2.tmps->a3.defers=[{target:=.collected D,args:=#[]}]->bodyPostM Fence.wide 3 prog f69 (yo I0 w0 (.dy [((dV l key).getD default).av,.bool (dV l key).isSome])) .ret a3 W:=λ{D W a2 a3 I u b Γ} hD hi hK hu he h1 h2=>by
  show LeavesInM _ _ _ _ a3.tmps _ a3.defers _ _;rw[h1,h2];exact(mr.un hi).leave (Sz _ _) (Nat.le_trans mr.step.below.size hD) hK rfl rfl (.cons (.s 0 bQ rfl rfl hu) (.cons (.cc 1 Bq rfl rfl) aW.nil)) he
 refine wpIn_rangeFunc_ownH (n:=3) rfl aN hp9 trivial (qS.of func177 rfl aS) (abz l 2 aN I1 w1 U.step.dz (λb=>w1.heap.size<=b\/eV H1 b) (λb cs e h=>h.elim (λh=>by have:=U.step.dz.lt e;omega) λh=>by rw[(bw b h).2] at e;cases e) p hp)
  (λh k=>h.trans k) (λW l o o' h _ _ _=>Y0 (λb h=>.inl h) W l o' h) (Below.refl _ _) (λ_=>rfl)
  (λpre W=>(∀x∈pre,oR key (ab l x.1.1)=false)/\∃I,St ⟨w1,I1,19,eV H1⟩ I H1 [(5,.val (.pointer (some ⟨b5,0,none⟩))),(4,.val (.pointer (some ⟨b4,0,none⟩))),(3,.ptr [.int key])] a1 W)
  (λc (pre:List (uf l I1)) W=>c=.ret/\∃(x:uf l I1) (q:List (uf l I1)),pre=q++[x]/\(∀y∈q,oR key (ab l y.1.1)=false)/\oR key (ab l x.1.1)=true/\∃I,St ⟨w1,I1,19,eV H1⟩ I [Own.box b4 62 (ab l x.1.1).cells,Own.box b5 4 [AV.bool true]] [(5,.val (.pointer (some ⟨b5,0,none⟩))),(4,.val (.pointer (some ⟨b4,0,none⟩))),(3,.ptr [.int key])] a1 W)
  (λs A B row h hg hr=>⟨h.1,h.2.imp λI k=>k.DZ ae hg hr⟩)
  (λc s A B row h hg hr=>by obtain⟨h0,x,q,e,h1,h2,I,k⟩:=h;exact⟨h0,x,q,e,h1,h2,I,k.DZ (Sz _ _) hg hr⟩)
  ⟨λx h=>(by cases h),I1,U⟩
  (λx a' W=>∃I b7,St ⟨w1,I1,19,eV H1⟩ I (H1++[Own.box b7 62 (ab l x.1.1).cells]) [(7,.val (.pointer (some ⟨b7,0,none⟩))),(5,.val (.pointer (some ⟨b5,0,none⟩))),(4,.val (.pointer (some ⟨b4,0,none⟩))),(3,.ptr [.int key])] a' W)
  (λx a' s A B row h hg hr=>h.imp λI k=>k.imp λb7 k=>k.DZ (λo ho=>(List.mem_append.1 ho).elim (ae o) λho=>⟨_,_,_,List.mem_singleton.1 ho⟩) hg hr)
  ?assign ?body ?done ?stop
 case assign=>
  rintro l1 pre x W K ⟨kf,I,hi⟩ hK;have hr:=hi.re;have e:({tmps:=(((#[10,11]:Array Nat).zip #[Value.int .i64 x.1.1,x.1.2]).foldl (λt (p,v)=>t.setIfInBounds p v) a1.tmps),defers:=[]}:Act)=(a1.put (some 10) (.int .i64 x.1.1)).put (some 11) x.1.2:=by
   have:=hi.defers;cases a1;simp at this;subst this;simp[Act.put]
  have U:=(hr.DY (d:=10) (x:=.int x.1.1) (v:=.int .i64 x.1.1) (show 10<19 from by decide) rfl).DY (d:=11) (x:=(ab l x.1.1).av) (v:=x.1.2) (show 11<19 from by decide) ((ab l x.1.1).av.up _ _ _ hi.step.le x.2.2);rw[<-e] at U;have U:=U.yR vT;refine Ia (by exactλ_ _ h=>h) rfl ?_;refine U.alloc rfl bQ dO λb7 I2 a w U=>?_;refine bK λI2 a w U=>?_;have U:St _ I2 (H1++[Own.box b7 62 (ab l x.1.1).cells]) [(7,.val (.pointer (some ⟨b7,0,none⟩))),(5,.val (.pointer (some ⟨b5,0,none⟩))),(4,.val (.pointer (some ⟨b4,0,none⟩))),(3,.ptr [.int key])] a w:=(U.pick _).yR (by rw[vT];rfl);have hu:=hi.un U;refine wpList_nil (bj ?_);exact hK _ _ ((U.keeps hi.own ae).from _) (hi.OY U) ⟨kf,_,A2.back hu hu.step.le⟩ ⟨_,_,hu⟩
 case body=>
  rintro l1 pre x a' W hl _ ⟨kf,_⟩ ⟨I,b7,hi⟩ hlen;have ar:boxes (H1++[Own.box b7 62 (ab l x.1.1).cells]):=λo ho=>(List.mem_append.1 ho).elim (ae o) λho=>⟨_,_,_,List.mem_singleton.1 ho⟩;have U:=hi.re.yR (H':=[Own.box b4 62 [AV.val (.int .i64 0),AV.val (.int .i64 0),AV.val (.int .i64 0),AV.val (.int .i64 0),AV.val (.int .i64 0),AV.val (.int .i64 0),AV.rows 3 []],Own.box b5 4 [AV.bool false],Own.box b7 62 (ab l x.1.1).cells]) (by rw[vT];rfl);refine wpIn_block (wpIn_seq (Ia (by exactλ_ _ h=>h) rfl ?_));refine bB λI2 a w U=>?_;refine nn ?_;refine wpIn_cond_split (U.env 15 _ rfl) (λhb=>?_) (λhb=>?_)
  .refine wpIn_seq (Ia (by exactλ_ _ h=>h) rfl ?_);refine bK λI2 a w U=>?_;refine U.o (.c1 (xh _ (hd _ (bf x.2.1)))) λU=>?_;refine aG λI2 a w U=>?_;refine nn (wpIn_ret (wC ?_));have U:St _ I2 ([Own.box b4 62 (ab l x.1.1).cells,Own.box b5 4 [.bool true]]++[Own.box b7 62 (ab l x.1.1).cells]) [(3,.ptr [.int key])] a w:=U.pick _;have hu:=hi.un U;exact⟨(U.keeps hi.own ar).from _,rfl,x,pre,rfl,kf,hb,_,A2.back hu hu.step.le⟩
  refine wpIn_skip (wB ?_);have U:St _ I2 (H1++[Own.box b7 62 (ab l x.1.1).cells]) [(3,.ptr [.int key])] a w:=(U.pick _).yR (by rw[vT];rfl);have hu:=hi.un U;exact⟨(U.keeps hi.own ar).from _,hi.OY U,λy hy=>(List.mem_append.1 hy).elim (kf y) λhy=>by rw[List.mem_singleton.1 hy];exact hb,_,A2.back hu hu.step.le⟩
 case done=>
  rintro D xs W hD ⟨hlen,ss⟩ ⟨kf,I,hi⟩ hK;have Kg:dV l key=none:=Rv λi hi=>by
   have hj:l.length-1-i<xs.length:=by omega
   have:=ss _ _ (List.getElem?_eq_getElem hj);have h2:=kf _ (List.getElem_mem hj);rw[show i=xs[l.length-1-i].1.1 from by omega];exact h2
  refine wB (bj (wpIn_seq (yP (by exact hQ) rfl ?_)));have e:({a1 with defers:={target:=.collected D,args:=#[]}::a1.defers}:Act)=Act.defer a1 [{target:=.collected D,args:=#[]}]:=by simp[Act.defer,hi.defers]
  rw[e];have U:=hi.re.yR vT;refine OT (Q:=Exit.then (λa' W'=>∃I',St ⟨W,I,19,eV H1⟩ I' [Own.box b4 62 [AV.val (.int .i64 0),AV.val (.int .i64 0),AV.val (.int .i64 0),AV.val (.int .i64 0),AV.val (.int .i64 0),AV.val (.int .i64 0),AV.rows 3 []],Own.box b5 4 [.bool false]] [(5,.val (.pointer (some ⟨b5,0,none⟩))),(4,.val (.pointer (some ⟨b4,0,none⟩)))] a' W') (λ_ _ _=>False)) _ (λe a' W' h=>?_) _ _ _ ?_
  .cases e with
   |normal=>
    obtain⟨I',h⟩:=h
    refine bj (wpIn_ret ?_)
    exact fin hD (hi.un h) ((h.keeps hi.own ae).same D _ hK rfl) rfl (by rw[Kg];rfl) rfl (by simp[Act.defer,h.defers])
   |_=>exact h.elim
  refine U.o (.bd dO bc.nil) λU=>?_;refine aG λI2 a w U=>?_;exact wpList_nil (bj ⟨_,U.pick _⟩)
 rintro D c pre W hD SA ⟨rfl,x,q,rfl,hq,gj,I,hi⟩ hK;have hx:x.1.1+1+q.length=l.length:=SA q.length x bk;have Kg:dV l key=some (ab l x.1.1):=P2 x.2.1 (λi h1 h2=>by
  have hj:l.length-1-i<q.length:=by omega
  have:=SA (l.length-1-i) q[l.length-1-i] (by rw[List.getElem?_append_left hj,List.getElem?_eq_getElem hj]);have h3:=hq _ (List.getElem_mem hj);rw[show i=q[l.length-1-i].1.1 from by omega];exact h3) gj
 refine wpIn_ret (wC (yq ?_));exact fin hD hi hK rfl (by rw[Kg];rfl) rfl (by simp[hi.defers])
def SB {s:Server} {m:ax} {y:Bool} {v:aE} (h:v.aQ.length<=1048576):kH ⟨4,0,0,m.call,m.key,m.aq,0,y,[],0,0,[v],[],[]⟩:=⟨Nat.zero_le _,⟨by simp,λx hx=>by obtain rfl:=List.mem_singleton.1 hx;exact h⟩,⟨Nat.zero_le _,λ_ h=>by cases h⟩,Nat.zero_le _⟩
def SC (s:Server) (m:ax) (v:aE):(v.key==m.key&&v.ao==m.aO-10&&v.call==m.call&&!(bM v.aq.site !=bM s.site))=oV s m.key (m.aO-10) m.call v:=by unfold oV;simp[bne]
def SD {s:Server} {m:ax} {k:Nat} (hk:k<s.ai.length) (h:∀i,i<k->oV s m.key (m.aO-10) m.call (ab s.ai i)=false) (hp:oV s m.key (m.aO-10) m.call (ab s.ai k)=true):ki s m.key (m.aO-10) m.call=some (ab s.ai k):=Qx hk h hp
def Kh {s:Server} {m:ax} {k:Nat} (hk:s.ai.length<=k) (h:∀i,i<k->oV s m.key (m.aO-10) m.call (ab s.ai i)=false):(ki s m.key (m.aO-10) m.call).isSome=false:=by unfold ki;rw[PC hk h];rfl
def Ft {s:Server} {m:ax} {k:Int} (h:(m.kind==k&&fF (m.aO-10)&&decide (0<m.call)&&fq s m.key)=true):m.kind=k/\(aH m.aO 10 11&&decide (1<=m.call)&&fq s m.key)=true:=by
 rw[QE] at h;simp only[Bool.and_eq_true,beq_iff_eq,decide_eq_true_eq] at h⊢;exact⟨h.1.1.1,⟨h.1.1.2,by omega⟩,h.2⟩
def SE {s:Server} {m:ax} {k:Int} (h:(m.kind==k&&fF (m.aO-10)&&decide (0<m.call)&&fq s m.key)=false) (hk:m.kind=k):(aH m.aO 10 11&&decide (1<=m.call)&&fq s m.key)=false:=by
 rw[QE,hk] at h;simp only[beq_self_eq_true,Bool.true_and] at h;rw[show decide (1<=m.call)=decide (0<m.call) from by rw[Bool.eq_iff_iff];simp;omega];exact h
def cJ (s:Server) (m:ax):Server×List ax:=
 if m.kind=1 then fT s m else if m.kind=3 then(s,gN s m) else if m.kind=5 then fL s m else if m.kind=6 then(iS s m,[]) else
 if m.kind=7 then(s,kK s m) else if m.kind=8 then(fK s m,[]) else if m.kind=9 then fj s m else if m.kind=10 then(g8 s m,[]) else(s,[])
def zM (s:Server) (h:fg s):
 Fn prog 224 [s.av] ((dB s).av):=by
 refine Fn.go 91 func224 ntmps224 (λW I a U=>?_);refine sr<|U.box rfl .tt λb1 I a w U=>U.alloc rfl cv dN λb2 I a w U=>?_;refine aB λI a w U=>?_;refine St.lo (σ:=Bool×Server) (run 5 3 (run 55 10 [])) ⟨λ⟨g,u⟩=>[(3,AV.bool g)],λ⟨g,u⟩=>[Own.box b1 43 u.cells,Own.box b2 43 [AV.val (.int .i64 0),AV.val (.bool false),AV.rows 2 [],AV.rows 7 [],AV.rows 7 [],AV.rows 3 [],AV.rows 3 []]],λ⟨g,u⟩=>fg u/\gZ u=gZ s/\(g=false->dx u<0)/\u.aV=s.aV⟩ (λ⟨g,u⟩=>2*u.waits.length+g.toNat) (true,s) U ?aJ ?bF;case aJ=>exact⟨h,rfl,(λe=>by cases e),rfl⟩
 rintro⟨g,u⟩ I a w an U;obtain⟨hu,fw,acZ,Fb⟩:=an;have lN:=g0 hu.waits;have mg:=hu.aV;dsimp only at U;refine aB λI a w U=>?_;refine U.cd (λae=>?_) λae=>?_
 .refine aF λI a w U=>?_;refine St.lo (σ:=Nat×Bool×Server) (run 5 3 (run 54 11 [])) ⟨λ⟨i,g2,u2⟩=>[(4,AV.int i),(3,AV.bool g2)],λ⟨i,g2,u2⟩=>[Own.box b1 43 u2.cells,Own.box b2 43 [AV.val (.int .i64 0),AV.val (.bool false),AV.rows 2 [],AV.rows 7 [],AV.rows 7 [],AV.rows 3 [],AV.rows 3 []]],λ⟨i,g2,u2⟩=>(g2=false->u=u2/\i<=u.waits.length/\(u.ai.length<80->∀j,j<i->ic u (ab u.waits j)=false))/\(g2=true->0<=dx u/\u2=mw u (dx u).toNat)⟩ (λ⟨i,g2,u2⟩=>if g2 then 0 else u.waits.length-i+1) (0,false,u) U ?eF ?jS;case eF=>exact⟨λ_=>⟨rfl,Nat.zero_le _,λ_ j hj=>by omega⟩,λe=>by cases e⟩
  rintro⟨i,g2,u2⟩ I a w an U;obtain⟨hf,ht⟩:=an;dsimp only at U;refine pz λI a w U=>?_;refine cz (λah=>?_) λah=>?_
  .obtain⟨hi,nI⟩:=ah;obtain⟨rfl,ld,kf⟩:=hf nI;subst nI;refine bm λI a w U=>?_;refine U.o ((by first|exact gS eJ bQ .tt .tt (λ_=>by exact hi)|exact ku eJ bQ .tt .tt (λ_=>by exact hi)|exact kS eJ bQ .tt .tt (λ_=>by exact hi))) λU=>?_;refine U.o .la λU=>?_;refine U.alloc rfl bQ dO λb5 I a w U=>?_;refine aB λI a w U=>?_;obtain⟨I,U⟩:=U.fb 2 5;refine U.dk ?_;refine ef ?_;refine .o (.c1 (vz _)) ?_;refine .o ((by first|exact gS gU fo .tt .tt (λ_=>by have:=rr (rq (vA hu.waits hi));have:=hu.aw;omega)|exact ku gU fo .tt .tt (λ_=>by have:=rr (rq (vA hu.waits hi));have:=hu.aw;omega)|exact kS gU fo .tt .tt (λ_=>by have:=rr (rq (vA hu.waits hi));have:=hu.aw;omega))) ?_;refine iC ?_;refine .q .F (.cl (aaX u (ab u.waits i) hu.ai)) ?_;refine cB ?_;refine .nil ?_;intro I a w U;refine bj ?_;refine U.cd (λar=>?_) λar=>?_
   .rw[Qa] at ar;replace ar:=nt ar;refine zt ?_;refine aR λI a w U=>?_;have U:=U.drop 2;exact U.ag (i+1,false,u) (⟨λ_=>⟨rfl,hi,λpT j hj=>by rcases Nat.lt_succ_iff_lt_or_eq.1 hj with h|h;exact kf pT j h;rw[h];exact ar⟩,λe=>by cases e⟩) (hμ:=by simp;try omega)
   rw[Qa] at ar;replace ar:=nf ar;refine bm λI a w U=>?_;refine U.o (.cl (Fh u.ai (ab u.waits i) hu.ai)) λU=>?_;refine iP λI a w U=>?_;refine U.cd (λaM=>?_) λaM=>?_
   .refine aR λI a w U=>?_;have U:=U.jc;refine U.gw (rp 2 (([0],none)::rp 2 (([3],some (3,[57]))::([],none)::([0],none)::rp 3 [([3],some (3,[])),([],none),([0],some (0,[]))]))) aS aS rfl ?_;refine .o (uZ eJ bQ) ?_;refine bJ ?_;refine .r [0] (.lb 0) ?_;refine bJ ?_;refine .o (AS eJ bQ .r .tt (λ_=>by simp;omega)) ?_;refine aY.Bb 3 rfl rfl eJ bQ rfl .tt .r (by have:=g0 hu.waits;simp;omega) ?_;refine bJ ?_;refine .r [0] (.lb 0) ?_;refine cB ?_;refine .o (G6 eJ bQ .r .tt (λ_=>by simp;omega)) ?_;refine aY.DE 3 rfl rfl eJ bQ rfl .r (by have:=g0 hu.waits;simp;omega) ?_;refine bJ ?_;refine aY.jn (x:=AV.any) 0 (λF W0 I0 I a w Q U kk=>U.s1 0 λU=>kk _ _ _ U) ?_;refine .nil ?_;intro I a w U;rw[<-List.map_take,<-List.map_drop,<-List.map_append,if_pos aM,show((i:Int)+1).toNat=i+1 by omega,Int.toNat_natCast] at U;change St _ _ [Own.box b1 43 (mw u i).cells,Own.box b2 43 [AV.val (.int .i64 0),AV.val (.bool false),AV.rows 2 [],AV.rows 7 [],AV.rows 7 [],AV.rows 3 [],AV.rows 3 []],Own.gone,Own.gone] _ _ _ at U;refine aZ λI a w U=>?_;have U:=U.drop 2;exact U.ag (i+1,true,mw u i) (⟨(λe=>by cases e),λ_=>by have e:=Z7 (vB aM).2.2 hi (kf (vB aM).2.2) ar;rw[e];exact⟨by omega,by simp⟩⟩) (hμ:=by simp;try omega)
   refine aR λI a w U=>?_;have U:=U.drop 2;exact U.ag (i+1,false,u) (⟨λ_=>⟨rfl,hi,λpT=>by have:=aa7 hu hi aM;omega⟩,λe=>by cases e⟩) (hμ:=by simp;try omega)
  rw[Nat.not_lt] at ah;refine zt ?_;exact U.ag (g2,u2) (acb hu fw Fb hf ht ah) (hμ:=by subst ae;exact aae hf ht)
 refine zt ?_;refine U.l0 λb65 I a w U=>?_;refine aF λI a w U=>?_;refine St.lo (σ:=Nat×Value) (run 2 8 (run 22 66 [])) ⟨λ⟨k,v⟩=>[(9,AV.int k),(8,AV.val v)],λ⟨k,v⟩=>[Own.box b1 43 u.cells,Own.box b2 43 [AV.val (.int .i64 0),AV.val (.bool false),AV.rows 2 [],AV.rows 7 [],AV.rows 7 [],AV.rows 3 [],AV.rows 3 []],Own.row v 115 3 (((u.aV.take k).filter (gY u)).map au.cells)],λ⟨k,v⟩=>k<=u.aV.length⟩ (λ⟨k,v⟩=>u.aV.length-k) (0,.slice (some ⟨b65,0,none⟩) 0 0) U ?jh ?oY;case jh=>exact Nat.zero_le _
 rintro⟨k,v⟩ I a w an U;have hk:k<=u.aV.length:=an;dsimp only at U;refine cI λI a w U=>?_;refine cz (λaP=>?_) λaP=>?_
 .refine zt ?_;refine U.dk ?_;refine iC ?_;refine .o (.c2 (QN ..))<|.nil ?_;intro I a w U;refine bj ?_;refine cz (λbx=>?_) λbx=>?_
  .refine ee λI a w U=>?_;refine U.o (.li [(ab u.aV k).cells] iQ (.u .nil)) λU=>?_;refine U.append 2 rfl en cV rfl .tt .r rfl (by have h1:=sW (gY u) u.aV k;have h2:=hu.aV;simp;omega) λKa a w U=>?_;rw[cF,<-nY aP bx] at U;refine aZ λI a w U=>?_;exact U.ag (k+1,Ka) (aP)
  refine aR λI a w U=>?_;rw[show(u.aV.take k).filter (gY u)=(u.aV.take (k+1)).filter (gY u) from(ob aP bx).symm] at U;exact U.ag (k+1,v) (aP)
 refine zt ?_;refine U.m λU=>?_;obtain⟨I,U⟩:=U.fr 2 88;refine aZ λI a w U=>?_;have e1:dB s=Ew u:=by unfold dB;rw[<-fw,Rw (acZ ae)]
 have e2:u.aV.take k=u.aV:=List.take_of_length_le om;refine U.ret rfl (.cons (.sx 1) aW.nil) ?_;exact(by rw[e1,e2];rfl)
set_option maxHeartbeats 8000000 in
def zN (s:Server) (an:fg s) (ho:s.aD.length<=80):
 Fn prog 249 [s.av] ((dB s).av):=by
 refine Fn.go 40 func249 ntmps249 (λW I a U=>?_);have mG:=an;have jv:=an.small om;refine bK λI a w U=>?_;refine U.alloc rfl cv dN λb2 I a w U=>?_;refine bK λI a w U=>?_;refine U.dj [] (B8 s jv) (az .tt aI) rfl aN rfl λ⟨vS,vV,vW,vO,vK⟩ I a w an2 U=>?_;refine U.alloc rfl cv dN λb3 I a w U=>?_;refine U.sb 6 λU=>?_;refine wpList_nil ?_;obtain⟨I,U⟩:=U.fu 1 2 6;obtain⟨I,U⟩:=U.fu 2 3 6;obtain⟨I,U⟩:=U.fu 4 5 6;refine bj ?_;refine St.cut (σ:=Server×Value) (4::(run 26 7 [])) ⟨λ⟨x,u⟩=>[],λ⟨x,u⟩=>[Own.box b2 43 [AV.val (.int .i64 0),AV.val (.bool false),AV.rows 2 [],AV.rows 7 [],AV.rows 7 [],AV.rows 3 [],AV.rows 3 []],Own.gone,Own.gone,Own.row u 62 7 (x.waits.map aE.cells),Own.gone,Own.row vK 115 3 (x.aV.map au.cells),Own.box b3 43 [AV.int x.site,AV.bool x.up,su x.aw,cn x.ai,AV.val u,bE x.aD,AV.val vK]],λ⟨x,u⟩=>fg x/\gZ x=gZ s/\x.aD=s.aD/\dx x<0⟩ U ?Cl ?Ss;case Cl=>
  refine wp_block ?_;refine St.lo (σ:=Server×Value) (4::(run 26 7 [])) ⟨λ⟨x,u⟩=>[],λ⟨x,u⟩=>[Own.box b2 43 [AV.val (.int .i64 0),AV.val (.bool false),AV.rows 2 [],AV.rows 7 [],AV.rows 7 [],AV.rows 3 [],AV.rows 3 []],Own.gone,Own.gone,Own.row u 62 7 (x.waits.map aE.cells),Own.gone,Own.row vK 115 3 (x.aV.map au.cells),Own.box b3 43 [AV.int x.site,AV.bool x.up,su x.aw,cn x.ai,AV.val u,bE x.aD,AV.val vK]],λ⟨x,u⟩=>fg x/\gZ x=gZ s/\x.aD=s.aD⟩ (λ⟨x,u⟩=>x.waits.length) (s,vW) U ?aJ ?bF;case aJ=>exact⟨an,rfl,rfl⟩
  rintro⟨x,u⟩ I a w an U;obtain⟨hx,nk,vP⟩:=an;dsimp only at U;have s8:=pZ hx.ai;have hwd:=pZ hx.waits;have po:=g0 hx.ai;have lN:=g0 hx.waits;refine aZ λI a w U=>?_;refine cz (λae=>?_) λae=>?_
  .refine aG λI a w U=>?_;refine U.o (oD (az .tt aI)) λU=>?_;refine U.o (DO (xs:=[AV.val u,AV.fn 262 [AV.val (.pointer (some ⟨b3,0,none⟩))]]) (sE:=[cn x.waits,AV.fn 262 [AV.ptr x.cells]]) (Ja x.waits (ic x) _ (λv hv=>Fn.val (acG x v hx.aw (rq (fi hx.waits v hv))))) (az .tt (az .tt aI)) (λc I a w U=>by obtain⟨I,U,hf⟩:=U.uQ 3 rfl;have U:=U.ni (q:=4) 6 rfl rfl hf;have U:=U.yw (t:=0) rfl hf;obtain⟨I,U⟩:=U.fu 5 6 6;obtain⟨I,U⟩:=U.fc 6 1 0;exact⟨_,_,_,U,rfl,rfl,trivial⟩)) λU=>?_;refine aB λI a w U=>?_;have hid:dx x=df (ic x) x.waits:=aai om;refine aF λI a w U=>?_;refine cz (λah=>?_) λah=>?_
   .refine zt ?_;exact U.me (x,u) (by first|exact⟨hx,nk,vP,Qe om⟩|exact⟨hx,nk,vP,by omega⟩)
   have q9:0<=dx x:=by omega
   obtain⟨yB,pT,lI⟩:=vw q9;have Su:=hx.xR q9;have fw:=P3 q9;obtain⟨n,hn⟩:∃n:Nat,(dx x).toNat=n:=⟨_,rfl⟩;rw[hn] at yB Su fw lI;rw[show df (ic x) x.waits=(n:Int) by omega] at U;refine zt ?_;obtain⟨bu,cu,rfl⟩:=U.j3 3 rfl ko;refine U.dt 9 ?_;simp only[TD];refine gF ?_;refine .o (jj eJ bQ .tt .tt (λ_=>by rw[List.length_map];omega)) ?_;refine .o (si 3 bQ .tt rfl (λ_=>by exact gh yB) rfl) ?_;refine .o (bT (E3 x.ai (ab x.waits n) om (λy hy=>by have:=s8 y hy;omega) (by have:=hwd _ (bf yB);omega)) (az .r (az (.t rfl) aI))) ?_;refine bJ ?_;refine .nil ?_;intro I a w U;refine U.s1 6 λU=>?_;refine cj λI a w U=>?_;refine U.dj [3] (abm _ (x.waits.map aE.cells) n (by rw[List.length_map];exact yB) ko (λr hr=>by obtain⟨y,_,rfl⟩:=List.mem_map.1 hr;rfl)) (az .r (az .tt (az .tt aI))) rfl aN rfl λu2 I a w an3 U=>?_;rw[<-List.map_take,<-List.map_drop,<-List.map_append] at U;refine U.o .fv λU=>?_;try have an4:=U.ff 3 rfl
   refine U.s1 6 λU=>?_;refine zt ?_;exact U.ag (mw x n,u2) (⟨Su,fw.symm.trans nk,vP⟩) (hμ:=by show(mw x n).waits.length<x.waits.length;rw[Ex yB];omega)
  refine zt ?_;exact U.me (x,u) (by first|exact⟨hx,nk,vP,Qe om⟩|exact⟨hx,nk,vP,by omega⟩)
 rintro⟨x,u⟩ I a w an U;obtain⟨hx,nk,vP,E0⟩:=an;dsimp only at U;have fw:=abS nk E0;have ac2:sO {x with aV:=x.aV.filter λd=>!(!gY x d)}:=by rw[<-fw];exact(mG.settle).small (by rw[(ud s).2.2.2];omega)
 refine wp_seq ?_;obtain⟨I,U⟩:=U.fu 3 4 6;refine aG λI a w U=>?_;refine U.o (oD (az .tt aI)) λU=>?_;refine U.dj [5,6] (Ju vK x.aV (λd=>!gY x d) _ (Own.box b3 43 [AV.int x.site,AV.bool x.up,su x.aw,cn x.ai,cn x.waits,bE x.aD,AV.val vK]) (by have:=hx.aV;omega) (λd hd=>jC.val (acS b3 x (AV.val vK) d))) (az .r (az .tt aI)) rfl aN rfl λSv I a w Fo U=>?_;refine U.o .fv λU=>?_;try have an5:=U.ff 5 rfl
 refine U.s1 6 λU=>?_;refine nn<|wp_seq ?_;obtain⟨I,U⟩:=U.fu 5 6 6;refine bK λI a w U=>?_;refine U.o (.c1 (uu {x with aV:=x.aV.filter λd=>!(!gY x d)} ac2)) λU=>?_;refine aB λI a w U=>?_;refine U.ret rfl (.cons (.sx 0) aW.nil) ?_;exact(by rw[fw];rfl)
def rH {s:Server} {m:ax} (h:m.kind=1):cJ s m=((fT s m).1,(fT s m).2):=by unfold cJ;rw[if_pos h]
def rI {s:Server} {m:ax} (h:m.kind=6):cJ s m=(iS s m,[]):=by unfold cJ;rw[h];rfl
def rJ {s:Server} {m:ax} (h:m.kind=8):cJ s m=(fK s m,[]):=by unfold cJ;rw[h];rfl
def rK {s:Server} {m:ax} (h:m.kind=9):cJ s m=((fj s m).1,(fj s m).2):=by unfold cJ;rw[h];rfl
def rL {s:Server} {m:ax} (h:m.kind=10):cJ s m=(g8 s m,[]):=by unfold cJ;rw[h];rfl
def ac3 (s:Server) (m:ax) (hg:bG s) (hm:bI m=true) (ho:(cr m.aO&&(bM m.aO !=bM s.site))=true):
 Fn prog 243 [s.av,m.av] (AV.dy [(fL s m).1.av,dR (fL s m).2]):=by
 refine Fn.go 76 func243 ntmps243 (λW I a U=>?_);have an:=jI.2 hg;have cX:=hg.ok;have jv:=hg.small;have lN:=mW hm;have lens:m.aQ.length<=9223372036854775807/\m.ai.length<=9223372036854775807/\m.waits.length<=9223372036854775807/\m.aD.length<=9223372036854775807:=⟨U.ln 1 9,U.ln 1 12,U.ln 1 13,U.ln 1 14⟩;have h3:=hg.aw;refine aG λI a w U=>?_;refine U.alloc rfl cv dN λb4 I a w U=>?_;refine aB λI a w U=>?_;refine U.dk ?_;refine pB ?_;refine .q .F (gS (i:=0) eJ bQ .ag .c (λhg=>by simp at hg;omega)) ?_;refine cB ?_;refine .q .F (.cl (zD s (ab m.ai 0).key h3)) ?_;refine iC ?_;refine .q .F (gS (i:=0) eJ bQ .ag .c (λhg=>by simp at hg;omega)) ?_;refine bJ ?_;refine .q .F (.cl (Ix ..)) ?_;refine cB ?_;refine .nil ?_;intro I a w U;refine bj ?_;refine U.cd (λae=>?_) λae=>?_
 .rw[Qh ho] at ae;replace ae:=nt ae;refine aR λI a w U=>?_;refine U.ret rfl (.cons (.sx 0) (.cons (.nil (sz:=15) rfl) aW.nil)) ?_;exact(by unfold fL;rw[ae];rfl)
 rw[Qh ho] at ae;replace ae:=nf ae;refine aG λI a w U=>?_;refine U.o (gS (i:=0) eJ bQ .tt .c (λ_=>by have:=(BL ae).2.2.1;omega)) λU=>?_;refine U.o .la λU=>?_;refine U.alloc rfl bQ dO λb6 I a w U=>?_;refine aB λI a w U=>?_;obtain⟨I,U⟩:=U.fb 1 6;refine U.o .la λU=>?_;refine U.o (.c1 (uu s jv)) λU=>U.alloc rfl cv dN λb7 I a w U=>?_;refine aB λI a w U=>?_;refine U.dk ?_;refine dD ?_;refine .o (.c1 (oa ..)) ?_;refine .o (.cl (rF ..)) ?_;refine gF ?_;refine .q .T (.cl (oa ..)) ?_;refine .q .T (.cl (rF ..)) ?_;refine cB ?_;refine .nil ?_;intro I a w U;refine bj ?_;refine px (λah=>?_) λah=>?_
 .refine bm λI a w U=>?_;refine U.o (.cl (Sa _ _ cX.waits)) λU=>?_;refine jD λI a w U=>?_;refine cz (λar=>?_) λar=>?_
  .refine aR λI a w U=>?_;refine U.ret rfl (.cons (.sx 0) (.cons (.nil (sz:=15) rfl) aW.nil)) ?_;exact(by unfold fL;rw[ae,if_pos rfl];dsimp only;rw[if_pos ah,ar];rfl)
  refine aR λI a w U=>?_;rw[if_pos ar] at U;refine U.dt 10 ?_;simp only[TD];refine bJ ?_;refine .o (.c1 (zN {s with waits:=fJ s.waits (ab m.ai 0)} (cX.JN ar ah.1) (iX hg.aD))) ?_;refine iC ?_;refine .o (.bd eI (.k (.k (.t bc.nil)))) ?_;refine .o (.c3 (uv s m ⟨6,0,0,0,(ab m.ai 0).key,(ab m.ai 0).aq,0,false,[],0,0,[],[],[]⟩ (xi ..)))<|.nil ?_;intro I a w U;refine aF λI a w U=>?_;refine U.ret rfl (.cons (.sx 0) (.cons .x aW.nil)) ?_;exact(by unfold fL;rw[ae,if_pos rfl];dsimp only;rw[if_pos ah,ar];rfl)
 rw[<-Bool.not_eq_true] at ah;simp only[B] at ah;refine zt ?_;refine U.dt 10 ?_;simp only[TD];refine bJ ?_;refine .o (.c1 (zN s cX (iX hg.aD))) ?_;refine iC ?_;refine .o (.bd eI (.k (.k (.t bc.nil)))) ?_;refine .o (.c3 (uv s m ⟨6,0,0,0,(ab m.ai 0).key,(ab m.ai 0).aq,0,false,[],0,0,[],[],[]⟩ (xi ..)))<|.nil ?_;intro I a w U;refine aF λI a w U=>?_;refine U.ret rfl (.cons (.sx 0) (.cons .x aW.nil)) ?_;exact(by unfold fL;rw[ae,if_pos rfl];dsimp only;rw[if_neg ah];rfl)
def ac4 (s:Server) (m:ax) (hg:bG s) (hm:bI m=true) (hf:((m.aO==eX s.site)&&decide (1<=m.ba))=true):
 Fn prog 250 [s.av,m.av] (AV.dy [(fj s m).1.av,dR (fj s m).2]):=by
 refine Fn.go 106 func250 ntmps250 (λW I a U=>?_);have an:=jI.2 hg;have cX:=hg.ok;have jv:=hg.small;have lN:=mW hm;have jK:=pQ hm;have lens:m.aQ.length<=9223372036854775807/\m.ai.length<=9223372036854775807/\m.waits.length<=9223372036854775807/\m.aD.length<=9223372036854775807:=⟨U.ln 1 9,U.ln 1 12,U.ln 1 13,U.ln 1 14⟩;have h3:=hg.aw;have oE:=cX.drop m.slot;have Kb:=iX (hg.dW m.slot).aD;have DN:=iX lN.2.2.1;have hdv:=g0 oE.ai;have vQ:=g0 oE.waits;have e9:∀x,x=cY.cells ⟨m.ba,1⟩->(List.map cY.cells s.aw).set m.slot.toNat x=List.map cY.cells ((dW s m.slot).aw.set m.slot.toNat ⟨m.ba,1⟩):=λx h=>by rw[h];exact List.map_set.symm
 refine aG λI a w U=>?_;refine U.alloc rfl cv dN λb4 I a w U=>?_;refine gT λI a w U=>?_;refine U.o (.bd eI (.k (.k (.k bc.nil)))) λU=>?_;refine U.o (.c3 (uv s m ⟨10,0,0,0,0,⟨0,0⟩,0,false,[],m.slot,m.ba,[],[],[]⟩ (xi ..))) λU=>?_;refine aF λI a w U=>?_;refine cz (λae=>?_) λae=>?_
 .refine aZ λI a w U=>?_;refine U.ret rfl (.cons (.sx 0) (.cons .x aW.nil)) ?_;exact(by rw[So hf om];rfl)
 refine bm λI a w U=>?_;refine U.dj [] (RZ s m.slot jv) (az .tt (az .tt aI)) rfl aN rfl λvS I a w Cm U=>?_;refine U.alloc rfl cv dN λb7 I a w U=>?_;refine wW λI a w U=>?_;refine U.o (.cl (Sc (dW s m.slot).ai m.ai oE.ai lN.1)) λU=>?_;refine yH λI a w U=>?_;refine U.o (.cl (Sc (dW s m.slot).waits m.waits oE.waits lN.2.1)) λU=>?_;refine pz λI a w U=>?_;refine St.lo (σ:=Nat) (14::(run 10 65 [])) ⟨λk=>[(65,AV.int k)],λk=>[Own.box b4 43 [AV.val (.int .i64 0),AV.val (.bool false),AV.rows 2 [],AV.rows 7 [],AV.rows 7 [],AV.rows 3 [],AV.rows 3 []],Own.row vS 46 2 (s.aw.map cY.cells),Own.box b7 43 [AV.int s.site,AV.bool s.up,AV.val vS,cn (dW s m.slot).ai,cn (dW s m.slot).waits,bE ((m.aD.take k).foldl dP (dW s m.slot).aD),bE s.aV]],λk=>k<=m.aD.length⟩ (λk=>m.aD.length-k) 0 U ?aJ ?bF;case aJ=>exact Nat.zero_le _
 rintro k I a w an U;have hk:k<=m.aD.length:=an;dsimp only at U;refine aB λI a w U=>?_;refine cz (λah=>?_) λah=>?_
 .refine aG λI a w U=>?_;refine U.alloc rfl cV gK λuw I a w U=>?_;refine aB λI a w U=>?_;obtain⟨I,U⟩:=U.fb 3 14;refine bm λI a w U=>?_;refine U.o (bT (J6 ((m.aD.take k).foldl dP (dW s m.slot).aD) (ab m.aD k) (by have:=Q8 (dW s m.slot).aD m.aD k;omega)) (az .r (az (.t rfl) aI))) λU=>?_;refine aZ λI a w U=>?_;have U:=U.drop 3;rw[<-Q6 ah] at U;exact U.ag (k+1) (ah)
 refine zt ?_;refine iP λI a w U=>?_;obtain⟨bS,cS,rfl⟩:=U.j3 1 rfl ko;refine ee λI a w U=>?_;refine U.o (.bd oN (.k (.k bc.nil))) λU=>?_;refine U.o (jj gU fo .tt .tt (λ_=>by simp only[List.length_map];omega)) λU=>?_;refine U.lS 1 fo .tt .tt rfl (by exact gh om) rfl rfl λa w U=>?_;refine zt ?_;rw[e9] at U;rotate_left
 .rfl
 obtain⟨I,U⟩:=U.fu 1 2 2;rw[show m.aD.take k=m.aD from List.take_of_length_le om] at U;refine DP λI a w U=>?_;refine U.q .F (.cl (xM (iJ s m))) λU=>?_;refine aF λI a w U=>?_;refine U.cd (λar=>?_) λar=>?_
 .rw[R1] at ar;replace ar:=nt ar;refine aR λI a w U=>?_;refine U.ret rfl (.cons (.sx 0) (.cons (.nil (sz:=15) rfl) aW.nil)) ?_;exact(by rw[J7 hf om ar];rfl)
 rw[R1] at ar;replace ar:=nf ar;refine bK λI a w U=>?_;refine U.o (bT (zN (iJ s m) (jI.1 (by simp only[Bool.and_eq_true] at ar;exact ar.2)).ok (iX (jI.1 (by simp only[Bool.and_eq_true] at ar;exact ar.2)).aD)) (az (.t rfl) aI)) λU=>?_;refine aR λI a w U=>?_;refine U.ret rfl (.cons (.sx 0) (.cons .x aW.nil)) ?_;exact(by rw[Sp hf om ar];rfl)
def ac6 {s:Server} {m:ax} (hg:bG s) (h:(m.kind==6&&(cr m.aO&&(bM m.aO !=bM s.site))&&fq s m.key)=true):cJ s m=({s with aD:=s.aD.filter (λd=>!decide (d=⟨m.key,m.aq⟩))},[]):=by
 simp only[Bool.and_eq_true,beq_iff_eq] at h;obtain⟨⟨h1,h2,h3⟩,h4⟩:=h;have h5:(cM s m.key==1)=true:=by unfold fq at h4;rw[Bool.and_eq_true] at h4;exact h4.2
 rw[rI h1,acx hg.aD];unfold iS;rw[h2,h3,h5];by_cases hi:0<=eW s.aD ⟨m.key,m.aq⟩
 .rw[if_pos hi,if_pos (by simp[hi])]
 rw[if_neg hi,if_neg (by simp[hi])]
end Go.Proofs.YtdanidpleofjgaaGreat

/- Part 61: contracts of functions, plain facts. -/
import Derived.Test.YtdanidpleofjgaaGreatP56
set_option linter.all false
set_option maxRecDepth 100000
set_option maxHeartbeats 4000000
namespace Go.Proofs.YtdanidpleofjgaaGreat
open Go Go.RowKit Tryz
attribute [local irreducible] wpList Code.wp Ok
def akM {l:List aE} {d:au} {k:Nat} (hk:k<l.length) (h:∀i,i<k->lY d (ab l i)=false) (hp:lY d (ab l k)=true):eE l d=some (ab l k):=by
 have e:placeOf l d=k:=mQ hk h hp;unfold eE;rw[e,if_pos om];rfl
def akN {l:List aE} {d:au} {k:Nat} (hk:l.length<=k) (h:∀i,i<k->lY d (ab l i)=false):eE l d=none:=by
 have e:placeOf l d=-1:=my hk h;unfold eE;rw[e,if_neg om]
def Vr {w:aj} (h:Inv w) {σ:Nat} (hσ:σ<2) {v:aE} (hv:bn w σ v):eE (cN w (σ:Int)) v.aU=some v:=by
 have hp:=oW.2 ⟨v,(nb h hσ).2 hv,rfl⟩;unfold eE;rw[if_pos hp];obtain⟨h1,h2⟩:=zc hp;exact congrArg some (h.uniq _ _ _ _ ((nb h hσ).1 (bf h1)) hv h2)
def akO {w:aj} (h:Inv w) {σ:Nat} (hσ:σ<2) {d:au} {v:aE} (hv:eE (cN w (σ:Int)) d=some v):bn w σ v/\v.aU=d:=by
 have:=xK hv;exact⟨(nb h hσ).1 this.1,this.2⟩
def akP {w:aj} (h:Inv w) {q:Call} (hq:q∈w.calls) (hk:q.kind=1) (he:q.end_≠0):∃v,eE (cN w q.ao) ⟨ab q.keys 0,q.aq⟩=some v/\v.aQ=q.ctx/\v.val=q.val/\v.ao=q.ao/\v.call=q.num:=by
 obtain⟨v,v1,v2,v3,v4,v5⟩:=h.done _ hq hk he;obtain⟨p,hp,c1,c2,c3,c4,c5,c6⟩:=h.made _ v v1;have x4:=Cw h.aK hp hq (by rw[c1,v2]) (by rw[c2,v3]);subst x4;have hc:=ou h.aK hq;have:=Vr h hc.1 v1;rw[hc.2] at this;refine⟨v,?_,c6.symm,c5.symm,v2,v3⟩;rw[<-v4,<-v5];exact this
def dH.akQ {q:Call} {t:Int} (h:dH q t):0<q.keys.length:=by
 have:=h.keys;unfold iu at this;simp only[Bool.and_eq_true,Bool.or_eq_true,beq_iff_eq,aH,decide_eq_true_eq] at this;omega
def akR (l:List aE) (key:Int) (st:cx):
 Fn prog 35 [cn l,AV.int key,st.av] (AV.dy [((eE l ⟨key,st⟩).getD default).av,AV.bool (eE l ⟨key,st⟩).isSome]):=by
 refine Fn.go 36 func35 ntmps35 (λW I a U=>?_);have hle:=U.eC (t:=0) rfl;refine bK λI a w U=>?_;refine U.alloc rfl bQ dO λb6 I a w U=>?_;refine aF λI a w U=>?_;refine St.lo (σ:=Nat) (run 28 7 []) ⟨λk=>[(8,AV.int k)],λk=>[Own.box b6 62 [AV.val (.int .i64 0),AV.val (.int .i64 0),AV.val (.int .i64 0),AV.val (.int .i64 0),AV.val (.int .i64 0),AV.val (.int .i64 0),AV.rows 3 []]],λk=>k<=l.length/\∀i,i<k->lY ⟨key,st⟩ (ab l i)=false⟩ (λk=>l.length-k) 0 U ?aJ ?bF;case aJ=>exact⟨Nat.zero_le _,λi hi=>by omega⟩
 rintro k I a w an U;obtain⟨hk,aT⟩:=an;refine aZ λI a w U=>?_;refine cz (λae=>?_) λae=>?_
 .refine zt ?_;refine U.dk ?_;refine rf ?_;refine .q .T (nj [_,_] [_,_] nU rfl rfl .ag .ag) ?_;refine bJ ?_;refine .nil ?_;intro I a w U;refine bj ?_;refine U.cd (λah=>?_) λah=>?_
  .rw[EL] at ah;refine iP λI a w U=>?_;refine U.ret rfl (.cons (.sx 0) (.cons (.t rfl) aW.nil)) ?_;exact(by rw[akM ae aT ah];rfl)
  rw[EL] at ah;refine aR λI a w U=>?_;exact U.ag (k+1) (⟨ae,λi h1=>by rcases Nat.lt_succ_iff_lt_or_eq.1 h1 with h|h;exact aT i h;rw[h];exact ah⟩)
 refine zt ?_;refine U.o (.bd dO bc.nil) λU=>?_;refine aF λI a w U=>?_;refine U.ret rfl (.cons (.sx 0) (.cons (.t rfl) aW.nil)) ?_;exact(by rw[akN om aT];rfl)
def Vs {l:List aE} {d:au} {v:aE} (h:eE l d=some v):Fn prog 35 [cn l,AV.int d.key,d.aq.av] (AV.dy [v.av,AV.bool true]):=by
 have:=akR l d.key d.aq;rw[show(⟨d.key,d.aq⟩:au)=d from rfl,h] at this;exact this
def akS (l:List Ev) {q:Call} (hq:q∈(bz l).calls) (hk:q.kind=1) (he:q.end_≠0):∃v,eE (cN (bz l) q.ao) ⟨ab q.keys 0,q.aq⟩=some v/\v.val=q.val/\v.call=q.num/\eE (cN (bA 25 (bz l)) (1-q.ao)) ⟨ab q.keys 0,q.aq⟩=some v:=by
 have h:=(r6 l).1;obtain⟨a,_,g,_⟩:=wo l;obtain⟨v,v1,v2,v3,v4,v5⟩:=akP h hq hk he;have hc:=ou h.aK hq;have h1:=akO h (σ:=q.ao.toNat) hc.1 (d:=⟨ab q.keys 0,q.aq⟩) (v:=v) (by rw[hc.2];exact v1);have h2:=ye a (τ:=1-q.ao.toNat) om (g.dY _ v h1.1);have h3:=Vr a.still.calm.inv (σ:=1-q.ao.toNat) om h2;refine⟨v,v1,v3,v5,?_⟩;rw[<-h1.2,show(1-q.ao:Int)=((1-q.ao.toNat:Nat):Int) by omega];exact h3
def VM (code:List UInt8):
 Fn prog 13 [ia code] (AV.bool true):=by
 refine Fn.go 103 func13 ntmps13 (λW I a U=>?_);have hle:=U.eC (t:=0) rfl;refine aZ λI a w U=>?_;refine cz (λae=>?_) λae=>?_
 .refine bh ?_;rfl
 refine bK λI a w U=>?_;refine U.dj [] (Ac code om) (az .r aI) rfl aN rfl λl I a w Vo U=>?_;refine aG λI a w U=>?_;refine U.o (.cl (Aq l)) λU=>?_;refine U.alloc rfl dM ei λb4 I a w U=>?_;refine aB λI a w U=>?_;obtain⟨I,U⟩:=U.fb 0 4;refine U.m λU=>?_;refine U.o (.cl (Aa l)) λU=>?_;refine U.alloc rfl dM ei λb5 I a w U=>?_;refine aB λI a w U=>?_;obtain⟨I,U⟩:=U.fb 1 5;refine aG λI a w U=>?_;refine U.o (.c2 (z0 (bz l) (Ad _))) λU=>?_;refine aB λI a w U=>?_;refine U.cd (λah=>?_) λah=>?_
 .exfalso;simp at ah;skip
 refine wp_skip<|bj<|wp_seq ?_;obtain⟨hI,hT⟩:=r6 l;have jz:=wj l;have mq:=hI.aK;have nR:=Ae l;have C3:=mq.small.2.2.1.1;obtain⟨jT,lO,C4⟩:=Ap l;have C5:=jT.aK.aA;have C6:=jT.aK.small.2.2.1.1;refine bK λI a w U=>?_;refine U.o (.c1 (Aj (bz l) jz)) λU=>U.alloc rfl dM ei λb6 I a w U=>?_;refine aB λI a w U=>?_;obtain⟨I,U⟩:=U.fb 2 6;have U:=U.drop 0;refine aB λI a w U=>?_;refine St.lo (σ:=Nat) (2::(run 6 7 (run 75 28 []))) ⟨λi=>[(7,AV.int i)],λi=>[],λi=>i<=(bz l).calls.length⟩ (λi=>(bz l).calls.length-i) 0 U ?aJ ?bF;case aJ=>exact Nat.zero_le _
 rintro i I a w an U;have Vq:i<=(bz l).calls.length:=an;refine cI λI a w U=>?_;refine cz (λar=>?_) λar=>?_
 .refine cj λI a w U=>?_;refine U.alloc rfl fI j4 λb8 I a w U=>?_;refine aB λI a w U=>?_;obtain⟨I,U⟩:=U.fb 0 8;refine py λI a w U=>?_;refine OB (λaM=>?_) λaM=>?_
  .refine zt ?_;refine aR λI a w U=>?_;have U:=U.drop 0;exact U.ag (i+1) (by show i+1<=_;omega)
  obtain⟨h1,h2⟩:=aM;refine zt ?_;obtain⟨v,uB,GA,Ck,kR⟩:=akS l (bf ar) h2 h1;have bq:=ou mq (bf ar);have lJ:=(mq.call ar).akQ;have U:=U.jc;refine U.gw [([],none),([],none),([],none),([],none),([],none),([],none),([],none),([],none),([],none),([],none),([],none),([],none),([],none),([],none),([1],some (1,[9])),([1],some (1,[9])),([],none)] aS aS rfl ?_;refine dD ?_;refine .o (bT (rZ (bz l) (ab (bz l).calls i).ao jz om) (az (.t rfl) (az (.t rfl) aI))) ?_;refine cB ?_;refine .o (gS (i:=0) ky jQ .tt .c (λ_=>by omega)) ?_;refine dD ?_;refine .o (bT (Vs uB) (az .r (az .tt (az .tt aI)))) ?_;refine dD ?_;refine aY.alloc 1 rfl rfl bQ dO ?_;refine aY.q7 1 rfl bQ rfl .tt rfl rfl ?_;refine bJ ?_;refine .nil ?_;intro I a w U;obtain⟨b9,U⟩:=U.oL (d:=9) 1 rfl rfl;obtain⟨I,U⟩:=U.fb 1 9;refine zt ?_;have U:=U.jc;refine U.gw [([],none),([],none),([],none),([],none),([],none),([],none),([],none),([],none),([],none),([],none),([],none),([],none),([],none),([],none),([],none),([2],some (2,[11])),([2],some (2,[11])),([],none)] aS aS rfl ?_;refine ef ?_;refine .o (bT (rZ (bA 25 (bz l)) (1-(ab (bz l).calls i).ao) lO om) (az (.t rfl) (az (.t rfl) aI))) ?_;refine cB ?_;refine .o (gS (i:=0) ky jQ .tt .c (λ_=>by omega)) ?_;refine dD ?_;refine .o (bT (Vs kR) (az .r (az .tt (az .tt aI)))) ?_;refine dD ?_;refine aY.alloc 2 rfl rfl bQ dO ?_;refine aY.q7 2 rfl bQ rfl .tt rfl rfl ?_;refine bJ ?_;refine .nil ?_;intro I a w U;obtain⟨ma,U⟩:=U.oL (d:=11) 2 rfl rfl;obtain⟨I,U⟩:=U.fb 2 11;refine OA λI a w U=>?_;refine U.q .F (.cl (FP v)) λU=>?_;refine aF λI a w U=>?_;refine U.cd (λaP=>?_) λaP=>?_
  .exfalso;rw[GA,Ck] at aP;simp at aP;skip
  refine aR λI a w U=>?_;have U:=U.drop 0;exact U.ag (i+1) (by show i+1<=_;omega)
 refine zt ?_;refine bh ?_;rfl
end Go.Proofs.YtdanidpleofjgaaGreat

/- Part 21: contracts of functions, plain facts. -/
import Derived.Test.YtldbakcpcfdlaaaGreatP24
set_option linter.all false
set_option maxRecDepth 100000
set_option maxHeartbeats 4000000
namespace Go.Proofs.YtldbakcpcfdlaaaGreat
open Go Go.RowKit Tryz
attribute [local irreducible] wpList Code.wp Ok
def bE.put {s:Server} (h:bE s) {v:aJ} (hc:iv s.ar v=true) (U:cv v.aw.site=cv s.site) (bJ:eY s v.key≠0) (hl:s.aE.length<80):bE {s with ar:=fF s.ar v,aE:=eN s.aE v.bD}:=by
 obtain⟨h1,h2,h3⟩:=uP hc;have hp:=kT h1;refine⟨h.site,h.aQ,B0 h.ar h1 h2 h3,h.waits,OA h.aE (by simp only[kt,Bool.and_eq_true];exact⟨hp.1,hp.2.1⟩) hl,h.bq,h.up,h.cX,λx hx=>?_,h.oe,h.og,λw hw x hx=>?_,λd hd=>?_⟩
 .rcases mS.1 hx with rfl|hx
  .exact bJ
  exact h.here x hx
 .rcases mS.1 hx with rfl|hx
  .intro e;have:=h.og w hw;have e2:w.aw=x.aw:=by have:=congrArg ao.aw e;exact this.symm
   rw[e2] at this;exact this U
  exact h.apart w hw x hx
 rcases Zd.1 hd with rfl|hd
 .exact⟨v,mS.2 (.inl rfl),rfl⟩
 exact LC (h.oh d hd)
structure eB (q:Call) (t:Int):Prop where
 aB:fC q.aB=true
 num:1<=q.num/\q.num<=99
 keys:iz q=true
 val:0<=q.val/\q.val<=9999
 ctx:ck q.ctx=true
 aO:ck q.aO=true
 bw:1<=q.bw/\q.bw<=t
 fits:kr q.aw=true
 has:∀a∈q.au,gJ q.keys a.key=true
 sorted:q.au.Pairwise λa b=>gm a b=true
 cX:∀a∈q.au,eh a=true
 xr:∀d∈q.aO,rW q d=true
 full:q.aO=[]\/q.au.length=q.keys.length
 put:q.kind=1->q.au=[]/\q.aO=[]
 read:q.kind≠1->q.val=0/\eH q.aw=true
 open_:q.end_=0->eH q.aw=true
 ended:q.end_≠0->q.over=false/\(q.bw+1<=q.end_/\q.end_<=t)/\q.aO=[]/\(q.kind=1->eH q.aw=false)/\(q.kind≠1->q.au.length=q.keys.length)
def qS {q:Call} {t:Int}:fK q t=true↔eB q t:=by
 have e1:(dh q.aO.length (pz q))=true↔∀d∈q.aO,rW q d=true:=by
  have e:pz q=λi=>rW q (ae q.aO i):=by funext i;rfl
  rw[e];exact zD
 have e2:(((q.aO.length:Int)==0)||oG q)=true↔q.aO=[]\/q.au.length=q.keys.length:=by
  unfold oG;rw[Bool.or_eq_true,beq_iff_eq,beq_iff_eq];constructor
  .rintro(h|h)
   .exact .inl (List.length_eq_zero_iff.1 om)
   exact .inr om
  rintro(h|h)
  .exact .inl (by rw[h];rfl)
  exact .inr om
 have e3:w7 q=true↔(q.kind=1->q.au=[]/\q.aO=[])/\(q.kind≠1->q.val=0/\eH q.aw=true):=by
  unfold w7;rw[Np];by_cases hk:q.kind=1
  .simp[hk]
  simp[hk]
 have e4:nQ q t=true↔(q.end_=0->eH q.aw=true)/\(q.end_≠0->q.over=false/\(q.bw+1<=q.end_/\q.end_<=t)/\q.aO=[]/\(q.kind=1->eH q.aw=false)/\(q.kind≠1->q.au.length=q.keys.length)):=by
  unfold nQ;by_cases he:q.end_=0
  .simp[he]
  rw[if_neg he,LU];unfold oG aS;by_cases hk:q.kind=1
  .simp[hk,he,and_assoc]
  simp[hk,he,and_assoc];omega
 unfold fK lR oN;simp only[Bool.and_eq_true];rw[Om,e1,e2,e3,e4];constructor
 .rintro⟨⟨⟨⟨⟨⟨⟨⟨⟨⟨a1,a2⟩,a3⟩,a4⟩,a5⟩,a6⟩,a7⟩,a8⟩,⟨⟨a9,nD,rO⟩,z0⟩,z1⟩,ZH,ZI⟩,ZJ,ZK⟩;simp only[aS,Bool.and_eq_true,decide_eq_true_eq] at a2 a4 a7;exact⟨a1,a2,a3,a4,a5,a6,a7,a8,a9,nD,rO,z0,z1,ZH,ZI,ZJ,ZK⟩
 intro h;simp only[aS,Bool.and_eq_true,decide_eq_true_eq];exact⟨⟨⟨⟨⟨⟨⟨⟨⟨⟨h.aB,h.num⟩,h.keys⟩,h.val⟩,h.ctx⟩,h.aO⟩,h.bw⟩,h.fits⟩,⟨⟨h.has,h.sorted,h.cX⟩,h.xr⟩,h.full⟩,h.put,h.read⟩,h.open_,h.ended⟩
def eB.later {q:Call} {t t':Int} (h:eB q t) (ht:t<=t'):eB q t':=qS.1 (Yh (qS.2 h) ht)
def ZL {q:Call} {t:Int} (h:eB q t):∀m∈asks q,(m.kind=1\/m.kind=3)/\dp m.key=true/\kr m.aw=true/\(0<=m.val/\m.val<=9999)/\ck m.aK=true/\m.slot=0/\m.bX=0/\m.ar=[]/\m.waits=[]/\m.aE=[]:=by
 have hk:kf q.keys=true:=by have:=h.keys;simp only[iz,Bool.and_eq_true] at this;exact this.1
 unfold asks;split
 .intro m hm;obtain rfl:m=_:=by simpa using hm
  have h1:q.keys.length=1:=by
   have:=h.keys;rename_i e;simp[iz,e] at this;omega
  exact⟨.inl rfl,w8 hk (bK om),Af,h.val,h.ctx,rfl,rfl,rfl,rfl,rfl⟩
 intro m hm;rcases List.mem_append.1 hm with hm|hm
 .obtain⟨k,ZM,rfl⟩:=List.mem_map.1 hm;exact⟨.inr rfl,w8 hk (rN ZM),Af,⟨by simp[cg],by simp[cg]⟩,qI,rfl,rfl,rfl,rfl,rfl⟩
 obtain⟨d,hd,rfl⟩:=List.mem_map.1 hm;have:=pK h.aO hd;simp only[kh,Bool.and_eq_true] at this;exact⟨.inr rfl,this.1,Ae this.2,⟨by simp[cg],by simp[cg]⟩,qI,rfl,rfl,rfl,rfl,rfl⟩
def O4 {q:Call} {t:Int} (h:eB q t):∀m∈jF q,bY m=true:=by
 unfold jF;split
 .intro m hm;obtain⟨ws,h1,h2⟩:=List.mem_flatten.1 hm;obtain⟨x,hx,rfl⟩:=List.mem_map.1 h1;obtain⟨a1,a2,a3,a4,a5,a6,a7,a8,a9,nD⟩:=ZL h x hx;have hc:=tg.1 h.aB;have key:∀n:Int,de n=true->bY {x with bj:=10+q.aB,to:=n,call:=q.num}=true:=λn hn=>
   sd (by show 1<=x.kind/\x.kind<=10;omega) (V6 h.aB) (oH hn) ⟨by have:=h.num;show 0<=q.num;omega,h.num.2⟩ a2 a3 a4 a5 (by show 0<=x.slot/\x.slot<=2;omega) (by show 0<=x.bX/\x.bX<=9999;omega)
    (by show cD x.ar=true;rw[a8];rfl) (by show cD x.waits=true;rw[a9];rfl) (by show fU x.aE=true;rw[nD];rfl)
  unfold jB at h2;rcases List.mem_cons.1 h2 with rfl|h2
  .exact key _ (mu.2 om)
  obtain rfl:m=_:=by simpa using h2
  exact key _ (mu.2 om)
 intro m hm;simp at hm
def ZN {q:Call} {t:Int} (h:eB q t) {key:Int} (hk:gJ q.keys key=true):0<=key/\key<=5:=by
 have hu:kf q.keys=true:=by have:=h.keys;simp only[iz,Bool.and_eq_true] at this;exact this.1
 exact LP.1 (w8 hu (Ab.1 hk))
def HC {q:Call} {t:Int} (h:eB q t) {key:Int} (hk:gJ q.keys key=true) (hn:cQ q key<0):q.aO=[]/\q.au.length<q.keys.length:=by
 have hu:kf q.keys=true:=by have:=h.keys;simp only[iz,Bool.and_eq_true] at this;exact this.1
 have bW:q.au.length<q.keys.length:=by
  apply Nat.lt_of_not_le;intro hle;have bH:∀a∈q.au,a.key≠key:=λa ha e=>by
   have:=Cj (q:=q) (key:=key).2 ⟨a,ha,e⟩;omega
  have U:((dF q.au {(default:Answer) with key:=key}).map Answer.key).Pairwise (·<·):=by
   rw[List.pairwise_map];refine(Gh h.sorted λx hx=>bH x hx).imp λhl=>?_;unfold gm at hl;rwa[decide_eq_true_eq] at hl
  have:=B4 (ON hu) U λa ha=>by
   rcases uQ.1 ha with rfl|ha
   .exact Ab.1 hk
   exact Ab.1 (h.has a ha)
  rw[uR] at this;omega
 exact⟨h.full.resolve_right om,bW⟩
def eB.ov {q:Call} {t:Int} (h:eB q t) (hw:hX q=true) (hb:q.bw<t) (hk:q.kind≠1) {a:Answer} (ha:eh a=true) (hy:a.yes=true):eB (ov q a t) t:=by
 obtain⟨he,ho⟩:=w3 hw;have bJ:eH q.aw=true:=h.open_ he;unfold Go.Proofs.YtldbakcpcfdlaaaGreat.ov;split
 .rename_i hm;have Be:=(Ai ha hy).2;have HD:=h.xr _ hm;have h0:0<=cQ q a.key:=by
   unfold rW at HD;rw[Bool.and_eq_true,decide_eq_true_eq,Be] at HD;exact HD.1
  obtain⟨h1,h2⟩:=xn h0;have hlen:(q.au.set (cQ q a.key).toNat a).length=q.au.length:=List.length_set ..;have O5:q.au.length=q.keys.length:=h.full.resolve_left λe=>by rw[e] at hm;simp at hm
  have tK:∀x∈q.au.set (cQ q a.key).toNat a,eh x=true:=λx hx=>by
   rcases L4 hx with rfl|⟨k,ek,_,rfl⟩
   .exact ha
   exact h.cX _ (bK ek)
  have vp:∀x∈q.au.set (cQ q a.key).toNat a,gJ q.keys x.key=true:=λx hx=>by
   rcases L4 hx with rfl|⟨k,ek,_,rfl⟩
   .have:=h.has _ (bK h1);rwa[h2] at this
   exact h.has _ (bK ek)
  have ZO:(q.au.set (cQ q a.key).toNat a).map Answer.key=q.au.map Answer.key:=by
   rw[List.map_set];apply List.ext_getElem
   .simp
   intro n Xh vI;by_cases e:(cQ q a.key).toNat=n
   .subst e;rw[List.getElem_set_self,List.getElem_map];exact h2.symm.trans (by simp[ae,h1])
   rw[List.getElem_set_ne e]
  have sq:(q.au.set (cQ q a.key).toNat a).Pairwise λa b=>gm a b=true:=by
   have e:∀l:List Answer,(l.Pairwise λa b=>gm a b=true)↔(l.map Answer.key).Pairwise (·<·):=λl=>by
    rw[List.pairwise_map];constructor<;>intro hh<;>refine hh.imp λhl=>?_
    .unfold gm at hl;rwa[decide_eq_true_eq] at hl
    unfold gm;rwa[decide_eq_true_eq]
   rw[e,ZO,<-e];exact h.sorted
  have De:∀d∈q.aO.filter (λd=>decide (d≠a.bl.bD)),rW {q with au:=q.au.set (cQ q a.key).toNat a,aO:=q.aO.filter λd=>decide (d≠a.bl.bD)} d=true:=λd hd=>by
   obtain⟨C7,Av⟩:=List.mem_filter.1 hd;rw[decide_eq_true_eq] at Av;have ZP:d.key≠a.key:=λe=>Av (M8 h.aO C7 hm (by rw[e,Be]));obtain⟨x,hx,vq,tC⟩:=(Hc h.sorted).1 (h.xr d C7);obtain⟨k,ek,rfl⟩:=iq hx;refine(Hc sq).2 ⟨ae q.au k,Vm ek λe=>?_,vq,tC⟩;subst e;rw[h2] at vq;exact ZP vq.symm
  have dG:ck (q.aO.filter λd=>decide (d≠a.bl.bD))=true:=My _ h.aO;dsimp only;split
  .rename_i hz;exact⟨h.aB,h.num,h.keys,h.val,h.ctx,dG,h.bw,h.fits,vp,sq,tK,De,.inl hz,λe=>absurd e hk,h.read,λ_=>bJ,
    λ_=>⟨ho,⟨by show q.bw+1<=t;omega,Int.le_refl _⟩,hz,λe=>absurd e hk,λ_=>by show(q.au.set _ _).length=_;rw[hlen];exact O5⟩⟩
  exact⟨h.aB,h.num,h.keys,h.val,h.ctx,dG,h.bw,h.fits,vp,sq,tK,De,.inr (by show(q.au.set _ _).length=_;rw[hlen];exact O5),λe=>absurd e hk,h.read,h.open_,λe=>absurd he e⟩
 exact h
def vr {l:List Call} {t:Int}:iX l t=true↔l.length<=20/\∀i,i<l.length->eB (ae l i) t/\(i=0\/(ae l (i-1)).bw<(ae l i).bw)/\(ae l i).num=gn l (i+1) (ae l i).aB/\∀j,j<i->lP (ae l j) (ae l i)=false:=by
 unfold iX my xm;rw[Bool.and_eq_true,jc,decide_eq_true_eq];constructor
 .rintro⟨h,hl⟩;refine⟨hl,λi hi=>?_⟩;have:=h i hi;simp only[Bool.and_eq_true,Bool.or_eq_true,decide_eq_true_eq,beq_iff_eq,jc] at this;exact⟨qS.1 this.1.1.1,this.1.1.2,this.1.2,λj hj=>by simpa using this.2 j hj⟩
 rintro⟨hl,h⟩;refine⟨λi hi=>?_,hl⟩;obtain⟨a1,a2,a3,a4⟩:=h i hi;simp only[Bool.and_eq_true,Bool.or_eq_true,decide_eq_true_eq,beq_iff_eq,jc];exact⟨⟨⟨qS.2 a1,a2⟩,a3⟩,λj hj=>by rw[a4 j hj];rfl⟩
def ZQ {l:List Call} {t t':Int} (h:iX l t=true) (ht:t<=t'):iX l t'=true:=by
 obtain⟨h1,h2⟩:=vr.1 h;exact vr.2 ⟨h1,λi hi=>⟨(h2 i hi).1.later ht,(h2 i hi).2⟩⟩
def ZR {l:List Call} {t:Int} (h:iX l t=true) {i:Nat} (hi:i<l.length) (hw:hX (ae l i)=true) {x:Call} (hx:eB x t) (h1:x.aB=(ae l i).aB) (h2:x.num=(ae l i).num) (h3:x.bw=(ae l i).bw):iX (l.set i x) t=true:=by
 obtain⟨he,ho⟩:=w3 hw;obtain⟨a,b⟩:=vr.1 h;have hb:∀j,(ae (l.set i x) j).bw=(ae l j).bw:=λj=>by rw[wT hi];split;subst_vars;exact h3;rfl
 have dV:∀j,(ae (l.set i x) j).aB=(ae l j).aB:=λj=>by rw[wT hi];split;subst_vars;exact h1;rfl
 have ZS:∀j,(ae (l.set i x) j).num=(ae l j).num:=λj=>by rw[wT hi];split;subst_vars;exact h2;rfl
 refine vr.2 ⟨by rw[List.length_set];exact a,λj hj=>?_⟩;rw[List.length_set] at hj;obtain⟨b1,b2,b3,b4⟩:=b j hj;refine⟨?_,by rw[hb,hb];exact b2,by rw[ZS,dV,Xg hi h1];exact b3,λk hk=>?_⟩
 .rw[wT hi];split
  .exact hx
  exact b1
 have hc:=b4 k hk;unfold lP at hc⊢;rw[dV,dV,hb];by_cases e:k=i
 .subst e;rw[he,ho] at hc;have:((ae l k).aB==(ae l j).aB)=false:=by simpa using hc
  rw[this];rfl
 rw[wT hi,if_neg e];exact hc
def cF.later {w:aM} (h:cF w):cF {w with time:=w.time+1}:=
 ⟨by have:=h.time;show 0<=w.time+1;omega,h.aF,h.site,h.aC,h.words,h.seen,h.pJ,ZQ h.calls (by show w.time<=w.time+1;omega)⟩
def cF.O6 {w:aM} (h:cF w) {i:Nat} (hi:i<w.calls.length) (hw:hX (ae w.calls i)=true) {x:Call} (hx:eB x w.time) (h1:x.aB=(ae w.calls i).aB) (h2:x.num=(ae w.calls i).num) (h3:x.bw=(ae w.calls i).bw):cF {w with calls:=w.calls.set i x}:=
 ⟨h.time,h.aF,h.site,h.aC,h.words,h.seen,h.pJ,ZR h.calls hi hw hx h1 h2 h3⟩
def cF.call {w:aM} (h:cF w) {i:Nat} (hi:i<w.calls.length):eB (ae w.calls i) w.time:=((vr.1 h.calls).2 i hi).1
def Df (s:Server) (m:az):(!aS m.bj 10 11||decide (m.call<1)||!fR s m.key)=!(aS m.bj 10 11&&decide (1<=m.call)&&fR s m.key):=by
 have e:decide (m.call<1)=!decide (1<=m.call):=by rw[Bool.eq_iff_iff];simp
 rw[e];simp
def O7 (s:Server) (slot:Int) (h1:cD s.ar=true) (h2:cD s.waits=true) (h0:de s.site=true) (h3:s.aQ.length=3) (tI:0<=slot/\slot<3) (ho:s.aE.length<=80):
 Fn prog 317 [s.av,AV.int slot] ((gE s slot).av):=by
 refine Fn.go 63 func317 ntmps317 (λW I a U=>?_);have lens:s.aQ.length<=9223372036854775807/\s.ar.length<=9223372036854775807/\s.waits.length<=9223372036854775807/\s.aE.length<=9223372036854775807/\s.bq.length<=9223372036854775807:=⟨U.ln 0 2,U.ln 0 3,U.ln 0 4,U.ln 0 5,U.ln 0 6⟩;refine sr<|U.box rfl .tt λb2 I a w U=>U.alloc rfl cH dN λb4 I a w U=>?_;refine zt ?_;refine U.da 14 ?_;simp only[TD];refine ef ?_;refine .o (.c1 (xb _ h0)) ?_;refine ky ?_;refine .o (.bd SI (.k (.k (.k (.k (.k bf.nil)))))) ?_;refine fO.alloc cH dN<|.nil ?_;intro I a w U;obtain⟨b5,U⟩:=U.sQ (d:=5) rfl;refine al λI a w U=>?_;have U:=U.en (sz:=3) 125;refine aV λI a w U=>?_;refine U.o (.cl (C8 _ _ h1)) λU=>?_;refine lJ λI a w U=>?_;refine U.o (.cl (C8 _ _ h2)) λU=>?_;refine gy λI a w U=>?_;refine St.lo (σ:=Nat×Value) (6::(run 26 36 [])) ⟨λ⟨k,v⟩=>[(6,AV.int k)],λ⟨k,v⟩=>[Own.box b2 95 s.cells,Own.box b4 108 [AV.val (.int .i64 0),AV.val (.int .i64 0),AV.val (.int .i64 0),AV.val (.int .i64 0),AV.val (.int .i64 0),AV.val (.int .i64 0),AV.val (.int .i64 0),AV.val (.int .i64 0),AV.val (.bool false),AV.rows 3 [],AV.val (.int .i64 0),AV.val (.int .i64 0),AV.rows 7 [],AV.rows 7 [],AV.rows 3 []],Own.box b5 108 [AV.int (gE s slot).kind,AV.int (gE s slot).bj,AV.int (gE s slot).to,AV.int (gE s slot).call,AV.int (gE s slot).key,AV.int (gE s slot).aw.time,AV.int (gE s slot).aw.site,AV.int (gE s slot).val,AV.bool (gE s slot).yes,AV.val (.slice none 0 0),AV.int (gE s slot).slot,AV.int (gE s slot).bX,cm (gE s slot).ar,cm (gE s slot).waits,AV.val v],Own.row v 125 3 (((s.aE.take k).filter (gC slot)).map ao.cells)],λ⟨k,v⟩=>k<=s.aE.length⟩ (λ⟨k,v⟩=>s.aE.length-k) (0,.slice none 0 0) U ?aD ?bh;case aD=>exact Nat.zero_le _
 rintro⟨k,v⟩ I a w aj U;have hk:k<=s.aE.length:=aj;have jK:=qC (gC slot) s.aE k;dsimp only at U;refine bP λI a w U=>?_;refine cz (λab=>?_) λab=>?_
 .refine df λI a w U=>?_;refine U.o (.c1 (ta ..)) λU=>?_;refine ax λI a w U=>?_;refine U.cd (λah=>?_) λah=>?_
  .change(gC slot) (ae s.aE k)=true at ah;refine U.dt 8 ?_;simp only[TD];refine ky ?_;refine .o (.li [(ae s.aE k).cells] gM (.u .nil)) ?_;refine .nil ?_;intro I a w U;refine U.ap 3 λZT a w U=>?_;refine U.o .fv λU=>?_;try have ahm:=U.cU 3 rfl
   refine al λI a w U=>?_;rw[cA,<-mU (p:=(gC slot)) ab ah] at U;refine aI λI a w U=>?_;exact U.ag (k+1,ZT) (ab)
  change(gC slot) (ae s.aE k)=false at ah;refine aI λI a w U=>?_;rw[show(s.aE.take k).filter (gC slot)=(s.aE.take (k+1)).filter (gC slot) from(mV ab ah).symm] at U;exact U.ag (k+1,v) (ab)
 refine wp_exit<|bU<|bU<|eb<|ba<|wp_seq ?_;have U:=U.lX (q:=9) 2 rfl rfl (eQ 3 _);obtain⟨I,U⟩:=U.fu 3 14 2;refine ax λI a w U=>?_;refine U.ret rfl (.cons (.sx 1) aZ.nil) ?_;exact(by rw[show s.aE.take k=s.aE from List.take_of_length_le om];rfl)
def ZU {s:Server} {m:az} (h:(aS m.bj 10 11&&decide (1<=m.call)&&fR s m.key)=false):ie s m=(s,[]):=by unfold ie;rw[h];rfl
def O8 {s:Server} {m:az} (h:(aS m.bj 10 11&&decide (1<=m.call)&&fR s m.key)=true) (hv:(kV s m.key (m.bj-10) m.call).isSome=true):ie s m=(s,[mh s m ((kV s m.key (m.bj-10) m.call).getD default).aw]):=by
 obtain⟨v,hv⟩:=Option.isSome_iff_exists.1 hv;unfold ie;rw[h,hv];rfl
def HE {s:Server} {m:az} (h:(aS m.bj 10 11&&decide (1<=m.call)&&fR s m.key)=true) (hv:(kV s m.key (m.bj-10) m.call).isSome=false) (hf:(jj (jC s m)&&iv s.ar (gF s m)&&decide (s.aE.length<80))=false):ie s m=(s,[]):=by
 have hv:=zV (o:=kV s m.key (m.bj-10) m.call) (by rw[hv];rfl);unfold ie;rw[h,hv];dsimp only;rw[hf];rfl
def O9 {s:Server} {m:az} (h:(aS m.bj 10 11&&decide (1<=m.call)&&fR s m.key)=true) (hv:(kV s m.key (m.bj-10) m.call).isSome=false) (hf:(jj (jC s m)&&iv s.ar (gF s m)&&decide (s.aE.length<80))=true):
 ie s m=(g9 {s with ar:=fF s.ar (gF s m),aE:=eN s.aE (gF s m).bD},[mh s m (gF s m).aw]):=by
 have hv:=zV (o:=kV s m.key (m.bj-10) m.call) (by rw[hv];rfl);unfold ie;rw[h,hv];dsimp only;rw[hf];rfl
def ZV (q:Call) (m:az) {j:Nat} (hj:j<2):ae (jB q m) j={m with bj:=10+q.aB,to:=2*q.aB+(j:Int),call:=q.num}:=by
 match j,hj with
 |0,_=>show _={m with bj:=10+q.aB,to:=2*q.aB+(0:Int),call:=q.num};rw[Int.add_zero];rfl
 |1,_=>rfl
def Pa (q:Call) (m:az) {j:Nat} (hj:j<2):(jB q m).take j++[{m with bj:=10+q.aB,to:=2*q.aB+(j:Int),call:=q.num}]=(jB q m).take (j+1):=by
 rw[<-ZV q m hj,<-ep hj]
def HF (q:Call) (m:az) (hc:fC q.aB=true) (hm:iV m):
 Fn prog 306 [q.av,m.av] (dW (jB q m)):=by
 refine Fn.go 31 func306 ntmps306 (λW I a U=>?_);have dV:=tg.1 hc;refine aX λI a w U=>?_;refine U.box rfl .tt λb3 I a w U=>?_;refine al λI a w U=>?_;refine U.l0 λb7 I a w U=>?_;refine ax λI a w U=>?_;refine St.lo (σ:=Nat×Int×Int×Int×Value) (run 2 5 (run 22 8 [])) ⟨λ⟨j,f1,f2,f3,v⟩=>[(6,AV.int j),(5,AV.val v)],λ⟨j,f1,f2,f3,v⟩=>[Own.box b3 108 ({m with bj:=f1,to:=f2,call:=f3}:az).cells,Own.row v 108 15 (((jB q m).take j).map az.cells)],λ⟨j,f1,f2,f3,v⟩=>j<=2⟩ (λ⟨j,f1,f2,f3,v⟩=>2-j) (0,m.bj,m.to,m.call,.slice (some ⟨b7,0,none⟩) 0 0) U ?aD ?bh;case aD=>exact Nat.zero_le _
 rintro⟨j,f1,f2,f3,v⟩ I a w aj U;have hj:j<=2:=aj;dsimp only at U;refine ax λI a w U=>?_;refine cz (λab=>?_) λab=>?_
 .refine fm λI a w U=>?_;refine U.o (tW .c .tt (λ_=>by omega)) λU=>?_;refine qg λI a w U=>?_;refine U.o (.c1 (NI {m with bj:=10+q.aB,to:=2*q.aB+(j:Int),call:=q.num} hm)) λU=>?_;refine U.o (.li [({m with bj:=10+q.aB,to:=2*q.aB+(j:Int),call:=q.num}:az).cells] gj (.u .nil)) λU=>?_;refine U.append 1 rfl dC cH rfl .tt .r rfl (by simp[jB];omega) λtD a w U=>?_;rw[cA,Pa q m om] at U;refine aU λI a w U=>?_;exact U.ag (j+1,10+q.aB,2*q.aB+(j:Int),q.num,tD) (by show j+1<=2;omega)
 refine wp_exit<|bU<|bU<|eb<|ba<|wp_seq ?_;rw[List.take_of_length_le (by show 2<=j;omega)] at U;obtain⟨I,U⟩:=U.fr 1 5;refine cK ?_;rfl
def eB.Aw {q:Call} {t:Int} (h:eB q t) (ht:0<=t):0<=q.end_/\q.end_<=t:=by
 by_cases he:q.end_=0
 .omega
 have:=h.ended he;have:=h.bw;omega
def Pb {q:Call} {t:Int} (h:eB q t) (ht:0<=t):(!fK q q.bw||!hX q)=!hX q:=by
 cases hw:hX q
 .simp
 have he:=(w3 hw).1;have:=G8 (qS.2 h);rw[he,Int.add_zero] at this;rw[this];rfl
def Pc {q:Call} {a:Answer} {t:Int} {k:Nat} (h:q.aO.length<=k):ov q a t=if(ot q a k=[]/\q.aO≠[]) then{q with au:=oz q a k,aO:=ot q a k,end_:=t} else{q with au:=oz q a k,aO:=ot q a k}:=by
 unfold ov ot oz;rw[List.take_of_length_le h];by_cases hm:a.bl.bD∈q.aO
 .rw[if_pos hm,if_pos hm];have bH:q.aO≠[]:=λe=>by rw[e] at hm;simp at hm
  dsimp only;by_cases he:(q.aO.filter λd=>decide (d≠a.bl.bD))=[]
  .rw[if_pos he,if_pos ⟨he,bH⟩]
  rw[if_neg he,if_neg λhh=>he hh.1]
 rw[if_neg hm,if_neg hm];have hf:(q.aO.filter λd=>decide (d≠a.bl.bD))=q.aO:=by
  rw[List.filter_eq_self];intro d hd;simp;rintro rfl;exact hm hd
 rw[hf,if_neg λhh=>hh.2 hh.1]
def Pd (q:Call) (m:az) (t:Int) (he:0<=q.end_):(!bY m||(m.to !=10+q.aB)||(m.call !=q.num)||!gJ q.keys m.key||decide (0<q.end_)||q.over||decide (t<=q.bw))=
 !(bY m&&(m.to==10+q.aB)&&(m.call==q.num)&&gJ q.keys m.key&&hX q&&decide (q.bw<t)):=by
 have e1:decide (0<q.end_)=!(q.end_==0):=by rw[Bool.eq_iff_iff];simp;omega
 have e2:decide (t<=q.bw)=!decide (q.bw<t):=by rw[Bool.eq_iff_iff];simp
 unfold hX;rw[e1,e2];simp[bne,Bool.or_assoc]
def ZW {q:Call} {t:Int} (h:eB q t) {x:Answer} {k:Nat} (hk:k<q.aO.length) (he:ae q.aO k=x.bl.bD) (hx:x.bl.key=x.key):0<=cQ q x.key:=by
 have:=h.xr _ (bK hk);unfold rW at this;rw[Bool.and_eq_true,decide_eq_true_eq,he] at this;rw[<-hx];exact this.1
def Pe (q:Call) (m:az) (t:Int):(!hX q||decide (t<=q.bw)||!bY m||(m.to !=10+q.aB)||(m.call !=q.num)||!gJ q.keys m.key)=
 !(bY m&&(m.to==10+q.aB)&&(m.call==q.num)&&gJ q.keys m.key&&hX q&&decide (q.bw<t)):=by
 have e2:decide (t<=q.bw)=!decide (q.bw<t):=by rw[Bool.eq_iff_iff];simp
 rw[e2,Bool.eq_iff_iff];cases hX q<;>cases bY m<;>cases decide (q.bw<t)<;>cases gJ q.keys m.key<;>simp[bne]
def ZX {q:Call} {t0:Int} (h:eB q t0) {a:Answer} (hk:a.bl.bD∈q.aO) (he:a.bl.key=a.key):q.aO.filter (λd=>!decide (d.key=a.key))=q.aO.filter λd=>decide (d≠a.bl.bD):=by
 apply List.filter_congr;intro d hd;by_cases e:d.key=a.key
 .have:d=a.bl.bD:=M8 h.aO hd hk (e.trans he.symm);rw[decide_eq_true e,this];simp
 rw[decide_eq_false e];have:d≠a.bl.bD:=λe2=>e (by rw[e2];exact he);rw[decide_eq_true this];rfl
def Pf {q:Call} {m:az} {t t0:Int} (h:eB q t0) (hm:eh (dZ m)=true) (hv:m.kind=4/\(m.yes=true->m.ar.length=1/\(ae m.ar 0).key=m.key)) (hb:(decide (0<=cQ q m.key)&&m.yes&&decide (0<=gB q.aO (dZ m).bl.bD))=true):
 jW q m t=if(q.aO.filter λd=>!decide (d.key=m.key))=[] then{q with au:=q.au.set (cQ q m.key).toNat (dZ m),aO:=q.aO.filter (λd=>!decide (d.key=m.key)),end_:=t} else{q with au:=q.au.set (cQ q m.key).toNat (dZ m),aO:=q.aO.filter λd=>!decide (d.key=m.key)}:=by
 simp only[Bool.and_eq_true,decide_eq_true_eq] at hb;obtain⟨⟨h1,h2⟩,h3⟩:=hb;have sL:=wZ.1 h3;have hk:(dZ m).bl.key=(dZ m).key:=(tl hm h2).2;rw[show(λd:ao=>!decide (d.key=m.key))=λd=>!decide (d.key=(dZ m).key) from rfl,ZX h sL hk];unfold jW;rw[if_pos hv,if_neg om,if_pos h2];unfold ov;rw[if_pos sL];rfl
def ZY {q:Call} {m:az} {t:Int} (hv:m.kind=4/\(m.yes=true->m.ar.length=1/\(ae m.ar 0).key=m.key)) (hb:(decide (cQ q m.key<0)&&eH m.aw)=false) (ah:(decide (0<=cQ q m.key)&&m.yes&&decide (0<=gB q.aO (dZ m).bl.bD))=false):jW q m t=q:=by
 unfold jW;rw[if_pos hv];by_cases hg:cQ q m.key<0
 .rw[decide_eq_true hg,Bool.true_and] at hb;rw[if_pos hg,if_neg (by rw[hb];simp)]
 rw[if_neg hg];split
 .rename_i hy;rw[decide_eq_true om,hy,Bool.true_and,Bool.true_and,decide_eq_false_iff_not,wZ] at ah;unfold ov;rw[if_neg ah]
 rfl
def Pg (l:List aJ) (key:Int) (hd:∀v∈l,v.aK.length<=1048576):Fn prog 82 [cm l,.int key] (.c8 [((gD l key).getD default).av,.bool (gD l key).isSome]):=by
 refine⟨oX.of func82 rfl aq,λI0 w0 vs hm ha=>(callsIn_wide (n:=3)).1 ?_⟩;refine Us (F:=j2) 19 func82 rfl ntmps82 rfl hm ha λa U=>?_;have hQ:∀a w',¬bodyPostM Fence.wide 3 prog f82 (vH I0 w0 (.c8 [((gD l key).getD default).av,.bool (gD l key).isSome])) .outgrown a w':=λa w' h=>h;refine wpIn_seq (wG (by exact hQ) rfl ?_);refine U.o (vM .tt (by first|exact cL rfl|exact cN|exact cO|exact cP)) λU=>?_;refine U.alloc rfl bI dY λb4 I a w U=>?_;refine U.alloc rfl rA Sn λb5 I a w U=>?_;refine nn (wpIn_seq (wpIn_seq (wG (by exact hQ) rfl ?_)));refine aX λI a w U=>?_;refine U.o (.c1 (Vy l)) λ{I1 a1 w1} U=>nn ?_;refine wpIn_block ?_;obtain⟨p,ZZ,hp⟩:∃p,a1.eval (.tmp 9)=.func (.func 240) #[] #[p]/\(AV.ptr [cm l]).h I1 p:=by
  obtain⟨cs,e,h⟩:=U.env 9 _ rfl;obtain⟨cs⟩:=cs;match cs,h with
  |[p],h=>exact⟨p,e,h.1⟩
 have HG:=U;have U:=U.re;obtain⟨H1,tL⟩:∃H1,H1=[Own.box b4 54 [AV.val (.int .i64 0),AV.val (.int .i64 0),AV.val (.int .i64 0),AV.val (.int .i64 0),AV.val (.int .i64 0),AV.val (.int .i64 0),AV.rows 3 []],Own.box b5 4 [AV.bool false]]:=⟨_,rfl⟩;have ab:boxes H1:=λo ho=>by
  rw[tL] at ho;rcases List.mem_cons.1 ho with rfl|ho
  .exact⟨_,_,_,rfl⟩
  rcases List.mem_cons.1 ho with rfl|ho
  .exact⟨_,_,_,rfl⟩
  cases ho
 have Ph:∀u v,boxes [Own.box b4 54 u,Own.box b5 4 v]:=λu v o ho=>by
  rcases List.mem_cons.1 ho with rfl|ho
  .exact⟨_,_,_,rfl⟩
  rcases List.mem_cons.1 ho with rfl|ho
  .exact⟨_,_,_,rfl⟩
  cases ho
 have U:St ⟨w1,I1,19,dS H1⟩ I1 H1 [(5,.val (.pointer (some ⟨b5,0,none⟩))),(4,.val (.pointer (some ⟨b4,0,none⟩))),(3,.ptr [.int key])] a1 w1:=by
  rw[tL];exact U.pick _
 have bW:∀b,dS H1 b->b<w1.heap.size/\I1 b=none:=λb h=>by
  obtain⟨o,ho,e⟩:=rn.1 h;exact⟨((U.own.all o ho).2 b e).2.2,((U.own.all o ho).2 b e).2.1⟩
 have yC:=U;have l8:St _ I1 H1 [(5,.val (.pointer (some ⟨b5,0,none⟩))),(4,.val (.pointer (some ⟨b4,0,none⟩)))] a1 w1:=(HG.pick _).wI (by rw[tL];rfl);have fin:∀{D:Nat} {W:World} {a2 a3:Act} {I:Im} {u:List AV} {b:Bool} {Γ:Env},w1.heap.size<=D->St ⟨w1,I1,19,dS H1⟩ I [Own.box b4 54 u,Own.box b5 4 [.bool b]] ((5,.val (.pointer (some ⟨b5,0,none⟩)))::(4,.val (.pointer (some ⟨b4,0,none⟩)))::Γ) a2 W->W.heap[D]?=some (.deferred (some []))->u.length=7->AV.c8 [.agg u,.bool b]=.c8 [((gD l key).getD default).av,.bool (gD l key).isSome]->
  a3.tmps=a2.tmps->a3.defers=[{target:=.collected D,args:=#[]}]->bodyPostM Fence.wide 3 prog f82 (vH I0 w0 (.c8 [((gD l key).getD default).av,.bool (gD l key).isSome])) .ret a3 W:=λ{D W a2 a3 I u b Γ} hD hi hK hu he h1 h2=>by
  show LeavesInM _ _ _ _ a3.tmps _ a3.defers _ _;rw[h1,h2];exact(l8.un hi).leave (Ph _ _) (Nat.le_trans l8.step.below.size hD) hK rfl rfl (.cons (.s 0 bI rfl rfl hu) (.cons (.cc 1 rA rfl rfl) aZ.nil)) he
 refine wpIn_rangeFunc_ownH (n:=3) rfl bA ZZ trivial (oX.of func240 rfl aq) (ZA l 2 bA I1 w1 U.step.c9 (λb=>w1.heap.size<=b\/dS H1 b) (λb cs e h=>h.elim (λh=>by have:=U.step.c9.lt e;omega) λh=>by rw[(bW b h).2] at e;cases e) p hp)
  (λh k=>h.trans k) (λW l o o' h _ _ _=>Uv (λb h=>.inl h) W l o' h) (Below.refl _ _) (λ_=>rfl)
  (λpre W=>(∀x∈pre,r5 key (ae l x.1.1)=false)/\∃I,St ⟨w1,I1,19,dS H1⟩ I H1 [(5,.val (.pointer (some ⟨b5,0,none⟩))),(4,.val (.pointer (some ⟨b4,0,none⟩))),(3,.ptr [.int key])] a1 W)
  (λc (pre:List (sf l I1)) W=>c=.ret/\∃(x:sf l I1) (q:List (sf l I1)),pre=q++[x]/\(∀y∈q,r5 key (ae l y.1.1)=false)/\r5 key (ae l x.1.1)=true/\∃I,St ⟨w1,I1,19,dS H1⟩ I [Own.box b4 54 (ae l x.1.1).cells,Own.box b5 4 [AV.bool true]] [(5,.val (.pointer (some ⟨b5,0,none⟩))),(4,.val (.pointer (some ⟨b4,0,none⟩))),(3,.ptr [.int key])] a1 W)
  (λs A B row h hg hr=>⟨h.1,h.2.imp λI k=>k.BQ ab hg hr⟩)
  (λc s A B row h hg hr=>by obtain⟨h0,x,q,e,h1,h2,I,k⟩:=h;exact⟨h0,x,q,e,h1,h2,I,k.BQ (Ph _ _) hg hr⟩)
  ⟨λx h=>(by cases h),I1,U⟩
  (λx a' W=>∃I b7,St ⟨w1,I1,19,dS H1⟩ I (H1++[Own.box b7 54 (ae l x.1.1).cells]) [(7,.val (.pointer (some ⟨b7,0,none⟩))),(5,.val (.pointer (some ⟨b5,0,none⟩))),(4,.val (.pointer (some ⟨b4,0,none⟩))),(3,.ptr [.int key])] a' W)
  (λx a' s A B row h hg hr=>h.imp λI k=>k.imp λb7 k=>k.BQ (λo ho=>(List.mem_append.1 ho).elim (ab o) λho=>⟨_,_,_,List.mem_singleton.1 ho⟩) hg hr)
  ?assign ?body ?done ?stop
 case assign=>
  rintro l1 pre x W K ⟨ob,I,hi⟩ hK;have hr:=hi.re;have e:({tmps:=(((#[10,11]:Array Nat).zip #[Value.int .i64 x.1.1,x.1.2]).foldl (λt (p,v)=>t.setIfInBounds p v) a1.tmps),defers:=[]}:Act)=(a1.put (some 10) (.int .i64 x.1.1)).put (some 11) x.1.2:=by
   have:=hi.defers;cases a1;simp at this;subst this;simp[Act.put]
  have U:=(hr.BP (d:=10) (x:=.int x.1.1) (v:=.int .i64 x.1.1) (show 10<19 from by decide) rfl).BP (d:=11) (x:=(ae l x.1.1).av) (v:=x.1.2) (show 11<19 from by decide) ((ae l x.1.1).av.up _ _ _ hi.step.le x.2.2);rw[<-e] at U;have U:=U.wI tL;refine FO (by exactλ_ _ h=>h) rfl ?_;refine U.alloc rfl bI dY λb7 I2 a w U=>?_;refine aX λI2 a w U=>?_;have U:St _ I2 (H1++[Own.box b7 54 (ae l x.1.1).cells]) [(7,.val (.pointer (some ⟨b7,0,none⟩))),(5,.val (.pointer (some ⟨b5,0,none⟩))),(4,.val (.pointer (some ⟨b4,0,none⟩))),(3,.ptr [.int key])] a w:=(U.pick _).wI (by rw[tL];rfl);have hu:=hi.un U;refine wpList_nil (ba ?_);exact hK _ _ ((U.keeps hi.own ab).from _) (hi.Lq U) ⟨ob,_,yC.back hu hu.step.le⟩ ⟨_,_,hu⟩
 case body=>
  rintro l1 pre x a' W hl _ ⟨ob,_⟩ ⟨I,b7,hi⟩ hlen;have ai:boxes (H1++[Own.box b7 54 (ae l x.1.1).cells]):=λo ho=>(List.mem_append.1 ho).elim (ab o) λho=>⟨_,_,_,List.mem_singleton.1 ho⟩;have U:=hi.re.wI (H':=[Own.box b4 54 [AV.val (.int .i64 0),AV.val (.int .i64 0),AV.val (.int .i64 0),AV.val (.int .i64 0),AV.val (.int .i64 0),AV.val (.int .i64 0),AV.rows 3 []],Own.box b5 4 [AV.bool false],Own.box b7 54 (ae l x.1.1).cells]) (by rw[tL];rfl);refine wpIn_block (wpIn_seq (FO (by exactλ_ _ h=>h) rfl ?_));refine aR λI2 a w U=>?_;refine nn ?_;refine wpIn_cond_split (U.env 15 _ rfl) (λhb=>?_) (λhb=>?_)
  .refine wpIn_seq (FO (by exactλ_ _ h=>h) rfl ?_);refine aX λI2 a w U=>?_;refine U.o (.c1 (uI _ (hd _ (bK x.2.1)))) λU=>?_;refine aA λI2 a w U=>?_;refine nn (wpIn_ret (tY ?_));have U:St _ I2 ([Own.box b4 54 (ae l x.1.1).cells,Own.box b5 4 [.bool true]]++[Own.box b7 54 (ae l x.1.1).cells]) [(3,.ptr [.int key])] a w:=U.pick _;have hu:=hi.un U;exact⟨(U.keeps hi.own ai).from _,rfl,x,pre,rfl,ob,hb,_,yC.back hu hu.step.le⟩
  refine wpIn_skip (yj ?_);have U:St _ I2 (H1++[Own.box b7 54 (ae l x.1.1).cells]) [(3,.ptr [.int key])] a w:=(U.pick _).wI (by rw[tL];rfl);have hu:=hi.un U;exact⟨(U.keeps hi.own ai).from _,hi.Lq U,λy hy=>(List.mem_append.1 hy).elim (ob y) λhy=>by rw[List.mem_singleton.1 hy];exact hb,_,yC.back hu hu.step.le⟩
 case done=>
  rintro D xs W hD ⟨hlen,qc⟩ ⟨ob,I,hi⟩ hK;have HH:gD l key=none:=M2 λi hi=>by
   have hj:l.length-1-i<xs.length:=by omega
   have:=qc _ _ (List.getElem?_eq_getElem hj);have h2:=ob _ (List.getElem_mem hj);rw[show i=xs[l.length-1-i].1.1 from by omega];exact h2
  refine yj (ba (wpIn_seq (wG (by exact hQ) rfl ?_)));have e:({a1 with defers:={target:=.collected D,args:=#[]}::a1.defers}:Act)=Act.defer a1 [{target:=.collected D,args:=#[]}]:=by simp[Act.defer,hi.defers]
  rw[e];have U:=hi.re.wI tL;refine Ll (Q:=Exit.then (λa' W'=>∃I',St ⟨W,I,19,dS H1⟩ I' [Own.box b4 54 [AV.val (.int .i64 0),AV.val (.int .i64 0),AV.val (.int .i64 0),AV.val (.int .i64 0),AV.val (.int .i64 0),AV.val (.int .i64 0),AV.rows 3 []],Own.box b5 4 [.bool false]] [(5,.val (.pointer (some ⟨b5,0,none⟩))),(4,.val (.pointer (some ⟨b4,0,none⟩)))] a' W') (λ_ _ _=>False)) _ (λe a' W' h=>?_) _ _ _ ?_
  .cases e with
   |normal=>
    obtain⟨I',h⟩:=h
    refine ba (wpIn_ret ?_)
    exact fin hD (hi.un h) ((h.keeps hi.own ab).same D _ hK rfl) rfl (by rw[HH];rfl) rfl (by simp[Act.defer,h.defers])
   |_=>exact h.elim
  refine U.o (.bd dY bf.nil) λU=>?_;refine aA λI2 a w U=>?_;exact wpList_nil (ba ⟨_,U.pick _⟩)
 rintro D c pre W hD Pj ⟨rfl,x,q,rfl,hq,jf,I,hi⟩ hK;have hx:x.1.1+1+q.length=l.length:=Pj q.length x be;have HH:gD l key=some (ae l x.1.1):=M1 x.2.1 (λi h1 h2=>by
  have hj:l.length-1-i<q.length:=by omega
  have:=Pj (l.length-1-i) q[l.length-1-i] (by rw[List.getElem?_append_left hj,List.getElem?_eq_getElem hj]);have h3:=hq _ (List.getElem_mem hj);rw[show i=q[l.length-1-i].1.1 from by omega];exact h3) jf
 refine wpIn_ret (tY (vJ ?_));exact fin hD hi hK rfl (by rw[HH];rfl) rfl (by simp[hi.defers])
def Pk {s:Server} {m:az} {y:Bool} {v:aJ} (h:v.aK.length<=1048576):iV ⟨4,0,0,m.call,m.key,m.aw,0,y,[],0,0,[v],[],[]⟩:=⟨Nat.zero_le _,⟨by simp,λx hx=>by obtain rfl:=List.mem_singleton.1 hx;exact h⟩,⟨Nat.zero_le _,λ_ h=>by cases h⟩,Nat.zero_le _⟩
def Pm (s:Server) (m:az) (v:aJ):(v.key==m.key&&v.aB==m.bj-10&&v.call==m.call&&!(cv v.aw.site !=cv s.site))=pF s m.key (m.bj-10) m.call v:=by unfold pF;simp[bne]
def Pn {s:Server} {m:az} {k:Nat} (hk:k<s.ar.length) (h:∀i,i<k->pF s m.key (m.bj-10) m.call (ae s.ar i)=false) (hp:pF s m.key (m.bj-10) m.call (ae s.ar k)=true):kV s m.key (m.bj-10) m.call=some (ae s.ar k):=Ms hk h hp
def HI {s:Server} {m:az} {k:Nat} (hk:s.ar.length<=k) (h:∀i,i<k->pF s m.key (m.bj-10) m.call (ae s.ar i)=false):(kV s m.key (m.bj-10) m.call).isSome=false:=by unfold kV;rw[L1 hk h];rfl
def Dg {s:Server} {m:az} {k:Int} (h:(m.kind==k&&fC (m.bj-10)&&decide (0<m.call)&&fR s m.key)=true):m.kind=k/\(aS m.bj 10 11&&decide (1<=m.call)&&fR s m.key)=true:=by
 rw[Md] at h;simp only[Bool.and_eq_true,beq_iff_eq,decide_eq_true_eq] at h⊢;exact⟨h.1.1.1,⟨h.1.1.2,by omega⟩,h.2⟩
def Po {s:Server} {m:az} {k:Int} (h:(m.kind==k&&fC (m.bj-10)&&decide (0<m.call)&&fR s m.key)=false) (hk:m.kind=k):(aS m.bj 10 11&&decide (1<=m.call)&&fR s m.key)=false:=by
 rw[Md,hk] at h;simp only[beq_self_eq_true,Bool.true_and] at h;rw[show decide (1<=m.call)=decide (0<m.call) from by rw[Bool.eq_iff_iff];simp;omega];exact h
def Dh {e:Ev} (h:((e.call==2)&&decide (e.a<e.b))=false):mZ e=[e.a]:=by
 unfold mZ;rw[if_neg];simpa using h
def Di {e:Ev} (h:((e.call==2)&&decide (e.a<e.b))=true) (h2:¬e.b<e.c):mZ e=[e.a,e.b]:=by
 unfold mZ;rw[if_pos (by simpa using h),if_neg h2]
def Dj {e:Ev} (h:((e.call==2)&&decide (e.a<e.b))=true) (h2:e.b<e.c):mZ e=[e.a,e.b,e.c]:=by
 unfold mZ;rw[if_pos (by simpa using h),if_pos h2]
def Z0 (e:Ev):
 Fn prog 305 [e.av] (fM (mZ e)):=by
 refine Fn.go 33 func305 ntmps305 (λW I a U=>?_);refine aR λI a w U=>?_;refine U.Bp (gL:=[[AV.int e.a]]) rfl kG cT rfl wi rfl rfl rfl (bf.c rfl rfl .tt (by first|exact cL rfl|exact cN|exact cO|exact cP) bf.nil) rfl rfl (by simp only[List.forall_mem_cons];exact⟨rfl,λ_ h=>by simp at h⟩) rfl λb6 I a w U=>?_;refine Bs λI a w U=>?_;refine U.cd (λab=>?_) λab=>?_
 .refine aV λI a w U=>?_;refine U.o (.li [[AV.int e.b]] wi (.v .nil)) λU=>?_;refine U.append 0 rfl kG cT rfl .tt .r rfl be λwM a w U=>?_;refine gy λI a w U=>?_;refine cz (λah=>?_) λah=>?_
  .refine aV λI a w U=>?_;refine U.o (.li [[AV.int e.c]] wi (.v .nil)) λU=>?_;refine U.append 0 rfl kG cT rfl .tt .r rfl be λPp a w U=>?_;refine aI λI a w U=>?_;obtain⟨I,U⟩:=U.fr 0 2;refine U.rt ?_;exact(by rw[Dj ab ah];rfl)
  refine ax λI a w U=>?_;obtain⟨I,U⟩:=U.fr 0 2;refine U.rt ?_;exact(by rw[Di ab (by simpa using ah)];rfl)
 refine ax λI a w U=>?_;obtain⟨I,U⟩:=U.fr 0 2;refine U.rt ?_;exact(by rw[Dh ab];rfl)
def Z1 {w:aM} (h:cF w) (x:Int):rQ w.calls x=gn w.calls w.calls.length x:=by
 have key:∀k,k<=w.calls.length->(w.calls.take k).foldl (λn q=>if q.aB=x then q.num else n) 0=gn w.calls k x:=by
  intro k;induction k with
  |zero=>intro _;rw[GH];rfl
  |succ k ih=>
   intro hk
   rw[ep om,List.foldl_append,ih om,sa om]
   show(if(ae w.calls k).aB=x then(ae w.calls k).num else gn w.calls k x)=_
   split
   .rename_i e
    rw[((vr.1 h.calls).2 k om).2.2.1,e,sa om,if_pos e]
   rfl
 have:=key w.calls.length (Nat.le_refl _);rw[List.take_length] at this;exact this
def Z2 {x:aM} {e:Ev} (hg:cF x) (h:0<=e.aB/\e.aB<=1) {q:Call} (hq:q∈x.calls++[pL x e]):db q.aB:=by
 rcases List.mem_append.1 hq with hq|hq
 .obtain⟨k,hk,rfl⟩:=iq hq;have:=tg.1 (hg.call hk).aB;unfold db;omega
 obtain rfl:=List.mem_singleton.1 hq;show db e.aB;unfold db;omega
def cF.Fit {w:aM} (h:cF w):w.Fit:=⟨λm hm=>(by have:=tu (h.words m hm);unfold db;omega),λq hq=>by
 obtain⟨i,hi,rfl⟩:=iq hq;have:=tg.1 (h.call hi).aB;unfold db;omega⟩
def Z3 {P:Program} {H:List Own} {Γ:Env} {g:Bool} {d:Option Tmp} {y z:Operand} {T T' ty:TypeId} {p:String} {af:Array Edge} {gd:Option (Nat×Bool)} {m n:Int} (hy:At Γ g y (.int m)) (hz:At Γ g z (.int n)):
 Ok P H Γ g ⟨d,.call ⟨.builtin .min,#[y,z],#[T,T']⟩,ty,p,af,gd⟩ (.int (min m n)):=
 gK λI a w he hg=>by
  have h1:a.eval y=.int .i64 m:=hy I a he hg;have h2:a.eval z=.int .i64 n:=hz I a he hg;have e:(if n<m then n else m)=min m n:=by split<;>omega
  simp only[execOp,resolve,invoke,builtin,Sem.run_bind,Sem.run_pure,Result.andThen_ok,List.map_toArray,List.map_cons,List.map_nil,h1,h2];simp[Builtin.min_,Builtin.min2,e]
def acx (s:Server) (m:az) (hg:bE s) (hm:bY m=true):
 Fn prog 315 [s.av,m.av] (AV.c8 [(ib s m).1.av,dW (ib s m).2]):=by
 refine Fn.go 158 func315 ntmps315 (λW I a U=>?_);have aj:=iU.2 hg;have c6:=hg.ok;have ki:=nK hm;have tI:=B9 hm;have h3:=hg.aQ;have h4:(eJ s m.slot).aQ.length=3:=h3;have nk:=c6.drop m.slot;have hdv:=gV nk.ar;have hmv:=gV ki.1;have hmw:=gV ki.2.1;have Kd:=hP ki.2.2.1;have hdw:=gV nk.waits;have hdo:=hP (hg.eJ m.slot).aE;have lens:m.aK.length<=9223372036854775807/\m.ar.length<=9223372036854775807/\m.waits.length<=9223372036854775807/\m.aE.length<=9223372036854775807:=⟨U.ln 1 9,U.ln 1 12,U.ln 1 13,U.ln 1 14⟩;have jM:=hP hg.aE;have e9:∀x,x=ct.cells ⟨m.bX,1⟩->(List.map ct.cells (eJ s m.slot).aQ).set m.slot.toNat x=List.map ct.cells (vo s m 0 0 0).aQ:=λx h=>by rw[h];exact List.map_set.symm
 refine aA λI a w U=>?_;refine U.alloc rfl bL di λb4 I a w U=>?_;refine al λI a w U=>?_;refine U.l0 λr9 I a w U=>?_;obtain⟨I,U⟩:=U.fr 1 12;refine al λI a w U=>?_;refine U.dk ?_;refine ef ?_;refine .o (.c1 (xb _ hg.site)) ?_;refine gS ?_;refine .nil ?_;intro I a w U;refine ba ?_;refine U.cd (λab=>?_) λab=>?_
 .rw[Nc s m] at ab;replace ab:=nt ab;refine aU λI a w U=>?_;refine U.ret rfl (.cons (.sx 0) (.cons .x aZ.nil)) ?_;exact(by rw[Yw ab];rfl)
 rw[Nc s m] at ab;replace ab:=nf ab;refine lJ λI a w U=>?_;refine U.o (.bd dN (.k (.k (.k (.k (.k bf.nil)))))) λU=>?_;refine U.alloc rfl cH dN λb7 I a w U=>?_;refine al λI a w U=>?_;obtain⟨I,U⟩:=U.fb 2 7;refine al λI a w U=>?_;refine U.cd (λah=>?_) λah=>?_
 .refine wp_seq ?_;refine U.fV (rp 3 [([0],some (0,[])),([],none)]) aq aq rfl ?_;refine cy ?_;refine .o (.li [(nJ s m).cells] gj (.u .nil)) ?_;refine aP.gZ (x:=AV.any) 0 (λF W0 I0 I γ a w Q U kk=>U.sb 0 λU=>kk _ _ _ U) ?_;refine br ?_;refine .nil ?_;intro I a w U;refine zt ?_;refine U.ret rfl (.cons (.sx 0) (.cons .x aZ.nil)) ?_;exact(by rw[Oo ab (by simpa using ah)];rfl)
 refine aV λI a w U=>?_;refine U.o (bx (OU s m.slot c6.ar c6.waits om) (an (.t rfl) (an (.t rfl) aH))) λU=>?_;refine U.alloc rfl bL di λb8 I a w U=>?_;refine Sg λI a w U=>?_;refine U.cd (λai=>?_) λai=>?_
 .rw[NN s m] at ai;replace ai:=nt ai;refine aU λI a w U=>?_;refine U.ret rfl (.cons (.sx 0) (.cons .x aZ.nil)) ?_;exact(by rw[Hi ab (by simpa using ah) (by rw[ai];rfl)];rfl)
 rw[NN s m] at ai;replace ai:=nf ai;refine zt ?_;refine U.l0 λb82 I a w U=>?_;refine aA λI a w U=>?_;refine U.ap 4 λv85 a w U=>?_;refine U.o .fv λU=>?_;try have ahH:=U.cU 4 rfl
 refine al λI a w U=>?_;simp only[List.nil_append] at U;obtain⟨b85,ahJ,e85⟩:=U.iS 4 rfl cq;subst e85;refine df λI a w U=>?_;refine U.o (.bd kD (.k (.k bf.nil))) λU=>?_;refine U.o (gv eM dP .tt .tt (λ_=>by simp only[List.length_map];omega)) λU=>?_;refine U.ja 4 dP .tt .tt rfl (by exact fq om) rfl rfl λa w U=>?_;refine zt ?_;rw[e9] at U;rotate_left
 .rfl
 obtain⟨I,U⟩:=U.fu 4 2 3;refine al λI a w U=>?_;refine St.lo (σ:=Nat) (9::(run 19 95 [])) ⟨λi=>[(9,AV.int i)],λi=>[Own.box b4 95 [AV.val (.int .i64 0),AV.val (.bool false),AV.rows 2 [],AV.rows 7 [],AV.rows 7 [],AV.rows 3 [],AV.rows 3 []],Own.gone,Own.gone,Own.box b8 95 (vo s m i 0 0).cells,Own.gone],λi=>i<=m.ar.length⟩ (λi=>m.ar.length-i) 0 U ?aD ?bh;case aD=>exact Nat.zero_le _
 rintro i I a w aj U;have hi:i<=m.ar.length:=aj;dsimp only at U;refine bP λI a w U=>?_;refine cz (λaG=>?_) λaG=>?_
 .refine zt ?_;refine U.fV [([],none),([3],none),([],none),([],none),([],none),([],none),([],none),([],none),([],none),([],none),([],none),([],none),([3],some (3,[]))] aq aq rfl ?_;refine br ?_;refine .r [3] (.lb 3) ?_;refine fQ ?_;refine .o (.cl (PF nk.ar ki.1 (Hh ai).1 aG)) ?_;refine ef ?_;refine aP.gZ (x:=AV.any) 3 (λF W0 I0 I γ a w Q U kk=>U.s1 3 λU=>kk _ _ _ U) ?_;refine .nil ?_;intro I a w U;refine aI λI a w U=>?_;exact U.ag (i+1) (aG)
 refine zt ?_;refine al λI a w U=>?_;refine St.lo (σ:=Nat) (10::(run 19 114 [])) ⟨λj=>[(10,AV.int j)],λj=>[Own.box b4 95 [AV.val (.int .i64 0),AV.val (.bool false),AV.rows 2 [],AV.rows 7 [],AV.rows 7 [],AV.rows 3 [],AV.rows 3 []],Own.gone,Own.gone,Own.box b8 95 (vo s m i j 0).cells,Own.gone],λj=>j<=m.waits.length⟩ (λj=>m.waits.length-j) 0 U ?eL ?jX;case eL=>exact Nat.zero_le _
 rintro j I a w aj U;have hj:j<=m.waits.length:=aj;dsimp only at U;refine bP λI a w U=>?_;refine cz (λaL=>?_) λaL=>?_
 .refine zt ?_;refine U.fV [([],none),([3],none),([],none),([],none),([],none),([],none),([],none),([],none),([],none),([],none),([],none),([],none),([3],some (3,[]))] aq aq rfl ?_;refine br ?_;refine .r [3] (.lb 3) ?_;refine fQ ?_;refine .o (.cl (PF nk.waits ki.2.1 (Hh ai).2.1 aL)) ?_;refine ef ?_;refine aP.gZ (x:=AV.any) 3 (λF W0 I0 I γ a w Q U kk=>U.s1 3 λU=>kk _ _ _ U) ?_;refine .nil ?_;intro I a w U;refine aI λI a w U=>?_;exact U.ag (j+1) (aL)
 refine zt ?_;refine al λI a w U=>?_;refine St.lo (σ:=Nat) (11::(run 16 133 [])) ⟨λk=>[(11,AV.int k)],λk=>[Own.box b4 95 [AV.val (.int .i64 0),AV.val (.bool false),AV.rows 2 [],AV.rows 7 [],AV.rows 7 [],AV.rows 3 [],AV.rows 3 []],Own.gone,Own.gone,Own.box b8 95 (vo s m i j k).cells,Own.gone],λk=>k<=m.aE.length⟩ (λk=>m.aE.length-k) 0 U ?iA ?oL;case iA=>exact Nat.zero_le _
 rintro k I a w aj U;have hk:k<=m.aE.length:=aj;dsimp only at U;refine bP λI a w U=>?_;refine cz (λbc=>?_) λbc=>?_
 .refine zt ?_;refine U.dt 9 ?_;simp only[TD];refine ky ?_;refine .o (.cl (aaU (Hh ai).2.2 bc)) ?_;refine br ?_;refine .nil ?_;intro I a w U;refine aU λI a w U=>?_;exact U.ag (k+1) (bc)
 refine zt ?_;refine U.o (.ls 3) λU=>U.o (.c1 (tO ..)) λU=>?_;refine al λI a w U=>?_;refine U.cd (λaY=>?_) λaY=>?_
 .rw[(Ds s m om om om),Bool.not_eq_true'] at aY;refine aU λI a w U=>?_;refine U.ret rfl (.cons (.sx 0) (.cons .x aZ.nil)) ?_;exact(by rw[Hi ab (by simpa using ah) (by rw[ai,aY];rfl)];rfl)
 rw[(Ds s m om om om),Bool.not_eq_false'] at aY;refine zt ?_;refine U.fV (([3],none)::rp 3 [([0],some (0,[])),([],none)]) aq aq rfl ?_;refine .r [3] (.ls 3) ?_;refine .o (bx (xu (vo s m i j k) (by rw[(Ds s m om om om)];exact(iU.1 aY).ok)) (an (.t rfl) aH)) ?_;refine br ?_;refine .o (.li [(nJ s m).cells] gj (.u .nil)) ?_;refine aP.gZ (x:=AV.any) 0 (λF W0 I0 I γ a w Q U kk=>U.sb 0 λU=>kk _ _ _ U) ?_;refine br ?_;refine .nil ?_;intro I a w U;refine zt ?_;refine U.ret rfl (.cons (.sx 0) (.cons .x aZ.nil)) ?_;exact(by rw[Oq ab (by simpa using ah) (by rw[ai,aY];rfl),(Ds s m om om om)];rfl)
def ach (s:Server) (m:az) (hg:bE s) (hm:bY m=true):
 Fn prog 311 [s.av,m.av] (AV.c8 [(ia s m).1.av,dW (ia s m).2]):=by
 refine Fn.go 115 func311 ntmps311 (λW I a U=>?_);have aj:=iU.2 hg;have c6:=hg.ok;have ki:=nK hm;refine sr<|U.box rfl .tt λb2 I a w U=>U.o .bp λU=>U.alloc rfl bL di λb4 I a w U=>?_;refine al λI a w U=>?_;refine U.l0 λqW I a w U=>?_;obtain⟨I,U⟩:=U.fr 2 14;refine al λI a w U=>?_;refine U.dk ?_;refine cy ?_;refine .o (.c1 (qw ..)) ?_;refine ef ?_;refine .q .F (.cl (pq ..)) ?_;refine cy ?_;refine .q .F (.cl (pq ..)) ?_;refine E9 ?_;refine .q .F (fT (i:=0) du bI .ag .c (λhg=>by simp only[B] at hg;omega)) ?_;refine cy ?_;refine .q .F (.cl (HZ _ _ aj)) ?_;refine fQ ?_;refine .q .F (fT (i:=0) du bI .ag .c (λhg=>by simp only[B] at hg;omega)) ?_;refine ee ?_;refine .q .F (.cl (pq ..)) ?_;refine cy ?_;refine .q .F (.cl (pq ..)) ?_;refine cy ?_;refine .nil ?_;intro I a w U;refine ba ?_;refine U.cd (λab=>?_) λab=>?_
 .rw[Nb] at ab;replace ab:=nt ab;refine aU λI a w U=>?_;refine U.ret rfl (.cons (.sx 1) (.cons .x aZ.nil)) ?_;exact(by unfold ia;rw[ab];rfl)
 rw[Nb] at ab;replace ab:=nf ab;refine aA λI a w U=>?_;refine U.o (fT (i:=0) du bI .tt .c (λ_=>by have:=(Cv ab).2.2.1;omega)) λU=>?_;refine U.o .la λU=>?_;refine U.alloc rfl bI dY λb7 I a w U=>?_;refine al λI a w U=>?_;obtain⟨I,U⟩:=U.fb 3 7;refine df λI a w U=>?_;refine U.o (.cl (sj ..)) λU=>?_;refine aV λI a w U=>?_;refine U.alloc rfl bI dY λb8 I a w U=>?_;refine U.sb 4 λU=>?_;obtain⟨I,U⟩:=U.fb 4 8;refine fm λI a w U=>?_;refine U.o (.cl (sj ..)) λU=>?_;refine aV λI a w U=>?_;refine U.alloc rfl bI dY λjD I a w U=>?_;refine U.sb 5 λU=>?_;obtain⟨I,U⟩:=U.fb 5 10;refine fW λI a w U=>?_;refine U.cd (λah=>?_) λah=>?_
 .rw[L7 s (ae m.ar 0) c6.ar c6.waits,decide_eq_true_eq] at ah;refine aV λI a w U=>?_;refine U.o (.cl (Dt _ _ c6.waits)) λU=>?_;refine fW λI a w U=>?_;refine cz (λai=>?_) λai=>?_
  .refine aU λI a w U=>?_;refine U.ret rfl (.cons (.sx 1) (.cons .x aZ.nil)) ?_;exact(by unfold ia;rw[ab,if_pos rfl];dsimp only;rw[if_pos ah,ai];rfl)
  refine aI λI a w U=>?_;rw[if_pos ai] at U;refine U.o (.ls 0) λU=>U.o (.c1 (xu {s with waits:=fF s.waits (ae m.ar 0)} (c6.Gg ai ah.1))) λU=>?_;refine al λI a w U=>?_;refine U.fV [([0],none),([],none),([0],none),([],none),([],none),([],none),([],none),([],none),([],none),([],none),([],none),([1],some (1,[])),([],none)] aq aq rfl ?_;refine .r [0] (.ls 0) ?_;refine br ?_;refine .r [0] (.lb 0) ?_;refine gS ?_;refine .o (.bd dN (.k (.k (.k (.k (.t bf.nil)))))) ?_;refine .o (.li [({mj s m (ae m.ar 0) with bj:=(g9 {s with waits:=fF s.waits (ae m.ar 0)}).site}).cells] gj (.u .nil)) ?_;refine aP.gZ (x:=AV.any) 1 (λF W0 I0 I γ a w Q U kk=>U.sb 1 λU=>kk _ _ _ U) ?_;refine br ?_;refine .nil ?_;intro I a w U;refine zt ?_;refine U.ret rfl (.cons (.sx 1) (.cons .x aZ.nil)) ?_;exact(by unfold ia;rw[ab,if_pos rfl];dsimp only;rw[if_pos ah,ai,(Ad _).1];rfl)
 rw[L7 s (ae m.ar 0) c6.ar c6.waits,decide_eq_false_iff_not] at ah;refine aX λI a w U=>?_;refine U.o (.c1 (xu s c6)) λU=>?_;refine al λI a w U=>?_;refine U.fV [([0],none),([],none),([0],none),([],none),([],none),([],none),([],none),([],none),([],none),([],none),([],none),([1],some (1,[])),([],none)] aq aq rfl ?_;refine .r [0] (.ls 0) ?_;refine br ?_;refine .r [0] (.lb 0) ?_;refine gS ?_;refine .o (.bd dN (.k (.k (.k (.k (.t bf.nil)))))) ?_;refine .o (.li [({mj s m (ae m.ar 0) with bj:=(g9 s).site}).cells] gj (.u .nil)) ?_;refine aP.gZ (x:=AV.any) 1 (λF W0 I0 I γ a w Q U kk=>U.sb 1 λU=>kk _ _ _ U) ?_;refine br ?_;refine .nil ?_;intro I a w U;refine zt ?_;refine U.ret rfl (.cons (.sx 1) (.cons .x aZ.nil)) ?_;exact(by unfold ia;rw[ab,if_pos rfl];dsimp only;rw[if_neg ah,(Ad _).1];rfl)
end Go.Proofs.YtldbakcpcfdlaaaGreat

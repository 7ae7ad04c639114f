/- Part 19: contracts of functions, plain facts. -/
import Derived.Test.YtjepcfpkclegdaaGreatP15
import Derived.Test.YtjepcfpkclegdaaGreatP16
import Derived.Test.YtjepcfpkclegdaaGreatP17
set_option linter.unusedVariables false
set_option linter.unusedSimpArgs false
set_option maxRecDepth 100000
set_option maxHeartbeats 4000000
namespace Go.Proofs.YtjepcfpkclegdaaGreat
open Go Go.RowKit
attribute [local irreducible] wpList Code.wp Ok
theorem bF.put {s:Server} (h:bF s) {v:aB} (hc:jw s.ao v=true) (U:bL v.aq.site=bL s.site) (bc:dX s v.key≠0) (hl:s.aD.length<80):bF {s with ao:=fk s.ao v,aD:=ef s.aD v.aT}:=by
 obtain⟨h1,h2,h3⟩:=vb hc
 have hp:=jk h1
 refine⟨h.site,h.aG,DQ h.ao h1 h2 h3,h.waits,Qd h.aD (by simp only[lZ,Bool.and_eq_true];exact⟨hp.1,hp.2.1⟩) hl,h.bl,h.up,h.aW,λx hx=>?_,h.pM,h.pN,λw hw x hx=>?_,λd hd=>?_⟩
 ·rcases gS.1 hx with rfl|hx
  ·exact bc
  ·exact h.here x hx
 ·rcases gS.1 hx with rfl|hx
  ·intro e
   have:=h.pN w hw
   have e2:w.aq=x.aq:=by have:=congrArg au.aq e;exact this.symm
   rw[e2] at this;exact this U
  ·exact h.apart w hw x hx
 ·rcases yX.1 hd with rfl|hd
  ·exact⟨v,gS.2 (.inl rfl),rfl⟩
  ·exact M5 (h.o6 d hd)
theorem abX {s:Server} {m:aC} (h:bF s) (hm:bO m=true):bF (iL s m).1:=by
 unfold iL
 split
 ·rename_i hc
  simp only[Bool.and_eq_true,decide_eq_true_eq] at hc
  split
  ·exact h
  ·split
   ·rename_i hk
    simp only[Bool.and_eq_true,decide_eq_true_eq] at hk
    obtain⟨a1,a2,a3⟩:=DK h hm hk.1.1
    exact(h.put hk.1.2 (by rw[a1]) (by show dX s m.key≠0;rw[(w6 hc.2).2];omega) hk.2).settle
   ·exact h
 ·exact h
structure dw (q:Call) (t:Int):Prop where
 an:ff q.an=true
 num:1<=q.num/\q.num<=99
 keys:iZ q=true
 val:0<=q.val/\q.val<=9999
 ctx:bN q.ctx=true
 aP:bN q.aP=true
 bD:1<=q.bD/\q.bD<=t
 fits:kx q.aq=true
 has:∀a∈q.az,gU q.keys a.key=true
 sorted:q.az.Pairwise λa b=>gJ a b=true
 aW:∀a∈q.az,dB a=true
 xy:∀d∈q.aP,rY q d=true
 full:q.aP=[]\/q.az.length=q.keys.length
 put:q.kind=1->q.az=[]/\q.aP=[]
 read:q.kind≠1->q.val=0/\dL q.aq=true
 open_:q.end_=0->dL q.aq=true
 ended:q.end_≠0->q.over=false/\(q.bD+1<=q.end_/\q.end_<=t)/\q.aP=[]/\(q.kind=1->dL q.aq=false)/\(q.kind≠1->q.az.length=q.keys.length)
theorem pZ {q:Call} {t:Int}:eX q t=true↔dw q t:=by
 have e1:(cF q.aP.length (qx q))=true↔∀d∈q.aP,rY q d=true:=by
  have e:qx q=λi=>rY q (ab q.aP i):=by funext i;rfl
  rw[e];exact vo
 have e2:(((q.aP.length:Int)==0)||pP q)=true↔q.aP=[]\/q.az.length=q.keys.length:=by
  unfold pP
  rw[Bool.or_eq_true,beq_iff_eq,beq_iff_eq]
  constructor
  ·rintro(h|h)
   ·exact .inl (List.length_eq_zero_iff.1 (by omega))
   ·exact .inr (by omega)
  ·rintro(h|h)
   ·exact .inl (by rw[h];rfl)
   ·exact .inr (by omega)
 have e3:yi q=true↔(q.kind=1->q.az=[]/\q.aP=[])/\(q.kind≠1->q.val=0/\dL q.aq=true):=by
  unfold yi
  rw[Nk]
  by_cases hk:q.kind=1
  ·simp[hk]
  ·simp[hk]
 have e4:ox q t=true↔(q.end_=0->dL q.aq=true)/\(q.end_≠0->q.over=false/\(q.bD+1<=q.end_/\q.end_<=t)/\q.aP=[]/\(q.kind=1->dL q.aq=false)/\(q.kind≠1->q.az.length=q.keys.length)):=by
  unfold ox
  by_cases he:q.end_=0
  ·simp[he]
  ·rw[if_neg he,Nj]
   unfold pP aQ
   by_cases hk:q.kind=1
   ·simp[hk,he,and_assoc]
   ·simp[hk,he,and_assoc];omega
 unfold eX m8 pV
 simp only[Bool.and_eq_true]
 rw[Qg,e1,e2,e3,e4]
 constructor
 ·rintro⟨⟨⟨⟨⟨⟨⟨⟨⟨⟨a1,a2⟩,a3⟩,a4⟩,a5⟩,a6⟩,a7⟩,a8⟩,⟨⟨a9,wI,As⟩,Gz⟩,GA⟩,a14,a15⟩,a16,a17⟩
  simp only[aQ,Bool.and_eq_true,decide_eq_true_eq] at a2 a4 a7
  exact⟨a1,a2,a3,a4,a5,a6,a7,a8,a9,wI,As,Gz,GA,a14,a15,a16,a17⟩
 ·intro h
  simp only[aQ,Bool.and_eq_true,decide_eq_true_eq]
  exact⟨⟨⟨⟨⟨⟨⟨⟨⟨⟨h.an,h.num⟩,h.keys⟩,h.val⟩,h.ctx⟩,h.aP⟩,h.bD⟩,h.fits⟩,⟨⟨h.has,h.sorted,h.aW⟩,h.xy⟩,h.full⟩,h.put,h.read⟩,h.open_,h.ended⟩
theorem ab2 {q:Call} {t:Int} (h:dw q t) {key:Int} (hk:gU q.keys key=true):0<=key/\key<=5:=by
 have hu:lI q.keys=true:=by have:=h.keys;simp only[iZ,Bool.and_eq_true] at this;exact this.1
 exact GO.1 (yv hu (yO.1 hk))
theorem DW {q:Call} {t:Int} (h:dw q t) {key:Int} (hk:gU q.keys key=true) (hn:cv q key<0):q.aP=[]/\q.az.length<q.keys.length:=by
 have hu:lI q.keys=true:=by have:=h.keys;simp only[iZ,Bool.and_eq_true] at this;exact this.1
 have bw:q.az.length<q.keys.length:=by
  apply Nat.lt_of_not_le
  intro hle
  have bj:∀a∈q.az,a.key≠key:=λa ha e=>by
   have:=DB (q:=q) (key:=key).2 ⟨a,ha,e⟩;omega
  have U:((cR q.az {(default:Answer) with key:=key}).map Answer.key).Pairwise (·<·):=by
   rw[List.pairwise_map]
   refine(G0 h.sorted λx hx=>bj x hx).imp λhl=>?_
   unfold gJ at hl;rwa[decide_eq_true_eq] at hl
  have:=CM (NM hu) U λa ha=>by
   rcases qL.1 ha with rfl|ha
   ·exact yO.1 hk
   ·exact yO.1 (h.has a ha)
  rw[w8] at this
  omega
 exact⟨h.full.resolve_right (by omega),bw⟩
theorem dw.na {q:Call} {t:Int} (h:dw q t) (hw:gQ q=true) (hb:q.bD<t) (hk:q.kind≠1) {a:Answer} (ha:dB a=true) (jh:gU q.keys a.key=true) (hn:cv q a.key<0):dw (na q a t) t:=by
 obtain⟨he,ho⟩:=qp hw
 obtain⟨ss,bw⟩:=DW h jh hn
 have bj:∀x∈q.az,x.key≠a.key:=λx hx e=>by
  have:=DB (q:=q) (key:=a.key).2 ⟨x,hx,e⟩;omega
 have bc:dL q.aq=true:=h.open_ he
 have p6:∀x∈cR q.az a,dB x=true:=λx hx=>by
  rcases qL.1 hx with rfl|hx
  ·exact ha
  ·exact h.aW x hx
 have xz:∀x∈cR q.az a,gU q.keys x.key=true:=λx hx=>by
  rcases qL.1 hx with rfl|hx
  ·exact jh
  ·exact h.has x hx
 have ue:=G0 h.sorted bj
 have h1:dw {q with az:=cR q.az a} t:=
  ⟨h.an,h.num,h.keys,h.val,h.ctx,h.aP,h.bD,h.fits,xz,ue,p6,λd hd=>by have:d∈q.aP:=hd;rw[ss] at this;simp at this,.inl ss,λe=>absurd e hk,h.read,h.open_,λe=>absurd he e⟩
 unfold Go.Proofs.YtjepcfpkclegdaaGreat.na
 dsimp only
 split
 ·exact h1
 ·rename_i hlen
  have hl:(cR q.az a).length=q.keys.length:=by rw[w8];have:¬(cR q.az a).length<q.keys.length:=hlen;rw[w8] at this;omega
  have yW:∀key,sd (bx (eW {q with az:=cR q.az a}) key):=λkey=>by
   have:=(pg (l:=cR q.az a) (acc:=[]) rfl p6)
   exact sh this.1 key
  have cy:bN (kO {q with az:=cR q.az a})=true:=HB _ yW ue (λx hx=>by have:=ab2 h (xz x hx);omega) p6
  have uf:∀d∈kO {q with az:=cR q.az a},rY {q with az:=cR q.az a} d=true:=λd hd=>by
   obtain⟨x,hx,e,hls⟩:=P0 hd
   refine(Ii ue).2 ⟨x,hx,by rw[e],?_⟩
   unfold mT;rw[hls];simp
  unfold l7
  split
  ·rename_i h0
   have h0:q.aP++kO {q with az:=cR q.az a}=[]:=h0
   exact⟨h.an,h.num,h.keys,h.val,h.ctx,by show bN (q.aP++_)=true;rw[h0];rfl,h.bD,h.fits,xz,ue,p6,λd hd=>by have:d∈q.aP++_:=hd;rw[h0] at this;simp at this,.inl h0,λe=>absurd e hk,h.read,λ_=>bc,
    λ_=>⟨ho,⟨by show q.bD+1<=t;omega,Int.le_refl _⟩,h0,λe=>absurd e hk,λ_=>hl⟩⟩
  ·exact⟨h.an,h.num,h.keys,h.val,h.ctx,by show bN (q.aP++_)=true;rw[ss];exact cy,h.bD,h.fits,xz,ue,p6,λd hd=>uf d (by have:d∈q.aP++_:=hd;rwa[ss] at this),.inr hl,λe=>absurd e hk,h.read,h.open_,λe=>absurd he e⟩
theorem dw.nH {q:Call} {t:Int} (h:dw q t) (hw:gQ q=true) (hb:q.bD<t) (hk:q.kind≠1) {a:Answer} (ha:dB a=true) (hy:a.yes=true):dw (nH q a t) t:=by
 obtain⟨he,ho⟩:=qp hw
 have bc:dL q.aq=true:=h.open_ he
 unfold Go.Proofs.YtjepcfpkclegdaaGreat.nH
 split
 ·rename_i hm
  have B6:=(yL ha hy).2
  have IB:=h.xy _ hm
  have h0:0<=cv q a.key:=by
   unfold rY at IB;rw[Bool.and_eq_true,decide_eq_true_eq,B6] at IB;exact IB.1
  obtain⟨h1,h2⟩:=xk h0
  have hlen:(q.az.set (cv q a.key).toNat a).length=q.az.length:=List.length_set ..
  have QO:q.az.length=q.keys.length:=h.full.resolve_left λe=>by rw[e] at hm;simp at hm
  have p6:∀x∈q.az.set (cv q a.key).toNat a,dB x=true:=λx hx=>by
   rcases tD hx with rfl|⟨k,eY,_,rfl⟩
   ·exact ha
   ·exact h.aW _ (aV eY)
  have xz:∀x∈q.az.set (cv q a.key).toNat a,gU q.keys x.key=true:=λx hx=>by
   rcases tD hx with rfl|⟨k,eY,_,rfl⟩
   ·have:=h.has _ (aV h1);rwa[h2] at this
   ·exact h.has _ (aV eY)
  have ab4:(q.az.set (cv q a.key).toNat a).map Answer.key=q.az.map Answer.key:=by
   rw[List.map_set]
   apply List.ext_getElem
   ·simp
   ·intro n Xu BG
    by_cases e:(cv q a.key).toNat=n
    ·subst e;rw[List.getElem_set_self,List.getElem_map];exact h2.symm.trans (by simp[ab,h1])
    ·rw[List.getElem_set_ne e]
  have ue:(q.az.set (cv q a.key).toNat a).Pairwise λa b=>gJ a b=true:=by
   have e:∀l:List Answer,(l.Pairwise λa b=>gJ a b=true)↔(l.map Answer.key).Pairwise (·<·):=λl=>by
    rw[List.pairwise_map]
    constructor<;>intro hh<;>refine hh.imp λhl=>?_
    ·unfold gJ at hl;rwa[decide_eq_true_eq] at hl
    ·unfold gJ;rwa[decide_eq_true_eq]
   rw[e,ab4,<-e];exact h.sorted
  have uf:∀d∈q.aP.filter (λd=>decide (d≠a.be.aT)),rY {q with az:=q.az.set (cv q a.key).toNat a,aP:=q.aP.filter λd=>decide (d≠a.be.aT)} d=true:=λd hd=>by
   obtain⟨Di,Bb⟩:=List.mem_filter.1 hd
   rw[decide_eq_true_eq] at Bb
   have IC:d.key≠a.key:=λe=>Bb (HC h.aP Di hm (by rw[e,B6]))
   obtain⟨x,hx,rb,vz⟩:=(Ii h.sorted).1 (h.xy d Di)
   obtain⟨k,eY,rfl⟩:=gq hx
   refine(Ii ue).2 ⟨ab q.az k,MF eY λe=>?_,rb,vz⟩
   subst e;rw[h2] at rb;exact IC rb.symm
  have cy:bN (q.aP.filter λd=>decide (d≠a.be.aT))=true:=MG _ h.aP
  dsimp only
  split
  ·rename_i hz
   exact⟨h.an,h.num,h.keys,h.val,h.ctx,cy,h.bD,h.fits,xz,ue,p6,uf,.inl hz,λe=>absurd e hk,h.read,λ_=>bc,
    λ_=>⟨ho,⟨by show q.bD+1<=t;omega,Int.le_refl _⟩,hz,λe=>absurd e hk,λ_=>by show(q.az.set _ _).length=_;rw[hlen];exact QO⟩⟩
  ·exact⟨h.an,h.num,h.keys,h.val,h.ctx,cy,h.bD,h.fits,xz,ue,p6,uf,.inr (by show(q.az.set _ _).length=_;rw[hlen];exact QO),λe=>absurd e hk,h.read,h.open_,λe=>absurd he e⟩
 ·exact h
theorem ug {l:List Call} {t:Int}:jq l t=true↔l.length<=20/\∀i,i<l.length->dw (ab l i) t/\(i=0\/(ab l (i-1)).bD<(ab l i).bD)/\(ab l i).num=gn l (i+1) (ab l i).an/\∀j,j<i->mD (ab l j) (ab l i)=false:=by
 unfold jq m9 xg
 rw[Bool.and_eq_true,gx,decide_eq_true_eq]
 constructor
 ·rintro⟨h,hl⟩
  refine⟨hl,λi hi=>?_⟩
  have:=h i hi
  simp only[Bool.and_eq_true,Bool.or_eq_true,decide_eq_true_eq,beq_iff_eq,gx] at this
  exact⟨pZ.1 this.1.1.1,this.1.1.2,this.1.2,λj hj=>by simpa using this.2 j hj⟩
 ·rintro⟨hl,h⟩
  refine⟨λi hi=>?_,hl⟩
  obtain⟨a1,a2,a3,a4⟩:=h i hi
  simp only[Bool.and_eq_true,Bool.or_eq_true,decide_eq_true_eq,beq_iff_eq,gx]
  exact⟨⟨⟨pZ.2 a1,a2⟩,a3⟩,λj hj=>by rw[a4 j hj];rfl⟩
theorem cx.call {w:aE} (h:cx w) {i:Nat} (hi:i<w.calls.length):dw (ab w.calls i) w.time:=((ug.1 h.calls).2 i hi).1
theorem DX (s:Server) (m:aC):(!aQ m.aR 10 11||decide (m.call<1)||!gv s m.key)=!(aQ m.aR 10 11&&decide (1<=m.call)&&gv s m.key):=by
 have e:decide (m.call<1)=!decide (1<=m.call):=by rw[Bool.eq_iff_iff];simp
 rw[e];simp
theorem QP (s:Server) (slot:Int) (h1:cn s.ao=true) (h2:cn s.waits=true) (h0:cL s.site=true) (h3:s.aG.length=3) (jX:0<=slot/\slot<3) (ho:s.aD.length<=80):
 Fn Tryz.prog 218 [s.av,AV.int slot] ((fM s slot).av):=by
 refine Fn.go 63 Tryz.func218 Tryz.ntmps218 (λW I a U=>?_)
 have lens:s.aG.length<=9223372036854775807/\s.ao.length<=9223372036854775807/\s.waits.length<=9223372036854775807/\s.aD.length<=9223372036854775807/\s.bl.length<=9223372036854775807:=⟨U.ln 0 2,U.ln 0 3,U.ln 0 4,U.ln 0 5,U.ln 0 6⟩
 refine sr<|U.box rfl .tt λb2 I a w U=>U.alloc rfl dr eb λb4 I a w U=>?_
 refine zt ?_
 refine U.da 14 ?_
 simp only[TD]
 refine dq ?_
 refine .o (.c1 (yp _ h0)) ?_
 refine lF ?_
 refine .o (.bd Vf (.k (.k (.k (.k (.k bf.nil)))))) ?_
 refine gj.alloc dr eb<|.nil ?_
 intro I a w U
 obtain⟨b5,U⟩:=U.tm (d:=5) rfl
 refine ai λI a w U=>?_
 have U:=U.gC (sz:=3) 63
 refine bk λI a w U=>?_
 refine U.o (.cl (Dx _ _ h1)) λU=>?_
 refine lE λI a w U=>?_
 refine U.o (.cl (Dx _ _ h2)) λU=>?_
 refine jj λI a w U=>?_
 refine St.lo (σ:=Nat×Value) (6::(run 26 36 [])) ⟨λ⟨k,v⟩=>[(6,AV.int k)],λ⟨k,v⟩=>[Own.box b2 61 s.cells,Own.box b4 70 [AV.val (.int .i64 0),AV.val (.int .i64 0),AV.val (.int .i64 0),AV.val (.int .i64 0),AV.val (.int .i64 0),AV.val (.int .i64 0),AV.val (.int .i64 0),AV.val (.int .i64 0),AV.val (.bool false),AV.rows 3 [],AV.val (.int .i64 0),AV.val (.int .i64 0),AV.rows 7 [],AV.rows 7 [],AV.rows 3 []],Own.box b5 70 [AV.int (fM s slot).kind,AV.int (fM s slot).aR,AV.int (fM s slot).to,AV.int (fM s slot).call,AV.int (fM s slot).key,AV.int (fM s slot).aq.time,AV.int (fM s slot).aq.site,AV.int (fM s slot).val,AV.bool (fM s slot).yes,AV.val (.slice none 0 0),AV.int (fM s slot).slot,AV.int (fM s slot).bz,bX (fM s slot).ao,bX (fM s slot).waits,AV.val v],Own.row v 63 3 (((s.aD.take k).filter (gm slot)).map au.cells)],λ⟨k,v⟩=>k<=s.aD.length⟩ (λ⟨k,v⟩=>s.aD.length-k) (0,.slice none 0 0) U ?aJ ?aK
 case aJ=>exact Nat.zero_le _
 case aK=>
  rintro⟨k,v⟩ I a w aj U
  have hk:k<=s.aD.length:=aj
  have kT:=rX (gm slot) s.aD k
  dsimp only at U
  refine ck λI a w U=>?_
  refine cz (λae=>?_) λae=>?_
  ·refine dD λI a w U=>?_
   refine U.o (.c1 (uV ..)) λU=>?_
   refine aA λI a w U=>?_
   refine U.cd (λah=>?_) λah=>?_
   ·change(gm slot) (ab s.aD k)=true at ah
    refine U.dt 8 ?_
    simp only[TD]
    refine lF ?_
    refine .o (.li [(ab s.aD k).cells] iX (.u .nil)) ?_
    refine .nil ?_
    intro I a w U
    refine U.ap 3 λv60 a w U=>?_
    refine U.o .fv λU=>?_
    try have aky:=U.eJ 3 rfl
    refine ai λI a w U=>?_
    rw[cA,<-oA (p:=(gm slot)) ae ah] at U
    refine aI λI a w U=>?_
    exact U.ag (k+1,v60) (ae)
   ·change(gm slot) (ab s.aD k)=false at ah
    refine aI λI a w U=>?_
    rw[show(s.aD.take k).filter (gm slot)=(s.aD.take (k+1)).filter (gm slot) from(ot ae ah).symm] at U
    exact U.ag (k+1,v) (ae)
  ·refine wp_exit<|cN<|cN<|gw<|aY<|wp_seq ?_
   have U:=U.np (q:=9) 2 rfl rfl (eO 3 _)
   obtain⟨I,U⟩:=U.fu 3 14 2
   refine aA λI a w U=>?_
   refine U.ret rfl (.cons (.sx 1) aX.nil) ?_
   exact(by rw[show s.aD.take k=s.aD from List.take_of_length_le (by omega)];rfl)
theorem ID {s:Server} {m:aC} (h:bF s) (hm:bO m=true) (ho:gv s m.key=true) (hk:(j9 (kj s m)&&jw s.ao (fm s m)&&decide (s.aD.length<80))=true):bF {s with ao:=fk s.ao (fm s m),aD:=ef s.aD (fm s m).aT}:=by
 simp only[Bool.and_eq_true,decide_eq_true_eq] at hk
 obtain⟨a1,a2,a3⟩:=DK h hm hk.1.1
 exact h.put hk.1.2 (by rw[a1]) (by show dX s m.key≠0;rw[(w6 ho).2];omega) hk.2
theorem ab6 {s:Server} {m:aC} (h:(aQ m.aR 10 11&&decide (1<=m.call)&&gv s m.key)=false):iL s m=(s,[]):=by unfold iL;rw[h];rfl
theorem QQ {s:Server} {m:aC} (h:(aQ m.aR 10 11&&decide (1<=m.call)&&gv s m.key)=true) (hv:(kG s m.key (m.aR-10) m.call).isSome=true):iL s m=(s,[nE s m ((kG s m.key (m.aR-10) m.call).getD default).aq]):=by
 obtain⟨v,hv⟩:=Option.isSome_iff_exists.1 hv
 unfold iL;rw[h,hv];rfl
theorem IE {s:Server} {m:aC} (h:(aQ m.aR 10 11&&decide (1<=m.call)&&gv s m.key)=true) (hv:(kG s m.key (m.aR-10) m.call).isSome=false) (hf:(j9 (kj s m)&&jw s.ao (fm s m)&&decide (s.aD.length<80))=false):iL s m=(s,[]):=by
 have hv:=AG (o:=kG s m.key (m.aR-10) m.call) (by rw[hv];rfl)
 unfold iL;rw[h,hv];dsimp only;rw[hf];rfl
theorem QR {s:Server} {m:aC} (h:(aQ m.aR 10 11&&decide (1<=m.call)&&gv s m.key)=true) (hv:(kG s m.key (m.aR-10) m.call).isSome=false) (hf:(j9 (kj s m)&&jw s.ao (fm s m)&&decide (s.aD.length<80))=true):
 iL s m=(fO {s with ao:=fk s.ao (fm s m),aD:=ef s.aD (fm s m).aT},[nE s m (fm s m).aq]):=by
 have hv:=AG (o:=kG s m.key (m.aR-10) m.call) (by rw[hv];rfl)
 unfold iL;rw[h,hv];dsimp only;rw[hf];rfl
theorem ab7 (s:Server) (slot:Int) (hg:bF s):
 Fn Tryz.prog 181 [s.av,AV.int slot] (AV.dx [(eI s slot).1.av,(eI s slot).2.1.av,AV.bool (eI s slot).2.2]):=by
 refine Fn.go 59 Tryz.func181 Tryz.ntmps181 (λW I a U=>?_)
 have aj:=jY.2 hg
 have cT:=hg.ok
 have h3:=hg.aG
 have e9:∀x,x=dG.cells ⟨(ab s.aG slot.toNat).bz+1,2⟩->(List.map dG.cells s.aG).set slot.toNat x=List.map dG.cells (ka s slot).aG:=λx h=>by rw[h];exact List.map_set.symm
 refine bH λI a w U=>?_
 refine U.alloc rfl cm dF λb4 I a w U=>U.alloc rfl dr eb λb5 I a w U=>?_
 refine aF λI a w U=>?_
 refine U.o (.c1 (vw ..)) λU=>?_
 refine ai λI a w U=>?_
 refine U.cd (λae=>?_) λae=>?_
 ·exfalso;rw[aj] at ae;cases ae
  skip
 ·refine bH λI a w U=>?_
  refine U.cG [] (Za s hg.small) (aw .tt aL) rfl (by decide) rfl λmF I a w sq U=>?_
  refine U.alloc rfl cm dF λb7 I a w U=>?_
  refine dD λI a w U=>?_
  refine U.q .F (.cl (jM ..)) λU=>?_
  refine dD λI a w U=>?_
  refine U.q .F ((by first|exact dS fU er .ag .ag (λhg=>by simp[aQ] at hg;omega)|exact fS fU er .ag .ag (λhg=>by simp[aQ] at hg;omega)|exact fZ fU er .ag .ag (λhg=>by simp[aQ] at hg;omega))) λU=>?_
  refine lE λI a w U=>?_
  refine U.q .F ((by first|exact dS fU er .ag .ag (λhg=>by simp[aQ] at hg;omega)|exact fS fU er .ag .ag (λhg=>by simp[aQ] at hg;omega)|exact fZ fU er .ag .ag (λhg=>by simp[aQ] at hg;omega))) λU=>?_
  refine aU λI a w U=>?_
  refine U.cd (λah=>?_) λah=>?_
  ·rw[N7] at ah;replace ah:=nt ah
   obtain⟨I,U⟩:=U.fu 2 2 3
   refine bH λI a w U=>?_
   refine U.o (.bd eb bf.nil) λU=>?_
   refine aI λI a w U=>?_
   refine U.ret rfl (.cons (.sx 0) (.cons (.sx 1) (.cons (.t rfl) aX.nil))) ?_
   exact(by unfold eI;rw[ah];rfl)
  ·rw[N7] at ah;replace ah:=nf ah;have hmp:=w7 ah;have hsr:=wO.1 (DA hg (i:=slot.toNat) (by omega));have xx:=yY hg ah
   refine zt ?_
   obtain⟨sg,akz,e14⟩:=U.j7 2 rfl (by simp only[List.length_map];omega)
   subst e14
   refine U.dt 12 ?_
   simp only[TD]
   refine oY ?_
   refine .o (.bd oe (.k (.k bf.nil))) ?_
   refine .o (jr fU er .tt .tt (λ_=>by simp only[List.length_map];omega)) ?_
   refine .nil ?_
   intro I a w U
   refine U.lX 2 er .tt .tt rfl (by exact fG (by omega)) rfl rfl λa w U=>?_
   refine zt ?_
   rw[e9] at U
   rotate_left
   ·rfl
   obtain⟨I,U⟩:=U.fu 2 2 3
   refine U.dt 4 ?_
   simp only[TD]
   refine cD ?_
   refine .o (bY (QP (ka s slot) slot xx.ao xx.waits hg.site xx.aG (by omega) (jz hg.aD)) (aw (.t rfl) (aw (.t rfl) aL))) ?_
   refine .nil ?_
   intro I a w U
   refine aI λI a w U=>?_
   refine U.ret rfl (.cons (.sx 0) (.cons (.sx 1) (.cons (.t rfl) aX.nil))) ?_
   exact(by unfold eI;rw[ah];rfl)
theorem dw.lens {q:Call} {t:Int} (h:dw q t):1<=q.keys.length/\q.keys.length<=3/\q.ctx.length<=6/\q.aP.length<=6/\q.az.length<=3/\∀a∈q.az,a.be.aO.length<=6:=by
 have h1:=h.keys
 have hu:lI q.keys=true:=by simp only[iZ,Bool.and_eq_true] at h1;exact h1.1
 have h2:1<=q.keys.length/\q.keys.length<=3:=by
  simp only[iZ,Bool.and_eq_true,Bool.or_eq_true,aQ,beq_iff_eq,decide_eq_true_eq] at h1;omega
 have h3:q.az.length<=q.keys.length:=HT hu (Qg.2 ⟨h.has,h.sorted,h.aW⟩)
 exact⟨h2.1,h2.2,gR h.ctx,gR h.aP,by omega,λa ha=>gR (pT (h.aW a ha))⟩
theorem dw.small {q:Call} {t:Int} (h:dw q t):ym q:=by
 have:=h.lens
 exact⟨by omega,by omega,by omega,λa ha=>(by have:=this.2.2.2.2.2 a ha;omega),by omega⟩
theorem ab9 (q:Call) (m:aC) {j:Nat} (hj:j<2):ab (kb q m) j={m with aR:=10+q.an,to:=2*q.an+(j:Int),call:=q.num}:=by
 match j,hj with
 |0,_=>show _={m with aR:=10+q.an,to:=2*q.an+(0:Int),call:=q.num};rw[Int.add_zero];rfl
 |1,_=>rfl
theorem QS (q:Call) (m:aC) {j:Nat} (hj:j<2):(kb q m).take j++[{m with aR:=10+q.an,to:=2*q.an+(j:Int),call:=q.num}]=(kb q m).take (j+1):=by
 rw[<-ab9 q m hj,<-dW hj]
theorem dw.Bh {q:Call} {t:Int} (h:dw q t) (ht:0<=t):0<=q.end_/\q.end_<=t:=by
 by_cases he:q.end_=0
 ·omega
 ·have:=h.ended he;have:=h.bD;omega
theorem QT {q:Call} {a:Answer} {t:Int} {k:Nat} (h:q.aP.length<=k):nH q a t=if(pI q a k=[]/\q.aP≠[]) then{q with az:=pL q a k,aP:=pI q a k,end_:=t} else{q with az:=pL q a k,aP:=pI q a k}:=by
 unfold nH pI pL
 rw[List.take_of_length_le h]
 by_cases hm:a.be.aT∈q.aP
 ·rw[if_pos hm,if_pos hm]
  have bj:q.aP≠[]:=λe=>by rw[e] at hm;simp at hm
  dsimp only
  by_cases he:(q.aP.filter λd=>decide (d≠a.be.aT))=[]
  ·rw[if_pos he,if_pos ⟨he,bj⟩]
  ·rw[if_neg he,if_neg λhh=>he hh.1]
 ·rw[if_neg hm,if_neg hm]
  have hf:(q.aP.filter λd=>decide (d≠a.be.aT))=q.aP:=by
   rw[List.filter_eq_self];intro d hd;simp;rintro rfl;exact hm hd
  rw[hf,if_neg λhh=>hh.2 hh.1]
theorem QU (q:Call) (m:aC) (t:Int) (he:0<=q.end_):(!bO m||(m.to !=10+q.an)||(m.call !=q.num)||!gU q.keys m.key||decide (0<q.end_)||q.over||decide (t<=q.bD))=
 !(bO m&&(m.to==10+q.an)&&(m.call==q.num)&&gU q.keys m.key&&gQ q&&decide (q.bD<t)):=by
 have e1:decide (0<q.end_)=!(q.end_==0):=by rw[Bool.eq_iff_iff];simp;omega
 have e2:decide (t<=q.bD)=!decide (q.bD<t):=by rw[Bool.eq_iff_iff];simp
 unfold gQ
 rw[e1,e2];simp[bne,Bool.or_assoc]
theorem aca {q:Call} {t:Int} (h:dw q t) {x:Answer} {k:Nat} (hk:k<q.aP.length) (he:ab q.aP k=x.be.aT) (hx:x.be.key=x.key):0<=cv q x.key:=by
 have:=h.xy _ (aV hk)
 unfold rY at this
 rw[Bool.and_eq_true,decide_eq_true_eq,he] at this
 rw[<-hx];exact this.1
theorem acb {q:Call} {t0:Int} (h:dw q t0) {a:Answer} (hk:a.be.aT∈q.aP) (he:a.be.key=a.key):q.aP.filter (λd=>!decide (d.key=a.key))=q.aP.filter λd=>decide (d≠a.be.aT):=by
 apply List.filter_congr
 intro d hd
 by_cases e:d.key=a.key
 ·have:d=a.be.aT:=HC h.aP hd hk (e.trans he.symm)
  rw[decide_eq_true e,this];simp
 ·rw[decide_eq_false e]
  have:d≠a.be.aT:=λe2=>e (by rw[e2];exact he)
  rw[decide_eq_true this];rfl
theorem acd {q:Call} {m:aC} {t t0:Int} (h:dw q t0) (hv:m.kind=4/\(m.yes=true->m.ao.length=1/\(ab m.ao 0).key=m.key)) (jh:gU q.keys m.key=true) (hb:(decide (cv q m.key<0)&&dL m.aq)=true) (ha:pP {q with az:=cR q.az (dN m)}=false):jW q m t={q with az:=cR q.az (dN m)}:=by
 rw[Bool.and_eq_true,decide_eq_true_eq] at hb
 have bw:=(DW h jh hb.1).2
 unfold jW
 rw[if_pos hv,if_pos hb.1,if_pos hb.2]
 unfold na
 dsimp only
 rw[if_pos]
 have:¬((cR q.az (dN m)).length:Int)=q.keys.length:=by simpa[pP] using ha
 rw[w8] at this⊢;omega
theorem QV {q:Call} {m:aC} {t t0:Int} (h:dw q t0) (hv:m.kind=4/\(m.yes=true->m.ao.length=1/\(ab m.ao 0).key=m.key)) (jh:gU q.keys m.key=true) (hb:(decide (cv q m.key<0)&&dL m.aq)=true) (ha:pP {q with az:=cR q.az (dN m)}=true):
 jW q m t=if kO {q with az:=cR q.az (dN m)}=[] then{q with az:=cR q.az (dN m),aP:=kO {q with az:=cR q.az (dN m)},end_:=t} else{q with az:=cR q.az (dN m),aP:=kO {q with az:=cR q.az (dN m)}}:=by
 rw[Bool.and_eq_true,decide_eq_true_eq] at hb
 have ss:=(DW h jh hb.1).1
 have:((cR q.az (dN m)).length:Int)=q.keys.length:=by simpa[pP] using ha
 unfold jW
 rw[if_pos hv,if_pos hb.1,if_pos hb.2]
 unfold na l7
 dsimp only
 rw[if_neg (by omega)]
 generalize kO {q with az:=cR q.az (dN m)}=y
 rw[ss,List.nil_append]
theorem QW {q:Call} {m:aC} {t t0:Int} (h:dw q t0) (hm:dB (dN m)=true) (hv:m.kind=4/\(m.yes=true->m.ao.length=1/\(ab m.ao 0).key=m.key)) (hb:(decide (0<=cv q m.key)&&m.yes&&decide (0<=fH q.aP (dN m).be.aT))=true):
 jW q m t=if(q.aP.filter λd=>!decide (d.key=m.key))=[] then{q with az:=q.az.set (cv q m.key).toNat (dN m),aP:=q.aP.filter (λd=>!decide (d.key=m.key)),end_:=t} else{q with az:=q.az.set (cv q m.key).toNat (dN m),aP:=q.aP.filter λd=>!decide (d.key=m.key)}:=by
 simp only[Bool.and_eq_true,decide_eq_true_eq] at hb
 obtain⟨⟨h1,h2⟩,h3⟩:=hb
 have uD:=xj.1 h3
 have hk:(dN m).be.key=(dN m).key:=(pJ hm h2).2
 rw[show(λd:au=>!decide (d.key=m.key))=λd=>!decide (d.key=(dN m).key) from rfl,acb h uD hk]
 unfold jW
 rw[if_pos hv,if_neg (by omega),if_pos h2]
 unfold nH
 rw[if_pos uD];rfl
theorem ace {q:Call} {m:aC} {t:Int} (hv:m.kind=4/\(m.yes=true->m.ao.length=1/\(ab m.ao 0).key=m.key)) (hb:(decide (cv q m.key<0)&&dL m.aq)=false) (ah:(decide (0<=cv q m.key)&&m.yes&&decide (0<=fH q.aP (dN m).be.aT))=false):jW q m t=q:=by
 unfold jW
 rw[if_pos hv]
 by_cases hg:cv q m.key<0
 ·rw[decide_eq_true hg,Bool.true_and] at hb
  rw[if_pos hg,if_neg (by rw[hb];simp)]
 ·rw[if_neg hg]
  split
  ·rename_i hy
   rw[decide_eq_true (by omega),hy,Bool.true_and,Bool.true_and,decide_eq_false_iff_not,xj] at ah
   unfold nH
   rw[if_neg ah]
  ·rfl
theorem QX (l:List aB) (key:Int) (hd:∀v∈l,v.aO.length<=1048576):Fn Tryz.prog 261 [bX l,.int key] (.dx [((fA l key).getD default).av,.bool (fA l key).isSome]):=by
 refine⟨qf.of Tryz.func261 rfl (by kernel_rfl),λI0 w0 vs hm ha=>(callsIn_wide (n:=3)).1 ?_⟩
 refine Wa (F:=lu) 19 Tryz.func261 rfl Tryz.ntmps261 rfl hm ha λa U=>?_
 have hQ:∀a w',¬bodyPostM Fence.wide 3 Tryz.prog Tryz.f261 (xI I0 w0 (.dx [((fA l key).getD default).av,.bool (fA l key).isSome])) .outgrown a w':=λa w' h=>h
 refine wpIn_seq (ya (by exact hQ) rfl ?_)
 refine U.o (xL .tt (by first|exact jR rfl|exact j0|exact j1|exact j6)) λU=>?_
 refine U.alloc rfl bA dE λb4 I a w U=>?_
 refine U.alloc rfl x4 UX λb5 I a w U=>?_
 refine nn (wpIn_seq (wpIn_seq (ya (by exact hQ) rfl ?_)))
 refine bH λI a w U=>?_
 refine U.o (.c1 (Yc l)) λ{I1 a1 w1} U=>nn ?_
 refine wpIn_block ?_
 obtain⟨p,hp9,hp⟩:∃p,a1.eval (.tmp 9)=.func (.func 278) #[] #[p]/\(AV.ptr [bX l]).h I1 p:=by
  obtain⟨cs,e,h⟩:=U.env 9 _ rfl
  obtain⟨cs⟩:=cs
  match cs,h with
  |[p],h=>exact⟨p,e,h.1⟩
 have hcx:=U
 have U:=U.re
 obtain⟨H1,vA⟩:∃H1,H1=[Own.box b4 43 [AV.val (.int .i64 0),AV.val (.int .i64 0),AV.val (.int .i64 0),AV.val (.int .i64 0),AV.val (.int .i64 0),AV.val (.int .i64 0),AV.rows 3 []],Own.box b5 4 [AV.bool false]]:=⟨_,rfl⟩
 have ae:boxes H1:=λo ho=>by
  rw[vA] at ho
  rcases List.mem_cons.1 ho with rfl|ho
  ·exact⟨_,_,_,rfl⟩
  ·rcases List.mem_cons.1 ho with rfl|ho
   ·exact⟨_,_,_,rfl⟩
   ·cases ho
 have QY:∀u v,boxes [Own.box b4 43 u,Own.box b5 4 v]:=λu v o ho=>by
  rcases List.mem_cons.1 ho with rfl|ho
  ·exact⟨_,_,_,rfl⟩
  ·rcases List.mem_cons.1 ho with rfl|ho
   ·exact⟨_,_,_,rfl⟩
   ·cases ho
 have U:St ⟨w1,I1,19,eE H1⟩ I1 H1 [(5,.val (.pointer (some ⟨b5,0,none⟩))),(4,.val (.pointer (some ⟨b4,0,none⟩))),(3,.ptr [.int key])] a1 w1:=by
  rw[vA];exact U.pick _
 have bw:∀b,eE H1 b->b<w1.heap.size/\I1 b=none:=λb h=>by
  obtain⟨o,ho,e⟩:=List.mem_filterMap.1 h
  exact⟨((U.own.all o ho).2 b e).2.2,((U.own.all o ho).2 b e).2.1⟩
 have zT:=U
 have nz:St _ I1 H1 [(5,.val (.pointer (some ⟨b5,0,none⟩))),(4,.val (.pointer (some ⟨b4,0,none⟩)))] a1 w1:=(hcx.pick _).yc (by rw[vA];rfl)
 have fin:∀{D:Nat} {W:World} {a2 a3:Act} {I:Im} {u:List AV} {b:Bool} {Γ:Env},w1.heap.size<=D->St ⟨w1,I1,19,eE H1⟩ I [Own.box b4 43 u,Own.box b5 4 [.bool b]] ((5,.val (.pointer (some ⟨b5,0,none⟩)))::(4,.val (.pointer (some ⟨b4,0,none⟩)))::Γ) a2 W->W.heap[D]?=some (.deferred (some []))->u.length=7->AV.dx [.agg u,.bool b]=.dx [((fA l key).getD default).av,.bool (fA l key).isSome]->
  a3.tmps=a2.tmps->a3.defers=[{target:=.collected D,args:=#[]}]->bodyPostM Fence.wide 3 Tryz.prog Tryz.f261 (xI I0 w0 (.dx [((fA l key).getD default).av,.bool (fA l key).isSome])) .ret a3 W:=λ{D W a2 a3 I u b Γ} hD hi hK hu he h1 h2=>by
  show LeavesInM _ _ _ _ a3.tmps _ a3.defers _ _
  rw[h1,h2]
  exact(nz.un hi).leave (QY _ _) (Nat.le_trans nz.step.below.size hD) hK rfl rfl (.cons (.s 0 bA rfl rfl hu) (.cons (.cc 1 x4 rfl rfl) aX.nil)) he
 refine wpIn_rangeFunc_ownH (n:=3) rfl (by decide) hp9 trivial (qf.of Tryz.func278 rfl (by kernel_rfl)) (aaK l 2 (by decide) I1 w1 U.step.c9 (λb=>w1.heap.size<=b\/eE H1 b) (λb cs e h=>h.elim (λh=>by have:=U.step.c9.lt e;omega) λh=>by rw[(bw b h).2] at e;cases e) p hp)
  (λh k=>h.trans k) (λW l o o' h _ _ _=>Wd (λb h=>.inl h) W l o' h) (Below.refl _ _) (λ_=>rfl)
  (λpre W=>(∀x∈pre,qD key (ab l x.1.1)=false)/\∃I,St ⟨w1,I1,19,eE H1⟩ I H1 [(5,.val (.pointer (some ⟨b5,0,none⟩))),(4,.val (.pointer (some ⟨b4,0,none⟩))),(3,.ptr [.int key])] a1 W)
  (λc (pre:List (tQ l I1)) W=>c=.ret/\∃(x:tQ l I1) (q:List (tQ l I1)),pre=q++[x]/\(∀y∈q,qD key (ab l y.1.1)=false)/\qD key (ab l x.1.1)=true/\∃I,St ⟨w1,I1,19,eE H1⟩ I [Own.box b4 43 (ab l x.1.1).cells,Own.box b5 4 [AV.bool true]] [(5,.val (.pointer (some ⟨b5,0,none⟩))),(4,.val (.pointer (some ⟨b4,0,none⟩))),(3,.ptr [.int key])] a1 W)
  (λs A B row h hg hr=>⟨h.1,h.2.imp λI k=>k.Cw ae hg hr⟩)
  (λc s A B row h hg hr=>by obtain⟨h0,x,q,e,h1,h2,I,k⟩:=h;exact⟨h0,x,q,e,h1,h2,I,k.Cw (QY _ _) hg hr⟩)
  ⟨λx h=>(by cases h),I1,U⟩
  (λx a' W=>∃I b7,St ⟨w1,I1,19,eE H1⟩ I (H1++[Own.box b7 43 (ab l x.1.1).cells]) [(7,.val (.pointer (some ⟨b7,0,none⟩))),(5,.val (.pointer (some ⟨b5,0,none⟩))),(4,.val (.pointer (some ⟨b4,0,none⟩))),(3,.ptr [.int key])] a' W)
  (λx a' s A B row h hg hr=>h.imp λI k=>k.imp λb7 k=>k.Cw (λo ho=>(List.mem_append.1 ho).elim (ae o) λho=>⟨_,_,_,List.mem_singleton.1 ho⟩) hg hr)
  ?assign ?body ?done ?stop
 case assign=>
  rintro l1 pre x W K ⟨kY,I,hi⟩ hK
  have hr:=hi.re
  have e:({tmps:=(((#[10,11]:Array Nat).zip #[Value.int .i64 x.1.1,x.1.2]).foldl (λt (p,v)=>t.setIfInBounds p v) a1.tmps),defers:=[]}:Act)=(a1.put (some 10) (.int .i64 x.1.1)).put (some 11) x.1.2:=by
   have:=hi.defers
   cases a1;simp at this;subst this;simp[Act.put]
  have U:=(hr.Cv (d:=10) (x:=.int x.1.1) (v:=.int .i64 x.1.1) (show 10<19 from by decide) rfl).Cv (d:=11) (x:=(ab l x.1.1).av) (v:=x.1.2) (show 11<19 from by decide) ((ab l x.1.1).av.up _ _ _ hi.step.le x.2.2)
  rw[<-e] at U
  have U:=U.yc vA
  refine F9 (by exactλ_ _ h=>h) rfl ?_
  refine U.alloc rfl bA dE λb7 I2 a w U=>?_
  refine bH λI2 a w U=>?_
  have U:St _ I2 (H1++[Own.box b7 43 (ab l x.1.1).cells]) [(7,.val (.pointer (some ⟨b7,0,none⟩))),(5,.val (.pointer (some ⟨b5,0,none⟩))),(4,.val (.pointer (some ⟨b4,0,none⟩))),(3,.ptr [.int key])] a w:=(U.pick _).yc (by rw[vA];rfl)
  have hu:=hi.un U
  refine wpList_nil (aY ?_)
  exact hK _ _ ((U.keeps hi.own ae).from _) (hi.Mp U) ⟨kY,_,zT.back hu hu.step.le⟩ ⟨_,_,hu⟩
 case body=>
  rintro l1 pre x a' W hl _ ⟨kY,_⟩ ⟨I,b7,hi⟩ hlen
  have al:boxes (H1++[Own.box b7 43 (ab l x.1.1).cells]):=λo ho=>(List.mem_append.1 ho).elim (ae o) λho=>⟨_,_,_,List.mem_singleton.1 ho⟩
  have U:=hi.re.yc (H':=[Own.box b4 43 [AV.val (.int .i64 0),AV.val (.int .i64 0),AV.val (.int .i64 0),AV.val (.int .i64 0),AV.val (.int .i64 0),AV.val (.int .i64 0),AV.rows 3 []],Own.box b5 4 [AV.bool false],Own.box b7 43 (ab l x.1.1).cells]) (by rw[vA];rfl)
  refine wpIn_block (wpIn_seq (F9 (by exactλ_ _ h=>h) rfl ?_))
  refine bt λI2 a w U=>?_
  refine nn ?_
  refine wpIn_cond_split (U.env 15 _ rfl) (λhb=>?_) (λhb=>?_)
  ·refine wpIn_seq (F9 (by exactλ_ _ h=>h) rfl ?_)
   refine bH λI2 a w U=>?_
   refine U.o (.c1 (w5 _ (hd _ (aV x.2.1)))) λU=>?_
   refine aF λI2 a w U=>?_
   refine nn (wpIn_ret (vN ?_))
   have U:St _ I2 ([Own.box b4 43 (ab l x.1.1).cells,Own.box b5 4 [.bool true]]++[Own.box b7 43 (ab l x.1.1).cells]) [(3,.ptr [.int key])] a w:=U.pick _
   have hu:=hi.un U
   exact⟨(U.keeps hi.own al).from _,rfl,x,pre,rfl,kY,hb,_,zT.back hu hu.step.le⟩
  ·refine wpIn_skip (zA ?_)
   have U:St _ I2 (H1++[Own.box b7 43 (ab l x.1.1).cells]) [(3,.ptr [.int key])] a w:=(U.pick _).yc (by rw[vA];rfl)
   have hu:=hi.un U
   exact⟨(U.keeps hi.own al).from _,hi.Mp U,λy hy=>(List.mem_append.1 hy).elim (kY y) λhy=>by rw[List.mem_singleton.1 hy];exact hb,_,zT.back hu hu.step.le⟩
 case done=>
  rintro D xs W hD ⟨hlen,rF⟩ ⟨kY,I,hi⟩ hK
  have IF:fA l key=none:=OY λi hi=>by
   have hj:l.length-1-i<xs.length:=by omega
   have:=rF _ _ (List.getElem?_eq_getElem hj)
   have h2:=kY _ (List.getElem_mem hj)
   rw[show i=xs[l.length-1-i].1.1 from by omega];exact h2
  refine zA (aY (wpIn_seq (ya (by exact hQ) rfl ?_)))
  have e:({a1 with defers:={target:=.collected D,args:=#[]}::a1.defers}:Act)=Act.defer a1 [{target:=.collected D,args:=#[]}]:=by simp[Act.defer,hi.defers]
  rw[e]
  have U:=hi.re.yc vA
  refine Mj (Q:=Exit.then (λa' W'=>∃I',St ⟨W,I,19,eE H1⟩ I' [Own.box b4 43 [AV.val (.int .i64 0),AV.val (.int .i64 0),AV.val (.int .i64 0),AV.val (.int .i64 0),AV.val (.int .i64 0),AV.val (.int .i64 0),AV.rows 3 []],Own.box b5 4 [.bool false]] [(5,.val (.pointer (some ⟨b5,0,none⟩))),(4,.val (.pointer (some ⟨b4,0,none⟩)))] a' W') (λ_ _ _=>False)) _ (λe a' W' h=>?_) _ _ _ ?_
  ·cases e with
   |normal=>
    obtain⟨I',h⟩:=h
    refine aY (wpIn_ret ?_)
    exact fin hD (hi.un h) ((h.keeps hi.own ae).same D _ hK rfl) rfl (by rw[IF];rfl) rfl (by simp[Act.defer,h.defers])
   |_=>exact h.elim
  ·refine U.o (.bd dE bf.nil) λU=>?_
   refine aF λI2 a w U=>?_
   exact wpList_nil (aY ⟨_,U.pick _⟩)
 case stop=>
  rintro D c pre W hD QZ ⟨rfl,x,q,rfl,hq,jh,I,hi⟩ hK
  have hx:x.1.1+1+q.length=l.length:=QZ q.length x (by simp)
  have IF:fA l key=some (ab l x.1.1):=Nn x.2.1 (λi h1 h2=>by
   have hj:l.length-1-i<q.length:=by omega
   have:=QZ (l.length-1-i) q[l.length-1-i] (by rw[List.getElem?_append_left hj,List.getElem?_eq_getElem hj])
   have h3:=hq _ (List.getElem_mem hj)
   rw[show i=q[l.length-1-i].1.1 from by omega];exact h3) jh
  refine wpIn_ret (vN (xK ?_))
  exact fin hD hi hK rfl (by rw[IF];rfl) rfl (by simp[hi.defers])
theorem Q0 {s:Server} {m:aC} {y:Bool} {v:aB} (h:v.aO.length<=1048576):kD ⟨4,0,0,m.call,m.key,m.aq,0,y,[],0,0,[v],[],[]⟩:=⟨Nat.zero_le _,⟨by simp,λx hx=>by obtain rfl:=List.mem_singleton.1 hx;exact h⟩,⟨Nat.zero_le _,λ_ h=>by cases h⟩,Nat.zero_le _⟩
theorem ach (s:Server) (m:aC) (hg:bF s) (ho:(aQ m.aR 10 11&&decide (1<=m.call)&&gv s m.key)=true):
 Fn Tryz.prog 244 [s.av,m.av] (AV.dx [((s,jm s m)).1.av,bq ((s,jm s m)).2]):=by
 refine Fn.go 55 Tryz.func244 Tryz.ntmps244 (λW I a U=>?_)
 have aj:=jY.2 hg
 have cT:=hg.ok
 have jE:=hg.small
 have rB:∀v∈s.ao,v.aO.length<=1048576:=jE.2.1.2
 refine aF λI a w U=>?_
 refine U.alloc rfl cm dF λb4 I a w U=>?_
 refine gz λI a w U=>?_
 refine U.o (.bd eb (.k (.k (.k (.t bf.nil))))) λU=>?_
 refine U.alloc rfl dr eb λb6 I a w U=>?_
 refine bM λI a w U=>?_
 refine U.o (.cl (QX s.ao m.key rB)) λU=>?_
 refine bk λI a w U=>?_
 refine U.alloc rfl bA dE λb7 I a w U=>?_
 refine bt λI a w U=>?_
 refine U.o (.c1 (vf ..)) λU=>?_
 refine ai λI a w U=>?_
 refine U.cd (λae=>?_) λae=>?_
 ·replace ae:=nt ae
  refine dD λI a w U=>?_
  refine U.o (.bd fL (.k (.t bf.nil))) λU=>?_
  refine U.o (.cl (oj s.ao ⟨m.key,m.aq⟩)) λU=>?_
  refine aI λI a w U=>?_
  refine U.cd (λah=>?_) λah=>?_
  ·refine aI λI a w U=>?_
   refine U.ret rfl (.cons (.sx 0) (.cons (.nil (sz:=15) rfl) aX.nil)) ?_
   exact(by show AV.dx [s.av,_]=AV.dx [s.av,bq (jm s m)];unfold jm;rw[ho,if_pos rfl];rw[ae,if_neg (by simp),show dU s.ao ⟨m.key,m.aq⟩=none from by unfold dU;rw[if_neg (by simpa using ah)]];rfl)
  ·refine bk λI a w U=>?_
   refine U.o ((by first|exact dS cJ bA .tt .tt (λ_=>by have:=AL ah;omega)|exact fS cJ bA .tt .tt (λ_=>by have:=AL ah;omega)|exact fZ cJ bA .tt .tt (λ_=>by have:=AL ah;omega))) λU=>?_
   refine aU λI a w U=>?_
   refine U.cd (λal=>?_) λal=>?_
   ·refine U.eo [([2],none),([],none),([],none),([1],some (1,[])),([],none),([1],some (1,[]))] (by kernel_rfl) (by kernel_rfl) rfl ?_
    refine .r [2] (.ls 2) ?_
    refine .o (.li [_] lH (.u .nil)) ?_
    refine bn ?_
    refine aS.iW (x:=AV.any) 1 (λF W0 I0 I a w Q U kk=>U.s1 1 λU=>kk _ _ _ U) ?_
    refine bn ?_
    refine aS.iW (x:=AV.any) 1 (λF W0 I0 I a w Q U kk=>U.s1 1 λU=>kk _ _ _ U) ?_
    refine .nil ?_
    intro I a w U
    refine zt ?_
    refine U.dt 5 ?_
    simp only[TD]
    refine dq ?_
    refine .o (bY (ub s m ⟨4,0,0,m.call,m.key,m.aq,0,true,[],0,0,[ab s.ao (placeOf s.ao ⟨m.key,m.aq⟩).toNat],[],[]⟩ (Q0 (s:=s) (rB _ (aV (by have:=AL ah;omega))))) (aw (.t rfl) (aw (.t rfl) (aw (.t rfl) aL)))) ?_
    refine .nil ?_
    intro I a w U
    refine aA λI a w U=>?_
    refine U.ret rfl (.cons (.sx 0) (.cons .x aX.nil)) ?_
    exact(by show AV.dx [s.av,_]=AV.dx [s.av,bq (jm s m)];unfold jm;rw[ho,if_pos rfl];rw[ae,if_neg (by simp),(AL ah).2.2];rfl)
   ·cases al
    skip
 ·replace ae:=nf ae
  refine ai λI a w U=>?_
  refine U.cd (λaH=>?_) λaH=>?_
  ·refine U.eo [([2],none),([],none),([],none),([1],some (1,[])),([],none),([1],some (1,[]))] (by kernel_rfl) (by kernel_rfl) rfl ?_
   refine .r [2] (.ls 2) ?_
   refine .o (.li [_] lH (.u .nil)) ?_
   refine bn ?_
   refine aS.iW (x:=AV.any) 1 (λF W0 I0 I a w Q U kk=>U.s1 1 λU=>kk _ _ _ U) ?_
   refine bn ?_
   refine aS.iW (x:=AV.any) 1 (λF W0 I0 I a w Q U kk=>U.s1 1 λU=>kk _ _ _ U) ?_
   refine .nil ?_
   intro I a w U
   refine zt ?_
   refine U.dt 5 ?_
   simp only[TD]
   refine dq ?_
   refine .o (bY (ub s m ⟨4,0,0,m.call,m.key,m.aq,0,true,[],0,0,[(fA s.ao m.key).getD default],[],[]⟩ (Q0 (s:=s) (by obtain⟨v,hv⟩:=Option.isSome_iff_exists.1 aH;rw[hv];exact rB _ (Ay hv).1))) (aw (.t rfl) (aw (.t rfl) (aw (.t rfl) aL)))) ?_
   refine .nil ?_
   intro I a w U
   refine aA λI a w U=>?_
   refine U.ret rfl (.cons (.sx 0) (.cons .x aX.nil)) ?_
   exact(by show AV.dx [s.av,_]=AV.dx [s.av,bq (jm s m)];unfold jm;rw[ho,if_pos rfl];rw[ae,if_pos rfl];obtain⟨v,hv⟩:=Option.isSome_iff_exists.1 aH;unfold nF;rw[hv];rfl)
  ·refine zt ?_
   refine U.dt 5 ?_
   simp only[TD]
   refine dq ?_
   refine .o (.c3 (ub s m ⟨4,0,0,m.call,m.key,m.aq,0,false,[],0,0,[],[],[]⟩ (wJ ..)))<|.nil ?_
   intro I a w U
   refine aA λI a w U=>?_
   refine U.ret rfl (.cons (.sx 0) (.cons .x aX.nil)) ?_
   exact(by show AV.dx [s.av,_]=AV.dx [s.av,bq (jm s m)];unfold jm;rw[ho,if_pos rfl];rw[ae,if_pos rfl];unfold nF;rw[show fA s.ao m.key=none from AG (by rw[aH];rfl)];rfl)
theorem Q1 (s:Server) (m:aC) (v:aB):(v.key==m.key&&v.an==m.aR-10&&v.call==m.call&&!(bL v.aq.site !=bL s.site))=o4 s m.key (m.aR-10) m.call v:=by unfold o4;simp[bne]
theorem Q2 {s:Server} {m:aC} {k:Nat} (hk:k<s.ao.length) (h:∀i,i<k->o4 s m.key (m.aR-10) m.call (ab s.ao i)=false) (hp:o4 s m.key (m.aR-10) m.call (ab s.ao k)=true):kG s m.key (m.aR-10) m.call=some (ab s.ao k):=NV hk h hp
theorem IG {s:Server} {m:aC} {k:Nat} (hk:s.ao.length<=k) (h:∀i,i<k->o4 s m.key (m.aR-10) m.call (ab s.ao i)=false):(kG s m.key (m.aR-10) m.call).isSome=false:=by unfold kG;rw[NW hk h];rfl
theorem DY {s:Server} {m:aC} {k:Int} (h:(m.kind==k&&ff (m.aR-10)&&decide (0<m.call)&&gv s m.key)=true):m.kind=k/\(aQ m.aR 10 11&&decide (1<=m.call)&&gv s m.key)=true:=by
 rw[Oc] at h
 simp only[Bool.and_eq_true,beq_iff_eq,decide_eq_true_eq] at h⊢
 exact⟨h.1.1.1,⟨h.1.1.2,by omega⟩,h.2⟩
theorem Q3 {s:Server} {m:aC} {k:Int} (h:(m.kind==k&&ff (m.aR-10)&&decide (0<m.call)&&gv s m.key)=false) (hk:m.kind=k):(aQ m.aR 10 11&&decide (1<=m.call)&&gv s m.key)=false:=by
 rw[Oc,hk] at h
 simp only[beq_self_eq_true,Bool.true_and] at h
 rw[show decide (1<=m.call)=decide (0<m.call) from by rw[Bool.eq_iff_iff];simp;omega]
 exact h
theorem aci {s:Server} {m:aC} (hm:bO m=true) (h1:(m.kind==1&&ff (m.aR-10)&&decide (0<m.call)&&gv s m.key)=false) (h2:(m.kind==3&&ff (m.aR-10)&&decide (0<m.call)&&gv s m.key)=false)
 (h3:(m.kind==5&&(cL m.aR&&(bL m.aR !=bL s.site)))=false) (h4:(m.kind==6&&(cL m.aR&&(bL m.aR !=bL s.site))&&gv s m.key)=false) (h5:(m.kind==7&&(m.aR==fl s.site)&&decide (0<=placeOf s.ao ⟨m.key,m.aq⟩))=false)
 (h6:(m.kind==8&&(m.aR==fl s.site)&&jy s ⟨m.key,m.aq⟩&&decide ((s.bl.length:Int)<80))=false) (h7:(m.kind==9&&(m.aR==fl s.site)&&decide (0<m.bz))=false)
 (h8:(m.kind==10&&(m.aR==fl s.site)&&([(ab s.aG m.slot.toNat).bz,(ab s.aG m.slot.toNat).dH]==[m.bz,2]))=false):eG s m=(s,[]):=by
 rw[Bool.and_assoc] at h4 h5 h7 h8
 rw[Bool.and_assoc,Bool.and_assoc] at h6
 unfold eG
 by_cases k1:m.kind=1
 ·rw[if_pos k1];unfold iL;rw[Q3 h1 k1];rfl
 rw[if_neg k1]
 by_cases k3:m.kind=3
 ·rw[if_pos k3];unfold jm;rw[Q3 h2 k3];rfl
 rw[if_neg k3]
 by_cases k5:m.kind=5
 ·rw[if_pos k5];unfold jb vi;rw[yA h3 k5];rfl
 rw[if_neg k5]
 by_cases k6:m.kind=6
 ·have h:=yA h4 k6
  rw[if_pos k6];unfold mY
  rw[if_neg]
  intro e
  unfold gv at h
  rw[NY hm,Bool.true_and] at h
  simp only[Bool.and_eq_true] at e
  rw[e.1.1.1,e.1.1.2,e.2] at h;cases h
 rw[if_neg k6]
 by_cases k7:m.kind=7
 ·have h:=yA h5 k7
  rw[if_pos k7];unfold oC dU
  rw[if_neg]
  intro e
  rw[Bool.and_eq_true] at e
  split at e
  ·rename_i hp;rw[e.2,decide_eq_true hp] at h;cases h
  ·cases e.1
 rw[if_neg k7]
 by_cases k8:m.kind=8
 ·have h:=yA h6 k8
  rw[if_pos k8];unfold nN
  rw[if_neg]
  intro e
  simp only[Bool.and_eq_true,decide_eq_true_eq] at e
  rw[e.1.1,e.1.2,decide_eq_true (by omega)] at h;cases h
 rw[if_neg k8]
 by_cases k9:m.kind=9
 ·have h:=yA h7 k9
  rw[if_pos k9];unfold gV
  rw[if_neg]
  intro e
  simp only[Bool.and_eq_true,decide_eq_true_eq] at e
  rw[e.1,decide_eq_true (by omega)] at h;cases h
 rw[if_neg k9]
 by_cases nS:m.kind=10
 ·have h:=yA h8 nS
  rw[if_pos nS];unfold m7
  rw[if_neg]
  intro e
  simp only[Bool.and_eq_true,beq_iff_eq] at e
  rw[e.1.2,e.2,e.1.1] at h;simp at h
 rw[if_neg nS]
theorem DZ {e:Ev} (h:((e.call==2)&&decide (e.a<e.b))=false):mE e=[e.a]:=by
 unfold mE;rw[if_neg];simpa using h
theorem D0 {e:Ev} (h:((e.call==2)&&decide (e.a<e.b))=true) (h2:¬e.b<e.c):mE e=[e.a,e.b]:=by
 unfold mE;rw[if_pos (by simpa using h),if_neg h2]
theorem D1 {e:Ev} (h:((e.call==2)&&decide (e.a<e.b))=true) (h2:e.b<e.c):mE e=[e.a,e.b,e.c]:=by
 unfold mE;rw[if_pos (by simpa using h),if_pos h2]
theorem acj (e:Ev):
 Fn Tryz.prog 206 [e.av] (jg (mE e)):=by
 refine Fn.go 33 Tryz.func206 Tryz.ntmps206 (λW I a U=>?_)
 refine bt λI a w U=>?_
 refine U.Cg (js:=[[AV.int e.a]]) rfl ju gO rfl uP rfl rfl rfl (bf.c rfl rfl .tt (by first|exact jR rfl|exact j0|exact j1|exact j6) bf.nil) rfl rfl (by simp only[List.forall_mem_cons];exact⟨rfl,λ_ h=>by simp at h⟩) rfl λb6 I a w U=>?_
 refine Cm λI a w U=>?_
 refine U.cd (λae=>?_) λae=>?_
 ·refine bk λI a w U=>?_
  refine U.o (.li [[AV.int e.b]] uP (.v .nil)) λU=>?_
  refine U.append 0 rfl ju gO rfl .tt .r rfl (by simp) λPW a w U=>?_
  refine jj λI a w U=>?_
  refine cz (λah=>?_) λah=>?_
  ·refine bk λI a w U=>?_
   refine U.o (.li [[AV.int e.c]] uP (.v .nil)) λU=>?_
   refine U.append 0 rfl ju gO rfl .tt .r rfl (by simp) λv31 a w U=>?_
   refine aI λI a w U=>?_
   obtain⟨I,U⟩:=U.fr 0 2
   refine U.rt ?_
   exact(by rw[D1 ae ah];rfl)
  ·refine aA λI a w U=>?_
   obtain⟨I,U⟩:=U.fr 0 2
   refine U.rt ?_
   exact(by rw[D0 ae (by simpa using ah)];rfl)
 ·refine aA λI a w U=>?_
  obtain⟨I,U⟩:=U.fr 0 2
  refine U.rt ?_
  exact(by rw[DZ ae];rfl)
theorem cx.lens {w:aE} (h:cx w):w.calls.length<=20/\∀q∈w.calls,q.az.length<=3:=⟨(ug.1 h.calls).1,λq hq=>by
 obtain⟨k,hk,rfl⟩:=gq hq
 exact(h.call hk).lens.2.2.2.2.1⟩
theorem ack {x:aE} {e:Ev} (hg:cx x) (h:0<=e.an/\e.an<=1) {q:Call} (hq:q∈x.calls++[jx x e]):gh q.an:=by
 rcases List.mem_append.1 hq with hq|hq
 ·obtain⟨k,hk,rfl⟩:=gq hq
  have:=qt.1 (hg.call hk).an
  unfold gh;omega
 ·obtain rfl:=List.mem_singleton.1 hq
  show gh e.an
  unfold gh;omega
end Go.Proofs.YtjepcfpkclegdaaGreat

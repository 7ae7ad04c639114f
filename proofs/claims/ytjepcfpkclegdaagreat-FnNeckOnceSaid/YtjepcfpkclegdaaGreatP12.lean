/- Part 12: contracts of functions, plain facts. -/
import Derived.Test.YtjepcfpkclegdaaGreatP06
import Derived.Test.YtjepcfpkclegdaaGreatP07
import Derived.Test.YtjepcfpkclegdaaGreatP08
import Derived.Test.YtjepcfpkclegdaaGreatP09
set_option linter.unusedVariables false
set_option linter.unusedSimpArgs false
set_option maxRecDepth 100000
set_option maxHeartbeats 4000000
namespace Go.Proofs.YtjepcfpkclegdaaGreat
open Go Go.RowKit
attribute [local irreducible] wpList Code.wp Ok
def gK (s:Server):Bool:=tI s&&cF s.aG.length (r6 s)&&cF s.ao.length (tJ s)&&cF s.waits.length (r9 s)&&rV s.ao s.aD
def qP (w:aE) (i:Nat):Bool:=((ab w.ax i).site==(i:Int))&&gK (ab w.ax i)
theorem Hy (w:aE) (k:Nat):(((ab w.ax k).site !=(k:Int))||!gK (ab w.ax k))=!qP w k:=by simp[qP,bne]
theorem Pg (w:aE) (k:Nat):(!gK (ab w.ax k)||((ab w.ax k).site !=(k:Int)))=!qP w k:=by rw[Bool.or_comm,Hy]
theorem yL {a:Answer} (h:dB a=true) (hy:a.yes=true):lh a.be.aT=true/\a.be.aT=⟨a.key,a.be.aq⟩:=by
 have h1:=pJ h hy
 have h2:=jk h1.1
 refine⟨by simp[lh,aB.aT,h2.1,h2.2.1],?_⟩
 rw[<-h1.2];rfl
theorem Zl (s:Server):rV s.ao s.aD=cF s.aD.length (r8 s):=by
 unfold rV hasB
 by_cases h:0<=cM (missing s.ao) s.aD
 ·obtain⟨k,hk,hm⟩:=Gq h
  have:r8 s k=false:=by
   simp only[missing,decide_eq_true_eq] at hm
   simp only[r8,decide_eq_false_iff_not];omega
  rw[eB hk this];simp[h]
 ·have aN:=AD (p:=missing s.ao) (l:=s.aD) (by omega)
  have:cF s.aD.length (r8 s)=true:=by
   rw[gx]
   intro i hi
   have:=aN i hi
   simp only[missing,decide_eq_false_iff_not] at this
   simp only[r8,decide_eq_true_eq];omega
  rw[this];simp[h]
theorem AU (s:Server):gK s=(tI s&&cF s.aG.length (r6 s)&&(cF s.ao.length (o7 s s.ao)&&cF s.waits.length (o7 s s.waits))&&cF s.waits.length (wW s)&&cF s.aD.length (r8 s)):=by
 unfold gK
 have e:cF s.waits.length (r9 s)=(cF s.waits.length (o7 s s.waits)&&cF s.waits.length (wW s)):=by
  rw[<-W5];exact xS rfl λi _=>XN s i
 have e2:cF s.ao.length (tJ s)=cF s.ao.length (o7 s s.ao):=rfl
 rw[e,e2,Zl]
 cases tI s<;>cases cF s.aG.length (r6 s)<;>cases cF s.ao.length (o7 s s.ao)<;>cases cF s.waits.length (o7 s s.waits)<;>simp
theorem Zm {s:Server} (h:gK s=true):tI s=true:=by
 simp only[gK,Bool.and_eq_true] at h;exact h.1.1.1.1
theorem Ph {q:Call} {time:Int} (h:qB q time=true):1<=q.bD/\q.bD<=time/\q.aP.length<=6:=by
 simp only[qB,Bool.not_eq_true',Bool.or_eq_false_iff] at h
 have h1:=h.2
 have h2:=h.1.2
 simp at h2
 have:=gR h2
 simp[aQ] at h1;omega
theorem AW {s:Server} (h:gK s=true):s.aG.length=3/\cn s.ao=true/\cn s.waits=true/\gi s.aD=true/\gi s.bl=true/\cL s.site=true:=by
 simp only[gK,Bool.and_eq_true] at h
 exact CS h.1.1.1.1
theorem Hz {α:Type} [Inhabited α] {aW:α->Bool} {less:α->α->Bool} (tr:∀{a b d},less a b=true->less b d=true->less a d=true) {l:List α}:
 cF l.length (eQ aW less l)=true↔(∀x∈l,aW x=true)/\l.Pairwise λa b=>less a b=true:=by
 rw[gx]
 constructor
 ·intro h
  refine⟨λx hx=>?_,NP (R:=λa b=>less a b=true) (λh1 h2=>tr h1 h2) λi h0 hi=>?_⟩
  ·obtain⟨k,hk,rfl⟩:=gq hx
   have:=h k hk
   unfold eQ at this;rw[Bool.and_eq_true] at this;exact this.1
  ·have:=h i hi
   unfold eQ at this
   rw[Bool.and_eq_true,Bool.or_eq_true,decide_eq_true_eq] at this
   rcases this.2 with h3|h3
   ·omega
   ·exact h3
 ·rintro⟨h1,h2⟩ i hi
  unfold eQ
  rw[Bool.and_eq_true,Bool.or_eq_true,decide_eq_true_eq]
  refine⟨h1 _ (aV hi),?_⟩
  rcases Nat.eq_zero_or_pos i with h|h
  ·exact Or.inl h
  ·exact Or.inr (Az h2 (by omega) hi)
theorem xd {l:List aB}:cn l=true↔l.length<=80/\(∀v∈l,dM v=true)/\VS l:=by
 unfold cn
 rw[Bool.and_eq_true,decide_eq_true_eq,Hz (less:=gy) (λh1 h2=>W8 h1 h2)];rfl
theorem yM {l:List au}:gi l=true↔l.length<=80/\(∀d∈l,lZ d=true)/\l.Pairwise λa b=>dZ a b=true:=by
 unfold gi
 rw[Bool.and_eq_true,decide_eq_true_eq,Hz (less:=dZ) (λh1 h2=>yk h1 h2)]
theorem AX {l m:List aB} (h:cn l=true) (U:m.Sublist l):cn m=true:=by
 obtain⟨h1,h2,h3⟩:=xd.1 h
 exact xd.2 ⟨Nat.le_trans U.length_le h1,λx hx=>h2 x (U.subset hx),h3.sublist U⟩
theorem Dk {l m:List au} (h:gi l=true) (U:m.Sublist l):gi m=true:=by
 obtain⟨h1,h2,h3⟩:=yM.1 h
 exact yM.2 ⟨Nat.le_trans U.length_le h1,λx hx=>h2 x (U.subset hx),h3.sublist U⟩
theorem HA {s:Server} (h:gK s=true):eK s:=by
 obtain⟨h1,h2,h3,h4,h5,h6⟩:=AW h
 refine⟨h1,h2,h3,λv hv=>?_,jz h5⟩
 simp only[gK,Bool.and_eq_true] at h
 obtain⟨k,hk,rfl⟩:=gq hv
 have:=(gx.1 h.1.2) k hk
 simp only[r9,tM,Bool.and_eq_true,decide_eq_true_eq] at this
 exact this.2
theorem eK.drop {s:Server} (h:eK s) (slot:Int):eK (dY s slot):=
 ⟨h.aG,AX h.ao (List.filter_sublist),AX h.waits (List.filter_sublist),λv hv=>Ap λx hx=>pQ (h.apart v (qJ hv)) x (qJ hx),h.bl⟩
theorem eK.gone {s:Server} (h:eK s) (m:aC):eK (l8 s m):=(h.drop m.slot).W9 (by show(s.aG.set _ _).length=3;rw[List.length_set];exact h.aG)
theorem yN {α:Type} {l:List α} {n:Nat} {x:α} (h:x∈l.take n++l.drop (n+1)):x∈l:=(wH l n).subset h
theorem bF.iR {s:Server} (h:bF s):bF (C4 s):=
 ⟨h.site,h.aG,h.ao,h.waits,h.aD,Dk h.bl List.filter_sublist,λe=>by show s.bl.filter _=[];rw[h.up e];rfl,h.aW,h.here,h.pM,h.pN,h.apart,h.o6⟩
theorem Pj {s:Server} {m:aC} (h:bF s):bF (mY s m):=by
 unfold mY
 split
 ·exact⟨h.site,h.aG,h.ao,h.waits,Dk h.aD (wH _ _),h.bl,h.up,h.aW,h.here,h.pM,h.pN,h.apart,λd hd=>h.o6 d (yN hd)⟩
 ·exact h
theorem Zn {v:aB} (h:dM v=true):cn [v]=true:=xd.2 ⟨by simp,by simpa using h,by simp[VS]⟩
theorem Pk {o:Option aB} (h:∀v,o=some v->dM v=true):cn o.toList=true:=by
 cases o with
 |none=>rfl
 |some v=>exact Zn (h v rfl)
theorem Pm {s:Server} {m:aC} (h:bF s) (hm:bO m=true) {o:Option aB} (ho:∀v,o=some v->dM v=true):bO (nF s m o)=true:=by
 have p:=mW hm
 exact tO ⟨by simp[nF],by simp[nF]⟩ (pG h.site) p.2.1 p.2.2.2.1 p.2.2.2.2.1 p.2.2.2.2.2.1 ⟨by simp[nF,cg],by simp[nF,cg]⟩ rS ⟨by simp[nF,cg],by simp[nF,cg]⟩ ⟨by simp[nF,cg],by simp[nF,cg]⟩ (Pk ho) pH wE
theorem Pn {l:List Answer} (h:l.Pairwise λa b=>gJ a b=true) {i j:Nat} (hi:i<l.length) (hj:j<l.length) (he:(ab l i).key=(ab l j).key):i=j:=by
 rcases Nat.lt_trichotomy i j with bw|h'|bw
 ·have:=Az h bw hj
  unfold gJ at this;rw[decide_eq_true_eq] at this;omega
 ·exact h'
 ·have:=Az h bw hi
  unfold gJ at this;rw[decide_eq_true_eq] at this;omega
theorem Dl {a:Answer} (h:dB a=true):bP a.be.aq eV=false:=by
 cases hy:a.yes
 ·rw[u5 h hy];rfl
 ·exact GQ (om (jk (pJ h hy).1).2.1)
theorem HB (tC:List au) (U:∀key,sd (bx tC key)):∀{l:List Answer} {last:Int},(l.Pairwise λa b=>gJ a b=true)->(∀a∈l,last<a.key/\a.key<=5)->(∀a∈l,dB a=true)->dI last (l.map (oh tC)).flatten=true
 |[],_,_,_,_=>rfl
 |a::r,last,hp,hk,hg=>by
  rw[List.pairwise_cons] at hp
  rw[List.map_cons,List.flatten_cons]
  have ha:=hk a (by simp)
  have pC:∀x∈r,dB x=true:=λx hx=>hg x (by simp[hx])
  unfold oh
  split
  ·rename_i hl
   have cT:db (bx tC a.key)=true:=by
    rcases U a.key with e|e
    ·rw[e,Dl (hg a (by simp))] at hl;cases hl
    ·exact e
   show(aQ a.key (last+1) 5&&db (bx tC a.key)&&dI a.key _)=true
   rw[cT,show aQ a.key (last+1) 5=true by simp[aQ];omega,Bool.true_and,Bool.true_and]
   exact HB tC U hp.2 (λx hx=>⟨by have:=hp.1 x hx;unfold gJ at this;rwa[decide_eq_true_eq] at this,(hk x (by simp[hx])).2⟩) pC
  ·rw[List.nil_append]
   exact HB tC U hp.2 (λx hx=>hk x (by simp[hx])) pC
theorem HC {l:List au} (h:bN l=true) {a b:au} (ha:a∈l) (hb:b∈l) (he:a.key=b.key):a=b:=by
 obtain⟨i,hi,rfl⟩:=gq ha
 obtain⟨j,hj,rfl⟩:=gq hb
 rcases Nat.lt_trichotomy i j with bw|rfl|bw
 ·have:=Ao h bw hj;omega
 ·rfl
 ·have:=Ao h bw hi;omega
theorem Zo (v:Value) (l:List (List AV)) (x:List AV) (i:Nat) (hi:i<=l.length) (hl:l.length<=1048576) (et:∀r∈l,r.length=3) (hx:x.length=3):
 jK Tryz.prog 265 [AV.val v,AV.int i,AV.rows 3 [x]] [Own.row v 63 3 l] [] (AV.rows 3 (l.take i++x::l.drop i)):=by
 refine jK.intro 95 Tryz.func265 rfl Tryz.ntmps265 rfl (by kernel_rfl) (λW I a U=>?_)
 obtain⟨q,cap,rfl,nk⟩:=U.z6 0 rfl
 refine bk λI a w U=>?_
 refine U.o (FA dJ cH .tt .tt ⟨by omega,by omega⟩ nk) λU=>?_
 refine bH λI a w U=>?_
 refine U.o (zx dJ .tt) λU=>?_
 rw[show(([x]:List (List AV)).length:Int)=1 from rfl] at U
 refine aI λI a w U=>?_
 refine U.cd (λae=>?_) λae=>?_
 ·exfalso;simp at ae
  skip
 ·refine jj λI a w U=>?_
  refine cz (λah=>?_) λah=>?_
  ·refine aF λI a w U=>?_
   refine U.append 0 rfl dJ cH rfl .tt .tt rfl (by simp only[List.length_singleton];omega) λwZ a w U=>?_
   obtain⟨I,U⟩:=U.fr 0 25
   have U:=U.drop 0
   refine ai λI a w U=>?_
   refine U.tp rfl (.cons .x .nil) rfl ?_
   exact congrArg (AV.rows 3) (by rw[show i=l.length by omega];simp)
  ·refine bt λI a w U=>?_
   refine U.o (z1 dJ .tt) λU=>?_
   refine ai λI a w U=>?_
   refine cz (λal=>?_) λal=>?_
   ·refine zt ?_
    have bj:l≠[]:=by intro e;rw[e] at hi ah;simp at hi ah;omega
    obtain⟨b,oN,he,n7,j2,nz,U⟩:=U.tn 0 rfl bj
    simp only[Value.slice.injEq] at he
    obtain⟨rfl,_,rfl⟩:=he
    have hA:(l.take i).flatten.length=i*3:=by rw[gI λr hr=>et r (List.mem_of_mem_take hr),List.length_take,Nat.min_eq_left hi]
    have hB:(l.drop i).flatten.length=(l.length-i)*3:=by rw[gI λr hr=>et r (List.mem_of_mem_drop hr),List.length_drop]
    rw[show l.flatten=(l.take i).flatten++(l.drop i).flatten by rw[<-List.flatten_append,List.take_append_drop],List.map_append] at U
    have gE:([x]:List (List AV)).flatten.length=3:=by simpa using hx
    have hlen:(l.take i++x::l.drop i).length=l.length+1:=by simp;omega
    have nL:∀r∈l.take i++x::l.drop i,r.length=3:=λr hr=>(List.mem_append.1 hr).elim (λh=>et r (List.mem_of_mem_take h)) λh=>(List.mem_cons.1 h).elim (λe=>e▸hx) λh=>et r (List.mem_of_mem_drop h)
    have qI:(l.take i++x::l.drop i).flatten.map some=(l.take i).flatten.map some++([x]:List (List AV)).flatten.map some++(l.drop i).flatten.map some:=by simp
    refine aF λI a w U=>?_
    refine U.o (rJ (hi:=i) dJ cH .tt .tt rfl (by omega) (by omega)) λU=>?_
    refine bM λI a w U=>?_
    refine U.FC (eR:=l.length+1-i) (xs:=(l.take i).flatten) 0 dJ ny cH rfl (by decide) .tt .tt (by omega) (by omega) rfl (by rw[List.drop_zero,List.append_assoc];exact kV _ (List.length_map _)) hA (by omega) (by omega) (by omega) rfl λ{gb w3 a w} n6 pB U=>?_
    refine bk λI a w U=>?_
    refine U.o (ky (lo:=i) dJ cH .tt .tt rfl (by omega) (by omega)) λU=>?_
    refine U.m λU=>?_
    refine U.xX 1 dJ cH .tt .tt rfl (by simp) (by simp only[List.length_singleton];omega) (by simp only[List.length_singleton,List.length_append,List.length_map,List.length_replicate,hA];omega) rfl λU=>?_
    refine zt ?_
    refine U.dt 8 ?_
    simp only[TD]
    refine dq ?_
    refine .o (ky (lo:=i+1) dJ cH .tt .tt (by omega) (by omega) (by omega)) ?_
    refine bT ?_
    refine .o (ky (lo:=i) dJ cH .tt .tt rfl (by omega) (by omega)) ?_
    refine .nil ?_
    intro I a w U
    refine U.xY (xs:=(l.drop i).flatten) 1 0 dJ cH .tt .tt rfl rfl (by rw[List.append_assoc,wk _ (by simp only[List.length_map,hA];omega)];exact kV _ (List.length_map _)) (by rw[hB,Nat.min_eq_left (by omega)]) (by rw[l4 (by simp only[List.length_map,List.length_append,List.length_replicate,gE,hA];omega)];simp only[List.length_append,List.length_map,List.length_replicate,hA,hB];omega) rfl λU=>?_
    rw[FI (by simp only[List.length_map,hA];omega) (by simp only[List.length_map,gE];omega) (by simp only[List.length_map,List.length_replicate,gE,hB];omega)] at U
    have U:=U.rH (l:=l.take i++x::l.drop i) (cap:=w3) 1 rfl (by simp only[List.length_append,List.length_map,List.length_drop,List.length_replicate,hA,hB,gE];omega) nL (by omega) (by omega) (by omega) (by rw[qI,hlen];exact kV _ (by simp only[List.length_append,List.length_map,hA,hB,gE];omega))
    rw[show i+(l.length+1-i)=(l.take i++x::l.drop i).length by omega] at U
    obtain⟨I,U⟩:=U.fr 1 9
    have U:=U.drop 0
    refine aA λI a w U=>?_
    exact U.tp rfl (.cons (by first|exact .t rfl|exact .nil rfl) .nil) rfl rfl
   ·refine zt ?_
    have bj:l≠[]:=by intro e;rw[e] at hi ah;simp at hi ah;omega
    obtain⟨b,oN,he,n7,j2,nz,U⟩:=U.tn 0 rfl bj
    simp only[Value.slice.injEq] at he
    obtain⟨rfl,_,rfl⟩:=he
    have hA:(l.take i).flatten.length=i*3:=by rw[gI λr hr=>et r (List.mem_of_mem_take hr),List.length_take,Nat.min_eq_left hi]
    have hB:(l.drop i).flatten.length=(l.length-i)*3:=by rw[gI λr hr=>et r (List.mem_of_mem_drop hr),List.length_drop]
    rw[show l.flatten=(l.take i).flatten++(l.drop i).flatten by rw[<-List.flatten_append,List.take_append_drop],List.map_append] at U
    have gE:([x]:List (List AV)).flatten.length=3:=by simpa using hx
    have hlen:(l.take i++x::l.drop i).length=l.length+1:=by simp;omega
    have nL:∀r∈l.take i++x::l.drop i,r.length=3:=λr hr=>(List.mem_append.1 hr).elim (λh=>et r (List.mem_of_mem_take h)) λh=>(List.mem_cons.1 h).elim (λe=>e▸hx) λh=>et r (List.mem_of_mem_drop h)
    have qI:(l.take i++x::l.drop i).flatten.map some=(l.take i).flatten.map some++([x]:List (List AV)).flatten.map some++(l.drop i).flatten.map some:=by simp
    refine bt λI a w U=>?_
    refine U.o (rJ (hi:=l.length+1) dJ cH .tt .tt (by omega) (by omega) (by omega)) λU=>?_
    refine dD λI a w U=>?_
    refine U.o (ky (lo:=i+1) dJ cH .tt .tt (by omega) (by omega) (by omega)) λU=>?_
    refine U.overlaps (tR:=4) 0 Tryz.func275 rfl (by kernel_rfl) (by kernel_rfl) (by kernel_rfl) dJ cH (by decide) .tt (by simp) .tt rfl rfl λU=>?_
    refine ai λI a w U=>?_
    refine U.cd (λaH=>?_) λaH=>?_
    ·refine wp_seq ?_
     refine U.dt 8 ?_
     simp only[TD]
     refine dq ?_
     refine .o (ky (lo:=i+1) dJ cH .tt .tt (by omega) (by omega) (by omega)) ?_
     refine bT ?_
     refine .o (ky (lo:=i) dJ cH .tt .tt rfl (by omega) (by omega)) ?_
     refine .nil ?_
     intro I a w U
     refine U.xY (xs:=(l.drop i).flatten) 0 0 dJ cH .tt .tt rfl rfl (by rw[List.append_assoc,wk _ (by simp only[List.length_map,hA];omega)];exact kV _ (List.length_map _)) (by rw[hB];congr 1;omega) (by simp only[List.length_append,List.length_map,List.length_replicate,hA,hB];omega) rfl λU=>?_
     refine aF λI a w U=>?_
     refine U.o (ky (lo:=i) dJ cH .tt .tt rfl (by omega) (by omega)) λU=>?_
     refine U.m λU=>?_
     refine U.xX 0 dJ cH .tt .tt rfl (by simp) (by simp only[List.length_singleton];omega) (by rw[l4 (by simp only[List.length_map,List.length_append,List.length_replicate,hA,hB];omega)];simp only[List.length_singleton,List.length_append,List.length_map,List.length_replicate,hA,hB];omega) rfl λU=>?_
     rw[FH (by simp only[List.length_map,hA];omega) (by simp only[List.length_map,gE];omega) (by simp only[List.length_map,List.length_replicate,gE];omega)] at U
     have U:=U.rH (l:=l.take i++x::l.drop i) (cap:=cap) 0 rfl (by simp only[List.length_append,List.length_map,List.length_drop,List.length_replicate,hA,hB,gE];omega) nL (by omega) (by omega) (by omega) (by rw[qI,hlen];exact kV _ (by simp only[List.length_append,List.length_map,hA,hB,gE];omega))
     rw[show l.length+1=(l.take i++x::l.drop i).length by omega] at U
     obtain⟨I,U⟩:=U.fr 0 0
     have U:=U.drop 0
     refine aA λI a w U=>?_
     exact U.tp rfl (.cons (by first|exact .t rfl|exact .nil rfl) .nil) rfl rfl
    ·exfalso;simp at aH
     skip
theorem Zp (l:List au) (d:au):
 Fn Tryz.prog 226 [bm l,d.av] (AV.int (fH l d)):=by
 refine Fn.go 19 Tryz.func226 Tryz.ntmps226 (λW I a U=>?_)
 have hle:=U.cW (t:=0) rfl
 refine ck λI a w U=>?_
 refine St.lo (σ:=Nat) (run 2 4 (run 11 8 [])) ⟨λk=>[(8,AV.int k)],λk=>[],λk=>k<=l.length/\∀i,i<k->(λe=>decide (e=d)) (ab l i)=false⟩ (λk=>l.length-k) 0 U ?aJ ?aK
 case aJ=>exact⟨Nat.zero_le _,λi hi=>by omega⟩
 case aK=>
  rintro k I a w aj U
  obtain⟨hk,aN⟩:=aj
  refine ai λI a w U=>?_
  refine cz (λae=>?_) λae=>?_
  ·refine aA λI a w U=>?_
   refine U.dk ?_
   refine fi ?_
   refine .o (mM [_,_,_] [_,_,_] uT rfl rfl .tt .tt)<|.nil ?_
   intro I a w U
   refine aY ?_
   refine U.cd (λah=>?_) λah=>?_
   ·rw[yo] at ah;rw[decide_eq_true_eq] at ah
    refine aA λI a w U=>?_
    refine U.rt ?_
    exact fD (nA ae aN (decide_eq_true ah.symm)).symm
   ·rw[yo] at ah;rw[decide_eq_false_iff_not] at ah
    refine aA λI a w U=>?_
    exact U.ag (k+1) (⟨ae,λi h1=>by rcases Nat.lt_succ_iff_lt_or_eq.1 h1 with h|h;exact aN i h;rw[h];exact decide_eq_false λe=>ah e.symm⟩)
  ·refine zt ?_
   refine ai λI a w U=>?_
   refine U.rt ?_
   exact fD (mR (by omega) aN).symm
theorem AY (l:List au) (d:au):
 Fn Tryz.prog 190 [bm l,d.av] (AV.bool (decide (0<=fH l d))):=by
 refine Fn.go 9 Tryz.func190 Tryz.ntmps190 (λW I a U=>?_)
 refine bt λI a w U=>?_
 refine U.o (.cl (Zp ..)) λU=>?_
 refine aA λI a w U=>?_
 refine U.rt ?_
 rfl
theorem Po (s:Server) (d:au):
 Fn Tryz.prog 189 [s.av,d.av] (AV.bool (mX s d)):=by
 refine Fn.go 16 Tryz.func189 Tryz.ntmps189 (λW I a U=>?_)
 refine dD λI a w U=>?_
 refine U.o (.cl (oj ..)) λU=>?_
 refine bM λI a w U=>?_
 refine U.q .F (.cl (AY ..)) λU=>?_
 refine aA λI a w U=>?_
 refine U.rt ?_
 rfl
theorem Pp (v:aB) (d:au):
 Fn Tryz.prog 264 [v.av,AV.ptr d.cells] (AV.bool (qH d v)):=by
 refine Fn.go 8 Tryz.func264 Tryz.ntmps264 (λW I a U=>?_)
 refine bM λI a w U=>?_
 refine U.o (.cl (AY ..)) λU=>?_
 refine ai λI a w U=>?_
 refine U.rt ?_
 rfl
theorem Dm (l:List aB) (slot:Int) (h:l.length<=1048576) (hd:∀v∈l,v.aO.length<=1048576):
 Fn Tryz.prog 224 [bX l,AV.int slot] (AV.dx [bX (l.filter (ew slot)),bX (l.filter (λv=>!ew slot v))]):=by
 refine Fn.go 34 Tryz.func224 Tryz.ntmps224 (λW I a U=>?_)
 have U:=U.gC (sz:=7) 43
 have U:=U.gC (sz:=7) 43
 refine jT λI a w U=>?_
 refine St.lo (σ:=Nat×Value×Value) (run 2 6 (9::(run 20 12 []))) ⟨λ⟨k,u,v⟩=>[(12,AV.int k),(6,AV.val u),(7,AV.val v)],λ⟨k,u,v⟩=>[Own.row u 43 7 (((l.take k).filter (ew slot)).map aB.cells),Own.row v 43 7 (((l.take k).filter (λv=>!ew slot v)).map aB.cells)],λ⟨k,u,v⟩=>k<=l.length⟩ (λ⟨k,u,v⟩=>l.length-k) (0,.slice none 0 0,.slice none 0 0) U ?aJ ?aK
 case aJ=>exact Nat.zero_le _
 case aK=>
  rintro⟨k,u,v⟩ I a w aj U
  have hk:k<=l.length:=aj
  have Pq:=rX (ew slot) l k
  have Pr:=rX (λv=>!ew slot v) l k
  dsimp only at U
  refine ai λI a w U=>?_
  refine cz (λae=>?_) λae=>?_
  ·refine aF λI a w U=>?_
   refine U.alloc rfl bA dE λb9 I a w U=>?_
   refine ai λI a w U=>?_
   obtain⟨I,U⟩:=U.fb 2 9
   refine aF λI a w U=>?_
   refine U.o (.c1 (GH ..)) λU=>?_
   refine aA λI a w U=>?_
   refine U.cd (λah=>?_) λah=>?_
   ·change(ew slot) (ab l k)=true at ah
    refine aF λI a w U=>?_
    refine U.o (.c1 (w5 _ (hd _ (aV ae)))) λU=>?_
    refine U.o (.li [(ab l k).cells] lH (.u .nil)) λU=>?_
    refine U.ap 0 λwZ a w U=>?_
    rw[cA,<-oA (p:=(ew slot)) ae ah,show(l.take k).filter (λv=>!ew slot v)=(l.take (k+1)).filter (λv=>!ew slot v) from(ot ae (by show(!_)=false;rw[ah];rfl)).symm] at U
    refine aI λI a w U=>?_
    have U:=U.drop 2
    exact U.ag (k+1,wZ,v) (ae)
   ·change(ew slot) (ab l k)=false at ah
    refine aF λI a w U=>?_
    refine U.o (.c1 (w5 _ (hd _ (aV ae)))) λU=>?_
    refine U.o (.li [(ab l k).cells] lH (.u .nil)) λU=>?_
    refine U.ap 1 λv30 a w U=>?_
    rw[cA,<-oA (p:=(λv=>!ew slot v)) ae (by show(!_)=true;rw[ah];rfl),show(l.take k).filter (ew slot)=(l.take (k+1)).filter (ew slot) from(ot ae ah).symm] at U
    refine aI λI a w U=>?_
    have U:=U.drop 2
    exact U.ag (k+1,u,v30) (ae)
  ·refine zt ?_
   refine aU λI a w U=>?_
   obtain⟨I,U⟩:=U.fr 0 4
   obtain⟨I,U⟩:=U.fr 1 5
   refine U.rt ?_
   exact(by rw[List.take_of_length_le (by omega)];rfl)
theorem Ps (l:List au) (slot:Int) (h:l.length<=1048576):
 Fn Tryz.prog 225 [bm l,AV.int slot] (AV.dx [bm (l.filter (gm slot)),bm (l.filter (λd=>!gm slot d))]):=by
 refine Fn.go 32 Tryz.func225 Tryz.ntmps225 (λW I a U=>?_)
 have U:=U.gC (sz:=3) 63
 have U:=U.gC (sz:=3) 63
 refine jT λI a w U=>?_
 refine St.lo (σ:=Nat×Value×Value) (run 2 6 (9::(run 18 12 []))) ⟨λ⟨k,u,v⟩=>[(12,AV.int k),(6,AV.val u),(7,AV.val v)],λ⟨k,u,v⟩=>[Own.row u 63 3 (((l.take k).filter (gm slot)).map au.cells),Own.row v 63 3 (((l.take k).filter (λd=>!gm slot d)).map au.cells)],λ⟨k,u,v⟩=>k<=l.length⟩ (λ⟨k,u,v⟩=>l.length-k) (0,.slice none 0 0,.slice none 0 0) U ?aJ ?aK
 case aJ=>exact Nat.zero_le _
 case aK=>
  rintro⟨k,u,v⟩ I a w aj U
  have hk:k<=l.length:=aj
  have Pq:=rX (gm slot) l k
  have Pr:=rX (λd=>!gm slot d) l k
  dsimp only at U
  refine ai λI a w U=>?_
  refine cz (λae=>?_) λae=>?_
  ·refine aF λI a w U=>?_
   refine U.alloc rfl cH fL λb9 I a w U=>?_
   refine ai λI a w U=>?_
   obtain⟨I,U⟩:=U.fb 2 9
   refine aF λI a w U=>?_
   refine U.o (.c1 (GH ..)) λU=>?_
   refine aA λI a w U=>?_
   refine U.cd (λah=>?_) λah=>?_
   ·change(gm slot) (ab l k)=true at ah
    refine aF λI a w U=>?_
    refine U.o (.li [(ab l k).cells] iX (.u .nil)) λU=>?_
    refine U.ap 0 λxa a w U=>?_
    rw[cA,<-oA (p:=(gm slot)) ae ah,show(l.take k).filter (λd=>!gm slot d)=(l.take (k+1)).filter (λd=>!gm slot d) from(ot ae (by show(!_)=false;rw[ah];rfl)).symm] at U
    refine aI λI a w U=>?_
    have U:=U.drop 2
    exact U.ag (k+1,xa,v) (ae)
   ·change(gm slot) (ab l k)=false at ah
    refine aF λI a w U=>?_
    refine U.o (.li [(ab l k).cells] iX (.u .nil)) λU=>?_
    refine U.ap 1 λHD a w U=>?_
    rw[cA,<-oA (p:=(λd=>!gm slot d)) ae (by show(!_)=true;rw[ah];rfl),show(l.take k).filter (gm slot)=(l.take (k+1)).filter (gm slot) from(ot ae ah).symm] at U
    refine aI λI a w U=>?_
    have U:=U.drop 2
    exact U.ag (k+1,u,HD) (ae)
  ·refine zt ?_
   refine aU λI a w U=>?_
   obtain⟨I,U⟩:=U.fr 0 4
   obtain⟨I,U⟩:=U.fr 1 5
   refine U.rt ?_
   exact(by rw[List.take_of_length_le (by omega)];rfl)
theorem HE {α:Type}:∀{l:List (List α)} {sz:Nat},(∀r∈l,r.length=sz)->∀{i:Nat},l.flatten.drop (i*sz)=(l.drop i).flatten
 |l,sz,h,0=>by simp
 |[],sz,h,i+1=>by simp
 |x::r,sz,h,i+1=>by
  have hx:x.length=sz:=h x (by simp)
  have ih:=HE (l:=r) (sz:=sz) (λy hy=>h y (by simp[hy])) (i:=i)
  rw[List.flatten_cons,List.drop_succ_cons,<-ih,show(i+1)*sz=x.length+i*sz by rw[hx,Nat.succ_mul,Nat.add_comm],List.drop_append]
  simp
def jo {α:Type} (p:α->Bool) (l:List α) (j:Nat):List α:=kp p l j++l.drop (kp p l j).length
section
variable {α:Type} {p:α->Bool} {l:List α} {j:Nat}
theorem HF:(kp p l j).length<=j:=by
 have h1:=List.length_filter_le (λd=>!p d) (l.take j)
 have h2:(l.take j).length<=j:=by simp;omega
 unfold kp;omega
theorem Zq (h:j<=l.length):(jo p l j).length=l.length:=by
 have:=HF (p:=p) (l:=l) (j:=j)
 unfold jo;simp;omega
theorem Zr:kp p l l.length=l.filter λd=>!p d:=by unfold kp;rw[List.take_length]
variable [Inhabited α]
theorem Dn (h:j<l.length) (hp:p (ab l j)=false):kp p l (j+1)=kp p l j++[ab l j]:=oA h (by rw[hp];rfl)
theorem AZ (h:j<l.length) (hp:p (ab l j)=true):kp p l (j+1)=kp p l j:=ot h (by rw[hp];rfl)
theorem Zs (h:j<l.length):ab (jo p l j) j=ab l j:=by
 have:=HF (p:=p) (l:=l) (j:=j)
 unfold jo ab
 rw[List.getD_eq_getElem?_getD,List.getD_eq_getElem?_getD,List.getElem?_append_right this,List.getElem?_drop]
 congr 2;omega
theorem Zt (h:j<l.length) (hp:p (ab l j)=false):(jo p l j).set (kp p l j).length (ab l j)=jo p l (j+1):=by
 have:=HF (p:=p) (l:=l) (j:=j)
 have hi:(kp p l j).length<l.length:=by omega
 unfold jo
 rw[Dn h hp,List.set_append_right _ _ (Nat.le_refl _),Nat.sub_self]
 have e:l.drop (kp p l j).length=l[(kp p l j).length]::l.drop ((kp p l j).length+1):=List.drop_eq_getElem_cons hi
 rw[e,List.set_cons_zero]
 simp
theorem Zu (h:j<l.length) (hp:p (ab l j)=true):jo p l (j+1)=jo p l j:=by unfold jo;rw[AZ h hp]
theorem HG (h:0<=cM p l):kp p l ((cM p l).toNat+1)=l.take (cM p l).toNat:=by
 obtain⟨h1,h2,h3⟩:=CX h
 rw[AZ h1 h2]
 unfold kp
 rw[List.filter_eq_self]
 intro x hx
 obtain⟨i,hi,rfl⟩:=List.getElem_of_mem hx
 have qh:i<(cM p l).toNat/\i<l.length:=by simp at hi;omega
 have:=h3 i qh.1
 simpa[ab,qh.2] using this
theorem Pt (h:0<=cM p l):jo p l ((cM p l).toNat+1)=l:=by
 have h1:=(CX h).1
 unfold jo
 rw[HG h,List.length_take,Nat.min_eq_left (by omega),List.take_append_drop]
theorem Zv (h:cM p l<0):(l.filter λd=>!p d)=l:=by
 rw[List.filter_eq_self]
 intro x hx
 obtain⟨i,hi,rfl⟩:=List.getElem_of_mem hx
 have:=AD h i hi
 simpa[ab,hi] using this
end
theorem Zw (v:Value) (l:List (List AV)) (i:Nat) (hi:i<l.length) (hl:l.length<=1048576) (et:∀r∈l,r.length=7):
 c7 Tryz.prog 268 [AV.val v,AV.int i,AV.int ((i:Int)+1)] [Own.row v 43 7 l] (λ_:Value=>True) (λu=>[Own.row u 43 7 (l.take i++l.drop (i+1))]) AV.val:=by
 refine c7.intro 33 Tryz.func268 rfl Tryz.ntmps268 rfl (by kernel_rfl) (λW I a U=>?_)
 obtain⟨q,cap,rfl,nk⟩:=U.z6 0 rfl
 refine dD λI a w U=>?_
 refine U.o (L9 (lo:=i) (hi:=i+1) (mx:=l.length) cJ bA .tt .tt .tt .tt rfl (by omega) rfl (by omega) (by omega) (by omega)) λU=>?_
 refine aI λI a w U=>?_
 refine U.cd (λae=>?_) λae=>?_
 ·exfalso;simp only[B] at ae;omega
  skip
 ·refine aI λI a w U=>?_
  have bj:l≠[]:=by intro e;rw[e] at hi;simp at hi
  obtain⟨b,oN,he,n7,j2,nz,U⟩:=U.tn 0 rfl bj
  simp only[Value.slice.injEq] at he
  obtain⟨rfl,_,rfl⟩:=he
  have hF:l.flatten.length=l.length*7:=gI et
  have hB:(l.drop (i+1)).flatten.length=(l.length-(i+1))*7:=by rw[gI λr hr=>et r (List.mem_of_mem_drop hr),List.length_drop]
  have hlen:(l.take i++l.drop (i+1)).length=i+(l.length-(i+1)):=by simp;omega
  have nL:∀r∈(l.take i++l.drop (i+1)),r.length=7:=λr hr=>(List.mem_append.1 hr).elim (λh=>et r (List.mem_of_mem_take h)) λh=>et r (List.mem_of_mem_drop h)
  refine U.dt 6 ?_
  simp only[TD]
  refine bT ?_
  refine .o (rJ (hi:=i) cJ bA .tt .tt rfl (by omega) (by omega)) ?_
  refine bT ?_
  refine .o (F4 (lo:=i+1) cJ bA .tt .tt (by omega) (by omega) (by omega)) ?_
  refine .nil ?_
  intro I a w U
  refine U.Mb (xs:=(l.drop (i+1)).flatten) 0 cJ bA .tt .tt rfl (by rw[List.drop_append_of_le_length (by simp only[List.length_map,hF];exact Nat.mul_le_mul_right _ (by omega)),<-List.map_drop,HE et];exact kV _ (List.length_map _)) hB (by omega) (by simp only[List.length_append,List.length_map,List.length_replicate,hF,hB];omega) rfl λU=>?_
  refine bM λI a w U=>?_
  refine U.o (Ma (lo:=i+(l.length-(i+1))) (hi:=l.length) cJ bA .tt .tt .tt rfl rfl (by omega) (by omega)) λU=>?_
  refine U.F6 0 cJ bA rfl lH .tt (by omega) rfl (by rw[l4]<;>simp only[List.length_append,List.length_map,List.length_replicate,hF,hB]<;>omega) λU=>?_
  have U:=U.rH (l:=(l.take i++l.drop (i+1))) (cap:=cap) 0 rfl (by rw[l4,l4]<;>(try rw[l4])<;>simp only[List.length_append,List.length_map,List.length_replicate,hF,hB]<;>omega) nL (by omega) (by omega) (by omega) (Me et hi)
  rw[<-hlen] at U
  refine aA λI a w U=>?_
  refine U.de _ [0] rfl (.cons (.t rfl) .nil) trivial rfl rfl
theorem Zx {p:au->Bool} {l:List au} {j:Nat} {R Y:List (Option AV)} (h:(jo p l j).length=l.length):(over (((jo p l j).map au.cells).flatten.map some++R) ((kp p l j).length*3) Y).take (((kp p l j).map au.cells).length*3)=((kp p l j).map au.cells).flatten.map some:=by
 have hA:((kp p l j).map au.cells).flatten.length=(kp p l j).length*3:=by
  rw[gI (sz:=3) λr hr=>by obtain⟨d,_,rfl⟩:=List.mem_map.1 hr;rfl,List.length_map]
 have e:((jo p l j).map au.cells).flatten=((kp p l j).map au.cells).flatten++((l.drop (kp p l j).length).map au.cells).flatten:=by
  unfold jo;rw[List.map_append,List.flatten_append]
 rw[List.length_map,e,List.map_append,Md (by simp only[List.length_append,List.length_map,hA];omega),List.append_assoc]
 exact List.take_left' (by rw[List.length_map,hA])
theorem Zy (v:Value) (l:List (List AV)) (i:Nat) (hi:i<l.length) (hl:l.length<=1048576) (et:∀r∈l,r.length=15):
 c7 Tryz.prog 129 [AV.val v,AV.int i,AV.int ((i:Int)+1)] [Own.row v 70 15 l] (λ_:Value=>True) (λu=>[Own.row u 70 15 (l.take i++l.drop (i+1))]) AV.val:=by
 refine c7.intro 33 Tryz.func129 rfl Tryz.ntmps129 rfl (by kernel_rfl) (λW I a U=>?_)
 obtain⟨q,cap,rfl,nk⟩:=U.z6 0 rfl
 refine dD λI a w U=>?_
 refine U.o (L9 (lo:=i) (hi:=i+1) (mx:=l.length) eU dr .tt .tt .tt .tt rfl (by omega) rfl (by omega) (by omega) (by omega)) λU=>?_
 refine aI λI a w U=>?_
 refine U.cd (λae=>?_) λae=>?_
 ·exfalso;simp only[B] at ae;omega
  skip
 ·refine aI λI a w U=>?_
  have bj:l≠[]:=by intro e;rw[e] at hi;simp at hi
  obtain⟨b,oN,he,n7,j2,nz,U⟩:=U.tn 0 rfl bj
  simp only[Value.slice.injEq] at he
  obtain⟨rfl,_,rfl⟩:=he
  have hF:l.flatten.length=l.length*15:=gI et
  have hB:(l.drop (i+1)).flatten.length=(l.length-(i+1))*15:=by rw[gI λr hr=>et r (List.mem_of_mem_drop hr),List.length_drop]
  have hlen:(l.take i++l.drop (i+1)).length=i+(l.length-(i+1)):=by simp;omega
  have nL:∀r∈(l.take i++l.drop (i+1)),r.length=15:=λr hr=>(List.mem_append.1 hr).elim (λh=>et r (List.mem_of_mem_take h)) λh=>et r (List.mem_of_mem_drop h)
  refine U.dt 6 ?_
  simp only[TD]
  refine bT ?_
  refine .o (rJ (hi:=i) eU dr .tt .tt rfl (by omega) (by omega)) ?_
  refine bT ?_
  refine .o (F4 (lo:=i+1) eU dr .tt .tt (by omega) (by omega) (by omega)) ?_
  refine .nil ?_
  intro I a w U
  refine U.Mb (xs:=(l.drop (i+1)).flatten) 0 eU dr .tt .tt rfl (by rw[List.drop_append_of_le_length (by simp only[List.length_map,hF];exact Nat.mul_le_mul_right _ (by omega)),<-List.map_drop,HE et];exact kV _ (List.length_map _)) hB (by omega) (by simp only[List.length_append,List.length_map,List.length_replicate,hF,hB];omega) rfl λU=>?_
  refine bM λI a w U=>?_
  refine U.o (Ma (lo:=i+(l.length-(i+1))) (hi:=l.length) eU dr .tt .tt .tt rfl rfl (by omega) (by omega)) λU=>?_
  refine U.F6 0 eU dr rfl gP .tt (by omega) rfl (by rw[l4]<;>simp only[List.length_append,List.length_map,List.length_replicate,hF,hB]<;>omega) λU=>?_
  have U:=U.rH (l:=(l.take i++l.drop (i+1))) (cap:=cap) 0 rfl (by rw[l4,l4]<;>(try rw[l4])<;>simp only[List.length_append,List.length_map,List.length_replicate,hF,hB]<;>omega) nL (by omega) (by omega) (by omega) (Me et hi)
  rw[<-hlen] at U
  refine aA λI a w U=>?_
  refine U.de _ [0] rfl (.cons (.t rfl) .nil) trivial rfl rfl
theorem Zz (v:Value) (l:List au) (p:au->Bool) (fv:AV) (O:Own) (hl:l.length<=1048576) (hf:∀x,x∈l->Ai Tryz.prog fv [x.av] [O] (AV.bool (p x))):
 jK Tryz.prog 197 [AV.val v,fv] [Own.row v 63 3 (l.map au.cells),O] [Own.row v 63 3 (l.map au.cells),O] (AV.int (cM p l)):=by
 refine jK.intro 19 Tryz.func197 rfl Tryz.ntmps197 rfl (by kernel_rfl) (λW I a U=>?_)
 refine aF λI a w U=>?_
 refine U.o (rz 0 dJ .tt rfl) λU=>?_
 refine ai λI a w U=>?_
 refine St.lo (σ:=Nat) (run 2 4 (run 11 8 [])) ⟨λk=>[(8,AV.int k)],λk=>[Own.row v 63 3 (l.map au.cells),O],λk=>k<=l.length/\∀i,i<k->p (ab l i)=false⟩ (λk=>l.length-k) 0 U ?aJ ?aK
 case aJ=>exact⟨Nat.zero_le _,λi hi=>by omega⟩
 case aK=>
  rintro k I a w aj U
  obtain⟨hk,aN⟩:=aj
  dsimp only at U
  refine ai λI a w U=>?_
  refine U.cd (λae=>?_) λae=>?_
  ·simp only[B,List.length_map] at ae
   refine bM λI a w U=>?_
   obtain⟨b,cap,rfl⟩:=U.j7 0 rfl (by rw[List.length_map];omega)
   refine U.o (jr dJ cH .tt .tt (λ_=>by simp only[List.length_map];omega)) λU=>?_
   refine U.o (rA 0 cH .tt rfl (λ_=>by exact fG ae) rfl) λU=>?_
   refine U.Mc [1] (hf _ (aV ae)) .tt (aw .tt aL) rfl (by decide) rfl λI a w U=>?_
   refine zt ?_
   refine U.cd (λah=>?_) λah=>?_
   ·refine aA λI a w U=>?_
    refine U.de () [0,1] rfl (.cons (.t rfl) .nil) trivial rfl (fD (nA ae aN ah).symm)
   ·refine aA λI a w U=>?_
    exact U.ag (k+1) (⟨ae,λi h1=>by rcases Nat.lt_succ_iff_lt_or_eq.1 h1 with h|h;exact aN i h;rw[h];exact ah⟩)
  ·simp only[B,List.length_map] at ae
   refine zt ?_
   refine ai λI a w U=>?_
   refine U.de () [0,1] rfl (.cons (.t rfl) .nil) trivial rfl (fD (mR (by omega) aN).symm)
theorem HH (v:Value) (l:List au) (p:au->Bool) (fv:AV) (O:Own) (hl:l.length<=1048576) (hf:∀x,x∈l->Ai Tryz.prog fv [x.av] [O] (AV.bool (p x))):
 c7 Tryz.prog 246 [AV.val v,fv] [Own.row v 63 3 (l.map au.cells),O] (λ_:Value=>True) (λu=>[Own.row u 63 3 ((l.filter λd=>!p d).map au.cells),O]) AV.val:=by
 refine c7.intro 42 Tryz.func246 rfl Tryz.ntmps246 rfl (by kernel_rfl) (λW I a U=>?_)
 refine bk λI a w U=>?_
 refine U.eT [0,1] (Zz v l p fv O hl hf) (aw .tt (aw .tt aL)) rfl (by decide) rfl λI a w U=>?_
 refine aI λI a w U=>?_
 refine U.cd (λae=>?_) λae=>?_
 ·refine aA λI a w U=>?_
  simp only[B] at ae
  refine U.de v [0,1] rfl (.cons (.t rfl) .nil) trivial (by rw[Zv (by omega)];rfl) rfl
 ·refine wp_skip<|aY<|wp_seq<|wp_seq ?_
  simp only[B] at ae
  have n6:=WS p l
  have h0:0<=cM p l:=by omega
  obtain⟨h1,h2,h3⟩:=CX h0
  obtain⟨b,cap,rfl⟩:=U.j7 0 rfl (by rw[List.length_map];omega)
  rw[show l.map au.cells=(jo p l ((cM p l).toNat+1)).map au.cells from by rw[Pt h0]] at U
  rw[show((jo p l ((cM p l).toNat+1)).map au.cells).length=(l.map au.cells).length from by rw[Pt h0]] at U
  refine aI λI a w U=>?_
  refine St.EO (σ:=Nat) (run 3 5 (run 20 16 [])) ⟨λj=>[(6,AV.int j),(5,AV.int (kp p l j).length)],λj=>[Own.row (.slice (some ⟨b,0,none⟩) (l.map au.cells).length cap) 63 3 ((jo p l (j)).map au.cells),O],λj=>j<=l.length/\(kp p l j).length<j⟩ (λj=>l.length-j) ((cM p l).toNat+1) U rfl ?aJ ?HI ?aK
  case aJ=>exact⟨by omega,by rw[HG h0,List.length_take];omega⟩
  case HI=>exact(Env.dK rfl (by exact congrArg AV.int (by omega)) (Env.dK rfl (by exact congrArg AV.int (by rw[HG h0,List.length_take];omega)) Env.le_nil))
  case aK=>
   rintro j I a w aj U
   obtain⟨hj,HJ⟩:=aj
   dsimp only at U
   have lV:=Zq (p:=p) hj
   have hle:(l.map au.cells).length=((jo p l (j)).map au.cells).length:=by rw[List.length_map,List.length_map,lV]
   refine aF λI a w U=>?_
   refine U.o (rz 0 dJ .tt rfl) λU=>?_
   refine ai λI a w U=>?_
   refine U.cd (λah=>?_) λah=>?_
   ·simp only[B,List.length_map] at ah
    have ah:j<l.length:=by omega
    refine aF λI a w U=>?_
    rw[hle] at U
    refine U.o (jr dJ cH .tt .tt (λ_=>by simp only[List.length_map];omega)) λU=>?_
    refine U.o (rA 0 cH .tt rfl (λ_=>by show((jo p l j).map au.cells)[j]?=some (ab l j).cells;rw[<-Zs (p:=p) ah];exact fG (by omega)) rfl) λU=>?_
    refine U.alloc rfl cH fL λb7 I a w U=>?_
    refine ai λI a w U=>?_
    obtain⟨I,U⟩:=U.fb 2 7
    refine aF λI a w U=>?_
    refine U.Mc [1] (hf _ (aV ah)) .tt (aw .tt aL) rfl (by decide) rfl λI a w U=>?_
    refine ai λI a w U=>?_
    refine cz (λal=>?_) λal=>?_
    ·refine wp_seq ?_
     have hw:(kp p l j).length<(jo p l j).length:=by omega
     refine bk λI a w U=>?_
     refine U.o (jr dJ cH .tt .tt (λ_=>by simp only[List.length_map];omega)) λU=>?_
     refine U.lX 0 cH .tt .tt rfl (by exact fG hw) rfl rfl λa w U=>?_
     refine jj λI a w U=>?_
     have U:=U.drop 2
     rw[Int.toNat_natCast (kp p l j).length] at U
     rw[show((jo p l (j)).map au.cells).set (kp p l j).length (ab l j).cells=(jo p l (j+1)).map au.cells from by rw[<-Zt ah al,List.map_set]] at U
     rw[<-hle] at U
     refine U.again (j+1) ?iM ?iN (by rfl) ?iO (by repeat(first|exact Env.le_rfl|refine Env.jf rfl ?_))
     case iM=>omega
     case iN=>exact⟨ah,by rw[Dn ah al,List.length_append];simp;omega⟩
     case iO=>exact(Env.dK rfl (by rfl) (Env.dK rfl (by first|exact congrArg AV.int (by rw[Dn ah al,List.length_append];simp)|exact congrArg AV.int (by rw[AZ ah al])) Env.le_nil))
    ·refine aI λI a w U=>?_
     have U:=U.drop 2
     rw[<-hle,<-Zu ah al] at U
     refine U.again (j+1) ?nO ?nP (by rfl) ?nQ (by repeat(first|exact Env.le_rfl|refine Env.jf rfl ?_))
     case nO=>omega
     case nP=>exact⟨ah,by rw[AZ ah al];omega⟩
     case nQ=>exact(Env.dK rfl (by rfl) (Env.dK rfl (by first|exact congrArg AV.int (by rw[Dn ah al,List.length_append];simp)|exact congrArg AV.int (by rw[AZ ah al])) Env.le_nil))
   ·simp only[B,List.length_map] at ah
    refine zt ?_
    refine aF λI a w U=>?_
    have bj:((jo p l (j)).map au.cells)≠[]:=by intro e;have:=congrArg List.length e;simp only[List.length_map,List.length_nil] at this;omega
    obtain⟨b2,oN,he,n7,j2,nz,U⟩:=U.tn 0 rfl bj
    simp only[Value.slice.injEq,Option.some.injEq,Addr.mk.injEq] at he
    obtain⟨⟨rfl,_⟩,_,rfl⟩:=he
    refine U.o (F4 (lo:=(kp p l j).length) dJ cH .tt .tt rfl (by rw[List.length_map];omega) (by rw[hle];exact n7)) λU=>?_
    have hF:((jo p l (j)).map au.cells).flatten.length=((jo p l (j)).map au.cells).length*3:=gI (λr hr=>by obtain⟨d,_,rfl⟩:=List.mem_map.1 hr;rfl)
    refine U.F6 0 dJ cH rfl iX .tt (by rw[List.length_map];omega) rfl (by simp only[List.length_append,List.length_map,List.length_replicate,hF,lV];omega) λU=>?_
    have U:=U.rH (l:=(kp p l j).map au.cells) (cap:=cap) 0 rfl (by rw[l4]<;>simp only[List.length_append,List.length_map,List.length_replicate,hF,lV]<;>simp only[List.length_map,lV] at n7<;>omega) (λr hr=>by obtain⟨d,_,rfl⟩:=List.mem_map.1 hr;rfl) (by rw[List.length_map];simp only[List.length_map,lV] at n7;omega) nz j2 (Zx lV)
    rw[show((kp p l j).map au.cells).length=(kp p l j).length from List.length_map _] at U
    refine aF λI a w U=>?_
    refine U.o (rJ (hi:=(kp p l j).length) dJ cH .tt .tt rfl (by simp only[List.length_map,lV] at n7;omega) nz) λU=>?_
    refine ai λI a w U=>?_
    obtain rfl:j=l.length:=by omega
    rw[Zr] at U
    refine U.de _ [0,1] rfl (.cons (.t rfl) .nil) trivial (by rw[List.length_map];rfl) rfl
theorem ZA (s:Server) (d:au):
 Fn Tryz.prog 267 [d.av,AV.ptr s.cells] (AV.bool (!mX s d)):=by
 refine Fn.go 8 Tryz.func267 Tryz.ntmps267 (λW I a U=>?_)
 refine bt λI a w U=>?_
 refine U.o (.c2 (Po ..)) λU=>?_
 refine aA λI a w U=>?_
 refine U.rt ?_
 rfl
theorem Dp (s:Server):(!gK s||!s.up)=!(gK s&&s.up):=by simp
theorem ZB (site:Nat) (h4:site<4):
 Fn Tryz.prog 65 [AV.int (site:Int)] ((wY site).av):=by
 refine Fn.go 30 Tryz.func65 Tryz.ntmps65 (λW I a U=>?_)
 have z3:cL (site:Int)=true:=m0.2 (by omega)
 refine sr<|U.alloc rfl cm dF λb2 I a w U=>?_
 refine bH λI a w U=>?_
 refine U.o (.c1 (rP ..)) λU=>?_
 refine ai λI a w U=>?_
 refine U.cd (λae=>?_) λae=>?_
 ·exfalso;rw[z3] at ae;cases ae
  skip
 ·refine bH λI a w U=>?_
  refine U.o (.bd Cr (.k (.k bf.nil))) λU=>?_
  refine U.alloc rfl cm Cr λb3 I a w U=>?_
  refine ai λI a w U=>?_
  have U:=U.gC (sz:=2) 104
  refine ai λI a w U=>?_
  refine St.lo (σ:=Nat×Value) (run 2 4 (run 17 12 [])) ⟨λ⟨k,v⟩=>[(4,AV.int k)],λ⟨k,v⟩=>[Own.box b2 61 [AV.val (.int .i64 0),AV.val (.bool false),AV.rows 2 [],AV.rows 7 [],AV.rows 7 [],AV.rows 3 [],AV.rows 3 []],Own.box b3 61 [AV.int (site:Int),AV.bool true,AV.val v,AV.val (.slice none 0 0),AV.val (.slice none 0 0),AV.val (.slice none 0 0),AV.val (.slice none 0 0)],Own.row v 104 2 ((rT site k).map dG.cells)],λ⟨k,v⟩=>k<=3⟩ (λ⟨k,v⟩=>3-k) (0,.slice none 0 0) U ?aJ ?aK
  case aJ=>exact Nat.zero_le _
  case aK=>
   rintro⟨k,v⟩ I a w aj U
   have hk:k<=3:=aj
   dsimp only at U
   refine aA λI a w U=>?_
   refine cz (λah=>?_) λah=>?_
   ·refine zt ?_
    refine U.o (.bd oe bf.nil) λU=>?_
    refine U.alloc rfl er oe λb5 I a w U=>?_
    refine aF λI a w U=>?_
    refine U.o (tg .tt .c (λ_=>by omega)) λU=>?_
    refine U.m λU=>?_
    refine U.o (tg .tt .c (λ_=>by omega)) λU=>?_
    refine ai λI a w U=>?_
    refine cz (λal=>?_) λal=>?_
    ·refine St.region ?_
     refine U.o (.bd oe (.k (.k bf.nil))) λU=>?_
     refine bt λI a w U=>?_
     refine U.o (.li [dG.cells ⟨1,1⟩] Ct (.u .nil)) λU=>?_
     refine U.append 2 rfl fU er rfl .tt .r rfl (by rw[List.length_map,CF];simp;omega) λHK a w U=>?_
     refine U.o .fv λU=>?_
     try have ZC:=U.eJ 2 rfl
     refine aU λI a w U=>?_
     have U:=U.drop 3
     rw[cA,MH (by simpa using al)] at U
     exact U.ag (k+1,HK) (by show k+1<=3;omega)
    ·refine bk λI a w U=>?_
     refine U.o (.li [dG.cells ⟨0,0⟩] Ct (.u .nil)) λU=>?_
     refine U.append 2 rfl fU er rfl .tt .r rfl (by rw[List.length_map,CF];simp;omega) λHK a w U=>?_
     refine U.o .fv λU=>?_
     try have ZC:=U.eJ 2 rfl
     refine aU λI a w U=>?_
     have U:=U.drop 3
     rw[cA,MI (by simpa using al)] at U
     exact U.ag (k+1,HK) (by show k+1<=3;omega)
   ·refine wp_exit<|cN<|cN<|gw<|aY<|wp_seq ?_
    obtain⟨I,U⟩:=U.fu 2 2 1
    have U:=U.np (q:=3) 1 rfl rfl (eO 7 _)
    have U:=U.np (q:=4) 1 rfl rfl (eO 7 _)
    have U:=U.np (q:=5) 1 rfl rfl (eO 3 _)
    have U:=U.np (q:=6) 1 rfl rfl (eO 3 _)
    refine aA λI a w U=>?_
    refine U.ret rfl (.cons (.sx 0) aX.nil) ?_
    have lP:k=3:=by omega
    subst lP
    rfl
theorem ZD {s:Server} (h:bF s) {d:au} (hd:d∈s.aD):dp d.key=true:=by
 have:=(yM.1 h.aD).2.1 d hd
 unfold lZ at this
 simp only[Bool.and_eq_true] at this
 exact this.1
theorem HL (q:Call) (h:ym q):
 Fn Tryz.prog 120 [q.av] (q.av):=by
 refine Fn.go 45 Tryz.func120 Tryz.ntmps120 (λW I a U=>?_)
 obtain⟨h1,h2,h4,h5,h3⟩:=h
 refine sr<|U.box rfl .tt λb1 I a w U=>U.alloc rfl dQ gD λb2 I a w U=>?_
 refine zt ?_
 refine U.l0 λb6 I a w U=>?_
 refine aF λI a w U=>?_
 refine U.ap 2 λv9 a w U=>?_
 obtain⟨I,U⟩:=U.fr 2 9
 refine aA λI a w U=>?_
 refine U.l0 λma I a w U=>?_
 refine aF λI a w U=>?_
 refine U.ap 3 λmF a w U=>?_
 obtain⟨I,U⟩:=U.fr 3 14
 refine aA λI a w U=>?_
 refine U.l0 λyI I a w U=>?_
 refine aF λI a w U=>?_
 refine U.ap 4 λqO a w U=>?_
 obtain⟨I,U⟩:=U.fr 4 19
 refine aA λI a w U=>?_
 refine U.l0 λAS I a w U=>?_
 refine aA λI a w U=>?_
 refine St.lo (σ:=Nat×Value) (run 3 3 (run 20 22 [])) ⟨λ⟨k,v⟩=>[(4,AV.int k),(3,AV.val v)],λ⟨k,v⟩=>[Own.box b1 39 q.cells,Own.box b2 39 [AV.val (.int .i64 0),AV.val (.int .i64 0),AV.val (.int .i64 0),AV.rows 1 [],AV.val (.int .i64 0),AV.rows 3 [],AV.val (.int .i64 0),AV.val (.int .i64 0),AV.val (.bool false),AV.val (.int .i64 0),AV.val (.int .i64 0),AV.rows 9 [],AV.rows 3 []],Own.gone,Own.gone,Own.gone,Own.row v 45 9 ((q.az.take k).map Answer.cells)],λ⟨k,v⟩=>k<=q.az.length⟩ (λ⟨k,v⟩=>q.az.length-k) (0,.slice (some ⟨AS,0,none⟩) 0 0) U ?aJ ?aK
 case aJ=>exact Nat.zero_le _
 case aK=>
  rintro⟨k,v⟩ I a w aj U
  have hk:k<=q.az.length:=aj
  dsimp only at U
  refine ck λI a w U=>?_
  refine cz (λae=>?_) λae=>?_
  ·refine bM λI a w U=>?_
   refine U.alloc rfl fj od λb5 I a w U=>?_
   refine bk λI a w U=>?_
   refine U.o (.c1 (pE _ (h5 _ (aV ae)))) λU=>U.o .fv λU=>U.rv 6 bA .tt .tt rfl rfl rfl λa w U=>?_
   refine aF λI a w U=>?_
   refine U.o (.li [(ab q.az k).cells] uR (.u .nil)) λU=>?_
   refine U.ap 5 λDq a w U=>?_
   rw[cA,<-dW ae] at U
   refine aU λI a w U=>?_
   have U:=U.drop 6
   exact U.ag (k+1,Dq) (ae)
  ·refine wp_exit<|cN<|cN<|gw<|aY<|wp_seq ?_
   rw[List.take_of_length_le (by omega)] at U
   obtain⟨I,U⟩:=U.fr 5 3
   refine ck λI a w U=>?_
   refine U.ret rfl (.cons (.sx 1) aX.nil) ?_
   rfl
theorem ZE (q:Call) (h:ym q):
 c7 Tryz.prog 120 [q.av] [] (λ_:Value×Value=>True) (λu=>[Own.row u.1 45 9 (q.az.map Answer.cells),Own.row u.2 63 3 (q.aP.map au.cells)]) (λu=>q.yx u.1 u.2):=by
 refine c7.intro 45 Tryz.func120 rfl Tryz.ntmps120 rfl (by kernel_rfl) (λW I a U=>?_)
 obtain⟨h1,h2,h4,h5,h3⟩:=h
 refine sr<|U.box rfl .tt λb1 I a w U=>U.alloc rfl dQ gD λb2 I a w U=>?_
 refine zt ?_
 refine U.l0 λb6 I a w U=>?_
 refine aF λI a w U=>?_
 refine U.ap 2 λv9 a w U=>?_
 obtain⟨I,U⟩:=U.fr 2 9
 refine U.o .fv λU=>?_
 try have ho9:=U.eJ 2 rfl
 refine ai λI a w U=>?_
 refine U.l0 λma I a w U=>?_
 refine aF λI a w U=>?_
 refine U.ap 3 λmF a w U=>?_
 obtain⟨I,U⟩:=U.fr 3 14
 refine U.o .fv λU=>?_
 try have Pu:=U.eJ 3 rfl
 refine ai λI a w U=>?_
 refine U.l0 λyI I a w U=>?_
 refine aF λI a w U=>?_
 refine U.ap 4 λqO a w U=>?_
 simp only[List.nil_append] at U
 refine U.o .fv λU=>?_
 try have Zb:=U.eJ 4 rfl
 refine ai λI a w U=>?_
 refine U.l0 λAS I a w U=>?_
 refine aA λI a w U=>?_
 refine St.lo (σ:=Nat×Value) (run 3 3 (run 20 22 [])) ⟨λ⟨k,v⟩=>[(4,AV.int k),(3,AV.val v)],λ⟨k,v⟩=>[Own.box b1 39 [AV.int q.an,AV.int q.num,AV.int q.kind,jg q.keys,AV.int q.val,bm q.ctx,AV.int q.bD,AV.int q.end_,AV.bool q.over,AV.int q.aq.time,AV.int q.aq.site,qj q.az,AV.val qO],Own.box b2 39 [AV.val (.int .i64 0),AV.val (.int .i64 0),AV.val (.int .i64 0),AV.rows 1 [],AV.val (.int .i64 0),AV.rows 3 [],AV.val (.int .i64 0),AV.val (.int .i64 0),AV.val (.bool false),AV.val (.int .i64 0),AV.val (.int .i64 0),AV.rows 9 [],AV.rows 3 []],Own.gone,Own.gone,Own.row qO 63 3 (q.aP.map au.cells),Own.row v 45 9 ((q.az.take k).map Answer.cells)],λ⟨k,v⟩=>k<=q.az.length⟩ (λ⟨k,v⟩=>q.az.length-k) (0,.slice (some ⟨AS,0,none⟩) 0 0) U ?aJ ?aK
 case aJ=>exact Nat.zero_le _
 case aK=>
  rintro⟨k,v⟩ I a w aj U
  have hk:k<=q.az.length:=aj
  dsimp only at U
  refine ck λI a w U=>?_
  refine cz (λae=>?_) λae=>?_
  ·refine bM λI a w U=>?_
   refine U.alloc rfl fj od λb5 I a w U=>?_
   refine bk λI a w U=>?_
   refine U.o (.c1 (pE _ (h5 _ (aV ae)))) λU=>U.o .fv λU=>U.rv 6 bA .tt .tt rfl rfl rfl λa w U=>?_
   refine aF λI a w U=>?_
   refine U.o (.li [(ab q.az k).cells] uR (.u .nil)) λU=>?_
   refine U.ap 5 λDq a w U=>?_
   rw[cA,<-dW ae] at U
   refine aU λI a w U=>?_
   have U:=U.drop 6
   exact U.ag (k+1,Dq) (ae)
  ·refine wp_exit<|cN<|cN<|gw<|aY<|wp_seq ?_
   rw[List.take_of_length_le (by omega)] at U
   refine aF λI a w U=>?_
   try have akk:=U.eJ 5 rfl
   refine aI λI a w U=>?_
   exact U.de (v,qO) [5,4] rfl (.cons (.s 1 dQ rfl rfl (by first|rfl|assumption)) .nil) trivial rfl rfl
theorem Pv (q:Call) (h:ym q):
 c7 Tryz.prog 72 [q.av] [] (λ_:Value×Value=>True) (λu=>[Own.row u.1 45 9 (q.az.map Answer.cells),Own.row u.2 63 3 (q.aP.map au.cells)]) (λu=>q.yx u.1 u.2):=by
 refine c7.intro 40 Tryz.func72 rfl Tryz.ntmps72 rfl (by kernel_rfl) (λW I a U=>?_)
 obtain⟨h1,h2,h4,h5,h3⟩:=h
 have U:=U.gC (sz:=9) 45
 refine sr<|U.box rfl .tt λb1 I a w U=>U.alloc rfl dQ gD λb2 I a w U=>?_
 refine zt ?_
 refine U.da 10 ?_
 simp only[TD]
 refine bT ?_
 refine .o (Ca ju gO rfl VT .r (λ_=>by simp;omega)) ?_
 refine bT ?_
 refine .o (.cl (tN q.ctx h2)) ?_
 refine bT ?_
 refine gj.oW (CW q.aP h3) (aw .r aL) ?_
 refine bn ?_
 refine .nil ?_
 intro I a w U
 obtain⟨mF,U⟩:=U.Ce (d:=14)
 refine bt λI a w U=>?_
 try have Pu:=U.eJ 3 rfl
 refine jj λI a w U=>?_
 refine St.lo (σ:=Nat×Value) (3::(5::(run 16 21 []))) ⟨λ⟨k,v⟩=>[(21,AV.int k),(3,AV.val v)],λ⟨k,v⟩=>[Own.row v 45 9 ((q.az.take k).map Answer.cells),Own.box b1 39 [AV.int q.an,AV.int q.num,AV.int q.kind,jg q.keys,AV.int q.val,bm q.ctx,AV.int q.bD,AV.int q.end_,AV.bool q.over,AV.int q.aq.time,AV.int q.aq.site,qj q.az,AV.val mF],Own.box b2 39 [AV.val (.int .i64 0),AV.val (.int .i64 0),AV.val (.int .i64 0),AV.rows 1 [],AV.val (.int .i64 0),AV.rows 3 [],AV.val (.int .i64 0),AV.val (.int .i64 0),AV.val (.bool false),AV.val (.int .i64 0),AV.val (.int .i64 0),AV.rows 9 [],AV.rows 3 []],Own.row mF 63 3 (q.aP.map au.cells)],λ⟨k,v⟩=>k<=q.az.length⟩ (λ⟨k,v⟩=>q.az.length-k) (0,.slice none 0 0) U ?aJ ?aK
 case aJ=>exact Nat.zero_le _
 case aK=>
  rintro⟨k,v⟩ I a w aj U
  have hk:k<=q.az.length:=aj
  dsimp only at U
  refine ai λI a w U=>?_
  refine cz (λae=>?_) λae=>?_
  ·refine aF λI a w U=>?_
   refine U.alloc rfl fj od λb5 I a w U=>?_
   refine ai λI a w U=>?_
   obtain⟨I,U⟩:=U.fb 4 5
   refine U.dt 10 ?_
   simp only[TD]
   refine lF ?_
   refine .o (.c1 (w5 _ (h5 _ (aV ae)))) ?_
   refine .o (.bd od (.k (.k (.t bf.nil)))) ?_
   refine .o (.li [(ab q.az k).cells] uR (.u .nil)) ?_
   refine .nil ?_
   intro I a w U
   refine U.ap 0 λZF a w U=>?_
   rw[cA,<-dW ae] at U
   refine aI λI a w U=>?_
   have U:=U.drop 4
   exact U.ag (k+1,ZF) (ae)
  ·refine wp_exit<|cN<|cN<|gw<|aY<|wp_seq ?_
   rw[List.take_of_length_le (by omega)] at U
   refine aF λI a w U=>?_
   try have akl:=U.eJ 0 rfl
   refine aI λI a w U=>?_
   exact U.de (v,mF) [0,3] rfl (.cons (.s 2 dQ rfl rfl (by first|rfl|assumption)) .nil) trivial rfl rfl
theorem Pw (q:Call) (h:ym q):Fn Tryz.prog 72 [q.av] q.av:=(Pv q h).frozen λr c I a w _ U=>by
 obtain⟨I,U⟩:=U.fa 0 0 11
 obtain⟨I,U⟩:=U.fa 1 0 12
 exact⟨_,_,_,U⟩
structure nR (l:List Answer) (v:Answer) (k:Nat) (done:Bool) (out:List Answer):Prop where
 hk:k<=l.length
 eq:cR l v=if done then out++l.drop k else out++cR (l.drop k) v
 len:out.length<=k+done.toNat
def oE (q:Call):Nat->List au
 |0=>q.aP
 |k+1=>oE q k++oh (eW q) (ab q.az k)
theorem Px (q:Call):∀k,k<=q.az.length->oE q k=q.aP++((q.az.take k).map (oh (eW q))).flatten
 |0,_=>by simp[oE]
 |k+1,h=>by
  show oE q k++_=_
  rw[Px q k (by omega),dW (by omega),List.map_append,List.flatten_append,List.append_assoc];simp
theorem HM {q:Call} {k:Nat} (h:k<q.az.length):oE q (k+1)=oE q k++oh (eW q) (ab q.az k):=rfl
theorem ZG {q:Call} {k:Nat} (h:k<q.az.length) (hl:bP (ab q.az k).be.aq (bx (eW q) (ab q.az k).key)=true):oE q k++[⟨(ab q.az k).key,bx (eW q) (ab q.az k).key⟩]=oE q (k+1):=by
 rw[HM h];unfold oh;rw[if_pos hl]
theorem ZH {q:Call} {k:Nat} (h:k<q.az.length) (hl:¬bP (ab q.az k).be.aq (bx (eW q) (ab q.az k).key)=true):oE q k=oE q (k+1):=by
 rw[HM h];unfold oh;rw[if_neg hl,List.append_nil]
theorem Py (q:Call):∀k,k<=q.az.length->(oE q k).length<=q.aP.length+k
 |0,_=>by simp[oE]
 |k+1,h=>by
  have ih:=Py q k (by omega)
  rw[HM (by omega),List.length_append]
  have:(oh (eW q) (ab q.az k)).length<=1:=by unfold oh;split<;>simp
  omega
theorem ZI {q:Call} {a:Answer} {k:Nat} (h:k<q.aP.length) (he:ab q.aP k=a.be.aT):pL q a (k+1)=q.az.set (cv q a.key).toNat a:=by
 unfold pL;rw[if_pos ((Gj h).2 (.inr he.symm))]
theorem ZJ {q:Call} {a:Answer} {k:Nat} (h:k<q.aP.length) (he:ab q.aP k≠a.be.aT):pL q a k=pL q a (k+1):=by
 unfold pL
 by_cases hm:a.be.aT∈q.aP.take k
 ·rw[if_pos hm,if_pos ((Gj h).2 (.inl hm))]
 ·rw[if_neg hm,if_neg λhh=>((Gj h).1 hh).elim hm λe=>he e.symm]
theorem ZK {q:Call} {a:Answer} {k:Nat} (h:k<q.aP.length) (he:ab q.aP k=a.be.aT):pI q a k=pI q a (k+1):=(ot h (by simp[he])).symm
theorem ZL {q:Call} {a:Answer} {k:Nat} (h:k<q.aP.length) (he:ab q.aP k≠a.be.aT):pI q a k++[ab q.aP k]=pI q a (k+1):=(oA h (by simp[he])).symm
theorem ZM (q:Call) (a:Answer) (k:Nat):(pI q a k).length<=q.aP.length:=rX _ _ _
theorem ZN (v:Value) (l:List (List AV)) (x:List AV) (i:Nat) (hi:i<=l.length) (hl:l.length<=1048576) (et:∀r∈l,r.length=9) (hx:x.length=9):
 jK Tryz.prog 254 [AV.val v,AV.int i,AV.rows 9 [x]] [Own.row v 45 9 l] [] (AV.rows 9 (l.take i++x::l.drop i)):=by
 refine jK.intro 95 Tryz.func254 rfl Tryz.ntmps254 rfl (by kernel_rfl) (λW I a U=>?_)
 obtain⟨q,cap,rfl,nk⟩:=U.z6 0 rfl
 refine bk λI a w U=>?_
 refine U.o (FA iI fj .tt .tt ⟨by omega,by omega⟩ nk) λU=>?_
 refine bH λI a w U=>?_
 refine U.o (zx iI .tt) λU=>?_
 rw[show(([x]:List (List AV)).length:Int)=1 from rfl] at U
 refine aI λI a w U=>?_
 refine U.cd (λae=>?_) λae=>?_
 ·exfalso;simp at ae
  skip
 ·refine jj λI a w U=>?_
  refine cz (λah=>?_) λah=>?_
  ·refine aF λI a w U=>?_
   refine U.append 0 rfl iI fj rfl .tt .tt rfl (by simp only[List.length_singleton];omega) λwZ a w U=>?_
   obtain⟨I,U⟩:=U.fr 0 25
   have U:=U.drop 0
   refine ai λI a w U=>?_
   refine U.tp rfl (.cons .x .nil) rfl ?_
   exact congrArg (AV.rows 9) (by rw[show i=l.length by omega];simp)
  ·refine bt λI a w U=>?_
   refine U.o (z1 iI .tt) λU=>?_
   refine ai λI a w U=>?_
   refine cz (λal=>?_) λal=>?_
   ·refine zt ?_
    have bj:l≠[]:=by intro e;rw[e] at hi ah;simp at hi ah;omega
    obtain⟨b,oN,he,n7,j2,nz,U⟩:=U.tn 0 rfl bj
    simp only[Value.slice.injEq] at he
    obtain⟨rfl,_,rfl⟩:=he
    have hA:(l.take i).flatten.length=i*9:=by rw[gI λr hr=>et r (List.mem_of_mem_take hr),List.length_take,Nat.min_eq_left hi]
    have hB:(l.drop i).flatten.length=(l.length-i)*9:=by rw[gI λr hr=>et r (List.mem_of_mem_drop hr),List.length_drop]
    rw[show l.flatten=(l.take i).flatten++(l.drop i).flatten by rw[<-List.flatten_append,List.take_append_drop],List.map_append] at U
    have gE:([x]:List (List AV)).flatten.length=9:=by simpa using hx
    have hlen:(l.take i++x::l.drop i).length=l.length+1:=by simp;omega
    have nL:∀r∈l.take i++x::l.drop i,r.length=9:=λr hr=>(List.mem_append.1 hr).elim (λh=>et r (List.mem_of_mem_take h)) λh=>(List.mem_cons.1 h).elim (λe=>e▸hx) λh=>et r (List.mem_of_mem_drop h)
    have qI:(l.take i++x::l.drop i).flatten.map some=(l.take i).flatten.map some++([x]:List (List AV)).flatten.map some++(l.drop i).flatten.map some:=by simp
    refine aF λI a w U=>?_
    refine U.o (rJ (hi:=i) iI fj .tt .tt rfl (by omega) (by omega)) λU=>?_
    refine bM λI a w U=>?_
    refine U.FC (eR:=l.length+1-i) (xs:=(l.take i).flatten) 0 iI ny fj rfl (by decide) .tt .tt (by omega) (by omega) rfl (by rw[List.drop_zero,List.append_assoc];exact kV _ (List.length_map _)) hA (by omega) (by omega) (by omega) rfl λ{gb w3 a w} n6 pB U=>?_
    refine bk λI a w U=>?_
    refine U.o (ky (lo:=i) iI fj .tt .tt rfl (by omega) (by omega)) λU=>?_
    refine U.m λU=>?_
    refine U.xX 1 iI fj .tt .tt rfl (by simp) (by simp only[List.length_singleton];omega) (by simp only[List.length_singleton,List.length_append,List.length_map,List.length_replicate,hA];omega) rfl λU=>?_
    refine zt ?_
    refine U.dt 8 ?_
    simp only[TD]
    refine dq ?_
    refine .o (ky (lo:=i+1) iI fj .tt .tt (by omega) (by omega) (by omega)) ?_
    refine bT ?_
    refine .o (ky (lo:=i) iI fj .tt .tt rfl (by omega) (by omega)) ?_
    refine .nil ?_
    intro I a w U
    refine U.xY (xs:=(l.drop i).flatten) 1 0 iI fj .tt .tt rfl rfl (by rw[List.append_assoc,wk _ (by simp only[List.length_map,hA];omega)];exact kV _ (List.length_map _)) (by rw[hB,Nat.min_eq_left (by omega)]) (by rw[l4 (by simp only[List.length_map,List.length_append,List.length_replicate,gE,hA];omega)];simp only[List.length_append,List.length_map,List.length_replicate,hA,hB];omega) rfl λU=>?_
    rw[FI (by simp only[List.length_map,hA];omega) (by simp only[List.length_map,gE];omega) (by simp only[List.length_map,List.length_replicate,gE,hB];omega)] at U
    have U:=U.rH (l:=l.take i++x::l.drop i) (cap:=w3) 1 rfl (by simp only[List.length_append,List.length_map,List.length_drop,List.length_replicate,hA,hB,gE];omega) nL (by omega) (by omega) (by omega) (by rw[qI,hlen];exact kV _ (by simp only[List.length_append,List.length_map,hA,hB,gE];omega))
    rw[show i+(l.length+1-i)=(l.take i++x::l.drop i).length by omega] at U
    obtain⟨I,U⟩:=U.fr 1 9
    have U:=U.drop 0
    refine aA λI a w U=>?_
    exact U.tp rfl (.cons (by first|exact .t rfl|exact .nil rfl) .nil) rfl rfl
   ·refine zt ?_
    have bj:l≠[]:=by intro e;rw[e] at hi ah;simp at hi ah;omega
    obtain⟨b,oN,he,n7,j2,nz,U⟩:=U.tn 0 rfl bj
    simp only[Value.slice.injEq] at he
    obtain⟨rfl,_,rfl⟩:=he
    have hA:(l.take i).flatten.length=i*9:=by rw[gI λr hr=>et r (List.mem_of_mem_take hr),List.length_take,Nat.min_eq_left hi]
    have hB:(l.drop i).flatten.length=(l.length-i)*9:=by rw[gI λr hr=>et r (List.mem_of_mem_drop hr),List.length_drop]
    rw[show l.flatten=(l.take i).flatten++(l.drop i).flatten by rw[<-List.flatten_append,List.take_append_drop],List.map_append] at U
    have gE:([x]:List (List AV)).flatten.length=9:=by simpa using hx
    have hlen:(l.take i++x::l.drop i).length=l.length+1:=by simp;omega
    have nL:∀r∈l.take i++x::l.drop i,r.length=9:=λr hr=>(List.mem_append.1 hr).elim (λh=>et r (List.mem_of_mem_take h)) λh=>(List.mem_cons.1 h).elim (λe=>e▸hx) λh=>et r (List.mem_of_mem_drop h)
    have qI:(l.take i++x::l.drop i).flatten.map some=(l.take i).flatten.map some++([x]:List (List AV)).flatten.map some++(l.drop i).flatten.map some:=by simp
    refine bt λI a w U=>?_
    refine U.o (rJ (hi:=l.length+1) iI fj .tt .tt (by omega) (by omega) (by omega)) λU=>?_
    refine dD λI a w U=>?_
    refine U.o (ky (lo:=i+1) iI fj .tt .tt (by omega) (by omega) (by omega)) λU=>?_
    refine U.overlaps (tR:=4) 0 Tryz.func271 rfl (by kernel_rfl) (by kernel_rfl) (by kernel_rfl) iI fj (by decide) .tt (by simp) .tt rfl rfl λU=>?_
    refine ai λI a w U=>?_
    refine U.cd (λaH=>?_) λaH=>?_
    ·refine wp_seq ?_
     refine U.dt 8 ?_
     simp only[TD]
     refine dq ?_
     refine .o (ky (lo:=i+1) iI fj .tt .tt (by omega) (by omega) (by omega)) ?_
     refine bT ?_
     refine .o (ky (lo:=i) iI fj .tt .tt rfl (by omega) (by omega)) ?_
     refine .nil ?_
     intro I a w U
     refine U.xY (xs:=(l.drop i).flatten) 0 0 iI fj .tt .tt rfl rfl (by rw[List.append_assoc,wk _ (by simp only[List.length_map,hA];omega)];exact kV _ (List.length_map _)) (by rw[hB];congr 1;omega) (by simp only[List.length_append,List.length_map,List.length_replicate,hA,hB];omega) rfl λU=>?_
     refine aF λI a w U=>?_
     refine U.o (ky (lo:=i) iI fj .tt .tt rfl (by omega) (by omega)) λU=>?_
     refine U.m λU=>?_
     refine U.xX 0 iI fj .tt .tt rfl (by simp) (by simp only[List.length_singleton];omega) (by rw[l4 (by simp only[List.length_map,List.length_append,List.length_replicate,hA,hB];omega)];simp only[List.length_singleton,List.length_append,List.length_map,List.length_replicate,hA,hB];omega) rfl λU=>?_
     rw[FH (by simp only[List.length_map,hA];omega) (by simp only[List.length_map,gE];omega) (by simp only[List.length_map,List.length_replicate,gE];omega)] at U
     have U:=U.rH (l:=l.take i++x::l.drop i) (cap:=cap) 0 rfl (by simp only[List.length_append,List.length_map,List.length_drop,List.length_replicate,hA,hB,gE];omega) nL (by omega) (by omega) (by omega) (by rw[qI,hlen];exact kV _ (by simp only[List.length_append,List.length_map,hA,hB,gE];omega))
     rw[show l.length+1=(l.take i++x::l.drop i).length by omega] at U
     obtain⟨I,U⟩:=U.fr 0 0
     have U:=U.drop 0
     refine aA λI a w U=>?_
     exact U.tp rfl (.cons (by first|exact .t rfl|exact .nil rfl) .nil) rfl rfl
    ·exfalso;simp at aH
     skip
theorem ZO {a:Answer} (h:dB a=true):bP a.be.aq eV=false:=by
 cases hy:a.yes
 ·rw[u5 h hy];rfl
 ·have:=(yL h hy).1
  simp only[lh,Bool.and_eq_true] at this
  have U:=this.2
  simp[db,aQ,aB.aT] at U
  rw[Bool.eq_false_iff];intro e;simp[bP,eV] at e
  have h1:=of_decide_eq_true U.1.1
  rcases e with e|⟨e,_⟩
  ·have:=of_decide_eq_true e;omega
  ·omega
theorem Pz:∀{l:List Answer} {a:Answer} {k:Nat},k<=l.length->(∀i,i<k->(ab l i).key<a.key)->(k<l.length->¬(ab l k).key<a.key)->(∀x∈l,x.key≠a.key)->l.take k++a::l.drop k=cR l a
 |[],a,k,h,_,_,_=>by obtain rfl:k=0:=by simpa using h
                     rfl
 |e::r,a,0,_,_,h2,h3=>by
  have h2:=h2 (by simp)
  have h3:=h3 e (by simp)
  have:a.key<e.key:=by have h4:¬e.key<a.key:=h2;omega
  unfold cR;rw[if_pos this];rfl
 |e::r,a,k+1,h,h1,h2,h3=>by
  have h0:e.key<a.key:=h1 0 (by omega)
  unfold cR;rw[if_neg (by omega)]
  show e::(r.take k++a::r.drop k)=_
  rw[Pz (by simpa using h) (λi hi=>h1 (i+1) (by omega)) (λhl=>h2 (by simpa using hl)) λx hx=>h3 x (by simp[hx])]
theorem ZP {l:List au} {d:au} {k:Nat} (h:l.Pairwise λa b=>a≠b) (hk:k<l.length) (e:ab l k=d):l.filter (λx=>!decide (x=d))=l.take k++l.drop (k+1):=by
 have e1:l=l.take k++d::l.drop (k+1):=by rw[<-e,<-mr hk,List.take_append_drop]
 have hp:=h
 rw[e1,List.pairwise_append,List.pairwise_cons] at hp
 conv=>lhs;rw[e1]
 rw[List.filter_append,List.filter_cons_of_neg (by simp),List.filter_eq_self.2 λx hx=>(by simpa using hp.2.2 x hx d (by simp)),List.filter_eq_self.2 λx hx=>(by simpa usingλe=>hp.2.1.1 x hx e.symm)]
def jc (w:aE) (e:Ev):List aC:=if e.kind=5\/e.iR=0 then w.ar.take e.word.toNat++w.ar.drop (e.word.toNat+1) else w.ar
theorem ZQ (w:aE) (e:Ev):(if e.kind=5\/e.iR=0 then{w with ar:=w.ar.take e.word.toNat++w.ar.drop (e.word.toNat+1)} else w)={w with ar:=jc w e}:=by unfold jc;split<;>rfl
theorem PA:
 Fn Tryz.prog 41 [] (cX.av):=by
 refine Fn.go 27 Tryz.func41 Tryz.ntmps41 (λW I a U=>?_)
 refine sr<|U.alloc rfl df dz λb0 I a w U=>?_
 refine zt ?_
 refine U.o (.bd x5 bf.nil) λU=>?_
 refine U.alloc rfl df x5 λb1 I a w U=>?_
 refine ai λI a w U=>?_
 have U:=U.gC (sz:=7) 61
 have U:=U.gC (sz:=1) 34
 refine ai λI a w U=>?_
 refine St.lo (σ:=Nat×Value) (2::(run 11 5 [])) ⟨λ⟨k,p⟩=>[(2,AV.int k)],λ⟨k,p⟩=>[Own.box b0 30 [AV.val (.int .i64 0),AV.rows 7 [],AV.rows 15 [],AV.rows 13 [],AV.rows 1 []],Own.box b1 30 [AV.int 0,AV.val p,AV.val (.slice none 0 0),AV.val (.slice none 0 0),AV.val (.slice none 0 0)],Own.row p 61 7 ((yB k).map Server.cells),Own.row (.slice none 0 0) 34 1 []],λ⟨k,p⟩=>k<=4⟩ (λ⟨k,p⟩=>4-k) (0,.slice none 0 0) U ?aJ ?aK
 case aJ=>exact Nat.zero_le _
 case aK=>
  rintro⟨k,p⟩ I a w aj U
  have hk:k<=4:=aj
  dsimp only at U
  refine aA λI a w U=>?_
  refine cz (λae=>?_) λae=>?_
  ·refine zt ?_
   refine U.dt 5 ?_
   simp only[TD]
   refine cD ?_
   refine .o (bY (ZB k (by omega)) (aw (.t rfl) aL)) ?_
   refine .o (.li [(wY k).cells] Cs (.u .nil)) ?_
   refine .nil ?_
   intro I a w U
   refine U.append 2 rfl tw cm rfl .tt .r rfl (by rw[List.length_map,G3];simp;omega) λmF a w U=>?_
   refine U.o .fv λU=>?_
   try have Pu:=U.eJ 2 rfl
   refine ai λI a w U=>?_
   rw[cA] at U
   refine aI λI a w U=>?_
   exact U.ag (k+1,mF) (by show k+1<=4;omega)
  ·refine zt ?_
   refine ai λI a w U=>?_
   refine St.lo (σ:=Nat×Value) (3::(run 10 16 [])) ⟨λ⟨j,r⟩=>[(3,AV.int j)],λ⟨j,r⟩=>[Own.box b0 30 [AV.val (.int .i64 0),AV.rows 7 [],AV.rows 15 [],AV.rows 13 [],AV.rows 1 []],Own.box b1 30 [AV.int 0,AV.val p,AV.val (.slice none 0 0),AV.val (.slice none 0 0),AV.val r],Own.row p 61 7 ((yB k).map Server.cells),Own.row r 34 1 ((C1 j).map fE)],λ⟨j,r⟩=>j<=2⟩ (λ⟨j,r⟩=>2-j) (0,.slice none 0 0) U ?cU ?cV
   case cU=>exact Nat.zero_le _
   case cV=>
    rintro⟨j,r⟩ I a w aj U
    have hj:j<=2:=aj
    dsimp only at U
    refine aA λI a w U=>?_
    refine cz (λah=>?_) λah=>?_
    ·refine aF λI a w U=>?_
     refine U.l0 λZR I a w U=>?_
     obtain⟨I,U⟩:=U.fr 4 22
     refine U.o (.li [fE []] FZ (.v .nil)) λU=>?_
     refine U.append 3 rfl wx oc rfl .tt .r rfl (by rw[List.length_map,NA];simp;omega) λxa a w U=>?_
     rw[cA] at U
     refine U.o .fv λU=>?_
     try have Zc:=U.eJ 3 rfl
     refine aU λI a w U=>?_
     have U:=U.drop 4
     exact U.ag (j+1,xa) (by show j+1<=2;omega)
    ·refine wp_exit<|cN<|cN<|gw<|aY<|wp_seq ?_
     have HN:k=4:=by omega
     have ZS:j=2:=by omega
     subst HN
     subst ZS
     obtain⟨I,U⟩:=U.fu 2 1 1
     obtain⟨I,U⟩:=U.fu 3 4 1
     have U:=U.np (q:=2) 1 rfl rfl (eO 15 _)
     have U:=U.np (q:=3) 1 rfl rfl (eO 13 _)
     refine aA λI a w U=>?_
     refine U.ret rfl (.cons (.sx 0) aX.nil) ?_
     rfl
theorem PB (v:Value) (l:List aC) (i:Int) (h0:0<=i) (hi:i<l.length) (hl:l.length<=1048576):c7 Tryz.prog 129 [AV.val v,AV.int i,AV.int (i+1)] [Own.row v 70 15 (l.map aC.cells)] (λ_:Value=>True) (λu=>[Own.row u 70 15 ((l.take i.toNat++l.drop (i.toNat+1)).map aC.cells)]) AV.val:=by
 obtain⟨n,rfl⟩:=Int.eq_ofNat_of_zero_le h0
 rw[List.map_append,List.map_take,List.map_drop]
 exact Zy v (l.map aC.cells) n (by rw[List.length_map];omega) (by rw[List.length_map];omega) (λr hr=>by obtain⟨u,_,rfl⟩:=List.mem_map.1 hr;rfl)
theorem HO {α:Type} [Inhabited α] {l:List α} {x:α} (n:Nat) (h:x∈l):x=ab l n\/x∈l.take n++l.drop (n+1):=by
 obtain⟨k,hk,rfl⟩:=gq h
 by_cases e:k=n
 ·exact .inl (by rw[e])
 ·right
  rw[List.mem_append]
  rcases Nat.lt_or_gt_of_ne e with bw|bw
  ·left
   rw[List.mem_iff_getElem]
   exact⟨k,by simp;omega,by simp[ab,hk]⟩
  ·right
   rw[List.mem_iff_getElem]
   exact⟨k-(n+1),by simp;omega,by simp[ab];rw[List.getElem?_eq_getElem hk];simp;congr 1;omega⟩
theorem PC {α:Type} [Inhabited α] (l:List α) (n k:Nat):ab (l.drop n) k=ab l (n+k):=by
 unfold ab;simp[List.getD_eq_getElem?_getD,List.getElem?_drop]
theorem PD (l:List Call) (i:Nat) (x:Int):fF l i x=cM (λy:Int=>y==x) ((l.map Call.an).drop (i+1)):=by
 unfold fF cM
 rw[<-List.map_drop,List.findIdx?_map];rfl
theorem ZT {l:List Call} {i:Nat} {p:Call} (hi:i<l.length) (hp:p.an=(ab l i).an) (j:Nat) (x:Int):fF (l.set i p) j x=fF l j x:=by
 rw[PD,PD,List.map_set]
 have e:p.an=ab (l.map Call.an) i:=by rw[hp];simp[ab,hi]
 rw[e,XH (by simpa using hi)]
theorem PE {l:List Call} {i:Nat} {x:Int} (h:fF l i x<0) {j:Nat} (gN:i<j) (hj:j<l.length):(ab l j).an≠x:=by
 unfold fF at h
 have:=AD h (j-(i+1)) (by rw[List.length_drop];omega)
 rw[PC,show i+1+(j-(i+1))=j by omega] at this
 simpa[lK] using this
end Go.Proofs.YtjepcfpkclegdaaGreat

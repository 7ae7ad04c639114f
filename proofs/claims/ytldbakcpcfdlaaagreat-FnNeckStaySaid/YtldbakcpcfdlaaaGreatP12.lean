/- Part 12: contracts of functions, plain facts. -/
import Derived.Test.YtldbakcpcfdlaaaGreatP10
set_option linter.all false
set_option maxRecDepth 100000
set_option maxHeartbeats 4000000
namespace Go.Proofs.YtldbakcpcfdlaaaGreat
open Go Go.RowKit Tryz
attribute [local irreducible] wpList Code.wp Ok
def C1 (n:Int):
 Fn prog 176 [AV.int n] (AV.bool (aJ n 10 11)):=by
 refine Fn.go 5 func176 ntmps176 (λW I a U=>?_);refine aG λI a w U=>?_;refine U.o (.cl (jJ ..)) λU=>?_;refine bf ?_;rfl
def acX {n:Int} (h:gV n):eF (IntKind.i64.wrap (n-10))=eF (n-10):=by
 obtain⟨h1,h2⟩:=h;by_cases h3:-9223372036854775808<=n-10
 .rw[IntWalk.i64_in _ ⟨h3,by omega⟩]
 have e:IntKind.i64.wrap (n-10)=n-10+18446744073709551616:=by
  simp only[IntKind.wrap];simp[IntKind.signed,IntKind.bits];omega
 rw[e];simp only[eF,aJ];rw[Bool.eq_iff_iff];simp;omega
def Sn (l:List (Call)) (p:(Call)->Bool) (fv:AV) (hf:∀x:Call,x∈l->lh prog fv [x.av] (AV.bool (p x))):
 Fn prog 93 [iL l,fv] (AV.int (df p l)):=by
 refine Fn.go 19 func93 ntmps93 (λW I a U=>?_);have hle:=U.eE (t:=0) rfl;refine aX λI a w U=>?_;refine St.lo (σ:=Nat) (run 2 4 (run 11 8 [])) ⟨λk=>[(8,AV.int k)],λk=>[],λk=>k<=l.length/\∀i,i<k->p (ab l i)=false⟩ (λk=>l.length-k) 0 U ?aI ?bF;case aI=>exact⟨Nat.zero_le _,λi hi=>by omega⟩
 rintro k I a w ao U;obtain⟨hk,aM⟩:=ao;refine aB λI a w U=>?_;refine cz (λae=>?_) λae=>?_
 .refine g9 λI a w U=>?_;refine U.o (qp (hf _ (bh ae)) .tt (ax .tt aH)) λU=>?_;refine zt ?_;refine U.cd (λah=>?_) λah=>?_
  .refine c8 ?_;exact gx (nB ae aM ah).symm
  refine aF λI a w U=>?_;exact U.ag (k+1) (⟨ae,λi h1=>by rcases Nat.lt_succ_iff_lt_or_eq.1 h1 with h|h;exact aM i h;rw[h];exact ah⟩)
 refine zt ?_;refine bf ?_;exact gx (mS om aM).symm
def KC (l:List (Answer)) (p:(Answer)->Bool) (fv:AV) (hf:∀x:Answer,x∈l->lh prog fv [x.av] (AV.bool (p x))):
 Fn prog 256 [sd l,fv] (AV.int (df p l)):=by
 refine Fn.go 19 func256 ntmps256 (λW I a U=>?_);have hle:=U.eE (t:=0) rfl;refine aX λI a w U=>?_;refine St.lo (σ:=Nat) (run 2 4 (run 11 8 [])) ⟨λk=>[(8,AV.int k)],λk=>[],λk=>k<=l.length/\∀i,i<k->p (ab l i)=false⟩ (λk=>l.length-k) 0 U ?aI ?bF;case aI=>exact⟨Nat.zero_le _,λi hi=>by omega⟩
 rintro k I a w ao U;obtain⟨hk,aM⟩:=ao;refine aB λI a w U=>?_;refine cz (λae=>?_) λae=>?_
 .refine g9 λI a w U=>?_;refine U.o (qp (hf _ (bh ae)) .tt (ax .tt aH)) λU=>?_;refine zt ?_;refine U.cd (λah=>?_) λah=>?_
  .refine c8 ?_;exact gx (nB ae aM ah).symm
  refine aF λI a w U=>?_;exact U.ag (k+1) (⟨ae,λi h1=>by rcases Nat.lt_succ_iff_lt_or_eq.1 h1 with h|h;exact aM i h;rw[h];exact ah⟩)
 refine zt ?_;refine bf ?_;exact gx (mS om aM).symm
def acY (d:aw) (l:List aA):
 Fn prog 224 [d.av,AV.ptr [bU l]] (AV.bool (missing l d)):=by
 refine Fn.go 8 func224 ntmps224 (λW I a U=>?_);refine bx λI a w U=>?_;refine U.o (.cl (oH ..)) λU=>?_;refine c8 ?_;rfl
def So (s:Server) (i:Nat):(cP s (ab s.an i).key==0)=!vn s i:=by simp[vn,bne]
def Sp (s:Server) (v:aA):((cP s v.key==0)||!(bM v.ar.site !=bM s.site)||decide (0<=placeOf s.an v.aU))=!vo s v:=by
 have e:decide (0<=placeOf s.an v.aU)=!decide (placeOf s.an v.aU<0):=by rw[Bool.eq_iff_iff];simp
 rw[e];simp[vo,bne]
def w3 (l:List Int) (k:Nat):Int:=if k=0 then-1 else ab l (k-1)
def acZ (l:List Int) (k:Nat):w3 l (k+1)=ab l k:=by simp[w3]
def F1 {f:Answer->Int}:∀{ks:List Int} {l:List Answer},ks.Pairwise (·<·)->(l.map f).Pairwise (·<·)->(∀a∈l,f a∈ks)->l.length<=ks.length
 |[],[],_,_,_=>Nat.le_refl _
 |[],a::l,_,_,h=>by have:=h a bn;simp at this
 |y::ks,[],_,_,_=>by simp
 |y::ks,a::l,hk,hl,h=>by
  rw[List.pairwise_cons] at hk;rw[List.map_cons,List.pairwise_cons] at hl;by_cases Sq:f a=y
  .have:l.length<=ks.length:=F1 hk.2 hl.2 λb hb=>by
    have h1:=h b (by simp[hb]);have h2:=hl.1 (f b) (List.mem_map.2 ⟨b,hb,rfl⟩);rcases List.mem_cons.1 h1 with h3|h3
    .omega
    exact h3
   simp;omega
  have Rc:y<f a:=by
   rcases List.mem_cons.1 (h a bn) with h3|h3
   .exact absurd h3 Sq
   exact hk.1 _ h3
  have:(a::l).length<=ks.length:=F1 hk.2 (by rw[List.map_cons,List.pairwise_cons];exact hl) λb hb=>by
   have h1:=h b hb;rcases List.mem_cons.1 h1 with h3|h3
   .rcases List.mem_cons.1 hb with rfl|hb
    .exact absurd h3 Sq
    have h2:=hl.1 (f b) (List.mem_map.2 ⟨b,hb,rfl⟩);omega
   exact h3
  simp at this⊢;omega
def oQ (w:ai):Bool:=!(!aJ w.time 0 99999||((w.aC.length:Int) !=4)||decide (60<(w.al.length:Int))||((w.seen.length:Int) !=2))
def sD (w:ai) (i:Nat):Bool:=((ab w.aC i).site==(i:Int))&&iB (ab w.aC i)
def yA (l:List aw):Bool:=!bT l
def ub (out:List aw) (a:Answer):List aw:=if a.yes then gI out ⟨a.key,a.aY.ar⟩ else out
def er (out:List aA) (v:aA):List aA:=if placeOf out v.aU<0 then fJ out v else out
def ac0 {out:List aA} {v x:aA} (h:x∈er out v):x=v\/x∈out:=by
 unfold er at h;split at h
 .exact hC.1 h
 exact Or.inr h
def ac1 (out:List aA) (v:aA):(er out v).length<=out.length+1:=by
 unfold er;split
 .rw[RH];exact Nat.le_refl _
 omega
def w4:∀{l out:List aA} {x:aA},x∈l.foldl er out->x∈l\/x∈out
 |[],_,_,h=>Or.inr h
 |v::r,out,x,h=>by
  rcases w4 (l:=r) h with h1|h1
  .exact Or.inl (by simp[h1])
  rcases ac0 h1 with rfl|h2
  .exact Or.inl bn
  exact Or.inr h2
def w5:∀(l out:List aA),(l.foldl er out).length<=out.length+l.length
 |[],_=>by simp
 |v::r,out=>by
  have:=w5 r (er out v);have h2:=ac1 out v;simp at this⊢;omega
def vA {l out:List aA} {k:Nat} (h:k<l.length):(l.take (k+1)).foldl er out=er ((l.take k).foldl er out) (ab l k):=by
 rw[fe h,List.foldl_append];rfl
def cg (w:ai) (s:Int):List aA:=(ab w.aC (2*s+1).toNat).an.foldl er (ab w.aC (2*s).toNat).an
def eK (l:List aA) (d:aw):Option aA:=if 0<=placeOf l d then some (ab l (placeOf l d).toNat) else none
def C2 (a b:aA):Bool:=(a.aj==b.aj)&&(a.call==b.call)
def vB (x y:de):Bool:=(x.cm==2)&&(y.cm !=1)&&decide (y.bw<x.bw)
def w6 (own:List aA) (side:Int) (c:Call):Bool:=((c.aj !=side)||(c.kind !=1)||(c.end_==0))||(decide (0<=placeOf own ⟨ab c.keys 0,c.ar⟩)&&((ab own (placeOf own ⟨ab c.keys 0,c.ar⟩).toNat).val==c.val)&&((ab own (placeOf own ⟨ab c.keys 0,c.ar⟩).toNat).aj==c.aj)&&((ab own (placeOf own ⟨ab c.keys 0,c.ar⟩).toNat).call==c.num))
def cT (w:ai) (k:Int):Server:=ab w.aC k.toNat
def Sr {s:Server} (h:iB s=true):vm s=true:=by
 simp only[iB,Bool.and_eq_true] at h;exact h.1.1.1.1
def fA (site:Int):Int:=if site%2=0 then site+1 else site-1
def jw (s:Server) (m:az):Server:=
 if cM m.aT&&(bM m.aT !=bM s.site)&&decide (0<=fy s.aE ⟨m.key,m.ar⟩)&&(cP s m.key==1) then
  {s with aE:=s.aE.take (fy s.aE ⟨m.key,m.ar⟩).toNat++s.aE.drop ((fy s.aE ⟨m.key,m.ar⟩).toNat+1)}
 else s
def jx (l:List aA) (vs:List aA):List aA:=vs.foldl er l
def pQ (s:Server) (m:az):Bool:=
 let x:=eh s m.slot
 decide (x.an.length+m.an.length<=80)&&decide (x.waits.length+m.waits.length<=80)&&decide (x.aE.length+m.aE.length<=80)
def jL (s:Server) (m:az):Server:=
 if(m.aT==fA s.site)&&((ab s.aD m.slot.toNat).cm==2)&&((ab s.aD m.slot.toNat).bw==m.bw) then ef (lr s m) else s
def leaving (s:Server):List Nat:=(List.range s.aD.length).filter λi=>(ab s.aD i).cm==2
def yB (site:Nat):Server:=⟨site,true,(List.range 3).map λi=>if i%2=site%2 then⟨1,1⟩ else⟨0,0⟩,[],[],[],[]⟩
def dT:ai:=⟨0,(List.range 4).map yB,[],[],[[],[]]⟩
def qI (u v:aA):Bool:=!((u.key !=v.key)||([u.ar.time,u.ar.site] !=[v.ar.time,v.ar.site])||(u.val !=v.val)||(u.aj !=v.aj)||(u.call !=v.call)||((u.aQ.length:Int) !=v.aQ.length))
def AD (u v:aA) (i:Nat):Bool:=decide (ab u.aQ i=ab v.aQ i)
def KD {α:Type} [Inhabited α] {l m:List α} (h:l.length=m.length) (he:∀i,i<l.length->ab l i=ab m i):l=m:=by
 apply List.ext_getElem h;intro i h1 h2;have:=he i h1;simpa[ab,h1,h2] using this
def AE (d e:aw):([d.key,d.ar.time,d.ar.site] !=[e.key,e.ar.time,e.ar.site])=!decide (d=e):=by
 obtain⟨k,⟨t,s⟩⟩:=d;obtain⟨k',⟨t',s'⟩⟩:=e;rw[Bool.eq_iff_iff];simp;omega
def AF {u v:aA} (h:qI u v=true):u.aQ.length=v.aQ.length:=by
 simp only[qI,Bool.not_eq_true',Bool.or_eq_false_iff] at h;have:=h.2;simp at this;omega
def F3:ye prog 162 3 3 (λx:Int=>Lit.int .i64 x) (λx:Int=>Value.int .i64 x) (λx=>.lit (.int .i64 x)) (λx=>-9223372036854775808<=x/\x<=9223372036854775807) 0:=Z9 abc oG oG λw=>jH.zero
def Ss {α:Type} [Inhabited α] {l:List α} {j k:Nat} (h:j<k):ab (l.take k) j=ab l j:=by
 unfold ab;simp[List.getD_eq_getElem?_getD,List.getElem?_take,h]
def ac2 (n:Nat):decide ((n:Int)<=20)=decide (n<=20):=by rw[Bool.eq_iff_iff];simp;omega
def Su {x:ai} (h:oQ x=true):0<=x.time/\x.time<=99999:=by
 simp only[oQ,Bool.not_eq_true',Bool.or_eq_false_iff] at h;have:=h.1.1.1;simp[aJ] at this;exact this
def AG (l:List (List aw)):(!hasB yA l)=cI l.length λi=>bT (ab l i):=by
 rw[ym];exact Ac rfl λi _=>by simp[yA]
def F4 {l out:List aA} (h1:∀v∈l,v.aQ.length<=6) (h2:∀v∈out,v.aQ.length<=6):∀v∈l.foldl er out,v.aQ.length<=6:=λv hv=>(w4 hv).elim (h1 v) (h2 v)
def Server.AH (s:Server) (v:Value):AV:=.agg [.int s.site,.bool s.up,.val v,bU s.an,bU s.waits,bE s.aE,bE s.ba]
def Sv {α:Type} [Inhabited α] {p:α->Bool} {l:List α} {k:Nat} (hk:k<l.length) (h:∀i,i<k->p (ab l i)=false) (hp:p (ab l k)=true):l.find? p=some (ab l k):=by
 rw[List.find?_eq_some_iff_getElem];refine⟨hp,k,hk,by simp[ab,hk],λj hj=>?_⟩;have mo:j<l.length:=by omega
 have:=h j hj;simpa[ab,mo] using this
def Sw {α:Type} [Inhabited α] {p:α->Bool} {l:List α} {k:Nat} (hk:l.length<=k) (h:∀i,i<k->p (ab l i)=false):l.find? p=none:=by
 rw[List.find?_eq_none];intro x hx;obtain⟨i,hi,rfl⟩:=fS hx;rw[h i om];simp
def AI (n:Int) (hn:cM n=true):
 Fn prog 313 [AV.int n] (AV.int (fA n)):=by
 refine Fn.go 10 func313 ntmps313 (λW I a U=>?_);have xP:0<=n/\n<=3:=by simpa[cM,aJ] using hn
 refine aG λI a w U=>?_;refine U.o (uW .tt .c (λ_=>by omega)) λU=>?_;refine aB λI a w U=>?_;refine U.cd (λae=>?_) λae=>?_
 .refine tO ?_;exact gx (by unfold fA;rw[if_pos (by simpa using ae)])
 refine tO ?_;exact gx (by unfold fA;rw[if_neg (by simpa using ae)])
def qJ {m:az} (h:bK m=true):0<=m.slot/\m.slot<3:=by
 simp only[bK,Bool.and_eq_true,aJ,decide_eq_true_eq] at h;omega
def uc {x:de}:sh x=true↔0<=x.bw/\x.bw<=9999/\0<=x.cm/\x.cm<=2/\(x.cm≠0->x.bw≠0):=by
 unfold sh aJ;simp only[Bool.and_eq_true,decide_eq_true_eq,Bool.not_eq_true',Bool.and_eq_false_iff,bne_eq_false_iff_eq,beq_eq_false_iff_ne];constructor
 .rintro⟨⟨⟨a,b⟩,d,e⟩,f⟩;exact⟨a,b,d,e,λh=>f.resolve_left h⟩
 rintro⟨a,b,d,e,f⟩;exact⟨⟨⟨a,b⟩,d,e⟩,by by_cases h:x.cm=0;exact .inl h;exact .inr (f h)⟩
def F5 {s:Server} (h:bJ s) {i:Nat} (hi:i<3):sh (ab s.aD i)=true:=h.aN _ (bh (by rw[h.aD];exact hi))
def vC {m:az} (h1:1<=m.kind/\m.kind<=10) (h2:lH m.aT=true) (h3:lH m.to=true) (h4:0<=m.call/\m.call<=99) (h5:du m.key=true) (h6:mq m.ar=true) (h7:0<=m.val/\m.val<=9999) (h8:bT m.aQ=true) (h9:0<=m.slot/\m.slot<=2)
 (F6:0<=m.bw/\m.bw<=9999) (EX:ct m.an=true) (F7:ct m.waits=true) (h13:gz m.aE=true):bK m=true:=by
 simp only[bK,Bool.and_eq_true,aJ,decide_eq_true_eq];exact⟨⟨⟨⟨⟨⟨⟨⟨⟨⟨⟨⟨h1,h2⟩,h3⟩,h4⟩,h5⟩,h6⟩,h7⟩,h8⟩,h9⟩,F6⟩,EX⟩,F7⟩,h13⟩
def qK {n:Int} (h:cM n=true):lH n=true:=by unfold lH;rw[h];rfl
def jy {n:Int}:cM n=true↔0<=n/\n<=3:=by simp[cM,aJ]
def Sx {n:Int} (h:cM n=true):cM (fA n)=true:=by
 rw[jy] at*;unfold fA;split<;>omega
def qL:ct []=true:=rfl
def yC:gz []=true:=rfl
def ac4 {v:aA} (h:dN v=true):ct [v]=true:=vw.2 ⟨by simp,by simpa using h,by simp[VS]⟩
def Sy {o:Option aA} (h:∀v,o=some v->dN v=true):ct o.toList=true:=by
 cases o with
 |none=>rfl
 |some v=>exact ac4 (h v rfl)
def C3 {s:cE} (h:dB s=true):mq s=true:=by unfold mq;rw[h];simp
def KE:du 0=true:=rfl
def C4:mq ⟨0,0⟩=true:=rfl
def ud:bT []=true:=rfl
def AJ {l:List aA} {d:aw} {v:aA} (h:eK l d=some v):v∈l/\v.aU=d:=by
 unfold eK at h;split at h
 .rename_i hp;obtain⟨h1,h2⟩:=l7 hp;cases h;exact⟨bh h1,h2⟩
 cases h
def ac5 {s:Server} (h:bJ s) {i:Nat} (hi:i<3):0<=(ab s.aD i).bw/\(ab s.aD i).bw<=9999:=by
 have:=uc.1 (F5 h hi);exact⟨this.1,this.2.1⟩
def ue {n:Int} (h:cM n=true):bM n=n/2/\0<=bM n/\bM n<=1:=by
 have h1:=jy.1 h;unfold bM;rw[h,if_pos rfl];omega
def Sz {s:Server} (h:bJ s) {i:Nat} (hi:i∈leaving s):i<3:=by
 have:=List.mem_range.1 (su hi);rw[h.aD] at this;exact this
def ac6 (v:Value) (l:List (List AV)) (x:List AV) (i:Nat) (hi:i<=l.length) (hl:l.length<=1048576) (fi:∀r∈l,r.length=3) (hx:x.length=3):
 jV prog 361 [AV.val v,AV.int i,AV.rows 3 [x]] [Own.row v 125 3 l] [] (AV.rows 3 (l.take i++x::l.drop i)):=by
 refine jV.intro 95 func361 rfl ntmps361 rfl aO (λW I a U=>?_);obtain⟨q,cap,rfl,nX⟩:=U.Cs 0 rfl;refine bk λI a w U=>?_;refine U.o (Jp dX cW .tt .tt ⟨by omega,by omega⟩ nX) λU=>?_;refine bD λI a w U=>?_;refine U.o (BV dX .tt) λU=>?_;rw[show(([x]:List (List AV)).length:Int)=1 from rfl] at U;refine aR λI a w U=>?_;refine U.cd (λae=>?_) λae=>?_
 .exfalso;simp at ae;skip
 refine iM λI a w U=>?_;refine cz (λah=>?_) λah=>?_
 .refine aG λI a w U=>?_;refine U.append 0 rfl dX cW rfl .tt .tt rfl (by simp only[List.length_singleton];omega) λyp a w U=>?_;obtain⟨I,U⟩:=U.fr 0 25;have U:=U.drop 0;refine aB λI a w U=>?_;refine U.vb rfl (.cons .x .nil) rfl ?_;exact congrArg (AV.rows 3) (by rw[show i=l.length by omega];simp)
 refine bx λI a w U=>?_;refine U.o (Co dX .tt) λU=>?_;refine aB λI a w U=>?_;refine cz (λaq=>?_) λaq=>?_
 .refine zt ?_;have aW:l≠[]:=by intro e;rw[e] at hi ah;simp at hi ah;omega
  obtain⟨b,pw,he,ml,js,n7,U⟩:=U.u9 0 rfl aW;simp only[Value.slice.injEq] at he;obtain⟨rfl,_,rfl⟩:=he;have hA:(l.take i).flatten.length=i*3:=by rw[iz λr hr=>fi r (List.mem_of_mem_take hr),List.length_take,Nat.min_eq_left hi]
  have hB:(l.drop i).flatten.length=(l.length-i)*3:=by rw[iz λr hr=>fi r (List.mem_of_mem_drop hr),List.length_drop]
  rw[show l.flatten=(l.take i).flatten++(l.drop i).flatten by rw[<-List.flatten_append,List.take_append_drop],List.map_append] at U;have iu:([x]:List (List AV)).flatten.length=3:=by simpa using hx
  have hlen:(l.take i++x::l.drop i).length=l.length+1:=by simp;omega
  have oa:∀r∈l.take i++x::l.drop i,r.length=3:=λr hr=>(List.mem_append.1 hr).elim (λh=>fi r (List.mem_of_mem_take h)) λh=>(List.mem_cons.1 h).elim (λe=>e▸hx) λh=>fi r (List.mem_of_mem_drop h);have sq:(l.take i++x::l.drop i).flatten.map some=(l.take i).flatten.map some++([x]:List (List AV)).flatten.map some++(l.drop i).flatten.map some:=by simp
  refine aG λI a w U=>?_;refine U.o (tH (hi:=i) dX cW .tt .tt rfl om om) λU=>?_;refine bY λI a w U=>?_;refine U.Jr (fQ:=l.length+1-i) (xs:=(l.take i).flatten) 0 dX oG cW rfl aP .tt .tt om om rfl (by rw[List.drop_zero,List.append_assoc];exact lJ _ (List.length_map _)) hA om om om rfl λ{gb yq a w} lY qv U=>?_;refine bk λI a w U=>?_;refine U.o (ll (lo:=i) dX cW .tt .tt rfl om om) λU=>?_;refine U.m λU=>?_;refine U.Af 1 dX cW .tt .tt rfl bn (by simp only[List.length_singleton];omega) (by simp only[List.length_singleton,List.length_append,List.length_map,List.length_replicate,hA];omega) rfl λU=>?_;refine zt ?_;refine U.dt 8 ?_;simp only[TD];refine eb ?_;refine .o (ll (lo:=i+1) dX cW .tt .tt om om om) ?_;refine cG ?_;refine .o (ll (lo:=i) dX cW .tt .tt rfl om om) ?_;refine .nil ?_;intro I a w U;refine U.Ag (xs:=(l.drop i).flatten) 1 0 dX cW .tt .tt rfl rfl (by rw[List.append_assoc,yc _ (by simp only[List.length_map,hA];omega)];exact lJ _ (List.length_map _)) (by rw[hB,Nat.min_eq_left om]) (by rw[my (by simp only[List.length_map,List.length_append,List.length_replicate,iu,hA];omega)];simp only[List.length_append,List.length_map,List.length_replicate,hA,hB];omega) rfl λU=>?_;rw[Jy (by simp only[List.length_map,hA];omega) (by simp only[List.length_map,iu];omega) (by simp only[List.length_map,List.length_replicate,iu,hB];omega)] at U;have U:=U.tF (l:=l.take i++x::l.drop i) (cap:=yq) 1 rfl (by simp only[List.length_append,List.length_map,List.length_drop,List.length_replicate,hA,hB,iu];omega) oa om om om (by rw[sq,hlen];exact lJ _ (by simp only[List.length_append,List.length_map,hA,hB,iu];omega));rw[show i+(l.length+1-i)=(l.take i++x::l.drop i).length by omega] at U;obtain⟨I,U⟩:=U.fr 1 9;have U:=U.drop 0;refine aF λI a w U=>?_;exact U.vb rfl (.cons (by first|exact .t rfl|exact .nil rfl) .nil) rfl rfl
 refine zt ?_;have aW:l≠[]:=by intro e;rw[e] at hi ah;simp at hi ah;omega
 obtain⟨b,pw,he,ml,js,n7,U⟩:=U.u9 0 rfl aW;simp only[Value.slice.injEq] at he;obtain⟨rfl,_,rfl⟩:=he;have hA:(l.take i).flatten.length=i*3:=by rw[iz λr hr=>fi r (List.mem_of_mem_take hr),List.length_take,Nat.min_eq_left hi]
 have hB:(l.drop i).flatten.length=(l.length-i)*3:=by rw[iz λr hr=>fi r (List.mem_of_mem_drop hr),List.length_drop]
 rw[show l.flatten=(l.take i).flatten++(l.drop i).flatten by rw[<-List.flatten_append,List.take_append_drop],List.map_append] at U;have iu:([x]:List (List AV)).flatten.length=3:=by simpa using hx
 have hlen:(l.take i++x::l.drop i).length=l.length+1:=by simp;omega
 have oa:∀r∈l.take i++x::l.drop i,r.length=3:=λr hr=>(List.mem_append.1 hr).elim (λh=>fi r (List.mem_of_mem_take h)) λh=>(List.mem_cons.1 h).elim (λe=>e▸hx) λh=>fi r (List.mem_of_mem_drop h);have sq:(l.take i++x::l.drop i).flatten.map some=(l.take i).flatten.map some++([x]:List (List AV)).flatten.map some++(l.drop i).flatten.map some:=by simp
 refine bx λI a w U=>?_;refine U.o (tH (hi:=l.length+1) dX cW .tt .tt om om om) λU=>?_;refine dZ λI a w U=>?_;refine U.o (ll (lo:=i+1) dX cW .tt .tt om om om) λU=>?_;refine U.overlaps (tR:=4) 0 func370 rfl aO aO aO dX cW aP .tt bn .tt rfl rfl λU=>?_;refine aB λI a w U=>?_;refine U.cd (λaK=>?_) λaK=>?_
 .refine wp_seq ?_;refine U.dt 8 ?_;simp only[TD];refine eb ?_;refine .o (ll (lo:=i+1) dX cW .tt .tt om om om) ?_;refine cG ?_;refine .o (ll (lo:=i) dX cW .tt .tt rfl om om) ?_;refine .nil ?_;intro I a w U;refine U.Ag (xs:=(l.drop i).flatten) 0 0 dX cW .tt .tt rfl rfl (by rw[List.append_assoc,yc _ (by simp only[List.length_map,hA];omega)];exact lJ _ (List.length_map _)) (by rw[hB];congr 1;omega) (by simp only[List.length_append,List.length_map,List.length_replicate,hA,hB];omega) rfl λU=>?_;refine aG λI a w U=>?_;refine U.o (ll (lo:=i) dX cW .tt .tt rfl om om) λU=>?_;refine U.m λU=>?_;refine U.Af 0 dX cW .tt .tt rfl bn (by simp only[List.length_singleton];omega) (by rw[my (by simp only[List.length_map,List.length_append,List.length_replicate,hA,hB];omega)];simp only[List.length_singleton,List.length_append,List.length_map,List.length_replicate,hA,hB];omega) rfl λU=>?_;rw[Jw (by simp only[List.length_map,hA];omega) (by simp only[List.length_map,iu];omega) (by simp only[List.length_map,List.length_replicate,iu];omega)] at U;have U:=U.tF (l:=l.take i++x::l.drop i) (cap:=cap) 0 rfl (by simp only[List.length_append,List.length_map,List.length_drop,List.length_replicate,hA,hB,iu];omega) oa om om om (by rw[sq,hlen];exact lJ _ (by simp only[List.length_append,List.length_map,hA,hB,iu];omega));rw[show l.length+1=(l.take i++x::l.drop i).length by omega] at U;obtain⟨I,U⟩:=U.fr 0 0;have U:=U.drop 0;refine aF λI a w U=>?_;exact U.vb rfl (.cons (by first|exact .t rfl|exact .nil rfl) .nil) rfl rfl
 exfalso;simp at aK;skip
def ac7 {n:Int} (h:cM n=true):tL n 1=fA n:=by
 have:=jy.1 h;obtain rfl|rfl|rfl|rfl:n=0\/n=1\/n=2\/n=3:=by omega
 all_goals rfl
def ac8 {a b:aw} (h:eQ a b=true):eQ b a=false:=by
 cases h2:eQ b a
 .rfl
 have:=Av h h2;rw[wV] at this;cases this
def SA:∀{l:List aw} {d:aw} {k:Nat},k<=l.length->(∀i,i<k->eQ (ab l i) d=true)->(k<l.length->eQ (ab l k) d=false)->(∀x∈l,x≠d)->l.take k++d::l.drop k=lM l d
 |[],d,k,hk,_,_,_=>by obtain rfl:k=0:=by simpa using hk
                      rfl
 |e::r,d,0,_,_,hn,aW=>by
  have h1:eQ e d=false:=hn bn;have h2:eQ d e=true:=by
   cases h3:eQ d e
   .exact absurd (FK h1 h3) (aW e bn)
   rfl
  simp[lM,h2]
 |e::r,d,k+1,hk,h,hn,aW=>by
  have h2:eQ d e=false:=ac8 (h 0 om);have ih:=SA (l:=r) (d:=d) (k:=k) (by simpa using hk) (λi hi=>h (i+1) om) (λhl=>hn (by simpa using hl)) (λx hx=>aW x (by simp[hx]));simp[lM,h2,ih]
def KF (n:Int) (h:cM n=true):
 Fn prog 294 [AV.int n] (AV.int (fA n)):=by
 refine Fn.go 5 func294 ntmps294 (λW I a U=>?_);refine aG λI a w U=>?_;refine U.o (QA .tt .c (λ_=>by have:=jy.1 h;omega)) λU=>?_;refine bf ?_;exact gx (ac7 h)
def SB (s:Server) (m:az):((m.aT !=fA s.site)||!iq s ⟨m.key,m.ar⟩||decide (80<=(s.ba.length:Int)))=!((m.aT==fA s.site)&&iq s ⟨m.key,m.ar⟩&&decide (s.ba.length<80)):=by
 have e:decide (80<=(s.ba.length:Int))=!decide (s.ba.length<80):=by rw[Bool.eq_iff_iff];simp;omega
 rw[e];simp[bne]
def SC (s:Server) (m:az):((m.aT !=fA s.site)||((ab s.aD m.slot.toNat).cm !=2)||((ab s.aD m.slot.toNat).bw !=m.bw))=
 !((m.aT==fA s.site)&&((ab s.aD m.slot.toNat).cm==2)&&((ab s.aD m.slot.toNat).bw==m.bw)):=by simp[bne]
def C5 {l:List aA} (h:ct l=true) (d:aw):lq l d=eK l d:=by unfold lq eK;simp[h]
def ac9 (v:Value) (l:List (List AV)) (i:Nat) (hi:i<l.length) (hl:l.length<=1048576) (fi:∀r∈l,r.length=15):
 dp prog 234 [AV.val v,AV.int i,AV.int ((i:Int)+1)] [Own.row v 108 15 l] (λ_:Value=>True) (λu=>[Own.row u 108 15 (l.take i++l.drop (i+1))]) AV.val:=by
 refine dp.intro 33 func234 rfl ntmps234 rfl aO (λW I a U=>?_);obtain⟨q,cap,rfl,nX⟩:=U.Cs 0 rfl;refine dZ λI a w U=>?_;refine U.o (Rd (lo:=i) (hi:=i+1) (mx:=l.length) gA dV .tt .tt .tt .tt rfl om rfl om om om) λU=>?_;refine aR λI a w U=>?_;refine U.cd (λae=>?_) λae=>?_
 .exfalso;simp only[B] at ae;omega;skip
 refine aR λI a w U=>?_;have aW:l≠[]:=by intro e;rw[e] at hi;simp at hi
 obtain⟨b,pw,he,ml,js,n7,U⟩:=U.u9 0 rfl aW;simp only[Value.slice.injEq] at he;obtain⟨rfl,_,rfl⟩:=he;have hF:l.flatten.length=l.length*15:=iz fi;have hB:(l.drop (i+1)).flatten.length=(l.length-(i+1))*15:=by rw[iz λr hr=>fi r (List.mem_of_mem_drop hr),List.length_drop]
 have hlen:(l.take i++l.drop (i+1)).length=i+(l.length-(i+1)):=by simp;omega
 have oa:∀r∈(l.take i++l.drop (i+1)),r.length=15:=λr hr=>(List.mem_append.1 hr).elim (λh=>fi r (List.mem_of_mem_take h)) λh=>fi r (List.mem_of_mem_drop h);refine U.dt 6 ?_;simp only[TD];refine cG ?_;refine .o (tH (hi:=i) gA dV .tt .tt rfl om om) ?_;refine cG ?_;refine .o (JV (lo:=i+1) gA dV .tt .tt om om om) ?_;refine .nil ?_;intro I a w U;refine U.Rf (xs:=(l.drop (i+1)).flatten) 0 gA dV .tt .tt rfl (by rw[List.drop_append_of_le_length (by simp only[List.length_map,hF];exact Nat.mul_le_mul_right _ om),<-List.map_drop,Kk fi];exact lJ _ (List.length_map _)) hB om (by simp only[List.length_append,List.length_map,List.length_replicate,hF,hB];omega) rfl λU=>?_;refine bY λI a w U=>?_;refine U.o (Re (lo:=i+(l.length-(i+1))) (hi:=l.length) gA dV .tt .tt .tt rfl rfl om om) λU=>?_;refine U.JX 0 gA dV rfl iN .tt om rfl (by rw[my]<;>simp only[List.length_append,List.length_map,List.length_replicate,hF,hB]<;>omega) λU=>?_;have U:=U.tF (l:=(l.take i++l.drop (i+1))) (cap:=cap) 0 rfl (by rw[my,my]<;>(try rw[my])<;>simp only[List.length_append,List.length_map,List.length_replicate,hF,hB]<;>omega) oa om om om (Ri fi hi);rw[<-hlen] at U;refine aF λI a w U=>?_;refine U.dx _ [0] rfl (.cons (.t rfl) .nil) trivial rfl rfl
def SD (s:Server) (m:az):((m.aT !=fA s.site)||decide (m.bw<1))=!((m.aT==fA s.site)&&decide (1<=m.bw)):=by
 have e:decide (m.bw<1)=!decide (1<=m.bw):=by rw[Bool.eq_iff_iff];simp
 rw[e];simp[bne]
def ada {l:List aA} {v:aA} (hv:dN v=true) (hl:l.length<80):(if iO l v then fJ l v else l)=er l v:=by
 unfold iO er;rw[hv];by_cases hp:placeOf l v.aU<0
 .simp[hp,hl]
 simp[hp]
def adb {l:List aA} {v:aA} (hc:ct l=true) (hv:dN v=true) (hl:l.length<80):ct (er l v)=true:=by
 unfold er;split
 .rename_i hp;exact FP hc hv hp hl
 exact hc
def F8 {l vs:List aA} {k:Nat} (h:k<vs.length):jx l (vs.take (k+1))=er (jx l (vs.take k)) (ab vs k):=vA h
def KG (l vs:List aA) (k:Nat):(jx l (vs.take k)).length<=l.length+k:=by
 have h1:=w5 (vs.take k) l;have h2:(vs.take k).length<=k:=by simp;omega
 unfold jx;omega
def SE:∀{vs l:List aA} {x:aA},x∈l->x∈vs.foldl er l
 |[],l,x,h=>h
 |v::vs,l,x,h=>by
  refine SE (vs:=vs) ?_;unfold er;split
  .exact hC.2 (.inr h)
  exact h
def SF {l vs:List aA} {k:Nat} (hv:VS vs) (hk:k<vs.length) (hp:placeOf l (ab vs k).aU<0):fJ (jx l (vs.take k)) (ab vs k)=jx l (vs.take (k+1)):=by
 rw[F8 hk,er,if_pos];refine yn λx hx=>?_;rcases w4 hx with h|h
 .obtain⟨i,hi,rfl⟩:=fS h;have jg:i<k:=by simp at hi;omega
  have e:ab (vs.take k) i=ab vs i:=by unfold ab;simp[List.getD_eq_getElem?_getD,List.getElem?_take,jg]
  rw[e];exact Kh hv om hk om
 exact pN hp x h
def SG {l vs:List aA} {k:Nat} (hk:k<vs.length) (hp:¬placeOf l (ab vs k).aU<0):jx l (vs.take k)=jx l (vs.take (k+1)):=by
 rw[F8 hk,er,if_neg];intro hn;obtain⟨x,hx,e⟩:=nC.1 (show 0<=placeOf l (ab vs k).aU by omega);exact pN hn x (SE hx) e
def ade {l vs:List aA} (hl:∀v∈l,v.aQ.length<=6) (hv:∀v∈vs,v.aQ.length<=6) (k:Nat):∀v∈jx l (vs.take k),v.aQ.length<=6:=
 F4 (λv h=>hv v (List.mem_of_mem_take h)) hl
def SH {l vs:List aA} (hl:ct l=true) (hv:ct vs=true) (hn:l.length+vs.length<=80):∀k,k<=vs.length->ct (jx l (vs.take k))=true
 |0,_=>by simpa[jx] using hl
 |k+1,hk=>by
  have h1:=SH hl hv hn k om;have h2:=KG l vs k;rw[F8 om];exact adb h1 (fw hv _ (bh om)) om
def SI {l vs:List aA} {k:Nat} (hl:ct l=true) (hv:ct vs=true) (hn:l.length+vs.length<=80) (hk:k<vs.length):Fn prog 295 [bU (jx l (vs.take k)),(ab vs k).av] (AV.dG [bU (jx l (vs.take (k+1))),AV.bool (iO (jx l (vs.take k)) (ab vs k))]):=by
 have h2:=KG l vs k;have:=FN (jx l (vs.take k)) (ab vs k) (SH hl hv hn k om);rwa[ada (fw hv _ (bh hk)) om,<-F8 hk] at this
def KH {s:Server} {m:az} (h:(s.up&&bK m&&(m.to==s.site))=true):s.up=true/\bK m=true:=by
 rw[Bool.and_eq_true,Bool.and_eq_true] at h;exact h.1
def SJ {s:Server} (h:bJ s) {d:aw} (hd:d∈s.aE):∃v,eK s.an d=some v/\v.key=d.key/\v∈s.an:=by
 obtain⟨x,hx,e⟩:=h.lN d hd;have hp:=nC.2 ⟨x,hx,e⟩;obtain⟨h1,h2⟩:=l7 hp;refine⟨ab s.an (placeOf s.an d).toNat,by unfold eK;rw[if_pos hp],congrArg aw.key h2,bh h1⟩
def F9 (s:Server):(!iB s||!s.up)=!(iB s&&s.up):=by simp
def adf {l:List aA} {d:aw} {v:aA} (h:eK l d=some v):0<=placeOf l d/\placeOf l d<l.length/\ab l (placeOf l d).toNat=v:=by
 unfold eK at h;split at h
 .rename_i hp;have:=(l7 hp).1;exact⟨hp,by omega,Option.some.inj h⟩
 cases h
def Call.AH (q:Call) (g n:Value):AV:=.agg [AV.int q.aj,AV.int q.num,AV.int q.kind,jt q.keys,AV.int q.val,bE q.ctx,AV.int q.bH,AV.int q.end_,AV.bool q.over,AV.int q.ar.time,AV.int q.ar.site,.val g,.val n]
def ai.av4 (w:ai) (r:Value×Value×Value×Value):AV:=.agg [.int w.time,.val r.1,.val r.2.1,.val r.2.2.1,.val r.2.2.2]
def adh (l:List aA):
 Fn prog 158 [bU l] (AV.fn 240 [AV.ptr [bU l]]):=by
 refine Fn.go 4 func158 ntmps158 (λW I a U=>?_);refine zt ?_;refine U.o (z5 .tt (by first|exact j6 rfl|exact kg|exact kh|exact kr)) λU=>?_;refine aB λI a w U=>?_;refine U.o (nu (ax .tt aH)) λU=>?_;refine bf ?_;rfl
def C6 {l:List aA} {d:aw} (h:decide (placeOf l d<0)=false):0<=placeOf l d/\placeOf l d<l.length/\eK l d=some (ab l (placeOf l d).toNat):=by
 have hp:0<=placeOf l d:=by simpa using h
 have ha:eK l d=some (ab l (placeOf l d).toNat):=by unfold eK;rw[if_pos hp]
 refine⟨hp,?_,ha⟩;have:=(l7 hp).1;omega
def adi {a b c:Bool} (h:(a&&c)=true) (k:b=true):(a&&b&&c)=true:=by rw[Bool.and_right_comm,h,k];rfl
def adj {s:Server} {m:az} (h:(m.kind==10&&(m.aT==fA s.site)&&([(ab s.aD m.slot.toNat).bw,(ab s.aD m.slot.toNat).cm]==[m.bw,2]))=true):(de.cells (ab s.aD m.slot.toNat)).set 1 (AV.int 0)=de.cells ⟨m.bw,0⟩:=by
 simp only[Bool.and_eq_true,beq_iff_eq,List.cons.injEq] at h;show[AV.int _,AV.int 0]=[AV.int _,AV.int 0];rw[h.2.1]
def SK {s:Server} {m:az} (h:(m.kind==9&&(m.aT==fA s.site)&&decide (0<m.bw))=true):m.kind=9/\((m.aT==fA s.site)&&decide (1<=m.bw))=true:=by
 simp only[Bool.and_eq_true,beq_iff_eq,decide_eq_true_eq] at h⊢;exact⟨h.1.1,h.1.2,by omega⟩
def adk {l:List aw} {d:aw} {k:Nat} (h:l.Pairwise λa b=>a≠b) (hk:k<l.length) (e:ab l k=d):l.filter (λx=>!decide (x=d))=l.take k++l.drop (k+1):=by
 have e1:l=l.take k++d::l.drop (k+1):=by rw[<-e,<-mN hk,List.take_append_drop]
 have hp:=h;rw[e1,List.pairwise_append,List.pairwise_cons] at hp;conv=>lhs;rw[e1]
 rw[List.filter_append,List.filter_cons_of_neg bn,List.filter_eq_self.2 λx hx=>(by simpa using hp.2.2 x hx d bn),List.filter_eq_self.2 λx hx=>(by simpa usingλe=>hp.2.1.1 x hx e.symm)]
def AK:Nat->List Server
 |0=>[]
 |k+1=>AK k++[yB k]
def adl (l:List Call) (h:l.length<=1048576):
 kQ prog 285 [iL l] 45 13 (l.map Call.cells):=by
 refine kQ.intro 8 func285 rfl ntmps285 rfl aO (λW I a U=>?_);refine aG λI a w U=>?_;obtain⟨qa,ca,hqa,U⟩:=U.abG (t:=3) rfl;refine U.o (abF mR .tt .c) λU=>?_;refine zt ?_;refine U.cd (λae=>?_) λae=>?_
 .refine aB λI a w U=>?_;have U:=U.ik (sz:=13) 45;have rX:l=[]:=List.map_eq_nil_iff.1 (hqa (by simpa using ae));subst rX;exact U.yb (r:=2) 0 rfl rfl rfl rfl
 refine zt ?_;refine U.l0 λb5 I a w U=>?_;refine U.m λU=>?_;refine U.ap 0 λv7 a w U=>?_;refine aB λI a w U=>?_;exact U.yb (r:=2) 0 rfl rfl rfl rfl
def ai.full (b:Nat) (x:ai) (s r q z:Value):List Own:=[Own.box b 28 [AV.int x.time,AV.val s,AV.val r,AV.val q,AV.val z],Own.row s 95 7 (x.aC.map Server.cells),Own.row r 108 15 (x.al.map az.cells),Own.row q 45 13 (x.calls.map Call.cells),Own.row z 40 1 (x.seen.map gy)]
def SL (v:Value) (l:List az) (i:Int) (h0:0<=i) (hi:i<l.length) (hl:l.length<=1048576):dp prog 234 [AV.val v,AV.int i,AV.int (i+1)] [Own.row v 108 15 (l.map az.cells)] (λ_:Value=>True) (λu=>[Own.row u 108 15 ((l.take i.toNat++l.drop (i.toNat+1)).map az.cells)]) AV.val:=by
 obtain⟨n,rfl⟩:=Int.eq_ofNat_of_zero_le h0;rw[List.map_append,List.map_take,List.map_drop];exact ac9 v (l.map az.cells) n lf lf (λr hr=>by obtain⟨u,_,rfl⟩:=List.mem_map.1 hr;rfl)
def adn {n:Int} (h:cM n=true):aJ n 10 11=false:=by
 have:=jy.1 h;unfold aJ;rw[Bool.and_eq_false_iff,decide_eq_false_iff_not,decide_eq_false_iff_not];omega
def qM (bs:List UInt8) (i:Int):Int:=((ab bs i.toNat).toNat:Int)
def yD (bs:List UInt8) (k:Int):Int:=qM bs (k%bs.length)*131+qM bs ((k*7+3)%bs.length)*1117+k*29+k/bs.length*53
def dK (bs:List UInt8) (p n:Int):Int:=
 if n<1\/bs.length=0 then 0 else if p<bs.length then qM bs p%n else tL (yD bs p) (yD bs p/64)%n
def oR (bs:List UInt8) (i:Int):0<=qM bs i:=Int.natCast_nonneg _
def oT (bs:List UInt8) (i:Int):qM bs i<256:=by have:=(ab bs i.toNat).toNat_lt;unfold qM;omega
def iY (bs:List UInt8) (p n:Int):0<=dK bs p n:=by
 unfold dK;split
 .omega
 rename_i h;split
 .exact Int.emod_nonneg _ om
 exact Int.emod_nonneg _ om
def jm (bs:List UInt8) (p:Int) {n:Int} (h:0<n):dK bs p n<n:=by
 unfold dK;split
 .omega
 split
 .exact Int.emod_lt_of_pos _ h
 exact Int.emod_lt_of_pos _ h
def yE (bs:List UInt8) (p:Int) {n:Int} (h:0<n):0<=dK bs p n/\dK bs p n<n:=⟨iY ..,jm bs p h⟩
def iQ (bs:List UInt8) (p n:Int) (h:n<=4611686018427387904):0<=dK bs p n/\dK bs p n<4611686018427387904:=by
 refine⟨iY ..,?_⟩;by_cases h0:0<n
 .have:=jm bs p h0;omega
 unfold dK;rw[if_pos om];omega
def yF {k m:Int} (hk:0<=k) (hm:0<m):0<=k/m/\k/m<=k:=⟨Int.ediv_nonneg hk om,Int.ediv_le_self _ hk⟩
def ado {bs:List UInt8} {k:Int} (h0:0<=k) (h1:k<=1099511627776) (hb:bs.length≠0):0<=yD bs k/\yD bs k<4611686018427387904:=by
 have h2:=oR bs (k%bs.length);have h3:=oT bs (k%bs.length);have h4:=oR bs ((k*7+3)%bs.length);have h5:=oT bs ((k*7+3)%bs.length);have h6:=yF (k:=k) (m:=bs.length) h0 om;unfold yD;omega
def adp {bs:List UInt8} {p n:Int} (h:(decide (n<1)||((bs.length:Int)==0))=true):0=dK bs p n:=by
 simp only[Bool.or_eq_true,decide_eq_true_eq,beq_iff_eq] at h;unfold dK;rw[if_pos om]
def w7 (l:List aw):
 Fn prog 77 [bE l,bE l] (AV.bool true):=by
 refine Fn.go 26 func77 ntmps77 (λW I a U=>?_);have hle:=U.eE (t:=0) rfl;refine iM λI a w U=>?_;refine U.cd (λae=>?_) λae=>?_
 .exfalso;simp at ae;skip
 refine aB λI a w U=>?_;refine St.lo (σ:=Nat) (run 2 4 (run 15 11 [])) ⟨λk=>[(5,AV.int k)],λk=>[],λk=>k<=l.length⟩ (λk=>l.length-k) 0 U ?aI ?bF;case aI=>exact Nat.zero_le _
 rintro k I a w ao U;have hk:k<=l.length:=ao;refine aX λI a w U=>?_;refine cz (λah=>?_) λah=>?_
 .refine zt ?_;refine U.dk ?_;refine ny ?_;refine .o (tz [_,_,_] [_,_,_] wQ rfl rfl .tt .tt)<|.nil ?_;intro I a w U;refine bm ?_;refine U.cd (λaq=>?_) λaq=>?_
  .exfalso;simp at aq;skip
  refine aR λI a w U=>?_;exact U.ag (k+1) (ah)
 refine zt ?_;refine bf ?_;rfl
def KI (v:aA):
 Fn prog 30 [v.av,v.av] (AV.bool true):=by
 refine Fn.go 45 func30 ntmps30 (λW I a U=>?_);refine wM λI a w U=>?_;refine U.q .T (nr [_,_] [_,_] nz rfl rfl .ag .ag) λU=>?_;refine aar λI a w U=>?_;refine U.q .T (.cl (w7 ..)) λU=>?_;refine c8 ?_;exact bB bn
def C7 (l:List aA):
 Fn prog 19 [bU l,bU l] (AV.bool true):=by
 refine Fn.go 27 func19 ntmps19 (λW I a U=>?_);have hle:=U.eE (t:=0) rfl;refine iM λI a w U=>?_;refine U.cd (λae=>?_) λae=>?_
 .exfalso;simp at ae;skip
 refine aB λI a w U=>?_;refine St.lo (σ:=Nat) (run 2 4 (run 16 11 [])) ⟨λk=>[(5,AV.int k)],λk=>[],λk=>k<=l.length⟩ (λk=>l.length-k) 0 U ?aI ?bF;case aI=>exact Nat.zero_le _
 rintro k I a w ao U;have hk:k<=l.length:=ao;refine aX λI a w U=>?_;refine cz (λah=>?_) λah=>?_
 .refine zt ?_;refine U.dk ?_;refine ny ?_;refine .o (.c2 (KI (ab l k))) ?_;refine bG ?_;refine .nil ?_;intro I a w U;refine bm ?_;refine U.cd (λaq=>?_) λaq=>?_
  .exfalso;simp at aq;skip
  refine aR λI a w U=>?_;exact U.ag (k+1) (ah)
 refine zt ?_;refine bf ?_;rfl
def adq (m:az):
 Fn prog 151 [m.av,m.av] (AV.bool true):=by
 refine Fn.go 101 func151 ntmps151 (λW I a U=>?_);refine JL λI a w U=>?_;refine wJ λI a w U=>?_;refine U.q .T (nr [_,_] [_,_] nz rfl rfl .ag .ag) λU=>?_;refine wM λI a w U=>?_;refine U.q .T (PX .ag .ag wP) λU=>?_;refine aan λI a w U=>?_;refine U.q .T (.cl (w7 ..)) λU=>?_;refine dZ λI a w U=>?_;refine U.q .T (.cl (C7 ..)) λU=>?_;refine dZ λI a w U=>?_;refine U.q .T (.cl (C7 ..)) λU=>?_;refine dZ λI a w U=>?_;refine U.q .T (.cl (w7 ..)) λU=>?_;refine c8 ?_;exact bB bn
def sv (w:ai) (i:Nat):Server:=ab w.aC i
def be (w:ai) (σ:Nat) (v:aA):Prop:=∃i,i<4/\i/2=σ/\v∈(sv w i).an
def mY (w:ai) (σ:Nat) (v:aA):Prop:=∃i,i<4/\i/2=σ/\(v∈(sv w i).an\/v∈(sv w i).waits)
def vk (v:aA):Nat:=(cV v.key).toNat
def ep (w:ai) (i k:Nat):Int:=(ab (sv w i).aD k).bw
def behind (s t:Server) (k:Nat):Prop:=(ab s.aD k).bw<(ab t.aD k).bw\/((ab s.aD k).bw=(ab t.aD k).bw/\(ab t.aD k).cm=1)
def yG (s:Server) (m:az):Prop:=
 ab s.aD m.slot.toNat=⟨m.bw,2⟩/\(∀v,v∈m.an↔v∈s.an/\cV v.key=m.slot)/\(∀v,v∈m.waits↔v∈s.waits/\cV v.key=m.slot)/\∀d,d∈m.aE↔d∈s.aE/\cV d.key=m.slot
def be.cont {w:ai} {σ:Nat} {v:aA} (h:be w σ v):mY w σ v:=let⟨i,h1,h2,h3⟩:=h;⟨i,h1,h2,.inl h3⟩
def be.here {w:ai} {i:Nat} {v:aA} (hi:i<4) (h:v∈(sv w i).an):be w (i/2) v:=⟨i,hi,rfl,h⟩
def KJ {m:az} (h:bK m=true):m.slot.toNat<3:=by have:=qJ h;omega
def jn {s:Server} (h:bJ s) {v:aA} (hv:v∈s.an\/v∈s.waits):dN v=true:=by
 rcases hv with hv|hv
 .exact fw h.an v hv
 exact fw h.waits v hv
def adr {s t x y:Server} {k:Nat} (e:s.aD=t.aD) (e':x.aD=y.aD):behind s x k↔behind t y k:=by unfold behind;rw[e,e']
def KK {α:Type} [Inhabited α] {l:List α} {x:α} (n:Nat) (h:x∈l):x=ab l n\/x∈l.take n++l.drop (n+1):=by
 obtain⟨k,hk,rfl⟩:=fS h;by_cases e:k=n
 .exact .inl (by rw[e])
 right;rw[List.mem_append];rcases Nat.lt_or_gt_of_ne e with bz|bz
 .left;rw[List.mem_iff_getElem];exact⟨k,by simp;omega,by simp[ab,hk]⟩
 right;rw[List.mem_iff_getElem];exact⟨k-(n+1),by simp;omega,by simp[ab];rw[List.getElem?_eq_getElem hk];simp;congr 1;omega⟩
def SM:∀{vs l:List aA},(∀u∈l,∀v∈vs,u.aU≠v.aU)->(vs.Pairwise λa b=>a.aU≠b.aU)->∀x,x∈jx l vs↔x∈l\/x∈vs
 |[],l,_,_,x=>by simp[jx]
 |v::r,l,h,hp,x=>by
  rw[List.pairwise_cons] at hp;have e:er l v=fJ l v:=by
   unfold er;rw[if_pos (yn λu hu=>h u hu v bn)]
  show x∈jx (er l v) r↔_;rw[e,SM (λu hu y hy=>?_) hp.2,hC,List.mem_cons]
  .constructor
   .rintro((h1|h1)|h1)<;>simp[h1]
   rintro(h1|h1|h1)<;>simp[h1]
  rcases hC.1 hu with rfl|hu
  .exact hp.1 y hy
  exact h u hu y (by simp[hy])
def Ga {i:Nat} (hi:i<4):bM (i:Int)=((i/2:Nat):Int):=by
 have h:cM (i:Int)=true:=jy.2 om;unfold bM;rw[h,if_pos rfl];omega
def AL {n:Int} (h:cM n=true):n.toNat<4/\bM n=((n.toNat/2:Nat):Int)/\(n/2).toNat=n.toNat/2/\((n.toNat:Nat):Int)=n:=by
 have h1:=jy.1 h;unfold bM;rw[h,if_pos rfl];omega
def ads {l:List aw} {d:aw} (h:0<=fy l d):ab l (fy l d).toNat=d:=by
 unfold fy df at*;split at h
 .rename_i k hk;obtain⟨h1,h2,_⟩:=List.findIdx?_eq_some_iff_getElem.1 hk;simpa[ab,h1] using h2
 omega
def C8 {x y z:cE} (h:bQ y x=false) (h':bQ z y=false):bQ z x=false:=by
 obtain⟨t,s⟩:=x;obtain⟨t',s'⟩:=y;obtain⟨t2,s2⟩:=z;simp[bQ] at*;omega
def C9 (x:cE):bQ x x=false:=by simp[bQ]
def KL:∀{l:List aw} {d x:aw},x∈gI l d->x=d\/x∈l
 |[],d,x,h=>by simpa[gI] using h
 |e::r,d,x,h=>by
  unfold gI at h;split at h
  .split at h
   .rcases List.mem_cons.1 h with h|h
    .exact .inl h
    exact .inr (List.mem_cons_of_mem _ h)
   exact .inr h
  split at h
  .rcases List.mem_cons.1 h with h|h
   .exact .inl h
   exact .inr h
  rcases List.mem_cons.1 h with h|h
  .exact .inr (by rw[h];exact List.mem_cons_self ..)
  rcases KL h with h|h
  .exact .inl h
  exact .inr (List.mem_cons_of_mem _ h)
def adt {α:Type} [Inhabited α] (l:List α) (n k:Nat):ab (l.drop n) k=ab l (n+k):=by
 unfold ab;simp[List.getD_eq_getElem?_getD,List.getElem?_drop]
def adu {α:Type} [Inhabited α] {l:List α} {i:Nat} (h:i<l.length):l.set i (ab l i)=l:=by
 apply List.ext_getElem
 .simp
 intro n h1 h2;rw[List.getElem_set];split
 .rename_i e;subst e;simp[ab,h2]
 rfl
def AM {α:Type} [Inhabited α] {l:List α} {x:α}:ab (l++[x]) l.length=x:=by
 unfold ab;simp[List.getD_eq_getElem?_getD]
def Da (w:ai):Prop:=∀σ v,be w σ v->v.ar.time=1\/∃τ u,be w τ u/\u.ar.time=v.ar.time-1
def Rest (w:ai):Prop:=∀i,i<4->∀k,k<3->(ab (sv w i).aD k).cm≠2
def KM {s:Server} {d:aw} (h:∃x∈s.an,x.aU=d):eG s d=true:=by
 unfold eG;rw[Bool.or_eq_true,decide_eq_true_eq];exact .inl (nC.2 h)
def oV (ls:List (List aA)):Nat:=(ls.map List.length).sum
def KN {ls:List (List aA)} {k:Nat} (h:k<ls.length):oV (ls.take (k+1))=oV (ls.take k)+(ab ls k).length:=by
 unfold oV;rw[fe h,List.map_append,List.sum_append];simp
def adv (ls:List (List aA)):ls.flatten.length=oV ls:=by simp[oV]
def w8 (own:List aA) (k:Nat):Bool:=(cI k λj=>!C2 (ab own j) (ab own k))&&tU own (ab own k).aQ
def adw (a b:List aA):([a,b]:List (List aA)).flatten=a++b:=by simp
end Go.Proofs.YtldbakcpcfdlaaaGreat

/- Part 18: contracts of functions, plain facts. -/
import Derived.Test.YtldbakcpcfdlaaaGreatP13
import Derived.Test.YtldbakcpcfdlaaaGreatP14
import Derived.Test.YtldbakcpcfdlaaaGreatP15
import Derived.Test.YtldbakcpcfdlaaaGreatP16
set_option linter.all false
set_option maxRecDepth 100000
set_option maxHeartbeats 4000000
namespace Go.Proofs.YtldbakcpcfdlaaaGreat
open Go Go.RowKit Tryz
attribute [local irreducible] wpList Code.wp Ok
def G2 (v:aJ):
 Fn prog 156 [v.av] (AV.bool (fi v)):=by
 refine Fn.go 54 func156 ntmps156 (λW I a U=>?_);have G3:v.aK.length<=9223372036854775807:=by
  obtain⟨cs,_,hc⟩:=U.env 0 _ rfl;obtain⟨u,_,hu,_⟩:=hc.get (i:=6) rfl;exact yy hu
 refine aR λI a w U=>?_;refine U.o (.c1 (zi ..)) λU=>?_;refine aR λI a w U=>?_;refine U.q .F (.cl (xe ..)) λU=>?_;refine bV λI a w U=>?_;refine U.q .F (.cl (im ..)) λU=>?_;refine bV λI a w U=>?_;refine U.q .F (.cl (zP ..)) λU=>?_;refine bV λI a w U=>?_;refine U.q .F (.cl (im ..)) λU=>?_;refine bV λI a w U=>?_;refine U.q .F (.cl (Aa ..)) λU=>?_;refine ax λI a w U=>?_;refine U.cd (λab=>?_) λab=>?_
 .rw[Ce v] at ab;replace ab:=nt ab;refine aW ?_;exact bT (by rw[wW,ab];rfl)
 rw[Ce v] at ab;replace ab:=nf ab;refine aU λI a w U=>?_;refine St.lo (σ:=Nat) (2::(4::(run 12 42 []))) ⟨λk=>[(42,AV.int k)],λk=>[],λk=>k<=v.aK.length/\∀i,i<k->(λi=>decide ((ae v.aK i).aw.time<v.aw.time)) i=true⟩ (λk=>v.aK.length-k) 0 U ?aD ?bh;case aD=>exact⟨by simp,λi hi=>by omega⟩
 rintro k I a w aj U;obtain⟨hk,aT⟩:=aj;have hle:v.aK.length<=9223372036854775807:=G3;refine al λI a w U=>?_;refine cz (λah=>?_) λah=>?_
 .refine aA λI a w U=>?_;refine U.alloc rfl cM fE λb4 I a w U=>?_;refine al λI a w U=>?_;obtain⟨I,U⟩:=U.fb 0 4;refine fW λI a w U=>?_;refine U.cd (λai=>?_) λai=>?_
  .rw[Cd] at ai;replace ai:=nt ai;refine aW ?_;exact bT (by rw[wW,ab];exact(fI (f:=(λi=>decide ((ae v.aK i).aw.time<v.aw.time))) ah ai).symm)
  rw[Cd] at ai;replace ai:=nf ai;refine ax λI a w U=>?_;have U:=U.drop 0;exact U.ag (k+1) (⟨by omega,gf aT ai⟩)
 refine zt ?_;refine aW ?_;exact bT (by rw[wW,ab];exact(fD aT om).symm)
def Am (l:List aJ):
 Fn prog 81 [cm l] (AV.bool (cD l)):=by
 refine Fn.go 35 func81 ntmps81 (λW I a U=>?_);have hle:=U.dD (t:=0) rfl;refine aU λI a w U=>?_;refine St.lo (σ:=Nat) (run 3 2 (run 25 7 [])) ⟨λk=>[(7,AV.int k)],λk=>[],λk=>k<=l.length/\∀i,i<k->(eU fi gx l) i=true⟩ (λk=>l.length-k) 0 U ?aD ?bh;case aD=>exact⟨by simp,λi hi=>by omega⟩
 rintro k I a w aj U;obtain⟨hk,aT⟩:=aj;refine al λI a w U=>?_;refine cz (λab=>?_) λab=>?_
 .refine aV λI a w U=>?_;refine U.alloc rfl bI dY λb4 I a w U=>?_;refine ax λI a w U=>?_;obtain⟨I,U⟩:=U.fb 0 4;refine U.dk ?_;refine br ?_;refine .o (.c1 (G2 ..)) ?_;refine wh ?_;refine .q .T2 (.cl (nB ..)) ?_;refine br ?_;refine .q .T2 (.cl (nB ..)) ?_;refine .q .T2 (.cl (BR ..)) ?_;refine ee ?_;refine .nil ?_;intro I a w U;refine ba ?_;refine U.cd (λah=>?_) λah=>?_
  .rw[show ec (ae l ((k:Int)-1).toNat).bD (ae l k).bD=gx (ae l ((k:Int)-1).toNat) (ae l k) from rfl,sO] at ah;replace ah:=nt ah;refine aW ?_;exact bT (by unfold cD;rw[fI (f:=(eU fi gx l)) ab ah];simp)
  rw[show ec (ae l ((k:Int)-1).toNat).bD (ae l k).bD=gx (ae l ((k:Int)-1).toNat) (ae l k) from rfl,sO] at ah;replace ah:=nf ah;refine ax λI a w U=>?_;have U:=U.drop 0;exact U.ag (k+1) (⟨by omega,gf aT ah⟩)
 refine zt ?_;refine aU λI a w U=>?_;refine U.rt ?_;exact bT (by unfold cD;rw[fD aT om,Bool.and_true];simp;try omega)
def G4 (l:List ao):
 Fn prog 140 [bm l] (AV.bool (fU l)):=by
 refine Fn.go 40 func140 ntmps140 (λW I a U=>?_);have hle:=U.dD (t:=0) rfl;refine aU λI a w U=>?_;refine St.lo (σ:=Nat) (run 3 2 (run 30 7 [])) ⟨λk=>[(7,AV.int k)],λk=>[],λk=>k<=l.length/\∀i,i<k->(eU kt ec l) i=true⟩ (λk=>l.length-k) 0 U ?aD ?bh;case aD=>exact⟨by simp,λi hi=>by omega⟩
 rintro k I a w aj U;obtain⟨hk,aT⟩:=aj;refine al λI a w U=>?_;refine cz (λab=>?_) λab=>?_
 .refine aV λI a w U=>?_;refine U.alloc rfl cM fE λb4 I a w U=>?_;refine ax λI a w U=>?_;obtain⟨I,U⟩:=U.fb 0 4;refine U.dk ?_;refine cy ?_;refine .o (.c1 (zi ..)) ?_;refine ef ?_;refine .q .F (.cl (xe ..)) ?_;refine E9 ?_;refine .q .T2 (.cl (BR ..)) ?_;refine ee ?_;refine .nil ?_;intro I a w U;refine ba ?_;refine U.cd (λah=>?_) λah=>?_
  .rw[Gt] at ah;replace ah:=nt ah;refine aW ?_;exact bT (by unfold fU;rw[fI (f:=(eU kt ec l)) ab ah];simp)
  rw[Gt] at ah;replace ah:=nf ah;refine ax λI a w U=>?_;have U:=U.drop 0;exact U.ag (k+1) (⟨by omega,gf aT ah⟩)
 refine zt ?_;refine aU λI a w U=>?_;refine U.rt ?_;exact bT (by unfold fU;rw[fD aT om,Bool.and_true];simp;try omega)
def G5 (l:List ao):
 Fn prog 172 [bm l] (AV.bool (fU l)):=by
 refine Fn.go 66 func172 ntmps172 (λW I a U=>?_);have hle:=U.dD (t:=0) rfl;refine aU λI a w U=>?_;refine cz (λab=>?_) λab=>?_
 .refine aW ?_;exact bT (by simp[fU];omega)
 refine al λI a w U=>?_;refine St.lo (σ:=Nat) (run 3 2 (run 58 8 [])) ⟨λk=>[(3,AV.int k)],λk=>[],λk=>k<=l.length/\∀i,i<k->(eU kt ec l) i=true⟩ (λk=>l.length-k) 0 U ?aD ?bh;case aD=>exact⟨by simp,λi hi=>by omega⟩
 rintro k I a w aj U;obtain⟨hk,aT⟩:=aj;refine aU λI a w U=>?_;refine cz (λah=>?_) λah=>?_
 .refine aR λI a w U=>?_;refine U.alloc rfl cM fE λb4 I a w U=>?_;refine al λI a w U=>?_;obtain⟨I,U⟩:=U.fb 0 4;refine U.dk ?_;refine cy ?_;refine .o (.c1 (s9 ..)) ?_;refine ef ?_;refine .q .F (.cl (uL ..)) ?_;refine n5 ?_;refine n5 ?_;refine cy ?_;refine .q .T2 (.cl (wQ ..)) ?_;refine fQ ?_;refine .nil ?_;intro I a w U;refine ba ?_;refine U.cd (λai=>?_) λai=>?_
  .rw[MS] at ai;replace ai:=nt ai;refine aW ?_;exact bT (by unfold fU;rw[fI (f:=(eU kt ec l)) ah ai];simp)
  rw[MS] at ai;replace ai:=nf ai;refine aI λI a w U=>?_;have U:=U.drop 0;exact U.ag (k+1) (⟨by omega,gf aT ai⟩)
 refine zt ?_;refine aW ?_;exact bT (by unfold fU;rw[fD aT om,Bool.and_true];simp;omega)
def vh (s:Server):
 Fn prog 66 [s.av] (AV.bool (gN s)):=by
 refine Fn.go 127 func66 ntmps66 (λW I a U=>?_);have lens:s.aQ.length<=9223372036854775807/\s.ar.length<=9223372036854775807/\s.waits.length<=9223372036854775807/\s.aE.length<=9223372036854775807:=⟨U.ln 0 2,U.ln 0 3,U.ln 0 4,U.ln 0 5⟩;refine aR λI a w U=>?_;refine U.o (.c1 (qH ..)) λU=>?_;refine qg λI a w U=>?_;refine U.q .F (.cl (Am ..)) λU=>?_;refine bV λI a w U=>?_;refine U.q .F (.cl (Am ..)) λU=>?_;refine bV λI a w U=>?_;refine U.q .F (.cl (G4 ..)) λU=>?_;refine bV λI a w U=>?_;refine U.q .F (.cl (G4 ..)) λU=>?_;refine E7 λI a w U=>?_;refine U.cd (λab=>?_) λab=>?_
 .rw[Cf] at ab;replace ab:=nt ab;refine aW ?_;exact bT (by unfold gN;rw[ab];rfl)
 rw[Cf] at ab;replace ab:=nf ab;obtain⟨An,vi,G6,Yc,Yd,Ye⟩:=FV ab;refine aU λI a w U=>?_;refine St.lo (σ:=Nat) (2::(4::(run 25 57 []))) ⟨λk1=>[(57,AV.int k1)],λk1=>[],λk1=>k1<=s.aQ.length/\∀i,i<k1->(qt s) i=true⟩ (λk1=>s.aQ.length-k1) 0 U ?aD ?bh;case aD=>exact⟨Nat.zero_le _,λi hi=>by omega⟩
 rintro k1 I a w aj U;obtain⟨Yf,vj⟩:=aj;refine al λI a w U=>?_;refine cz (λah=>?_) λah=>?_
 .refine aA λI a w U=>?_;refine U.alloc rfl dP kD λb4 I a w U=>?_;refine al λI a w U=>?_;obtain⟨I,U⟩:=U.fb 0 4;refine aA λI a w U=>?_;refine U.o (.cl (im ..)) λU=>?_;refine aR λI a w U=>?_;refine U.q .F (.cl (im ..)) λU=>?_;refine E6 λI a w U=>?_;refine U.cd (λai=>?_) λai=>?_
  .rw[Gu] at ai;replace ai:=nt ai;refine aW ?_;exact bT (by unfold gN;rw[ab,fI (f:=qt s) ah ai];simp)
  rw[Gu] at ai;replace ai:=nf ai;refine ax λI a w U=>?_;have U:=U.drop 0;exact U.ag (k1+1) (⟨by omega,gf vj ai⟩)
 refine zt ?_;refine aU λI a w U=>?_;refine St.lo (σ:=Nat) (2::(6::(run 10 85 []))) ⟨λk2=>[(85,AV.int k2)],λk2=>[],λk2=>k2<=s.ar.length/\∀i,i<k2->(rI s) i=true⟩ (λk2=>s.ar.length-k2) 0 U ?eL ?jX;case eL=>exact⟨Nat.zero_le _,λi hi=>by omega⟩
 rintro k2 I a w aj U;obtain⟨xl,iW⟩:=aj;refine al λI a w U=>?_;refine cz (λaG=>?_) λaG=>?_
 .refine aA λI a w U=>?_;refine U.alloc rfl bI dY λb6 I a w U=>?_;refine al λI a w U=>?_;obtain⟨I,U⟩:=U.fb 0 6;refine aV λI a w U=>?_;refine U.o (.c2 (FW _ _ (pr (s6 vi aG)) An)) λU=>?_;refine al λI a w U=>?_;refine U.cd (λaL=>?_) λaL=>?_
  .rw[No] at aL;replace aL:=nt aL;refine aW ?_;exact bT (by unfold gN;rw[ab,fD vj om,fI (f:=rI s) aG aL];simp)
  rw[No] at aL;replace aL:=nf aL;refine ax λI a w U=>?_;have U:=U.drop 0;exact U.ag (k2+1) (⟨by omega,gf iW aL⟩)
 refine zt ?_;refine aU λI a w U=>?_;refine St.lo (σ:=Nat) (2::(8::(run 24 98 []))) ⟨λk3=>[(98,AV.int k3)],λk3=>[],λk3=>k3<=s.waits.length/\∀i,i<k3->(qu s) i=true⟩ (λk3=>s.waits.length-k3) 0 U ?iA ?oL;case iA=>exact⟨Nat.zero_le _,λi hi=>by omega⟩
 rintro k3 I a w aj U;obtain⟨N7,tF⟩:=aj;refine al λI a w U=>?_;refine cz (λbc=>?_) λbc=>?_
 .refine aA λI a w U=>?_;refine U.alloc rfl bI dY λb8 I a w U=>?_;refine al λI a w U=>?_;obtain⟨I,U⟩:=U.fb 0 8;refine U.dk ?_;refine ee ?_;refine .o (.c2 (FW _ _ (pr (s6 G6 bc)) An)) ?_;refine ef ?_;refine .q .F (.cl (GG ..)) ?_;refine gS ?_;refine .q .F (.cl (nB ..)) ?_;refine .q .F (.cl (qp ..)) ?_;refine cy ?_;refine .nil ?_;intro I a w U;refine ba ?_;refine U.cd (λaY=>?_) λaY=>?_
  .rw[LK] at aY;replace aY:=nt aY;refine aW ?_;exact bT (by unfold gN;rw[ab,fD vj om,fD iW om,fI (f:=qu s) bc aY];simp)
  rw[LK] at aY;replace aY:=nf aY;refine ax λI a w U=>?_;have U:=U.drop 0;exact U.ag (k3+1) (⟨by omega,gf tF aY⟩)
 refine zt ?_;refine aR λI a w U=>?_;refine U.o (.cl (WZ ..)) λU=>?_;refine aW ?_;exact bT (by unfold gN;rw[ab,fD vj om,fD iW om,fD tF om];simp)
def oM (c:Call) (i:Nat):Bool:=eU (λa=>gJ c.keys a.key) gm c.au i&&eh (ae c.au i)
def m5 (c:Call):Bool:=dh c.au.length (oM c)
def oN (c:Call):Bool:=m5 c&&dh c.aO.length (pz c)&&(((c.aO.length:Int)==0)||oG c)
def lR (c:Call) (time:Int):Bool:=fC c.aB&&aS c.num 1 99&&iz c&&aS c.val 0 9999&&ck c.ctx&&ck c.aO&&aS c.bw 1 time&&kr c.aw&&oN c
def fK (c:Call) (time:Int):Bool:=lR c time&&w7 c&&nQ c time
def N8 {l:List Int} {k:Nat} (h:∀i,i<k->eU dp nN l i=true):-1<=tc l k/\tc l k<=5:=by
 unfold tc;split
 .omega
 rename_i hk;have:=h (k-1) om;unfold eU at this;rw[Bool.and_eq_true,LP] at this;omega
def N9 {l:List Int} {k:Nat} (h:∀i,i<k->eU dp nN l i=true):aS (ae l k) (tc l k+1) 5=eU dp nN l k:=by
 have:=N8 h;unfold eU tc at*;by_cases hk:k=0
 .subst hk;simp[dp,aS]
 simp only[hk,if_false] at this⊢;rw[Bool.eq_iff_iff];simp[dp,aS,nN];omega
def Oa (c:Call) (time:Int):(!fC c.aB||!aS c.num 1 99||!iz c||!aS c.val 0 9999||!ck c.ctx||!ck c.aO||!aS c.bw 1 time||!kr c.aw||!oN c)=!lR c time:=by simp[lR]
def tG (c:Call) (i:Nat):Bool:=u0 (ae c.au i)&&eU (λa=>gJ c.keys a.key) gm c.au i
def Yg {c:Call} (h:kf c.keys=true) (i:Nat):tG c i=oM c i:=by
 unfold tG oM;cases h1:eU (λa=>gJ c.keys a.key) gm c.au i
 .simp
 have h2:gJ c.keys (ae c.au i).key=true:=by unfold eU at h1;rw[Bool.and_eq_true] at h1;exact h1.1
 have:=w8 h (Ab.1 h2);unfold u0 eh;cases(ae c.au i).yes<;>simp[this]
def G7 {c:Call} (h:m5 c=true) {i:Nat} (hi:i<c.au.length):eh (ae c.au i)=true/\gJ c.keys (ae c.au i).key=true:=by
 have:=(jc.1 h) i hi;unfold oM eU at this;simp only[Bool.and_eq_true] at this;exact⟨this.2,this.1.1⟩
def tH {c:Call} {key:Int} (h:0<=cQ c key):(cQ c key).toNat<c.au.length:=by
 have:=U4 (rV key) c.au;unfold cQ at*;omega
def xm (l:List Call) (time:Int) (i:Nat):Bool:=fK (ae l i) time&&(decide (i=0)||decide ((ae l (i-1)).bw<(ae l i).bw))
def my (l:List Call) (time:Int) (i:Nat):Bool:=(xm l time i&&((ae l i).num==gn l (i+1) (ae l i).aB))&&dh i λj=>!lP (ae l j) (ae l i)
def iX (l:List Call) (time:Int):Bool:=dh l.length (my l time)&&decide (l.length<=20)
def Ob (l:List Call) (time:Int) (k:Nat):(!fK (ae l k) time||(decide (0<(k:Int))&&decide ((ae l k).bw<=(ae l ((k:Int)-1).toNat).bw)))=!xm l time k:=by
 have e:=sO (λd=>fK d time) (λa b=>decide (a.bw<b.bw)) l k;have e2:decide ((ae l k).bw<=(ae l ((k:Int)-1).toNat).bw)=!decide ((ae l ((k:Int)-1).toNat).bw<(ae l k).bw):=by rw[Bool.eq_iff_iff];simp
 rw[e2,e];rfl
def Oc (l:List Call) (time:Int) (k:Nat):((!fK (ae l k) time||(decide (0<(k:Int))&&decide ((ae l k).bw<=(ae l ((k:Int)-1).toNat).bw)))||((ae l k).num !=gn l (k+1) (ae l k).aB))=!(xm l time k&&((ae l k).num==gn l (k+1) (ae l k).aB)):=by
 rw[Ob];simp[bne]
def fN (w:aM):Bool:=pt w&&dh w.aF.length (qx w)&&!hasB uM w.aC&&!hasB uN w.seen&&iX w.calls w.time
def CU {c:Call} {time:Int} (h:fK c time=true):ck c.ctx=true/\(∀a∈c.au,eh a=true)/\iz c=true/\fC c.aB=true/\1<=c.bw/\c.bw<=time:=by
 simp only[fK,lR,oN,Bool.and_eq_true] at h;have hg:m5 c=true:=h.1.1.2.1.1;have hb:=h.1.1.1.1.2;simp[aS] at hb;refine⟨h.1.1.1.1.1.1.2,λa ha=>?_,h.1.1.1.1.1.1.1.1.2,h.1.1.1.1.1.1.1.1.1.1,hb.1,hb.2⟩;obtain⟨k,hk,rfl⟩:=iq ha;exact(G7 hg hk).1
def Yh {c:Call} {t t':Int} (h:fK c t=true) (ht:t<=t'):fK c t'=true:=by
 simp only[fK,lR,Bool.and_eq_true] at h⊢;have h1:aS c.bw 1 t'=true:=by
  have:=h.1.1.1.1.2;simp[aS] at this⊢;omega
 have h2:nQ c t'=true:=by
  have:=h.2;unfold nQ at this⊢;split
  .rename_i he;rwa[if_pos he] at this
  rename_i he;rw[if_neg he] at this;have e:aS c.end_ (c.bw+1) t'=true:=by
   simp[aS] at this⊢;omega
  have e':aS c.end_ (c.bw+1) t=true:=by
   simp[aS] at this⊢;omega
  rw[e];rwa[e'] at this
 exact⟨⟨⟨⟨⟨h.1.1.1.1.1,h1⟩,h.1.1.1.2⟩,h.1.1.2⟩,h.1.2⟩,h2⟩
def G8 {c:Call} {t:Int} (h:fK c t=true):fK c (c.bw+c.end_)=true:=by
 have hp:=CU h;simp only[fK,lR,Bool.and_eq_true] at h⊢;have he:c.end_=0\/c.bw+1<=c.end_:=by
  have:=h.2;unfold nQ at this;by_cases h0:c.end_=0
  .exact Or.inl h0
  rw[if_neg h0] at this;right;simp[aS] at this;omega
 have h1:aS c.bw 1 (c.bw+c.end_)=true:=by simp[aS];omega
 have h2:nQ c (c.bw+c.end_)=true:=by
  have:=h.2;unfold nQ at this⊢;by_cases h0:c.end_=0
  .rwa[if_pos h0] at this⊢
  rw[if_neg h0] at this⊢;have e:aS c.end_ (c.bw+1) (c.bw+c.end_)=true:=by simp[aS];omega
  have e':aS c.end_ (c.bw+1) t=true:=by
   simp[aS] at this⊢;omega
  rw[e];rwa[e'] at this
 exact⟨⟨⟨⟨⟨h.1.1.1.1.1,h1⟩,h.1.1.1.2⟩,h.1.1.2⟩,h.1.2⟩,h2⟩
def Od (s:Server) (i:Nat) (hc:cD s.ar=true):((jA s.ar ⟨(ae s.waits i).key,(ae s.waits i).aw⟩).isSome||(cv (ae s.waits i).aw.site==cv s.site))=!u7 s i:=by
 rw[wS hc];show _=!!(_||_);rw[Bool.not_not];rfl
def Oe (s:Server) (i:Nat) (hc:cD s.ar=true):(!(jA s.ar ⟨(ae s.aE i).key,(ae s.aE i).aw⟩).isSome)=!qG s i:=by
 rw[wS hc];simp[qG]
def Of (s:Server) (l:List aJ) (hl:s.aQ.length=3) (hc:cD l=true):
 Fn prog 173 [s.av,cm l] (AV.bool (dh l.length (nO s l))):=by
 refine Fn.go 20 func173 ntmps173 (λW I a U=>?_);have hle:=U.dD (t:=1) rfl;refine aI λI a w U=>?_;refine St.lo (σ:=Nat) (run 16 4 []) ⟨λk=>[(5,AV.int k)],λk=>[],λk=>k<=l.length/\∀i,i<k->(nO s l) i=true⟩ (λk=>l.length-k) 0 U ?aD ?bh;case aD=>exact⟨Nat.zero_le _,λi hi=>by omega⟩
 rintro k I a w aj U;obtain⟨qD,aT⟩:=aj;refine aU λI a w U=>?_;refine cz (λab=>?_) λab=>?_
 .refine zt ?_;refine U.dk ?_;refine gS ?_;refine .o (.c2 (U5 _ _ (pr (s6 hc ab)) hl)) ?_;refine br ?_;refine .nil ?_;intro I a w U;refine ba ?_;refine U.cd (λah=>?_) λah=>?_
  .replace ah:=nt ah;refine aW ?_;exact bT (fI (f:=nO s l) ab ah).symm
  replace ah:=nf ah;refine aI λI a w U=>?_;exact U.ag (k+1) (⟨by omega,gf aT ah⟩)
 refine zt ?_;refine aW ?_;exact bT (fD aT om).symm
def iK (s:Server) (m:az):List az:=
 if aS m.bj 10 11&&decide (1<=m.call)&&fR s m.key then
  if eH m.aw then[mi s m (gD s.ar m.key)]
  else match jm s.ar ⟨m.key,m.aw⟩ with
   |some v=>[mi s m (some v)]
   |none=>[]
 else[]
def ia (s:Server) (m:az):Server×List az:=
 if tm s m then
  let v:=ae m.ar 0
  if placeOf s.ar v.bD<0/\placeOf s.waits v.bD<0 then
   if iv s.waits v then(g9 {s with waits:=fF s.waits v},[mj s m v]) else(s,[])
  else(g9 s,[mj s m v])
 else(s,[])
def oO (s:Server) (m:az):List az:=if(jm s.ar ⟨m.key,m.aw⟩).isSome&&(m.bj==fH s.site) then[ml s m] else[]
def si (s:Server) (m:az):Server:=
 let x:=eJ s m.slot
 {x with aQ:=x.aQ.set m.slot.toNat ⟨m.bX,1⟩,ar:=jn x.ar m.ar,waits:=jn x.waits m.waits,aE:=m.aE.foldl eN x.aE}
def ib (s:Server) (m:az):Server×List az:=
 if(m.bj==fH s.site)&&decide (1<=m.bX) then
  if m.bX<=(ae s.aQ m.slot.toNat).bX then(s,[nJ s m])
  else if r6 s m&&gN (si s m) then(g9 (si s m),[nJ s m]) else(s,[])
 else(s,[])
def Og (q:Call) (key:Int):
 Fn prog 284 [q.av,AV.int key] (AV.int (cQ q key)):=by
 refine Fn.go 9 func284 ntmps284 (λW I a U=>?_);refine aX λI a w U=>?_;refine U.o (vM .tt (by first|exact cL rfl|exact cN|exact cO|exact cP)) λU=>?_;refine aV λI a w U=>?_;refine U.o (nj (an .tt aH)) λU=>?_;refine U.o (.cl (LJ q.au (rV key) _ (λv _=>Fn.val (Mm v key)))) λU=>?_;refine aW ?_;rfl
def Yi {q:Call} {time:Int} (h:lR q time=true):1<=q.bw/\q.bw<=time:=by
 simp only[lR,Bool.and_eq_true] at h;have:=h.1.1.2;simp[aS] at this;exact this
def Yj (q:Call):
 Fn prog 226 [q.av] (AV.bool (iz q)):=by
 refine Fn.go 40 func226 ntmps226 (λW I a U=>?_);have lens:q.keys.length<=9223372036854775807/\q.au.length<=9223372036854775807/\q.aO.length<=9223372036854775807:=⟨U.ln 0 3,U.ln 0 11,U.ln 0 12⟩;refine fW λI a w U=>?_;refine St.lo (σ:=Nat) (run 2 2 (5::(run 11 9 []))) ⟨λk=>[(9,AV.int k),(3,AV.int (tc q.keys k))],λk=>[],λk=>k<=q.keys.length/\∀i,i<k->eU dp nN q.keys i=true⟩ (λk=>q.keys.length-k) 0 U ?aD ?bh;case aD=>exact⟨Nat.zero_le _,λi hi=>by omega⟩
 rintro k I a w aj U;obtain⟨hk,aT⟩:=aj;refine al λI a w U=>?_;refine cz (λab=>?_) λab=>?_
 .refine bV λI a w U=>?_;refine U.o (cr .tt .c (λ_=>by have:=N8 aT;omega)) λU=>?_;refine U.o (.cl (im ..)) λU=>?_;refine al λI a w U=>?_;refine U.cd (λah=>?_) λah=>?_
  .rw[N9 aT] at ah;replace ah:=nt ah;refine aW ?_;exact bT (by unfold iz kf;rw[fI (f:=eU dp nN q.keys) ab ah];rfl)
  rw[N9 aT] at ah;replace ah:=nf ah;refine aU λI a w U=>?_;refine U.again (k+1) ?bM ?bN bF ?bO (by repeat(first|exact Env.le_rfl|refine Env.dj rfl ?_));case bM=>omega
  case bN=>exact⟨by omega,gf aT ah⟩
  case bO=>exact(Env.bt rfl bF (Env.bt rfl (by exact congrArg AV.int (VX _ _).symm) Env.le_nil))
 refine zt ?_;refine Ky λI a w U=>?_;refine U.q .T2 (.cl (im ..)) λU=>?_;refine ry ?_;exact bT (by unfold iz kf;rw[fD aT om];rfl)
def Yk (q:Call):
 Fn prog 246 [q.av] (AV.bool (u6 q)):=by
 refine Fn.go 57 func246 ntmps246 (λW I a U=>?_);have lens:q.keys.length<=9223372036854775807/\q.au.length<=9223372036854775807/\q.aO.length<=9223372036854775807:=⟨U.ln 0 3,U.ln 0 11,U.ln 0 12⟩;refine Bt λI a w U=>?_;refine U.cd (λab=>?_) λab=>?_
 .refine aW ?_;exact bT (by unfold u6;rw[ab];rfl)
 refine al λI a w U=>?_;refine St.lo (σ:=Nat) (run 2 2 (run 32 25 [])) ⟨λk=>[(3,AV.int k)],λk=>[],λk=>k<=q.keys.length/\∀i,i<k->(eU dp nN q.keys) i=true⟩ (λk=>q.keys.length-k) 0 U ?aD ?bh;case aD=>exact⟨Nat.zero_le _,λi hi=>by omega⟩
 rintro k I a w aj U;obtain⟨qD,aT⟩:=aj;refine bP λI a w U=>?_;refine cz (λah=>?_) λah=>?_
 .refine zt ?_;refine U.dk ?_;refine fQ ?_;refine .o (.c1 (s9 ..)) ?_;refine n5 ?_;refine ee ?_;refine .nil ?_;intro I a w U;refine ba ?_;refine U.cd (λai=>?_) λai=>?_
  .rw[MW] at ai;replace ai:=nt ai;refine aW ?_;exact bT (by unfold u6 kf;rw[fI (f:=eU dp nN q.keys) ah ai];simp)
  rw[MW] at ai;replace ai:=nf ai;refine aI λI a w U=>?_;exact U.ag (k+1) (⟨by omega,gf aT ai⟩)
 refine zt ?_;refine aW ?_;exact bT (by unfold u6 kf;rw[ab,fD aT om];rfl)
def Oh {l:List Call} {time:Int} {j:Nat} (h:my l time j=true):(ae l j).num=gn l (j+1) (ae l j).aB:=by
 simp only[my,Bool.and_eq_true,beq_iff_eq] at h;exact h.1.2
def Oi (l:List Call) (time:Int) (k:Nat):(!fK (ae l k) time||(decide (0<(k:Int))&&decide ((ae l k).bw<=(ae l ((k:Int)-1).toNat).bw)))=!xm l time k:=Ob l time k
def CV (l:List Call) (time:Int) (k:Nat):my l time k=((xm l time k&&((ae l k).num==gn l (k+1) (ae l k).aB))&&dh k λj=>!lP (ae l j) (ae l k)):=rfl
def Oj (x:aM):(!aS x.time 0 99999||((x.aF.length:Int) !=4)||decide (60<(x.aC.length:Int))||((x.seen.length:Int) !=2)||!iX x.calls x.time)=!(pt x&&iX x.calls x.time):=by
 unfold pt;simp
def Yl {q:Call} {t:Int} (h:fK q t=true) (hk:q.kind=1) (he:¬q.end_=0):kh ⟨ae q.keys 0,q.aw⟩=true:=by
 have hp:=CU h;have iR:kf q.keys=true:=by have:=hp.2.2.1;unfold iz at this;rw[Bool.and_eq_true] at this;exact this.1
 have h1:=w8 iR (bK (u9 hp.2.2.1 hk));simp only[fK,lR,Bool.and_eq_true] at h;have bJ:kr q.aw=true:=h.1.1.1.2;have CW:=h.2;unfold nQ at CW;rw[if_neg he] at CW;simp[hk] at CW;simp only[kr,CW.2,Bool.false_or] at bJ;simp[kh,h1,bJ]
def G9 (l:List ao) (d:ao) (h:l.length<=1048575):
 Fn prog 336 [bm l,d.av] (bm (eN l d)):=by
 refine Fn.go 72 func336 ntmps336 (λW I a U=>?_);refine aR λI a w U=>?_;refine U.o (.cl (zU ..)) λU=>?_;refine al λI a w U=>?_;refine cz (λab=>?_) λab=>?_
 .refine zt ?_;refine U.l0 λr9 I a w U=>?_;refine U.m λU=>?_;refine U.ap 0 λgX a w U=>?_;obtain⟨I,U⟩:=U.fr 0 14;refine aW ?_;exact congrArg (AV.rows 3) (by unfold eN;rw[if_pos ab];rfl)
 refine zt ?_;refine U.l0 λHa I a w U=>?_;refine aI λI a w U=>?_;refine St.lo (σ:=Nat×Bool×List ao×Value) (run 3 5 (run 49 16 [])) ⟨λ⟨k,done,out,u⟩=>[(7,AV.int k),(6,AV.bool done),(5,AV.val u)],λ⟨k,done,out,u⟩=>[Own.row u 125 3 (out.map ao.cells)],λ⟨k,done,out,u⟩=>mb l d k done out⟩ (λ⟨k,done,out,u⟩=>l.length-k) (0,false,[],.slice (some ⟨Ha,0,none⟩) 0 0) U ?aD ?bh;case aD=>exact mb.zero l d
 rintro⟨k,done,out,u⟩ I a w aj U;have hp:mb l d k done out:=aj;have hk:=hp.hk;have jM:=hp.len;have qc:done.toNat<=1:=by cases done<;>simp
 dsimp only at U;refine aU λI a w U=>?_;refine cz (λah=>?_) λah=>?_
 .refine zt ?_;refine U.dk ?_;refine n5 ?_;refine E9 ?_;refine .q .T2 (.cl (wQ ..)) ?_;refine ee ?_;refine .nil ?_;intro I a w U;refine ba ?_;refine U.cd (λai=>?_) λai=>?_
  .rw[Mj] at ai;simp only[B] at ai;refine aA λI a w U=>?_;refine U.o (.li [d.cells] gM (.u .nil)) λU=>?_;refine U.ap 0 λv57 a w U=>?_;rw[cA] at U;refine fm λI a w U=>?_;refine U.o (.li [(ae l k).cells] gM (.u .nil)) λU=>?_;refine U.ap 0 λHb a w U=>?_;rw[cA] at U;refine aU λI a w U=>?_;exact U.ag (k+1,true,(out++[d])++[ae l k],Hb) (by obtain⟨h1,h2⟩:=ai;subst h1;exact hp.before ah h2)
  rw[Mj] at ai;simp only[B] at ai;refine bV λI a w U=>?_;refine U.o (.li [(ae l k).cells] gM (.u .nil)) λU=>?_;refine U.ap 0 λHb a w U=>?_;rw[cA] at U;refine aU λI a w U=>?_;exact U.ag (k+1,done,out++[ae l k],Hb) (hp.step ah (by simpa using ai))
 refine zt ?_;refine ax λI a w U=>?_;refine cz (λaG=>?_) λaG=>?_
 .refine aA λI a w U=>?_;refine U.o (.li [d.cells] gM (.u .nil)) λU=>?_;refine U.ap 0 λv70 a w U=>?_;rw[cA] at U;refine aI λI a w U=>?_;obtain⟨I,U⟩:=U.fr 0 4;refine U.rt ?_;exact congrArg (AV.rows 3) (by subst aG;unfold eN;rw[if_neg om];exact hp.rZ om▸rfl)
 refine ax λI a w U=>?_;obtain⟨I,U⟩:=U.fr 0 4;refine U.rt ?_;exact congrArg (AV.rows 3) (by subst aG;unfold eN;rw[if_neg om,hp.rY om])
def Ym {s:Server} {m:az} (h:bE s):bE (ia s m).1:=by
 unfold ia;split
 .rename_i hr;obtain⟨_,_,_,ho,hf⟩:=Cv hr;dsimp only;split
  .rename_i hn;split
   .rename_i hc;exact(h.wait hc hn.1 hf (by rw[(Ci ho).2];omega)).settle
   exact h
  exact h.settle
 exact h
def Yn {s:Server} {m:az} (h:bE s):bE (ib s m).1:=by
 unfold ib;split
 .split
  .exact h
  split
  .rename_i hc;simp only[Bool.and_eq_true] at hc;exact(iU.1 hc.2).settle
  exact h
 exact h
def Ol {n:Int} (h:de n=true):de (fH n)=true:=by
 rw[mu] at*;unfold fH;split<;>omega
def Yo {s:Server} {m:az} (h:bE s) (hm:bY m=true):∀w∈oO s m,bY w=true:=by
 have p:=oE hm;unfold oO;split
 .intro w hw;obtain rfl:w=_:=by simpa using hw
  exact sd ⟨by simp[ml],by simp[ml]⟩ (oH h.site) p.2.1 ⟨by simp[ml,cg],by simp[ml,cg]⟩ p.2.2.2.2.1 p.2.2.2.2.2.1 ⟨by simp[ml,cg],by simp[ml,cg]⟩ qI ⟨by simp[ml,cg],by simp[ml,cg]⟩ ⟨by simp[ml,cg],by simp[ml,cg]⟩ oI oI ve
 intro w hw;simp at hw
def vm {m:az} (h:bY m=true):iV m:=by
 have p:=oE h;refine⟨by have:=gU p.2.2.2.2.2.2.2.1;omega,s8 p.2.2.2.2.2.2.2.2.2.2.1,s8 p.2.2.2.2.2.2.2.2.2.2.2.1,by have:=hP p.2.2.2.2.2.2.2.2.2.2.2.2;omega⟩
def Om {q:Call}:m5 q=true↔(∀a∈q.au,gJ q.keys a.key=true)/\(q.au.Pairwise λa b=>gm a b=true)/\∀a∈q.au,eh a=true:=by
 unfold m5;rw[jc];have h1:=F3 (cX:=λa:Answer=>gJ q.keys a.key) (less:=gm) (λh1 h2=>Vk h1 h2) (l:=q.au);rw[jc] at h1;unfold oM;constructor
 .intro h;have h2:=h1.1 λi hi=>(Bool.and_eq_true _ _▸h i hi:_/\_).1;refine⟨h2.1,h2.2,λa ha=>?_⟩;obtain⟨k,hk,rfl⟩:=iq ha;exact(Bool.and_eq_true _ _▸h k hk:_/\_).2
 rintro⟨a1,a2,a3⟩ i hi;rw[Bool.and_eq_true];exact⟨h1.2 ⟨a1,a2⟩ i hi,a3 _ (bK hi)⟩
def xn {q:Call} {key:Int} (h:0<=cQ q key):(cQ q key).toNat<q.au.length/\(ae q.au (cQ q key).toNat).key=key:=by
 refine⟨tH h,?_⟩;unfold cQ dK at*;split at h
 .rename_i k hk;obtain⟨h1,h2,_⟩:=List.findIdx?_eq_some_iff_getElem.1 hk;simpa[ae,h1,rV] using h2
 omega
def Yp {q:Call} (h:q.au.Pairwise λa b=>gm a b=true) {i:Nat} (hi:i<q.au.length):cQ q (ae q.au i).key=i:=by
 have h0:0<=cQ q (ae q.au i).key:=Cj.2 ⟨_,bK hi,rfl⟩;obtain⟨h1,h2⟩:=xn h0;have:=Vl h h1 hi h2;omega
def Hc {q:Call} (h:q.au.Pairwise λa b=>gm a b=true) {d:ao}:rW q d=true↔∃a∈q.au,a.key=d.key/\nM a d.aw=true:=by
 unfold rW;rw[Bool.and_eq_true,decide_eq_true_eq];constructor
 .rintro⟨h1,h2⟩;exact⟨_,bK (xn h1).1,(xn h1).2,h2⟩
 rintro⟨a,ha,hk,ho⟩;obtain⟨i,hi,rfl⟩:=iq ha;have e:=Yp h hi;rw[hk] at e;rw[e];exact⟨by omega,ho⟩
def Yq {a:Answer} (h:eh a=true):dy a.bl.aw gO=false:=by
 cases hy:a.yes
 .rw[Cs h hy];rfl
 exact U7 (tk (kT (tl h hy).1).2.1)
def Hd (r7:List ao) (U:∀key,rP (cB r7 key)):∀{l:List Answer} {last:Int},(l.Pairwise λa b=>gm a b=true)->(∀a∈l,last<a.key/\a.key<=5)->(∀a∈l,eh a=true)->dL last (l.map (nP r7)).flatten=true
 |[],_,_,_,_=>rfl
 |a::r,last,hp,hk,hg=>by
  rw[List.pairwise_cons] at hp;rw[List.map_cons,List.flatten_cons];have ha:=hk a be;have ru:∀x∈r,eh x=true:=λx hx=>hg x (by simp[hx]);unfold nP;split
  .rename_i hl;have c6:dB (cB r7 a.key)=true:=by
    rcases U a.key with e|e
    .rw[e,Yq (hg a be)] at hl;cases hl
    exact e
   show(aS a.key (last+1) 5&&dB (cB r7 a.key)&&dL a.key _)=true;rw[c6,show aS a.key (last+1) 5=true by simp[aS];omega,Bool.true_and,Bool.true_and];exact Hd r7 U hp.2 (λx hx=>⟨by have:=hp.1 x hx;unfold gm at this;rwa[decide_eq_true_eq] at this,(hk x (by simp[hx])).2⟩) ru
  rw[List.nil_append];exact Hd r7 U hp.2 (λx hx=>hk x (by simp[hx])) ru
structure cF (w:aM):Prop where
 time:0<=w.time
 aF:w.aF.length=4
 site:∀i,i<4->(ae w.aF i).site=(i:Int)/\bE (ae w.aF i)
 aC:w.aC.length<=60
 words:∀m∈w.aC,bY m=true
 seen:w.seen.length=2
 pJ:∀l∈w.seen,ck l=true
 calls:iX w.calls w.time=true
def lS {w:aM}:fN w=true↔cF w/\w.time<=99999:=by
 unfold fN pt;simp only[Bool.and_eq_true];rw[jc];have e1:(!hasB uM w.aC)=true↔∀m∈w.aC,bY m=true:=by
  rw[Bool.not_eq_true',F7];unfold uM;simp
 have e2:(!hasB uN w.seen)=true↔∀l∈w.seen,ck l=true:=by
  rw[Bool.not_eq_true',F7];unfold uN;simp
 have e3:(!(!aS w.time 0 99999||((w.aF.length:Int) !=4)||decide (60<(w.aC.length:Int))||((w.seen.length:Int) !=2)))=true↔(0<=w.time/\w.time<=99999)/\w.aF.length=4/\w.aC.length<=60/\w.seen.length=2:=by
  simp only[Bool.not_eq_true',Bool.or_eq_false_iff,Bool.not_eq_false',aS,Bool.and_eq_true,decide_eq_true_eq,decide_eq_false_iff_not,bne_eq_false_iff_eq];omega
 rw[e1,e2,e3];have e4:∀i,qx w i=true↔(ae w.aF i).site=(i:Int)/\bE (ae w.aF i):=λi=>by
  unfold qx;rw[Bool.and_eq_true,beq_iff_eq,iU]
 constructor
 .rintro⟨⟨⟨⟨⟨⟨a1,a2⟩,a3,a4,a5⟩,a6⟩,a7⟩,a8⟩,a9⟩;exact⟨⟨a1,a3,λi hi=>(e4 i).1 (a6 i om),a4,a7,a5,a8,a9⟩,a2⟩
 rintro⟨h,ht⟩;exact⟨⟨⟨⟨⟨⟨h.time,ht⟩,h.aF,h.aC,h.seen⟩,λi hi=>(e4 i).2 (h.site i (by rw[h.aF] at hi;exact hi))⟩,h.words⟩,h.pJ⟩,h.calls⟩
def cF.send {w:aM} (h:cF w) {more:List az} (hm:∀m∈more,bY m=true):cF {w with aC:=fe w.aC more}:=
 ⟨h.time,h.aF,h.site,V7 h.aC,V8 h.words hm,h.seen,h.pJ,h.calls⟩
def cF.server {w:aM} (h:cF w) {i:Nat} (hi:i<4) {s:Server} (U:bE s) (he:s.site=(ae w.aF i).site):cF {w with aF:=w.aF.set i s}:=by
 refine⟨h.time,by show(w.aF.set _ _).length=4;rw[List.length_set];exact h.aF,λj hj=>?_,h.aC,h.words,h.seen,h.pJ,h.calls⟩;show(ae (w.aF.set i s) j).site=j/\bE (ae (w.aF.set i s) j);rw[wT (by rw[h.aF];exact hi)];split
 .subst_vars;exact⟨he.trans (h.site _ hi).1,U⟩
 exact h.site j hj
def cF.Yr {w:aM} (h:cF w) (i:Nat) {l:List ao} (hl:ck l=true):cF {w with seen:=w.seen.set i l}:=
 ⟨h.time,h.aF,h.site,h.aC,h.words,by show(w.seen.set _ _).length=2;rw[List.length_set];exact h.seen,λx hx=>by
  rcases List.mem_or_eq_of_mem_set hx with hx|rfl
  .exact h.pJ x hx
  exact hl,h.calls⟩
def Ys (s:Server) (m:az):(ia s m).1.site=s.site:=by
 unfold ia;split
 .dsimp only;split
  .split
   .exact xf _
   rfl
  exact xf _
 rfl
def Yt (s:Server) (m:az):(ib s m).1.site=s.site:=by
 unfold ib;split
 .split
  .rfl
  split
  .exact xf _
  rfl
 rfl
def He:fN oi=true:=by decide
def Hg (l:List ao) (d:ao) (h:l.length<=1048575):
 Fn prog 349 [bm l,d.av] (bm (eN l d)):=by
 refine Fn.go 31 func349 ntmps349 (λW I a U=>?_);refine aR λI a w U=>?_;refine U.o (.cl (zE ..)) λU=>?_;refine zt ?_;refine cz (λab=>?_) λab=>?_
 .refine aX λI a w U=>?_;refine U.o (bx (rK l om) (an .r aH)) λU=>?_;refine aW ?_;exact congrArg (AV.rows 3) (by unfold eN;rw[if_pos ab])
 refine al λI a w U=>?_;refine St.lo (σ:=Nat) (5::(run 14 11 [])) ⟨λk=>[(5,AV.int k)],λk=>[],λk=>k<=l.length/\∀i,i<k->ec (ae l i) d=true⟩ (λk=>l.length-k) 0 U ?aD ?bh;case aD=>exact⟨Nat.zero_le _,λi hi=>by omega⟩
 rintro k I a w aj U;obtain⟨hk,aT⟩:=aj;refine wp_seq<|wp_seq<|U.dk ?_;refine wh ?_;refine .q .T (.cl (BR ..)) ?_;refine br ?_;refine .nil ?_;intro I a w U;refine ba ?_;refine cz (λah=>?_) λah=>?_
 .refine aI λI a w U=>?_;exact U.ag (k+1) (⟨by omega,λi h1=>by rcases Nat.lt_succ_iff_lt_or_eq.1 h1 with h|h;exact aT i h;rw[h];exact ah.2⟩)
 refine zt ?_;refine U.da 5 ?_;simp only[TD];refine br ?_;refine fO.gh (oc l om) (an .r aH) ?_;refine cy ?_;refine .o (.li [d.cells] gM (.u .nil)) ?_;refine .nil ?_;intro I a w U;obtain⟨vn,U⟩:=U.Bm (d:=26);refine U.eX [0] (UJ _ (l.map ao.cells) d.cells k (by rw[List.length_map];exact hk) jr (λr hr=>by obtain⟨u,_,rfl⟩:=List.mem_map.1 hr;rfl) rfl) (an .tt (an .tt (an .tt aH))) rfl bA rfl λI a w U=>?_;refine aW ?_;exact congrArg (AV.rows 3) (by unfold eN;rw[if_neg om,<-Mz hk aT (λhl=>by rcases ah with h|h;omega;exact h) (MA ab),List.map_append,List.map_cons,List.map_take,List.map_drop])
def On (l:List aJ) (v:aJ) (hc:cD l=true):
 Fn prog 359 [cm l,v.av] (AV.c8 [cm (if iv l v then fF l v else l),AV.bool (iv l v)]):=by
 refine Fn.go 29 func359 ntmps359 (λW I a U=>?_);have hle:=U.dD (t:=0) rfl;have Ao:=gV hc;have kj:=tf hc;refine aR λI a w U=>?_;refine U.o (.cl (Am ..)) λU=>?_;refine al λI a w U=>?_;refine U.cd (λab=>?_) λab=>?_
 .exfalso;rw[hc] at ab;cases ab;skip
 refine aX λI a w U=>?_;refine U.o (.c1 (G2 ..)) λU=>?_;refine aR λI a w U=>?_;refine U.q .F (.cl (nB ..)) λU=>?_;refine U.q .F (.cl (qp ..)) λU=>?_;refine fW λI a w U=>?_;refine U.cd (λah=>?_) λah=>?_
 .rw[L5,L6 v hc] at ah;replace ah:=nt ah;refine aX λI a w U=>?_;refine U.o (bx (gR.fn (uJ l om (λu hu=>by have:=kj u hu;omega))) (an .r aH)) λU=>?_;refine cK ?_;exact(by rw[ah];rfl)
 rw[L5,L6 v hc] at ah;replace ah:=nf ah;refine aA λI a w U=>?_;refine U.o (bx (FZ l v om (λu hu=>by have:=kj u hu;omega) (by have:=gU (F0 (uP ah).1);omega)) (an .r (an (.t rfl) aH))) λU=>?_;refine cK ?_;exact(by rw[ah];rfl)
def Ap {l:List aJ} (h:cD l=true) (d:ao):jA l d=jm l d:=by unfold jA jm;simp[h]
def Yu (s:Server) (m:az) (aj:eI s) (ho:s.aE.length<=80) (hm:bY m=true):
 Fn prog 312 [s.av,m.av] ((oB s m).av):=by
 refine Fn.go 57 func312 ntmps312 (λW I a U=>?_);have tI:=ph (Mv hm);have h3:=aj.aQ;have CX:=λh=>Mu (l:=s.aE) (d:=⟨m.key,m.aw⟩) h;refine sr<|U.box rfl .tt λb2 I a w U=>U.o .bp λU=>U.alloc rfl bL di λb4 I a w U=>?_;refine df λI a w U=>?_;refine U.o (.bd fE (.k (.t bf.nil))) λU=>?_;refine U.o (.cl (zU s.aE ⟨m.key,m.aw⟩)) λU=>?_;refine al λI a w U=>?_;refine U.dk ?_;refine cy ?_;refine .o (.c1 (qw ..)) ?_;refine ef ?_;refine .q .F (.cl (pq ..)) ?_;refine cy ?_;refine .q .F (.cl (pq ..)) ?_;refine Si ?_;refine .q .F (.cl (ta ..)) ?_;refine fQ ?_;refine .nil ?_;intro I a w U;refine ba ?_;refine U.cd (λab=>?_) λab=>?_
 .rw[ME s m] at ab;replace ab:=nt ab;refine ax λI a w U=>?_;refine U.ret rfl (.cons (.sx 1) aZ.nil) ?_;exact(by unfold oB;rw[ab];rfl)
 rw[ME s m] at ab;replace ab:=nf ab;refine zt ?_;have U:=U.dH;refine U.fV (rp 2 (([0],none)::rp 2 (([2],some (2,[48]))::([],none)::([0],none)::rp 3 [([2],some (2,[])),([],none),([0],some (0,[]))]))) aq aq rfl ?_;refine .o (sT dw cM) ?_;refine br ?_;refine .r [0] (.lb 0) ?_;refine br ?_;refine .o (AY dw cM .r .tt (λ_=>by simp only[B] at ab;have h9:=CX om;simp only[List.length_map];omega)) ?_;refine aP.yK 2 rfl rfl dw cM rfl .tt .r ff ?_;refine br ?_;refine .r [0] (.lb 0) ?_;refine br ?_;refine .o (cr .tt .c (λ_=>by simp only[B] at ab;have h9:=CX om;omega)) ?_;refine .o (D6 dw cM .r .tt (λ_=>by simp only[B] at ab;have h9:=CX om;simp only[List.length_map];omega)) ?_;refine aP.Bh 2 rfl rfl dw cM rfl .r ff ?_;refine br ?_;refine aP.gZ (x:=AV.any) 0 (λF W0 I0 I γ a w Q U kk=>U.s1 0 λU=>kk _ _ _ U) ?_;refine .nil ?_;intro I a w U;rw[<-List.map_take,<-List.map_drop,<-List.map_append] at U;refine ax λI a w U=>?_;refine U.ret rfl (.cons (.sx 1) aZ.nil) ?_;exact(by unfold oB;rw[ab];have h9:=CX (by simp only[B] at ab;omega);rw[show((gB s.aE ⟨m.key,m.aw⟩)+1).toNat=(gB s.aE ⟨m.key,m.aw⟩).toNat+1 by simp only[B] at ab;omega];rfl)
def Yv {l:List aJ} {v:aJ} (hv:fi v=true) (hl:l.length<80):(if iv l v then fF l v else l)=jE l v:=by
 unfold iv jE;rw[hv];by_cases hp:placeOf l v.bD<0
 .simp[hp,hl]
 simp[hp]
def Hh {s:Server} {m:az} (h:r6 s m=true):(eJ s m.slot).ar.length+m.ar.length<=80/\(eJ s m.slot).waits.length+m.waits.length<=80/\(eJ s m.slot).aE.length+m.aE.length<=80:=by
 unfold r6 at h;simp only[Bool.and_eq_true,decide_eq_true_eq] at h;exact⟨h.1.1,h.1.2,h.2⟩
def Yw {s:Server} {m:az} (h:((m.bj==fH s.site)&&decide (1<=m.bX))=false):ib s m=(s,[]):=by unfold ib;rw[h];rfl
def Oo {s:Server} {m:az} (h:((m.bj==fH s.site)&&decide (1<=m.bX))=true) (h2:m.bX<=(ae s.aQ m.slot.toNat).bX):ib s m=(s,[nJ s m]):=by unfold ib;rw[h,if_pos rfl,if_pos h2]
def Hi {s:Server} {m:az} (h:((m.bj==fH s.site)&&decide (1<=m.bX))=true) (h2:¬m.bX<=(ae s.aQ m.slot.toNat).bX) (h3:(r6 s m&&gN (si s m))=false):ib s m=(s,[]):=by unfold ib;rw[h,if_pos rfl,if_neg h2,h3];rfl
def Oq {s:Server} {m:az} (h:((m.bj==fH s.site)&&decide (1<=m.bX))=true) (h2:¬m.bX<=(ae s.aQ m.slot.toNat).bX) (h3:(r6 s m&&gN (si s m))=true):ib s m=(g9 (si s m),[nJ s m]):=by unfold ib;rw[h,if_pos rfl,if_neg h2,h3];rfl
def Yx (s:Server) (m:az):(iK s m).length<=1:=by
 unfold iK;split
 .split
  .simp
  split<;>simp
 simp
def Yy (s:Server) (m:az):(ia s m).2.length<=1:=by
 unfold ia;split
 .dsimp only;split
  .split<;>simp
  simp
 simp
def Yz (s:Server) (m:az):(ib s m).2.length<=1:=by
 unfold ib;split
 .split
  .simp
  split<;>simp
 simp
def YA {s:Server}:rX s s.aQ.length=leaving s:=rfl
def YB (s:Server) (hg:bE s):
 Fn prog 236 [s.av] ((py s).av):=by
 refine Fn.go 12 func236 ntmps236 (λW I a U=>?_);have aj:=iU.2 hg;have c6:=hg.ok;have hZ:=hg.small;refine aX λI a w U=>?_;refine U.alloc rfl bL di λb2 I a w U=>?_;refine aX λI a w U=>?_;refine U.o (.c1 (vh ..)) λU=>?_;refine al λI a w U=>?_;refine U.cd (λab=>?_) λab=>?_
 .exfalso;rw[aj] at ab;cases ab;skip
 refine aX λI a w U=>?_;refine U.o (.c1 (rR s hZ)) λU=>U.alloc rfl bL di λb3 I a w U=>?_;refine bP λI a w U=>?_;refine U.ret rfl (.cons (.sx 0) aZ.nil) ?_;rfl
def YC (s:Server) (hg:bE s):
 Fn prog 235 [s.av] ((px s).av):=by
 refine Fn.go 13 func235 ntmps235 (λW I a U=>?_);have aj:=iU.2 hg;have c6:=hg.ok;have hZ:=hg.small;refine aX λI a w U=>?_;refine U.alloc rfl bL di λb2 I a w U=>?_;refine aX λI a w U=>?_;refine U.o (.c1 (vh ..)) λU=>?_;refine al λI a w U=>?_;refine U.cd (λab=>?_) λab=>?_
 .exfalso;rw[aj] at ab;cases ab;skip
 refine aX λI a w U=>?_;refine U.o (.c1 (rR s hZ)) λU=>U.alloc rfl bL di λb3 I a w U=>?_;refine aR λI a w U=>?_;refine U.DY 1 iH .tt (At.nil (sz:=3) .c) (by first|exact cL rfl|exact cN|exact cO|exact cP) rfl rfl λa w U=>?_;refine ax λI a w U=>?_;refine U.ret rfl (.cons (.sx 0) aZ.nil) ?_;rfl
def Ot {q:Call} {t:Int} (h:fK q (q.bw+q.end_)=true) (he:0<=q.end_):(!fK q (q.bw+q.end_)||decide (0<q.end_)||q.over)=!hX q:=by
 rw[h];unfold hX;have e:decide (0<q.end_)=!(q.end_==0):=by rw[Bool.eq_iff_iff];simp;omega
 rw[e];simp
def Ou (q:Call) (h:uO q):
 bG prog 137 [q.av] [] (λ_:Value×Value=>True) (λu=>[Own.row u.1 56 9 (q.au.map Answer.cells),Own.row u.2 125 3 (q.aO.map ao.cells)]) (λu=>q.wY u.1 u.2):=by
 refine bG.intro 40 func137 rfl ntmps137 rfl aq (λW I a U=>?_);obtain⟨h1,h2,h4,h5,h3⟩:=h;have U:=U.en (sz:=9) 56;refine sr<|U.box rfl .tt λb1 I a w U=>U.alloc rfl dm g0 λb2 I a w U=>?_;refine zt ?_;refine U.da 10 ?_;simp only[TD];refine cy ?_;refine .o (Bj kG cT rfl Tt .r (λ_=>by simp;omega)) ?_;refine cy ?_;refine .o (.cl (rK q.ctx h2)) ?_;refine cy ?_;refine fO.gh (oc q.aO h3) (an .r aH) ?_;refine br ?_;refine .nil ?_;intro I a w U;obtain⟨gX,U⟩:=U.Bm (d:=14);refine aR λI a w U=>?_;try have Ak:=U.cU 3 rfl
 refine gy λI a w U=>?_;refine St.lo (σ:=Nat×Value) (3::(5::(run 16 21 []))) ⟨λ⟨k,v⟩=>[(21,AV.int k),(3,AV.val v)],λ⟨k,v⟩=>[Own.row v 56 9 ((q.au.take k).map Answer.cells),Own.box b1 45 [AV.int q.aB,AV.int q.num,AV.int q.kind,fM q.keys,AV.int q.val,bm q.ctx,AV.int q.bw,AV.int q.end_,AV.bool q.over,AV.int q.aw.time,AV.int q.aw.site,j7 q.au,AV.val gX],Own.box b2 45 [AV.val (.int .i64 0),AV.val (.int .i64 0),AV.val (.int .i64 0),AV.rows 1 [],AV.val (.int .i64 0),AV.rows 3 [],AV.val (.int .i64 0),AV.val (.int .i64 0),AV.val (.bool false),AV.val (.int .i64 0),AV.val (.int .i64 0),AV.rows 9 [],AV.rows 3 []],Own.row gX 125 3 (q.aO.map ao.cells)],λ⟨k,v⟩=>k<=q.au.length⟩ (λ⟨k,v⟩=>q.au.length-k) (0,.slice none 0 0) U ?aD ?bh;case aD=>exact Nat.zero_le _
 rintro⟨k,v⟩ I a w aj U;have hk:k<=q.au.length:=aj;dsimp only at U;refine al λI a w U=>?_;refine cz (λab=>?_) λab=>?_
 .refine aA λI a w U=>?_;refine U.alloc rfl dI lq λb5 I a w U=>?_;refine al λI a w U=>?_;obtain⟨I,U⟩:=U.fb 4 5;refine U.dt 10 ?_;simp only[TD];refine ky ?_;refine .o (.c1 (uI _ (h5 _ (bK ab)))) ?_;refine .o (.bd lq (.k (.k (.t bf.nil)))) ?_;refine .o (.li [(ae q.au k).cells] rB (.u .nil)) ?_;refine .nil ?_;intro I a w U;refine U.ap 0 λCY a w U=>?_;rw[cA,<-ep ab] at U;refine aI λI a w U=>?_;have U:=U.drop 4;exact U.ag (k+1,CY) (ab)
 refine wp_exit<|bU<|bU<|eb<|ba<|wp_seq ?_;rw[List.take_of_length_le om] at U;refine aA λI a w U=>?_;try have YD:=U.cU 0 rfl
 refine aI λI a w U=>?_;exact U.cE (v,gX) [0,3] rfl (.cons (.s 2 dm rfl rfl (by first|rfl|assumption)) .nil) trivial rfl rfl
def Ov (q:Call) (h:uO q):Fn prog 137 [q.av] q.av:=(Ou q h).frozen λr c I a w _ U=>by
 obtain⟨I,U⟩:=U.fa 0 0 11;obtain⟨I,U⟩:=U.fa 1 0 12;exact⟨_,_,_,U⟩
def YE (q:Call) (n:Value) (key:Int):
 Fn prog 284 [q.wU n,AV.int key] (AV.int (cQ q key)):=by
 refine Fn.go 9 func284 ntmps284 (λW I a U=>?_);refine aX λI a w U=>?_;refine U.o (vM .tt (by first|exact cL rfl|exact cN|exact cO|exact cP)) λU=>?_;refine aV λI a w U=>?_;refine U.o (nj (an .tt aH)) λU=>?_;refine U.o (.cl (LJ q.au (rV key) _ (λv _=>Fn.val (Mm v key)))) λU=>?_;refine aW ?_;rfl
def cF.Ow {w:aM} (h:cF w) {i:Nat} (hi:i<2):(ae w.seen i).length<=6:=gU (h.pJ _ (bK (by rw[h.seen];exact hi)))
def Ox {w:aM} (h:cF w) (e:Ev):cF {w with aC:=gP w e}:=by
 unfold gP;split
 .have U:=zC w.aC e.word.toNat;exact⟨h.time,h.aF,h.site,Nat.le_trans U.length_le h.aC,λm hm=>h.words m (U.subset hm),h.seen,h.pJ,h.calls⟩
 exact h
def CZ {f:aM->Nat->aM} {n:Int} (hn:0<=n) (hf:∀x i,cF x->x.time<=96000->cF (f x i)/\(f x i).time<=x.time+n):∀(l:List Nat) {x:aM},cF x->x.time+n*(l.length:Nat)<=96000->cF (l.foldl f x)/\(l.foldl f x).time<=x.time+n*(l.length:Nat)
 |[],x,h,_=>⟨h,by simp⟩
 |i::r,x,h,ht=>by
  have h3:n*((r.length+1:Nat):Int)=n*(r.length:Nat)+n:=by rw[Int.natCast_add,Int.mul_add];simp
  have h4:0<=n*(r.length:Nat):=Int.mul_nonneg hn om;rw[List.length_cons] at ht⊢;have h1:=hf x i h om;have h2:=CZ hn hf r h1.1 om;rw[List.foldl_cons];exact⟨h2.1,by omega⟩
end Go.Proofs.YtldbakcpcfdlaaaGreat

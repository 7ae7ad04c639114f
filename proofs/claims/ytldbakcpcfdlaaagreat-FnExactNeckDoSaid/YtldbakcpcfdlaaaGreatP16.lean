/- Part 16: contracts of functions, plain facts. -/
import Derived.Test.YtldbakcpcfdlaaaGreatP12
set_option linter.all false
set_option maxRecDepth 100000
set_option maxHeartbeats 4000000
namespace Go.Proofs.YtldbakcpcfdlaaaGreat
open Go Go.RowKit Tryz
attribute [local irreducible] wpList Code.wp Ok
def qH (n:Int):
 Fn prog 139 [AV.int n] (AV.bool (de n)):=by
 refine Fn.go 5 func139 ntmps139 (λW I a U=>?_);refine aA λI a w U=>?_;refine U.o (.cl (im ..)) λU=>?_;refine aW ?_;rfl
def xe (s:cG):
 Fn prog 149 [s.av] (AV.bool (dB s)):=by
 refine Fn.go 11 func149 ntmps149 (λW I a U=>?_);refine aR λI a w U=>?_;refine U.o (.cl (im ..)) λU=>?_;refine aV λI a w U=>?_;refine U.q .T (.cl (qH ..)) λU=>?_;refine cK ?_;rfl
def z9 (n:Int):
 Fn prog 181 [AV.int n] (AV.int (cv n)):=by
 refine Fn.go 8 func181 ntmps181 (λW I a U=>?_);refine aA λI a w U=>?_;refine U.o (.c1 (qH ..)) λU=>?_;refine al λI a w U=>?_;refine cz (λab=>?_) λab=>?_
 .refine aW ?_;exact cj (by simp[cv,ab])
 refine aX λI a w U=>?_;refine U.o (A4 .tt .c (λ_=>by simp[de,aS] at ab;omega)) λU=>?_;refine aW ?_;exact cj (by simp[cv,ab])
def Aa (l:List ao):
 Fn prog 72 [bm l] (AV.bool (ck l)):=by
 refine Fn.go 27 func72 ntmps72 (λW I a U=>?_);refine bP λI a w U=>?_;refine St.lo (σ:=Nat×Int) (run 2 2 (5::(run 19 8 []))) ⟨λ⟨k,last⟩=>[(8,AV.int k),(3,AV.int last)],λ⟨k,last⟩=>[],λ⟨k,last⟩=>k<=l.length/\ck l=dL last (l.drop k)/\-1<=last/\last<=5⟩ (λ⟨k,last⟩=>l.length-k) (0,-1) U ?aD ?bh;case aD=>exact⟨by simp,rfl,by omega,by omega⟩
 rintro⟨k,last⟩ I a w aj U;obtain⟨hk,hd,hl1,pZ⟩:=aj;have hle:=U.dD (t:=0) rfl;refine al λI a w U=>?_;refine cz (λab=>?_) λab=>?_
 .refine aA λI a w U=>?_;refine U.alloc rfl cM fE λb5 I a w U=>?_;refine al λI a w U=>?_;obtain⟨I,U⟩:=U.fb 0 5;refine aR λI a w U=>?_;refine U.o (.cl (im ..)) λU=>?_;refine aR λI a w U=>?_;refine U.q .F (.cl (xe ..)) λU=>?_;refine ax λI a w U=>?_;refine cz (λah=>?_) λah=>?_
  .refine aW ?_;exact bT (by rw[hd,lh ab];simp only[dL];rcases ah with h|h<;>simp[h])
  refine bP λI a w U=>?_;have U:=U.drop 0;exact U.ag (k+1,(ae l k).key) (by(rw[hd,lh ab];simp[dL,ah,aS];simp[aS] at ah;omega))
 refine zt ?_;refine aW ?_;exact bT (by rw[hd,List.drop_eq_nil_of_le om];rfl)
def WU (l:List (az)) (p:(az)->Bool) (fv:AV) (hf:∀x:az,x∈l->lg prog fv [x.av] (AV.bool (p x))):
 Fn prog 144 [dW l,fv] (AV.int (dK p l)):=by
 refine Fn.go 19 func144 ntmps144 (λW I a U=>?_);have hle:=U.dD (t:=0) rfl;refine aU λI a w U=>?_;refine St.lo (σ:=Nat) (run 2 4 (run 11 8 [])) ⟨λk=>[(8,AV.int k)],λk=>[],λk=>k<=l.length/\∀i,i<k->p (ae l i)=false⟩ (λk=>l.length-k) 0 U ?aD ?bh;case aD=>exact⟨Nat.zero_le _,λi hi=>by omega⟩
 rintro k I a w aj U;obtain⟨hk,aT⟩:=aj;refine al λI a w U=>?_;refine cz (λab=>?_) λab=>?_
 .refine fm λI a w U=>?_;refine U.o (vQ (hf _ (bK ab)) .tt (an .tt aH)) λU=>?_;refine zt ?_;refine U.cd (λah=>?_) λah=>?_
  .refine cK ?_;exact cj (mQ ab aT ah).symm
  refine ax λI a w U=>?_;exact U.ag (k+1) (⟨ab,λi h1=>by rcases Nat.lt_succ_iff_lt_or_eq.1 h1 with h|h;exact aT i h;rw[h];exact ah⟩)
 refine zt ?_;refine aW ?_;exact cj (l9 om aT).symm
def WV (l:List (List ao)) (p:(List ao)->Bool) (fv:AV) (hf:∀x:List ao,x∈l->lg prog fv [bm x] (AV.bool (p x))):
 Fn prog 148 [lG l,fv] (AV.int (dK p l)):=by
 refine Fn.go 19 func148 ntmps148 (λW I a U=>?_);have hle:=U.dD (t:=0) rfl;refine aU λI a w U=>?_;refine St.lo (σ:=Nat) (run 2 4 (run 11 8 [])) ⟨λk=>[(8,AV.int k)],λk=>[],λk=>k<=l.length/\∀i,i<k->p (ae l i)=false⟩ (λk=>l.length-k) 0 U ?aD ?bh;case aD=>exact⟨Nat.zero_le _,λi hi=>by omega⟩
 rintro k I a w aj U;obtain⟨hk,aT⟩:=aj;refine al λI a w U=>?_;refine cz (λab=>?_) λab=>?_
 .refine fm λI a w U=>?_;refine U.o (vQ (hf _ (bK ab)) .tt (an .r aH)) λU=>?_;refine zt ?_;refine U.cd (λah=>?_) λah=>?_
  .refine cK ?_;exact cj (mQ ab aT ah).symm
  refine ax λI a w U=>?_;exact U.ag (k+1) (⟨ab,λi h1=>by rcases Nat.lt_succ_iff_lt_or_eq.1 h1 with h|h;exact aT i h;rw[h];exact ah⟩)
 refine zt ?_;refine aW ?_;exact cj (l9 om aT).symm
def WW (l:List (az)) (p:(az)->Bool) (fv:AV) (hf:∀x:az,x∈l->lg prog fv [x.av] (AV.bool (p x))):
 Fn prog 67 [dW l,fv] (AV.bool (hasB p l)):=by
 refine Fn.go 9 func67 ntmps67 (λW I a U=>?_);refine aV λI a w U=>?_;refine U.o (.cl (WU _ _ _ hf)) λU=>?_;refine cK ?_;rfl
def WX (l:List (List ao)) (p:(List ao)->Bool) (fv:AV) (hf:∀x:List ao,x∈l->lg prog fv [bm x] (AV.bool (p x))):
 Fn prog 70 [lG l,fv] (AV.bool (hasB p l)):=by
 refine Fn.go 9 func70 ntmps70 (λW I a U=>?_);refine aV λI a w U=>?_;refine U.o (.cl (WV _ _ _ hf)) λU=>?_;refine cK ?_;rfl
def WY (d:ao) (l:List aJ):
 Fn prog 224 [d.av,AV.ptr [cm l]] (AV.bool (missing l d)):=by
 refine Fn.go 8 func224 ntmps224 (λW I a U=>?_);refine aR λI a w U=>?_;refine U.o (.cl (qp ..)) λU=>?_;refine cK ?_;rfl
def WZ (l:List aJ) (ds:List ao):
 Fn prog 143 [cm l,bm ds] (AV.bool (wJ l ds)):=by
 refine Fn.go 9 func143 ntmps143 (λW I a U=>?_);refine zt ?_;refine U.o (vM .tt (by first|exact cL rfl|exact cN|exact cO|exact cP)) λU=>?_;refine aA λI a w U=>?_;refine U.o (nj (an .tt aH)) λU=>?_;refine U.o (.cl (Lr ds (missing l) _ (λd _=>Fn.val (WY d l)))) λU=>?_;refine cK ?_;rfl
def No (s:Server) (i:Nat):(eY s (ae s.ar i).key==0)=!rI s i:=by simp[rI,bne]
def GG (s:Server) (v:aJ):
 Fn prog 142 [s.av,v.av] (AV.bool (cv v.aw.site !=cv s.site)):=by
 refine Fn.go 13 func142 ntmps142 (λW I a U=>?_);refine aI λI a w U=>?_;refine U.dk ?_;refine ee ?_;refine .o (.c1 (z9 ..)) ?_;refine cy ?_;refine .o (.c1 (z9 ..)) ?_;refine cy ?_;refine .nil ?_;intro I a w U;refine zt ?_;refine U.rt ?_;rfl
def kh (d:ao):Bool:=dp d.key&&dB d.aw
def W1 (d:ao):ck [d]=kh d:=by simp[ck,dL,kh,dp]
def tx (key:Int) (n:Int):Bool:=n==key
def gJ (l:List Int) (key:Int):Bool:=hasB (tx key) l
def oG (c:Call):Bool:=(c.au.length:Int)==c.keys.length
def nQ (c:Call) (time:Int):Bool:=if c.end_=0 then eH c.aw else !(c.over||!aS c.end_ (c.bw+1) time||decide (0<(c.aO.length:Int)))&&((c.kind==1&&!eH c.aw)||(!(c.kind==1)&&oG c))
def Ab {l:List Int} {n:Int}:gJ l n=true↔n∈l:=by
 constructor
 .intro h;obtain⟨x,hx,he⟩:=FX h;simp[tx] at he;exact he▸hx
 exactλh=>BT h (by simp[tx])
def Np (n m:Nat):decide (0<(n:Int)+m)=!(decide (n=0)&&decide (m=0)):=by
 rw[Bool.eq_iff_iff];simp;omega
def gn (l:List Call) (k:Nat) (x:Int):Int:=(((l.take k).filter λd=>d.aB==x).length:Nat)
def GH (l:List Call):gn l 0=λ_=>0:=by funext x;simp[gn]
def sa {l:List Call} {k:Nat} (h:k<l.length) (x:Int):gn l (k+1) x=if(ae l k).aB=x then gn l k x+1 else gn l k x:=by
 unfold gn;rw[ep h,List.filter_append,List.length_append];by_cases hx:(ae l k).aB=x<;>simp[hx]
def W2 {l:List Call} {k:Nat} (h:k<l.length):(λy=>if y=(ae l k).aB then gn l k (ae l k).aB+1 else gn l k y)=gn l (k+1):=by
 funext y;rw[sa h];by_cases hy:y=(ae l k).aB
 .subst hy;simp
 rw[if_neg hy,if_neg λh=>hy h.symm]
def CI (l:List Call) (k:Nat) (x:Int):0<=gn l k x/\gn l k x<=k:=by
 unfold gn;have:=List.length_filter_le (λd:Call=>d.aB==x) (l.take k);have h2:(l.take k).length<=k:=by simp;omega
 omega
def aM.Fit (w:aM):Prop:=(∀m∈w.aC,db m.bj/\db m.to)/\∀d∈w.calls,db d.aB
def W3 {a b:ao} (h:ec a b=true):ec b a=false:=by
 obtain⟨k,⟨t,s⟩⟩:=a;obtain⟨k',⟨t',s'⟩⟩:=b;simp[ec,dy] at h⊢;omega
def Nq:∀{l:List aJ} {v:aJ},(∀x∈l,x.bD≠v.bD)->pj l v=fF l v
 |[],_,_=>rfl
 |x::r,v,h=>by
  have hx:=h x be;have ih:=Nq (l:=r) (v:=v) λy hy=>h y (by simp[hy]);unfold fF pj;cases h1:gx v x
  .cases h2:gx x v
   .exact absurd (BU h2 h1) hx
   simp[ih]
  rw[show gx x v=false from W3 h1];simp
def jE (out:List aJ) (v:aJ):List aJ:=if placeOf out v.bD<0 then fF out v else out
def W4 {out:List aJ} {v x:aJ} (h:x∈jE out v):x=v\/x∈out:=by
 unfold jE at h;split at h
 .exact mS.1 h
 exact Or.inr h
def W5 (out:List aJ) (v:aJ):(jE out v).length<=out.length+1:=by
 unfold jE;split
 .rw[Lv];exact Nat.le_refl _
 omega
def GI:∀{l out:List aJ} {x:aJ},x∈l.foldl jE out->x∈l\/x∈out
 |[],_,_,h=>Or.inr h
 |v::r,out,x,h=>by
  rcases GI (l:=r) h with h1|h1
  .exact Or.inl (by simp[h1])
  rcases W4 h1 with rfl|h2
  .exact Or.inl be
  exact Or.inr h2
def Nr:∀(l out:List aJ),(l.foldl jE out).length<=out.length+l.length
 |[],_=>by simp
 |v::r,out=>by
  have:=Nr r (jE out v);have h2:=W5 out v;simp at this⊢;omega
def W6 {l out:List aJ} {k:Nat} (h:k<l.length):(l.take (k+1)).foldl jE out=jE ((l.take k).foldl jE out) (ae l k):=by
 rw[ep h,List.foldl_append];rfl
def GJ:∀{l:List cG} {t:Int},0<=t->t<=9999->(∀s∈l,dB s=true)->0<=l.foldl (λt s=>if t<s.time then s.time else t) t/\l.foldl (λt s=>if t<s.time then s.time else t) t<=9999
 |[],t,h0,h1,_=>⟨h0,h1⟩
 |s::l,t,h0,h1,h=>by
  have U:=h s be;simp[dB,aS] at U;rw[List.foldl_cons];split
  .exact GJ om om λx hx=>h x (by simp[hx])
  exact GJ h0 h1 λx hx=>h x (by simp[hx])
def pF (s:Server) (key aB call:Int) (v:aJ):Bool:=(v.key==key)&&(v.aB==aB)&&(v.call==call)&&(cv v.aw.site==cv s.site)
def kV (s:Server) (key aB call:Int):Option aJ:=s.ar.find? (pF s key aB call)
def jn (l:List aJ) (vs:List aJ):List aJ:=vs.foldl jE l
def leaving (s:Server):List Nat:=(List.range s.aQ.length).filter λi=>(ae s.aQ i).fg==2
def W7 (l:List Int) (key:Int):
 Fn prog 321 [fM l,AV.int key] (AV.int (dK (tx key) l)):=by
 refine Fn.go 19 func321 ntmps321 (λW I a U=>?_);have hle:=U.dD (t:=0) rfl;refine aU λI a w U=>?_;refine St.lo (σ:=Nat) (run 2 4 (run 11 8 [])) ⟨λk=>[(8,AV.int k)],λk=>[],λk=>k<=l.length/\∀i,i<k->tx key (ae l i)=false⟩ (λk=>l.length-k) 0 U ?aD ?bh;case aD=>exact⟨Nat.zero_le _,λi hi=>by omega⟩
 rintro k I a w aj U;obtain⟨hk,aT⟩:=aj;refine al λI a w U=>?_;refine cz (λab=>?_) λab=>?_
 .refine et λI a w U=>?_;refine U.cd (λah=>?_) λah=>?_
  .rw[show(key==ae l k)=tx key (ae l k) from Bool.beq_comm] at ah;refine cK ?_;exact cj (mQ ab aT ah).symm
  rw[show(key==ae l k)=tx key (ae l k) from Bool.beq_comm] at ah;refine ax λI a w U=>?_;exact U.ag (k+1) (⟨by omega,λi h1=>by rcases Nat.lt_succ_iff_lt_or_eq.1 h1 with h|h;exact aT i h;rw[h];exact ah⟩)
 refine zt ?_;refine aW ?_;exact cj (l9 om aT).symm
def Ns (l:List Int) (key:Int):
 Fn prog 283 [fM l,AV.int key] (AV.bool (gJ l key)):=by
 refine Fn.go 9 func283 ntmps283 (λW I a U=>?_);refine aV λI a w U=>?_;refine U.o (.cl (W7 l key)) λU=>?_;refine cK ?_;rfl
def Nt (l:List Int) (key:Int):
 Fn prog 248 [fM l,AV.int key] (AV.bool (gJ l key)):=by
 refine Fn.go 18 func248 ntmps248 (λW I a U=>?_);have hle:=U.dD (t:=0) rfl;refine ax λI a w U=>?_;refine St.lo (σ:=Nat) (run 14 4 []) ⟨λk=>[(5,AV.int k)],λk=>[],λk=>k<=l.length/\∀i,i<k->tx key (ae l i)=false⟩ (λk=>l.length-k) 0 U ?aD ?bh;case aD=>exact⟨Nat.zero_le _,λi hi=>by omega⟩
 rintro k I a w aj U;obtain⟨hk,aT⟩:=aj;refine aU λI a w U=>?_;refine cz (λab=>?_) λab=>?_
 .refine gy λI a w U=>?_;refine U.cd (λah=>?_) λah=>?_
  .refine aW ?_;exact bT (BT (bK ab) ah).symm
  refine aI λI a w U=>?_;exact U.ag (k+1) (⟨by omega,λi h1=>by rcases Nat.lt_succ_iff_lt_or_eq.1 h1 with h|h;exact aT i h;rw[h];exact ah⟩)
 refine zt ?_;refine aW ?_;exact bT (by unfold gJ hasB;rw[l9 om aT];rfl)
def Nu (q:Call):
 Fn prog 228 [q.av] (AV.bool (oG q)):=by
 refine Fn.go 10 func228 ntmps228 (λW I a U=>?_);refine n4 λI a w U=>?_;refine U.rt ?_;rfl
def W8 {l out:List aJ} (h1:∀v∈l,v.aK.length<=6) (h2:∀v∈out,v.aK.length<=6):∀v∈l.foldl jE out,v.aK.length<=6:=λv hv=>(GI hv).elim (h1 v) (h2 v)
def iV (m:az):Prop:=m.aK.length<=1048576/\rM m.ar/\rM m.waits/\m.aE.length<=1048576
def Ac (m:az) (h:iV m):
 Fn prog 221 [m.av] (m.av):=by
 refine Fn.go 20 func221 ntmps221 (λW I a U=>?_);obtain⟨h1,⟨h2,h3⟩,⟨h4,h5⟩,h6⟩:=h;refine sr<|U.box rfl .tt λb1 I a w U=>U.alloc rfl cH dN λb2 I a w U=>?_;refine zt ?_;refine U.dt 13 ?_;simp only[TD];refine cy ?_;refine .o (.cl (rK m.aK h1)) ?_;refine cy ?_;refine .o (bx (gR.fn (uJ m.ar h2 h3)) (an .r aH)) ?_;refine cy ?_;refine .o (bx (gR.fn (uJ m.waits h4 h5)) (an .r aH)) ?_;refine cy ?_;refine .o (.cl (rK m.aE h6)) ?_;refine br ?_;refine .nil ?_;intro I a w U;refine iG λI a w U=>?_;refine U.ret rfl (.cons (.sx 1) aZ.nil) ?_;rfl
def W9 (l:List az) (h:l.length<=1048576) (hd:∀m∈l,iV m):
 gR prog 135 [dW l] 108 15 (l.map az.cells):=by
 refine gR.intro 19 func135 rfl ntmps135 rfl aq (λW I a U=>?_);have U:=U.en (sz:=15) 108;refine bP λI a w U=>?_;refine St.lo (σ:=Nat×Value) (3::(5::(run 10 8 []))) ⟨λ⟨k,v⟩=>[(8,AV.int k),(3,AV.val v)],λ⟨k,v⟩=>[Own.row v 108 15 ((l.take k).map az.cells)],λ⟨k,v⟩=>k<=l.length⟩ (λ⟨k,v⟩=>l.length-k) (0,.slice none 0 0) U ?aD ?bh;case aD=>exact Nat.zero_le _
 rintro⟨k,v⟩ I a w aj U;have hk:k<=l.length:=aj;dsimp only at U;refine al λI a w U=>?_;refine cz (λab=>?_) λab=>?_
 .refine aA λI a w U=>?_;refine U.alloc rfl cH dN λb5 I a w U=>?_;refine al λI a w U=>?_;obtain⟨I,U⟩:=U.fb 1 5;refine aA λI a w U=>?_;refine U.o (.c1 (Ac (ae l k) (hd _ (bK ab)))) λU=>?_;refine U.o (.li [(ae l k).cells] gj (.u .nil)) λU=>?_;refine U.ap 0 λrL a w U=>?_;rw[cA,<-ep ab] at U;refine aI λI a w U=>?_;have U:=U.drop 1;exact U.ag (k+1,rL) (ab)
 refine zt ?_;refine ax λI a w U=>?_;exact U.rq (r:=2) 0 rfl rfl rfl (by rw[List.take_of_length_le om])
def GK {a:Bool} {key:Int} (h:(a&&dp key)=true):0<=gY key/\gY key<3:=ph (by rw[Bool.and_eq_true] at h;exact h.2)
def Xa {s:Server} (h:s.ar.length<80->∀i,i<s.waits.length->lz s (ae s.waits i)=false):fo s<0:=by
 unfold fo;split
 .rename_i od;rw[l9 (k:=s.waits.length) (Nat.le_refl _) (h od)];omega
 omega
def CJ:∀{l:List ao} {d x:ao},x∈jS l d↔x=d\/x∈l
 |[],d,x=>by simp[jS]
 |e::r,d,x=>by
  unfold jS;split
  .simp
  rw[List.mem_cons,CJ,List.mem_cons];constructor
  .rintro(h|h|h)<;>simp[h]
  rintro(h|h|h)<;>simp[h]
def Nv:∀{l:List ao} {d:ao},(l.Pairwise λa b=>ec a b=true)->(∀x∈l,x≠d)->(jS l d).Pairwise λa b=>ec a b=true
 |[],d,_,_=>by simp[jS]
 |e::r,d,h,hn=>by
  unfold jS;rw[List.pairwise_cons] at h;split
  .rename_i hl;rw[List.pairwise_cons];refine⟨λx hx=>?_,List.pairwise_cons.2 h⟩;rcases List.mem_cons.1 hx with rfl|hx
   .exact hl
   exact zl hl (h.1 x hx)
  rename_i hl;rw[List.pairwise_cons];refine⟨λx hx=>?_,Nv h.2 λx hx=>hn x (by simp[hx])⟩;rcases CJ.1 hx with rfl|hx
  .cases hd:ec e x with
   |true=>rfl
   |false=>exact absurd (BU hd (by simpa using hl)) (hn e be)
  exact h.1 x hx
def Ad (s:Server):(g9 s).site=s.site/\(g9 s).up=s.up/\(g9 s).aQ=s.aQ/\(g9 s).aE=s.aE:=by
 obtain⟨a,b,d,e,_⟩:=UI s;exact⟨a,b,d,e⟩
def vb {x:ct}:pg x=true↔0<=x.bX/\x.bX<=9999/\0<=x.fg/\x.fg<=2/\(x.fg≠0->x.bX≠0):=by
 unfold pg aS;simp only[Bool.and_eq_true,decide_eq_true_eq,Bool.not_eq_true',Bool.and_eq_false_iff,bne_eq_false_iff_eq,beq_eq_false_iff_ne];constructor
 .rintro⟨⟨⟨a,b⟩,d,e⟩,f⟩;exact⟨a,b,d,e,λh=>f.resolve_left h⟩
 rintro⟨a,b,d,e,f⟩;exact⟨⟨⟨a,b⟩,d,e⟩,by by_cases h:x.fg=0;exact .inl h;exact .inr (f h)⟩
def CK {s:Server} (h:bE s) {i:Nat} (hi:i<3):pg (ae s.aQ i)=true:=h.cX _ (bK (by rw[h.aQ];exact hi))
def sd {m:az} (h1:1<=m.kind/\m.kind<=10) (h2:l5 m.bj=true) (h3:l5 m.to=true) (h4:0<=m.call/\m.call<=99) (h5:dp m.key=true) (h6:kr m.aw=true) (h7:0<=m.val/\m.val<=9999) (h8:ck m.aK=true) (h9:0<=m.slot/\m.slot<=2)
 (GL:0<=m.bX/\m.bX<=9999) (DZ:cD m.ar=true) (GM:cD m.waits=true) (Xb:fU m.aE=true):bY m=true:=by
 simp only[bY,Bool.and_eq_true,aS,decide_eq_true_eq];exact⟨⟨⟨⟨⟨⟨⟨⟨⟨⟨⟨⟨h1,h2⟩,h3⟩,h4⟩,h5⟩,h6⟩,h7⟩,h8⟩,h9⟩,GL⟩,DZ⟩,GM⟩,Xb⟩
def oH {n:Int} (h:de n=true):l5 n=true:=by unfold l5;rw[h];rfl
def mu {n:Int}:de n=true↔0<=n/\n<=3:=by simp[de,aS]
def oI:cD []=true:=rfl
def ve:fU []=true:=rfl
def Xc {v:aJ} (h:fi v=true):cD [v]=true:=uK.2 ⟨by simp,by simpa using h,by simp[VS]⟩
def Nw {o:Option aJ} (h:∀v,o=some v->fi v=true):cD o.toList=true:=by
 cases o with
 |none=>rfl
 |some v=>exact Xc (h v rfl)
def Ae {s:cG} (h:dB s=true):kr s=true:=by unfold kr;rw[h];simp
def GN:dp 0=true:=rfl
def Af:kr ⟨0,0⟩=true:=rfl
def qI:ck []=true:=rfl
def Xd {s:Server} {key aB call:Int} {v:aJ} (h:kV s key aB call=some v):v∈s.ar/\v.key=key/\v.aB=aB/\v.call=call/\cv v.aw.site=cv s.site:=by
 have h1:=List.mem_of_find?_eq_some h;have h2:=List.find?_some h;simp only[pF,Bool.and_eq_true,beq_iff_eq] at h2;exact⟨h1,h2.1.1.1,h2.1.1.2,h2.1.2,h2.2⟩
def Xe {s:Server} (h:bE s) {i:Nat} (hi:i<3):0<=(ae s.aQ i).bX/\(ae s.aQ i).bX<=9999:=by
 have:=vb.1 (CK h hi);exact⟨this.1,this.2.1⟩
def GO {n:Int} (h:de n=true):cv n=n/2/\0<=cv n/\cv n<=1:=by
 have h1:=mu.1 h;unfold cv;rw[h,if_pos rfl];omega
def Xf {s:Server} (h:bE s) {i:Nat} (hi:i∈leaving s):i<3:=by
 have:=List.mem_range.1 (rN hi);rw[h.aQ] at this;exact this
def Xg {l:List Call} {i:Nat} {x:Call} (h:i<l.length) (hx:x.aB=(ae l i).aB) (k:Nat) (y:Int):gn (l.set i x) k y=gn l k y:=by
 have e:((l.set i x).map Call.aB)=l.map Call.aB:=by
  rw[List.map_set];apply List.ext_getElem
  .simp
  intro n Xh vI;by_cases e:i=n
  .subst e;rw[List.getElem_set_self,List.getElem_map,hx];simp[ae,h]
  rw[List.getElem_set_ne e]
 have e2:∀l:List Call,gn l k y=((((l.map Call.aB).take k).filter λd=>d==y).length:Nat):=λl=>by
  unfold gn;rw[<-List.map_take,List.filter_map,List.length_map];rfl
 rw[e2,e2,e]
def xf (s:Server):(g9 s).site=s.site:=(Ad s).1
def Xi (s:Server) (d:ao):
 Fn prog 348 [s.av,d.av] (AV.bool (g8 s d)):=by
 refine Fn.go 9 func348 ntmps348 (λW I a U=>?_);refine bV λI a w U=>?_;refine U.o (nj (an .tt aH)) λU=>?_;refine U.o (.cl (Ls s.waits (pk d) _ (λv _=>Fn.val (LF v d)))) λU=>?_;refine aW ?_;exact bT (by unfold g8;rw[<-zj];simp)
def se (s:Server) (m x:az) (h:iV x):
 Fn prog 347 [s.av,m.av,x.av] (dW [{x with bj:=s.site,to:=m.bj}]):=by
 refine Fn.go 16 func347 ntmps347 (λW I a U=>?_);refine aA λI a w U=>?_;refine U.box rfl .tt λb5 I a w U=>?_;refine al λI a w U=>?_;refine U.fV (rp 5 [([0],some (0,[])),([],none),([0],some (0,[]))]) aq aq rfl ?_;refine fQ ?_;refine aP.gZ (x:=AV.any) 0 (λF W0 I0 I γ a w Q U kk=>U.s1 0 λU=>kk _ _ _ U) ?_;refine br ?_;refine aP.gZ (x:=AV.any) 0 (λF W0 I0 I γ a w Q U kk=>U.s1 0 λU=>kk _ _ _ U) ?_;refine .nil ?_;intro I a w U;refine aX λI a w U=>?_;refine U.o (.c1 (Ac {x with bj:=s.site,to:=m.bj} h)) λU=>?_;refine U.o (.li [({x with bj:=s.site,to:=m.bj}:az).cells] gj (.u .nil)) λU=>?_;refine aW ?_;rfl
def Nx (s:Server) (v:aJ):(((ae s.aQ (gY v.key).toNat).fg !=1)||!BX s v)=!lz s v:=by
 unfold lz eY;simp only[bne];cases((ae s.aQ (gY v.key).toNat).fg==1)<;>simp
def Xj {u u2:Server} {g2:Bool} {i:Nat} (hf:g2=false->u=u2/\i<=u.waits.length/\(u.ar.length<80->∀j,j<i->lz u (ae u.waits j)=false))
 (ht:g2=true->0<=fo u/\u2=mT u (fo u).toNat):2*u2.waits.length+g2.toNat<2*u.waits.length+true.toNat:=by
 cases g2 with
 |true=>
  obtain⟨h1,rfl⟩:=ht rfl
  have:=(zn h1).1
  rw[FY this];simp;omega
 |false=>
  obtain⟨rfl,h1,h2⟩:=hf rfl
  simp
def Xk {l:List aJ} {v:aJ} (hc:cD l=true) (hv:fi v=true) (hl:l.length<80):cD (jE l v)=true:=by
 unfold jE;split
 .rename_i hp;exact B0 hc hv hp hl
 exact hc
def CL {l vs:List aJ} {k:Nat} (h:k<vs.length):jn l (vs.take (k+1))=jE (jn l (vs.take k)) (ae vs k):=W6 h
def GP (l vs:List aJ) (k:Nat):(jn l (vs.take k)).length<=l.length+k:=by
 have h1:=Nr (vs.take k) l;have h2:(vs.take k).length<=k:=by simp;omega
 unfold jn;omega
def Ny:∀{vs l:List aJ} {x:aJ},x∈l->x∈vs.foldl jE l
 |[],l,x,h=>h
 |v::vs,l,x,h=>by
  refine Ny (vs:=vs) ?_;unfold jE;split
  .exact mS.2 (.inr h)
  exact h
def Nz {l vs:List aJ} {k:Nat} (hv:VS vs) (hk:k<vs.length) (hp:placeOf l (ae vs k).bD<0):fF (jn l (vs.take k)) (ae vs k)=jn l (vs.take (k+1)):=by
 rw[CL hk,jE,if_pos];refine BW λx hx=>?_;rcases GI hx with h|h
 .obtain⟨i,hi,rfl⟩:=iq h;have iD:i<k:=by simp at hi;omega
  have e:ae (vs.take k) i=ae vs i:=by unfold ae;simp[List.getD_eq_getElem?_getD,List.getElem?_take,iD]
  rw[e];exact Lz hv om hk om
 exact qv hp x h
def NA {l vs:List aJ} {k:Nat} (hk:k<vs.length) (hp:¬placeOf l (ae vs k).bD<0):jn l (vs.take k)=jn l (vs.take (k+1)):=by
 rw[CL hk,jE,if_neg];intro hn;obtain⟨x,hx,e⟩:=F8.1 (show 0<=placeOf l (ae vs k).bD by omega);exact qv hn x (Ny hx) e
def Xl {l vs:List aJ} (hl:∀v∈l,v.aK.length<=6) (hv:∀v∈vs,v.aK.length<=6) (k:Nat):∀v∈jn l (vs.take k),v.aK.length<=6:=
 W8 (λv h=>hv v (List.mem_of_mem_take h)) hl
def NB {s:Server} (h:¬s.ar.length<80):fo s<0:=by unfold fo;rw[if_neg h];decide
def NC {l vs:List aJ} (hl:cD l=true) (hv:cD vs=true) (hn:l.length+vs.length<=80):∀k,k<=vs.length->cD (jn l (vs.take k))=true
 |0,_=>by simpa[jn] using hl
 |k+1,hk=>by
  have h1:=NC hl hv hn k om;have h2:=GP l vs k;rw[CL om];exact Xk h1 (g7 hv _ (bK om)) om
def CM (s:Server):(!gN s||!s.up)=!(gN s&&s.up):=by simp
def vf (k t c:Int) (st:cG) (v:Int) (sl e:Int):iV ⟨k,0,0,c,t,st,v,false,[],sl,e,[],[],[]⟩:=⟨Nat.zero_le _,⟨Nat.zero_le _,λ_ h=>by cases h⟩,⟨Nat.zero_le _,λ_ h=>by cases h⟩,Nat.zero_le _⟩
def ND {m:az} (h1:m.aK=[]) (h2:m.ar=[]) (h3:m.waits=[]) (h4:m.aE=[]):iV m:=by
 unfold iV;rw[h1,h2,h3,h4];simp[rM]
def Xm (x:ct):
 Fn prog 300 [x.av] (x.av):=by
 refine Fn.go 11 func300 ntmps300 (λW I a U=>?_);refine aX λI a w U=>?_;refine U.alloc rfl dP kD λb2 I a w U=>nn<|sr<|U.alloc rfl dP kD λb3 I a w U=>?_;refine n4 λI a w U=>?_;refine U.ret rfl (.cons (.sx 0) aZ.nil) ?_;rfl
def Xn (k:Nat) (l:List (ct)) (hb:(aN jy k l).2<=1152921504606846976):
 Fn prog 214 [l4 (aN jy k l).1,AV.int (k:Nat)] (AV.int ((aN jy k l).2:Nat)):=by
 refine Fn.go 31 func214 ntmps214 (λW I a U=>?_);have hl:k+l.length<=(aN jy k l).2:=lu (f:=jy) (c:=λ_=>2) (λ_ _=>rfl) (λ_=>by decide);have dJ:(aN jy k l).1.length=l.length:=fJ;refine ax λI a w U=>?_;refine St.lo (σ:=Nat) (1::(run 26 4 [])) ⟨λi=>[(5,AV.int i),(1,AV.int ((aN jy k (l.take i)).2:Nat))],λi=>[],λi=>i<=l.length⟩ (λi=>l.length-i) 0 U ?aD ?bh;case aD=>exact Nat.zero_le _
 rintro i I a w aj U;have kU:i<=l.length:=aj;dsimp only at U;refine aU λI a w U=>?_;refine U.cd (λab=>?_) λab=>?_
 .simp only[B,fJ] at ab;refine wp_skip<|ba<|wp_seq<|wp_block<|wp_seq<|wp_seq ?_;obtain⟨t,hx⟩:=get_some ab;generalize cV:(aN jy k (l.take i)).2=kk at U;obtain⟨fy,fk⟩:=kb (f:=jy) (c:=λ_=>2) (λ_ _=>rfl) hx cV;have he:=rG hx cV;refine fW λI a w U=>?_;refine U.cd (λah=>?_) λah=>?_
  .exfalso;rw[he] at ah;first|(simp only[B,jy,not_true_eq_false] at ah;done)|(simp only[B,jy] at ah;omega)|(simp[jy,dU] at ah)
   skip
  refine aA λI a w U=>?_;rw[show((kk:Nat):Int)+1=((kk+1:Nat):Int) from rfl] at U;refine et λI a w U=>?_;refine U.cd (λai=>?_) λai=>?_
  .exfalso;rw[he] at ai;first|(simp only[B,jy,not_true_eq_false] at ai;done)|(simp only[B,jy] at ai;omega)|(simp[jy,dU] at ai)
   skip
  refine aA λI a w U=>?_;rw[show((kk+1:Nat):Int)+1=((kk+2:Nat):Int) from rfl] at U;refine aU λI a w U=>?_;refine U.again (i+1) ?bM ?bN bF ?bO (by repeat(first|exact Env.le_rfl|refine Env.dj rfl ?_));case bM=>omega
  case bN=>show i+1<=_;omega
  case bO=>exact(Env.bt rfl bF (Env.bt rfl (by exact congrArg AV.int (by rw[fy];(try rfl))) Env.le_nil))
 simp only[B,fJ] at ab;refine zt ?_;refine cK ?_;rw[List.take_of_length_le om];rfl
def Xo (k:Nat) (l:List (Int)) (hb:(aN kJ k l).2<=1152921504606846976):
 Fn prog 215 [fM (aN kJ k l).1,AV.int (k:Nat)] (AV.int ((aN kJ k l).2:Nat)):=by
 refine Fn.go 21 func215 ntmps215 (λW I a U=>?_);have hl:k+l.length<=(aN kJ k l).2:=lu (f:=kJ) (c:=λ_=>1) (λ_ _=>rfl) (λ_=>by decide);have dJ:(aN kJ k l).1.length=l.length:=fJ;refine ax λI a w U=>?_;refine St.lo (σ:=Nat) (1::(run 16 4 [])) ⟨λi=>[(5,AV.int i),(1,AV.int ((aN kJ k (l.take i)).2:Nat))],λi=>[],λi=>i<=l.length⟩ (λi=>l.length-i) 0 U ?aD ?bh;case aD=>exact Nat.zero_le _
 rintro i I a w aj U;have kU:i<=l.length:=aj;dsimp only at U;refine aU λI a w U=>?_;refine U.cd (λab=>?_) λab=>?_
 .simp only[B,fJ] at ab;refine wp_skip<|ba<|wp_seq<|wp_block<|wp_seq<|wp_seq ?_;obtain⟨t,hx⟩:=get_some ab;generalize cV:(aN kJ k (l.take i)).2=kk at U;obtain⟨fy,fk⟩:=kb (f:=kJ) (c:=λ_=>1) (λ_ _=>rfl) hx cV;have he:=rG hx cV;refine gy λI a w U=>?_;refine U.cd (λah=>?_) λah=>?_
  .exfalso;rw[he] at ah;first|(simp only[B,kJ,not_true_eq_false] at ah;done)|(simp only[B,kJ] at ah;omega)|(simp[kJ,dU] at ah)
   skip
  refine aA λI a w U=>?_;rw[show((kk:Nat):Int)+1=((kk+1:Nat):Int) from rfl] at U;refine aU λI a w U=>?_;refine U.again (i+1) ?bM ?bN bF ?bO (by repeat(first|exact Env.le_rfl|refine Env.dj rfl ?_));case bM=>omega
  case bN=>show i+1<=_;omega
  case bO=>exact(Env.bt rfl bF (Env.bt rfl (by exact congrArg AV.int (by rw[fy];(try rfl))) Env.le_nil))
 simp only[B,fJ] at ab;refine zt ?_;refine cK ?_;rw[List.take_of_length_le om];rfl
def NF {x:aM} (h:x.Deep):x.Fit:=⟨λm hm=>⟨(h.2.2.1 m hm).2.1,(h.2.2.1 m hm).2.2.1⟩,λq hq=>(h.2.2.2.1 q hq).1⟩
def Xp (x:ct):
 Fn prog 303 [x.av,x.av] (AV.bool true):=by
 refine Fn.go 15 func303 ntmps303 (λW I a U=>?_);refine et λI a w U=>?_;refine U.cd (λab=>?_) λab=>?_
 .exfalso;simp at ab;skip
 refine bP λI a w U=>?_;refine U.cd (λah=>?_) λah=>?_
 .exfalso;simp at ah;skip
 refine aW ?_;rfl
def Xq (l:List (ct)):
 Fn prog 268 [l4 l,l4 l] (AV.bool true):=by
 refine Fn.go 27 func268 ntmps268 (λW I a U=>?_);have hle:=U.dD (t:=0) rfl;refine gy λI a w U=>?_;refine U.cd (λab=>?_) λab=>?_
 .exfalso;simp at ab;skip
 refine al λI a w U=>?_;refine St.lo (σ:=Nat) (run 2 4 (run 16 11 [])) ⟨λk=>[(5,AV.int k)],λk=>[],λk=>k<=l.length⟩ (λk=>l.length-k) 0 U ?aD ?bh;case aD=>exact Nat.zero_le _
 rintro k I a w aj U;have hk:k<=l.length:=aj;refine aU λI a w U=>?_;refine cz (λah=>?_) λah=>?_
 .refine zt ?_;refine U.dk ?_;refine kz ?_;refine .o (.c2 (Xp ..)) ?_;refine br ?_;refine .nil ?_;intro I a w U;refine ba ?_;refine U.cd (λai=>?_) λai=>?_
  .exfalso;simp at ai;skip
  refine aI λI a w U=>?_;exact U.ag (k+1) (ah)
 refine zt ?_;refine aW ?_;rfl
def Xr {H:Type} {enc:TypeId×Value->H} {W:World}:ly enc prog W ct.cells ct.Deep 272:=λn cs x h=>by
 obtain⟨xs,m,_,_,hl,hx,hf⟩:=DataW.trod_struct (show prog.underlying 272=some (.struct (prog.fieldsOf 272)) by kernel_rfl) h;rw[show prog.cellsOf 272=2 by kernel_rfl] at hl;obtain⟨y0,a0,b0⟩:=part (ft:=3) (off:=0) (s:=1) (i:=0) (eP (t:=3) aq) hx hf aq aq;obtain⟨y1,a1,b1⟩:=part (ft:=3) (off:=1) (s:=1) (i:=1) (eP (t:=3) aq) hx hf aq aq;exact⟨⟨y0,y1⟩,c5 a0 (c5 a1 (qn hl)),⟨b0,b1⟩⟩
def IJ {H:Type} {enc:TypeId×Value->H} {W:World}:ly enc prog W Ev.cells Ev.Deep 76:=λn cs x h=>by
 obtain⟨xs,m,_,_,hl,hx,hf⟩:=DataW.trod_struct (show prog.underlying 76=some (.struct (prog.fieldsOf 76)) by kernel_rfl) h;rw[show prog.cellsOf 76=11 by kernel_rfl] at hl;obtain⟨y0,a0,b0⟩:=part (ft:=3) (off:=0) (s:=1) (i:=0) (eP (t:=3) aq) hx hf aq aq;obtain⟨y1,a1,b1⟩:=part (ft:=3) (off:=1) (s:=1) (i:=1) (eP (t:=3) aq) hx hf aq aq;obtain⟨y2,a2,b2⟩:=part (ft:=3) (off:=2) (s:=1) (i:=2) (eP (t:=3) aq) hx hf aq aq;obtain⟨y3,a3,b3⟩:=part (ft:=3) (off:=3) (s:=1) (i:=3) (eP (t:=3) aq) hx hf aq aq;obtain⟨y4,a4,b4⟩:=part (ft:=3) (off:=4) (s:=1) (i:=4) (eP (t:=3) aq) hx hf aq aq;obtain⟨y5,a5,b5⟩:=part (ft:=3) (off:=5) (s:=1) (i:=5) (eP (t:=3) aq) hx hf aq aq;obtain⟨y6,a6,b6⟩:=part (ft:=3) (off:=6) (s:=1) (i:=6) (eP (t:=3) aq) hx hf aq aq;obtain⟨y7,a7,b7⟩:=part (ft:=3) (off:=7) (s:=1) (i:=7) (eP (t:=3) aq) hx hf aq aq;obtain⟨y8,a8,b8⟩:=part (ft:=3) (off:=8) (s:=1) (i:=8) (eP (t:=3) aq) hx hf aq aq;obtain⟨y9,a9,b9⟩:=part (ft:=3) (off:=9) (s:=1) (i:=9) (eP (t:=3) aq) hx hf aq aq;obtain⟨z6,nD,jD⟩:=part (ft:=3) (off:=10) (s:=1) (i:=10) (eP (t:=3) aq) hx hf aq aq;exact⟨⟨y0,y1,y2,y3,y4,y5,y6,y7,y8,y9,z6⟩,c5 a0 (c5 a1 (c5 a2 (c5 a3 (c5 a4 (c5 a5 (c5 a6 (c5 a7 (c5 a8 (c5 a9 (c5 nD (qn hl))))))))))),⟨b0,b1,b2,b3,b4,b5,b6,b7,b8,b9,jD⟩⟩
def Xs (v:Value) (l:List (List AV)) (x:List AV) (i:Nat) (hi:i<=l.length) (hl:l.length<=1048576) (dJ:∀r∈l,r.length=9) (hx:x.length=9):
 er prog 353 [AV.val v,AV.int i,AV.rows 9 [x]] [Own.row v 56 9 l] [] (AV.rows 9 (l.take i++x::l.drop i)):=by
 refine er.intro 95 func353 rfl ntmps353 rfl aq (λW I a U=>?_);obtain⟨q,cap,rfl,lW⟩:=U.yM 0 rfl;refine aV λI a w U=>?_;refine U.o (EG eD dI .tt .tt ⟨by omega,by omega⟩ lW) λU=>?_;refine aX λI a w U=>?_;refine U.o (yh eD .tt) λU=>?_;rw[show(([x]:List (List AV)).length:Int)=1 from rfl] at U;refine aI λI a w U=>?_;refine U.cd (λab=>?_) λab=>?_
 .exfalso;simp at ab;skip
 refine gy λI a w U=>?_;refine cz (λah=>?_) λah=>?_
 .refine aA λI a w U=>?_;refine U.append 0 rfl eD dI rfl .tt .tt rfl (by simp only[List.length_singleton];omega) λuH a w U=>?_;obtain⟨I,U⟩:=U.fr 0 25;have U:=U.drop 0;refine al λI a w U=>?_;refine U.jO rfl (.cons .x .nil) rfl ?_;exact congrArg (AV.rows 9) (by rw[show i=l.length by omega];simp)
 refine aR λI a w U=>?_;refine U.o (EI eD .tt) λU=>?_;refine al λI a w U=>?_;refine cz (λai=>?_) λai=>?_
 .refine zt ?_;have bH:l≠[]:=by intro e;rw[e] at hi ah;simp at hi ah;omega
  obtain⟨b,nc,he,nd,ng,l8,U⟩:=U.rk 0 rfl bH;simp only[Value.slice.injEq] at he;obtain⟨rfl,_,rfl⟩:=he;have hA:(l.take i).flatten.length=i*9:=by rw[fL λr hr=>dJ r (List.mem_of_mem_take hr),List.length_take,Nat.min_eq_left hi]
  have hB:(l.drop i).flatten.length=(l.length-i)*9:=by rw[fL λr hr=>dJ r (List.mem_of_mem_drop hr),List.length_drop]
  rw[show l.flatten=(l.take i).flatten++(l.drop i).flatten by rw[<-List.flatten_append,List.take_append_drop],List.map_append] at U;have fX:([x]:List (List AV)).flatten.length=9:=by simpa using hx
  have hlen:(l.take i++x::l.drop i).length=l.length+1:=by simp;omega
  have mf:∀r∈l.take i++x::l.drop i,r.length=9:=λr hr=>(List.mem_append.1 hr).elim (λh=>dJ r (List.mem_of_mem_take h)) λh=>(List.mem_cons.1 h).elim (λe=>e▸hx) λh=>dJ r (List.mem_of_mem_drop h);have pn:(l.take i++x::l.drop i).flatten.map some=(l.take i).flatten.map some++([x]:List (List AV)).flatten.map some++(l.drop i).flatten.map some:=by simp
  refine aA λI a w U=>?_;refine U.o (rm (hi:=i) eD dI .tt .tt rfl om om) λU=>?_;refine bV λI a w U=>?_;refine U.EJ (je:=l.length+1-i) (xs:=(l.take i).flatten) 0 eD sW dI rfl bA .tt .tt om om rfl (by rw[List.drop_zero,List.append_assoc];exact jP _ (List.length_map _)) hA om om om rfl λ{gb zq a w} uc we U=>?_;refine aV λI a w U=>?_;refine U.o (jv (lo:=i) eD dI .tt .tt rfl om om) λU=>?_;refine U.m λU=>?_;refine U.wb 1 eD dI .tt .tt rfl be (by simp only[List.length_singleton];omega) (by simp only[List.length_singleton,List.length_append,List.length_map,List.length_replicate,hA];omega) rfl λU=>?_;refine zt ?_;refine U.dt 8 ?_;simp only[TD];refine ef ?_;refine .o (jv (lo:=i+1) eD dI .tt .tt om om om) ?_;refine cy ?_;refine .o (jv (lo:=i) eD dI .tt .tt rfl om om) ?_;refine .nil ?_;intro I a w U;refine U.wc (xs:=(l.drop i).flatten) 1 0 eD dI .tt .tt rfl rfl (by rw[List.append_assoc,uw _ (by simp only[List.length_map,hA];omega)];exact jP _ (List.length_map _)) (by rw[hB,Nat.min_eq_left om]) (by rw[kx (by simp only[List.length_map,List.length_append,List.length_replicate,fX,hA];omega)];simp only[List.length_append,List.length_map,List.length_replicate,hA,hB];omega) rfl λU=>?_;rw[ES (by simp only[List.length_map,hA];omega) (by simp only[List.length_map,fX];omega) (by simp only[List.length_map,List.length_replicate,fX,hB];omega)] at U;have U:=U.rl (l:=l.take i++x::l.drop i) (cap:=zq) 1 rfl (by simp only[List.length_append,List.length_map,List.length_drop,List.length_replicate,hA,hB,fX];omega) mf om om om (by rw[pn,hlen];exact jP _ (by simp only[List.length_append,List.length_map,hA,hB,fX];omega));rw[show i+(l.length+1-i)=(l.take i++x::l.drop i).length by omega] at U;obtain⟨I,U⟩:=U.fr 1 9;have U:=U.drop 0;refine ax λI a w U=>?_;exact U.jO rfl (.cons (by first|exact .t rfl|exact .nil rfl) .nil) rfl rfl
 refine zt ?_;have bH:l≠[]:=by intro e;rw[e] at hi ah;simp at hi ah;omega
 obtain⟨b,nc,he,nd,ng,l8,U⟩:=U.rk 0 rfl bH;simp only[Value.slice.injEq] at he;obtain⟨rfl,_,rfl⟩:=he;have hA:(l.take i).flatten.length=i*9:=by rw[fL λr hr=>dJ r (List.mem_of_mem_take hr),List.length_take,Nat.min_eq_left hi]
 have hB:(l.drop i).flatten.length=(l.length-i)*9:=by rw[fL λr hr=>dJ r (List.mem_of_mem_drop hr),List.length_drop]
 rw[show l.flatten=(l.take i).flatten++(l.drop i).flatten by rw[<-List.flatten_append,List.take_append_drop],List.map_append] at U;have fX:([x]:List (List AV)).flatten.length=9:=by simpa using hx
 have hlen:(l.take i++x::l.drop i).length=l.length+1:=by simp;omega
 have mf:∀r∈l.take i++x::l.drop i,r.length=9:=λr hr=>(List.mem_append.1 hr).elim (λh=>dJ r (List.mem_of_mem_take h)) λh=>(List.mem_cons.1 h).elim (λe=>e▸hx) λh=>dJ r (List.mem_of_mem_drop h);have pn:(l.take i++x::l.drop i).flatten.map some=(l.take i).flatten.map some++([x]:List (List AV)).flatten.map some++(l.drop i).flatten.map some:=by simp
 refine aR λI a w U=>?_;refine U.o (rm (hi:=l.length+1) eD dI .tt .tt om om om) λU=>?_;refine df λI a w U=>?_;refine U.o (jv (lo:=i+1) eD dI .tt .tt om om om) λU=>?_;refine U.overlaps (tR:=4) 0 func367 rfl aq aq aq eD dI bA .tt be .tt rfl rfl λU=>?_;refine al λI a w U=>?_;refine U.cd (λaG=>?_) λaG=>?_
 .refine wp_seq ?_;refine U.dt 8 ?_;simp only[TD];refine ef ?_;refine .o (jv (lo:=i+1) eD dI .tt .tt om om om) ?_;refine cy ?_;refine .o (jv (lo:=i) eD dI .tt .tt rfl om om) ?_;refine .nil ?_;intro I a w U;refine U.wc (xs:=(l.drop i).flatten) 0 0 eD dI .tt .tt rfl rfl (by rw[List.append_assoc,uw _ (by simp only[List.length_map,hA];omega)];exact jP _ (List.length_map _)) (by rw[hB];congr 1;omega) (by simp only[List.length_append,List.length_map,List.length_replicate,hA,hB];omega) rfl λU=>?_;refine aA λI a w U=>?_;refine U.o (jv (lo:=i) eD dI .tt .tt rfl om om) λU=>?_;refine U.m λU=>?_;refine U.wb 0 eD dI .tt .tt rfl be (by simp only[List.length_singleton];omega) (by rw[kx (by simp only[List.length_map,List.length_append,List.length_replicate,hA,hB];omega)];simp only[List.length_singleton,List.length_append,List.length_map,List.length_replicate,hA,hB];omega) rfl λU=>?_;rw[ER (by simp only[List.length_map,hA];omega) (by simp only[List.length_map,fX];omega) (by simp only[List.length_map,List.length_replicate,fX];omega)] at U;have U:=U.rl (l:=l.take i++x::l.drop i) (cap:=cap) 0 rfl (by simp only[List.length_append,List.length_map,List.length_drop,List.length_replicate,hA,hB,fX];omega) mf om om om (by rw[pn,hlen];exact jP _ (by simp only[List.length_append,List.length_map,hA,hB,fX];omega));rw[show l.length+1=(l.take i++x::l.drop i).length by omega] at U;obtain⟨I,U⟩:=U.fr 0 0;have U:=U.drop 0;refine ax λI a w U=>?_;exact U.jO rfl (.cons (by first|exact .t rfl|exact .nil rfl) .nil) rfl rfl
 exfalso;simp at aG;skip
abbrev sf (l:List aJ) (I0:Im):={x:Nat×Value//x.1<l.length/\(ae l x.1).av.h I0 x.2}
def tz {l:List aJ} {I0:Im} (xs:List (sf l I0)):Prop:=∀j x,xs[j]?=some x->x.1.1+1+j=l.length
def Xt {l:List ao} {d:ao} {k:Nat} (h:l.Pairwise λa b=>a≠b) (hk:k<l.length) (e:ae l k=d):l.filter (λx=>!decide (x=d))=l.take k++l.drop (k+1):=by
 have e1:l=l.take k++d::l.drop (k+1):=by rw[<-e,<-lh hk,List.take_append_drop]
 have hp:=h;rw[e1,List.pairwise_append,List.pairwise_cons] at hp;conv=>lhs;rw[e1]
 rw[List.filter_append,List.filter_cons_of_neg be,List.filter_eq_self.2 λx hx=>(by simpa using hp.2.2 x hx d be),List.filter_eq_self.2 λx hx=>(by simpa usingλe=>hp.2.1.1 x hx e.symm)]
def Xu {n:Int} (h:de n=true):aS n 10 11=false:=by
 have:=mu.1 h;unfold aS;rw[Bool.and_eq_false_iff,decide_eq_false_iff_not,decide_eq_false_iff_not];omega
def N0:NT:=⟨0,.slice none 0 0,.slice none 0 0,.slice none 0 0,.slice none 0 0,[],[],[],[]⟩
def CN {l:List aJ} (h:rM l):n9 l<=3298541174784:=by
 have h1:=uF (f:=jh) (c:=3145734) (l:=l) λv hv=>by have:=h.2 v hv;unfold jh;omega
 have h2:=h.1;unfold n9;have h3:=Nat.mul_le_mul_right 3145734 h2;omega
def ev (kind at_ aB:Int):Ev:=⟨kind,at_,aB,0,0,0,0,0,0,0,0⟩
def CO {f:aM->Nat->aM} {n:Int} (hf:∀x i,(f x i).time<=x.time+n):∀(l:List Nat) (x:aM),(l.foldl f x).time<=x.time+n*(l.length:Nat)
 |[],x=>by simp
 |i::r,x=>by
  have h1:=CO hf r (f x i);have h2:=hf x i;have h3:n*((r.length+1:Nat):Int)=n*(r.length:Nat)+n:=by rw[Int.natCast_add,Int.mul_add];simp
  rw[List.foldl_cons,List.length_cons];omega
def CP (x:Ev):
 Fn prog 46 [x.av] (x.av):=by
 refine Fn.go 38 func46 ntmps46 (λW I a U=>?_);refine aX λI a w U=>?_;refine U.alloc rfl ll n6 λb2 I a w U=>nn<|sr<|U.alloc rfl ll n6 λb3 I a w U=>?_;refine Sc λI a w U=>?_;refine Sd λI a w U=>?_;refine U.ret rfl (.cons (.sx 0) aZ.nil) ?_;rfl
def mw (k:Nat) (_:Ev):Ev×Nat:=(⟨k,(k+1:Nat),(k+2:Nat),(k+3:Nat),(k+4:Nat),(k+5:Nat),(k+6:Nat),(k+7:Nat),(k+8:Nat),(k+9:Nat),(k+10:Nat)⟩,k+11)
def Xv (x:Ev):
 Fn prog 123 [x.av,x.av] (AV.bool true):=by
 refine Fn.go 60 func123 ntmps123 (λW I a U=>?_);refine et λI a w U=>?_;refine U.cd (λab=>?_) λab=>?_
 .exfalso;simp at ab;skip
 refine bP λI a w U=>?_;refine U.cd (λah=>?_) λah=>?_
 .exfalso;simp at ah;skip
 refine bP λI a w U=>?_;refine U.cd (λai=>?_) λai=>?_
 .exfalso;simp at ai;skip
 refine bP λI a w U=>?_;refine U.cd (λaG=>?_) λaG=>?_
 .exfalso;simp at aG;skip
 refine bP λI a w U=>?_;refine U.cd (λaL=>?_) λaL=>?_
 .exfalso;simp at aL;skip
 refine bP λI a w U=>?_;refine U.cd (λbc=>?_) λbc=>?_
 .exfalso;simp at bc;skip
 refine bP λI a w U=>?_;refine U.cd (λaY=>?_) λaY=>?_
 .exfalso;simp at aY;skip
 refine bP λI a w U=>?_;refine U.cd (λbz=>?_) λbz=>?_
 .exfalso;simp at bz;skip
 refine bP λI a w U=>?_;refine U.cd (λbR=>?_) λbR=>?_
 .exfalso;simp at bR;skip
 refine bP λI a w U=>?_;refine U.cd (λdO=>?_) λdO=>?_
 .exfalso;simp at dO;skip
 refine bP λI a w U=>?_;refine U.cd (λeE=>?_) λeE=>?_
 .exfalso;simp at eE;skip
 refine aW ?_;rfl
def Xw (l:List Ev):
 Fn prog 50 [o5 l,o5 l] (AV.bool true):=by
 refine Fn.go 27 func50 ntmps50 (λW I a U=>?_);have hle:=U.dD (t:=0) rfl;refine gy λI a w U=>?_;refine U.cd (λab=>?_) λab=>?_
 .exfalso;simp at ab;skip
 refine al λI a w U=>?_;refine St.lo (σ:=Nat) (run 2 4 (run 16 11 [])) ⟨λk=>[(5,AV.int k)],λk=>[],λk=>k<=l.length⟩ (λk=>l.length-k) 0 U ?aD ?bh;case aD=>exact Nat.zero_le _
 rintro k I a w aj U;have hk:k<=l.length:=aj;refine aU λI a w U=>?_;refine cz (λah=>?_) λah=>?_
 .refine zt ?_;refine U.dk ?_;refine kz ?_;refine .o (.c2 (Xv (ae l k))) ?_;refine br ?_;refine .nil ?_;intro I a w U;refine ba ?_;refine U.cd (λai=>?_) λai=>?_
  .exfalso;simp at ai;skip
  refine aI λI a w U=>?_;exact U.ag (k+1) (ah)
 refine zt ?_;refine aW ?_;rfl
def Xx (v:Value) (k:Nat) (l:List Ev) (hb:(aN mw k l).2<=1152921504606846976):
 er prog 51 [AV.val v,AV.int (k:Nat)] [Own.row v 49 11 (l.map Ev.cells)] [Own.row v 49 11 ((aN mw k l).1.map Ev.cells)] (AV.int ((aN mw k l).2:Nat)):=by
 refine er.intro 90 func51 rfl ntmps51 rfl aq (λW I a U=>?_);have hl:k+l.length<=(aN mw k l).2:=lu (f:=mw) (c:=λ_=>11) (λ_ _=>rfl) (λ_=>by decide);refine ax λI a w U=>?_;refine St.lo (σ:=Nat) (1::(run 84 5 [])) ⟨λi=>[(5,AV.int i),(1,AV.int ((aN mw k (l.take i)).2:Nat))],λi=>[Own.row v 49 11 ((fj mw k l i).map Ev.cells)],λi=>i<=l.length⟩ (λi=>l.length-i) 0 U ?aD ?bh;case aD=>exact Nat.zero_le _
 rintro i I a w aj U;have kU:i<=l.length:=aj;dsimp only at U;refine aA λI a w U=>?_;refine U.o (jL 0 mJ .tt rfl) λU=>?_;refine al λI a w U=>?_;refine U.cd (λab=>?_) λab=>?_
 .simp only[B,List.length_map,iT] at ab;refine wp_skip<|ba<|wp_seq<|wp_block<|wp_seq ?_;obtain⟨t,hx⟩:=get_some ab;obtain⟨m,hm,mX,U⟩:=U.BF hx;generalize cV:(aN mw k (l.take i)).2=kk at U;obtain⟨fy,fk⟩:=kb (f:=mw) (c:=λ_=>11) (λ_ _=>rfl) hx cV;change _<=(aN mw k l).2 at fk;refine aV λI a w U=>?_;refine U.o (cw 0 mJ ll .tt .tt rfl (λ_=>by first|omega|(simp only[List.length_set,List.length_map];omega))) λU=>?_;refine U.o .fv λU=>?_;refine U.dE (j:=0) 0 cT .tt .tt (by first|exact cL rfl|exact cN|exact cO|exact cP) rfl cq rfl rfl λa w U=>?_;refine aX λI a w U=>?_;refine U.o (cr .tt .c (λ_=>by first|omega|(simp only[List.length_set,List.length_map];omega))) λU=>?_;rw[show((kk:Nat):Int)+1=((kk+1:Nat):Int) from rfl] at U;refine aR λI a w U=>?_;refine U.o (cw 0 mJ ll .tt .tt rfl (λ_=>by first|omega|(simp only[List.length_set,List.length_map];omega))) λU=>?_;refine U.o .fv λU=>?_;refine U.dE (j:=1) 0 cT .tt .tt (by first|exact cL rfl|exact cN|exact cO|exact cP) rfl cq rfl rfl λa w U=>?_;refine aX λI a w U=>?_;refine U.o (cr .tt .c (λ_=>by first|omega|(simp only[List.length_set,List.length_map];omega))) λU=>?_;rw[show((kk+1:Nat):Int)+1=((kk+2:Nat):Int) from rfl] at U;refine aR λI a w U=>?_;refine U.o (cw 0 mJ ll .tt .tt rfl (λ_=>by first|omega|(simp only[List.length_set,List.length_map];omega))) λU=>?_;refine U.o .fv λU=>?_;refine U.dE (j:=2) 0 cT .tt .tt (by first|exact cL rfl|exact cN|exact cO|exact cP) rfl cq rfl rfl λa w U=>?_;refine aX λI a w U=>?_;refine U.o (cr .tt .c (λ_=>by first|omega|(simp only[List.length_set,List.length_map];omega))) λU=>?_;rw[show((kk+2:Nat):Int)+1=((kk+3:Nat):Int) from rfl] at U;refine aR λI a w U=>?_;refine U.o (cw 0 mJ ll .tt .tt rfl (λ_=>by first|omega|(simp only[List.length_set,List.length_map];omega))) λU=>?_;refine U.o .fv λU=>?_;refine U.dE (j:=3) 0 cT .tt .tt (by first|exact cL rfl|exact cN|exact cO|exact cP) rfl cq rfl rfl λa w U=>?_;refine aX λI a w U=>?_;refine U.o (cr .tt .c (λ_=>by first|omega|(simp only[List.length_set,List.length_map];omega))) λU=>?_;rw[show((kk+3:Nat):Int)+1=((kk+4:Nat):Int) from rfl] at U;refine aR λI a w U=>?_;refine U.o (cw 0 mJ ll .tt .tt rfl (λ_=>by first|omega|(simp only[List.length_set,List.length_map];omega))) λU=>?_;refine U.o .fv λU=>?_;refine U.dE (j:=4) 0 cT .tt .tt (by first|exact cL rfl|exact cN|exact cO|exact cP) rfl cq rfl rfl λa w U=>?_;refine aX λI a w U=>?_;refine U.o (cr .tt .c (λ_=>by first|omega|(simp only[List.length_set,List.length_map];omega))) λU=>?_;rw[show((kk+4:Nat):Int)+1=((kk+5:Nat):Int) from rfl] at U;refine aR λI a w U=>?_;refine U.o (cw 0 mJ ll .tt .tt rfl (λ_=>by first|omega|(simp only[List.length_set,List.length_map];omega))) λU=>?_;refine U.o .fv λU=>?_;refine U.dE (j:=5) 0 cT .tt .tt (by first|exact cL rfl|exact cN|exact cO|exact cP) rfl cq rfl rfl λa w U=>?_;refine aX λI a w U=>?_;refine U.o (cr .tt .c (λ_=>by first|omega|(simp only[List.length_set,List.length_map];omega))) λU=>?_;rw[show((kk+5:Nat):Int)+1=((kk+6:Nat):Int) from rfl] at U;refine aR λI a w U=>?_;refine U.o (cw 0 mJ ll .tt .tt rfl (λ_=>by first|omega|(simp only[List.length_set,List.length_map];omega))) λU=>?_;refine U.o .fv λU=>?_;refine U.dE (j:=6) 0 cT .tt .tt (by first|exact cL rfl|exact cN|exact cO|exact cP) rfl cq rfl rfl λa w U=>?_;refine aX λI a w U=>?_;refine U.o (cr .tt .c (λ_=>by first|omega|(simp only[List.length_set,List.length_map];omega))) λU=>?_;rw[show((kk+6:Nat):Int)+1=((kk+7:Nat):Int) from rfl] at U;refine aR λI a w U=>?_;refine U.o (cw 0 mJ ll .tt .tt rfl (λ_=>by first|omega|(simp only[List.length_set,List.length_map];omega))) λU=>?_;refine U.o .fv λU=>?_;refine U.dE (j:=7) 0 cT .tt .tt (by first|exact cL rfl|exact cN|exact cO|exact cP) rfl cq rfl rfl λa w U=>?_;refine aX λI a w U=>?_;refine U.o (cr .tt .c (λ_=>by first|omega|(simp only[List.length_set,List.length_map];omega))) λU=>?_;rw[show((kk+7:Nat):Int)+1=((kk+8:Nat):Int) from rfl] at U;refine aR λI a w U=>?_;refine U.o (cw 0 mJ ll .tt .tt rfl (λ_=>by first|omega|(simp only[List.length_set,List.length_map];omega))) λU=>?_;refine U.o .fv λU=>?_;refine U.dE (j:=8) 0 cT .tt .tt (by first|exact cL rfl|exact cN|exact cO|exact cP) rfl cq rfl rfl λa w U=>?_;refine aX λI a w U=>?_;refine U.o (cr .tt .c (λ_=>by first|omega|(simp only[List.length_set,List.length_map];omega))) λU=>?_;rw[show((kk+8:Nat):Int)+1=((kk+9:Nat):Int) from rfl] at U;refine aR λI a w U=>?_;refine U.o (cw 0 mJ ll .tt .tt rfl (λ_=>by first|omega|(simp only[List.length_set,List.length_map];omega))) λU=>?_;refine U.o .fv λU=>?_;refine U.dE (j:=9) 0 cT .tt .tt (by first|exact cL rfl|exact cN|exact cO|exact cP) rfl cq rfl rfl λa w U=>?_;refine aX λI a w U=>?_;refine U.o (cr .tt .c (λ_=>by first|omega|(simp only[List.length_set,List.length_map];omega))) λU=>?_;rw[show((kk+9:Nat):Int)+1=((kk+10:Nat):Int) from rfl] at U;refine aR λI a w U=>?_;refine U.o (cw 0 mJ ll .tt .tt rfl (λ_=>by first|omega|(simp only[List.length_set,List.length_map];omega))) λU=>?_;refine U.o .fv λU=>?_;refine U.dE (j:=10) 0 cT .tt .tt (by first|exact cL rfl|exact cN|exact cO|exact cP) rfl cq rfl rfl λa w U=>?_;refine aX λI a w U=>?_;refine U.o (cr .tt .c (λ_=>by first|omega|(simp only[List.length_set,List.length_map];omega))) λU=>?_;rw[show((kk+10:Nat):Int)+1=((kk+11:Nat):Int) from rfl] at U;refine aA λI a w U=>?_;refine U.o (cr .tt .c (λ_=>by first|omega|(simp only[List.length_set,List.length_map];omega))) λU=>?_;refine al λI a w U=>?_;have U:=U.BG hx hm cV rfl;refine U.again (i+1) ?bM ?bN bF ?bO (by repeat(first|exact Env.le_rfl|refine Env.dj rfl ?_));case bM=>omega
  case bN=>show i+1<=_;omega
  case bO=>exact(Env.bt rfl bF (Env.bt rfl (by exact congrArg AV.int (by rw[fy];(try rfl))) Env.le_nil))
 simp only[B,List.length_map,iT] at ab;refine zt ?_;refine ax λI a w U=>?_;have U:=U.BH om;refine U.jO rfl (.cons (.t rfl) .nil) rfl ?_;rw[List.take_of_length_le om];rfl
def Xy {k:Nat} {l:List Ev}:(aN mw k l).2=k+11*l.length:=by rw[gI (c:=λ_=>11) λ_ _=>rfl,yX]
end Go.Proofs.YtldbakcpcfdlaaaGreat

/- Part 8: contracts of functions, plain facts. -/
import Derived.Test.YtjepcfpkclegdaaGreatP05
set_option linter.unusedVariables false
set_option linter.unusedSimpArgs false
set_option maxRecDepth 100000
set_option maxHeartbeats 4000000
namespace Go.Proofs.YtjepcfpkclegdaaGreat
open Go Go.RowKit
attribute [local irreducible] wpList Code.wp Ok
theorem jv (n a b:Int):
 Fn Tryz.prog 53 [AV.int n,AV.int a,AV.int b] (AV.bool (aQ n a b)):=by
 refine Fn.go 15 Tryz.func53 Tryz.ntmps53 (λW I a U=>?_)
 refine wu λI a w U=>?_
 refine U.rt ?_
 rfl
theorem tG (n:Int):
 Fn Tryz.prog 55 [AV.int n] (AV.bool (cL n)):=by
 refine Fn.go 5 Tryz.func55 Tryz.ntmps55 (λW I a U=>?_)
 refine aF λI a w U=>?_
 refine U.o (.cl (jv ..)) λU=>?_
 refine ai λI a w U=>?_
 refine U.rt ?_
 rfl
theorem Au (n:Int):
 Fn Tryz.prog 146 [AV.int n] (AV.bool (dp n)):=by
 refine Fn.go 5 Tryz.func146 Tryz.ntmps146 (λW I a U=>?_)
 refine aF λI a w U=>?_
 refine U.o (.cl (jv ..)) λU=>?_
 refine ai λI a w U=>?_
 refine U.rt ?_
 rfl
theorem Av (n:Int):
 Fn Tryz.prog 78 [AV.int n] (AV.bool (ff n)):=by
 refine Fn.go 5 Tryz.func78 Tryz.ntmps78 (λW I a U=>?_)
 refine aF λI a w U=>?_
 refine U.o (.cl (jv ..)) λU=>?_
 refine ai λI a w U=>?_
 refine U.rt ?_
 rfl
theorem yq (s:cw):
 Fn Tryz.prog 77 [s.av] (AV.bool (db s)):=by
 refine Fn.go 11 Tryz.func77 Tryz.ntmps77 (λW I a U=>?_)
 refine bt λI a w U=>?_
 refine U.o (.cl (jv ..)) λU=>?_
 refine bk λI a w U=>?_
 refine U.q .T (.cl (tG ..)) λU=>?_
 refine aA λI a w U=>?_
 refine U.rt ?_
 rfl
theorem Nh (s:cw):
 Fn Tryz.prog 168 [s.av] (AV.bool (kx s)):=by
 refine Fn.go 10 Tryz.func168 Tryz.ntmps168 (λW I a U=>?_)
 refine bk λI a w U=>?_
 refine U.o (.bd jU bf.nil) λU=>?_
 refine U.o (mM [_,_] [_,_] og rfl rfl .tt .tt) λU=>?_
 refine aF λI a w U=>?_
 refine U.q .F (.cl (wA ..)) λU=>?_
 refine aA λI a w U=>?_
 refine U.rt ?_
 exact bG (by simp[kx,dL])
theorem tH (n:Int):
 Fn Tryz.prog 31 [AV.int n] (AV.int (bL n)):=by
 refine Fn.go 8 Tryz.func31 Tryz.ntmps31 (λW I a U=>?_)
 refine aF λI a w U=>?_
 refine U.o (.c1 (tG ..)) λU=>?_
 refine ai λI a w U=>?_
 refine cz (λae=>?_) λae=>?_
 ·refine ai λI a w U=>?_
  refine U.rt ?_
  exact fD (by simp[bL,ae])
 ·refine bH λI a w U=>?_
  refine U.o (tf .tt .c (λ_=>by simp[cL,aQ] at ae;omega)) λU=>?_
  refine ai λI a w U=>?_
  refine U.rt ?_
  exact fD (by simp[bL,ae])
theorem yr (l:List au):
 Fn Tryz.prog 48 [bm l] (AV.bool (bN l)):=by
 refine Fn.go 27 Tryz.func48 Tryz.ntmps48 (λW I a U=>?_)
 refine ck λI a w U=>?_
 refine St.lo (σ:=Nat×Int) (run 2 2 (5::(run 19 8 []))) ⟨λ⟨k,last⟩=>[(8,AV.int k),(3,AV.int last)],λ⟨k,last⟩=>[],λ⟨k,last⟩=>k<=l.length/\bN l=dI last (l.drop k)/\-1<=last/\last<=5⟩ (λ⟨k,last⟩=>l.length-k) (0,-1) U ?aJ ?aK
 case aJ=>exact⟨by simp,rfl,by omega,by omega⟩
 case aK=>
  rintro⟨k,last⟩ I a w aj U
  obtain⟨hk,hd,hl1,pq⟩:=aj
  have hle:=U.cW (t:=0) rfl
  refine ai λI a w U=>?_
  refine cz (λae=>?_) λae=>?_
  ·refine aF λI a w U=>?_
   refine U.alloc rfl cH fL λb5 I a w U=>?_
   refine ai λI a w U=>?_
   obtain⟨I,U⟩:=U.fb 0 5
   refine bt λI a w U=>?_
   refine U.o (.cl (jv ..)) λU=>?_
   refine bt λI a w U=>?_
   refine U.q .F (.cl (yq ..)) λU=>?_
   refine aA λI a w U=>?_
   refine cz (λah=>?_) λah=>?_
   ·refine ai λI a w U=>?_
    refine U.rt ?_
    exact bG (by rw[hd,mr ae];simp only[dI];rcases ah with h|h<;>simp[h])
   ·refine ck λI a w U=>?_
    have U:=U.drop 0
    exact U.ag (k+1,(ab l k).key) (by(rw[hd,mr ae];simp[dI,ah,aQ];simp[aQ] at ah;omega))
  ·refine zt ?_
   refine ai λI a w U=>?_
   refine U.rt ?_
   exact bG (by rw[hd,List.drop_eq_nil_of_le (by omega)];rfl)
theorem GG (v:aB):
 Fn Tryz.prog 137 [v.av] (AV.bool (dM v)):=by
 refine Fn.go 54 Tryz.func137 Tryz.ntmps137 (λW I a U=>?_)
 have Gf:v.aO.length<=9223372036854775807:=by
  obtain⟨cs,_,hc⟩:=U.env 0 _ rfl
  obtain⟨u,_,hu,_⟩:=hc.get (i:=6) rfl
  exact zO hu
 refine bt λI a w U=>?_
 refine U.o (.c1 (Au ..)) λU=>?_
 refine bt λI a w U=>?_
 refine U.q .F (.cl (yq ..)) λU=>?_
 refine bM λI a w U=>?_
 refine U.q .F (.cl (jv ..)) λU=>?_
 refine bM λI a w U=>?_
 refine U.q .F (.cl (Av ..)) λU=>?_
 refine bM λI a w U=>?_
 refine U.q .F (.cl (jv ..)) λU=>?_
 refine bM λI a w U=>?_
 refine U.q .F (.cl (yr ..)) λU=>?_
 refine aA λI a w U=>?_
 refine U.cd (λae=>?_) λae=>?_
 ·rw[CA v] at ae;replace ae:=nt ae
  refine ai λI a w U=>?_
  refine U.rt ?_
  exact bG (by rw[ye,ae];rfl)
 ·rw[CA v] at ae;replace ae:=nf ae
  refine aU λI a w U=>?_
  refine St.lo (σ:=Nat) (2::(4::(run 12 42 []))) ⟨λk=>[(42,AV.int k)],λk=>[],λk=>k<=v.aO.length/\∀i,i<k->(λi=>decide ((ab v.aO i).aq.time<v.aq.time)) i=true⟩ (λk=>v.aO.length-k) 0 U ?aJ ?aK
  case aJ=>exact⟨by simp,λi hi=>by omega⟩
  case aK=>
   rintro k I a w aj U
   obtain⟨hk,aN⟩:=aj
   have hle:v.aO.length<=9223372036854775807:=Gf
   refine ai λI a w U=>?_
   refine cz (λah=>?_) λah=>?_
   ·refine aF λI a w U=>?_
    refine U.alloc rfl cH fL λb4 I a w U=>?_
    refine ai λI a w U=>?_
    obtain⟨I,U⟩:=U.fb 0 4
    refine jT λI a w U=>?_
    refine U.cd (λal=>?_) λal=>?_
    ·rw[Cz] at al;replace al:=nt al
     refine ai λI a w U=>?_
     refine U.rt ?_
     exact bG (by rw[ye,ae];exact(eB (f:=(λi=>decide ((ab v.aO i).aq.time<v.aq.time))) ah al).symm)
    ·rw[Cz] at al;replace al:=nf al
     refine aA λI a w U=>?_
     have U:=U.drop 0
     exact U.ag (k+1) (⟨by omega,fg aN al⟩)
   ·refine zt ?_
    refine ai λI a w U=>?_
    refine U.rt ?_
    exact bG (by rw[ye,ae];exact(eP aN (by omega)).symm)
theorem Xm {n:Int} (h:gh n):ff (IntKind.i64.wrap (n-10))=ff (n-10):=by
 obtain⟨h1,h2⟩:=h
 by_cases h3:-9223372036854775808<=n-10
 ·rw[IntWalk.i64_in _ ⟨h3,by omega⟩]
 ·have e:IntKind.i64.wrap (n-10)=n-10+18446744073709551616:=by
   simp only[IntKind.wrap];simp[IntKind.signed,IntKind.bits];omega
  rw[e];simp only[ff,aQ]
  rw[Bool.eq_iff_iff];simp;omega
theorem u9 (l:List aB):
 Fn Tryz.prog 161 [bX l] (AV.bool (cn l)):=by
 refine Fn.go 36 Tryz.func161 Tryz.ntmps161 (λW I a U=>?_)
 have hle:=U.cW (t:=0) rfl
 refine aU λI a w U=>?_
 refine cz (λae=>?_) λae=>?_
 ·refine ai λI a w U=>?_
  refine U.rt ?_
  exact bG (by simp[cn];omega)
 ·refine ai λI a w U=>?_
  refine St.lo (σ:=Nat) (run 2 2 (run 29 7 [])) ⟨λk=>[(3,AV.int k)],λk=>[],λk=>k<=l.length/\∀i,i<k->(eQ dM gy l) i=true⟩ (λk=>l.length-k) 0 U ?aJ ?aK
  case aJ=>exact⟨by simp,λi hi=>by omega⟩
  case aK=>
   rintro k I a w aj U
   obtain⟨hk,aN⟩:=aj
   refine aU λI a w U=>?_
   refine cz (λah=>?_) λah=>?_
   ·refine zt ?_
    refine U.dk ?_
    refine dq ?_
    refine .o (.c1 (Ge ..)) ?_
    refine qn ?_
    refine .q .T2 (.cl (My ..)) ?_
    refine cD ?_
    refine .nil ?_
    intro I a w U
    refine aY ?_
    refine U.cd (λal=>?_) λal=>?_
    ·rw[uK] at al;replace al:=nt al
     refine ai λI a w U=>?_
     refine U.rt ?_
     exact bG (by unfold cn;rw[eB (f:=(eQ dM gy l)) ah al];simp)
    ·rw[uK] at al;replace al:=nf al
     refine aI λI a w U=>?_
     exact U.ag (k+1) (⟨by omega,fg aN al⟩)
   ·refine zt ?_
    refine ai λI a w U=>?_
    refine U.rt ?_
    exact bG (by unfold cn;rw[eP aN (by omega),Bool.and_true];simp;omega)
theorem GH (n:Int):
 Fn Tryz.prog 194 [AV.int n] (AV.int (cQ n)):=by
 refine Fn.go 9 Tryz.func194 Tryz.ntmps194 (λW I a U=>?_)
 refine aF λI a w U=>?_
 refine U.o (.c1 (Au ..)) λU=>?_
 refine ai λI a w U=>?_
 refine cz (λae=>?_) λae=>?_
 ·refine ai λI a w U=>?_
  refine U.rt ?_
  exact fD (by simp[cQ,ae])
 ·refine bH λI a w U=>?_
  refine U.o (kf .tt .c (λ_=>by simp[dp,aQ] at ae;omega)) λU=>?_
  refine U.o (tf .tt .c (λ_=>by simp[dp,aQ] at ae;omega)) λU=>?_
  refine ai λI a w U=>?_
  refine U.rt ?_
  exact fD (by simp[cQ,ae])
def qz (x:dG):Bool:=aQ x.bz 0 9999&&aQ x.dH 0 2&&!((x.dH !=0)&&(x.bz==0))
def tI (s:Server):Bool:=cL s.site&&decide (s.aG.length=3)&&cn s.ao&&cn s.waits&&gi s.aD&&gi s.bl&&!(!s.up&&decide (0<s.bl.length))
def r6 (s:Server) (i:Nat):Bool:=qz (ab s.aG i)
def tJ (s:Server) (i:Nat):Bool:=dX s (ab s.ao i).key !=0
theorem CR (s:Server):(!cL s.site||((s.aG.length:Int) !=3)||!cn s.ao||!cn s.waits||!gi s.aD||!gi s.bl||(!s.up&&decide (0<(s.bl.length:Int))))=!tI s:=by
 have e:((s.aG.length:Int) !=3)=!decide (s.aG.length=3):=by rw[Bool.eq_iff_iff];simp;omega
 have e2:decide (0<(s.bl.length:Int))=decide (0<s.bl.length):=by rw[Bool.eq_iff_iff];simp
 rw[e,e2];simp[tI]
theorem GI (x:dG):(!aQ x.bz 0 9999||!aQ x.dH 0 2||((x.dH !=0)&&(x.bz==0)))=!qz x:=by simp[qz]
theorem Ni (s:Server) (i:Nat):(dX s (ab s.ao i).key==0)=!tJ s i:=by simp[tJ,bne]
theorem qA {v:aB} (h:dM v=true):dp v.key=true:=by
 simp only[dM,Bool.and_eq_true] at h;exact h.1.1.1.1.1.1
theorem CS {s:Server} (h:tI s=true):s.aG.length=3/\cn s.ao=true/\cn s.waits=true/\gi s.aD=true/\gi s.bl=true/\cL s.site=true:=by
 simp only[tI,Bool.and_eq_true,decide_eq_true_eq] at h
 exact⟨h.1.1.1.1.1.2,h.1.1.1.1.2,h.1.1.1.2,h.1.1.2,h.1.2,h.1.1.1.1.1.1⟩
theorem GJ (s:Server) (v:aB):
 Fn Tryz.prog 143 [s.av,v.av] (AV.bool (bL v.aq.site !=bL s.site)):=by
 refine Fn.go 13 Tryz.func143 Tryz.ntmps143 (λW I a U=>?_)
 refine aI λI a w U=>?_
 refine U.dk ?_
 refine cD ?_
 refine .o (.c1 (tH ..)) ?_
 refine bT ?_
 refine .o (.c1 (tH ..)) ?_
 refine bT ?_
 refine .nil ?_
 intro I a w U
 refine zt ?_
 refine U.rt ?_
 rfl
def qB (c:Call) (time:Int):Bool:=!(!aQ c.an 0 1||!aQ c.num 1 99||!aQ c.kind 1 2||!wC c||!aQ c.val 0 9999||!bN c.ctx||!bN c.aP||!aQ c.bD 1 time)
def CT (c:Call):Bool:=!(decide (0<(c.aP.length:Int))&&decide ((c.az.length:Int)<c.keys.length))
theorem Nj (n:Nat):decide (0<(n:Int))=!decide (n=0):=by
 rw[Bool.eq_iff_iff];simp;omega
theorem Nk (n m:Nat):decide (0<(n:Int)+m)=!(decide (n=0)&&decide (m=0)):=by
 rw[Bool.eq_iff_iff];simp;omega
def mD (d k:Call):Bool:=(d.an==k.an)&&!d.over&&((d.end_==0)||decide (k.bD<=d.end_))
def gn (l:List Call) (k:Nat) (x:Int):Int:=(((l.take k).filter λd=>d.an==x).length:Nat)
theorem GK (l:List Call):gn l 0=λ_=>0:=by funext x;simp[gn]
theorem r7 {l:List Call} {k:Nat} (h:k<l.length) (x:Int):gn l (k+1) x=if(ab l k).an=x then gn l k x+1 else gn l k x:=by
 unfold gn
 rw[dW h,List.filter_append,List.length_append]
 by_cases hx:(ab l k).an=x<;>simp[hx]
theorem Xn {l:List Call} {k:Nat} (h:k<l.length):(λy=>if y=(ab l k).an then gn l k (ab l k).an+1 else gn l k y)=gn l (k+1):=by
 funext y
 rw[r7 h]
 by_cases hy:y=(ab l k).an
 ·subst hy;simp
 ·rw[if_neg hy,if_neg λh=>hy h.symm]
theorem CU (l:List Call) (k:Nat) (x:Int):0<=gn l k x/\gn l k x<=k:=by
 unfold gn
 have:=List.length_filter_le (λd:Call=>d.an==x) (l.take k)
 have h2:(l.take k).length<=k:=by simp;omega
 omega
def aE.Fit (w:aE):Prop:=(∀m∈w.ar,gh m.aR/\gh m.to)/\∀d∈w.calls,gh d.an
theorem jk {v:aB} (h:dM v=true):dp v.key=true/\db v.aq=true/\bN v.aO=true:=by
 simp only[dM,Bool.and_eq_true] at h
 exact⟨h.1.1.1.1.1.1,h.1.1.1.1.1.2,h.1.2⟩
theorem yt {l:List aB} {d:au} (hc:cn l=true):(kz l d).isSome=decide (0<=placeOf l d):=by
 unfold kz
 by_cases h:0<=placeOf l d
 ·rw[if_pos ⟨hc,h⟩];simp[h]
 ·rw[if_neg (by simp[h])];simp[h]
def r8 (s:Server) (i:Nat):Bool:=decide (0<=placeOf s.ao (ab s.aD i))
theorem Nl (x:dG):(!aQ x.bz 0 9999||!aQ x.dH 0 2||((x.dH !=0)&&decide (x.bz<1)))=!qz x:=by
 rw[<-GI]
 by_cases h:aQ x.bz 0 9999=true
 ·have e:decide (x.bz<1)=(x.bz==0):=by
   simp[aQ] at h
   rw[Bool.eq_iff_iff];simp;omega
  rw[e]
 ·simp[h]
theorem Nm (s:Server) (i:Nat) (hc:cn s.ao=true):(!(kz s.ao ⟨(ab s.aD i).key,(ab s.aD i).aq⟩).isSome)=!r8 s i:=by
 rw[yt hc];simp[r8]
theorem CV {a b:au} (h:dZ a b=false) (h':dZ b a=false):a=b:=by
 obtain⟨k,⟨t,s⟩⟩:=a
 obtain⟨k',⟨t',s'⟩⟩:=b
 simp[dZ,bP] at h h'
 simp
 omega
theorem Aw (a:au):dZ a a=false:=by simp[dZ,bP]
def VS (l:List aB):Prop:=l.Pairwise λa b=>gy a b=true
theorem lL {l:List aB} {d:au} (h:0<=placeOf l d):(placeOf l d).toNat<l.length/\(ab l (placeOf l d).toNat).aT=d:=by
 unfold placeOf cM at*
 split at h
 ·rename_i k hk
  obtain⟨h1,h2,_⟩:=List.findIdx?_eq_some_iff_getElem.1 hk
  refine⟨by simpa using h1,?_⟩
  simp only[Int.toNat_natCast]
  simpa[ab,h1,l6] using h2
 ·omega
theorem fV {l:List aB} (h:cn l=true):l.length<=80:=by
 unfold cn at h
 rw[Bool.and_eq_true,decide_eq_true_eq] at h;exact h.1
def va (x y:dG):Bool:=(x.dH==2)&&(y.dH !=1)&&decide (y.bz<x.bz)
def o3 (l:List cw):Int:=l.foldl (λt s=>if t<s.time then s.time else t) 0
theorem Ax {l:List cw} {k:Nat} (h:k<l.length):o3 (l.take (k+1))=if o3 (l.take k)<(ab l k).time then(ab l k).time else o3 (l.take k):=by
 unfold o3;rw[dW h,List.foldl_append];rfl
def j9 (l:List cw):Bool:=decide (o3 l<9999)
def qC (site:Int) (l:List cw):cw:=if j9 l then⟨o3 l+1,site⟩ else⟨0,0⟩
def qD (key:Int) (v:aB):Bool:=v.key==key
def fA (l:List aB) (key:Int):Option aB:=l.reverse.find? (qD key)
theorem Nn {l:List aB} {key:Int} {k:Nat} (hk:k<l.length) (h:∀i,k<i->i<l.length->qD key (ab l i)=false) (hp:qD key (ab l k)=true):fA l key=some (ab l k):=by
 unfold fA
 rw[List.find?_eq_some_iff_getElem]
 refine⟨hp,l.length-1-k,by simp;omega,?_,λj hj=>?_⟩
 ·rw[List.getElem_reverse];simp[ab]
  rw[List.getElem?_eq_getElem hk];simp;congr 1;omega
 ·rw[List.getElem_reverse]
  have:=h (l.length-1-j) (by omega) (by omega)
  have e:l[l.length-1-j]'(by omega)=ab l (l.length-1-j):=by unfold ab;rw[List.getD_eq_getElem?_getD,List.getElem?_eq_getElem (by omega)];rfl
  rw[e,this];rfl
theorem Ay {l:List aB} {key:Int} {v:aB} (h:fA l key=some v):v∈l/\v.key=key:=by
 unfold fA at h
 have h1:=List.mem_of_find?_eq_some h
 have h2:=List.find?_some h
 exact⟨List.mem_reverse.1 h1,by simpa[qD] using h2⟩
def jw (l:List aB) (v:aB):Bool:=dM v&&decide (placeOf l v.aT<0)&&decide (l.length<80)
def o4 (s:Server) (key an call:Int) (v:aB):Bool:=(v.key==key)&&(v.an==an)&&(v.call==call)&&(bL v.aq.site==bL s.site)
def kG (s:Server) (key an call:Int):Option aB:=s.ao.find? (o4 s key an call)
def kj (s:Server) (m:aC):List cw:=m.aO.map au.aq++(match fA s.ao m.key with|some v=>[v.aq]|none=>[])
def fm (s:Server) (m:aC):aB:=⟨m.key,qC s.site (kj s m),m.val,m.aR-10,m.call,m.aO⟩
def ka (s:Server) (slot:Int):Server:={s with aG:=s.aG.set slot.toNat ⟨(ab s.aG slot.toNat).bz+1,2⟩}
def ou (s:Server):Server:={s with up:=false,bl:=[]}
def o5 (s:Server):Server:={s with up:=true}
def wN:Call:=⟨0,0,0,[],0,[],0,0,false,⟨0,0⟩,[],[]⟩
def mE (e:Ev):List Int:=e.a::(if e.call=2/\e.a<e.b then e.b::(if e.b<e.c then[e.c] else[]) else[])
def tK (calls:List Call) (an:Int):Int:=calls.foldl (λn q=>if q.an=an then q.num else n) 0
def jx (w:aE) (e:Ev):Call:={wN with an:=e.an,num:=tK w.calls e.an+1,kind:=e.call,keys:=mE e,val:=if e.call=1 then e.val else 0,ctx:=ab w.seen e.an.toNat,bD:=w.time}
def Xo:aE:=⟨0,[],[],[],[]⟩
theorem cA {α:Type} {f:α->List AV} (l:List α) (x:α):l.map f++[f x]=(l++[x]).map f:=by simp
theorem No (q:Call):(decide (0<(q.aP.length:Int))&&decide ((q.az.length:Int)<q.keys.length))=!CT q:=by simp[CT]
theorem Np {d q:Call} (h:d.an=q.an):(!d.over&&((d.end_==0)||decide (q.bD<=d.end_)))=mD d q:=by
 unfold mD;rw[h];simp
theorem Xp {d q:Call} (h:¬d.an=q.an):mD d q=false:=by
 unfold mD;simp[h]
theorem CW (l:List au) (h:l.length<=1048576):
 kh Tryz.prog 73 [bm l] 63 3 (l.map au.cells):=by
 refine kh.intro 5 Tryz.func73 rfl Tryz.ntmps73 rfl (by kernel_rfl) (λW I a U=>?_)
 refine aF λI a w U=>?_
 have U:=U.gC (sz:=3) 63
 refine U.append 0 rfl dJ cH rfl .c .r rfl (by simp;omega) λv4 a w U=>?_
 refine ai λI a w U=>?_
 exact U.wj (r:=2) 0 rfl rfl rfl rfl
def Server.Xq (s:Server) (r:Value×Value×Value×Value×Value):AV:=.agg [.int s.site,.bool s.up,.val r.1,.val r.2.1,.val r.2.2.1,.val r.2.2.2.1,.val r.2.2.2.2]
theorem Nq {l:List aB} (v:aB) (hc:cn l=true):(!dM v||(kz l ⟨v.key,v.aq⟩).isSome||decide (80<=(l.length:Int)))=!jw l v:=by
 rw[yt hc]
 have e:decide (80<=(l.length:Int))=!decide (l.length<80):=by rw[Bool.eq_iff_iff];simp;omega
 have e2:decide (0<=placeOf l ⟨v.key,v.aq⟩)=!decide (placeOf l v.aT<0):=by
  show decide (0<=placeOf l v.aT)=_
  rw[Bool.eq_iff_iff];simp
 unfold jw
 rw[e,e2];simp
theorem vb {l:List aB} {v:aB} (h:jw l v=true):dM v=true/\placeOf l v.aT<0/\l.length<80:=by
 unfold jw at h
 simp only[Bool.and_eq_true,decide_eq_true_eq] at h
 exact⟨h.1.1,h.1.2,h.2⟩
theorem Az {α:Type} [Inhabited α] {R:α->α->Prop} {l:List α} (h:l.Pairwise R) {i j:Nat} (gN:i<j) (hj:j<l.length):R (ab l i) (ab l j):=by
 rw[List.pairwise_iff_getElem] at h
 have:=h i j (by omega) hj gN
 have e:∀k (hk:k<l.length),l[k]=ab l k:=λk hk=>by simp[ab,hk]
 rwa[e i (by omega),e j hj] at this
theorem GL {l:List aB} (h:VS l) {i j:Nat} (hi:i<l.length) (hj:j<l.length) (bj:i≠j):(ab l i).aT≠(ab l j).aT:=λe=>by
 rcases Nat.lt_or_gt_of_ne bj with bw|bw
 ·have:=Az h bw hj
  unfold gy at this;rw[e,Aw] at this;cases this
 ·have:=Az h bw hi
  unfold gy at this;rw[e,Aw] at this;cases this
theorem Xr {α:Type} [Inhabited α] {l:List α} {n:Nat} {x:α} (h:x∈l.take n++l.drop (n+1)):∃k,k<l.length/\k≠n/\ab l k=x:=by
 rcases List.mem_append.1 h with h|h
 ·obtain⟨k,hk,rfl⟩:=List.getElem_of_mem h
  have eY:k<n/\k<l.length:=by simp at hk;omega
  exact⟨k,eY.2,by omega,by simp[ab,eY.2]⟩
 ·obtain⟨k,hk,rfl⟩:=List.getElem_of_mem h
  have eY:n+1+k<l.length:=by simp at hk;omega
  exact⟨n+1+k,eY,by omega,by simp[ab,eY]⟩
structure bF (s:Server):Prop where
 site:cL s.site=true
 aG:s.aG.length=3
 ao:cn s.ao=true
 waits:cn s.waits=true
 aD:gi s.aD=true
 bl:gi s.bl=true
 up:s.up=false->s.bl=[]
 aW:∀x∈s.aG,qz x=true
 here:∀v∈s.ao,dX s v.key≠0
 pM:∀v∈s.waits,dX s v.key≠0
 pN:∀v∈s.waits,bL v.aq.site≠bL s.site
 apart:∀v∈s.waits,∀x∈s.ao,x.aT≠v.aT
 o6:∀d∈s.aD,∃x∈s.ao,x.aT=d
theorem wO {x:dG}:qz x=true↔0<=x.bz/\x.bz<=9999/\0<=x.dH/\x.dH<=2/\(x.dH≠0->x.bz≠0):=by
 unfold qz aQ
 simp only[Bool.and_eq_true,decide_eq_true_eq,Bool.not_eq_true',Bool.and_eq_false_iff,bne_eq_false_iff_eq,beq_eq_false_iff_ne]
 constructor
 ·rintro⟨⟨⟨a,b⟩,d,e⟩,f⟩;exact⟨a,b,d,e,λh=>f.resolve_left h⟩
 ·rintro⟨a,b,d,e,f⟩;exact⟨⟨⟨a,b⟩,d,e⟩,by by_cases h:x.dH=0;exact .inl h;exact .inr (f h)⟩
theorem Nr {s:Server} (h:bF s):bF (o5 s):=⟨h.site,h.aG,h.ao,h.waits,h.aD,h.bl,λe=>(by cases e),h.aW,h.here,h.pM,h.pN,h.apart,h.o6⟩
theorem Ns {s:Server} (h:bF s):bF (ou s):=⟨h.site,h.aG,h.ao,h.waits,h.aD,rfl,λ_=>rfl,h.aW,h.here,h.pM,h.pN,h.apart,h.o6⟩
theorem Nt {s:Server} {key an call:Int} {v:aB} (h:kG s key an call=some v):v∈s.ao/\v.key=key/\v.an=an/\v.call=call/\bL v.aq.site=bL s.site:=by
 have h1:=List.mem_of_find?_eq_some h
 have h2:=List.find?_some h
 simp only[o4,Bool.and_eq_true,beq_iff_eq] at h2
 exact⟨h1,h2.1.1.1,h2.1.1.2,h2.1.2,h2.2⟩
theorem Xs {α:Type} {l:List α} {i:Nat} {a:α} (h:i<l.length):a∈l.set i a:=by
 rw[List.mem_iff_getElem];exact⟨i,by simpa using h,by simp⟩
theorem Xt {l:List Call} {i:Nat} {x:Call} (h:i<l.length) (hx:x.an=(ab l i).an) (k:Nat) (y:Int):gn (l.set i x) k y=gn l k y:=by
 have e:((l.set i x).map Call.an)=l.map Call.an:=by
  rw[List.map_set]
  apply List.ext_getElem
  ·simp
  ·intro n Xu BG
   by_cases e:i=n
   ·subst e;rw[List.getElem_set_self,List.getElem_map,hx];simp[ab,h]
   ·rw[List.getElem_set_ne e]
 have e2:∀l:List Call,gn l k y=((((l.map Call.an).take k).filter λd=>d==y).length:Nat):=λl=>by
  unfold gn
  rw[<-List.map_take,List.filter_map,List.length_map];rfl
 rw[e2,e2,e]
theorem Nu {l:List aB} (v:aB) (h:cn l=true):(dM v&&decide (placeOf l v.aT<0)&&!decide (l.length=80))=jw l v:=by
 have hl:=fV h
 have e:(!decide (l.length=80))=decide (l.length<80):=by rw[Bool.eq_iff_iff];simp;omega
 unfold jw;rw[e]
theorem fG {α:Type} [Inhabited α] {f:α->List AV} {l:List α} {i:Nat} (h:i<l.length):(l.map f)[i]?=some (f (ab l i)):=by rw[List.getElem?_map,KS h];rfl
theorem CX {α:Type} [Inhabited α] {p:α->Bool} {l:List α} (h:0<=cM p l):(cM p l).toNat<l.length/\p (ab l (cM p l).toNat)=true/\∀i,i<(cM p l).toNat->p (ab l i)=false:=by
 unfold cM at*
 split at h
 ·rename_i k hk
  obtain⟨h1,h2,h3⟩:=List.findIdx?_eq_some_iff_getElem.1 hk
  refine⟨by simpa using h1,by simpa[ab,h1] using h2,λi hi=>?_⟩
  have qh:i<k:=by simpa using hi
  have kU:i<l.length:=by omega
  have:=h3 i qh
  simpa[ab,kU] using this
 ·omega
def kp {α:Type} (p:α->Bool) (l:List α) (j:Nat):List α:=(l.take j).filter λd=>!p d
theorem Nv (s:Server) (v:aB) (h1:cn s.ao=true) (h2:cn s.waits=true):(!(kz s.ao ⟨v.key,v.aq⟩).isSome&&!(kz s.waits ⟨v.key,v.aq⟩).isSome)=decide (placeOf s.ao v.aT<0/\placeOf s.waits v.aT<0):=by
 rw[yt h1,yt h2,Bool.eq_iff_iff]
 show _↔decide (placeOf s.ao ⟨v.key,v.aq⟩<0/\placeOf s.waits ⟨v.key,v.aq⟩<0)=true
 simp
theorem Nw (s:Server) (m:aC):(!j9 (kj s m)||!jw s.ao (fm s m)||decide (80<=(s.aD.length:Int)))=!(j9 (kj s m)&&jw s.ao (fm s m)&&decide (s.aD.length<80)):=by
 have e:decide (80<=(s.aD.length:Int))=!decide (s.aD.length<80):=by rw[Bool.eq_iff_iff];simp;omega
 rw[e];simp
theorem CY {s:Server} {m:aC} (h:(fA s.ao m.key).isSome=true):m.aO.map au.aq++[((fA s.ao m.key).getD default).aq]=kj s m:=by
 obtain⟨v,hv⟩:=Option.isSome_iff_exists.1 h
 unfold kj;rw[hv];rfl
theorem CZ {s:Server} {m:aC} (h:(fA s.ao m.key).isSome=false):m.aO.map au.aq=kj s m:=by
 have e:fA s.ao m.key=none:=by cases hh:fA s.ao m.key;rfl;rw[hh] at h;cases h
 unfold kj;rw[e];simp
theorem GM {s:Server} {m:aC} (h:(s.up&&bO m&&(m.to==s.site))=true):s.up=true/\bO m=true:=by
 rw[Bool.and_eq_true,Bool.and_eq_true] at h;exact h.1
theorem Nx (d:au) (a:Answer) (h:a.be.key=a.key):((d.key==a.key)&&([d.aq.time,d.aq.site]==[a.be.aq.time,a.be.aq.site]))=decide (d=a.be.aT):=by
 obtain⟨k,⟨t,s⟩⟩:=d
 obtain⟨ak,ay,av⟩:=a
 obtain⟨vk,⟨vt,vs⟩,vv,vc,vca,vd⟩:=av
 obtain rfl:vk=ak:=h
 rw[Bool.eq_iff_iff]
 simp[aB.aT]
theorem C0 (m:aC):((m.kind !=4)||(m.yes&&((m.ao.length:Int) !=1||((ab m.ao 0).key !=m.key))))=!decide (m.kind=4/\(m.yes=true->m.ao.length=1/\(ab m.ao 0).key=m.key)):=by
 have e:((m.ao.length:Int) !=1)=!decide (m.ao.length=1):=by rw[Bool.eq_iff_iff];simp;omega
 rw[e,Bool.eq_iff_iff]
 cases m.yes<;>simp<;>omega
theorem Xv (m:aC) (d:au):
 Fn Tryz.prog 256 [d.av,AV.ptr m.cells] (AV.bool (decide (d.key=m.key))):=by
 refine Fn.go 9 Tryz.func256 Tryz.ntmps256 (λW I a U=>?_)
 refine ob λI a w U=>?_
 refine U.rt ?_
 exact congrArg AV.bool (by rw[Bool.eq_iff_iff];simp)
def GN (a:Act):Nat:=match a.tmps.getD 3 undef with|.int _ x=>(x+1).toNat|_=>0
theorem Ny {c:Ctx} {I:Im} {H:List Own} {Γ:Env} {a:Act} {w:World} {k:Nat} (U:St c I H Γ a w) (h:Env.get 3 Γ=some (.int ((k:Int)-1)):=by rfl):GN a=k:=by
 have:=U.env 3 _ h
 unfold GN
 rw[show a.tmps.getD 3 undef=_ from this];simp
theorem Nz {s:Server} {m:aC} (h:s.aD.length<=80):(!j9 (kj s m)||((s.aD.length:Int)==80))=!(j9 (kj s m)&&decide (s.aD.length<80)):=by
 have e:((s.aD.length:Int)==80)=!decide (s.aD.length<80):=by rw[Bool.eq_iff_iff];simp;omega
 rw[e];simp
def tL (l:List Call) (an:Int):Nat->Int
 |0=>0
 |k+1=>if(ab l k).an=an then(ab l k).num else tL l an k
theorem Xw {l:List Call} {an:Int} {k:Nat} (h:(ab l k).an=an):(ab l k).num=tL l an (k+1):=by show _=(if _ then _ else _);rw[if_pos h]
theorem Xx {l:List Call} {an:Int} {k:Nat} (h:¬(ab l k).an=an):tL l an k=tL l an (k+1):=by show _=(if _ then _ else _);rw[if_neg h]
theorem Xy {α:Type} [Inhabited α] {l:List α} {i:Nat}:l.set i (ab l i)=l:=by
 apply List.ext_getElem?
 intro j
 rw[List.getElem?_set]
 split
 ·rename_i h;subst h;split
  ·rename_i h;simp[ab,h]
  ·rename_i h;simp at h;simp[h]
 ·rfl
def C1:Nat->List (List au)
 |0=>[]
 |k+1=>C1 k++[[]]
theorem NA:∀k,(C1 k).length=k
 |0=>rfl
 |k+1=>by show(C1 k++[[]]).length=_;rw[List.length_append,NA k];rfl
theorem Xz (l:List Call) (h:l.length<=1048576):
 kh Tryz.prog 182 [bK l] 39 13 (l.map Call.cells):=by
 refine kh.intro 8 Tryz.func182 rfl Tryz.ntmps182 rfl (by kernel_rfl) (λW I a U=>?_)
 refine aF λI a w U=>?_
 obtain⟨qa,ca,XA,U⟩:=U.V5 (t:=3) rfl
 refine U.o (V4 mB .tt .c) λU=>?_
 refine zt ?_
 refine U.cd (λae=>?_) λae=>?_
 ·refine ai λI a w U=>?_
  have U:=U.gC (sz:=13) 39
  have px:l=[]:=List.map_eq_nil_iff.1 (XA (by simpa using ae))
  subst px
  exact U.wj (r:=2) 0 rfl rfl rfl rfl
 ·refine zt ?_
  refine U.l0 λb5 I a w U=>?_
  refine U.m λU=>?_
  refine U.ap 0 λv7 a w U=>?_
  refine ai λI a w U=>?_
  exact U.wj (r:=2) 0 rfl rfl rfl rfl
def aE.full (b:Nat) (x:aE) (s r q z:Value):List Own:=[Own.box b 30 [AV.int x.time,AV.val s,AV.val r,AV.val q,AV.val z],Own.row s 61 7 (x.ax.map Server.cells),Own.row r 70 15 (x.ar.map aC.cells),Own.row q 39 13 (x.calls.map Call.cells),Own.row z 34 1 (x.seen.map fE)]
theorem NB {x:aE} {e:Ev} (h:((ab x.ax e.at_.toNat).up==(e.kind==7))=false) (h7:¬e.kind=7):(ab x.ax e.at_.toNat).up=true:=by
 rw[show(e.kind==7)=false by simpa using h7] at h;simpa using h
def pO (bs:List UInt8) (i:Int):Int:=((ab bs i.toNat).toNat:Int)
def wP (bs:List UInt8) (k:Int):Int:=pO bs (k%bs.length)*131+pO bs ((k*7+3)%bs.length)*1117+k*29+k/bs.length*53
def dA (bs:List UInt8) (p n:Int):Int:=
 if n<1\/bs.length=0 then 0 else if p<bs.length then pO bs p%n else rN (wP bs p) (wP bs p/64)%n
theorem ov (bs:List UInt8) (i:Int):0<=pO bs i:=Int.natCast_nonneg _
theorem ow (bs:List UInt8) (i:Int):pO bs i<256:=by have:=(ab bs i.toNat).toNat_lt;unfold pO;omega
theorem iY (bs:List UInt8) (p n:Int):0<=dA bs p n:=by
 unfold dA
 split
 ·omega
 ·rename_i h
  split
  ·exact Int.emod_nonneg _ (by omega)
  ·exact Int.emod_nonneg _ (by omega)
theorem jl (bs:List UInt8) (p:Int) {n:Int} (h:0<n):dA bs p n<n:=by
 unfold dA
 split
 ·omega
 ·split
  ·exact Int.emod_lt_of_pos _ h
  ·exact Int.emod_lt_of_pos _ h
theorem wQ (bs:List UInt8) (p:Int) {n:Int} (h:0<n):0<=dA bs p n/\dA bs p n<n:=⟨iY ..,jl bs p h⟩
theorem gT (bs:List UInt8) (p n:Int) (h:n<=4611686018427387904):0<=dA bs p n/\dA bs p n<4611686018427387904:=by
 refine⟨iY ..,?_⟩
 by_cases h0:0<n
 ·have:=jl bs p h0;omega
 ·unfold dA;rw[if_pos (by omega)];omega
theorem wR {k m:Int} (hk:0<=k) (hm:0<m):0<=k/m/\k/m<=k:=⟨Int.ediv_nonneg hk (by omega),Int.ediv_le_self _ hk⟩
theorem XB {bs:List UInt8} {k:Int} (h0:0<=k) (h1:k<=1099511627776) (hb:bs.length≠0):0<=wP bs k/\wP bs k<4611686018427387904:=by
 have h2:=ov bs (k%bs.length);have h3:=ow bs (k%bs.length)
 have h4:=ov bs ((k*7+3)%bs.length);have h5:=ow bs ((k*7+3)%bs.length)
 have h6:=wR (k:=k) (m:=bs.length) h0 (by omega)
 unfold wP;omega
theorem XC {bs:List UInt8} {p n:Int} (h:(decide (n<1)||((bs.length:Int)==0))=true):0=dA bs p n:=by
 simp only[Bool.or_eq_true,decide_eq_true_eq,beq_iff_eq] at h
 unfold dA;rw[if_pos (by omega)]
theorem XD {bs:List UInt8} {p n m:Int} (h:n<=m) (hm:0<=m):dA bs p n<=m:=by
 by_cases h0:0<n
 ·have:=jl bs p h0;omega
 ·unfold dA;rw[if_pos (by omega)];omega
def sv (w:aE) (i:Nat):Server:=ab w.ax i
def bU (w:aE) (σ:Nat) (v:aB):Prop:=∃i,i<4/\i/2=σ/\v∈(sv w i).ao
def nI (w:aE) (σ:Nat) (v:aB):Prop:=∃i,i<4/\i/2=σ/\(v∈(sv w i).ao\/v∈(sv w i).waits)
def vk (v:aB):Nat:=(cQ v.key).toNat
def ep (w:aE) (i k:Nat):Int:=(ab (sv w i).aG k).bz
def behind (s t:Server) (k:Nat):Prop:=(ab s.aG k).bz<(ab t.aG k).bz\/((ab s.aG k).bz=(ab t.aG k).bz/\(ab t.aG k).dH=1)
def yu (s:Server) (m:aC):Prop:=
 ab s.aG m.slot.toNat=⟨m.bz,2⟩/\(∀v,v∈m.ao↔v∈s.ao/\cQ v.key=m.slot)/\(∀v,v∈m.waits↔v∈s.waits/\cQ v.key=m.slot)/\∀d,d∈m.aD↔d∈s.aD/\cQ d.key=m.slot
def lM (q p:Call):Prop:=p.an=q.an/\p.num=q.num/\p.kind=q.kind/\p.keys=q.keys/\p.val=q.val/\p.ctx=q.ctx
theorem lM.refl (q:Call):lM q q:=⟨rfl,rfl,rfl,rfl,rfl,rfl⟩
structure Ext (w x:aE):Prop where
 ee:∀{σ v},bU w σ v->bU x σ v
 cont:∀{σ v},nI w σ v->nI x σ v
 ep:∀i,i<4->∀k,k<3->ep w i k<=ep x i k
 calls:∀q∈w.calls,∃p∈x.calls,lM q p
theorem bU.lt {w:aE} {σ:Nat} {v:aB} (h:bU w σ v):σ<2:=by obtain⟨i,hi,e,_⟩:=h;omega
theorem bU.cont {w:aE} {σ:Nat} {v:aB} (h:bU w σ v):nI w σ v:=let⟨i,h1,h2,h3⟩:=h;⟨i,h1,h2,.inl h3⟩
theorem bU.here {w:aE} {i:Nat} {v:aB} (hi:i<4) (h:v∈(sv w i).ao):bU w (i/2) v:=⟨i,hi,rfl,h⟩
theorem XE {s t x y:Server} {k:Nat} (e:s.aG=t.aG) (e':x.aG=y.aG):behind s x k↔behind t y k:=by unfold behind;rw[e,e']
theorem lM.trans {a b d:Call} (h:lM a b) (h':lM b d):lM a d:=by
 obtain⟨a1,a2,a3,a4,a5,a6⟩:=h
 obtain⟨b1,b2,b3,b4,b5,b6⟩:=h'
 exact⟨b1.trans a1,b2.trans a2,b3.trans a3,b4.trans a4,b5.trans a5,b6.trans a6⟩
theorem Ext.refl (w:aE):Ext w w:=⟨id,id,λ_ _ _ _=>Int.le_refl _,λq hq=>⟨q,hq,lM.refl q⟩⟩
theorem XF (l:List Call) {a b:Nat} (h:a<=b) (x:Int):gn l a x<=gn l b x:=by
 unfold gn
 have e:l.take a=(l.take b).take a:=by rw[List.take_take,Nat.min_eq_left h]
 have:((l.take a).filter λd=>d.an==x).length<=((l.take b).filter λd=>d.an==x).length:=by
  rw[e];exact((List.take_sublist a (l.take b)).filter _).length_le
 omega
theorem XG {l:List aB} {key:Int} (h:fA l key=none) {u:aB} (hu:u∈l):u.key≠key:=by
 unfold fA at h
 rw[List.find?_eq_none] at h
 have:=h u (List.mem_reverse.2 hu)
 simpa[qD] using this
theorem qE {x y z:cw} (h:bP y x=false) (h':bP z y=false):bP z x=false:=by
 obtain⟨t,s⟩:=x
 obtain⟨t',s'⟩:=y
 obtain⟨t2,s2⟩:=z
 simp[bP] at*
 omega
theorem XH {α:Type} [Inhabited α] {l:List α} {i:Nat} (h:i<l.length):l.set i (ab l i)=l:=by
 apply List.ext_getElem
 ·simp
 ·intro n h1 h2
  rw[List.getElem_set]
  split
  ·rename_i e;subst e;simp[ab,h2]
  ·rfl
theorem NC {α:Type} [Inhabited α] {l:List α} {x:α}:ab (l++[x]) l.length=x:=by
 unfold ab;simp[List.getD_eq_getElem?_getD]
def ve (s:Server):Prop:=s.ao=[]/\s.waits=[]/\s.aD=[]
def jV (l:List Ev) (more:List UInt8):Int:=if more.length=0\/2000<l.length then 0 else(l.length:Int)*((ab more 0).toNat:Int)/256
theorem C2 (l:List Ev) (more:List UInt8):0<=jV l more/\jV l more<=l.length:=by
 unfold jV
 split
 ·omega
 ·have h:=(ab more 0).toNat_lt
  have h1:(l.length:Int)*((ab more 0).toNat:Int)<=l.length*255:=Int.mul_le_mul_of_nonneg_left (by omega) (by omega)
  have h2:0<=(l.length:Int)*((ab more 0).toNat:Int):=Int.mul_nonneg (by omega) (by omega)
  omega
theorem XI {l:List Ev} (more:List UInt8) (h:2000<l.length):(jV l more).toNat=0:=by unfold jV;rw[if_pos (.inr h)];rfl
end Go.Proofs.YtjepcfpkclegdaaGreat

/- Part 7: contracts of functions, plain facts. -/
import Derived.Test.YtjepcfpkclegdaaGreatP05
set_option linter.unusedVariables false
set_option linter.unusedSimpArgs false
set_option maxRecDepth 100000
set_option maxHeartbeats 4000000
namespace Go.Proofs.YtjepcfpkclegdaaGreat
open Go Go.RowKit
attribute [local irreducible] wpList Code.wp Ok
theorem rU (s t:cw):
 Fn Tryz.prog 23 [s.av,t.av] (AV.bool (bP s t)):=by
 refine Fn.go 24 Tryz.func23 Tryz.ntmps23 (λW I a U=>?_)
 refine Co λI a w U=>?_
 refine U.rt ?_
 rfl
theorem qw (n:Int):
 Fn Tryz.prog 165 [AV.int n] (AV.int (bL n)):=by
 refine Fn.go 8 Tryz.func165 Tryz.ntmps165 (λW I a U=>?_)
 refine aF λI a w U=>?_
 refine U.o (.c1 (rP ..)) λU=>?_
 refine ai λI a w U=>?_
 refine cz (λae=>?_) λae=>?_
 ·refine ai λI a w U=>?_
  refine U.rt ?_
  exact fD (by simp[bL,ae])
 ·refine bH λI a w U=>?_
  refine U.o (tf .tt .c (λ_=>by simp[cL,aQ] at ae;omega)) λU=>?_
  refine ai λI a w U=>?_
  refine U.rt ?_
  exact fD (by simp[bL,ae])
theorem mS (v:aB):
 Fn Tryz.prog 86 [v.av] (v.aT.av):=by
 refine Fn.go 8 Tryz.func86 Tryz.ntmps86 (λW I a U=>?_)
 refine bH λI a w U=>?_
 refine U.alloc rfl cH fL λb2 I a w U=>?_
 refine bt λI a w U=>?_
 refine U.o (.bd fL (.k (.t bf.nil))) λU=>?_
 refine ai λI a w U=>?_
 refine U.ret rfl (.cons (.sx 0) aX.nil) ?_
 rfl
theorem CK (a b:au):
 Fn Tryz.prog 150 [a.av,b.av] (AV.bool (dZ a b)):=by
 refine Fn.go 24 Tryz.func150 Tryz.ntmps150 (λW I a U=>?_)
 refine LV λI a w U=>?_
 refine U.q .T2 (.cl (rU ..)) λU=>?_
 refine aI λI a w U=>?_
 refine U.rt ?_
 rfl
theorem Gn (l:List au) (k:Nat):(!dp (ab l k).key||!db (ab l k).aq||(decide (0<(k:Int))&&!dZ (ab l ((k:Int)-1).toNat) (ab l k)))=!eQ lZ dZ l k:=by
 rw[<-uK];simp[lZ]
theorem MP (l:List au) (k:Nat):(!dp (ab l k).key||!db (ab l k).aq||(decide (0<(k:Int))&&(decide ((ab l k).key<(ab l ((k:Int)-1).toNat).key)||((ab l ((k:Int)-1).toNat).key==(ab l k).key&&!bP (ab l ((k:Int)-1).toNat).aq (ab l k).aq))))=!eQ lZ dZ l k:=by
 rw[<-Gn]
 congr 2
 generalize ab l ((k:Int)-1).toNat=p
 generalize ab l k=q
 simp only[dZ]
 rcases Int.lt_trichotomy p.key q.key with h|h|h
 ·have h1:¬q.key<p.key:=by omega
  have h2:(p.key==q.key)=false:=by simp;omega
  simp[h,h1,h2]
 ·simp[h]
 ·have h1:¬p.key<q.key:=by omega
  have h2:(p.key==q.key)=false:=by simp;omega
  simp[h,h1,h2]
theorem Gp (l:List au):
 Fn Tryz.prog 162 [bm l] (AV.bool (gi l)):=by
 refine Fn.go 66 Tryz.func162 Tryz.ntmps162 (λW I a U=>?_)
 have hle:=U.cW (t:=0) rfl
 refine aU λI a w U=>?_
 refine cz (λae=>?_) λae=>?_
 ·refine ai λI a w U=>?_
  refine U.rt ?_
  exact bG (by simp[gi];omega)
 ·refine ai λI a w U=>?_
  refine St.lo (σ:=Nat) (run 3 2 (run 58 8 [])) ⟨λk=>[(3,AV.int k)],λk=>[],λk=>k<=l.length/\∀i,i<k->(eQ lZ dZ l) i=true⟩ (λk=>l.length-k) 0 U ?aJ ?aK
  case aJ=>exact⟨by simp,λi hi=>by omega⟩
  case aK=>
   rintro k I a w aj U
   obtain⟨hk,aN⟩:=aj
   refine aU λI a w U=>?_
   refine cz (λah=>?_) λah=>?_
   ·refine bt λI a w U=>?_
    refine U.alloc rfl cH fL λb4 I a w U=>?_
    refine ai λI a w U=>?_
    obtain⟨I,U⟩:=U.fb 0 4
    refine U.dk ?_
    refine bT ?_
    refine .o (.c1 (uU ..)) ?_
    refine dq ?_
    refine .q .F (.cl (wA ..)) ?_
    refine lG ?_
    refine lG ?_
    refine bT ?_
    refine .q .T2 (.cl (yd ..)) ?_
    refine fi ?_
    refine .nil ?_
    intro I a w U
    refine aY ?_
    refine U.cd (λal=>?_) λal=>?_
    ·rw[MP] at al;replace al:=nt al
     refine ai λI a w U=>?_
     refine U.rt ?_
     exact bG (by unfold gi;rw[eB (f:=(eQ lZ dZ l)) ah al];simp)
    ·rw[MP] at al;replace al:=nf al
     refine aI λI a w U=>?_
     have U:=U.drop 0
     exact U.ag (k+1) (⟨by omega,fg aN al⟩)
   ·refine zt ?_
    refine ai λI a w U=>?_
    refine U.rt ?_
    exact bG (by unfold gi;rw[eP aN (by omega),Bool.and_true];simp;omega)
theorem aV {α:Type} [Inhabited α] {l:List α} {k:Nat} (h:k<l.length):ab l k∈l:=by
 unfold ab;rw[List.getD_eq_getElem?_getD,List.getElem?_eq_getElem h];exact List.getElem_mem _
theorem WS {α:Type} (p:α->Bool) (l:List α):-1<=cM p l:=by unfold cM;split<;>omega
def hasB {α:Type} (p:α->Bool) (l:List α):Bool:=decide (0<=cM p l)
theorem Gq {α:Type} [Inhabited α] {p:α->Bool} {l:List α} (h:0<=cM p l):∃k,k<l.length/\p (ab l k)=true:=by
 unfold cM at h
 split at h
 ·rename_i k hk
  obtain⟨h1,h2,_⟩:=List.findIdx?_eq_some_iff_getElem.1 hk
  exact⟨k,h1,by simpa[ab,h1] using h2⟩
 ·omega
theorem WT (d:au) (v:aB):([v.key,v.aq.time,v.aq.site]==[d.key,d.aq.time,d.aq.site])=l6 d v:=by
 obtain⟨k,⟨t,s⟩⟩:=d
 obtain⟨vk,⟨vt,vs⟩,_,_,_,_⟩:=v
 rw[Bool.eq_iff_iff]
 simp[l6,aB.aT,Bool.and_eq_true]
theorem Gr (l:List (aB)) (p:(aB)->Bool) (fv:AV) (hf:∀x:aB,x∈l->lW Tryz.prog fv [x.av] (AV.bool (p x))):
 Fn Tryz.prog 148 [bX l,fv] (AV.int (cM p l)):=by
 refine Fn.go 19 Tryz.func148 Tryz.ntmps148 (λW I a U=>?_)
 have hle:=U.cW (t:=0) rfl
 refine aU λI a w U=>?_
 refine St.lo (σ:=Nat) (run 2 4 (run 11 8 [])) ⟨λk=>[(8,AV.int k)],λk=>[],λk=>k<=l.length/\∀i,i<k->p (ab l i)=false⟩ (λk=>l.length-k) 0 U ?aJ ?aK
 case aJ=>exact⟨Nat.zero_le _,λi hi=>by omega⟩
 case aK=>
  rintro k I a w aj U
  obtain⟨hk,aN⟩:=aj
  refine ai λI a w U=>?_
  refine cz (λae=>?_) λae=>?_
  ·refine gz λI a w U=>?_
   refine U.o (rC (hf _ (aV ae)) .tt (aw .tt aL)) λU=>?_
   refine zt ?_
   refine U.cd (λah=>?_) λah=>?_
   ·refine aA λI a w U=>?_
    refine U.rt ?_
    exact fD (nA ae aN ah).symm
   ·refine aA λI a w U=>?_
    exact U.ag (k+1) (⟨ae,λi h1=>by rcases Nat.lt_succ_iff_lt_or_eq.1 h1 with h|h;exact aN i h;rw[h];exact ah⟩)
  ·refine zt ?_
   refine ai λI a w U=>?_
   refine U.rt ?_
   exact fD (mR (by omega) aN).symm
theorem WU (l:List (au)) (p:(au)->Bool) (fv:AV) (hf:∀x:au,x∈l->lW Tryz.prog fv [x.av] (AV.bool (p x))):
 Fn Tryz.prog 197 [bm l,fv] (AV.int (cM p l)):=by
 refine Fn.go 19 Tryz.func197 Tryz.ntmps197 (λW I a U=>?_)
 have hle:=U.cW (t:=0) rfl
 refine aU λI a w U=>?_
 refine St.lo (σ:=Nat) (run 2 4 (run 11 8 [])) ⟨λk=>[(8,AV.int k)],λk=>[],λk=>k<=l.length/\∀i,i<k->p (ab l i)=false⟩ (λk=>l.length-k) 0 U ?aJ ?aK
 case aJ=>exact⟨Nat.zero_le _,λi hi=>by omega⟩
 case aK=>
  rintro k I a w aj U
  obtain⟨hk,aN⟩:=aj
  refine ai λI a w U=>?_
  refine cz (λae=>?_) λae=>?_
  ·refine gz λI a w U=>?_
   refine U.o (rC (hf _ (aV ae)) .tt (aw .tt aL)) λU=>?_
   refine zt ?_
   refine U.cd (λah=>?_) λah=>?_
   ·refine aA λI a w U=>?_
    refine U.rt ?_
    exact fD (nA ae aN ah).symm
   ·refine aA λI a w U=>?_
    exact U.ag (k+1) (⟨ae,λi h1=>by rcases Nat.lt_succ_iff_lt_or_eq.1 h1 with h|h;exact aN i h;rw[h];exact ah⟩)
  ·refine zt ?_
   refine ai λI a w U=>?_
   refine U.rt ?_
   exact fD (mR (by omega) aN).symm
theorem WV (l:List (aC)) (p:(aC)->Bool) (fv:AV) (hf:∀x:aC,x∈l->lW Tryz.prog fv [x.av] (AV.bool (p x))):
 Fn Tryz.prog 144 [bq l,fv] (AV.int (cM p l)):=by
 refine Fn.go 19 Tryz.func144 Tryz.ntmps144 (λW I a U=>?_)
 have hle:=U.cW (t:=0) rfl
 refine aU λI a w U=>?_
 refine St.lo (σ:=Nat) (run 2 4 (run 11 8 [])) ⟨λk=>[(8,AV.int k)],λk=>[],λk=>k<=l.length/\∀i,i<k->p (ab l i)=false⟩ (λk=>l.length-k) 0 U ?aJ ?aK
 case aJ=>exact⟨Nat.zero_le _,λi hi=>by omega⟩
 case aK=>
  rintro k I a w aj U
  obtain⟨hk,aN⟩:=aj
  refine ai λI a w U=>?_
  refine cz (λae=>?_) λae=>?_
  ·refine gz λI a w U=>?_
   refine U.o (rC (hf _ (aV ae)) .tt (aw .tt aL)) λU=>?_
   refine zt ?_
   refine U.cd (λah=>?_) λah=>?_
   ·refine aA λI a w U=>?_
    refine U.rt ?_
    exact fD (nA ae aN ah).symm
   ·refine aA λI a w U=>?_
    exact U.ag (k+1) (⟨ae,λi h1=>by rcases Nat.lt_succ_iff_lt_or_eq.1 h1 with h|h;exact aN i h;rw[h];exact ah⟩)
  ·refine zt ?_
   refine ai λI a w U=>?_
   refine U.rt ?_
   exact fD (mR (by omega) aN).symm
theorem MQ (l:List (Call)) (p:(Call)->Bool) (fv:AV) (hf:∀x:Call,x∈l->lW Tryz.prog fv [x.av] (AV.bool (p x))):
 Fn Tryz.prog 61 [bK l,fv] (AV.int (cM p l)):=by
 refine Fn.go 19 Tryz.func61 Tryz.ntmps61 (λW I a U=>?_)
 have hle:=U.cW (t:=0) rfl
 refine aU λI a w U=>?_
 refine St.lo (σ:=Nat) (run 2 4 (run 11 8 [])) ⟨λk=>[(8,AV.int k)],λk=>[],λk=>k<=l.length/\∀i,i<k->p (ab l i)=false⟩ (λk=>l.length-k) 0 U ?aJ ?aK
 case aJ=>exact⟨Nat.zero_le _,λi hi=>by omega⟩
 case aK=>
  rintro k I a w aj U
  obtain⟨hk,aN⟩:=aj
  refine ai λI a w U=>?_
  refine cz (λae=>?_) λae=>?_
  ·refine gz λI a w U=>?_
   refine U.o (rC (hf _ (aV ae)) .tt (aw .tt aL)) λU=>?_
   refine zt ?_
   refine U.cd (λah=>?_) λah=>?_
   ·refine aA λI a w U=>?_
    refine U.rt ?_
    exact fD (nA ae aN ah).symm
   ·refine aA λI a w U=>?_
    exact U.ag (k+1) (⟨ae,λi h1=>by rcases Nat.lt_succ_iff_lt_or_eq.1 h1 with h|h;exact aN i h;rw[h];exact ah⟩)
  ·refine zt ?_
   refine ai λI a w U=>?_
   refine U.rt ?_
   exact fD (mR (by omega) aN).symm
theorem Gs (l:List (Answer)) (p:(Answer)->Bool) (fv:AV) (hf:∀x:Answer,x∈l->lW Tryz.prog fv [x.av] (AV.bool (p x))):
 Fn Tryz.prog 158 [qj l,fv] (AV.int (cM p l)):=by
 refine Fn.go 19 Tryz.func158 Tryz.ntmps158 (λW I a U=>?_)
 have hle:=U.cW (t:=0) rfl
 refine aU λI a w U=>?_
 refine St.lo (σ:=Nat) (run 2 4 (run 11 8 [])) ⟨λk=>[(8,AV.int k)],λk=>[],λk=>k<=l.length/\∀i,i<k->p (ab l i)=false⟩ (λk=>l.length-k) 0 U ?aJ ?aK
 case aJ=>exact⟨Nat.zero_le _,λi hi=>by omega⟩
 case aK=>
  rintro k I a w aj U
  obtain⟨hk,aN⟩:=aj
  refine ai λI a w U=>?_
  refine cz (λae=>?_) λae=>?_
  ·refine gz λI a w U=>?_
   refine U.o (rC (hf _ (aV ae)) .tt (aw .tt aL)) λU=>?_
   refine zt ?_
   refine U.cd (λah=>?_) λah=>?_
   ·refine aA λI a w U=>?_
    refine U.rt ?_
    exact fD (nA ae aN ah).symm
   ·refine aA λI a w U=>?_
    exact U.ag (k+1) (⟨ae,λi h1=>by rcases Nat.lt_succ_iff_lt_or_eq.1 h1 with h|h;exact aN i h;rw[h];exact ah⟩)
  ·refine zt ?_
   refine ai λI a w U=>?_
   refine U.rt ?_
   exact fD (mR (by omega) aN).symm
theorem WW (l:List (List au)) (p:(List au)->Bool) (fv:AV) (hf:∀x:List au,x∈l->lW Tryz.prog fv [bm x] (AV.bool (p x))):
 Fn Tryz.prog 147 [bQ l,fv] (AV.int (cM p l)):=by
 refine Fn.go 19 Tryz.func147 Tryz.ntmps147 (λW I a U=>?_)
 have hle:=U.cW (t:=0) rfl
 refine aU λI a w U=>?_
 refine St.lo (σ:=Nat) (run 2 4 (run 11 8 [])) ⟨λk=>[(8,AV.int k)],λk=>[],λk=>k<=l.length/\∀i,i<k->p (ab l i)=false⟩ (λk=>l.length-k) 0 U ?aJ ?aK
 case aJ=>exact⟨Nat.zero_le _,λi hi=>by omega⟩
 case aK=>
  rintro k I a w aj U
  obtain⟨hk,aN⟩:=aj
  refine ai λI a w U=>?_
  refine cz (λae=>?_) λae=>?_
  ·refine gz λI a w U=>?_
   refine U.o (rC (hf _ (aV ae)) .tt (aw .r aL)) λU=>?_
   refine zt ?_
   refine U.cd (λah=>?_) λah=>?_
   ·refine aA λI a w U=>?_
    refine U.rt ?_
    exact fD (nA ae aN ah).symm
   ·refine aA λI a w U=>?_
    exact U.ag (k+1) (⟨ae,λi h1=>by rcases Nat.lt_succ_iff_lt_or_eq.1 h1 with h|h;exact aN i h;rw[h];exact ah⟩)
  ·refine zt ?_
   refine ai λI a w U=>?_
   refine U.rt ?_
   exact fD (mR (by omega) aN).symm
theorem MR (l:List (au)) (p:(au)->Bool) (fv:AV) (hf:∀x:au,x∈l->lW Tryz.prog fv [x.av] (AV.bool (p x))):
 Fn Tryz.prog 153 [bm l,fv] (AV.bool (hasB p l)):=by
 refine Fn.go 9 Tryz.func153 Tryz.ntmps153 (λW I a U=>?_)
 refine bk λI a w U=>?_
 refine U.o (.cl (WU _ _ _ hf)) λU=>?_
 refine aA λI a w U=>?_
 refine U.rt ?_
 rfl
theorem WX (l:List (aC)) (p:(aC)->Bool) (fv:AV) (hf:∀x:aC,x∈l->lW Tryz.prog fv [x.av] (AV.bool (p x))):
 Fn Tryz.prog 88 [bq l,fv] (AV.bool (hasB p l)):=by
 refine Fn.go 9 Tryz.func88 Tryz.ntmps88 (λW I a U=>?_)
 refine bk λI a w U=>?_
 refine U.o (.cl (WV _ _ _ hf)) λU=>?_
 refine aA λI a w U=>?_
 refine U.rt ?_
 rfl
theorem WY (l:List (List au)) (p:(List au)->Bool) (fv:AV) (hf:∀x:List au,x∈l->lW Tryz.prog fv [bm x] (AV.bool (p x))):
 Fn Tryz.prog 91 [bQ l,fv] (AV.bool (hasB p l)):=by
 refine Fn.go 9 Tryz.func91 Tryz.ntmps91 (λW I a U=>?_)
 refine bk λI a w U=>?_
 refine U.o (.cl (WW _ _ _ hf)) λU=>?_
 refine aA λI a w U=>?_
 refine U.rt ?_
 rfl
theorem Gt (l:List (aB)) (p:(aB)->Bool) (fv:AV) (hf:∀x:aB,x∈l->lW Tryz.prog fv [x.av] (AV.bool (p x))):
 Fn Tryz.prog 102 [bX l,fv] (AV.bool (hasB p l)):=by
 refine Fn.go 9 Tryz.func102 Tryz.ntmps102 (λW I a U=>?_)
 refine bk λI a w U=>?_
 refine U.o (.cl (Gr _ _ _ hf)) λU=>?_
 refine aA λI a w U=>?_
 refine U.rt ?_
 rfl
theorem WZ (v:aB) (d:au):
 Fn Tryz.prog 149 [v.av,AV.ptr d.cells] (AV.bool (l6 d v)):=by
 refine Fn.go 8 Tryz.func149 Tryz.ntmps149 (λW I a U=>?_)
 refine aA λI a w U=>?_
 refine U.dk ?_
 refine bn ?_
 refine .o (.c1 (mS ..)) ?_
 refine bn ?_
 refine .o (mM [_,_,_] [_,_,_] uT rfl rfl .tt .tt) ?_
 refine bn ?_
 refine .nil ?_
 intro I a w U
 refine zt ?_
 refine U.rt ?_
 exact bG (WT d v)
theorem oj (l:List aB) (d:au):
 Fn Tryz.prog 95 [bX l,d.av] (AV.int (placeOf l d)):=by
 refine Fn.go 8 Tryz.func95 Tryz.ntmps95 (λW I a U=>?_)
 refine bk λI a w U=>?_
 refine U.o (mN (aw .tt aL)) λU=>?_
 refine U.o (.cl (Gr l (l6 d) _ (λv _=>Fn.val (WZ v d)))) λU=>?_
 refine ai λI a w U=>?_
 refine U.rt ?_
 rfl
def missing (l:List aB) (d:au):Bool:=decide (placeOf l d<0)
def rV (l:List aB) (ds:List au):Bool:=!hasB (missing l) ds
theorem W1 (d:au) (l:List aB):
 Fn Tryz.prog 154 [d.av,AV.ptr [bX l]] (AV.bool (missing l d)):=by
 refine Fn.go 8 Tryz.func154 Tryz.ntmps154 (λW I a U=>?_)
 refine bt λI a w U=>?_
 refine U.o (.cl (oj ..)) λU=>?_
 refine aA λI a w U=>?_
 refine U.rt ?_
 rfl
theorem Gu (l:List aB) (ds:List au):
 Fn Tryz.prog 98 [bX l,bm ds] (AV.bool (rV l ds)):=by
 refine Fn.go 9 Tryz.func98 Tryz.ntmps98 (λW I a U=>?_)
 refine zt ?_
 refine U.o (xL .tt (by first|exact jR rfl|exact j0|exact j1|exact j6)) λU=>?_
 refine aF λI a w U=>?_
 refine U.o (mN (aw .tt aL)) λU=>?_
 refine U.o (.cl (MR ds (missing l) _ (λd _=>Fn.val (W1 d l)))) λU=>?_
 refine aA λI a w U=>?_
 refine U.rt ?_
 rfl
theorem CL:∀{l:List au} {last:Int},dI last l=true->∀d∈l,last<d.key/\d.key<=5/\db d.aq=true
 |[],_,_,d,hd=>by simp at hd
 |e::r,last,h,d,hd=>by
  simp only[dI,Bool.and_eq_true,aQ,decide_eq_true_eq] at h
  rcases List.mem_cons.1 hd with rfl|hd
  ·exact⟨by omega,h.1.1.2,h.1.2⟩
  ·have:=CL h.2 d hd
   exact⟨by omega,this.2⟩
theorem MS:∀{l:List au} {last:Int},dI last l=true->∀{i j:Nat},i<j->j<l.length->(ab l i).key<(ab l j).key
 |[],_,_,i,j,_,hj=>by simp at hj
 |e::r,last,h,0,j+1,_,hj=>by
  simp only[dI,Bool.and_eq_true] at h
  have tj:j<r.length:=by simpa using hj
  exact(CL h.2 _ (aV tj)).1
 |e::r,last,h,i+1,j+1,gN,hj=>by
  simp only[dI,Bool.and_eq_true] at h
  exact MS h.2 (i:=i) (j:=j) (by omega) (by simpa using hj)
theorem MT:∀(l:List au) (last:Int),dI last l=true->last<=5->(l.length:Int)<=5-last
 |[],last,_,h=>by simp;omega
 |d::r,last,h,hl=>by
  simp only[dI,Bool.and_eq_true,aQ,decide_eq_true_eq] at h
  have:=MT r d.key h.2 (by omega)
  simp;omega
theorem gR {l:List au} (h:bN l=true):l.length<=6:=by
 have:=MT l (-1) h (by omega);omega
theorem Ao {l:List au} (h:bN l=true) {i j:Nat} (gN:i<j) (hj:j<l.length):(ab l i).key<(ab l j).key:=MS h gN hj
def mT (a:Answer) (s:cw):Bool:=!a.yes||bP a.be.aq s
def tE (key:Int) (a:Answer):Bool:=a.key==key
def cv (c:Call) (key:Int):Int:=cM (tE key) c.az
def dB (a:Answer):Bool:=if a.yes then dM a.be&&(a.be.key==a.key) else pD a.be rR
def qx (c:Call) (i:Nat):Bool:=decide (0<=cv c (ab c.aP i).key)&&mT (ab c.az (cv c (ab c.aP i).key).toNat) (ab c.aP i).aq
def yi (c:Call):Bool:=!((c.kind==1&&decide (0<(c.az.length:Int)+c.aP.length))||(!(c.kind==1)&&((c.val !=0)||!dL c.aq)))
theorem MU (a:Answer):((a.yes&&(!dM a.be||(a.be.key !=a.key)))||(!a.yes&&!pD a.be rR))=!dB a:=by
 unfold dB
 cases a.yes<;>simp[bne]
theorem MV (c:Call) (k:Nat):(decide (cv c (ab c.aP k).key<0)||!mT (ab c.az (cv c (ab c.aP k).key).toNat) (ab c.aP k).aq)=!qx c k:=by
 unfold qx
 have e:decide (cv c (ab c.aP k).key<0)=!decide (0<=cv c (ab c.aP k).key):=by rw[Bool.eq_iff_iff];simp
 rw[e];simp
def u4 (c:Call) (i:Nat):Bool:=decide (0<=cv c (ab c.aP i).key)&&bP (ab c.az (cv c (ab c.aP i).key).toNat).be.aq (ab c.aP i).aq
theorem Gv {α:Type} [Inhabited α] {p:α->Bool} {l:List α} (h:hasB p l=true):∃x∈l,p x=true:=by
 simp only[hasB,decide_eq_true_eq] at h
 obtain⟨k,hk,hp⟩:=Gq h
 exact⟨_,aV hk,hp⟩
theorem om {s:cw} (h:db s=true):1<=s.time:=by simp[db,aQ] at h;omega
theorem CM {f:Answer->Int}:∀{ks:List Int} {l:List Answer},ks.Pairwise (·<·)->(l.map f).Pairwise (·<·)->(∀a∈l,f a∈ks)->l.length<=ks.length
 |[],[],_,_,_=>Nat.le_refl _
 |[],a::l,_,_,h=>by have:=h a (by simp);simp at this
 |y::ks,[],_,_,_=>by simp
 |y::ks,a::l,hk,hl,h=>by
  rw[List.pairwise_cons] at hk
  rw[List.map_cons,List.pairwise_cons] at hl
  by_cases MW:f a=y
  ·have:l.length<=ks.length:=CM hk.2 hl.2 λb hb=>by
    have h1:=h b (by simp[hb])
    have h2:=hl.1 (f b) (List.mem_map.2 ⟨b,hb,rfl⟩)
    rcases List.mem_cons.1 h1 with h3|h3
    ·omega
    ·exact h3
   simp;omega
  ·have L8:y<f a:=by
    rcases List.mem_cons.1 (h a (by simp)) with h3|h3
    ·exact absurd h3 MW
    ·exact hk.1 _ h3
   have:(a::l).length<=ks.length:=CM hk.2 (by rw[List.map_cons,List.pairwise_cons];exact hl) λb hb=>by
    have h1:=h b hb
    rcases List.mem_cons.1 h1 with h3|h3
    ·rcases List.mem_cons.1 hb with rfl|hb
     ·exact absurd h3 MW
     ·have h2:=hl.1 (f b) (List.mem_map.2 ⟨b,hb,rfl⟩);omega
    ·exact h3
   simp at this⊢;omega
def yj (c:Call):Bool:=!(((c.kind==1)&&decide (0<(c.az.length:Int)+c.aP.length))||((c.kind==2)&&(decide (0<c.val)||!dL c.aq))||!kx c.aq||decide ((c.keys.length:Int)<c.az.length))
def CN (c:Call) (time:Int):Bool:=if c.end_=0 then dL c.aq else !c.over&&aQ c.end_ (c.bD+1) time&&((c.aP.length:Int)==0)&&(((c.kind==1)&&db c.aq)||((c.kind==2)&&((c.az.length:Int)==c.keys.length)))
theorem W2 (n:Nat):((n:Int)==0)=decide (n=0):=by
 rw[Bool.eq_iff_iff];simp
theorem W3 {n m:Nat} (h:n<=m):decide ((n:Int)<m)=!decide (n=m):=by
 rw[Bool.eq_iff_iff];simp;omega
theorem pJ {a:Answer} (h:dB a=true) (hy:a.yes=true):dM a.be=true/\a.be.key=a.key:=by
 unfold dB at h;rw[hy] at h;simpa using h
theorem u5 {a:Answer} (h:dB a=true) (hy:a.yes=false):a.be=rR:=by
 unfold dB at h;rw[hy] at h;simpa[pD] using h
theorem W4 {v:aB} (h:dM v=true):v.aO.length<=6:=by
 simp only[dM,Bool.and_eq_true] at h;exact Wr h.1.2
theorem W5 {n:Nat} {f g:Nat->Bool}:cF n (λi=>f i&&g i)=(cF n f&&cF n g):=by
 rw[Bool.eq_iff_iff,Bool.and_eq_true,gx,gx,gx]
 exact⟨λh=>⟨λi hi=>(Bool.and_eq_true_iff.1 (h i hi)).1,λi hi=>(Bool.and_eq_true_iff.1 (h i hi)).2⟩,λh i hi=>Bool.and_eq_true_iff.2 ⟨h.1 i hi,h.2 i hi⟩⟩
def fk:List aB->aB->List aB
 |[],v=>[v]
 |x::r,v=>if gy x v then x::fk r v else v::x::r
theorem MX:∀{l:List aB} {v:aB} {n:Nat},n<=l.length->(∀i,i<n->gy (ab l i) v=true)->(n<l.length->gy (ab l n) v=false)->l.take n++v::l.drop n=fk l v
 |[],v,n,h,_,_=>by have:n=0:=by simpa using h
                   subst this;rfl
 |x::r,v,0,_,_,h2=>by
  have:=h2 (by simp)
  have e:gy x v=false:=this
  simp[fk,e]
 |x::r,v,n+1,h,h1,h2=>by
  have e:gy x v=true:=h1 0 (by omega)
  have ih:=MX (l:=r) (v:=v) (n:=n) (by simpa using h) (λi hi=>h1 (i+1) (by omega)) (λhl=>h2 (by simpa using hl))
  simp[fk,e,ih]
theorem yk {a b d:au} (h:dZ a b=true) (h':dZ b d=true):dZ a d=true:=by
 obtain⟨k,⟨t,s⟩⟩:=a
 obtain⟨k',⟨t',s'⟩⟩:=b
 obtain⟨k2,⟨t2,s2⟩⟩:=d
 simp[dZ,bP] at h h'⊢
 omega
theorem gS:∀{l:List aB} {v x:aB},x∈fk l v↔x=v\/x∈l
 |[],v,x=>by simp[fk]
 |y::r,v,x=>by
  unfold fk
  split
  ·rw[List.mem_cons,gS (l:=r),List.mem_cons]
   constructor
   ·rintro(h|h|h)<;>simp[h]
   ·rintro(h|h|h)<;>simp[h]
  ·rw[List.mem_cons]
theorem MY (l:List aB) (v:aB):(fk l v).length=l.length+1:=by
 induction l with
 |nil=>rfl
 |cons x r ih=>unfold fk;split<;>simp[ih]
theorem Ap {l:List aB} {d:au} (h:∀x∈l,x.aT≠d):placeOf l d<0:=by
 rcases Int.lt_or_le (placeOf l d) 0 with hn|hn
 ·exact hn
 ·obtain⟨k,hk,hp⟩:=Gq hn
  simp[l6] at hp
  exact absurd hp (h _ (aV hk))
def eH (out:List aB) (v:aB):List aB:=if placeOf out v.aT<0 then fk out v else out
theorem W6 {out:List aB} {v x:aB} (h:x∈eH out v):x=v\/x∈out:=by
 unfold eH at h;split at h
 ·exact gS.1 h
 ·exact Or.inr h
theorem W7 (out:List aB) (v:aB):(eH out v).length<=out.length+1:=by
 unfold eH;split
 ·rw[MY];exact Nat.le_refl _
 ·omega
theorem yl:∀{l out:List aB} {x:aB},x∈l.foldl eH out->x∈l\/x∈out
 |[],_,_,h=>Or.inr h
 |v::r,out,x,h=>by
  rcases yl (l:=r) h with h1|h1
  ·exact Or.inl (by simp[h1])
  ·rcases W6 h1 with rfl|h2
   ·exact Or.inl (by simp)
   ·exact Or.inr h2
theorem Aq:∀(l out:List aB),(l.foldl eH out).length<=out.length+l.length
 |[],_=>by simp
 |v::r,out=>by
  have:=Aq r (eH out v)
  have h2:=W7 out v
  simp at this⊢;omega
theorem Ar {l out:List aB} {k:Nat} (h:k<l.length):(l.take (k+1)).foldl eH out=eH ((l.take k).foldl eH out) (ab l k):=by
 rw[dW h,List.foldl_append];rfl
def bI (w:aE) (s:Int):List aB:=(ab w.ax (2*s+1).toNat).ao.foldl eH (ab w.ax (2*s).toNat).ao
theorem Gw:∀{l:List cw} {t:Int},0<=t->t<=9999->(∀s∈l,db s=true)->0<=l.foldl (λt s=>if t<s.time then s.time else t) t/\l.foldl (λt s=>if t<s.time then s.time else t) t<=9999
 |[],t,h0,h1,_=>⟨h0,h1⟩
 |s::l,t,h0,h1,h=>by
  have U:=h s (by simp)
  simp[db,aQ] at U
  rw[List.foldl_cons]
  split
  ·exact Gw (by omega) (by omega) λx hx=>h x (by simp[hx])
  ·exact Gw h0 h1 λx hx=>h x (by simp[hx])
def ew (slot:Int) (v:aB):Bool:=cQ v.key==slot
def lg:List au->au->List au
 |[],d=>[d]
 |e::r,d=>if dZ d e then d::e::r else e::lg r d
structure nC (l:List au) (v:au) (k:Nat) (done:Bool) (out:List au):Prop where
 hk:k<=l.length
 eq:lg l v=if done then out++l.drop k else out++lg (l.drop k) v
 len:out.length<=k+done.toNat
theorem MZ (l:List au) (v:au):(lg l v).length=l.length+1:=by
 induction l with
 |nil=>rfl
 |cons x r ih=>unfold lg;split<;>simp[ih]
def nD (s:Server) (n:Nat):Server:={s with ao:=fk s.ao (ab s.waits n),waits:=s.waits.take n++s.waits.drop (n+1)}
theorem Gx {s:Server} {n:Nat} (h:n<s.waits.length):(nD s n).waits.length=s.waits.length-1:=by simp[nD];omega
structure eK (s:Server):Prop where
 aG:s.aG.length=3
 ao:cn s.ao=true
 waits:cn s.waits=true
 apart:∀v∈s.waits,placeOf s.ao v.aT<0
 bl:s.bl.length<=80
def cg:aC:=⟨0,0,0,0,0,⟨0,0⟩,0,false,[],0,0,[],[],[]⟩
def fl (site:Int):Int:=if site%2=0 then site+1 else site-1
def gm (slot:Int) (d:au):Bool:=cQ d.key==slot
def fM (s:Server) (slot:Int):aC:=
 {cg with kind:=9,aR:=s.site,to:=fl s.site,slot:=slot,bz:=(ab s.aG slot.toNat).bz,ao:=s.ao.filter (ew slot),waits:=s.waits.filter (ew slot),aD:=s.aD.filter (gm slot)}
def dY (s:Server) (slot:Int):Server:=
 {s with ao:=s.ao.filter λv=>!ew slot v,waits:=s.waits.filter λv=>!ew slot v,aD:=s.aD.filter λd=>!gm slot d}
def nE (s:Server) (m:aC) (st:cw):aC:={cg with kind:=2,aR:=s.site,to:=m.aR,call:=m.call,key:=m.key,aq:=st}
def nF (s:Server) (m:aC) (o:Option aB):aC:={cg with kind:=4,aR:=s.site,to:=m.aR,call:=m.call,key:=m.key,aq:=m.aq,yes:=o.isSome,ao:=o.toList}
def mU (s:Server) (m:aC) (v:aB):aC:={cg with kind:=6,aR:=s.site,to:=m.aR,key:=v.key,aq:=v.aq}
def nG (s:Server) (m:aC):aC:={cg with kind:=8,aR:=s.site,to:=m.aR,key:=m.key,aq:=m.aq}
def oq (s:Server) (m:aC):aC:={cg with kind:=10,aR:=s.site,to:=m.aR,slot:=m.slot,bz:=m.bz}
def iJ (l:List aB) (vs:List aB):List aB:=vs.foldl eH l
def tF (s:Server) (m:aC):Bool:=
 let x:=dY s m.slot
 decide (x.ao.length+m.ao.length<=80)&&decide (x.waits.length+m.waits.length<=80)&&decide (x.aD.length+m.aD.length<=80)
def l8 (s:Server) (m:aC):Server:=let x:=dY s m.slot;{x with aG:=x.aG.set m.slot.toNat ⟨m.bz,0⟩}
def mV (s:Server) (d:au):aC:={cg with kind:=7,aR:=s.site,to:=fl s.site,key:=d.key,aq:=d.aq}
def asks (q:Call):List aC:=
 if q.kind=1 then[{cg with kind:=1,key:=ab q.keys 0,val:=q.val,aO:=q.ctx}]
 else(q.keys.filter λk=>decide (cv q k<0)).map (λk=>{cg with kind:=3,key:=k})++q.aP.map λd=>{cg with kind:=3,key:=d.key,aq:=d.aq}
def nH (q:Call) (a:Answer) (time:Int):Call:=
 if a.be.aT∈q.aP then
  let x:={q with az:=q.az.set (cv q a.key).toNat a,aP:=q.aP.filter λd=>decide (d≠a.be.aT)}
  if x.aP=[] then{x with end_:=time} else x
 else q
theorem M0 (x:Answer) (key:Int):
 Fn Tryz.prog 193 [x.av,AV.ptr [AV.int key]] (AV.bool (tE key x)):=by
 refine Fn.go 8 Tryz.func193 Tryz.ntmps193 (λW I a U=>?_)
 refine jT λI a w U=>?_
 refine U.rt ?_
 rfl
theorem M1 (q:Call) (key:Int):
 Fn Tryz.prog 139 [q.av,AV.int key] (AV.int (cv q key)):=by
 refine Fn.go 9 Tryz.func139 Tryz.ntmps139 (λW I a U=>?_)
 refine bH λI a w U=>?_
 refine U.o (xL .tt (by first|exact jR rfl|exact j0|exact j1|exact j6)) λU=>?_
 refine bk λI a w U=>?_
 refine U.o (mN (aw .tt aL)) λU=>?_
 refine U.o (.cl (Gs q.az (tE key) _ (λv _=>Fn.val (M0 v key)))) λU=>?_
 refine ai λI a w U=>?_
 refine U.rt ?_
 rfl
theorem CO (q:Call) (key:Int):
 Fn Tryz.prog 201 [q.av,AV.int key] (AV.int (cv q key)):=by
 refine Fn.go 22 Tryz.func201 Tryz.ntmps201 (λW I a U=>?_)
 have lens:q.keys.length<=9223372036854775807/\q.az.length<=9223372036854775807/\q.aP.length<=9223372036854775807:=⟨U.ln 0 3,U.ln 0 11,U.ln 0 12⟩
 refine aI λI a w U=>?_
 refine St.lo (σ:=Nat) (run 18 4 []) ⟨λk=>[(5,AV.int k)],λk=>[],λk=>k<=q.az.length/\∀i,i<k->tE key (ab q.az i)=false⟩ (λk=>q.az.length-k) 0 U ?aJ ?aK
 case aJ=>exact⟨Nat.zero_le _,λi hi=>by omega⟩
 case aK=>
  rintro k I a w aj U
  obtain⟨hk,aN⟩:=aj
  refine ck λI a w U=>?_
  refine cz (λae=>?_) λae=>?_
  ·refine ob λI a w U=>?_
   refine U.cd (λah=>?_) λah=>?_
   ·refine aA λI a w U=>?_
    refine U.rt ?_
    exact fD (nA ae aN ah).symm
   ·refine aI λI a w U=>?_
    exact U.ag (k+1) (⟨by omega,λi h1=>by rcases Nat.lt_succ_iff_lt_or_eq.1 h1 with h|h;exact aN i h;rw[h];exact ah⟩)
  ·refine zt ?_
   refine ai λI a w U=>?_
   refine U.rt ?_
   exact fD (mR (by omega) aN).symm
theorem Gy (x:Answer) (s:cw):
 Fn Tryz.prog 106 [x.av,s.av] (AV.bool (mT x s)):=by
 refine Fn.go 15 Tryz.func106 Tryz.ntmps106 (λW I a U=>?_)
 refine Ad λI a w U=>?_
 refine U.q .F (.cl (rU ..)) λU=>?_
 refine aA λI a w U=>?_
 refine U.rt ?_
 rfl
theorem M2 (q:Call):(((q.kind==1)&&decide (0<(q.az.length:Int)+q.aP.length))||(!(q.kind==1)&&((q.val !=0)||!dL q.aq)))=!yi q:=by simp[yi]
theorem M3 (q:Call) (k:Nat):(decide (cv q (ab q.aP k).key<0)||!bP (ab q.az (cv q (ab q.aP k).key).toNat).be.aq (ab q.aP k).aq)=!u4 q k:=by
 unfold u4
 have e:decide (cv q (ab q.aP k).key<0)=!decide (0<=cv q (ab q.aP k).key):=by rw[Bool.eq_iff_iff];simp
 rw[e];simp
theorem wG {l:List Answer} (h:∀a∈l,dB a=true) (k:Nat):∀a∈l.take k,dB a=true:=λa ha=>h a (List.mem_of_mem_take ha)
theorem M4 {l out:List aB} (h1:∀v∈l,v.aO.length<=6) (h2:∀v∈out,v.aO.length<=6):∀v∈l.foldl eH out,v.aO.length<=6:=λv hv=>(yl hv).elim (h1 v) (h2 v)
def u6 (l:List aB):Prop:=l.length<=1048576/\∀v∈l,v.aO.length<=1048576
def kD (m:aC):Prop:=m.aO.length<=1048576/\u6 m.ao/\u6 m.waits/\m.aD.length<=1048576
def rW (s:Server):Prop:=s.aG.length<=1048576/\u6 s.ao/\u6 s.waits/\s.aD.length<=1048576/\s.bl.length<=1048576
def ym (q:Call):Prop:=q.keys.length<=1048576/\q.ctx.length<=1048576/\q.az.length<=1048576/\(∀y∈q.az,y.be.aO.length<=1048576)/\q.aP.length<=1048576
def yn (x:aE):Prop:=(x.ax.length<=1048576/\∀s∈x.ax,rW s)/\(x.ar.length<=1048576/\∀m∈x.ar,kD m)/\(x.calls.length<=1048576/\∀q∈x.calls,ym q)/\x.seen.length<=1048576/\∀l∈x.seen,l.length<=1048576
theorem ot {α:Type} [Inhabited α] {p:α->Bool} {l:List α} {k:Nat} (h:k<l.length) (hp:p (ab l k)=false):(l.take (k+1)).filter p=(l.take k).filter p:=by
 rw[dW h,List.filter_append,List.filter_cons,hp];simp
theorem rX {α:Type} (p:α->Bool) (l:List α) (k:Nat):((l.take k).filter p).length<=l.length:=by
 have h1:=List.length_filter_le p (l.take k)
 have h2:(l.take k).length<=l.length:=by simp;omega
 omega
theorem yo (e d:au):([e.key,e.aq.time,e.aq.site]==[d.key,d.aq.time,d.aq.site])=decide (e=d):=by
 obtain⟨k,⟨t,s⟩⟩:=d
 obtain⟨k',⟨t',s'⟩⟩:=e
 rw[Bool.eq_iff_iff];simp
theorem yp (n:Int) (hn:cL n=true):
 Fn Tryz.prog 214 [AV.int n] (AV.int (fl n)):=by
 refine Fn.go 10 Tryz.func214 Tryz.ntmps214 (λW I a U=>?_)
 have BG:0<=n/\n<=3:=by simpa[cL,aQ] using hn
 refine aF λI a w U=>?_
 refine U.o (tg .tt .c (λ_=>by omega)) λU=>?_
 refine ai λI a w U=>?_
 refine U.cd (λae=>?_) λae=>?_
 ·refine aI λI a w U=>?_
  refine U.rt ?_
  exact fD (by unfold fl;rw[if_pos (by simpa using ae)])
 ·refine aI λI a w U=>?_
  refine U.rt ?_
  exact fD (by unfold fl;rw[if_neg (by simpa using ae)])
theorem W8 {a b d:aB} (h:gy a b=true) (h':gy b d=true):gy a d=true:=yk h h'
theorem wH {α:Type} (l:List α) (n:Nat):(l.take n++l.drop (n+1)).Sublist l:=by
 have e:l=l.take n++l.drop n:=(List.take_append_drop n l).symm
 conv=>rhs;rw[e]
 refine List.Sublist.append (List.Sublist.refl _) ?_
 rw[<-List.drop_drop]
 exact List.drop_sublist 1 _
theorem eK.W9 {s:Server} (h:eK s) {x:List dG} (hx:x.length=3):eK {s with aG:=x}:=⟨hx,h.ao,h.waits,h.apart,h.bl⟩
theorem M5 {l:List aB} {v:aB} {d:au} (h:∃x∈l,x.aT=d):∃x∈fk l v,x.aT=d:=let⟨x,hx,e⟩:=h;⟨x,gS.2 (.inr hx),e⟩
theorem CP:∀{l:List au} {d x:au},x∈lg l d↔x=d\/x∈l
 |[],d,x=>by simp[lg]
 |e::r,d,x=>by
  unfold lg
  split
  ·simp
  ·rw[List.mem_cons,CP,List.mem_cons]
   constructor
   ·rintro(h|h|h)<;>simp[h]
   ·rintro(h|h|h)<;>simp[h]
theorem mW {m:aC} (h:bO m=true):(1<=m.kind/\m.kind<=10)/\lB m.aR=true/\lB m.to=true/\(0<=m.call/\m.call<=99)/\dp m.key=true/\kx m.aq=true/\(0<=m.val/\m.val<=9999)/\bN m.aO=true/\(0<=m.slot/\m.slot<=2)/\(0<=m.bz/\m.bz<=9999)/\cn m.ao=true/\cn m.waits=true/\gi m.aD=true:=by
 simp only[bO,Bool.and_eq_true,aQ,decide_eq_true_eq] at h
 obtain⟨⟨⟨⟨⟨⟨⟨⟨⟨⟨⟨⟨a1,a2⟩,a3⟩,a4⟩,a5⟩,a6⟩,a7⟩,a8⟩,a9⟩,wI⟩,As⟩,Gz⟩,GA⟩:=h
 exact⟨a1,a2,a3,a4,a5,a6,a7,a8,a9,wI,As,Gz,GA⟩
theorem u7 {m:aC} (h:bO m=true):0<=m.aR/\m.aR<=11/\0<=m.to/\m.to<=11:=by
 have p:=mW h
 have h1:=p.2.1
 have h2:=p.2.2.1
 simp only[lB,cL,aQ,Bool.or_eq_true,Bool.and_eq_true,decide_eq_true_eq] at h1 h2
 omega
def rY (c:Call) (d:au):Bool:=decide (0<=cv c d.key)&&mT (ab c.az (cv c d.key).toNat) d.aq
theorem Xa {s:cw} (h:db s=true):dL s=false:=by
 have:=om h
 unfold dL
 rw[Bool.and_eq_false_iff];left;simp;omega
theorem M6 (s:Server) (m:aC):((m.aR !=fl s.site)||((ab s.aG m.slot.toNat).dH !=2)||((ab s.aG m.slot.toNat).bz !=m.bz))=
 !((m.aR==fl s.site)&&((ab s.aG m.slot.toNat).dH==2)&&((ab s.aG m.slot.toNat).bz==m.bz)):=by simp[bne]
theorem M7 (s:Server) (m:aC):((m.aR !=fl s.site)||decide (m.bz<1))=!((m.aR==fl s.site)&&decide (1<=m.bz)):=by
 have e:decide (m.bz<1)=!decide (1<=m.bz):=by rw[Bool.eq_iff_iff];simp
 rw[e];simp[bne]
theorem CQ {l vs:List aB} {k:Nat} (h:k<vs.length):iJ l (vs.take (k+1))=eH (iJ l (vs.take k)) (ab vs k):=Ar h
theorem GB (l vs:List aB) (k:Nat):(iJ l (vs.take k)).length<=l.length+k:=by
 have h1:=Aq (vs.take k) l
 have h2:(vs.take k).length<=k:=by simp;omega
 unfold iJ;omega
theorem M8:∀{vs l:List aB} {x:aB},x∈l->x∈vs.foldl eH l
 |[],l,x,h=>h
 |v::vs,l,x,h=>by
  refine M8 (vs:=vs) ?_
  unfold eH
  split
  ·exact gS.2 (.inr h)
  ·exact h
theorem Xb {l vs:List aB} (hl:∀v∈l,v.aO.length<=6) (hv:∀v∈vs,v.aO.length<=6) (k:Nat):∀v∈iJ l (vs.take k),v.aO.length<=6:=
 M4 (λv h=>hv v (List.mem_of_mem_take h)) hl
theorem wJ (k t c:Int) (st:cw) (v:Int) (sl e:Int):kD ⟨k,0,0,c,t,st,v,false,[],sl,e,[],[],[]⟩:=⟨Nat.zero_le _,⟨Nat.zero_le _,λ_ h=>by cases h⟩,⟨Nat.zero_le _,λ_ h=>by cases h⟩,Nat.zero_le _⟩
theorem Xc {s:Server} {t:Int} {v:aB} (h:v.aO.length<=1048576):kD {cg with kind:=5,aR:=s.site,to:=t,ao:=[v]}:=⟨Nat.zero_le _,⟨by simp,λx hx=>by obtain rfl:=List.mem_singleton.1 hx;exact h⟩,⟨Nat.zero_le _,λ_ h=>by cases h⟩,Nat.zero_le _⟩
def wL (key:Int):aC:={cg with kind:=3,key:=key}
def wM (d:au):aC:={cg with kind:=3,key:=d.key,aq:=d.aq}
theorem M9 {m:aC} (h1:m.aO=[]) (h2:m.ao=[]) (h3:m.waits=[]) (h4:m.aD=[]):kD m:=by
 unfold kD;rw[h1,h2,h3,h4];simp[u6]
theorem Na (key:Int):kD (wL key):=M9 rfl rfl rfl rfl
theorem Nb (d:au):kD (wM d):=M9 rfl rfl rfl rfl
def pK (q:Call) (k:Nat):List aC:=((q.keys.take k).filter λk=>decide (cv q k<0)).map wL
def rZ (q:Call) (k:Nat):List aC:=pK q q.keys.length++(q.aP.take k).map wM
theorem Nc {q:Call} {k:Nat} (h:k<q.keys.length) (hg:¬cv q (ab q.keys k)<0):pK q k=pK q (k+1):=by
 unfold pK;rw[ot h (by simpa using hg)]
theorem Xd {q:Call} {k:Nat} (h:k=q.keys.length):pK q k=rZ q 0:=by subst h;simp[rZ]
theorem Xe {q:Call} {k:Nat} (h:k<q.aP.length):rZ q k++[wM (ab q.aP k)]=rZ q (k+1):=by
 unfold rZ;rw[dW h,List.map_append,List.append_assoc];rfl
theorem GC {q:Call} {k:Nat} (hk:¬q.kind=1) (h:q.aP.length<=k):rZ q k=asks q:=by
 unfold asks rZ pK
 rw[if_neg hk,List.take_length,List.take_of_length_le h];rfl
theorem Xf {q:Call} (h:q.ctx.length<=1048576):∀m∈asks q,kD m:=by
 intro m hm
 unfold asks at hm
 split at hm
 ·obtain rfl:=List.mem_singleton.1 hm
  exact⟨h,⟨Nat.zero_le _,λ_ h=>by cases h⟩,⟨Nat.zero_le _,λ_ h=>by cases h⟩,Nat.zero_le _⟩
 ·rcases List.mem_append.1 hm with hm|hm
  ·obtain⟨k,_,rfl⟩:=List.mem_map.1 hm;exact Na k
  ·obtain⟨d,_,rfl⟩:=List.mem_map.1 hm;exact Nb d
def pL (q:Call) (a:Answer) (k:Nat):List Answer:=if a.be.aT∈q.aP.take k then q.az.set (cv q a.key).toNat a else q.az
theorem Xg {q:Call} {a:Answer} {k:Nat} (hd:bN q.aP=true) (h:k<q.aP.length) (he:ab q.aP k=a.be.aT):pL q a k=q.az:=by
 unfold pL
 rw[if_neg]
 intro hm
 obtain⟨i,hi,e⟩:=List.getElem_of_mem hm
 have qh:i<k/\i<q.aP.length:=by simp at hi;omega
 rw[List.getElem_take] at e
 have e2:ab q.aP i=a.be.aT:=by rw[<-e];simp[ab,qh.2]
 have:=Ao hd qh.1 h
 rw[e2,he] at this;omega
def GD (r:List Value):List AV:=[.val (r.getD 0 undef),.val (r.getD 1 undef),.val (r.getD 2 undef),.val (r.getD 3 undef),.val (r.getD 4 undef),.val (r.getD 5 undef),.val (r.getD 6 undef)]
theorem Nd {r:List Value} (h:r.length=7):r.map AV.val=GD r:=by
 match r,h with
 |[a,b,c,d,e,f,g],_=>rfl
theorem Xh (m:aC) (d:au):
 Fn Tryz.prog 247 [d.av,AV.ptr m.cells] (AV.bool (decide (d=⟨m.key,m.aq⟩))):=by
 refine Fn.go 11 Tryz.func247 Tryz.ntmps247 (λW I a U=>?_)
 refine gz λI a w U=>?_
 refine U.o (.bd fL (.k (.t bf.nil))) λU=>?_
 refine U.o (mM [_,_,_] [_,_,_] uT rfl rfl .tt .tt) λU=>?_
 refine ai λI a w U=>?_
 refine U.rt ?_
 exact congrArg AV.bool (yo d ⟨m.key,m.aq⟩)
theorem Xi {s:Server} {m:aC} (h:(m.kind==10&&(m.aR==fl s.site)&&([(ab s.aG m.slot.toNat).bz,(ab s.aG m.slot.toNat).dH]==[m.bz,2]))=true):(dG.cells (ab s.aG m.slot.toNat)).set 1 (AV.int 0)=dG.cells ⟨m.bz,0⟩:=by
 simp only[Bool.and_eq_true,beq_iff_eq,List.cons.injEq] at h
 show[AV.int _,AV.int 0]=[AV.int _,AV.int 0]
 rw[h.2.1]
theorem Nf {s:Server} {m:aC} (h:(m.kind==9&&(m.aR==fl s.site)&&decide (0<m.bz))=true):m.kind=9/\((m.aR==fl s.site)&&decide (1<=m.bz))=true:=by
 simp only[Bool.and_eq_true,beq_iff_eq,decide_eq_true_eq] at h⊢;exact⟨h.1.1,h.1.2,by omega⟩
theorem Xj {m:aC} (h:bO m=true) (h2:aQ m.to 10 11=false):0<=m.to/\m.to<=3:=by
 have:=(mW h).2.2.1
 simp only[lB,cL,Bool.or_eq_true] at this
 rw[h2] at this
 simpa[aQ] using this
theorem Xk {m:aC} (h:bO m=true) (U:cL m.to=false):aQ m.to 10 11=true:=by
 have:=(mW h).2.2.1
 unfold lB at this
 rw[U,Bool.false_or] at this;exact this
theorem Ng:∀{vs l:List aB},(∀u∈l,∀v∈vs,u.aT≠v.aT)->(vs.Pairwise λa b=>a.aT≠b.aT)->∀x,x∈iJ l vs↔x∈l\/x∈vs
 |[],l,_,_,x=>by simp[iJ]
 |v::r,l,h,hp,x=>by
  rw[List.pairwise_cons] at hp
  have e:eH l v=fk l v:=by
   unfold eH;rw[if_pos (Ap λu hu=>h u hu v (by simp))]
  show x∈iJ (eH l v) r↔_
  rw[e,Ng (λu hu y hy=>?_) hp.2,gS,List.mem_cons]
  ·constructor
   ·rintro((h1|h1)|h1)<;>simp[h1]
   ·rintro(h1|h1|h1)<;>simp[h1]
  ·rcases gS.1 hu with rfl|hu
   ·exact hp.1 y hy
   ·exact h u hu y (by simp[hy])
theorem Xl {out:List aB} {v x:aB} (h:x∈out):x∈eH out v:=by
 unfold eH;split
 ·exact gS.2 (.inr h)
 ·exact h
theorem GF:∀{l out:List aB} {x:aB},x∈out->x∈l.foldl eH out
 |[],_,_,h=>h
 |v::r,out,x,h=>GF (l:=r) (Xl h)
end Go.Proofs.YtjepcfpkclegdaaGreat

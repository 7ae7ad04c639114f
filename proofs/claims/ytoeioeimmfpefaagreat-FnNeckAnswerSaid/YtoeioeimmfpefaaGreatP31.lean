/- Part 31: rules of the proofs, contracts of functions, plain facts. -/
import Derived.Test.YtoeioeimmfpefaaGreatP30
set_option linter.unusedVariables false
set_option linter.unusedSimpArgs false
set_option maxRecDepth 100000
set_option maxHeartbeats 4000000
namespace Go.Proofs.YtoeioeimmfpefaaGreat
open Go Go.RowKit
attribute [local irreducible] wpList Code.wp Ok
theorem nX {s:Server} {m:aD} (h:m.kind=1):dY s m=((gE s m).1,(gE s m).2):=by unfold dY;rw[if_pos h]
theorem nY {s:Server} {m:aD} (h:m.kind=3):dY s m=(s,gW s m):=by unfold dY;rw[h];rfl
theorem nZ {s:Server} {m:aD} (h:m.kind=5):dY s m=((gF s m).1,(gF s m).2):=by unfold dY;rw[h];rfl
theorem n1 {s:Server} {m:aD} (h:m.kind=6):dY s m=(mS s m,[]):=by unfold dY;rw[h];rfl
theorem oQ {s:Server} {m:aD} (h:m.kind=7) (h2:((iQ s.aq ⟨m.key,m.aA⟩).isSome&&(m.bc==eG s.site))=true) (hc:cg s.aq=true):dY s m=(s,[kO s m]):=by
 rw[xc hc] at h2
 unfold dY;rw[h];show(s,mT s m)=_
 unfold mT;rw[h2];rfl
theorem oR {s:Server} {m:aD} (h:m.kind=7) (h2:((iQ s.aq ⟨m.key,m.aA⟩).isSome&&(m.bc==eG s.site))=false) (hc:cg s.aq=true):dY s m=(s,[]):=by
 rw[xc hc] at h2
 unfold dY;rw[h];show(s,mT s m)=_
 unfold mT;rw[h2];rfl
theorem n2 {s:Server} {m:aD} (h:m.kind=8):dY s m=(mU s m,[]):=by unfold dY;rw[h];rfl
theorem n3 {s:Server} {m:aD} (h:m.kind=9):dY s m=((gp s m).1,(gp s m).2):=by unfold dY;rw[h];rfl
theorem n4 {s:Server} {m:aD} (h:m.kind=10):dY s m=(mi s m,[]):=by unfold dY;rw[h];rfl
theorem oS {s:Server} {m:aD} (h1:¬m.kind=1) (h3:¬m.kind=3) (h5:¬m.kind=5) (h6:¬m.kind=6) (h7:¬m.kind=7) (h8:¬m.kind=8) (h9:¬m.kind=9) (zl:¬m.kind=10):dY s m=(s,[]):=by
 unfold dY;rw[if_neg h1,if_neg h3,if_neg h5,if_neg h6,if_neg h7,if_neg h8,if_neg h9,if_neg zl]
theorem SU (s:Server) (m:aD):(gE s m).2.length≤1:=by
 unfold gE
 split
 ·split
  ·simp
  ·split<;>simp
 ·simp
theorem SV (s:Server) (m:aD):(gW s m).length≤1:=by
 unfold gW
 split
 ·split
  ·simp
  ·split<;>simp
 ·simp
theorem SW (s:Server) (m:aD):(gF s m).2.length≤1:=by
 unfold gF
 split
 ·dsimp only
  split
  ·split<;>simp
  ·simp
 ·simp
theorem SX (s:Server) (m:aD):(gp s m).2.length≤1:=by
 unfold gp
 split
 ·split
  ·simp
  ·split<;>simp
 ·simp
theorem JU (s:Server) (m:aD):(dY s m).2.length≤1:=by
 unfold dY
 repeat' split
 ·exact SU s m
 ·exact SV s m
 ·exact SW s m
 ·simp
 ·show(mT s m).length≤1
  unfold mT;split<;>simp
 ·simp
 ·exact SX s m
 ·simp
 ·simp
theorem Dv {s:Server} {m:aD} (h:(s.up&&bN m&&(m.to==s.site))=true):s.up=true∧bN m=true:=by
 rw[Bool.and_eq_true,Bool.and_eq_true] at h;exact h.1
def qv (s:Server) (k:Nat):List Nat:=(List.range k).filter fun i=>(ab s.aR i).er==2
theorem SY {s:Server}:qv s s.aR.length=leaving s:=rfl
theorem SZ {s:Server} {k:Nat} (h:(ab s.aR k).er=2):qv s (k+1)=qv s k++[k]:=by
 unfold qv;rw[List.range_succ,List.filter_append];simp[h]
theorem S0 {s:Server} {k:Nat} (h:¬(ab s.aR k).er=2):qv s (k+1)=qv s k:=by
 unfold qv;rw[List.range_succ,List.filter_append];simp[h]
theorem S1 (s:Server) (k:Nat):(qv s k).length≤k:=by
 have:=List.length_filter_le (fun i=>(ab s.aR i).er==2) (List.range k)
 rw[List.length_range] at this;exact this
def mu (s:Server) (k:Nat):List aD:=(qv s k).map fun i:Nat=>fg s (i:Int)
theorem JV {s:Server} {k:Nat} (h:(ab s.aR k).er=2):mu s k++[fg s (k:Int)]=mu s (k+1):=by
 unfold mu;rw[SZ h,List.map_append];rfl
theorem JW {s:Server} {k:Nat} (h:¬(ab s.aR k).er=2):mu s k=mu s (k+1):=by
 unfold mu;rw[S0 h]
theorem Dw (s:Server) (k:Nat):(mu s k).length≤k:=by unfold mu;rw[List.length_map];exact S1 s k
def gH (s:Server) (k:Nat):List aD:=mu s 3++((s.aH.take k).map (jf s)).flatten
theorem zG {s:Server} {k:Nat} (h:k<s.aH.length):gH s (k+1)=gH s k++jf s (ab s.aH k):=by
 unfold gH;rw[dL h,List.map_append,List.flatten_append,List.append_assoc];simp
theorem JX (s:Server) (d:ar):(jf s d).length≤2:=by unfold jf;split<;>simp
theorem uI (s:Server):∀k,k≤s.aH.length→(gH s k).length≤3+2*k
 |0,_=>by have:=Dw s 3;simp[gH];omega
 |k+1,h=>by have:=uI s k (by omega);have:=JX s (ab s.aH k);rw[zG (by omega),List.length_append];omega
theorem JY {s:Server} {d:ar} (h:¬eh s d.key=1):jf s d=[]:=by unfold jf;rw[if_neg (by simpa using h)]
theorem S2 {s:Server} {d:ar} (h:eh s d.key=1):(jf s d).length=2:=by unfold jf;rw[if_pos (by simpa using h)];rfl
theorem S3 {s:Server} {d:ar} {v:aK} (h:eh s d.key=1) (hv:iF s.aq d=some v) {j:Nat} (hj:j<2):ab (jf s d) j={bP with kind:=5,bc:=s.site,to:=2-2*bV s.site+(j:Int),aq:=[v]}:=by
 unfold jf;rw[if_pos (by simpa using h),hv]
 match j,hj with
 |0,_=>show _={bP with kind:=5,bc:=s.site,to:=2-2*bV s.site+(0:Int),aq:=[v]};rw[Int.add_zero];rfl
 |1,_=>rfl
theorem JZ {s:Server} (h:bw s) {d:ar} (hd:d∈s.aH):∃v,iF s.aq d=some v∧v.key=d.key∧v∈s.aq:=by
 obtain⟨x,hx,e⟩:=h.m0 d hd
 have hp:=CV.2 ⟨x,hx,e⟩
 obtain⟨h1,h2⟩:=wH hp
 refine⟨ab s.aq (placeOf s.aq d).toNat,by unfold iF;rw[if_pos hp],congrArg ar.key h2,bx h1⟩
def kT (s:Server) (i:Nat):List ar:=((s.waits.take i).map aK.aS).flatten.foldl (kQ s) []
def gY (s:Server) (i j:Nat):List ar:=((ab s.waits i).aS.take j).foldl (kQ s) (kT s i)
theorem uJ {s:Server} {i j:Nat} (h:j<(ab s.waits i).aS.length):gY s i (j+1)=kQ s (gY s i j) (ab (ab s.waits i).aS j):=by
 unfold gY;rw[dL h,List.foldl_append];rfl
theorem Dx {s:Server} {i j:Nat} (h:i<s.waits.length) (hj:(ab s.waits i).aS.length≤j):gY s i j=kT s (i+1):=by
 unfold gY kT
 rw[List.take_of_length_le hj,dL h,List.map_append,List.flatten_append,List.foldl_append];simp
theorem Dy (s:Server) {i:Nat} (h:s.waits.length≤i):kT s i=sP s:=by unfold kT sP;rw[List.take_of_length_le h]
theorem S4 (s:Server) (l:List ar) (d:ar):(kQ s l d).length≤l.length+1:=by unfold kQ;split<;>simp
theorem J0 (s:Server):∀(l asked:List ar),(l.foldl (kQ s) asked).length≤asked.length+l.length
 |[],asked=>by simp
 |d::r,asked=>by have:=J0 s r (kQ s asked d);have:=S4 s asked d;simp only[List.foldl_cons,List.length_cons];omega
theorem xe (s:Server) (i j:Nat):(gY s i j).length≤(kT s i).length+j:=by
 have h1:=J0 s ((ab s.waits i).aS.take j) (kT s i)
 have h2:((ab s.waits i).aS.take j).length≤j:=by simp;omega
 unfold gY;omega
theorem uK {s:Server} (h:∀v∈s.waits,v.aS.length≤6):∀i,i≤s.waits.length→(kT s i).length≤6*i
 |0,_=>by simp[kT]
 |i+1,hi=>by
  have h1:=uK h i (by omega)
  have h2:=xe s i (ab s.waits i).aS.length
  have h3:=h _ (bx (l:=s.waits) (k:=i) (by omega))
  rw[←Dx (by omega) (Nat.le_refl _)];omega
def lE (s:Server) (l:List ar):List aD:=gH s s.aH.length++l.map (kf s)
theorem J1 {s:Server} {l:List ar} {d:ar} (h:(!mg s d&&decide (fH l d<0))=false):kQ s l d=l:=by
 unfold kQ;rw[if_pos]
 rw[Bool.or_eq_true,decide_eq_true_eq]
 rw[Bool.and_eq_false_iff,Bool.not_eq_false',decide_eq_false_iff_not] at h
 rcases h with h|h
 ·exact .inl h
 ·exact .inr (by omega)
theorem zH {s:Server} {l:List ar} {d:ar} (h:(!mg s d&&decide (fH l d<0))=true):kQ s l d=l++[d]:=by
 unfold kQ;rw[if_neg]
 rw[Bool.or_eq_true,decide_eq_true_eq]
 rw[Bool.and_eq_true,Bool.not_eq_true',decide_eq_true_eq] at h
 rw[h.1];simp;omega
theorem J2 (s:Server) (l:List ar) (d:ar):lE s l++[kf s d]=lE s (l++[d]):=by unfold lE;simp
theorem Dz {s:Server} (hu:s.up=true) (h3:s.aR.length=3):lE s (sP s)=js s:=by
 unfold lE gH mu js
 rw[hu,if_pos rfl,List.take_length,←h3,SY]
theorem J3 {s:Server} (hg:bw s):(js s).length≤1000:=by
 by_cases hu:s.up=true
 ·have h1:=uI s s.aH.length (Nat.le_refl _)
  have h2:=gB hg.aH
  have h3:=uK (s:=s) (fun v hv=>gm (jE (gA hg.waits v hv)).2.2) s.waits.length (Nat.le_refl _)
  have h4:=gn hg.waits
  rw[Dy s (Nat.le_refl _)] at h3
  rw[←Dz hu hg.aR]
  unfold lE
  rw[List.length_append,List.length_map];omega
 ·unfold js;rw[if_neg hu];simp
theorem J4 {s:Server} (hu:s.up=false):js s=[]:=by unfold js;rw[hu];rfl
theorem zI (s:Server):(!fV s||!s.up)=!(fV s&&s.up):=by simp
set_option maxHeartbeats 4000000 in
theorem S5 (s:Server) (m:aD) (hg:bw s):
 Fn Tryz.prog 148 [s.av,m.av] (AV.c9 [(eX s m).1.av,bj (eX s m).2]):=by
 refine Fn.intro 118 Tryz.func148 rfl Tryz.ntmps148 rfl (by kernel_rfl) (fun W I a hs=>?_)
 have al:=iw.2 hg
 have cH:=hg.ok
 refine ai fun I a w hs=>?_
 refine hs.alloc rfl ba df fun b4 I a w hs=>hs.sc fun hs=>nn<|sr ?_
 refine hs.cT rfl dh cj (by decide) fun kd I a w hs=>?_
 obtain⟨I,hs⟩:=hs.fr 1 11
 refine ai fun I a w hs=>?_
 refine hs.o (.c1 (q4 ..)) fun hs=>hs.o .nt fun hs=>nn ?_
 refine hs.cd (fun ae=>?_) fun ae=>?_
 ·exfalso;rw[al] at ae;cases ae
  skip
 ·skip
  refine az fun I a w hs=>?_
  refine hs.o (.c1 (wP s hg.small)) fun hs=>hs.alloc rfl ba df fun b7 I a w hs=>?_
  refine cx fun I a w hs=>?_
  refine hs.q .F (.cl (B5 ..)) fun hs=>?_
  refine jR fun I a w hs=>?_
  refine nn ?_
  refine hs.cd (fun ah=>?_) fun ah=>?_
  ·rw[zE] at ah;replace ah:=nt ah
   refine aJ fun I a w hs=>?_
   refine nn<|wp_ret<|aE ?_
   refine hs.ret rfl (.cons (.s 0 ba rfl rfl (by first|rfl|assumption)) (.cons (by first|exact .t rfl|exact .nil rfl) aU.nil)) ?_
   exact(by unfold eX;rw[ah];rfl)
  ·rw[zE] at ah;replace ah:=nf ah;have hm:=(Dv ah).2
   refine ai fun I a w hs=>?_
   refine nn ?_
   refine St.cut (σ:=Server×List aD) (run 3 8 (run 77 37 [])) ⟨fun⟨u,ws⟩=>[(8,bj ws)],fun⟨u,ws⟩=>[Own.box b4 44 [AV.val (.int .i64 0),AV.val (.bool false),AV.rows 2 [],AV.rows 7 [],AV.rows 7 [],AV.rows 3 [],AV.rows 3 []],Own.gone,Own.box b7 44 u.cells],fun⟨u,ws⟩=>dY s m=(u,ws)⟩ hs ?DA ?DB
   case DA=>
    refine aJ fun I a w hs=>?_
    refine nn ?_
    refine hs.cd (fun aj=>?_) fun aj=>?_
    ·try simp only[B] at aj
     refine ai fun I a w hs=>?_
     refine hs.o (.c2 (SI s m hg hm)) fun hs=>?_
     refine aW fun I a w hs=>?_
     refine wpList_nil<|eI<|aG ?_
     have hs:=hs.drop 3
     exact hs.me ((gE s m).1,(gE s m).2) (by first|exact nX aj|exact nY aI|exact nZ aL|exact n1 bf|exact oQ aX bU cH.aq|exact oR aX bU cH.aq|exact n2 cQ|exact n3 fq|exact n4 fK|exact oS aj aI aL bf aX cQ fq fK)
    ·try simp only[B] at aj
     refine ai fun I a w hs=>?_
     refine nn ?_
     refine hs.cd (fun aI=>?_) fun aI=>?_
     ·try simp only[B] at aI
      refine ai fun I a w hs=>?_
      refine hs.o (.c2 (Sr s m al)) fun hs=>hs.s fun hs=>wpList_nil<|eI<|aG ?_
      have hs:=hs.drop 3
      exact hs.me (s,gW s m) (by first|exact nX aj|exact nY aI|exact nZ aL|exact n1 bf|exact oQ aX bU cH.aq|exact oR aX bU cH.aq|exact n2 cQ|exact n3 fq|exact n4 fK|exact oS aj aI aL bf aX cQ fq fK)
     ·try simp only[B] at aI
      refine ai fun I a w hs=>?_
      refine nn ?_
      refine hs.cd (fun aL=>?_) fun aL=>?_
      ·try simp only[B] at aL
       refine ai fun I a w hs=>?_
       refine hs.o (.c2 (SH s m hg hm)) fun hs=>?_
       refine aW fun I a w hs=>?_
       refine wpList_nil<|eI<|aG ?_
       have hs:=hs.drop 3
       exact hs.me ((gF s m).1,(gF s m).2) (by first|exact nX aj|exact nY aI|exact nZ aL|exact n1 bf|exact oQ aX bU cH.aq|exact oR aX bU cH.aq|exact n2 cQ|exact n3 fq|exact n4 fK|exact oS aj aI aL bf aX cQ fq fK)
      ·try simp only[B] at aL
       refine ai fun I a w hs=>?_
       refine nn ?_
       refine hs.cd (fun bf=>?_) fun bf=>?_
       ·try simp only[B] at bf
        refine ai fun I a w hs=>?_
        refine hs.o (.c2 (Sn s m cH (gB hg.aH) hm)) fun hs=>?_
        refine hs.sb 2 fun hs=>?_
        refine wpList_nil<|eI<|aG ?_
        have hs:=hs.drop 3
        exact hs.me (mS s m,[]) (by first|exact nX aj|exact nY aI|exact nZ aL|exact n1 bf|exact oQ aX bU cH.aq|exact oR aX bU cH.aq|exact n2 cQ|exact n3 fq|exact n4 fK|exact oS aj aI aL bf aX cQ fq fK)
       ·try simp only[B] at bf
        refine ai fun I a w hs=>?_
        refine nn ?_
        refine hs.cd (fun aX=>?_) fun aX=>?_
        ·try simp only[B] at aX
         refine cx fun I a w hs=>?_
         refine hs.o (.cl (pX ..)) fun hs=>?_
         refine aB fun I a w hs=>?_
         refine hs.alloc rfl bt dO fun b9 I a w hs=>?_
         refine hs.sb 3 fun hs=>?_
         obtain⟨I,hs⟩:=hs.fb 3 9
         refine hs.s fun hs=>nn<|wp_seq<|hs.dk ?_
         refine fP ?_
         refine .q .T (.cl (uw _ hg.site)) ?_
         refine cq ?_
         refine .nil ?_
         intro I a w hs
         refine aG ?_
         refine hs.cd (fun bU=>?_) fun bU=>?_
         ·skip
          refine gi fun I a w hs=>?_
          refine hs.o (.bd dB (.k (.k (.k (.k (.t aZ.nil)))))) fun hs=>?_
          refine hs.o (.li [(kO s m).cells] fF (.u .nil)) fun hs=>?_
          refine hs.s fun hs=>wpList_nil<|eI<|aG ?_
          have hs:=hs.drop 3
          exact hs.me (s,[kO s m]) (by first|exact nX aj|exact nY aI|exact nZ aL|exact n1 bf|exact oQ aX bU cH.aq|exact oR aX bU cH.aq|exact n2 cQ|exact n3 fq|exact n4 fK|exact oS aj aI aL bf aX cQ fq fK)
         ·skip
          refine wp_skip<|eI<|aG ?_
          have hs:=hs.drop 3
          exact hs.me (s,[]) (by first|exact nX aj|exact nY aI|exact nZ aL|exact n1 bf|exact oQ aX bU cH.aq|exact oR aX bU cH.aq|exact n2 cQ|exact n3 fq|exact n4 fK|exact oS aj aI aL bf aX cQ fq fK)
        ·try simp only[B] at aX
         refine ai fun I a w hs=>?_
         refine nn ?_
         refine hs.cd (fun cQ=>?_) fun cQ=>?_
         ·try simp only[B] at cQ
          refine ai fun I a w hs=>?_
          refine hs.o (.c2 (So s m cH hg.site)) fun hs=>?_
          refine hs.sb 2 fun hs=>?_
          refine wpList_nil<|eI<|aG ?_
          have hs:=hs.drop 3
          exact hs.me (mU s m,[]) (by first|exact nX aj|exact nY aI|exact nZ aL|exact n1 bf|exact oQ aX bU cH.aq|exact oR aX bU cH.aq|exact n2 cQ|exact n3 fq|exact n4 fK|exact oS aj aI aL bf aX cQ fq fK)
         ·try simp only[B] at cQ
          refine ai fun I a w hs=>?_
          refine nn ?_
          refine hs.cd (fun fq=>?_) fun fq=>?_
          ·try simp only[B] at fq
           refine ai fun I a w hs=>?_
           refine hs.o (.c2 (SO s m hg hm)) fun hs=>?_
           refine aW fun I a w hs=>?_
           refine wpList_nil<|eI<|aG ?_
           have hs:=hs.drop 3
           exact hs.me ((gp s m).1,(gp s m).2) (by first|exact nX aj|exact nY aI|exact nZ aL|exact n1 bf|exact oQ aX bU cH.aq|exact oR aX bU cH.aq|exact n2 cQ|exact n3 fq|exact n4 fK|exact oS aj aI aL bf aX cQ fq fK)
          ·try simp only[B] at fq
           refine ai fun I a w hs=>?_
           refine nn ?_
           refine hs.cd (fun fK=>?_) fun fK=>?_
           ·try simp only[B] at fK
            refine ai fun I a w hs=>?_
            refine hs.o (.c2 (Sp s m cH hg.site (gB hg.aH) hm)) fun hs=>?_
            refine hs.sb 2 fun hs=>?_
            refine wpList_nil<|eI<|aG ?_
            have hs:=hs.drop 3
            exact hs.me (mi s m,[]) (by first|exact nX aj|exact nY aI|exact nZ aL|exact n1 bf|exact oQ aX bU cH.aq|exact oR aX bU cH.aq|exact n2 cQ|exact n3 fq|exact n4 fK|exact oS aj aI aL bf aX cQ fq fK)
           ·try simp only[B] at fK
            refine wp_skip<|eI<|aG ?_
            have hs:=hs.drop 3
            exact hs.me (s,[]) (by first|exact nX aj|exact nY aI|exact nZ aL|exact n1 bf|exact oQ aX bU cH.aq|exact oR aX bU cH.aq|exact n2 cQ|exact n3 fq|exact n4 fK|exact oS aj aI aL bf aX cQ fq fK)
   case DB=>
    rintro⟨u,ws⟩ I a w al hs
    have hu:bw u:=by have:=C1 hg hm (Dv ah).1;rw[al] at this;exact this
    have hw:∀y∈ws,bN y=true:=by have:=C4 hg hm;rw[al] at this;exact this
    refine az fun I a w hs=>?_
    refine hs.o (.c1 (wP u hu.small)) fun hs=>hs.m fun hs=>?_
    refine hs.o (cI (CH ws (by have:=JU s m;rw[al] at this;have:ws.length≤1:=this;omega) (fun y hy=>sX (hw y hy))) (aw .r aP)) fun hs=>?_
    refine ai fun I a w hs=>?_
    refine nn<|wp_ret ?_
    refine hs.ret rfl (.cons (.s 0 ba rfl rfl (by first|rfl|assumption)) (.cons (by first|exact .t rfl|exact .nil rfl) aU.nil)) ?_
    exact(by unfold eX;rw[ah,if_pos rfl,al];rfl)
theorem J5 {s:Server} {k:Nat} (h:k=3):mu s k=gH s 0:=by subst h;simp[gH]
theorem J6 {s:Server} {k:Nat} (h:k=s.aH.length):gH s k=lE s (kT s 0):=by
 subst h;unfold lE;rw[show kT s 0=[] from rfl];simp
theorem J7 {s:Server} {k j:Nat} {v:aK} (cm:eh s (ab s.aH k).key=1) (hv:iF s.aq (ab s.aH k)=some v) (hj:j<2):gH s k++(jf s (ab s.aH k)).take j++[{bP with kind:=5,bc:=s.site,to:=2-2*bV s.site+(j:Int),aq:=[v]}]=gH s k++(jf s (ab s.aH k)).take (j+1):=by
 rw[List.append_assoc,←S3 cm hv hj,←dL (by rw[S2 cm];exact hj)]
theorem J8 {s:Server} {k j:Nat} (hk:k<s.aH.length) (hj:2≤j):gH s k++(jf s (ab s.aH k)).take j=gH s (k+1):=by
 rw[zG hk,List.take_of_length_le (by have:=JX s (ab s.aH k);omega)]
theorem S6 {s:Server} {k:Nat} {v:aK} (hk:k<s.aH.length) (xf:v.key=(ab s.aH k).key) (h:¬(ab s.aR (gx v.key).toNat).er=1):gH s k=gH s (k+1):=by
 rw[zG hk,JY (by unfold eh;rw[←xf];exact h),List.append_nil]
def oT (site k:Nat):List dt:=(List.range k).map fun i=>if i%2=site%2 then⟨1,1⟩ else⟨0,0⟩
theorem J9 {site k:Nat} (h:(k:Int)%2=(site:Int)%2):oT site k++[⟨1,1⟩]=oT site (k+1):=by
 unfold oT;rw[List.range_succ,List.map_append,List.map_singleton,if_pos (by omega)]
theorem Ka {site k:Nat} (h:¬(k:Int)%2=(site:Int)%2):oT site k++[⟨0,0⟩]=oT site (k+1):=by
 unfold oT;rw[List.range_succ,List.map_append,List.map_singleton,if_neg (by omega)]
theorem zJ (site k:Nat):(oT site k).length=k:=by simp[oT]
theorem Kb (s:Server) (slot:Int):(!s.up||!aQ slot 0 2||((ab s.aR slot.toNat).er !=1)||decide (9999≤(ab s.aR slot.toNat).bO))=!kR s slot:=by
 have e:decide (9999≤(ab s.aR slot.toNat).bO)=!decide ((ab s.aR slot.toNat).bO<9999):=by rw[Bool.eq_iff_iff];simp
 unfold kR
 rw[e];simp[bne]
set_option maxHeartbeats 4000000 in
theorem S7 (s:Server) (hg:bw s):
 Fn Tryz.prog 151 [s.av] (bj (js s)):=by
 refine Fn.intro 155 Tryz.func151 rfl Tryz.ntmps151 rfl (by kernel_rfl) (fun W I a hs=>?_)
 have al:=iw.2 hg
 have cH:=hg.ok
 have lens:s.aR.length≤9223372036854775807∧s.aq.length≤9223372036854775807∧s.waits.length≤9223372036854775807∧s.aH.length≤9223372036854775807∧s.bq.length≤9223372036854775807:=by
  obtain⟨cs,_,hc⟩:=hs.env 0 _ rfl
  obtain⟨u0,_,h0,_⟩:=hc.get (i:=2) rfl
  obtain⟨u1,_,h1,_⟩:=hc.get (i:=3) rfl
  obtain⟨u2,_,h2,_⟩:=hc.get (i:=4) rfl
  obtain⟨u3,_,h3,_⟩:=hc.get (i:=5) rfl
  obtain⟨u4,_,h4,_⟩:=hc.get (i:=6) rfl
  exact⟨bL h0,bL h1,bL h2,bL h3,bL h4⟩
 have h3:=hg.aR
 have wW:=gn hg.aq
 have ju:=gn hg.waits
 have gf:=gB hg.aH
 have n5:∀v∈s.waits,v.aS.length≤6:=fun v hv=>gm (jE (gA hg.waits v hv)).2.2
 have S8:=C6 hg.site
 refine ai fun I a w hs=>?_
 refine nn<|sr ?_
 refine hs.cT rfl dh cj (by decide) fun oH I a w hs=>?_
 refine ai fun I a w hs=>?_
 refine hs.o (.c1 (q4 ..)) fun hs=>?_
 refine cx fun I a w hs=>?_
 refine nn ?_
 refine hs.cd (fun ae=>?_) fun ae=>?_
 ·rw[zI] at ae;replace ae:=nt ae
  refine ai fun I a w hs=>?_
  refine nn<|wp_ret<|aE ?_
  obtain⟨I,hs⟩:=hs.fr 0 2
  refine hs.rt ?_
  exact(by rw[al,Bool.true_and] at ae;rw[J4 ae];rfl)
 ·rw[zI] at ae;replace ae:=nf ae;rw[Bool.and_eq_true] at ae
  refine az fun I a w hs=>?_
  refine nn<|wp_block ?_
  refine St.lo (σ:=Nat×Value) (run 2 3 (run 20 24 [])) ⟨fun⟨n,v⟩=>[(4,AV.int n),(3,AV.val v)],fun⟨n,v⟩=>[Own.row v 74 15 ((mu s n).map aD.cells)],fun⟨n,v⟩=>n≤s.aR.length⟩ (fun⟨n,v⟩=>s.aR.length-n) (0,.slice (some ⟨oH,0,none⟩) 0 0) hs ?aN ?aO
  case aN=>exact Nat.zero_le _
  case aO=>
   rintro⟨n,v⟩ I a w al hs
   have hn:n≤s.aR.length:=al
   dsimp only at hs
   refine aW fun I a w hs=>?_
   refine nn ?_
   refine hs.cd (fun ah=>?_) fun ah=>?_
   ·try simp only[B] at ah
    refine dq fun I a w hs=>?_
    refine nn ?_
    refine hs.cd (fun aj=>?_) fun aj=>?_
    ·try simp only[B] at aj
     refine aB fun I a w hs=>?_
     refine hs.o (cI (JE s (n:Int) cH.aq cH.waits hg.site h3 (by omega) gf) (aw (.t rfl) (aw (.t rfl) aP))) fun hs=>?_
     refine hs.o (.li [(fg s (n:Int)).cells] fF (.u .nil)) fun hs=>?_
     refine hs.append 0 rfl dh cj rfl .tt .r rfl (by have:=Dw s n;simp;omega) fun zK a w hs=>?_
     rw[ck,JV (by simpa using aj)] at hs
     refine aJ fun I a w hs=>?_
     refine nn ?_
     exact hs.ag (n+1,zK) (ah)
    ·try simp only[B] at aj
     refine aB fun I a w hs=>?_
     refine nn ?_
     rw[JW (by simpa using aj)] at hs
     exact hs.ag (n+1,v) (ah)
   ·try simp only[B] at ah
    refine wp_exit<|aF<|aF<|aY ?_
    refine ai fun I a w hs=>?_
    refine hs.o (.c1 (nC ..)) fun hs=>?_
    refine hs.o (mz .c .tt (fun _=>by omega)) fun hs=>?_
    refine ai fun I a w hs=>?_
    refine nn<|wp_seq<|wp_seq ?_
    rw[J5 (by omega)] at hs
    refine az fun I a w hs=>?_
    refine nn<|wp_block ?_
    refine St.lo (σ:=Nat×Value) (3::(run 4 6 (run 49 49 []))) ⟨fun⟨k,v⟩=>[(6,AV.int k),(3,AV.val v)],fun⟨k,v⟩=>[Own.row v 74 15 ((gH s k).map aD.cells)],fun⟨k,v⟩=>k≤s.aH.length⟩ (fun⟨k,v⟩=>s.aH.length-k) (0,v) hs ?dT ?dU
    case dT=>exact Nat.zero_le _
    case dU=>
     rintro⟨k,v⟩ I a w al hs
     have hk:k≤s.aH.length:=al
     dsimp only at hs
     refine aW fun I a w hs=>?_
     refine nn ?_
     refine hs.cd (fun aI=>?_) fun aI=>?_
     ·try simp only[B] at aI
      refine wp_skip<|aG<|wp_seq<|wp_block<|wp_seq ?_
      have hs:=hs.gN
      refine hs.eT [([],none),([],none),([],none),([],none),([],none),([],none),([],none),([],none),([],none),([],none),([],none),([],none),([],none),([],none),([],none),([],none),([],none),([],none),([1],some (1,[7])),([1],some (1,[7])),([],none)] (by kernel_rfl) (by kernel_rfl) rfl ?_
      refine pT ?_
      refine .o (.cl (pX ..)) ?_
      refine du ?_
      refine aV.alloc 1 rfl rfl bt dO<|aV.pL 1 rfl bt rfl .tt rfl rfl ?_
      refine bz ?_
      refine .nil ?_
      intro I a w hs
      obtain⟨b7,hs⟩:=hs.nw (d:=7) 1 rfl rfl
      obtain⟨I,hs⟩:=hs.fb 1 7
      obtain⟨vd,oV,xf,mq⟩:=JZ hg (bx aI)
      have S9:iQ s.aq ⟨(ab s.aH k).key,(ab s.aH k).aA⟩=some vd:=by rw[xc hg.aq];exact oV
      rw[show(iQ s.aq ⟨(ab s.aH k).key,(ab s.aH k).aA⟩).getD default=vd from by rw[S9];rfl] at hs
      refine aG<|wp_seq<|wp_seq<|hs.dk ?_
      refine de ?_
      refine .o (.c1 (qW ..)) ?_
      refine .o ((by first|exact eZ ea dz .tt .tt (fun _=>by have:=nF (nE (gA hg.aq vd mq));omega)|exact iM ea dz .tt .tt (fun _=>by have:=nF (nE (gA hg.aq vd mq));omega)|exact iX ea dz .tt .tt (fun _=>by have:=nF (nE (gA hg.aq vd mq));omega))) ?_
      refine du ?_
      refine .nil ?_
      intro I a w hs
      refine aG ?_
      refine hs.cd (fun aL=>?_) fun aL=>?_
      ·try simp only[B] at aL
       refine wp_exit<|aF<|aY ?_
       refine aB fun I a w hs=>?_
       refine nn ?_
       have hs:=hs.drop 1
       rw[S6 aI xf (by simpa using aL)] at hs
       exact hs.ag (k+1,v) (aI)
      ·try simp only[B] at aL
       refine wp_skip<|aG<|wp_seq ?_
       rw[show gH s k=gH s k++(jf s (ab s.aH k)).take 0 from by simp] at hs
       refine az fun I a w hs=>?_
       refine nn<|wp_block ?_
       refine St.lo (σ:=Nat×Value) (3::(9::(run 15 83 []))) ⟨fun⟨j,v2⟩=>[(9,AV.int j),(3,AV.val v2)],fun⟨j,v2⟩=>[Own.row v2 74 15 ((gH s k++(jf s (ab s.aH k)).take j).map aD.cells),Own.gone],fun⟨j,v2⟩=>j≤2⟩ (fun⟨j,v2⟩=>2-j) (0,v) hs ?iq ?ir
       case iq=>exact Nat.zero_le _
       case ir=>
        rintro⟨j,v2⟩ I a w al hs
        have hj:j≤2:=al
        dsimp only at hs
        refine ai fun I a w hs=>?_
        refine nn ?_
        refine hs.cd (fun bf=>?_) fun bf=>?_
        ·try simp only[B] at bf
         refine dq fun I a w hs=>?_
         refine hs.o (.li [vd.cells] jD (.u .nil)) fun hs=>?_
         refine hs.o (.bd dB (.k (.k (.k (.k aZ.nil))))) fun hs=>?_
         refine hs.o (.li [({bP with kind:=5,bc:=s.site,to:=2-2*bV s.site+(j:Int),aq:=[vd]}:aD).cells] fF (.u .nil)) fun hs=>?_
         refine hs.append 0 rfl dh cj rfl .tt .r rfl (by have:=uI s k hk;simp;omega) fun Ta a w hs=>?_
         rw[ck,J7 (by unfold eh;rw[←xf];simpa using aL) oV (by omega)] at hs
         refine aJ fun I a w hs=>?_
         refine nn ?_
         exact hs.ag (j+1,Ta) (by show j+1≤2;omega)
        ·try simp only[B] at bf
         refine wp_exit<|aF<|aF<|aY ?_
         refine aB fun I a w hs=>?_
         refine nn ?_
         have hs:=hs.drop 1
         rw[J8 aI (by omega)] at hs
         exact hs.ag (k+1,v2) (aI)
     ·try simp only[B] at aI
      refine wp_exit<|aF<|aF<|aY<|aG<|sr ?_
      refine hs.cT rfl bA bk (by decide) fun Tb I a w hs=>?_
      refine hs.s fun hs=>nn<|wp_seq<|wp_seq ?_
      rw[J6 (by omega)] at hs
      refine az fun I a w hs=>?_
      refine nn<|wp_block ?_
      refine St.lo (σ:=Nat×Value×Value) (3::(run 4 10 (run 54 99 []))) ⟨fun⟨i,v,u⟩=>[(11,AV.int i),(3,AV.val v),(10,AV.val u)],fun⟨i,v,u⟩=>[Own.row v 74 15 ((lE s (kT s i)).map aD.cells),Own.row u 97 3 ((kT s i).map ar.cells)],fun⟨i,v,u⟩=>i≤s.waits.length⟩ (fun⟨i,v,u⟩=>s.waits.length-i) (0,v,.slice (some ⟨Tb,0,none⟩) 0 0) hs ?ta ?tb
      case ta=>exact Nat.zero_le _
      case tb=>
       rintro⟨i,v,u⟩ I a w al hs
       have hi:i≤s.waits.length:=al
       dsimp only at hs
       refine aW fun I a w hs=>?_
       refine nn ?_
       refine hs.cd (fun aX=>?_) fun aX=>?_
       ·try simp only[B] at aX
        refine az fun I a w hs=>?_
        refine nn<|wp_block ?_
        refine St.lo (σ:=Nat×Value×Value) (3::(10::(run 2 12 (run 47 106 [])))) ⟨fun⟨j,v2,u2⟩=>[(12,AV.int j),(3,AV.val v2),(10,AV.val u2)],fun⟨j,v2,u2⟩=>[Own.row v2 74 15 ((lE s (gY s i j)).map aD.cells),Own.row u2 97 3 ((gY s i j).map ar.cells)],fun⟨j,v2,u2⟩=>j≤(ab s.waits i).aS.length⟩ (fun⟨j,v2,u2⟩=>(ab s.waits i).aS.length-j) (0,v,u) hs ?DC ?DD
        case DC=>exact Nat.zero_le _
        case DD=>
         rintro⟨j,v2,u2⟩ I a w al hs
         have hj:j≤(ab s.waits i).aS.length:=al
         have Tc:=n5 _ (bx aX)
         dsimp only at hs
         refine jR fun I a w hs=>?_
         refine nn ?_
         refine hs.cd (fun bU=>?_) fun bU=>?_
         ·try simp only[B] at bU
          refine jR fun I a w hs=>?_
          refine hs.alloc rfl bk eV fun yD I a w hs=>?_
          refine hs.sb 2 fun hs=>?_
          obtain⟨I,hs⟩:=hs.fb 2 13
          refine ai fun I a w hs=>?_
          refine hs.o (.c2 (IN s _ cH.aq)) fun hs=>?_
          refine aJ fun I a w hs=>?_
          refine hs.q .T (ye 1 (aw .ag (aw .ag aP)) rfl (wX (gY s i j) (ab (ab s.waits i).aS j)) (fun _ _ _ h=>h)) fun hs=>?_
          refine ai fun I a w hs=>?_
          refine nn ?_
          refine hs.cd (fun cQ=>?_) fun cQ=>?_
          ·skip
           refine ai fun I a w hs=>?_
           refine hs.o (.li [(ab (ab s.waits i).aS j).cells] fU (.u .nil)) fun hs=>?_
           refine hs.append 1 rfl bA bk rfl .tt .r rfl (by have:=uK n5 i hi;have:=xe s i j;have:=n5 _ (bx aX);simp;omega) fun Td a w hs=>?_
           rw[ck,show gY s i j++[(ab (ab s.waits i).aS j)]=gY s i (j+1) from by rw[uJ bU,zH cQ]] at hs
           refine hs.s fun hs=>nn ?_
           refine hs.dp 12 (by kernel_rfl) (by kernel_rfl) (by kernel_rfl) ?_
           simp only[List.take_succ_cons,List.take_zero,List.drop_succ_cons,List.drop_zero]
           refine eK ?_
           refine .o (.c1 (uw _ hg.site)) ?_
           refine de ?_
           refine .o (.bd dB (.k (.k (.k (.k (.t aZ.nil)))))) ?_
           refine .o (.li [(kf s (ab (ab s.waits i).aS j)).cells] fF (.u .nil)) ?_
           refine .nil ?_
           intro I a w hs
           refine hs.append 0 rfl dh cj rfl .tt .r rfl (by have:=uK n5 i hi;have:=xe s i j;have:=n5 _ (bx aX);have:=uI s _ (Nat.le_refl s.aH.length);simp[lE];omega) fun Te a w hs=>?_
           rw[ck,J2,show gY s i j++[(ab (ab s.waits i).aS j)]=gY s i (j+1) from by rw[uJ bU,zH cQ]] at hs
           refine aJ fun I a w hs=>?_
           refine nn ?_
           have hs:=hs.drop 2
           exact hs.ag (j+1,Te,Td) (bU)
          ·skip
           refine aB fun I a w hs=>?_
           refine nn ?_
           have hs:=hs.drop 2
           rw[show gY s i j=gY s i (j+1) from by rw[uJ bU,J1 cQ]] at hs
           exact hs.ag (j+1,v2,u2) (bU)
         ·try simp only[B] at bU
          refine wp_exit<|aF<|aF<|aY ?_
          refine aB fun I a w hs=>?_
          refine nn ?_
          rw[Dx aX (by omega)] at hs
          exact hs.ag (i+1,v2,u2) (aX)
       ·try simp only[B] at aX
        refine wp_exit<|aF<|aF<|aY<|aG<|wp_seq ?_
        rw[Dy s (by omega),Dz ae.2 h3] at hs
        obtain⟨I,hs⟩:=hs.fr 0 3
        refine az fun I a w hs=>?_
        refine hs.o (cI (CH (js s) (by have:=J3 hg;omega) (fun y hy=>sX (C7 hg y hy))) (aw .r aP)) fun hs=>?_
        refine hs.s fun hs=>nn<|wp_ret ?_
        refine hs.rt ?_
        rfl
set_option maxHeartbeats 4000000 in
theorem Tf (site:Nat) (h4:site<4):
 Fn Tryz.prog 22 [AV.int (site:Int)] ((sQ site).av):=by
 refine Fn.intro 30 Tryz.func22 rfl Tryz.ntmps22 rfl (by kernel_rfl) (fun W I a hs=>?_)
 have vJ:cJ (site:Int)=true:=kS.2 (by omega)
 refine sr<|hs.alloc rfl ba df fun b2 I a w hs=>?_
 refine az fun I a w hs=>?_
 refine hs.o (.c1 (oA ..)) fun hs=>hs.o .nt fun hs=>nn ?_
 refine hs.cd (fun ae=>?_) fun ae=>?_
 ·exfalso;rw[vJ] at ae;cases ae
  skip
 ·skip
  refine az fun I a w hs=>?_
  refine hs.o (.bd ym (.k (.k aZ.nil))) fun hs=>?_
  refine hs.alloc rfl ba ym fun b3 I a w hs=>?_
  refine hs.sb 1 fun hs=>?_
  refine wpList_nil ?_
  have hs:=hs.fi (sz:=2) 86
  refine az fun I a w hs=>?_
  refine nn<|wp_block ?_
  refine St.lo (σ:=Nat×Value) (run 2 4 (run 17 12 [])) ⟨fun⟨k,v⟩=>[(4,AV.int k)],fun⟨k,v⟩=>[Own.box b2 44 [AV.val (.int .i64 0),AV.val (.bool false),AV.rows 2 [],AV.rows 7 [],AV.rows 7 [],AV.rows 3 [],AV.rows 3 []],Own.box b3 44 [AV.int (site:Int),AV.bool true,AV.val v,AV.val (.slice none 0 0),AV.val (.slice none 0 0),AV.val (.slice none 0 0),AV.val (.slice none 0 0)],Own.row v 86 2 ((oT site k).map dt.cells)],fun⟨k,v⟩=>k≤3⟩ (fun⟨k,v⟩=>3-k) (0,.slice none 0 0) hs ?aN ?aO
  case aN=>exact Nat.zero_le _
  case aO=>
   rintro⟨k,v⟩ I a w al hs
   have hk:k≤3:=al
   dsimp only at hs
   refine ai fun I a w hs=>?_
   refine nn ?_
   refine hs.cd (fun ah=>?_) fun ah=>?_
   ·try simp only[B] at ah
    refine wp_skip<|aG<|wp_seq<|wp_block<|sr ?_
    refine hs.o (.bd lZ aZ.nil) fun hs=>?_
    refine hs.alloc rfl dz lZ fun b5 I a w hs=>?_
    refine ai fun I a w hs=>?_
    refine hs.o (pI .tt .c (fun _=>by omega)) fun hs=>?_
    refine hs.m fun hs=>?_
    refine hs.o (pI .tt .c (fun _=>by omega)) fun hs=>?_
    refine hs.o .F8 fun hs=>nn ?_
    refine hs.cd (fun aj=>?_) fun aj=>?_
    ·try simp only[B] at aj
     refine St.region ?_
     refine hs.o (.bd lZ (.k (.k aZ.nil))) fun hs=>?_
     refine aJ fun I a w hs=>?_
     refine hs.o (.li [dt.cells ⟨1,1⟩] yq (.u .nil)) fun hs=>?_
     refine hs.append 2 rfl ea dz rfl .tt .r rfl (by rw[List.length_map,zJ];simp;omega) fun DE a w hs=>?_
     refine hs.o .fv fun hs=>?_
     try have Tg:=hs.dS 2 rfl
     refine aJ fun I a w hs=>?_
     refine nn ?_
     have hs:=hs.drop 3
     rw[ck,J9 (by simpa using aj)] at hs
     exact hs.ag (k+1,DE) (by show k+1≤3;omega)
    ·try simp only[B] at aj
     refine aB fun I a w hs=>?_
     refine hs.o (.li [dt.cells ⟨0,0⟩] yq (.u .nil)) fun hs=>?_
     refine hs.append 2 rfl ea dz rfl .tt .r rfl (by rw[List.length_map,zJ];simp;omega) fun DE a w hs=>?_
     refine hs.o .fv fun hs=>?_
     try have Tg:=hs.dS 2 rfl
     refine aJ fun I a w hs=>?_
     refine nn ?_
     have hs:=hs.drop 3
     rw[ck,Ka (by simpa using aj)] at hs
     exact hs.ag (k+1,DE) (by show k+1≤3;omega)
   ·try simp only[B] at ah
    refine wp_exit<|aF<|aF<|aY<|aG<|wp_seq ?_
    obtain⟨I,hs⟩:=hs.fu 2 2 1
    have hs:=hs.km (q:=3) 1 rfl rfl (eb 7 _)
    have hs:=hs.km (q:=4) 1 rfl rfl (eb 7 _)
    have hs:=hs.km (q:=5) 1 rfl rfl (eb 3 _)
    have hs:=hs.km (q:=6) 1 rfl rfl (eb 3 _)
    refine ai fun I a w hs=>?_
    refine nn<|wp_ret ?_
    refine hs.ret rfl (.cons (.s 0 ba rfl rfl (by first|rfl|assumption)) aU.nil) ?_
    have rf:k=3:=by omega
    subst rf
    rfl
set_option maxHeartbeats 4000000 in
theorem Th (s:Server) (slot:Int) (hg:bw s):
 Fn Tryz.prog 152 [s.av,AV.int slot] (AV.c9 [(dP s slot).1.av,(dP s slot).2.1.av,AV.bool (dP s slot).2.2]):=by
 refine Fn.intro 59 Tryz.func152 rfl Tryz.ntmps152 rfl (by kernel_rfl) (fun W I a hs=>?_)
 have al:=iw.2 hg
 have cH:=hg.ok
 have h3:=hg.aR
 have e9:∀x,x=dt.cells ⟨(ab s.aR slot.toNat).bO+1,2⟩→(List.map dt.cells s.aR).set slot.toNat x=List.map dt.cells (ly s slot).aR:=fun x h=>by rw[h];exact List.map_set.symm
 refine az fun I a w hs=>?_
 refine hs.alloc rfl ba df fun b4 I a w hs=>hs.alloc rfl cj dB fun b5 I a w hs=>?_
 refine ai fun I a w hs=>?_
 refine hs.o (.c1 (q4 ..)) fun hs=>hs.o .nt fun hs=>nn ?_
 refine hs.cd (fun ae=>?_) fun ae=>?_
 ·exfalso;rw[al] at ae;cases ae
  skip
 ·skip
  refine az fun I a w hs=>?_
  refine hs.cW [] (QK s hg.small) (aw .tt aP) rfl (by decide) rfl fun jY I a w uL hs=>?_
  refine hs.alloc rfl ba df fun b7 I a w hs=>?_
  refine cx fun I a w hs=>?_
  refine hs.q .F (.cl (gP ..)) fun hs=>?_
  refine cx fun I a w hs=>?_
  refine hs.q .F ((by first|exact eZ ea dz .ag .ag (fun hg=>by simp[aQ] at hg;omega)|exact iM ea dz .ag .ag (fun hg=>by simp[aQ] at hg;omega)|exact iX ea dz .ag .ag (fun hg=>by simp[aQ] at hg;omega))) fun hs=>?_
  refine gi fun I a w hs=>?_
  refine hs.q .F ((by first|exact eZ ea dz .ag .ag (fun hg=>by simp[aQ] at hg;omega)|exact iM ea dz .ag .ag (fun hg=>by simp[aQ] at hg;omega)|exact iX ea dz .ag .ag (fun hg=>by simp[aQ] at hg;omega))) fun hs=>?_
  refine aJ fun I a w hs=>?_
  refine nn ?_
  refine hs.cd (fun ah=>?_) fun ah=>?_
  ·rw[Kb] at ah;replace ah:=nt ah
   obtain⟨I,hs⟩:=hs.fu 2 2 3
   refine az fun I a w hs=>?_
   refine hs.o (.bd dB aZ.nil) fun hs=>?_
   refine aB fun I a w hs=>?_
   refine nn<|wp_ret<|aE ?_
   refine hs.ret rfl (.cons (.s 0 ba rfl rfl (by first|rfl|assumption)) (.cons (.s 1 cj rfl rfl (by first|rfl|assumption)) (.cons (.t rfl) aU.nil))) ?_
   exact(by unfold dP;rw[ah];rfl)
  ·rw[Kb] at ah;replace ah:=nf ah;have Ti:=w6 ah;have Tj:=sV.1 (zi hg (i:=slot.toNat) (by omega));have tc:=zj hg ah
   refine wp_skip<|aG<|wp_seq ?_
   obtain⟨oH,acE,Tk⟩:=hs.g8 2 rfl (by simp only[List.length_map];omega)
   subst Tk
   refine hs.dp 12 (by kernel_rfl) (by kernel_rfl) (by kernel_rfl) ?_
   simp only[List.take_succ_cons,List.take_zero,List.drop_succ_cons,List.drop_zero]
   refine mK ?_
   refine .o (.bd lZ (.k (.k aZ.nil))) ?_
   refine .o (gv ea dz .tt .tt (fun _=>by simp only[List.length_map];omega)) ?_
   refine .nil ?_
   intro I a w hs
   refine hs.jx 2 dz .tt .tt rfl (by exact ek (by omega)) rfl rfl fun a w hs=>?_
   refine nn<|wp_seq ?_
   rw[e9] at hs
   rotate_left
   ·rfl
   obtain⟨I,hs⟩:=hs.fu 2 2 3
   refine hs.dp 4 (by kernel_rfl) (by kernel_rfl) (by kernel_rfl) ?_
   simp only[List.take_succ_cons,List.take_zero,List.drop_succ_cons,List.drop_zero]
   refine du ?_
   refine .o (cI (JE (ly s slot) slot tc.aq tc.waits hg.site tc.aR (by omega) (gB hg.aH)) (aw (.t rfl) (aw (.t rfl) aP))) ?_
   refine .nil ?_
   intro I a w hs
   refine aB fun I a w hs=>?_
   refine nn<|wp_ret ?_
   refine hs.ret rfl (.cons (.s 0 ba rfl rfl (by first|rfl|assumption)) (.cons (.s 1 cj rfl rfl (by first|rfl|assumption)) (.cons (.t rfl) aU.nil))) ?_
   exact(by unfold dP;rw[ah];rfl)
end Go.Proofs.YtoeioeimmfpefaaGreat

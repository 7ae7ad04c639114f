/- Part 44: contracts of functions, plain facts. -/
import Derived.Test.YtjepcfpkclegdaaGreatQ01
set_option linter.unusedVariables false
set_option linter.unusedSimpArgs false
set_option maxRecDepth 100000
set_option maxHeartbeats 4000000
namespace Go.Proofs.YtjepcfpkclegdaaGreat
open Go Go.RowKit
attribute [local irreducible] wpList Code.wp Ok
theorem ag3 {w:aE} (h:Inv w) {σ:Nat} (hσ:σ<2) {v:aB} (hv:v∈bI w (σ:Int)) (U:bL v.aq.site=(σ:Int)):
 v.aT∈(sv w (2*σ)).aD++(sv w (2*σ+1)).aD\/(dU (bI w ((1-σ:Nat):Int)) v.aT).isSome=true\/v∈(sv w (2*(1-σ))).waits++(sv w (2*(1-σ)+1)).waits:=by
 have hv:=(lS h hσ).1 hv
 have key:∀i,i<4->i/2=σ->v∈(sv w i).ao->¬behind (sv w i) (sv w (bW i)) (vk v)->v.aT∈(sv w (2*σ)).aD++(sv w (2*σ+1)).aD\/(dU (bI w ((1-σ:Nat):Int)) v.aT).isSome=true\/v∈(sv w (2*(1-σ))).waits++(sv w (2*(1-σ)+1)).waits:=λi hi e xE hb=>by
  rcases h.p8 i hi v xE (by rw[e];exact U) hb with h1|⟨j,hj,ej,h1|h1⟩
  ·left
   rw[List.mem_append]
   rcases(by omega:i=2*σ\/i=2*σ+1) with rfl|rfl
   ·exact .inl h1
   ·exact .inr h1
  ·right;left
   rw[ze h (by omega) ⟨j,hj,by rw[ej,e],h1⟩];rfl
  ·right;right
   rw[List.mem_append]
   rcases(by omega:j=2*(1-σ)\/j=2*(1-σ)+1) with rfl|rfl
   ·exact .inl h1
   ·exact .inr h1
 obtain⟨i,hi,e,xE⟩:=hv
 by_cases hb:behind (sv w i) (sv w (bW i)) (vk v)
 ·have h2:=h.pj i hi v xE hb
  exact key (bW i) (oi hi) (by rw[nB];exact e) h2 (by rw[j8];exact Hq (h.fits i hi _ (tV (jB (h.dj hi) (.inl xE)))) hb)
 ·exact key i hi e xE hb
theorem ag4 {w:aE} (h:Inv w) {σ:Nat} (hσ:σ<2) {d:au} (hd:d∈(sv w (2*σ)).aD++(sv w (2*σ+1)).aD):bL d.aq.site=(σ:Int):=by
 rcases List.mem_append.1 hd with hd|hd
 ·have:=h.aD (2*σ) (by omega) d hd
  rw[this];omega
 ·have:=h.aD (2*σ+1) (by omega) d hd
  rw[this];omega
theorem ag5 {l:List aB} {v:aB} (h:v∈l):(dU l v.aT).isSome=true:=by
 rw[NQ,decide_eq_true_eq];exact pd.2 ⟨v,h,rfl⟩
theorem ag6 (l:List au) (d:au) (h:d∈l):
 Fn Tryz.prog 32 [bm l,d.av] (AV.bool true):=by
 refine Fn.go 18 Tryz.func32 Tryz.ntmps32 (λW I a U=>?_)
 have hle:=U.cW (t:=0) rfl
 refine aI λI a w U=>?_
 refine St.lo (σ:=Nat) (run 14 4 []) ⟨λk=>[(5,AV.int k)],λk=>[],λk=>k<=l.length/\∀i,i<k->ab l i≠d⟩ (λk=>l.length-k) 0 U ?aJ ?aK
 case aJ=>exact⟨Nat.zero_le _,λi hi=>by omega⟩
 case aK=>
  rintro k I a w aj U
  obtain⟨hk,aN⟩:=aj
  refine aU λI a w U=>?_
  refine cz (λae=>?_) λae=>?_
  ·refine zt ?_
   refine U.dk ?_
   refine fi ?_
   refine .o (mM [_,_,_] [_,_,_] uT rfl rfl .tt .tt)<|.nil ?_
   intro I a w U
   refine aY ?_
   refine U.cd (λah=>?_) λah=>?_
   ·refine ai λI a w U=>?_
    refine U.rt ?_
    rfl
   ·rw[yo] at ah;rw[decide_eq_false_iff_not] at ah
    refine aI λI a w U=>?_
    exact U.ag (k+1) (⟨ae,λi h1=>by rcases Nat.lt_succ_iff_lt_or_eq.1 h1 with h|h;exact aN i h;rw[h];exact ah⟩)
  ·refine zt ?_
   refine ai λI a w U=>?_
   refine U.rt ?_
   exfalso;obtain⟨i,hi,e⟩:=gq h;exact aN i (by omega) e
theorem Sz (code:List UInt8):
 Fn Tryz.prog 13 [bE code] (AV.bool true):=by
 refine Fn.go 162 Tryz.func13 Tryz.ntmps13 (λW I a U=>?_)
 have hle:=U.cW (t:=0) rfl
 refine aU λI a w U=>?_
 refine cz (λae=>?_) λae=>?_
 ·refine ai λI a w U=>?_
  refine U.rt ?_
  rfl
 ·refine bH λI a w U=>?_
  refine U.cG [] (nU code (by omega)) (aw .r aL) rfl (by decide) rfl λl I a w amr U=>?_
  refine aF λI a w U=>?_
  refine U.o (.cl (nT l)) λU=>?_
  refine U.alloc rfl df dz λb4 I a w U=>?_
  refine ai λI a w U=>?_
  obtain⟨I,U⟩:=U.fb 0 4
  refine U.m λU=>?_
  refine U.o (.cl (mj l)) λU=>?_
  refine U.alloc rfl df dz λb5 I a w U=>?_
  refine ai λI a w U=>?_
  obtain⟨I,U⟩:=U.fb 1 5
  refine aF λI a w U=>?_
  refine U.o (.c2 (mG (ba l) (mI _))) λU=>?_
  refine ai λI a w U=>?_
  refine U.cd (λah=>?_) λah=>?_
  ·exfalso;simp at ah
   skip
  ·refine wp_skip<|aY<|wp_seq<|wp_seq ?_
   obtain⟨hI,hT⟩:=iQ l
   have lr:=lT l
   have ec:=hI.aW
   have lD:=rn l
   have dC:=qc l
   have sZ:=ec.small.2.2.1.1
   refine ai λI a w U=>?_
   have U:=U.drop 0
   refine St.lo (σ:=Nat) (2::(run 11 6 (run 132 30 []))) ⟨λs=>[(6,AV.int s)],λs=>[],λs=>s<=2⟩ (λs=>2-s) 0 U ?aJ ?aK
   case aJ=>exact Nat.zero_le _
   case aK=>
    rintro s I a w aj U
    have eS:s<=2:=aj
    refine aA λI a w U=>?_
    refine nw (λal=>?_) λal=>?_
    ·have dC:s<2:=by omega
     refine bk λI a w U=>?_
     rw[show(1-(s:Int))=((1-s:Nat):Int) from by omega] at U
     refine U.o (bY (p9 (ba l) ((1-s:Nat):Int) lr (by omega)) (aw (.t rfl) (aw (.t rfl) aL))) λU=>?_
     refine ai λI a w U=>?_
     obtain⟨-,-,⟨q0,-⟩,q1,-⟩:=(ec.site (2*(s:Int)).toNat (by omega)).2.small
     obtain⟨-,-,⟨q2,-⟩,q3,-⟩:=(ec.site (2*(s:Int)+1).toNat (by omega)).2.small
     obtain⟨-,-,⟨q4,-⟩,q5,-⟩:=(ec.site (2-2*(s:Int)).toNat (by omega)).2.small
     obtain⟨-,-,⟨q6,-⟩,q7,-⟩:=(ec.site (3-2*(s:Int)).toNat (by omega)).2.small
     have jX:=Ez lr (s:=(s:Int)) (by omega)
     have U:=U.fT
     refine U.eo [([],none),([],none),([],none),([],none),([],none),([],none),([],none),([],none),([0],some (0,[46])),([],none),([],none),([],none),([],none),([],none),([],none),([],none),([],none),([0],some (0,[])),([],none)] (by kernel_rfl) (by kernel_rfl) rfl ?_
     refine .o (rG dJ cH) ?_
     refine cD ?_
     refine .o (kf .c .tt (λ_=>by omega)) ?_
     refine cD ?_
     refine aS.wh 0 rfl rfl dJ cH rfl .tt .r (by simp;omega) ?_
     refine cD ?_
     refine .o (kf .c .tt (λ_=>by omega)) ?_
     refine dq ?_
     refine aS.xW 0 rfl rfl dJ cH rfl .r (by simp;omega) ?_
     refine bn ?_
     refine .nil ?_
     intro I a w U
     rw[show(2*(s:Int)).toNat=2*s from by omega,show(2*(s:Int)+1).toNat=2*s+1 from by omega,<-List.map_append] at U
     refine zt ?_
     have U:=U.fT
     refine U.eo [([],none),([],none),([],none),([],none),([],none),([],none),([],none),([],none),([],none),([1],some (1,[65])),([],none),([],none),([],none),([],none),([],none),([],none),([],none),([],none),([1],some (1,[])),([],none)] (by kernel_rfl) (by kernel_rfl) rfl ?_
     refine .o (rG cJ bA) ?_
     refine cD ?_
     refine .o (kf .c .tt (λ_=>by omega)) ?_
     refine dq ?_
     refine aS.wh 1 rfl rfl cJ bA rfl .tt .r (by simp;omega) ?_
     refine cD ?_
     refine .o (kf .c .tt (λ_=>by omega)) ?_
     refine dq ?_
     refine aS.xW 1 rfl rfl cJ bA rfl .r (by simp;omega) ?_
     refine bn ?_
     refine .nil ?_
     intro I a w U
     rw[show(2-2*(s:Int)).toNat=2*(1-s) from by omega,show(3-2*(s:Int)).toNat=2*(1-s)+1 from by omega,<-List.map_append] at U
     refine aY<|wp_seq ?_
     have kv:((ab (ba l).ax (2*s)).aD++(ab (ba l).ax (2*s+1)).aD).length<=2097152:=by rw[List.length_append];rw[show(2*(s:Int)).toNat=2*s from by omega] at q1;rw[show(2*(s:Int)+1).toNat=2*s+1 from by omega] at q3;omega
     refine aF λI a w U=>?_
     refine U.o (bY (p9 (ba l) s lr (by omega)) (aw (.t rfl) (aw (.t rfl) aL))) λU=>?_
     refine aA λI a w U=>?_
     have U:=U.drop 0
     refine St.lo (σ:=Nat) (2::(11::(run 15 78 []))) ⟨λk=>[(11,AV.int k)],λk=>[],λk=>k<=((ab (ba l).ax (2*s)).aD++(ab (ba l).ax (2*s+1)).aD).length⟩ (λk=>((ab (ba l).ax (2*s)).aD++(ab (ba l).ax (2*s+1)).aD).length-k) 0 U ?cU ?cV
     case cU=>exact Nat.zero_le _
     case cV=>
      rintro k I a w aj U
      have m5:k<=((ab (ba l).ax (2*s)).aD++(ab (ba l).ax (2*s+1)).aD).length:=aj
      refine aU λI a w U=>?_
      refine cz (λaH=>?_) λaH=>?_
      ·refine dD λI a w U=>?_
       refine U.o (.c1 (tH ..)) λU=>?_
       refine aA λI a w U=>?_
       refine U.cd (λaM=>?_) λaM=>?_
       ·exfalso;simp only[B] at aM;exact aM (ag4 hI dC (aV aH))
        skip
       ·refine aI λI a w U=>?_
        exact U.ag (k+1) (by show k+1<=_;omega)
      ·refine zt ?_
       refine ai λI a w U=>?_
       have U:=U.drop 0
       refine St.lo (σ:=Nat) (2::(run 5 12 (run 69 93 []))) ⟨λn=>[(12,AV.int n)],λn=>[],λn=>n<=(bI (ba l) s).length⟩ (λn=>(bI (ba l) s).length-n) 0 U ?fo ?fq
       case fo=>exact Nat.zero_le _
       case fq=>
        rintro n I a w aj U
        have qQ:n<=(bI (ba l) s).length:=aj
        refine aU λI a w U=>?_
        refine cz (λbh=>?_) λbh=>?_
        ·refine zt ?_
         have U:=U.fT
         refine U.eo [([],none),([],none),([],none),([],none),([],none),([],none),([],none),([],none),([],none),([],none),([],none),([],none),([],none),([],none),([],none),([0],some (0,[13])),([0],some (0,[13])),([],none)] (by kernel_rfl) (by kernel_rfl) rfl ?_
         refine Af ?_
         refine .o (.cl (Da (bI (ba l) ((1-s:Nat):Int)) (ab (bI (ba l) s) n).key (ab (bI (ba l) s) n).aq)) ?_
         refine cD ?_
         refine aS.alloc 0 rfl rfl bA dE<|aS.mz 0 rfl bA rfl .tt rfl rfl ?_
         refine bn ?_
         refine .nil ?_
         intro I a w U
         obtain⟨xf,U⟩:=U.lC (d:=13) 0 rfl rfl
         obtain⟨I,U⟩:=U.fb 0 13
         refine zt ?_
         have U:=U.fT
         refine U.eo [([],none),([],none),([],none),([],none),([],none),([],none),([],none),([],none),([],none),([],none),([],none),([],none),([],none),([],none),([],none),([1],some (1,[15])),([1],some (1,[15])),([],none)] (by kernel_rfl) (by kernel_rfl) rfl ?_
         refine Af ?_
         refine .o (.cl (Da ((ab (ba l).ax (2*(1-s))).waits++(ab (ba l).ax (2*(1-s)+1)).waits) (ab (bI (ba l) s) n).key (ab (bI (ba l) s) n).aq)) ?_
         refine cD ?_
         refine aS.alloc 1 rfl rfl bA dE<|aS.mz 1 rfl bA rfl .tt rfl rfl ?_
         refine bn ?_
         refine .nil ?_
         intro I a w U
         obtain⟨DJ,U⟩:=U.lC (d:=15) 1 rfl rfl
         obtain⟨I,U⟩:=U.fb 1 15
         refine aY<|wp_seq<|U.dk ?_
         refine fK ?_
         refine .o (.c1 (tH ..)) ?_
         refine lG ?_
         refine fK ?_
         refine .q .T (.bd fL (.k (h:=.ag) (.t (h:=.ag) .nil))) ?_
         refine .q .T (Ah (λhg=>ag6 ((ab (ba l).ax (2*s)).aD++(ab (ba l).ax (2*s+1)).aD) (ab (bI (ba l) s) n).aT (by simp only[B] at hg;obtain⟨⟨g1,g2⟩,g3⟩:=hg;rcases ag3 hI (σ:=s) (by omega) (aV bh) g1 with h|h|h;exact h;(exfalso;rw[show(⟨(ab (bI (ba l) s) n).key,(ab (bI (ba l) s) n).aq⟩:au)=(ab (bI (ba l) s) n).aT from rfl,h] at g2;cases g2);(exfalso;unfold sv at h;rw[show(⟨(ab (bI (ba l) s) n).key,(ab (bI (ba l) s) n).aq⟩:au)=(ab (bI (ba l) s) n).aT from rfl,ag5 h] at g3;cases g3))) (aw .ag (aw .ag aL))) ?_
         refine bT ?_
         refine .nil ?_
         intro I a w U
         refine aY ?_
         refine U.cd (λaZ=>?_) λaZ=>?_
         ·exfalso;simp at aZ
          skip
         ·refine aI λI a w U=>?_
          have U:=U.drop 0
          exact U.ag (n+1) (by show n+1<=_;omega)
        ·refine zt ?_
         refine aI λI a w U=>?_
         exact U.ag (s+1) (by show s+1<=_;omega)
    ·refine zt ?_
     refine ai λI a w U=>?_
     refine U.rt ?_
     rfl
end Go.Proofs.YtjepcfpkclegdaaGreat

/- Part 45: contracts of functions, plain facts. -/
import Derived.Test.YtjepcfpkclegdaaGreatP40
set_option linter.unusedVariables false
set_option linter.unusedSimpArgs false
set_option maxRecDepth 100000
set_option maxHeartbeats 4000000
namespace Go.Proofs.YtjepcfpkclegdaaGreat
open Go Go.RowKit
attribute [local irreducible] wpList Code.wp Ok
theorem ag7 {w:aE} (h:Inv w) {q:Call} (hq:q∈w.calls) {a:Answer} (ha:a∈q.az) (hy:a.yes=true):
 (∃p∈w.calls,p.an=a.be.an/\p.num=a.be.call/\p.kind=1/\ab p.keys 0=a.be.key/\p.val=a.be.val)/\dU (bI w q.an) a.be.aT=some a.be:=by
 have hv:=(h.az q hq).ee a ha hy
 obtain⟨p,hp,c1,c2,c3,c4,c5,_⟩:=h.made _ _ hv
 have hc:=ui h.aW hq
 have:=ze h hc.1 hv
 rw[hc.2] at this
 exact⟨⟨p,hp,c1,c2,c3,c4,c5⟩,this⟩
theorem Sa (l m:List aB) (h:∀v∈m,dU l v.aT=some v):
 Fn Tryz.prog 33 [bX l,bX m] (AV.bool true):=by
 refine Fn.go 40 Tryz.func33 Tryz.ntmps33 (λW I a U=>?_)
 have hle:=U.cW (t:=1) rfl
 refine aA λI a w U=>?_
 refine St.lo (σ:=Nat) (run 36 4 []) ⟨λk=>[(5,AV.int k)],λk=>[],λk=>k<=m.length⟩ (λk=>m.length-k) 0 U ?aJ ?aK
 case aJ=>exact Nat.zero_le _
 case aK=>
  rintro k I a w aj U
  have hk:k<=m.length:=aj
  refine aU λI a w U=>?_
  refine cz (λae=>?_) λae=>?_
  ·refine zt ?_
   have U:=U.fT
   refine U.eo [([],none),([],none),([],none),([],none),([],none),([],none),([],none),([],none),([],none),([],none),([],none),([],none),([],none),([],none),([],none),([0],some (0,[6])),([0],some (0,[6])),([],none)] (by kernel_rfl) (by kernel_rfl) rfl ?_
   refine Af ?_
   refine .o (bY (G9 (h _ (aV ae))) (aw .r (aw .tt (aw .tt aL)))) ?_
   refine cD ?_
   refine aS.alloc 0 rfl rfl bA dE<|aS.mz 0 rfl bA rfl .tt rfl rfl ?_
   refine bn ?_
   refine .nil ?_
   intro I a w U
   obtain⟨b6,U⟩:=U.lC (d:=6) 0 rfl rfl
   obtain⟨I,U⟩:=U.fb 0 6
   refine aY<|wp_seq<|U.dk ?_
   refine nx ?_
   refine .q .F (.cl (G7 (ab m k))) ?_
   refine bT ?_
   refine .nil ?_
   intro I a w U
   refine aY ?_
   refine U.cd (λah=>?_) λah=>?_
   ·exfalso;simp at ah
    skip
   ·refine aI λI a w U=>?_
    have U:=U.drop 0
    exact U.ag (k+1) (ae)
  ·refine zt ?_
   refine ai λI a w U=>?_
   refine U.rt ?_
   rfl
def JV (v:aB) (d:Call):Bool:=d.an==v.an&&d.num==v.call&&d.kind==1&&ab d.keys 0==v.key&&d.val==v.val
theorem ag8 {α:Type} [Inhabited α] {l:List α} {p:α->Bool} {k:Nat} (h:k<l.length):(l.take (k+1)).any p=((l.take k).any p||p (ab l k)):=by rw[dW h,List.any_append];simp
theorem SN (code:List UInt8):
 Fn Tryz.prog 14 [bE code] (AV.bool true):=by
 refine Fn.go 118 Tryz.func14 Tryz.ntmps14 (λW I a U=>?_)
 have hle:=U.cW (t:=0) rfl
 refine aU λI a w U=>?_
 refine cz (λae=>?_) λae=>?_
 ·refine ai λI a w U=>?_
  refine U.rt ?_
  rfl
 ·refine bH λI a w U=>?_
  refine U.cG [] (nU code (by omega)) (aw .r aL) rfl (by decide) rfl λl I a w R8 U=>?_
  refine aF λI a w U=>?_
  refine U.o (.cl (nT l)) λU=>?_
  refine U.alloc rfl df dz λb4 I a w U=>?_
  refine ai λI a w U=>?_
  obtain⟨I,U⟩:=U.fb 0 4
  refine U.m λU=>?_
  refine U.o (.cl (mj l)) λU=>?_
  refine U.alloc rfl df dz λb5 I a w U=>?_
  refine ai λI a w U=>?_
  obtain⟨I,U⟩:=U.fb 1 5
  refine aF λI a w U=>?_
  refine U.o (.c2 (mG (ba l) (mI _))) λU=>?_
  refine ai λI a w U=>?_
  refine U.cd (λah=>?_) λah=>?_
  ·exfalso;simp at ah
   skip
  ·refine wp_skip<|aY<|wp_seq<|wp_seq ?_
   obtain⟨hI,hT⟩:=iQ l
   have lr:=lT l
   have ec:=hI.aW
   have lD:=rn l
   have dC:=qc l
   have sZ:=ec.small.2.2.1.1
   refine ai λI a w U=>?_
   have U:=U.drop 0
   refine St.lo (σ:=Nat) (2::(run 7 6 (run 92 26 []))) ⟨λi=>[(6,AV.int i)],λi=>[],λi=>i<=(ba l).calls.length⟩ (λi=>(ba l).calls.length-i) 0 U ?aJ ?aK
   case aJ=>exact Nat.zero_le _
   case aK=>
    rintro i I a w aj U
    have uv:i<=(ba l).calls.length:=aj
    refine ck λI a w U=>?_
    refine cz (λal=>?_) λal=>?_
    ·refine bM λI a w U=>?_
     refine U.alloc rfl dQ gD λb7 I a w U=>?_
     refine ai λI a w U=>?_
     obtain⟨I,U⟩:=U.fb 0 7
     refine ai λI a w U=>?_
     have U:=U.drop 0
     refine St.lo (σ:=Nat) (2::(run 5 8 (run 80 38 []))) ⟨λk=>[(8,AV.int k)],λk=>[],λk=>k<=(ab (ba l).calls i).az.length⟩ (λk=>(ab (ba l).calls i).az.length-k) 0 U ?cU ?cV
     case cU=>exact Nat.zero_le _
     case cV=>
      rintro k I a w aj U
      have m5:k<=(ab (ba l).calls i).az.length:=aj
      refine wp_seq<|wp_seq ?_
      have si:=(ec.call al).lens
      refine ck λI a w U=>?_
      refine cz (λaH=>?_) λaH=>?_
      ·refine jT λI a w U=>?_
       refine Cl (λaM=>?_) λaM=>?_
       ·refine zt ?_
        refine aI λI a w U=>?_
        exact U.ag (k+1) (by show k+1<=_;omega)
       ·refine dD λI a w U=>?_
        refine U.alloc rfl bA dE λb9 I a w U=>?_
        refine ai λI a w U=>?_
        obtain⟨I,U⟩:=U.fb 0 9
        refine aA λI a w U=>?_
        have U:=U.drop 0
        refine St.lo (σ:=Nat) (run 3 10 (run 48 58 [])) ⟨λn=>[(11,AV.int n),(10,AV.bool (((ba l).calls.take n).any (JV (ab (ab (ba l).calls i).az k).be)))],λn=>[],λn=>n<=(ba l).calls.length⟩ (λn=>(ba l).calls.length-n) 0 U ?fo ?fq
        case fo=>exact Nat.zero_le _
        case fq=>
         rintro n I a w aj U
         have qQ:n<=(ba l).calls.length:=aj
         refine ck λI a w U=>?_
         refine cz (λbh=>?_) λbh=>?_
         ·refine wp_skip<|aY<|wp_seq<|wp_block<|wp_seq ?_
          have kg:=(ec.call bh).D3
          refine bM λI a w U=>?_
          refine U.alloc rfl dQ gD λtZ I a w U=>?_
          refine ai λI a w U=>?_
          obtain⟨I,U⟩:=U.fb 0 12
          refine U.dk ?_
          refine lG ?_
          refine fK ?_
          refine .q .T2 (dS (i:=0) ju gO .ag .c (λhg=>by omega)) ?_
          refine qn ?_
          refine .nil ?_
          intro I a w U
          refine aI λI a w U=>?_
          have U:=U.drop 0
          refine U.again (n+1) ?nO ?nP (by rfl) ?nQ (by repeat(first|exact Env.le_rfl|refine Env.jf rfl ?_))
          case nO=>omega
          case nP=>show n+1<=_;omega
          case nQ=>exact(Env.dK rfl (by rfl) (Env.dK rfl (by exact congrArg AV.bool (ag8 bh).symm) Env.le_nil))
         ·refine zt ?_
          obtain⟨⟨p,hp,p1,p2,p3,p4,p5⟩,hv⟩:=ag7 hI (aV al) (aV aH) aM
          have hm:((ba l).calls.take n).any (JV (ab (ab (ba l).calls i).az k).be)=true:=by rw[List.take_of_length_le (by omega),List.any_eq_true];exact⟨p,hp,by unfold JV;simp[p1,p2,p3,p4,p5]⟩
          dsimp only at U
          rw[hm] at U
          have bB:=ui ec (aV al)
          refine U.dk ?_
          refine fK ?_
          refine .q .F (bY (p9 (ba l) (ab (ba l).calls i).an lr (by omega)) (aw .ag (aw .ag aL))) ?_
          refine bn ?_
          refine .q .F (.li [(ab (ab (ba l).calls i).az k).be.cells] lH (.u .nil)) ?_
          refine .q .F (.cl (Sa (bI (ba l) (ab (ba l).calls i).an) [(ab (ab (ba l).calls i).az k).be] (λu hu=>by obtain rfl:=List.mem_singleton.1 hu;exact hv))) ?_
          refine bT ?_
          refine .nil ?_
          intro I a w U
          refine aY ?_
          refine U.cd (λaZ=>?_) λaZ=>?_
          ·exfalso;simp at aZ
           skip
          ·refine aI λI a w U=>?_
           exact U.ag (k+1) (by show k+1<=_;omega)
      ·refine zt ?_
       refine aI λI a w U=>?_
       exact U.ag (i+1) (by show i+1<=_;omega)
    ·refine zt ?_
     refine ai λI a w U=>?_
     refine U.rt ?_
     rfl
end Go.Proofs.YtjepcfpkclegdaaGreat

/- Part 25: rules of the proofs, contracts of functions, plain facts. -/
import Derived.Test.YtoeioeimmfpefaaGreatP24
set_option linter.unusedVariables false
set_option linter.unusedSimpArgs false
set_option maxRecDepth 100000
set_option maxHeartbeats 4000000
namespace Go.Proofs.YtoeioeimmfpefaaGreat
open Go Go.RowKit
attribute [local irreducible] wpList Code.wp Ok
theorem wY {α:Type} [Inhabited α] {R:α→α→Prop} {l:List α} (h:l.Pairwise R) {i j:Nat} (gM:i<j) (hj:j<l.length):R (ab l i) (ab l j):=by
 rw[List.pairwise_iff_getElem] at h
 have:=h i j (by omega) hj gM
 have e:∀k (hk:k<l.length),l[k]=ab l k:=fun k hk=>by simp[ab,hk]
 rwa[e i (by omega),e j hj] at this
theorem CO {α:Type} [Inhabited α] {eD:α→Bool} {less:α→α→Bool} (tr:∀{a b d},less a b=true→less b d=true→less a d=true) {l:List α}:
 cO l.length (ee eD less l)=true↔(∀x∈l,eD x=true)∧l.Pairwise fun a b=>less a b=true:=by
 rw[iy]
 constructor
 ·intro h
  refine⟨fun x hx=>?_,QF (R:=fun a b=>less a b=true) (fun h1 h2=>tr h1 h2) fun i h0 hi=>?_⟩
  ·obtain⟨k,hk,rfl⟩:=hO hx
   have:=h k hk
   unfold ee at this;rw[Bool.and_eq_true] at this;exact this.1
  ·have:=h i hi
   unfold ee at this
   rw[Bool.and_eq_true,Bool.or_eq_true,decide_eq_true_eq] at this
   rcases this.2 with h3|h3
   ·omega
   ·exact h3
 ·rintro⟨h1,h2⟩ i hi
  unfold ee
  rw[Bool.and_eq_true,Bool.or_eq_true,decide_eq_true_eq]
  refine⟨h1 _ (bx hi),?_⟩
  rcases Nat.eq_zero_or_pos i with h|h
  ·exact Or.inl h
  ·exact Or.inr (wY h2 (by omega) hi)
theorem QU {a b d:aK} (h:fE a b=true) (h':fE b d=true):fE a d=true:=wG h h'
theorem sT {l:List aK}:cg l=true↔l.length≤80∧(∀v∈l,et v=true)∧VS l:=by
 unfold cg
 rw[Bool.and_eq_true,decide_eq_true_eq,CO (less:=fE) (fun h1 h2=>QU h1 h2)];rfl
theorem ux {l:List ar}:fe l=true↔l.length≤80∧(∀d∈l,jA d=true)∧l.Pairwise fun a b=>dD a b=true:=by
 unfold fe
 rw[Bool.and_eq_true,decide_eq_true_eq,CO (less:=dD) (fun h1 h2=>wG h1 h2)]
theorem y9 {l:List aK} {v:aK} (h:cg l=true) (hv:et v=true) (hp:placeOf l v.bH<0) (hl:l.length<80):cg (eE l v)=true:=by
 obtain⟨h1,h2,h3⟩:=sT.1 h
 refine sT.2 ⟨by rw[Iv];omega,fun x hx=>?_,Iw h3 (oK hp)⟩
 rcases lr.1 hx with rfl|hx
 ·exact hv
 ·exact h2 x hx
theorem wZ {l m:List aK} (h:cg l=true) (hs:m.Sublist l):cg m=true:=by
 obtain⟨h1,h2,h3⟩:=sT.1 h
 exact sT.2 ⟨Nat.le_trans hs.length_le h1,fun x hx=>h2 x (hs.subset hx),h3.sublist hs⟩
theorem za {l m:List ar} (h:fe l=true) (hs:m.Sublist l):fe m=true:=by
 obtain⟨h1,h2,h3⟩:=ux.1 h
 exact ux.2 ⟨Nat.le_trans hs.length_le h1,fun x hx=>h2 x (hs.subset hx),h3.sublist hs⟩
theorem uy {α:Type} (l:List α) (n:Nat):(l.take n++l.drop (n+1)).Sublist l:=by
 have e:l=l.take n++l.drop n:=(List.take_append_drop n l).symm
 conv=>rhs;rw[e]
 refine List.Sublist.append (List.Sublist.refl _) ?_
 rw[←List.drop_drop]
 exact List.drop_sublist 1 _
theorem CP {s:Server} (h:fV s=true):dW s:=by
 obtain⟨h1,h2,h3,h4,h5,h6⟩:=wV h
 refine⟨h1,h2,h3,fun v hv=>?_,gB h5⟩
 simp only[fV,Bool.and_eq_true] at h
 obtain⟨k,hk,rfl⟩:=hO hv
 have:=(iy.1 h.1.2) k hk
 simp only[oE,pW,Bool.and_eq_true,decide_eq_true_eq] at this
 exact this.2
theorem IQ {l:List aK} (h:VS l) {i j:Nat} (hi:i<l.length) (hj:j<l.length) (bn:i≠j):(ab l i).bH≠(ab l j).bH:=fun e=>by
 rcases Nat.lt_or_gt_of_ne bn with bJ|bJ
 ·have:=wY h bJ hj
  unfold fE at this;rw[e,yU] at this;cases this
 ·have:=wY h bJ hi
  unfold fE at this;rw[e,yU] at this;cases this
theorem QV {α:Type} [Inhabited α] {l:List α} {n:Nat} {x:α} (h:x∈l.take n++l.drop (n+1)):∃k,k<l.length∧k≠n∧ab l k=x:=by
 rcases List.mem_append.1 h with h|h
 ·obtain⟨k,hk,rfl⟩:=List.getElem_of_mem h
  have ec:k<n∧k<l.length:=by simp at hk;omega
  exact⟨k,ec.2,by omega,by simp[ab,ec.2]⟩
 ·obtain⟨k,hk,rfl⟩:=List.getElem_of_mem h
  have ec:n+1+k<l.length:=by simp at hk;omega
  exact⟨n+1+k,ec,by omega,by simp[ab,ec]⟩
theorem dW.uz {s:Server} (h:dW s) (hp:0≤eA s):dW (lu s (eA s).toNat):=by
 obtain⟨hl,mW,_⟩:=wN hp
 have hm:=bx hl
 have QW:=(sT.1 h.waits).2.2
 refine⟨h.aR,y9 h.aq (gA h.waits _ hm) (h.apart _ hm) mW,wZ h.waits (uy _ _),fun v hv=>yV fun x hx=>?_,h.bq⟩
 obtain⟨k,hk,bn,rfl⟩:=QV hv
 rcases lr.1 hx with rfl|hx
 ·exact fun e=>IQ QW hk hl bn e.symm
 ·exact oK (h.apart _ (bx hk)) x hx
theorem dW.small {s:Server} (h:dW s) (ho:s.aH.length≤1048576):oL s:=⟨by have:=h.aR;omega,ru h.aq,ru h.waits,ho,by have:=h.bq;omega⟩
theorem QX {s:Server} {k:Nat} (mW:s.aq.length<80) (hk:k<s.waits.length) (h:∀i,i<k→jU s (ab s.waits i)=false) (hp:jU s (ab s.waits k)=true):eA s=k:=by
 unfold eA;rw[if_pos mW];exact mM hk h hp
theorem IS {s:Server} (h:s.aq.length<80→∀i,i<s.waits.length→jU s (ab s.waits i)=false):eA s<0:=by
 unfold eA
 split
 ·rename_i mW
  rw[l5 (k:=s.waits.length) (Nat.le_refl _) (h mW)];omega
 ·omega
theorem IT:∀(n:Nat) (s:Server),(kG n s).site=s.site∧(kG n s).up=s.up∧(kG n s).aR=s.aR∧(kG n s).aH=s.aH∧(kG n s).bq=s.bq
 |0,s=>⟨rfl,rfl,rfl,rfl,rfl⟩
 |n+1,s=>by
  unfold kG
  split
  ·exact⟨rfl,rfl,rfl,rfl,rfl⟩
  ·obtain⟨a,b,d,e,f⟩:=IT n (lu s (eA s).toNat)
   exact⟨a,b,d,e,f⟩
theorem dW.CQ {s:Server} (h:dW s):dW (gD s):=by
 have:∀(n:Nat) (s:Server),dW s→dW (kG n s):=by
  intro n
  induction n with
  |zero=>exact fun s h=>h
  |succ n ih=>
   intro s h
   unfold kG
   split
   ·exact h
   ·exact ih _ (h.uz (by omega))
 exact this _ _ h
theorem dW.settle {s:Server} (h:dW s):dW (fX s):=by
 have h2:=h.CQ
 exact⟨h2.aR,h2.aq,h2.waits,h2.apart,Nat.le_trans (List.length_filter_le _ _) h2.bq⟩
theorem IU (s:Server) (v:aK):(((ab s.aR (gx v.key).toNat).er !=1)||!yY s v)=!jU s v:=by
 unfold jU eh
 simp only[bne]
 cases((ab s.aR (gx v.key).toNat).er==1)<;>simp
theorem QY {s u u2:Server} {g2:Bool} {i:Nat} (hu:dW u) (mb:gD u=gD s) (zb:u.bq=s.bq) (hf:g2=false→u=u2∧i≤u.waits.length∧(u.aq.length<80→∀j,j<i→jU u (ab u.waits j)=false))
 (ht:g2=true→0≤eA u∧u2=lu u (eA u).toNat) (hb:u2.waits.length≤i∨g2=true):dW u2∧gD u2=gD s∧(g2=false→eA u2<0)∧u2.bq=s.bq:=by
 cases g2 with
 |true=>
  obtain⟨h1,rfl⟩:=ht rfl
  exact⟨hu.uz h1,by rw[←ID h1,mb],(fun e=>by cases e),zb⟩
 |false=>
  obtain⟨rfl,h1,h2⟩:=hf rfl
  have h3:u.waits.length≤i:=hb.resolve_right (by simp)
  exact⟨hu,mb,fun _=>IS fun mW j hj=>h2 mW j (by omega),zb⟩
theorem QZ {u u2:Server} {g2:Bool} {i:Nat} (hf:g2=false→u=u2∧i≤u.waits.length∧(u.aq.length<80→∀j,j<i→jU u (ab u.waits j)=false))
 (ht:g2=true→0≤eA u∧u2=lu u (eA u).toNat):2*u2.waits.length+g2.toNat<2*u.waits.length+true.toNat:=by
 cases g2 with
 |true=>
  obtain⟨h1,rfl⟩:=ht rfl
  have:=(wN h1).1
  rw[CE this];simp;omega
 |false=>
  obtain⟨rfl,h1,h2⟩:=hf rfl
  simp
theorem Q0 {s:Server} (h:dW s) {i:Nat} (hi:i<s.waits.length) (hn:gV s.aq (ab s.waits i)=false):80≤s.aq.length:=by
 have h1:=gA h.waits _ (bx hi)
 have h2:=h.apart _ (bx hi)
 unfold gV at hn
 rw[h1] at hn
 simp only[Bool.true_and,Bool.and_eq_false_iff,decide_eq_false_iff_not] at hn
 rcases hn with hn|hn
 ·exact absurd h2 hn
 ·omega
set_option maxHeartbeats 4000000 in
theorem uB (s:Server) (h:dW s):
 Fn Tryz.prog 212 [s.av] ((fX s).av):=by
 refine Fn.intro 91 Tryz.func212 rfl Tryz.ntmps212 rfl (by kernel_rfl) (fun W I a hs=>?_)
 refine sr<|hs.box rfl .tt fun b1 I a w hs=>hs.alloc rfl ba df fun b2 I a w hs=>?_
 refine az fun I a w hs=>?_
 refine nn<|wp_seq<|wp_block ?_
 refine St.lo (σ:=Bool×Server) (run 5 3 (run 55 10 [])) ⟨fun⟨g,u⟩=>[(3,AV.bool g)],fun⟨g,u⟩=>[Own.box b1 44 u.cells,Own.box b2 44 [AV.val (.int .i64 0),AV.val (.bool false),AV.rows 2 [],AV.rows 7 [],AV.rows 7 [],AV.rows 3 [],AV.rows 3 []]],fun⟨g,u⟩=>dW u∧gD u=gD s∧(g=false→eA u<0)∧u.bq=s.bq⟩ (fun⟨g,u⟩=>2*u.waits.length+g.toNat) (true,s) hs ?aN ?aO
 case aN=>exact⟨h,rfl,(fun e=>by cases e),rfl⟩
 case aO=>
  rintro⟨g,u⟩ I a w al hs
  obtain⟨hu,mb,Q1,zb⟩:=al
  have ju:=gn hu.waits
  have jP:=hu.bq
  dsimp only at hs
  refine az fun I a w hs=>?_
  refine nn ?_
  refine hs.cd (fun ae=>?_) fun ae=>?_
  ·skip
   refine ai fun I a w hs=>?_
   refine nn<|wp_block ?_
   refine St.lo (σ:=Nat×Bool×Server) (run 5 3 (run 54 11 [])) ⟨fun⟨i,g2,u2⟩=>[(4,AV.int i),(3,AV.bool g2)],fun⟨i,g2,u2⟩=>[Own.box b1 44 u2.cells,Own.box b2 44 [AV.val (.int .i64 0),AV.val (.bool false),AV.rows 2 [],AV.rows 7 [],AV.rows 7 [],AV.rows 3 [],AV.rows 3 []]],fun⟨i,g2,u2⟩=>(g2=false→u=u2∧i≤u.waits.length∧(u.aq.length<80→∀j,j<i→jU u (ab u.waits j)=false))∧(g2=true→0≤eA u∧u2=lu u (eA u).toNat)⟩ (fun⟨i,g2,u2⟩=>if g2 then 0 else u.waits.length-i+1) (0,false,u) hs ?dT ?dU
   case dT=>exact⟨fun _=>⟨rfl,Nat.zero_le _,fun _ j hj=>by omega⟩,fun e=>by cases e⟩
   case dU=>
    rintro⟨i,g2,u2⟩ I a w al hs
    obtain⟨hf,ht⟩:=al
    dsimp only at hs
    refine jR fun I a w hs=>?_
    refine nn ?_
    refine hs.cd (fun ah=>?_) fun ah=>?_
    ·simp only[B] at ah;obtain⟨hi,rv⟩:=ah;obtain⟨rfl,jm,mX⟩:=hf rv;subst rv
     refine aB fun I a w hs=>?_
     refine hs.o ((by first|exact eZ cM bt .tt .tt (fun _=>by exact hi)|exact iM cM bt .tt .tt (fun _=>by exact hi)|exact iX cM bt .tt .tt (fun _=>by exact hi))) fun hs=>?_
     refine hs.o .la fun hs=>?_
     refine hs.alloc rfl bt dO fun b5 I a w hs=>?_
     refine hs.sb 2 fun hs=>?_
     obtain⟨I,hs⟩:=hs.fb 2 5
     refine nn<|wp_seq<|wp_seq<|hs.dk ?_
     refine de ?_
     refine .o (.c1 (qW _)) ?_
     refine .o ((by first|exact eZ ea dz .tt .tt (fun _=>by have:=nF (nE (qY hu.waits hi));have:=hu.aR;omega)|exact iM ea dz .tt .tt (fun _=>by have:=nF (nE (qY hu.waits hi));have:=hu.aR;omega)|exact iX ea dz .tt .tt (fun _=>by have:=nF (nE (qY hu.waits hi));have:=hu.aR;omega))) ?_
     refine fP ?_
     refine .q .F (.cl (QS u (ab u.waits i) hu.aq)) ?_
     refine cq ?_
     refine .nil ?_
     intro I a w hs
     refine aG ?_
     refine hs.cd (fun aj=>?_) fun aj=>?_
     ·rw[IU] at aj;replace aj:=nt aj
      refine wp_exit<|aF<|aY ?_
      refine aB fun I a w hs=>?_
      refine nn ?_
      have hs:=hs.drop 2
      exact hs.ag (i+1,false,u) (⟨fun _=>⟨rfl,hi,fun mW j hj=>by rcases Nat.lt_succ_iff_lt_or_eq.1 hj with h|h;exact mX mW j h;rw[h];exact aj⟩,fun e=>by cases e⟩) (hμ:=by simp;try omega)
     ·rw[IU] at aj;replace aj:=nf aj
      refine aB fun I a w hs=>?_
      refine hs.o (.cl (y7 u.aq (ab u.waits i) hu.aq)) fun hs=>?_
      refine cx fun I a w hs=>?_
      refine nn ?_
      refine hs.cd (fun aI=>?_) fun aI=>?_
      ·skip
       refine aB fun I a w hs=>?_
       refine nn<|wp_seq ?_
       have hs:=hs.gN
       refine hs.eT [([],none),([],none),([0],none),([],none),([],none),([3],some (3,[57])),([],none),([0],none),([],none),([],none),([],none),([3],some (3,[])),([],none),([0],some (0,[]))] (by kernel_rfl) (by kernel_rfl) rfl ?_
       refine .o (qP cM bt) ?_
       refine bz ?_
       refine .r [0] (.lb 0) ?_
       refine bz ?_
       refine .o (vy cM bt .r .tt (fun _=>by simp;omega)) ?_
       refine aV.vG 3 rfl rfl cM bt rfl .tt .r (by have:=gn hu.waits;simp;omega) ?_
       refine bz ?_
       refine .r [0] (.lb 0) ?_
       refine cq ?_
       refine .o (AW cM bt .r .tt (fun _=>by simp;omega)) ?_
       refine aV.x5 3 rfl rfl cM bt rfl .r (by have:=gn hu.waits;simp;omega) ?_
       refine bz ?_
       refine aV.gz (x:=AV.any) 0 (fun F W0 I0 I a w Q hs kk=>hs.s1 0 fun hs=>kk _ _ _ hs) ?_
       refine .nil ?_
       intro I a w hs
       rw[←List.map_take,←List.map_drop,←List.map_append,if_pos aI,show((i:Int)+1).toNat=i+1 by omega,Int.toNat_natCast] at hs
       change St _ _ [Own.box b1 44 (lu u i).cells,Own.box b2 44 [AV.val (.int .i64 0),AV.val (.bool false),AV.rows 2 [],AV.rows 7 [],AV.rows 7 [],AV.rows 3 [],AV.rows 3 []],Own.gone,Own.gone] _ _ _ at hs
       refine aJ fun I a w hs=>?_
       refine nn ?_
       have hs:=hs.drop 2
       exact hs.ag (i+1,true,lu u i) (⟨(fun e=>by cases e),fun _=>by have e:=QX (sS aI).2.2 hi (mX (sS aI).2.2) aj;rw[e];exact⟨by omega,by simp⟩⟩) (hμ:=by simp;try omega)
      ·skip
       refine aB fun I a w hs=>?_
       refine nn ?_
       have hs:=hs.drop 2
       exact hs.ag (i+1,false,u) (⟨fun _=>⟨rfl,hi,fun mW=>by have:=Q0 hu hi aI;omega⟩,fun e=>by cases e⟩) (hμ:=by simp;try omega)
    ·simp only[B] at ah;rw[Nat.not_lt] at ah
     refine wp_exit<|aF<|aF<|aY<|eI<|aG ?_
     exact hs.ag (g2,u2) (QY hu mb zb hf ht ah) (hμ:=by subst ae;exact QZ hf ht)
  ·skip
   refine wp_exit<|aF<|aF<|aY<|aG<|sr ?_
   refine hs.cT rfl bA bk (by decide) fun Q2 I a w hs=>?_
   refine ai fun I a w hs=>?_
   refine nn<|wp_block ?_
   refine St.lo (σ:=Nat×Value) (run 2 8 (run 22 66 [])) ⟨fun⟨k,v⟩=>[(9,AV.int k),(8,AV.val v)],fun⟨k,v⟩=>[Own.box b1 44 u.cells,Own.box b2 44 [AV.val (.int .i64 0),AV.val (.bool false),AV.rows 2 [],AV.rows 7 [],AV.rows 7 [],AV.rows 3 [],AV.rows 3 []],Own.row v 97 3 (((u.bq.take k).filter (gC u)).map ar.cells)],fun⟨k,v⟩=>k≤u.bq.length⟩ (fun⟨k,v⟩=>u.bq.length-k) (0,.slice (some ⟨Q2,0,none⟩) 0 0) hs ?iq ?ir
   case iq=>exact Nat.zero_le _
   case ir=>
    rintro⟨k,v⟩ I a w al hs
    have hk:k≤u.bq.length:=al
    dsimp only at hs
    refine aW fun I a w hs=>?_
    refine nn ?_
    refine hs.cd (fun aL=>?_) fun aL=>?_
    ·try simp only[B] at aL
     refine wp_skip<|aG<|wp_seq<|wp_block<|wp_seq<|hs.dk ?_
     refine fP ?_
     refine .o (.c2 (IP ..))<|.nil ?_
     intro I a w hs
     refine aG ?_
     refine hs.cd (fun bf=>?_) fun bf=>?_
     ·try simp only[B] at bf
      refine cx fun I a w hs=>?_
      refine hs.o (.li [(ab u.bq k).cells] fU (.u .nil)) fun hs=>?_
      refine hs.append 2 rfl bA bk rfl .tt .r rfl (by have h1:=oM (gC u) u.bq k;have h2:=hu.bq;simp;omega) fun CR a w hs=>?_
      rw[ck,←lC aL bf] at hs
      refine aJ fun I a w hs=>?_
      refine nn ?_
      exact hs.ag (k+1,CR) (aL)
     ·try simp only[B] at bf
      refine aB fun I a w hs=>?_
      refine nn ?_
      rw[show(u.bq.take k).filter (gC u)=(u.bq.take (k+1)).filter (gC u) from(lD aL bf).symm] at hs
      exact hs.ag (k+1,v) (aL)
    ·try simp only[B] at aL
     refine wp_exit<|aF<|aF<|aY ?_
     refine az fun I a w hs=>?_
     obtain⟨I,hs⟩:=hs.fr 2 88
     refine aJ fun I a w hs=>?_
     refine nn<|wp_ret ?_
     have e1:fX s=yZ u:=by unfold fX;rw[←mb,CF (Q1 ae)]
     have e2:u.bq.take k=u.bq:=List.take_of_length_le (by omega)
     refine hs.ret rfl (.cons (.s 1 ba rfl rfl (by first|rfl|assumption)) aU.nil) ?_
     exact(by rw[e1,e2];rfl)
end Go.Proofs.YtoeioeimmfpefaaGreat

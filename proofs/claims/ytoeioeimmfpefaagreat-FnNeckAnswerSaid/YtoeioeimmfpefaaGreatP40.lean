/- Part 40: rules of the proofs, contracts of functions, plain facts. -/
import Derived.Test.YtoeioeimmfpefaaGreatP38
set_option linter.unusedVariables false
set_option linter.unusedSimpArgs false
set_option maxRecDepth 100000
set_option maxHeartbeats 4000000
namespace Go.Proofs.YtoeioeimmfpefaaGreat
open Go Go.RowKit
attribute [local irreducible] wpList Code.wp Ok
def qz (l:List Call) (aC:Int):Nat→Int
 |0=>0
 |k+1=>if(ab l k).aC=aC then(ab l k).num else qz l aC k
theorem Vq (l:List Call) (aC:Int) {k:Nat} (hk:k≤l.length) (h:l.length≤k):qz l aC k=qj l aC:=by
 have key:∀k,k≤l.length→qz l aC k=(l.take k).foldl (fun n q=>if q.aC=aC then q.num else n) 0:=by
  intro k
  induction k with
  |zero=>intro _;simp[qz]
  |succ k ih=>intro h;rw[dL (by omega),List.foldl_append];show(if _ then _ else qz l aC k)=_;rw[ih (by omega)];rfl
 unfold qj
 rw[key k hk,List.take_of_length_le h]
theorem Vr {l:List Call} {aC:Int} {k:Nat} (h:(ab l k).aC=aC):(ab l k).num=qz l aC (k+1):=by show _=(if _ then _ else _);rw[if_pos h]
theorem Vs {l:List Call} {aC:Int} {k:Nat} (h:¬(ab l k).aC=aC):qz l aC k=qz l aC (k+1):=by show _=(if _ then _ else _);rw[if_neg h]
theorem Lj (w:be) (e:Ev):(!aQ e.aC 0 1||decide (0≤bW w.calls e.aC))=!(eC e.aC&&decide (bW w.calls e.aC<0)):=by
 have h:decide (0≤bW w.calls e.aC)=!decide (bW w.calls e.aC<0):=by rw[Bool.eq_iff_iff];simp
 rw[h];unfold eC;simp
theorem D5 {w:be} {e:Ev} (h:(eC e.aC&&decide (bW w.calls e.aC<0))=false):jt w e=(w,false):=by unfold jt;rw[h];rfl
theorem xn {w:be} {e:Ev} (h:(eC e.aC&&decide (bW w.calls e.aC<0))=true):jt w e=({w with calls:=w.calls++[mV w e]},iu (w.calls++[mV w e]) w.time):=by unfold jt;rw[h];rfl
theorem cK.lens {w:be} (h:cK w):w.calls.length≤20∧∀q∈w.calls,q.ax.length≤3:=⟨(s6.1 h.calls).1,fun q hq=>by
 obtain⟨k,hk,rfl⟩:=hO hq
 exact(h.call hk).lens.2.2.2.2.1⟩
theorem cK.Lk {w:be} (h:cK w) {i:Nat} (hi:i<2):(ab w.seen i).length≤6:=gm (h.m7 _ (bx (by rw[h.seen];exact hi)))
set_option maxHeartbeats 4000000 in
theorem Vt (x:be) (e:Ev) (hg:cK x) (ht:x.time≤1000000):
 Fn Tryz.prog 144 [x.av,e.av] (AV.c9 [(jt x e).1.av,AV.bool (jt x e).2]):=by
 refine Fn.intro 82 Tryz.func144 rfl Tryz.ntmps144 rfl (by kernel_rfl) (fun W I a hs=>?_)
 have m9:=hg.lens
 have z1:=hg.seen
 have uV:=hg.time
 refine sr<|hs.box rfl .tt fun b2 I a w hs=>hs.o .bp fun hs=>hs.alloc rfl cG g9 fun b4 I a w hs=>?_
 refine aB fun I a w hs=>?_
 refine hs.o (.cl (gP ..)) fun hs=>?_
 refine cx fun I a w hs=>?_
 refine hs.q .F (.cl (zV ..)) fun hs=>?_
 refine ai fun I a w hs=>?_
 refine nn ?_
 refine hs.cd (fun ae=>?_) fun ae=>?_
 ·rw[Lj] at ae;replace ae:=nt ae
  refine aB fun I a w hs=>?_
  refine nn<|wp_ret<|aE ?_
  refine hs.ret rfl (.cons (.s 1 cG rfl rfl (by first|rfl|assumption)) (.cons (.t rfl) aU.nil)) ?_
  exact(by rw[D5 ae];rfl)
 ·rw[Lj] at ae;replace ae:=nf ae;have z3:=ae;simp only[eC,aQ,Bool.and_eq_true,decide_eq_true_eq] at z3
  refine wp_skip<|aG<|wp_seq ?_
  refine hs.mG 18 (by kernel_rfl) (by kernel_rfl) (by kernel_rfl) ?_
  simp only[List.take_succ_cons,List.take_zero,List.drop_succ_cons,List.drop_zero]
  refine eK ?_
  refine .o (.c1 (Va ..))<|.o (qP bA bk) ?_
  refine fP ?_
  refine .o (x8 bA bk rfl .tt .r (fun _=>by have:=hg.Lk (i:=e.aC.toNat) (by omega);simp;omega)) ?_
  refine cq ?_
  refine .o (.bd iP (.k (.k (.k (.k (.k (.k aZ.nil))))))) ?_
  refine fl.alloc cy iP<|.nil ?_
  intro I a w hs
  obtain⟨b6,hs⟩:=hs.qL (d:=6) rfl
  refine hs.sb 2 fun hs=>?_
  refine nn ?_
  refine St.cut (σ:=Int) (run 6 38 []) ⟨fun val=>[],fun val=>[Own.box b2 28 x.cells,Own.box b4 28 [AV.val (.int .i64 0),AV.rows 7 [],AV.rows 15 [],AV.rows 13 [],AV.rows 1 []],Own.box b6 51 ({wO with aC:=e.aC,num:=1,kind:=e.call,keys:=lB e,val:=val,ctx:=ab x.seen e.aC.toNat,bm:=x.time}:Call).cells],fun val=>val=if e.call=1 then e.val else 0⟩ hs ?n6 ?n7
  case n6=>
   refine aB fun I a w hs=>?_
   refine nn ?_
   refine hs.cd (fun ah=>?_) fun ah=>?_
   ·try simp only[B] at ah
    refine aJ fun I a w hs=>?_
    refine nn ?_
    exact hs.me e.val (by first|exact(if_pos ah).symm|exact(if_neg ah).symm)
   ·try simp only[B] at ah
    refine wp_skip<|aG ?_
    exact hs.me 0 (by first|exact(if_pos ah).symm|exact(if_neg ah).symm)
  case n7=>
   rintro val I a w al hs
   have qB:val=if e.call=1 then e.val else 0:=al
   subst qB
   refine az fun I a w hs=>?_
   refine nn<|wp_block ?_
   refine St.lo (σ:=Nat) (7::(run 24 44 [])) ⟨fun k=>[(7,AV.int k)],fun k=>[Own.box b2 28 x.cells,Own.box b4 28 [AV.val (.int .i64 0),AV.rows 7 [],AV.rows 15 [],AV.rows 13 [],AV.rows 1 []],Own.box b6 51 ({wO with aC:=e.aC,num:=qz x.calls e.aC k+1,kind:=e.call,keys:=lB e,val:=(if e.call=1 then e.val else 0),ctx:=ab x.seen e.aC.toNat,bm:=x.time}:Call).cells],fun k=>k≤x.calls.length⟩ (fun k=>x.calls.length-k) 0 hs ?aN ?aO
   case aN=>exact Nat.zero_le _
   case aO=>
    rintro k I a w al hs
    have hk:k≤x.calls.length:=al
    dsimp only at hs
    refine aW fun I a w hs=>?_
    refine nn ?_
    refine hs.cd (fun aj=>?_) fun aj=>?_
    ·try simp only[B] at aj
     refine az fun I a w hs=>?_
     refine aG ?_
     refine hs.cd (fun aI=>?_) fun aI=>?_
     ·try simp only[B] at aI
      refine cx fun I a w hs=>?_
      refine hs.o (jM .tt .c (fun _=>by have:=(hg.call aj).num;omega)) fun hs=>?_
      refine aW fun I a w hs=>?_
      refine nn ?_
      rw[Vr aI] at hs
      exact hs.ag (k+1) (aj)
     ·try simp only[B] at aI
      refine aB fun I a w hs=>?_
      refine nn ?_
      rw[Vs aI] at hs
      exact hs.ag (k+1) (aj)
    ·try simp only[B] at aj
     refine wp_exit<|aF<|aF<|aY<|aG<|wp_seq ?_
     rw[Vq x.calls e.aC hk (by omega)] at hs
     have hs:=hs.gN
     refine hs.eT [([],none),([],none),([0],none),([3],some (3,[71])),([2],none),([],none),([3],some (3,[])),([],none),([0],some (0,[]))] (by kernel_rfl) (by kernel_rfl) rfl ?_
     refine .o (qP iD cy) ?_
     refine bz ?_
     refine .r [0] (.lb 0) ?_
     refine aV.vG 3 rfl rfl iD cy rfl .tt .r (by simp;omega) ?_
     refine .r [2] (.ls 2) ?_
     refine .o (.li [(mV x e).cells] yp (.u .nil)) ?_
     refine aV.x5 3 rfl rfl iD cy rfl .r (by simp;omega) ?_
     refine bz ?_
     refine aV.gz (x:=AV.any) 0 (fun F W0 I0 I a w Q hs kk=>hs.s1 0 fun hs=>kk _ _ _ hs) ?_
     refine .nil ?_
     intro I a w hs
     rw[ck] at hs
     refine aG<|wp_seq ?_
     refine hs.dp 6 (by kernel_rfl) (by kernel_rfl) (by kernel_rfl) ?_
     simp only[List.take_succ_cons,List.take_zero,List.drop_succ_cons,List.drop_zero]
     refine eK ?_
     refine .o (cI (Ir (x.calls++[mV x e]) x.time (by omega) (fun q hq=>by rcases List.mem_append.1 hq with hq|hq;(have:=m9.2 q hq;omega);(obtain rfl:q=mV x e:=by simpa using hq);simp[mV,wO])) (aw .r (aw (.t rfl) aP))) ?_
     refine .nil ?_
     intro I a w hs
     refine ai fun I a w hs=>?_
     refine nn<|wp_ret ?_
     refine hs.ret rfl (.cons (.s 1 cG rfl rfl (by first|rfl|assumption)) (.cons (.t rfl) aU.nil)) ?_
     exact(by rw[xn ae];rfl)
set_option maxHeartbeats 4000000 in
theorem Vu (x:be) (m:aD) (hg:cK x) (ht:x.time≤1000000) (oP:aQ m.to 10 11=true):
 Fn Tryz.prog 147 [x.av,m.av] ((mn x m).av):=by
 refine Fn.intro 52 Tryz.func147 rfl Tryz.ntmps147 rfl (by kernel_rfl) (fun W I a hs=>?_)
 simp only[aQ,Bool.and_eq_true,decide_eq_true_eq] at oP
 have m9:=hg.lens
 have z1:=hg.seen
 have uV:=hg.time
 refine sr<|hs.box rfl .tt fun b2 I a w hs=>hs.o .bp fun hs=>hs.alloc rfl cG g9 fun b4 I a w hs=>?_
 refine dq fun I a w hs=>?_
 refine hs.o (.cl (zV x.calls (m.to-10))) fun hs=>?_
 refine aB fun I a w hs=>?_
 refine nn ?_
 refine hs.cd (fun ae=>?_) fun ae=>?_
 ·simp only[B] at ae
  refine ai fun I a w hs=>?_
  refine nn<|wp_ret<|aE ?_
  refine hs.ret rfl (.cons (.s 1 cG rfl rfl (by first|rfl|assumption)) aU.nil) ?_
  exact(by unfold mn;dsimp only;rw[if_pos ae];rfl)
 ·simp only[B] at ae;obtain⟨h1,h2,h3⟩:=nW ae;have hq:=zq (m:=m) (hg.call h1);have hqe:=hq.xi (by omega);have Gh:=hq.bm
  refine wp_skip<|aG<|wp_seq ?_
  refine hs.mG 10 (by kernel_rfl) (by kernel_rfl) (by kernel_rfl) ?_
  simp only[List.take_succ_cons,List.take_zero,List.drop_succ_cons,List.drop_zero]
  refine mJ ?_
  refine .o (.c3 (U6 _ m x.time (hg.call h1) ht))<|fl.alloc cy iP<|.nil ?_
  intro I a w hs
  obtain⟨b7,hs⟩:=hs.qL (d:=7) rfl
  refine hs.sb 2 fun hs=>?_
  obtain⟨I,hs⟩:=hs.fb 2 7
  refine nn<|sr ?_
  refine hs.cT rfl iD cy (by decide) fun b27 I a w hs=>?_
  refine ai fun I a w hs=>?_
  refine hs.append 3 rfl iD cy rfl .tt .r rfl (by simp;omega) fun v30 a w hs=>?_
  simp only[List.nil_append] at hs
  refine hs.o .fv fun hs=>?_
  try have adf:=hs.dS 3 rfl
  refine hs.s1 0 fun hs=>?_
  refine nn<|wp_seq ?_
  obtain⟨xo,xp,n9⟩:=hs.g8 3 rfl (by simp only[List.length_map];omega)
  subst n9
  refine aJ fun I a w hs=>?_
  refine hs.o (gv iD cy .tt .tt (fun _=>by simp only[List.length_map];omega)) fun hs=>?_
  refine hs.jx 3 cy .tt .tt rfl (by exact ek (by omega)) rfl rfl fun a w hs=>?_
  refine nn ?_
  refine St.cut (σ:=List (List ar)) (run 14 37 []) ⟨fun sn=>[],fun sn=>[Own.box b2 28 [AV.int x.time,bK x.au,bj x.ao,bE (x.calls.set (bW x.calls (m.to-10)).toNat (c4 (ab x.calls (bW x.calls (m.to-10)).toNat) m x.time)),bI sn],Own.box b4 28 [AV.val (.int .i64 0),AV.rows 7 [],AV.rows 15 [],AV.rows 13 [],AV.rows 1 []],Own.gone,Own.gone],fun sn=>sn=if 0<Call.end_ (c4 (ab x.calls (bW x.calls (m.to-10)).toNat) m x.time) then x.seen.set (m.to-10).toNat (hP (c4 (ab x.calls (bW x.calls (m.to-10)).toNat) m x.time)) else x.seen⟩ hs ?DA ?DB
  case DA=>
   refine wp_seq ?_
   have e9:∀y,y=Call.cells (c4 (ab x.calls (bW x.calls (m.to-10)).toNat) m x.time)→(List.map Call.cells x.calls).set (bW x.calls (m.to-10)).toNat y=List.map Call.cells (x.calls.set (bW x.calls (m.to-10)).toNat (c4 (ab x.calls (bW x.calls (m.to-10)).toNat) m x.time)):=fun y hy=>by rw[hy,List.map_set]
   rw[e9] at hs
   rotate_left
   ·rfl
   obtain⟨I,hs⟩:=hs.fu 3 3 0
   refine aB fun I a w hs=>?_
   refine nn ?_
   refine hs.cd (fun ah=>?_) fun ah=>?_
   ·try simp only[B] at ah
    refine sr ?_
    refine hs.cT rfl nB kr (by decide) fun b40 I a w hs=>?_
    refine ai fun I a w hs=>?_
    refine hs.append 4 rfl nB kr rfl .tt .r rfl (by simp;omega) fun zK a w hs=>?_
    simp only[List.nil_append] at hs
    refine hs.o .fv fun hs=>?_
    try have Uu:=hs.dS 4 rfl
    refine hs.s1 0 fun hs=>?_
    refine nn ?_
    obtain⟨bk2,ck2,Vv⟩:=hs.g8 4 rfl (by simp only[List.length_map];omega)
    subst Vv
    refine hs.dp 6 (by kernel_rfl) (by kernel_rfl) (by kernel_rfl) ?_
    simp only[List.take_succ_cons,List.take_zero,List.drop_succ_cons,List.drop_zero]
    refine de ?_
    refine .o (cI (Qx (c4 (ab x.calls (bW x.calls (m.to-10)).toNat) m x.time) x.time (oO.2 hq) (by omega) (by omega) (by have:=hq.lens.2.2.2.2.1;omega)) (aw (.t rfl) aP)) ?_
    refine .o (gv nB kr .tt .tt (fun _=>by simp only[List.length_map];omega)) ?_
    refine .nil ?_
    intro I a w hs
    refine hs.tM (j:=0) 4 kr .tt .tt (by first|exact iY rfl|exact jj|exact jk|exact jl|assumption) rfl (by exact ek (by omega)) rfl rfl fun a w hs=>?_
    refine wpList_nil ?_
    have e8:∀y,y=ey (hP (c4 (ab x.calls (bW x.calls (m.to-10)).toNat) m x.time))→(List.map ey x.seen).set (m.to-10).toNat y=List.map ey (x.seen.set (m.to-10).toNat (hP (c4 (ab x.calls (bW x.calls (m.to-10)).toNat) m x.time))):=fun y hy=>by rw[hy,List.map_set]
    rw[e8] at hs
    rotate_left
    ·rfl
    obtain⟨I,hs⟩:=hs.fu 4 4 0
    refine aG ?_
    have hs:=hs.drop 4
    exact hs.me (x.seen.set (m.to-10).toNat (hP (c4 (ab x.calls (bW x.calls (m.to-10)).toNat) m x.time))) (by first|exact(if_pos ah).symm|exact(if_neg (by omega)).symm)
   ·try simp only[B] at ah
    refine wp_skip<|aG ?_
    have hs:=hs.drop 4
    exact hs.me x.seen (by first|exact(if_pos ah).symm|exact(if_neg (by omega)).symm)
  case DB=>
   rintro sn I a w al hs
   have Ll:sn=if 0<Call.end_ (c4 (ab x.calls (bW x.calls (m.to-10)).toNat) m x.time) then x.seen.set (m.to-10).toNat (hP (c4 (ab x.calls (bW x.calls (m.to-10)).toNat) m x.time)) else x.seen:=al
   refine ai fun I a w hs=>?_
   refine nn<|wp_ret ?_
   refine hs.ret rfl (.cons (.s 1 cG rfl rfl (by first|rfl|assumption)) aU.nil) ?_
   unfold mn;dsimp only;rw[if_neg (by omega)]
   split
   ·rename_i hh;rw[Ll,if_pos hh];rfl
   ·rename_i hh;rw[Ll,if_neg hh];rfl
theorem Vw {α:Type} [Inhabited α] {l:List α} {i:Nat}:l.set i (ab l i)=l:=by
 apply List.ext_getElem?
 intro j
 rw[List.getElem?_set]
 split
 ·rename_i h;subst h;split
  ·rename_i h;simp[ab,h]
  ·rename_i h;simp at h;simp[h]
 ·rfl
theorem Vx {w:be} {e:Ev} (h:e.kind=7):eQ w e=({w with au:=w.au.set e.at_.toNat (nT (ab w.au e.at_.toNat))},!(ab w.au e.at_.toNat).up):=by unfold eQ;rw[if_pos h]
theorem Vy {w:be} {e:Ev} (h:e.kind=6):eQ w e=({w with au:=w.au.set e.at_.toNat (nS (ab w.au e.at_.toNat))},(ab w.au e.at_.toNat).up):=by unfold eQ;rw[if_neg (by omega),if_pos h]
theorem Vz {w:be} {e:Ev} (h:e.kind=8):eQ w e=({w with ao:=dQ w.ao (js (ab w.au e.at_.toNat))},(ab w.au e.at_.toNat).up):=by unfold eQ;rw[if_neg (by omega),if_neg (by omega),if_pos h]
theorem z4 {s:Server} {slot:Int} (h:(dP s slot).2.2=true):kR s slot=true:=by unfold dP at h;split at h;assumption;cases h
theorem D6 {s:Server} {slot:Int} (h:(dP s slot).2.2=false):kR s slot=false:=by unfold dP at h;split at h;cases h;rename_i hh;simpa using hh
theorem D7 {s:Server} {slot:Int} (h:kR s slot=true):dP s slot=(ly s slot,fg (ly s slot) slot,true):=by unfold dP;rw[if_pos h]
theorem VA {s:Server} {slot:Int} (h:kR s slot=false):dP s slot=(s,bP,false):=by unfold dP;rw[h];rfl
theorem VB {w:be} {e:Ev} (h7:¬e.kind=7) (h6:¬e.kind=6) (h8:¬e.kind=8) (hm:(dP (ab w.au e.at_.toNat) e.slot).2.2=true):eQ w e=({w with au:=w.au.set e.at_.toNat (dP (ab w.au e.at_.toNat) e.slot).1,ao:=dQ w.ao [(dP (ab w.au e.at_.toNat) e.slot).2.1]},(dP (ab w.au e.at_.toNat) e.slot).2.2):=by
 unfold eQ;rw[if_neg h7,if_neg h6,if_neg h8,if_pos (z4 hm),D7 (z4 hm)]
theorem VC {w:be} {e:Ev} (h7:¬e.kind=7) (h6:¬e.kind=6) (h8:¬e.kind=8) (hm:(dP (ab w.au e.at_.toNat) e.slot).2.2=false):eQ w e=({w with au:=w.au.set e.at_.toNat (dP (ab w.au e.at_.toNat) e.slot).1},(dP (ab w.au e.at_.toNat) e.slot).2.2):=by
 unfold eQ;rw[if_neg h7,if_neg h6,if_neg h8,if_neg (by rw[D6 hm];simp),VA (D6 hm),Vw]
theorem VD {w:be} {e:Ev} (h:e.kind=1):ia w e=((jt w e).1,(jt w e).2):=by unfold ia;rw[if_pos h]
theorem VE {w:be} {e:Ev} (h:¬e.kind=1) (hn:bW w.calls e.aC<0):ia w e=(w,false):=by unfold ia;rw[if_neg h];dsimp only;rw[if_pos hn]
theorem VF {w:be} {e:Ev} (h:¬e.kind=1) (hn:0≤bW w.calls e.aC) (h3:e.kind=3):ia w e=({w with calls:=w.calls.set (bW w.calls e.aC).toNat {ab w.calls (bW w.calls e.aC).toNat with over:=true}},true):=by unfold ia;rw[if_neg h];dsimp only;rw[if_neg (by omega),if_pos h3]
theorem VG {w:be} {e:Ev} (h:¬e.kind=1) (hn:0≤bW w.calls e.aC) (h3:¬e.kind=3):ia w e=({w with ao:=dQ w.ao (iv (ab w.calls (bW w.calls e.aC).toNat))},true):=by unfold ia;rw[if_neg h];dsimp only;rw[if_neg (by omega),if_neg h3]
set_option maxHeartbeats 16000000 in
theorem VH (x:be) (e:Ev) (hg:cK x) (ht:x.time≤1000000) (uR:cJ e.at_=true):
 Fn Tryz.prog 100 [x.av,e.av] (AV.c9 [(eQ x e).1.av,AV.bool (eQ x e).2]):=by
 refine Fn.intro 85 Tryz.func100 rfl Tryz.ntmps100 rfl (by kernel_rfl) (fun W I a hs=>?_)
 have hai:=kS.1 uR
 have ix:=hg.ao
 have rD:=hg.au
 have ib:=(hg.site e.at_.toNat (by omega)).2
 have Lm:=iw.2 ib
 refine sr<|hs.box rfl .tt fun b2 I a w hs=>hs.o .bp fun hs=>hs.alloc rfl cG g9 fun b4 I a w hs=>?_
 refine dq fun I a w hs=>?_
 refine hs.alloc rfl ba df fun b6 I a w hs=>?_
 refine hs.sb 2 fun hs=>?_
 obtain⟨I,hs⟩:=hs.fb 2 6
 refine nn<|sr ?_
 refine hs.cT rfl kt ba (by decide) fun UE I a w hs=>?_
 refine ai fun I a w hs=>?_
 refine hs.append 3 rfl kt ba rfl .tt .r rfl (by simp;omega) fun v20 a w hs=>?_
 simp only[List.nil_append] at hs
 refine hs.o .fv fun hs=>?_
 try have adk:=hs.dS 3 rfl
 refine hs.s1 0 fun hs=>?_
 refine nn<|sr ?_
 refine hs.cT rfl dh cj (by decide) fun VI I a w hs=>?_
 refine ai fun I a w hs=>?_
 refine hs.append 4 rfl dh cj rfl .tt .r rfl (by simp;omega) fun sM a w hs=>?_
 simp only[List.nil_append] at hs
 refine aW fun I a w hs=>?_
 refine nn ?_
 refine hs.cd (fun ae=>?_) fun ae=>?_
 ·try simp only[B] at ae
  refine wp_seq ?_
  obtain⟨xo,xp,n9⟩:=hs.g8 3 rfl (by simp only[List.length_map];omega)
  subst n9
  refine hs.dp 7 (by kernel_rfl) (by kernel_rfl) (by kernel_rfl) ?_
  simp only[List.take_succ_cons,List.take_zero,List.drop_succ_cons,List.drop_zero]
  refine eK ?_
  refine .o (.c1 (Sl (ab x.au e.at_.toNat) Lm)) ?_
  refine .o (gv kt ba .tt .tt (fun _=>by simp only[List.length_map];omega)) ?_
  refine .nil ?_
  intro I a w hs
  refine hs.jx 3 ba .tt .tt rfl (by exact ek (by omega)) rfl rfl fun a w hs=>?_
  refine nn<|wp_seq ?_
  have e9:∀y,y=Server.cells (nT (ab x.au e.at_.toNat))→(List.map Server.cells x.au).set e.at_.toNat y=List.map Server.cells (x.au.set e.at_.toNat (nT (ab x.au e.at_.toNat))):=fun y hy=>by rw[hy,List.map_set]
  rw[e9] at hs
  rotate_left
  ·rfl
  obtain⟨I,hs⟩:=hs.fu 3 1 0
  refine hs.eT [([0],none),([],none),([],none),([],none),([1],some (1,[])),([],none)] (by kernel_rfl) (by kernel_rfl) rfl ?_
  refine .r [0] (.ls 0) ?_
  refine du ?_
  refine aV.gz (x:=AV.any) 1 (fun F W0 I0 I a w Q hs kk=>hs.sb 1 fun hs=>kk _ _ _ hs) ?_
  refine bz ?_
  refine .nil ?_
  intro I a w hs
  refine aG<|wp_ret<|bh<|aE ?_
  refine hs.ret rfl (.cons (.s 1 cG rfl rfl (by first|rfl|assumption)) (.cons (.t rfl) aU.nil)) ?_
  exact(by rw[Vx ae];rfl)
 ·try simp only[B] at ae
  refine ai fun I a w hs=>?_
  refine nn ?_
  refine hs.cd (fun ah=>?_) fun ah=>?_
  ·try simp only[B] at ah
   refine wp_seq ?_
   obtain⟨xo,xp,n9⟩:=hs.g8 3 rfl (by simp only[List.length_map];omega)
   subst n9
   refine hs.dp 7 (by kernel_rfl) (by kernel_rfl) (by kernel_rfl) ?_
   simp only[List.take_succ_cons,List.take_zero,List.drop_succ_cons,List.drop_zero]
   refine eK ?_
   refine .o (.c1 (Sm (ab x.au e.at_.toNat) Lm)) ?_
   refine .o (gv kt ba .tt .tt (fun _=>by simp only[List.length_map];omega)) ?_
   refine .nil ?_
   intro I a w hs
   refine hs.jx 3 ba .tt .tt rfl (by exact ek (by omega)) rfl rfl fun a w hs=>?_
   refine nn<|wp_seq ?_
   have e9:∀y,y=Server.cells (nS (ab x.au e.at_.toNat))→(List.map Server.cells x.au).set e.at_.toNat y=List.map Server.cells (x.au.set e.at_.toNat (nS (ab x.au e.at_.toNat))):=fun y hy=>by rw[hy,List.map_set]
   rw[e9] at hs
   rotate_left
   ·rfl
   obtain⟨I,hs⟩:=hs.fu 3 1 0
   refine hs.eT [([0],none),([],none),([],none),([1],some (1,[])),([],none)] (by kernel_rfl) (by kernel_rfl) rfl ?_
   refine .r [0] (.ls 0) ?_
   refine cq ?_
   refine aV.gz (x:=AV.any) 1 (fun F W0 I0 I a w Q hs kk=>hs.sb 1 fun hs=>kk _ _ _ hs) ?_
   refine bz ?_
   refine .nil ?_
   intro I a w hs
   refine aG<|wp_ret<|bh<|aE ?_
   refine hs.ret rfl (.cons (.s 1 cG rfl rfl (by first|rfl|assumption)) (.cons (.t rfl) aU.nil)) ?_
   exact(by rw[Vy ah];rfl)
  ·try simp only[B] at ah
   refine ai fun I a w hs=>?_
   refine nn ?_
   refine hs.cd (fun aj=>?_) fun aj=>?_
   ·try simp only[B] at aj
    refine ai fun I a w hs=>?_
    refine hs.o (.c1 (S7 (ab x.au e.at_.toNat) ib)) fun hs=>?_
    refine hs.dZ [4] (zZ sM x.ao (js (ab x.au e.at_.toNat)) hg.ao) (aw .r (aw .r aP)) rfl (by decide) rfl fun I a w hs=>?_
    change St _ _ [Own.box b2 28 [AV.int x.time,AV.val v20,bj x.ao,bE x.calls,bI x.seen],Own.box b4 28 [AV.val (.int .i64 0),AV.rows 7 [],AV.rows 15 [],AV.rows 13 [],AV.rows 1 []],Own.gone,Own.row v20 44 7 (x.au.map Server.cells),Own.gone] _ _ _ at hs
    refine ai fun I a w hs=>?_
    refine nn<|wp_seq ?_
    obtain⟨I,hs⟩:=hs.fu 3 1 0
    refine hs.eT [([0],none),([],none),([],none),([1],some (1,[])),([],none)] (by kernel_rfl) (by kernel_rfl) rfl ?_
    refine .r [0] (.ls 0) ?_
    refine cq ?_
    refine aV.gz (x:=AV.any) 1 (fun F W0 I0 I a w Q hs kk=>hs.sb 1 fun hs=>kk _ _ _ hs) ?_
    refine bz ?_
    refine .nil ?_
    intro I a w hs
    refine aG<|wp_ret<|bh<|aE ?_
    refine hs.ret rfl (.cons (.s 1 cG rfl rfl (by first|rfl|assumption)) (.cons (.t rfl) aU.nil)) ?_
    exact(by rw[Vz aj];rfl)
   ·try simp only[B] at aj
    refine aB fun I a w hs=>?_
    refine hs.o (.c2 (Th (ab x.au e.at_.toNat) e.slot ib)) fun hs=>?_
    refine aJ fun I a w hs=>?_
    refine hs.alloc rfl ba df fun b8 I a w hs=>hs.alloc rfl cj dB fun b9 I a w hs=>?_
    refine hs.sb 5 fun hs=>?_
    obtain⟨I,hs⟩:=hs.fb 5 8
    refine hs.sb 6 fun hs=>?_
    obtain⟨I,hs⟩:=hs.fb 6 9
    refine hs.s fun hs=>nn<|wp_seq ?_
    obtain⟨xo,xp,n9⟩:=hs.g8 3 rfl (by simp only[List.length_map];omega)
    subst n9
    refine aW fun I a w hs=>?_
    refine hs.o (gv kt ba .tt .tt (fun _=>by simp only[List.length_map];omega)) fun hs=>?_
    refine hs.jx 3 ba .tt .tt rfl (by exact ek (by omega)) rfl rfl fun a w hs=>?_
    refine nn<|wp_seq<|wp_seq ?_
    have e9:∀y,y=Server.cells (dP (ab x.au e.at_.toNat) e.slot).1→(List.map Server.cells x.au).set e.at_.toNat y=List.map Server.cells (x.au.set e.at_.toNat (dP (ab x.au e.at_.toNat) e.slot).1):=fun y hy=>by rw[hy,List.map_set]
    rw[e9] at hs
    rotate_left
    ·rfl
    obtain⟨I,hs⟩:=hs.fu 3 1 0
    refine az fun I a w hs=>?_
    refine nn ?_
    refine hs.cd (fun aI=>?_) fun aI=>?_
    ·skip
     refine ai fun I a w hs=>?_
     refine hs.o (.li [(dP (ab x.au e.at_.toNat) e.slot).2.1.cells] fF (.u .nil)) fun hs=>?_
     refine hs.dZ [4] (zZ sM x.ao [(dP (ab x.au e.at_.toNat) e.slot).2.1] hg.ao) (aw .r (aw .r aP)) rfl (by decide) rfl fun I a w hs=>?_
     change St _ _ [Own.box b2 28 [AV.int x.time,bK (x.au.set e.at_.toNat (dP (ab x.au e.at_.toNat) e.slot).1),bj x.ao,bE x.calls,bI x.seen],Own.box b4 28 [AV.val (.int .i64 0),AV.rows 7 [],AV.rows 15 [],AV.rows 13 [],AV.rows 1 []],Own.gone,Own.gone,Own.gone,Own.gone,Own.gone] _ _ _ at hs
     refine cx fun I a w hs=>?_
     refine nn<|wp_ret ?_
     refine hs.ret rfl (.cons (.s 1 cG rfl rfl (by first|rfl|assumption)) (.cons (.t rfl) aU.nil)) ?_
     exact(by rw[VB ae ah aj aI];rfl)
    ·skip
     refine aJ fun I a w hs=>?_
     refine nn<|wp_ret ?_
     refine hs.ret rfl (.cons (.s 1 cG rfl rfl (by first|rfl|assumption)) (.cons (.t rfl) aU.nil)) ?_
     exact(by rw[VC ae ah aj aI];rfl)
set_option maxHeartbeats 4000000 in
theorem VJ (x:be) (e:Ev) (hg:cK x) (ht:x.time≤1000000):
 Fn Tryz.prog 98 [x.av,e.av] (AV.c9 [(ia x e).1.av,AV.bool (ia x e).2]):=by
 refine Fn.intro 53 Tryz.func98 rfl Tryz.ntmps98 rfl (by kernel_rfl) (fun W I a hs=>?_)
 have m9:=hg.lens
 have ix:=hg.ao
 refine sr<|hs.box rfl .tt fun b2 I a w hs=>hs.o .bp fun hs=>hs.alloc rfl cG g9 fun b4 I a w hs=>?_
 refine aW fun I a w hs=>?_
 refine hs.o (.cl (zV x.calls e.aC)) fun hs=>?_
 refine aW fun I a w hs=>?_
 refine nn ?_
 refine hs.cd (fun ae=>?_) fun ae=>?_
 ·try simp only[B] at ae
  refine ai fun I a w hs=>?_
  refine hs.o (.c2 (Vt x e hg ht)) fun hs=>?_
  refine aJ fun I a w hs=>?_
  refine nn<|wp_ret<|bh<|aE ?_
  refine hs.ret rfl (.cons (.s 1 cG rfl rfl (by first|rfl|assumption)) (.cons (.t rfl) aU.nil)) ?_
  exact(by rw[VD ae];rfl)
 ·try simp only[B] at ae
  refine aB fun I a w hs=>?_
  refine nn ?_
  refine hs.cd (fun ah=>?_) fun ah=>?_
  ·simp only[B] at ah
   refine aB fun I a w hs=>?_
   refine nn<|wp_ret<|bh<|aE ?_
   refine hs.ret rfl (.cons (.s 1 cG rfl rfl (by first|rfl|assumption)) (.cons (.t rfl) aU.nil)) ?_
   exact(by rw[VE ae ah];rfl)
  ·simp only[B] at ah;have hni:=(nW ah).1
   refine aJ fun I a w hs=>?_
   refine nn ?_
   refine hs.cd (fun aj=>?_) fun aj=>?_
   ·try simp only[B] at aj
    refine sr ?_
    refine hs.cT rfl iD cy (by decide) fun b29 I a w hs=>?_
    refine ai fun I a w hs=>?_
    refine hs.append 2 rfl iD cy rfl .tt .r rfl (by simp;omega) fun v32 a w hs=>?_
    simp only[List.nil_append] at hs
    refine hs.o .fv fun hs=>?_
    try have ado:=hs.dS 2 rfl
    refine hs.s1 0 fun hs=>?_
    refine nn<|wp_seq ?_
    obtain⟨xo,xp,n9⟩:=hs.g8 2 rfl (by simp only[List.length_map];omega)
    subst n9
    refine aB fun I a w hs=>?_
    refine hs.o (gv iD cy .tt .tt (fun _=>by simp only[List.length_map];omega)) fun hs=>?_
    refine hs.o .fv fun hs=>?_
    refine hs.tM (j:=8) 2 v5 .tt .c (by first|exact iY rfl|exact jj|exact jk|exact jl|assumption) rfl (by exact ek (by omega)) rfl rfl fun a w hs=>?_
    refine nn<|wp_seq ?_
    have e9:∀y,y=Call.cells ({ab x.calls (bW x.calls e.aC).toNat with over:=true})→(List.map Call.cells x.calls).set (bW x.calls e.aC).toNat y=List.map Call.cells (x.calls.set (bW x.calls e.aC).toNat ({ab x.calls (bW x.calls e.aC).toNat with over:=true})):=fun y hy=>by rw[hy,List.map_set]
    rw[e9] at hs
    rotate_left
    ·rfl
    obtain⟨I,hs⟩:=hs.fu 2 3 0
    refine aB fun I a w hs=>?_
    refine nn<|wp_ret<|bh<|aE ?_
    refine hs.ret rfl (.cons (.s 1 cG rfl rfl (by first|rfl|assumption)) (.cons (.t rfl) aU.nil)) ?_
    exact(by rw[VF ae ah aj];rfl)
   ·try simp only[B] at aj
    refine wp_skip<|eI<|aG<|wp_seq ?_
    have hs:=hs.gN
    refine hs.eT [([],none),([],none),([0],none),([2],some (2,[43])),([],none),([0],none),([],none),([],none),([],none),([],none),([2],some (2,[])),([],none),([0],some (0,[]))] (by kernel_rfl) (by kernel_rfl) rfl ?_
    refine .o (qP dh cj) ?_
    refine bz ?_
    refine .r [0] (.lb 0) ?_
    refine aV.vG 2 rfl rfl dh cj rfl .tt .r (by simp;omega) ?_
    refine bz ?_
    refine .r [0] (.lb 0) ?_
    refine du ?_
    refine .o (.c1 (TH _ x.time (hg.call (nW ah).1) ht)) ?_
    refine aV.dZ (d':=43) (xs:=fun v=>[AV.val v,bj (iv (ab x.calls (bW x.calls e.aC).toNat))]) 2 rfl rfl (fun v=>zZ v x.ao (iv (ab x.calls (bW x.calls e.aC).toNat)) hg.ao) (fun I a he hg=>N5 rfl ((aw .r aP) I a he hg)) ?_
    refine bz ?_
    refine aV.gz (x:=AV.any) 0 (fun F W0 I0 I a w Q hs kk=>hs.s1 0 fun hs=>kk _ _ _ hs) ?_
    refine .nil ?_
    intro I a w hs
    refine aB fun I a w hs=>?_
    refine nn<|wp_ret ?_
    refine hs.ret rfl (.cons (.s 1 cG rfl rfl (by first|rfl|assumption)) (.cons (.t rfl) aU.nil)) ?_
    exact(by rw[VG ae ah aj];rfl)
end Go.Proofs.YtoeioeimmfpefaaGreat

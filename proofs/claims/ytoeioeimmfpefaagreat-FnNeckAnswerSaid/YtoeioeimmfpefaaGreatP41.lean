/- Part 41: rules of the proofs, contracts of functions, plain facts. -/
import Derived.Test.YtoeioeimmfpefaaGreatP40
set_option linter.unusedVariables false
set_option linter.unusedSimpArgs false
set_option maxRecDepth 100000
set_option maxHeartbeats 4000000
namespace Go.Proofs.YtoeioeimmfpefaaGreat
open Go Go.RowKit
attribute [local irreducible] wpList Code.wp Ok
def fY (w:be) (e:Ev):List aD:=if e.kind=5∨e.fN=0 then w.ao.take e.word.toNat++w.ao.drop (e.word.toNat+1) else w.ao
theorem Ln {w:be} (h:cK w) (e:Ev):cK {w with ao:=fY w e}:=by
 unfold fY
 split
 ·have hs:=uy w.ao e.word.toNat
  exact⟨h.time,h.au,h.site,Nat.le_trans hs.length_le h.ao,fun m hm=>h.words m (hs.subset hm),h.seen,h.m7,h.calls⟩
 ·exact h
theorem VK (w:be) (e:Ev):(if e.kind=5∨e.fN=0 then{w with ao:=w.ao.take e.word.toNat++w.ao.drop (e.word.toNat+1)} else w)={w with ao:=fY w e}:=by unfold fY;split<;>rfl
theorem rH {w:be} {e:Ev} (h:aQ e.word 0 ((w.ao.length:Int)-1)=true):gX w e=if e.kind=5 then({w with ao:=fY w e},true) else if aQ (ab w.ao e.word.toNat).to 10 11=true then(mn {w with ao:=fY w e} (ab w.ao e.word.toNat),true)
 else({w with au:=w.au.set (ab w.ao e.word.toNat).to.toNat (eX (ab w.au (ab w.ao e.word.toNat).to.toNat) (ab w.ao e.word.toNat)).1,ao:=dQ (fY w e) (eX (ab w.au (ab w.ao e.word.toNat).to.toNat) (ab w.ao e.word.toNat)).2},true):=by
 unfold gX
 rw[if_pos h,VK]
theorem z5 {w:be} {e:Ev} (h:aQ e.word 0 ((w.ao.length:Int)-1)=false):gX w e=(w,false):=by unfold gX;rw[h];rfl
theorem VL {m:aD} (h:bN m=true) (h2:aQ m.to 10 11=false):0≤m.to∧m.to≤3:=by
 have:=(mr h).2.2.1
 simp only[j7,cJ,Bool.or_eq_true] at this
 rw[h2] at this
 simpa[aQ] using this
set_option maxHeartbeats 4000000 in
theorem VM (x:be) (e:Ev) (hg:cK x) (ht:x.time≤1000000):
 Fn Tryz.prog 99 [x.av,e.av] (AV.c9 [(gX x e).1.av,AV.bool (gX x e).2]):=by
 refine Fn.intro 87 Tryz.func99 rfl Tryz.ntmps99 rfl (by kernel_rfl) (fun W I a hs=>?_)
 have ix:=hg.ao
 have rD:=hg.au
 have qx:=Ln hg e
 refine sr<|hs.box rfl .tt fun b2 I a w hs=>hs.o .bp fun hs=>hs.alloc rfl cG g9 fun b4 I a w hs=>?_
 refine dq fun I a w hs=>?_
 refine hs.o (.cl (gP ..)) fun hs=>?_
 refine hs.o .nt fun hs=>nn ?_
 refine hs.cd (fun ae=>?_) fun ae=>?_
 ·rw[Bool.not_eq_true'] at ae
  refine aB fun I a w hs=>?_
  refine nn<|wp_ret<|aE ?_
  refine hs.ret rfl (.cons (.s 1 cG rfl rfl (by first|rfl|assumption)) (.cons (.t rfl) aU.nil)) ?_
  exact(by rw[z5 ae];rfl)
 ·rw[Bool.not_eq_false'] at ae;have pG:=ae;simp only[aQ,Bool.and_eq_true,decide_eq_true_eq] at pG;have hm:=hg.words _ (bx (l:=x.ao) (k:=e.word.toNat) (by omega))
  refine cx fun I a w hs=>?_
  refine hs.alloc rfl cj dB fun b6 I a w hs=>?_
  refine hs.sb 2 fun hs=>?_
  obtain⟨I,hs⟩:=hs.fb 2 6
  refine nn ?_
  refine St.cut (σ:=List aD) (run 23 24 []) ⟨fun rd=>[],fun rd=>[Own.box b2 28 [AV.int x.time,bK x.au,bj rd,bE x.calls,bI x.seen],Own.box b4 28 [AV.val (.int .i64 0),AV.rows 7 [],AV.rows 15 [],AV.rows 13 [],AV.rows 1 []],Own.gone],fun rd=>rd=fY x e⟩ hs ?n6 ?n7
  case n6=>
   refine gi fun I a w hs=>?_
   refine nn ?_
   refine hs.cd (fun ah=>?_) fun ah=>?_
   ·skip
    have hs:=hs.gN
    refine hs.eT [([],none),([],none),([0],none),([],none),([],none),([],none),([3],some (3,[38])),([],none),([0],none),([],none),([],none),([],none),([],none),([3],some (3,[])),([],none),([0],some (0,[]))] (by kernel_rfl) (by kernel_rfl) rfl ?_
    refine .o (qP dh cj) ?_
    refine bz ?_
    refine .r [0] (.lb 0) ?_
    refine cq ?_
    refine .o (vy dh cj .r .tt (fun _=>by simp only[List.length_map];omega)) ?_
    refine aV.vG 3 rfl rfl dh cj rfl .tt .r (by simp;omega) ?_
    refine bz ?_
    refine .r [0] (.lb 0) ?_
    refine du ?_
    refine .o (AW dh cj .r .tt (fun _=>by simp only[List.length_map];omega)) ?_
    refine aV.x5 3 rfl rfl dh cj rfl .r (by simp;omega) ?_
    refine bz ?_
    refine aV.gz (x:=AV.any) 0 (fun F W0 I0 I a w Q hs kk=>hs.s1 0 fun hs=>kk _ _ _ hs) ?_
    refine .nil ?_
    intro I a w hs
    rw[←List.map_take,←List.map_drop,←List.map_append,show(e.word+1).toNat=e.word.toNat+1 by omega] at hs
    refine aG ?_
    have hs:=hs.drop 3
    exact hs.me (x.ao.take e.word.toNat++x.ao.drop (e.word.toNat+1)) (by first|exact(if_pos (by simpa using ah)).symm|exact(if_neg (by simpa using ah)).symm)
   ·skip
    refine wp_skip<|aG ?_
    have hs:=hs.drop 3
    exact hs.me x.ao (by first|exact(if_pos (by simpa using ah)).symm|exact(if_neg (by simpa using ah)).symm)
  case n7=>
   rintro rd I a w al hs
   obtain rfl:rd=fY x e:=al
   refine aB fun I a w hs=>?_
   refine nn ?_
   refine hs.cd (fun aj=>?_) fun aj=>?_
   ·try simp only[B] at aj
    refine aB fun I a w hs=>?_
    refine nn<|wp_ret<|aE ?_
    refine hs.ret rfl (.cons (.s 1 cG rfl rfl (by first|rfl|assumption)) (.cons (.t rfl) aU.nil)) ?_
    exact(by rw[rH ae,if_pos aj];rfl)
   ·try simp only[B] at aj
    refine ai fun I a w hs=>?_
    refine hs.o (.c1 (wg ..)) fun hs=>nn ?_
    refine hs.cd (fun aI=>?_) fun aI=>?_
    ·skip
     refine ai fun I a w hs=>?_
     refine hs.o (.c2 (Vu {x with ao:=fY x e} (ab x.ao e.word.toNat) qx ht aI)) fun hs=>?_
     refine ai fun I a w hs=>?_
     refine nn<|wp_ret<|aE ?_
     refine hs.ret rfl (.cons (.s 1 cG rfl rfl (by first|rfl|assumption)) (.cons (.t rfl) aU.nil)) ?_
     exact(by rw[rH ae,if_neg aj,if_pos aI];rfl)
    ·have oP:=VL hm aI;have ib:=(hg.site (ab x.ao e.word.toNat).to.toNat (by omega)).2
     refine wp_skip<|aG<|wp_seq ?_
     have hs:=hs.gN
     refine hs.eT [([],none),([0],none),([],none),([],none),([],none),([],none),([],none),([],none),([],none),([],none),([],none),([3],some (3,[7])),([3],some (3,[7])),([],none)] (by kernel_rfl) (by kernel_rfl) rfl ?_
     refine bz ?_
     refine .r [0] (.lb 0) ?_
     refine eK ?_
     refine .o (.c2 (S5 (ab x.au (ab x.ao e.word.toNat).to.toNat) (ab x.ao e.word.toNat) ib)) ?_
     refine du ?_
     refine aV.alloc 3 rfl rfl ba df<|aV.pL 3 rfl ba rfl .tt rfl rfl ?_
     refine bz ?_
     refine .nil ?_
     intro I a w hs
     obtain⟨b7,hs⟩:=hs.nw (d:=7) 3 rfl rfl
     obtain⟨I,hs⟩:=hs.fb 3 7
     refine aG<|sr ?_
     refine hs.cT rfl kt ba (by decide) fun b68 I a w hs=>?_
     refine ai fun I a w hs=>?_
     refine hs.append 4 rfl kt ba rfl .tt .r rfl (by simp;omega) fun v71 a w hs=>?_
     simp only[List.nil_append] at hs
     refine hs.o .fv fun hs=>?_
     try have adr:=hs.dS 4 rfl
     refine hs.s1 0 fun hs=>?_
     refine nn<|wp_seq ?_
     obtain⟨xo,xp,n9⟩:=hs.g8 4 rfl (by simp only[List.length_map];omega)
     subst n9
     refine aW fun I a w hs=>?_
     refine hs.o (gv kt ba .tt .tt (fun _=>by simp only[List.length_map];omega)) fun hs=>?_
     refine hs.jx 4 ba .tt .tt rfl (by exact ek (by omega)) rfl rfl fun a w hs=>?_
     refine nn<|wp_seq ?_
     have e9:∀y,y=Server.cells (eX (ab x.au (ab x.ao e.word.toNat).to.toNat) (ab x.ao e.word.toNat)).1→(List.map Server.cells x.au).set (ab x.ao e.word.toNat).to.toNat y=List.map Server.cells (x.au.set (ab x.ao e.word.toNat).to.toNat (eX (ab x.au (ab x.ao e.word.toNat).to.toNat) (ab x.ao e.word.toNat)).1):=fun y hy=>by rw[hy,List.map_set]
     rw[e9] at hs
     rotate_left
     ·rfl
     obtain⟨I,hs⟩:=hs.fu 4 1 0
     refine St.region ?_
     refine hs.cT rfl dh cj (by decide) fun b79 I a w hs=>?_
     refine ai fun I a w hs=>?_
     refine hs.append 5 rfl dh cj rfl .tt .r rfl (by have h9:(fY x e).length≤60:=qx.ao;simp;omega) fun Dt a w hs=>?_
     simp only[List.nil_append] at hs
     refine hs.m fun hs=>?_
     refine hs.dZ [5] (zZ Dt (fY x e) (eX (ab x.au (ab x.ao e.word.toNat).to.toNat) (ab x.ao e.word.toNat)).2 qx.ao) (aw .r (aw .r aP)) rfl (by decide) rfl fun I a w hs=>?_
     refine aW fun I a w hs=>?_
     refine nn<|wp_ret ?_
     refine hs.ret rfl (.cons (.s 1 cG rfl rfl (by first|rfl|assumption)) (.cons (.t rfl) aU.nil)) ?_
     exact(by rw[rH ae,if_neg aj,if_neg (by rw[aI];simp)];rfl)
theorem VN {w:be} {e:Ev} (h:((e.kind==1)||(e.kind==2)||(e.kind==3))=true):ei w e=((ia {w with time:=w.time+1} e).1,(ia {w with time:=w.time+1} e).2):=by unfold ei;rw[if_pos (by simp at h;omega)]
theorem VO {w:be} {e:Ev} (h:((e.kind==1)||(e.kind==2)||(e.kind==3))=false) (h2:((e.kind==4)||(e.kind==5))=true):ei w e=((gX {w with time:=w.time+1} e).1,(gX {w with time:=w.time+1} e).2):=by unfold ei;rw[if_neg (by simp at h;omega),if_pos (by simpa using h2)]
theorem VP {w:be} {e:Ev} (h:((e.kind==1)||(e.kind==2)||(e.kind==3))=false) (h2:((e.kind==4)||(e.kind==5))=false) (h3:(!aQ e.kind 6 9||!cJ e.at_)=true):ei w e=({w with time:=w.time+1},false):=by
 unfold ei;rw[if_neg (by simp at h;omega),if_neg (by simpa using h2),if_neg (by simp at h3;simp;intro h9;rcases h3 with h'|h';(rw[h'] at h9;cases h9);exact h')]
theorem VQ {w:be} {e:Ev} (h:((e.kind==1)||(e.kind==2)||(e.kind==3))=false) (h2:((e.kind==4)||(e.kind==5))=false) (h3:(!aQ e.kind 6 9||!cJ e.at_)=false):ei w e=((eQ {w with time:=w.time+1} e).1,(eQ {w with time:=w.time+1} e).2):=by
 unfold ei;rw[if_neg (by simp at h;omega),if_neg (by simpa using h2),if_pos (by simp at h3⊢;exact h3)]
theorem VR {e:Ev} (h3:(!aQ e.kind 6 9||!cJ e.at_)=false):cJ e.at_=true:=by simp at h3;exact h3.2
set_option maxHeartbeats 4000000 in
theorem Lo (x:be) (e:Ev) (hg:cK x) (ht:x.time≤999999):
 Fn Tryz.prog 51 [x.av,e.av] (AV.c9 [(ei x e).1.av,AV.bool (ei x e).2]):=by
 refine Fn.intro 60 Tryz.func51 rfl Tryz.ntmps51 rfl (by kernel_rfl) (fun W I a hs=>?_)
 have uV:=hg.time
 have qx:=hg.later
 have D8:be.time {x with time:=x.time+1}≤1000000:=by show x.time+1≤1000000;omega
 refine sr<|hs.box rfl .tt fun b2 I a w hs=>hs.o .bp fun hs=>hs.alloc rfl cG g9 fun b4 I a w hs=>?_
 refine yk fun I a w hs=>?_
 refine nn ?_
 refine hs.cd (fun ae=>?_) fun ae=>?_
 ·skip
  refine ai fun I a w hs=>?_
  refine hs.o (.c2 (VJ {x with time:=x.time+1} e qx D8)) fun hs=>?_
  refine aJ fun I a w hs=>?_
  refine nn<|wp_ret<|bh<|aE ?_
  refine hs.ret rfl (.cons (.s 1 cG rfl rfl (by first|rfl|assumption)) (.cons (.t rfl) aU.nil)) ?_
  exact(by rw[VN ae];rfl)
 ·skip
  refine jR fun I a w hs=>?_
  refine nn ?_
  refine hs.cd (fun ah=>?_) fun ah=>?_
  ·skip
   refine ai fun I a w hs=>?_
   refine hs.o (.c2 (VM {x with time:=x.time+1} e qx D8)) fun hs=>?_
   refine aJ fun I a w hs=>?_
   refine nn<|wp_ret<|bh<|aE ?_
   refine hs.ret rfl (.cons (.s 1 cG rfl rfl (by first|rfl|assumption)) (.cons (.t rfl) aU.nil)) ?_
   exact(by rw[VO ae ah];rfl)
  ·skip
   refine ai fun I a w hs=>?_
   refine hs.o (.cl (gP ..)) fun hs=>?_
   refine aJ fun I a w hs=>?_
   refine hs.q .F (.cl (oA ..)) fun hs=>?_
   refine aB fun I a w hs=>?_
   refine nn ?_
   refine hs.cd (fun aj=>?_) fun aj=>?_
   ·skip
    refine aB fun I a w hs=>?_
    refine nn<|wp_ret<|bh<|aE ?_
    refine hs.ret rfl (.cons (.s 1 cG rfl rfl (by first|rfl|assumption)) (.cons (.t rfl) aU.nil)) ?_
    exact(by rw[VP ae ah aj];rfl)
   ·skip
    refine ai fun I a w hs=>?_
    refine hs.o (.c2 (VH {x with time:=x.time+1} e qx D8 (VR aj))) fun hs=>?_
    refine aJ fun I a w hs=>?_
    refine nn<|wp_ret ?_
    refine hs.ret rfl (.cons (.s 1 cG rfl rfl (by first|rfl|assumption)) (.cons (.t rfl) aU.nil)) ?_
    exact(by rw[VQ ae ah aj];rfl)
def uW:Nat→List Server
 |0=>[]
 |k+1=>uW k++[sQ k]
def z6:Nat→List (List ar)
 |0=>[]
 |k+1=>z6 k++[[]]
theorem D9:∀k,(uW k).length=k
 |0=>rfl
 |k+1=>by show(uW k++[sQ k]).length=_;rw[List.length_append,D9 k];rfl
theorem Lp:∀k,(z6 k).length=k
 |0=>rfl
 |k+1=>by show(z6 k++[[]]).length=_;rw[List.length_append,Lp k];rfl
set_option maxHeartbeats 4000000 in
theorem Lq:
 Fn Tryz.prog 7 [] (ej.av):=by
 refine Fn.intro 27 Tryz.func7 rfl Tryz.ntmps7 rfl (by kernel_rfl) (fun W I a hs=>?_)
 refine sr<|hs.alloc rfl cG g9 fun b0 I a w hs=>nn<|sr ?_
 refine hs.o (.bd tT aZ.nil) fun hs=>?_
 refine hs.alloc rfl cG tT fun b1 I a w hs=>?_
 refine hs.sb 1 fun hs=>?_
 refine wpList_nil ?_
 have hs:=hs.fi (sz:=7) 44
 have hs:=hs.fi (sz:=1) 42
 refine az fun I a w hs=>?_
 refine nn<|wp_block ?_
 refine St.lo (σ:=Nat×Value) (2::(run 11 5 [])) ⟨fun⟨k,p⟩=>[(2,AV.int k)],fun⟨k,p⟩=>[Own.box b0 28 [AV.val (.int .i64 0),AV.rows 7 [],AV.rows 15 [],AV.rows 13 [],AV.rows 1 []],Own.box b1 28 [AV.int 0,AV.val p,AV.val (.slice none 0 0),AV.val (.slice none 0 0),AV.val (.slice none 0 0)],Own.row p 44 7 ((uW k).map Server.cells),Own.row (.slice none 0 0) 42 1 []],fun⟨k,p⟩=>k≤4⟩ (fun⟨k,p⟩=>4-k) (0,.slice none 0 0) hs ?aN ?aO
 case aN=>exact Nat.zero_le _
 case aO=>
  rintro⟨k,p⟩ I a w al hs
  have hk:k≤4:=al
  dsimp only at hs
  refine ai fun I a w hs=>?_
  refine nn ?_
  refine hs.cd (fun ae=>?_) fun ae=>?_
  ·try simp only[B] at ae
   refine wp_skip<|aG<|wp_seq<|wp_block ?_
   refine hs.dp 5 (by kernel_rfl) (by kernel_rfl) (by kernel_rfl) ?_
   simp only[List.take_succ_cons,List.take_zero,List.drop_succ_cons,List.drop_zero]
   refine du ?_
   refine .o (cI (Tf k (by omega)) (aw (.t rfl) aP)) ?_
   refine .o (.li [(sQ k).cells] yn (.u .nil)) ?_
   refine .nil ?_
   intro I a w hs
   refine hs.append 2 rfl kt ba rfl .tt .r rfl (by rw[List.length_map,D9];simp;omega) fun jY a w hs=>?_
   refine hs.o .fv fun hs=>?_
   try have Kp:=hs.dS 2 rfl
   refine hs.s1 1 fun hs=>?_
   refine wpList_nil ?_
   rw[ck] at hs
   refine aB fun I a w hs=>?_
   refine nn ?_
   exact hs.ag (k+1,jY) (by show k+1≤4;omega)
  ·try simp only[B] at ae
   refine wp_exit<|aF<|aF<|aY ?_
   refine az fun I a w hs=>?_
   refine nn<|wp_block ?_
   refine St.lo (σ:=Nat×Value) (3::(run 10 16 [])) ⟨fun⟨j,r⟩=>[(3,AV.int j)],fun⟨j,r⟩=>[Own.box b0 28 [AV.val (.int .i64 0),AV.rows 7 [],AV.rows 15 [],AV.rows 13 [],AV.rows 1 []],Own.box b1 28 [AV.int 0,AV.val p,AV.val (.slice none 0 0),AV.val (.slice none 0 0),AV.val r],Own.row p 44 7 ((uW k).map Server.cells),Own.row r 42 1 ((z6 j).map ey)],fun⟨j,r⟩=>j≤2⟩ (fun⟨j,r⟩=>2-j) (0,.slice none 0 0) hs ?dT ?dU
   case dT=>exact Nat.zero_le _
   case dU=>
    rintro⟨j,r⟩ I a w al hs
    have hj:j≤2:=al
    dsimp only at hs
    refine ai fun I a w hs=>?_
    refine nn ?_
    refine hs.cd (fun ah=>?_) fun ah=>?_
    ·try simp only[B] at ah
     refine ai fun I a w hs=>?_
     refine hs.cT rfl bA bk (by decide) fun VI I a w hs=>?_
     obtain⟨I,hs⟩:=hs.fr 4 22
     refine hs.o (.li [ey []] BV (.v .nil)) fun hs=>?_
     refine hs.append 3 rfl nB kr rfl .tt .r rfl (by rw[List.length_map,Lp];simp;omega) fun wR a w hs=>?_
     rw[ck] at hs
     refine hs.o .fv fun hs=>?_
     try have QM:=hs.dS 3 rfl
     refine aJ fun I a w hs=>?_
     refine nn ?_
     have hs:=hs.drop 4
     exact hs.ag (j+1,wR) (by show j+1≤2;omega)
    ·try simp only[B] at ah
     refine wp_exit<|aF<|aF<|aY<|aG<|wp_seq ?_
     have Ea:k=4:=by omega
     have VT:j=2:=by omega
     subst Ea
     subst VT
     obtain⟨I,hs⟩:=hs.fu 2 1 1
     obtain⟨I,hs⟩:=hs.fu 3 4 1
     have hs:=hs.km (q:=2) 1 rfl rfl (eb 15 _)
     have hs:=hs.km (q:=3) 1 rfl rfl (eb 13 _)
     refine ai fun I a w hs=>?_
     refine nn<|wp_ret ?_
     refine hs.ret rfl (.cons (.s 0 cG rfl rfl (by first|rfl|assumption)) aU.nil) ?_
     rfl
def nd (bs:List UInt8) (i:Int):Int:=((ab bs i.toNat).toNat:Int)
def tl (bs:List UInt8) (k:Int):Int:=nd bs (k%bs.length)*131+nd bs ((k*7+3)%bs.length)*1117+k*29+k/bs.length*53
def cX (bs:List UInt8) (p n:Int):Int:=
 if n<1∨bs.length=0 then 0 else if p<bs.length then nd bs p%n else ox (tl bs p) (tl bs p/64)%n
theorem lG (bs:List UInt8) (i:Int):0≤nd bs i:=Int.natCast_nonneg _
theorem lH (bs:List UInt8) (i:Int):nd bs i<256:=by have:=(ab bs i.toNat).toNat_lt;unfold nd;omega
theorem fZ (bs:List UInt8) (p n:Int):0≤cX bs p n:=by
 unfold cX
 split
 ·omega
 ·rename_i h
  split
  ·exact Int.emod_nonneg _ (by omega)
  ·exact Int.emod_nonneg _ (by omega)
theorem gu (bs:List UInt8) (p:Int) {n:Int} (h:0<n):cX bs p n<n:=by
 unfold cX
 split
 ·omega
 ·split
  ·exact Int.emod_lt_of_pos _ h
  ·exact Int.emod_lt_of_pos _ h
theorem tm (bs:List UInt8) (p:Int) {n:Int} (h:0<n):0≤cX bs p n∧cX bs p n<n:=⟨fZ ..,gu bs p h⟩
theorem fL (bs:List UInt8) (p n:Int) (h:n≤4611686018427387904):0≤cX bs p n∧cX bs p n<4611686018427387904:=by
 refine⟨fZ ..,?_⟩
 by_cases h0:0<n
 ·have:=gu bs p h0;omega
 ·unfold cX;rw[if_pos (by omega)];omega
theorem tn {k m:Int} (hk:0≤k) (hm:0<m):0≤k/m∧k/m≤k:=⟨Int.ediv_nonneg hk (by omega),Int.ediv_le_self _ hk⟩
theorem VU {bs:List UInt8} {k:Int} (h0:0≤k) (h1:k≤1099511627776) (hb:bs.length≠0):0≤tl bs k∧tl bs k<4611686018427387904:=by
 have h2:=lG bs (k%bs.length);have h3:=lH bs (k%bs.length)
 have h4:=lG bs ((k*7+3)%bs.length);have h5:=lH bs ((k*7+3)%bs.length)
 have h6:=tn (k:=k) (m:=bs.length) h0 (by omega)
 unfold tl;omega
inductive Reach:be→Prop
 |start:Reach ej
 |step {w:be} {e:Ev}:Reach w→(ei w e).2=true→Reach (ei w e).1
theorem Reach.eD {w:be} (h:Reach w):cK w:=by
 induction h with
 |start=>exact(nV.1 zs).1
 |step _ al ih=>exact Jo ih _ al
def eY (x:Int):Prop:=-4611686018427387904≤x∧x≤4611686018427387904
def Ev.uX (e:Ev):Prop:=∀x∈e.ints,eY x
structure di where
 w:be
 list:List Ev
 lv:Value
structure cB (n:Nat) (s:di):Prop where
 reach:Reach s.w
 time:s.w.time≤n
 len:s.list.length≤n
 fit:∀e∈s.list,e.uX
theorem cB.mono {n m:Nat} {s:di} (h:cB n s) (hm:n≤m):cB m s:=
 ⟨h.reach,by have:=h.time;omega,by have:=h.len;omega,h.fit⟩
theorem cB.start (n:Nat) (v:Value):cB n ⟨ej,[],v⟩:=⟨.start,Int.natCast_nonneg n,Nat.zero_le _,fun _ h=>by simp at h⟩
theorem cB.VV {n:Nat} {s:di} {e:Ev} (h:cB n s) (he:e.uX) (al:(ei s.w e).2=true) (v:Value):cB (n+1) ⟨(ei s.w e).1,s.list++[e],v⟩:=
 ⟨h.reach.step al,by have:=h.time;show(ei s.w e).1.time≤_;rw[Jp];omega,by have:=h.len;show(s.list++[e]).length≤_;simp;omega,fun x hx=>by
  rcases List.mem_append.1 hx with hx|hx
  ·exact h.fit x hx
  ·obtain rfl:=List.mem_singleton.1 hx;exact he⟩
theorem cB.ao {n:Nat} {s:di} (h:cB n s):s.w.ao.length≤60:=h.reach.eD.ao
theorem iJ {a b c d e f g h i j k:Int} (h1:eY a:=by unfold eY;omega) (h2:eY b:=by unfold eY;omega) (h3:eY c:=by unfold eY;omega) (h4:eY d:=by unfold eY;omega) (h5:eY e:=by unfold eY;omega) (h6:eY f:=by unfold eY;omega)
 (h7:eY g:=by unfold eY;omega) (h8:eY h:=by unfold eY;omega) (h9:eY i:=by unfold eY;omega) (zl:eY j:=by unfold eY;omega) (xI:eY k:=by unfold eY;omega):Ev.uX ⟨a,b,c,d,e,f,g,h,i,j,k⟩:=by
 intro x hx
 unfold eY at*
 simp only[Ev.ints,List.mem_cons,List.not_mem_nil,or_false] at hx
 rcases hx with rfl|rfl|rfl|rfl|rfl|rfl|rfl|rfl|rfl|rfl|rfl<;>omega
theorem VW {x i:Int} (h:eY x):eY (ab [0,2,x] i.toNat):=by
 unfold eY at*
 have:∀k:Nat,ab [0,2,x] k=0∨ab [0,2,x] k=2∨ab [0,2,x] k=x:=fun k=>by
  match k with
  |0=>exact .inl rfl
  |1=>exact .inr (.inl rfl)
  |2=>exact .inr (.inr rfl)
  |k+3=>exact .inl rfl
 rcases this i.toNat with h|h|h<;>omega
def Eb (x:UInt8):List AV:=[AV.byte x]
def bF (l:List UInt8):AV:=.rows 1 (l.map Eb)
theorem VX {bs:List UInt8} {p n:Int} (h:(decide (n<1)||((bs.length:Int)==0))=true):0=cX bs p n:=by
 simp only[Bool.or_eq_true,decide_eq_true_eq,beq_iff_eq] at h
 unfold cX;rw[if_pos (by omega)]
theorem VY {bs:List UInt8} {n:Int} (h:(decide (n<1)||((bs.length:Int)==0))=false):¬(n<1∨bs.length=0):=by
 simp only[Bool.or_eq_false_iff,decide_eq_false_iff_not,beq_eq_false_iff_ne,ne_eq] at h;omega
theorem z7 {x:Int} (h1:0≤x) (h2:x<4611686018427387904):eY x:=by unfold eY;omega
set_option maxHeartbeats 4000000 in
theorem eM (br:Nat) (code:List UInt8) (p n:Int) (hp:0≤p∧p≤1099511627775) (hb:code.length≤1099511627776):
 gO Tryz.prog 26 [AV.val (.pointer (some ⟨br,0,none⟩)),AV.int n] [Own.box br 88 [bF code,AV.int (p)]] [Own.box br 88 [bF code,AV.int (p+1)]] (AV.int (cX code p n)):=by
 refine cL.intro 99 Tryz.func26 rfl Tryz.ntmps26 rfl (by kernel_rfl) (fun W I a hs=>?_)
 refine yk fun I a w hs=>?_
 refine nn ?_
 refine hs.cd (fun ae=>?_) fun ae=>?_
 ·skip
  refine az fun I a w hs=>?_
  refine nn<|wp_ret<|aE<|hs.cP () [0] rfl (.cons (.t rfl) .nil) trivial rfl ?_
  exact congrArg AV.int (VX ae)
 ·replace ae:=VY ae
  refine nz fun I a w hs=>?_
  refine nn ?_
  refine hs.cd (fun ah=>?_) fun ah=>?_
  ·try simp only[B] at ah
   refine dq fun I a w hs=>?_
   refine hs.o (Bb (by kernel_rfl) nA .tt (fun _=>by have y1:=(ab code (p+1-1).toNat).toNat_lt;omega)) fun hs=>?_
   refine hs.m fun hs=>?_
   refine hs.o (pI .tt .tt (fun _=>by have y1:=(ab code (p+1-1).toNat).toNat_lt;omega)) fun hs=>?_
   refine hs.s fun hs=>nn<|wp_ret<|aE<|hs.cP () [0] rfl (.cons (.t rfl) .nil) trivial rfl<|congrArg AV.int ?_
   unfold cX
   rw[if_neg ae,if_pos (by omega),Int.add_sub_cancel]
   rfl
  ·try simp only[B] at ah
   refine wp_skip<|aG<|wp_seq<|hs.dk ?_
   refine mK ?_
   refine .o (pI .tt .tt (fun _=>by omega)) ?_
   refine .o ((by first|exact eZ sx sw .tt .tt (fun _=>by have h9:=Int.emod_nonneg (p+1-1) (show(code.length:Int)≠0 by omega);have h8:=Int.emod_lt_of_pos (p+1-1) (show(0:Int)<code.length by omega);omega)|exact iM sx sw .tt .tt (fun _=>by have h9:=Int.emod_nonneg (p+1-1) (show(code.length:Int)≠0 by omega);have h8:=Int.emod_lt_of_pos (p+1-1) (show(0:Int)<code.length by omega);omega)|exact iX sx sw .tt .tt (fun _=>by have h9:=Int.emod_nonneg (p+1-1) (show(code.length:Int)≠0 by omega);have h8:=Int.emod_lt_of_pos (p+1-1) (show(0:Int)<code.length by omega);omega))) ?_
   refine bz ?_
   refine .o (Bb (by kernel_rfl) nA .tt (fun _=>by have y1:=(ab code ((p+1-1)%(code.length:Int)).toNat).toNat_lt;omega)) ?_
   refine .o (mz .tt .c (fun _=>by have y1:=lG code ((p+1-1)%code.length);have y2:=lH code ((p+1-1)%code.length);have y3:=lG code (((p+1-1)*7+3)%code.length);have y4:=lH code (((p+1-1)*7+3)%code.length);have y5:=tn (k:=p+1-1) (m:=code.length) (by omega) (by omega);unfold nd at y1 y2 y3 y4;omega)) ?_
   refine eK ?_
   refine .o (mz .tt .c (fun _=>by omega)) ?_
   refine fP ?_
   refine .o (pI .tt .tt (fun _=>by omega)) ?_
   refine .o ((by first|exact eZ sx sw .tt .tt (fun _=>by have h9:=Int.emod_nonneg ((p+1-1)*7+3) (show(code.length:Int)≠0 by omega);have h8:=Int.emod_lt_of_pos ((p+1-1)*7+3) (show(0:Int)<code.length by omega);omega)|exact iM sx sw .tt .tt (fun _=>by have h9:=Int.emod_nonneg ((p+1-1)*7+3) (show(code.length:Int)≠0 by omega);have h8:=Int.emod_lt_of_pos ((p+1-1)*7+3) (show(0:Int)<code.length by omega);omega)|exact iX sx sw .tt .tt (fun _=>by have h9:=Int.emod_nonneg ((p+1-1)*7+3) (show(code.length:Int)≠0 by omega);have h8:=Int.emod_lt_of_pos ((p+1-1)*7+3) (show(0:Int)<code.length by omega);omega))) ?_
   refine bz ?_
   refine .o (Bb (by kernel_rfl) nA .tt (fun _=>by have y1:=(ab code (((p+1-1)*7+3)%(code.length:Int)).toNat).toNat_lt;omega)) ?_
   refine .o (mz .tt .c (fun _=>by have y1:=lG code ((p+1-1)%code.length);have y2:=lH code ((p+1-1)%code.length);have y3:=lG code (((p+1-1)*7+3)%code.length);have y4:=lH code (((p+1-1)*7+3)%code.length);have y5:=tn (k:=p+1-1) (m:=code.length) (by omega) (by omega);unfold nd at y1 y2 y3 y4;omega)) ?_
   refine .o (jM .tt .tt (fun _=>by have y1:=lG code ((p+1-1)%code.length);have y2:=lH code ((p+1-1)%code.length);have y3:=lG code (((p+1-1)*7+3)%code.length);have y4:=lH code (((p+1-1)*7+3)%code.length);have y5:=tn (k:=p+1-1) (m:=code.length) (by omega) (by omega);unfold nd at y1 y2 y3 y4;omega)) ?_
   refine bz ?_
   refine .o (mz .tt .c (fun _=>by omega)) ?_
   refine .o (jM .tt .tt (fun _=>by have y1:=lG code ((p+1-1)%code.length);have y2:=lH code ((p+1-1)%code.length);have y3:=lG code (((p+1-1)*7+3)%code.length);have y4:=lH code (((p+1-1)*7+3)%code.length);have y5:=tn (k:=p+1-1) (m:=code.length) (by omega) (by omega);unfold nd at y1 y2 y3 y4;omega)) ?_
   refine fP ?_
   refine .o (tL .tt .tt (fun _=>by omega)) ?_
   refine .o (mz .tt .c (fun _=>by have y1:=lG code ((p+1-1)%code.length);have y2:=lH code ((p+1-1)%code.length);have y3:=lG code (((p+1-1)*7+3)%code.length);have y4:=lH code (((p+1-1)*7+3)%code.length);have y5:=tn (k:=p+1-1) (m:=code.length) (by omega) (by omega);unfold nd at y1 y2 y3 y4;omega)) ?_
   refine .o (jM .tt .tt (fun _=>by have y1:=lG code ((p+1-1)%code.length);have y2:=lH code ((p+1-1)%code.length);have y3:=lG code (((p+1-1)*7+3)%code.length);have y4:=lH code (((p+1-1)*7+3)%code.length);have y5:=tn (k:=p+1-1) (m:=code.length) (by omega) (by omega);unfold nd at y1 y2 y3 y4;omega)) ?_
   refine bz ?_
   refine .nil ?_
   intro I a w hs
   have qQ:=VU (bs:=code) (k:=p) hp.1 (by omega) (by omega)
   rw[Int.add_sub_cancel] at hs
   change St _ _ _ ((6,AV.int (tl code p))::_) _ _ at hs
   generalize hX:tl code p=X at hs qQ
   refine ai fun I a w hs=>?_
   refine hs.o (tL .tt .c (fun _=>by omega)) fun hs=>?_
   refine hs.o (Gs .tt .tt (fun _=>by omega)) fun hs=>?_
   refine aB fun I a w hs=>?_
   refine hs.o (pI .tt .tt (fun _=>by have:=Gq (m:=X) (n:=X/64);have:=Gr (m:=X) (n:=X/64) (by omega) (by omega);omega)) fun hs=>?_
   refine hs.s fun hs=>nn<|wp_ret<|hs.cP () [0] rfl (.cons (.t rfl) .nil) trivial rfl<|congrArg AV.int ?_
   unfold cX
   rw[if_neg ae,if_neg (by omega),hX]
set_option maxHeartbeats 4000000 in
theorem kg (bs br:Nat) (s:di) (e:Ev) (n:Nat) (h:cB n s) (hn:n≤900000) (he:e.uX):
 cL Tryz.prog 94 [AV.val (.pointer (some ⟨bs,0,none⟩)),e.av] [Own.box bs 62 [AV.val (.pointer (some ⟨br,0,none⟩)),AV.int s.w.time,bK s.w.au,bj s.w.ao,bE s.w.calls,bI s.w.seen,AV.val s.lv],Own.row s.lv 39 11 (s.list.map Ev.cells)] (fun r:di×Bool=>cB (n+1) r.1) (fun r=>[Own.box bs 62 [AV.val (.pointer (some ⟨br,0,none⟩)),AV.int r.1.w.time,bK r.1.w.au,bj r.1.w.ao,bE r.1.w.calls,bI r.1.w.seen,AV.val r.1.lv],Own.row r.1.lv 39 11 (r.1.list.map Ev.cells)]) (fun r=>AV.bool r.2):=by
 refine cL.intro 32 Tryz.func94 rfl Tryz.ntmps94 rfl (by kernel_rfl) (fun W I a hs=>?_)
 have hle:=h.len
 have htm:=h.time
 refine ai fun I a w hs=>?_
 refine nn<|wp_seq ?_
 have hs:=hs.gN
 refine hs.eT [([],none),([],none),([],none),([0],none),([],none),([],none),([],none),([],none),([],none),([2],some (2,[5])),([2],some (2,[5])),([],none)] (by kernel_rfl) (by kernel_rfl) rfl ?_
 refine du ?_
 refine .r [0] (.ls 0) ?_
 refine bz ?_
 refine .o (cI (Lo s.w e h.reach.eD (by omega)) (aw (.t rfl) (aw (.t rfl) aP))) ?_
 refine du ?_
 refine aV.alloc 2 rfl rfl cG g9<|aV.pL 2 rfl cG rfl .tt rfl rfl ?_
 refine bz ?_
 refine .nil ?_
 intro I a w hs
 obtain⟨b5,hs⟩:=hs.nw (d:=5) 2 rfl rfl
 obtain⟨I,hs⟩:=hs.fb 2 5
 refine az fun I a w hs=>?_
 refine nn ?_
 refine hs.cd (fun ae=>?_) fun ae=>?_
 ·skip
  refine aJ fun I a w hs=>?_
  refine hs.oi 0 cG .tt .tt rfl rfl rfl fun a w hs=>nn ?_
  refine hs.eT [([],none),([],none),([],none),([],none),([0],none),([],none),([],none),([1],some (1,[28])),([],none),([],none),([0],some (0,[28]))] (by kernel_rfl) (by kernel_rfl) rfl ?_
  refine de ?_
  refine .r [0] (.lb 0) ?_
  refine bz ?_
  refine .o (.li [e.cells] OM (.u .nil)) ?_
  refine aV.Bp 1 rfl rfl sB oz rfl .tt .r (by simp;omega) ?_
  refine cq ?_
  refine aV.x6 0 rfl OK .tt rfl rfl<|.nil ?_
  intro I a w hs
  change St _ _ [Own.box bs 62 [AV.val (.pointer (some ⟨br,0,none⟩)),AV.int (ei s.w e).1.time,bK (ei s.w e).1.au,bj (ei s.w e).1.ao,bE (ei s.w e).1.calls,bI (ei s.w e).1.seen,AV.val (a.tmps.getD 28 undef)],Own.row (a.tmps.getD 28 undef) 39 11 (s.list.map Ev.cells++[e.cells]),_] _ _ _ at hs
  generalize a.tmps.getD 28 undef=lv at hs
  rw[show s.list.map Ev.cells++[e.cells]=(s.list++[e]).map Ev.cells by simp] at hs
  refine ai fun I a w hs=>?_
  refine nn<|wp_ret ?_
  refine hs.cP ((⟨(ei s.w e).1,s.list++[e],lv⟩:di),(ei s.w e).2) [0,1] rfl (.cons (.t rfl) .nil) (h.VV he ae lv) rfl rfl
 ·skip
  refine ai fun I a w hs=>?_
  refine nn<|wp_ret ?_
  refine hs.cP (s,(ei s.w e).2) [0,1] rfl (.cons (.t rfl) .nil) (h.mono (by omega)) rfl rfl
end Go.Proofs.YtoeioeimmfpefaaGreat

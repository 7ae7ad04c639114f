/- Part 42: rules of the proofs, contracts of functions, plain facts. -/
import Derived.Test.YtoeioeimmfpefaaGreatP37
import Derived.Test.YtoeioeimmfpefaaGreatP39
import Derived.Test.YtoeioeimmfpefaaGreatP41
set_option linter.unusedVariables false
set_option linter.unusedSimpArgs false
set_option maxRecDepth 100000
set_option maxHeartbeats 4000000
namespace Go.Proofs.YtoeioeimmfpefaaGreat
open Go Go.RowKit
attribute [local irreducible] wpList Code.wp Ok
set_option maxHeartbeats 4000000 in
theorem VZ (q:Call) (m:aD) (t:Int) (h:dK q t) (ht:t≤1000000) (hm:bN m=true):
 Fn Tryz.prog 169 [q.av,m.av,AV.int t] ((c4 q m t).av):=by
 refine Fn.intro 99 Tryz.func169 rfl Tryz.ntmps169 rfl (by kernel_rfl) (fun W I a hs=>?_)
 have al:=oO.2 h
 have m9:=h.lens
 have hb:=h.bm
 have tg:=h.xi (by omega)
 have bB:=qp.1 h.aC
 refine ai fun I a w hs=>?_
 refine hs.alloc rfl cy iP fun b6 I a w hs=>?_
 refine ai fun I a w hs=>?_
 refine hs.o (cI (Cz q t (by omega)) (aw (.t rfl) (aw (.t rfl) aP))) fun hs=>?_
 refine hs.o .nt fun hs=>nn ?_
 refine hs.cd (fun ae=>?_) fun ae=>?_
 ·exfalso;rw[al] at ae;cases ae
  skip
 ·skip
  refine az fun I a w hs=>?_
  refine hs.cW [] (KW q h.small) (aw .tt aP) rfl (by decide) rfl fun⟨u,v⟩ I a w uL hs=>?_
  dsimp only at hs
  have hs:=hs.nf
  refine hs.alloc rfl cy iP fun b7 I a w hs=>?_
  refine ai fun I a w hs=>?_
  refine hs.o (.c1 (DM q)) fun hs=>?_
  refine jR fun I a w hs=>?_
  refine hs.q .F (cI (He m (by have:=ry hm;unfold c8;omega) (by have:=ry hm;unfold c8;omega)) (aw .ag aP)) fun hs=>?_
  refine G4 fun I a w hs=>?_
  refine hs.q .F (.cl (H8 q.keys m.key)) fun hs=>?_
  refine ai fun I a w hs=>?_
  refine nn ?_
  refine hs.cd (fun ah=>?_) fun ah=>?_
  ·rw[Lg] at ah;replace ah:=nt ah
   refine wp_seq ?_
   obtain⟨I,hs⟩:=hs.fu 1 11 3
   obtain⟨I,hs⟩:=hs.fu 2 12 3
   have hs:=hs.nf
   refine ai fun I a w hs=>?_
   refine nn<|wp_ret<|aE ?_
   refine hs.ret rfl (.cons (.s 0 cy rfl rfl (by first|rfl|assumption)) aU.nil) ?_
   exact(by unfold c4;rw[ah];rfl)
  ·rw[Lg] at ah;replace ah:=nf ah;have xl:=ah;simp only[Bool.and_eq_true,decide_eq_true_eq] at xl;obtain⟨⟨⟨⟨⟨_,_⟩,_⟩,iB⟩,hw⟩,D4⟩:=xl;have xm:=gn (mo hm).1
   refine aB fun I a w hs=>?_
   refine nn ?_
   refine hs.cd (fun aj=>?_) fun aj=>?_
   ·try simp only[B] at aj
    refine cx fun I a w hs=>?_
    refine hs.q .T (.cl (tV ..)) fun hs=>?_
    refine hs.o .an fun hs=>nn ?_
    refine hs.cd (fun aI=>?_) fun aI=>?_
    ·skip
     refine aJ fun I a w hs=>?_
     refine hs.oi 3 gj .tt .tt rfl rfl rfl fun a w hs=>?_
     refine ai fun I a w hs=>?_
     refine nn<|wp_seq ?_
     obtain⟨I,hs⟩:=hs.fu 1 11 3
     obtain⟨I,hs⟩:=hs.fu 2 12 3
     have hs:=hs.nf
     refine ai fun I a w hs=>?_
     refine nn<|wp_ret<|aE ?_
     refine hs.ret rfl (.cons (.s 0 cy rfl rfl (by first|rfl|assumption)) aU.nil) ?_
     exact(by unfold c4;rw[ah,if_pos rfl,if_pos aj,if_pos (by simpa using aI)];rfl)
    ·skip
     refine wp_skip<|aG<|wp_seq ?_
     obtain⟨I,hs⟩:=hs.fu 1 11 3
     obtain⟨I,hs⟩:=hs.fu 2 12 3
     have hs:=hs.nf
     refine ai fun I a w hs=>?_
     refine nn<|wp_ret<|aE ?_
     refine hs.ret rfl (.cons (.s 0 cy rfl rfl (by first|rfl|assumption)) aU.nil) ?_
     exact(by unfold c4;rw[ah,if_pos rfl,if_pos aj,if_neg (by simpa using aI)];rfl)
   ·try simp only[B] at aj
    refine wp_skip<|aG<|wp_seq<|wp_seq<|hs.dk ?_
    refine pT ?_
    refine .q .F2 (eZ (i:=0) cM bt .ag .c (fun hg=>by simp at hg;omega)) ?_
    refine mJ ?_
    refine .nil ?_
    intro I a w hs
    refine aG ?_
    refine hs.cd (fun aL=>?_) fun aL=>?_
    ·rw[zU] at aL;replace aL:=nt aL;rw[decide_eq_false_iff_not] at aL
     refine wp_seq ?_
     obtain⟨I,hs⟩:=hs.fu 1 11 3
     obtain⟨I,hs⟩:=hs.fu 2 12 3
     have hs:=hs.nf
     refine ai fun I a w hs=>?_
     refine nn<|wp_ret<|aE ?_
     refine hs.ret rfl (.cons (.s 0 cy rfl rfl (by first|rfl|assumption)) aU.nil) ?_
     exact(by unfold c4 iI;rw[ah,if_pos rfl,if_neg aj,if_neg aL];rfl)
    ·rw[zU] at aL;replace aL:=nf aL;rw[decide_eq_true_eq] at aL
     refine wp_skip<|aG<|wp_seq ?_
     have V0:dK (iI q m t) t:=by have:=zq (m:=m) h;unfold c4 at this;rw[ah,if_pos rfl,if_neg aj] at this;exact this
     refine aB fun I a w hs=>?_
     refine hs.dZ [1,2] (Vp q u v m t t h hm aL iB) (aw .tt (aw .tt (aw .tt aP))) rfl (by decide) rfl fun I a w hs=>?_
     refine hs.o (.c1 (KX (iI q m t) V0.small)) fun hs=>?_
     refine hs.sb 0 fun hs=>?_
     refine nn<|wp_ret ?_
     refine hs.ret rfl (.cons (.s 0 cy rfl rfl (by first|rfl|assumption)) aU.nil) ?_
     exact(by unfold c4;rw[ah,if_pos rfl,if_neg aj];rfl)
set_option maxHeartbeats 4000000 in
theorem V1 (s:Server) (m:aD) (hg:bw s) (hm:bN m=true):
 Fn Tryz.prog 168 [s.av,m.av] (AV.c9 [(eX s m).1.av,bj (eX s m).2]):=by
 refine Fn.intro 38 Tryz.func168 rfl Tryz.ntmps168 rfl (by kernel_rfl) (fun W I a hs=>?_)
 have al:=iw.2 hg
 have gI:=hg.small
 refine ai fun I a w hs=>?_
 refine hs.alloc rfl ba df fun b4 I a w hs=>?_
 refine ai fun I a w hs=>?_
 refine hs.o (.c1 (tZ s)) fun hs=>hs.o .nt fun hs=>nn ?_
 refine hs.cd (fun ae=>?_) fun ae=>?_
 ·exfalso;rw[al] at ae;cases ae
  skip
 ·skip
  refine aW fun I a w hs=>?_
  refine hs.q .F (cI (He m (by have:=ry hm;unfold c8;omega) (by have:=ry hm;unfold c8;omega)) (aw .ag aP)) fun hs=>?_
  refine jR fun I a w hs=>?_
  refine nn ?_
  refine hs.cd (fun ah=>?_) fun ah=>?_
  ·rw[zE] at ah;replace ah:=nt ah
   refine az fun I a w hs=>?_
   refine hs.o (.c1 (qk s gI)) fun hs=>?_
   refine ai fun I a w hs=>?_
   refine nn<|wp_ret<|aE ?_
   refine hs.ret rfl (.cons (.s 0 ba rfl rfl (by first|rfl|assumption)) (.cons (.nil (sz:=15) rfl) aU.nil)) ?_
   exact(by unfold eX;rw[ah];rfl)
  ·rw[zE] at ah;replace ah:=nf ah;have hu:=C1 hg hm (Dv ah).1
   refine ai fun I a w hs=>?_
   refine hs.o (.c2 (UO s m hg hm)) fun hs=>?_
   refine aB fun I a w hs=>?_
   refine hs.alloc rfl ba df fun b6 I a w hs=>?_
   refine hs.sb 1 fun hs=>?_
   obtain⟨I,hs⟩:=hs.fb 1 6
   refine ai fun I a w hs=>?_
   refine hs.o (.c1 (qk (dY s m).1 hu.small)) fun hs=>?_
   refine aB fun I a w hs=>?_
   refine nn<|wp_ret ?_
   refine hs.ret rfl (.cons (.s 0 ba rfl rfl (by first|rfl|assumption)) (.cons (by first|exact .t rfl|exact .nil rfl) aU.nil)) ?_
   exact(by unfold eX;rw[ah,if_pos rfl];rfl)
set_option maxHeartbeats 4000000 in
theorem V2:
 Fn Tryz.prog 8 [] (ej.av):=by
 refine Fn.intro 17 Tryz.func8 rfl Tryz.ntmps8 rfl (by kernel_rfl) (fun W I a hs=>?_)
 refine sr<|hs.alloc rfl cG g9 fun b0 I a w hs=>nn<|sr ?_
 refine hs.make rfl nB kr OO rfl .c .c (by exact⟨by decide,by decide⟩) fun b3 a w hs=>?_
 obtain⟨I,hs⟩:=hs.fr 1 3
 refine hs.o (.bd tT (.k aZ.nil)) fun hs=>?_
 refine hs.alloc rfl cG tT fun b1 I a w hs=>?_
 refine hs.sb 2 fun hs=>?_
 refine wpList_nil ?_
 have hs:=hs.fi (sz:=7) 44
 refine az fun I a w hs=>?_
 refine nn<|wp_block ?_
 refine St.lo (σ:=Nat×Value) (2::(run 11 5 [])) ⟨fun⟨k,p⟩=>[(5,AV.int k)],fun⟨k,p⟩=>[Own.box b0 28 [AV.val (.int .i64 0),AV.rows 7 [],AV.rows 15 [],AV.rows 13 [],AV.rows 1 []],Own.gone,Own.box b1 28 [AV.int 0,AV.val p,AV.val (.slice none 0 0),AV.val (.slice none 0 0),bI [[],[]]],Own.row p 44 7 ((uW k).map Server.cells)],fun⟨k,p⟩=>k≤4⟩ (fun⟨k,p⟩=>4-k) (0,.slice none 0 0) hs ?aN ?aO
 case aN=>exact Nat.zero_le _
 case aO=>
  rintro⟨k,p⟩ I a w al hs
  have hk:k≤4:=al
  dsimp only at hs
  refine az fun I a w hs=>?_
  refine nn<|wp_seq ?_
  refine hs.cd (fun ae=>?_) fun ae=>?_
  ·try simp only[B] at ae
   refine ai fun I a w hs=>?_
   refine nn ?_
   refine hs.dp 5 (by kernel_rfl) (by kernel_rfl) (by kernel_rfl) ?_
   simp only[List.take_succ_cons,List.take_zero,List.drop_succ_cons,List.drop_zero]
   refine du ?_
   refine .o (cI (Ui k (by omega)) (aw (.t rfl) aP)) ?_
   refine .o (.li [(sQ k).cells] yn (.u .nil)) ?_
   refine .nil ?_
   intro I a w hs
   refine hs.append 3 rfl kt ba rfl .tt .r rfl (by rw[List.length_map,D9];simp;omega) fun V3 a w hs=>?_
   refine hs.o .fv fun hs=>?_
   try have adu:=hs.dS 3 rfl
   refine hs.s1 2 fun hs=>?_
   refine wpList_nil ?_
   rw[ck] at hs
   refine ai fun I a w hs=>?_
   refine nn ?_
   exact hs.ag (k+1,V3) (by show k+1≤4;omega)
  ·try simp only[B] at ae
   refine wp_exit<|aF<|aF<|aY<|aG<|wp_seq ?_
   have Ea:k=4:=by omega
   subst Ea
   obtain⟨I,hs⟩:=hs.fu 3 1 2
   have hs:=hs.km (q:=2) 2 rfl rfl (eb 15 _)
   have hs:=hs.km (q:=3) 2 rfl rfl (eb 13 _)
   refine ai fun I a w hs=>?_
   refine nn<|wp_ret ?_
   refine hs.ret rfl (.cons (.s 0 cG rfl rfl (by first|rfl|assumption)) aU.nil) ?_
   rfl
theorem V4 (l:List Call) (h:l.length≤1048576):
 jo Tryz.prog 164 [bE l] 51 13 (l.map Call.cells):=by
 refine jo.intro 8 Tryz.func164 rfl Tryz.ntmps164 rfl (by kernel_rfl) (fun W I a hs=>?_)
 refine ai fun I a w hs=>?_
 obtain⟨qa,ca,V5,hs⟩:=hs.Ur (t:=3) rfl
 refine hs.o (Uq iD .tt .c) fun hs=>nn ?_
 refine hs.cd (fun ae=>?_) fun ae=>?_
 ·skip
  refine az fun I a w hs=>?_
  refine nn<|wp_ret<|aE ?_
  have hs:=hs.fi (sz:=13) 51
  have nj:l=[]:=List.map_eq_nil_iff.1 (V5 (by simpa using ae))
  subst nj
  exact hs.vN (r:=2) 0 rfl rfl rfl rfl
 ·skip
  refine wp_skip<|aG<|sr ?_
  refine hs.cT rfl iD cy (by decide) fun b5 I a w hs=>?_
  refine hs.m fun hs=>?_
  refine hs.append 0 rfl iD cy rfl .tt .r rfl (by simp;omega) fun v7 a w hs=>?_
  refine hs.s fun hs=>nn<|wp_ret ?_
  exact hs.vN (r:=2) 0 rfl rfl rfl rfl
theorem V6 (c0:Call) (aC:Int):
 Fn Tryz.prog 166 [c0.av,AV.ptr [AV.int aC]] (AV.bool (rq aC c0)):=by
 refine Fn.intro 12 Tryz.func166 rfl Tryz.ntmps166 rfl (by kernel_rfl) (fun W I a hs=>?_)
 refine gi fun I a w hs=>?_
 refine hs.q .T (.cl (DM c0)) fun hs=>?_
 refine ai fun I a w hs=>?_
 refine nn<|wp_ret ?_
 refine hs.rt ?_
 exact bM (by unfold rq gG;rw[Bool.and_assoc])
theorem Ec (l:List Call) (t:Int) (s r z:Value) (aC:Int):
 Fn Tryz.prog 132 [AV.ptr [AV.int t,AV.val s,AV.val r,bE l,AV.val z],AV.int aC] (AV.int (bW l aC)):=by
 refine Fn.intro 11 Tryz.func132 rfl Tryz.ntmps132 rfl (by kernel_rfl) (fun W I a hs=>?_)
 refine sr ?_
 refine hs.o (tH .tt (by first|exact iY rfl|exact jj|exact jk|exact jl)) fun hs=>?_
 refine aW fun I a w hs=>?_
 refine hs.o (lQ (aw .tt aP)) fun hs=>?_
 refine hs.o (.cl (PE l (rq aC) _ (fun q _=>Fn.val (V6 q aC)))) fun hs=>?_
 refine hs.s fun hs=>nn<|wp_ret ?_
 refine hs.rt ?_
 rfl
theorem V7 {ao more:List aD} {k:Nat} (hk:k<more.length) (h:(dQ ao (more.take k)).length<60):dQ ao (more.take k)++[ab more k]=dQ ao (more.take (k+1)):=by
 unfold dQ at h⊢
 rw[List.length_append,List.length_take,List.length_take] at h
 rw[List.take_of_length_le (l:=more.take k) (by rw[List.length_take];omega),List.take_of_length_le (l:=more.take (k+1)) (by rw[List.length_take];omega),dL hk,List.append_assoc]
theorem V8 {ao more:List aD} {k:Nat} (hr:ao.length≤60) (hk:k<more.length) (h:¬(dQ ao (more.take k)).length<60):dQ ao (more.take k)=dQ ao (more.take (k+1)):=by
 unfold dQ at h⊢
 rw[List.length_append,List.length_take,List.length_take] at h
 rw[List.take_take,List.take_take,Nat.min_eq_left (by omega),Nat.min_eq_left (by omega)]
theorem V9 (ao:List aD):dQ ao []=ao:=by simp[dQ]
theorem Wa (ao more:List aD) (h:ao.length≤60):(dQ ao more).length≤60:=by
 unfold dQ;rw[List.length_append,List.length_take];omega
set_option maxHeartbeats 4000000 in
theorem z8 (b:Nat) (t:Int) (s r q z:Value) (ao more:List aD) (hr:ao.length≤60) (hl:more.length≤1048576) (hd:∀m∈more,iV m):
 cL Tryz.prog 133 [AV.val (.pointer (some ⟨b,0,none⟩)),bj more] [Own.box b 28 [AV.int t,AV.val s,AV.val r,AV.val q,AV.val z],Own.row r 74 15 ((ao).map aD.cells)] (fun _:Value=>True) (fun u=>[Own.box b 28 [AV.int t,AV.val s,AV.val u,AV.val q,AV.val z],Own.row u 74 15 ((dQ ao more).map aD.cells)]) (fun _=>AV.c9 []):=by
 refine cL.intro 30 Tryz.func133 rfl Tryz.ntmps133 rfl (by kernel_rfl) (fun W I a hs=>?_)
 rw[show ao=dQ ao (more.take 0) from(V9 ao).symm] at hs
 refine aB fun I a w hs=>?_
 refine nn<|wp_block ?_
 refine St.lo (σ:=Nat×Value) (5::(run 22 8 [])) ⟨fun⟨k,u⟩=>[(8,AV.int k)],fun⟨k,u⟩=>[Own.box b 28 [AV.int t,AV.val s,AV.val u,AV.val q,AV.val z],Own.row u 74 15 ((dQ ao (more.take k)).map aD.cells)],fun⟨k,u⟩=>k≤more.length⟩ (fun⟨k,u⟩=>more.length-k) (0,r) hs ?aN ?aO
 case aN=>exact Nat.zero_le _
 case aO=>
  rintro⟨k,u⟩ I a w al hs
  have hk:k≤more.length:=al
  dsimp only at hs
  refine az fun I a w hs=>?_
  refine nn<|wp_seq ?_
  refine hs.cd (fun ae=>?_) fun ae=>?_
  ·try simp only[B] at ae
   refine ai fun I a w hs=>?_
   refine hs.alloc rfl cj dB fun b5 I a w hs=>?_
   refine hs.sb 2 fun hs=>?_
   obtain⟨I,hs⟩:=hs.fb 2 5
   refine aJ fun I a w hs=>?_
   refine hs.o (ni 1 dh .tt rfl) fun hs=>hs.o .vH fun hs=>nn ?_
   refine hs.cd (fun ah=>?_) fun ah=>?_
   ·simp only[B] at ah;rw[List.length_map] at ah
    refine hs.eT [([],none),([],none),([],none),([],none),([0],none),([],none),([],none),([],none),([1],some (1,[26])),([],none),([],none),([0],some (0,[26]))] (by kernel_rfl) (by kernel_rfl) rfl ?_
    refine de ?_
    refine .r [0] (.lb 0) ?_
    refine bz ?_
    refine .o (.c1 (wT (ab more k) (hd _ (bx ae)))) ?_
    refine .o (.li [(ab more k).cells] fF (.u .nil)) ?_
    refine aV.Bp 1 rfl rfl dh cj rfl .tt .r (by rw[List.length_map];have:=Wa ao (more.take k) hr;simp;omega) ?_
    refine cq ?_
    refine aV.x6 0 rfl BU .tt rfl rfl<|.nil ?_
    intro I a w hs
    change St _ _ [Own.box b 28 [AV.int t,AV.val s,AV.val (a.tmps.getD 26 undef),AV.val q,AV.val z],Own.row (a.tmps.getD 26 undef) 74 15 (((dQ ao (more.take k)).map aD.cells)++[(ab more k).cells]),Own.gone] _ _ _ at hs
    generalize a.tmps.getD 26 undef=s8 at hs
    rw[ck,V7 ae (by omega)] at hs
    refine ai fun I a w hs=>?_
    refine nn ?_
    have hs:=hs.drop 2
    exact hs.ag (k+1,s8) (ae)
   ·simp only[B] at ah;rw[List.length_map] at ah
    refine ai fun I a w hs=>?_
    refine nn ?_
    have hs:=hs.drop 2
    rw[V8 hr ae (by omega)] at hs
    exact hs.ag (k+1,u) (ae)
  ·try simp only[B] at ae
   refine wp_exit<|aF<|aF<|aY ?_
   rw[show more.take k=more from List.take_of_length_le (by omega)] at hs
   exact hs.ko u [0,1] rfl .nil trivial rfl rfl
def be.full (b:Nat) (x:be) (s r q z:Value):List Own:=[Own.box b 28 [AV.int x.time,AV.val s,AV.val r,AV.val q,AV.val z],Own.row s 44 7 (x.au.map Server.cells),Own.row r 74 15 (x.ao.map aD.cells),Own.row q 51 13 (x.calls.map Call.cells),Own.row z 42 1 (x.seen.map ey)]
theorem Lr (w:be) (e:Ev):(!eC e.aC||decide (0≤bW w.calls e.aC))=!(eC e.aC&&decide (bW w.calls e.aC<0)):=by
 have h:decide (0≤bW w.calls e.aC)=!decide (bW w.calls e.aC<0):=by rw[Bool.eq_iff_iff];simp
 rw[h];simp
theorem Wb {w:be} (h:cK w) (x:Int):qj w.calls x=fo w.calls w.calls.length x:=by
 have key:∀k,k≤w.calls.length→(w.calls.take k).foldl (fun n q=>if q.aC=x then q.num else n) 0=fo w.calls k x:=by
  intro k
  induction k with
  |zero=>intro _;rw[Cl];rfl
  |succ k ih=>
   intro hk
   rw[dL (by omega),List.foldl_append,ih (by omega),p6 (by omega)]
   show(if(ab w.calls k).aC=x then(ab w.calls k).num else fo w.calls k x)=_
   split
   ·rename_i e
    rw[((s6.1 h.calls).2 k (by omega)).2.2.1,e,p6 (by omega),if_pos e]
   ·rfl
 have:=key w.calls.length (Nat.le_refl _)
 rw[List.take_length] at this
 exact this
theorem Wc {x:be} {e:Ev} (hg:cK x) (h:0≤e.aC∧e.aC≤1) {q:Call} (hq:q∈x.calls++[mV x e]):c8 q.aC:=by
 rcases List.mem_append.1 hq with hq|hq
 ·obtain⟨k,hk,rfl⟩:=hO hq
  have:=qp.1 (hg.call hk).aC
  unfold c8;omega
 ·obtain rfl:=List.mem_singleton.1 hq
  show c8 e.aC
  unfold c8;omega
set_option maxHeartbeats 4000000 in
theorem Wd (b:Nat) (x:be) (e:Ev) (s r q z:Value) (hg:cK x) (ht:x.time≤1000000):
 cL Tryz.prog 131 [AV.val (.pointer (some ⟨b,0,none⟩)),e.av] (x.full b s r q z) (fun _:Value=>True) (fun u=>bif (jt x e).2 then(jt x e).1.full b s r u z else[]) (fun _=>AV.bool (jt x e).2):=by
 refine cL.intro 114 Tryz.func131 rfl Tryz.ntmps131 rfl (by kernel_rfl) (fun W I a hs=>?_)
 change St _ _ [Own.box b 28 [AV.int x.time,AV.val s,AV.val r,AV.val q,AV.val z],Own.row s 44 7 (x.au.map Server.cells),Own.row r 74 15 (x.ao.map aD.cells),Own.row q 51 13 (x.calls.map Call.cells),Own.row z 42 1 (x.seen.map ey)] _ _ _ at hs
 have m9:=hg.lens
 have z1:=hg.seen
 have uV:=hg.time
 refine aJ fun I a w hs=>?_
 refine hs.o (.c1 (wc ..)) fun hs=>?_
 refine aW fun I a w hs=>?_
 refine hs.q .F (yi (xs:=[AV.val (.pointer (some ⟨b,0,none⟩)),AV.int e.aC]) (ow:=[AV.ptr [AV.int x.time,AV.val s,AV.val r,bE x.calls,AV.val z],AV.int e.aC]) (Ec x.calls x.time s r z e.aC) (aw .ag (aw .ag aP)) (fun c I a w hs=>by obtain⟨I,hs⟩:=hs.fu 3 3 0;obtain⟨I,hs⟩:=hs.fb 0 0;exact⟨_,_,_,hs,rfl,rfl,trivial⟩)) fun hs=>?_
 refine ai fun I a w hs=>?_
 refine nn ?_
 refine hs.cd (fun ae=>?_) fun ae=>?_
 ·rw[Lr] at ae;replace ae:=nt ae
  refine az fun I a w hs=>?_
  refine nn<|wp_ret<|aE ?_
  refine hs.cP (.bool false) [] rfl (.cons (.t rfl) .nil) trivial (by rw[D5 ae];rfl) (by rw[D5 ae];rfl)
 ·rw[Lr] at ae;replace ae:=nf ae;have z3:=ae;simp only[eC,aQ,Bool.and_eq_true,decide_eq_true_eq] at z3
  refine wp_skip<|aG<|wp_seq ?_
  have hs:=hs.gN
  have hs:=hs.gN
  have hs:=hs.gN
  refine hs.vT 22 _ [([],none),([],none),([],none),([],none),([],none),([],none),([6],some (6,[26])),([],none),([],none),([],none),([0],none),([],none),([],none),([4],none),([4],none),([],none),([],none),([],none),([],none),([0],none),([7],some (7,[40,26])),([5],some (5,[5]))] rfl (by kernel_rfl) (by kernel_rfl) rfl ?_
  simp only[List.take_succ_cons,List.take_zero]
  refine fP ?_
  refine aV.yf (gw:=[[AV.int e.a]]) 6 rfl rfl il fT rfl qS rfl rfl rfl (aZ.c rfl rfl .tt (by first|exact iY rfl|exact jj|exact jk|exact jl|assumption) aZ.nil) rfl rfl (by simp only[List.forall_mem_cons];exact⟨rfl,fun _ h=>by simp at h⟩) rfl ?_
  refine du ?_
  refine .r [0] (.lb 0) ?_
  refine cq ?_
  refine .r [4] (tj 4 nB kr .tt .tt rfl (fun _=>by rw[List.length_map];omega)) ?_
  refine .r [4] (DV (j:=0) 4 kr .tt rfl (fun _=>by exact ek (by omega)) rfl rfl rfl) ?_
  refine .o (cI (qe (ab x.seen e.aC.toNat) (by have:=hg.Lk (i:=e.aC.toNat) (by omega);omega)) (aw .r aP)) ?_
  refine du ?_
  refine .r [0] (.lb 0) ?_
  refine aV.BK 7 [26] (fun a=>AV.agg [AV.int e.aC,AV.int 1,AV.int e.call,AV.val (a.tmps.getD 26 undef),AV.int 0,bl (ab x.seen e.aC.toNat),AV.int x.time,AV.int 0,AV.bool false,AV.int 0,AV.int 0,AV.rows 9 [],AV.rows 3 []]) rfl rfl rfl rfl (fun a b h=>by simp only[List.forall_mem_cons] at h;simp only[h]) rfl (fun F a I he=>Ok.to (.bd iP (.k (.k (.k (aZ.c Pu rfl .tt (ss (t:=26) he) (.k (.k aZ.nil)))))))) ?_
  refine aV.alloc 5 rfl rfl cy iP<|.nil ?_
  intro I a w hs
  obtain⟨b5,hs⟩:=hs.nw (d:=5) 5 rfl rfl
  change St _ _ [Own.box b 28 [AV.int x.time,AV.val s,AV.val r,AV.val q,AV.val z],Own.row s 44 7 (x.au.map Server.cells),Own.row r 74 15 (x.ao.map aD.cells),Own.row q 51 13 (x.calls.map Call.cells),Own.row z 42 1 (x.seen.map ey),Own.box b5 51 _,Own.row (a.tmps.getD 26 undef) 3 1 [[AV.int e.a]],Own.is (AV.agg [AV.int e.aC,AV.int 1,AV.int e.call,AV.val (a.tmps.getD 26 undef),AV.int 0,bl (ab x.seen e.aC.toNat),AV.int x.time,AV.int 0,AV.bool false,AV.int 0,AV.int 0,AV.rows 9 [],AV.rows 3 []]) (a.tmps.getD 40 undef)] _ _ _ at hs
  have hs:=hs.BM (d:=40) 7 rfl
  have hs:=hs.drop 7
  generalize a.tmps.getD 26 undef=s8 at hs
  show wpList _ _ _ _ _ _
  refine aW fun I a w hs=>?_
  refine hs.o (ni 3 iD .tt rfl) fun hs=>hs.mc fun hs=>nn<|wp_block ?_
  refine St.lo (σ:=Nat×Int) (7::(run 14 46 [])) ⟨fun⟨k,nm⟩=>[(46,AV.int k)],fun⟨k,nm⟩=>[Own.box b 28 [AV.int x.time,AV.val s,AV.val r,AV.val q,AV.val z],Own.row s 44 7 (x.au.map Server.cells),Own.row r 74 15 (x.ao.map aD.cells),Own.row q 51 13 (x.calls.map Call.cells),Own.row z 42 1 (x.seen.map ey),Own.box b5 51 [AV.int e.aC,AV.int nm,AV.int e.call,AV.val s8,AV.int 0,bl (ab x.seen e.aC.toNat),AV.int x.time,AV.int 0,AV.bool false,AV.int 0,AV.int 0,AV.rows 9 [],AV.rows 3 []],Own.row s8 3 1 [[AV.int e.a]]],fun⟨k,nm⟩=>k≤x.calls.length∧nm=fo x.calls k e.aC+1⟩ (fun⟨k,nm⟩=>x.calls.length-k) (0,1) hs ?aN ?aO
  case aN=>exact⟨Nat.zero_le _,by rw[Cl];rfl⟩
  case aO=>
   rintro⟨k,nm⟩ I a w al hs
   obtain⟨hk,z9⟩:=al
   have hcn:=yE x.calls k e.aC
   dsimp only at hs
   refine az fun I a w hs=>?_
   refine nn<|wp_seq ?_
   refine hs.cd (fun ah=>?_) fun ah=>?_
   ·simp only[B] at ah;rw[List.length_map] at ah
    refine wp_skip<|aG<|wp_seq<|wp_block<|sr ?_
    refine hs.o (tj 3 iD cy .tt .tt rfl (fun _=>by rw[List.length_map];omega)) fun hs=>?_
    refine hs.o (KU 3 cy .tt rfl (fun _=>by exact ek ah) rfl) fun hs=>?_
    refine hs.alloc rfl cy iP fun b7 I a w hs=>?_
    refine hs.sb 7 fun hs=>?_
    obtain⟨I,hs⟩:=hs.fb 7 7
    refine aW fun I a w hs=>?_
    refine nn ?_
    refine hs.cd (fun aj=>?_) fun aj=>?_
    ·simp only[B] at aj;rw[Int.toNat_natCast] at aj
     refine aJ fun I a w hs=>?_
     refine hs.s1 5 fun hs=>?_
     refine ai fun I a w hs=>?_
     refine nn ?_
     have hs:=hs.drop 7
     exact hs.ag (k+1,nm+1) (⟨ah,by show nm+1=_;rw[p6 ah,if_pos aj,z9]⟩)
    ·simp only[B] at aj;rw[Int.toNat_natCast] at aj
     refine ai fun I a w hs=>?_
     refine nn ?_
     have hs:=hs.drop 7
     exact hs.ag (k+1,nm) (⟨ah,by show nm=_;rw[p6 ah,if_neg aj,z9]⟩)
   ·simp only[B] at ah;rw[List.length_map] at ah
    refine wp_exit<|aF<|aF<|aY<|aG ?_
    refine St.cut (σ:=Int) (run 6 60 []) ⟨fun val=>[],fun val=>[Own.box b 28 [AV.int x.time,AV.val s,AV.val r,AV.val q,AV.val z],Own.row s 44 7 (x.au.map Server.cells),Own.row r 74 15 (x.ao.map aD.cells),Own.row q 51 13 (x.calls.map Call.cells),Own.row z 42 1 (x.seen.map ey),Own.box b5 51 [AV.int e.aC,AV.int (qj x.calls e.aC+1),AV.int e.call,AV.val s8,AV.int val,bl (ab x.seen e.aC.toNat),AV.int x.time,AV.int 0,AV.bool false,AV.int 0,AV.int 0,AV.rows 9 [],AV.rows 3 []],Own.row s8 3 1 [[AV.int e.a]]],fun val=>val=if e.call=1 then e.val else 0⟩ hs ?D0 ?D1
    case D0=>
     refine wp_seq ?_
     rw[show k=x.calls.length by omega,←Wb hg] at z9
     subst z9
     refine aB fun I a w hs=>?_
     refine nn ?_
     refine hs.cd (fun aI=>?_) fun aI=>?_
     ·try simp only[B] at aI
      refine aB fun I a w hs=>?_
      refine hs.s1 5 fun hs=>?_
      refine nn ?_
      exact hs.me e.val (by first|exact(if_pos aI).symm|exact(if_neg aI).symm)
     ·try simp only[B] at aI
      refine wp_skip<|aG ?_
      exact hs.me 0 (by first|exact(if_pos aI).symm|exact(if_neg aI).symm)
    case D1=>
     rintro val I a w al hs
     have qB:val=if e.call=1 then e.val else 0:=al
     subst qB
     refine St.cut (σ:=Unit) (run 29 66 []) ⟨fun _=>[],fun _=>[Own.box b 28 [AV.int x.time,AV.val s,AV.val r,AV.val q,AV.val z],Own.row s 44 7 (x.au.map Server.cells),Own.row r 74 15 (x.ao.map aD.cells),Own.row q 51 13 (x.calls.map Call.cells),Own.row z 42 1 (x.seen.map ey),Own.box b5 51 [AV.int e.aC,AV.int (qj x.calls e.aC+1),AV.int e.call,gh (lB e),AV.int (if e.call=1 then e.val else 0),bl (ab x.seen e.aC.toNat),AV.int x.time,AV.int 0,AV.bool false,AV.int 0,AV.int 0,AV.rows 9 [],AV.rows 3 []],Own.gone],fun _=>True⟩ hs ?Ed ?Ee
     case Ed=>
      refine kq fun I a w hs=>?_
      refine nn ?_
      refine hs.cd (fun aL=>?_) fun aL=>?_
      ·skip
       refine aJ fun I a w hs=>?_
       refine hs.o (.li [[AV.int e.b]] qS (.v .nil)) fun hs=>?_
       refine hs.append 6 rfl il fT rfl .tt .r rfl (by simp) fun v81 a w hs=>?_
       refine hs.o .fv fun hs=>?_
       try have adx:=hs.dS 6 rfl
       refine hs.s1 5 fun hs=>?_
       refine aW fun I a w hs=>?_
       refine nn ?_
       refine hs.cd (fun bf=>?_) fun bf=>?_
       ·try simp only[B] at bf
        refine aJ fun I a w hs=>?_
        refine hs.o (.li [[AV.int e.c]] qS (.v .nil)) fun hs=>?_
        refine hs.append 6 rfl il fT rfl .tt .r rfl (by simp) fun v93 a w hs=>?_
        refine hs.o .fv fun hs=>?_
        try have adz:=hs.dS 6 rfl
        refine hs.s1 5 fun hs=>?_
        refine nn ?_
        obtain⟨I,hs⟩:=hs.fu 6 3 5
        have hs:=hs.pass (H':=[Own.box b 28 [AV.int x.time,AV.val s,AV.val r,AV.val q,AV.val z],Own.row s 44 7 (x.au.map Server.cells),Own.row r 74 15 (x.ao.map aD.cells),Own.row q 51 13 (x.calls.map Call.cells),Own.row z 42 1 (x.seen.map ey),Own.box b5 51 [AV.int e.aC,AV.int (qj x.calls e.aC+1),AV.int e.call,gh (lB e),AV.int (if e.call=1 then e.val else 0),bl (ab x.seen e.aC.toNat),AV.int x.time,AV.int 0,AV.bool false,AV.int 0,AV.int 0,AV.rows 9 [],AV.rows 3 []],Own.gone]) (by first|(rw[zY aL bf];rfl)|(rw[zX aL (by simpa using bf)];rfl)|(rw[zW aL];rfl))
        exact hs.me () (by trivial)
       ·try simp only[B] at bf
        refine wp_skip<|aG ?_
        obtain⟨I,hs⟩:=hs.fu 6 3 5
        have hs:=hs.pass (H':=[Own.box b 28 [AV.int x.time,AV.val s,AV.val r,AV.val q,AV.val z],Own.row s 44 7 (x.au.map Server.cells),Own.row r 74 15 (x.ao.map aD.cells),Own.row q 51 13 (x.calls.map Call.cells),Own.row z 42 1 (x.seen.map ey),Own.box b5 51 [AV.int e.aC,AV.int (qj x.calls e.aC+1),AV.int e.call,gh (lB e),AV.int (if e.call=1 then e.val else 0),bl (ab x.seen e.aC.toNat),AV.int x.time,AV.int 0,AV.bool false,AV.int 0,AV.int 0,AV.rows 9 [],AV.rows 3 []],Own.gone]) (by first|(rw[zY aL bf];rfl)|(rw[zX aL (by simpa using bf)];rfl)|(rw[zW aL];rfl))
        exact hs.me () (by trivial)
      ·skip
       refine wp_skip<|aG ?_
       obtain⟨I,hs⟩:=hs.fu 6 3 5
       have hs:=hs.pass (H':=[Own.box b 28 [AV.int x.time,AV.val s,AV.val r,AV.val q,AV.val z],Own.row s 44 7 (x.au.map Server.cells),Own.row r 74 15 (x.ao.map aD.cells),Own.row q 51 13 (x.calls.map Call.cells),Own.row z 42 1 (x.seen.map ey),Own.box b5 51 [AV.int e.aC,AV.int (qj x.calls e.aC+1),AV.int e.call,gh (lB e),AV.int (if e.call=1 then e.val else 0),bl (ab x.seen e.aC.toNat),AV.int x.time,AV.int 0,AV.bool false,AV.int 0,AV.int 0,AV.rows 9 [],AV.rows 3 []],Own.gone]) (by first|(rw[zY aL bf];rfl)|(rw[zX aL (by simpa using bf)];rfl)|(rw[zW aL];rfl))
       exact hs.me () (by trivial)
     case Ee=>
      rintro _ I a w al hs
      refine wp_seq ?_
      obtain⟨I,hs⟩:=hs.fu 3 3 0
      refine hs.mG 7 (by kernel_rfl) (by kernel_rfl) (by kernel_rfl) ?_
      simp only[List.take_succ_cons,List.take_zero,List.drop_succ_cons,List.drop_zero]
      refine de ?_
      refine fl.mI (V4 x.calls (by omega)) (aw .r aP) ?_
      refine bz ?_
      refine .o (.li [(mV x e).cells] yp (.u .nil)) ?_
      refine .nil ?_
      intro I a w hs
      obtain⟨v99,hs⟩:=hs.yd (d:=99)
      refine hs.append 7 rfl iD cy rfl .tt .r rfl (by simp;omega) fun We a w hs=>?_
      rw[ck] at hs
      refine cx fun I a w hs=>?_
      refine hs.o (ye 7 (aw .tt (aw .tt aP)) rfl (Qs (x.calls++[mV x e]) x.time (by omega) (by simp;omega) (fun q hq=>Wc hg z3.1 hq)) (fun _ _ _ h=>h)) fun hs=>?_
      refine hs.o .nt fun hs=>nn ?_
      refine hs.cd (fun aX=>?_) fun aX=>?_
      ·replace aX:=nt aX
       refine az fun I a w hs=>?_
       refine nn<|wp_ret<|aE ?_
       refine hs.cP (.bool false) [] rfl (.cons (.t rfl) .nil) trivial (by rw[xn ae,aX];rfl) (by rw[xn ae,aX];rfl)
      ·replace aX:=nf aX
       refine aJ fun I a w hs=>?_
       try have adB:=hs.dS 7 rfl
       refine ai fun I a w hs=>?_
       refine nn<|wp_ret ?_
       refine hs.cP We [0,1,2,7,4] rfl (.cons (.t rfl) .nil) trivial (by rw[xn ae,aX];rfl) (by rw[xn ae,aX];rfl)
end Go.Proofs.YtoeioeimmfpefaaGreat

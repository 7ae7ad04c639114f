/- Part 36: contracts of functions, plain facts. -/
import Derived.Test.YtldbakcpcfdlaaaGreatP25
import Derived.Test.YtldbakcpcfdlaaaGreatP27
set_option linter.all false
set_option maxRecDepth 100000
set_option maxHeartbeats 4000000
namespace Go.Proofs.YtldbakcpcfdlaaaGreat
open Go Go.RowKit Tryz
attribute [local irreducible] wpList Code.wp Ok
def acP (q:Call) (t:Int) (h:eB q t) (ht:t<=1000000):
 Fn prog 232 [q.av] (dW (jF q)):=by
 refine Fn.go 103 func232 ntmps232 (λW I a U=>?_);have U:=U.en (sz:=15) 108;have U:=U.en (sz:=15) 108;have hb:=h.bw;have vz:=h.Aw om;have oR:=h.lens;have hal:=Ib (q:=q);have dV:=tg.1 h.aB;refine bV λI a w U=>?_;refine U.o (bx (Iu q q.bw om) (an (.t rfl) (an (.t rfl) aH))) λU=>?_;refine aV λI a w U=>?_;refine U.q .F (.cl (Gq ..)) λU=>?_;refine ax λI a w U=>?_;refine U.cd (λab=>?_) λab=>?_
 .rw[Pb h om] at ab;replace ab:=nt ab;refine al λI a w U=>?_;refine U.ret rfl (.cons (.nil (sz:=15) rfl) aZ.nil) ?_;exact(by unfold jF;rw[ab];rfl)
 rw[Pb h om] at ab;replace ab:=nf ab;refine aX λI a w U=>?_;refine nn ?_;refine St.cut (σ:=Value) (3::(5::(7::(run 48 22 [])))) ⟨λv=>[(3,AV.val v)],λv=>[Own.row v 108 15 ((asks q).map az.cells),Own.row (.slice none 0 0) 108 15 ([])],λv=>True⟩ U ?sw ?Dy;case sw=>
  refine aI λI a w U=>?_;refine cz (λah=>?_) λah=>?_
  .refine U.dt 11 ?_;simp only[TD];refine wg ?_;refine .o (.bd dN (.k (.k (.k (.k bf.nil))))) ?_;refine .o (.li [({cg with kind:=1,key:=ae q.keys 0,val:=q.val,aK:=q.ctx}:az).cells] gj (.u .nil)) ?_;refine .nil ?_;intro I a w U;refine U.append 0 rfl dC cH rfl .tt .r rfl be λNQ a w U=>?_;refine al λI a w U=>?_;first|(rw[show[({cg with kind:=1,key:=ae q.keys 0,val:=q.val,aK:=q.ctx}:az).cells]=(asks q).map az.cells from by unfold asks;rw[if_pos ah];rfl] at U)|rw[Ia ah om] at U
   exact U.me NQ k0
  refine aU λI a w U=>?_;refine St.lo (σ:=Nat×Value) (3::(5::(run 14 40 []))) ⟨λ⟨k,v⟩=>[(40,AV.int k),(3,AV.val v)],λ⟨k,v⟩=>[Own.row v 108 15 ((oP q k).map az.cells),Own.row (.slice none 0 0) 108 15 ([])],λ⟨k,v⟩=>k<=q.keys.length⟩ (λ⟨k,v⟩=>q.keys.length-k) (0,(.slice none 0 0)) U ?aD ?bh;case aD=>exact Nat.zero_le _
  rintro⟨k,v⟩ I a w aj U;have hk:k<=q.keys.length:=aj;dsimp only at U;refine al λI a w U=>?_;refine cz (λai=>?_) λai=>?_
  .refine bV λI a w U=>?_;refine U.o (.c2 (Og q (ae q.keys k))) λU=>?_;refine al λI a w U=>?_;refine cz (λaG=>?_) λaG=>?_
   .refine aA λI a w U=>?_;refine U.o (.bd dN (.k (.k bf.nil))) λU=>?_;refine U.o (.li [(uS (ae q.keys k)).cells] gj (.u .nil)) λU=>?_;refine U.append 0 rfl dC cH rfl .tt .r rfl (by have:=Hq q k hk;simp;omega) λv52 a w U=>?_;rw[cA,OK ai (by simpa using aG)] at U;refine aI λI a w U=>?_;exact U.ag (k+1,v52) (ai)
   refine ax λI a w U=>?_;rw[OL ai (by simpa using aG)] at U;exact U.ag (k+1,v) (ai)
  refine wp_exit<|bU<|bU<|eb<|ba<|wp_seq ?_;rw[Y2 om] at U;refine aU λI a w U=>?_;refine St.lo (σ:=Nat×Value) (3::(7::(run 13 57 []))) ⟨λ⟨k,v⟩=>[(57,AV.int k),(3,AV.val v)],λ⟨k,v⟩=>[Own.row v 108 15 ((qM q k).map az.cells),Own.row (.slice none 0 0) 108 15 ([])],λ⟨k,v⟩=>k<=q.aO.length⟩ (λ⟨k,v⟩=>q.aO.length-k) (0,v) U ?eL ?jX;case eL=>exact Nat.zero_le _
  rintro⟨k,v⟩ I a w aj U;have hk:k<=q.aO.length:=aj;dsimp only at U;refine al λI a w U=>?_;refine cz (λaL=>?_) λaL=>?_
  .refine aA λI a w U=>?_;refine U.alloc rfl cM fE λb7 I a w U=>?_;refine al λI a w U=>?_;obtain⟨I,U⟩:=U.fb 2 7;refine bV λI a w U=>?_;refine U.o (.bd dN (.k (.k (.t bf.nil)))) λU=>?_;refine U.o (.li [(uT (ae q.aO k)).cells] gj (.u .nil)) λU=>?_;refine U.append 0 rfl dC cH rfl .tt .r rfl (by have:=OM q k;simp;omega) λIx a w U=>?_;rw[cA,Y3 aL] at U;refine aI λI a w U=>?_;have U:=U.drop 2;exact U.ag (k+1,Ix) (aL)
  refine zt ?_;first|(rw[show[({cg with kind:=1,key:=ae q.keys 0,val:=q.val,aK:=q.ctx}:az).cells]=(asks q).map az.cells from by unfold asks;rw[if_pos ah];rfl] at U)|rw[Ia ah om] at U
  exact U.me v k0
 rintro v I a w aj U;refine al λI a w U=>?_;obtain⟨I,U⟩:=U.fr 0 3;rw[show([]:List (List AV))=(nS q 0).map az.cells from rfl] at U;refine aI λI a w U=>?_;refine St.lo (σ:=Nat×Value) (8::(run 2 10 (run 30 72 []))) ⟨λ⟨j,u⟩=>[(72,AV.int j),(8,AV.val u)],λ⟨j,u⟩=>[Own.gone,Own.row u 108 15 ((nS q j).map az.cells)],λ⟨j,u⟩=>j<=(asks q).length⟩ (λ⟨j,u⟩=>(asks q).length-j) (0,(.slice none 0 0)) U ?iA ?oL;case iA=>exact Nat.zero_le _
 rintro⟨j,u⟩ I a w aj U;have hj:j<=(asks q).length:=aj;dsimp only at U;refine al λI a w U=>?_;refine cz (λbc=>?_) λbc=>?_
 .refine aA λI a w U=>?_;refine U.alloc rfl cH dN λjD I a w U=>?_;refine al λI a w U=>?_;rw[show nS q j=nS q j++(jB q (ae (asks q) j)).take 0 from by simp] at U;refine aA λI a w U=>?_;refine U.o (tW .c .tt (λ_=>by omega)) λU=>?_;refine al λI a w U=>?_;refine St.lo (σ:=Nat×Int×Int×Int×Int×Value) (8::(11::(run 22 79 []))) ⟨λ⟨i,t11,f1,f2,f3,u2⟩=>[(11,AV.int t11),(8,AV.val u2)],λ⟨i,t11,f1,f2,f3,u2⟩=>[Own.gone,Own.row u2 108 15 ((nS q j++(jB q (ae (asks q) j)).take i).map az.cells),Own.box jD 108 ({(ae (asks q) j) with bj:=f1,to:=f2,call:=f3}:az).cells],λ⟨i,t11,f1,f2,f3,u2⟩=>i<=2/\t11=2*q.aB+(i:Int)⟩ (λ⟨i,t11,f1,f2,f3,u2⟩=>2-i) (0,2*q.aB,(ae (asks q) j).bj,(ae (asks q) j).to,(ae (asks q) j).call,u) U ?Ay ?PM;case Ay=>exact⟨Nat.zero_le _,by simp⟩
  rintro⟨i,t11,f1,f2,f3,u2⟩ I a w aj U;obtain⟨hi,rfl⟩:=aj;dsimp only at U;refine aV λI a w U=>?_;refine U.o (tW .c .tt (λ_=>by omega)) λU=>?_;refine ax λI a w U=>?_;refine cz (λaY=>?_) λaY=>?_
  .refine zt ?_;refine U.fV [([],none),([],none),([],none),([],none),([],none),([],none),([],none),([2],some (2,[])),([],none),([2],some (2,[])),([],none),([2],some (2,[]))] aq aq rfl ?_;refine ky ?_;refine aP.gZ (x:=AV.any) 2 (λF W0 I0 I γ a w Q U kk=>U.s1 2 λU=>kk _ _ _ U) ?_;refine br ?_;refine aP.gZ (x:=AV.any) 2 (λF W0 I0 I γ a w Q U kk=>U.s1 2 λU=>kk _ _ _ U) ?_;refine br ?_;refine aP.gZ (x:=AV.any) 2 (λF W0 I0 I γ a w Q U kk=>U.s1 2 λU=>kk _ _ _ U) ?_;refine .nil ?_;intro I a w U;refine aA λI a w U=>?_;refine U.o (bx (Ac {(ae (asks q) j) with bj:=10+q.aB,to:=2*q.aB+(i:Int),call:=q.num} (show iV (ae (asks q) j) from XV om _ (bK bc))) (an (.t rfl) aH)) λU=>?_;refine U.o (.li [({(ae (asks q) j) with bj:=10+q.aB,to:=2*q.aB+(i:Int),call:=q.num}:az).cells] gj (.u .nil)) λU=>?_;refine U.append 1 rfl dC cH rfl .tt .r rfl (by have:=GZ q j om;have:=Ib (q:=q);simp[jB];omega) λacR a w U=>?_;rw[cA,List.append_assoc,Pa q _ om] at U;refine aU λI a w U=>?_;exact U.ag (i+1,2*q.aB+(i:Int)+1,10+q.aB,2*q.aB+(i:Int),q.num,acR) (⟨by show i+1<=2;omega,by simp;omega⟩)
  refine zt ?_;refine ax λI a w U=>?_;have U:=U.drop 2;rw[XW bc om] at U;exact U.ag (j+1,u2) (bc)
 refine wp_exit<|bU<|bU<|eb<|ba<|wp_seq ?_;rw[N3 ab om] at U;obtain⟨I,U⟩:=U.fr 1 8;refine cK ?_;rfl
def acS (q:Call) (m:az) (t:Int) (h:eB q t) (ht:t<=1000000):
 Fn prog 307 [q.av,m.av,AV.int t] ((ej q m t).av):=by
 refine Fn.go 135 func307 ntmps307 (λW I a U=>?_);have aj:=qS.2 h;have oR:=h.lens;have hb:=h.bw;have vz:=h.Aw om;have dV:=tg.1 h.aB;refine aA λI a w U=>?_;refine U.alloc rfl dm g0 λb6 I a w U=>?_;refine aA λI a w U=>?_;refine U.o (bx (Du q t om om) (an (.t rfl) (an (.t rfl) aH))) λU=>?_;refine al λI a w U=>?_;refine U.cd (λab=>?_) λab=>?_
 .exfalso;rw[aj] at ab;cases ab;skip
 refine aX λI a w U=>?_;refine U.dX [] (XK q h.small) (an .tt aH) rfl bA rfl λu I a w Da U=>?_;refine U.alloc rfl dm g0 λb7 I a w U=>?_;refine aA λI a w U=>?_;refine U.o (.c1 (H8 ..)) λU=>?_;refine KA λI a w U=>?_;refine U.q .F (.cl (Nt ..)) λU=>?_;refine E8 λI a w U=>?_;refine U.cd (λah=>?_) λah=>?_
 .rw[Pd q m t vz.1] at ah;replace ah:=nt ah;refine wp_seq ?_;obtain⟨I,U⟩:=U.fu 1 11 3;obtain⟨I,U⟩:=U.fu 2 12 3;refine ax λI a w U=>?_;refine U.ret rfl (.cons (.sx 0) aZ.nil) ?_;exact(by unfold ej;rw[ah];rfl)
 rw[Pd q m t vz.1] at ah;replace ah:=nf ah;have AG:=ah;simp only[Bool.and_eq_true,decide_eq_true_eq] at AG;obtain⟨⟨⟨⟨⟨hm,_⟩,_⟩,jf⟩,hw⟩,IA⟩:=AG;have mX:=gV (nK hm).1;refine aI λI a w U=>?_;refine cz (λai=>?_) λai=>?_
 .refine df λI a w U=>?_;refine U.q .T (.cl (uL ..)) λU=>?_;refine al λI a w U=>?_;refine U.cd (λaG=>?_) λaG=>?_
  .refine aV λI a w U=>?_;refine U.mD 3 jg .tt .tt rfl rfl rfl λa w U=>?_;refine aI λI a w U=>?_;obtain⟨I,U⟩:=U.fu 1 11 3;obtain⟨I,U⟩:=U.fu 2 12 3;refine ax λI a w U=>?_;refine U.ret rfl (.cons (.sx 0) aZ.nil) ?_;exact(by unfold ej;rw[ah,if_pos rfl,if_pos ai,if_pos (by simpa using aG)];rfl)
  refine wp_skip<|ba<|wp_seq ?_;obtain⟨I,U⟩:=U.fu 1 11 3;obtain⟨I,U⟩:=U.fu 2 12 3;refine ax λI a w U=>?_;refine U.ret rfl (.cons (.sx 0) aZ.nil) ?_;exact(by unfold ej;rw[ah,if_pos rfl,if_pos ai,if_neg (by simpa using aG)];rfl)
 refine aR λI a w U=>?_;refine U.o (.bd lq (.k (.k bf.nil))) λU=>?_;refine U.alloc rfl dI lq λb8 I a w U=>?_;refine al λI a w U=>?_;refine U.dk ?_;refine rz ?_;refine .q .F2 (fT (i:=0) du bI .ag .c (λhg=>by simp at hg;omega)) ?_;refine kz ?_;refine .nil ?_;intro I a w U;refine ba ?_;refine U.cd (λaL=>?_) λaL=>?_
 .rw[Co] at aL;replace aL:=nt aL;rw[decide_eq_false_iff_not] at aL;refine wp_seq ?_;obtain⟨I,U⟩:=U.fu 1 11 3;obtain⟨I,U⟩:=U.fu 2 12 3;refine ax λI a w U=>?_;refine U.ret rfl (.cons (.sx 0) aZ.nil) ?_;exact(by unfold ej jW;rw[ah,if_pos rfl,if_neg ai,if_neg aL];rfl)
 rw[Co] at aL;replace aL:=nf aL;rw[decide_eq_true_eq] at aL;have tQ:=GV (q:=q) hm aL.2;refine wp_skip<|ba ?_;refine St.cut (σ:=Unit) (run 8 104 []) ⟨λ_=>[],λ_=>[Own.box b6 45 [AV.val (.int .i64 0),AV.val (.int .i64 0),AV.val (.int .i64 0),AV.rows 1 [],AV.val (.int .i64 0),AV.rows 3 [],AV.val (.int .i64 0),AV.val (.int .i64 0),AV.val (.bool false),AV.val (.int .i64 0),AV.val (.int .i64 0),AV.rows 9 [],AV.rows 3 []],Own.row u.1 56 9 (q.au.map Answer.cells),Own.row u.2 125 3 (q.aO.map ao.cells),Own.box b7 45 [AV.int q.aB,AV.int q.num,AV.int q.kind,fM q.keys,AV.int q.val,bm q.ctx,AV.int q.bw,AV.int q.end_,AV.bool q.over,AV.int q.aw.time,AV.int q.aw.site,AV.val u.1,AV.val u.2],Own.box b8 56 (dZ m).cells],λ_=>True⟩ U ?acT ?ah7;case acT=>
  refine ax λI a w U=>?_;refine U.cd (λbc=>?_) λbc=>?_
  .have hv1:=(aL.2 bc).1;refine aA λI a w U=>?_;refine U.o (fT (i:=0) du bI .tt .c (λ_=>by omega)) λU=>?_;refine U.o .la λU=>?_;refine U.o (bx (ou (ae m.ar 0) (by have:=gU (kT (g7 (nK hm).1 _ (bK (l:=m.ar) (k:=0) om))).2.2;omega)) (an (.t rfl) aH)) λU=>?_;refine U.o .fv λU=>U.mD 4 bI .tt .tt rfl rfl rfl λa w U=>?_;refine zt ?_;have U:=U.pass (H':=[Own.box b6 45 [AV.val (.int .i64 0),AV.val (.int .i64 0),AV.val (.int .i64 0),AV.rows 1 [],AV.val (.int .i64 0),AV.rows 3 [],AV.val (.int .i64 0),AV.val (.int .i64 0),AV.val (.bool false),AV.val (.int .i64 0),AV.val (.int .i64 0),AV.rows 9 [],AV.rows 3 []],Own.row u.1 56 9 (q.au.map Answer.cells),Own.row u.2 125 3 (q.aO.map ao.cells),Own.box b7 45 [AV.int q.aB,AV.int q.num,AV.int q.kind,fM q.keys,AV.int q.val,bm q.ctx,AV.int q.bw,AV.int q.end_,AV.bool q.over,AV.int q.aw.time,AV.int q.aw.site,AV.val u.1,AV.val u.2],Own.box b8 56 (dZ m).cells]) (by unfold dZ;rw[bc];rfl);exact U.me () k0
  refine zt ?_;have U:=U.pass (H':=[Own.box b6 45 [AV.val (.int .i64 0),AV.val (.int .i64 0),AV.val (.int .i64 0),AV.rows 1 [],AV.val (.int .i64 0),AV.rows 3 [],AV.val (.int .i64 0),AV.val (.int .i64 0),AV.val (.bool false),AV.val (.int .i64 0),AV.val (.int .i64 0),AV.rows 9 [],AV.rows 3 []],Own.row u.1 56 9 (q.au.map Answer.cells),Own.row u.2 125 3 (q.aO.map ao.cells),Own.box b7 45 [AV.int q.aB,AV.int q.num,AV.int q.kind,fM q.keys,AV.int q.val,bm q.ctx,AV.int q.bw,AV.int q.end_,AV.bool q.over,AV.int q.aw.time,AV.int q.aw.site,AV.val u.1,AV.val u.2],Own.box b8 56 (dZ m).cells]) (by unfold dZ;rw[bc];rfl);exact U.me () k0
 rintro _ I a w aj U;refine aV λI a w U=>?_;refine U.o (.c2 (Ch q m.key)) λU=>?_;refine al λI a w U=>?_;refine cz (λaY=>?_) λaY=>?_
 .refine aA λI a w U=>?_;refine U.o (.bd iI bf.nil) λU=>?_;refine U.o (n1 [_,_] [_,_] qh rfl rfl .tt .tt) λU=>?_;refine zt ?_;refine U.cd (λbz=>?_) λbz=>?_
  .rw[B8] at bz;refine wp_seq ?_;obtain⟨I,U⟩:=U.fu 1 11 3;refine aV λI a w U=>?_;refine U.eX [2] (acd q u.2 (dZ m) t h.cX tQ om om om) (an .tt (an .tt (an .tt aH))) rfl bA rfl λI a w U=>?_;refine U.o (.c1 (Hp _ (eB.oJ h hw IA ai tQ jf aY).small)) λU=>?_;refine al λI a w U=>?_;refine U.ret rfl (.cons (.sx 0) aZ.nil) ?_;exact(by unfold ej jW;rw[ah,if_pos rfl,if_neg ai,if_pos aL,if_pos aY,if_pos bz];rfl)
  rw[B8] at bz;refine wp_skip<|ba<|wp_seq ?_;obtain⟨I,U⟩:=U.fu 1 11 3;obtain⟨I,U⟩:=U.fu 2 12 3;refine ax λI a w U=>?_;refine U.ret rfl (.cons (.sx 0) aZ.nil) ?_;exact(by unfold ej jW;rw[ah,if_pos rfl,if_neg ai,if_pos aL,if_pos aY,if_neg (by rw[bz];simp)];rfl)
 refine ax λI a w U=>?_;refine U.cd (λbR=>?_) λbR=>?_
 .refine wp_seq ?_;obtain⟨I,U⟩:=U.fu 2 12 3;refine aV λI a w U=>?_;refine U.eX [1] (ab0 q u.1 (dZ m) t t h (tl tQ bR).2) (an .tt (an .tt (an .tt aH))) rfl bA rfl λI a w U=>?_;refine U.o (.c1 (Hp _ (eB.ov h hw IA ai tQ bR).small)) λU=>?_;refine al λI a w U=>?_;refine U.ret rfl (.cons (.sx 0) aZ.nil) ?_;exact(by unfold ej jW;rw[ah,if_pos rfl,if_neg ai,if_pos aL,if_neg (Int.not_lt.2 aY),if_pos bR];rfl)
 refine wp_skip<|ba<|wp_seq ?_;obtain⟨I,U⟩:=U.fu 1 11 3;obtain⟨I,U⟩:=U.fu 2 12 3;refine ax λI a w U=>?_;refine U.ret rfl (.cons (.sx 0) aZ.nil) ?_;exact(by unfold ej jW;rw[ah,if_pos rfl,if_neg ai,if_pos aL,if_neg (Int.not_lt.2 aY),if_neg (by rw[bR];simp)];rfl)
def acU (x:aM) (m:az) (hg:cF x) (ht:x.time<=1000000) (sv:aS m.to 10 11=true):
 Fn prog 274 [x.av,m.av] ((pH x m).av):=by
 refine Fn.go 52 func274 ntmps274 (λW I a U=>?_);simp only[aS,Bool.and_eq_true,decide_eq_true_eq] at sv;have oR:=hg.lens;have Dw:=hg.seen;have xx:=hg.time;refine sr<|U.box rfl .tt λb2 I a w U=>U.o .bp λU=>U.alloc rfl dz dT λb4 I a w U=>?_;refine fm λI a w U=>?_;refine U.o (.cl (GF x.calls (m.to-10))) λU=>?_;refine aI λI a w U=>?_;refine cz (λab=>?_) λab=>?_
 .refine ax λI a w U=>?_;refine U.ret rfl (.cons (.sx 1) aZ.nil) ?_;exact(by unfold pH;dsimp only;rw[if_pos ab];rfl)
 obtain⟨h1,h2,h3⟩:=vg ab;have hq:=Dv (m:=m) (hg.call h1);have hqe:=hq.Aw om;have J3:=hq.bw;refine zt ?_;refine U.da 10 ?_;simp only[TD];refine kz ?_;refine .o (.c3 (acS _ m x.time (hg.call h1) ht))<|fO.alloc dm g0<|.nil ?_;intro I a w U;obtain⟨b7,U⟩:=U.sQ (d:=7) rfl;refine al λI a w U=>?_;obtain⟨I,U⟩:=U.fb 2 7;refine U.l0 λb27 I a w U=>?_;refine aA λI a w U=>?_;refine U.ap 3 λv30 a w U=>?_;simp only[List.nil_append] at U;refine U.o .fv λU=>?_;try have aib:=U.cU 3 rfl
 refine al λI a w U=>?_;obtain⟨AE,AF,iw⟩:=U.iS 3 rfl cq;subst iw;refine aR λI a w U=>?_;refine U.o (gv gz dm .tt .tt (λ_=>by simp only[List.length_map];omega)) λU=>?_;refine U.ja 3 dm .tt .tt rfl (by exact fq om) rfl rfl λa w U=>?_;refine nn ?_;refine St.cut (σ:=List (List ao)) (run 14 37 []) ⟨λsn=>[],λsn=>[Own.box b2 28 [AV.int x.time,n3 x.aF,dW x.aC,jb (x.calls.set (cI x.calls (m.to-10)).toNat (ej (ae x.calls (cI x.calls (m.to-10)).toNat) m x.time)),lG sn],Own.box b4 28 [AV.val (.int .i64 0),AV.rows 7 [],AV.rows 15 [],AV.rows 13 [],AV.rows 1 []],Own.gone,Own.gone],λsn=>sn=if 0<Call.end_ (ej (ae x.calls (cI x.calls (m.to-10)).toNat) m x.time) then x.seen.set (m.to-10).toNat (jT (ej (ae x.calls (cI x.calls (m.to-10)).toNat) m x.time)) else x.seen⟩ U ?IB ?acI;case IB=>
  refine wp_seq ?_;have e9:∀y,y=Call.cells (ej (ae x.calls (cI x.calls (m.to-10)).toNat) m x.time)->(List.map Call.cells x.calls).set (cI x.calls (m.to-10)).toNat y=List.map Call.cells (x.calls.set (cI x.calls (m.to-10)).toNat (ej (ae x.calls (cI x.calls (m.to-10)).toNat) m x.time)):=λy hy=>by rw[hy,List.map_set]
  rw[e9] at U;rotate_left
  .rfl
  obtain⟨I,U⟩:=U.fu 3 3 0;refine aI λI a w U=>?_;refine cz (λah=>?_) λah=>?_
  .refine zt ?_;refine U.l0 λb40 I a w U=>?_;refine aA λI a w U=>?_;refine U.ap 4 λtM a w U=>?_;simp only[List.nil_append] at U;refine U.o .fv λU=>?_;try have HP:=U.cU 4 rfl
   refine al λI a w U=>?_;obtain⟨bk2,ck2,rU⟩:=U.iS 4 rfl cq;subst rU;refine U.dt 6 ?_;simp only[TD];refine ef ?_;refine .o (bx (abt (ej (ae x.calls (cI x.calls (m.to-10)).toNat) m x.time) x.time (qS.2 hq) om om (by have:=hq.lens.2.2.2.2.1;omega)) (an (.t rfl) aH)) ?_;refine .o (gv pb iH .tt .tt (λ_=>by simp only[List.length_map];omega)) ?_;refine .nil ?_;intro I a w U;refine U.ui (j:=0) 4 iH .tt .tt (by first|exact cL rfl|exact cN|exact cO|exact cP|assumption) rfl (by exact fq om) rfl rfl λa w U=>?_;refine wpList_nil ?_;have e8:∀y,y=fh (jT (ej (ae x.calls (cI x.calls (m.to-10)).toNat) m x.time))->(List.map fh x.seen).set (m.to-10).toNat y=List.map fh (x.seen.set (m.to-10).toNat (jT (ej (ae x.calls (cI x.calls (m.to-10)).toNat) m x.time))):=λy hy=>by rw[hy,List.map_set]
   rw[e8] at U;rotate_left
   .rfl
   obtain⟨I,U⟩:=U.fu 4 4 0;refine ba ?_;have U:=U.drop 4;exact U.me (x.seen.set (m.to-10).toNat (jT (ej (ae x.calls (cI x.calls (m.to-10)).toNat) m x.time))) (by first|exact(if_pos ah).symm|exact(if_neg om).symm)
  refine zt ?_;have U:=U.drop 4;exact U.me x.seen (by first|exact(if_pos ah).symm|exact(if_neg om).symm)
 rintro sn I a w aj U;have P5:sn=if 0<Call.end_ (ej (ae x.calls (cI x.calls (m.to-10)).toNat) m x.time) then x.seen.set (m.to-10).toNat (jT (ej (ae x.calls (cI x.calls (m.to-10)).toNat) m x.time)) else x.seen:=aj
 refine ax λI a w U=>?_;refine U.ret rfl (.cons (.sx 1) aZ.nil) ?_;unfold pH;dsimp only;rw[if_neg om];split
 .rename_i hh;rw[P5,if_pos hh];rfl
 rename_i hh;rw[P5,if_neg hh];rfl
def aci {w:aM} (h:cF w) (m:az):cF (pH w m):=by
 unfold pH;dsimp only;split
 .exact h
 rename_i hn;obtain⟨h1,h2,h3⟩:=vg (l:=w.calls) (aB:=m.to-10) om;obtain⟨e1,e2,e3,_⟩:=ab7 (ae w.calls (cI w.calls (m.to-10)).toNat) m w.time;have hq:=Dv (m:=m) (h.call h1);have hg:=h.O6 h1 h3 hq e1 e2 e3;split
 .exact hg.Yr _ (abv hq)
 exact hg
def acj {w:aM} (h:cF w) (e:Ev):cF (iY w e).1:=by
 unfold iY;split
 .rename_i hr;simp only[aS,Bool.and_eq_true,decide_eq_true_eq] at hr;have hm:bY (ae w.aC e.word.toNat)=true:=h.words _ (bK om);have h1:cF (if e.kind=5\/e.iB=0 then{w with aC:=w.aC.take e.word.toNat++w.aC.drop (e.word.toNat+1)} else w):=by
   split
   .have U:=zC w.aC e.word.toNat;exact⟨h.time,h.aF,h.site,Nat.le_trans U.length_le h.aC,λm hm=>h.words m (U.subset hm),h.seen,h.pJ,h.calls⟩
   exact h
  have j1:(if e.kind=5\/e.iB=0 then{w with aC:=w.aC.take e.word.toNat++w.aC.drop (e.word.toNat+1)} else w).aF=w.aF:=by split<;>rfl
  dsimp only;generalize (if e.kind=5\/e.iB=0 then{w with aC:=w.aC.take e.word.toNat++w.aC.drop (e.word.toNat+1)} else w)=w1 at*;split
  .exact h1
  split
  .exact aci h1 _
  rename_i dV;have sv:0<=(ae w.aC e.word.toNat).to/\(ae w.aC e.word.toNat).to<=3:=by
   have:=(oE hm).2.2.1;simp only[l5,de,aS,Bool.or_eq_true,Bool.and_eq_true,decide_eq_true_eq] at this dV;omega
  have hi:(ae w.aC e.word.toNat).to.toNat<4:=by omega
  have PW:=(h.site _ hi).2;have:=(h1.server hi (s:=(gG (ae w.aF (ae w.aC e.word.toNat).to.toNat) (ae w.aC e.word.toNat)).1) (abW PW) (by rw[aac,j1])).send (abX (m:=ae w.aC e.word.toNat) PW);rw[<-j1] at this⊢;exact this
 exact h
def PX {w:aM} (h:cF w) (e:Ev) (aj:(gQ w e).2=true):cF (gQ w e).1:=by
 have h1:=h.later;unfold gQ at*;dsimp only at aj⊢;split
 .rename_i hk;rw[if_pos hk] at aj;exact abw h1 e aj
 split
 .exact acj h1 e
 split
 .rename_i hk;rw[Bool.and_eq_true] at hk;exact aaR h1 e hk.2
 exact h1
def AD {w:aM} (h:fN w=true) (e:Ev):fN (kY w e).1=true:=by
 unfold kY;split
 .rename_i hc;refine lS.2 ⟨PX (lS.1 h).1 e hc.2,?_⟩;show(gQ w e).1.time<=99999;rw[PL];omega
 exact h
def ack (q:Call) (t:Int) (h:eB q t) (ht:t<=1000000):
 Fn prog 273 [q.av] (dW (jF q)):=by
 refine Fn.go 89 func273 ntmps273 (λW I a U=>?_);have hb:=h.bw;have vz:=h.Aw om;have oR:=h.lens;have eG:=G8 (qS.2 h);refine ax λI a w U=>?_;refine U.l0 λb6 I a w U=>?_;refine fm λI a w U=>?_;refine U.o (bx (Du q (q.bw+q.end_) om om) (an (.t rfl) (an (.t rfl) aH))) λU=>?_;refine n4 λI a w U=>?_;refine U.cd (λab=>?_) λab=>?_
 .rw[Ot (t:=t) eG vz.1] at ab;replace ab:=nt ab;refine ax λI a w U=>?_;obtain⟨I,U⟩:=U.fr 0 2;refine U.rt ?_;exact(by unfold jF;rw[ab];rfl)
 rw[Ot (t:=t) eG vz.1] at ab;replace ab:=nf ab;refine aI λI a w U=>?_;refine cz (λah=>?_) λah=>?_
 .refine wp_seq<|U.dk ?_;refine wg ?_;refine .o (.bd dN (.k (.k (.k (.k bf.nil))))) ?_;refine .o (.c2 (HF q {cg with kind:=1,key:=ae q.keys 0,val:=q.val,aK:=q.ctx} h.aB ⟨by show q.ctx.length<=_;omega,by simp[rM,cg],by simp[rM,cg],by simp[cg]⟩)) ?_;refine br ?_;refine .nil ?_;intro I a w U;refine zt ?_;refine U.rt ?_;exact(by unfold jF asks;rw[ab,if_pos rfl,if_pos ah];rfl)
 refine al λI a w U=>?_;refine St.lo (σ:=Nat×Value) (run 2 3 (run 25 39 [])) ⟨λ⟨k,v⟩=>[(4,AV.int k),(3,AV.val v)],λ⟨k,v⟩=>[Own.row v 108 15 ((oK q k).map az.cells)],λ⟨k,v⟩=>k<=q.keys.length⟩ (λ⟨k,v⟩=>q.keys.length-k) (0,.slice (some ⟨b6,0,none⟩) 0 0) U ?aD ?bh;case aD=>exact Nat.zero_le _
 rintro⟨k,v⟩ I a w aj U;have hk:k<=q.keys.length:=aj;dsimp only at U;refine bP λI a w U=>?_;refine cz (λai=>?_) λai=>?_
 .refine zt ?_;refine U.dk ?_;refine gS ?_;refine .o (.c2 (Ch ..)) ?_;refine br ?_;refine .nil ?_;intro I a w U;refine ba ?_;refine cz (λaG=>?_) λaG=>?_
  .refine U.dt 9 ?_;simp only[TD];refine ky ?_;refine .o (.bd dN (.k (.k bf.nil))) ?_;refine .o (.c2 (HF q (uS (ae q.keys k)) h.aB (NZ _)))<|.nil ?_;intro I a w U;refine U.append 0 rfl dC cH rfl .tt .r rfl (by have:=GX q k hk;simp[jB];omega) λv63 a w U=>?_;rw[<-List.map_append,NV ai (by simpa using aG)] at U;refine aU λI a w U=>?_;exact U.ag (k+1,v63) (ai)
  refine aI λI a w U=>?_;rw[NW ai (by simpa using aG)] at U;exact U.ag (k+1,v) (ai)
 refine wp_exit<|bU<|bU<|eb<|ba<|wp_seq<|wp_seq ?_;rw[XL om] at U;refine al λI a w U=>?_;refine St.lo (σ:=Nat×Value) (3::(5::(run 24 64 []))) ⟨λ⟨j,v⟩=>[(5,AV.int j),(3,AV.val v)],λ⟨j,v⟩=>[Own.row v 108 15 ((qL q j).map az.cells)],λ⟨j,v⟩=>j<=q.aO.length⟩ (λ⟨j,v⟩=>q.aO.length-j) (0,v) U ?eL ?jX;case eL=>exact Nat.zero_le _
 rintro⟨j,v⟩ I a w aj U;have hj:j<=q.aO.length:=aj;dsimp only at U;refine bP λI a w U=>?_;refine cz (λaL=>?_) λaL=>?_
 .refine zt ?_;refine U.dt 16 ?_;simp only[TD];refine rz ?_;refine .o (.bd dN (.k (.k (.t bf.nil)))) ?_;refine .o (.c2 (HF q (uT (ae q.aO j)) h.aB (N1 _)))<|.nil ?_;intro I a w U;refine U.append 0 rfl dC cH rfl .tt .r rfl (by have:=NY q j hj;simp[jB];omega) λH9 a w U=>?_;rw[<-List.map_append,NX aL] at U;refine aU λI a w U=>?_;exact U.ag (j+1,H9) (aL)
 refine wp_exit<|bU<|bU<|eb<|ba<|wp_seq ?_;rw[XM ab (by simpa using ah) om] at U;obtain⟨I,U⟩:=U.fr 0 3;refine cK ?_;rfl
def acn (s:Server) (m:az) (hg:bE s) (hm:bY m=true) (ho:(aS m.bj 10 11&&decide (1<=m.call)&&fR s m.key)=true):
 Fn prog 342 [s.av,m.av] (AV.c8 [(ie s m).1.av,dW (ie s m).2]):=by
 refine Fn.go 150 func342 ntmps342 (λW I a U=>?_);have U:=U.en (sz:=2) 42;have aj:=iU.2 hg;have c6:=hg.ok;have hZ:=hg.small;have ki:=nK hm;have zZ:=gU ki.2.2.2;have lens:m.aK.length<=9223372036854775807/\m.ar.length<=9223372036854775807/\m.waits.length<=9223372036854775807/\m.aE.length<=9223372036854775807:=⟨U.ln 1 9,U.ln 1 12,U.ln 1 13,U.ln 1 14⟩;have hf9:=tu hm;have ahy:=hZ.2.1.1;have jM:=hP hg.aE;refine aA λI a w U=>?_;refine U.alloc rfl bL di λb4 I a w U=>?_;refine yR λI a w U=>?_;refine U.o (.bd dN (.k (.k (.k bf.nil)))) λU=>?_;refine U.alloc rfl cH dN λb7 I a w U=>?_;refine bP λI a w U=>?_;refine St.lo (σ:=Nat) (5::(9::(run 37 31 []))) ⟨λk=>[(31,AV.int k)],λk=>[Own.row (.slice none 0 0) 42 2 (([]).map cG.cells),Own.box b4 95 [AV.val (.int .i64 0),AV.val (.bool false),AV.rows 2 [],AV.rows 7 [],AV.rows 7 [],AV.rows 3 [],AV.rows 3 []],Own.box b7 108 [AV.int 2,AV.int 0,AV.int 0,AV.int m.call,AV.int m.key,AV.int 0,AV.int 0,AV.int 0,AV.bool false,bm [],AV.int 0,AV.int 0,cm [],cm [],bm []]],λk=>k<=s.ar.length/\∀i,i<k->pF s m.key (m.bj-10) m.call (ae s.ar i)=false⟩ (λk=>s.ar.length-k) 0 U ?aD ?bh;case aD=>exact⟨Nat.zero_le _,λi hi=>by omega⟩
 rintro k I a w aj U;obtain⟨hk,aT⟩:=aj;refine al λI a w U=>?_;refine cz (λab=>?_) λab=>?_
 .refine aA λI a w U=>?_;refine U.alloc rfl bI dY λb9 I a w U=>?_;refine al λI a w U=>?_;obtain⟨I,U⟩:=U.fb 3 9;refine KA λI a w U=>?_;refine U.q .T (.cl (GG s (ae s.ar k))) λU=>?_;refine ax λI a w U=>?_;refine U.cd (λah=>?_) λah=>?_
  .rw[Pm] at ah;refine aV λI a w U=>?_;refine U.mD 2 jg .tt .tt rfl rfl rfl λa w U=>?_;refine zt ?_;refine U.dt 5 ?_;simp only[TD];refine ef ?_;refine .o (.c3 (se s m ⟨2,0,0,m.call,m.key,(ae s.ar k).aw,0,false,[],0,0,[],[],[]⟩ (vf ..)))<|.nil ?_;intro I a w U;refine ax λI a w U=>?_;refine U.ret rfl (.cons (.sx 1) (.cons .x aZ.nil)) ?_;exact(by rw[O8 ho (by rw[Pn ab aT ah];rfl),Pn ab aT ah];rfl)
  rw[Pm] at ah;refine ax λI a w U=>?_;have U:=U.drop 3;exact U.ag (k+1) (⟨by omega,λi h1=>by rcases Nat.lt_succ_iff_lt_or_eq.1 h1 with h|h;exact aT i h;rw[h];exact ah⟩)
 refine zt ?_;refine bP λI a w U=>?_;refine St.lo (σ:=Nat×Value) (10::(12::(run 10 71 []))) ⟨λ⟨k,v⟩=>[(71,AV.int k),(10,AV.val v)],λ⟨k,v⟩=>[Own.row v 42 2 (((m.aK.take k).map ao.aw).map cG.cells),Own.box b4 95 [AV.val (.int .i64 0),AV.val (.bool false),AV.rows 2 [],AV.rows 7 [],AV.rows 7 [],AV.rows 3 [],AV.rows 3 []],Own.box b7 108 [AV.int 2,AV.int 0,AV.int 0,AV.int m.call,AV.int m.key,AV.int 0,AV.int 0,AV.int 0,AV.bool false,bm [],AV.int 0,AV.int 0,cm [],cm [],bm []]],λ⟨k,v⟩=>k<=m.aK.length⟩ (λ⟨k,v⟩=>m.aK.length-k) (0,.slice none 0 0) U ?eL ?jX;case eL=>exact Nat.zero_le _
 rintro⟨k,v⟩ I a w aj U;have hk:k<=m.aK.length:=aj;dsimp only at U;refine al λI a w U=>?_;refine cz (λai=>?_) λai=>?_
 .refine aA λI a w U=>?_;refine U.alloc rfl cM fE λr9 I a w U=>?_;refine al λI a w U=>?_;obtain⟨I,U⟩:=U.fb 3 12;refine aV λI a w U=>?_;refine U.o (.li [(ae m.aK k).aw.cells] Bw (.u .nil)) λU=>?_;refine U.ap 0 λv79 a w U=>?_;refine aI λI a w U=>?_;have U:=U.drop 3;rw[cA,show(m.aK.take k).map ao.aw++[(ae m.aK k).aw]=(m.aK.take (k+1)).map ao.aw from by rw[ep ai,List.map_append];rfl] at U;exact U.ag (k+1,v79) (ai)
 refine wp_exit<|bU<|bU<|eb<|ba ?_;refine St.cut (σ:=Value) (10::(run 2 13 (run 14 81 []))) ⟨λv=>[(10,AV.val v)],λv=>[Own.row v 42 2 ((jC s m).map cG.cells),Own.box b4 95 [AV.val (.int .i64 0),AV.val (.bool false),AV.rows 2 [],AV.rows 7 [],AV.rows 7 [],AV.rows 3 [],AV.rows 3 []],Own.box b7 108 [AV.int 2,AV.int 0,AV.int 0,AV.int m.call,AV.int m.key,AV.int 0,AV.int 0,AV.int 0,AV.bool false,bm [],AV.int 0,AV.int 0,cm [],cm [],bm []],Own.gone],λv=>True⟩ U ?acq ?ahz;case acq=>
  refine aR λI a w U=>?_;refine U.o (.cl (Pg s.ar m.key hZ.2.1.2)) λU=>?_;refine aV λI a w U=>?_;refine U.alloc rfl bI dY λxc I a w U=>?_;refine U.sb 3 λU=>?_;obtain⟨I,U⟩:=U.fb 3 13;refine ax λI a w U=>?_;refine U.cd (λaG=>?_) λaG=>?_
  .refine aV λI a w U=>?_;refine U.o (.li [((gD s.ar m.key).getD default).aw.cells] Bw (.u .nil)) λU=>?_;refine U.ap 0 λv94 a w U=>?_;refine al λI a w U=>?_;first|rw[cA,show m.aK.take k=m.aK from List.take_of_length_le om,Cw aG] at U|rw[show m.aK.take k=m.aK from List.take_of_length_le om,Cx aG] at U
   exact U.me v94 k0
  refine zt ?_;first|rw[cA,show m.aK.take k=m.aK from List.take_of_length_le om,Cw aG] at U|rw[show m.aK.take k=m.aK from List.take_of_length_le om,Cx aG] at U
  exact U.me v k0
 rintro v I a w aj U;refine aV λI a w U=>?_;obtain⟨I,U⟩:=U.fr 0 98;refine U.o (.cl (YQ s.site (jC s m) hg.site (Hl hg hm))) λU=>?_;refine aV λI a w U=>?_;refine U.alloc rfl jg iI λHa I a w U=>?_;refine U.sb 4 λU=>?_;obtain⟨I,U⟩:=U.fb 4 15;refine yS λI a w U=>?_;refine U.o (.bd dY (.k (.t (.k (.k (.k (.k bf.nil))))))) λU=>?_;refine U.alloc rfl bI dY λb17 I a w U=>?_;refine al λI a w U=>?_;obtain⟨I,U⟩:=U.fb 5 17;refine et λI a w U=>?_;refine U.cd (λaL=>?_) λaL=>?_
 .rw[O1 jM] at aL;replace aL:=nt aL;refine aI λI a w U=>?_;refine U.ret rfl (.cons (.sx 1) (.cons (.nil (sz:=15) rfl) aZ.nil)) ?_;exact(by rw[HE ho (HI om aT) (by rw[Bool.and_right_comm,aL];rfl)];rfl)
 rw[O1 jM] at aL;replace aL:=nf aL;refine aV λI a w U=>?_;refine U.o (.cl (On s.ar (gF s m) c6.ar)) λU=>?_;refine fW λI a w U=>?_;refine U.cd (λbc=>?_) λbc=>?_
 .replace bc:=nt bc;refine aI λI a w U=>?_;refine U.ret rfl (.cons (.sx 1) (.cons (.nil (sz:=15) rfl) aZ.nil)) ?_;exact(by rw[HE ho (HI om aT) (by rw[bc];simp)];rfl)
 replace bc:=nf bc;have n2:=Wh aL bc;rw[if_pos bc] at U;refine aX λI a w U=>?_;refine U.o (.c1 (rR s hZ)) λU=>U.alloc rfl bL di λb19 I a w U=>?_;refine aV λI a w U=>?_;refine U.s1 6 λU=>?_;refine zt ?_;refine U.dt 6 ?_;simp only[TD];refine ee ?_;refine .o (.c1 (nB (gF s m))) ?_;refine .o (bx (Hg s.aE (gF s m).bD (by have:=hP hg.aE;omega)) (an .r (an (.t rfl) aH))) ?_;refine br ?_;refine .nil ?_;intro I a w U;refine U.s1 6 λU=>?_;refine aA λI a w U=>?_;refine U.mD 2 jg .tt .tt rfl rfl rfl λa w U=>?_;refine zt ?_;refine U.dt 6 ?_;simp only[TD];refine br ?_;refine .o (bx (xi {s with ar:=fF s.ar (gF s m),aE:=eN s.aE (gF s m).bD} (If hg hm (by simp only[Bool.and_eq_true] at ho;exact ho.2) n2).ok (hP (If hg hm (by simp only[Bool.and_eq_true] at ho;exact ho.2) n2).aE)) (an (.t rfl) aH)) ?_;refine ee ?_;refine .o (.c3 (se s m ⟨2,0,0,m.call,m.key,(gF s m).aw,0,false,[],0,0,[],[],[]⟩ (vf ..)))<|.nil ?_;intro I a w U;refine ax λI a w U=>?_;refine U.ret rfl (.cons (.sx 1) (.cons .x aZ.nil)) ?_;exact(by rw[O9 ho (HI om aT) n2];rfl)
def Reach.cX {w:aM} (h:Reach w):cF w:=by
 induction h with
 |start=>exact(lS.1 He).1
 |step _ aj ih=>exact PX ih _ aj
def Az.aC {n:Nat} {s:Gj} (h:Az n s):s.w.aC.length<=60:=h.reach.cX.aC
def gp:Nat->aM->aM
 |0,w=>w
 |n+1,w=>if w.aC.length=0 then w else gp n (AA w)
def pV {w:aM} (h:cF w) (ht:w.time<99999) (e:Ev):cF (ga w e):=by
 rw[<-AB ht];exact(lS.1 (AD (lS.2 ⟨h,by omega⟩) e)).1
end Go.Proofs.YtldbakcpcfdlaaaGreat
set_option linter.all false
set_option maxRecDepth 100000
set_option maxHeartbeats 4000000
namespace Go.Proofs.YtldbakcpcfdlaaaGreat
open Go Go.RowKit Tryz
attribute [local irreducible] wpList Code.wp Ok
set_option maxHeartbeats 16000000 in
def acz (x:aM) (e:Ev) (hg:cF x) (ht:x.time<=1000000) (xq:de e.at_=true):
 Fn prog 213 [x.av,e.av] (AV.c8 [(fY x e).1.av,AV.bool (fY x e).2]):=by
 refine Fn.go 85 func213 ntmps213 (λW I a U=>?_);have hai:=mu.1 xq;have j4:=hg.aC;have tI:=hg.aF;have j1:=(hg.site e.at_.toNat om).2;have PY:=iU.2 j1;refine sr<|U.box rfl .tt λb2 I a w U=>U.o .bp λU=>U.alloc rfl dz dT λb4 I a w U=>?_;refine fm λI a w U=>?_;refine U.alloc rfl bL di λb6 I a w U=>?_;refine al λI a w U=>?_;obtain⟨I,U⟩:=U.fb 2 6;refine U.l0 λb17 I a w U=>?_;refine aA λI a w U=>?_;refine U.ap 3 λv20 a w U=>?_;simp only[List.nil_append] at U;refine U.o .fv λU=>?_;try have Pz:=U.cU 3 rfl
 refine al λI a w U=>?_;refine U.l0 λY8 I a w U=>?_;refine aA λI a w U=>?_;refine U.ap 4 λuH a w U=>?_;simp only[List.nil_append] at U;refine bP λI a w U=>?_;refine cz (λab=>?_) λab=>?_
 .refine wp_seq ?_;obtain⟨AE,AF,iw⟩:=U.iS 3 rfl cq;subst iw;refine U.dt 7 ?_;simp only[TD];refine fQ ?_;refine .o (.c1 (aaS (ae x.aF e.at_.toNat) PY)) ?_;refine .o (gv jw bL .tt .tt (λ_=>by simp only[List.length_map];omega)) ?_;refine .nil ?_;intro I a w U;refine U.ja 3 bL .tt .tt rfl (by exact fq om) rfl rfl λa w U=>?_;refine nn<|wp_seq ?_;have e9:∀y,y=Server.cells (py (ae x.aF e.at_.toNat))->(List.map Server.cells x.aF).set e.at_.toNat y=List.map Server.cells (x.aF.set e.at_.toNat (py (ae x.aF e.at_.toNat))):=λy hy=>by rw[hy,List.map_set]
  rw[e9] at U;rotate_left
  .rfl
  obtain⟨I,U⟩:=U.fu 3 1 0;refine U.fV (([0],none)::rp 3 [([1],some (1,[])),([],none)]) aq aq rfl ?_;refine .r [0] (.ls 0) ?_;refine ee ?_;refine aP.gZ (x:=AV.any) 1 (λF W0 I0 I γ a w Q U kk=>U.sb 1 λU=>kk _ _ _ U) ?_;refine br ?_;refine .nil ?_;intro I a w U;refine zt ?_;refine U.ret rfl (.cons (.sx 1) (.cons (.t rfl) aZ.nil)) ?_;exact(by rw[aaY ab];rfl)
 refine ax λI a w U=>?_;refine cz (λah=>?_) λah=>?_
 .refine wp_seq ?_;obtain⟨AE,AF,iw⟩:=U.iS 3 rfl cq;subst iw;refine U.dt 7 ?_;simp only[TD];refine fQ ?_;refine .o (.c1 (aaT (ae x.aF e.at_.toNat) PY)) ?_;refine .o (gv jw bL .tt .tt (λ_=>by simp only[List.length_map];omega)) ?_;refine .nil ?_;intro I a w U;refine U.ja 3 bL .tt .tt rfl (by exact fq om) rfl rfl λa w U=>?_;refine nn<|wp_seq ?_;have e9:∀y,y=Server.cells (px (ae x.aF e.at_.toNat))->(List.map Server.cells x.aF).set e.at_.toNat y=List.map Server.cells (x.aF.set e.at_.toNat (px (ae x.aF e.at_.toNat))):=λy hy=>by rw[hy,List.map_set]
  rw[e9] at U;rotate_left
  .rfl
  obtain⟨I,U⟩:=U.fu 3 1 0;refine U.fV (([0],none)::rp 2 [([1],some (1,[])),([],none)]) aq aq rfl ?_;refine .r [0] (.ls 0) ?_;refine cy ?_;refine aP.gZ (x:=AV.any) 1 (λF W0 I0 I γ a w Q U kk=>U.sb 1 λU=>kk _ _ _ U) ?_;refine br ?_;refine .nil ?_;intro I a w U;refine zt ?_;refine U.ret rfl (.cons (.sx 1) (.cons (.t rfl) aZ.nil)) ?_;exact(by rw[aaZ ah];rfl)
 refine ax λI a w U=>?_;refine cz (λai=>?_) λai=>?_
 .refine aA λI a w U=>?_;refine U.o (.c1 (abx (ae x.aF e.at_.toNat) j1)) λU=>?_;refine U.eX [4] (Cp uH x.aC (lD (ae x.aF e.at_.toNat)) hg.aC) (an .r (an .r aH)) rfl bA rfl λI a w U=>?_;change St _ _ [Own.box b2 28 [AV.int x.time,AV.val v20,dW x.aC,jb x.calls,lG x.seen],Own.box b4 28 [AV.val (.int .i64 0),AV.rows 7 [],AV.rows 15 [],AV.rows 13 [],AV.rows 1 []],Own.gone,Own.row v20 95 7 (x.aF.map Server.cells),Own.gone] _ _ _ at U;refine ax λI a w U=>?_;obtain⟨I,U⟩:=U.fu 3 1 0;refine U.fV (([0],none)::rp 2 [([1],some (1,[])),([],none)]) aq aq rfl ?_;refine .r [0] (.ls 0) ?_;refine cy ?_;refine aP.gZ (x:=AV.any) 1 (λF W0 I0 I γ a w Q U kk=>U.sb 1 λU=>kk _ _ _ U) ?_;refine br ?_;refine .nil ?_;intro I a w U;refine zt ?_;refine U.ret rfl (.cons (.sx 1) (.cons (.t rfl) aZ.nil)) ?_;exact(by rw[aa0 ai];rfl)
 refine aV λI a w U=>?_;refine U.o (.c2 (abZ (ae x.aF e.at_.toNat) e.slot j1)) λU=>?_;refine aR λI a w U=>?_;refine U.alloc rfl bL di λb8 I a w U=>U.alloc rfl cH dN λb9 I a w U=>?_;refine U.sb 5 λU=>?_;obtain⟨I,U⟩:=U.fb 5 8;refine U.sb 6 λU=>?_;obtain⟨I,U⟩:=U.fb 6 9;refine al λI a w U=>?_;obtain⟨AE,AF,iw⟩:=U.iS 3 rfl cq;subst iw;refine bV λI a w U=>?_;refine U.o (gv jw bL .tt .tt (λ_=>by simp only[List.length_map];omega)) λU=>?_;refine U.ja 3 bL .tt .tt rfl (by exact fq om) rfl rfl λa w U=>?_;refine nn<|wp_seq<|wp_seq ?_;have e9:∀y,y=Server.cells (eF (ae x.aF e.at_.toNat) e.slot).1->(List.map Server.cells x.aF).set e.at_.toNat y=List.map Server.cells (x.aF.set e.at_.toNat (eF (ae x.aF e.at_.toNat) e.slot).1):=λy hy=>by rw[hy,List.map_set]
 rw[e9] at U;rotate_left
 .rfl
 obtain⟨I,U⟩:=U.fu 3 1 0;refine al λI a w U=>?_;refine U.cd (λaG=>?_) λaG=>?_
 .refine aA λI a w U=>?_;refine U.o (.li [(eF (ae x.aF e.at_.toNat) e.slot).2.1.cells] gj (.u .nil)) λU=>?_;refine U.eX [4] (Cp uH x.aC [(eF (ae x.aF e.at_.toNat) e.slot).2.1] hg.aC) (an .r (an .r aH)) rfl bA rfl λI a w U=>?_;change St _ _ [Own.box b2 28 [AV.int x.time,n3 (x.aF.set e.at_.toNat (eF (ae x.aF e.at_.toNat) e.slot).1),dW x.aC,jb x.calls,lG x.seen],Own.box b4 28 [AV.val (.int .i64 0),AV.rows 7 [],AV.rows 15 [],AV.rows 13 [],AV.rows 1 []],Own.gone,Own.gone,Own.gone,Own.gone,Own.gone] _ _ _ at U;refine gy λI a w U=>?_;refine U.ret rfl (.cons (.sx 1) (.cons (.t rfl) aZ.nil)) ?_;exact(by rw[aa1 ab ah ai aG];rfl)
 refine aU λI a w U=>?_;refine U.ret rfl (.cons (.sx 1) (.cons (.t rfl) aZ.nil)) ?_;exact(by rw[aa2 ab ah ai aG];rfl)
end Go.Proofs.YtldbakcpcfdlaaaGreat

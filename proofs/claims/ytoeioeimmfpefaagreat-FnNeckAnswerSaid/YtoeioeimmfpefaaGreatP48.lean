/- Part 48: rules of the proofs, contracts of functions, plain facts. -/
import Derived.Test.YtoeioeimmfpefaaGreatP44
import Derived.Test.YtoeioeimmfpefaaGreatP47
set_option linter.unusedVariables false
set_option linter.unusedSimpArgs false
set_option maxRecDepth 100000
set_option maxHeartbeats 4000000
namespace Go.Proofs.YtoeioeimmfpefaaGreat
open Go Go.RowKit
attribute [local irreducible] wpList Code.wp Ok
theorem cK.small {w:be} (h:cK w):uu w:=by
 refine⟨⟨by have:=h.au;omega,fun s hs=>?_⟩,⟨by have:=h.ao;omega,fun m hm=>sX (h.words m hm)⟩,⟨by have:=h.lens.1;omega,fun q hq=>?_⟩,by have:=h.seen;omega,fun l hl=>by have:=gm (h.m7 l hl);omega⟩
 ·obtain⟨i,hi,rfl⟩:=hO hs
  exact((h.site i (by have:=h.au;omega)).2).small
 ·obtain⟨i,hi,rfl⟩:=hO hq
  exact(h.call hi).small
set_option maxHeartbeats 4000000 in
theorem YN (x:be) (e:Ev) (hg:cK x) (ht:x.time≤99999):
 Fn Tryz.prog 46 [x.av,e.av] (AV.c9 [(iU x e).1.av,AV.bool (iU x e).2]):=by
 refine Fn.intro 22 Tryz.func46 rfl Tryz.ntmps46 rfl (by kernel_rfl) (fun W I a hs=>?_)
 have uV:=hg.time
 refine ai fun I a w hs=>?_
 refine hs.alloc rfl cG g9 fun b4 I a w hs=>?_
 refine aJ fun I a w hs=>?_
 refine nn ?_
 refine hs.cd (fun ae=>?_) fun ae=>?_
 ·try simp only[B] at ae
  refine aB fun I a w hs=>?_
  refine nn<|wp_ret<|aE ?_
  refine hs.ret rfl (.cons (.s 0 cG rfl rfl (by first|rfl|assumption)) (.cons (.t rfl) aU.nil)) ?_
  exact(by unfold iU;rw[if_neg (by omega)];rfl)
 ·try simp only[B] at ae
  refine az fun I a w hs=>?_
  refine hs.cW [] (KZ x hg.small) (aw .tt aP) rfl (by decide) rfl fun⟨s,r,q,z⟩ I a w aes hs=>?_
  unfold be.KY at hs
  dsimp only at hs
  have hs:=hs.nf
  refine hs.alloc rfl cG g9 fun b6 I a w hs=>?_
  refine aW fun I a w hs=>?_
  refine hs.s1 5 fun hs=>?_
  refine az fun I a w hs=>?_
  refine hs.cW [5,1,2,3,4] (Ww b6 {x with time:=x.time+1} e s r q z hg.later (by show x.time+1≤_;omega)) (aw .tt (aw .tt aP)) rfl (by decide) rfl fun u I a w Ao hs=>?_
  refine hs.o .nt fun hs=>nn ?_
  refine hs.cd (fun ah=>?_) fun ah=>?_
  ·simp only[B] at ah
   rw[ah] at hs
   have hs:=hs.nf
   refine aB fun I a w hs=>?_
   refine nn<|wp_ret<|aE ?_
   refine hs.ret rfl (.cons (.s 0 cG rfl rfl (by first|rfl|assumption)) (.cons (.t rfl) aU.nil)) ?_
   exact(by unfold iU;rw[Lu,if_neg (by rw[ah];simp)];rfl)
  ·simp only[B] at ah
   rw[ah] at hs
   unfold be.full at hs
   have hs:=hs.nf
   obtain⟨I,hs⟩:=hs.fu 1 1 5
   obtain⟨I,hs⟩:=hs.fu 2 2 5
   obtain⟨I,hs⟩:=hs.fu 3 3 5
   obtain⟨I,hs⟩:=hs.fu 4 4 5
   have hs:=hs.nf
   refine aB fun I a w hs=>?_
   refine nn<|wp_ret ?_
   refine hs.ret rfl (.cons (.s 0 cG rfl rfl (by first|rfl|assumption)) (.cons (.t rfl) aU.nil)) ?_
   exact(by unfold iU;rw[Lu,if_pos ⟨by omega,ah⟩];rfl)
def wK (l:List Ev) (k:Nat):be:=(l.take k).foldl (fun w e=>(jX w e).1) ej
theorem EL (l:List Ev) (k:Nat):iR (wK l k)=true:=by
 have key:∀(m:List Ev) (x:be),iR x=true→iR (m.foldl (fun w e=>(jX w e).1) x)=true:=by
  intro m
  induction m with
  |nil=>exact fun x h=>h
  |cons e r ih=>
   intro x h
   rw[List.foldl_cons]
   exact ih _ (by unfold jX;rw[if_pos h];exact De h e)
 exact key _ _ zs
theorem YO {l:List Ev} {k:Nat} (h:k<l.length):(iU (wK l k) (ab l k)).1=wK l (k+1):=by
 have e:∀x e,iR x=true→(iU x e).1=(jX x e).1:=fun x e h=>by unfold jX;rw[if_pos h]
 rw[e _ _ (EL l k)]
 unfold wK
 rw[dL h,List.foldl_append];rfl
theorem LH {l:List Ev} {k:Nat} (h:¬2000<l.length) (hk:l.length≤k):wK l k=gq l:=by
 unfold wK gq;rw[if_neg h,List.take_of_length_le hk]
set_option maxHeartbeats 4000000 in
theorem YP (l:List Ev):
 Fn Tryz.prog 16 [AV.rows 11 (l.map Ev.cells)] ((gq l).av):=by
 refine Fn.intro 26 Tryz.func16 rfl Tryz.ntmps16 rfl (by kernel_rfl) (fun W I a hs=>?_)
 have hle:=hs.ew (t:=0) rfl
 refine sr<|hs.alloc rfl cG g9 fun b2 I a w hs=>nn<|sr ?_
 refine hs.o (.cl (V2 ..)) fun hs=>?_
 refine hs.alloc rfl cG g9 fun b3 I a w hs=>?_
 refine aJ fun I a w hs=>?_
 refine nn ?_
 refine hs.cd (fun ae=>?_) fun ae=>?_
 ·simp only[B] at ae
  refine ai fun I a w hs=>?_
  refine nn<|wp_ret<|aE ?_
  refine hs.ret rfl (.cons (.s 0 cG rfl rfl (by first|rfl|assumption)) aU.nil) ?_
  exact(by unfold gq;rw[if_pos (by omega)];rfl)
 ·simp only[B] at ae
  refine aB fun I a w hs=>?_
  refine nn<|wp_block ?_
  refine St.lo (σ:=Nat) (5::(run 11 13 [])) ⟨fun k=>[(13,AV.int k)],fun k=>[Own.box b2 28 [AV.val (.int .i64 0),AV.rows 7 [],AV.rows 15 [],AV.rows 13 [],AV.rows 1 []],Own.box b3 28 (wK l k).cells],fun k=>k≤l.length⟩ (fun k=>l.length-k) 0 hs ?aN ?aO
  case aN=>exact Nat.zero_le _
  case aO=>
   rintro k I a w al hs
   have hk:k≤l.length:=al
   have hg:=nV.1 (EL l k)
   dsimp only at hs
   refine az fun I a w hs=>?_
   refine nn<|wp_seq ?_
   refine hs.cd (fun ah=>?_) fun ah=>?_
   ·try simp only[B] at ah
    refine ai fun I a w hs=>?_
    refine hs.alloc rfl oz jb fun b5 I a w hs=>?_
    refine hs.sb 2 fun hs=>?_
    obtain⟨I,hs⟩:=hs.fb 2 5
    refine ai fun I a w hs=>?_
    refine hs.o (.c2 (YN (wK l k) (ab l k) hg.1 hg.2)) fun hs=>?_
    refine cx fun I a w hs=>?_
    refine nn ?_
    have hs:=hs.drop 2
    rw[YO ah] at hs
    exact hs.ag (k+1) (ah)
   ·try simp only[B] at ah
    refine wp_exit<|aF<|aF<|aY ?_
    refine az fun I a w hs=>?_
    refine hs.o (.c1 (Uw (wK l k) hg.1.small)) fun hs=>?_
    refine hs.sb 0 fun hs=>?_
    refine nn<|wp_ret ?_
    refine hs.ret rfl (.cons (.s 0 cG rfl rfl (by first|rfl|assumption)) aU.nil) ?_
    exact(by rw[LH (by omega) (by omega)];rfl)
theorem YQ {bs:List UInt8} {p n m:Int} (h:n≤m) (hm:0≤m):cX bs p n≤m:=by
 by_cases h0:0<n
 ·have:=gu bs p h0;omega
 ·unfold cX;rw[if_pos (by omega)];omega
set_option maxHeartbeats 4000000 in
theorem YR (code:List UInt8) (bB:code.length≤1099511627776):
 cL Tryz.prog 24 [bF code] [] (fun r:Nat×List UInt8=>r.2.length≤1099511627776) (fun r=>[Own.box r.1 88 [bF r.2,AV.int (0)]]) (fun r=>AV.val (.pointer (some ⟨r.1,0,none⟩))):=by
 refine cL.intro 11 Tryz.func24 rfl Tryz.ntmps24 rfl (by kernel_rfl) (fun W I a hs=>?_)
 refine az fun I a w hs=>?_
 refine nn ?_
 refine St.cut (σ:=List UInt8) (0::(run 5 3 [])) ⟨fun cd=>[(0,bF cd)],fun cd=>[],fun cd=>cd.length≤1099511627776⟩ hs ?El ?Em
 case El=>
  refine aB fun I a w hs=>?_
  refine nn ?_
  refine hs.cd (fun ae=>?_) fun ae=>?_
  ·simp only[B] at ae
   refine az fun I a w hs=>?_
   refine hs.o (vy sx sw .r .c (fun _=>by rw[List.length_map];omega)) fun hs=>?_
   refine hs.s fun hs=>nn ?_
   refine hs.meet (code.take 2000) ?YS (by rfl) ?YT (by repeat(first|exact Env.xz|refine Env.ie rfl ?_))
   case YS=>first|exact bB|(simp;omega)
   case YT=>exact(Env.dI rfl (by first|rfl|(unfold bF;rw[List.map_take];rfl)) Env.le_nil)
  ·skip
   refine wp_skip<|aG ?_
   refine hs.meet code ?YU (by rfl) ?YV (by repeat(first|exact Env.xz|refine Env.ie rfl ?_))
   case YU=>first|exact bB|(simp;omega)
   case YV=>exact(Env.dI rfl (by first|rfl|(unfold bF;rw[List.map_take];rfl)) Env.le_nil)
 case Em=>
  rintro cd I a w al hs
  have gR:cd.length≤1099511627776:=al
  refine az fun I a w hs=>?_
  refine hs.o (.bd OW (.k aZ.nil)) fun hs=>?_
  refine hs.box rfl .tt fun kb I a w hs=>hs.s fun hs=>nn<|wp_ret ?_
  refine hs.cP (kb,cd) [0] rfl (.cons (.t rfl) .nil) gR rfl rfl
set_option maxHeartbeats 8000000 in
theorem YW (br:Nat) (code:List UInt8) (bB:code.length≤1099511627776) (p:Int) (n:Nat) (h0:0≤p) (h1:p≤n) (hn:n≤10000) (oa:Int) (hm:oa≤30):
 cL Tryz.prog 25 [AV.val (.pointer (some ⟨br,0,none⟩)),AV.int oa] [Own.box br 88 [bF code,AV.int (p)]] (fun r:Nat×di×Int=>cB (n+26000) r.2.1∧0≤r.2.2∧r.2.2≤((n+26000:Nat):Int)) (fun r=>[Own.box r.1 62 [AV.val (.pointer (some ⟨br,0,none⟩)),AV.int r.2.1.w.time,bK r.2.1.w.au,bj r.2.1.w.ao,bE r.2.1.w.calls,bI r.2.1.w.seen,AV.val r.2.1.lv],Own.row r.2.1.lv 39 11 (r.2.1.list.map Ev.cells),Own.box br 88 [bF code,AV.int (r.2.2)]]) (fun r=>AV.val (.pointer (some ⟨r.1,0,none⟩))):=by
 refine cL.intro 28 Tryz.func25 rfl Tryz.ntmps25 rfl (by kernel_rfl) (fun W I a hs=>?_)
 refine ai fun I a w hs=>?_
 refine hs.o (.cl (Lq ..)) fun hs=>?_
 refine hs.o (.bd OS (.k (.t aZ.nil))) fun hs=>?_
 refine hs.box rfl .tt fun kd I a w hs=>hs.s fun hs=>wpList_nil ?_
 have hs:=hs.fi (sz:=11) 39
 change St _ _ [Own.box br 88 [bF code,AV.int (p)],Own.box kd 62 [AV.val (.pointer (some ⟨br,0,none⟩)),AV.int (⟨ej,[],.slice none 0 0⟩:di).w.time,bK (⟨ej,[],.slice none 0 0⟩:di).w.au,bj (⟨ej,[],.slice none 0 0⟩:di).w.ao,bE (⟨ej,[],.slice none 0 0⟩:di).w.calls,bI (⟨ej,[],.slice none 0 0⟩:di).w.seen,AV.val (⟨ej,[],.slice none 0 0⟩:di).lv],Own.row (⟨ej,[],.slice none 0 0⟩:di).lv 39 11 ((⟨ej,[],.slice none 0 0⟩:di).list.map Ev.cells)] _ _ _ at hs
 refine aG<|sr ?_
 refine hs.o (.li (([0,0,3,6,12]:List Int).map xU) qS (.v (.v (.v (.v (.v .nil)))))) fun hs=>?_
 refine hs.m fun hs=>?_
 refine hs.dZ [0] (eM br code p 5 (by omega) bB) (aw .tt (aw .c aP)) rfl (by decide) rfl fun I a w hs=>?_
 change St _ _ [Own.box br 88 [bF code,AV.int (p+1)],Own.box kd 62 [AV.val (.pointer (some ⟨br,0,none⟩)),AV.int (⟨ej,[],.slice none 0 0⟩:di).w.time,bK (⟨ej,[],.slice none 0 0⟩:di).w.au,bj (⟨ej,[],.slice none 0 0⟩:di).w.ao,bE (⟨ej,[],.slice none 0 0⟩:di).w.calls,bI (⟨ej,[],.slice none 0 0⟩:di).w.seen,AV.val (⟨ej,[],.slice none 0 0⟩:di).lv],Own.row (⟨ej,[],.slice none 0 0⟩:di).lv 39 11 ((⟨ej,[],.slice none 0 0⟩:di).list.map Ev.cells)] _ _ _ at hs
 refine hs.o ((by first|exact eZ il fT .tt .tt (fun _=>by have h9:=tm code p (n:=5) (by omega);(try simp);omega)|exact iM il fT .tt .tt (fun _=>by have h9:=tm code p (n:=5) (by omega);(try simp);omega)|exact iX il fT .tt .tt (fun _=>by have h9:=tm code p (n:=5) (by omega);(try simp);omega))) fun hs=>?_
 refine aJ fun I a w hs=>?_
 refine hs.dZ [0] (eM br code (p+1) oa (by omega) bB) (aw .tt (aw .tt aP)) rfl (by decide) rfl fun I a w hs=>?_
 change St _ _ [Own.box br 88 [bF code,AV.int (p+1+1)],Own.box kd 62 [AV.val (.pointer (some ⟨br,0,none⟩)),AV.int (⟨ej,[],.slice none 0 0⟩:di).w.time,bK (⟨ej,[],.slice none 0 0⟩:di).w.au,bj (⟨ej,[],.slice none 0 0⟩:di).w.ao,bE (⟨ej,[],.slice none 0 0⟩:di).w.calls,bI (⟨ej,[],.slice none 0 0⟩:di).w.seen,AV.val (⟨ej,[],.slice none 0 0⟩:di).lv],Own.row (⟨ej,[],.slice none 0 0⟩:di).lv 39 11 ((⟨ej,[],.slice none 0 0⟩:di).list.map Ev.cells)] _ _ _ at hs
 have YX:=fZ code (p+1) oa
 have YY:=YQ (bs:=code) (p:=p+1) hm (by omega)
 generalize cX code (p+1) oa=YZ at hs YX YY
 refine hs.s fun hs=>nn<|wp_block ?_
 refine St.lo (σ:=Int×di×Int) (7::(run 7 20 [])) ⟨fun⟨y,s1,p1⟩=>[(7,AV.int y)],fun⟨y,s1,p1⟩=>[Own.box br 88 [bF code,AV.int (p1)],Own.box kd 62 [AV.val (.pointer (some ⟨br,0,none⟩)),AV.int s1.w.time,bK s1.w.au,bj s1.w.ao,bE s1.w.calls,bI s1.w.seen,AV.val s1.lv],Own.row s1.lv 39 11 (s1.list.map Ev.cells)],fun⟨y,s1,p1⟩=>cB (n+10+850*(30-y).toNat) s1∧0≤p1∧p1≤((n+10+850*(30-y).toNat:Nat):Int)∧0≤y∧y≤30⟩ (fun⟨y,s1,p1⟩=>y.toNat) (YZ,(⟨ej,[],.slice none 0 0⟩:di),p+1+1) hs ?aN ?aO
 case aN=>exact⟨cB.start _ _,by first|omega|(dsimp only;omega)|(dsimp only;push_cast;omega)|(push_cast;omega)|simp,by first|omega|(dsimp only;omega)|(dsimp only;push_cast;omega)|(push_cast;omega)|simp,by first|omega|(dsimp only;omega)|(dsimp only;push_cast;omega)|(push_cast;omega)|simp,by first|omega|(dsimp only;omega)|(dsimp only;push_cast;omega)|(push_cast;omega)|simp⟩
 case aO=>
  rintro⟨y,s1,p1⟩ I a w al hs
  obtain⟨gL,Ab,Ac,Xm,Xn⟩:=al
  dsimp only at hs
  refine ai fun I a w hs=>?_
  refine nn ?_
  refine hs.cd (fun ae=>?_) fun ae=>?_
  ·try simp only[B] at ae
   refine ai fun I a w hs=>?_
   refine hs.cW [1,2,0] (XE kd br code bB s1 p1 (n+10+850*(30-y).toNat) gL Ab Ac (by omega) _) (aw .tt (aw .tt aP)) rfl (by decide) rfl fun Y0 I a w EM hs=>?_
   obtain⟨py,Aq⟩:=Y0
   change St _ _ [Own.box br 88 [bF code,AV.int (Aq)],Own.box kd 62 [AV.val (.pointer (some ⟨br,0,none⟩)),AV.int py.w.time,bK py.w.au,bj py.w.ao,bE py.w.calls,bI py.w.seen,AV.val py.lv],Own.row py.lv 39 11 (py.list.map Ev.cells)] _ _ _ at hs
   replace EM:cB ((n+10+850*(30-y).toNat)+850) py∧0≤Aq∧Aq≤(((n+10+850*(30-y).toNat)+850:Nat):Int):=EM
   obtain⟨Y1,l26,u26⟩:=EM
   refine aB fun I a w hs=>?_
   refine nn ?_
   exact hs.ag (y-1,py,Aq) (⟨Y1.mono (by omega),by first|omega|(dsimp only;omega)|(dsimp only;push_cast;omega)|(push_cast;omega)|simp,by first|omega|(dsimp only;omega)|(dsimp only;push_cast;omega)|(push_cast;omega)|simp,by first|omega|(dsimp only;omega)|(dsimp only;push_cast;omega)|(push_cast;omega)|simp,by first|omega|(dsimp only;omega)|(dsimp only;push_cast;omega)|(push_cast;omega)|simp⟩)
  ·try simp only[B] at ae
   refine wp_exit<|aF<|aF<|aY ?_
   refine ai fun I a w hs=>?_
   refine nn<|wp_ret ?_
   refine hs.cP (kd,s1,p1) [1,2,0] rfl (.cons (.t rfl) .nil) (by(try dsimp only);exact⟨gL.mono (by omega),by first|omega|(dsimp only;omega)|(dsimp only;push_cast;omega)|(push_cast;omega)|simp,by first|omega|(dsimp only;omega)|(dsimp only;push_cast;omega)|(push_cast;omega)|simp⟩) rfl rfl
set_option maxHeartbeats 4000000 in
theorem EN (x:be) (h:uu x):
 Fn Tryz.prog 50 [x.av] (x.av):=by
 refine Fn.intro 69 Tryz.func50 rfl Tryz.ntmps50 rfl (by kernel_rfl) (fun W I a hs=>?_)
 obtain⟨⟨h1,h2⟩,⟨h3,h4⟩,⟨h5,h6⟩,h7,h8⟩:=h
 have hs:=hs.fi (sz:=7) 44
 have hs:=hs.fi (sz:=13) 51
 have hs:=hs.fi (sz:=1) 42
 refine az fun I a w hs=>?_
 refine hs.alloc rfl cG g9 fun b2 I a w hs=>nn<|wp_seq ?_
 refine hs.mG 7 (by kernel_rfl) (by kernel_rfl) (by kernel_rfl) ?_
 simp only[List.take_succ_cons,List.take_zero,List.drop_succ_cons,List.drop_zero]
 refine de ?_
 refine .o (.cl (CH x.ao h3 h4)) ?_
 refine .o (.bd tT (.k (.k aZ.nil))) ?_
 refine fl.alloc cG g9<|.nil ?_
 intro I a w hs
 obtain⟨b3,hs⟩:=hs.qL (d:=3) rfl
 refine ai fun I a w hs=>?_
 refine nn<|wp_block ?_
 refine St.lo (σ:=Nat×Value) (4::(run 18 13 [])) ⟨fun⟨k,p⟩=>[(4,AV.int k)],fun⟨k,p⟩=>[Own.row p 44 7 ((x.au.take k).map Server.cells),Own.row (.slice none 0 0) 51 13 ([]),Own.row (.slice none 0 0) 42 1 ([]),Own.box b2 28 [AV.val (.int .i64 0),AV.rows 7 [],AV.rows 15 [],AV.rows 13 [],AV.rows 1 []],Own.box b3 28 [AV.int x.time,AV.val p,bj x.ao,AV.val (.slice none 0 0),AV.val (.slice none 0 0)]],fun⟨k,p⟩=>k≤x.au.length⟩ (fun⟨k,p⟩=>x.au.length-k) (0,(.slice none 0 0)) hs ?aN ?aO
 case aN=>exact Nat.zero_le _
 case aO=>
  rintro⟨k,p⟩ I a w al hs
  have hk:k≤x.au.length:=al
  dsimp only at hs
  refine aW fun I a w hs=>?_
  refine nn ?_
  refine hs.cd (fun ae=>?_) fun ae=>?_
  ·try simp only[B] at ae
   refine wp_skip<|aG<|wp_seq<|wp_block ?_
   refine hs.dp 9 (by kernel_rfl) (by kernel_rfl) (by kernel_rfl) ?_
   simp only[List.take_succ_cons,List.take_zero,List.drop_succ_cons,List.drop_zero]
   refine jS ?_
   refine .o (.c1 (wP _ (h2 _ (bx ae)))) ?_
   refine .o (.li [(ab x.au k).cells] yn (.u .nil)) ?_
   refine .nil ?_
   intro I a w hs
   refine hs.append 0 rfl kt ba rfl .tt .r rfl (by simp;omega) fun uq a w hs=>?_
   rw[ck,←dL ae] at hs
   refine hs.o .fv fun hs=>?_
   try have Uj:=hs.dS 0 rfl
   refine aJ fun I a w hs=>?_
   refine nn ?_
   exact hs.ag (k+1,uq) (ae)
  ·try simp only[B] at ae
   refine wp_exit<|aF<|aF<|aY<|aG<|wp_seq<|wp_seq ?_
   rw[List.take_of_length_le (by omega)] at hs
   refine az fun I a w hs=>?_
   refine nn<|wp_block ?_
   refine St.lo (σ:=Nat×Value) (5::(run 18 31 [])) ⟨fun⟨k,q⟩=>[(5,AV.int k)],fun⟨k,q⟩=>[Own.row p 44 7 (x.au.map Server.cells),Own.row q 51 13 ((x.calls.take k).map Call.cells),Own.row (.slice none 0 0) 42 1 ([]),Own.box b2 28 [AV.val (.int .i64 0),AV.rows 7 [],AV.rows 15 [],AV.rows 13 [],AV.rows 1 []],Own.box b3 28 [AV.int x.time,AV.val p,bj x.ao,AV.val q,AV.val (.slice none 0 0)]],fun⟨k,q⟩=>k≤x.calls.length⟩ (fun⟨k,q⟩=>x.calls.length-k) (0,(.slice none 0 0)) hs ?dT ?dU
   case dT=>exact Nat.zero_le _
   case dU=>
    rintro⟨k,q⟩ I a w al hs
    have hk:k≤x.calls.length:=al
    dsimp only at hs
    refine aW fun I a w hs=>?_
    refine nn ?_
    refine hs.cd (fun ah=>?_) fun ah=>?_
    ·try simp only[B] at ah
     refine wp_skip<|aG<|wp_seq<|wp_block ?_
     refine hs.dp 9 (by kernel_rfl) (by kernel_rfl) (by kernel_rfl) ?_
     simp only[List.take_succ_cons,List.take_zero,List.drop_succ_cons,List.drop_zero]
     refine jS ?_
     refine .o (.c1 (DF _ (h6 _ (bx ah)))) ?_
     refine .o (.li [(ab x.calls k).cells] yp (.u .nil)) ?_
     refine .nil ?_
     intro I a w hs
     refine hs.append 1 rfl iD cy rfl .tt .r rfl (by simp;omega) fun Di a w hs=>?_
     rw[ck,←dL ah] at hs
     refine hs.o .fv fun hs=>?_
     try have aev:=hs.dS 1 rfl
     refine aJ fun I a w hs=>?_
     refine nn ?_
     exact hs.ag (k+1,Di) (ah)
    ·try simp only[B] at ah
     refine wp_exit<|aF<|aF<|aY<|aG<|wp_seq<|wp_seq ?_
     rw[List.take_of_length_le (by omega)] at hs
     refine az fun I a w hs=>?_
     refine nn<|wp_block ?_
     refine St.lo (σ:=Nat×Value) (6::(run 19 49 [])) ⟨fun⟨k,r⟩=>[(6,AV.int k)],fun⟨k,r⟩=>[Own.row p 44 7 (x.au.map Server.cells),Own.row q 51 13 (x.calls.map Call.cells),Own.row r 42 1 ((x.seen.take k).map ey),Own.box b2 28 [AV.val (.int .i64 0),AV.rows 7 [],AV.rows 15 [],AV.rows 13 [],AV.rows 1 []],Own.box b3 28 [AV.int x.time,AV.val p,bj x.ao,AV.val q,AV.val r]],fun⟨k,r⟩=>k≤x.seen.length⟩ (fun⟨k,r⟩=>x.seen.length-k) (0,(.slice none 0 0)) hs ?iq ?ir
     case iq=>exact Nat.zero_le _
     case ir=>
      rintro⟨k,r⟩ I a w al hs
      have hk:k≤x.seen.length:=al
      dsimp only at hs
      refine aW fun I a w hs=>?_
      refine nn ?_
      refine hs.cd (fun aj=>?_) fun aj=>?_
      ·try simp only[B] at aj
       refine wp_skip<|aG<|wp_seq<|wp_block ?_
       refine hs.dp 10 (by kernel_rfl) (by kernel_rfl) (by kernel_rfl) ?_
       simp only[List.take_succ_cons,List.take_zero,List.drop_succ_cons,List.drop_zero]
       refine cq ?_
       refine .o (qP bA bk) ?_
       refine eK ?_
       refine .o (x8 bA bk rfl .tt .r (fun _=>by have:=h8 _ (bx aj);simp;omega)) ?_
       refine .o (.li [ey (ab x.seen k)] BV (.v .nil)) ?_
       refine .nil ?_
       intro I a w hs
       refine hs.append 2 rfl nB kr rfl .tt .r rfl (by simp;omega) fun Y2 a w hs=>?_
       rw[ck,←dL aj] at hs
       refine hs.o .fv fun hs=>?_
       try have aew:=hs.dS 2 rfl
       refine aJ fun I a w hs=>?_
       refine nn ?_
       exact hs.ag (k+1,Y2) (aj)
      ·try simp only[B] at aj
       refine wp_exit<|aF<|aF<|aY<|aG<|wp_seq ?_
       rw[List.take_of_length_le (by omega)] at hs
       obtain⟨I,hs⟩:=hs.fu 0 1 4
       obtain⟨I,hs⟩:=hs.fu 1 3 4
       obtain⟨I,hs⟩:=hs.fu 2 4 4
       have hs:=hs.nf
       refine ai fun I a w hs=>?_
       refine nn<|wp_ret ?_
       refine hs.ret rfl (.cons (.s 3 cG rfl rfl (by first|rfl|assumption)) aU.nil) ?_
       rfl
theorem cK.ax {w:be} (h:cK w):∀q∈w.calls,q.ax.length≤1048576:=fun q hq=>by have:=h.lens.2 q hq;omega
theorem Y3 {w:be} {e:Ev} (h:iR w=true) (ht:¬99999≤w.time) (hd:(ei w e).2=true):cK (ei w e).1:=by
 have:=De h e
 unfold iU at this
 rw[if_pos ⟨by omega,hd⟩] at this
 exact(nV.1 this).1
set_option maxHeartbeats 4000000 in
theorem Y4 (x:be) (e:Ev) (rl:∀q∈x.calls,q.ax.length≤1048576):
 Fn Tryz.prog 20 [x.av,e.av] (AV.c9 [(jX x e).1.av,AV.bool (jX x e).2]):=by
 refine Fn.intro 29 Tryz.func20 rfl Tryz.ntmps20 rfl (by kernel_rfl) (fun W I a hs=>?_)
 refine ai fun I a w hs=>?_
 refine hs.alloc rfl cG g9 fun b4 I a w hs=>?_
 refine ai fun I a w hs=>?_
 refine hs.o (.c1 (Qu x rl)) fun hs=>hs.o .nt fun hs=>nn ?_
 refine hs.cd (fun ae=>?_) fun ae=>?_
 ·replace ae:=nt ae
  refine sr ?_
  refine hs.o (.bd g9 aZ.nil) fun hs=>?_
  refine ai fun I a w hs=>?_
  refine nn<|wp_ret<|aE ?_
  refine hs.ret rfl (.cons (.s 0 cG rfl rfl (by first|rfl|assumption)) (.cons (.t rfl) aU.nil)) ?_
  exact(by unfold jX;rw[ae];rfl)
 ·replace ae:=nf ae;have hg:=nV.1 ae
  refine aB fun I a w hs=>?_
  refine nn ?_
  refine hs.cd (fun ah=>?_) fun ah=>?_
  ·try simp only[B] at ah
   refine az fun I a w hs=>?_
   refine hs.o (.c1 (EN x hg.1.small)) fun hs=>?_
   refine ai fun I a w hs=>?_
   refine nn<|wp_ret<|aE ?_
   refine hs.ret rfl (.cons (.s 0 cG rfl rfl (by first|rfl|assumption)) (.cons (.t rfl) aU.nil)) ?_
   exact(by unfold jX iU;rw[ae,if_pos rfl,if_neg (by omega)];rfl)
  ·try simp only[B] at ah
   refine ai fun I a w hs=>?_
   refine hs.o (cI (Lo x e hg.1 (by omega)) (aw (.t rfl) (aw (.t rfl) aP))) fun hs=>?_
   refine aB fun I a w hs=>?_
   refine hs.alloc rfl cG g9 fun b6 I a w hs=>?_
   refine hs.sb 1 fun hs=>?_
   obtain⟨I,hs⟩:=hs.fb 1 6
   refine aB fun I a w hs=>?_
   refine nn ?_
   refine hs.cd (fun aj=>?_) fun aj=>?_
   ·replace aj:=nt aj
    refine az fun I a w hs=>?_
    refine hs.o (.c1 (EN x hg.1.small)) fun hs=>?_
    refine ai fun I a w hs=>?_
    refine nn<|wp_ret<|aE ?_
    refine hs.ret rfl (.cons (.s 0 cG rfl rfl (by first|rfl|assumption)) (.cons (.t rfl) aU.nil)) ?_
    exact(by unfold jX iU;rw[ae,if_pos rfl,if_neg (by rw[aj];simp)];rfl)
   ·replace aj:=nf aj
    refine az fun I a w hs=>?_
    refine hs.o (cI (EN (ei x e).1 (Y3 ae (by omega) aj).small) (aw (.t rfl) aP)) fun hs=>?_
    refine ai fun I a w hs=>?_
    refine nn<|wp_ret ?_
    refine hs.ret rfl (.cons (.s 0 cG rfl rfl (by first|rfl|assumption)) (.cons (.t rfl) aU.nil)) ?_
    exact(by unfold jX iU;rw[ae,if_pos rfl,if_pos ⟨by omega,aj⟩];rfl)
theorem Y5 {l:List Ev} {k:Nat} (h:k<l.length):(jX (wK l k) (ab l k)).1=wK l (k+1):=by
 unfold wK;rw[dL h,List.foldl_append];rfl
set_option maxHeartbeats 4000000 in
theorem Y6 (l:List Ev):
 Fn Tryz.prog 15 [FR l] ((gq l).av):=by
 refine Fn.intro 26 Tryz.func15 rfl Tryz.ntmps15 rfl (by kernel_rfl) (fun W I a hs=>?_)
 have hle:=hs.ew (t:=0) rfl
 refine sr<|hs.alloc rfl cG g9 fun b2 I a w hs=>nn<|sr ?_
 refine hs.o (.cl (Lq ..)) fun hs=>?_
 refine hs.alloc rfl cG g9 fun b3 I a w hs=>?_
 refine aJ fun I a w hs=>?_
 refine nn ?_
 refine hs.cd (fun ae=>?_) fun ae=>?_
 ·simp only[B] at ae
  refine ai fun I a w hs=>?_
  refine nn<|wp_ret<|aE ?_
  refine hs.ret rfl (.cons (.s 0 cG rfl rfl (by first|rfl|assumption)) aU.nil) ?_
  exact(by unfold gq;rw[if_pos (by omega)];rfl)
 ·simp only[B] at ae
  refine az fun I a w hs=>?_
  refine nn<|wp_block ?_
  refine St.lo (σ:=Nat) (4::(run 15 10 [])) ⟨fun k=>[(4,AV.int k)],fun k=>[Own.box b2 28 [AV.val (.int .i64 0),AV.rows 7 [],AV.rows 15 [],AV.rows 13 [],AV.rows 1 []],Own.box b3 28 (wK l k).cells],fun k=>k≤l.length⟩ (fun k=>l.length-k) 0 hs ?aN ?aO
  case aN=>exact Nat.zero_le _
  case aO=>
   rintro k I a w al hs
   have hk:k≤l.length:=al
   have hg:=nV.1 (EL l k)
   dsimp only at hs
   refine aJ fun I a w hs=>?_
   refine nn ?_
   refine hs.cd (fun ah=>?_) fun ah=>?_
   ·try simp only[B] at ah
    refine wp_skip<|aG<|wp_seq<|wp_block ?_
    refine hs.eT [([1],none),([],none),([],none),([],none),([],none),([],none),([],none),([],none),([],none),([1],some (1,[]))] (by kernel_rfl) (by kernel_rfl) rfl ?_
    refine .r [1] (.ls 1) ?_
    refine de ?_
    refine .o (.c2 (Y4 (wK l k) (ab l k) hg.1.ax)) ?_
    refine du ?_
    refine aV.gz (x:=AV.any) 1 (fun F W0 I0 I a w Q hs kk=>hs.sb 1 fun hs=>kk _ _ _ hs) ?_
    refine .nil ?_
    intro I a w hs
    refine aB fun I a w hs=>?_
    refine nn ?_
    rw[Y5 ah] at hs
    exact hs.ag (k+1) (ah)
   ·try simp only[B] at ah
    refine wp_exit<|aF<|aF<|aY ?_
    refine ai fun I a w hs=>?_
    refine nn<|wp_ret ?_
    refine hs.ret rfl (.cons (.s 0 cG rfl rfl (by first|rfl|assumption)) aU.nil) ?_
    exact(by rw[LH (by omega) (by omega)];rfl)
def LI:Ev:=⟨0,0,0,0,0,0,0,0,0,0,0⟩
set_option maxHeartbeats 4000000 in
theorem Y7 (code:List UInt8) (bB:code.length≤1099511627776):
 yc Tryz.prog 14 [bF code] (fun l:List Ev=>l.length≤30000) FR:=by
 refine yc.intro 18 Tryz.func14 rfl Tryz.ntmps14 rfl (by kernel_rfl) (fun W I a hs=>?_)
 refine ai fun I a w hs=>?_
 refine hs.cW [] (YR code bB) (aw .r aP) rfl (by decide) rfl fun r5 I a w EO hs=>?_
 obtain⟨br,cd⟩:=r5
 replace EO:cd.length≤1099511627776:=EO
 change St _ _ [Own.box br 88 [bF cd,AV.int (0)]] _ _ _ at hs
 have gR:=EO
 refine ai fun I a w hs=>?_
 refine hs.dZ [0] (eM br cd (0) (60) (by omega) gR) (aw .tt (aw .c aP)) rfl (by decide) rfl fun I a w hs=>?_
 generalize cX cd 0 60=x7 at hs
 refine hs.o .si fun hs=>nn ?_
 refine hs.cd (fun ae=>?_) fun ae=>?_
 ·try simp only[B] at ae
  refine az fun I a w hs=>?_
  refine hs.dZ [0] (eM br cd (0+1) (2) (by omega) gR) (aw .tt (aw .c aP)) rfl (by decide) rfl fun I a w hs=>?_
  have hx:=tm cd (0+1) (n:=2) (by omega)
  generalize cX cd (0+1) 2=x10 at hs hx
  obtain⟨xt,rfl⟩:=Int.eq_ofNat_of_zero_le hx.1
  refine hs.o .BR fun hs=>?_
  rw[show(2000+(xt:Int))=((2000+xt:Nat):Int) from by omega] at hs
  refine hs.make rfl sB oz jb rfl .tt .tt (by omega) fun sK a w hs=>?_
  obtain⟨I,hs⟩:=hs.fr 1 12
  rw[show List.replicate (2000+xt) _=(List.replicate (2000+xt) LI).map Ev.cells from(by rw[List.map_replicate];rfl)] at hs
  refine hs.s fun hs=>nn<|wp_ret<|aE ?_
  refine hs.cP (List.replicate (2000+xt) LI) [] rfl (.cons (.t rfl) .nil) (by simp;omega) rfl rfl
 ·try simp only[B] at ae
  refine az fun I a w hs=>?_
  refine hs.cW [0] (YW br cd gR (0+1) 1 (by omega) (by omega) (by omega) 26 (by omega)) (aw .tt (aw .c aP)) rfl (by decide) rfl fun Y8 I a w uL hs=>?_
  obtain⟨bs,s1,p1⟩:=Y8
  replace uL:cB (1+26000) s1∧0≤p1∧p1≤((1+26000:Nat):Int):=uL
  obtain⟨gL,ny,zR⟩:=uL
  obtain⟨w1,l1,v1⟩:=s1
  change St _ _ [Own.box bs 62 [AV.val (.pointer (some ⟨br,0,none⟩)),AV.int w1.time,bK w1.au,bj w1.ao,bE w1.calls,bI w1.seen,AV.val v1],Own.row v1 39 11 (l1.map Ev.cells),Own.box br 88 [bF cd,AV.int (p1)]] _ _ _ at hs
  have hlen:=gL.len
  replace hlen:l1.length≤1+26000:=hlen
  refine aJ fun I a w hs=>?_
  refine nn<|wp_ret ?_
  obtain⟨I,hs⟩:=hs.fr 1 2
  refine hs.cP l1 [] rfl (.cons (.t rfl) .nil) (by omega) rfl rfl
end Go.Proofs.YtoeioeimmfpefaaGreat

/- Part 19: rules of the proofs, contracts of functions, plain facts. -/
import Derived.Test.YtoeioeimmfpefaaGreatP18
set_option linter.unusedVariables false
set_option linter.unusedSimpArgs false
set_option maxRecDepth 100000
set_option maxHeartbeats 4000000
namespace Go.Proofs.YtoeioeimmfpefaaGreat
open Go Go.RowKit
attribute [local irreducible] wpList Code.wp Ok
theorem ck {α:Type} {f:α→List AV} (l:List α) (x:α):l.map f++[f x]=(l++[x]).map f:=by simp
theorem qe (l:List ar) (h:l.length≤1048576):
 Fn Tryz.prog 91 [bl l] (bl l):=by
 refine Fn.intro 5 Tryz.func91 rfl Tryz.ntmps91 rfl (by kernel_rfl) (fun W I a hs=>?_)
 refine ai fun I a w hs=>?_
 have hs:=hs.fi (sz:=3) 97
 refine hs.append 0 rfl bA bk rfl .c .r rfl (by simp;omega) fun v4 a w hs=>?_
 obtain⟨I,hs⟩:=hs.fr 0 4
 refine hs.s fun hs=>nn<|wp_ret ?_
 refine hs.rt ?_
 rfl
theorem Cs (l:List ar) (d:ar) (hl:bT l=true):
 Fn Tryz.prog 198 [bl l,d.av] (bl (gl l d)):=by
 refine Fn.intro 53 Tryz.func198 rfl Tryz.ntmps198 rfl (by kernel_rfl) (fun W I a hs=>?_)
 have wB:=gm hl
 have hs:=hs.fi (sz:=3) 97
 refine dq fun I a w hs=>?_
 refine nn<|wp_block ?_
 refine St.lo (σ:=Nat×Bool×List ar×Value) (run 2 5 (8::(run 35 11 []))) ⟨fun⟨k,done,out,v⟩=>[(11,AV.int k),(6,AV.bool done),(5,AV.val v)],fun⟨k,done,out,v⟩=>[Own.row v 97 3 (out.map ar.cells)],fun⟨k,done,out,v⟩=>jd l d k done out⟩ (fun⟨k,done,out,v⟩=>l.length-k) (0,false,[],.slice none 0 0) hs ?aN ?aO
 case aN=>exact jd.zero l d
 case aO=>
  rintro⟨k,done,out,v⟩ I a w al hs
  have hp:jd l d k done out:=al
  have hk:=hp.hk
  have gf:=hp.len
  have nr:done.toNat≤1:=by cases done<;>simp
  dsimp only at hs
  refine az fun I a w hs=>?_
  refine nn<|wp_seq ?_
  refine hs.cd (fun ae=>?_) fun ae=>?_
  ·try simp only[B] at ae
   refine ai fun I a w hs=>?_
   refine hs.alloc rfl bk eV fun b8 I a w hs=>?_
   refine dq fun I a w hs=>?_
   refine nn ?_
   refine hs.cd (fun ah=>?_) fun ah=>?_
   ·try simp only[B] at ah
    refine aJ fun I a w hs=>?_
    refine hs.o (.c2 (BW ..)) fun hs=>nn ?_
    refine hs.cd (fun aj=>?_) fun aj=>?_
    ·try simp only[B] at aj
     refine aW fun I a w hs=>?_
     refine hs.o (.li [d.cells] fU (.u .nil)) fun hs=>?_
     refine hs.append 0 rfl bA bk rfl .tt .r rfl (by simp;omega) fun rj a w hs=>?_
     rw[ck] at hs
     refine aB fun I a w hs=>?_
     refine nn ?_
     have hs:=hs.drop 1
     exact hs.ag (k+1,true,out++[d],rj) (by have h:=(hp.same hl ae ah).2;rw[aj,if_pos rfl] at h;exact h)
    ·try simp only[B] at aj
     refine aB fun I a w hs=>?_
     refine hs.o (.li [(ab l k).cells] fU (.u .nil)) fun hs=>?_
     refine hs.append 0 rfl bA bk rfl .tt .r rfl (by simp;omega) fun rj a w hs=>?_
     rw[ck] at hs
     refine aB fun I a w hs=>?_
     refine nn ?_
     have hs:=hs.drop 1
     exact hs.ag (k+1,true,out++[ab l k],rj) (by have h:=(hp.same hl ae ah).2;rw[aj] at h;exact h)
   ·try simp only[B] at ah
    refine kq fun I a w hs=>?_
    refine nn ?_
    refine hs.cd (fun aI=>?_) fun aI=>?_
    ·try simp only[B] at aI
     refine ai fun I a w hs=>?_
     refine hs.o (.li [d.cells] fU (.u .nil)) fun hs=>?_
     refine hs.append 0 rfl bA bk rfl .tt .r rfl (by simp;omega) fun HZ a w hs=>?_
     rw[ck] at hs
     refine aJ fun I a w hs=>?_
     refine hs.o (.li [(ab l k).cells] fU (.u .nil)) fun hs=>?_
     refine hs.append 0 rfl bA bk rfl .tt .r rfl (by simp;omega) fun rj a w hs=>?_
     rw[ck] at hs
     refine aB fun I a w hs=>?_
     refine nn ?_
     have hs:=hs.drop 1
     exact hs.ag (k+1,true,(out++[d])++[ab l k],rj) (by obtain⟨h1,h2⟩:=aI;subst h2;exact hp.before hl ae h1)
    ·try simp only[B] at aI
     refine ai fun I a w hs=>?_
     refine hs.o (.li [(ab l k).cells] fU (.u .nil)) fun hs=>?_
     refine hs.append 0 rfl bA bk rfl .tt .r rfl (by simp;omega) fun rj a w hs=>?_
     rw[ck] at hs
     refine aB fun I a w hs=>?_
     refine nn ?_
     have hs:=hs.drop 1
     exact hs.ag (k+1,done,out++[ab l k],rj) (hp.step ae ah fun hd=>by rcases aI with h|h;exact h;rw[hd] at h;cases h)
  ·try simp only[B] at ae
   refine wp_exit<|aF<|aF<|aY ?_
   refine ai fun I a w hs=>?_
   refine nn ?_
   refine hs.cd (fun aL=>?_) fun aL=>?_
   ·try simp only[B] at aL
    refine ai fun I a w hs=>?_
    refine hs.o (.li [d.cells] fU (.u .nil)) fun hs=>?_
    refine hs.append 0 rfl bA bk rfl .tt .r rfl (by simp;omega) fun v51 a w hs=>?_
    rw[ck] at hs
    refine aB fun I a w hs=>?_
    refine nn<|wp_ret ?_
    obtain⟨I,hs⟩:=hs.fr 0 4
    refine hs.rt ?_
    exact congrArg (AV.rows 3) (by subst aL;exact hp.p4 (by omega)▸rfl)
   ·try simp only[B] at aL
    refine ai fun I a w hs=>?_
    refine nn<|wp_ret ?_
    obtain⟨I,hs⟩:=hs.fr 0 4
    refine hs.rt ?_
    exact congrArg (AV.rows 3) (by subst aL;rw[hp.pZ (by omega)])
theorem H4 (x y:List ar) (hx:bT x=true) (hy:bT y=true):
 Fn Tryz.prog 199 [bl x,bl y] (bl (iE x y)):=by
 refine Fn.intro 21 Tryz.func199 rfl Tryz.ntmps199 rfl (by kernel_rfl) (fun W I a hs=>?_)
 have wB:=gm hx
 have Qc:=gm hy
 refine ai fun I a w hs=>?_
 refine hs.o (cI (qe x (by omega)) (aw .r aP)) fun hs=>?_
 refine aJ fun I a w hs=>?_
 refine nn<|wp_block ?_
 refine St.lo (σ:=Nat) (5::(7::(run 8 12 []))) ⟨fun k=>[(12,AV.int k),(5,bl (iE x (y.take k)))],fun k=>[],fun k=>k≤y.length⟩ (fun k=>y.length-k) 0 hs ?aN ?aO
 case aN=>exact Nat.zero_le _
 case aO=>
  rintro k I a w al hs
  have hk:k≤y.length:=al
  refine az fun I a w hs=>?_
  refine nn<|wp_seq ?_
  refine hs.cd (fun ae=>?_) fun ae=>?_
  ·try simp only[B] at ae
   refine ai fun I a w hs=>?_
   refine hs.alloc rfl bk eV fun b7 I a w hs=>?_
   refine hs.sb 0 fun hs=>?_
   obtain⟨I,hs⟩:=hs.fb 0 7
   refine ai fun I a w hs=>?_
   refine hs.o (.cl (Cs _ _ (Hw hx hy k))) fun hs=>?_
   refine aB fun I a w hs=>?_
   refine nn ?_
   have hs:=hs.drop 0
   refine hs.again (k+1) ?gS ?gT (by rfl) ?gU (by repeat(first|exact Env.le_rfl|refine Env.ie rfl ?_))
   case gS=>omega
   case gT=>exact ae
   case gU=>exact(Env.dI rfl (by rfl) (Env.dI rfl (by exact congrArg bl (by rw[Hv ae])) Env.le_nil))
  ·try simp only[B] at ae
   refine wp_exit<|aF<|aF<|aY ?_
   refine ai fun I a w hs=>?_
   refine nn<|wp_ret ?_
   refine hs.rt ?_
   exact congrArg bl (by rw[List.take_of_length_le (by omega)])
theorem Qd (l:List ar) (key:Int):
 Fn Tryz.prog 246 [bl l,AV.int key] ((bY l key).av):=by
 refine Fn.intro 21 Tryz.func246 rfl Tryz.ntmps246 rfl (by kernel_rfl) (fun W I a hs=>?_)
 have hle:=hs.ew (t:=0) rfl
 refine sr<|hs.alloc rfl gj iC fun b4 I a w hs=>?_
 refine aB fun I a w hs=>?_
 refine nn<|wp_block ?_
 refine St.lo (σ:=Nat) (6::(run 11 9 [])) ⟨fun k=>[(9,AV.int k)],fun k=>[Own.box b4 48 [AV.val (.int .i64 0),AV.val (.int .i64 0)]],fun k=>k≤l.length∧∀i,i<k→mO key (ab l i)=false⟩ (fun k=>l.length-k) 0 hs ?aN ?aO
 case aN=>exact⟨Nat.zero_le _,fun i hi=>by omega⟩
 case aO=>
  rintro k I a w al hs
  obtain⟨hk,aT⟩:=al
  refine az fun I a w hs=>?_
  refine nn<|wp_seq ?_
  refine hs.cd (fun ae=>?_) fun ae=>?_
  ·try simp only[B] at ae
   refine ai fun I a w hs=>?_
   refine hs.alloc rfl bk eV fun b6 I a w hs=>?_
   refine hs.sb 1 fun hs=>?_
   obtain⟨I,hs⟩:=hs.fb 1 6
   refine aJ fun I a w hs=>?_
   refine nn ?_
   refine hs.cd (fun ah=>?_) fun ah=>?_
   ·skip
    refine aB fun I a w hs=>?_
    refine nn<|wp_ret<|bh<|aE<|aE<|bh<|aE ?_
    refine hs.ret rfl (.cons (.s 0 gj rfl rfl (by first|rfl|assumption)) aU.nil) ?_
    exact(by rw[Hz ae aT ah];rfl)
   ·skip
    refine ai fun I a w hs=>?_
    refine nn ?_
    have hs:=hs.drop 1
    exact hs.ag (k+1) (⟨ae,fun i h1=>by rcases Nat.lt_succ_iff_lt_or_eq.1 h1 with h|h;exact aT i h;rw[h];exact ah⟩)
  ·try simp only[B] at ae
   refine wp_exit<|aF<|aF<|aY<|aG<|sr ?_
   refine hs.o (.bd iC aZ.nil) fun hs=>?_
   refine hs.sb 0 fun hs=>?_
   refine nn<|wp_ret ?_
   refine hs.ret rfl (.cons (.s 0 gj rfl rfl (by first|rfl|assumption)) aU.nil) ?_
   exact(by rw[HA (by omega) aT];rfl)
theorem Qe (l:List ar) (key:Int) (hl:bT l=true):
 Fn Tryz.prog 247 [bl l,AV.int key] ((bY l key).av):=by
 refine Fn.intro 29 Tryz.func247 rfl Tryz.ntmps247 rfl (by kernel_rfl) (fun W I a hs=>?_)
 have hle:=hs.ew (t:=0) rfl
 refine sr<|hs.alloc rfl gj iC fun b4 I a w hs=>?_
 refine az fun I a w hs=>?_
 refine hs.o (.cl (oB ..)) fun hs=>?_
 refine hs.o .nt fun hs=>nn ?_
 refine hs.cd (fun ae=>?_) fun ae=>?_
 ·exfalso;rw[hl] at ae;cases ae
  skip
 ·skip
  refine az fun I a w hs=>?_
  refine nn<|wp_block ?_
  refine St.lo (σ:=Nat) (5::(run 18 10 [])) ⟨fun k=>[(5,AV.int k)],fun k=>[Own.box b4 48 [AV.val (.int .i64 0),AV.val (.int .i64 0)]],fun k=>k≤l.length∧∀i,i<k→mO key (ab l i)=false⟩ (fun k=>l.length-k) 0 hs ?aN ?aO
  case aN=>exact⟨Nat.zero_le _,fun i hi=>by omega⟩
  case aO=>
   rintro k I a w al hs
   obtain⟨hk,aT⟩:=al
   refine aJ fun I a w hs=>?_
   refine nn ?_
   refine hs.cd (fun ah=>?_) fun ah=>?_
   ·try simp only[B] at ah
    refine dq fun I a w hs=>?_
    refine nn ?_
    refine hs.cd (fun aj=>?_) fun aj=>?_
    ·skip
     refine cx fun I a w hs=>?_
     refine nn<|wp_ret<|bh<|aE<|aE<|bh<|aE ?_
     refine hs.ret rfl (.cons (.s 0 gj rfl rfl (by first|rfl|assumption)) aU.nil) ?_
     exact(by rw[Hz ah aT aj];rfl)
    ·skip
     refine aB fun I a w hs=>?_
     refine nn ?_
     exact hs.ag (k+1) (⟨ah,fun i h1=>by rcases Nat.lt_succ_iff_lt_or_eq.1 h1 with h|h;exact aT i h;rw[h];exact aj⟩)
   ·try simp only[B] at ah
    refine wp_exit<|aF<|aF<|aY<|aG<|sr ?_
    refine hs.o (.bd iC aZ.nil) fun hs=>?_
    refine hs.sb 0 fun hs=>?_
    refine nn<|wp_ret ?_
    refine hs.ret rfl (.cons (.s 0 gj rfl rfl (by first|rfl|assumption)) aU.nil) ?_
    exact(by rw[HA (by omega) aT];rfl)
set_option maxHeartbeats 4000000 in
theorem Ct (l:List ar) (d:ar) (hl:bT l=true) (hd:jq d=true):
 Fn Tryz.prog 106 [bl l,d.av] (bl (gl l d)):=by
 refine Fn.intro 85 Tryz.func106 rfl Tryz.ntmps106 rfl (by kernel_rfl) (fun W I a hs=>?_)
 have wB:=gm hl
 have yL:=PX d
 refine sr<|hs.box rfl .tt fun b3 I a w hs=>?_
 refine ai fun I a w hs=>?_
 refine hs.o (.cl (oB ..)) fun hs=>?_
 refine aB fun I a w hs=>?_
 refine hs.q .F (.li [_] fU (.u .nil)) fun hs=>?_
 refine hs.q .F (.cl (oB [d])) fun hs=>?_
 refine ai fun I a w hs=>?_
 refine nn ?_
 refine hs.cd (fun ae=>?_) fun ae=>?_
 ·exfalso;rw[hl,yL,hd] at ae;cases ae
  skip
 ·skip
  refine wp_skip<|aG<|sr ?_
  refine hs.cT rfl bA bk (by decide) fun H5 I a w hs=>?_
  refine aB fun I a w hs=>?_
  refine nn<|wp_block ?_
  refine St.lo (σ:=Nat×Bool×List ar×Value×ar) (run 3 5 (run 59 19 [])) ⟨fun⟨k,done,out,v,e⟩=>[(7,AV.int k),(6,AV.bool done),(5,AV.val v)],fun⟨k,done,out,v,e⟩=>[Own.box b3 97 e.cells,Own.row v 97 3 (out.map ar.cells)],fun⟨k,done,out,v,e⟩=>jd l d k done out∧e.key=d.key∧(done=false→e=d)⟩ (fun⟨k,done,out,v,e⟩=>l.length-k) (0,false,[],.slice (some ⟨H5,0,none⟩) 0 0,d) hs ?aN ?aO
  case aN=>exact⟨jd.zero l d,rfl,fun _=>rfl⟩
  case aO=>
   rintro⟨k,done,out,v,e⟩ I a w al hs
   obtain⟨hp,ui,wC⟩:=al
   have hk:=hp.hk
   have gf:=hp.len
   have nr:done.toNat≤1:=by cases done<;>simp
   dsimp only at hs
   refine aJ fun I a w hs=>?_
   refine nn ?_
   refine hs.cd (fun ah=>?_) fun ah=>?_
   ·try simp only[B] at ah
    refine az fun I a w hs=>?_
    refine aG ?_
    refine hs.cd (fun aj=>?_) fun aj=>?_
    ·try simp only[B] at aj
     refine wp_seq<|wp_seq<|hs.dk ?_
     refine mK ?_
     refine .q .T (AE 0 gj .ag rfl rfl rfl) ?_
     refine eK ?_
     refine .q .T (.cl (tW ..)) ?_
     refine bz ?_
     refine .nil ?_
     intro I a w hs
     refine aG ?_
     refine hs.cd (fun aI=>?_) fun aI=>?_
     ·try simp only[B] at aI
      refine dq fun I a w hs=>?_
      refine hs.o (.li [(ab l k).cells] fU (.u .nil)) fun hs=>?_
      refine hs.append 1 rfl bA bk rfl .tt .r rfl (by simp;omega) fun Cu a w hs=>?_
      rw[ck] at hs
      refine aB fun I a w hs=>?_
      refine aG ?_
      refine hs.cd (fun aL=>?_) fun aL=>?_
      ·exfalso;simp at aL
       skip
      ·try simp only[B] at aL
       refine aB fun I a w hs=>?_
       refine nn ?_
       exact hs.ag (k+1,true,out++[ab l k],Cu,ab l k) (by obtain⟨h1,h2⟩:=aj;obtain rfl:=wC h1;subst h1;have h:=(hp.same hl ah aI.1).2;rw[←Ht _ _ aI.1,if_pos aI.2] at h;exact⟨h,aI.1,fun h=>by cases h⟩)
     ·try simp only[B] at aI
      refine ai fun I a w hs=>?_
      refine hs.o (.li [e.cells] fU (.u .nil)) fun hs=>?_
      refine hs.append 1 rfl bA bk rfl .tt .r rfl (by simp;omega) fun Cu a w hs=>?_
      rw[ck] at hs
      refine aB fun I a w hs=>?_
      refine aG ?_
      refine hs.cd (fun bf=>?_) fun bf=>?_
      ·try simp only[B] at bf
       refine aW fun I a w hs=>?_
       refine hs.o (.li [(ab l k).cells] fU (.u .nil)) fun hs=>?_
       refine hs.append 1 rfl bA bk rfl .tt .r rfl (by simp;omega) fun Cv a w hs=>?_
       rw[ck] at hs
       refine aJ fun I a w hs=>?_
       refine nn ?_
       exact hs.ag (k+1,true,(out++[e])++[ab l k],Cv,e) (by obtain⟨h1,h2⟩:=aj;obtain rfl:=wC h1;subst h1;exact⟨hp.before hl ah (by omega),rfl,fun h=>by cases h⟩)
      ·try simp only[B] at bf
       refine aB fun I a w hs=>?_
       refine nn ?_
       exact hs.ag (k+1,true,out++[e],Cu,e) (by obtain⟨h1,h2⟩:=aj;obtain rfl:=wC h1;subst h1;have h:=(hp.same hl ah bf).2;rw[←Ht _ _ bf,if_neg (by rcases aI with h4|h4;exact absurd bf h4;rw[h4];simp)] at h;exact⟨h,rfl,fun h=>by cases h⟩)
    ·try simp only[B] at aj
     refine az fun I a w hs=>?_
     refine aG ?_
     refine hs.cd (fun aX=>?_) fun aX=>?_
     ·try simp only[B] at aX
      refine aW fun I a w hs=>?_
      refine hs.o (.li [(ab l k).cells] fU (.u .nil)) fun hs=>?_
      refine hs.append 1 rfl bA bk rfl .tt .r rfl (by simp;omega) fun Cv a w hs=>?_
      rw[ck] at hs
      refine aJ fun I a w hs=>?_
      refine nn ?_
      exact hs.ag (k+1,done,out++[ab l k],Cv,e) (⟨hp.step ah (by omega) fun hd=>by(rcases aj with h|h;(rw[hd] at h;cases h);omega),ui,wC⟩)
     ·exfalso;simp only[bne_eq_false_iff_eq] at aX;rcases aj with h|h;(have:=hp.late h k (Nat.le_refl _) ah;omega);omega
      skip
   ·try simp only[B] at ah
    refine wp_exit<|aF<|aF<|aY ?_
    refine ai fun I a w hs=>?_
    refine nn ?_
    refine hs.cd (fun bU=>?_) fun bU=>?_
    ·try simp only[B] at bU
     refine ai fun I a w hs=>?_
     refine hs.o (.li [e.cells] fU (.u .nil)) fun hs=>?_
     refine hs.append 1 rfl bA bk rfl .tt .r rfl (by simp;omega) fun H6 a w hs=>?_
     rw[ck] at hs
     refine aB fun I a w hs=>?_
     refine nn<|wp_ret ?_
     obtain⟨I,hs⟩:=hs.fr 1 4
     refine hs.rt ?_
     exact congrArg (AV.rows 3) (by obtain rfl:=wC bU;subst bU;exact hp.p4 (by omega)▸rfl)
    ·try simp only[B] at bU
     refine ai fun I a w hs=>?_
     refine nn<|wp_ret ?_
     obtain⟨I,hs⟩:=hs.fr 1 4
     refine hs.rt ?_
     exact congrArg (AV.rows 3) (by subst bU;rw[hp.pZ (by omega)])
theorem Cw (x y:List ar) (hx:bT x=true) (hy:bT y=true):
 Fn Tryz.prog 205 [bl x,bl y] (bl (iE x y)):=by
 refine Fn.intro 32 Tryz.func205 rfl Tryz.ntmps205 rfl (by kernel_rfl) (fun W I a hs=>?_)
 have wB:=gm hx
 have Qc:=gm hy
 refine ai fun I a w hs=>?_
 refine hs.o (.cl (oB ..)) fun hs=>?_
 refine aB fun I a w hs=>?_
 refine hs.q .F (.cl (oB ..)) fun hs=>?_
 refine ai fun I a w hs=>?_
 refine nn ?_
 refine hs.cd (fun ae=>?_) fun ae=>?_
 ·exfalso;rw[hx,hy] at ae;cases ae
  skip
 ·skip
  refine wp_skip<|aG<|sr ?_
  refine hs.cT rfl bA bk (by decide) fun wD I a w hs=>?_
  refine hs.m fun hs=>?_
  refine hs.append 0 rfl bA bk rfl .tt .r rfl (by simp;omega) fun H7 a w hs=>?_
  obtain⟨I,hs⟩:=hs.fr 0 18
  have hs:=hs.drop 0
  refine ai fun I a w hs=>?_
  refine nn<|wp_block ?_
  refine St.lo (σ:=Nat) (run 2 5 (run 12 19 [])) ⟨fun k=>[(6,AV.int k),(5,bl (iE x (y.take k)))],fun k=>[],fun k=>k≤y.length⟩ (fun k=>y.length-k) 0 hs ?aN ?aO
  case aN=>exact Nat.zero_le _
  case aO=>
   rintro k I a w al hs
   have hk:k≤y.length:=al
   refine aJ fun I a w hs=>?_
   refine nn ?_
   refine hs.cd (fun ah=>?_) fun ah=>?_
   ·try simp only[B] at ah
    refine aW fun I a w hs=>?_
    refine hs.o (.cl (Ct _ _ (Hw hx hy k) (nG hy (bx ah)))) fun hs=>?_
    refine aJ fun I a w hs=>?_
    refine nn ?_
    refine hs.again (k+1) ?gS ?gT (by rfl) ?gU (by repeat(first|exact Env.le_rfl|refine Env.ie rfl ?_))
    case gS=>omega
    case gT=>exact ah
    case gU=>exact(Env.dI rfl (by rfl) (Env.dI rfl (by exact congrArg bl (by rw[Hv ah])) Env.le_nil))
   ·try simp only[B] at ah
    refine wp_exit<|aF<|aF<|aY ?_
    refine ai fun I a w hs=>?_
    refine nn<|wp_ret ?_
    refine hs.rt ?_
    exact congrArg bl (by rw[List.take_of_length_le (by omega)])
end Go.Proofs.YtoeioeimmfpefaaGreat

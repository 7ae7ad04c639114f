/- Part 33: rules of the proofs, contracts of functions, plain facts. -/
import Derived.Test.YtoeioeimmfpefaaGreatP27
import Derived.Test.YtoeioeimmfpefaaGreatP31
set_option linter.unusedVariables false
set_option linter.unusedSimpArgs false
set_option maxRecDepth 100000
set_option maxHeartbeats 4000000
namespace Go.Proofs.YtoeioeimmfpefaaGreat
open Go Go.RowKit
attribute [local irreducible] wpList Code.wp Ok
def Call.uv (q:Call) (g n:Value):AV:=.agg [AV.int q.aC,AV.int q.num,AV.int q.kind,gh q.keys,AV.int q.val,bl q.ctx,AV.int q.bm,AV.int q.end_,AV.bool q.over,AV.int q.aA.time,AV.int q.aA.site,.val g,.val n]
def Call.uN (q:Call) (n:Value):AV:=.agg [AV.int q.aC,AV.int q.num,AV.int q.kind,gh q.keys,AV.int q.val,bl q.ctx,AV.int q.bm,AV.int q.end_,AV.bool q.over,AV.int q.aA.time,AV.int q.aA.site,oq q.ax,.val n]
def Call.TC (q:Call) (g:Value):AV:=.agg [AV.int q.aC,AV.int q.num,AV.int q.kind,gh q.keys,AV.int q.val,bl q.ctx,AV.int q.bm,AV.int q.end_,AV.bool q.over,AV.int q.aA.time,AV.int q.aA.site,.val g,bl q.aM]
theorem dK.lens {q:Call} {t:Int} (h:dK q t):1≤q.keys.length∧q.keys.length≤3∧q.ctx.length≤6∧q.aM.length≤6∧q.ax.length≤3∧∀a∈q.ax,a.bG.aS.length≤6:=by
 have h1:=h.keys
 have hu:jr q.keys=true:=by simp only[gQ,Bool.and_eq_true] at h1;exact h1.1
 have h2:1≤q.keys.length∧q.keys.length≤3:=by
  simp only[gQ,Bool.and_eq_true,Bool.or_eq_true,aQ,beq_iff_eq,decide_eq_true_eq] at h1;omega
 have h3:q.ax.length≤q.keys.length:=Ck hu (Jg.2 ⟨h.has,h.sorted,h.eD⟩)
 exact⟨h2.1,h2.2,gm h.ctx,gm h.aM,by omega,fun a ha=>gm (p9 (h.eD a ha))⟩
theorem dK.small {q:Call} {t:Int} (h:dK q t):ur q:=by
 have:=h.lens
 exact⟨by omega,by omega,by omega,fun a ha=>(by have:=this.2.2.2.2.2 a ha;omega),by omega⟩
theorem TD (q:Call) (m:aD) {j:Nat} (hj:j<2):ab (iH q m) j={m with bc:=10+q.aC,to:=2*q.aC+(j:Int),call:=q.num}:=by
 match j,hj with
 |0,_=>show _={m with bc:=10+q.aC,to:=2*q.aC+(0:Int),call:=q.num};rw[Int.add_zero];rfl
 |1,_=>rfl
theorem Ko (q:Call) (m:aD) {j:Nat} (hj:j<2):(iH q m).take j++[{m with bc:=10+q.aC,to:=2*q.aC+(j:Int),call:=q.num}]=(iH q m).take (j+1):=by
 rw[←TD q m hj,←dL hj]
set_option maxHeartbeats 4000000 in
theorem DF (q:Call) (h:ur q):
 Fn Tryz.prog 97 [q.av] (q.av):=by
 refine Fn.intro 45 Tryz.func97 rfl Tryz.ntmps97 rfl (by kernel_rfl) (fun W I a hs=>?_)
 obtain⟨h1,h2,h4,h5,h3⟩:=h
 refine sr<|hs.box rfl .tt fun b1 I a w hs=>hs.alloc rfl cy iP fun b2 I a w hs=>nn<|sr ?_
 refine hs.cT rfl il fT (by decide) fun b6 I a w hs=>?_
 refine ai fun I a w hs=>?_
 refine hs.append 2 rfl il fT rfl .tt .r rfl (by simp;omega) fun v9 a w hs=>?_
 obtain⟨I,hs⟩:=hs.fr 2 9
 refine ai fun I a w hs=>?_
 refine nn<|sr ?_
 refine hs.cT rfl bA bk (by decide) fun kd I a w hs=>?_
 refine ai fun I a w hs=>?_
 refine hs.append 3 rfl bA bk rfl .tt .r rfl (by simp;omega) fun jY a w hs=>?_
 obtain⟨I,hs⟩:=hs.fr 3 14
 refine ai fun I a w hs=>?_
 refine nn<|sr ?_
 refine hs.cT rfl bA bk (by decide) fun wD I a w hs=>?_
 refine ai fun I a w hs=>?_
 refine hs.append 4 rfl bA bk rfl .tt .r rfl (by simp;omega) fun nU a w hs=>?_
 obtain⟨I,hs⟩:=hs.fr 4 19
 refine ai fun I a w hs=>?_
 refine nn<|sr ?_
 refine hs.cT rfl ef dC (by decide) fun wQ I a w hs=>?_
 refine ai fun I a w hs=>?_
 refine nn<|wp_block ?_
 refine St.lo (σ:=Nat×Value) (run 3 3 (run 20 22 [])) ⟨fun⟨k,v⟩=>[(4,AV.int k),(3,AV.val v)],fun⟨k,v⟩=>[Own.box b1 51 q.cells,Own.box b2 51 [AV.val (.int .i64 0),AV.val (.int .i64 0),AV.val (.int .i64 0),AV.rows 1 [],AV.val (.int .i64 0),AV.rows 3 [],AV.val (.int .i64 0),AV.val (.int .i64 0),AV.val (.bool false),AV.val (.int .i64 0),AV.val (.int .i64 0),AV.rows 9 [],AV.rows 3 []],Own.gone,Own.gone,Own.gone,Own.row v 121 9 ((q.ax.take k).map Answer.cells)],fun⟨k,v⟩=>k≤q.ax.length⟩ (fun⟨k,v⟩=>q.ax.length-k) (0,.slice (some ⟨wQ,0,none⟩) 0 0) hs ?aN ?aO
 case aN=>exact Nat.zero_le _
 case aO=>
  rintro⟨k,v⟩ I a w al hs
  have hk:k≤q.ax.length:=al
  dsimp only at hs
  refine aW fun I a w hs=>?_
  refine nn ?_
  refine hs.cd (fun ae=>?_) fun ae=>?_
  ·try simp only[B] at ae
   refine aW fun I a w hs=>?_
   refine hs.alloc rfl dC mL fun b5 I a w hs=>?_
   refine aB fun I a w hs=>?_
   refine hs.o (.c1 (mN _ (h5 _ (bx ae)))) fun hs=>hs.o .fv fun hs=>hs.oi 6 bt .tt .tt rfl rfl rfl fun a w hs=>?_
   refine ai fun I a w hs=>?_
   refine hs.o (.li [(ab q.ax k).cells] qT (.u .nil)) fun hs=>?_
   refine hs.append 5 rfl ef dC rfl .tt .r rfl (by simp;omega) fun zx a w hs=>?_
   rw[ck,←dL ae] at hs
   refine aJ fun I a w hs=>?_
   refine nn ?_
   have hs:=hs.drop 6
   exact hs.ag (k+1,zx) (ae)
  ·try simp only[B] at ae
   refine wp_exit<|aF<|aF<|aY<|aG<|wp_seq ?_
   rw[List.take_of_length_le (by omega)] at hs
   obtain⟨I,hs⟩:=hs.fr 5 3
   refine aW fun I a w hs=>?_
   refine nn<|wp_ret ?_
   refine hs.ret rfl (.cons (.s 1 cy rfl rfl (by first|rfl|assumption)) aU.nil) ?_
   rfl
set_option maxHeartbeats 4000000 in
theorem TE (q:Call) (h:ur q):
 cL Tryz.prog 97 [q.av] [] (fun _:Value×Value=>True) (fun u=>[Own.row u.1 121 9 (q.ax.map Answer.cells),Own.row u.2 97 3 (q.aM.map ar.cells)]) (fun u=>q.uv u.1 u.2):=by
 refine cL.intro 45 Tryz.func97 rfl Tryz.ntmps97 rfl (by kernel_rfl) (fun W I a hs=>?_)
 obtain⟨h1,h2,h4,h5,h3⟩:=h
 refine sr<|hs.box rfl .tt fun b1 I a w hs=>hs.alloc rfl cy iP fun b2 I a w hs=>nn<|sr ?_
 refine hs.cT rfl il fT (by decide) fun b6 I a w hs=>?_
 refine ai fun I a w hs=>?_
 refine hs.append 2 rfl il fT rfl .tt .r rfl (by simp;omega) fun v9 a w hs=>?_
 obtain⟨I,hs⟩:=hs.fr 2 9
 refine hs.o .fv fun hs=>?_
 try have ho9:=hs.dS 2 rfl
 refine hs.s1 0 fun hs=>?_
 refine nn<|sr ?_
 refine hs.cT rfl bA bk (by decide) fun kd I a w hs=>?_
 refine ai fun I a w hs=>?_
 refine hs.append 3 rfl bA bk rfl .tt .r rfl (by simp;omega) fun jY a w hs=>?_
 obtain⟨I,hs⟩:=hs.fr 3 14
 refine hs.o .fv fun hs=>?_
 try have Kp:=hs.dS 3 rfl
 refine hs.s1 0 fun hs=>?_
 refine nn<|sr ?_
 refine hs.cT rfl bA bk (by decide) fun wD I a w hs=>?_
 refine ai fun I a w hs=>?_
 refine hs.append 4 rfl bA bk rfl .tt .r rfl (by simp;omega) fun nU a w hs=>?_
 simp only[List.nil_append] at hs
 refine hs.o .fv fun hs=>?_
 try have QL:=hs.dS 4 rfl
 refine hs.s1 0 fun hs=>?_
 refine nn<|sr ?_
 refine hs.cT rfl ef dC (by decide) fun wQ I a w hs=>?_
 refine ai fun I a w hs=>?_
 refine nn<|wp_block ?_
 refine St.lo (σ:=Nat×Value) (run 3 3 (run 20 22 [])) ⟨fun⟨k,v⟩=>[(4,AV.int k),(3,AV.val v)],fun⟨k,v⟩=>[Own.box b1 51 [AV.int q.aC,AV.int q.num,AV.int q.kind,gh q.keys,AV.int q.val,bl q.ctx,AV.int q.bm,AV.int q.end_,AV.bool q.over,AV.int q.aA.time,AV.int q.aA.site,oq q.ax,AV.val nU],Own.box b2 51 [AV.val (.int .i64 0),AV.val (.int .i64 0),AV.val (.int .i64 0),AV.rows 1 [],AV.val (.int .i64 0),AV.rows 3 [],AV.val (.int .i64 0),AV.val (.int .i64 0),AV.val (.bool false),AV.val (.int .i64 0),AV.val (.int .i64 0),AV.rows 9 [],AV.rows 3 []],Own.gone,Own.gone,Own.row nU 97 3 (q.aM.map ar.cells),Own.row v 121 9 ((q.ax.take k).map Answer.cells)],fun⟨k,v⟩=>k≤q.ax.length⟩ (fun⟨k,v⟩=>q.ax.length-k) (0,.slice (some ⟨wQ,0,none⟩) 0 0) hs ?aN ?aO
 case aN=>exact Nat.zero_le _
 case aO=>
  rintro⟨k,v⟩ I a w al hs
  have hk:k≤q.ax.length:=al
  dsimp only at hs
  refine aW fun I a w hs=>?_
  refine nn ?_
  refine hs.cd (fun ae=>?_) fun ae=>?_
  ·try simp only[B] at ae
   refine aW fun I a w hs=>?_
   refine hs.alloc rfl dC mL fun b5 I a w hs=>?_
   refine aB fun I a w hs=>?_
   refine hs.o (.c1 (mN _ (h5 _ (bx ae)))) fun hs=>hs.o .fv fun hs=>hs.oi 6 bt .tt .tt rfl rfl rfl fun a w hs=>?_
   refine ai fun I a w hs=>?_
   refine hs.o (.li [(ab q.ax k).cells] qT (.u .nil)) fun hs=>?_
   refine hs.append 5 rfl ef dC rfl .tt .r rfl (by simp;omega) fun zx a w hs=>?_
   rw[ck,←dL ae] at hs
   refine aJ fun I a w hs=>?_
   refine nn ?_
   have hs:=hs.drop 6
   exact hs.ag (k+1,zx) (ae)
  ·try simp only[B] at ae
   refine wp_exit<|aF<|aF<|aY<|aG<|wp_seq ?_
   rw[List.take_of_length_le (by omega)] at hs
   refine ai fun I a w hs=>?_
   try have acL:=hs.dS 5 rfl
   refine aB fun I a w hs=>?_
   refine nn<|wp_ret ?_
   exact hs.cP (v,nU) [5,4] rfl (.cons (.s 1 cy rfl rfl (by first|rfl|assumption)) .nil) trivial rfl rfl
set_option maxHeartbeats 4000000 in
theorem DG (q:Call) (m:aD) (hc:eC q.aC=true) (hm:iV m):
 Fn Tryz.prog 177 [q.av,m.av] (bj (iH q m)):=by
 refine Fn.intro 31 Tryz.func177 rfl Tryz.ntmps177 rfl (by kernel_rfl) (fun W I a hs=>?_)
 have bB:=qp.1 hc
 refine az fun I a w hs=>?_
 refine hs.box rfl .tt fun b3 I a w hs=>hs.sc fun hs=>nn<|sr ?_
 refine hs.cT rfl dh cj (by decide) fun b7 I a w hs=>?_
 refine ai fun I a w hs=>?_
 refine nn<|wp_block ?_
 refine St.lo (σ:=Nat×Int×Int×Int×Value) (run 2 5 (run 22 8 [])) ⟨fun⟨j,f1,f2,f3,v⟩=>[(6,AV.int j),(5,AV.val v)],fun⟨j,f1,f2,f3,v⟩=>[Own.box b3 74 ({m with bc:=f1,to:=f2,call:=f3}:aD).cells,Own.row v 74 15 (((iH q m).take j).map aD.cells)],fun⟨j,f1,f2,f3,v⟩=>j≤2⟩ (fun⟨j,f1,f2,f3,v⟩=>2-j) (0,m.bc,m.to,m.call,.slice (some ⟨b7,0,none⟩) 0 0) hs ?aN ?aO
 case aN=>exact Nat.zero_le _
 case aO=>
  rintro⟨j,f1,f2,f3,v⟩ I a w al hs
  have hj:j≤2:=al
  dsimp only at hs
  refine ai fun I a w hs=>?_
  refine nn ?_
  refine hs.cd (fun ae=>?_) fun ae=>?_
  ·try simp only[B] at ae
   refine dq fun I a w hs=>?_
   refine hs.o (mz .c .tt (fun _=>by omega)) fun hs=>?_
   refine kq fun I a w hs=>?_
   refine hs.o (.c1 (IE {m with bc:=10+q.aC,to:=2*q.aC+(j:Int),call:=q.num} hm)) fun hs=>?_
   refine hs.o (.li [({m with bc:=10+q.aC,to:=2*q.aC+(j:Int),call:=q.num}:aD).cells] fF (.u .nil)) fun hs=>?_
   refine hs.append 1 rfl dh cj rfl .tt .r rfl (by simp[iH];omega) fun uq a w hs=>?_
   rw[ck,Ko q m (by omega)] at hs
   refine aJ fun I a w hs=>?_
   refine nn ?_
   exact hs.ag (j+1,10+q.aC,2*q.aC+(j:Int),q.num,uq) (by show j+1≤2;omega)
  ·try simp only[B] at ae
   refine wp_exit<|aF<|aF<|aY<|aG<|wp_seq ?_
   rw[List.take_of_length_le (by show 2≤j;omega)] at hs
   obtain⟨I,hs⟩:=hs.fr 1 5
   refine ai fun I a w hs=>?_
   refine nn<|wp_ret ?_
   refine hs.rt ?_
   rfl
def te (key:Int):aD:={bP with kind:=3,key:=key}
def tf (d:ar):aD:={bP with kind:=3,key:=d.key,aA:=d.aA}
def m8 (q:Call) (k:Nat):List aD:=(((q.keys.take k).filter fun k=>decide (cz q k<0)).map fun key=>iH q (te key)).flatten
def oW (q:Call) (k:Nat):List aD:=m8 q q.keys.length++((q.aM.take k).map fun d=>iH q (tf d)).flatten
theorem Kq {q:Call} {k:Nat} (h:k<q.keys.length) (hg:cz q (ab q.keys k)<0):m8 q k++iH q (te (ab q.keys k))=m8 q (k+1):=by
 unfold m8;rw[lC h (by simpa using hg),List.map_append,List.flatten_append];simp
theorem Kr {q:Call} {k:Nat} (h:k<q.keys.length) (hg:¬cz q (ab q.keys k)<0):m8 q k=m8 q (k+1):=by
 unfold m8;rw[lD h (by simpa using hg)]
theorem TF {q:Call} {k:Nat} (h:k=q.keys.length):m8 q k=oW q 0:=by subst h;simp[oW]
theorem Ks {q:Call} {k:Nat} (h:k<q.aM.length):oW q k++iH q (tf (ab q.aM k))=oW q (k+1):=by
 unfold oW;rw[dL h,List.map_append,List.flatten_append,List.append_assoc];simp
theorem DH (q:Call):∀k,k≤q.keys.length→(m8 q k).length≤2*k
 |0,_=>by simp[m8]
 |k+1,h=>by
  have ih:=DH q k (by omega)
  by_cases hg:cz q (ab q.keys k)<0
  ·rw[←Kq (by omega) hg,List.length_append];show _+2≤_;omega
  ·rw[←Kr (by omega) hg];omega
theorem Kt (q:Call):∀k,k≤q.aM.length→(oW q k).length≤2*q.keys.length+2*k
 |0,_=>by have:=DH q q.keys.length (Nat.le_refl _);simp[oW];omega
 |k+1,h=>by
  have ih:=Kt q k (by omega)
  rw[←Ks (by omega),List.length_append];show _+2≤_;omega
theorem TG {q:Call} {k:Nat} (hw:gG q=true) (hk:¬q.kind=1) (h:q.aM.length≤k):oW q k=iv q:=by
 unfold iv asks oW m8
 rw[if_pos hw,if_neg hk,List.take_length,List.take_of_length_le h,List.map_append,List.flatten_append,List.map_map,List.map_map]
 rfl
theorem Ku {q:Call} {t:Int} (h:eL q (q.bm+q.end_)=true) (he:0≤q.end_):(!eL q (q.bm+q.end_)||decide (0<q.end_)||q.over)=!gG q:=by
 rw[h]
 unfold gG
 have e:decide (0<q.end_)=!(q.end_==0):=by rw[Bool.eq_iff_iff];simp;omega
 rw[e];simp
theorem dK.xi {q:Call} {t:Int} (h:dK q t) (ht:0≤t):0≤q.end_∧q.end_≤t:=by
 by_cases he:q.end_=0
 ·omega
 ·have:=h.ended he;have:=h.bm;omega
theorem Kv {m:aD} (h1:m.aS=[]) (h2:m.aq=[]) (h3:m.waits=[]) (h4:m.aH=[]):iV m:=by
 unfold iV;rw[h1,h2,h3,h4];simp[rr]
theorem Kw (key:Int):iV (te key):=Kv rfl rfl rfl rfl
theorem Kx (d:ar):iV (tf d):=Kv rfl rfl rfl rfl
set_option maxHeartbeats 4000000 in
theorem TH (q:Call) (t:Int) (h:dK q t) (ht:t≤1000000):
 Fn Tryz.prog 146 [q.av] (bj (iv q)):=by
 refine Fn.intro 89 Tryz.func146 rfl Tryz.ntmps146 rfl (by kernel_rfl) (fun W I a hs=>?_)
 have hb:=h.bm
 have tg:=h.xi (by omega)
 have m9:=h.lens
 have ep:=Cr (oO.2 h)
 refine ai fun I a w hs=>?_
 refine nn<|sr ?_
 refine hs.cT rfl dh cj (by decide) fun b6 I a w hs=>?_
 refine dq fun I a w hs=>?_
 refine hs.o (cI (yQ q (q.bm+q.end_) (by omega) (by omega)) (aw (.t rfl) (aw (.t rfl) aP))) fun hs=>?_
 refine kq fun I a w hs=>?_
 refine nn ?_
 refine hs.cd (fun ae=>?_) fun ae=>?_
 ·rw[Ku (t:=t) ep tg.1] at ae;replace ae:=nt ae
  refine ai fun I a w hs=>?_
  refine nn<|wp_ret<|aE ?_
  obtain⟨I,hs⟩:=hs.fr 0 2
  refine hs.rt ?_
  exact(by unfold iv;rw[ae];rfl)
 ·rw[Ku (t:=t) ep tg.1] at ae;replace ae:=nf ae
  refine aB fun I a w hs=>?_
  refine nn ?_
  refine hs.cd (fun ah=>?_) fun ah=>?_
  ·try simp only[B] at ah
   refine wp_seq<|hs.dk ?_
   refine tQ ?_
   refine .o (.bd dB (.k (.k (.k (.k aZ.nil))))) ?_
   refine .o (.c2 (DG q {bP with kind:=1,key:=ab q.keys 0,val:=q.val,aS:=q.ctx} h.aC ⟨by show q.ctx.length≤_;omega,by simp[rr,bP],by simp[rr,bP],by simp[bP]⟩)) ?_
   refine bz ?_
   refine .nil ?_
   intro I a w hs
   refine aG<|wp_ret<|aE ?_
   refine hs.rt ?_
   exact(by unfold iv asks;rw[ae,if_pos rfl,if_pos ah];rfl)
  ·try simp only[B] at ah
   refine az fun I a w hs=>?_
   refine nn<|wp_block ?_
   refine St.lo (σ:=Nat×Value) (run 2 3 (run 25 39 [])) ⟨fun⟨k,v⟩=>[(4,AV.int k),(3,AV.val v)],fun⟨k,v⟩=>[Own.row v 74 15 ((m8 q k).map aD.cells)],fun⟨k,v⟩=>k≤q.keys.length⟩ (fun⟨k,v⟩=>q.keys.length-k) (0,.slice (some ⟨b6,0,none⟩) 0 0) hs ?aN ?aO
   case aN=>exact Nat.zero_le _
   case aO=>
    rintro⟨k,v⟩ I a w al hs
    have hk:k≤q.keys.length:=al
    dsimp only at hs
    refine aW fun I a w hs=>?_
    refine nn ?_
    refine hs.cd (fun aj=>?_) fun aj=>?_
    ·try simp only[B] at aj
     refine wp_skip<|aG<|wp_seq<|wp_block<|wp_seq<|hs.dk ?_
     refine fP ?_
     refine .o (.c2 (yM ..)) ?_
     refine bz ?_
     refine .nil ?_
     intro I a w hs
     refine aG ?_
     refine hs.cd (fun aI=>?_) fun aI=>?_
     ·try simp only[B] at aI
      refine hs.dp 9 (by kernel_rfl) (by kernel_rfl) (by kernel_rfl) ?_
      simp only[List.take_succ_cons,List.take_zero,List.drop_succ_cons,List.drop_zero]
      refine jS ?_
      refine .o (.bd dB (.k (.k aZ.nil))) ?_
      refine .o (.c2 (DG q (te (ab q.keys k)) h.aC (Kw _)))<|.nil ?_
      intro I a w hs
      refine hs.append 0 rfl dh cj rfl .tt .r rfl (by have:=DH q k hk;simp[iH];omega) fun TI a w hs=>?_
      rw[←List.map_append,Kq aj (by simpa using aI)] at hs
      refine aJ fun I a w hs=>?_
      refine nn ?_
      exact hs.ag (k+1,TI) (aj)
     ·try simp only[B] at aI
      refine aB fun I a w hs=>?_
      refine nn ?_
      rw[Kr aj (by simpa using aI)] at hs
      exact hs.ag (k+1,v) (aj)
    ·try simp only[B] at aj
     refine wp_exit<|aF<|aF<|aY<|aG<|wp_seq<|wp_seq ?_
     rw[TF (by omega)] at hs
     refine az fun I a w hs=>?_
     refine nn<|wp_block ?_
     refine St.lo (σ:=Nat×Value) (3::(5::(run 24 64 []))) ⟨fun⟨j,v⟩=>[(5,AV.int j),(3,AV.val v)],fun⟨j,v⟩=>[Own.row v 74 15 ((oW q j).map aD.cells)],fun⟨j,v⟩=>j≤q.aM.length⟩ (fun⟨j,v⟩=>q.aM.length-j) (0,v) hs ?dT ?dU
     case dT=>exact Nat.zero_le _
     case dU=>
      rintro⟨j,v⟩ I a w al hs
      have hj:j≤q.aM.length:=al
      dsimp only at hs
      refine aW fun I a w hs=>?_
      refine nn ?_
      refine hs.cd (fun aL=>?_) fun aL=>?_
      ·try simp only[B] at aL
       refine wp_skip<|aG<|wp_seq<|wp_block ?_
       refine hs.dp 16 (by kernel_rfl) (by kernel_rfl) (by kernel_rfl) ?_
       simp only[List.take_succ_cons,List.take_zero,List.drop_succ_cons,List.drop_zero]
       refine pT ?_
       refine .o (.bd dB (.k (.k (.t aZ.nil)))) ?_
       refine .o (.c2 (DG q (tf (ab q.aM j)) h.aC (Kx _)))<|.nil ?_
       intro I a w hs
       refine hs.append 0 rfl dh cj rfl .tt .r rfl (by have:=Kt q j hj;simp[iH];omega) fun CR a w hs=>?_
       rw[←List.map_append,Ks aL] at hs
       refine aJ fun I a w hs=>?_
       refine nn ?_
       exact hs.ag (j+1,CR) (aL)
      ·try simp only[B] at aL
       refine wp_exit<|aF<|aF<|aY<|aG<|wp_seq ?_
       rw[TG ae (by simpa using ah) (by omega)] at hs
       obtain⟨I,hs⟩:=hs.fr 0 3
       refine ai fun I a w hs=>?_
       refine nn<|wp_ret ?_
       refine hs.rt ?_
       rfl
def na (q:Call) (k:Nat):List aD:=((q.keys.take k).filter fun k=>decide (cz q k<0)).map te
def oX (q:Call) (k:Nat):List aD:=na q q.keys.length++(q.aM.take k).map tf
def mw (q:Call) (k:Nat):List aD:=(((asks q).take k).map (iH q)).flatten
theorem Ky {q:Call} {k:Nat} (h:k<q.keys.length) (hg:cz q (ab q.keys k)<0):na q k++[te (ab q.keys k)]=na q (k+1):=by
 unfold na;rw[lC h (by simpa using hg),List.map_append];rfl
theorem Kz {q:Call} {k:Nat} (h:k<q.keys.length) (hg:¬cz q (ab q.keys k)<0):na q k=na q (k+1):=by
 unfold na;rw[lD h (by simpa using hg)]
theorem DI (q:Call):∀k,k≤q.keys.length→(na q k).length≤k
 |0,_=>by simp[na]
 |k+1,h=>by
  have ih:=DI q k (by omega)
  by_cases hg:cz q (ab q.keys k)<0
  ·rw[←Ky (by omega) hg,List.length_append];show _+1≤_;omega
  ·rw[←Kz (by omega) hg];omega
theorem TJ {q:Call} {k:Nat} (h:k=q.keys.length):na q k=oX q 0:=by subst h;simp[oX]
theorem TK {q:Call} {k:Nat} (h:k<q.aM.length):oX q k++[tf (ab q.aM k)]=oX q (k+1):=by
 unfold oX;rw[dL h,List.map_append,List.append_assoc];rfl
theorem KA (q:Call) (k:Nat):(oX q k).length≤q.keys.length+q.aM.length:=by
 have:=DI q _ (Nat.le_refl _)
 unfold oX;rw[List.length_append,List.length_map,List.length_take];omega
theorem DJ {q:Call} {k:Nat} (hk:¬q.kind=1) (h:q.aM.length≤k):oX q k=asks q:=by
 unfold asks oX na
 rw[if_neg hk,List.take_length,List.take_of_length_le h];rfl
theorem DK {q:Call}:(asks q).length≤q.keys.length+q.aM.length+1:=by
 by_cases hk:q.kind=1
 ·unfold asks;rw[if_pos hk];simp
 ·rw[←DJ hk (Nat.le_refl _)];have:=KA q q.aM.length;omega
theorem TL {q:Call} (h:q.ctx.length≤1048576):∀m∈asks q,iV m:=by
 intro m hm
 unfold asks at hm
 split at hm
 ·obtain rfl:=List.mem_singleton.1 hm
  exact⟨h,⟨Nat.zero_le _,fun _ h=>by cases h⟩,⟨Nat.zero_le _,fun _ h=>by cases h⟩,Nat.zero_le _⟩
 ·rcases List.mem_append.1 hm with hm|hm
  ·obtain⟨k,_,rfl⟩:=List.mem_map.1 hm;exact Kw k
  ·obtain⟨d,_,rfl⟩:=List.mem_map.1 hm;exact Kx d
theorem DL (q:Call):∀k,k≤(asks q).length→(mw q k).length=2*k
 |0,_=>by simp[mw]
 |k+1,h=>by
  have ih:=DL q k (by omega)
  unfold mw at ih⊢
  rw[dL (by omega),List.map_append,List.flatten_append,List.length_append,ih];rfl
theorem TM {q:Call} {k i:Nat} (h:k<(asks q).length) (hi:2≤i):mw q k++(iH q (ab (asks q) k)).take i=mw q (k+1):=by
 unfold mw
 rw[List.take_of_length_le (l:=iH _ _) (by simpa[iH] using hi),dL h,List.map_append,List.flatten_append];simp
theorem KB {q:Call} {k:Nat} (hw:gG q=true) (h:(asks q).length≤k):mw q k=iv q:=by
 unfold mw iv;rw[if_pos hw,List.take_of_length_le h]
theorem KC {q:Call} {t:Int} (h:dK q t) (ht:0≤t):(!eL q q.bm||!gG q)=!gG q:=by
 cases hw:gG q
 ·simp
 ·have he:=(sZ hw).1
  have:=Cr (oO.2 h)
  rw[he,Int.add_zero] at this
  rw[this];rfl
theorem DM (q:Call):
 Fn Tryz.prog 167 [q.av] (AV.bool (gG q)):=by
 refine Fn.intro 11 Tryz.func167 rfl Tryz.ntmps167 rfl (by kernel_rfl) (fun W I a hs=>?_)
 refine qR fun I a w hs=>?_
 refine nn<|wp_ret ?_
 refine hs.rt ?_
 exact bM (by unfold gG;rfl)
set_option maxHeartbeats 4000000 in
theorem TO (q:Call) (t:Int) (h:dK q t) (ht:t≤1000000):
 Fn Tryz.prog 134 [q.av] (bj (iv q)):=by
 refine Fn.intro 103 Tryz.func134 rfl Tryz.ntmps134 rfl (by kernel_rfl) (fun W I a hs=>?_)
 have hs:=hs.fi (sz:=15) 74
 have hs:=hs.fi (sz:=15) 74
 have hb:=h.bm
 have tg:=h.xi (by omega)
 have m9:=h.lens
 have hal:=DK (q:=q)
 have bB:=qp.1 h.aC
 refine aW fun I a w hs=>?_
 refine hs.o (cI (Cz q q.bm (by omega)) (aw (.t rfl) (aw (.t rfl) aP))) fun hs=>?_
 refine aB fun I a w hs=>?_
 refine hs.q .F (.cl (DM ..)) fun hs=>?_
 refine ai fun I a w hs=>?_
 refine nn ?_
 refine hs.cd (fun ae=>?_) fun ae=>?_
 ·rw[KC h (by omega)] at ae;replace ae:=nt ae
  refine az fun I a w hs=>?_
  refine nn<|wp_ret<|aE<|hs.ret rfl (.cons (.nil (sz:=15) rfl) aU.nil) ?_
  exact(by unfold iv;rw[ae];rfl)
 ·rw[KC h (by omega)] at ae;replace ae:=nf ae
  refine az fun I a w hs=>?_
  refine nn ?_
  refine St.cut (σ:=Value) (3::(5::(7::(run 48 22 [])))) ⟨fun v=>[(3,AV.val v)],fun v=>[Own.row v 74 15 ((asks q).map aD.cells),Own.row (.slice none 0 0) 74 15 ([])],fun v=>True⟩ hs ?n6 ?n7
  case n6=>
   refine aB fun I a w hs=>?_
   refine nn ?_
   refine hs.cd (fun ah=>?_) fun ah=>?_
   ·try simp only[B] at ah
    refine hs.dp 11 (by kernel_rfl) (by kernel_rfl) (by kernel_rfl) ?_
    simp only[List.take_succ_cons,List.take_zero,List.drop_succ_cons,List.drop_zero]
    refine tQ ?_
    refine .o (.bd dB (.k (.k (.k (.k aZ.nil))))) ?_
    refine .o (.li [({bP with kind:=1,key:=ab q.keys 0,val:=q.val,aS:=q.ctx}:aD).cells] fF (.u .nil)) ?_
    refine .nil ?_
    intro I a w hs
    refine hs.append 0 rfl dh cj rfl .tt .r rfl (by simp) fun Kk a w hs=>?_
    refine hs.s fun hs=>nn ?_
    first|(rw[show[({bP with kind:=1,key:=ab q.keys 0,val:=q.val,aS:=q.ctx}:aD).cells]=(asks q).map aD.cells from by unfold asks;rw[if_pos ah];rfl] at hs)|rw[DJ ah (by omega)] at hs
    exact hs.me Kk (by trivial)
   ·try simp only[B] at ah
    refine aJ fun I a w hs=>?_
    refine nn<|wp_block ?_
    refine St.lo (σ:=Nat×Value) (3::(5::(run 14 40 []))) ⟨fun⟨k,v⟩=>[(40,AV.int k),(3,AV.val v)],fun⟨k,v⟩=>[Own.row v 74 15 ((na q k).map aD.cells),Own.row (.slice none 0 0) 74 15 ([])],fun⟨k,v⟩=>k≤q.keys.length⟩ (fun⟨k,v⟩=>q.keys.length-k) (0,(.slice none 0 0)) hs ?aN ?aO
    case aN=>exact Nat.zero_le _
    case aO=>
     rintro⟨k,v⟩ I a w al hs
     have hk:k≤q.keys.length:=al
     dsimp only at hs
     refine az fun I a w hs=>?_
     refine nn<|wp_seq ?_
     refine hs.cd (fun aj=>?_) fun aj=>?_
     ·try simp only[B] at aj
      refine aW fun I a w hs=>?_
      refine hs.o (.c2 (Ib q (ab q.keys k))) fun hs=>hs.o .vH fun hs=>nn ?_
      refine hs.cd (fun aI=>?_) fun aI=>?_
      ·try simp only[B] at aI
       refine ai fun I a w hs=>?_
       refine hs.o (.bd dB (.k (.k aZ.nil))) fun hs=>?_
       refine hs.o (.li [(te (ab q.keys k)).cells] fF (.u .nil)) fun hs=>?_
       refine hs.append 0 rfl dh cj rfl .tt .r rfl (by have:=DI q k hk;simp;omega) fun TP a w hs=>?_
       rw[ck,Ky aj (by simpa using aI)] at hs
       refine aB fun I a w hs=>?_
       refine nn ?_
       exact hs.ag (k+1,TP) (aj)
      ·try simp only[B] at aI
       refine ai fun I a w hs=>?_
       refine nn ?_
       rw[Kz aj (by simpa using aI)] at hs
       exact hs.ag (k+1,v) (aj)
     ·try simp only[B] at aj
      refine wp_exit<|aF<|aF<|aY<|aG<|wp_seq ?_
      rw[TJ (by omega)] at hs
      refine aJ fun I a w hs=>?_
      refine nn<|wp_block ?_
      refine St.lo (σ:=Nat×Value) (3::(7::(run 13 57 []))) ⟨fun⟨k,v⟩=>[(57,AV.int k),(3,AV.val v)],fun⟨k,v⟩=>[Own.row v 74 15 ((oX q k).map aD.cells),Own.row (.slice none 0 0) 74 15 ([])],fun⟨k,v⟩=>k≤q.aM.length⟩ (fun⟨k,v⟩=>q.aM.length-k) (0,v) hs ?dT ?dU
      case dT=>exact Nat.zero_le _
      case dU=>
       rintro⟨k,v⟩ I a w al hs
       have hk:k≤q.aM.length:=al
       dsimp only at hs
       refine az fun I a w hs=>?_
       refine nn<|wp_seq ?_
       refine hs.cd (fun aL=>?_) fun aL=>?_
       ·try simp only[B] at aL
        refine ai fun I a w hs=>?_
        refine hs.alloc rfl bk eV fun b7 I a w hs=>?_
        refine hs.sb 2 fun hs=>?_
        obtain⟨I,hs⟩:=hs.fb 2 7
        refine aW fun I a w hs=>?_
        refine hs.o (.bd dB (.k (.k (.t aZ.nil)))) fun hs=>?_
        refine hs.o (.li [(tf (ab q.aM k)).cells] fF (.u .nil)) fun hs=>?_
        refine hs.append 0 rfl dh cj rfl .tt .r rfl (by have:=KA q k;simp;omega) fun Ds a w hs=>?_
        rw[ck,TK aL] at hs
        refine aB fun I a w hs=>?_
        refine nn ?_
        have hs:=hs.drop 2
        exact hs.ag (k+1,Ds) (aL)
       ·try simp only[B] at aL
        refine wp_exit<|aF<|aF<|aY<|aG ?_
        first|(rw[show[({bP with kind:=1,key:=ab q.keys 0,val:=q.val,aS:=q.ctx}:aD).cells]=(asks q).map aD.cells from by unfold asks;rw[if_pos ah];rfl] at hs)|rw[DJ ah (by omega)] at hs
        exact hs.me v (by trivial)
  case n7=>
   rintro v I a w al hs
   refine az fun I a w hs=>?_
   refine nn<|wp_seq<|wp_seq ?_
   obtain⟨I,hs⟩:=hs.fr 0 3
   rw[show([]:List (List AV))=(mw q 0).map aD.cells from rfl] at hs
   refine aB fun I a w hs=>?_
   refine nn<|wp_block ?_
   refine St.lo (σ:=Nat×Value) (8::(run 2 10 (run 30 72 []))) ⟨fun⟨j,u⟩=>[(72,AV.int j),(8,AV.val u)],fun⟨j,u⟩=>[Own.gone,Own.row u 74 15 ((mw q j).map aD.cells)],fun⟨j,u⟩=>j≤(asks q).length⟩ (fun⟨j,u⟩=>(asks q).length-j) (0,(.slice none 0 0)) hs ?iq ?ir
   case iq=>exact Nat.zero_le _
   case ir=>
    rintro⟨j,u⟩ I a w al hs
    have hj:j≤(asks q).length:=al
    dsimp only at hs
    refine az fun I a w hs=>?_
    refine nn<|wp_seq ?_
    refine hs.cd (fun bf=>?_) fun bf=>?_
    ·try simp only[B] at bf
     refine ai fun I a w hs=>?_
     refine hs.alloc rfl cj dB fun kb I a w hs=>?_
     refine hs.sb 2 fun hs=>?_
     refine nn<|wp_seq ?_
     rw[show mw q j=mw q j++(iH q (ab (asks q) j)).take 0 from by simp] at hs
     refine ai fun I a w hs=>?_
     refine hs.o (mz .c .tt (fun _=>by omega)) fun hs=>?_
     refine hs.s fun hs=>nn<|wp_block ?_
     refine St.lo (σ:=Nat×Int×Int×Int×Int×Value) (8::(11::(run 22 79 []))) ⟨fun⟨i,t11,f1,f2,f3,u2⟩=>[(11,AV.int t11),(8,AV.val u2)],fun⟨i,t11,f1,f2,f3,u2⟩=>[Own.gone,Own.row u2 74 15 ((mw q j++(iH q (ab (asks q) j)).take i).map aD.cells),Own.box kb 74 ({(ab (asks q) j) with bc:=f1,to:=f2,call:=f3}:aD).cells],fun⟨i,t11,f1,f2,f3,u2⟩=>i≤2∧t11=2*q.aC+(i:Int)⟩ (fun⟨i,t11,f1,f2,f3,u2⟩=>2-i) (0,2*q.aC,(ab (asks q) j).bc,(ab (asks q) j).to,(ab (asks q) j).call,u) hs ?ta ?tb
     case ta=>exact⟨Nat.zero_le _,by simp⟩
     case tb=>
      rintro⟨i,t11,f1,f2,f3,u2⟩ I a w al hs
      obtain⟨hi,rfl⟩:=al
      dsimp only at hs
      refine aB fun I a w hs=>?_
      refine hs.o (mz .c .tt (fun _=>by omega)) fun hs=>?_
      refine ai fun I a w hs=>?_
      refine nn ?_
      refine hs.cd (fun aX=>?_) fun aX=>?_
      ·try simp only[B] at aX
       refine wp_skip<|aG<|wp_seq<|wp_block<|wp_seq ?_
       refine hs.eT [([],none),([],none),([],none),([],none),([],none),([],none),([],none),([2],some (2,[])),([],none),([2],some (2,[])),([],none),([2],some (2,[]))] (by kernel_rfl) (by kernel_rfl) rfl ?_
       refine jS ?_
       refine aV.gz (x:=AV.any) 2 (fun F W0 I0 I a w Q hs kk=>hs.s1 2 fun hs=>kk _ _ _ hs) ?_
       refine bz ?_
       refine aV.gz (x:=AV.any) 2 (fun F W0 I0 I a w Q hs kk=>hs.s1 2 fun hs=>kk _ _ _ hs) ?_
       refine bz ?_
       refine aV.gz (x:=AV.any) 2 (fun F W0 I0 I a w Q hs kk=>hs.s1 2 fun hs=>kk _ _ _ hs) ?_
       refine .nil ?_
       intro I a w hs
       refine ai fun I a w hs=>?_
       refine hs.o (cI (wT {(ab (asks q) j) with bc:=10+q.aC,to:=2*q.aC+(i:Int),call:=q.num} (show iV (ab (asks q) j) from TL (by omega) _ (bx bf))) (aw (.t rfl) aP)) fun hs=>?_
       refine hs.o (.li [({(ab (asks q) j) with bc:=10+q.aC,to:=2*q.aC+(i:Int),call:=q.num}:aD).cells] fF (.u .nil)) fun hs=>?_
       refine hs.append 1 rfl dh cj rfl .tt .r rfl (by have:=DL q j (by omega);have:=DK (q:=q);simp[iH];omega) fun TQ a w hs=>?_
       rw[ck,List.append_assoc,Ko q _ (by omega)] at hs
       refine aJ fun I a w hs=>?_
       refine nn ?_
       exact hs.ag (i+1,2*q.aC+(i:Int)+1,10+q.aC,2*q.aC+(i:Int),q.num,TQ) (⟨by show i+1≤2;omega,by simp;omega⟩)
      ·try simp only[B] at aX
       refine wp_exit<|aF<|aF<|aY ?_
       refine ai fun I a w hs=>?_
       refine nn ?_
       have hs:=hs.drop 2
       rw[TM bf (by omega)] at hs
       exact hs.ag (j+1,u2) (bf)
    ·try simp only[B] at bf
     refine wp_exit<|aF<|aF<|aY<|aG<|wp_seq ?_
     rw[KB ae (by omega)] at hs
     obtain⟨I,hs⟩:=hs.fr 1 8
     refine ai fun I a w hs=>?_
     refine nn<|wp_ret ?_
     refine hs.rt ?_
     rfl
end Go.Proofs.YtoeioeimmfpefaaGreat

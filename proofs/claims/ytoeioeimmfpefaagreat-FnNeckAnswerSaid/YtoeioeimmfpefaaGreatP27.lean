/- Part 27: rules of the proofs, contracts of functions, plain facts. -/
import Derived.Test.YtoeioeimmfpefaaGreatP26
set_option linter.unusedVariables false
set_option linter.unusedSimpArgs false
set_option maxRecDepth 100000
set_option maxHeartbeats 4000000
namespace Go.Proofs.YtoeioeimmfpefaaGreat
open Go Go.RowKit
attribute [local irreducible] wpList Code.wp Ok
set_option maxHeartbeats 4000000 in
theorem Sd (v:Value) (l:List (List AV)) (x:List AV) (i:Nat) (hi:i≤l.length) (hl:l.length≤1048576) (dJ:∀r∈l,r.length=3) (hx:x.length=3):
 gO Tryz.prog 238 [AV.val v,AV.int i,AV.rows 3 [x]] [Own.row v 97 3 l] [] (AV.rows 3 (l.take i++x::l.drop i)):=by
 refine gO.intro 95 Tryz.func238 rfl Tryz.ntmps238 rfl (by kernel_rfl) (fun W I a hs=>?_)
 obtain⟨q,cap,rfl,kj⟩:=hs.vP 0 rfl
 refine aB fun I a w hs=>?_
 refine hs.o (Bw bA bk .tt .tt ⟨by omega,by omega⟩ kj) fun hs=>?_
 refine az fun I a w hs=>?_
 refine hs.o (vg bA .tt) fun hs=>?_
 rw[show(([x]:List (List AV)).length:Int)=1 from rfl] at hs
 refine aB fun I a w hs=>?_
 refine nn ?_
 refine hs.cd (fun ae=>?_) fun ae=>?_
 ·exfalso;simp at ae
  skip
 ·skip
  refine cx fun I a w hs=>?_
  refine nn ?_
  refine hs.cd (fun ah=>?_) fun ah=>?_
  ·try simp only[B] at ah
   refine ai fun I a w hs=>?_
   refine hs.append 0 rfl bA bk rfl .tt .tt rfl (by simp only[List.length_singleton];omega) fun sM a w hs=>?_
   obtain⟨I,hs⟩:=hs.fr 0 25
   have hs:=hs.drop 0
   refine hs.s fun hs=>nn<|wp_ret<|aE ?_
   refine hs.pQ rfl (.cons (by first|exact .t rfl|exact .nil rfl) .nil) rfl ?_
   exact congrArg (AV.rows 3) (by rw[show i=l.length by omega];simp)
  ·try simp only[B] at ah
   refine aJ fun I a w hs=>?_
   refine hs.o (By bA .tt) fun hs=>hs.o .gtr fun hs=>nn ?_
   refine hs.cd (fun aj=>?_) fun aj=>?_
   ·try simp only[B] at aj
    refine sr ?_
    have bn:l≠[]:=by intro e;rw[e] at hi ah;simp at hi ah;omega
    obtain⟨b,lN,he,lO,lP,ky,hs⟩:=hs.pN 0 rfl bn
    simp only[Value.slice.injEq] at he
    obtain⟨rfl,_,rfl⟩:=he
    have hA:(l.take i).flatten.length=i*3:=by rw[fj fun r hr=>dJ r (List.mem_of_mem_take hr),List.length_take,Nat.min_eq_left hi]
    have hB:(l.drop i).flatten.length=(l.length-i)*3:=by rw[fj fun r hr=>dJ r (List.mem_of_mem_drop hr),List.length_drop]
    rw[show l.flatten=(l.take i).flatten++(l.drop i).flatten by rw[←List.flatten_append,List.take_append_drop],List.map_append] at hs
    have ff:([x]:List (List AV)).flatten.length=3:=by simpa using hx
    have hlen:(l.take i++x::l.drop i).length=l.length+1:=by simp;omega
    have kz:∀r∈l.take i++x::l.drop i,r.length=3:=fun r hr=>(List.mem_append.1 hr).elim (fun h=>dJ r (List.mem_of_mem_take h)) fun h=>(List.mem_cons.1 h).elim (fun e=>e▸hx) fun h=>dJ r (List.mem_of_mem_drop h)
    have nO:(l.take i++x::l.drop i).flatten.map some=(l.take i).flatten.map some++([x]:List (List AV)).flatten.map some++(l.drop i).flatten.map some:=by simp
    refine ai fun I a w hs=>?_
    refine hs.o (pP (hi:=i) bA bk .tt .tt rfl (by omega) (by omega)) fun hs=>?_
    refine aW fun I a w hs=>?_
    refine hs.Bz (iA:=l.length+1-i) (xs:=(l.take i).flatten) 0 bA nA bk rfl (by decide) .tt .tt (by omega) (by omega) rfl (by rw[List.drop_zero,List.append_assoc];exact ja _ (List.length_map _)) hA (by omega) (by omega) (by omega) rfl fun{gb wI a w} rY qQ hs=>?_
    refine aB fun I a w hs=>?_
    refine hs.o (iO (lo:=i) bA bk .tt .tt rfl (by omega) (by omega)) fun hs=>?_
    refine hs.m fun hs=>?_
    refine hs.tO 1 bA bk .tt .tt rfl (by simp) (by simp only[List.length_singleton];omega) (by simp only[List.length_singleton,List.length_append,List.length_map,List.length_replicate,hA];omega) rfl fun hs=>?_
    refine nn<|wp_seq ?_
    refine hs.dp 8 (by kernel_rfl) (by kernel_rfl) (by kernel_rfl) ?_
    simp only[List.take_succ_cons,List.take_zero,List.drop_succ_cons,List.drop_zero]
    refine de ?_
    refine .o (iO (lo:=i+1) bA bk .tt .tt (by omega) (by omega) (by omega)) ?_
    refine cq ?_
    refine .o (iO (lo:=i) bA bk .tt .tt rfl (by omega) (by omega)) ?_
    refine .nil ?_
    intro I a w hs
    refine hs.tP (xs:=(l.drop i).flatten) 1 0 bA bk .tt .tt rfl rfl (by rw[List.append_assoc,sj _ (by simp only[List.length_map,hA];omega)];exact ja _ (List.length_map _)) (by rw[hB,Nat.min_eq_left (by omega)]) (by rw[jC (by simp only[List.length_map,List.length_append,List.length_replicate,ff,hA];omega)];simp only[List.length_append,List.length_map,List.length_replicate,hA,hB];omega) rfl fun hs=>?_
    rw[BG (by simp only[List.length_map,hA];omega) (by simp only[List.length_map,ff];omega) (by simp only[List.length_map,List.length_replicate,ff,hB];omega)] at hs
    have hs:=hs.pO (l:=l.take i++x::l.drop i) (cap:=wI) 1 rfl (by simp only[List.length_append,List.length_map,List.length_drop,List.length_replicate,hA,hB,ff];omega) kz (by omega) (by omega) (by omega) (by rw[nO,hlen];exact ja _ (by simp only[List.length_append,List.length_map,hA,hB,ff];omega))
    rw[show i+(l.length+1-i)=(l.take i++x::l.drop i).length by omega] at hs
    obtain⟨I,hs⟩:=hs.fr 1 9
    have hs:=hs.drop 0
    refine ai fun I a w hs=>?_
    refine nn<|wp_ret<|aE ?_
    exact hs.pQ rfl (.cons (by first|exact .t rfl|exact .nil rfl) .nil) rfl rfl
   ·try simp only[B] at aj
    refine wp_skip<|aG<|sr ?_
    have bn:l≠[]:=by intro e;rw[e] at hi ah;simp at hi ah;omega
    obtain⟨b,lN,he,lO,lP,ky,hs⟩:=hs.pN 0 rfl bn
    simp only[Value.slice.injEq] at he
    obtain⟨rfl,_,rfl⟩:=he
    have hA:(l.take i).flatten.length=i*3:=by rw[fj fun r hr=>dJ r (List.mem_of_mem_take hr),List.length_take,Nat.min_eq_left hi]
    have hB:(l.drop i).flatten.length=(l.length-i)*3:=by rw[fj fun r hr=>dJ r (List.mem_of_mem_drop hr),List.length_drop]
    rw[show l.flatten=(l.take i).flatten++(l.drop i).flatten by rw[←List.flatten_append,List.take_append_drop],List.map_append] at hs
    have ff:([x]:List (List AV)).flatten.length=3:=by simpa using hx
    have hlen:(l.take i++x::l.drop i).length=l.length+1:=by simp;omega
    have kz:∀r∈l.take i++x::l.drop i,r.length=3:=fun r hr=>(List.mem_append.1 hr).elim (fun h=>dJ r (List.mem_of_mem_take h)) fun h=>(List.mem_cons.1 h).elim (fun e=>e▸hx) fun h=>dJ r (List.mem_of_mem_drop h)
    have nO:(l.take i++x::l.drop i).flatten.map some=(l.take i).flatten.map some++([x]:List (List AV)).flatten.map some++(l.drop i).flatten.map some:=by simp
    refine aJ fun I a w hs=>?_
    refine hs.o (pP (hi:=l.length+1) bA bk .tt .tt (by omega) (by omega) (by omega)) fun hs=>?_
    refine cx fun I a w hs=>?_
    refine hs.o (iO (lo:=i+1) bA bk .tt .tt (by omega) (by omega) (by omega)) fun hs=>?_
    refine hs.overlaps (tR:=4) 0 Tryz.func249 rfl (by kernel_rfl) (by kernel_rfl) (by kernel_rfl) bA bk (by decide) .tt (by simp) .tt rfl rfl fun hs=>?_
    refine hs.o .nt fun hs=>nn ?_
    refine hs.cd (fun aI=>?_) fun aI=>?_
    ·skip
     refine wp_seq ?_
     refine hs.dp 8 (by kernel_rfl) (by kernel_rfl) (by kernel_rfl) ?_
     simp only[List.take_succ_cons,List.take_zero,List.drop_succ_cons,List.drop_zero]
     refine de ?_
     refine .o (iO (lo:=i+1) bA bk .tt .tt (by omega) (by omega) (by omega)) ?_
     refine cq ?_
     refine .o (iO (lo:=i) bA bk .tt .tt rfl (by omega) (by omega)) ?_
     refine .nil ?_
     intro I a w hs
     refine hs.tP (xs:=(l.drop i).flatten) 0 0 bA bk .tt .tt rfl rfl (by rw[List.append_assoc,sj _ (by simp only[List.length_map,hA];omega)];exact ja _ (List.length_map _)) (by rw[hB];congr 1;omega) (by simp only[List.length_append,List.length_map,List.length_replicate,hA,hB];omega) rfl fun hs=>?_
     refine ai fun I a w hs=>?_
     refine hs.o (iO (lo:=i) bA bk .tt .tt rfl (by omega) (by omega)) fun hs=>?_
     refine hs.m fun hs=>?_
     refine hs.tO 0 bA bk .tt .tt rfl (by simp) (by simp only[List.length_singleton];omega) (by rw[jC (by simp only[List.length_map,List.length_append,List.length_replicate,hA,hB];omega)];simp only[List.length_singleton,List.length_append,List.length_map,List.length_replicate,hA,hB];omega) rfl fun hs=>?_
     rw[BF (by simp only[List.length_map,hA];omega) (by simp only[List.length_map,ff];omega) (by simp only[List.length_map,List.length_replicate,ff];omega)] at hs
     have hs:=hs.pO (l:=l.take i++x::l.drop i) (cap:=cap) 0 rfl (by simp only[List.length_append,List.length_map,List.length_drop,List.length_replicate,hA,hB,ff];omega) kz (by omega) (by omega) (by omega) (by rw[nO,hlen];exact ja _ (by simp only[List.length_append,List.length_map,hA,hB,ff];omega))
     rw[show l.length+1=(l.take i++x::l.drop i).length by omega] at hs
     obtain⟨I,hs⟩:=hs.fr 0 0
     have hs:=hs.drop 0
     refine ai fun I a w hs=>?_
     refine nn<|wp_ret<|aE ?_
     exact hs.pQ rfl (.cons (by first|exact .t rfl|exact .nil rfl) .nil) rfl rfl
    ·exfalso;simp at aI
     skip
theorem Se {n:Int} (h:cJ n=true):ox n 1=eG n:=by
 have:=kS.1 h
 obtain rfl|rfl|rfl|rfl:n=0∨n=1∨n=2∨n=3:=by omega
 all_goals rfl
theorem Sf {a b:ar} (h:dD a b=true):dD b a=false:=by
 cases h2:dD b a
 ·rfl
 ·have:=wG h h2;rw[yU] at this;cases this
theorem Jq:∀{l:List ar} {d:ar} {k:Nat},k≤l.length→(∀i,i<k→dD (ab l i) d=true)→(k<l.length→dD (ab l k) d=false)→(∀x∈l,x≠d)→l.take k++d::l.drop k=je l d
 |[],d,k,hk,_,_,_=>by obtain rfl:k=0:=by simpa using hk
                      rfl
 |e::r,d,0,_,_,hn,bn=>by
  have h1:dD e d=false:=hn (by simp)
  have h2:dD d e=true:=by
   cases h3:dD d e
   ·exact absurd (yT h1 h3) (bn e (by simp))
   ·rfl
  simp[je,h2]
 |e::r,d,k+1,hk,h,hn,bn=>by
  have h2:dD d e=false:=Sf (h 0 (by omega))
  have ih:=Jq (l:=r) (d:=d) (k:=k) (by simpa using hk) (fun i hi=>h (i+1) (by omega)) (fun hl=>hn (by simpa using hl)) (fun x hx=>bn x (by simp[hx]))
  simp[je,h2,ih]
theorem Jr {l:List ar} {d:ar} (h:fH l d<0):∀x∈l,x≠d:=fun x hx e=>by
 have:=uC.2 (e▸hx);omega
theorem Js (l:List aK) (v:aK):(!et v||decide (0≤placeOf l v.bH)||((l.length:Int)==80))=!(et v&&decide (placeOf l v.bH<0)&&!decide (l.length=80)):=by
 have e:((l.length:Int)==80)=decide (l.length=80):=by rw[Bool.eq_iff_iff];simp;omega
 have e2:decide (0≤placeOf l v.bH)=!decide (placeOf l v.bH<0):=by rw[Bool.eq_iff_iff];simp
 rw[e,e2];simp
theorem Jt {l:List aK} (v:aK) (h:cg l=true):(et v&&decide (placeOf l v.bH<0)&&!decide (l.length=80))=gV l v:=by
 have hl:=gn h
 have e:(!decide (l.length=80))=decide (l.length<80):=by rw[Bool.eq_iff_iff];simp;omega
 unfold gV;rw[e]
theorem Df (n:Int) (h:cJ n=true):
 Fn Tryz.prog 175 [AV.int n] (AV.int (eG n)):=by
 refine Fn.intro 5 Tryz.func175 rfl Tryz.ntmps175 rfl (by kernel_rfl) (fun W I a hs=>?_)
 refine ai fun I a w hs=>?_
 refine hs.o (Gs .tt .c (fun _=>by have:=kS.1 h;omega)) fun hs=>?_
 refine hs.s fun hs=>nn<|wp_ret ?_
 refine hs.rt ?_
 exact fk (Se h)
theorem Sg (l:List ar) (d:ar):
 Fn Tryz.prog 202 [bl l,d.av] (AV.int (fH l d)):=by
 refine Fn.intro 19 Tryz.func202 rfl Tryz.ntmps202 rfl (by kernel_rfl) (fun W I a hs=>?_)
 have hle:=hs.ew (t:=0) rfl
 refine aW fun I a w hs=>?_
 refine nn<|wp_block ?_
 refine St.lo (σ:=Nat) (run 2 4 (run 11 8 [])) ⟨fun k=>[(8,AV.int k)],fun k=>[],fun k=>k≤l.length∧∀i,i<k→(fun e=>decide (e=d)) (ab l i)=false⟩ (fun k=>l.length-k) 0 hs ?aN ?aO
 case aN=>exact⟨Nat.zero_le _,fun i hi=>by omega⟩
 case aO=>
  rintro k I a w al hs
  obtain⟨hk,aT⟩:=al
  refine az fun I a w hs=>?_
  refine nn<|wp_seq ?_
  refine hs.cd (fun ae=>?_) fun ae=>?_
  ·try simp only[B] at ae
   refine ai fun I a w hs=>?_
   refine nn<|wp_seq<|hs.dk ?_
   refine eK ?_
   refine .o (lf [_,_,_] [_,_,_] tU rfl rfl .tt .tt)<|.nil ?_
   intro I a w hs
   refine aG ?_
   refine hs.cd (fun ah=>?_) fun ah=>?_
   ·rw[wU] at ah;rw[decide_eq_true_eq] at ah
    refine ai fun I a w hs=>?_
    refine nn<|wp_ret<|bh<|aE<|aE<|bh<|aE ?_
    refine hs.rt ?_
    exact fk (mM ae aT (decide_eq_true ah.symm)).symm
   ·rw[wU] at ah;rw[decide_eq_false_iff_not] at ah
    refine ai fun I a w hs=>?_
    refine nn ?_
    exact hs.ag (k+1) (⟨ae,fun i h1=>by rcases Nat.lt_succ_iff_lt_or_eq.1 h1 with h|h;exact aT i h;rw[h];exact decide_eq_false fun e=>ah e.symm⟩)
  ·try simp only[B] at ae
   refine wp_exit<|aF<|aF<|aY ?_
   refine az fun I a w hs=>?_
   refine nn<|wp_ret ?_
   refine hs.rt ?_
   exact fk (l5 (by omega) aT).symm
theorem xa (l:List ar) (d:ar):
 Fn Tryz.prog 174 [bl l,d.av] (AV.bool (decide (0≤fH l d))):=by
 refine Fn.intro 9 Tryz.func174 rfl Tryz.ntmps174 rfl (by kernel_rfl) (fun W I a hs=>?_)
 refine aJ fun I a w hs=>?_
 refine hs.o (.cl (Sg ..)) fun hs=>?_
 refine ai fun I a w hs=>?_
 refine nn<|wp_ret ?_
 refine hs.rt ?_
 rfl
theorem uH (s:Server) (key:Int) (hl:s.aR.length=3):
 Fn Tryz.prog 172 [s.av,AV.int key] (AV.bool (eW s key)):=by
 refine Fn.intro 13 Tryz.func172 rfl Tryz.ntmps172 rfl (by kernel_rfl) (fun W I a hs=>?_)
 refine aB fun I a w hs=>?_
 refine hs.o (.c1 (wb ..)) fun hs=>?_
 refine aB fun I a w hs=>?_
 refine hs.q .T (GA (fun hg=>Cb s key hg hl) (aw .ag (aw .ag aP))) fun hs=>?_
 refine aB fun I a w hs=>?_
 refine nn<|wp_ret ?_
 refine hs.rt ?_
 rfl
theorem Ju (s:Server) (d:ar):
 Fn Tryz.prog 173 [s.av,d.av] (AV.bool (mg s d)):=by
 refine Fn.intro 16 Tryz.func173 rfl Tryz.ntmps173 rfl (by kernel_rfl) (fun W I a hs=>?_)
 refine cx fun I a w hs=>?_
 refine hs.o (.cl (oC ..)) fun hs=>?_
 refine aW fun I a w hs=>?_
 refine hs.q .F (.cl (xa ..)) fun hs=>?_
 refine ai fun I a w hs=>?_
 refine nn<|wp_ret ?_
 refine hs.rt ?_
 rfl
theorem Jv (v:aK) (d:ar):
 Fn Tryz.prog 237 [v.av,AV.ptr d.cells] (AV.bool (nQ d v)):=by
 refine Fn.intro 8 Tryz.func237 rfl Tryz.ntmps237 rfl (by kernel_rfl) (fun W I a hs=>?_)
 refine aW fun I a w hs=>?_
 refine hs.o (.cl (xa ..)) fun hs=>?_
 refine hs.s fun hs=>nn<|wp_ret ?_
 refine hs.rt ?_
 rfl
theorem Sh (s:Server) (d:ar):
 Fn Tryz.prog 223 [s.av,d.av] (AV.bool (gC s d)):=by
 refine Fn.intro 9 Tryz.func223 rfl Tryz.ntmps223 rfl (by kernel_rfl) (fun W I a hs=>?_)
 refine aW fun I a w hs=>?_
 refine hs.o (lQ (aw .tt aP)) fun hs=>?_
 refine hs.o (.cl (Hi s.waits (nQ d) _ (fun v _=>Fn.val (Jv v d)))) fun hs=>?_
 refine hs.s fun hs=>nn<|wp_ret ?_
 refine hs.rt ?_
 exact bM (by unfold gC;rw[←wx];simp)
set_option maxHeartbeats 4000000 in
theorem Dg (l:List ar) (d:ar) (h:l.length≤1048575):
 Fn Tryz.prog 224 [bl l,d.av] (bl (dV l d)):=by
 refine Fn.intro 31 Tryz.func224 rfl Tryz.ntmps224 rfl (by kernel_rfl) (fun W I a hs=>?_)
 refine aJ fun I a w hs=>?_
 refine hs.o (.cl (xa ..)) fun hs=>?_
 refine nn ?_
 refine hs.cd (fun ae=>?_) fun ae=>?_
 ·simp only[B] at ae
  refine az fun I a w hs=>?_
  refine hs.o (cI (qe l (by omega)) (aw .r aP)) fun hs=>?_
  refine hs.s fun hs=>nn<|wp_ret<|aE ?_
  refine hs.rt ?_
  exact congrArg (AV.rows 3) (by unfold dV;rw[if_pos ae])
 ·simp only[B] at ae
  refine az fun I a w hs=>?_
  refine nn<|wp_seq<|wp_block ?_
  refine St.lo (σ:=Nat) (5::(run 14 11 [])) ⟨fun k=>[(5,AV.int k)],fun k=>[],fun k=>k≤l.length∧∀i,i<k→dD (ab l i) d=true⟩ (fun k=>l.length-k) 0 hs ?aN ?aO
  case aN=>exact⟨Nat.zero_le _,fun i hi=>by omega⟩
  case aO=>
   rintro k I a w al hs
   obtain⟨hk,aT⟩:=al
   refine wp_seq<|wp_seq<|hs.dk ?_
   refine mK ?_
   refine .q .T (.cl (yv ..)) ?_
   refine bz ?_
   refine .nil ?_
   intro I a w hs
   refine aG ?_
   refine hs.cd (fun ah=>?_) fun ah=>?_
   ·try simp only[B] at ah
    refine aB fun I a w hs=>?_
    refine wpList_nil<|eI<|aG ?_
    exact hs.ag (k+1) (⟨by omega,fun i h1=>by rcases Nat.lt_succ_iff_lt_or_eq.1 h1 with h|h;exact aT i h;rw[h];exact ah.2⟩)
   ·try simp only[B] at ah
    refine wp_exit<|aF<|aF<|aY<|aG<|wp_seq ?_
    refine hs.mG 5 (by kernel_rfl) (by kernel_rfl) (by kernel_rfl) ?_
    simp only[List.take_succ_cons,List.take_zero,List.drop_succ_cons,List.drop_zero]
    refine bz ?_
    refine fl.mI (y6 l (by omega)) (aw .r aP) ?_
    refine cq ?_
    refine .o (.li [d.cells] fU (.u .nil)) ?_
    refine .nil ?_
    intro I a w hs
    obtain⟨s8,hs⟩:=hs.yd (d:=26)
    refine hs.dZ [0] (Sd _ (l.map ar.cells) d.cells k (by rw[List.length_map];exact hk) (by rw[List.length_map];omega) (fun r hr=>by obtain⟨u,_,rfl⟩:=List.mem_map.1 hr;rfl) rfl) (aw .tt (aw .tt (aw .tt aP))) rfl (by decide) rfl fun I a w hs=>?_
    refine hs.s fun hs=>nn<|wp_ret ?_
    refine hs.rt ?_
    exact congrArg (AV.rows 3) (by unfold dV;rw[if_neg (by omega),←Jq hk aT (fun hl=>by rcases ah with h|h;omega;exact h) (Jr ae),List.map_append,List.map_cons,List.map_take,List.map_drop])
set_option maxHeartbeats 4000000 in
theorem Si (n:Int) (l:List ct) (hn:cJ n=true) (hl:∀s∈l,c6 s=true):
 Fn Tryz.prog 234 [AV.int n,AV.rows 2 (l.map ct.cells)] (AV.c9 [(nP n l).av,AV.bool (iG l)]):=by
 refine Fn.intro 36 Tryz.func234 rfl Tryz.ntmps234 rfl (by kernel_rfl) (fun W I a hs=>?_)
 have hle:=hs.ew (t:=1) rfl
 refine sr<|hs.alloc rfl gj iC fun b4 I a w hs=>?_
 refine aW fun I a w hs=>?_
 refine nn<|wp_block ?_
 refine St.lo (σ:=Nat) (run 2 5 (8::(run 13 11 []))) ⟨fun k=>[(11,AV.int k),(6,AV.int (mf (l.take k)))],fun k=>[Own.box b4 48 [AV.val (.int .i64 0),AV.val (.int .i64 0)]],fun k=>k≤l.length⟩ (fun k=>l.length-k) 0 hs ?aN ?aO
 case aN=>exact Nat.zero_le _
 case aO=>
  rintro k I a w al hs
  have hk:k≤l.length:=al
  refine az fun I a w hs=>?_
  refine nn<|wp_seq ?_
  refine hs.cd (fun ae=>?_) fun ae=>?_
  ·try simp only[B] at ae
   refine ai fun I a w hs=>?_
   refine hs.alloc rfl gj iC fun b8 I a w hs=>?_
   refine hs.sb 1 fun hs=>?_
   obtain⟨I,hs⟩:=hs.fb 1 8
   refine az fun I a w hs=>?_
   refine hs.o (.c1 (tV ..)) fun hs=>hs.o .nt fun hs=>nn ?_
   refine hs.cd (fun ah=>?_) fun ah=>?_
   ·exfalso;simp only[B] at ah;rw[hl _ (bx ae)] at ah;cases ah
    skip
   ·skip
    refine aB fun I a w hs=>?_
    refine hs.o (Of .tt .tt) fun hs=>?_
    refine aB fun I a w hs=>?_
    refine nn ?_
    have hs:=hs.drop 1
    refine hs.again (k+1) ?gS ?gT (by rfl) ?gU (by repeat(first|exact Env.le_rfl|refine Env.ie rfl ?_))
    case gS=>omega
    case gT=>exact ae
    case gU=>exact(Env.dI rfl (by rfl) (Env.dI rfl (by exact congrArg AV.int (wM ae).symm) Env.le_nil))
  ·try simp only[B] at ae
   refine wp_exit<|aF<|aF<|aY ?_
   refine az fun I a w hs=>?_
   refine hs.o (.c1 (pU ..)) fun hs=>?_
   refine aW fun I a w hs=>?_
   refine nn ?_
   refine hs.cd (fun aj=>?_) fun aj=>?_
   ·try simp only[B] at aj
    refine sr ?_
    refine hs.o (.bd iC aZ.nil) fun hs=>?_
    refine ai fun I a w hs=>?_
    refine nn<|wp_ret<|aE ?_
    rw[List.take_of_length_le (by omega)] at aj
    refine hs.ret rfl (.cons (.s 0 gj rfl rfl (by first|rfl|assumption)) (.cons (.t rfl) aU.nil)) ?_
    have e:iG l=false:=by rcases aj with h|h;(rw[hn] at h;cases h);unfold iG;simp;omega
    exact(by unfold nP;rw[e];rfl)
   ·try simp only[B] at aj
    refine az fun I a w hs=>?_
    refine hs.o (jM .tt .c (fun _=>by have:=yX hl k;omega)) fun hs=>?_
    refine hs.m fun hs=>?_
    refine hs.o (.bd iC (.k (.k aZ.nil))) fun hs=>?_
    refine ai fun I a w hs=>?_
    refine nn<|wp_ret ?_
    rw[List.take_of_length_le (by omega)] at aj
    refine hs.ret rfl (.cons (.s 0 gj rfl rfl (by first|rfl|assumption)) (.cons (.t rfl) aU.nil)) ?_
    have e:iG l=true:=by have:=yX hl l.length;rw[List.take_length] at this;unfold iG;simp;omega
    exact(by unfold nP;rw[e,List.take_of_length_le (by omega)];rfl)
set_option maxHeartbeats 4000000 in
theorem Jw (l:List aK) (v:aK) (hc:cg l=true):
 Fn Tryz.prog 235 [cv l,v.av] (AV.c9 [cv (if gV l v then eE l v else l),AV.bool (gV l v)]):=by
 refine Fn.intro 29 Tryz.func235 rfl Tryz.ntmps235 rfl (by kernel_rfl) (fun W I a hs=>?_)
 have hle:=hs.ew (t:=0) rfl
 have wW:=gn hc
 have gR:=rm hc
 refine aJ fun I a w hs=>?_
 refine hs.o (.cl (wh ..)) fun hs=>?_
 refine hs.o .nt fun hs=>nn ?_
 refine hs.cd (fun ae=>?_) fun ae=>?_
 ·exfalso;rw[hc] at ae;cases ae
  skip
 ·skip
  refine az fun I a w hs=>?_
  refine hs.o (.c1 (BZ ..)) fun hs=>?_
  refine aJ fun I a w hs=>?_
  refine hs.q .F (.cl (l4 ..)) fun hs=>?_
  refine hs.q .F (.cl (oC ..)) fun hs=>?_
  refine dq fun I a w hs=>?_
  refine nn ?_
  refine hs.cd (fun ah=>?_) fun ah=>?_
  ·rw[Js,Jt v hc] at ah;replace ah:=nt ah
   refine az fun I a w hs=>?_
   refine hs.o (cI (jo.fn (sO l (by omega) (fun u hu=>by have:=gR u hu;omega))) (aw .r aP)) fun hs=>?_
   refine ai fun I a w hs=>?_
   refine nn<|wp_ret<|aE ?_
   refine hs.rt ?_
   exact(by rw[ah];rfl)
  ·rw[Js,Jt v hc] at ah;replace ah:=nf ah
   refine ai fun I a w hs=>?_
   refine hs.o (cI (CB l v (by omega) (fun u hu=>by have:=gR u hu;omega) (by have:=gm (CG (sS ah).1);omega)) (aw .r (aw (.t rfl) aP))) fun hs=>?_
   refine ai fun I a w hs=>?_
   refine nn<|wp_ret ?_
   refine hs.rt ?_
   exact(by rw[ah];rfl)
set_option maxHeartbeats 4000000 in
theorem zt (l:List aK) (slot:Int) (h:l.length≤1048576) (hd:∀v∈l,v.aS.length≤1048576):
 Fn Tryz.prog 200 [cv l,AV.int slot] (AV.c9 [cv (l.filter (eF slot)),cv (l.filter (fun v=>!eF slot v))]):=by
 refine Fn.intro 34 Tryz.func200 rfl Tryz.ntmps200 rfl (by kernel_rfl) (fun W I a hs=>?_)
 have hs:=hs.fi (sz:=7) 100
 have hs:=hs.fi (sz:=7) 100
 refine dq fun I a w hs=>?_
 refine nn<|wp_block ?_
 refine St.lo (σ:=Nat×Value×Value) (run 2 6 (9::(run 20 12 []))) ⟨fun⟨k,u,v⟩=>[(12,AV.int k),(6,AV.val u),(7,AV.val v)],fun⟨k,u,v⟩=>[Own.row u 100 7 (((l.take k).filter (eF slot)).map aK.cells),Own.row v 100 7 (((l.take k).filter (fun v=>!eF slot v)).map aK.cells)],fun⟨k,u,v⟩=>k≤l.length⟩ (fun⟨k,u,v⟩=>l.length-k) (0,.slice none 0 0,.slice none 0 0) hs ?aN ?aO
 case aN=>exact Nat.zero_le _
 case aO=>
  rintro⟨k,u,v⟩ I a w al hs
  have hk:k≤l.length:=al
  have IL:=oM (eF slot) l k
  have IM:=oM (fun v=>!eF slot v) l k
  dsimp only at hs
  refine az fun I a w hs=>?_
  refine nn<|wp_seq ?_
  refine hs.cd (fun ae=>?_) fun ae=>?_
  ·try simp only[B] at ae
   refine ai fun I a w hs=>?_
   refine hs.alloc rfl bt dO fun b9 I a w hs=>?_
   refine hs.sb 2 fun hs=>?_
   obtain⟨I,hs⟩:=hs.fb 2 9
   refine ai fun I a w hs=>?_
   refine hs.o (.c1 (B6 ..)) fun hs=>?_
   refine ai fun I a w hs=>?_
   refine nn ?_
   refine hs.cd (fun ah=>?_) fun ah=>?_
   ·change(eF slot) (ab l k)=true at ah
    refine ai fun I a w hs=>?_
    refine hs.o (.c1 (sN _ (hd _ (bx ae)))) fun hs=>?_
    refine hs.o (.li [(ab l k).cells] jD (.u .nil)) fun hs=>?_
    refine hs.append 0 rfl cM bt rfl .tt .r rfl (by simp;omega) fun sM a w hs=>?_
    rw[ck,←lC (p:=(eF slot)) ae ah,show(l.take k).filter (fun v=>!eF slot v)=(l.take (k+1)).filter (fun v=>!eF slot v) from(lD ae (by show(!_)=false;rw[ah];rfl)).symm] at hs
    refine aB fun I a w hs=>?_
    refine nn ?_
    have hs:=hs.drop 2
    exact hs.ag (k+1,sM,v) (ae)
   ·change(eF slot) (ab l k)=false at ah
    refine ai fun I a w hs=>?_
    refine hs.o (.c1 (sN _ (hd _ (bx ae)))) fun hs=>?_
    refine hs.o (.li [(ab l k).cells] jD (.u .nil)) fun hs=>?_
    refine hs.append 1 rfl cM bt rfl .tt .r rfl (by simp;omega) fun v30 a w hs=>?_
    rw[ck,←lC (p:=(fun v=>!eF slot v)) ae (by show(!_)=true;rw[ah];rfl),show(l.take k).filter (eF slot)=(l.take (k+1)).filter (eF slot) from(lD ae ah).symm] at hs
    refine aB fun I a w hs=>?_
    refine nn ?_
    have hs:=hs.drop 2
    exact hs.ag (k+1,u,v30) (ae)
  ·try simp only[B] at ae
   refine wp_exit<|aF<|aF<|aY ?_
   refine aJ fun I a w hs=>?_
   refine nn<|wp_ret ?_
   obtain⟨I,hs⟩:=hs.fr 0 4
   obtain⟨I,hs⟩:=hs.fr 1 5
   refine hs.rt ?_
   exact(by rw[List.take_of_length_le (by omega)];rfl)
set_option maxHeartbeats 4000000 in
theorem Jy (l:List ar) (slot:Int) (h:l.length≤1048576):
 Fn Tryz.prog 201 [bl l,AV.int slot] (AV.c9 [bl (l.filter (fI slot)),bl (l.filter (fun d=>!fI slot d))]):=by
 refine Fn.intro 32 Tryz.func201 rfl Tryz.ntmps201 rfl (by kernel_rfl) (fun W I a hs=>?_)
 have hs:=hs.fi (sz:=3) 97
 have hs:=hs.fi (sz:=3) 97
 refine dq fun I a w hs=>?_
 refine nn<|wp_block ?_
 refine St.lo (σ:=Nat×Value×Value) (run 2 6 (9::(run 18 12 []))) ⟨fun⟨k,u,v⟩=>[(12,AV.int k),(6,AV.val u),(7,AV.val v)],fun⟨k,u,v⟩=>[Own.row u 97 3 (((l.take k).filter (fI slot)).map ar.cells),Own.row v 97 3 (((l.take k).filter (fun d=>!fI slot d)).map ar.cells)],fun⟨k,u,v⟩=>k≤l.length⟩ (fun⟨k,u,v⟩=>l.length-k) (0,.slice none 0 0,.slice none 0 0) hs ?aN ?aO
 case aN=>exact Nat.zero_le _
 case aO=>
  rintro⟨k,u,v⟩ I a w al hs
  have hk:k≤l.length:=al
  have IL:=oM (fI slot) l k
  have IM:=oM (fun d=>!fI slot d) l k
  dsimp only at hs
  refine az fun I a w hs=>?_
  refine nn<|wp_seq ?_
  refine hs.cd (fun ae=>?_) fun ae=>?_
  ·try simp only[B] at ae
   refine ai fun I a w hs=>?_
   refine hs.alloc rfl bk eV fun b9 I a w hs=>?_
   refine hs.sb 2 fun hs=>?_
   obtain⟨I,hs⟩:=hs.fb 2 9
   refine ai fun I a w hs=>?_
   refine hs.o (.c1 (B6 ..)) fun hs=>?_
   refine ai fun I a w hs=>?_
   refine nn ?_
   refine hs.cd (fun ah=>?_) fun ah=>?_
   ·change(fI slot) (ab l k)=true at ah
    refine ai fun I a w hs=>?_
    refine hs.o (.li [(ab l k).cells] fU (.u .nil)) fun hs=>?_
    refine hs.append 0 rfl bA bk rfl .tt .r rfl (by simp;omega) fun wR a w hs=>?_
    rw[ck,←lC (p:=(fI slot)) ae ah,show(l.take k).filter (fun d=>!fI slot d)=(l.take (k+1)).filter (fun d=>!fI slot d) from(lD ae (by show(!_)=false;rw[ah];rfl)).symm] at hs
    refine aB fun I a w hs=>?_
    refine nn ?_
    have hs:=hs.drop 2
    exact hs.ag (k+1,wR,v) (ae)
   ·change(fI slot) (ab l k)=false at ah
    refine ai fun I a w hs=>?_
    refine hs.o (.li [(ab l k).cells] fU (.u .nil)) fun hs=>?_
    refine hs.append 1 rfl bA bk rfl .tt .r rfl (by simp;omega) fun Dh a w hs=>?_
    rw[ck,←lC (p:=(fun d=>!fI slot d)) ae (by show(!_)=true;rw[ah];rfl),show(l.take k).filter (fI slot)=(l.take (k+1)).filter (fI slot) from(lD ae ah).symm] at hs
    refine aB fun I a w hs=>?_
    refine nn ?_
    have hs:=hs.drop 2
    exact hs.ag (k+1,u,Dh) (ae)
  ·try simp only[B] at ae
   refine wp_exit<|aF<|aF<|aY ?_
   refine aJ fun I a w hs=>?_
   refine nn<|wp_ret ?_
   obtain⟨I,hs⟩:=hs.fr 0 4
   obtain⟨I,hs⟩:=hs.fr 1 5
   refine hs.rt ?_
   exact(by rw[List.take_of_length_le (by omega)];rfl)
set_option maxHeartbeats 4000000 in
theorem qu (s:Server) (m x:aD) (h:iV x):
 Fn Tryz.prog 222 [s.av,m.av,x.av] (bj [{x with bc:=s.site,to:=m.bc}]):=by
 refine Fn.intro 16 Tryz.func222 rfl Tryz.ntmps222 rfl (by kernel_rfl) (fun W I a hs=>?_)
 refine ai fun I a w hs=>?_
 refine hs.box rfl .tt fun b5 I a w hs=>hs.sc fun hs=>nn<|wp_seq ?_
 refine hs.eT [([],none),([],none),([],none),([],none),([],none),([0],some (0,[])),([],none),([0],some (0,[]))] (by kernel_rfl) (by kernel_rfl) rfl ?_
 refine eK ?_
 refine aV.gz (x:=AV.any) 0 (fun F W0 I0 I a w Q hs kk=>hs.s1 0 fun hs=>kk _ _ _ hs) ?_
 refine bz ?_
 refine aV.gz (x:=AV.any) 0 (fun F W0 I0 I a w Q hs kk=>hs.s1 0 fun hs=>kk _ _ _ hs) ?_
 refine .nil ?_
 intro I a w hs
 refine az fun I a w hs=>?_
 refine hs.o (.c1 (wT {x with bc:=s.site,to:=m.bc} h)) fun hs=>?_
 refine hs.o (.li [({x with bc:=s.site,to:=m.bc}:aD).cells] fF (.u .nil)) fun hs=>?_
 refine hs.s fun hs=>nn<|wp_ret ?_
 refine hs.rt ?_
 rfl
end Go.Proofs.YtoeioeimmfpefaaGreat

/- Part 39: rules of the proofs, contracts of functions, plain facts. -/
import Derived.Test.YtoeioeimmfpefaaGreatP36
import Derived.Test.YtoeioeimmfpefaaGreatP38
set_option linter.unusedVariables false
set_option linter.unusedSimpArgs false
set_option maxRecDepth 100000
set_option maxHeartbeats 4000000
namespace Go.Proofs.YtoeioeimmfpefaaGreat
open Go Go.RowKit
attribute [local irreducible] wpList Code.wp Ok
set_option maxHeartbeats 4000000 in
theorem Vb (v:Value) (l:List (List AV)) (x:List AV) (i:Nat) (hi:i≤l.length) (hl:l.length≤1048576) (dJ:∀r∈l,r.length=9) (hx:x.length=9):
 gO Tryz.prog 228 [AV.val v,AV.int i,AV.rows 9 [x]] [Own.row v 121 9 l] [] (AV.rows 9 (l.take i++x::l.drop i)):=by
 refine gO.intro 95 Tryz.func228 rfl Tryz.ntmps228 rfl (by kernel_rfl) (fun W I a hs=>?_)
 obtain⟨q,cap,rfl,kj⟩:=hs.vP 0 rfl
 refine aB fun I a w hs=>?_
 refine hs.o (Bw ef dC .tt .tt ⟨by omega,by omega⟩ kj) fun hs=>?_
 refine az fun I a w hs=>?_
 refine hs.o (vg ef .tt) fun hs=>?_
 rw[show(([x]:List (List AV)).length:Int)=1 from rfl] at hs
 refine aB fun I a w hs=>?_
 refine nn ?_
 refine hs.cd (fun ae=>?_) fun ae=>?_
 ·exfalso;simp at ae
  skip
 ·skip
  refine cx fun I a w hs=>?_
  refine nn ?_
  refine hs.cd (fun ah=>?_) fun ah=>?_
  ·try simp only[B] at ah
   refine ai fun I a w hs=>?_
   refine hs.append 0 rfl ef dC rfl .tt .tt rfl (by simp only[List.length_singleton];omega) fun sM a w hs=>?_
   obtain⟨I,hs⟩:=hs.fr 0 25
   have hs:=hs.drop 0
   refine hs.s fun hs=>nn<|wp_ret<|aE ?_
   refine hs.pQ rfl (.cons (by first|exact .t rfl|exact .nil rfl) .nil) rfl ?_
   exact congrArg (AV.rows 9) (by rw[show i=l.length by omega];simp)
  ·try simp only[B] at ah
   refine aJ fun I a w hs=>?_
   refine hs.o (By ef .tt) fun hs=>hs.o .gtr fun hs=>nn ?_
   refine hs.cd (fun aj=>?_) fun aj=>?_
   ·try simp only[B] at aj
    refine sr ?_
    have bn:l≠[]:=by intro e;rw[e] at hi ah;simp at hi ah;omega
    obtain⟨b,lN,he,lO,lP,ky,hs⟩:=hs.pN 0 rfl bn
    simp only[Value.slice.injEq] at he
    obtain⟨rfl,_,rfl⟩:=he
    have hA:(l.take i).flatten.length=i*9:=by rw[fj fun r hr=>dJ r (List.mem_of_mem_take hr),List.length_take,Nat.min_eq_left hi]
    have hB:(l.drop i).flatten.length=(l.length-i)*9:=by rw[fj fun r hr=>dJ r (List.mem_of_mem_drop hr),List.length_drop]
    rw[show l.flatten=(l.take i).flatten++(l.drop i).flatten by rw[←List.flatten_append,List.take_append_drop],List.map_append] at hs
    have ff:([x]:List (List AV)).flatten.length=9:=by simpa using hx
    have hlen:(l.take i++x::l.drop i).length=l.length+1:=by simp;omega
    have kz:∀r∈l.take i++x::l.drop i,r.length=9:=fun r hr=>(List.mem_append.1 hr).elim (fun h=>dJ r (List.mem_of_mem_take h)) fun h=>(List.mem_cons.1 h).elim (fun e=>e▸hx) fun h=>dJ r (List.mem_of_mem_drop h)
    have nO:(l.take i++x::l.drop i).flatten.map some=(l.take i).flatten.map some++([x]:List (List AV)).flatten.map some++(l.drop i).flatten.map some:=by simp
    refine ai fun I a w hs=>?_
    refine hs.o (pP (hi:=i) ef dC .tt .tt rfl (by omega) (by omega)) fun hs=>?_
    refine aW fun I a w hs=>?_
    refine hs.Bz (iA:=l.length+1-i) (xs:=(l.take i).flatten) 0 ef nA dC rfl (by decide) .tt .tt (by omega) (by omega) rfl (by rw[List.drop_zero,List.append_assoc];exact ja _ (List.length_map _)) hA (by omega) (by omega) (by omega) rfl fun{gb wI a w} rY qQ hs=>?_
    refine aB fun I a w hs=>?_
    refine hs.o (iO (lo:=i) ef dC .tt .tt rfl (by omega) (by omega)) fun hs=>?_
    refine hs.m fun hs=>?_
    refine hs.tO 1 ef dC .tt .tt rfl (by simp) (by simp only[List.length_singleton];omega) (by simp only[List.length_singleton,List.length_append,List.length_map,List.length_replicate,hA];omega) rfl fun hs=>?_
    refine nn<|wp_seq ?_
    refine hs.dp 8 (by kernel_rfl) (by kernel_rfl) (by kernel_rfl) ?_
    simp only[List.take_succ_cons,List.take_zero,List.drop_succ_cons,List.drop_zero]
    refine de ?_
    refine .o (iO (lo:=i+1) ef dC .tt .tt (by omega) (by omega) (by omega)) ?_
    refine cq ?_
    refine .o (iO (lo:=i) ef dC .tt .tt rfl (by omega) (by omega)) ?_
    refine .nil ?_
    intro I a w hs
    refine hs.tP (xs:=(l.drop i).flatten) 1 0 ef dC .tt .tt rfl rfl (by rw[List.append_assoc,sj _ (by simp only[List.length_map,hA];omega)];exact ja _ (List.length_map _)) (by rw[hB,Nat.min_eq_left (by omega)]) (by rw[jC (by simp only[List.length_map,List.length_append,List.length_replicate,ff,hA];omega)];simp only[List.length_append,List.length_map,List.length_replicate,hA,hB];omega) rfl fun hs=>?_
    rw[BG (by simp only[List.length_map,hA];omega) (by simp only[List.length_map,ff];omega) (by simp only[List.length_map,List.length_replicate,ff,hB];omega)] at hs
    have hs:=hs.pO (l:=l.take i++x::l.drop i) (cap:=wI) 1 rfl (by simp only[List.length_append,List.length_map,List.length_drop,List.length_replicate,hA,hB,ff];omega) kz (by omega) (by omega) (by omega) (by rw[nO,hlen];exact ja _ (by simp only[List.length_append,List.length_map,hA,hB,ff];omega))
    rw[show i+(l.length+1-i)=(l.take i++x::l.drop i).length by omega] at hs
    obtain⟨I,hs⟩:=hs.fr 1 9
    have hs:=hs.drop 0
    refine ai fun I a w hs=>?_
    refine nn<|wp_ret<|aE ?_
    exact hs.pQ rfl (.cons (by first|exact .t rfl|exact .nil rfl) .nil) rfl rfl
   ·try simp only[B] at aj
    refine wp_skip<|aG<|sr ?_
    have bn:l≠[]:=by intro e;rw[e] at hi ah;simp at hi ah;omega
    obtain⟨b,lN,he,lO,lP,ky,hs⟩:=hs.pN 0 rfl bn
    simp only[Value.slice.injEq] at he
    obtain⟨rfl,_,rfl⟩:=he
    have hA:(l.take i).flatten.length=i*9:=by rw[fj fun r hr=>dJ r (List.mem_of_mem_take hr),List.length_take,Nat.min_eq_left hi]
    have hB:(l.drop i).flatten.length=(l.length-i)*9:=by rw[fj fun r hr=>dJ r (List.mem_of_mem_drop hr),List.length_drop]
    rw[show l.flatten=(l.take i).flatten++(l.drop i).flatten by rw[←List.flatten_append,List.take_append_drop],List.map_append] at hs
    have ff:([x]:List (List AV)).flatten.length=9:=by simpa using hx
    have hlen:(l.take i++x::l.drop i).length=l.length+1:=by simp;omega
    have kz:∀r∈l.take i++x::l.drop i,r.length=9:=fun r hr=>(List.mem_append.1 hr).elim (fun h=>dJ r (List.mem_of_mem_take h)) fun h=>(List.mem_cons.1 h).elim (fun e=>e▸hx) fun h=>dJ r (List.mem_of_mem_drop h)
    have nO:(l.take i++x::l.drop i).flatten.map some=(l.take i).flatten.map some++([x]:List (List AV)).flatten.map some++(l.drop i).flatten.map some:=by simp
    refine aJ fun I a w hs=>?_
    refine hs.o (pP (hi:=l.length+1) ef dC .tt .tt (by omega) (by omega) (by omega)) fun hs=>?_
    refine cx fun I a w hs=>?_
    refine hs.o (iO (lo:=i+1) ef dC .tt .tt (by omega) (by omega) (by omega)) fun hs=>?_
    refine hs.overlaps (tR:=4) 0 Tryz.func244 rfl (by kernel_rfl) (by kernel_rfl) (by kernel_rfl) ef dC (by decide) .tt (by simp) .tt rfl rfl fun hs=>?_
    refine hs.o .nt fun hs=>nn ?_
    refine hs.cd (fun aI=>?_) fun aI=>?_
    ·skip
     refine wp_seq ?_
     refine hs.dp 8 (by kernel_rfl) (by kernel_rfl) (by kernel_rfl) ?_
     simp only[List.take_succ_cons,List.take_zero,List.drop_succ_cons,List.drop_zero]
     refine de ?_
     refine .o (iO (lo:=i+1) ef dC .tt .tt (by omega) (by omega) (by omega)) ?_
     refine cq ?_
     refine .o (iO (lo:=i) ef dC .tt .tt rfl (by omega) (by omega)) ?_
     refine .nil ?_
     intro I a w hs
     refine hs.tP (xs:=(l.drop i).flatten) 0 0 ef dC .tt .tt rfl rfl (by rw[List.append_assoc,sj _ (by simp only[List.length_map,hA];omega)];exact ja _ (List.length_map _)) (by rw[hB];congr 1;omega) (by simp only[List.length_append,List.length_map,List.length_replicate,hA,hB];omega) rfl fun hs=>?_
     refine ai fun I a w hs=>?_
     refine hs.o (iO (lo:=i) ef dC .tt .tt rfl (by omega) (by omega)) fun hs=>?_
     refine hs.m fun hs=>?_
     refine hs.tO 0 ef dC .tt .tt rfl (by simp) (by simp only[List.length_singleton];omega) (by rw[jC (by simp only[List.length_map,List.length_append,List.length_replicate,hA,hB];omega)];simp only[List.length_singleton,List.length_append,List.length_map,List.length_replicate,hA,hB];omega) rfl fun hs=>?_
     rw[BF (by simp only[List.length_map,hA];omega) (by simp only[List.length_map,ff];omega) (by simp only[List.length_map,List.length_replicate,ff];omega)] at hs
     have hs:=hs.pO (l:=l.take i++x::l.drop i) (cap:=cap) 0 rfl (by simp only[List.length_append,List.length_map,List.length_drop,List.length_replicate,hA,hB,ff];omega) kz (by omega) (by omega) (by omega) (by rw[nO,hlen];exact ja _ (by simp only[List.length_append,List.length_map,hA,hB,ff];omega))
     rw[show l.length+1=(l.take i++x::l.drop i).length by omega] at hs
     obtain⟨I,hs⟩:=hs.fr 0 0
     have hs:=hs.drop 0
     refine ai fun I a w hs=>?_
     refine nn<|wp_ret<|aE ?_
     exact hs.pQ rfl (.cons (by first|exact .t rfl|exact .nil rfl) .nil) rfl rfl
    ·exfalso;simp at aI
     skip
def n8 (q:Call) (k:Nat):List ar:=((q.ax.take k).filter fun a=>!dR (bY (ez q) a.key)&&l8 a (bY (ez q) a.key)).map fun a=>⟨a.key,bY (ez q) a.key⟩
theorem Vc {q:Call} {k:Nat} (h:k<q.ax.length) (hp:(!dR (bY (ez q) (ab q.ax k).key)&&l8 (ab q.ax k) (bY (ez q) (ab q.ax k).key))=true):n8 q k++[⟨(ab q.ax k).key,bY (ez q) (ab q.ax k).key⟩]=n8 q (k+1):=by
 unfold n8;rw[lC h (by simpa using hp),List.map_append];rfl
theorem Vd {q:Call} {k:Nat} (h:k<q.ax.length) (hp:(!dR (bY (ez q) (ab q.ax k).key)&&l8 (ab q.ax k) (bY (ez q) (ab q.ax k).key))=false):n8 q k=n8 q (k+1):=by
 unfold n8;rw[lD h (by simpa using hp)]
theorem Ve (q:Call) (k:Nat):(n8 q k).length≤q.ax.length:=by
 unfold n8;rw[List.length_map];exact Nat.le_trans (List.length_filter_le ..) (by rw[List.length_take];omega)
theorem Vf {a:Answer} (h:dE a=true):cY a.bG.aA fW=false:=by
 cases hy:a.yes
 ·rw[yH h hy];rfl
 ·have:=(wz h hy).1
  simp only[jq,Bool.and_eq_true] at this
  have hs:=this.2
  simp[c6,aQ,aK.bH] at hs
  rw[Bool.eq_false_iff];intro e;simp[cY,fW] at e
  have h1:=of_decide_eq_true hs.1.1
  rcases e with e|⟨e,_⟩
  ·have:=of_decide_eq_true e;omega
  ·omega
theorem Vg {a:Answer} {s:ct} (h:dE a=true) (hs:p8 s):(!dR s&&l8 a s)=cY a.bG.aA s:=by
 rcases hs with rfl|hs
 ·rw[Vf h];rfl
 ·rw[HJ h hs]
  have:dR s=false:=by simp[c6,aQ] at hs;simp[dR];intro e;rw[e] at hs;simp at hs
  rw[this];rfl
theorem Vh {q:Call} {k:Nat} (h:∀a∈q.ax,dE a=true) (hk:q.ax.length≤k):n8 q k=jV q:=by
 have hS:∀key,p8 (bY (ez q) key):=fun key=>p7 (qd (acc:=[]) rfl h).1 key
 have key:∀l:List Answer,(∀a∈l,dE a=true)→(l.filter fun a=>!dR (bY (ez q) a.key)&&l8 a (bY (ez q) a.key)).map (fun a=>(⟨a.key,bY (ez q) a.key⟩:ar))=(l.map (mj (ez q))).flatten:=by
  intro l
  induction l with
  |nil=>intro _;rfl
  |cons a r ih=>
   intro hl
   have ih:=ih fun x hx=>hl x (by simp[hx])
   have ht:=Vg (hl a (by simp)) (hS a.key)
   rw[List.map_cons,List.flatten_cons,←ih]
   unfold mj
   by_cases hp:cY a.bG.aA (bY (ez q) a.key)=true
   ·rw[List.filter_cons_of_pos (by rw[ht];exact hp),if_pos hp];rfl
   ·rw[List.filter_cons_of_neg (by rw[ht];exact hp),if_neg hp];rfl
 unfold n8 jV
 rw[List.take_of_length_le hk]
 exact key _ h
theorem Lf:∀{l:List Answer} {a:Answer} {k:Nat},k≤l.length→(∀i,i<k→(ab l i).key<a.key)→(k<l.length→¬(ab l k).key<a.key)→(∀x∈l,x.key≠a.key)→l.take k++a::l.drop k=c7 l a
 |[],a,k,h,_,_,_=>by obtain rfl:k=0:=by simpa using h
                     rfl
 |e::r,a,0,_,_,h2,h3=>by
  have h2:=h2 (by simp)
  have h3:=h3 e (by simp)
  have:a.key<e.key:=by have h4:¬e.key<a.key:=h2;omega
  unfold c7;rw[if_pos this];rfl
 |e::r,a,k+1,h,h1,h2,h3=>by
  have h0:e.key<a.key:=h1 0 (by omega)
  unfold c7;rw[if_neg (by omega)]
  show e::(r.take k++a::r.drop k)=_
  rw[Lf (by simpa using h) (fun i hi=>h1 (i+1) (by omega)) (fun hl=>h2 (by simpa using hl)) fun x hx=>h3 x (by simp[hx])]
theorem Lg (q:Call) (m:aD) (t:Int):(!gG q||decide (t≤q.bm)||!bN m||(m.to !=10+q.aC)||(m.call !=q.num)||!fQ q.keys m.key)=
 !(bN m&&(m.to==10+q.aC)&&(m.call==q.num)&&fQ q.keys m.key&&gG q&&decide (q.bm<t)):=by
 have e2:decide (t≤q.bm)=!decide (q.bm<t):=by rw[Bool.eq_iff_iff];simp
 rw[e2,Bool.eq_iff_iff]
 cases gG q<;>cases bN m<;>cases decide (q.bm<t)<;>cases fQ q.keys m.key<;>simp[bne]
theorem Vi {q:Call} {t0:Int} (h:dK q t0) {a:Answer} (hk:a.bG.bH∈q.aM) (he:a.bG.key=a.key):q.aM.filter (fun d=>!decide (d.key=a.key))=q.aM.filter fun d=>decide (d≠a.bG.bH):=by
 apply List.filter_congr
 intro d hd
 by_cases e:d.key=a.key
 ·have:d=a.bG.bH:=Ji h.aM hd hk (e.trans he.symm)
  rw[decide_eq_true e,this];simp
 ·rw[decide_eq_false e]
  have:d≠a.bG.bH:=fun e2=>e (by rw[e2];exact he)
  rw[decide_eq_true this];rfl
theorem Vj {q:Call} {m:aD} {t t0:Int} (h:dK q t0) (hv:m.kind=4∧(m.yes=true→m.aq.length=1∧(ab m.aq 0).key=m.key)) (iB:fQ q.keys m.key=true) (hb:(decide (cz q m.key<0)&&dR m.aA)=true) (ha:mQ {q with ax:=c7 q.ax (dw m)}=false):iI q m t={q with ax:=c7 q.ax (dw m)}:=by
 rw[Bool.and_eq_true,decide_eq_true_eq] at hb
 have bJ:=(Db h iB hb.1).2
 unfold iI
 rw[if_pos hv,if_pos hb.1,if_pos hb.2]
 unfold lz
 dsimp only
 rw[if_pos]
 have:¬((c7 q.ax (dw m)).length:Int)=q.keys.length:=by simpa[mQ] using ha
 rw[sY] at this⊢;omega
theorem Lh {q:Call} {m:aD} {t t0:Int} (h:dK q t0) (hv:m.kind=4∧(m.yes=true→m.aq.length=1∧(ab m.aq 0).key=m.key)) (iB:fQ q.keys m.key=true) (hb:(decide (cz q m.key<0)&&dR m.aA)=true) (ha:mQ {q with ax:=c7 q.ax (dw m)}=true):
 iI q m t=if jV {q with ax:=c7 q.ax (dw m)}=[] then{q with ax:=c7 q.ax (dw m),aM:=jV {q with ax:=c7 q.ax (dw m)},end_:=t} else{q with ax:=c7 q.ax (dw m),aM:=jV {q with ax:=c7 q.ax (dw m)}}:=by
 rw[Bool.and_eq_true,decide_eq_true_eq] at hb
 have rA:=(Db h iB hb.1).1
 have:((c7 q.ax (dw m)).length:Int)=q.keys.length:=by simpa[mQ] using ha
 unfold iI
 rw[if_pos hv,if_pos hb.1,if_pos hb.2]
 unfold lz jW
 dsimp only
 rw[if_neg (by omega)]
 generalize jV {q with ax:=c7 q.ax (dw m)}=y
 rw[rA,List.nil_append]
theorem Li {q:Call} {m:aD} {t t0:Int} (h:dK q t0) (hm:dE (dw m)=true) (hv:m.kind=4∧(m.yes=true→m.aq.length=1∧(ab m.aq 0).key=m.key)) (hb:(decide (0≤cz q m.key)&&m.yes&&decide (0≤fH q.aM (dw m).bG.bH))=true):
 iI q m t=if(q.aM.filter fun d=>!decide (d.key=m.key))=[] then{q with ax:=q.ax.set (cz q m.key).toNat (dw m),aM:=q.aM.filter (fun d=>!decide (d.key=m.key)),end_:=t} else{q with ax:=q.ax.set (cz q m.key).toNat (dw m),aM:=q.aM.filter fun d=>!decide (d.key=m.key)}:=by
 simp only[Bool.and_eq_true,decide_eq_true_eq] at hb
 obtain⟨⟨h1,h2⟩,h3⟩:=hb
 have mB:=uC.1 h3
 have hk:(dw m).bG.key=(dw m).key:=(ri hm h2).2
 rw[show(fun d:ar=>!decide (d.key=m.key))=fun d=>!decide (d.key=(dw m).key) from rfl,Vi h mB hk]
 unfold iI
 rw[if_pos hv,if_neg (by omega),if_pos h2]
 unfold ml
 rw[if_pos mB];rfl
theorem Vk {q:Call} {m:aD} {t:Int} (hv:m.kind=4∧(m.yes=true→m.aq.length=1∧(ab m.aq 0).key=m.key)) (hb:(decide (cz q m.key<0)&&dR m.aA)=false) (ah:(decide (0≤cz q m.key)&&m.yes&&decide (0≤fH q.aM (dw m).bG.bH))=false):iI q m t=q:=by
 unfold iI
 rw[if_pos hv]
 by_cases hg:cz q m.key<0
 ·rw[decide_eq_true hg,Bool.true_and] at hb
  rw[if_pos hg,if_neg (by rw[hb];simp)]
 ·rw[if_neg hg]
  split
  ·rename_i hy
   rw[decide_eq_true (by omega),hy,Bool.true_and,Bool.true_and,decide_eq_false_iff_not,uC] at ah
   unfold ml
   rw[if_neg ah]
  ·rfl
set_option maxHeartbeats 4000000 in
theorem Vl (q:Call) (n:Value) (hg:∀a∈q.ax,dE a=true) (hl:q.ax.length≤1048576):
 Fn Tryz.prog 229 [q.uN n] (bl (jV q)):=by
 refine Fn.intro 51 Tryz.func229 rfl Tryz.ntmps229 rfl (by kernel_rfl) (fun W I a hs=>?_)
 have hs:=hs.fi (sz:=3) 97
 refine aB fun I a w hs=>?_
 refine nn<|wp_seq<|wp_seq ?_
 have hs:=hs.tK (t:=3) rfl (eb 3 _)
 refine aJ fun I a w hs=>?_
 refine nn<|wp_block ?_
 refine St.lo (σ:=Nat) (3::(5::(run 10 13 []))) ⟨fun k=>[(13,AV.int k),(3,bl ((q.ax.take k).foldl kv []))],fun k=>[Own.row (.slice none 0 0) 97 3 []],fun k=>k≤q.ax.length⟩ (fun k=>q.ax.length-k) 0 hs ?aN ?aO
 case aN=>exact Nat.zero_le _
 case aO=>
  rintro k I a w al hs
  have hk:k≤q.ax.length:=al
  dsimp only at hs
  refine az fun I a w hs=>?_
  refine nn<|wp_seq ?_
  refine hs.cd (fun ae=>?_) fun ae=>?_
  ·try simp only[B] at ae
   refine ai fun I a w hs=>?_
   refine hs.alloc rfl dC mL fun b5 I a w hs=>?_
   refine hs.sb 1 fun hs=>?_
   obtain⟨I,hs⟩:=hs.fb 1 5
   refine aJ fun I a w hs=>?_
   refine hs.o (.cl (H4 ((q.ax.take k).foldl kv []) (ab q.ax k).bG.aS (qd (acc:=[]) rfl (um hg k)).1 (p9 (hg _ (bx ae))))) fun hs=>?_
   rw[show iE ((q.ax.take k).foldl kv []) (ab q.ax k).bG.aS=(q.ax.take (k+1)).foldl kv [] from by rw[dL ae,List.foldl_append];rfl] at hs
   refine aB fun I a w hs=>?_
   refine nn ?_
   have hs:=hs.drop 1
   exact hs.ag (k+1) (ae)
  ·try simp only[B] at ae
   refine wp_exit<|aF<|aF<|aY<|aG<|wp_seq ?_
   rw[show(q.ax.take k).foldl kv []=ez q from by rw[List.take_of_length_le (by omega)];rfl] at hs
   refine aW fun I a w hs=>?_
   refine nn<|wp_block ?_
   refine St.lo (σ:=Nat×Value) (6::(run 2 8 (run 24 26 []))) ⟨fun⟨k,v⟩=>[(26,AV.int k),(6,AV.val v)],fun⟨k,v⟩=>[Own.row v 97 3 ((n8 q k).map ar.cells)],fun⟨k,v⟩=>k≤q.ax.length⟩ (fun⟨k,v⟩=>q.ax.length-k) (0,.slice none 0 0) hs ?dT ?dU
   case dT=>exact Nat.zero_le _
   case dU=>
    rintro⟨k,v⟩ I a w al hs
    have hk:k≤q.ax.length:=al
    dsimp only at hs
    refine az fun I a w hs=>?_
    refine nn<|wp_seq ?_
    refine hs.cd (fun ah=>?_) fun ah=>?_
    ·try simp only[B] at ah
     refine ai fun I a w hs=>?_
     refine hs.alloc rfl dC mL fun b8 I a w hs=>?_
     refine hs.sb 1 fun hs=>?_
     obtain⟨I,hs⟩:=hs.fb 1 8
     refine aB fun I a w hs=>?_
     refine hs.o (.cl (Qd (ez q) (ab q.ax k).key)) fun hs=>?_
     refine hs.alloc rfl gj iC fun b9 I a w hs=>?_
     refine hs.sb 2 fun hs=>?_
     obtain⟨I,hs⟩:=hs.fb 2 9
     refine az fun I a w hs=>?_
     refine hs.o (.c1 (sD ..)) fun hs=>?_
     refine aJ fun I a w hs=>?_
     refine hs.q .T (.cl (Ic ..)) fun hs=>?_
     refine hs.o .an fun hs=>nn ?_
     refine hs.cd (fun aj=>?_) fun aj=>?_
     ·skip
      refine aJ fun I a w hs=>?_
      refine hs.o (.bd eV (.k (.t aZ.nil))) fun hs=>?_
      refine hs.o (.li [ar.cells ⟨(ab q.ax k).key,bY (ez q) (ab q.ax k).key⟩] fU (.u .nil)) fun hs=>?_
      refine hs.append 0 rfl bA bk rfl .tt .r rfl (by have:=Ve q k;simp;omega) fun D2 a w hs=>?_
      rw[ck,Vc ah aj] at hs
      refine aB fun I a w hs=>?_
      refine nn ?_
      have hs:=hs.drop 1
      exact hs.ag (k+1,D2) (ah)
     ·skip
      refine ai fun I a w hs=>?_
      refine nn ?_
      have hs:=hs.drop 1
      rw[Vd ah aj] at hs
      exact hs.ag (k+1,v) (ah)
    ·try simp only[B] at ah
     refine wp_exit<|aF<|aF<|aY<|aG<|wp_seq ?_
     rw[Vh hg (by omega)] at hs
     obtain⟨I,hs⟩:=hs.fr 0 6
     refine ai fun I a w hs=>?_
     refine nn<|wp_ret ?_
     refine hs.rt ?_
     rfl
theorem Vm (q:Call) (n:Value) (key:Int):
 Fn Tryz.prog 159 [q.uN n,AV.int key] (AV.int (cz q key)):=by
 refine Fn.intro 9 Tryz.func159 rfl Tryz.ntmps159 rfl (by kernel_rfl) (fun W I a hs=>?_)
 refine az fun I a w hs=>?_
 refine hs.o (tH .tt (by first|exact iY rfl|exact jj|exact jk|exact jl)) fun hs=>?_
 refine aB fun I a w hs=>?_
 refine hs.o (lQ (aw .tt aP)) fun hs=>?_
 refine hs.o (.cl (Hg q.ax (p5 key) _ (fun v _=>Fn.val (Ia v key)))) fun hs=>?_
 refine hs.s fun hs=>nn<|wp_ret ?_
 refine hs.rt ?_
 rfl
theorem Vn (q:Call) (n:Value):
 Fn Tryz.prog 119 [q.uN n] (AV.bool (mQ q)):=by
 refine Fn.intro 10 Tryz.func119 rfl Tryz.ntmps119 rfl (by kernel_rfl) (fun W I a hs=>?_)
 refine kq fun I a w hs=>?_
 refine nn<|wp_ret ?_
 refine hs.rt ?_
 rfl
theorem Vo (m:aD) (d:ar):
 Fn Tryz.prog 230 [d.av,AV.ptr m.cells] (AV.bool (decide (d.key=m.key))):=by
 refine Fn.intro 9 Tryz.func230 rfl Tryz.ntmps230 rfl (by kernel_rfl) (fun W I a hs=>?_)
 refine gi fun I a w hs=>?_
 refine nn<|wp_ret ?_
 refine hs.rt ?_
 exact congrArg AV.bool (by rw[Bool.eq_iff_iff];simp)
set_option maxHeartbeats 4000000 in
theorem Vp (q:Call) (g n:Value) (m:aD) (t t0:Int) (h:dK q t0) (hm:bN m=true) (hv:m.kind=4∧(m.yes=true→m.aq.length=1∧(ab m.aq 0).key=m.key)) (iB:fQ q.keys m.key=true):
 gO Tryz.prog 197 [q.uv g n,m.av,AV.int t] [Own.row g 121 9 (q.ax.map Answer.cells),Own.row n 97 3 (q.aM.map ar.cells)] [] (iI q m t).av:=by
 refine cL.intro 99 Tryz.func197 rfl Tryz.ntmps197 rfl (by kernel_rfl) (fun W I a hs=>?_)
 have m9:=h.lens
 have rG:=Dd (q:=q) hm hv.2
 have xm:=gn (mo hm).1
 have hkx:(dw m).key=m.key:=rfl
 refine sr<|hs.box rfl .tt fun b3 I a w hs=>hs.o .bp fun hs=>hs.alloc rfl cy iP fun b6 I a w hs=>?_
 refine aJ fun I a w hs=>?_
 refine hs.o (.bd mL (.k (.k aZ.nil))) fun hs=>?_
 refine hs.alloc rfl dC mL fun b7 I a w hs=>?_
 refine hs.sb 4 fun hs=>?_
 refine nn ?_
 refine St.cut (σ:=Unit) (run 8 14 []) ⟨fun _=>[],fun _=>[Own.row g 121 9 (q.ax.map Answer.cells),Own.row n 97 3 (q.aM.map ar.cells),Own.box b3 51 [AV.int q.aC,AV.int q.num,AV.int q.kind,gh q.keys,AV.int q.val,bl q.ctx,AV.int q.bm,AV.int q.end_,AV.bool q.over,AV.int q.aA.time,AV.int q.aA.site,AV.val g,AV.val n],Own.box b6 51 [AV.val (.int .i64 0),AV.val (.int .i64 0),AV.val (.int .i64 0),AV.rows 1 [],AV.val (.int .i64 0),AV.rows 3 [],AV.val (.int .i64 0),AV.val (.int .i64 0),AV.val (.bool false),AV.val (.int .i64 0),AV.val (.int .i64 0),AV.rows 9 [],AV.rows 3 []],Own.box b7 121 (dw m).cells],fun _=>True⟩ hs ?xg ?xh
 case xg=>
  refine ai fun I a w hs=>?_
  refine nn ?_
  refine hs.cd (fun ae=>?_) fun ae=>?_
  ·try simp only[B] at ae
   refine ai fun I a w hs=>?_
   refine hs.o (eZ (i:=0) cM bt .tt .c (fun _=>by have:=(hv.2 ae).1;omega)) fun hs=>?_
   refine hs.o .la fun hs=>?_
   refine hs.o (cI (sN (ab m.aq 0) (by have:=gm (jE (gA (mo hm).1 _ (bx (l:=m.aq) (k:=0) (by have:=(hv.2 ae).1;omega)))).2.2;omega)) (aw (.t rfl) aP)) fun hs=>?_
   refine hs.o .fv fun hs=>hs.oi 4 bt .tt .tt rfl rfl rfl fun a w hs=>nn ?_
   have hs:=hs.pass (H':=[Own.row g 121 9 (q.ax.map Answer.cells),Own.row n 97 3 (q.aM.map ar.cells),Own.box b3 51 [AV.int q.aC,AV.int q.num,AV.int q.kind,gh q.keys,AV.int q.val,bl q.ctx,AV.int q.bm,AV.int q.end_,AV.bool q.over,AV.int q.aA.time,AV.int q.aA.site,AV.val g,AV.val n],Own.box b6 51 [AV.val (.int .i64 0),AV.val (.int .i64 0),AV.val (.int .i64 0),AV.rows 1 [],AV.val (.int .i64 0),AV.rows 3 [],AV.val (.int .i64 0),AV.val (.int .i64 0),AV.val (.bool false),AV.val (.int .i64 0),AV.val (.int .i64 0),AV.rows 9 [],AV.rows 3 []],Own.box b7 121 (dw m).cells]) (by unfold dw;rw[ae];rfl)
   exact hs.me () (by trivial)
  ·try simp only[B] at ae
   refine wp_skip<|aG ?_
   have hs:=hs.pass (H':=[Own.row g 121 9 (q.ax.map Answer.cells),Own.row n 97 3 (q.aM.map ar.cells),Own.box b3 51 [AV.int q.aC,AV.int q.num,AV.int q.kind,gh q.keys,AV.int q.val,bl q.ctx,AV.int q.bm,AV.int q.end_,AV.bool q.over,AV.int q.aA.time,AV.int q.aA.site,AV.val g,AV.val n],Own.box b6 51 [AV.val (.int .i64 0),AV.val (.int .i64 0),AV.val (.int .i64 0),AV.rows 1 [],AV.val (.int .i64 0),AV.rows 3 [],AV.val (.int .i64 0),AV.val (.int .i64 0),AV.val (.bool false),AV.val (.int .i64 0),AV.val (.int .i64 0),AV.rows 9 [],AV.rows 3 []],Own.box b7 121 (dw m).cells]) (by unfold dw;rw[ae];rfl)
   exact hs.me () (by trivial)
 case xh=>
  rintro _ I a w al hs
  refine aB fun I a w hs=>?_
  refine hs.o (Gp (cs:=[AV.int q.aC,AV.int q.num,AV.int q.kind,gh q.keys,AV.int q.val,bl q.ctx,AV.int q.bm,AV.int q.end_,AV.bool q.over,AV.int q.aA.time,AV.int q.aA.site,.val g,.val n]) 0 11 (aw .tt (aw .tt aP)) rfl rfl (Vm q n m.key) (fun _ _ _ h=>h)) fun hs=>?_
  refine cx fun I a w hs=>?_
  refine hs.q .T (.cl (sD ..)) fun hs=>?_
  refine ai fun I a w hs=>?_
  refine nn ?_
  refine hs.cd (fun ah=>?_) fun ah=>?_
  ·have hn9:cz q m.key<0:=by simp only[Bool.and_eq_true,decide_eq_true_eq] at ah;exact ah.1
   have bn:∀y∈q.ax,y.key≠(dw m).key:=fun y hy e=>by have:=zm.2 ⟨y,hy,e⟩;have e2:(dw m).key=m.key:=rfl;rw[e2] at this;omega
   have BL:∀y∈c7 q.ax (dw m),dE y=true:=fun y hy=>(rz.1 hy).elim (fun e=>e▸rG) (h.eD y)
   refine az fun I a w hs=>?_
   refine nn<|wp_seq<|wp_block ?_
   refine St.lo (σ:=Nat) (8::(run 18 35 [])) ⟨fun k=>[(8,AV.int k)],fun k=>[Own.row g 121 9 (q.ax.map Answer.cells),Own.row n 97 3 (q.aM.map ar.cells),Own.box b3 51 [AV.int q.aC,AV.int q.num,AV.int q.kind,gh q.keys,AV.int q.val,bl q.ctx,AV.int q.bm,AV.int q.end_,AV.bool q.over,AV.int q.aA.time,AV.int q.aA.site,AV.val g,AV.val n],Own.box b6 51 [AV.val (.int .i64 0),AV.val (.int .i64 0),AV.val (.int .i64 0),AV.rows 1 [],AV.val (.int .i64 0),AV.rows 3 [],AV.val (.int .i64 0),AV.val (.int .i64 0),AV.val (.bool false),AV.val (.int .i64 0),AV.val (.int .i64 0),AV.rows 9 [],AV.rows 3 []],Own.box b7 121 (dw m).cells],fun k=>k≤q.ax.length∧∀i,i<k→(ab q.ax i).key<m.key⟩ (fun k=>q.ax.length-k) 0 hs ?aN ?aO
   case aN=>exact⟨Nat.zero_le _,fun i hi=>by omega⟩
   case aO=>
    rintro k I a w al hs
    obtain⟨hk,aT⟩:=al
    refine wp_seq<|wp_seq<|hs.dk ?_
    refine du ?_
    refine .o (ni 0 ef .tt rfl) ?_
    refine eK ?_
    refine .q .T (tj 0 ef dC .ag .ag rfl (fun hg=>by simp at hg;simp;omega)) ?_
    refine bz ?_
    refine .q .T (DV 0 fT .ag rfl (fun hg=>by simp at hg;rw[List.getElem?_map,FG (by omega)];rfl) rfl rfl rfl) ?_
    refine de ?_
    refine .nil ?_
    intro I a w hs
    refine aG ?_
    refine hs.cd (fun aj=>?_) fun aj=>?_
    ·simp only[B] at aj;rw[List.length_map,Int.toNat_natCast] at aj
     refine aB fun I a w hs=>?_
     refine wpList_nil<|eI<|aG ?_
     exact hs.ag (k+1) (⟨by omega,fun i h1=>by rcases Nat.lt_succ_iff_lt_or_eq.1 h1 with h|h;exact aT i h;rw[h];exact aj.2⟩)
    ·simp only[B] at aj;rw[List.length_map,Int.toNat_natCast] at aj
     refine wp_exit<|aF<|aF<|aY ?_
     refine aJ fun I a w hs=>?_
     refine hs.o (.li [(dw m).cells] qT (.u .nil)) fun hs=>?_
     refine hs.dZ [0] (Vb g (q.ax.map Answer.cells) (dw m).cells k (by rw[List.length_map];exact hk) (by rw[List.length_map];omega) (fun r hr=>by obtain⟨u,_,rfl⟩:=List.mem_map.1 hr;rfl) rfl) (aw .r (aw .tt (aw .r aP))) rfl (by decide) rfl fun I a w hs=>?_
     rw[←List.map_take,←List.map_drop,←List.map_cons,←List.map_append,Lf (a:=dw m) hk aT (fun hl=>by rcases aj with h4|h4;omega;exact Int.not_lt.2 h4) bn] at hs
     refine aB fun I a w hs=>?_
     refine hs.o (.c1 (Vn {q with ax:=c7 q.ax (dw m)} n)) fun hs=>hs.o .nt fun hs=>nn ?_
     refine hs.cd (fun aI=>?_) fun aI=>?_
     ·try simp only[B] at aI
      refine wp_seq ?_
      have hs:=hs.nf
      obtain⟨I,hs⟩:=hs.fu 1 12 2
      refine ai fun I a w hs=>?_
      refine nn<|wp_ret<|aE<|bh<|aE ?_
      refine hs.cP () [] rfl (.cons (.s 3 cy rfl rfl (by first|rfl|assumption)) .nil) trivial rfl ?_
      exact(by rw[Vj h hv iB ah aI];rfl)
     ·try simp only[B] at aI
      refine wp_skip<|aG ?_
      have hs:=hs.nf
      refine az fun I a w hs=>?_
      refine hs.o (cI (Vl {q with ax:=c7 q.ax (dw m)} n BL (by show(c7 q.ax _).length≤_;rw[sY];omega)) (aw (.t rfl) aP)) fun hs=>?_
      refine ai fun I a w hs=>?_
      refine wpList_nil<|eI<|aG<|wp_seq<|wp_seq ?_
      have hs:=hs.nf
      refine aJ fun I a w hs=>?_
      refine nn ?_
      refine hs.cd (fun aL=>?_) fun aL=>?_
      ·try simp only[B] at aL
       refine aW fun I a w hs=>?_
       refine nn<|wp_ret ?_
       refine hs.cP () [] rfl (.cons (.s 3 cy rfl rfl (by first|rfl|assumption)) .nil) trivial rfl ?_
       exact(by rw[Lh h hv iB ah aI,if_pos (List.length_eq_zero_iff.1 (by omega))];rfl)
      ·try simp only[B] at aL
       refine ai fun I a w hs=>?_
       refine nn<|wp_ret ?_
       refine hs.cP () [] rfl (.cons (.s 3 cy rfl rfl (by first|rfl|assumption)) .nil) trivial rfl ?_
       exact(by rw[Lh h hv iB ah aI,if_neg (fun e=>by rw[e] at aL;simp at aL)];rfl)
  ·skip
   refine wp_seq<|hs.dk ?_
   refine mK ?_
   refine .q .T (AE 4 bt .ag rfl rfl rfl) ?_
   refine .q .T (.cl (l4 ..)) ?_
   refine .q .T (ye 1 (aw .ag (aw .ag aP)) rfl (xa q.aM (dw m).bG.bH) (fun _ _ _ h=>h)) ?_
   refine cq ?_
   refine .nil ?_
   intro I a w hs
   refine aG ?_
   refine hs.cd (fun bf=>?_) fun bf=>?_
   ·skip
    have D3:0≤cz q m.key:=by simp only[Bool.and_eq_true,decide_eq_true_eq] at bf;exact bf.1.1
    obtain⟨qx,rv⟩:=uE D3
    obtain⟨bg,Ld,eg⟩:=hs.g8 0 rfl (by simp only[List.length_map];omega)
    subst eg
    refine aJ fun I a w hs=>?_
    refine hs.o (tj 0 ef dC .tt .tt rfl (fun _=>by simp;omega)) fun hs=>?_
    refine hs.jx 0 dC .tt .tt rfl (by exact ek (by omega)) rfl rfl fun a w hs=>?_
    refine wpList_nil ?_
    have e9:∀y,y=(dw m).cells→(List.map Answer.cells q.ax).set (cz q m.key).toNat y=List.map Answer.cells (q.ax.set (cz q m.key).toNat (dw m)):=fun y hy=>by rw[hy,List.map_set]
    rw[e9] at hs
    rotate_left
    ·rfl
    obtain⟨I,hs⟩:=hs.fu 0 11 2
    refine ai fun I a w hs=>?_
    refine hs.o (lQ (aw .tt aP)) fun hs=>?_
    refine hs.cW [1,3] (Dm n q.aM (fun d=>decide (d.key=m.key)) _ (Own.box b6 51 [AV.val (.int .i64 0),AV.val (.int .i64 0),AV.val (.int .i64 0),AV.rows 1 [],AV.val (.int .i64 0),AV.rows 3 [],AV.val (.int .i64 0),AV.val (.int .i64 0),AV.val (.bool false),AV.val (.int .i64 0),AV.val (.int .i64 0),AV.rows 9 [],AV.rows 3 []]) (by omega) (fun d hd=>mE.frame (Fn.val (fC:=[AV.ptr m.cells]) (Vo m d)))) (aw .r (aw .tt aP)) rfl (by decide) rfl fun v90 I a w ac9 hs=>?_
    refine hs.o .fv fun hs=>?_
    try have ada:=hs.dS 1 rfl
    refine hs.s1 2 fun hs=>?_
    refine wpList_nil ?_
    have hs:=hs.nf
    obtain⟨I,hs⟩:=hs.fu 1 12 2
    refine eI<|aG<|wp_seq<|wp_seq ?_
    have hs:=hs.nf
    refine aJ fun I a w hs=>?_
    refine nn ?_
    refine hs.cd (fun aX=>?_) fun aX=>?_
    ·try simp only[B] at aX
     refine aW fun I a w hs=>?_
     refine nn<|wp_ret ?_
     refine hs.cP () [] rfl (.cons (.s 3 cy rfl rfl (by first|rfl|assumption)) .nil) trivial rfl ?_
     exact(by rw[Li h rG hv bf,if_pos (List.length_eq_zero_iff.1 (by simpa using aX))];rfl)
    ·try simp only[B] at aX
     refine ai fun I a w hs=>?_
     refine nn<|wp_ret ?_
     refine hs.cP () [] rfl (.cons (.s 3 cy rfl rfl (by first|rfl|assumption)) .nil) trivial rfl ?_
     exact(by rw[Li h rG hv bf,if_neg (fun e=>by rw[e] at aX;simp at aX)];rfl)
   ·skip
    refine wp_seq ?_
    have hs:=hs.nf
    obtain⟨I,hs⟩:=hs.fu 0 11 2
    obtain⟨I,hs⟩:=hs.fu 1 12 2
    refine ai fun I a w hs=>?_
    refine nn<|wp_ret<|bh<|aE ?_
    refine hs.cP () [] rfl (.cons (.s 3 cy rfl rfl (by first|rfl|assumption)) .nil) trivial rfl ?_
    exact(by rw[Vk hv ah bf];rfl)
end Go.Proofs.YtoeioeimmfpefaaGreat

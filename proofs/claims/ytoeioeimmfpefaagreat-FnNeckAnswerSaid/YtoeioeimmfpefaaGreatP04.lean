/- Part 4: rules of the proofs, contracts of functions, plain facts. -/
import Derived.Test.YtoeioeimmfpefaaGreatP03
set_option linter.unusedVariables false
set_option linter.unusedSimpArgs false
namespace Go.Proofs.YtoeioeimmfpefaaGreat
open Go Go.RowKit
section
variable {P:Program} {c:Ctx} {I:Im} {H:List Own} {Γ:Env} {a:Act} {w:World} {Q:Exit→Act→World→Prop} {ops:Array Oper} {rest:List Oper}
variable {d:Nat} {y z:Operand} {ty T T' E:TypeId} {p:String} {af:Array Edge} {g:Bool} {gd:Option (Nat×Bool)} {n m:Nat} {zv:Value}
theorem M7 {I:Im} {z:Array Value} {l:List AV} (h:bD I l z.toList):∀k,bD I (List.replicate k l).flatten (madeCells z (k*z.size)).toList:=by
 intro k
 have key:∀k,(madeCells z (k*z.size)).toList=(List.replicate k z.toList).flatten:=by
  intro k
  apply List.ext_getElem?
  intro j
  simp only[madeCells]
  by_cases hz:z.size=0
  ·have:z.toList=[]:=by simpa using hz
   simp[hz,this]
  ·have iZ:(List.replicate k z.toList).flatten.length=k*z.size:=by
    rw[fj (sz:=z.size) (fun r hr=>by rw[(List.mem_replicate.1 hr).2];simp),List.length_replicate]
   by_cases hj:j<k*z.size
   ·have hq:j/z.size<k:=Nat.div_lt_of_lt_mul (by rw[Nat.mul_comm];exact hj)
    have hm:j%z.size<z.size:=Nat.mod_lt _ (by omega)
    have hr:(List.replicate k z.toList)[j/z.size]?=some z.toList:=by simp[hq]
    have h2:=xx (List.replicate k z.toList) z.size (fun r hr=>by rw[(List.mem_replicate.1 hr).2];simp) _ _ hr
    have h3:(List.replicate k z.toList).flatten[j]?=z.toList[j%z.size]?:=by
     have h4:(((List.replicate k z.toList).flatten.drop (j/z.size*z.size)).take z.size)[j%z.size]?=z.toList[j%z.size]?:=by rw[h2]
     rw[List.getElem?_take,if_pos hm,List.getElem?_drop] at h4
     rw[←h4];congr 1
     have:=Nat.div_add_mod j z.size
     rw[Nat.mul_comm] at this
     exact this.symm
    rw[h3]
    simp[hj,hm]
   ·have e1:(List.replicate k z.toList).flatten[j]?=none:=by simp only[List.getElem?_eq_none_iff];omega
    rw[e1]
    simp;omega
 rw[key]
 induction k with
 |zero=>simp[bD]
 |succ k ih=>
  rw[List.replicate_succ,List.replicate_succ,List.flatten_cons,List.flatten_cons]
  exact h.append ih
theorem St.make {l:List AV} {sz:Nat} {ag:Bool} {k:Nat} (hs:St c I H Γ a w) (hd:Nat.blt d c.n=true) (hU:P.underlying T=some (.slice E)) (hE:Ty P E ag sz m zv) (Fs:∀I,bD I l zv.cells.toList) (fB:zv.cells.size=sz)
 (hy:At Γ true y (.int k)) (hz:At Γ true z (.int k)) (hb:m*k≤281474976710656∧k≤281474976710656)
 (kk:∀b a' w',St c I (H++[Own.row (.slice (some ⟨b,0,none⟩) k k) E sz (List.replicate k l)]) ((d,.val (.slice (some ⟨b,0,none⟩) k k))::Γ) a' w'→wpList P ops Q rest a' w'):
 wpList P ops Q (⟨some d,.makeSlice T y z,ty,p,af,none⟩::rest) a w:=by
 obtain⟨i,hi,h1,h2,h3⟩:=hE.get
 have rX:k≤maxLen:=by simp only[maxLen];omega
 have hr:=run_make (P:=P) w T E i zv hU hi h3 .i64 .i64 k k (by omega) (Int.le_refl _) (by rw[h2];have:=hb.1;have:((m*k:Nat):Int)≤281474976710656:=by omega
                                                                                           rwa[Int.natCast_mul] at this) (by omega)
 simp only[Int.toNat_natCast] at hr
 refine gZ rfl ?_
 have e1:a.eval y=.int .i64 k:=hy I a hs.env rfl
 have e2:a.eval z=.int .i64 k:=hz I a hs.env rfl
 unfold Oper.wp
 simp only[execOp,e1,e2,hr,Sem.run_bind,Sem.run_pure,Result.andThen_ok,Oper.upon_value]
 rw[h1]
 have hlen:l.length=sz:=by rw[←fB,←(Fs I).length];simp
 have hm:=M7 (Fs I) k
 rw[fB] at hm
 have M8:∀r∈List.replicate k l,r.length=sz:=fun r hr=>by rw[(List.mem_replicate.1 hr).2,hlen]
 have cm:=Step.alloc hs.step.cE (.cells (madeCells zv.cells (k*sz)) E)
 refine kk w.heap.size _ _ (hs.kY (hs.step.trans cm) (Im.le_refl _) ?_ hd rfl)
 rcases Nat.eq_zero_or_pos k with rfl|k4
 ·have:=((St.written hs (hs.step.trans cm) (hs.own.step cm)).xH (sz:=sz) (v:=.slice (some ⟨w.heap.size,0,none⟩) 0 0) E (.inr ⟨_,rfl,rfl⟩)).own
  simpa using this
 ·refine hs.own.push (x:=Own.row (.slice (some ⟨w.heap.size,0,none⟩) k k) E sz (List.replicate k l)) hs.room (vb (by omega)) hs.step.cE ⟨M8,.inr ⟨w.heap.size,k,_,by rw[List.length_replicate],k4,qC w _,by simp,rX,size_madeCells _ _,?_⟩⟩
  rw[List.length_replicate,List.take_of_length_le (by simp[madeCells])]
  exact hm
theorem St.shape {v:Value} {sz:Nat} {l:List (List AV)} (k:Nat) (hs:St c I H Γ a w) (hk:H[k]?=some (Own.row v E sz l)) (hl:0<l.length):∃b cap,v=.slice (some ⟨b,0,none⟩) l.length cap:=by
 obtain⟨⟨_,⟨h0,_⟩|⟨b,cap,cur,e,_⟩⟩,_⟩:=hs.own.all _ (List.mem_of_getElem? hk)
 ·subst h0;simp at hl
 ·exact⟨b,cap,e⟩
theorem M9 {I:Im} {w:World} {v:Value} {sz:Nat} {l:List (List AV)} (h:(Own.row v E sz l).ok I w):∃q cap,v=.slice q l.length cap:=by
 obtain⟨_,⟨rfl,rfl|⟨q,rfl,_⟩⟩|⟨b,cap,cur,e,_⟩⟩:=h
 ·exact⟨none,0,rfl⟩
 ·exact⟨some q,0,rfl⟩
 ·exact⟨_,cap,e⟩
theorem ni {d:Option Tmp} {v:Value} {sz:Nat} {l:List (List AV)} (k:Nat) (hT:P.underlying T=some (.slice T')) (h:At Γ g y (.val v)) (hk:H[k]?=some (Own.row v E sz l)):Ok P H Γ g ⟨d,.call ⟨.builtin .len,#[y],#[T]⟩,ty,p,af,gd⟩ (.int l.length):=
 fw fun base I a w he hm hw hg=>by
  have e:a.eval y=_:=h I a he hg
  refine⟨_,?_,rfl⟩
  have hv:=M9 (hw.all _ (List.mem_of_getElem? hk)).1
  obtain⟨q,cap,rfl⟩:=hv
  simp only[execOp,resolve,List.map_toArray,List.map_cons,List.map_nil,e]
  simp[go_sem,Builtin.len_,run_underlying hT]
theorem gv {d:Option Tmp} {ag:Bool} {b sz k cap:Nat} {i:Int} (hT:P.underlying T=some (.slice E)) (hE:Ty P E ag sz m zv) (h:At Γ g y (.val (.slice (some ⟨b,0,none⟩) k cap))) (hi:At Γ g z (.int i)) (hb:g=true→0≤i∧i<k):
 Ok P H Γ g ⟨d,.indexAddr T y z,ty,p,af,gd⟩ (.val (.pointer (some ⟨b,i.toNat*sz,none⟩))):=
 fR fun I a w he hg=>by
  obtain⟨h0,h1⟩:=hb hg
  have e:a.eval y=_:=h I a he hg
  have e2:a.eval z=_:=hi I a he hg
  have hs:(sizeOf E).run P w=.ok sz w:=hE.size
  simp only[execOp,e,e2,Instr.indexAt,asIntOf,Sem.run_bind,Sem.run_pure,Result.andThen_ok,run_underlying hT]
  simp[h0,h1,add_plain,hs]
theorem Ft {I:Im} {w:World} {sz b cap:Nat} {l:List (List AV)} (h:(Own.row (.slice (some ⟨b,0,none⟩) l.length cap) E sz l).ok I w) (hl:l≠[]):
 ∃cur,0<cap∧w.heap[b]?=some (.cells cur E (0,0))∧l.length≤cap∧cap≤maxLen∧cur.size=cap*sz∧bD I l.flatten (cur.toList.take (l.length*sz)):=by
 obtain⟨_,⟨h0,_⟩|⟨b',mD,cur,e,h0,h1,h2,h3,h4,h5⟩⟩:=h
 ·exact absurd h0 hl
 ·cases e;exact⟨cur,h0,h1,h2,h3,h4,h5⟩
theorem xK {k b cap q sz i j:Nat} {l:List (List AV)} {r:List AV} (hk:H[k]?=some (Own.row (.slice (some ⟨b,0,none⟩) l.length cap) E sz l)) {base:Nat→Prop} (hw:bQ base I w H) (hr:l[i]?=some r) (hq:q=i*sz+j) (hj:j≤sz):
 ∃cs:List Value,bD I (r.drop j) cs∧cs.length=sz-j∧∀t u,cs[t]?=some u→w.cell? ⟨b,q+t,none⟩=some u:=by
 obtain⟨al,_⟩:=hw.all _ (List.mem_of_getElem? hk)
 have cr:=al.1
 have hi:i<l.length:=(List.getElem?_eq_some_iff.1 hr).1
 obtain⟨cur,_,hb,h3,_,h5,hl⟩:=Ft al (fun e=>by subst e;simp at hi)
 have ix:r.length=sz:=cr r (List.mem_of_getElem? hr)
 have od:=((hl.drop (i*sz)).take sz).drop j
 rw[xx l sz cr i r hr] at od
 refine⟨_,od,?_,fun t u hu=>?_⟩
 ·rw[od.length,List.length_drop,ix]
 ·rw[List.getElem?_drop,List.getElem?_take] at hu
  split at hu
  ·rename_i bJ
   rw[List.getElem?_drop,List.getElem?_take] at hu
   split at hu
   ·simp only[World.cell?,hb,Option.isSome_none,Bool.false_eq_true,if_false]
    rw[hq,←Array.getElem?_toList,Nat.add_assoc,hu]
   ·cases hu
  ·cases hu
theorem Na {d:Option Tmp} {b q cap sz i j:Nat} {l:List (List AV)} {r:List AV} {x:AV} (k:Nat) (hT:Ty P T false n m zv) (h:At Γ g y (.val (.pointer (some ⟨b,q,none⟩)))) (hk:H[k]?=some (Own.row (.slice (some ⟨b,0,none⟩) l.length cap) E sz l))
 (hr:g=true→l[i]?=some r) (hq:q=i*sz+j) (hx:r[j]?=some x) (AS:Nat.blt j sz=true):Ok P H Γ g ⟨d,.load T y,ty,p,af,gd⟩ x:=
 fw fun base I a w he hm hw hg=>by
  have e:a.eval y=_:=h I a he hg
  have hj:j<sz:=by simpa using AS
  obtain⟨cs,h1,h2,h3⟩:=xK hk hw (hr hg) hq (by omega)
  obtain⟨u,hu,AT,_⟩:=h1.get (i:=0) (x:=x) (by rw[List.getElem?_drop];simpa using hx)
  refine⟨u,?_,AT⟩
  have hc:w.cell? ⟨b,q,none⟩=some u:=h3 0 u hu
  simp only[execOp,e,Instr.loadAt,Instr.sureAddr,Sem.run_bind,Sem.run_pure,Result.andThen_ok,ve hT hc]
theorem oj {d:Option Tmp} {b q cap sz i:Nat} {l:List (List AV)} {r:List AV} (k:Nat) (hT:Ty P T true sz m zv) (h:At Γ g y (.val (.pointer (some ⟨b,q,none⟩)))) (hk:H[k]?=some (Own.row (.slice (some ⟨b,0,none⟩) l.length cap) E sz l))
 (hr:g=true→l[i]?=some r) (hq:q=i*sz):Ok P H Γ g ⟨d,.load T y,ty,p,af,gd⟩ (.agg r):=
 fw fun base I a w he hm hw hg=>by
  have e:a.eval y=_:=h I a he hg
  obtain⟨cs,h1,h2,h3⟩:=xK (q:=q) hk hw (hr hg) (j:=0) (by rw[hq];rfl) (by omega)
  refine⟨.agg cs.toArray,?_,_,rfl,by simpa using h1⟩
  have h4:∀t u,cs[t]?=some u→w.cell? ((⟨b,q,none⟩:Addr).add t)=some u:=fun t u hu=>by rw[add_plain];exact h3 t u hu
  simp only[execOp,e,Instr.loadAt,Instr.sureAddr,Sem.run_bind,Sem.run_pure,Result.andThen_ok,vf hT (by omega) h4]
theorem Fu {α:Type} {sz:Nat}:∀{l:List (List α)} {i j:Nat} {r x:List α},(∀r∈l,r.length=sz)→l[i]?=some r→j+x.length≤sz→eo l.flatten (i*sz+j) x=(l.set i (eo r j x)).flatten
 |[],_,_,_,_,_,h,_=>by simp at h
 |y::l,0,j,r,x,hs,h,hj=>by
  simp at h;subst h
  have hy:y.length=sz:=hs y (by simp)
  simp only[List.set_cons_zero,List.flatten_cons,eo,Nat.zero_mul,Nat.zero_add]
  rw[List.take_append_of_le_length (by omega),List.drop_append_of_le_length (by omega)]
  simp
 |y::l,i+1,j,r,x,hs,h,hj=>by
  have hy:y.length=sz:=hs y (by simp)
  have ih:=Fu (l:=l) (i:=i) (j:=j) (r:=r) (x:=x) (fun r hr=>hs r (by simp[hr])) (by simpa using h) hj
  rw[List.set_cons_succ,List.flatten_cons,List.flatten_cons,←ih]
  simp only[eo]
  have e1:(i+1)*sz+j=y.length+(i*sz+j):=by rw[hy,Nat.succ_mul];omega
  rw[e1,List.take_append,List.take_of_length_le (Nat.le_add_right _ _),Nat.add_sub_cancel_left,Nat.add_assoc,List.drop_append,List.drop_eq_nil_of_le (by omega)]
  simp[Nat.add_assoc]
theorem Nb {α:Type} (L x:List α) (q N:Nat) (h:q+x.length≤N) (hL:N≤L.length):(eo L q x).take N=eo (L.take N) q x:=by
 apply List.ext_getElem?
 intro t
 simp only[eo,List.getElem?_take,List.getElem?_append,List.length_append,List.length_take,List.getElem?_drop]
 (repeat' split)<;>first|rfl|omega|(congr 1;omega)|skip
theorem St.Fv {ag:Bool} {b cap q sz i j:Nat} {l:List (List AV)} {r lx:List AV} {v:Value} (k:Nat) (hs:St c I H Γ a w) (hT:Ty P T ag n m zv) (hk:H[k]?=some (Own.row (.slice (some ⟨b,0,none⟩) l.length cap) E sz l))
 (hv:bD I lx v.cells.toList) (hn:lx.length=n) (hr:l[i]?=some r) (hq:q=i*sz+j) (hj:j+n≤sz):
 ∃w',(storeVar T ⟨b,q,none⟩ v).run P w=.ok () w'∧St c I (H.set k (Own.row (.slice (some ⟨b,0,none⟩) l.length cap) E sz (l.set i (eo r j lx)))) Γ a w':=by
 obtain⟨al,h2⟩:=hs.own.all _ (List.mem_of_getElem? hk)
 have cr:=al.1
 have hi:i<l.length:=(List.getElem?_eq_some_iff.1 hr).1
 obtain⟨cur,h0,hb,h3,h4,h5,hl⟩:=Ft al (fun e=>by subst e;simp at hi)
 have iK:(Own.row (.slice (some ⟨b,0,none⟩) l.length cap) E sz l).dH=some b:=vb (by omega)
 obtain⟨rW,pF,pG⟩:=h2 b iK
 have ix:r.length=sz:=cr r (List.mem_of_getElem? hr)
 have mC:=hv.length
 have hle:(i+1)*sz≤l.length*sz:=Nat.mul_le_mul_right _ hi
 have kj:l.length*sz≤cap*sz:=Nat.mul_le_mul_right _ h3
 rw[Nat.succ_mul] at hle
 have eS:=Fh (P:=P) hT (q:=q) (v:=v) hb (by simp at mC;omega) (by omega) hv.one
 refine⟨_,eS,hs.written (hs.step.write rW pF (by simp) rfl rfl rfl fun k' ec=>setRow_other w b k' _ ec) (hs.own.write hk rfl (by simp) (fun k' ec=>setRow_other w b k' _ fun e=>ec (by rw[e];exact iK.symm)) ?_)⟩
 have Nc:v.cells.toList.length=n:=by omega
 have rZ:v.cells.size=n:=by simpa using Nc
 have Nd:q+n≤cur.size:=by omega
 refine⟨fun x hx=>?_,.inr ⟨b,cap,_,by rw[List.length_set],h0,setRow_heap w b cur _ E _ hb,by rw[List.length_set];exact h3,h4,?_,?_⟩⟩
 ·rcases List.mem_or_eq_of_mem_set hx with hx|rfl
  ·exact cr x hx
  ·simp only[eo,List.length_append,List.length_take,List.length_drop];omega
 ·simp only[eo,List.size_toArray,List.length_append,List.length_take,List.length_drop,Array.length_toList];omega
 ·rw[List.length_set]
  rw[show((eo cur.toList q v.cells.toList).toArray.toList.take (l.length*sz))=eo (cur.toList.take (l.length*sz)) q v.cells.toList from Nb _ _ _ _ (by omega) (by simp;omega)]
  rw[←Fu cr hr (by omega),←hq]
  simp only[eo]
  have vu:lx.length=v.cells.toList.length:=mC.symm
  rw[vu]
  exact((hl.take q).append hv).append (hl.drop (q+v.cells.toList.length))
end
theorem AU {α:Type} {l:List α} {i:Nat} {x:α} (h:l[i]?=some x):l.set i x=l:=by
 obtain⟨hi,rfl⟩:=List.getElem?_eq_some_iff.1 h
 exact List.set_getElem_self hi
theorem Fw:∀{H:List Own} {i k b:Nat} {x y:Own},(H.filterMap Own.dH).Nodup→i≠k→H[i]?=some y→H[k]?=some x→y.dH=some b→x.dH=some b→False
 |[],_,_,_,_,_,_,_,h,_,_,_=>by simp at h
 |z::H,i,k,b,x,y,cD,bn,hi,hk,hy,hx=>by
  rw[List.filterMap_cons] at cD
  cases i with
  |zero=>
   cases k with
   |zero=>exact bn rfl
   |succ k=>
    simp at hi hk;subst hi
    rw[hy] at cD
    exact(List.nodup_cons.1 cD).1 (List.mem_filterMap.2 ⟨x,List.mem_of_getElem? hk,hx⟩)
  |succ i=>
   have Nf:(H.filterMap Own.dH).Nodup:=by
    cases hz:z.dH with
    |none=>rw[hz] at cD;exact cD
    |some c=>rw[hz] at cD;exact(List.nodup_cons.1 cD).2
   cases k with
   |zero=>
    simp at hi hk;subst hk
    rw[hx] at cD
    exact(List.nodup_cons.1 cD).1 (List.mem_filterMap.2 ⟨y,List.mem_of_getElem? hi,hy⟩)
   |succ k=>exact Fw (i:=i) (k:=k) Nf (by omega) (by simpa using hi) (by simpa using hk) hy hx
section
variable {P:Program} {c:Ctx} {I:Im} {H:List Own} {Γ:Env} {a:Act} {w:World} {Q:Exit→Act→World→Prop} {ops:Array Oper} {rest:List Oper}
variable {d:Nat} {y z:Operand} {ty T T' E:TypeId} {p:String} {af:Array Edge} {g:Bool} {gd:Option (Nat×Bool)} {n m:Nat} {zv:Value}
theorem St.freeze {x:Own} {b:Nat} {cs:Array Value} (k:Nat) (hs:St c I H Γ a w) (hk:H[k]?=some x) (hx:x.dH=some b) (hb:w.heap[b]?=some (.cells cs T (0,0))):
 St c (I.add b cs) (H.set k Own.gone) Γ a w∧Im.le I (I.add b cs):=by
 obtain⟨_,h2⟩:=hs.own.all x (List.mem_of_getElem? hk)
 obtain⟨k1,k2,k3⟩:=h2 b hx
 have hle:Im.le I (I.add b cs):=Im.u7 k2
 refine⟨⟨⟨Im.le_trans hs.step.le hle,fun b' rU Fx=>?_,fun b' ds e=>?_,hs.step.below⟩,⟨fun o ho=>?_,pE hs.own.nodup fun b e=>by cases e⟩,hs.env.up hle,hs.size,hs.defers⟩,hle⟩
 ·unfold Im.add;rw[if_neg (fun e=>by subst e;rcases k1 with h|h;exact absurd h (by omega);exact Fx h)];exact hs.step.eB b' rU Fx
 ·unfold Im.add at e
  split at e
  ·rename_i h;subst h;cases e;exact⟨T,(0,0),hb⟩
  ·exact hs.step.cE b' ds e
 ·rw[List.mem_iff_getElem?] at ho
  obtain⟨i,hi⟩:=ho
  have jP:k<H.length:=(List.getElem?_eq_some_iff.1 hk).1
  by_cases rV:i=k
  ·subst rV
   rw[List.getElem?_set_self jP] at hi;cases hi
   exact⟨trivial,fun b e=>by cases e⟩
  ·rw[List.getElem?_set_ne (fun e=>rV e.symm)] at hi
   obtain⟨h1,h3⟩:=hs.own.all o (List.mem_of_getElem? hi)
   refine⟨o.fN I _ w w hle (fun _ _=>rfl) h1,fun b' e=>?_⟩
   obtain⟨a1,a2,a3⟩:=h3 b' e
   refine⟨a1,?_,a3⟩
   unfold Im.add
   rw[if_neg (fun h=>by subst h;exact Fw hs.own.nodup rV hi hk e hx)]
   exact a2
theorem St.qF {v:Value} {sz:Nat} {l:List (List AV)} (k:Nat) (hs:St c I H Γ a w) (hk:H[k]?=some (Own.row v E sz l)):
 ∃I',St c I' (H.set k Own.gone) Γ a w∧(AV.rows sz l).h I' v:=by
 obtain⟨⟨cr,⟨rfl,pH⟩|⟨b,cap,cur,rfl,h0,hb,h3,h4,h5,hl⟩⟩,h2⟩:=hs.own.all _ (List.mem_of_getElem? hk)
 ·refine⟨I,⟨hs.step,⟨fun o ho=>?_,pE hs.own.nodup fun b e=>by cases e⟩,hs.env,hs.size,hs.defers⟩,?_⟩
  ·rcases List.mem_or_eq_of_mem_set ho with ho|rfl
   ·exact hs.own.all o ho
   ·exact⟨trivial,fun b e=>by cases e⟩
  ·rcases pH with rfl|⟨q,rfl,hq⟩
   ·exact eb sz I
   ·exact⟨some q,0,rfl,Nat.le_refl _,by simp[maxLen],fun r hr=>by simp at hr,.inl rfl,(fun h=>by cases h)⟩
 ·obtain⟨bX,hle⟩:=hs.freeze k hk (b:=b) (vb (by omega)) hb
  refine⟨_,bX,some ⟨b,0,none⟩,cap,rfl,h3,h4,cr,?_,(fun h=>by cases h)⟩
  by_cases nj:l=[]
  ·exact .inl nj
  ·refine .inr ⟨_,rfl,rfl,cur,by simp[Im.add],(hl.up hle).cast rfl ?_⟩
   simp[fj cr]
theorem St.Fy {b:Nat} {l:List AV} (k:Nat) (hs:St c I H Γ a w) (hk:H[k]?=some (Own.box b T l)):
 ∃I',St c I' (H.set k Own.gone) Γ a w∧(AV.ptr l).h I' (.pointer (some ⟨b,0,none⟩)):=by
 obtain⟨⟨cs,hb,hl⟩,h2⟩:=hs.own.all _ (List.mem_of_getElem? hk)
 obtain⟨bX,hle⟩:=hs.freeze k hk (b:=b) rfl hb
 refine⟨_,bX,⟨b,0,none⟩,rfl,rfl,cs,by simp[Im.add],(hl.up hle).cast rfl ?_⟩
 have:=hl.length
 simp only[List.drop_zero]
 rw[List.take_of_length_le (by omega)]
theorem St.tK {t:Nat} {v:Value} {x:AV} (hs:St c I H Γ a w) (ht:Env.get t Γ=some (.val v)) (hx:x.h I v):St c I H ((t,x)::Γ) a w:=
 ⟨hs.step,hs.own,fun s u e=>by
  simp only[Env.get] at e
  cases hb:Nat.beq t s with
  |true=>
   rw[hb] at e;simp at e;subst e
   obtain rfl:t=s:=Nat.eq_of_beq_eq_true hb
   have hv:a.tmps.getD t undef=v:=hs.env t _ ht
   rw[hv];exact hx
  |false=>rw[hb] at e;exact hs.env s u e,hs.size,hs.defers⟩
theorem bQ.same {base:Nat→Prop} {k:Nat} {x x':Own} (h:bQ base I w H) (hk:H[k]?=some x) (iK:x'.dH=x.dH) (ok:x'.ok I w):bQ base I w (H.set k x'):=
 h.write hk iK rfl (fun _ _=>rfl) ok
theorem St.km {b q:Nat} {l:List AV} {v:Value} {x:AV} (k:Nat) (hs:St c I H Γ a w) (hk:H[k]?=some (Own.box b T l)) (hq:l[q]?=some (.val v)) (hx:x.h I v):St c I (H.set k (Own.box b T (l.set q x))) Γ a w:=by
 obtain⟨⟨cs,hb,hl⟩,_⟩:=hs.own.all _ (List.mem_of_getElem? hk)
 refine⟨hs.step,hs.own.same hk rfl ⟨cs,hb,?_⟩,hs.env,hs.size,hs.defers⟩
 obtain⟨u,hu,hv,h1⟩:=hl.get hq
 obtain rfl:u=v:=hv
 have:=hl.set q hx h1
 refine this.cast rfl ?_
 exact AU hu
theorem St.drop (k:Nat) (hs:St c I H Γ a w):St c I (H.take k) Γ a w:=
 ⟨hs.step,⟨fun o ho=>hs.own.all o (List.mem_of_mem_take ho),hs.own.nodup.sublist ((List.take_sublist k H).filterMap _)⟩,hs.env,hs.size,hs.defers⟩
end
section
variable {P:Program} {H:List Own} {Γ:Env} {g:Bool} {d:Option Tmp} {y z z':Operand} {ty T T' E:TypeId} {p:String} {af:Array Edge} {gd:Option (Nat×Bool)} {n m:Nat} {zv:Value}
theorem Fz {I:Im} {sz:Nat} {l:List (List AV)} {q:Option Addr} {cap lo hi:Nat} (h:(AV.rows sz l).h I (.slice q l.length cap)) (h1:lo≤hi) (h2:hi≤l.length):
 (AV.rows sz ((l.drop lo).take (hi-lo))).h I (sliced q lo hi cap sz):=by
 obtain⟨q',mD,e,g1,g2,g3,g4,g5⟩:=h
 cases e
 have hlen:((l.drop lo).take (hi-lo)).length=hi-lo:=by simp;omega
 have mB:∀r∈(l.drop lo).take (hi-lo),r.length=sz:=fun r hr=>g3 r (List.mem_of_mem_drop (List.mem_of_mem_take hr))
 refine⟨if cap-lo=0 then q else q.map (·.add (lo*sz)),cap-lo,?_,by omega,by omega,mB,?_,?_⟩
 ·rw[hlen]
  unfold sliced
  by_cases hc:cap=lo
  ·rw[if_pos hc,if_pos (by omega)]
  ·rw[if_neg hc,if_neg (by omega)]
 ·by_cases h0:hi=lo
  ·left;apply List.eq_nil_of_length_eq_zero;omega
  ·right
   have bn:l≠[]:=fun e=>by subst e;simp at h2;omega
   obtain⟨⟨b,off,s⟩,rfl,kk⟩:=g4.resolve_left bn
   obtain rfl:s=none:=kk.1
   refine⟨⟨b,off+lo*sz,none⟩,by rw[if_neg (by omega)];simp[add_plain],?_⟩
   have h3:=(kk.drop (lo*sz)).take ((hi-lo)*sz)
   have e1:((l.drop lo).take (hi-lo)).flatten=(l.flatten.drop (lo*sz)).take ((hi-lo)*sz):=by
    have fd:∀(l:List (List AV)) (k:Nat),(∀r∈l,r.length=sz)→(l.drop k).flatten=l.flatten.drop (k*sz):=fun l=>by
     induction l with
     |nil=>intro k _;simp
     |cons x l ih=>
      intro k hl
      cases k with
      |zero=>simp
      |succ k=>
       rw[List.drop_succ_cons,ih k (fun r hr=>hl r (by simp[hr])),List.flatten_cons,Nat.succ_mul,Nat.add_comm,←hl x (by simp),List.drop_append]
       simp
    have ft:∀(l:List (List AV)) (k:Nat),(∀r∈l,r.length=sz)→(l.take k).flatten=l.flatten.take (k*sz):=fun l=>by
     induction l with
     |nil=>intro k _;simp
     |cons x l ih=>
      intro k hl
      cases k with
      |zero=>simp
      |succ k=>
       rw[List.take_succ_cons,List.flatten_cons,ih k (fun r hr=>hl r (by simp[hr])),List.flatten_cons,Nat.succ_mul,Nat.add_comm,←hl x (by simp),List.take_append]
       simp
       rw[List.take_of_length_le (by omega)]
    rw[ft _ _ (fun r hr=>g3 r (List.mem_of_mem_drop hr)),fd _ _ g3]
   rw[e1];exact h3
 ·intro hn
  cases q with
  |none=>have:=g5 rfl;omega
  |some q=>split at hn<;>simp at hn
theorem AW {s:Nat} {ag:Bool} {l:List (List AV)} {lo:Int} (hT:P.underlying T=some (.slice E)) (hE:Ty P E ag s m zv) (h:At Γ g y (.rows s l)) (h1:At Γ g z (.int lo)) (hb:g=true→0≤lo∧lo≤l.length):
 Ok P H Γ g ⟨d,.slice T y (some z) none none,ty,p,af,gd⟩ (.rows s (l.drop lo.toNat)):=
 fw fun _ I a w he _ _ hg=>by
  obtain⟨b0,b1⟩:=hb hg
  have hy:=h I a he hg
  obtain⟨q,cap,e,g1,_⟩:=id hy
  rw[e] at hy
  have e1:a.eval z=_:=h1 I a he hg
  have hs:(sizeOf E).run P w=.ok s w:=hE.size
  have:=Fz (lo:=lo.toNat) (hi:=l.length) hy (by omega) (by omega)
  rw[List.take_of_length_le (by simp)] at this
  refine⟨_,?_,this⟩
  simp only[execOp,Option.map_some,Option.map_none,e,e1,Instr.sliceAt,Sem.run_bind,run_underlying hT,Result.andThen_ok]
  simp[Instr.slice,run_underlying hT,Instr.sliceBounds,run_sliceBound,b0,b1,hs,sliced]
theorem vy {s:Nat} {ag:Bool} {l:List (List AV)} {hi:Int} (hT:P.underlying T=some (.slice E)) (hE:Ty P E ag s m zv) (h:At Γ g y (.rows s l)) (h2:At Γ g z' (.int hi)) (hb:g=true→0≤hi∧hi≤l.length):
 Ok P H Γ g ⟨d,.slice T y none (some z') none,ty,p,af,gd⟩ (.rows s (l.take hi.toNat)):=
 fw fun _ I a w he _ _ hg=>by
  obtain⟨b1,b2⟩:=hb hg
  have hy:=h I a he hg
  obtain⟨q,cap,e,g1,_⟩:=id hy
  rw[e] at hy
  have e2:a.eval z'=_:=h2 I a he hg
  have hs:(sizeOf E).run P w=.ok s w:=hE.size
  have:=Fz (lo:=0) (hi:=hi.toNat) hy (by omega) (by omega)
  rw[List.drop_zero,Nat.sub_zero] at this
  refine⟨_,?_,this⟩
  have c2:hi≤(cap:Int):=by omega
  simp only[execOp,Option.map_some,Option.map_none,e,e2,Instr.sliceAt,Sem.run_bind,run_underlying hT,Result.andThen_ok]
  simp[Instr.slice,run_underlying hT,Instr.sliceBounds,run_sliceBound,b1,c2,hs,sliced]
theorem Ng {l:List AV} {i:Nat} {x:AV} (h:At Γ g y (.c9 l)) (hx:l[i]?=some x):Ok P H Γ g ⟨d,.extract y i,ty,p,af,gd⟩ x:=
 fw fun _ I a w he _ _ hg=>by
  obtain⟨cs,e,hl⟩:=h I a he hg
  obtain⟨v,hv,Nh⟩:=hl.get hx
  refine⟨v,?_,Nh⟩
  have AX:cs[i]?=some v:=by simpa using hv
  simp only[execOp,e,Instr.extract]
  simp[AX]
end
end Go.Proofs.YtoeioeimmfpefaaGreat

/- Part 10: rules of the proofs, contracts of functions, plain facts. -/
import Derived.Laws.CopyRow
import Derived.Lib.AppendZerosOnto
import Derived.Lib.Overlaps
import Derived.Laws.Externs
import Derived.Test.YtoeioeimmfpefaaGreatP09
set_option linter.unusedVariables false
set_option linter.unusedSimpArgs false
namespace Go.Proofs.YtoeioeimmfpefaaGreat
open Go Go.RowKit
def Own.raw (b:Nat) (T:TypeId) (L:List (Option AV)):Own:=
 ⟨some b,fun I w=>∃cur,w.heap[b]?=some (.cells cur T (0,0))∧cur.size=L.length∧∀(i:Nat) (x:AV),L[i]?=some (some x)→∃v,cur[i]?=some v∧x.h I v∧v.oneCell'=true,
  fun I I' w w' hl hb ⟨cur,e,hs,h⟩=>⟨cur,(hb b rfl).trans e,hs,fun i x hx=>let⟨v,h1,h2,h3⟩:=h i x hx;⟨v,h1,x.up _ _ _ hl h2,h3⟩⟩⟩
theorem bD.Bs {I:Im} {l:List AV} {cs:List Value} (h:bD I l cs) {i:Nat} {x:AV} (hx:(l.map some)[i]?=some (some x)):∃c,cs[i]?=some c∧x.h I c∧c.oneCell'=true:=by
 rw[List.getElem?_map] at hx
 cases hl:l[i]? with
 |none=>rw[hl] at hx;cases hx
 |some y=>
  rw[hl] at hx
  cases hx
  exact h.get hl
theorem ya {I:Im}:∀{xs:List AV} {cs:List Value},cs.length=xs.length→(∀(i:Nat) (x:AV),xs[i]?=some x→∃v,cs[i]?=some v∧x.h I v∧v.oneCell'=true)→bD I xs cs
 |[],[],_,_=>trivial
 |[],_::_,h,_=>by simp at h
 |_::_,[],h,_=>by simp at h
 |x::xs,c::cs,h,hh=>by
  obtain⟨v,h1,h2,h3⟩:=hh 0 x rfl
  cases h1
  exact⟨⟨h2,h3⟩,ya (by simpa using h) fun i y hy=>by simpa using hh (i+1) y (by simpa using hy)⟩
def over {α:Type} (L:List α) (o:Nat) (X:List α):List α:=L.take o++X++L.drop (o+X.length)
theorem jC {α:Type} {L X:List α} {o:Nat} (h:o+X.length≤L.length):(over L o X).length=L.length:=by simp[over];omega
theorem Gf {α:Type} {L X:List α} {o i:Nat} (h:o+X.length≤L.length):(over L o X)[i]?=if i<o then L[i]? else if i<o+X.length then X[i-o]? else L[i]?:=by
 unfold over
 have h1:(L.take o).length=o:=by simp;omega
 by_cases a:i<o
 ·rw[if_pos a,List.append_assoc,List.getElem?_append_left (by omega),List.getElem?_take,if_pos a]
 ·rw[if_neg a]
  by_cases b:i<o+X.length
  ·rw[if_pos b,List.getElem?_append_left (by simp;omega),List.getElem?_append_right (by omega),h1]
  ·rw[if_neg b,List.getElem?_append_right (by simp;omega),List.getElem?_drop]
   congr 1
   simp;omega
section
variable {P:Program} {c:Ctx} {I:Im} {H:List Own} {Γ:Env} {a:Act} {w:World} {Q:Exit→Act→World→Prop} {ops:Array Oper} {rest:List Oper}
variable {d:Nat} {y z z':Operand} {ty T T' E E':TypeId} {p:String} {af:Array Edge} {g:Bool} {gd:Option (Nat×Bool)} {n m:Nat} {zv:Value}
theorem NO {b:Nat} {L:List (Option AV)} (h:(Own.raw b T L).ok I w) {i:Nat} {x:AV} (hx:L[i]?=some (some x)):∃v,w.cell? ⟨b,i,none⟩=some v∧x.h I v∧v.oneCell'=true:=by
 obtain⟨cur,hb,cr,hc⟩:=h
 obtain⟨v,h1,h2,h3⟩:=hc i x hx
 exact⟨v,by simp[World.cell?,hb,h1],h2,h3⟩
theorem Bt {b o:Nat} {L:List (Option AV)} {xs:List AV} (h:(Own.raw b T L).ok I w) (hx:(L.drop o).take xs.length=xs.map some):∃cs:List Value,bD I xs cs∧∀j v,cs[j]?=some v→w.cell? ((⟨b,o,none⟩:Addr).add j)=some v:=by
 have key:∀j x,xs[j]?=some x→∃v,w.cell? ⟨b,o+j,none⟩=some v∧x.h I v∧v.oneCell'=true:=fun j x hj=>by
  have jy:j<xs.length:=(List.getElem?_eq_some_iff.1 hj).1
  have e:(xs.map some)[j]?=some (some x):=by rw[List.getElem?_map,hj];rfl
  rw[←hx,List.getElem?_take,if_pos jy,List.getElem?_drop] at e
  exact NO h e
 have ch:∀j:Nat,∃v,j<xs.length→w.cell? ⟨b,o+j,none⟩=some v∧∀x,xs[j]?=some x→x.h I v∧v.oneCell'=true:=fun j=>by
  by_cases hj:j<xs.length
  ·obtain⟨v,h1,h2,h3⟩:=key j xs[j] (by simp[hj])
   exact⟨v,fun _=>⟨h1,fun x hx=>by rw[List.getElem?_eq_getElem hj] at hx;cases hx;exact⟨h2,h3⟩⟩⟩
  ·exact⟨undef,fun h=>absurd h hj⟩
 let f:Nat→Value:=fun j=>(ch j).choose
 have hf:∀j,j<xs.length→w.cell? ⟨b,o+j,none⟩=some (f j)∧∀x,xs[j]?=some x→x.h I (f j)∧(f j).oneCell'=true:=fun j=>(ch j).choose_spec
 refine⟨(List.range xs.length).map f,ya (by simp) fun i x hi=>?_,fun j v hj=>?_⟩
 ·have jm:i<xs.length:=(List.getElem?_eq_some_iff.1 hi).1
  exact⟨f i,by simp[jm],(hf i jm).2 x hi⟩
 ·rw[add_plain]
  have jy:j<xs.length:=by have:=(List.getElem?_eq_some_iff.1 hj).1;simpa using this
  simp[jy] at hj
  rw[←hj];exact(hf j jy).1
theorem St.pN {v:Value} {sz:Nat} {l:List (List AV)} (k:Nat) (hs:St c I H Γ a w) (hk:H[k]?=some (Own.row v E sz l)) (bn:l≠[]):
 ∃b cap,v=.slice (some ⟨b,0,none⟩) l.length cap∧l.length≤cap∧cap≤maxLen∧0<cap∧St c I (H.set k (Own.raw b E (l.flatten.map some++List.replicate ((cap-l.length)*sz) none))) Γ a w:=by
 obtain⟨⟨cr,⟨rfl,_⟩|⟨b,cap,cur,rfl,h0,hb,h3,h4,h5,hl⟩⟩,h2⟩:=hs.own.all _ (List.mem_of_getElem? hk)
 ·exact absurd rfl bn
 ·have iZ:=fj cr
  refine⟨b,cap,rfl,h3,h4,h0,hs.step,?_,hs.env,hs.size,hs.defers⟩
  have ah:kV (.slice (some ⟨b,0,none⟩) l.length cap)=some b:=va h0
  refine⟨fun o ho=>?_,pE hs.own.nodup fun b' e=>.inl ⟨_,hk,by rw[tw,ah];exact e⟩⟩
  rcases List.mem_or_eq_of_mem_set ho with ho|rfl
  ·exact hs.own.all o ho
  ·refine⟨⟨cur,hb,?_,fun i x hx=>?_⟩,fun b' e=>h2 b' (by rw[tw,ah];exact e)⟩
   ·rw[List.length_append,List.length_map,List.length_replicate,iZ,h5,←Nat.add_mul]
    congr 1;omega
   ·by_cases hi:i<l.flatten.length
    ·rw[List.getElem?_append_left (by rw[List.length_map];exact hi)] at hx
     obtain⟨u,hu,Bu,Bv⟩:=hl.Bs hx
     refine⟨u,?_,Bu,Bv⟩
     rw[List.getElem?_take] at hu
     split at hu
     ·simpa using hu
     ·cases hu
    ·rw[List.getElem?_append_right (by rw[List.length_map];omega),List.getElem?_replicate] at hx
     split at hx<;>cases hx
theorem St.pO {b cap sz:Nat} {L:List (Option AV)} {l:List (List AV)} (k:Nat) (hs:St c I H Γ a w) (hk:H[k]?=some (Own.raw b E L)) (hL:L.length=cap*sz) (cr:∀r∈l,r.length=sz) (hl:l.length≤cap) (h0:0<cap) (hm:cap≤maxLen)
 (he:L.take (l.length*sz)=l.flatten.map some):St c I (H.set k (Own.row (.slice (some ⟨b,0,none⟩) l.length cap) E sz l)) Γ a w:=by
 obtain⟨⟨cur,hb,iL,hc⟩,h2⟩:=hs.own.all _ (List.mem_of_getElem? hk)
 have iZ:=fj cr
 have ah:kV (.slice (some ⟨b,0,none⟩) l.length cap)=some b:=va h0
 refine⟨hs.step,⟨fun o ho=>?_,pE hs.own.nodup fun b' e=>.inl ⟨_,hk,by rw[tw,ah] at e;exact e⟩⟩,hs.env,hs.size,hs.defers⟩
 rcases List.mem_or_eq_of_mem_set ho with ho|rfl
 ·exact hs.own.all o ho
 ·refine⟨⟨cr,.inr ⟨b,cap,cur,rfl,h0,hb,hl,hm,by omega,ya ?_ fun i x hx=>?_⟩⟩,fun b' e=>h2 b' (by rw[tw,ah] at e;exact e)⟩
  ·have h6:l.length*sz≤cap*sz:=Nat.mul_le_mul_right _ hl
   rw[iZ];simp;omega
  ·have jm:i<l.length*sz:=by rw[←iZ];exact(List.getElem?_eq_some_iff.1 hx).1
   have e:(l.flatten.map some)[i]?=some (some x):=by rw[List.getElem?_map,hx];rfl
   rw[←he,List.getElem?_take,if_pos jm] at e
   obtain⟨u,h1,h3,h4⟩:=hc i x e
   exact⟨u,by rw[List.getElem?_take,if_pos jm];simpa using h1,h3,h4⟩
theorem Bw {q:Option Addr} {n cap:Nat} {t:Int} {sz:Nat} {ag:Bool} (hT:P.underlying T=some (.slice E)) (hE:Ty P E ag sz m zv) (h:At Γ g y (.val (.slice q n cap))) (h1:At Γ g z (.int t)) (ot:0≤t∧t≤n) (kj:n≤cap):
 Ok P H Γ g ⟨some d,.slice T y (some z) none none,ty,p,af,gd⟩ .any:=
 fw fun _ I a w he _ _ hg=>by
  have e:a.eval y=_:=h I a he hg
  have e1:a.eval z=_:=h1 I a he hg
  have hs:(sizeOf E).run P w=.ok sz w:=hE.size
  refine⟨sliced q t.toNat n cap sz,?_,trivial⟩
  simp only[execOp,Option.map_some,Option.map_none,e,e1,Instr.sliceAt,Sem.run_bind,run_underlying hT,Result.andThen_ok]
  simp[Instr.slice,run_underlying hT,Instr.sliceBounds,run_sliceBound,ot.1,ot.2,hs,sliced]
theorem iO {b o n cap lo sz:Nat} {t:Int} {ag:Bool} (hT:P.underlying T=some (.slice E)) (hE:Ty P E ag sz m zv) (h:At Γ g y (.val (.slice (some ⟨b,o,none⟩) n cap))) (h1:At Γ g z (.int t)) (ht:t=lo) (ot:lo≤n) (kj:lo<cap):
 Ok P H Γ g ⟨some d,.slice T y (some z) none none,ty,p,af,gd⟩ (.val (.slice (some ⟨b,o+lo*sz,none⟩) (n-lo) (cap-lo))):=
 fw fun _ I a w he _ _ hg=>by
  subst ht
  have e:a.eval y=_:=h I a he hg
  have e1:a.eval z=_:=h1 I a he hg
  have hs:(sizeOf E).run P w=.ok sz w:=hE.size
  refine⟨_,?_,rfl⟩
  have c3:¬cap=lo:=by omega
  have c1:(lo:Int)≤(n:Int):=by omega
  simp only[execOp,Option.map_some,Option.map_none,e,e1,Instr.sliceAt,Sem.run_bind,run_underlying hT,Result.andThen_ok]
  simp[Instr.slice,run_underlying hT,Instr.sliceBounds,run_sliceBound,ot,hs,sliced,c3,add_plain]
theorem pP {b o n cap hi sz:Nat} {t:Int} {ag:Bool} (hT:P.underlying T=some (.slice E)) (hE:Ty P E ag sz m zv) (h:At Γ g y (.val (.slice (some ⟨b,o,none⟩) n cap))) (h1:At Γ g z (.int t)) (ht:t=hi) (Bx:hi≤cap) (hc:0<cap):
 Ok P H Γ g ⟨some d,.slice T y none (some z) none,ty,p,af,gd⟩ (.val (.slice (some ⟨b,o,none⟩) hi cap)):=
 fw fun _ I a w he _ _ hg=>by
  subst ht
  have e:a.eval y=_:=h I a he hg
  have e1:a.eval z=_:=h1 I a he hg
  have hs:(sizeOf E).run P w=.ok sz w:=hE.size
  refine⟨_,?_,rfl⟩
  have c3:¬cap=0:=by omega
  have c1:(hi:Int)≤(cap:Int):=by omega
  simp only[execOp,Option.map_some,Option.map_none,e,e1,Instr.sliceAt,Sem.run_bind,run_underlying hT,Result.andThen_ok]
  simp[Instr.slice,run_underlying hT,Instr.sliceBounds,run_sliceBound,Bx,hs,sliced,c3,add_plain]
theorem By {q:Option Addr} {n cap:Nat} (hT:P.underlying T=some (.slice E)) (h:At Γ g y (.val (.slice q n cap))):
 Ok P H Γ g ⟨some d,.call ⟨.builtin .cap,#[y],#[T]⟩,ty,p,af,gd⟩ (.int cap):=
 fw fun _ I a w he _ _ hg=>by
  have e:a.eval y=_:=h I a he hg
  refine⟨_,?_,rfl⟩
  simp[execOp,resolve,invoke,builtin,e,Builtin.cap_,run_underlying hT,goInt]
theorem Gg {T1 T2:TypeId} {ag:Bool} {sz b o dn dc sn sc:Nat} {ad:Addr} {cur:Array Value} {cs:List Value} (hU:P.underlying T1=some (.slice E)) (hE:Ty P E ag sz m zv) (hb:w.heap[b]?=some (.cells cur T (0,0))) (hn:cs.length=min sn dn*sz)
 (NP:∀j v,cs[j]?=some v→w.cell? (ad.add j)=some v) (ik:o+cs.length≤cur.size) (h1:∀v∈cs,v.oneCell'=true):
 (Builtin.copy_ #[T1,T2] ty #[.slice (some ⟨b,o,none⟩) dn dc,.slice (some ad) sn sc]).run P w=.ok (goInt ((min sn dn:Nat):Int)) (w.setRow b (over cur.toList o cs).toArray):=by
 have hs:(sizeOf E).run P w=.ok sz w:=hE.size
 have Ba:Nat.min sn dn=min sn dn:=rfl
 have hl:=run_loadCells_list (P:=P) w ad cs NP
 rw[hn] at hl
 have cm:=run_storeCells_at P b o T cs 0 cur w hb (by simpa using ik) h1
 simp only[Nat.add_zero] at cm
 simp only[Builtin.copy_,Sem.run_bind,Sem.run_pure,List.getElem?_toArray,List.getElem?_cons_zero,List.getElem?_cons_succ,run_underlying hU,Result.andThen_ok,Builtin.lenOf,Ba,hs,Builtin.firstCells,hl,cm]
 simp[over]
theorem St.copied {b o:Nat} {L:List (Option AV)} {xs:List AV} {cs:List Value} {cur:Array Value} (k:Nat) (hs:St c I H Γ a w) (hk:H[k]?=some (Own.raw b T L)) (hb:w.heap[b]?=some (.cells cur T (0,0))) (iL:cur.size=L.length) (nx:∀(i:Nat) (x:AV),L[i]?=some (some x)→∃v,cur[i]?=some v∧x.h I v∧v.oneCell'=true)
 (hx:bD I xs cs) (ik:o+xs.length≤L.length):St c I (H.set k (Own.raw b T (over L o (xs.map some)))) Γ a (w.setRow b (over cur.toList o cs).toArray):=by
 obtain⟨_,h2⟩:=hs.own.all _ (List.mem_of_getElem? hk)
 obtain⟨rW,pF,pG⟩:=h2 b rfl
 have hlen:=hx.length
 refine hs.written (hs.step.write rW pF (by simp) rfl rfl rfl fun k' ec=>setRow_other w b k' _ ec) (hs.own.write hk rfl (by simp) (fun k' ec=>setRow_other w b k' _ fun e=>ec (by rw[e];rfl)) ⟨_,setRow_heap w b cur _ T _ hb,?_,fun i x hi=>?_⟩)
 ·rw[jC (by simpa using ik)]
  have:(over cur.toList o cs).length=cur.toList.length:=jC (by simp;omega)
  simpa using this.trans (by simpa using iL)
 ·have e1:=Gf (L:=L) (X:=xs.map some) (o:=o) (i:=i) (by simpa using ik)
  have e2:=Gf (L:=cur.toList) (X:=cs) (o:=o) (i:=i) (by simp;omega)
  have e3:(over cur.toList o cs).toArray[i]?=(over cur.toList o cs)[i]?:=by simp
  rw[e3,e2]
  rw[e1] at hi
  simp only[List.length_map] at hi
  rw[hlen]
  by_cases h3:i<o
  ·rw[if_pos h3] at hi⊢
   simpa using nx i x hi
  ·rw[if_neg h3] at hi⊢
   by_cases h4:i<o+xs.length
   ·rw[if_pos h4] at hi⊢
    exact hx.Bs hi
   ·rw[if_neg h4] at hi⊢
    simpa using nx i x hi
theorem St.tO {T1 T2:TypeId} {ag:Bool} {sz b o dn dc:Nat} {L:List (Option AV)} {l2:List (List AV)} (k:Nat) (hs:St c I H Γ a w) (hU:P.underlying T1=some (.slice E)) (hE:Ty P E ag sz m zv) (hy:At Γ true y (.val (.slice (some ⟨b,o,none⟩) dn dc))) (hz:At Γ true z (.rows sz l2)) (hk:H[k]?=some (Own.raw b T L)) (bn:l2≠[])
 (hle:l2.length≤dn) (ik:o+l2.length*sz≤L.length) (hd:Nat.blt d c.n=true)
 (kk:∀{a' w'},St c I (H.set k (Own.raw b T (over L o (l2.flatten.map some)))) ((d,.int l2.length)::Γ) a' w'→wpList P ops Q rest a' w'):
 wpList P ops Q (⟨some d,.call ⟨.builtin .copy,#[y,z],#[T1,T2]⟩,ty,p,af,none⟩::rest) a w:=by
 have e1:a.eval y=_:=hy I a hs.env rfl
 obtain⟨q,cap,e2,g1,g2,g3,g4,g5⟩:=hz I a hs.env rfl
 obtain⟨qa,rfl,hq⟩:=g4.resolve_left bn
 obtain⟨qb,qo,qs⟩:=qa
 obtain rfl:qs=none:=hq.1
 obtain⟨cs,h1,h2,h3⟩:=hq.toArray hs.step.cE
 obtain⟨⟨cur,hb,iL,nx⟩,_⟩:=hs.own.all _ (List.mem_of_getElem? hk)
 have iZ:=fj g3
 have bB:cs.length=l2.length*sz:=by rw[h2.length,iZ]
 have hr:=Gg (P:=P) (T2:=T2) (ty:=ty) (dn:=dn) (dc:=dc) (sc:=cap) (o:=o) hU hE hb (by rw[bB,Nat.min_eq_left hle]) h3 (by omega) h2.one
 rw[Nat.min_eq_left hle] at hr
 refine gZ rfl ?_
 unfold Oper.wp
 simp only[execOp,resolve,invoke,builtin,Sem.run_bind,Sem.run_pure,Result.andThen_ok,List.map_toArray,List.map_cons,List.map_nil,e1,e2,hr]
 have bX:=hs.copied k hk hb iL nx h2 (by omega) (o:=o)
 exact kk (bX.kY bX.step (Im.le_refl _) bX.own hd rfl)
theorem St.tP {T1 T2:TypeId} {ag:Bool} {sz b o dn dc b2 o2 sn sc:Nat} {L L2:List (Option AV)} {xs:List AV} (k k2:Nat) (hs:St c I H Γ a w) (hU:P.underlying T1=some (.slice E)) (hE:Ty P E ag sz m zv) (hy:At Γ true y (.val (.slice (some ⟨b,o,none⟩) dn dc))) (hz:At Γ true z (.val (.slice (some ⟨b2,o2,none⟩) sn sc))) (hk:H[k]?=some (Own.raw b T L)) (jn:H[k2]?=some (Own.raw b2 T' L2))
 (hx:(L2.drop o2).take xs.length=xs.map some) (k0:xs.length=min sn dn*sz) (ik:o+xs.length≤L.length) (hd:Nat.blt d c.n=true)
 (kk:∀{a' w'},St c I (H.set k (Own.raw b T (over L o (xs.map some)))) ((d,.int ((min sn dn:Nat):Int))::Γ) a' w'→wpList P ops Q rest a' w'):
 wpList P ops Q (⟨some d,.call ⟨.builtin .copy,#[y,z],#[T1,T2]⟩,ty,p,af,none⟩::rest) a w:=by
 have e1:a.eval y=_:=hy I a hs.env rfl
 have e2:a.eval z=_:=hz I a hs.env rfl
 obtain⟨cs,h2,h3⟩:=Bt (hs.own.all _ (List.mem_of_getElem? jn)).1 hx
 obtain⟨⟨cur,hb,iL,nx⟩,_⟩:=hs.own.all _ (List.mem_of_getElem? hk)
 have bB:cs.length=min sn dn*sz:=by rw[h2.length,k0]
 have hr:=Gg (P:=P) (T2:=T2) (ty:=ty) (dn:=dn) (dc:=dc) (sc:=sc) (o:=o) hU hE hb bB h3 (by omega) h2.one
 refine gZ rfl ?_
 unfold Oper.wp
 simp only[execOp,resolve,invoke,builtin,Sem.run_bind,Sem.run_pure,Result.andThen_ok,List.map_toArray,List.map_cons,List.map_nil,e1,e2,hr]
 have bX:=hs.copied k hk hb iL nx h2 ik (o:=o)
 exact kk (bX.kY bX.step (Im.le_refl _) bX.own hd rfl)
theorem St.Bz {TN:TypeId} {ag:Bool} {sz b o i cap iA:Nat} {t:Int} {L:List (Option AV)} {xs:List AV} {k:IntKind} (j:Nat) (hs:St c I H Γ a w) (hU:P.underlying T=some (.slice E)) (hN:P.underlying TN=some (.int k)) (hE:Ty P E ag sz m zv) (fB:zv.cells.size=sz) (h0:0<sz)
 (hy:At Γ true y (.val (.slice (some ⟨b,o,none⟩) i cap))) (hz:At Γ true z (.int t)) (ht:t=iA) (BA:0<iA) (hk:H[j]?=some (Own.raw b T' L)) (hx:(L.drop o).take xs.length=xs.map some) (k0:xs.length=i*sz) (hg:cap<i+iA) (hb:(i+iA)*m≤140737488355328) (rX:i+iA≤140737488355328) (hd:Nat.blt d c.n=true)
 (kc:∀{g mD a' w'},i+iA≤mD→mD≤maxLen→St c I (H++[Own.raw g E (xs.map some++List.replicate ((mD-i)*sz) none)]) ((d,.val (.slice (some ⟨g,0,none⟩) (i+iA) mD))::Γ) a' w'→wpList P ops Q rest a' w'):
 wpList P ops Q (⟨some d,.call ⟨.builtin .append,#[y,z],#[T,TN]⟩,ty,p,af,none⟩::rest) a w:=by
 subst ht
 have e1:a.eval y=_:=hy I a hs.env rfl
 have e2:a.eval z=_:=hz I a hs.env rfl
 obtain⟨ti,hi,qE,fA,tJ⟩:=hE.get
 obtain⟨cs,h2,h3⟩:=Bt (hs.own.all _ (List.mem_of_getElem? hk)).1 hx
 have bB:cs.length=i*sz:=by rw[h2.length,k0]
 have hold:(Builtin.firstCells ti.size i (.slice (some ⟨b,o,none⟩) i cap)).run P w.drew=.ok cs.toArray w.drew:=by
  have:=run_loadCells_list (P:=P) w.drew ⟨b,o,none⟩ cs (fun j v hj=>h3 j v hj)
  rw[bB] at this
  simpa[Builtin.firstCells,qE] using this
 have hr:=Lib.run_append_grow_zeros (P:=P) w T TN ty E ti zv .i64 k hU hN hi tJ (some ⟨b,o,none⟩) i cap cs hold iA BA (by omega) hg (by omega) (by
  rw[fA]
  have:iA*m≤(i+iA)*m:=Nat.mul_le_mul_right _ (by omega)
  omega) (by rw[fA];exact growslice_fits hg hb)
 refine gZ rfl ?_
 unfold Oper.wp
 simp only[execOp,resolve,invoke,builtin,Sem.run_bind,Sem.run_pure,Result.andThen_ok,List.map_toArray,List.map_cons,List.map_nil,e1,e2,hr]
 have rY:=grownCap_ge w (i+iA) cap E
 have qQ:=grownCap_le_maxLen w (i+iA) cap E (by simp only[maxLen];omega)
 have gK:bQ c.own I w.drew H:=⟨fun o ho=>⟨o.fN I I w _ (Im.le_refl I) (fun _ _=>rfl) (hs.own.all o ho).1,(hs.own.all o ho).2⟩,hs.own.nodup⟩
 have al:(Own.raw w.heap.size E (xs.map some++List.replicate ((grownCap w (i+iA) cap E-i)*sz) none)).ok I (w.drew.alloc (.cells (cs.toArray++Builtin.zeroCells zv.cells iA++Builtin.zeroCells zv.cells (grownCap w (i+iA) cap E-(i+iA))) E)):=by
  refine⟨_,qC w.drew _,?_,fun q x hq=>?_⟩
  ·have s1:=size_zeroCells zv.cells iA
   have s2:=size_zeroCells zv.cells (grownCap w (i+iA) cap E-(i+iA))
   rw[Array.size_append,Array.size_append,s1,s2,fB]
   simp only[List.size_toArray,List.length_append,List.length_map,List.length_replicate,bB,k0,←Nat.add_mul]
   congr 1;omega
  ·by_cases BB:q<xs.length
   ·rw[List.getElem?_append_left (by simpa using BB)] at hq
    obtain⟨u,hu,Bu,Bv⟩:=h2.Bs hq
    refine⟨u,?_,Bu,Bv⟩
    have NQ:q<cs.toArray.size:=by simp;rw[h2.length];exact BB
    rw[Array.append_assoc,Array.getElem?_append_left NQ]
    simpa using hu
   ·rw[List.getElem?_append_right (by simpa using BB),List.getElem?_replicate] at hq
    split at hq<;>cases hq
 exact kc rY qQ (hs.kY (hs.step.trans (Step.Fq hs.step.cE _)) (Im.le_refl _) (gK.push hs.room rfl hs.step.cE al) hd rfl)
theorem NR (tS tR e:TypeId) (ht:P.underlying tS=some (.slice e)) (size:Nat) (hz:∀w,(Go.sizeOf e).run P w=.ok size w)
 (a b:Addr) (la ca lb cb:Nat) (bn:a.block≠b.block) (tA tB:TypeId) (kA kB:Nat)
 (NS:w.shape? a.block=some (tA,kA)) (NT:kA≠0) (vJ:w.shape? b.block=some (tB,kB)) (NU:w.frozen? b=false) (NV:w.frozen? {block:=b.block,off:=kB}=false):
 (Extern.SlicesOverlaps.overlaps #[tS,tS] #[tR] #[.slice (some a) la ca,.slice (some b) lb cb]).run P w=.ok (.bool false) w:=by
 have xN:(a.block !=b.block)=true:=by simpa using bn
 have NW:(a.block==b.block)=false:=by simpa using bn
 change Sem.run P (α:=Value) (do
  let some t:=(#[tS,tS]:Array TypeId)[0]?|stuck "slices.overlaps: no parameter types"
  let .slice elem←underlying t|stuck "slices.overlaps: slice type expected"
  let size←sizeOf elem
  match(some a:Option Addr),(some b:Option Addr) with
  |some a,some b=>
   if la=0∨lb=0∨size=0 then pure (Value.bool false)
   else if a.block !=b.block&&(←frozen a)&&(←frozen b) then unsupported .addressObserved
   else do
    if a.block !=b.block then do
     noView a;noView b
     if←mayBeOne a b then return Value.bool ((←choose (.extern "sameAddr.stringBytes" 2))==1)
    pure (Value.bool (a.block==b.block&&a.off<b.off+lb*size&&b.off<a.off+la*size))
  |_,_=>pure (Value.bool false)) w=_
 by_cases h0:la=0∨lb=0∨size=0
 ·simp[run_underlying ht,hz,h0]
 ·cases kA with
  |zero=>exact absurd rfl NT
  |succ kA=>
   cases NX:w.frozen? a<;>cases NY:w.frozen? {block:=a.block,off:=kA+1}<;>
    simp[run_underlying ht,hz,h0,xN,NW,frozen,noView,viewAt,mayBeOne,stringish,shape,Sem.run,NS,vJ,NU,NV,NX,NY]
theorem St.overlaps {f:FuncId} {fn:Func} {ts:Array TypeId} {tR:TypeId} {ag:Bool} {sz b o n cap:Nat} {L:List (Option AV)} {l2:List (List AV)} (k:Nat) (hs:St c I H Γ a w) (hf:P.funcs[f]?=some fn) (nh:(fn.name== "runtime.NumGoroutine")=false) (hb:fn.body.isNone=true) (hn:Extern.findNext fn=none) (he:Extern.find fn=some (Extern.SlicesOverlaps.overlaps #[T,T] #[tR]))
 (hU:P.underlying T=some (.slice E)) (hE:Ty P E ag sz m zv) (h0:0<sz) (hy:At Γ true y (.rows sz l2)) (bn:l2≠[]) (hz:At Γ true z (.val (.slice (some ⟨b,o,none⟩) n cap))) (hk:H[k]?=some (Own.raw b T' L)) (hd:Nat.blt d c.n=true)
 (kk:∀{a' w'},St c I H ((d,.bool false)::Γ) a' w'→wpList P ops Q rest a' w'):
 wpList P ops Q (⟨some d,.call ⟨.value (.func f),#[y,z],ts⟩,ty,p,af,none⟩::rest) a w:=by
 have e2:a.eval z=_:=hz I a hs.env rfl
 obtain⟨q,lN,e1,g1,g2,g3,g4,g5⟩:=hy I a hs.env rfl
 obtain⟨qa,rfl,Nd,cs,vL,NZ⟩:=g4.resolve_left bn
 obtain⟨TT,fr,Gh⟩:=hs.step.cE _ _ vL
 obtain⟨⟨cur,ae,iL,nx⟩,h2⟩:=hs.own.all _ (List.mem_of_getElem? hk)
 have pF:=(h2 b rfl).2.1
 have N0:qa.block≠b:=fun e=>by rw[e,pF] at vL;cases vL
 have k4:cs.size≠0:=fun h=>by
  have hl:=NZ.length
  have iZ:=fj g3
  have:0<l2.length:=List.length_pos_iff.2 bn
  have h6:0<l2.length*sz:=Nat.mul_pos this h0
  have hle:((cs.toList.drop qa.off).take l2.flatten.length).length≤cs.toList.length:=by simp;omega
  have:cs.toList.length=0:=by simpa using h
  omega
 have eS:=NR (P:=P) (w:=w) T tR E hU sz (fun w=>hE.size) qa ⟨b,o,none⟩ l2.length lN n cap N0 TT T' cs.size cur.size (by simp[World.shape?,Gh]) k4 (by simp[World.shape?,ae]) (by simp[World.frozen?,ae]) (by simp[World.frozen?,ae])
 refine gZ rfl ?_
 unfold Oper.wp
 have hc:(execOp a.eval (⟨some d,.call ⟨.value (.func f),#[y,z],ts⟩,ty,p,af,none⟩:Oper)).run P w=.ok (.value (.bool false)) w:=by
  simp only[execOp,resolve,Act.eval]
  simp[Deferred.ofValue,invoke,Sem.run_bind,Sem.run_pure,run_callFunc_extern hf nh hb hn he,e1,e2,eS]
 rw[hc]
 exact kk (hs.kY hs.step (Im.le_refl _) hs.own hd rfl)
end
end Go.Proofs.YtoeioeimmfpefaaGreat

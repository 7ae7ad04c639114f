/- Part 3: rules of the proofs, contracts of functions, plain facts. -/
import Derived.Test.YtoeioeimmfpefaaGreatP02
set_option linter.unusedVariables false
set_option linter.unusedSimpArgs false
namespace Go.Proofs.YtoeioeimmfpefaaGreat
open Go Go.RowKit
def Own.gone:Own:=⟨none,fun _ _=>True,fun _ _ _ _ _ _ _=>trivial⟩
section
variable {base:Nat→Prop} {I:Im} {w:World} {H:List Own}
theorem bQ.push (h:bQ base I w H) (hb:base w.heap.size) {o:Obj} {x:Own} (iK:x.dH=some w.heap.size) (hm:dr w I) (ok:x.ok I (w.alloc o)):bQ base I (w.alloc o) (H++[x]):=by
 have h':=h.step (Step.alloc hm o)
 refine⟨fun y hy=>?_,?_⟩
 ·rcases List.mem_append.1 hy with hy|hy
  ·exact h'.all y hy
  ·obtain rfl:y=x:=by simpa using hy
   refine⟨ok,fun b e=>?_⟩
   rw[iK] at e;cases e
   exact⟨hb,hm.none (Nat.le_refl _),by simp⟩
 ·rw[List.filterMap_append,List.nodup_append]
  refine⟨h'.nodup,by simp[iK],fun b rU b' ah=>?_⟩
  obtain⟨y,hy,e⟩:=List.mem_filterMap.1 rU
  have:=((h.all y hy).2 b e).2.2
  simp[iK] at ah
  omega
theorem pE {x:Own} {k:Nat} (hd:(H.filterMap Own.dH).Nodup) (hx:∀b,x.dH=some b→(∃y,H[k]?=some y∧y.dH=some b)∨∀y∈H,y.dH≠some b):
 ((H.set k x).filterMap Own.dH).Nodup:=by
 induction H generalizing k with
 |nil=>simp
 |cons z H ih=>
  cases k with
  |zero=>
   simp only[List.set_cons_zero]
   cases hb:x.dH with
   |none=>
    rw[List.filterMap_cons,hb]
    rw[List.filterMap_cons] at hd
    cases hz:z.dH with
    |none=>rw[hz] at hd;exact hd
    |some c=>rw[hz] at hd;exact(List.nodup_cons.1 hd).2
   |some b=>
    rw[List.filterMap_cons,hb]
    have gK:(H.filterMap Own.dH).Nodup:=by
     rw[List.filterMap_cons] at hd
     cases hz:z.dH with
     |none=>rw[hz] at hd;exact hd
     |some c=>rw[hz] at hd;exact(List.nodup_cons.1 hd).2
    refine List.nodup_cons.2 ⟨fun hm=>?_,gK⟩
    obtain⟨y,hy,e⟩:=List.mem_filterMap.1 hm
    rcases hx b hb with⟨y',h1,h2⟩|h
    ·simp at h1;subst h1
     rw[List.filterMap_cons,h2] at hd
     exact(List.nodup_cons.1 hd).1 (List.mem_filterMap.2 ⟨y,hy,e⟩)
    ·exact h y (by simp[hy]) e
  |succ k=>
   simp only[List.set_cons_succ]
   rw[List.filterMap_cons] at hd⊢
   cases hz:z.dH with
   |none=>
    rw[hz] at hd
    refine ih hd fun b hb=>?_
    rcases hx b hb with⟨y,h1,h2⟩|h
    ·exact .inl ⟨y,by simpa using h1,h2⟩
    ·exact .inr fun y hy=>h y (by simp[hy])
   |some c=>
    rw[hz] at hd
    obtain⟨h1,h2⟩:=List.nodup_cons.1 hd
    refine List.nodup_cons.2 ⟨fun hm=>?_,ih h2 fun b hb=>?_⟩
    ·obtain⟨y,hy,e⟩:=List.mem_filterMap.1 hm
     rcases List.mem_or_eq_of_mem_set hy with hy|rfl
     ·exact h1 (List.mem_filterMap.2 ⟨y,hy,e⟩)
     ·rcases hx c e with⟨y',h3,h4⟩|h
      ·exact h1 (List.mem_filterMap.2 ⟨y',List.mem_of_getElem? (by simpa using h3),h4⟩)
      ·exact h z (by simp) hz
    ·rcases hx b hb with⟨y,h3,h4⟩|h
     ·exact .inl ⟨y,by simpa using h3,h4⟩
     ·exact .inr fun y hy=>h y (by simp[hy])
theorem bQ.write {w':World} {k:Nat} {x x':Own} (h:bQ base I w H) (hk:H[k]?=some x) (iK:x'.dH=x.dH) (MW:w'.heap.size=w.heap.size)
 (hw:∀b,some b≠x.dH→w'.heap[b]?=w.heap[b]?) (ok:x'.ok I w'):bQ base I w' (H.set k x'):=by
 have jP:k<H.length:=(List.getElem?_eq_some_iff.1 hk).1
 refine⟨fun y hy=>?_,pE h.nodup fun b hb=>.inl ⟨x,hk,by rw[←iK];exact hb⟩⟩
 rw[List.mem_iff_getElem?] at hy
 obtain⟨i,hi⟩:=hy
 by_cases rV:i=k
 ·subst rV
  rw[List.getElem?_set_self jP] at hi
  cases hi
  obtain⟨_,h2⟩:=h.all x (List.mem_of_getElem? hk)
  exact⟨ok,fun b hb=>by obtain⟨a1,a2,a3⟩:=h2 b (by rw[←iK];exact hb);exact⟨a1,a2,by omega⟩⟩
 ·rw[List.getElem?_set_ne (fun e=>rV e.symm)] at hi
  obtain⟨h1,h2⟩:=h.all y (List.mem_of_getElem? hi)
  refine⟨y.fN I I w w' (Im.le_refl I) (fun b hb=>hw b fun e=>?_) h1,fun b hb=>by obtain⟨a1,a2,a3⟩:=h2 b hb;exact⟨a1,a2,by omega⟩⟩
  have cD:=h.nodup
  have bn:∀(L:List Own) (i k:Nat),(L.filterMap Own.dH).Nodup→i≠k→L[i]?=some y→L[k]?=some x→False:=by
   intro L
   induction L with
   |nil=>intro i k _ _ hi;simp at hi
   |cons z L ih=>
    intro i k cD bn hi hk
    cases i with
    |zero=>
     cases k with
     |zero=>exact bn rfl
     |succ k=>
      simp at hi hk;subst hi
      rw[List.filterMap_cons,hb] at cD
      exact(List.nodup_cons.1 cD).1 (List.mem_filterMap.2 ⟨x,List.mem_of_getElem? hk,e.symm⟩)
    |succ i=>
     cases k with
     |zero=>
      simp at hi hk;subst hk
      rw[List.filterMap_cons,←e] at cD
      exact(List.nodup_cons.1 cD).1 (List.mem_filterMap.2 ⟨y,List.mem_of_getElem? hi,hb⟩)
     |succ k=>
      refine ih i k ?_ (by omega) (by simpa using hi) (by simpa using hk)
      rw[List.filterMap_cons] at cD
      cases hz:z.dH with
      |none=>rw[hz] at cD;exact cD
      |some c=>rw[hz] at cD;exact(List.nodup_cons.1 cD).2
  exact bn H i k cD rV hi hk
theorem en.write {c:Ctx} {w':World} {b:Nat} (hs:en c.F c.I c.W I w) (hb:c.own b) (hI:I b=none) (MW:w'.heap.size=w.heap.size)
 (MX:w'.os=w.os) (MY:w'.tape=w.tape) (MZ:w'.output=w.output) (hw:∀k,k≠b→w'.heap[k]?=w.heap[k]?):en c.F c.I c.W I w':=
 ⟨hs.le,hs.eB,fun k cs e=>by
  obtain⟨T,fr,hh⟩:=hs.cE k cs e
  exact⟨T,fr,by rw[hw k (fun h=>by subst h;rw[hI] at e;cases e)];exact hh⟩,
  ⟨MX.trans hs.below.os,MY.trans hs.below.tape,MZ.trans hs.below.output,by have:=hs.below.size;omega,fun k hk hf=>(hw k (fun e=>by subst e;rcases hb with h|h;exact absurd h (by omega);exact hf h)).trans (hs.below.block k hk hf)⟩⟩
end
section
variable {P:Program} {c:Ctx} {I:Im} {H:List Own} {Γ:Env} {a:Act} {w:World} {Q:Exit→Act→World→Prop} {ops:Array Oper} {rest:List Oper}
variable {d:Nat} {y z:Operand} {ty T T' E:TypeId} {p:String} {af:Array Edge} {g:Bool} {gd:Option (Nat×Bool)} {n m:Nat} {zv:Value}
theorem St.kY {I':Im} {w':World} {H':List Own} (hs:St c I H Γ a w) (cm:en c.F c.I c.W I' w') (hle:Im.le I I') (ho:bQ c.own I' w' H') {d:Nat} (hd:Nat.blt d c.n=true) {x:AV} {v:Value} (hx:x.h I' v):
 St c I' H' ((d,x)::Γ) (a.put (some d) v) w':=
 ⟨cm,ho,(hs.env.up hle).put (by rw[hs.size];simpa using hd) hx,by simp[Act.put,hs.size],hs.defers⟩
theorem vp {w:World} {T:TypeId} {v:Value}:(newVar T v).run P w=.ok ⟨w.heap.size,0,none⟩ (w.alloc (.cells v.cells T)):=by
 rfl
theorem M0 {d:Option Tmp} {l:List AV} (h:At Γ g y (.agg l)):Ok P H Γ g ⟨d,.box T y,ty,p,af,gd⟩ (.ptr l):=
 fun base I a w K Q he hm hw hg k=>by
  obtain⟨cs,e,hl⟩:=h I a he hg
  unfold Oper.wp
  simp only[execOp,Instr.box,e,Sem.run_bind,vp,Result.andThen_ok,Sem.run_pure,Value.cells,Oper.upon_value]
  refine k _ _ _ ⟨⟨w.heap.size,0,none⟩,rfl,rfl,cs,by simp[Im.add],?_⟩ (Step.u9 hm cs T (0,0))
  have:=(hl.up (Im.u7 (cs:=cs) (hm.none (Nat.le_refl _))))
  refine this.cast rfl ?_
  have hlen:=this.length
  simp only[List.drop_zero]
  rw[List.take_of_length_le (by omega)]
theorem vq {v:Value} (h:v.oneCell'=true):v.cells=#[v]:=by
 cases v<;>simp_all[Value.cells,Value.oneCell']
def AV.One (x:AV):Prop:=∀I v,x.h I v→v.oneCell'=true
theorem iY {v:Value} (h:v.oneCell'=true):(AV.val v).One:=fun _ _ e=>by rw[show _=v from e];exact h
theorem jj {s:Nat} {l:List (List AV)}:(AV.rows s l).One:=fun _ _ ⟨_,_,e,_⟩=>by rw[e];rfl
theorem jk {l:List AV}:(AV.ptr l).One:=fun _ _ ⟨_,e,_⟩=>by rw[e];rfl
theorem tH {d:Option Tmp} {x:AV} (h:At Γ g y x) (hx:x.One):Ok P H Γ g ⟨d,.box T y,ty,p,af,gd⟩ (.ptr [x]):=
 fun base I a w K Q he hm hw hg k=>by
  have e:=h I a he hg
  unfold Oper.wp
  simp only[execOp,Instr.box,Sem.run_bind,vp,Result.andThen_ok,Sem.run_pure,vq (hx _ _ e),Oper.upon_value]
  refine k _ _ _ ⟨⟨w.heap.size,0,none⟩,rfl,rfl,#[a.eval y],by simp[Im.add],?_⟩ (Step.u9 hm _ T (0,0))
  simp only[List.drop_zero,List.length_cons,List.length_nil]
  exact⟨⟨x.up _ _ _ (Im.u7 (hm.none (Nat.le_refl _))) e,hx _ _ e⟩,trivial⟩
theorem St.alloc {l:List AV} {ag:Bool} (hs:St c I H Γ a w) (hd:Nat.blt d c.n=true) (hT:Ty P T ag n m zv) (hz:∀I,bD I l zv.cells.toList)
 (k:∀b I a' w',St c I (H++[Own.box b T l]) ((d,.val (.pointer (some ⟨b,0,none⟩)))::Γ) a' w'→wpList P ops Q rest a' w'):
 wpList P ops Q (⟨some d,.alloc T,ty,p,af,none⟩::rest) a w:=by
 unfold wpList
 rw[if_pos (by simp[Region.wanted])]
 left
 unfold Oper.wp
 have vr:(zeroValue T).run P w=.ok zv w:=hT.zero
 simp only[execOp,Instr.alloc,Sem.run_bind,vr,Result.andThen_ok,vp,Sem.run_pure,Oper.upon_value]
 refine k w.heap.size I _ _ (hs.kY (hs.step.trans (Step.alloc hs.step.cE _)) (Im.le_refl _) (hs.own.push (x:=Own.box w.heap.size T l) hs.room rfl hs.step.cE ⟨_,qC w _,hz I⟩) hd rfl)
theorem St.box {l:List AV} (hs:St c I H Γ a w) (hd:Nat.blt d c.n=true) (h:At Γ true y (.agg l))
 (k:∀b I a' w',St c I (H++[Own.box b T l]) ((d,.val (.pointer (some ⟨b,0,none⟩)))::Γ) a' w'→wpList P ops Q rest a' w'):
 wpList P ops Q (⟨some d,.box T y,ty,p,af,none⟩::rest) a w:=by
 unfold wpList
 rw[if_pos (by simp[Region.wanted])]
 left
 obtain⟨cs,e,hl⟩:=h I a hs.env rfl
 unfold Oper.wp
 simp only[execOp,Instr.box,e,Sem.run_bind,vp,Result.andThen_ok,Sem.run_pure,Value.cells,Oper.upon_value]
 exact k w.heap.size I _ _ (hs.kY (hs.step.trans (Step.alloc hs.step.cE _)) (Im.le_refl _) (hs.own.push (x:=Own.box w.heap.size T l) hs.room rfl hs.step.cE ⟨_,qC w _,hl⟩) hd rfl)
def eo {α:Type} (l:List α) (q:Nat) (x:List α):List α:=l.take q++x++l.drop (q+x.length)
theorem Fh {w:World} {ag:Bool} (hT:Ty P T ag n m zv) {b q:Nat} {cs:Array Value} {v:Value} (hb:w.heap[b]?=some (.cells cs T' (0,0))) (hv:v.cells.size=n) (hq:q+n≤cs.size) (h1:∀u∈v.cells.toList,u.oneCell'=true):
 (storeVar T ⟨b,q,none⟩ v).run P w=.ok () (w.setRow b (eo cs.toList q v.cells.toList).toArray):=by
 have cr:(sizeOf T).run P w=.ok n w:=hT.size
 have cm:=run_storeCells_at P b q T' v.cells.toList 0 cs w hb (by simp;omega) h1
 simp only[Nat.add_zero] at cm
 simp only[storeVar,Sem.run_bind,cr,Result.andThen_ok,hv,ne_eq,not_true_eq_false,if_false,cm]
 simp[eo]
theorem tI {w w':World} {v:Value} {b q:Nat} {K:Act→World→Prop} {Q:Exit→Act→World→Prop} (hy:a.eval y=.pointer (some ⟨b,q,none⟩)) (hz:a.eval z=v)
 (hr:(storeVar T ⟨b,q,none⟩ v).run P w=.ok () w') (k:K a w'):(⟨none,.store T y z,ty,p,af,gd⟩:Oper).wp P a w K Q:=by
 unfold Oper.wp
 simp only[execOp,Instr.storeAt,hy,hz,Instr.sureAddr,Sem.run_bind,Sem.run_pure,Result.andThen_ok,hr,Oper.upon_skip]
 exact k
theorem St.written {H':List Own} {w':World} (hs:St c I H Γ a w) (cm:en c.F c.I c.W I w') (ho:bQ c.own I w' H'):St c I H' Γ a w':=
 ⟨cm,ho,hs.env,hs.size,hs.defers⟩
theorem St.xG {ag:Bool} {b q:Nat} {l lx:List AV} {v:Value} (k:Nat) (hs:St c I H Γ a w) (hT:Ty P T ag n m zv) (hk:H[k]?=some (Own.box b T' l)) (hv:bD I lx v.cells.toList) (hn:lx.length=n) (hq:Nat.ble (q+n) l.length=true):
 ∃w',(storeVar T ⟨b,q,none⟩ v).run P w=.ok () w'∧St c I (H.set k (Own.box b T' (eo l q lx))) Γ a w':=by
 obtain⟨⟨cs,hb,hl⟩,h2⟩:=hs.own.all _ (List.mem_of_getElem? hk)
 obtain⟨rW,pF,pG⟩:=h2 b rfl
 have hlen:=hl.length
 have mC:=hv.length
 have Fi:q+n≤l.length:=Nat.le_of_ble_eq_true hq
 have cr:cs.size=l.length:=by simpa using hlen
 have hr:=Fh (P:=P) hT (q:=q) (v:=v) hb (by simp at mC;omega) (by omega) hv.one
 refine⟨_,hr,hs.written (hs.step.write rW pF (by simp) rfl rfl rfl fun k' ec=>setRow_other w b k' _ ec) (hs.own.write hk rfl (by simp) (fun k' ec=>setRow_other w b k' _ fun e=>ec (by rw[e];rfl)) ⟨_,setRow_heap w b cs _ T' _ hb,?_⟩)⟩
 have vu:lx.length=v.cells.toList.length:=mC.symm
 simp only[eo,vu]
 exact((hl.take q).append hv).append (hl.drop (q+v.cells.toList.length))
end
section
variable {P:Program} {c:Ctx} {I:Im} {H:List Own} {Γ:Env} {a:Act} {w:World} {Q:Exit→Act→World→Prop} {ops:Array Oper} {rest:List Oper}
variable {d:Nat} {y z:Operand} {ty T T' E:TypeId} {p:String} {af:Array Edge} {g:Bool} {gd:Option (Nat×Bool)} {n m:Nat} {zv:Value}
theorem gZ {o:Oper} (hg:o.guard=none) (h:o.wp P a w (wpList P ops Q rest) Q):wpList P ops Q (o::rest) a w:=by
 unfold wpList
 rw[if_pos (by simp[Region.wanted,hg])]
 exact .inl h
theorem Fj {α:Type} {l:List α} {q:Nat} {x:α} (h:q<l.length):eo l q [x]=l.set q x:=by
 rw[List.set_eq_take_append_cons_drop,if_pos h]
 simp[eo]
theorem St.AN {b q:Nat} {l:List AV} {x:AV} (k:Nat) (hs:St c I H Γ a w) (hT:Ty P T false 1 m zv) (hy:At Γ true y (.val (.pointer (some ⟨b,q,none⟩)))) (hz:At Γ true z x) (hx:x.One)
 (hk:H[k]?=some (Own.box b T' l)) (hq:Nat.ble (q+1) l.length=true)
 (kk:∀a' w',St c I (H.set k (Own.box b T' (l.set q x))) Γ a' w'→wpList P ops Q rest a' w'):
 wpList P ops Q (⟨none,.store T y z,ty,p,af,none⟩::rest) a w:=by
 have hv:=hz I a hs.env rfl
 have hc:=vq (hx _ _ hv)
 obtain⟨w',hr,bX⟩:=hs.xG (q:=q) (lx:=[x]) (v:=a.eval z) k hT hk (by rw[hc];exact⟨⟨hv,hx _ _ hv⟩,trivial⟩) rfl hq
 rw[Fj (Nat.le_of_ble_eq_true hq)] at bX
 exact gZ rfl (tI (hy I a hs.env rfl) rfl hr (kk _ _ bX))
theorem St.oi {b q:Nat} {l lx:List AV} (k:Nat) (hs:St c I H Γ a w) (hT:Ty P T true n m zv) (hy:At Γ true y (.val (.pointer (some ⟨b,q,none⟩)))) (hz:At Γ true z (.agg lx))
 (hk:H[k]?=some (Own.box b T' l)) (hn:lx.length=n) (hq:Nat.ble (q+n) l.length=true)
 (kk:∀a' w',St c I (H.set k (Own.box b T' (eo l q lx))) Γ a' w'→wpList P ops Q rest a' w'):
 wpList P ops Q (⟨none,.store T y z,ty,p,af,none⟩::rest) a w:=by
 obtain⟨cs,hv,hl⟩:=hz I a hs.env rfl
 obtain⟨w',hr,bX⟩:=hs.xG (q:=q) (lx:=lx) (v:=a.eval z) k hT hk (by rw[hv];exact hl) hn hq
 exact gZ rfl (tI (hy I a hs.env rfl) rfl hr (kk _ _ bX))
theorem St.Fk {b:Nat} {l lx:List AV} (k:Nat) (hs:St c I H Γ a w) (hT:Ty P T true n m zv) (hy:At Γ true y (.val (.pointer (some ⟨b,0,none⟩)))) (hz:At Γ true z (.agg lx))
 (hk:H[k]?=some (Own.box b T' l)) (hn:lx.length=n) (hl:l.length=n)
 (kk:∀a' w',St c I (H.set k (Own.box b T' lx)) Γ a' w'→wpList P ops Q rest a' w'):
 wpList P ops Q (⟨none,.store T y z,ty,p,af,none⟩::rest) a w:=
 hs.oi k hT hy hz hk hn (by rw[hl];simp) fun a' w' h=>kk a' w' (by
  have e:eo l 0 lx=lx:=by simp[eo];omega
  rwa[e] at h)
theorem St.fi {sz:Nat} (hs:St c I H Γ a w) (T:TypeId):St c I (H++[Own.row (.slice none 0 0) T sz []]) Γ a w:=
 ⟨hs.step,⟨fun y hy=>by
  rcases List.mem_append.1 hy with hy|hy
  ·exact hs.own.all y hy
  ·obtain rfl:=by simpa using hy
   exact⟨⟨fun r hr=>by simp at hr,.inl ⟨rfl,.inl rfl⟩⟩,fun b e=>by simp[Own.row,kV] at e⟩,
  by rw[List.filterMap_append];simpa[Own.row,kV] using hs.own.nodup⟩,hs.env,hs.size,hs.defers⟩
theorem Fl {v:Value} (h:rM v):kV v=none:=by
 rcases h with rfl|⟨q,rfl,_⟩<;>simp[kV]
theorem St.xH {v:Value} {sz:Nat} (hs:St c I H Γ a w) (T:TypeId) (hv:rM v):St c I (H++[Own.row v T sz []]) Γ a w:=
 ⟨hs.step,⟨fun y hy=>by
  rcases List.mem_append.1 hy with hy|hy
  ·exact hs.own.all y hy
  ·obtain rfl:=by simpa using hy
   exact⟨⟨fun r hr=>by simp at hr,.inl ⟨rfl,hv⟩⟩,fun b e=>by rw[show(Own.row v T sz []).dH=kV v from rfl,Fl hv] at e;cases e⟩,
  by rw[List.filterMap_append]
     have:([Own.row v T sz []]:List Own).filterMap Own.dH=[]:=by
      rw[List.filterMap_cons,show(Own.row v T sz []).dH=kV v from rfl,Fl hv];rfl
     rw[this,List.append_nil];exact hs.own.nodup⟩,hs.env,hs.size,hs.defers⟩
theorem fj {α:Type} {sz:Nat}:∀{l:List (List α)},(∀r∈l,r.length=sz)→l.flatten.length=l.length*sz
 |[],_=>by simp
 |x::l,h=>by
  rw[List.flatten_cons,List.length_append,h x (by simp),fj (fun r hr=>h r (by simp[hr])),List.length_cons,Nat.succ_mul,Nat.add_comm]
def vw (w:World) (E:TypeId) (sz:Nat) (v:Value) (k:Nat) (xs:List Value):Prop:=
 xs.length=k*sz∧((k=0∧rM v)∨∃b cap cur,v=.slice (some ⟨b,0,none⟩) k cap∧0<cap∧w.heap[b]?=some (.cells cur E (0,0))∧k≤cap∧cap≤maxLen∧cur.size=cap*sz∧cur.toList.take (k*sz)=xs)
theorem M1 {v:Value} {i:TypeInfo} {sz k mm:Nat} {xs:List Value} (hU:P.underlying T=some (.slice E)) (hi:P.info? E=some i) (hz:i.zero=some zv) (h1:i.size=sz) (h2:i.bytes=m) (fB:zv.cells.size=sz)
 (ep:vw w E sz v k xs) (ad:Addr) (cp:Nat) (cs:List Value) (hl:cs.length=mm*sz) (hc:∀j u,cs[j]?=some u→w.cell? (ad.add j)=some u) (xI:∀u∈cs,u.oneCell'=true)
 (rX:k+mm≤maxLen) (hb:(k+mm)*m≤140737488355328):
 ∃v' w',(Builtin.append_ #[T,T] ty #[v,.slice (some ad) mm cp]).run P w=.ok v' w'∧vw w' E sz v' (k+mm) (xs++cs)∧
  ((v'=v∧w'=w)∨(∃g cap mD cur,v=.slice (some ⟨g,0,none⟩) k cap∧0<cap∧v'=.slice (some ⟨g,0,none⟩) (k+mm) mD∧0<mD∧w'=w.setRow g cur)∨
   ∃mD cur,v'=.slice (some ⟨w.heap.size,0,none⟩) (k+mm) mD∧0<mD∧w'=w.drew.alloc (.cells cur E)):=by
 subst h1 h2
 have ZU:k+mm≤9223372036854775807:=by simp only[maxLen] at rX;omega
 have k0:=ep.1
 have hlen:(xs++cs).length=(k+mm)*i.size:=by rw[List.length_append,k0,hl,Nat.add_mul]
 have fresh:∀eB,0<k+mm→vw (w.drew.alloc (.cells (xs.toArray++cs.toArray++Builtin.zeroCells zv.cells (grownCap w (k+mm) eB E-(k+mm))) E)) E i.size
  (.slice (some ⟨w.heap.size,0,none⟩) (k+mm) (grownCap w (k+mm) eB E)) (k+mm) (xs++cs):=fun eB k4=>by
  have rY:=grownCap_ge w (k+mm) eB E
  refine⟨hlen,.inr ⟨w.heap.size,_,_,rfl,by omega,qC w.drew _,rY,grownCap_le_maxLen w (k+mm) eB E rX,?_,?_⟩⟩
  ·have e1:=size_zeroCells zv.cells (grownCap w (k+mm) eB E-(k+mm))
   rw[Array.size_append,Array.size_append,e1,fB]
   simp only[List.size_toArray,k0,hl,←Nat.add_mul]
   congr 1;omega
  ·simp only[Array.toList_append,List.append_assoc]
   rw[←List.append_assoc,←hlen]
   exact List.take_left
 have AO:∀eB,0<k+mm→0<grownCap w (k+mm) eB E:=fun eB h=>by have:=grownCap_ge w (k+mm) eB E;omega
 rcases ep.2 with⟨rfl,pH⟩|⟨g,cap,cur,rfl,AP,hg,Fm,AQ,iL,Fo⟩
 ·obtain rfl:xs=[]:=List.eq_nil_of_length_eq_zero (by simpa using k0)
  rcases Nat.eq_zero_or_pos mm with rfl|k4
  ·obtain rfl:cs=[]:=List.eq_nil_of_length_eq_zero (by simpa using hl)
   refine⟨v,w,?_,⟨by simp,.inl ⟨rfl,pH⟩⟩,.inl ⟨rfl,rfl⟩⟩
   rcases pH with rfl|⟨q,rfl,_⟩
   ·simp[Builtin.append_,run_underlying hU,sizeOf,typeInfo,hi,Builtin.lenOf,Builtin.firstCells,loadCells,loadCellsFrom]
   ·simp[Builtin.append_,run_underlying hU,sizeOf,typeInfo,hi,Builtin.lenOf,Builtin.firstCells,loadCells,loadCellsFrom,storeCells]
  ·rcases pH with rfl|⟨q,rfl,_⟩
   ·have hr:=run_append_nil (P:=P) w T ty E i zv hU hi hz ad mm cp cs hl hc k4 (by omega) (by simp only[Nat.zero_add] at hb;omega)
    have hf:=fresh 0 (by omega)
    have Fp:=AO 0 (by omega)
    simp only[Nat.zero_add,List.nil_append,Array.empty_append] at hf Fp⊢
    exact⟨_,_,hr,hf,.inr (.inr ⟨_,_,rfl,Fp,rfl⟩)⟩
   ·have hr:=run_append_grow (P:=P) w T ty E i zv hU hi hz q 0 0 [] (by simp) (fun j u h=>by simp at h) ad mm cp cs hl hc (by omega) (by omega) (growslice_fits (by omega) hb)
    exact⟨_,_,hr,fresh 0 (by omega),.inr (.inr ⟨_,_,rfl,AO 0 (by omega),rfl⟩)⟩
 ·by_cases vx:k+mm≤cap
  ·have ik:k*i.size+cs.length≤cur.size:=by rw[hl,iL,←Nat.add_mul];exact Nat.mul_le_mul_right _ vx
   have hr:=run_append_room (P:=P) w T ty E i hU hi g k cap cur hg ad mm cp cs hl hc xI vx ik
   refine⟨_,_,hr,⟨hlen,.inr ⟨g,cap,_,rfl,AP,setRow_heap w g cur _ E _ hg,vx,AQ,?_,?_⟩⟩,.inr (.inl ⟨g,cap,cap,_,rfl,AP,rfl,AP,rfl⟩)⟩
   ·simp only[List.size_toArray,List.length_append,List.length_take,List.length_drop,Array.length_toList]
    omega
   ·rw[Fo,←hlen]
    exact List.take_left
  ·have holds:∀j u,xs[j]?=some u→w.cell? ((⟨g,0,none⟩:Addr).add j)=some u:=fun j u hu=>by
    rw[add_plain]
    simp only[World.cell?,hg,Option.isSome_none,Bool.false_eq_true,if_false]
    rw[←Fo,List.getElem?_take] at hu
    split at hu
    ·simpa using hu
    ·cases hu
   have hr:=run_append_grow (P:=P) w T ty E i zv hU hi hz ⟨g,0,none⟩ k cap xs k0 holds ad mm cp cs hl hc (by omega) (by omega) (growslice_fits (by omega) hb)
   exact⟨_,_,hr,fresh cap (by omega),.inr (.inr ⟨_,_,rfl,AO cap (by omega),rfl⟩)⟩
theorem M2 {I:Im} {w:World} {E:TypeId} {sz:Nat} {v:Value} {l:List (List AV)} (h:(Own.row v E sz l).ok I w):∃xs,vw w E sz v l.length xs∧bD I l.flatten xs:=by
 obtain⟨cr,⟨rfl,hb⟩|⟨b,cap,cur,e,h0,h1,h2,h3,h4,h5⟩⟩:=h
 ·exact⟨[],⟨by simp,.inl ⟨rfl,hb⟩⟩,trivial⟩
 ·exact⟨_,⟨by rw[h5.length,fj cr],.inr ⟨b,cap,cur,e,h0,h1,h2,h3,h4,rfl⟩⟩,h5⟩
theorem M3 {I:Im} {w:World} {E:TypeId} {sz:Nat} {v:Value} {l:List (List AV)} {xs:List Value} (cr:∀r∈l,r.length=sz) (h:vw w E sz v l.length xs) (hx:bD I l.flatten xs):(Own.row v E sz l).ok I w:=by
 obtain⟨_,⟨h0,hb⟩|⟨b,cap,cur,e,h0,h1,h2,h3,h4,rfl⟩⟩:=h
 ·exact⟨cr,.inl ⟨List.eq_nil_of_length_eq_zero h0,hb⟩⟩
 ·exact⟨cr,.inr ⟨b,cap,cur,e,h0,h1,h2,h3,h4,hx⟩⟩
theorem bQ.renew {base:Nat→Prop} {w':World} {k:Nat} {x x':Own} (h:bQ base I w H) (hm:dr w I) (hb:base w.heap.size) (hk:H[k]?=some x) (iK:x'.dH=some w.heap.size)
 (cm:Step I w I w') (bJ:w.heap.size<w'.heap.size) (ok:x'.ok I w'):bQ base I w' (H.set k x'):=by
 have h':=h.step cm
 refine⟨fun y hy=>?_,pE h.nodup fun b e=>.inr fun y hy e'=>?_⟩
 ·rcases List.mem_or_eq_of_mem_set hy with hy|rfl
  ·exact h'.all y hy
  ·exact⟨ok,fun b e=>by rw[iK] at e;cases e;exact⟨hb,hm.none (Nat.le_refl _),bJ⟩⟩
 ·rw[iK] at e;cases e
  have:=((h.all y hy).2 _ e').2.2
  omega
theorem Step.Fq {w:World} {I:Im} (h:dr w I) (o:Obj):Step I w I (w.drew.alloc o):=
 ⟨Im.le_refl _,fun _ _=>rfl,dr.alloc (w:=w.drew) h o,((Below.refl w.heap.size w).drew).alloc (Nat.le_refl _) _⟩
theorem St.xJ {v:Value} {sz:Nat} {l l2:List (List AV)} {x:Value} {ag:Bool} (k:Nat) (hs:St c I H Γ a w) (hU:P.underlying T=some (.slice E)) (hE:Ty P E ag sz m zv) (fB:zv.cells.size=sz)
 (hk:H[k]?=some (Own.row v E sz l)) (hx:(AV.rows sz l2).h I x) (hb:(l.length+l2.length)*m≤140737488355328) (rX:l.length+l2.length≤maxLen):
 ∃v' w',(Builtin.append_ #[T,T] ty #[v,x]).run P w=.ok v' w'∧St c I (H.set k (Own.row v' E sz (l++l2))) Γ a w':=by
 obtain⟨tv,h2⟩:=hs.own.all _ (List.mem_of_getElem? hk)
 have M4:=tv.1
 obtain⟨xs,ep,hl⟩:=M2 tv
 obtain⟨q,cap,e,g1,g2,g3,g4,g5⟩:=hx
 obtain⟨i,hi,qE,fA,tJ⟩:=hE.get
 have jP:k<H.length:=(List.getElem?_eq_some_iff.1 hk).1
 have ld:H.set k (Own.row v E sz l)=H:=by
  rw[List.getElem?_eq_getElem jP] at hk
  have ec:H[k]=Own.row v E sz l:=by simpa using hk
  rw[←ec];exact List.set_getElem_self jP
 cases q with
 |none=>
  have od:l2=[]:=g4.resolve_right (fun⟨_,h,_⟩=>by cases h)
  subst od
  have kj:=g5 rfl
  subst kj
  refine⟨v,w,?_,?_⟩
  ·rw[e]
   rcases ep.2 with⟨h0,rfl|⟨q,rfl,_⟩⟩|⟨b,cap,cur,rfl,_,_,Fm,_⟩
   ·simp[Builtin.append_,run_underlying hU,sizeOf,typeInfo,hi,Builtin.lenOf,Builtin.firstCells]
   ·simp[Builtin.append_,run_underlying hU,sizeOf,typeInfo,hi,Builtin.lenOf,Builtin.firstCells,storeCells]
   ·simp[Builtin.append_,run_underlying hU,sizeOf,typeInfo,hi,Builtin.lenOf,Builtin.firstCells,storeCells,Fm]
  ·rw[List.append_nil,ld];exact hs
 |some q=>
  have M5:∃cs:List Value,bD I l2.flatten cs∧∀j u,cs[j]?=some u→w.cell? (q.add j)=some u:=by
   rcases g4 with rfl|⟨q,hq,kk⟩
   ·exact⟨[],trivial,fun j u h=>by simp at h⟩
   ·cases hq
    obtain⟨b,off,s⟩:=q
    obtain rfl:s=none:=kk.1
    obtain⟨cs,h1,h2,h3⟩:=kk.toArray hs.step.cE
    exact⟨cs,h2,h3⟩
  obtain⟨cs,iL,pz⟩:=M5
  have hlen:cs.length=l2.length*sz:=by rw[iL.length,fj g3]
  obtain⟨v',w',hr,AR,hw⟩:=M1 (P:=P) (ty:=ty) hU hi tJ qE fA fB ep q cap cs hlen pz iL.one rX hb
  refine⟨v',w',by rw[e];exact hr,?_⟩
  have al:(Own.row v' E sz (l++l2)).ok I w':=M3 (xs:=xs++cs) (fun r hr=>by
   rcases List.mem_append.1 hr with hr|hr
   ·exact M4 r hr
   ·exact g3 r hr) (by rw[List.length_append];exact AR) (by rw[List.flatten_append];exact hl.append iL)
  rcases hw with⟨rfl,rfl⟩|⟨gg,M6,lN,cur,rfl,lO,rfl,lP,rfl⟩|⟨lN,cur,rfl,lP,rfl⟩
  ·refine hs.written hs.step ⟨fun y hy=>?_,pE hs.own.nodup fun b hb=>.inl ⟨_,hk,hb⟩⟩
   rcases List.mem_or_eq_of_mem_set hy with hy|rfl
   ·exact hs.own.all y hy
   ·exact⟨al,h2⟩
  ·have ae:kV (.slice (some ⟨gg,0,none⟩) l.length M6)=some gg:=va (by omega)
   have ah:∀n,kV (.slice (some ⟨gg,0,none⟩) n lN)=some gg:=fun n=>va (by omega)
   obtain⟨k1,k2,k3⟩:=h2 gg ae
   exact hs.written (hs.step.write k1 k2 (by simp) rfl rfl rfl fun k' ec=>setRow_other w gg k' _ ec) (hs.own.write hk (by rw[tw,tw,ae,ah]) (by simp) (fun k' ec=>setRow_other w gg k' _ fun e=>ec (by rw[e];exact ae.symm)) al)
  ·have st:=Step.Fq hs.step.cE (.cells cur E)
   exact hs.written (hs.step.trans st) (hs.own.renew hs.step.cE hs.room hk (vb (by omega)) st (by simp) al)
theorem St.append {v:Value} {sz:Nat} {l l2:List (List AV)} {ag:Bool} (k:Nat) (hs:St c I H Γ a w) (hd:Nat.blt d c.n=true) (hU:P.underlying T=some (.slice E)) (hE:Ty P E ag sz m zv) (fB:zv.cells.size=sz)
 (hy:At Γ true y (.val v)) (hz:At Γ true z (.rows sz l2)) (hk:H[k]?=some (Own.row v E sz l)) (hb:(l.length+l2.length)*m≤140737488355328∧l.length+l2.length≤140737488355328)
 (kk:∀v' a' w',St c I (H.set k (Own.row v' E sz (l++l2))) ((d,.val v')::Γ) a' w'→wpList P ops Q rest a' w'):
 wpList P ops Q (⟨some d,.call ⟨.builtin .append,#[y,z],#[T,T]⟩,ty,p,af,none⟩::rest) a w:=by
 obtain⟨v',w',hr,bX⟩:=hs.xJ (ty:=ty) k hU hE fB hk (hz I a hs.env rfl) hb.1 (by simp only[maxLen];omega)
 refine gZ rfl ?_
 have e1:a.eval y=v:=hy I a hs.env rfl
 unfold Oper.wp
 simp only[execOp,resolve,invoke,builtin,Sem.run_bind,Sem.run_pure,Result.andThen_ok,List.map_toArray,List.map_cons,List.map_nil,e1,hr]
 exact kk v' _ _ (bX.kY bX.step (Im.le_refl _) bX.own hd rfl)
end
end Go.Proofs.YtoeioeimmfpefaaGreat

/- Part 12: rules of the proofs, contracts of functions, plain facts. -/
import Derived.Test.YtoeioeimmfpefaaGreatP11
set_option linter.unusedVariables false
set_option linter.unusedSimpArgs false
namespace Go.Proofs.YtoeioeimmfpefaaGreat
open Go Go.RowKit
def vR (l:List Oper) (o9:Oper) (ms:Meta):Bool:=
 mH (l++[o9]) (ms++[([],none)])&&(List.range l.length).all fun j=>((fy [] (l++[o9])).getD l.length []).contains j
theorem yg {α:Type} {x:List α} {y:α} {i:Nat} {v:α} (h:x[i]?=some v):(x++[y])[i]?=some v:=by
 rw[List.getElem?_append_left (List.getElem?_eq_some_iff.1 h).1];exact h
section
variable {P:Program} {c:Ctx} {I:Im} {H:List Own} {Γ:Env} {a:Act} {w:World} {Q:Exit→Act→World→Prop}
theorem N6 {l:List Oper} {o9:Oper} {rs:List Rec} {H0:List Own} (yh:vR l o9 (rs.map Rec.j8)=true) (hlen:l.length=rs.length) (nr:(l.all fun o=>match o.dst with|some d=>Nat.blt d c.n|none=>true)=true)
 (ik:∀(i:Nat) (r:Rec) (u:lj),rs[i]?=some r→r.u=some u→u.fit)
 (run:∀(i:Nat) (o:Oper) (r:Rec),l[i]?=some o→rs[i]?=some r→vE P c.n (l++[o9]).toArray (dG (fun j=>decide (j<i)) 0 rs 0 (H0.map fun o _=>o)) (g7 (dG (fun j=>decide (j<i)) 0 rs 0 (H0.map fun o _=>o)) r.u) r.T ((c5 ((da 0 l rs).reverse.filter fun e=>decide (e.1<i))++Γ).only (o.looksAt (l++[o9]).toArray)) o r.x)
 (k:∀I' a' w',St c I' (gy a' (dG (fun _=>true) 0 rs 0 (H0.map fun o _=>o))) (c5 (da 0 l rs).reverse++Γ) a' w'→wpList P (l++[o9]).toArray Q [o9] a' w'):
 ∀(fuel:Nat) (listed:Array Bool) (I:Im) (a:Act) (w:World),listed.size=(l++[o9]).length→((List.range (l++[o9]).length).filter fun i=>!listed.getD i false).length≤fuel→
  (∀(i:Nat) (o:Oper),(l++[o9])[i]?=some o→listed.getD i false=true→∀e∈o.after.toList,Region.binds .any e=true→listed.getD e.on false=true)→listed.getD l.length false=false→
  St c I (gy a (dG (fun i=>listed.getD i false) 0 rs 0 (H0.map fun o _=>o))) (c5 ((da 0 l rs).reverse.filter fun e=>listed.getD e.1 false)++Γ) a w→wpAny P .any (l++[o9]).toArray Q fuel listed a w:=by
 have dx:mH (l++[o9]) ((rs++[(⟨AV.any,[],none⟩:Rec)]).map Rec.j8)=true:=by
  simp only[vR,Bool.and_eq_true] at yh
  rw[List.map_append];exact yh.1
 have N7:∀j,j<l.length→j∈(fy [] (l++[o9])).getD l.length []:=fun j hj=>by
  simp only[vR,Bool.and_eq_true,List.all_eq_true] at yh
  have:=yh.2 j (by simpa using hj)
  simpa using this
 have ZW:(l++[o9]).length=l.length+1:=by simp
 have hL:(da 0 l rs).reverse.Pairwise (fun e f=>f.1<e.1):=by
  rw[List.pairwise_reverse];exact(xW 0 l rs).1
 have jh:∀e∈(da 0 l rs).reverse,∃o',l[e.1]?=some o'∧o'.dst=some e.2.1:=fun e he=>by
  obtain⟨j,o',r',g1,_,g3,g4,_⟩:=Bg (List.mem_reverse.1 he)
  exact⟨o',by rw[g3,Nat.zero_add];exact g1,g4⟩
 have x3:∀(listed:Array Bool) (I:Im) (a:Act) (w:World),(∀i,i<l.length→listed.getD i false=true)→
  St c I (gy a (dG (fun i=>listed.getD i false) 0 rs 0 (H0.map fun o _=>o))) (c5 ((da 0 l rs).reverse.filter fun e=>listed.getD e.1 false)++Γ) a w→wpList P (l++[o9]).toArray Q [o9] a w:=fun listed I a w aT hs=>by
  refine k I a w ?_
  have e1:(da 0 l rs).reverse.filter (fun e=>listed.getD e.1 false)=(da 0 l rs).reverse:=by
   rw[List.filter_eq_self]
   intro e he
   obtain⟨o',h1,_⟩:=jh e he
   exact aT e.1 (List.getElem?_eq_some_iff.1 h1).1
  have e2:dG (fun i=>listed.getD i false) 0 rs 0 (H0.map fun o _=>o)=dG (fun _=>true) 0 rs 0 (H0.map fun o _=>o):=by
   apply List.ext_getElem?
   intro j
   rw[iN,iN]
   cases(H0.map fun(o:Own) (_:Act)=>o)[j]? with
   |none=>rfl
   |some f=>
    simp only[Option.map_some]
    rw[qM (S:=fun i=>listed.getD i false) (S':=fun _=>true) 0 rs f fun j r u h1 _ _=>by
     rw[Nat.zero_add];exact aT j (by rw[hlen];exact(List.getElem?_eq_some_iff.1 h1).1)]
  rw[e1,e2] at hs
  exact hs
 intro fuel
 induction fuel with
 |zero=>
  intro listed I a w cr hf bB mF hs
  have:(List.range (l++[o9]).length).filter (fun i=>!listed.getD i false)=[]:=List.eq_nil_of_length_eq_zero (by omega)
  rw[List.filter_eq_nil_iff] at this
  have:=this l.length (by simp)
  rw[mF] at this;simp at this
 |succ fuel ih=>
  intro listed I a w cr hf bB mF hs
  refine⟨fun hr=>?_,fun i hi=>?_⟩
  ·exfalso
   have aT:∀i,i<(l++[o9]).length→listed.getD i false=true:=fun i=>by
    induction i using Nat.strongRecOn with
    |_ i rN=>
     intro hi
     cases hl:listed.getD i false with
     |true=>rfl
     |false=>
      have nq:i∈Region.ready .any (l++[o9]).toArray listed:=by
       refine mem_ready.2 ⟨by rw[om (by omega)];exact hl,(l++[o9])[i],by simp[hi],fun e he hb=>?_⟩
       have bJ:=F0 dx (i:=i) (o:=(l++[o9])[i]) (by simp[hi]) e (by simpa using he) hb
       exact rN e.on bJ (by omega)
      rw[hr] at nq;cases nq
   rw[aT l.length (by omega)] at mF;cases mF
  ·obtain⟨h1,o,h2,h3⟩:=mem_ready.1 hi
   have bJ:i<(l++[o9]).length:=by have:=(Array.getElem?_eq_some_iff.1 h2).1;simpa using this
   have so:(l++[o9])[i]?=some o:=by simpa using h2
   rw[om (by omega)] at h1
   have dA:∀j,(listed.setIfInBounds i true).getD j false=if j=i then true else listed.getD j false:=fun j=>tG (by omega) false
   have rP:=pB (S:=fun j=>listed.getD j false) (l++[o9]) [] (fun i k hk=>by simp at hk) (fun i o ho hi e he hb=>bB i o ho (by simpa using hi) e he hb)
   have og:∀(i':Nat) (o':Oper),(l++[o9])[i']?=some o'→(listed.setIfInBounds i true).getD i' false=true→∀e∈o'.after.toList,Region.binds .any e=true→(listed.setIfInBounds i true).getD e.on false=true:=fun i' o' eR fA e he hb=>by
    rw[dA] at fA⊢
    split
    ·rfl
    ·split at fA
     ·rename_i pD;subst pD
      rw[so] at eR;cases eR
      exact h3 e (by simpa using he) hb
     ·exact bB i' o' eR fA e he hb
   have rQ:=pB (S:=fun j=>(listed.setIfInBounds i true).getD j false) (l++[o9]) [] (fun i k hk=>by simp at hk) (fun i' o' eR jN e he hb=>og i' o' eR (by simpa using jN) e he hb)
   have j6:∀j,i∈(fy [] (l++[o9])).getD j []→listed.getD j false=false:=fun j hj=>by
    cases hb:listed.getD j false with
    |false=>rfl
    |true=>rw[rP j i hj hb] at h1;cases h1
   have aI:∀j,j≠i→j∈(fy [] (l++[o9])).getD i []→listed.getD j false=true:=fun j oh hj=>by
    have h':=rQ i j hj (by show(listed.setIfInBounds i true).getD i false=true;rw[dA];simp)
    have rR:(listed.setIfInBounds i true).getD j false=true:=h'
    rwa[dA,if_neg oh] at rR
   by_cases BI:i=l.length
   ·subst BI
    obtain rfl:o=o9:=by rw[List.getElem?_append_right (Nat.le_refl _)] at so;simpa using so.symm
    have aT:∀j,j<l.length→listed.getD j false=true:=fun j hj=>aI j (by omega) (N7 j hj)
    have hw:=x3 listed I a w aT hs
    have sq:∀a w,Q .normal a w→wpAny P .any (l++[o]).toArray Q fuel (listed.setIfInBounds l.length true) a w:=fun a w h=>by
     have rO:Region.ready .any (l++[o]).toArray (listed.setIfInBounds l.length true)=[]:=by
      rw[List.eq_nil_iff_forall_not_mem]
      intro i hi
      obtain⟨g1,o',g2,_⟩:=mem_ready.1 hi
      have fO:i<(l++[o]).length:=by have:=(Array.getElem?_eq_some_iff.1 g2).1;simpa using this
      have e:(listed.setIfInBounds l.length true).getD i true=(listed.setIfInBounds l.length true).getD i false:=om (by simp;omega)
      rw[e,dA] at g1
      split at g1
      ·cases g1
      ·rw[aT i (by omega)] at g1;cases g1
     cases fuel with
     |zero=>exact⟨rO,h⟩
     |succ fuel=>exact⟨fun _=>h,fun i hi=>by rw[rO] at hi;cases hi⟩
    unfold wpOp
    simp only[h2]
    unfold wpList at hw
    by_cases Gt:Region.wanted o (yielded (l++[o]).toArray a.tmps)=true
    ·rw[if_pos Gt] at hw⊢
     exact hw.imp (Oper.wp_mono fun a w h=>sq a w h) id
    ·rw[if_neg Gt] at hw⊢
     exact sq _ _ hw
   have jm:i<l.length:=by omega
   have gf:l[i]?=some o:=by rw[List.getElem?_append_left jm] at so;exact so
   have ix:i<rs.length:=by omega
   have lV:rs[i]?=some rs[i]:=by simp[ix]
   generalize rs[i]=r at lV
   obtain⟨N8,Bk⟩:=F3 dx (yg lV)
   have pz:∀k∈r.T,∀j r' u,rs[j]?=some r'→i≠j→r'.u=some u→u.k=k→if j<i then j∈(fy [] (l++[o9])).getD i [] else i∈(fy [] (l++[o9])).getD j []:=fun k hk j r' u g=>N8 k hk j r' u (yg g)
   have eS:=run i o r gf lV
   have se:∀k∈r.T,∀f,cellAt (fun j=>decide (j<i)) k 0 rs f=cellAt (fun j=>listed.getD j false) k 0 rs f:=fun k hk f=>qM 0 rs f fun j r' u g1 g2 g3=>by
    rw[Nat.zero_add]
    by_cases gM:i=j
    ·subst gM;rw[h1];simp
    ·have:=pz k hk j r' u g1 gM g2 g3
     split at this
     ·rename_i fO;rw[aI j (fun e=>gM e.symm) this];simpa using fO
     ·rename_i fO;rw[j6 j this];simpa using fO
   have N9:=F1 dx so
   have oe:∀t∈slotsOf (l++[o9]).toArray o,∀j o',l[j]?=some o'→i≠j→o'.dst=some t→if j<i then j∈(fy [] (l++[o9])).getD i [] else i∈(fy [] (l++[o9])).getD j []:=fun t ht j o' g=>N9 t ht j o' (yg g)
   have rS:cF I a ((c5 ((da 0 l rs).reverse.filter fun e=>decide (e.1<i))++Γ).only (o.looksAt (l++[o9]).toArray)):=fun t y e=>by
    obtain⟨g1,g2⟩:=Env.vi e
    have ht:t∈slotsOf (l++[o9]).toArray o:=by
     unfold slotsOf;rw[List.mem_append];exact .inr (by simpa using g2)
    rw[pC (q:=fun e=>listed.getD e.1 false) _ (fun e he ig=>?_)] at g1
    ·exact hs.env t y g1
    ·obtain⟨o',k1,k2⟩:=jh e he
     by_cases kW:e.1=i
     ·rw[kW,h1];simp
     ·have:=oe t ht e.1 o' k1 (fun h=>kW h.symm) (by rw[k2,ig])
      split at this
      ·rename_i fO;rw[aI e.1 kW this];simpa using fO
      ·rename_i fO;rw[j6 e.1 this];simpa using fO
   have rT:((List.range (l++[o9]).length).filter fun j=>!(listed.setIfInBounds i true).getD j false).length≤fuel:=by
    have:=filter_lt (l:=List.range (l++[o9]).length) (p:=fun j=>!listed.getD j false) (q:=fun j=>!(listed.setIfInBounds i true).getD j false) (i:=i) (by simpa using bJ) (by simp only[h1];rfl) (by simp only[dA];simp) (fun j hj=>by
     simp only[dA] at hj;split at hj
     ·cases hj
     ·exact hj)
    omega
   let HS:List (Act→Own):=dG (fun i=>listed.getD i false) 0 rs 0 (H0.map fun o _=>o)
   let F:Nat→Own:=fun k=>match HS[k]? with|some f=>f a|none=>Own.gone
   have Bl:dy r.T a F 0 (dG (fun j=>decide (j<i)) 0 rs 0 (H0.map fun o _=>o))=gy a HS:=xZ (by simp[gy,HS,sa]) fun j f x g1 g2=>by
    rw[iN] at g1
    have nu:(gy a HS)[j]?=some x:=g2
    simp only[gy,List.getElem?_map] at nu
    have g3:HS[j]?=((H0.map fun(o:Own) (_:Act)=>o)[j]?).map (cellAt (fun i=>listed.getD i false) (0+j) 0 rs):=iN 0 _ j
    cases h0:(H0.map fun(o:Own) (_:Act)=>o)[j]? with
    |none=>rw[h0] at g1;simp at g1
    |some f0=>
     rw[h0] at g1 g3
     simp only[Option.map_some,Option.some.injEq,Nat.zero_add] at g1 g3
     rw[g3] at nu
     simp only[Option.map_some,Option.some.injEq] at nu
     cases hT:r.T.contains j with
     |true=>
      simp only[cond_true]
      rw[←g1,←nu,se j (by simpa using hT)]
     |false=>
      simp only[cond_false,F,g3,←nu]
   have Bm:St ⟨c.W,I,c.n,c.F⟩ I (dy r.T a F 0 (dG (fun j=>decide (j<i)) 0 rs 0 (H0.map fun o _=>o))) ((c5 ((da 0 l rs).reverse.filter fun e=>decide (e.1<i))++Γ).only (o.looksAt (l++[o9]).toArray)) a w:=by
    rw[Bl]
    exact⟨hs.F6.step,hs.own,rS,hs.size,hs.defers⟩
   have jO:∀I' a' w',(∃v,a'.tmps=(a.put o.dst v).tmps)→St ⟨c.W,I,c.n,c.F⟩ I' (dy r.T a' F 0 (g7 (dG (fun j=>decide (j<i)) 0 rs 0 (H0.map fun o _=>o)) r.u)) (jB o.dst r.x ((c5 ((da 0 l rs).reverse.filter fun e=>decide (e.1<i))++Γ).only (o.looksAt (l++[o9]).toArray))) a' w'→
    wpAny P .any (l++[o9]).toArray Q fuel (listed.setIfInBounds i true) a' w':=fun I' a' w' ⟨v,hv⟩ h'=>by
    refine ih (listed.setIfInBounds i true) I' a' w' (by simpa using cr) rT og (by rw[dA,if_neg (by omega)];exact mF) ?_
    have qN:∀t,o.dst≠some t→a'.tmps.getD t undef=a.tmps.getD t undef:=fun t ht=>by
     rw[hv]
     cases hd:o.dst with
     |none=>rfl
     |some d=>
      have bn:d≠t:=fun e=>ht (by rw[hd,e])
      simp[Act.put,bn]
    have ep:dy r.T a' F 0 (g7 (dG (fun j=>decide (j<i)) 0 rs 0 (H0.map fun o _=>o)) r.u)=gy a' (dG (fun j=>(listed.setIfInBounds i true).getD j false) 0 rs 0 (H0.map fun o _=>o)):=xZ (by cases r.u<;>simp[gy,sa,g7]) fun j f x g1 g2=>by
     simp only[gy,List.getElem?_map] at g2
     rw[iN] at g2
     cases h0:(H0.map fun(o:Own) (_:Act)=>o)[j]? with
     |none=>rw[h0] at g2;simp at g2
     |some f0=>
      rw[h0] at g2
      simp only[Option.map_some,Option.some.injEq,Nat.zero_add] at g2
      have Bn:∀a a',f0 a=f0 a':=by
       rw[List.getElem?_map] at h0
       cases hh:H0[j]? with
       |none=>rw[hh] at h0;simp at h0
       |some o0=>rw[hh] at h0;simp at h0;subst h0;intro _ _;rfl
      have ld:∀(pK:∀u,r.u=some u→u.k≠j),cellAt (fun j=>(listed.setIfInBounds i true).getD j false) j 0 rs f0=cellAt (fun j=>listed.getD j false) j 0 rs f0:=fun pK=>qM 0 rs f0 fun j' r' u g3 g4 g5=>by
       rw[Nat.zero_add,dA,if_neg]
       intro e;subst e
       rw[lV] at g3;cases g3
       exact pK u g4 g5
      cases hT:r.T.contains j with
      |true=>
       simp only[cond_true]
       rw[←g2]
       have sf:j∈r.T:=by simpa using hT
       cases hu:r.u with
       |none=>
        rw[hu] at g1
        simp only[g7] at g1
        rw[iN,h0] at g1
        simp only[Option.map_some,Option.some.injEq,Nat.zero_add] at g1
        rw[ld (fun u e=>by rw[hu] at e;cases e),←se j sf,g1]
       |some u=>
        rw[hu] at g1
        simp only[g7] at g1
        by_cases hk:u.k=j
        ·subst hk
         have fO:u.k<(dG (fun j=>decide (j<i)) 0 rs 0 (H0.map fun o _=>o)).length:=by
          rw[sa];exact(List.getElem?_eq_some_iff.1 h0).1
         rw[List.getElem?_set_self fO] at g1
         cases g1
         rw[Bd 0 rs f0 i r u lV hu rfl (by rw[Nat.zero_add,dA];simp) fun j' r' u' g3 g4 g5 g6=>?_]
         have:=pz u.k sf j' r' u' g3 (by omega) g4 g5
         rw[if_neg (by omega)] at this
         rw[Nat.zero_add,dA,if_neg (by omega)]
         exact j6 j' this
        ·rw[List.getElem?_set_ne hk,iN,h0] at g1
         simp only[Option.map_some,Option.some.injEq,Nat.zero_add] at g1
         rw[ld (fun u' e=>by rw[hu] at e;cases e;exact hk),←se j sf,g1]
      |false=>
       simp only[cond_false]
       rw[←g2]
       have pK:∀u,r.u=some u→u.k≠j:=fun u hu e=>by
        have:=Bk u hu
        rw[e] at this
        have:r.T.contains j=true:=by simpa using this
        rw[hT] at this;cases this
       rw[ld pK]
       have g3:HS[j]?=some (cellAt (fun i=>listed.getD i false) j 0 rs f0):=by
        have:=iN (S:=fun i=>listed.getD i false) (i:=0) (rs:=rs) 0 (H0.map fun(o:Own) (_:Act)=>o) j
        rw[h0,Nat.zero_add] at this;exact this
       simp only[F,g3]
       refine(Be 0 rs f0 (Bn a' a) fun j' r' u' g4 g5 g6=>ik j' r' u' g4 g5 a' a fun d hd=>qN d fun e=>?_)
       rw[Nat.zero_add] at g6
       by_cases gM:i=j'
       ·subst gM;have nv:listed.getD i false=true:=g6;rw[h1] at nv;cases nv
       ·have nv:listed.getD j' false=true:=g6
        rw[j6 j' (F4 dx so e (yg g4) g5 gM hd)] at nv;cases nv
    rw[ep] at h'
    have r4:en c.F c.I c.W I' w':=⟨Im.le_trans hs.step.le h'.step.le,fun b hb hf=>(h'.step.eB b hb hf).trans (hs.step.eB b hb hf),h'.step.cE,h'.step.below⟩
    refine⟨r4,h'.own,?_,h'.size,h'.defers⟩
    intro t y e
    by_cases ji:o.dst=some t
    ·have mB:(i,t,r.x)∈(da 0 l rs).reverse:=by
      rw[List.mem_reverse]
      have:=FZ ji (k:=0) gf lV
      rwa[Nat.zero_add] at this
     rw[vm (i:=i) (x:=r.x) _ hL mB (by simp only[dA];simp) (fun e he hp ig=>?_)] at e
     ·cases e
      exact h'.env t r.x (by rw[ji];simp[jB,Env.get])
     ·obtain⟨o',k1,k2⟩:=jh e he
      by_cases hle:e.1≤i
      ·exact hle
      ·have bn:i≠e.1:=by omega
       have:=oe t (by unfold slotsOf;rw[List.mem_append];exact .inl (by simp[ji])) e.1 o' k1 bn (by rw[k2,ig])
       rw[if_neg (by omega)] at this
       have Bo:¬e.1=i:=fun h=>bn h.symm
       rw[dA,if_neg Bo,j6 e.1 this] at hp;cases hp
    ·rw[pC (q:=fun e=>listed.getD e.1 false) _ (fun e he ig=>?_)] at e
     ·have:=hs.env t y e
      rw[qN t ji]
      exact y.up _ _ _ h'.step.le this
     ·obtain⟨o',k1,k2⟩:=jh e he
      have bn:e.1≠i:=fun h=>by
       rw[h,gf] at k1;cases k1
       exact ji (by rw[k2,ig])
      simp only[dA,if_neg bn]
   let Q':Exit→Act→World→Prop:=fun e a' w'=>match e with
    |.normal=>∃I',St ⟨c.W,I,c.n,c.F⟩ I' (dy r.T a' F 0 (g7 (dG (fun j=>decide (j<i)) 0 rs 0 (H0.map fun o _=>o)) r.u)) (jB o.dst r.x ((c5 ((da 0 l rs).reverse.filter fun e=>decide (e.1<i))++Γ).only (o.looksAt (l++[o9]).toArray))) a' w'
    |e=>Q e a' w'
   have hQ:∀e a w,e≠.normal→Q' e a w→Q e a w:=fun e a w hn h=>by
    cases e<;>first|exact absurd rfl hn|exact h
   have ga:=eS F (c.W,c.F) I I a w Q' Bm fun I' a' w' h'=>⟨I',h'⟩
   unfold wpOp
   simp only[h2]
   unfold wpList at ga
   by_cases hw:Region.wanted o (yielded (l++[o9]).toArray a.tmps)=true
   ·rw[if_pos hw] at ga⊢
    rcases ga with ga|⟨h5,h6⟩
    ·exact .inl (Oper.wp_mono (fun a' w' h=>h) (Oper.wp_mono (fun a' w' ⟨hv,I',h'⟩=>jO I' a' w' hv h') (F5 hQ ga)))
    ·exact .inr ⟨h5,let⟨a,w,h⟩:=h6;⟨a,w,hQ _ a w (by simp) h⟩⟩
   ·rw[if_neg hw] at ga⊢
    obtain⟨I',h'⟩:=ga
    exact jO I' _ w ⟨undef,rfl⟩ h'
def Gu (P:Program) (ops:Array Oper) (Q:Exit→Act→World→Prop) (o9:Oper):Exit→Act→World→Prop
 |.normal=>wpList P ops Q [o9]
 |e=>Q e
theorem St.Oa {id:Nat} {l:List Oper} {o9:Oper} (ms:Meta) (hs:St c I H Γ a w) (hm:P.follows .mixedOrders=true) (dx:vR l o9 ms=true) (hd:(l.all fun o=>match o.dst with|some d=>Nat.blt d c.n|none=>true)=true)
 (run:aV P c (l++[o9]).toArray (Gu P (l++[o9]).toArray Q o9) Γ (H.map fun o _=>o) l ms):(Code.region id (l++[o9]).toArray true).wp P Q a w:=by
 obtain⟨rs,h0,run,k⟩:=run
 subst h0
 refine wp_region_any hm ?_
 obtain⟨hlen,ik,eS⟩:=sd.at (Γ0:=Γ) l rs 0 _ [] (by simpa[c5] using run) (fun e he=>by simp at he)
 have hf:∀i:Nat,(Array.replicate (l++[o9]).length false).getD i false=false:=fun i=>by
  rw[Array.getD_eq_getD_getElem?,Array.getElem?_replicate];split<;>rfl
 have:=N6 (P:=P) (c:=c) (H0:=H) (Γ:=Γ) (Q:=Q) dx hlen hd ik (fun i o r ho hr=>by simpa using eS i o r ho hr) (fun I' a' w' h=>by
  rw[←Bh,←Bi] at h;exact k I' a' w' h) (l++[o9]).length (Array.replicate (l++[o9]).length false) I a {w with drawn:=w.drawn+1} (by simp)
  (by simpa using List.length_filter_le _ (List.range (l++[o9]).length)) (fun i o ho hi=>by rw[hf] at hi;cases hi) (hf _) (by
    have he:(da 0 l rs).reverse.filter (fun e=>(Array.replicate (l++[o9]).length false).getD e.1 false)=[]:=by
     rw[List.filter_eq_nil_iff];intro e _;rw[hf];simp
    have hh:gy a (dG (fun i=>(Array.replicate (l++[o9]).length false).getD i false) 0 rs 0 (H.map fun o _=>o))=H:=by
     rw[Bf fun j _=>hf j];simp[gy,Function.comp_def]
    rw[he,hh]
    exact⟨⟨hs.step.le,hs.step.eB,hs.step.cE,hs.step.below.drew⟩,⟨fun o ho=>⟨o.fN I I w _ (Im.le_refl I) (fun _ _=>rfl) (hs.own.all o ho).1,(hs.own.all o ho).2⟩,hs.own.nodup⟩,hs.env,hs.size,hs.defers⟩)
 simpa using this
theorem St.vT {id:Nat} {l:List Oper} (n:Nat) (o9:Oper) (ms:Meta) (hs:St c I H Γ a w) (hl:l=l.take n++[o9]) (hm:P.follows .mixedOrders=true) (dx:vR (l.take n) o9 ms=true) (hd:((l.take n).all fun o=>match o.dst with|some d=>Nat.blt d c.n|none=>true)=true)
 (run:aV P c l.toArray (Gu P l.toArray Q o9) Γ (H.map fun o _=>o) (l.take n) ms):(Code.region id l.toArray true).wp P Q a w:=by
 have:=hs.Oa (id:=id) (Q:=Q) (l:=l.take n) (o9:=o9) ms hm dx hd (by rw[←hl];exact run)
 rwa[←hl] at this
theorem St.Ob {ops:Array Oper} {rest:List Oper} {d:Nat} {f:FuncId} {ys:Array Operand} {ts:Array TypeId} {ty:TypeId} {p:String} {af:Array Edge} {gd:Option (Nat×Bool)} {G:Bool} {xs:List AV} {res:AV} {O O':Own} (k:Nat) (hs:St c I H Γ a w)
 (hg:gJ ops Γ ⟨some d,.call ⟨.value (.func f),ys,ts⟩,ty,p,af,gd⟩ G) (hk:H[k]?=some O) (hd:Nat.blt d c.n=true) (hf:gO P f xs [O] [O'] res) (ic:∀I a,cF I a Γ→G=true→cN I xs (ys.map a.eval).toList)
 (kk:∀I' a' w',St c I' (H.set k (bif G then O' else O)) ((d,.cond G res)::Γ) a' w'→wpList P ops Q rest a' w'):wpList P ops Q (⟨some d,.call ⟨.value (.func f),ys,ts⟩,ty,p,af,gd⟩::rest) a w:=by
 unfold wpList
 rw[hg I a hs.env]
 cases G with
 |true=>
  rw[if_pos rfl]
  refine .inl ?_
  have cD:[k].Nodup:=by simp
  have fS:[k].map (fun k=>H[k]?)=[O].map some:=by simpa using hk
  unfold Oper.wp
  have hr:(execOp a.eval (⟨some d,.call ⟨.value (.func f),ys,ts⟩,ty,p,af,gd⟩:Oper)).run P w=.ok (.enter f (ys.map a.eval)) w:=by
   simp only[execOp,resolve,Act.eval]
   simp[go_sem,hf.1 _ w]
  rw[hr,Oper.upon_enter]
  have ep:=(bQ.pick hs.own fS cD).exact
  refine Calls.mono (hf.2 I w _ hs.step.cE ep (ic I a hs.env rfl)) fun e w' he=>?_
  cases e with
  |panicked _=>exact he.elim
  |outgrown=>exact he.elim
  |returned v=>
   obtain⟨x,I',hx,cm,ho,hv⟩:=he
   have h2:St c I' ((H.set k Own.gone).set k O'++[]) ((d,res)::Γ) (a.put (some d) v) w':=
    hs.vM (h0:=[O]) (h1:=fun _:Unit=>[O']) (res:=fun _=>res) (x:=()) [k] fS cD cm ho hv hd
   rw[List.append_nil,List.set_set] at h2
   refine kk I' _ w' ⟨h2.step,h2.own,fun t x e=>?_,h2.size,h2.defers⟩
   simp only[Env.get] at e
   cases hb:Nat.beq d t with
   |true=>
    rw[hb] at e;simp only[cond_true] at e;cases e
    have:=h2.env t res (by simp[Env.get,hb])
    exact⟨fun _=>this,fun h=>by cases h⟩
   |false=>rw[hb] at e;exact h2.env t x (by simp[Env.get,hb];simpa using e)
 |false=>
  rw[if_neg (by simp)]
  refine kk I _ w ?_
  have h1:=hs.put (d:=d) (x:=.cond false res) (v:=undef) (by simpa using hd) ⟨fun h=>(by cases h),fun _=>rfl⟩ (Step.refl hs.step.cE)
  refine h1.pass ?_
  show H=H.set k O
  exact(AU hk).symm
end
end Go.Proofs.YtoeioeimmfpefaaGreat

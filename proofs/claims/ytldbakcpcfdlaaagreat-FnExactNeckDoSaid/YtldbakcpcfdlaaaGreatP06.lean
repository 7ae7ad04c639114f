/- Part 6: rules of the proofs. -/
import Derived.Maps.Own
import Derived.Maps.Views
import Derived.Test.YtldbakcpcfdlaaaGreatP05
set_option linter.all false
namespace Go.Proofs.YtldbakcpcfdlaaaGreat
open Go Go.RowKit
section
variable {P:Program} {c:Ctx} {I:Im} {H:List Own} {Γ:Env} {a:Act} {w:World} {E:TypeId} {sz:Nat} {l:List (List AV)} {Q:Exit->Act->World->Prop} {ops:Array Oper} {rest:List Oper}
def J8 {base:Nat->Prop} {v:Value} {k:Nat} (hm:dR w I) (hw:bQ base I w H) (hk:H[k]?=some (Own.row v E sz l)):∃I2,Im.le I I2/\dR w I2/\(AV.rows sz l).h I2 v:=by
 have ho:=hw.only hk;have U:St ⟨w,I,0,λ_=>True⟩ I [Own.row v E sz l] [] {tmps:=#[],defers:=[]} w:=
  ⟨eR.refl hm,ho.weaken λb _=>.inr trivial,λt x e=>by simp[Env.get] at e,rfl,rfl⟩
 obtain⟨I2,eW,hv⟩:=U.sK 0 rfl;exact⟨I2,eW.step.le,eW.step.c9,hv⟩
def J9 {xs:List AV} {u v:Value} {y:AV} (q:Nat) (hq:xs[q]?=some (.val u)) (hy:y.h I u) (h:(AV.agg xs).h I v):(AV.agg (xs.set q y)).h I v:=by
 obtain⟨cs,e,hl⟩:=h;refine⟨cs,e,?_⟩;obtain⟨u',hu,hv,h1⟩:=hl.get hq;obtain rfl:u'=u:=hv;refine(hl.set q hy h1).cast rfl ?_;exact yv hu
def Ka {g:Bool} {d:Option Tmp} {f:FuncId} {ys:Array Operand} {ts:Array TypeId} {ty:TypeId} {p:String} {af:Array Edge} {gd:Option (Nat×Bool)} {cs r:List AV} {res:AV} {v:Value} (k q:Nat)
 (h:∀I a,cW I a Γ->g=true->c7 I (AV.agg cs::r) (ys.map a.eval).toList) (hk:H[k]?=some (Own.row v E sz l)) (hq:cs[q]?=some (.val v)) (hf:Fn P f (AV.agg (cs.set q (AV.rows sz l))::r) res) (yN:∀I J u,res.h I u->res.h J u):Ok P H Γ g ⟨d,.call ⟨.value (.func f),ys,ts⟩,ty,p,af,gd⟩ res:=
 λbase I a w K Q he hm hw hg kk=>by
  obtain⟨I2,hle,yO,hv⟩:=J8 hm hw hk;have hx:∀I a,cW I a Γ->(AV.rows sz l).h I v->c7 I (AV.agg (cs.set q (AV.rows sz l))::r) (ys.map a.eval).toList:=λI a he hv=>by
   have:=h I a he hg;generalize (ys.map a.eval).toList=vs at this⊢;cases vs with
   |nil=>exact this
   |cons u us=>exact⟨J9 q hq hv this.1,this.2⟩
  have hc:=hf.2 I2 w (ys.map a.eval) yO (hx I2 a (he.up hle) hv);unfold Oper.wp;have hr:(execOp a.eval (⟨d,.call ⟨.value (.func f),ys,ts⟩,ty,p,af,gd⟩:Oper)).run P w=.ok (.enter f (ys.map a.eval)) w:=by
   simp only[execOp,resolve,Act.eval];simp[go_sem,hf.1 _ w]
  rw[hr,Oper.upon_enter];refine Calls.mono hc λe w' he=>?_;cases e with
  |returned u=>
   obtain⟨I3,U,hx⟩:=he
   refine kk u (λb=>if b<w.heap.size then I b else I3 b) w' (yN _ _ _ hx) ⟨λb cs e=>?_,λb hb=>if_pos hb,λb cs e=>?_,U.below⟩
   .show(if b<w.heap.size then I b else I3 b)=_
    rw[if_pos (hm.lt e)];exact e
   change(if b<w.heap.size then I b else I3 b)=some cs at e
   split at e
   .exact U.c9 b cs (U.le b cs (hle b cs e))
   exact U.c9 b cs e
  |panicked _=>exact he.elim
  |outgrown=>exact he.elim
def Bo {g:Bool} {d:Option Tmp} {f:FuncId} {ys:Array Operand} {ts:Array TypeId} {ty:TypeId} {p:String} {af:Array Edge} {gd:Option (Nat×Bool)} {r:List AV} {res:AV} {v:Value} (k:Nat)
 (h:∀I a,cW I a Γ->g=true->c7 I (AV.val v::r) (ys.map a.eval).toList) (hk:H[k]?=some (Own.row v E sz l)) (hf:Fn P f (AV.rows sz l::r) res) (yN:∀I J u,res.h I u->res.h J u):Ok P H Γ g ⟨d,.call ⟨.value (.func f),ys,ts⟩,ty,p,af,gd⟩ res:=
 λbase I a w K Q he hm hw hg kk=>by
  obtain⟨I2,hle,yO,hv⟩:=J8 hm hw hk;have hx:∀I a,cW I a Γ->(AV.rows sz l).h I v->c7 I (AV.rows sz l::r) (ys.map a.eval).toList:=λI a he hv=>by
   have:=h I a he hg;generalize (ys.map a.eval).toList=vs at this⊢;cases vs with
   |nil=>exact this
   |cons u us=>exact⟨by have e:u=v:=this.1;rw[e];exact hv,this.2⟩
  have hc:=hf.2 I2 w (ys.map a.eval) yO (hx I2 a (he.up hle) hv);unfold Oper.wp;have hr:(execOp a.eval (⟨d,.call ⟨.value (.func f),ys,ts⟩,ty,p,af,gd⟩:Oper)).run P w=.ok (.enter f (ys.map a.eval)) w:=by
   simp only[execOp,resolve,Act.eval];simp[go_sem,hf.1 _ w]
  rw[hr,Oper.upon_enter];refine Calls.mono hc λe w' he=>?_;cases e with
  |returned u=>
   obtain⟨I3,U,hx⟩:=he
   refine kk u (λb=>if b<w.heap.size then I b else I3 b) w' (yN _ _ _ hx) ⟨λb cs e=>?_,λb hb=>if_pos hb,λb cs e=>?_,U.below⟩
   .show(if b<w.heap.size then I b else I3 b)=_
    rw[if_pos (hm.lt e)];exact e
   change(if b<w.heap.size then I b else I3 b)=some cs at e
   split at e
   .exact U.c9 b cs (U.le b cs (hle b cs e))
   exact U.c9 b cs e
  |panicked _=>exact he.elim
  |outgrown=>exact he.elim
def St.Bp {T ty:TypeId} {d m n:Nat} {p:String} {af:Array Edge} {zv:Value} {ag:Bool} {len:Nat} {gL:List (List AV)} {parts:List (Nat×Operand)} {ps:List (Nat×List AV)} (U:St c I H Γ a w) (hd:Nat.blt d c.n=true) (hT:P.underlying T=some (.slice E)) (hE:Ty P E ag n m zv) (fA:zv.cells.size=sz) (lY:∀u∈zv.cells.toList,u.oneCell'=true)
 (cJ:Nat.blt 0 sz=true) (mF:Nat.blt 0 len=true) (p7:Nat.ble (len*sz) 16777216=true) (hp:bf (ni sz) Γ true (len*sz) parts ps) (jK:filled (List.replicate (len*sz) AV.any) ps=gL.flatten) (hlen:gL.length=len) (hr:∀r∈gL,r.length=sz) (hn:n=sz)
 (k:∀b I a' w',St c I (H++[Own.row (.slice (some ⟨b,0,none⟩) len len) E sz gL]) ((d,.val (.slice (some ⟨b,0,none⟩) len len))::Γ) a' w'->wpList P ops Q rest a' w'):
 wpList P ops Q (⟨some d,.buildSlice T len parts.toArray,ty,p,af,none⟩::rest) a w:=by
 subst hn;have Ed:=Nat.le_of_ble_eq_true p7;have ux:0<len:=by simpa using mF
 obtain⟨cs,e1,e2,e3⟩:=Jy (w:=w) U.env rfl hT hE fA lY Ed hp;refine ik rfl ?_;unfold Oper.wp;simp only[execOp,Sem.run_bind,e1,Result.andThen_ok,Sem.run_pure,Oper.upon_value];refine k w.heap.size I _ _ (U.mC (U.step.trans (Step.alloc U.step.c9 _)) (Im.le_refl _) (U.own.push (x:=Own.row (.slice (some ⟨w.heap.size,0,none⟩) len len) E n gL) U.room (λ_ e=>DL ux e) U.step.c9 ⟨hr,.inr ⟨w.heap.size,len,cs,by rw[hlen],ux,sD w _,by omega,?_,e3,?_⟩⟩) hd rfl)
 .simp only[maxLen];have h:0<n:=by simpa using cJ
  have:len*1<=len*n:=Nat.mul_le_mul_left _ h;omega
 rw[jK] at e2;refine e2.cast rfl ?_;rw[List.take_of_length_le];have:=e2.length;simp[hlen] at e3⊢;omega
def RX {y:Operand} {ys:List Operand} {x:AV} {xs:List AV} (h:x.h I (a.eval y)) (k:c7 I xs (ys.toArray.map a.eval).toList):c7 I (x::xs) ((y::ys).toArray.map a.eval).toList:=by
 simp only[List.map_toArray,List.map_cons] at k⊢;exact⟨h,k⟩
def aP.eX {Hf:List (EA->Own)} {os:List Oper} {ms:Meta} {d d':Nat} {f:FuncId} {ys:Array Operand} {ts:Array TypeId} {ty:TypeId} {p:String} {af:Array Edge} {xs:Value->List AV} {res:AV} (k:Nat) (hk:Hf[k]?=some λa=>Own.row (a.tmps.getD d' undef) E sz l) (hd:Nat.blt d c.n=true) (hf:∀v,er P f (xs v) [Own.row v E sz l] [] res)
 (ij:∀I a,cW I a (Γ.only ((⟨some d,.call ⟨.value (.func f),ys,ts⟩,ty,p,af,none⟩:Oper).looksAt ops))->true=true->c7 I (xs (a.tmps.getD d' undef)) (ys.map a.eval).toList)
 (r:aP P c ops Q ((d,res)::Γ) (Hf.set k λ_=>Own.gone) os ms):aP P c ops Q Γ Hf (⟨some d,.call ⟨.value (.func f),ys,ts⟩,ty,p,af,none⟩::os) (([k],some (k,[]))::ms):=
 aP.cons (u:=some ⟨k,[],λ_=>Own.gone⟩) (x:=res) (λv e=>by cases e;intro a a' _;rfl) (λF W0 I0 I γ a w Q U kk=>by
  have iR:(dq [k] (ea a γ) F 0 Hf)[k]?=some (Own.row (a.tmps.getD d' undef) E sz l):=kv hk;have dG:[k].Nodup:=by simp
  refine ik rfl ?_;unfold Oper.wp;rw[Bl (hf (a.tmps.getD d' undef)).1 rfl,Oper.upon_enter];have eG:=(bQ.pick (ks:=[k]) (h0:=[Own.row (a.tmps.getD d' undef) E sz l]) U.own (by simpa using kv hk) dG).exact;refine Calls.mono ((hf _).2 I w _ U.step.c9 eG (ij I a U.env rfl)) λe w' he=>?_;cases e with
  |panicked _=>exact he.elim
  |outgrown=>exact he.elim
  |returned v=>
   obtain⟨x,I',hx,bJ,ho,hv⟩:=he
   have h2:St ⟨W0.1,I0,c.n,W0.2⟩ I' ((dq [k] (ea a γ) F 0 Hf).set k Own.gone) ((d,res)::Γ.only ((⟨some d,.call ⟨.value (.func f),ys,ts⟩,ty,p,af,none⟩:Oper).looksAt ops)) (a.put (some d) v) w':=
    U.EO (h0:=[Own.row (a.tmps.getD d' undef) E sz l]) (h1:=λ_:Unit=>[]) (res:=λ_=>res) (x:=()) [k] (by simpa using iR) dG bJ ho hv hd
   exact kk γ (λ_ _=>rfl) I' _ w' (h2.pass (l7 (f:=λ_=>Own.gone) rfl))) r
end
def rr (m n:Int):Int:=((m.toNat^^^n.toNat:Nat):Int)
def RY {m n:Int}:0<=rr m n:=Int.natCast_nonneg _
def RZ {m n:Int} (hm:m<4611686018427387904) (hn:n<4611686018427387904):rr m n<4611686018427387904:=by
 have h:=Nat.xor_lt_two_pow (x:=m.toNat) (y:=n.toNat) (n:=62) om om;unfold rr;omega
def R0 {P:Program} {H:List Own} {Γ:Env} {g:Bool} {d:Option Tmp} {y z:Operand} {ty T T':TypeId} {p:String} {af:Array Edge} {gd:Option (Nat×Bool)} {m n:Int} (hy:At Γ g y (.int m)) (hz:At Γ g z (.int n)) (hb:g=true->0<=m/\m<4611686018427387904/\0<=n/\n<4611686018427387904):
 Ok P H Γ g ⟨d,.binOp .xor T y z T',ty,p,af,gd⟩ (.int (rr m n)):=
 gK λI a w he hg=>by
  have h1:a.eval y=.int .i64 m:=hy I a he hg;have h2:a.eval z=.int .i64 n:=hz I a he hg;obtain⟨g1,g2,g3,g4⟩:=hb hg;have hx:=RZ (m:=m) (n:=n) om om;have hp:=RY (m:=m) (n:=n);have h3:IntKind.i64.wrap (rr m n)=rr m n:=IntWalk.i64_in _ om;have h4:(((BitVec.ofInt IntKind.i64.bits m^^^BitVec.ofInt IntKind.i64.bits n).toNat:Nat):Int)=rr m n:=by
   unfold rr;rw[BitVec.toNat_xor];have e1:(BitVec.ofInt IntKind.i64.bits m).toNat=m.toNat:=by
    rw[BitVec.toNat_ofInt];show(m%(2^64:Nat)).toNat=_;rw[Int.emod_eq_of_lt g1 ff]
   have e2:(BitVec.ofInt IntKind.i64.bits n).toNat=n.toNat:=by
    rw[BitVec.toNat_ofInt];show(n%(2^64:Nat)).toNat=_;rw[Int.emod_eq_of_lt g3 ff]
   rw[e1,e2]
  simp only[execOp,h1,h2];simp[go_sem,eqGuard,binOp,Op.intBits];exact(congrArg IntKind.i64.wrap h4).trans h3
section
variable {P:Program} {c:Ctx} {I:Im} {H:List Own} {Γ:Env} {a:Act} {w:World} {Q:Exit->Act->World->Prop}
def R1 (P:Program) (ops:Array Oper) (Q:Exit->Act->World->Prop) (o9:Oper):Exit->Act->World->Prop
 |.normal=>wpList P ops Q [o9]
 |e=>Q e
def St.ET {id:Nat} {l:List Oper} (n:Nat) (o9:Oper) (ms:Meta) (U:St c I H Γ a w) (hl:l=l.take n++[o9]) (hm:P.follows .mixedOrders=true) (fB:vY (l.take n) [o9] ms=true) (hd:((l.take n).all λo=>match o.dst with|some d=>Nat.blt d c.n|none=>true)=true)
 (run:aP P c l.toArray (R1 P l.toArray Q o9) Γ (H.map λo _=>o) (l.take n) ms):(Code.region id l.toArray true).wp P Q a w:=by
 obtain⟨rs,h0,run,k⟩:=run;subst h0;have:=U.EB (id:=id) (Q:=Q) (pre:=l.take n) (tail:=[o9]) (rs:=rs) hm fB hd (by rw[<-hl];exact run) λγ I' a' w' h=>by rw[<-hl];exact k γ I' a' w' h
 rwa[<-hl] at this
end
structure yP (P:Program) (t k e:TypeId) {κ ε:Type} (kl:κ->Lit) (ev:ε->Value) (ed:ε->DataW Unit) (fits:ε->Prop) (z:ε):Prop where
 K:Maps.Keyed P k
 ht:P.underlying t=some (.map k e)
 zr:∀w,(zeroValue e).run P w=.ok (ev z) w
 fz:fits z
 rd:∀x,fits x->plainElem P e (ev x)=some (ed x,[])
 inv:∀v ps x,plainElem P e v=some (ed x,ps)->v=ev x
 Kb:∀x y,kl x=kl y->x=y
 key:∀x,WideAt.IsKeyLit (kl x)
def Own.uy (P:Program) (k e:TypeId) {κ ε:Type} (kl:κ->Lit) (ed:ε->DataW Unit) (z:ε) (b n:Nat) (m:κ->ε):Own:=
 ⟨λk=>b=k,λI w=>∃D:DataW Unit,w.ownsMap P k (plainElem P e) b n D/\∀x,D.atKey (kl x) (ed z)=ed (m x),
  λI I' w w' _ hb ⟨D,⟨es,clock,h,h2⟩,hm⟩=>⟨D,⟨es,clock,(hb b rfl).trans h,h2⟩,hm⟩⟩
section
variable {P:Program} {c:Ctx} {I:Im} {H:List Own} {Γ:Env} {a:Act} {w:World} {Q:Exit->Act->World->Prop} {ops:Array Oper} {rest:List Oper}
variable {d b n:Nat} {y z' x':Operand} {t k e ty:TypeId} {p:String} {af:Array Edge} {g:Bool} {gd:Option (Nat×Bool)}
variable {κ ε:Type} {kl:κ->Lit} {ev:ε->Value} {ed:ε->DataW Unit} {fits:ε->Prop} {z:ε}
def Kc {m:κ->ε} {x:κ} (kk:Nat) (hM:yP P t k e kl ev ed fits z) (hm:At Γ g y (.val (.map (some b)))) (hx:∀I a,cW I a Γ->g=true->keyOf P k (a.eval x')=some (kl x)) (hH:H[kk]?=some (Own.uy P k e kl ed z b n m)):
 Ok P H Γ g ⟨some d,.lookup t y x' false,ty,p,af,gd⟩ (.val (ev (m x))):=
 gq λbase I a w he Kd hw hg=>by
  obtain⟨D,eG,hD⟩:=(hw.all _ (List.mem_of_getElem? hH)).1;have e1:a.eval y=_:=hm I a he hg;obtain⟨v,ps,iN,hv⟩:=eG.lookup hM.K hM.ht (hM.zr w) (hM.rd z hM.fz) (hx I a he hg);rw[hD x] at hv;refine⟨v,?_,hM.inv v ps _ hv⟩;simp only[execOp,e1,Sem.run_bind,iN,Result.andThen_ok,Sem.run_pure]
def St.makeMap (U:St c I H Γ a w) (hd:Nat.blt d c.n=true) (hM:yP P t k e kl ev ed fits z)
 (kk:∀b a' w',St c I (H++[Own.uy P k e kl ed z b 0 λ_=>z]) ((d,.val (.map (some b)))::Γ) a' w'->wpList P ops Q rest a' w'):
 wpList P ops Q (⟨some d,.makeMap t none,ty,p,af,none⟩::rest) a w:=by
 refine ik rfl ?_;unfold Oper.wp;simp only[execOp,Option.map_none,Sem.run_bind,run_makeMap,Result.andThen_ok,Sem.run_pure,Oper.upon_value];exact kk w.heap.size _ _ (U.mC (U.step.trans (Step.alloc U.step.c9 _)) (Im.le_refl _) (U.own.push (x:=Own.uy P k e kl ed z w.heap.size 0 λ_=>z) U.room (λ_ e=>e.symm) U.step.c9
  ⟨.map [],World.ownsMap_made w P k (plainElem P e),λx=>by simp[DataW.atKey]⟩) hd rfl)
def R2 {D:DataW Unit} {R:Value->Option (DataW Unit×List MemPlace)} (h:w.ownsMap P k R b n D) (K:Maps.Keyed P k) (ht:P.underlying t=some (.map k e)) (hn:n<maxLen) {key val:Value} {lk:Lit} {dv:DataW Unit} {ps:List MemPlace}
 (jf:keyOf P k key=some lk) (hv:R val=some (dv,ps)):∃w',(Instr.mapUpdate t (.map (some b)) key val).run P w=.ok () w'/\w'.ownsMap P k R b (n+1) (D.put lk dv)/\w.grownBy w' (some b)/\w'.heap.size=w.heap.size:=by
 obtain⟨w',h1,h2,h3⟩:=h.update K ht hn jf hv;refine⟨w',h1,h2,h3,?_⟩;obtain⟨es,clock,hb,F,U,rfl⟩:=h;obtain⟨es',adA,iN,_⟩:=Maps.fit_store (R':=R) K ht hb F (Nat.lt_of_le_of_lt U hn) (λ_ _ _ _ hz=>hz) jf hv;rw[iN] at h1;cases h1;simp[ChangeMaps.setBlock]
def St.mapUpdate {m:κ->ε} {x:κ} {v:ε} [DecidableEq κ] (kk:Nat) (U:St c I H Γ a w) (hM:yP P t k e kl ev ed fits z) (hm:At Γ true y (.val (.map (some b)))) (hx:∀I a,cW I a Γ->true=true->keyOf P k (a.eval x')=some (kl x))
 (hv:At Γ true z' (.val (ev v))) (hf:fits v) (hn:n<140737488355328) (hH:H[kk]?=some (Own.uy P k e kl ed z b n m))
 (kn:∀a' w',St c I (H.set kk (Own.uy P k e kl ed z b (n+1) λy=>if y=x then v else m y)) Γ a' w'->wpList P ops Q rest a' w'):
 wpList P ops Q (⟨none,.mapUpdate t y x' z',ty,p,af,none⟩::rest) a w:=by
 obtain⟨⟨D,eG,hD⟩,h2⟩:=U.own.all _ (List.mem_of_getElem? hH);obtain⟨ua,q7,q8⟩:=h2 b rfl;have e1:a.eval y=_:=hm I a U.env rfl;have e2:a.eval z'=_:=hv I a U.env rfl;obtain⟨w',iN,D2,ru,cJ⟩:=R2 eG hM.K hM.ht (by simp only[maxLen];omega) (hx I a U.env rfl) (hM.rd v hf);have yH:∀j,some j≠some b->w'.heap[j]?=w.heap[j]?:=λj hj=>by
  by_cases bW:j<w.heap.size
  .exact ru.block j bW hj
  rw[Array.getElem?_eq_none om,Array.getElem?_eq_none om]
 refine ik rfl ?_;unfold Oper.wp;simp only[execOp,e1,e2,Sem.run_bind,iN,Result.andThen_ok,Sem.run_pure];refine kn _ w' (U.written (U.step.write ua q7 cJ ru.os ru.tape ru.output λj hj=>yH j (by simpa using hj)) (U.own.write hH rfl cJ (λj hj=>yH j λe=>hj (Option.some.inj e).symm) ⟨_,D2,λq=>?_⟩));have R3:Maps.IsMap D:=by obtain⟨es,clock,_,_,_,rfl⟩:=eG;exact⟨_,rfl⟩
 show _=ed (if q=x then v else m q);by_cases hq:q=x
 .subst hq;rw[if_pos rfl];exact Maps.atKey_put_same R3 (hM.key q) _ _
 rw[if_neg hq,Maps.atKey_put_other (λh=>hq (hM.Kb _ _ h)),hD q]
def R4 {P:Program} {t k e:TypeId} (ht:P.underlying t=some (.map k e)) (hk:P.underlying k=some (.int .i64)) (he:P.underlying e=some (.int .i64)) (hz:∀w,(zeroValue e).run P w=.ok (.int .i64 0) w):
 yP P t k e (λx:Int=>Lit.int .i64 x) (λx:Int=>Value.int .i64 x) (λx=>.lit (.int .i64 x)) (λx=>-9223372036854775808<=x/\x<=9223372036854775807) 0 where
 K:=Maps.int_keyed hk
 ht:=ht
 zr:=hz
 fz:=by omega
 rd:=λx hx=>plainElem_int he (by simp[Lit.wf,IntKind.min,IntKind.max,IntKind.signed,IntKind.bits];omega)
 inv:=λv ps x h=>by
  obtain⟨a,rfl,h2,_⟩:=plainElem_int_inv he h;simp at h2;rw[h2.1]
 Kb:=λx y h=>by cases h;rfl
 key:=λx=>trivial
def EU {P:Program} {k:TypeId} (hk:P.underlying k=some (.int .i64)) {x:Int} (hy:At Γ g x' (.int x)) (hb:-9223372036854775808<=x/\x<=9223372036854775807):∀I a,cW I a Γ->g=true->keyOf P k (a.eval x')=some (Lit.int .i64 x):=λI a he hg=>by
 have e1:a.eval x'=.int .i64 x:=hy I a he hg;rw[e1];exact Maps.keyOf_int_mk hk (by simp[Lit.wf,IntKind.min,IntKind.max,IntKind.signed,IntKind.bits];omega)
end
class c4 (P:Program) (T:TypeId) (ag:outParam Bool) (n m:outParam Nat) (zv:outParam Value):Prop where
 h:Ty P T ag n m zv
class bn (P:Program) (T:TypeId) (f:Nat) (o sz:outParam Nat):Prop where
 h:bk P T f o sz
class dr (P:Program) (T:TypeId) (f:Nat) (o sz:outParam Nat):Prop where
 h:cR P T f=some (o,sz)
class fP (P:Program) (T:TypeId) (k:outParam TypeDesc):Prop where
 h:P.underlying T=some k
class nw (P:Program) (T:TypeId):Prop where
 h:D9 P T=true
def run:Nat->Nat->List Nat->List Nat
 |0,_,l=>l
 |n+1,a,l=>a::run n (a+1) l
section
variable {P:Program} {H:List Own} {Γ:Env} {g:Bool} {d:Option Tmp} {y z:Operand} {ty T T' E:TypeId} {p:String} {af:Array Edge} {gd:Option (Nat×Bool)} {n m o:Nat} {zv:Value}
def Ok.mv {t:Nat} {x:AV} (h:Env.get t Γ=some x:=by rfl):Ok P H Γ g ⟨d,.move (.tmp t),ty,p,af,gd⟩ x:=vE (.t h)
def Ok.mx {x:AV} (h:At Γ g y x):Ok P H Γ g ⟨d,.move y,ty,p,af,gd⟩ x:=vE h
def Ok.as {t:Nat} {x:AV} (h:Env.get t Γ=some x:=by rfl):Ok P H Γ g ⟨d,.assign (.tmp t),ty,p,af,gd⟩ x:=vF (.t h)
def Ok.R5 {x:AV} (h:At Γ g y x):Ok P H Γ g ⟨d,.assign y,ty,p,af,gd⟩ x:=vF h
def Ok.nt {t:Nat} {b:Bool} (h:Env.get t Γ=some (.bool b):=by rfl):Ok P H Γ g ⟨d,.unOp .not T (.tmp t),ty,p,af,gd⟩ (.bool (!b)):=IL (.t h)
def Ok.R6 {b:Bool} (h:At Γ g y (.bool b)):Ok P H Γ g ⟨d,.unOp .not T y,ty,p,af,gd⟩ (.bool (!b)):=IL h
def Ok.lss {t u:Nat} {m n:Int} (hy:Env.get t Γ=some (.int m):=by rfl) (hz:Env.get u Γ=some (.int n):=by rfl):Ok P H Γ g ⟨d,.binOp .lss T (.tmp t) (.tmp u) T',ty,p,af,gd⟩ (.bool (decide (m<n))):=IN (.t hy) (.t hz)
def Ok.leq {t u:Nat} {m n:Int} (hy:Env.get t Γ=some (.int m):=by rfl) (hz:Env.get u Γ=some (.int n):=by rfl):Ok P H Γ g ⟨d,.binOp .leq T (.tmp t) (.tmp u) T',ty,p,af,gd⟩ (.bool (decide (m<=n))):=IP (.t hy) (.t hz)
def Ok.gtr {t u:Nat} {m n:Int} (hy:Env.get t Γ=some (.int m):=by rfl) (hz:Env.get u Γ=some (.int n):=by rfl):Ok P H Γ g ⟨d,.binOp .gtr T (.tmp t) (.tmp u) T',ty,p,af,gd⟩ (.bool (decide (n<m))):=IQ (.t hy) (.t hz)
def Ok.geq {t u:Nat} {m n:Int} (hy:Env.get t Γ=some (.int m):=by rfl) (hz:Env.get u Γ=some (.int n):=by rfl):Ok P H Γ g ⟨d,.binOp .geq T (.tmp t) (.tmp u) T',ty,p,af,gd⟩ (.bool (decide (n<=m))):=IS (.t hy) (.t hz)
def Ok.sU {t:Nat} {m n:Int} (hy:Env.get t Γ=some (.int m):=by rfl):Ok P H Γ g ⟨d,.binOp .eql T (.tmp t) (.const (.int .i64 n)) T',ty,p,af,gd⟩ (.bool (m==n)):=IT (.t hy) .c
def Ok.e {t:Nat} {l:List AV} {i:Nat} {x:AV} (h:Env.get t Γ=some (.c8 l):=by rfl) (hx:l[i]?=some x:=by rfl):Ok P H Γ g ⟨d,.extract (.tmp t) i,ty,p,af,gd⟩ x:=Ju (.t h) hx
def Ok.bp {t:Nat} {l:List AV} (h:Env.get t Γ=some (.agg l):=by rfl):Ok P H Γ g ⟨d,.box T (.tmp t),ty,p,af,gd⟩ (.ptr l):=QK (.t h)
def Ok.nl {x:AV} (h:Ok P H Γ g ⟨d,.nilCheck y,ty,p,af,gd⟩ x:=by first|exact JC .tt|exact JD .tt|exact R7 .tt|exact JC .ag|exact JD .ag|exact R7 .ag):Ok P H Γ g ⟨d,.nilCheck y,ty,p,af,gd⟩ x:=h
def Ok.l1 {t:Nat} {x:AV} {l:List AV} [hT:c4 P T false n m zv] (h:Env.get t Γ=some (.ptr (x::l)):=by rfl):Ok P H Γ g ⟨d,.load T (.tmp t),ty,p,af,gd⟩ x:=IU hT.h (.t h)
def Ok.lx {x:AV} {l:List AV} [hT:c4 P T false n m zv] (h:At Γ g y (.ptr (x::l))):Ok P H Γ g ⟨d,.load T y,ty,p,af,gd⟩ x:=IU hT.h h
def Ok.lb {t b q:Nat} {x:AV} {l:List AV} (k:Nat) [hT:c4 P T false n m zv] (h:Env.get t Γ=some (.val (.pointer (some ⟨b,q,none⟩))):=by rfl) (hH:H[k]?=some (Own.box b T' l):=by rfl) (hx:l[q]?=some x:=by rfl):Ok P H Γ g ⟨d,.load T (.tmp t),ty,p,af,gd⟩ x:=IZ k hT.h (.t h) hH hx
def Ok.yQ {b q:Nat} {x:AV} {l:List AV} (k:Nat) [hT:c4 P T false n m zv] (h:At Γ g y (.val (.pointer (some ⟨b,q,none⟩)))) (hH:H[k]?=some (Own.box b T' l):=by rfl) (hx:l[q]?=some x:=by rfl):Ok P H Γ g ⟨d,.load T y,ty,p,af,gd⟩ x:=IZ k hT.h h hH hx
def Ok.ls {t b q:Nat} {l l':List AV} (k:Nat) [hT:c4 P T true n m zv] (h:Env.get t Γ=some (.val (.pointer (some ⟨b,q,none⟩))):=by rfl) (hH:H[k]?=some (Own.box b T' l):=by rfl) (hx:(l.drop q).take n=l':=by rfl) (hn:l'.length=n:=by rfl):Ok P H Γ g ⟨d,.load T (.tmp t),ty,p,af,gd⟩ (.agg l'):=DN k hT.h (.t h) hH hx hn
def Ok.EV {l:List AV} [hT:c4 P T true n m zv] (h:At Γ g y (.ptr l):=by first|exact .tt|exact .ag|exact .c) (hn:l.length=n:=by rfl):Ok P H Γ g ⟨d,.load T y,ty,p,af,gd⟩ (.agg l):=Qx hT.h h hn
def Ok.EW {l:List AV} [hT:c4 P T true n m zv] (h:At Γ g y (.ptr l):=by first|exact .tt|exact .ag|exact .c) (hn:Nat.ble n l.length=true:=by rfl):Ok P H Γ g ⟨d,.load T y,ty,p,af,gd⟩ (.agg (l.take n)):=IV hT.h h hn
def Ok.la {x:AV} (h:Ok P H Γ g ⟨d,.load T y,ty,p,af,gd⟩ x:=by first|exact .EV|exact .EW):Ok P H Γ g ⟨d,.load T y,ty,p,af,gd⟩ x:=h
def Ok.fp {t f size:Nat} {l:List AV} [hf:bn P T f o size] (h:Env.get t Γ=some (.ptr l):=by rfl) (U:Nat.blt 0 size=true:=by rfl):Ok P H Γ g ⟨d,.fieldAddr T (.tmp t) f,ty,p,af,gd⟩ (.ptr (l.drop o)):=IX hf.h U (.t h)
def Ok.fx {f size:Nat} {l:List AV} [hf:bn P T f o size] (h:At Γ g y (.ptr l)) (U:Nat.blt 0 size=true:=by rfl):Ok P H Γ g ⟨d,.fieldAddr T y f,ty,p,af,gd⟩ (.ptr (l.drop o)):=IX hf.h U h
def Ok.fv {t f size b q:Nat} [hf:bn P T f o size] (h:Env.get t Γ=some (.val (.pointer (some ⟨b,q,none⟩))):=by rfl) (U:Nat.blt 0 size=true:=by rfl):Ok P H Γ g ⟨d,.fieldAddr T (.tmp t) f,ty,p,af,gd⟩ (.val (.pointer (some ⟨b,q+o,none⟩))):=IY hf.h U (.t h)
def Ok.R8 {f size b q:Nat} [hf:bn P T f o size] (h:At Γ g y (.val (.pointer (some ⟨b,q,none⟩)))) (U:Nat.blt 0 size=true:=by rfl):Ok P H Γ g ⟨d,.fieldAddr T y f,ty,p,af,gd⟩ (.val (.pointer (some ⟨b,q+o,none⟩))):=IY hf.h U h
def Ok.EX {α:Type} {s:Nat} {f:α->List AV} {l:List α} [hT:fP P T (.slice E)] (h:At Γ g y (.rows s (l.map f)):=by first|exact .tt|exact .ag|exact .c):Ok P H Γ g ⟨d,.call ⟨.builtin .len,#[y],#[T]⟩,ty,p,af,gd⟩ (.int l.length):=Q6 hT.h h
def Ok.EY {s:Nat} {l:List (List AV)} [hT:fP P T (.slice E)] (h:At Γ g y (.rows s l):=by first|exact .tt|exact .ag|exact .c):Ok P H Γ g ⟨d,.call ⟨.builtin .len,#[y],#[T]⟩,ty,p,af,gd⟩ (.int l.length):=yh hT.h h
def Ok.EZ {q:Option Addr} {k cap:Nat} [hT:fP P T (.slice E)] (h:At Γ g y (.val (.slice q k cap)):=by first|exact .tt|exact .ag|exact .c):Ok P H Γ g ⟨d,.call ⟨.builtin .len,#[y],#[T]⟩,ty,p,af,gd⟩ (.int k):=Qy hT.h h
def Ok.ln {x:AV} (h:Ok P H Γ g ⟨d,.call ⟨.builtin .len,#[y],#[T]⟩,ty,p,af,gd⟩ x:=by first|exact .EX|exact .EY|exact .EZ):Ok P H Γ g ⟨d,.call ⟨.builtin .len,#[y],#[T]⟩,ty,p,af,gd⟩ x:=h
def Ok.Ke {α:Type} [Inhabited α] {s:Nat} {ag:Bool} {f:α->List AV} {l:List α} {i:Int} [hT:fP P T (.slice E)] [hE:c4 P E ag s m zv] (h:At Γ g y (.rows s (l.map f)):=by first|exact .tt|exact .ag|exact .c) (hi:At Γ g z (.int i):=by first|exact .tt|exact .ag|exact .c) (hb:g=true->0<=i/\i<l.length:=by intro hg;first|omega|assumption|(simp at hg;omega)):Ok P H Γ g ⟨d,.indexAddr T y z,ty,p,af,gd⟩ (.ptr (f (ae l i.toNat))):=iO hT.h hE.h h hi hb
def Ok.Kf {α:Type} [Inhabited α] {s:Nat} {ag:Bool} {f:α->List AV} {l:List α} {i:Nat} [hT:fP P T (.slice E)] [hE:c4 P E ag s m zv] (h:At Γ g y (.rows s (l.map f)):=by first|exact .tt|exact .ag|exact .c) (hi:At Γ g z (.int (i:Int)):=by first|exact .tt|exact .ag|exact .c) (hb:g=true->i<l.length:=by intro hg;first|omega|assumption|(simp at hg;omega)):Ok P H Γ g ⟨d,.indexAddr T y z,ty,p,af,gd⟩ (.ptr (f (ae l i))):=fT hT.h hE.h h hi hb
def Ok.Kg {s:Nat} {ag:Bool} {l:List (List AV)} {i:Int} [hT:fP P T (.slice E)] [hE:c4 P E ag s m zv] (h:At Γ g y (.rows s l):=by first|exact .tt|exact .ag|exact .c) (hi:At Γ g z (.int i):=by first|exact .tt|exact .ag|exact .c) (hb:g=true->0<=i/\i<l.length:=by intro hg;first|omega|assumption|(simp at hg;omega)):Ok P H Γ g ⟨d,.indexAddr T y z,ty,p,af,gd⟩ (.ptr (l.getD i.toNat [])):=iZ hT.h hE.h h hi hb
def Ok.cl {f:FuncId} {ys:Array Operand} {ts:Array TypeId} {xs:List AV} {res:AV} (hf:Fn P f xs res) (h:∀I a,cW I a Γ->g=true->c7 I xs (ys.map a.eval).toList:=by repeat(first|exact aH|refine an (by first|exact .tt|exact .ag|exact .c|exact .f|exact .nil (.t rfl)|exact .nil .c) ?_)):Ok P H Γ g ⟨d,.call ⟨.value (.func f),ys,ts⟩,ty,p,af,gd⟩ res:=bx hf h
def Ok.c1 {f:FuncId} {t:Nat} {ts:Array TypeId} {x res:AV} (hf:Fn P f [x] res) (h:Env.get t Γ=some x:=by rfl):Ok P H Γ g ⟨d,.call ⟨.value (.func f),#[.tmp t],ts⟩,ty,p,af,gd⟩ res:=bx hf (an (.t h) aH)
def Ok.c2 {f:FuncId} {t u:Nat} {ts:Array TypeId} {x x' res:AV} (hf:Fn P f [x,x'] res) (h:Env.get t Γ=some x:=by rfl) (h':Env.get u Γ=some x':=by rfl):Ok P H Γ g ⟨d,.call ⟨.value (.func f),#[.tmp t,.tmp u],ts⟩,ty,p,af,gd⟩ res:=bx hf (an (.t h) (an (.t h') aH))
def Ok.c3 {f:FuncId} {t u v:Nat} {ts:Array TypeId} {x x' y' res:AV} (hf:Fn P f [x,x',y'] res) (h:Env.get t Γ=some x:=by rfl) (h':Env.get u Γ=some x':=by rfl) (h2:Env.get v Γ=some y':=by rfl):Ok P H Γ g ⟨d,.call ⟨.value (.func f),#[.tmp t,.tmp u,.tmp v],ts⟩,ty,p,af,gd⟩ res:=bx hf (an (.t h) (an (.t h') (an (.t h2) aH)))
def bf.u {sz i o' q:Nat} {lx:List AV} {r:List (Nat×Operand)} {s:List (Nat×List AV)} (k:bf (ni sz) Γ g n r s) (hp:ni sz i=some (o',q):=by rfl) (h:At Γ g y (.agg lx):=by first|exact .tt|exact .ag|exact .c) (hl:lx.length=q:=by rfl) (ho:Nat.ble (o'+q) n=true:=by rfl):bf (ni sz) Γ g n ((i,y)::r) ((o',lx)::s):=bf.s hp hl ho h k
def bf.v {sz i o':Nat} {x:AV} {r:List (Nat×Operand)} {s:List (Nat×List AV)} (k:bf (ni sz) Γ g n r s) (hp:ni sz i=some (o',1):=by rfl) (ho:Nat.ble (o'+1) n=true:=by rfl) (h:At Γ g y x:=by first|exact .tt|exact .ag|exact .c|exact .nil (.t rfl)|exact .nil .c) (hx:x.One:=by first|exact cL rfl|exact cN|exact cO|exact cP|assumption):bf (ni sz) Γ g n ((i,y)::r) ((o',[x])::s):=bf.c hp ho h hx k
def Ok.li {ag:Bool} {sz len:Nat} (gL:List (List AV)) {parts:List (Nat×Operand)} {ps:List (Nat×List AV)} [hT:fP P T (.slice E)] [hE:c4 P E ag sz m zv] (lY:∀u∈zv.cells.toList,u.oneCell'=true) (hp:bf (ni sz) Γ g (len*sz) parts ps)
 (fA:zv.cells.size=sz:=by rfl) (cJ:Nat.blt 0 sz=true:=by rfl) (p7:Nat.ble (len*sz) 16777216=true:=by rfl) (jK:filled (List.replicate (len*sz) AV.any) ps=gL.flatten:=by rfl) (hlen:gL.length=len:=by rfl) (hr:∀r∈gL,r.length=sz:=by first|(simp;done)|(simp[lF];done)|(intro r hr;repeat(first|(rcases List.mem_cons.1 hr with h|hr;·(subst h;rfl))|(simp at hr;done)))):
 Ok P H Γ g ⟨d,.buildSlice T len parts.toArray,ty,p,af,gd⟩ (.rows sz gL):=Ec hT.h hE.h fA lY cJ p7 hp jK hlen hr
def Ok.bd {l0:List AV} {parts:List (Nat×Operand)} {ps:List (Nat×List AV)} [hT:c4 P T true n m zv] (hz:∀I,bs I l0 zv.cells.toList) (hp:bf (cR P T) Γ g n parts ps) [hk:nw P T] (hn:l0.length=n:=by rfl):Ok P H Γ g ⟨d,.build T parts.toArray,ty,p,af,gd⟩ (.agg (filled l0 ps)):=Q2 hT.h hk.h hz hn hp
def bf.k {i o':Nat} {x:AV} {r:List (Nat×Operand)} {s:List (Nat×List AV)} (k:bf (cR P T) Γ g n r s) [hp:dr P T i o' 1] (ho:Nat.ble (o'+1) n=true:=by rfl) (h:At Γ g y x:=by first|exact .tt|exact .ag|exact .c|exact .nil (.t rfl)|exact .nil .c) (hx:x.One:=by first|exact cL rfl|exact cN|exact cO|exact cP|assumption):bf (cR P T) Γ g n ((i,y)::r) ((o',[x])::s):=bf.c hp.h ho h hx k
def bf.t {i o' q:Nat} {lx:List AV} {r:List (Nat×Operand)} {s:List (Nat×List AV)} (k:bf (cR P T) Γ g n r s) [hp:dr P T i o' q] (h:At Γ g y (.agg lx):=by first|exact .tt|exact .ag|exact .c) (hl:lx.length=q:=by rfl) (ho:Nat.ble (o'+q) n=true:=by rfl):bf (cR P T) Γ g n ((i,y)::r) ((o',lx)::s):=bf.s hp.h hl ho h k
end
section
variable {P:Program} {c:Ctx} {I:Im} {H:List Own} {Γ:Env} {a:Act} {w:World} {Q:Exit->Act->World->Prop} {ops:Array Oper} {rest os:List Oper} {Hf:List (EA->Own)} {ms:Meta} {tail:List Oper} {M:Act->List Own} {k':Nat} {oo:Oper} {x:AV} {d n m:Nat} {G:Bool} {y z:Operand} {ty T T':TypeId} {p:String} {af:Array Edge} {zv:Value}
def nn {N:Act->World->Prop} (h:N a w):wpList P ops (Exit.then N Q) [] a w:=h
def sr {id:Nat} {l:List Oper} {c2:Code} (h:wpList P l.toArray (Exit.then (c2.wp P Q) Q) l a w):(Code.seq (.region id l.toArray false) c2).wp P Q a w:=wp_seq (St.region h)
def St.cd {cc:Operand} {t e:Code} {b:Bool} (U:St c I H Γ a w) (h1:b=true->t.wp P Q a w) (h2:b=false->e.wp P Q a w) (hc:At Γ true cc (.bool b):=by first|exact .tt|exact .ag|exact .c):(Code.cond cc t e).wp P Q a w:=U.cond hc h1 h2
def aP.o (h:∀{F a},Ok P (dq [] a F 0 Hf) (Γ.only (oo.looksAt ops)) true oo x) (k:aP P c ops Q ((oo.dst.getD 0,x)::Γ) Hf os ms) (hg:oo.guard=none:=by rfl) (ho:oo.dst=some (oo.dst.getD 0):=by rfl) (hd:Nat.blt (oo.dst.getD 0) c.n=true:=by rfl):aP P c ops Q Γ Hf (oo::os) (([],none)::ms):=.op hg ho hd (λ_ _=>h) k
def aP.r (T:List Nat) (h:∀{F a},Ok P (dq T a F 0 Hf) (Γ.only (oo.looksAt ops)) true oo x) (k:aP P c ops Q ((oo.dst.getD 0,x)::Γ) Hf os ms) (hc:∀F a a',dq T a F 0 Hf=dq T a' F 0 Hf:=by exactλ_ _ _=>rfl) (hg:oo.guard=none:=by rfl) (ho:oo.dst=some (oo.dst.getD 0):=by rfl) (hd:Nat.blt (oo.dst.getD 0) c.n=true:=by rfl):aP P c ops Q Γ Hf (oo::os) ((T,none)::ms):=.RC T hc hg ho hd (λ_ _=>h) k
def lH.o (ok:Ok P H (Γ.only (oo.looksAt ops)) true oo x) (k:lH P c H ops Q tail ((oo.dst.getD 0,x)::Γ) os) (hg:oo.guard=none:=by rfl):lH P c H ops Q tail Γ (oo::os):=.cons (.of hg ok) k
def lH.q (hg:iC ops (Γ.only (oo.looksAt ops)) oo G) (ok:Ok P H (Γ.only (oo.looksAt ops)) G oo x) (k:lH P c H ops Q tail ((oo.dst.getD 0,AV.cond G x)::Γ) os):lH P c H ops Q tail Γ (oo::os):=.cons (.AP hg ok) k
def fO.o (ok:Ok P H (Γ.only (oo.looksAt ops)) true oo x) (k:fO P c H ops Q tail M (k'+1) ((oo.dst.getD 0,x)::Γ) os) (hg:oo.guard=none:=by rfl):fO P c H ops Q tail M k' Γ (oo::os):=.cons (.of hg ok) k
def fO.q (hg:iC ops (Γ.only (oo.looksAt ops)) oo G) (ok:Ok P H (Γ.only (oo.looksAt ops)) G oo x) (k:fO P c H ops Q tail M (k'+1) ((oo.dst.getD 0,AV.cond G x)::Γ) os):fO P c H ops Q tail M k' Γ (oo::os):=.cons (.AP hg ok) k
def St.sb {b:Nat} {l lx:List AV} (k:Nat) (U:St c I H Γ a w) (kk:∀{a' w'},St c I (H.set k (Own.box b T' lx)) Γ a' w'->wpList P ops Q rest a' w') [hT:c4 P T true n m zv] (hy:At Γ true y (.val (.pointer (some ⟨b,0,none⟩))):=by first|exact .tt|exact .ag|exact .c) (hz:At Γ true z (.agg lx):=by first|exact .tt|exact .ag|exact .c)
 (hk:H[k]?=some (Own.box b T' l):=by rfl) (hn:lx.length=n:=by first|rfl|assumption) (hl:l.length=n:=by rfl):wpList P ops Q (⟨none,.store T y z,ty,p,af,none⟩::rest) a w:=U.Jh k hT.h hy hz hk hn hl λ_ _ h=>kk h
def St.s1 {b q:Nat} {l:List AV} (k:Nat) (U:St c I H Γ a w) (kk:∀{a' w'},St c I (H.set k (Own.box b T' (l.set q x))) Γ a' w'->wpList P ops Q rest a' w') [hT:c4 P T false 1 m zv] (hy:At Γ true y (.val (.pointer (some ⟨b,q,none⟩))):=by first|exact .tt|exact .ag|exact .c) (hz:At Γ true z x:=by first|exact .tt|exact .ag|exact .c|exact .nil (.t rfl)|exact .nil .c)
 (hx:x.One:=by first|exact cL rfl|exact cN|exact cO|exact cP|assumption) (hk:H[k]?=some (Own.box b T' l):=by rfl) (hq:Nat.ble (q+1) l.length=true:=by rfl):wpList P ops Q (⟨none,.store T y z,ty,p,af,none⟩::rest) a w:=U.DY k hT.h hy hz hx hk hq λ_ _ h=>kk h
def St.ag {σ:Type} {m:na σ} {μ:σ->Nat} {x:σ} {Γ0:Env} (y:σ) (U:St c I H Γ a w) (aj:m.ok y) (hμ:μ y<μ x:=by first|omega|(simp;omega)) (hH:H=m.own y:=by rfl) (h1:Env.le (m.env y) Γ:=by repeat(first|exact Env.le_nil|refine Env.bt rfl (by first|rfl|(congr 1;done)) ?_)) (h0:Env.le Γ0 Γ:=by repeat(first|exact Env.le_rfl|refine Env.dj rfl ?_)):AM m μ x c Γ0 a w:=U.again y hμ aj hH h1 h0
def St.me {σ:Type} {m:na σ} {Γ0:Env} (y:σ) (U:St c I H Γ a w) (aj:m.ok y) (hH:H=m.own y:=by rfl) (h1:Env.le (m.env y) Γ:=by repeat(first|exact Env.le_nil|refine Env.bt rfl (by first|rfl|(congr 1;done)) ?_)) (h0:Env.le Γ0 Γ:=by repeat(first|exact Env.le_rfl|exact Env.I5|refine Env.dj rfl ?_)):DQ m c Γ0 a w:=U.meet y aj hH h1 h0
def St.lo {σ:Type} (ms:List Nat) (m:na σ) (μ:σ->Nat) {body:Code} (x:σ) (U:St c I H Γ a w) (aj:m.ok x) (round:∀x I a w,m.ok x->St c I (m.own x) (m.env x++Env.nW ms Γ) a w->body.wp P (Exit.then (AM m μ x c (Env.nW ms Γ)) Q) a w) (hH:H=m.own x:=by rfl) (h1:Env.le (m.env x) Γ:=by repeat(first|exact Env.le_nil|refine Env.bt rfl bF ?_)):(Code.loop body).wp P Q a w:=St.sF ms m μ x U hH aj h1 round
def St.rt {fn:Func} {rs:List ResultVar} {xs:List AV} {res:AV} (U:St c I H Γ a w) (e:ra xs=res) (hr:fn.results=rs.toArray:=by rfl) (h:aZ P H Γ rs xs:=by first|exact aZ.cons (.t rfl) aZ.nil|exact aZ.cons (by first|exact .t rfl|exact .nil rfl) aZ.nil|exact aZ.nil|exact aZ.cons (by first|exact .t rfl|exact .nil rfl) (aZ.cons (by first|exact .t rfl|exact .nil rfl) aZ.nil)|exact aZ.cons (by first|exact .t rfl|exact .nil rfl) (aZ.cons (by first|exact .t rfl|exact .nil rfl) (aZ.cons (by first|exact .t rfl|exact .nil rfl) aZ.nil))):bodyPost P fn (tX c.F c.I c.W res) .ret a w:=U.ret hr h e
end
def c7.set {I:Im}:∀{l:List AV} {cs:List Value},c7 I l cs->∀{i:Nat} {u:Value} {y:AV},l[i]?=some (.val u)->y.h I u->c7 I (l.set i y) cs
 |[],[],_,i,_,_,hi,_=>by simp at hi
 |x::xs,c::cs,h,0,u,y,hi,hy=>by
  simp at hi;subst hi;exact⟨by have e:c=u:=h.1;rw[e];exact hy,h.2⟩
 |x::xs,c::cs,h,i+1,u,y,hi,hy=>⟨h.1,c7.set h.2 (by simpa using hi) hy⟩
 |[],_::_,h,_,_,_,_,_=>h.elim
 |_::_,[],h,_,_,_,_,_=>h.elim
def sV:Nat->List AV->Env->Prop
 |_,[],_=>True
 |k,x::r,Γ=>Env.get k Γ=some x/\sV (k+1) r Γ
def E0 {I:Im} {Γ:Env}:∀(xs:List AV) (pre vs:List Value),vs.length=xs.length->cW I {tmps:=(pre++vs).toArray,defers:=[]} Γ->sV pre.length xs Γ->c7 I xs vs
 |[],_,[],_,_,_=>trivial
 |x::r,pre,v::vs,hl,he,h=>
  ⟨by simpa using he pre.length x h.1,E0 r (pre++[v]) vs (by simpa using hl) (by simpa using he) (by simpa using h.2)⟩
 |[],_,_::_,hl,_,_=>by simp at hl
 |_::_,_,[],hl,_,_=>by simp at hl
def E1 {I:Im} {l:List AV} {vs:Array Value} (h:c7 I l vs.toList):cW I {tmps:=vs,defers:=[]} (js 0 l):=λt x e=>by
 have:=yi l vs.toList [] [] h t x e;simpa using this
section
variable {P:Program} {c:Ctx} {I:Im} {H:List Own} {Γ:Env} {a:Act} {w:World} {E T:TypeId} {v:Value} {sz:Nat} {l:List (List AV)} {u xs gi:List AV} {b:Nat} {x y res q5:AV} {f:FuncId}
def St.E2 {t:Nat} (U:St c I H Γ a w) (h:∀v,x.h I v->y.h I v) (ht:Env.get t Γ=some x):St c I H ((t,y)::Γ) a w:=
 ⟨U.step,U.own,λs z e=>by
  simp only[Env.get] at e;cases hb:Nat.beq t s with
  |true=>rw[hb] at e;obtain rfl:t=s:=Nat.eq_of_beq_eq_true hb;simp at e;subst e;exact h _ (U.env t x ht)
  |false=>rw[hb] at e;exact U.env s z (by simpa using e),U.size,U.defers⟩
def St.fa (k t q:Nat) (U:St c I H Γ a w) (hk:H[k]?=some (Own.row v E sz l):=by rfl) (ht:Env.get t Γ=some (.agg xs):=by rfl) (hq:xs[q]?=some (.val v):=by rfl):∃I',St c I' (H.set k Own.gone) ((t,.agg (xs.set q (.rows sz l)))::Γ) a w:=
 let⟨I',h,hf⟩:=U.sK k hk
 ⟨I',h.E2 (λ_ hx=>J9 q hq hf hx) ht⟩
def St.fc (k t i:Nat) {gw:List AV} (U:St c I H Γ a w) (hk:H[k]?=some (Own.box b T u):=by rfl) (ht:Env.get t Γ=some (.fn f gw):=by rfl) (hi:gw[i]?=some (.val (.pointer (some ⟨b,0,none⟩))):=by rfl):∃I',St c I' (H.set k Own.gone) ((t,.fn f (gw.set i (.ptr u)))::Γ) a w:=
 let⟨I',h,hf⟩:=U.Js k hk
 ⟨I',h.E2 (x:=.fn f gw) (y:=.fn f (gw.set i (.ptr u))) (λ_ ⟨cs,e,hc⟩=>⟨cs,e,hc.set hi hf⟩) ht⟩
def bG.frozen {α:Type} {args:List AV} {ok:α->Prop} {h1:α->List Own} {r:α->AV} (h:bG P f args [] ok h1 r) (fz:∀x c I a w,ok x->St c I (h1 x) [(0,r x)] a w->∃I2 H2 Γ2,St c I2 H2 ((0,q5)::Γ2) a w):Fn P f args q5:=
 ⟨h.1,λI w vs hm ha=>(h.2 I w vs hm (bQ.nil _ _ _) ha).mono λe w' he=>by
   cases e with
   |panicked _=>exact he.elim
   |outgrown=>exact he.elim
   |returned v=>
    obtain⟨x,I',aj,bJ,ho,hx⟩:=he
    obtain⟨I2,H2,Γ2,U⟩:=fz x ⟨w,I,1,dS []⟩ I' {tmps:=#[v],defers:=[]} w' aj ⟨bJ,ho,E1 (l:=[r x]) (vs:=#[v]) ⟨hx,trivial⟩,rfl,rfl⟩
    exact⟨I2,eR.none U.step,by simpa using U.env 0 q5 rfl⟩⟩
def nx {g:Bool} {d:Option Tmp} {ys:Array Operand} {ts:Array TypeId} {ty:TypeId} {p:String} {af:Array Edge} {gd:Option (Nat×Bool)} (hf:Fn P f gi res) (h:∀I a,cW I a Γ->g=true->c7 I xs (ys.map a.eval).toList)
 (fz:∀c I a w,St c I H (js 0 xs) a w->∃I2 H2 Γ2,St c I2 H2 Γ2 a w/\sV 0 gi Γ2) (yN:∀I J u,res.h I u->res.h J u:=by exactλ_ _ _ h=>h) (hn:gi.length=xs.length:=by rfl):Ok P H Γ g ⟨d,.call ⟨.value (.func f),ys,ts⟩,ty,p,af,gd⟩ res:=
 λbase I a w K Q he hm hw hg kk=>by
  have h0:=h I a he hg;obtain⟨I2,H2,Γ2,eW,rv⟩:=fz ⟨w,I,(ys.map a.eval).size,λ_=>True⟩ I {tmps:=ys.map a.eval,defers:=[]} w ⟨eR.refl hm,hw.weaken λb _=>.inr trivial,E1 h0,rfl,rfl⟩;have hx:=E0 gi [] (ys.map a.eval).toList (by rw[h0.length,hn]) (by rw[List.nil_append,Array.toArray_toList];exact eW.env) rv;have hle:Im.le I I2:=eW.step.le;have hc:=hf.2 I2 w (ys.map a.eval) eW.step.c9 hx;unfold Oper.wp;have hr:(execOp a.eval (⟨d,.call ⟨.value (.func f),ys,ts⟩,ty,p,af,gd⟩:Oper)).run P w=.ok (.enter f (ys.map a.eval)) w:=by
   simp only[execOp,resolve,Act.eval];simp[go_sem,hf.1 _ w]
  rw[hr,Oper.upon_enter];refine Calls.mono hc λe w' he=>?_;cases e with
  |returned u=>
   obtain⟨I3,U,hx⟩:=he
   refine kk u (λb=>if b<w.heap.size then I b else I3 b) w' (yN _ _ _ hx) ⟨λb cs e=>?_,λb hb=>if_pos hb,λb cs e=>?_,U.below⟩
   .show(if b<w.heap.size then I b else I3 b)=_
    rw[if_pos (hm.lt e)];exact e
   change(if b<w.heap.size then I b else I3 b)=some cs at e
   split at e
   .exact U.c9 b cs (U.le b cs (hle b cs e))
   exact U.c9 b cs e
  |panicked _=>exact he.elim
  |outgrown=>exact he.elim
end
section
variable {P:Program} {c:Ctx} {I:Im} {H:List Own} {Γ:Env} {a:Act} {w:World} {Q:Exit->Act->World->Prop} {ops:Array Oper} {rest:List Oper} {o:Oper} {x:AV} {g G:Bool} {y z y2:Operand} {ty T T':TypeId} {p:String} {af:Array Edge} {n m f:Nat} {zv:Value} {d:Option Tmp} {gd:Option (Nat×Bool)} {bo:BinOp} {uo:UnOp} {cc:Go.Call}
def Ok.Kh {m n:Int} (hy:At Γ g y (.int m):=by first|exact .tt|exact .c|exact .ag) (hz:At Γ g z (.int n):=by first|exact .tt|exact .c|exact .ag):Ok P H Γ g ⟨d,.binOp .eql T y z T',ty,p,af,gd⟩ (.bool (m==n)):=IT hy hz
def Ok.Ki {m n:Int} (hy:At Γ g y (.int m):=by first|exact .tt|exact .c|exact .ag) (hz:At Γ g z (.int n):=by first|exact .tt|exact .c|exact .ag):Ok P H Γ g ⟨d,.binOp .neq T y z T',ty,p,af,gd⟩ (.bool (m !=n)):=Qu hy hz
def Ok.Kj {m n:Int} (hy:At Γ g y (.int m):=by first|exact .tt|exact .c|exact .ag) (hz:At Γ g z (.int n):=by first|exact .tt|exact .c|exact .ag):Ok P H Γ g ⟨d,.binOp .lss T y z T',ty,p,af,gd⟩ (.bool (decide (m<n))):=IN hy hz
def Ok.Kk {m n:Int} (hy:At Γ g y (.int m):=by first|exact .tt|exact .c|exact .ag) (hz:At Γ g z (.int n):=by first|exact .tt|exact .c|exact .ag):Ok P H Γ g ⟨d,.binOp .leq T y z T',ty,p,af,gd⟩ (.bool (decide (m<=n))):=IP hy hz
def Ok.Kl {m n:Int} (hy:At Γ g y (.int m):=by first|exact .tt|exact .c|exact .ag) (hz:At Γ g z (.int n):=by first|exact .tt|exact .c|exact .ag):Ok P H Γ g ⟨d,.binOp .gtr T y z T',ty,p,af,gd⟩ (.bool (decide (n<m))):=IQ hy hz
def Ok.Km {m n:Int} (hy:At Γ g y (.int m):=by first|exact .tt|exact .c|exact .ag) (hz:At Γ g z (.int n):=by first|exact .tt|exact .c|exact .ag):Ok P H Γ g ⟨d,.binOp .geq T y z T',ty,p,af,gd⟩ (.bool (decide (n<=m))):=IS hy hz
def Ok.Kn {m n:Int} (hy:At Γ g y (.int m):=by first|exact .tt|exact .c|exact .ag) (hz:At Γ g z (.int n):=by first|exact .tt|exact .c|exact .ag) (hb:g=true->-9223372036854775808<=m+n/\m+n<=9223372036854775807:=by intro hg;first|omega|(simp at hg;omega)):Ok P H Γ g ⟨d,.binOp .add T y z T',ty,p,af,gd⟩ (.int (m+n)):=cr hy hz hb
def Ok.E3 {m n:Int} (hy:At Γ g y (.int m):=by first|exact .tt|exact .c|exact .ag) (hz:At Γ g z (.int n):=by first|exact .tt|exact .c|exact .ag) (hb:g=true->-9223372036854775808<=m-n/\m-n<=9223372036854775807:=by intro hg;first|omega|(simp at hg;omega)):Ok P H Γ g ⟨d,.binOp .sub T y z T',ty,p,af,gd⟩ (.int (m-n)):=IM hy hz hb
def Ok.Ko {aa:Operand} {b x:Bool} (hc:At Γ g y (.bool b):=by first|exact .tt|exact .ag) (ha:At Γ g aa (.cond b (.bool x)):=by exact .pc):Ok P H Γ g ⟨d,.pick y aa (.const (.bool false)),ty,p,af,gd⟩ (.bool (b&&x)):=Qs hc ha .c
def Ok.Kp {bb:Operand} {b x:Bool} (hc:At Γ g y (.bool b):=by first|exact .tt|exact .ag) (hb:At Γ g bb (.cond (!b) (.bool x)):=by exact .pc):Ok P H Γ g ⟨d,.pick y (.const (.bool true)) bb,ty,p,af,gd⟩ (.bool (b||x)):=Qt hc .c hb
def Ok.kM (h:Ok P H Γ g ⟨d,.move y,ty,p,af,gd⟩ x):Ok P H Γ g ⟨d,.move y,ty,p,af,gd⟩ x:=h
def Ok.kL (h:Ok P H Γ g ⟨d,.load T y,ty,p,af,gd⟩ x):Ok P H Γ g ⟨d,.load T y,ty,p,af,gd⟩ x:=h
def Ok.kF (h:Ok P H Γ g ⟨d,.fieldAddr T y f,ty,p,af,gd⟩ x):Ok P H Γ g ⟨d,.fieldAddr T y f,ty,p,af,gd⟩ x:=h
def Ok.kA (h:Ok P H Γ g ⟨d,.assign y,ty,p,af,gd⟩ x):Ok P H Γ g ⟨d,.assign y,ty,p,af,gd⟩ x:=h
def Ok.Kq (h:Ok P H Γ g ⟨d,.binOp .eql T y z T',ty,p,af,gd⟩ x):Ok P H Γ g ⟨d,.binOp .eql T y z T',ty,p,af,gd⟩ x:=h
def Ok.Kr (h:Ok P H Γ g ⟨d,.binOp .lss T y z T',ty,p,af,gd⟩ x):Ok P H Γ g ⟨d,.binOp .lss T y z T',ty,p,af,gd⟩ x:=h
def Ok.kP (h:Ok P H Γ g ⟨d,.pick y z y2,ty,p,af,gd⟩ x):Ok P H Γ g ⟨d,.pick y z y2,ty,p,af,gd⟩ x:=h
def Ok.kC (h:Ok P H Γ g ⟨d,.call cc,ty,p,af,gd⟩ x):Ok P H Γ g ⟨d,.call cc,ty,p,af,gd⟩ x:=h
def Ok.kI (h:Ok P H Γ g ⟨d,.indexAddr T y z,ty,p,af,gd⟩ x):Ok P H Γ g ⟨d,.indexAddr T y z,ty,p,af,gd⟩ x:=h
def Ok.Ks (h:Ok P H Γ g ⟨d,.binOp .add T y z T',ty,p,af,gd⟩ x):Ok P H Γ g ⟨d,.binOp .add T y z T',ty,p,af,gd⟩ x:=h
def Ok.kX (h:Ok P H Γ g ⟨d,.box T y,ty,p,af,gd⟩ x):Ok P H Γ g ⟨d,.box T y,ty,p,af,gd⟩ x:=h
def Ok.kN (h:Ok P H Γ g ⟨d,.unOp uo T y,ty,p,af,gd⟩ x):Ok P H Γ g ⟨d,.unOp uo T y,ty,p,af,gd⟩ x:=h
def Ok.kZ (h:Ok P H Γ g ⟨d,.nilCheck y,ty,p,af,gd⟩ x):Ok P H Γ g ⟨d,.nilCheck y,ty,p,af,gd⟩ x:=h
def Ok.kE (h:Ok P H Γ g ⟨d,.extract y f,ty,p,af,gd⟩ x):Ok P H Γ g ⟨d,.extract y f,ty,p,af,gd⟩ x:=h
def Ok.Kt (h:Ok P H Γ g ⟨d,.binOp .gtr T y z T',ty,p,af,gd⟩ x):Ok P H Γ g ⟨d,.binOp .gtr T y z T',ty,p,af,gd⟩ x:=h
def Ok.Ku (h:Ok P H Γ g ⟨d,.binOp .neq T y z T',ty,p,af,gd⟩ x):Ok P H Γ g ⟨d,.binOp .neq T y z T',ty,p,af,gd⟩ x:=h
def Ok.Kv (h:Ok P H Γ g ⟨d,.binOp .sub T y z T',ty,p,af,gd⟩ x):Ok P H Γ g ⟨d,.binOp .sub T y z T',ty,p,af,gd⟩ x:=h
def Ok.Kw (h:Ok P H Γ g ⟨d,.binOp .leq T y z T',ty,p,af,gd⟩ x):Ok P H Γ g ⟨d,.binOp .leq T y z T',ty,p,af,gd⟩ x:=h
def Ok.Kx (h:Ok P H Γ g ⟨d,.binOp .geq T y z T',ty,p,af,gd⟩ x):Ok P H Γ g ⟨d,.binOp .geq T y z T',ty,p,af,gd⟩ x:=h
def Ok.zo (h:Ok P H Γ g o x:=by
 first
 |(apply Ok.kM;first|exact .mv|exact vE .c)
 |(apply Ok.kL;first|exact .l1|exact .lb 0|exact .EV|exact .EW|exact .ls 0|exact .lb 1|exact .ls 1|exact .lb 2|exact .ls 2|exact .lb 3|exact .ls 3|exact .lb 4|exact .ls 4|exact .lb 5|exact .ls 5|exact .lb 6|exact .ls 6)
 |(apply Ok.kF;first|exact .fp|exact .fv)
 |(apply Ok.kA;first|exact .as|exact vF .c)
 |(apply Ok.Kq;exact .Kh)
 |(apply Ok.Kr;exact .Kj)
 |(apply Ok.kP;first|exact .Kp|exact .Ko)
 |(apply Ok.kC;first|exact .EX|exact .EY|exact .EZ)
 |(apply Ok.kI;first|exact .Kf|exact .Ke|exact .Kg)
 |(apply Ok.Ks;exact .Kn)
 |(apply Ok.kX;exact .bp)
 |(apply Ok.kN;exact .nt)
 |(apply Ok.kZ;exact .nl)
 |(apply Ok.kE;exact .e)
 |(apply Ok.Kt;exact .Kl)
 |(apply Ok.Ku;exact .Ki)
 |(apply Ok.Kv;exact .E3)
 |(apply Ok.Kw;exact .Kk)
 |(apply Ok.Kx;exact .Km)):Ok P H Γ g o x:=h
def Ok.zp (h:Ok P H Γ g o x:=by
 first
 |(apply Ok.kM;first|exact .mx .ag|exact .mv|exact vE .c)
 |(apply Ok.kL;first|exact .lx .ag|exact .yQ 0 .ag|exact .yQ 1 .ag|exact .yQ 2 .ag|exact .yQ 3 .ag|exact .yQ 4 .ag|exact .l1|exact .lb 0|exact .EV|exact .EW|exact .ls 0|exact .lb 1|exact .ls 1|exact .lb 2|exact .ls 2|exact .lb 3|exact .ls 3|exact .lb 4|exact .ls 4|exact .lb 5|exact .ls 5|exact .lb 6|exact .ls 6)
 |(apply Ok.kF;first|exact .fx .ag|exact .R8 .ag|exact .fp|exact .fv)
 |(apply Ok.kA;first|exact .R5 .ag|exact .as|exact vF .c)
 |(apply Ok.Kq;exact .Kh)
 |(apply Ok.Kr;exact .Kj)
 |(apply Ok.kP;first|exact .Kp|exact .Ko)
 |(apply Ok.kC;first|exact .EX|exact .EY|exact .EZ)
 |(apply Ok.kI;first|exact .Kf|exact .Ke|exact .Kg)
 |(apply Ok.Ks;exact .Kn)
 |(apply Ok.kX;exact .bp)
 |(apply Ok.kN;first|exact .R6 .ag|exact .nt)
 |(apply Ok.kZ;exact .nl)
 |(apply Ok.kE;exact .e)
 |(apply Ok.Kt;exact .Kl)
 |(apply Ok.Ku;exact .Ki)
 |(apply Ok.Kv;exact .E3)
 |(apply Ok.Kw;exact .Kk)
 |(apply Ok.Kx;exact .Km)):Ok P H Γ g o x:=h
def iC.zg {b:Bool} (h:iC ops Γ o b:=by first|exact .T|exact .F|exact .T2|exact .F2):iC ops Γ o b:=h
def St.oy {d:Nat} {op:Op} (U:St c I H Γ a w) (hd:Nat.blt d c.n=true) (ok:Ok P H Γ true ⟨some d,op,ty,p,af,none⟩ x) (k:∀I' a' w',St c I' H ((d,x)::Γ) a' w'->wpList P ops Q rest a' w'):wpList P ops Q (⟨some d,op,ty,p,af,none⟩::rest) a w:=U.op rfl rfl hd ok k
def St.qy {d:Nat} {op:Op} {gd:Nat×Bool} (U:St c I H Γ a w) (hd:Nat.blt d c.n=true) (hg:iC ops Γ ⟨some d,op,ty,p,af,some gd⟩ G) (ok:Ok P H Γ G ⟨some d,op,ty,p,af,some gd⟩ x) (k:∀I' a' w',St c I' H ((d,.cond G x)::Γ) a' w'->wpList P ops Q rest a' w'):wpList P ops Q (⟨some d,op,ty,p,af,some gd⟩::rest) a w:=U.AO hg rfl hd ok k
def St.sz {b:Nat} {l lx:List AV} (k:Nat) (U:St c I H Γ a w) (kk:∀I' a' w',St c I' (H.set k (Own.box b T' lx)) Γ a' w'->wpList P ops Q rest a' w') [hT:c4 P T true n m zv] (hy:At Γ true y (.val (.pointer (some ⟨b,0,none⟩))):=by first|exact .tt|exact .ag|exact .c) (hz:At Γ true z (.agg lx):=by first|exact .tt|exact .ag|exact .c)
 (hk:H[k]?=some (Own.box b T' l):=by rfl) (hn:lx.length=n:=by first|rfl|assumption) (hl:l.length=n:=by rfl):wpList P ops Q (⟨none,.store T y z,ty,p,af,none⟩::rest) a w:=U.Jh k hT.h hy hz hk hn hl λ_ _ h=>kk _ _ _ h
def St.sy {b q:Nat} {l:List AV} (k:Nat) (U:St c I H Γ a w) (kk:∀I' a' w',St c I' (H.set k (Own.box b T' (l.set q x))) Γ a' w'->wpList P ops Q rest a' w') [hT:c4 P T false 1 m zv] (hy:At Γ true y (.val (.pointer (some ⟨b,q,none⟩))):=by first|exact .tt|exact .ag|exact .c) (hz:At Γ true z x:=by first|exact .tt|exact .ag|exact .c|exact .nil (.t rfl)|exact .nil .c)
 (hx:x.One:=by first|exact cL rfl|exact cN|exact cO|exact cP|assumption) (hk:H[k]?=some (Own.box b T' l):=by rfl) (hq:Nat.ble (q+1) l.length=true:=by rfl):wpList P ops Q (⟨none,.store T y z,ty,p,af,none⟩::rest) a w:=U.DY k hT.h hy hz hx hk hq λ_ _ h=>kk _ _ _ h
def iQ.oo {os:List Oper} {d:Nat} {op:Op} (hg:d=d) (ok:Ok P H (Γ.only ((⟨some d,op,ty,p,af,none⟩:Oper).looksAt ops)) true ⟨some d,op,ty,p,af,none⟩ x) (k:iQ P c H ops Q ((d,x)::Γ) os):iQ P c H ops Q Γ (⟨some d,op,ty,p,af,none⟩::os):=.cons (.of rfl ok) k
def iQ.qq {os:List Oper} {d:Nat} {op:Op} {gd:Nat×Bool} (hg:iC ops (Γ.only ((⟨some d,op,ty,p,af,some gd⟩:Oper).looksAt ops)) ⟨some d,op,ty,p,af,some gd⟩ G) (ok:Ok P H (Γ.only ((⟨some d,op,ty,p,af,some gd⟩:Oper).looksAt ops)) G ⟨some d,op,ty,p,af,some gd⟩ x) (k:iQ P c H ops Q ((d,.cond G x)::Γ) os):iQ P c H ops Q Γ (⟨some d,op,ty,p,af,some gd⟩::os):=.cons (.AP hg ok) k
def R9 (h:wpList P ops Q (⟨none,.store T y z,ty,p,af,none⟩::rest) a w):wpList P ops Q (⟨none,.store T y z,ty,p,af,none⟩::rest) a w:=h
end
structure Hid (Q:Prop):Prop where
 out:Q
def zz {P Q:Prop} (k:Q) (h:Hid Q->P:=by
 intro gk;(with_reducible (repeat(first|refine nn ?_|refine sr ?_|refine ba ?_|refine wp_seq ?_|refine wp_block ?_|refine St.region ?_|refine wpList_nil ?_|refine yj ?_|refine wp_skip ?_)));first
 |(apply St.oy U;rfl;exact .zo;intro I a w U)
 |(apply St.qy U;rfl;exact .zg;exact .zp;intro I a w U)
 |(refine R9 ?_;first|refine U.sy 0 (λI a w U=>?_)|refine U.sz 0 (λI a w U=>?_)|refine U.sy 1 (λI a w U=>?_)|refine U.sz 1 (λI a w U=>?_)|refine U.sy 2 (λI a w U=>?_)|refine U.sz 2 (λI a w U=>?_)|refine U.sy 3 (λI a w U=>?_)|refine U.sz 3 (λI a w U=>?_)|refine U.sy 4 (λI a w U=>?_)|refine U.sz 4 (λI a w U=>?_)|refine U.sz 5 (λI a w U=>?_)|refine U.sz 6 (λI a w U=>?_))
 |(refine U.dk ?_;(repeat(first|(apply iQ.oo;rfl;exact .zo)|(apply iQ.qq;exact .zg;exact .zp)));refine .nil ?_;intro I a w U)
 revert I a w;exact gk.out):P:=h ⟨k⟩
def zk {P Q:Prop} (k:Q) (h:Hid Q->P:=by
 intro gk;first|(apply iQ.oo;rfl;exact .zo)|(apply iQ.qq;exact .zg;exact .zp)|refine .o .zo ?_|refine .q .zg .zp ?_
 exact gk.out):P:=h ⟨k⟩
def aX {P Q:Prop} (k:Q) (h:Hid Q->P:=by intro gk;(iterate 1 (refine zz λI a w U=>?_));revert I a w;exact gk.out):P:=h ⟨k⟩
def aA {P Q:Prop} (k:Q) (h:Hid Q->P:=by intro gk;(iterate 2 (refine zz λI a w U=>?_));revert I a w;exact gk.out):P:=h ⟨k⟩
def aV {P Q:Prop} (k:Q) (h:Hid Q->P:=by intro gk;(iterate 3 (refine zz λI a w U=>?_));revert I a w;exact gk.out):P:=h ⟨k⟩
def aR {P Q:Prop} (k:Q) (h:Hid Q->P:=by intro gk;(iterate 4 (refine zz λI a w U=>?_));revert I a w;exact gk.out):P:=h ⟨k⟩
def bV {P Q:Prop} (k:Q) (h:Hid Q->P:=by intro gk;(iterate 5 (refine zz λI a w U=>?_));revert I a w;exact gk.out):P:=h ⟨k⟩
def df {P Q:Prop} (k:Q) (h:Hid Q->P:=by intro gk;(iterate 6 (refine zz λI a w U=>?_));revert I a w;exact gk.out):P:=h ⟨k⟩
def fm {P Q:Prop} (k:Q) (h:Hid Q->P:=by intro gk;(iterate 7 (refine zz λI a w U=>?_));revert I a w;exact gk.out):P:=h ⟨k⟩
def lJ {P Q:Prop} (k:Q) (h:Hid Q->P:=by intro gk;(iterate 8 (refine zz λI a w U=>?_));revert I a w;exact gk.out):P:=h ⟨k⟩
def yR {P Q:Prop} (k:Q) (h:Hid Q->P:=by intro gk;(iterate 9 (refine zz λI a w U=>?_));revert I a w;exact gk.out):P:=h ⟨k⟩
def qg {P Q:Prop} (k:Q) (h:Hid Q->P:=by intro gk;(iterate 10 (refine zz λI a w U=>?_));revert I a w;exact gk.out):P:=h ⟨k⟩
def yS {P Q:Prop} (k:Q) (h:Hid Q->P:=by intro gk;(iterate 11 (refine zz λI a w U=>?_));revert I a w;exact gk.out):P:=h ⟨k⟩
def Bq {P Q:Prop} (k:Q) (h:Hid Q->P:=by intro gk;(iterate 12 (refine zz λI a w U=>?_));revert I a w;exact gk.out):P:=h ⟨k⟩
def Br {P Q:Prop} (k:Q) (h:Hid Q->P:=by intro gk;(iterate 13 (refine zz λI a w U=>?_));revert I a w;exact gk.out):P:=h ⟨k⟩
def E4 {P Q:Prop} (k:Q) (h:Hid Q->P:=by intro gk;(iterate 14 (refine zz λI a w U=>?_));revert I a w;exact gk.out):P:=h ⟨k⟩
def E5 {P Q:Prop} (k:Q) (h:Hid Q->P:=by intro gk;(iterate 15 (refine zz λI a w U=>?_));revert I a w;exact gk.out):P:=h ⟨k⟩
def Ky {P Q:Prop} (k:Q) (h:Hid Q->P:=by intro gk;(iterate 17 (refine zz λI a w U=>?_));revert I a w;exact gk.out):P:=h ⟨k⟩
def Kz {P Q:Prop} (k:Q) (h:Hid Q->P:=by intro gk;(iterate 19 (refine zz λI a w U=>?_));revert I a w;exact gk.out):P:=h ⟨k⟩
def KA {P Q:Prop} (k:Q) (h:Hid Q->P:=by intro gk;(iterate 21 (refine zz λI a w U=>?_));revert I a w;exact gk.out):P:=h ⟨k⟩
def KB {P Q:Prop} (k:Q) (h:Hid Q->P:=by intro gk;(iterate 22 (refine zz λI a w U=>?_));revert I a w;exact gk.out):P:=h ⟨k⟩
def Sa {P Q:Prop} (k:Q) (h:Hid Q->P:=by intro gk;(iterate 23 (refine zz λI a w U=>?_));revert I a w;exact gk.out):P:=h ⟨k⟩
def Sb {P Q:Prop} (k:Q) (h:Hid Q->P:=by intro gk;(iterate 24 (refine zz λI a w U=>?_));revert I a w;exact gk.out):P:=h ⟨k⟩
def Sc {P Q:Prop} (k:Q) (h:Hid Q->P:=by intro gk;(iterate 32 (refine zz λI a w U=>?_));revert I a w;exact gk.out):P:=h ⟨k⟩
def zt {P Q:Prop} (k:Q) (h:Hid Q->P:=by
 intro gk;(with_reducible (repeat(first|refine nn ?_|refine sr ?_|refine ba ?_|refine wp_seq ?_|refine wp_block ?_|refine St.region ?_|refine wpList_nil ?_|refine yj ?_|refine wp_skip ?_|refine wp_ret ?_|refine vJ ?_|refine tY ?_|refine wp_exit ?_|refine bU ?_|refine eb ?_|refine QA rfl ?_)));exact gk.out):P:=h ⟨k⟩
def cz {P Q R:Prop} (k:Q) (l:R) (h:Hid Q->Hid R->P:=by
 intro gk gl;refine U.cd (λgb=>?_) (λgb=>?_)
 ·(try simp only[B] at gb);revert gb;exact gk.out
 (try simp only[B] at gb);revert gb;exact gl.out):P:=h ⟨k⟩ ⟨l⟩
def uz {P Q R:Prop} (k:Q) (l:R) (h:Hid Q->Hid R->P:=by
 intro gk gl;refine U.cd (λgb=>?_) (λgb=>?_)
 ·(try simp only[B] at gb);revert gb;exact gk.out
 revert gb;exact gl.out):P:=h ⟨k⟩ ⟨l⟩
def KC {P Q R:Prop} (k:Q) (l:R) (h:Hid Q->Hid R->P:=by
 intro gk gl;refine U.cd (λgb=>?_) (λgb=>?_)
 .revert gb;exact gk.out
 (try simp only[B] at gb);revert gb;exact gl.out):P:=h ⟨k⟩ ⟨l⟩
def al {P Q:Prop} (k:Q) (h:Hid Q->P:=by intro gk;(iterate 1 (refine zz λI a w U=>?_));refine zt ?_;revert I a w;exact gk.out):P:=h ⟨k⟩
def ax {P Q:Prop} (k:Q) (h:Hid Q->P:=by intro gk;(iterate 2 (refine zz λI a w U=>?_));refine zt ?_;revert I a w;exact gk.out):P:=h ⟨k⟩
def aI {P Q:Prop} (k:Q) (h:Hid Q->P:=by intro gk;(iterate 3 (refine zz λI a w U=>?_));refine zt ?_;revert I a w;exact gk.out):P:=h ⟨k⟩
def aW {P Q:Prop} (k:Q) (h:Hid Q->P:=by intro gk;refine al λI a w U=>?_;refine U.rt ?_;exact gk.out):P:=h ⟨k⟩
def cK {P Q:Prop} (k:Q) (h:Hid Q->P:=by intro gk;refine ax λI a w U=>?_;refine U.rt ?_;exact gk.out):P:=h ⟨k⟩
def ry {P Q:Prop} (k:Q) (h:Hid Q->P:=by intro gk;refine aI λI a w U=>?_;refine U.rt ?_;exact gk.out):P:=h ⟨k⟩
def aU {P Q:Prop} (k:Q) (h:Hid Q->P:=by intro gk;(iterate 4 (refine zz λI a w U=>?_));refine zt ?_;revert I a w;exact gk.out):P:=h ⟨k⟩
def bP {P Q:Prop} (k:Q) (h:Hid Q->P:=by intro gk;(iterate 5 (refine zz λI a w U=>?_));refine zt ?_;revert I a w;exact gk.out):P:=h ⟨k⟩
def gy {P Q:Prop} (k:Q) (h:Hid Q->P:=by intro gk;(iterate 6 (refine zz λI a w U=>?_));refine zt ?_;revert I a w;exact gk.out):P:=h ⟨k⟩
def fW {P Q:Prop} (k:Q) (h:Hid Q->P:=by intro gk;(iterate 7 (refine zz λI a w U=>?_));refine zt ?_;revert I a w;exact gk.out):P:=h ⟨k⟩
def et {P Q:Prop} (k:Q) (h:Hid Q->P:=by intro gk;(iterate 8 (refine zz λI a w U=>?_));refine zt ?_;revert I a w;exact gk.out):P:=h ⟨k⟩
def iG {P Q:Prop} (k:Q) (h:Hid Q->P:=by intro gk;(iterate 9 (refine zz λI a w U=>?_));refine zt ?_;revert I a w;exact gk.out):P:=h ⟨k⟩
def n4 {P Q:Prop} (k:Q) (h:Hid Q->P:=by intro gk;(iterate 10 (refine zz λI a w U=>?_));refine zt ?_;revert I a w;exact gk.out):P:=h ⟨k⟩
def Bs {P Q:Prop} (k:Q) (h:Hid Q->P:=by intro gk;(iterate 11 (refine zz λI a w U=>?_));refine zt ?_;revert I a w;exact gk.out):P:=h ⟨k⟩
def E6 {P Q:Prop} (k:Q) (h:Hid Q->P:=by intro gk;(iterate 12 (refine zz λI a w U=>?_));refine zt ?_;revert I a w;exact gk.out):P:=h ⟨k⟩
def E7 {P Q:Prop} (k:Q) (h:Hid Q->P:=by intro gk;(iterate 13 (refine zz λI a w U=>?_));refine zt ?_;revert I a w;exact gk.out):P:=h ⟨k⟩
def Sd {P Q:Prop} (k:Q) (h:Hid Q->P:=by intro gk;(iterate 14 (refine zz λI a w U=>?_));refine zt ?_;revert I a w;exact gk.out):P:=h ⟨k⟩
def E8 {P Q:Prop} (k:Q) (h:Hid Q->P:=by intro gk;(iterate 17 (refine zz λI a w U=>?_));refine zt ?_;revert I a w;exact gk.out):P:=h ⟨k⟩
def Se {P Q:Prop} (k:Q) (h:Hid Q->P:=by intro gk;(iterate 19 (refine zz λI a w U=>?_));refine zt ?_;revert I a w;exact gk.out):P:=h ⟨k⟩
def KD {P Q:Prop} (k:Q) (h:Hid Q->P:=by intro gk;(iterate 20 (refine zz λI a w U=>?_));refine zt ?_;revert I a w;exact gk.out):P:=h ⟨k⟩
def Sf {P Q:Prop} (k:Q) (h:Hid Q->P:=by intro gk;(iterate 22 (refine zz λI a w U=>?_));refine zt ?_;revert I a w;exact gk.out):P:=h ⟨k⟩
def Bt {P Q:Prop} (k:Q) (h:Hid Q->P:=by intro gk;(iterate 23 (refine zz λI a w U=>?_));refine zt ?_;revert I a w;exact gk.out):P:=h ⟨k⟩
def Sg {P Q:Prop} (k:Q) (h:Hid Q->P:=by intro gk;(iterate 29 (refine zz λI a w U=>?_));refine zt ?_;revert I a w;exact gk.out):P:=h ⟨k⟩
def Sh {P Q:Prop} (k:Q) (h:Hid Q->P:=by intro gk;(iterate 31 (refine zz λI a w U=>?_));refine zt ?_;revert I a w;exact gk.out):P:=h ⟨k⟩
def br {P Q:Prop} (k:Q) (h:Hid Q->P:=by intro gk;(iterate 1 (refine zk ?_));exact gk.out):P:=h ⟨k⟩
def cy {P Q:Prop} (k:Q) (h:Hid Q->P:=by intro gk;(iterate 2 (refine zk ?_));exact gk.out):P:=h ⟨k⟩
def ee {P Q:Prop} (k:Q) (h:Hid Q->P:=by intro gk;(iterate 3 (refine zk ?_));exact gk.out):P:=h ⟨k⟩
def ef {P Q:Prop} (k:Q) (h:Hid Q->P:=by intro gk;(iterate 4 (refine zk ?_));exact gk.out):P:=h ⟨k⟩
def fQ {P Q:Prop} (k:Q) (h:Hid Q->P:=by intro gk;(iterate 5 (refine zk ?_));exact gk.out):P:=h ⟨k⟩
def gS {P Q:Prop} (k:Q) (h:Hid Q->P:=by intro gk;(iterate 6 (refine zk ?_));exact gk.out):P:=h ⟨k⟩
def ky {P Q:Prop} (k:Q) (h:Hid Q->P:=by intro gk;(iterate 7 (refine zk ?_));exact gk.out):P:=h ⟨k⟩
def kz {P Q:Prop} (k:Q) (h:Hid Q->P:=by intro gk;(iterate 8 (refine zk ?_));exact gk.out):P:=h ⟨k⟩
def wg {P Q:Prop} (k:Q) (h:Hid Q->P:=by intro gk;(iterate 9 (refine zk ?_));exact gk.out):P:=h ⟨k⟩
def wh {P Q:Prop} (k:Q) (h:Hid Q->P:=by intro gk;(iterate 10 (refine zk ?_));exact gk.out):P:=h ⟨k⟩
def Si {P Q:Prop} (k:Q) (h:Hid Q->P:=by intro gk;(iterate 11 (refine zk ?_));exact gk.out):P:=h ⟨k⟩
def E9 {P Q:Prop} (k:Q) (h:Hid Q->P:=by intro gk;(iterate 12 (refine zk ?_));exact gk.out):P:=h ⟨k⟩
def rz {P Q:Prop} (k:Q) (h:Hid Q->P:=by intro gk;(iterate 14 (refine zk ?_));exact gk.out):P:=h ⟨k⟩
def Sj {P Q:Prop} (k:Q) (h:Hid Q->P:=by intro gk;(iterate 15 (refine zk ?_));exact gk.out):P:=h ⟨k⟩
def n5 {P Q:Prop} (k:Q) (h:Hid Q->P:=by intro gk;(iterate 16 (refine zk ?_));exact gk.out):P:=h ⟨k⟩
section
variable {P:Program} {c:Ctx} {I:Im} {H:List Own} {Γ:Env} {a:Act} {w:World} {E T:TypeId} {v:Value} {sz:Nat} {l:List (List AV)} {u:List AV} {b:Nat}
def St.fr (k t:Nat) (U:St c I H Γ a w) (hk:H[k]?=some (Own.row v E sz l):=by rfl) (ht:Env.get t Γ=some (.val v):=by rfl):∃I',St c I' (H.set k Own.gone) ((t,.rows sz l)::Γ) a w:=
 let⟨I',h,hf⟩:=U.sK k hk
 ⟨I',h.vP ht hf⟩
def St.fb (k t:Nat) (U:St c I H Γ a w) (hk:H[k]?=some (Own.box b T u):=by rfl) (ht:Env.get t Γ=some (.val (.pointer (some ⟨b,0,none⟩))):=by rfl):∃I',St c I' (H.set k Own.gone) ((t,.ptr u)::Γ) a w:=
 let⟨I',h,hf⟩:=U.Js k hk
 ⟨I',h.vP ht hf⟩
def St.fu (k q j:Nat) (U:St c I H Γ a w) (hk:H[k]?=some (Own.row v E sz l):=by rfl) (hj:(H.set k Own.gone)[j]?=some (Own.box b T u):=by rfl) (hq:u[q]?=some (.val v):=by rfl):∃I',St c I' ((H.set k Own.gone).set j (Own.box b T (u.set q (.rows sz l)))) Γ a w:=
 let⟨I',h,hf⟩:=U.sK k hk
 ⟨I',h.lX j hj hq hf⟩
end
section
variable {P:Program} {H:List Own} {Γ:Env}
def Fn.go {f:FuncId} {fn:Func} {code:Code} {args:List AV} {res:AV} (N:Nat) (hf:P.funcs[f]?=some fn) (hn:fn.ntmps=N)
 (h:∀(W:World) (I:Im) (a:Act),St ⟨W,I,N,j2⟩ I [] (js 0 args) a W->code.wp P (bodyPost P fn (tX j2 I W res)) a W)
 (hb:fn.body=some code:=by rfl) (hN:Nat.ble args.length N=true:=by rfl) (m9:(fn.name== "runtime.NumGoroutine")=false:=by kernel_rfl):Fn P f args res:=Fn.intro N hf hb hn hN m9 h
def j5.sx {s b n m:Nat} {T T':TypeId} {zv:Value} {l:List AV} (k:Nat) [hT:c4 P T true n m zv] (h:Env.get s Γ=some (.val (.pointer (some ⟨b,0,none⟩))):=by rfl) (hk:H[k]?=some (Own.box b T' l):=by rfl) (hn:l.length=n:=by first|rfl|assumption):j5 P H Γ (.cell s T) (.agg l):=.s k hT.h h hk hn
def j5.x {r:ResultVar} {x:AV} (h:j5 P H Γ r x:=by first|exact .t rfl|exact .nil rfl):j5 P H Γ r x:=h
def TD {α:Type}:(∀(n:Nat) (a:α) (l:List α),List.take (n+1) (a::l)=a::List.take n l)/\(∀l:List α,List.take 0 l=[])/\(∀(n:Nat) (a:α) (l:List α),List.drop (n+1) (a::l)=List.drop n l)/\(∀l:List α,List.drop 0 l=l):=
 ⟨λ_ _ _=>rfl,λ_=>rfl,λ_ _ _=>rfl,λ_=>rfl⟩
end
section
variable {P:Program} {c:Ctx} {I:Im} {H:List Own} {Γ:Env} {a:Act} {w:World}
def St.ln {α:Type} {s:Nat} {f:α->List AV} {l:List α} {xs:List AV} (U:St c I H Γ a w) (t i:Nat) (ht:Env.get t Γ=some (.agg xs):=by rfl) (hi:xs[i]?=some (.rows s (l.map f)):=by rfl):l.length<=9223372036854775807:=by
 obtain⟨cs,_,hc⟩:=U.env t _ ht;obtain⟨u,_,h,_⟩:=hc.get hi;exact yy h
end
section
variable {P:Program} {c:Ctx} {I:Im} {H:List Own} {Γ:Env} {a:Act} {w:World} {Q:Exit->Act->World->Prop} {ops:Array Oper} {rest:List Oper} {y z:Operand} {ty T E:TypeId} {p:String} {af:Array Edge} {m n sz d:Nat} {zv:Value} {ag:Bool}
def St.ap {v:Value} {l l2:List (List AV)} (k:Nat) (U:St c I H Γ a w) (kk:∀v' a' w',St c I (H.set k (Own.row v' E sz (l++l2))) ((d,.val v')::Γ) a' w'->wpList P ops Q rest a' w') [hU:fP P T (.slice E)] [hE:c4 P E ag sz m zv]
 (hy:At Γ true y (.val v):=by first|exact .tt|exact .c) (hz:At Γ true z (.rows sz l2):=by first|exact .tt|exact .nil .tt) (hk:H[k]?=some (Own.row v E sz l):=by rfl) (hb:(l.length+l2.length)*m<=140737488355328/\l.length+l2.length<=140737488355328:=by simp;omega) (hd:Nat.blt d c.n=true:=by rfl) (fA:zv.cells.size=sz:=by rfl):
 wpList P ops Q (⟨some d,.call ⟨.builtin .append,#[y,z],#[T,T]⟩,ty,p,af,none⟩::rest) a w:=U.append k hd hU.h hE.h fA hy hz hk hb kk
def St.l0 (U:St c I H Γ a w) (k:∀b I a' w',St c I (H++[Own.row (.slice (some ⟨b,0,none⟩) 0 0) E sz []]) ((d,.val (.slice (some ⟨b,0,none⟩) 0 0))::Γ) a' w'->wpList P ops Q rest a' w') [hU:fP P T (.slice E)] [hE:c4 P E ag sz m zv] (cJ:0<sz:=by decide) (hd:Nat.blt d c.n=true:=by rfl):
 wpList P ops Q (⟨some d,.buildSlice T 0 #[],ty,p,af,none⟩::rest) a w:=U.Q8 hd hU.h hE.h cJ k
def St.dt {id:Nat} {l:List Oper} (n:Nat) (U:St c I H Γ a w) (run:lH P c H l.toArray Q (l.drop n) Γ (l.take n)) (hm:P.follows .mixedOrders=true:=by kernel_rfl) (fB:mG (l.take n) (l.drop n)=true:=by kernel_rfl) (hd:((l.take n).all λo=>Nat.blt (o.dst.getD 0) c.n)=true:=by kernel_rfl):(Code.region id l.toArray true).wp P Q a w:=U.Ri n hm fB hd run
def St.da {id:Nat} {l:List Oper} (n:Nat) (U:St c I H Γ a w) (run:fO P c H l.toArray Q (l.drop n) (λ_=>[]) 0 Γ (l.take n)) (hm:P.follows .mixedOrders=true:=by kernel_rfl) (fB:mG (l.take n) (l.drop n)=true:=by kernel_rfl) (hd:((l.take n).all λo=>Nat.blt (o.dst.getD 0) c.n)=true:=by kernel_rfl):(Code.region id l.toArray true).wp P Q a w:=U.JN n hm fB hd run
end
end Go.Proofs.YtldbakcpcfdlaaaGreat

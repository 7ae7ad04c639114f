/- Part 6: rules of the proofs. -/
import Derived.Maps.Own
import Derived.Maps.Views
import Derived.Test.YtldbakcpcfdlaaaGreatA05
set_option linter.all false
namespace Go.Proofs.YtldbakcpcfdlaaaGreat
open Go Go.RowKit
section
variable {P:Program} {c:Ctx} {I:Im} {H:List Own} {Γ:Env} {a:Act} {w:World} {E:TypeId} {sz:Nat} {l:List (List AV)} {Q:Exit->Act->World->Prop} {ops:Array Oper} {rest:List Oper}
def JO {base:Nat->Prop} {v:Value} {k:Nat} (hm:dx w I) (hw:bO base I w H) (hk:H[k]?=some (Own.row v E sz l)):∃I2,Im.le I I2/\dx w I2/\(AV.rows sz l).h I2 v:=by
 have ho:=hw.only hk;have U:St ⟨w,I,0,λ_=>True⟩ I [Own.row v E sz l] [] {tmps:=#[],defers:=[]} w:=
  ⟨eF.refl hm,ho.weaken λb _=>.inr trivial,λt x e=>by simp[Env.get] at e,rfl,rfl⟩
 obtain⟨I2,ey,hv⟩:=U.ph 0 rfl;exact⟨I2,ey.step.le,ey.step.cX,hv⟩
def JP {xs:List AV} {u v:Value} {y:AV} (q:Nat) (hq:xs[q]?=some (.val u)) (hy:y.h I u) (h:(AV.agg xs).h I v):(AV.agg (xs.set q y)).h I v:=by
 obtain⟨cs,e,hl⟩:=h;refine⟨cs,e,?_⟩;obtain⟨u',hu,hv,h1⟩:=hl.get hq;obtain rfl:u'=u:=hv;refine(hl.set q hy h1).cast rfl ?_;exact zI hu
def JQ {g:Bool} {d:Option Tmp} {f:FuncId} {ys:Array Operand} {ts:Array TypeId} {ty:TypeId} {p:String} {af:Array Edge} {gd:Option (Nat×Bool)} {cs r:List AV} {res:AV} {v:Value} (k q:Nat)
 (h:∀I a,cM I a Γ->g=true->cP I (AV.agg cs::r) (ys.map a.eval).toList) (hk:H[k]?=some (Own.row v E sz l)) (hq:cs[q]?=some (.val v)) (hf:Fn P f (AV.agg (cs.set q (AV.rows sz l))::r) res) (xx:∀I J u,res.h I u->res.h J u):Ok P H Γ g ⟨d,.call ⟨.value (.func f),ys,ts⟩,ty,p,af,gd⟩ res:=
 λbase I a w K Q he hm hw hg kk=>by
  obtain⟨I2,hle,DQ,hv⟩:=JO hm hw hk;have hx:∀I a,cM I a Γ->(AV.rows sz l).h I v->cP I (AV.agg (cs.set q (AV.rows sz l))::r) (ys.map a.eval).toList:=λI a he hv=>by
   have:=h I a he hg;generalize (ys.map a.eval).toList=vs at this⊢;cases vs with
   |nil=>exact this
   |cons u us=>exact⟨JP q hq hv this.1,this.2⟩
  have hc:=hf.2 I2 w (ys.map a.eval) DQ (hx I2 a (he.up hle) hv);unfold Oper.wp;have hr:(execOp a.eval (⟨d,.call ⟨.value (.func f),ys,ts⟩,ty,p,af,gd⟩:Oper)).run P w=.ok (.enter f (ys.map a.eval)) w:=by
   simp only[execOp,resolve,Act.eval];simp[go_sem,hf.1 _ w]
  rw[hr,Oper.upon_enter];refine Calls.mono hc λe w' he=>?_;cases e with
  |returned u=>
   obtain⟨I3,U,hx⟩:=he
   refine kk u (λb=>if b<w.heap.size then I b else I3 b) w' (xx _ _ _ hx) ⟨λb cs e=>?_,λb hb=>if_pos hb,λb cs e=>?_,U.below⟩
   .show(if b<w.heap.size then I b else I3 b)=_
    rw[if_pos (hm.lt e)];exact e
   change(if b<w.heap.size then I b else I3 b)=some cs at e
   split at e
   .exact U.cX b cs (U.le b cs (hle b cs e))
   exact U.cX b cs e
  |panicked _=>exact he.elim
  |outgrown=>exact he.elim
def z6 {g:Bool} {d:Option Tmp} {f:FuncId} {ys:Array Operand} {ts:Array TypeId} {ty:TypeId} {p:String} {af:Array Edge} {gd:Option (Nat×Bool)} {r:List AV} {res:AV} {v:Value} (k:Nat)
 (h:∀I a,cM I a Γ->g=true->cP I (AV.val v::r) (ys.map a.eval).toList) (hk:H[k]?=some (Own.row v E sz l)) (hf:Fn P f (AV.rows sz l::r) res) (xx:∀I J u,res.h I u->res.h J u):Ok P H Γ g ⟨d,.call ⟨.value (.func f),ys,ts⟩,ty,p,af,gd⟩ res:=
 λbase I a w K Q he hm hw hg kk=>by
  obtain⟨I2,hle,DQ,hv⟩:=JO hm hw hk;have hx:∀I a,cM I a Γ->(AV.rows sz l).h I v->cP I (AV.rows sz l::r) (ys.map a.eval).toList:=λI a he hv=>by
   have:=h I a he hg;generalize (ys.map a.eval).toList=vs at this⊢;cases vs with
   |nil=>exact this
   |cons u us=>exact⟨by have e:u=v:=this.1;rw[e];exact hv,this.2⟩
  have hc:=hf.2 I2 w (ys.map a.eval) DQ (hx I2 a (he.up hle) hv);unfold Oper.wp;have hr:(execOp a.eval (⟨d,.call ⟨.value (.func f),ys,ts⟩,ty,p,af,gd⟩:Oper)).run P w=.ok (.enter f (ys.map a.eval)) w:=by
   simp only[execOp,resolve,Act.eval];simp[go_sem,hf.1 _ w]
  rw[hr,Oper.upon_enter];refine Calls.mono hc λe w' he=>?_;cases e with
  |returned u=>
   obtain⟨I3,U,hx⟩:=he
   refine kk u (λb=>if b<w.heap.size then I b else I3 b) w' (xx _ _ _ hx) ⟨λb cs e=>?_,λb hb=>if_pos hb,λb cs e=>?_,U.below⟩
   .show(if b<w.heap.size then I b else I3 b)=_
    rw[if_pos (hm.lt e)];exact e
   change(if b<w.heap.size then I b else I3 b)=some cs at e
   split at e
   .exact U.cX b cs (U.le b cs (hle b cs e))
   exact U.cX b cs e
  |panicked _=>exact he.elim
  |outgrown=>exact he.elim
def St.z7 {T ty:TypeId} {d m n:Nat} {p:String} {af:Array Edge} {zv:Value} {ag:Bool} {len:Nat} {gH:List (List AV)} {parts:List (Nat×Operand)} {ps:List (Nat×List AV)} (U:St c I H Γ a w) (hd:Nat.blt d c.n=true) (hT:P.underlying T=some (.slice E)) (hE:Ty P E ag n m zv) (fe:zv.cells.size=sz) (nI:∀u∈zv.cells.toList,u.oneCell'=true)
 (cF:Nat.blt 0 sz=true) (lE:Nat.blt 0 len=true) (rB:Nat.ble (len*sz) 16777216=true) (hp:aT (nH sz) Γ true (len*sz) parts ps) (jr:filled (List.replicate (len*sz) AV.any) ps=gH.flatten) (hlen:gH.length=len) (hr:∀r∈gH,r.length=sz) (hn:n=sz)
 (k:∀b I a' w',St c I (H++[Own.row (.slice (some ⟨b,0,none⟩) len len) E sz gH]) ((d,.val (.slice (some ⟨b,0,none⟩) len len))::Γ) a' w'->wpList P ops Q rest a' w'):
 wpList P ops Q (⟨some d,.buildSlice T len parts.toArray,ty,p,af,none⟩::rest) a w:=by
 subst hn;have Dc:=Nat.le_of_ble_eq_true rB;have m1:0<len:=by simpa using lE
 obtain⟨cs,e1,e2,e3⟩:=Jb (w:=w) U.env rfl hT hE fe nI Dc hp;refine hZ rfl ?_;unfold Oper.wp;simp only[execOp,Sem.run_bind,e1,Result.andThen_ok,Sem.run_pure,Oper.upon_value];refine k w.heap.size I _ _ (U.lC (U.step.trans (Step.alloc U.step.cX _)) (Im.le_refl _) (U.own.push (x:=Own.row (.slice (some ⟨w.heap.size,0,none⟩) len len) E n gH) U.room (λ_ e=>CM m1 e) U.step.cX ⟨hr,.inr ⟨w.heap.size,len,cs,by rw[hlen],m1,ru w _,by omega,?_,e3,?_⟩⟩) hd rfl)
 .simp only[maxLen];have h:0<n:=by simpa using cF
  have:len*1<=len*n:=Nat.mul_le_mul_left _ h;omega
 rw[jr] at e2;refine e2.cast rfl ?_;rw[List.take_of_length_le];have:=e2.length;simp[hlen] at e3⊢;omega
def Sl {y:Operand} {ys:List Operand} {x:AV} {xs:List AV} (h:x.h I (a.eval y)) (k:cP I xs (ys.toArray.map a.eval).toList):cP I (x::xs) ((y::ys).toArray.map a.eval).toList:=by
 simp only[List.map_toArray,List.map_cons] at k⊢;exact⟨h,k⟩
def aI.dX {Hf:List (EA->Own)} {os:List Oper} {ms:Meta} {d d':Nat} {f:FuncId} {ys:Array Operand} {ts:Array TypeId} {ty:TypeId} {p:String} {af:Array Edge} {xs:Value->List AV} {res:AV} (k:Nat) (hk:Hf[k]?=some λa=>Own.row (a.tmps.getD d' undef) E sz l) (hd:Nat.blt d c.n=true) (hf:∀v,fQ P f (xs v) [Own.row v E sz l] [] res)
 (hO:∀I a,cM I a (Γ.only ((⟨some d,.call ⟨.value (.func f),ys,ts⟩,ty,p,af,none⟩:Oper).looksAt ops))->true=true->cP I (xs (a.tmps.getD d' undef)) (ys.map a.eval).toList)
 (r:aI P c ops Q ((d,res)::Γ) (Hf.set k λ_=>Own.gone) os ms):aI P c ops Q Γ Hf (⟨some d,.call ⟨.value (.func f),ys,ts⟩,ty,p,af,none⟩::os) (([k],some (k,[]))::ms):=
 aI.cons (u:=some ⟨k,[],λ_=>Own.gone⟩) (x:=res) (λv e=>by cases e;intro a a' _;rfl) (λF W0 I0 I γ a w Q U kk=>by
  have gK:(dG [k] (ea a γ) F 0 Hf)[k]?=some (Own.row (a.tmps.getD d' undef) E sz l):=js hk;have dU:[k].Nodup:=by simp
  refine hZ rfl ?_;unfold Oper.wp;rw[z3 (hf (a.tmps.getD d' undef)).1 rfl,Oper.upon_enter];have dN:=(bO.pick (ks:=[k]) (h0:=[Own.row (a.tmps.getD d' undef) E sz l]) U.own (by simpa using js hk) dU).exact;refine Calls.mono ((hf _).2 I w _ U.step.cX dN (hO I a U.env rfl)) λe w' he=>?_;cases e with
  |panicked _=>exact he.elim
  |outgrown=>exact he.elim
  |returned v=>
   obtain⟨x,I',hx,bX,ho,hv⟩:=he
   have h2:St ⟨W0.1,I0,c.n,W0.2⟩ I' ((dG [k] (ea a γ) F 0 Hf).set k Own.gone) ((d,res)::Γ.only ((⟨some d,.call ⟨.value (.func f),ys,ts⟩,ty,p,af,none⟩:Oper).looksAt ops)) (a.put (some d) v) w':=
    U.xu (h0:=[Own.row (a.tmps.getD d' undef) E sz l]) (h1:=λ_:Unit=>[]) (res:=λ_=>res) (x:=()) [k] (by simpa using gK) dU bX ho hv hd
   exact kk γ (λ_ _=>rfl) I' _ w' (h2.pass (kJ (f:=λ_=>Own.gone) rfl))) r
def aI.fl {Hf:List (EA->Own)} {os:List Oper} {ms:Meta} {d:Nat} {f:FuncId} {ys:Array Operand} {ts:Array TypeId} {ty:TypeId} {p:String} {af:Array Edge} {xs:List AV} {res:AV} {O O':Own} (k:Nat) (hk:Hf[k]?=some λ_=>O) (hd:Nat.blt d c.n=true) (hf:fQ P f xs [O] [O'] res)
 (hO:∀I a,cM I a (Γ.only ((⟨some d,.call ⟨.value (.func f),ys,ts⟩,ty,p,af,none⟩:Oper).looksAt ops))->true=true->cP I xs (ys.map a.eval).toList)
 (r:aI P c ops Q ((d,res)::Γ) (Hf.set k λ_=>O') os ms):aI P c ops Q Γ Hf (⟨some d,.call ⟨.value (.func f),ys,ts⟩,ty,p,af,none⟩::os) (([k],some (k,[]))::ms):=
 aI.cons (u:=some ⟨k,[],λ_=>O'⟩) (x:=res) (λv e=>by cases e;intro a a' _;rfl) (λF W0 I0 I γ a w Q U kk=>by
  have gK:(dG [k] (ea a γ) F 0 Hf)[k]?=some O:=js hk;have dU:[k].Nodup:=by simp
  refine hZ rfl ?_;unfold Oper.wp;rw[z3 hf.1 rfl,Oper.upon_enter];have dN:=(bO.pick (ks:=[k]) (h0:=[O]) U.own (by simpa using js hk) dU).exact;refine Calls.mono (hf.2 I w _ U.step.cX dN (hO I a U.env rfl)) λe w' he=>?_;cases e with
  |panicked _=>exact he.elim
  |outgrown=>exact he.elim
  |returned v=>
   obtain⟨x,I',hx,bX,ho,hv⟩:=he
   have h2:St ⟨W0.1,I0,c.n,W0.2⟩ I' (((dG [k] (ea a γ) F 0 Hf).set k Own.gone).set k O'++[]) ((d,res)::Γ.only ((⟨some d,.call ⟨.value (.func f),ys,ts⟩,ty,p,af,none⟩:Oper).looksAt ops)) (a.put (some d) v) w':=
    U.xu (h0:=[O]) (h1:=λ_:Unit=>[O']) (res:=λ_=>res) (x:=()) [k] (by simpa using gK) dU bX ho hv hd
   rw[List.append_nil,List.set_set] at h2
   exact kk γ (λ_ _=>rfl) I' _ w' (h2.pass (kJ (f:=λ_=>O') rfl))) r
end
def pt (m n:Int):Int:=((m.toNat^^^n.toNat:Nat):Int)
def JR {m n:Int}:0<=pt m n:=Int.natCast_nonneg _
def JS {m n:Int} (hm:m<4611686018427387904) (hn:n<4611686018427387904):pt m n<4611686018427387904:=by
 have h:=Nat.xor_lt_two_pow (x:=m.toNat) (y:=n.toNat) (n:=62) om om;unfold pt;omega
def JT {P:Program} {H:List Own} {Γ:Env} {g:Bool} {d:Option Tmp} {y z:Operand} {ty T T':TypeId} {p:String} {af:Array Edge} {gd:Option (Nat×Bool)} {m n:Int} (hy:At Γ g y (.int m)) (hz:At Γ g z (.int n)) (hb:g=true->0<=m/\m<4611686018427387904/\0<=n/\n<4611686018427387904):
 Ok P H Γ g ⟨d,.binOp .xor T y z T',ty,p,af,gd⟩ (.int (pt m n)):=
 gr λI a w he hg=>by
  have h1:a.eval y=.int .i64 m:=hy I a he hg;have h2:a.eval z=.int .i64 n:=hz I a he hg;obtain⟨g1,g2,g3,g4⟩:=hb hg;have hx:=JS (m:=m) (n:=n) om om;have hp:=JR (m:=m) (n:=n);have h3:IntKind.i64.wrap (pt m n)=pt m n:=IntWalk.i64_in _ om;have h4:(((BitVec.ofInt IntKind.i64.bits m^^^BitVec.ofInt IntKind.i64.bits n).toNat:Nat):Int)=pt m n:=by
   unfold pt;rw[BitVec.toNat_xor];have e1:(BitVec.ofInt IntKind.i64.bits m).toNat=m.toNat:=by
    rw[BitVec.toNat_ofInt];show(m%(2^64:Nat)).toNat=_;rw[Int.emod_eq_of_lt g1 fK]
   have e2:(BitVec.ofInt IntKind.i64.bits n).toNat=n.toNat:=by
    rw[BitVec.toNat_ofInt];show(n%(2^64:Nat)).toNat=_;rw[Int.emod_eq_of_lt g3 fK]
   rw[e1,e2]
  simp only[execOp,h1,h2];simp[go_sem,eqGuard,binOp,Op.intBits];exact(congrArg IntKind.i64.wrap h4).trans h3
section
variable {P:Program} {c:Ctx} {I:Im} {H:List Own} {Γ:Env} {a:Act} {w:World} {Q:Exit->Act->World->Prop}
def Sm (P:Program) (ops:Array Oper) (Q:Exit->Act->World->Prop) (o9:Oper):Exit->Act->World->Prop
 |.normal=>wpList P ops Q [o9]
 |e=>Q e
def St.s7 {id:Nat} {l:List Oper} (n:Nat) (o9:Oper) (ms:Meta) (U:St c I H Γ a w) (hl:l=l.take n++[o9]) (hm:P.follows .mixedOrders=true) (ff:xm (l.take n) [o9] ms=true) (hd:((l.take n).all λo=>match o.dst with|some d=>Nat.blt d c.n|none=>true)=true)
 (run:aI P c l.toArray (Sm P l.toArray Q o9) Γ (H.map λo _=>o) (l.take n) ms):(Code.region id l.toArray true).wp P Q a w:=by
 obtain⟨rs,h0,run,k⟩:=run;subst h0;have:=U.JD (id:=id) (Q:=Q) (pre:=l.take n) (tail:=[o9]) (rs:=rs) hm ff hd (by rw[<-hl];exact run) λγ I' a' w' h=>by rw[<-hl];exact k γ I' a' w' h
 rwa[<-hl] at this
def St.DR {ops:Array Oper} {rest:List Oper} {d:Nat} {f:FuncId} {ys:Array Operand} {ts:Array TypeId} {ty:TypeId} {p:String} {af:Array Edge} {gd:Option (Nat×Bool)} {G:Bool} {xs:List AV} {res:AV} {O O':Own} (k:Nat) (U:St c I H Γ a w)
 (hg:hP ops Γ ⟨some d,.call ⟨.value (.func f),ys,ts⟩,ty,p,af,gd⟩ G) (hk:H[k]?=some O) (hd:Nat.blt d c.n=true) (hf:fQ P f xs [O] [O'] res) (hO:∀I a,cM I a Γ->G=true->cP I xs (ys.map a.eval).toList)
 (kk:∀I' a' w',St c I' (H.set k (bif G then O' else O)) ((d,.cond G res)::Γ) a' w'->wpList P ops Q rest a' w'):wpList P ops Q (⟨some d,.call ⟨.value (.func f),ys,ts⟩,ty,p,af,gd⟩::rest) a w:=by
 unfold wpList;rw[hg I a U.env];cases G with
 |true=>
  rw[if_pos rfl]
  refine .inl ?_
  have dU:[k].Nodup:=by simp
  have gK:[k].map (λk=>H[k]?)=[O].map some:=by simpa using hk
  unfold Oper.wp
  have hr:(execOp a.eval (⟨some d,.call ⟨.value (.func f),ys,ts⟩,ty,p,af,gd⟩:Oper)).run P w=.ok (.enter f (ys.map a.eval)) w:=by
   simp only[execOp,resolve,Act.eval];simp[go_sem,hf.1 _ w]
  rw[hr,Oper.upon_enter]
  have dN:=(bO.pick U.own gK dU).exact
  refine Calls.mono (hf.2 I w _ U.step.cX dN (hO I a U.env rfl)) λe w' he=>?_
  cases e with
  |panicked _=>exact he.elim
  |outgrown=>exact he.elim
  |returned v=>
   obtain⟨x,I',hx,bX,ho,hv⟩:=he
   have h2:St c I' ((H.set k Own.gone).set k O'++[]) ((d,res)::Γ) (a.put (some d) v) w':=
    U.xu (h0:=[O]) (h1:=λ_:Unit=>[O']) (res:=λ_=>res) (x:=()) [k] gK dU bX ho hv hd
   rw[List.append_nil,List.set_set] at h2
   refine kk I' _ w' ⟨h2.step,h2.own,λt x e=>?_,h2.size,h2.defers⟩
   simp only[Env.get] at e
   cases hb:Nat.beq d t with
   |true=>
    rw[hb] at e;simp only[cond_true] at e;cases e
    have:=h2.env t res (by simp[Env.get,hb])
    exact⟨λ_=>this,λh=>by cases h⟩
   |false=>rw[hb] at e;exact h2.env t x (by simp[Env.get,hb];simpa using e)
 |false=>
  rw[if_neg bt]
  refine kk I _ w ?_
  have h1:=U.put (d:=d) (x:=.cond false res) (v:=undef) (by simpa using hd) ⟨λh=>(by cases h),λ_=>rfl⟩ (Step.refl U.step.cX)
  refine h1.pass ?_
  show H=H.set k O
  exact(zI hk).symm
end
structure xy (P:Program) (t k e:TypeId) {κ ε:Type} (kl:κ->Lit) (ev:ε->Value) (ed:ε->DataW Unit) (fits:ε->Prop) (z:ε):Prop where
 K:Maps.Keyed P k
 ht:P.underlying t=some (.map k e)
 zr:∀w,(zeroValue e).run P w=.ok (ev z) w
 fz:fits z
 rd:∀x,fits x->plainElem P e (ev x)=some (ed x,[])
 inv:∀v ps x,plainElem P e v=some (ed x,ps)->v=ev x
 JU:∀x y,kl x=kl y->x=y
 key:∀x,WideAt.IsKeyLit (kl x)
def Own.s8 (P:Program) (k e:TypeId) {κ ε:Type} (kl:κ->Lit) (ed:ε->DataW Unit) (z:ε) (b n:Nat) (m:κ->ε):Own:=
 ⟨λk=>b=k,λI w=>∃D:DataW Unit,w.ownsMap P k (plainElem P e) b n D/\∀x,D.atKey (kl x) (ed z)=ed (m x),
  λI I' w w' _ hb ⟨D,⟨es,clock,h,h2⟩,hm⟩=>⟨D,⟨es,clock,(hb b rfl).trans h,h2⟩,hm⟩⟩
section
variable {P:Program} {c:Ctx} {I:Im} {H:List Own} {Γ:Env} {a:Act} {w:World} {Q:Exit->Act->World->Prop} {ops:Array Oper} {rest:List Oper}
variable {d b n:Nat} {y z' x':Operand} {t k e ty:TypeId} {p:String} {af:Array Edge} {g:Bool} {gd:Option (Nat×Bool)}
variable {κ ε:Type} {kl:κ->Lit} {ev:ε->Value} {ed:ε->DataW Unit} {fits:ε->Prop} {z:ε}
def JV {m:κ->ε} {x:κ} (kk:Nat) (hM:xy P t k e kl ev ed fits z) (hm:At Γ g y (.val (.map (some b)))) (hx:∀I a,cM I a Γ->g=true->keyOf P k (a.eval x')=some (kl x)) (hH:H[kk]?=some (Own.s8 P k e kl ed z b n m)):
 Ok P H Γ g ⟨some d,.lookup t y x' false,ty,p,af,gd⟩ (.val (ev (m x))):=
 fY λbase I a w he JW hw hg=>by
  obtain⟨D,dN,hD⟩:=(hw.all _ (List.mem_of_getElem? hH)).1;have e1:a.eval y=_:=hm I a he hg;obtain⟨v,ps,ia,hv⟩:=dN.lookup hM.K hM.ht (hM.zr w) (hM.rd z hM.fz) (hx I a he hg);rw[hD x] at hv;refine⟨v,?_,hM.inv v ps _ hv⟩;simp only[execOp,e1,Sem.run_bind,ia,Result.andThen_ok,Sem.run_pure]
def St.makeMap (U:St c I H Γ a w) (hd:Nat.blt d c.n=true) (hM:xy P t k e kl ev ed fits z)
 (kk:∀b a' w',St c I (H++[Own.s8 P k e kl ed z b 0 λ_=>z]) ((d,.val (.map (some b)))::Γ) a' w'->wpList P ops Q rest a' w'):
 wpList P ops Q (⟨some d,.makeMap t none,ty,p,af,none⟩::rest) a w:=by
 refine hZ rfl ?_;unfold Oper.wp;simp only[execOp,Option.map_none,Sem.run_bind,run_makeMap,Result.andThen_ok,Sem.run_pure,Oper.upon_value];exact kk w.heap.size _ _ (U.lC (U.step.trans (Step.alloc U.step.cX _)) (Im.le_refl _) (U.own.push (x:=Own.s8 P k e kl ed z w.heap.size 0 λ_=>z) U.room (λ_ e=>e.symm) U.step.cX
  ⟨.map [],World.ownsMap_made w P k (plainElem P e),λx=>by simp[DataW.atKey]⟩) hd rfl)
def Sn {D:DataW Unit} {R:Value->Option (DataW Unit×List MemPlace)} (h:w.ownsMap P k R b n D) (K:Maps.Keyed P k) (ht:P.underlying t=some (.map k e)) (hn:n<maxLen) {key val:Value} {lk:Lit} {dv:DataW Unit} {ps:List MemPlace}
 (iT:keyOf P k key=some lk) (hv:R val=some (dv,ps)):∃w',(Instr.mapUpdate t (.map (some b)) key val).run P w=.ok () w'/\w'.ownsMap P k R b (n+1) (D.put lk dv)/\w.grownBy w' (some b)/\w'.heap.size=w.heap.size:=by
 obtain⟨w',h1,h2,h3⟩:=h.update K ht hn iT hv;refine⟨w',h1,h2,h3,?_⟩;obtain⟨es,clock,hb,F,U,rfl⟩:=h;obtain⟨es',aeM,ia,_⟩:=Maps.fit_store (R':=R) K ht hb F (Nat.lt_of_le_of_lt U hn) (λ_ _ _ _ hz=>hz) iT hv;rw[ia] at h1;cases h1;simp[ChangeMaps.setBlock]
def St.mapUpdate {m:κ->ε} {x:κ} {v:ε} [DecidableEq κ] (kk:Nat) (U:St c I H Γ a w) (hM:xy P t k e kl ev ed fits z) (hm:At Γ true y (.val (.map (some b)))) (hx:∀I a,cM I a Γ->true=true->keyOf P k (a.eval x')=some (kl x))
 (hv:At Γ true z' (.val (ev v))) (hf:fits v) (hn:n<140737488355328) (hH:H[kk]?=some (Own.s8 P k e kl ed z b n m))
 (kn:∀a' w',St c I (H.set kk (Own.s8 P k e kl ed z b (n+1) λy=>if y=x then v else m y)) Γ a' w'->wpList P ops Q rest a' w'):
 wpList P ops Q (⟨none,.mapUpdate t y x' z',ty,p,af,none⟩::rest) a w:=by
 obtain⟨⟨D,dN,hD⟩,h2⟩:=U.own.all _ (List.mem_of_getElem? hH);obtain⟨sM,qc,qd⟩:=h2 b rfl;have e1:a.eval y=_:=hm I a U.env rfl;have e2:a.eval z'=_:=hv I a U.env rfl;obtain⟨w',ia,C1,qw,cF⟩:=Sn dN hM.K hM.ht (by simp only[maxLen];omega) (hx I a U.env rfl) (hM.rd v hf);have xo:∀j,some j≠some b->w'.heap[j]?=w.heap[j]?:=λj hj=>by
  by_cases cj:j<w.heap.size
  .exact qw.block j cj hj
  rw[Array.getElem?_eq_none om,Array.getElem?_eq_none om]
 refine hZ rfl ?_;unfold Oper.wp;simp only[execOp,e1,e2,Sem.run_bind,ia,Result.andThen_ok,Sem.run_pure];refine kn _ w' (U.written (U.step.write sM qc cF qw.os qw.tape qw.output λj hj=>xo j (by simpa using hj)) (U.own.write hH rfl cF (λj hj=>xo j λe=>hj (Option.some.inj e).symm) ⟨_,C1,λq=>?_⟩));have So:Maps.IsMap D:=by obtain⟨es,clock,_,_,_,rfl⟩:=dN;exact⟨_,rfl⟩
 show _=ed (if q=x then v else m q);by_cases hq:q=x
 .subst hq;rw[if_pos rfl];exact Maps.atKey_put_same So (hM.key q) _ _
 rw[if_neg hq,Maps.atKey_put_other (λh=>hq (hM.JU _ _ h)),hD q]
def Sp {P:Program} {t k e:TypeId} (ht:P.underlying t=some (.map k e)) (hk:P.underlying k=some (.int .i64)) (he:P.underlying e=some (.int .i64)) (hz:∀w,(zeroValue e).run P w=.ok (.int .i64 0) w):
 xy P t k e (λx:Int=>Lit.int .i64 x) (λx:Int=>Value.int .i64 x) (λx=>.lit (.int .i64 x)) (λx=>-9223372036854775808<=x/\x<=9223372036854775807) 0 where
 K:=Maps.int_keyed hk
 ht:=ht
 zr:=hz
 fz:=by omega
 rd:=λx hx=>plainElem_int he (by simp[Lit.wf,IntKind.min,IntKind.max,IntKind.signed,IntKind.bits];omega)
 inv:=λv ps x h=>by
  obtain⟨a,rfl,h2,_⟩:=plainElem_int_inv he h;simp at h2;rw[h2.1]
 JU:=λx y h=>by cases h;rfl
 key:=λx=>trivial
def DS {P:Program} {k:TypeId} (hk:P.underlying k=some (.int .i64)) {x:Int} (hy:At Γ g x' (.int x)) (hb:-9223372036854775808<=x/\x<=9223372036854775807):∀I a,cM I a Γ->g=true->keyOf P k (a.eval x')=some (Lit.int .i64 x):=λI a he hg=>by
 have e1:a.eval x'=.int .i64 x:=hy I a he hg;rw[e1];exact Maps.keyOf_int_mk hk (by simp[Lit.wf,IntKind.min,IntKind.max,IntKind.signed,IntKind.bits];omega)
end
class cL (P:Program) (T:TypeId) (ag:outParam Bool) (n m:outParam Nat) (zv:outParam Value):Prop where
 h:Ty P T ag n m zv
class bl (P:Program) (T:TypeId) (f:Nat) (o sz:outParam Nat):Prop where
 h:be P T f o sz
class c5 (P:Program) (T:TypeId) (f:Nat) (o sz:outParam Nat):Prop where
 h:cD P T f=some (o,sz)
class fF (P:Program) (T:TypeId) (k:outParam TypeDesc):Prop where
 h:P.underlying T=some k
class ml (P:Program) (T:TypeId):Prop where
 h:C8 P T=true
def run:Nat->Nat->List Nat->List Nat
 |0,_,l=>l
 |n+1,a,l=>a::run n (a+1) l
section
variable {P:Program} {H:List Own} {Γ:Env} {g:Bool} {d:Option Tmp} {y z:Operand} {ty T T' E:TypeId} {p:String} {af:Array Edge} {gd:Option (Nat×Bool)} {n m o:Nat} {zv:Value}
def Ok.mv {t:Nat} {x:AV} (h:Env.get t Γ=some x:=by rfl):Ok P H Γ g ⟨d,.move (.tmp t),ty,p,af,gd⟩ x:=wN (.t h)
def Ok.mx {x:AV} (h:At Γ g y x):Ok P H Γ g ⟨d,.move y,ty,p,af,gd⟩ x:=wN h
def Ok.as {t:Nat} {x:AV} (h:Env.get t Γ=some x:=by rfl):Ok P H Γ g ⟨d,.assign (.tmp t),ty,p,af,gd⟩ x:=uL (.t h)
def Ok.Sq {x:AV} (h:At Γ g y x):Ok P H Γ g ⟨d,.assign y,ty,p,af,gd⟩ x:=uL h
def Ok.nt {t:Nat} {b:Bool} (h:Env.get t Γ=some (.bool b):=by rfl):Ok P H Γ g ⟨d,.unOp .not T (.tmp t),ty,p,af,gd⟩ (.bool (!b)):=Ip (.t h)
def Ok.Sr {b:Bool} (h:At Γ g y (.bool b)):Ok P H Γ g ⟨d,.unOp .not T y,ty,p,af,gd⟩ (.bool (!b)):=Ip h
def Ok.lss {t u:Nat} {m n:Int} (hy:Env.get t Γ=some (.int m):=by rfl) (hz:Env.get u Γ=some (.int n):=by rfl):Ok P H Γ g ⟨d,.binOp .lss T (.tmp t) (.tmp u) T',ty,p,af,gd⟩ (.bool (decide (m<n))):=Ir (.t hy) (.t hz)
def Ok.leq {t u:Nat} {m n:Int} (hy:Env.get t Γ=some (.int m):=by rfl) (hz:Env.get u Γ=some (.int n):=by rfl):Ok P H Γ g ⟨d,.binOp .leq T (.tmp t) (.tmp u) T',ty,p,af,gd⟩ (.bool (decide (m<=n))):=Is (.t hy) (.t hz)
def Ok.gtr {t u:Nat} {m n:Int} (hy:Env.get t Γ=some (.int m):=by rfl) (hz:Env.get u Γ=some (.int n):=by rfl):Ok P H Γ g ⟨d,.binOp .gtr T (.tmp t) (.tmp u) T',ty,p,af,gd⟩ (.bool (decide (n<m))):=It (.t hy) (.t hz)
def Ok.geq {t u:Nat} {m n:Int} (hy:Env.get t Γ=some (.int m):=by rfl) (hz:Env.get u Γ=some (.int n):=by rfl):Ok P H Γ g ⟨d,.binOp .geq T (.tmp t) (.tmp u) T',ty,p,af,gd⟩ (.bool (decide (n<=m))):=Iu (.t hy) (.t hz)
def Ok.e {t:Nat} {l:List AV} {i:Nat} {x:AV} (h:Env.get t Γ=some (.c6 l):=by rfl) (hx:l[i]?=some x:=by rfl):Ok P H Γ g ⟨d,.extract (.tmp t) i,ty,p,af,gd⟩ x:=Rl (.t h) hx
def Ok.bp {t:Nat} {l:List AV} (h:Env.get t Γ=some (.agg l):=by rfl):Ok P H Γ g ⟨d,.box T (.tmp t),ty,p,af,gd⟩ (.ptr l):=Q9 (.t h)
def Ok.nl {x:AV} (h:Ok P H Γ g ⟨d,.nilCheck y,ty,p,af,gd⟩ x:=by first|exact Jg .tt|exact Jh .tt|exact Ss .tt|exact Jg .ag|exact Jh .ag|exact Ss .ag):Ok P H Γ g ⟨d,.nilCheck y,ty,p,af,gd⟩ x:=h
def Ok.l1 {t:Nat} {x:AV} {l:List AV} [hT:cL P T false n m zv] (h:Env.get t Γ=some (.ptr (x::l)):=by rfl):Ok P H Γ g ⟨d,.load T (.tmp t),ty,p,af,gd⟩ x:=Iv hT.h (.t h)
def Ok.lx {x:AV} {l:List AV} [hT:cL P T false n m zv] (h:At Γ g y (.ptr (x::l))):Ok P H Γ g ⟨d,.load T y,ty,p,af,gd⟩ x:=Iv hT.h h
def Ok.lb {t b q:Nat} {x:AV} {l:List AV} (k:Nat) [hT:cL P T false n m zv] (h:Env.get t Γ=some (.val (.pointer (some ⟨b,q,none⟩))):=by rfl) (hH:H[k]?=some (Own.box b T' l):=by rfl) (hx:l[q]?=some x:=by rfl):Ok P H Γ g ⟨d,.load T (.tmp t),ty,p,af,gd⟩ x:=IA k hT.h (.t h) hH hx
def Ok.xz {b q:Nat} {x:AV} {l:List AV} (k:Nat) [hT:cL P T false n m zv] (h:At Γ g y (.val (.pointer (some ⟨b,q,none⟩)))) (hH:H[k]?=some (Own.box b T' l):=by rfl) (hx:l[q]?=some x:=by rfl):Ok P H Γ g ⟨d,.load T y,ty,p,af,gd⟩ x:=IA k hT.h h hH hx
def Ok.ls {t b q:Nat} {l l':List AV} (k:Nat) [hT:cL P T true n m zv] (h:Env.get t Γ=some (.val (.pointer (some ⟨b,q,none⟩))):=by rfl) (hH:H[k]?=some (Own.box b T' l):=by rfl) (hx:(l.drop q).take n=l':=by rfl) (hn:l'.length=n:=by rfl):Ok P H Γ g ⟨d,.load T (.tmp t),ty,p,af,gd⟩ (.agg l'):=zs k hT.h (.t h) hH hx hn
def Ok.DT {l:List AV} [hT:cL P T true n m zv] (h:At Γ g y (.ptr l):=by first|exact .tt|exact .ag|exact .c) (hn:l.length=n:=by rfl):Ok P H Γ g ⟨d,.load T y,ty,p,af,gd⟩ (.agg l):=QX hT.h h hn
def Ok.DU {l:List AV} [hT:cL P T true n m zv] (h:At Γ g y (.ptr l):=by first|exact .tt|exact .ag|exact .c) (hn:Nat.ble n l.length=true:=by rfl):Ok P H Γ g ⟨d,.load T y,ty,p,af,gd⟩ (.agg (l.take n)):=Iw hT.h h hn
def Ok.la {x:AV} (h:Ok P H Γ g ⟨d,.load T y,ty,p,af,gd⟩ x:=by first|exact .DT|exact .DU):Ok P H Γ g ⟨d,.load T y,ty,p,af,gd⟩ x:=h
def Ok.fp {t f size:Nat} {l:List AV} [hf:bl P T f o size] (h:Env.get t Γ=some (.ptr l):=by rfl) (U:Nat.blt 0 size=true:=by rfl):Ok P H Γ g ⟨d,.fieldAddr T (.tmp t) f,ty,p,af,gd⟩ (.ptr (l.drop o)):=Iy hf.h U (.t h)
def Ok.fx {f size:Nat} {l:List AV} [hf:bl P T f o size] (h:At Γ g y (.ptr l)) (U:Nat.blt 0 size=true:=by rfl):Ok P H Γ g ⟨d,.fieldAddr T y f,ty,p,af,gd⟩ (.ptr (l.drop o)):=Iy hf.h U h
def Ok.fv {t f size b q:Nat} [hf:bl P T f o size] (h:Env.get t Γ=some (.val (.pointer (some ⟨b,q,none⟩))):=by rfl) (U:Nat.blt 0 size=true:=by rfl):Ok P H Γ g ⟨d,.fieldAddr T (.tmp t) f,ty,p,af,gd⟩ (.val (.pointer (some ⟨b,q+o,none⟩))):=Iz hf.h U (.t h)
def Ok.Su {f size b q:Nat} [hf:bl P T f o size] (h:At Γ g y (.val (.pointer (some ⟨b,q,none⟩)))) (U:Nat.blt 0 size=true:=by rfl):Ok P H Γ g ⟨d,.fieldAddr T y f,ty,p,af,gd⟩ (.val (.pointer (some ⟨b,q+o,none⟩))):=Iz hf.h U h
def Ok.DV {α:Type} {s:Nat} {f:α->List AV} {l:List α} [hT:fF P T (.slice E)] (h:At Γ g y (.rows s (l.map f)):=by first|exact .tt|exact .ag|exact .c):Ok P H Γ g ⟨d,.call ⟨.builtin .len,#[y],#[T]⟩,ty,p,af,gd⟩ (.int l.length):=Rt hT.h h
def Ok.DW {s:Nat} {l:List (List AV)} [hT:fF P T (.slice E)] (h:At Γ g y (.rows s l):=by first|exact .tt|exact .ag|exact .c):Ok P H Γ g ⟨d,.call ⟨.builtin .len,#[y],#[T]⟩,ty,p,af,gd⟩ (.int l.length):=wQ hT.h h
def Ok.DX {q:Option Addr} {k cap:Nat} [hT:fF P T (.slice E)] (h:At Γ g y (.val (.slice q k cap)):=by first|exact .tt|exact .ag|exact .c):Ok P H Γ g ⟨d,.call ⟨.builtin .len,#[y],#[T]⟩,ty,p,af,gd⟩ (.int k):=QY hT.h h
def Ok.ln {x:AV} (h:Ok P H Γ g ⟨d,.call ⟨.builtin .len,#[y],#[T]⟩,ty,p,af,gd⟩ x:=by first|exact .DV|exact .DW|exact .DX):Ok P H Γ g ⟨d,.call ⟨.builtin .len,#[y],#[T]⟩,ty,p,af,gd⟩ x:=h
def Ok.JX {α:Type} [Inhabited α] {s:Nat} {ag:Bool} {f:α->List AV} {l:List α} {i:Int} [hT:fF P T (.slice E)] [hE:cL P E ag s m zv] (h:At Γ g y (.rows s (l.map f)):=by first|exact .tt|exact .ag|exact .c) (hi:At Γ g z (.int i):=by first|exact .tt|exact .ag|exact .c) (hb:g=true->0<=i/\i<l.length:=by intro hg;first|omega|assumption|(simp at hg;omega)):Ok P H Γ g ⟨d,.indexAddr T y z,ty,p,af,gd⟩ (.ptr (f (ab l i.toNat))):=eG hT.h hE.h h hi hb
def Ok.JY {α:Type} [Inhabited α] {s:Nat} {ag:Bool} {f:α->List AV} {l:List α} {i:Nat} [hT:fF P T (.slice E)] [hE:cL P E ag s m zv] (h:At Γ g y (.rows s (l.map f)):=by first|exact .tt|exact .ag|exact .c) (hi:At Γ g z (.int (i:Int)):=by first|exact .tt|exact .ag|exact .c) (hb:g=true->i<l.length:=by intro hg;first|omega|assumption|(simp at hg;omega)):Ok P H Γ g ⟨d,.indexAddr T y z,ty,p,af,gd⟩ (.ptr (f (ab l i))):=dE hT.h hE.h h hi hb
def Ok.JZ {s:Nat} {ag:Bool} {l:List (List AV)} {i:Int} [hT:fF P T (.slice E)] [hE:cL P E ag s m zv] (h:At Γ g y (.rows s l):=by first|exact .tt|exact .ag|exact .c) (hi:At Γ g z (.int i):=by first|exact .tt|exact .ag|exact .c) (hb:g=true->0<=i/\i<l.length:=by intro hg;first|omega|assumption|(simp at hg;omega)):Ok P H Γ g ⟨d,.indexAddr T y z,ty,p,af,gd⟩ (.ptr (l.getD i.toNat [])):=eM hT.h hE.h h hi hb
def Ok.cl {f:FuncId} {ys:Array Operand} {ts:Array TypeId} {xs:List AV} {res:AV} (hf:Fn P f xs res) (h:∀I a,cM I a Γ->g=true->cP I xs (ys.map a.eval).toList:=by repeat(first|exact aB|refine ai (by first|exact .tt|exact .ag|exact .c|exact .f|exact .nil (.t rfl)|exact .nil .c) ?_)):Ok P H Γ g ⟨d,.call ⟨.value (.func f),ys,ts⟩,ty,p,af,gd⟩ res:=cq hf h
def Ok.c1 {f:FuncId} {t:Nat} {ts:Array TypeId} {x res:AV} (hf:Fn P f [x] res) (h:Env.get t Γ=some x:=by rfl):Ok P H Γ g ⟨d,.call ⟨.value (.func f),#[.tmp t],ts⟩,ty,p,af,gd⟩ res:=cq hf (ai (.t h) aB)
def Ok.c2 {f:FuncId} {t u:Nat} {ts:Array TypeId} {x x' res:AV} (hf:Fn P f [x,x'] res) (h:Env.get t Γ=some x:=by rfl) (h':Env.get u Γ=some x':=by rfl):Ok P H Γ g ⟨d,.call ⟨.value (.func f),#[.tmp t,.tmp u],ts⟩,ty,p,af,gd⟩ res:=cq hf (ai (.t h) (ai (.t h') aB))
def Ok.c3 {f:FuncId} {t u v:Nat} {ts:Array TypeId} {x x' y' res:AV} (hf:Fn P f [x,x',y'] res) (h:Env.get t Γ=some x:=by rfl) (h':Env.get u Γ=some x':=by rfl) (h2:Env.get v Γ=some y':=by rfl):Ok P H Γ g ⟨d,.call ⟨.value (.func f),#[.tmp t,.tmp u,.tmp v],ts⟩,ty,p,af,gd⟩ res:=cq hf (ai (.t h) (ai (.t h') (ai (.t h2) aB)))
def aT.u {sz i o' q:Nat} {lx:List AV} {r:List (Nat×Operand)} {s:List (Nat×List AV)} (k:aT (nH sz) Γ g n r s) (hp:nH sz i=some (o',q):=by rfl) (h:At Γ g y (.agg lx):=by first|exact .tt|exact .ag|exact .c) (hl:lx.length=q:=by rfl) (ho:Nat.ble (o'+q) n=true:=by rfl):aT (nH sz) Γ g n ((i,y)::r) ((o',lx)::s):=aT.s hp hl ho h k
def aT.v {sz i o':Nat} {x:AV} {r:List (Nat×Operand)} {s:List (Nat×List AV)} (k:aT (nH sz) Γ g n r s) (hp:nH sz i=some (o',1):=by rfl) (ho:Nat.ble (o'+1) n=true:=by rfl) (h:At Γ g y x:=by first|exact .tt|exact .ag|exact .c|exact .nil (.t rfl)|exact .nil .c) (hx:x.One:=by first|exact fi rfl|exact dD|exact fB|exact fE|assumption):aT (nH sz) Γ g n ((i,y)::r) ((o',[x])::s):=aT.c hp ho h hx k
def Ok.li {ag:Bool} {sz len:Nat} (gH:List (List AV)) {parts:List (Nat×Operand)} {ps:List (Nat×List AV)} [hT:fF P T (.slice E)] [hE:cL P E ag sz m zv] (nI:∀u∈zv.cells.toList,u.oneCell'=true) (hp:aT (nH sz) Γ g (len*sz) parts ps)
 (fe:zv.cells.size=sz:=by rfl) (cF:Nat.blt 0 sz=true:=by rfl) (rB:Nat.ble (len*sz) 16777216=true:=by rfl) (jr:filled (List.replicate (len*sz) AV.any) ps=gH.flatten:=by rfl) (hlen:gH.length=len:=by rfl) (hr:∀r∈gH,r.length=sz:=by first|(simp;done)|(simp[iP];done)|(intro r hr;repeat(first|(rcases List.mem_cons.1 hr with h|hr;·(subst h;rfl))|(simp at hr;done)))):
 Ok P H Γ g ⟨d,.buildSlice T len parts.toArray,ty,p,af,gd⟩ (.rows sz gH):=Db hT.h hE.h fe nI cF rB hp jr hlen hr
def Ok.bd {l0:List AV} {parts:List (Nat×Operand)} {ps:List (Nat×List AV)} [hT:cL P T true n m zv] (hz:∀I,bm I l0 zv.cells.toList) (hp:aT (cD P T) Γ g n parts ps) [hk:ml P T] (hn:l0.length=n:=by rfl):Ok P H Γ g ⟨d,.build T parts.toArray,ty,p,af,gd⟩ (.agg (filled l0 ps)):=Rp hT.h hk.h hz hn hp
def aT.k {i o':Nat} {x:AV} {r:List (Nat×Operand)} {s:List (Nat×List AV)} (k:aT (cD P T) Γ g n r s) [hp:c5 P T i o' 1] (ho:Nat.ble (o'+1) n=true:=by rfl) (h:At Γ g y x:=by first|exact .tt|exact .ag|exact .c|exact .nil (.t rfl)|exact .nil .c) (hx:x.One:=by first|exact fi rfl|exact dD|exact fB|exact fE|assumption):aT (cD P T) Γ g n ((i,y)::r) ((o',[x])::s):=aT.c hp.h ho h hx k
def aT.t {i o' q:Nat} {lx:List AV} {r:List (Nat×Operand)} {s:List (Nat×List AV)} (k:aT (cD P T) Γ g n r s) [hp:c5 P T i o' q] (h:At Γ g y (.agg lx):=by first|exact .tt|exact .ag|exact .c) (hl:lx.length=q:=by rfl) (ho:Nat.ble (o'+q) n=true:=by rfl):aT (cD P T) Γ g n ((i,y)::r) ((o',lx)::s):=aT.s hp.h hl ho h k
end
section
variable {P:Program} {c:Ctx} {I:Im} {H:List Own} {Γ:Env} {a:Act} {w:World} {Q:Exit->Act->World->Prop} {ops:Array Oper} {rest os:List Oper} {Hf:List (EA->Own)} {ms:Meta} {tail:List Oper} {M:Act->List Own} {k':Nat} {oo:Oper} {x:AV} {d n m:Nat} {G:Bool} {y z:Operand} {ty T T':TypeId} {p:String} {af:Array Edge} {zv:Value}
def nn {N:Act->World->Prop} (h:N a w):wpList P ops (Exit.then N Q) [] a w:=h
def sr {id:Nat} {l:List Oper} {c2:Code} (h:wpList P l.toArray (Exit.then (c2.wp P Q) Q) l a w):(Code.seq (.region id l.toArray false) c2).wp P Q a w:=wp_seq (St.region h)
def St.cd {cc:Operand} {t e:Code} {b:Bool} (U:St c I H Γ a w) (h1:b=true->t.wp P Q a w) (h2:b=false->e.wp P Q a w) (hc:At Γ true cc (.bool b):=by first|exact .tt|exact .ag|exact .c):(Code.cond cc t e).wp P Q a w:=U.cond hc h1 h2
def aI.o (h:∀{F a},Ok P (dG [] a F 0 Hf) (Γ.only (oo.looksAt ops)) true oo x) (k:aI P c ops Q ((oo.dst.getD 0,x)::Γ) Hf os ms) (hg:oo.guard=none:=by rfl) (ho:oo.dst=some (oo.dst.getD 0):=by rfl) (hd:Nat.blt (oo.dst.getD 0) c.n=true:=by rfl):aI P c ops Q Γ Hf (oo::os) (([],none)::ms):=.op hg ho hd (λ_ _=>h) k
def aI.r (T:List Nat) (h:∀{F a},Ok P (dG T a F 0 Hf) (Γ.only (oo.looksAt ops)) true oo x) (k:aI P c ops Q ((oo.dst.getD 0,x)::Γ) Hf os ms) (hc:∀F a a',dG T a F 0 Hf=dG T a' F 0 Hf:=by exactλ_ _ _=>rfl) (hg:oo.guard=none:=by rfl) (ho:oo.dst=some (oo.dst.getD 0):=by rfl) (hd:Nat.blt (oo.dst.getD 0) c.n=true:=by rfl):aI P c ops Q Γ Hf (oo::os) ((T,none)::ms):=.R2 T hc hg ho hd (λ_ _=>h) k
def kf.o (ok:Ok P H (Γ.only (oo.looksAt ops)) true oo x) (k:kf P c H ops Q tail ((oo.dst.getD 0,x)::Γ) os) (hg:oo.guard=none:=by rfl):kf P c H ops Q tail Γ (oo::os):=.cons (.of hg ok) k
def kf.q (hg:hP ops (Γ.only (oo.looksAt ops)) oo G) (ok:Ok P H (Γ.only (oo.looksAt ops)) G oo x) (k:kf P c H ops Q tail ((oo.dst.getD 0,AV.cond G x)::Γ) os):kf P c H ops Q tail Γ (oo::os):=.cons (.zA hg ok) k
def fk.o (ok:Ok P H (Γ.only (oo.looksAt ops)) true oo x) (k:fk P c H ops Q tail M (k'+1) ((oo.dst.getD 0,x)::Γ) os) (hg:oo.guard=none:=by rfl):fk P c H ops Q tail M k' Γ (oo::os):=.cons (.of hg ok) k
def fk.q (hg:hP ops (Γ.only (oo.looksAt ops)) oo G) (ok:Ok P H (Γ.only (oo.looksAt ops)) G oo x) (k:fk P c H ops Q tail M (k'+1) ((oo.dst.getD 0,AV.cond G x)::Γ) os):fk P c H ops Q tail M k' Γ (oo::os):=.cons (.zA hg ok) k
def St.sb {b:Nat} {l lx:List AV} (k:Nat) (U:St c I H Γ a w) (kk:∀{a' w'},St c I (H.set k (Own.box b T' lx)) Γ a' w'->wpList P ops Q rest a' w') [hT:cL P T true n m zv] (hy:At Γ true y (.val (.pointer (some ⟨b,0,none⟩))):=by first|exact .tt|exact .ag|exact .c) (hz:At Γ true z (.agg lx):=by first|exact .tt|exact .ag|exact .c)
 (hk:H[k]?=some (Own.box b T' l):=by rfl) (hn:lx.length=n:=by first|rfl|assumption) (hl:l.length=n:=by rfl):wpList P ops Q (⟨none,.store T y z,ty,p,af,none⟩::rest) a w:=U.IS k hT.h hy hz hk hn hl λ_ _ h=>kk h
def St.s1 {b q:Nat} {l:List AV} (k:Nat) (U:St c I H Γ a w) (kk:∀{a' w'},St c I (H.set k (Own.box b T' (l.set q x))) Γ a' w'->wpList P ops Q rest a' w') [hT:cL P T false 1 m zv] (hy:At Γ true y (.val (.pointer (some ⟨b,q,none⟩))):=by first|exact .tt|exact .ag|exact .c) (hz:At Γ true z x:=by first|exact .tt|exact .ag|exact .c|exact .nil (.t rfl)|exact .nil .c)
 (hx:x.One:=by first|exact fi rfl|exact dD|exact fB|exact fE|assumption) (hk:H[k]?=some (Own.box b T' l):=by rfl) (hq:Nat.ble (q+1) l.length=true:=by rfl):wpList P ops Q (⟨none,.store T y z,ty,p,af,none⟩::rest) a w:=U.uR k hT.h hy hz hx hk hq λ_ _ h=>kk h
def St.ag {σ:Type} {m:l5 σ} {μ:σ->Nat} {x:σ} {Γ0:Env} (y:σ) (U:St c I H Γ a w) (al:m.ok y) (hμ:μ y<μ x:=by first|omega|(simp;omega)) (hH:H=m.own y:=by rfl) (h1:Env.le (m.env y) Γ:=by repeat(first|exact Env.le_nil|refine Env.dM rfl (by first|rfl|(congr 1;done)) ?_)) (h0:Env.le Γ0 Γ:=by repeat(first|exact Env.le_rfl|refine Env.iB rfl ?_)):zw m μ x c Γ0 a w:=U.again y hμ al hH h1 h0
def St.me {σ:Type} {m:l5 σ} {Γ0:Env} (y:σ) (U:St c I H Γ a w) (al:m.ok y) (hH:H=m.own y:=by rfl) (h1:Env.le (m.env y) Γ:=by repeat(first|exact Env.le_nil|refine Env.dM rfl (by first|rfl|(congr 1;done)) ?_)) (h0:Env.le Γ0 Γ:=by repeat(first|exact Env.le_rfl|exact Env.zu|refine Env.iB rfl ?_)):CQ m c Γ0 a w:=U.meet y al hH h1 h0
def St.lo {σ:Type} (ms:List Nat) (m:l5 σ) (μ:σ->Nat) {body:Code} (x:σ) (U:St c I H Γ a w) (al:m.ok x) (round:∀x I a w,m.ok x->St c I (m.own x) (m.env x++Env.mU ms Γ) a w->body.wp P (Exit.then (zw m μ x c (Env.mU ms Γ)) Q) a w) (hH:H=m.own x:=by rfl) (h1:Env.le (m.env x) Γ:=by repeat(first|exact Env.le_nil|refine Env.dM rfl ef ?_)):(Code.loop body).wp P Q a w:=St.IC ms m μ x U hH al h1 round
def St.rt {fn:Func} {rs:List ResultVar} {xs:List AV} {res:AV} (U:St c I H Γ a w) (e:qg xs=res) (hr:fn.results=rs.toArray:=by rfl) (h:aX P H Γ rs xs:=by first|exact aX.cons (.t rfl) aX.nil|exact aX.cons (by first|exact .t rfl|exact .nil rfl) aX.nil|exact aX.nil|exact aX.cons (by first|exact .t rfl|exact .nil rfl) (aX.cons (by first|exact .t rfl|exact .nil rfl) aX.nil)|exact aX.cons (by first|exact .t rfl|exact .nil rfl) (aX.cons (by first|exact .t rfl|exact .nil rfl) (aX.cons (by first|exact .t rfl|exact .nil rfl) aX.nil))):bodyPost P fn (sI c.F c.I c.W res) .ret a w:=U.ret hr h e
end
def cP.set {I:Im}:∀{l:List AV} {cs:List Value},cP I l cs->∀{i:Nat} {u:Value} {y:AV},l[i]?=some (.val u)->y.h I u->cP I (l.set i y) cs
 |[],[],_,i,_,_,hi,_=>by simp at hi
 |x::xs,c::cs,h,0,u,y,hi,hy=>by
  simp at hi;subst hi;exact⟨by have e:c=u:=h.1;rw[e];exact hy,h.2⟩
 |x::xs,c::cs,h,i+1,u,y,hi,hy=>⟨h.1,cP.set h.2 (by simpa using hi) hy⟩
 |[],_::_,h,_,_,_,_,_=>h.elim
 |_::_,[],h,_,_,_,_,_=>h.elim
def DY:Nat->List AV->Env->Prop
 |_,[],_=>True
 |k,x::r,Γ=>Env.get k Γ=some x/\DY (k+1) r Γ
def J0 {I:Im} {Γ:Env}:∀(xs:List AV) (pre vs:List Value),vs.length=xs.length->cM I {tmps:=(pre++vs).toArray,defers:=[]} Γ->DY pre.length xs Γ->cP I xs vs
 |[],_,[],_,_,_=>trivial
 |x::r,pre,v::vs,hl,he,h=>
  ⟨by simpa using he pre.length x h.1,J0 r (pre++[v]) vs (by simpa using hl) (by simpa using he) (by simpa using h.2)⟩
 |[],_,_::_,hl,_,_=>by simp at hl
 |_::_,_,[],hl,_,_=>by simp at hl
def J1 {I:Im} {l:List AV} {vs:Array Value} (h:cP I l vs.toList):cM I {tmps:=vs,defers:=[]} (ke 0 l):=λt x e=>by
 have:=wR l vs.toList [] [] h t x e;simpa using this
section
variable {P:Program} {c:Ctx} {I:Im} {H:List Own} {Γ:Env} {a:Act} {w:World} {E T:TypeId} {v:Value} {sz:Nat} {l:List (List AV)} {u xs pr:List AV} {b:Nat} {x y res mT:AV} {f:FuncId}
def St.J2 {t:Nat} (U:St c I H Γ a w) (h:∀v,x.h I v->y.h I v) (ht:Env.get t Γ=some x):St c I H ((t,y)::Γ) a w:=
 ⟨U.step,U.own,λs z e=>by
  simp only[Env.get] at e;cases hb:Nat.beq t s with
  |true=>rw[hb] at e;obtain rfl:t=s:=Nat.eq_of_beq_eq_true hb;simp at e;subst e;exact h _ (U.env t x ht)
  |false=>rw[hb] at e;exact U.env s z (by simpa using e),U.size,U.defers⟩
def St.fa (k t q:Nat) (U:St c I H Γ a w) (hk:H[k]?=some (Own.row v E sz l):=by rfl) (ht:Env.get t Γ=some (.agg xs):=by rfl) (hq:xs[q]?=some (.val v):=by rfl):∃I',St c I' (H.set k Own.gone) ((t,.agg (xs.set q (.rows sz l)))::Γ) a w:=
 let⟨I',h,hf⟩:=U.ph k hk
 ⟨I',h.J2 (λ_ hx=>JP q hq hf hx) ht⟩
def St.fc (k t i:Nat) {fZ:List AV} (U:St c I H Γ a w) (hk:H[k]?=some (Own.box b T u):=by rfl) (ht:Env.get t Γ=some (.fn f fZ):=by rfl) (hi:fZ[i]?=some (.val (.pointer (some ⟨b,0,none⟩))):=by rfl):∃I',St c I' (H.set k Own.gone) ((t,.fn f (fZ.set i (.ptr u)))::Γ) a w:=
 let⟨I',h,hf⟩:=U.I7 k hk
 ⟨I',h.J2 (x:=.fn f fZ) (y:=.fn f (fZ.set i (.ptr u))) (λ_ ⟨cs,e,hc⟩=>⟨cs,e,hc.set hi hf⟩) ht⟩
def bJ.frozen {α:Type} {args:List AV} {ok:α->Prop} {h1:α->List Own} {r:α->AV} (h:bJ P f args [] ok h1 r) (fz:∀x c I a w,ok x->St c I (h1 x) [(0,r x)] a w->∃I2 H2 Γ2,St c I2 H2 ((0,mT)::Γ2) a w):Fn P f args mT:=
 ⟨h.1,λI w vs hm ha=>(h.2 I w vs hm (bO.nil _ _ _) ha).mono λe w' he=>by
   cases e with
   |panicked _=>exact he.elim
   |outgrown=>exact he.elim
   |returned v=>
    obtain⟨x,I',al,bX,ho,hx⟩:=he
    obtain⟨I2,H2,Γ2,U⟩:=fz x ⟨w,I,1,dz []⟩ I' {tmps:=#[v],defers:=[]} w' al ⟨bX,ho,J1 (l:=[r x]) (vs:=#[v]) ⟨hx,trivial⟩,rfl,rfl⟩
    exact⟨I2,eF.none U.step,by simpa using U.env 0 mT rfl⟩⟩
def z8 {g:Bool} {d:Option Tmp} {ys:Array Operand} {ts:Array TypeId} {ty:TypeId} {p:String} {af:Array Edge} {gd:Option (Nat×Bool)} (hf:Fn P f pr res) (h:∀I a,cM I a Γ->g=true->cP I xs (ys.map a.eval).toList)
 (fz:∀c I a w,St c I H (ke 0 xs) a w->∃I2 H2 Γ2,St c I2 H2 Γ2 a w/\DY 0 pr Γ2) (xx:∀I J u,res.h I u->res.h J u:=by exactλ_ _ _ h=>h) (hn:pr.length=xs.length:=by rfl):Ok P H Γ g ⟨d,.call ⟨.value (.func f),ys,ts⟩,ty,p,af,gd⟩ res:=
 λbase I a w K Q he hm hw hg kk=>by
  have h0:=h I a he hg;obtain⟨I2,H2,Γ2,ey,ta⟩:=fz ⟨w,I,(ys.map a.eval).size,λ_=>True⟩ I {tmps:=ys.map a.eval,defers:=[]} w ⟨eF.refl hm,hw.weaken λb _=>.inr trivial,J1 h0,rfl,rfl⟩;have hx:=J0 pr [] (ys.map a.eval).toList (by rw[h0.length,hn]) (by rw[List.nil_append,Array.toArray_toList];exact ey.env) ta;have hle:Im.le I I2:=ey.step.le;have hc:=hf.2 I2 w (ys.map a.eval) ey.step.cX hx;unfold Oper.wp;have hr:(execOp a.eval (⟨d,.call ⟨.value (.func f),ys,ts⟩,ty,p,af,gd⟩:Oper)).run P w=.ok (.enter f (ys.map a.eval)) w:=by
   simp only[execOp,resolve,Act.eval];simp[go_sem,hf.1 _ w]
  rw[hr,Oper.upon_enter];refine Calls.mono hc λe w' he=>?_;cases e with
  |returned u=>
   obtain⟨I3,U,hx⟩:=he
   refine kk u (λb=>if b<w.heap.size then I b else I3 b) w' (xx _ _ _ hx) ⟨λb cs e=>?_,λb hb=>if_pos hb,λb cs e=>?_,U.below⟩
   .show(if b<w.heap.size then I b else I3 b)=_
    rw[if_pos (hm.lt e)];exact e
   change(if b<w.heap.size then I b else I3 b)=some cs at e
   split at e
   .exact U.cX b cs (U.le b cs (hle b cs e))
   exact U.cX b cs e
  |panicked _=>exact he.elim
  |outgrown=>exact he.elim
end
end Go.Proofs.YtldbakcpcfdlaaaGreat

/- Part 3: rules of the proofs. -/
import Derived.Maps.Own
import Derived.Maps.Views
import Derived.DeepKeys5
import Derived.Test.YtjepcfpkclegdaaGreatProg
import Derived.Test.YtjepcfpkclegdaaGreatP02
set_option linter.unusedVariables false
set_option linter.unusedSimpArgs false
namespace Go.Proofs.YtjepcfpkclegdaaGreat
open Go Go.RowKit
section
variable {P:Program} {c:Ctx} {I:Im} {H:List Own} {Γ:Env} {a:Act} {w:World} {E:TypeId} {sz:Nat} {l:List (List AV)} {Q:Exit->Act->World->Prop} {ops:Array Oper} {rest:List Oper}
theorem Ln {base:Nat->Prop} {v:Value} {k:Nat} (hm:dV w I) (hw:cj base I w H) (hk:H[k]?=some (Own.row v E sz l)):∃I2,Im.le I I2/\dV w I2/\(AV.rows sz l).h I2 v:=by
 have ho:=hw.only hk
 have U:St ⟨w,I,0,λ_=>True⟩ I [Own.row v E sz l] [] {tmps:=#[],defers:=[]} w:=
  ⟨fC.refl hm,ho.weaken λb _=>.inr trivial,λt x e=>by simp[Env.get] at e,rfl,rfl⟩
 obtain⟨I2,dC,hv⟩:=U.uC 0 rfl
 exact⟨I2,dC.step.le,dC.step.c9,hv⟩
theorem Lo {xs:List AV} {u v:Value} {y:AV} (q:Nat) (hq:xs[q]?=some (.val u)) (hy:y.h I u) (h:(AV.agg xs).h I v):(AV.agg (xs.set q y)).h I v:=by
 obtain⟨cs,e,hl⟩:=h
 refine⟨cs,e,?_⟩
 obtain⟨u',hu,hv,h1⟩:=hl.get hq
 obtain rfl:u'=u:=hv
 refine(hl.set q hy h1).cast rfl ?_
 exact E3 hu
theorem Lp {g:Bool} {d:Option Tmp} {f:FuncId} {ys:Array Operand} {ts:Array TypeId} {ty:TypeId} {p:String} {af:Array Edge} {gd:Option (Nat×Bool)} {cs r:List AV} {res:AV} {v:Value} (k q:Nat)
 (h:∀I a,cP I a Γ->g=true->c8 I (AV.agg cs::r) (ys.map a.eval).toList) (hk:H[k]?=some (Own.row v E sz l)) (hq:cs[q]?=some (.val v)) (hf:Fn P f (AV.agg (cs.set q (AV.rows sz l))::r) res) (z7:∀I J u,res.h I u->res.h J u):Ok P H Γ g ⟨d,.call ⟨.value (.func f),ys,ts⟩,ty,p,af,gd⟩ res:=
 λbase I a w K Q he hm hw hg kk=>by
  obtain⟨I2,hle,z8,hv⟩:=Ln hm hw hk
  have hx:∀I a,cP I a Γ->(AV.rows sz l).h I v->c8 I (AV.agg (cs.set q (AV.rows sz l))::r) (ys.map a.eval).toList:=λI a he hv=>by
   have:=h I a he hg
   generalize (ys.map a.eval).toList=vs at this⊢
   cases vs with
   |nil=>exact this
   |cons u us=>exact⟨Lo q hq hv this.1,this.2⟩
  have hc:=hf.2 I2 w (ys.map a.eval) z8 (hx I2 a (he.up hle) hv)
  unfold Oper.wp
  have hr:(execOp a.eval (⟨d,.call ⟨.value (.func f),ys,ts⟩,ty,p,af,gd⟩:Oper)).run P w=.ok (.enter f (ys.map a.eval)) w:=by
   simp only[execOp,resolve,Act.eval]
   simp[go_sem,hf.1 _ w]
  rw[hr,Oper.upon_enter]
  refine Calls.mono hc λe w' he=>?_
  cases e with
  |returned u=>
   obtain⟨I3,U,hx⟩:=he
   refine kk u (λb=>if b<w.heap.size then I b else I3 b) w' (z7 _ _ _ hx) ⟨λb cs e=>?_,λb hb=>if_pos hb,λb cs e=>?_,U.below⟩
   ·show(if b<w.heap.size then I b else I3 b)=_
    rw[if_pos (hm.lt e)];exact e
   ·change(if b<w.heap.size then I b else I3 b)=some cs at e
    split at e
    ·exact U.c9 b cs (U.le b cs (hle b cs e))
    ·exact U.c9 b cs e
  |panicked _=>exact he.elim
  |outgrown=>exact he.elim
theorem Cf {g:Bool} {d:Option Tmp} {f:FuncId} {ys:Array Operand} {ts:Array TypeId} {ty:TypeId} {p:String} {af:Array Edge} {gd:Option (Nat×Bool)} {r:List AV} {res:AV} {v:Value} (k:Nat)
 (h:∀I a,cP I a Γ->g=true->c8 I (AV.val v::r) (ys.map a.eval).toList) (hk:H[k]?=some (Own.row v E sz l)) (hf:Fn P f (AV.rows sz l::r) res) (z7:∀I J u,res.h I u->res.h J u):Ok P H Γ g ⟨d,.call ⟨.value (.func f),ys,ts⟩,ty,p,af,gd⟩ res:=
 λbase I a w K Q he hm hw hg kk=>by
  obtain⟨I2,hle,z8,hv⟩:=Ln hm hw hk
  have hx:∀I a,cP I a Γ->(AV.rows sz l).h I v->c8 I (AV.rows sz l::r) (ys.map a.eval).toList:=λI a he hv=>by
   have:=h I a he hg
   generalize (ys.map a.eval).toList=vs at this⊢
   cases vs with
   |nil=>exact this
   |cons u us=>exact⟨by have e:u=v:=this.1;rw[e];exact hv,this.2⟩
  have hc:=hf.2 I2 w (ys.map a.eval) z8 (hx I2 a (he.up hle) hv)
  unfold Oper.wp
  have hr:(execOp a.eval (⟨d,.call ⟨.value (.func f),ys,ts⟩,ty,p,af,gd⟩:Oper)).run P w=.ok (.enter f (ys.map a.eval)) w:=by
   simp only[execOp,resolve,Act.eval]
   simp[go_sem,hf.1 _ w]
  rw[hr,Oper.upon_enter]
  refine Calls.mono hc λe w' he=>?_
  cases e with
  |returned u=>
   obtain⟨I3,U,hx⟩:=he
   refine kk u (λb=>if b<w.heap.size then I b else I3 b) w' (z7 _ _ _ hx) ⟨λb cs e=>?_,λb hb=>if_pos hb,λb cs e=>?_,U.below⟩
   ·show(if b<w.heap.size then I b else I3 b)=_
    rw[if_pos (hm.lt e)];exact e
   ·change(if b<w.heap.size then I b else I3 b)=some cs at e
    split at e
    ·exact U.c9 b cs (U.le b cs (hle b cs e))
    ·exact U.c9 b cs e
  |panicked _=>exact he.elim
  |outgrown=>exact he.elim
theorem St.Cg {T ty:TypeId} {d m n:Nat} {p:String} {af:Array Edge} {zv:Value} {ag:Bool} {len:Nat} {js:List (List AV)} {parts:List (Nat×Operand)} {ps:List (Nat×List AV)} (U:St c I H Γ a w) (hd:Nat.blt d c.n=true) (hT:P.underlying T=some (.slice E)) (hE:Ty P E ag n m zv) (ga:zv.cells.size=sz) (qg:∀u∈zv.cells.toList,u.oneCell'=true)
 (cK:Nat.blt 0 sz=true) (mL:Nat.blt 0 len=true) (uE:Nat.ble (len*sz) 16777216=true) (hp:bf (py sz) Γ true (len*sz) parts ps) (kT:filled (List.replicate (len*sz) AV.any) ps=js.flatten) (hlen:js.length=len) (hr:∀r∈js,r.length=sz) (hn:n=sz)
 (k:∀b I a' w',St c I (H++[Own.row (.slice (some ⟨b,0,none⟩) len len) E sz js]) ((d,.val (.slice (some ⟨b,0,none⟩) len len))::Γ) a' w'->wpList P ops Q rest a' w'):
 wpList P ops Q (⟨some d,.buildSlice T len parts.toArray,ty,p,af,none⟩::rest) a w:=by
 subst hn
 have E7:=Nat.le_of_ble_eq_true uE
 have qm:0<len:=by simpa using mL
 obtain⟨cs,e1,e2,e3⟩:=KO (w:=w) U.env rfl hT hE ga qg E7 hp
 refine jI rfl ?_
 unfold Oper.wp
 simp only[execOp,Sem.run_bind,e1,Result.andThen_ok,Sem.run_pure,Oper.upon_value]
 refine k w.heap.size I _ _ (U.nj (U.step.trans (Step.alloc U.step.c9 _)) (Im.le_refl _) (U.own.push (x:=Own.row (.slice (some ⟨w.heap.size,0,none⟩) len len) E n js) U.room (zq qm) U.step.c9 ⟨hr,.inr ⟨w.heap.size,len,cs,by rw[hlen],qm,s7 w _,by omega,?_,e3,?_⟩⟩) hd rfl)
 ·simp only[maxLen]
  have h:0<n:=by simpa using cK
  have:len*1<=len*n:=Nat.mul_le_mul_left _ h
  omega
 ·rw[kT] at e2
  refine e2.cast rfl ?_
  rw[List.take_of_length_le]
  have:=e2.length
  simp[hlen] at e3⊢;omega
theorem Ur {y:Operand} {ys:List Operand} {x:AV} {xs:List AV} (h:x.h I (a.eval y)) (k:c8 I xs (ys.toArray.map a.eval).toList):c8 I (x::xs) ((y::ys).toArray.map a.eval).toList:=by
 simp only[List.map_toArray,List.map_cons] at k⊢
 exact⟨h,k⟩
theorem aS.eT {Hf:List (Act->Own)} {os:List Oper} {ms:Meta} {d d':Nat} {f:FuncId} {ys:Array Operand} {ts:Array TypeId} {ty:TypeId} {p:String} {af:Array Edge} {xs:Value->List AV} {res:AV} (k:Nat) (hk:Hf[k]?=some λa=>Own.row (a.tmps.getD d' undef) E sz l) (hd:Nat.blt d c.n=true) (hf:∀v,jK P f (xs v) [Own.row v E sz l] [] res)
 (fB:∀I a,cP I a (Γ.only ((⟨some d,.call ⟨.value (.func f),ys,ts⟩,ty,p,af,none⟩:Oper).looksAt ops))->true=true->c8 I (xs (a.tmps.getD d' undef)) (ys.map a.eval).toList)
 (r:aS P c ops Q ((d,res)::Γ) (Hf.set k λ_=>Own.gone) os ms):aS P c ops Q Γ Hf (⟨some d,.call ⟨.value (.func f),ys,ts⟩,ty,p,af,none⟩::os) (([k],some (k,[]))::ms):=
 aS.cons (u:=some ⟨k,[],λ_=>Own.gone⟩) (x:=res) (λv e=>by cases e;intro a a' _;rfl) (λF W0 I0 I a w Q U kk=>by
  have eS:(eC [k] a F 0 Hf)[k]?=some (Own.row (a.tmps.getD d' undef) E sz l):=my hk
  have cy:[k].Nodup:=by simp
  refine jI rfl ?_
  unfold Oper.wp
  rw[Cc (hf (a.tmps.getD d' undef)).1 rfl,Oper.upon_enter]
  have en:=(cj.pick (ks:=[k]) (h0:=[Own.row (a.tmps.getD d' undef) E sz l]) U.own (by simpa using my hk) cy).exact
  refine Calls.mono ((hf _).2 I w _ U.step.c9 en (fB I a U.env rfl)) λe w' he=>?_
  cases e with
  |panicked _=>exact he.elim
  |outgrown=>exact he.elim
  |returned v=>
   obtain⟨x,I',hx,bc,ho,hv⟩:=he
   have h2:St ⟨W0.1,I0,c.n,W0.2⟩ I' ((eC [k] a F 0 Hf).set k Own.gone) ((d,res)::Γ.only ((⟨some d,.call ⟨.value (.func f),ys,ts⟩,ty,p,af,none⟩:Oper).looksAt ops)) (a.put (some d) v) w':=
    U.z5 (h0:=[Own.row (a.tmps.getD d' undef) E sz l]) (h1:=λ_:Unit=>[]) (res:=λ_=>res) (x:=()) [k] (by simpa using eS) cy bc ho hv hd
   exact kk I' _ w' (h2.pass (oV (f:=λ_=>Own.gone) rfl))) r
theorem aS.wm {Hf:List (Act->Own)} {os:List Oper} {ms:Meta} {d:Nat} {f:FuncId} {ys:Array Operand} {ts:Array TypeId} {ty:TypeId} {p:String} {af:Array Edge} {xs:List AV} {res:AV} {O O':Own} (k:Nat) (hk:Hf[k]?=some λ_=>O) (hd:Nat.blt d c.n=true) (hf:jK P f xs [O] [O'] res)
 (fB:∀I a,cP I a (Γ.only ((⟨some d,.call ⟨.value (.func f),ys,ts⟩,ty,p,af,none⟩:Oper).looksAt ops))->true=true->c8 I xs (ys.map a.eval).toList)
 (r:aS P c ops Q ((d,res)::Γ) (Hf.set k λ_=>O') os ms):aS P c ops Q Γ Hf (⟨some d,.call ⟨.value (.func f),ys,ts⟩,ty,p,af,none⟩::os) (([k],some (k,[]))::ms):=
 aS.cons (u:=some ⟨k,[],λ_=>O'⟩) (x:=res) (λv e=>by cases e;intro a a' _;rfl) (λF W0 I0 I a w Q U kk=>by
  have eS:(eC [k] a F 0 Hf)[k]?=some O:=my hk
  have cy:[k].Nodup:=by simp
  refine jI rfl ?_
  unfold Oper.wp
  rw[Cc hf.1 rfl,Oper.upon_enter]
  have en:=(cj.pick (ks:=[k]) (h0:=[O]) U.own (by simpa using my hk) cy).exact
  refine Calls.mono (hf.2 I w _ U.step.c9 en (fB I a U.env rfl)) λe w' he=>?_
  cases e with
  |panicked _=>exact he.elim
  |outgrown=>exact he.elim
  |returned v=>
   obtain⟨x,I',hx,bc,ho,hv⟩:=he
   have h2:St ⟨W0.1,I0,c.n,W0.2⟩ I' (((eC [k] a F 0 Hf).set k Own.gone).set k O'++[]) ((d,res)::Γ.only ((⟨some d,.call ⟨.value (.func f),ys,ts⟩,ty,p,af,none⟩:Oper).looksAt ops)) (a.put (some d) v) w':=
    U.z5 (h0:=[O]) (h1:=λ_:Unit=>[O']) (res:=λ_=>res) (x:=()) [k] (by simpa using eS) cy bc ho hv hd
   rw[List.append_nil,List.set_set] at h2
   exact kk I' _ w' (h2.pass (oV (f:=λ_=>O') rfl))) r
end
def rN (m n:Int):Int:=((m.toNat^^^n.toNat:Nat):Int)
theorem Lq {m n:Int}:0<=rN m n:=Int.natCast_nonneg _
theorem Lr {m n:Int} (hm:m<4611686018427387904) (hn:n<4611686018427387904):rN m n<4611686018427387904:=by
 have h:=Nat.xor_lt_two_pow (x:=m.toNat) (y:=n.toNat) (n:=62) (by omega) (by omega)
 unfold rN;omega
theorem Ls {P:Program} {H:List Own} {Γ:Env} {g:Bool} {d:Option Tmp} {y z:Operand} {ty T T':TypeId} {p:String} {af:Array Edge} {gd:Option (Nat×Bool)} {m n:Int} (hy:At Γ g y (.int m)) (hz:At Γ g z (.int n)) (hb:g=true->0<=m/\m<4611686018427387904/\0<=n/\n<4611686018427387904):
 Ok P H Γ g ⟨d,.binOp .xor T y z T',ty,p,af,gd⟩ (.int (rN m n)):=
 iS λI a w he hg=>by
  have h1:a.eval y=.int .i64 m:=hy I a he hg
  have h2:a.eval z=.int .i64 n:=hz I a he hg
  obtain⟨g1,g2,g3,g4⟩:=hb hg
  have hx:=Lr (m:=m) (n:=n) (by omega) (by omega)
  have hp:=Lq (m:=m) (n:=n)
  have h3:IntKind.i64.wrap (rN m n)=rN m n:=IntWalk.i64_in _ (by omega)
  have h4:(((BitVec.ofInt IntKind.i64.bits m^^^BitVec.ofInt IntKind.i64.bits n).toNat:Nat):Int)=rN m n:=by
   unfold rN
   rw[BitVec.toNat_xor]
   have e1:(BitVec.ofInt IntKind.i64.bits m).toNat=m.toNat:=by
    rw[BitVec.toNat_ofInt];show(m%(2^64:Nat)).toNat=_;rw[Int.emod_eq_of_lt g1 (by simp;omega)]
   have e2:(BitVec.ofInt IntKind.i64.bits n).toNat=n.toNat:=by
    rw[BitVec.toNat_ofInt];show(n%(2^64:Nat)).toNat=_;rw[Int.emod_eq_of_lt g3 (by simp;omega)]
   rw[e1,e2]
  simp only[execOp,h1,h2];simp[go_sem,eqGuard,binOp,Op.intBits];exact(congrArg IntKind.i64.wrap h4).trans h3
section
variable {P:Program} {c:Ctx} {I:Im} {H:List Own} {Γ:Env} {a:Act} {w:World} {Q:Exit->Act->World->Prop}
def Us (P:Program) (ops:Array Oper) (Q:Exit->Act->World->Prop) (o9:Oper):Exit->Act->World->Prop
 |.normal=>wpList P ops Q [o9]
 |e=>Q e
theorem St.z9 {id:Nat} {l:List Oper} (n:Nat) (o9:Oper) (ms:Meta) (U:St c I H Γ a w) (hl:l=l.take n++[o9]) (hm:P.follows .mixedOrders=true) (gf:zW (l.take n) [o9] ms=true) (hd:((l.take n).all λo=>match o.dst with|some d=>Nat.blt d c.n|none=>true)=true)
 (run:aS P c l.toArray (Us P l.toArray Q o9) Γ (H.map λo _=>o) (l.take n) ms):(Code.region id l.toArray true).wp P Q a w:=by
 obtain⟨rs,h0,run,k⟩:=run
 subst h0
 have:=U.Ld (id:=id) (Q:=Q) (pre:=l.take n) (tail:=[o9]) (rs:=rs) hm gf hd (by rw[<-hl];exact run) λI' a' w' h=>by rw[<-hl];exact k I' a' w' h
 rwa[<-hl] at this
theorem St.Ut {ops:Array Oper} {rest:List Oper} {d:Nat} {f:FuncId} {ys:Array Operand} {ts:Array TypeId} {ty:TypeId} {p:String} {af:Array Edge} {gd:Option (Nat×Bool)} {G:Bool} {xs:List AV} {res:AV} {O O':Own} (k:Nat) (U:St c I H Γ a w)
 (hg:jG ops Γ ⟨some d,.call ⟨.value (.func f),ys,ts⟩,ty,p,af,gd⟩ G) (hk:H[k]?=some O) (hd:Nat.blt d c.n=true) (hf:jK P f xs [O] [O'] res) (fB:∀I a,cP I a Γ->G=true->c8 I xs (ys.map a.eval).toList)
 (kk:∀I' a' w',St c I' (H.set k (bif G then O' else O)) ((d,.cond G res)::Γ) a' w'->wpList P ops Q rest a' w'):wpList P ops Q (⟨some d,.call ⟨.value (.func f),ys,ts⟩,ty,p,af,gd⟩::rest) a w:=by
 unfold wpList
 rw[hg I a U.env]
 cases G with
 |true=>
  rw[if_pos rfl]
  refine .inl ?_
  have cy:[k].Nodup:=by simp
  have eS:[k].map (λk=>H[k]?)=[O].map some:=by simpa using hk
  unfold Oper.wp
  have hr:(execOp a.eval (⟨some d,.call ⟨.value (.func f),ys,ts⟩,ty,p,af,gd⟩:Oper)).run P w=.ok (.enter f (ys.map a.eval)) w:=by
   simp only[execOp,resolve,Act.eval]
   simp[go_sem,hf.1 _ w]
  rw[hr,Oper.upon_enter]
  have en:=(cj.pick U.own eS cy).exact
  refine Calls.mono (hf.2 I w _ U.step.c9 en (fB I a U.env rfl)) λe w' he=>?_
  cases e with
  |panicked _=>exact he.elim
  |outgrown=>exact he.elim
  |returned v=>
   obtain⟨x,I',hx,bc,ho,hv⟩:=he
   have h2:St c I' ((H.set k Own.gone).set k O'++[]) ((d,res)::Γ) (a.put (some d) v) w':=
    U.z5 (h0:=[O]) (h1:=λ_:Unit=>[O']) (res:=λ_=>res) (x:=()) [k] eS cy bc ho hv hd
   rw[List.append_nil,List.set_set] at h2
   refine kk I' _ w' ⟨h2.step,h2.own,λt x e=>?_,h2.size,h2.defers⟩
   simp only[Env.get] at e
   cases hb:Nat.beq d t with
   |true=>
    rw[hb] at e;simp only[cond_true] at e;cases e
    have:=h2.env t res (by simp[Env.get,hb])
    exact⟨λ_=>this,λh=>by cases h⟩
   |false=>rw[hb] at e;exact h2.env t x (by simp[Env.get,hb];simpa using e)
 |false=>
  rw[if_neg (by simp)]
  refine kk I _ w ?_
  have h1:=U.put (d:=d) (x:=.cond false res) (v:=undef) (by simpa using hd) ⟨λh=>(by cases h),λ_=>rfl⟩ (Step.refl U.step.c9)
  refine h1.pass ?_
  show H=H.set k O
  exact(E3 hk).symm
end
structure wo (P:Program) (t k e:TypeId) {κ ε:Type} (kl:κ->Lit) (ev:ε->Value) (ed:ε->DataW Unit) (fits:ε->Prop) (z:ε):Prop where
 K:Maps.Keyed P k
 ht:P.underlying t=some (.map k e)
 zr:∀w,(zeroValue e).run P w=.ok (ev z) w
 fz:fits z
 rd:∀x,fits x->plainElem P e (ev x)=some (ed x,[])
 inv:∀v ps x,plainElem P e v=some (ed x,ps)->v=ev x
 FJ:∀x y,kl x=kl y->x=y
 key:∀x,WideAt.IsKeyLit (kl x)
def Own.rO (P:Program) (k e:TypeId) {κ ε:Type} (kl:κ->Lit) (ed:ε->DataW Unit) (z:ε) (b n:Nat) (m:κ->ε):Own:=
 ⟨some b,λI w=>∃D:DataW Unit,w.ownsMap P k (plainElem P e) b n D/\∀x,D.atKey (kl x) (ed z)=ed (m x),
  λI I' w w' _ hb ⟨D,⟨es,clock,h,h2⟩,hm⟩=>⟨D,⟨es,clock,(hb b rfl).trans h,h2⟩,hm⟩⟩
section
variable {P:Program} {c:Ctx} {I:Im} {H:List Own} {Γ:Env} {a:Act} {w:World} {Q:Exit->Act->World->Prop} {ops:Array Oper} {rest:List Oper}
variable {d b n:Nat} {y z' x':Operand} {t k e ty:TypeId} {p:String} {af:Array Edge} {g:Bool} {gd:Option (Nat×Bool)}
variable {κ ε:Type} {kl:κ->Lit} {ev:ε->Value} {ed:ε->DataW Unit} {fits:ε->Prop} {z:ε}
theorem FK {m:κ->ε} {x:κ} (kk:Nat) (hM:wo P t k e kl ev ed fits z) (hm:At Γ g y (.val (.map (some b)))) (hx:∀I a,cP I a Γ->g=true->keyOf P k (a.eval x')=some (kl x)) (hH:H[kk]?=some (Own.rO P k e kl ed z b n m)):
 Ok P H Γ g ⟨some d,.lookup t y x' false,ty,p,af,gd⟩ (.val (ev (m x))):=
 gB λbase I a w he Lt hw hg=>by
  obtain⟨D,en,hD⟩:=(hw.all _ (List.mem_of_getElem? hH)).1
  have e1:a.eval y=_:=hm I a he hg
  obtain⟨v,ps,j3,hv⟩:=en.lookup hM.K hM.ht (hM.zr w) (hM.rd z hM.fz) (hx I a he hg)
  rw[hD x] at hv
  refine⟨v,?_,hM.inv v ps _ hv⟩
  simp only[execOp,e1,Sem.run_bind,j3,Result.andThen_ok,Sem.run_pure]
theorem St.makeMap (U:St c I H Γ a w) (hd:Nat.blt d c.n=true) (hM:wo P t k e kl ev ed fits z)
 (kk:∀b a' w',St c I (H++[Own.rO P k e kl ed z b 0 λ_=>z]) ((d,.val (.map (some b)))::Γ) a' w'->wpList P ops Q rest a' w'):
 wpList P ops Q (⟨some d,.makeMap t none,ty,p,af,none⟩::rest) a w:=by
 refine jI rfl ?_
 unfold Oper.wp
 simp only[execOp,Option.map_none,Sem.run_bind,run_makeMap,Result.andThen_ok,Sem.run_pure,Oper.upon_value]
 exact kk w.heap.size _ _ (U.nj (U.step.trans (Step.alloc U.step.c9 _)) (Im.le_refl _) (U.own.push (x:=Own.rO P k e kl ed z w.heap.size 0 λ_=>z) U.room rfl U.step.c9
  ⟨.map [],World.ownsMap_made w P k (plainElem P e),λx=>by simp[DataW.atKey]⟩) hd rfl)
theorem Uu {D:DataW Unit} {R:Value->Option (DataW Unit×List MemPlace)} (h:w.ownsMap P k R b n D) (K:Maps.Keyed P k) (ht:P.underlying t=some (.map k e)) (hn:n<maxLen) {key val:Value} {lk:Lit} {dv:DataW Unit} {ps:List MemPlace}
 (jh:keyOf P k key=some lk) (hv:R val=some (dv,ps)):∃w',(Instr.mapUpdate t (.map (some b)) key val).run P w=.ok () w'/\w'.ownsMap P k R b (n+1) (D.put lk dv)/\w.grownBy w' (some b)/\w'.heap.size=w.heap.size:=by
 obtain⟨w',h1,h2,h3⟩:=h.update K ht hn jh hv
 refine⟨w',h1,h2,h3,?_⟩
 obtain⟨es,clock,hb,F,U,rfl⟩:=h
 obtain⟨es',ahT,j3,_⟩:=Maps.fit_store (R':=R) K ht hb F (Nat.lt_of_le_of_lt U hn) (λ_ _ _ _ hz=>hz) jh hv
 rw[j3] at h1
 cases h1
 simp[ChangeMaps.setBlock]
theorem St.mapUpdate {m:κ->ε} {x:κ} {v:ε} [DecidableEq κ] (kk:Nat) (U:St c I H Γ a w) (hM:wo P t k e kl ev ed fits z) (hm:At Γ true y (.val (.map (some b)))) (hx:∀I a,cP I a Γ->true=true->keyOf P k (a.eval x')=some (kl x))
 (hv:At Γ true z' (.val (ev v))) (hf:fits v) (hn:n<140737488355328) (hH:H[kk]?=some (Own.rO P k e kl ed z b n m))
 (kn:∀a' w',St c I (H.set kk (Own.rO P k e kl ed z b (n+1) λy=>if y=x then v else m y)) Γ a' w'->wpList P ops Q rest a' w'):
 wpList P ops Q (⟨none,.mapUpdate t y x' z',ty,p,af,none⟩::rest) a w:=by
 obtain⟨⟨D,en,hD⟩,h2⟩:=U.own.all _ (List.mem_of_getElem? hH)
 obtain⟨vT,ta,tb⟩:=h2 b rfl
 have e1:a.eval y=_:=hm I a U.env rfl
 have e2:a.eval z'=_:=hv I a U.env rfl
 obtain⟨w',j3,E0,pC,cK⟩:=Uu en hM.K hM.ht (by simp only[maxLen];omega) (hx I a U.env rfl) (hM.rd v hf)
 have zY:∀j,some j≠some b->w'.heap[j]?=w.heap[j]?:=λj hj=>by
  by_cases bw:j<w.heap.size
  ·exact pC.block j bw hj
  ·rw[Array.getElem?_eq_none (by omega),Array.getElem?_eq_none (by omega)]
 refine jI rfl ?_
 unfold Oper.wp
 simp only[execOp,e1,e2,Sem.run_bind,j3,Result.andThen_ok,Sem.run_pure]
 refine kn _ w' (U.written (U.step.write vT ta cK pC.os pC.tape pC.output λj hj=>zY j (by simpa using hj)) (U.own.write hH rfl cK zY ⟨_,E0,λq=>?_⟩))
 have Uv:Maps.IsMap D:=by obtain⟨es,clock,_,_,_,rfl⟩:=en;exact⟨_,rfl⟩
 show _=ed (if q=x then v else m q)
 by_cases hq:q=x
 ·subst hq;rw[if_pos rfl];exact Maps.atKey_put_same Uv (hM.key q) _ _
 ·rw[if_neg hq,Maps.atKey_put_other (λh=>hq (hM.FJ _ _ h)),hD q]
theorem Uw {P:Program} {t k e:TypeId} (ht:P.underlying t=some (.map k e)) (hk:P.underlying k=some (.int .i64)) (he:P.underlying e=some (.int .i64)) (hz:∀w,(zeroValue e).run P w=.ok (.int .i64 0) w):
 wo P t k e (λx:Int=>Lit.int .i64 x) (λx:Int=>Value.int .i64 x) (λx=>.lit (.int .i64 x)) (λx=>-9223372036854775808<=x/\x<=9223372036854775807) 0 where
 K:=Maps.int_keyed hk
 ht:=ht
 zr:=hz
 fz:=by omega
 rd:=λx hx=>plainElem_int he (by simp[Lit.wf,IntKind.min,IntKind.max,IntKind.signed,IntKind.bits];omega)
 inv:=λv ps x h=>by
  obtain⟨a,rfl,h2,_⟩:=plainElem_int_inv he h
  simp at h2;rw[h2.1]
 FJ:=λx y h=>by cases h;rfl
 key:=λx=>trivial
theorem FL {P:Program} {k:TypeId} (hk:P.underlying k=some (.int .i64)) {x:Int} (hy:At Γ g x' (.int x)) (hb:-9223372036854775808<=x/\x<=9223372036854775807):∀I a,cP I a Γ->g=true->keyOf P k (a.eval x')=some (Lit.int .i64 x):=λI a he hg=>by
 have e1:a.eval x'=.int .i64 x:=hy I a he hg
 rw[e1]
 exact Maps.keyOf_int_mk hk (by simp[Lit.wf,IntKind.min,IntKind.max,IntKind.signed,IntKind.bits];omega)
end
abbrev tq:={p:Int×Int//gh p.1/\gh p.2}
def Aa (p:tq):Value:=.agg #[.int .i64 p.1.1,.int .i64 p.1.2]
noncomputable def tu (P:Program) (t:TypeId) (p:tq):Lit:=(keyOf P t (Aa p)).getD .nil
section
variable {P:Program} {c:Ctx} {I:Im} {H:List Own} {Γ:Env} {a:Act} {w:World} {Q:Exit->Act->World->Prop} {ops:Array Oper} {rest:List Oper}
variable {d b n m:Nat} {y z' x':Operand} {t k e ty T E:TypeId} {p:String} {af:Array Edge} {g:Bool} {gd:Option (Nat×Bool)} {zv:Value}
theorem Lu {n:Int} (h:gh n):(Lit.int .i64 n).wf=true:=by
 simp only[Lit.wf,Bool.and_eq_true,decide_eq_true_eq]
 exact⟨h.1,h.2⟩
theorem Ch {s:Nat} (ht:P.underlying k=some (.array 2 e)) (he:P.underlying e=some (.int .i64)) (hc:P.cellsOf k=2) (uN:P.cellsOf e=1) (hk:P.keyType k=true) (U:P.types.size=s+1) (q:tq):keyOf P k (Aa q)=some (tu P k q):=by
 obtain⟨⟨u,v⟩,hu,hv⟩:=q
 have h1:=Lu hu
 have h2:=Lu hv
 have:∃l,keyOf P k (Aa ⟨(u,v),hu,hv⟩)=some l:=by
  simp[keyOf,ht,hk,Aa,Value.formed,hc,U,Program.keyLits,Value.cells,uN,List.range_succ,he,h1,h2]
 obtain⟨l,hl⟩:=this
 unfold tu
 rw[hl];rfl
theorem Ux {s:Nat} (hm:P.underlying t=some (.map k e)) (he:P.underlying e=some .bool) (hz:∀w,(zeroValue e).run P w=.ok (.bool false) w) {e2:TypeId} (ht:P.underlying k=some (.array 2 e2)) (Ab:P.underlying e2=some (.int .i64)) (hc:P.cellsOf k=2) (uN:P.cellsOf e2=1) (hk:P.keyType k=true) (U:P.types.size=s+1) (K:WideMaps.KeyLaw P k):
 wo P t k e (tu P k) (λb:Bool=>Value.bool b) (λb=>.lit (.bool b)) (λ_=>True) false where
 K:=Maps.Keyed.of_law K
 ht:=hm
 zr:=hz
 fz:=trivial
 rd:=λx _=>plainElem_bool he x
 inv:=λv ps x h=>by
  unfold plainElem at h
  rw[he] at h
  cases v<;>simp at h
  rw[h.1]
 FJ:=λx y h=>by
  have h1:=Ch ht Ab hc uN hk U x
  have h2:=Ch ht Ab hc uN hk U y
  rw[h] at h1
  have:=(Maps.Keyed.of_law K).inj h1 h2
  obtain⟨⟨u,v⟩,hu⟩:=x
  obtain⟨⟨u',v'⟩,hu'⟩:=y
  simp[Aa] at this
  simp[this]
 key:=λx=>(Maps.Keyed.of_law K).key (Ch ht Ab hc uN hk U x)
theorem Uy {s:Nat} {e2:TypeId} (ht:P.underlying k=some (.array 2 e2)) (Ab:P.underlying e2=some (.int .i64)) (hc:P.cellsOf k=2) (uN:P.cellsOf e2=1) (hk:P.keyType k=true) (U:P.types.size=s+1) (q:tq) (hy:At Γ g x' (.agg [.int q.1.1,.int q.1.2])):∀I a,cP I a Γ->g=true->keyOf P k (a.eval x')=some (tu P k q):=λI a he hg=>by
 obtain⟨cs,e1,h1⟩:=hy I a he hg
 have:cs=#[.int .i64 q.1.1,.int .i64 q.1.2]:=by
  obtain⟨cs⟩:=cs
  match cs,h1 with
  |[u,v],⟨⟨hu,_⟩,⟨hv,_⟩,_⟩=>
   have hu:u=_:=hu
   have hv:v=_:=hv
   rw[hu,hv]
 rw[e1,this]
 exact Ch ht Ab hc uN hk U q
theorem Uz {l0:List AV} {parts:List (Nat×Operand)} {ps:List (Nat×List AV)} {N sz mm:Nat} {ag:Bool} {UA:Value} (hU:P.underlying T=some (.array N E)) (hE:Ty P E ag sz mm UA) (hT:Ty P T true n m zv) (hz:∀I,bJ I l0 zv.cells.toList) (hn:l0.length=n) (hp:bf (py sz) Γ g n parts ps):
 Ok P H Γ g ⟨some d,.build T parts.toArray,ty,p,af,gd⟩ (.agg (filled l0 ps)):=
 gB λ_ I a w he _ _ hg=>by
  obtain⟨iV,e1,e2,_⟩:=zJ he hg hp (hz I) hn
  refine⟨.agg iV,?_,iV,rfl,e2⟩
  have vR:(zeroValue T).run P w=.ok zv w:=hT.zero
  have U:(sizeOf E).run P w=.ok sz w:=hE.size
  have uF:Instr.fill (λi=>some (i*sz,sz)) zv.cells (parts.map λq=>(q.1,a.eval q.2))=some iV:=e1
  simp only[execOp,Instr.build,Sem.run_bind,vR,Result.andThen_ok,run_underlying hU,U,Sem.run_pure,List.map_toArray,List.toList_toArray]
  rw[uF]
  rfl
theorem St.UB {TN:TypeId} {ag:Bool} {sz eR:Nat} {t:Int} {k:IntKind} {y z:Operand} (U:St c I H Γ a w) (hU:P.underlying T=some (.slice E)) (hN:P.underlying TN=some (.int k)) (hE:Ty P E ag sz m zv) (ga:zv.cells.size=sz) (h0:0<sz)
 (hy:At Γ true y (.val (.slice none 0 0))) (hz:At Γ true z (.int t)) (ht:t=eR) (wi:0<eR) (hb:eR*m<=140737488355328) (uz:eR<=140737488355328) (hd:Nat.blt d c.n=true)
 (kc:∀{g mq a' w'},eR<=mq->mq<=maxLen->St c I (H++[Own.raw g E (List.replicate (mq*sz) none)]) ((d,.val (.slice (some ⟨g,0,none⟩) eR mq))::Γ) a' w'->wpList P ops Q rest a' w'):
 wpList P ops Q (⟨some d,.call ⟨.builtin .append,#[y,z],#[T,TN]⟩,ty,p,af,none⟩::rest) a w:=by
 subst ht
 have e1:a.eval y=_:=hy I a U.env rfl
 have e2:a.eval z=_:=hz I a U.env rfl
 obtain⟨ti,hi,td,iU,uB⟩:=hE.get
 have hr:=Lib.run_append_nil_zeros (P:=P) w T TN ty E ti zv .i64 k hU hN hi uB eR wi (by omega) (by omega) (by rw[iU];omega)
 refine jI rfl ?_
 unfold Oper.wp
 simp only[execOp,resolve,invoke,builtin,Sem.run_bind,Sem.run_pure,Result.andThen_ok,List.map_toArray,List.map_cons,List.map_nil,e1,e2,hr]
 have n6:=grownCap_ge w eR 0 E
 have pB:=grownCap_le_maxLen w eR 0 E (by simp only[maxLen];omega)
 have jH:cj c.own I w.drew H:=⟨λo ho=>⟨o.iR I I w _ (Im.le_refl I) (λ_ _=>rfl) (U.own.all o ho).1,(U.own.all o ho).2⟩,U.own.nodup⟩
 have aj:(Own.raw w.heap.size E (List.replicate (grownCap w eR 0 E*sz) none)).ok I (w.drew.alloc (.cells (Builtin.zeroCells zv.cells eR++Builtin.zeroCells zv.cells (grownCap w eR 0 E-eR)) E)):=by
  refine⟨_,s7 w.drew _,?_,λq x hq=>?_⟩
  ·have s1:=size_zeroCells zv.cells eR
   have s2:=size_zeroCells zv.cells (grownCap w eR 0 E-eR)
   rw[Array.size_append,s1,s2,ga]
   simp only[List.length_replicate,<-Nat.add_mul]
   congr 1;omega
  ·rw[List.getElem?_replicate] at hq
   split at hq<;>cases hq
 exact kc n6 pB (U.nj (U.step.trans (Step.EZ U.step.c9 _)) (Im.le_refl _) (jH.push U.room rfl U.step.c9 aj) hd rfl)
theorem UC {T E:TypeId} {sz:Nat} {ag:Bool} {y z:Operand} {d:Option Tmp} {t:Int} (hT:P.underlying T=some (.slice E)) (hE:Ty P E ag sz m zv) (h:At Γ g y (.val (.slice none 0 0))) (h1:At Γ g z (.int t)) (ht:t=0):
 Ok P H Γ g ⟨d,.slice T y none (some z) none,ty,p,af,gd⟩ (.val (.slice none 0 0)):=
 gB λ_ I a w he _ _ hg=>by
  subst ht
  have e:a.eval y=_:=h I a he hg
  have e1:a.eval z=_:=h1 I a he hg
  have U:(sizeOf E).run P w=.ok sz w:=hE.size
  refine⟨_,?_,rfl⟩
  simp only[execOp,Option.map_some,Option.map_none,e,e1,Instr.sliceAt,Sem.run_bind,run_underlying hT,Result.andThen_ok]
  simp[Instr.slice,run_underlying hT,Instr.sliceBounds,run_sliceBound,U,sliced]
end
class ea (P:Program) (T:TypeId) (ag:outParam Bool) (n m:outParam Nat) (zv:outParam Value):Prop where
 h:Ty P T ag n m zv
class cE (P:Program) (T:TypeId) (f:Nat) (o sz:outParam Nat):Prop where
 h:cB P T f o sz
class dy (P:Program) (T:TypeId) (f:Nat) (o sz:outParam Nat):Prop where
 h:cI P T f=some (o,sz)
class ji (P:Program) (T:TypeId) (k:outParam TypeDesc):Prop where
 h:P.underlying T=some k
class oX (P:Program) (T:TypeId):Prop where
 h:E5 P T=true
def run:Nat->Nat->List Nat->List Nat
 |0,_,l=>l
 |n+1,a,l=>a::run n (a+1) l
section
variable {P:Program} {H:List Own} {Γ:Env} {g:Bool} {d:Option Tmp} {y z:Operand} {ty T T' E:TypeId} {p:String} {af:Array Edge} {gd:Option (Nat×Bool)} {n m o:Nat} {zv:Value}
theorem Ok.mv {t:Nat} {x:AV} (h:Env.get t Γ=some x:=by rfl):Ok P H Γ g ⟨d,.move (.tmp t),ty,p,af,gd⟩ x:=zs (.t h)
theorem Ok.mx {x:AV} (h:At Γ g y x):Ok P H Γ g ⟨d,.move y,ty,p,af,gd⟩ x:=zs h
theorem Ok.as {t:Nat} {x:AV} (h:Env.get t Γ=some x:=by rfl):Ok P H Γ g ⟨d,.assign (.tmp t),ty,p,af,gd⟩ x:=ux (.t h)
theorem Ok.UD {x:AV} (h:At Γ g y x):Ok P H Γ g ⟨d,.assign y,ty,p,af,gd⟩ x:=ux h
theorem Ok.nt {t:Nat} {b:Bool} (h:Env.get t Γ=some (.bool b):=by rfl):Ok P H Γ g ⟨d,.unOp .not T (.tmp t),ty,p,af,gd⟩ (.bool (!b)):=J9 (.t h)
theorem Ok.UE {b:Bool} (h:At Γ g y (.bool b)):Ok P H Γ g ⟨d,.unOp .not T y,ty,p,af,gd⟩ (.bool (!b)):=J9 h
theorem Ok.lss {t u:Nat} {m n:Int} (hy:Env.get t Γ=some (.int m):=by rfl) (hz:Env.get u Γ=some (.int n):=by rfl):Ok P H Γ g ⟨d,.binOp .lss T (.tmp t) (.tmp u) T',ty,p,af,gd⟩ (.bool (decide (m<n))):=Kb (.t hy) (.t hz)
theorem Ok.leq {t u:Nat} {m n:Int} (hy:Env.get t Γ=some (.int m):=by rfl) (hz:Env.get u Γ=some (.int n):=by rfl):Ok P H Γ g ⟨d,.binOp .leq T (.tmp t) (.tmp u) T',ty,p,af,gd⟩ (.bool (decide (m<=n))):=Kc (.t hy) (.t hz)
theorem Ok.gtr {t u:Nat} {m n:Int} (hy:Env.get t Γ=some (.int m):=by rfl) (hz:Env.get u Γ=some (.int n):=by rfl):Ok P H Γ g ⟨d,.binOp .gtr T (.tmp t) (.tmp u) T',ty,p,af,gd⟩ (.bool (decide (n<m))):=Kd (.t hy) (.t hz)
theorem Ok.geq {t u:Nat} {m n:Int} (hy:Env.get t Γ=some (.int m):=by rfl) (hz:Env.get u Γ=some (.int n):=by rfl):Ok P H Γ g ⟨d,.binOp .geq T (.tmp t) (.tmp u) T',ty,p,af,gd⟩ (.bool (decide (n<=m))):=Ke (.t hy) (.t hz)
theorem Ok.e {t:Nat} {l:List AV} {i:Nat} {x:AV} (h:Env.get t Γ=some (.dx l):=by rfl) (hx:l[i]?=some x:=by rfl):Ok P H Γ g ⟨d,.extract (.tmp t) i,ty,p,af,gd⟩ x:=Tn (.t h) hx
theorem Ok.bp {t:Nat} {l:List AV} (h:Env.get t Γ=some (.agg l):=by rfl):Ok P H Γ g ⟨d,.box T (.tmp t),ty,p,af,gd⟩ (.ptr l):=S8 (.t h)
theorem Ok.nl {x:AV} (h:Ok P H Γ g ⟨d,.nilCheck y,ty,p,af,gd⟩ x:=by first|exact KT .tt|exact KU .tt|exact UF .tt|exact KT .ag|exact KU .ag|exact UF .ag):Ok P H Γ g ⟨d,.nilCheck y,ty,p,af,gd⟩ x:=h
theorem Ok.l1 {t:Nat} {x:AV} {l:List AV} [hT:ea P T false n m zv] (h:Env.get t Γ=some (.ptr (x::l)):=by rfl):Ok P H Γ g ⟨d,.load T (.tmp t),ty,p,af,gd⟩ x:=Kf hT.h (.t h)
theorem Ok.lx {x:AV} {l:List AV} [hT:ea P T false n m zv] (h:At Γ g y (.ptr (x::l))):Ok P H Γ g ⟨d,.load T y,ty,p,af,gd⟩ x:=Kf hT.h h
theorem Ok.lb {t b q:Nat} {x:AV} {l:List AV} (k:Nat) [hT:ea P T false n m zv] (h:Env.get t Γ=some (.val (.pointer (some ⟨b,q,none⟩))):=by rfl) (hH:H[k]?=some (Own.box b T' l):=by rfl) (hx:l[q]?=some x:=by rfl):Ok P H Γ g ⟨d,.load T (.tmp t),ty,p,af,gd⟩ x:=Kk k hT.h (.t h) hH hx
theorem Ok.Ac {b q:Nat} {x:AV} {l:List AV} (k:Nat) [hT:ea P T false n m zv] (h:At Γ g y (.val (.pointer (some ⟨b,q,none⟩)))) (hH:H[k]?=some (Own.box b T' l):=by rfl) (hx:l[q]?=some x:=by rfl):Ok P H Γ g ⟨d,.load T y,ty,p,af,gd⟩ x:=Kk k hT.h h hH hx
theorem Ok.ls {t b q:Nat} {l l':List AV} (k:Nat) [hT:ea P T true n m zv] (h:Env.get t Γ=some (.val (.pointer (some ⟨b,q,none⟩))):=by rfl) (hH:H[k]?=some (Own.box b T' l):=by rfl) (hx:(l.drop q).take n=l':=by rfl) (hn:l'.length=n:=by rfl):Ok P H Γ g ⟨d,.load T (.tmp t),ty,p,af,gd⟩ (.agg l'):=EJ k hT.h (.t h) hH hx hn
theorem Ok.FM {l:List AV} [hT:ea P T true n m zv] (h:At Γ g y (.ptr l):=by first|exact .tt|exact .ag|exact .c) (hn:l.length=n:=by rfl):Ok P H Γ g ⟨d,.load T y,ty,p,af,gd⟩ (.agg l):=SW hT.h h hn
theorem Ok.FN {l:List AV} [hT:ea P T true n m zv] (h:At Γ g y (.ptr l):=by first|exact .tt|exact .ag|exact .c) (hn:Nat.ble n l.length=true:=by rfl):Ok P H Γ g ⟨d,.load T y,ty,p,af,gd⟩ (.agg (l.take n)):=Kg hT.h h hn
theorem Ok.la {x:AV} (h:Ok P H Γ g ⟨d,.load T y,ty,p,af,gd⟩ x:=by first|exact .FM|exact .FN):Ok P H Γ g ⟨d,.load T y,ty,p,af,gd⟩ x:=h
theorem Ok.fp {t f size:Nat} {l:List AV} [hf:cE P T f o size] (h:Env.get t Γ=some (.ptr l):=by rfl) (U:Nat.blt 0 size=true:=by rfl):Ok P H Γ g ⟨d,.fieldAddr T (.tmp t) f,ty,p,af,gd⟩ (.ptr (l.drop o)):=Ki hf.h U (.t h)
theorem Ok.fx {f size:Nat} {l:List AV} [hf:cE P T f o size] (h:At Γ g y (.ptr l)) (U:Nat.blt 0 size=true:=by rfl):Ok P H Γ g ⟨d,.fieldAddr T y f,ty,p,af,gd⟩ (.ptr (l.drop o)):=Ki hf.h U h
theorem Ok.fv {t f size b q:Nat} [hf:cE P T f o size] (h:Env.get t Γ=some (.val (.pointer (some ⟨b,q,none⟩))):=by rfl) (U:Nat.blt 0 size=true:=by rfl):Ok P H Γ g ⟨d,.fieldAddr T (.tmp t) f,ty,p,af,gd⟩ (.val (.pointer (some ⟨b,q+o,none⟩))):=Kj hf.h U (.t h)
theorem Ok.UG {f size b q:Nat} [hf:cE P T f o size] (h:At Γ g y (.val (.pointer (some ⟨b,q,none⟩)))) (U:Nat.blt 0 size=true:=by rfl):Ok P H Γ g ⟨d,.fieldAddr T y f,ty,p,af,gd⟩ (.val (.pointer (some ⟨b,q+o,none⟩))):=Kj hf.h U h
theorem Ok.FO {α:Type} {s:Nat} {f:α->List AV} {l:List α} [hT:ji P T (.slice E)] (h:At Γ g y (.rows s (l.map f)):=by first|exact .tt|exact .ag|exact .c):Ok P H Γ g ⟨d,.call ⟨.builtin .len,#[y],#[T]⟩,ty,p,af,gd⟩ (.int l.length):=Tw hT.h h
theorem Ok.FP {s:Nat} {l:List (List AV)} [hT:ji P T (.slice E)] (h:At Γ g y (.rows s l):=by first|exact .tt|exact .ag|exact .c):Ok P H Γ g ⟨d,.call ⟨.builtin .len,#[y],#[T]⟩,ty,p,af,gd⟩ (.int l.length):=zx hT.h h
theorem Ok.FQ {q:Option Addr} {k cap:Nat} [hT:ji P T (.slice E)] (h:At Γ g y (.val (.slice q k cap)):=by first|exact .tt|exact .ag|exact .c):Ok P H Γ g ⟨d,.call ⟨.builtin .len,#[y],#[T]⟩,ty,p,af,gd⟩ (.int k):=EK hT.h h
theorem Ok.ln {x:AV} (h:Ok P H Γ g ⟨d,.call ⟨.builtin .len,#[y],#[T]⟩,ty,p,af,gd⟩ x:=by first|exact .FO|exact .FP|exact .FQ):Ok P H Γ g ⟨d,.call ⟨.builtin .len,#[y],#[T]⟩,ty,p,af,gd⟩ x:=h
theorem Ok.Lv {α:Type} [Inhabited α] {s:Nat} {ag:Bool} {f:α->List AV} {l:List α} {i:Int} [hT:ji P T (.slice E)] [hE:ea P E ag s m zv] (h:At Γ g y (.rows s (l.map f)):=by first|exact .tt|exact .ag|exact .c) (hi:At Γ g z (.int i):=by first|exact .tt|exact .ag|exact .c) (hb:g=true->0<=i/\i<l.length:=by intro hg;first|omega|assumption|(simp at hg;omega)):Ok P H Γ g ⟨d,.indexAddr T y z,ty,p,af,gd⟩ (.ptr (f (ab l i.toNat))):=fS hT.h hE.h h hi hb
theorem Ok.Lw {α:Type} [Inhabited α] {s:Nat} {ag:Bool} {f:α->List AV} {l:List α} {i:Nat} [hT:ji P T (.slice E)] [hE:ea P E ag s m zv] (h:At Γ g y (.rows s (l.map f)):=by first|exact .tt|exact .ag|exact .c) (hi:At Γ g z (.int (i:Int)):=by first|exact .tt|exact .ag|exact .c) (hb:g=true->i<l.length:=by intro hg;first|omega|assumption|(simp at hg;omega)):Ok P H Γ g ⟨d,.indexAddr T y z,ty,p,af,gd⟩ (.ptr (f (ab l i))):=dS hT.h hE.h h hi hb
theorem Ok.Lx {s:Nat} {ag:Bool} {l:List (List AV)} {i:Int} [hT:ji P T (.slice E)] [hE:ea P E ag s m zv] (h:At Γ g y (.rows s l):=by first|exact .tt|exact .ag|exact .c) (hi:At Γ g z (.int i):=by first|exact .tt|exact .ag|exact .c) (hb:g=true->0<=i/\i<l.length:=by intro hg;first|omega|assumption|(simp at hg;omega)):Ok P H Γ g ⟨d,.indexAddr T y z,ty,p,af,gd⟩ (.ptr (l.getD i.toNat [])):=fZ hT.h hE.h h hi hb
theorem Ok.cl {f:FuncId} {ys:Array Operand} {ts:Array TypeId} {xs:List AV} {res:AV} (hf:Fn P f xs res) (h:∀I a,cP I a Γ->g=true->c8 I xs (ys.map a.eval).toList:=by repeat(first|exact aL|refine aw (by first|exact .tt|exact .ag|exact .c|exact .f|exact .nil (.t rfl)|exact .nil .c) ?_)):Ok P H Γ g ⟨d,.call ⟨.value (.func f),ys,ts⟩,ty,p,af,gd⟩ res:=bY hf h
theorem Ok.c1 {f:FuncId} {t:Nat} {ts:Array TypeId} {x res:AV} (hf:Fn P f [x] res) (h:Env.get t Γ=some x:=by rfl):Ok P H Γ g ⟨d,.call ⟨.value (.func f),#[.tmp t],ts⟩,ty,p,af,gd⟩ res:=bY hf (aw (.t h) aL)
theorem Ok.c2 {f:FuncId} {t u:Nat} {ts:Array TypeId} {x x' res:AV} (hf:Fn P f [x,x'] res) (h:Env.get t Γ=some x:=by rfl) (h':Env.get u Γ=some x':=by rfl):Ok P H Γ g ⟨d,.call ⟨.value (.func f),#[.tmp t,.tmp u],ts⟩,ty,p,af,gd⟩ res:=bY hf (aw (.t h) (aw (.t h') aL))
theorem Ok.c3 {f:FuncId} {t u v:Nat} {ts:Array TypeId} {x x' y' res:AV} (hf:Fn P f [x,x',y'] res) (h:Env.get t Γ=some x:=by rfl) (h':Env.get u Γ=some x':=by rfl) (h2:Env.get v Γ=some y':=by rfl):Ok P H Γ g ⟨d,.call ⟨.value (.func f),#[.tmp t,.tmp u,.tmp v],ts⟩,ty,p,af,gd⟩ res:=bY hf (aw (.t h) (aw (.t h') (aw (.t h2) aL)))
theorem bf.u {sz i o' q:Nat} {lx:List AV} {r:List (Nat×Operand)} {s:List (Nat×List AV)} (k:bf (py sz) Γ g n r s) (hp:py sz i=some (o',q):=by rfl) (h:At Γ g y (.agg lx):=by first|exact .tt|exact .ag|exact .c) (hl:lx.length=q:=by rfl) (ho:Nat.ble (o'+q) n=true:=by rfl):bf (py sz) Γ g n ((i,y)::r) ((o',lx)::s):=bf.s hp hl ho h k
theorem bf.v {sz i o':Nat} {x:AV} {r:List (Nat×Operand)} {s:List (Nat×List AV)} (k:bf (py sz) Γ g n r s) (hp:py sz i=some (o',1):=by rfl) (ho:Nat.ble (o'+1) n=true:=by rfl) (h:At Γ g y x:=by first|exact .tt|exact .ag|exact .c|exact .nil (.t rfl)|exact .nil .c) (hx:x.One:=by first|exact jR rfl|exact j0|exact j1|exact j6|assumption):bf (py sz) Γ g n ((i,y)::r) ((o',[x])::s):=bf.c hp ho h hx k
theorem Ok.li {ag:Bool} {sz len:Nat} (js:List (List AV)) {parts:List (Nat×Operand)} {ps:List (Nat×List AV)} [hT:ji P T (.slice E)] [hE:ea P E ag sz m zv] (qg:∀u∈zv.cells.toList,u.oneCell'=true) (hp:bf (py sz) Γ g (len*sz) parts ps)
 (ga:zv.cells.size=sz:=by rfl) (cK:Nat.blt 0 sz=true:=by rfl) (uE:Nat.ble (len*sz) 16777216=true:=by rfl) (kT:filled (List.replicate (len*sz) AV.any) ps=js.flatten:=by rfl) (hlen:js.length=len:=by rfl) (hr:∀r∈js,r.length=sz:=by first|(simp;done)|(simp[B2];done)|(intro r hr;repeat(first|(rcases List.mem_cons.1 hr with h|hr;·(subst h;rfl))|(simp at hr;done)))):
 Ok P H Γ g ⟨d,.buildSlice T len parts.toArray,ty,p,af,gd⟩ (.rows sz js):=Tu hT.h hE.h ga qg cK uE hp kT hlen hr
theorem Ok.bd {l0:List AV} {parts:List (Nat×Operand)} {ps:List (Nat×List AV)} [hT:ea P T true n m zv] (hz:∀I,bJ I l0 zv.cells.toList) (hp:bf (cI P T) Γ g n parts ps) [hk:oX P T] (hn:l0.length=n:=by rfl):Ok P H Γ g ⟨d,.build T parts.toArray,ty,p,af,gd⟩ (.agg (filled l0 ps)):=Tr hT.h hk.h hz hn hp
theorem bf.k {i o':Nat} {x:AV} {r:List (Nat×Operand)} {s:List (Nat×List AV)} (k:bf (cI P T) Γ g n r s) [hp:dy P T i o' 1] (ho:Nat.ble (o'+1) n=true:=by rfl) (h:At Γ g y x:=by first|exact .tt|exact .ag|exact .c|exact .nil (.t rfl)|exact .nil .c) (hx:x.One:=by first|exact jR rfl|exact j0|exact j1|exact j6|assumption):bf (cI P T) Γ g n ((i,y)::r) ((o',[x])::s):=bf.c hp.h ho h hx k
theorem bf.t {i o' q:Nat} {lx:List AV} {r:List (Nat×Operand)} {s:List (Nat×List AV)} (k:bf (cI P T) Γ g n r s) [hp:dy P T i o' q] (h:At Γ g y (.agg lx):=by first|exact .tt|exact .ag|exact .c) (hl:lx.length=q:=by rfl) (ho:Nat.ble (o'+q) n=true:=by rfl):bf (cI P T) Γ g n ((i,y)::r) ((o',lx)::s):=bf.s hp.h hl ho h k
end
section
variable {P:Program} {c:Ctx} {I:Im} {H:List Own} {Γ:Env} {a:Act} {w:World} {Q:Exit->Act->World->Prop} {ops:Array Oper} {rest os:List Oper} {Hf:List (Act->Own)} {ms:Meta} {tail:List Oper} {M:Act->List Own} {k':Nat} {oo:Oper} {x:AV} {d n m:Nat} {G:Bool} {y z:Operand} {ty T T':TypeId} {p:String} {af:Array Edge} {zv:Value}
theorem nn {N:Act->World->Prop} (h:N a w):wpList P ops (Exit.then N Q) [] a w:=h
theorem sr {id:Nat} {l:List Oper} {c2:Code} (h:wpList P l.toArray (Exit.then (c2.wp P Q) Q) l a w):(Code.seq (.region id l.toArray false) c2).wp P Q a w:=wp_seq (St.region h)
theorem St.cd {cc:Operand} {t e:Code} {b:Bool} (U:St c I H Γ a w) (h1:b=true->t.wp P Q a w) (h2:b=false->e.wp P Q a w) (hc:At Γ true cc (.bool b):=by first|exact .tt|exact .ag|exact .c):(Code.cond cc t e).wp P Q a w:=U.cond hc h1 h2
theorem aS.o (h:∀{F a},Ok P (eC [] a F 0 Hf) (Γ.only (oo.looksAt ops)) true oo x) (k:aS P c ops Q ((oo.dst.getD 0,x)::Γ) Hf os ms) (hg:oo.guard=none:=by rfl) (ho:oo.dst=some (oo.dst.getD 0):=by rfl) (hd:Nat.blt (oo.dst.getD 0) c.n=true:=by rfl):aS P c ops Q Γ Hf (oo::os) (([],none)::ms):=.op hg ho hd (λ_ _=>h) k
theorem aS.r (T:List Nat) (h:∀{F a},Ok P (eC T a F 0 Hf) (Γ.only (oo.looksAt ops)) true oo x) (k:aS P c ops Q ((oo.dst.getD 0,x)::Γ) Hf os ms) (hc:∀F a a',eC T a F 0 Hf=eC T a' F 0 Hf:=by exactλ_ _ _=>rfl) (hg:oo.guard=none:=by rfl) (ho:oo.dst=some (oo.dst.getD 0):=by rfl) (hd:Nat.blt (oo.dst.getD 0) c.n=true:=by rfl):aS P c ops Q Γ Hf (oo::os) ((T,none)::ms):=.Ua T hc hg ho hd (λ_ _=>h) k
theorem mO.o (ok:Ok P H (Γ.only (oo.looksAt ops)) true oo x) (k:mO P c H ops Q tail ((oo.dst.getD 0,x)::Γ) os) (hg:oo.guard=none:=by rfl):mO P c H ops Q tail Γ (oo::os):=.cons (.of hg ok) k
theorem mO.q (hg:jG ops (Γ.only (oo.looksAt ops)) oo G) (ok:Ok P H (Γ.only (oo.looksAt ops)) G oo x) (k:mO P c H ops Q tail ((oo.dst.getD 0,AV.cond G x)::Γ) os):mO P c H ops Q tail Γ (oo::os):=.cons (.BL hg ok) k
theorem gj.o (ok:Ok P H (Γ.only (oo.looksAt ops)) true oo x) (k:gj P c H ops Q tail M (k'+1) ((oo.dst.getD 0,x)::Γ) os) (hg:oo.guard=none:=by rfl):gj P c H ops Q tail M k' Γ (oo::os):=.cons (.of hg ok) k
theorem gj.q (hg:jG ops (Γ.only (oo.looksAt ops)) oo G) (ok:Ok P H (Γ.only (oo.looksAt ops)) G oo x) (k:gj P c H ops Q tail M (k'+1) ((oo.dst.getD 0,AV.cond G x)::Γ) os):gj P c H ops Q tail M k' Γ (oo::os):=.cons (.BL hg ok) k
theorem St.sb {b:Nat} {l lx:List AV} (k:Nat) (U:St c I H Γ a w) (kk:∀{a' w'},St c I (H.set k (Own.box b T' lx)) Γ a' w'->wpList P ops Q rest a' w') [hT:ea P T true n m zv] (hy:At Γ true y (.val (.pointer (some ⟨b,0,none⟩))):=by first|exact .tt|exact .ag|exact .c) (hz:At Γ true z (.agg lx):=by first|exact .tt|exact .ag|exact .c)
 (hk:H[k]?=some (Own.box b T' l):=by rfl) (hn:lx.length=n:=by first|rfl|assumption) (hl:l.length=n:=by rfl):wpList P ops Q (⟨none,.store T y z,ty,p,af,none⟩::rest) a w:=U.Kz k hT.h hy hz hk hn hl λ_ _ h=>kk h
theorem St.s1 {b q:Nat} {l:List AV} (k:Nat) (U:St c I H Γ a w) (kk:∀{a' w'},St c I (H.set k (Own.box b T' (l.set q x))) Γ a' w'->wpList P ops Q rest a' w') [hT:ea P T false 1 m zv] (hy:At Γ true y (.val (.pointer (some ⟨b,q,none⟩))):=by first|exact .tt|exact .ag|exact .c) (hz:At Γ true z x:=by first|exact .tt|exact .ag|exact .c|exact .nil (.t rfl)|exact .nil .c)
 (hx:x.One:=by first|exact jR rfl|exact j0|exact j1|exact j6|assumption) (hk:H[k]?=some (Own.box b T' l):=by rfl) (hq:Nat.ble (q+1) l.length=true:=by rfl):wpList P ops Q (⟨none,.store T y z,ty,p,af,none⟩::rest) a w:=U.BQ k hT.h hy hz hx hk hq λ_ _ h=>kk h
theorem St.ag {σ:Type} {m:oL σ} {μ:σ->Nat} {x:σ} {Γ0:Env} (y:σ) (U:St c I H Γ a w) (aj:m.ok y) (hμ:μ y<μ x:=by first|omega|(simp;omega)) (hH:H=m.own y:=by rfl) (h1:Env.le (m.env y) Γ:=by repeat(first|exact Env.le_nil|refine Env.dK rfl (by first|rfl|(congr 1;done)) ?_)) (h0:Env.le Γ0 Γ:=by repeat(first|exact Env.le_rfl|refine Env.jf rfl ?_)):BI m μ x c Γ0 a w:=U.again y hμ aj hH h1 h0
theorem St.me {σ:Type} {m:oL σ} {Γ0:Env} (y:σ) (U:St c I H Γ a w) (aj:m.ok y) (hH:H=m.own y:=by rfl) (h1:Env.le (m.env y) Γ:=by repeat(first|exact Env.le_nil|refine Env.dK rfl (by first|rfl|(congr 1;done)) ?_)) (h0:Env.le Γ0 Γ:=by repeat(first|exact Env.le_rfl|exact Env.BH|refine Env.jf rfl ?_)):EN m c Γ0 a w:=U.meet y aj hH h1 h0
theorem St.lo {σ:Type} (ms:List Nat) (m:oL σ) (μ:σ->Nat) {body:Code} (x:σ) (U:St c I H Γ a w) (aj:m.ok x) (round:∀x I a w,m.ok x->St c I (m.own x) (m.env x++Env.pr ms Γ) a w->body.wp P (Exit.then (BI m μ x c (Env.pr ms Γ)) Q) a w) (hH:H=m.own x:=by rfl) (h1:Env.le (m.env x) Γ:=by repeat(first|exact Env.le_nil|refine Env.dK rfl (by rfl) ?_)):(Code.loop body).wp P Q a w:=St.EO ms m μ x U hH aj h1 round
theorem St.rt {fn:Func} {rs:List ResultVar} {xs:List AV} {res:AV} (U:St c I H Γ a w) (e:th xs=res) (hr:fn.results=rs.toArray:=by rfl) (h:aX P H Γ rs xs:=by first|exact aX.cons (.t rfl) aX.nil|exact aX.cons (by first|exact .t rfl|exact .nil rfl) aX.nil|exact aX.nil|exact aX.cons (by first|exact .t rfl|exact .nil rfl) (aX.cons (by first|exact .t rfl|exact .nil rfl) aX.nil)|exact aX.cons (by first|exact .t rfl|exact .nil rfl) (aX.cons (by first|exact .t rfl|exact .nil rfl) (aX.cons (by first|exact .t rfl|exact .nil rfl) aX.nil))):bodyPost P fn (vM c.F c.I c.W res) .ret a w:=U.ret hr h e
end
theorem c8.set {I:Im}:∀{l:List AV} {cs:List Value},c8 I l cs->∀{i:Nat} {u:Value} {y:AV},l[i]?=some (.val u)->y.h I u->c8 I (l.set i y) cs
 |[],[],_,i,_,_,hi,_=>by simp at hi
 |x::xs,c::cs,h,0,u,y,hi,hy=>by
  simp at hi;subst hi
  exact⟨by have e:c=u:=h.1;rw[e];exact hy,h.2⟩
 |x::xs,c::cs,h,i+1,u,y,hi,hy=>⟨h.1,c8.set h.2 (by simpa using hi) hy⟩
 |[],_::_,h,_,_,_,_,_=>h.elim
 |_::_,[],h,_,_,_,_,_=>h.elim
def FR:Nat->List AV->Env->Prop
 |_,[],_=>True
 |k,x::r,Γ=>Env.get k Γ=some x/\FR (k+1) r Γ
theorem Ly {I:Im} {Γ:Env}:∀(xs:List AV) (pre vs:List Value),vs.length=xs.length->cP I {tmps:=(pre++vs).toArray,defers:=[]} Γ->FR pre.length xs Γ->c8 I xs vs
 |[],_,[],_,_,_=>trivial
 |x::r,pre,v::vs,hl,he,h=>
  ⟨by simpa using he pre.length x h.1,Ly r (pre++[v]) vs (by simpa using hl) (by simpa using he) (by simpa using h.2)⟩
 |[],_,_::_,hl,_,_=>by simp at hl
 |_::_,_,[],hl,_,_=>by simp at hl
theorem Lz {I:Im} {l:List AV} {vs:Array Value} (h:c8 I l vs.toList):cP I {tmps:=vs,defers:=[]} (mK 0 l):=λt x e=>by
 have:=zy l vs.toList [] [] h t x e
 simpa using this
section
variable {P:Program} {c:Ctx} {I:Im} {H:List Own} {Γ:Env} {a:Act} {w:World} {E T:TypeId} {v:Value} {sz:Nat} {l:List (List AV)} {u xs rM:List AV} {b:Nat} {x y res xJ:AV} {f:FuncId}
theorem St.LA {t:Nat} (U:St c I H Γ a w) (h:∀v,x.h I v->y.h I v) (ht:Env.get t Γ=some x):St c I H ((t,y)::Γ) a w:=
 ⟨U.step,U.own,λs z e=>by
  simp only[Env.get] at e
  cases hb:Nat.beq t s with
  |true=>rw[hb] at e;obtain rfl:t=s:=Nat.eq_of_beq_eq_true hb;simp at e;subst e;exact h _ (U.env t x ht)
  |false=>rw[hb] at e;exact U.env s z (by simpa using e),U.size,U.defers⟩
theorem St.fa (k t q:Nat) (U:St c I H Γ a w) (hk:H[k]?=some (Own.row v E sz l):=by rfl) (ht:Env.get t Γ=some (.agg xs):=by rfl) (hq:xs[q]?=some (.val v):=by rfl):∃I',St c I' (H.set k Own.gone) ((t,.agg (xs.set q (.rows sz l)))::Γ) a w:=
 let⟨I',h,hf⟩:=U.uC k hk
 ⟨I',h.LA (λ_ hx=>Lo q hq hf hx) ht⟩
theorem St.fc (k t i:Nat) {gM:List AV} (U:St c I H Γ a w) (hk:H[k]?=some (Own.box b T u):=by rfl) (ht:Env.get t Γ=some (.fn f gM):=by rfl) (hi:gM[i]?=some (.val (.pointer (some ⟨b,0,none⟩))):=by rfl):∃I',St c I' (H.set k Own.gone) ((t,.fn f (gM.set i (.ptr u)))::Γ) a w:=
 let⟨I',h,hf⟩:=U.KK k hk
 ⟨I',h.LA (x:=.fn f gM) (y:=.fn f (gM.set i (.ptr u))) (λ_ ⟨cs,e,hc⟩=>⟨cs,e,hc.set hi hf⟩) ht⟩
theorem c7.frozen {α:Type} {args:List AV} {ok:α->Prop} {h1:α->List Own} {r:α->AV} (h:c7 P f args [] ok h1 r) (fz:∀x c I a w,ok x->St c I (h1 x) [(0,r x)] a w->∃I2 H2 Γ2,St c I2 H2 ((0,xJ)::Γ2) a w):Fn P f args xJ:=
 ⟨h.1,λI w vs hm ha=>(h.2 I w vs hm (cj.nil _ _ _) ha).mono λe w' he=>by
   cases e with
   |panicked _=>exact he.elim
   |outgrown=>exact he.elim
   |returned v=>
    obtain⟨x,I',aj,bc,ho,hx⟩:=he
    obtain⟨I2,H2,Γ2,U⟩:=fz x ⟨w,I,1,eE []⟩ I' {tmps:=#[v],defers:=[]} w' aj ⟨bc,ho,Lz (l:=[r x]) (vs:=#[v]) ⟨hx,trivial⟩,rfl,rfl⟩
    exact⟨I2,fC.none U.step,by simpa using U.env 0 xJ rfl⟩⟩
theorem Ci {g:Bool} {d:Option Tmp} {ys:Array Operand} {ts:Array TypeId} {ty:TypeId} {p:String} {af:Array Edge} {gd:Option (Nat×Bool)} (hf:Fn P f rM res) (h:∀I a,cP I a Γ->g=true->c8 I xs (ys.map a.eval).toList)
 (fz:∀c I a w,St c I H (mK 0 xs) a w->∃I2 H2 Γ2,St c I2 H2 Γ2 a w/\FR 0 rM Γ2) (z7:∀I J u,res.h I u->res.h J u:=by exactλ_ _ _ h=>h) (hn:rM.length=xs.length:=by rfl):Ok P H Γ g ⟨d,.call ⟨.value (.func f),ys,ts⟩,ty,p,af,gd⟩ res:=
 λbase I a w K Q he hm hw hg kk=>by
  have h0:=h I a he hg
  obtain⟨I2,H2,Γ2,dC,LB⟩:=fz ⟨w,I,(ys.map a.eval).size,λ_=>True⟩ I {tmps:=ys.map a.eval,defers:=[]} w ⟨fC.refl hm,hw.weaken λb _=>.inr trivial,Lz h0,rfl,rfl⟩
  have hx:=Ly rM [] (ys.map a.eval).toList (by rw[h0.length,hn]) (by rw[List.nil_append,Array.toArray_toList];exact dC.env) LB
  have hle:Im.le I I2:=dC.step.le
  have hc:=hf.2 I2 w (ys.map a.eval) dC.step.c9 hx
  unfold Oper.wp
  have hr:(execOp a.eval (⟨d,.call ⟨.value (.func f),ys,ts⟩,ty,p,af,gd⟩:Oper)).run P w=.ok (.enter f (ys.map a.eval)) w:=by
   simp only[execOp,resolve,Act.eval]
   simp[go_sem,hf.1 _ w]
  rw[hr,Oper.upon_enter]
  refine Calls.mono hc λe w' he=>?_
  cases e with
  |returned u=>
   obtain⟨I3,U,hx⟩:=he
   refine kk u (λb=>if b<w.heap.size then I b else I3 b) w' (z7 _ _ _ hx) ⟨λb cs e=>?_,λb hb=>if_pos hb,λb cs e=>?_,U.below⟩
   ·show(if b<w.heap.size then I b else I3 b)=_
    rw[if_pos (hm.lt e)];exact e
   ·change(if b<w.heap.size then I b else I3 b)=some cs at e
    split at e
    ·exact U.c9 b cs (U.le b cs (hle b cs e))
    ·exact U.c9 b cs e
  |panicked _=>exact he.elim
  |outgrown=>exact he.elim
end
section
variable {P:Program} {c:Ctx} {I:Im} {H:List Own} {Γ:Env} {a:Act} {w:World} {Q:Exit->Act->World->Prop} {ops:Array Oper} {rest:List Oper} {o:Oper} {x:AV} {g G:Bool} {y z y2:Operand} {ty T T':TypeId} {p:String} {af:Array Edge} {n m f:Nat} {zv:Value} {d:Option Tmp} {gd:Option (Nat×Bool)} {bo:BinOp} {uo:UnOp} {cc:Go.Call}
theorem Ok.LC {m n:Int} (hy:At Γ g y (.int m):=by first|exact .tt|exact .c|exact .ag) (hz:At Γ g z (.int n):=by first|exact .tt|exact .c|exact .ag):Ok P H Γ g ⟨d,.binOp .eql T y z T',ty,p,af,gd⟩ (.bool (m==n)):=SR hy hz
theorem Ok.LD {m n:Int} (hy:At Γ g y (.int m):=by first|exact .tt|exact .c|exact .ag) (hz:At Γ g z (.int n):=by first|exact .tt|exact .c|exact .ag):Ok P H Γ g ⟨d,.binOp .neq T y z T',ty,p,af,gd⟩ (.bool (m !=n)):=SS hy hz
theorem Ok.LF {m n:Int} (hy:At Γ g y (.int m):=by first|exact .tt|exact .c|exact .ag) (hz:At Γ g z (.int n):=by first|exact .tt|exact .c|exact .ag):Ok P H Γ g ⟨d,.binOp .lss T y z T',ty,p,af,gd⟩ (.bool (decide (m<n))):=Kb hy hz
theorem Ok.LG {m n:Int} (hy:At Γ g y (.int m):=by first|exact .tt|exact .c|exact .ag) (hz:At Γ g z (.int n):=by first|exact .tt|exact .c|exact .ag):Ok P H Γ g ⟨d,.binOp .leq T y z T',ty,p,af,gd⟩ (.bool (decide (m<=n))):=Kc hy hz
theorem Ok.LH {m n:Int} (hy:At Γ g y (.int m):=by first|exact .tt|exact .c|exact .ag) (hz:At Γ g z (.int n):=by first|exact .tt|exact .c|exact .ag):Ok P H Γ g ⟨d,.binOp .gtr T y z T',ty,p,af,gd⟩ (.bool (decide (n<m))):=Kd hy hz
theorem Ok.LI {m n:Int} (hy:At Γ g y (.int m):=by first|exact .tt|exact .c|exact .ag) (hz:At Γ g z (.int n):=by first|exact .tt|exact .c|exact .ag):Ok P H Γ g ⟨d,.binOp .geq T y z T',ty,p,af,gd⟩ (.bool (decide (n<=m))):=Ke hy hz
theorem Ok.FT {m n:Int} (hy:At Γ g y (.int m):=by first|exact .tt|exact .c|exact .ag) (hz:At Γ g z (.int n):=by first|exact .tt|exact .c|exact .ag) (hb:g=true->-9223372036854775808<=m+n/\m+n<=9223372036854775807:=by intro hg;first|omega|(simp at hg;omega)):Ok P H Γ g ⟨d,.binOp .add T y z T',ty,p,af,gd⟩ (.int (m+n)):=kS hy hz hb
theorem Ok.FU {m n:Int} (hy:At Γ g y (.int m):=by first|exact .tt|exact .c|exact .ag) (hz:At Γ g z (.int n):=by first|exact .tt|exact .c|exact .ag) (hb:g=true->-9223372036854775808<=m-n/\m-n<=9223372036854775807:=by intro hg;first|omega|(simp at hg;omega)):Ok P H Γ g ⟨d,.binOp .sub T y z T',ty,p,af,gd⟩ (.int (m-n)):=Ka hy hz hb
theorem Ok.LJ {aa:Operand} {b x:Bool} (hc:At Γ g y (.bool b):=by first|exact .tt|exact .ag) (ha:At Γ g aa (.cond b (.bool x)):=by exact .pc):Ok P H Γ g ⟨d,.pick y aa (.const (.bool false)),ty,p,af,gd⟩ (.bool (b&&x)):=SP hc ha .c
theorem Ok.LK {bb:Operand} {b x:Bool} (hc:At Γ g y (.bool b):=by first|exact .tt|exact .ag) (hb:At Γ g bb (.cond (!b) (.bool x)):=by exact .pc):Ok P H Γ g ⟨d,.pick y (.const (.bool true)) bb,ty,p,af,gd⟩ (.bool (b||x)):=SQ hc .c hb
theorem Ok.kM (h:Ok P H Γ g ⟨d,.move y,ty,p,af,gd⟩ x):Ok P H Γ g ⟨d,.move y,ty,p,af,gd⟩ x:=h
theorem Ok.kL (h:Ok P H Γ g ⟨d,.load T y,ty,p,af,gd⟩ x):Ok P H Γ g ⟨d,.load T y,ty,p,af,gd⟩ x:=h
theorem Ok.kF (h:Ok P H Γ g ⟨d,.fieldAddr T y f,ty,p,af,gd⟩ x):Ok P H Γ g ⟨d,.fieldAddr T y f,ty,p,af,gd⟩ x:=h
theorem Ok.kA (h:Ok P H Γ g ⟨d,.assign y,ty,p,af,gd⟩ x):Ok P H Γ g ⟨d,.assign y,ty,p,af,gd⟩ x:=h
theorem Ok.LL (h:Ok P H Γ g ⟨d,.binOp .eql T y z T',ty,p,af,gd⟩ x):Ok P H Γ g ⟨d,.binOp .eql T y z T',ty,p,af,gd⟩ x:=h
theorem Ok.LM (h:Ok P H Γ g ⟨d,.binOp .lss T y z T',ty,p,af,gd⟩ x):Ok P H Γ g ⟨d,.binOp .lss T y z T',ty,p,af,gd⟩ x:=h
theorem Ok.kP (h:Ok P H Γ g ⟨d,.pick y z y2,ty,p,af,gd⟩ x):Ok P H Γ g ⟨d,.pick y z y2,ty,p,af,gd⟩ x:=h
theorem Ok.kC (h:Ok P H Γ g ⟨d,.call cc,ty,p,af,gd⟩ x):Ok P H Γ g ⟨d,.call cc,ty,p,af,gd⟩ x:=h
theorem Ok.kI (h:Ok P H Γ g ⟨d,.indexAddr T y z,ty,p,af,gd⟩ x):Ok P H Γ g ⟨d,.indexAddr T y z,ty,p,af,gd⟩ x:=h
theorem Ok.LN (h:Ok P H Γ g ⟨d,.binOp .add T y z T',ty,p,af,gd⟩ x):Ok P H Γ g ⟨d,.binOp .add T y z T',ty,p,af,gd⟩ x:=h
theorem Ok.kX (h:Ok P H Γ g ⟨d,.box T y,ty,p,af,gd⟩ x):Ok P H Γ g ⟨d,.box T y,ty,p,af,gd⟩ x:=h
theorem Ok.kN (h:Ok P H Γ g ⟨d,.unOp uo T y,ty,p,af,gd⟩ x):Ok P H Γ g ⟨d,.unOp uo T y,ty,p,af,gd⟩ x:=h
theorem Ok.kZ (h:Ok P H Γ g ⟨d,.nilCheck y,ty,p,af,gd⟩ x):Ok P H Γ g ⟨d,.nilCheck y,ty,p,af,gd⟩ x:=h
theorem Ok.kE (h:Ok P H Γ g ⟨d,.extract y f,ty,p,af,gd⟩ x):Ok P H Γ g ⟨d,.extract y f,ty,p,af,gd⟩ x:=h
theorem Ok.LO (h:Ok P H Γ g ⟨d,.binOp .gtr T y z T',ty,p,af,gd⟩ x):Ok P H Γ g ⟨d,.binOp .gtr T y z T',ty,p,af,gd⟩ x:=h
theorem Ok.LP (h:Ok P H Γ g ⟨d,.binOp .neq T y z T',ty,p,af,gd⟩ x):Ok P H Γ g ⟨d,.binOp .neq T y z T',ty,p,af,gd⟩ x:=h
theorem Ok.LQ (h:Ok P H Γ g ⟨d,.binOp .sub T y z T',ty,p,af,gd⟩ x):Ok P H Γ g ⟨d,.binOp .sub T y z T',ty,p,af,gd⟩ x:=h
theorem Ok.LR (h:Ok P H Γ g ⟨d,.binOp .leq T y z T',ty,p,af,gd⟩ x):Ok P H Γ g ⟨d,.binOp .leq T y z T',ty,p,af,gd⟩ x:=h
theorem Ok.LS (h:Ok P H Γ g ⟨d,.binOp .geq T y z T',ty,p,af,gd⟩ x):Ok P H Γ g ⟨d,.binOp .geq T y z T',ty,p,af,gd⟩ x:=h
theorem Ok.zo (h:Ok P H Γ g o x:=by
 first
 |(apply Ok.kM;first|exact .mv|exact zs .c)
 |(apply Ok.kL;first|exact .l1|exact .lb 0|exact .FM|exact .FN|exact .ls 0|exact .lb 1|exact .ls 1|exact .lb 2|exact .ls 2|exact .lb 3|exact .ls 3|exact .lb 4|exact .ls 4|exact .lb 5|exact .ls 5|exact .lb 6|exact .ls 6)
 |(apply Ok.kF;first|exact .fp|exact .fv)
 |(apply Ok.kA;first|exact .as|exact ux .c)
 |(apply Ok.LL;exact .LC)
 |(apply Ok.LM;exact .LF)
 |(apply Ok.kP;first|exact .LK|exact .LJ)
 |(apply Ok.kC;first|exact .FO|exact .FP|exact .FQ)
 |(apply Ok.kI;first|exact .Lw|exact .Lv|exact .Lx)
 |(apply Ok.LN;exact .FT)
 |(apply Ok.kX;exact .bp)
 |(apply Ok.kN;exact .nt)
 |(apply Ok.kZ;exact .nl)
 |(apply Ok.kE;exact .e)
 |(apply Ok.LO;exact .LH)
 |(apply Ok.LP;exact .LD)
 |(apply Ok.LQ;exact .FU)
 |(apply Ok.LR;exact .LG)
 |(apply Ok.LS;exact .LI)):Ok P H Γ g o x:=h
theorem Ok.zp (h:Ok P H Γ g o x:=by
 first
 |(apply Ok.kM;first|exact .mx .ag|exact .mv|exact zs .c)
 |(apply Ok.kL;first|exact .lx .ag|exact .Ac 0 .ag|exact .Ac 1 .ag|exact .Ac 2 .ag|exact .Ac 3 .ag|exact .Ac 4 .ag|exact .l1|exact .lb 0|exact .FM|exact .FN|exact .ls 0|exact .lb 1|exact .ls 1|exact .lb 2|exact .ls 2|exact .lb 3|exact .ls 3|exact .lb 4|exact .ls 4|exact .lb 5|exact .ls 5|exact .lb 6|exact .ls 6)
 |(apply Ok.kF;first|exact .fx .ag|exact .UG .ag|exact .fp|exact .fv)
 |(apply Ok.kA;first|exact .UD .ag|exact .as|exact ux .c)
 |(apply Ok.LL;exact .LC)
 |(apply Ok.LM;exact .LF)
 |(apply Ok.kP;first|exact .LK|exact .LJ)
 |(apply Ok.kC;first|exact .FO|exact .FP|exact .FQ)
 |(apply Ok.kI;first|exact .Lw|exact .Lv|exact .Lx)
 |(apply Ok.LN;exact .FT)
 |(apply Ok.kX;exact .bp)
 |(apply Ok.kN;first|exact .UE .ag|exact .nt)
 |(apply Ok.kZ;exact .nl)
 |(apply Ok.kE;exact .e)
 |(apply Ok.LO;exact .LH)
 |(apply Ok.LP;exact .LD)
 |(apply Ok.LQ;exact .FU)
 |(apply Ok.LR;exact .LG)
 |(apply Ok.LS;exact .LI)):Ok P H Γ g o x:=h
theorem jG.zg {b:Bool} (h:jG ops Γ o b:=by first|exact .T|exact .F|exact .T2|exact .F2):jG ops Γ o b:=h
theorem St.oy {d:Nat} {op:Op} (U:St c I H Γ a w) (hd:Nat.blt d c.n=true) (ok:Ok P H Γ true ⟨some d,op,ty,p,af,none⟩ x) (k:∀I' a' w',St c I' H ((d,x)::Γ) a' w'->wpList P ops Q rest a' w'):wpList P ops Q (⟨some d,op,ty,p,af,none⟩::rest) a w:=U.op rfl rfl hd ok k
theorem St.qy {d:Nat} {op:Op} {gd:Nat×Bool} (U:St c I H Γ a w) (hd:Nat.blt d c.n=true) (hg:jG ops Γ ⟨some d,op,ty,p,af,some gd⟩ G) (ok:Ok P H Γ G ⟨some d,op,ty,p,af,some gd⟩ x) (k:∀I' a' w',St c I' H ((d,.cond G x)::Γ) a' w'->wpList P ops Q rest a' w'):wpList P ops Q (⟨some d,op,ty,p,af,some gd⟩::rest) a w:=U.BK hg rfl hd ok k
theorem St.sz {b:Nat} {l lx:List AV} (k:Nat) (U:St c I H Γ a w) (kk:∀I' a' w',St c I' (H.set k (Own.box b T' lx)) Γ a' w'->wpList P ops Q rest a' w') [hT:ea P T true n m zv] (hy:At Γ true y (.val (.pointer (some ⟨b,0,none⟩))):=by first|exact .tt|exact .ag|exact .c) (hz:At Γ true z (.agg lx):=by first|exact .tt|exact .ag|exact .c)
 (hk:H[k]?=some (Own.box b T' l):=by rfl) (hn:lx.length=n:=by first|rfl|assumption) (hl:l.length=n:=by rfl):wpList P ops Q (⟨none,.store T y z,ty,p,af,none⟩::rest) a w:=U.Kz k hT.h hy hz hk hn hl λ_ _ h=>kk _ _ _ h
theorem St.sy {b q:Nat} {l:List AV} (k:Nat) (U:St c I H Γ a w) (kk:∀I' a' w',St c I' (H.set k (Own.box b T' (l.set q x))) Γ a' w'->wpList P ops Q rest a' w') [hT:ea P T false 1 m zv] (hy:At Γ true y (.val (.pointer (some ⟨b,q,none⟩))):=by first|exact .tt|exact .ag|exact .c) (hz:At Γ true z x:=by first|exact .tt|exact .ag|exact .c|exact .nil (.t rfl)|exact .nil .c)
 (hx:x.One:=by first|exact jR rfl|exact j0|exact j1|exact j6|assumption) (hk:H[k]?=some (Own.box b T' l):=by rfl) (hq:Nat.ble (q+1) l.length=true:=by rfl):wpList P ops Q (⟨none,.store T y z,ty,p,af,none⟩::rest) a w:=U.BQ k hT.h hy hz hx hk hq λ_ _ h=>kk _ _ _ h
theorem j5.oo {os:List Oper} {d:Nat} {op:Op} (hg:d=d) (ok:Ok P H (Γ.only ((⟨some d,op,ty,p,af,none⟩:Oper).looksAt ops)) true ⟨some d,op,ty,p,af,none⟩ x) (k:j5 P c H ops Q ((d,x)::Γ) os):j5 P c H ops Q Γ (⟨some d,op,ty,p,af,none⟩::os):=.cons (.of rfl ok) k
theorem j5.qq {os:List Oper} {d:Nat} {op:Op} {gd:Nat×Bool} (hg:jG ops (Γ.only ((⟨some d,op,ty,p,af,some gd⟩:Oper).looksAt ops)) ⟨some d,op,ty,p,af,some gd⟩ G) (ok:Ok P H (Γ.only ((⟨some d,op,ty,p,af,some gd⟩:Oper).looksAt ops)) G ⟨some d,op,ty,p,af,some gd⟩ x) (k:j5 P c H ops Q ((d,.cond G x)::Γ) os):j5 P c H ops Q Γ (⟨some d,op,ty,p,af,some gd⟩::os):=.cons (.BL hg ok) k
theorem UH (h:wpList P ops Q (⟨none,.store T y z,ty,p,af,none⟩::rest) a w):wpList P ops Q (⟨none,.store T y z,ty,p,af,none⟩::rest) a w:=h
end
structure Hid (Q:Prop):Prop where
 out:Q
theorem zz {P Q:Prop} (k:Q) (h:Hid Q->P:=by
 intro gk
 (with_reducible (repeat(first|refine nn ?_|refine sr ?_|refine aY ?_|refine wp_seq ?_|refine wp_block ?_|refine St.region ?_|refine wpList_nil ?_|refine zA ?_|refine wp_skip ?_)))
 first
 |(apply St.oy U;rfl;exact .zo;intro I a w U)
 |(apply St.qy U;rfl;exact .zg;exact .zp;intro I a w U)
 |(refine UH ?_;first|refine U.sy 0 (λI a w U=>?_)|refine U.sz 0 (λI a w U=>?_)|refine U.sy 1 (λI a w U=>?_)|refine U.sz 1 (λI a w U=>?_)|refine U.sy 2 (λI a w U=>?_)|refine U.sz 2 (λI a w U=>?_)|refine U.sy 3 (λI a w U=>?_)|refine U.sz 3 (λI a w U=>?_)|refine U.sy 4 (λI a w U=>?_)|refine U.sz 4 (λI a w U=>?_)|refine U.sz 5 (λI a w U=>?_)|refine U.sz 6 (λI a w U=>?_))
 |(refine U.dk ?_;(repeat(first|(apply j5.oo;rfl;exact .zo)|(apply j5.qq;exact .zg;exact .zp)));refine .nil ?_;intro I a w U)
 revert I a w
 exact gk.out):P:=h ⟨k⟩
theorem zk {P Q:Prop} (k:Q) (h:Hid Q->P:=by
 intro gk
 first|(apply j5.oo;rfl;exact .zo)|(apply j5.qq;exact .zg;exact .zp)|refine .o .zo ?_|refine .q .zg .zp ?_
 exact gk.out):P:=h ⟨k⟩
theorem bH {P Q:Prop} (k:Q) (h:Hid Q->P:=by intro gk;(iterate 1 (refine zz λI a w U=>?_));revert I a w;exact gk.out):P:=h ⟨k⟩
theorem aF {P Q:Prop} (k:Q) (h:Hid Q->P:=by intro gk;(iterate 2 (refine zz λI a w U=>?_));revert I a w;exact gk.out):P:=h ⟨k⟩
theorem bk {P Q:Prop} (k:Q) (h:Hid Q->P:=by intro gk;(iterate 3 (refine zz λI a w U=>?_));revert I a w;exact gk.out):P:=h ⟨k⟩
theorem bt {P Q:Prop} (k:Q) (h:Hid Q->P:=by intro gk;(iterate 4 (refine zz λI a w U=>?_));revert I a w;exact gk.out):P:=h ⟨k⟩
theorem bM {P Q:Prop} (k:Q) (h:Hid Q->P:=by intro gk;(iterate 5 (refine zz λI a w U=>?_));revert I a w;exact gk.out):P:=h ⟨k⟩
theorem dD {P Q:Prop} (k:Q) (h:Hid Q->P:=by intro gk;(iterate 6 (refine zz λI a w U=>?_));revert I a w;exact gk.out):P:=h ⟨k⟩
theorem gz {P Q:Prop} (k:Q) (h:Hid Q->P:=by intro gk;(iterate 7 (refine zz λI a w U=>?_));revert I a w;exact gk.out):P:=h ⟨k⟩
theorem lE {P Q:Prop} (k:Q) (h:Hid Q->P:=by intro gk;(iterate 8 (refine zz λI a w U=>?_));revert I a w;exact gk.out):P:=h ⟨k⟩
theorem xZ {P Q:Prop} (k:Q) (h:Hid Q->P:=by intro gk;(iterate 9 (refine zz λI a w U=>?_));revert I a w;exact gk.out):P:=h ⟨k⟩
theorem uO {P Q:Prop} (k:Q) (h:Hid Q->P:=by intro gk;(iterate 10 (refine zz λI a w U=>?_));revert I a w;exact gk.out):P:=h ⟨k⟩
theorem Ad {P Q:Prop} (k:Q) (h:Hid Q->P:=by intro gk;(iterate 11 (refine zz λI a w U=>?_));revert I a w;exact gk.out):P:=h ⟨k⟩
theorem Cj {P Q:Prop} (k:Q) (h:Hid Q->P:=by intro gk;(iterate 12 (refine zz λI a w U=>?_));revert I a w;exact gk.out):P:=h ⟨k⟩
theorem wq {P Q:Prop} (k:Q) (h:Hid Q->P:=by intro gk;(iterate 13 (refine zz λI a w U=>?_));revert I a w;exact gk.out):P:=h ⟨k⟩
theorem UI {P Q:Prop} (k:Q) (h:Hid Q->P:=by intro gk;(iterate 14 (refine zz λI a w U=>?_));revert I a w;exact gk.out):P:=h ⟨k⟩
theorem Ck {P Q:Prop} (k:Q) (h:Hid Q->P:=by intro gk;(iterate 15 (refine zz λI a w U=>?_));revert I a w;exact gk.out):P:=h ⟨k⟩
theorem UJ {P Q:Prop} (k:Q) (h:Hid Q->P:=by intro gk;(iterate 16 (refine zz λI a w U=>?_));revert I a w;exact gk.out):P:=h ⟨k⟩
theorem LU {P Q:Prop} (k:Q) (h:Hid Q->P:=by intro gk;(iterate 17 (refine zz λI a w U=>?_));revert I a w;exact gk.out):P:=h ⟨k⟩
theorem LV {P Q:Prop} (k:Q) (h:Hid Q->P:=by intro gk;(iterate 19 (refine zz λI a w U=>?_));revert I a w;exact gk.out):P:=h ⟨k⟩
theorem UK {P Q:Prop} (k:Q) (h:Hid Q->P:=by intro gk;(iterate 20 (refine zz λI a w U=>?_));revert I a w;exact gk.out):P:=h ⟨k⟩
theorem LW {P Q:Prop} (k:Q) (h:Hid Q->P:=by intro gk;(iterate 21 (refine zz λI a w U=>?_));revert I a w;exact gk.out):P:=h ⟨k⟩
theorem UL {P Q:Prop} (k:Q) (h:Hid Q->P:=by intro gk;(iterate 22 (refine zz λI a w U=>?_));revert I a w;exact gk.out):P:=h ⟨k⟩
theorem UM {P Q:Prop} (k:Q) (h:Hid Q->P:=by intro gk;(iterate 23 (refine zz λI a w U=>?_));revert I a w;exact gk.out):P:=h ⟨k⟩
theorem UN {P Q:Prop} (k:Q) (h:Hid Q->P:=by intro gk;(iterate 24 (refine zz λI a w U=>?_));revert I a w;exact gk.out):P:=h ⟨k⟩
theorem UO {P Q:Prop} (k:Q) (h:Hid Q->P:=by intro gk;(iterate 27 (refine zz λI a w U=>?_));revert I a w;exact gk.out):P:=h ⟨k⟩
theorem FV {P Q:Prop} (k:Q) (h:Hid Q->P:=by intro gk;(iterate 32 (refine zz λI a w U=>?_));revert I a w;exact gk.out):P:=h ⟨k⟩
theorem zt {P Q:Prop} (k:Q) (h:Hid Q->P:=by
 intro gk
 (with_reducible (repeat(first|refine nn ?_|refine sr ?_|refine aY ?_|refine wp_seq ?_|refine wp_block ?_|refine St.region ?_|refine wpList_nil ?_|refine zA ?_|refine wp_skip ?_|refine wp_ret ?_|refine xK ?_|refine vN ?_|refine wp_exit ?_|refine cN ?_|refine gw ?_|refine SY rfl ?_)))
 exact gk.out):P:=h ⟨k⟩
theorem cz {P Q R:Prop} (k:Q) (l:R) (h:Hid Q->Hid R->P:=by
 intro gk gl
 refine U.cd (λgb=>?_) (λgb=>?_)
 ·(try simp only[B] at gb)
  revert gb;exact gk.out
 ·(try simp only[B] at gb)
  revert gb;exact gl.out):P:=h ⟨k⟩ ⟨l⟩
theorem nw {P Q R:Prop} (k:Q) (l:R) (h:Hid Q->Hid R->P:=by
 intro gk gl
 refine U.cd (λgb=>?_) (λgb=>?_)
 ·(try simp only[B] at gb)
  revert gb;exact gk.out
 ·revert gb;exact gl.out):P:=h ⟨k⟩ ⟨l⟩
theorem Cl {P Q R:Prop} (k:Q) (l:R) (h:Hid Q->Hid R->P:=by
 intro gk gl
 refine U.cd (λgb=>?_) (λgb=>?_)
 ·revert gb;exact gk.out
 ·(try simp only[B] at gb)
  revert gb;exact gl.out):P:=h ⟨k⟩ ⟨l⟩
theorem ai {P Q:Prop} (k:Q) (h:Hid Q->P:=by intro gk;(iterate 1 (refine zz λI a w U=>?_));refine zt ?_;revert I a w;exact gk.out):P:=h ⟨k⟩
theorem aA {P Q:Prop} (k:Q) (h:Hid Q->P:=by intro gk;(iterate 2 (refine zz λI a w U=>?_));refine zt ?_;revert I a w;exact gk.out):P:=h ⟨k⟩
theorem aI {P Q:Prop} (k:Q) (h:Hid Q->P:=by intro gk;(iterate 3 (refine zz λI a w U=>?_));refine zt ?_;revert I a w;exact gk.out):P:=h ⟨k⟩
theorem aU {P Q:Prop} (k:Q) (h:Hid Q->P:=by intro gk;(iterate 4 (refine zz λI a w U=>?_));refine zt ?_;revert I a w;exact gk.out):P:=h ⟨k⟩
theorem ck {P Q:Prop} (k:Q) (h:Hid Q->P:=by intro gk;(iterate 5 (refine zz λI a w U=>?_));refine zt ?_;revert I a w;exact gk.out):P:=h ⟨k⟩
theorem jj {P Q:Prop} (k:Q) (h:Hid Q->P:=by intro gk;(iterate 6 (refine zz λI a w U=>?_));refine zt ?_;revert I a w;exact gk.out):P:=h ⟨k⟩
theorem jT {P Q:Prop} (k:Q) (h:Hid Q->P:=by intro gk;(iterate 7 (refine zz λI a w U=>?_));refine zt ?_;revert I a w;exact gk.out):P:=h ⟨k⟩
theorem ob {P Q:Prop} (k:Q) (h:Hid Q->P:=by intro gk;(iterate 8 (refine zz λI a w U=>?_));refine zt ?_;revert I a w;exact gk.out):P:=h ⟨k⟩
theorem mA {P Q:Prop} (k:Q) (h:Hid Q->P:=by intro gk;(iterate 9 (refine zz λI a w U=>?_));refine zt ?_;revert I a w;exact gk.out):P:=h ⟨k⟩
theorem wu {P Q:Prop} (k:Q) (h:Hid Q->P:=by intro gk;(iterate 10 (refine zz λI a w U=>?_));refine zt ?_;revert I a w;exact gk.out):P:=h ⟨k⟩
theorem Cm {P Q:Prop} (k:Q) (h:Hid Q->P:=by intro gk;(iterate 11 (refine zz λI a w U=>?_));refine zt ?_;revert I a w;exact gk.out):P:=h ⟨k⟩
theorem Ae {P Q:Prop} (k:Q) (h:Hid Q->P:=by intro gk;(iterate 12 (refine zz λI a w U=>?_));refine zt ?_;revert I a w;exact gk.out):P:=h ⟨k⟩
theorem Cn {P Q:Prop} (k:Q) (h:Hid Q->P:=by intro gk;(iterate 13 (refine zz λI a w U=>?_));refine zt ?_;revert I a w;exact gk.out):P:=h ⟨k⟩
theorem UP {P Q:Prop} (k:Q) (h:Hid Q->P:=by intro gk;(iterate 14 (refine zz λI a w U=>?_));refine zt ?_;revert I a w;exact gk.out):P:=h ⟨k⟩
theorem UQ {P Q:Prop} (k:Q) (h:Hid Q->P:=by intro gk;(iterate 15 (refine zz λI a w U=>?_));refine zt ?_;revert I a w;exact gk.out):P:=h ⟨k⟩
theorem FW {P Q:Prop} (k:Q) (h:Hid Q->P:=by intro gk;(iterate 17 (refine zz λI a w U=>?_));refine zt ?_;revert I a w;exact gk.out):P:=h ⟨k⟩
theorem LX {P Q:Prop} (k:Q) (h:Hid Q->P:=by intro gk;(iterate 19 (refine zz λI a w U=>?_));refine zt ?_;revert I a w;exact gk.out):P:=h ⟨k⟩
theorem FX {P Q:Prop} (k:Q) (h:Hid Q->P:=by intro gk;(iterate 20 (refine zz λI a w U=>?_));refine zt ?_;revert I a w;exact gk.out):P:=h ⟨k⟩
theorem UR {P Q:Prop} (k:Q) (h:Hid Q->P:=by intro gk;(iterate 22 (refine zz λI a w U=>?_));refine zt ?_;revert I a w;exact gk.out):P:=h ⟨k⟩
theorem Co {P Q:Prop} (k:Q) (h:Hid Q->P:=by intro gk;(iterate 23 (refine zz λI a w U=>?_));refine zt ?_;revert I a w;exact gk.out):P:=h ⟨k⟩
theorem US {P Q:Prop} (k:Q) (h:Hid Q->P:=by intro gk;(iterate 29 (refine zz λI a w U=>?_));refine zt ?_;revert I a w;exact gk.out):P:=h ⟨k⟩
theorem LY {P Q:Prop} (k:Q) (h:Hid Q->P:=by intro gk;(iterate 31 (refine zz λI a w U=>?_));refine zt ?_;revert I a w;exact gk.out):P:=h ⟨k⟩
theorem bn {P Q:Prop} (k:Q) (h:Hid Q->P:=by intro gk;(iterate 1 (refine zk ?_));exact gk.out):P:=h ⟨k⟩
theorem bT {P Q:Prop} (k:Q) (h:Hid Q->P:=by intro gk;(iterate 2 (refine zk ?_));exact gk.out):P:=h ⟨k⟩
theorem cD {P Q:Prop} (k:Q) (h:Hid Q->P:=by intro gk;(iterate 3 (refine zk ?_));exact gk.out):P:=h ⟨k⟩
theorem dq {P Q:Prop} (k:Q) (h:Hid Q->P:=by intro gk;(iterate 4 (refine zk ?_));exact gk.out):P:=h ⟨k⟩
theorem fi {P Q:Prop} (k:Q) (h:Hid Q->P:=by intro gk;(iterate 5 (refine zk ?_));exact gk.out):P:=h ⟨k⟩
theorem fK {P Q:Prop} (k:Q) (h:Hid Q->P:=by intro gk;(iterate 6 (refine zk ?_));exact gk.out):P:=h ⟨k⟩
theorem lF {P Q:Prop} (k:Q) (h:Hid Q->P:=by intro gk;(iterate 7 (refine zk ?_));exact gk.out):P:=h ⟨k⟩
theorem nx {P Q:Prop} (k:Q) (h:Hid Q->P:=by intro gk;(iterate 8 (refine zk ?_));exact gk.out):P:=h ⟨k⟩
theorem tv {P Q:Prop} (k:Q) (h:Hid Q->P:=by intro gk;(iterate 9 (refine zk ?_));exact gk.out):P:=h ⟨k⟩
theorem oY {P Q:Prop} (k:Q) (h:Hid Q->P:=by intro gk;(iterate 10 (refine zk ?_));exact gk.out):P:=h ⟨k⟩
theorem Af {P Q:Prop} (k:Q) (h:Hid Q->P:=by intro gk;(iterate 11 (refine zk ?_));exact gk.out):P:=h ⟨k⟩
theorem wv {P Q:Prop} (k:Q) (h:Hid Q->P:=by intro gk;(iterate 12 (refine zk ?_));exact gk.out):P:=h ⟨k⟩
theorem qn {P Q:Prop} (k:Q) (h:Hid Q->P:=by intro gk;(iterate 14 (refine zk ?_));exact gk.out):P:=h ⟨k⟩
theorem UT {P Q:Prop} (k:Q) (h:Hid Q->P:=by intro gk;(iterate 15 (refine zk ?_));exact gk.out):P:=h ⟨k⟩
theorem lG {P Q:Prop} (k:Q) (h:Hid Q->P:=by intro gk;(iterate 16 (refine zk ?_));exact gk.out):P:=h ⟨k⟩
section
variable {P:Program} {c:Ctx} {I:Im} {H:List Own} {Γ:Env} {a:Act} {w:World} {E T:TypeId} {v:Value} {sz:Nat} {l:List (List AV)} {u:List AV} {b:Nat}
theorem St.fr (k t:Nat) (U:St c I H Γ a w) (hk:H[k]?=some (Own.row v E sz l):=by rfl) (ht:Env.get t Γ=some (.val v):=by rfl):∃I',St c I' (H.set k Own.gone) ((t,.rows sz l)::Γ) a w:=
 let⟨I',h,hf⟩:=U.uC k hk
 ⟨I',h.xO ht hf⟩
theorem St.fb (k t:Nat) (U:St c I H Γ a w) (hk:H[k]?=some (Own.box b T u):=by rfl) (ht:Env.get t Γ=some (.val (.pointer (some ⟨b,0,none⟩))):=by rfl):∃I',St c I' (H.set k Own.gone) ((t,.ptr u)::Γ) a w:=
 let⟨I',h,hf⟩:=U.KK k hk
 ⟨I',h.xO ht hf⟩
theorem St.fu (k q j:Nat) (U:St c I H Γ a w) (hk:H[k]?=some (Own.row v E sz l):=by rfl) (hj:(H.set k Own.gone)[j]?=some (Own.box b T u):=by rfl) (hq:u[q]?=some (.val v):=by rfl):∃I',St c I' ((H.set k Own.gone).set j (Own.box b T (u.set q (.rows sz l)))) Γ a w:=
 let⟨I',h,hf⟩:=U.uC k hk
 ⟨I',h.np j hj hq hf⟩
end
section
variable {P:Program} {H:List Own} {Γ:Env}
theorem Fn.go {f:FuncId} {fn:Func} {code:Code} {args:List AV} {res:AV} (N:Nat) (hf:P.funcs[f]?=some fn) (hn:fn.ntmps=N)
 (h:∀(W:World) (I:Im) (a:Act),St ⟨W,I,N,lu⟩ I [] (mK 0 args) a W->code.wp P (bodyPost P fn (vM lu I W res)) a W)
 (hb:fn.body=some code:=by rfl) (hN:Nat.ble args.length N=true:=by rfl) (oK:(fn.name== "runtime.NumGoroutine")=false:=by kernel_rfl):Fn P f args res:=Fn.intro N hf hb hn hN oK h
theorem ly.sx {s b n m:Nat} {T T':TypeId} {zv:Value} {l:List AV} (k:Nat) [hT:ea P T true n m zv] (h:Env.get s Γ=some (.val (.pointer (some ⟨b,0,none⟩))):=by rfl) (hk:H[k]?=some (Own.box b T' l):=by rfl) (hn:l.length=n:=by first|rfl|assumption):ly P H Γ (.cell s T) (.agg l):=.s k hT.h h hk hn
theorem ly.x {r:ResultVar} {x:AV} (h:ly P H Γ r x:=by first|exact .t rfl|exact .nil rfl):ly P H Γ r x:=h
theorem TD {α:Type}:(∀(n:Nat) (a:α) (l:List α),List.take (n+1) (a::l)=a::List.take n l)/\(∀l:List α,List.take 0 l=[])/\(∀(n:Nat) (a:α) (l:List α),List.drop (n+1) (a::l)=List.drop n l)/\(∀l:List α,List.drop 0 l=l):=
 ⟨λ_ _ _=>rfl,λ_=>rfl,λ_ _ _=>rfl,λ_=>rfl⟩
end
section
variable {P:Program} {c:Ctx} {I:Im} {H:List Own} {Γ:Env} {a:Act} {w:World}
theorem St.ln {α:Type} {s:Nat} {f:α->List AV} {l:List α} {xs:List AV} (U:St c I H Γ a w) (t i:Nat) (ht:Env.get t Γ=some (.agg xs):=by rfl) (hi:xs[i]?=some (.rows s (l.map f)):=by rfl):l.length<=9223372036854775807:=by
 obtain⟨cs,_,hc⟩:=U.env t _ ht
 obtain⟨u,_,h,_⟩:=hc.get hi
 exact zO h
end
section
variable {P:Program} {c:Ctx} {I:Im} {H:List Own} {Γ:Env} {a:Act} {w:World} {Q:Exit->Act->World->Prop} {ops:Array Oper} {rest:List Oper} {y z:Operand} {ty T E:TypeId} {p:String} {af:Array Edge} {m n sz d:Nat} {zv:Value} {ag:Bool}
theorem St.ap {v:Value} {l l2:List (List AV)} (k:Nat) (U:St c I H Γ a w) (kk:∀v' a' w',St c I (H.set k (Own.row v' E sz (l++l2))) ((d,.val v')::Γ) a' w'->wpList P ops Q rest a' w') [hU:ji P T (.slice E)] [hE:ea P E ag sz m zv]
 (hy:At Γ true y (.val v):=by first|exact .tt|exact .c) (hz:At Γ true z (.rows sz l2):=by first|exact .tt|exact .nil .tt) (hk:H[k]?=some (Own.row v E sz l):=by rfl) (hb:(l.length+l2.length)*m<=140737488355328/\l.length+l2.length<=140737488355328:=by simp;omega) (hd:Nat.blt d c.n=true:=by rfl) (ga:zv.cells.size=sz:=by rfl):
 wpList P ops Q (⟨some d,.call ⟨.builtin .append,#[y,z],#[T,T]⟩,ty,p,af,none⟩::rest) a w:=U.append k hd hU.h hE.h ga hy hz hk hb kk
theorem St.l0 (U:St c I H Γ a w) (k:∀b I a' w',St c I (H++[Own.row (.slice (some ⟨b,0,none⟩) 0 0) E sz []]) ((d,.val (.slice (some ⟨b,0,none⟩) 0 0))::Γ) a' w'->wpList P ops Q rest a' w') [hU:ji P T (.slice E)] [hE:ea P E ag sz m zv] (cK:0<sz:=by decide) (hd:Nat.blt d c.n=true:=by rfl):
 wpList P ops Q (⟨some d,.buildSlice T 0 #[],ty,p,af,none⟩::rest) a w:=U.Tz hd hU.h hE.h cK k
theorem St.dt {id:Nat} {l:List Oper} (n:Nat) (U:St c I H Γ a w) (run:mO P c H l.toArray Q (l.drop n) Γ (l.take n)) (hm:P.follows .mixedOrders=true:=by kernel_rfl) (gf:n8 (l.take n) (l.drop n)=true:=by kernel_rfl) (hd:((l.take n).all λo=>Nat.blt (o.dst.getD 0) c.n)=true:=by kernel_rfl):(Code.region id l.toArray true).wp P Q a w:=U.TM n hm gf hd run
theorem St.da {id:Nat} {l:List Oper} (n:Nat) (U:St c I H Γ a w) (run:gj P c H l.toArray Q (l.drop n) (λ_=>[]) 0 Γ (l.take n)) (hm:P.follows .mixedOrders=true:=by kernel_rfl) (gf:n8 (l.take n) (l.drop n)=true:=by kernel_rfl) (hd:((l.take n).all λo=>Nat.blt (o.dst.getD 0) c.n)=true:=by kernel_rfl):(Code.region id l.toArray true).wp P Q a w:=U.K3 n hm gf hd run
end
end Go.Proofs.YtjepcfpkclegdaaGreat
set_option linter.unusedVariables false
set_option linter.unusedSimpArgs false
set_option maxRecDepth 100000
namespace Go.Proofs.YtjepcfpkclegdaaGreat
open Go Go.RowKit
instance UU:ea Tryz.prog 3 false 1 8 (.int .i64 0):=⟨by kernel_rfl,by kernel_rfl⟩
theorem gO:Ty Tryz.prog 3 false 1 8 (.int .i64 0):=UU.h
theorem uP:∀u∈(Value.cells (.int .i64 0)).toList,u.oneCell'=true:=by simp[Value.cells,Value.oneCell']
instance UW:ea Tryz.prog 4 false 1 1 (.bool false):=⟨by kernel_rfl,by kernel_rfl⟩
theorem x4:Ty Tryz.prog 4 false 1 1 (.bool false):=UW.h
theorem UX:∀I,bJ I [AV.val (.bool false)] (Value.cells (.bool false)).toList:=λ_=>⟨⟨rfl,rfl⟩,trivial⟩
instance UY:ea Tryz.prog 5 false 1 1 (.int .u8 0):=⟨by kernel_rfl,by kernel_rfl⟩
theorem uQ:Ty Tryz.prog 5 false 1 1 (.int .u8 0):=UY.h
instance ahV:ea Tryz.prog 22 false 1 24 (.slice none 0 0):=⟨by kernel_rfl,by kernel_rfl⟩
instance UZ:ea Tryz.prog 23 false 1 24 (.slice none 0 0):=⟨by kernel_rfl,by kernel_rfl⟩
theorem U0:Ty Tryz.prog 23 false 1 24 (.slice none 0 0):=UZ.h
instance ahW:ea Tryz.prog 25 false 1 24 (.slice none 0 0):=⟨by kernel_rfl,by kernel_rfl⟩
instance U1:ea Tryz.prog 26 false 1 24 (.slice none 0 0):=⟨by kernel_rfl,by kernel_rfl⟩
theorem FY:Ty Tryz.prog 26 false 1 24 (.slice none 0 0):=U1.h
instance ahX:ea Tryz.prog 27 false 1 24 (.slice none 0 0):=⟨by kernel_rfl,by kernel_rfl⟩
instance ahY:ea Tryz.prog 28 false 1 24 (.slice none 0 0):=⟨by kernel_rfl,by kernel_rfl⟩
instance U2:ea Tryz.prog 30 true 5 104 (.agg #[.int .i64 0,.slice none 0 0,.slice none 0 0,.slice none 0 0,.slice none 0 0]):=⟨by kernel_rfl,by kernel_rfl⟩
theorem df:Ty Tryz.prog 30 true 5 104 (.agg #[.int .i64 0,.slice none 0 0,.slice none 0 0,.slice none 0 0,.slice none 0 0]):=U2.h
theorem dz:∀I,bJ I [AV.val (.int .i64 0),AV.rows 7 [],AV.rows 15 [],AV.rows 13 [],AV.rows 1 []] (Value.cells (.agg #[.int .i64 0,.slice none 0 0,.slice none 0 0,.slice none 0 0,.slice none 0 0])).toList:=λ_=>⟨⟨rfl,rfl⟩,⟨eO _ _,rfl⟩,⟨eO _ _,rfl⟩,⟨eO _ _,rfl⟩,⟨eO _ _,rfl⟩,trivial⟩
theorem x5:∀I,bJ I [AV.val (.int .i64 0),AV.val (.slice none 0 0),AV.val (.slice none 0 0),AV.val (.slice none 0 0),AV.val (.slice none 0 0)] (Value.cells (.agg #[.int .i64 0,.slice none 0 0,.slice none 0 0,.slice none 0 0,.slice none 0 0])).toList:=λ_=>⟨⟨rfl,rfl⟩,⟨rfl,rfl⟩,⟨rfl,rfl⟩,⟨rfl,rfl⟩,⟨rfl,rfl⟩,trivial⟩
instance ahZ:oX Tryz.prog 30:=⟨by kernel_rfl⟩
instance ah0:ea Tryz.prog 33 false 1 24 (.slice none 0 0):=⟨by kernel_rfl,by kernel_rfl⟩
instance U3:ea Tryz.prog 34 false 1 24 (.slice none 0 0):=⟨by kernel_rfl,by kernel_rfl⟩
theorem oc:Ty Tryz.prog 34 false 1 24 (.slice none 0 0):=U3.h
theorem LZ:∀I,bJ I [AV.rows 3 []] (Value.cells (.slice none 0 0)).toList:=λ_=>⟨⟨eO _ _,rfl⟩,trivial⟩
theorem FZ:∀u∈(Value.cells (.slice none 0 0)).toList,u.oneCell'=true:=by simp[Value.cells,Value.oneCell']
instance U4:ea Tryz.prog 36 true 2 16 (.agg #[.int .i64 0,.int .i64 0]):=⟨by kernel_rfl,by kernel_rfl⟩
theorem l5:Ty Tryz.prog 36 true 2 16 (.agg #[.int .i64 0,.int .i64 0]):=U4.h
theorem jU:∀I,bJ I [AV.val (.int .i64 0),AV.val (.int .i64 0)] (Value.cells (.agg #[.int .i64 0,.int .i64 0])).toList:=λ_=>⟨⟨rfl,rfl⟩,⟨rfl,rfl⟩,trivial⟩
theorem Cp:∀u∈(Value.cells (.agg #[.int .i64 0,.int .i64 0])).toList,u.oneCell'=true:=by simp[Value.cells,Value.oneCell']
instance ah1:oX Tryz.prog 36:=⟨by kernel_rfl⟩
instance ah2:ea Tryz.prog 37 false 1 24 (.slice none 0 0):=⟨by kernel_rfl,by kernel_rfl⟩
instance U5:ea Tryz.prog 39 true 13 168 (.agg #[.int .i64 0,.int .i64 0,.int .i64 0,.slice none 0 0,.int .i64 0,.slice none 0 0,.int .i64 0,.int .i64 0,.bool false,.int .i64 0,.int .i64 0,.slice none 0 0,.slice none 0 0]):=⟨by kernel_rfl,by kernel_rfl⟩
theorem dQ:Ty Tryz.prog 39 true 13 168 (.agg #[.int .i64 0,.int .i64 0,.int .i64 0,.slice none 0 0,.int .i64 0,.slice none 0 0,.int .i64 0,.int .i64 0,.bool false,.int .i64 0,.int .i64 0,.slice none 0 0,.slice none 0 0]):=U5.h
theorem gD:∀I,bJ I [AV.val (.int .i64 0),AV.val (.int .i64 0),AV.val (.int .i64 0),AV.rows 1 [],AV.val (.int .i64 0),AV.rows 3 [],AV.val (.int .i64 0),AV.val (.int .i64 0),AV.val (.bool false),AV.val (.int .i64 0),AV.val (.int .i64 0),AV.rows 9 [],AV.rows 3 []] (Value.cells (.agg #[.int .i64 0,.int .i64 0,.int .i64 0,.slice none 0 0,.int .i64 0,.slice none 0 0,.int .i64 0,.int .i64 0,.bool false,.int .i64 0,.int .i64 0,.slice none 0 0,.slice none 0 0])).toList:=λ_=>⟨⟨rfl,rfl⟩,⟨rfl,rfl⟩,⟨rfl,rfl⟩,⟨eO _ _,rfl⟩,⟨rfl,rfl⟩,⟨eO _ _,rfl⟩,⟨rfl,rfl⟩,⟨rfl,rfl⟩,⟨rfl,rfl⟩,⟨rfl,rfl⟩,⟨rfl,rfl⟩,⟨eO _ _,rfl⟩,⟨eO _ _,rfl⟩,trivial⟩
theorem Cq:∀u∈(Value.cells (.agg #[.int .i64 0,.int .i64 0,.int .i64 0,.slice none 0 0,.int .i64 0,.slice none 0 0,.int .i64 0,.int .i64 0,.bool false,.int .i64 0,.int .i64 0,.slice none 0 0,.slice none 0 0])).toList,u.oneCell'=true:=by simp[Value.cells,Value.oneCell']
instance ah3:oX Tryz.prog 39:=⟨by kernel_rfl⟩
instance U6:ea Tryz.prog 43 true 7 72 (.agg #[.int .i64 0,.int .i64 0,.int .i64 0,.int .i64 0,.int .i64 0,.int .i64 0,.slice none 0 0]):=⟨by kernel_rfl,by kernel_rfl⟩
theorem bA:Ty Tryz.prog 43 true 7 72 (.agg #[.int .i64 0,.int .i64 0,.int .i64 0,.int .i64 0,.int .i64 0,.int .i64 0,.slice none 0 0]):=U6.h
theorem dE:∀I,bJ I [AV.val (.int .i64 0),AV.val (.int .i64 0),AV.val (.int .i64 0),AV.val (.int .i64 0),AV.val (.int .i64 0),AV.val (.int .i64 0),AV.rows 3 []] (Value.cells (.agg #[.int .i64 0,.int .i64 0,.int .i64 0,.int .i64 0,.int .i64 0,.int .i64 0,.slice none 0 0])).toList:=λ_=>⟨⟨rfl,rfl⟩,⟨rfl,rfl⟩,⟨rfl,rfl⟩,⟨rfl,rfl⟩,⟨rfl,rfl⟩,⟨rfl,rfl⟩,⟨eO _ _,rfl⟩,trivial⟩
theorem lH:∀u∈(Value.cells (.agg #[.int .i64 0,.int .i64 0,.int .i64 0,.int .i64 0,.int .i64 0,.int .i64 0,.slice none 0 0])).toList,u.oneCell'=true:=by simp[Value.cells,Value.oneCell']
instance ah4:oX Tryz.prog 43:=⟨by kernel_rfl⟩
instance U7:ea Tryz.prog 45 true 9 88 (.agg #[.int .i64 0,.bool false,.int .i64 0,.int .i64 0,.int .i64 0,.int .i64 0,.int .i64 0,.int .i64 0,.slice none 0 0]):=⟨by kernel_rfl,by kernel_rfl⟩
theorem fj:Ty Tryz.prog 45 true 9 88 (.agg #[.int .i64 0,.bool false,.int .i64 0,.int .i64 0,.int .i64 0,.int .i64 0,.int .i64 0,.int .i64 0,.slice none 0 0]):=U7.h
theorem od:∀I,bJ I [AV.val (.int .i64 0),AV.val (.bool false),AV.val (.int .i64 0),AV.val (.int .i64 0),AV.val (.int .i64 0),AV.val (.int .i64 0),AV.val (.int .i64 0),AV.val (.int .i64 0),AV.rows 3 []] (Value.cells (.agg #[.int .i64 0,.bool false,.int .i64 0,.int .i64 0,.int .i64 0,.int .i64 0,.int .i64 0,.int .i64 0,.slice none 0 0])).toList:=λ_=>⟨⟨rfl,rfl⟩,⟨rfl,rfl⟩,⟨rfl,rfl⟩,⟨rfl,rfl⟩,⟨rfl,rfl⟩,⟨rfl,rfl⟩,⟨rfl,rfl⟩,⟨rfl,rfl⟩,⟨eO _ _,rfl⟩,trivial⟩
theorem uR:∀u∈(Value.cells (.agg #[.int .i64 0,.bool false,.int .i64 0,.int .i64 0,.int .i64 0,.int .i64 0,.int .i64 0,.int .i64 0,.slice none 0 0])).toList,u.oneCell'=true:=by simp[Value.cells,Value.oneCell']
instance ah5:oX Tryz.prog 45:=⟨by kernel_rfl⟩
instance U8:ea Tryz.prog 52 true 11 88 (.agg #[.int .i64 0,.int .i64 0,.int .i64 0,.int .i64 0,.int .i64 0,.int .i64 0,.int .i64 0,.int .i64 0,.int .i64 0,.int .i64 0,.int .i64 0]):=⟨by kernel_rfl,by kernel_rfl⟩
theorem iH:Ty Tryz.prog 52 true 11 88 (.agg #[.int .i64 0,.int .i64 0,.int .i64 0,.int .i64 0,.int .i64 0,.int .i64 0,.int .i64 0,.int .i64 0,.int .i64 0,.int .i64 0,.int .i64 0]):=U8.h
theorem kW:∀I,bJ I [AV.val (.int .i64 0),AV.val (.int .i64 0),AV.val (.int .i64 0),AV.val (.int .i64 0),AV.val (.int .i64 0),AV.val (.int .i64 0),AV.val (.int .i64 0),AV.val (.int .i64 0),AV.val (.int .i64 0),AV.val (.int .i64 0),AV.val (.int .i64 0)] (Value.cells (.agg #[.int .i64 0,.int .i64 0,.int .i64 0,.int .i64 0,.int .i64 0,.int .i64 0,.int .i64 0,.int .i64 0,.int .i64 0,.int .i64 0,.int .i64 0])).toList:=λ_=>⟨⟨rfl,rfl⟩,⟨rfl,rfl⟩,⟨rfl,rfl⟩,⟨rfl,rfl⟩,⟨rfl,rfl⟩,⟨rfl,rfl⟩,⟨rfl,rfl⟩,⟨rfl,rfl⟩,⟨rfl,rfl⟩,⟨rfl,rfl⟩,⟨rfl,rfl⟩,trivial⟩
theorem L0:∀u∈(Value.cells (.agg #[.int .i64 0,.int .i64 0,.int .i64 0,.int .i64 0,.int .i64 0,.int .i64 0,.int .i64 0,.int .i64 0,.int .i64 0,.int .i64 0,.int .i64 0])).toList,u.oneCell'=true:=by simp[Value.cells,Value.oneCell']
instance ah6:oX Tryz.prog 52:=⟨by kernel_rfl⟩
instance U9:ea Tryz.prog 54 false 1 24 (.slice none 0 0):=⟨by kernel_rfl,by kernel_rfl⟩
theorem L1:Ty Tryz.prog 54 false 1 24 (.slice none 0 0):=U9.h
theorem Va:∀I,bJ I [AV.rows 7 []] (Value.cells (.slice none 0 0)).toList:=λ_=>⟨⟨eO _ _,rfl⟩,trivial⟩
theorem Vb:∀u∈(Value.cells (.slice none 0 0)).toList,u.oneCell'=true:=by simp[Value.cells,Value.oneCell']
instance ah7:ea Tryz.prog 59 false 1 24 (.slice none 0 0):=⟨by kernel_rfl,by kernel_rfl⟩
instance Vc:ea Tryz.prog 61 true 7 136 (.agg #[.int .i64 0,.bool false,.slice none 0 0,.slice none 0 0,.slice none 0 0,.slice none 0 0,.slice none 0 0]):=⟨by kernel_rfl,by kernel_rfl⟩
theorem cm:Ty Tryz.prog 61 true 7 136 (.agg #[.int .i64 0,.bool false,.slice none 0 0,.slice none 0 0,.slice none 0 0,.slice none 0 0,.slice none 0 0]):=Vc.h
theorem dF:∀I,bJ I [AV.val (.int .i64 0),AV.val (.bool false),AV.rows 2 [],AV.rows 7 [],AV.rows 7 [],AV.rows 3 [],AV.rows 3 []] (Value.cells (.agg #[.int .i64 0,.bool false,.slice none 0 0,.slice none 0 0,.slice none 0 0,.slice none 0 0,.slice none 0 0])).toList:=λ_=>⟨⟨rfl,rfl⟩,⟨rfl,rfl⟩,⟨eO _ _,rfl⟩,⟨eO _ _,rfl⟩,⟨eO _ _,rfl⟩,⟨eO _ _,rfl⟩,⟨eO _ _,rfl⟩,trivial⟩
theorem Cr:∀I,bJ I [AV.val (.int .i64 0),AV.val (.bool false),AV.val (.slice none 0 0),AV.val (.slice none 0 0),AV.val (.slice none 0 0),AV.val (.slice none 0 0),AV.val (.slice none 0 0)] (Value.cells (.agg #[.int .i64 0,.bool false,.slice none 0 0,.slice none 0 0,.slice none 0 0,.slice none 0 0,.slice none 0 0])).toList:=λ_=>⟨⟨rfl,rfl⟩,⟨rfl,rfl⟩,⟨rfl,rfl⟩,⟨rfl,rfl⟩,⟨rfl,rfl⟩,⟨rfl,rfl⟩,⟨rfl,rfl⟩,trivial⟩
theorem Cs:∀u∈(Value.cells (.agg #[.int .i64 0,.bool false,.slice none 0 0,.slice none 0 0,.slice none 0 0,.slice none 0 0,.slice none 0 0])).toList,u.oneCell'=true:=by simp[Value.cells,Value.oneCell']
instance ah8:oX Tryz.prog 61:=⟨by kernel_rfl⟩
instance Vd:ea Tryz.prog 63 true 3 24 (.agg #[.int .i64 0,.int .i64 0,.int .i64 0]):=⟨by kernel_rfl,by kernel_rfl⟩
theorem cH:Ty Tryz.prog 63 true 3 24 (.agg #[.int .i64 0,.int .i64 0,.int .i64 0]):=Vd.h
theorem fL:∀I,bJ I [AV.val (.int .i64 0),AV.val (.int .i64 0),AV.val (.int .i64 0)] (Value.cells (.agg #[.int .i64 0,.int .i64 0,.int .i64 0])).toList:=λ_=>⟨⟨rfl,rfl⟩,⟨rfl,rfl⟩,⟨rfl,rfl⟩,trivial⟩
theorem iX:∀u∈(Value.cells (.agg #[.int .i64 0,.int .i64 0,.int .i64 0])).toList,u.oneCell'=true:=by simp[Value.cells,Value.oneCell']
instance ah9:oX Tryz.prog 63:=⟨by kernel_rfl⟩
instance Ve:ea Tryz.prog 70 true 15 184 (.agg #[.int .i64 0,.int .i64 0,.int .i64 0,.int .i64 0,.int .i64 0,.int .i64 0,.int .i64 0,.int .i64 0,.bool false,.slice none 0 0,.int .i64 0,.int .i64 0,.slice none 0 0,.slice none 0 0,.slice none 0 0]):=⟨by kernel_rfl,by kernel_rfl⟩
theorem dr:Ty Tryz.prog 70 true 15 184 (.agg #[.int .i64 0,.int .i64 0,.int .i64 0,.int .i64 0,.int .i64 0,.int .i64 0,.int .i64 0,.int .i64 0,.bool false,.slice none 0 0,.int .i64 0,.int .i64 0,.slice none 0 0,.slice none 0 0,.slice none 0 0]):=Ve.h
theorem eb:∀I,bJ I [AV.val (.int .i64 0),AV.val (.int .i64 0),AV.val (.int .i64 0),AV.val (.int .i64 0),AV.val (.int .i64 0),AV.val (.int .i64 0),AV.val (.int .i64 0),AV.val (.int .i64 0),AV.val (.bool false),AV.rows 3 [],AV.val (.int .i64 0),AV.val (.int .i64 0),AV.rows 7 [],AV.rows 7 [],AV.rows 3 []] (Value.cells (.agg #[.int .i64 0,.int .i64 0,.int .i64 0,.int .i64 0,.int .i64 0,.int .i64 0,.int .i64 0,.int .i64 0,.bool false,.slice none 0 0,.int .i64 0,.int .i64 0,.slice none 0 0,.slice none 0 0,.slice none 0 0])).toList:=λ_=>⟨⟨rfl,rfl⟩,⟨rfl,rfl⟩,⟨rfl,rfl⟩,⟨rfl,rfl⟩,⟨rfl,rfl⟩,⟨rfl,rfl⟩,⟨rfl,rfl⟩,⟨rfl,rfl⟩,⟨rfl,rfl⟩,⟨eO _ _,rfl⟩,⟨rfl,rfl⟩,⟨rfl,rfl⟩,⟨eO _ _,rfl⟩,⟨eO _ _,rfl⟩,⟨eO _ _,rfl⟩,trivial⟩
theorem Vf:∀I,bJ I [AV.val (.int .i64 0),AV.val (.int .i64 0),AV.val (.int .i64 0),AV.val (.int .i64 0),AV.val (.int .i64 0),AV.val (.int .i64 0),AV.val (.int .i64 0),AV.val (.int .i64 0),AV.val (.bool false),AV.val (.slice none 0 0),AV.val (.int .i64 0),AV.val (.int .i64 0),AV.val (.slice none 0 0),AV.val (.slice none 0 0),AV.val (.slice none 0 0)] (Value.cells (.agg #[.int .i64 0,.int .i64 0,.int .i64 0,.int .i64 0,.int .i64 0,.int .i64 0,.int .i64 0,.int .i64 0,.bool false,.slice none 0 0,.int .i64 0,.int .i64 0,.slice none 0 0,.slice none 0 0,.slice none 0 0])).toList:=λ_=>⟨⟨rfl,rfl⟩,⟨rfl,rfl⟩,⟨rfl,rfl⟩,⟨rfl,rfl⟩,⟨rfl,rfl⟩,⟨rfl,rfl⟩,⟨rfl,rfl⟩,⟨rfl,rfl⟩,⟨rfl,rfl⟩,⟨rfl,rfl⟩,⟨rfl,rfl⟩,⟨rfl,rfl⟩,⟨rfl,rfl⟩,⟨rfl,rfl⟩,⟨rfl,rfl⟩,trivial⟩
theorem gP:∀u∈(Value.cells (.agg #[.int .i64 0,.int .i64 0,.int .i64 0,.int .i64 0,.int .i64 0,.int .i64 0,.int .i64 0,.int .i64 0,.bool false,.slice none 0 0,.int .i64 0,.int .i64 0,.slice none 0 0,.slice none 0 0,.slice none 0 0])).toList,u.oneCell'=true:=by simp[Value.cells,Value.oneCell']
instance aia:oX Tryz.prog 70:=⟨by kernel_rfl⟩
instance aib:ea Tryz.prog 72 false 1 8 (.pointer none):=⟨by kernel_rfl,by kernel_rfl⟩
instance aic:ea Tryz.prog 75 true 7 136 (.agg #[.pointer none,.int .i64 0,.slice none 0 0,.slice none 0 0,.slice none 0 0,.slice none 0 0,.slice none 0 0]):=⟨by kernel_rfl,by kernel_rfl⟩
theorem Vg:∀I,bJ I [AV.val (.pointer none),AV.val (.int .i64 0),AV.val (.slice none 0 0),AV.val (.slice none 0 0),AV.val (.slice none 0 0),AV.val (.slice none 0 0),AV.val (.slice none 0 0)] (Value.cells (.agg #[.pointer none,.int .i64 0,.slice none 0 0,.slice none 0 0,.slice none 0 0,.slice none 0 0,.slice none 0 0])).toList:=λ_=>⟨⟨rfl,rfl⟩,⟨rfl,rfl⟩,⟨rfl,rfl⟩,⟨rfl,rfl⟩,⟨rfl,rfl⟩,⟨rfl,rfl⟩,⟨rfl,rfl⟩,trivial⟩
instance aid:oX Tryz.prog 75:=⟨by kernel_rfl⟩
instance aie:ea Tryz.prog 95 true 2 32 (.agg #[.slice none 0 0,.int .i64 0]):=⟨by kernel_rfl,by kernel_rfl⟩
theorem Vh:∀I,bJ I [AV.rows 1 [],AV.val (.int .i64 0)] (Value.cells (.agg #[.slice none 0 0,.int .i64 0])).toList:=λ_=>⟨⟨eO _ _,rfl⟩,⟨rfl,rfl⟩,trivial⟩
instance aif:oX Tryz.prog 95:=⟨by kernel_rfl⟩
instance Vi:ea Tryz.prog 104 true 2 16 (.agg #[.int .i64 0,.int .i64 0]):=⟨by kernel_rfl,by kernel_rfl⟩
theorem er:Ty Tryz.prog 104 true 2 16 (.agg #[.int .i64 0,.int .i64 0]):=Vi.h
theorem oe:∀I,bJ I [AV.val (.int .i64 0),AV.val (.int .i64 0)] (Value.cells (.agg #[.int .i64 0,.int .i64 0])).toList:=λ_=>⟨⟨rfl,rfl⟩,⟨rfl,rfl⟩,trivial⟩
theorem Ct:∀u∈(Value.cells (.agg #[.int .i64 0,.int .i64 0])).toList,u.oneCell'=true:=by simp[Value.cells,Value.oneCell']
instance aih:oX Tryz.prog 104:=⟨by kernel_rfl⟩
instance Vj:ji Tryz.prog 3 (.int .i64):=⟨by kernel_rfl⟩
theorem ny:Tryz.prog.underlying 3=some (.int .i64):=Vj.h
instance Vk:ji Tryz.prog 4 (.bool):=⟨by kernel_rfl⟩
theorem x6:Tryz.prog.underlying 4=some (.bool):=Vk.h
instance Vl:ji Tryz.prog 22 (.slice 5):=⟨by kernel_rfl⟩
theorem uS:Tryz.prog.underlying 22=some (.slice 5):=Vl.h
instance Vm:ji Tryz.prog 23 (.slice 52):=⟨by kernel_rfl⟩
theorem jL:Tryz.prog.underlying 23=some (.slice 52):=Vm.h
instance Vn:ji Tryz.prog 25 (.slice 61):=⟨by kernel_rfl⟩
theorem tw:Tryz.prog.underlying 25=some (.slice 61):=Vn.h
instance Vo:ji Tryz.prog 26 (.slice 70):=⟨by kernel_rfl⟩
theorem eU:Tryz.prog.underlying 26=some (.slice 70):=Vo.h
instance Vp:ji Tryz.prog 27 (.slice 39):=⟨by kernel_rfl⟩
theorem mB:Tryz.prog.underlying 27=some (.slice 39):=Vp.h
instance Vq:ji Tryz.prog 28 (.slice 34):=⟨by kernel_rfl⟩
theorem wx:Tryz.prog.underlying 28=some (.slice 34):=Vq.h
instance Vr:ji Tryz.prog 33 (.slice 3):=⟨by kernel_rfl⟩
theorem ju:Tryz.prog.underlying 33=some (.slice 3):=Vr.h
instance Vs:ji Tryz.prog 34 (.slice 63):=⟨by kernel_rfl⟩
theorem dJ:Tryz.prog.underlying 34=some (.slice 63):=Vs.h
instance Vt:ji Tryz.prog 37 (.slice 45):=⟨by kernel_rfl⟩
theorem iI:Tryz.prog.underlying 37=some (.slice 45):=Vt.h
instance Vu:ji Tryz.prog 54 (.slice 43):=⟨by kernel_rfl⟩
theorem cJ:Tryz.prog.underlying 54=some (.slice 43):=Vu.h
instance Vv:ji Tryz.prog 59 (.slice 104):=⟨by kernel_rfl⟩
theorem fU:Tryz.prog.underlying 59=some (.slice 104):=Vv.h
instance Vw:ji Tryz.prog 145 (.map 3 3):=⟨by kernel_rfl⟩
theorem Vx:Tryz.prog.underlying 145=some (.map 3 3):=Vw.h
instance Vy:ji Tryz.prog 185 (.slice 36):=⟨by kernel_rfl⟩
theorem L3:Tryz.prog.underlying 185=some (.slice 36):=Vy.h
instance aii:cE Tryz.prog 30 0 0 1:=⟨by unfold cB;kernel_rfl⟩
instance aij:dy Tryz.prog 30 0 0 1:=⟨by unfold cI;kernel_rfl⟩
instance aik:cE Tryz.prog 30 1 1 1:=⟨by unfold cB;kernel_rfl⟩
instance ail:cE Tryz.prog 30 2 2 1:=⟨by unfold cB;kernel_rfl⟩
instance Vz:dy Tryz.prog 30 2 2 1:=⟨by unfold cI;kernel_rfl⟩
theorem VA:cI Tryz.prog 30 2=some (2,1):=Vz.h
instance aim:cE Tryz.prog 30 3 3 1:=⟨by unfold cB;kernel_rfl⟩
instance ain:cE Tryz.prog 30 4 4 1:=⟨by unfold cB;kernel_rfl⟩
instance aio:dy Tryz.prog 30 4 4 1:=⟨by unfold cI;kernel_rfl⟩
instance aip:cE Tryz.prog 36 0 0 1:=⟨by unfold cB;kernel_rfl⟩
instance aiq:dy Tryz.prog 36 0 0 1:=⟨by unfold cI;kernel_rfl⟩
instance air:cE Tryz.prog 36 1 1 1:=⟨by unfold cB;kernel_rfl⟩
instance ais:dy Tryz.prog 36 1 1 1:=⟨by unfold cI;kernel_rfl⟩
instance ait:cE Tryz.prog 39 0 0 1:=⟨by unfold cB;kernel_rfl⟩
instance aiu:dy Tryz.prog 39 0 0 1:=⟨by unfold cI;kernel_rfl⟩
instance aiv:cE Tryz.prog 39 1 1 1:=⟨by unfold cB;kernel_rfl⟩
instance aiw:dy Tryz.prog 39 1 1 1:=⟨by unfold cI;kernel_rfl⟩
instance aix:cE Tryz.prog 39 2 2 1:=⟨by unfold cB;kernel_rfl⟩
instance aiy:dy Tryz.prog 39 2 2 1:=⟨by unfold cI;kernel_rfl⟩
instance aiz:cE Tryz.prog 39 3 3 1:=⟨by unfold cB;kernel_rfl⟩
instance VB:dy Tryz.prog 39 3 3 1:=⟨by unfold cI;kernel_rfl⟩
theorem VC:cI Tryz.prog 39 3=some (3,1):=VB.h
instance aiA:cE Tryz.prog 39 4 4 1:=⟨by unfold cB;kernel_rfl⟩
instance aiB:cE Tryz.prog 39 5 5 1:=⟨by unfold cB;kernel_rfl⟩
instance aiC:dy Tryz.prog 39 5 5 1:=⟨by unfold cI;kernel_rfl⟩
instance aiD:cE Tryz.prog 39 6 6 1:=⟨by unfold cB;kernel_rfl⟩
instance aiE:dy Tryz.prog 39 6 6 1:=⟨by unfold cI;kernel_rfl⟩
instance aiF:cE Tryz.prog 39 7 7 1:=⟨by unfold cB;kernel_rfl⟩
instance aiG:cE Tryz.prog 39 8 8 1:=⟨by unfold cB;kernel_rfl⟩
instance aiH:cE Tryz.prog 39 9 9 2:=⟨by unfold cB;kernel_rfl⟩
instance aiI:cE Tryz.prog 39 10 11 1:=⟨by unfold cB;kernel_rfl⟩
instance aiJ:cE Tryz.prog 39 11 12 1:=⟨by unfold cB;kernel_rfl⟩
instance aiK:cE Tryz.prog 43 0 0 1:=⟨by unfold cB;kernel_rfl⟩
instance aiL:dy Tryz.prog 43 0 0 1:=⟨by unfold cI;kernel_rfl⟩
instance aiM:cE Tryz.prog 43 1 1 2:=⟨by unfold cB;kernel_rfl⟩
instance aiN:dy Tryz.prog 43 1 1 2:=⟨by unfold cI;kernel_rfl⟩
instance aiO:cE Tryz.prog 43 2 3 1:=⟨by unfold cB;kernel_rfl⟩
instance aiP:dy Tryz.prog 43 2 3 1:=⟨by unfold cI;kernel_rfl⟩
instance aiQ:cE Tryz.prog 43 3 4 1:=⟨by unfold cB;kernel_rfl⟩
instance aiR:dy Tryz.prog 43 3 4 1:=⟨by unfold cI;kernel_rfl⟩
instance aiS:cE Tryz.prog 43 4 5 1:=⟨by unfold cB;kernel_rfl⟩
instance aiT:dy Tryz.prog 43 4 5 1:=⟨by unfold cI;kernel_rfl⟩
instance aiU:cE Tryz.prog 43 5 6 1:=⟨by unfold cB;kernel_rfl⟩
instance aiV:dy Tryz.prog 43 5 6 1:=⟨by unfold cI;kernel_rfl⟩
instance aiW:cE Tryz.prog 45 0 0 1:=⟨by unfold cB;kernel_rfl⟩
instance aiX:dy Tryz.prog 45 0 0 1:=⟨by unfold cI;kernel_rfl⟩
instance aiY:cE Tryz.prog 45 1 1 1:=⟨by unfold cB;kernel_rfl⟩
instance aiZ:dy Tryz.prog 45 1 1 1:=⟨by unfold cI;kernel_rfl⟩
instance ai0:cE Tryz.prog 45 2 2 7:=⟨by unfold cB;kernel_rfl⟩
instance ai1:dy Tryz.prog 45 2 2 7:=⟨by unfold cI;kernel_rfl⟩
instance ai2:cE Tryz.prog 52 0 0 1:=⟨by unfold cB;kernel_rfl⟩
instance ai3:dy Tryz.prog 52 0 0 1:=⟨by unfold cI;kernel_rfl⟩
instance ai4:cE Tryz.prog 52 1 1 1:=⟨by unfold cB;kernel_rfl⟩
instance ai5:dy Tryz.prog 52 1 1 1:=⟨by unfold cI;kernel_rfl⟩
instance ai6:cE Tryz.prog 52 2 2 1:=⟨by unfold cB;kernel_rfl⟩
instance ai7:dy Tryz.prog 52 2 2 1:=⟨by unfold cI;kernel_rfl⟩
instance ai8:cE Tryz.prog 52 3 3 1:=⟨by unfold cB;kernel_rfl⟩
instance ai9:dy Tryz.prog 52 3 3 1:=⟨by unfold cI;kernel_rfl⟩
instance aja:cE Tryz.prog 52 4 4 1:=⟨by unfold cB;kernel_rfl⟩
instance ajb:dy Tryz.prog 52 4 4 1:=⟨by unfold cI;kernel_rfl⟩
instance ajc:cE Tryz.prog 52 5 5 1:=⟨by unfold cB;kernel_rfl⟩
instance ajd:dy Tryz.prog 52 5 5 1:=⟨by unfold cI;kernel_rfl⟩
instance aje:cE Tryz.prog 52 6 6 1:=⟨by unfold cB;kernel_rfl⟩
instance ajf:dy Tryz.prog 52 6 6 1:=⟨by unfold cI;kernel_rfl⟩
instance ajg:cE Tryz.prog 52 7 7 1:=⟨by unfold cB;kernel_rfl⟩
instance ajh:dy Tryz.prog 52 7 7 1:=⟨by unfold cI;kernel_rfl⟩
instance aji:cE Tryz.prog 52 8 8 1:=⟨by unfold cB;kernel_rfl⟩
instance ajj:cE Tryz.prog 52 9 9 1:=⟨by unfold cB;kernel_rfl⟩
instance ajk:cE Tryz.prog 52 10 10 1:=⟨by unfold cB;kernel_rfl⟩
instance ajl:dy Tryz.prog 52 10 10 1:=⟨by unfold cI;kernel_rfl⟩
instance ajm:cE Tryz.prog 61 0 0 1:=⟨by unfold cB;kernel_rfl⟩
instance ajn:dy Tryz.prog 61 0 0 1:=⟨by unfold cI;kernel_rfl⟩
instance ajo:cE Tryz.prog 61 1 1 1:=⟨by unfold cB;kernel_rfl⟩
instance ajp:dy Tryz.prog 61 1 1 1:=⟨by unfold cI;kernel_rfl⟩
instance ajq:cE Tryz.prog 61 2 2 1:=⟨by unfold cB;kernel_rfl⟩
instance VD:dy Tryz.prog 61 2 2 1:=⟨by unfold cI;kernel_rfl⟩
theorem VE:cI Tryz.prog 61 2=some (2,1):=VD.h
instance ajr:cE Tryz.prog 61 3 3 1:=⟨by unfold cB;kernel_rfl⟩
instance VF:dy Tryz.prog 61 3 3 1:=⟨by unfold cI;kernel_rfl⟩
theorem VG:cI Tryz.prog 61 3=some (3,1):=VF.h
instance ajs:cE Tryz.prog 61 4 4 1:=⟨by unfold cB;kernel_rfl⟩
instance VH:dy Tryz.prog 61 4 4 1:=⟨by unfold cI;kernel_rfl⟩
theorem VI:cI Tryz.prog 61 4=some (4,1):=VH.h
instance ajt:cE Tryz.prog 61 5 5 1:=⟨by unfold cB;kernel_rfl⟩
instance VJ:dy Tryz.prog 61 5 5 1:=⟨by unfold cI;kernel_rfl⟩
theorem VK:cI Tryz.prog 61 5=some (5,1):=VJ.h
instance aju:cE Tryz.prog 61 6 6 1:=⟨by unfold cB;kernel_rfl⟩
instance VL:dy Tryz.prog 61 6 6 1:=⟨by unfold cI;kernel_rfl⟩
theorem VM:cI Tryz.prog 61 6=some (6,1):=VL.h
instance ajv:cE Tryz.prog 63 0 0 1:=⟨by unfold cB;kernel_rfl⟩
instance ajw:dy Tryz.prog 63 0 0 1:=⟨by unfold cI;kernel_rfl⟩
instance ajx:cE Tryz.prog 63 1 1 2:=⟨by unfold cB;kernel_rfl⟩
instance ajy:dy Tryz.prog 63 1 1 2:=⟨by unfold cI;kernel_rfl⟩
instance ajz:cE Tryz.prog 70 0 0 1:=⟨by unfold cB;kernel_rfl⟩
instance ajA:dy Tryz.prog 70 0 0 1:=⟨by unfold cI;kernel_rfl⟩
instance ajB:cE Tryz.prog 70 1 1 1:=⟨by unfold cB;kernel_rfl⟩
instance ajC:dy Tryz.prog 70 1 1 1:=⟨by unfold cI;kernel_rfl⟩
instance ajD:cE Tryz.prog 70 2 2 1:=⟨by unfold cB;kernel_rfl⟩
instance ajE:dy Tryz.prog 70 2 2 1:=⟨by unfold cI;kernel_rfl⟩
instance ajF:cE Tryz.prog 70 3 3 1:=⟨by unfold cB;kernel_rfl⟩
instance ajG:dy Tryz.prog 70 3 3 1:=⟨by unfold cI;kernel_rfl⟩
instance ajH:cE Tryz.prog 70 4 4 1:=⟨by unfold cB;kernel_rfl⟩
instance ajI:dy Tryz.prog 70 4 4 1:=⟨by unfold cI;kernel_rfl⟩
instance ajJ:cE Tryz.prog 70 5 5 2:=⟨by unfold cB;kernel_rfl⟩
instance ajK:dy Tryz.prog 70 5 5 2:=⟨by unfold cI;kernel_rfl⟩
instance ajL:cE Tryz.prog 70 6 7 1:=⟨by unfold cB;kernel_rfl⟩
instance ajM:dy Tryz.prog 70 6 7 1:=⟨by unfold cI;kernel_rfl⟩
instance ajN:cE Tryz.prog 70 7 8 1:=⟨by unfold cB;kernel_rfl⟩
instance ajO:dy Tryz.prog 70 7 8 1:=⟨by unfold cI;kernel_rfl⟩
instance ajP:cE Tryz.prog 70 8 9 1:=⟨by unfold cB;kernel_rfl⟩
instance ajQ:dy Tryz.prog 70 8 9 1:=⟨by unfold cI;kernel_rfl⟩
instance ajR:cE Tryz.prog 70 9 10 1:=⟨by unfold cB;kernel_rfl⟩
instance ajS:dy Tryz.prog 70 9 10 1:=⟨by unfold cI;kernel_rfl⟩
instance ajT:cE Tryz.prog 70 10 11 1:=⟨by unfold cB;kernel_rfl⟩
instance ajU:dy Tryz.prog 70 10 11 1:=⟨by unfold cI;kernel_rfl⟩
instance ajV:cE Tryz.prog 70 11 12 1:=⟨by unfold cB;kernel_rfl⟩
instance ajW:dy Tryz.prog 70 11 12 1:=⟨by unfold cI;kernel_rfl⟩
instance ajX:cE Tryz.prog 70 12 13 1:=⟨by unfold cB;kernel_rfl⟩
instance ajY:cE Tryz.prog 70 13 14 1:=⟨by unfold cB;kernel_rfl⟩
instance ajZ:cE Tryz.prog 75 0 0 1:=⟨by unfold cB;kernel_rfl⟩
instance aj0:dy Tryz.prog 75 0 0 1:=⟨by unfold cI;kernel_rfl⟩
instance aj1:cE Tryz.prog 75 1 1 5:=⟨by unfold cB;kernel_rfl⟩
instance aj2:dy Tryz.prog 75 1 1 5:=⟨by unfold cI;kernel_rfl⟩
instance aj3:cE Tryz.prog 75 2 6 1:=⟨by unfold cB;kernel_rfl⟩
instance aj4:cE Tryz.prog 95 0 0 1:=⟨by unfold cB;kernel_rfl⟩
instance aj5:dy Tryz.prog 95 0 0 1:=⟨by unfold cI;kernel_rfl⟩
instance aj6:cE Tryz.prog 95 1 1 1:=⟨by unfold cB;kernel_rfl⟩
instance aj7:cE Tryz.prog 104 0 0 1:=⟨by unfold cB;kernel_rfl⟩
instance aj8:dy Tryz.prog 104 0 0 1:=⟨by unfold cI;kernel_rfl⟩
instance aj9:cE Tryz.prog 104 1 1 1:=⟨by unfold cB;kernel_rfl⟩
instance aka:dy Tryz.prog 104 1 1 1:=⟨by unfold cI;kernel_rfl⟩
theorem og:zL Tryz.prog 36 2:=⟨by kernel_rfl,λxs ys w hx hy=>by
 match xs,ys,hx,hy with
 |[x0,x1],[y0,y1],_,_=>
  simp[go_sem,Tryz.underlying36]
  (repeat' split)<;>simp_all⟩
theorem uT:zL Tryz.prog 63 3:=⟨by kernel_rfl,λxs ys w hx hy=>by
 match xs,ys,hx,hy with
 |[x0,x1,x2],[y0,y1,y2],_,_=>
  simp[go_sem,Tryz.underlying63]
  (repeat' split)<;>simp_all⟩
theorem L4:zL Tryz.prog 104 2:=⟨by kernel_rfl,λxs ys w hx hy=>by
 match xs,ys,hx,hy with
 |[x0,x1],[y0,y1],_,_=>
  simp[go_sem,Tryz.underlying104]
  (repeat' split)<;>simp_all⟩
instance VN:ea Tryz.prog 119 true 2 16 (.agg #[.int .i64 0,.int .i64 0]):=⟨by kernel_rfl,by kernel_rfl⟩
theorem L5:Ty Tryz.prog 119 true 2 16 (.agg #[.int .i64 0,.int .i64 0]):=VN.h
theorem L6:∀I,bJ I [AV.val (.int .i64 0),AV.val (.int .i64 0)] (Value.cells (.agg #[.int .i64 0,.int .i64 0])).toList:=λ_=>⟨⟨rfl,rfl⟩,⟨rfl,rfl⟩,trivial⟩
instance VO:ji Tryz.prog 118 (.map 119 4):=⟨by kernel_rfl⟩
theorem VP:Tryz.prog.underlying 118=some (.map 119 4):=VO.h
instance VQ:ji Tryz.prog 119 (.array 2 3):=⟨by kernel_rfl⟩
theorem F0:Tryz.prog.underlying 119=some (.array 2 3):=VQ.h
instance akb:ji Tryz.prog 151 (.slice 54):=⟨by kernel_rfl⟩
end Go.Proofs.YtjepcfpkclegdaaGreat

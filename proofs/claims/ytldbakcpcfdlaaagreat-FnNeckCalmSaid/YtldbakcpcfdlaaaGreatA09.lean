/- Part 9: rules of the proofs. -/
import Derived.RangeFuncNested
import Derived.RangeFuncLeaves
import Derived.ProofKit
import Derived.OpenShut
import Derived.Deep.DeepHandedRow
import Derived.Deep.Slices
import Derived.Lib.LaidTab
import Derived.LaidSub
import Derived.Carry
import Derived.Test.YtldbakcpcfdlaaaGreatA08
set_option linter.all false
namespace Go.Proofs.YtldbakcpcfdlaaaGreat
open Go Go.RowKit
section
variable {P:Program} {c:Ctx} {I:Im} {H:List Own} {Γ:Env} {a:Act} {w:World} {Q:Exit->Act->World->Prop} {ops:Array Oper} {rest os:List Oper} {Hf:List (EA->Own)} {ms:Meta} {E:TypeId} {sz:Nat} {l:List (List AV)} {v:Value} {x:AV}
def aI.z7 {T ty:TypeId} {d m n:Nat} {p:String} {af:Array Edge} {zv:Value} {ag:Bool} {len:Nat} {gH:List (List AV)} {parts:List (Nat×Operand)} {ps:List (Nat×List AV)} (k:Nat) (hk:Hf[k]?=some λ_=>Own.gone) (hd:Nat.blt d c.n=true) (hT:P.underlying T=some (.slice E)) (hE:Ty P E ag n m zv) (fe:zv.cells.size=sz) (nI:∀u∈zv.cells.toList,u.oneCell'=true)
 (cF:Nat.blt 0 sz=true) (lE:Nat.blt 0 len=true) (rB:Nat.ble (len*sz) 16777216=true) (hp:aT (nH sz) (Γ.only ((⟨some d,.buildSlice T len parts.toArray,ty,p,af,none⟩:Oper).looksAt ops)) true (len*sz) parts ps) (jr:filled (List.replicate (len*sz) AV.any) ps=gH.flatten) (hlen:gH.length=len) (hr:∀r∈gH,r.length=sz) (hn:n=sz)
 (r:aI P c ops Q ((d,AV.ki)::Γ) (Hf.set k λa=>Own.row (a.tmps.getD d undef) E sz gH) os ms):aI P c ops Q Γ Hf (⟨some d,.buildSlice T len parts.toArray,ty,p,af,none⟩::os) (([k],some (k,[d]))::ms):=
 aI.cons (u:=some ⟨k,[d],λa=>Own.row (a.tmps.getD d undef) E sz gH⟩) (x:=AV.ki) (ql (g:=λv=>Own.row v E sz gH) λv v' e=>e▸rfl) (λF W0 I0 I γ a w Q U kk=>by
  refine U.z7 hd hT hE fe nI cF lE rB hp jr hlen hr hn λb I' a' w' bM=>?_;generalize TS:Value.slice (some ⟨b,0,none⟩) len len=v at bM;have h1:v.oneCell'=true:=by rw[<-TS];rfl
  have hv:a'.tmps.getD d undef=v:=bM.env d (.val v) (by simp[Env.get]);have ey:=bM.qk k (js hk);have jI:St ⟨W0.1,I0,c.n,W0.2⟩ I' ((dG [k] (ea a γ) F 0 Hf).set k (Own.row v E sz gH)) ((d,AV.ki)::Γ.only ((⟨some d,.buildSlice T len parts.toArray,ty,p,af,none⟩:Oper).looksAt ops)) a' w':=
   ⟨ey.step,ey.own,λt y e=>by
    simp only[Env.get] at e;cases hb:Nat.beq d t with
    |true=>rw[hb] at e;obtain rfl:d=t:=Nat.eq_of_beq_eq_true hb;simp at e;subst e;rw[hv];exact h1
    |false=>rw[hb] at e;exact ey.env t y (by simp only[Env.get,hb];exact e),ey.size,ey.defers⟩
  exact kk γ (λ_ _=>rfl) I' a' w' (jI.pass (kJ (a':=ea a' γ) (f:=λa=>Own.row (a.tmps.getD d undef) E sz gH) (by rw[hv])))) r
def TU (w:World) (d:Nat) (t e:TypeId) (q:Option Addr) (n k:Nat) (h:P.underlying t=some (.slice e)):(Op.equalIn (d+1) t (.slice q n k) (.slice none 0 0)).run P w=.ok q.isNone w:=by
 cases q<;>simp[Op.equalIn,run_underlying h]
def TV {g:Bool} {d:Option Tmp} {y z:Operand} {ty T T':TypeId} {p:String} {af:Array Edge} {gd:Option (Nat×Bool)} {q:Option Addr} {n k:Nat} (hT:P.underlying T=some (.slice E)) (hy:At Γ g y (.val (.slice q n k))) (hz:At Γ g z (.val (.slice none 0 0))):Ok P H Γ g ⟨d,.binOp .eql T y z T',ty,p,af,gd⟩ (.bool q.isNone):=
 gr λI a w he hg=>by
  have h1:a.eval y=.slice q n k:=hy I a he hg;have h2:a.eval z=.slice none 0 0:=hz I a he hg;simp only[execOp,h1,h2];simp[eqGuard,binOp,Op.equal,Op.maxDepth,TU w 9999 T E q n k hT]
def D8 {v:Value} (h:(Own.row v E sz l).ok I w) (hl:l≠[]):∃b cap,v=.slice (some ⟨b,0,none⟩) l.length cap:=by
 obtain⟨_,⟨h0,_⟩|⟨b,cap,cur,e,_⟩⟩:=h
 .exact absurd h0 hl
 exact⟨b,cap,e⟩
def vm:Value->Nat
 |.slice (some q) _ _=>q.block
 |_=>0
def vn {g:Bool} {d:Option Tmp} {y z:Operand} {ty T:TypeId} {p:String} {af:Array Edge} {gd:Option (Nat×Bool)} {ag:Bool} {m:Nat} {zv:Value} {i:Int} (k:Nat) (hT:P.underlying T=some (.slice E)) (hE:Ty P E ag sz m zv) (h:At Γ g y (.val v)) (hi:At Γ g z (.int i)) (hk:H[k]?=some (Own.row v E sz l)) (hb:g=true->0<=i/\i<l.length):
 Ok P H Γ g ⟨d,.indexAddr T y z,ty,p,af,gd⟩ (.val (.pointer (some ⟨vm v,i.toNat*sz,none⟩))):=
 fY λbase I a w he hm hw hg=>by
  obtain⟨h0,h1⟩:=hb hg;obtain⟨b,cap,rfl⟩:=D8 (hw.all _ (List.mem_of_getElem? hk)).1 (by rintro rfl;simp at h1;omega);have e:a.eval y=_:=h I a he hg;have e2:a.eval z=_:=hi I a he hg;have U:(sizeOf E).run P w=.ok sz w:=hE.size;refine⟨_,?_,rfl⟩;simp only[execOp,e,e2,Instr.indexAt,asIntOf,Sem.run_bind,Sem.run_pure,Result.andThen_ok,run_underlying hT];simp[h0,h1,add_plain,U,vm]
def KC {g:Bool} {d:Option Tmp} {y:Operand} {ty T:TypeId} {p:String} {af:Array Edge} {gd:Option (Nat×Bool)} {n m:Nat} {zv:Value} {q i j:Nat} {r:List AV} (k:Nat) (hT:Ty P T false n m zv) (h:At Γ g y (.val (.pointer (some ⟨vm v,q,none⟩)))) (hk:H[k]?=some (Own.row v E sz l))
 (hr:g=true->l[i]?=some r) (hq:q=i*sz+j) (hx:r[j]?=some x) (C2:Nat.blt j sz=true):Ok P H Γ g ⟨d,.load T y,ty,p,af,gd⟩ x:=
 fY λbase I a w he hm hw hg=>by
  obtain⟨b,cap,rfl⟩:=D8 (hw.all _ (List.mem_of_getElem? hk)).1 (by rintro rfl;simpa using hr hg);have e:a.eval y=_:=h I a he hg;have hj:j<sz:=by simpa using C2
  obtain⟨cs,h1,h2,h3⟩:=zH hk hw (hr hg) hq om;obtain⟨u,hu,C3,_⟩:=h1.get (i:=0) (x:=x) (by rw[List.getElem?_drop];simpa using hx);refine⟨u,?_,C3⟩;have hc:w.cell? ⟨b,q,none⟩=some u:=h3 0 u hu;simp only[execOp,e,Instr.loadAt,Instr.sureAddr,Sem.run_bind,Sem.run_pure,Result.andThen_ok,vm,wO hT hc]
def KD {g:Bool} {d:Option Tmp} {y:Operand} {ty T:TypeId} {p:String} {af:Array Edge} {gd:Option (Nat×Bool)} {m:Nat} {zv:Value} {q i:Nat} {r:List AV} (k:Nat) (hT:Ty P T true sz m zv) (h:At Γ g y (.val (.pointer (some ⟨vm v,q,none⟩)))) (hk:H[k]?=some (Own.row v E sz l))
 (hr:g=true->l[i]?=some r) (hq:q=i*sz):Ok P H Γ g ⟨d,.load T y,ty,p,af,gd⟩ (.agg r):=
 fY λbase I a w he hm hw hg=>by
  obtain⟨b,cap,rfl⟩:=D8 (hw.all _ (List.mem_of_getElem? hk)).1 (by rintro rfl;simpa using hr hg);have e:a.eval y=_:=h I a he hg;obtain⟨cs,h1,h2,h3⟩:=zH (q:=q) hk hw (hr hg) (j:=0) (by rw[hq];rfl) om;refine⟨.agg cs.toArray,?_,_,rfl,by simpa using h1⟩;have h4:∀t u,cs[t]?=some u->w.cell? ((⟨b,q,none⟩:Addr).add t)=some u:=λt u hu=>by rw[add_plain];exact h3 t u hu
  simp only[execOp,e,Instr.loadAt,Instr.sureAddr,Sem.run_bind,Sem.run_pure,Result.andThen_ok,vm,wP hT om h4]
def aI.KE {d:Nat} {f:FuncId} {ys:Array Operand} {ts:Array TypeId} {ty:TypeId} {p:String} {af:Array Edge} {xs:List AV} {ok:Value->Prop} {l2:List (List AV)} (k:Nat) (hk:Hf[k]?=some λ_=>Own.row v E sz l) (hd:Nat.blt d c.n=true) (hf:bJ P f xs [Own.row v E sz l] ok (λu=>[Own.row u E sz l2]) AV.val)
 (hO:∀I a,cM I a (Γ.only ((⟨some d,.call ⟨.value (.func f),ys,ts⟩,ty,p,af,none⟩:Oper).looksAt ops))->true=true->cP I xs (ys.map a.eval).toList)
 (r:aI P c ops Q ((d,AV.ki)::Γ) (Hf.set k λa=>Own.row (a.tmps.getD d undef) E sz l2) os ms):aI P c ops Q Γ Hf (⟨some d,.call ⟨.value (.func f),ys,ts⟩,ty,p,af,none⟩::os) (([k],some (k,[d]))::ms):=
 aI.cons (u:=some ⟨k,[d],λa=>Own.row (a.tmps.getD d undef) E sz l2⟩) (x:=AV.ki) (ql (g:=λv=>Own.row v E sz l2) λv v' e=>e▸rfl) (λF W0 I0 I γ a w Q U kk=>by
  have gK:(dG [k] (ea a γ) F 0 Hf)[k]?=some (Own.row v E sz l):=js hk;refine U.bz [k] hf hO (by simpa using gK) bt hd λv' I' a' w' _ bM=>?_;simp only[hole,fill,List.append_nil,List.set_set] at bM;have hv:a'.tmps.getD d undef=v':=bM.env d (.val v') (by simp[Env.get]);have s5:=bM.own.all (Own.row v' E sz l2) (List.mem_of_getElem? (i:=k) (by rw[List.getElem?_set_self (List.getElem?_eq_some_iff.1 gK).1]));have h1:v'.oneCell'=true:=by
   obtain⟨_,⟨_,rfl|⟨q,rfl,_⟩⟩|⟨b,cap,cur,rfl,_⟩⟩:=s5.1<;>rfl
  have jI:St ⟨W0.1,I0,c.n,W0.2⟩ I' ((dG [k] (ea a γ) F 0 Hf).set k (Own.row v' E sz l2)) ((d,AV.ki)::Γ.only ((⟨some d,.call ⟨.value (.func f),ys,ts⟩,ty,p,af,none⟩:Oper).looksAt ops)) a' w':=
   ⟨bM.step,bM.own,λt y e=>by
    simp only[Env.get] at e;cases hb:Nat.beq d t with
    |true=>rw[hb] at e;obtain rfl:d=t:=Nat.eq_of_beq_eq_true hb;simp at e;subst e;rw[hv];exact h1
    |false=>rw[hb] at e;exact bM.env t y (by simp only[Env.get,hb];exact e),bM.size,bM.defers⟩
  exact kk γ (λ_ _=>rfl) I' a' w' (jI.pass (kJ (a':=ea a' γ) (f:=λa=>Own.row (a.tmps.getD d undef) E sz l2) (by rw[hv])))) r
def St.TW {t:Nat} (U:St c I H Γ a w) (ht:Env.get t Γ=some (.rows sz l)):∃q cap,(q=none->l=[])/\St c I H ((t,.val (.slice q l.length cap))::Γ) a w:=by
 obtain⟨q,cap,e,h1,h2,h3,h4,h5⟩:=U.env t _ ht;refine⟨q,cap,λhq=>?_,U.step,U.own,λs u hu=>?_,U.size,U.defers⟩
 .rcases h4 with h4|⟨q',e',_⟩
  .exact h4
  rw[hq] at e';cases e'
 simp only[Env.get] at hu;cases hb:Nat.beq t s with
 |true=>
  rw[hb] at hu;simp at hu;subst hu
  obtain rfl:t=s:=Nat.eq_of_beq_eq_true hb
  exact e
 |false=>rw[hb] at hu;exact U.env s u hu
end
end Go.Proofs.YtldbakcpcfdlaaaGreat
set_option maxHeartbeats 1000000
namespace Go.Proofs.YtldbakcpcfdlaaaGreat
open Go Go.RowKit
def tg (o:Oper):Bool:=match o.op with|.defer _=>false|_=>true
def TX {o:Oper} (h:tg o=true):∀c,o.op≠.defer c:=λc e=>by simp[tg,e] at h
section
variable {P:Program} {ops:Array Oper} {Q:Exit->Act->World->Prop} {n:Nat}
def TY {F:Fence} {m:Nat} {o:Oper} {a:Act} {N N':Act->World->Prop} {Q':Exit->Act->World->Prop} {r:Result Next} (hd:F.depth=none) (hQ:∀a w,¬Q .outgrown a w)
 (hc:∀f args w R,Calls P f args w R->CallsIn F (m-1) P f args w R) (hr:∀row args w R,Rows P row args w R->RowsIn F (m-1) P row args w R)
 (hN:∀a w,N a w->N' a w) (hq:∀c a w,Q' (.panic c) a w->Q (.panic c) a w) (vg:∀a w,Q' .outgrown a w->Q .outgrown a w) (h:o.upon P a N Q' r):o.uponIn F m P a N' Q r:=by
 have hn:F.depth.isSome=true->1<=m:=by rw[hd];intro e;cases e
 cases r with
 |ok x w=>
  cases x with
  |value v=>exact hN _ _ h
  |skip=>exact hN _ _ h
  |defer d=>exact hN _ _ h
  |enter f args=>
   refine⟨hn,hc f args w _ (Calls.mono h λe w' he=>?_)⟩
   cases e with
   |returned v=>exact hN _ _ he
   |panicked c=>exact hq _ _ _ he
   |outgrown=>obtain⟨a0,w0,k⟩:=he;exact(hQ _ _ (vg _ _ k)).elim
  |row row args=>exact⟨hn,hr row args w _ (Rows.mono h λv w' he=>hN _ _ he)⟩
  |_=>exact h.elim
 |halt x w=>
  cases x with
  |panic v=>exact hq _ _ _ h
  |_=>exact h.elim
def D9 {F:Fence} (hF:∀f,F.fn f) (hd:F.depth=none) (hQ:∀a w,¬Q .outgrown a w)
 (hc:∀f args w R,Calls P f args w R->CallsIn F (n-1) P f args w R) (hr:∀row args w R,Rows P row args w R->RowsIn F (n-1) P row args w R) {rest:List Oper}:
 ∀(pre:List Oper),pre.all tg=true->∀a w,wpList P ops (Exit.then (wpListIn F n P ops Q rest) Q) pre a w->wpListIn F n P ops Q (pre++rest) a w
 |[],_,a,w,h=>h
 |o::pre,hp,a,w,h=>by
  simp only[List.all_cons,Bool.and_eq_true] at hp;have ih:=D9 hF hd hQ hc hr (rest:=rest) pre hp.2;simp only[List.cons_append,wpListIn];simp only[wpList] at h;split
  .rename_i hw;rw[if_pos hw] at h;rcases h with h|⟨_,a0,w0,h⟩
   .refine⟨λf _=>hF f,?_⟩;rw[Oper.semAt_eq _ _ _ (TX hp.1)];exact TY hd hQ hc hr ih (λ_ _ _ h=>h) (λ_ _ h=>h) h
   exact(hQ _ _ h).elim
  rename_i hw;rw[if_neg hw] at h;exact⟨λf _=>hF f,ih _ _ h⟩
def Am (hQ:∀a w,¬Q .outgrown a w) {a:Act} {w:World} (rest pre:List Oper) (hp:pre.all tg=true) (h:wpList P ops (Exit.then (wpListIn Fence.wide n P ops Q rest) Q) pre a w):wpListIn Fence.wide n P ops Q (pre++rest) a w:=
 D9 (λ_=>trivial) rfl hQ (λf args w R h=>callsIn_wide.2 h) (λrow args w R h c cs _=>let⟨v,w',r,s⟩:=h c cs;⟨v,w',r,stepsIn_wide.2 s⟩) pre hp a w h
def list_round (lp:Nat) (hQ:∀a w,¬Q .outgrown a w) {a:Act} {w:World} (rest pre:List Oper) (hp:pre.all tg=true) (h:wpList P ops (Exit.then (wpListIn (Fence.wide.inRound lp) n P ops Q rest) Q) pre a w):wpListIn (Fence.wide.inRound lp) n P ops Q (pre++rest) a w:=
 D9 (λ_=>trivial) rfl hQ (λf args w R h=>CallsIn.inRound lp (callsIn_wide.2 h)) (λrow args w R h c cs _=>let⟨v,w',r,s⟩:=h c cs;⟨v,w',r,stepsIn_wide.2 s⟩) pre hp a w h
def then_self {F:Fence}:Exit.then (wpListIn F n P ops Q []) Q=Q:=by
 funext e a w;cases e<;>rfl
def vo {id:Nat} {l:List Oper} (hQ:∀a w,¬Q .outgrown a w) {a:Act} {w:World} (hp:l.all tg=true) (h:wpList P l.toArray Q l a w):(Code.region id l.toArray false).wpIn Fence.wide n P Q a w:=
 wpIn_region_lit (by
  have:=Am (P:=P) (ops:=l.toArray) (n:=n) hQ (a:=a) (w:=w) [] l hp (by rw[then_self];exact h);simpa using this)
def Ea {id lp:Nat} {l:List Oper} (hQ:∀a w,¬Q .outgrown a w) {a:Act} {w:World} (hp:l.all tg=true) (h:wpList P l.toArray Q l a w):(Code.region id l.toArray false).wpIn (Fence.wide.inRound lp) n P Q a w:=
 wpIn_region_lit (by
  have:=list_round (P:=P) (ops:=l.toArray) (n:=n) lp hQ (a:=a) (w:=w) [] l hp (by rw[then_self];exact h);simpa using this)
def Act.defer (a:Act) (ds:List Deferred):Act:={a with defers:=a.defers++ds}
def vu (a:Act) (ds:List Deferred) (d:Option Tmp) (v:Value):(Act.defer a ds).put d v=Act.defer (a.put d v) ds:=by
 cases d<;>rfl
def KF (a:Act) (ds:List Deferred):(Act.defer a ds).eval=a.eval:=by
 funext o;cases o<;>rfl
def KG (ds:List Deferred) {N:Exit->Act->World->Prop} (hN:∀e a w,Q e a w->N e (Act.defer a ds) w):
 ∀(l:List Oper) (a:Act) (w:World),wpList P ops Q l a w->wpList P ops N l (Act.defer a ds) w
 |[],a,w,h=>hN _ _ _ h
 |o::l,a,w,h=>by
  have ih:=KG ds hN l;simp only[wpList] at h⊢;have e1:Region.wanted o (yielded ops (Act.defer a ds).tmps)=Region.wanted o (yielded ops a.tmps):=rfl;rw[e1];split
  .rename_i hw;rw[if_pos hw] at h;rcases h with h|⟨h,a0,w0,k⟩
   .refine .inl ?_;unfold Oper.wp at h⊢;rw[KF];cases hr:(execOp a.eval o).run P w with
    |ok x w'=>
     rw[hr] at h
     cases x with
     |value v=>show wpList _ _ _ _ _ _;rw[vu];exact ih _ _ h
     |skip=>show wpList _ _ _ _ _ _;rw[vu];exact ih _ _ h
     |defer d=>have:=ih _ _ h;rw[<-vu] at this;exact this
     |enter f args=>
      refine Calls.mono (show Calls _ _ _ _ _ from h) λe w' he=>?_
      cases e with
      |returned v=>show wpList _ _ _ _ _ _;rw[vu];exact ih _ _ he
      |panicked c=>exact hN _ _ _ he
      |outgrown=>obtain⟨a0,w0,k⟩:=he;exact⟨_,_,hN _ _ _ k⟩
     |row row args=>exact Rows.mono (show Rows _ _ _ _ _ from h) λv w' he=>by show wpList _ _ _ _ _ _;rw[vu];exact ih _ _ he
     |_=>exact h.elim
    |halt x w'=>
     rw[hr] at h
     cases x with
     |panic v=>exact hN _ _ _ h
     |_=>exact h.elim
   refine .inr ⟨?_,_,_,hN _ _ _ k⟩;unfold Oper.asks at h⊢;rw[KF];exact h
  rename_i hw;rw[if_neg hw] at h;rw[vu];exact ih _ _ h
end
def dx.grown {w w':World} {I:Im} {row:Option Nat} (h:dx w I) (hg:w.grownBy w' row) (hr:∀r,row=some r->∃o:Obj,w.heap[r]?=some o/\o.isCells=false):dx w' I:=λb cs e=>by
 obtain⟨T,fr,k⟩:=h b cs e;exact⟨T,fr,(grownBy_keeps_cells hg hr k rfl).trans k⟩
def TZ {F:Fence} {n:Nat} {P:Program} {Q:Exit->Act->World->Prop} {next:Act->World->Prop} {R:Ending->World->Prop} {a:Act} {w:World} {d:Tmp} {t:Operand} {ys:Array Operand} {ts:Array TypeId} {ty:TypeId} {p:String} {af:Array Edge}
 {l:Nat} {xs:Array Value} (hF:∀f,F.fn f) (hd:F.depth=none) (hv:a.eval t=.func (.yield l) #[] #[]) (hx:ys.map a.eval=xs) (hy:YieldAt F (n-1) P l xs w R)
 (k:∀e w',R e w'->∃v,e=.returned v/\next (a.put (some d) v) w'):Oper.wpIn F n P ⟨some d,.call ⟨.value t,ys,ts⟩,ty,p,af,none⟩ a w next Q:=by
 obtain⟨fn,tmps,assign,body,hr,hR⟩:=hy;refine⟨λf _=>hF f,?_⟩;rw[Oper.semAt_eq _ _ _ (λc e=>by cases e)];have ia:(execOp a.eval (⟨some d,.call ⟨.value t,ys,ts⟩,ty,p,af,none⟩:Oper)).run P w=.ok (.round l fn tmps assign body) w:=by
  simp only[execOp,resolve,hv,hx];simp[go_sem,hr]
 rw[ia];refine⟨λe=>(by rw[hd] at e;cases e),RoundIn.mono hR λe w' he=>?_⟩;obtain⟨v,rfl,h⟩:=k e w' he;exact h
def St.enter {W:World} {I:Im} {N:Nat} {F:Nat->Prop} {args:List AV} {vs:Array Value} {m:Nat} (hm:dx W I) (ha:cP I args vs.toList) (hn:vs.size+(m-vs.size)=N):
 St ⟨W,I,N,F⟩ I [] (ke 0 args) {tmps:=vs++Array.replicate (m-vs.size) undef,defers:=[]} W:=by
 refine⟨eF.refl hm,bO.nil _ _ _,?_,by simp;omega,rfl⟩;intro t x e;have:=wR args vs.toList [] (List.replicate (m-vs.size) undef) ha t x e;have heq:(vs++Array.replicate (m-vs.size) undef)=([]++vs.toList++List.replicate (m-vs.size) undef).toArray:=by
  apply Array.toList_inj.1;simp
 rw[heq];exact this
def Kept.trans {F:Nat->Prop} {A B C:World} (h:Kept F A B) (k:Kept F B C):Kept F A C:=
 ⟨k.os.trans h.os,k.tape.trans h.tape,k.output.trans h.output,Nat.le_trans h.size k.size,λi hi hf=>(k.block i (Nat.lt_of_lt_of_le hi h.size) hf).trans (h.block i hi hf)⟩
def dx.kept {F:Nat->Prop} {A B:World} {I:Im} (h:dx A I) (hF:∀b cs,I b=some cs->¬F b) (k:Kept F A B):dx B I:=λb cs e=>by
 obtain⟨T,fr,hb⟩:=h b cs e;exact⟨T,fr,(k.block b (h.lt e) (hF b cs e)).trans hb⟩
def St.An {c:Ctx} {I:Im} {H:List Own} {Γ:Env} {a:Act} {w:World} {d:Nat} {x:AV} {v:Value} (U:St c I H Γ a w) (hd:d<c.n) (hx:x.h I v):St c I H ((d,x)::Γ) (a.put (some d) v) w:=
 ⟨U.step,U.own,U.env.put (by rw[U.size];exact hd) hx,by simp[Act.put,U.size],U.defers⟩
def T0 {F:Nat->Prop} {P:Program} {f:FuncId} {fn:Func} {code:Code} {n:Nat} {I:Im} {W:World} {args:List AV} {vs:Array Value} {R:Ending->World->Prop} (N:Nat) (hf:P.funcs[f]?=some fn) (hb:fn.body=some code) (hn:fn.ntmps=N)
 (hN:Nat.ble args.length N=true) (hm:dx W I) (ha:cP I args vs.toList) (h:∀a,St ⟨W,I,N,F⟩ I [] (ke 0 args) a W->code.wpIn Fence.wide n P (bodyPost P fn R) a W):CallsIn Fence.wide n P f vs W R:=
 callsIn_of_wp hf hb trivial (h _ (St.enter hm ha (by have h1:=ha.length;have h2:=Nat.le_of_ble_eq_true hN;rw[Array.length_toList] at h1;omega)))
def T3 {F:Nat->Prop} {P:Program} {f:FuncId} {fn:Func} {code:Code} {n:Nat} {I:Im} {W:World} {args:List AV} {vs:Array Value} {R:Ending->World->Prop} (N:Nat) (hf:P.funcs[f]?=some fn) (hb:fn.body=some code) (hn:fn.ntmps=N)
 (hN:Nat.ble args.length N=true) (hm:dx W I) (ha:cP I args vs.toList) (h:∀a,St ⟨W,I,N,F⟩ I [] (ke 0 args) a W->code.wpIn Fence.wide n P (bodyPostM Fence.wide n P fn R) a W):CallsIn Fence.wide n P f vs W R:=
 callsIn_of_wp_marks hf hb trivial (h _ (St.enter hm ha (by have h1:=ha.length;have h2:=Nat.le_of_ble_eq_true hN;rw[Array.length_toList] at h1;omega)))
def Eb:∀{l:List (Nat×Value)} {t:Nat} {x:AV},Env.get t (l.map λp=>(p.1,AV.val p.2))=some x->∃v,(t,v)∈l/\x=.val v
 |[],t,x,e=>by simp[Env.get] at e
 |p::l,t,x,e=>by
  simp only[List.map_cons,Env.get] at e;cases hb:Nat.beq p.1 t with
  |true=>
   rw[hb] at e
   obtain rfl:p.1=t:=Nat.eq_of_beq_eq_true hb
   exact⟨p.2,by simp,(Option.some.inj e).symm⟩
  |false=>
   rw[hb] at e
   obtain⟨v,h1,h2⟩:=Eb (l:=l) e
   exact⟨v,List.mem_cons_of_mem _ h1,h2⟩
def St.base {c:Ctx} {I:Im} {H:List Own} {Γ:Env} {a:Act} {w:World} (l:List (Nat×Value)) (U:St c I H Γ a w) (hl:l.map (λp=>Env.get p.1 Γ)=l.map (λp=>some (AV.val p.2)):=by rfl):St ⟨w,c.I,c.n,jD⟩ c.I [] (l.map λp=>(p.1,AV.val p.2)) a w:=by
 refine⟨eF.refl λb cs e=>U.step.cX b cs (U.step.le b cs e),bO.nil _ _ _,λt x e=>?_,U.size,U.defers⟩;obtain⟨v,hv,rfl⟩:=Eb e;have:=List.map_inj_left.1 hl _ hv;exact U.env t _ this
def St.DL {G:Nat->Prop} {c:Ctx} {I:Im} {H:List Own} {Γ:Env} {a:Act} {w w':World} (l:List (Nat×Value)) (U:St c I H Γ a w) (hG:∀b cs,c.I b=some cs->¬G b) (k:Kept G w w') (hl:l.map (λp=>Env.get p.1 Γ)=l.map (λp=>some (AV.val p.2)):=by rfl):St ⟨w',c.I,c.n,jD⟩ c.I [] (l.map λp=>(p.1,AV.val p.2)) a w':=
 have h:=U.base l hl
 ⟨eF.refl (h.step.cX.kept hG k),bO.nil _ _ _,h.env,h.size,h.defers⟩
def St.blank {c:Ctx} {I:Im} {H:List Own} {Γ:Env} {a:Act} {w:World} (w':World) (l:List (Nat×Value)) (U:St c I H Γ a w) (hl:l.map (λp=>Env.get p.1 Γ)=l.map (λp=>some (AV.val p.2)):=by rfl):St ⟨w',λ_=>none,c.n,jD⟩ (λ_=>none) [] (l.map λp=>(p.1,AV.val p.2)) a w':=
 have h:=U.base l hl
 ⟨eF.refl λb cs e=>(by cases e),bO.nil _ _ _,λt x e=>(by obtain⟨v,_,rfl⟩:=Eb e;exact h.env t _ e),h.size,h.defers⟩
def St.grown {c:Ctx} {I:Im} {H:List Own} {Γ:Env} {a:Act} {w:World} (U:St c I H Γ a w) (hF:c.F=jD):c.W.grownBy w none:=
 ⟨U.step.below.os,U.step.below.tape,U.step.below.output,U.step.below.size,λk hk _=>U.step.below.block k hk (by rw[hF];exactλh=>h)⟩
def KH {I:Im}:∀{l:List AV} {cs:List Value},bm I l cs->bm I (cs.map AV.val) cs
 |[],[],_=>trivial
 |_::_,_::_,h=>⟨⟨rfl,h.1.2⟩,KH h.2⟩
 |[],_::_,h=>h.elim
 |_::_,[],h=>h.elim
def KI {I:Im}:∀{r cs:List Value},bm I (r.map AV.val) cs->cs=r
 |[],[],_=>rfl
 |x::r,y::cs,h=>by rw[KI h.2,show y=x from h.1.1]
 |[],_::_,h=>h.elim
 |_::_,[],h=>h.elim
def T4 {I:Im} {r:List Value} {v:Value} (h:(AV.agg (r.map AV.val)).h I v):v=.agg r.toArray:=by
 obtain⟨cs,e,hc⟩:=h;rw[e,<-KI hc]
def KJ {I:Im} {sz:Nat}:∀{l:List (List AV)} {cs:List Value},(∀r∈l,r.length=sz)->bm I l.flatten cs->
 ∃vs:List (List Value),vs.length=l.length/\vs.flatten=cs/\(∀r∈vs,r.length=sz)/\∀i,i<l.length->bm I (nth l i) (vs.getD i [])
 |[],[],_,_=>⟨[],rfl,rfl,by simp,λi h=>by simp at h⟩
 |[],_::_,_,h=>h.elim
 |r::l,cs,hr,h=>by
  have h1:bm I r (cs.take sz):=(h.take r.length).cast bt (by rw[hr r bt]);have h2:bm I l.flatten (cs.drop sz):=(h.drop r.length).cast bt (by rw[hr r bt]);obtain⟨vs,e1,e2,e3,e4⟩:=KJ (λx hx=>hr x (by simp[hx])) h2;refine⟨cs.take sz::vs,by simp[e1],by simp[e2],λx hx=>?_,λi hi=>?_⟩
  .rcases List.mem_cons.1 hx with rfl|hx
   .rw[h1.length];exact hr r bt
   exact e3 x hx
  cases i with
  |zero=>exact h1
  |succ i=>exact e4 i (by simpa using hi)
def T5 {I:Im} {sz:Nat} {l:List (List AV)} {v:Value} (h:(AV.rows sz l).h I v):
 ∃vs:List (List Value),vs.length=l.length/\(∀r∈vs,r.length=sz)/\(AV.rows sz (vs.map (·.map AV.val))).h I v/\∀i,i<l.length->bm I (nth l i) (vs.getD i []):=by
 obtain⟨p,cap,e,h1,h2,h3,h4,h5⟩:=h;rcases h4 with rfl|⟨q,hq,U,cs,hI,hh⟩
 .exact⟨[],rfl,by simp,⟨p,cap,e,h1,h2,by simp,.inl rfl,h5⟩,λi hi=>by simp at hi⟩
 obtain⟨vs,e1,e2,e3,e4⟩:=KJ h3 hh;have e5:(vs.map (·.map AV.val)).flatten=vs.flatten.map AV.val:=(List.map_flatten ..).symm;refine⟨vs,e1,e3,⟨p,cap,by rw[List.length_map,e1];exact e,by rw[List.length_map,e1];exact h1,h2,λr hr=>?_,.inr ⟨q,hq,U,cs,hI,?_⟩,h5⟩,e4⟩
 .obtain⟨x,hx,rfl⟩:=List.mem_map.1 hr;rw[List.length_map];exact e3 x hx
 rw[e5,List.length_map,e2];refine(KH hh).cast rfl ?_;rw[hh.length]
def St.oU {P:Program} {c:Ctx} {I:Im} {H:List Own} {Γ:Env} {a:Act} {w:World} {Q:Exit->Act->World->Prop} {ops:Array Oper} {rest:List Oper} {d:Nat} {op:Op} {ty:TypeId} {p:String} {af:Array Edge} {x y:AV} {v:Value} (t:Nat)
 (U:St c I H Γ a w) (hy:y.h c.I v) (ok:Ok P H ((t,y)::Γ) true ⟨some d,op,ty,p,af,none⟩ x) (k:∀{I' a' w'},St c I' H ((d,x)::Γ) a' w'->wpList P ops Q rest a' w') (ht:Env.get t Γ=some (.val v):=by rfl) (hd:Nat.blt d c.n=true:=by rfl):
 wpList P ops Q (⟨some d,op,ty,p,af,none⟩::rest) a w:=by
 unfold wpList;rw[if_pos (by simp[Region.wanted])];exact .inl (ok c.own I a w _ _ (U.sQ ht (y.up _ _ _ U.step.le hy)).env U.step.cX U.own rfl λv I' w' hx s=>k (U.put (by simpa using hd) hx s))
def St.re {c:Ctx} {I:Im} {H:List Own} {Γ:Env} {a:Act} {w:World} (U:St c I H Γ a w):St ⟨w,I,c.n,dz H⟩ I H Γ a w:=
 ⟨eF.refl U.step.cX,U.own.exact.weaken λb h=>.inr h,U.env,U.size,U.defers⟩
def St.un {c:Ctx} {I I2:Im} {H H2:List Own} {Γ Γ2:Env} {a a2:Act} {w w2:World} (U:St c I H Γ a w) (h:St ⟨w,I,c.n,dz H⟩ I2 H2 Γ2 a2 w2):St c I2 H2 Γ2 a2 w2:=by
 have dN:∀b,dz H b->c.own b:=λb k=>(let⟨o,ho,hb⟩:=qu.1 k;((U.own.all o ho).2 b hb).1);have m6:∀b,b<c.W.heap.size->¬c.F b->¬dz H b:=λb h1 h2 h3=>(dN b h3).elim (λh=>by omega) h2;have cF:=U.step.below.size;refine⟨⟨Im.le_trans U.step.le h.step.le,λb hb hf=>(h.step.fL b (Nat.lt_of_lt_of_le hb cF) (m6 b hb hf)).trans (U.step.fL b hb hf),h.step.cX,
  ⟨h.step.below.os.trans U.step.below.os,h.step.below.tape.trans U.step.below.tape,h.step.below.output.trans U.step.below.output,Nat.le_trans cF h.step.below.size,
   λk hk hf=>(h.step.below.block k (Nat.lt_of_lt_of_le hk cF) (m6 k hk hf)).trans (U.step.below.block k hk hf)⟩⟩,
  ⟨λo ho=>⟨(h.own.all o ho).1,λb hb=>⟨?_,((h.own.all o ho).2 b hb).2⟩⟩,h.own.apart⟩,h.env,h.size,h.defers⟩
 rcases((h.own.all o ho).2 b hb).1 with k|k
 .exact .inl (Nat.le_trans cF k)
 exact dN b k
def boxes (H:List Own):Prop:=∀o∈H,∃b T l,o=Own.box b T l
def KK {base:Nat->Prop} {I:Im} {w:World} {H:List Own} (h:bO base I w H) (hb:boxes H) {b:Nat} (k:dz H b):∃o:Obj,w.heap[b]?=some o/\o.isCells=true:=by
 obtain⟨o,ho,e⟩:=qu.1 k;obtain⟨b',T,l,rfl⟩:=hb o ho;obtain rfl:b'=b:=e;obtain⟨⟨cs,h1,_⟩,_⟩:=h.all _ ho;exact⟨_,h1,rfl⟩
def St.keeps {I I2:Im} {H H2:List Own} {Γ2:Env} {a2:Act} {w w2:World} {n:Nat} {base:Nat->Prop} (h:St ⟨w,I,n,dz H⟩ I2 H2 Γ2 a2 w2) (ho:bO base I w H) (hb:boxes H):KeepsOthers w w2:=
 ⟨h.step.below.size,λk o hk hc=>(h.step.below.block k (Array.getElem?_eq_some_iff.1 hk).1 λe=>by
  obtain⟨o',h1,h2⟩:=KK ho hb e;rw[hk] at h1;cases h1;rw[hc] at h2;cases h2).trans hk⟩
def St.Ao {c:Ctx} {I:Im} {H:List Own} {Γ:Env} {a:Act} {w w':World} {row:Option Nat} (U:St c I H Γ a w) (hb:boxes H) (hg:w.grownBy w' row) (hr:∀r,row=some r->c.W.heap.size<=r/\∃o:Obj,w.heap[r]?=some o/\o.isCells=false):St c I H Γ a w':=by
 have pf:∀b,(∃o:Obj,w.heap[b]?=some o/\o.isCells=true)->w'.heap[b]?=w.heap[b]?:=λb ⟨o,h1,h2⟩=>grownBy_keeps_cells hg (λr e=>(hr r e).2) h1 h2;refine⟨⟨U.step.le,U.step.fL,U.step.cX.grown hg λr e=>(hr r e).2,⟨hg.os.trans U.step.below.os,hg.tape.trans U.step.below.tape,hg.output.trans U.step.below.output,Nat.le_trans U.step.below.size hg.size,
  λk hk hf=>(hg.block k (Nat.lt_of_lt_of_le hk U.step.below.size) λe=>by have:=(hr k e.symm).1;omega).trans (U.step.below.block k hk hf)⟩⟩,⟨λo ho=>?_,U.own.apart⟩,U.env,U.size,U.defers⟩
 obtain⟨h1,h2⟩:=U.own.all o ho;refine⟨o.jd I I w w' (Im.le_refl I) (λb e=>pf b (KK U.own hb (qu.2 ⟨o,ho,e⟩))) h1,λb e=>?_⟩;obtain⟨k1,k2,k3⟩:=h2 b e;exact⟨k1,k2,Nat.lt_of_lt_of_le k3 hg.size⟩
def St.back {c:Ctx} {I I2:Im} {H H2 H3:List Own} {Γ Γ2:Env} {a a2:Act} {w w2:World} (U:St c I H Γ a w) (h:St c I2 (H2++H3) Γ2 a2 w2) (hle:Im.le I I2):St c I2 H2 Γ a w2:=
 ⟨h.step,⟨λo ho=>h.own.all o (List.mem_append_left _ ho),(List.pairwise_append.1 h.own.apart).1⟩,U.env.up hle,U.size,U.defers⟩
def T6 {G:Nat->Prop} {n0:Nat} (hG:∀b,n0<=b->G b) (W:World) (l:Nat) (o':Obj) (h:n0<=l):Kept G W (W.putObj l o'):=by
 have hg:=grownBy_putObj' W l o';exact⟨hg.os,hg.tape,hg.output,hg.size,λk hk hf=>hg.block k hk λe=>hf (by cases e;exact hG l h)⟩
def get_mem:∀{Γ:Env} {t:Nat} {x:AV},Env.get t Γ=some x->(t,x)∈Γ
 |[],t,x,e=>by simp[Env.get] at e
 |p::r,t,x,e=>by
  simp only[Env.get] at e;cases hb:Nat.beq p.1 t with
  |true=>rw[hb] at e;obtain rfl:p.1=t:=Nat.eq_of_beq_eq_true hb
         obtain rfl:p.2=x:=Option.some.inj e
         exact List.mem_cons_self ..
  |false=>rw[hb] at e;exact List.mem_cons_of_mem _ (get_mem e)
def St.pick {c:Ctx} {I:Im} {H:List Own} {Γ:Env} {a:Act} {w:World} (Γ':Env) (U:St c I H Γ a w) (h:Γ'.map (λp=>Env.get p.1 Γ)=Γ'.map (λp=>some p.2):=by rfl):St c I H Γ' a w:=
 ⟨U.step,U.own,λt x e=>U.env t x (List.map_inj_left.1 h _ (get_mem e)),U.size,U.defers⟩
def St.leave {P:Program} {c:Ctx} {I:Im} {H:List Own} {Γ:Env} {a:Act} {w:World} {n D:Nat} {fn:Func} {rs:List ResultVar} {xs:List AV} {res:AV} (U:St c I H Γ a w) (hb:boxes H) (hD:c.W.heap.size<=D) (hK:w.heap[D]?=some (.deferred (some []))) (hF:c.F=jD)
 (hr:fn.results=rs.toArray) (h:aX P H Γ rs xs) (e:qg xs=res):LeavesInM Fence.wide n P fn a.tmps (uN c.I c.W res) [{target:=.collected D,args:=#[]}] .returning w:=by
 subst e;have ey:=U.Ao hb (grownBy_putObj' w D (.deferred none)) (λr e=>by cases e;exact⟨hD,_,hK,rfl⟩);obtain⟨v,h1,h2⟩:=ey.xc hr h;refine⟨by simp,.inl ⟨_,_,rfl,run_takeDeferred hK,v,h1,I,?_,h2⟩⟩;have:=ey.step;rw[hF] at this;exact this.all
def Kept.mono {F G:Nat->Prop} {A B:World} (h:Kept F A B) (k:∀b,F b->G b):Kept G A B:=⟨h.os,h.tape,h.output,h.size,λi hi hf=>h.block i hi λe=>hf (k i e)⟩
def St.KL {c:Ctx} {I I2:Im} {H H2:List Own} {Γ Γ2:Env} {a a2:Act} {w w2:World} {n:Nat} (U:St c I H Γ a w) (h:St ⟨w,I,n,dz H⟩ I2 H2 Γ2 a2 w2):Kept c.own w w2:=
 h.step.below.mono λb k=>(let⟨o,ho,hb⟩:=qu.1 k;((U.own.all o ho).2 b hb).1)
def St.vw {c:Ctx} {I:Im} {H H':List Own} {Γ:Env} {a:Act} {w:World} (U:St c I H Γ a w) (e:H=H'):St c I H' Γ a w:=e▸U
end Go.Proofs.YtldbakcpcfdlaaaGreat
namespace Go.Proofs.YtldbakcpcfdlaaaGreat
open Go Go.RowKit Go.ChangeShapes Go.WideShapes Go.ChangeAt
section
variable {H:Type} {enc:TypeId×Value->H} {P:Program}
def oZ (W:World):Im:=λb=>match W.heap[b]? with
 |some (.cells cs _ _)=>some cs
 |_=>none
def QM (W:World):dx W (oZ W):=λb cs e=>by
 unfold oZ at e;split at e
 .rename_i iv T fr h;cases e;exact⟨T,fr,h⟩
 cases e
def T7 {W:World} {b:Nat} {cs:Array Value} {T:TypeId} {fr:Nat×Nat} (h:W.heap[b]?=some (.cells cs T fr)):oZ W b=some cs:=by unfold oZ;rw[h]
def KM {W:World} {a:Addr} {v:Value} (h:W.cell? a=some v):a.spot=none/\∃cs T fr,W.heap[a.block]?=some (.cells cs T fr)/\cs[a.off]?=some v:=by
 have U:=World.cell?_spot h;refine⟨U,?_⟩;unfold World.cell? at h;rw[U] at h;split at h
 .rename_i cs T fr he;exact⟨cs,T,fr,he,by simpa using h⟩
 simp at h
def T8 {W:World} {base:Nat} {a:Addr} {n:Nat} {iv:List Value} {cs:Array Value} {T:TypeId} {fr:Nat×Nat} (h:W.cells? base a n=some iv) (ha:W.heap[a.block]?=some (.cells cs T fr)):(cs.toList.drop a.off).take n=iv:=by
 obtain⟨_,hl,hc⟩:=World.cells?_some h;apply List.ext_getElem?;intro i;rw[List.getElem?_take];split
 .rename_i hi;rw[<-hc i hi,List.getElem?_drop];obtain⟨v,hv⟩:∃v,iv[i]?=some v:=⟨iv[i]'om,by simp[hl,hi]⟩
  obtain⟨_,T9,T2,fr2,h2,h3⟩:=KM ((hc i hi).trans hv);have hb:(a.add i).block=a.block:=by unfold Addr.add;split<;>rfl
  have ho:(a.add i).off=a.off+i:=by unfold Addr.add;split<;>simp_all
  rw[hb,ha] at h2;cases h2;rw[hc i hi,hv,<-ho];simpa using h3
 rename_i hi;rw[List.getElem?_eq_none om]
def QN {f:Func} {s:ChangeSpec} {apart fresh handsOn again:Bool} {W W':World} {args:Array Value} {v:Value} {ds gs:List (DataW H)} {before pa pv:List MemPlace}
 (hW:DataW.Whole enc P f.params.toList s.vars apart W args.toList ds gs before)
 (KN:∀(b:Nat) (sp:Nat->Bool) (hd:Bool),DataW.TrodAll enc P W' b sp hd f.resultTypes.toList (v.resultList f.resultTypes.size) (s.fn H (ds++gs)).results [])
 (hO:∀sp:Nat->Bool,(∀p∈before,sp p.block=true)->DataW.TrodAll enc P W' 0 sp true f.params.toList args.toList (s.fn H (ds++gs)).args pa)
 (KO:∀sp:Nat->Bool,(∀p∈before,sp p.block=true)->DataW.TrodVars enc P W' sp s.vars (s.fn H (ds++gs)).vars pv)
 (Ap:before=pa++pv) (hb:Below W.heap.size W W')
 (al:∀(j:Nat) (t:TypeId) (r:Value),f.resultTypes[j]?=some t->(v.resultList f.resultTypes.size)[j]?=some r->Value.okWide P W' .any 0 t r):
 s.post enc P f apart fresh handsOn again W args v W':=by
 have cj:=λp hp=>hW.lt p hp;have hold:∀p∈before,(λb=>decide (b<W.heap.size)) p.block=true:=λp hp=>by simpa using cj p hp
 refine⟨ds,gs,before,[],pa,pv,hW,KN _ _ _,hO _ hold,KO _ hold,World.keptBut_mono (λp hp=>⟨hp,?_⟩) (hb.frame (·∈before)),λ_=>?_⟩
 .rw[Ap,List.mem_append] at hp;exact Or.inr hp
 obtain⟨_,_,_,_,_,hz,hn⟩:=hW;refine⟨al,_,_,([]++pa)++pv,⟨[]++pa,pv,ChangeShapes.trodAll_append (hO _ (λ_ _=>rfl)) (KN _ _ _),KO _ (λ_ _=>rfl),rfl,?_,?_⟩,?_⟩
 .intro b off hp;have Ec:MemPlace.cell b off∈before:=by rw[Ap];simpa using hp
  rw[hb.frozen (p:=⟨b,off,none⟩) (cj _ Ec)];exact hz b off Ec
 .intro ha;have:=hn ha;rw[Ap] at this;simpa using this
 intro p hp _;rw[Ap];simpa using hp
end
section
variable {H:Type} {enc:TypeId×Value->H} {P:Program} {W:World}
def xI {α:Type} (enc:TypeId×Value->H) (P:Program) (W:World) (cf:α->List AV) (Fit:α->Prop) (t:TypeId):Prop:=
 ∀n cs x,DataW.trod enc P W 0 (λ_=>true) true n t cs=some x->∃y:α,bm (oZ W) (cf y) cs/\Fit y
def Ua {α:Type} [Inhabited α] {cf:α->List AV} {Fit:α->Prop} {sz:Nat} {t e:TypeId} (hu:P.underlying t=some (.slice e)) (hc:P.cellsOf e=sz) (h0:0<sz) (cF:∀y,(cf y).length=sz) (ho:xI enc P W cf Fit e):
 xI enc P W (λl:List α=>[AV.rows sz (l.map cf)]) (λl=>∀y∈l,Fit y) t:=λn cs x h=>by
 rcases Deep.open_slice hu h with⟨rfl,_⟩|⟨a,len,cap,m,n,D,Pl,rfl,_,Ub,CZ,hm,_,KP⟩
 .exact⟨[],⟨⟨fA _ _,rfl⟩,trivial⟩,by simp⟩
 have hle:len<=m:=by rw[hm];split<;>omega
 rw[hc] at KP;have ch:∀i:Nat,∃y:α,i<len->(∃iv,W.cells? 0 (a.add (i*sz)) sz=some iv/\bm (oZ W) (cf y) iv)/\Fit y:=λi=>by
  by_cases hi:i<len
  .obtain⟨iv,h1,h2⟩:=KP i om;obtain⟨y,hy,hf⟩:=ho _ _ _ h2;exact⟨y,λ_=>⟨⟨iv,h1,hy⟩,hf⟩⟩
  exact⟨default,λh=>absurd h hi⟩
 let g:Nat->α:=λi=>(ch i).choose;have hg:∀i,i<len->(∃iv,W.cells? 0 (a.add (i*sz)) sz=some iv/\bm (oZ W) (cf (g i)) iv)/\Fit (g i):=λi=>(ch i).choose_spec;have iD:∀r∈((List.range len).map g).map cf,r.length=sz:=λr hr=>by
  simp only[List.map_map,List.mem_map] at hr;obtain⟨i,_,rfl⟩:=hr;exact cF _
 refine⟨(List.range len).map g,⟨⟨⟨some a,cap,by simp,by simpa using Ub,CZ,iD,?_,(λh=>by cases h)⟩,rfl⟩,trivial⟩,?_⟩
 .rcases Nat.eq_zero_or_pos len with hz|lE
  .left;rw[hz];rfl
  right;obtain⟨⟨Uc,D6,hh0⟩,_⟩:=hg 0 lE;obtain⟨_,ma,kQ⟩:=World.cells?_some D6;have KQ:=kQ 0 om;obtain⟨u,Ud⟩:∃u,Uc[0]?=some u:=⟨_,List.getElem?_eq_getElem om⟩;rw[Ud] at KQ;obtain⟨KR,cs,T,fr,hb,_⟩:=KM KQ;have Ue:((a.add (0*sz)).add 0)=a:=by simp[Addr.add]
  rw[Ue] at hb KR;refine⟨a,rfl,KR,cs,T7 hb,?_⟩;have key:∀k,k<=len->bm (oZ W) (((List.range k).map g).map cf).flatten ((cs.toList.drop a.off).take (k*sz)):=by
   intro k;induction k with
   |zero=>intro _;simp[bm]
   |succ k ih=>
    intro hk
    have h1:=ih om
    obtain⟨⟨iv,Uf,Ug⟩,_⟩:=hg k om
    have Uh:(a.add (k*sz)).block=a.block:=by unfold Addr.add;split<;>rfl
    have Ui:(a.add (k*sz)).off=a.off+k*sz:=by unfold Addr.add;split<;>simp_all
    have h2:=T8 Uf (by rw[Uh];exact hb)
    rw[Ui] at h2
    rw[List.range_succ,List.map_append,List.map_append,List.flatten_append,Nat.succ_mul]
    have e3:(cs.toList.drop a.off).take (k*sz+sz)=(cs.toList.drop a.off).take (k*sz)++iv:=by
     rw[<-h2,<-List.drop_drop,List.take_add]
    rw[e3]
    refine h1.append ?_
    simpa using Ug
  have:=key len (Nat.le_refl _);have hlen:(((List.range len).map g).map cf).flatten.length=len*sz:=by
   rw[fM iD];simp
  rwa[hlen]
 intro y hy;obtain⟨i,hi,rfl⟩:=List.mem_map.1 hy;exact(hg i (by simpa using hi)).2
end
section
variable {H:Type} {enc:TypeId×Value->H} {P:Program} {W:World}
def Uj {v:Value} (h:∀cs,v≠.agg cs):v.cells.toList=[v]:=by
 cases v<;>first|rfl|exact absurd rfl (h _)
def QI {α:Type} {cf:α->AV} {Fit:α->Prop} {t base:Nat} {v:Value} {d:DataW H} {ps:List MemPlace} (ho:xI enc P W (λy=>[cf y]) Fit t) (bH:∀cs,v≠.agg cs) (h:DataW.Trod enc P W 0 (λ_=>true) true t v d ps):
 ∃y,(cf y).h (oZ W) v/\Fit y:=by
 obtain⟨fuel,h⟩:=h;rw[Uj bH] at h;obtain⟨y,hy,hf⟩:=ho _ _ _ h;exact⟨y,hy.1.1,hf⟩
def QK {t base e:Nat} {v:Value} (hu:P.underlying t=some (.slice e)) (al:Value.okWide P W .any base t v):∀cs,v≠.agg cs:=by
 rintro cs rfl;simp[Value.okWide,hu,Cell.okWide,Cell.ok] at al
end
end Go.Proofs.YtldbakcpcfdlaaaGreat
namespace Go.Proofs.YtldbakcpcfdlaaaGreat
open Go Go.RowKit
section
variable {P:Program} {c:Ctx} {I:Im} {H:List Own} {Γ:Env} {a:Act} {w:World} {Q:Exit->Act->World->Prop} {ops:Array Oper} {rest:List Oper} {E T ty:TypeId} {y z:Operand} {m:Nat} {zv:Value} {p:String} {af:Array Edge}
def St.KS {b cap q sz i j n:Nat} {l:List (List AV)} {r lx:List AV} (k:Nat) (U:St c I H Γ a w) (hT:Ty P T true n m zv) (hy:At Γ true y (.val (.pointer (some ⟨b,q,none⟩)))) (hz:At Γ true z (.agg lx))
 (hk:H[k]?=some (Own.row (.slice (some ⟨b,0,none⟩) l.length cap) E sz l)) (hr:l[i]?=some r) (hq:q=i*sz+j) (hn:lx.length=n) (hj:Nat.ble (j+n) sz=true)
 (kk:∀a' w',St c I (H.set k (Own.row (.slice (some ⟨b,0,none⟩) l.length cap) E sz (l.set i (dV r j lx)))) Γ a' w'->wpList P ops Q rest a' w'):
 wpList P ops Q (⟨none,.store T y z,ty,p,af,none⟩::rest) a w:=by
 obtain⟨cs,hv,hl⟩:=hz I a U.env rfl;obtain⟨w',ia,bM⟩:=U.C4 (q:=q) (lx:=lx) (j:=j) (v:=a.eval z) k hT hk (by rw[hv];exact hl) hn hr hq (Nat.le_of_ble_eq_true hj);exact hZ rfl (sL (hy I a U.env rfl) rfl ia (kk _ _ bM))
def bJ.conv {α β:Type} {f:FuncId} {args:List AV} {h0:List Own} {ok:α->Prop} {h1:α->List Own} {res:α->AV} {KT:β->Prop} {Df:β->List Own} {mT:β->AV} (h:bJ P f args h0 ok h1 res) (k:∀x,ok x->∃y,KT y/\Df y=h1 x/\mT y=res x):bJ P f args h0 KT Df mT:=
 ⟨h.1,λI w vs hm ho ha=>(h.2 I w vs hm ho ha).mono λe w' he=>by
   cases e with
   |panicked _=>exact he.elim
   |outgrown=>exact he.elim
   |returned v=>
    obtain⟨x,I',hx,bX,dN,hv⟩:=he
    obtain⟨y,hy,e1,e2⟩:=k x hx
    exact⟨y,I',hy,bX,e1▸dN,e2▸hv⟩⟩
end
end Go.Proofs.YtldbakcpcfdlaaaGreat
namespace Go.Proofs.YtldbakcpcfdlaaaGreat
open Go Go.RowKit
def Own.many (L:List Own):Own:=
 ⟨λb=>∃o∈L,o.fh b,λI w=>(∀o∈L,o.ok I w)/\L.Pairwise kz,
  λI I' w w' hl hb h=>⟨λo ho=>o.jd I I' w w' hl (λb e=>hb b ⟨o,ho,e⟩) (h.1 o ho),h.2⟩⟩
def Own.res {α:Type} (ok:α->Prop) (res:α->AV) (g:Value->List Own) (v:Value):Own:=
 ⟨λb=>∃o∈g v,o.fh b,λI w=>(∃x,ok x/\(res x).h I v)/\(∀o∈g v,o.ok I w)/\(g v).Pairwise kz,
  λI I' w w' hl hb h=>⟨let⟨x,h1,h2⟩:=h.1;⟨x,h1,(res x).up _ _ _ hl h2⟩,λo ho=>o.jd I I' w w' hl (λb e=>hb b ⟨o,ho,e⟩) (h.2.1 o ho),h.2.2⟩⟩
def AV.some {α:Type} (ok:α->Prop) (f:α->AV):AV:=⟨λI v=>∃x,ok x/\(f x).h I v,λI J v hl ⟨x,h,k⟩=>⟨x,h,(f x).up I J v hl k⟩⟩
section
variable {P:Program} {c:Ctx} {I:Im} {H:List Own} {Γ:Env} {a:Act} {w:World} {Q:Exit->Act->World->Prop} {ops:Array Oper} {rest os:List Oper} {Hf:List (EA->Own)} {ms:Meta} {E T:TypeId} {sz:Nat} {l:List (List AV)} {v:Value} {x:AV}
def bO.open {base:Nat->Prop} {k:Nat} {o:Own} {L:List Own} (h:bO base I w H) (hk:H[k]?=Option.some o) (hb:∀b,(∃p∈L,p.fh b)->o.fh b) (ho:∀p∈L,p.ok I w) (hL:L.Pairwise kz):bO base I w (H.set k Own.gone++L):=by
 refine⟨λy hy=>?_,List.pairwise_append.2 ⟨pe h.apart λb e=>e.elim,hL,λy hy z hz b e e'=>?_⟩⟩
 .rcases List.mem_append.1 hy with hy|hy
  .rcases List.mem_or_eq_of_mem_set hy with hy|rfl
   .exact h.all y hy
   exact⟨trivial,λb e=>e.elim⟩
  exact⟨ho y hy,λb e=>(h.all o (List.mem_of_getElem? hk)).2 b (hb b ⟨y,hy,e⟩)⟩
 obtain⟨i,hi⟩:=List.mem_iff_getElem?.1 hy;rw[List.getElem?_set] at hi;split at hi
 .split at hi
  .cases hi;exact e
  cases hi
 rename_i bH;exact wX h.apart (λe=>bH e.symm) hi hk b e (hb b ⟨z,hz,e'⟩)
def St.split {L:List Own} (k:Nat) (U:St c I H Γ a w) (hk:H[k]?=Option.some (Own.many L)):St c I (H.set k Own.gone++L) Γ a w:=by
 obtain⟨h1,h2⟩:=(U.own.all _ (List.mem_of_getElem? hk)).1;exact⟨U.step,U.own.open hk (λb h=>h) h1 h2,U.env,U.size,U.defers⟩
def bO.close {base:Nat->Prop} {o:Own} {L:List Own} (h:bO base I w (H++L)) (hb:∀b,o.fh b->∃p∈L,p.fh b) (ho:o.ok I w):bO base I w (H++[o]):=by
 obtain⟨h1,h2,h3⟩:=List.pairwise_append.1 h.apart;refine⟨λy hy=>?_,List.pairwise_append.2 ⟨h1,by simp,λy hy z hz b e e'=>?_⟩⟩
 .rcases List.mem_append.1 hy with hy|hy
  .exact h.all y (List.mem_append_left _ hy)
  obtain rfl:=List.mem_singleton.1 hy;exact⟨ho,λb e=>let⟨p,hp,e'⟩:=hb b e;(h.all p (List.mem_append_right _ hp)).2 b e'⟩
 obtain rfl:=List.mem_singleton.1 hz;obtain⟨p,hp,e2⟩:=hb b e';exact h3 y hy p hp b e e2
def aI.Uk {α:Type} {d:Nat} {f:FuncId} {ys:Array Operand} {ts:Array TypeId} {ty:TypeId} {p:String} {af:Array Edge} {xs:List AV} {ok:α->Prop} {h1:α->List Own} {res:α->AV} (g:Value->List Own) (k:Nat) (hk:Hf[k]?=Option.some λ_=>Own.gone) (hd:Nat.blt d c.n=true) (hf:bJ P f xs [] ok h1 res)
 (hg:∀x I v,ok x->(res x).h I v->h1 x=g v) (hO:∀I a,cM I a (Γ.only ((⟨Option.some d,.call ⟨.value (.func f),ys,ts⟩,ty,p,af,none⟩:Oper).looksAt ops))->true=true->cP I xs (ys.map a.eval).toList)
 (r:aI P c ops Q ((d,AV.any)::Γ) (Hf.set k λa=>Own.res ok res g (a.tmps.getD d undef)) os ms):aI P c ops Q Γ Hf (⟨Option.some d,.call ⟨.value (.func f),ys,ts⟩,ty,p,af,none⟩::os) (([k],Option.some (k,[d]))::ms):=
 aI.cons (u:=Option.some ⟨k,[d],λa=>Own.res ok res g (a.tmps.getD d undef)⟩) (x:=AV.any) (ql (g:=λv=>Own.res ok res g v) λv v' e=>e▸rfl) (λF W0 I0 I γ a w Q U kk=>by
  refine U.bz [] hf hO rfl aO hd λx I' a' w' hx bM=>?_;have bM:=bM.pass (show fill (hole (dG [k] (ea a γ) F 0 Hf) []) [] (h1 x)=dG [k] (ea a γ) F 0 Hf++h1 x by simp[fill,hole]);have hv:(res x).h I' (a'.tmps.getD d undef):=bM.env d (res x) (by simp[Env.get]);have e:=hg x I' _ hx hv;have dN:=bM.own.close (o:=Own.res ok res g (a'.tmps.getD d undef)) (λb h=>by rw[e];exact h) ⟨⟨x,hx,hv⟩,λo ho=>(bM.own.all o (List.mem_append_right _ (by rw[e];exact ho))).1,by rw[<-e];exact(List.pairwise_append.1 bM.own.apart).2.1⟩;have ey:St ⟨W0.1,I0,c.n,W0.2⟩ I' (dG [k] (ea a γ) F 0 Hf++[Own.res ok res g (a'.tmps.getD d undef)]) ((d,AV.any)::Γ.only ((⟨Option.some d,.call ⟨.value (.func f),ys,ts⟩,ty,p,af,none⟩:Oper).looksAt ops)) a' w':=
   ⟨bM.step,dN,λt y e=>by
    simp only[Env.get] at e;cases hb:Nat.beq d t with
    |true=>rw[hb] at e;simp at e;subst e;trivial
    |false=>rw[hb] at e;exact bM.env t y (by simp only[Env.get,hb];exact e),bM.size,bM.defers⟩
  exact kk γ (λ_ _=>rfl) I' a' w' ((ey.qk k (js hk)).pass (kJ (a':=ea a' γ) (f:=λa=>Own.res ok res g (a.tmps.getD d undef)) rfl))) r
def St.Ul {α:Type} {d:Nat} {ok:α->Prop} {h1:α->List Own} {res:α->AV} {g:Value->List Own} (k:Nat) (U:St c I H Γ a w) (hk:H[k]?=Option.some (Own.res ok res g (a.tmps.getD d undef))) (hg:∀x I v,ok x->(res x).h I v->h1 x=g v):∃x,ok x/\St c I (H.set k Own.gone++h1 x) ((d,res x)::Γ) a w:=by
 obtain⟨⟨x,hx,hv⟩,h2,h3⟩:=(U.own.all _ (List.mem_of_getElem? hk)).1;have e:=hg x I _ hx hv;refine⟨x,hx,U.step,by rw[e];exact U.own.open hk (λb h=>h) h2 h3,λt y e=>?_,U.size,U.defers⟩;simp only[Env.get] at e;cases hb:Nat.beq d t with
 |true=>rw[hb] at e;obtain rfl:d=t:=Nat.eq_of_beq_eq_true hb;simp at e;subst e;exact hv
 |false=>rw[hb] at e;exact U.env t y (by simpa using e)
def bJ.Aq {α:Type} {f:FuncId} {xs:List AV} {h0:List Own} {ok:α->Prop} {O:α->Own} {O':Own} {res:α->AV} {mT:AV} (h:bJ P f xs h0 ok (λx=>[O x]) res) (hb:∀x,(O x).fh=O'.fh) (ho:∀x,ok x->∀I w,(O x).ok I w->O'.ok I w) (hr:∀x,ok x->∀I v,(res x).h I v->mT.h I v):fQ P f xs h0 [O'] mT:=
 ⟨h.1,λI w vs hm hw ha=>(h.2 I w vs hm hw ha).mono λe w' he=>by
   cases e with
   |panicked _=>exact he.elim
   |outgrown=>exact he.elim
   |returned v=>
    obtain⟨x,I',hx,bX,dN,hv⟩:=he
    refine⟨(),I',trivial,bX,⟨λo hm=>?_,by simp⟩,hr x hx _ _ hv⟩
    obtain rfl:=List.mem_singleton.1 hm
    obtain⟨q1,q2⟩:=dN.all (O x) (List.mem_singleton.2 rfl)
    exact⟨ho x hx _ _ q1,λb e=>q2 b (by rw[hb];exact e)⟩⟩
def St.Ar {α:Type} {ok:α->Prop} {f:α->AV} {b:Nat} {m:List AV} (k j:Nat) (U:St c I H Γ a w) (hk:H[k]?=Option.some (Own.box b T m)) (hj:m[j]?=Option.some (AV.some ok f)):∃x,ok x/\St c I (H.set k (Own.box b T (m.set j (f x)))) Γ a w:=by
 obtain⟨⟨cs,hb,hl⟩,_⟩:=U.own.all _ (List.mem_of_getElem? hk);obtain⟨u,hu,⟨x,hx,hv⟩,h1⟩:=hl.get hj;exact⟨x,hx,U.step,U.own.same hk rfl ⟨cs,hb,(hl.set j hv h1).cast rfl (zI hu)⟩,U.env,U.size,U.defers⟩
def lJ {α:Type} {ok:α->Prop} {f:α->AV} (h:∀x,(f x).One):(AV.some ok f).One:=λI v ⟨x,_,k⟩=>h x I v k
def bm.cN {I:Im} {x:AV} {l:List AV} {cs:List Value} (h:bm I (x::l) cs):∃u us,cs=u::us/\(x.h I u/\u.oneCell'=true)/\bm I l us:=by
 cases cs with
 |nil=>exact h.elim
 |cons u us=>exact⟨u,us,rfl,h.1,h.2⟩
def bm.none {I:Im} {cs:List Value} (h:bm I [] cs):cs=[]:=by
 cases cs with
 |nil=>rfl
 |cons u us=>exact h.elim
def bJ.Um {α:Type} {f:FuncId} {xs:List AV} {h0:List Own} {ok:α->Prop} {O:α->Own} {v:α->Value} {l:α->List (List AV)} (h:bJ P f xs h0 ok (λx=>[O x,Own.row (v x) E sz (l x)]) (λx=>AV.val (v x))):bJ P f xs h0 ok (λx=>[O x]) (λx=>AV.rows sz (l x)):=
 ⟨h.1,λI w vs hm hw ha=>(h.2 I w vs hm hw ha).mono λe w' he=>by
   cases e with
   |panicked _=>exact he.elim
   |outgrown=>exact he.elim
   |returned u=>
    obtain⟨x,I',hx,bX,dN,hv⟩:=he
    obtain rfl:u=v x:=hv
    have U:St ⟨w,I,0,dz h0⟩ I' [O x,Own.row (v x) E sz (l x)] [] {tmps:=#[],defers:=[]} w':=⟨bX,dN,λt y e=>by simp[Env.get] at e,rfl,rfl⟩
    obtain⟨I2,ey,hf⟩:=U.ph 1 rfl
    have jI:=ey.drop 1
    exact⟨x,I2,hx,jI.step,jI.own,hf⟩⟩
def bm.split {I:Im} {l m:List AV} {cs:List Value} (h:bm I (l++m) cs):bm I l (cs.take l.length)/\bm I m (cs.drop l.length):=
 ⟨(h.take l.length).cast bt rfl,(h.drop l.length).cast bt rfl⟩
def St.As {α:Type} {ok:α->Prop} {f:α->List AV} {r:List AV} (k i:Nat) (U:St c I H Γ a w) (hk:H[k]?=Option.some (Own.row v E sz l)) (hi:l[i]?=Option.some r) (hf:∀I cs,bm I r cs->∃x,ok x/\bm I (f x) cs) (hn:∀x,(f x).length=r.length):∃x,ok x/\St c I (H.set k (Own.row v E sz (l.set i (f x)))) Γ a w:=by
 obtain⟨⟨cF,h⟩,_⟩:=U.own.all _ (List.mem_of_getElem? hk);have iG:i<l.length:=(List.getElem?_eq_some_iff.1 hi).1;rcases h with⟨h0,_⟩|⟨b,cap,cur,e,h0,hb,h3,h4,h5,hl⟩
 .subst h0;simp at iG
 have e1:l=l.take i++r::l.drop (i+1):=by
  obtain⟨_,rfl⟩:=List.getElem?_eq_some_iff.1 hi;simp
 have e2:∀y,l.set i y=l.take i++y::l.drop (i+1):=λy=>by rw[List.set_eq_take_append_cons_drop,if_pos iG]
 have Au:=hl;rw[e1] at Au;simp only[List.flatten_append,List.flatten_cons] at Au;rw[<-e1] at Au;obtain⟨p1,p2⟩:=Au.split;obtain⟨p3,p4⟩:=p2.split;obtain⟨x,hx,p5⟩:=hf I _ p3;refine⟨x,hx,U.step,U.own.same hk rfl ⟨λy hy=>?_,.inr ⟨b,cap,cur,by rw[List.length_set];exact e,h0,hb,by rw[List.length_set];exact h3,h4,h5,?_⟩⟩,U.env,U.size,U.defers⟩
 .rcases List.mem_or_eq_of_mem_set hy with hy|rfl
  .exact cF y hy
  rw[hn];exact cF r (List.mem_of_getElem? hi)
 rw[e2,List.flatten_append,List.flatten_cons,List.length_append,List.length_cons,List.length_take,List.length_drop,show min i l.length+(l.length-(i+1)+1)=l.length from by omega];refine(p1.append (p5.append p4)).cast rfl ?_;rw[List.take_append_drop,List.take_append_drop]
end
end Go.Proofs.YtldbakcpcfdlaaaGreat

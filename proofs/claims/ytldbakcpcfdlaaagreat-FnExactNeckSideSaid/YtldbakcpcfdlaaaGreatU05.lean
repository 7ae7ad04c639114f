/- Part 5: rules of the proofs. -/
import Derived.Laws.CopyRow
import Derived.Lib.AppendZerosOnto
import Derived.Lib.Overlaps
import Derived.Laws.Externs
import Derived.Maps.Own
import Derived.Maps.Views
import Derived.Test.YtldbakcpcfdlaaaGreatU04
set_option linter.all false
namespace Go.Proofs.YtldbakcpcfdlaaaGreat
open Go Go.RowKit
def Own.raw (b:Nat) (T:TypeId) (L:List (Option AV)):Own:=
 ⟨λk=>b=k,λI w=>∃cur,w.heap[b]?=some (.cells cur T (0,0))/\cur.size=L.length/\∀(i:Nat) (x:AV),L[i]?=some (some x)->∃v,cur[i]?=some v/\x.h I v/\v.oneCell'=true,
  λI I' w w' hl hb ⟨cur,e,U,h⟩=>⟨cur,(hb b rfl).trans e,U,λi x hx=>let⟨v,h1,h2,h3⟩:=h i x hx;⟨v,h1,x.up _ _ _ hl h2,h3⟩⟩⟩
def aC.q4 {I:Im} {l:List AV} {cs:List Value} (h:aC I l cs) {i:Nat} {x:AV} (hx:(l.map some)[i]?=some (some x)):∃c,cs[i]?=some c/\x.h I c/\c.oneCell'=true:=by
 rw[List.getElem?_map] at hx;cases hl:l[i]? with
 |none=>rw[hl] at hx;cases hx
 |some y=>
  rw[hl] at hx
  cases hx
  exact h.get hl
def q5 {I:Im}:∀{xs:List AV} {cs:List Value},cs.length=xs.length->(∀(i:Nat) (x:AV),xs[i]?=some x->∃v,cs[i]?=some v/\x.h I v/\v.oneCell'=true)->aC I xs cs
 |[],[],_,_=>trivial
 |[],_::_,h,_=>by simp at h
 |_::_,[],h,_=>by simp at h
 |x::xs,c::cs,h,hh=>by
  obtain⟨v,h1,h2,h3⟩:=hh 0 x rfl;cases h1;exact⟨⟨h2,h3⟩,q5 (by simpa using h) λi y hy=>by simpa using hh (i+1) y (by simpa using hy)⟩
def over {α:Type} (L:List α) (o:Nat) (X:List α):List α:=L.take o++X++L.drop (o+X.length)
def oD {α:Type} {L X:List α} {o:Nat} (h:o+X.length<=L.length):(over L o X).length=L.length:=by simp[over];omega
def vf {α:Type} {L X:List α} {o i:Nat} (h:o+X.length<=L.length):(over L o X)[i]?=if i<o then L[i]? else if i<o+X.length then X[i-o]? else L[i]?:=by
 unfold over;have h1:(L.take o).length=o:=by simp;omega
 by_cases a:i<o
 .rw[if_pos a,List.append_assoc,List.getElem?_append_left om,List.getElem?_take,if_pos a]
 rw[if_neg a];by_cases b:i<o+X.length
 .rw[if_pos b,List.getElem?_append_left dF,List.getElem?_append_right om,h1]
 rw[if_neg b,List.getElem?_append_right dF,List.getElem?_drop];congr 1;simp;omega
section
variable {P:Program} {c:Ctx} {I:Im} {H:List Own} {Γ:Env} {a:Act} {w:World} {Q:Exit->Act->World->Prop} {ops:Array Oper} {rest:List Oper}
variable {d:Nat} {y z z':Operand} {ty T T' E E':TypeId} {p:String} {af:Array Edge} {g:Bool} {gd:Option (Nat×Bool)} {n m:Nat} {zv:Value}
def Bf {b:Nat} {L:List (Option AV)} (h:(Own.raw b T L).ok I w) {i:Nat} {x:AV} (hx:L[i]?=some (some x)):∃v,w.cell? ⟨b,i,none⟩=some v/\x.h I v/\v.oneCell'=true:=by
 obtain⟨cur,hb,bf,hc⟩:=h;obtain⟨v,h1,h2,h3⟩:=hc i x hx;exact⟨v,by simp[World.cell?,hb,h1],h2,h3⟩
def vg {b o:Nat} {L:List (Option AV)} {xs:List AV} (h:(Own.raw b T L).ok I w) (hx:(L.drop o).take xs.length=xs.map some):∃cs:List Value,aC I xs cs/\∀j v,cs[j]?=some v->w.cell? ((⟨b,o,none⟩:Addr).add j)=some v:=by
 have key:∀j x,xs[j]?=some x->∃v,w.cell? ⟨b,o+j,none⟩=some v/\x.h I v/\v.oneCell'=true:=λj x hj=>by
  have fN:j<xs.length:=(List.getElem?_eq_some_iff.1 hj).1;have e:(xs.map some)[j]?=some (some x):=by rw[List.getElem?_map,hj];rfl
  rw[<-hx,List.getElem?_take,if_pos fN,List.getElem?_drop] at e;exact Bf h e
 have ch:∀j:Nat,∃v,j<xs.length->w.cell? ⟨b,o+j,none⟩=some v/\∀x,xs[j]?=some x->x.h I v/\v.oneCell'=true:=λj=>by
  by_cases hj:j<xs.length
  .obtain⟨v,h1,h2,h3⟩:=key j xs[j] (by simp[hj]);exact⟨v,λ_=>⟨h1,λx hx=>by rw[List.getElem?_eq_getElem hj] at hx;cases hx;exact⟨h2,h3⟩⟩⟩
  exact⟨undef,λh=>absurd h hj⟩
 let f:Nat->Value:=λj=>(ch j).choose;have hf:∀j,j<xs.length->w.cell? ⟨b,o+j,none⟩=some (f j)/\∀x,xs[j]?=some x->x.h I (f j)/\(f j).oneCell'=true:=λj=>(ch j).choose_spec;refine⟨(List.range xs.length).map f,q5 aJ λi x hi=>?_,λj v hj=>?_⟩
 .have jG:i<xs.length:=(List.getElem?_eq_some_iff.1 hi).1;exact⟨f i,by simp[jG],(hf i jG).2 x hi⟩
 rw[add_plain];have fN:j<xs.length:=by have:=(List.getElem?_eq_some_iff.1 hj).1;simpa using this
 simp[fN] at hj;rw[<-hj];exact(hf j fN).1
def St.vh {v:Value} {sz:Nat} {l:List (List AV)} (k:Nat) (U:St c I H Γ a w) (hk:H[k]?=some (Own.row v E sz l)) (aY:l≠[]):
 ∃b cap,v=.slice (some ⟨b,0,none⟩) l.length cap/\l.length<=cap/\cap<=maxLen/\0<cap/\St c I (H.set k (Own.raw b E (l.flatten.map some++List.replicate ((cap-l.length)*sz) none))) Γ a w:=by
 obtain⟨⟨bf,⟨rfl,_⟩|⟨b,cap,cur,rfl,h0,hb,h3,h4,h5,hl⟩⟩,h2⟩:=U.own.all _ (List.mem_of_getElem? hk)
 .exact absurd rfl aY
 have fM:=eO bf;refine⟨b,cap,rfl,h3,h4,h0,U.step,?_,U.env,U.size,U.defers⟩;have ah:fW (.slice (some ⟨b,0,none⟩) l.length cap)=some b:=lq h0;refine⟨λo ho=>?_,fB U.own.apart λb' e=>.inl ⟨_,hk,by rw[jt,ah];exact congrArg some e⟩⟩;rcases List.mem_or_eq_of_mem_set ho with ho|rfl
 .exact U.own.all o ho
 refine⟨⟨cur,hb,?_,λi x hx=>?_⟩,λb' e=>h2 b' (by rw[jt,ah];exact congrArg some e)⟩
 .rw[List.length_append,List.length_map,List.length_replicate,fM,h5,<-Nat.add_mul];congr 1;omega
 by_cases hi:i<l.flatten.length
 .rw[List.getElem?_append_left (by rw[List.length_map];exact hi)] at hx;obtain⟨u,hu,mn,q6⟩:=hl.q4 hx;refine⟨u,?_,mn,q6⟩;rw[List.getElem?_take] at hu;split at hu
  .simpa using hu
  cases hu
 rw[List.getElem?_append_right nT,List.getElem?_replicate] at hx;split at hx<;>cases hx
def St.vi {b cap sz:Nat} {L:List (Option AV)} {l:List (List AV)} (k:Nat) (U:St c I H Γ a w) (hk:H[k]?=some (Own.raw b E L)) (hL:L.length=cap*sz) (bf:∀r∈l,r.length=sz) (hl:l.length<=cap) (h0:0<cap) (hm:cap<=maxLen)
 (he:L.take (l.length*sz)=l.flatten.map some):St c I (H.set k (Own.row (.slice (some ⟨b,0,none⟩) l.length cap) E sz l)) Γ a w:=by
 obtain⟨⟨cur,hb,fC,hc⟩,h2⟩:=U.own.all _ (List.mem_of_getElem? hk);have fM:=eO bf;have ah:fW (.slice (some ⟨b,0,none⟩) l.length cap)=some b:=lq h0;refine⟨U.step,⟨λo ho=>?_,fB U.own.apart λb' e=>.inl ⟨_,hk,by rw[jt,ah] at e;exact Option.some.inj e⟩⟩,U.env,U.size,U.defers⟩;rcases List.mem_or_eq_of_mem_set ho with ho|rfl
 .exact U.own.all o ho
 refine⟨⟨bf,.inr ⟨b,cap,cur,rfl,h0,hb,hl,hm,by omega,q5 ?_ λi x hx=>?_⟩⟩,λb' e=>h2 b' (by rw[jt,ah] at e;exact Option.some.inj e)⟩
 .have h6:l.length*sz<=cap*sz:=Nat.mul_le_mul_right _ hl;rw[fM];simp;omega
 have jG:i<l.length*sz:=by rw[<-fM];exact(List.getElem?_eq_some_iff.1 hx).1
 have e:(l.flatten.map some)[i]?=some (some x):=by rw[List.getElem?_map,hx];rfl
 rw[<-he,List.getElem?_take,if_pos jG] at e;obtain⟨u,h1,h3,h4⟩:=hc i x e;exact⟨u,by rw[List.getElem?_take,if_pos jG];simpa using h1,h3,h4⟩
def Bg {q:Option Addr} {n cap:Nat} {t:Int} {sz:Nat} {ag:Bool} (hT:P.underlying T=some (.slice E)) (hE:Ty P E ag sz m zv) (h:At Γ g y (.val (.slice q n cap))) (h1:At Γ g z (.int t)) (oE:0<=t/\t<=n) (lA:n<=cap):
 Ok P H Γ g ⟨some d,.slice T y (some z) none none,ty,p,af,gd⟩ .any:=
 dr λ_ I a w he _ _ hg=>by
  have e:a.eval y=_:=h I a he hg;have e1:a.eval z=_:=h1 I a he hg;have U:(sizeOf E).run P w=.ok sz w:=hE.size;refine⟨sliced q t.toNat n cap sz,?_,trivial⟩;simp only[execOp,Option.map_some,Option.map_none,e,e1,Instr.sliceAt,Sem.run_bind,run_underlying hT,Result.andThen_ok];simp[Instr.slice,run_underlying hT,Instr.sliceBounds,run_sliceBound,oE.1,oE.2,U,sliced]
def kz {b o n cap lo sz:Nat} {t:Int} {ag:Bool} (hT:P.underlying T=some (.slice E)) (hE:Ty P E ag sz m zv) (h:At Γ g y (.val (.slice (some ⟨b,o,none⟩) n cap))) (h1:At Γ g z (.int t)) (ht:t=lo) (oE:lo<=n) (lA:lo<cap):
 Ok P H Γ g ⟨some d,.slice T y (some z) none none,ty,p,af,gd⟩ (.val (.slice (some ⟨b,o+lo*sz,none⟩) (n-lo) (cap-lo))):=
 dr λ_ I a w he _ _ hg=>by
  subst ht;have e:a.eval y=_:=h I a he hg;have e1:a.eval z=_:=h1 I a he hg;have U:(sizeOf E).run P w=.ok sz w:=hE.size;refine⟨_,?_,rfl⟩;have c3:¬cap=lo:=by omega
  have c1:(lo:Int)<=(n:Int):=by omega
  simp only[execOp,Option.map_some,Option.map_none,e,e1,Instr.sliceAt,Sem.run_bind,run_underlying hT,Result.andThen_ok];simp[Instr.slice,run_underlying hT,Instr.sliceBounds,run_sliceBound,oE,U,sliced,c3,add_plain]
def vj {b o n cap hi sz:Nat} {t:Int} {ag:Bool} (hT:P.underlying T=some (.slice E)) (hE:Ty P E ag sz m zv) (h:At Γ g y (.val (.slice (some ⟨b,o,none⟩) n cap))) (h1:At Γ g z (.int t)) (ht:t=hi) (Bh:hi<=cap) (hc:0<cap):
 Ok P H Γ g ⟨some d,.slice T y none (some z) none,ty,p,af,gd⟩ (.val (.slice (some ⟨b,o,none⟩) hi cap)):=
 dr λ_ I a w he _ _ hg=>by
  subst ht;have e:a.eval y=_:=h I a he hg;have e1:a.eval z=_:=h1 I a he hg;have U:(sizeOf E).run P w=.ok sz w:=hE.size;refine⟨_,?_,rfl⟩;have c3:¬cap=0:=by omega
  have c1:(hi:Int)<=(cap:Int):=by omega
  simp only[execOp,Option.map_some,Option.map_none,e,e1,Instr.sliceAt,Sem.run_bind,run_underlying hT,Result.andThen_ok];simp[Instr.slice,run_underlying hT,Instr.sliceBounds,run_sliceBound,Bh,U,sliced,c3,add_plain]
def Bi {q:Option Addr} {n cap:Nat} (hT:P.underlying T=some (.slice E)) (h:At Γ g y (.val (.slice q n cap))):
 Ok P H Γ g ⟨some d,.call ⟨.builtin .cap,#[y],#[T]⟩,ty,p,af,gd⟩ (.int cap):=
 dr λ_ I a w he _ _ hg=>by
  have e:a.eval y=_:=h I a he hg;refine⟨_,?_,rfl⟩;simp[execOp,resolve,invoke,builtin,e,Builtin.cap_,run_underlying hT,goInt]
def vm {T1 T2:TypeId} {ag:Bool} {sz b o dn dc sn sc:Nat} {ad:Addr} {cur:Array Value} {cs:List Value} (hU:P.underlying T1=some (.slice E)) (hE:Ty P E ag sz m zv) (hb:w.heap[b]?=some (.cells cur T (0,0))) (hn:cs.length=min sn dn*sz)
 (Bj:∀j v,cs[j]?=some v->w.cell? (ad.add j)=some v) (fc:o+cs.length<=cur.size) (h1:∀v∈cs,v.oneCell'=true):
 (Builtin.copy_ #[T1,T2] ty #[.slice (some ⟨b,o,none⟩) dn dc,.slice (some ad) sn sc]).run P w=.ok (goInt ((min sn dn:Nat):Int)) (w.setRow b (over cur.toList o cs).toArray):=by
 have U:(sizeOf E).run P w=.ok sz w:=hE.size;have mR:Nat.min sn dn=min sn dn:=rfl;have hl:=run_loadCells_list (P:=P) w ad cs Bj;rw[hn] at hl;have aX:=run_storeCells_at P b o T cs 0 cur w hb (by simpa using fc) h1;simp only[Nat.add_zero] at aX;simp only[Builtin.copy_,Sem.run_bind,Sem.run_pure,List.getElem?_toArray,List.getElem?_cons_zero,List.getElem?_cons_succ,run_underlying hU,Result.andThen_ok,Builtin.lenOf,mR,U,Builtin.firstCells,hl,aX];simp[over]
def St.copied {b o:Nat} {L:List (Option AV)} {xs:List AV} {cs:List Value} {cur:Array Value} (k:Nat) (U:St c I H Γ a w) (hk:H[k]?=some (Own.raw b T L)) (hb:w.heap[b]?=some (.cells cur T (0,0))) (fC:cur.size=L.length) (kD:∀(i:Nat) (x:AV),L[i]?=some (some x)->∃v,cur[i]?=some v/\x.h I v/\v.oneCell'=true)
 (hx:aC I xs cs) (fc:o+xs.length<=L.length):St c I (H.set k (Own.raw b T (over L o (xs.map some)))) Γ a (w.setRow b (over cur.toList o cs).toArray):=by
 obtain⟨_,h2⟩:=U.own.all _ (List.mem_of_getElem? hk);obtain⟨kb,iQ,qf⟩:=h2 b rfl;have hlen:=hx.length;refine U.written (U.step.write kb iQ aJ rfl rfl rfl λk' cX=>setRow_other w b k' _ cX) (U.own.write hk rfl aJ (λk' cX=>setRow_other w b k' _ λe=>cX (by rw[e];rfl)) ⟨_,setRow_heap w b cur _ T _ hb,?_,λi x hi=>?_⟩)
 .rw[oD (by simpa using fc)];have:(over cur.toList o cs).length=cur.toList.length:=oD dF;simpa using this.trans (by simpa using fC)
 have e1:=vf (L:=L) (X:=xs.map some) (o:=o) (i:=i) (by simpa using fc);have e2:=vf (L:=cur.toList) (X:=cs) (o:=o) (i:=i) dF;have e3:(over cur.toList o cs).toArray[i]?=(over cur.toList o cs)[i]?:=by simp
 rw[e3,e2];rw[e1] at hi;simp only[List.length_map] at hi;rw[hlen];by_cases h3:i<o
 .rw[if_pos h3] at hi⊢;simpa using kD i x hi
 rw[if_neg h3] at hi⊢;by_cases h4:i<o+xs.length
 .rw[if_pos h4] at hi⊢;exact hx.q4 hi
 rw[if_neg h4] at hi⊢;simpa using kD i x hi
def St.vn {T1 T2:TypeId} {ag:Bool} {sz b o dn dc:Nat} {L:List (Option AV)} {l2:List (List AV)} (k:Nat) (U:St c I H Γ a w) (hU:P.underlying T1=some (.slice E)) (hE:Ty P E ag sz m zv) (hy:At Γ true y (.val (.slice (some ⟨b,o,none⟩) dn dc))) (hz:At Γ true z (.rows sz l2)) (hk:H[k]?=some (Own.raw b T L)) (aY:l2≠[])
 (hle:l2.length<=dn) (fc:o+l2.length*sz<=L.length) (hd:Nat.blt d c.n=true)
 (kk:∀{a' w'},St c I (H.set k (Own.raw b T (over L o (l2.flatten.map some)))) ((d,.int l2.length)::Γ) a' w'->wpList P ops Q rest a' w'):
 wpList P ops Q (⟨some d,.call ⟨.builtin .copy,#[y,z],#[T1,T2]⟩,ty,p,af,none⟩::rest) a w:=by
 have e1:a.eval y=_:=hy I a U.env rfl;obtain⟨q,cap,e2,g1,g2,g3,g4,g5⟩:=hz I a U.env rfl;obtain⟨qa,rfl,hq⟩:=g4.resolve_left aY;obtain⟨qb,qo,qs⟩:=qa;obtain rfl:qs=none:=hq.1;obtain⟨cs,h1,h2,h3⟩:=hq.toArray U.step.bO;obtain⟨⟨cur,hb,fC,kD⟩,_⟩:=U.own.all _ (List.mem_of_getElem? hk);have fM:=eO g3;have cN:cs.length=l2.length*sz:=by rw[h2.length,fM]
 have hr:=vm (P:=P) (T2:=T2) (ty:=ty) (dn:=dn) (dc:=dc) (sc:=cap) (o:=o) hU hE hb (by rw[cN,Nat.min_eq_left hle]) h3 om h2.one;rw[Nat.min_eq_left hle] at hr;refine eN rfl ?_;unfold Oper.wp;simp only[execOp,resolve,invoke,builtin,Sem.run_bind,Sem.run_pure,Result.andThen_ok,List.map_toArray,List.map_cons,List.map_nil,e1,e2,hr];have bj:=U.copied k hk hb fC kD h2 om (o:=o);exact kk (bj.hZ bj.step (Im.le_refl _) bj.own hd rfl)
def St.vo {T1 T2:TypeId} {ag:Bool} {sz b o dn dc b2 o2 sn sc:Nat} {L L2:List (Option AV)} {xs:List AV} (k k2:Nat) (U:St c I H Γ a w) (hU:P.underlying T1=some (.slice E)) (hE:Ty P E ag sz m zv) (hy:At Γ true y (.val (.slice (some ⟨b,o,none⟩) dn dc))) (hz:At Γ true z (.val (.slice (some ⟨b2,o2,none⟩) sn sc))) (hk:H[k]?=some (Own.raw b T L)) (dz:H[k2]?=some (Own.raw b2 T' L2))
 (hx:(L2.drop o2).take xs.length=xs.map some) (gQ:xs.length=min sn dn*sz) (fc:o+xs.length<=L.length) (hd:Nat.blt d c.n=true)
 (kk:∀{a' w'},St c I (H.set k (Own.raw b T (over L o (xs.map some)))) ((d,.int ((min sn dn:Nat):Int))::Γ) a' w'->wpList P ops Q rest a' w'):
 wpList P ops Q (⟨some d,.call ⟨.builtin .copy,#[y,z],#[T1,T2]⟩,ty,p,af,none⟩::rest) a w:=by
 have e1:a.eval y=_:=hy I a U.env rfl;have e2:a.eval z=_:=hz I a U.env rfl;obtain⟨cs,h2,h3⟩:=vg (U.own.all _ (List.mem_of_getElem? dz)).1 hx;obtain⟨⟨cur,hb,fC,kD⟩,_⟩:=U.own.all _ (List.mem_of_getElem? hk);have cN:cs.length=min sn dn*sz:=by rw[h2.length,gQ]
 have hr:=vm (P:=P) (T2:=T2) (ty:=ty) (dn:=dn) (dc:=dc) (sc:=sc) (o:=o) hU hE hb cN h3 om h2.one;refine eN rfl ?_;unfold Oper.wp;simp only[execOp,resolve,invoke,builtin,Sem.run_bind,Sem.run_pure,Result.andThen_ok,List.map_toArray,List.map_cons,List.map_nil,e1,e2,hr];have bj:=U.copied k hk hb fC kD h2 fc (o:=o);exact kk (bj.hZ bj.step (Im.le_refl _) bj.own hd rfl)
def St.Bk {TN:TypeId} {ag:Bool} {sz b o i cap dZ:Nat} {t:Int} {L:List (Option AV)} {xs:List AV} {k:IntKind} (j:Nat) (U:St c I H Γ a w) (hU:P.underlying T=some (.slice E)) (hN:P.underlying TN=some (.int k)) (hE:Ty P E ag sz m zv) (dV:zv.cells.size=sz) (h0:0<sz)
 (hy:At Γ true y (.val (.slice (some ⟨b,o,none⟩) i cap))) (hz:At Γ true z (.int t)) (ht:t=dZ) (Bl:0<dZ) (hk:H[j]?=some (Own.raw b T' L)) (hx:(L.drop o).take xs.length=xs.map some) (gQ:xs.length=i*sz) (hg:cap<i+dZ) (hb:(i+dZ)*m<=140737488355328) (kd:i+dZ<=140737488355328) (hd:Nat.blt d c.n=true)
 (kc:∀{g gB a' w'},i+dZ<=gB->gB<=maxLen->St c I (H++[Own.raw g E (xs.map some++List.replicate ((gB-i)*sz) none)]) ((d,.val (.slice (some ⟨g,0,none⟩) (i+dZ) gB))::Γ) a' w'->wpList P ops Q rest a' w'):
 wpList P ops Q (⟨some d,.call ⟨.builtin .append,#[y,z],#[T,TN]⟩,ty,p,af,none⟩::rest) a w:=by
 subst ht;have e1:a.eval y=_:=hy I a U.env rfl;have e2:a.eval z=_:=hz I a U.env rfl;obtain⟨ti,hi,qk,dW,ql⟩:=hE.get;obtain⟨cs,h2,h3⟩:=vg (U.own.all _ (List.mem_of_getElem? hk)).1 hx;have cN:cs.length=i*sz:=by rw[h2.length,gQ]
 have hold:(Builtin.firstCells ti.size i (.slice (some ⟨b,o,none⟩) i cap)).run P w.drew=.ok cs.toArray w.drew:=by
  have:=run_loadCells_list (P:=P) w.drew ⟨b,o,none⟩ cs (λj v hj=>h3 j v hj);rw[cN] at this;simpa[Builtin.firstCells,qk] using this
 have hr:=Lib.run_append_grow_zeros (P:=P) w T TN ty E ti zv .i64 k hU hN hi ql (some ⟨b,o,none⟩) i cap cs hold dZ Bl om hg om (by
  rw[dW];have:dZ*m<=(i+dZ)*m:=Nat.mul_le_mul_right _ om;omega) (by rw[dW];exact growslice_fits hg hb)
 refine eN rfl ?_;unfold Oper.wp;simp only[execOp,resolve,invoke,builtin,Sem.run_bind,Sem.run_pure,Result.andThen_ok,List.map_toArray,List.map_cons,List.map_nil,e1,e2,hr];have n6:=grownCap_ge w (i+dZ) cap E;have vp:=grownCap_le_maxLen w (i+dZ) cap E (by simp only[maxLen];omega);have iT:aO c.own I w.drew H:=⟨λo ho=>⟨o.fy I I w _ (Im.le_refl I) (λ_ _=>rfl) (U.own.all o ho).1,(U.own.all o ho).2⟩,U.own.apart⟩;have ak:(Own.raw w.heap.size E (xs.map some++List.replicate ((grownCap w (i+dZ) cap E-i)*sz) none)).ok I (w.drew.alloc (.cells (cs.toArray++Builtin.zeroCells zv.cells dZ++Builtin.zeroCells zv.cells (grownCap w (i+dZ) cap E-(i+dZ))) E)):=by
  refine⟨_,j9 w.drew _,?_,λq x hq=>?_⟩
  .have s1:=size_zeroCells zv.cells dZ;have s2:=size_zeroCells zv.cells (grownCap w (i+dZ) cap E-(i+dZ));rw[Array.size_append,Array.size_append,s1,s2,dV];simp only[List.size_toArray,List.length_append,List.length_map,List.length_replicate,cN,gQ,<-Nat.add_mul];congr 1;omega
  by_cases q7:q<xs.length
  .rw[List.getElem?_append_left (by simpa using q7)] at hq;obtain⟨u,hu,mn,q6⟩:=h2.q4 hq;refine⟨u,?_,mn,q6⟩;have Bm:q<cs.toArray.size:=by simp;rw[h2.length];exact q7
   rw[Array.append_assoc,Array.getElem?_append_left Bm];simpa using hu
  rw[List.getElem?_append_right (by simpa using q7),List.getElem?_replicate] at hq;split at hq<;>cases hq
 exact kc n6 vp (U.hZ (U.step.trans (Step.uh U.step.bO _)) (Im.le_refl _) (iT.push U.room (λ_ e=>Eq.symm e) U.step.bO ak) hd rfl)
def Bn (tS tR e:TypeId) (ht:P.underlying tS=some (.slice e)) (size:Nat) (hz:∀w,(Go.sizeOf e).run P w=.ok size w)
 (a b:Addr) (la ca lb cb:Nat) (aY:a.block≠b.block) (tA tB:TypeId) (kA kB:Nat)
 (Bo:w.shape? a.block=some (tA,kA)) (Bp:kA≠0) (Bq:w.shape? b.block=some (tB,kB)) (Br:w.frozen? b=false) (Bs:w.frozen? {block:=b.block,off:=kB}=false):
 (Extern.SlicesOverlaps.overlaps #[tS,tS] #[tR] #[.slice (some a) la ca,.slice (some b) lb cb]).run P w=.ok (.bool false) w:=by
 have n8:(a.block !=b.block)=true:=by simpa using aY
 have Bt:(a.block==b.block)=false:=by simpa using aY
 change Sem.run P (α:=Value) (do
  let some t:=(#[tS,tS]:Array TypeId)[0]?|stuck "slices.overlaps: no parameter types"
  let .slice elem<-underlying t|stuck "slices.overlaps: slice type expected"
  let size<-sizeOf elem
  match(some a:Option Addr),(some b:Option Addr) with
  |some a,some b=>
   if la=0\/lb=0\/size=0 then pure (Value.bool false)
   else if a.block !=b.block&&(<-frozen a)&&(<-frozen b) then unsupported .addressObserved
   else do
    if a.block !=b.block then do
     noView a;noView b
     if<-mayBeOne a b then return Value.bool ((<-choose (.extern "sameAddr.stringBytes" 2))==1)
    pure (Value.bool (a.block==b.block&&a.off<b.off+lb*size&&b.off<a.off+la*size))
  |_,_=>pure (Value.bool false)) w=_
 by_cases h0:la=0\/lb=0\/size=0
 .simp[run_underlying ht,hz,h0]
 cases kA with
 |zero=>exact absurd rfl Bp
 |succ kA=>
  cases Bu:w.frozen? a<;>cases Bv:w.frozen? {block:=a.block,off:=kA+1}<;>
   simp[run_underlying ht,hz,h0,n8,Bt,frozen,noView,viewAt,mayBeOne,stringish,shape,Sem.run,Bo,Bq,Br,Bs,Bu,Bv]
def St.overlaps {f:FuncId} {fn:Func} {ts:Array TypeId} {tR:TypeId} {ag:Bool} {sz b o n cap:Nat} {L:List (Option AV)} {l2:List (List AV)} (k:Nat) (U:St c I H Γ a w) (hf:P.funcs[f]?=some fn) (fX:(fn.name== "runtime.NumGoroutine")=false) (hb:fn.body.isNone=true) (hn:Extern.findNext fn=none) (he:Extern.find fn=some (Extern.SlicesOverlaps.overlaps #[T,T] #[tR]))
 (hU:P.underlying T=some (.slice E)) (hE:Ty P E ag sz m zv) (h0:0<sz) (hy:At Γ true y (.rows sz l2)) (aY:l2≠[]) (hz:At Γ true z (.val (.slice (some ⟨b,o,none⟩) n cap))) (hk:H[k]?=some (Own.raw b T' L)) (hd:Nat.blt d c.n=true)
 (kk:∀{a' w'},St c I H ((d,.bool false)::Γ) a' w'->wpList P ops Q rest a' w'):
 wpList P ops Q (⟨some d,.call ⟨.value (.func f),#[y,z],ts⟩,ty,p,af,none⟩::rest) a w:=by
 have e2:a.eval z=_:=hz I a U.env rfl;obtain⟨q,lB,e1,g1,g2,g3,g4,g5⟩:=hy I a U.env rfl;obtain⟨qa,rfl,Ah,cs,q8,Bw⟩:=g4.resolve_left aY;obtain⟨TT,fr,Bx⟩:=U.step.bO _ _ q8;obtain⟨⟨cur,ab,fC,kD⟩,h2⟩:=U.own.all _ (List.mem_of_getElem? hk);have iQ:=(h2 b rfl).2.1;have By:qa.block≠b:=λe=>by rw[e,iQ] at q8;cases q8
 have ia:cs.size≠0:=λh=>by
  have hl:=Bw.length;have fM:=eO g3;have:0<l2.length:=List.length_pos_iff.2 aY;have h6:0<l2.length*sz:=Nat.mul_pos this h0;have hle:((cs.toList.drop qa.off).take l2.flatten.length).length<=cs.toList.length:=by simp;omega
  have:cs.toList.length=0:=by simpa using h
  omega
 have dM:=Bn (P:=P) (w:=w) T tR E hU sz (λw=>hE.size) qa ⟨b,o,none⟩ l2.length lB n cap By TT T' cs.size cur.size (by simp[World.shape?,Bx]) ia (by simp[World.shape?,ab]) (by simp[World.frozen?,ab]) (by simp[World.frozen?,ab]);refine eN rfl ?_;unfold Oper.wp;have hc:(execOp a.eval (⟨some d,.call ⟨.value (.func f),#[y,z],ts⟩,ty,p,af,none⟩:Oper)).run P w=.ok (.value (.bool false)) w:=by
  simp only[execOp,resolve,Act.eval];simp[Deferred.ofValue,invoke,Sem.run_bind,Sem.run_pure,run_callFunc_extern hf fX hb hn he,e1,e2,dM]
 rw[hc];exact kk (U.hZ U.step (Im.le_refl _) U.own hd rfl)
end
def Bz {P:Program} {f:FuncId} {fn:Func} {code:Code} {args:List AV} {R:Ending->World->Prop} (N:Nat) (hf:P.funcs[f]?=some fn) (hb:fn.body=some code) (hn:fn.ntmps=N) (hN:Nat.ble args.length N=true)
 {W0:World} {F:Nat->Prop} {I0 I:Im} {w:World} {vs:Array Value} {h0:List Own} (aX:cE F I0 W0 I w) (cS:aO (Ctx.own ⟨W0,I0,N,F⟩) I w h0) (ha:bI I args vs.toList)
 (h:∀a:Act,St ⟨W0,I0,N,F⟩ I h0 (eF 0 args) a w->code.wp P (bodyPost P fn R) a w):Calls P f vs w R:=by
 refine calls_of_wp hf hb ?_;have hl:vs.size=args.length:=by simpa using ha.length
 have zL:args.length<=N:=Nat.le_of_ble_eq_true hN;refine h _ ⟨aX,cS,?_,?_,rfl⟩
 .intro t x e;have:=nX args vs.toList [] (List.replicate (fn.ntmps-vs.size) undef) ha t x e;have heq:(vs++Array.replicate (fn.ntmps-vs.size) undef)=([]++vs.toList++List.replicate (fn.ntmps-vs.size) undef).toArray:=by
   apply Array.toList_inj.1;simp
  rw[heq];exact this
 simp[hn,hl];omega
def aO.only {base:Nat->Prop} {I:Im} {w:World} {H:List Own} {x:Own} {k:Nat} (h:aO base I w H) (hk:H[k]?=some x):aO base I w [x]:=
 ⟨λo ho=>by obtain rfl:o=x:=by simpa using ho
            exact h.all _ (List.mem_of_getElem? hk),by simp⟩
def cH:List Own->Nat->Prop
 |[],_=>False
 |o::h,b=>o.bP b\/cH h b
def oF {b:Nat}:∀{h:List Own},cH h b↔∃o∈h,o.bP b
 |[]=>by simp[cH]
 |o::h=>by simp[cH,oF (h:=h)]
def jc {α:Type} (c:Ctx) (ok:α->Prop) (h1:α->List Own) (res:α->AV):Ending->World->Prop
 |.returned v,w'=>∃x I',ok x/\cE c.F c.I c.W I' w'/\aO c.own I' w' (h1 x)/\(res x).h I' v
 |_,_=>False
def bm {α:Type} (P:Program) (f:FuncId) (args:List AV) (h0:List Own) (ok:α->Prop) (h1:α->List Own) (res:α->AV):Prop:=
 iM P f/\∀(I:Im) (w:World) (vs:Array Value),cx w I->aO (cH h0) I w h0->bI I args vs.toList->Calls P f vs w (jc ⟨w,I,0,cH h0⟩ ok h1 res)
def aO.weaken {base vq:Nat->Prop} {I:Im} {w:World} {H:List Own} (h:aO base I w H) (hb:∀b,base b->vq b):aO vq I w H:=
 ⟨λo ho=>⟨(h.all o ho).1,λb e=>⟨hb b ((h.all o ho).2 b e).1,((h.all o ho).2 b e).2⟩⟩,h.apart⟩
def aO.exact {base:Nat->Prop} {I:Im} {w:World} {H:List Own} (h:aO base I w H):aO (cH H) I w H:=
 ⟨λo ho=>⟨(h.all o ho).1,λb e=>⟨oF.2 ⟨o,ho,e⟩,((h.all o ho).2 b e).2⟩⟩,h.apart⟩
def bm.intro {α:Type} {P:Program} {f:FuncId} {fn:Func} {code:Code} {args:List AV} {h0:List Own} {ok:α->Prop} {h1:α->List Own} {res:α->AV} (N:Nat) (hf:P.funcs[f]?=some fn) (hb:fn.body=some code) (hn:fn.ntmps=N) (hN:Nat.ble args.length N=true) (fX:(fn.name== "runtime.NumGoroutine")=false)
 (h:∀(W:World) (I:Im) (a:Act),St ⟨W,I,N,cH h0⟩ I h0 (eF 0 args) a W->code.wp P (bodyPost P fn (jc ⟨W,I,N,cH h0⟩ ok h1 res)) a W):bm P f args h0 ok h1 res:=
 ⟨iM.of hf hb fX,λI w vs hm ho ha=>Calls.mono (Bz N hf hb hn hN (cE.refl hm) (ho.weaken λb hb=>Or.inr hb) ha (h w I)) λe w' he=>he⟩
section
variable {P:Program} {c:Ctx} {I:Im} {H:List Own} {Γ:Env} {a:Act} {w:World} {Q:Exit->Act->World->Prop} {ops:Array Oper} {rest:List Oper} {d:Nat} {y z:Operand} {ty T E:TypeId} {p:String} {af:Array Edge} {m sz:Nat} {zv:Value} {ys:Array Operand} {ts:Array TypeId} {l l':List (List AV)}
def oG {f:FuncId} {o:Oper} (mM:iM P f) (ho:o=⟨some d,.call ⟨.value (.func f),ys,ts⟩,ty,p,af,none⟩):(execOp a.eval o).run P w=.ok (.enter f (ys.map a.eval)) w:=by
 subst ho;simp only[execOp,resolve,Act.eval];simp[Deferred.ofValue,invoke,mM _ w,Sem.run_bind,Sem.run_pure]
def hole:List Own->List Nat->List Own
 |H,[]=>H
 |H,k::ks=>hole (H.set k Own.gone) ks
def fill:List Own->List Nat->List Own->List Own
 |H,[],r=>H++r
 |H,_::_,[]=>H
 |H,k::ks,o::r=>fill (H.set k o) ks r
def aO.BA {base:Nat->Prop} {o:Own} {r:List Own} {k:Nat} (h:aO base I w (H++r)) (hk:H[k]?=some o):aO base I w (H.set k Own.gone++(r++[o])):=by
 obtain⟨hl,rfl⟩:=List.getElem?_eq_some_iff.1 hk;have e1:H=H.take k++H[k]::H.drop (k+1):=by simp
 have e2:H.set k Own.gone=H.take k++Own.gone::H.drop (k+1):=by rw[List.set_eq_take_append_cons_drop,if_pos hl]
 refine⟨λx hx=>?_,?_⟩
 .rw[e2] at hx;simp only[List.append_assoc,List.cons_append,List.mem_append,List.mem_cons,List.not_mem_nil,or_false] at hx;rcases hx with hx|rfl|hx|hx|rfl
  .exact h.all x (List.mem_append_left _ (List.mem_of_mem_take hx))
  .exact⟨trivial,λb e=>by cases e⟩
  .exact h.all x (List.mem_append_left _ (List.mem_of_mem_drop hx))
  .exact h.all x (List.mem_append_right _ hx)
  exact h.all _ (List.mem_append_left _ (List.getElem_mem _))
 rw[e2];have hn:=h.apart;rw[e1] at hn;have hg:(Own.gone::(H.take k++H[k]::H.drop (k+1)++r)).Pairwise eE:=List.pairwise_cons.2 ⟨λy _ b e _=>e.elim,hn⟩;refine hg.perm ?_ λh=>h.symm;have p1:(Own.gone::(H.take k++(H[k]::(H.drop (k+1)++r)))).Perm (H.take k++(Own.gone::(H[k]::(H.drop (k+1)++r)))):=List.perm_middle.symm;have p2:(H.take k++(Own.gone::(H[k]::(H.drop (k+1)++r)))).Perm (H.take k++(Own.gone::((H.drop (k+1)++r)++[H[k]]))):=List.Perm.append_left _ (List.Perm.cons _ (List.perm_append_singleton _ _).symm);have p:=p1.trans p2;simp only[List.append_assoc,List.cons_append] at p⊢;exact p
def aO.q9 {base:Nat->Prop}:∀{ks:List Nat} {H h0 r:List Own},aO base I w (H++r)->ks.Nodup->ks.map (λk=>H[k]?)=h0.map some->aO base I w (hole H ks++(r++h0))
 |[],H,[],r,h,_,_=>by simpa[hole] using h
 |[],_,_::_,_,_,_,e=>by simp at e
 |_::_,_,[],_,_,_,e=>by simp at e
 |k::ks,H,o::h0,r,h,hd,e=>by
  rw[List.nodup_cons] at hd;simp only[List.map_cons,List.cons.injEq] at e;have:=aO.q9 (ks:=ks) (H:=H.set k Own.gone) (h0:=h0) (r:=r++[o]) (h.BA e.1) hd.2 (by
   rw[<-e.2];refine List.map_congr_left λj hj=>?_;have aY:k≠j:=λh=>hd.1 (by rw[h];exact hj);rw[List.getElem?_set_ne aY])
  simpa[hole] using this
def aO.pick {base:Nat->Prop} {ks:List Nat} {h0:List Own} (h:aO base I w H) (gn:ks.map (λk=>H[k]?)=h0.map some) (c8:ks.Nodup):aO base I w h0:=by
 have iq:=aO.q9 (r:=[]) (by simpa using h) c8 gn;rw[List.nil_append] at iq;refine⟨λo ho=>iq.all o (List.mem_append_right _ ho),?_⟩;exact(List.pairwise_append.1 iq.apart).2.1
def St.dN {α:Type} {fn:Func} {rs:List ResultVar} {xs:List AV} {ok:α->Prop} {h1:α->List Own} {res:α->AV} (x:α) (ks:List Nat) (U:St c I H Γ a w) (hr:fn.results=rs.toArray) (h:cC P H Γ rs xs) (hx:ok x) (gn:ks.map (λk=>H[k]?)=(h1 x).map some) (e:ko xs=res x) (c8:decide ks.Nodup=true:=by decide):bodyPost P fn (jc c ok h1 res) .ret a w:=by
 obtain⟨v,e1,e2⟩:=U.od hr h;exact⟨U.defers,v,e1,x,I,hx,U.step,U.own.pick gn (of_decide_eq_true c8),e▸e2⟩
def vr:∀{ks:List Nat} {H:List Own} {k:Nat},k∈ks->k<H.length->(hole H ks)[k]?=some Own.gone
 |[],_,_,h,_=>by simp at h
 |j::ks,H,k,h,hl=>by
  unfold hole;by_cases hk:k∈ks
  .exact vr hk (by simpa using hl)
  obtain rfl:k=j:=(List.mem_cons.1 h).resolve_right hk;have:∀(ks:List Nat) (H:List Own),k∉ks->(hole H ks)[k]?=H[k]?:=by
   intro ks;induction ks with
   |nil=>intro H _;rfl
   |cons i ks ih=>
    intro H hn
    rw[List.mem_cons,not_or] at hn
    unfold hole
    rw[ih _ hn.2,List.getElem?_set_ne (λh=>hn.1 h.symm)]
  rw[this ks _ hk,List.getElem?_set_self hl]
def aO.filled {base:Nat->Prop}:∀{ks:List Nat} {H r:List Own},aO base I w (H++r)->ks.Nodup->(∀k∈ks,H[k]?=some Own.gone)->aO base I w (fill H ks r)
 |[],H,r,h,_,_=>by simpa[fill] using h
 |_::_,H,[],h,_,_=>by simpa[fill] using h
 |k::ks,H,o::r,h,hd,hg=>by
  rw[List.nodup_cons] at hd;unfold fill;have hk:=hg k aJ;obtain⟨hl,he⟩:=List.getElem?_eq_some_iff.1 hk;have e1:H=H.take k++Own.gone::H.drop (k+1):=by rw[<-he];simp
  have e2:H.set k o=H.take k++o::H.drop (k+1):=by rw[List.set_eq_take_append_cons_drop,if_pos hl]
  refine aO.filled ⟨λx hx=>?_,?_⟩ hd.2 λj hj=>?_
  .refine h.all x ?_;rcases List.mem_append.1 hx with hx|hx
   .rcases List.mem_or_eq_of_mem_set hx with hx|rfl
    .simp[hx]
    simp
   simp[hx]
  .have hn:=h.apart;rw[e1] at hn;rw[e2];have p4:(H.take k++H.drop (k+1)++o::r).Pairwise eE:=hn.sublist aJ;refine p4.perm ?_ λh=>h.symm;rw[List.append_assoc,List.append_assoc,List.cons_append];refine List.Perm.append_left _ ?_;exact List.perm_middle
  have aY:k≠j:=λh=>hd.1 (by rw[h];exact hj);rw[List.getElem?_set_ne aY];exact hg j (by simp[hj])
def St.vu {α:Type} {I':Im} {w':World} {h0:List Own} {h1:α->List Own} {res:α->AV} {x:α} {v:Value} (ks:List Nat) (U:St c I H Γ a w) (gn:ks.map (λk=>H[k]?)=h0.map some) (c8:ks.Nodup)
 (aX:cE (cH h0) I w I' w') (ho:aO (Ctx.own ⟨w,I,0,cH h0⟩) I' w' (h1 x)) (hv:(res x).h I' v) (hd:Nat.blt d c.n=true):St c I' (fill (hole H ks) ks (h1 x)) ((d,res x)::Γ) (a.put (some d) v) w':=by
 have iq:=aO.q9 (r:=[]) (by simpa using U.own) c8 gn;rw[List.nil_append] at iq;have dU:∀b,cH h0 b->c.own b:=λb hb=>by
  obtain⟨o,ho,e⟩:=oF.1 hb;exact((iq.all o (List.mem_append_right _ ho)).2 b e).1
 have ra:∀o∈hole H ks,∀b,o.bP b->¬cH h0 b:=λo ho b e hb=>by
  obtain⟨o',ej,e'⟩:=oF.1 hb;exact(List.pairwise_append.1 iq.apart).2.2 o ho o' ej b e e'
 have cS:aO c.own I' w' (hole H ks++h1 x):=by
  refine⟨λo hm=>?_,?_⟩
  .rcases List.mem_append.1 hm with hm|hm
   .obtain⟨q1,q2⟩:=iq.all o (List.mem_append_left _ hm);refine⟨o.fy I I' w w' aX.le (λb e=>aX.below.block b (q2 b e).2.2 (ra o hm b e)) q1,λb e=>?_⟩;obtain⟨r1,r2,r3⟩:=q2 b e;exact⟨r1,(aX.cR b r3 (ra o hm b e)).trans r2,Nat.lt_of_lt_of_le r3 aX.below.size⟩
   obtain⟨q1,q2⟩:=ho.all o hm;refine⟨q1,λb e=>?_⟩;obtain⟨r1,r2,r3⟩:=q2 b e;exact⟨r1.elim (λh=>.inl (Nat.le_trans U.step.below.size h)) (dU b),r2,r3⟩
  rw[List.pairwise_append];refine⟨(List.pairwise_append.1 iq.apart).1,ho.apart,λo hm o' dL b e e'=>?_⟩;have h3:=((iq.all o (List.mem_append_left _ hm)).2 b e).2.2;rcases((ho.all o' dL).2 b e').1 with h|h
  .have h:w.heap.size<=b:=h;omega
  exact ra o hm b e h
 have iS:cE c.F c.I c.W I' w':=by
  refine⟨Im.le_trans U.step.le aX.le,λb hb hf=>?_,aX.bO,⟨aX.below.os.trans U.step.below.os,aX.below.tape.trans U.step.below.tape,aX.below.output.trans U.step.below.output,Nat.le_trans U.step.below.size aX.below.size,λb hb hf=>?_⟩⟩
  .have hn:¬cH h0 b:=λh=>by rcases dU b h with h|h;exact absurd h om;exact hf h
   exact(aX.cR b (Nat.lt_of_lt_of_le hb U.step.below.size) hn).trans (U.step.cR b hb hf)
  have hn:¬cH h0 b:=λh=>by rcases dU b h with h|h;exact absurd h om;exact hf h
  exact(aX.below.block b (Nat.lt_of_lt_of_le hb U.step.below.size) hn).trans (U.step.below.block b hb hf)
 have BB:∀k∈ks,(hole H ks)[k]?=some Own.gone:=λk hk=>by
  have:(H[k]?)∈h0.map some:=by rw[<-gn];exact List.mem_map.2 ⟨k,hk,rfl⟩
  obtain⟨o,_,e⟩:=List.mem_map.1 this;exact vr hk (List.getElem?_eq_some_iff.1 e.symm).1
 exact⟨iS,aO.filled cS c8 BB,(U.env.up aX.le).put (by rw[U.size];simpa using hd) hv,by simp[Act.put,U.size],U.defers⟩
def St.dA {α:Type} {f:FuncId} {xs:List AV} {h0:List Own} {ok:α->Prop} {h1:α->List Own} {res:α->AV} (ks:List Nat) (U:St c I H Γ a w) (hf:bm P f xs h0 ok h1 res) (eM:∀I a,br I a Γ->true=true->bI I xs (ys.map a.eval).toList) (gn:ks.map (λk=>H[k]?)=h0.map some) (c8:decide ks.Nodup=true) (hd:Nat.blt d c.n=true)
 (k:∀x I' a' w',ok x->St c I' (fill (hole H ks) ks (h1 x)) ((d,res x)::Γ) a' w'->wpList P ops Q rest a' w'):wpList P ops Q (⟨some d,.call ⟨.value (.func f),ys,ts⟩,ty,p,af,none⟩::rest) a w:=by
 refine eN rfl ?_;unfold Oper.wp;rw[oG hf.1 rfl,Oper.upon_enter];have c8:=of_decide_eq_true c8;have cS:aO (cH h0) I w h0:=(U.own.pick gn c8).exact;refine Calls.mono (hf.2 I w _ U.step.bO cS (eM I a U.env rfl)) λe w' he=>?_;cases e with
 |panicked _=>exact he.elim
 |outgrown=>exact he.elim
 |returned v=>
  obtain⟨x,I',hx,aX,ho,hv⟩:=he
  exact k x I' _ w' hx (U.vu ks gn c8 aX ho hv hd)
def fG (P:Program) (f:FuncId) (args:List AV) (E:TypeId) (sz:Nat) (l:List (List AV)):Prop:=bm P f args [] (λ_:Value=>True) (λv=>[Own.row v E sz l]) AV.val
def fG.intro {f:FuncId} {fn:Func} {code:Code} {args:List AV} {E:TypeId} {sz:Nat} {l:List (List AV)} (N:Nat) (hf:P.funcs[f]?=some fn) (hb:fn.body=some code) (hn:fn.ntmps=N) (hN:Nat.ble args.length N=true) (fX:(fn.name== "runtime.NumGoroutine")=false)
 (h:∀(W:World) (I:Im) (a:Act),St ⟨W,I,N,cH []⟩ I [] (eF 0 args) a W->code.wp P (bodyPost P fn (jc ⟨W,I,N,cH []⟩ (λ_:Value=>True) (λv=>[Own.row v E sz l]) AV.val)) a W):fG P f args E sz l:=bm.intro N hf hb hn hN fX h
def vw:cH []=gO:=by funext b;simp[cH,gO]
def cE.none {I I':Im} {w w':World} (h:cE (cH []) I w I' w'):Step I w I' w':=cE.all (vw▸h)
def BC {I0 I:Im} {W0 w:World} {v:Value} {E:TypeId} {sz:Nat} {l:List (List AV)} (aX:cE (cH []) I0 W0 I w) (ho:aO (Ctx.own ⟨W0,I0,0,cH []⟩) I w [Own.row v E sz l]):∃I',Step I0 W0 I' w/\(AV.rows sz l).h I' v:=by
 have U:St ⟨W0,I0,0,cH []⟩ I [Own.row v E sz l] [] {tmps:=#[],defers:=[]} w:=⟨aX,ho,λt x e=>by simp[Env.get] at e,rfl,rfl⟩;obtain⟨I',bj,hv⟩:=U.uu 0 rfl;exact⟨I',cE.none bj.step,hv⟩
def fG.fn {f:FuncId} {args:List AV} {E:TypeId} {sz:Nat} {l:List (List AV)} (h:fG P f args E sz l):Fn P f args (.rows sz l):=
 ⟨h.1,λI w vs hm ha=>(h.2 I w vs hm (aO.nil _ _ _) ha).mono λe w' he=>by
   cases e with
   |panicked _=>exact he.elim
   |outgrown=>exact he.elim
   |returned v=>
    obtain⟨x,I',_,aX,ho,hx⟩:=he
    obtain rfl:v=x:=hx
    obtain⟨I2,BD,hv⟩:=BC aX ho
    exact⟨I2,BD,hv⟩⟩
def St.oH {fn:Func} {v:Value} {r:Nat} (k:Nat) (U:St c I H Γ a w) (hr:fn.results=#[.tmp r]) (h2:Env.get r Γ=some (.val v)) (hk:H[k]?=some (Own.row v E sz l)) (hl:l=l'):
 bodyPost P fn (jc c (λ_:Value=>True) (λv=>[Own.row v E sz l']) AV.val) .ret a w:=by
 subst hl;obtain⟨v',h1,hv⟩:=U.od (P:=P) (fn:=fn) (rs:=[.tmp r]) (xs:=[.val v]) hr (.cons (.t h2) .nil);obtain rfl:v'=v:=hv;exact⟨U.defers,v',h1,v',I,trivial,U.step,U.own.only hk,rfl⟩
def St.fP {f:FuncId} {xs:List AV} (U:St c I H Γ a w) (hf:fG P f xs E sz l) (eM:∀I a,br I a Γ->true=true->bI I xs (ys.map a.eval).toList) (hd:Nat.blt d c.n=true)
 (k:∀I' v a' w',St c I' (H++[Own.row v E sz l]) ((d,.val v)::Γ) a' w'->wpList P ops Q rest a' w'):wpList P ops Q (⟨some d,.call ⟨.value (.func f),ys,ts⟩,ty,p,af,none⟩::rest) a w:=
 U.dA [] hf eM rfl aZ hd λv I' a' w' _ h=>k I' v a' w' h
def c5 (P:Program) (f:FuncId) (args:List AV) (h0 h1:List Own) (res:AV):Prop:=bm P f args h0 (λ_:Unit=>True) (λ_=>h1) (λ_=>res)
def c5.intro {f:FuncId} {fn:Func} {code:Code} {args:List AV} {h0 h1:List Own} {res:AV} (N:Nat) (hf:P.funcs[f]?=some fn) (hb:fn.body=some code) (hn:fn.ntmps=N) (hN:Nat.ble args.length N=true) (fX:(fn.name== "runtime.NumGoroutine")=false)
 (h:∀(W:World) (I:Im) (a:Act),St ⟨W,I,N,cH h0⟩ I h0 (eF 0 args) a W->code.wp P (bodyPost P fn (jc ⟨W,I,N,cH h0⟩ (λ_:Unit=>True) (λ_=>h1) (λ_=>res))) a W):c5 P f args h0 h1 res:=bm.intro N hf hb hn hN fX h
def St.ir {fn:Func} {rs:List ResultVar} {xs:List AV} {res:AV} {h1:List Own} (U:St c I H Γ a w) (hr:fn.results=rs.toArray) (h:cC P H Γ rs xs) (hH:H=h1) (e:ko xs=res):bodyPost P fn (jc c (λ_:Unit=>True) (λ_=>h1) (λ_=>res)) .ret a w:=by
 obtain⟨v,e1,e2⟩:=U.od hr h;exact⟨U.defers,v,e1,(),I,trivial,U.step,hH▸U.own,e▸e2⟩
def St.dB {f:FuncId} {xs:List AV} {h0 h1:List Own} {res:AV} (ks:List Nat) (U:St c I H Γ a w) (hf:c5 P f xs h0 h1 res) (eM:∀I a,br I a Γ->true=true->bI I xs (ys.map a.eval).toList) (gn:ks.map (λk=>H[k]?)=h0.map some) (c8:decide ks.Nodup=true) (hd:Nat.blt d c.n=true)
 (k:∀I' a' w',St c I' (fill (hole H ks) ks h1) ((d,res)::Γ) a' w'->wpList P ops Q rest a' w'):wpList P ops Q (⟨some d,.call ⟨.value (.func f),ys,ts⟩,ty,p,af,none⟩::rest) a w:=
 U.dA ks hf eM gn c8 hd λ_ I' a' w' _ h=>k I' a' w' h
def vx {α:Type} (P:Program) (f:FuncId) (args:List AV) (ok:α->Prop) (res:α->AV):Prop:=bm P f args [] ok (λ_=>[]) res
def vx.intro {α:Type} {f:FuncId} {fn:Func} {code:Code} {args:List AV} {ok:α->Prop} {res:α->AV} (N:Nat) (hf:P.funcs[f]?=some fn) (hb:fn.body=some code) (hn:fn.ntmps=N) (hN:Nat.ble args.length N=true) (fX:(fn.name== "runtime.NumGoroutine")=false)
 (h:∀(W:World) (I:Im) (a:Act),St ⟨W,I,N,cH []⟩ I [] (eF 0 args) a W->code.wp P (bodyPost P fn (jc ⟨W,I,N,cH []⟩ ok (λ_=>[]) res)) a W):vx P f args ok res:=bm.intro N hf hb hn hN fX h
def dY.fP {tail:List Oper} {M:Act->List Own} {k:Nat} {os:List Oper} {f:FuncId} {xs:List AV} (hf:fG P f xs E sz l) (eM:∀I a,br I a (Γ.only (Oper.looksAt ops ⟨some d,.call ⟨.value (.func f),ys,ts⟩,ty,p,af,none⟩))->true=true->bI I xs (ys.map a.eval).toList)
 (r:dY P c H ops Q tail (λa=>M a++[Own.row (a.tmps.getD d undef) E sz l]) (k+1) ((d,AV.any)::Γ) os):dY P c H ops Q tail M k Γ (⟨some d,.call ⟨.value (.func f),ys,ts⟩,ty,p,af,none⟩::os):=by
 obtain⟨eR,h1,h2⟩:=r;refine⟨(AV.any,some (λv=>Own.row v E sz l))::eR,⟨?_,h1⟩,λI' a' w' U=>h2 I' a' w' (by simpa[made,hY] using U)⟩;intro base I a w K Q he hm hw kk;rw[if_pos (by simp[Region.wanted])];unfold Oper.wp;rw[oG hf.1 rfl,Oper.upon_enter];refine Calls.mono (hf.2 I w _ hm (aO.nil _ _ _) (eM I a he rfl)) λe w' he=>?_;cases e with
 |panicked _=>exact he.elim
 |outgrown=>exact he.elim
 |returned v=>
  obtain⟨x,I',_,aX,ho,hx⟩:=he
  obtain rfl:v=x:=hx
  refine kk v I' w' trivial (cE.none aX) λf hf=>?_
  cases hf
  obtain⟨q1,q2⟩:=ho.all _ (List.mem_singleton.2 rfl)
  exact⟨q1,λb e=>⟨(q2 b e).1.elim id λh=>by rw[vw] at h;exact h.elim,(q2 b e).2⟩⟩
def oI {v:Value} (h:(Own.row v E sz l).ok I w):∃q cap,v=.slice q l.length cap/\l.length<=cap:=by
 obtain⟨_,⟨rfl,rfl|⟨q,rfl,_⟩⟩|⟨b,cap,cur,rfl,h0,hb,h3,_⟩⟩:=h
 .exact⟨none,0,rfl,Nat.le_refl _⟩
 .exact⟨some q,0,rfl,Nat.le_refl _⟩
 exact⟨_,cap,rfl,h3⟩
def St.gW {v:Value} (k:Nat) (U:St c I H Γ a w) (hk:H[k]?=some (Own.row v E sz l)):(AV.val v).One:=by
 obtain⟨q,cap,e,_⟩:=oI (U.own.all _ (List.mem_of_getElem? hk)).1;exact bA (by rw[e];rfl)
def St.BE {v:Value} (k:Nat) (U:St c I H Γ a w) (hk:H[k]?=some (Own.row v E sz l)):∃q cap,v=.slice q l.length cap/\l.length<=cap:=oI (U.own.all _ (List.mem_of_getElem? hk)).1
end
section
variable {α:Type} {A B X R:List α}
def rb (n:Nat) (h:A.length=n):(A++B).drop n=B:=by subst h;exact List.drop_left
def jI (n:Nat) (h:A.length=n):(A++B).take n=A:=by subst h;exact List.take_left
def BF {i j:Nat} (hi:A.length=i) (hj:i+X.length=j) (hR:X.length<=R.length):over (over (A++B++R) j B) i X=A++X++B++R.drop X.length:=by
 have e1:over (A++B++R) j B=(A++B++R).take j++B++R.drop X.length:=by
  unfold over;congr 1;rw[List.append_assoc A B R,List.drop_append,List.drop_append];have h1:A.drop (j+B.length)=[]:=List.drop_eq_nil_of_le om;have h2:B.drop (j+B.length-A.length)=[]:=List.drop_eq_nil_of_le om;rw[h1,h2,List.nil_append,List.nil_append];congr 1;omega
 have hl:((A++B++R).take j).length=j:=by simp;omega
 rw[e1];unfold over;have e2:((A++B++R).take j++B++R.drop X.length).take i=A:=by
  rw[List.append_assoc,List.take_append,List.take_take,Nat.min_eq_left om,hl,show i-j=0 by omega,List.take_zero,List.append_nil,List.append_assoc];exact jI i hi
 have e3:((A++B++R).take j++B++R.drop X.length).drop (i+X.length)=B++R.drop X.length:=by
  rw[hj,List.append_assoc];exact rb j hl
 rw[e2,e3];simp
def BG {i j:Nat} (hi:A.length=i) (hj:i+X.length=j) (hR:X.length+B.length<=R.length):over (over (A++R) i X) j B=A++X++B++R.drop (X.length+B.length):=by
 have e1:over (A++R) i X=A++X++R.drop X.length:=by
  unfold over;rw[jI i hi];congr 1;rw[List.drop_append,List.drop_eq_nil_of_le om,List.nil_append];congr 1;omega
 rw[e1];unfold over;have hl:(A++X).length=j:=by simp;omega
 rw[jI j hl,List.drop_append,List.drop_eq_nil_of_le om,List.nil_append,List.drop_drop];congr 2;omega
end
section
variable {P:Program} {c:Ctx} {I:Im} {H:List Own} {Γ:Env} {a:Act} {w:World} {E:TypeId} {sz:Nat} {l:List (List AV)} {Q:Exit->Act->World->Prop} {ops:Array Oper} {rest:List Oper}
def bg.dB {Hf:List (EA->Own)} {os:List Oper} {ms:Meta} {d d':Nat} {f:FuncId} {ys:Array Operand} {ts:Array TypeId} {ty:TypeId} {p:String} {af:Array Edge} {xs:Value->List AV} {res:AV} (k:Nat) (hk:Hf[k]?=some λa=>Own.row (a.tmps.getD d' undef) E sz l) (hd:Nat.blt d c.n=true) (hf:∀v,c5 P f (xs v) [Own.row v E sz l] [] res)
 (eM:∀I a,br I a (Γ.only ((⟨some d,.call ⟨.value (.func f),ys,ts⟩,ty,p,af,none⟩:Oper).looksAt ops))->true=true->bI I (xs (a.tmps.getD d' undef)) (ys.map a.eval).toList)
 (r:bg P c ops Q ((d,res)::Γ) (Hf.set k λ_=>Own.gone) os ms):bg P c ops Q Γ Hf (⟨some d,.call ⟨.value (.func f),ys,ts⟩,ty,p,af,none⟩::os) (([k],some (k,[]))::ms):=
 bg.cons (u:=some ⟨k,[],λ_=>Own.gone⟩) (x:=res) (λv e=>by cases e;intro a a' _;rfl) (λF W0 I0 I γ a w Q U kk=>by
  have gn:(cr [k] (ea a γ) F 0 Hf)[k]?=some (Own.row (a.tmps.getD d' undef) E sz l):=jH hk;have c8:[k].Nodup:=by simp
  refine eN rfl ?_;unfold Oper.wp;rw[oG (hf (a.tmps.getD d' undef)).1 rfl,Oper.upon_enter];have cS:=(aO.pick (ks:=[k]) (h0:=[Own.row (a.tmps.getD d' undef) E sz l]) U.own (by simpa using jH hk) c8).exact;refine Calls.mono ((hf _).2 I w _ U.step.bO cS (eM I a U.env rfl)) λe w' he=>?_;cases e with
  |panicked _=>exact he.elim
  |outgrown=>exact he.elim
  |returned v=>
   obtain⟨x,I',hx,aX,ho,hv⟩:=he
   have h2:St ⟨W0.1,I0,c.n,W0.2⟩ I' ((cr [k] (ea a γ) F 0 Hf).set k Own.gone) ((d,res)::Γ.only ((⟨some d,.call ⟨.value (.func f),ys,ts⟩,ty,p,af,none⟩:Oper).looksAt ops)) (a.put (some d) v) w':=
    U.vu (h0:=[Own.row (a.tmps.getD d' undef) E sz l]) (h1:=λ_:Unit=>[]) (res:=λ_=>res) (x:=()) [k] (by simpa using gn) c8 aX ho hv hd
   exact kk γ (λ_ _=>rfl) I' _ w' (h2.pass (lN (f:=λ_=>Own.gone) rfl))) r
end
structure m1 (P:Program) (t k e:TypeId) {κ ε:Type} (kl:κ->Lit) (ev:ε->Value) (ed:ε->DataW Unit) (fits:ε->Prop) (z:ε):Prop where
 K:Maps.Keyed P k
 ht:P.underlying t=some (.map k e)
 zr:∀w,(zeroValue e).run P w=.ok (ev z) w
 fz:fits z
 rd:∀x,fits x->plainElem P e (ev x)=some (ed x,[])
 inv:∀v ps x,plainElem P e v=some (ed x,ps)->v=ev x
 vy:∀x y,kl x=kl y->x=y
 key:∀x,WideAt.IsKeyLit (kl x)
def Own.kG (P:Program) (k e:TypeId) {κ ε:Type} (kl:κ->Lit) (ed:ε->DataW Unit) (z:ε) (b n:Nat) (m:κ->ε):Own:=
 ⟨λk=>b=k,λI w=>∃D:DataW Unit,w.ownsMap P k (plainElem P e) b n D/\∀x,D.atKey (kl x) (ed z)=ed (m x),
  λI I' w w' _ hb ⟨D,⟨es,clock,h,h2⟩,hm⟩=>⟨D,⟨es,clock,(hb b rfl).trans h,h2⟩,hm⟩⟩
section
variable {P:Program} {c:Ctx} {I:Im} {H:List Own} {Γ:Env} {a:Act} {w:World} {Q:Exit->Act->World->Prop} {ops:Array Oper} {rest:List Oper}
variable {d b n:Nat} {y z' x':Operand} {t k e ty:TypeId} {p:String} {af:Array Edge} {g:Bool} {gd:Option (Nat×Bool)}
variable {κ ε:Type} {kl:κ->Lit} {ev:ε->Value} {ed:ε->DataW Unit} {fits:ε->Prop} {z:ε}
def vz {m:κ->ε} {x:κ} (kk:Nat) (hM:m1 P t k e kl ev ed fits z) (hm:At Γ g y (.val (.map (some b)))) (hx:∀I a,br I a Γ->g=true->keyOf P k (a.eval x')=some (kl x)) (hH:H[kk]?=some (Own.kG P k e kl ed z b n m)):
 Ok P H Γ g ⟨some d,.lookup t y x' false,ty,p,af,gd⟩ (.val (ev (m x))):=
 dr λbase I a w he Ht hw hg=>by
  obtain⟨D,cS,hD⟩:=(hw.all _ (List.mem_of_getElem? hH)).1;have e1:a.eval y=_:=hm I a he hg;obtain⟨v,ps,dM,hv⟩:=cS.lookup hM.K hM.ht (hM.zr w) (hM.rd z hM.fz) (hx I a he hg);rw[hD x] at hv;refine⟨v,?_,hM.inv v ps _ hv⟩;simp only[execOp,e1,Sem.run_bind,dM,Result.andThen_ok,Sem.run_pure]
def St.makeMap (U:St c I H Γ a w) (hd:Nat.blt d c.n=true) (hM:m1 P t k e kl ev ed fits z)
 (kk:∀b a' w',St c I (H++[Own.kG P k e kl ed z b 0 λ_=>z]) ((d,.val (.map (some b)))::Γ) a' w'->wpList P ops Q rest a' w'):
 wpList P ops Q (⟨some d,.makeMap t none,ty,p,af,none⟩::rest) a w:=by
 refine eN rfl ?_;unfold Oper.wp;simp only[execOp,Option.map_none,Sem.run_bind,run_makeMap,Result.andThen_ok,Sem.run_pure,Oper.upon_value];exact kk w.heap.size _ _ (U.hZ (U.step.trans (Step.alloc U.step.bO _)) (Im.le_refl _) (U.own.push (x:=Own.kG P k e kl ed z w.heap.size 0 λ_=>z) U.room (λ_ e=>e.symm) U.step.bO
  ⟨.map [],World.ownsMap_made w P k (plainElem P e),λx=>by simp[DataW.atKey]⟩) hd rfl)
def BH {D:DataW Unit} {R:Value->Option (DataW Unit×List MemPlace)} (h:w.ownsMap P k R b n D) (K:Maps.Keyed P k) (ht:P.underlying t=some (.map k e)) (hn:n<maxLen) {key val:Value} {lk:Lit} {dv:DataW Unit} {ps:List MemPlace}
 (vA:keyOf P k key=some lk) (hv:R val=some (dv,ps)):∃w',(Instr.mapUpdate t (.map (some b)) key val).run P w=.ok () w'/\w'.ownsMap P k R b (n+1) (D.put lk dv)/\w.grownBy w' (some b)/\w'.heap.size=w.heap.size:=by
 obtain⟨w',h1,h2,h3⟩:=h.update K ht hn vA hv;refine⟨w',h1,h2,h3,?_⟩;obtain⟨es,clock,hb,F,U,rfl⟩:=h;obtain⟨Hu,Hv,dM,_⟩:=Maps.fit_store (R':=R) K ht hb F (Nat.lt_of_le_of_lt U hn) (λ_ _ _ _ hz=>hz) vA hv;rw[dM] at h1;cases h1;simp[ChangeMaps.setBlock]
def St.mapUpdate {m:κ->ε} {x:κ} {v:ε} [DecidableEq κ] (kk:Nat) (U:St c I H Γ a w) (hM:m1 P t k e kl ev ed fits z) (hm:At Γ true y (.val (.map (some b)))) (hx:∀I a,br I a Γ->true=true->keyOf P k (a.eval x')=some (kl x))
 (hv:At Γ true z' (.val (ev v))) (hf:fits v) (hn:n<140737488355328) (hH:H[kk]?=some (Own.kG P k e kl ed z b n m))
 (kn:∀a' w',St c I (H.set kk (Own.kG P k e kl ed z b (n+1) λy=>if y=x then v else m y)) Γ a' w'->wpList P ops Q rest a' w'):
 wpList P ops Q (⟨none,.mapUpdate t y x' z',ty,p,af,none⟩::rest) a w:=by
 obtain⟨⟨D,cS,hD⟩,h2⟩:=U.own.all _ (List.mem_of_getElem? hH);obtain⟨kb,iQ,qf⟩:=h2 b rfl;have e1:a.eval y=_:=hm I a U.env rfl;have e2:a.eval z'=_:=hv I a U.env rfl;obtain⟨w',dM,qm,oJ,bf⟩:=BH cS hM.K hM.ht (by simp only[maxLen];omega) (hx I a U.env rfl) (hM.rd v hf);have mY:∀j,some j≠some b->w'.heap[j]?=w.heap[j]?:=λj hj=>by
  by_cases bH:j<w.heap.size
  .exact oJ.block j bH hj
  rw[Array.getElem?_eq_none om,Array.getElem?_eq_none om]
 refine eN rfl ?_;unfold Oper.wp;simp only[execOp,e1,e2,Sem.run_bind,dM,Result.andThen_ok,Sem.run_pure];refine kn _ w' (U.written (U.step.write kb iQ bf oJ.os oJ.tape oJ.output λj hj=>mY j (by simpa using hj)) (U.own.write hH rfl bf (λj hj=>mY j λe=>hj (Option.some.inj e).symm) ⟨_,qm,λq=>?_⟩));have BI:Maps.IsMap D:=by obtain⟨es,clock,_,_,_,rfl⟩:=cS;exact⟨_,rfl⟩
 show _=ed (if q=x then v else m q);by_cases hq:q=x
 .subst hq;rw[if_pos rfl];exact Maps.atKey_put_same BI (hM.key q) _ _
 rw[if_neg hq,Maps.atKey_put_other (λh=>hq (hM.vy _ _ h)),hD q]
def BJ {P:Program} {t k e:TypeId} (ht:P.underlying t=some (.map k e)) (hk:P.underlying k=some (.int .i64)) (he:P.underlying e=some (.int .i64)) (hz:∀w,(zeroValue e).run P w=.ok (.int .i64 0) w):
 m1 P t k e (λx:Int=>Lit.int .i64 x) (λx:Int=>Value.int .i64 x) (λx=>.lit (.int .i64 x)) (λx=>-9223372036854775808<=x/\x<=9223372036854775807) 0 where
 K:=Maps.int_keyed hk
 ht:=ht
 zr:=hz
 fz:=by omega
 rd:=λx hx=>plainElem_int he (by simp[Lit.wf,IntKind.min,IntKind.max,IntKind.signed,IntKind.bits];omega)
 inv:=λv ps x h=>by
  obtain⟨a,rfl,h2,_⟩:=plainElem_int_inv he h;simp at h2;rw[h2.1]
 vy:=λx y h=>by cases h;rfl
 key:=λx=>trivial
def re {P:Program} {k:TypeId} (hk:P.underlying k=some (.int .i64)) {x:Int} (hy:At Γ g x' (.int x)) (hb:-9223372036854775808<=x/\x<=9223372036854775807):∀I a,br I a Γ->g=true->keyOf P k (a.eval x')=some (Lit.int .i64 x):=λI a he hg=>by
 have e1:a.eval x'=.int .i64 x:=hy I a he hg;rw[e1];exact Maps.keyOf_int_mk hk (by simp[Lit.wf,IntKind.min,IntKind.max,IntKind.signed,IntKind.bits];omega)
end
end Go.Proofs.YtldbakcpcfdlaaaGreat

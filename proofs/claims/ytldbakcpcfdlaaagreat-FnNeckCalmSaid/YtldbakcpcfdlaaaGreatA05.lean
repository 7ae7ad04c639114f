/- Part 5: rules of the proofs. -/
import Derived.Laws.CopyRow
import Derived.Lib.AppendZerosOnto
import Derived.Lib.Overlaps
import Derived.Laws.Externs
import Derived.Test.YtldbakcpcfdlaaaGreatA04
set_option linter.all false
namespace Go.Proofs.YtldbakcpcfdlaaaGreat
open Go Go.RowKit
section
variable {Γ:Env} {g g' b:Bool} {t:Nat} {x:AV} {o:Operand}
def At.tt (h:Env.get t Γ=some x:=by rfl):At Γ g (.tmp t) x:=.t h
def At.ag (h:Env.get t Γ=some (AV.cond g' x):=by rfl) (hg:g=true->g'=true:=by intro hg;first|exact hg|exact(Bool.and_eq_true_iff.1 hg).1|exact(Bool.and_eq_true_iff.1 (Bool.and_eq_true_iff.1 hg).1).1):At Γ g (.tmp t) x:=.g h hg
def At.r (h:At Γ g o x:=by first|exact .t rfl|exact .nil (.t rfl)):At Γ g o x:=h
def At.pc (h:At Γ g o x:=by first|exact .t rfl|exact .gc rfl (λhg=>hg)|exact .gc rfl (λhg=>(Bool.and_eq_true_iff.1 hg).1)):At Γ g o x:=h
end
section
variable {P:Program} {c:Ctx} {I:Im} {H:List Own} {Γ:Env} {a:Act} {w:World} {Q:Exit->Act->World->Prop} {ops:Array Oper} {rest os:List Oper} {g G b:Bool} {x:AV} {d t j:Nat} {op:Op} {ty:TypeId} {p:String} {af:Array Edge} {gd:Option (Nat×Bool)} {y:Operand} {v:Value}
def hP.T {o:Oper} (h:o.guard=some (j,true):=by rfl) (hj:(ops[j]?).bind (·.dst)=some t:=by rfl) (ht:Env.get t Γ=some (.bool b):=by rfl):hP ops Γ o b:=CR h hj ht
def hP.F {o:Oper} (h:o.guard=some (j,false):=by rfl) (hj:(ops[j]?).bind (·.dst)=some t:=by rfl) (ht:Env.get t Γ=some (.bool b):=by rfl):hP ops Γ o (!b):=IE h hj ht
def hP.T2 {o:Oper} (h:o.guard=some (j,true):=by rfl) (hj:(ops[j]?).bind (·.dst)=some t:=by rfl) (ht:Env.get t Γ=some (.cond g (.bool b)):=by rfl):hP ops Γ o (g&&b):=Q2 h hj ht
def hP.F2 {o:Oper} (h:o.guard=some (j,false):=by rfl) (hj:(ops[j]?).bind (·.dst)=some t:=by rfl) (ht:Env.get t Γ=some (.cond g (.bool b)):=by rfl):hP ops Γ o (g&&!b):=Q3 h hj ht
def St.o (U:St c I H Γ a w) (ok:Ok P H Γ true ⟨some d,op,ty,p,af,none⟩ x) (k:∀{I' a' w'},St c I' H ((d,x)::Γ) a' w'->wpList P ops Q rest a' w') (hd:Nat.blt d c.n=true:=by rfl):wpList P ops Q (⟨some d,op,ty,p,af,none⟩::rest) a w:=U.op rfl rfl hd ok λ_ _ _ h=>k h
def St.m (U:St c I H Γ a w) (k:∀{I' a' w'},St c I' H ((d,x)::Γ) a' w'->wpList P ops Q rest a' w') (hy:Env.get t Γ=some x:=by rfl) (hd:Nat.blt d c.n=true:=by rfl):wpList P ops Q (⟨some d,.move (.tmp t),ty,p,af,none⟩::rest) a w:=U.op rfl rfl hd (wN (.t hy)) λ_ _ _ h=>k h
def St.s (U:St c I H Γ a w) (k:∀{I' a' w'},St c I' H ((d,x)::Γ) a' w'->wpList P ops Q rest a' w') (hy:Env.get t Γ=some x:=by rfl) (hd:Nat.blt d c.n=true:=by rfl):wpList P ops Q (⟨some d,.assign (.tmp t),ty,p,af,none⟩::rest) a w:=U.op rfl rfl hd (uL (.t hy)) λ_ _ _ h=>k h
def St.sc (U:St c I H Γ a w) (k:∀{I' a' w'},St c I' H ((d,.val v)::Γ) a' w'->wpList P ops Q rest a' w') (hd:Nat.blt d c.n=true:=by rfl):wpList P ops Q (⟨some d,.assign (.const v),ty,p,af,none⟩::rest) a w:=U.op rfl rfl hd (uL .c) λ_ _ _ h=>k h
def St.q (U:St c I H Γ a w) (hg:hP ops Γ ⟨some d,op,ty,p,af,gd⟩ G) (ok:Ok P H Γ G ⟨some d,op,ty,p,af,gd⟩ x) (k:∀{I' a' w'},St c I' H ((d,.cond G x)::Γ) a' w'->wpList P ops Q rest a' w') (hd:Nat.blt d c.n=true:=by rfl):wpList P ops Q (⟨some d,op,ty,p,af,gd⟩::rest) a w:=U.zy hg rfl hd ok λ_ _ _ h=>k h
def iF.o {o:Oper} (ok:Ok P H (Γ.only (o.looksAt ops)) true o x) (k:iF P c H ops Q ((o.dst.getD 0,x)::Γ) os) (hg:o.guard=none:=by rfl):iF P c H ops Q Γ (o::os):=.cons (.of hg ok) k
def iF.q {o:Oper} (hg:hP ops (Γ.only (o.looksAt ops)) o G) (ok:Ok P H (Γ.only (o.looksAt ops)) G o x) (k:iF P c H ops Q ((o.dst.getD 0,AV.cond G x)::Γ) os):iF P c H ops Q Γ (o::os):=.cons (.zA hg ok) k
def St.dk {id:Nat} {l:List Oper} (U:St c I H Γ a w) (run:iF P c H l.toArray Q Γ l) (hm:P.follows .mixedOrders=true:=by kernel_rfl) (ff:lG l []=true:=by kernel_rfl) (hd:(l.all λo=>Nat.blt (o.dst.getD 0) c.n)=true:=by rfl):(Code.region id l.toArray true).wp P Q a w:=U.RH hm ff hd run
end
def B:(∀(p:Prop) [Decidable p],(decide p=true)=p)/\(∀(p:Prop) [Decidable p],(decide p=false)↔¬p)/\(∀b:Bool,((!b)=true)=(b=false))/\(∀b:Bool,((!b)=false)=(b=true))/\(∀a b:Bool,((a&&b)=true)=(a=true/\b=true))/\
 (∀a b:Bool,((a||b)=true)=(a=true\/b=true))/\(∀a b:Bool,((a&&b)=false)↔(a=false\/b=false))/\(∀a b:Bool,((a||b)=false)↔(a=false/\b=false))/\(∀(α:Type) [BEq α] [LawfulBEq α] (a b:α),(a==b)=true↔a=b)/\(∀(α:Type) [BEq α] [LawfulBEq α] (a b:α),(a !=b)=true↔¬a=b)/\
 (∀(α:Type) [BEq α] [LawfulBEq α] (a b:α),(a !=b)=false↔a=b)/\(∀(α:Type) [BEq α] [LawfulBEq α] (a b:α),(a==b)=false↔¬a=b)/\
 (∀a b:Int,(¬a<b)↔b<=a)/\(∀a b:Int,(¬a<=b)↔b<a)/\(∀n m:Nat,((n:Int)<m)↔n<m)/\(∀n m:Nat,((n:Int)<=m)↔n<=m):=
 ⟨λ_ _=>decide_eq_true_eq,λ_ _=>decide_eq_false_iff_not,λb=>by simp,λb=>by simp,Bool.and_eq_true,Bool.or_eq_true,λ_ _=>Bool.and_eq_false_iff,λ_ _=>Bool.or_eq_false_iff,λ_ _ _ _ _=>beq_iff_eq,λ_ _ _ _ _=>bne_iff_ne,λ_ _ _ _ _=>bne_eq_false_iff_eq,λ_ _ _ _ _=>beq_eq_false_iff_ne,λ_ _=>Int.not_lt,λ_ _=>Int.not_le,λ_ _=>Int.ofNat_lt,λ_ _=>Int.ofNat_le⟩
def Own.raw (b:Nat) (T:TypeId) (L:List (Option AV)):Own:=
 ⟨λk=>b=k,λI w=>∃cur,w.heap[b]?=some (.cells cur T (0,0))/\cur.size=L.length/\∀(i:Nat) (x:AV),L[i]?=some (some x)->∃v,cur[i]?=some v/\x.h I v/\v.oneCell'=true,
  λI I' w w' hl hb ⟨cur,e,U,h⟩=>⟨cur,(hb b rfl).trans e,U,λi x hx=>let⟨v,h1,h2,h3⟩:=h i x hx;⟨v,h1,x.up _ _ _ hl h2,h3⟩⟩⟩
def bm.DA {I:Im} {l:List AV} {cs:List Value} (h:bm I l cs) {i:Nat} {x:AV} (hx:(l.map some)[i]?=some (some x)):∃c,cs[i]?=some c/\x.h I c/\c.oneCell'=true:=by
 rw[List.getElem?_map] at hx;cases hl:l[i]? with
 |none=>rw[hl] at hx;cases hx
 |some y=>
  rw[hl] at hx
  cases hx
  exact h.get hl
def z1 {I:Im}:∀{xs:List AV} {cs:List Value},cs.length=xs.length->(∀(i:Nat) (x:AV),xs[i]?=some x->∃v,cs[i]?=some v/\x.h I v/\v.oneCell'=true)->bm I xs cs
 |[],[],_,_=>trivial
 |[],_::_,h,_=>by simp at h
 |_::_,[],h,_=>by simp at h
 |x::xs,c::cs,h,hh=>by
  obtain⟨v,h1,h2,h3⟩:=hh 0 x rfl;cases h1;exact⟨⟨h2,h3⟩,z1 (by simpa using h) λi y hy=>by simpa using hh (i+1) y (by simpa using hy)⟩
def over {α:Type} (L:List α) (o:Nat) (X:List α):List α:=L.take o++X++L.drop (o+X.length)
def jR {α:Type} {L X:List α} {o:Nat} (h:o+X.length<=L.length):(over L o X).length=L.length:=by simp[over];omega
def JG {α:Type} {L X:List α} {o i:Nat} (h:o+X.length<=L.length):(over L o X)[i]?=if i<o then L[i]? else if i<o+X.length then X[i-o]? else L[i]?:=by
 unfold over;have h1:(L.take o).length=o:=by simp;omega
 by_cases a:i<o
 .rw[if_pos a,List.append_assoc,List.getElem?_append_left om,List.getElem?_take,if_pos a]
 rw[if_neg a];by_cases b:i<o+X.length
 .rw[if_pos b,List.getElem?_append_left fK,List.getElem?_append_right om,h1]
 rw[if_neg b,List.getElem?_append_right fK,List.getElem?_drop];congr 1;simp;omega
section
variable {P:Program} {c:Ctx} {I:Im} {H:List Own} {Γ:Env} {a:Act} {w:World} {Q:Exit->Act->World->Prop} {ops:Array Oper} {rest:List Oper}
variable {d:Nat} {y z z':Operand} {ty T T' E E':TypeId} {p:String} {af:Array Edge} {g:Bool} {gd:Option (Nat×Bool)} {n m:Nat} {zv:Value}
def R5 {b:Nat} {L:List (Option AV)} (h:(Own.raw b T L).ok I w) {i:Nat} {x:AV} (hx:L[i]?=some (some x)):∃v,w.cell? ⟨b,i,none⟩=some v/\x.h I v/\v.oneCell'=true:=by
 obtain⟨cur,hb,cF,hc⟩:=h;obtain⟨v,h1,h2,h3⟩:=hc i x hx;exact⟨v,by simp[World.cell?,hb,h1],h2,h3⟩
def DB {b o:Nat} {L:List (Option AV)} {xs:List AV} (h:(Own.raw b T L).ok I w) (hx:(L.drop o).take xs.length=xs.map some):∃cs:List Value,bm I xs cs/\∀j v,cs[j]?=some v->w.cell? ((⟨b,o,none⟩:Addr).add j)=some v:=by
 have key:∀j x,xs[j]?=some x->∃v,w.cell? ⟨b,o+j,none⟩=some v/\x.h I v/\v.oneCell'=true:=λj x hj=>by
  have jN:j<xs.length:=(List.getElem?_eq_some_iff.1 hj).1;have e:(xs.map some)[j]?=some (some x):=by rw[List.getElem?_map,hj];rfl
  rw[<-hx,List.getElem?_take,if_pos jN,List.getElem?_drop] at e;exact R5 h e
 have ch:∀j:Nat,∃v,j<xs.length->w.cell? ⟨b,o+j,none⟩=some v/\∀x,xs[j]?=some x->x.h I v/\v.oneCell'=true:=λj=>by
  by_cases hj:j<xs.length
  .obtain⟨v,h1,h2,h3⟩:=key j xs[j] (by simp[hj]);exact⟨v,λ_=>⟨h1,λx hx=>by rw[List.getElem?_eq_getElem hj] at hx;cases hx;exact⟨h2,h3⟩⟩⟩
  exact⟨undef,λh=>absurd h hj⟩
 let f:Nat->Value:=λj=>(ch j).choose;have hf:∀j,j<xs.length->w.cell? ⟨b,o+j,none⟩=some (f j)/\∀x,xs[j]?=some x->x.h I (f j)/\(f j).oneCell'=true:=λj=>(ch j).choose_spec;refine⟨(List.range xs.length).map f,z1 bt λi x hi=>?_,λj v hj=>?_⟩
 .have iG:i<xs.length:=(List.getElem?_eq_some_iff.1 hi).1;exact⟨f i,by simp[iG],(hf i iG).2 x hi⟩
 rw[add_plain];have jN:j<xs.length:=by have:=(List.getElem?_eq_some_iff.1 hj).1;simpa using this
 simp[jN] at hj;rw[<-hj];exact(hf j jN).1
def St.qn {v:Value} {sz:Nat} {l:List (List AV)} (k:Nat) (U:St c I H Γ a w) (hk:H[k]?=some (Own.row v E sz l)) (bH:l≠[]):
 ∃b cap,v=.slice (some ⟨b,0,none⟩) l.length cap/\l.length<=cap/\cap<=maxLen/\0<cap/\St c I (H.set k (Own.raw b E (l.flatten.map some++List.replicate ((cap-l.length)*sz) none))) Γ a w:=by
 obtain⟨⟨cF,⟨rfl,_⟩|⟨b,cap,cur,rfl,h0,hb,h3,h4,h5,hl⟩⟩,h2⟩:=U.own.all _ (List.mem_of_getElem? hk)
 .exact absurd rfl bH
 have jr:=fM cF;refine⟨b,cap,rfl,h3,h4,h0,U.step,?_,U.env,U.size,U.defers⟩;have ah:l3 (.slice (some ⟨b,0,none⟩) l.length cap)=some b:=uK h0;refine⟨λo ho=>?_,pe U.own.apart λb' e=>.inl ⟨_,hk,by rw[rv,ah];exact congrArg some e⟩⟩;rcases List.mem_or_eq_of_mem_set ho with ho|rfl
 .exact U.own.all o ho
 refine⟨⟨cur,hb,?_,λi x hx=>?_⟩,λb' e=>h2 b' (by rw[rv,ah];exact congrArg some e)⟩
 .rw[List.length_append,List.length_map,List.length_replicate,jr,h5,<-Nat.add_mul];congr 1;omega
 by_cases hi:i<l.flatten.length
 .rw[List.getElem?_append_left (by rw[List.length_map];exact hi)] at hx;obtain⟨u,hu,DC,DD⟩:=hl.DA hx;refine⟨u,?_,DC,DD⟩;rw[List.getElem?_take] at hu;split at hu
  .simpa using hu
  cases hu
 rw[List.getElem?_append_right gG,List.getElem?_replicate] at hx;split at hx<;>cases hx
def St.qp {b cap sz:Nat} {L:List (Option AV)} {l:List (List AV)} (k:Nat) (U:St c I H Γ a w) (hk:H[k]?=some (Own.raw b E L)) (hL:L.length=cap*sz) (cF:∀r∈l,r.length=sz) (hl:l.length<=cap) (h0:0<cap) (hm:cap<=maxLen)
 (he:L.take (l.length*sz)=l.flatten.map some):St c I (H.set k (Own.row (.slice (some ⟨b,0,none⟩) l.length cap) E sz l)) Γ a w:=by
 obtain⟨⟨cur,hb,je,hc⟩,h2⟩:=U.own.all _ (List.mem_of_getElem? hk);have jr:=fM cF;have ah:l3 (.slice (some ⟨b,0,none⟩) l.length cap)=some b:=uK h0;refine⟨U.step,⟨λo ho=>?_,pe U.own.apart λb' e=>.inl ⟨_,hk,by rw[rv,ah] at e;exact Option.some.inj e⟩⟩,U.env,U.size,U.defers⟩;rcases List.mem_or_eq_of_mem_set ho with ho|rfl
 .exact U.own.all o ho
 refine⟨⟨cF,.inr ⟨b,cap,cur,rfl,h0,hb,hl,hm,by omega,z1 ?_ λi x hx=>?_⟩⟩,λb' e=>h2 b' (by rw[rv,ah] at e;exact Option.some.inj e)⟩
 .have h6:l.length*sz<=cap*sz:=Nat.mul_le_mul_right _ hl;rw[jr];simp;omega
 have iG:i<l.length*sz:=by rw[<-jr];exact(List.getElem?_eq_some_iff.1 hx).1
 have e:(l.flatten.map some)[i]?=some (some x):=by rw[List.getElem?_map,hx];rfl
 rw[<-he,List.getElem?_take,if_pos iG] at e;obtain⟨u,h1,h3,h4⟩:=hc i x e;exact⟨u,by rw[List.getElem?_take,if_pos iG];simpa using h1,h3,h4⟩
def DE {q:Option Addr} {n cap:Nat} {t:Int} {sz:Nat} {ag:Bool} (hT:P.underlying T=some (.slice E)) (hE:Ty P E ag sz m zv) (h:At Γ g y (.val (.slice q n cap))) (h1:At Γ g z (.int t)) (pn:0<=t/\t<=n) (kD:n<=cap):
 Ok P H Γ g ⟨some d,.slice T y (some z) none none,ty,p,af,gd⟩ .any:=
 fY λ_ I a w he _ _ hg=>by
  have e:a.eval y=_:=h I a he hg;have e1:a.eval z=_:=h1 I a he hg;have U:(sizeOf E).run P w=.ok sz w:=hE.size;refine⟨sliced q t.toNat n cap sz,?_,trivial⟩;simp only[execOp,Option.map_some,Option.map_none,e,e1,Instr.sliceAt,Sem.run_bind,run_underlying hT,Result.andThen_ok];simp[Instr.slice,run_underlying hT,Instr.sliceBounds,run_sliceBound,pn.1,pn.2,U,sliced]
def ji {b o n cap lo sz:Nat} {t:Int} {ag:Bool} (hT:P.underlying T=some (.slice E)) (hE:Ty P E ag sz m zv) (h:At Γ g y (.val (.slice (some ⟨b,o,none⟩) n cap))) (h1:At Γ g z (.int t)) (ht:t=lo) (pn:lo<=n) (kD:lo<cap):
 Ok P H Γ g ⟨some d,.slice T y (some z) none none,ty,p,af,gd⟩ (.val (.slice (some ⟨b,o+lo*sz,none⟩) (n-lo) (cap-lo))):=
 fY λ_ I a w he _ _ hg=>by
  subst ht;have e:a.eval y=_:=h I a he hg;have e1:a.eval z=_:=h1 I a he hg;have U:(sizeOf E).run P w=.ok sz w:=hE.size;refine⟨_,?_,rfl⟩;have c3:¬cap=lo:=by omega
  have c1:(lo:Int)<=(n:Int):=by omega
  simp only[execOp,Option.map_some,Option.map_none,e,e1,Instr.sliceAt,Sem.run_bind,run_underlying hT,Result.andThen_ok];simp[Instr.slice,run_underlying hT,Instr.sliceBounds,run_sliceBound,pn,U,sliced,c3,add_plain]
def qt {b o n cap hi sz:Nat} {t:Int} {ag:Bool} (hT:P.underlying T=some (.slice E)) (hE:Ty P E ag sz m zv) (h:At Γ g y (.val (.slice (some ⟨b,o,none⟩) n cap))) (h1:At Γ g z (.int t)) (ht:t=hi) (DF:hi<=cap) (hc:0<cap):
 Ok P H Γ g ⟨some d,.slice T y none (some z) none,ty,p,af,gd⟩ (.val (.slice (some ⟨b,o,none⟩) hi cap)):=
 fY λ_ I a w he _ _ hg=>by
  subst ht;have e:a.eval y=_:=h I a he hg;have e1:a.eval z=_:=h1 I a he hg;have U:(sizeOf E).run P w=.ok sz w:=hE.size;refine⟨_,?_,rfl⟩;have c3:¬cap=0:=by omega
  have c1:(hi:Int)<=(cap:Int):=by omega
  simp only[execOp,Option.map_some,Option.map_none,e,e1,Instr.sliceAt,Sem.run_bind,run_underlying hT,Result.andThen_ok];simp[Instr.slice,run_underlying hT,Instr.sliceBounds,run_sliceBound,DF,U,sliced,c3,add_plain]
def DG {q:Option Addr} {n cap:Nat} (hT:P.underlying T=some (.slice E)) (h:At Γ g y (.val (.slice q n cap))):
 Ok P H Γ g ⟨some d,.call ⟨.builtin .cap,#[y],#[T]⟩,ty,p,af,gd⟩ (.int cap):=
 fY λ_ I a w he _ _ hg=>by
  have e:a.eval y=_:=h I a he hg;refine⟨_,?_,rfl⟩;simp[execOp,resolve,invoke,builtin,e,Builtin.cap_,run_underlying hT,goInt]
def JH {T1 T2:TypeId} {ag:Bool} {sz b o dn dc sn sc:Nat} {ad:Addr} {cur:Array Value} {cs:List Value} (hU:P.underlying T1=some (.slice E)) (hE:Ty P E ag sz m zv) (hb:w.heap[b]?=some (.cells cur T (0,0))) (hn:cs.length=min sn dn*sz)
 (R6:∀j v,cs[j]?=some v->w.cell? (ad.add j)=some v) (jF:o+cs.length<=cur.size) (h1:∀v∈cs,v.oneCell'=true):
 (Builtin.copy_ #[T1,T2] ty #[.slice (some ⟨b,o,none⟩) dn dc,.slice (some ad) sn sc]).run P w=.ok (goInt ((min sn dn:Nat):Int)) (w.setRow b (over cur.toList o cs).toArray):=by
 have U:(sizeOf E).run P w=.ok sz w:=hE.size;have xg:Nat.min sn dn=min sn dn:=rfl;have hl:=run_loadCells_list (P:=P) w ad cs R6;rw[hn] at hl;have bX:=run_storeCells_at P b o T cs 0 cur w hb (by simpa using jF) h1;simp only[Nat.add_zero] at bX;simp only[Builtin.copy_,Sem.run_bind,Sem.run_pure,List.getElem?_toArray,List.getElem?_cons_zero,List.getElem?_cons_succ,run_underlying hU,Result.andThen_ok,Builtin.lenOf,xg,U,Builtin.firstCells,hl,bX];simp[over]
def St.copied {b o:Nat} {L:List (Option AV)} {xs:List AV} {cs:List Value} {cur:Array Value} (k:Nat) (U:St c I H Γ a w) (hk:H[k]?=some (Own.raw b T L)) (hb:w.heap[b]?=some (.cells cur T (0,0))) (je:cur.size=L.length) (nN:∀(i:Nat) (x:AV),L[i]?=some (some x)->∃v,cur[i]?=some v/\x.h I v/\v.oneCell'=true)
 (hx:bm I xs cs) (jF:o+xs.length<=L.length):St c I (H.set k (Own.raw b T (over L o (xs.map some)))) Γ a (w.setRow b (over cur.toList o cs).toArray):=by
 obtain⟨_,h2⟩:=U.own.all _ (List.mem_of_getElem? hk);obtain⟨sM,qc,qd⟩:=h2 b rfl;have hlen:=hx.length;refine U.written (U.step.write sM qc bt rfl rfl rfl λk' eo=>setRow_other w b k' _ eo) (U.own.write hk rfl bt (λk' eo=>setRow_other w b k' _ λe=>eo (by rw[e];rfl)) ⟨_,setRow_heap w b cur _ T _ hb,?_,λi x hi=>?_⟩)
 .rw[jR (by simpa using jF)];have:(over cur.toList o cs).length=cur.toList.length:=jR fK;simpa using this.trans (by simpa using je)
 have e1:=JG (L:=L) (X:=xs.map some) (o:=o) (i:=i) (by simpa using jF);have e2:=JG (L:=cur.toList) (X:=cs) (o:=o) (i:=i) fK;have e3:(over cur.toList o cs).toArray[i]?=(over cur.toList o cs)[i]?:=by simp
 rw[e3,e2];rw[e1] at hi;simp only[List.length_map] at hi;rw[hlen];by_cases h3:i<o
 .rw[if_pos h3] at hi⊢;simpa using nN i x hi
 rw[if_neg h3] at hi⊢;by_cases h4:i<o+xs.length
 .rw[if_pos h4] at hi⊢;exact hx.DA hi
 rw[if_neg h4] at hi⊢;simpa using nN i x hi
def St.ve {T1 T2:TypeId} {ag:Bool} {sz b o dn dc:Nat} {L:List (Option AV)} {l2:List (List AV)} (k:Nat) (U:St c I H Γ a w) (hU:P.underlying T1=some (.slice E)) (hE:Ty P E ag sz m zv) (hy:At Γ true y (.val (.slice (some ⟨b,o,none⟩) dn dc))) (hz:At Γ true z (.rows sz l2)) (hk:H[k]?=some (Own.raw b T L)) (bH:l2≠[])
 (hle:l2.length<=dn) (jF:o+l2.length*sz<=L.length) (hd:Nat.blt d c.n=true)
 (kk:∀{a' w'},St c I (H.set k (Own.raw b T (over L o (l2.flatten.map some)))) ((d,.int l2.length)::Γ) a' w'->wpList P ops Q rest a' w'):
 wpList P ops Q (⟨some d,.call ⟨.builtin .copy,#[y,z],#[T1,T2]⟩,ty,p,af,none⟩::rest) a w:=by
 have e1:a.eval y=_:=hy I a U.env rfl;obtain⟨q,cap,e2,g1,g2,g3,g4,g5⟩:=hz I a U.env rfl;obtain⟨qa,rfl,hq⟩:=g4.resolve_left bH;obtain⟨qb,qo,qs⟩:=qa;obtain rfl:qs=none:=hq.1;obtain⟨cs,h1,h2,h3⟩:=hq.toArray U.step.cX;obtain⟨⟨cur,hb,je,nN⟩,_⟩:=U.own.all _ (List.mem_of_getElem? hk);have jr:=fM g3;have aR:cs.length=l2.length*sz:=by rw[h2.length,jr]
 have hr:=JH (P:=P) (T2:=T2) (ty:=ty) (dn:=dn) (dc:=dc) (sc:=cap) (o:=o) hU hE hb (by rw[aR,Nat.min_eq_left hle]) h3 om h2.one;rw[Nat.min_eq_left hle] at hr;refine hZ rfl ?_;unfold Oper.wp;simp only[execOp,resolve,invoke,builtin,Sem.run_bind,Sem.run_pure,Result.andThen_ok,List.map_toArray,List.map_cons,List.map_nil,e1,e2,hr];have bM:=U.copied k hk hb je nN h2 om (o:=o);exact kk (bM.lC bM.step (Im.le_refl _) bM.own hd rfl)
def St.vf {T1 T2:TypeId} {ag:Bool} {sz b o dn dc b2 o2 sn sc:Nat} {L L2:List (Option AV)} {xs:List AV} (k k2:Nat) (U:St c I H Γ a w) (hU:P.underlying T1=some (.slice E)) (hE:Ty P E ag sz m zv) (hy:At Γ true y (.val (.slice (some ⟨b,o,none⟩) dn dc))) (hz:At Γ true z (.val (.slice (some ⟨b2,o2,none⟩) sn sc))) (hk:H[k]?=some (Own.raw b T L)) (kj:H[k2]?=some (Own.raw b2 T' L2))
 (hx:(L2.drop o2).take xs.length=xs.map some) (lD:xs.length=min sn dn*sz) (jF:o+xs.length<=L.length) (hd:Nat.blt d c.n=true)
 (kk:∀{a' w'},St c I (H.set k (Own.raw b T (over L o (xs.map some)))) ((d,.int ((min sn dn:Nat):Int))::Γ) a' w'->wpList P ops Q rest a' w'):
 wpList P ops Q (⟨some d,.call ⟨.builtin .copy,#[y,z],#[T1,T2]⟩,ty,p,af,none⟩::rest) a w:=by
 have e1:a.eval y=_:=hy I a U.env rfl;have e2:a.eval z=_:=hz I a U.env rfl;obtain⟨cs,h2,h3⟩:=DB (U.own.all _ (List.mem_of_getElem? kj)).1 hx;obtain⟨⟨cur,hb,je,nN⟩,_⟩:=U.own.all _ (List.mem_of_getElem? hk);have aR:cs.length=min sn dn*sz:=by rw[h2.length,lD]
 have hr:=JH (P:=P) (T2:=T2) (ty:=ty) (dn:=dn) (dc:=dc) (sc:=sc) (o:=o) hU hE hb aR h3 om h2.one;refine hZ rfl ?_;unfold Oper.wp;simp only[execOp,resolve,invoke,builtin,Sem.run_bind,Sem.run_pure,Result.andThen_ok,List.map_toArray,List.map_cons,List.map_nil,e1,e2,hr];have bM:=U.copied k hk hb je nN h2 jF (o:=o);exact kk (bM.lC bM.step (Im.le_refl _) bM.own hd rfl)
def St.DH {TN:TypeId} {ag:Bool} {sz b o i cap iS:Nat} {t:Int} {L:List (Option AV)} {xs:List AV} {k:IntKind} (j:Nat) (U:St c I H Γ a w) (hU:P.underlying T=some (.slice E)) (hN:P.underlying TN=some (.int k)) (hE:Ty P E ag sz m zv) (fe:zv.cells.size=sz) (h0:0<sz)
 (hy:At Γ true y (.val (.slice (some ⟨b,o,none⟩) i cap))) (hz:At Γ true z (.int t)) (ht:t=iS) (DI:0<iS) (hk:H[j]?=some (Own.raw b T' L)) (hx:(L.drop o).take xs.length=xs.map some) (lD:xs.length=i*sz) (hg:cap<i+iS) (hb:(i+iS)*m<=140737488355328) (sN:i+iS<=140737488355328) (hd:Nat.blt d c.n=true)
 (kc:∀{g mY a' w'},i+iS<=mY->mY<=maxLen->St c I (H++[Own.raw g E (xs.map some++List.replicate ((mY-i)*sz) none)]) ((d,.val (.slice (some ⟨g,0,none⟩) (i+iS) mY))::Γ) a' w'->wpList P ops Q rest a' w'):
 wpList P ops Q (⟨some d,.call ⟨.builtin .append,#[y,z],#[T,TN]⟩,ty,p,af,none⟩::rest) a w:=by
 subst ht;have e1:a.eval y=_:=hy I a U.env rfl;have e2:a.eval z=_:=hz I a U.env rfl;obtain⟨ti,hi,rz,iu,uT⟩:=hE.get;obtain⟨cs,h2,h3⟩:=DB (U.own.all _ (List.mem_of_getElem? hk)).1 hx;have aR:cs.length=i*sz:=by rw[h2.length,lD]
 have hold:(Builtin.firstCells ti.size i (.slice (some ⟨b,o,none⟩) i cap)).run P w.drew=.ok cs.toArray w.drew:=by
  have:=run_loadCells_list (P:=P) w.drew ⟨b,o,none⟩ cs (λj v hj=>h3 j v hj);rw[aR] at this;simpa[Builtin.firstCells,rz] using this
 have hr:=Lib.run_append_grow_zeros (P:=P) w T TN ty E ti zv .i64 k hU hN hi uT (some ⟨b,o,none⟩) i cap cs hold iS DI om hg om (by
  rw[iu];have:iS*m<=(i+iS)*m:=Nat.mul_le_mul_right _ om;omega) (by rw[iu];exact growslice_fits hg hb)
 refine hZ rfl ?_;unfold Oper.wp;simp only[execOp,resolve,invoke,builtin,Sem.run_bind,Sem.run_pure,Result.andThen_ok,List.map_toArray,List.map_cons,List.map_nil,e1,e2,hr];have sO:=grownCap_ge w (i+iS) cap E;have rH:=grownCap_le_maxLen w (i+iS) cap E (by simp only[maxLen];omega);have jg:bO c.own I w.drew H:=⟨λo ho=>⟨o.jd I I w _ (Im.le_refl I) (λ_ _=>rfl) (U.own.all o ho).1,(U.own.all o ho).2⟩,U.own.apart⟩;have al:(Own.raw w.heap.size E (xs.map some++List.replicate ((grownCap w (i+iS) cap E-i)*sz) none)).ok I (w.drew.alloc (.cells (cs.toArray++Builtin.zeroCells zv.cells iS++Builtin.zeroCells zv.cells (grownCap w (i+iS) cap E-(i+iS))) E)):=by
  refine⟨_,ru w.drew _,?_,λq x hq=>?_⟩
  .have s1:=size_zeroCells zv.cells iS;have s2:=size_zeroCells zv.cells (grownCap w (i+iS) cap E-(i+iS));rw[Array.size_append,Array.size_append,s1,s2,fe];simp only[List.size_toArray,List.length_append,List.length_map,List.length_replicate,aR,lD,<-Nat.add_mul];congr 1;omega
  by_cases DJ:q<xs.length
  .rw[List.getElem?_append_left (by simpa using DJ)] at hq;obtain⟨u,hu,DC,DD⟩:=h2.DA hq;refine⟨u,?_,DC,DD⟩;have JI:q<cs.toArray.size:=by simp;rw[h2.length];exact DJ
   rw[Array.append_assoc,Array.getElem?_append_left JI];simpa using hu
  rw[List.getElem?_append_right (by simpa using DJ),List.getElem?_replicate] at hq;split at hq<;>cases hq
 exact kc sO rH (U.lC (U.step.trans (Step.IX U.step.cX _)) (Im.le_refl _) (jg.push U.room (λ_ e=>Eq.symm e) U.step.cX al) hd rfl)
def R7 (tS tR e:TypeId) (ht:P.underlying tS=some (.slice e)) (size:Nat) (hz:∀w,(Go.sizeOf e).run P w=.ok size w)
 (a b:Addr) (la ca lb cb:Nat) (bH:a.block≠b.block) (tA tB:TypeId) (kA kB:Nat)
 (R8:w.shape? a.block=some (tA,kA)) (R9:kA≠0) (DK:w.shape? b.block=some (tB,kB)) (Sa:w.frozen? b=false) (Sb:w.frozen? {block:=b.block,off:=kB}=false):
 (Extern.SlicesOverlaps.overlaps #[tS,tS] #[tR] #[.slice (some a) la ca,.slice (some b) lb cb]).run P w=.ok (.bool false) w:=by
 have zL:(a.block !=b.block)=true:=by simpa using bH
 have Sc:(a.block==b.block)=false:=by simpa using bH
 change Sem.run P (α:=Value) (do
  let some t:=(#[tS,tS]:Array TypeId)[0]?|stuck "slices.overlaps: no parameter types"
  let .slice elem<-underlying t|stuck "slices.overlaps: slice type expected"
  let size<-sizeOf elem
  match(some a:Option Addr),(some b:Option Addr) with
  |some a,some b=>
   if la=0\/lb=0\/size=0 then pure (Value.bool false)
   else if a.block !=b.block&&(<-frozen a)&&(<-frozen b) then unsupported .addressObserved
   else do
    if a.block !=b.block then do
     noView a;noView b
     if<-mayBeOne a b then return Value.bool ((<-choose (.extern "sameAddr.stringBytes" 2))==1)
    pure (Value.bool (a.block==b.block&&a.off<b.off+lb*size&&b.off<a.off+la*size))
  |_,_=>pure (Value.bool false)) w=_
 by_cases h0:la=0\/lb=0\/size=0
 .simp[run_underlying ht,hz,h0]
 cases kA with
 |zero=>exact absurd rfl R9
 |succ kA=>
  cases Sd:w.frozen? a<;>cases Se:w.frozen? {block:=a.block,off:=kA+1}<;>
   simp[run_underlying ht,hz,h0,zL,Sc,frozen,noView,viewAt,mayBeOne,stringish,shape,Sem.run,R8,DK,Sa,Sb,Sd,Se]
def St.overlaps {f:FuncId} {fn:Func} {ts:Array TypeId} {tR:TypeId} {ag:Bool} {sz b o n cap:Nat} {L:List (Option AV)} {l2:List (List AV)} (k:Nat) (U:St c I H Γ a w) (hf:P.funcs[f]?=some fn) (l4:(fn.name== "runtime.NumGoroutine")=false) (hb:fn.body.isNone=true) (hn:Extern.findNext fn=none) (he:Extern.find fn=some (Extern.SlicesOverlaps.overlaps #[T,T] #[tR]))
 (hU:P.underlying T=some (.slice E)) (hE:Ty P E ag sz m zv) (h0:0<sz) (hy:At Γ true y (.rows sz l2)) (bH:l2≠[]) (hz:At Γ true z (.val (.slice (some ⟨b,o,none⟩) n cap))) (hk:H[k]?=some (Own.raw b T' L)) (hd:Nat.blt d c.n=true)
 (kk:∀{a' w'},St c I H ((d,.bool false)::Γ) a' w'->wpList P ops Q rest a' w'):
 wpList P ops Q (⟨some d,.call ⟨.value (.func f),#[y,z],ts⟩,ty,p,af,none⟩::rest) a w:=by
 have e2:a.eval z=_:=hz I a U.env rfl;obtain⟨q,l7,e1,g1,g2,g3,g4,g5⟩:=hy I a U.env rfl;obtain⟨qa,rfl,uU,cs,vg,Sf⟩:=g4.resolve_left bH;obtain⟨TT,fr,JJ⟩:=U.step.cX _ _ vg;obtain⟨⟨cur,ae,je,nN⟩,h2⟩:=U.own.all _ (List.mem_of_getElem? hk);have qc:=(h2 b rfl).2.1;have Sg:qa.block≠b:=λe=>by rw[e,qc] at vg;cases vg
 have lE:cs.size≠0:=λh=>by
  have hl:=Sf.length;have jr:=fM g3;have:0<l2.length:=List.length_pos_iff.2 bH;have h6:0<l2.length*sz:=Nat.mul_pos this h0;have hle:((cs.toList.drop qa.off).take l2.flatten.length).length<=cs.toList.length:=by simp;omega
  have:cs.toList.length=0:=by simpa using h
  omega
 have ia:=R7 (P:=P) (w:=w) T tR E hU sz (λw=>hE.size) qa ⟨b,o,none⟩ l2.length l7 n cap Sg TT T' cs.size cur.size (by simp[World.shape?,JJ]) lE (by simp[World.shape?,ae]) (by simp[World.frozen?,ae]) (by simp[World.frozen?,ae]);refine hZ rfl ?_;unfold Oper.wp;have hc:(execOp a.eval (⟨some d,.call ⟨.value (.func f),#[y,z],ts⟩,ty,p,af,none⟩:Oper)).run P w=.ok (.value (.bool false)) w:=by
  simp only[execOp,resolve,Act.eval];simp[Deferred.ofValue,invoke,Sem.run_bind,Sem.run_pure,run_callFunc_extern hf l4 hb hn he,e1,e2,ia]
 rw[hc];exact kk (U.lC U.step (Im.le_refl _) U.own hd rfl)
end
def Sh {P:Program} {f:FuncId} {fn:Func} {code:Code} {args:List AV} {R:Ending->World->Prop} (N:Nat) (hf:P.funcs[f]?=some fn) (hb:fn.body=some code) (hn:fn.ntmps=N) (hN:Nat.ble args.length N=true)
 {W0:World} {F:Nat->Prop} {I0 I:Im} {w:World} {vs:Array Value} {h0:List Own} (bX:eF F I0 W0 I w) (dN:bO (Ctx.own ⟨W0,I0,N,F⟩) I w h0) (ha:cP I args vs.toList)
 (h:∀a:Act,St ⟨W0,I0,N,F⟩ I h0 (ke 0 args) a w->code.wp P (bodyPost P fn R) a w):Calls P f vs w R:=by
 refine calls_of_wp hf hb ?_;have hl:vs.size=args.length:=by simpa using ha.length
 have QZ:args.length<=N:=Nat.le_of_ble_eq_true hN;refine h _ ⟨bX,dN,?_,?_,rfl⟩
 .intro t x e;have:=wR args vs.toList [] (List.replicate (fn.ntmps-vs.size) undef) ha t x e;have heq:(vs++Array.replicate (fn.ntmps-vs.size) undef)=([]++vs.toList++List.replicate (fn.ntmps-vs.size) undef).toArray:=by
   apply Array.toList_inj.1;simp
  rw[heq];exact this
 simp[hn,hl];omega
def bO.only {base:Nat->Prop} {I:Im} {w:World} {H:List Own} {x:Own} {k:Nat} (h:bO base I w H) (hk:H[k]?=some x):bO base I w [x]:=
 ⟨λo ho=>by obtain rfl:o=x:=by simpa using ho
            exact h.all _ (List.mem_of_getElem? hk),by simp⟩
def dz:List Own->Nat->Prop
 |[],_=>False
 |o::h,b=>o.fh b\/dz h b
def qu {b:Nat}:∀{h:List Own},dz h b↔∃o∈h,o.fh b
 |[]=>by simp[dz]
 |o::h=>by simp[dz,qu (h:=h)]
def po {α:Type} (c:Ctx) (ok:α->Prop) (h1:α->List Own) (res:α->AV):Ending->World->Prop
 |.returned v,w'=>∃x I',ok x/\eF c.F c.I c.W I' w'/\bO c.own I' w' (h1 x)/\(res x).h I' v
 |_,_=>False
def bJ {α:Type} (P:Program) (f:FuncId) (args:List AV) (h0:List Own) (ok:α->Prop) (h1:α->List Own) (res:α->AV):Prop:=
 nG P f/\∀(I:Im) (w:World) (vs:Array Value),dx w I->bO (dz h0) I w h0->cP I args vs.toList->Calls P f vs w (po ⟨w,I,0,dz h0⟩ ok h1 res)
def bO.weaken {base JK:Nat->Prop} {I:Im} {w:World} {H:List Own} (h:bO base I w H) (hb:∀b,base b->JK b):bO JK I w H:=
 ⟨λo ho=>⟨(h.all o ho).1,λb e=>⟨hb b ((h.all o ho).2 b e).1,((h.all o ho).2 b e).2⟩⟩,h.apart⟩
def bO.exact {base:Nat->Prop} {I:Im} {w:World} {H:List Own} (h:bO base I w H):bO (dz H) I w H:=
 ⟨λo ho=>⟨(h.all o ho).1,λb e=>⟨qu.2 ⟨o,ho,e⟩,((h.all o ho).2 b e).2⟩⟩,h.apart⟩
def bJ.intro {α:Type} {P:Program} {f:FuncId} {fn:Func} {code:Code} {args:List AV} {h0:List Own} {ok:α->Prop} {h1:α->List Own} {res:α->AV} (N:Nat) (hf:P.funcs[f]?=some fn) (hb:fn.body=some code) (hn:fn.ntmps=N) (hN:Nat.ble args.length N=true) (l4:(fn.name== "runtime.NumGoroutine")=false)
 (h:∀(W:World) (I:Im) (a:Act),St ⟨W,I,N,dz h0⟩ I h0 (ke 0 args) a W->code.wp P (bodyPost P fn (po ⟨W,I,N,dz h0⟩ ok h1 res)) a W):bJ P f args h0 ok h1 res:=
 ⟨nG.of hf hb l4,λI w vs hm ho ha=>Calls.mono (Sh N hf hb hn hN (eF.refl hm) (ho.weaken λb hb=>Or.inr hb) ha (h w I)) λe w' he=>he⟩
section
variable {P:Program} {c:Ctx} {I:Im} {H:List Own} {Γ:Env} {a:Act} {w:World} {Q:Exit->Act->World->Prop} {ops:Array Oper} {rest:List Oper} {d:Nat} {y z:Operand} {ty T E:TypeId} {p:String} {af:Array Edge} {m sz:Nat} {zv:Value} {ys:Array Operand} {ts:Array TypeId} {l l':List (List AV)}
def z3 {f:FuncId} {o:Oper} (sS:nG P f) (ho:o=⟨some d,.call ⟨.value (.func f),ys,ts⟩,ty,p,af,none⟩):(execOp a.eval o).run P w=.ok (.enter f (ys.map a.eval)) w:=by
 subst ho;simp only[execOp,resolve,Act.eval];simp[Deferred.ofValue,invoke,sS _ w,Sem.run_bind,Sem.run_pure]
def hole:List Own->List Nat->List Own
 |H,[]=>H
 |H,k::ks=>hole (H.set k Own.gone) ks
def fill:List Own->List Nat->List Own->List Own
 |H,[],r=>H++r
 |H,_::_,[]=>H
 |H,k::ks,o::r=>fill (H.set k o) ks r
def bO.DL {base:Nat->Prop} {o:Own} {r:List Own} {k:Nat} (h:bO base I w (H++r)) (hk:H[k]?=some o):bO base I w (H.set k Own.gone++(r++[o])):=by
 obtain⟨hl,rfl⟩:=List.getElem?_eq_some_iff.1 hk;have e1:H=H.take k++H[k]::H.drop (k+1):=by simp
 have e2:H.set k Own.gone=H.take k++Own.gone::H.drop (k+1):=by rw[List.set_eq_take_append_cons_drop,if_pos hl]
 refine⟨λx hx=>?_,?_⟩
 .rw[e2] at hx;simp only[List.append_assoc,List.cons_append,List.mem_append,List.mem_cons,List.not_mem_nil,or_false] at hx;rcases hx with hx|rfl|hx|hx|rfl
  .exact h.all x (List.mem_append_left _ (List.mem_of_mem_take hx))
  .exact⟨trivial,λb e=>by cases e⟩
  .exact h.all x (List.mem_append_left _ (List.mem_of_mem_drop hx))
  .exact h.all x (List.mem_append_right _ hx)
  exact h.all _ (List.mem_append_left _ (List.getElem_mem _))
 rw[e2];have hn:=h.apart;rw[e1] at hn;have hg:(Own.gone::(H.take k++H[k]::H.drop (k+1)++r)).Pairwise kz:=List.pairwise_cons.2 ⟨λy _ b e _=>e.elim,hn⟩;refine hg.perm ?_ λh=>h.symm;have p1:(Own.gone::(H.take k++(H[k]::(H.drop (k+1)++r)))).Perm (H.take k++(Own.gone::(H[k]::(H.drop (k+1)++r)))):=List.perm_middle.symm;have p2:(H.take k++(Own.gone::(H[k]::(H.drop (k+1)++r)))).Perm (H.take k++(Own.gone::((H.drop (k+1)++r)++[H[k]]))):=List.Perm.append_left _ (List.Perm.cons _ (List.perm_append_singleton _ _).symm);have p:=p1.trans p2;simp only[List.append_assoc,List.cons_append] at p⊢;exact p
def bO.DM {base:Nat->Prop}:∀{ks:List Nat} {H h0 r:List Own},bO base I w (H++r)->ks.Nodup->ks.map (λk=>H[k]?)=h0.map some->bO base I w (hole H ks++(r++h0))
 |[],H,[],r,h,_,_=>by simpa[hole] using h
 |[],_,_::_,_,_,_,e=>by simp at e
 |_::_,_,[],_,_,_,e=>by simp at e
 |k::ks,H,o::h0,r,h,hd,e=>by
  rw[List.nodup_cons] at hd;simp only[List.map_cons,List.cons.injEq] at e;have:=bO.DM (ks:=ks) (H:=H.set k Own.gone) (h0:=h0) (r:=r++[o]) (h.DL e.1) hd.2 (by
   rw[<-e.2];refine List.map_congr_left λj hj=>?_;have bH:k≠j:=λh=>hd.1 (by rw[h];exact hj);rw[List.getElem?_set_ne bH])
  simpa[hole] using this
def bO.pick {base:Nat->Prop} {ks:List Nat} {h0:List Own} (h:bO base I w H) (gK:ks.map (λk=>H[k]?)=h0.map some) (dU:ks.Nodup):bO base I w h0:=by
 have pq:=bO.DM (r:=[]) (by simpa using h) dU gK;rw[List.nil_append] at pq;refine⟨λo ho=>pq.all o (List.mem_append_right _ ho),?_⟩;exact(List.pairwise_append.1 pq.apart).2.1
def St.bD {α:Type} {fn:Func} {rs:List ResultVar} {xs:List AV} {ok:α->Prop} {h1:α->List Own} {res:α->AV} (x:α) (ks:List Nat) (U:St c I H Γ a w) (hr:fn.results=rs.toArray) (h:aX P H Γ rs xs) (hx:ok x) (gK:ks.map (λk=>H[k]?)=(h1 x).map some) (e:qg xs=res x) (dU:decide ks.Nodup=true:=by decide):bodyPost P fn (po c ok h1 res) .ret a w:=by
 obtain⟨v,e1,e2⟩:=U.xc hr h;exact⟨U.defers,v,e1,x,I,hx,U.step,U.own.pick gK (of_decide_eq_true dU),e▸e2⟩
def St.kK {α:Type} {fn:Func} {rs:List ResultVar} {xs:List AV} {ok:α->Prop} {h1:α->List Own} {res:α->AV} (x:α) (ks:List Nat) (U:St c I H Γ a w) (hr:fn.results=rs.toArray) (h:aX P H Γ rs xs) (hx:ok x) (gK:ks.map (λk=>H[k]?)=(h1 x).map some) (e:qg xs=res x) (dU:decide ks.Nodup=true:=by decide):bodyPost P fn (po c ok h1 res) .normal a w:=U.bD x ks hr h hx gK e dU
def JL:∀{ks:List Nat} {H:List Own} {k:Nat},k∈ks->k<H.length->(hole H ks)[k]?=some Own.gone
 |[],_,_,h,_=>by simp at h
 |j::ks,H,k,h,hl=>by
  unfold hole;by_cases hk:k∈ks
  .exact JL hk (by simpa using hl)
  obtain rfl:k=j:=(List.mem_cons.1 h).resolve_right hk;have:∀(ks:List Nat) (H:List Own),k∉ks->(hole H ks)[k]?=H[k]?:=by
   intro ks;induction ks with
   |nil=>intro H _;rfl
   |cons i ks ih=>
    intro H hn
    rw[List.mem_cons,not_or] at hn
    unfold hole
    rw[ih _ hn.2,List.getElem?_set_ne (λh=>hn.1 h.symm)]
  rw[this ks _ hk,List.getElem?_set_self hl]
def bO.filled {base:Nat->Prop}:∀{ks:List Nat} {H r:List Own},bO base I w (H++r)->ks.Nodup->(∀k∈ks,H[k]?=some Own.gone)->bO base I w (fill H ks r)
 |[],H,r,h,_,_=>by simpa[fill] using h
 |_::_,H,[],h,_,_=>by simpa[fill] using h
 |k::ks,H,o::r,h,hd,hg=>by
  rw[List.nodup_cons] at hd;unfold fill;have hk:=hg k bt;obtain⟨hl,he⟩:=List.getElem?_eq_some_iff.1 hk;have e1:H=H.take k++Own.gone::H.drop (k+1):=by rw[<-he];simp
  have e2:H.set k o=H.take k++o::H.drop (k+1):=by rw[List.set_eq_take_append_cons_drop,if_pos hl]
  refine bO.filled ⟨λx hx=>?_,?_⟩ hd.2 λj hj=>?_
  .refine h.all x ?_;rcases List.mem_append.1 hx with hx|hx
   .rcases List.mem_or_eq_of_mem_set hx with hx|rfl
    .simp[hx]
    simp
   simp[hx]
  .have hn:=h.apart;rw[e1] at hn;rw[e2];have uO:(H.take k++H.drop (k+1)++o::r).Pairwise kz:=hn.sublist bt;refine uO.perm ?_ λh=>h.symm;rw[List.append_assoc,List.append_assoc,List.cons_append];refine List.Perm.append_left _ ?_;exact List.perm_middle
  have bH:k≠j:=λh=>hd.1 (by rw[h];exact hj);rw[List.getElem?_set_ne bH];exact hg j (by simp[hj])
def St.xu {α:Type} {I':Im} {w':World} {h0:List Own} {h1:α->List Own} {res:α->AV} {x:α} {v:Value} (ks:List Nat) (U:St c I H Γ a w) (gK:ks.map (λk=>H[k]?)=h0.map some) (dU:ks.Nodup)
 (bX:eF (dz h0) I w I' w') (ho:bO (Ctx.own ⟨w,I,0,dz h0⟩) I' w' (h1 x)) (hv:(res x).h I' v) (hd:Nat.blt d c.n=true):St c I' (fill (hole H ks) ks (h1 x)) ((d,res x)::Γ) (a.put (some d) v) w':=by
 have pq:=bO.DM (r:=[]) (by simpa using U.own) dU gK;rw[List.nil_append] at pq;have jq:∀b,dz h0 b->c.own b:=λb hb=>by
  obtain⟨o,ho,e⟩:=qu.1 hb;exact((pq.all o (List.mem_append_right _ ho)).2 b e).1
 have DN:∀o∈hole H ks,∀b,o.fh b->¬dz h0 b:=λo ho b e hb=>by
  obtain⟨o',jH,e'⟩:=qu.1 hb;exact(List.pairwise_append.1 pq.apart).2.2 o ho o' jH b e e'
 have dN:bO c.own I' w' (hole H ks++h1 x):=by
  refine⟨λo hm=>?_,?_⟩
  .rcases List.mem_append.1 hm with hm|hm
   .obtain⟨q1,q2⟩:=pq.all o (List.mem_append_left _ hm);refine⟨o.jd I I' w w' bX.le (λb e=>bX.below.block b (q2 b e).2.2 (DN o hm b e)) q1,λb e=>?_⟩;obtain⟨r1,r2,r3⟩:=q2 b e;exact⟨r1,(bX.fL b r3 (DN o hm b e)).trans r2,Nat.lt_of_lt_of_le r3 bX.below.size⟩
   obtain⟨q1,q2⟩:=ho.all o hm;refine⟨q1,λb e=>?_⟩;obtain⟨r1,r2,r3⟩:=q2 b e;exact⟨r1.elim (λh=>.inl (Nat.le_trans U.step.below.size h)) (jq b),r2,r3⟩
  rw[List.pairwise_append];refine⟨(List.pairwise_append.1 pq.apart).1,ho.apart,λo hm o' lB b e e'=>?_⟩;have h3:=((pq.all o (List.mem_append_left _ hm)).2 b e).2.2;rcases((ho.all o' lB).2 b e').1 with h|h
  .have h:w.heap.size<=b:=h;omega
  exact DN o hm b e h
 have w9:eF c.F c.I c.W I' w':=by
  refine⟨Im.le_trans U.step.le bX.le,λb hb hf=>?_,bX.cX,⟨bX.below.os.trans U.step.below.os,bX.below.tape.trans U.step.below.tape,bX.below.output.trans U.step.below.output,Nat.le_trans U.step.below.size bX.below.size,λb hb hf=>?_⟩⟩
  .have hn:¬dz h0 b:=λh=>by rcases jq b h with h|h;exact absurd h om;exact hf h
   exact(bX.fL b (Nat.lt_of_lt_of_le hb U.step.below.size) hn).trans (U.step.fL b hb hf)
  have hn:¬dz h0 b:=λh=>by rcases jq b h with h|h;exact absurd h om;exact hf h
  exact(bX.below.block b (Nat.lt_of_lt_of_le hb U.step.below.size) hn).trans (U.step.below.block b hb hf)
 have Si:∀k∈ks,(hole H ks)[k]?=some Own.gone:=λk hk=>by
  have:(H[k]?)∈h0.map some:=by rw[<-gK];exact List.mem_map.2 ⟨k,hk,rfl⟩
  obtain⟨o,_,e⟩:=List.mem_map.1 this;exact JL hk (List.getElem?_eq_some_iff.1 e.symm).1
 exact⟨w9,bO.filled dN dU Si,(U.env.up bX.le).put (by rw[U.size];simpa using hd) hv,by simp[Act.put,U.size],U.defers⟩
def St.bz {α:Type} {f:FuncId} {xs:List AV} {h0:List Own} {ok:α->Prop} {h1:α->List Own} {res:α->AV} (ks:List Nat) (U:St c I H Γ a w) (hf:bJ P f xs h0 ok h1 res) (hO:∀I a,cM I a Γ->true=true->cP I xs (ys.map a.eval).toList) (gK:ks.map (λk=>H[k]?)=h0.map some) (dU:decide ks.Nodup=true) (hd:Nat.blt d c.n=true)
 (k:∀x I' a' w',ok x->St c I' (fill (hole H ks) ks (h1 x)) ((d,res x)::Γ) a' w'->wpList P ops Q rest a' w'):wpList P ops Q (⟨some d,.call ⟨.value (.func f),ys,ts⟩,ty,p,af,none⟩::rest) a w:=by
 refine hZ rfl ?_;unfold Oper.wp;rw[z3 hf.1 rfl,Oper.upon_enter];have dU:=of_decide_eq_true dU;have dN:bO (dz h0) I w h0:=(U.own.pick gK dU).exact;refine Calls.mono (hf.2 I w _ U.step.cX dN (hO I a U.env rfl)) λe w' he=>?_;cases e with
 |panicked _=>exact he.elim
 |outgrown=>exact he.elim
 |returned v=>
  obtain⟨x,I',hx,bX,ho,hv⟩:=he
  exact k x I' _ w' hx (U.xu ks gK dU bX ho hv hd)
def gO (P:Program) (f:FuncId) (args:List AV) (E:TypeId) (sz:Nat) (l:List (List AV)):Prop:=bJ P f args [] (λ_:Value=>True) (λv=>[Own.row v E sz l]) AV.val
def gO.intro {f:FuncId} {fn:Func} {code:Code} {args:List AV} {E:TypeId} {sz:Nat} {l:List (List AV)} (N:Nat) (hf:P.funcs[f]?=some fn) (hb:fn.body=some code) (hn:fn.ntmps=N) (hN:Nat.ble args.length N=true) (l4:(fn.name== "runtime.NumGoroutine")=false)
 (h:∀(W:World) (I:Im) (a:Act),St ⟨W,I,N,dz []⟩ I [] (ke 0 args) a W->code.wp P (bodyPost P fn (po ⟨W,I,N,dz []⟩ (λ_:Value=>True) (λv=>[Own.row v E sz l]) AV.val)) a W):gO P f args E sz l:=bJ.intro N hf hb hn hN l4 h
def JM:dz []=jD:=by funext b;simp[dz,jD]
def eF.none {I I':Im} {w w':World} (h:eF (dz []) I w I' w'):Step I w I' w':=eF.all (JM▸h)
def Sj {I0 I:Im} {W0 w:World} {v:Value} {E:TypeId} {sz:Nat} {l:List (List AV)} (bX:eF (dz []) I0 W0 I w) (ho:bO (Ctx.own ⟨W0,I0,0,dz []⟩) I w [Own.row v E sz l]):∃I',Step I0 W0 I' w/\(AV.rows sz l).h I' v:=by
 have U:St ⟨W0,I0,0,dz []⟩ I [Own.row v E sz l] [] {tmps:=#[],defers:=[]} w:=⟨bX,ho,λt x e=>by simp[Env.get] at e,rfl,rfl⟩;obtain⟨I',bM,hv⟩:=U.ph 0 rfl;exact⟨I',eF.none bM.step,hv⟩
def gO.fn {f:FuncId} {args:List AV} {E:TypeId} {sz:Nat} {l:List (List AV)} (h:gO P f args E sz l):Fn P f args (.rows sz l):=
 ⟨h.1,λI w vs hm ha=>(h.2 I w vs hm (bO.nil _ _ _) ha).mono λe w' he=>by
   cases e with
   |panicked _=>exact he.elim
   |outgrown=>exact he.elim
   |returned v=>
    obtain⟨x,I',_,bX,ho,hx⟩:=he
    obtain rfl:v=x:=hx
    obtain⟨I2,Sk,hv⟩:=Sj bX ho
    exact⟨I2,Sk,hv⟩⟩
def St.nO {fn:Func} {v:Value} {r:Nat} (k:Nat) (U:St c I H Γ a w) (hr:fn.results=#[.tmp r]) (h2:Env.get r Γ=some (.val v)) (hk:H[k]?=some (Own.row v E sz l)) (hl:l=l'):
 bodyPost P fn (po c (λ_:Value=>True) (λv=>[Own.row v E sz l']) AV.val) .ret a w:=by
 subst hl;obtain⟨v',h1,hv⟩:=U.xc (P:=P) (fn:=fn) (rs:=[.tmp r]) (xs:=[.val v]) hr (.cons (.t h2) .nil);obtain rfl:v'=v:=hv;exact⟨U.defers,v',h1,v',I,trivial,U.step,U.own.only hk,rfl⟩
def St.km {f:FuncId} {xs:List AV} (U:St c I H Γ a w) (hf:gO P f xs E sz l) (hO:∀I a,cM I a Γ->true=true->cP I xs (ys.map a.eval).toList) (hd:Nat.blt d c.n=true)
 (k:∀I' v a' w',St c I' (H++[Own.row v E sz l]) ((d,.val v)::Γ) a' w'->wpList P ops Q rest a' w'):wpList P ops Q (⟨some d,.call ⟨.value (.func f),ys,ts⟩,ty,p,af,none⟩::rest) a w:=
 U.bz [] hf hO rfl aO hd λv I' a' w' _ h=>k I' v a' w' h
def fQ (P:Program) (f:FuncId) (args:List AV) (h0 h1:List Own) (res:AV):Prop:=bJ P f args h0 (λ_:Unit=>True) (λ_=>h1) (λ_=>res)
def fQ.intro {f:FuncId} {fn:Func} {code:Code} {args:List AV} {h0 h1:List Own} {res:AV} (N:Nat) (hf:P.funcs[f]?=some fn) (hb:fn.body=some code) (hn:fn.ntmps=N) (hN:Nat.ble args.length N=true) (l4:(fn.name== "runtime.NumGoroutine")=false)
 (h:∀(W:World) (I:Im) (a:Act),St ⟨W,I,N,dz h0⟩ I h0 (ke 0 args) a W->code.wp P (bodyPost P fn (po ⟨W,I,N,dz h0⟩ (λ_:Unit=>True) (λ_=>h1) (λ_=>res))) a W):fQ P f args h0 h1 res:=bJ.intro N hf hb hn hN l4 h
def St.qv {fn:Func} {rs:List ResultVar} {xs:List AV} {res:AV} {h1:List Own} (U:St c I H Γ a w) (hr:fn.results=rs.toArray) (h:aX P H Γ rs xs) (hH:H=h1) (e:qg xs=res):bodyPost P fn (po c (λ_:Unit=>True) (λ_=>h1) (λ_=>res)) .ret a w:=by
 obtain⟨v,e1,e2⟩:=U.xc hr h;exact⟨U.defers,v,e1,(),I,trivial,U.step,hH▸U.own,e▸e2⟩
def St.dX {f:FuncId} {xs:List AV} {h0 h1:List Own} {res:AV} (ks:List Nat) (U:St c I H Γ a w) (hf:fQ P f xs h0 h1 res) (hO:∀I a,cM I a Γ->true=true->cP I xs (ys.map a.eval).toList) (gK:ks.map (λk=>H[k]?)=h0.map some) (dU:decide ks.Nodup=true) (hd:Nat.blt d c.n=true)
 (k:∀I' a' w',St c I' (fill (hole H ks) ks h1) ((d,res)::Γ) a' w'->wpList P ops Q rest a' w'):wpList P ops Q (⟨some d,.call ⟨.value (.func f),ys,ts⟩,ty,p,af,none⟩::rest) a w:=
 U.bz ks hf hO gK dU hd λ_ I' a' w' _ h=>k I' a' w' h
def z4 {α:Type} (P:Program) (f:FuncId) (args:List AV) (ok:α->Prop) (res:α->AV):Prop:=bJ P f args [] ok (λ_=>[]) res
def z4.intro {α:Type} {f:FuncId} {fn:Func} {code:Code} {args:List AV} {ok:α->Prop} {res:α->AV} (N:Nat) (hf:P.funcs[f]?=some fn) (hb:fn.body=some code) (hn:fn.ntmps=N) (hN:Nat.ble args.length N=true) (l4:(fn.name== "runtime.NumGoroutine")=false)
 (h:∀(W:World) (I:Im) (a:Act),St ⟨W,I,N,dz []⟩ I [] (ke 0 args) a W->code.wp P (bodyPost P fn (po ⟨W,I,N,dz []⟩ ok (λ_=>[]) res)) a W):z4 P f args ok res:=bJ.intro N hf hb hn hN l4 h
def fk.km {tail:List Oper} {M:Act->List Own} {k:Nat} {os:List Oper} {f:FuncId} {xs:List AV} (hf:gO P f xs E sz l) (hO:∀I a,cM I a (Γ.only (Oper.looksAt ops ⟨some d,.call ⟨.value (.func f),ys,ts⟩,ty,p,af,none⟩))->true=true->cP I xs (ys.map a.eval).toList)
 (r:fk P c H ops Q tail (λa=>M a++[Own.row (a.tmps.getD d undef) E sz l]) (k+1) ((d,AV.any)::Γ) os):fk P c H ops Q tail M k Γ (⟨some d,.call ⟨.value (.func f),ys,ts⟩,ty,p,af,none⟩::os):=by
 obtain⟨pr,h1,h2⟩:=r;refine⟨(AV.any,some (λv=>Own.row v E sz l))::pr,⟨?_,h1⟩,λI' a' w' U=>h2 I' a' w' (by simpa[made,pd] using U)⟩;intro base I a w K Q he hm hw kk;rw[if_pos (by simp[Region.wanted])];unfold Oper.wp;rw[z3 hf.1 rfl,Oper.upon_enter];refine Calls.mono (hf.2 I w _ hm (bO.nil _ _ _) (hO I a he rfl)) λe w' he=>?_;cases e with
 |panicked _=>exact he.elim
 |outgrown=>exact he.elim
 |returned v=>
  obtain⟨x,I',_,bX,ho,hx⟩:=he
  obtain rfl:v=x:=hx
  refine kk v I' w' trivial (eF.none bX) λf hf=>?_
  cases hf
  obtain⟨q1,q2⟩:=ho.all _ (List.mem_singleton.2 rfl)
  exact⟨q1,λb e=>⟨(q2 b e).1.elim id λh=>by rw[JM] at h;exact h.elim,(q2 b e).2⟩⟩
def St.z5 {d:Nat} (U:St c I (H++([]++[Own.row (a.tmps.getD d undef) E sz l])) Γ a w):∃v,St c I (H++[Own.row v E sz l]) ((d,.val v)::Γ) a w:=by
 refine⟨a.tmps.getD d undef,U.step,by simpa using U.own,λt x e=>?_,U.size,U.defers⟩;simp only[Env.get] at e;cases j1:Nat.beq d t with
 |true=>
  rw[j1] at e;simp only[cond_true] at e;cases e
  obtain rfl:d=t:=Nat.eq_of_beq_eq_true j1
  rfl
 |false=>rw[j1] at e;exact U.env t x (by simpa using e)
def JN {v:Value} (h:(Own.row v E sz l).ok I w):∃q cap,v=.slice q l.length cap/\l.length<=cap:=by
 obtain⟨_,⟨rfl,rfl|⟨q,rfl,_⟩⟩|⟨b,cap,cur,rfl,h0,hb,h3,_⟩⟩:=h
 .exact⟨none,0,rfl,Nat.le_refl _⟩
 .exact⟨some q,0,rfl,Nat.le_refl _⟩
 exact⟨_,cap,rfl,h3⟩
def St.dK {v:Value} (k:Nat) (U:St c I H Γ a w) (hk:H[k]?=some (Own.row v E sz l)):(AV.val v).One:=by
 obtain⟨q,cap,e,_⟩:=JN (U.own.all _ (List.mem_of_getElem? hk)).1;exact fi (by rw[e];rfl)
def St.gv {v:Value} (k:Nat) (U:St c I H Γ a w) (hk:H[k]?=some (Own.row v E sz l)) (hl:0<l.length):∃b cap,v=.slice (some ⟨b,0,none⟩) l.length cap:=by
 obtain⟨_,⟨rfl,_⟩|⟨b,cap,cur,e,_⟩⟩:=(U.own.all _ (List.mem_of_getElem? hk)).1
 .simp at hl
 exact⟨b,cap,e⟩
def St.xv {v:Value} (k:Nat) (U:St c I H Γ a w) (hk:H[k]?=some (Own.row v E sz l)):∃q cap,v=.slice q l.length cap/\l.length<=cap:=JN (U.own.all _ (List.mem_of_getElem? hk)).1
end
section
variable {α:Type} {A B X R:List α}
def s6 (n:Nat) (h:A.length=n):(A++B).drop n=B:=by subst h;exact List.drop_left
def jt (n:Nat) (h:A.length=n):(A++B).take n=A:=by subst h;exact List.take_left
def DO {i j:Nat} (hi:A.length=i) (hj:i+X.length=j) (hR:X.length<=R.length):over (over (A++B++R) j B) i X=A++X++B++R.drop X.length:=by
 have e1:over (A++B++R) j B=(A++B++R).take j++B++R.drop X.length:=by
  unfold over;congr 1;rw[List.append_assoc A B R,List.drop_append,List.drop_append];have h1:A.drop (j+B.length)=[]:=List.drop_eq_nil_of_le om;have h2:B.drop (j+B.length-A.length)=[]:=List.drop_eq_nil_of_le om;rw[h1,h2,List.nil_append,List.nil_append];congr 1;omega
 have hl:((A++B++R).take j).length=j:=by simp;omega
 rw[e1];unfold over;have e2:((A++B++R).take j++B++R.drop X.length).take i=A:=by
  rw[List.append_assoc,List.take_append,List.take_take,Nat.min_eq_left om,hl,show i-j=0 by omega,List.take_zero,List.append_nil,List.append_assoc];exact jt i hi
 have e3:((A++B++R).take j++B++R.drop X.length).drop (i+X.length)=B++R.drop X.length:=by
  rw[hj,List.append_assoc];exact s6 j hl
 rw[e2,e3];simp
def DP {i j:Nat} (hi:A.length=i) (hj:i+X.length=j) (hR:X.length+B.length<=R.length):over (over (A++R) i X) j B=A++X++B++R.drop (X.length+B.length):=by
 have e1:over (A++R) i X=A++X++R.drop X.length:=by
  unfold over;rw[jt i hi];congr 1;rw[List.drop_append,List.drop_eq_nil_of_le om,List.nil_append];congr 1;omega
 rw[e1];unfold over;have hl:(A++X).length=j:=by simp;omega
 rw[jt j hl,List.drop_append,List.drop_eq_nil_of_le om,List.nil_append,List.drop_drop];congr 2;omega
end
end Go.Proofs.YtldbakcpcfdlaaaGreat

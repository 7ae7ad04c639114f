/- Part 1: rules of the proofs, contracts of functions, plain facts. -/
import Derived.Deep.LoopGhost
import Derived.Test.YtoeioeimmfpefaaGreatP00
set_option linter.unusedVariables false
set_option linter.unusedSimpArgs false
namespace Go.Proofs.YtoeioeimmfpefaaGreat
open Go Go.RowKit
section
variable {P:Program} {H:List Own} {Γ:Env} {g:Bool}
theorem fw {o:Oper} {x:AV}
 (h:∀(base:Nat→Prop) I a w,cF I a Γ→dr w I→bQ base I w H→g=true→∃v,(execOp a.eval o).run P w=.ok (.value v) w∧x.h I v):Ok P H Γ g o x:=
 fun base I a w K Q he hm hw hg k=>by
  obtain⟨v,hr,hx⟩:=h base I a w he hm hw hg
  unfold Oper.wp
  rw[hr]
  exact k v I w hx (Step.refl hm)
theorem fR {o:Oper} {v:Value}
 (h:∀I a w,cF I a Γ→g=true→(execOp a.eval o).run P w=.ok (.value v) w):Ok P H Γ g o (.val v):=
 fw fun _ I a w he _ _ hg=>⟨v,h I a w he hg,rfl⟩
theorem tx {d:Option Tmp} {y:Operand} {ty:TypeId} {p:String} {af:Array Edge} {gd:Option (Nat×Bool)} {x:AV} (h:At Γ g y x):
 Ok P H Γ g ⟨d,.move y,ty,p,af,gd⟩ x:=
 fw fun _ I a w he _ _ hg=>⟨_,rfl,h I a he hg⟩
theorem tz {d:Option Tmp} {y:Operand} {ty:TypeId} {p:String} {af:Array Edge} {gd:Option (Nat×Bool)} {x:AV} (h:At Γ g y x):
 Ok P H Γ g ⟨d,.assign y,ty,p,af,gd⟩ x:=
 fw fun _ I a w he _ _ hg=>⟨_,rfl,h I a he hg⟩
theorem ET {d:Option Tmp} {cc aa bb:Operand} {ty:TypeId} {p:String} {af:Array Edge} {gd:Option (Nat×Bool)} {b x:Bool}
 (hc:At Γ g cc (.bool b)) (ha:At Γ g aa (.cond b (.bool x))) (hb:At Γ g bb (.bool false)):
 Ok P H Γ g ⟨d,.pick cc aa bb,ty,p,af,gd⟩ (.bool (b&&x)):=by
 refine fR fun I a w he hg=>?_
 have h1:a.eval cc=.bool b:=hc I a he hg
 have h3:a.eval bb=.bool false:=hb I a he hg
 have h2:=ha I a he hg
 cases b
 ·simp[execOp,h1,h3,asBool,Sem.run_bind]
 ·have Az:a.eval aa=.bool x:=h2.1 rfl
  simp[execOp,h1,Az,asBool,Sem.run_bind]
theorem MI {d:Option Tmp} {cc aa bb:Operand} {ty:TypeId} {p:String} {af:Array Edge} {gd:Option (Nat×Bool)} {b x:Bool}
 (hc:At Γ g cc (.bool b)) (ha:At Γ g aa (.bool true)) (hb:At Γ g bb (.cond (!b) (.bool x))):
 Ok P H Γ g ⟨d,.pick cc aa bb,ty,p,af,gd⟩ (.bool (b||x)):=by
 refine fR fun I a w he hg=>?_
 have h1:a.eval cc=.bool b:=hc I a he hg
 have h3:a.eval aa=.bool true:=ha I a he hg
 have h2:=hb I a he hg
 cases b
 ·have Az:a.eval bb=.bool x:=h2.1 rfl
  simp[execOp,h1,Az,asBool,Sem.run_bind]
 ·simp[execOp,h1,h3,asBool,Sem.run_bind]
variable {d:Option Tmp} {y z:Operand} {ty T T':TypeId} {p:String} {af:Array Edge} {gd:Option (Nat×Bool)}
theorem EU {b:Bool} (h:At Γ g y (.bool b)):Ok P H Γ g ⟨d,.unOp .not T y,ty,p,af,gd⟩ (.bool (!b)):=
 fR fun I a w he hg=>by have h1:a.eval y=.bool b:=h I a he hg;simp only[execOp,h1];simp[go_sem]
theorem jM {m n:Int} (hy:At Γ g y (.int m)) (hz:At Γ g z (.int n)) (hb:g=true→-9223372036854775808≤m+n∧m+n≤9223372036854775807):
 Ok P H Γ g ⟨d,.binOp .add T y z T',ty,p,af,gd⟩ (.int (m+n)):=
 fR fun I a w he hg=>by
  have h1:a.eval y=.int .i64 m:=hy I a he hg
  have h2:a.eval z=.int .i64 n:=hz I a he hg
  have h3:IntKind.i64.wrap (m+n)=m+n:=IntWalk.i64_in _ (hb hg)
  simp only[execOp,h1,h2];simp[go_sem,eqGuard,binOp,Op.intArith,h3]
theorem EV {m n:Int} (hy:At Γ g y (.int m)) (hz:At Γ g z (.int n)) (hb:g=true→-9223372036854775808≤m-n∧m-n≤9223372036854775807):
 Ok P H Γ g ⟨d,.binOp .sub T y z T',ty,p,af,gd⟩ (.int (m-n)):=
 fR fun I a w he hg=>by
  have h1:a.eval y=.int .i64 m:=hy I a he hg
  have h2:a.eval z=.int .i64 n:=hz I a he hg
  have h3:IntKind.i64.wrap (m-n)=m-n:=IntWalk.i64_in _ (hb hg)
  simp only[execOp,h1,h2];simp[go_sem,eqGuard,binOp,Op.intArith,h3]
theorem mz {m n:Int} (hy:At Γ g y (.int m)) (hz:At Γ g z (.int n)) (hb:g=true→-9223372036854775808≤m*n∧m*n≤9223372036854775807):
 Ok P H Γ g ⟨d,.binOp .mul T y z T',ty,p,af,gd⟩ (.int (m*n)):=
 fR fun I a w he hg=>by
  have h1:a.eval y=.int .i64 m:=hy I a he hg
  have h2:a.eval z=.int .i64 n:=hz I a he hg
  have h3:IntKind.i64.wrap (m*n)=m*n:=IntWalk.i64_in _ (hb hg)
  simp only[execOp,h1,h2];simp[go_sem,eqGuard,binOp,Op.intArith,h3]
theorem AA {m n:Int} (hy:At Γ g y (.int m)) (hz:At Γ g z (.int n)):
 Ok P H Γ g ⟨d,.binOp .lss T y z T',ty,p,af,gd⟩ (.bool (decide (m<n))):=
 fR fun I a w he hg=>by
  have h1:a.eval y=.int .i64 m:=hy I a he hg
  have h2:a.eval z=.int .i64 n:=hz I a he hg
  simp only[execOp,h1,h2];simp[go_sem,eqGuard,binOp,Op.intCmp]
theorem EW {m n:Int} (hy:At Γ g y (.int m)) (hz:At Γ g z (.int n)):
 Ok P H Γ g ⟨d,.binOp .leq T y z T',ty,p,af,gd⟩ (.bool (decide (m≤n))):=
 fR fun I a w he hg=>by
  have h1:a.eval y=.int .i64 m:=hy I a he hg
  have h2:a.eval z=.int .i64 n:=hz I a he hg
  simp only[execOp,h1,h2];simp[go_sem,eqGuard,binOp,Op.intCmp]
theorem EX {m n:Int} (hy:At Γ g y (.int m)) (hz:At Γ g z (.int n)):
 Ok P H Γ g ⟨d,.binOp .gtr T y z T',ty,p,af,gd⟩ (.bool (decide (n<m))):=
 fR fun I a w he hg=>by
  have h1:a.eval y=.int .i64 m:=hy I a he hg
  have h2:a.eval z=.int .i64 n:=hz I a he hg
  simp only[execOp,h1,h2];simp[go_sem,eqGuard,binOp,Op.intCmp]
theorem AB {m n:Int} (hy:At Γ g y (.int m)) (hz:At Γ g z (.int n)):
 Ok P H Γ g ⟨d,.binOp .geq T y z T',ty,p,af,gd⟩ (.bool (decide (n≤m))):=
 fR fun I a w he hg=>by
  have h1:a.eval y=.int .i64 m:=hy I a he hg
  have h2:a.eval z=.int .i64 n:=hz I a he hg
  simp only[execOp,h1,h2];simp[go_sem,eqGuard,binOp,Op.intCmp]
theorem AD {m n:Int} (hy:At Γ g y (.int m)) (hz:At Γ g z (.int n)):
 Ok P H Γ g ⟨d,.binOp .eql T y z T',ty,p,af,gd⟩ (.bool (m==n)):=
 fR fun I a w he hg=>by
  have h1:a.eval y=.int .i64 m:=hy I a he hg
  have h2:a.eval z=.int .i64 n:=hz I a he hg
  simp only[execOp,h1,h2];simp[go_sem,eqGuard,binOp,Op.intCmp]
theorem EY {m n:Int} (hy:At Γ g y (.int m)) (hz:At Γ g z (.int n)):
 Ok P H Γ g ⟨d,.binOp .neq T y z T',ty,p,af,gd⟩ (.bool (m !=n)):=
 fR fun I a w he hg=>by
  have h1:a.eval y=.int .i64 m:=hy I a he hg
  have h2:a.eval z=.int .i64 n:=hz I a he hg
  simp only[execOp,h1,h2];simp[go_sem,eqGuard,binOp,Op.intCmp]
theorem MJ {m n:Int} (hy:At Γ g y (.int m)) (hz:At Γ g z (.int n)):Ok P H Γ g ⟨d,.binOp .sub T y z T',ty,p,af,gd⟩ (.int (IntKind.i64.wrap (m-n))):=
 fR fun I a w he hg=>by
  have h1:a.eval y=.int .i64 m:=hy I a he hg
  have h2:a.eval z=.int .i64 n:=hz I a he hg
  simp only[execOp,h1,h2];simp[go_sem,eqGuard,binOp,Op.intArith]
end
structure Ty (P:Program) (T:TypeId) (ag:Bool) (n bytes:Nat) (z:Value):Prop where
 ag:((P.underlying T).map fun d=>match d with|.struct _=>true|.array _ _=>true|_=>false)=some ag
 info:((P.info? T).map fun i=>(i.size,i.bytes,i.zero))=some (n,bytes,some z)
section
variable {P:Program} {w:World} {T:TypeId} {n m:Nat} {z:Value}
theorem Ty.get {ag:Bool} (h:Ty P T ag n m z):∃i,P.info? T=some i∧i.size=n∧i.bytes=m∧i.zero=some z:=by
 have:=h.info
 cases hi:P.info? T with
 |none=>rw[hi] at this;simp at this
 |some i=>rw[hi] at this;simp at this;exact⟨i,rfl,this.1,this.2.1,this.2.2⟩
theorem Ty.size {ag:Bool} (h:Ty P T ag n m z):(sizeOf T).run P w=.ok n w:=by
 obtain⟨i,hi,h1,_⟩:=h.get
 simp[sizeOf,typeInfo,hi,h1]
theorem Ty.zero {ag:Bool} (h:Ty P T ag n m z):(zeroValue T).run P w=.ok z w:=by
 obtain⟨i,hi,_,_,h1⟩:=h.get
 simp[zeroValue,typeInfo,hi,h1]
theorem Ty.isAgg {ag:Bool} (h:Ty P T ag n m z):(isAgg T).run P w=.ok ag w:=by
 have:=h.ag
 cases hi:P.underlying T with
 |none=>rw[hi] at this;simp at this
 |some d=>
  rw[hi] at this;simp at this
  subst this
  cases d<;>simp[Go.isAgg,run_underlying hi]
theorem ve (h:Ty P T false n m z) {p:Addr} {v:Value} (hc:w.cell? p=some v):(loadVar T p).run P w=.ok v w:=by
 simp only[loadVar,Sem.run_bind,h.isAgg,Result.andThen_ok]
 simp[hc]
theorem vf (h:Ty P T true n m z) {p:Addr} {cs:List Value} (hn:cs.length=n) (hc:∀j v,cs[j]?=some v→w.cell? (p.add j)=some v):
 (loadVar T p).run P w=.ok (.agg cs.toArray) w:=by
 subst hn
 simp only[loadVar,Sem.run_bind,h.isAgg,Result.andThen_ok,if_true,h.size,run_loadCells_list w p cs hc]
 rfl
end
theorem add_plain (b o j:Nat):(⟨b,o,none⟩:Addr).add j=⟨b,o+j,none⟩:=by unfold Addr.add;split<;>simp_all
section
variable {P:Program} {H:List Own} {Γ:Env} {g:Bool} {d:Option Tmp} {y z:Operand} {ty T T' E:TypeId} {p:String} {af:Array Edge} {gd:Option (Nat×Bool)} {n m o:Nat} {zv:Value}
theorem kh.toArray {I:Im} {q:Addr} {l:List AV} (k:kh I q l) {w:World} (hm:dr w I):
 ∃cs:List Value,cs.length=l.length∧bD I l cs∧∀j v,cs[j]?=some v→w.cell? (q.add j)=some v:=by
 obtain⟨hs,cs,e,hh⟩:=k
 refine⟨_,hh.length,hh,fun j v hv=>?_⟩
 obtain⟨T,fr,hw⟩:=hm _ _ e
 obtain⟨b,off,s⟩:=q
 obtain rfl:s=none:=hs
 rw[add_plain]
 simp only[World.cell?,hw,Option.isSome_none,Bool.false_eq_true,if_false]
 rw[List.getElem?_take] at hv
 split at hv
 ·simpa using hv
 ·cases hv
theorem EZ {x:AV} {l:List AV} (hT:Ty P T false n m zv) (h:At Γ g y (.ptr (x::l))):Ok P H Γ g ⟨d,.load T y,ty,p,af,gd⟩ x:=
 fw fun _ I a w he hm _ hg=>by
  obtain⟨q,e,k⟩:=h I a he hg
  obtain⟨c,hc,hx,_⟩:=cell_of hm k (i:=0) (x:=x) rfl
  obtain⟨b,off,s⟩:=q
  obtain rfl:s=none:=k.1
  refine⟨c,?_,hx⟩
  have MK:w.cell? ⟨b,off,none⟩=some c:=hc
  simp only[execOp,e,Instr.loadAt,Instr.sureAddr,Sem.run_bind,Sem.run_pure,Result.andThen_ok,ve hT MK]
theorem E0 {l:List AV} (hT:Ty P T true n m zv) (h:At Γ g y (.ptr l)) (hn:Nat.ble n l.length=true):Ok P H Γ g ⟨d,.load T y,ty,p,af,gd⟩ (.agg (l.take n)):=
 fw fun _ I a w he hm _ hg=>by
  obtain⟨q,e,k⟩:=h I a he hg
  obtain⟨cs,h1,h2,h3⟩:=(k.take n).toArray hm
  have ZR:n≤l.length:=Nat.le_of_ble_eq_true hn
  refine⟨.agg cs.toArray,?_,cs.toArray,rfl,by simpa using h2⟩
  have h4:cs.length=n:=by rw[h1,List.length_take];omega
  simp only[execOp,e,Instr.loadAt,Instr.sureAddr,Sem.run_bind,Sem.run_pure,Result.andThen_ok,vf hT h4 h3]
theorem ML {l:List AV} (hT:Ty P T true n m zv) (h:At Γ g y (.ptr l)) (hn:l.length=n):Ok P H Γ g ⟨d,.load T y,ty,p,af,gd⟩ (.agg l):=by
 have:=E0 (H:=H) (d:=d) (ty:=ty) (p:=p) (af:=af) (gd:=gd) hT h (by rw[hn];simp)
 rwa[List.take_of_length_le (by omega)] at this
def cn (P:Program) (T:TypeId) (f:Nat) (off size:Nat):Prop:=
 ((P.underlying T).bind fun dd=>match dd with|.struct fs=>(fs[f]?).map fun x=>(x.offset,(P.info? x.type).map (·.size))|_=>none)=some (off,some size)
theorem cn.get {f off size:Nat} (h:cn P T f off size):∃fs x i,P.underlying T=some (.struct fs)∧fs[f]?=some x∧x.offset=off∧P.info? x.type=some i∧i.size=size:=by
 unfold cn at h
 cases hu:P.underlying T with
 |none=>rw[hu] at h;simp at h
 |some dd=>
  rw[hu] at h
  cases dd<;>simp at h
  rename_i fs
  obtain⟨x,h1,h2,h3⟩:=h
  obtain⟨i,hi,hs⟩:=h3
  exact⟨fs,x,i,rfl,h1,h2,hi,hs⟩
theorem E1 {w:World} {f off size:Nat} (h:cn P T f off size) (hs:0<size) (b o:Nat):
 (Instr.fieldAt T (.pointer (some ⟨b,o,none⟩)) f).run P w=.ok (.pointer (some ⟨b,o+off,none⟩)) w:=by
 obtain⟨fs,x,i,h1,h2,h3,h4,h5⟩:=h.get
 have h6:(sizeOf x.type).run P w=.ok size w:=by simp[sizeOf,typeInfo,h4,h5]
 simp only[Instr.fieldAt,Sem.run_bind,run_underlying h1,Result.andThen_ok,h2,Instr.sureAddr,Sem.run_pure,fieldPlace,h6]
 rw[if_neg (by omega)]
 simp[h3,add_plain]
theorem E2 {f size:Nat} {l:List AV} (hf:cn P T f o size) (hs:Nat.blt 0 size=true) (h:At Γ g y (.ptr l)):Ok P H Γ g ⟨d,.fieldAddr T y f,ty,p,af,gd⟩ (.ptr (l.drop o)):=
 fw fun _ I a w he hm _ hg=>by
  obtain⟨q,e,k⟩:=h I a he hg
  obtain⟨b,off,s⟩:=q
  obtain rfl:s=none:=k.1
  refine⟨_,?_,⟨b,off+o,none⟩,rfl,k.drop o⟩
  simp only[execOp,e,Sem.run_bind,E1 hf (by simpa using hs) b off,Result.andThen_ok]
  rfl
theorem E3 {f size b q:Nat} (hf:cn P T f o size) (hs:Nat.blt 0 size=true) (h:At Γ g y (.val (.pointer (some ⟨b,q,none⟩)))):Ok P H Γ g ⟨d,.fieldAddr T y f,ty,p,af,gd⟩ (.val (.pointer (some ⟨b,q+o,none⟩))):=
 fR fun I a w he hg=>by
  have e:a.eval y=_:=h I a he hg
  simp only[execOp,e,Sem.run_bind,E1 hf (by simpa using hs) b q,Result.andThen_ok]
  rfl
theorem E4 {b q:Nat} {x:AV} {l:List AV} (k:Nat) (hT:Ty P T false n m zv) (h:At Γ g y (.val (.pointer (some ⟨b,q,none⟩)))) (hH:H[k]?=some (Own.box b T' l)) (hx:l[q]?=some x):
 Ok P H Γ g ⟨d,.load T y,ty,p,af,gd⟩ x:=
 fw fun base I a w he hm hw hg=>by
  have e:a.eval y=_:=h I a he hg
  obtain⟨cs,hb,hl⟩:=(hw.all _ (List.mem_of_getElem? hH)).1
  obtain⟨c,hc,Ay,_⟩:=hl.get hx
  refine⟨c,?_,Ay⟩
  have pz:w.cell? ⟨b,q,none⟩=some c:=by simp only[World.cell?,hb];simpa using hc
  simp only[execOp,e,Instr.loadAt,Instr.sureAddr,Sem.run_bind,Sem.run_pure,Result.andThen_ok,ve hT pz]
theorem AE {b q:Nat} {l l':List AV} (k:Nat) (hT:Ty P T true n m zv) (h:At Γ g y (.val (.pointer (some ⟨b,q,none⟩)))) (hH:H[k]?=some (Own.box b T' l)) (hx:(l.drop q).take n=l') (hn:l'.length=n):
 Ok P H Γ g ⟨d,.load T y,ty,p,af,gd⟩ (.agg l'):=
 fw fun base I a w he hm hw hg=>by
  have e:a.eval y=_:=h I a he hg
  obtain⟨cs,hb,hl⟩:=(hw.all _ (List.mem_of_getElem? hH)).1
  have od:=(hl.drop q).take n
  rw[hx] at od
  refine⟨.agg ((cs.toList.drop q).take n).toArray,?_,_,rfl,by simpa using od⟩
  have h4:((cs.toList.drop q).take n).length=n:=by rw[od.length,hn]
  have h3:∀j v,((cs.toList.drop q).take n)[j]?=some v→w.cell? ((⟨b,q,none⟩:Addr).add j)=some v:=fun j v hv=>by
   rw[add_plain]
   simp only[World.cell?,hb,Option.isSome_none,Bool.false_eq_true,if_false]
   rw[List.getElem?_take] at hv
   split at hv
   ·simpa using hv
   ·cases hv
  simp only[execOp,e,Instr.loadAt,Instr.sureAddr,Sem.run_bind,Sem.run_pure,Result.andThen_ok,vf hT h4 h3]
theorem vg {s:Nat} {l:List (List AV)} (hT:P.underlying T=some (.slice E)) (h:At Γ g y (.rows s l)):Ok P H Γ g ⟨d,.call ⟨.builtin .len,#[y],#[T]⟩,ty,p,af,gd⟩ (.int l.length):=
 fR fun I a w he hg=>by
  obtain⟨q,cap,e,_⟩:=h I a he hg
  simp only[execOp,resolve,List.map_toArray,List.map_cons,List.map_nil,e]
  simp[go_sem,Builtin.len_,run_underlying hT]
theorem MM {q:Option Addr} {k cap:Nat} (hT:P.underlying T=some (.slice E)) (h:At Γ g y (.val (.slice q k cap))):Ok P H Γ g ⟨d,.call ⟨.builtin .len,#[y],#[T]⟩,ty,p,af,gd⟩ (.int k):=
 fR fun I a w he hg=>by
  have e:a.eval y=_:=h I a he hg
  simp only[execOp,resolve,List.map_toArray,List.map_cons,List.map_nil,e]
  simp[go_sem,Builtin.len_,run_underlying hT]
theorem iX {s:Nat} {ag:Bool} {l:List (List AV)} {i:Int} (hT:P.underlying T=some (.slice E)) (hE:Ty P E ag s m zv) (h:At Γ g y (.rows s l)) (hi:At Γ g z (.int i)) (hb:g=true→0≤i∧i<l.length):
 Ok P H Γ g ⟨d,.indexAddr T y z,ty,p,af,gd⟩ (.ptr (nth l i.toNat)):=
 fw fun _ I a w he hm _ hg=>by
  obtain⟨h0,h1⟩:=hb hg
  have e2:a.eval z=_:=hi I a he hg
  obtain⟨b,off,cap,e,k⟩:=ES (h I a he hg) (i:=i.toNat) (by omega)
  refine⟨_,?_,_,rfl,k⟩
  have hs:(sizeOf E).run P w=.ok s w:=hE.size
  simp only[execOp,e,e2,Instr.indexAt,asIntOf,Sem.run_bind,Sem.run_pure,Result.andThen_ok,run_underlying hT]
  simp[h0,h1,add_plain,hs]
end
def tC (I:Im) (w:World) (res:AV):Ending→World→Prop
 |.returned v,w'=>∃I',Step I w I' w'∧res.h I' v
 |_,_=>False
def tD (F:Nat→Prop) (I:Im) (w:World) (res:AV):Ending→World→Prop
 |.returned v,w'=>∃I',en F I w I' w'∧res.h I' v
 |_,_=>False
theorem tD.all {I:Im} {w:World} {res:AV} {e:Ending} {w':World} (h:tD jL I w res e w'):tC I w res e w':=by
 cases e with
 |returned v=>obtain⟨I',h1,h2⟩:=h;exact⟨I',h1.all,h2⟩
 |panicked _=>exact h.elim
 |outgrown=>exact h.elim
def ng (P:Program) (f:FuncId):Prop:=∀vs w,(callFunc f vs).run P w=.ok (.enter f vs) w
theorem ng.of {P:Program} {f:FuncId} {fn:Func} {code:Code} (hf:P.funcs[f]?=some fn) (hb:fn.body=some code) (hn:(fn.name== "runtime.NumGoroutine")=false):ng P f:=fun vs w=>by
 have xy:¬fn.name= "runtime.NumGoroutine" :=by simpa using hn
 simp[callFunc,hf,xy,hb]
def Fn (P:Program) (f:FuncId) (args:List AV) (res:AV):Prop:=
 ng P f∧∀(I:Im) (w:World) (vs:Array Value),dr w I→cN I args vs.toList→Calls P f vs w (tC I w res)
def ki (k:Nat):List AV→Env
 |[]=>[]
 |x::r=>(k,x)::ki (k+1) r
theorem vh {I:Im}:∀(l:List AV) (vs:List Value) (pre post:List Value),cN I l vs→
 ∀t x,Env.get t (ki pre.length l)=some x→x.h I ((pre++vs++post).toArray.getD t undef)
 |[],_,_,_,_,t,x,e=>by simp[ki,Env.get] at e
 |y::l,[],_,_,h,_,_,_=>h.elim
 |y::l,v::vs,pre,post,h,t,x,e=>by
  simp only[ki,Env.get] at e
  cases hb:Nat.beq pre.length t with
  |true=>
   rw[hb] at e;simp at e
   obtain rfl:pre.length=t:=Nat.eq_of_beq_eq_true hb
   subst e
   simpa using h.1
  |false=>
   rw[hb] at e
   have:=vh l vs (pre++[v]) post h.2 t x (by simpa using e)
   simpa using this
theorem At.gc {Γ:Env} {g g' b:Bool} {t:Nat} {x:AV} (h:Env.get t Γ=some (AV.cond (g'&&b) x)) (hg:g=true→g'=true):At Γ g (.tmp t) (AV.cond b x):=fun _ _ he e=>by
 have:=he t _ h
 rw[hg e,Bool.true_and] at this
 exact this
section
variable {P:Program} {c:Ctx} {I:Im} {H:List Own} {Γ:Env} {a:Act} {w:World} {Q:Exit→Act→World→Prop}
theorem Fn.intro {f:FuncId} {fn:Func} {code:Code} {args:List AV} {res:AV} (N:Nat) (hf:P.funcs[f]?=some fn) (hb:fn.body=some code) (hn:fn.ntmps=N) (hN:Nat.ble args.length N=true) (nh:(fn.name== "runtime.NumGoroutine")=false)
 (h:∀(W:World) (I:Im) (a:Act),St ⟨W,I,N,jL⟩ I [] (ki 0 args) a W→code.wp P (bodyPost P fn (tD jL I W res)) a W):Fn P f args res:=by
 refine⟨ng.of hf hb nh,fun I w vs hm ha=>?_⟩
 refine Calls.mono (R:=tD jL I w res) (calls_of_wp hf hb ?_) fun e w' he=>he.all
 have hl:vs.size=args.length:=by simpa using ha.length
 have MN:args.length≤N:=Nat.le_of_ble_eq_true hN
 refine h w I _ ⟨en.refl hm,bQ.nil _ _ _,?_,?_,rfl⟩
 ·intro t x e
  have:=vh args vs.toList [] (List.replicate (fn.ntmps-vs.size) undef) ha t x e
  have heq:(vs++Array.replicate (fn.ntmps-vs.size) undef)=([]++vs.toList++List.replicate (fn.ntmps-vs.size) undef).toArray:=by
   apply Array.toList_inj.1;simp
  rw[heq];exact this
 ·simp[hn,hl];omega
theorem Fn.cast {f:FuncId} {args E5:List AV} {res tE:AV} (h:Fn P f args res) (e:args=E5) (e':res=tE):Fn P f E5 tE:=e▸e'▸h
theorem cI {g:Bool} {d:Option Tmp} {f:FuncId} {ys:Array Operand} {ts:Array TypeId} {ty:TypeId} {p:String} {af:Array Edge} {gd:Option (Nat×Bool)} {xs:List AV} {res:AV}
 (hf:Fn P f xs res) (h:∀I a,cF I a Γ→g=true→cN I xs (ys.map a.eval).toList):Ok P H Γ g ⟨d,.call ⟨.value (.func f),ys,ts⟩,ty,p,af,gd⟩ res:=
 fun base I a w K Q he hm hw hg k=>by
  have hc:=hf.2 I w (ys.map a.eval) hm (h I a he hg)
  unfold Oper.wp
  have hr:(execOp a.eval (⟨d,.call ⟨.value (.func f),ys,ts⟩,ty,p,af,gd⟩:Oper)).run P w=.ok (.enter f (ys.map a.eval)) w:=by
   simp only[execOp,resolve,Act.eval]
   simp[go_sem,hf.1 _ w]
  rw[hr,Oper.upon_enter]
  refine Calls.mono hc fun e w' he=>?_
  cases e with
  |returned v=>obtain⟨I',hs,hx⟩:=he;exact k v I' w' hx hs
  |panicked _=>exact he.elim
  |outgrown=>exact he.elim
theorem aP {g:Bool}:∀I a,cF I a Γ→g=true→cN I [] ((#[]:Array Operand).map a.eval).toList:=fun _ _ _ _=>by simp[cN]
theorem aw {g:Bool} {y:Operand} {ys:List Operand} {x:AV} {xs:List AV} (h:At Γ g y x) (k:∀I a,cF I a Γ→g=true→cN I xs (ys.toArray.map a.eval).toList):
 ∀I a,cF I a Γ→g=true→cN I (x::xs) ((y::ys).toArray.map a.eval).toList:=fun I a he hg=>by
 have:=k I a he hg
 simp only[List.map_toArray,List.map_cons] at this⊢
 exact⟨h I a he hg,this⟩
theorem aG {N:Act→World→Prop} (h:N a w):Exit.then N Q .normal a w:=h
theorem aF {N:Act→World→Prop} {i:Nat} (h:Q (.exit i) a w):Exit.then N Q (.exit i) a w:=h
theorem aE {N:Act→World→Prop} (h:Q .ret a w):Exit.then N Q .ret a w:=h
theorem eI {i:Nat} (h:Q .normal a w):Exit.inBlock i Q .normal a w:=h
theorem bh {i:Nat} (h:Q .ret a w):Exit.inBlock i Q .ret a w:=h
theorem aY {i:Nat} (h:Q .normal a w):Exit.inBlock i Q (.exit i) a w:=by simp only[Exit.inBlock,if_true];exact h
theorem MO {i j:Nat} (bn:Nat.beq j i=false) (h:Q (.exit j) a w):Exit.inBlock i Q (.exit j) a w:=by
 have:j≠i:=fun e=>by subst e;simp at bn
 simp only[Exit.inBlock,if_neg this];exact h
theorem St.cond {cc:Operand} {t e:Code} {b:Bool} (hs:St c I H Γ a w) (hc:At Γ true cc (.bool b)) (h1:b=true→t.wp P Q a w) (h2:b=false→e.wp P Q a w):(Code.cond cc t e).wp P Q a w:=
 wp_cond_split (hc I a hs.env rfl) h1 h2
def Env.mA (ms:List Nat) (Γ:Env):Env:=Γ.filter fun p=>!ms.contains p.1
theorem Env.AF {ms:List Nat} {t:Nat} {x:AV}:∀{Γ:Env},Env.get t (Env.mA ms Γ)=some x→Env.get t Γ=some x∧ms.contains t=false
 |[],h=>by simp[Env.mA,Env.get] at h
 |p::r,h=>by
  have ih:=fun k=>Env.AF (ms:=ms) (t:=t) (x:=x) (Γ:=r) k
  unfold Env.mA at h ih
  rw[List.filter_cons] at h
  cases hm:ms.contains p.1 with
  |true=>
   rw[hm] at h
   have:=ih (by simpa using h)
   refine⟨?_,this.2⟩
   simp only[Env.get]
   cases hb:Nat.beq p.1 t with
   |true=>
    obtain rfl:p.1=t:=Nat.eq_of_beq_eq_true hb
    rw[this.2] at hm;cases hm
   |false=>simpa using this.1
  |false=>
   rw[hm] at h
   simp only[Bool.not_false,if_true,Env.get] at h⊢
   cases hb:Nat.beq p.1 t with
   |true=>
    rw[hb] at h
    obtain rfl:p.1=t:=Nat.eq_of_beq_eq_true hb
    exact⟨h,hm⟩
   |false=>
    rw[hb] at h
    exact ih h
def Env.le (Γ' Γ:Env):Prop:=∀t x,Env.get t Γ'=some x→Env.get t Γ=some x
theorem Env.le_nil {Γ:Env}:Env.le [] Γ:=fun _ _ h=>by simp[Env.get] at h
theorem Env.MP {Γ Γ':Env} {t:Nat} {x:AV} (hx:Env.get t Γ=some x) (h:Env.le Γ' Γ):Env.le ((t,x)::Γ') Γ:=fun s y e=>by
 simp only[Env.get] at e
 cases hb:Nat.beq t s with
 |true=>rw[hb] at e;obtain rfl:t=s:=Nat.eq_of_beq_eq_true hb;simp at e;subst e;exact hx
 |false=>rw[hb] at e;exact h s y e
theorem St.weaken {Γ':Env} (hs:St c I H Γ a w) (h:cF I a Γ→cF I a Γ'):St c I H Γ' a w:=⟨hs.step,hs.own,h hs.env,hs.size,hs.defers⟩
theorem St.le {Γ':Env} (hs:St c I H Γ a w) (h:Env.le Γ' Γ):St c I H Γ' a w:=hs.weaken fun he t x e=>he t x (h t x e)
theorem cF.append {Γ':Env} (h':cF I a Γ') (h:cF I a Γ):cF I a (Γ'++Γ):=by
 intro t x e
 induction Γ' with
 |nil=>exact h t x e
 |cons p r ih=>
  simp only[List.cons_append,Env.get] at e
  have hr:cF I a r→cF I a r:=id
  cases hb:Nat.beq p.1 t with
  |true=>rw[hb] at e;exact h' t x (by simp only[Env.get,hb];exact e)
  |false=>
   rw[hb] at e
   have key:∀(s:Env),(∀u z,Env.get u s=some z→z.h I (a.tmps.getD u undef)∨u≠t)→Env.get t (s++Γ)=some x→x.h I (a.tmps.getD t undef):=by
    intro s
    induction s with
    |nil=>intro _ e;exact h t x e
    |cons q s rN=>
     intro hs e
     simp only[List.cons_append,Env.get] at e
     cases hq:Nat.beq q.1 t with
     |true=>
      rw[hq] at e
      exact(hs t x (by simp only[Env.get,hq];exact e)).resolve_right (by simp)
     |false=>
      rw[hq] at e
      refine rN (fun u z hz=>?_) e
      by_cases hu:u=t
      ·subst hu
       exact hs u z (by simp only[Env.get,hq];exact hz)
      ·exact .inr hu
   refine key r (fun u z hz=>?_) e
   by_cases hu:u=t
   ·subst hu
    exact .inl (h' u z (by simp only[Env.get,hb];exact hz))
   ·exact .inr hu
structure lI (σ:Type) where
 env:σ→Env
 own:σ→List Own
 ok:σ→Prop
def lI.holds {σ:Type} (m:lI σ) (c:Ctx) (Γ0:Env) (x:σ) (a:Act) (w:World):Prop:=m.ok x∧∃I,St c I (m.own x) (m.env x++Γ0) a w
theorem St.AG {σ:Type} {m:lI σ} {Γ0:Env} (hs:St c I H Γ a w) (x:σ) (hH:H=m.own x) (al:m.ok x) (h1:Env.le (m.env x) Γ) (h0:Env.le Γ0 Γ):m.holds c Γ0 x a w:=by
 subst hH
 exact⟨al,I,hs.weaken fun he=>cF.append (fun t x e=>he t x (h1 t x e)) (fun t x e=>he t x (h0 t x e))⟩
theorem Env.xz {ms:List Nat} {Γ:Env}:Env.le (Env.mA ms Γ) Γ:=fun _ _ h=>(Env.AF h).1
theorem Env.ie {ms:List Nat} {Γ Γ':Env} {t:Nat} {x:AV} (ht:ms.contains t=true) (h:Env.le (Env.mA ms Γ) Γ'):Env.le (Env.mA ms Γ) ((t,x)::Γ'):=fun s y e=>by
 simp only[Env.get]
 cases hb:Nat.beq t s with
 |true=>
  obtain rfl:t=s:=Nat.eq_of_beq_eq_true hb
  rw[(Env.AF e).2] at ht;cases ht
 |false=>exact h s y e
theorem St.loop {σ:Type} (m:lI σ) (μ:σ→Nat) {Γ0:Env} {body:Code} (x:σ) (h0:m.holds c Γ0 x a w)
 (round:∀x I a w,m.ok x→St c I (m.own x) (m.env x++Γ0) a w→body.wp P (Exit.then (fun a w=>∃y,μ y<μ x∧m.holds c Γ0 y a w) Q) a w):(Code.loop body).wp P Q a w:=by
 refine wp_loop_ghost (fun n a w=>∃y,μ y=n∧m.holds c Γ0 y a w) (μ x) ⟨x,rfl,h0⟩ ?_
 rintro n a w ⟨y,rfl,al,I,hs⟩
 refine wp_mono (round y I a w al hs) fun e a' w' hq=>?_
 cases e with
 |normal=>obtain⟨z,h1,h2⟩:=hq;exact⟨μ z,h1,z,rfl,h2⟩
 |_=>exact hq
theorem Env.le_rfl:Env.le Γ Γ:=fun _ _ h=>h
theorem Env.dI {Γ':Env} {t:Nat} {x x':AV} (hx:Env.get t Γ=some x') (e:x'=x) (h:Env.le Γ' Γ):Env.le ((t,x)::Γ') Γ:=Env.MP (by rw[hx,e]) h
def xA {σ:Type} (m:lI σ) (μ:σ→Nat) (x:σ) (c:Ctx) (Γ0:Env) (a:Act) (w:World):Prop:=∃y,μ y<μ x∧m.holds c Γ0 y a w
def AH {σ:Type} (m:lI σ) (c:Ctx) (Γ0:Env) (a:Act) (w:World):Prop:=∃z,m.holds c Γ0 z a w
theorem St.E6 {σ:Type} (ms:List Nat) (m:lI σ) (μ:σ→Nat) {body:Code} (x:σ) (hs:St c I H Γ a w) (hH:H=m.own x) (al:m.ok x) (h1:Env.le (m.env x) Γ)
 (round:∀x I a w,m.ok x→St c I (m.own x) (m.env x++Env.mA ms Γ) a w→body.wp P (Exit.then (xA m μ x c (Env.mA ms Γ)) Q) a w):(Code.loop body).wp P Q a w:=
 St.loop m μ x (hs.AG x hH al h1 Env.xz) round
theorem St.again {σ:Type} {m:lI σ} {μ:σ→Nat} {x:σ} {Γ0:Env} (y:σ) (hs:St c I H Γ a w) (hμ:μ y<μ x) (al:m.ok y) (hH:H=m.own y) (h1:Env.le (m.env y) Γ) (h0:Env.le Γ0 Γ):xA m μ x c Γ0 a w:=
 ⟨y,hμ,hs.AG y hH al h1 h0⟩
theorem St.meet {σ:Type} {m:lI σ} {Γ0:Env} (y:σ) (hs:St c I H Γ a w) (al:m.ok y) (hH:H=m.own y) (h1:Env.le (m.env y) Γ) (h0:Env.le Γ0 Γ):AH m c Γ0 a w:=
 ⟨y,hs.AG y hH al h1 h0⟩
theorem St.cut {σ:Type} (ms:List Nat) (m:lI σ) {x y:Code} (ZS:St c I H Γ a w) (h1:x.wp P (Exit.then (AH m c (Env.mA ms Γ)) Q) a w)
 (h2:∀z I a w,m.ok z→St c I (m.own z) (m.env z++Env.mA ms Γ) a w→y.wp P Q a w):(Code.seq x y).wp P Q a w:=by
 refine wp_seq (wp_mono h1 fun e a' w' hq=>?_)
 cases e with
 |normal=>obtain⟨z,al,I,hs⟩:=hq;exact h2 z I a' w' al hs
 |_=>exact hq
theorem St.region {id:Nat} {l:List Oper} (h:wpList P l.toArray Q l a w):(Code.region id l.toArray false).wp P Q a w:=wp_region_lit h
theorem xB {t:Nat} {b:Bool} (h:a.tmps.getD t undef=.bool b):a.tmps[t]?=some (.bool b):=by
 rw[Array.getD_eq_getD_getElem?] at h
 cases e:a.tmps[t]? with
 |none=>rw[e] at h;simp[undef] at h
 |some v=>rw[e] at h;simpa using h
theorem E7 {t:Nat} (h:a.tmps.getD t undef=undef):a.tmps[t]?=none∨a.tmps[t]?=some undef:=by
 rw[Array.getD_eq_getD_getElem?] at h
 cases e:a.tmps[t]? with
 |none=>exact .inl rfl
 |some v=>rw[e] at h;simp at h;exact .inr (by rw[h])
def gJ (ops:Array Oper) (Γ:Env) (o:Oper) (G:Bool):Prop:=∀I a,cF I a Γ→Region.wanted o (yielded ops a.tmps)=G
theorem E8 {ops:Array Oper} {o:Oper} {j t:Nat} {b:Bool} (h:o.guard=some (j,true)) (hj:(ops[j]?).bind (·.dst)=some t) (ht:Env.get t Γ=some (.bool b)):gJ ops Γ o b:=fun I a he=>by
 have:=xB (he t _ ht)
 simp only[Region.wanted,h,yielded,hj,Option.bind_some,this]
 cases b<;>rfl
theorem MQ {ops:Array Oper} {o:Oper} {j t:Nat} {b:Bool} (h:o.guard=some (j,false)) (hj:(ops[j]?).bind (·.dst)=some t) (ht:Env.get t Γ=some (.bool b)):gJ ops Γ o (!b):=fun I a he=>by
 have:=xB (he t _ ht)
 simp only[Region.wanted,h,yielded,hj,Option.bind_some,this]
 cases b<;>rfl
theorem MR {ops:Array Oper} {o:Oper} {j t:Nat} {g b:Bool} (h:o.guard=some (j,true)) (hj:(ops[j]?).bind (·.dst)=some t) (ht:Env.get t Γ=some (.cond g (.bool b))):gJ ops Γ o (g&&b):=fun I a he=>by
 have hc:=he t _ ht
 cases g
 ·rcases E7 (hc.2 rfl) with e|e<;>simp[Region.wanted,h,yielded,hj,e,undef]
 ·have:=xB (hc.1 rfl)
  simp only[Region.wanted,h,yielded,hj,Option.bind_some,this]
  cases b<;>rfl
theorem MS {ops:Array Oper} {o:Oper} {j t:Nat} {g b:Bool} (h:o.guard=some (j,false)) (hj:(ops[j]?).bind (·.dst)=some t) (ht:Env.get t Γ=some (.cond g (.bool b))):gJ ops Γ o (g&&!b):=fun I a he=>by
 have hc:=he t _ ht
 cases g
 ·rcases E7 (hc.2 rfl) with e|e<;>simp[Region.wanted,h,yielded,hj,e,undef]
 ·have:=xB (hc.1 rfl)
  simp only[Region.wanted,h,yielded,hj,Option.bind_some,this]
  cases b<;>rfl
theorem St.xC {ops:Array Oper} {rest:List Oper} {o:Oper} {d:Nat} {x:AV} {G:Bool} (hs:St c I H Γ a w) (hg:gJ ops Γ o G) (ho:o.dst=some d) (hd:Nat.blt d c.n=true) (ok:Ok P H Γ G o x)
 (k:∀I' a' w',St c I' H ((d,.cond G x)::Γ) a' w'→wpList P ops Q rest a' w'):wpList P ops Q (o::rest) a w:=by
 unfold wpList
 rw[hg I a hs.env]
 cases G with
 |true=>
  rw[if_pos rfl]
  refine .inl (ok c.own I a w _ _ hs.env hs.step.cE hs.own rfl fun v I' w' hx s=>k I' _ w' ?_)
  rw[ho]
  exact hs.put (by simpa using hd) ⟨fun _=>hx,fun h=>(by cases h)⟩ s
 |false=>
  rw[if_neg (by simp)]
  refine k I _ w ?_
  rw[ho]
  exact hs.put (by simpa using hd) ⟨fun h=>(by cases h),fun _=>rfl⟩ (Step.refl hs.step.cE)
end
end Go.Proofs.YtoeioeimmfpefaaGreat

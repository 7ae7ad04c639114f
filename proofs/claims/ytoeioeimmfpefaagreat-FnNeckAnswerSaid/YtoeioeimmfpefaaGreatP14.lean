/- Part 14: rules of the proofs, contracts of functions, plain facts. -/
import Derived.Maps.Own
import Derived.Maps.Views
import Derived.DeepKeys5
import Derived.Test.YtoeioeimmfpefaaGreatP13
set_option linter.unusedVariables false
set_option linter.unusedSimpArgs false
namespace Go.Proofs.YtoeioeimmfpefaaGreat
open Go Go.RowKit
structure vY (P:Program) (t k e:TypeId) {κ ε:Type} (kl:κ→Lit) (ev:ε→Value) (ed:ε→DataW Unit) (fits:ε→Prop) (z:ε):Prop where
 K:Maps.Keyed P k
 ht:P.underlying t=some (.map k e)
 zr:∀w,(zeroValue e).run P w=.ok (ev z) w
 fz:fits z
 rd:∀x,fits x→plainElem P e (ev x)=some (ed x,[])
 inv:∀v ps x,plainElem P e v=some (ed x,ps)→v=ev x
 GI:∀x y,kl x=kl y→x=y
 key:∀x,WideAt.IsKeyLit (kl x)
def Own.su (P:Program) (k e:TypeId) {κ ε:Type} (kl:κ→Lit) (ed:ε→DataW Unit) (z:ε) (b n:Nat) (m:κ→ε):Own:=
 ⟨some b,fun I w=>∃D:DataW Unit,w.ownsMap P k (plainElem P e) b n D∧∀x,D.atKey (kl x) (ed z)=ed (m x),
  fun I I' w w' _ hb ⟨D,⟨es,clock,h,h2⟩,hm⟩=>⟨D,⟨es,clock,(hb b rfl).trans h,h2⟩,hm⟩⟩
section
variable {P:Program} {c:Ctx} {I:Im} {H:List Own} {Γ:Env} {a:Act} {w:World} {Q:Exit→Act→World→Prop} {ops:Array Oper} {rest:List Oper}
variable {d b n:Nat} {y z' x':Operand} {t k e ty:TypeId} {p:String} {af:Array Edge} {g:Bool} {gd:Option (Nat×Bool)}
variable {κ ε:Type} {kl:κ→Lit} {ev:ε→Value} {ed:ε→DataW Unit} {fits:ε→Prop} {z:ε}
theorem GJ {m:κ→ε} {x:κ} (kk:Nat) (hM:vY P t k e kl ev ed fits z) (hm:At Γ g y (.val (.map (some b)))) (hx:∀I a,cF I a Γ→g=true→keyOf P k (a.eval x')=some (kl x)) (hH:H[kk]?=some (Own.su P k e kl ed z b n m)):
 Ok P H Γ g ⟨some d,.lookup t y x' false,ty,p,af,gd⟩ (.val (ev (m x))):=
 fw fun base I a w he GK hw hg=>by
  obtain⟨D,ep,hD⟩:=(hw.all _ (List.mem_of_getElem? hH)).1
  have e1:a.eval y=_:=hm I a he hg
  obtain⟨v,ps,eS,hv⟩:=ep.lookup hM.K hM.ht (hM.zr w) (hM.rd z hM.fz) (hx I a he hg)
  rw[hD x] at hv
  refine⟨v,?_,hM.inv v ps _ hv⟩
  simp only[execOp,e1,Sem.run_bind,eS,Result.andThen_ok,Sem.run_pure]
theorem St.makeMap (hs:St c I H Γ a w) (hd:Nat.blt d c.n=true) (hM:vY P t k e kl ev ed fits z)
 (kk:∀b a' w',St c I (H++[Own.su P k e kl ed z b 0 fun _=>z]) ((d,.val (.map (some b)))::Γ) a' w'→wpList P ops Q rest a' w'):
 wpList P ops Q (⟨some d,.makeMap t none,ty,p,af,none⟩::rest) a w:=by
 refine gZ rfl ?_
 unfold Oper.wp
 simp only[execOp,Option.map_none,Sem.run_bind,run_makeMap,Result.andThen_ok,Sem.run_pure,Oper.upon_value]
 exact kk w.heap.size _ _ (hs.kY (hs.step.trans (Step.alloc hs.step.cE _)) (Im.le_refl _) (hs.own.push (x:=Own.su P k e kl ed z w.heap.size 0 fun _=>z) hs.room rfl hs.step.cE
  ⟨.map [],World.ownsMap_made w P k (plainElem P e),fun x=>by simp[DataW.atKey]⟩) hd rfl)
theorem Oo {D:DataW Unit} {R:Value→Option (DataW Unit×List MemPlace)} (h:w.ownsMap P k R b n D) (K:Maps.Keyed P k) (ht:P.underlying t=some (.map k e)) (hn:n<maxLen) {key val:Value} {lk:Lit} {dv:DataW Unit} {ps:List MemPlace}
 (iB:keyOf P k key=some lk) (hv:R val=some (dv,ps)):∃w',(Instr.mapUpdate t (.map (some b)) key val).run P w=.ok () w'∧w'.ownsMap P k R b (n+1) (D.put lk dv)∧w.grownBy w' (some b)∧w'.heap.size=w.heap.size:=by
 obtain⟨w',h1,h2,h3⟩:=h.update K ht hn iB hv
 refine⟨w',h1,h2,h3,?_⟩
 obtain⟨es,clock,hb,F,hs,rfl⟩:=h
 obtain⟨ZX,ZY,eS,_⟩:=Maps.fit_store (R':=R) K ht hb F (Nat.lt_of_le_of_lt hs hn) (fun _ _ _ _ hz=>hz) iB hv
 rw[eS] at h1
 cases h1
 simp[ChangeMaps.setBlock]
theorem St.mapUpdate {m:κ→ε} {x:κ} {v:ε} [DecidableEq κ] (kk:Nat) (hs:St c I H Γ a w) (hM:vY P t k e kl ev ed fits z) (hm:At Γ true y (.val (.map (some b)))) (hx:∀I a,cF I a Γ→true=true→keyOf P k (a.eval x')=some (kl x))
 (hv:At Γ true z' (.val (ev v))) (hf:fits v) (hn:n<140737488355328) (hH:H[kk]?=some (Own.su P k e kl ed z b n m))
 (kn:∀a' w',St c I (H.set kk (Own.su P k e kl ed z b (n+1) fun y=>if y=x then v else m y)) Γ a' w'→wpList P ops Q rest a' w'):
 wpList P ops Q (⟨none,.mapUpdate t y x' z',ty,p,af,none⟩::rest) a w:=by
 obtain⟨⟨D,ep,hD⟩,h2⟩:=hs.own.all _ (List.mem_of_getElem? hH)
 obtain⟨rW,pF,pG⟩:=h2 b rfl
 have e1:a.eval y=_:=hm I a hs.env rfl
 have e2:a.eval z'=_:=hv I a hs.env rfl
 obtain⟨w',eS,AR,pR,cr⟩:=Oo ep hM.K hM.ht (by simp only[maxLen];omega) (hx I a hs.env rfl) (hM.rd v hf)
 have qN:∀j,some j≠some b→w'.heap[j]?=w.heap[j]?:=fun j hj=>by
  by_cases bJ:j<w.heap.size
  ·exact pR.block j bJ hj
  ·rw[Array.getElem?_eq_none (by omega),Array.getElem?_eq_none (by omega)]
 refine gZ rfl ?_
 unfold Oper.wp
 simp only[execOp,e1,e2,Sem.run_bind,eS,Result.andThen_ok,Sem.run_pure]
 refine kn _ w' (hs.written (hs.step.write rW pF cr pR.os pR.tape pR.output fun j hj=>qN j (by simpa using hj)) (hs.own.write hH rfl cr qN ⟨_,AR,fun q=>?_⟩))
 have Oq:Maps.IsMap D:=by obtain⟨es,clock,_,_,_,rfl⟩:=ep;exact⟨_,rfl⟩
 show _=ed (if q=x then v else m q)
 by_cases hq:q=x
 ·subst hq;rw[if_pos rfl];exact Maps.atKey_put_same Oq (hM.key q) _ _
 ·rw[if_neg hq,Maps.atKey_put_other (fun h=>hq (hM.GI _ _ h)),hD q]
theorem Ot {P:Program} {t k e:TypeId} (ht:P.underlying t=some (.map k e)) (hk:P.underlying k=some (.int .i64)) (he:P.underlying e=some (.int .i64)) (hz:∀w,(zeroValue e).run P w=.ok (.int .i64 0) w):
 vY P t k e (fun x:Int=>Lit.int .i64 x) (fun x:Int=>Value.int .i64 x) (fun x=>.lit (.int .i64 x)) (fun x=>-9223372036854775808≤x∧x≤9223372036854775807) 0 where
 K:=Maps.int_keyed hk
 ht:=ht
 zr:=hz
 fz:=by omega
 rd:=fun x hx=>plainElem_int he (by simp[Lit.wf,IntKind.min,IntKind.max,IntKind.signed,IntKind.bits];omega)
 inv:=fun v ps x h=>by
  obtain⟨a,rfl,h2,_⟩:=plainElem_int_inv he h
  simp at h2;rw[h2.1]
 GI:=fun x y h=>by cases h;rfl
 key:=fun x=>trivial
theorem BQ {P:Program} {k:TypeId} (hk:P.underlying k=some (.int .i64)) {x:Int} (hy:At Γ g x' (.int x)) (hb:-9223372036854775808≤x∧x≤9223372036854775807):∀I a,cF I a Γ→g=true→keyOf P k (a.eval x')=some (Lit.int .i64 x):=fun I a he hg=>by
 have e1:a.eval x'=.int .i64 x:=hy I a he hg
 rw[e1]
 exact Maps.keyOf_int_mk hk (by simp[Lit.wf,IntKind.min,IntKind.max,IntKind.signed,IntKind.bits];omega)
end
section
variable {P:Program} {c:Ctx} {I:Im} {H:List Own} {Γ:Env} {a:Act} {w:World} {Q:Exit→Act→World→Prop} {ops:Array Oper} {rest:List Oper} {o:Oper} {x:AV} {g G:Bool} {y z y2:Operand} {ty T T':TypeId} {p:String} {af:Array Edge} {n m f:Nat} {zv:Value} {d:Option Tmp} {gd:Option (Nat×Bool)} {bo:BinOp} {uo:UnOp} {cc:Go.Call}
theorem Ok.GL {m n:Int} (hy:At Γ g y (.int m):=by first|exact .tt|exact .c|exact .ag) (hz:At Γ g z (.int n):=by first|exact .tt|exact .c|exact .ag):Ok P H Γ g ⟨d,.binOp .eql T y z T',ty,p,af,gd⟩ (.bool (m==n)):=AD hy hz
theorem Ok.GM {m n:Int} (hy:At Γ g y (.int m):=by first|exact .tt|exact .c|exact .ag) (hz:At Γ g z (.int n):=by first|exact .tt|exact .c|exact .ag):Ok P H Γ g ⟨d,.binOp .neq T y z T',ty,p,af,gd⟩ (.bool (m !=n)):=EY hy hz
theorem Ok.GN {m n:Int} (hy:At Γ g y (.int m):=by first|exact .tt|exact .c|exact .ag) (hz:At Γ g z (.int n):=by first|exact .tt|exact .c|exact .ag):Ok P H Γ g ⟨d,.binOp .lss T y z T',ty,p,af,gd⟩ (.bool (decide (m<n))):=AA hy hz
theorem Ok.GO {m n:Int} (hy:At Γ g y (.int m):=by first|exact .tt|exact .c|exact .ag) (hz:At Γ g z (.int n):=by first|exact .tt|exact .c|exact .ag):Ok P H Γ g ⟨d,.binOp .leq T y z T',ty,p,af,gd⟩ (.bool (decide (m≤n))):=EW hy hz
theorem Ok.GP {m n:Int} (hy:At Γ g y (.int m):=by first|exact .tt|exact .c|exact .ag) (hz:At Γ g z (.int n):=by first|exact .tt|exact .c|exact .ag):Ok P H Γ g ⟨d,.binOp .gtr T y z T',ty,p,af,gd⟩ (.bool (decide (n<m))):=EX hy hz
theorem Ok.GQ {m n:Int} (hy:At Γ g y (.int m):=by first|exact .tt|exact .c|exact .ag) (hz:At Γ g z (.int n):=by first|exact .tt|exact .c|exact .ag):Ok P H Γ g ⟨d,.binOp .geq T y z T',ty,p,af,gd⟩ (.bool (decide (n≤m))):=AB hy hz
theorem Ok.BR {m n:Int} (hy:At Γ g y (.int m):=by first|exact .tt|exact .c|exact .ag) (hz:At Γ g z (.int n):=by first|exact .tt|exact .c|exact .ag) (hb:g=true→-9223372036854775808≤m+n∧m+n≤9223372036854775807:=by intro hg;first|omega|(simp at hg;omega)):Ok P H Γ g ⟨d,.binOp .add T y z T',ty,p,af,gd⟩ (.int (m+n)):=jM hy hz hb
theorem Ok.BS {m n:Int} (hy:At Γ g y (.int m):=by first|exact .tt|exact .c|exact .ag) (hz:At Γ g z (.int n):=by first|exact .tt|exact .c|exact .ag) (hb:g=true→-9223372036854775808≤m-n∧m-n≤9223372036854775807:=by intro hg;first|omega|(simp at hg;omega)):Ok P H Γ g ⟨d,.binOp .sub T y z T',ty,p,af,gd⟩ (.int (m-n)):=EV hy hz hb
theorem Ok.GR {aa:Operand} {b x:Bool} (hc:At Γ g y (.bool b):=by first|exact .tt|exact .ag) (ha:At Γ g aa (.cond b (.bool x)):=by exact .pc):Ok P H Γ g ⟨d,.pick y aa (.const (.bool false)),ty,p,af,gd⟩ (.bool (b&&x)):=ET hc ha .c
theorem Ok.GS {bb:Operand} {b x:Bool} (hc:At Γ g y (.bool b):=by first|exact .tt|exact .ag) (hb:At Γ g bb (.cond (!b) (.bool x)):=by exact .pc):Ok P H Γ g ⟨d,.pick y (.const (.bool true)) bb,ty,p,af,gd⟩ (.bool (b||x)):=MI hc .c hb
theorem Ok.kM (h:Ok P H Γ g ⟨d,.move y,ty,p,af,gd⟩ x):Ok P H Γ g ⟨d,.move y,ty,p,af,gd⟩ x:=h
theorem Ok.kL (h:Ok P H Γ g ⟨d,.load T y,ty,p,af,gd⟩ x):Ok P H Γ g ⟨d,.load T y,ty,p,af,gd⟩ x:=h
theorem Ok.kF (h:Ok P H Γ g ⟨d,.fieldAddr T y f,ty,p,af,gd⟩ x):Ok P H Γ g ⟨d,.fieldAddr T y f,ty,p,af,gd⟩ x:=h
theorem Ok.kA (h:Ok P H Γ g ⟨d,.assign y,ty,p,af,gd⟩ x):Ok P H Γ g ⟨d,.assign y,ty,p,af,gd⟩ x:=h
theorem Ok.GU (h:Ok P H Γ g ⟨d,.binOp .eql T y z T',ty,p,af,gd⟩ x):Ok P H Γ g ⟨d,.binOp .eql T y z T',ty,p,af,gd⟩ x:=h
theorem Ok.GV (h:Ok P H Γ g ⟨d,.binOp .lss T y z T',ty,p,af,gd⟩ x):Ok P H Γ g ⟨d,.binOp .lss T y z T',ty,p,af,gd⟩ x:=h
theorem Ok.kP (h:Ok P H Γ g ⟨d,.pick y z y2,ty,p,af,gd⟩ x):Ok P H Γ g ⟨d,.pick y z y2,ty,p,af,gd⟩ x:=h
theorem Ok.kC (h:Ok P H Γ g ⟨d,.call cc,ty,p,af,gd⟩ x):Ok P H Γ g ⟨d,.call cc,ty,p,af,gd⟩ x:=h
theorem Ok.kI (h:Ok P H Γ g ⟨d,.indexAddr T y z,ty,p,af,gd⟩ x):Ok P H Γ g ⟨d,.indexAddr T y z,ty,p,af,gd⟩ x:=h
theorem Ok.GW (h:Ok P H Γ g ⟨d,.binOp .add T y z T',ty,p,af,gd⟩ x):Ok P H Γ g ⟨d,.binOp .add T y z T',ty,p,af,gd⟩ x:=h
theorem Ok.kX (h:Ok P H Γ g ⟨d,.box T y,ty,p,af,gd⟩ x):Ok P H Γ g ⟨d,.box T y,ty,p,af,gd⟩ x:=h
theorem Ok.kN (h:Ok P H Γ g ⟨d,.unOp uo T y,ty,p,af,gd⟩ x):Ok P H Γ g ⟨d,.unOp uo T y,ty,p,af,gd⟩ x:=h
theorem Ok.kZ (h:Ok P H Γ g ⟨d,.nilCheck y,ty,p,af,gd⟩ x):Ok P H Γ g ⟨d,.nilCheck y,ty,p,af,gd⟩ x:=h
theorem Ok.kE (h:Ok P H Γ g ⟨d,.extract y f,ty,p,af,gd⟩ x):Ok P H Γ g ⟨d,.extract y f,ty,p,af,gd⟩ x:=h
theorem Ok.GX (h:Ok P H Γ g ⟨d,.binOp .gtr T y z T',ty,p,af,gd⟩ x):Ok P H Γ g ⟨d,.binOp .gtr T y z T',ty,p,af,gd⟩ x:=h
theorem Ok.GY (h:Ok P H Γ g ⟨d,.binOp .neq T y z T',ty,p,af,gd⟩ x):Ok P H Γ g ⟨d,.binOp .neq T y z T',ty,p,af,gd⟩ x:=h
theorem Ok.GZ (h:Ok P H Γ g ⟨d,.binOp .sub T y z T',ty,p,af,gd⟩ x):Ok P H Γ g ⟨d,.binOp .sub T y z T',ty,p,af,gd⟩ x:=h
theorem Ok.G0 (h:Ok P H Γ g ⟨d,.binOp .leq T y z T',ty,p,af,gd⟩ x):Ok P H Γ g ⟨d,.binOp .leq T y z T',ty,p,af,gd⟩ x:=h
theorem Ok.G1 (h:Ok P H Γ g ⟨d,.binOp .geq T y z T',ty,p,af,gd⟩ x):Ok P H Γ g ⟨d,.binOp .geq T y z T',ty,p,af,gd⟩ x:=h
theorem Ok.zo (h:Ok P H Γ g o x:=by
 first
 |(apply Ok.kM;first|exact .mv|exact tx .c)
 |(apply Ok.kL;first|exact .l1|exact .lb 0|exact .Bq|exact .Br|exact .ls 0|exact .lb 1|exact .ls 1|exact .lb 2|exact .ls 2|exact .lb 3|exact .ls 3|exact .lb 4|exact .ls 4|exact .lb 5|exact .ls 5|exact .lb 6|exact .ls 6)
 |(apply Ok.kF;first|exact .fp|exact .fv)
 |(apply Ok.kA;first|exact .as|exact tz .c)
 |(apply Ok.GU;exact .GL)
 |(apply Ok.GV;exact .GN)
 |(apply Ok.kP;first|exact .GS|exact .GR)
 |(apply Ok.kC;first|exact .F9|exact .Ga|exact .Gb)
 |(apply Ok.kI;first|exact .Gd|exact .Gc|exact .Ge)
 |(apply Ok.GW;exact .BR)
 |(apply Ok.kX;exact .bp)
 |(apply Ok.kN;exact .nt)
 |(apply Ok.kZ;exact .nl)
 |(apply Ok.kE;exact .e)
 |(apply Ok.GX;exact .GP)
 |(apply Ok.GY;exact .GM)
 |(apply Ok.GZ;exact .BS)
 |(apply Ok.G0;exact .GO)
 |(apply Ok.G1;exact .GQ)):Ok P H Γ g o x:=h
theorem Ok.zp (h:Ok P H Γ g o x:=by
 first
 |(apply Ok.kM;first|exact .mx .ag|exact .mv|exact tx .c)
 |(apply Ok.kL;first|exact .lx .ag|exact .vI 0 .ag|exact .vI 1 .ag|exact .vI 2 .ag|exact .vI 3 .ag|exact .vI 4 .ag|exact .l1|exact .lb 0|exact .Bq|exact .Br|exact .ls 0|exact .lb 1|exact .ls 1|exact .lb 2|exact .ls 2|exact .lb 3|exact .ls 3|exact .lb 4|exact .ls 4|exact .lb 5|exact .ls 5|exact .lb 6|exact .ls 6)
 |(apply Ok.kF;first|exact .fx .ag|exact .NN .ag|exact .fp|exact .fv)
 |(apply Ok.kA;first|exact .NI .ag|exact .as|exact tz .c)
 |(apply Ok.GU;exact .GL)
 |(apply Ok.GV;exact .GN)
 |(apply Ok.kP;first|exact .GS|exact .GR)
 |(apply Ok.kC;first|exact .F9|exact .Ga|exact .Gb)
 |(apply Ok.kI;first|exact .Gd|exact .Gc|exact .Ge)
 |(apply Ok.GW;exact .BR)
 |(apply Ok.kX;exact .bp)
 |(apply Ok.kN;first|exact .NJ .ag|exact .nt)
 |(apply Ok.kZ;exact .nl)
 |(apply Ok.kE;exact .e)
 |(apply Ok.GX;exact .GP)
 |(apply Ok.GY;exact .GM)
 |(apply Ok.GZ;exact .BS)
 |(apply Ok.G0;exact .GO)
 |(apply Ok.G1;exact .GQ)):Ok P H Γ g o x:=h
theorem gJ.zg {b:Bool} (h:gJ ops Γ o b:=by first|exact .T|exact .F|exact .T2|exact .F2):gJ ops Γ o b:=h
theorem St.oy {d:Nat} {op:Op} (hs:St c I H Γ a w) (hd:Nat.blt d c.n=true) (ok:Ok P H Γ true ⟨some d,op,ty,p,af,none⟩ x) (k:∀I' a' w',St c I' H ((d,x)::Γ) a' w'→wpList P ops Q rest a' w'):wpList P ops Q (⟨some d,op,ty,p,af,none⟩::rest) a w:=hs.op rfl rfl hd ok k
theorem St.qy {d:Nat} {op:Op} {gd:Nat×Bool} (hs:St c I H Γ a w) (hd:Nat.blt d c.n=true) (hg:gJ ops Γ ⟨some d,op,ty,p,af,some gd⟩ G) (ok:Ok P H Γ G ⟨some d,op,ty,p,af,some gd⟩ x) (k:∀I' a' w',St c I' H ((d,.cond G x)::Γ) a' w'→wpList P ops Q rest a' w'):wpList P ops Q (⟨some d,op,ty,p,af,some gd⟩::rest) a w:=hs.xC hg rfl hd ok k
theorem St.sz {b:Nat} {l lx:List AV} (k:Nat) (hs:St c I H Γ a w) (kk:∀I' a' w',St c I' (H.set k (Own.box b T' lx)) Γ a' w'→wpList P ops Q rest a' w') [hT:dM P T true n m zv] (hy:At Γ true y (.val (.pointer (some ⟨b,0,none⟩))):=by first|exact .tt|exact .ag|exact .c) (hz:At Γ true z (.agg lx):=by first|exact .tt|exact .ag|exact .c)
 (hk:H[k]?=some (Own.box b T' l):=by rfl) (hn:lx.length=n:=by first|rfl|assumption) (hl:l.length=n:=by rfl):wpList P ops Q (⟨none,.store T y z,ty,p,af,none⟩::rest) a w:=hs.Fk k hT.h hy hz hk hn hl fun _ _ h=>kk _ _ _ h
theorem St.sy {b q:Nat} {l:List AV} (k:Nat) (hs:St c I H Γ a w) (kk:∀I' a' w',St c I' (H.set k (Own.box b T' (l.set q x))) Γ a' w'→wpList P ops Q rest a' w') [hT:dM P T false 1 m zv] (hy:At Γ true y (.val (.pointer (some ⟨b,q,none⟩))):=by first|exact .tt|exact .ag|exact .c) (hz:At Γ true z x:=by first|exact .tt|exact .ag|exact .c|exact .nil (.t rfl)|exact .nil .c)
 (hx:x.One:=by first|exact iY rfl|exact jj|exact jk|exact jl|assumption) (hk:H[k]?=some (Own.box b T' l):=by rfl) (hq:Nat.ble (q+1) l.length=true:=by rfl):wpList P ops Q (⟨none,.store T y z,ty,p,af,none⟩::rest) a w:=hs.AN k hT.h hy hz hx hk hq fun _ _ h=>kk _ _ _ h
theorem ij.oo {os:List Oper} {d:Nat} {op:Op} (hg:d=d) (ok:Ok P H (Γ.only ((⟨some d,op,ty,p,af,none⟩:Oper).looksAt ops)) true ⟨some d,op,ty,p,af,none⟩ x) (k:ij P c H ops Q ((d,x)::Γ) os):ij P c H ops Q Γ (⟨some d,op,ty,p,af,none⟩::os):=.cons (.of rfl ok) k
theorem ij.qq {os:List Oper} {d:Nat} {op:Op} {gd:Nat×Bool} (hg:gJ ops (Γ.only ((⟨some d,op,ty,p,af,some gd⟩:Oper).looksAt ops)) ⟨some d,op,ty,p,af,some gd⟩ G) (ok:Ok P H (Γ.only ((⟨some d,op,ty,p,af,some gd⟩:Oper).looksAt ops)) G ⟨some d,op,ty,p,af,some gd⟩ x) (k:ij P c H ops Q ((d,.cond G x)::Γ) os):ij P c H ops Q Γ (⟨some d,op,ty,p,af,some gd⟩::os):=.cons (.xD hg ok) k
theorem Ou (h:wpList P ops Q (⟨none,.store T y z,ty,p,af,none⟩::rest) a w):wpList P ops Q (⟨none,.store T y z,ty,p,af,none⟩::rest) a w:=h
end
structure Hid (Q:Prop):Prop where
 out:Q
theorem zz {P Q:Prop} (k:Q) (h:Hid Q→P:=by
 intro gk
 (with_reducible (repeat(first|refine nn ?_|refine sr ?_|refine aG ?_|refine wp_seq ?_|refine wp_block ?_|refine St.region ?_|refine wpList_nil ?_|refine eI ?_|refine wp_skip ?_)))
 first
 |(apply St.oy hs;rfl;exact .zo;intro I a w hs)
 |(apply St.qy hs;rfl;exact .zg;exact .zp;intro I a w hs)
 |(refine Ou ?_;first|refine hs.sy 0 (fun I a w hs=>?_)|refine hs.sz 0 (fun I a w hs=>?_)|refine hs.sy 1 (fun I a w hs=>?_)|refine hs.sz 1 (fun I a w hs=>?_)|refine hs.sy 2 (fun I a w hs=>?_)|refine hs.sz 2 (fun I a w hs=>?_)|refine hs.sy 3 (fun I a w hs=>?_)|refine hs.sz 3 (fun I a w hs=>?_)|refine hs.sy 4 (fun I a w hs=>?_)|refine hs.sz 4 (fun I a w hs=>?_)|refine hs.sz 5 (fun I a w hs=>?_)|refine hs.sz 6 (fun I a w hs=>?_))
 |(refine hs.dk ?_;(repeat(first|(apply ij.oo;rfl;exact .zo)|(apply ij.qq;exact .zg;exact .zp)));refine .nil ?_;intro I a w hs)
 revert I a w
 exact gk.out):P:=h ⟨k⟩
theorem zk {P Q:Prop} (k:Q) (h:Hid Q→P:=by
 intro gk
 first|(apply ij.oo;rfl;exact .zo)|(apply ij.qq;exact .zg;exact .zp)|refine .o .zo ?_|refine .q .zg .zp ?_
 exact gk.out):P:=h ⟨k⟩
theorem az {P Q:Prop} (k:Q) (h:Hid Q→P:=by intro gk;(iterate 1 (refine zz fun I a w hs=>?_));revert I a w;exact gk.out):P:=h ⟨k⟩
theorem ai {P Q:Prop} (k:Q) (h:Hid Q→P:=by intro gk;(iterate 2 (refine zz fun I a w hs=>?_));revert I a w;exact gk.out):P:=h ⟨k⟩
theorem aB {P Q:Prop} (k:Q) (h:Hid Q→P:=by intro gk;(iterate 3 (refine zz fun I a w hs=>?_));revert I a w;exact gk.out):P:=h ⟨k⟩
theorem aJ {P Q:Prop} (k:Q) (h:Hid Q→P:=by intro gk;(iterate 4 (refine zz fun I a w hs=>?_));revert I a w;exact gk.out):P:=h ⟨k⟩
theorem aW {P Q:Prop} (k:Q) (h:Hid Q→P:=by intro gk;(iterate 5 (refine zz fun I a w hs=>?_));revert I a w;exact gk.out):P:=h ⟨k⟩
theorem cx {P Q:Prop} (k:Q) (h:Hid Q→P:=by intro gk;(iterate 6 (refine zz fun I a w hs=>?_));revert I a w;exact gk.out):P:=h ⟨k⟩
theorem dq {P Q:Prop} (k:Q) (h:Hid Q→P:=by intro gk;(iterate 7 (refine zz fun I a w hs=>?_));revert I a w;exact gk.out):P:=h ⟨k⟩
theorem gi {P Q:Prop} (k:Q) (h:Hid Q→P:=by intro gk;(iterate 8 (refine zz fun I a w hs=>?_));revert I a w;exact gk.out):P:=h ⟨k⟩
theorem jR {P Q:Prop} (k:Q) (h:Hid Q→P:=by intro gk;(iterate 9 (refine zz fun I a w hs=>?_));revert I a w;exact gk.out):P:=h ⟨k⟩
theorem kq {P Q:Prop} (k:Q) (h:Hid Q→P:=by intro gk;(iterate 10 (refine zz fun I a w hs=>?_));revert I a w;exact gk.out):P:=h ⟨k⟩
theorem qR {P Q:Prop} (k:Q) (h:Hid Q→P:=by intro gk;(iterate 11 (refine zz fun I a w hs=>?_));revert I a w;exact gk.out):P:=h ⟨k⟩
theorem pS {P Q:Prop} (k:Q) (h:Hid Q→P:=by intro gk;(iterate 12 (refine zz fun I a w hs=>?_));revert I a w;exact gk.out):P:=h ⟨k⟩
theorem nz {P Q:Prop} (k:Q) (h:Hid Q→P:=by intro gk;(iterate 13 (refine zz fun I a w hs=>?_));revert I a w;exact gk.out):P:=h ⟨k⟩
theorem Ov {P Q:Prop} (k:Q) (h:Hid Q→P:=by intro gk;(iterate 14 (refine zz fun I a w hs=>?_));revert I a w;exact gk.out):P:=h ⟨k⟩
theorem yj {P Q:Prop} (k:Q) (h:Hid Q→P:=by intro gk;(iterate 15 (refine zz fun I a w hs=>?_));revert I a w;exact gk.out):P:=h ⟨k⟩
theorem Ow {P Q:Prop} (k:Q) (h:Hid Q→P:=by intro gk;(iterate 16 (refine zz fun I a w hs=>?_));revert I a w;exact gk.out):P:=h ⟨k⟩
theorem vZ {P Q:Prop} (k:Q) (h:Hid Q→P:=by intro gk;(iterate 17 (refine zz fun I a w hs=>?_));revert I a w;exact gk.out):P:=h ⟨k⟩
theorem G2 {P Q:Prop} (k:Q) (h:Hid Q→P:=by intro gk;(iterate 19 (refine zz fun I a w hs=>?_));revert I a w;exact gk.out):P:=h ⟨k⟩
theorem yk {P Q:Prop} (k:Q) (h:Hid Q→P:=by intro gk;(iterate 20 (refine zz fun I a w hs=>?_));revert I a w;exact gk.out):P:=h ⟨k⟩
theorem G3 {P Q:Prop} (k:Q) (h:Hid Q→P:=by intro gk;(iterate 21 (refine zz fun I a w hs=>?_));revert I a w;exact gk.out):P:=h ⟨k⟩
theorem G4 {P Q:Prop} (k:Q) (h:Hid Q→P:=by intro gk;(iterate 22 (refine zz fun I a w hs=>?_));revert I a w;exact gk.out):P:=h ⟨k⟩
theorem v3 {P Q:Prop} (k:Q) (h:Hid Q→P:=by intro gk;(iterate 23 (refine zz fun I a w hs=>?_));revert I a w;exact gk.out):P:=h ⟨k⟩
theorem Ox {P Q:Prop} (k:Q) (h:Hid Q→P:=by intro gk;(iterate 24 (refine zz fun I a w hs=>?_));revert I a w;exact gk.out):P:=h ⟨k⟩
theorem Oy {P Q:Prop} (k:Q) (h:Hid Q→P:=by intro gk;(iterate 27 (refine zz fun I a w hs=>?_));revert I a w;exact gk.out):P:=h ⟨k⟩
theorem Oz {P Q:Prop} (k:Q) (h:Hid Q→P:=by intro gk;(iterate 29 (refine zz fun I a w hs=>?_));revert I a w;exact gk.out):P:=h ⟨k⟩
theorem OA {P Q:Prop} (k:Q) (h:Hid Q→P:=by intro gk;(iterate 31 (refine zz fun I a w hs=>?_));revert I a w;exact gk.out):P:=h ⟨k⟩
theorem BT {P Q:Prop} (k:Q) (h:Hid Q→P:=by intro gk;(iterate 32 (refine zz fun I a w hs=>?_));revert I a w;exact gk.out):P:=h ⟨k⟩
theorem bz {P Q:Prop} (k:Q) (h:Hid Q→P:=by intro gk;(iterate 1 (refine zk ?_));exact gk.out):P:=h ⟨k⟩
theorem cq {P Q:Prop} (k:Q) (h:Hid Q→P:=by intro gk;(iterate 2 (refine zk ?_));exact gk.out):P:=h ⟨k⟩
theorem du {P Q:Prop} (k:Q) (h:Hid Q→P:=by intro gk;(iterate 3 (refine zk ?_));exact gk.out):P:=h ⟨k⟩
theorem de {P Q:Prop} (k:Q) (h:Hid Q→P:=by intro gk;(iterate 4 (refine zk ?_));exact gk.out):P:=h ⟨k⟩
theorem eK {P Q:Prop} (k:Q) (h:Hid Q→P:=by intro gk;(iterate 5 (refine zk ?_));exact gk.out):P:=h ⟨k⟩
theorem fP {P Q:Prop} (k:Q) (h:Hid Q→P:=by intro gk;(iterate 6 (refine zk ?_));exact gk.out):P:=h ⟨k⟩
theorem jS {P Q:Prop} (k:Q) (h:Hid Q→P:=by intro gk;(iterate 7 (refine zk ?_));exact gk.out):P:=h ⟨k⟩
theorem mJ {P Q:Prop} (k:Q) (h:Hid Q→P:=by intro gk;(iterate 8 (refine zk ?_));exact gk.out):P:=h ⟨k⟩
theorem tQ {P Q:Prop} (k:Q) (h:Hid Q→P:=by intro gk;(iterate 9 (refine zk ?_));exact gk.out):P:=h ⟨k⟩
theorem mK {P Q:Prop} (k:Q) (h:Hid Q→P:=by intro gk;(iterate 10 (refine zk ?_));exact gk.out):P:=h ⟨k⟩
theorem OB {P Q:Prop} (k:Q) (h:Hid Q→P:=by intro gk;(iterate 11 (refine zk ?_));exact gk.out):P:=h ⟨k⟩
theorem yl {P Q:Prop} (k:Q) (h:Hid Q→P:=by intro gk;(iterate 12 (refine zk ?_));exact gk.out):P:=h ⟨k⟩
theorem pT {P Q:Prop} (k:Q) (h:Hid Q→P:=by intro gk;(iterate 14 (refine zk ?_));exact gk.out):P:=h ⟨k⟩
theorem OC {P Q:Prop} (k:Q) (h:Hid Q→P:=by intro gk;(iterate 15 (refine zk ?_));exact gk.out):P:=h ⟨k⟩
theorem lY {P Q:Prop} (k:Q) (h:Hid Q→P:=by intro gk;(iterate 16 (refine zk ?_));exact gk.out):P:=h ⟨k⟩
section
variable {P:Program} {c:Ctx} {I:Im} {H:List Own} {Γ:Env} {a:Act} {w:World} {E T:TypeId} {v:Value} {sz:Nat} {l:List (List AV)} {u:List AV} {b:Nat}
theorem St.fr (k t:Nat) (hs:St c I H Γ a w) (hk:H[k]?=some (Own.row v E sz l):=by rfl) (ht:Env.get t Γ=some (.val v):=by rfl):∃I',St c I' (H.set k Own.gone) ((t,.rows sz l)::Γ) a w:=
 let⟨I',h,hf⟩:=hs.qF k hk
 ⟨I',h.tK ht hf⟩
theorem St.fb (k t:Nat) (hs:St c I H Γ a w) (hk:H[k]?=some (Own.box b T u):=by rfl) (ht:Env.get t Γ=some (.val (.pointer (some ⟨b,0,none⟩))):=by rfl):∃I',St c I' (H.set k Own.gone) ((t,.ptr u)::Γ) a w:=
 let⟨I',h,hf⟩:=hs.Fy k hk
 ⟨I',h.tK ht hf⟩
theorem St.fu (k q j:Nat) (hs:St c I H Γ a w) (hk:H[k]?=some (Own.row v E sz l):=by rfl) (hj:(H.set k Own.gone)[j]?=some (Own.box b T u):=by rfl) (hq:u[q]?=some (.val v):=by rfl):∃I',St c I' ((H.set k Own.gone).set j (Own.box b T (u.set q (.rows sz l)))) Γ a w:=
 let⟨I',h,hf⟩:=hs.qF k hk
 ⟨I',h.km j hj hq hf⟩
end
end Go.Proofs.YtoeioeimmfpefaaGreat

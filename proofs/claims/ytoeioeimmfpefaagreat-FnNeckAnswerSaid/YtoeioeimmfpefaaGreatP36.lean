/- Part 36: rules of the proofs, contracts of functions, plain facts. -/
import Derived.Test.YtoeioeimmfpefaaGreatP33
import Derived.Test.YtoeioeimmfpefaaGreatP35
set_option linter.unusedVariables false
set_option linter.unusedSimpArgs false
namespace Go.Proofs.YtoeioeimmfpefaaGreat
open Go Go.RowKit
section
variable {P:Program} {c:Ctx} {I:Im} {H:List Own} {Γ:Env} {a:Act} {w:World} {Q:Exit→Act→World→Prop} {ops:Array Oper} {rest os:List Oper} {Hf:List (Act→Own)} {ms:Meta} {E:TypeId} {sz:Nat} {l:List (List AV)} {v:Value} {x:AV}
theorem aV.yf {T ty:TypeId} {d m n:Nat} {p:String} {af:Array Edge} {zv:Value} {ag:Bool} {len:Nat} {gw:List (List AV)} {parts:List (Nat×Operand)} {ps:List (Nat×List AV)} (k:Nat) (hk:Hf[k]?=some fun _=>Own.gone) (hd:Nat.blt d c.n=true) (hT:P.underlying T=some (.slice E)) (hE:Ty P E ag n m zv) (fB:zv.cells.size=sz) (np:∀u∈zv.cells.toList,u.oneCell'=true)
 (cr:Nat.blt 0 sz=true) (k4:Nat.blt 0 len=true) (qG:Nat.ble (len*sz) 16777216=true) (hp:aZ (nk sz) (Γ.only ((⟨some d,.buildSlice T len parts.toArray,ty,p,af,none⟩:Oper).looksAt ops)) true (len*sz) parts ps) (iZ:filled (List.replicate (len*sz) AV.any) ps=gw.flatten) (hlen:gw.length=len) (hr:∀r∈gw,r.length=sz) (hn:n=sz)
 (r:aV P c ops Q ((d,AV.j9)::Γ) (Hf.set k fun a=>Own.row (a.tmps.getD d undef) E sz gw) os ms):aV P c ops Q Γ Hf (⟨some d,.buildSlice T len parts.toArray,ty,p,af,none⟩::os) (([k],some (k,[d]))::ms):=
 aV.cons (u:=some ⟨k,[d],fun a=>Own.row (a.tmps.getD d undef) E sz gw⟩) (x:=AV.j9) (qO (g:=fun v=>Own.row v E sz gw) fun v v' e=>e▸rfl) (fun F W0 I0 I a w Q hs kk=>by
  refine hs.yf hd hT hE fB np cr k4 qG hp iZ hlen hr hn fun b I' a' w' bX=>?_
  generalize Uo:Value.slice (some ⟨b,0,none⟩) len len=v at bX
  have h1:v.oneCell'=true:=by rw[←Uo];rfl
  have hv:a'.tmps.getD d undef=v:=bX.env d (.val v) (by simp[Env.get])
  have eU:=bX.vF k (jQ hk)
  have ll:St ⟨W0.1,I0,c.n,W0.2⟩ I' ((dy [k] a F 0 Hf).set k (Own.row v E sz gw)) ((d,AV.j9)::Γ.only ((⟨some d,.buildSlice T len parts.toArray,ty,p,af,none⟩:Oper).looksAt ops)) a' w':=
   ⟨eU.step,eU.own,fun t y e=>by
    simp only[Env.get] at e
    cases hb:Nat.beq d t with
    |true=>rw[hb] at e;obtain rfl:d=t:=Nat.eq_of_beq_eq_true hb;simp at e;subst e;rw[hv];exact h1
    |false=>rw[hb] at e;exact eU.env t y (by simp only[Env.get,hb];exact e),eU.size,eU.defers⟩
  exact kk I' a' w' (ll.pass (lW (a':=a') (f:=fun a=>Own.row (a.tmps.getD d undef) E sz gw) (by rw[hv])))) r
theorem Up (w:World) (d:Nat) (t e:TypeId) (q:Option Addr) (n k:Nat) (h:P.underlying t=some (.slice e)):(Op.equalIn (d+1) t (.slice q n k) (.slice none 0 0)).run P w=.ok q.isNone w:=by
 cases q<;>simp[Op.equalIn,run_underlying h]
theorem Uq {g:Bool} {d:Option Tmp} {y z:Operand} {ty T T':TypeId} {p:String} {af:Array Edge} {gd:Option (Nat×Bool)} {q:Option Addr} {n k:Nat} (hT:P.underlying T=some (.slice E)) (hy:At Γ g y (.val (.slice q n k))) (hz:At Γ g z (.val (.slice none 0 0))):Ok P H Γ g ⟨d,.binOp .eql T y z T',ty,p,af,gd⟩ (.bool q.isNone):=
 fR fun I a w he hg=>by
  have h1:a.eval y=.slice q n k:=hy I a he hg
  have h2:a.eval z=.slice none 0 0:=hz I a he hg
  simp only[execOp,h1,h2]
  simp[eqGuard,binOp,Op.equal,Op.maxDepth,Up w 9999 T E q n k hT]
theorem DU {v:Value} (h:(Own.row v E sz l).ok I w) (hl:l≠[]):∃b cap,v=.slice (some ⟨b,0,none⟩) l.length cap:=by
 obtain⟨_,⟨h0,_⟩|⟨b,cap,cur,e,_⟩⟩:=h
 ·exact absurd h0 hl
 ·exact⟨b,cap,e⟩
def uS:Value→Nat
 |.slice (some q) _ _=>q.block
 |_=>0
theorem tj {g:Bool} {d:Option Tmp} {y z:Operand} {ty T:TypeId} {p:String} {af:Array Edge} {gd:Option (Nat×Bool)} {ag:Bool} {m:Nat} {zv:Value} {i:Int} (k:Nat) (hT:P.underlying T=some (.slice E)) (hE:Ty P E ag sz m zv) (h:At Γ g y (.val v)) (hi:At Γ g z (.int i)) (hk:H[k]?=some (Own.row v E sz l)) (hb:g=true→0≤i∧i<l.length):
 Ok P H Γ g ⟨d,.indexAddr T y z,ty,p,af,gd⟩ (.val (.pointer (some ⟨uS v,i.toNat*sz,none⟩))):=
 fw fun base I a w he hm hw hg=>by
  obtain⟨h0,h1⟩:=hb hg
  obtain⟨b,cap,rfl⟩:=DU (hw.all _ (List.mem_of_getElem? hk)).1 (by rintro rfl;simp at h1;omega)
  have e:a.eval y=_:=h I a he hg
  have e2:a.eval z=_:=hi I a he hg
  have hs:(sizeOf E).run P w=.ok sz w:=hE.size
  refine⟨_,?_,rfl⟩
  simp only[execOp,e,e2,Instr.indexAt,asIntOf,Sem.run_bind,Sem.run_pure,Result.andThen_ok,run_underlying hT]
  simp[h0,h1,add_plain,hs,uS]
theorem DV {g:Bool} {d:Option Tmp} {y:Operand} {ty T:TypeId} {p:String} {af:Array Edge} {gd:Option (Nat×Bool)} {n m:Nat} {zv:Value} {q i j:Nat} {r:List AV} (k:Nat) (hT:Ty P T false n m zv) (h:At Γ g y (.val (.pointer (some ⟨uS v,q,none⟩)))) (hk:H[k]?=some (Own.row v E sz l))
 (hr:g=true→l[i]?=some r) (hq:q=i*sz+j) (hx:r[j]?=some x) (AS:Nat.blt j sz=true):Ok P H Γ g ⟨d,.load T y,ty,p,af,gd⟩ x:=
 fw fun base I a w he hm hw hg=>by
  obtain⟨b,cap,rfl⟩:=DU (hw.all _ (List.mem_of_getElem? hk)).1 (by rintro rfl;simpa using hr hg)
  have e:a.eval y=_:=h I a he hg
  have hj:j<sz:=by simpa using AS
  obtain⟨cs,h1,h2,h3⟩:=xK hk hw (hr hg) hq (by omega)
  obtain⟨u,hu,AT,_⟩:=h1.get (i:=0) (x:=x) (by rw[List.getElem?_drop];simpa using hx)
  refine⟨u,?_,AT⟩
  have hc:w.cell? ⟨b,q,none⟩=some u:=h3 0 u hu
  simp only[execOp,e,Instr.loadAt,Instr.sureAddr,Sem.run_bind,Sem.run_pure,Result.andThen_ok,uS,ve hT hc]
theorem KU {g:Bool} {d:Option Tmp} {y:Operand} {ty T:TypeId} {p:String} {af:Array Edge} {gd:Option (Nat×Bool)} {m:Nat} {zv:Value} {q i:Nat} {r:List AV} (k:Nat) (hT:Ty P T true sz m zv) (h:At Γ g y (.val (.pointer (some ⟨uS v,q,none⟩)))) (hk:H[k]?=some (Own.row v E sz l))
 (hr:g=true→l[i]?=some r) (hq:q=i*sz):Ok P H Γ g ⟨d,.load T y,ty,p,af,gd⟩ (.agg r):=
 fw fun base I a w he hm hw hg=>by
  obtain⟨b,cap,rfl⟩:=DU (hw.all _ (List.mem_of_getElem? hk)).1 (by rintro rfl;simpa using hr hg)
  have e:a.eval y=_:=h I a he hg
  obtain⟨cs,h1,h2,h3⟩:=xK (q:=q) hk hw (hr hg) (j:=0) (by rw[hq];rfl) (by omega)
  refine⟨.agg cs.toArray,?_,_,rfl,by simpa using h1⟩
  have h4:∀t u,cs[t]?=some u→w.cell? ((⟨b,q,none⟩:Addr).add t)=some u:=fun t u hu=>by rw[add_plain];exact h3 t u hu
  simp only[execOp,e,Instr.loadAt,Instr.sureAddr,Sem.run_bind,Sem.run_pure,Result.andThen_ok,uS,vf hT (by omega) h4]
theorem aV.KV {d:Nat} {f:FuncId} {ys:Array Operand} {ts:Array TypeId} {ty:TypeId} {p:String} {af:Array Edge} {xs:List AV} {ok:Value→Prop} {l2:List (List AV)} (k:Nat) (hk:Hf[k]?=some fun _=>Own.row v E sz l) (hd:Nat.blt d c.n=true) (hf:cL P f xs [Own.row v E sz l] ok (fun u=>[Own.row u E sz l2]) AV.val)
 (ic:∀I a,cF I a (Γ.only ((⟨some d,.call ⟨.value (.func f),ys,ts⟩,ty,p,af,none⟩:Oper).looksAt ops))→true=true→cN I xs (ys.map a.eval).toList)
 (r:aV P c ops Q ((d,AV.j9)::Γ) (Hf.set k fun a=>Own.row (a.tmps.getD d undef) E sz l2) os ms):aV P c ops Q Γ Hf (⟨some d,.call ⟨.value (.func f),ys,ts⟩,ty,p,af,none⟩::os) (([k],some (k,[d]))::ms):=
 aV.cons (u:=some ⟨k,[d],fun a=>Own.row (a.tmps.getD d undef) E sz l2⟩) (x:=AV.j9) (qO (g:=fun v=>Own.row v E sz l2) fun v v' e=>e▸rfl) (fun F W0 I0 I a w Q hs kk=>by
  have fS:(dy [k] a F 0 Hf)[k]?=some (Own.row v E sz l):=jQ hk
  refine hs.cW [k] hf ic (by simpa using fS) (by simp) hd fun v' I' a' w' _ bX=>?_
  simp only[hole,fill,List.append_nil,List.set_set] at bX
  have hv:a'.tmps.getD d undef=v':=bX.env d (.val v') (by simp[Env.get])
  have sg:=bX.own.all (Own.row v' E sz l2) (List.mem_of_getElem? (i:=k) (by rw[List.getElem?_set_self (List.getElem?_eq_some_iff.1 fS).1]))
  have h1:v'.oneCell'=true:=by
   obtain⟨_,⟨_,rfl|⟨q,rfl,_⟩⟩|⟨b,cap,cur,rfl,_⟩⟩:=sg.1<;>rfl
  have ll:St ⟨W0.1,I0,c.n,W0.2⟩ I' ((dy [k] a F 0 Hf).set k (Own.row v' E sz l2)) ((d,AV.j9)::Γ.only ((⟨some d,.call ⟨.value (.func f),ys,ts⟩,ty,p,af,none⟩:Oper).looksAt ops)) a' w':=
   ⟨bX.step,bX.own,fun t y e=>by
    simp only[Env.get] at e
    cases hb:Nat.beq d t with
    |true=>rw[hb] at e;obtain rfl:d=t:=Nat.eq_of_beq_eq_true hb;simp at e;subst e;rw[hv];exact h1
    |false=>rw[hb] at e;exact bX.env t y (by simp only[Env.get,hb];exact e),bX.size,bX.defers⟩
  exact kk I' a' w' (ll.pass (lW (a':=a') (f:=fun a=>Own.row (a.tmps.getD d undef) E sz l2) (by rw[hv])))) r
theorem St.Ur {t:Nat} (hs:St c I H Γ a w) (ht:Env.get t Γ=some (.rows sz l)):∃q cap,(q=none→l=[])∧St c I H ((t,.val (.slice q l.length cap))::Γ) a w:=by
 obtain⟨q,cap,e,h1,h2,h3,h4,h5⟩:=hs.env t _ ht
 refine⟨q,cap,fun hq=>?_,hs.step,hs.own,fun s u hu=>?_,hs.size,hs.defers⟩
 ·rcases h4 with h4|⟨q',e',_⟩
  ·exact h4
  ·rw[hq] at e';cases e'
 ·simp only[Env.get] at hu
  cases hb:Nat.beq t s with
  |true=>
   rw[hb] at hu;simp at hu;subst hu
   obtain rfl:t=s:=Nat.eq_of_beq_eq_true hb
   exact e
  |false=>rw[hb] at hu;exact hs.env s u hu
end
end Go.Proofs.YtoeioeimmfpefaaGreat
set_option linter.unusedVariables false
set_option linter.unusedSimpArgs false
set_option maxRecDepth 100000
set_option maxHeartbeats 4000000
namespace Go.Proofs.YtoeioeimmfpefaaGreat
open Go Go.RowKit
attribute [local irreducible] wpList Code.wp Ok
set_option maxHeartbeats 4000000 in
theorem KW (q:Call) (h:ur q):
 cL Tryz.prog 90 [q.av] [] (fun _:Value×Value=>True) (fun u=>[Own.row u.1 121 9 (q.ax.map Answer.cells),Own.row u.2 97 3 (q.aM.map ar.cells)]) (fun u=>q.uv u.1 u.2):=by
 refine cL.intro 40 Tryz.func90 rfl Tryz.ntmps90 rfl (by kernel_rfl) (fun W I a hs=>?_)
 obtain⟨h1,h2,h4,h5,h3⟩:=h
 have hs:=hs.fi (sz:=9) 121
 refine sr<|hs.box rfl .tt fun b1 I a w hs=>hs.alloc rfl cy iP fun b2 I a w hs=>nn<|wp_seq ?_
 refine hs.mG 10 (by kernel_rfl) (by kernel_rfl) (by kernel_rfl) ?_
 simp only[List.take_succ_cons,List.take_zero,List.drop_succ_cons,List.drop_zero]
 refine cq ?_
 refine .o (x8 il fT rfl Oe .r (fun _=>by simp;omega)) ?_
 refine cq ?_
 refine .o (.cl (qe q.ctx h2)) ?_
 refine cq ?_
 refine fl.mI (y6 q.aM h3) (aw .r aP) ?_
 refine bz ?_
 refine .nil ?_
 intro I a w hs
 obtain⟨jY,hs⟩:=hs.yd (d:=14)
 refine aJ fun I a w hs=>?_
 try have Kp:=hs.dS 3 rfl
 refine cx fun I a w hs=>?_
 refine nn<|wp_block ?_
 refine St.lo (σ:=Nat×Value) (3::(5::(run 16 21 []))) ⟨fun⟨k,v⟩=>[(21,AV.int k),(3,AV.val v)],fun⟨k,v⟩=>[Own.row v 121 9 ((q.ax.take k).map Answer.cells),Own.box b1 51 [AV.int q.aC,AV.int q.num,AV.int q.kind,gh q.keys,AV.int q.val,bl q.ctx,AV.int q.bm,AV.int q.end_,AV.bool q.over,AV.int q.aA.time,AV.int q.aA.site,oq q.ax,AV.val jY],Own.box b2 51 [AV.val (.int .i64 0),AV.val (.int .i64 0),AV.val (.int .i64 0),AV.rows 1 [],AV.val (.int .i64 0),AV.rows 3 [],AV.val (.int .i64 0),AV.val (.int .i64 0),AV.val (.bool false),AV.val (.int .i64 0),AV.val (.int .i64 0),AV.rows 9 [],AV.rows 3 []],Own.row jY 97 3 (q.aM.map ar.cells)],fun⟨k,v⟩=>k≤q.ax.length⟩ (fun⟨k,v⟩=>q.ax.length-k) (0,.slice none 0 0) hs ?aN ?aO
 case aN=>exact Nat.zero_le _
 case aO=>
  rintro⟨k,v⟩ I a w al hs
  have hk:k≤q.ax.length:=al
  dsimp only at hs
  refine az fun I a w hs=>?_
  refine nn<|wp_seq ?_
  refine hs.cd (fun ae=>?_) fun ae=>?_
  ·try simp only[B] at ae
   refine ai fun I a w hs=>?_
   refine hs.alloc rfl dC mL fun b5 I a w hs=>?_
   refine hs.sb 4 fun hs=>?_
   obtain⟨I,hs⟩:=hs.fb 4 5
   refine nn ?_
   refine hs.dp 10 (by kernel_rfl) (by kernel_rfl) (by kernel_rfl) ?_
   simp only[List.take_succ_cons,List.take_zero,List.drop_succ_cons,List.drop_zero]
   refine jS ?_
   refine .o (.c1 (sN _ (h5 _ (bx ae)))) ?_
   refine .o (.bd mL (.k (.k (.t aZ.nil)))) ?_
   refine .o (.li [(ab q.ax k).cells] qT (.u .nil)) ?_
   refine .nil ?_
   intro I a w hs
   refine hs.append 0 rfl ef dC rfl .tt .r rfl (by simp;omega) fun Us a w hs=>?_
   rw[ck,←dL ae] at hs
   refine aB fun I a w hs=>?_
   refine nn ?_
   have hs:=hs.drop 4
   exact hs.ag (k+1,Us) (ae)
  ·try simp only[B] at ae
   refine wp_exit<|aF<|aF<|aY<|aG<|wp_seq ?_
   rw[List.take_of_length_le (by omega)] at hs
   refine ai fun I a w hs=>?_
   try have acP:=hs.dS 0 rfl
   refine aB fun I a w hs=>?_
   refine nn<|wp_ret ?_
   exact hs.cP (v,jY) [0,3] rfl (.cons (.s 2 cy rfl rfl (by first|rfl|assumption)) .nil) trivial rfl rfl
theorem KX (q:Call) (h:ur q):Fn Tryz.prog 90 [q.av] q.av:=(KW q h).frozen fun r c I a w _ hs=>by
 obtain⟨I,hs⟩:=hs.fa 0 0 11
 obtain⟨I,hs⟩:=hs.fa 1 0 12
 exact⟨_,_,_,hs⟩
def be.Ut (w:be) (r:Value×Value×Value×Value):AV:=.agg [.int w.time,.val r.1,.val r.2.1,.val r.2.2.1,.val r.2.2.2]
def be.KY (w:be) (r:Value×Value×Value×Value):List Own:=[Own.row r.1 44 7 (w.au.map Server.cells),Own.row r.2.1 74 15 (w.ao.map aD.cells),Own.row r.2.2.1 51 13 (w.calls.map Call.cells),Own.row r.2.2.2 42 1 (w.seen.map ey)]
set_option maxHeartbeats 4000000 in
theorem KZ (x:be) (h:uu x):
 cL Tryz.prog 47 [x.av] [] (fun _=>True) x.KY x.Ut:=by
 refine cL.intro 62 Tryz.func47 rfl Tryz.ntmps47 rfl (by kernel_rfl) (fun W I a hs=>?_)
 obtain⟨⟨h1,h2⟩,⟨h3,h4⟩,⟨h5,h6⟩,h7,h8⟩:=h
 have hs:=hs.fi (sz:=7) 44
 have hs:=hs.fi (sz:=13) 51
 have hs:=hs.fi (sz:=1) 42
 refine az fun I a w hs=>?_
 refine hs.alloc rfl cG g9 fun b2 I a w hs=>nn<|wp_seq ?_
 have hs:=hs.gN
 have hs:=hs.gN
 have hs:=hs.gN
 refine hs.vT 7 _ [([],none),([],none),([],none),([],none),([5],some (5,[14])),([6],some (6,[15,14])),([4],some (4,[3]))] rfl (by kernel_rfl) (by kernel_rfl) rfl ?_
 simp only[List.take_succ_cons,List.take_zero]
 refine de ?_
 refine aV.mI 5 rfl rfl (QQ x.ao h3 h4) (aw .r aP) ?_
 refine aV.BK 6 [14] (fun a=>AV.agg [AV.int x.time,AV.val (.slice none 0 0),AV.val (a.tmps.getD 14 undef),AV.val (.slice none 0 0),AV.val (.slice none 0 0)]) rfl rfl rfl rfl (fun a b h=>by simp only[List.forall_mem_cons] at h;simp only[h]) rfl (fun F a I he=>Ok.to (.bd tT (.k (aZ.c Pg rfl .tt (ss (t:=14) he) aZ.nil)))) ?_
 refine aV.alloc 4 rfl rfl cG g9<|.nil ?_
 intro I a w hs
 obtain⟨b3,hs⟩:=hs.nw (d:=3) 4 rfl rfl
 change St _ _ [Own.row (.slice none 0 0) 44 7 [],Own.row (.slice none 0 0) 51 13 [],Own.row (.slice none 0 0) 42 1 [],Own.box b2 28 [AV.val (.int .i64 0),AV.rows 7 [],AV.rows 15 [],AV.rows 13 [],AV.rows 1 []],Own.box b3 28 _,Own.row (a.tmps.getD 14 undef) 74 15 (x.ao.map aD.cells),Own.is (AV.agg [AV.int x.time,AV.val (.slice none 0 0),AV.val (a.tmps.getD 14 undef),AV.val (.slice none 0 0),AV.val (.slice none 0 0)]) (a.tmps.getD 15 undef)] _ _ _ at hs
 have hs:=hs.BM (d:=15) 6 rfl
 have hs:=hs.drop 6
 generalize a.tmps.getD 14 undef=jY at hs
 show wpList _ _ _ _ _ _
 refine aW fun I a w hs=>?_
 refine nn<|wp_block ?_
 refine St.lo (σ:=Nat×Value) (5::(run 12 19 [])) ⟨fun⟨k,p⟩=>[(19,AV.int k)],fun⟨k,p⟩=>[Own.row p 44 7 ((x.au.take k).map Server.cells),Own.row (.slice none 0 0) 51 13 ([]),Own.row (.slice none 0 0) 42 1 ([]),Own.box b2 28 [AV.val (.int .i64 0),AV.rows 7 [],AV.rows 15 [],AV.rows 13 [],AV.rows 1 []],Own.box b3 28 [AV.int x.time,AV.val p,AV.val jY,AV.val (.slice none 0 0),AV.val (.slice none 0 0)],Own.row jY 74 15 (x.ao.map aD.cells)],fun⟨k,p⟩=>k≤x.au.length⟩ (fun⟨k,p⟩=>x.au.length-k) (0,(.slice none 0 0)) hs ?aN ?aO
 case aN=>exact Nat.zero_le _
 case aO=>
  rintro⟨k,p⟩ I a w al hs
  have hk:k≤x.au.length:=al
  dsimp only at hs
  refine az fun I a w hs=>?_
  refine nn<|wp_seq ?_
  refine hs.cd (fun ae=>?_) fun ae=>?_
  ·try simp only[B] at ae
   refine ai fun I a w hs=>?_
   refine hs.alloc rfl ba df fun b5 I a w hs=>?_
   refine hs.sb 6 fun hs=>?_
   obtain⟨I,hs⟩:=hs.fb 6 5
   refine nn ?_
   refine hs.dp 5 (by kernel_rfl) (by kernel_rfl) (by kernel_rfl) ?_
   simp only[List.take_succ_cons,List.take_zero,List.drop_succ_cons,List.drop_zero]
   refine du ?_
   refine .o (.c1 (qk _ (h2 _ (bx ae)))) ?_
   refine .o (.li [(ab x.au k).cells] yn (.u .nil)) ?_
   refine .nil ?_
   intro I a w hs
   refine hs.append 0 rfl kt ba rfl .tt .r rfl (by simp;omega) fun Dh a w hs=>?_
   rw[ck,←dL ae] at hs
   refine hs.o .fv fun hs=>?_
   try have acQ:=hs.dS 0 rfl
   refine aB fun I a w hs=>?_
   refine nn ?_
   have hs:=hs.drop 6
   exact hs.ag (k+1,Dh) (ae)
  ·try simp only[B] at ae
   refine wp_exit<|aF<|aF<|aY<|aG<|wp_seq<|wp_seq ?_
   rw[List.take_of_length_le (by omega)] at hs
   refine aJ fun I a w hs=>?_
   refine nn<|wp_block ?_
   refine St.lo (σ:=Nat×Value) (7::(run 12 34 [])) ⟨fun⟨k,q⟩=>[(34,AV.int k)],fun⟨k,q⟩=>[Own.row p 44 7 (x.au.map Server.cells),Own.row q 51 13 ((x.calls.take k).map Call.cells),Own.row (.slice none 0 0) 42 1 ([]),Own.box b2 28 [AV.val (.int .i64 0),AV.rows 7 [],AV.rows 15 [],AV.rows 13 [],AV.rows 1 []],Own.box b3 28 [AV.int x.time,AV.val p,AV.val jY,AV.val q,AV.val (.slice none 0 0)],Own.row jY 74 15 (x.ao.map aD.cells)],fun⟨k,q⟩=>k≤x.calls.length⟩ (fun⟨k,q⟩=>x.calls.length-k) (0,(.slice none 0 0)) hs ?dT ?dU
   case dT=>exact Nat.zero_le _
   case dU=>
    rintro⟨k,q⟩ I a w al hs
    have hk:k≤x.calls.length:=al
    dsimp only at hs
    refine az fun I a w hs=>?_
    refine nn<|wp_seq ?_
    refine hs.cd (fun ah=>?_) fun ah=>?_
    ·try simp only[B] at ah
     refine ai fun I a w hs=>?_
     refine hs.alloc rfl cy iP fun b7 I a w hs=>?_
     refine hs.sb 6 fun hs=>?_
     obtain⟨I,hs⟩:=hs.fb 6 7
     refine nn ?_
     refine hs.dp 5 (by kernel_rfl) (by kernel_rfl) (by kernel_rfl) ?_
     simp only[List.take_succ_cons,List.take_zero,List.drop_succ_cons,List.drop_zero]
     refine du ?_
     refine .o (.c1 (KX _ (h6 _ (bx ah)))) ?_
     refine .o (.li [(ab x.calls k).cells] yp (.u .nil)) ?_
     refine .nil ?_
     intro I a w hs
     refine hs.append 1 rfl iD cy rfl .tt .r rfl (by simp;omega) fun zK a w hs=>?_
     rw[ck,←dL ah] at hs
     refine hs.o .fv fun hs=>?_
     try have Uu:=hs.dS 1 rfl
     refine aB fun I a w hs=>?_
     refine nn ?_
     have hs:=hs.drop 6
     exact hs.ag (k+1,zK) (ah)
    ·try simp only[B] at ah
     refine wp_exit<|aF<|aF<|aY<|aG<|wp_seq<|wp_seq ?_
     rw[List.take_of_length_le (by omega)] at hs
     refine aJ fun I a w hs=>?_
     refine nn<|wp_block ?_
     refine St.lo (σ:=Nat×Value) (9::(run 12 49 [])) ⟨fun⟨k,r⟩=>[(49,AV.int k)],fun⟨k,r⟩=>[Own.row p 44 7 (x.au.map Server.cells),Own.row q 51 13 (x.calls.map Call.cells),Own.row r 42 1 ((x.seen.take k).map ey),Own.box b2 28 [AV.val (.int .i64 0),AV.rows 7 [],AV.rows 15 [],AV.rows 13 [],AV.rows 1 []],Own.box b3 28 [AV.int x.time,AV.val p,AV.val jY,AV.val q,AV.val r],Own.row jY 74 15 (x.ao.map aD.cells)],fun⟨k,r⟩=>k≤x.seen.length⟩ (fun⟨k,r⟩=>x.seen.length-k) (0,(.slice none 0 0)) hs ?iq ?ir
     case iq=>exact Nat.zero_le _
     case ir=>
      rintro⟨k,r⟩ I a w al hs
      have hk:k≤x.seen.length:=al
      dsimp only at hs
      refine az fun I a w hs=>?_
      refine nn<|wp_seq ?_
      refine hs.cd (fun aj=>?_) fun aj=>?_
      ·try simp only[B] at aj
       refine aB fun I a w hs=>?_
       refine nn ?_
       refine hs.dp 5 (by kernel_rfl) (by kernel_rfl) (by kernel_rfl) ?_
       simp only[List.take_succ_cons,List.take_zero,List.drop_succ_cons,List.drop_zero]
       refine du ?_
       refine .o (.cl (qe _ (h8 _ (bx aj)))) ?_
       refine .o (.li [ey (ab x.seen k)] BV (.v .nil)) ?_
       refine .nil ?_
       intro I a w hs
       refine hs.append 2 rfl nB kr rfl .tt .r rfl (by simp;omega) fun Uv a w hs=>?_
       rw[ck,←dL aj] at hs
       refine hs.o .fv fun hs=>?_
       try have acR:=hs.dS 2 rfl
       refine aB fun I a w hs=>?_
       refine nn ?_
       exact hs.ag (k+1,Uv) (aj)
      ·try simp only[B] at aj
       refine wp_exit<|aF<|aF<|aY<|aG<|wp_seq ?_
       rw[List.take_of_length_le (by omega)] at hs
       refine ai fun I a w hs=>?_
       refine nn<|wp_ret ?_
       exact hs.cP (p,jY,q,r) [0,5,1,2] rfl (.cons (.s 3 cG rfl rfl (by first|rfl|assumption)) .nil) trivial rfl rfl
theorem Uw (x:be) (h:uu x):Fn Tryz.prog 47 [x.av] x.av:=(KZ x h).frozen fun r c I a w _ hs=>by
 obtain⟨I,hs⟩:=hs.fa 0 0 1
 obtain⟨I,hs⟩:=hs.fa 1 0 2
 obtain⟨I,hs⟩:=hs.fa 2 0 3
 obtain⟨I,hs⟩:=hs.fa 3 0 4
 exact⟨_,_,_,hs⟩
end Go.Proofs.YtoeioeimmfpefaaGreat

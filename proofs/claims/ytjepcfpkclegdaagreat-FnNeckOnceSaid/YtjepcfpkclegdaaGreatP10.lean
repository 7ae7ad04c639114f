/- Part 10: contracts of functions, plain facts. -/
import Derived.Test.YtjepcfpkclegdaaGreatP06
import Derived.Test.YtjepcfpkclegdaaGreatP07
import Derived.Test.YtjepcfpkclegdaaGreatP08
import Derived.Test.YtjepcfpkclegdaaGreatP09
set_option linter.unusedVariables false
set_option linter.unusedSimpArgs false
set_option maxRecDepth 100000
set_option maxHeartbeats 4000000
namespace Go.Proofs.YtjepcfpkclegdaaGreat
open Go Go.RowKit
attribute [local irreducible] wpList Code.wp Ok
theorem Oi (n:Int) (hn:gh n):
 Fn Tryz.prog 145 [AV.int n] (AV.bool (lB n)):=by
 refine Fn.go 10 Tryz.func145 Tryz.ntmps145 (λW I a U=>?_)
 refine aF λI a w U=>?_
 refine U.o (.c1 (tG ..)) λU=>?_
 refine aF λI a w U=>?_
 refine U.q .F (SU (.g rfl (λh=>h)) .c) λU=>?_
 refine U.q .F (.cl (Av ..)) λU=>?_
 refine aA λI a w U=>?_
 refine U.rt ?_
 exact bG (by rw[Xm hn,XJ];rfl)
theorem Ha (l:List au):
 Fn Tryz.prog 141 [bm l] (AV.bool (gi l)):=by
 refine Fn.go 40 Tryz.func141 Tryz.ntmps141 (λW I a U=>?_)
 have hle:=U.cW (t:=0) rfl
 refine aU λI a w U=>?_
 refine St.lo (σ:=Nat) (run 3 2 (run 30 7 [])) ⟨λk=>[(7,AV.int k)],λk=>[],λk=>k<=l.length/\∀i,i<k->(eQ lZ dZ l) i=true⟩ (λk=>l.length-k) 0 U ?aJ ?aK
 case aJ=>exact⟨by simp,λi hi=>by omega⟩
 case aK=>
  rintro k I a w aj U
  obtain⟨hk,aN⟩:=aj
  refine ai λI a w U=>?_
  refine cz (λae=>?_) λae=>?_
  ·refine bk λI a w U=>?_
   refine U.alloc rfl cH fL λb4 I a w U=>?_
   refine aA λI a w U=>?_
   obtain⟨I,U⟩:=U.fb 0 4
   refine U.dk ?_
   refine bT ?_
   refine .o (.c1 (Au ..)) ?_
   refine dq ?_
   refine .q .F (.cl (yq ..)) ?_
   refine wv ?_
   refine .q .T2 (.cl (CK ..)) ?_
   refine cD ?_
   refine .nil ?_
   intro I a w U
   refine aY ?_
   refine U.cd (λah=>?_) λah=>?_
   ·rw[Gn] at ah;replace ah:=nt ah
    refine ai λI a w U=>?_
    refine U.rt ?_
    exact bG (by unfold gi;rw[eB (f:=(eQ lZ dZ l)) ae ah];simp)
   ·rw[Gn] at ah;replace ah:=nf ah
    refine aA λI a w U=>?_
    have U:=U.drop 0
    exact U.ag (k+1) (⟨by omega,fg aN ah⟩)
  ·refine zt ?_
   refine aU λI a w U=>?_
   refine U.rt ?_
   exact bG (by unfold gi;rw[eP aN (by omega),Bool.and_true];simp;try omega)
theorem Hb (m:aC):
 Fn Tryz.prog 116 [m.av] (AV.bool (bO m)):=by
 refine Fn.go 76 Tryz.func116 Tryz.ntmps116 (λW I a U=>?_)
 refine bt λI a w U=>?_
 refine U.o (.cl (jM ..)) λU=>?_
 refine bk λI a w U=>?_
 refine U.q .T (.cl (rP ..)) λU=>?_
 refine bk λI a w U=>?_
 refine U.q .F2 (.cl (AA ..)) λU=>?_
 refine bM λI a w U=>?_
 refine U.q .T (.cl (rP ..)) λU=>?_
 refine bk λI a w U=>?_
 refine U.q .F2 (.cl (AA ..)) λU=>?_
 refine bM λI a w U=>?_
 refine U.q .T (.cl (jM ..)) λU=>?_
 refine bt λI a w U=>?_
 refine U.q .T (.cl (uU ..)) λU=>?_
 refine bt λI a w U=>?_
 refine U.q .T (.cl (Nh ..)) λU=>?_
 refine bt λI a w U=>?_
 refine U.q .T (.cl (jM ..)) λU=>?_
 refine bt λI a w U=>?_
 refine U.q .T (.cl (rQ ..)) λU=>?_
 refine bt λI a w U=>?_
 refine U.q .T (.cl (jM ..)) λU=>?_
 refine bt λI a w U=>?_
 refine U.q .T (.cl (jM ..)) λU=>?_
 refine bt λI a w U=>?_
 refine U.q .T (.cl (u9 ..)) λU=>?_
 refine bt λI a w U=>?_
 refine U.q .T (.cl (u9 ..)) λU=>?_
 refine bt λI a w U=>?_
 refine U.q .T (.cl (Gp ..)) λU=>?_
 refine aA λI a w U=>?_
 refine U.rt ?_
 rfl
theorem Oj:∀{a b:List au} {last:Int},dI last a=true->dI last b=true->(∀key,bx a key=bx b key)->a=b
 |[],[],_,_,_,_=>rfl
 |[],e::r,_,_,h,he=>by
  have:=he e.key
  rw[lJ,if_pos rfl] at this
  simp only[dI,Bool.and_eq_true] at h
  have h1:=om h.1.2
  rw[<-this] at h1
  simp[bx] at h1
 |e::r,[],_,h,_,he=>by
  have:=he e.key
  rw[lJ,if_pos rfl] at this
  simp only[dI,Bool.and_eq_true] at h
  have h1:=om h.1.2
  rw[this] at h1
  simp[bx] at h1
 |e::r,e'::r',last,h,h',he=>by
  have g:=h
  have g':=h'
  simp only[dI,Bool.and_eq_true] at h h'
  have bj:∀{e e':au} {r r':List au},db e.aq=true->dI e'.key r'=true->(∀key,bx (e::r) key=bx (e'::r') key)->¬e.key<e'.key:=λ{e e' r r'} U hr he bw=>by
   have:=he e.key
   rw[lJ,if_pos rfl,lJ,if_neg (by omega),yf hr (by omega)] at this
   have h1:=om U
   rw[this] at h1;simp at h1
  have hk:e.key=e'.key:=by
   have h1:=bj h.1.2 h'.2 he
   have h2:=bj h'.1.2 h.2 λkey=>(he key).symm
   omega
  have bc:e.aq=e'.aq:=by
   have:=he e.key
   rwa[lJ,if_pos rfl,lJ,if_pos hk.symm] at this
  have hr:r=r':=by
   rw[<-hk] at h'
   refine Oj h.2 h'.2 λkey=>?_
   have:=he key
   rw[lJ,lJ,<-hk] at this
   by_cases m5:e.key=key
   ·rw[yf h.2 (by omega),yf h'.2 (by omega)]
   ·rwa[if_neg m5,if_neg m5] at this
  obtain⟨k1,s1⟩:=e
  obtain⟨k2,s2⟩:=e'
  simp at hk bc
  rw[hk,bc,hr]
theorem Ol {a b:cw} (ha:sd a) (hb:sd b):sd (du a b):=by unfold du;split<;>assumption
def qM:List Answer->Int->cw
 |[],_=>eV
 |a::r,key=>du (if a.yes=true/\a.key=key then a.be.aq else eV) (qM r key)
theorem AJ:∀{l:List Answer},(∀a∈l,dB a=true)->∀key,sd (qM l key)
 |[],_,_=>Or.inl rfl
 |a::r,h,key=>by
  refine Ol ?_ (AJ (l:=r) (λb hb=>h b (by simp[hb])) key)
  split
  ·rename_i hy
   exact Or.inr (jk (pJ (h a (by simp)) hy.1).1).2.1
  ·exact Or.inl rfl
theorem tU (l:List aB) (key:Int) (st:cw):
 Fn Tryz.prog 164 [bX l,AV.int key,st.av] (AV.dx [((kz l ⟨key,st⟩).getD default).av,AV.bool (kz l ⟨key,st⟩).isSome]):=by
 refine Fn.go 41 Tryz.func164 Tryz.ntmps164 (λW I a U=>?_)
 have hle:=U.cW (t:=0) rfl
 refine bH λI a w U=>?_
 refine U.alloc rfl bA dE λb6 I a w U=>?_
 refine aF λI a w U=>?_
 refine U.o (.cl (u9 ..)) λU=>?_
 refine ai λI a w U=>?_
 refine U.cd (λae=>?_) λae=>?_
 ·replace ae:=nt ae
  refine zt ?_
  refine U.o (.bd dE bf.nil) λU=>?_
  refine aA λI a w U=>?_
  refine U.ret rfl (.cons (.sx 0) (.cons (.t rfl) aX.nil)) ?_
  exact(by rw[Wu ae];rfl)
 ·replace ae:=nf ae
  refine ai λI a w U=>?_
  refine St.lo (σ:=Nat) (run 2 7 (run 27 13 [])) ⟨λk=>[(8,AV.int k)],λk=>[Own.box b6 43 [AV.val (.int .i64 0),AV.val (.int .i64 0),AV.val (.int .i64 0),AV.val (.int .i64 0),AV.val (.int .i64 0),AV.val (.int .i64 0),AV.rows 3 []]],λk=>k<=l.length/\∀i,i<k->l6 ⟨key,st⟩ (ab l i)=false⟩ (λk=>l.length-k) 0 U ?aJ ?aK
  case aJ=>exact⟨Nat.zero_le _,λi hi=>by omega⟩
  case aK=>
   rintro k I a w aj U
   obtain⟨hk,aN⟩:=aj
   refine aU λI a w U=>?_
   refine cz (λah=>?_) λah=>?_
   ·refine zt ?_
    refine U.dk ?_
    refine qn ?_
    refine .q .T (mM [_,_] [_,_] og rfl rfl .ag .ag) ?_
    refine bn ?_
    refine .nil ?_
    intro I a w U
    refine aY ?_
    refine U.cd (λal=>?_) λal=>?_
    ·rw[CB] at al
     refine bt λI a w U=>?_
     refine U.o (bY (pE _ (by have:=W4 (uW ae ah);omega)) (aw (.t rfl) aL)) λU=>?_
     refine aA λI a w U=>?_
     refine U.ret rfl (.cons (.sx 0) (.cons (.t rfl) aX.nil)) ?_
     exact(by rw[Ws ae ah aN al];rfl)
    ·rw[CB] at al
     refine aI λI a w U=>?_
     exact U.ag (k+1) (⟨ah,λi h1=>by rcases Nat.lt_succ_iff_lt_or_eq.1 h1 with h|h;exact aN i h;rw[h];exact al⟩)
   ·refine zt ?_
    refine U.o (.bd dE bf.nil) λU=>?_
    refine aA λI a w U=>?_
    refine U.ret rfl (.cons (.sx 0) (.cons (.t rfl) aX.nil)) ?_
    exact(by rw[Wt (by omega) aN];rfl)
theorem Om:∀{l:List aB} {v:aB},(∀x∈l,x.aT≠v.aT)->qG l v=fk l v
 |[],_,_=>rfl
 |x::r,v,h=>by
  have hx:=h x (by simp)
  have ih:=Om (l:=r) (v:=v) λy hy=>h y (by simp[hy])
  unfold fk qG
  cases h1:gy v x
  ·cases h2:gy x v
   ·exact absurd (CV h2 h1) hx
   ·simp[ih]
  ·rw[show gy x v=false from XO h1];simp
theorem Hc {l:List aB} (h:cn l=true):VS l:=by
 unfold cn at h
 rw[Bool.and_eq_true,gx] at h
 refine NP (R:=λa b=>gy a b=true) (λh1 h2=>yk h1 h2) λi h0 hi=>?_
 have:=h.2 i hi
 unfold eQ at this
 rw[Bool.and_eq_true,Bool.or_eq_true,decide_eq_true_eq] at this
 rcases this.2 with h3|h3
 ·omega
 ·exact h3
def lO (a b:dG):Bool:=tz a b||tz b a||va a b||va b a
def jm (s:Server) (m:aC):List aC:=
 if aQ m.aR 10 11&&decide (1<=m.call)&&gv s m.key then
  if dL m.aq then[nF s m (fA s.ao m.key)]
  else match dU s.ao ⟨m.key,m.aq⟩ with
   |some v=>[nF s m (some v)]
   |none=>[]
 else[]
def oC (s:Server) (m:aC):List aC:=if(dU s.ao ⟨m.key,m.aq⟩).isSome&&(m.aR==fl s.site) then[nG s m] else[]
def kH (s:Server) (d:au):List aC:=
 if dX s d.key==1 then[{cg with kind:=5,aR:=s.site,to:=2-2*bL s.site,ao:=(dU s.ao d).toList},{cg with kind:=5,aR:=s.site,to:=2-2*bL s.site+1,ao:=(dU s.ao d).toList}] else[]
def kJ (s:Server):List aC:=if s.up then(leaving s).map (λi:Nat=>fM s (i:Int))++(s.aD.map (kH s)).flatten++(wX s).map (mV s) else[]
def eI (s:Server) (slot:Int):Server×aC×Bool:=if mZ s slot then(ka s slot,fM (ka s slot) slot,true) else(s,cg,false)
def jP (q:Call):List aC:=if gQ q then((asks q).map (kb q)).flatten else[]
def fI (w:aE) (e:Ev):aE×Bool:=
 let s:=ab w.ax e.at_.toNat
 if e.kind=7 then({w with ax:=w.ax.set e.at_.toNat (o5 s)},!s.up)
 else if e.kind=6 then({w with ax:=w.ax.set e.at_.toNat (ou s)},s.up)
 else if e.kind=8 then({w with ar:=eF w.ar (kJ s)},s.up)
 else if mZ s e.slot then({w with ax:=w.ax.set e.at_.toNat (ka s e.slot),ar:=eF w.ar [fM (ka s e.slot) e.slot]},true) else(w,false)
theorem Yt (s:Server) (key an call:Int):
 Fn Tryz.prog 234 [s.av,AV.int key,AV.int an,AV.int call] (AV.dx [((kG s key an call).getD default).av,AV.bool (kG s key an call).isSome]):=by
 refine Fn.go 52 Tryz.func234 Tryz.ntmps234 (λW I a U=>?_)
 have lens:s.aG.length<=9223372036854775807/\s.ao.length<=9223372036854775807/\s.waits.length<=9223372036854775807/\s.aD.length<=9223372036854775807/\s.bl.length<=9223372036854775807:=⟨U.ln 0 2,U.ln 0 3,U.ln 0 4,U.ln 0 5,U.ln 0 6⟩
 refine bH λI a w U=>?_
 refine U.alloc rfl bA dE λb8 I a w U=>?_
 refine aA λI a w U=>?_
 refine St.lo (σ:=Nat) (run 42 9 []) ⟨λk=>[(10,AV.int k)],λk=>[Own.box b8 43 [AV.val (.int .i64 0),AV.val (.int .i64 0),AV.val (.int .i64 0),AV.val (.int .i64 0),AV.val (.int .i64 0),AV.val (.int .i64 0),AV.rows 3 []]],λk=>k<=s.ao.length/\∀i,i<k->(o4 s key an call) (ab s.ao i)=false⟩ (λk=>s.ao.length-k) 0 U ?aJ ?aK
 case aJ=>exact⟨Nat.zero_le _,λi hi=>by omega⟩
 case aK=>
  rintro k I a w aj U
  obtain⟨hk,aN⟩:=aj
  refine ck λI a w U=>?_
  refine cz (λae=>?_) λae=>?_
  ·refine bM λI a w U=>?_
   refine U.alloc rfl bA dE λma I a w U=>?_
   refine ai λI a w U=>?_
   obtain⟨I,U⟩:=U.fb 1 11
   refine U.dk ?_
   refine lG ?_
   refine dq ?_
   refine .q .T (.cl (qw ..)) ?_
   refine bT ?_
   refine .q .T (.cl (qw ..)) ?_
   refine bT ?_
   refine .nil ?_
   intro I a w U
   refine aY ?_
   refine U.cd (λah=>?_) λah=>?_
   ·change(o4 s key an call) (ab s.ao k)=true at ah
    refine aI λI a w U=>?_
    refine U.ret rfl (.cons (.sx 0) (.cons (.t rfl) aX.nil)) ?_
    exact(by rw[show kG s key an call=some (ab s.ao k) from NV ae aN ah];rfl)
   ·change(o4 s key an call) (ab s.ao k)=false at ah
    refine aI λI a w U=>?_
    have U:=U.drop 1
    exact U.ag (k+1) (⟨ae,λi h1=>by rcases Nat.lt_succ_iff_lt_or_eq.1 h1 with h|h;exact aN i h;rw[h];exact ah⟩)
  ·refine zt ?_
   refine U.o (.bd dE bf.nil) λU=>?_
   refine aA λI a w U=>?_
   refine U.ret rfl (.cons (.sx 0) (.cons (.t rfl) aX.nil)) ?_
   exact(by rw[show kG s key an call=none from NW (by omega) aN];rfl)
theorem bF.On {s:Server} (h:bF s) {slot:Int} {y:dG} (h0:0<=slot) (hy:qz y=true) (hv:∀v∈s.ao,cQ v.key=slot->y.dH≠0) (hw:∀v∈s.waits,cQ v.key=slot->y.dH≠0) (h3:slot<3):bF {s with aG:=s.aG.set slot.toNat y}:=by
 have key:∀v:aB,dM v=true->dX s v.key≠0->(cQ v.key=slot->y.dH≠0)->dX {s with aG:=s.aG.set slot.toNat y} v.key≠0:=λv Yu h1 h2=>by
  by_cases U:cQ v.key=slot
  ·rw[XX U h0 (by rw[h.aG];omega)];exact h2 U
  ·rw[XW U h0 (qA Yu)];exact h1
 refine⟨h.site,by show(s.aG.set _ _).length=3;rw[List.length_set];exact h.aG,h.ao,h.waits,h.aD,h.bl,h.up,λx hx=>?_,λv jn=>key v (gu h.ao v jn) (h.here v jn) (hv v jn),λv jn=>key v (gu h.waits v jn) (h.pM v jn) (hw v jn),h.pN,h.apart,h.o6⟩
 rcases List.mem_or_eq_of_mem_set hx with hx|rfl
 ·exact h.aW x hx
 ·exact hy
theorem Oo {s:Server} {m:aC} (h:bF s) (hm:bO m=true) {st:cw} (U:db st=true):bO (nE s m st)=true:=by
 have p:=mW hm
 exact tO ⟨by simp[nE],by simp[nE]⟩ (pG h.site) p.2.1 p.2.2.2.1 p.2.2.2.2.1 (Am U) ⟨by simp[nE,cg],by simp[nE,cg]⟩ rS ⟨by simp[nE,cg],by simp[nE,cg]⟩ ⟨by simp[nE,cg],by simp[nE,cg]⟩ pH pH wE
theorem Oq {s:Server} {m:aC} (h:bF s) (hm:bO m=true) {v:aB} (hv:dM v=true):bO (mU s m v)=true:=by
 have p:=mW hm
 have q:=jk hv
 exact tO ⟨by simp[mU],by simp[mU]⟩ (pG h.site) p.2.1 ⟨by simp[mU,cg],by simp[mU,cg]⟩ q.1 (Am q.2.1) ⟨by simp[mU,cg],by simp[mU,cg]⟩ rS ⟨by simp[mU,cg],by simp[mU,cg]⟩ ⟨by simp[mU,cg],by simp[mU,cg]⟩ pH pH wE
theorem Yv {s:Server} {m:aC} (h:bF s) (hm:bO m=true):∀w∈oC s m,bO w=true:=by
 have p:=mW hm
 unfold oC
 split
 ·intro w hw
  obtain rfl:w=_:=by simpa using hw
  exact tO ⟨by simp[nG],by simp[nG]⟩ (pG h.site) p.2.1 ⟨by simp[nG,cg],by simp[nG,cg]⟩ p.2.2.2.2.1 p.2.2.2.2.2.1 ⟨by simp[nG,cg],by simp[nG,cg]⟩ rS ⟨by simp[nG,cg],by simp[nG,cg]⟩ ⟨by simp[nG,cg],by simp[nG,cg]⟩ pH pH wE
 ·intro w hw;simp at hw
theorem Ot {s:Server} {m:aC} (h:bF s) (hm:bO m=true):bO (oq s m)=true:=by
 have p:=mW hm
 exact tO ⟨by simp[oq],by simp[oq]⟩ (pG h.site) p.2.1 ⟨by simp[oq,cg],by simp[oq,cg]⟩ GY An ⟨by simp[oq,cg],by simp[oq,cg]⟩ rS p.2.2.2.2.2.2.2.2.1 p.2.2.2.2.2.2.2.2.2.1 pH pH wE
theorem Db {q:Call} {m:aC} (hm:bO m=true) (hv:m.yes=true->m.ao.length=1/\(ab m.ao 0).key=m.key):dB (dN m)=true:=by
 unfold dB dN
 dsimp only
 cases hy:m.yes
 ·simp[pD]
 ·obtain⟨h1,h2⟩:=hv hy
  have:=gu (oB hm).1 _ (aV (l:=m.ao) (k:=0) (by omega))
  simp[this,h2]
theorem Yw {n:Int} (h:cL n=true):rN n 1=fl n:=by
 have:=m0.1 h
 obtain rfl|rfl|rfl|rfl:n=0\/n=1\/n=2\/n=3:=by omega
 all_goals rfl
theorem Hd (n:Int) (h:cL n=true):
 Fn Tryz.prog 191 [AV.int n] (AV.int (fl n)):=by
 refine Fn.go 5 Tryz.func191 Tryz.ntmps191 (λW I a U=>?_)
 refine aF λI a w U=>?_
 refine U.o (Ls .tt .c (λ_=>by have:=m0.1 h;omega)) λU=>?_
 refine ai λI a w U=>?_
 refine U.rt ?_
 exact fD (Yw h)
theorem Yx {u u2:Server} {g2:Bool} {i:Nat} (hf:g2=false->u=u2/\i<=u.waits.length/\(u.ao.length<80->∀j,j<i->ll u (ab u.waits j)=false))
 (ht:g2=true->0<=eL u/\u2=nD u (eL u).toNat):2*u2.waits.length+g2.toNat<2*u.waits.length+true.toNat:=by
 cases g2 with
 |true=>
  obtain⟨h1,rfl⟩:=ht rfl
  have:=(yw h1).1
  rw[Gx this];simp;omega
 |false=>
  obtain⟨rfl,h1,h2⟩:=hf rfl
  simp
theorem Yy {s:Server} (h:eK s) {i:Nat} (hi:i<s.waits.length) (hn:jw s.ao (ab s.waits i)=false):80<=s.ao.length:=by
 have h1:=gu h.waits _ (aV hi)
 have h2:=h.apart _ (aV hi)
 unfold jw at hn
 rw[h1] at hn
 simp only[Bool.true_and,Bool.and_eq_false_iff,decide_eq_false_iff_not] at hn
 rcases hn with hn|hn
 ·exact absurd h2 hn
 ·omega
theorem Ou (s:Server) (m:aC):((m.aR !=fl s.site)||!jy s ⟨m.key,m.aq⟩||decide (80<=(s.bl.length:Int)))=!((m.aR==fl s.site)&&jy s ⟨m.key,m.aq⟩&&decide (s.bl.length<80)):=by
 have e:decide (80<=(s.bl.length:Int))=!decide (s.bl.length<80):=by rw[Bool.eq_iff_iff];simp;omega
 rw[e];simp[bne]
theorem Ov {l vs:List aB} {k:Nat} (hv:VS vs) (hk:k<vs.length) (hp:placeOf l (ab vs k).aT<0):fk (iJ l (vs.take k)) (ab vs k)=iJ l (vs.take (k+1)):=by
 rw[CQ hk,eH,if_pos]
 refine Ap λx hx=>?_
 rcases yl hx with h|h
 ·obtain⟨i,hi,rfl⟩:=gq h
  have iU:i<k:=by simp at hi;omega
  have e:ab (vs.take k) i=ab vs i:=by unfold ab;simp[List.getD_eq_getElem?_getD,List.getElem?_take,iU]
  rw[e];exact GL hv (by omega) hk (by omega)
 ·exact pQ hp x h
theorem Yz (s:Server) (m:aC):(jm s m).length<=1:=by
 unfold jm
 split
 ·split
  ·simp
  ·split<;>simp
 ·simp
def o8 (s:Server) (k:Nat):List aC:=(tP s k).map λi:Nat=>fM s (i:Int)
theorem Ow {s:Server} {k:Nat} (h:(ab s.aG k).dH=2):o8 s k++[fM s (k:Int)]=o8 s (k+1):=by
 unfold o8;rw[X6 h,List.map_append];rfl
theorem Ox {s:Server} {k:Nat} (h:¬(ab s.aG k).dH=2):o8 s k=o8 s (k+1):=by
 unfold o8;rw[X7 h]
theorem He (s:Server) (k:Nat):(o8 s k).length<=k:=by unfold o8;rw[List.length_map];exact X8 s k
def jA (s:Server) (k:Nat):List aC:=o8 s 3++((s.aD.take k).map (kH s)).flatten
theorem Dc {s:Server} {k:Nat} (h:k<s.aD.length):jA s (k+1)=jA s k++kH s (ab s.aD k):=by
 unfold jA;rw[dW h,List.map_append,List.flatten_append,List.append_assoc];simp
theorem Oy (s:Server) (d:au):(kH s d).length<=2:=by unfold kH;split<;>simp
theorem yD (s:Server):∀k,k<=s.aD.length->(jA s k).length<=3+2*k
 |0,_=>by have:=He s 3;simp[jA];omega
 |k+1,h=>by have:=yD s k (by omega);have:=Oy s (ab s.aD k);rw[Dc (by omega),List.length_append];omega
theorem Oz {s:Server} {d:au} (h:¬dX s d.key=1):kH s d=[]:=by unfold kH;rw[if_neg (by simpa using h)]
theorem YA {s:Server} {d:au} (h:dX s d.key=1):(kH s d).length=2:=by unfold kH;rw[if_pos (by simpa using h)];rfl
theorem YB {s:Server} {d:au} {v:aB} (h:dX s d.key=1) (hv:dU s.ao d=some v) {j:Nat} (hj:j<2):ab (kH s d) j={cg with kind:=5,aR:=s.site,to:=2-2*bL s.site+(j:Int),ao:=[v]}:=by
 unfold kH;rw[if_pos (by simpa using h),hv]
 match j,hj with
 |0,_=>show _={cg with kind:=5,aR:=s.site,to:=2-2*bL s.site+(0:Int),ao:=[v]};rw[Int.add_zero];rfl
 |1,_=>rfl
theorem yE {s:Server} (h:∀v∈s.waits,v.aO.length<=6):∀i,i<=s.waits.length->(nM s i).length<=6*i
 |0,_=>by simp[nM]
 |i+1,hi=>by
  have h1:=yE h i (by omega)
  have h2:=AI s i (ab s.waits i).aO.length
  have h3:=h _ (aV (l:=s.waits) (k:=i) (by omega))
  rw[<-G1 (by omega) (Nat.le_refl _)];omega
def oD (s:Server) (l:List au):List aC:=jA s s.aD.length++l.map (mV s)
theorem OA (s:Server) (l:List au) (d:au):oD s l++[mV s d]=oD s (l++[d]):=by unfold oD;simp
theorem Hg {s:Server} (hu:s.up=true) (h3:s.aG.length=3):oD s (wX s)=kJ s:=by
 unfold oD jA o8 kJ
 rw[hu,if_pos rfl,List.take_length,<-h3,X5]
theorem OB {s:Server} (hg:bF s):(kJ s).length<=1000:=by
 by_cases hu:s.up=true
 ·have h1:=yD s s.aD.length (Nat.le_refl _)
  have h2:=jz hg.aD
  have h3:=yE (s:=s) (λv hv=>gR (jk (gu hg.waits v hv)).2.2) s.waits.length (Nat.le_refl _)
  have h4:=fV hg.waits
  rw[G2 s (Nat.le_refl _)] at h3
  rw[<-Hg hu hg.aG]
  unfold oD
  rw[List.length_append,List.length_map];omega
 ·unfold kJ;rw[if_neg hu];simp
theorem OC {s:Server} (hu:s.up=false):kJ s=[]:=by unfold kJ;rw[hu];rfl
theorem OD {s:Server} {k:Nat} (h:k=3):o8 s k=jA s 0:=by subst h;simp[jA]
theorem OE {s:Server} {k:Nat} (h:k=s.aD.length):jA s k=oD s (nM s 0):=by
 subst h;unfold oD;rw[show nM s 0=[] from rfl];simp
theorem OF {s:Server} {k j:Nat} {v:aB} (bc:dX s (ab s.aD k).key=1) (hv:dU s.ao (ab s.aD k)=some v) (hj:j<2):jA s k++(kH s (ab s.aD k)).take j++[{cg with kind:=5,aR:=s.site,to:=2-2*bL s.site+(j:Int),ao:=[v]}]=jA s k++(kH s (ab s.aD k)).take (j+1):=by
 rw[List.append_assoc,<-YB bc hv hj,<-dW (by rw[YA bc];exact hj)]
theorem OG {s:Server} {k j:Nat} (hk:k<s.aD.length) (hj:2<=j):jA s k++(kH s (ab s.aD k)).take j=jA s (k+1):=by
 rw[Dc hk,List.take_of_length_le (by have:=Oy s (ab s.aD k);omega)]
theorem YC {s:Server} {k:Nat} {v:aB} (hk:k<s.aD.length) (AK:v.key=(ab s.aD k).key) (h:¬(ab s.aG (cQ v.key).toNat).dH=1):jA s k=jA s (k+1):=by
 rw[Dc hk,Oz (by unfold dX;rw[<-AK];exact h),List.append_nil]
theorem YD {l:List aB} {d:au} {v:aB} (h:dU l d=some v):0<=placeOf l d/\placeOf l d<l.length/\ab l (placeOf l d).toNat=v:=by
 unfold dU at h
 split at h
 ·rename_i hp
  have:=(lL hp).1
  exact⟨hp,by omega,Option.some.inj h⟩
 ·cases h
theorem YE {s:Server} {k:Nat} (hk:k<s.aD.length) (h:gv s (ab s.aD k).key=false) (hb:dp (ab s.aD k).key=true):jA s k=jA s (k+1):=by
 unfold gv at h
 rw[hb,Bool.true_and] at h
 rw[Dc hk,Oz (by simpa using h),List.append_nil]
theorem YF (site:Nat) (h4:site<4):
 Fn Tryz.prog 58 [AV.int (site:Int)] ((wY site).av):=by
 refine Fn.go 33 Tryz.func58 Tryz.ntmps58 (λW I a U=>?_)
 have z3:cL (site:Int)=true:=m0.2 (by omega)
 refine sr<|U.alloc rfl cm dF λb2 I a w U=>?_
 refine bH λI a w U=>?_
 refine U.o (.c1 (tG ..)) λU=>?_
 refine ai λI a w U=>?_
 refine U.cd (λae=>?_) λae=>?_
 ·exfalso;rw[z3] at ae;cases ae
  skip
 ·refine bH λI a w U=>?_
  refine U.o (.bd Cr (.k (.k bf.nil))) λU=>?_
  refine U.alloc rfl cm Cr λb3 I a w U=>?_
  refine ai λI a w U=>?_
  have U:=U.gC (sz:=2) 104
  refine ai λI a w U=>?_
  refine St.lo (σ:=Nat×Value) (4::(run 21 11 [])) ⟨λ⟨k,v⟩=>[(11,AV.int k)],λ⟨k,v⟩=>[Own.box b2 61 [AV.val (.int .i64 0),AV.val (.bool false),AV.rows 2 [],AV.rows 7 [],AV.rows 7 [],AV.rows 3 [],AV.rows 3 []],Own.box b3 61 [AV.int (site:Int),AV.bool true,AV.val v,AV.val (.slice none 0 0),AV.val (.slice none 0 0),AV.val (.slice none 0 0),AV.val (.slice none 0 0)],Own.row v 104 2 ((rT site k).map dG.cells)],λ⟨k,v⟩=>k<=3⟩ (λ⟨k,v⟩=>3-k) (0,.slice none 0 0) U ?aJ ?aK
  case aJ=>exact Nat.zero_le _
  case aK=>
   rintro⟨k,v⟩ I a w aj U
   have hk:k<=3:=aj
   dsimp only at U
   refine ai λI a w U=>?_
   refine cz (λah=>?_) λah=>?_
   ·refine bk λI a w U=>?_
    refine U.o (tg .tt .c (λ_=>by omega)) λU=>?_
    refine U.m λU=>?_
    refine U.o (tg .tt .c (λ_=>by omega)) λU=>?_
    refine ai λI a w U=>?_
    refine cz (λal=>?_) λal=>?_
    ·refine aF λI a w U=>?_
     refine U.o (.bd oe (.k (.k bf.nil))) λU=>?_
     refine U.o (.li [dG.cells ⟨1,1⟩] Ct (.u .nil)) λU=>?_
     refine U.append 2 rfl fU er rfl .tt .r rfl (by rw[List.length_map,CF];simp;omega) λDd a w U=>?_
     refine U.o .fv λU=>?_
     try have akg:=U.eJ 2 rfl
     refine aI λI a w U=>?_
     rw[cA,MH (by simpa using al)] at U
     exact U.ag (k+1,Dd) (by show k+1<=3;omega)
    ·refine aF λI a w U=>?_
     refine U.o (.bd oe bf.nil) λU=>?_
     refine U.o (.li [dG.cells ⟨0,0⟩] Ct (.u .nil)) λU=>?_
     refine U.append 2 rfl fU er rfl .tt .r rfl (by rw[List.length_map,CF];simp;omega) λyF a w U=>?_
     refine U.o .fv λU=>?_
     try have YG:=U.eJ 2 rfl
     refine aI λI a w U=>?_
     rw[cA,MI (by simpa using al)] at U
     exact U.ag (k+1,yF) (by show k+1<=3;omega)
   ·refine wp_exit<|cN<|cN<|gw<|aY<|wp_seq ?_
    obtain⟨I,U⟩:=U.fu 2 2 1
    have U:=U.np (q:=3) 1 rfl rfl (eO 7 _)
    have U:=U.np (q:=4) 1 rfl rfl (eO 7 _)
    have U:=U.np (q:=5) 1 rfl rfl (eO 3 _)
    have U:=U.np (q:=6) 1 rfl rfl (eO 3 _)
    refine aA λI a w U=>?_
    refine U.ret rfl (.cons (.sx 0) aX.nil) ?_
    have lP:k=3:=by omega
    subst lP
    rfl
def pS (q:Call) (k:Nat):List aC:=(((q.keys.take k).filter λk=>decide (cv q k<0)).map λkey=>kb q (wL key)).flatten
def sf (q:Call) (k:Nat):List aC:=pS q q.keys.length++((q.aP.take k).map λd=>kb q (wM d)).flatten
theorem OH {q:Call} {k:Nat} (h:k<q.keys.length) (hg:cv q (ab q.keys k)<0):pS q k++kb q (wL (ab q.keys k))=pS q (k+1):=by
 unfold pS;rw[oA h (by simpa using hg),List.map_append,List.flatten_append];simp
theorem OI {q:Call} {k:Nat} (h:k<q.keys.length) (hg:¬cv q (ab q.keys k)<0):pS q k=pS q (k+1):=by
 unfold pS;rw[ot h (by simpa using hg)]
theorem YH {q:Call} {k:Nat} (h:k=q.keys.length):pS q k=sf q 0:=by subst h;simp[sf]
theorem OJ {q:Call} {k:Nat} (h:k<q.aP.length):sf q k++kb q (wM (ab q.aP k))=sf q (k+1):=by
 unfold sf;rw[dW h,List.map_append,List.flatten_append,List.append_assoc];simp
theorem Hh (q:Call):∀k,k<=q.keys.length->(pS q k).length<=2*k
 |0,_=>by simp[pS]
 |k+1,h=>by
  have ih:=Hh q k (by omega)
  by_cases hg:cv q (ab q.keys k)<0
  ·rw[<-OH (by omega) hg,List.length_append];show _+2<=_;omega
  ·rw[<-OI (by omega) hg];omega
theorem OK (q:Call):∀k,k<=q.aP.length->(sf q k).length<=2*q.keys.length+2*k
 |0,_=>by have:=Hh q q.keys.length (Nat.le_refl _);simp[sf];omega
 |k+1,h=>by
  have ih:=OK q k (by omega)
  rw[<-OJ (by omega),List.length_append];show _+2<=_;omega
theorem YI {q:Call} {k:Nat} (hw:gQ q=true) (hk:¬q.kind=1) (h:q.aP.length<=k):sf q k=jP q:=by
 unfold jP asks sf pS
 rw[if_pos hw,if_neg hk,List.take_length,List.take_of_length_le h,List.map_append,List.flatten_append,List.map_map,List.map_map]
 rfl
def pb (q:Call) (k:Nat):List aC:=(((asks q).take k).map (kb q)).flatten
theorem OL {q:Call} {k:Nat} (h:k<q.keys.length) (hg:cv q (ab q.keys k)<0):pK q k++[wL (ab q.keys k)]=pK q (k+1):=by
 unfold pK;rw[oA h (by simpa using hg),List.map_append];rfl
theorem Hi (q:Call):∀k,k<=q.keys.length->(pK q k).length<=k
 |0,_=>by simp[pK]
 |k+1,h=>by
  have ih:=Hi q k (by omega)
  by_cases hg:cv q (ab q.keys k)<0
  ·rw[<-OL (by omega) hg,List.length_append];show _+1<=_;omega
  ·rw[<-Nc (by omega) hg];omega
theorem OM (q:Call) (k:Nat):(rZ q k).length<=q.keys.length+q.aP.length:=by
 have:=Hi q _ (Nat.le_refl _)
 unfold rZ;rw[List.length_append,List.length_map,List.length_take];omega
theorem Hj {q:Call}:(asks q).length<=q.keys.length+q.aP.length+1:=by
 by_cases hk:q.kind=1
 ·unfold asks;rw[if_pos hk];simp
 ·rw[<-GC hk (Nat.le_refl _)];have:=OM q q.aP.length;omega
theorem Hk (q:Call):∀k,k<=(asks q).length->(pb q k).length=2*k
 |0,_=>by simp[pb]
 |k+1,h=>by
  have ih:=Hk q k (by omega)
  unfold pb at ih⊢
  rw[dW (by omega),List.map_append,List.flatten_append,List.length_append,ih];rfl
theorem YJ {q:Call} {k i:Nat} (h:k<(asks q).length) (hi:2<=i):pb q k++(kb q (ab (asks q) k)).take i=pb q (k+1):=by
 unfold pb
 rw[List.take_of_length_le (l:=kb _ _) (by simpa[kb] using hi),dW h,List.map_append,List.flatten_append];simp
theorem ON {q:Call} {k:Nat} (hw:gQ q=true) (h:(asks q).length<=k):pb q k=jP q:=by
 unfold pb jP;rw[if_pos hw,List.take_of_length_le h]
def qN (q:Call) (k:Nat):List au:=((q.az.take k).filter λa=>!dL (bx (eW q) a.key)&&mT a (bx (eW q) a.key)).map λa=>⟨a.key,bx (eW q) a.key⟩
theorem YK {q:Call} {k:Nat} (h:k<q.az.length) (hp:(!dL (bx (eW q) (ab q.az k).key)&&mT (ab q.az k) (bx (eW q) (ab q.az k).key))=true):qN q k++[⟨(ab q.az k).key,bx (eW q) (ab q.az k).key⟩]=qN q (k+1):=by
 unfold qN;rw[oA h (by simpa using hp),List.map_append];rfl
theorem YL {q:Call} {k:Nat} (h:k<q.az.length) (hp:(!dL (bx (eW q) (ab q.az k).key)&&mT (ab q.az k) (bx (eW q) (ab q.az k).key))=false):qN q k=qN q (k+1):=by
 unfold qN;rw[ot h (by simpa using hp)]
theorem YM (q:Call) (k:Nat):(qN q k).length<=q.az.length:=by
 unfold qN;rw[List.length_map];exact Nat.le_trans (List.length_filter_le ..) (by rw[List.length_take];omega)
theorem YN (q:Call) (n:Value) (key:Int):
 Fn Tryz.prog 139 [q.yz n,AV.int key] (AV.int (cv q key)):=by
 refine Fn.go 9 Tryz.func139 Tryz.ntmps139 (λW I a U=>?_)
 refine bH λI a w U=>?_
 refine U.o (xL .tt (by first|exact jR rfl|exact j0|exact j1|exact j6)) λU=>?_
 refine bk λI a w U=>?_
 refine U.o (mN (aw .tt aL)) λU=>?_
 refine U.o (.cl (Gs q.az (tE key) _ (λv _=>Fn.val (M0 v key)))) λU=>?_
 refine ai λI a w U=>?_
 refine U.rt ?_
 rfl
theorem AL {l:List aB} {d:au} (h:decide (placeOf l d<0)=false):0<=placeOf l d/\placeOf l d<l.length/\dU l d=some (ab l (placeOf l d).toNat):=by
 have hp:0<=placeOf l d:=by simpa using h
 have ha:dU l d=some (ab l (placeOf l d).toNat):=by unfold dU;rw[if_pos hp]
 refine⟨hp,?_,ha⟩
 have:=(lL hp).1
 omega
theorem YO {w:aE} {e:Ev} (h:e.kind=7):fI w e=({w with ax:=w.ax.set e.at_.toNat (o5 (ab w.ax e.at_.toNat))},!(ab w.ax e.at_.toNat).up):=by unfold fI;rw[if_pos h]
theorem YP {w:aE} {e:Ev} (h:e.kind=6):fI w e=({w with ax:=w.ax.set e.at_.toNat (ou (ab w.ax e.at_.toNat))},(ab w.ax e.at_.toNat).up):=by unfold fI;rw[if_neg (by omega),if_pos h]
theorem YQ {w:aE} {e:Ev} (h:e.kind=8):fI w e=({w with ar:=eF w.ar (kJ (ab w.ax e.at_.toNat))},(ab w.ax e.at_.toNat).up):=by unfold fI;rw[if_neg (by omega),if_neg (by omega),if_pos h]
theorem De {s:Server} {slot:Int} (h:(eI s slot).2.2=true):mZ s slot=true:=by unfold eI at h;split at h;assumption;cases h
theorem Hl {s:Server} {slot:Int} (h:(eI s slot).2.2=false):mZ s slot=false:=by unfold eI at h;split at h;cases h;rename_i hh;simpa using hh
theorem Hm {s:Server} {slot:Int} (h:mZ s slot=true):eI s slot=(ka s slot,fM (ka s slot) slot,true):=by unfold eI;rw[if_pos h]
theorem YR {s:Server} {slot:Int} (h:mZ s slot=false):eI s slot=(s,cg,false):=by unfold eI;rw[h];rfl
theorem YS {w:aE} {e:Ev} (h7:¬e.kind=7) (h6:¬e.kind=6) (h8:¬e.kind=8) (hm:(eI (ab w.ax e.at_.toNat) e.slot).2.2=true):fI w e=({w with ax:=w.ax.set e.at_.toNat (eI (ab w.ax e.at_.toNat) e.slot).1,ar:=eF w.ar [(eI (ab w.ax e.at_.toNat) e.slot).2.1]},(eI (ab w.ax e.at_.toNat) e.slot).2.2):=by
 unfold fI;rw[if_neg h7,if_neg h6,if_neg h8,if_pos (De hm),Hm (De hm)]
theorem YT {w:aE} {e:Ev} (h7:¬e.kind=7) (h6:¬e.kind=6) (h8:¬e.kind=8) (hm:(eI (ab w.ax e.at_.toNat) e.slot).2.2=false):fI w e=({w with ax:=w.ax.set e.at_.toNat (eI (ab w.ax e.at_.toNat) e.slot).1},(eI (ab w.ax e.at_.toNat) e.slot).2.2):=by
 unfold fI;rw[if_neg h7,if_neg h6,if_neg h8,if_neg (by rw[Hl hm];simp),YR (Hl hm),Xy]
theorem Hn (l:List Call) (t:Int) (s r z:Value) (an:Int):
 Fn Tryz.prog 125 [AV.ptr [AV.int t,AV.val s,AV.val r,bK l,AV.val z],AV.int an] (AV.int (cq l an)):=by
 refine Fn.go 11 Tryz.func125 Tryz.ntmps125 (λW I a U=>?_)
 refine zt ?_
 refine U.o (xL .tt (by first|exact jR rfl|exact j0|exact j1|exact j6)) λU=>?_
 refine bM λI a w U=>?_
 refine U.o (mN (aw .tt aL)) λU=>?_
 refine U.o (.cl (MQ l (uX an) _ (λq _=>Fn.val (WE q an)))) λU=>?_
 refine ai λI a w U=>?_
 refine U.rt ?_
 rfl
theorem YU {x:aE} {e:Ev} (h:((ab x.ax e.at_.toNat).up==(e.kind==7))=true):(fI x e).2=false:=by
 unfold fI
 dsimp only
 by_cases h7:e.kind=7
 ·rw[if_pos h7];rw[h7] at h;simpa using h
 ·have hu:(ab x.ax e.at_.toNat).up=false:=by rw[show(e.kind==7)=false by simpa using h7] at h;simpa using h
  rw[if_neg h7]
  split
  ·exact hu
  ·split
   ·exact hu
   ·rw[show mZ (ab x.ax e.at_.toNat) e.slot=false by unfold mZ;rw[hu];rfl];rfl
theorem YV {x:aE} {e:Ev} (h:((ab x.ax e.at_.toNat).up==(e.kind==7))=false) (hk:e.kind=6):fI x e=({x with ax:=x.ax.set e.at_.toNat (ou (ab x.ax e.at_.toNat))},true):=by
 unfold fI;dsimp only;rw[if_neg (by omega),if_pos hk,NB h (by omega)]
theorem YW {x:aE} {e:Ev} (h:((ab x.ax e.at_.toNat).up==(e.kind==7))=false) (hk:e.kind=7):fI x e=({x with ax:=x.ax.set e.at_.toNat (o5 (ab x.ax e.at_.toNat))},true):=by
 unfold fI;dsimp only;rw[if_pos hk,Yg h hk];rfl
theorem YX {x:aE} {e:Ev} (h:((ab x.ax e.at_.toNat).up==(e.kind==7))=false) (hk:e.kind=8):fI x e=({x with ar:=eF x.ar (kJ (ab x.ax e.at_.toNat))},true):=by
 unfold fI;dsimp only;rw[if_neg (by omega),if_neg (by omega),if_pos hk,NB h (by omega)]
theorem YY {x:aE} {e:Ev} (hk:e.kind=9) (hm:(eI (ab x.ax e.at_.toNat) e.slot).2.2=true):fI x e=({x with ax:=x.ax.set e.at_.toNat (eI (ab x.ax e.at_.toNat) e.slot).1,ar:=eF x.ar [(eI (ab x.ax e.at_.toNat) e.slot).2.1]},true):=by
 have h:=De hm
 rw[Hm h]
 unfold fI;dsimp only;rw[if_neg (by omega),if_neg (by omega),if_neg (by omega),if_pos h]
theorem YZ {x:aE} {e:Ev} (hk:e.kind=9) (hm:(eI (ab x.ax e.at_.toNat) e.slot).2.2=false):fI x e=(x,false):=by
 unfold fI;dsimp only;rw[if_neg (by omega),if_neg (by omega),if_neg (by omega),if_neg (by rw[Hl hm];simp)]
theorem OO {i:Nat}:fl (i:Int)=(bW i:Int):=by unfold fl bW;split<;>split<;>omega
def m6 (w:aE) (σ:Nat) (D:List au):Prop:=∀d∈D,∃u,bU w σ u/\u.aT=d/\qv u.aO D
theorem bU.cases {w:aE} {i:Nat} {v:aB} (h:bU w (i/2) v):v∈(sv w i).ao\/v∈(sv w (bW i)).ao:=by
 obtain⟨j,_,e,hv⟩:=h
 rcases WM e with rfl|rfl
 ·exact .inl hv
 ·exact .inr hv
theorem m6.ext {w x:aE} (h:Ext w x) {σ:Nat} {D:List au} (hc:m6 w σ D):m6 x σ D:=λd hd=>let⟨u,h1,h2,h3⟩:=hc d hd;⟨u,h.ee h1,h2,h3⟩
theorem Ho {w:aE} {i:Nat} (hi:i<w.ax.length):dO w i (sv w i)=w:=by
 unfold dO sv
 have e:w.ax.set i (ab w.ax i)=w.ax:=by
  apply List.ext_getElem
  ·simp
  ·intro n h1 h2
   rw[List.getElem_set]
   split
   ·rename_i e;subst e;simp[ab,h2]
   ·rfl
 rw[e]
theorem jB {s:Server} (h:bF s) {v:aB} (hv:v∈s.ao\/v∈s.waits):dM v=true:=by
 rcases hv with hv|hv
 ·exact gu h.ao v hv
 ·exact gu h.waits v hv
theorem tV {v:aB} (h:dM v=true):vk v<3:=by have:=Of (jk h).1;unfold vk;omega
theorem OP {v:aB} (h:dM v=true) {slot:Int} (h0:0<=slot):vk v=slot.toNat↔cQ v.key=slot:=by have:=Of (jk h).1;unfold vk;omega
theorem Hp {x y:dG} (h:lO x y=true) (hx:x.dH=1):y.dH≠1/\y.bz<=x.bz:=by
 unfold lO tz va at h
 simp only[Bool.or_eq_true,Bool.and_eq_true,beq_iff_eq,bne_iff_ne,decide_eq_true_eq] at h
 omega
theorem OQ {s t:Server} {k:Nat} (h:lO (ab s.aG k) (ab t.aG k)=true) (U:(ab s.aG k).dH=1):¬behind s t k:=by
 have:=Hp h U
 unfold behind;omega
theorem OR {s t:Server} {k:Nat} (h:lO (ab s.aG k) (ab t.aG k)=true) (U:(ab s.aG k).dH=1):behind t s k:=by
 have:=Hp h U
 unfold behind;omega
theorem Y0 {s t:Server} {k:Nat} (h:lO (ab s.aG k) (ab t.aG k)=true):behind s t k\/behind t s k:=by
 unfold lO tz va at h
 simp only[Bool.or_eq_true,Bool.and_eq_true,beq_iff_eq,bne_iff_ne,decide_eq_true_eq] at h
 unfold behind;omega
theorem Hq {s t:Server} {k:Nat} (h:lO (ab s.aG k) (ab t.aG k)=true) (hb:behind s t k):¬behind t s k:=by
 unfold lO tz va at h
 simp only[Bool.or_eq_true,Bool.and_eq_true,beq_iff_eq,bne_iff_ne,decide_eq_true_eq] at h
 unfold behind at*;omega
theorem Y1 {l:List aB} (h:VS l):l.Pairwise λa b=>a.aT≠b.aT:=h.imp λ{a b} hl e=>by
 unfold gy at hl;rw[e,Aw] at hl;cases hl
theorem OS {s:Server} {m:aC} (hm:bO m=true) {l vs:List aB} (hl:∀v∈l,cQ v.key≠m.slot) (hv:∀v∈vs,cQ v.key=m.slot) (hc:cn vs=true) (x:aB):x∈iJ l vs↔x∈l\/x∈vs:=
 Ng (λu hu v dT e=>hl u hu (by rw[show u.key=v.key from congrArg au.key e];exact hv v dT)) (Y1 (Hc hc)) x
theorem Y2 {l:List aB} (hl:VS l) {key:Int} {v u:aB} (h:fA l key=some v) (hu:u∈l) (hk:u.key=key):bP v.aq u.aq=false:=by
 have hv:=Ay h
 unfold fA at h
 rw[List.find?_eq_some_iff_append] at h
 obtain⟨_,Y3,bs,e,hn⟩:=h
 have e2:l=bs.reverse++v::Y3.reverse:=by
  have:=congrArg List.reverse e
  simpa using this
 have tW:u=v\/u∈bs:=by
  rw[e2] at hu
  rcases List.mem_append.1 hu with hu|hu
  ·exact .inr (List.mem_reverse.1 hu)
  ·rcases List.mem_cons.1 hu with hu|hu
   ·exact .inl hu
   ·have:=hn u (List.mem_reverse.1 hu)
    simp[qD,hk] at this
 rcases tW with rfl|tW
 ·simp[bP]
 ·unfold VS at hl
  rw[e2,List.pairwise_append] at hl
  have:=hl.2.2 u (List.mem_reverse.2 tW) v (by simp)
  unfold gy dZ aB.aT at this
  rw[hk,hv.2] at this
  simp at this
  exact C3 this
theorem yG:∀{l:List au} {key:Int},bx l key=eV\/(⟨key,bx l key⟩:au)∈l
 |[],_=>.inl rfl
 |d::r,key=>by
  rw[lJ]
  split
  ·rename_i e;right;rw[<-e];exact List.mem_cons_self ..
  ·rcases yG (l:=r) (key:=key) with h|h
   ·exact .inl h
   ·exact .inr (List.mem_cons_of_mem _ h)
theorem OT {v:aB} (h:dM v=true):bP v.aq eV=false:=GQ (om (jk h).2.1)
theorem AM (a b:cw):bP (du a b) a=false:=by
 unfold du;split
 ·rename_i h;exact C3 h
 ·exact uZ a
theorem yH {a b d:List au} (h:qv a b) (h':qv b d):qv a d:=λkey=>qE (h key) (h' key)
theorem Y4 {s:Server} {slot:Int} (h0:0<=slot) (bc:(ab s.aG slot.toNat).dH=2):yu s (fM s slot):=by
 refine⟨?_,λv=>?_,λv=>?_,λd=>?_⟩
 ·show ab s.aG slot.toNat=⟨(ab s.aG slot.toNat).bz,2⟩
  rw[<-bc]
 ·show v∈s.ao.filter (ew slot)↔v∈s.ao/\cQ v.key=slot
  rw[List.mem_filter];simp[ew]
 ·show v∈s.waits.filter (ew slot)↔v∈s.waits/\cQ v.key=slot
  rw[List.mem_filter];simp[ew]
 ·show d∈s.aD.filter (gm slot)↔d∈s.aD/\cQ d.key=slot
  rw[List.mem_filter];simp[gm]
theorem Y5 {l:List Answer} {a:Answer} (h:a∈l) (hy:a.yes=true):bP (qM l a.key) a.be.aq=false:=by
 induction l with
 |nil=>simp at h
 |cons b r ih=>
  show bP (du (if b.yes=true/\b.key=a.key then b.be.aq else eV) (qM r a.key)) _=false
  rcases List.mem_cons.1 h with rfl|h
  ·rw[if_pos ⟨hy,rfl⟩];exact AM _ _
  ·exact qE (ih h) (yh _ _)
theorem OU {s:Server} (h:ve s) (slot:Int):u0 (fM s slot):=by
 obtain⟨h1,h2,h3⟩:=h
 refine⟨.inr (.inr (.inl rfl)),?_,?_,?_,rfl⟩
 ·show s.ao.filter _=[];rw[h1];rfl
 ·show s.waits.filter _=[];rw[h2];rfl
 ·show s.aD.filter _=[];rw[h3];rfl
theorem Y6 {s:Server} (h:ve s):∀m∈kJ s,u0 m:=by
 intro m hm
 unfold kJ at hm
 split at hm
 ·have e:wX s=[]:=by unfold wX;rw[h.2.1];rfl
  rw[h.2.2,e] at hm
  simp only[List.map_nil,List.flatten_nil,List.append_nil] at hm
  obtain⟨i,_,rfl⟩:=List.mem_map.1 hm
  exact OU h _
 ·simp at hm
theorem Y7 {q:Call} (hk:q.kind≠1):∀m∈jP q,u0 m:=by
 intro m hm
 unfold jP at hm
 split at hm
 ·obtain⟨ws,h1,h2⟩:=List.mem_flatten.1 hm
  obtain⟨x,hx,rfl⟩:=List.mem_map.1 h1
  have Df:x.kind=3/\x.ao=[]/\x.waits=[]/\x.aD=[]/\x.yes=false:=by
   unfold asks at hx
   rw[if_neg hk] at hx
   rcases List.mem_append.1 hx with hx|hx
   ·obtain⟨_,_,rfl⟩:=List.mem_map.1 hx;exact⟨rfl,rfl,rfl,rfl,rfl⟩
   ·obtain⟨_,_,rfl⟩:=List.mem_map.1 hx;exact⟨rfl,rfl,rfl,rfl,rfl⟩
  unfold kb at h2
  rcases List.mem_cons.1 h2 with rfl|h2
  ·exact⟨.inl Df.1,Df.2⟩
  ·obtain rfl:m=_:=by simpa using h2
   exact⟨.inl Df.1,Df.2⟩
 ·simp at hm
theorem OV (l:List Ev) (more:List UInt8):
 Fn Tryz.prog 26 [Fm l,bE more] (AV.int (jV l more)):=by
 refine Fn.go 21 Tryz.func26 Tryz.ntmps26 (λW I a U=>?_)
 have hle:=U.cW (t:=0) rfl
 refine mA λI a w U=>?_
 refine U.cd (λae=>?_) λae=>?_
 ·simp only[Bool.or_eq_true,beq_iff_eq,decide_eq_true_eq] at ae
  refine ai λI a w U=>?_
  refine U.rt ?_
  exact fD (by unfold jV;rw[if_pos (by omega)])
 ·simp only[Bool.or_eq_false_iff,decide_eq_false_iff_not,beq_eq_false_iff_ne,ne_eq] at ae;have OW:=(ab more 0).toNat_lt;have Y8:(l.length:Int)*((ab more 0).toNat:Int)<=l.length*255:=Int.mul_le_mul_of_nonneg_left (by omega) (by omega);have z8:0<=(l.length:Int)*((ab more 0).toNat:Int):=Int.mul_nonneg (by omega) (by omega)
  refine bk λI a w U=>?_
  refine U.o (dS (i:=0) uS uQ .tt .c (λ_=>by omega)) λU=>?_
  refine U.o .l1 λU=>?_
  refine U.o (B3 (by kernel_rfl) ny .tt (λ_=>by omega)) λU=>?_
  refine U.o (kf .tt .tt (λ_=>by omega)) λU=>?_
  refine U.o (tf .tt .c (λ_=>by omega)) λU=>?_
  refine ai λI a w U=>?_
  refine U.rt ?_
  exact fD (by unfold jV;rw[if_neg (by omega)])
end Go.Proofs.YtjepcfpkclegdaaGreat

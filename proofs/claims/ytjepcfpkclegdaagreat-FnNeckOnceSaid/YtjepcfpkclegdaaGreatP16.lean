/- Part 16: contracts of functions, plain facts. -/
import Derived.Test.YtjepcfpkclegdaaGreatP10
import Derived.Test.YtjepcfpkclegdaaGreatP11
import Derived.Test.YtjepcfpkclegdaaGreatP12
import Derived.Test.YtjepcfpkclegdaaGreatP13
set_option linter.unusedVariables false
set_option linter.unusedSimpArgs false
set_option maxRecDepth 100000
set_option maxHeartbeats 4000000
namespace Go.Proofs.YtjepcfpkclegdaaGreat
open Go Go.RowKit
attribute [local irreducible] wpList Code.wp Ok
theorem Ba:∀{l:List Answer},(∀a∈l,dB a=true)->∀key,sd (kd l key)
 |[],_,_=>Or.inl rfl
 |a::r,h,key=>Ol (sh (pT (h a (by simp))) key) (Ba (λb hb=>h b (by simp[hb])) key)
theorem pg:∀{l:List Answer} {acc:List au},bN acc=true->(∀a∈l,dB a=true)->bN (l.foldl km acc)=true/\∀key,bx (l.foldl km acc) key=du (bx acc key) (kd l key)
 |[],acc,ha,_=>⟨ha,λkey=>by show bx acc key=du (bx acc key) eV;rw[A0 (sh ha key)]⟩
 |a::r,acc,ha,h=>by
  have hd:=pT (h a (by simp))
  have h1:bN (km acc a)=true:=wT ha λd jH=>pe hd jH
  have h2:=pg (l:=r) h1 λb hb=>h b (by simp[hb])
  refine⟨h2.1,λkey=>?_⟩
  show bx (r.foldl km (km acc a)) key=_
  rw[h2.2 key]
  unfold km
  rw[A1 ha hd,HU];rfl
theorem DH:∀{l:List Answer} {acc:List au},bN acc=true->(∀a∈l,dB a=true)->bN (l.foldl se acc)=true/\∀key,bx (l.foldl se acc) key=du (bx acc key) (qM l key)
 |[],acc,ha,_=>⟨ha,λkey=>by show bx acc key=du (bx acc key) eV;rw[A0 (sh ha key)]⟩
 |a::r,acc,ha,h=>by
  have hg:=h a (by simp)
  cases hy:a.yes
  ·have e:se acc a=acc:=by unfold se;rw[hy];simp
   have h2:=DH (l:=r) ha λb hb=>h b (by simp[hb])
   rw[List.foldl_cons,e]
   refine⟨h2.1,λkey=>?_⟩
   rw[h2.2 key]
   show _=du _ (du (if a.yes=true/\a.key=key then a.be.aq else eV) (qM r key))
   rw[if_neg (by rw[hy];simp),pf (AJ (l:=r) (λb hb=>h b (by simp[hb])) key)]
  ·have hd:=yL hg hy
   have e:se acc a=fN acc ⟨a.key,a.be.aq⟩:=by unfold se;rw[hy];simp
   have bc:db a.be.aq=true:=(jk (pJ hg hy).1).2.1
   have h2:=DH (l:=r) (wS ha (hd.2▸hd.1)) λb hb=>h b (by simp[hb])
   rw[List.foldl_cons,e]
   refine⟨h2.1,λkey=>?_⟩
   rw[h2.2 key,yQ key ha bc]
   show _=du _ (du (if a.yes=true/\a.key=key then a.be.aq else eV) (qM r key))
   by_cases hk:a.key=key
   ·rw[if_pos hk,if_pos ⟨hy,hk⟩,HU]
   ·rw[if_neg hk,if_neg λh=>hk h.2,pf (AJ (l:=r) (λb hb=>h b (by simp[hb])) key)]
theorem ud:∀{l:List Answer} {acc:List au},bN acc=true->(∀a∈l,dB a=true)->bN (l.foldl l9 acc)=true/\∀key,bx (l.foldl l9 acc) key=du (bx acc key) (du (kd l key) (qM l key))
 |[],acc,ha,_=>⟨ha,λkey=>by show bx acc key=du (bx acc key) (du eV eV);rw[pf (Or.inl rfl),A0 (sh ha key)]⟩
 |a::r,acc,ha,h=>by
  have hg:=h a (by simp)
  have hr:∀b∈r,dB b=true:=λb hb=>h b (by simp[hb])
  cases hy:a.yes
  ·have e:l9 acc a=acc:=by unfold l9;rw[hy];simp
   have h2:=ud (l:=r) ha hr
   rw[List.foldl_cons,e]
   refine⟨h2.1,λkey=>?_⟩
   rw[h2.2 key]
   show _=du _ (du (du (bx a.be.aO key) (kd r key)) (du (if a.yes=true/\a.key=key then a.be.aq else eV) (qM r key)))
   rw[if_neg (by rw[hy];simp),pf (AJ hr key),u5 hg hy]
   show _=du _ (du (du eV (kd r key)) (qM r key))
   rw[pf (Ba hr key)]
  ·have hd:=yL hg hy
   have uI:=pT hg
   have hv:=pJ hg hy
   have e:l9 acc a=fN (iK acc a.be.aO) a.be.aT:=by unfold l9;rw[hy];simp
   have bc:db a.be.aT.aq=true:=(jk hv.1).2.1
   have hj:bN (iK acc a.be.aO)=true:=wT ha λd jH=>pe uI jH
   have h2:=ud (l:=r) (wS hj hd.1) hr
   rw[List.foldl_cons,e]
   refine⟨h2.1,λkey=>?_⟩
   rw[h2.2 key,yQ key hj bc,A1 ha uI]
   show _=du _ (du (du (bx a.be.aO key) (kd r key)) (du (if a.yes=true/\a.key=key then a.be.aq else eV) (qM r key)))
   have e2:a.be.aT.key=a.key:=hv.2
   rw[e2]
   have e3:a.be.aT.aq=a.be.aq:=rfl
   rw[e3]
   apply GR
   intro x
   by_cases hk:a.key=key
   ·rw[if_pos hk,if_pos ⟨hy,hk⟩]
    simp only[Al]
    cases bP x (bx acc key)<;>cases bP x (bx a.be.aO key)<;>cases bP x (kd r key)<;>cases bP x a.be.aq<;>simp
   ·rw[if_neg hk,if_neg λh=>hk h.2,pf (AJ hr key)]
    simp only[Al]
    cases bP x (bx acc key)<;>cases bP x (bx a.be.aO key)<;>cases bP x (kd r key)<;>simp
theorem aap {c:Call} (hc:bN c.ctx=true) (h:∀a∈c.az,dB a=true):GS c=dP c:=by
 unfold dP GS
 split
 ·rfl
 ·split
  ·rfl
  ·have yW:=pg (acc:=[]) rfl h
   have jO:bN (eW c)=true:=yW.1
   have hj:bN (iK c.ctx (eW c))=true:=wT hc λd hd=>pe jO hd
   have h1:=DH hj h
   have h2:=ud hc h
   refine Oj h1.1 h2.1 λkey=>?_
   rw[h1.2 key,h2.2 key,A1 hc jO]
   have e:bx (eW c) key=kd c.az key:=by
    show bx (c.az.foldl km []) key=_
    rw[yW.2 key]
    show du eV _=_
    exact pf (Ba h key)
   rw[e,HU]
def jd (w:aE) (e:Ev):aE×Bool:=
 if e.kind=1 then kQ w e else
 let i:=cq w.calls e.an
 if i<0 then(w,false)
 else if e.kind=3 then({w with calls:=w.calls.set i.toNat {ab w.calls i.toNat with over:=true}},true)
 else({w with ar:=eF w.ar (jP (ab w.calls i.toNat))},true)
theorem Ie (x y:List au) (hx:bN x=true) (hy:bN y=true):
 Fn Tryz.prog 85 [bm x,bm y] (bm (iK x y)):=by
 refine Fn.go 21 Tryz.func85 Tryz.ntmps85 (λW I a U=>?_)
 have AO:=gR hx
 have aaq:=gR hy
 refine aF λI a w U=>?_
 refine U.o (bY (tN x (by omega)) (aw .r aL)) λU=>?_
 refine aU λI a w U=>?_
 refine St.lo (σ:=Nat) (5::(7::(run 8 12 []))) ⟨λk=>[(12,AV.int k),(5,bm (iK x (y.take k)))],λk=>[],λk=>k<=y.length⟩ (λk=>y.length-k) 0 U ?aJ ?aK
 case aJ=>exact Nat.zero_le _
 case aK=>
  rintro k I a w aj U
  have hk:k<=y.length:=aj
  refine ai λI a w U=>?_
  refine cz (λae=>?_) λae=>?_
  ·refine aF λI a w U=>?_
   refine U.alloc rfl cH fL λb7 I a w U=>?_
   refine ai λI a w U=>?_
   obtain⟨I,U⟩:=U.fb 0 7
   refine aF λI a w U=>?_
   refine U.o (.cl (Ht _ _ (PG hx hy k))) λU=>?_
   refine aI λI a w U=>?_
   have U:=U.drop 0
   refine U.again (k+1) ?iM ?iN (by rfl) ?iO (by repeat(first|exact Env.le_rfl|refine Env.jf rfl ?_))
   case iM=>omega
   case iN=>exact ae
   case iO=>exact(Env.dK rfl (by rfl) (Env.dK rfl (by exact congrArg bm (by rw[NI ae])) Env.le_nil))
  ·refine zt ?_
   refine aA λI a w U=>?_
   refine U.rt ?_
   exact congrArg bm (by rw[List.take_of_length_le (by omega)])
theorem If (x y:List au) (hx:bN x=true) (hy:bN y=true):
 Fn Tryz.prog 231 [bm x,bm y] (bm (iK x y)):=by
 refine Fn.go 32 Tryz.func231 Tryz.ntmps231 (λW I a U=>?_)
 have AO:=gR hx
 have aaq:=gR hy
 refine aF λI a w U=>?_
 refine U.o (.cl (rQ ..)) λU=>?_
 refine bk λI a w U=>?_
 refine U.q .F (.cl (rQ ..)) λU=>?_
 refine aA λI a w U=>?_
 refine U.cd (λae=>?_) λae=>?_
 ·exfalso;rw[hx,hy] at ae;cases ae
  skip
 ·refine zt ?_
  refine U.l0 λyI I a w U=>?_
  refine U.m λU=>?_
  refine U.ap 0 λPV a w U=>?_
  obtain⟨I,U⟩:=U.fr 0 18
  have U:=U.drop 0
  refine aA λI a w U=>?_
  refine St.lo (σ:=Nat) (run 2 5 (run 12 19 [])) ⟨λk=>[(6,AV.int k),(5,bm (iK x (y.take k)))],λk=>[],λk=>k<=y.length⟩ (λk=>y.length-k) 0 U ?aJ ?aK
  case aJ=>exact Nat.zero_le _
  case aK=>
   rintro k I a w aj U
   have hk:k<=y.length:=aj
   refine aU λI a w U=>?_
   refine cz (λah=>?_) λah=>?_
   ·refine bM λI a w U=>?_
    refine U.o (.cl (Hu _ _ (PG hx hy k) (pe hy (aV ah)))) λU=>?_
    refine aU λI a w U=>?_
    refine U.again (k+1) ?iM ?iN (by rfl) ?iO (by repeat(first|exact Env.le_rfl|refine Env.jf rfl ?_))
    case iM=>omega
    case iN=>exact ah
    case iO=>exact(Env.dK rfl (by rfl) (Env.dK rfl (by exact congrArg bm (by rw[NI ah])) Env.le_nil))
   ·refine zt ?_
    refine aA λI a w U=>?_
    refine U.rt ?_
    exact congrArg bm (by rw[List.take_of_length_le (by omega)])
theorem aar (q:Call) (hg:∀y∈q.az,dB y=true):
 Fn Tryz.prog 232 [q.av] (bm (eW q)):=by
 refine Fn.go 23 Tryz.func232 Tryz.ntmps232 (λW I a U=>?_)
 have lens:q.keys.length<=9223372036854775807/\q.az.length<=9223372036854775807/\q.aP.length<=9223372036854775807:=⟨U.ln 0 3,U.ln 0 11,U.ln 0 12⟩
 refine aA λI a w U=>?_
 refine U.l0 λb5 I a w U=>?_
 obtain⟨I,U⟩:=U.fr 0 5
 have U:=U.drop 0
 refine aA λI a w U=>?_
 refine St.lo (σ:=Nat) (run 2 3 (run 16 6 [])) ⟨λk=>[(4,AV.int k),(3,bm ((q.az.take k).foldl km []))],λk=>[],λk=>k<=q.az.length⟩ (λk=>q.az.length-k) 0 U ?aJ ?aK
 case aJ=>exact Nat.zero_le _
 case aK=>
  rintro k I a w aj U
  have hk:k<=q.az.length:=aj
  refine ck λI a w U=>?_
  refine cz (λae=>?_) λae=>?_
  ·refine lE λI a w U=>?_
   refine U.o (.cl (If _ _ (pg (acc:=[]) rfl (wG hg k)).1 (pT (hg _ (aV ae))))) λU=>?_
   refine aU λI a w U=>?_
   refine U.again (k+1) ?iM ?iN (by rfl) ?iO (by repeat(first|exact Env.le_rfl|refine Env.jf rfl ?_))
   case iM=>omega
   case iN=>exact ae
   case iO=>exact(Env.dK rfl (by rfl) (Env.dK rfl (by exact congrArg bm (by rw[wD ae];rfl)) Env.le_nil))
  ·refine zt ?_
   refine aA λI a w U=>?_
   refine U.rt ?_
   exact congrArg bm (by rw[List.take_of_length_le (by omega)];rfl)
theorem DI (q:Call) (t:Int) (hq:eX q t=true):
 Fn Tryz.prog 51 [q.av] (bm (dP q)):=by
 refine Fn.go 45 Tryz.func51 Tryz.ntmps51 (λW I a U=>?_)
 have lens:q.keys.length<=9223372036854775807/\q.az.length<=9223372036854775807/\q.aP.length<=9223372036854775807:=⟨U.ln 0 3,U.ln 0 11,U.ln 0 12⟩
 have hp:=vr hq
 have hc6:=gR hp.1
 refine bt λI a w U=>?_
 refine U.o (bY (tN q.ctx (by omega)) (aw .r aL)) λU=>?_
 refine aU λI a w U=>?_
 refine cz (λae=>?_) λae=>?_
 ·refine aA λI a w U=>?_
  refine U.rt ?_
  exact congrArg bm (by unfold dP;rw[if_pos ae])
 ·refine aI λI a w U=>?_
  refine cz (λah=>?_) λah=>?_
  ·refine wp_seq<|U.dk ?_
   refine cD ?_
   refine .o ((by first|exact dS ju gO .tt .c (λ_=>by have:=w4 hp.2.2.1 ah;omega)|exact fS ju gO .tt .c (λ_=>by have:=w4 hp.2.2.1 ah;omega)|exact fZ ju gO .tt .c (λ_=>by have:=w4 hp.2.2.1 ah;omega))) ?_
   refine cD ?_
   refine .o (.bd fL (.k (.t bf.nil))) ?_
   refine .o (.cl (Ht _ ⟨ab q.keys 0,q.aq⟩ hp.1)) ?_
   refine bn ?_
   refine .nil ?_
   intro I a w U
   refine zt ?_
   refine U.rt ?_
   exact congrArg bm (by unfold dP;rw[if_neg ae,if_pos ah])
  ·refine aU λI a w U=>?_
   refine St.lo (σ:=Nat) (3::(5::(run 16 28 []))) ⟨λk=>[(28,AV.int k),(3,bm ((q.az.take k).foldl l9 q.ctx))],λk=>[],λk=>k<=q.az.length⟩ (λk=>q.az.length-k) 0 U ?aJ ?aK
   case aJ=>exact Nat.zero_le _
   case aK=>
    rintro k I a w aj U
    have hk:k<=q.az.length:=aj
    refine ai λI a w U=>?_
    refine cz (λal=>?_) λal=>?_
    ·refine aF λI a w U=>?_
     refine U.alloc rfl fj od λb5 I a w U=>?_
     refine ai λI a w U=>?_
     obtain⟨I,U⟩:=U.fb 0 5
     refine aA λI a w U=>?_
     refine cz (λaH=>?_) λaH=>?_
     ·refine U.dk ?_
      refine dq ?_
      refine .o (.cl (Ie _ _ (ud hp.1 (wG hp.2.1 k)).1 (pT (hp.2.1 _ (aV al))))) ?_
      refine bT ?_
      refine .o (.c1 (mS ..)) ?_
      refine .o (.cl (Ht _ _ (wT (ud hp.1 (wG hp.2.1 k)).1 λd hd=>pe (pT (hp.2.1 _ (aV al))) hd))) ?_
      refine bn ?_
      refine .nil ?_
      intro I a w U
      refine aA λI a w U=>?_
      have U:=U.drop 0
      refine U.again (k+1) ?iM ?iN (by rfl) ?iO (by repeat(first|exact Env.le_rfl|refine Env.jf rfl ?_))
      case iM=>omega
      case iN=>exact al
      case iO=>exact(Env.dK rfl (by rfl) (Env.dK rfl (by exact congrArg bm (by rw[wD al];unfold l9;rw[aH];rfl)) Env.le_nil))
     ·refine aA λI a w U=>?_
      have U:=U.drop 0
      refine U.again (k+1) ?nO ?nP (by rfl) ?nQ (by repeat(first|exact Env.le_rfl|refine Env.jf rfl ?_))
      case nO=>omega
      case nP=>exact al
      case nQ=>exact(Env.dK rfl (by rfl) (Env.dK rfl (by exact congrArg bm (by rw[wD al];unfold l9;rw[aH];rfl)) Env.le_nil))
    ·refine zt ?_
     refine aA λI a w U=>?_
     refine U.rt ?_
     exact congrArg bm (by rw[List.take_of_length_le (by omega)];unfold dP;rw[if_neg ae,if_neg ah])
theorem Qb (l:List aB) (key:Int) (hc:cn l=true):
 Fn Tryz.prog 235 [bX l,AV.int key] (AV.dx [((fA l key).getD default).av,AV.bool (fA l key).isSome]):=by
 refine Fn.go 31 Tryz.func235 Tryz.ntmps235 (λW I a U=>?_)
 have hle:=U.cW (t:=0) rfl
 have A5:=fV hc
 refine sr<|U.alloc rfl bA dE λb4 I a w U=>?_
 refine aF λI a w U=>?_
 refine U.o (.cl (u9 ..)) λU=>?_
 refine ai λI a w U=>?_
 refine U.cd (λae=>?_) λae=>?_
 ·exfalso;rw[hc] at ae;cases ae
  skip
 ·refine aU λI a w U=>?_
  refine St.lo (σ:=Nat) (run 2 5 (run 16 14 [])) ⟨λj=>[(6,AV.int ((j:Int)-1))],λj=>[Own.box b4 43 [AV.val (.int .i64 0),AV.val (.int .i64 0),AV.val (.int .i64 0),AV.val (.int .i64 0),AV.val (.int .i64 0),AV.val (.int .i64 0),AV.rows 3 []]],λj=>j<=l.length/\∀i,j<=i->i<l.length->qD key (ab l i)=false⟩ (λj=>j) l.length U ?aJ ?aK
  case aJ=>exact⟨Nat.le_refl _,λi h1 h2=>by omega⟩
  case aK=>
   rintro j I a w aj U
   obtain⟨hk,aN⟩:=aj
   refine aA λI a w U=>?_
   refine cz (λah=>?_) λah=>?_
   ·refine jT λI a w U=>?_
    refine U.cd (λal=>?_) λal=>?_
    ·refine bt λI a w U=>?_
     refine U.o (bY (pE _ (by have:=pW hc _ (aV (k:=((j:Int)-1).toNat) (by omega));omega)) (aw (.t rfl) aL)) λU=>?_
     refine aA λI a w U=>?_
     refine U.ret rfl (.cons (.sx 0) (.cons (.t rfl) aX.nil)) ?_
     exact(by rw[Nn (k:=((j:Int)-1).toNat) (by omega) (λi h1 h2=>aN i (by omega) h2) al];rfl)
    ·refine aI λI a w U=>?_
     refine U.again (j-1) ?iM ?iN (by rfl) ?iO (by repeat(first|exact Env.le_rfl|refine Env.jf rfl ?_))
     case iM=>omega
     case iN=>exact⟨by omega,λi h1 h2=>by by_cases h:i=((j:Int)-1).toNat;(subst h;exact al);exact aN i (by omega) h2⟩
     case iO=>exact(Env.dK rfl (by first|rfl|exact congrArg AV.int (by omega)) Env.le_nil)
   ·refine zt ?_
    refine U.o (.bd dE bf.nil) λU=>?_
    refine aA λI a w U=>?_
    refine U.ret rfl (.cons (.sx 0) (.cons (.t rfl) aX.nil)) ?_
    exact(by rw[OY λi h=>aN i (by omega) h];rfl)
theorem Ig (l:List au) (d:au) (h:l.length<=1048575):
 Fn Tryz.prog 238 [bm l,d.av] (bm (ef l d)):=by
 refine Fn.go 72 Tryz.func238 Tryz.ntmps238 (λW I a U=>?_)
 refine bt λI a w U=>?_
 refine U.o (.cl (A6 ..)) λU=>?_
 refine ai λI a w U=>?_
 refine cz (λae=>?_) λae=>?_
 ·refine zt ?_
  refine U.l0 λtZ I a w U=>?_
  refine U.m λU=>?_
  refine U.ap 0 λmF a w U=>?_
  obtain⟨I,U⟩:=U.fr 0 14
  refine ai λI a w U=>?_
  refine U.rt ?_
  exact congrArg (AV.rows 3) (by unfold ef;rw[if_pos ae];rfl)
 ·refine zt ?_
  refine U.l0 λDJ I a w U=>?_
  refine aI λI a w U=>?_
  refine St.lo (σ:=Nat×Bool×List au×Value) (run 3 5 (run 49 16 [])) ⟨λ⟨k,done,out,u⟩=>[(7,AV.int k),(6,AV.bool done),(5,AV.val u)],λ⟨k,done,out,u⟩=>[Own.row u 63 3 (out.map au.cells)],λ⟨k,done,out,u⟩=>nC l d k done out⟩ (λ⟨k,done,out,u⟩=>l.length-k) (0,false,[],.slice (some ⟨DJ,0,none⟩) 0 0) U ?aJ ?aK
  case aJ=>exact nC.zero l d
  case aK=>
   rintro⟨k,done,out,u⟩ I a w aj U
   have hp:nC l d k done out:=aj
   have hk:=hp.hk
   have kv:=hp.len
   have rF:done.toNat<=1:=by cases done<;>simp
   dsimp only at U
   refine aU λI a w U=>?_
   refine cz (λah=>?_) λah=>?_
   ·refine zt ?_
    refine U.dk ?_
    refine lG ?_
    refine wv ?_
    refine .q .T2 (.cl (yd ..)) ?_
    refine cD ?_
    refine .nil ?_
    intro I a w U
    refine aY ?_
    refine U.cd (λal=>?_) λal=>?_
    ·rw[NR] at al;simp only[B] at al
     refine aF λI a w U=>?_
     refine U.o (.li [d.cells] iX (.u .nil)) λU=>?_
     refine U.ap 0 λv57 a w U=>?_
     rw[cA] at U
     refine gz λI a w U=>?_
     refine U.o (.li [(ab l k).cells] iX (.u .nil)) λU=>?_
     refine U.ap 0 λIh a w U=>?_
     rw[cA] at U
     refine aU λI a w U=>?_
     exact U.ag (k+1,true,(out++[d])++[ab l k],Ih) (by obtain⟨h1,h2⟩:=al;subst h1;exact hp.before ah h2)
    ·rw[NR] at al;simp only[B] at al
     refine bM λI a w U=>?_
     refine U.o (.li [(ab l k).cells] iX (.u .nil)) λU=>?_
     refine U.ap 0 λIh a w U=>?_
     rw[cA] at U
     refine aU λI a w U=>?_
     exact U.ag (k+1,done,out++[ab l k],Ih) (hp.step ah (by simpa using al))
   ·refine zt ?_
    refine aA λI a w U=>?_
    refine cz (λaH=>?_) λaH=>?_
    ·refine aF λI a w U=>?_
     refine U.o (.li [d.cells] iX (.u .nil)) λU=>?_
     refine U.ap 0 λv70 a w U=>?_
     rw[cA] at U
     refine aI λI a w U=>?_
     obtain⟨I,U⟩:=U.fr 0 4
     refine U.rt ?_
     exact congrArg (AV.rows 3) (by subst aH;unfold ef;rw[if_neg (by omega)];exact hp.tY (by omega)▸rfl)
    ·refine aA λI a w U=>?_
     obtain⟨I,U⟩:=U.fr 0 4
     refine U.rt ?_
     exact congrArg (AV.rows 3) (by subst aH;unfold ef;rw[if_neg (by omega),hp.tX (by omega)])
theorem Qc (s:Server) (d:au) (hc:cn s.ao=true):
 Fn Tryz.prog 220 [s.av,d.av] (AV.bool (mX s d)):=by
 refine Fn.go 25 Tryz.func220 Tryz.ntmps220 (λW I a U=>?_)
 refine xZ λI a w U=>?_
 refine U.o (.cl (tU ..)) λU=>?_
 refine bk λI a w U=>?_
 refine U.alloc rfl bA dE λb5 I a w U=>?_
 refine U.sb 0 λU=>?_
 obtain⟨I,U⟩:=U.fb 0 5
 refine dD λI a w U=>?_
 refine U.q .F (.cl (A6 ..)) λU=>?_
 refine aI λI a w U=>?_
 refine U.rt ?_
 exact bG (by unfold mX;rw[yt hc])
theorem aat (s:Server) (v:aB) (hc:cn s.ao=true):
 Fn Tryz.prog 260 [s.av,v.av] (AV.bool (AE s v)):=by
 refine Fn.go 21 Tryz.func260 Tryz.ntmps260 (λW I a U=>?_)
 have lens:v.aO.length<=9223372036854775807:=U.ln 1 6
 refine aU λI a w U=>?_
 refine St.lo (σ:=Nat) (run 17 4 []) ⟨λk=>[(5,AV.int k)],λk=>[],λk=>k<=v.aO.length/\∀i,i<k->(λi=>mX s (ab v.aO i)) i=true⟩ (λk=>v.aO.length-k) 0 U ?aJ ?aK
 case aJ=>exact⟨Nat.zero_le _,λi hi=>by omega⟩
 case aK=>
  rintro k I a w aj U
  obtain⟨o1,aN⟩:=aj
  refine ck λI a w U=>?_
  refine cz (λae=>?_) λae=>?_
  ·refine zt ?_
   refine U.dk ?_
   refine fK ?_
   refine .o (.c2 (Qc _ _ hc)) ?_
   refine bn ?_
   refine .nil ?_
   intro I a w U
   refine aY ?_
   refine cz (λah=>?_) λah=>?_
   ·refine ai λI a w U=>?_
    refine U.rt ?_
    exact bG (eB (f:=λi=>mX s (ab v.aO i)) ae ah).symm
   ·refine aI λI a w U=>?_
    exact U.ag (k+1) (⟨by omega,fg aN ah⟩)
  ·refine zt ?_
   refine ai λI a w U=>?_
   refine U.rt ?_
   exact bG (eP aN (by omega)).symm
theorem yX {l:List au} {d x:au}:x∈ef l d↔x=d\/x∈l:=by
 unfold ef
 split
 ·rename_i h
  exact⟨.inr,λh'=>h'.elim (λe=>e▸xj.1 h) id⟩
 ·exact CP
theorem Qd {l:List au} {d:au} (h:gi l=true) (hd:lZ d=true) (hl:l.length<80):gi (ef l d)=true:=by
 obtain⟨h1,h2,h3⟩:=yM.1 h
 unfold ef
 split
 ·exact h
 ·rename_i hn
  refine yM.2 ⟨by rw[MZ];omega,λx hx=>?_,PY h3 λx hx e=>hn (xj.2 (e▸hx))⟩
  rcases CP.1 hx with rfl|hx
  ·exact hd
  ·exact h2 x hx
theorem DK {s:Server} {m:aC} (h:bF s) (hm:bO m=true) (ho:j9 (kj s m)=true):(fm s m).aq.site=s.site/\db (fm s m).aq=true/\∀x∈kj s m,x.time<(fm s m).aq.time:=by
 obtain⟨h1,h2,h3⟩:=Zf h.site (HZ h hm) ho
 exact⟨h2,h1,h3⟩
theorem bF.Qe {s:Server} (h:bF s) {d:au} (hd:lZ d=true) (hl:s.bl.length<80) (hu:s.up=true):bF {s with bl:=ef s.bl d}:=
 ⟨h.site,h.aG,h.ao,h.waits,h.aD,Qd h.bl hd hl,(λe=>by rw[hu] at e;cases e),h.aW,h.here,h.pM,h.pN,h.apart,h.o6⟩
theorem Qf {s:Server} {d:au}:jy s d=true↔∃v∈s.waits,d∈v.aO:=by
 unfold jy
 rw[Bool.not_eq_true',<-Bool.not_eq_true,vo (p:=λv=>!qH d v)]
 have e:∀v:aB,(!qH d v)=true↔d∉v.aO:=λv=>by
  unfold qH
  rw[Bool.not_eq_true',decide_eq_false_iff_not,xj]
 constructor
 ·intro h
  apply Classical.byContradiction
  intro hn
  exact h λx hx=>(e x).2 λhd=>hn ⟨x,hx,hd⟩
 ·rintro⟨v,hv,hd⟩ h
  exact(e v).1 (h v hv) hd
theorem yY {s:Server} {slot:Int} (h:bF s) (hk:mZ s slot=true):bF (ka s slot):=by
 obtain⟨_,h1,h2,h3,h4⟩:=w7 hk
 have hg:=wO.1 (DA h (i:=slot.toNat) (by omega))
 refine h.On h1 ?_ (λv _ _=>by simp) (λv _ _=>by simp) (by omega)
 rw[wO]
 exact⟨by simp;omega,by simp;omega,by simp,by simp,λ_=>by simp;omega⟩
theorem aau {s:Server} {m:aC} (h:bF s) (hm:bO m=true):∀w∈(iL s m).2,bO w=true:=by
 unfold iL
 split
 ·split
  ·rename_i v hv
   intro w hw
   obtain rfl:w=_:=by simpa using hw
   exact Oo h hm (jk (gu h.ao v (Nt hv).1)).2.1
  ·split
   ·rename_i hk
    simp only[Bool.and_eq_true,decide_eq_true_eq] at hk
    intro w hw
    obtain rfl:w=_:=by simpa using hw
    exact Oo h hm (DK h hm hk.1.1).2.1
   ·intro w hw;simp at hw
 ·intro w hw;simp at hw
theorem aav {s:Server} {m:aC} (h:bF s) (hm:bO m=true):∀w∈jm s m,bO w=true:=by
 unfold jm
 split
 ·split
  ·intro w hw
   obtain rfl:w=_:=by simpa using hw
   exact Pm h hm λv hv=>gu h.ao v (Ay hv).1
  ·split
   ·rename_i v hv
    intro w hw
    obtain rfl:w=_:=by simpa using hw
    exact Pm h hm λu hu=>by cases hu;exact gu h.ao v (yS hv).1
   ·intro w hw;simp at hw
 ·intro w hw;simp at hw
theorem aaw {s:Server} {m:aC} (h:bF s) (hm:bO m=true):∀w∈(jb s m).2,bO w=true:=by
 unfold jb
 split
 ·rename_i hr
  have hv:dM (ab m.ao 0)=true:=gu (oB hm).1 _ (aV (by rw[(AF hr).2.2.1];omega))
  dsimp only
  split
  ·split
   ·intro w hw
    obtain rfl:w=_:=by simpa using hw
    exact Oq h hm hv
   ·intro w hw;simp at hw
  ·intro w hw
   obtain rfl:w=_:=by simpa using hw
   exact Oq h hm hv
 ·intro w hw;simp at hw
theorem DL {s:Server} (h:bF s) {slot:Int} (h0:0<=slot) (h2:slot<=2):bO (fM s slot)=true:=by
 have hr:=aaa h (i:=slot.toNat) (by omega)
 exact tO ⟨by simp[fM],by simp[fM]⟩ (pG h.site) (pG (PZ h.site)) ⟨by simp[fM,cg],by simp[fM,cg]⟩ GY An ⟨by simp[fM,cg],by simp[fM,cg]⟩ rS ⟨h0,h2⟩ hr (AX h.ao List.filter_sublist) (AX h.waits List.filter_sublist) (Dk h.aD List.filter_sublist)
theorem aax {s:Server} (h:bF s) {d:au}:∀w∈kH s d,bO w=true:=by
 have U:=GZ h.site
 have key:∀k:Int,0<=k->k<=1->bO {cg with kind:=5,aR:=s.site,to:=2-2*bL s.site+k,ao:=(dU s.ao d).toList}=true:=λk h1 h2=>
  tO ⟨by simp,by simp⟩ (pG h.site) (pG (m0.2 ⟨by simp;omega,by simp;omega⟩)) ⟨by simp[cg],by simp[cg]⟩ GY An ⟨by simp[cg],by simp[cg]⟩ rS ⟨by simp[cg],by simp[cg]⟩ ⟨by simp[cg],by simp[cg]⟩ (Pk λv hv=>gu h.ao v (yS hv).1) pH wE
 unfold kH
 split
 ·intro w hw
  rcases List.mem_cons.1 hw with rfl|hw
  ·have:=key 0 (by omega) (by omega);rwa[Int.add_zero] at this
  ·obtain rfl:w=_:=by simpa using hw
   exact key 1 (by omega) (by omega)
 ·intro w hw;simp at hw
theorem DM {s:Server} (h:bF s):∀w∈kJ s,bO w=true:=by
 unfold kJ
 split
 ·intro w hw
  rcases List.mem_append.1 hw with hw|hw
  ·rcases List.mem_append.1 hw with hw|hw
   ·obtain⟨i,hi,rfl⟩:=List.mem_map.1 hw
    have:=aad h hi
    exact DL h (by omega) (by omega)
   ·obtain⟨ws,h1,h2⟩:=List.mem_flatten.1 hw
    obtain⟨d,_,rfl⟩:=List.mem_map.1 h1
    exact aax h w h2
  ·obtain⟨d,hd,rfl⟩:=List.mem_map.1 hw
   exact aab h (aac h d hd)
 ·intro w hw;simp at hw
theorem Qg {q:Call}:oF q=true↔(∀a∈q.az,gU q.keys a.key=true)/\(q.az.Pairwise λa b=>gJ a b=true)/\∀a∈q.az,dB a=true:=by
 unfold oF
 rw[gx]
 have h1:=Hz (aW:=λa:Answer=>gU q.keys a.key) (less:=gJ) (λh1 h2=>X0 h1 h2) (l:=q.az)
 rw[gx] at h1
 unfold pU
 constructor
 ·intro h
  have h2:=h1.1 λi hi=>(Bool.and_eq_true _ _▸h i hi:_/\_).1
  refine⟨h2.1,h2.2,λa ha=>?_⟩
  obtain⟨k,hk,rfl⟩:=gq ha
  exact(Bool.and_eq_true _ _▸h k hk:_/\_).2
 ·rintro⟨a1,a2,a3⟩ i hi
  rw[Bool.and_eq_true]
  exact⟨h1.2 ⟨a1,a2⟩ i hi,a3 _ (aV hi)⟩
theorem aay {q:Call} (h:q.az.Pairwise λa b=>gJ a b=true) {i:Nat} (hi:i<q.az.length):cv q (ab q.az i).key=i:=by
 have h0:0<=cv q (ab q.az i).key:=DB.2 ⟨_,aV hi,rfl⟩
 obtain⟨h1,h2⟩:=xk h0
 have:=Pn h h1 hi h2
 omega
theorem Ii {q:Call} (h:q.az.Pairwise λa b=>gJ a b=true) {d:au}:rY q d=true↔∃a∈q.az,a.key=d.key/\mT a d.aq=true:=by
 unfold rY
 rw[Bool.and_eq_true,decide_eq_true_eq]
 constructor
 ·rintro⟨h1,h2⟩
  exact⟨_,aV (xk h1).1,(xk h1).2,h2⟩
 ·rintro⟨a,ha,hk,ho⟩
  obtain⟨i,hi,rfl⟩:=gq ha
  have e:=aay h hi
  rw[hk] at e
  rw[e]
  exact⟨by omega,ho⟩
theorem aaz {w:aE} (h:cx w) (e:Ev) (ha:cL e.at_=true):cx (fI w e).1:=by
 rw[m0] at ha
 have hi:e.at_.toNat<4:=by omega
 obtain⟨_,U⟩:=h.site _ hi
 unfold fI
 dsimp only
 split
 ·exact h.server hi (Nr U) rfl
 ·split
  ·exact h.server hi (Ns U) rfl
  ·split
   ·exact h.send (DM U)
   ·split
    ·rename_i hk
     have hp:=w7 hk
     have hg:=yY U hk
     exact(h.server hi hg rfl).send λm hm=>by
      obtain rfl:m=_:=by simpa using hm
      exact DL hg hp.2.1 hp.2.2.1
    ·exact h
theorem Qh:∀{l:List au} {d:au} {k:Nat},k<=l.length->(∀i,i<k->dZ (ab l i) d=true)->(k<l.length->dZ (ab l k) d=false)->(∀x∈l,x≠d)->l.take k++d::l.drop k=lg l d
 |[],d,k,hk,_,_,_=>by obtain rfl:k=0:=by simpa using hk
                      rfl
 |e::r,d,0,_,_,hn,bj=>by
  have h1:dZ e d=false:=hn (by simp)
  have h2:dZ d e=true:=by
   cases h3:dZ d e
   ·exact absurd (CV h1 h3) (bj e (by simp))
   ·rfl
  simp[lg,h2]
 |e::r,d,k+1,hk,h,hn,bj=>by
  have h2:dZ d e=false:=aaf (h 0 (by omega))
  have ih:=Qh (l:=r) (d:=d) (k:=k) (by simpa using hk) (λi hi=>h (i+1) (by omega)) (λhl=>hn (by simpa using hl)) (λx hx=>bj x (by simp[hx]))
  simp[lg,h2,ih]
theorem aaA (s:Server) (d:au):
 Fn Tryz.prog 249 [s.av,d.av] (AV.bool (jy s d)):=by
 refine Fn.go 9 Tryz.func249 Tryz.ntmps249 (λW I a U=>?_)
 refine bM λI a w U=>?_
 refine U.o (mN (aw .tt aL)) λU=>?_
 refine U.o (.cl (Gt s.waits (qH d) _ (λv _=>Fn.val (Pp v d)))) λU=>?_
 refine ai λI a w U=>?_
 refine U.rt ?_
 exact bG (by unfold jy;rw[<-yP];simp)
theorem Ij (l:List au) (d:au) (h:l.length<=1048575):
 Fn Tryz.prog 250 [bm l,d.av] (bm (ef l d)):=by
 refine Fn.go 31 Tryz.func250 Tryz.ntmps250 (λW I a U=>?_)
 refine bt λI a w U=>?_
 refine U.o (.cl (AY ..)) λU=>?_
 refine zt ?_
 refine cz (λae=>?_) λae=>?_
 ·refine bH λI a w U=>?_
  refine U.o (bY (tN l (by omega)) (aw .r aL)) λU=>?_
  refine ai λI a w U=>?_
  refine U.rt ?_
  exact congrArg (AV.rows 3) (by unfold ef;rw[if_pos ae])
 ·refine ai λI a w U=>?_
  refine St.lo (σ:=Nat) (5::(run 14 11 [])) ⟨λk=>[(5,AV.int k)],λk=>[],λk=>k<=l.length/\∀i,i<k->dZ (ab l i) d=true⟩ (λk=>l.length-k) 0 U ?aJ ?aK
  case aJ=>exact⟨Nat.zero_le _,λi hi=>by omega⟩
  case aK=>
   rintro k I a w aj U
   obtain⟨hk,aN⟩:=aj
   refine wp_seq<|wp_seq<|U.dk ?_
   refine oY ?_
   refine .q .T (.cl (CK ..)) ?_
   refine bn ?_
   refine .nil ?_
   intro I a w U
   refine aY ?_
   refine cz (λah=>?_) λah=>?_
   ·refine aI λI a w U=>?_
    exact U.ag (k+1) (⟨by omega,λi h1=>by rcases Nat.lt_succ_iff_lt_or_eq.1 h1 with h|h;exact aN i h;rw[h];exact ah.2⟩)
   ·refine zt ?_
    refine U.da 5 ?_
    simp only[TD]
    refine bn ?_
    refine gj.oW (CW l (by omega)) (aw .r aL) ?_
    refine bT ?_
    refine .o (.li [d.cells] iX (.u .nil)) ?_
    refine .nil ?_
    intro I a w U
    obtain⟨xo,U⟩:=U.Ce (d:=26)
    refine U.eT [0] (Zo _ (l.map au.cells) d.cells k (by rw[List.length_map];exact hk) (by rw[List.length_map];omega) (λr hr=>by obtain⟨u,_,rfl⟩:=List.mem_map.1 hr;rfl) rfl) (aw .tt (aw .tt (aw .tt aL))) rfl (by decide) rfl λI a w U=>?_
    refine ai λI a w U=>?_
    refine U.rt ?_
    exact congrArg (AV.rows 3) (by unfold ef;rw[if_neg (by omega),<-Qh hk aN (λhl=>by rcases ah with h|h;omega;exact h) (P1 ae),List.map_append,List.map_cons,List.map_take,List.map_drop])
theorem Qi (s:Server) (slot:Int) (h:rW s) (h0:cL s.site=true) (hl:s.aG.length=3) (jX:0<=slot/\slot<3):
 Fn Tryz.prog 187 [s.av,AV.int slot] ((fM s slot).av):=by
 refine Fn.go 44 Tryz.func187 Tryz.ntmps187 (λW I a U=>?_)
 obtain⟨h1,⟨h2,h3⟩,⟨h4,h5⟩,h6,h7⟩:=h
 refine bH λI a w U=>?_
 refine U.alloc rfl dr eb λb4 I a w U=>?_
 refine zt ?_
 refine U.da 14 ?_
 simp only[TD]
 refine dq ?_
 refine .o (.c1 (Hd _ h0)) ?_
 refine lF ?_
 refine .o (.bd eb (.k (.k (.k (.k (.k bf.nil)))))) ?_
 refine gj.alloc dr eb<|.nil ?_
 intro I a w U
 obtain⟨b5,U⟩:=U.tm (d:=5) rfl
 refine bt λI a w U=>?_
 refine U.o (.cl (Dm s.ao slot h2 h3)) λU=>?_
 refine lE λI a w U=>?_
 refine U.o (.cl (Dm s.waits slot h4 h5)) λU=>?_
 refine lE λI a w U=>?_
 refine U.o (.cl (Ps s.aD slot h6)) λU=>?_
 refine jT λI a w U=>?_
 refine U.ret rfl (.cons (.sx 0) aX.nil) ?_
 rfl
theorem Qj (l vs:List aB) (hc:cn l=true) (hv:cn vs=true):
 Fn Tryz.prog 270 [bX l,bX vs] (AV.dx [bX (iJ l vs),AV.bool (decide (l.length+vs.length<=80))]):=by
 refine Fn.go 33 Tryz.func270 Tryz.ntmps270 (λW I a U=>?_)
 have hl:=fV hc
 have pw:=fV hv
 have jO:=pW hc
 have pY:=pW hv
 have rB:=(xd.1 hv).2.2
 refine bk λI a w U=>?_
 refine U.o (bY (kh.fn (vu l (by omega) (λu hu=>by have:=jO u hu;omega))) (aw .r aL)) λU=>?_
 refine aU λI a w U=>?_
 refine St.lo (σ:=Nat) (6::(8::(run 13 13 []))) ⟨λk=>[(13,AV.int k),(6,bX (iJ l (vs.take k)))],λk=>[],λk=>k<=vs.length⟩ (λk=>vs.length-k) 0 U ?aJ ?aK
 case aJ=>exact Nat.zero_le _
 case aK=>
  rintro k I a w aj U
  have hk:k<=vs.length:=aj
  refine ai λI a w U=>?_
  refine cz (λae=>?_) λae=>?_
  ·refine aF λI a w U=>?_
   refine U.alloc rfl bA dE λb8 I a w U=>?_
   refine ai λI a w U=>?_
   obtain⟨I,U⟩:=U.fb 0 8
   refine aF λI a w U=>?_
   refine U.o (.c1 (mS ..)) λU=>?_
   refine U.o (.cl (oj ..)) λU=>?_
   refine ai λI a w U=>?_
   refine cz (λah=>?_) λah=>?_
   ·refine aF λI a w U=>?_
    refine U.o (bY (Dw (iJ l (vs.take k)) (ab vs k) (by have:=GB l vs k;omega) (λu hu=>by have:=Xb jO pY k u hu;omega) (by have:=pY _ (aV ae);omega)) (aw .r (aw (.t rfl) aL))) λU=>?_
    refine aI λI a w U=>?_
    have U:=U.drop 0
    refine U.again (k+1) ?iM ?iN (by rfl) ?iO (by repeat(first|exact Env.le_rfl|refine Env.jf rfl ?_))
    case iM=>omega
    case iN=>exact ae
    case iO=>exact(Env.dK rfl (by rfl) (Env.dK rfl (by first|exact congrArg bX (Ov rB ae ah)|exact congrArg bX (Pb ae (by omega))) Env.le_nil))
   ·refine aA λI a w U=>?_
    have U:=U.drop 0
    refine U.again (k+1) ?nO ?nP (by rfl) ?nQ (by repeat(first|exact Env.le_rfl|refine Env.jf rfl ?_))
    case nO=>omega
    case nP=>exact ae
    case nQ=>exact(Env.dK rfl (by rfl) (Env.dK rfl (by first|exact congrArg bX (Ov rB ae ah)|exact congrArg bX (Pb ae (by omega))) Env.le_nil))
  ·refine zt ?_
   refine mA λI a w U=>?_
   refine U.rt ?_
   exact(by rw[List.take_of_length_le (by omega),X1];rfl)
theorem aaB (s:Server) (d:au) (x:AV):
 Fn Tryz.prog 249 [s.X2 x,d.av] (AV.bool (jy s d)):=by
 refine Fn.go 9 Tryz.func249 Tryz.ntmps249 (λW I a U=>?_)
 refine bM λI a w U=>?_
 refine U.o (mN (aw .tt aL)) λU=>?_
 refine U.o (.cl (Gt s.waits (qH d) _ (λv _=>Fn.val (Pp v d)))) λU=>?_
 refine ai λI a w U=>?_
 refine U.rt ?_
 exact bG (by unfold jy;rw[<-yP];simp)
theorem aaC (b:Nat) (s:Server) (x:AV) (d:au):
 jK Tryz.prog 269 [d.av,AV.val (.pointer (some ⟨b,0,none⟩))] [Own.box b 61 [AV.int s.site,AV.bool s.up,uJ s.aG,bX s.ao,bX s.waits,bm s.aD,x]] [Own.box b 61 [AV.int s.site,AV.bool s.up,uJ s.aG,bX s.ao,bX s.waits,bm s.aD,x]] (AV.bool (!jy s d)):=by
 refine jK.intro 8 Tryz.func269 rfl Tryz.ntmps269 rfl (by kernel_rfl) (λW I a U=>?_)
 refine bt λI a w U=>?_
 refine U.o (.c2 (aaB s d x)) λU=>?_
 refine aA λI a w U=>?_
 refine U.de () [0] rfl (.cons (.t rfl) .nil) trivial rfl rfl
theorem aaD {l ds:List au} {k:Nat} (hn:l.length+ds.length<=80) (hk:k<ds.length):Fn Tryz.prog 238 [bm ((ds.take k).foldl ef l),(ab ds k).av] (bm ((ds.take (k+1)).foldl ef l)):=by
 have h2:=Pa l ds k
 have:=Ig ((ds.take k).foldl ef l) (ab ds k) (by omega)
 rwa[<-O8 hk] at this
theorem nR.zero (l:List Answer) (v:Answer):nR l v 0 false []:=⟨Nat.zero_le _,by simp,by simp⟩
theorem aaE {q:Call} {k:Nat} (hk:k<=q.az.length) (h:q.az.length<=k):oE q k=q.aP++kO q:=by rw[Px q k hk];unfold kO;rw[List.take_of_length_le h]
theorem aaF (q:Call) (n:Value) (hg:∀y∈q.az,dB y=true) (hl:q.az.length<=1048576):
 Fn Tryz.prog 232 [q.yz n] (bm (eW q)):=by
 refine Fn.go 23 Tryz.func232 Tryz.ntmps232 (λW I a U=>?_)
 refine aA λI a w U=>?_
 refine U.l0 λb5 I a w U=>?_
 obtain⟨I,U⟩:=U.fr 0 5
 have U:=U.drop 0
 refine aA λI a w U=>?_
 refine St.lo (σ:=Nat) (run 2 3 (run 16 6 [])) ⟨λk=>[(4,AV.int k),(3,bm ((q.az.take k).foldl km []))],λk=>[],λk=>k<=q.az.length⟩ (λk=>q.az.length-k) 0 U ?aJ ?aK
 case aJ=>exact Nat.zero_le _
 case aK=>
  rintro k I a w aj U
  have hk:k<=q.az.length:=aj
  refine ck λI a w U=>?_
  refine cz (λae=>?_) λae=>?_
  ·refine lE λI a w U=>?_
   refine U.o (.cl (If _ _ (pg (acc:=[]) rfl (wG hg k)).1 (pT (hg _ (aV ae))))) λU=>?_
   refine aU λI a w U=>?_
   refine U.again (k+1) ?iM ?iN (by rfl) ?iO (by repeat(first|exact Env.le_rfl|refine Env.jf rfl ?_))
   case iM=>omega
   case iN=>exact ae
   case iO=>exact(Env.dK rfl (by rfl) (Env.dK rfl (by exact congrArg bm (by rw[wD ae];rfl)) Env.le_nil))
  ·refine zt ?_
   refine aA λI a w U=>?_
   refine U.rt ?_
   exact congrArg bm (by rw[List.take_of_length_le (by omega)];rfl)
theorem aaG (q:Call) (n:Value) (t:Int) (hg:∀y∈q.az,dB y=true) (hl:q.az.length<=1048576) (hn:q.aP.length<=1048576):
 jK Tryz.prog 258 [q.yz n,AV.int t] [Own.row n 63 3 (q.aP.map au.cells)] [] (l7 {q with aP:=q.aP++kO q} t).av:=by
 refine c7.intro 54 Tryz.func258 rfl Tryz.ntmps258 rfl (by kernel_rfl) (λW I a U=>?_)
 have jO:bN (eW q)=true:=(pg (l:=q.az) (acc:=[]) rfl hg).1
 refine sr<|U.box rfl .tt λb2 I a w U=>U.alloc rfl dQ gD λb4 I a w U=>?_
 refine bH λI a w U=>?_
 refine U.o (.c1 (aaF q n hg hl)) λU=>?_
 refine aA λI a w U=>?_
 refine St.lo (σ:=Nat×Value) (run 2 6 (run 37 10 [])) ⟨λ⟨k,v⟩=>[(6,AV.int k)],λ⟨k,v⟩=>[Own.row v 63 3 ((oE q k).map au.cells),Own.box b2 39 [AV.int q.an,AV.int q.num,AV.int q.kind,jg q.keys,AV.int q.val,bm q.ctx,AV.int q.bD,AV.int q.end_,AV.bool q.over,AV.int q.aq.time,AV.int q.aq.site,qj q.az,AV.val v],Own.box b4 39 [AV.val (.int .i64 0),AV.val (.int .i64 0),AV.val (.int .i64 0),AV.rows 1 [],AV.val (.int .i64 0),AV.rows 3 [],AV.val (.int .i64 0),AV.val (.int .i64 0),AV.val (.bool false),AV.val (.int .i64 0),AV.val (.int .i64 0),AV.rows 9 [],AV.rows 3 []]],λ⟨k,v⟩=>k<=q.az.length⟩ (λ⟨k,v⟩=>q.az.length-k) (0,n) U ?aJ ?aK
 case aJ=>exact Nat.zero_le _
 case aK=>
  rintro⟨k,v⟩ I a w aj U
  have hk:k<=q.az.length:=aj
  dsimp only at U
  refine ck λI a w U=>?_
  refine cz (λae=>?_) λae=>?_
  ·refine gz λI a w U=>?_
   refine U.o (.cl (Z1 _ _ jO)) λU=>?_
   refine U.alloc rfl l5 jU λb7 I a w U=>?_
   refine ai λI a w U=>?_
   obtain⟨I,U⟩:=U.fb 3 7
   refine U.dk ?_
   refine nx ?_
   refine .o (.c2 (yd ..))<|.nil ?_
   intro I a w U
   refine aY ?_
   refine U.cd (λah=>?_) λah=>?_
   ·refine U.dt 11 ?_
    simp only[TD]
    refine tv ?_
    refine .o (.bd fL (.k (.t bf.nil))) ?_
    refine .o (.li [au.cells ⟨(ab q.az k).key,bx (eW q) (ab q.az k).key⟩] iX (.u .nil)) ?_
    refine .nil ?_
    intro I a w U
    refine U.append 0 rfl dJ cH rfl .tt .r rfl (by have:=Py q k hk;simp;omega) λHX a w U=>?_
    refine U.o .fv λU=>?_
    try have akq:=U.eJ 0 rfl
    refine ai λI a w U=>?_
    rw[cA,ZG ae ah] at U
    refine aI λI a w U=>?_
    have U:=U.drop 3
    exact U.ag (k+1,HX) (ae)
   ·refine aI λI a w U=>?_
    have U:=U.drop 3
    rw[ZH ae (by rw[ah];simp)] at U
    exact U.ag (k+1,v) (ae)
  ·refine wp_exit<|cN<|cN<|gw<|aY<|wp_seq<|wp_seq ?_
   rw[aaE hk (by omega)] at U
   refine aF λI a w U=>?_
   refine U.o (rz 0 dJ .tt rfl) λU=>?_
   refine ai λI a w U=>?_
   refine cz (λal=>?_) λal=>?_
   ·refine aI λI a w U=>?_
    obtain⟨I,U⟩:=U.fu 0 12 1
    refine aA λI a w U=>?_
    refine U.de () [] rfl (.cons (.sx 2) .nil) trivial rfl ?_
    exact(by unfold l7;rw[if_pos (by apply List.length_eq_zero_iff.1;rw[List.length_map] at al;exact Int.ofNat_eq_zero.1 al)];rfl)
   ·refine wp_skip<|aY<|wp_seq ?_
    obtain⟨I,U⟩:=U.fu 0 12 1
    refine aA λI a w U=>?_
    refine U.de () [] rfl (.cons (.sx 2) .nil) trivial rfl ?_
    exact(by unfold l7;rw[if_neg (λe=>al (by rw[show q.aP++kO q=[] from e];rfl))];rfl)
theorem aaH {a:Answer} {s:cw} (h:dB a=true) (U:sd s):(!dL s&&mT a s)=bP a.be.aq s:=by
 rcases U with rfl|U
 ·rw[ZO h];rfl
 ·rw[HR h U]
  have:dL s=false:=by simp[db,aQ] at U;simp[dL];intro e;rw[e] at U;simp at U
  rw[this];rfl
theorem aaI {q:Call} {k:Nat} (h:∀a∈q.az,dB a=true) (hk:q.az.length<=k):qN q k=kO q:=by
 have hS:∀key,sd (bx (eW q) key):=λkey=>sh (pg (acc:=[]) rfl h).1 key
 have key:∀l:List Answer,(∀a∈l,dB a=true)->(l.filter λa=>!dL (bx (eW q) a.key)&&mT a (bx (eW q) a.key)).map (λa=>(⟨a.key,bx (eW q) a.key⟩:au))=(l.map (oh (eW q))).flatten:=by
  intro l
  induction l with
  |nil=>intro _;rfl
  |cons a r ih=>
   intro hl
   have ih:=ih λx hx=>hl x (by simp[hx])
   have ht:=aaH (hl a (by simp)) (hS a.key)
   rw[List.map_cons,List.flatten_cons,<-ih]
   unfold oh
   by_cases hp:bP a.be.aq (bx (eW q) a.key)=true
   ·rw[List.filter_cons_of_pos (by rw[ht];exact hp),if_pos hp];rfl
   ·rw[List.filter_cons_of_neg (by rw[ht];exact hp),if_neg hp];rfl
 unfold qN kO
 rw[List.take_of_length_le hk]
 exact key _ h
theorem aaJ (q:Call) (n:Value) (hg:∀a∈q.az,dB a=true) (hl:q.az.length<=1048576):
 Fn Tryz.prog 255 [q.yz n] (bm (kO q)):=by
 refine Fn.go 51 Tryz.func255 Tryz.ntmps255 (λW I a U=>?_)
 have U:=U.gC (sz:=3) 63
 refine aI λI a w U=>?_
 have U:=U.xO (t:=3) rfl (eO 3 _)
 refine aU λI a w U=>?_
 refine St.lo (σ:=Nat) (3::(5::(run 10 13 []))) ⟨λk=>[(13,AV.int k),(3,bm ((q.az.take k).foldl km []))],λk=>[Own.row (.slice none 0 0) 63 3 []],λk=>k<=q.az.length⟩ (λk=>q.az.length-k) 0 U ?aJ ?aK
 case aJ=>exact Nat.zero_le _
 case aK=>
  rintro k I a w aj U
  have hk:k<=q.az.length:=aj
  dsimp only at U
  refine ai λI a w U=>?_
  refine cz (λae=>?_) λae=>?_
  ·refine aF λI a w U=>?_
   refine U.alloc rfl fj od λb5 I a w U=>?_
   refine ai λI a w U=>?_
   obtain⟨I,U⟩:=U.fb 1 5
   refine bt λI a w U=>?_
   refine U.o (.cl (Ie ((q.az.take k).foldl km []) (ab q.az k).be.aO (pg (acc:=[]) rfl (wG hg k)).1 (pT (hg _ (aV ae))))) λU=>?_
   rw[show iK ((q.az.take k).foldl km []) (ab q.az k).be.aO=(q.az.take (k+1)).foldl km [] from by rw[dW ae,List.foldl_append];rfl] at U
   refine aI λI a w U=>?_
   have U:=U.drop 1
   exact U.ag (k+1) (ae)
  ·refine wp_exit<|cN<|cN<|gw<|aY<|wp_seq ?_
   rw[show(q.az.take k).foldl km []=eW q from by rw[List.take_of_length_le (by omega)];rfl] at U
   refine ck λI a w U=>?_
   refine St.lo (σ:=Nat×Value) (6::(run 2 8 (run 24 26 []))) ⟨λ⟨k,v⟩=>[(26,AV.int k),(6,AV.val v)],λ⟨k,v⟩=>[Own.row v 63 3 ((qN q k).map au.cells)],λ⟨k,v⟩=>k<=q.az.length⟩ (λ⟨k,v⟩=>q.az.length-k) (0,.slice none 0 0) U ?cU ?cV
   case cU=>exact Nat.zero_le _
   case cV=>
    rintro⟨k,v⟩ I a w aj U
    have hk:k<=q.az.length:=aj
    dsimp only at U
    refine ai λI a w U=>?_
    refine cz (λah=>?_) λah=>?_
    ·refine aF λI a w U=>?_
     refine U.alloc rfl fj od λb8 I a w U=>?_
     refine ai λI a w U=>?_
     obtain⟨I,U⟩:=U.fb 1 8
     refine bk λI a w U=>?_
     refine U.o (.cl (HV (eW q) (ab q.az k).key)) λU=>?_
     refine U.alloc rfl l5 jU λb9 I a w U=>?_
     refine ai λI a w U=>?_
     obtain⟨I,U⟩:=U.fb 2 9
     refine U.o .la λU=>?_
     refine U.o (.c1 (vf ..)) λU=>?_
     refine bt λI a w U=>?_
     refine U.q .T (.cl (Gy ..)) λU=>?_
     refine ai λI a w U=>?_
     refine U.cd (λal=>?_) λal=>?_
     ·refine bt λI a w U=>?_
      refine U.o (.bd fL (.k (.t bf.nil))) λU=>?_
      refine U.o (.li [au.cells ⟨(ab q.az k).key,bx (eW q) (ab q.az k).key⟩] iX (.u .nil)) λU=>?_
      refine U.append 0 rfl dJ cH rfl .tt .r rfl (by have:=YM q k;simp;omega) λIk a w U=>?_
      rw[cA,YK ah al] at U
      refine aI λI a w U=>?_
      have U:=U.drop 1
      exact U.ag (k+1,Ik) (ah)
     ·refine aA λI a w U=>?_
      have U:=U.drop 1
      rw[YL ah al] at U
      exact U.ag (k+1,v) (ah)
    ·refine wp_exit<|cN<|cN<|gw<|aY<|wp_seq ?_
     rw[aaI hg (by omega)] at U
     obtain⟨I,U⟩:=U.fr 0 6
     refine aA λI a w U=>?_
     refine U.rt ?_
     rfl
theorem vj.snoc {l:List aB} {I0:Im} {xs:List (tQ l I0)} {x:tQ l I0} (h:vj xs) (hx:x.1.1+1+xs.length=l.length):vj (xs++[x]):=λj y e=>by
 rcases Nat.lt_or_ge j xs.length with hj|hj
 ·rw[List.getElem?_append_left hj] at e;exact h j y e
 ·rw[List.getElem?_append_right hj] at e
  cases hk:j-xs.length with
  |zero=>rw[hk] at e;obtain rfl:x=y:=by simpa using e
         rw[show j=xs.length from by omega];exact hx
  |succ k=>rw[hk] at e;simp at e
theorem aaK (l:List aB) (n:Nat) (hn:1<=n) (I0:Im) (w0:World) (hm:dV w0 I0) (G:Nat->Prop) (hG:∀b cs,I0 b=some cs->¬G b) (p:Value) (hp:(AV.ptr [bX l]).h I0 p):
 SeqStopsK Fence.wide n Tryz.prog 278 #[p] (λx:tQ l I0=>#[.int .i64 x.1.1,x.1.2]) (Kept G) (λxs=>xs.length=l.length/\vj xs) vj l.length w0:=λlp J Jx W hW hJ hJx hY h0=>by
 have hmW:dV W I0:=λb cs e=>by
  obtain⟨T,fr,k⟩:=hm b cs e
  exact⟨T,fr,(hW.block b (hm.lt e)).trans k⟩
 obtain⟨vs,pw,DN,yZ⟩:∃vs:List (List Value),vs.length=l.length/\(AV.ptr [AV.rows 7 (vs.map GD)]).h I0 p/\∀i,i<l.length->bJ I0 (ab l i).cells (vs.getD i [])/\(AV.agg (ab l i).cells).h I0 (.agg (ab vs i).toArray)/\(ab vs i).length=7:=by
  obtain⟨q,e,h1,cs,h2,h3⟩:=hp
  generalize hd:(cs.toList.drop q.off).take 1=ds at h3
  match ds,h3 with
  |[v],h3=>
   obtain⟨vs,e1,e4,e2,e3⟩:=Wc h3.1.1
   rw[List.map_congr_left λr hr=>Nd (e4 r hr)] at e2
   refine⟨vs,by simpa using e1,⟨q,e,h1,cs,h2,by show bJ _ _ (List.take 1 _);rw[hd];exact⟨⟨e2,h3.1.2⟩,trivial⟩⟩,λi hi=>?_⟩
   have:=e3 i (by simpa using hi)
   rw[SO aB.cells l i hi,show l[i]! =ab l i from by simp[ab,hi]] at this
   have hv:i<vs.length:=by rw[e1];simpa using hi
   have he:vs.getD i []=ab vs i:=by simp[ab,hv]
   exact⟨this,⟨_,rfl,by rw[<-he];exact this⟩,e4 _ (aV hv)⟩
 refine V9 (F:=lu) 19 Tryz.func278 rfl Tryz.ntmps278 (args:=[.val (.func (.yield lp) #[] #[]),.val p]) rfl hmW ⟨rfl,rfl,trivial⟩ λa U=>?_
 have hQ:∀a w,¬bodyPost Tryz.prog Tryz.f278 (λe W'=>(∃v,e=.returned v)/\((∃xs:List (tQ l I0),(xs.length=l.length/\vj xs)/\J xs W')\/∃pre,vj pre/\Jx pre W')) .outgrown a w:=λa w h=>by obtain⟨⟨v,e⟩,_⟩:=h;cases e
 have DO:∀{A B:World} {xs},A.grownBy B none->J xs A->J xs B:=λh k=>hJ _ _ _ none k h (λr e=>by cases e)
 have aaN:∀{A B:World} {xs},A.grownBy B none->Jx xs A->Jx xs B:=λh k=>hJx _ _ _ none k h (λr e=>by cases e)
 refine wpIn_seq (ya (by exact hQ) rfl ?_)
 refine U.oU 1 DN .l1 λ{I a w} U=>?_
 have hle:=U.cW (t:=4) rfl
 refine bk λI a w U=>?_
 refine nn ?_
 refine wpIn_block (wpIn_loop (λa w=>∃(k:Nat) (pre:List (tQ l I0)),St ⟨w,I0,19,lu⟩ I0 [] [(3,.int ((k:Int)-1)),(1,.val p),(0,.val (.func (.yield lp) #[] #[]))] a w/\pre.length+k=l.length/\vj pre/\J pre w) (λa _=>GN a) ?_ ?_)
 ·refine⟨l.length,[],?_,by simp,λj x e=>by simp at e,DO (U.grown rfl) h0⟩
  refine(U.base [(3,.int .i64 ((l.length:Int)-1)),(1,p),(0,.func (.yield lp) #[] #[])] (by rw[<-pw];rfl))
 rintro a w ⟨k,pre,U,hk,hd,Qk⟩
 have hmu:=Ny U
 refine wpIn_seq (wpIn_seq (ya (by exact hQ) rfl ?_))
 refine aF λI a w U=>?_
 refine nn ?_
 refine wpIn_cond_split (U.env 8 _ rfl) (λae=>?_) (λae=>?_)
 ·refine wpIn_skip ?_
  refine aY ?_
  have ae:1<=k:=by simp only[B] at ae;omega
  refine wpIn_seq (wpIn_block (wpIn_seq (wpIn_region_lit ?_)))
  refine Cu (by exact hQ) [_,_] [_,_,_,_,_,_] rfl ?_
  have lV:k<=vs.length:=by omega
  refine aF λI a w U=>?_
  refine U.oU 1 DN .l1 λ{I a w} U=>?_
  refine bk λI a w U=>?_
  have hJ2:=DO (U.grown rfl) Qk
  have hx:((k:Int)-1).toNat<l.length:=by omega
  refine nn (wpListIn_plain rfl λK hK=>?_)
  have GX:a.eval (.tmp 12)=.int .i64 ((((k:Int)-1).toNat:Nat):Int):=by
   rw[show a.eval (.tmp 12)=.int .i64 ((k:Int)-1) from U.env 12 _ rfl];congr 1;omega
  have h16:a.eval (.tmp 16)=.agg (ab vs ((k:Int)-1).toNat).toArray:=by
   have:(AV.agg (GD (ab vs ((k:Int)-1).toNat))).h I (a.eval (.tmp 16)):=U.env 16 _ rfl
   rw[<-Nd (yZ _ hx).2.2] at this
   exact Wb this
  have nq:(#[.tmp 12,.tmp 16]:Array Operand).map a.eval=#[.int .i64 ((((k:Int)-1).toNat:Nat):Int),.agg (ab vs ((k:Int)-1).toNat).toArray]:=by simp[GX,h16]
  refine V8 (λ_=>trivial) rfl (U.env 11 _ rfl) nq (hY pre ⟨(((k:Int)-1).toNat,.agg (ab vs ((k:Int)-1).toNat).toArray),hx,(yZ _ hx).2.1⟩ w hJ2 (by omega)) λe w' he=>?_
  have Bb:=hd.snoc (x:=⟨(((k:Int)-1).toNat,.agg (ab vs ((k:Int)-1).toNat).toArray),hx,(yZ _ hx).2.1⟩) (by show((k:Int)-1).toNat+1+_=_;omega)
  rcases he with⟨rfl,Il,wi⟩|⟨rfl,Il⟩
  ·refine⟨_,rfl,hK _ _ ?_⟩
   have U:=(U.FE [(3,.int .i64 ((k:Int)-1)),(1,p),(0,.func (.yield lp) #[] #[])] hG wi).Cv (d:=17) (x:=.bool true) (v:=.bool true) (show 17<19 from by decide) rfl
   refine Cu (by exact hQ) [] [_] rfl ?_
   refine bH λI a w U=>?_
   refine nn ?_
   refine aY ?_
   refine wpIn_cond_split (U.env 18 _ rfl) (λah=>by cases ah) (λah=>?_)
   refine wpIn_skip ?_
   refine zA ?_
   refine aY ?_
   refine ya (by exact hQ) rfl ?_
   refine bk λI a w U=>?_
   have h3:St _ _ _ _ _ _:=U.base [(3,.int .i64 ((((k-1:Nat)):Int)-1)),(1,p),(0,.func (.yield lp) #[] #[])] (by rw[show(((k-1:Nat):Int)-1)=(k:Int)-1-1 from by omega];rfl)
   refine wpList_nil (aY ?_)
   refine⟨⟨k-1,_,h3,by simp;omega,Bb,DO (U.grown rfl) Il⟩,?_⟩
   rw[hmu,Ny (k:=k-1) h3];omega
  ·refine⟨_,rfl,hK _ _ ?_⟩
   have U:=(U.blank w' []).Cv (d:=17) (x:=.bool false) (v:=.bool false) (show 17<19 from by decide) rfl
   refine Cu (by exact hQ) [] [_] rfl ?_
   refine bH λI a w U=>?_
   refine nn ?_
   refine aY ?_
   refine wpIn_cond_split (U.env 18 _ rfl) (λah=>?_) (λah=>by cases ah)
   refine wpIn_ret ?_
   refine vN (xK (xK (vN ?_)))
   exact⟨U.defers,_,results_none rfl _ _ _,⟨_,rfl⟩,.inr ⟨_,Bb,aaN (U.grown rfl) Il⟩⟩
 ·refine wpIn_exit ?_
  refine cN (cN (gw ?_))
  have Bc:k=0:=by
   have ae:¬(0<=(k:Int)-1):=by simpa using ae
   omega
  exact⟨U.defers,_,results_none rfl _ _ _,⟨_,rfl⟩,.inl ⟨_,⟨by omega,hd⟩,DO (U.grown rfl) Qk⟩⟩
theorem aaR (l:List Call) (an:Int) {k:Nat} (hk:k<=l.length) (h:l.length<=k):tL l an k=tK l an:=by
 have key:∀k,k<=l.length->tL l an k=(l.take k).foldl (λn q=>if q.an=an then q.num else n) 0:=by
  intro k
  induction k with
  |zero=>intro _;simp[tL]
  |succ k ih=>intro h;rw[dW (by omega),List.foldl_append];show(if _ then _ else tL l an k)=_;rw[ih (by omega)];rfl
 unfold tK
 rw[key k hk,List.take_of_length_le h]
theorem aaS {w:aE} {e:Ev} (h:e.kind=1):jd w e=((kQ w e).1,(kQ w e).2):=by unfold jd;rw[if_pos h]
theorem aaT {w:aE} {e:Ev} (h:¬e.kind=1) (hn:cq w.calls e.an<0):jd w e=(w,false):=by unfold jd;rw[if_neg h];dsimp only;rw[if_pos hn]
theorem aaU {w:aE} {e:Ev} (h:¬e.kind=1) (hn:0<=cq w.calls e.an) (h3:e.kind=3):jd w e=({w with calls:=w.calls.set (cq w.calls e.an).toNat {ab w.calls (cq w.calls e.an).toNat with over:=true}},true):=by unfold jd;rw[if_neg h];dsimp only;rw[if_neg (by omega),if_pos h3]
theorem aaV {w:aE} {e:Ev} (h:¬e.kind=1) (hn:0<=cq w.calls e.an) (h3:¬e.kind=3):jd w e=({w with ar:=eF w.ar (jP (ab w.calls (cq w.calls e.an).toNat))},true):=by unfold jd;rw[if_neg h];dsimp only;rw[if_neg (by omega),if_neg h3]
theorem Ql:
 Fn Tryz.prog 35 [] (cX.av):=by
 refine Fn.go 17 Tryz.func35 Tryz.ntmps35 (λW I a U=>?_)
 refine sr<|U.alloc rfl df dz λb0 I a w U=>?_
 refine zt ?_
 refine U.make rfl wx oc LZ rfl .c .c (by exact⟨by decide,by decide⟩) λb3 a w U=>?_
 obtain⟨I,U⟩:=U.fr 1 3
 refine U.o (.bd x5 (.k bf.nil)) λU=>?_
 refine U.alloc rfl df x5 λb1 I a w U=>?_
 refine ai λI a w U=>?_
 have U:=U.gC (sz:=7) 61
 refine ai λI a w U=>?_
 refine St.lo (σ:=Nat×Value) (2::(run 11 5 [])) ⟨λ⟨k,p⟩=>[(5,AV.int k)],λ⟨k,p⟩=>[Own.box b0 30 [AV.val (.int .i64 0),AV.rows 7 [],AV.rows 15 [],AV.rows 13 [],AV.rows 1 []],Own.gone,Own.box b1 30 [AV.int 0,AV.val p,AV.val (.slice none 0 0),AV.val (.slice none 0 0),bQ [[],[]]],Own.row p 61 7 ((yB k).map Server.cells)],λ⟨k,p⟩=>k<=4⟩ (λ⟨k,p⟩=>4-k) (0,.slice none 0 0) U ?aJ ?aK
 case aJ=>exact Nat.zero_le _
 case aK=>
  rintro⟨k,p⟩ I a w aj U
  have hk:k<=4:=aj
  dsimp only at U
  refine ai λI a w U=>?_
  refine cz (λae=>?_) λae=>?_
  ·refine aA λI a w U=>?_
   refine U.dt 5 ?_
   simp only[TD]
   refine cD ?_
   refine .o (bY (YF k (by omega)) (aw (.t rfl) aL)) ?_
   refine .o (.li [(wY k).cells] Cs (.u .nil)) ?_
   refine .nil ?_
   intro I a w U
   refine U.append 3 rfl tw cm rfl .tt .r rfl (by rw[List.length_map,G3];simp;omega) λv13 a w U=>?_
   refine U.o .fv λU=>?_
   try have akr:=U.eJ 3 rfl
   refine ai λI a w U=>?_
   rw[cA] at U
   refine aA λI a w U=>?_
   exact U.ag (k+1,v13) (by show k+1<=4;omega)
  ·refine wp_exit<|cN<|cN<|gw<|aY<|wp_seq ?_
   have HN:k=4:=by omega
   subst HN
   obtain⟨I,U⟩:=U.fu 3 1 2
   have U:=U.np (q:=2) 2 rfl rfl (eO 15 _)
   have U:=U.np (q:=3) 2 rfl rfl (eO 13 _)
   refine aA λI a w U=>?_
   refine U.ret rfl (.cons (.sx 0) aX.nil) ?_
   rfl
theorem aaX {s:Server} {slot:Int} (hg:bF s) (hm:(eI s slot).2.2=true):∀y∈[(eI s slot).2.1],kD y:=by
 have h:=De hm
 have hp:=w7 h
 intro y hy
 obtain rfl:=List.mem_singleton.1 hy
 rw[Hm h]
 exact xb (DL (yY hg h) hp.2.1 hp.2.2.1)
theorem Qm:∀{ds l:List au} {x:au},x∈ds.foldl ef l↔x∈l\/x∈ds
 |[],l,x=>by simp
 |d::r,l,x=>by
  rw[List.foldl_cons,Qm,yX,List.mem_cons]
  constructor
  ·rintro((h1|h1)|h1)<;>simp[h1]
  ·rintro(h1|h1|h1)<;>simp[h1]
theorem Qn {l:List au} {d:au} (h:bN l=true) (hd:db d.aq=true):qv l (fN l d):=λkey=>by
 rw[yQ key h hd]
 split
 ·exact AM _ _
 ·exact uZ _
theorem aaY {a b:List au} (ha:bN a=true) (hb:bN b=true):qv a (iK a b):=λkey=>by rw[A1 ha hb];exact AM _ _
theorem Qo {w:aE} {σ:Nat} {D:List au} {v:aB} (hc:m6 w σ D) (hD:bN D=true) (hv:bU w σ v) (aj:db v.aq=true) (hl:qv v.aO D):m6 w σ (fN D v.aT):=λd hd=>by
 have hle:=Qn (d:=v.aT) hD aj
 rcases G8 hd with rfl|hd
 ·exact⟨v,hv,rfl,yH hl hle⟩
 ·obtain⟨u,h1,h2,h3⟩:=hc d hd
  exact⟨u,h1,h2,yH h3 hle⟩
theorem aaZ {w:aE} {σ:Nat} {D E:List au} (hc:m6 w σ D) (he:m6 w σ E) (hD:bN D=true) (hE:bN E=true):m6 w σ (iK D E):=λd hd=>by
 rcases Og hd with hd|hd
 ·obtain⟨u,h1,h2,h3⟩:=hc d hd
  exact⟨u,h1,h2,yH h3 (aaY hD hE)⟩
 ·obtain⟨u,h1,h2,h3⟩:=he d hd
  exact⟨u,h1,h2,yH h3 (P6 hD hE)⟩
theorem Qp {l:List Answer} {a:Answer} (h:a∈l) (key:Int):bP (kd l key) (bx a.be.aO key)=false:=by
 induction l with
 |nil=>simp at h
 |cons b r ih=>
  show bP (du (bx b.be.aO key) (kd r key)) _=false
  rcases List.mem_cons.1 h with rfl|h
  ·exact AM _ _
  ·exact qE (ih h) (yh _ _)
theorem aa0 {l:List Call} {p:Call} {i:Nat} {x:Int} (hi:i<l.length):fF (l++[p]) i x=if 0<=fF l i x then fF l i x else if p.an=x then((l.length-(i+1):Nat):Int) else-1:=by
 unfold fF
 rw[List.drop_append_of_le_length (by omega)]
 unfold cM
 rw[List.findIdx?_append]
 cases h:(l.drop (i+1)).findIdx? (lK x) with
 |some k=>simp
 |none=>
  by_cases hp:p.an=x
  ·simp[List.findIdx?_cons,lK,hp]
  ·simp[List.findIdx?_cons,lK,hp]
theorem aa1 {q:Call} {t:Int} (h:eX q t=true):bN (dP q)=true:=by
 have hp:=vr h
 unfold dP
 split
 ·exact hp.1
 ·rename_i he
  split
  ·rename_i hk;exact wS hp.1 (PU h hk he)
  ·exact(ud hp.1 hp.2.1).1
theorem xp (l:List au) (key:Int) (hl:bN l=true):
 Fn Tryz.prog 24 [bm l,AV.int key] ((bx l key).av):=by
 refine Fn.go 12 Tryz.func24 Tryz.ntmps24 (λW I a U=>?_)
 refine sr<|U.alloc rfl l5 jU λb4 I a w U=>?_
 refine bH λI a w U=>?_
 refine U.o (.cl (yr l)) λU=>?_
 refine ai λI a w U=>?_
 refine U.cd (λae=>?_) λae=>?_
 ·exfalso;rw[hl] at ae;cases ae
  skip
 ·refine aF λI a w U=>?_
  refine U.o (.cl (HV l key)) λU=>?_
  refine ai λI a w U=>?_
  refine U.ret rfl (.cons (.sx 0) aX.nil) ?_
  rfl
end Go.Proofs.YtjepcfpkclegdaaGreat

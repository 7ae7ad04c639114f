/- Part 49: rules of the proofs, contracts of functions, plain facts. -/
import Derived.Test.YtoeioeimmfpefaaGreatP26
set_option linter.unusedVariables false
set_option linter.unusedSimpArgs false
set_option maxRecDepth 100000
set_option maxHeartbeats 4000000
namespace Go.Proofs.YtoeioeimmfpefaaGreat
open Go Go.RowKit
attribute [local irreducible] wpList Code.wp Ok
def sv (w:be) (i:Nat):Server:=ab w.au i
def Y9 (q p:Call):Prop:=p.aC=q.aC∧p.num=q.num∧p.kind=q.kind∧p.keys=q.keys∧p.val=q.val∧p.ctx=q.ctx
def LJ (w:be) (i:Nat) (s:Server):be:={w with au:=w.au.set i s}
theorem Za {w:be} (hg:cK w) {i:Nat} (hi:i<4) (s:Server) (j:Nat):sv (LJ w i s) j=if j=i then s else sv w j:=s7 (by rw[hg.au];exact hi)
theorem Zb {n:Int} (h:cJ n=true):n.toNat<4∧bV n=((n.toNat/2:Nat):Int)∧(n/2).toNat=n.toNat/2∧((n.toNat:Nat):Int)=n:=by
 have h1:=kS.1 h
 unfold bV;rw[h,if_pos rfl];omega
theorem Zc (q:Call) (m:aD) (t:Int):(c4 q m t).val=q.val:=by
 have e:∀q':Call,∀t,(jW q' t).val=q'.val:=fun q' t=>by unfold jW;split<;>rfl
 unfold c4 iI lz ml
 dsimp only
 repeat' split
 all_goals first|rfl|exact e _ _
theorem Zd (q:Call) (m:aD) (t:Int):Y9 q (c4 q m t):=by
 obtain⟨a1,a2,_,_,a5,a6,a7⟩:=Jl q m t
 exact⟨a1,a2,a7,a6,Zc q m t,a5⟩
theorem Ze {ao more:List aD} {m:aD} (h:m∈dQ ao more):m∈ao∨m∈more:=by
 unfold dQ at h
 rcases List.mem_append.1 h with h|h
 ·exact .inl h
 ·exact .inr (List.mem_of_mem_take h)
structure Idle (w:be):Prop where
 ob:∀i,i<4→(sv w i).aq=[]∧(sv w i).waits=[]∧(sv w i).aH=[]
 words:∀m∈w.ao,(m.kind=3∨m.kind=4∨m.kind=9∨m.kind=10)∧m.aq=[]∧m.waits=[]∧m.aH=[]∧m.yes=false
 seen:∀l∈w.seen,l=[]
 calls:∀q∈w.calls,q.ctx=[]∧∀a∈q.ax,a.yes=false
def rI (s:Server):Prop:=s.aq=[]∧s.waits=[]∧s.aH=[]
def rJ (m:aD):Prop:=(m.kind=3∨m.kind=4∨m.kind=9∨m.kind=10)∧m.aq=[]∧m.waits=[]∧m.aH=[]∧m.yes=false
theorem LK {s:Server} (h:rI s):rI (fX s):=by
 have e:gD s=s:=CF (IS fun _ i hi=>by rw[h.2.1] at hi;simp at hi)
 unfold fX;rw[e];exact h
theorem Zf {s:Server} {m:aD} (h:rI s) (hm:rJ m):rI (eX s m).1∧∀x∈(eX s m).2,rJ x:=by
 obtain⟨h1,h2,h3⟩:=h
 have hs:rI s:=⟨h1,h2,h3⟩
 have tu:∀x∈([]:List aD),rJ x:=fun x hx=>by simp at hx
 unfold eX
 split
 ·obtain⟨hk,m1,m2,m3,m4⟩:=hm
  unfold dY
  rcases hk with hk|hk|hk|hk<;>simp only[hk]<;>simp only[show((3:Int)=1)=False by decide,show((4:Int)=1)=False by decide,show((9:Int)=1)=False by decide,show((10:Int)=1)=False by decide,show((4:Int)=3)=False by decide,show((9:Int)=3)=False by decide,show((10:Int)=3)=False by decide,show((4:Int)=5)=False by decide,show((9:Int)=5)=False by decide,show((10:Int)=5)=False by decide,
   show((4:Int)=6)=False by decide,show((9:Int)=6)=False by decide,show((10:Int)=6)=False by decide,show((4:Int)=7)=False by decide,show((9:Int)=7)=False by decide,show((10:Int)=7)=False by decide,show((4:Int)=8)=False by decide,show((9:Int)=8)=False by decide,show((10:Int)=8)=False by decide,show((4:Int)=9)=False by decide,show((4:Int)=10)=False by decide,show((10:Int)=9)=False by decide,if_true,if_false]
  ·refine⟨hs,?_⟩
   unfold gW
   rw[h1]
   split
   ·split
    ·intro x hx
     obtain rfl:x=_:=by simpa using hx
     exact⟨.inr (.inl rfl),rfl,rfl,rfl,rfl⟩
    ·exact tu
   ·exact tu
  ·exact⟨hs,tu⟩
  ·unfold gp
   split
   ·split
    ·exact⟨hs,fun x hx=>by obtain rfl:x=_:=(by simpa using hx);exact⟨.inr (.inr (.inr rfl)),rfl,rfl,rfl,rfl⟩⟩
    ·split
     ·refine⟨LK ?_,fun x hx=>by obtain rfl:x=_:=(by simpa using hx);exact⟨.inr (.inr (.inr rfl)),rfl,rfl,rfl,rfl⟩⟩
      refine⟨?_,?_,?_⟩
      ·show hZ (s.aq.filter _) m.aq=[];rw[h1,m1];rfl
      ·show hZ (s.waits.filter _) m.waits=[];rw[h2,m2];rfl
      ·show m.aH.foldl dV (s.aH.filter _)=[];rw[h3,m3];rfl
     ·exact⟨hs,tu⟩
   ·exact⟨hs,tu⟩
  ·refine⟨?_,tu⟩
   unfold mi
   split
   ·refine LK ⟨?_,?_,?_⟩
    ·show s.aq.filter _=[];rw[h1];rfl
    ·show s.waits.filter _=[];rw[h2];rfl
    ·show s.aH.filter _=[];rw[h3];rfl
   ·exact hs
 ·exact⟨hs,tu⟩
theorem LL {s:Server} (h:rI s) (slot:Int):rJ (fg s slot):=by
 obtain⟨h1,h2,h3⟩:=h
 refine⟨.inr (.inr (.inl rfl)),?_,?_,?_,rfl⟩
 ·show s.aq.filter _=[];rw[h1];rfl
 ·show s.waits.filter _=[];rw[h2];rfl
 ·show s.aH.filter _=[];rw[h3];rfl
theorem Zg {s:Server} (h:rI s):∀m∈js s,rJ m:=by
 intro m hm
 unfold js at hm
 split at hm
 ·have e:sP s=[]:=by unfold sP;rw[h.2.1];rfl
  rw[h.2.2,e] at hm
  simp only[List.map_nil,List.flatten_nil,List.append_nil] at hm
  obtain⟨i,_,rfl⟩:=List.mem_map.1 hm
  exact LL h _
 ·simp at hm
theorem Zh {q:Call} (hk:q.kind≠1):∀m∈iv q,rJ m:=by
 intro m hm
 unfold iv at hm
 split at hm
 ·obtain⟨ws,h1,h2⟩:=List.mem_flatten.1 hm
  obtain⟨x,hx,rfl⟩:=List.mem_map.1 h1
  have Ar:x.kind=3∧x.aq=[]∧x.waits=[]∧x.aH=[]∧x.yes=false:=by
   unfold asks at hx
   rw[if_neg hk] at hx
   rcases List.mem_append.1 hx with hx|hx
   ·obtain⟨_,_,rfl⟩:=List.mem_map.1 hx;exact⟨rfl,rfl,rfl,rfl,rfl⟩
   ·obtain⟨_,_,rfl⟩:=List.mem_map.1 hx;exact⟨rfl,rfl,rfl,rfl,rfl⟩
  unfold iH at h2
  rcases List.mem_cons.1 h2 with rfl|h2
  ·exact⟨.inl Ar.1,Ar.2⟩
  ·obtain rfl:m=_:=by simpa using h2
   exact⟨.inl Ar.1,Ar.2⟩
 ·simp at hm
theorem LM:∀{l:List Answer} {D:List ar},(∀a∈l,a.yes=false)→l.foldl ma D=D
 |[],_,_=>rfl
 |a::r,D,h=>by
  rw[List.foldl_cons]
  have e:ma D a=D:=by unfold ma;rw[h a (by simp)];simp
  rw[e];exact LM fun x hx=>h x (by simp[hx])
theorem Zi {q:Call} {m:aD} {t:Int} (hq:q.ctx=[]∧∀a∈q.ax,a.yes=false) (hw:q.end_=0) (hm:rJ m):((c4 q m t).ctx=[]∧∀a∈(c4 q m t).ax,a.yes=false)∧(0<(c4 q m t).end_→hP (c4 q m t)=[]):=by
 have xu:(q.ctx=[]∧∀a∈q.ax,a.yes=false)∧(0<q.end_→hP q=[]):=⟨hq,fun e=>by omega⟩
 have read:∀p:Call,p.ctx=[]→(∀a∈p.ax,a.yes=false)→p.kind≠1→(p.ctx=[]∧∀a∈p.ax,a.yes=false)∧(0<p.end_→hP p=[]):=fun p h1 h2 h3=>⟨⟨h1,h2⟩,fun e=>by
  unfold hP
  rw[if_neg (by omega),if_neg h3,LM h2,h1]⟩
 obtain⟨hk,m1,m2,m3,m4⟩:=hm
 unfold c4
 split
 ·split
  ·rw[if_neg (fun h=>by omega)];exact xu
  ·rename_i sh
   unfold iI
   split
   ·split
    ·split
     ·have hg:∀a∈c7 q.ax (dw m),a.yes=false:=fun a ha=>by
       rcases rz.1 ha with rfl|ha
       ·exact m4
       ·exact hq.2 a ha
      unfold lz
      dsimp only
      split
      ·exact read _ hq.1 hg sh
      ·unfold jW
       split
       ·exact read _ hq.1 hg sh
       ·exact read _ hq.1 hg sh
     ·exact xu
    ·rw[m4];exact xu
   ·exact xu
 ·exact xu
theorem Idle.send {w:be} (h:Idle w) {ws:List aD} (hw:∀m∈ws,rJ m):Idle {w with ao:=dQ w.ao ws}:=
 ⟨h.ob,fun m hm=>by
  rcases Ze hm with hm|hm
  ·exact h.words m hm
  ·exact hw m hm,h.seen,h.calls⟩
theorem Idle.set {w:be} (hg:cK w) (h:Idle w) {i:Nat} (hi:i<4) {s:Server} (hs:rI s):Idle (LJ w i s):=
 ⟨fun j hj=>by
  rw[Za hg hi]
  split
  ·exact hs
  ·exact h.ob j hj,h.words,h.seen,h.calls⟩
theorem Idle.step {w:be} (h0:cK w) (h:Idle w) (e:Ev) (hk:e.kind=2→∀q∈w.calls,q.kind≠1):Idle (ei w e).1:=by
 have hg:cK {w with time:=w.time+1}:=h0.later
 have h1:Idle {w with time:=w.time+1}:=⟨h.ob,h.words,h.seen,h.calls⟩
 have sh:e.kind=2→∀q∈({w with time:=w.time+1}:be).calls,q.kind≠1:=hk
 unfold ei
 dsimp only
 revert hg h1 sh
 generalize ({w with time:=w.time+1}:be)=x
 clear h0 h hk
 intro hg h hk
 split
 ·rename_i hke
  unfold ia
  split
  ·unfold jt
   split
   ·rename_i hc
    rw[Bool.and_eq_true] at hc
    refine⟨h.ob,h.words,h.seen,fun q hq=>?_⟩
    rcases List.mem_append.1 hq with hq|hq
    ·exact h.calls q hq
    ·obtain rfl:q=_:=by simpa using hq
     have:=qp.1 hc.1
     exact⟨h.seen _ (bx (by rw[hg.seen];omega)),fun a ha=>by simp[mV,wO] at ha⟩
   ·exact h
  ·dsimp only
   split
   ·exact h
   ·rename_i hn
    obtain⟨a1,a2,a3⟩:=nW (l:=x.calls) (aC:=e.aC) (by omega)
    split
    ·refine⟨h.ob,h.words,h.seen,fun q hq=>?_⟩
     rcases uF hq with rfl|⟨k,hk,_,rfl⟩
     ·have:=h.calls _ (bx a1);exact this
     ·exact h.calls _ (bx hk)
    ·exact h.send (Zh (hk (by omega) _ (bx a1)))
 ·split
  ·unfold gX
   split
   ·rename_i hr
    simp only[aQ,Bool.and_eq_true,decide_eq_true_eq] at hr
    have nq:ab x.ao e.word.toNat∈x.ao:=bx (by omega)
    have hm:=hg.words _ nq
    have LN:=h.words _ nq
    have h2:Idle (if e.kind=5∨e.fN=0 then{x with ao:=x.ao.take e.word.toNat++x.ao.drop (e.word.toNat+1)} else x):=by
     split
     ·exact⟨h.ob,fun m hm=>h.words m (ze hm),h.seen,h.calls⟩
     ·exact h
    have rv:cK (if e.kind=5∨e.fN=0 then{x with ao:=x.ao.take e.word.toNat++x.ao.drop (e.word.toNat+1)} else x):=by
     split
     ·have hs:=uy x.ao e.word.toNat
      exact⟨hg.time,hg.au,hg.site,Nat.le_trans hs.length_le hg.ao,fun m hm=>hg.words m (hs.subset hm),hg.seen,hg.m7,hg.calls⟩
     ·exact hg
    have ib:(if e.kind=5∨e.fN=0 then{x with ao:=x.ao.take e.word.toNat++x.ao.drop (e.word.toNat+1)} else x).au=x.au:=by split<;>rfl
    dsimp only
    revert h2 rv ib
    generalize (if e.kind=5∨e.fN=0 then{x with ao:=x.ao.take e.word.toNat++x.ao.drop (e.word.toNat+1)} else x)=y
    intro h2 rv ib
    split
    ·exact h2
    ·split
     ·unfold mn
      dsimp only
      split
      ·exact h2
      ·rename_i hn
       obtain⟨a1,a2,a3⟩:=nW (l:=y.calls) (aC:=(ab x.ao e.word.toNat).to-10) (by omega)
       have hb:=Zi (m:=ab x.ao e.word.toNat) (t:=y.time) (h2.calls _ (bx a1)) (sZ a3).1 LN
       have LO:∀q∈y.calls.set (bW y.calls ((ab x.ao e.word.toNat).to-10)).toNat (c4 (ab y.calls (bW y.calls ((ab x.ao e.word.toNat).to-10)).toNat) (ab x.ao e.word.toNat) y.time),q.ctx=[]∧∀a∈q.ax,a.yes=false:=fun q hq=>by
        rcases uF hq with rfl|⟨k,hk,_,rfl⟩
        ·exact hb.1
        ·exact h2.calls _ (bx hk)
       split
       ·rename_i he
        refine⟨h2.ob,h2.words,fun l hl=>?_,LO⟩
        rcases List.mem_or_eq_of_mem_set hl with hl|rfl
        ·exact h2.seen l hl
        ·exact hb.2 he
       ·exact⟨h2.ob,h2.words,h2.seen,LO⟩
     ·rename_i bB
      have oP:0≤(ab x.ao e.word.toNat).to∧(ab x.ao e.word.toNat).to≤3:=by
       have:=(mr hm).2.2.1
       simp only[j7,cJ,aQ,Bool.or_eq_true,Bool.and_eq_true,decide_eq_true_eq] at this bB
       omega
      have hi:(ab x.ao e.word.toNat).to.toNat<4:=by omega
      have hb:=Zf (s:=sv y (ab x.ao e.word.toNat).to.toNat) (h2.ob _ hi) LN
      have:=(h2.set rv hi hb.1).send hb.2
      rw[←ib]
      exact this
   ·exact h
  ·split
   ·rename_i jn
    rw[Bool.and_eq_true] at jn
    obtain⟨hi,_,_,_⟩:=Zb jn.2
    have hs:=h.ob _ hi
    unfold eQ
    dsimp only
    split
    ·exact h.set hg hi hs
    split
    ·exact h.set hg hi hs
    split
    ·exact h.send (Zg hs)
    split
    ·exact(h.set hg hi (s:=ly (sv x e.at_.toNat) e.slot) hs).send (ws:=[fg (ly (sv x e.at_.toNat) e.slot) e.slot]) fun m hm=>by
      obtain rfl:m=_:=by simpa using hm
      exact LL (s:=ly (sv x e.at_.toNat) e.slot) hs _
    ·exact h
   ·exact h
theorem Zj:Idle ej:=by
 refine⟨by decide,fun m hm=>by simp[ej] at hm,by decide,fun q hq=>by simp[ej] at hq⟩
theorem LP {R:be→Prop} (h0:R ej) (l:List Ev) (hs:∀w e,e∈l→cK w→w.time≤99999→R w→R (iU w e).1):R (gq l)∧iR (gq l)=true:=by
 unfold gq
 split
 ·exact⟨h0,zs⟩
 ·have key:∀(m:List Ev) (w:be),(∀e∈m,e∈l)→R w→iR w=true→R (m.foldl (fun w e=>(jX w e).1) w)∧iR (m.foldl (fun w e=>(jX w e).1) w)=true:=by
   intro m
   induction m with
   |nil=>exact fun w _ h1 h2=>⟨h1,h2⟩
   |cons e r ih=>
    intro w hm h1 h2
    rw[List.foldl_cons]
    have e1:jX w e=iU w e:=by unfold jX;rw[if_pos h2]
    rw[e1]
    have hg:=nV.1 h2
    exact ih _ (fun x hx=>hm x (by simp[hx])) (hs w e (hm e (by simp)) hg.1 hg.2 h1) (De h2 e)
  exact key l ej (fun _ h=>h) h0 zs
theorem EP (l:List Ev):iR (gq l)=true:=(LP (R:=fun _=>True) trivial l fun _ _ _ _ _ _=>trivial).2
theorem Idle.iU {w:be} (h0:cK w) (h:Idle w) (e:Ev) (hk:e.kind=2→∀q∈w.calls,q.kind≠1):Idle (iU w e).1:=by
 unfold Go.Proofs.YtoeioeimmfpefaaGreat.iU
 split
 ·exact h.step h0 e hk
 ·exact h
theorem Zk {w:be} (h:∀q∈w.calls,q.kind≠1) (e:Ev) (he:e.kind=1→e.call≠1):∀q∈(ei w e).1.calls,q.kind≠1:=by
 have h1:∀q∈({w with time:=w.time+1}:be).calls,q.kind≠1:=h
 unfold ei
 dsimp only
 revert h1
 generalize ({w with time:=w.time+1}:be)=x
 clear h
 intro h
 split
 ·unfold ia
  split
  ·rename_i hk
   unfold jt
   split
   ·intro q hq
    rcases List.mem_append.1 hq with hq|hq
    ·exact h q hq
    ·obtain rfl:q=_:=by simpa using hq
     exact he hk
   ·exact h
  ·dsimp only
   split
   ·exact h
   ·rename_i hn
    obtain⟨a1,_,_⟩:=nW (l:=x.calls) (aC:=e.aC) (by omega)
    split
    ·intro q hq
     rcases uF hq with rfl|⟨k,hk,_,rfl⟩
     ·show(ab x.calls _).kind≠1;exact h _ (bx a1)
     ·exact h _ (bx hk)
    ·exact h
 ·split
  ·unfold gX
   split
   ·have hc:(if e.kind=5∨e.fN=0 then{x with ao:=x.ao.take e.word.toNat++x.ao.drop (e.word.toNat+1)} else x).calls=x.calls:=by split<;>rfl
    dsimp only
    revert hc
    generalize (if e.kind=5∨e.fN=0 then{x with ao:=x.ao.take e.word.toNat++x.ao.drop (e.word.toNat+1)} else x)=y
    intro hc
    split
    ·rw[hc];exact h
    ·split
     ·unfold mn
      dsimp only
      split
      ·rw[hc];exact h
      ·rename_i hn
       obtain⟨a1,_,_⟩:=nW (l:=y.calls) (aC:=(ab x.ao e.word.toNat).to-10) (by omega)
       have key:∀q∈y.calls.set (bW y.calls ((ab x.ao e.word.toNat).to-10)).toNat (c4 (ab y.calls (bW y.calls ((ab x.ao e.word.toNat).to-10)).toNat) (ab x.ao e.word.toNat) y.time),q.kind≠1:=fun q hq=>by
        rcases uF hq with rfl|⟨k,hk,_,rfl⟩
        ·rw[(Zd _ _ _).2.2.1];rw[hc] at a1⊢;exact h _ (bx a1)
        ·rw[hc] at hk⊢;exact h _ (bx hk)
       split<;>exact key
     ·exact hc▸h
   ·exact h
  ·split
   ·unfold eQ
    dsimp only
    repeat' split
    all_goals exact h
   ·exact h
theorem Zl {l:List Ev} (h:∀e∈l,e.kind=1→e.call≠1):Idle (gq l):=by
 refine(LP (R:=fun w=>Idle w∧∀q∈w.calls,q.kind≠1) ⟨Zj,fun q hq=>by simp[ej] at hq⟩ l fun w e he h0 _ hb=>⟨hb.1.iU h0 e fun _=>hb.2,?_⟩).1.1
 unfold iU
 split
 ·exact Zk hb.2 e (h e he)
 ·exact hb.2
end Go.Proofs.YtoeioeimmfpefaaGreat

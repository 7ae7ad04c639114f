/- Part 50: rules of the proofs, contracts of functions, plain facts. -/
import Derived.ProofKit
import Derived.OpenShut
import Derived.Deep.DeepHandedRow
import Derived.Deep.Slices
import Derived.Lib.LaidTab
import Derived.LaidSub
import Derived.Carry
import Derived.Test.YtoeioeimmfpefaaGreatP49
set_option linter.unusedVariables false
set_option linter.unusedSimpArgs false
set_option maxRecDepth 100000
set_option maxHeartbeats 4000000
namespace Go.Proofs.YtoeioeimmfpefaaGreat
open Go Go.RowKit
attribute [local irreducible] wpList Code.wp Ok
theorem m4 {α:Type} [Inhabited α] {l m:List α} {i:Nat} (h:i<l.length):ab (l++m) i=ab l i:=by
 unfold ab;simp[List.getD_eq_getElem?_getD,List.getElem?_append_left h]
theorem LP {R:be→Prop} (h0:R ej) (l:List Ev) (hs:∀w e,e∈l→cK w→w.time≤99999→R w→R (iU w e).1):R (gq l)∧iR (gq l)=true:=by
 unfold gq
 split
 ·exact⟨h0,zs⟩
 ·have key:∀(m:List Ev) (w:be),(∀e∈m,e∈l)→R w→iR w=true→R (m.foldl (fun w e=>(jX w e).1) w)∧iR (m.foldl (fun w e=>(jX w e).1) w)=true:=by
   intro m
   induction m with
   |nil=>exact fun w _ h1 h2=>⟨h1,h2⟩
   |cons e r ih=>
    intro w hm h1 h2
    rw[List.foldl_cons]
    have e1:jX w e=iU w e:=by unfold jX;rw[if_pos h2]
    rw[e1]
    have hg:=nV.1 h2
    exact ih _ (fun x hx=>hm x (by simp[hx])) (hs w e (hm e (by simp)) hg.1 hg.2 h1) (De h2 e)
  exact key l ej (fun _ h=>h) h0 zs
theorem EP (l:List Ev):iR (gq l)=true:=(LP (R:=fun _=>True) trivial l fun _ _ _ _ _ _=>trivial).2
def cR (a b:List Call):Prop:=b=a∨(∃q,b=a++[q])∨∃i q,i<a.length∧gG (ab a i)=true∧b=a.set i q
theorem ach (w:be) (e:Ev):((ei w e).1.au=w.au∧cR w.calls (ei w e).1.calls)∨((ei w e).1.calls=w.calls∧∃i s,(ei w e).1.au=w.au.set i s):=by
 show _∨((ei w e).1.calls=w.calls∧_)
 have hs:({w with time:=w.time+1}:be).au=w.au:=rfl
 have hc:({w with time:=w.time+1}:be).calls=w.calls:=rfl
 unfold ei
 dsimp only
 revert hs hc
 generalize ({w with time:=w.time+1}:be)=x
 intro hs hc
 rw[←hs,←hc]
 clear hs hc w
 split
 ·left
  unfold ia
  split
  ·unfold jt
   split
   ·exact⟨rfl,.inr (.inl ⟨_,rfl⟩)⟩
   ·exact⟨rfl,.inl rfl⟩
  ·dsimp only
   split
   ·exact⟨rfl,.inl rfl⟩
   ·rename_i hn
    obtain⟨a1,_,a3⟩:=nW (l:=x.calls) (aC:=e.aC) (by omega)
    split
    ·exact⟨rfl,.inr (.inr ⟨_,_,a1,a3,rfl⟩)⟩
    ·exact⟨rfl,.inl rfl⟩
 ·split
  ·unfold gX
   split
   ·have hc:(if e.kind=5∨e.fN=0 then{x with ao:=x.ao.take e.word.toNat++x.ao.drop (e.word.toNat+1)} else x).calls=x.calls:=by split<;>rfl
    have hs:(if e.kind=5∨e.fN=0 then{x with ao:=x.ao.take e.word.toNat++x.ao.drop (e.word.toNat+1)} else x).au=x.au:=by split<;>rfl
    dsimp only
    revert hc hs
    generalize (if e.kind=5∨e.fN=0 then{x with ao:=x.ao.take e.word.toNat++x.ao.drop (e.word.toNat+1)} else x)=y
    intro hc hs
    split
    ·exact .inl ⟨hs,.inl hc⟩
    ·split
     ·left
      unfold mn
      dsimp only
      split
      ·exact⟨hs,.inl hc⟩
      ·rename_i hn
       obtain⟨a1,_,a3⟩:=nW (l:=y.calls) (aC:=(ab x.ao e.word.toNat).to-10) (by omega)
       have:=hc
       split
       ·exact⟨hs,.inr (.inr ⟨_,_,by rw[←hc];exact a1,by rw[←hc];exact a3,by rw[←hc]⟩)⟩
       ·exact⟨hs,.inr (.inr ⟨_,_,by rw[←hc];exact a1,by rw[←hc];exact a3,by rw[←hc]⟩)⟩
     ·exact .inr ⟨hc,_,_,rfl⟩
   ·exact .inl ⟨rfl,.inl rfl⟩
  ·split
   ·unfold eQ
    dsimp only
    split
    ·exact .inr ⟨rfl,_,_,rfl⟩
    split
    ·exact .inr ⟨rfl,_,_,rfl⟩
    split
    ·exact .inl ⟨rfl,.inl rfl⟩
    split
    ·exact .inr ⟨rfl,_,_,rfl⟩
    ·exact .inl ⟨rfl,.inl rfl⟩
   ·exact .inl ⟨rfl,.inl rfl⟩
theorem cR.len {a b:List Call} (h:cR a b):a.length≤b.length∧b.length≤a.length+1:=by
 rcases h with rfl|⟨q,rfl⟩|⟨i,q,_,_,rfl⟩<;>simp
theorem cR.ended {a b:List Call} (h:cR a b) {i:Nat} (hi:i<a.length) (he:gG (ab a i)=false):ab b i=ab a i:=by
 rcases h with rfl|⟨q,rfl⟩|⟨k,q,h1,h2,rfl⟩
 ·rfl
 ·exact m4 hi
 ·rw[s7 h1,if_neg]
  rintro rfl
  rw[he] at h2;cases h2
theorem aci (w:be) (e:Ev):cR w.calls (ei w e).1.calls:=by
 rcases ach w e with h|h
 ·exact h.2
 ·exact .inl h.1
theorem acj (w:be) (e:Ev):cR w.calls (iU w e).1.calls:=by
 unfold iU
 split
 ·exact aci w e
 ·exact .inl rfl
def runN (w:be) (l:List Ev):be:=l.foldl (fun w e=>(jX w e).1) w
theorem ack (w:be) (l m:List Ev):runN w (l++m)=runN (runN w l) m:=by unfold runN;rw[List.foldl_append]
theorem j0 {l:List Ev} (h:l.length≤2000):gq l=runN ej l:=by unfold gq;rw[if_neg (by omega)];rfl
theorem acm {l:List Ev} (h:l.length≤2000) (k:Nat):gq l=runN (gq (l.take k)) (l.drop k):=by
 rw[j0 h,j0 (l:=l.take k) (by rw[List.length_take];omega),←ack,List.take_append_drop]
theorem j1 {R:be→Prop}:∀{l:List Ev} {w:be},R w→(∀w e,e∈l→R w→R (jX w e).1)→R (runN w l)
 |[],_,h,_=>h
 |e::l,w,h,hs=>j1 (l:=l) (w:=(jX w e).1) (hs w e (by simp) h) fun w x hx h=>hs w x (by simp[hx]) h
theorem acn {w:be} (h:iR w=true) (e:Ev):jX w e=iU w e:=by unfold jX;rw[if_pos h]
theorem acp {w:be} (h:iR w=true) (l:List Ev):w.calls.length≤(runN w l).calls.length∧∀i,i<w.calls.length→gG (ab w.calls i)=false→ab (runN w l).calls i=ab w.calls i:=by
 refine(j1 (l:=l) (R:=fun x=>iR x=true∧w.calls.length≤x.calls.length∧∀i,i<w.calls.length→gG (ab w.calls i)=false→ab x.calls i=ab w.calls i) ⟨h,Nat.le_refl _,fun _ _ _=>rfl⟩ fun x e _ hx=>?_).2
 obtain⟨h1,h2,h3⟩:=hx
 have hc:=acj x e
 rw[acn h1]
 refine⟨De h1 e,Nat.le_trans h2 hc.len.1,fun i hi he=>?_⟩
 rw[hc.ended (by omega) (by rw[h3 i hi he];exact he),h3 i hi he]
theorem acr {l:List Ev} (h:l.length≤2000) (k:Nat):(gq (l.take k)).calls.length≤(gq l).calls.length∧∀i,i<(gq (l.take k)).calls.length→0<(ab (gq (l.take k)).calls i).end_→ab (gq l).calls i=ab (gq (l.take k)).calls i:=by
 have:=acp (w:=gq (l.take k)) (EP _) (l.drop k)
 rw[←acm h k] at this
 refine⟨this.1,fun i hi he=>this.2 i hi ?_⟩
 unfold gG
 rw[Bool.and_eq_false_iff];left
 simpa using fun e=>by omega
end Go.Proofs.YtoeioeimmfpefaaGreat
set_option linter.unusedVariables false
set_option linter.unusedSimpArgs false
namespace Go.Proofs.YtoeioeimmfpefaaGreat
open Go Go.RowKit Go.ChangeShapes Go.WideShapes Go.ChangeAt
section
variable {H:Type} {eO:TypeId×Value→H} {P:Program}
def oc (W:World):Im:=fun b=>match W.heap[b]? with
 |some (.cells cs _ _)=>some cs
 |_=>none
theorem MD (W:World):dr W (oc W):=fun b cs e=>by
 unfold oc at e
 split at e
 ·rename_i g0 T fr h;cases e;exact⟨T,fr,h⟩
 ·cases e
theorem Zt {W:World} {b:Nat} {cs:Array Value} {T:TypeId} {fr:Nat×Nat} (h:W.heap[b]?=some (.cells cs T fr)):oc W b=some cs:=by unfold oc;rw[h]
theorem LR {W:World} {a:Addr} {v:Value} (h:W.cell? a=some v):a.spot=none∧∃cs T fr,W.heap[a.block]?=some (.cells cs T fr)∧cs[a.off]?=some v:=by
 have hs:=World.cell?_spot h
 refine⟨hs,?_⟩
 unfold World.cell? at h
 rw[hs] at h
 split at h
 ·rename_i cs T fr he;exact⟨cs,T,fr,he,by simpa using h⟩
 ·simp at h
theorem Zu {W:World} {base:Nat} {a:Addr} {n:Nat} {g0:List Value} {cs:Array Value} {T:TypeId} {fr:Nat×Nat} (h:W.cells? base a n=some g0) (ha:W.heap[a.block]?=some (.cells cs T fr)):(cs.toList.drop a.off).take n=g0:=by
 obtain⟨_,hl,hc⟩:=World.cells?_some h
 apply List.ext_getElem?
 intro i
 rw[List.getElem?_take]
 split
 ·rename_i hi
  rw[←hc i hi,List.getElem?_drop]
  obtain⟨v,hv⟩:∃v,g0[i]?=some v:=⟨g0[i]'(by omega),by simp[hl,hi]⟩
  obtain⟨_,Ql,T2,fr2,h2,h3⟩:=LR ((hc i hi).trans hv)
  have hb:(a.add i).block=a.block:=by unfold Addr.add;split<;>rfl
  have ho:(a.add i).off=a.off+i:=by unfold Addr.add;split<;>simp_all
  rw[hb,ha] at h2
  cases h2
  rw[hc i hi,hv,←ho]
  simpa using h3
 ·rename_i hi
  rw[List.getElem?_eq_none (by omega)]
theorem ME {f:Func} {s:ChangeSpec} {apart fresh handsOn again:Bool} {W W':World} {args:Array Value} {v:Value} {ds gs:List (DataW H)} {before pa pv:List MemPlace}
 (hW:DataW.Whole eO P f.params.toList s.vars apart W args.toList ds gs before)
 (LS:∀(b:Nat) (sp:Nat→Bool) (hd:Bool),DataW.TrodAll eO P W' b sp hd f.resultTypes.toList (v.resultList f.resultTypes.size) (s.fn H (ds++gs)).results [])
 (ic:∀sp:Nat→Bool,(∀p∈before,sp p.block=true)→DataW.TrodAll eO P W' 0 sp true f.params.toList args.toList (s.fn H (ds++gs)).args pa)
 (LU:∀sp:Nat→Bool,(∀p∈before,sp p.block=true)→DataW.TrodVars eO P W' sp s.vars (s.fn H (ds++gs)).vars pv)
 (Au:before=pa++pv) (hb:Below W.heap.size W W')
 (al:∀(j:Nat) (t:TypeId) (r:Value),f.resultTypes[j]?=some t→(v.resultList f.resultTypes.size)[j]?=some r→Value.okWide P W' .any 0 t r):
 s.post eO P f apart fresh handsOn again W args v W':=by
 have bJ:=fun p hp=>hW.lt p hp
 have hold:∀p∈before,(fun b=>decide (b<W.heap.size)) p.block=true:=fun p hp=>by simpa using bJ p hp
 refine⟨ds,gs,before,[],pa,pv,hW,LS _ _ _,ic _ hold,LU _ hold,World.keptBut_mono (fun p hp=>⟨hp,?_⟩) (hb.frame (·∈before)),fun _=>?_⟩
 ·rw[Au,List.mem_append] at hp
  exact Or.inr hp
 ·obtain⟨_,_,_,_,_,hz,hn⟩:=hW
  refine⟨al,_,_,([]++pa)++pv,⟨[]++pa,pv,ChangeShapes.trodAll_append (ic _ (fun _ _=>rfl)) (LS _ _ _),LU _ (fun _ _=>rfl),rfl,?_,?_⟩,?_⟩
  ·intro b off hp
   have BX:MemPlace.cell b off∈before:=by rw[Au];simpa using hp
   rw[hb.frozen (p:=⟨b,off,none⟩) (bJ _ BX)]
   exact hz b off BX
  ·intro ha
   have:=hn ha
   rw[Au] at this
   simpa using this
  ·intro p hp _
   rw[Au]
   simpa using hp
end
section
variable {H:Type} {eO:TypeId×Value→H} {P:Program} {W:World}
def xv {α:Type} (eO:TypeId×Value→H) (P:Program) (W:World) (cf:α→List AV) (Fit:α→Prop) (t:TypeId):Prop:=
 ∀n cs x,DataW.trod eO P W 0 (fun _=>true) true n t cs=some x→∃y:α,bD (oc W) (cf y) cs∧Fit y
theorem Zv {α:Type} [Inhabited α] {cf:α→List AV} {Fit:α→Prop} {sz:Nat} {t e:TypeId} (hu:P.underlying t=some (.slice e)) (hc:P.cellsOf e=sz) (h0:0<sz) (cr:∀y,(cf y).length=sz) (ho:xv eO P W cf Fit e):
 xv eO P W (fun l:List α=>[AV.rows sz (l.map cf)]) (fun l=>∀y∈l,Fit y) t:=fun n cs x h=>by
 rcases Deep.open_slice hu h with⟨rfl,_⟩|⟨a,len,cap,m,n,D,Pl,rfl,_,Zw,AQ,hm,_,LV⟩
 ·exact⟨[],⟨⟨eb _ _,rfl⟩,trivial⟩,by simp⟩
 ·have hle:len≤m:=by rw[hm];split<;>omega
  rw[hc] at LV
  have ch:∀i:Nat,∃y:α,i<len→(∃g0,W.cells? 0 (a.add (i*sz)) sz=some g0∧bD (oc W) (cf y) g0)∧Fit y:=fun i=>by
   by_cases hi:i<len
   ·obtain⟨g0,h1,h2⟩:=LV i (by omega)
    obtain⟨y,hy,hf⟩:=ho _ _ _ h2
    exact⟨y,fun _=>⟨⟨g0,h1,hy⟩,hf⟩⟩
   ·exact⟨default,fun h=>absurd h hi⟩
  let g:Nat→α:=fun i=>(ch i).choose
  have hg:∀i,i<len→(∃g0,W.cells? 0 (a.add (i*sz)) sz=some g0∧bD (oc W) (cf (g i)) g0)∧Fit (g i):=fun i=>(ch i).choose_spec
  have ix:∀r∈((List.range len).map g).map cf,r.length=sz:=fun r hr=>by
   simp only[List.map_map,List.mem_map] at hr
   obtain⟨i,_,rfl⟩:=hr;exact cr _
  refine⟨(List.range len).map g,⟨⟨⟨some a,cap,by simp,by simpa using Zw,AQ,ix,?_,(fun h=>by cases h)⟩,rfl⟩,trivial⟩,?_⟩
  ·rcases Nat.eq_zero_or_pos len with hz|k4
   ·left;rw[hz];rfl
   ·right
    obtain⟨⟨Zx,BO,hh0⟩,_⟩:=hg 0 k4
    obtain⟨_,nj,ky⟩:=World.cells?_some BO
    have LW:=ky 0 (by omega)
    obtain⟨u,Zy⟩:∃u,Zx[0]?=some u:=⟨_,List.getElem?_eq_getElem (by omega)⟩
    rw[Zy] at LW
    obtain⟨LX,cs,T,fr,hb,_⟩:=LR LW
    have Zz:((a.add (0*sz)).add 0)=a:=by simp[Addr.add]
    rw[Zz] at hb LX
    refine⟨a,rfl,LX,cs,Zt hb,?_⟩
    have key:∀k,k≤len→bD (oc W) (((List.range k).map g).map cf).flatten ((cs.toList.drop a.off).take (k*sz)):=by
     intro k
     induction k with
     |zero=>intro _;simp[bD]
     |succ k ih=>
      intro hk
      have h1:=ih (by omega)
      obtain⟨⟨g0,ZA,ZB⟩,_⟩:=hg k (by omega)
      have ZC:(a.add (k*sz)).block=a.block:=by unfold Addr.add;split<;>rfl
      have ZD:(a.add (k*sz)).off=a.off+k*sz:=by unfold Addr.add;split<;>simp_all
      have h2:=Zu ZA (by rw[ZC];exact hb)
      rw[ZD] at h2
      rw[List.range_succ,List.map_append,List.map_append,List.flatten_append,Nat.succ_mul]
      have e3:(cs.toList.drop a.off).take (k*sz+sz)=(cs.toList.drop a.off).take (k*sz)++g0:=by
       rw[←h2,←List.drop_drop,List.take_add]
      rw[e3]
      refine h1.append ?_
      simpa using ZB
    have:=key len (Nat.le_refl _)
    have hlen:(((List.range len).map g).map cf).flatten.length=len*sz:=by
     rw[fj ix]
     simp
    rwa[hlen]
  ·intro y hy
   obtain⟨i,hi,rfl⟩:=List.mem_map.1 hy
   exact(hg i (by simpa using hi)).2
end
section
variable {H:Type} {eO:TypeId×Value→H} {P:Program} {W:World}
theorem ZE {v:Value} (h:∀cs,v≠.agg cs):v.cells.toList=[v]:=by
 cases v<;>first|rfl|exact absurd rfl (h _)
theorem Mz {α:Type} {cf:α→AV} {Fit:α→Prop} {t base:Nat} {v:Value} {d:DataW H} {ps:List MemPlace} (ho:xv eO P W (fun y=>[cf y]) Fit t) (bn:∀cs,v≠.agg cs) (h:DataW.Trod eO P W 0 (fun _=>true) true t v d ps):
 ∃y,(cf y).h (oc W) v∧Fit y:=by
 obtain⟨fuel,h⟩:=h
 rw[ZE bn] at h
 obtain⟨y,hy,hf⟩:=ho _ _ _ h
 exact⟨y,hy.1.1,hf⟩
theorem MB {t base e:Nat} {v:Value} (hu:P.underlying t=some (.slice e)) (al:Value.okWide P W .any base t v):∀cs,v≠.agg cs:=by
 rintro cs rfl
 simp[Value.okWide,hu,Cell.okWide,Cell.ok] at al
end
def ct.Deep (s:ct):Prop:=c8 s.time∧c8 s.site
def ar.Deep (d:ar):Prop:=c8 d.key∧d.aA.Deep
def aK.Deep (v:aK):Prop:=c8 v.key∧v.aA.Deep∧c8 v.val∧c8 v.aC∧c8 v.call∧∀d∈v.aS,d.Deep
def aD.Deep (m:aD):Prop:=c8 m.kind∧c8 m.bc∧c8 m.to∧c8 m.call∧c8 m.key∧m.aA.Deep∧c8 m.val∧True∧(∀d∈m.aS,d.Deep)∧c8 m.slot∧c8 m.bO∧(∀v∈m.aq,v.Deep)∧(∀v∈m.waits,v.Deep)∧∀d∈m.aH,d.Deep
def dt.Deep (s:dt):Prop:=c8 s.bO∧c8 s.er
def Server.Deep (s:Server):Prop:=c8 s.site∧True∧(∀x∈s.aR,x.Deep)∧(∀v∈s.aq,v.Deep)∧(∀v∈s.waits,v.Deep)∧(∀d∈s.aH,d.Deep)∧∀d∈s.bq,d.Deep
def Answer.Deep (a:Answer):Prop:=c8 a.key∧True∧a.bG.Deep
def Call.Deep (k:Call):Prop:=c8 k.aC∧c8 k.num∧c8 k.kind∧(∀n∈k.keys,c8 n)∧c8 k.val∧(∀d∈k.ctx,d.Deep)∧c8 k.bm∧c8 k.end_∧True∧k.aA.Deep∧(∀a∈k.ax,a.Deep)∧∀d∈k.aM,d.Deep
def be.Deep (w:be):Prop:=c8 w.time∧(∀s∈w.au,s.Deep)∧(∀m∈w.ao,m.Deep)∧(∀k∈w.calls,k.Deep)∧∀l∈w.seen,∀d∈l,d.Deep
def Ev.Deep (e:Ev):Prop:=c8 e.kind∧c8 e.at_∧c8 e.aC∧c8 e.word∧c8 e.fN∧c8 e.slot∧c8 e.call∧c8 e.a∧c8 e.b∧c8 e.c∧c8 e.val
end Go.Proofs.YtoeioeimmfpefaaGreat
set_option linter.unusedVariables false
set_option linter.unusedSimpArgs false
set_option maxRecDepth 100000
set_option maxHeartbeats 4000000
namespace Go.Proofs.YtoeioeimmfpefaaGreat
open Go Go.RowKit
attribute [local irreducible] wpList Code.wp Ok
section
variable {P:Program} {H:Type} {eO:TypeId×Value→H} {W:World}
theorem ZF {t:TypeId} (ht:P.underlying t=some (.int .u8)):xv eO P W Eb (fun _=>True) t:=fun n cs x h=>by
 obtain⟨k,rfl,_,hw⟩:=DataW.trod_int ht h
 simp only[Lit.wf,Bool.and_eq_true,decide_eq_true_eq] at hw
 have h0:0≤k:=hw.1
 have h1:k≤255:=hw.2
 refine⟨UInt8.ofNat k.toNat,⟨⟨?_,rfl⟩,trivial⟩,trivial⟩
 show Value.int .u8 k=Value.int .u8 ((UInt8.ofNat k.toNat).toNat:Int)
 rw[UInt8.toNat_ofNat']
 congr 1
 omega
end
theorem MA {H:Type} {eO:TypeId×Value→H} {W:World}:xv eO Tryz.prog W (fun l:List UInt8=>[bF l]) (fun l=>∀y∈l,True) 22:=
 Zv (t:=22) (sz:=1) (cf:=Eb) (by kernel_rfl) (by kernel_rfl) (by decide) (fun _=>rfl) (ZF (t:=5) (by kernel_rfl))
theorem ZG (l:List Ev):uu (gq l):=(nV.1 (EP l)).1.small
def bR (l:List Ev) (more:List UInt8):Int:=if more.length=0∨2000<l.length then 0 else(l.length:Int)*((ab more 0).toNat:Int)/256
theorem j2 (l:List Ev) (more:List UInt8):0≤bR l more∧bR l more≤l.length:=by
 unfold bR
 split
 ·omega
 ·have h:=(ab more 0).toNat_lt
  have h1:(l.length:Int)*((ab more 0).toNat:Int)≤l.length*255:=Int.mul_le_mul_of_nonneg_left (by omega) (by omega)
  have h2:0≤(l.length:Int)*((ab more 0).toNat:Int):=Int.mul_nonneg (by omega) (by omega)
  omega
theorem acu (l:List Ev) (more:List UInt8):
 Fn Tryz.prog 17 [FR l,bF more] (AV.int (bR l more)):=by
 refine Fn.intro 21 Tryz.func17 rfl Tryz.ntmps17 rfl (by kernel_rfl) (fun W I a hs=>?_)
 have hle:=hs.ew (t:=0) rfl
 refine jR fun I a w hs=>?_
 refine nn ?_
 refine hs.cd (fun ae=>?_) fun ae=>?_
 ·simp only[Bool.or_eq_true,beq_iff_eq,decide_eq_true_eq] at ae
  refine az fun I a w hs=>?_
  refine nn<|wp_ret<|aE ?_
  refine hs.rt ?_
  exact fk (by unfold bR;rw[if_pos (by omega)])
 ·simp only[Bool.or_eq_false_iff,decide_eq_false_iff_not,beq_eq_false_iff_ne,ne_eq] at ae;have hby:=(ab more 0).toNat_lt;have hm1:(l.length:Int)*((ab more 0).toNat:Int)≤l.length*255:=Int.mul_le_mul_of_nonneg_left (by omega) (by omega);have BH:0≤(l.length:Int)*((ab more 0).toNat:Int):=Int.mul_nonneg (by omega) (by omega)
  refine aB fun I a w hs=>?_
  refine hs.o (eZ (i:=0) sx sw .tt .c (fun _=>by omega)) fun hs=>?_
  refine hs.o .l1 fun hs=>?_
  refine hs.o (Bb (by kernel_rfl) nA .tt (fun _=>by omega)) fun hs=>?_
  refine hs.o (mz .tt .tt (fun _=>by omega)) fun hs=>?_
  refine hs.o (tL .tt .c (fun _=>by omega)) fun hs=>?_
  refine hs.s fun hs=>nn<|wp_ret ?_
  refine hs.rt ?_
  exact fk (by unfold bR;rw[if_neg (by omega)])
set_option maxHeartbeats 4000000 in
theorem m3 (code more:List UInt8):
 Fn Tryz.prog 5 [bF code,bF more] (AV.bool true):=by
 refine Fn.intro 81 Tryz.func5 rfl Tryz.ntmps5 rfl (by kernel_rfl) (fun W I a hs=>?_)
 have hle:=hs.ew (t:=0) rfl
 have aeP:=hs.ew (t:=1) rfl
 refine jR fun I a w hs=>?_
 refine nn ?_
 refine hs.cd (fun ae=>?_) fun ae=>?_
 ·skip
  refine az fun I a w hs=>?_
  refine nn<|wp_ret<|aE ?_
  refine hs.rt ?_
  rfl
 ·skip
  refine az fun I a w hs=>?_
  refine hs.cW [] (Y7 code (by simp only[Bool.or_eq_false_iff,decide_eq_false_iff_not] at ae;omega)) (aw .r aP) rfl (by decide) rfl fun l I a w aeQ hs=>?_
  refine aB fun I a w hs=>?_
  refine hs.o (.cl (acu l more)) fun hs=>?_
  refine aB fun I a w hs=>?_
  refine hs.o (vy sB oz .r .tt (fun _=>by have:=j2 l more;simp only[List.length_map];omega)) fun hs=>?_
  rw[←List.map_take] at hs
  refine hs.o (.cl (Y6 (l.take (bR l more).toNat))) fun hs=>?_
  refine hs.alloc rfl cG g9 fun b7 I a w hs=>?_
  refine hs.sb 0 fun hs=>?_
  obtain⟨I,hs⟩:=hs.fb 0 7
  refine ai fun I a w hs=>?_
  refine hs.o (vy sB oz .r .tt (fun _=>by have:=j2 l more;simp only[List.length_map];omega)) fun hs=>?_
  rw[←List.map_take] at hs
  refine hs.o (.cl (YP (l.take (bR l more).toNat))) fun hs=>?_
  refine hs.alloc rfl cG g9 fun b8 I a w hs=>?_
  refine hs.sb 1 fun hs=>?_
  obtain⟨I,hs⟩:=hs.fb 1 8
  refine az fun I a w hs=>?_
  refine hs.o (.cl (YP l)) fun hs=>?_
  refine hs.alloc rfl cG g9 fun b9 I a w hs=>?_
  refine hs.sb 2 fun hs=>?_
  obtain⟨I,hs⟩:=hs.fb 2 9
  refine ai fun I a w hs=>?_
  refine hs.o (.c2 (Zs (gq (l.take (bR l more).toNat)) (ZG _))) fun hs=>?_
  refine cx fun I a w hs=>?_
  refine nn ?_
  refine hs.cd (fun ah=>?_) fun ah=>?_
  ·try simp only[B] at ah
   refine ai fun I a w hs=>?_
   refine hs.o (.c2 (Zs (gq (l.take (bR l more).toNat)) (ZG _))) fun hs=>hs.s fun hs=>nn<|wp_ret<|aE ?_
   refine hs.rt ?_
   rfl
  ·try simp only[B] at ah
   refine wp_skip<|aG<|wp_seq<|wp_seq ?_
   have j3:=acr (l:=l) (by omega) (bR l more).toNat
   have hpc:=(ZG (l.take (bR l more).toNat)).2.2.1.1
   refine az fun I a w hs=>?_
   refine wpList_nil ?_
   have hs:=hs.drop 0
   refine aG<|wp_block ?_
   refine St.lo (σ:=Nat) (4::(10::(run 35 46 []))) ⟨fun k=>[(10,AV.int k)],fun k=>[],fun k=>k≤(gq (l.take (bR l more).toNat)).calls.length⟩ (fun k=>(gq (l.take (bR l more).toNat)).calls.length-k) 0 hs ?aN ?aO
   case aN=>exact Nat.zero_le _
   case aO=>
    rintro k I a w al hs
    have hk:k≤(gq (l.take (bR l more).toNat)).calls.length:=al
    refine aW fun I a w hs=>?_
    refine nn ?_
    refine hs.cd (fun aj=>?_) fun aj=>?_
    ·try simp only[B] at aj
     refine wp_skip<|aG<|wp_seq<|wp_block<|wp_seq<|hs.dk ?_
     refine lY ?_
     refine mJ ?_
     refine .q .T2 (GA (fun hg=>(show Fn Tryz.prog 18 [(ab (gq l).calls k).av,(ab (gq (l.take (bR l more).toNat)).calls k).av] (AV.bool true) from by rw[j3.2 k aj (by simp at hg;omega)];exact Zr (ab (gq (l.take (bR l more).toNat)).calls k) ((ZG _).2.2.1.2 _ (bx aj)).1)) (aw .ag (aw .ag aP))) ?_
     refine du ?_
     refine .nil ?_
     intro I a w hs
     refine aG ?_
     refine hs.cd (fun aI=>?_) fun aI=>?_
     ·exfalso;simp only[B] at aI;rcases aI with h|h;(have:=j3.1;omega);cases h.2
      skip
     ·skip
      refine aB fun I a w hs=>?_
      refine nn ?_
      exact hs.ag (k+1) (aj)
    ·try simp only[B] at aj
     refine wp_exit<|aF<|aF<|aY ?_
     refine az fun I a w hs=>?_
     refine nn<|wp_ret ?_
     refine hs.rt ?_
     rfl
end Go.Proofs.YtoeioeimmfpefaaGreat

/- Part 36: contracts of functions, plain facts. -/
import Derived.Test.YtjepcfpkclegdaaGreatP32
import Derived.Test.YtjepcfpkclegdaaGreatP33
set_option linter.unusedVariables false
set_option linter.unusedSimpArgs false
set_option maxRecDepth 100000
set_option maxHeartbeats 4000000
namespace Go.Proofs.YtjepcfpkclegdaaGreat
open Go Go.RowKit
attribute [local irreducible] wpList Code.wp Ok
theorem agy {w:aE} (h:Inv w) {i:Nat} (hi:i<4) (hp:0<=eL (sv w i)):oI w i (nD (sv w i) (eL (sv w i)).toNat) none:=by
 obtain⟨hl,_,lz⟩:=yw hp
 have hu:=aV hl
 have bc:=XV lz
 refine⟨(h.dj hi).xu hp,rfl,rfl,λv hv=>gS.2 (.inr hv),λv hv=>?_,λv hv=>?_,λv hv=>.inl (yN hv),λv hv U=>?_,λd hd=>.inl hd,λd hd=>.inl hd,λd hd=>.inl hd,λv e=>by cases e⟩
 ·rcases HO (eL (sv w i)).toNat hv with rfl|h1
  ·exact .inl (gS.2 (.inl rfl))
  ·exact .inr h1
 ·rcases gS.1 hv with rfl|h1
  ·right
   refine⟨bc,λd hd=>?_,.inl (h.pk i hi _ hu)⟩
   unfold ll AE at lz
   rw[Bool.and_eq_true,vo (p:=λd=>mX (sv w i) d)] at lz
   exact adA h hi (lz.2 d hd)
  ·exact .inl h1
 ·rcases HO (eL (sv w i)).toNat hv with rfl|h1
  ·exact absurd bc U
  ·exact h1
theorem RO {i:Nat} (hi:i<4):∀(n:Nat) {w:aE},Inv w->Inv (dO w i (kK n (sv w i)))/\Ext w (dO w i (kK n (sv w i)))
 |0,w,h=>by
  have e:dO w i (kK 0 (sv w i))=w:=Ho (by rw[h.aW.ax];exact hi)
  rw[e];exact⟨h,Ext.refl w⟩
 |n+1,w,h=>by
  unfold kK
  split
  ·rw[Ho (by rw[h.aW.ax];exact hi)];exact⟨h,Ext.refl w⟩
  ·rename_i hp
   have g:=agy h hi (by omega)
   have h1:=g.inv h hi
   obtain⟨a,b⟩:=RO hi n h1
   rw[oG h.aW hi,Gl] at a b
   exact⟨a,(g.ext h hi).trans b⟩
theorem RP {w:aE} (h:Inv w) {i:Nat} (hi:i<4):Inv (dO w i (fO (sv w i)))/\Ext w (dO w i (fO (sv w i))):=by
 obtain⟨a,b⟩:=RO hi (sv w i).waits.length h
 have e:sv (dO w i (kK (sv w i).waits.length (sv w i))) i=ja (sv w i):=oG h.aW hi _
 have g:oI (dO w i (kK (sv w i).waits.length (sv w i))) i (fO (sv w i)) none:=by
  refine⟨(h.dj hi).settle,by rw[e];rfl,by rw[e];rfl,λv hv=>by rw[e] at hv;exact hv,λv hv=>by rw[e] at hv;exact .inr hv,λv hv=>by rw[e];exact .inl hv,λv hv=>by rw[e];exact .inl hv,λv hv _=>by rw[e] at hv;exact hv,λd hd=>by rw[e];exact .inl (qJ hd),λd hd=>by rw[e];exact .inl hd,λd hd=>by rw[e] at hd;exact .inl hd,λv e=>by cases e⟩
 have h1:=g.inv a hi
 have h2:=g.ext a hi
 rw[Gl] at h1 h2
 exact⟨h1,b.trans h2⟩
theorem agz {w:aE} (hg:cx w) {i:Nat} (hi:i<4) {s:Server} (h:Inv (dO w i s)):Inv (dO w i (fO s))/\Ext (dO w i s) (dO w i (fO s)):=by
 have:=RP h hi
 rwa[oG hg hi,Gl] at this
theorem gL.settle {w:aE} (h:Inv w) {i:Nat} (hi:i<4) {s:Server} (h1:Inv (dO w i s)) (hx:Ext w (dO w i s)) {ws:List aC} (hw:∀x∈ws,∀y,Ext (dO w i s) y->eN y x):gL w i (fO s,ws):=by
 obtain⟨a,b⟩:=agz h.aW hi h1
 exact⟨a,hx.trans b,λx hxm=>hw x hxm _ b⟩
theorem agB {w:aE} (h:Inv w) {i:Nat} (hi:i<4) {m:aC} (hm:bO m=true) (g:eN w m) (hk:m.kind=5):gL w i (jb (sv w i) m):=by
 have kq:=h.site hi
 unfold jb
 split
 ·rename_i hr
  obtain⟨r1,r2,r3,r4,r5⟩:=AF hr
  obtain⟨v,e1,e2,e3⟩:=g.k5 hk
  have ev:ab m.ao 0=v:=by rw[e1];rfl
  obtain⟨n1,n2,n3,n4⟩:=yC r1
  have Jd:(m.aR/2).toNat=1-i/2:=by
   rw[n2,kq,C9 hi] at r2
   omega
  rw[Jd] at e2
  dsimp only
  rw[ev] at r4 r5⊢
  have bc:=(w6 r4).2
  have agC:∀y,nI y (i/2) v->eN y (mU (sv w i) m v):=λy hc=>Rf rfl ⟨v,rfl,by
   show nI y ((sv w i).site/2).toNat v
   rw[kq,show((i:Int)/2).toNat=i/2 by omega];exact hc⟩
  split
  ·rename_i hn
   split
   ·rename_i hc
    have gr:oI w i {(sv w i) with waits:=fk (sv w i).waits v} none:=by
     refine⟨(h.dj hi).wait hc hn.1 r5 (by omega),rfl,rfl,λu hu=>hu,λu hu=>.inr (gS.2 (.inr hu)),λu hu=>.inl hu,λu hu=>?_,λu hu _=>gS.2 (.inr hu),λd hd=>.inl hd,λd hd=>.inl hd,λd hd=>.inl hd,λu e=>by cases e⟩
     rcases gS.1 hu with rfl|hu
     ·exact .inr ⟨bc,e2⟩
     ·exact .inl hu
    refine gL.settle h hi (gr.inv h hi) (gr.ext h hi) λx hx y hy=>?_
    obtain rfl:x=_:=by simpa using hx
    exact agC y (hy.cont ⟨i,hi,rfl,.inr (by rw[oG h.aW hi];exact gS.2 (.inl rfl))⟩)
   ·exact gL.same h hi λx hx=>by simp at hx
  ·rename_i hn
   obtain⟨a,b⟩:=RP h hi
   refine⟨a,b,λx hx=>?_⟩
   obtain rfl:x=_:=by simpa using hx
   have hp:0<=placeOf (sv w i).ao v.aT\/0<=placeOf (sv w i).waits v.aT:=by omega
   have Ro:∃u:aB,u.aT=v.aT/\nI w (i/2) u:=by
    rcases hp with hp|hp
    ·obtain⟨u,hu,e⟩:=pd.1 hp;exact⟨u,e,i,hi,rfl,.inl hu⟩
    ·obtain⟨u,hu,e⟩:=pd.1 hp;exact⟨u,e,i,hi,rfl,.inr hu⟩
   obtain⟨u,e4,e5⟩:=Ro
   refine Rf rfl ⟨u,e4,b.cont ?_⟩
   show nI w ((sv w i).site/2).toNat u
   rw[kq,show((i:Int)/2).toNat=i/2 by omega];exact e5
 ·exact gL.same h hi λx hx=>by simp at hx
theorem agD {w:aE} (h:Inv w) {i:Nat} (hi:i<4) {m:aC} (hm:bO m=true) (g:eN w m) (hk:m.kind=8) (hu:(sv w i).up=true):gL w i (nN (sv w i) m,[]):=by
 unfold nN
 split
 ·rename_i hc
  simp only[Bool.and_eq_true,decide_eq_true_eq,beq_iff_eq] at hc
  obtain⟨v,hv,hd⟩:=Qf.1 hc.1.2
  obtain⟨u,e1,e2⟩:=g.k8 hk
  rw[(I6 h hi hc.1.1).2] at e2
  have gr:oI w i {(sv w i) with bl:=ef (sv w i).bl ⟨m.key,m.aq⟩} none:=by
   refine⟨(h.dj hi).Qe (Dz (jk (gu (h.dj hi).waits v hv)).2.2 _ hd) hc.2 hu,rfl,rfl,λu hu=>hu,λu hu=>.inr hu,λu hu=>.inl hu,λu hu=>.inl hu,λu hu _=>hu,λd hd=>?_,λd hd=>.inl hd,λd hd=>.inl hd,λu e=>by cases e⟩
   rcases yX.1 hd with rfl|hd
   ·exact .inr ⟨u,e1,e2⟩
   ·exact .inl hd
  exact gL.settle h hi (gr.inv h hi) (gr.ext h hi) λx hx=>by simp at hx
 ·exact gL.same h hi λx hx=>by simp at hx
theorem agE {w:aE} (h:Inv w) {i:Nat} (hi:i<4) {m:aC} (hm:bO m=true) (g:eN w m) (hk:m.kind=9):gL w i (gV (sv w i) m):=by
 have jX:=qK hm
 unfold gV
 split
 ·rename_i hc
  simp only[Bool.and_eq_true,decide_eq_true_eq,beq_iff_eq] at hc
  obtain⟨f1,f2⟩:=I6 h hi hc.1
  split
  ·rename_i he
   refine gL.same h hi λx hx=>?_
   obtain rfl:x=_:=by simpa using hx
   exact Rq h hi he
  ·rename_i he
   split
   ·rename_i eD
    rw[Bool.and_eq_true] at eD
    obtain⟨_,k9⟩:=g.k9 hk
    rw[f1,j8] at k9
    have hfr:=k9.resolve_left he
    have tr:=adW h hi hm (by unfold ep;omega) hfr (jY.1 eD.2)
    refine gL.settle h hi (tr.inv h hi (by omega)) (tr.ext h hi) λx hx y hy=>?_
    obtain rfl:x=_:=by simpa using hx
    refine Rq h hi (Int.le_trans ?_ (hy.ep i hi _ (by omega)))
    unfold ep
    rw[oG h.aW hi]
    have e:ab (lQ (sv w i) m).aG m.slot.toNat=⟨m.bz,1⟩:=by
     show ab ((sv w i).aG.set m.slot.toNat ⟨m.bz,1⟩) m.slot.toNat=_
     rw[ld (by rw[(h.dj hi).aG];omega),if_pos rfl]
    rw[e];exact Int.le_refl _
   ·exact gL.same h hi λx hx=>by simp at hx
 ·exact gL.same h hi λx hx=>by simp at hx
theorem agG {w:aE} (h:Inv w) {i:Nat} (hi:i<4) {m:aC} (hm:bO m=true) (g:eN w m) (hk:m.kind=10):gL w i (m7 (sv w i) m,[]):=by
 have jX:=qK hm
 unfold m7
 split
 ·rename_i hc
  simp only[Bool.and_eq_true,decide_eq_true_eq,beq_iff_eq] at hc
  obtain⟨f1,f2⟩:=I6 h hi hc.1.1
  have nS:=(g.nS hk).2
  rw[f1] at nS
  have tr:=adX h hi hm hc.1.2 hc.2 nS
  exact gL.settle h hi (tr.inv h hi (by omega)) (tr.ext h hi) λx hx=>by simp at hx
 ·exact gL.same h hi λx hx=>by simp at hx
end Go.Proofs.YtjepcfpkclegdaaGreat

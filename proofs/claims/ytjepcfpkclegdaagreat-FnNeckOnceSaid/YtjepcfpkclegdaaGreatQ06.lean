/- Part 47: contracts of functions, plain facts. -/
import Derived.Test.YtjepcfpkclegdaaGreatQ01
import Derived.Test.YtjepcfpkclegdaaGreatQ05
set_option linter.unusedVariables false
set_option linter.unusedSimpArgs false
set_option maxRecDepth 100000
set_option maxHeartbeats 4000000
namespace Go.Proofs.YtjepcfpkclegdaaGreat
open Go Go.RowKit
attribute [local irreducible] wpList Code.wp Ok
theorem ahc {l:List Call} {time:Int} (h:jq l time=true) {k:Nat} (hk:k<l.length):eX (ab l k) time=true:=by
 unfold jq at h
 rw[Bool.and_eq_true,gx] at h
 have:=h.1 k hk
 simp only[m9,xg,Bool.and_eq_true] at this
 exact this.1.1.1
theorem ahd {out:List aB} (v:aB) (h:VS out):VS (eH out v):=by
 unfold eH;split
 ·rename_i hp;exact Hs h (pQ hp)
 ·exact h
theorem Sc:∀{l out:List aB},VS out->VS (l.foldl eH out)
 |[],_,h=>h
 |v::r,_,h=>Sc (l:=r) (ahd v h)
def BB (a b:aB):Bool:=(a.an==b.an)&&(a.call==b.call)
def qd (own other:List aB) (side:Int) (k:Nat):Bool:=(cF k λj=>!BB (ab own j) (ab own k))&&rV own (ab own k).aO&&(if 0<=placeOf other (ab own k).aT then equalIn other (ab own k) else bL (ab own k).aq.site==side)
def vE (own:List aB) (side:Int) (c:Call):Bool:=((c.an !=side)||(c.kind !=1)||(c.end_==0))||(decide (0<=placeOf own ⟨ab c.keys 0,c.aq⟩)&&((ab own (placeOf own ⟨ab c.keys 0,c.aq⟩).toNat).val==c.val)&&((ab own (placeOf own ⟨ab c.keys 0,c.aq⟩).toNat).an==c.an)&&((ab own (placeOf own ⟨ab c.keys 0,c.aq⟩).toNat).call==c.num))
def JW (w:aE) (side:Int):Bool:=cF (dj w (2*side)).aG.length λi=>lO (ab (dj w (2*side)).aG i) (ab (dj w (2*side+1)).aG i)
def EA (other:List aB) (v:aB):Bool:=!equalIn other v
def rp (w:aE) (side:Int):Bool:=
 cF (bI w side).length (qd (bI w side) (bI w (1-side)) side)&&JW w side&&cF w.calls.length (λi=>vE (bI w side) side (ab w.calls i))&&
  rV (bI w side) (ab w.seen side.toNat)&&!hasB (EA (bI w (1-side))) ((dj w (2*side)).waits++(dj w (2*side+1)).waits)
def JX (w:aE):Bool:=ey w&&rp w 0&&rp w 1
theorem JY {x:aE} (h:ey x=true):(0<=x.time/\x.time<=99999)/\x.ax.length=4/\x.ar.length<=60/\x.seen.length=2/\(∀q∈x.calls,eX q x.time=true)/\x.calls.length<=20/\∀l∈x.seen,bN l=true:=by
 have h0:=h
 simp only[ey,Bool.and_eq_true] at h
 have hh:oz x=true:=h.1.1.1.1
 have ht:=NT hh
 have hc:jq x.calls x.time=true:=h.2
 simp only[oz,Bool.not_eq_true',Bool.or_eq_false_iff] at hh
 have e1:=hh.1.1.2
 have e2:=hh.1.2
 have e3:=hh.2
 simp at e1 e2 e3
 refine⟨ht,by omega,by omega,by omega,λq hq=>?_,?_,λl hl=>?_⟩
 ·obtain⟨k,hk,rfl⟩:=gq hq
  exact ahc hc hk
 ·unfold jq at hc
  rw[Bool.and_eq_true,decide_eq_true_eq] at hc;exact hc.2
 ·have:=h.1.2
  rw[yR,gx] at this
  obtain⟨k,hk,rfl⟩:=gq hl
  exact this k hk
theorem ahe {w:aE} (h:Inv w) {σ:Nat} (hσ:σ<2):VS (bI w (σ:Int)):=by
 unfold bI
 refine Sc (Hc ?_)
 have:(2*(σ:Int)).toNat<4:=by omega
 exact(h.dj this).ao
theorem ahf {w:aE} (h:Inv w) {σ:Nat} (hσ:σ<2) {i j:Nat} (gN:i<j) (hj:j<(bI w (σ:Int)).length):¬((ab (bI w (σ:Int)) j).an=(ab (bI w (σ:Int)) i).an/\(ab (bI w (σ:Int)) j).call=(ab (bI w (σ:Int)) i).call):=λ⟨h1,h2⟩=>by
 have:=h.once _ _ _ _ ((lS h hσ).1 (aV hj)) ((lS h hσ).1 (aV (k:=i) (by omega))) h1 h2
 exact GL (ahe h hσ) hj (by omega) (by omega) (congrArg aB.aT this)
theorem ahg (w:aE) (m:aC):(mb w m).ax=w.ax:=by
 unfold mb
 dsimp only
 split
 ·rfl
 ·split<;>rfl
theorem EB {i:Nat} {s:Server} (h:BA i s):BA i (fO s):=by
 have e:ja s=s:=Dh (GW λ_ k hk=>by rw[h.1] at hk;simp at hk)
 unfold fO
 rw[e]
 exact h
theorem ahh {w:aE} (h:Inv w) (ha:po w) {i:Nat} (hi:i<4) {m:aC} (hm:m.to=(i:Int)) (g:eN w m) (hk:m.kind≠5):BA i (fJ (sv w i) m).1:=by
 have U:=ha i hi
 have kq:=h.site hi
 unfold fJ
 split
 ·unfold eG
  split
  ·rename_i kg
   unfold iL
   split
   ·split
    ·exact U
    ·split
     ·refine EB ⟨U.1,λv hv=>?_⟩
      rcases gS.1 hv with rfl|hv
      ·obtain⟨q,hq,a1,a2,a3,_⟩:=g.k1 kg
       show m.aR-10=_
       omega
      ·exact U.2 v hv
     ·exact U
   ·exact U
  split
  ·exact U
  split
  ·unfold mY
   split<;>exact U
  split
  ·exact U
  split
  ·unfold nN
   split
   ·exact EB (i:=i) (s:={sv w i with bl:=ef (sv w i).bl ⟨m.key,m.aq⟩}) U
   ·exact U
  split
  ·rename_i hk9
   unfold gV
   split
   ·rename_i hc
    rw[Bool.and_eq_true,beq_iff_eq,kq,OO] at hc
    split
    ·exact U
    ·rename_i bj
     split
     ·have ht:m.aR.toNat=bW i:=by omega
      obtain⟨hl,h1⟩:=g.k9 hk9
      rw[ht,j8] at h1
      have hf:=h1.resolve_left bj
      obtain⟨_,f1,f2,_⟩:=hf
      have ho:=ha (bW i) (oi hi)
      refine EB ⟨?_,λv hv=>?_⟩
      ·have e1:m.waits=[]:=List.eq_nil_iff_forall_not_mem.2 λv hv=>by
        have:=((f2 v).1 hv).1
        rw[ho.1] at this;simp at this
       show iJ ((sv w i).waits.filter _) m.waits=[]
       rw[U.1,e1];rfl
      ·rcases yl hv with hv|hv
       ·have:=ho.2 v ((f1 v).1 hv).1
        rwa[nB] at this
       ·exact U.2 v ((List.mem_filter.1 hv).1)
     ·exact U
   ·exact U
  split
  ·unfold m7
   split
   ·refine EB ⟨?_,λv hv=>U.2 v ((List.mem_filter.1 hv).1)⟩
    show(sv w i).waits.filter _=[]
    rw[U.1];rfl
   ·exact U
  ·exact U
 ·exact U
theorem po.set {w x:aE} (hg:cx w) (h:po w) {i:Nat} (hi:i<4) {s:Server} (U:BA i s) (e:x.ax=w.ax.set i s):po x:=λj hj=>by
 unfold sv
 rw[e,ld (by rw[hg.ax];exact hi)]
 split
 ·rename_i e;rw[e];exact U
 ·exact h j hj
def vF (w:aE) (e:Ev):Prop:=¬(e.kind=4/\e.word<w.ar.length/\0<=e.word/\(ab w.ar e.word.toNat).kind=5)
theorem po.step {w:aE} (h0:Inv w) (h:po w) {e:Ev} (he:vF w e):po (ez w e).1:=by
 have hg:=h0.aW
 unfold ez
 dsimp only
 split
 ·refine h.frame ?_
  unfold jd
  split
  ·unfold kQ;split<;>rfl
  ·dsimp only
   split
   ·rfl
   ·split<;>rfl
 ·split
  ·rename_i hke
   unfold je
   split
   ·rename_i hr
    simp only[aQ,Bool.and_eq_true,decide_eq_true_eq] at hr
    have bw:e.word.toNat<w.ar.length:=by have:=hr.2;have:=hr.1;show e.word.toNat<w.ar.length;omega
    have jt:ab w.ar e.word.toNat∈w.ar:=aV bw
    have hm:=hg.words _ jt
    dsimp only
    split
    ·refine h.frame ?_
     split<;>rfl
    ·rename_i hk5
     split
     ·refine h.frame ?_
      show(mb _ _).ax=_
      rw[ahg]
      split<;>rfl
     ·rename_i bB
      have ke:0<=(ab w.ar e.word.toNat).to/\(ab w.ar e.word.toNat).to<=3:=by
       have:=(mW hm).2.2.1
       simp only[lB,cL,aQ,Bool.or_eq_true,Bool.and_eq_true,decide_eq_true_eq] at this bB
       omega
      refine h.set hg (i:=(ab w.ar e.word.toNat).to.toNat) (by omega) ?_ rfl
      refine ahh h0 h (by omega) (by omega) (h0.words _ jt) λe5=>he ⟨by omega,by omega,hr.1,e5⟩
   ·exact h.frame rfl
  ·split
   ·rename_i eD
    rw[Bool.and_eq_true] at eD
    obtain⟨hi,_,_,_⟩:=yC eD.2
    have U:=h _ hi
    unfold fI
    dsimp only
    split
    ·exact h.set hg hi (s:=o5 (sv w e.at_.toNat)) U rfl
    split
    ·exact h.set hg hi (s:=ou (sv w e.at_.toNat)) U rfl
    split
    ·exact h.frame rfl
    split
    ·exact h.set hg hi (s:=ka (sv w e.at_.toNat) e.slot) U rfl
    ·exact h.frame rfl
   ·exact h.frame rfl
instance amu (w:aE) (e:Ev):Decidable (vF w e):=by unfold vF;infer_instance
def mJ (w:aE) (e:Ev):aE:=if vF w e then(fQ w e).1 else w
theorem ahj (l:List Ev):Inv (l.foldl mJ cX)/\(l.foldl mJ cX).time<=99999/\∀σ:Nat,σ<2->∀v∈bI (l.foldl mJ cX) (σ:Int),bL v.aq.site=(σ:Int):=by
 have key:∀(l:List Ev) (w:aE),Inv w->w.time<=99999->po w->Inv (l.foldl mJ w)/\(l.foldl mJ w).time<=99999/\po (l.foldl mJ w):=by
  intro l
  induction l with
  |nil=>exactλw h1 h2 h3=>⟨h1,h2,h3⟩
  |cons e r ih=>
   intro w h1 h2 h3
   rw[List.foldl_cons]
   have:Inv (mJ w e)/\(mJ w e).time<=99999/\po (mJ w e):=by
    unfold mJ
    split
    ·rename_i hn
     rw[Sb (ko.2 ⟨h1.aW,h2⟩)]
     refine⟨h1.fP e,?_,?_⟩
     ·unfold fP
      split
      ·rename_i hc;rw[Bd];omega
      ·exact h2
     ·unfold fP
      split
      ·exact h3.step h1 hn
      ·exact h3
    ·exact⟨h1,h2,h3⟩
   exact ih _ this.1 this.2.1 this.2.2
 obtain⟨h1,h2,h3⟩:=key l cX I7 (by decide) λi hi=>by
  have:∀i,i<4->(sv cX i).waits=[]/\(sv cX i).ao=[]:=by decide
  exact⟨(this i hi).1,λv hv=>by rw[(this i hi).2] at hv;simp at hv⟩
 refine⟨h1,h2,λσ hσ v hv=>?_⟩
 have hv:bU (l.foldl mJ cX) σ v:=(lS h1 hσ).1 hv
 obtain⟨i,hi,e,xE⟩:=id hv
 rw[(h1.home σ v hv).1,(h3 i hi).2 v xE,e]
theorem ahk {σ:Nat} (h:σ<2):(1:Int)-(σ:Int)=((1-σ:Nat):Int):=by omega
theorem JZ {w:aE} (h:Inv w) {σ:Nat} (hσ:σ<2) {v:aB} (hv:bU w σ v):equalIn (bI w (σ:Int)) v=true:=by
 have hp:=pd.2 ⟨v,(lS h hσ).2 hv,rfl⟩
 obtain⟨h1,h2⟩:=lL hp
 unfold equalIn pD
 rw[decide_eq_true hp,Bool.true_and,decide_eq_true_eq]
 exact h.uniq _ _ _ _ ((lS h hσ).1 (aV h1)) hv h2
theorem Sd {w:aE} (h:Inv w) {σ:Nat} (hσ:σ<2):rp w (σ:Int)=true:=by
 unfold rp
 rw[ahk hσ]
 simp only[Bool.and_eq_true]
 refine⟨⟨⟨⟨gx.2 λk hk=>?_,gx.2 λk hk=>?_⟩,gx.2 λi hi=>?_⟩,Iq.2 λd hd=>?_⟩,?_⟩
 ·have hv:=(lS h hσ).1 (aV hk)
  unfold qd
  simp only[Bool.and_eq_true]
  refine⟨⟨gx.2 λj hj=>?_,Iq.2 λd hd=>?_⟩,?_⟩
  ·have:=ahf h hσ hj hk
   cases U:BB (ab (bI w (σ:Int)) j) (ab (bI w (σ:Int)) k)
   ·rfl
   ·exfalso
    unfold BB at U
    simp only[Bool.and_eq_true,beq_iff_eq] at U
    exact this ⟨U.1.symm,U.2.symm⟩
  ·obtain⟨u,e,hu⟩:=Ea h hv hd
   exact⟨u,(lS h hσ).2 hu,e⟩
  ·split
   ·rename_i hp
    obtain⟨x,hx,e⟩:=pd.1 hp
    have:=h.uniq _ _ _ _ ((lS h (by omega)).1 hx) hv e
    rw[this] at hx
    exact JZ h (by omega) ((lS h (by omega)).1 hx)
   ·rename_i hp
    obtain⟨e,hh⟩:=h.home σ _ hv
    have hl:=hh.lt
    rw[beq_iff_eq,e]
    have hm:=h.made σ _ hv
    obtain⟨q,hq,c1,_⟩:=hm
    have hc:=ui h.aW hq
    rw[c1] at hc
    by_cases U:(ab (bI w (σ:Int)) k).an.toNat=σ
    ·omega
    ·exfalso
     apply hp
     have e2:(ab (bI w (σ:Int)) k).an.toNat=1-σ:=by omega
     rw[e2] at hh
     exact pd.2 ⟨_,(lS h (by omega)).2 hh,rfl⟩
 ·have h2:(2*(σ:Int)).toNat=2*σ:=by omega
  have h3:(2*(σ:Int)+1).toNat=2*σ+1:=by omega
  unfold dj at hk⊢
  rw[h2] at hk⊢
  rw[h3]
  have hl:(sv w (2*σ)).aG.length=3:=(h.dj (by omega)).aG
  have:=h.fits (2*σ) (by omega) k (by unfold sv at hl;omega)
  rwa[show bW (2*σ)=2*σ+1 by unfold bW;rw[if_pos (by omega)]] at this
 ·unfold vE
  by_cases hc:(ab w.calls i).an=(σ:Int)
  ·by_cases hk:(ab w.calls i).kind=1
   ·by_cases he:(ab w.calls i).end_=0
    ·simp[he]
    ·obtain⟨v,a1,_,a3,a4,a5⟩:=RS h (aV hi) hk he
     rw[hc] at a1
     unfold dU at a1
     split at a1
     ·rename_i hp
      cases a1
      rw[decide_eq_true hp]
      simp[a3,a4,a5]
     ·cases a1
   ·simp[hk]
  ·simp[hc]
 ·obtain⟨u,hu,e,_⟩:=h.seen σ hσ d (by simpa using hd)
  exact⟨u,(lS h hσ).2 hu,e⟩
 ·rw[Bool.not_eq_true',Dy]
  intro v hv
  unfold EA
  rw[Bool.not_eq_false']
  have h2:(2*(σ:Int)).toNat=2*σ:=by omega
  have h3:(2*(σ:Int)+1).toNat=2*σ+1:=by omega
  unfold dj at hv
  rw[h2,h3] at hv
  rcases List.mem_append.1 hv with hv|hv
  ·have:=h.pk (2*σ) (by omega) v hv
   rw[show 2*σ/2=σ by omega] at this
   exact JZ h (by omega) this
  ·have:=h.pk (2*σ+1) (by omega) v hv
   rw[show(2*σ+1)/2=σ by omega] at this
   exact JZ h (by omega) this
theorem J0 {w:aE} (h:Inv w) (ht:w.time<=99999):JX w=true:=by
 unfold JX
 rw[ko.2 ⟨h.aW,ht⟩]
 have h0:=Sd h (σ:=0) (by omega)
 have h1:=Sd h (σ:=1) (by omega)
 rw[show((0:Nat):Int)=0 from rfl] at h0
 rw[show((1:Nat):Int)=1 from rfl] at h1
 rw[h0,h1];rfl
def putAt (own:List aB) (q:Call):Bool:=decide (0<=placeOf own ⟨ab q.keys 0,q.aq⟩)&&((ab own (placeOf own ⟨ab q.keys 0,q.aq⟩).toNat).val==q.val)&&((ab own (placeOf own ⟨ab q.keys 0,q.aq⟩).toNat).an==q.an)&&((ab own (placeOf own ⟨ab q.keys 0,q.aq⟩).toNat).call==q.num)
theorem J1 {x:aE} (aj:ey x=true) {k:Nat} (hk:k<x.calls.length):0<(ab x.calls k).keys.length:=by
 have h:=vr ((JY aj).2.2.2.2.1 _ (aV hk))
 have:=h.2.2.1
 unfold iZ at this
 rw[Bool.and_eq_true] at this
 have:=this.2
 simp[aQ] at this;omega
theorem ahl {x:aE} (aj:ey x=true):x.seen.length=2:=(JY aj).2.2.2.1
theorem ahm (n:Nat) (hn:n<=1048576):
 kh Tryz.prog 157 [AV.val (.slice none 0 0),AV.int n] 43 7 []:=by
 refine kh.intro 27 Tryz.func157 rfl Tryz.ntmps157 rfl (by kernel_rfl) (λW I a U=>?_)
 refine aI λI a w U=>?_
 refine U.cd (λae=>?_) λae=>?_
 ·exfalso;simp only[B] at ae;omega
  skip
 ·refine aF λI a w U=>?_
  refine U.o (z1 cJ .tt) λU=>U.m λU=>U.o (EK cJ .tt) λU=>?_
  refine ck λI a w U=>?_
  refine cz (λah=>?_) λah=>?_
  ·refine aF λI a w U=>?_
   refine U.o (z1 cJ .tt) λU=>U.o (UC cJ bA .tt .tt rfl) λU=>U.m λU=>?_
   refine U.UB (eR:=n) cJ ny bA rfl (by decide) .tt .tt (by omega) (by omega) (by omega) (by omega) rfl λ{gb w3 a w} n6 pB U=>?_
   refine U.m λU=>U.o (EK cJ .tt) λU=>?_
   refine U.o (rJ (hi:=0) cJ bA .tt .tt rfl (by omega) (by omega)) λU=>?_
   have U:=U.rH (sz:=7) (l:=[]) (cap:=w3) 0 rfl (by simp) (λr hr=>by simp at hr) (by simp) (by omega) pB (by simp)
   refine aI λI a w U=>?_
   exact U.wj (r:=4) 0 rfl rfl rfl rfl
  ·refine aA λI a w U=>?_
   obtain rfl:n=0:=by omega
   have U:=U.gC (sz:=7) 43
   exact U.wj (r:=4) 0 rfl rfl rfl rfl
def J2 (l:List aB):List AV:=[bX l]
def oJ (ls:List (List aB)):Nat:=(ls.map List.length).sum
theorem J3 {ls:List (List aB)} {k:Nat} (h:k<ls.length):oJ (ls.take (k+1))=oJ (ls.take k)+(ab ls k).length:=by
 unfold oJ;rw[dW h,List.map_append,List.sum_append];simp
theorem EC:∀(ls:List (List aB)) (k:Nat),oJ (ls.take k)<=oJ ls
 |[],k=>by simp[oJ]
 |x::ls,0=>by simp[oJ]
 |x::ls,k+1=>by have:=EC ls k;simp[oJ] at*;omega
theorem ahn {ls:List (List aB)} {k:Nat} (h:k<ls.length):(ls.take (k+1)).flatten=(ls.take k).flatten++ab ls k:=by
 rw[dW h,List.flatten_append];simp
theorem aho (ls:List (List aB)):ls.flatten.length=oJ ls:=by simp[oJ]
theorem ahp (ls:List (List aB)) (h:oJ ls<=1048576):
 Fn Tryz.prog 101 [AV.rows 1 (ls.map J2)] (bX ls.flatten):=by
 refine Fn.go 36 Tryz.func101 Tryz.ntmps101 (λW I a U=>?_)
 have hle:=U.cW (t:=0) rfl
 refine ck λI a w U=>?_
 refine St.lo (σ:=Nat) (3::(5::(run 12 11 []))) ⟨λk=>[(11,AV.int k),(3,AV.int (oJ (ls.take k):Nat))],λk=>[],λk=>k<=ls.length⟩ (λk=>ls.length-k) 0 U ?aJ ?aK
 case aJ=>exact Nat.zero_le _
 case aK=>
  rintro k I a w aj U
  have hk:k<=ls.length:=aj
  refine ai λI a w U=>?_
  refine cz (λae=>?_) λae=>?_
  ·refine dD λI a w U=>?_
   refine U.o (kS .tt .tt (λ_=>by have:=J3 ae;have:=EC ls (k+1);omega)) λU=>?_
   refine aI λI a w U=>?_
   refine U.cd (λah=>?_) λah=>?_
   ·exfalso;simp only[B] at ah;omega
    skip
   ·refine aA λI a w U=>?_
    refine U.again (k+1) ?iM ?iN (by rfl) ?iO (by repeat(first|exact Env.le_rfl|refine Env.jf rfl ?_))
    case iM=>omega
    case iN=>exact ae
    case iO=>exact(Env.dK rfl (by rfl) (Env.dK rfl (by exact congrArg AV.int (by rw[J3 ae];push_cast;rfl)) Env.le_nil))
  ·refine zt ?_
   refine U.m λU=>?_
   refine U.oW (ahm (oJ (ls.take k)) (by have:=EC ls k;omega)) (aw .c (aw .tt aL)) rfl λI xa a w U=>?_
   refine aU λI a w U=>?_
   refine St.lo (σ:=Nat×Value) (6::(8::(run 8 27 []))) ⟨λ⟨k2,v⟩=>[(27,AV.int k2),(6,AV.val v)],λ⟨k2,v⟩=>[Own.row v 43 7 ((ls.take k2).flatten.map aB.cells)],λ⟨k2,v⟩=>k2<=ls.length⟩ (λ⟨k2,v⟩=>ls.length-k2) (0,xa) U ?cU ?cV
   case cU=>exact Nat.zero_le _
   case cV=>
    rintro⟨k2,v⟩ I a w aj U
    have eD:k2<=ls.length:=aj
    dsimp only at U
    refine ai λI a w U=>?_
    refine cz (λal=>?_) λal=>?_
    ·refine bM λI a w U=>?_
     refine U.append 0 rfl cJ bA rfl .tt .r rfl (by have h1:=J3 al;have h2:=EC ls (k2+1);have h3:=aho (ls.take k2);simp only[List.length_map];omega) λv33 a w U=>?_
     rw[<-List.map_append,<-ahn al] at U
     refine aI λI a w U=>?_
     exact U.ag (k2+1,v33) (al)
    ·refine zt ?_
     refine aA λI a w U=>?_
     rw[List.take_of_length_le (by omega)] at U
     obtain⟨I,U⟩:=U.fr 0 2
     refine U.rt ?_
     rfl
theorem Se (l:List aB) (v:aB):
 Fn Tryz.prog 99 [bX l,v.av] (AV.bool (equalIn l v)):=by
 refine Fn.go 20 Tryz.func99 Tryz.ntmps99 (λW I a U=>?_)
 refine bt λI a w U=>?_
 refine U.o (.c1 (mS ..)) λU=>?_
 refine U.o (.cl (oj ..)) λU=>?_
 refine ai λI a w U=>?_
 refine U.dk ?_
 refine fi ?_
 refine .q .T ((by first|exact dS cJ bA .ag .ag (λhg=>by have h0:0<=placeOf l v.aT:=(by simpa using hg);have:=lL h0;omega)|exact fS cJ bA .ag .ag (λhg=>by have h0:0<=placeOf l v.aT:=(by simpa using hg);have:=lL h0;omega)|exact fZ cJ bA .ag .ag (λhg=>by have h0:0<=placeOf l v.aT:=(by simpa using hg);have:=lL h0;omega))) ?_
 refine bT ?_
 refine .q .T (.cl (MD ..)) ?_
 refine bT ?_
 refine .nil ?_
 intro I a w U
 refine zt ?_
 refine U.rt ?_
 rfl
theorem Sf (u v:dG):
 Fn Tryz.prog 155 [u.av,v.av] (AV.bool (tz u v)):=by
 refine Fn.go 32 Tryz.func155 Tryz.ntmps155 (λW I a U=>?_)
 refine LY λI a w U=>?_
 refine U.rt ?_
 rfl
theorem Sg (u v:dG):
 Fn Tryz.prog 156 [u.av,v.av] (AV.bool (va u v)):=by
 refine Fn.go 20 Tryz.func156 Tryz.ntmps156 (λW I a U=>?_)
 refine LX λI a w U=>?_
 refine U.rt ?_
 rfl
theorem ahr (u v:dG):
 Fn Tryz.prog 100 [u.av,v.av] (AV.bool (lO u v)):=by
 refine Fn.go 29 Tryz.func100 Tryz.ntmps100 (λW I a U=>?_)
 refine aI λI a w U=>?_
 refine U.o (ux .f) λU=>nn<|sr<|U.o (ux .f) λU=>?_
 refine bk λI a w U=>?_
 refine U.o (rC (Fn.xT (Sf u v)) .tt (aw .tt (aw .tt aL))) λU=>?_
 refine bt λI a w U=>?_
 refine U.q .F (rC (Fn.xT (Sf v u)) .ag (aw .ag (aw .ag aL))) λU=>?_
 refine bM λI a w U=>?_
 refine U.q .F (rC (Fn.xT (Sg u v)) .ag (aw .ag (aw .ag aL))) λU=>?_
 refine bM λI a w U=>?_
 refine U.q .F (rC (Fn.xT (Sg v u)) .ag (aw .ag (aw .ag aL))) λU=>?_
 refine aA λI a w U=>?_
 refine U.rt ?_
 rfl
theorem ahs (v:aB) (l:List aB):
 Fn Tryz.prog 103 [v.av,AV.ptr [bX l]] (AV.bool (EA l v)):=by
 refine Fn.go 8 Tryz.func103 Tryz.ntmps103 (λW I a U=>?_)
 refine bt λI a w U=>?_
 refine U.o (.cl (Se ..)) λU=>?_
 refine aA λI a w U=>?_
 refine U.rt ?_
 rfl
theorem aht (n:Nat) (g:Nat->Bool):cF (n+1) g=(cF n g&&g n):=by
 rw[Bool.eq_iff_iff,Bool.and_eq_true,gx,gx]
 constructor
 ·intro h;exact⟨λi hi=>h i (by omega),h n (by omega)⟩
 ·rintro⟨h1,h2⟩ i hi
  by_cases e:i=n
  ·rw[e];exact h2
  ·exact h1 i (by omega)
def zh (p:tq) (v:aB):Bool:=(v.an==p.1.1)&&(v.call==p.1.2)
def rq (own:List aB) (k:Nat) (p:tq):Bool:=!cF k λj=>!zh p (ab own j)
theorem ahu (own:List aB):rq own 0=λ_=>false:=by
 funext p;simp[rq,cF]
def uw (v:aB) (h:gh v.an/\gh v.call):tq:=⟨(v.an,v.call),h⟩
theorem ahv {own:List aB} {k:Nat} (h:gh (ab own k).an/\gh (ab own k).call):(λy=>if y=uw (ab own k) h then true else rq own k y)=rq own (k+1):=by
 funext y
 unfold rq
 rw[aht]
 by_cases hy:y=uw (ab own k) h
 ·rw[if_pos hy,hy]
  have:zh (uw (ab own k) h) (ab own k)=true:=by simp[zh,uw]
  rw[this];simp
 ·rw[if_neg hy]
  have:zh y (ab own k)=false:=by
   cases hh:zh y (ab own k)
   ·rfl
   ·exfalso
    apply hy
    simp only[zh,Bool.and_eq_true,beq_iff_eq] at hh
    obtain⟨⟨u,v⟩,hu⟩:=y
    simp only[uw]
    apply Subtype.ext
    exact Prod.ext hh.1.symm hh.2.symm
  rw[this];simp
theorem ahw {own:List aB} {k:Nat} (h:gh (ab own k).an/\gh (ab own k).call):rq own k (uw (ab own k) h)=!cF k λj=>!BB (ab own j) (ab own k):=rfl
theorem BC {v:aB} (h:dM v=true):gh v.an/\gh v.call:=by
 simp only[dM,Bool.and_eq_true] at h
 have h1:=h.1.1.1.2
 have h2:=h.1.1.2
 simp[ff,aQ] at h1 h2
 exact⟨⟨by omega,by omega⟩,⟨by omega,by omega⟩⟩
theorem ahx {x:aE} (l3:ey x=true) {s:Int} (h0:0<=s/\s<=1):(∀v∈bI x s,dM v=true)/\(bI x s).length<=160:=by
 have ca:=(vx l3 (i:=(2*s).toNat) (by omega)).1
 have cb:=(vx l3 (i:=(2*s+1).toNat) (by omega)).1
 refine⟨λv hv=>(yl hv).elim (gu cb v) (gu ca v),?_⟩
 have:=Aq (ab x.ax (2*s+1).toNat).ao (ab x.ax (2*s).toNat).ao
 have l1:=fV ca
 have l2:=fV cb
 unfold bI;omega
def vG (own:List aB) (k:Nat):Bool:=(cF k λj=>!BB (ab own j) (ab own k))&&rV own (ab own k).aO
theorem Sh {own:List aB} {k:Nat} (h:gh (ab own k).an/\gh (ab own k).call):(rq own k (uw (ab own k) h)||!rV own (ab own k).aO)=!vG own k:=by
 rw[ahw];unfold vG;simp
theorem ahy {own other:List aB} {s:Int} {k:Nat} (h:vG own k=false):qd own other s k=false:=by
 have:qd own other s k=(vG own k&&(if 0<=placeOf other (ab own k).aT then equalIn other (ab own k) else bL (ab own k).aq.site==s)):=rfl
 rw[this,h];rfl
theorem Si {own other:List aB} {s:Int} {k:Nat} (h:vG own k=true) (hp:0<=placeOf other (ab own k).aT):qd own other s k=equalIn other (ab own k):=by
 have:qd own other s k=(vG own k&&(if 0<=placeOf other (ab own k).aT then equalIn other (ab own k) else bL (ab own k).aq.site==s)):=rfl
 rw[this,h,if_pos hp];rfl
theorem Sj {own other:List aB} {s:Int} {k:Nat} (h:vG own k=true) (hp:placeOf other (ab own k).aT<0):qd own other s k=(bL (ab own k).aq.site==s):=by
 have:qd own other s k=(vG own k&&(if 0<=placeOf other (ab own k).aT then equalIn other (ab own k) else bL (ab own k).aq.site==s)):=rfl
 rw[this,h,if_neg (by omega)];rfl
theorem Sk (own:List aB) (q:Call):(decide (placeOf own ⟨ab q.keys 0,q.aq⟩<0)||((ab own (placeOf own ⟨ab q.keys 0,q.aq⟩).toNat).val !=q.val)||((ab own (placeOf own ⟨ab q.keys 0,q.aq⟩).toNat).an !=q.an)||((ab own (placeOf own ⟨ab q.keys 0,q.aq⟩).toNat).call !=q.num))=!putAt own q:=by
 have e:decide (placeOf own ⟨ab q.keys 0,q.aq⟩<0)=!decide (0<=placeOf own ⟨ab q.keys 0,q.aq⟩):=by rw[Bool.eq_iff_iff];simp
 rw[e];unfold putAt;simp[bne]
theorem ahz {own:List aB} {side:Int} {q:Call} (h:((q.an !=side)||(q.kind !=1)||(q.end_==0))=true):vE own side q=true:=by
 unfold vE;rw[h];rfl
theorem Sl {own:List aB} {side:Int} {q:Call} (h:((q.an !=side)||(q.kind !=1)||(q.end_==0))=false):vE own side q=putAt own q:=by
 unfold vE;rw[h];rfl
def ED (x:aE) (s:Int) (i:Nat):Bool:=lO (ab (dj x (2*s)).aG i) (ab (dj x (2*s+1)).aG i)
theorem ahA (a b:List aB):([a,b]:List (List aB)).flatten=a++b:=by simp
theorem J4:wo Tryz.prog 118 119 4 (tu Tryz.prog 119) (λb:Bool=>Value.bool b) (λb=>.lit (.bool b)) (λ_=>True) false:=
 Ux (s:=225) VP x6 (λw=>x4.zero) F0 ny (by kernel_rfl) (by kernel_rfl) (by kernel_rfl) (by kernel_rfl) (deep_law_gate (by kernel_rfl) (of_decide_eq_true (by kernel_rfl)) (of_decide_eq_true (by kernel_rfl)) (by kernel_rfl) (by kernel_rfl))
theorem Sm {Γ:Env} {g:Bool} {x':Operand} (q:tq) (hy:At Γ g x' (.agg [.int q.1.1,.int q.1.2])):∀I a,cP I a Γ->g=true->keyOf Tryz.prog 119 (a.eval x')=some (tu Tryz.prog 119 q):=
 Uy (s:=225) F0 ny (by kernel_rfl) (by kernel_rfl) (by kernel_rfl) (by kernel_rfl) q hy
set_option maxHeartbeats 8000000 in
theorem Sn (x:aE) (s:Int) (l3:ey x=true) (uM:0<=s/\s<=1):
 Fn Tryz.prog 59 [x.av,AV.int s] (AV.bool (rp x s)):=by
 refine Fn.go 178 Tryz.func59 Tryz.ntmps59 (λW I a U=>?_)
 have lens:x.ax.length<=9223372036854775807/\x.ar.length<=9223372036854775807/\x.calls.length<=9223372036854775807/\x.seen.length<=9223372036854775807:=⟨U.ln 0 1,U.ln 0 2,U.ln 0 3,U.ln 0 4⟩
 have h4:=(Ia l3 (k:=0) (by omega)).2.1
 obtain⟨-,wa,-,-,sa⟩:=vx l3 (i:=(2*s).toNat) (by omega)
 obtain⟨-,wb,-,-,sb⟩:=vx l3 (i:=(2*s+1).toNat) (by omega)
 have BD:=ahx l3 uM
 have eM:=ahl l3
 have lwa:=fV wa
 have lwb:=fV wb
 refine aA λI a w U=>?_
 refine U.da 9 ?_
 simp only[TD]
 refine bT ?_
 refine .o (.c2 (Ib x s l3 uM)) ?_
 refine cD ?_
 refine .o (bY (Ib x (1-s) l3 (by omega)) (aw (.t rfl) (aw (.t rfl) aL))) ?_
 refine gj.alloc L1 Va ?_
 refine bn ?_
 refine .nil ?_
 intro I a w U
 obtain⟨b6,U⟩:=U.tm (d:=6) rfl
 refine U.EV 0 L1 .tt .r (by first|exact jR rfl|exact j0|exact j1|exact j6) rfl rfl λa w U=>?_
 obtain⟨I,U⟩:=U.fb 0 6
 refine nn<|sr<|U.makeMap rfl J4 λJ5 a w U=>?_
 rw[show(λ_:tq=>false)=rq (bI x s) 0 from(ahu _).symm] at U
 refine aU λI a w U=>?_
 refine St.lo (σ:=Nat) (4::(run 2 9 (run 37 29 []))) ⟨λk=>[(29,AV.int k)],λk=>[Own.gone,Own.rO Tryz.prog 119 4 (tu Tryz.prog 119) (λb:Bool=>.lit (.bool b)) false J5 (k) (rq (bI x s) (k))],λk=>k<=(bI x s).length/\∀i,i<k->(qd (bI x s) (bI x (1-s)) s) i=true⟩ (λk=>(bI x s).length-k) 0 U ?aJ ?aK
 case aJ=>exact⟨Nat.zero_le _,λi hi=>by omega⟩
 case aK=>
  rintro k I a w aj U
  obtain⟨o1,aN⟩:=aj
  refine ai λI a w U=>?_
  refine cz (λae=>?_) λae=>?_
  ·refine aF λI a w U=>?_
   refine U.alloc rfl bA dE λb9 I a w U=>?_
   refine ai λI a w U=>?_
   obtain⟨I,U⟩:=U.fb 2 9
   refine bt λI a w U=>?_
   refine U.o (Uz (l0:=[AV.val (.int .i64 0),AV.val (.int .i64 0)]) F0 gO L5 L6 rfl (bf.c rfl rfl .tt (by first|exact jR rfl|exact j0|exact j1|exact j6) (bf.c rfl rfl .tt (by first|exact jR rfl|exact j0|exact j1|exact j6) bf.nil))) λU=>?_
   refine U.alloc rfl L5 L6 λlN I a w U=>?_
   refine ai λI a w U=>?_
   obtain⟨I,U⟩:=U.fb 3 10
   refine aF λI a w U=>?_
   refine U.o (FK 1 J4 .tt (Sm (uw (ab (bI x s) k) (BC (BD.1 _ (aV ae)))) .tt) rfl) λU=>?_
   refine bt λI a w U=>?_
   refine U.q .F (.cl (Gu ..)) λU=>?_
   refine aA λI a w U=>?_
   refine U.cd (λah=>?_) λah=>?_
   ·rw[Sh (BC (BD.1 _ (aV ae)))] at ah;replace ah:=nt ah
    refine ai λI a w U=>?_
    refine U.rt ?_
    exact bG (by unfold rp;rw[eB (f:=qd (bI x s) (bI x (1-s)) s) ae (ahy ah)];simp)
   ·rw[Sh (BC (BD.1 _ (aV ae)))] at ah;replace ah:=nf ah
    refine aF λI a w U=>?_
    refine U.mapUpdate 1 J4 .tt (Sm (uw (ab (bI x s) k) (BC (BD.1 _ (aV ae)))) .tt) .c (by trivial) (by omega) rfl λa w U=>?_
    rw[ahv (BC (BD.1 _ (aV ae)))] at U
    refine nn<|wp_seq<|U.dk ?_
    refine bT ?_
    refine .o (.c1 (mS ..)) ?_
    refine .o (.cl (oj ..)) ?_
    refine bn ?_
    refine .nil ?_
    intro I a w U
    refine aY ?_
    refine cz (λal=>?_) λal=>?_
    ·refine aF λI a w U=>?_
     refine U.o (.cl (Se ..)) λU=>?_
     refine ai λI a w U=>?_
     refine U.cd (λaH=>?_) λaH=>?_
     ·replace aH:=nt aH
      refine ai λI a w U=>?_
      refine U.rt ?_
      exact bG (by unfold rp;rw[eB (f:=qd (bI x s) (bI x (1-s)) s) ae ((Si ah al).trans aH)];simp)
     ·replace aH:=nf aH
      refine aA λI a w U=>?_
      have U:=U.drop 2
      exact U.ag (k+1) (⟨by omega,fg aN ((Si ah al).trans aH)⟩)
    ·refine bk λI a w U=>?_
     refine U.o (.c1 (tH ..)) λU=>?_
     refine aA λI a w U=>?_
     refine U.cd (λaM=>?_) λaM=>?_
     ·refine ai λI a w U=>?_
      refine U.rt ?_
      exact bG (by unfold rp;rw[eB (f:=qd (bI x s) (bI x (1-s)) s) ae ((Sj ah (by omega)).trans (by simpa using aM))];simp)
     ·refine aA λI a w U=>?_
      have U:=U.drop 2
      exact U.ag (k+1) (⟨by omega,fg aN ((Sj ah (by omega)).trans (by simpa using aM))⟩)
  ·refine zt ?_
   have U:=U.fT
   have U:=U.fT
   refine U.eo [([],none),([],none),([],none),([],none),([],none),([],none),([],none),([],none),([],none),([],none),([],none),([],none),([],none),([2],some (2,[11])),([3],some (3,[12])),([2],some (2,[11])),([3],some (3,[12]))] (by kernel_rfl) (by kernel_rfl) rfl ?_
   refine cD ?_
   refine .o (kf .c .tt (λ_=>by omega)) ?_
   refine fi ?_
   refine .o (kf .c .tt (λ_=>by omega)) ?_
   refine cD ?_
   refine aS.alloc 2 rfl rfl cm dF<|aS.alloc 3 rfl rfl cm dF<|aS.mz 2 rfl cm rfl .tt rfl rfl<|aS.mz 3 rfl cm rfl .tt rfl rfl<|.nil ?_
   intro I a w U
   obtain⟨ma,U⟩:=U.lC (d:=11) 2 rfl rfl
   obtain⟨I,U⟩:=U.fb 2 11
   obtain⟨tZ,U⟩:=U.lC (d:=12) 3 rfl rfl
   obtain⟨I,U⟩:=U.fb 3 12
   refine aU λI a w U=>?_
   refine St.lo (σ:=Nat) (4::(run 2 13 (run 14 82 []))) ⟨λk2=>[(82,AV.int k2)],λk2=>[Own.gone,Own.rO Tryz.prog 119 4 (tu Tryz.prog 119) (λb:Bool=>.lit (.bool b)) false J5 (k) (rq (bI x s) (k)),Own.gone,Own.gone],λk2=>k2<=(ab x.ax (2*s).toNat).aG.length/\∀i,i<k2->(ED x s) i=true⟩ (λk2=>(ab x.ax (2*s).toNat).aG.length-k2) 0 U ?cU ?cV
   case cU=>exact⟨Nat.zero_le _,λi hi=>by omega⟩
   case cV=>
    rintro k2 I a w aj U
    obtain⟨xh,jC⟩:=aj
    refine ai λI a w U=>?_
    refine cz (λbh=>?_) λbh=>?_
    ·refine bk λI a w U=>?_
     refine U.alloc rfl er oe λsg I a w U=>?_
     refine aA λI a w U=>?_
     obtain⟨I,U⟩:=U.fb 4 14
     refine U.dk ?_
     refine dq ?_
     refine .o ((by first|exact dS fU er .tt .tt (λ_=>by change k2<(ab x.ax (2*s+1).toNat).aG.length;omega)|exact fS fU er .tt .tt (λ_=>by change k2<(ab x.ax (2*s+1).toNat).aG.length;omega)|exact fZ fU er .tt .tt (λ_=>by change k2<(ab x.ax (2*s+1).toNat).aG.length;omega))) ?_
     refine bn ?_
     refine .o (.c2 (ahr ..)) ?_
     refine bn ?_
     refine .nil ?_
     intro I a w U
     refine aY ?_
     refine U.cd (λaZ=>?_) λaZ=>?_
     ·change(!ED x s k2)=true at aZ;replace aZ:=nt aZ
      refine ai λI a w U=>?_
      refine U.rt ?_
      exact bG (by unfold rp;rw[show JW x s=false from eB (f:=ED x s) bh aZ];simp)
     ·change(!ED x s k2)=false at aZ;replace aZ:=nf aZ
      refine aA λI a w U=>?_
      have U:=U.drop 4
      exact U.ag (k2+1) (⟨by omega,fg jC aZ⟩)
    ·refine zt ?_
     refine aU λI a w U=>?_
     refine St.lo (σ:=Nat) (4::(run 2 16 (run 60 99 []))) ⟨λk3=>[(99,AV.int k3)],λk3=>[Own.gone,Own.rO Tryz.prog 119 4 (tu Tryz.prog 119) (λb:Bool=>.lit (.bool b)) false J5 (k) (rq (bI x s) (k)),Own.gone,Own.gone],λk3=>k3<=x.calls.length/\∀i,i<k3->(λi=>vE (bI x s) s (ab x.calls i)) i=true⟩ (λk3=>x.calls.length-k3) 0 U ?fo ?fq
     case fo=>exact⟨Nat.zero_le _,λi hi=>by omega⟩
     case fq=>
      rintro k3 I a w aj U
      obtain⟨H9,pX⟩:=aj
      refine ai λI a w U=>?_
      refine cz (λbV=>?_) λbV=>?_
      ·refine aF λI a w U=>?_
       refine U.alloc rfl dQ gD λyI I a w U=>?_
       refine ai λI a w U=>?_
       obtain⟨I,U⟩:=U.fb 4 16
       refine UP λI a w U=>?_
       refine U.cd (λcY=>?_) λcY=>?_
       ·refine zt ?_
        refine aA λI a w U=>?_
        have U:=U.drop 4
        exact U.ag (k3+1) (⟨by omega,fg pX (ahz cY)⟩)
       ·refine wp_skip<|aY<|wp_seq<|U.dk ?_
        refine cD ?_
        refine .o ((by first|exact dS ju gO .tt .c (λ_=>by have:=J1 l3 bV;omega)|exact fS ju gO .tt .c (λ_=>by have:=J1 l3 bV;omega)|exact fZ ju gO .tt .c (λ_=>by have:=J1 l3 bV;omega))) ?_
        refine cD ?_
        refine .o (.bd fL (.k (.t bf.nil))) ?_
        refine .o (.cl (oj (bI x s) ⟨ab (ab x.calls k3).keys 0,(ab x.calls k3).aq⟩)) ?_
        refine bn ?_
        refine .nil ?_
        intro I a w U
        refine aY<|wp_seq<|U.dk ?_
        refine fi ?_
        refine .q .F ((by first|exact dS cJ bA .ag .ag (λhg=>by have h0:0<=placeOf (bI x s) ⟨ab (ab x.calls k3).keys 0,(ab x.calls k3).aq⟩:=(by simp at hg;first|exact hg|exact hg.1|exact hg.1.1);have:=lL h0;omega)|exact fS cJ bA .ag .ag (λhg=>by have h0:0<=placeOf (bI x s) ⟨ab (ab x.calls k3).keys 0,(ab x.calls k3).aq⟩:=(by simp at hg;first|exact hg|exact hg.1|exact hg.1.1);have:=lL h0;omega)|exact fZ cJ bA .ag .ag (λhg=>by have h0:0<=placeOf (bI x s) ⟨ab (ab x.calls k3).keys 0,(ab x.calls k3).aq⟩:=(by simp at hg;first|exact hg|exact hg.1|exact hg.1.1);have:=lL h0;omega))) ?_
        refine tv ?_
        refine .q .F ((by first|exact dS cJ bA .ag .ag (λhg=>by have h0:0<=placeOf (bI x s) ⟨ab (ab x.calls k3).keys 0,(ab x.calls k3).aq⟩:=(by simp at hg;first|exact hg|exact hg.1|exact hg.1.1);have:=lL h0;omega)|exact fS cJ bA .ag .ag (λhg=>by have h0:0<=placeOf (bI x s) ⟨ab (ab x.calls k3).keys 0,(ab x.calls k3).aq⟩:=(by simp at hg;first|exact hg|exact hg.1|exact hg.1.1);have:=lL h0;omega)|exact fZ cJ bA .ag .ag (λhg=>by have h0:0<=placeOf (bI x s) ⟨ab (ab x.calls k3).keys 0,(ab x.calls k3).aq⟩:=(by simp at hg;first|exact hg|exact hg.1|exact hg.1.1);have:=lL h0;omega))) ?_
        refine tv ?_
        refine .q .F ((by first|exact dS cJ bA .ag .ag (λhg=>by have h0:0<=placeOf (bI x s) ⟨ab (ab x.calls k3).keys 0,(ab x.calls k3).aq⟩:=(by simp at hg;first|exact hg|exact hg.1|exact hg.1.1);have:=lL h0;omega)|exact fS cJ bA .ag .ag (λhg=>by have h0:0<=placeOf (bI x s) ⟨ab (ab x.calls k3).keys 0,(ab x.calls k3).aq⟩:=(by simp at hg;first|exact hg|exact hg.1|exact hg.1.1);have:=lL h0;omega)|exact fZ cJ bA .ag .ag (λhg=>by have h0:0<=placeOf (bI x s) ⟨ab (ab x.calls k3).keys 0,(ab x.calls k3).aq⟩:=(by simp at hg;first|exact hg|exact hg.1|exact hg.1.1);have:=lL h0;omega))) ?_
        refine fK ?_
        refine .nil ?_
        intro I a w U
        refine aY ?_
        refine U.cd (λfw=>?_) λfw=>?_
        ·rw[Sk] at fw;replace fw:=nt fw
         refine ai λI a w U=>?_
         refine U.rt ?_
         exact bG (by unfold rp;rw[eB (f:=λi=>vE (bI x s) s (ab x.calls i)) bV ((Sl cY).trans fw)];simp)
        ·rw[Sk] at fw;replace fw:=nf fw
         refine aA λI a w U=>?_
         have U:=U.drop 4
         exact U.ag (k3+1) (⟨by omega,fg pX ((Sl cY).trans fw)⟩)
      ·refine zt ?_
       refine bt λI a w U=>?_
       refine U.o (.li [J2 (ab x.ax (2*s).toNat).waits,J2 (ab x.ax (2*s+1).toNat).waits] Vb (.v (.v .nil))) λU=>?_
       refine U.o (bY (ahp [(ab x.ax (2*s).toNat).waits,(ab x.ax (2*s+1).toNat).waits] (by simp[oJ];omega)) (aw .r aL)) λU=>?_
       refine gz λI a w U=>?_
       refine U.o (.cl (Gu ..)) λU=>?_
       refine aF λI a w U=>?_
       refine U.q .T (mN (aw .tt aL)) λU=>?_
       refine U.q .T (.cl (Gt ([(ab x.ax (2*s).toNat).waits,(ab x.ax (2*s+1).toNat).waits]:List (List aB)).flatten (EA (bI x (1-s))) _ (λv _=>Fn.val (ahs v (bI x (1-s)))))) λU=>?_
       refine aI λI a w U=>?_
       refine U.rt ?_
       exact bG (by unfold rp;rw[eP aN (by omega),show JW x s=true from eP jC (by unfold dj;omega),eP pX (by omega),ahA];rfl)
theorem J6 (x:aE) (hf:x.Fit) (hl:x.calls.length<=1048576):
 Fn Tryz.prog 36 [x.av] (AV.bool (JX x)):=by
 refine Fn.go 13 Tryz.func36 Tryz.ntmps36 (λW I a U=>?_)
 refine bk λI a w U=>?_
 refine U.o (.c1 (D7 x hf hl)) λU=>?_
 refine aF λI a w U=>?_
 refine U.q .T (Ah (λhg=>Sn x 0 hg (by omega)) (aw .ag (aw .c aL))) λU=>?_
 refine bk λI a w U=>?_
 refine U.q .T (Ah (λhg=>Sn x 1 (by simp at hg;exact hg.1) (by omega)) (aw .ag (aw .c aL))) λU=>?_
 refine aA λI a w U=>?_
 refine U.rt ?_
 rfl
def lU (l:List Ev) (k:Nat):aE:=(l.take k).foldl mJ cX
theorem ahB {l:List Ev} {k:Nat} (h:k<l.length) (hn:vF (lU l k) (ab l k)):(fQ (lU l k) (ab l k)).1=lU l (k+1):=by
 unfold lU
 rw[dW h,List.foldl_append]
 show _=mJ (lU l k) (ab l k)
 unfold mJ
 rw[if_pos hn];rfl
theorem ahC {l:List Ev} {k:Nat} (h:k<l.length) (hn:¬vF (lU l k) (ab l k)):lU l k=lU l (k+1):=by
 show _=(l.take (k+1)).foldl mJ cX
 rw[dW h,List.foldl_append]
 show _=mJ (lU l k) (ab l k)
 unfold mJ
 rw[if_neg hn]
theorem Sy (code:List UInt8):
 Fn Tryz.prog 17 [bE code] (AV.bool true):=by
 refine Fn.go 105 Tryz.func17 Tryz.ntmps17 (λW I a U=>?_)
 have hle:=U.cW (t:=0) rfl
 refine aU λI a w U=>?_
 refine cz (λae=>?_) λae=>?_
 ·refine ai λI a w U=>?_
  refine U.rt ?_
  rfl
 ·refine bH λI a w U=>?_
  refine U.cG [] (nU code (by omega)) (aw .r aL) rfl (by decide) rfl λl I a w sq U=>?_
  refine aF λI a w U=>?_
  refine U.o (.cl (nT l)) λU=>?_
  refine U.alloc rfl df dz λb4 I a w U=>?_
  refine ai λI a w U=>?_
  obtain⟨I,U⟩:=U.fb 0 4
  refine U.dk ?_
  refine bn ?_
  refine .o (.cl (mj l)) ?_
  refine bn ?_
  refine .o (.c2 (mG (ba l) (mI _))) ?_
  refine bn ?_
  refine .nil ?_
  intro I a w U
  refine aY ?_
  refine U.cd (λah=>?_) λah=>?_
  ·exfalso;simp at ah
   skip
  ·refine zt ?_
   refine U.o (.cl (Ql ..)) λU=>?_
   refine U.alloc rfl df dz λb5 I a w U=>?_
   refine aA λI a w U=>?_
   refine St.lo (σ:=Nat) (6::(run 58 23 [])) ⟨λk=>[(6,AV.int k)],λk=>[Own.gone,Own.box b5 30 (lU l k).cells],λk=>k<=l.length⟩ (λk=>l.length-k) 0 U ?aJ ?aK
   case aJ=>exact Nat.zero_le _
   case aK=>
    rintro k I a w aj U
    have hk:k<=l.length:=aj
    have zc:=ahj (l.take k)
    have hg:cx (lU l k):=zc.1.aW
    have ku:=hg.ar
    dsimp only at U
    refine mA λI a w U=>?_
    refine nw (λal=>?_) λal=>?_
    ·obtain⟨h1,h2⟩:=al
     refine zt ?_
     refine U.dk ?_
     refine bT ?_
     refine .o ((by first|exact dS jL iH .tt .tt (λ_=>by exact h1)|exact fS jL iH .tt .tt (λ_=>by exact h1)|exact fZ jL iH .tt .tt (λ_=>by exact h1))) ?_
     refine fK ?_
     refine .q .T ((by first|exact dS jL iH .ag .ag (λhg=>by exact h1)|exact fS jL iH .ag .ag (λhg=>by exact h1)|exact fZ jL iH .ag .ag (λhg=>by exact h1))) ?_
     refine oY ?_
     refine .q .T ((by first|exact dS jL iH .ag .ag (λhg=>by exact h1)|exact fS jL iH .ag .ag (λhg=>by exact h1)|exact fZ jL iH .ag .ag (λhg=>by exact h1))) ?_
     refine tv ?_
     refine .q .T ((by first|exact dS jL iH .ag .ag (λhg=>by exact h1)|exact fS jL iH .ag .ag (λhg=>by exact h1)|exact fZ jL iH .ag .ag (λhg=>by exact h1))) ?_
     refine bT ?_
     refine .q .T ((by first|exact dS eU dr .ag .ag (λhg=>by simp only[B] at hg;omega)|exact fS eU dr .ag .ag (λhg=>by simp only[B] at hg;omega)|exact fZ eU dr .ag .ag (λhg=>by simp only[B] at hg;omega))) ?_
     refine dq ?_
     refine .nil ?_
     intro I a w U
     refine aY ?_
     refine nw (λaH=>?_) λaH=>?_
     ·obtain⟨⟨⟨g1,g2⟩,g3⟩,g4⟩:=aH;have hn:¬vF (lU l k) (ab l k):=λhx=>hx ⟨g1,by omega,by omega,g4⟩
      refine zt ?_
      refine aI λI a w U=>?_
      rw[ahC h1 hn] at U
      exact U.ag (k+1) (by show k+1<=_;omega)
     ·have hn:vF (lU l k) (ab l k):=λ⟨g1,g2,g3,g4⟩=>by rw[g4,g1] at aH;simp at aH;omega
      refine zt ?_
      refine U.eo [([1],none),([],none),([],none),([],none),([],none),([],none),([],none),([],none),([],none),([1],some (1,[]))] (by kernel_rfl) (by kernel_rfl) rfl ?_
      refine .r [1] (.ls 1) ?_
      refine bT ?_
      refine .o ((by first|exact dS jL iH .tt .tt (λ_=>by exact h1)|exact fS jL iH .tt .tt (λ_=>by exact h1)|exact fZ jL iH .tt .tt (λ_=>by exact h1))) ?_
      refine bn ?_
      refine .o (.c2 (R5 (lU l k) (ab l k) hg.Fit hg.small.2.2.1.1)) ?_
      refine cD ?_
      refine aS.iW (x:=AV.any) 1 (λF W0 I0 I a w Q U kk=>U.sb 1 λU=>kk _ _ _ U) ?_
      refine .nil ?_
      intro I a w U
      refine aI λI a w U=>?_
      rw[ahB h1 hn] at U
      exact U.ag (k+1) (by show k+1<=_;omega)
    ·refine wp_exit<|cN<|cN<|gw<|aY<|wp_seq<|wp_seq ?_
     have lr:=ko.2 ⟨hg,zc.2.1⟩
     obtain⟨I,U⟩:=U.fb 1 5
     refine ai λI a w U=>?_
     have U:=U.drop 0
     refine St.lo (σ:=Nat) (2::(run 3 7 (run 22 81 []))) ⟨λs=>[(7,AV.int s)],λs=>[],λs=>s<=2⟩ (λs=>2-s) 0 U ?cU ?cV
     case cU=>exact Nat.zero_le _
     case cV=>
      rintro s I a w aj U
      have eS:s<=2:=aj
      refine aA λI a w U=>?_
      refine nw (λaM=>?_) λaM=>?_
      ·have dC:s<2:=by omega
       refine aF λI a w U=>?_
       refine U.o (bY (p9 (lU l k) s lr (by omega)) (aw (.t rfl) (aw (.t rfl) aL))) λU=>?_
       refine ai λI a w U=>?_
       have jX:=Ez lr (s:=(s:Int)) (by omega)
       refine ai λI a w U=>?_
       have U:=U.drop 0
       refine St.lo (σ:=Nat) (2::(9::(run 15 88 []))) ⟨λn=>[(9,AV.int n)],λn=>[],λn=>n<=(bI (lU l k) s).length⟩ (λn=>(bI (lU l k) s).length-n) 0 U ?fo ?fq
       case fo=>exact Nat.zero_le _
       case fq=>
        rintro n I a w aj U
        have qQ:n<=(bI (lU l k) s).length:=aj
        refine aU λI a w U=>?_
        refine cz (λbh=>?_) λbh=>?_
        ·refine dD λI a w U=>?_
         refine U.o (.c1 (tH ..)) λU=>?_
         refine aA λI a w U=>?_
         refine U.cd (λaZ=>?_) λaZ=>?_
         ·exfalso;simp only[B] at aZ;exact aZ (zc.2.2 s dC _ (aV bh))
          skip
         ·refine aI λI a w U=>?_
          exact U.ag (n+1) (by show n+1<=_;omega)
        ·refine zt ?_
         refine aI λI a w U=>?_
         exact U.ag (s+1) (by show s+1<=_;omega)
      ·refine zt ?_
       refine U.o .la λU=>?_
       refine U.o (.c1 (J6 (lU l k) hg.Fit hg.small.2.2.1.1)) λU=>?_
       refine ai λI a w U=>?_
       refine U.rt ?_
       exact bG (J0 zc.1 zc.2.1)
end Go.Proofs.YtjepcfpkclegdaaGreat

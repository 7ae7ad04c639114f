/- More contracts of functions, plain facts. -/
import Derived.Test.YtjepcfpkclegdaaGreatQ06
set_option linter.unusedVariables false
set_option linter.unusedSimpArgs false
set_option maxRecDepth 100000
set_option maxHeartbeats 4000000
namespace Go.Proofs.YtjepcfpkclegdaaGreat
open Go Go.RowKit
attribute [local irreducible] wpList Code.wp Ok
def ev (kind at_ an:Int):Ev:=⟨kind,at_,an,0,0,0,0,0,0,0,0⟩
def ad (w:aE) (e:Ev):aE:=if(ez w e).2=true then(ez w e).1 else w
def a6 (w:aE):aE:=ad w (ev 4 0 0)
def aa:Nat->aE->aE
 |0,w=>w
 |n+1,w=>if w.ar.length=0 then w else aa n (a6 w)
def a0 (w:aE) (i:Nat):aE:=aa 1000 (ad w (ev 8 i 0))
def a3 (w:aE) (c:Nat):aE:=aa 1000 (ad w (ev 2 0 c))
def ay (w:aE):aE:=(List.range 4).foldl (λ(w:aE) (i:Nat)=>ad w (ev 7 i 0)) w
def a2 (w:aE):aE:=(List.range 2).foldl a3 ((List.range 4).foldl a0 (aa 1000 (ay w)))
def ak:Nat->aE->aE
 |0,w=>w
 |n+1,w=>if w.time<79999 then ak n (a2 w) else w
theorem bp {w:aE} (h:Inv w) (e:Ev):Inv (ad w e):=by
 unfold ad
 split
 ·exact h.step e ‹_›
 ·exact h
theorem a1 (w:aE) (e:Ev):(ad w e).time<=w.time+1:=by
 unfold ad
 split
 ·rw[Bd];exact Int.le_refl _
 ·omega
theorem cC {w:aE} (h:Inv w):Inv (a6 w):=bp h _
theorem b0 {R:aE->Prop} (hR:∀x m r,R x->x.ar=m::r->R (a6 x)):∀(n:Nat) {w:aE},R w->R (aa n w)
 |0,_,h=>h
 |n+1,w,h=>by
  unfold aa
  cases hr:w.ar with
  |nil=>exact h
  |cons m r=>exact b0 hR n (hR w m r h hr)
theorem bC {w:aE} (h:Inv w) (n:Nat):Inv (aa n w):=b0 (λx _ _ hx _=>cC hx) n h
theorem br {R:aE->Prop} {f:aE->Nat->aE} (hf:∀x i,R x->R (f x i)):∀(l:List Nat) {x:aE},R x->R (l.foldl f x)
 |[],_,h=>h
 |i::r,_,h=>br hf r (hf _ i h)
theorem bs {f:aE->Nat->aE} {n:Int} (hf:∀x i,(f x i).time<=x.time+n):∀(l:List Nat) (x:aE),(l.foldl f x).time<=x.time+n*(l.length:Nat)
 |[],x=>by simp
 |i::r,x=>by
  have h1:=bs hf r (f x i)
  have h2:=hf x i
  have h3:n*((r.length+1:Nat):Int)=n*(r.length:Nat)+n:=by rw[Int.natCast_add,Int.mul_add];simp
  rw[List.foldl_cons,List.length_cons]
  omega
theorem bu {f:aE->Nat->aE} {n:Int} (hn:0<=n) (hf:∀x i,cx x->x.time<=96000->cx (f x i)/\(f x i).time<=x.time+n):∀(l:List Nat) {x:aE},cx x->x.time+n*(l.length:Nat)<=96000->cx (l.foldl f x)/\(l.foldl f x).time<=x.time+n*(l.length:Nat)
 |[],x,h,_=>⟨h,by simp⟩
 |i::r,x,h,ht=>by
  have h3:n*((r.length+1:Nat):Int)=n*(r.length:Nat)+n:=by rw[Int.natCast_add,Int.mul_add];simp
  have h4:0<=n*(r.length:Nat):=Int.mul_nonneg hn (by omega)
  rw[List.length_cons] at ht⊢
  have h1:=hf x i h (by omega)
  have h2:=bu hn hf r h1.1 (by omega)
  rw[List.foldl_cons]
  exact⟨h2.1,by omega⟩
theorem cS {w:aE} (h:Inv w):Inv (a2 w):=by
 have h1:Inv (ay w):=by unfold ay;exact br (R:=Inv) (f:=λ(w:aE) (i:Nat)=>ad w (ev 7 i 0)) (λ_ _ hx=>bp hx _) (List.range 4) h
 have h2:=br (R:=Inv) (f:=a0) (λx i hx=>by unfold a0;exact bC (bp hx _) 1000) (List.range 4) (bC h1 1000)
 have h3:=br (R:=Inv) (f:=a3) (λx i hx=>by unfold a3;exact bC (bp hx _) 1000) (List.range 2) h2
 unfold a2
 exact h3
theorem b3:∀(n:Nat) {w:aE},Inv w->Inv (ak n w)
 |0,_,h=>h
 |n+1,w,h=>by
  unfold ak
  split
  ·exact b3 n (cS h)
  ·exact h
theorem bb:∀(n:Nat) (w:aE),(aa n w).time<=w.time+n
 |0,w=>by show w.time<=_;omega
 |n+1,w=>by
  unfold aa
  split
  ·omega
  ·have h1:=bb n (a6 w)
   have h2:(a6 w).time<=w.time+1:=a1 w _
   omega
theorem b6 (w:aE) (i:Nat):(a0 w i).time<=w.time+1001:=by
 have h1:=a1 w (ev 8 i 0)
 have h2:=bb 1000 (ad w (ev 8 i 0))
 unfold a0
 omega
theorem b7 (w:aE) (c:Nat):(a3 w c).time<=w.time+1001:=by
 have h1:=a1 w (ev 2 0 c)
 have h2:=bb 1000 (ad w (ev 2 0 c))
 unfold a3
 omega
theorem cZ (w:aE):(ay w).time<=w.time+4:=by
 have:=bs (f:=λ(w:aE) (i:Nat)=>ad w (ev 7 i 0)) (n:=1) (λx i=>a1 x _) (List.range 4) w
 rw[List.length_range] at this
 unfold ay
 omega
theorem b8 (w:aE):(a2 w).time<=w.time+7010:=by
 have h0:=cZ w
 have h1:=bb 1000 (ay w)
 have h2:=bs b6 (List.range 4) (aa 1000 (ay w))
 have h3:=bs b7 (List.range 2) ((List.range 4).foldl a0 (aa 1000 (ay w)))
 rw[List.length_range] at h2 h3
 unfold a2
 omega
theorem b9:∀(n:Nat) {w:aE},w.time<=99999->(ak n w).time<=99999
 |0,_,h=>h
 |n+1,w,h=>by
  unfold ak
  split
  ·have:=b8 w
   exact b9 n (by omega)
  ·exact h
theorem c0 {P:Program} {H:List Own} {Γ:Env} {g:Bool} {d:Option Tmp} {y z:Operand} {T T' ty:TypeId} {p:String} {af:Array Edge} {gd:Option (Nat×Bool)} {m n:Int} (hy:At Γ g y (.int m)) (hz:At Γ g z (.int n)):
 Ok P H Γ g ⟨d,.call ⟨.builtin .min,#[y,z],#[T,T']⟩,ty,p,af,gd⟩ (.int (min m n)):=
 iS λI a w he hg=>by
  have h1:a.eval y=.int .i64 m:=hy I a he hg
  have h2:a.eval z=.int .i64 n:=hz I a he hg
  have e:(if n<m then n else m)=min m n:=by split<;>omega
  simp only[execOp,resolve,invoke,builtin,Sem.run_bind,Sem.run_pure,Result.andThen_ok,List.map_toArray,List.map_cons,List.map_nil,h1,h2]
  simp[Builtin.min_,Builtin.min2,e]
theorem bg {w:aE} (h:w.time<99999) (e:Ev):(fP w e).1=ad w e:=by
 unfold fP ad
 by_cases hd:(ez w e).2=true
 ·rw[if_pos ⟨h,hd⟩,if_pos hd]
 ·rw[if_neg (λx=>hd x.2),if_neg hd]
theorem a4 {w:aE} (h:cx w) (ht:w.time<99999) (e:Ev):cx (ad w e):=by
 rw[<-bg ht]
 exact(ko.1 (Bn (ko.2 ⟨h,by omega⟩) e)).1
theorem ca:∀(n:Nat) {w:aE},cx w->w.time+n<=99999->cx (aa n w)
 |0,_,h,_=>h
 |n+1,w,h,ht=>by
  unfold aa
  split
  ·exact h
  ·have h2:(a6 w).time<=w.time+1:=a1 w _
   exact ca n (a4 h (by omega) _) (by omega)
structure a7 (x y:aE) (k:Nat):Prop where
 aW:cx y
 time:y.time<=x.time+k
 rest:aa (1000-k) y=aa 1000 x
theorem a7.next {x y:aE} {k:Nat} (h:a7 x y k) (ht:x.time<=98000) (hk:k<1000) (hr:0<y.ar.length):a7 x (ad y (ev 4 0 0)) (k+1):=by
 have h2:(ad y (ev 4 0 0)).time<=y.time+1:=a1 y _
 have h3:=h.time
 refine⟨a4 h.aW (by omega) _,by omega,?_⟩
 rw[<-h.rest,show 1000-k=(1000-(k+1))+1 by omega]
 show _=(if y.ar.length=0 then y else aa (1000-(k+1)) (a6 y))
 rw[if_neg (by omega)];rfl
theorem a7.stop {x y:aE} {k:Nat} (h:a7 x y k) (hk:¬k<1000\/¬0<y.ar.length):y=aa 1000 x:=by
 rw[<-h.rest]
 rcases hk with hk|hk
 ·rw[show 1000-k=0 by omega];rfl
 ·cases 1000-k with
  |zero=>rfl
  |succ n=>unfold aa;rw[if_pos (by omega)]
structure a5 (f:aE->Nat->aE) (n:Int) (x y:aE) (k:Nat):Prop where
 aW:cx y
 time:y.time<=x.time+n*k
 eq:y=(List.range k).foldl f x
theorem a5.zero {f:aE->Nat->aE} {n:Int} {x:aE} (h:cx x):a5 f n x x 0:=⟨h,by omega,rfl⟩
theorem a5.next {f:aE->Nat->aE} {n:Int} {x y:aE} {k:Nat} (h:a5 f n x y k) (hg:cx (f y k)) (ht:(f y k).time<=y.time+n):a5 f n x (f y k) (k+1):=
 ⟨hg,by have h1:=h.time;have h2:n*((k+1:Nat):Int)=n*k+n:=by rw[Int.natCast_add,Int.mul_add];simp
        omega,by rw[List.range_succ,List.foldl_append,<-h.eq];rfl⟩
theorem a8 {w:aE} (h:cx w) (ht:w.time<=98000):cx (aa 1000 w)/\(aa 1000 w).time<=w.time+1000:=⟨ca 1000 h (by omega),bb 1000 w⟩
structure a9 (m:Nat) (x y:aE) (k:Nat):Prop where
 aW:cx y
 time:y.time<=99999
 rest:ak (m-k) y=ak m x
theorem cb (y:aE) (k:Nat):aa 1000 (ad y (ev 8 k 0))=a0 y k:=rfl
theorem cc (y:aE) (k:Nat):aa 1000 (ad y (ev 2 0 k))=a3 y k:=rfl
theorem bS (x:aE) (hg:cx x) (ht:x.time<=98000):
 Fn Tryz.prog 152 [x.av] ((aa 1000 x).av):=by
 refine Fn.go 21 Tryz.func152 Tryz.ntmps152 (λW I a U=>?_)
 refine sr<|U.box rfl .tt λb1 I a w U=>U.alloc rfl df dz λb2 I a w U=>?_
 refine ai λI a w U=>?_
 refine St.lo (σ:=Nat×aE) (run 17 3 []) ⟨λ⟨k,y⟩=>[(3,AV.int k)],λ⟨k,y⟩=>[Own.box b1 30 y.cells,Own.box b2 30 [AV.val (.int .i64 0),AV.rows 7 [],AV.rows 15 [],AV.rows 13 [],AV.rows 1 []]],λ⟨k,y⟩=>k<=1000/\a7 x y k⟩ (λ⟨k,y⟩=>1000-k) (0,x) U ?aJ ?aK
 case aJ=>exact⟨by omega,hg,by omega,rfl⟩
 case aK=>
  rintro⟨k,y⟩ I a w aj U
  obtain⟨hk,hp⟩:=aj
  have bZ:=hp.time
  have ku:=hp.aW.ar
  dsimp only at U
  refine ob λI a w U=>?_
  refine nw (λae=>?_) λae=>?_
  ·obtain⟨h1,h2⟩:=ae
   refine bH λI a w U=>?_
   refine U.o (.bd kW (.k bf.nil)) λU=>?_
   refine U.o (bY (R3 y (ev 4 0 0) hp.aW (by omega)) (aw (.t rfl) (aw (.t rfl) aL))) λU=>?_
   refine jT λI a w U=>?_
   rw[bg (by omega)] at U
   exact U.ag (k+1,ad y (ev 4 0 0)) (⟨by show k+1<=1000;omega,hp.next ht (by omega) (by omega)⟩)
  ·simp only[B,Bool.and_eq_false_iff] at ae
   refine wp_exit<|cN<|cN<|gw<|aY<|wp_seq ?_
   have hy:=(hp.stop (by omega)).symm
   subst hy
   refine aA λI a w U=>?_
   refine U.ret rfl (.cons (.sx 1) aX.nil) ?_
   rfl
theorem c3 (x:aE) (hg:cx x) (ht:x.time<=80000):
 Fn Tryz.prog 97 [x.av] ((a2 x).av):=by
 refine Fn.go 46 Tryz.func97 Tryz.ntmps97 (λW I a U=>?_)
 refine sr<|U.box rfl .tt λb1 I a w U=>U.alloc rfl df dz λb2 I a w U=>?_
 refine ai λI a w U=>?_
 refine St.lo (σ:=Nat×aE) (3::(run 11 6 [])) ⟨λ⟨k,y⟩=>[(6,AV.int k)],λ⟨k,y⟩=>[Own.box b1 30 y.cells,Own.box b2 30 [AV.val (.int .i64 0),AV.rows 7 [],AV.rows 15 [],AV.rows 13 [],AV.rows 1 []]],λ⟨k,y⟩=>k<=4/\a5 (λ(w:aE) (i:Nat)=>ad w (ev 7 i 0)) 1 x y k⟩ (λ⟨k,y⟩=>4-k) (0,x) U ?aJ ?aK
 case aJ=>exact⟨by omega,.zero (by assumption)⟩
 case aK=>
  rintro⟨k,y⟩ I a w aj U
  obtain⟨hk,hp⟩:=aj
  have bZ:=hp.time
  have bo:=hp.aW
  dsimp only at U
  refine ai λI a w U=>?_
  refine cz (λae=>?_) λae=>?_
  ·refine bt λI a w U=>?_
   refine U.o (.bd kW (.k (.k bf.nil))) λU=>?_
   refine U.o (bY (R3 y (ev 7 k 0) hp.aW (by omega)) (aw (.t rfl) (aw (.t rfl) aL))) λU=>?_
   refine aU λI a w U=>?_
   rw[bg (by omega)] at U
   refine aA λI a w U=>?_
   exact U.ag (k+1,ad y (ev 7 k 0)) (⟨by show k+1<=4;omega,hp.next (a4 bo (by omega) _) (a1 y _)⟩)
  ·refine wp_exit<|cN<|cN<|gw<|aY<|wp_seq ?_
   obtain rfl:k=4:=by omega
   have hy:ay x=y:=hp.eq.symm
   subst hy
   have uh:=hp.aW
   have Jn:=hp.time
   refine bH λI a w U=>?_
   refine U.o (bY (bS (ay x) uh (by omega)) (aw (.t rfl) aL)) λU=>?_
   refine ai λI a w U=>?_
   have su:=a8 uh (by omega)
   have dc:=su.1
   have dd:=su.2
   refine ai λI a w U=>?_
   refine St.lo (σ:=Nat×aE) (4::(run 13 19 [])) ⟨λ⟨k,y⟩=>[(19,AV.int k)],λ⟨k,y⟩=>[Own.box b1 30 y.cells,Own.box b2 30 [AV.val (.int .i64 0),AV.rows 7 [],AV.rows 15 [],AV.rows 13 [],AV.rows 1 []]],λ⟨k,y⟩=>k<=4/\a5 a0 1001 (aa 1000 (ay x)) y k⟩ (λ⟨k,y⟩=>4-k) (0,(aa 1000 (ay x))) U ?cU ?cV
   case cU=>exact⟨by omega,.zero (by assumption)⟩
   case cV=>
    rintro⟨k,y⟩ I a w aj U
    obtain⟨hk,hp⟩:=aj
    have bZ:=hp.time
    have bo:=hp.aW
    dsimp only at U
    refine ai λI a w U=>?_
    refine cz (λah=>?_) λah=>?_
    ·refine bt λI a w U=>?_
     refine U.o (.bd kW (.k (.k bf.nil))) λU=>?_
     refine U.o (bY (R3 y (ev 8 k 0) hp.aW (by omega)) (aw (.t rfl) (aw (.t rfl) aL))) λU=>?_
     refine aU λI a w U=>?_
     rw[bg (by omega)] at U
     have hl:=a4 bo (by omega) (ev 8 k 0)
     have bw:=a1 y (ev 8 k 0)
     have hd:=a8 hl (by omega)
     refine U.o (.ls 0) λU=>?_
     refine U.o (bY (bS (ad y (ev 8 k 0)) hl (by omega)) (aw (.t rfl) aL)) λU=>?_
     refine aI λI a w U=>?_
     rw[cb] at U
     exact U.ag (k+1,a0 y k) (⟨by show k+1<=4;omega,hp.next hd.1 (by have:=hd.2;rw[cb] at this;omega)⟩)
    ·refine wp_exit<|cN<|cN<|gw<|aY<|wp_seq<|wp_seq ?_
     obtain rfl:k=4:=by omega
     have hy:((List.range 4).foldl a0 (aa 1000 (ay x)))=y:=hp.eq.symm
     subst hy
     have dk:=hp.aW
     have dn:=hp.time
     refine ai λI a w U=>?_
     refine St.lo (σ:=Nat×aE) (5::(run 13 32 [])) ⟨λ⟨k,y⟩=>[(32,AV.int k)],λ⟨k,y⟩=>[Own.box b1 30 y.cells,Own.box b2 30 [AV.val (.int .i64 0),AV.rows 7 [],AV.rows 15 [],AV.rows 13 [],AV.rows 1 []]],λ⟨k,y⟩=>k<=2/\a5 a3 1001 ((List.range 4).foldl a0 (aa 1000 (ay x))) y k⟩ (λ⟨k,y⟩=>2-k) (0,((List.range 4).foldl a0 (aa 1000 (ay x)))) U ?fo ?fq
     case fo=>exact⟨by omega,.zero (by assumption)⟩
     case fq=>
      rintro⟨k,y⟩ I a w aj U
      obtain⟨hk,hp⟩:=aj
      have bZ:=hp.time
      have bo:=hp.aW
      dsimp only at U
      refine ai λI a w U=>?_
      refine cz (λal=>?_) λal=>?_
      ·refine bt λI a w U=>?_
       refine U.o (.bd kW (.k (.k bf.nil))) λU=>?_
       refine U.o (bY (R3 y (ev 2 0 k) hp.aW (by omega)) (aw (.t rfl) (aw (.t rfl) aL))) λU=>?_
       refine aU λI a w U=>?_
       rw[bg (by omega)] at U
       have hl:=a4 bo (by omega) (ev 2 0 k)
       have bw:=a1 y (ev 2 0 k)
       have hd:=a8 hl (by omega)
       refine U.o (.ls 0) λU=>?_
       refine U.o (bY (bS (ad y (ev 2 0 k)) hl (by omega)) (aw (.t rfl) aL)) λU=>?_
       refine aI λI a w U=>?_
       rw[cc] at U
       exact U.ag (k+1,a3 y k) (⟨by show k+1<=2;omega,hp.next hd.1 (by have:=hd.2;rw[cc] at this;omega)⟩)
      ·refine wp_exit<|cN<|cN<|gw<|aY<|wp_seq ?_
       obtain rfl:k=2:=by omega
       have hy:a2 x=y:=hp.eq.symm
       subst hy
       refine aA λI a w U=>?_
       refine U.ret rfl (.cons (.sx 1) aX.nil) ?_
       rfl
theorem c4 {w:aE} (h:cx w) (ht:w.time<=80000):cx (a2 w):=by
 have r:=bu (f:=λ(w:aE) (i:Nat)=>ad w (ev 7 i 0)) (n:=1) (by decide) (λx i hx cf=>⟨a4 hx (by omega) _,a1 x _⟩) (List.range 4) h (by rw[List.length_range];omega)
 rw[List.length_range] at r
 have b:=a8 r.1 (by omega)
 have t:=bu (f:=a0) (n:=1001) (by decide) (λx i hx cf=>⟨by
  have h1:=a1 x (ev 8 i 0)
  exact(a8 (a4 hx (by omega) (ev 8 i 0)) (by omega)).1,b6 x i⟩) (List.range 4) b.1 (by rw[List.length_range];omega)
 rw[List.length_range] at t
 exact(bu (f:=a3) (n:=1001) (by decide) (λx i hx cf=>⟨by
  have h1:=a1 x (ev 2 0 i)
  exact(a8 (a4 hx (by omega) (ev 2 0 i)) (by omega)).1,b7 x i⟩) (List.range 2) t.1 (by rw[List.length_range];omega)).1
theorem a9.next {m:Nat} {x y:aE} {k:Nat} (h:a9 m x y k) (hk:k<m) (ht:y.time<79999):a9 m x (a2 y) (k+1):=by
 have h1:=b8 y
 refine⟨c4 h.aW (by omega),by omega,?_⟩
 rw[<-h.rest,show m-k=(m-(k+1))+1 by omega]
 show _=(if y.time<79999 then ak (m-(k+1)) (a2 y) else y)
 rw[if_pos ht]
theorem a9.stop {m:Nat} {x y:aE} {k:Nat} (h:a9 m x y k) (hk:¬k<m\/¬y.time<79999):y=ak m x:=by
 rw[<-h.rest]
 rcases hk with hk|hk
 ·rw[show m-k=0 by omega];rfl
 ·cases m-k with
  |zero=>rfl
  |succ n=>unfold ak;rw[if_neg hk]
theorem c5 (x:aE) (r:Int) (aj:ey x=true):
 Fn Tryz.prog 57 [x.av,AV.int r] ((ak (min r 40).toNat x).av):=by
 refine Fn.go 25 Tryz.func57 Tryz.ntmps57 (λW I a U=>?_)
 have LB:=ko.1 aj
 have hg:=LB.1
 have oH:=hg.small.2.2.1.1
 refine sr<|U.box rfl .tt λb2 I a w U=>U.alloc rfl df dz λb4 I a w U=>?_
 refine bH λI a w U=>?_
 refine U.o (.c1 (D7 x hg.Fit oH)) λU=>?_
 refine ai λI a w U=>?_
 refine U.cd (λae=>?_) λae=>?_
 ·exfalso;rw[aj] at ae;cases ae
  skip
 ·refine ai λI a w U=>?_
  refine St.lo (σ:=Nat×aE) (5::(run 13 10 [])) ⟨λ⟨k,y⟩=>[(5,AV.int k)],λ⟨k,y⟩=>[Own.box b2 30 y.cells,Own.box b4 30 [AV.val (.int .i64 0),AV.rows 7 [],AV.rows 15 [],AV.rows 13 [],AV.rows 1 []]],λ⟨k,y⟩=>k<=40/\a9 (min r 40).toNat x y k⟩ (λ⟨k,y⟩=>40-k) (0,x) U ?aJ ?aK
  case aJ=>exact⟨by omega,hg,LB.2,rfl⟩
  case aK=>
   rintro⟨k,y⟩ I a w aj U
   obtain⟨hk,hp⟩:=aj
   dsimp only at U
   refine aF λI a w U=>?_
   refine U.o (c0 .tt .c) λU=>?_
   refine jj λI a w U=>?_
   refine nw (λah=>?_) λah=>?_
   ·obtain⟨h1,h2⟩:=ah
    refine bH λI a w U=>?_
    refine U.o (bY (c3 y hp.aW (by omega)) (aw (.t rfl) aL)) λU=>?_
    refine aU λI a w U=>?_
    exact U.ag (k+1,a2 y) (⟨by show k+1<=40;omega,hp.next (by omega) (by omega)⟩)
   ·simp only[B,Bool.and_eq_false_iff] at ah
    refine wp_exit<|cN<|cN<|gw<|aY<|wp_seq ?_
    have hy:=hp.stop (by omega)
    refine bH λI a w U=>?_
    refine U.o (.c1 (P9 y hp.aW.small)) λU=>?_
    refine ai λI a w U=>?_
    refine U.ret rfl (.cons (.sx 1) aX.nil) ?_
    rw[<-hy];rfl
theorem c6 (x:aE) (aj:ey x=true):
 Fn Tryz.prog 34 [x.av] ((ak 25 x).av):=by
 refine Fn.go 5 Tryz.func34 Tryz.ntmps34 (λW I a U=>?_)
 refine bH λI a w U=>?_
 refine U.alloc rfl df dz λb2 I a w U=>?_
 refine bH λI a w U=>?_
 refine U.o (.cl (c5 x 25 aj)) λU=>?_
 refine ai λI a w U=>?_
 refine U.ret rfl (.cons (.sx 0) aX.nil) ?_
 rfl
theorem cu (code:List UInt8):
 Fn Tryz.prog 16 [bE code] (AV.bool true):=by
 refine Fn.go 60 Tryz.func16 Tryz.ntmps16 (λW I a U=>?_)
 have hle:=U.cW (t:=0) rfl
 refine aU λI a w U=>?_
 refine cz (λae=>?_) λae=>?_
 ·refine ai λI a w U=>?_
  refine U.rt ?_
  rfl
 ·refine bH λI a w U=>?_
  refine U.cG [] (nU code (by omega)) (aw .r aL) rfl (by decide) rfl λl I a w dt U=>?_
  refine aF λI a w U=>?_
  refine U.o (.cl (nT l)) λU=>?_
  refine U.alloc rfl df dz λb4 I a w U=>?_
  refine ai λI a w U=>?_
  obtain⟨I,U⟩:=U.fb 0 4
  refine U.m λU=>?_
  refine U.o (.cl (mj l)) λU=>?_
  refine U.alloc rfl df dz λb5 I a w U=>?_
  refine ai λI a w U=>?_
  obtain⟨I,U⟩:=U.fb 1 5
  refine aF λI a w U=>?_
  refine U.o (.c2 (mG (ba l) (mI _))) λU=>?_
  refine ai λI a w U=>?_
  refine U.cd (λah=>?_) λah=>?_
  ·exfalso;simp at ah
   skip
  ·refine wp_skip<|aY<|wp_seq ?_
   obtain⟨hI,hT⟩:=iQ l
   have lr:=lT l
   have ec:=hI.aW
   have lD:=rn l
   have dC:=qc l
   have sZ:=ec.small.2.2.1.1
   have ch:=b3 25 hI
   have da:=b9 25 hT
   have cp:=ko.2 ⟨ch.aW,da⟩
   have jX:=Ez cp (s:=0) (by omega)
   refine bH λI a w U=>?_
   refine U.o (.c1 (c6 (ba l) lr)) λU=>?_
   refine U.o (bY (p9 (ak 25 (ba l)) 0 cp (by omega)) (aw (.t rfl) (aw .c aL))) λU=>?_
   refine ai λI a w U=>?_
   have U:=U.drop 0
   refine ai λI a w U=>?_
   have U:=U.drop 0
   refine St.lo (σ:=Nat) (2::(run 2 7 (run 35 25 []))) ⟨λi=>[(7,AV.int i)],λi=>[],λi=>i<=(bI (ak 25 (ba l)) 0).length⟩ (λi=>(bI (ak 25 (ba l)) 0).length-i) 0 U ?aJ ?aK
   case aJ=>exact Nat.zero_le _
   case aK=>
    rintro i I a w aj U
    have uv:i<=(bI (ak 25 (ba l)) 0).length:=aj
    refine aU λI a w U=>?_
    refine cz (λal=>?_) λal=>?_
    ·refine ai λI a w U=>?_
     have U:=U.drop 0
     refine St.lo (σ:=Nat) (2::(8::(run 29 31 []))) ⟨λk=>[(8,AV.int k)],λk=>[],λk=>k<=i⟩ (λk=>i-k) 0 U ?cU ?cV
     case cU=>exact Nat.zero_le _
     case cV=>
      rintro k I a w aj U
      have m5:k<=i:=aj
      refine aI λI a w U=>?_
      refine cz (λaH=>?_) λaH=>?_
      ·refine ai λI a w U=>?_
       refine U.cd (λaM=>?_) λaM=>?_
       ·exfalso;simp only[B] at aM;exact ahf ch (σ:=0) (by omega) aH al aM
        skip
       ·refine aI λI a w U=>?_
        exact U.ag (k+1) (by show k+1<=_;omega)
      ·refine zt ?_
       refine aI λI a w U=>?_
       exact U.ag (i+1) (by show i+1<=_;omega)
    ·refine zt ?_
     refine ai λI a w U=>?_
     refine U.rt ?_
     rfl
end Go.Proofs.YtjepcfpkclegdaaGreat

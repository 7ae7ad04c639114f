/- Part 62: contracts of functions, plain facts. -/
import Derived.Test.YtdanidpleofjgaaGreatP59
set_option linter.all false
set_option maxRecDepth 100000
set_option maxHeartbeats 4000000
namespace Go.Proofs.YtdanidpleofjgaaGreat
open Go Go.RowKit Tryz
attribute [local irreducible] wpList Code.wp Ok
def ajE {w:aI} {e:Ev} (he:e.kind=8):(cT w e).1={w with time:=w.time+1,au:=(cT w e).1.au}/\w.au.length<=(cT w e).1.au.length:=by
 unfold cT;dsimp only;rw[if_neg om,if_neg om];split
 .unfold fl;dsimp only;rw[if_neg om,if_neg om,if_pos he];refine⟨rfl,?_⟩;show _<=(eB _ _).length;unfold eB;rw[List.length_append];exact Nat.le_add_right _ _
 exact⟨rfl,Nat.le_refl _⟩
def ajF {w:aI} {e:Ev} (he:e.kind=8) (h:(cI w e).2=true):(⟨w.time,(cI w e).1.aw,w.au,(cI w e).1.calls,(cI w e).1.seen⟩:aI)=w/\w.au.length<=(cI w e).1.au.length:=by
 obtain⟨e1,e2⟩:=Lf h;obtain⟨h1,h2⟩:=ajE (w:=w) he;rw[e1];refine⟨?_,h2⟩;rw[show(cT w e).1.aw=w.aw from by rw[h1],show(cT w e).1.calls=w.calls from by rw[h1],show(cT w e).1.seen=w.seen from by rw[h1]]
def UB (code:List UInt8):
 Fn prog 8 [cg code] (AV.bool true):=by
 refine Fn.go 71 func8 ntmps8 (λW I a U=>?_);have hle:=U.dE (t:=0) rfl;refine aY λI a w U=>?_;refine cz (λae=>?_) λae=>?_
 .refine bc ?_;rfl
 refine bA λI a w U=>?_;refine U.bq [] (zW code om) (ai .r aC) rfl aM rfl λ⟨x,e⟩ I a w mi U=>?_;replace mi:NW x:=mi;have gV:=mi;dsimp only at U;refine aV λI a w U=>?_;refine U.alloc rfl dx dB λb3 I a w U=>U.alloc rfl oW ib λb4 I a w U=>?_;refine U.sb 0 λU=>?_;obtain⟨I,U⟩:=U.fb 0 3;refine bO λI a w U=>?_;refine U.o (cr (zV x {e with kind:=8} gV) (ai .tt (ai .tt aC))) λU=>?_;refine aV λI a w U=>?_;refine U.alloc rfl dx dB λb5 I a w U=>?_;refine U.sb 2 λU=>?_;obtain⟨I,U⟩:=U.fb 2 5;refine aV λI a w U=>?_;refine U.o (cr (xT x {e with kind:=8} gV) (ai .tt (ai .tt aC))) λU=>?_;refine aV λI a w U=>?_;refine U.alloc rfl dx dB λb7 I a w U=>?_;refine U.sb 3 λU=>?_;obtain⟨I,U⟩:=U.fb 3 7;refine aV λI a w U=>?_;refine U.o (qm .tt .tt lj) λU=>?_;refine aV λI a w U=>?_;refine U.q .F (.cl (pq (cI x {e with kind:=8}).1 (rB _ _))) λU=>?_;refine gY λI a w U=>?_;refine U.cd (λah=>?_) λah=>?_
 .refine aH λI a w U=>?_;refine U.o (vQ .tt .tt lj) λU=>?_;refine aV λI a w U=>?_;refine U.q .T (.cl (pq (cI x {e with kind:=8}).1 (rB _ _))) λU=>?_;refine di ?_;exact bF bt
 simp at ah;refine wp_skip<|bk<|wp_seq ?_;obtain⟨Ba,oE⟩:=ajF (w:=x) (e:={e with kind:=8}) rfl ah;have jn:=(jy.1 (vB ah)).1.au;have hrx:=(jy.1 (sL (vB ah) {e with kind:=8})).1.au;refine bA λI a w U=>?_;refine U.alloc rfl dx dB λb9 I a w U=>?_;refine yt λI a w U=>?_;refine U.o (cr (Lg (x:=⟨x.time,(cI x {e with kind:=8}).1.aw,x.au,(cI x {e with kind:=8}).1.calls,(cI x {e with kind:=8}).1.seen⟩) (Fg (vB ah)) Ba) (ai .tt (ai .tt aC))) λU=>?_;refine uE λI a w U=>?_;refine U.rt ?_;exact bF fT
end Go.Proofs.YtdanidpleofjgaaGreat

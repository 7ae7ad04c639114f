/- Part 57: contracts of functions, plain facts. -/
import Derived.Test.YtdanidpleofjgaaGreatP54
set_option linter.all false
set_option maxRecDepth 100000
set_option maxHeartbeats 4000000
namespace Go.Proofs.YtdanidpleofjgaaGreat
open Go Go.RowKit
attribute [local irreducible] wpList Code.wp Ok
def ai3 {I:Im} {x:aI} {v:Value} (hx:NW x) (h:x.av.h I v):(AV.agg Ft).h I v:=by
 obtain⟨cs,rfl,h⟩:=h;refine⟨cs,rfl,?_⟩;revert h;generalize cs.toList=l;intro h;unfold aI.cells at h;obtain⟨u0,us,rfl,⟨e0,o0⟩,h⟩:=h.cL;obtain⟨u1,us,rfl,⟨e1,o1⟩,h⟩:=h.cL;obtain⟨u2,us,rfl,⟨e2,o2⟩,h⟩:=h.cL;obtain⟨u3,us,rfl,⟨e3,o3⟩,h⟩:=h.cL;obtain⟨u4,us,rfl,⟨e4,o4⟩,h⟩:=h.cL;obtain rfl:=h.none;obtain⟨⟨a,b⟩,d,e⟩:=hx;exact⟨⟨⟨_,trivial,e0⟩,o0⟩,⟨⟨_,trivial,e1⟩,o1⟩,⟨⟨_,a,e2⟩,o2⟩,⟨⟨_,⟨b,d,e⟩,e3⟩,o3⟩,⟨⟨_,trivial,e4⟩,o4⟩,trivial⟩
end Go.Proofs.YtdanidpleofjgaaGreat
set_option linter.all false
set_option maxRecDepth 100000
set_option maxHeartbeats 4000000
namespace Go.Proofs.YtdanidpleofjgaaGreat
open Go Go.RowKit Tryz
attribute [local irreducible] wpList Code.wp Ok
def ai1 (x:aI) (e:Ev) (hg:cy x) (ht:x.time<=99999):
 Fn prog 51 [x.av,e.av] (AV.db [(iZ x e).1.av,AV.bool (iZ x e).2]):=by
 refine Fn.go 22 func51 ntmps51 (λW I a U=>?_);have zN:=hg.time;refine aH λI a w U=>?_;refine U.alloc rfl dx dB λb4 I a w U=>?_;refine aY λI a w U=>?_;refine cz (λae=>?_) λae=>?_
 .refine aN λI a w U=>?_;refine U.ret rfl (.cons (.sx 0) (.cons (.t rfl) ba.nil)) ?_;exact(by unfold iZ;rw[if_neg om];rfl)
 refine bA λI a w U=>?_;refine U.bq [] (TI x hg.small) (ai .tt aC) rfl aM rfl λ⟨s,r,q,z⟩ I a w sH U=>?_;unfold aI.Dw at U;dsimp only at U;have U:=U.nf;refine U.alloc rfl dx dB λb6 I a w U=>?_;refine bO λI a w U=>?_;refine U.s1 5 λU=>?_;refine bA λI a w U=>?_;refine U.bq [5,1,2,3,4] (agr b6 {x with time:=x.time+1} e s r q z hg.later (by show x.time+1<=_;omega)) (ai .tt (ai .tt aC)) rfl aM rfl λu I a w pr U=>?_;refine ax λI a w U=>?_;refine cz (λah=>?_) λah=>?_
 .rw[ah] at U;have U:=U.nf;refine aN λI a w U=>?_;refine U.ret rfl (.cons (.sx 0) (.cons (.t rfl) ba.nil)) ?_;exact(by unfold iZ;rw[TB,if_neg (by rw[ah];simp)];rfl)
 rw[ah] at U;unfold aI.full at U;have U:=U.nf;obtain⟨I,U⟩:=U.fu 1 1 5;obtain⟨I,U⟩:=U.fu 2 2 5;obtain⟨I,U⟩:=U.fu 3 3 5;obtain⟨I,U⟩:=U.fu 4 4 5;have U:=U.nf;refine aN λI a w U=>?_;refine U.ret rfl (.cons (.sx 0) (.cons (.t rfl) ba.nil)) ?_;exact(by unfold iZ;rw[TB,if_pos ⟨by omega,ah⟩];rfl)
def ai2 (x:aI) (e:Ev) (hf:x.Fit) (hl:x.calls.length<=1048576):
 Fn prog 19 [x.av,e.av] (AV.db [(cI x e).1.av,AV.bool (cI x e).2]):=by
 refine Fn.go 21 func19 ntmps19 (λW I a U=>?_);refine aH λI a w U=>?_;refine U.alloc rfl dx dB λb4 I a w U=>?_;refine aH λI a w U=>?_;refine U.o (.c1 (Ci x hf hl)) λU=>?_;refine ax λI a w U=>?_;refine U.cd (λae=>?_) λae=>?_
 .replace ae:=nt ae;refine zt ?_;refine U.o (.bd dB aW.nil) λU=>?_;refine aB λI a w U=>?_;refine U.ret rfl (.cons (.sx 0) (.cons (.t rfl) ba.nil)) ?_;exact(by unfold cI;rw[ae];rfl)
 replace ae:=nf ae;have hg:=jy.1 ae;refine aH λI a w U=>?_;refine U.o (.c2 (ai1 x e hg.1 hg.2)) λU=>?_;refine aV λI a w U=>?_;refine U.alloc rfl dx dB λb6 I a w U=>?_;refine U.sb 1 λU=>?_;obtain⟨I,U⟩:=U.fb 1 6;refine aH λI a w U=>?_;refine U.o (.c1 (af1 (iZ x e).1 (jy.1 (Ku ae e)).1.small)) λU=>?_;refine aN λI a w U=>?_;refine U.ret rfl (.cons (.sx 0) (.cons (.t rfl) ba.nil)) ?_;exact(by unfold cI;rw[ae];rfl)
def xT (x:aI) (e:Ev) (h:NW x):Fn prog 19 [x.av,e.av] (AV.db [(cI x e).1.av,AV.bool (cI x e).2]):=ai2 x e h.1 h.2.1
end Go.Proofs.YtdanidpleofjgaaGreat

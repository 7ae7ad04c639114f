/- Part 40: contracts of functions, plain facts. -/
import Derived.Test.YtldbakcpcfdlaaaGreatP34
set_option linter.all false
set_option maxRecDepth 100000
set_option maxHeartbeats 4000000
namespace Go.Proofs.YtldbakcpcfdlaaaGreat
open Go Go.RowKit
attribute [local irreducible] wpList Code.wp Ok
def pW.next {f:aM->Nat->aM} {n:Int} {x y:aM} {k:Nat} (h:pW f n x y k) (hg:cF (f y k)) (ht:(f y k).time<=y.time+n):pW f n x (f y k) (k+1):=
 ⟨hg,by have h1:=h.time;have h2:n*((k+1:Nat):Int)=n*k+n:=by rw[Int.natCast_add,Int.mul_add];simp
        omega,by rw[List.range_succ,List.foldl_append,<-h.eq];rfl⟩
def sB {w:aM} (h:cF w) (ht:w.time<=98000):cF (gp 1000 w)/\(gp 1000 w).time<=w.time+1000:=⟨PZ 1000 h om,AI 1000 w⟩
def P6 {w:aM} (h:cF w) (ht:w.time<=80000):cF (oS w):=by
 have r:=CZ (f:=λ(w:aM) (i:Nat)=>ga w (ev 7 i 0)) (n:=1) bA (λx i hx P7=>⟨pV hx om _,mz x _⟩) (List.range 4) h (by rw[List.length_range];omega);rw[List.length_range] at r;have b:=sB r.1 om;have t:=CZ (f:=lT) (n:=1001) bA (λx i hx P7=>⟨by
  have h1:=mz x (ev 8 i 0);exact(sB (pV hx om (ev 8 i 0)) om).1,P0 x i⟩) (List.range 4) b.1 (by rw[List.length_range];omega)
 rw[List.length_range] at t;exact(CZ (f:=sA) (n:=1001) bA (λx i hx P7=>⟨by
  have h1:=mz x (ev 2 0 i);exact(sB (pV hx om (ev 2 0 i)) om).1,P1 x i⟩) (List.range 2) t.1 (by rw[List.length_range];omega)).1
def vB.next {m:Nat} {x y:aM} {k:Nat} (h:vB m x y k) (hk:k<m) (ht:y.time<79999):vB m x (oS y) (k+1):=by
 have h1:=P2 y;refine⟨P6 h.cX om,by omega,?_⟩;rw[<-h.rest,show m-k=(m-(k+1))+1 by omega];show _=(if y.time<79999 then qZ (m-(k+1)) (oS y) else y);rw[if_pos ht]
def vB.stop {m:Nat} {x y:aM} {k:Nat} (h:vB m x y k) (hk:¬k<m\/¬y.time<79999):y=qZ m x:=by
 rw[<-h.rest];rcases hk with hk|hk
 .rw[show m-k=0 by omega];rfl
 cases m-k with
 |zero=>rfl
 |succ n=>unfold qZ;rw[if_neg hk]
def P8:∀(n:Nat) {w:aM},fN w=true->fN (qZ n w)=true
 |0,_,h=>h
 |n+1,w,h=>by
  unfold qZ;split
  .have ht:=P2 w;exact P8 n (lS.2 ⟨P6 (lS.1 h).1 om,by omega⟩)
  exact h
def ac0 (x:aM) (r:Int):fN (iL x r)=true\/iL x r=te:=by
 cases h:fN x with
 |true=>left;rw[P3 r h];exact P8 _ h
 |false=>right;exact P4 r h
end Go.Proofs.YtldbakcpcfdlaaaGreat
set_option linter.all false
set_option maxRecDepth 100000
set_option maxHeartbeats 4000000
namespace Go.Proofs.YtldbakcpcfdlaaaGreat
open Go Go.RowKit Tryz
attribute [local irreducible] wpList Code.wp Ok
def acZ (x:aM) (e:Ev) (hg:cF x) (ht:x.time<=1000000):
 Fn prog 212 [x.av,e.av] (AV.c8 [(iY x e).1.av,AV.bool (iY x e).2]):=by
 refine Fn.go 87 func212 ntmps212 (λW I a U=>?_);have j4:=hg.aC;have tI:=hg.aF;have mA:=Ox hg e;refine sr<|U.box rfl .tt λb2 I a w U=>U.o .bp λU=>U.alloc rfl dz dT λb4 I a w U=>?_;refine fm λI a w U=>?_;refine U.o (.cl (iu ..)) λU=>?_;refine al λI a w U=>?_;refine U.cd (λab=>?_) λab=>?_
 .rw[Bool.not_eq_true'] at ab;refine aI λI a w U=>?_;refine U.ret rfl (.cons (.sx 1) (.cons (.t rfl) aZ.nil)) ?_;exact(by rw[Dq ab];rfl)
 rw[Bool.not_eq_false'] at ab;have q8:=ab;simp only[aS,Bool.and_eq_true,decide_eq_true_eq] at q8;have hm:=hg.words _ (bK (l:=x.aC) (k:=e.word.toNat) om);refine df λI a w U=>?_;refine U.alloc rfl cH dN λb6 I a w U=>?_;refine U.sb 2 λU=>?_;obtain⟨I,U⟩:=U.fb 2 6;refine nn ?_;refine St.cut (σ:=List az) (run 23 24 []) ⟨λrd=>[],λrd=>[Own.box b2 28 [AV.int x.time,n3 x.aF,dW rd,jb x.calls,lG x.seen],Own.box b4 28 [AV.val (.int .i64 0),AV.rows 7 [],AV.rows 15 [],AV.rows 13 [],AV.rows 1 []],Own.gone],λrd=>rd=gP x e⟩ U ?sw ?Dy;case sw=>
  refine et λI a w U=>?_;refine U.cd (λah=>?_) λah=>?_
  .have U:=U.dH;refine U.fV (rp 2 (([0],none)::rp 3 (([3],some (3,[38]))::([],none)::([0],none)::rp 4 [([3],some (3,[])),([],none),([0],some (0,[]))]))) aq aq rfl ?_;refine .o (sT dC cH) ?_;refine br ?_;refine .r [0] (.lb 0) ?_;refine cy ?_;refine .o (AY dC cH .r .tt (λ_=>by simp only[List.length_map];omega)) ?_;refine aP.yK 3 rfl rfl dC cH rfl .tt .r ff ?_;refine br ?_;refine .r [0] (.lb 0) ?_;refine ee ?_;refine .o (D6 dC cH .r .tt (λ_=>by simp only[List.length_map];omega)) ?_;refine aP.Bh 3 rfl rfl dC cH rfl .r ff ?_;refine br ?_;refine aP.gZ (x:=AV.any) 0 (λF W0 I0 I γ a w Q U kk=>U.s1 0 λU=>kk _ _ _ U) ?_;refine .nil ?_;intro I a w U;rw[<-List.map_take,<-List.map_drop,<-List.map_append,show(e.word+1).toNat=e.word.toNat+1 by omega] at U;refine ba ?_;have U:=U.drop 3;exact U.me (x.aC.take e.word.toNat++x.aC.drop (e.word.toNat+1)) (by first|exact(if_pos (by simpa using ah)).symm|exact(if_neg (by simpa using ah)).symm)
  refine zt ?_;have U:=U.drop 3;exact U.me x.aC (by first|exact(if_pos (by simpa using ah)).symm|exact(if_neg (by simpa using ah)).symm)
 rintro rd I a w aj U;obtain rfl:rd=gP x e:=aj;refine aI λI a w U=>?_;refine cz (λai=>?_) λai=>?_
 .refine aI λI a w U=>?_;refine U.ret rfl (.cons (.sx 1) (.cons (.t rfl) aZ.nil)) ?_;exact(by rw[tN ab,if_pos ai];rfl)
 refine aA λI a w U=>?_;refine U.o (.c1 (zH ..)) λU=>?_;refine zt ?_;refine U.cd (λaG=>?_) λaG=>?_
 .refine aA λI a w U=>?_;refine U.o (.c2 (acU {x with aC:=gP x e} (ae x.aC e.word.toNat) mA ht aG)) λU=>?_;refine ax λI a w U=>?_;refine U.ret rfl (.cons (.sx 1) (.cons (.t rfl) aZ.nil)) ?_;exact(by rw[tN ab,if_neg ai,if_pos aG];rfl)
 have sv:=WR hm aG;have j1:=(hg.site (ae x.aC e.word.toNat).to.toNat om).2;refine zt ?_;have U:=U.dH;refine U.fV [([],none),([0],none),([],none),([],none),([],none),([],none),([],none),([],none),([],none),([],none),([],none),([3],some (3,[7])),([3],some (3,[7])),([],none)] aq aq rfl ?_;refine br ?_;refine .r [0] (.lb 0) ?_;refine fQ ?_;refine .o (.c2 (acH (ae x.aF (ae x.aC e.word.toNat).to.toNat) (ae x.aC e.word.toNat) j1)) ?_;refine ee ?_;refine aP.alloc 3 rfl rfl bL di<|aP.ri 3 rfl bL rfl .tt rfl rfl ?_;refine br ?_;refine .nil ?_;intro I a w U;obtain⟨b7,U⟩:=U.nv (d:=7) 3 rfl rfl;obtain⟨I,U⟩:=U.fb 3 7;refine zt ?_;refine U.l0 λb68 I a w U=>?_;refine aA λI a w U=>?_;refine U.ap 4 λv71 a w U=>?_;simp only[List.nil_append] at U;refine U.o .fv λU=>?_;try have ain:=U.cU 4 rfl
 refine al λI a w U=>?_;obtain⟨AE,AF,iw⟩:=U.iS 4 rfl cq;subst iw;refine bV λI a w U=>?_;refine U.o (gv jw bL .tt .tt (λ_=>by simp only[List.length_map];omega)) λU=>?_;refine U.ja 4 bL .tt .tt rfl (by exact fq om) rfl rfl λa w U=>?_;refine nn<|wp_seq ?_;have e9:∀y,y=Server.cells (gG (ae x.aF (ae x.aC e.word.toNat).to.toNat) (ae x.aC e.word.toNat)).1->(List.map Server.cells x.aF).set (ae x.aC e.word.toNat).to.toNat y=List.map Server.cells (x.aF.set (ae x.aC e.word.toNat).to.toNat (gG (ae x.aF (ae x.aC e.word.toNat).to.toNat) (ae x.aC e.word.toNat)).1):=λy hy=>by rw[hy,List.map_set]
 rw[e9] at U;rotate_left
 .rfl
 obtain⟨I,U⟩:=U.fu 4 1 0;refine St.region ?_;refine U.l0 λb79 I a w U=>?_;refine aA λI a w U=>?_;refine U.append 5 rfl dC cH rfl .tt .r rfl (by have h9:(gP x e).length<=60:=mA.aC;simp;omega) λIy a w U=>?_;simp only[List.nil_append] at U;refine U.m λU=>?_;refine U.eX [5] (Cp Iy (gP x e) (gG (ae x.aF (ae x.aC e.word.toNat).to.toNat) (ae x.aC e.word.toNat)).2 mA.aC) (an .r (an .r aH)) rfl bA rfl λI a w U=>?_;refine bP λI a w U=>?_;refine U.ret rfl (.cons (.sx 1) (.cons (.t rfl) aZ.nil)) ?_;exact(by rw[tN ab,if_neg ai,if_neg (by rw[aG];simp)];rfl)
end Go.Proofs.YtldbakcpcfdlaaaGreat

/- Part 14: contracts of functions, plain facts. -/
import Derived.Test.YtldbakcpcfdlaaaGreatP12
set_option linter.all false
set_option maxRecDepth 100000
set_option maxHeartbeats 4000000
namespace Go.Proofs.YtldbakcpcfdlaaaGreat
open Go Go.RowKit Tryz
attribute [local irreducible] wpList Code.wp Ok
def KK:ka:=⟨125,54,97,3,56,95,108,45,40⟩
def rT (v:Value) (k:Nat) (l:List ao) (hb:(cn k l).2<=1152921504606846976):
 er prog 116 [AV.val v,AV.int (k:Nat)] [Own.aK KK v l] [Own.aK KK v (cn k l).1] (AV.int ((cn k l).2:Nat)):=by
 refine er.intro 36 func116 rfl ntmps116 rfl aq (λW I a U=>?_);have hl:k+l.length<=(cn k l).2:=lu (f:=iJ) (c:=λ_=>3) (λ_ _=>rfl) (λ_=>by decide);refine ax λI a w U=>?_;refine St.lo (σ:=Nat) (1::(run 30 5 [])) ⟨λi=>[(5,AV.int i),(1,AV.int ((aN iJ k (l.take i)).2:Nat))],λi=>[Own.row v KK.bD 3 ((fj iJ k l i).map ao.cells)],λi=>i<=l.length⟩ (λi=>l.length-i) 0 U ?aD ?bh;case aD=>exact Nat.zero_le _
 rintro i I a w aj U;have kU:i<=l.length:=aj;dsimp only at U;refine aA λI a w U=>?_;refine U.o (jL 0 dw .tt rfl) λU=>?_;refine al λI a w U=>?_;refine U.cd (λab=>?_) λab=>?_
 .simp only[B,List.length_map,iT] at ab;refine wp_skip<|ba<|wp_seq<|wp_block<|wp_seq ?_;obtain⟨t,hx⟩:=get_some ab;obtain⟨m,hm,mX,U⟩:=U.BF hx;generalize cV:(aN iJ k (l.take i)).2=kk at U;obtain⟨fy,fk⟩:=kb (f:=iJ) (c:=λ_=>3) (λ_ _=>rfl) hx cV;change _<=(cn k l).2 at fk;refine aV λI a w U=>?_;refine U.o (cw 0 dw cM .tt .tt rfl (λ_=>by first|omega|(simp only[List.length_set,List.length_map];omega))) λU=>?_;refine U.o .fv λU=>?_;refine U.dE (j:=0) 0 cT .tt .tt (by first|exact cL rfl|exact cN|exact cO|exact cP) rfl cq rfl rfl λa w U=>?_;refine aX λI a w U=>?_;refine U.o (cr .tt .c (λ_=>by first|omega|(simp only[List.length_set,List.length_map];omega))) λU=>?_;rw[show((kk:Nat):Int)+1=((kk+1:Nat):Int) from rfl] at U;refine aR λI a w U=>?_;refine U.o (cw 0 dw cM .tt .tt rfl (λ_=>by first|omega|(simp only[List.length_set,List.length_map];omega))) λU=>?_;refine aA λI a w U=>?_;refine U.dE (j:=1) 0 cT .tt .tt (by first|exact cL rfl|exact cN|exact cO|exact cP) rfl cq rfl rfl λa w U=>?_;refine aX λI a w U=>?_;refine U.o (cr .tt .c (λ_=>by first|omega|(simp only[List.length_set,List.length_map];omega))) λU=>?_;rw[show((kk+1:Nat):Int)+1=((kk+2:Nat):Int) from rfl] at U;refine aR λI a w U=>?_;refine U.o (cw 0 dw cM .tt .tt rfl (λ_=>by first|omega|(simp only[List.length_set,List.length_map];omega))) λU=>?_;refine aA λI a w U=>?_;refine U.dE (j:=2) 0 cT .tt .tt (by first|exact cL rfl|exact cN|exact cO|exact cP) rfl cq rfl rfl λa w U=>?_;refine aX λI a w U=>?_;refine U.o (cr .tt .c (λ_=>by first|omega|(simp only[List.length_set,List.length_map];omega))) λU=>?_;rw[show((kk+2:Nat):Int)+1=((kk+3:Nat):Int) from rfl] at U;refine aA λI a w U=>?_;refine U.o (cr .tt .c (λ_=>by first|omega|(simp only[List.length_set,List.length_map];omega))) λU=>?_;refine al λI a w U=>?_;have U:=U.BG hx hm cV rfl;refine U.again (i+1) ?bM ?bN bF ?bO (by repeat(first|exact Env.le_rfl|refine Env.dj rfl ?_));case bM=>omega
  case bN=>show i+1<=_;omega
  case bO=>exact(Env.bt rfl bF (Env.bt rfl (by exact congrArg AV.int (by rw[fy];(try rfl))) Env.le_nil))
 simp only[B,List.length_map,iT] at ab;refine zt ?_;refine ax λI a w U=>?_;have U:=U.BH om;refine U.jO rfl (.cons (.t rfl) .nil) rfl ?_;rw[List.take_of_length_le om];rfl
def VK (v:Value) (k:Nat) (l:List ct) (hb:(mL k l).2<=1152921504606846976):
 er prog 208 [AV.val v,AV.int (k:Nat)] [Own.aQ KK v l] [Own.aQ KK v (mL k l).1] (AV.int ((mL k l).2:Nat)):=by
 refine er.intro 27 func208 rfl ntmps208 rfl aq (λW I a U=>?_);have hl:k+l.length<=(mL k l).2:=lu (f:=jy) (c:=λ_=>2) (λ_ _=>rfl) (λ_=>by decide);refine ax λI a w U=>?_;refine St.lo (σ:=Nat) (1::(run 21 5 [])) ⟨λi=>[(5,AV.int i),(1,AV.int ((aN jy k (l.take i)).2:Nat))],λi=>[Own.row v KK.slot 2 ((fj jy k l i).map ct.cells)],λi=>i<=l.length⟩ (λi=>l.length-i) 0 U ?aD ?bh;case aD=>exact Nat.zero_le _
 rintro i I a w aj U;have kU:i<=l.length:=aj;dsimp only at U;refine aA λI a w U=>?_;refine U.o (jL 0 eM .tt rfl) λU=>?_;refine al λI a w U=>?_;refine U.cd (λab=>?_) λab=>?_
 .simp only[B,List.length_map,iT] at ab;refine wp_skip<|ba<|wp_seq<|wp_block<|wp_seq ?_;obtain⟨t,hx⟩:=get_some ab;obtain⟨m,hm,mX,U⟩:=U.BF hx;generalize cV:(aN jy k (l.take i)).2=kk at U;obtain⟨fy,fk⟩:=kb (f:=jy) (c:=λ_=>2) (λ_ _=>rfl) hx cV;change _<=(mL k l).2 at fk;refine aV λI a w U=>?_;refine U.o (cw 0 eM dP .tt .tt rfl (λ_=>by first|omega|(simp only[List.length_set,List.length_map];omega))) λU=>?_;refine U.o .fv λU=>?_;refine U.dE (j:=0) 0 cT .tt .tt (by first|exact cL rfl|exact cN|exact cO|exact cP) rfl cq rfl rfl λa w U=>?_;refine aX λI a w U=>?_;refine U.o (cr .tt .c (λ_=>by first|omega|(simp only[List.length_set,List.length_map];omega))) λU=>?_;rw[show((kk:Nat):Int)+1=((kk+1:Nat):Int) from rfl] at U;refine aR λI a w U=>?_;refine U.o (cw 0 eM dP .tt .tt rfl (λ_=>by first|omega|(simp only[List.length_set,List.length_map];omega))) λU=>?_;refine U.o .fv λU=>?_;refine U.dE (j:=1) 0 cT .tt .tt (by first|exact cL rfl|exact cN|exact cO|exact cP) rfl cq rfl rfl λa w U=>?_;refine aX λI a w U=>?_;refine U.o (cr .tt .c (λ_=>by first|omega|(simp only[List.length_set,List.length_map];omega))) λU=>?_;rw[show((kk+1:Nat):Int)+1=((kk+2:Nat):Int) from rfl] at U;refine aA λI a w U=>?_;refine U.o (cr .tt .c (λ_=>by first|omega|(simp only[List.length_set,List.length_map];omega))) λU=>?_;refine al λI a w U=>?_;have U:=U.BG hx hm cV rfl;refine U.again (i+1) ?bM ?bN bF ?bO (by repeat(first|exact Env.le_rfl|refine Env.dj rfl ?_));case bM=>omega
  case bN=>show i+1<=_;omega
  case bO=>exact(Env.bt rfl bF (Env.bt rfl (by exact congrArg AV.int (by rw[fy];(try rfl))) Env.le_nil))
 simp only[B,List.length_map,iT] at ab;refine zt ?_;refine ax λI a w U=>?_;have U:=U.BH om;refine U.jO rfl (.cons (.t rfl) .nil) rfl ?_;rw[List.take_of_length_le om];rfl
def VL (v:Value) (k:Nat) (l:List Int) (hb:(mM k l).2<=1152921504606846976):
 er prog 209 [AV.val v,AV.int (k:Nat)] [Own.ints KK v l] [Own.ints KK v (mM k l).1] (AV.int ((mM k l).2:Nat)):=by
 refine er.intro 19 func209 rfl ntmps209 rfl aq (λW I a U=>?_);have hl:k+l.length<=(mM k l).2:=lu (f:=kJ) (c:=λ_=>1) (λ_ _=>rfl) (λ_=>by decide);refine ax λI a w U=>?_;refine St.lo (σ:=Nat) (1::(run 13 5 [])) ⟨λi=>[(5,AV.int i),(1,AV.int ((aN kJ k (l.take i)).2:Nat))],λi=>[Own.row v KK.int 1 ((fj kJ k l i).map lF)],λi=>i<=l.length⟩ (λi=>l.length-i) 0 U ?aD ?bh;case aD=>exact Nat.zero_le _
 rintro i I a w aj U;have kU:i<=l.length:=aj;dsimp only at U;refine aA λI a w U=>?_;refine U.o (jL 0 kG .tt rfl) λU=>?_;refine al λI a w U=>?_;refine U.cd (λab=>?_) λab=>?_
 .simp only[B,List.length_map,iT] at ab;refine wp_skip<|ba<|wp_seq<|wp_block<|wp_seq ?_;obtain⟨t,hx⟩:=get_some ab;obtain⟨m,hm,mX,U⟩:=U.BF hx;generalize cV:(aN kJ k (l.take i)).2=kk at U;obtain⟨fy,fk⟩:=kb (f:=kJ) (c:=λ_=>1) (λ_ _=>rfl) hx cV;change _<=(mM k l).2 at fk;refine aV λI a w U=>?_;refine U.o (cw 0 kG cT .tt .tt rfl (λ_=>by first|omega|(simp only[List.length_set,List.length_map];omega))) λU=>?_;refine U.dE (j:=0) 0 cT .tt .tt (by first|exact cL rfl|exact cN|exact cO|exact cP) rfl cq rfl rfl λa w U=>?_;refine aX λI a w U=>?_;refine U.o (cr .tt .c (λ_=>by first|omega|(simp only[List.length_set,List.length_map];omega))) λU=>?_;rw[show((kk:Nat):Int)+1=((kk+1:Nat):Int) from rfl] at U;refine aA λI a w U=>?_;refine U.o (cr .tt .c (λ_=>by first|omega|(simp only[List.length_set,List.length_map];omega))) λU=>?_;refine al λI a w U=>?_;have U:=U.BG hx hm cV rfl;refine U.again (i+1) ?bM ?bN bF ?bO (by repeat(first|exact Env.le_rfl|refine Env.dj rfl ?_));case bM=>omega
  case bN=>show i+1<=_;omega
  case bO=>exact(Env.bt rfl bF (Env.bt rfl (by exact congrArg AV.int (by rw[fy];(try rfl))) Env.le_nil))
 simp only[B,List.length_map,iT] at ab;refine zt ?_;refine ax λI a w U=>?_;have U:=U.BH om;refine U.jO rfl (.cons (.t rfl) .nil) rfl ?_;rw[List.take_of_length_le om];rfl
def Cc (v:Value) (k:Nat) (l:List VT) (hb:(lK k l).2<=1152921504606846976):
 er prog 43 [AV.val v,AV.int (k:Nat)] [Own.ar KK v l] [Own.ar KK v (lK k l).1] (AV.int ((lK k l).2:Nat)):=by
 refine er.intro 64 func43 rfl ntmps43 rfl aq (λW I a U=>?_);have hl:k+l.length<=(lK k l).2:=lu (f:=rF) (c:=λt=>jh t.x) (KY) (λt=>by simp only[jh];omega);have U:=U.parts;refine ax λI a w U=>?_;refine St.lo (σ:=Nat) (1::(run 58 5 [])) ⟨λi=>[(5,AV.int i),(1,AV.int ((aN rF k (l.take i)).2:Nat))],λi=>[Own.row v KK.bl 7 ((fj rF k l i).map VT.cells),Own.many ((fj rF k l i).map λx=>Own.many (VT.owns KK x))],λi=>i<=l.length⟩ (λi=>l.length-i) 0 U ?aD ?bh;case aD=>exact Nat.zero_le _
 rintro i I a w aj U;have kU:i<=l.length:=aj;dsimp only at U;refine aA λI a w U=>?_;refine U.o (jL 0 du .tt rfl) λU=>?_;refine al λI a w U=>?_;refine U.cd (λab=>?_) λab=>?_
 .simp only[B,List.length_map,iT] at ab;refine wp_skip<|ba<|wp_seq<|wp_block<|wp_seq ?_;obtain⟨t,hx⟩:=get_some ab;obtain⟨m,hm,mX,U⟩:=U.wz hx;generalize cV:(aN rF k (l.take i)).2=kk at U;obtain⟨fy,fk⟩:=kb (f:=rF) (c:=λt=>jh t.x) (KY) hx cV;simp only[jh] at fk;change _<=(lK k l).2 at fk;dsimp only[VT.owns,List.cons_append,List.nil_append] at U;refine aV λI a w U=>?_;refine U.o (cw 0 du bI .tt .tt rfl (λ_=>by first|omega|(simp only[List.length_set,List.length_map];omega))) λU=>?_;refine U.o .fv λU=>?_;refine U.dE (j:=0) 0 cT .tt .tt (by first|exact cL rfl|exact cN|exact cO|exact cP) rfl cq rfl rfl λa w U=>?_;refine aX λI a w U=>?_;refine U.o (cr .tt .c (λ_=>by first|omega|(simp only[List.length_set,List.length_map];omega))) λU=>?_;rw[show((kk:Nat):Int)+1=((kk+1:Nat):Int) from rfl] at U;refine aR λI a w U=>?_;refine U.o (cw 0 du bI .tt .tt rfl (λ_=>by first|omega|(simp only[List.length_set,List.length_map];omega))) λU=>?_;refine aA λI a w U=>?_;refine U.dE (j:=1) 0 cT .tt .tt (by first|exact cL rfl|exact cN|exact cO|exact cP) rfl cq rfl rfl λa w U=>?_;refine aX λI a w U=>?_;refine U.o (cr .tt .c (λ_=>by first|omega|(simp only[List.length_set,List.length_map];omega))) λU=>?_;rw[show((kk+1:Nat):Int)+1=((kk+2:Nat):Int) from rfl] at U;refine aR λI a w U=>?_;refine U.o (cw 0 du bI .tt .tt rfl (λ_=>by first|omega|(simp only[List.length_set,List.length_map];omega))) λU=>?_;refine aA λI a w U=>?_;refine U.dE (j:=2) 0 cT .tt .tt (by first|exact cL rfl|exact cN|exact cO|exact cP) rfl cq rfl rfl λa w U=>?_;refine aX λI a w U=>?_;refine U.o (cr .tt .c (λ_=>by first|omega|(simp only[List.length_set,List.length_map];omega))) λU=>?_;rw[show((kk+2:Nat):Int)+1=((kk+3:Nat):Int) from rfl] at U;refine aR λI a w U=>?_;refine U.o (cw 0 du bI .tt .tt rfl (λ_=>by first|omega|(simp only[List.length_set,List.length_map];omega))) λU=>?_;refine U.o .fv λU=>?_;refine U.dE (j:=3) 0 cT .tt .tt (by first|exact cL rfl|exact cN|exact cO|exact cP) rfl cq rfl rfl λa w U=>?_;refine aX λI a w U=>?_;refine U.o (cr .tt .c (λ_=>by first|omega|(simp only[List.length_set,List.length_map];omega))) λU=>?_;rw[show((kk+3:Nat):Int)+1=((kk+4:Nat):Int) from rfl] at U;refine aR λI a w U=>?_;refine U.o (cw 0 du bI .tt .tt rfl (λ_=>by first|omega|(simp only[List.length_set,List.length_map];omega))) λU=>?_;refine U.o .fv λU=>?_;refine U.dE (j:=4) 0 cT .tt .tt (by first|exact cL rfl|exact cN|exact cO|exact cP) rfl cq rfl rfl λa w U=>?_;refine aX λI a w U=>?_;refine U.o (cr .tt .c (λ_=>by first|omega|(simp only[List.length_set,List.length_map];omega))) λU=>?_;rw[show((kk+4:Nat):Int)+1=((kk+5:Nat):Int) from rfl] at U;refine aR λI a w U=>?_;refine U.o (cw 0 du bI .tt .tt rfl (λ_=>by first|omega|(simp only[List.length_set,List.length_map];omega))) λU=>?_;refine U.o .fv λU=>?_;refine U.dE (j:=5) 0 cT .tt .tt (by first|exact cL rfl|exact cN|exact cO|exact cP) rfl cq rfl rfl λa w U=>?_;refine aX λI a w U=>?_;refine U.o (cr .tt .c (λ_=>by first|omega|(simp only[List.length_set,List.length_map];omega))) λU=>?_;rw[show((kk+5:Nat):Int)+1=((kk+6:Nat):Int) from rfl] at U;refine aV λI a w U=>?_;refine U.o (cw 0 du bI .tt .tt rfl (λ_=>by first|omega|(simp only[List.length_set,List.length_map];omega))) λU=>?_;refine U.o .fv λU=>?_;refine U.o (kH (j:=6) 0 iH .tt rfl (λ_=>lO cq) rfl rfl rfl) λU=>?_;refine U.m λU=>?_;refine U.eX [2] (rT _ (kk+6) t.x.aK (by rw[ez];omega)) (an .r (an .tt aH)) rfl bA rfl λI a w U=>?_;have U:=U.nf;generalize cY:(cn (kk+6) t.x.aK).2=k1 at U;have iw:k1=_:=cY.symm.trans (ez);refine aA λI a w U=>?_;refine U.o (cr .tt .c (λ_=>by first|omega|(simp only[List.length_set,List.length_map];omega))) λU=>?_;refine al λI a w U=>?_;subst cY;have U:=U.wA hx hm cV rfl rfl;refine U.again (i+1) ?bM ?bN bF ?bO (by repeat(first|exact Env.le_rfl|refine Env.dj rfl ?_));case bM=>omega
  case bN=>show i+1<=_;omega
  case bO=>exact(Env.bt rfl bF (Env.bt rfl (by exact congrArg AV.int (by rw[fy];(try rfl))) Env.le_nil))
 simp only[B,List.length_map,iT] at ab;refine zt ?_;refine ax λI a w U=>?_;have U:=U.wB om;refine U.jO rfl (.cons (.t rfl) .nil) rfl ?_;rw[List.take_of_length_le om];rfl
def VM (v:Value) (k:Nat) (l:List ST) (hb:(aN kK k l).2<=1152921504606846976):
 er prog 112 [AV.val v,AV.int (k:Nat)] [Own.aF KK v l] [Own.aF KK v (aN kK k l).1] (AV.int ((aN kK k l).2:Nat)):=by
 refine er.intro 64 func112 rfl ntmps112 rfl aq (λW I a U=>?_);have hl:k+l.length<=(aN kK k l).2:=lu (f:=kK) (c:=λt=>lL t.plain) (BC) (λt=>by simp only[lL,ST.plain];omega);have U:=U.parts;refine ax λI a w U=>?_;refine St.lo (σ:=Nat) (1::(run 58 5 [])) ⟨λi=>[(5,AV.int i),(1,AV.int ((aN kK k (l.take i)).2:Nat))],λi=>[Own.row v KK.server 7 ((fj kK k l i).map ST.cells),Own.many ((fj kK k l i).map λx=>Own.many (ST.owns KK x))],λi=>i<=l.length⟩ (λi=>l.length-i) 0 U ?aD ?bh;case aD=>exact Nat.zero_le _
 rintro i I a w aj U;have kU:i<=l.length:=aj;dsimp only at U;refine aA λI a w U=>?_;refine U.o (jL 0 jw .tt rfl) λU=>?_;refine al λI a w U=>?_;refine U.cd (λab=>?_) λab=>?_
 .simp only[B,List.length_map,iT] at ab;refine wp_skip<|ba<|wp_seq<|wp_block<|wp_seq ?_;obtain⟨t,hx⟩:=get_some ab;obtain⟨m,hm,mX,U⟩:=U.wz hx;generalize cV:(aN kK k (l.take i)).2=kk at U;obtain⟨fy,fk⟩:=kb (f:=kK) (c:=λt=>lL t.plain) (BC) hx cV;simp only[lL,ST.plain] at fk;change _<=(aN kK k l).2 at fk;dsimp only[ST.owns,List.cons_append,List.nil_append] at U;refine aV λI a w U=>?_;refine U.o (cw 0 jw bL .tt .tt rfl (λ_=>by first|omega|(simp only[List.length_set,List.length_map];omega))) λU=>?_;refine U.o .fv λU=>?_;refine U.dE (j:=0) 0 cT .tt .tt (by first|exact cL rfl|exact cN|exact cO|exact cP) rfl cq rfl rfl λa w U=>?_;refine aX λI a w U=>?_;refine U.o (cr .tt .c (λ_=>by first|omega|(simp only[List.length_set,List.length_map];omega))) λU=>?_;rw[show((kk:Nat):Int)+1=((kk+1:Nat):Int) from rfl] at U;refine aR λI a w U=>?_;refine U.o (lZ .tt .c (λ_=>by first|omega|(simp only[List.length_set,List.length_map];omega))) λU=>?_;refine U.o .sU λU=>?_;refine U.o (cw 0 jw bL .tt .tt rfl (λ_=>by first|omega|(simp only[List.length_set,List.length_map];omega))) λU=>?_;refine U.o .fv λU=>?_;refine U.dE (j:=1) 0 rA .tt .tt (by first|exact cL rfl|exact cN|exact cO|exact cP) rfl cq rfl rfl λa w U=>?_;refine aX λI a w U=>?_;refine U.o (cr .tt .c (λ_=>by first|omega|(simp only[List.length_set,List.length_map];omega))) λU=>?_;rw[show((kk+1:Nat):Int)+1=((kk+2:Nat):Int) from rfl] at U;refine aV λI a w U=>?_;refine U.o (cw 0 jw bL .tt .tt rfl (λ_=>by first|omega|(simp only[List.length_set,List.length_map];omega))) λU=>?_;refine U.o .fv λU=>?_;refine U.o (kH (j:=2) 0 SE .tt rfl (λ_=>lO cq) rfl rfl rfl) λU=>?_;refine U.m λU=>?_;refine U.eX [2] (VK _ (kk+2) t.x.aQ (by rw[yY];omega)) (an .r (an .tt aH)) rfl bA rfl λI a w U=>?_;have U:=U.nf;generalize cY:(mL (kk+2) t.x.aQ).2=k1 at U;have iw:k1=_:=cY.symm.trans (yY);refine aV λI a w U=>?_;refine U.o (cw 0 jw bL .tt .tt rfl (λ_=>by first|omega|(simp only[List.length_set,List.length_map];omega))) λU=>?_;refine U.o .fv λU=>?_;refine U.o (kH (j:=3) 0 Bu .tt rfl (λ_=>lO cq) rfl rfl rfl) λU=>?_;refine U.m λU=>?_;refine U.eX [3] (Cc _ (k1) t.vs (by rw[sX];omega)) (an .r (an .tt aH)) rfl bA rfl λI a w U=>?_;have U:=U.nf;generalize dM:(lK (k1) t.vs).2=k2 at U;have rU:k2=_:=dM.symm.trans (sX);refine aV λI a w U=>?_;refine U.o (cw 0 jw bL .tt .tt rfl (λ_=>by first|omega|(simp only[List.length_set,List.length_map];omega))) λU=>?_;refine U.o .fv λU=>?_;refine U.o (kH (j:=4) 0 Bu .tt rfl (λ_=>lO cq) rfl rfl rfl) λU=>?_;refine U.m λU=>?_;refine U.eX [4] (Cc _ (k2) t.ws (by rw[sX];omega)) (an .r (an .tt aH)) rfl bA rfl λI a w U=>?_;have U:=U.nf;generalize eZ:(lK (k2) t.ws).2=k3 at U;have uU:k3=_:=eZ.symm.trans (sX);refine aV λI a w U=>?_;refine U.o (cw 0 jw bL .tt .tt rfl (λ_=>by first|omega|(simp only[List.length_set,List.length_map];omega))) λU=>?_;refine U.o .fv λU=>?_;refine U.o (kH (j:=5) 0 iH .tt rfl (λ_=>lO cq) rfl rfl rfl) λU=>?_;refine U.m λU=>?_;refine U.eX [5] (rT _ (k3) t.x.aE (by rw[ez];omega)) (an .r (an .tt aH)) rfl bA rfl λI a w U=>?_;have U:=U.nf;generalize jk:(cn (k3) t.x.aE).2=k4 at U;have zM:k4=_:=jk.symm.trans (ez);refine aV λI a w U=>?_;refine U.o (cw 0 jw bL .tt .tt rfl (λ_=>by first|omega|(simp only[List.length_set,List.length_map];omega))) λU=>?_;refine U.o .fv λU=>?_;refine U.o (kH (j:=6) 0 iH .tt rfl (λ_=>lO cq) rfl rfl rfl) λU=>?_;refine U.m λU=>?_;refine U.eX [6] (rT _ (k4) t.x.bq (by rw[ez];omega)) (an .r (an .tt aH)) rfl bA rfl λI a w U=>?_;have U:=U.nf;generalize zN:(cn (k4) t.x.bq).2=k5 at U;have VN:k5=_:=zN.symm.trans (ez);refine aA λI a w U=>?_;refine U.o (cr .tt .c (λ_=>by first|omega|(simp only[List.length_set,List.length_map];omega))) λU=>?_;refine al λI a w U=>?_;subst cY;subst dM;subst eZ;subst jk;subst zN;have U:=U.wA hx hm cV rfl rfl;refine U.again (i+1) ?bM ?bN bF ?bO (by repeat(first|exact Env.le_rfl|refine Env.dj rfl ?_));case bM=>omega
  case bN=>show i+1<=_;omega
  case bO=>exact(Env.bt rfl bF (Env.bt rfl (by exact congrArg AV.int (by rw[fy];(try rfl))) Env.le_nil))
 simp only[B,List.length_map,iT] at ab;refine zt ?_;refine ax λI a w U=>?_;have U:=U.wB om;refine U.jO rfl (.cons (.t rfl) .nil) rfl ?_;rw[List.take_of_length_le om];rfl
def VO (v:Value) (k:Nat) (l:List WT) (hb:(aN kO k l).2<=1152921504606846976):
 er prog 113 [AV.val v,AV.int (k:Nat)] [Own.words KK v l] [Own.words KK v (aN kO k l).1] (AV.int ((aN kO k l).2:Nat)):=by
 refine er.intro 122 func113 rfl ntmps113 rfl aq (λW I a U=>?_);have hl:k+l.length<=(aN kO k l).2:=lu (f:=kO) (c:=λt=>lM t.plain) (BD) (λt=>by simp only[lM,WT.plain];omega);have U:=U.parts;refine ax λI a w U=>?_;refine St.lo (σ:=Nat) (1::(run 116 5 [])) ⟨λi=>[(5,AV.int i),(1,AV.int ((aN kO k (l.take i)).2:Nat))],λi=>[Own.row v KK.word 15 ((fj kO k l i).map WT.cells),Own.many ((fj kO k l i).map λx=>Own.many (WT.owns KK x))],λi=>i<=l.length⟩ (λi=>l.length-i) 0 U ?aD ?bh;case aD=>exact Nat.zero_le _
 rintro i I a w aj U;have kU:i<=l.length:=aj;dsimp only at U;refine aA λI a w U=>?_;refine U.o (jL 0 dC .tt rfl) λU=>?_;refine al λI a w U=>?_;refine U.cd (λab=>?_) λab=>?_
 .simp only[B,List.length_map,iT] at ab;refine wp_skip<|ba<|wp_seq<|wp_block<|wp_seq ?_;obtain⟨t,hx⟩:=get_some ab;obtain⟨m,hm,mX,U⟩:=U.wz hx;generalize cV:(aN kO k (l.take i)).2=kk at U;obtain⟨fy,fk⟩:=kb (f:=kO) (c:=λt=>lM t.plain) (BD) hx cV;simp only[lM,WT.plain] at fk;change _<=(aN kO k l).2 at fk;dsimp only[WT.owns,List.cons_append,List.nil_append] at U;refine aV λI a w U=>?_;refine U.o (cw 0 dC cH .tt .tt rfl (λ_=>by first|omega|(simp only[List.length_set,List.length_map];omega))) λU=>?_;refine U.o .fv λU=>?_;refine U.dE (j:=0) 0 cT .tt .tt (by first|exact cL rfl|exact cN|exact cO|exact cP) rfl cq rfl rfl λa w U=>?_;refine aX λI a w U=>?_;refine U.o (cr .tt .c (λ_=>by first|omega|(simp only[List.length_set,List.length_map];omega))) λU=>?_;rw[show((kk:Nat):Int)+1=((kk+1:Nat):Int) from rfl] at U;refine aR λI a w U=>?_;refine U.o (cw 0 dC cH .tt .tt rfl (λ_=>by first|omega|(simp only[List.length_set,List.length_map];omega))) λU=>?_;refine U.o .fv λU=>?_;refine U.dE (j:=1) 0 cT .tt .tt (by first|exact cL rfl|exact cN|exact cO|exact cP) rfl cq rfl rfl λa w U=>?_;refine aX λI a w U=>?_;refine U.o (cr .tt .c (λ_=>by first|omega|(simp only[List.length_set,List.length_map];omega))) λU=>?_;rw[show((kk+1:Nat):Int)+1=((kk+2:Nat):Int) from rfl] at U;refine aR λI a w U=>?_;refine U.o (cw 0 dC cH .tt .tt rfl (λ_=>by first|omega|(simp only[List.length_set,List.length_map];omega))) λU=>?_;refine U.o .fv λU=>?_;refine U.dE (j:=2) 0 cT .tt .tt (by first|exact cL rfl|exact cN|exact cO|exact cP) rfl cq rfl rfl λa w U=>?_;refine aX λI a w U=>?_;refine U.o (cr .tt .c (λ_=>by first|omega|(simp only[List.length_set,List.length_map];omega))) λU=>?_;rw[show((kk+2:Nat):Int)+1=((kk+3:Nat):Int) from rfl] at U;refine aR λI a w U=>?_;refine U.o (cw 0 dC cH .tt .tt rfl (λ_=>by first|omega|(simp only[List.length_set,List.length_map];omega))) λU=>?_;refine U.o .fv λU=>?_;refine U.dE (j:=3) 0 cT .tt .tt (by first|exact cL rfl|exact cN|exact cO|exact cP) rfl cq rfl rfl λa w U=>?_;refine aX λI a w U=>?_;refine U.o (cr .tt .c (λ_=>by first|omega|(simp only[List.length_set,List.length_map];omega))) λU=>?_;rw[show((kk+3:Nat):Int)+1=((kk+4:Nat):Int) from rfl] at U;refine aR λI a w U=>?_;refine U.o (cw 0 dC cH .tt .tt rfl (λ_=>by first|omega|(simp only[List.length_set,List.length_map];omega))) λU=>?_;refine U.o .fv λU=>?_;refine U.dE (j:=4) 0 cT .tt .tt (by first|exact cL rfl|exact cN|exact cO|exact cP) rfl cq rfl rfl λa w U=>?_;refine aX λI a w U=>?_;refine U.o (cr .tt .c (λ_=>by first|omega|(simp only[List.length_set,List.length_map];omega))) λU=>?_;rw[show((kk+4:Nat):Int)+1=((kk+5:Nat):Int) from rfl] at U;refine aR λI a w U=>?_;refine U.o (cw 0 dC cH .tt .tt rfl (λ_=>by first|omega|(simp only[List.length_set,List.length_map];omega))) λU=>?_;refine aA λI a w U=>?_;refine U.dE (j:=5) 0 cT .tt .tt (by first|exact cL rfl|exact cN|exact cO|exact cP) rfl cq rfl rfl λa w U=>?_;refine aX λI a w U=>?_;refine U.o (cr .tt .c (λ_=>by first|omega|(simp only[List.length_set,List.length_map];omega))) λU=>?_;rw[show((kk+5:Nat):Int)+1=((kk+6:Nat):Int) from rfl] at U;refine aR λI a w U=>?_;refine U.o (cw 0 dC cH .tt .tt rfl (λ_=>by first|omega|(simp only[List.length_set,List.length_map];omega))) λU=>?_;refine aA λI a w U=>?_;refine U.dE (j:=6) 0 cT .tt .tt (by first|exact cL rfl|exact cN|exact cO|exact cP) rfl cq rfl rfl λa w U=>?_;refine aX λI a w U=>?_;refine U.o (cr .tt .c (λ_=>by first|omega|(simp only[List.length_set,List.length_map];omega))) λU=>?_;rw[show((kk+6:Nat):Int)+1=((kk+7:Nat):Int) from rfl] at U;refine aR λI a w U=>?_;refine U.o (cw 0 dC cH .tt .tt rfl (λ_=>by first|omega|(simp only[List.length_set,List.length_map];omega))) λU=>?_;refine U.o .fv λU=>?_;refine U.dE (j:=7) 0 cT .tt .tt (by first|exact cL rfl|exact cN|exact cO|exact cP) rfl cq rfl rfl λa w U=>?_;refine aX λI a w U=>?_;refine U.o (cr .tt .c (λ_=>by first|omega|(simp only[List.length_set,List.length_map];omega))) λU=>?_;rw[show((kk+7:Nat):Int)+1=((kk+8:Nat):Int) from rfl] at U;refine aR λI a w U=>?_;refine U.o (lZ .tt .c (λ_=>by first|omega|(simp only[List.length_set,List.length_map];omega))) λU=>?_;refine U.o .sU λU=>?_;refine U.o (cw 0 dC cH .tt .tt rfl (λ_=>by first|omega|(simp only[List.length_set,List.length_map];omega))) λU=>?_;refine U.o .fv λU=>?_;refine U.dE (j:=8) 0 rA .tt .tt (by first|exact cL rfl|exact cN|exact cO|exact cP) rfl cq rfl rfl λa w U=>?_;refine aX λI a w U=>?_;refine U.o (cr .tt .c (λ_=>by first|omega|(simp only[List.length_set,List.length_map];omega))) λU=>?_;rw[show((kk+8:Nat):Int)+1=((kk+9:Nat):Int) from rfl] at U;refine aV λI a w U=>?_;refine U.o (cw 0 dC cH .tt .tt rfl (λ_=>by first|omega|(simp only[List.length_set,List.length_map];omega))) λU=>?_;refine U.o .fv λU=>?_;refine U.o (kH (j:=9) 0 iH .tt rfl (λ_=>lO cq) rfl rfl rfl) λU=>?_;refine U.m λU=>?_;refine U.eX [2] (rT _ (kk+9) t.x.aK (by rw[ez];omega)) (an .r (an .tt aH)) rfl bA rfl λI a w U=>?_;have U:=U.nf;generalize cY:(cn (kk+9) t.x.aK).2=k1 at U;have iw:k1=_:=cY.symm.trans (ez);refine aR λI a w U=>?_;refine U.o (cw 0 dC cH .tt .tt rfl (λ_=>by first|omega|(simp only[List.length_set,List.length_map];omega))) λU=>?_;refine U.o .fv λU=>?_;refine U.dE (j:=10) 0 cT .tt .tt (by first|exact cL rfl|exact cN|exact cO|exact cP) rfl cq rfl rfl λa w U=>?_;refine aX λI a w U=>?_;refine U.o (cr .tt .c (λ_=>by first|omega|(simp only[List.length_set,List.length_map];omega))) λU=>?_;rw[show((k1:Nat):Int)+1=((k1+1:Nat):Int) from rfl] at U;refine aR λI a w U=>?_;refine U.o (cw 0 dC cH .tt .tt rfl (λ_=>by first|omega|(simp only[List.length_set,List.length_map];omega))) λU=>?_;refine U.o .fv λU=>?_;refine U.dE (j:=11) 0 cT .tt .tt (by first|exact cL rfl|exact cN|exact cO|exact cP) rfl cq rfl rfl λa w U=>?_;refine aX λI a w U=>?_;refine U.o (cr .tt .c (λ_=>by first|omega|(simp only[List.length_set,List.length_map];omega))) λU=>?_;rw[show((k1+1:Nat):Int)+1=((k1+2:Nat):Int) from rfl] at U;refine aV λI a w U=>?_;refine U.o (cw 0 dC cH .tt .tt rfl (λ_=>by first|omega|(simp only[List.length_set,List.length_map];omega))) λU=>?_;refine U.o .fv λU=>?_;refine U.o (kH (j:=12) 0 Bu .tt rfl (λ_=>lO cq) rfl rfl rfl) λU=>?_;refine U.m λU=>?_;refine U.eX [3] (Cc _ (k1+2) t.vs (by rw[sX];omega)) (an .r (an .tt aH)) rfl bA rfl λI a w U=>?_;have U:=U.nf;generalize dM:(lK (k1+2) t.vs).2=k2 at U;have rU:k2=_:=dM.symm.trans (sX);refine aV λI a w U=>?_;refine U.o (cw 0 dC cH .tt .tt rfl (λ_=>by first|omega|(simp only[List.length_set,List.length_map];omega))) λU=>?_;refine U.o .fv λU=>?_;refine U.o (kH (j:=13) 0 Bu .tt rfl (λ_=>lO cq) rfl rfl rfl) λU=>?_;refine U.m λU=>?_;refine U.eX [4] (Cc _ (k2) t.ws (by rw[sX];omega)) (an .r (an .tt aH)) rfl bA rfl λI a w U=>?_;have U:=U.nf;generalize eZ:(lK (k2) t.ws).2=k3 at U;have uU:k3=_:=eZ.symm.trans (sX);refine aV λI a w U=>?_;refine U.o (cw 0 dC cH .tt .tt rfl (λ_=>by first|omega|(simp only[List.length_set,List.length_map];omega))) λU=>?_;refine U.o .fv λU=>?_;refine U.o (kH (j:=14) 0 iH .tt rfl (λ_=>lO cq) rfl rfl rfl) λU=>?_;refine U.m λU=>?_;refine U.eX [5] (rT _ (k3) t.x.aE (by rw[ez];omega)) (an .r (an .tt aH)) rfl bA rfl λI a w U=>?_;have U:=U.nf;generalize jk:(cn (k3) t.x.aE).2=k4 at U;have zM:k4=_:=jk.symm.trans (ez);refine aA λI a w U=>?_;refine U.o (cr .tt .c (λ_=>by first|omega|(simp only[List.length_set,List.length_map];omega))) λU=>?_;refine al λI a w U=>?_;subst cY;subst dM;subst eZ;subst jk;have U:=U.wA hx hm cV rfl rfl;refine U.again (i+1) ?bM ?bN bF ?bO (by repeat(first|exact Env.le_rfl|refine Env.dj rfl ?_));case bM=>omega
  case bN=>show i+1<=_;omega
  case bO=>exact(Env.bt rfl bF (Env.bt rfl (by exact congrArg AV.int (by rw[fy];(try rfl))) Env.le_nil))
 simp only[B,List.length_map,iT] at ab;refine zt ?_;refine ax λI a w U=>?_;have U:=U.wB om;refine U.jO rfl (.cons (.t rfl) .nil) rfl ?_;rw[List.take_of_length_le om];rfl
def VP (v:Value) (k:Nat) (l:List AT) (hb:(aN kQ k l).2<=1152921504606846976):
 er prog 210 [AV.val v,AV.int (k:Nat)] [Own.answers KK v l] [Own.answers KK v (aN kQ k l).1] (AV.int ((aN kQ k l).2:Nat)):=by
 refine er.intro 87 func210 rfl ntmps210 rfl aq (λW I a U=>?_);have hl:k+l.length<=(aN kQ k l).2:=lu (f:=kQ) (c:=λt=>lr t.x) (Fy) (λt=>by simp only[lr,jh];omega);have U:=U.parts;refine ax λI a w U=>?_;refine St.lo (σ:=Nat) (1::(run 81 5 [])) ⟨λi=>[(5,AV.int i),(1,AV.int ((aN kQ k (l.take i)).2:Nat))],λi=>[Own.row v KK.answer 9 ((fj kQ k l i).map AT.cells),Own.many ((fj kQ k l i).map λx=>Own.many (AT.owns KK x))],λi=>i<=l.length⟩ (λi=>l.length-i) 0 U ?aD ?bh;case aD=>exact Nat.zero_le _
 rintro i I a w aj U;have kU:i<=l.length:=aj;dsimp only at U;refine aA λI a w U=>?_;refine U.o (jL 0 eD .tt rfl) λU=>?_;refine al λI a w U=>?_;refine U.cd (λab=>?_) λab=>?_
 .simp only[B,List.length_map,iT] at ab;refine wp_skip<|ba<|wp_seq<|wp_block<|wp_seq ?_;obtain⟨t,hx⟩:=get_some ab;obtain⟨m,hm,mX,U⟩:=U.wz hx;generalize cV:(aN kQ k (l.take i)).2=kk at U;obtain⟨fy,fk⟩:=kb (f:=kQ) (c:=λt=>lr t.x) (Fy) hx cV;simp only[lr,jh] at fk;change _<=(aN kQ k l).2 at fk;dsimp only[AT.owns,List.cons_append,List.nil_append] at U;refine aV λI a w U=>?_;refine U.o (cw 0 eD dI .tt .tt rfl (λ_=>by first|omega|(simp only[List.length_set,List.length_map];omega))) λU=>?_;refine U.o .fv λU=>?_;refine U.dE (j:=0) 0 cT .tt .tt (by first|exact cL rfl|exact cN|exact cO|exact cP) rfl cq rfl rfl λa w U=>?_;refine aX λI a w U=>?_;refine U.o (cr .tt .c (λ_=>by first|omega|(simp only[List.length_set,List.length_map];omega))) λU=>?_;rw[show((kk:Nat):Int)+1=((kk+1:Nat):Int) from rfl] at U;refine aR λI a w U=>?_;refine U.o (lZ .tt .c (λ_=>by first|omega|(simp only[List.length_set,List.length_map];omega))) λU=>?_;refine U.o .sU λU=>?_;refine U.o (cw 0 eD dI .tt .tt rfl (λ_=>by first|omega|(simp only[List.length_set,List.length_map];omega))) λU=>?_;refine U.o .fv λU=>?_;refine U.dE (j:=1) 0 rA .tt .tt (by first|exact cL rfl|exact cN|exact cO|exact cP) rfl cq rfl rfl λa w U=>?_;refine aX λI a w U=>?_;refine U.o (cr .tt .c (λ_=>by first|omega|(simp only[List.length_set,List.length_map];omega))) λU=>?_;rw[show((kk+1:Nat):Int)+1=((kk+2:Nat):Int) from rfl] at U;refine aR λI a w U=>?_;refine U.o (cw 0 eD dI .tt .tt rfl (λ_=>by first|omega|(simp only[List.length_set,List.length_map];omega))) λU=>?_;refine aA λI a w U=>?_;refine U.dE (j:=2) 0 cT .tt .tt (by first|exact cL rfl|exact cN|exact cO|exact cP) rfl cq rfl rfl λa w U=>?_;refine aX λI a w U=>?_;refine U.o (cr .tt .c (λ_=>by first|omega|(simp only[List.length_set,List.length_map];omega))) λU=>?_;rw[show((kk+2:Nat):Int)+1=((kk+3:Nat):Int) from rfl] at U;refine aR λI a w U=>?_;refine U.o (cw 0 eD dI .tt .tt rfl (λ_=>by first|omega|(simp only[List.length_set,List.length_map];omega))) λU=>?_;refine aV λI a w U=>?_;refine U.dE (j:=3) 0 cT .tt .tt (by first|exact cL rfl|exact cN|exact cO|exact cP) rfl cq rfl rfl λa w U=>?_;refine aX λI a w U=>?_;refine U.o (cr .tt .c (λ_=>by first|omega|(simp only[List.length_set,List.length_map];omega))) λU=>?_;rw[show((kk+3:Nat):Int)+1=((kk+4:Nat):Int) from rfl] at U;refine aR λI a w U=>?_;refine U.o (cw 0 eD dI .tt .tt rfl (λ_=>by first|omega|(simp only[List.length_set,List.length_map];omega))) λU=>?_;refine aV λI a w U=>?_;refine U.dE (j:=4) 0 cT .tt .tt (by first|exact cL rfl|exact cN|exact cO|exact cP) rfl cq rfl rfl λa w U=>?_;refine aX λI a w U=>?_;refine U.o (cr .tt .c (λ_=>by first|omega|(simp only[List.length_set,List.length_map];omega))) λU=>?_;rw[show((kk+4:Nat):Int)+1=((kk+5:Nat):Int) from rfl] at U;refine aR λI a w U=>?_;refine U.o (cw 0 eD dI .tt .tt rfl (λ_=>by first|omega|(simp only[List.length_set,List.length_map];omega))) λU=>?_;refine aA λI a w U=>?_;refine U.dE (j:=5) 0 cT .tt .tt (by first|exact cL rfl|exact cN|exact cO|exact cP) rfl cq rfl rfl λa w U=>?_;refine aX λI a w U=>?_;refine U.o (cr .tt .c (λ_=>by first|omega|(simp only[List.length_set,List.length_map];omega))) λU=>?_;rw[show((kk+5:Nat):Int)+1=((kk+6:Nat):Int) from rfl] at U;refine aR λI a w U=>?_;refine U.o (cw 0 eD dI .tt .tt rfl (λ_=>by first|omega|(simp only[List.length_set,List.length_map];omega))) λU=>?_;refine aA λI a w U=>?_;refine U.dE (j:=6) 0 cT .tt .tt (by first|exact cL rfl|exact cN|exact cO|exact cP) rfl cq rfl rfl λa w U=>?_;refine aX λI a w U=>?_;refine U.o (cr .tt .c (λ_=>by first|omega|(simp only[List.length_set,List.length_map];omega))) λU=>?_;rw[show((kk+6:Nat):Int)+1=((kk+7:Nat):Int) from rfl] at U;refine aR λI a w U=>?_;refine U.o (cw 0 eD dI .tt .tt rfl (λ_=>by first|omega|(simp only[List.length_set,List.length_map];omega))) λU=>?_;refine aA λI a w U=>?_;refine U.dE (j:=7) 0 cT .tt .tt (by first|exact cL rfl|exact cN|exact cO|exact cP) rfl cq rfl rfl λa w U=>?_;refine aX λI a w U=>?_;refine U.o (cr .tt .c (λ_=>by first|omega|(simp only[List.length_set,List.length_map];omega))) λU=>?_;rw[show((kk+7:Nat):Int)+1=((kk+8:Nat):Int) from rfl] at U;refine aV λI a w U=>?_;refine U.o (cw 0 eD dI .tt .tt rfl (λ_=>by first|omega|(simp only[List.length_set,List.length_map];omega))) λU=>?_;refine aA λI a w U=>?_;refine U.o (kH (j:=8) 0 iH .tt rfl (λ_=>lO cq) rfl rfl rfl) λU=>?_;refine U.m λU=>?_;refine U.eX [2] (rT _ (kk+8) t.x.bl.aK (by rw[ez];omega)) (an .r (an .tt aH)) rfl bA rfl λI a w U=>?_;have U:=U.nf;generalize cY:(cn (kk+8) t.x.bl.aK).2=k1 at U;have iw:k1=_:=cY.symm.trans (ez);refine aA λI a w U=>?_;refine U.o (cr .tt .c (λ_=>by first|omega|(simp only[List.length_set,List.length_map];omega))) λU=>?_;refine al λI a w U=>?_;subst cY;have U:=U.wA hx hm cV rfl rfl;refine U.again (i+1) ?bM ?bN bF ?bO (by repeat(first|exact Env.le_rfl|refine Env.dj rfl ?_));case bM=>omega
  case bN=>show i+1<=_;omega
  case bO=>exact(Env.bt rfl bF (Env.bt rfl (by exact congrArg AV.int (by rw[fy];(try rfl))) Env.le_nil))
 simp only[B,List.length_map,iT] at ab;refine zt ?_;refine ax λI a w U=>?_;have U:=U.wB om;refine U.jO rfl (.cons (.t rfl) .nil) rfl ?_;rw[List.take_of_length_le om];rfl
def VQ (v:Value) (k:Nat) (l:List CT) (hb:(aN kR k l).2<=1152921504606846976):
 er prog 114 [AV.val v,AV.int (k:Nat)] [Own.calls KK v l] [Own.calls KK v (aN kR k l).1] (AV.int ((aN kR k l).2:Nat)):=by
 refine er.intro 108 func114 rfl ntmps114 rfl aq (λW I a U=>?_);have hl:k+l.length<=(aN kR k l).2:=lu (f:=kR) (c:=λt=>lN t.plain) (BE) (λt=>by simp only[lN,CT.plain];omega);have U:=U.parts;refine ax λI a w U=>?_;refine St.lo (σ:=Nat) (1::(run 102 5 [])) ⟨λi=>[(5,AV.int i),(1,AV.int ((aN kR k (l.take i)).2:Nat))],λi=>[Own.row v KK.call 13 ((fj kR k l i).map CT.cells),Own.many ((fj kR k l i).map λx=>Own.many (CT.owns KK x))],λi=>i<=l.length⟩ (λi=>l.length-i) 0 U ?aD ?bh;case aD=>exact Nat.zero_le _
 rintro i I a w aj U;have kU:i<=l.length:=aj;dsimp only at U;refine aA λI a w U=>?_;refine U.o (jL 0 gz .tt rfl) λU=>?_;refine al λI a w U=>?_;refine U.cd (λab=>?_) λab=>?_
 .simp only[B,List.length_map,iT] at ab;refine wp_skip<|ba<|wp_seq<|wp_block<|wp_seq ?_;obtain⟨t,hx⟩:=get_some ab;obtain⟨m,hm,mX,U⟩:=U.wz hx;generalize cV:(aN kR k (l.take i)).2=kk at U;obtain⟨fy,fk⟩:=kb (f:=kR) (c:=λt=>lN t.plain) (BE) hx cV;simp only[lN,CT.plain] at fk;change _<=(aN kR k l).2 at fk;dsimp only[CT.owns,List.cons_append,List.nil_append] at U;refine aV λI a w U=>?_;refine U.o (cw 0 gz dm .tt .tt rfl (λ_=>by first|omega|(simp only[List.length_set,List.length_map];omega))) λU=>?_;refine U.o .fv λU=>?_;refine U.dE (j:=0) 0 cT .tt .tt (by first|exact cL rfl|exact cN|exact cO|exact cP) rfl cq rfl rfl λa w U=>?_;refine aX λI a w U=>?_;refine U.o (cr .tt .c (λ_=>by first|omega|(simp only[List.length_set,List.length_map];omega))) λU=>?_;rw[show((kk:Nat):Int)+1=((kk+1:Nat):Int) from rfl] at U;refine aR λI a w U=>?_;refine U.o (cw 0 gz dm .tt .tt rfl (λ_=>by first|omega|(simp only[List.length_set,List.length_map];omega))) λU=>?_;refine U.o .fv λU=>?_;refine U.dE (j:=1) 0 cT .tt .tt (by first|exact cL rfl|exact cN|exact cO|exact cP) rfl cq rfl rfl λa w U=>?_;refine aX λI a w U=>?_;refine U.o (cr .tt .c (λ_=>by first|omega|(simp only[List.length_set,List.length_map];omega))) λU=>?_;rw[show((kk+1:Nat):Int)+1=((kk+2:Nat):Int) from rfl] at U;refine aR λI a w U=>?_;refine U.o (cw 0 gz dm .tt .tt rfl (λ_=>by first|omega|(simp only[List.length_set,List.length_map];omega))) λU=>?_;refine U.o .fv λU=>?_;refine U.dE (j:=2) 0 cT .tt .tt (by first|exact cL rfl|exact cN|exact cO|exact cP) rfl cq rfl rfl λa w U=>?_;refine aX λI a w U=>?_;refine U.o (cr .tt .c (λ_=>by first|omega|(simp only[List.length_set,List.length_map];omega))) λU=>?_;rw[show((kk+2:Nat):Int)+1=((kk+3:Nat):Int) from rfl] at U;refine aV λI a w U=>?_;refine U.o (cw 0 gz dm .tt .tt rfl (λ_=>by first|omega|(simp only[List.length_set,List.length_map];omega))) λU=>?_;refine U.o .fv λU=>?_;refine U.o (kH (j:=3) 0 Ss .tt rfl (λ_=>lO cq) rfl rfl rfl) λU=>?_;refine U.m λU=>?_;refine U.eX [2] (VL _ (kk+3) t.x.keys (by rw[yZ];omega)) (an .r (an .tt aH)) rfl bA rfl λI a w U=>?_;have U:=U.nf;generalize cY:(mM (kk+3) t.x.keys).2=k1 at U;have iw:k1=_:=cY.symm.trans (yZ);refine aR λI a w U=>?_;refine U.o (cw 0 gz dm .tt .tt rfl (λ_=>by first|omega|(simp only[List.length_set,List.length_map];omega))) λU=>?_;refine U.o .fv λU=>?_;refine U.dE (j:=4) 0 cT .tt .tt (by first|exact cL rfl|exact cN|exact cO|exact cP) rfl cq rfl rfl λa w U=>?_;refine aX λI a w U=>?_;refine U.o (cr .tt .c (λ_=>by first|omega|(simp only[List.length_set,List.length_map];omega))) λU=>?_;rw[show((k1:Nat):Int)+1=((k1+1:Nat):Int) from rfl] at U;refine aV λI a w U=>?_;refine U.o (cw 0 gz dm .tt .tt rfl (λ_=>by first|omega|(simp only[List.length_set,List.length_map];omega))) λU=>?_;refine U.o .fv λU=>?_;refine U.o (kH (j:=5) 0 iH .tt rfl (λ_=>lO cq) rfl rfl rfl) λU=>?_;refine U.m λU=>?_;refine U.eX [3] (rT _ (k1+1) t.x.ctx (by rw[ez];omega)) (an .r (an .tt aH)) rfl bA rfl λI a w U=>?_;have U:=U.nf;generalize dM:(cn (k1+1) t.x.ctx).2=k2 at U;have rU:k2=_:=dM.symm.trans (ez);refine aR λI a w U=>?_;refine U.o (cw 0 gz dm .tt .tt rfl (λ_=>by first|omega|(simp only[List.length_set,List.length_map];omega))) λU=>?_;refine U.o .fv λU=>?_;refine U.dE (j:=6) 0 cT .tt .tt (by first|exact cL rfl|exact cN|exact cO|exact cP) rfl cq rfl rfl λa w U=>?_;refine aX λI a w U=>?_;refine U.o (cr .tt .c (λ_=>by first|omega|(simp only[List.length_set,List.length_map];omega))) λU=>?_;rw[show((k2:Nat):Int)+1=((k2+1:Nat):Int) from rfl] at U;refine aR λI a w U=>?_;refine U.o (cw 0 gz dm .tt .tt rfl (λ_=>by first|omega|(simp only[List.length_set,List.length_map];omega))) λU=>?_;refine U.o .fv λU=>?_;refine U.dE (j:=7) 0 cT .tt .tt (by first|exact cL rfl|exact cN|exact cO|exact cP) rfl cq rfl rfl λa w U=>?_;refine aX λI a w U=>?_;refine U.o (cr .tt .c (λ_=>by first|omega|(simp only[List.length_set,List.length_map];omega))) λU=>?_;rw[show((k2+1:Nat):Int)+1=((k2+2:Nat):Int) from rfl] at U;refine aR λI a w U=>?_;refine U.o (lZ .tt .c (λ_=>by first|omega|(simp only[List.length_set,List.length_map];omega))) λU=>?_;refine U.o .sU λU=>?_;refine U.o (cw 0 gz dm .tt .tt rfl (λ_=>by first|omega|(simp only[List.length_set,List.length_map];omega))) λU=>?_;refine U.o .fv λU=>?_;refine U.dE (j:=8) 0 rA .tt .tt (by first|exact cL rfl|exact cN|exact cO|exact cP) rfl cq rfl rfl λa w U=>?_;refine aX λI a w U=>?_;refine U.o (cr .tt .c (λ_=>by first|omega|(simp only[List.length_set,List.length_map];omega))) λU=>?_;rw[show((k2+2:Nat):Int)+1=((k2+3:Nat):Int) from rfl] at U;refine aR λI a w U=>?_;refine U.o (cw 0 gz dm .tt .tt rfl (λ_=>by first|omega|(simp only[List.length_set,List.length_map];omega))) λU=>?_;refine aA λI a w U=>?_;refine U.dE (j:=9) 0 cT .tt .tt (by first|exact cL rfl|exact cN|exact cO|exact cP) rfl cq rfl rfl λa w U=>?_;refine aX λI a w U=>?_;refine U.o (cr .tt .c (λ_=>by first|omega|(simp only[List.length_set,List.length_map];omega))) λU=>?_;rw[show((k2+3:Nat):Int)+1=((k2+4:Nat):Int) from rfl] at U;refine aR λI a w U=>?_;refine U.o (cw 0 gz dm .tt .tt rfl (λ_=>by first|omega|(simp only[List.length_set,List.length_map];omega))) λU=>?_;refine aA λI a w U=>?_;refine U.dE (j:=10) 0 cT .tt .tt (by first|exact cL rfl|exact cN|exact cO|exact cP) rfl cq rfl rfl λa w U=>?_;refine aX λI a w U=>?_;refine U.o (cr .tt .c (λ_=>by first|omega|(simp only[List.length_set,List.length_map];omega))) λU=>?_;rw[show((k2+4:Nat):Int)+1=((k2+5:Nat):Int) from rfl] at U;refine aV λI a w U=>?_;refine U.o (cw 0 gz dm .tt .tt rfl (λ_=>by first|omega|(simp only[List.length_set,List.length_map];omega))) λU=>?_;refine U.o .fv λU=>?_;refine U.o (kH (j:=11) 0 Sy .tt rfl (λ_=>lO cq) rfl rfl rfl) λU=>?_;refine U.m λU=>?_;refine U.eX [4] (VP _ (k2+5) t.au (by rw[KZ];omega)) (an .r (an .tt aH)) rfl bA rfl λI a w U=>?_;have U:=U.nf;generalize eZ:(aN kQ (k2+5) t.au).2=k3 at U;have uU:k3=_:=eZ.symm.trans (KZ);refine aV λI a w U=>?_;refine U.o (cw 0 gz dm .tt .tt rfl (λ_=>by first|omega|(simp only[List.length_set,List.length_map];omega))) λU=>?_;refine U.o .fv λU=>?_;refine U.o (kH (j:=12) 0 iH .tt rfl (λ_=>lO cq) rfl rfl rfl) λU=>?_;refine U.m λU=>?_;refine U.eX [5] (rT _ (k3) t.x.aO (by rw[ez];omega)) (an .r (an .tt aH)) rfl bA rfl λI a w U=>?_;have U:=U.nf;generalize jk:(cn (k3) t.x.aO).2=k4 at U;have zM:k4=_:=jk.symm.trans (ez);refine aA λI a w U=>?_;refine U.o (cr .tt .c (λ_=>by first|omega|(simp only[List.length_set,List.length_map];omega))) λU=>?_;refine al λI a w U=>?_;subst cY;subst dM;subst eZ;subst jk;have U:=U.wA hx hm cV rfl rfl;refine U.again (i+1) ?bM ?bN bF ?bO (by repeat(first|exact Env.le_rfl|refine Env.dj rfl ?_));case bM=>omega
  case bN=>show i+1<=_;omega
  case bO=>exact(Env.bt rfl bF (Env.bt rfl (by exact congrArg AV.int (by rw[fy];(try rfl))) Env.le_nil))
 simp only[B,List.length_map,iT] at ab;refine zt ?_;refine ax λI a w U=>?_;have U:=U.wB om;refine U.jO rfl (.cons (.t rfl) .nil) rfl ?_;rw[List.take_of_length_le om];rfl
def VR (v:Value) (k:Nat) (l:List DT) (hb:(aN mN k l).2<=1152921504606846976) (hl:l.length<=1152921504606846976):
 er prog 115 [AV.val v,AV.int (k:Nat)] [Own.seen KK v l] [Own.seen KK v (aN mN k l).1] (AV.int ((aN mN k l).2:Nat)):=by
 refine er.intro 19 func115 rfl ntmps115 rfl aq (λW I a U=>?_);have U:=U.parts;refine ax λI a w U=>?_;refine St.lo (σ:=Nat) (1::(run 13 5 [])) ⟨λi=>[(5,AV.int i),(1,AV.int ((aN mN k (l.take i)).2:Nat))],λi=>[Own.row v KK.seen 1 ((fj mN k l i).map DT.cells),Own.many ((fj mN k l i).map λx=>Own.many (DT.owns KK x))],λi=>i<=l.length⟩ (λi=>l.length-i) 0 U ?aD ?bh;case aD=>exact Nat.zero_le _
 rintro i I a w aj U;have kU:i<=l.length:=aj;dsimp only at U;refine aA λI a w U=>?_;refine U.o (jL 0 pb .tt rfl) λU=>?_;refine al λI a w U=>?_;refine U.cd (λab=>?_) λab=>?_
 .simp only[B,List.length_map,iT] at ab;refine wp_skip<|ba<|wp_seq<|wp_block ?_;obtain⟨t,hx⟩:=get_some ab;obtain⟨m,hm,mX,U⟩:=U.wz hx;generalize cV:(aN mN k (l.take i)).2=kk at U;obtain⟨fy,fk⟩:=kb (f:=mN) (c:=λt=>3*t.x.length) (K0) hx cV;change _<=(aN mN k l).2 at fk;dsimp only[DT.owns,List.cons_append,List.nil_append] at U;refine aA λI a w U=>?_;refine U.o (cw 0 pb iH .tt .tt rfl (λ_=>by first|omega|(simp only[List.length_set,List.length_map];omega))) λU=>?_;refine U.o (kH (j:=0) 0 iH .tt rfl (λ_=>lO cq) rfl rfl rfl) λU=>?_;refine U.m λU=>?_;refine U.eX [2] (rT _ (kk) t.x (by rw[ez];omega)) (an .r (an .tt aH)) rfl bA rfl λI a w U=>?_;have U:=U.nf;generalize cY:(cn (kk) t.x).2=k1 at U;have iw:k1=_:=cY.symm.trans (ez);refine aA λI a w U=>?_;refine U.o (cr .tt .c (λ_=>by first|omega|(simp only[List.length_set,List.length_map];omega))) λU=>?_;refine al λI a w U=>?_;subst cY;have U:=U.wA hx hm cV rfl rfl;refine U.again (i+1) ?bM ?bN bF ?bO (by repeat(first|exact Env.le_rfl|refine Env.dj rfl ?_));case bM=>omega
  case bN=>show i+1<=_;omega
  case bO=>exact(Env.bt rfl bF (Env.bt rfl (by exact congrArg AV.int (by rw[fy];(try rfl))) Env.le_nil))
 simp only[B,List.length_map,iT] at ab;refine zt ?_;refine ax λI a w U=>?_;have U:=U.wB om;refine U.jO rfl (.cons (.t rfl) .nil) rfl ?_;rw[List.take_of_length_le om];rfl
def zO (k:Nat) (t:NT) (hb:k+pf t.plain<=1152921504606846976) (hl:t.seen.length<=1152921504606846976):
 er prog 42 [t.av,AV.int (k:Nat)] (t.owns KK) ((jz k t).1.owns KK) (AV.int ((jz k t).2:Nat)):=by
 refine er.intro 22 func42 rfl ntmps42 rfl aq (λW I a U=>?_);simp only[pf,NT.plain,List.map_map,Function.comp_def] at hb;dsimp only[NT.owns] at U;refine bV λI a w U=>?_;refine U.eX [0] (VM _ k t.aF (by rw[gI BC];omega)) (an .r (an .tt aH)) rfl bA rfl λI a w U=>?_;have U:=U.nf;generalize cY:(aN kK k t.aF).2=k1 at U;have iw:k1=_:=cY.symm.trans (gI BC);refine aR λI a w U=>?_;refine U.eX [1] (VO _ k1 t.aC (by rw[gI BD];omega)) (an .r (an .tt aH)) rfl bA rfl λI a w U=>?_;have U:=U.nf;generalize dM:(aN kO k1 t.aC).2=k2 at U;have rU:k2=_:=dM.symm.trans (gI BD);refine aR λI a w U=>?_;refine U.eX [2] (VQ _ k2 t.calls (by rw[gI BE];omega)) (an .r (an .tt aH)) rfl bA rfl λI a w U=>?_;have U:=U.nf;generalize eZ:(aN kR k2 t.calls).2=k3 at U;have uU:k3=_:=eZ.symm.trans (gI BE);refine aR λI a w U=>?_;refine U.eX [3] (VR _ k3 t.seen (by rw[gI K0];omega) hl) (an .r (an .tt aH)) rfl bA rfl λI a w U=>?_;have U:=U.nf;refine aI λI a w U=>?_;subst cY dM eZ;refine U.jO rfl (.cons (.t rfl) .nil) rfl rfl
def zP (n:Int):
 Fn prog 225 [AV.int n] (AV.bool (fC n)):=by
 refine Fn.go 5 func225 ntmps225 (λW I a U=>?_);refine aA λI a w U=>?_;refine U.o (.cl (im ..)) λU=>?_;refine aW ?_;rfl
def uV (s:cG):
 Fn prog 190 [s.av] (AV.bool (eH s)):=by
 refine Fn.go 6 func190 ntmps190 (λW I a U=>?_);refine aV λI a w U=>?_;refine U.o (.bd iI bf.nil) λU=>?_;refine U.o (n1 [_,_] [_,_] qh rfl rfl .tt .tt) λU=>?_;refine aW ?_;exact bT (by simp[eH])
def jV (l:List ao) (k:Nat):Int:=if k=0 then-1 else(ae l (k-1)).key
def Me (l:List ao) (k:Nat):jV l (k+1)=(ae l k).key:=by simp[jV]
def Mf {l:List ao} {k:Nat} (hk:k<l.length):dL (jV l k) (l.drop k)=(aS (ae l k).key (jV l k+1) 5&&dB (ae l k).aw&&dL (jV l (k+1)) (l.drop (k+1))):=by
 rw[lh hk,Me];rfl
def Mg {l:List ao} {k:Nat} (hp:-1<=jV l k):(!dp (ae l k).key||!dB (ae l k).aw||(decide (0<(k:Int))&&decide ((ae l k).key<=(ae l ((k:Int)-1).toNat).key)))=!(aS (ae l k).key (jV l k+1) 5&&dB (ae l k).aw):=by
 rw[show((k:Int)-1).toNat=k-1 from by omega];rcases Nat.eq_zero_or_pos k with rfl|h
 .simp[jV,dp,aS]
 have h0:k≠0:=by omega
 have FL:-1<=(ae l (k-1)).key:=by simpa[jV,h0] using hp
 have h1:(0<(k:Int)):=by omega
 simp only[jV,if_neg h0,dp,aS];generalize (ae l (k-1)).key=p at*;generalize (ae l k).key=q at*;rw[Bool.eq_iff_iff];cases dB (ae l k).aw<;>simp[h1]<;>omega
def VU {l:List ao} {k:Nat} (hk:k<l.length) (hd:ck l=dL (jV l k) (l.drop k)) (hp:-1<=jV l k) (h:(aS (ae l k).key (jV l k+1) 5&&dB (ae l k).aw)=true):
 k+1<=l.length/\ck l=dL (jV l (k+1)) (l.drop (k+1))/\-1<=jV l (k+1):=by
 refine⟨hk,by rw[hd,Mf hk,h,Bool.true_and],?_⟩;rw[Me];simp[aS] at h;omega
def VV {l:List ao} {k:Nat} (hk:k<l.length) (hd:ck l=dL (jV l k) (l.drop k)) (h:(aS (ae l k).key (jV l k+1) 5&&dB (ae l k).aw)=false):false=ck l:=by
 rw[hd,Mf hk,h,Bool.false_and]
def Cd (l:List ao) (k:Nat) (t:Int):decide (t<=(ae l k).aw.time)=!decide ((ae l k).aw.time<t):=by
 rw[Bool.eq_iff_iff];simp
def Gk (v:aJ):Bool:=dp v.key&&dB v.aw&&aS v.val 0 9999&&fC v.aB&&aS v.call 1 99&&ck v.aK
def Ce (v:aJ):(!dp v.key||!dB v.aw||!aS v.val 0 9999||!fC v.aB||!aS v.call 1 99||!ck v.aK)=!Gk v:=by simp[Gk]
def wW (v:aJ):fi v=(Gk v&&JJ v.aw.time v.aK):=rfl
def VW {n:Int} (h:db n):fC (IntKind.i64.wrap (n-10))=fC (n-10):=by
 obtain⟨h1,h2⟩:=h;by_cases h3:-9223372036854775808<=n-10
 .rw[IntWalk.i64_in _ ⟨h3,by omega⟩]
 have e:IntKind.i64.wrap (n-10)=n-10+18446744073709551616:=by
  simp only[IntKind.wrap];simp[IntKind.signed,IntKind.bits];omega
 rw[e];simp only[fC,aS];rw[Bool.eq_iff_iff];simp;omega
def Cf (s:Server):(!de s.site||((s.aQ.length:Int) !=3)||!cD s.ar||!cD s.waits||!fU s.aE||!fU s.bq||(!s.up&&decide (0<(s.bq.length:Int))))=!s0 s:=by
 have e:((s.aQ.length:Int) !=3)=!decide (s.aQ.length=3):=by rw[Bool.eq_iff_iff];simp;omega
 have e2:decide (0<(s.bq.length:Int))=decide (0<s.bq.length):=by rw[Bool.eq_iff_iff];simp
 rw[e,e2];simp[s0]
def nM (a:Answer) (s:cG):Bool:=!a.yes||dy a.bl.aw s
def rV (key:Int) (a:Answer):Bool:=a.key==key
def cQ (c:Call) (key:Int):Int:=dK (rV key) c.au
def pz (c:Call) (i:Nat):Bool:=decide (0<=cQ c (ae c.aO i).key)&&nM (ae c.au (cQ c (ae c.aO i).key).toNat) (ae c.aO i).aw
def tc (l:List Int) (k:Nat):Int:=if k=0 then-1 else ae l (k-1)
def VX (l:List Int) (k:Nat):tc l (k+1)=ae l k:=by simp[tc]
def Mh (c:Call) (k:Nat):(decide (cQ c (ae c.aO k).key<0)||!nM (ae c.au (cQ c (ae c.aO k).key).toNat) (ae c.aO k).aw)=!pz c k:=by
 unfold pz;have e:decide (cQ c (ae c.aO k).key<0)=!decide (0<=cQ c (ae c.aO k).key):=by rw[Bool.eq_iff_iff];simp
 rw[e];simp
def td (c:Call) (i:Nat):Bool:=decide (0<=cQ c (ae c.aO i).key)&&dy (ae c.au (cQ c (ae c.aO i).key).toNat).bl.aw (ae c.aO i).aw
def VY (n:Nat):((n:Int)==0)=decide (n=0):=by
 rw[Bool.eq_iff_iff];simp
def lP (d k:Call):Bool:=(d.aB==k.aB)&&!d.over&&((d.end_==0)||decide (k.bw<=d.end_))
def qB (out:List ao) (a:Answer):List ao:=if a.yes then gT out ⟨a.key,a.bl.aw⟩ else out
def Mi:∀(l:List ao) (last:Int),dL last l=true->last<=5->(l.length:Int)<=5-last
 |[],last,_,h=>by simp;omega
 |d::r,last,h,hl=>by
  simp only[dL,Bool.and_eq_true,aS,decide_eq_true_eq] at h;have:=Mi r d.key h.2 om;simp;omega
def VZ {l:List ao} (h:ck l=true):l.length<=6:=by
 have:=Mi l (-1) h om;omega
def V0 {v:aJ} (h:fi v=true):v.aK.length<=6:=by
 simp only[fi,Bool.and_eq_true] at h;exact VZ h.1.2
def ou (v:aJ) (h:v.aK.length<=1048576):
 Fn prog 198 [v.av] (v.av):=by
 refine Fn.go 9 func198 ntmps198 (λW I a U=>?_);refine sr<|U.box rfl .tt λb1 I a w U=>U.alloc rfl bI dY λb2 I a w U=>?_;refine zt ?_;refine U.l0 λb3 I a w U=>?_;refine aA λI a w U=>?_;refine U.ap 2 λv6 a w U=>?_;obtain⟨I,U⟩:=U.fr 2 6;refine aU λI a w U=>?_;refine U.ret rfl (.cons (.sx 1) aZ.nil) ?_;rfl
def Mj (e d:ao):(decide (d.key<e.key)||((e.key==d.key)&&dy d.aw e.aw))=ec d e:=by
 unfold ec;by_cases h:e.key=d.key
 .simp[h]
 have e1:(e.key==d.key)=false:=by simpa using h
 have e2:(d.key==e.key)=false:=by simpa usingλx=>h x.symm
 rw[e1,e2]
def Ml {s:Server} (h:0<=fo s):ir s=ir (mT s (fo s).toNat):=by
 have hl:=(zn h).1;unfold ir;rw[FY hl];obtain⟨n,hn⟩:∃n,s.waits.length=n+1:=⟨s.waits.length-1,by omega⟩;rw[hn];show(if fo s<0 then s else _)=_;rw[if_neg om];rfl
def mq (s:Server) (asked:List ao) (d:ao):List ao:=if nC s d||decide (0<=gB asked d) then asked else asked++[d]
def zQ (s:Server):List ao:=(s.waits.map aJ.aK).flatten.foldl (mq s) []
def pA (s:Server) (slot:Int):Server:={s with aQ:=s.aQ.set slot.toNat ⟨(ae s.aQ slot.toNat).bX+1,2⟩}
def Cg:Call:=⟨0,0,0,[],0,[],0,0,false,⟨0,0⟩,[],[]⟩
def hX (q:Call):Bool:=(q.end_==0)&&!q.over
def mY (q:Call) (time:Int):Call:=if q.aO=[] then{q with end_:=time} else q
def ov (q:Call) (a:Answer) (time:Int):Call:=
 if a.bl.bD∈q.aO then
  let x:={q with au:=q.au.set (cQ q a.key).toNat a,aO:=q.aO.filter λd=>decide (d≠a.bl.bD)}
  if x.aO=[] then{x with end_:=time} else x
 else q
def fe (aC more:List az):List az:=aC++more.take (60-aC.length)
def mZ (e:Ev):List Int:=e.a::(if e.call=2/\e.a<e.b then e.b::(if e.b<e.c then[e.c] else[]) else[])
def te:aM:=⟨0,[],[],[],[]⟩
def Mm (x:Answer) (key:Int):
 Fn prog 322 [x.av,AV.ptr [AV.int key]] (AV.bool (rV key x)):=by
 refine Fn.go 8 func322 ntmps322 (λW I a U=>?_);refine fW λI a w U=>?_;refine U.rt ?_;rfl
def Ch (q:Call) (key:Int):
 Fn prog 249 [q.av,AV.int key] (AV.int (cQ q key)):=by
 refine Fn.go 22 func249 ntmps249 (λW I a U=>?_);have lens:q.keys.length<=9223372036854775807/\q.au.length<=9223372036854775807/\q.aO.length<=9223372036854775807:=⟨U.ln 0 3,U.ln 0 11,U.ln 0 12⟩;refine aI λI a w U=>?_;refine St.lo (σ:=Nat) (run 18 4 []) ⟨λk=>[(5,AV.int k)],λk=>[],λk=>k<=q.au.length/\∀i,i<k->rV key (ae q.au i)=false⟩ (λk=>q.au.length-k) 0 U ?aD ?bh;case aD=>exact⟨Nat.zero_le _,λi hi=>by omega⟩
 rintro k I a w aj U;obtain⟨hk,aT⟩:=aj;refine bP λI a w U=>?_;refine cz (λab=>?_) λab=>?_
 .refine et λI a w U=>?_;refine U.cd (λah=>?_) λah=>?_
  .refine cK ?_;exact cj (mQ ab aT ah).symm
  refine aI λI a w U=>?_;exact U.ag (k+1) (⟨by omega,λi h1=>by rcases Nat.lt_succ_iff_lt_or_eq.1 h1 with h|h;exact aT i h;rw[h];exact ah⟩)
 refine zt ?_;refine aW ?_;exact cj (l9 om aT).symm
def Mn (x:Answer) (s:cG):
 Fn prog 191 [x.av,s.av] (AV.bool (nM x s)):=by
 refine Fn.go 15 func191 ntmps191 (λW I a U=>?_);refine yS λI a w U=>?_;refine U.q .F (.cl (FQ ..)) λU=>?_;refine cK ?_;rfl
def Mo (d e:ao):([d.key,d.aw.time,d.aw.site] !=[e.key,e.aw.time,e.aw.site])=!decide (d=e):=by
 obtain⟨k,⟨t,s⟩⟩:=d;obtain⟨k',⟨t',s'⟩⟩:=e;rw[Bool.eq_iff_iff];simp;omega
def Mp (q:Call) (k:Nat):(decide (cQ q (ae q.aO k).key<0)||!dy (ae q.au (cQ q (ae q.aO k).key).toNat).bl.aw (ae q.aO k).aw)=!td q k:=by
 unfold td;have e:decide (cQ q (ae q.aO k).key<0)=!decide (0<=cQ q (ae q.aO k).key):=by rw[Bool.eq_iff_iff];simp
 rw[e];simp
def Mq {d q:Call} (h:d.aB=q.aB):(!d.over&&((d.end_==0)||decide (q.bw<=d.end_)))=lP d q:=by
 unfold lP;rw[h];simp
def V1 {d q:Call} (h:¬d.aB=q.aB):lP d q=false:=by
 unfold lP;simp[h]
def wX {α β:Type} [Inhabited β] {f:α->β->α} {z:α} {l:List β} {k:Nat} (h:k<l.length):(l.take (k+1)).foldl f z=f ((l.take k).foldl f z) (ae l k):=by
 rw[ep h,List.foldl_append];rfl
def tf {l:List aJ} (h:cD l=true):∀v∈l,v.aK.length<=6:=λv hv=>gU (kT (g7 h v hv)).2.2
def uW (l:List aJ) (h:l.length<=1048576) (hd:∀y∈l,y.aK.length<=1048576):
 Fn prog 245 [cm l] (cm l):=by
 refine Fn.go 21 func245 ntmps245 (λW I a U=>?_);have hle:=U.dD (t:=0) rfl;refine al λI a w U=>?_;refine U.l0 λb5 I a w U=>?_;refine ax λI a w U=>?_;refine St.lo (σ:=Nat×Value) (run 2 3 (run 14 6 [])) ⟨λ⟨k,v⟩=>[(4,AV.int k),(3,AV.val v)],λ⟨k,v⟩=>[Own.row v 54 7 ((l.take k).map aJ.cells)],λ⟨k,v⟩=>k<=l.length⟩ (λ⟨k,v⟩=>l.length-k) (0,.slice (some ⟨b5,0,none⟩) 0 0) U ?aD ?bh;case aD=>exact Nat.zero_le _
 rintro⟨k,v⟩ I a w aj U;have hk:k<=l.length:=aj;dsimp only at U;refine aU λI a w U=>?_;refine cz (λab=>?_) λab=>?_
 .refine bV λI a w U=>?_;refine U.o (.c1 (ou (ae l k) (hd _ (bK ab)))) λU=>?_;refine U.o (.li [(ae l k).cells] j9 (.u .nil)) λU=>?_;refine U.ap 0 λpB a w U=>?_;rw[cA,<-ep ab] at U;refine aU λI a w U=>?_;exact U.ag (k+1,pB) (ab)
 refine zt ?_;refine ax λI a w U=>?_;obtain⟨I,U⟩:=U.fr 0 2;refine U.rt ?_;exact congrArg (AV.rows 7) (by rw[List.take_of_length_le om])
def zR (s:Server) (h:po s):
 Fn prog 165 [s.av] (s.av):=by
 refine Fn.go 27 func165 ntmps165 (λW I a U=>?_);obtain⟨h1,⟨h2,h3⟩,⟨h4,h5⟩,h6,h7⟩:=h;refine sr<|U.box rfl .tt λb1 I a w U=>U.alloc rfl bL di λb2 I a w U=>?_;refine zt ?_;refine U.l0 λb3 I a w U=>?_;refine aA λI a w U=>?_;refine U.ap 2 λv6 a w U=>?_;obtain⟨I,U⟩:=U.fr 2 6;refine aR λI a w U=>?_;refine U.o (.cl (uW s.ar h2 h3)) λU=>?_;refine aR λI a w U=>?_;refine U.o (.cl (uW s.waits h4 h5)) λU=>?_;refine ax λI a w U=>?_;refine U.l0 λzS I a w U=>?_;refine aA λI a w U=>?_;refine U.ap 3 λpB a w U=>?_;obtain⟨I,U⟩:=U.fr 3 19;refine ax λI a w U=>?_;refine U.l0 λzT I a w U=>?_;refine aA λI a w U=>?_;refine U.ap 4 λuX a w U=>?_;obtain⟨I,U⟩:=U.fr 4 24;refine aU λI a w U=>?_;refine U.ret rfl (.cons (.sx 1) aZ.nil) ?_;rfl
def Server.wY (s:Server) (v:Value):AV:=.agg [.int s.site,.bool s.up,.val v,cm s.ar,cm s.waits,bm s.aE,bm s.bq]
def V2 (s:Server) (h:po s):
 bG prog 165 [s.av] [] (λ_:Value=>True) (λv=>[Own.row v 97 2 (s.aQ.map ct.cells)]) s.wY:=by
 refine bG.intro 27 func165 rfl ntmps165 rfl aq (λW I a U=>?_);obtain⟨h1,⟨h2,h3⟩,⟨h4,h5⟩,h6,h7⟩:=h;refine sr<|U.box rfl .tt λb1 I a w U=>U.alloc rfl bL di λb2 I a w U=>?_;refine zt ?_;refine U.l0 λb3 I a w U=>?_;refine aA λI a w U=>?_;refine U.ap 2 λv6 a w U=>?_;refine U.o .fv λU=>?_;try have ho6:=U.cU 2 rfl
 refine aV λI a w U=>?_;refine U.o (.cl (uW s.ar h2 h3)) λU=>?_;refine aR λI a w U=>?_;refine U.o (.cl (uW s.waits h4 h5)) λU=>?_;refine ax λI a w U=>?_;refine U.l0 λzS I a w U=>?_;refine aA λI a w U=>?_;refine U.ap 3 λpB a w U=>?_;obtain⟨I,U⟩:=U.fr 3 19;refine U.o .fv λU=>?_;try have V3:=U.cU 3 rfl
 refine al λI a w U=>?_;refine U.l0 λzT I a w U=>?_;refine aA λI a w U=>?_;refine U.ap 4 λuX a w U=>?_;obtain⟨I,U⟩:=U.fr 4 24;refine U.o .fv λU=>?_;try have Mr:=U.cU 4 rfl
 refine aI λI a w U=>?_;exact U.cE v6 [2] rfl (.cons (.s 1 bL rfl rfl (by first|rfl|assumption)) .nil) trivial rfl rfl
def qC {α:Type} (p:α->Bool) (l:List α) (k:Nat):((l.take k).filter p).length<=l.length:=by
 have h1:=List.length_filter_le p (l.take k);have h2:(l.take k).length<=l.length:=by simp;omega
 omega
def Ms {α:Type} [Inhabited α] {p:α->Bool} {l:List α} {k:Nat} (hk:k<l.length) (h:∀i,i<k->p (ae l i)=false) (hp:p (ae l k)=true):l.find? p=some (ae l k):=by
 rw[List.find?_eq_some_iff_getElem];refine⟨hp,k,hk,by simp[ae,hk],λj hj=>?_⟩;have kq:j<l.length:=by omega
 have:=h j hj;simpa[ae,kq] using this
def zU (l:List ao) (d:ao):
 Fn prog 319 [bm l,d.av] (AV.int (gB l d)):=by
 refine Fn.go 19 func319 ntmps319 (λW I a U=>?_);have hle:=U.dD (t:=0) rfl;refine aI λI a w U=>?_;refine St.lo (σ:=Nat) (run 15 4 []) ⟨λk=>[(5,AV.int k)],λk=>[],λk=>k<=l.length/\∀i,i<k->(λe=>decide (e=d)) (ae l i)=false⟩ (λk=>l.length-k) 0 U ?aD ?bh;case aD=>exact⟨Nat.zero_le _,λi hi=>by omega⟩
 rintro k I a w aj U;obtain⟨hk,aT⟩:=aj;refine aU λI a w U=>?_;refine cz (λab=>?_) λab=>?_
 .refine zt ?_;refine U.dk ?_;refine fQ ?_;refine .o (n1 [_,_,_] [_,_,_] yU rfl rfl .tt .tt)<|.nil ?_;intro I a w U;refine ba ?_;refine U.cd (λah=>?_) λah=>?_
  .rw[zx] at ah;refine cK ?_;exact cj (mQ ab aT ah).symm
  rw[zx] at ah;refine aI λI a w U=>?_;exact U.ag (k+1) (⟨ab,λi h1=>by rcases Nat.lt_succ_iff_lt_or_eq.1 h1 with h|h;exact aT i h;rw[h];exact ah⟩)
 refine zt ?_;refine aW ?_;exact cj (l9 om aT).symm
def Mt (s:Server) (d:ao):
 Fn prog 338 [s.av,d.av] (AV.bool (g8 s d)):=by
 refine Fn.go 22 func338 ntmps338 (λW I a U=>?_);have lens:s.aQ.length<=9223372036854775807/\s.ar.length<=9223372036854775807/\s.waits.length<=9223372036854775807/\s.aE.length<=9223372036854775807/\s.bq.length<=9223372036854775807:=⟨U.ln 0 2,U.ln 0 3,U.ln 0 4,U.ln 0 5,U.ln 0 6⟩;refine aU λI a w U=>?_;refine St.lo (σ:=Nat) (run 18 4 []) ⟨λk=>[(5,AV.int k)],λk=>[],λk=>k<=s.waits.length/\∀i,i<k->(λi=>!pk d (ae s.waits i)) i=true⟩ (λk=>s.waits.length-k) 0 U ?aD ?bh;case aD=>exact⟨Nat.zero_le _,λi hi=>by omega⟩
 rintro k I a w aj U;obtain⟨qD,aT⟩:=aj;refine bP λI a w U=>?_;refine cz (λab=>?_) λab=>?_
 .refine zt ?_;refine U.dk ?_;refine ky ?_;refine .o (.cl (zU ..)) ?_;refine br ?_;refine .nil ?_;intro I a w U;refine ba ?_;refine cz (λah=>?_) λah=>?_
  .refine aW ?_;exact bT (by unfold g8;rw[fI (f:=λi=>!pk d (ae s.waits i)) ab (by unfold pk;simp;omega)];rfl)
  refine aI λI a w U=>?_;exact U.ag (k+1) (⟨by omega,gf aT (by unfold pk;simp;omega)⟩)
 refine zt ?_;refine aW ?_;exact bT (by unfold g8;rw[fD aT om];rfl)
def eI.settle {s:Server} (h:eI s):eI (g9 s):=by
 have h2:=h.F5;exact⟨h2.aQ,h2.ar,h2.waits,h2.apart,Nat.le_trans (List.length_filter_le _ _) h2.bq⟩
def Mu {l:List ao} {d:ao} (h:0<=gB l d):(gB l d).toNat<l.length:=by
 unfold gB dK at*;split at h
 .rename_i k hk;obtain⟨h1,_⟩:=List.findIdx?_eq_some_iff_getElem.1 hk;simpa using h1
 omega
def Mv {m:az} (h:bY m=true):dp m.key=true:=by
 simp only[bY,Bool.and_eq_true] at h;exact h.1.1.1.1.1.1.1.1.2
def wZ {l:List ao} {d:ao}:0<=gB l d↔d∈l:=by
 have:=F6 (p:=λe=>decide (e=d)) (l:=l);unfold hasB at this;simp only[decide_eq_true_eq] at this;unfold gB;rw[this];exact⟨λ⟨x,hx,e⟩=>e▸hx,λh=>⟨d,h,rfl⟩⟩
def bE.settle {s:Server} (h:bE s):bE (g9 s):=h.F5.iB
def bE.eJ {s:Server} (h:bE s) (slot:Int):bE (eJ s slot):=by
 have aj:=h.ok.drop slot;refine⟨h.site,h.aQ,aj.ar,aj.waits,B1 h.aE List.filter_sublist,h.bq,h.up,h.cX,λv hv=>h.here v (rN hv),λv hv=>h.oe v (rN hv),λv hv=>h.og v (rN hv),
  λv hv x hx=>h.apart v (rN hv) x (rN hx),λd hd=>?_⟩
 obtain⟨h1,h2⟩:=List.mem_filter.1 hd;obtain⟨x,hx,e⟩:=h.oh d h1;refine⟨x,List.mem_filter.2 ⟨hx,?_⟩,e⟩;subst e;exact h2
def Mw {s:Server} {slot:Int}:(∀v∈(Go.Proofs.YtldbakcpcfdlaaaGreat.eJ s slot).ar,gY v.key≠slot)/\(∀v∈(Go.Proofs.YtldbakcpcfdlaaaGreat.eJ s slot).waits,gY v.key≠slot):=by
 constructor<;>intro v hv<;>have:=(List.mem_filter.1 hv).2<;>simpa[fG] using this
def Ci {s:Server} {key:Int} (h:fR s key=true):dp key=true/\eY s key=1:=by
 unfold fR at h;rw[Bool.and_eq_true] at h;exact⟨h.1,by simpa using h.2⟩
def V4 {s:Server} {d:ao}:g8 s d=true↔∃v∈s.waits,d∈v.aK:=by
 unfold g8;rw[Bool.not_eq_true',<-Bool.not_eq_true,zD (p:=λv=>!pk d v)];have e:∀v:aJ,(!pk d v)=true↔d∉v.aK:=λv=>by
  unfold pk;rw[Bool.not_eq_true',decide_eq_false_iff_not,wZ]
 constructor
 .intro h;apply Classical.byContradiction;intro hn;exact h λx hx=>(e x).2 λhd=>hn ⟨x,hx,hd⟩
 rintro⟨v,hv,hd⟩ h;exact(e v).1 (h v hv) hd
def V5 {s:Server} {asked:List ao} {d x:ao} (h:x∈mq s asked d):x∈asked\/x=d:=by
 unfold mq at h;split at h
 .exact .inl h
 rcases List.mem_append.1 h with h|h
 .exact .inl h
 exact .inr (by simpa using h)
def Mx {s:Server}:∀{l asked:List ao} {x:ao},x∈l.foldl (mq s) asked->x∈asked\/x∈l
 |[],_,_,h=>.inl h
 |d::r,asked,x,h=>by
  rcases Mx (l:=r) h with h|h
  .rcases V5 h with h|h
   .exact .inl h
   exact .inr (by simp[h])
  exact .inr (by simp[h])
def rW (c:Call) (d:ao):Bool:=decide (0<=cQ c d.key)&&nM (ae c.au (cQ c d.key).toNat) d.aw
def Cj {q:Call} {key:Int}:0<=cQ q key↔∃a∈q.au,a.key=key:=by
 have:=F6 (p:=rV key) (l:=q.au);unfold hasB at this;rw[decide_eq_true_eq] at this;unfold cQ;rw[this];simp[rV]
def w3 {q:Call} (h:hX q=true):q.end_=0/\q.over=false:=by
 unfold hX at h;simpa using h
def tg {n:Int}:fC n=true↔0<=n/\n<=1:=by simp[fC,aS]
def V6 {n:Int} (h:fC n=true):l5 (10+n)=true:=by
 rw[tg] at h;unfold l5 aS;simp;right;omega
def My (p:ao->Bool):∀{l:List ao} {last:Int},dL last l=true->dL last (l.filter p)=true
 |[],_,_=>rfl
 |d::r,last,h=>by
  simp only[dL,Bool.and_eq_true] at h;have ih:=My p h.2;have hd:=h.1.1;simp only[aS,Bool.and_eq_true,decide_eq_true_eq] at hd;by_cases hp:p d=true
  .rw[List.filter_cons_of_pos hp];simp only[dL,Bool.and_eq_true];exact⟨h.1,ih⟩
  rw[List.filter_cons_of_neg hp];cases hr:r.filter p with
  |nil=>rfl
  |cons e r'=>
   rw[hr] at ih
   simp only[dL,Bool.and_eq_true,aS,decide_eq_true_eq] at ih⊢
   exact⟨⟨⟨by omega,ih.1.1.2⟩,ih.1.2⟩,ih.2⟩
def V7 {aC more:List az} (h:aC.length<=60):(fe aC more).length<=60:=by
 unfold fe;rw[List.length_append,List.length_take];omega
def V8 {aC more:List az} (h:∀m∈aC,bY m=true) (h':∀m∈more,bY m=true):∀m∈fe aC more,bY m=true:=λm hm=>by
 unfold fe at hm;rcases List.mem_append.1 hm with hm|hm
 .exact h m hm
 exact h' m (List.mem_of_mem_take hm)
def V9 {a b:ao} (h:ec a b=true):ec b a=false:=by
 cases h2:ec b a
 .rfl
 have:=zl h h2;rw[BV] at this;cases this
def Mz:∀{l:List ao} {d:ao} {k:Nat},k<=l.length->(∀i,i<k->ec (ae l i) d=true)->(k<l.length->ec (ae l k) d=false)->(∀x∈l,x≠d)->l.take k++d::l.drop k=jS l d
 |[],d,k,hk,_,_,_=>by obtain rfl:k=0:=by simpa using hk
                      rfl
 |e::r,d,0,_,_,hn,bH=>by
  have h1:ec e d=false:=hn be;have h2:ec d e=true:=by
   cases h3:ec d e
   .exact absurd (BU h1 h3) (bH e be)
   rfl
  simp[jS,h2]
 |e::r,d,k+1,hk,h,hn,bH=>by
  have h2:ec d e=false:=V9 (h 0 om);have ih:=Mz (l:=r) (d:=d) (k:=k) (by simpa using hk) (λi hi=>h (i+1) om) (λhl=>hn (by simpa using hl)) (λx hx=>bH x (by simp[hx]));simp[jS,h2,ih]
def MA {l:List ao} {d:ao} (h:gB l d<0):∀x∈l,x≠d:=λx hx e=>by
 have:=wZ.2 (e▸hx);omega
def Ck (l:List aJ) (slot:Int) (h:l.length<=1048576) (hd:∀v∈l,v.aK.length<=1048576):
 Fn prog 325 [cm l,AV.int slot] (AV.c8 [cm (l.filter (fG slot)),cm (l.filter (λv=>!fG slot v))]):=by
 refine Fn.go 34 func325 ntmps325 (λW I a U=>?_);have U:=U.en (sz:=7) 54;have U:=U.en (sz:=7) 54;refine fW λI a w U=>?_;refine St.lo (σ:=Nat×Value×Value) (run 2 6 (9::(run 20 12 []))) ⟨λ⟨k,u,v⟩=>[(12,AV.int k),(6,AV.val u),(7,AV.val v)],λ⟨k,u,v⟩=>[Own.row u 54 7 (((l.take k).filter (fG slot)).map aJ.cells),Own.row v 54 7 (((l.take k).filter (λv=>!fG slot v)).map aJ.cells)],λ⟨k,u,v⟩=>k<=l.length⟩ (λ⟨k,u,v⟩=>l.length-k) (0,.slice none 0 0,.slice none 0 0) U ?aD ?bh;case aD=>exact Nat.zero_le _
 rintro⟨k,u,v⟩ I a w aj U;have hk:k<=l.length:=aj;have MB:=qC (fG slot) l k;have MC:=qC (λv=>!fG slot v) l k;dsimp only at U;refine al λI a w U=>?_;refine cz (λab=>?_) λab=>?_
 .refine aA λI a w U=>?_;refine U.alloc rfl bI dY λb9 I a w U=>?_;refine al λI a w U=>?_;obtain⟨I,U⟩:=U.fb 2 9;refine aA λI a w U=>?_;refine U.o (.c1 (FR ..)) λU=>?_;refine ax λI a w U=>?_;refine U.cd (λah=>?_) λah=>?_
  .change(fG slot) (ae l k)=true at ah;refine aA λI a w U=>?_;refine U.o (.c1 (uI _ (hd _ (bK ab)))) λU=>?_;refine U.o (.li [(ae l k).cells] j9 (.u .nil)) λU=>?_;refine U.ap 0 λuH a w U=>?_;rw[cA,<-mU (p:=(fG slot)) ab ah,show(l.take k).filter (λv=>!fG slot v)=(l.take (k+1)).filter (λv=>!fG slot v) from(mV ab (by show(!_)=false;rw[ah];rfl)).symm] at U;refine aI λI a w U=>?_;have U:=U.drop 2;exact U.ag (k+1,uH,v) (ab)
  change(fG slot) (ae l k)=false at ah;refine aA λI a w U=>?_;refine U.o (.c1 (uI _ (hd _ (bK ab)))) λU=>?_;refine U.o (.li [(ae l k).cells] j9 (.u .nil)) λU=>?_;refine U.ap 1 λv30 a w U=>?_;rw[cA,<-mU (p:=(λv=>!fG slot v)) ab (by show(!_)=true;rw[ah];rfl),show(l.take k).filter (fG slot)=(l.take (k+1)).filter (fG slot) from(mV ab ah).symm] at U;refine aI λI a w U=>?_;have U:=U.drop 2;exact U.ag (k+1,u,v30) (ab)
 refine zt ?_;refine aU λI a w U=>?_;obtain⟨I,U⟩:=U.fr 0 4;obtain⟨I,U⟩:=U.fr 1 5;refine U.rt ?_;exact(by rw[List.take_of_length_le om];rfl)
def MD (l:List ao) (slot:Int) (h:l.length<=1048576):
 Fn prog 326 [bm l,AV.int slot] (AV.c8 [bm (l.filter (gC slot)),bm (l.filter (λd=>!gC slot d))]):=by
 refine Fn.go 32 func326 ntmps326 (λW I a U=>?_);have U:=U.en (sz:=3) 125;have U:=U.en (sz:=3) 125;refine fW λI a w U=>?_;refine St.lo (σ:=Nat×Value×Value) (run 2 6 (9::(run 18 12 []))) ⟨λ⟨k,u,v⟩=>[(12,AV.int k),(6,AV.val u),(7,AV.val v)],λ⟨k,u,v⟩=>[Own.row u 125 3 (((l.take k).filter (gC slot)).map ao.cells),Own.row v 125 3 (((l.take k).filter (λd=>!gC slot d)).map ao.cells)],λ⟨k,u,v⟩=>k<=l.length⟩ (λ⟨k,u,v⟩=>l.length-k) (0,.slice none 0 0,.slice none 0 0) U ?aD ?bh;case aD=>exact Nat.zero_le _
 rintro⟨k,u,v⟩ I a w aj U;have hk:k<=l.length:=aj;have MB:=qC (gC slot) l k;have MC:=qC (λd=>!gC slot d) l k;dsimp only at U;refine al λI a w U=>?_;refine cz (λab=>?_) λab=>?_
 .refine aA λI a w U=>?_;refine U.alloc rfl cM fE λb9 I a w U=>?_;refine al λI a w U=>?_;obtain⟨I,U⟩:=U.fb 2 9;refine aA λI a w U=>?_;refine U.o (.c1 (FR ..)) λU=>?_;refine ax λI a w U=>?_;refine U.cd (λah=>?_) λah=>?_
  .change(gC slot) (ae l k)=true at ah;refine aA λI a w U=>?_;refine U.o (.li [(ae l k).cells] gM (.u .nil)) λU=>?_;refine U.ap 0 λuX a w U=>?_;rw[cA,<-mU (p:=(gC slot)) ab ah,show(l.take k).filter (λd=>!gC slot d)=(l.take (k+1)).filter (λd=>!gC slot d) from(mV ab (by show(!_)=false;rw[ah];rfl)).symm] at U;refine aI λI a w U=>?_;have U:=U.drop 2;exact U.ag (k+1,uX,v) (ab)
  change(gC slot) (ae l k)=false at ah;refine aA λI a w U=>?_;refine U.o (.li [(ae l k).cells] gM (.u .nil)) λU=>?_;refine U.ap 1 λuY a w U=>?_;rw[cA,<-mU (p:=(λd=>!gC slot d)) ab (by show(!_)=true;rw[ah];rfl),show(l.take k).filter (gC slot)=(l.take (k+1)).filter (gC slot) from(mV ab ah).symm] at U;refine aI λI a w U=>?_;have U:=U.drop 2;exact U.ag (k+1,u,uY) (ab)
 refine zt ?_;refine aU λI a w U=>?_;obtain⟨I,U⟩:=U.fr 0 4;obtain⟨I,U⟩:=U.fr 1 5;refine U.rt ?_;exact(by rw[List.take_of_length_le om];rfl)
def ME (s:Server) (m:az):(!de m.bj||(cv m.bj==cv s.site)||decide (gB s.aE ⟨m.key,m.aw⟩<0)||((ae s.aQ (gY m.key).toNat).fg !=1))=
 !(de m.bj&&(cv m.bj !=cv s.site)&&decide (0<=gB s.aE ⟨m.key,m.aw⟩)&&(eY s m.key==1)):=by
 have e:decide (gB s.aE ⟨m.key,m.aw⟩<0)=!decide (0<=gB s.aE ⟨m.key,m.aw⟩):=by rw[Bool.eq_iff_iff];simp
 rw[e];simp[bne,eY]
def zV {α:Type} {o:Option α} (h:(!o.isSome)=true):o=none:=by cases o;rfl;cases h
def Cl (s:Server) (m:az):(!s.up||!bY m||(m.to !=s.site))=!(s.up&&bY m&&(m.to==s.site)):=by simp[bne]
def MF (s:Server) (slot:Int) (h:po s):
 bG prog 352 [s.av,AV.int slot] [] (λ_:Value=>True) (λv=>[Own.row v 97 2 (s.aQ.map ct.cells)]) (eJ s slot).wY:=by
 refine bG.intro 33 func352 rfl ntmps352 rfl aq (λW I a U=>?_);obtain⟨h1,⟨h2,h3⟩,⟨h4,h5⟩,h6,h7⟩:=id h;refine aX λI a w U=>?_;refine U.alloc rfl bL di λb4 I a w U=>?_;refine aX λI a w U=>?_;refine U.dX [] (zu s h) (an .tt aH) rfl bA rfl λ⟨vS,vV,vW,vO,vK⟩ I a w aha U=>?_;refine U.alloc rfl bL di λb5 I a w U=>?_;refine aR λI a w U=>?_;refine U.o (.cl (Ck s.ar slot h2 h3)) λU=>?_;refine aR λI a w U=>?_;refine U.s1 6 λU=>?_;refine aV λI a w U=>?_;refine U.o (.cl (Ck s.waits slot h4 h5)) λU=>?_;refine aR λI a w U=>?_;refine U.s1 6 λU=>?_;refine aV λI a w U=>?_;refine U.o (.cl (MD s.aE slot h6)) λU=>?_;refine aR λI a w U=>?_;refine U.s1 6 λU=>?_;refine nn<|wp_seq ?_;obtain⟨I,U⟩:=U.fu 5 6 6;refine ax λI a w U=>?_;refine U.cE vS [1] rfl (.cons (.sx 0) .nil) trivial rfl rfl
def rX (s:Server) (k:Nat):List Nat:=(List.range k).filter λi=>(ae s.aQ i).fg==2
def Wa {s:Server} {k:Nat} (h:(ae s.aQ k).fg=2):rX s (k+1)=rX s k++[k]:=by
 unfold rX;rw[List.range_succ,List.filter_append];simp[h]
def Wb {s:Server} {k:Nat} (h:¬(ae s.aQ k).fg=2):rX s (k+1)=rX s k:=by
 unfold rX;rw[List.range_succ,List.filter_append];simp[h]
def Wc (s:Server) (k:Nat):(rX s k).length<=k:=by
 have:=List.length_filter_le (λi=>(ae s.aQ i).fg==2) (List.range k);rw[List.length_range] at this;exact this
def mr (s:Server) (i:Nat):List ao:=((s.waits.take i).map aJ.aK).flatten.foldl (mq s) []
def ix (s:Server) (i j:Nat):List ao:=((ae s.waits i).aK.take j).foldl (mq s) (mr s i)
def w4 {s:Server} {i j:Nat} (h:j<(ae s.waits i).aK.length):ix s i (j+1)=mq s (ix s i j) (ae (ae s.waits i).aK j):=by
 unfold ix;rw[ep h,List.foldl_append];rfl
def Gl {s:Server} {i j:Nat} (h:i<s.waits.length) (hj:(ae s.waits i).aK.length<=j):ix s i j=mr s (i+1):=by
 unfold ix mr;rw[List.take_of_length_le hj,ep h,List.map_append,List.flatten_append,List.foldl_append];simp
def Gm (s:Server) {i:Nat} (h:s.waits.length<=i):mr s i=zQ s:=by unfold mr zQ;rw[List.take_of_length_le h]
def Wd (s:Server) (l:List ao) (d:ao):(mq s l d).length<=l.length+1:=by unfold mq;split<;>simp
def MG (s:Server):∀(l asked:List ao),(l.foldl (mq s) asked).length<=asked.length+l.length
 |[],asked=>by simp
 |d::r,asked=>by have:=MG s r (mq s asked d);have:=Wd s asked d;simp only[List.foldl_cons,List.length_cons];omega
def zW (s:Server) (i j:Nat):(ix s i j).length<=(mr s i).length+j:=by
 have h1:=MG s ((ae s.waits i).aK.take j) (mr s i);have h2:((ae s.waits i).aK.take j).length<=j:=by simp;omega
 unfold ix;omega
def w5 {s:Server} (h:∀v∈s.waits,v.aK.length<=6):∀i,i<=s.waits.length->(mr s i).length<=6*i
 |0,_=>by simp[mr]
 |i+1,hi=>by
  have h1:=w5 h i om;have h2:=zW s i (ae s.waits i).aK.length;have h3:=h _ (bK (l:=s.waits) (k:=i) om);rw[<-Gl om (Nat.le_refl _)];omega
def MH {s:Server} {l:List ao} {d:ao} (h:(!nC s d&&decide (gB l d<0))=false):mq s l d=l:=by
 unfold mq;rw[if_pos];rw[Bool.or_eq_true,decide_eq_true_eq];rw[Bool.and_eq_false_iff,Bool.not_eq_false',decide_eq_false_iff_not] at h;rcases h with h|h
 .exact .inl h
 exact .inr om
def Cm {s:Server} {l:List ao} {d:ao} (h:(!nC s d&&decide (gB l d<0))=true):mq s l d=l++[d]:=by
 unfold mq;rw[if_neg];rw[Bool.or_eq_true,decide_eq_true_eq];rw[Bool.and_eq_true,Bool.not_eq_true',decide_eq_true_eq] at h;rw[h.1];simp;omega
def pC (site k:Nat):List ct:=(List.range k).map λi=>if i%2=site%2 then⟨1,1⟩ else⟨0,0⟩
def Gn {site k:Nat} (h:(k:Int)%2=(site:Int)%2):pC site k++[⟨1,1⟩]=pC site (k+1):=by
 unfold pC;rw[List.range_succ,List.map_append,List.map_singleton,if_pos om]
def Gp {site k:Nat} (h:¬(k:Int)%2=(site:Int)%2):pC site k++[⟨0,0⟩]=pC site (k+1):=by
 unfold pC;rw[List.range_succ,List.map_append,List.map_singleton,if_neg om]
def w6 (site k:Nat):(pC site k).length=k:=by simp[pC]
def MI (x:Bool) (n:Int):(x&&!decide (0<=n))=(x&&decide (n<0)):=by
 have e:(!decide (0<=n))=decide (n<0):=by rw[Bool.eq_iff_iff];simp
 rw[e]
def We {s:Server} (h:bE s) {d:ao} (hd:d∈s.aE):dp d.key=true:=by
 have:=(wN.1 h.aE).2.1 d hd;unfold kt at this;simp only[Bool.and_eq_true] at this;exact this.1
def Call.wY (q:Call) (g n:Value):AV:=.agg [AV.int q.aB,AV.int q.num,AV.int q.kind,fM q.keys,AV.int q.val,bm q.ctx,AV.int q.bw,AV.int q.end_,AV.bool q.over,AV.int q.aw.time,AV.int q.aw.site,.val g,.val n]
def aM.MJ (w:aM) (r:Value×Value×Value×Value):List Own:=[Own.row r.1 95 7 (w.aF.map Server.cells),Own.row r.2.1 108 15 (w.aC.map az.cells),Own.row r.2.2.1 45 13 (w.calls.map Call.cells),Own.row r.2.2.2 40 1 (w.seen.map fh)]
def MK (v:aJ) (h:v.aK.length<=1048576):
 bG prog 159 [v.av] [] (λt:VT=>VT.x t=v) (λt=>t.owns KK) (λt=>AV.agg t.cells):=by
 refine bG.intro 8 func159 rfl ntmps159 rfl aq (λW I a U=>?_);refine sr<|U.box rfl .tt λb1 I a w U=>U.alloc rfl bI dY λb2 I a w U=>?_;refine aA λI a w U=>?_;refine U.gh (oc v.aK h) (an .r aH) rfl λI v5 a w U=>?_;refine U.o .fv λU=>?_;try have Wf:=U.cU 2 rfl
 refine aI λI a w U=>?_;refine U.cE (⟨v,v5⟩:VT) [2] rfl (.cons (.sx 1) .nil) rfl rfl rfl
def dx (l:Int) (w:Nat):Int:=if l-w<0 then-1 else l-w
def kd {l:Int} {a b:Nat} (h:0<=dx l a):dx (dx l a) b=dx l (a+b):=by
 unfold dx at*;split at h
 .omega
 split<;>split<;>omega
def iy {l:Int} {a b:Nat} (h:dx l a<0) (FM:a<=b):-1=dx l b:=by
 unfold dx at*;split at h<;>split<;>omega
def ke {l:Int} {a:Nat} (h:l<=1048576):dx l a<=1048576:=by unfold dx;split<;>omega
def ML {l:Int} {a:Nat} (h:0<=dx l a):(a:Int)<=l:=by unfold dx at h;split at h<;>omega
def qE {l:Int} {a b:Nat} (h:l-a<0) (FM:a<=b):-1=dx l b:=by unfold dx;rw[if_pos om]
def Cn {l:Int} {a:Nat} (h:0<=l-a):l-a=dx l a:=by unfold dx;rw[if_neg om]
def jl (l:List ao):Nat:=l.length
def ow (v:aJ):Nat:=jl v.aK
def ox (a:Answer):Nat:=ow a.bl
def th (l:List ao) (left:Int) (h0:0<=left) (h1:left<=1048576):
 Fn prog 196 [bm l,AV.int left] (AV.int (dx left (jl l))):=by
 refine Fn.go 12 func196 ntmps196 (λW I a U=>?_);have hle:=U.dD (t:=0) rfl;refine et λI a w U=>?_;refine cz (λab=>?_) λab=>?_
 .refine aW ?_;exact cj (qE ab (Nat.le_refl _))
 refine cK ?_;exact cj (Cn ab)
def MM (x:aJ) (left:Int) (h0:0<=left) (h1:left<=1048576):
 Fn prog 298 [x.av,AV.int left] (AV.int (dx left (ow x))):=by
 refine Fn.go 12 func298 ntmps298 (λW I a U=>?_);refine bV λI a w U=>?_;refine U.o (.cl (th _ _ h0 h1)) λU=>?_;refine aI λI a w U=>?_;refine cz (λab=>?_) λab=>?_
 .refine aW ?_;exact cj (iy ab (by unfold ow;omega))
 refine cK ?_;exact cj rfl
def Wg (x:Answer) (left:Int) (h0:0<=left) (h1:left<=1048576):
 Fn prog 299 [x.av,AV.int left] (AV.int (dx left (ox x))):=by
 refine Fn.go 12 func299 ntmps299 (λW I a U=>?_);refine bV λI a w U=>?_;refine U.o (.c2 (MM _ _ h0 h1)) λU=>?_;refine aI λI a w U=>?_;refine cz (λab=>?_) λab=>?_
 .refine aW ?_;exact cj (iy ab (by unfold ox;omega))
 refine cK ?_;exact cj rfl
def Gq (q:Call):
 Fn prog 287 [q.av] (AV.bool (hX q)):=by
 refine Fn.go 11 func287 ntmps287 (λW I a U=>?_);refine Bs λI a w U=>?_;refine U.rt ?_;exact bT (by unfold hX;rfl)
def oz (q:Call) (a:Answer) (k:Nat):List Answer:=if a.bl.bD∈q.aO.take k then q.au.set (cQ q a.key).toNat a else q.au
def Co (m:az):((m.kind !=4)||(m.yes&&((m.ar.length:Int) !=1||((ae m.ar 0).key !=m.key))))=!decide (m.kind=4/\(m.yes=true->m.ar.length=1/\(ae m.ar 0).key=m.key)):=by
 have e:((m.ar.length:Int) !=1)=!decide (m.ar.length=1):=by rw[Bool.eq_iff_iff];simp;omega
 rw[e,Bool.eq_iff_iff];cases m.yes<;>simp<;>omega
def Gr (a:Act):Nat:=match a.tmps.getD 3 undef with|.int _ x=>(x+1).toNat|_=>0
def MN {c:Ctx} {I:Im} {H:List Own} {Γ:Env} {a:Act} {w:World} {k:Nat} (U:St c I H Γ a w) (h:Env.get 3 Γ=some (.int ((k:Int)-1)):=by rfl):Gr a=k:=by
 have:=U.env 3 _ h;unfold Gr;rw[show a.tmps.getD 3 undef=_ from this];simp
def Gs (r:List Value):List AV:=[.val (r.getD 0 undef),.val (r.getD 1 undef),.val (r.getD 2 undef),.val (r.getD 3 undef),.val (r.getD 4 undef),.val (r.getD 5 undef),.val (r.getD 6 undef)]
def MO {r:List Value} (h:r.length=7):r.map AV.val=Gs r:=by
 match r,h with
 |[a,b,c,d,e,f,g],_=>rfl
def Wh {a b c:Bool} (h:(a&&c)=true) (k:b=true):(a&&b&&c)=true:=by rw[Bool.and_right_comm,h,k];rfl
def MP {s:Server} {m:az} (h:(m.kind==5&&(de m.bj&&(cv m.bj !=cv s.site)))=true):m.kind=5/\(de m.bj&&(cv m.bj !=cv s.site))=true:=by
 rw[Bool.and_eq_true,beq_iff_eq] at h;exact h
def uZ (aC more:List az):Nat->List az
 |0=>aC
 |k+1=>uZ aC more k++[ae more k]
def MQ (aC more:List az):∀k,k<=more.length->uZ aC more k=aC++more.take k
 |0,_=>by simp[uZ]
 |k+1,h=>by
  show uZ aC more k++_=_;rw[MQ aC more k om,List.append_assoc,<-ep om]
def Wi {aC more:List az} {k:Nat} (hr:aC.length<=60) (hk:k<=more.length) (dM:k<=60-aC.length) (h:¬(k<more.length/\(aC++more.take k).length<60)):aC++more.take k=fe aC more:=by
 unfold fe;have hl:(more.take k).length=k:=by simp;omega
 rw[List.length_append,hl] at h;congr 1;by_cases hm:k<more.length
 .have:k=60-aC.length:=by omega
  rw[this]
 have:k=more.length:=by omega
 rw[this,List.take_length,List.take_of_length_le om]
def Cp (v:Value) (aC more:List az) (hr:aC.length<=60):
 er prog 272 [AV.val v,dW more] [Own.row v 108 15 (aC.map az.cells)] [] (dW (fe aC more)):=by
 refine bG.intro 25 func272 rfl ntmps272 rfl aq (λW I a U=>?_);have hle:=U.dD (t:=1) rfl;refine ax λI a w U=>?_;refine St.lo (σ:=Nat×Value) (0::(run 19 5 [])) ⟨λ⟨k,u⟩=>[(5,AV.int k),(0,AV.val u)],λ⟨k,u⟩=>[Own.row u 108 15 ((uZ aC more k).map az.cells)],λ⟨k,u⟩=>k<=more.length/\k<=60-aC.length⟩ (λ⟨k,u⟩=>more.length-k) (0,v) U ?aD ?bh;case aD=>exact⟨Nat.zero_le _,Nat.zero_le _⟩
 rintro⟨k,u⟩ I a w aj U;obtain⟨hk,dM⟩:=aj;have bW:(more.take k).length=k:=by simp;omega
 have Cq:=MQ aC more k hk;dsimp only at U;refine df λI a w U=>?_;refine U.q .T (jL 0 dC .ag rfl) λU=>?_;refine ax λI a w U=>?_;refine uz (λab=>?_) λab=>?_
 .rw[List.length_map] at ab;rw[Cq] at ab;replace ab:k<more.length/\(aC++more.take k).length<60:=⟨ab.1,by omega⟩;refine aV λI a w U=>?_;refine U.o ((by first|exact fT dC cH .tt .tt (λ_=>by exact ab.1)|exact iO dC cH .tt .tt (λ_=>by exact ab.1)|exact iZ dC cH .tt .tt (λ_=>by exact ab.1))) λU=>?_;refine U.o .la λU=>?_;refine U.o (.li [(ae more k).cells] gj (.u .nil)) λU=>?_;refine U.append 0 rfl dC cH rfl .tt .r rfl (by rw[Cq];simp;omega) λwL a w U=>?_;rw[cA,show uZ aC more k++[ae more k]=uZ aC more (k+1) from rfl] at U;refine aU λI a w U=>?_;exact U.ag (k+1,wL) (⟨ab.1,by have:=ab.2;rw[List.length_append,bW] at this;omega⟩)
 replace ab:¬(k<more.length/\(aC++more.take k).length<60):=λhh=>by rw[Cq] at ab;simp at ab;simp at hh;omega
 refine wp_exit<|bU<|bU<|eb<|ba<|wp_seq ?_;rw[Cq,Wi hr hk dM ab] at U;obtain⟨I,U⟩:=U.fr 0 0;refine ax λI a w U=>?_;refine U.cE () [] rfl (.cons (.t rfl) .nil) trivial rfl rfl
def Wj {e:Ev} (h3:(!aS e.kind 6 9||!de e.at_)=false):de e.at_=true:=by simp at h3;exact h3.2
def Wk {aC more:List az} {k:Nat} (hk:k<more.length) (h:(fe aC (more.take k)).length<60):fe aC (more.take k)++[ae more k]=fe aC (more.take (k+1)):=by
 unfold fe at h⊢;rw[List.length_append,List.length_take,List.length_take] at h;rw[List.take_of_length_le (l:=more.take k) (by rw[List.length_take];omega),List.take_of_length_le (l:=more.take (k+1)) (by rw[List.length_take];omega),ep hk,List.append_assoc]
def Wl {aC more:List az} {k:Nat} (hr:aC.length<=60) (hk:k<more.length) (h:¬(fe aC (more.take k)).length<60):fe aC (more.take k)=fe aC (more.take (k+1)):=by
 unfold fe at h⊢;rw[List.length_append,List.length_take,List.length_take] at h;rw[List.take_take,List.take_take,Nat.min_eq_left om,Nat.min_eq_left om]
def Wm (aC:List az):fe aC []=aC:=by simp[fe]
def Wn (aC more:List az) (h:aC.length<=60):(fe aC more).length<=60:=by
 unfold fe;rw[List.length_append,List.length_take];omega
def MR {x:aM} {e:Ev} (h:((ae x.aF e.at_.toNat).up==(e.kind==7))=false) (h7:¬e.kind=7):(ae x.aF e.at_.toNat).up=true:=by
 rw[show(e.kind==7)=false by simpa using h7] at h;simpa using h
def Wo {x:aM} {e:Ev} (h:((ae x.aF e.at_.toNat).up==(e.kind==7))=false) (h7:e.kind=7):(ae x.aF e.at_.toNat).up=false:=by
 rw[h7] at h;simpa using h
def Wp (l:List Ev) (left:Int) (h0:0<=left) (h1:left<=1048576):
 Fn prog 48 [o5 l,AV.int left] (AV.int (dx left l.length)):=by
 refine Fn.go 12 func48 ntmps48 (λW I a U=>?_);have hle:=U.dD (t:=0) rfl;refine et λI a w U=>?_;refine cz (λab=>?_) λab=>?_
 .refine aW ?_;exact cj (qE ab (Nat.le_refl _))
 refine cK ?_;exact cj (Cn ab)
end Go.Proofs.YtldbakcpcfdlaaaGreat

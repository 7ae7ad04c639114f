/- Part 10: contracts of functions, plain facts. -/
import Derived.Test.YtldbakcpcfdlaaaGreatU09
set_option linter.all false
set_option maxRecDepth 100000
set_option maxHeartbeats 4000000
namespace Go.Proofs.YtldbakcpcfdlaaaGreat
open Go Go.RowKit Tryz
attribute [local irreducible] wpList Code.wp Ok
def KK:er:=⟨125,54,97,3,56,95,108,45,40⟩
def ji (v:Value) (k:Nat) (l:List ay) (hb:(ct k l).2<=1152921504606846976):
 c5 prog 116 [AV.val v,AV.int (k:Nat)] [Own.aA KK v l] [Own.aA KK v (ct k l).1] (AV.int ((ct k l).2:Nat)):=by
 refine c5.intro 36 func116 rfl ntmps116 rfl aj (λW I a U=>?_);have hl:k+l.length<=(ct k l).2:=iC (f:=dm) (c:=λ_=>3) (λ_ _=>rfl) (λ_=>by decide);refine aH λI a w U=>?_;refine St.lo (σ:=Nat) (1::(run 30 5 [])) ⟨λi=>[(5,AV.int i),(1,AV.int ((aw dm k (l.take i)).2:Nat))],λi=>[Own.row v KK.cG 3 ((cw dm k l i).map ay.cells)],λi=>i<=l.length⟩ (λi=>l.length-i) 0 U ?ar ?aW;case ar=>exact Nat.zero_le _
 rintro i I a w ak U;have iD:i<=l.length:=ak;dsimp only at U;refine aL λI a w U=>?_;refine U.o (iR 0 iw .tt rfl) λU=>?_;refine aq λI a w U=>?_;refine U.cd (λab=>?_) λab=>?_
 .simp only[B,List.length_map,dR] at ab;refine wp_skip<|bM<|wp_seq<|wp_block<|wp_seq ?_;obtain⟨t,hx⟩:=get_some ab;obtain⟨m,hm,jP,U⟩:=U.rV hx;generalize bZ:(aw dm k (l.take i)).2=kk at U;obtain⟨dS,de⟩:=g7 (f:=dm) (c:=λ_=>3) (λ_ _=>rfl) hx bZ;change _<=(ct k l).2 at de;refine aN λI a w U=>?_;refine U.o (be 0 iw ep .tt .tt rfl (λ_=>by first|omega|(simp only[List.length_set,List.length_map];omega))) λU=>?_;refine U.o .fv λU=>?_;refine U.bT (j:=0) 0 bS .tt .tt (by first|exact bA rfl|exact bE|exact bF|exact bG) rfl bk rfl rfl λa w U=>?_;refine aV λI a w U=>?_;refine U.o (ba .tt .c (λ_=>by first|omega|(simp only[List.length_set,List.length_map];omega))) λU=>?_;rw[show((kk:Nat):Int)+1=((kk+1:Nat):Int) from rfl] at U;refine ax λI a w U=>?_;refine U.o (be 0 iw ep .tt .tt rfl (λ_=>by first|omega|(simp only[List.length_set,List.length_map];omega))) λU=>?_;refine aL λI a w U=>?_;refine U.bT (j:=1) 0 bS .tt .tt (by first|exact bA rfl|exact bE|exact bF|exact bG) rfl bk rfl rfl λa w U=>?_;refine aV λI a w U=>?_;refine U.o (ba .tt .c (λ_=>by first|omega|(simp only[List.length_set,List.length_map];omega))) λU=>?_;rw[show((kk+1:Nat):Int)+1=((kk+2:Nat):Int) from rfl] at U;refine ax λI a w U=>?_;refine U.o (be 0 iw ep .tt .tt rfl (λ_=>by first|omega|(simp only[List.length_set,List.length_map];omega))) λU=>?_;refine aL λI a w U=>?_;refine U.bT (j:=2) 0 bS .tt .tt (by first|exact bA rfl|exact bE|exact bF|exact bG) rfl bk rfl rfl λa w U=>?_;refine aV λI a w U=>?_;refine U.o (ba .tt .c (λ_=>by first|omega|(simp only[List.length_set,List.length_map];omega))) λU=>?_;rw[show((kk+2:Nat):Int)+1=((kk+3:Nat):Int) from rfl] at U;refine aL λI a w U=>?_;refine U.o (ba .tt .c (λ_=>by first|omega|(simp only[List.length_set,List.length_map];omega))) λU=>?_;refine aq λI a w U=>?_;have U:=U.rW hx hm bZ rfl;refine U.again (i+1) ?bu ?bw bh ?bx (by repeat(first|exact Env.le_rfl|refine Env.cL rfl ?_));case bu=>omega
  case bw=>show i+1<=_;omega
  case bx=>exact(Env.aU rfl bh (Env.aU rfl (by exact congrArg AV.int (by rw[dS];(try rfl))) Env.le_nil))
 simp only[B,List.length_map,dR] at ab;refine zt ?_;refine aH λI a w U=>?_;have U:=U.rX om;refine U.ir rfl (.cons (.t rfl) .nil) rfl ?_;rw[List.take_of_length_le om];rfl
def nk (v:Value) (k:Nat) (l:List VT) (hb:(et k l).2<=1152921504606846976):
 c5 prog 43 [AV.val v,AV.int (k:Nat)] [Own.ao KK v l] [Own.ao KK v (et k l).1] (AV.int ((et k l).2:Nat)):=by
 refine c5.intro 64 func43 rfl ntmps43 rfl aj (λW I a U=>?_);have hl:k+l.length<=(et k l).2:=iC (f:=je) (c:=λt=>ew t.x) (wE) (λt=>by simp only[ew];omega);have U:=U.parts;refine aH λI a w U=>?_;refine St.lo (σ:=Nat) (1::(run 58 5 [])) ⟨λi=>[(5,AV.int i),(1,AV.int ((aw je k (l.take i)).2:Nat))],λi=>[Own.row v KK.bs 7 ((cw je k l i).map VT.cells),Own.many ((cw je k l i).map λx=>Own.many (VT.owns KK x))],λi=>i<=l.length⟩ (λi=>l.length-i) 0 U ?ar ?aW;case ar=>exact Nat.zero_le _
 rintro i I a w ak U;have iD:i<=l.length:=ak;dsimp only at U;refine aL λI a w U=>?_;refine U.o (iR 0 cQ .tt rfl) λU=>?_;refine aq λI a w U=>?_;refine U.cd (λab=>?_) λab=>?_
 .simp only[B,List.length_map,dR] at ab;refine wp_skip<|bM<|wp_seq<|wp_block<|wp_seq ?_;obtain⟨t,hx⟩:=get_some ab;obtain⟨m,hm,jP,U⟩:=U.l3 hx;generalize bZ:(aw je k (l.take i)).2=kk at U;obtain⟨dS,de⟩:=g7 (f:=je) (c:=λt=>ew t.x) (wE) hx bZ;simp only[ew] at de;change _<=(et k l).2 at de;dsimp only[VT.owns,List.cons_append,List.nil_append] at U;refine aN λI a w U=>?_;refine U.o (be 0 cQ bK .tt .tt rfl (λ_=>by first|omega|(simp only[List.length_set,List.length_map];omega))) λU=>?_;refine U.o .fv λU=>?_;refine U.bT (j:=0) 0 bS .tt .tt (by first|exact bA rfl|exact bE|exact bF|exact bG) rfl bk rfl rfl λa w U=>?_;refine aV λI a w U=>?_;refine U.o (ba .tt .c (λ_=>by first|omega|(simp only[List.length_set,List.length_map];omega))) λU=>?_;rw[show((kk:Nat):Int)+1=((kk+1:Nat):Int) from rfl] at U;refine ax λI a w U=>?_;refine U.o (be 0 cQ bK .tt .tt rfl (λ_=>by first|omega|(simp only[List.length_set,List.length_map];omega))) λU=>?_;refine aL λI a w U=>?_;refine U.bT (j:=1) 0 bS .tt .tt (by first|exact bA rfl|exact bE|exact bF|exact bG) rfl bk rfl rfl λa w U=>?_;refine aV λI a w U=>?_;refine U.o (ba .tt .c (λ_=>by first|omega|(simp only[List.length_set,List.length_map];omega))) λU=>?_;rw[show((kk+1:Nat):Int)+1=((kk+2:Nat):Int) from rfl] at U;refine ax λI a w U=>?_;refine U.o (be 0 cQ bK .tt .tt rfl (λ_=>by first|omega|(simp only[List.length_set,List.length_map];omega))) λU=>?_;refine aL λI a w U=>?_;refine U.bT (j:=2) 0 bS .tt .tt (by first|exact bA rfl|exact bE|exact bF|exact bG) rfl bk rfl rfl λa w U=>?_;refine aV λI a w U=>?_;refine U.o (ba .tt .c (λ_=>by first|omega|(simp only[List.length_set,List.length_map];omega))) λU=>?_;rw[show((kk+2:Nat):Int)+1=((kk+3:Nat):Int) from rfl] at U;refine ax λI a w U=>?_;refine U.o (be 0 cQ bK .tt .tt rfl (λ_=>by first|omega|(simp only[List.length_set,List.length_map];omega))) λU=>?_;refine U.o .fv λU=>?_;refine U.bT (j:=3) 0 bS .tt .tt (by first|exact bA rfl|exact bE|exact bF|exact bG) rfl bk rfl rfl λa w U=>?_;refine aV λI a w U=>?_;refine U.o (ba .tt .c (λ_=>by first|omega|(simp only[List.length_set,List.length_map];omega))) λU=>?_;rw[show((kk+3:Nat):Int)+1=((kk+4:Nat):Int) from rfl] at U;refine ax λI a w U=>?_;refine U.o (be 0 cQ bK .tt .tt rfl (λ_=>by first|omega|(simp only[List.length_set,List.length_map];omega))) λU=>?_;refine U.o .fv λU=>?_;refine U.bT (j:=4) 0 bS .tt .tt (by first|exact bA rfl|exact bE|exact bF|exact bG) rfl bk rfl rfl λa w U=>?_;refine aV λI a w U=>?_;refine U.o (ba .tt .c (λ_=>by first|omega|(simp only[List.length_set,List.length_map];omega))) λU=>?_;rw[show((kk+4:Nat):Int)+1=((kk+5:Nat):Int) from rfl] at U;refine ax λI a w U=>?_;refine U.o (be 0 cQ bK .tt .tt rfl (λ_=>by first|omega|(simp only[List.length_set,List.length_map];omega))) λU=>?_;refine U.o .fv λU=>?_;refine U.bT (j:=5) 0 bS .tt .tt (by first|exact bA rfl|exact bE|exact bF|exact bG) rfl bk rfl rfl λa w U=>?_;refine aV λI a w U=>?_;refine U.o (ba .tt .c (λ_=>by first|omega|(simp only[List.length_set,List.length_map];omega))) λU=>?_;rw[show((kk+5:Nat):Int)+1=((kk+6:Nat):Int) from rfl] at U;refine aN λI a w U=>?_;refine U.o (be 0 cQ bK .tt .tt rfl (λ_=>by first|omega|(simp only[List.length_set,List.length_map];omega))) λU=>?_;refine U.o .fv λU=>?_;refine U.o (fk (j:=6) 0 gp .tt rfl (λ_=>fm bk) rfl rfl rfl) λU=>?_;refine U.m λU=>?_;refine U.dB [2] (ji _ (kk+6) t.x.aA (by rw[c7];omega)) (az .r (az .tt aP)) rfl aZ rfl λI a w U=>?_;have U:=U.nf;generalize dD:(ct (kk+6) t.x.aA).2=k1 at U;have kR:k1=_:=dD.symm.trans (c7);refine aL λI a w U=>?_;refine U.o (ba .tt .c (λ_=>by first|omega|(simp only[List.length_set,List.length_map];omega))) λU=>?_;refine aq λI a w U=>?_;subst dD;have U:=U.l4 hx hm bZ rfl rfl;refine U.again (i+1) ?bu ?bw bh ?bx (by repeat(first|exact Env.le_rfl|refine Env.cL rfl ?_));case bu=>omega
  case bw=>show i+1<=_;omega
  case bx=>exact(Env.aU rfl bh (Env.aU rfl (by exact congrArg AV.int (by rw[dS];(try rfl))) Env.le_nil))
 simp only[B,List.length_map,dR] at ab;refine zt ?_;refine aH λI a w U=>?_;have U:=U.l5 om;refine U.ir rfl (.cons (.t rfl) .nil) rfl ?_;rw[List.take_of_length_le om];rfl
def DN (v:Value) (k:Nat) (l:List AT) (hb:(aw eJ k l).2<=1152921504606846976):
 c5 prog 210 [AV.val v,AV.int (k:Nat)] [Own.answers KK v l] [Own.answers KK v (aw eJ k l).1] (AV.int ((aw eJ k l).2:Nat)):=by
 refine c5.intro 87 func210 rfl ntmps210 rfl aj (λW I a U=>?_);have hl:k+l.length<=(aw eJ k l).2:=iC (f:=eJ) (c:=λt=>g0 t.x) (rT) (λt=>by simp only[g0,ew];omega);have U:=U.parts;refine aH λI a w U=>?_;refine St.lo (σ:=Nat) (1::(run 81 5 [])) ⟨λi=>[(5,AV.int i),(1,AV.int ((aw eJ k (l.take i)).2:Nat))],λi=>[Own.row v KK.answer 9 ((cw eJ k l i).map AT.cells),Own.many ((cw eJ k l i).map λx=>Own.many (AT.owns KK x))],λi=>i<=l.length⟩ (λi=>l.length-i) 0 U ?ar ?aW;case ar=>exact Nat.zero_le _
 rintro i I a w ak U;have iD:i<=l.length:=ak;dsimp only at U;refine aL λI a w U=>?_;refine U.o (iR 0 eI .tt rfl) λU=>?_;refine aq λI a w U=>?_;refine U.cd (λab=>?_) λab=>?_
 .simp only[B,List.length_map,dR] at ab;refine wp_skip<|bM<|wp_seq<|wp_block<|wp_seq ?_;obtain⟨t,hx⟩:=get_some ab;obtain⟨m,hm,jP,U⟩:=U.l3 hx;generalize bZ:(aw eJ k (l.take i)).2=kk at U;obtain⟨dS,de⟩:=g7 (f:=eJ) (c:=λt=>g0 t.x) (rT) hx bZ;simp only[g0,ew] at de;change _<=(aw eJ k l).2 at de;dsimp only[AT.owns,List.cons_append,List.nil_append] at U;refine aN λI a w U=>?_;refine U.o (be 0 eI dQ .tt .tt rfl (λ_=>by first|omega|(simp only[List.length_set,List.length_map];omega))) λU=>?_;refine U.o .fv λU=>?_;refine U.bT (j:=0) 0 bS .tt .tt (by first|exact bA rfl|exact bE|exact bF|exact bG) rfl bk rfl rfl λa w U=>?_;refine aV λI a w U=>?_;refine U.o (ba .tt .c (λ_=>by first|omega|(simp only[List.length_set,List.length_map];omega))) λU=>?_;rw[show((kk:Nat):Int)+1=((kk+1:Nat):Int) from rfl] at U;refine ax λI a w U=>?_;refine U.o (oc .tt .c (λ_=>by first|omega|(simp only[List.length_set,List.length_map];omega))) λU=>?_;refine U.o .oM λU=>?_;refine U.o (be 0 eI dQ .tt .tt rfl (λ_=>by first|omega|(simp only[List.length_set,List.length_map];omega))) λU=>?_;refine U.o .fv λU=>?_;refine U.bT (j:=1) 0 oP .tt .tt (by first|exact bA rfl|exact bE|exact bF|exact bG) rfl bk rfl rfl λa w U=>?_;refine aV λI a w U=>?_;refine U.o (ba .tt .c (λ_=>by first|omega|(simp only[List.length_set,List.length_map];omega))) λU=>?_;rw[show((kk+1:Nat):Int)+1=((kk+2:Nat):Int) from rfl] at U;refine ax λI a w U=>?_;refine U.o (be 0 eI dQ .tt .tt rfl (λ_=>by first|omega|(simp only[List.length_set,List.length_map];omega))) λU=>?_;refine aL λI a w U=>?_;refine U.bT (j:=2) 0 bS .tt .tt (by first|exact bA rfl|exact bE|exact bF|exact bG) rfl bk rfl rfl λa w U=>?_;refine aV λI a w U=>?_;refine U.o (ba .tt .c (λ_=>by first|omega|(simp only[List.length_set,List.length_map];omega))) λU=>?_;rw[show((kk+2:Nat):Int)+1=((kk+3:Nat):Int) from rfl] at U;refine ax λI a w U=>?_;refine U.o (be 0 eI dQ .tt .tt rfl (λ_=>by first|omega|(simp only[List.length_set,List.length_map];omega))) λU=>?_;refine aN λI a w U=>?_;refine U.bT (j:=3) 0 bS .tt .tt (by first|exact bA rfl|exact bE|exact bF|exact bG) rfl bk rfl rfl λa w U=>?_;refine aV λI a w U=>?_;refine U.o (ba .tt .c (λ_=>by first|omega|(simp only[List.length_set,List.length_map];omega))) λU=>?_;rw[show((kk+3:Nat):Int)+1=((kk+4:Nat):Int) from rfl] at U;refine ax λI a w U=>?_;refine U.o (be 0 eI dQ .tt .tt rfl (λ_=>by first|omega|(simp only[List.length_set,List.length_map];omega))) λU=>?_;refine aN λI a w U=>?_;refine U.bT (j:=4) 0 bS .tt .tt (by first|exact bA rfl|exact bE|exact bF|exact bG) rfl bk rfl rfl λa w U=>?_;refine aV λI a w U=>?_;refine U.o (ba .tt .c (λ_=>by first|omega|(simp only[List.length_set,List.length_map];omega))) λU=>?_;rw[show((kk+4:Nat):Int)+1=((kk+5:Nat):Int) from rfl] at U;refine ax λI a w U=>?_;refine U.o (be 0 eI dQ .tt .tt rfl (λ_=>by first|omega|(simp only[List.length_set,List.length_map];omega))) λU=>?_;refine aL λI a w U=>?_;refine U.bT (j:=5) 0 bS .tt .tt (by first|exact bA rfl|exact bE|exact bF|exact bG) rfl bk rfl rfl λa w U=>?_;refine aV λI a w U=>?_;refine U.o (ba .tt .c (λ_=>by first|omega|(simp only[List.length_set,List.length_map];omega))) λU=>?_;rw[show((kk+5:Nat):Int)+1=((kk+6:Nat):Int) from rfl] at U;refine ax λI a w U=>?_;refine U.o (be 0 eI dQ .tt .tt rfl (λ_=>by first|omega|(simp only[List.length_set,List.length_map];omega))) λU=>?_;refine aL λI a w U=>?_;refine U.bT (j:=6) 0 bS .tt .tt (by first|exact bA rfl|exact bE|exact bF|exact bG) rfl bk rfl rfl λa w U=>?_;refine aV λI a w U=>?_;refine U.o (ba .tt .c (λ_=>by first|omega|(simp only[List.length_set,List.length_map];omega))) λU=>?_;rw[show((kk+6:Nat):Int)+1=((kk+7:Nat):Int) from rfl] at U;refine ax λI a w U=>?_;refine U.o (be 0 eI dQ .tt .tt rfl (λ_=>by first|omega|(simp only[List.length_set,List.length_map];omega))) λU=>?_;refine aL λI a w U=>?_;refine U.bT (j:=7) 0 bS .tt .tt (by first|exact bA rfl|exact bE|exact bF|exact bG) rfl bk rfl rfl λa w U=>?_;refine aV λI a w U=>?_;refine U.o (ba .tt .c (λ_=>by first|omega|(simp only[List.length_set,List.length_map];omega))) λU=>?_;rw[show((kk+7:Nat):Int)+1=((kk+8:Nat):Int) from rfl] at U;refine aN λI a w U=>?_;refine U.o (be 0 eI dQ .tt .tt rfl (λ_=>by first|omega|(simp only[List.length_set,List.length_map];omega))) λU=>?_;refine aL λI a w U=>?_;refine U.o (fk (j:=8) 0 gp .tt rfl (λ_=>fm bk) rfl rfl rfl) λU=>?_;refine U.m λU=>?_;refine U.dB [2] (ji _ (kk+8) t.x.bs.aA (by rw[c7];omega)) (az .r (az .tt aP)) rfl aZ rfl λI a w U=>?_;have U:=U.nf;generalize dD:(ct (kk+8) t.x.bs.aA).2=k1 at U;have kR:k1=_:=dD.symm.trans (c7);refine aL λI a w U=>?_;refine U.o (ba .tt .c (λ_=>by first|omega|(simp only[List.length_set,List.length_map];omega))) λU=>?_;refine aq λI a w U=>?_;subst dD;have U:=U.l4 hx hm bZ rfl rfl;refine U.again (i+1) ?bu ?bw bh ?bx (by repeat(first|exact Env.le_rfl|refine Env.cL rfl ?_));case bu=>omega
  case bw=>show i+1<=_;omega
  case bx=>exact(Env.aU rfl bh (Env.aU rfl (by exact congrArg AV.int (by rw[dS];(try rfl))) Env.le_nil))
 simp only[B,List.length_map,dR] at ab;refine zt ?_;refine aH λI a w U=>?_;have U:=U.l5 om;refine U.ir rfl (.cons (.t rfl) .nil) rfl ?_;rw[List.take_of_length_le om];rfl
def dG (n a b:Int):
 Fn prog 65 [AV.int n,AV.int a,AV.int b] (AV.bool (aI n a b)):=by
 refine Fn.go 15 func65 ntmps65 (λW I a U=>?_);refine m5 λI a w U=>?_;refine U.rt ?_;rfl
def dH (n a b:Int):
 Fn prog 86 [AV.int n,AV.int a,AV.int b] (AV.bool (aI n a b)):=by
 refine Fn.go 15 func86 ntmps86 (λW I a U=>?_);refine m5 λI a w U=>?_;refine U.rt ?_;exact aQ (by simp only[aI,ge_iff_le])
def pe (n:Int):
 Fn prog 139 [AV.int n] (AV.bool (il n)):=by
 refine Fn.go 5 func139 ntmps139 (λW I a U=>?_);refine aL λI a w U=>?_;refine U.o (.cl (dG ..)) λU=>?_;refine an ?_;rfl
def nm (n:Int):
 Fn prog 170 [AV.int n] (AV.bool (il n)):=by
 refine Fn.go 5 func170 ntmps170 (λW I a U=>?_);refine aL λI a w U=>?_;refine U.o (.cl (dH ..)) λU=>?_;refine an ?_;rfl
def pf (n:Int):
 Fn prog 146 [AV.int n] (AV.bool (bW n)):=by
 refine Fn.go 5 func146 ntmps146 (λW I a U=>?_);refine aL λI a w U=>?_;refine U.o (.cl (dG ..)) λU=>?_;refine an ?_;rfl
def kS (n:Int):
 Fn prog 177 [AV.int n] (AV.bool (bW n)):=by
 refine Fn.go 5 func177 ntmps177 (λW I a U=>?_);refine aL λI a w U=>?_;refine U.o (.cl (dH ..)) λU=>?_;refine an ?_;rfl
def r6 (n:Int):
 Fn prog 225 [AV.int n] (AV.bool (fE n)):=by
 refine Fn.go 5 func225 ntmps225 (λW I a U=>?_);refine aL λI a w U=>?_;refine U.o (.cl (dG ..)) λU=>?_;refine an ?_;rfl
def pg (s:cy):
 Fn prog 149 [s.av] (AV.bool (cZ s)):=by
 refine Fn.go 11 func149 ntmps149 (λW I a U=>?_);refine ax λI a w U=>?_;refine U.o (.cl (dG ..)) λU=>?_;refine aN λI a w U=>?_;refine U.q .T (.cl (pe ..)) λU=>?_;refine bQ ?_;rfl
def np (s:cy):
 Fn prog 179 [s.av] (AV.bool (cZ s)):=by
 refine Fn.go 11 func179 ntmps179 (λW I a U=>?_);refine ax λI a w U=>?_;refine U.o (.cl (dH ..)) λU=>?_;refine aN λI a w U=>?_;refine U.q .T (.cl (nm ..)) λU=>?_;refine bQ ?_;rfl
def w5 (s:cy):
 Fn prog 178 [s.av] (AV.bool (jD s)):=by
 refine Fn.go 10 func178 ntmps178 (λW I a U=>?_);refine aN λI a w U=>?_;refine U.o (.bd kH bU.nil) λU=>?_;refine U.o (ki [_,_] [_,_] jM rfl rfl .tt .tt) λU=>?_;refine aL λI a w U=>?_;refine U.q .F (.cl (np ..)) λU=>?_;refine bQ ?_;exact aQ (by simp[jD,en])
def r7 (s t:cy):
 Fn prog 250 [s.av,t.av] (AV.bool (fO s t)):=by
 refine Fn.go 24 func250 ntmps250 (λW I a U=>?_);refine ru λI a w U=>?_;refine U.rt ?_;rfl
def nq (l:List ay):
 Fn prog 72 [cY l] (AV.bool (cP l)):=by
 refine Fn.go 27 func72 ntmps72 (λW I a U=>?_);refine cK λI a w U=>?_;refine St.lo (σ:=Nat×Int) (run 2 2 (5::(run 19 8 []))) ⟨λ⟨k,last⟩=>[(8,AV.int k),(3,AV.int last)],λ⟨k,last⟩=>[],λ⟨k,last⟩=>k<=l.length/\cP l=eP last (l.drop k)/\-1<=last/\last<=5⟩ (λ⟨k,last⟩=>l.length-k) (0,-1) U ?ar ?aW;case ar=>exact⟨by simp,rfl,by omega,by omega⟩
 rintro⟨k,last⟩ I a w ak U;obtain⟨hk,hd,JO,hK⟩:=ak;have hle:=U.cB (t:=0) rfl;refine aq λI a w U=>?_;refine cz (λab=>?_) λab=>?_
 .refine aL λI a w U=>?_;refine U.alloc rfl ep gY λb5 I a w U=>?_;refine aq λI a w U=>?_;obtain⟨I,U⟩:=U.fb 0 5;refine ax λI a w U=>?_;refine U.o (.cl (dG ..)) λU=>?_;refine ax λI a w U=>?_;refine U.q .F (.cl (pg ..)) λU=>?_;refine aH λI a w U=>?_;refine cz (λah=>?_) λah=>?_
  .refine an ?_;exact aQ (by rw[hd,lE ab];simp only[eP];rcases ah with h|h<;>simp[h])
  refine cK λI a w U=>?_;have U:=U.drop 0;exact U.ag (k+1,(ae l k).key) (by(rw[hd,lE ab];simp[eP,ah,aI];simp[aI] at ah;omega))
 refine zt ?_;refine an ?_;exact aQ (by rw[hd,List.drop_eq_nil_of_le om];rfl)
def ef (l:List ay) (k:Nat):Int:=if k=0 then-1 else(ae l (k-1)).key
def w6 (l:List ay) (k:Nat):ef l (k+1)=(ae l k).key:=by simp[ef]
def w7 {l:List ay} {k:Nat} (hk:k<l.length):eP (ef l k) (l.drop k)=(aI (ae l k).key (ef l k+1) 5&&cZ (ae l k).aE&&eP (ef l (k+1)) (l.drop (k+1))):=by
 rw[lE hk,w6];rfl
def w8 {l:List ay} {k:Nat} (hp:-1<=ef l k):(!bW (ae l k).key||!cZ (ae l k).aE||(decide (0<(k:Int))&&decide ((ae l k).key<=(ae l ((k:Int)-1).toNat).key)))=!(aI (ae l k).key (ef l k+1) 5&&cZ (ae l k).aE):=by
 rw[show((k:Int)-1).toNat=k-1 from by omega];rcases Nat.eq_zero_or_pos k with rfl|h
 .simp[ef,bW,aI]
 have h0:k≠0:=by omega
 have rZ:-1<=(ae l (k-1)).key:=by simpa[ef,h0] using hp
 have h1:(0<(k:Int)):=by omega
 simp only[ef,if_neg h0,bW,aI];generalize (ae l (k-1)).key=p at*;generalize (ae l k).key=q at*;rw[Bool.eq_iff_iff];cases cZ (ae l k).aE<;>simp[h1]<;>omega
def DO {l:List ay} {k:Nat} (hk:k<l.length) (hd:cP l=eP (ef l k) (l.drop k)) (hp:-1<=ef l k) (h:(aI (ae l k).key (ef l k+1) 5&&cZ (ae l k).aE)=true):
 k+1<=l.length/\cP l=eP (ef l (k+1)) (l.drop (k+1))/\-1<=ef l (k+1):=by
 refine⟨hk,by rw[hd,w7 hk,h,Bool.true_and],?_⟩;rw[w6];simp[aI] at h;omega
def DP {l:List ay} {k:Nat} (hk:k<l.length) (hd:cP l=eP (ef l k) (l.drop k)) (h:(aI (ae l k).key (ef l k+1) 5&&cZ (ae l k).aE)=false):false=cP l:=by
 rw[hd,w7 hk,h,Bool.false_and]
def nr (l:List ay):
 Fn prog 90 [cY l] (AV.bool (cP l)):=by
 refine Fn.go 44 func90 ntmps90 (λW I a U=>?_);have hle:=U.cB (t:=0) rfl;refine aH λI a w U=>?_;refine St.lo (σ:=Nat) (run 42 2 []) ⟨λk=>[(3,AV.int k)],λk=>[],λk=>k<=l.length/\cP l=eP (ef l k) (l.drop k)/\-1<=ef l k⟩ (λk=>l.length-k) 0 U ?ar ?aW;case ar=>exact⟨by simp,rfl,by simp[ef]⟩
 rintro k I a w ak U;obtain⟨hk,hd,hp⟩:=ak;refine bc λI a w U=>?_;refine cz (λab=>?_) λab=>?_
 .refine zt ?_;refine U.dk ?_;refine lR ?_;refine .o (.c1 (kS ..)) ?_;refine wa ?_;refine .q .F (.cl (np ..)) ?_;refine jK ?_;refine iu ?_;refine .nil ?_;intro I a w U;refine bM ?_;refine U.cd (λah=>?_) λah=>?_
  .rw[w8 hp] at ah;simp only[Bool.not_eq_true'] at ah;refine an ?_;exact aQ (DP ab hd ah)
  rw[w8 hp] at ah;simp only[Bool.not_eq_false'] at ah;refine aK λI a w U=>?_;exact U.ag (k+1) (DO ab hd hp ah)
 refine zt ?_;refine an ?_;exact aQ (by rw[hd,List.drop_eq_nil_of_le om];rfl)
def nt {b:Bool} (h:(!b)=true):b=false:=by simpa using h
def nf {b:Bool} (h:(!b)=false):b=true:=by simpa using h
def ph (l:List ay) (k:Nat) (t:Int):decide (t<=(ae l k).aE.time)=!decide ((ae l k).aE.time<t):=by
 rw[Bool.eq_iff_iff];simp
def r8 (v:al):Bool:=bW v.key&&cZ v.aE&&aI v.val 0 9999&&fE v.bl&&aI v.call 1 99&&cP v.aA
def pj (v:al):(!bW v.key||!cZ v.aE||!aI v.val 0 9999||!fE v.bl||!aI v.call 1 99||!cP v.aA)=!r8 v:=by simp[r8]
def l9 (v:al):eo v=(r8 v&&uK v.aE.time v.aA):=rfl
def w9 (v:al):
 Fn prog 156 [v.av] (AV.bool (eo v)):=by
 refine Fn.go 54 func156 ntmps156 (λW I a U=>?_);have r9:v.aA.length<=9223372036854775807:=by
  obtain⟨cs,_,hc⟩:=U.env 0 _ rfl;obtain⟨u,_,hu,_⟩:=hc.get (i:=6) rfl;exact mO hu
 refine ax λI a w U=>?_;refine U.o (.c1 (pf ..)) λU=>?_;refine ax λI a w U=>?_;refine U.q .F (.cl (pg ..)) λU=>?_;refine bJ λI a w U=>?_;refine U.q .F (.cl (dG ..)) λU=>?_;refine bJ λI a w U=>?_;refine U.q .F (.cl (r6 ..)) λU=>?_;refine bJ λI a w U=>?_;refine U.q .F (.cl (dG ..)) λU=>?_;refine bJ λI a w U=>?_;refine U.q .F (.cl (nq ..)) λU=>?_;refine aH λI a w U=>?_;refine U.cd (λab=>?_) λab=>?_
 .rw[pj v] at ab;replace ab:=nt ab;refine an ?_;exact aQ (by rw[l9,ab];rfl)
 rw[pj v] at ab;replace ab:=nf ab;refine bc λI a w U=>?_;refine St.lo (σ:=Nat) (2::(4::(run 12 42 []))) ⟨λk=>[(42,AV.int k)],λk=>[],λk=>k<=v.aA.length/\∀i,i<k->(λi=>decide ((ae v.aA i).aE.time<v.aE.time)) i=true⟩ (λk=>v.aA.length-k) 0 U ?ar ?aW;case ar=>exact⟨by simp,λi hi=>by omega⟩
 rintro k I a w ak U;obtain⟨hk,au⟩:=ak;have hle:v.aA.length<=9223372036854775807:=r9;refine aq λI a w U=>?_;refine cz (λah=>?_) λah=>?_
 .refine aL λI a w U=>?_;refine U.alloc rfl ep gY λb4 I a w U=>?_;refine aq λI a w U=>?_;obtain⟨I,U⟩:=U.fb 0 4;refine lP λI a w U=>?_;refine U.cd (λai=>?_) λai=>?_
  .rw[ph] at ai;replace ai:=nt ai;refine an ?_;exact aQ (by rw[l9,ab];exact(cF (f:=(λi=>decide ((ae v.aA i).aE.time<v.aE.time))) ah ai).symm)
  rw[ph] at ai;replace ai:=nf ai;refine aH λI a w U=>?_;have U:=U.drop 0;exact U.ag (k+1) (⟨by omega,cT au ai⟩)
 refine zt ?_;refine an ?_;exact aQ (by rw[l9,ab];exact(cD au om).symm)
def xa (v:al):
 Fn prog 251 [v.av] (AV.bool (eo v)):=by
 refine Fn.go 56 func251 ntmps251 (λW I a U=>?_);have r9:v.aA.length<=9223372036854775807:=by
  obtain⟨cs,_,hc⟩:=U.env 0 _ rfl;obtain⟨u,_,hu,_⟩:=hc.get (i:=6) rfl;exact mO hu
 refine ax λI a w U=>?_;refine U.o (.c1 (kS ..)) λU=>?_;refine ax λI a w U=>?_;refine U.q .F (.cl (np ..)) λU=>?_;refine bJ λI a w U=>?_;refine U.q .F (.cl (dH ..)) λU=>?_;refine bJ λI a w U=>?_;refine U.q .F (.cl (dH ..)) λU=>?_;refine bJ λI a w U=>?_;refine U.q .F (.cl (dH ..)) λU=>?_;refine bJ λI a w U=>?_;refine U.q .F (.cl (nr ..)) λU=>?_;refine aH λI a w U=>?_;refine U.cd (λab=>?_) λab=>?_
 .rw[show aI v.bl 0 1=fE v.bl from rfl,pj v] at ab;replace ab:=nt ab;refine an ?_;exact aQ (by rw[l9,ab];rfl)
 rw[show aI v.bl 0 1=fE v.bl from rfl,pj v] at ab;replace ab:=nf ab;refine aq λI a w U=>?_;refine St.lo (σ:=Nat) (run 2 2 (run 18 38 [])) ⟨λk=>[(3,AV.int k)],λk=>[],λk=>k<=v.aA.length/\∀i,i<k->(λi=>decide ((ae v.aA i).aE.time<v.aE.time)) i=true⟩ (λk=>v.aA.length-k) 0 U ?ar ?aW;case ar=>exact⟨by simp,λi hi=>by omega⟩
 rintro k I a w ak U;obtain⟨hk,au⟩:=ak;have hle:v.aA.length<=9223372036854775807:=r9;refine cK λI a w U=>?_;refine cz (λah=>?_) λah=>?_
 .refine aq λI a w U=>?_;refine U.cd (λai=>?_) λai=>?_
  .rw[ph] at ai;replace ai:=nt ai;refine an ?_;exact aQ (by rw[l9,ab];exact(cF (f:=(λi=>decide ((ae v.aA i).aE.time<v.aE.time))) ah ai).symm)
  rw[ph] at ai;replace ai:=nf ai;refine aK λI a w U=>?_;exact U.ag (k+1) (⟨by omega,cT au ai⟩)
 refine zt ?_;refine an ?_;exact aQ (by rw[l9,ab];exact(cD au om).symm)
def xb (a b:al):
 Fn prog 197 [a.av,b.av] (AV.bool (c4 a b)):=by
 refine Fn.go 24 func197 ntmps197 (λW I a U=>?_);refine v7 λI a w U=>?_;refine U.q .T2 (.cl (r7 ..)) λU=>?_;refine oO ?_;rfl
def sa (l:List ay) (k:Nat):(!bW (ae l k).key||!cZ (ae l k).aE||(decide (0<(k:Int))&&!da (ae l ((k:Int)-1).toNat) (ae l k)))=!cA jF da l k:=by
 rw[<-jE];simp[jF]
def xc (l:List ay) (k:Nat):(!bW (ae l k).key||!cZ (ae l k).aE||(decide (0<(k:Int))&&(decide ((ae l k).key<(ae l ((k:Int)-1).toNat).key)||((ae l ((k:Int)-1).toNat).key==(ae l k).key&&!fO (ae l ((k:Int)-1).toNat).aE (ae l k).aE))))=!cA jF da l k:=by
 rw[<-sa];congr 2;generalize ae l ((k:Int)-1).toNat=p;generalize ae l k=q;simp only[da];rcases Int.lt_trichotomy p.key q.key with h|h|h
 .have h1:¬q.key<p.key:=by omega
  have h2:(p.key==q.key)=false:=by simp;omega
  simp[h,h1,h2]
 .simp[h]
 have h1:¬p.key<q.key:=by omega
 have h2:(p.key==q.key)=false:=by simp;omega
 simp[h,h1,h2]
def nu (l:List al):
 Fn prog 171 [bN l] (AV.bool (cJ l)):=by
 refine Fn.go 36 func171 ntmps171 (λW I a U=>?_);have hle:=U.cB (t:=0) rfl;refine bc λI a w U=>?_;refine cz (λab=>?_) λab=>?_
 .refine an ?_;exact aQ (by simp[cJ];omega)
 refine aq λI a w U=>?_;refine St.lo (σ:=Nat) (run 2 2 (run 29 7 [])) ⟨λk=>[(3,AV.int k)],λk=>[],λk=>k<=l.length/\∀i,i<k->(cA eo c4 l) i=true⟩ (λk=>l.length-k) 0 U ?ar ?aW;case ar=>exact⟨by simp,λi hi=>by omega⟩
 rintro k I a w ak U;obtain⟨hk,au⟩:=ak;refine bc λI a w U=>?_;refine cz (λah=>?_) λah=>?_
 .refine zt ?_;refine U.dk ?_;refine iu ?_;refine .o (.c1 (xa ..)) ?_;refine m6 ?_;refine .q .T2 (.cl (xb ..)) ?_;refine gE ?_;refine .nil ?_;intro I a w U;refine bM ?_;refine U.cd (λai=>?_) λai=>?_
  .rw[jE] at ai;replace ai:=nt ai;refine an ?_;exact aQ (by unfold cJ;rw[cF (f:=(cA eo c4 l)) ah ai];simp)
  rw[jE] at ai;replace ai:=nf ai;refine aK λI a w U=>?_;exact U.ag (k+1) (⟨by omega,cT au ai⟩)
 refine zt ?_;refine an ?_;exact aQ (by unfold cJ;rw[cD au om,Bool.and_true];simp;omega)
def sd (l:List ay):
 Fn prog 172 [cY l] (AV.bool (fg l)):=by
 refine Fn.go 66 func172 ntmps172 (λW I a U=>?_);have hle:=U.cB (t:=0) rfl;refine bc λI a w U=>?_;refine cz (λab=>?_) λab=>?_
 .refine an ?_;exact aQ (by simp[fg];omega)
 refine aq λI a w U=>?_;refine St.lo (σ:=Nat) (run 3 2 (run 58 8 [])) ⟨λk=>[(3,AV.int k)],λk=>[],λk=>k<=l.length/\∀i,i<k->(cA jF da l) i=true⟩ (λk=>l.length-k) 0 U ?ar ?aW;case ar=>exact⟨by simp,λi hi=>by omega⟩
 rintro k I a w ak U;obtain⟨hk,au⟩:=ak;refine bc λI a w U=>?_;refine cz (λah=>?_) λah=>?_
 .refine ax λI a w U=>?_;refine U.alloc rfl ep gY λb4 I a w U=>?_;refine aq λI a w U=>?_;obtain⟨I,U⟩:=U.fb 0 4;refine U.dk ?_;refine fj ?_;refine .o (.c1 (kS ..)) ?_;refine iu ?_;refine .q .F (.cl (np ..)) ?_;refine jK ?_;refine jK ?_;refine fj ?_;refine .q .T2 (.cl (r7 ..)) ?_;refine lR ?_;refine .nil ?_;intro I a w U;refine bM ?_;refine U.cd (λai=>?_) λai=>?_
  .rw[xc] at ai;replace ai:=nt ai;refine an ?_;exact aQ (by unfold fg;rw[cF (f:=(cA jF da l)) ah ai];simp)
  rw[xc] at ai;replace ai:=nf ai;refine aK λI a w U=>?_;have U:=U.drop 0;exact U.ag (k+1) (⟨by omega,cT au ai⟩)
 refine zt ?_;refine an ?_;exact aQ (by unfold fg;rw[cD au om,Bool.and_true];simp;omega)
def DQ (n:Int):
 Fn prog 297 [AV.int n] (AV.int (im n)):=by
 refine Fn.go 9 func297 ntmps297 (λW I a U=>?_);refine aL λI a w U=>?_;refine U.o (.c1 (kS ..)) λU=>?_;refine aq λI a w U=>?_;refine cz (λab=>?_) λab=>?_
 .refine an ?_;exact aT (by simp[im,ab])
 refine aV λI a w U=>?_;refine U.o (lu .tt .c (λ_=>by simp[bW,aI] at ab;omega)) λU=>?_;refine U.o (ob .tt .c (λ_=>by simp[bW,aI] at ab;omega)) λU=>?_;refine an ?_;exact aT (by simp[im,ab])
def ez {α:Type} [Inhabited α] {l:List α} {k:Nat} (h:k<l.length):ae l k∈l:=by
 unfold ae;rw[List.getD_eq_getElem?_getD,List.getElem?_eq_getElem h];exact List.getElem_mem _
def dI {α:Type} (p:α->Bool) (l:List α):Int:=match l.findIdx? p with
 |some k=>k
 |none=>-1
def jj {α:Type} [Inhabited α] {p:α->Bool} {l:List α} {k:Nat} (hk:k<l.length) (h:∀i,i<k->p (ae l i)=false) (hp:p (ae l k)=true):dI p l=k:=by
 have:l.findIdx? p=some k:=by
  rw[List.findIdx?_eq_some_iff_getElem];refine⟨hk,by simpa[ae,hk] using hp,λj hj=>?_⟩;have:=h j hj;have fN:j<l.length:=by omega
  simpa[ae,fN] using this
 unfold dI;rw[this]
def iE {α:Type} [Inhabited α] {p:α->Bool} {l:List α} {k:Nat} (hk:l.length<=k) (h:∀i,i<k->p (ae l i)=false):dI p l=-1:=by
 have:l.findIdx? p=none:=by
  rw[List.findIdx?_eq_none_iff];intro x hx;obtain⟨i,hi,rfl⟩:=List.getElem_of_mem hx;have:=h i om;simpa[ae,hi] using this
 unfold dI;rw[this]
def DR {α:Type} (p:α->Bool) (l:List α):dI p l<(l.length:Int)\/dI p l=-1:=by
 unfold dI;split
 .rename_i k h;have:=(List.findIdx?_eq_some_iff_getElem.1 h).1;left;omega
 right;rfl
def hasB {α:Type} (p:α->Bool) (l:List α):Bool:=decide (0<=dI p l)
def se {α:Type} [Inhabited α] {p:α->Bool} {l:List α} (h:0<=dI p l):∃k,k<l.length/\p (ae l k)=true:=by
 unfold dI at h;split at h
 .rename_i k hk;obtain⟨h1,h2,_⟩:=List.findIdx?_eq_some_iff_getElem.1 hk;exact⟨k,h1,by simpa[ae,h1] using h2⟩
 omega
def sf {α:Type} [Inhabited α] {p:α->Bool} {l:List α} (h:dI p l<0):∀k,k<l.length->p (ae l k)=false:=by
 unfold dI at h;split at h
 .omega
 rename_i hn;rw[List.findIdx?_eq_none_iff] at hn;intro k hk;have:=hn (ae l k) (by unfold ae;rw[List.getD_eq_getElem?_getD,List.getElem?_eq_getElem hk];exact List.getElem_mem _);exact this
def eX (d:ay) (v:al):Bool:=decide (v.cG=d)
def placeOf (l:List al) (d:ay):Int:=dI (eX d) l
def DS (l:List (Answer)) (p:(Answer)->Bool) (fv:AV) (hf:∀x:Answer,x∈l->ga prog fv [x.av] (AV.bool (p x))):
 Fn prog 256 [jC l,fv] (AV.int (dI p l)):=by
 refine Fn.go 19 func256 ntmps256 (λW I a U=>?_);have hle:=U.cB (t:=0) rfl;refine bc λI a w U=>?_;refine St.lo (σ:=Nat) (run 2 4 (run 11 8 [])) ⟨λk=>[(8,AV.int k)],λk=>[],λk=>k<=l.length/\∀i,i<k->p (ae l i)=false⟩ (λk=>l.length-k) 0 U ?ar ?aW;case ar=>exact⟨Nat.zero_le _,λi hi=>by omega⟩
 rintro k I a w ak U;obtain⟨hk,au⟩:=ak;refine aq λI a w U=>?_;refine cz (λab=>?_) λab=>?_
 .refine gX λI a w U=>?_;refine U.o (mL (hf _ (ez ab)) .tt (az .tt aP)) λU=>?_;refine zt ?_;refine U.cd (λah=>?_) λah=>?_
  .refine bQ ?_;exact aT (jj ab au ah).symm
  refine aH λI a w U=>?_;exact U.ag (k+1) (⟨ab,λi h1=>by rcases Nat.lt_succ_iff_lt_or_eq.1 h1 with h|h;exact au i h;rw[h];exact ah⟩)
 refine zt ?_;refine an ?_;exact aT (iE om au).symm
def jQ (s:Server) (key:Int):Int:=(ae s.cn (im key).toNat).iX
def nv {l:List al} (h:cJ l=true) {k:Nat} (hk:k<l.length):eo (ae l k)=true:=by
 unfold cJ at h;rw[Bool.and_eq_true,fF] at h;have:=h.2 k hk;unfold cA at this;rw[Bool.and_eq_true] at this;exact this.1
def sg {v:al} (h:eo v=true):bW v.key=true:=by
 simp only[eo,Bool.and_eq_true] at h;exact h.1.1.1.1.1.1
def xd {n:Int} (h:bW n=true):0<=im n/\im n<3:=by
 unfold im;simp only[h,if_true];simp[bW,aI] at h;omega
def DU (s:Server) (key:Int) (hk:bW key=true) (hl:s.cn.length=3):
 Fn prog 252 [s.av,AV.int key] (AV.bool (jQ s key !=0)):=by
 refine Fn.go 13 func252 ntmps252 (λW I a U=>?_);have hr:=xd hk;refine aH λI a w U=>?_;refine U.dk ?_;refine gE ?_;refine .o (.c1 (DQ ..)) ?_;refine lR ?_;refine .nil ?_;intro I a w U;refine zt ?_;refine U.rt ?_;rfl
def sh (d:ay):Bool:=bW d.key&&cZ d.aE
def xe:∀{l:List ay} {last:Int},eP last l=true->∀d∈l,last<d.key/\d.key<=5/\cZ d.aE=true
 |[],_,_,d,hd=>by simp at hd
 |e::r,last,h,d,hd=>by
  simp only[eP,Bool.and_eq_true,aI,decide_eq_true_eq] at h;rcases List.mem_cons.1 hd with rfl|hd
  .exact⟨by omega,h.1.1.2,h.1.2⟩
  have:=xe h.2 d hd;exact⟨by omega,this.2⟩
def kT {α:Type} [Inhabited α] {l:List α} {x:α} (h:x∈l):∃k,k<l.length/\ae l k=x:=by
 obtain⟨k,hk,rfl⟩:=List.getElem_of_mem h;exact⟨k,hk,by simp[ae,hk]⟩
def DV {l:List ay} (h:cP l=true) {d:ay} (hd:d∈l):sh d=true:=by
 have:=xe h d hd;simp[sh,bW,aI,this.2.2];omega
def xf:∀(l:List ay) (last:Int),eP last l=true->last<=5->(l.length:Int)<=5-last
 |[],last,_,h=>by simp;omega
 |d::r,last,h,hl=>by
  simp only[eP,Bool.and_eq_true,aI,decide_eq_true_eq] at h;have:=xf r d.key h.2 om;simp;omega
def si {l:List ay} (h:cP l=true):l.length<=6:=by
 have:=xf l (-1) h om;omega
def gu (a b:Int):Bool:=decide (a<b)
def gv (l:List Int):Bool:=bC l.length (cA bW gu l)
def gF (c:Call):Bool:=gv c.keys&&((c.kind==1&&((c.keys.length:Int)==1))||(c.kind==2&&aI c.keys.length 1 3))
def ma:al:=⟨0,⟨0,0⟩,0,0,0,[]⟩
def jR (v u:al):Bool:=decide (v=u)
def nw (a:Answer) (s:cy):Bool:=!a.yes||fO a.bs.aE s
def nx (key:Int) (a:Answer):Bool:=a.key==key
def dp (c:Call) (key:Int):Int:=dI (nx key) c.aG
def jS (key:Int) (n:Int):Bool:=n==key
def gG (l:List Int) (key:Int):Bool:=hasB (jS key) l
def kU (a:Answer):Bool:=if a.yes then eo a.bs&&(a.bs.key==a.key) else jR a.bs ma
def kV (a b:Answer):Bool:=decide (a.key<b.key)
def g8 (c:Call) (i:Nat):Bool:=cA (λa=>gG c.keys a.key) kV c.aG i&&kU (ae c.aG i)
def jk (c:Call) (i:Nat):Bool:=decide (0<=dp c (ae c.aR i).key)&&nw (ae c.aG (dp c (ae c.aR i).key).toNat) (ae c.aR i).aE
def pk (c:Call):Bool:=(c.aG.length:Int)==c.keys.length
def g9 (c:Call):Bool:=bC c.aG.length (g8 c)
def iF (c:Call):Bool:=g9 c&&bC c.aR.length (jk c)&&(((c.aR.length:Int)==0)||pk c)
def hF (c:Call) (time:Int):Bool:=fE c.bl&&aI c.num 1 99&&gF c&&aI c.val 0 9999&&cP c.ctx&&cP c.aR&&aI c.cO 1 time&&jD c.aE&&iF c
def pn (c:Call):Bool:=!((c.kind==1&&decide (0<(c.aG.length:Int)+c.aR.length))||(!(c.kind==1)&&((c.val !=0)||!en c.aE)))
def ny (c:Call) (time:Int):Bool:=if c.end_=0 then en c.aE else !(c.over||!aI c.end_ (c.cO+1) time||decide (0<(c.aR.length:Int)))&&((c.kind==1&&!en c.aE)||(!(c.kind==1)&&pk c))
def eK (c:Call) (time:Int):Bool:=hF c time&&pn c&&ny c time
def xg (l:List Int) (k:Nat):(!bW (ae l k)||(decide (0<(k:Int))&&decide (ae l k<=ae l ((k:Int)-1).toNat)))=!cA bW gu l k:=by
 rw[<-jE];have e:decide (ae l k<=ae l ((k:Int)-1).toNat)=!gu (ae l ((k:Int)-1).toNat) (ae l k):=by rw[Bool.eq_iff_iff];simp[gu]
 rw[e]
def sj (c:Call) (k:Nat):(!gG c.keys (ae c.aG k).key||(decide (0<(k:Int))&&decide ((ae c.aG k).key<=(ae c.aG ((k:Int)-1).toNat).key)))=!cA (λa=>gG c.keys a.key) kV c.aG k:=by
 rw[<-jE];have e:decide ((ae c.aG k).key<=(ae c.aG ((k:Int)-1).toNat).key)=!kV (ae c.aG ((k:Int)-1).toNat) (ae c.aG k):=by rw[Bool.eq_iff_iff];simp[kV]
 rw[e]
def kW (a:Answer):Bool:=if a.yes then eo a.bs&&(a.bs.key==a.key) else bW a.key&&jR a.bs ma
def jT (c:Call) (i:Nat):Bool:=kW (ae c.aG i)&&cA (λa=>gG c.keys a.key) kV c.aG i
def jU (c:Call) (i:Nat):Bool:=decide (0<=dp c (ae c.aR i).key)&&fO (ae c.aG (dp c (ae c.aR i).key).toNat).bs.aE (ae c.aR i).aE
def xh {α:Type} [Inhabited α] {p:α->Bool} {l:List α} (h:hasB p l=true):∃x∈l,p x=true:=by
 simp only[hasB,decide_eq_true_eq] at h;obtain⟨k,hk,hp⟩:=se h;exact⟨_,ez hk,hp⟩
def sk {α:Type} [Inhabited α] {p:α->Bool} {l:List α} {x:α} (h:x∈l) (hp:p x=true):hasB p l=true:=by
 simp only[hasB,decide_eq_true_eq];rcases Int.lt_or_le (dI p l) 0 with hn|hn
 .obtain⟨k,hk,rfl⟩:=kT h;rw[sf hn k hk] at hp;cases hp
 exact hn
def xi {l:List Int} {n:Int}:gG l n=true↔n∈l:=by
 constructor
 .intro h;obtain⟨x,hx,he⟩:=xh h;simp[jS] at he;exact he▸hx
 exactλh=>sk h (by simp[jS])
def DW {l:List Int} (h:gv l=true) {n:Int} (hn:n∈l):bW n=true:=by
 obtain⟨k,hk,rfl⟩:=kT hn;have:=(fF.1 h) k hk;unfold cA at this;rw[Bool.and_eq_true] at this;exact this.1
def DX {c:Call} (h:gv c.keys=true) (i:Nat):jT c i=g8 c i:=by
 unfold jT g8;cases h1:cA (λa=>gG c.keys a.key) kV c.aG i
 .simp
 have h2:gG c.keys (ae c.aG i).key=true:=by unfold cA at h1;rw[Bool.and_eq_true] at h1;exact h1.1
 have:=DW h (xi.1 h2);unfold kW kU;cases(ae c.aG i).yes<;>simp[this]
def xj {c:Call} (h:g9 c=true) {i:Nat} (hi:i<c.aG.length):kU (ae c.aG i)=true/\gG c.keys (ae c.aG i).key=true:=by
 have:=(fF.1 h) i hi;unfold g8 cA at this;simp only[Bool.and_eq_true] at this;exact⟨this.2,this.1.1⟩
def kY {c:Call} {key:Int} (h:0<=dp c key):(dp c key).toNat<c.aG.length:=by
 have:=DR (nx key) c.aG;unfold dp at*;omega
def xk {s:cy} (h:cZ s=true):1<=s.time:=by simp[cZ,aI] at h;omega
def DY:cy:=⟨0,0⟩
def DZ {s:cy} (h:1<=s.time):fO DY s=true:=by
 obtain⟨t,u⟩:=s;have h:(1:Int)<=t:=h;have e:decide ((0:Int)<t)=true:=decide_eq_true om;show(decide ((0:Int)<t)||_)=true;rw[e];rfl
def D0 {a:Answer} {s:cy} (h:kU a=true) (U:cZ s=true):nw a s=fO a.bs.aE s:=by
 unfold kU at h;unfold nw;cases hy:a.yes
 .rw[hy] at h;simp[jR] at h;have:=xk U;rw[h,show fO ma.aE s=true from DZ this];rfl
 simp
def D1 {c:Call} (h:g9 c=true) (hd:cP c.aR=true) {i:Nat} (hi:i<c.aR.length):jU c i=jk c i:=by
 unfold jU jk;by_cases hg:0<=dp c (ae c.aR i).key
 .have h2:=DV hd (ez hi);simp only[sh,Bool.and_eq_true] at h2;rw[D0 (xj h (kY hg)).1 h2.2]
 simp[hg]
def sl {f:Answer->Int}:∀{ks:List Int} {l:List Answer},ks.Pairwise (·<·)->(l.map f).Pairwise (·<·)->(∀a∈l,f a∈ks)->l.length<=ks.length
 |[],[],_,_,_=>Nat.le_refl _
 |[],a::l,_,_,h=>by have:=h a aJ;simp at this
 |y::ks,[],_,_,_=>by simp
 |y::ks,a::l,hk,hl,h=>by
  rw[List.pairwise_cons] at hk;rw[List.map_cons,List.pairwise_cons] at hl;by_cases xl:f a=y
  .have:l.length<=ks.length:=sl hk.2 hl.2 λb hb=>by
    have h1:=h b (by simp[hb]);have h2:=hl.1 (f b) (List.mem_map.2 ⟨b,hb,rfl⟩);rcases List.mem_cons.1 h1 with h3|h3
    .omega
    exact h3
   simp;omega
  have wN:y<f a:=by
   rcases List.mem_cons.1 (h a aJ) with h3|h3
   .exact absurd h3 xl
   exact hk.1 _ h3
  have:(a::l).length<=ks.length:=sl hk.2 (by rw[List.map_cons,List.pairwise_cons];exact hl) λb hb=>by
   have h1:=h b hb;rcases List.mem_cons.1 h1 with h3|h3
   .rcases List.mem_cons.1 hb with rfl|hb
    .exact absurd h3 xl
    have h2:=hl.1 (f b) (List.mem_map.2 ⟨b,hb,rfl⟩);omega
   exact h3
  simp at this⊢;omega
def xm {α:Type} [Inhabited α] {f:α->Int} {l:List α} (h:∀i,0<i->i<l.length->f (ae l (i-1))<f (ae l i)):(l.map f).Pairwise (·<·):=by
 rw[List.pairwise_iff_getElem];intro i j hi hj fL;simp only[List.length_map] at hi hj;simp only[List.getElem_map];have e:∀k (hk:k<l.length),l[k]=ae l k:=λk hk=>by simp[ae,hk]
 rw[e i hi,e j hj];obtain⟨n,rfl⟩:∃n,j=i+1+n:=⟨j-(i+1),by omega⟩;clear fL;induction n with
 |zero=>have:=h (i+1) om hj;simpa using this
 |succ n ih=>
  have h1:=ih om
  have h2:=h (i+1+(n+1)) om hj
  rw[show i+1+(n+1)-1=i+1+n from by omega] at h2
  omega
def D2 {l:List Int} (h:gv l=true):l.Pairwise (·<·):=by
 have:=xm (f:=λn:Int=>n) (l:=l) λi h0 hi=>by
  have:=(fF.1 h) i hi;unfold cA at this;simp[gu] at this;have h1:=this.2;omega
 simpa using this
def xn {c:Call} (hk:gv c.keys=true) (h:g9 c=true):c.aG.length<=c.keys.length:=
 sl (f:=Answer.key) (D2 hk) (xm λi h0 hi=>by
  have:=(fF.1 h) i hi;unfold g8 cA at this;simp[kV] at this;have h1:=this.1.2;omega) λa ha=>by
  obtain⟨k,cX,rfl⟩:=kT ha;exact xi.1 (xj h cX).2
def k0 (c:Call):Bool:=!(decide ((c.keys.length:Int)<1)||decide (3<(c.keys.length:Int))||((c.kind==1)&&((c.keys.length:Int) !=1)))&&gv c.keys
def xo (c:Call):(aI c.kind 1 2&&k0 c)=gF c:=by
 unfold k0 gF;cases gv c.keys
 .simp
 rw[Bool.eq_iff_iff];simp[aI];omega
def hG (c:Call) (time:Int):Bool:=!(!aI c.bl 0 1||!aI c.num 1 99||!aI c.kind 1 2||!k0 c||!aI c.val 0 9999||!cP c.ctx||!cP c.aR||!aI c.cO 1 time)
def mb (c:Call):Bool:=!(((c.kind==1)&&decide (0<(c.aG.length:Int)+c.aR.length))||((c.kind==2)&&(decide (0<c.val)||!en c.aE))||!jD c.aE||decide ((c.keys.length:Int)<c.aG.length))
def po (c:Call):Bool:=!(decide (0<(c.aR.length:Int))&&decide ((c.aG.length:Int)<c.keys.length))
def pq (c:Call) (time:Int):Bool:=if c.end_=0 then en c.aE else !c.over&&aI c.end_ (c.cO+1) time&&((c.aR.length:Int)==0)&&(((c.kind==1)&&cZ c.aE)||((c.kind==2)&&((c.aG.length:Int)==c.keys.length)))
def D3 (n:Nat):decide (0<(n:Int))=!decide (n=0):=by
 rw[Bool.eq_iff_iff];simp;omega
def D4 (n m:Nat):decide (0<(n:Int)+m)=!(decide (n=0)&&decide (m=0)):=by
 rw[Bool.eq_iff_iff];simp;omega
def xp (n m:Nat):((n:Int)==m)=decide (n=m):=by
 rw[Bool.eq_iff_iff];simp;omega
def D5 (n:Nat):((n:Int)==0)=decide (n=0):=by
 rw[Bool.eq_iff_iff];simp
def D6 {n m:Nat} (h:n<=m):decide ((n:Int)<m)=!decide (n=m):=by
 rw[Bool.eq_iff_iff];simp;omega
def k6 (c:Call) (time:Int):eK c time=(hG c time&&mb c&&bC c.aG.length (jT c)&&po c&&bC c.aR.length (jU c)&&pq c time):=by
 have e0:aI c.bl 0 1=fE c.bl:=rfl;cases dz:gF c
 .have h1:eK c time=false:=by simp[eK,hF,dz]
  have h2:hG c time=false:=by
   rw[<-xo] at dz;unfold hG;cases h3:aI c.kind 1 2
   .simp
   rw[h3,Bool.true_and] at dz;rw[dz];simp
  rw[h1,h2];simp
 have pr:gv c.keys=true:=by unfold gF at dz;rw[Bool.and_eq_true] at dz;exact dz.1
 have fq:=dz;rw[<-xo,Bool.and_eq_true] at fq;have xq:c.kind=1\/c.kind=2:=by have:=fq.1;simp[aI] at this;omega
 have e1:bC c.aG.length (jT c)=g9 c:=mT rfl λi _=>DX pr i;rw[e1];cases hg:g9 c
 .simp[eK,hF,iF,hg]
 have hle:=xn pr hg;cases c8:cP c.aR
 .simp[eK,hF,hG,c8]
 have e2:bC c.aR.length (jU c)=bC c.aR.length (jk c):=mT rfl λi hi=>D1 hg c8 hi;rw[e2];unfold eK hF iF pn ny hG mb po pq;rw[e0,dz,fq.1,fq.2,hg,c8];generalize fE c.bl=b1;generalize aI c.num 1 99=b2;generalize cP c.ctx=b4;generalize aI c.cO 1 time=b5;generalize bC c.aR.length (jk c)=b6;generalize aI c.end_ (c.cO+1) time=b7;have e3:(decide (0<c.val)&&aI c.val 0 9999)=((c.val !=0)&&aI c.val 0 9999):=by
  rw[Bool.eq_iff_iff];simp[aI];omega
 have e4:pk c=decide (c.aG.length=c.keys.length):=xp _ _;have e5:((c.aR.length:Int)==0)=decide (c.aR.length=0):=D5 _;have e6:decide (0<(c.aR.length:Int))=!decide (c.aR.length=0):=D3 _;have e7:decide ((c.aG.length:Int)<c.keys.length)=!decide (c.aG.length=c.keys.length):=D6 hle;have e8:decide ((c.keys.length:Int)<c.aG.length)=false:=by simp;omega
 have e9:((c.aG.length:Int)==c.keys.length)=decide (c.aG.length=c.keys.length):=xp _ _;have D7:decide (0<(c.aG.length:Int)+c.aR.length)=!(decide (c.aG.length=0)&&decide (c.aR.length=0)):=D4 _ _;rw[e4,e5,e6,e7,e8,e9,D7];have D8:jD c.aE=(en c.aE||cZ c.aE):=rfl;rw[D8];cases hv:aI c.val 0 9999
 .simp
 rw[hv,Bool.and_true,Bool.and_true] at e3;rw[e3];generalize decide (c.aG.length=c.keys.length)=b9;generalize decide (c.aG.length=0)=jl;generalize decide (c.aR.length=0)=k7;generalize (c.val !=0)=pt;generalize c.over=xr;by_cases hn:en c.aE=true
 .have U:cZ c.aE=false:=by
   cases U:cZ c.aE
   .rfl
   have:=xk U;simp[en] at hn;omega
  rw[hn,U];rcases xq with hh|hh<;>rw[hh]<;>by_cases he:c.end_=0<;>simp[he]<;>revert b1 b2 b4 b5 b6 b7 b9 jl k7 pt xr<;>decide
 simp only[Bool.not_eq_true] at hn;rw[hn];generalize cZ c.aE=so;rcases xq with hh|hh<;>rw[hh]<;>by_cases he:c.end_=0<;>simp[he]<;>revert b1 b2 b4 b5 b6 b7 b9 jl k7 pt so xr<;>decide
def xt:∀(l:List ay) (last:Int),eP last l=true->last<=5->(l.length:Int)<=5-last
 |[],last,_,h=>by simp;omega
 |d::r,last,h,hl=>by
  simp only[eP,Bool.and_eq_true,aI,decide_eq_true_eq] at h;have:=xt r d.key h.2 om;simp;omega
def D9 {l:List ay} (h:cP l=true):l.length<=6:=by
 have:=xt l (-1) h om;omega
def Ea {v:al} (h:eo v=true):v.aA.length<=6:=by
 simp only[eo,Bool.and_eq_true] at h;exact D9 h.1.2
def gH (l:List al) (d:ay):Option al:=if cJ l=true/\0<=placeOf l d then some (ae l (placeOf l d).toNat) else none
def pw (key:Int) (st:cy) (v:al):((v.key==key)&&([v.aE.time,v.aE.site]==[st.time,st.site]))=eX ⟨key,st⟩ v:=by
 obtain⟨t,s⟩:=st;obtain⟨vk,⟨vt,vs⟩,_,_,_,_⟩:=v;rw[Bool.eq_iff_iff];simp[eX,al.cG]
def Eb {l:List al} {d:ay} {k:Nat} (hc:cJ l=true) (hk:k<l.length) (h:∀i,i<k->eX d (ae l i)=false) (hp:eX d (ae l k)=true):gH l d=some (ae l k):=by
 have e:placeOf l d=k:=jj hk h hp;unfold gH;rw[e,if_pos ⟨hc,by omega⟩];rfl
def Ec {l:List al} {d:ay} {k:Nat} (hk:l.length<=k) (h:∀i,i<k->eX d (ae l i)=false):gH l d=none:=by
 have e:placeOf l d=-1:=iE hk h;unfold gH;rw[e,if_neg om]
def Ed {l:List al} {d:ay} (h:cJ l=false):gH l d=none:=by
 unfold gH;rw[if_neg (by rw[h];simp)]
def nz (v:al) (h:v.aA.length<=1048576):
 Fn prog 198 [v.av] (v.av):=by
 refine Fn.go 9 func198 ntmps198 (λW I a U=>?_);refine sr<|U.box rfl .tt λb1 I a w U=>U.alloc rfl bK dP λb2 I a w U=>?_;refine zt ?_;refine U.l0 λb3 I a w U=>?_;refine aL λI a w U=>?_;refine U.ap 2 λv6 a w U=>?_;obtain⟨I,U⟩:=U.fr 2 6;refine bc λI a w U=>?_;refine U.ret rfl (.cons (.sx 1) cC.nil) ?_;rfl
def xu (l:List al) (key:Int) (st:cy):
 Fn prog 174 [bN l,AV.int key,st.av] (AV.mo [((gH l ⟨key,st⟩).getD default).av,AV.bool (gH l ⟨key,st⟩).isSome]):=by
 refine Fn.go 41 func174 ntmps174 (λW I a U=>?_);have hle:=U.cB (t:=0) rfl;refine aV λI a w U=>?_;refine U.alloc rfl bK dP λb6 I a w U=>?_;refine aL λI a w U=>?_;refine U.o (.cl (nu ..)) λU=>?_;refine aq λI a w U=>?_;refine U.cd (λab=>?_) λab=>?_
 .replace ab:=nt ab;refine zt ?_;refine U.o (.bd dP bU.nil) λU=>?_;refine aH λI a w U=>?_;refine U.ret rfl (.cons (.sx 0) (.cons (.t rfl) cC.nil)) ?_;exact(by rw[Ed ab];rfl)
 replace ab:=nf ab;refine aq λI a w U=>?_;refine St.lo (σ:=Nat) (run 2 7 (run 27 13 [])) ⟨λk=>[(8,AV.int k)],λk=>[Own.box b6 54 [AV.val (.int .i64 0),AV.val (.int .i64 0),AV.val (.int .i64 0),AV.val (.int .i64 0),AV.val (.int .i64 0),AV.val (.int .i64 0),AV.rows 3 []]],λk=>k<=l.length/\∀i,i<k->eX ⟨key,st⟩ (ae l i)=false⟩ (λk=>l.length-k) 0 U ?ar ?aW;case ar=>exact⟨Nat.zero_le _,λi hi=>by omega⟩
 rintro k I a w ak U;obtain⟨hk,au⟩:=ak;refine bc λI a w U=>?_;refine cz (λah=>?_) λah=>?_
 .refine zt ?_;refine U.dk ?_;refine m6 ?_;refine .q .T (ki [_,_] [_,_] jM rfl rfl .ag .ag) ?_;refine c6 ?_;refine .nil ?_;intro I a w U;refine bM ?_;refine U.cd (λai=>?_) λai=>?_
  .rw[pw] at ai;refine ax λI a w U=>?_;refine U.o (fA (nz _ (by have:=Ea (nv ab ah);omega)) (az (.t rfl) aP)) λU=>?_;refine aH λI a w U=>?_;refine U.ret rfl (.cons (.sx 0) (.cons (.t rfl) cC.nil)) ?_;exact(by rw[Eb ab ah au ai];rfl)
  rw[pw] at ai;refine aK λI a w U=>?_;exact U.ag (k+1) (⟨ah,λi h1=>by rcases Nat.lt_succ_iff_lt_or_eq.1 h1 with h|h;exact au i h;rw[h];exact ai⟩)
 refine zt ?_;refine U.o (.bd dP bU.nil) λU=>?_;refine aH λI a w U=>?_;refine U.ret rfl (.cons (.sx 0) (.cons (.t rfl) cC.nil)) ?_;exact(by rw[Ec om au];rfl)
def Ee (l:List Int) (key:Int):
 Fn prog 248 [iZ l,AV.int key] (AV.bool (gG l key)):=by
 refine Fn.go 18 func248 ntmps248 (λW I a U=>?_);have hle:=U.cB (t:=0) rfl;refine aH λI a w U=>?_;refine St.lo (σ:=Nat) (run 14 4 []) ⟨λk=>[(5,AV.int k)],λk=>[],λk=>k<=l.length/\∀i,i<k->jS key (ae l i)=false⟩ (λk=>l.length-k) 0 U ?ar ?aW;case ar=>exact⟨Nat.zero_le _,λi hi=>by omega⟩
 rintro k I a w ak U;obtain⟨hk,au⟩:=ak;refine bc λI a w U=>?_;refine cz (λab=>?_) λab=>?_
 .refine fQ λI a w U=>?_;refine U.cd (λah=>?_) λah=>?_
  .refine an ?_;exact aQ (sk (ez ab) ah).symm
  refine aK λI a w U=>?_;exact U.ag (k+1) (⟨by omega,λi h1=>by rcases Nat.lt_succ_iff_lt_or_eq.1 h1 with h|h;exact au i h;rw[h];exact ah⟩)
 refine zt ?_;refine an ?_;exact aQ (by unfold gG hasB;rw[iE om au];rfl)
def Ef (q:Call) (key:Int):
 Fn prog 249 [q.av,AV.int key] (AV.int (dp q key)):=by
 refine Fn.go 22 func249 ntmps249 (λW I a U=>?_);have lens:q.keys.length<=9223372036854775807/\q.aG.length<=9223372036854775807/\q.aR.length<=9223372036854775807:=⟨U.ln 0 3,U.ln 0 11,U.ln 0 12⟩;refine aK λI a w U=>?_;refine St.lo (σ:=Nat) (run 18 4 []) ⟨λk=>[(5,AV.int k)],λk=>[],λk=>k<=q.aG.length/\∀i,i<k->nx key (ae q.aG i)=false⟩ (λk=>q.aG.length-k) 0 U ?ar ?aW;case ar=>exact⟨Nat.zero_le _,λi hi=>by omega⟩
 rintro k I a w ak U;obtain⟨hk,au⟩:=ak;refine cK λI a w U=>?_;refine cz (λab=>?_) λab=>?_
 .refine db λI a w U=>?_;refine U.cd (λah=>?_) λah=>?_
  .refine bQ ?_;exact aT (jj ab au ah).symm
  refine aK λI a w U=>?_;exact U.ag (k+1) (⟨by omega,λi h1=>by rcases Nat.lt_succ_iff_lt_or_eq.1 h1 with h|h;exact au i h;rw[h];exact ah⟩)
 refine zt ?_;refine an ?_;exact aT (iE om au).symm
def jV (u v:al):Bool:=!((u.key !=v.key)||([u.aE.time,u.aE.site] !=[v.aE.time,v.aE.site])||(u.val !=v.val)||(u.bl !=v.bl)||(u.call !=v.call)||((u.aA.length:Int) !=v.aA.length))
def px (u v:al) (i:Nat):Bool:=decide (ae u.aA i=ae v.aA i)
def Eg {α:Type} [Inhabited α] {l m:List α} (h:l.length=m.length) (he:∀i,i<l.length->ae l i=ae m i):l=m:=by
 apply List.ext_getElem h;intro i h1 h2;have:=he i h1;simpa[ae,h1,h2] using this
def sq (u v:al):jR u v=(jV u v&&bC u.aA.length (px u v)):=by
 rw[Bool.eq_iff_iff,Bool.and_eq_true,fF];obtain⟨a1,⟨a2,a3⟩,a4,a5,a6,a7⟩:=u;obtain⟨b1,⟨b2,b3⟩,b4,b5,b6,b7⟩:=v;simp only[jR,jV,px,decide_eq_true_eq];constructor
 .intro h;simp at h;obtain⟨rfl,⟨rfl,rfl⟩,rfl,rfl,rfl,rfl⟩:=h;simp
 rintro⟨h1,h2⟩;simp at h1 h2;have:a7=b7:=Eg om h2;simp[this];omega
def xv (d e:ay):([d.key,d.aE.time,d.aE.site] !=[e.key,e.aE.time,e.aE.site])=!decide (d=e):=by
 obtain⟨k,⟨t,s⟩⟩:=d;obtain⟨k',⟨t',s'⟩⟩:=e;rw[Bool.eq_iff_iff];simp;omega
def xw (s:cy):([s.time,s.site] !=[0,0])=!en s:=by
 rw[Bool.eq_iff_iff];simp[en];omega
def xx (s:cy):([s.time,s.site]==[0,0])=en s:=by
 rw[Bool.eq_iff_iff];simp[en]
def xy (q:Call) (k:Nat):(!kW (ae q.aG k)||!gG q.keys (ae q.aG k).key||(decide (0<(k:Int))&&decide ((ae q.aG k).key<=(ae q.aG ((k:Int)-1).toNat).key)))=!jT q k:=by
 unfold jT;rw[Bool.or_assoc,sj];simp
def xz (q:Call) (k:Nat):(decide (dp q (ae q.aR k).key<0)||!fO (ae q.aG (dp q (ae q.aR k).key).toNat).bs.aE (ae q.aR k).aE)=!jU q k:=by
 unfold jU;have e:decide (dp q (ae q.aR k).key<0)=!decide (0<=dp q (ae q.aR k).key):=by rw[Bool.eq_iff_iff];simp
 rw[e];simp
def Eh (x:Answer) (h:x.yes=false):(bW x.key&&(x.bs.key==0)&&(x.bs.val==0)&&(x.bs.bl==0)&&(x.bs.call==0)&&en x.bs.aE&&((x.bs.aA.length:Int)==0))=kW x:=by
 unfold kW;rw[h];obtain⟨k,y,⟨vk,⟨t,s⟩,vv,vc,vl,vd⟩⟩:=x;simp only[jR,ma,en];rw[Bool.eq_iff_iff];simp;constructor
 .rintro⟨⟨⟨⟨⟨⟨h1,h2⟩,h3⟩,h4⟩,h5⟩,h6⟩,h7⟩;exact⟨h1,h2,h6,h3,h4,h5,h7⟩
 rintro⟨h1,h2,h6,h3,h4,h5,h7⟩;exact⟨⟨⟨⟨⟨⟨h1,h2⟩,h3⟩,h4⟩,h5⟩,h6⟩,h7⟩
def ss {u v:al} (h:jV u v=true):u.aA.length=v.aA.length:=by
 simp only[jV,Bool.not_eq_true',Bool.or_eq_false_iff] at h;have:=h.2;simp at this;omega
def Ei (u v:al):
 Fn prog 62 [u.av,v.av] (AV.bool (jR u v)):=by
 refine Fn.go 65 func62 ntmps62 (λW I a U=>?_);have lens:u.aA.length<=9223372036854775807/\v.aA.length<=9223372036854775807:=by
  obtain⟨cs,_,hc⟩:=U.env 0 _ rfl;obtain⟨u1,_,h1,_⟩:=hc.get (i:=6) rfl;obtain⟨DA,_,mH⟩:=U.env 1 _ rfl;obtain⟨u2,_,h2,_⟩:=mH.get (i:=6) rfl;exact⟨mO h1,mO h2⟩
 refine vZ λI a w U=>?_;refine U.q .F (qz [_,_] [_,_] jM rfl rfl .ag .ag) λU=>?_;refine B2 λI a w U=>?_;refine U.cd (λab=>?_) λab=>?_
 .replace ab:jV u v=false:=by unfold jV;rw[ab];rfl
  refine an ?_;exact aQ (by rw[sq,ab];rfl)
 replace ab:jV u v=true:=by unfold jV;rw[ab];rfl
 refine bc λI a w U=>?_;refine St.lo (σ:=Nat) (run 3 4 (run 13 52 [])) ⟨λk=>[(52,AV.int k)],λk=>[],λk=>k<=u.aA.length/\∀i,i<k->(px u v) i=true⟩ (λk=>u.aA.length-k) 0 U ?ar ?aW;case ar=>exact⟨Nat.zero_le _,λi hi=>by omega⟩
 rintro k I a w ak U;obtain⟨jW,au⟩:=ak;refine aq λI a w U=>?_;refine cz (λah=>?_) λah=>?_
 .refine aN λI a w U=>?_;refine U.alloc rfl ep gY λb6 I a w U=>?_;refine aH λI a w U=>?_;obtain⟨I,U⟩:=U.fb 0 6;refine U.dk ?_;refine iu ?_;refine .o ((by first|exact ij iw ep .tt .tt (λ_=>by have:=ss ab;omega)|exact gR iw ep .tt .tt (λ_=>by have:=ss ab;omega)|exact hP iw ep .tt .tt (λ_=>by have:=ss ab;omega))) ?_;refine c6 ?_;refine .o (qz [_,_,_] [_,_,_] wc rfl rfl .tt .tt)<|.nil ?_;intro I a w U;refine bM ?_;refine U.cd (λai=>?_) λai=>?_
  .rw[xv] at ai;replace ai:=nt ai;refine an ?_;exact aQ (by rw[sq,cF (f:=px u v) ah ai];simp)
  rw[xv] at ai;replace ai:=nf ai;refine aH λI a w U=>?_;have U:=U.drop 0;exact U.ag (k+1) (⟨by omega,cT au ai⟩)
 refine zt ?_;refine an ?_;exact aQ (by rw[sq,ab,cD au om];rfl)
def Ej (q:Call):
 Fn prog 246 [q.av] (AV.bool (k0 q)):=by
 refine Fn.go 57 func246 ntmps246 (λW I a U=>?_);have lens:q.keys.length<=9223372036854775807/\q.aG.length<=9223372036854775807/\q.aR.length<=9223372036854775807:=⟨U.ln 0 3,U.ln 0 11,U.ln 0 12⟩;refine ru λI a w U=>?_;refine U.cd (λab=>?_) λab=>?_
 .refine an ?_;exact aQ (by unfold k0;rw[ab];rfl)
 refine aq λI a w U=>?_;refine St.lo (σ:=Nat) (run 2 2 (run 32 25 [])) ⟨λk=>[(3,AV.int k)],λk=>[],λk=>k<=q.keys.length/\∀i,i<k->(cA bW gu q.keys) i=true⟩ (λk=>q.keys.length-k) 0 U ?ar ?aW;case ar=>exact⟨Nat.zero_le _,λi hi=>by omega⟩
 rintro k I a w ak U;obtain⟨jW,au⟩:=ak;refine cK λI a w U=>?_;refine cz (λah=>?_) λah=>?_
 .refine zt ?_;refine U.dk ?_;refine lR ?_;refine .o (.c1 (kS ..)) ?_;refine jK ?_;refine gE ?_;refine .nil ?_;intro I a w U;refine bM ?_;refine U.cd (λai=>?_) λai=>?_
  .rw[xg] at ai;replace ai:=nt ai;refine an ?_;exact aQ (by unfold k0 gv;rw[cF (f:=cA bW gu q.keys) ah ai];simp)
  rw[xg] at ai;replace ai:=nf ai;refine aK λI a w U=>?_;exact U.ag (k+1) (⟨by omega,cT au ai⟩)
 refine zt ?_;refine an ?_;exact aQ (by unfold k0 gv;rw[ab,cD au om];rfl)
def Ek (x:Answer):
 Fn prog 247 [x.av] (AV.bool (kW x)):=by
 refine Fn.go 55 func247 ntmps247 (λW I a U=>?_);refine cK λI a w U=>?_;refine cz (λab=>?_) λab=>?_
 .refine aL λI a w U=>?_;refine U.alloc rfl bK dP λb3 I a w U=>?_;refine aq λI a w U=>?_;obtain⟨I,U⟩:=U.fb 0 3;refine aL λI a w U=>?_;refine U.o (.c1 (kS ..)) λU=>?_;refine BU λI a w U=>?_;refine U.q .T (.bd kH bU.nil) λU=>?_;refine U.q .T (ki [_,_] [_,_] jM rfl rfl .ag .ag) λU=>?_;refine db λI a w U=>?_;refine U.rt ?_;exact aQ (by rw[<-Eh x ab,<-xx])
 refine aL λI a w U=>?_;refine U.o (.c1 (xa ..)) λU=>?_;refine lQ λI a w U=>?_;refine U.rt ?_;exact aQ (by unfold kW;rw[ab];rfl)
def xA {q:Call} {time:Int} (h:hG q time=true):1<=q.cO/\q.cO<=time/\q.aR.length<=6:=by
 simp only[hG,Bool.not_eq_true',Bool.or_eq_false_iff] at h;have h1:=h.2;have h2:=h.1.2;simp at h2;have:=si h2;simp[aI] at h1;omega
def xB (q:Call):(decide (0<(q.aR.length:Int))&&decide ((q.aG.length:Int)<q.keys.length))=!po q:=by simp[po]
def El (q:Call) (time:Int) (ht:time<=4611686018427387904) (mc:q.aG.length<=1048576):
 Fn prog 169 [q.av,AV.int time] (AV.bool (eK q time)):=by
 refine Fn.go 240 func169 ntmps169 (λW I a U=>?_);have lens:q.keys.length<=9223372036854775807/\q.aG.length<=9223372036854775807/\q.aR.length<=9223372036854775807:=⟨U.ln 0 3,U.ln 0 11,U.ln 0 12⟩;refine ax λI a w U=>?_;refine U.o (.cl (dH ..)) λU=>?_;refine ax λI a w U=>?_;refine U.q .F (.cl (dH ..)) λU=>?_;refine bJ λI a w U=>?_;refine U.q .F (.cl (dH ..)) λU=>?_;refine ax λI a w U=>?_;refine U.q .F (.cl (Ej ..)) λU=>?_;refine bJ λI a w U=>?_;refine U.q .F (.cl (dH ..)) λU=>?_;refine bJ λI a w U=>?_;refine U.q .F (.cl (nr ..)) λU=>?_;refine bJ λI a w U=>?_;refine U.q .F (.cl (nr ..)) λU=>?_;refine fH λI a w U=>?_;refine U.q .F (.cl (dH ..)) λU=>?_;refine aH λI a w U=>?_;refine U.cd (λab=>?_) λab=>?_
 .replace ab:hG q time=false:=by unfold hG;rw[ab];rfl
  refine an ?_;exact aQ (by rw[k6];rw[ab];rfl)
 replace ab:hG q time=true:=by unfold hG;rw[ab];rfl
 refine lO λI a w U=>?_;refine U.q .T (ba .ag .ag (λhg=>by have:=xA ab;omega)) λU=>?_;refine vZ λI a w U=>?_;refine U.q .F2 (.bd kH bU.nil) λU=>?_;refine U.q .F2 (qz [_,_] [_,_] jM rfl rfl .ag .ag) λU=>?_;refine fH λI a w U=>?_;refine U.q .F (.cl (w5 ..)) λU=>?_;refine v8 λI a w U=>?_;refine U.cd (λah=>?_) λah=>?_
 .rw[xw] at ah;replace ah:mb q=false:=by unfold mb;rw[ah];rfl
  refine an ?_;exact aQ (by rw[k6];rw[ab,ah];rfl)
 rw[xw] at ah;replace ah:mb q=true:=by unfold mb;rw[ah];rfl
 refine aq λI a w U=>?_;refine St.lo (σ:=Nat) (run 2 4 (run 46 98 [])) ⟨λk=>[(5,AV.int k)],λk=>[],λk=>k<=q.aG.length/\∀i,i<k->(jT q) i=true⟩ (λk=>q.aG.length-k) 0 U ?ar ?aW;case ar=>exact⟨Nat.zero_le _,λi hi=>by omega⟩
 rintro k I a w ak U;obtain⟨jW,au⟩:=ak;refine cK λI a w U=>?_;refine cz (λai=>?_) λai=>?_
 .refine zt ?_;refine U.dk ?_;refine lR ?_;refine .o (.c1 (Ek ..)) ?_;refine wb ?_;refine .q .F (.cl (Ee ..)) ?_;refine jK ?_;refine lS ?_;refine .nil ?_;intro I a w U;refine bM ?_;refine U.cd (λaF=>?_) λaF=>?_
  .rw[xy] at aF;replace aF:=nt aF;refine an ?_;exact aQ (by rw[k6];rw[cF (f:=jT q) ai aF];simp)
  rw[xy] at aF;replace aF:=nf aF;refine aK λI a w U=>?_;exact U.ag (k+1) (⟨by omega,cT au aF⟩)
 refine zt ?_;refine rr λI a w U=>?_;refine U.cd (λaS=>?_) λaS=>?_
 .rw[xB] at aS;replace aS:=nt aS;refine an ?_;exact aQ (by rw[k6];rw[aS];simp)
 rw[xB] at aS;replace aS:=nf aS;refine aq λI a w U=>?_;refine St.lo (σ:=Nat) (4::(run 2 6 (run 34 157 []))) ⟨λk2=>[(6,AV.int k2)],λk2=>[],λk2=>k2<=q.aR.length/\∀i,i<k2->(jU q) i=true⟩ (λk2=>q.aR.length-k2) 0 U ?fJ ?k8;case fJ=>exact⟨Nat.zero_le _,λi hi=>by omega⟩
 rintro k2 I a w ak U;obtain⟨me,dE⟩:=ak;refine cK λI a w U=>?_;refine cz (λbL=>?_) λbL=>?_
 .refine zt ?_;refine U.dk ?_;refine wa ?_;refine .o (.c2 (Ef ..)) ?_;refine c6 ?_;refine .nil ?_;intro I a w U;refine bM<|wp_seq<|U.dk ?_;refine lS ?_;refine .q .F ((by first|exact ij eI dQ .ag .ag (λhg=>by have h0:0<=dp q (ae q.aR k2).key:=(by simpa using hg);have:=kY h0;omega)|exact gR eI dQ .ag .ag (λhg=>by have h0:0<=dp q (ae q.aR k2).key:=(by simpa using hg);have:=kY h0;omega)|exact hP eI dQ .ag .ag (λhg=>by have h0:0<=dp q (ae q.aR k2).key:=(by simpa using hg);have:=kY h0;omega))) ?_;refine rv ?_;refine .q .F (.cl (r7 ..)) ?_;refine fj ?_;refine .nil ?_;intro I a w U;refine bM ?_;refine U.cd (λbz=>?_) λbz=>?_
  .rw[xz] at bz;replace bz:=nt bz;refine an ?_;exact aQ (by rw[k6];rw[cF (f:=jU q) bL bz];simp)
  rw[xz] at bz;replace bz:=nf bz;refine aK λI a w U=>?_;exact U.ag (k2+1) (⟨by omega,cT dE bz⟩)
 refine zt ?_;refine aK λI a w U=>?_;refine cz (λdf=>?_) λdf=>?_
 .refine aL λI a w U=>?_;refine U.o (.bd kH bU.nil) λU=>?_;refine U.o (ki [_,_] [_,_] jM rfl rfl .tt .tt) λU=>?_;refine an ?_;exact aQ (by rw[k6];rw[ab,ah,cD au om,aS,cD dE om,xx];unfold pq;rw[if_pos df];rfl)
 refine vW λI a w U=>?_;refine U.q .T (ba .ag .c (λhg=>by have:=xA ab;omega)) λU=>?_;refine U.q .T .mv λU=>?_;refine U.q .T (.cl (dH ..)) λU=>?_;refine rq λI a w U=>?_;refine U.q .T2 (.cl (np ..)) λU=>?_;refine BY λI a w U=>?_;refine U.rt ?_;exact aQ (by rw[k6];rw[ab,ah,cD au om,aS,cD dE om];unfold pq;rw[if_neg df];rfl)
def bq (l:Int) (w:Nat):Int:=if l-w<0 then-1 else l-w
def eA {l:Int} {a b:Nat} (h:0<=bq l a):bq (bq l a) b=bq l (a+b):=by
 unfold bq at*;split at h
 .omega
 split<;>split<;>omega
def dh {l:Int} {a b:Nat} (h:bq l a<0) (r5:a<=b):-1=bq l b:=by
 unfold bq at*;split at h<;>split<;>omega
def eB {l:Int} {a:Nat} (h:l<=1048576):bq l a<=1048576:=by unfold bq;split<;>omega
def jm {l:Int} {a b:Nat} (h:l-a<0) (r5:a<=b):-1=bq l b:=by unfold bq;rw[if_pos om]
def su {l:Int} {a:Nat} (h:0<=l-a):l-a=bq l a:=by unfold bq;rw[if_neg om]
def bY {α:Type} (f:α->Nat) (l:List α):Nat:=(l.map f).sum
def eC {α:Type} [Inhabited α] {f:α->Nat} {l:List α} {k:Nat} (h:k<l.length):bY f (l.take (k+1))=bY f (l.take k)+f (ae l k):=by
 unfold bY;rw[mN h,List.map_append,List.sum_append];simp
def jX {α:Type} {f:α->Nat}:∀(l:List α) (k:Nat),bY f (l.take k)<=bY f l
 |[],k=>by simp[bY]
 |x::l,0=>by simp[bY]
 |x::l,k+1=>by have:=jX (f:=f) l k;simp[bY] at*;omega
def dJ (l:List ay):Nat:=l.length
def nA (l:List cv):Nat:=l.length
def gI (v:al):Nat:=dJ v.aA
def gJ (l:List al):Nat:=l.length+bY gI l
def gK (a:Answer):Nat:=gI a.bs
def iG (l:List Answer):Nat:=l.length+bY gK l
def jY (l:List ay) (left:Int) (h0:0<=left) (h1:left<=1048576):
 Fn prog 196 [cY l,AV.int left] (AV.int (bq left (dJ l))):=by
 refine Fn.go 12 func196 ntmps196 (λW I a U=>?_);have hle:=U.cB (t:=0) rfl;refine db λI a w U=>?_;refine cz (λab=>?_) λab=>?_
 .refine an ?_;exact aT (jm ab (Nat.le_refl _))
 refine bQ ?_;exact aT (su ab)
def xC (x:al) (left:Int) (h0:0<=left) (h1:left<=1048576):
 Fn prog 298 [x.av,AV.int left] (AV.int (bq left (gI x))):=by
 refine Fn.go 12 func298 ntmps298 (λW I a U=>?_);refine bJ λI a w U=>?_;refine U.o (.cl (jY _ _ h0 h1)) λU=>?_;refine aK λI a w U=>?_;refine cz (λab=>?_) λab=>?_
 .refine an ?_;exact aT (dh ab (by unfold gI;omega))
 refine bQ ?_;exact aT rfl
def py (l:List (al)) (left:Int) (h0:0<=left) (h1:left<=1048576):
 Fn prog 258 [bN l,AV.int left] (AV.int (bq left (gJ l))):=by
 refine Fn.go 27 func258 ntmps258 (λW I a U=>?_);have hle:=U.cB (t:=0) rfl;refine db λI a w U=>?_;refine cz (λab=>?_) λab=>?_
 .refine an ?_;exact aT (jm ab (by unfold gJ;omega))
 refine aq λI a w U=>?_;refine St.ju (σ:=Nat) (1::(run 2 4 (run 14 12 []))) ⟨λk=>[(5,AV.int k),(1,AV.int (bq left (l.length+bY gI (l.take k))))],λk=>[],λk=>k<=l.length/\0<=bq left (l.length+bY gI (l.take k))⟩ (λk=>l.length-k) 0 U rfl ?ar ?gw ?aW;case ar=>exact⟨Nat.zero_le _,by simp only[bq,bY,List.take_zero,List.map_nil,List.sum_nil];split<;>omega⟩
 case gw=>exact(Env.aU rfl bh (Env.aU rfl (by exact congrArg AV.int (by simp only[bq,bY,List.take_zero,List.map_nil,List.sum_nil];split<;>omega)) Env.le_nil))
 rintro k I a w ak U;obtain⟨hk,eY⟩:=ak;refine bc λI a w U=>?_;refine cz (λah=>?_) λah=>?_
 .refine bJ λI a w U=>?_;refine U.o (.c2 (xC _ _ eY (eB h1))) λU=>?_;rw[eA eY] at U;refine aK λI a w U=>?_;refine U.cd (λai=>?_) λai=>?_
  .simp only[decide_eq_true_eq] at ai;refine an ?_;exact aT (dh ai (by have e1:=eC (f:=gI) ah;have e2:=jX (f:=gI) l (k+1);unfold gJ;omega))
  simp only[decide_eq_false_iff_not,Int.not_lt] at ai;refine aK λI a w U=>?_;refine U.again (k+1) ?bu ?bw bh ?bx (by repeat(first|exact Env.le_rfl|refine Env.cL rfl ?_));case bu=>omega
  case bw=>exact⟨ah,by rw[eC ah,<-Nat.add_assoc];exact ai⟩
  case bx=>exact(Env.aU rfl bh (Env.aU rfl (by exact congrArg AV.int (by rw[eC ah,<-Nat.add_assoc])) Env.le_nil))
 refine zt ?_;refine bQ ?_;exact aT (by unfold gJ;rw[List.take_of_length_le om])
def Em (x:Answer) (left:Int) (h0:0<=left) (h1:left<=1048576):
 Fn prog 299 [x.av,AV.int left] (AV.int (bq left (gK x))):=by
 refine Fn.go 12 func299 ntmps299 (λW I a U=>?_);refine bJ λI a w U=>?_;refine U.o (.c2 (xC _ _ h0 h1)) λU=>?_;refine aK λI a w U=>?_;refine cz (λab=>?_) λab=>?_
 .refine an ?_;exact aT (dh ab (by unfold gK;omega))
 refine bQ ?_;exact aT rfl
def En (l:List (Answer)) (left:Int) (h0:0<=left) (h1:left<=1048576):
 Fn prog 260 [jC l,AV.int left] (AV.int (bq left (iG l))):=by
 refine Fn.go 27 func260 ntmps260 (λW I a U=>?_);have hle:=U.cB (t:=0) rfl;refine db λI a w U=>?_;refine cz (λab=>?_) λab=>?_
 .refine an ?_;exact aT (jm ab (by unfold iG;omega))
 refine aq λI a w U=>?_;refine St.ju (σ:=Nat) (1::(run 2 4 (run 14 12 []))) ⟨λk=>[(5,AV.int k),(1,AV.int (bq left (l.length+bY gK (l.take k))))],λk=>[],λk=>k<=l.length/\0<=bq left (l.length+bY gK (l.take k))⟩ (λk=>l.length-k) 0 U rfl ?ar ?gw ?aW;case ar=>exact⟨Nat.zero_le _,by simp only[bq,bY,List.take_zero,List.map_nil,List.sum_nil];split<;>omega⟩
 case gw=>exact(Env.aU rfl bh (Env.aU rfl (by exact congrArg AV.int (by simp only[bq,bY,List.take_zero,List.map_nil,List.sum_nil];split<;>omega)) Env.le_nil))
 rintro k I a w ak U;obtain⟨hk,eY⟩:=ak;refine bc λI a w U=>?_;refine cz (λah=>?_) λah=>?_
 .refine bJ λI a w U=>?_;refine U.o (.c2 (Em _ _ eY (eB h1))) λU=>?_;rw[eA eY] at U;refine aK λI a w U=>?_;refine U.cd (λai=>?_) λai=>?_
  .simp only[decide_eq_true_eq] at ai;refine an ?_;exact aT (dh ai (by have e1:=eC (f:=gK) ah;have e2:=jX (f:=gK) l (k+1);unfold iG;omega))
  simp only[decide_eq_false_iff_not,Int.not_lt] at ai;refine aK λI a w U=>?_;refine U.again (k+1) ?bu ?bw bh ?bx (by repeat(first|exact Env.le_rfl|refine Env.cL rfl ?_));case bu=>omega
  case bw=>exact⟨ah,by rw[eC ah,<-Nat.add_assoc];exact ai⟩
  case bx=>exact(Env.aU rfl bh (Env.aU rfl (by exact congrArg AV.int (by rw[eC ah,<-Nat.add_assoc])) Env.le_nil))
 refine zt ?_;refine bQ ?_;exact aT (by unfold iG;rw[List.take_of_length_le om])
def pz (x:cy):
 Fn prog 263 [x.av] (x.av):=by
 refine Fn.go 11 func263 ntmps263 (λW I a U=>?_);refine aV λI a w U=>?_;refine U.alloc rfl lT kH λb2 I a w U=>nn<|sr<|U.alloc rfl lT kH λb3 I a w U=>?_;refine m5 λI a w U=>?_;refine U.ret rfl (.cons (.sx 0) cC.nil) ?_;rfl
def pA (x:cy):
 Fn prog 203 [x.av,x.av] (AV.bool true):=by
 refine Fn.go 15 func203 ntmps203 (λW I a U=>?_);refine db λI a w U=>?_;refine U.cd (λab=>?_) λab=>?_
 .exfalso;simp at ab;skip
 refine cK λI a w U=>?_;refine U.cd (λah=>?_) λah=>?_
 .exfalso;simp at ah;skip
 refine an ?_;rfl
def Eo (x:ay):
 Fn prog 267 [x.av,x.av] (AV.bool true):=by
 refine Fn.go 16 func267 ntmps267 (λW I a U=>?_);refine db λI a w U=>?_;refine U.cd (λab=>?_) λab=>?_
 .exfalso;simp at ab;skip
 refine ax λI a w U=>?_;refine U.o (.c2 (pA ..)) λU=>?_;refine aq λI a w U=>?_;refine U.cd (λah=>?_) λah=>?_
 .exfalso;simp at ah;skip
 refine an ?_;rfl
def jZ (l:List (ay)):
 Fn prog 204 [cY l,cY l] (AV.bool true):=by
 refine Fn.go 27 func204 ntmps204 (λW I a U=>?_);have hle:=U.cB (t:=0) rfl;refine fQ λI a w U=>?_;refine U.cd (λab=>?_) λab=>?_
 .exfalso;simp at ab;skip
 refine aq λI a w U=>?_;refine St.lo (σ:=Nat) (run 2 4 (run 16 11 [])) ⟨λk=>[(5,AV.int k)],λk=>[],λk=>k<=l.length⟩ (λk=>l.length-k) 0 U ?ar ?aW;case ar=>exact Nat.zero_le _
 rintro k I a w ak U;have hk:k<=l.length:=ak;refine bc λI a w U=>?_;refine cz (λah=>?_) λah=>?_
 .refine zt ?_;refine U.dk ?_;refine jd ?_;refine .o (.c2 (Eo ..)) ?_;refine c6 ?_;refine .nil ?_;intro I a w U;refine bM ?_;refine U.cd (λai=>?_) λai=>?_
  .exfalso;simp at ai;skip
  refine aK λI a w U=>?_;exact U.ag (k+1) (ah)
 refine zt ?_;refine an ?_;rfl
def Ep (l:List (Int)):
 Fn prog 269 [iZ l,iZ l] (AV.bool true):=by
 refine Fn.go 26 func269 ntmps269 (λW I a U=>?_);have hle:=U.cB (t:=0) rfl;refine fQ λI a w U=>?_;refine U.cd (λab=>?_) λab=>?_
 .exfalso;simp at ab;skip
 refine aq λI a w U=>?_;refine St.lo (σ:=Nat) (run 2 4 (run 15 11 [])) ⟨λk=>[(5,AV.int k)],λk=>[],λk=>k<=l.length⟩ (λk=>l.length-k) 0 U ?ar ?aW;case ar=>exact Nat.zero_le _
 rintro k I a w ak U;have hk:k<=l.length:=ak;refine bc λI a w U=>?_;refine cz (λah=>?_) λah=>?_
 .refine aq λI a w U=>?_;refine U.cd (λai=>?_) λai=>?_
  .exfalso;simp at ai;skip
  refine aK λI a w U=>?_;exact U.ag (k+1) (ah)
 refine zt ?_;refine an ?_;rfl
def Er (x:cv):
 Fn prog 303 [x.av,x.av] (AV.bool true):=by
 refine Fn.go 15 func303 ntmps303 (λW I a U=>?_);refine db λI a w U=>?_;refine U.cd (λab=>?_) λab=>?_
 .exfalso;simp at ab;skip
 refine cK λI a w U=>?_;refine U.cd (λah=>?_) λah=>?_
 .exfalso;simp at ah;skip
 refine an ?_;rfl
def Es (l:List (cv)):
 Fn prog 268 [lH l,lH l] (AV.bool true):=by
 refine Fn.go 27 func268 ntmps268 (λW I a U=>?_);have hle:=U.cB (t:=0) rfl;refine fQ λI a w U=>?_;refine U.cd (λab=>?_) λab=>?_
 .exfalso;simp at ab;skip
 refine aq λI a w U=>?_;refine St.lo (σ:=Nat) (run 2 4 (run 16 11 [])) ⟨λk=>[(5,AV.int k)],λk=>[],λk=>k<=l.length⟩ (λk=>l.length-k) 0 U ?ar ?aW;case ar=>exact Nat.zero_le _
 rintro k I a w ak U;have hk:k<=l.length:=ak;refine bc λI a w U=>?_;refine cz (λah=>?_) λah=>?_
 .refine zt ?_;refine U.dk ?_;refine jd ?_;refine .o (.c2 (Er ..)) ?_;refine c6 ?_;refine .nil ?_;intro I a w U;refine bM ?_;refine U.cd (λai=>?_) λai=>?_
  .exfalso;simp at ai;skip
  refine aK λI a w U=>?_;exact U.ag (k+1) (ah)
 refine zt ?_;refine an ?_;rfl
def xD (x:al):
 Fn prog 107 [x.av,x.av] (AV.bool true):=by
 refine Fn.go 37 func107 ntmps107 (λW I a U=>?_);refine db λI a w U=>?_;refine U.cd (λab=>?_) λab=>?_
 .exfalso;simp at ab;skip
 refine ax λI a w U=>?_;refine U.o (.c2 (pA ..)) λU=>?_;refine aq λI a w U=>?_;refine U.cd (λah=>?_) λah=>?_
 .exfalso;simp at ah;skip
 refine cK λI a w U=>?_;refine U.cd (λai=>?_) λai=>?_
 .exfalso;simp at ai;skip
 refine cK λI a w U=>?_;refine U.cd (λaF=>?_) λaF=>?_
 .exfalso;simp at aF;skip
 refine cK λI a w U=>?_;refine U.cd (λaS=>?_) λaS=>?_
 .exfalso;simp at aS;skip
 refine ax λI a w U=>?_;refine U.o (.cl (jZ ..)) λU=>?_;refine aq λI a w U=>?_;refine U.cd (λbL=>?_) λbL=>?_
 .exfalso;simp at bL;skip
 refine an ?_;rfl
def k9 (l:List (al)):
 Fn prog 40 [bN l,bN l] (AV.bool true):=by
 refine Fn.go 27 func40 ntmps40 (λW I a U=>?_);have hle:=U.cB (t:=0) rfl;refine fQ λI a w U=>?_;refine U.cd (λab=>?_) λab=>?_
 .exfalso;simp at ab;skip
 refine aq λI a w U=>?_;refine St.lo (σ:=Nat) (run 2 4 (run 16 11 [])) ⟨λk=>[(5,AV.int k)],λk=>[],λk=>k<=l.length⟩ (λk=>l.length-k) 0 U ?ar ?aW;case ar=>exact Nat.zero_le _
 rintro k I a w ak U;have hk:k<=l.length:=ak;refine bc λI a w U=>?_;refine cz (λah=>?_) λah=>?_
 .refine zt ?_;refine U.dk ?_;refine jd ?_;refine .o (.c2 (xD ..)) ?_;refine c6 ?_;refine .nil ?_;intro I a w U;refine bM ?_;refine U.cd (λai=>?_) λai=>?_
  .exfalso;simp at ai;skip
  refine aK λI a w U=>?_;exact U.ag (k+1) (ah)
 refine zt ?_;refine an ?_;rfl
def Et (x:cu):
 Fn prog 206 [x.av,x.av] (AV.bool true):=by
 refine Fn.go 80 func206 ntmps206 (λW I a U=>?_);refine db λI a w U=>?_;refine U.cd (λab=>?_) λab=>?_
 .exfalso;simp at ab;skip
 refine cK λI a w U=>?_;refine U.cd (λah=>?_) λah=>?_
 .exfalso;simp at ah;skip
 refine cK λI a w U=>?_;refine U.cd (λai=>?_) λai=>?_
 .exfalso;simp at ai;skip
 refine cK λI a w U=>?_;refine U.cd (λaF=>?_) λaF=>?_
 .exfalso;simp at aF;skip
 refine cK λI a w U=>?_;refine U.cd (λaS=>?_) λaS=>?_
 .exfalso;simp at aS;skip
 refine ax λI a w U=>?_;refine U.o (.c2 (pA ..)) λU=>?_;refine aq λI a w U=>?_;refine U.cd (λbL=>?_) λbL=>?_
 .exfalso;simp at bL;skip
 refine cK λI a w U=>?_;refine U.cd (λbz=>?_) λbz=>?_
 .exfalso;simp at bz;skip
 refine ax λI a w U=>?_;refine U.o (oa .tt .tt oU) λU=>?_;refine zt ?_;refine U.cd (λdf=>?_) λdf=>?_
 .exfalso;simp at df;skip
 refine ax λI a w U=>?_;refine U.o (.cl (jZ ..)) λU=>?_;refine aq λI a w U=>?_;refine U.cd (λjn=>?_) λjn=>?_
 .exfalso;simp at jn;skip
 refine cK λI a w U=>?_;refine U.cd (λnB=>?_) λnB=>?_
 .exfalso;simp at nB;skip
 refine cK λI a w U=>?_;refine U.cd (λnC=>?_) λnC=>?_
 .exfalso;simp at nC;skip
 refine ax λI a w U=>?_;refine U.o (.cl (k9 ..)) λU=>?_;refine aq λI a w U=>?_;refine U.cd (λnD=>?_) λnD=>?_
 .exfalso;simp at nD;skip
 refine ax λI a w U=>?_;refine U.o (.cl (k9 ..)) λU=>?_;refine aq λI a w U=>?_;refine U.cd (λxE=>?_) λxE=>?_
 .exfalso;simp at xE;skip
 refine ax λI a w U=>?_;refine U.o (.cl (jZ ..)) λU=>?_;refine aq λI a w U=>?_;refine U.cd (λxF=>?_) λxF=>?_
 .exfalso;simp at xF;skip
 refine an ?_;rfl
def Eu (x:Answer):
 Fn prog 304 [x.av,x.av] (AV.bool true):=by
 refine Fn.go 21 func304 ntmps304 (λW I a U=>?_);refine db λI a w U=>?_;refine U.cd (λab=>?_) λab=>?_
 .exfalso;simp at ab;skip
 refine ax λI a w U=>?_;refine U.o (oa .tt .tt oU) λU=>?_;refine zt ?_;refine U.cd (λah=>?_) λah=>?_
 .exfalso;simp at ah;skip
 refine ax λI a w U=>?_;refine U.o (.c2 (xD ..)) λU=>?_;refine aq λI a w U=>?_;refine U.cd (λai=>?_) λai=>?_
 .exfalso;simp at ai;skip
 refine an ?_;rfl
def Ew (l:List (Answer)):
 Fn prog 270 [jC l,jC l] (AV.bool true):=by
 refine Fn.go 27 func270 ntmps270 (λW I a U=>?_);have hle:=U.cB (t:=0) rfl;refine fQ λI a w U=>?_;refine U.cd (λab=>?_) λab=>?_
 .exfalso;simp at ab;skip
 refine aq λI a w U=>?_;refine St.lo (σ:=Nat) (run 2 4 (run 16 11 [])) ⟨λk=>[(5,AV.int k)],λk=>[],λk=>k<=l.length⟩ (λk=>l.length-k) 0 U ?ar ?aW;case ar=>exact Nat.zero_le _
 rintro k I a w ak U;have hk:k<=l.length:=ak;refine bc λI a w U=>?_;refine cz (λah=>?_) λah=>?_
 .refine zt ?_;refine U.dk ?_;refine jd ?_;refine .o (.c2 (Eu ..)) ?_;refine c6 ?_;refine .nil ?_;intro I a w U;refine bM ?_;refine U.cd (λai=>?_) λai=>?_
  .exfalso;simp at ai;skip
  refine aK λI a w U=>?_;exact U.ag (k+1) (ah)
 refine zt ?_;refine an ?_;rfl
def Ex (x:Call):
 Fn prog 207 [x.av,x.av] (AV.bool true):=by
 refine Fn.go 70 func207 ntmps207 (λW I a U=>?_);refine db λI a w U=>?_;refine U.cd (λab=>?_) λab=>?_
 .exfalso;simp at ab;skip
 refine cK λI a w U=>?_;refine U.cd (λah=>?_) λah=>?_
 .exfalso;simp at ah;skip
 refine cK λI a w U=>?_;refine U.cd (λai=>?_) λai=>?_
 .exfalso;simp at ai;skip
 refine ax λI a w U=>?_;refine U.o (.cl (Ep ..)) λU=>?_;refine aq λI a w U=>?_;refine U.cd (λaF=>?_) λaF=>?_
 .exfalso;simp at aF;skip
 refine cK λI a w U=>?_;refine U.cd (λaS=>?_) λaS=>?_
 .exfalso;simp at aS;skip
 refine ax λI a w U=>?_;refine U.o (.cl (jZ ..)) λU=>?_;refine aq λI a w U=>?_;refine U.cd (λbL=>?_) λbL=>?_
 .exfalso;simp at bL;skip
 refine cK λI a w U=>?_;refine U.cd (λbz=>?_) λbz=>?_
 .exfalso;simp at bz;skip
 refine cK λI a w U=>?_;refine U.cd (λdf=>?_) λdf=>?_
 .exfalso;simp at df;skip
 refine ax λI a w U=>?_;refine U.o (oa .tt .tt oU) λU=>?_;refine zt ?_;refine U.cd (λjn=>?_) λjn=>?_
 .exfalso;simp at jn;skip
 refine ax λI a w U=>?_;refine U.o (.c2 (pA ..)) λU=>?_;refine aq λI a w U=>?_;refine U.cd (λnB=>?_) λnB=>?_
 .exfalso;simp at nB;skip
 refine ax λI a w U=>?_;refine U.o (.cl (Ew ..)) λU=>?_;refine aq λI a w U=>?_;refine U.cd (λnC=>?_) λnC=>?_
 .exfalso;simp at nC;skip
 refine ax λI a w U=>?_;refine U.o (.cl (jZ ..)) λU=>?_;refine aq λI a w U=>?_;refine U.cd (λnD=>?_) λnD=>?_
 .exfalso;simp at nD;skip
 refine an ?_;rfl
end Go.Proofs.YtldbakcpcfdlaaaGreat

/- Part 22: contracts of functions, plain facts. -/
import Derived.Test.YtldbakcpcfdlaaaGreatP17
import Derived.Test.YtldbakcpcfdlaaaGreatP18
import Derived.Test.YtldbakcpcfdlaaaGreatP19
import Derived.Test.YtldbakcpcfdlaaaGreatP20
set_option linter.all false
set_option maxRecDepth 100000
set_option maxHeartbeats 4000000
namespace Go.Proofs.YtldbakcpcfdlaaaGreat
open Go Go.RowKit Tryz
attribute [local irreducible] wpList Code.wp Ok
def Pq {a b:List ao} (ha:ck a=true) (hb:ck b=true) (k:Nat):ck (ji a (b.take k))=true:=
 xg ha λd hd=>pK hb (List.mem_of_mem_take hd)
def HJ {a b:List ao} (ha:ck a=true) (hb:ck b=true) (key:Int):cB (ji a b) key=ei (cB a key) (cB b key):=by
 have D5:∀d∈b,kh d=true:=λd hd=>pK hb hd;have Z4:∀{b:List ao} {last:Int} {a:List ao},ck a=true->dL last b=true->(∀d∈b,kh d=true)->cB (ji a b) key=ei (cB a key) (cB b key):=by
  intro b;induction b with
  |nil=>
   intro last a ha _ _
   show cB a key=ei (cB a key) gO
   rw[Ah (sg ha key)]
  |cons d r ih=>
   intro last a ha hb aT
   have hd:=aT d be
   have iF:=hd
   simp only[kh,Bool.and_eq_true] at iF
   simp only[dL,Bool.and_eq_true] at hb
   show cB (ji (gT a d) r) key=_
   rw[ih (Ag ha hd) hb.2 λe he=>aT e (by simp[he]),CQ key ha iF.2,lA]
   split
   .rename_i hk
    have:cB r key=gO:=w9 hb.2 om
    rw[this,Ah]
    have h1:=sg ha key
    rcases h1 with h1|h1
    .rw[h1,pG (Or.inr iF.2)];exact Or.inr iF.2
    right
    unfold ei;split
    .exact iF.2
    exact h1
   rfl
 exact Z4 ha hb D5
def su:∀{l:List Answer} {acc:List ao},ck acc=true->(∀a∈l,eh a=true)->ck (l.foldl mg acc)=true/\∀key,cB (l.foldl mg acc) key=ei (cB acc key) (qJ l key)
 |[],acc,ha,_=>⟨ha,λkey=>by show cB acc key=ei (cB acc key) gO;rw[Ah (sg ha key)]⟩
 |a::r,acc,ha,h=>by
  have hd:=r4 (h a be);have h1:ck (mg acc a)=true:=xg ha λd iF=>pK hd iF;have h2:=su (l:=r) h1 λb hb=>h b (by simp[hb]);refine⟨h2.1,λkey=>?_⟩;show cB (r.foldl mg (mg acc a)) key=_;rw[h2.2 key];unfold mg;rw[HJ ha hd,GR];rfl
def xt:∀{l:List Answer} {acc:List ao},ck acc=true->(∀a∈l,eh a=true)->ck (l.foldl qz acc)=true/\∀key,cB (l.foldl qz acc) key=ei (cB acc key) (ei (qJ l key) (sh l key))
 |[],acc,ha,_=>⟨ha,λkey=>by show cB acc key=ei (cB acc key) (ei gO gO);rw[pG (Or.inl rfl),Ah (sg ha key)]⟩
 |a::r,acc,ha,h=>by
  have hg:=h a be;have hr:∀b∈r,eh b=true:=λb hb=>h b (by simp[hb]);cases hy:a.yes
  .have e:qz acc a=acc:=by unfold qz;rw[hy];simp
   have h2:=xt (l:=r) ha hr;rw[List.foldl_cons,e];refine⟨h2.1,λkey=>?_⟩;rw[h2.2 key];show _=ei _ (ei (ei (cB a.bl.aK key) (qJ r key)) (ei (if a.yes=true/\a.key=key then a.bl.aw else gO) (sh r key)));rw[if_neg (by rw[hy];simp),pG (Aj hr key),Cs hg hy];show _=ei _ (ei (ei gO (qJ r key)) (sh r key));rw[pG (GS hr key)]
  have hd:=Ai hg hy;have Ba:=r4 hg;have hv:=tl hg hy;have e:qz acc a=gT (ji acc a.bl.aK) a.bl.bD:=by unfold qz;rw[hy];simp
  have bJ:dB a.bl.bD.aw=true:=(kT hv.1).2.1;have hj:ck (ji acc a.bl.aK)=true:=xg ha λd iF=>pK Ba iF;have h2:=xt (l:=r) (Ag hj hd.1) hr;rw[List.foldl_cons,e];refine⟨h2.1,λkey=>?_⟩;rw[h2.2 key,CQ key hj bJ,HJ ha Ba];show _=ei _ (ei (ei (cB a.bl.aK key) (qJ r key)) (ei (if a.yes=true/\a.key=key then a.bl.aw else gO) (sh r key)));have e2:a.bl.bD.key=a.key:=hv.2;rw[e2];have e3:a.bl.bD.aw=a.bl.aw:=rfl;rw[e3];apply Gf;intro x;by_cases hk:a.key=key
  .rw[if_pos hk,if_pos ⟨hy,hk⟩];simp only[Cr];cases dy x (cB acc key)<;>cases dy x (cB a.bl.aK key)<;>cases dy x (qJ r key)<;>cases dy x a.bl.aw<;>simp
  rw[if_neg hk,if_neg λh=>hk h.2,pG (Aj hr key)];simp only[Cr];cases dy x (cB acc key)<;>cases dy x (cB a.bl.aK key)<;>cases dy x (qJ r key)<;>simp
def Z5 {c:Call} (hc:ck c.ctx=true) (h:∀a∈c.au,eh a=true):Hj c=jT c:=by
 unfold jT Hj;split
 .rfl
 split
 .rfl
 have Dk:=su (acc:=[]) rfl h;have kj:ck (fw c)=true:=Dk.1;have hj:ck (ji c.ctx (fw c))=true:=xg hc λd hd=>pK kj hd;have h1:=CR hj h;have h2:=xt hc h;refine MZ h1.1 h2.1 λkey=>?_;rw[h1.2 key,h2.2 key,HJ hc kj];have e:cB (fw c) key=qJ c.au key:=by
  show cB (c.au.foldl mg []) key=_;rw[Dk.2 key];show ei gO _=_;exact pG (GS h key)
 rw[e,GR]
def eO (s:Server) (m:az):Server×List az:=
 if m.kind=1 then ie s m else if m.kind=3 then(s,iK s m) else if m.kind=5 then ia s m else if m.kind=6 then(oB s m,[]) else
 if m.kind=7 then(s,oO s m) else if m.kind=8 then(oC s m,[]) else if m.kind=9 then ib s m else if m.kind=10 then(oD s m,[]) else(s,[])
def gG (s:Server) (m:az):Server×List az:=if s.up&&bY m&&(m.to==s.site) then eO s m else(s,[])
def iY (w:aM) (e:Ev):aM×Bool:=
 if aS e.word 0 ((w.aC.length:Int)-1) then
  let m:=ae w.aC e.word.toNat
  let w1:=if e.kind=5\/e.iB=0 then{w with aC:=w.aC.take e.word.toNat++w.aC.drop (e.word.toNat+1)} else w
  if e.kind=5 then(w1,true)
  else if aS m.to 10 11 then(pH w1 m,true)
  else({w1 with aF:=w.aF.set m.to.toNat (gG (ae w.aF m.to.toNat) m).1,aC:=fe w1.aC (gG (ae w.aF m.to.toNat) m).2},true)
 else(w,false)
def Pr (x y:List ao) (hx:ck x=true) (hy:ck y=true):
 Fn prog 186 [bm x,bm y] (bm (ji x y)):=by
 refine Fn.go 21 func186 ntmps186 (λW I a U=>?_);have zZ:=gU hx;have Z6:=gU hy;refine aA λI a w U=>?_;refine U.o (bx (rK x om) (an .r aH)) λU=>?_;refine aU λI a w U=>?_;refine St.lo (σ:=Nat) (5::(7::(run 8 12 []))) ⟨λk=>[(12,AV.int k),(5,bm (ji x (y.take k)))],λk=>[],λk=>k<=y.length⟩ (λk=>y.length-k) 0 U ?aD ?bh;case aD=>exact Nat.zero_le _
 rintro k I a w aj U;have hk:k<=y.length:=aj;refine al λI a w U=>?_;refine cz (λab=>?_) λab=>?_
 .refine aA λI a w U=>?_;refine U.alloc rfl cM fE λb7 I a w U=>?_;refine al λI a w U=>?_;obtain⟨I,U⟩:=U.fb 0 7;refine aA λI a w U=>?_;refine U.o (.cl (Gx _ _ (Pq hx hy k))) λU=>?_;refine aI λI a w U=>?_;have U:=U.drop 0;refine U.again (k+1) ?bM ?bN bF ?bO (by repeat(first|exact Env.le_rfl|refine Env.dj rfl ?_));case bM=>omega
  case bN=>exact ab
  case bO=>exact(Env.bt rfl bF (Env.bt rfl (by exact congrArg bm (by rw[LO ab])) Env.le_nil))
 refine zt ?_;refine cK ?_;exact congrArg bm (by rw[List.take_of_length_le om])
def HK (x y:List ao) (hx:ck x=true) (hy:ck y=true):
 Fn prog 330 [bm x,bm y] (bm (ji x y)):=by
 refine Fn.go 32 func330 ntmps330 (λW I a U=>?_);have zZ:=gU hx;have Z6:=gU hy;refine aA λI a w U=>?_;refine U.o (.cl (qN ..)) λU=>?_;refine aV λI a w U=>?_;refine U.q .F (.cl (qN ..)) λU=>?_;refine ax λI a w U=>?_;refine U.cd (λab=>?_) λab=>?_
 .exfalso;rw[hx,hy] at ab;cases ab;skip
 refine zt ?_;refine U.l0 λzS I a w U=>?_;refine U.m λU=>?_;refine U.ap 0 λBZ a w U=>?_;obtain⟨I,U⟩:=U.fr 0 18;have U:=U.drop 0;refine ax λI a w U=>?_;refine St.lo (σ:=Nat) (run 2 5 (run 12 19 [])) ⟨λk=>[(6,AV.int k),(5,bm (ji x (y.take k)))],λk=>[],λk=>k<=y.length⟩ (λk=>y.length-k) 0 U ?aD ?bh;case aD=>exact Nat.zero_le _
 rintro k I a w aj U;have hk:k<=y.length:=aj;refine aU λI a w U=>?_;refine cz (λah=>?_) λah=>?_
 .refine bV λI a w U=>?_;refine U.o (.cl (Hu _ _ (Pq hx hy k) (pK hy (bK ah)))) λU=>?_;refine aU λI a w U=>?_;refine U.again (k+1) ?bM ?bN bF ?bO (by repeat(first|exact Env.le_rfl|refine Env.dj rfl ?_));case bM=>omega
  case bN=>exact ah
  case bO=>exact(Env.bt rfl bF (Env.bt rfl (by exact congrArg bm (by rw[LO ah])) Env.le_nil))
 refine zt ?_;refine cK ?_;exact congrArg bm (by rw[List.take_of_length_le om])
def Z7 (q:Call) (hg:∀y∈q.au,eh y=true):
 Fn prog 331 [q.av] (bm (fw q)):=by
 refine Fn.go 23 func331 ntmps331 (λW I a U=>?_);have lens:q.keys.length<=9223372036854775807/\q.au.length<=9223372036854775807/\q.aO.length<=9223372036854775807:=⟨U.ln 0 3,U.ln 0 11,U.ln 0 12⟩;refine ax λI a w U=>?_;refine U.l0 λb5 I a w U=>?_;obtain⟨I,U⟩:=U.fr 0 5;have U:=U.drop 0;refine ax λI a w U=>?_;refine St.lo (σ:=Nat) (run 2 3 (run 16 6 [])) ⟨λk=>[(4,AV.int k),(3,bm ((q.au.take k).foldl mg []))],λk=>[],λk=>k<=q.au.length⟩ (λk=>q.au.length-k) 0 U ?aD ?bh;case aD=>exact Nat.zero_le _
 rintro k I a w aj U;have hk:k<=q.au.length:=aj;refine bP λI a w U=>?_;refine cz (λab=>?_) λab=>?_
 .refine lJ λI a w U=>?_;refine U.o (.cl (HK _ _ (su (acc:=[]) rfl (xa hg k)).1 (r4 (hg _ (bK ab))))) λU=>?_;refine aU λI a w U=>?_;refine U.again (k+1) ?bM ?bN bF ?bO (by repeat(first|exact Env.le_rfl|refine Env.dj rfl ?_));case bM=>omega
  case bN=>exact ab
  case bO=>exact(Env.bt rfl bF (Env.bt rfl (by exact congrArg bm (by rw[wX ab];rfl)) Env.le_nil))
 refine zt ?_;refine cK ?_;exact congrArg bm (by rw[List.take_of_length_le om];rfl)
def Z8 (q:Call) (t:Int) (hq:fK q t=true):
 Fn prog 96 [q.av] (bm (jT q)):=by
 refine Fn.go 45 func96 ntmps96 (λW I a U=>?_);have lens:q.keys.length<=9223372036854775807/\q.au.length<=9223372036854775807/\q.aO.length<=9223372036854775807:=⟨U.ln 0 3,U.ln 0 11,U.ln 0 12⟩;have hp:=CU hq;have Z9:=gU hp.1;refine aR λI a w U=>?_;refine U.o (bx (rK q.ctx om) (an .r aH)) λU=>?_;refine aU λI a w U=>?_;refine cz (λab=>?_) λab=>?_
 .refine cK ?_;exact congrArg bm (by unfold jT;rw[if_pos ab])
 refine aI λI a w U=>?_;refine cz (λah=>?_) λah=>?_
 .refine wp_seq<|U.dk ?_;refine ee ?_;refine .o ((by first|exact fT kG cT .tt .c (λ_=>by have:=u9 hp.2.2.1 ah;omega)|exact iO kG cT .tt .c (λ_=>by have:=u9 hp.2.2.1 ah;omega)|exact iZ kG cT .tt .c (λ_=>by have:=u9 hp.2.2.1 ah;omega))) ?_;refine ee ?_;refine .o (.bd fE (.k (.t bf.nil))) ?_;refine .o (.cl (Gx _ ⟨ae q.keys 0,q.aw⟩ hp.1)) ?_;refine br ?_;refine .nil ?_;intro I a w U;refine zt ?_;refine U.rt ?_;exact congrArg bm (by unfold jT;rw[if_neg ab,if_pos ah])
 refine aU λI a w U=>?_;refine St.lo (σ:=Nat) (3::(5::(run 16 28 []))) ⟨λk=>[(28,AV.int k),(3,bm ((q.au.take k).foldl qz q.ctx))],λk=>[],λk=>k<=q.au.length⟩ (λk=>q.au.length-k) 0 U ?aD ?bh;case aD=>exact Nat.zero_le _
 rintro k I a w aj U;have hk:k<=q.au.length:=aj;refine al λI a w U=>?_;refine cz (λai=>?_) λai=>?_
 .refine aA λI a w U=>?_;refine U.alloc rfl dI lq λb5 I a w U=>?_;refine al λI a w U=>?_;obtain⟨I,U⟩:=U.fb 0 5;refine ax λI a w U=>?_;refine cz (λaG=>?_) λaG=>?_
  .refine U.dk ?_;refine ef ?_;refine .o (.cl (Pr _ _ (xt hp.1 (xa hp.2.1 k)).1 (r4 (hp.2.1 _ (bK ai))))) ?_;refine cy ?_;refine .o (.c1 (nB ..)) ?_;refine .o (.cl (Gx _ _ (xg (xt hp.1 (xa hp.2.1 k)).1 λd hd=>pK (r4 (hp.2.1 _ (bK ai))) hd))) ?_;refine br ?_;refine .nil ?_;intro I a w U;refine ax λI a w U=>?_;have U:=U.drop 0;refine U.again (k+1) ?bM ?bN bF ?bO (by repeat(first|exact Env.le_rfl|refine Env.dj rfl ?_));case bM=>omega
   case bN=>exact ai
   case bO=>exact(Env.bt rfl bF (Env.bt rfl (by exact congrArg bm (by rw[wX ai];unfold qz;rw[aG];rfl)) Env.le_nil))
  refine ax λI a w U=>?_;have U:=U.drop 0;refine U.again (k+1) ?nF ?nG bF ?nH (by repeat(first|exact Env.le_rfl|refine Env.dj rfl ?_));case nF=>omega
  case nG=>exact ai
  case nH=>exact(Env.bt rfl bF (Env.bt rfl (by exact congrArg bm (by rw[wX ai];unfold qz;rw[aG];rfl)) Env.le_nil))
 refine zt ?_;refine cK ?_;exact congrArg bm (by rw[List.take_of_length_le om];unfold jT;rw[if_neg ab,if_neg ah])
def HL {s:Server} {m:az} (h:bE s) (hm:bY m=true) (ho:jj (jC s m)=true):(gF s m).aw.site=s.site/\dB (gF s m).aw=true/\∀x∈jC s m,x.time<(gF s m).aw.time:=by
 obtain⟨h1,h2,h3⟩:=YI h.site (Hl h hm) ho;exact⟨h2,h1,h3⟩
def aaa {s:Server} {m:az} (h:bE s) (hm:bY m=true):∀w∈(ie s m).2,bY w=true:=by
 unfold ie;split
 .split
  .rename_i v hv;intro w hw;obtain rfl:w=_:=by simpa using hw
   exact NJ h hm (kT (g7 h.ar v (Xd hv).1)).2.1
  split
  .rename_i hk;simp only[Bool.and_eq_true,decide_eq_true_eq] at hk;intro w hw;obtain rfl:w=_:=by simpa using hw
   exact NJ h hm (HL h hm hk.1.1).2.1
  intro w hw;simp at hw
 intro w hw;simp at hw
def aab (s:Server) (m:az):(eO s m).1.site=s.site:=by
 unfold eO;repeat' split
 .exact Ze s m
 .rfl
 .exact Ys s m
 .show(oB s m).site=s.site;unfold oB;split<;>rfl
 .rfl
 .show(oC s m).site=s.site;unfold oC;split
  .exact xf _
  rfl
 .exact Yt s m
 .show(oD s m).site=s.site;unfold oD;split
  .exact xf _
  rfl
 rfl
def aac (s:Server) (m:az):(gG s m).1.site=s.site:=by
 unfold gG;split
 .exact aab s m
 rfl
def pM {s:Server} {m:az} (h:m.kind=1):eO s m=((ie s m).1,(ie s m).2):=by unfold eO;rw[if_pos h]
def pN {s:Server} {m:az} (h:m.kind=3):eO s m=(s,iK s m):=by unfold eO;rw[h];rfl
def pO {s:Server} {m:az} (h:m.kind=5):eO s m=((ia s m).1,(ia s m).2):=by unfold eO;rw[h];rfl
def pP {s:Server} {m:az} (h:m.kind=6):eO s m=(oB s m,[]):=by unfold eO;rw[h];rfl
def qT {s:Server} {m:az} (h:m.kind=7) (h2:((jA s.ar ⟨m.key,m.aw⟩).isSome&&(m.bj==fH s.site))=true) (hc:cD s.ar=true):eO s m=(s,[ml s m]):=by
 rw[Ap hc] at h2;unfold eO;rw[h];show(s,oO s m)=_;unfold oO;rw[h2];rfl
def qU {s:Server} {m:az} (h:m.kind=7) (h2:((jA s.ar ⟨m.key,m.aw⟩).isSome&&(m.bj==fH s.site))=false) (hc:cD s.ar=true):eO s m=(s,[]):=by
 rw[Ap hc] at h2;unfold eO;rw[h];show(s,oO s m)=_;unfold oO;rw[h2];rfl
def pQ {s:Server} {m:az} (h:m.kind=8):eO s m=(oC s m,[]):=by unfold eO;rw[h];rfl
def pR {s:Server} {m:az} (h:m.kind=9):eO s m=((ib s m).1,(ib s m).2):=by unfold eO;rw[h];rfl
def pS {s:Server} {m:az} (h:m.kind=10):eO s m=(oD s m,[]):=by unfold eO;rw[h];rfl
def qV {s:Server} {m:az} (h1:¬m.kind=1) (h3:¬m.kind=3) (h5:¬m.kind=5) (h6:¬m.kind=6) (h7:¬m.kind=7) (h8:¬m.kind=8) (h9:¬m.kind=9) (GL:¬m.kind=10):eO s m=(s,[]):=by
 unfold eO;rw[if_neg h1,if_neg h3,if_neg h5,if_neg h6,if_neg h7,if_neg h8,if_neg h9,if_neg GL]
def Ps (s:Server) (m:az):(eO s m).2.length<=1:=by
 unfold eO;repeat' split
 .exact Zg s m
 .exact Yx s m
 .exact Yy s m
 .simp
 .show(oO s m).length<=1;unfold oO;split<;>simp
 .simp
 .exact Yz s m
 .simp
 simp
def aad (s:Server) (m:az) (hg:bE s) (hm:bY m=true) (hf:((m.bj==fH s.site)&&decide (1<=m.bX))=true):
 Fn prog 351 [s.av,m.av] (AV.c8 [(ib s m).1.av,dW (ib s m).2]):=by
 refine Fn.go 106 func351 ntmps351 (λW I a U=>?_);have aj:=iU.2 hg;have c6:=hg.ok;have hZ:=hg.small;have ki:=nK hm;have tI:=B9 hm;have lens:m.aK.length<=9223372036854775807/\m.ar.length<=9223372036854775807/\m.waits.length<=9223372036854775807/\m.aE.length<=9223372036854775807:=⟨U.ln 1 9,U.ln 1 12,U.ln 1 13,U.ln 1 14⟩;have h3:=hg.aQ;have nk:=c6.drop m.slot;have hdo:=hP (hg.eJ m.slot).aE;have Kd:=hP ki.2.2.1;have hdv:=gV nk.ar;have hdw:=gV nk.waits;have e9:∀x,x=ct.cells ⟨m.bX,1⟩->(List.map ct.cells s.aQ).set m.slot.toNat x=List.map ct.cells ((eJ s m.slot).aQ.set m.slot.toNat ⟨m.bX,1⟩):=λx h=>by rw[h];exact List.map_set.symm
 refine aA λI a w U=>?_;refine U.alloc rfl bL di λb4 I a w U=>?_;refine fm λI a w U=>?_;refine U.o (.bd dN (.k (.k (.k bf.nil)))) λU=>?_;refine U.o (.c3 (se s m ⟨10,0,0,0,0,⟨0,0⟩,0,false,[],m.slot,m.bX,[],[],[]⟩ (vf ..))) λU=>?_;refine ax λI a w U=>?_;refine cz (λab=>?_) λab=>?_
 .refine aU λI a w U=>?_;refine U.ret rfl (.cons (.sx 0) (.cons .x aZ.nil)) ?_;exact(by rw[Oo hf om];rfl)
 refine aV λI a w U=>?_;refine U.dX [] (MF s m.slot hZ) (an .tt (an .tt aH)) rfl bA rfl λvS I a w aah U=>?_;refine U.alloc rfl bL di λb7 I a w U=>?_;refine Br λI a w U=>?_;refine U.o (.cl (OC (eJ s m.slot).ar m.ar nk.ar ki.1)) λU=>?_;refine yR λI a w U=>?_;refine U.o (.cl (OC (eJ s m.slot).waits m.waits nk.waits ki.2.1)) λU=>?_;refine iG λI a w U=>?_;refine St.lo (σ:=Nat) (14::(run 10 65 [])) ⟨λk=>[(65,AV.int k)],λk=>[Own.box b4 95 [AV.val (.int .i64 0),AV.val (.bool false),AV.rows 2 [],AV.rows 7 [],AV.rows 7 [],AV.rows 3 [],AV.rows 3 []],Own.row vS 97 2 (s.aQ.map ct.cells),Own.box b7 95 [AV.int s.site,AV.bool s.up,AV.val vS,cm (eJ s m.slot).ar,cm (eJ s m.slot).waits,bm ((m.aE.take k).foldl eN (eJ s m.slot).aE),bm s.bq]],λk=>k<=m.aE.length⟩ (λk=>m.aE.length-k) 0 U ?aD ?bh;case aD=>exact Nat.zero_le _
 rintro k I a w aj U;have hk:k<=m.aE.length:=aj;dsimp only at U;refine al λI a w U=>?_;refine cz (λah=>?_) λah=>?_
 .refine aA λI a w U=>?_;refine U.alloc rfl cM fE λqW I a w U=>?_;refine al λI a w U=>?_;obtain⟨I,U⟩:=U.fb 3 14;refine aV λI a w U=>?_;refine U.o (bx (Hg ((m.aE.take k).foldl eN (eJ s m.slot).aE) (ae m.aE k) (by have:=OX (eJ s m.slot).aE m.aE k;omega)) (an .r (an (.t rfl) aH))) λU=>?_;refine aU λI a w U=>?_;have U:=U.drop 3;rw[<-Nd ah] at U;exact U.ag (k+1) (ah)
 refine zt ?_;refine gy λI a w U=>?_;obtain⟨bS,cS,rfl⟩:=U.iS 1 rfl jr;refine df λI a w U=>?_;refine U.o (.bd kD (.k (.k bf.nil))) λU=>?_;refine U.o (gv eM dP .tt .tt (λ_=>by simp only[List.length_map];omega)) λU=>?_;refine U.ja 1 dP .tt .tt rfl (by exact fq om) rfl rfl λa w U=>?_;refine zt ?_;rw[e9] at U;rotate_left
 .rfl
 obtain⟨I,U⟩:=U.fu 1 2 2;rw[show m.aE.take k=m.aE from List.take_of_length_le om] at U;refine Bq λI a w U=>?_;refine U.q .F (.cl (vh (si s m))) λU=>?_;refine ax λI a w U=>?_;refine U.cd (λai=>?_) λai=>?_
 .rw[NR] at ai;replace ai:=nt ai;refine aI λI a w U=>?_;refine U.ret rfl (.cons (.sx 0) (.cons (.nil (sz:=15) rfl) aZ.nil)) ?_;exact(by rw[Hi hf om ai];rfl)
 rw[NR] at ai;replace ai:=nf ai;refine aX λI a w U=>?_;refine U.o (bx (xi (si s m) (iU.1 (by simp only[Bool.and_eq_true] at ai;exact ai.2)).ok (hP (iU.1 (by simp only[Bool.and_eq_true] at ai;exact ai.2)).aE)) (an (.t rfl) aH)) λU=>?_;refine aI λI a w U=>?_;refine U.ret rfl (.cons (.sx 0) (.cons .x aZ.nil)) ?_;exact(by rw[Oq hf om ai];rfl)
def HM (x:aM) (h:C1 x):
 bG prog 64 [x.av] [] (λt:NT=>NT.plain t=x) (λt=>t.owns KK) (λt=>AV.agg t.cells):=by
 refine bG.intro 62 func64 rfl ntmps64 rfl aq (λW I a U=>?_);obtain⟨⟨h1,h2⟩,⟨h3,h4⟩,⟨h5,h6⟩,h7,h8⟩:=h;have U:=U.en (sz:=7) 95;have U:=U.mO;have U:=U.en (sz:=13) 45;have U:=U.mO;have U:=U.en (sz:=1) 40;have U:=U.mO;refine aX λI a w U=>?_;refine U.alloc rfl dz dT λb2 I a w U=>?_;refine zt ?_;have U:=U.dH;have U:=U.dH;have U:=U.dH;refine U.ql 7 [([],none),([],none),([],none),([],none),([8],some (8,[14])),([9],some (9,[15,14])),([7],some (7,[3]))] aq aq rfl ?_;simp only[TD];refine ef ?_;refine aP.rH AV.jd 8 rfl rfl (Zl x.aC h3 h4) (λ_ _ _ _ _ ho e=>zd ho e) (an .r aH) ?_;refine aP.Bx 9 [14] (λa=>AV.agg [AV.int x.time,AV.val (.slice none 0 0),AV.val (a.tmps.getD 14 undef),AV.val (.slice none 0 0),AV.val (.slice none 0 0)]) rfl rfl rfl rfl (λa b h=>by simp only[List.forall_mem_cons] at h;simp only[h]) rfl (λF a I he=>Ok.to (.bd ny (.k (bf.c KG rfl .tt (rC (t:=14) he) bf.nil)))) ?_;refine aP.alloc 7 rfl rfl dz dT<|aP.rh ?_;intro γ I a w U;obtain⟨b3,U⟩:=U.nv (d:=3) 7 rfl rfl;change St _ _ [Own.row (.slice none 0 0) 95 7 [],Own.many [],Own.row (.slice none 0 0) 45 13 [],Own.many [],Own.row (.slice none 0 0) 40 1 [],Own.many [],Own.box b2 28 [AV.val (.int .i64 0),AV.rows 7 [],AV.rows 15 [],AV.rows 13 [],AV.rows 1 []],Own.box b3 28 _,Own.au _ _ _ (γ 14) (a.tmps.getD 14 undef),Own.is (AV.agg [AV.int x.time,AV.val (.slice none 0 0),AV.val (a.tmps.getD 14 undef),AV.val (.slice none 0 0),AV.val (.slice none 0 0)]) (a.tmps.getD 15 undef)] _ _ _ at U;obtain⟨⟨m6,t14⟩,qO,U⟩:=U.qj (d:=14) 8 rfl;replace qO:t14.map WT.plain=x.aC:=qO;have U:=U.rD (d:=15) 9 rfl;have HN:a.tmps.getD 14 undef=m6:=U.env 14 _ rfl;rw[HN] at U;have U:=U.nf;have Ak:=U.mP 10 rfl;show wpList _ _ _ _ _ _;refine U.sb 7 λU=>?_;refine aU λI a w U=>?_;refine St.lo (σ:=List ST×Value) (5::(run 12 19 [])) ⟨λ⟨ss,p⟩=>[(19,AV.int (ss.length:Nat))],λ⟨ss,p⟩=>[Own.row p 95 7 (ss.map ST.cells),Own.many (ss.map λx=>Own.many (ST.owns KK x)),Own.row (.slice none 0 0) 45 13 (([]:List CT).map CT.cells),Own.many (([]:List CT).map λx=>Own.many (CT.owns KK x)),Own.row (.slice none 0 0) 40 1 (([]:List DT).map DT.cells),Own.many (([]:List DT).map λx=>Own.many (DT.owns KK x)),Own.box b2 28 [AV.val (.int .i64 0),AV.rows 7 [],AV.rows 15 [],AV.rows 13 [],AV.rows 1 []],Own.box b3 28 [AV.int x.time,AV.val p,AV.val m6,AV.val (.slice none 0 0),AV.val (.slice none 0 0)],Own.gone,Own.gone,Own.words KK m6 t14],λ⟨ss,p⟩=>ss.map ST.plain=x.aF.take ss.length/\ss.length<=x.aF.length⟩ (λ⟨ss,p⟩=>x.aF.length-ss.length) ([],(.slice none 0 0)) U ?aD ?bh;case aD=>exact⟨by simp,Nat.zero_le _⟩
 rintro⟨ss,p⟩ I a w aj U;obtain⟨vu,vw⟩:=aj;dsimp only at U;refine al λI a w U=>?_;refine cz (λab=>?_) λab=>?_
 .refine aA λI a w U=>?_;refine U.alloc rfl bL di λb5 I a w U=>?_;refine U.sb 11 λU=>?_;obtain⟨I,U⟩:=U.fb 11 5;refine zt ?_;have U:=U.dH;have U:=U.dH;refine U.ql 5 [([],none),([7],none),([],none),([12],some (12,[26])),([13],some (13,[27,26]))] aq aq rfl ?_;simp only[TD];refine br ?_;refine .r [7] (.lb 7) ?_;refine br ?_;refine aP.rH (AV.kS 7) 12 rfl rfl (Zm (ae x.aF ss.length) (h2 _ (bK ab))) (λ_ _ _ _ _ _ e=>sY e) (an .tt aH)<|aP.BJ 13 rfl rfl jw bL rfl wk rfl rfl rfl rfl<|aP.rh ?_;intro γ I a w U;change St _ _ [Own.row p 95 7 (ss.map ST.cells),Own.many (ss.map λx=>Own.many (ST.owns KK x)),Own.row (.slice none 0 0) 45 13 (([]:List CT).map CT.cells),Own.many (([]:List CT).map λx=>Own.many (CT.owns KK x)),Own.row (.slice none 0 0) 40 1 (([]:List DT).map DT.cells),Own.many (([]:List DT).map λx=>Own.many (DT.owns KK x)),Own.box b2 28 [AV.val (.int .i64 0),AV.rows 7 [],AV.rows 15 [],AV.rows 13 [],AV.rows 1 []],Own.box b3 28 [AV.int x.time,AV.val p,AV.val m6,AV.val (.slice none 0 0),AV.val (.slice none 0 0)],Own.gone,Own.gone,Own.words KK m6 t14,Own.gone,Own.au _ _ _ (γ 26) (a.tmps.getD 26 undef),Own.is (.rows 7 [eA (a.tmps.getD 26 undef)]) (a.tmps.getD 27 undef)] _ _ _ at U;obtain⟨Pt,e26,U⟩:=U.qj (d:=26) 12 rfl;have U:=U.BK (d:=27) (t:=26) 13 rfl rfl rfl;show wpList _ _ _ _ _ _;refine U.ap 0 λuY a w U=>?_;refine U.o .fv λU=>?_;try have Pu:=U.cU 0 rfl
  refine U.s1 7 λU=>?_;refine ax λI a w U=>?_;rw[uE] at U;have U:=U.uD 14 1 Pt rfl rfl;have U:=U.drop 11;refine U.again (ss++[Pt],uY) ?bM ?bN bF ?bO (by repeat(first|exact Env.le_rfl|refine Env.dj rfl ?_));case bM=>simp;omega
  case bN=>exact nz ⟨vu,vw⟩ ab e26
  case bO=>exact(Env.bt rfl (by exact congrArg AV.int be) Env.le_nil)
 refine wp_exit<|bU<|bU<|eb<|ba<|wp_seq<|wp_seq ?_;have vu:=nA ⟨vu,vw⟩ om;refine aU λI a w U=>?_;refine St.lo (σ:=List CT×Value) (7::(run 12 34 [])) ⟨λ⟨cs,q⟩=>[(34,AV.int (cs.length:Nat))],λ⟨cs,q⟩=>[Own.row p 95 7 (ss.map ST.cells),Own.many (ss.map λx=>Own.many (ST.owns KK x)),Own.row q 45 13 (cs.map CT.cells),Own.many (cs.map λx=>Own.many (CT.owns KK x)),Own.row (.slice none 0 0) 40 1 (([]:List DT).map DT.cells),Own.many (([]:List DT).map λx=>Own.many (DT.owns KK x)),Own.box b2 28 [AV.val (.int .i64 0),AV.rows 7 [],AV.rows 15 [],AV.rows 13 [],AV.rows 1 []],Own.box b3 28 [AV.int x.time,AV.val p,AV.val m6,AV.val q,AV.val (.slice none 0 0)],Own.gone,Own.gone,Own.words KK m6 t14],λ⟨cs,q⟩=>cs.map CT.plain=x.calls.take cs.length/\cs.length<=x.calls.length⟩ (λ⟨cs,q⟩=>x.calls.length-cs.length) ([],(.slice none 0 0)) U ?eL ?jX;case eL=>exact⟨by simp,Nat.zero_le _⟩
 rintro⟨cs,q⟩ I a w aj U;obtain⟨gu,Pv⟩:=aj;dsimp only at U;refine al λI a w U=>?_;refine cz (λah=>?_) λah=>?_
 .refine aA λI a w U=>?_;refine U.alloc rfl dm g0 λb7 I a w U=>?_;refine U.sb 11 λU=>?_;obtain⟨I,U⟩:=U.fb 11 7;refine zt ?_;have U:=U.dH;have U:=U.dH;refine U.ql 5 [([],none),([7],none),([],none),([12],some (12,[41])),([13],some (13,[42,41]))] aq aq rfl ?_;simp only[TD];refine br ?_;refine .r [7] (.lb 7) ?_;refine br ?_;refine aP.rH (AV.kS 13) 12 rfl rfl (Zs (ae x.calls cs.length) (h6 _ (bK ah))) (λ_ _ _ _ _ _ e=>sY e) (an .tt aH)<|aP.BJ 13 rfl rfl gz dm rfl yT rfl rfl rfl rfl<|aP.rh ?_;intro γ I a w U;change St _ _ [Own.row p 95 7 (ss.map ST.cells),Own.many (ss.map λx=>Own.many (ST.owns KK x)),Own.row q 45 13 (cs.map CT.cells),Own.many (cs.map λx=>Own.many (CT.owns KK x)),Own.row (.slice none 0 0) 40 1 (([]:List DT).map DT.cells),Own.many (([]:List DT).map λx=>Own.many (DT.owns KK x)),Own.box b2 28 [AV.val (.int .i64 0),AV.rows 7 [],AV.rows 15 [],AV.rows 13 [],AV.rows 1 []],Own.box b3 28 [AV.int x.time,AV.val p,AV.val m6,AV.val q,AV.val (.slice none 0 0)],Own.gone,Own.gone,Own.words KK m6 t14,Own.gone,Own.au _ _ _ (γ 41) (a.tmps.getD 41 undef),Own.is (.rows 13 [eA (a.tmps.getD 41 undef)]) (a.tmps.getD 42 undef)] _ _ _ at U;obtain⟨Pw,HO,U⟩:=U.qj (d:=41) 12 rfl;have U:=U.BK (d:=42) (t:=41) 13 rfl rfl rfl;show wpList _ _ _ _ _ _;refine U.ap 2 λtM a w U=>?_;refine U.o .fv λU=>?_;try have HP:=U.cU 2 rfl
  refine U.s1 7 λU=>?_;refine ax λI a w U=>?_;rw[uE] at U;have U:=U.uD 14 3 Pw rfl rfl;have U:=U.drop 11;refine U.again (cs++[Pw],tM) ?nF ?nG bF ?nH (by repeat(first|exact Env.le_rfl|refine Env.dj rfl ?_));case nF=>simp;omega
  case nG=>exact nz ⟨gu,Pv⟩ ah HO
  case nH=>exact(Env.bt rfl (by exact congrArg AV.int be) Env.le_nil)
 refine wp_exit<|bU<|bU<|eb<|ba<|wp_seq<|wp_seq ?_;have gu:=nA ⟨gu,Pv⟩ om;refine aU λI a w U=>?_;refine St.lo (σ:=List DT×Value) (9::(run 12 49 [])) ⟨λ⟨ds,r⟩=>[(49,AV.int (ds.length:Nat))],λ⟨ds,r⟩=>[Own.row p 95 7 (ss.map ST.cells),Own.many (ss.map λx=>Own.many (ST.owns KK x)),Own.row q 45 13 (cs.map CT.cells),Own.many (cs.map λx=>Own.many (CT.owns KK x)),Own.row r 40 1 (ds.map DT.cells),Own.many (ds.map λx=>Own.many (DT.owns KK x)),Own.box b2 28 [AV.val (.int .i64 0),AV.rows 7 [],AV.rows 15 [],AV.rows 13 [],AV.rows 1 []],Own.box b3 28 [AV.int x.time,AV.val p,AV.val m6,AV.val q,AV.val r],Own.gone,Own.gone,Own.words KK m6 t14],λ⟨ds,r⟩=>ds.map DT.x=x.seen.take ds.length/\ds.length<=x.seen.length⟩ (λ⟨ds,r⟩=>x.seen.length-ds.length) ([],(.slice none 0 0)) U ?iA ?oL;case iA=>exact⟨by simp,Nat.zero_le _⟩
 rintro⟨ds,r⟩ I a w aj U;obtain⟨Dl,Px⟩:=aj;dsimp only at U;refine al λI a w U=>?_;refine cz (λai=>?_) λai=>?_
 .refine aI λI a w U=>?_;have U:=U.dH;have U:=U.dH;refine U.ql 5 [([],none),([7],none),([],none),([11],some (11,[56])),([12],some (12,[57,56]))] aq aq rfl ?_;simp only[TD];refine br ?_;refine .r [7] (.lb 7) ?_;refine br ?_;refine aP.gh 11 rfl rfl (oc (ae x.seen ds.length) (h8 _ (bK ai))) (an .r aH) ?_;refine aP.TX 12 rfl rfl pb iH rfl Bv rfl rfl<|.nil ?_;intro I a w U;change St _ _ [Own.row p 95 7 (ss.map ST.cells),Own.many (ss.map λx=>Own.many (ST.owns KK x)),Own.row q 45 13 (cs.map CT.cells),Own.many (cs.map λx=>Own.many (CT.owns KK x)),Own.row r 40 1 (ds.map DT.cells),Own.many (ds.map λx=>Own.many (DT.owns KK x)),Own.box b2 28 [AV.val (.int .i64 0),AV.rows 7 [],AV.rows 15 [],AV.rows 13 [],AV.rows 1 []],Own.box b3 28 [AV.int x.time,AV.val p,AV.val m6,AV.val q,AV.val r],Own.gone,Own.gone,Own.words KK m6 t14,Own.row (a.tmps.getD 56 undef) 125 3 ((ae x.seen ds.length).map ao.cells),Own.is (.rows 1 [[.val (a.tmps.getD 56 undef)]]) (a.tmps.getD 57 undef)] _ _ _ at U;have U:=U.rD (d:=57) 12 rfl;generalize a.tmps.getD 56 undef=HQ at U;show wpList _ _ _ _ _ _;refine U.ap 4 λDm a w U=>?_;refine U.o .fv λU=>?_;try have aaj:=U.cU 4 rfl
  refine U.s1 7 λU=>?_;refine ax λI a w U=>?_;have U:=U.drop 12;change St _ _ [Own.row p 95 7 (ss.map ST.cells),Own.many (ss.map λx=>Own.many (ST.owns KK x)),Own.row q 45 13 (cs.map CT.cells),Own.many (cs.map λx=>Own.many (CT.owns KK x)),Own.row Dm 40 1 (ds.map DT.cells++[DT.cells (⟨ae x.seen ds.length,HQ⟩:DT)]),_,_,_,_,_,_,_] _ _ _ at U;rw[uE] at U;have U:=U.uD 11 5 (⟨ae x.seen ds.length,HQ⟩:DT) rfl rfl;have U:=U.drop 11;refine U.again (ds++[(⟨ae x.seen ds.length,HQ⟩:DT)],Dm) ?mu3 ?aal bF ?aam (by repeat(first|exact Env.le_rfl|refine Env.dj rfl ?_));case mu3=>simp;omega
  case aal=>exact nz ⟨Dl,Px⟩ ai rfl
  case aam=>exact(Env.bt rfl (by exact congrArg AV.int be) Env.le_nil)
 refine wp_exit<|bU<|bU<|eb<|ba<|wp_seq ?_;have Dl:=nA ⟨Dl,Px⟩ om;refine St.region<|U.o (.ls 7) λU=>?_;refine al λI a w U=>?_;have U:=U.sZ 2;have U:=U.tie 9;have U:=U.sZ 2;have U:=U.tie 8;have U:=U.sZ 2;have U:=U.tie 7;refine U.cE (⟨x.time,p,m6,q,r,ss,t14,cs,ds⟩:NT) [5,4,6,7] rfl (.cons (.sx 0) .nil) (by show NT.plain _=x;unfold NT.plain;rw[vu,gu,Dl,qO]) rfl rfl
def aan (x:Server) (left:Int) (h0:0<=left) (h1:left<=1048576):
 Fn prog 193 [x.av,AV.int left] (AV.int (dx left (jZ x))):=by
 refine Fn.go 36 func193 ntmps193 (λW I a U=>?_);refine bV λI a w U=>?_;refine U.o (.cl (XO _ _ h0 h1)) λU=>?_;refine aI λI a w U=>?_;refine cz (λab=>?_) λab=>?_
 .refine aW ?_;exact cj (iy ab (by unfold jZ;omega))
 refine aV λI a w U=>?_;refine U.o (.cl (Db _ _ ab (ke h1))) λU=>?_;rw[kd ab] at U;refine aI λI a w U=>?_;refine cz (λah=>?_) λah=>?_
 .refine aW ?_;exact cj (iy ah (by unfold jZ;omega))
 refine aV λI a w U=>?_;refine U.o (.cl (Db _ _ ah (ke h1))) λU=>?_;rw[kd ah] at U;refine aI λI a w U=>?_;refine cz (λai=>?_) λai=>?_
 .refine aW ?_;exact cj (iy ai (by unfold jZ;omega))
 refine aV λI a w U=>?_;refine U.o (.cl (th _ _ ai (ke h1))) λU=>?_;rw[kd ai] at U;refine aI λI a w U=>?_;refine cz (λaG=>?_) λaG=>?_
 .refine aW ?_;exact cj (iy aG (by unfold jZ;omega))
 refine aV λI a w U=>?_;refine U.o (.cl (th _ _ aG (ke h1))) λU=>?_;rw[kd aG] at U;refine aI λI a w U=>?_;refine cz (λaL=>?_) λaL=>?_
 .refine aW ?_;exact cj (iy aL (by unfold jZ;omega))
 refine cK ?_;exact cj rfl
def aao (l:List (Server)) (left:Int) (h0:0<=left) (h1:left<=1048576):
 Fn prog 97 [n3 l,AV.int left] (AV.int (dx left (so l))):=by
 refine Fn.go 27 func97 ntmps97 (λW I a U=>?_);have hle:=U.dD (t:=0) rfl;refine et λI a w U=>?_;refine cz (λab=>?_) λab=>?_
 .refine aW ?_;exact cj (qE ab (by unfold so;omega))
 refine al λI a w U=>?_;refine St.sF (σ:=Nat) (1::(run 2 4 (run 14 12 []))) ⟨λk=>[(5,AV.int k),(1,AV.int (dx left (l.length+eK jZ (l.take k))))],λk=>[],λk=>k<=l.length/\0<=dx left (l.length+eK jZ (l.take k))⟩ (λk=>l.length-k) 0 U rfl ?aD ?nE ?bh;case aD=>exact⟨Nat.zero_le _,by simp only[dx,eK,List.take_zero,List.map_nil,List.sum_nil];split<;>omega⟩
 case nE=>exact(Env.bt rfl bF (Env.bt rfl (by exact congrArg AV.int (by simp only[dx,eK,List.take_zero,List.map_nil,List.sum_nil];split<;>omega)) Env.le_nil))
 rintro k I a w aj U;obtain⟨hk,lC⟩:=aj;refine aU λI a w U=>?_;refine cz (λah=>?_) λah=>?_
 .refine bV λI a w U=>?_;refine U.o (.c2 (aan _ _ lC (ke h1))) λU=>?_;rw[kd lC] at U;refine aI λI a w U=>?_;refine U.cd (λai=>?_) λai=>?_
  .simp only[decide_eq_true_eq] at ai;refine aW ?_;exact cj (iy ai (by have e1:=kg (f:=jZ) ah;have e2:=tv (f:=jZ) l (k+1);unfold so;omega))
  simp only[decide_eq_false_iff_not,Int.not_lt] at ai;refine aI λI a w U=>?_;refine U.again (k+1) ?bM ?bN bF ?bO (by repeat(first|exact Env.le_rfl|refine Env.dj rfl ?_));case bM=>omega
  case bN=>exact⟨ah,by rw[kg ah,<-Nat.add_assoc];exact ai⟩
  case bO=>exact(Env.bt rfl bF (Env.bt rfl (by exact congrArg AV.int (by rw[kg ah,<-Nat.add_assoc])) Env.le_nil))
 refine zt ?_;refine cK ?_;exact cj (by unfold so;rw[List.take_of_length_le om])
def aap (x:Call) (left:Int) (h0:0<=left) (h1:left<=1048576):
 Fn prog 195 [x.av,AV.int left] (AV.int (dx left (jG x))):=by
 refine Fn.go 30 func195 ntmps195 (λW I a U=>?_);refine bV λI a w U=>?_;refine U.o (.cl (XN _ _ h0 h1)) λU=>?_;refine aI λI a w U=>?_;refine cz (λab=>?_) λab=>?_
 .refine aW ?_;exact cj (iy ab (by unfold jG;omega))
 refine aV λI a w U=>?_;refine U.o (.cl (th _ _ ab (ke h1))) λU=>?_;rw[kd ab] at U;refine aI λI a w U=>?_;refine cz (λah=>?_) λah=>?_
 .refine aW ?_;exact cj (iy ah (by unfold jG;omega))
 refine aV λI a w U=>?_;refine U.o (.cl (Zw _ _ ah (ke h1))) λU=>?_;rw[kd ah] at U;refine aI λI a w U=>?_;refine cz (λai=>?_) λai=>?_
 .refine aW ?_;exact cj (iy ai (by unfold jG;omega))
 refine aV λI a w U=>?_;refine U.o (.cl (th _ _ ai (ke h1))) λU=>?_;rw[kd ai] at U;refine aI λI a w U=>?_;refine cz (λaG=>?_) λaG=>?_
 .refine aW ?_;exact cj (iy aG (by unfold jG;omega))
 refine cK ?_;exact cj rfl
def aaq (l:List (Call)) (left:Int) (h0:0<=left) (h1:left<=1048576):
 Fn prog 99 [jb l,AV.int left] (AV.int (dx left (qQ l))):=by
 refine Fn.go 27 func99 ntmps99 (λW I a U=>?_);have hle:=U.dD (t:=0) rfl;refine et λI a w U=>?_;refine cz (λab=>?_) λab=>?_
 .refine aW ?_;exact cj (qE ab (by unfold qQ;omega))
 refine al λI a w U=>?_;refine St.sF (σ:=Nat) (1::(run 2 4 (run 14 12 []))) ⟨λk=>[(5,AV.int k),(1,AV.int (dx left (l.length+eK jG (l.take k))))],λk=>[],λk=>k<=l.length/\0<=dx left (l.length+eK jG (l.take k))⟩ (λk=>l.length-k) 0 U rfl ?aD ?nE ?bh;case aD=>exact⟨Nat.zero_le _,by simp only[dx,eK,List.take_zero,List.map_nil,List.sum_nil];split<;>omega⟩
 case nE=>exact(Env.bt rfl bF (Env.bt rfl (by exact congrArg AV.int (by simp only[dx,eK,List.take_zero,List.map_nil,List.sum_nil];split<;>omega)) Env.le_nil))
 rintro k I a w aj U;obtain⟨hk,lC⟩:=aj;refine aU λI a w U=>?_;refine cz (λah=>?_) λah=>?_
 .refine bV λI a w U=>?_;refine U.o (.c2 (aap _ _ lC (ke h1))) λU=>?_;rw[kd lC] at U;refine aI λI a w U=>?_;refine U.cd (λai=>?_) λai=>?_
  .simp only[decide_eq_true_eq] at ai;refine aW ?_;exact cj (iy ai (by have e1:=kg (f:=jG) ah;have e2:=tv (f:=jG) l (k+1);unfold qQ;omega))
  simp only[decide_eq_false_iff_not,Int.not_lt] at ai;refine aI λI a w U=>?_;refine U.again (k+1) ?bM ?bN bF ?bO (by repeat(first|exact Env.le_rfl|refine Env.dj rfl ?_));case bM=>omega
  case bN=>exact⟨ah,by rw[kg ah,<-Nat.add_assoc];exact ai⟩
  case bO=>exact(Env.bt rfl bF (Env.bt rfl (by exact congrArg AV.int (by rw[kg ah,<-Nat.add_assoc])) Env.le_nil))
 refine zt ?_;refine cK ?_;exact cj (by unfold qQ;rw[List.take_of_length_le om])
def Py (x:aM) (left:Int) (h0:0<=left) (h1:left<=1048576):
 Fn prog 37 [x.av,AV.int left] (AV.int (dx left (ko x))):=by
 refine Fn.go 30 func37 ntmps37 (λW I a U=>?_);refine bV λI a w U=>?_;refine U.o (.cl (aao _ _ h0 h1)) λU=>?_;refine aI λI a w U=>?_;refine cz (λab=>?_) λab=>?_
 .refine aW ?_;exact cj (iy ab (by unfold ko;omega))
 refine aV λI a w U=>?_;refine U.o (.cl (Zv _ _ ab (ke h1))) λU=>?_;rw[kd ab] at U;refine aI λI a w U=>?_;refine cz (λah=>?_) λah=>?_
 .refine aW ?_;exact cj (iy ah (by unfold ko;omega))
 refine aV λI a w U=>?_;refine U.o (.cl (aaq _ _ ah (ke h1))) λU=>?_;rw[kd ah] at U;refine aI λI a w U=>?_;refine cz (λai=>?_) λai=>?_
 .refine aW ?_;exact cj (iy ai (by unfold ko;omega))
 refine aV λI a w U=>?_;refine U.o (.cl (Zx _ _ ai (ke h1))) λU=>?_;rw[kd ai] at U;refine aI λI a w U=>?_;refine cz (λaG=>?_) λaG=>?_
 .refine aW ?_;exact cj (iy aG (by unfold ko;omega))
 refine cK ?_;exact cj rfl
def Dn (l:List (aJ)) (h:oQ l<=1048576):
 bG prog 262 [cm l] [] (λp:Value×List VT=>p.2.map VT.x=l) (λp=>[Own.ar KK p.1 p.2]) (λp=>AV.val p.1):=by
 refine bG.intro 23 func262 rfl ntmps262 rfl aq (λW I a U=>?_);have hl:l.length<=1048576:=by unfold oQ at h;omega
 refine aV λI a w U=>?_;refine U.make rfl du bI dY rfl .tt .tt om λb7 a w U=>?_;have U:=U.mO;change St _ _ [Own.row (.slice (some ⟨b7,0,none⟩) l.length l.length) KK.bl 7 (([]:List VT).map VT.cells++List.replicate (l.length-([]:List VT).length) [AV.val (.int .i64 0),AV.val (.int .i64 0),AV.val (.int .i64 0),AV.val (.int .i64 0),AV.val (.int .i64 0),AV.val (.int .i64 0),AV.rows 3 []]),Own.many (([]:List VT).map λx=>Own.many (VT.owns KK x))] _ _ _ at U;refine ax λI a w U=>?_;refine St.lo (σ:=List VT) (4::(run 14 8 [])) ⟨λts=>[(4,AV.int (ts.length:Nat))],λts=>[Own.row (.slice (some ⟨b7,0,none⟩) l.length l.length) KK.bl 7 (ts.map VT.cells++List.replicate (l.length-ts.length) [AV.val (.int .i64 0),AV.val (.int .i64 0),AV.val (.int .i64 0),AV.val (.int .i64 0),AV.val (.int .i64 0),AV.val (.int .i64 0),AV.rows 3 []]),Own.many (ts.map λx=>Own.many (VT.owns KK x))],λts=>ts.map VT.x=l.take ts.length/\ts.length<=l.length⟩ (λts=>l.length-ts.length) [] U ?aD ?bh;case aD=>exact⟨by simp,Nat.zero_le _⟩
 rintro ts I a w aj U;obtain⟨ig,hk⟩:=aj;dsimp only at U;refine aU λI a w U=>?_;refine cz (λab=>?_) λab=>?_
 .refine aR λI a w U=>?_;refine U.o ((by first|exact fT Fm Fg .tt .tt (λ_=>by first|omega|(simp only[List.length_append,List.length_map,List.length_replicate];omega))|exact iO Fm Fg .tt .tt (λ_=>by first|omega|(simp only[List.length_append,List.length_map,List.length_replicate];omega))|exact iZ Fm Fg .tt .tt (λ_=>by first|omega|(simp only[List.length_append,List.length_map,List.length_replicate];omega)))) λU=>?_;refine U.o .la λU=>?_;refine U.dX [] (N2 (ae l ts.length) (by have:=va (f:=ow) ab;unfold oQ at h;omega)) (an .tt aH) rfl bA rfl λt I a w nU U=>?_;change St _ _ ([Own.row (.slice (some ⟨b7,0,none⟩) l.length l.length) KK.bl 7 (ts.map VT.cells++List.replicate (l.length-ts.length) [AV.val (.int .i64 0),AV.val (.int .i64 0),AV.val (.int .i64 0),AV.val (.int .i64 0),AV.val (.int .i64 0),AV.val (.int .i64 0),AV.rows 3 []]),Own.many (ts.map λx=>Own.many (VT.owns KK x))]++VT.owns KK t) _ _ _ at U;refine U.o (cw 0 du bI .tt .tt rfl (λ_=>by first|omega|(simp only[List.length_append,List.length_map,List.length_replicate];omega))) λU=>?_;refine U.zc 0 bI .tt .tt rfl (by simp only[List.length_append,List.length_map,List.length_replicate];omega) rfl rfl λa w U=>?_;refine aX λI a w U=>?_;refine U.o (cr .tt .c (λ_=>by first|omega|(simp only[List.length_append,List.length_map,List.length_replicate];omega))) λU=>?_;refine al λI a w U=>?_;have U:=St.wC (m:=l.length-(ts++[t]).length) t U ff rfl rfl;refine U.again (ts++[t]) ?bM ?bN bF ?bO (by repeat(first|exact Env.le_rfl|refine Env.dj rfl ?_));case bM=>simp;omega
  case bN=>exact nz ⟨ig,hk⟩ ab nU
  case bO=>exact(Env.bt rfl (by exact congrArg AV.int be) Env.le_nil)
 refine zt ?_;refine ax λI a w U=>?_;have U:=U.wD om;have aT:=nA ⟨ig,hk⟩ om;refine U.cE (_,ts) [0] rfl (.cons (.t rfl) .nil) aT rfl rfl
def aar (x:az) (h:kW x<=1048576):
 bG prog 200 [x.av] [] (λt:WT=>WT.plain t=x) (λt=>t.owns KK) (λt=>AV.agg t.cells):=by
 refine bG.intro 52 func200 rfl ntmps200 rfl aq (λW I a U=>?_);refine aX λI a w U=>?_;refine U.alloc rfl cH dN λb2 I a w U=>nn<|sr<|U.alloc rfl cH dN λb3 I a w U=>?_;refine KB λI a w U=>?_;refine U.o (.c1 (CD ..)) λU=>U.o .fv λU=>U.mD 1 jg .tt .tt rfl rfl rfl λa w U=>?_;refine qg λI a w U=>?_;refine U.gh (tE x.aK (by unfold kW at h;omega)) (an .r aH) rfl λI Pp a w U=>?_;refine U.o .fv λU=>?_;try have XF:=U.cU 2 rfl
 refine yS λI a w U=>?_;refine U.dX [] (Dn x.ar (by unfold kW at h;omega)) (an .r aH) rfl bA rfl λp41 I a w HR U=>?_;obtain⟨xj,t41⟩:=p41;replace HR:t41.map VT.x=x.ar:=HR;have U:=U.nf;have aat:=U.mP 3 rfl;refine aR λI a w U=>?_;refine U.dX [] (Dn x.waits (by unfold kW at h;omega)) (an .r aH) rfl bA rfl λp45 I a w HT U=>?_;obtain⟨Au,t45⟩:=p45;replace HT:t45.map VT.x=x.waits:=HT;have U:=U.nf;have aav:=U.mP 4 rfl;refine aR λI a w U=>?_;refine U.gh (tE x.aE (by unfold kW at h;omega)) (an .r aH) rfl λI v49 a w U=>?_;refine U.o .fv λU=>?_;try have aax:=U.cU 5 rfl
 refine aI λI a w U=>?_;refine U.cE (⟨x,Pp,xj,Au,v49,t41,t45⟩:WT) [2,3,4,5] rfl (.cons (.sx 0) .nil) (by show WT.plain _=x;unfold WT.plain mK;rw[HR,HT]) rfl rfl
def aay (l:List (az)) (h:sk l<=1048576):
 bG prog 104 [dW l] [] (λp:Value×List WT=>p.2.map WT.plain=l) (λp=>[Own.words KK p.1 p.2]) (λp=>AV.val p.1):=by
 refine bG.intro 23 func104 rfl ntmps104 rfl aq (λW I a U=>?_);have hl:l.length<=1048576:=by unfold sk at h;omega
 refine aV λI a w U=>?_;refine U.make rfl dC cH dN rfl .tt .tt om λb7 a w U=>?_;have U:=U.mO;change St _ _ [Own.row (.slice (some ⟨b7,0,none⟩) l.length l.length) KK.word 15 (([]:List WT).map WT.cells++List.replicate (l.length-([]:List WT).length) [AV.val (.int .i64 0),AV.val (.int .i64 0),AV.val (.int .i64 0),AV.val (.int .i64 0),AV.val (.int .i64 0),AV.val (.int .i64 0),AV.val (.int .i64 0),AV.val (.int .i64 0),AV.val (.bool false),AV.rows 3 [],AV.val (.int .i64 0),AV.val (.int .i64 0),AV.rows 7 [],AV.rows 7 [],AV.rows 3 []]),Own.many (([]:List WT).map λx=>Own.many (WT.owns KK x))] _ _ _ at U;refine ax λI a w U=>?_;refine St.lo (σ:=List WT) (4::(run 14 8 [])) ⟨λts=>[(4,AV.int (ts.length:Nat))],λts=>[Own.row (.slice (some ⟨b7,0,none⟩) l.length l.length) KK.word 15 (ts.map WT.cells++List.replicate (l.length-ts.length) [AV.val (.int .i64 0),AV.val (.int .i64 0),AV.val (.int .i64 0),AV.val (.int .i64 0),AV.val (.int .i64 0),AV.val (.int .i64 0),AV.val (.int .i64 0),AV.val (.int .i64 0),AV.val (.bool false),AV.rows 3 [],AV.val (.int .i64 0),AV.val (.int .i64 0),AV.rows 7 [],AV.rows 7 [],AV.rows 3 []]),Own.many (ts.map λx=>Own.many (WT.owns KK x))],λts=>ts.map WT.plain=l.take ts.length/\ts.length<=l.length⟩ (λts=>l.length-ts.length) [] U ?aD ?bh;case aD=>exact⟨by simp,Nat.zero_le _⟩
 rintro ts I a w aj U;obtain⟨ig,hk⟩:=aj;dsimp only at U;refine aU λI a w U=>?_;refine cz (λab=>?_) λab=>?_
 .refine aR λI a w U=>?_;refine U.o ((by first|exact fT Fj Fe .tt .tt (λ_=>by first|omega|(simp only[List.length_append,List.length_map,List.length_replicate];omega))|exact iO Fj Fe .tt .tt (λ_=>by first|omega|(simp only[List.length_append,List.length_map,List.length_replicate];omega))|exact iZ Fj Fe .tt .tt (λ_=>by first|omega|(simp only[List.length_append,List.length_map,List.length_replicate];omega)))) λU=>?_;refine U.o .la λU=>?_;refine U.dX [] (aar (ae l ts.length) (by have:=va (f:=kW) ab;unfold sk at h;omega)) (an .tt aH) rfl bA rfl λt I a w nU U=>?_;change St _ _ ([Own.row (.slice (some ⟨b7,0,none⟩) l.length l.length) KK.word 15 (ts.map WT.cells++List.replicate (l.length-ts.length) [AV.val (.int .i64 0),AV.val (.int .i64 0),AV.val (.int .i64 0),AV.val (.int .i64 0),AV.val (.int .i64 0),AV.val (.int .i64 0),AV.val (.int .i64 0),AV.val (.int .i64 0),AV.val (.bool false),AV.rows 3 [],AV.val (.int .i64 0),AV.val (.int .i64 0),AV.rows 7 [],AV.rows 7 [],AV.rows 3 []]),Own.many (ts.map λx=>Own.many (WT.owns KK x))]++WT.owns KK t) _ _ _ at U;refine U.o (cw 0 dC cH .tt .tt rfl (λ_=>by first|omega|(simp only[List.length_append,List.length_map,List.length_replicate];omega))) λU=>?_;refine U.zc 0 cH .tt .tt rfl (by simp only[List.length_append,List.length_map,List.length_replicate];omega) rfl rfl λa w U=>?_;refine aX λI a w U=>?_;refine U.o (cr .tt .c (λ_=>by first|omega|(simp only[List.length_append,List.length_map,List.length_replicate];omega))) λU=>?_;refine al λI a w U=>?_;have U:=St.wC (m:=l.length-(ts++[t]).length) t U ff rfl rfl;refine U.again (ts++[t]) ?bM ?bN bF ?bO (by repeat(first|exact Env.le_rfl|refine Env.dj rfl ?_));case bM=>simp;omega
  case bN=>exact nz ⟨ig,hk⟩ ab nU
  case bO=>exact(Env.bt rfl (by exact congrArg AV.int be) Env.le_nil)
 refine zt ?_;refine ax λI a w U=>?_;have U:=U.wD om;have aT:=nA ⟨ig,hk⟩ om;refine U.cE (_,ts) [0] rfl (.cons (.t rfl) .nil) aT rfl rfl
def aaz (x:Server) (h:jZ x<=1048576):
 bG prog 199 [x.av] [] (λt:ST=>ST.plain t=x) (λt=>t.owns KK) (λt=>AV.agg t.cells):=by
 refine bG.intro 31 func199 rfl ntmps199 rfl aq (λW I a U=>?_);refine aX λI a w U=>?_;refine U.alloc rfl bL di λb2 I a w U=>nn<|sr<|U.alloc rfl bL di λb3 I a w U=>?_;refine qg λI a w U=>?_;refine U.gh (YZ x.aQ (by unfold jZ at h;omega)) (an .r aH) rfl λI zw a w U=>?_;refine U.o .fv λU=>?_;try have Zq:=U.cU 2 rfl
 refine aV λI a w U=>?_;refine U.dX [] (Dn x.ar (by unfold jZ at h;omega)) (an .r aH) rfl bA rfl λp16 I a w Dp U=>?_;obtain⟨rL,t16⟩:=p16;replace Dp:t16.map VT.x=x.ar:=Dp;have U:=U.nf;have ahn:=U.mP 3 rfl;refine aR λI a w U=>?_;refine U.dX [] (Dn x.waits (by unfold jZ at h;omega)) (an .r aH) rfl bA rfl λp20 I a w nU U=>?_;obtain⟨v20,t20⟩:=p20;replace nU:t20.map VT.x=x.waits:=nU;have U:=U.nf;have Pz:=U.mP 4 rfl;refine aR λI a w U=>?_;refine U.gh (tE x.aE (by unfold jZ at h;omega)) (an .r aH) rfl λI uX a w U=>?_;refine U.o .fv λU=>?_;try have Mr:=U.cU 5 rfl
 refine aV λI a w U=>?_;refine U.gh (tE x.bq (by unfold jZ at h;omega)) (an .r aH) rfl λI uY a w U=>?_;refine U.o .fv λU=>?_;try have Pu:=U.cU 6 rfl
 refine aI λI a w U=>?_;refine U.cE (⟨x,zw,rL,v20,uX,uY,t16,t20⟩:ST) [2,3,4,5,6] rfl (.cons (.sx 0) .nil) (by show ST.plain _=x;unfold ST.plain mK;rw[Dp,nU]) rfl rfl
def aaC (l:List (Server)) (h:so l<=1048576):
 bG prog 103 [n3 l] [] (λp:Value×List ST=>p.2.map ST.plain=l) (λp=>[Own.aF KK p.1 p.2]) (λp=>AV.val p.1):=by
 refine bG.intro 23 func103 rfl ntmps103 rfl aq (λW I a U=>?_);have hl:l.length<=1048576:=by unfold so at h;omega
 refine aV λI a w U=>?_;refine U.make rfl jw bL di rfl .tt .tt om λb7 a w U=>?_;have U:=U.mO;change St _ _ [Own.row (.slice (some ⟨b7,0,none⟩) l.length l.length) KK.server 7 (([]:List ST).map ST.cells++List.replicate (l.length-([]:List ST).length) [AV.val (.int .i64 0),AV.val (.bool false),AV.rows 2 [],AV.rows 7 [],AV.rows 7 [],AV.rows 3 [],AV.rows 3 []]),Own.many (([]:List ST).map λx=>Own.many (ST.owns KK x))] _ _ _ at U;refine ax λI a w U=>?_;refine St.lo (σ:=List ST) (4::(run 14 8 [])) ⟨λts=>[(4,AV.int (ts.length:Nat))],λts=>[Own.row (.slice (some ⟨b7,0,none⟩) l.length l.length) KK.server 7 (ts.map ST.cells++List.replicate (l.length-ts.length) [AV.val (.int .i64 0),AV.val (.bool false),AV.rows 2 [],AV.rows 7 [],AV.rows 7 [],AV.rows 3 [],AV.rows 3 []]),Own.many (ts.map λx=>Own.many (ST.owns KK x))],λts=>ts.map ST.plain=l.take ts.length/\ts.length<=l.length⟩ (λts=>l.length-ts.length) [] U ?aD ?bh;case aD=>exact⟨by simp,Nat.zero_le _⟩
 rintro ts I a w aj U;obtain⟨ig,hk⟩:=aj;dsimp only at U;refine aU λI a w U=>?_;refine cz (λab=>?_) λab=>?_
 .refine aR λI a w U=>?_;refine U.o ((by first|exact fT Fi Fc .tt .tt (λ_=>by first|omega|(simp only[List.length_append,List.length_map,List.length_replicate];omega))|exact iO Fi Fc .tt .tt (λ_=>by first|omega|(simp only[List.length_append,List.length_map,List.length_replicate];omega))|exact iZ Fi Fc .tt .tt (λ_=>by first|omega|(simp only[List.length_append,List.length_map,List.length_replicate];omega)))) λU=>?_;refine U.o .la λU=>?_;refine U.dX [] (aaz (ae l ts.length) (by have:=va (f:=jZ) ab;unfold so at h;omega)) (an .tt aH) rfl bA rfl λt I a w nU U=>?_;change St _ _ ([Own.row (.slice (some ⟨b7,0,none⟩) l.length l.length) KK.server 7 (ts.map ST.cells++List.replicate (l.length-ts.length) [AV.val (.int .i64 0),AV.val (.bool false),AV.rows 2 [],AV.rows 7 [],AV.rows 7 [],AV.rows 3 [],AV.rows 3 []]),Own.many (ts.map λx=>Own.many (ST.owns KK x))]++ST.owns KK t) _ _ _ at U;refine U.o (cw 0 jw bL .tt .tt rfl (λ_=>by first|omega|(simp only[List.length_append,List.length_map,List.length_replicate];omega))) λU=>?_;refine U.zc 0 bL .tt .tt rfl (by simp only[List.length_append,List.length_map,List.length_replicate];omega) rfl rfl λa w U=>?_;refine aX λI a w U=>?_;refine U.o (cr .tt .c (λ_=>by first|omega|(simp only[List.length_append,List.length_map,List.length_replicate];omega))) λU=>?_;refine al λI a w U=>?_;have U:=St.wC (m:=l.length-(ts++[t]).length) t U ff rfl rfl;refine U.again (ts++[t]) ?bM ?bN bF ?bO (by repeat(first|exact Env.le_rfl|refine Env.dj rfl ?_));case bM=>simp;omega
  case bN=>exact nz ⟨ig,hk⟩ ab nU
  case bO=>exact(Env.bt rfl (by exact congrArg AV.int be) Env.le_nil)
 refine zt ?_;refine ax λI a w U=>?_;have U:=U.wD om;have aT:=nA ⟨ig,hk⟩ om;refine U.cE (_,ts) [0] rfl (.cons (.t rfl) .nil) aT rfl rfl
def aaD (l:List (Answer)) (h:qP l<=1048576):
 bG prog 265 [j7 l] [] (λp:Value×List AT=>p.2.map AT.x=l) (λp=>[Own.answers KK p.1 p.2]) (λp=>AV.val p.1):=by
 refine bG.intro 23 func265 rfl ntmps265 rfl aq (λW I a U=>?_);have hl:l.length<=1048576:=by unfold qP at h;omega
 refine aV λI a w U=>?_;refine U.make rfl eD dI lq rfl .tt .tt om λb7 a w U=>?_;have U:=U.mO;change St _ _ [Own.row (.slice (some ⟨b7,0,none⟩) l.length l.length) KK.answer 9 (([]:List AT).map AT.cells++List.replicate (l.length-([]:List AT).length) [AV.val (.int .i64 0),AV.val (.bool false),AV.val (.int .i64 0),AV.val (.int .i64 0),AV.val (.int .i64 0),AV.val (.int .i64 0),AV.val (.int .i64 0),AV.val (.int .i64 0),AV.rows 3 []]),Own.many (([]:List AT).map λx=>Own.many (AT.owns KK x))] _ _ _ at U;refine ax λI a w U=>?_;refine St.lo (σ:=List AT) (4::(run 14 8 [])) ⟨λts=>[(4,AV.int (ts.length:Nat))],λts=>[Own.row (.slice (some ⟨b7,0,none⟩) l.length l.length) KK.answer 9 (ts.map AT.cells++List.replicate (l.length-ts.length) [AV.val (.int .i64 0),AV.val (.bool false),AV.val (.int .i64 0),AV.val (.int .i64 0),AV.val (.int .i64 0),AV.val (.int .i64 0),AV.val (.int .i64 0),AV.val (.int .i64 0),AV.rows 3 []]),Own.many (ts.map λx=>Own.many (AT.owns KK x))],λts=>ts.map AT.x=l.take ts.length/\ts.length<=l.length⟩ (λts=>l.length-ts.length) [] U ?aD ?bh;case aD=>exact⟨by simp,Nat.zero_le _⟩
 rintro ts I a w aj U;obtain⟨ig,hk⟩:=aj;dsimp only at U;refine aU λI a w U=>?_;refine cz (λab=>?_) λab=>?_
 .refine aR λI a w U=>?_;refine U.o ((by first|exact fT Fo Fh .tt .tt (λ_=>by first|omega|(simp only[List.length_append,List.length_map,List.length_replicate];omega))|exact iO Fo Fh .tt .tt (λ_=>by first|omega|(simp only[List.length_append,List.length_map,List.length_replicate];omega))|exact iZ Fo Fh .tt .tt (λ_=>by first|omega|(simp only[List.length_append,List.length_map,List.length_replicate];omega)))) λU=>?_;refine U.o .la λU=>?_;refine U.dX [] (XQ (ae l ts.length) (by have:=va (f:=ox) ab;unfold qP at h;omega)) (an .tt aH) rfl bA rfl λt I a w nU U=>?_;change St _ _ ([Own.row (.slice (some ⟨b7,0,none⟩) l.length l.length) KK.answer 9 (ts.map AT.cells++List.replicate (l.length-ts.length) [AV.val (.int .i64 0),AV.val (.bool false),AV.val (.int .i64 0),AV.val (.int .i64 0),AV.val (.int .i64 0),AV.val (.int .i64 0),AV.val (.int .i64 0),AV.val (.int .i64 0),AV.rows 3 []]),Own.many (ts.map λx=>Own.many (AT.owns KK x))]++AT.owns KK t) _ _ _ at U;refine U.o (cw 0 eD dI .tt .tt rfl (λ_=>by first|omega|(simp only[List.length_append,List.length_map,List.length_replicate];omega))) λU=>?_;refine U.zc 0 dI .tt .tt rfl (by simp only[List.length_append,List.length_map,List.length_replicate];omega) rfl rfl λa w U=>?_;refine aX λI a w U=>?_;refine U.o (cr .tt .c (λ_=>by first|omega|(simp only[List.length_append,List.length_map,List.length_replicate];omega))) λU=>?_;refine al λI a w U=>?_;have U:=St.wC (m:=l.length-(ts++[t]).length) t U ff rfl rfl;refine U.again (ts++[t]) ?bM ?bN bF ?bO (by repeat(first|exact Env.le_rfl|refine Env.dj rfl ?_));case bM=>simp;omega
  case bN=>exact nz ⟨ig,hk⟩ ab nU
  case bO=>exact(Env.bt rfl (by exact congrArg AV.int be) Env.le_nil)
 refine zt ?_;refine ax λI a w U=>?_;have U:=U.wD om;have aT:=nA ⟨ig,hk⟩ om;refine U.cE (_,ts) [0] rfl (.cons (.t rfl) .nil) aT rfl rfl
def aaE (x:Call) (h:jG x<=1048576):
 bG prog 201 [x.av] [] (λt:CT=>CT.plain t=x) (λt=>t.owns KK) (λt=>AV.agg t.cells):=by
 refine bG.intro 46 func201 rfl ntmps201 rfl aq (λW I a U=>?_);refine aX λI a w U=>?_;refine U.alloc rfl dm g0 λb2 I a w U=>nn<|sr<|U.alloc rfl dm g0 λb3 I a w U=>?_;refine E4 λI a w U=>?_;refine U.gh (YY x.keys (by unfold jG at h;omega)) (an .r aH) rfl λI F1 a w U=>?_;refine U.o .fv λU=>?_;try have Zr:=U.cU 2 rfl
 refine fm λI a w U=>?_;refine U.gh (tE x.ctx (by unfold jG at h;omega)) (an .r aH) rfl λI GY a w U=>?_;refine U.o .fv λU=>?_;try have XP:=U.cU 3 rfl
 refine E5 λI a w U=>?_;refine U.o (.c1 (CD ..)) λU=>U.o .fv λU=>U.mD 1 jg .tt .tt rfl rfl rfl λa w U=>?_;refine aA λI a w U=>?_;refine U.dX [] (aaD x.au (by unfold jG at h;omega)) (an .r aH) rfl bA rfl λp39 I a w HU U=>?_;obtain⟨v39,t39⟩:=p39;replace HU:t39.map AT.x=x.au:=HU;have U:=U.nf;have aho:=U.mP 4 rfl;refine aR λI a w U=>?_;refine U.gh (tE x.aO (by unfold jG at h;omega)) (an .r aH) rfl λI tM a w U=>?_;refine U.o .fv λU=>?_;try have HP:=U.cU 5 rfl
 refine aI λI a w U=>?_;refine U.cE (⟨x,F1,GY,v39,tM,t39⟩:CT) [2,3,4,5] rfl (.cons (.sx 0) .nil) (by show CT.plain _=x;unfold CT.plain;rw[HU]) rfl rfl
def aaH (q:Call) (n:Value) (hg:∀y∈q.au,eh y=true) (hl:q.au.length<=1048576):
 Fn prog 331 [q.wU n] (bm (fw q)):=by
 refine Fn.go 23 func331 ntmps331 (λW I a U=>?_);refine ax λI a w U=>?_;refine U.l0 λb5 I a w U=>?_;obtain⟨I,U⟩:=U.fr 0 5;have U:=U.drop 0;refine ax λI a w U=>?_;refine St.lo (σ:=Nat) (run 2 3 (run 16 6 [])) ⟨λk=>[(4,AV.int k),(3,bm ((q.au.take k).foldl mg []))],λk=>[],λk=>k<=q.au.length⟩ (λk=>q.au.length-k) 0 U ?aD ?bh;case aD=>exact Nat.zero_le _
 rintro k I a w aj U;have hk:k<=q.au.length:=aj;refine bP λI a w U=>?_;refine cz (λab=>?_) λab=>?_
 .refine lJ λI a w U=>?_;refine U.o (.cl (HK _ _ (su (acc:=[]) rfl (xa hg k)).1 (r4 (hg _ (bK ab))))) λU=>?_;refine aU λI a w U=>?_;refine U.again (k+1) ?bM ?bN bF ?bO (by repeat(first|exact Env.le_rfl|refine Env.dj rfl ?_));case bM=>omega
  case bN=>exact ab
  case bO=>exact(Env.bt rfl bF (Env.bt rfl (by exact congrArg bm (by rw[wX ab];rfl)) Env.le_nil))
 refine zt ?_;refine cK ?_;exact congrArg bm (by rw[List.take_of_length_le om];rfl)
def aaI (q:Call) (n:Value) (t:Int) (hg:∀y∈q.au,eh y=true) (hl:q.au.length<=1048576) (hn:q.aO.length<=1048576):
 er prog 356 [q.wU n,AV.int t] [Own.row n 125 3 (q.aO.map ao.cells)] [] (mY {q with aO:=q.aO++lB q} t).av:=by
 refine bG.intro 54 func356 rfl ntmps356 rfl aq (λW I a U=>?_);have kj:ck (fw q)=true:=(su (l:=q.au) (acc:=[]) rfl hg).1;refine sr<|U.box rfl .tt λb2 I a w U=>U.alloc rfl dm g0 λb4 I a w U=>?_;refine aX λI a w U=>?_;refine U.o (.c1 (aaH q n hg hl)) λU=>?_;refine ax λI a w U=>?_;refine St.lo (σ:=Nat×Value) (run 2 6 (run 37 10 [])) ⟨λ⟨k,v⟩=>[(6,AV.int k)],λ⟨k,v⟩=>[Own.row v 125 3 ((m0 q k).map ao.cells),Own.box b2 45 [AV.int q.aB,AV.int q.num,AV.int q.kind,fM q.keys,AV.int q.val,bm q.ctx,AV.int q.bw,AV.int q.end_,AV.bool q.over,AV.int q.aw.time,AV.int q.aw.site,j7 q.au,AV.val v],Own.box b4 45 [AV.val (.int .i64 0),AV.val (.int .i64 0),AV.val (.int .i64 0),AV.rows 1 [],AV.val (.int .i64 0),AV.rows 3 [],AV.val (.int .i64 0),AV.val (.int .i64 0),AV.val (.bool false),AV.val (.int .i64 0),AV.val (.int .i64 0),AV.rows 9 [],AV.rows 3 []]],λ⟨k,v⟩=>k<=q.au.length⟩ (λ⟨k,v⟩=>q.au.length-k) (0,n) U ?aD ?bh;case aD=>exact Nat.zero_le _
 rintro⟨k,v⟩ I a w aj U;have hk:k<=q.au.length:=aj;dsimp only at U;refine bP λI a w U=>?_;refine cz (λab=>?_) λab=>?_
 .refine fm λI a w U=>?_;refine U.o (.cl (Za _ _ kj)) λU=>?_;refine U.alloc rfl jg iI λb7 I a w U=>?_;refine al λI a w U=>?_;obtain⟨I,U⟩:=U.fb 3 7;refine U.dk ?_;refine kz ?_;refine .o (.c2 (wQ ..))<|.nil ?_;intro I a w U;refine ba ?_;refine U.cd (λah=>?_) λah=>?_
  .refine U.dt 11 ?_;simp only[TD];refine wg ?_;refine .o (.bd fE (.k (.t bf.nil))) ?_;refine .o (.li [ao.cells ⟨(ae q.au k).key,cB (fw q) (ae q.au k).key⟩] gM (.u .nil)) ?_;refine .nil ?_;intro I a w U;refine U.append 0 rfl dw cM rfl .tt .r rfl (by have:=N5 q k hk;simp;omega) λAu a w U=>?_;refine U.o .fv λU=>?_;try have aav:=U.cU 0 rfl
   refine al λI a w U=>?_;rw[cA,XX ab ah] at U;refine aI λI a w U=>?_;have U:=U.drop 3;exact U.ag (k+1,Au) (ab)
  refine aI λI a w U=>?_;have U:=U.drop 3;rw[XY ab (by rw[ah];simp)] at U;exact U.ag (k+1,v) (ab)
 refine wp_exit<|bU<|bU<|eb<|ba<|wp_seq<|wp_seq ?_;rw[XZ hk om] at U;refine aA λI a w U=>?_;refine U.o (jL 0 dw .tt rfl) λU=>?_;refine al λI a w U=>?_;refine cz (λai=>?_) λai=>?_
 .refine aI λI a w U=>?_;obtain⟨I,U⟩:=U.fu 0 12 1;refine ax λI a w U=>?_;refine U.cE () [] rfl (.cons (.sx 2) .nil) trivial rfl ?_;exact(by unfold mY;rw[if_pos (by apply List.length_eq_zero_iff.1;rw[List.length_map] at ai;exact Int.ofNat_eq_zero.1 ai)];rfl)
 refine wp_skip<|ba<|wp_seq ?_;obtain⟨I,U⟩:=U.fu 0 12 1;refine ax λI a w U=>?_;refine U.cE () [] rfl (.cons (.sx 2) .nil) trivial rfl ?_;exact(by unfold mY;rw[if_neg (λe=>ai (by rw[show q.aO++lB q=[] from e];rfl))];rfl)
def aaJ {q:Call} {k:Nat} (h:∀a∈q.au,eh a=true) (hk:q.au.length<=k):pI q k=lB q:=by
 have hS:∀key,rP (cB (fw q) key):=λkey=>sg (su (acc:=[]) rfl h).1 key;have key:∀l:List Answer,(∀a∈l,eh a=true)->(l.filter λa=>!eH (cB (fw q) a.key)&&nM a (cB (fw q) a.key)).map (λa=>(⟨a.key,cB (fw q) a.key⟩:ao))=(l.map (nP (fw q))).flatten:=by
  intro l;induction l with
  |nil=>intro _;rfl
  |cons a r ih=>
   intro hl
   have ih:=ih λx hx=>hl x (by simp[hx])
   have ht:=X6 (hl a be) (hS a.key)
   rw[List.map_cons,List.flatten_cons,<-ih]
   unfold nP
   by_cases hp:dy a.bl.aw (cB (fw q) a.key)=true
   .rw[List.filter_cons_of_pos (by rw[ht];exact hp),if_pos hp];rfl
   rw[List.filter_cons_of_neg (by rw[ht];exact hp),if_neg hp];rfl
 unfold pI lB;rw[List.take_of_length_le hk];exact key _ h
def aaK (q:Call) (n:Value) (hg:∀a∈q.au,eh a=true) (hl:q.au.length<=1048576):
 Fn prog 354 [q.wU n] (bm (lB q)):=by
 refine Fn.go 51 func354 ntmps354 (λW I a U=>?_);have U:=U.en (sz:=3) 125;refine aI λI a w U=>?_;have U:=U.vP (t:=3) rfl (eQ 3 _);refine aU λI a w U=>?_;refine St.lo (σ:=Nat) (3::(5::(run 10 13 []))) ⟨λk=>[(13,AV.int k),(3,bm ((q.au.take k).foldl mg []))],λk=>[Own.row (.slice none 0 0) 125 3 []],λk=>k<=q.au.length⟩ (λk=>q.au.length-k) 0 U ?aD ?bh;case aD=>exact Nat.zero_le _
 rintro k I a w aj U;have hk:k<=q.au.length:=aj;dsimp only at U;refine al λI a w U=>?_;refine cz (λab=>?_) λab=>?_
 .refine aA λI a w U=>?_;refine U.alloc rfl dI lq λb5 I a w U=>?_;refine al λI a w U=>?_;obtain⟨I,U⟩:=U.fb 1 5;refine aR λI a w U=>?_;refine U.o (.cl (Pr ((q.au.take k).foldl mg []) (ae q.au k).bl.aK (su (acc:=[]) rfl (xa hg k)).1 (r4 (hg _ (bK ab))))) λU=>?_;rw[show ji ((q.au.take k).foldl mg []) (ae q.au k).bl.aK=(q.au.take (k+1)).foldl mg [] from by rw[ep ab,List.foldl_append];rfl] at U;refine aI λI a w U=>?_;have U:=U.drop 1;exact U.ag (k+1) (ab)
 refine wp_exit<|bU<|bU<|eb<|ba<|wp_seq ?_;rw[show(q.au.take k).foldl mg []=fw q from by rw[List.take_of_length_le om];rfl] at U;refine bP λI a w U=>?_;refine St.lo (σ:=Nat×Value) (6::(run 2 8 (run 24 26 []))) ⟨λ⟨k,v⟩=>[(26,AV.int k),(6,AV.val v)],λ⟨k,v⟩=>[Own.row v 125 3 ((pI q k).map ao.cells)],λ⟨k,v⟩=>k<=q.au.length⟩ (λ⟨k,v⟩=>q.au.length-k) (0,.slice none 0 0) U ?eL ?jX;case eL=>exact Nat.zero_le _
 rintro⟨k,v⟩ I a w aj U;have hk:k<=q.au.length:=aj;dsimp only at U;refine al λI a w U=>?_;refine cz (λah=>?_) λah=>?_
 .refine aA λI a w U=>?_;refine U.alloc rfl dI lq λb8 I a w U=>?_;refine al λI a w U=>?_;obtain⟨I,U⟩:=U.fb 1 8;refine aV λI a w U=>?_;refine U.o (.cl (Wu (fw q) (ae q.au k).key)) λU=>?_;refine U.alloc rfl jg iI λb9 I a w U=>?_;refine al λI a w U=>?_;obtain⟨I,U⟩:=U.fb 2 9;refine U.o .la λU=>?_;refine U.o (.c1 (uV ..)) λU=>?_;refine aR λI a w U=>?_;refine U.q .T (.cl (Mn ..)) λU=>?_;refine al λI a w U=>?_;refine U.cd (λai=>?_) λai=>?_
  .refine aR λI a w U=>?_;refine U.o (.bd fE (.k (.t bf.nil))) λU=>?_;refine U.o (.li [ao.cells ⟨(ae q.au k).key,cB (fw q) (ae q.au k).key⟩] gM (.u .nil)) λU=>?_;refine U.append 0 rfl dw cM rfl .tt .r rfl (by have:=X4 q k;simp;omega) λHV a w U=>?_;rw[cA,X2 ah ai] at U;refine aI λI a w U=>?_;have U:=U.drop 1;exact U.ag (k+1,HV) (ah)
  refine ax λI a w U=>?_;have U:=U.drop 1;rw[X3 ah ai] at U;exact U.ag (k+1,v) (ah)
 refine wp_exit<|bU<|bU<|eb<|ba<|wp_seq ?_;rw[aaJ hg om] at U;obtain⟨I,U⟩:=U.fr 0 6;refine cK ?_;rfl
def aaL {s:Server} {m:az} (h:(m.kind==7&&(m.bj==fH s.site)&&decide (0<=placeOf s.ar ⟨m.key,m.aw⟩))=true):eO s m=(s,[ml s m]):=by
 simp only[Bool.and_eq_true,beq_iff_eq,decide_eq_true_eq] at h;unfold eO;rw[h.1.1];show(s,oO s m)=_;unfold oO jm;rw[if_pos h.2,h.1.2];simp
def aaM {s:Server} {m:az} (h:(m.kind==8&&(m.bj==fH s.site)&&g8 s ⟨m.key,m.aw⟩&&decide ((s.bq.length:Int)<80))=true):eO s m=(g9 {s with bq:=eN s.bq ⟨m.key,m.aw⟩},[]):=by
 simp only[Bool.and_eq_true,beq_iff_eq,decide_eq_true_eq] at h;have hl:s.bq.length<80:=by omega
 rw[pQ h.1.1.1];unfold oC;rw[if_pos (by simp only[Bool.and_eq_true,beq_iff_eq,decide_eq_true_eq];exact⟨⟨h.1.1.2,h.1.2⟩,hl⟩)]
def aaN {s:Server} {m:az} (h:(m.kind==10&&(m.bj==fH s.site)&&([(ae s.aQ m.slot.toNat).bX,(ae s.aQ m.slot.toNat).fg]==[m.bX,2]))=true):eO s m=(g9 (s7 s m),[]):=by
 simp only[Bool.and_eq_true,beq_iff_eq,List.cons.injEq] at h;rw[pS h.1.1];unfold oD;rw[if_pos (by simp only[Bool.and_eq_true,beq_iff_eq];exact⟨⟨h.1.2,h.2.2.1⟩,h.2.1⟩)]
def aaO {s:Server} {m:az} (hg:bE s) (h:(m.kind==6&&(de m.bj&&(cv m.bj !=cv s.site))&&fR s m.key)=true):eO s m=({s with aE:=s.aE.filter (λd=>!decide (d=⟨m.key,m.aw⟩))},[]):=by
 simp only[Bool.and_eq_true,beq_iff_eq] at h;obtain⟨⟨h1,h2,h3⟩,h4⟩:=h;have h5:(eY s m.key==1)=true:=by unfold fR at h4;rw[Bool.and_eq_true] at h4;exact h4.2
 rw[pP h1,X8 hg.aE];unfold oB;rw[h2,h3,h5];by_cases hi:0<=gB s.aE ⟨m.key,m.aw⟩
 .rw[if_pos hi,if_pos (by simp[hi])]
 rw[if_neg hi,if_neg (by simp[hi])]
def tN {w:aM} {e:Ev} (h:aS e.word 0 ((w.aC.length:Int)-1)=true):iY w e=if e.kind=5 then({w with aC:=gP w e},true) else if aS (ae w.aC e.word.toNat).to 10 11=true then(pH {w with aC:=gP w e} (ae w.aC e.word.toNat),true)
 else({w with aF:=w.aF.set (ae w.aC e.word.toNat).to.toNat (gG (ae w.aF (ae w.aC e.word.toNat).to.toNat) (ae w.aC e.word.toNat)).1,aC:=fe (gP w e) (gG (ae w.aF (ae w.aC e.word.toNat).to.toNat) (ae w.aC e.word.toNat)).2},true):=by
 unfold iY;rw[if_pos h,VD]
def Dq {w:aM} {e:Ev} (h:aS e.word 0 ((w.aC.length:Int)-1)=false):iY w e=(w,false):=by unfold iY;rw[h];rfl
end Go.Proofs.YtldbakcpcfdlaaaGreat

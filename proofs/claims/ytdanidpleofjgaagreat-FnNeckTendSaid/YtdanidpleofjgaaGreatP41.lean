/- Part 41: contracts of functions, plain facts. -/
import Derived.Test.YtdanidpleofjgaaGreatP31
set_option linter.all false
set_option maxRecDepth 100000
set_option maxHeartbeats 4000000
namespace Go.Proofs.YtdanidpleofjgaaGreat
open Go Go.RowKit Tryz
attribute [local irreducible] wpList Code.wp Ok
def Km (l:List ao) (d:ao) (hl:bN l=true):
 Fn prog 232 [bw l,d.av] (bw (eS l d)):=by
 refine Fn.go 53 func232 ntmps232 (λW I a U=>?_);have ss:=eL hl;have U:=U.fV (sz:=3) 115;refine jf λI a w U=>?_;refine St.lo (σ:=Nat×Bool×List ao×Value) (run 2 5 (8::(run 35 11 []))) ⟨λ⟨k,done,out,v⟩=>[(11,AV.int k),(6,AV.bool done),(5,AV.val v)],λ⟨k,done,out,v⟩=>[Own.row v 115 3 (out.map ao.cells)],λ⟨k,done,out,v⟩=>jT l d k done out⟩ (λ⟨k,done,out,v⟩=>l.length-k) (0,false,[],.slice none 0 0) U ?aL ?bG;case aL=>exact jT.zero l d
 rintro⟨k,done,out,v⟩ I a w al U;have hp:jT l d k done out:=al;have hk:=hp.hk;have jP:=hp.len;have pD:done.toNat<=1:=by cases done<;>simp
 dsimp only at U;refine ax λI a w U=>?_;refine cz (λae=>?_) λae=>?_
 .refine aH λI a w U=>?_;refine U.alloc rfl cE fh λb8 I a w U=>?_;refine jf λI a w U=>?_;refine cz (λah=>?_) λah=>?_
  .refine bz λI a w U=>?_;refine U.o (.c2 (HG ..)) λU=>?_;refine zt ?_;refine cz (λaj=>?_) λaj=>?_
   .refine bO λI a w U=>?_;refine U.o (.li [d.cells] fE (.u .nil)) λU=>?_;refine U.ap 0 λtW a w U=>?_;rw[bV] at U;refine aN λI a w U=>?_;have U:=U.drop 1;exact U.ag (k+1,true,out++[d],tW) (by have h:=(hp.same hl ae ah).2;rw[aj,if_pos rfl] at h;exact h)
   refine aV λI a w U=>?_;refine U.o (.li [(ab l k).cells] fE (.u .nil)) λU=>?_;refine U.ap 0 λtW a w U=>?_;rw[bV] at U;refine aN λI a w U=>?_;have U:=U.drop 1;exact U.ag (k+1,true,out++[ab l k],tW) (by have h:=(hp.same hl ae ah).2;rw[aj] at h;exact h)
  refine uE λI a w U=>?_;refine cz (λaJ=>?_) λaJ=>?_
  .refine aH λI a w U=>?_;refine U.o (.li [d.cells] fE (.u .nil)) λU=>?_;refine U.ap 0 λTn a w U=>?_;rw[bV] at U;refine bz λI a w U=>?_;refine U.o (.li [(ab l k).cells] fE (.u .nil)) λU=>?_;refine U.ap 0 λtW a w U=>?_;rw[bV] at U;refine aN λI a w U=>?_;have U:=U.drop 1;exact U.ag (k+1,true,(out++[d])++[ab l k],tW) (by obtain⟨h1,h2⟩:=aJ;subst h2;exact hp.before hl ae h1)
  refine aH λI a w U=>?_;refine U.o (.li [(ab l k).cells] fE (.u .nil)) λU=>?_;refine U.ap 0 λtW a w U=>?_;rw[bV] at U;refine aN λI a w U=>?_;have U:=U.drop 1;exact U.ag (k+1,done,out++[ab l k],tW) (hp.step ae ah λhd=>by rcases aJ with h|h;exact h;rw[hd] at h;cases h)
 refine zt ?_;refine aB λI a w U=>?_;refine cz (λaP=>?_) λaP=>?_
 .refine aH λI a w U=>?_;refine U.o (.li [d.cells] fE (.u .nil)) λU=>?_;refine U.ap 0 λv51 a w U=>?_;rw[bV] at U;refine aN λI a w U=>?_;obtain⟨I,U⟩:=U.fr 0 4;refine U.rt ?_;exact congrArg (AV.rows 3) (by subst aP;exact hp.qU om▸rfl)
 refine aB λI a w U=>?_;obtain⟨I,U⟩:=U.fr 0 4;refine U.rt ?_;exact congrArg (AV.rows 3) (by subst aP;rw[hp.qT om])
def To (x y:List ao) (hx:bN x=true) (hy:bN y=true):
 Fn prog 233 [bw x,bw y] (bw (iB x y)):=by
 refine Fn.go 21 func233 ntmps233 (λW I a U=>?_);have ss:=eL hx;have acd:=eL hy;refine aH λI a w U=>?_;refine U.o (cr (tJ x om) (ai .r aC)) λU=>?_;refine aY λI a w U=>?_;refine St.lo (σ:=Nat) (5::(7::(run 8 12 []))) ⟨λk=>[(12,AV.int k),(5,bw (iB x (y.take k)))],λk=>[],λk=>k<=y.length⟩ (λk=>y.length-k) 0 U ?aL ?bG;case aL=>exact Nat.zero_le _
 rintro k I a w al U;have hk:k<=y.length:=al;refine ax λI a w U=>?_;refine cz (λae=>?_) λae=>?_
 .refine aH λI a w U=>?_;refine U.alloc rfl cE fh λb7 I a w U=>?_;refine ax λI a w U=>?_;obtain⟨I,U⟩:=U.fb 0 7;refine aH λI a w U=>?_;refine U.o (.cl (Km _ _ (RA hx hy k))) λU=>?_;refine aN λI a w U=>?_;have U:=U.drop 0;refine U.again (k+1) ?ij ?ik dD ?il (by repeat(first|exact Env.le_rfl|refine Env.hP rfl ?_));case ij=>omega
  case ik=>exact ae
  case il=>exact(Env.dq rfl dD (Env.dq rfl (by exact congrArg bw (by rw[OZ ae])) Env.le_nil))
 refine zt ?_;refine di ?_;exact congrArg bw (by rw[List.take_of_length_le om])
def aeQ (q:Call) (t:Int) (hq:fR q t=true) (ht:q.bE+q.end_<=4611686018427387904) (hl:-4611686018427387904<=q.end_) (vn:q.aA.length<=1048576):
 Fn prog 183 [q.av] (bw (gx q)):=by
 refine Fn.go 68 func183 ntmps183 (λW I a U=>?_);have lens:q.keys.length<=9223372036854775807/\q.aA.length<=9223372036854775807/\q.aO.length<=9223372036854775807:=⟨U.ln 0 3,U.ln 0 11,U.ln 0 12⟩;have hp:=EN hq;have dV:=(sq (acc:=[]) rfl hp.2.1).1;have dO:=Ji hq;have hc6:=eL hp.1;have hjo:bN (iB q.ctx (fy q))=true:=wX hp.1 λd hd=>p7 dV hd;have eT:=abc hp.1 hp.2.1;refine lI λI a w U=>?_;refine U.o (.c2 (EP _ _ ht vn)) λU=>?_;refine ax λI a w U=>?_;refine U.cd (λae=>?_) λae=>?_
 .exfalso;rw[dO] at ae;cases ae;skip
 refine zt ?_;refine U.l0 λtX I a w U=>?_;refine aH λI a w U=>?_;refine U.ap 0 λv17 a w U=>?_;obtain⟨I,U⟩:=U.fr 0 17;have U:=U.drop 0;refine aY λI a w U=>?_;refine cz (λah=>?_) λah=>?_
 .refine di ?_;exact congrArg bw (by unfold gx;rw[if_pos ah])
 refine aN λI a w U=>?_;refine cz (λaj=>?_) λaj=>?_
 .refine wp_seq<|U.dk ?_;refine dJ ?_;refine .o ((by first|exact dW cH cx .tt .c (λ_=>by have:=xo hp.2.2.1 aj;omega)|exact fe cH cx .tt .c (λ_=>by have:=xo hp.2.2.1 aj;omega)|exact fm cH cx .tt .c (λ_=>by have:=xo hp.2.2.1 aj;omega))) ?_;refine dJ ?_;refine .o (.bd fh (.k (.t aW.nil))) ?_;refine .o (.cl (En _ ⟨ab q.keys 0,q.ar⟩ hp.1 (acK hq aj ah))) ?_;refine aX ?_;refine .nil ?_;intro I a w U;refine zt ?_;refine U.rt ?_;exact congrArg bw (by unfold gx;rw[if_neg ah,if_pos aj])
 refine aH λI a w U=>?_;refine U.o (.c1 (acf _ hp.2.1)) λU=>?_;refine U.o (.cl (Jj _ _ hp.1 dV)) λU=>?_;refine aB λI a w U=>?_;refine St.lo (σ:=Nat) (run 2 3 (run 29 38 [])) ⟨λk=>[(4,AV.int k),(3,bw ((q.aA.take k).foldl sg (iB q.ctx (fy q))))],λk=>[],λk=>k<=q.aA.length⟩ (λk=>q.aA.length-k) 0 U ?aL ?bG;case aL=>exact Nat.zero_le _
 rintro k I a w al U;have hk:k<=q.aA.length:=al;refine ct λI a w U=>?_;refine cz (λaJ=>?_) λaJ=>?_
 .refine gY λI a w U=>?_;refine cz (λaP=>?_) λaP=>?_
  .refine U.dk ?_;refine tk ?_;refine .o (.bd fh (.k (.t aW.nil))) ?_;refine .o (cr (En _ ⟨(ab q.aA k).key,(ab q.aA k).bm.ar⟩ (EA hjo (yR hp.2.1 k)).1 (by have:=y8 (hp.2.1 _ (bB aJ)) aP;rw[<-this.2];exact this.1)) (ai .r (ai (.t rfl) aC))) ?_;refine aX ?_;refine .nil ?_;intro I a w U;refine aN λI a w U=>?_;refine U.again (k+1) ?ij ?ik dD ?il (by repeat(first|exact Env.le_rfl|refine Env.hP rfl ?_));case ij=>omega
   case ik=>exact aJ
   case il=>exact(Env.dq rfl dD (Env.dq rfl (by exact congrArg bw (by rw[yF aJ];unfold sg;rw[aP];rfl)) Env.le_nil))
  refine aN λI a w U=>?_;refine U.again (k+1) ?mR ?mS dD ?mT (by repeat(first|exact Env.le_rfl|refine Env.hP rfl ?_));case mR=>omega
  case mS=>exact aJ
  case mT=>exact(Env.dq rfl dD (Env.dq rfl (by exact congrArg bw (by rw[yF aJ];unfold sg;rw[aP];rfl)) Env.le_nil))
 refine zt ?_;refine di ?_;exact congrArg bw (by rw[List.take_of_length_le om,<-eT];unfold HB;rw[if_neg ah,if_neg aj])
def aeT (q:Call) (m:az) (t:Int) (h:dS q t) (ht:t<=1000000):
 Fn prog 182 [q.av,m.av,AV.int t] ((dG q m t).av):=by
 refine Fn.go 135 func182 ntmps182 (λW I a U=>?_);have al:=sE.2 h;have nF:=h.lens;have hb:=h.bE;have xE:=h.BU om;have aQ:=sd.1 h.aq;refine aH λI a w U=>?_;refine U.alloc rfl eR j2 λb6 I a w U=>?_;refine aH λI a w U=>?_;refine U.o (cr (EP q t om om) (ai (.t rfl) (ai (.t rfl) aC))) λU=>?_;refine ax λI a w U=>?_;refine U.cd (λae=>?_) λae=>?_
 .exfalso;rw[al] at ae;cases ae;skip
 refine bA λI a w U=>?_;refine U.bq [] (acn q h.small) (ai .tt aC) rfl aM rfl λu I a w mi U=>?_;refine U.alloc rfl eR j2 λb7 I a w U=>?_;refine aH λI a w U=>?_;refine U.o (.c1 (I6 ..)) λU=>?_;refine NO λI a w U=>?_;refine U.q .F (.cl (Ql ..)) λU=>?_;refine G1 λI a w U=>?_;refine U.cd (λah=>?_) λah=>?_
 .rw[R3 q m t xE.1] at ah;replace ah:=nt ah;refine wp_seq ?_;obtain⟨I,U⟩:=U.fu 1 11 3;obtain⟨I,U⟩:=U.fu 2 12 3;refine aB λI a w U=>?_;refine U.ret rfl (.cons (.sx 0) ba.nil) ?_;exact(by unfold dG;rw[ah];rfl)
 rw[R3 q m t xE.1] at ah;replace ah:=nf ah;have uc:=ah;simp only[Bool.and_eq_true,decide_eq_true_eq] at uc;obtain⟨⟨⟨⟨⟨hm,_⟩,_⟩,iH⟩,hw⟩,rq⟩:=uc;have E6:=gz (nx hm).1;refine aN λI a w U=>?_;refine cz (λaj=>?_) λaj=>?_
 .refine dI λI a w U=>?_;refine U.q .T (.cl (wv ..)) λU=>?_;refine ax λI a w U=>?_;refine U.cd (λaJ=>?_) λaJ=>?_
  .refine aV λI a w U=>?_;refine U.pB 3 jF .tt .tt rfl rfl rfl λa w U=>?_;refine aN λI a w U=>?_;obtain⟨I,U⟩:=U.fu 1 11 3;obtain⟨I,U⟩:=U.fu 2 12 3;refine aB λI a w U=>?_;refine U.ret rfl (.cons (.sx 0) ba.nil) ?_;exact(by unfold dG;rw[ah,if_pos rfl,if_pos aj,if_pos (by simpa using aJ)];rfl)
  refine wp_skip<|bk<|wp_seq ?_;obtain⟨I,U⟩:=U.fu 1 11 3;obtain⟨I,U⟩:=U.fu 2 12 3;refine aB λI a w U=>?_;refine U.ret rfl (.cons (.sx 0) ba.nil) ?_;exact(by unfold dG;rw[ah,if_pos rfl,if_pos aj,if_neg (by simpa using aJ)];rfl)
 refine bz λI a w U=>?_;refine U.o (.bd pG (.k (.k aW.nil))) λU=>?_;refine U.alloc rfl fF pG λb8 I a w U=>?_;refine ax λI a w U=>?_;refine U.dk ?_;refine tk ?_;refine .q .F2 (dW (i:=0) ea bU .ag .c (λhg=>by simp at hg;omega)) ?_;refine mB ?_;refine .nil ?_;intro I a w U;refine bk ?_;refine U.cd (λaP=>?_) λaP=>?_
 .rw[DP] at aP;replace aP:=nt aP;rw[decide_eq_false_iff_not] at aP;refine wp_seq ?_;obtain⟨I,U⟩:=U.fu 1 11 3;obtain⟨I,U⟩:=U.fu 2 12 3;refine aB λI a w U=>?_;refine U.ret rfl (.cons (.sx 0) ba.nil) ?_;exact(by unfold dG jI;rw[ah,if_pos rfl,if_neg aj,if_neg aP];rfl)
 rw[DP] at aP;replace aP:=nf aP;rw[decide_eq_true_eq] at aP;have rr:=Ed (q:=q) hm aP.2;refine wp_skip<|bk ?_;refine St.cut (σ:=Unit) (run 8 104 []) ⟨λ_=>[],λ_=>[Own.box b6 53 [AV.val (.int .i64 0),AV.val (.int .i64 0),AV.val (.int .i64 0),AV.rows 1 [],AV.val (.int .i64 0),AV.rows 3 [],AV.val (.int .i64 0),AV.val (.int .i64 0),AV.val (.bool false),AV.val (.int .i64 0),AV.val (.int .i64 0),AV.rows 9 [],AV.rows 3 []],Own.row u.1 128 9 (q.aA.map Answer.cells),Own.row u.2 115 3 (q.aO.map ao.cells),Own.box b7 53 [AV.int q.aq,AV.int q.num,AV.int q.kind,iz q.keys,AV.int q.val,bw q.ctx,AV.int q.bE,AV.int q.end_,AV.bool q.over,AV.int q.ar.time,AV.int q.ar.site,AV.val u.1,AV.val u.2],Own.box b8 128 (dK m).cells],λ_=>True⟩ U ?aeU ?ant;case aeU=>
  refine aB λI a w U=>?_;refine U.cd (λbn=>?_) λbn=>?_
  .have hv1:=(aP.2 bn).1;refine aH λI a w U=>?_;refine U.o (dW (i:=0) ea bU .tt .c (λ_=>by omega)) λU=>?_;refine U.o .la λU=>?_;refine U.o (cr (lN (ab m.an 0) (by have:=eL (jv (gy (nx hm).1 _ (bB (l:=m.an) (k:=0) om))).2.2;omega)) (ai (.t rfl) aC)) λU=>?_;refine U.o .fv λU=>U.pB 4 bU .tt .tt rfl rfl rfl λa w U=>?_;refine zt ?_;have U:=U.pass (H':=[Own.box b6 53 [AV.val (.int .i64 0),AV.val (.int .i64 0),AV.val (.int .i64 0),AV.rows 1 [],AV.val (.int .i64 0),AV.rows 3 [],AV.val (.int .i64 0),AV.val (.int .i64 0),AV.val (.bool false),AV.val (.int .i64 0),AV.val (.int .i64 0),AV.rows 9 [],AV.rows 3 []],Own.row u.1 128 9 (q.aA.map Answer.cells),Own.row u.2 115 3 (q.aO.map ao.cells),Own.box b7 53 [AV.int q.aq,AV.int q.num,AV.int q.kind,iz q.keys,AV.int q.val,bw q.ctx,AV.int q.bE,AV.int q.end_,AV.bool q.over,AV.int q.ar.time,AV.int q.ar.site,AV.val u.1,AV.val u.2],Own.box b8 128 (dK m).cells]) (by unfold dK;rw[bn];rfl);exact U.me () fU
  refine zt ?_;have U:=U.pass (H':=[Own.box b6 53 [AV.val (.int .i64 0),AV.val (.int .i64 0),AV.val (.int .i64 0),AV.rows 1 [],AV.val (.int .i64 0),AV.rows 3 [],AV.val (.int .i64 0),AV.val (.int .i64 0),AV.val (.bool false),AV.val (.int .i64 0),AV.val (.int .i64 0),AV.rows 9 [],AV.rows 3 []],Own.row u.1 128 9 (q.aA.map Answer.cells),Own.row u.2 115 3 (q.aO.map ao.cells),Own.box b7 53 [AV.int q.aq,AV.int q.num,AV.int q.kind,iz q.keys,AV.int q.val,bw q.ctx,AV.int q.bE,AV.int q.end_,AV.bool q.over,AV.int q.ar.time,AV.int q.ar.site,AV.val u.1,AV.val u.2],Own.box b8 128 (dK m).cells]) (by unfold dK;rw[bn];rfl);exact U.me () fU
 rintro _ I a w al U;refine aV λI a w U=>?_;refine U.o (.c2 (DV q m.key)) λU=>?_;refine ax λI a w U=>?_;refine cz (λbl=>?_) λbl=>?_
 .refine aH λI a w U=>?_;refine U.o (.bd ic aW.nil) λU=>?_;refine U.o (mq [_,_] [_,_] mD rfl rfl .tt .tt) λU=>?_;refine zt ?_;refine U.cd (λcm=>?_) λcm=>?_
  .rw[Dv] at cm;refine wp_seq ?_;obtain⟨I,U⟩:=U.fu 1 11 3;refine aV λI a w U=>?_;refine U.eJ [2] (ada q u.2 (dK m) t h.bD rr om om om) (ai .tt (ai .tt (ai .tt aC))) rfl aM rfl λI a w U=>?_;refine U.o (.c1 (EF _ (dS.mV h hw rq aj rr iH bl).small)) λU=>?_;refine ax λI a w U=>?_;refine U.ret rfl (.cons (.sx 0) ba.nil) ?_;exact(by unfold dG jI;rw[ah,if_pos rfl,if_neg aj,if_pos aP,if_pos bl,if_pos cm];rfl)
  rw[Dv] at cm;refine wp_skip<|bk<|wp_seq ?_;obtain⟨I,U⟩:=U.fu 1 11 3;obtain⟨I,U⟩:=U.fu 2 12 3;refine aB λI a w U=>?_;refine U.ret rfl (.cons (.sx 0) ba.nil) ?_;exact(by unfold dG jI;rw[ah,if_pos rfl,if_neg aj,if_pos aP,if_pos bl,if_neg (by rw[cm];simp)];rfl)
 refine aB λI a w U=>?_;refine U.cd (λc8=>?_) λc8=>?_
 .refine wp_seq ?_;obtain⟨I,U⟩:=U.fu 2 12 3;refine aV λI a w U=>?_;refine U.eJ [1] (acQ q u.1 (dK m) t t h (qK rr c8).2) (ai .tt (ai .tt (ai .tt aC))) rfl aM rfl λI a w U=>?_;refine U.o (.c1 (EF _ (dS.mP h hw rq aj rr c8).small)) λU=>?_;refine ax λI a w U=>?_;refine U.ret rfl (.cons (.sx 0) ba.nil) ?_;exact(by unfold dG jI;rw[ah,if_pos rfl,if_neg aj,if_pos aP,if_neg (Int.not_lt.2 bl),if_pos c8];rfl)
 refine wp_skip<|bk<|wp_seq ?_;obtain⟨I,U⟩:=U.fu 1 11 3;obtain⟨I,U⟩:=U.fu 2 12 3;refine aB λI a w U=>?_;refine U.ret rfl (.cons (.sx 0) ba.nil) ?_;exact(by unfold dG jI;rw[ah,if_pos rfl,if_neg aj,if_pos aP,if_neg (Int.not_lt.2 bl),if_neg (by rw[c8];simp)];rfl)
def aeV (q:Call) (n:Value) (hg:∀a∈q.aA,dF a=true) (hl:q.aA.length<=1048576):
 Fn prog 253 [q.yH n] (bw (j9 q)):=by
 refine Fn.go 51 func253 ntmps253 (λW I a U=>?_);have U:=U.fV (sz:=3) 115;refine aN λI a w U=>?_;have U:=U.vP (t:=3) rfl (eW 3 _);refine aY λI a w U=>?_;refine St.lo (σ:=Nat) (3::(5::(run 10 13 []))) ⟨λk=>[(13,AV.int k),(3,bw ((q.aA.take k).foldl l4 []))],λk=>[Own.row (.slice none 0 0) 115 3 []],λk=>k<=q.aA.length⟩ (λk=>q.aA.length-k) 0 U ?aL ?bG;case aL=>exact Nat.zero_le _
 rintro k I a w al U;have hk:k<=q.aA.length:=al;dsimp only at U;refine ax λI a w U=>?_;refine cz (λae=>?_) λae=>?_
 .refine aH λI a w U=>?_;refine U.alloc rfl fF pG λb5 I a w U=>?_;refine ax λI a w U=>?_;obtain⟨I,U⟩:=U.fb 1 5;refine bz λI a w U=>?_;refine U.o (.cl (To ((q.aA.take k).foldl l4 []) (ab q.aA k).bm.aR (sq (acc:=[]) rfl (yR hg k)).1 (sk (hg _ (bB ae))))) λU=>?_;rw[show iB ((q.aA.take k).foldl l4 []) (ab q.aA k).bm.aR=(q.aA.take (k+1)).foldl l4 [] from by rw[ez ae,List.foldl_append];rfl] at U;refine aN λI a w U=>?_;have U:=U.drop 1;exact U.ag (k+1) (ae)
 refine wp_exit<|cM<|cM<|fI<|bk<|wp_seq ?_;rw[show(q.aA.take k).foldl l4 []=fy q from by rw[List.take_of_length_le om];rfl] at U;refine ct λI a w U=>?_;refine St.lo (σ:=Nat×Value) (6::(run 2 8 (run 24 26 []))) ⟨λ⟨k,v⟩=>[(26,AV.int k),(6,AV.val v)],λ⟨k,v⟩=>[Own.row v 115 3 ((rk q k).map ao.cells)],λ⟨k,v⟩=>k<=q.aA.length⟩ (λ⟨k,v⟩=>q.aA.length-k) (0,.slice none 0 0) U ?ei ?jK;case ei=>exact Nat.zero_le _
 rintro⟨k,v⟩ I a w al U;have hk:k<=q.aA.length:=al;dsimp only at U;refine ax λI a w U=>?_;refine cz (λah=>?_) λah=>?_
 .refine aH λI a w U=>?_;refine U.alloc rfl fF pG λb8 I a w U=>?_;refine ax λI a w U=>?_;obtain⟨I,U⟩:=U.fb 1 8;refine aV λI a w U=>?_;refine U.o (.cl (acJ (fy q) (ab q.aA k).key)) λU=>?_;refine U.alloc rfl jF ic λb9 I a w U=>?_;refine ax λI a w U=>?_;obtain⟨I,U⟩:=U.fb 2 9;refine U.o .la λU=>?_;refine U.o (.c1 (wA ..)) λU=>?_;refine bz λI a w U=>?_;refine U.q .T (.cl (QO ..)) λU=>?_;refine ax λI a w U=>?_;refine U.cd (λaj=>?_) λaj=>?_
  .refine bz λI a w U=>?_;refine U.o (.bd fh (.k (.t aW.nil))) λU=>?_;refine U.o (.li [ao.cells ⟨(ab q.aA k).key,bL (fy q) (ab q.aA k).key⟩] fE (.u .nil)) λU=>?_;refine U.append 0 rfl du cE rfl .tt .r rfl (by have:=abp q k;simp;omega) λJv a w U=>?_;rw[bV,abn ah aj] at U;refine aN λI a w U=>?_;have U:=U.drop 1;exact U.ag (k+1,Jv) (ah)
  refine aB λI a w U=>?_;have U:=U.drop 1;rw[abo ah aj] at U;exact U.ag (k+1,v) (ah)
 refine wp_exit<|cM<|cM<|fI<|bk<|wp_seq ?_;rw[ade hg om] at U;obtain⟨I,U⟩:=U.fr 0 6;refine di ?_;rfl
def Td (l:List Call) (time:Int) (ht:time<=4611686018427387904) (vn:∀q∈l,q.aA.length<=1048576):
 Fn prog 47 [fB l,AV.int time] (AV.bool (jJ l time)):=by
 refine Fn.go 98 func47 ntmps47 (λW I a U=>?_);have hle:=U.dE (t:=0) rfl;refine aY λI a w U=>?_;refine cz (λae=>?_) λae=>?_
 .refine bc ?_;exact bF (by unfold jJ;rw[X7 ae];simp)
 refine ax λI a w U=>?_;refine St.lo (σ:=Nat) (run 4 4 (run 87 11 [])) ⟨λk=>[(5,AV.int k)],λk=>[],λk=>k<=l.length/\∀i,i<k->(mZ l time) i=true⟩ (λk=>l.length-k) 0 U ?aL ?bG;case aL=>exact⟨Nat.zero_le _,λi hi=>by omega⟩
 rintro k I a w al U;obtain⟨rV,aT⟩:=al;refine aY λI a w U=>?_;refine cz (λah=>?_) λah=>?_
 .refine zt ?_;refine U.dk ?_;refine fD ?_;refine .o (.c2 (EP _ _ ht (vn _ (bB ah)))) ?_;refine nd ?_;refine dJ ?_;refine .nil ?_;intro I a w U;refine bk ?_;refine U.cd (λaj=>?_) λaj=>?_
  .rw[RM] at aj;replace aj:=nt aj;refine bc ?_;exact bF (by unfold jJ;rw[fN (f:=mZ l time) ah (by rw[EC,aj];rfl)];rfl)
  rw[RM] at aj;replace aj:=nf aj;refine aB λI a w U=>?_;refine St.lo (σ:=Nat) (4::(run 2 6 (run 48 42 []))) ⟨λk2=>[(7,AV.int k2),(6,AV.int (ga l k2 (ab l k).aq))],λk2=>[],λk2=>k2<=k/\∀i,i<k2->(λj=>!lM (ab l j) (ab l k)) i=true⟩ (λk2=>k-k2) 0 U ?ei ?jK;case ei=>exact⟨Nat.zero_le _,λi hi=>by omega⟩
  rintro k2 I a w al U;obtain⟨zn,jL⟩:=al;refine aN λI a w U=>?_;refine cz (λaJ=>?_) λaJ=>?_
  .refine ax λI a w U=>?_;refine cz (λaP=>?_) λaP=>?_
   .refine zt ?_;refine aN λI a w U=>?_;refine U.again (k2+1) ?ij ?ik dD ?il (by repeat(first|exact Env.le_rfl|refine Env.hP rfl ?_));case ij=>omega
    case ik=>exact⟨by omega,gO jL (by show(!lM (ab l k2) (ab l k))=true;rw[ZF aP];rfl)⟩
    case il=>exact(Env.dq rfl dD (Env.dq rfl (by first|exact congrArg AV.int (by rw[rW om,if_neg aP])|exact congrArg AV.int (by rw[RL (aT k2 om),show(ab l k2).aq=(ab l k).aq by omega])) Env.le_nil))
   refine jf λI a w U=>?_;refine U.cd (λbn=>?_) λbn=>?_
   .rw[RN om] at bn;refine bc ?_;exact bF (by unfold jJ;rw[fN (f:=mZ l time) ah (by rw[EC,fN (f:=λj=>!lM (ab l j) (ab l k)) (k:=k2) om (by rw[bn];rfl)];simp)];rfl)
   rw[RN om] at bn;refine aN λI a w U=>?_;refine U.again (k2+1) ?mR ?mS dD ?mT (by repeat(first|exact Env.le_rfl|refine Env.hP rfl ?_));case mR=>omega
   case mS=>exact⟨by omega,gO jL (by show(!lM (ab l k2) (ab l k))=true;rw[bn];rfl)⟩
   case mT=>exact(Env.dq rfl dD (Env.dq rfl (by first|exact congrArg AV.int (by rw[rW om,if_neg aP])|exact congrArg AV.int (by rw[RL (aT k2 om),show(ab l k2).aq=(ab l k).aq by omega])) Env.le_nil))
  refine zt ?_;refine dI λI a w U=>?_;refine U.o (lz .tt .c (λ_=>by have:=DD l k2 (ab l k).aq;omega)) λU=>?_;refine ax λI a w U=>?_;refine cz (λbl=>?_) λbl=>?_
  .refine bc ?_;exact bF (by unfold jJ;rw[fN (f:=mZ l time) ah (by rw[EC,rW ah,if_pos rfl,show((ab l k).num==ga l k (ab l k).aq+1)=false by(rw[show k2=k by omega] at bl;simpa using bl)];simp)];rfl)
  refine aN λI a w U=>?_;exact U.ag (k+1) (⟨by omega,gO aT (by rw[EC,aj,fJ jL om];simp only[Bool.true_and,Bool.and_true,beq_iff_eq];rw[rW ah,if_pos rfl];rw[show k2=k by omega] at bl;omega)⟩)
 refine zt ?_;refine bc ?_;exact bF (by unfold jJ;rw[fJ aT om];simp;omega)
def aey (s:Server) (m:az) (al:eM s) (ho:s.aD.length<=80) (hm:bM m=true):
 Fn prog 187 [s.av,m.av] ((l8 s m).av):=by
 refine Fn.go 57 func187 ntmps187 (λW I a U=>?_);have jM:=qI (Ot hm);have h3:=al.aF;have E5:=λh=>PK (l:=s.aD) (d:=⟨m.key,m.ar⟩) h;refine sr<|U.box rfl .tt λb2 I a w U=>U.o .bp λU=>U.alloc rfl cq dz λb4 I a w U=>?_;refine dI λI a w U=>?_;refine U.o (.bd fh (.k (.t aW.nil))) λU=>?_;refine U.o (.cl (Bj s.aD ⟨m.key,m.ar⟩)) λU=>?_;refine ax λI a w U=>?_;refine U.dk ?_;refine cj ?_;refine .o (.c1 (rS ..)) ?_;refine dM ?_;refine .q .F (.cl (qL ..)) ?_;refine cj ?_;refine .q .F (.cl (qL ..)) ?_;refine Wp ?_;refine .q .F (.cl (uJ ..)) ?_;refine fD ?_;refine .nil ?_;intro I a w U;refine bk ?_;refine U.cd (λae=>?_) λae=>?_
 .rw[Sf s m] at ae;replace ae:=nt ae;refine aB λI a w U=>?_;refine U.ret rfl (.cons (.sx 1) ba.nil) ?_;exact(by unfold l8;rw[ae];rfl)
 rw[Sf s m] at ae;replace ae:=nf ae;refine zt ?_;have U:=U.gF;refine U.dh (rp 2 (([0],none)::rp 2 (([2],some (2,[48]))::([],none)::([0],none)::rp 3 [([2],some (2,[])),([],none),([0],some (0,[]))]))) aG aG rfl ?_;refine .o (tb du cE) ?_;refine aX ?_;refine .r [0] (.lb 0) ?_;refine aX ?_;refine .o (Ak du cE .r .tt (λ_=>by simp only[B] at ae;have h9:=E5 om;simp only[List.length_map];omega)) ?_;refine aK.AF 2 rfl rfl du cE rfl .tt .r fT ?_;refine aX ?_;refine .r [0] (.lb 0) ?_;refine aX ?_;refine .o (lz .tt .c (λ_=>by simp only[B] at ae;have h9:=E5 om;omega)) ?_;refine .o (Aj du cE .r .tt (λ_=>by simp only[B] at ae;have h9:=E5 om;simp only[List.length_map];omega)) ?_;refine aK.C4 2 rfl rfl du cE rfl .r fT ?_;refine aX ?_;refine aK.cX (x:=AV.any) 0 (λF W0 I0 I a w Q U kk=>U.s1 0 λU=>kk _ _ _ U) ?_;refine .nil ?_;intro I a w U;rw[<-List.map_take,<-List.map_drop,<-List.map_append] at U;refine aB λI a w U=>?_;refine U.ret rfl (.cons (.sx 1) ba.nil) ?_;exact(by unfold l8;rw[ae];have h9:=E5 (by simp only[B] at ae;omega);rw[show((fG s.aD ⟨m.key,m.ar⟩)+1).toNat=(fG s.aD ⟨m.key,m.ar⟩).toNat+1 by simp only[B] at ae;omega];rfl)
def aez (q:Call) (t:Int) (h:dS q t) (ht:t<=1000000):
 Fn prog 139 [q.av] (cQ (jH q)):=by
 refine Fn.go 89 func139 ntmps139 (λW I a U=>?_);have hb:=h.bE;have xE:=h.BU om;have nF:=h.lens;have dO:=Ji (sE.2 h);refine aB λI a w U=>?_;refine U.l0 λb6 I a w U=>?_;refine fo λI a w U=>?_;refine U.o (cr (EP q (q.bE+q.end_) om om) (ai (.t rfl) (ai (.t rfl) aC))) λU=>?_;refine uE λI a w U=>?_;refine U.cd (λae=>?_) λae=>?_
 .rw[Sl (t:=t) dO xE.1] at ae;replace ae:=nt ae;refine aB λI a w U=>?_;obtain⟨I,U⟩:=U.fr 0 2;refine U.rt ?_;exact(by unfold jH;rw[ae];rfl)
 rw[Sl (t:=t) dO xE.1] at ae;replace ae:=nf ae;refine aN λI a w U=>?_;refine cz (λah=>?_) λah=>?_
 .refine wp_seq<|U.dk ?_;refine yv ?_;refine .o (.bd dN (.k (.k (.k (.k aW.nil))))) ?_;refine .o (.c2 (Jp q {cn with kind:=1,key:=ab q.keys 0,val:=q.val,aR:=q.ctx} h.aq ⟨by show q.ctx.length<=_;omega,by simp[uW,cn],by simp[uW,cn],by simp[cn]⟩)) ?_;refine aX ?_;refine .nil ?_;intro I a w U;refine zt ?_;refine U.rt ?_;exact(by unfold jH asks;rw[ae,if_pos rfl,if_pos ah];rfl)
 refine ax λI a w U=>?_;refine St.lo (σ:=Nat×Value) (run 2 3 (run 25 39 [])) ⟨λ⟨k,v⟩=>[(4,AV.int k),(3,AV.val v)],λ⟨k,v⟩=>[Own.row v 84 15 ((qc q k).map az.cells)],λ⟨k,v⟩=>k<=q.keys.length⟩ (λ⟨k,v⟩=>q.keys.length-k) (0,.slice (some ⟨b6,0,none⟩) 0 0) U ?aL ?bG;case aL=>exact Nat.zero_le _
 rintro⟨k,v⟩ I a w al U;have hk:k<=q.keys.length:=al;dsimp only at U;refine ct λI a w U=>?_;refine cz (λaj=>?_) λaj=>?_
 .refine zt ?_;refine U.dk ?_;refine gZ ?_;refine .o (.c2 (DV ..)) ?_;refine aX ?_;refine .nil ?_;intro I a w U;refine bk ?_;refine cz (λaJ=>?_) λaJ=>?_
  .refine U.dt 9 ?_;simp only[TD];refine kJ ?_;refine .o (.bd dN (.k (.k aW.nil))) ?_;refine .o (.c2 (Jp q (wS (ab q.keys k)) h.aq (Sn _)))<|.nil ?_;intro I a w U;refine U.append 0 rfl fi dj rfl .tt .r rfl (by have:=I9 q k hk;simp[jS];omega) λv63 a w U=>?_;rw[<-List.map_append,RS aj (by simpa using aJ)] at U;refine aY λI a w U=>?_;exact U.ag (k+1,v63) (aj)
  refine aN λI a w U=>?_;rw[RT aj (by simpa using aJ)] at U;exact U.ag (k+1,v) (aj)
 refine wp_exit<|cM<|cM<|fI<|bk<|wp_seq<|wp_seq ?_;rw[ac7 om] at U;refine ax λI a w U=>?_;refine St.lo (σ:=Nat×Value) (3::(5::(run 24 64 []))) ⟨λ⟨j,v⟩=>[(5,AV.int j),(3,AV.val v)],λ⟨j,v⟩=>[Own.row v 84 15 ((sG q j).map az.cells)],λ⟨j,v⟩=>j<=q.aO.length⟩ (λ⟨j,v⟩=>q.aO.length-j) (0,v) U ?ei ?jK;case ei=>exact Nat.zero_le _
 rintro⟨j,v⟩ I a w al U;have hj:j<=q.aO.length:=al;dsimp only at U;refine ct λI a w U=>?_;refine cz (λaP=>?_) λaP=>?_
 .refine zt ?_;refine U.dt 16 ?_;simp only[TD];refine tk ?_;refine .o (.bd dN (.k (.k (.t aW.nil)))) ?_;refine .o (.c2 (Jp q (xq (ab q.aO j)) h.aq (So _)))<|.nil ?_;intro I a w U;refine U.append 0 rfl fi dj rfl .tt .r rfl (by have:=Sz q j hj;simp[jS];omega) λJb a w U=>?_;rw[<-List.map_append,Sy aP] at U;refine aY λI a w U=>?_;exact U.ag (j+1,Jb) (aP)
 refine wp_exit<|cM<|cM<|fI<|bk<|wp_seq ?_;rw[ac8 ae (by simpa using ah) om] at U;obtain⟨I,U⟩:=U.fr 0 3;refine di ?_;rfl
def Te {q:Call} {k:Nat} (hw:gP q=true) (h:(asks q).length<=k):pk q k=jH q:=by
 unfold pk jH;rw[if_pos hw,List.take_of_length_le h]
def Tf (q:Call) (m:az) (t:Int):(!gP q||decide (t<=q.bE)||!bM m||(m.to !=10+q.aq)||(m.call !=q.num)||!g9 q.keys m.key)=
 !(bM m&&(m.to==10+q.aq)&&(m.call==q.num)&&g9 q.keys m.key&&gP q&&decide (q.bE<t)):=by
 have e2:decide (t<=q.bE)=!decide (q.bE<t):=by rw[Bool.eq_iff_iff];simp
 rw[e2,Bool.eq_iff_iff];cases gP q<;>cases bM m<;>cases decide (q.bE<t)<;>cases g9 q.keys m.key<;>simp[bne]
def J9 (br:Nat) (code:List UInt8) (p:Int) (hp:0<=p/\p<=1099510000000) (aQ:code.length<=1099511627776):
 bT prog 81 [AV.val (.pointer (some ⟨br,0,none⟩))] [Own.box br 100 [cg code,AV.int (p)]] (λr:List ao×Value×Int=>r.1.length<=7/\p<=r.2.2/\r.2.2<=p+30) (λr=>[Own.box br 100 [cg code,AV.int (r.2.2)],Own.row r.2.1 115 3 (r.1.map ao.cells)]) (λr=>AV.val r.2.1):=by
 refine bT.intro 40 func81 rfl ntmps81 rfl aG (λW I a U=>?_);refine ax λI a w U=>?_;refine U.l0 λb5 I a w U=>?_;refine aH λI a w U=>?_;refine U.bq [0] (eh br code (p) (5) om aQ) (ai .tt (ai .c aC)) rfl aM rfl λ⟨x7,q7⟩ I a w tU U=>?_;replace tU:0<=x7/\(0<(5:Int)->x7<(5))/\q7=p+1:=tU;obtain⟨SX,JP,rfl⟩:=tU;have U:=U.nf;refine ax λI a w U=>?_;refine St.lo (σ:=Int×List ao×Value×Int) (run 2 3 (run 8 8 [])) ⟨λ⟨m,l,v,p1⟩=>[(4,AV.int m),(3,AV.val v)],λ⟨m,l,v,p1⟩=>[Own.box br 100 [cg code,AV.int (p1)],Own.row v 115 3 (l.map ao.cells)],λ⟨m,l,v,p1⟩=>bN l=true/\0<=m/\m<=4/\p<=p1/\p1<=p+1+3*(4-m)⟩ (λ⟨m,l,v,p1⟩=>m.toNat) (x7,[],.slice (some ⟨b5,0,none⟩) 0 0,p+1) U ?aL ?bG;case aL=>exact⟨rfl,SX,by have:=JP om;omega,by omega,by have:=JP om;omega⟩
 rintro⟨m,l,v,p1⟩ I a w al U;obtain⟨hl,CX,S2,JV,yg⟩:=al;dsimp only at U;refine aB λI a w U=>?_;refine cz (λae=>?_) λae=>?_
 .refine aH λI a w U=>?_;refine U.bq [0] (P5 br code p1 om aQ) (ai .tt aC) rfl aM rfl λ⟨d14,q14⟩ I a w zG U=>?_;replace zG:iP d14=true/\q14=p1+3:=zG;obtain⟨Tg,rfl⟩:=zG;obtain⟨I,U⟩:=U.fr 1 12;refine U.lZ (ad8 l d14 hl Tg) (ai .r (ai .tt aC)) rfl λI Ik a w U=>?_;have U:=U.s8 1 rfl;refine aY λI a w U=>?_;have U:=U.drop 2;exact U.ag (m-1,eS l d14,Ik,p1+3) (⟨QJ hl Tg,by show 0<=m-1;omega,by show m-1<=4;omega,by show p<=p1+3;omega,by show p1+3<=_;omega⟩)
 refine zt ?_;refine U.m λU=>?_;refine U.bq [0] (eh br code (p1) (14) om aQ) (ai .tt (ai .c aC)) rfl aM rfl λ⟨sI,zJ⟩ I a w lR U=>?_;replace lR:0<=sI/\(0<(14:Int)->sI<(14))/\zJ=p1+1:=lR;obtain⟨JR,JS,rfl⟩:=lR;have U:=U.nf;refine aB λI a w U=>?_;refine cz (λah=>?_) λah=>?_
 .refine aH λI a w U=>?_;refine U.bq [0] (eh br code (p1+1) (7) om aQ) (ai .tt (ai .c aC)) rfl aM rfl λ⟨qg,q22⟩ I a w E4 U=>?_;replace E4:0<=qg/\(0<(7:Int)->qg<(7))/\q22=p1+1+1:=E4;obtain⟨Ka,Kb,rfl⟩:=E4;have U:=U.nf;refine aH λI a w U=>?_;refine U.bq [0] (Bq br code (p1+1+1) om aQ) (ai .tt aC) rfl aM rfl λ⟨zK,Kc⟩ I a w zL U=>?_;replace zL:p1+1+1<=Kc/\Kc<=p1+1+1+4:=zL;refine U.o (.bd fh (.k (.t aW.nil))) λU=>?_;refine U.o (.li [ao.cells ⟨qg-1,zK⟩] fE (.u .nil)) λU=>?_;refine U.append 1 rfl du cE rfl .tt .r rfl (by rw[List.length_map];have:=eL hl;simp;omega) λBG a w U=>?_;rw[bV] at U;refine aN λI a w U=>?_;have ss:=eL hl;refine U.bJ (l++[⟨qg-1,zK⟩],BG,Kc) [0,1] rfl (.cons (.t rfl) .nil) (by dsimp only;refine⟨by first|omega|(simp;omega),by omega,by omega⟩) rfl rfl
 refine aB λI a w U=>?_;refine cz (λaj=>?_) λaj=>?_
 .refine bA λI a w U=>?_;refine U.o (lC 1 du .tt rfl) λU=>?_;refine ax λI a w U=>?_;refine oV (λaJ=>?_) λaJ=>?_
  .rw[List.length_map] at aJ;obtain⟨bR,cR,rfl⟩:=U.ia 1 rfl iv;refine aH λI a w U=>?_;refine U.bq [0] (Bq br code (p1+1) om aQ) (ai .tt aC) rfl aM rfl λ⟨sK,rv⟩ I a w nE U=>?_;replace nE:p1+1<=rv/\rv<=p1+1+4:=nE;refine U.o (yy 1 du cE .tt .c rfl (λ_=>by rw[List.length_map];omega)) λU=>?_;refine U.o .fv λU=>?_;refine U.Oh (j:=1) 1 jF .tt .tt rfl (by exact ey om) rfl rfl rfl λa w U=>?_;refine wpList_nil ?_;have e9:∀y,y=ao.cells ⟨(ab l 0).key,sK⟩->(List.map ao.cells l).set 0 y=List.map ao.cells (l.set 0 ⟨(ab l 0).key,sK⟩):=λy hy=>by rw[hy,List.map_set]
   rw[show Int.toNat 0=0 from rfl,e9] at U;rotate_left
   .rfl
   refine aB λI a w U=>?_;have ss:=eL hl;refine U.bJ (l.set 0 ⟨(ab l 0).key,sK⟩,.slice (some ⟨bR,0,none⟩) (l.map ao.cells).length cR,rv) [0,1] rfl (.cons (.t rfl) .nil) (by dsimp only;refine⟨by first|omega|(simp;omega),by omega,by omega⟩) rfl rfl
  refine aB λI a w U=>?_;have ss:=eL hl;refine U.bJ (l,v,p1+1) [0,1] rfl (.cons (.t rfl) .nil) (by dsimp only;refine⟨by first|omega|(simp;omega),by omega,by omega⟩) rfl rfl
 refine aB λI a w U=>?_;have ss:=eL hl;refine U.bJ (l,v,p1+1) [0,1] rfl (.cons (.t rfl) .nil) (by dsimp only;refine⟨by first|omega|(simp;omega),by omega,by omega⟩) rfl rfl
def aer (s:Server) (m:az) (al:eM s) (h0:cO s.site=true) (ho:s.aD.length<=80) (hm:bM m=true):
 Fn prog 191 [s.av,m.av] ((mX s m).av):=by
 refine Fn.go 53 func191 ntmps191 (λW I a U=>?_);have jM:=qB hm;have h3:=al.aF;have h4:(eb s m.slot).aF.length=3:=h3;have e9:∀x,x=cG.cells ⟨m.bf,0⟩->(List.map cG.cells (eb s m.slot).aF).set m.slot.toNat x=List.map cG.cells (kR s m).aF:=λx h=>by rw[h];exact List.map_set.symm
 refine sr<|U.box rfl .tt λb2 I a w U=>U.o .bp λU=>U.alloc rfl cq dz λb4 I a w U=>nn<|wp_seq<|wp_seq<|U.dk ?_;refine dM ?_;refine .o (.c1 (yL _ h0)) ?_;refine nd ?_;refine kJ ?_;refine .nil ?_;intro I a w U;refine bk ?_;refine U.cd (λae=>?_) λae=>?_
 .rw[Sg s m] at ae;replace ae:=nt ae;refine aB λI a w U=>?_;refine U.ret rfl (.cons (.sx 1) ba.nil) ?_;exact(by unfold mX;rw[ae];rfl)
 rw[Sg s m] at ae;replace ae:=nf ae;refine aV λI a w U=>?_;refine U.o (.c2 (Rd s m.slot al.an al.waits ho)) λU=>?_;refine ax λI a w U=>?_;refine U.l0 λb38 I a w U=>?_;refine aH λI a w U=>?_;refine U.ap 2 λzC a w U=>?_;refine U.o .fv λU=>?_;try have amZ:=U.dZ 2 rfl
 refine ax λI a w U=>?_;simp only[List.nil_append] at U;obtain⟨b41,am1,e41⟩:=U.ia 2 rfl pt;subst e41;refine dI λI a w U=>?_;refine U.o (.bd mC (.k aW.nil)) λU=>?_;refine U.o (gq fP ew .tt .tt (λ_=>by simp only[List.length_map];omega)) λU=>?_;refine U.jZ 2 ew .tt .tt rfl (by exact ey om) rfl rfl λa w U=>?_;refine zt ?_;rw[e9] at U;rotate_left
 .rfl
 obtain⟨I,U⟩:=U.fu 2 2 0;refine bA λI a w U=>?_;refine U.o (.c1 (zD (kR s m) (al.gone m))) λU=>?_;refine ax λI a w U=>?_;refine U.ret rfl (.cons (.sx 1) ba.nil) ?_;exact(by unfold mX;rw[ae];rfl)
def aet (s:Server) (m:az) (al:gQ s=true):
 Fn prog 185 [s.av,m.av] (cQ (iV s m)):=by
 refine Fn.go 68 func185 ntmps185 (λW I a U=>?_);have hp:=Bc al;refine bO λI a w U=>?_;refine U.o (.c1 (A0 ..)) λU=>?_;refine uD λI a w U=>?_;refine U.q .F (.cl (Jk _ _ al)) λU=>?_;refine aB λI a w U=>?_;refine U.cd (λae=>?_) λae=>?_
 .rw[EI s m] at ae;replace ae:=nt ae;refine zt ?_;refine U.l0 λb24 I a w U=>?_;refine ax λI a w U=>?_;obtain⟨I,U⟩:=U.fr 0 4;refine U.rt ?_;exact(by unfold iV;rw[ae];rfl)
 rw[EI s m] at ae;replace ae:=nf ae;refine bz λI a w U=>?_;refine U.o (.cl (Qp _ _ hp.2.1)) λU=>?_;refine aV λI a w U=>?_;refine U.alloc rfl bU dR λb5 I a w U=>?_;refine bz λI a w U=>?_;refine U.o (.bd ic aW.nil) λU=>?_;refine U.o (rJ [_,_] [_,_] mD rfl rfl .tt .tt) λU=>?_;refine zt ?_;refine U.cd (λah=>?_) λah=>?_
 .rw[DE m.ar] at ah;replace ah:=nt ah;refine dI λI a w U=>?_;refine U.o (.cl (sj ..)) λU=>?_;refine jf λI a w U=>?_;refine U.cd (λaj=>?_) λaj=>?_
  .refine zt ?_;refine U.l0 λb49 I a w U=>?_;refine ax λI a w U=>?_;obtain⟨I,U⟩:=U.fr 1 4;refine U.rt ?_;exact(by unfold iV;rw[ae,if_pos rfl,ah,if_neg bt];rw[Bz hp.2.1] at aj;rw[A5 aj];rfl)
  refine yt λI a w U=>?_;refine U.o (.bd dN (.k (.k (.k (.k (.k (.t (.k aW.nil)))))))) λU=>?_;refine U.alloc rfl dj dN λb7 I a w U=>?_;refine aB λI a w U=>?_;refine U.cd (λaJ=>?_) λaJ=>?_
  .refine bA λI a w U=>?_;refine U.o (.li [_] ju (.u .nil)) λU=>?_;refine aV λI a w U=>?_;refine U.o (.li [_] gw (.u .nil)) λU=>?_;refine bc ?_;exact(by unfold iV;rw[ae,if_pos rfl,ah,if_neg bt];rw[Bz hp.2.1] at aJ⊢;obtain⟨v,hv⟩:=Option.isSome_iff_exists.1 aJ;rw[hv];rfl)
  refine bA λI a w U=>?_;refine U.o (.li [_] gw (.u .nil)) λU=>?_;refine bc ?_;exact(by simp only[B] at aj;rw[aj] at aJ;cases aJ)
 rw[DE m.ar] at ah;replace ah:=nf ah;refine yt λI a w U=>?_;refine U.o (.bd dN (.k (.k (.k (.k (.k (.t (.k aW.nil)))))))) λU=>?_;refine U.alloc rfl dj dN λb7 I a w U=>?_;refine aB λI a w U=>?_;refine U.cd (λaP=>?_) λaP=>?_
 .refine bA λI a w U=>?_;refine U.o (.li [_] ju (.u .nil)) λU=>?_;refine aV λI a w U=>?_;refine U.o (.li [_] gw (.u .nil)) λU=>?_;refine bc ?_;exact(by unfold iV;rw[ae,if_pos rfl,ah,if_pos rfl];obtain⟨v,hv⟩:=Option.isSome_iff_exists.1 aP;unfold mM;rw[hv];rfl)
 refine bA λI a w U=>?_;refine U.o (.li [_] gw (.u .nil)) λU=>?_;refine bc ?_;exact(by unfold iV;rw[ae,if_pos rfl,ah,if_pos rfl];unfold mM;rw[show fq s.an m.key=none from A5 (by rw[aP];rfl)];rfl)
def S9 (s:Server) (slot:Int) (h:qO s) (h0:cO s.site=true) (hl:s.aF.length=3) (jM:0<=slot/\slot<3):
 Fn prog 204 [s.av,AV.int slot] ((gi s slot).av):=by
 refine Fn.go 44 func204 ntmps204 (λW I a U=>?_);obtain⟨h1,⟨h2,h3⟩,⟨h4,h5⟩,h6,h7⟩:=h;refine bA λI a w U=>?_;refine U.alloc rfl dj dN λb4 I a w U=>?_;refine zt ?_;refine U.da 14 ?_;simp only[TD];refine dM ?_;refine .o (.c1 (HX _ h0)) ?_;refine kJ ?_;refine .o (.bd dN (.k (.k (.k (.k (.k aW.nil)))))) ?_;refine gv.alloc dj dN<|.nil ?_;intro I a w U;obtain⟨b5,U⟩:=U.uz (d:=5) rfl;refine bz λI a w U=>?_;refine U.o (.cl (Ej s.an slot h2 h3)) λU=>?_;refine lI λI a w U=>?_;refine U.o (.cl (Ej s.waits slot h4 h5)) λU=>?_;refine lI λI a w U=>?_;refine U.o (.cl (QX s.aD slot h6)) λU=>?_;refine jf λI a w U=>?_;refine U.ret rfl (.cons (.sx 0) ba.nil) ?_;rfl
def sJ (q:Call) (k:Nat):List az:=qd q q.keys.length++(q.aO.take k).map xq
def Ta {q:Call} {k:Nat} (h:k<q.keys.length) (hg:¬cB q (ab q.keys k)<0):qd q k=qd q (k+1):=by
 unfold qd;rw[nv h (by simpa using hg)]
def aeu {q:Call} {k:Nat} (h:k=q.keys.length):qd q k=sJ q 0:=by subst h;simp[sJ]
def aev (w:aI) (e:Ev):(if e.kind=5\/e.hO=0 then{w with au:=w.au.take e.word.toNat++w.au.drop (e.word.toNat+1)} else w)={w with au:=iD w e}:=by unfold iD;split<;>rfl
def B6 (br:Nat) (code:List UInt8) (p:Int) (hp:0<=p/\p<=1099500000000) (aQ:code.length<=1099511627776) (ly:Int) (hm:1<=ly/\ly<=12):
 bT prog 131 [AV.val (.pointer (some ⟨br,0,none⟩)),AV.int ly] [Own.box br 100 [cg code,AV.int (p)]] (λr:List aE×Value×Int=>qC r.1/\p<=r.2.2/\r.2.2<=p+500) (λr=>[Own.box br 100 [cg code,AV.int (r.2.2)],Own.row r.2.1 62 7 (r.1.map aE.cells)]) (λr=>AV.val r.2.1):=by
 refine bT.intro 62 func131 rfl ntmps131 rfl aG (λW I a U=>?_);refine ax λI a w U=>?_;refine U.l0 λkS I a w U=>?_;refine aV λI a w U=>?_;refine U.bq [0] (eh br code (p) (ly) om aQ) (ai .tt (ai .tt aC)) rfl aM rfl λ⟨ud,B7⟩ I a w ru U=>?_;replace ru:0<=ud/\(0<(ly:Int)->ud<(ly))/\B7=p+1:=ru;obtain⟨J5,E3,rfl⟩:=ru;have U:=U.nf;refine ax λI a w U=>?_;refine St.lo (σ:=Int×List aE×Value×Int) (run 2 5 (run 11 14 [])) ⟨λ⟨m,l,v,p1⟩=>[(6,AV.int m),(5,AV.val v)],λ⟨m,l,v,p1⟩=>[Own.box br 100 [cg code,AV.int (p1)],Own.row v 62 7 ((l).map aE.cells)],λ⟨m,l,v,p1⟩=>bY l=true/\0<=m/\m<=12/\p<=p1/\p1<=p+1+31*(12-m)⟩ (λ⟨m,l,v,p1⟩=>m.toNat) (ud,[],.slice (some ⟨kS,0,none⟩) 0 0,p+1) U ?aL ?bG;case aL=>exact⟨rfl,J5,by have:=E3 om;omega,by omega,by have:=E3 om;omega⟩
 rintro⟨m,l,v,p1⟩ I a w al U;obtain⟨hl,CX,S2,JV,yg⟩:=al;dsimp only at U;refine aB λI a w U=>?_;refine cz (λae=>?_) λae=>?_
 .refine aH λI a w U=>?_;refine U.bq [0] (SW br code p1 om aQ) (ai .tt aC) rfl aM rfl λ⟨B8,B9⟩ I a w Tb U=>?_;replace Tb:si B8/\p1<=B9/\B9<=p1+30:=Tb;have U:=U.nf;obtain⟨I,U⟩:=U.fr 1 19;refine U.bq [] (SV l B8 hl) (ai .r (ai .tt aC)) rfl aM rfl λv22 I a w E4 U=>?_;have U:=U.s8 1 rfl;have U:=U.nf;refine jf λI a w U=>?_;have U:=U.drop 2;exact U.ag (m-1,if gH l B8 then eE l B8 else l,v22,B9) (⟨Q6 hl B8,by show 0<=m-1;omega,by show m-1<=12;omega,by show p<=B9;omega,by show B9<=_;omega⟩)
 refine zt ?_;refine U.m λU=>?_;refine U.bq [0] (eh br code (p1) (16) om aQ) (ai .tt (ai .c aC)) rfl aM rfl λ⟨Tc,q26⟩ I a w xD U=>?_;replace xD:0<=Tc/\(0<(16:Int)->Tc<(16))/\q26=p1+1:=xD;obtain⟨am4,am5,rfl⟩:=xD;have U:=U.nf;refine aB λI a w U=>?_;refine cz (λah=>?_) λah=>?_
 .refine aH λI a w U=>?_;refine U.bq [0] (SW br code (p1+1) om aQ) (ai .tt aC) rfl aM rfl λ⟨J6,J7⟩ I a w EH U=>?_;replace EH:si J6/\p1+1<=J7/\J7<=p1+1+30:=EH;have U:=U.nf;refine U.o (.li [J6.cells] ju (.u .nil)) λU=>?_;refine U.append 1 rfl ea bU rfl .tt .r rfl (by rw[List.length_map];have:=gz hl;simp;omega) λJO a w U=>?_;rw[bV] at U;refine aN λI a w U=>?_;refine U.bJ (l++[J6],JO,J7) [0,1] rfl (.cons (.t rfl) .nil) (by dsimp only;exact⟨aan hl EH.1,by omega,by omega⟩) rfl rfl
 refine aB λI a w U=>?_;refine cz (λaj=>?_) λaj=>?_
 .refine ax λI a w U=>?_;refine St.lo (σ:=Nat×List aE×Value×Int) (5::(run 3 7 (run 25 36 []))) ⟨λ⟨n,l,v,p1⟩=>[(7,AV.int n),(5,AV.val v)],λ⟨n,l,v,p1⟩=>[Own.box br 100 [cg code,AV.int (p1)],Own.row v 62 7 ((l).map aE.cells)],λ⟨n,l,v,p1⟩=>bY l=true/\n<=40/\p<=p1/\p1<=p+374+n⟩ (λ⟨n,l,v,p1⟩=>40-n) (0,l,v,p1+1) U ?ei ?jK;case ei=>exact⟨hl,Nat.zero_le _,by omega,by simp;omega⟩
  rintro⟨n,l,v,p1⟩ I a w al U;obtain⟨hl,hn,JV,yg⟩:=al;dsimp only at U;refine bz λI a w U=>?_;refine U.GQ 0 (FW rfl rfl rfl) rfl rfl (cU br code p1 4 om aQ) (ai .ag (ai .c aC)) λI a w U=>?_;have hq:∀G:Bool,∃p2:Int,(bif G then Own.box br 100 [cg code,AV.int (p1+1)] else Own.box br 100 [cg code,AV.int (p1)])=Own.box br 100 [cg code,AV.int (p2)]/\p1<=p2/\p2<=p1+1:=λG=>by cases G;exact⟨p1,rfl,by omega,by omega⟩;exact⟨p1+1,rfl,by omega,by omega⟩
  obtain⟨p2,e2,B5,S4⟩:=hq (decide ((n:Int)<40));change St _ _ [(bif decide ((n:Int)<40) then Own.box br 100 [cg code,AV.int (p1+1)] else Own.box br 100 [cg code,AV.int (p1)]),Own.row v 62 7 (l.map aE.cells)] _ _ _ at U;rw[e2] at U;refine aB λI a w U=>?_;refine U.cd (λaJ=>?_) λaJ=>?_
  .have am6:n<40:=by simp only[Bool.and_eq_true,decide_eq_true_eq] at aJ;omega
   refine ax λI a w U=>?_;refine St.lo (σ:=Nat×List aE×Value) (5::(run 2 8 (run 16 45 []))) ⟨λ⟨j,l,v⟩=>[(8,AV.int j),(5,AV.val v)],λ⟨j,l,v⟩=>[Own.box br 100 [cg code,AV.int (p2)],Own.row v 62 7 (l.map aE.cells)],λ⟨j,l,v⟩=>bY l=true/\j<=3⟩ (λ⟨j,l,v⟩=>3-j) (0,l,v) U ?iN ?pj;case iN=>exact⟨hl,Nat.zero_le _⟩
   rintro⟨j,l,v⟩ I a w al U;obtain⟨hl,hj⟩:=al;dsimp only at U;refine aB λI a w U=>?_;refine cz (λaP=>?_) λaP=>?_
   .refine bz λI a w U=>?_;refine U.o (.bd ic (.k (.k aW.nil))) λU=>?_;refine U.o (.bd dR (.k (.t (.k (.k aW.nil))))) λU=>?_;refine U.alloc rfl bU dR λb9 I a w U=>?_;refine ax λI a w U=>?_;obtain⟨I,U⟩:=U.fb 2 9;refine U.m λU=>?_;obtain⟨I,U⟩:=U.fr 1 56;refine U.o .la λU=>?_;refine U.bq [] (SV l ⟨(j:Int),⟨20+(n:Int),(j:Int)⟩,0,1,9,[]⟩ hl) (ai .r (ai .tt aC)) rfl aM rfl λJ8 I a w am7 U=>?_;have U:=U.s8 1 rfl;have U:=U.nf;refine jf λI a w U=>?_;have U:=U.drop 2;exact U.ag (j+1,if gH l ⟨(j:Int),⟨20+(n:Int),(j:Int)⟩,0,1,9,[]⟩ then eE l ⟨(j:Int),⟨20+(n:Int),(j:Int)⟩,0,1,9,[]⟩ else l,J8) (⟨Q6 hl _,by show j+1<=3;omega⟩)
   refine zt ?_;refine aN λI a w U=>?_;exact U.ag (n+1,l,v,p2) (⟨hl,by show n+1<=40;omega,by show p<=p2;omega,by show p2<=_;simp;omega⟩)
  refine zt ?_;refine aB λI a w U=>?_;refine U.bJ (l,v,p2) [0,1] rfl (.cons (.t rfl) .nil) (by dsimp only;exact⟨IE hl,by omega,by omega⟩) rfl rfl
 refine aB λI a w U=>?_;refine U.bJ (l,v,p1+1) [0,1] rfl (.cons (.t rfl) .nil) (by dsimp only;exact⟨IE hl,by omega,by omega⟩) rfl rfl
end Go.Proofs.YtdanidpleofjgaaGreat

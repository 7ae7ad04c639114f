/- Part 26: contracts of functions, plain facts. -/
import Derived.Test.YtdanidpleofjgaaGreatP19
import Derived.Test.YtdanidpleofjgaaGreatP22
set_option linter.all false
set_option maxRecDepth 100000
set_option maxHeartbeats 4000000
namespace Go.Proofs.YtdanidpleofjgaaGreat
open Go Go.RowKit Tryz
attribute [local irreducible] wpList Code.wp Ok
def EN {c:Call} {time:Int} (h:fR c time=true):bN c.ctx=true/\(∀a∈c.aA,dF a=true)/\iQ c=true/\fC c.aq=true/\1<=c.bE/\c.bE<=time:=by
 simp only[fR,mf,p8,Bool.and_eq_true] at h;have hg:nA c=true:=h.1.1.2.1.1;have hb:=h.1.1.1.1.2;simp[aS] at hb;refine⟨h.1.1.1.1.1.1.2,λa ha=>?_,h.1.1.1.1.1.1.1.1.2,h.1.1.1.1.1.1.1.1.1.1,hb.1,hb.2⟩;obtain⟨k,hk,rfl⟩:=g7 ha;exact(Ig hg hk).1
def Ji {c:Call} {t:Int} (h:fR c t=true):fR c (c.bE+c.end_)=true:=by
 have hp:=EN h;simp only[fR,mf,Bool.and_eq_true] at h⊢;have he:c.end_=0\/c.bE+1<=c.end_:=by
  have:=h.2;unfold pd at this;by_cases h0:c.end_=0
  .exact Or.inl h0
  rw[if_neg h0] at this;right;simp[aS] at this;omega
 have h1:aS c.bE 1 (c.bE+c.end_)=true:=by simp[aS];omega
 have h2:pd c (c.bE+c.end_)=true:=by
  have:=h.2;unfold pd at this⊢;by_cases h0:c.end_=0
  .rwa[if_pos h0] at this⊢
  rw[if_neg h0] at this⊢;have e:aS c.end_ (c.bE+1) (c.bE+c.end_)=true:=by simp[aS];omega
  have e':aS c.end_ (c.bE+1) t=true:=by
   simp[aS] at this⊢;omega
  rw[e];rwa[e'] at this
 exact⟨⟨⟨⟨⟨h.1.1.1.1.1,h1⟩,h.1.1.1.2⟩,h.1.1.2⟩,h.1.2⟩,h2⟩
def Jj (x y:List ao) (hx:bN x=true) (hy:bN y=true):
 Fn prog 217 [bw x,bw y] (bw (iB x y)):=by
 refine Fn.go 32 func217 ntmps217 (λW I a U=>?_);have ss:=eL hx;have acd:=eL hy;refine aH λI a w U=>?_;refine U.o (.cl (pI ..)) λU=>?_;refine aV λI a w U=>?_;refine U.q .F (.cl (pI ..)) λU=>?_;refine aB λI a w U=>?_;refine U.cd (λae=>?_) λae=>?_
 .exfalso;rw[hx,hy] at ae;cases ae;skip
 refine zt ?_;refine U.l0 λy9 I a w U=>?_;refine U.m λU=>?_;refine U.ap 0 λwY a w U=>?_;obtain⟨I,U⟩:=U.fr 0 18;have U:=U.drop 0;refine aB λI a w U=>?_;refine St.lo (σ:=Nat) (run 2 5 (run 12 19 [])) ⟨λk=>[(6,AV.int k),(5,bw (iB x (y.take k)))],λk=>[],λk=>k<=y.length⟩ (λk=>y.length-k) 0 U ?aL ?bG;case aL=>exact Nat.zero_le _
 rintro k I a w al U;have hk:k<=y.length:=al;refine aY λI a w U=>?_;refine cz (λah=>?_) λah=>?_
 .refine bO λI a w U=>?_;refine U.o (.cl (En _ _ (RA hx hy k) (p7 hy (bB ah)))) λU=>?_;refine aY λI a w U=>?_;refine U.again (k+1) ?ij ?ik dD ?il (by repeat(first|exact Env.le_rfl|refine Env.hP rfl ?_));case ij=>omega
  case ik=>exact ah
  case il=>exact(Env.dq rfl dD (Env.dq rfl (by exact congrArg bw (by rw[OZ ah])) Env.le_nil))
 refine zt ?_;refine di ?_;exact congrArg bw (by rw[List.take_of_length_le om])
def ace {q:Call} {time:Int} (h:mf q time=true):q.aA.length<=3/\q.aO.length<=6:=by
 simp only[mf,p8,Bool.and_eq_true] at h;have hk:iQ q=true:=h.1.1.1.1.1.1.2;have hd:bN q.aO=true:=h.1.1.1.2;have hg:nA q=true:=h.2.1.1;have h3:q.keys.length<=3:=by
  unfold iQ at hk;rw[Bool.and_eq_true] at hk;have:=hk.2;simp[aS] at this;omega
 have Ey:kK q.keys=true:=by unfold iQ at hk;rw[Bool.and_eq_true] at hk;exact hk.1
 have:=IP Ey hg;exact⟨by omega,eL hd⟩
def acf (q:Call) (hg:∀y∈q.aA,dF y=true):
 Fn prog 218 [q.av] (bw (fy q)):=by
 refine Fn.go 23 func218 ntmps218 (λW I a U=>?_);have lens:q.keys.length<=9223372036854775807/\q.aA.length<=9223372036854775807/\q.aO.length<=9223372036854775807:=⟨U.ln 0 3,U.ln 0 11,U.ln 0 12⟩;refine aB λI a w U=>?_;refine U.l0 λb5 I a w U=>?_;obtain⟨I,U⟩:=U.fr 0 5;have U:=U.drop 0;refine aB λI a w U=>?_;refine St.lo (σ:=Nat) (run 2 3 (run 16 6 [])) ⟨λk=>[(4,AV.int k),(3,bw ((q.aA.take k).foldl l4 []))],λk=>[],λk=>k<=q.aA.length⟩ (λk=>q.aA.length-k) 0 U ?aL ?bG;case aL=>exact Nat.zero_le _
 rintro k I a w al U;have hk:k<=q.aA.length:=al;refine ct λI a w U=>?_;refine cz (λae=>?_) λae=>?_
 .refine lI λI a w U=>?_;refine U.o (.cl (Jj _ _ (sq (acc:=[]) rfl (yR hg k)).1 (sk (hg _ (bB ae))))) λU=>?_;refine aY λI a w U=>?_;refine U.again (k+1) ?ij ?ik dD ?il (by repeat(first|exact Env.le_rfl|refine Env.hP rfl ?_));case ij=>omega
  case ik=>exact ae
  case il=>exact(Env.dq rfl dD (Env.dq rfl (by exact congrArg bw (by rw[yF ae];rfl)) Env.le_nil))
 refine zt ?_;refine di ?_;exact congrArg bw (by rw[List.take_of_length_le om];rfl)
def Jk (s:Server) (key:Int) (al:gQ s=true):
 Fn prog 219 [s.av,AV.int key] (AV.bool (gf s key)):=by
 refine Fn.go 21 func219 ntmps219 (λW I a U=>?_);have hp:=Bc al;refine aB λI a w U=>?_;refine U.dk ?_;refine aX ?_;refine .o (.c1 (vj ..)) ?_;refine cj ?_;refine .q .T (.cl (uH ..)) ?_;refine fD ?_;refine .q .T (.cl (uJ ..)) ?_;refine .q .T ((by first|exact dW fP ew .ag .ag (λhg=>by have:=HD hg;omega)|exact fe fP ew .ag .ag (λhg=>by have:=HD hg;omega)|exact fm fP ew .ag .ag (λhg=>by have:=HD hg;omega))) ?_;refine fD ?_;refine .nil ?_;intro I a w U;refine zt ?_;refine U.rt ?_;exact bF (by rw[al];rfl)
def Jl {s:Server} {m:az} (h:bH s) (hm:bM m=true):∀w∈(eH s m).2,bM w=true:=by
 unfold eH;repeat' split
 .exact aa5 h hm
 .exact aat h hm
 .exact ZL h hm
 .intro w hw;simp at hw
 .exact Zu h hm
 .intro w hw;simp at hw
 .exact ZM h hm
 .intro w hw;simp at hw
 intro w hw;simp at hw
def Se {s:Server} {m:az} (h:bH s):∀w∈(fH s m).2,bM w=true:=by
 unfold fH;split
 .rename_i hc;simp only[Bool.and_eq_true] at hc;exact Jl h hc.1.2
 intro w hw;simp at hw
def EO {s:Server} (h:bH s):∀w∈kT s,bM w=true:=by
 unfold kT;split
 .intro w hw;rcases List.mem_append.1 hw with hw|hw
  .rcases List.mem_append.1 hw with hw|hw
   .obtain⟨i,hi,rfl⟩:=List.mem_map.1 hw;have:=Zw h hi;exact Em h om om
   obtain⟨ws,h1,h2⟩:=List.mem_flatten.1 hw;obtain⟨d,_,rfl⟩:=List.mem_map.1 h1;exact aau h w h2
  obtain⟨d,hd,rfl⟩:=List.mem_map.1 hw;exact aav h (ZZ h d hd)
 intro w hw;simp at hw
def acg {w:aI} (h:cy w) (e:Ev) (ha:cO e.at_=true):cy (fl w e).1:=by
 rw[lK] at ha;have hi:e.at_.toNat<4:=by omega
 obtain⟨_,U⟩:=h.site _ hi;unfold fl;dsimp only;split
 .exact h.server hi (Ph U) rfl
 split
 .exact h.server hi (Qt U) rfl
 split
 .exact h.send (EO U)
 split
 .rename_i hk;have hp:=uT hk;have hg:=za U hk;exact(h.server hi hg rfl).send λm hm=>by
   obtain rfl:m=_:=by simpa using hm
   exact Em hg hp.2.1 hp.2.2.1
 exact h
def Sf (s:Server) (m:az):(!cO m.aU||(bP m.aU==bP s.site)||decide (fG s.aD ⟨m.key,m.ar⟩<0)||((ab s.aF (cW m.key).toNat).dy !=1))=
 !(cO m.aU&&(bP m.aU !=bP s.site)&&decide (0<=fG s.aD ⟨m.key,m.ar⟩)&&(dU s m.key==1)):=by
 have e:decide (fG s.aD ⟨m.key,m.ar⟩<0)=!decide (0<=fG s.aD ⟨m.key,m.ar⟩):=by rw[Bool.eq_iff_iff];simp
 rw[e];simp[bne,dU]
def Sg (s:Server) (m:az):((m.aU !=fj s.site)||((ab s.aF m.slot.toNat).dy !=2)||((ab s.aF m.slot.toNat).bf !=m.bf))=
 !((m.aU==fj s.site)&&((ab s.aF m.slot.toNat).dy==2)&&((ab s.aF m.slot.toNat).bf==m.bf)):=by simp[bne]
def ach (s:Server) (al:gQ s=true):
 Fn prog 143 [s.av] ((ll s).av):=by
 refine Fn.go 14 func143 ntmps143 (λW I a U=>?_);have hp:=Bc al;refine bA λI a w U=>?_;refine U.alloc rfl cq dz λb2 I a w U=>?_;refine bA λI a w U=>?_;refine U.o (.c1 (vj ..)) λU=>?_;refine ax λI a w U=>?_;refine U.cd (λae=>?_) λae=>?_
 .exfalso;rw[al] at ae;cases ae;skip
 refine bA λI a w U=>?_;refine U.o (cr (zA s (by have:=ve hp.2.1;have:=ve hp.2.2.1;exact(H9 al).small (by have:=iR hp.2.2.2.1;omega))) (ai (.t rfl) aC)) λU=>?_;refine U.alloc rfl cq dz λb3 I a w U=>?_;refine aN λI a w U=>?_;refine U.l0 λmc I a w U=>?_;obtain⟨I,U⟩:=U.fr 2 11;refine aY λI a w U=>?_;refine U.ret rfl (.cons (.sx 0) ba.nil) ?_;rfl
def Sh (s:Server) (m:az):(decide (80<((eb s m.slot).an.length:Int)+m.an.length)||decide (80<((eb s m.slot).waits.length:Int)+m.waits.length)||decide (80<((eb s m.slot).aD.length:Int)+m.aD.length))=!tI s m:=by
 have e:∀a b:Nat,decide (80<(a:Int)+b)=!decide (a+b<=80):=λa b=>by rw[Bool.eq_iff_iff];simp;omega
 unfold tI;rw[e,e,e];simp
def Si {l vs:List aE} {k:Nat} (hl:bY l=true) (hv:bY vs=true) (hn:l.length+vs.length<=80) (hk:k<vs.length):Fn prog 178 [bQ (iU l (vs.take k)),(ab vs k).av] (AV.db [bQ (iU l (vs.take (k+1))),AV.bool (gH (iU l (vs.take k)) (ab vs k))]):=by
 have h2:=HO l vs k;have:=Ew (iU l (vs.take k)) (ab vs k) (Ru hl hv hn k om);rwa[Zm (gy hv _ (bB hk)) om,<-D0 hk] at this
def sF {s:Server} {m:az} (h:m.kind=7) (h2:((j6 s.an ⟨m.key,m.ar⟩).isSome&&(m.aU==fj s.site))=true) (hc:bY s.an=true):eH s m=(s,[mN s m]):=by
 rw[Bz hc] at h2;unfold eH;rw[h];show(s,nz s m)=_;unfold nz;rw[h2];rfl
def aci (s:Server) (m:az):(im s m).2.length<=1:=by
 unfold im;split
 .split
  .simp
  split<;>simp
 simp
def acj (s:Server) (m:az):(iV s m).length<=1:=by
 unfold iV;split
 .split
  .simp
  split<;>simp
 simp
def ack (s:Server) (m:az):(iq s m).2.length<=1:=by
 unfold iq;split
 .dsimp only;split
  .split<;>simp
  simp
 simp
def acm (s:Server) (m:az):(ir s m).2.length<=1:=by
 unfold ir;split
 .split
  .simp
  split<;>simp
 simp
def Sj (s:Server) (m:az):(eH s m).2.length<=1:=by
 unfold eH;repeat' split
 .exact aci s m
 .exact acj s m
 .exact ack s m
 .simp
 .show(nz s m).length<=1;unfold nz;split<;>simp
 .simp
 .exact acm s m
 .simp
 simp
def acn (q:Call) (h:yX q):
 bT prog 85 [q.av] [] (λ_:Value×Value=>True) (λu=>[Own.row u.1 128 9 (q.aA.map Answer.cells),Own.row u.2 115 3 (q.aO.map ao.cells)]) (λu=>q.yG u.1 u.2):=by
 refine bT.intro 45 func85 rfl ntmps85 rfl aG (λW I a U=>?_);obtain⟨h1,h2,h4,h5,h3⟩:=h;refine sr<|U.box rfl .tt λb1 I a w U=>U.alloc rfl eR j2 λb2 I a w U=>?_;refine zt ?_;refine U.l0 λb6 I a w U=>?_;refine aH λI a w U=>?_;refine U.ap 2 λv9 a w U=>?_;obtain⟨I,U⟩:=U.fr 2 9;refine U.o .fv λU=>?_;try have ho9:=U.dZ 2 rfl
 refine ax λI a w U=>?_;refine U.l0 λmc I a w U=>?_;refine aH λI a w U=>?_;refine U.ap 3 λlQ a w U=>?_;obtain⟨I,U⟩:=U.fr 3 14;refine U.o .fv λU=>?_;try have Sk:=U.dZ 3 rfl
 refine ax λI a w U=>?_;refine U.l0 λy9 I a w U=>?_;refine aH λI a w U=>?_;refine U.ap 4 λlP a w U=>?_;simp only[List.nil_append] at U;refine U.o .fv λU=>?_;try have Rq:=U.dZ 4 rfl
 refine ax λI a w U=>?_;refine U.l0 λzx I a w U=>?_;refine aB λI a w U=>?_;refine St.lo (σ:=Nat×Value) (run 3 3 (run 20 22 [])) ⟨λ⟨k,v⟩=>[(4,AV.int k),(3,AV.val v)],λ⟨k,v⟩=>[Own.box b1 53 [AV.int q.aq,AV.int q.num,AV.int q.kind,iz q.keys,AV.int q.val,bw q.ctx,AV.int q.bE,AV.int q.end_,AV.bool q.over,AV.int q.ar.time,AV.int q.ar.site,oN q.aA,AV.val lP],Own.box b2 53 [AV.val (.int .i64 0),AV.val (.int .i64 0),AV.val (.int .i64 0),AV.rows 1 [],AV.val (.int .i64 0),AV.rows 3 [],AV.val (.int .i64 0),AV.val (.int .i64 0),AV.val (.bool false),AV.val (.int .i64 0),AV.val (.int .i64 0),AV.rows 9 [],AV.rows 3 []],Own.gone,Own.gone,Own.row lP 115 3 (q.aO.map ao.cells),Own.row v 128 9 ((q.aA.take k).map Answer.cells)],λ⟨k,v⟩=>k<=q.aA.length⟩ (λ⟨k,v⟩=>q.aA.length-k) (0,.slice (some ⟨zx,0,none⟩) 0 0) U ?aL ?bG;case aL=>exact Nat.zero_le _
 rintro⟨k,v⟩ I a w al U;have hk:k<=q.aA.length:=al;dsimp only at U;refine ct λI a w U=>?_;refine cz (λae=>?_) λae=>?_
 .refine bO λI a w U=>?_;refine U.alloc rfl fF pG λb5 I a w U=>?_;refine aV λI a w U=>?_;refine U.o (.c1 (lN _ (h5 _ (bB ae)))) λU=>U.o .fv λU=>U.pB 6 bU .tt .tt rfl rfl rfl λa w U=>?_;refine aH λI a w U=>?_;refine U.o (.li [(ab q.aA k).cells] uF (.u .nil)) λU=>?_;refine U.ap 5 λzC a w U=>?_;rw[bV,<-ez ae] at U;refine aY λI a w U=>?_;have U:=U.drop 6;exact U.ag (k+1,zC) (ae)
 refine wp_exit<|cM<|cM<|fI<|bk<|wp_seq ?_;rw[List.take_of_length_le om] at U;refine aH λI a w U=>?_;try have amw:=U.dZ 5 rfl
 refine aN λI a w U=>?_;exact U.bJ (v,lP) [5,4] rfl (.cons (.s 1 eR rfl rfl (by first|rfl|assumption)) .nil) trivial rfl rfl
def xq (d:ao):az:={cn with kind:=3,key:=d.key,ar:=d.ar}
def Sl {q:Call} {t:Int} (h:fR q (q.bE+q.end_)=true) (he:0<=q.end_):(!fR q (q.bE+q.end_)||decide (0<q.end_)||q.over)=!gP q:=by
 rw[h];unfold gP;have e:decide (0<q.end_)=!(q.end_==0):=by rw[Bool.eq_iff_iff];simp;omega
 rw[e];simp
def dS.BU {q:Call} {t:Int} (h:dS q t) (ht:0<=t):0<=q.end_/\q.end_<=t:=by
 by_cases he:q.end_=0
 .omega
 have:=h.ended he;have:=h.bE;omega
def Sm {m:az} (h1:m.aR=[]) (h2:m.an=[]) (h3:m.waits=[]) (h4:m.aD=[]):jU m:=by
 unfold jU;rw[h1,h2,h3,h4];simp[uW]
def Sn (key:Int):jU (wS key):=Sm rfl rfl rfl rfl
def So (d:ao):jU (xq d):=Sm rfl rfl rfl rfl
def aco {q:Call} {a:Answer} {k:Nat} (hd:bN q.aO=true) (h:k<q.aO.length) (he:ab q.aO k=a.bm.bh):pX q a k=q.aA:=by
 unfold pX;rw[if_neg];intro hm;obtain⟨i,hi,e⟩:=List.getElem_of_mem hm;have qp:i<k/\i<q.aO.length:=by simp at hi;omega
 rw[List.getElem_take] at e;have e2:ab q.aO i=a.bm.bh:=by rw[<-e];simp[ab,qp.2]
 have:=Bw hd qp.1 h;rw[e2,he] at this;omega
def acp {q:Call} {a:Answer} {k:Nat} (h:k<q.aO.length) (he:ab q.aO k≠a.bm.bh):pK q a k++[ab q.aO k]=pK q a (k+1):=(nu h (by simp[he])).symm
def acq (q:Call) (n:Value) (hg:∀y∈q.aA,dF y=true) (hl:q.aA.length<=1048576):
 Fn prog 218 [q.yH n] (bw (fy q)):=by
 refine Fn.go 23 func218 ntmps218 (λW I a U=>?_);refine aB λI a w U=>?_;refine U.l0 λb5 I a w U=>?_;obtain⟨I,U⟩:=U.fr 0 5;have U:=U.drop 0;refine aB λI a w U=>?_;refine St.lo (σ:=Nat) (run 2 3 (run 16 6 [])) ⟨λk=>[(4,AV.int k),(3,bw ((q.aA.take k).foldl l4 []))],λk=>[],λk=>k<=q.aA.length⟩ (λk=>q.aA.length-k) 0 U ?aL ?bG;case aL=>exact Nat.zero_le _
 rintro k I a w al U;have hk:k<=q.aA.length:=al;refine ct λI a w U=>?_;refine cz (λae=>?_) λae=>?_
 .refine lI λI a w U=>?_;refine U.o (.cl (Jj _ _ (sq (acc:=[]) rfl (yR hg k)).1 (sk (hg _ (bB ae))))) λU=>?_;refine aY λI a w U=>?_;refine U.again (k+1) ?ij ?ik dD ?il (by repeat(first|exact Env.le_rfl|refine Env.hP rfl ?_));case ij=>omega
  case ik=>exact ae
  case il=>exact(Env.dq rfl dD (Env.dq rfl (by exact congrArg bw (by rw[yF ae];rfl)) Env.le_nil))
 refine zt ?_;refine di ?_;exact congrArg bw (by rw[List.take_of_length_le om];rfl)
def acr {q:Call} {t:Int} (h:dS q t) {x:Answer} {k:Nat} (hk:k<q.aO.length) (he:ab q.aO k=x.bm.bh) (hx:x.bm.key=x.key):0<=cB q x.key:=by
 have:=h.xa _ (bB hk);unfold so at this;rw[Bool.and_eq_true,decide_eq_true_eq,he] at this;rw[<-hx];exact this.1
def acs {q:Call} {t0:Int} (h:dS q t0) {a:Answer} (hk:a.bm.bh∈q.aO) (he:a.bm.key=a.key):q.aO.filter (λd=>!decide (d.key=a.key))=q.aO.filter λd=>decide (d≠a.bm.bh):=by
 apply List.filter_congr;intro d hd;by_cases e:d.key=a.key
 .have:d=a.bm.bh:=Qx h.aO hd hk (e.trans he.symm);rw[decide_eq_true e,this];simp
 rw[decide_eq_false e];have:d≠a.bm.bh:=λe2=>e (by rw[e2];exact he);rw[decide_eq_true this];rfl
def Sp {q:Call} {m:az} {t t0:Int} (h:dS q t0) (hm:dF (dK m)=true) (hv:m.kind=4/\(m.yes=true->m.an.length=1/\(ab m.an 0).key=m.key)) (hb:(decide (0<=cB q m.key)&&m.yes&&decide (0<=fG q.aO (dK m).bm.bh))=true):
 jI q m t=if(q.aO.filter λd=>!decide (d.key=m.key))=[] then{q with aA:=q.aA.set (cB q m.key).toNat (dK m),aO:=q.aO.filter (λd=>!decide (d.key=m.key)),end_:=t} else{q with aA:=q.aA.set (cB q m.key).toNat (dK m),aO:=q.aO.filter λd=>!decide (d.key=m.key)}:=by
 simp only[Bool.and_eq_true,decide_eq_true_eq] at hb;obtain⟨⟨h1,h2⟩,h3⟩:=hb;have uu:=w5.1 h3;have hk:(dK m).bm.key=(dK m).key:=(qK hm h2).2;rw[show(λd:ao=>!decide (d.key=m.key))=λd=>!decide (d.key=(dK m).key) from rfl,acs h uu hk];unfold jI;rw[if_pos hv,if_neg om,if_pos h2];unfold mP;rw[if_pos uu];rfl
def acu {q:Call} {m:az} {t:Int} (hv:m.kind=4/\(m.yes=true->m.an.length=1/\(ab m.an 0).key=m.key)) (hb:(decide (cB q m.key<0)&&dX m.ar)=false) (ah:(decide (0<=cB q m.key)&&m.yes&&decide (0<=fG q.aO (dK m).bm.bh))=false):jI q m t=q:=by
 unfold jI;rw[if_pos hv];by_cases hg:cB q m.key<0
 .rw[decide_eq_true hg,Bool.true_and] at hb;rw[if_pos hg,if_neg (by rw[hb];simp)]
 rw[if_neg hg];split
 .rename_i hy;rw[decide_eq_true om,hy,Bool.true_and,Bool.true_and,decide_eq_false_iff_not,w5] at ah;unfold mP;rw[if_neg ah]
 rfl
def Sq (l:List aE) (key:Int) (hd:∀v∈l,v.aR.length<=1048576):Fn prog 69 [bQ l,.int key] (.db [((fq l key).getD default).av,.bool (fq l key).isSome]):=by
 refine⟨qi.of func69 rfl aG,λI0 w0 vs hm ha=>(callsIn_wide (n:=3)).1 ?_⟩;refine XK (F:=kx) 19 func69 rfl ntmps69 rfl hm ha λa U=>?_;have hQ:∀a w',¬bodyPostM Fence.wide 3 prog f69 (ya I0 w0 (.db [((fq l key).getD default).av,.bool (fq l key).isSome])) .outgrown a w':=λa w' h=>h;refine wpIn_seq (yz (by exact hQ) rfl ?_);refine U.o (yd .tt (by first|exact gn rfl|exact en|exact gC|exact gE)) λU=>?_;refine U.alloc rfl bU dR λb4 I a w U=>?_;refine U.alloc rfl AS Wu λb5 I a w U=>?_;refine nn (wpIn_seq (wpIn_seq (yz (by exact hQ) rfl ?_)));refine bA λI a w U=>?_;refine U.o (.c1 (Yw l)) λ{I1 a1 w1} U=>nn ?_;refine wpIn_block ?_;obtain⟨p,hp9,hp⟩:∃p,a1.eval (.tmp 9)=.func (.func 177) #[] #[p]/\(AV.ptr [bQ l]).h I1 p:=by
  obtain⟨cs,e,h⟩:=U.env 9 _ rfl;obtain⟨cs⟩:=cs;match cs,h with
  |[p],h=>exact⟨p,e,h.1⟩
 have hcx:=U;have U:=U.re;obtain⟨H1,vm⟩:∃H1,H1=[Own.box b4 62 [AV.val (.int .i64 0),AV.val (.int .i64 0),AV.val (.int .i64 0),AV.val (.int .i64 0),AV.val (.int .i64 0),AV.val (.int .i64 0),AV.rows 3 []],Own.box b5 4 [AV.bool false]]:=⟨_,rfl⟩;have ae:boxes H1:=λo ho=>by
  rw[vm] at ho;rcases List.mem_cons.1 ho with rfl|ho
  .exact⟨_,_,_,rfl⟩
  rcases List.mem_cons.1 ho with rfl|ho
  .exact⟨_,_,_,rfl⟩
  cases ho
 have Sr:∀u v,boxes [Own.box b4 62 u,Own.box b5 4 v]:=λu v o ho=>by
  rcases List.mem_cons.1 ho with rfl|ho
  .exact⟨_,_,_,rfl⟩
  rcases List.mem_cons.1 ho with rfl|ho
  .exact⟨_,_,_,rfl⟩
  cases ho
 have U:St ⟨w1,I1,19,dY H1⟩ I1 H1 [(5,.val (.pointer (some ⟨b5,0,none⟩))),(4,.val (.pointer (some ⟨b4,0,none⟩))),(3,.ptr [.int key])] a1 w1:=by
  rw[vm];exact U.pick _
 have bK:∀b,dY H1 b->b<w1.heap.size/\I1 b=none:=λb h=>by
  obtain⟨o,ho,e⟩:=tf.1 h;exact⟨((U.own.all o ho).2 b e).2.2,((U.own.all o ho).2 b e).2.1⟩
 have Au:=U;have mE:St _ I1 H1 [(5,.val (.pointer (some ⟨b5,0,none⟩))),(4,.val (.pointer (some ⟨b4,0,none⟩)))] a1 w1:=(hcx.pick _).yB (by rw[vm];rfl);have fin:∀{D:Nat} {W:World} {a2 a3:Act} {I:Im} {u:List AV} {b:Bool} {Γ:Env},w1.heap.size<=D->St ⟨w1,I1,19,dY H1⟩ I [Own.box b4 62 u,Own.box b5 4 [.bool b]] ((5,.val (.pointer (some ⟨b5,0,none⟩)))::(4,.val (.pointer (some ⟨b4,0,none⟩)))::Γ) a2 W->W.heap[D]?=some (.deferred (some []))->u.length=7->AV.db [.agg u,.bool b]=.db [((fq l key).getD default).av,.bool (fq l key).isSome]->
  a3.tmps=a2.tmps->a3.defers=[{target:=.collected D,args:=#[]}]->bodyPostM Fence.wide 3 prog f69 (ya I0 w0 (.db [((fq l key).getD default).av,.bool (fq l key).isSome])) .ret a3 W:=λ{D W a2 a3 I u b Γ} hD hi hK hu he h1 h2=>by
  show LeavesInM _ _ _ _ a3.tmps _ a3.defers _ _;rw[h1,h2];exact(mE.un hi).leave (Sr _ _) (Nat.le_trans mE.step.below.size hD) hK rfl rfl (.cons (.s 0 bU rfl rfl hu) (.cons (.cc 1 AS rfl rfl) ba.nil)) he
 refine wpIn_rangeFunc_ownH (n:=3) rfl aM hp9 trivial (qi.of func177 rfl aG) (aaR l 2 aM I1 w1 U.step.dp (λb=>w1.heap.size<=b\/dY H1 b) (λb cs e h=>h.elim (λh=>by have:=U.step.dp.lt e;omega) λh=>by rw[(bK b h).2] at e;cases e) p hp)
  (λh k=>h.trans k) (λW l o o' h _ _ _=>XN (λb h=>.inl h) W l o' h) (Below.refl _ _) (λ_=>rfl)
  (λpre W=>(∀x∈pre,qE key (ab l x.1.1)=false)/\∃I,St ⟨w1,I1,19,dY H1⟩ I H1 [(5,.val (.pointer (some ⟨b5,0,none⟩))),(4,.val (.pointer (some ⟨b4,0,none⟩))),(3,.ptr [.int key])] a1 W)
  (λc (pre:List (tq l I1)) W=>c=.ret/\∃(x:tq l I1) (q:List (tq l I1)),pre=q++[x]/\(∀y∈q,qE key (ab l y.1.1)=false)/\qE key (ab l x.1.1)=true/\∃I,St ⟨w1,I1,19,dY H1⟩ I [Own.box b4 62 (ab l x.1.1).cells,Own.box b5 4 [AV.bool true]] [(5,.val (.pointer (some ⟨b5,0,none⟩))),(4,.val (.pointer (some ⟨b4,0,none⟩))),(3,.ptr [.int key])] a1 W)
  (λs A B row h hg hr=>⟨h.1,h.2.imp λI k=>k.Dp ae hg hr⟩)
  (λc s A B row h hg hr=>by obtain⟨h0,x,q,e,h1,h2,I,k⟩:=h;exact⟨h0,x,q,e,h1,h2,I,k.Dp (Sr _ _) hg hr⟩)
  ⟨λx h=>(by cases h),I1,U⟩
  (λx a' W=>∃I b7,St ⟨w1,I1,19,dY H1⟩ I (H1++[Own.box b7 62 (ab l x.1.1).cells]) [(7,.val (.pointer (some ⟨b7,0,none⟩))),(5,.val (.pointer (some ⟨b5,0,none⟩))),(4,.val (.pointer (some ⟨b4,0,none⟩))),(3,.ptr [.int key])] a' W)
  (λx a' s A B row h hg hr=>h.imp λI k=>k.imp λb7 k=>k.Dp (λo ho=>(List.mem_append.1 ho).elim (ae o) λho=>⟨_,_,_,List.mem_singleton.1 ho⟩) hg hr)
  ?assign ?body ?done ?stop
 case assign=>
  rintro l1 pre x W K ⟨km,I,hi⟩ hK;have hr:=hi.re;have e:({tmps:=(((#[10,11]:Array Nat).zip #[Value.int .i64 x.1.1,x.1.2]).foldl (λt (p,v)=>t.setIfInBounds p v) a1.tmps),defers:=[]}:Act)=(a1.put (some 10) (.int .i64 x.1.1)).put (some 11) x.1.2:=by
   have:=hi.defers;cases a1;simp at this;subst this;simp[Act.put]
  have U:=(hr.Dn (d:=10) (x:=.int x.1.1) (v:=.int .i64 x.1.1) (show 10<19 from by decide) rfl).Dn (d:=11) (x:=(ab l x.1.1).av) (v:=x.1.2) (show 11<19 from by decide) ((ab l x.1.1).av.up _ _ _ hi.step.le x.2.2);rw[<-e] at U;have U:=U.yB vm;refine Ha (by exactλ_ _ h=>h) rfl ?_;refine U.alloc rfl bU dR λb7 I2 a w U=>?_;refine bA λI2 a w U=>?_;have U:St _ I2 (H1++[Own.box b7 62 (ab l x.1.1).cells]) [(7,.val (.pointer (some ⟨b7,0,none⟩))),(5,.val (.pointer (some ⟨b5,0,none⟩))),(4,.val (.pointer (some ⟨b4,0,none⟩))),(3,.ptr [.int key])] a w:=(U.pick _).yB (by rw[vm];rfl);have hu:=hi.un U;refine wpList_nil (bk ?_);exact hK _ _ ((U.keeps hi.own ae).from _) (hi.Ob U) ⟨km,_,Au.back hu hu.step.le⟩ ⟨_,_,hu⟩
 case body=>
  rintro l1 pre x a' W hl _ ⟨km,_⟩ ⟨I,b7,hi⟩ hlen;have aj:boxes (H1++[Own.box b7 62 (ab l x.1.1).cells]):=λo ho=>(List.mem_append.1 ho).elim (ae o) λho=>⟨_,_,_,List.mem_singleton.1 ho⟩;have U:=hi.re.yB (H':=[Own.box b4 62 [AV.val (.int .i64 0),AV.val (.int .i64 0),AV.val (.int .i64 0),AV.val (.int .i64 0),AV.val (.int .i64 0),AV.val (.int .i64 0),AV.rows 3 []],Own.box b5 4 [AV.bool false],Own.box b7 62 (ab l x.1.1).cells]) (by rw[vm];rfl);refine wpIn_block (wpIn_seq (Ha (by exactλ_ _ h=>h) rfl ?_));refine bz λI2 a w U=>?_;refine nn ?_;refine wpIn_cond_split (U.env 15 _ rfl) (λhb=>?_) (λhb=>?_)
  .refine wpIn_seq (Ha (by exactλ_ _ h=>h) rfl ?_);refine bA λI2 a w U=>?_;refine U.o (.c1 (wP _ (hd _ (bB x.2.1)))) λU=>?_;refine aH λI2 a w U=>?_;refine nn (wpIn_ret (vI ?_));have U:St _ I2 ([Own.box b4 62 (ab l x.1.1).cells,Own.box b5 4 [.bool true]]++[Own.box b7 62 (ab l x.1.1).cells]) [(3,.ptr [.int key])] a w:=U.pick _;have hu:=hi.un U;exact⟨(U.keeps hi.own aj).from _,rfl,x,pre,rfl,km,hb,_,Au.back hu hu.step.le⟩
  refine wpIn_skip (z7 ?_);have U:St _ I2 (H1++[Own.box b7 62 (ab l x.1.1).cells]) [(3,.ptr [.int key])] a w:=(U.pick _).yB (by rw[vm];rfl);have hu:=hi.un U;exact⟨(U.keeps hi.own aj).from _,hi.Ob U,λy hy=>(List.mem_append.1 hy).elim (km y) λhy=>by rw[List.mem_singleton.1 hy];exact hb,_,Au.back hu hu.step.le⟩
 case done=>
  rintro D xs W hD ⟨hlen,pD⟩ ⟨km,I,hi⟩ hK;have Jm:fq l key=none:=Qi λi hi=>by
   have hj:l.length-1-i<xs.length:=by omega
   have:=pD _ _ (List.getElem?_eq_getElem hj);have h2:=km _ (List.getElem_mem hj);rw[show i=xs[l.length-1-i].1.1 from by omega];exact h2
  refine z7 (bk (wpIn_seq (yz (by exact hQ) rfl ?_)));have e:({a1 with defers:={target:=.collected D,args:=#[]}::a1.defers}:Act)=Act.defer a1 [{target:=.collected D,args:=#[]}]:=by simp[Act.defer,hi.defers]
  rw[e];have U:=hi.re.yB vm;refine N6 (Q:=Exit.then (λa' W'=>∃I',St ⟨W,I,19,dY H1⟩ I' [Own.box b4 62 [AV.val (.int .i64 0),AV.val (.int .i64 0),AV.val (.int .i64 0),AV.val (.int .i64 0),AV.val (.int .i64 0),AV.val (.int .i64 0),AV.rows 3 []],Own.box b5 4 [.bool false]] [(5,.val (.pointer (some ⟨b5,0,none⟩))),(4,.val (.pointer (some ⟨b4,0,none⟩)))] a' W') (λ_ _ _=>False)) _ (λe a' W' h=>?_) _ _ _ ?_
  .cases e with
   |normal=>
    obtain⟨I',h⟩:=h
    refine bk (wpIn_ret ?_)
    exact fin hD (hi.un h) ((h.keeps hi.own ae).same D _ hK rfl) rfl (by rw[Jm];rfl) rfl (by simp[Act.defer,h.defers])
   |_=>exact h.elim
  refine U.o (.bd dR aW.nil) λU=>?_;refine aH λI2 a w U=>?_;exact wpList_nil (bk ⟨_,U.pick _⟩)
 rintro D c pre W hD Ss ⟨rfl,x,q,rfl,hq,iH,I,hi⟩ hK;have hx:x.1.1+1+q.length=l.length:=Ss q.length x bt;have Jm:fq l key=some (ab l x.1.1):=OM x.2.1 (λi h1 h2=>by
  have hj:l.length-1-i<q.length:=by omega
  have:=Ss (l.length-1-i) q[l.length-1-i] (by rw[List.getElem?_append_left hj,List.getElem?_eq_getElem hj]);have h3:=hq _ (List.getElem_mem hj);rw[show i=q[l.length-1-i].1.1 from by omega];exact h3) iH
 refine wpIn_ret (vI (yc ?_));exact fin hD hi hK rfl (by rw[Jm];rfl) rfl (by simp[hi.defers])
def acx {s:Server} {m:az} (h:(m.kind==8&&(m.aU==fj s.site)&&iT s ⟨m.key,m.ar⟩&&decide ((s.bj.length:Int)<80))=true):eH s m=(fQ {s with bj:=eF s.bj ⟨m.key,m.ar⟩},[]):=by
 simp only[Bool.and_eq_true,beq_iff_eq,decide_eq_true_eq] at h;have hl:s.bj.length<80:=by omega
 rw[rf h.1.1.1];unfold mW;rw[if_pos (by simp only[Bool.and_eq_true,beq_iff_eq,decide_eq_true_eq];exact⟨⟨h.1.1.2,h.1.2⟩,hl⟩)]
def acy {s:Server} {m:az} (h:(m.kind==10&&(m.aU==fj s.site)&&([(ab s.aF m.slot.toNat).bf,(ab s.aF m.slot.toNat).dy]==[m.bf,2]))=true):eH s m=(fQ (kR s m),[]):=by
 simp only[Bool.and_eq_true,beq_iff_eq,List.cons.injEq] at h;rw[ri h.1.1];unfold mX;rw[if_pos (by simp only[Bool.and_eq_true,beq_iff_eq];exact⟨⟨h.1.2,h.2.2.1⟩,h.2.1⟩)]
def Jn {w:aI} {e:Ev} (h:(fC e.aq&&decide (cA w.calls e.aq<0))=false):kb w e=(w,false):=by unfold kb;rw[h];rfl
def BV {w:aI} {e:Ev} (h:(fC e.aq&&decide (cA w.calls e.aq<0))=true):kb w e=({w with calls:=w.calls++[jj w e]},jJ (w.calls++[jj w e]) w.time):=by unfold kb;rw[h];rfl
def cy.Su {w:aI} (h:cy w) {i:Nat} (hi:i<2):(ab w.seen i).length<=6:=eL (h.kd _ (bB (by rw[h.seen];exact hi)))
def acz {w:aI} {e:Ev} (h:e.kind=6):fl w e=({w with aw:=w.aw.set e.at_.toNat (ll (ab w.aw e.at_.toNat))},(ab w.aw e.at_.toNat).up):=by unfold fl;rw[if_neg om,if_pos h]
def acA {w:aI} {e:Ev} (h7:¬e.kind=7) (h6:¬e.kind=6) (h8:¬e.kind=8) (hm:(eG (ab w.aw e.at_.toNat) e.slot).2.2=false):fl w e=({w with aw:=w.aw.set e.at_.toNat (eG (ab w.aw e.at_.toNat) e.slot).1},(eG (ab w.aw e.at_.toNat) e.slot).2.2):=by
 unfold fl;rw[if_neg h7,if_neg h6,if_neg h8,if_neg (by rw[IV hm];simp),aba (IV hm),YO]
def acB {w:aI} {e:Ev} (h:¬e.kind=1) (hn:cA w.calls e.aq<0):iC w e=(w,false):=by unfold iC;rw[if_neg h];dsimp only;rw[if_pos hn]
def acC (au more:List az) (h:au.length<=60):(eB au more).length<=60:=by
 unfold eB;rw[List.length_append,List.length_take];omega
def I6 (m:az):
 Fn prog 49 [m.av] (AV.bool (bM m)):=by
 refine Fn.go 76 func49 ntmps49 (λW I a U=>?_);refine bz λI a w U=>?_;refine U.o (.cl (jg ..)) λU=>?_;refine aV λI a w U=>?_;refine U.q .T (.cl (rS ..)) λU=>?_;refine aV λI a w U=>?_;refine U.q .F2 (.cl (A0 ..)) λU=>?_;refine bO λI a w U=>?_;refine U.q .T (.cl (rS ..)) λU=>?_;refine aV λI a w U=>?_;refine U.q .F2 (.cl (A0 ..)) λU=>?_;refine bO λI a w U=>?_;refine U.q .T (.cl (jg ..)) λU=>?_;refine bz λI a w U=>?_;refine U.q .T (.cl (uH ..)) λU=>?_;refine bz λI a w U=>?_;refine U.q .T (.cl (OV ..)) λU=>?_;refine bz λI a w U=>?_;refine U.q .T (.cl (jg ..)) λU=>?_;refine bz λI a w U=>?_;refine U.q .T (.cl (pI ..)) λU=>?_;refine bz λI a w U=>?_;refine U.q .T (.cl (jg ..)) λU=>?_;refine bz λI a w U=>?_;refine U.q .T (.cl (jg ..)) λU=>?_;refine bz λI a w U=>?_;refine U.q .T (.cl (tv ..)) λU=>?_;refine bz λI a w U=>?_;refine U.q .T (.cl (tv ..)) λU=>?_;refine bz λI a w U=>?_;refine U.q .T (.cl (Hm ..)) λU=>?_;refine di ?_;rfl
def RF (c:Call) (time:Int):(!fC c.aq||!aS c.num 1 99||!iQ c||!aS c.val 0 9999||!bN c.ctx||!bN c.aO||!aS c.bE 1 time||!ld c.ar||!p8 c)=!mf c time:=by simp[mf]
def xk (c:Call) (time:Int):fR c time=(qM c time&&yJ c&&de c.aA.length (va c)&&DB c&&de c.aO.length (uU c)&&DC c time):=by
 have e0:aS c.aq 0 1=fC c.aq:=rfl;cases fZ:iQ c
 .have h1:fR c time=false:=by simp[fR,mf,fZ]
  have h2:qM c time=false:=by
   rw[<-OI] at fZ;unfold qM;cases h3:aS c.kind 1 2
   .simp
   rw[h3,Bool.true_and] at fZ;rw[fZ];simp
  rw[h1,h2];simp
 have Ey:kK c.keys=true:=by unfold iQ at fZ;rw[Bool.and_eq_true] at fZ;exact fZ.1
 have ku:=fZ;rw[<-OI,Bool.and_eq_true] at ku;have RG:c.kind=1\/c.kind=2:=by have:=ku.1;simp[aS] at this;omega
 have e1:de c.aA.length (va c)=nA c:=Av rfl λi _=>aaL Ey i;rw[e1];cases hg:nA c
 .simp[fR,mf,p8,hg]
 have hle:=IP Ey hg;cases ec:bN c.aO
 .simp[fR,mf,qM,ec]
 have e2:de c.aO.length (uU c)=de c.aO.length (qW c):=Av rfl λi hi=>aa3 hg ec hi;rw[e2];unfold fR mf p8 yI pd qM yJ DB DC;rw[e0,fZ,ku.1,ku.2,hg,ec];generalize fC c.aq=b1;generalize aS c.num 1 99=b2;generalize bN c.ctx=b4;generalize aS c.bE 1 time=b5;generalize de c.aO.length (qW c)=b6;generalize aS c.end_ (c.bE+1) time=b7;have e3:(decide (0<c.val)&&aS c.val 0 9999)=((c.val !=0)&&aS c.val 0 9999):=by
  rw[Bool.eq_iff_iff];simp[aS];omega
 have e4:pR c=decide (c.aA.length=c.keys.length):=OL _ _;have e5:((c.aO.length:Int)==0)=decide (c.aO.length=0):=Yl _;have e6:decide (0<(c.aO.length:Int))=!decide (c.aO.length=0):=OJ _;have e7:decide ((c.aA.length:Int)<c.keys.length)=!decide (c.aA.length=c.keys.length):=Ym hle;have e8:decide ((c.keys.length:Int)<c.aA.length)=false:=by simp;omega
 have e9:((c.aA.length:Int)==c.keys.length)=decide (c.aA.length=c.keys.length):=OL _ _;have xl:decide (0<(c.aA.length:Int)+c.aO.length)=!(decide (c.aA.length=0)&&decide (c.aO.length=0)):=OK _ _;rw[e4,e5,e6,e7,e8,e9,xl];have BQ:ld c.ar=(dX c.ar||dr c.ar):=rfl;rw[BQ];cases hv:aS c.val 0 9999
 .simp
 rw[hv,Bool.and_true,Bool.and_true] at e3;rw[e3];generalize decide (c.aA.length=c.keys.length)=b9;generalize decide (c.aA.length=0)=kS;generalize decide (c.aO.length=0)=mc;generalize (c.val !=0)=w9;generalize c.over=tX;by_cases hn:dX c.ar=true
 .have U:dr c.ar=false:=by
   cases U:dr c.ar
   .rfl
   have:=tC U;simp[dX] at hn;omega
  rw[hn,U];rcases RG with hh|hh<;>rw[hh]<;>by_cases he:c.end_=0<;>simp[he]<;>revert b1 b2 b4 b5 b6 b7 b9 kS mc w9 tX<;>decide
 simp only[Bool.not_eq_true] at hn;rw[hn];generalize dr c.ar=Ez;rcases RG with hh|hh<;>rw[hh]<;>by_cases he:c.end_=0<;>simp[he]<;>revert b1 b2 b4 b5 b6 b7 b9 kS mc w9 Ez tX<;>decide
def RH (l:List Call) (time:Int) (k:Nat):(!fR (ab l k) time||(decide (0<(k:Int))&&decide ((ab l k).bE<=(ab l ((k:Int)-1).toNat).bE)))=!zl l time k:=by
 have e:=uy (λd=>fR d time) (λa b=>decide (a.bE<b.bE)) l k;have e2:decide ((ab l k).bE<=(ab l ((k:Int)-1).toNat).bE)=!decide ((ab l ((k:Int)-1).toNat).bE<(ab l k).bE):=by rw[Bool.eq_iff_iff];simp
 rw[e2,e];rfl
def RI (l:List Call) (time:Int) (k:Nat):((!fR (ab l k) time||(decide (0<(k:Int))&&decide ((ab l k).bE<=(ab l ((k:Int)-1).toNat).bE)))||((ab l k).num !=ga l (k+1) (ab l k).aq))=!(zl l time k&&((ab l k).num==ga l (k+1) (ab l k).aq)):=by
 rw[RH];simp[bne]
def RJ:∀{a b:List ao} {last:Int},dH last a=true->dH last b=true->(∀key,bL a key=bL b key)->a=b
 |[],[],_,_,_,_=>rfl
 |[],e::r,_,_,h,he=>by
  have:=he e.key;rw[lq,if_pos rfl] at this;simp only[dH,Bool.and_eq_true] at h;have h1:=tC h.1.2;rw[<-this] at h1;simp[bL] at h1
 |e::r,[],_,h,_,he=>by
  have:=he e.key;rw[lq,if_pos rfl] at this;simp only[dH,Bool.and_eq_true] at h;have h1:=tC h.1.2;rw[this] at h1;simp[bL] at h1
 |e::r,e'::r',last,h,h',he=>by
  have g:=h;have g':=h';simp only[dH,Bool.and_eq_true] at h h';have aZ:∀{e e':ao} {r r':List ao},dr e.ar=true->dH e'.key r'=true->(∀key,bL (e::r) key=bL (e'::r') key)->¬e.key<e'.key:=λ{e e' r r'} U hr he bK=>by
   have:=he e.key;rw[lq,if_pos rfl,lq,if_neg om,yK hr om] at this;have h1:=tC U;rw[this] at h1;simp at h1
  have hk:e.key=e'.key:=by
   have h1:=aZ h.1.2 h'.2 he;have h2:=aZ h'.1.2 h.2 λkey=>(he key).symm;omega
  have be:e.ar=e'.ar:=by
   have:=he e.key;rwa[lq,if_pos rfl,lq,if_pos hk.symm] at this
  have hr:r=r':=by
   rw[<-hk] at h';refine RJ h.2 h'.2 λkey=>?_;have:=he key;rw[lq,lq,<-hk] at this;by_cases sw:e.key=key
   .rw[yK h.2 om,yK h'.2 om]
   rwa[if_neg sw,if_neg sw] at this
  obtain⟨k1,s1⟩:=e;obtain⟨k2,s2⟩:=e';simp at hk be;rw[hk,be,hr]
def EA:∀{l:List Answer} {acc:List ao},bN acc=true->(∀a∈l,dF a=true)->bN (l.foldl sg acc)=true/\∀key,bL (l.foldl sg acc) key=dA (bL acc key) (tE l key)
 |[],acc,ha,_=>⟨ha,λkey=>by show bL acc key=dA (bL acc key) fK;rw[Br (tM ha key)]⟩
 |a::r,acc,ha,h=>by
  have hg:=h a bt;cases hy:a.yes
  .have e:sg acc a=acc:=by unfold sg;rw[hy];simp
   have h2:=EA (l:=r) ha λb hb=>h b (by simp[hb]);rw[List.foldl_cons,e];refine⟨h2.1,λkey=>?_⟩;rw[h2.2 key];show _=dA _ (dA (if a.yes=true/\a.key=key then a.bm.ar else fK) (tE r key));rw[if_neg (by rw[hy];simp),pS (Bt (l:=r) (λb hb=>h b (by simp[hb])) key)]
  have hd:=y8 hg hy;have e:sg acc a=eS acc ⟨a.key,a.bm.ar⟩:=by unfold sg;rw[hy];simp
  have be:dr a.bm.ar=true:=(jv (qK hg hy).1).2.1;have h2:=EA (l:=r) (wW ha (hd.2▸hd.1)) λb hb=>h b (by simp[hb]);rw[List.foldl_cons,e];refine⟨h2.1,λkey=>?_⟩;rw[h2.2 key,Bs key ha be];show _=dA _ (dA (if a.yes=true/\a.key=key then a.bm.ar else fK) (tE r key));by_cases hk:a.key=key
  .rw[if_pos hk,if_pos ⟨hy,hk⟩,H6]
  rw[if_neg hk,if_neg λh=>hk h.2,pS (Bt (l:=r) (λb hb=>h b (by simp[hb])) key)]
def abc {c:Call} (hc:bN c.ctx=true) (h:∀a∈c.aA,dF a=true):HB c=gx c:=by
 unfold gx HB;split
 .rfl
 split
 .rfl
 have EB:=sq (acc:=[]) rfl h;have dV:bN (fy c)=true:=EB.1;have hj:bN (iB c.ctx (fy c))=true:=wX hc λd hd=>p7 dV hd;have h1:=EA hj h;have h2:=zm hc h;refine RJ h1.1 h2.1 λkey=>?_;rw[h1.2 key,h2.2 key,BJ hc dV];have e:bL (fy c) key=j7 c.aA key:=by
  show bL (c.aA.foldl l4 []) key=_;rw[EB.2 key];show dA fK _=_;exact pS (El h key)
 rw[e,H6]
def cT (w0:aI) (e:Ev):aI×Bool:=
 let w:={w0 with time:=w0.time+1}
 if e.kind=1\/e.kind=2\/e.kind=3 then iC w e
 else if e.kind=4\/e.kind=5 then iu w e
 else if aS e.kind 6 9&&cO e.at_ then fl w e
 else(w,false)
def abd (l:List ao) (key:Int) (hl:bN l=true):
 Fn prog 256 [bw l,AV.int key] ((bL l key).av):=by
 refine Fn.go 29 func256 ntmps256 (λW I a U=>?_);have hle:=U.dE (t:=0) rfl;refine sr<|U.alloc rfl jF ic λb4 I a w U=>?_;refine bA λI a w U=>?_;refine U.o (.cl (pI ..)) λU=>?_;refine ax λI a w U=>?_;refine U.cd (λae=>?_) λae=>?_
 .exfalso;rw[hl] at ae;cases ae;skip
 refine ax λI a w U=>?_;refine St.lo (σ:=Nat) (5::(run 18 10 [])) ⟨λk=>[(5,AV.int k)],λk=>[Own.box b4 50 [AV.val (.int .i64 0),AV.val (.int .i64 0)]],λk=>k<=l.length/\∀i,i<k->pL key (ab l i)=false⟩ (λk=>l.length-k) 0 U ?aL ?bG;case aL=>exact⟨Nat.zero_le _,λi hi=>by omega⟩
 rintro k I a w al U;obtain⟨hk,aT⟩:=al;refine aY λI a w U=>?_;refine cz (λah=>?_) λah=>?_
 .refine jf λI a w U=>?_;refine U.cd (λaj=>?_) λaj=>?_
  .refine gY λI a w U=>?_;refine U.ret rfl (.cons (.sx 0) ba.nil) ?_;exact(by rw[QL ah aT aj];rfl)
  refine aN λI a w U=>?_;exact U.ag (k+1) (⟨ah,λi h1=>by rcases Nat.lt_succ_iff_lt_or_eq.1 h1 with h|h;exact aT i h;rw[h];exact aj⟩)
 refine zt ?_;refine U.o (.bd ic aW.nil) λU=>?_;refine ax λI a w U=>?_;refine U.ret rfl (.cons (.sx 0) ba.nil) ?_;exact(by rw[QM om aT];rfl)
def RL {l:List Call} {time:Int} {j:Nat} (h:mZ l time j=true):(ab l j).num=ga l (j+1) (ab l j).aq:=by
 simp only[mZ,Bool.and_eq_true,beq_iff_eq] at h;exact h.1.2
def RM (l:List Call) (time:Int) (k:Nat):(!fR (ab l k) time||(decide (0<(k:Int))&&decide ((ab l k).bE<=(ab l ((k:Int)-1).toNat).bE)))=!zl l time k:=RH l time k
def RN {d q:Call} (h:d.aq=q.aq):(!d.over&&((d.end_==0)||decide (q.bE<=d.end_)))=lM d q:=by
 unfold lM;rw[h];simp
def EC (l:List Call) (time:Int) (k:Nat):mZ l time k=((zl l time k&&((ab l k).num==ga l (k+1) (ab l k).aq))&&de k λj=>!lM (ab l j) (ab l k)):=rfl
def abe {q:Call} {t:Int} (h:dS q t) {key:Int} (hk:g9 q.keys key=true):0<=key/\key<=5:=by
 have hu:kK q.keys=true:=by have:=h.keys;simp only[iQ,Bool.and_eq_true] at this;exact this.1
 exact Hz.1 (yP hu (zw.1 hk))
def ED {q:Call} {t:Int} (h:dS q t) {key:Int} (hk:g9 q.keys key=true) (hn:cB q key<0):q.aO=[]/\q.aA.length<q.keys.length:=by
 have hu:kK q.keys=true:=by have:=h.keys;simp only[iQ,Bool.and_eq_true] at this;exact this.1
 have bK:q.aA.length<q.keys.length:=by
  apply Nat.lt_of_not_le;intro hle;have aZ:∀a∈q.aA,a.key≠key:=λa ha e=>by
   have:=Ei (q:=q) (key:=key).2 ⟨a,ha,e⟩;omega
  have U:((c7 q.aA {(default:Answer) with key:=key}).map Answer.key).Pairwise (·<·):=by
   rw[List.pairwise_map];refine(Ia h.sorted λx hx=>aZ x hx).imp λhl=>?_;unfold gR at hl;rwa[decide_eq_true_eq] at hl
  have:=DK (O8 hu) U λa ha=>by
   rcases r7.1 ha with rfl|ha
   .exact zw.1 hk
   exact zw.1 (h.has a ha)
  rw[wI] at this;omega
 exact⟨h.full.resolve_right om,bK⟩
def dS.mV {q:Call} {t:Int} (h:dS q t) (hw:gP q=true) (hb:q.bE<t) (hk:q.kind≠1) {a:Answer} (ha:dF a=true) (iH:g9 q.keys a.key=true) (hn:cB q a.key<0):dS (mV q a t) t:=by
 obtain⟨he,ho⟩:=sa hw;obtain⟨sB,bK⟩:=ED h iH hn;have aZ:∀x∈q.aA,x.key≠a.key:=λx hx e=>by
  have:=Ei (q:=q) (key:=a.key).2 ⟨x,hx,e⟩;omega
 have be:dX q.ar=true:=h.open_ he;have p9:∀x∈c7 q.aA a,dF x=true:=λx hx=>by
  rcases r7.1 hx with rfl|hx
  .exact ha
  exact h.bD x hx
 have xb:∀x∈c7 q.aA a,g9 q.keys x.key=true:=λx hx=>by
  rcases r7.1 hx with rfl|hx
  .exact iH
  exact h.has x hx
 have tQ:=Ia h.sorted aZ;have h1:dS {q with aA:=c7 q.aA a} t:=
  ⟨h.aq,h.num,h.keys,h.val,h.ctx,h.aO,h.bE,h.fits,xb,tQ,p9,λd hd=>by have:d∈q.aO:=hd;rw[sB] at this;simp at this,.inl sB,λe=>absurd e hk,h.read,h.open_,λe=>absurd he e⟩
 unfold Go.Proofs.YtdanidpleofjgaaGreat.mV;dsimp only;split
 .exact h1
 rename_i hlen;have hl:(c7 q.aA a).length=q.keys.length:=by rw[wI];have:¬(c7 q.aA a).length<q.keys.length:=hlen;rw[wI] at this;omega
 have EB:∀key,tD (bL (fy {q with aA:=c7 q.aA a}) key):=λkey=>by
  have:=(sq (l:=c7 q.aA a) (acc:=[]) rfl p9);exact tM this.1 key
 have ec:bN (j9 {q with aA:=c7 q.aA a})=true:=Io _ EB tQ (λx hx=>by have:=abe h (xb x hx);omega) p9;have tT:∀d∈j9 {q with aA:=c7 q.aA a},so {q with aA:=c7 q.aA a} d=true:=λd hd=>by
  obtain⟨x,hx,e,RO⟩:=Qb hd;refine(II tQ).2 ⟨x,hx,by rw[e],?_⟩;unfold np;rw[RO];simp
 unfold lO;split
 .rename_i h0;have h0:q.aO++j9 {q with aA:=c7 q.aA a}=[]:=h0;exact⟨h.aq,h.num,h.keys,h.val,h.ctx,by show bN (q.aO++_)=true;rw[h0];rfl,h.bE,h.fits,xb,tQ,p9,λd hd=>by have:d∈q.aO++_:=hd;rw[h0] at this;simp at this,.inl h0,λe=>absurd e hk,h.read,λ_=>be,
   λ_=>⟨ho,⟨by show q.bE+1<=t;omega,Int.le_refl _⟩,h0,λe=>absurd e hk,λ_=>hl⟩⟩
 exact⟨h.aq,h.num,h.keys,h.val,h.ctx,by show bN (q.aO++_)=true;rw[sB];exact ec,h.bE,h.fits,xb,tQ,p9,λd hd=>tT d (by have:d∈q.aO++_:=hd;rwa[sB] at this),.inr hl,λe=>absurd e hk,h.read,h.open_,λe=>absurd he e⟩
def zB {q:Call} {m:az} {t:Int} (h:dS q t):dS (dG q m t) t:=by
 unfold dG;split
 .rename_i hc;simp only[Bool.and_eq_true,decide_eq_true_eq] at hc;obtain⟨⟨⟨⟨⟨hm,_⟩,_⟩,iH⟩,hw⟩,hb⟩:=hc;obtain⟨he,ho⟩:=sa hw;split
  .rename_i hk;split
   .rename_i U;obtain⟨hg,sB⟩:=h.put hk;exact⟨h.aq,h.num,h.keys,h.val,h.ctx,h.aO,h.bE,Bm U.2,h.has,h.sorted,h.bD,h.xa,h.full,h.put,λe=>absurd hk e,λe=>by have:t=0:=e;have:=h.bE;omega,
     λ_=>⟨ho,⟨by show q.bE+1<=t;omega,Int.le_refl _⟩,sB,λ_=>YK U.2,λe=>absurd hk e⟩⟩
   exact h
  rename_i hk;unfold jI;split
  .rename_i hr;have hg:=Ed (q:=q) hm hr.2;split
   .rename_i hn;split
    .exact h.mV hw hb hk hg iH hn
    exact h
   split
   .rename_i hy;exact h.mP hw hb hk hg hy
   exact h
  exact h
 exact h
def RP (q:Call) (m:az) (t:Int):(dG q m t).aq=q.aq/\(dG q m t).num=q.num/\(dG q m t).bE=q.bE/\(dG q m t).over=q.over/\(dG q m t).ctx=q.ctx/\(dG q m t).keys=q.keys/\(dG q m t).kind=q.kind:=by
 have e:∀q':Call,∀t,(lO q' t).aq=q'.aq/\(lO q' t).num=q'.num/\(lO q' t).bE=q'.bE/\(lO q' t).over=q'.over/\(lO q' t).ctx=q'.ctx/\(lO q' t).keys=q'.keys/\(lO q' t).kind=q'.kind:=λq' t=>by
  unfold lO;split<;>exact⟨rfl,rfl,rfl,rfl,rfl,rfl,rfl⟩
 unfold dG jI mV mP;dsimp only;repeat' split
 all_goals first|exact⟨rfl,rfl,rfl,rfl,rfl,rfl,rfl⟩|exact e _ _
def RQ (s:Server) (m:az):((m.aU !=fj s.site)||!iT s ⟨m.key,m.ar⟩||decide (80<=(s.bj.length:Int)))=!((m.aU==fj s.site)&&iT s ⟨m.key,m.ar⟩&&decide (s.bj.length<80)):=by
 have e:decide (80<=(s.bj.length:Int))=!decide (s.bj.length<80):=by rw[Bool.eq_iff_iff];simp;omega
 rw[e];simp[bne]
def abf (s:Server) (al:gQ s=true):
 Fn prog 142 [s.av] ((pU s).av):=by
 refine Fn.go 12 func142 ntmps142 (λW I a U=>?_);have hp:=Bc al;refine bA λI a w U=>?_;refine U.alloc rfl cq dz λb2 I a w U=>?_;refine bA λI a w U=>?_;refine U.o (.c1 (vj ..)) λU=>?_;refine ax λI a w U=>?_;refine U.cd (λae=>?_) λae=>?_
 .exfalso;rw[al] at ae;cases ae;skip
 refine bA λI a w U=>?_;refine U.o (cr (zA s (by have:=ve hp.2.1;have:=ve hp.2.2.1;exact(H9 al).small (by have:=iR hp.2.2.2.1;omega))) (ai (.t rfl) aC)) λU=>?_;refine U.alloc rfl cq dz λb3 I a w U=>?_;refine ct λI a w U=>?_;refine U.ret rfl (.cons (.sx 0) ba.nil) ?_;rfl
def I7 {s:Server} {m:az} (h:tI s m=true):(eb s m.slot).an.length+m.an.length<=80/\(eb s m.slot).waits.length+m.waits.length<=80/\(eb s m.slot).aD.length+m.aD.length<=80:=by
 unfold tI at h;simp only[Bool.and_eq_true,decide_eq_true_eq] at h;exact⟨h.1.1,h.1.2,h.2⟩
def xm (s:Server) (m:az) (i j k:Nat):Server:=
 {eb s m.slot with aF:=(eb s m.slot).aF.set m.slot.toNat ⟨m.bf,1⟩,an:=iU (eb s m.slot).an (m.an.take i),waits:=iU (eb s m.slot).waits (m.waits.take j),aD:=(m.aD.take k).foldl eF (eb s m.slot).aD}
def EE (s:Server) (m:az) {i j k:Nat} (hi:m.an.length<=i) (hj:m.waits.length<=j) (hk:m.aD.length<=k):xm s m i j k=kr s m:=by
 unfold xm kr;rw[List.take_of_length_le hi,List.take_of_length_le hj,List.take_of_length_le hk]
def abg {l ds:List ao} {k:Nat} (hn:l.length+ds.length<=80) (hk:k<ds.length):Fn prog 223 [bw ((ds.take k).foldl eF l),(ab ds k).av] (bw ((ds.take (k+1)).foldl eF l)):=by
 have h2:=PT l ds k;have:=IF ((ds.take k).foldl eF l) (ab ds k) om;rwa[<-QZ hk] at this
def sC {s:Server} {m:az} (h:m.kind=7) (h2:((j6 s.an ⟨m.key,m.ar⟩).isSome&&(m.aU==fj s.site))=false) (hc:bY s.an=true):eH s m=(s,[]):=by
 rw[Bz hc] at h2;unfold eH;rw[h];show(s,nz s m)=_;unfold nz;rw[h2];rfl
def sD {s:Server} {m:az} (h1:¬m.kind=1) (h3:¬m.kind=3) (h5:¬m.kind=5) (h6:¬m.kind=6) (h7:¬m.kind=7) (h8:¬m.kind=8) (h9:¬m.kind=9) (wH:¬m.kind=10):eH s m=(s,[]):=by
 unfold eH;rw[if_neg h1,if_neg h3,if_neg h5,if_neg h6,if_neg h7,if_neg h8,if_neg h9,if_neg wH]
def I8 {s:Server} (hu:s.up=true) (h3:s.aF.length=3):nC s (Bi s)=kT s:=by
 unfold nC iW pg kT;rw[hu,if_pos rfl,List.take_length,<-h3,Ya]
def RR {s:Server} (hg:bH s):(kT s).length<=1000:=by
 by_cases hu:s.up=true
 .have h1:=zs s s.aD.length (Nat.le_refl _);have h2:=iR hg.aD;have h3:=zh (s:=s) (λv hv=>eL (jv (gy hg.waits v hv)).2.2) s.waits.length (Nat.le_refl _);have h4:=gz hg.waits;rw[HQ s (Nat.le_refl _)] at h3;rw[<-I8 hu hg.aF];unfold nC;rw[List.length_append,List.length_map];omega
 unfold kT;rw[if_neg hu];simp
def abh {s:Server} {k:Nat} (hk:k<s.aD.length) (h:gf s (ab s.aD k).key=false) (hb:df (ab s.aD k).key=true):iW s k=iW s (k+1):=by
 unfold gf at h;rw[hb,Bool.true_and] at h;rw[D7 hk,Rg (by simpa using h),List.append_nil]
def dS.lens {q:Call} {t:Int} (h:dS q t):1<=q.keys.length/\q.keys.length<=3/\q.ctx.length<=6/\q.aO.length<=6/\q.aA.length<=3/\∀a∈q.aA,a.bm.aR.length<=6:=by
 have h1:=h.keys;have hu:kK q.keys=true:=by simp only[iQ,Bool.and_eq_true] at h1;exact h1.1
 have h2:1<=q.keys.length/\q.keys.length<=3:=by
  simp only[iQ,Bool.and_eq_true,Bool.or_eq_true,aS,beq_iff_eq,decide_eq_true_eq] at h1;omega
 have h3:q.aA.length<=q.keys.length:=IP hu (Rs.2 ⟨h.has,h.sorted,h.bD⟩);exact⟨h2.1,h2.2,eL h.ctx,eL h.aO,by omega,λa ha=>eL (sk (h.bD a ha))⟩
def dS.small {q:Call} {t:Int} (h:dS q t):yX q:=by
 have:=h.lens;exact⟨by omega,by omega,by omega,λa ha=>(by have:=this.2.2.2.2.2 a ha;omega),by omega⟩
def EF (q:Call) (h:yX q):
 Fn prog 85 [q.av] (q.av):=by
 refine Fn.go 45 func85 ntmps85 (λW I a U=>?_);obtain⟨h1,h2,h4,h5,h3⟩:=h;refine sr<|U.box rfl .tt λb1 I a w U=>U.alloc rfl eR j2 λb2 I a w U=>?_;refine zt ?_;refine U.l0 λb6 I a w U=>?_;refine aH λI a w U=>?_;refine U.ap 2 λv9 a w U=>?_;obtain⟨I,U⟩:=U.fr 2 9;refine aB λI a w U=>?_;refine U.l0 λmc I a w U=>?_;refine aH λI a w U=>?_;refine U.ap 3 λlQ a w U=>?_;obtain⟨I,U⟩:=U.fr 3 14;refine aB λI a w U=>?_;refine U.l0 λy9 I a w U=>?_;refine aH λI a w U=>?_;refine U.ap 4 λlP a w U=>?_;obtain⟨I,U⟩:=U.fr 4 19;refine aB λI a w U=>?_;refine U.l0 λzx I a w U=>?_;refine aB λI a w U=>?_;refine St.lo (σ:=Nat×Value) (run 3 3 (run 20 22 [])) ⟨λ⟨k,v⟩=>[(4,AV.int k),(3,AV.val v)],λ⟨k,v⟩=>[Own.box b1 53 q.cells,Own.box b2 53 [AV.val (.int .i64 0),AV.val (.int .i64 0),AV.val (.int .i64 0),AV.rows 1 [],AV.val (.int .i64 0),AV.rows 3 [],AV.val (.int .i64 0),AV.val (.int .i64 0),AV.val (.bool false),AV.val (.int .i64 0),AV.val (.int .i64 0),AV.rows 9 [],AV.rows 3 []],Own.gone,Own.gone,Own.gone,Own.row v 128 9 ((q.aA.take k).map Answer.cells)],λ⟨k,v⟩=>k<=q.aA.length⟩ (λ⟨k,v⟩=>q.aA.length-k) (0,.slice (some ⟨zx,0,none⟩) 0 0) U ?aL ?bG;case aL=>exact Nat.zero_le _
 rintro⟨k,v⟩ I a w al U;have hk:k<=q.aA.length:=al;dsimp only at U;refine ct λI a w U=>?_;refine cz (λae=>?_) λae=>?_
 .refine bO λI a w U=>?_;refine U.alloc rfl fF pG λb5 I a w U=>?_;refine aV λI a w U=>?_;refine U.o (.c1 (lN _ (h5 _ (bB ae)))) λU=>U.o .fv λU=>U.pB 6 bU .tt .tt rfl rfl rfl λa w U=>?_;refine aH λI a w U=>?_;refine U.o (.li [(ab q.aA k).cells] uF (.u .nil)) λU=>?_;refine U.ap 5 λzC a w U=>?_;rw[bV,<-ez ae] at U;refine aY λI a w U=>?_;have U:=U.drop 6;exact U.ag (k+1,zC) (ae)
 refine wp_exit<|cM<|cM<|fI<|bk<|wp_seq ?_;rw[List.take_of_length_le om] at U;obtain⟨I,U⟩:=U.fr 5 3;refine ct λI a w U=>?_;refine U.ret rfl (.cons (.sx 1) ba.nil) ?_;rfl
def qc (q:Call) (k:Nat):List az:=(((q.keys.take k).filter λk=>decide (cB q k<0)).map λkey=>jS q (wS key)).flatten
def RS {q:Call} {k:Nat} (h:k<q.keys.length) (hg:cB q (ab q.keys k)<0):qc q k++jS q (wS (ab q.keys k))=qc q (k+1):=by
 unfold qc;rw[nu h (by simpa using hg),List.map_append,List.flatten_append];simp
def RT {q:Call} {k:Nat} (h:k<q.keys.length) (hg:¬cB q (ab q.keys k)<0):qc q k=qc q (k+1):=by
 unfold qc;rw[nv h (by simpa using hg)]
def I9 (q:Call):∀k,k<=q.keys.length->(qc q k).length<=2*k
 |0,_=>by simp[qc]
 |k+1,h=>by
  have ih:=I9 q k om;by_cases hg:cB q (ab q.keys k)<0
  .rw[<-RS om hg,List.length_append];show _+2<=_;omega
  rw[<-RT om hg];omega
def abi {q:Call} {k:Nat} (h:k<q.aA.length) (hl:ck (ab q.aA k).bm.ar (bL (fy q) (ab q.aA k).key)=true):nB q k++[⟨(ab q.aA k).key,bL (fy q) (ab q.aA k).key⟩]=nB q (k+1):=by
 rw[IC h];unfold ni;rw[if_pos hl]
def abj {q:Call} {k:Nat} (h:k<q.aA.length) (hl:¬ck (ab q.aA k).bm.ar (bL (fy q) (ab q.aA k).key)=true):nB q k=nB q (k+1):=by
 rw[IC h];unfold ni;rw[if_neg hl,List.append_nil]
def abk {q:Call} {a:Answer} {k:Nat} (h:k<q.aO.length) (he:ab q.aO k=a.bm.bh):pX q a (k+1)=q.aA.set (cB q a.key).toNat a:=by
 unfold pX;rw[if_pos ((Hk h).2 (.inr he.symm))]
def abl {q:Call} {a:Answer} {k:Nat} (h:k<q.aO.length) (he:ab q.aO k≠a.bm.bh):pX q a k=pX q a (k+1):=by
 unfold pX;by_cases hm:a.bm.bh∈q.aO.take k
 .rw[if_pos hm,if_pos ((Hk h).2 (.inl hm))]
 rw[if_neg hm,if_neg λhh=>((Hk h).1 hh).elim hm λe=>he e.symm]
def abm {q:Call} {a:Answer} {k:Nat} (h:k<q.aO.length) (he:ab q.aO k=a.bm.bh):pK q a k=pK q a (k+1):=(nv h (by simp[he])).symm
def RU {q:Call} {a:Answer} {t:Int} {k:Nat} (h:q.aO.length<=k):mP q a t=if(pK q a k=[]/\q.aO≠[]) then{q with aA:=pX q a k,aO:=pK q a k,end_:=t} else{q with aA:=pX q a k,aO:=pK q a k}:=by
 unfold mP pK pX;rw[List.take_of_length_le h];by_cases hm:a.bm.bh∈q.aO
 .rw[if_pos hm,if_pos hm];have aZ:q.aO≠[]:=λe=>by rw[e] at hm;simp at hm
  dsimp only;by_cases he:(q.aO.filter λd=>decide (d≠a.bm.bh))=[]
  .rw[if_pos he,if_pos ⟨he,aZ⟩]
  rw[if_neg he,if_neg λhh=>he hh.1]
 rw[if_neg hm,if_neg hm];have hf:(q.aO.filter λd=>decide (d≠a.bm.bh))=q.aO:=by
  rw[List.filter_eq_self];intro d hd;simp;rintro rfl;exact hm hd
 rw[hf,if_neg λhh=>hh.2 hh.1]
def rk (q:Call) (k:Nat):List ao:=((q.aA.take k).filter λa=>!dX (bL (fy q) a.key)&&np a (bL (fy q) a.key)).map λa=>⟨a.key,bL (fy q) a.key⟩
def abn {q:Call} {k:Nat} (h:k<q.aA.length) (hp:(!dX (bL (fy q) (ab q.aA k).key)&&np (ab q.aA k) (bL (fy q) (ab q.aA k).key))=true):rk q k++[⟨(ab q.aA k).key,bL (fy q) (ab q.aA k).key⟩]=rk q (k+1):=by
 unfold rk;rw[nu h (by simpa using hp),List.map_append];rfl
def abo {q:Call} {k:Nat} (h:k<q.aA.length) (hp:(!dX (bL (fy q) (ab q.aA k).key)&&np (ab q.aA k) (bL (fy q) (ab q.aA k).key))=false):rk q k=rk q (k+1):=by
 unfold rk;rw[nv h (by simpa using hp)]
def abp (q:Call) (k:Nat):(rk q k).length<=q.aA.length:=by
 unfold rk;rw[List.length_map];exact Nat.le_trans (List.length_filter_le ..) (by rw[List.length_take];omega)
def RV {q:Call} {m:az} {t t0:Int} (h:dS q t0) (hv:m.kind=4/\(m.yes=true->m.an.length=1/\(ab m.an 0).key=m.key)) (iH:g9 q.keys m.key=true) (hb:(decide (cB q m.key<0)&&dX m.ar)=true) (ha:pR {q with aA:=c7 q.aA (dK m)}=true):
 jI q m t=if j9 {q with aA:=c7 q.aA (dK m)}=[] then{q with aA:=c7 q.aA (dK m),aO:=j9 {q with aA:=c7 q.aA (dK m)},end_:=t} else{q with aA:=c7 q.aA (dK m),aO:=j9 {q with aA:=c7 q.aA (dK m)}}:=by
 rw[Bool.and_eq_true,decide_eq_true_eq] at hb;have sB:=(ED h iH hb.1).1;have:((c7 q.aA (dK m)).length:Int)=q.keys.length:=by simpa[pR] using ha
 unfold jI;rw[if_pos hv,if_pos hb.1,if_pos hb.2];unfold mV lO;dsimp only;rw[if_neg om];generalize j9 {q with aA:=c7 q.aA (dK m)}=y;rw[sB,List.nil_append]
def abq {s:Server} {m:az} (h:(m.kind==7&&(m.aU==fj s.site)&&decide (0<=placeOf s.an ⟨m.key,m.ar⟩))=true):eH s m=(s,[mN s m]):=by
 simp only[Bool.and_eq_true,beq_iff_eq,decide_eq_true_eq] at h;unfold eH;rw[h.1.1];show(s,nz s m)=_;unfold nz iI;rw[if_pos h.2,h.1.2];simp
def abr {s:Server} {m:az} (hg:bH s) (h:(m.kind==6&&(cO m.aU&&(bP m.aU !=bP s.site))&&gf s m.key)=true):eH s m=({s with aD:=s.aD.filter (λd=>!decide (d=⟨m.key,m.ar⟩))},[]):=by
 simp only[Bool.and_eq_true,beq_iff_eq] at h;obtain⟨⟨h1,h2,h3⟩,h4⟩:=h;have h5:(dU s m.key==1)=true:=by unfold gf at h4;rw[Bool.and_eq_true] at h4;exact h4.2
 rw[rb h1,aag hg.aD];unfold l8;rw[h2,h3,h5];by_cases hi:0<=fG s.aD ⟨m.key,m.ar⟩
 .rw[if_pos hi,if_pos (by simp[hi])]
 rw[if_neg hi,if_neg (by simp[hi])]
def abt (l:List Call) (aq:Int) {k:Nat} (hk:k<=l.length) (h:l.length<=k):tG l aq k=tF l aq:=by
 have key:∀k,k<=l.length->tG l aq k=(l.take k).foldl (λn q=>if q.aq=aq then q.num else n) 0:=by
  intro k;induction k with
  |zero=>intro _;simp[tG]
  |succ k ih=>intro h;rw[ez om,List.foldl_append];show(if _ then _ else tG l aq k)=_;rw[ih om];rfl
 unfold tF;rw[key k hk,List.take_of_length_le h]
def abu {w:aI} {e:Ev} (h:e.kind=7):fl w e=({w with aw:=w.aw.set e.at_.toNat (pU (ab w.aw e.at_.toNat))},!(ab w.aw e.at_.toNat).up):=by unfold fl;rw[if_pos h]
def abv {w:aI} {e:Ev} (h7:¬e.kind=7) (h6:¬e.kind=6) (h8:¬e.kind=8) (hm:(eG (ab w.aw e.at_.toNat) e.slot).2.2=true):fl w e=({w with aw:=w.aw.set e.at_.toNat (eG (ab w.aw e.at_.toNat) e.slot).1,au:=eB w.au [(eG (ab w.aw e.at_.toNat) e.slot).2.1]},(eG (ab w.aw e.at_.toNat) e.slot).2.2):=by
 unfold fl;rw[if_neg h7,if_neg h6,if_neg h8,if_pos (Eu hm),IW (Eu hm)]
def abw {w:aI} {e:Ev} (h:¬e.kind=1) (hn:0<=cA w.calls e.aq) (h3:e.kind=3):iC w e=({w with calls:=w.calls.set (cA w.calls e.aq).toNat {ab w.calls (cA w.calls e.aq).toNat with over:=true}},true):=by unfold iC;rw[if_neg h];dsimp only;rw[if_neg om,if_pos h3]
inductive Reach:aI->Prop
 |start:Reach fw
 |step {w:aI} {e:Ev}:Reach w->(cT w e).2=true->Reach (cT w e).1
structure cP (n:Nat) (s:dC):Prop where
 reach:Reach s.w
 time:s.w.time<=n
 len:s.list.length<=n
 fit:∀e∈s.list,e.y7
def abx (q:Call) (m:az) (t:Int):(dG q m t).val=q.val:=by
 have e:∀q':Call,∀t,(lO q' t).val=q'.val:=λq' t=>by unfold lO;split<;>rfl
 unfold dG jI mV mP;dsimp only;repeat' split
 all_goals first|rfl|exact e _ _
def aby (q:Call) (m:az) (t:Int):kQ q (dG q m t):=by
 obtain⟨a1,a2,_,_,a5,a6,a7⟩:=RP q m t;exact⟨a1,a2,a7,a6,abx q m t,a5⟩
end Go.Proofs.YtdanidpleofjgaaGreat

/- Part 33: contracts of functions, plain facts. -/
import Derived.Test.YtdanidpleofjgaaGreatP25
import Derived.Test.YtdanidpleofjgaaGreatP26
set_option linter.all false
set_option maxRecDepth 100000
set_option maxHeartbeats 4000000
namespace Go.Proofs.YtdanidpleofjgaaGreat
open Go Go.RowKit Tryz
attribute [local irreducible] wpList Code.wp Ok
def aen (s:Server) (m:az) (hg:bH s) (hm:bM m=true):
 Fn prog 184 [s.av,m.av] (AV.db [(im s m).1.av,cQ (im s m).2]):=by
 refine Fn.go 150 func184 ntmps184 (λW I a U=>?_);have al:=jx.2 hg;have cV:=hg.ok;have kU:=nx hm;have ss:=eL kU.2.2.2;have S8:aS m.aU 10 11=true\/True:=.inr trivial;have lens:m.aR.length<=9223372036854775807/\m.an.length<=9223372036854775807/\m.waits.length<=9223372036854775807/\m.aD.length<=9223372036854775807:=⟨U.ln 1 9,U.ln 1 12,U.ln 1 13,U.ln 1 14⟩;refine sr<|U.box rfl .tt λb2 I a w U=>U.o .bp λU=>U.alloc rfl cq dz λb4 I a w U=>?_;refine ax λI a w U=>?_;refine U.l0 λEo I a w U=>?_;obtain⟨I,U⟩:=U.fr 2 18;refine aV λI a w U=>?_;refine U.o (LW .tt .c (λ_=>by have h9:=uX hm;omega)) λU=>?_;refine aV λI a w U=>?_;refine U.o (.c1 (A0 ..)) λU=>?_;refine uD λI a w U=>?_;refine U.q .F (.cl (Jk _ _ al)) λU=>?_;refine aB λI a w U=>?_;refine U.cd (λae=>?_) λae=>?_
 .rw[EI s m] at ae;replace ae:=nt ae;refine aY λI a w U=>?_;refine U.ret rfl (.cons (.sx 1) (.cons .x ba.nil)) ?_;exact(by rw[ab1 ae];rfl)
 rw[EI s m] at ae;replace ae:=nf ae;refine dI λI a w U=>?_;refine U.o (.cl (ZX s m.key (m.aU-10) m.call)) λU=>?_;refine aV λI a w U=>?_;refine U.alloc rfl bU dR λb8 I a w U=>?_;refine aY λI a w U=>?_;refine U.cd (λah=>?_) λah=>?_
 .rw[Bool.not_eq_true'] at ah;refine zt ?_;refine U.l0 λb52 I a w U=>?_;refine aB λI a w U=>?_;refine St.lo (σ:=Nat×Value) (run 2 10 (run 16 53 [])) ⟨λ⟨k,v⟩=>[(11,AV.int k),(10,AV.val v)],λ⟨k,v⟩=>[Own.box b2 43 s.cells,Own.box b4 43 [AV.val (.int .i64 0),AV.val (.bool false),AV.rows 2 [],AV.rows 7 [],AV.rows 7 [],AV.rows 3 [],AV.rows 3 []],Own.gone,Own.box b8 62 ((j3 s m.key (m.aU-10) m.call).getD default).cells,Own.row v 50 2 (((m.aR.take k).map ao.ar).map cw.cells)],λ⟨k,v⟩=>k<=m.aR.length⟩ (λ⟨k,v⟩=>m.aR.length-k) (0,.slice (some ⟨b52,0,none⟩) 0 0) U ?aL ?bG;case aL=>exact Nat.zero_le _
  rintro⟨k,v⟩ I a w al U;have hk:k<=m.aR.length:=al;dsimp only at U;refine ct λI a w U=>?_;refine cz (λaj=>?_) λaj=>?_
  .refine fo λI a w U=>?_;refine U.o (.li [(ab m.aR k).ar.cells] Dj (.u .nil)) λU=>?_;refine U.append 4 rfl NQ jF rfl .tt .r rfl (by simp only[List.length_map,List.length_cons,List.length_nil,List.length_take];omega) λJ2 a w U=>?_;refine aY λI a w U=>?_;rw[bV,show(m.aR.take k).map ao.ar++[(ab m.aR k).ar]=(m.aR.take (k+1)).map ao.ar from by rw[ez aj,List.map_append];rfl] at U;exact U.ag (k+1,J2) (aj)
  refine zt ?_;refine bz λI a w U=>?_;refine U.o (.cl (Qp _ _ cV.an)) λU=>?_;refine aV λI a w U=>?_;refine U.alloc rfl bU dR λw9 I a w U=>?_;refine U.sb 5 λU=>?_;obtain⟨I,U⟩:=U.fb 5 12;refine U.s λU=>nn ?_;refine St.cut (σ:=Value) (10::(run 6 77 [])) ⟨λv=>[(10,AV.val v)],λv=>[Own.box b2 43 s.cells,Own.box b4 43 [AV.val (.int .i64 0),AV.val (.bool false),AV.rows 2 [],AV.rows 7 [],AV.rows 7 [],AV.rows 3 [],AV.rows 3 []],Own.gone,Own.box b8 62 ((j3 s m.key (m.aU-10) m.call).getD default).cells,Own.row v 50 2 ((jR s m).map cw.cells),Own.gone],λv=>True⟩ U ?aep ?amS;case aep=>
   refine ax λI a w U=>?_;refine U.cd (λaJ=>?_) λaJ=>?_
   .refine aV λI a w U=>?_;refine U.o (.li [((fq s.an m.key).getD default).ar.cells] Dj (.u .nil)) λU=>?_;refine U.append 4 rfl NQ jF rfl .tt .r rfl (by simp only[List.length_map,List.length_cons,List.length_nil,List.length_take];omega) λJ3 a w U=>?_;refine ax λI a w U=>?_;first|rw[bV,show m.aR.take k=m.aR from List.take_of_length_le om,DF aJ] at U|rw[show m.aR.take k=m.aR from List.take_of_length_le om,DG aJ] at U
    exact U.me J3 fU
   refine zt ?_;first|rw[bV,show m.aR.take k=m.aR from List.take_of_length_le om,DF aJ] at U|rw[show m.aR.take k=m.aR from List.take_of_length_le om,DG aJ] at U
   exact U.me v fU
  rintro v I a w al U;refine aV λI a w U=>?_;obtain⟨I,U⟩:=U.fr 4 86;refine U.o (.cl (Zi s.site (jR s m) hg.site (Iw hg hm))) λU=>?_;refine aV λI a w U=>?_;refine U.alloc rfl jF ic λtX I a w U=>?_;refine U.sb 6 λU=>?_;obtain⟨I,U⟩:=U.fb 6 14;refine ax λI a w U=>?_;refine U.dt 13 ?_;simp only[TD];refine mB ?_;refine .o (tb du cE) ?_;refine cj ?_;refine .o (AE du cE rfl .tt .r (λ_=>by simp;omega)) ?_;refine .o (.bd dR (.k (.t (.k (.k (.k (.k aW.nil))))))) ?_;refine .nil ?_;intro I a w U;refine bz λI a w U=>?_;refine U.o (.cl (Ew s.an (fk s m) cV.an)) λU=>?_;refine G1 λI a w U=>?_;refine U.cd (λaP=>?_) λaP=>?_
  .rw[OR s m] at aP;replace aP:=nt aP;refine aY λI a w U=>?_;refine U.ret rfl (.cons (.sx 1) (.cons .x ba.nil)) ?_;exact(by rw[Jd ae ah aP];rfl)
  rw[OR s m] at aP;replace aP:=nf aP;refine aN λI a w U=>?_;rw[if_pos (by simp only[Bool.and_eq_true] at aP;exact aP.1.2)] at U;refine dI λI a w U=>?_;refine U.o (.bd fh (.k (.t aW.nil))) λU=>?_;refine U.o (cr (IF s.aD (fk s m).bh (by have:=iR hg.aD;omega)) (ai .r (ai (.t rfl) aC))) λU=>?_;refine aV λI a w U=>?_;refine U.o (cr (zD {s with an:=eE s.an (fk s m),aD:=eF s.aD (fk s m).bh} (IZ hg hm (by simp only[Bool.and_eq_true] at ae;exact ae.2) aP).ok) (ai (.t rfl) aC)) λU=>?_;refine ax λI a w U=>?_;refine U.dh (([0],none)::([],none)::([0],none)::([],none)::([],none)::([],none)::([],none)::([],none)::([],none)::([],none)::([3],none)::rp 2 [([1],some (1,[])),([],none)]) aG aG rfl ?_;refine .r [0] (.ls 0) ?_;refine aX ?_;refine .r [0] (.lb 0) ?_;refine kJ ?_;refine .r [3] (.ls 3) ?_;refine .o (.bd dN (.k (.k (.k (.k (.k (.t aW.nil))))))) ?_;refine .o (.li [({mL s m (fk s m).ar with aU:=(fQ {s with an:=eE s.an (fk s m),aD:=eF s.aD (fk s m).bh}).site}).cells] gw (.u .nil)) ?_;refine aK.cX (x:=AV.any) 1 (λF W0 I0 I a w Q U kk=>U.sb 1 λU=>kk _ _ _ U) ?_;refine aX ?_;refine .nil ?_;intro I a w U;refine zt ?_;refine U.ret rfl (.cons (.sx 1) (.cons .x ba.nil)) ?_;exact(by rw[R1 ae ah aP,(ze _).1];rfl)
 rw[Bool.not_eq_false'] at ah;refine zt ?_;refine U.dh (([0],none)::([],none)::([0],none)::([],none)::([],none)::([],none)::([],none)::([],none)::([],none)::([],none)::([3],none)::rp 2 [([1],some (1,[])),([],none)]) aG aG rfl ?_;refine .r [0] (.ls 0) ?_;refine aX ?_;refine .r [0] (.lb 0) ?_;refine kJ ?_;refine .r [3] (.ls 3) ?_;refine .o (.bd dN (.k (.k (.k (.k (.k (.t aW.nil))))))) ?_;refine .o (.li [(mL s m ((j3 s m.key (m.aU-10) m.call).getD default).ar).cells] gw (.u .nil)) ?_;refine aK.cX (x:=AV.any) 1 (λF W0 I0 I a w Q U kk=>U.sb 1 λU=>kk _ _ _ U) ?_;refine aX ?_;refine .nil ?_;intro I a w U;refine zt ?_;refine U.ret rfl (.cons (.sx 1) (.cons .x ba.nil)) ?_;exact(by rw[R0 ae ah];rfl)
def aem (s:Server) (m:az) (hg:bH s) (hm:bM m=true):
 Fn prog 186 [s.av,m.av] (AV.db [(iq s m).1.av,cQ (iq s m).2]):=by
 refine Fn.go 115 func186 ntmps186 (λW I a U=>?_);have al:=jx.2 hg;have cV:=hg.ok;have kU:=nx hm;refine sr<|U.box rfl .tt λb2 I a w U=>U.o .bp λU=>U.alloc rfl cq dz λb4 I a w U=>?_;refine ax λI a w U=>?_;refine U.l0 λtX I a w U=>?_;obtain⟨I,U⟩:=U.fr 2 14;refine ax λI a w U=>?_;refine U.dk ?_;refine cj ?_;refine .o (.c1 (rS ..)) ?_;refine dM ?_;refine .q .F (.cl (qL ..)) ?_;refine cj ?_;refine .q .F (.cl (qL ..)) ?_;refine AR ?_;refine .q .F (dW (i:=0) ea bU .ag .c (λhg=>by simp only[B] at hg;omega)) ?_;refine cj ?_;refine .q .F (.cl (Jk _ _ al)) ?_;refine fD ?_;refine .q .F (dW (i:=0) ea bU .ag .c (λhg=>by simp only[B] at hg;omega)) ?_;refine dJ ?_;refine .q .F (.cl (qL ..)) ?_;refine cj ?_;refine .q .F (.cl (qL ..)) ?_;refine cj ?_;refine .nil ?_;intro I a w U;refine bk ?_;refine U.cd (λae=>?_) λae=>?_
 .rw[Pk] at ae;replace ae:=nt ae;refine aY λI a w U=>?_;refine U.ret rfl (.cons (.sx 1) (.cons .x ba.nil)) ?_;exact(by unfold iq;rw[ae];rfl)
 rw[Pk] at ae;replace ae:=nf ae;refine aH λI a w U=>?_;refine U.o (dW (i:=0) ea bU .tt .c (λ_=>by have:=(Bd ae).2.2.1;omega)) λU=>?_;refine U.o .la λU=>?_;refine U.alloc rfl bU dR λb7 I a w U=>?_;refine ax λI a w U=>?_;obtain⟨I,U⟩:=U.fb 3 7;refine dI λI a w U=>?_;refine U.o (.cl (sj ..)) λU=>?_;refine aV λI a w U=>?_;refine U.alloc rfl bU dR λb8 I a w U=>?_;refine U.sb 4 λU=>?_;obtain⟨I,U⟩:=U.fb 4 8;refine fo λI a w U=>?_;refine U.o (.cl (sj ..)) λU=>?_;refine aV λI a w U=>?_;refine U.alloc rfl bU dR λkS I a w U=>?_;refine U.sb 5 λU=>?_;obtain⟨I,U⟩:=U.fb 5 10;refine jf λI a w U=>?_;refine U.cd (λah=>?_) λah=>?_
 .rw[PR s (ab m.an 0) cV.an cV.waits,decide_eq_true_eq] at ah;refine aV λI a w U=>?_;refine U.o (.cl (Ew _ _ cV.waits)) λU=>?_;refine jf λI a w U=>?_;refine cz (λaj=>?_) λaj=>?_
  .refine aY λI a w U=>?_;refine U.ret rfl (.cons (.sx 1) (.cons .x ba.nil)) ?_;exact(by unfold iq;rw[ae,if_pos rfl];dsimp only;rw[if_pos ah,aj];rfl)
  refine aN λI a w U=>?_;rw[if_pos aj] at U;refine U.o (.ls 0) λU=>U.o (.c1 (zD {s with waits:=eE s.waits (ab m.an 0)} (cV.It aj ah.1))) λU=>?_;refine ax λI a w U=>?_;refine U.dh [([0],none),([],none),([0],none),([],none),([],none),([],none),([],none),([],none),([],none),([],none),([],none),([1],some (1,[])),([],none)] aG aG rfl ?_;refine .r [0] (.ls 0) ?_;refine aX ?_;refine .r [0] (.lb 0) ?_;refine gZ ?_;refine .o (.bd dN (.k (.k (.k (.k (.t aW.nil)))))) ?_;refine .o (.li [({l7 s m (ab m.an 0) with aU:=(fQ {s with waits:=eE s.waits (ab m.an 0)}).site}).cells] gw (.u .nil)) ?_;refine aK.cX (x:=AV.any) 1 (λF W0 I0 I a w Q U kk=>U.sb 1 λU=>kk _ _ _ U) ?_;refine aX ?_;refine .nil ?_;intro I a w U;refine zt ?_;refine U.ret rfl (.cons (.sx 1) (.cons .x ba.nil)) ?_;exact(by unfold iq;rw[ae,if_pos rfl];dsimp only;rw[if_pos ah,aj,(ze _).1];rfl)
 rw[PR s (ab m.an 0) cV.an cV.waits,decide_eq_false_iff_not] at ah;refine bA λI a w U=>?_;refine U.o (.c1 (zD s cV)) λU=>?_;refine ax λI a w U=>?_;refine U.dh [([0],none),([],none),([0],none),([],none),([],none),([],none),([],none),([],none),([],none),([],none),([],none),([1],some (1,[])),([],none)] aG aG rfl ?_;refine .r [0] (.ls 0) ?_;refine aX ?_;refine .r [0] (.lb 0) ?_;refine gZ ?_;refine .o (.bd dN (.k (.k (.k (.k (.t aW.nil)))))) ?_;refine .o (.li [({l7 s m (ab m.an 0) with aU:=(fQ s).site}).cells] gw (.u .nil)) ?_;refine aK.cX (x:=AV.any) 1 (λF W0 I0 I a w Q U kk=>U.sb 1 λU=>kk _ _ _ U) ?_;refine aX ?_;refine .nil ?_;intro I a w U;refine zt ?_;refine U.ret rfl (.cons (.sx 1) (.cons .x ba.nil)) ?_;exact(by unfold iq;rw[ae,if_pos rfl];dsimp only;rw[if_neg ah,(ze _).1];rfl)
def acJ (l:List ao) (key:Int):
 Fn prog 269 [bw l,AV.int key] ((bL l key).av):=by
 refine Fn.go 21 func269 ntmps269 (λW I a U=>?_);have hle:=U.dE (t:=0) rfl;refine sr<|U.alloc rfl jF ic λb4 I a w U=>?_;refine aN λI a w U=>?_;refine St.lo (σ:=Nat) (6::(run 11 9 [])) ⟨λk=>[(9,AV.int k)],λk=>[Own.box b4 50 [AV.val (.int .i64 0),AV.val (.int .i64 0)]],λk=>k<=l.length/\∀i,i<k->pL key (ab l i)=false⟩ (λk=>l.length-k) 0 U ?aL ?bG;case aL=>exact⟨Nat.zero_le _,λi hi=>by omega⟩
 rintro k I a w al U;obtain⟨hk,aT⟩:=al;refine ax λI a w U=>?_;refine cz (λae=>?_) λae=>?_
 .refine aH λI a w U=>?_;refine U.alloc rfl cE fh λb6 I a w U=>?_;refine ax λI a w U=>?_;obtain⟨I,U⟩:=U.fb 1 6;refine aY λI a w U=>?_;refine U.cd (λah=>?_) λah=>?_
  .refine aN λI a w U=>?_;refine U.ret rfl (.cons (.sx 0) ba.nil) ?_;exact(by rw[QL ae aT ah];rfl)
  refine aB λI a w U=>?_;have U:=U.drop 1;exact U.ag (k+1) (⟨ae,λi h1=>by rcases Nat.lt_succ_iff_lt_or_eq.1 h1 with h|h;exact aT i h;rw[h];exact ah⟩)
 refine zt ?_;refine U.o (.bd ic aW.nil) λU=>?_;refine ax λI a w U=>?_;refine U.ret rfl (.cons (.sx 0) ba.nil) ?_;exact(by rw[QM om aT];rfl)
def Jo (q:Call) (time:Int) (ht:time<=4611686018427387904):
 Fn prog 119 [q.av,AV.int time] (AV.bool (fR q time)):=by
 refine Fn.go 125 func119 ntmps119 (λW I a U=>?_);have lens:q.keys.length<=9223372036854775807/\q.aA.length<=9223372036854775807/\q.aO.length<=9223372036854775807:=⟨U.ln 0 3,U.ln 0 11,U.ln 0 12⟩;refine bz λI a w U=>?_;refine U.o (.c1 (A7 ..)) λU=>?_;refine bz λI a w U=>?_;refine U.q .F (.cl (iS ..)) λU=>?_;refine bz λI a w U=>?_;refine U.q .F (.cl (ZE ..)) λU=>?_;refine bO λI a w U=>?_;refine U.q .F (.cl (iS ..)) λU=>?_;refine bO λI a w U=>?_;refine U.q .F (.cl (A9 ..)) λU=>?_;refine bO λI a w U=>?_;refine U.q .F (.cl (A9 ..)) λU=>?_;refine dI λI a w U=>?_;refine U.q .F (.cl (iS ..)) λU=>?_;refine bO λI a w U=>?_;refine U.q .F (.cl (P0 ..)) λU=>?_;refine bz λI a w U=>?_;refine U.q .F (.cl (aar ..)) λU=>?_;refine aB λI a w U=>?_;refine U.cd (λae=>?_) λae=>?_
 .rw[RF] at ae;replace ae:=nt ae;refine bc ?_;exact bF (by unfold fR;rw[ae];rfl)
 rw[RF] at ae;replace ae:=nf ae;refine Dd λI a w U=>?_;refine U.q .T (lz .ag .ag (λhg=>by have:=ace ae;omega)) λU=>?_;refine Dd λI a w U=>?_;refine U.q .F2 (.cl (wA ..)) λU=>?_;refine aY λI a w U=>?_;refine U.cd (λah=>?_) λah=>?_
 .rw[ON] at ah;replace ah:=nt ah;refine bc ?_;exact bF (by unfold fR;rw[ae,ah];rfl)
 rw[ON] at ah;replace ah:=nf ah;refine aN λI a w U=>?_;refine cz (λaj=>?_) λaj=>?_
 .refine aH λI a w U=>?_;refine U.o (.c1 (wA ..)) λU=>?_;refine bc ?_;exact bF (by unfold fR pd;rw[ae,ah,if_pos aj];rfl)
 refine fo λI a w U=>?_;refine U.q .F (lz .ag .c (λhg=>by have:=aaq ae;omega)) λU=>?_;refine U.q .F .mv λU=>?_;refine U.q .F (.cl (iS ..)) λU=>?_;refine rR λI a w U=>?_;refine U.cd (λaJ=>?_) λaJ=>?_
 .refine bc ?_;exact bF (by unfold fR pd;rw[ae,ah,if_neg aj,aJ];rfl)
 refine bz λI a w U=>?_;refine U.q .T (.cl (wA ..)) λU=>?_;refine fo λI a w U=>?_;refine U.q .T2 (.cl (Pc ..)) λU=>?_;refine tj ?_;exact bF (by unfold fR pd;rw[ae,ah,if_neg aj,aJ];rfl)
def acK {q:Call} {t:Int} (h:fR q t=true) (hk:q.kind=1) (he:¬q.end_=0):iP ⟨ab q.keys 0,q.ar⟩=true:=by
 have hp:=EN h;have fO:kK q.keys=true:=by have:=hp.2.2.1;unfold iQ at this;rw[Bool.and_eq_true] at this;exact this.1
 have h1:=yP fO (bB (xo hp.2.2.1 hk));simp only[fR,mf,Bool.and_eq_true] at h;have be:ld q.ar=true:=h.1.1.1.2;have xu:=h.2;unfold pd at xu;rw[if_neg he] at xu;simp[hk] at xu;simp only[ld,xu.2,Bool.false_or] at be;simp[iP,h1,be]
def Sv {w:aI} (h:cy w) (m:az):cy (lu w m):=by
 unfold lu;dsimp only;split
 .exact h
 rename_i hn;obtain⟨h1,h2,h3⟩:=qS (l:=w.calls) (aq:=m.to-10) om;obtain⟨e1,e2,e3,_⟩:=RP (ab w.calls (cA w.calls (m.to-10)).toNat) m w.time;have hq:=zB (m:=m) (h.call h1);have hg:=h.RX h1 h3 hq e1 e2 e3;split
 .exact hg.aaB _ (aaA hq)
 exact hg
def acL {w:aI} (h:cy w) (e:Ev):cy (iu w e).1:=by
 unfold iu;split
 .rename_i hr;simp only[aS,Bool.and_eq_true,decide_eq_true_eq] at hr;have hm:bM (ab w.au e.word.toNat)=true:=h.words _ (bB om);have h1:cy (if e.kind=5\/e.hO=0 then{w with au:=w.au.take e.word.toNat++w.au.drop (e.word.toNat+1)} else w):=by
   split
   .have U:=yZ w.au e.word.toNat;exact⟨h.time,h.aw,h.site,Nat.le_trans U.length_le h.au,λm hm=>h.words m (U.subset hm),h.seen,h.kd,h.calls⟩
   exact h
  have jk:(if e.kind=5\/e.hO=0 then{w with au:=w.au.take e.word.toNat++w.au.drop (e.word.toNat+1)} else w).aw=w.aw:=by split<;>rfl
  dsimp only;generalize (if e.kind=5\/e.hO=0 then{w with au:=w.au.take e.word.toNat++w.au.drop (e.word.toNat+1)} else w)=w1 at*;split
  .exact h1
  split
  .exact Sv h1 _
  rename_i aQ;have iY:0<=(ab w.au e.word.toNat).to/\(ab w.au e.word.toNat).to<=3:=by
   have:=(ny hm).2.2.1;simp only[lF,cO,aS,Bool.or_eq_true,Bool.and_eq_true,decide_eq_true_eq] at this aQ;omega
  have hi:(ab w.au e.word.toNat).to.toNat<4:=by omega
  have zF:=(h.site _ hi).2;have:=(h1.server hi (s:=(fH (ab w.aw (ab w.au e.word.toNat).to.toNat) (ab w.au e.word.toNat)).1) (abE zF) (by rw[aaD,jk])).send (Se (m:=ab w.au e.word.toNat) zF);rw[<-jk] at this⊢;exact this
 exact h
def Sw {w:aI} (h:cy w) (e:Ev) (al:(cT w e).2=true):cy (cT w e).1:=by
 have h1:=h.later;unfold cT at*;dsimp only at al⊢;split
 .rename_i hk;rw[if_pos hk] at al;exact RY h1 e al
 split
 .exact acL h1 e
 split
 .rename_i hk;rw[Bool.and_eq_true] at hk;exact acg h1 e hk.2
 exact h1
def acM (s:Server) (slot:Int) (hg:bH s):
 Fn prog 145 [s.av,AV.int slot] (AV.db [(eG s slot).1.av,(eG s slot).2.1.av,AV.bool (eG s slot).2.2]):=by
 refine Fn.go 59 func145 ntmps145 (λW I a U=>?_);have al:=jx.2 hg;have cV:=hg.ok;have h3:=hg.aF;have e9:∀x,x=cG.cells ⟨(ab s.aF slot.toNat).bf+1,2⟩->(List.map cG.cells s.aF).set slot.toNat x=List.map cG.cells (kO s slot).aF:=λx h=>by rw[h];exact List.map_set.symm
 refine bA λI a w U=>?_;refine U.alloc rfl cq dz λb4 I a w U=>U.alloc rfl dj dN λb5 I a w U=>?_;refine aH λI a w U=>?_;refine U.o (.c1 (vj ..)) λU=>?_;refine ax λI a w U=>?_;refine U.cd (λae=>?_) λae=>?_
 .exfalso;rw[al] at ae;cases ae;skip
 refine bA λI a w U=>?_;refine U.bq [] (aaM s hg.small) (ai .tt aC) rfl aM rfl λlQ I a w zG U=>?_;refine U.alloc rfl cq dz λb7 I a w U=>?_;refine dI λI a w U=>?_;refine U.q .F (.cl (jg ..)) λU=>?_;refine dI λI a w U=>?_;refine U.q .F ((by first|exact dW fP ew .ag .ag (λhg=>by simp[aS] at hg;omega)|exact fe fP ew .ag .ag (λhg=>by simp[aS] at hg;omega)|exact fm fP ew .ag .ag (λhg=>by simp[aS] at hg;omega))) λU=>?_;refine lI λI a w U=>?_;refine U.q .F ((by first|exact dW fP ew .ag .ag (λhg=>by simp[aS] at hg;omega)|exact fe fP ew .ag .ag (λhg=>by simp[aS] at hg;omega)|exact fm fP ew .ag .ag (λhg=>by simp[aS] at hg;omega))) λU=>?_;refine aY λI a w U=>?_;refine U.cd (λah=>?_) λah=>?_
 .rw[Pm] at ah;replace ah:=nt ah;obtain⟨I,U⟩:=U.fu 2 2 3;refine bA λI a w U=>?_;refine U.o (.bd dN aW.nil) λU=>?_;refine aN λI a w U=>?_;refine U.ret rfl (.cons (.sx 0) (.cons (.sx 1) (.cons (.t rfl) ba.nil))) ?_;exact(by unfold eG;rw[ah];rfl)
 rw[Pm] at ah;replace ah:=nf ah;have hmp:=uT ah;have hsr:=wL.1 (D6 hg (i:=slot.toNat) om);have xv:=za hg ah;refine zt ?_;obtain⟨tX,amA,BW⟩:=U.ia 2 rfl pt;subst BW;refine U.dt 12 ?_;simp only[TD];refine lh ?_;refine .o (.bd mC (.k (.k aW.nil))) ?_;refine .o (gq fP ew .tt .tt (λ_=>by simp only[List.length_map];omega)) ?_;refine .nil ?_;intro I a w U;refine U.jZ 2 ew .tt .tt rfl (by exact ey om) rfl rfl λa w U=>?_;refine zt ?_;rw[e9] at U;rotate_left
 .rfl
 obtain⟨I,U⟩:=U.fu 2 2 3;refine U.dt 4 ?_;simp only[TD];refine dJ ?_;refine .o (cr (RZ (kO s slot) slot xv.an xv.waits hg.site xv.aF om (iR hg.aD)) (ai (.t rfl) (ai (.t rfl) aC))) ?_;refine .nil ?_;intro I a w U;refine aN λI a w U=>?_;refine U.ret rfl (.cons (.sx 0) (.cons (.sx 1) (.cons (.t rfl) ba.nil))) ?_;exact(by unfold eG;rw[ah];rfl)
def acP {s:Server} (h:bH s) {d:ao} (hd:d∈s.aD):df d.key=true:=by
 have:=(zi.1 h.aD).2.1 d hd;unfold lf at this;simp only[Bool.and_eq_true] at this;exact this.1
def Jp (q:Call) (m:az) (hc:fC q.aq=true) (hm:jU m):
 Fn prog 181 [q.av,m.av] (cQ (jS q m)):=by
 refine Fn.go 31 func181 ntmps181 (λW I a U=>?_);have aQ:=sd.1 hc;refine bA λI a w U=>?_;refine U.box rfl .tt λb3 I a w U=>?_;refine ax λI a w U=>?_;refine U.l0 λb7 I a w U=>?_;refine aB λI a w U=>?_;refine St.lo (σ:=Nat×Int×Int×Int×Value) (run 2 5 (run 22 8 [])) ⟨λ⟨j,f1,f2,f3,v⟩=>[(6,AV.int j),(5,AV.val v)],λ⟨j,f1,f2,f3,v⟩=>[Own.box b3 84 ({m with aU:=f1,to:=f2,call:=f3}:az).cells,Own.row v 84 15 (((jS q m).take j).map az.cells)],λ⟨j,f1,f2,f3,v⟩=>j<=2⟩ (λ⟨j,f1,f2,f3,v⟩=>2-j) (0,m.aU,m.to,m.call,.slice (some ⟨b7,0,none⟩) 0 0) U ?aL ?bG;case aL=>exact Nat.zero_le _
 rintro⟨j,f1,f2,f3,v⟩ I a w al U;have hj:j<=2:=al;dsimp only at U;refine aB λI a w U=>?_;refine cz (λae=>?_) λae=>?_
 .refine fo λI a w U=>?_;refine U.o (m6 .c .tt (λ_=>by omega)) λU=>?_;refine uD λI a w U=>?_;refine U.o (.c1 (H7 {m with aU:=10+q.aq,to:=2*q.aq+(j:Int),call:=q.num} hm)) λU=>?_;refine U.o (.li [({m with aU:=10+q.aq,to:=2*q.aq+(j:Int),call:=q.num}:az).cells] gw (.u .nil)) λU=>?_;refine U.append 1 rfl fi dj rfl .tt .r rfl (by simp[jS];omega) λtV a w U=>?_;rw[bV,R2 q m om] at U;refine aY λI a w U=>?_;exact U.ag (j+1,10+q.aq,2*q.aq+(j:Int),q.num,tV) (by show j+1<=2;omega)
 refine wp_exit<|cM<|cM<|fI<|bk<|wp_seq ?_;rw[List.take_of_length_le (by show 2<=j;omega)] at U;obtain⟨I,U⟩:=U.fr 1 5;refine di ?_;rfl
def acQ (q:Call) (g:Value) (x:Answer) (t t0:Int) (h:dS q t0) (qX:x.bm.key=x.key):
 gG prog 216 [q.YL g,x.av,AV.int t] [Own.row g 128 9 (q.aA.map Answer.cells)] [] (mP q x t).av:=by
 refine bT.intro 68 func216 rfl ntmps216 rfl aG (λW I a U=>?_);have nF:=h.lens;refine sr<|U.box rfl .tt λb3 I a w U=>U.o .bp λU=>U.alloc rfl eR j2 λb6 I a w U=>?_;refine zt ?_;refine U.l0 λb9 I a w U=>?_;refine aB λI a w U=>?_;refine St.lo (σ:=Nat×Value) (run 2 7 (run 44 10 [])) ⟨λ⟨k,v⟩=>[(8,AV.int k),(7,AV.val v)],λ⟨k,v⟩=>[Own.row g 128 9 ((pX q x k).map Answer.cells),Own.box b3 53 [AV.int q.aq,AV.int q.num,AV.int q.kind,iz q.keys,AV.int q.val,bw q.ctx,AV.int q.bE,AV.int q.end_,AV.bool q.over,AV.int q.ar.time,AV.int q.ar.site,AV.val g,bw q.aO],Own.box b6 53 [AV.val (.int .i64 0),AV.val (.int .i64 0),AV.val (.int .i64 0),AV.rows 1 [],AV.val (.int .i64 0),AV.rows 3 [],AV.val (.int .i64 0),AV.val (.int .i64 0),AV.val (.bool false),AV.val (.int .i64 0),AV.val (.int .i64 0),AV.rows 9 [],AV.rows 3 []],Own.row v 115 3 ((pK q x k).map ao.cells)],λ⟨k,v⟩=>k<=q.aO.length⟩ (λ⟨k,v⟩=>q.aO.length-k) (0,.slice (some ⟨b9,0,none⟩) 0 0) U ?aL ?bG;case aL=>exact Nat.zero_le _
 rintro⟨k,v⟩ I a w al U;have hk:k<=q.aO.length:=al;dsimp only at U;refine ct λI a w U=>?_;refine cz (λae=>?_) λae=>?_
 .refine zt ?_;refine U.dk ?_;refine nd ?_;refine dJ ?_;refine .q .T (mq [_,_] [_,_] mD rfl rfl .ag .ag) ?_;refine aX ?_;refine .nil ?_;intro I a w U;refine bk ?_;refine U.cd (λah=>?_) λah=>?_
  .rw[Ov _ x qX,decide_eq_true_eq] at ah;have BX:=acr h ae ah qX;obtain⟨jl,m0⟩:=w6 BX;rw[aco h.aO ae ah] at U;obtain⟨bg,Sx,eg⟩:=U.ia 0 rfl pt;subst eg;refine wp_seq ?_;refine U.dt 8 ?_;simp only[TD];refine fD ?_;refine .o (Nh (cs:=[AV.int q.aq,AV.int q.num,AV.int q.kind,iz q.keys,AV.int q.val,bw q.ctx,AV.int q.bE,AV.int q.end_,AV.bool q.over,AV.int q.ar.time,AV.int q.ar.site,.val (.slice (some ⟨bg,0,none⟩) (q.aA.map Answer.cells).length Sx),bw q.aO]) 0 11 (ai .tt (ai .tt aC)) rfl rfl (DV q x.key) (λ_ _ _ h=>h)) ?_;refine aX ?_;refine .o (gq ie fF .tt .tt (λ_=>by simp only[List.length_map];omega)) ?_;refine .nil ?_;intro I a w U;refine U.jZ 0 fF .tt .tt rfl (by exact ey om) rfl rfl λa w U=>?_;refine zt ?_;refine aN λI a w U=>?_;have e9:∀y,y=x.cells->(List.map Answer.cells q.aA).set (cB q x.key).toNat y=List.map Answer.cells (pX q x (k+1)):=λy hy=>by rw[hy,abk ae ah,List.map_set]
   rw[e9,abm ae ah] at U;rotate_left
   .rfl
   exact U.ag (k+1,v) (ae)
  rw[Ov _ x qX,decide_eq_false_iff_not] at ah;refine dI λI a w U=>?_;refine U.o (.li [(ab q.aO k).cells] fE (.u .nil)) λU=>?_;refine U.append 3 rfl du cE rfl .tt .r rfl (by have:=Zn q x k;simp;omega) λv53 a w U=>?_;rw[bV,acp ae ah,abl ae ah] at U;refine aY λI a w U=>?_;exact U.ag (k+1,v53) (ae)
 refine zt ?_;refine U.m λU=>U.o (lC 3 du .tt rfl) λU=>?_;refine jf λI a w U=>?_;refine U.cd (λaj=>?_) λaj=>?_
 .rw[Ow,decide_eq_true_eq] at aj;refine aN λI a w U=>?_;obtain⟨I,U⟩:=U.fr 3 7;refine aH λI a w U=>?_;try have acS:=U.dZ 3 rfl
  refine ax λI a w U=>?_;obtain⟨I,U⟩:=U.fu 0 11 1;refine aB λI a w U=>?_;refine U.bJ () [] rfl (.cons (.sx 2) .nil) trivial rfl ?_;exact(by rw[RU (k:=k) om,if_pos aj];rfl)
 rw[Ow,decide_eq_false_iff_not] at aj;refine wp_skip<|bk<|wp_seq ?_;obtain⟨I,U⟩:=U.fr 3 7;refine aH λI a w U=>?_;try have acS:=U.dZ 3 rfl
 refine ax λI a w U=>?_;obtain⟨I,U⟩:=U.fu 0 11 1;refine aB λI a w U=>?_;refine U.bJ () [] rfl (.cons (.sx 2) .nil) trivial rfl ?_;exact(by rw[RU (k:=k) om,if_neg aj];rfl)
def acT (s:Server) (m:az) (hg:bH s) (ho:(aS m.aU 10 11&&decide (1<=m.call)&&gf s m.key)=true):
 Fn prog 242 [s.av,m.av] (AV.db [((s,iV s m)).1.av,cQ ((s,iV s m)).2]):=by
 refine Fn.go 55 func242 ntmps242 (λW I a U=>?_);have al:=jx.2 hg;have cV:=hg.ok;have gj:=hg.small;have rH:∀v∈s.an,v.aR.length<=1048576:=gj.2.1.2;refine aH λI a w U=>?_;refine U.alloc rfl cq dz λb4 I a w U=>?_;refine fo λI a w U=>?_;refine U.o (.bd dN (.k (.k (.k (.t aW.nil))))) λU=>?_;refine U.alloc rfl dj dN λb6 I a w U=>?_;refine bO λI a w U=>?_;refine U.o (.cl (Sq s.an m.key rH)) λU=>?_;refine aV λI a w U=>?_;refine U.alloc rfl bU dR λb7 I a w U=>?_;refine bz λI a w U=>?_;refine U.o (.c1 (wA ..)) λU=>?_;refine ax λI a w U=>?_;refine U.cd (λae=>?_) λae=>?_
 .replace ae:=nt ae;refine dI λI a w U=>?_;refine U.o (.bd fh (.k (.t aW.nil))) λU=>?_;refine U.o (.cl (qV s.an ⟨m.key,m.ar⟩)) λU=>?_;refine aN λI a w U=>?_;refine U.cd (λah=>?_) λah=>?_
  .refine aN λI a w U=>?_;refine U.ret rfl (.cons (.sx 0) (.cons (.nil (sz:=15) rfl) ba.nil)) ?_;exact(by show AV.db [s.av,_]=AV.db [s.av,cQ (iV s m)];unfold iV;rw[ho,if_pos rfl];rw[ae,if_neg bt,show iI s.an ⟨m.key,m.ar⟩=none from by unfold iI;rw[if_neg (by simpa using ah)]];rfl)
  refine aV λI a w U=>?_;refine U.o ((by first|exact dW ea bU .tt .tt (λ_=>by have:=BI ah;omega)|exact fe ea bU .tt .tt (λ_=>by have:=BI ah;omega)|exact fm ea bU .tt .tt (λ_=>by have:=BI ah;omega))) λU=>?_;refine aY λI a w U=>?_;refine U.cd (λaj=>?_) λaj=>?_
  .refine U.dh (([2],none)::rp 2 [([1],some (1,[])),([],none),([1],some (1,[]))]) aG aG rfl ?_;refine .r [2] (.ls 2) ?_;refine .o (.li [_] ju (.u .nil)) ?_;refine aX ?_;refine aK.cX (x:=AV.any) 1 (λF W0 I0 I a w Q U kk=>U.s1 1 λU=>kk _ _ _ U) ?_;refine aX ?_;refine aK.cX (x:=AV.any) 1 (λF W0 I0 I a w Q U kk=>U.s1 1 λU=>kk _ _ _ U) ?_;refine .nil ?_;intro I a w U;refine zt ?_;refine U.dt 5 ?_;simp only[TD];refine dM ?_;refine .o (cr (tP s m ⟨4,0,0,m.call,m.key,m.ar,0,true,[],0,0,[ab s.an (placeOf s.an ⟨m.key,m.ar⟩).toNat],[],[]⟩ (R5 (s:=s) (rH _ (bB (by have:=BI ah;omega))))) (ai (.t rfl) (ai (.t rfl) (ai (.t rfl) aC)))) ?_;refine .nil ?_;intro I a w U;refine aB λI a w U=>?_;refine U.ret rfl (.cons (.sx 0) (.cons .x ba.nil)) ?_;exact(by show AV.db [s.av,_]=AV.db [s.av,cQ (iV s m)];unfold iV;rw[ho,if_pos rfl];rw[ae,if_neg bt,(BI ah).2.2];rfl)
  cases aj;skip
 replace ae:=nf ae;refine ax λI a w U=>?_;refine U.cd (λaJ=>?_) λaJ=>?_
 .refine U.dh (([2],none)::rp 2 [([1],some (1,[])),([],none),([1],some (1,[]))]) aG aG rfl ?_;refine .r [2] (.ls 2) ?_;refine .o (.li [_] ju (.u .nil)) ?_;refine aX ?_;refine aK.cX (x:=AV.any) 1 (λF W0 I0 I a w Q U kk=>U.s1 1 λU=>kk _ _ _ U) ?_;refine aX ?_;refine aK.cX (x:=AV.any) 1 (λF W0 I0 I a w Q U kk=>U.s1 1 λU=>kk _ _ _ U) ?_;refine .nil ?_;intro I a w U;refine zt ?_;refine U.dt 5 ?_;simp only[TD];refine dM ?_;refine .o (cr (tP s m ⟨4,0,0,m.call,m.key,m.ar,0,true,[],0,0,[(fq s.an m.key).getD default],[],[]⟩ (R5 (s:=s) (by obtain⟨v,hv⟩:=Option.isSome_iff_exists.1 aJ;rw[hv];exact rH _ (A3 hv).1))) (ai (.t rfl) (ai (.t rfl) (ai (.t rfl) aC)))) ?_;refine .nil ?_;intro I a w U;refine aB λI a w U=>?_;refine U.ret rfl (.cons (.sx 0) (.cons .x ba.nil)) ?_;exact(by show AV.db [s.av,_]=AV.db [s.av,cQ (iV s m)];unfold iV;rw[ho,if_pos rfl];rw[ae,if_pos rfl];obtain⟨v,hv⟩:=Option.isSome_iff_exists.1 aJ;unfold mM;rw[hv];rfl)
 refine zt ?_;refine U.dt 5 ?_;simp only[TD];refine dM ?_;refine .o (.c3 (tP s m ⟨4,0,0,m.call,m.key,m.ar,0,false,[],0,0,[],[],[]⟩ (wR ..)))<|.nil ?_;intro I a w U;refine aB λI a w U=>?_;refine U.ret rfl (.cons (.sx 0) (.cons .x ba.nil)) ?_;exact(by show AV.db [s.av,_]=AV.db [s.av,cQ (iV s m)];unfold iV;rw[ho,if_pos rfl];rw[ae,if_pos rfl];unfold mM;rw[show fq s.an m.key=none from A5 (by rw[aJ];rfl)];rfl)
def acU {s:Server} {m:az} (hm:bM m=true) (h1:(m.kind==1&&fC (m.aU-10)&&decide (0<m.call)&&gf s m.key)=false) (h2:(m.kind==3&&fC (m.aU-10)&&decide (0<m.call)&&gf s m.key)=false)
 (h3:(m.kind==5&&(cO m.aU&&(bP m.aU !=bP s.site)))=false) (h4:(m.kind==6&&(cO m.aU&&(bP m.aU !=bP s.site))&&gf s m.key)=false) (h5:(m.kind==7&&(m.aU==fj s.site)&&decide (0<=placeOf s.an ⟨m.key,m.ar⟩))=false)
 (h6:(m.kind==8&&(m.aU==fj s.site)&&iT s ⟨m.key,m.ar⟩&&decide ((s.bj.length:Int)<80))=false) (h7:(m.kind==9&&(m.aU==fj s.site)&&decide (0<m.bf))=false)
 (h8:(m.kind==10&&(m.aU==fj s.site)&&([(ab s.aF m.slot.toNat).bf,(ab s.aF m.slot.toNat).dy]==[m.bf,2]))=false):eH s m=(s,[]):=by
 rw[Bool.and_assoc] at h4 h5 h7 h8;rw[Bool.and_assoc,Bool.and_assoc] at h6;unfold eH;by_cases k1:m.kind=1
 .rw[if_pos k1];unfold im;rw[R8 h1 k1];rfl
 rw[if_neg k1];by_cases k3:m.kind=3
 .rw[if_pos k3];unfold iV;rw[R8 h2 k3];rfl
 rw[if_neg k3];by_cases k5:m.kind=5
 .rw[if_pos k5];unfold iq uR;rw[yT h3 k5];rfl
 rw[if_neg k5];by_cases k6:m.kind=6
 .have h:=yT h4 k6;rw[if_pos k6];unfold l8;rw[if_neg];intro e;unfold gf at h;rw[Ot hm,Bool.true_and] at h;simp only[Bool.and_eq_true] at e;rw[e.1.1.1,e.1.1.2,e.2] at h;cases h
 rw[if_neg k6];by_cases k7:m.kind=7
 .have h:=yT h5 k7;rw[if_pos k7];unfold nz iI;rw[if_neg];intro e;rw[Bool.and_eq_true] at e;split at e
  .rename_i hp;rw[e.2,decide_eq_true hp] at h;cases h
  cases e.1
 rw[if_neg k7];by_cases k8:m.kind=8
 .have h:=yT h6 k8;rw[if_pos k8];unfold mW;rw[if_neg];intro e;simp only[Bool.and_eq_true,decide_eq_true_eq] at e;rw[e.1.1,e.1.2,decide_eq_true om] at h;cases h
 rw[if_neg k8];by_cases k9:m.kind=9
 .have h:=yT h7 k9;rw[if_pos k9];unfold ir;rw[if_neg];intro e;simp only[Bool.and_eq_true,decide_eq_true_eq] at e;rw[e.1,decide_eq_true om] at h;cases h
 rw[if_neg k9];by_cases kV:m.kind=10
 .have h:=yT h8 kV;rw[if_pos kV];unfold mX;rw[if_neg];intro e;simp only[Bool.and_eq_true,beq_iff_eq] at e;rw[e.1.2,e.2,e.1.1] at h;simp at h
 rw[if_neg kV]
def Reach.bD {w:aI} (h:Reach w):cy w:=by
 induction h with
 |start=>exact(jy.1 xd).1
 |step _ al ih=>exact Sw ih _ al
def cP.au {n:Nat} {s:dC} (h:cP n s):s.w.au.length<=60:=h.reach.bD.au
def acV {au more:List az} {m:az} (h:m∈eB au more):m∈au\/m∈more:=by
 unfold eB at h;rcases List.mem_append.1 h with h|h
 .exact .inl h
 exact .inr (List.mem_of_mem_take h)
def acD (s:Server) (m:az) (hg:bH s) (hm:bM m=true) (ho:(aS m.aU 10 11&&decide (1<=m.call)&&gf s m.key)=true):
 Fn prog 241 [s.av,m.av] (AV.db [(im s m).1.av,cQ (im s m).2]):=by
 refine Fn.go 150 func241 ntmps241 (λW I a U=>?_);have U:=U.fV (sz:=2) 50;have al:=jx.2 hg;have cV:=hg.ok;have gj:=hg.small;have kU:=nx hm;have ss:=eL kU.2.2.2;have lens:m.aR.length<=9223372036854775807/\m.an.length<=9223372036854775807/\m.waits.length<=9223372036854775807/\m.aD.length<=9223372036854775807:=⟨U.ln 1 9,U.ln 1 12,U.ln 1 13,U.ln 1 14⟩;have hf9:=uX hm;have amx:=gj.2.1.1;have jP:=iR hg.aD;refine aH λI a w U=>?_;refine U.alloc rfl cq dz λb4 I a w U=>?_;refine wj λI a w U=>?_;refine U.o (.bd dN (.k (.k (.k aW.nil)))) λU=>?_;refine U.alloc rfl dj dN λb7 I a w U=>?_;refine ct λI a w U=>?_;refine St.lo (σ:=Nat) (5::(9::(run 37 31 []))) ⟨λk=>[(31,AV.int k)],λk=>[Own.row (.slice none 0 0) 50 2 (([]).map cw.cells),Own.box b4 43 [AV.val (.int .i64 0),AV.val (.bool false),AV.rows 2 [],AV.rows 7 [],AV.rows 7 [],AV.rows 3 [],AV.rows 3 []],Own.box b7 84 [AV.int 2,AV.int 0,AV.int 0,AV.int m.call,AV.int m.key,AV.int 0,AV.int 0,AV.int 0,AV.bool false,bw [],AV.int 0,AV.int 0,bQ [],bQ [],bw []]],λk=>k<=s.an.length/\∀i,i<k->oZ s m.key (m.aU-10) m.call (ab s.an i)=false⟩ (λk=>s.an.length-k) 0 U ?aL ?bG;case aL=>exact⟨Nat.zero_le _,λi hi=>by omega⟩
 rintro k I a w al U;obtain⟨hk,aT⟩:=al;refine ax λI a w U=>?_;refine cz (λae=>?_) λae=>?_
 .refine aH λI a w U=>?_;refine U.alloc rfl bU dR λb9 I a w U=>?_;refine ax λI a w U=>?_;obtain⟨I,U⟩:=U.fb 3 9;refine NO λI a w U=>?_;refine U.q .T (.cl (Hx s (ab s.an k))) λU=>?_;refine aB λI a w U=>?_;refine U.cd (λah=>?_) λah=>?_
  .rw[R6] at ah;refine aV λI a w U=>?_;refine U.pB 2 jF .tt .tt rfl rfl rfl λa w U=>?_;refine zt ?_;refine U.dt 5 ?_;simp only[TD];refine dM ?_;refine .o (.c3 (tP s m ⟨2,0,0,m.call,m.key,(ab s.an k).ar,0,false,[],0,0,[],[],[]⟩ (wR ..)))<|.nil ?_;intro I a w U;refine aB λI a w U=>?_;refine U.ret rfl (.cons (.sx 1) (.cons .x ba.nil)) ?_;exact(by rw[R0 ho (by rw[R7 ae aT ah];rfl),R7 ae aT ah];rfl)
  rw[R6] at ah;refine aB λI a w U=>?_;have U:=U.drop 3;exact U.ag (k+1) (⟨by omega,λi h1=>by rcases Nat.lt_succ_iff_lt_or_eq.1 h1 with h|h;exact aT i h;rw[h];exact ah⟩)
 refine zt ?_;refine ct λI a w U=>?_;refine St.lo (σ:=Nat×Value) (10::(12::(run 10 71 []))) ⟨λ⟨k,v⟩=>[(71,AV.int k),(10,AV.val v)],λ⟨k,v⟩=>[Own.row v 50 2 (((m.aR.take k).map ao.ar).map cw.cells),Own.box b4 43 [AV.val (.int .i64 0),AV.val (.bool false),AV.rows 2 [],AV.rows 7 [],AV.rows 7 [],AV.rows 3 [],AV.rows 3 []],Own.box b7 84 [AV.int 2,AV.int 0,AV.int 0,AV.int m.call,AV.int m.key,AV.int 0,AV.int 0,AV.int 0,AV.bool false,bw [],AV.int 0,AV.int 0,bQ [],bQ [],bw []]],λ⟨k,v⟩=>k<=m.aR.length⟩ (λ⟨k,v⟩=>m.aR.length-k) (0,.slice none 0 0) U ?ei ?jK;case ei=>exact Nat.zero_le _
 rintro⟨k,v⟩ I a w al U;have hk:k<=m.aR.length:=al;dsimp only at U;refine ax λI a w U=>?_;refine cz (λaj=>?_) λaj=>?_
 .refine aH λI a w U=>?_;refine U.alloc rfl cE fh λw9 I a w U=>?_;refine ax λI a w U=>?_;obtain⟨I,U⟩:=U.fb 3 12;refine aV λI a w U=>?_;refine U.o (.li [(ab m.aR k).ar.cells] Dj (.u .nil)) λU=>?_;refine U.ap 0 λv79 a w U=>?_;refine aN λI a w U=>?_;have U:=U.drop 3;rw[bV,show(m.aR.take k).map ao.ar++[(ab m.aR k).ar]=(m.aR.take (k+1)).map ao.ar from by rw[ez aj,List.map_append];rfl] at U;exact U.ag (k+1,v79) (aj)
 refine wp_exit<|cM<|cM<|fI<|bk ?_;refine St.cut (σ:=Value) (10::(run 2 13 (run 14 81 []))) ⟨λv=>[(10,AV.val v)],λv=>[Own.row v 50 2 ((jR s m).map cw.cells),Own.box b4 43 [AV.val (.int .i64 0),AV.val (.bool false),AV.rows 2 [],AV.rows 7 [],AV.rows 7 [],AV.rows 3 [],AV.rows 3 []],Own.box b7 84 [AV.int 2,AV.int 0,AV.int 0,AV.int m.call,AV.int m.key,AV.int 0,AV.int 0,AV.int 0,AV.bool false,bw [],AV.int 0,AV.int 0,bQ [],bQ [],bw []],Own.gone],λv=>True⟩ U ?acG ?amy;case acG=>
  refine bz λI a w U=>?_;refine U.o (.cl (Sq s.an m.key gj.2.1.2)) λU=>?_;refine aV λI a w U=>?_;refine U.alloc rfl bU dR λEz I a w U=>?_;refine U.sb 3 λU=>?_;obtain⟨I,U⟩:=U.fb 3 13;refine aB λI a w U=>?_;refine U.cd (λaJ=>?_) λaJ=>?_
  .refine aV λI a w U=>?_;refine U.o (.li [((fq s.an m.key).getD default).ar.cells] Dj (.u .nil)) λU=>?_;refine U.ap 0 λv94 a w U=>?_;refine ax λI a w U=>?_;first|rw[bV,show m.aR.take k=m.aR from List.take_of_length_le om,DF aJ] at U|rw[show m.aR.take k=m.aR from List.take_of_length_le om,DG aJ] at U
   exact U.me v94 fU
  refine zt ?_;first|rw[bV,show m.aR.take k=m.aR from List.take_of_length_le om,DF aJ] at U|rw[show m.aR.take k=m.aR from List.take_of_length_le om,DG aJ] at U
  exact U.me v fU
 rintro v I a w al U;refine aV λI a w U=>?_;obtain⟨I,U⟩:=U.fr 0 98;refine U.o (.cl (aaE s.site (jR s m) hg.site (Iw hg hm))) λU=>?_;refine aV λI a w U=>?_;refine U.alloc rfl jF ic λIG I a w U=>?_;refine U.sb 4 λU=>?_;obtain⟨I,U⟩:=U.fb 4 15;refine yt λI a w U=>?_;refine U.o (.bd dR (.k (.t (.k (.k (.k (.k aW.nil))))))) λU=>?_;refine U.alloc rfl bU dR λb17 I a w U=>?_;refine ax λI a w U=>?_;obtain⟨I,U⟩:=U.fb 5 17;refine rR λI a w U=>?_;refine U.cd (λaP=>?_) λaP=>?_
 .rw[OT jP] at aP;replace aP:=nt aP;refine aN λI a w U=>?_;refine U.ret rfl (.cons (.sx 1) (.cons (.nil (sz:=15) rfl) ba.nil)) ?_;exact(by rw[Jd ho (Je om aT) (by rw[Bool.and_right_comm,aP];rfl)];rfl)
 rw[OT jP] at aP;replace aP:=nf aP;refine aV λI a w U=>?_;refine U.o (.cl (Rc s.an (fk s m) cV.an)) λU=>?_;refine jf λI a w U=>?_;refine U.cd (λbn=>?_) λbn=>?_
 .replace bn:=nt bn;refine aN λI a w U=>?_;refine U.ret rfl (.cons (.sx 1) (.cons (.nil (sz:=15) rfl) ba.nil)) ?_;exact(by rw[Jd ho (Je om aT) (by rw[bn];simp)];rfl)
 replace bn:=nf bn;have pE:=Zf aP bn;rw[if_pos bn] at U;refine bA λI a w U=>?_;refine U.o (.c1 (tN s gj)) λU=>U.alloc rfl cq dz λb19 I a w U=>?_;refine aV λI a w U=>?_;refine U.s1 6 λU=>?_;refine zt ?_;refine U.dt 6 ?_;simp only[TD];refine dJ ?_;refine .o (.c1 (nq (fk s m))) ?_;refine .o (cr (Ix s.aD (fk s m).bh (by have:=iR hg.aD;omega)) (ai .r (ai (.t rfl) aC))) ?_;refine aX ?_;refine .nil ?_;intro I a w U;refine U.s1 6 λU=>?_;refine aH λI a w U=>?_;refine U.pB 2 jF .tt .tt rfl rfl rfl λa w U=>?_;refine zt ?_;refine U.dt 6 ?_;simp only[TD];refine aX ?_;refine .o (cr (zE {s with an:=eE s.an (fk s m),aD:=eF s.aD (fk s m).bh} (IZ hg hm (by simp only[Bool.and_eq_true] at ho;exact ho.2) pE).ok (iR (IZ hg hm (by simp only[Bool.and_eq_true] at ho;exact ho.2) pE).aD)) (ai (.t rfl) aC)) ?_;refine dJ ?_;refine .o (.c3 (tP s m ⟨2,0,0,m.call,m.key,(fk s m).ar,0,false,[],0,0,[],[],[]⟩ (wR ..)))<|.nil ?_;intro I a w U;refine aB λI a w U=>?_;refine U.ret rfl (.cons (.sx 1) (.cons .x ba.nil)) ?_;exact(by rw[R1 ho (Je om aT) pE];rfl)
end Go.Proofs.YtdanidpleofjgaaGreat

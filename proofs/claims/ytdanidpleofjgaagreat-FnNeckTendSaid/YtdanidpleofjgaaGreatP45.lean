/- Part 45: contracts of functions, plain facts. -/
import Derived.Test.YtdanidpleofjgaaGreatP40
import Derived.Test.YtdanidpleofjgaaGreatP42
set_option linter.all false
set_option maxRecDepth 100000
set_option maxHeartbeats 4000000
namespace Go.Proofs.YtdanidpleofjgaaGreat
open Go Go.RowKit Tryz
attribute [local irreducible] wpList Code.wp Ok
def afo (x:aI) (e:Ev) (hg:cy x) (ht:x.time<=1000000):
 Fn prog 86 [x.av,e.av] (AV.db [(iC x e).1.av,AV.bool (iC x e).2]):=by
 refine Fn.go 53 func86 ntmps86 (λW I a U=>?_);have nF:=hg.lens;have jn:=hg.au;refine sr<|U.box rfl .tt λb2 I a w U=>U.o .bp λU=>U.alloc rfl dx dB λb4 I a w U=>?_;refine bO λI a w U=>?_;refine U.o (.cl (Dx x.calls e.aq)) λU=>?_;refine ct λI a w U=>?_;refine cz (λae=>?_) λae=>?_
 .refine aH λI a w U=>?_;refine U.o (.c2 (aeY x e hg ht)) λU=>?_;refine aY λI a w U=>?_;refine U.ret rfl (.cons (.sx 1) (.cons (.t rfl) ba.nil)) ?_;exact(by rw[ab5 ae];rfl)
 refine aN λI a w U=>?_;refine cz (λah=>?_) λah=>?_
 .refine aN λI a w U=>?_;refine U.ret rfl (.cons (.sx 1) (.cons (.t rfl) ba.nil)) ?_;exact(by rw[acB ae ah];rfl)
 have hni:=(qS ah).1;refine aY λI a w U=>?_;refine cz (λaj=>?_) λaj=>?_
 .refine zt ?_;refine U.l0 λb29 I a w U=>?_;refine aH λI a w U=>?_;refine U.ap 2 λv32 a w U=>?_;simp only[List.nil_append] at U;refine U.o .fv λU=>?_;try have anN:=U.dZ 2 rfl
  refine ax λI a w U=>?_;obtain⟨Cf,Cg,rz⟩:=U.ia 2 rfl pt;subst rz;refine aV λI a w U=>?_;refine U.o (gq kj eR .tt .tt (λ_=>by simp only[List.length_map];omega)) λU=>?_;refine U.o .fv λU=>?_;refine U.vU (j:=8) 2 AS .tt .c (by first|exact gn rfl|exact en|exact gC|exact gE|assumption) rfl (by exact ey om) rfl rfl λa w U=>?_;refine nn<|wp_seq ?_;have e9:∀y,y=Call.cells ({ab x.calls (cA x.calls e.aq).toNat with over:=true})->(List.map Call.cells x.calls).set (cA x.calls e.aq).toNat y=List.map Call.cells (x.calls.set (cA x.calls e.aq).toNat ({ab x.calls (cA x.calls e.aq).toNat with over:=true})):=λy hy=>by rw[hy,List.map_set]
  rw[e9] at U;rotate_left
  .rfl
  obtain⟨I,U⟩:=U.fu 2 3 0;refine aN λI a w U=>?_;refine U.ret rfl (.cons (.sx 1) (.cons (.t rfl) ba.nil)) ?_;exact(by rw[abw ae ah aj];rfl)
 refine zt ?_;have U:=U.gF;refine U.dh (rp 2 (([0],none)::([2],some (2,[43]))::([],none)::([0],none)::rp 4 [([2],some (2,[])),([],none),([0],some (0,[]))])) aG aG rfl ?_;refine .o (tb fi dj) ?_;refine aX ?_;refine .r [0] (.lb 0) ?_;refine aK.AF 2 rfl rfl fi dj rfl .tt .r fT ?_;refine aX ?_;refine .r [0] (.lb 0) ?_;refine dJ ?_;refine .o (.c1 (aez _ x.time (hg.call (qS ah).1) ht)) ?_;refine aK.eJ (d':=43) (xs:=λv=>[AV.val v,cQ (jH (ab x.calls (cA x.calls e.aq).toNat))]) 2 rfl rfl (λv=>Et v x.au (jH (ab x.calls (cA x.calls e.aq).toNat)) hg.au) (λI a he hg=>V5 rfl ((ai .r aC) I a he hg)) ?_;refine aX ?_;refine aK.cX (x:=AV.any) 0 (λF W0 I0 I a w Q U kk=>U.s1 0 λU=>kk _ _ _ U) ?_;refine .nil ?_;intro I a w U;refine aN λI a w U=>?_;refine U.ret rfl (.cons (.sx 1) (.cons (.t rfl) ba.nil)) ?_;exact(by rw[abT ae ah aj];rfl)
def Ko (m:az) (h1:je m.aU) (h2:je m.to):
 Fn prog 59 [m.av] (AV.bool (bM m)):=by
 refine Fn.go 66 func59 ntmps59 (λW I a U=>?_);refine bz λI a w U=>?_;refine U.o (.cl (iS ..)) λU=>?_;refine aV λI a w U=>?_;refine U.q .T (.cl (Tp _ h1)) λU=>?_;refine bz λI a w U=>?_;refine U.q .T (.cl (Tp _ h2)) λU=>?_;refine bz λI a w U=>?_;refine U.q .T (.cl (iS ..)) λU=>?_;refine bz λI a w U=>?_;refine U.q .T (.cl (A6 ..)) λU=>?_;refine bz λI a w U=>?_;refine U.q .T (.cl (P0 ..)) λU=>?_;refine bz λI a w U=>?_;refine U.q .T (.cl (iS ..)) λU=>?_;refine bz λI a w U=>?_;refine U.q .T (.cl (A9 ..)) λU=>?_;refine bz λI a w U=>?_;refine U.q .T (.cl (iS ..)) λU=>?_;refine bz λI a w U=>?_;refine U.q .T (.cl (iS ..)) λU=>?_;refine bz λI a w U=>?_;refine U.q .T (.cl (Bv ..)) λU=>?_;refine bz λI a w U=>?_;refine U.q .T (.cl (Bv ..)) λU=>?_;refine bz λI a w U=>?_;refine U.q .T (.cl (H5 ..)) λU=>?_;refine di ?_;rfl
def ae0 (s:Server) (m:az) (hg:bH s):
 Fn prog 141 [s.av,m.av] (AV.db [(fH s m).1.av,cQ (fH s m).2]):=by
 refine Fn.go 118 func141 ntmps141 (λW I a U=>?_);have al:=jx.2 hg;have cV:=hg.ok;refine aH λI a w U=>?_;refine U.alloc rfl cq dz λb4 I a w U=>?_;refine ax λI a w U=>?_;refine U.l0 λmc I a w U=>?_;obtain⟨I,U⟩:=U.fr 1 11;refine aH λI a w U=>?_;refine U.o (.c1 (vj ..)) λU=>?_;refine ax λI a w U=>?_;refine U.cd (λae=>?_) λae=>?_
 .exfalso;rw[al] at ae;cases ae;skip
 refine bA λI a w U=>?_;refine U.o (.c1 (zA s hg.small)) λU=>U.alloc rfl cq dz λb7 I a w U=>?_;refine dI λI a w U=>?_;refine U.q .F (.cl (I6 ..)) λU=>?_;refine mA λI a w U=>?_;refine U.cd (λah=>?_) λah=>?_
 .rw[DN] at ah;replace ah:=nt ah;refine aY λI a w U=>?_;refine U.ret rfl (.cons (.sx 0) (.cons .x ba.nil)) ?_;exact(by unfold fH;rw[ah];rfl)
 rw[DN] at ah;replace ah:=nf ah;have hm:=(Hj ah).2;refine aH λI a w U=>?_;refine nn ?_;refine St.cut (σ:=Server×List az) (run 3 8 (run 77 37 [])) ⟨λ⟨u,ws⟩=>[(8,cQ ws)],λ⟨u,ws⟩=>[Own.box b4 43 [AV.val (.int .i64 0),AV.val (.bool false),AV.rows 2 [],AV.rows 7 [],AV.rows 7 [],AV.rows 3 [],AV.rows 3 []],Own.gone,Own.box b7 43 u.cells],λ⟨u,ws⟩=>eH s m=(u,ws)⟩ U ?Kp ?ae1;case Kp=>
  refine aY λI a w U=>?_;refine cz (λaj=>?_) λaj=>?_
  .refine aH λI a w U=>?_;refine U.o (.c2 (aen s m hg hm)) λU=>?_;refine ct λI a w U=>?_;have U:=U.drop 3;exact U.me ((im s m).1,(im s m).2) (by first|exact qY aj|exact qZ aJ|exact ra aP|exact rb bn|exact sF bl cm cV.an|exact sC bl cm cV.an|exact rf c8|exact rh gm|exact ri ja|exact sD aj aJ aP bn bl c8 gm ja)
  refine aB λI a w U=>?_;refine cz (λaJ=>?_) λaJ=>?_
  .refine aH λI a w U=>?_;refine U.o (.c2 (aet s m al)) λU=>?_;refine ax λI a w U=>?_;have U:=U.drop 3;exact U.me (s,iV s m) (by first|exact qY aj|exact qZ aJ|exact ra aP|exact rb bn|exact sF bl cm cV.an|exact sC bl cm cV.an|exact rf c8|exact rh gm|exact ri ja|exact sD aj aJ aP bn bl c8 gm ja)
  refine aB λI a w U=>?_;refine cz (λaP=>?_) λaP=>?_
  .refine aH λI a w U=>?_;refine U.o (.c2 (aem s m hg hm)) λU=>?_;refine ct λI a w U=>?_;have U:=U.drop 3;exact U.me ((iq s m).1,(iq s m).2) (by first|exact qY aj|exact qZ aJ|exact ra aP|exact rb bn|exact sF bl cm cV.an|exact sC bl cm cV.an|exact rf c8|exact rh gm|exact ri ja|exact sD aj aJ aP bn bl c8 gm ja)
  refine aB λI a w U=>?_;refine cz (λbn=>?_) λbn=>?_
  .refine aH λI a w U=>?_;refine U.o (.c2 (aey s m cV (iR hg.aD) hm)) λU=>?_;refine ax λI a w U=>?_;have U:=U.drop 3;exact U.me (l8 s m,[]) (by first|exact qY aj|exact qZ aJ|exact ra aP|exact rb bn|exact sF bl cm cV.an|exact sC bl cm cV.an|exact rf c8|exact rh gm|exact ri ja|exact sD aj aJ aP bn bl c8 gm ja)
  refine aB λI a w U=>?_;refine cz (λbl=>?_) λbl=>?_
  .refine dI λI a w U=>?_;refine U.o (.cl (sj ..)) λU=>?_;refine aV λI a w U=>?_;refine U.alloc rfl bU dR λb9 I a w U=>?_;refine U.sb 3 λU=>?_;obtain⟨I,U⟩:=U.fb 3 9;refine ax λI a w U=>?_;refine U.dk ?_;refine gZ ?_;refine .q .T (.cl (yL _ hg.site)) ?_;refine cj ?_;refine .nil ?_;intro I a w U;refine bk ?_;refine U.cd (λcm=>?_) λcm=>?_
   .refine lI λI a w U=>?_;refine U.o (.bd dN (.k (.k (.k (.k (.t aW.nil)))))) λU=>?_;refine U.o (.li [(mN s m).cells] gw (.u .nil)) λU=>?_;refine ax λI a w U=>?_;have U:=U.drop 3;exact U.me (s,[mN s m]) (by first|exact qY aj|exact qZ aJ|exact ra aP|exact rb bn|exact sF bl cm cV.an|exact sC bl cm cV.an|exact rf c8|exact rh gm|exact ri ja|exact sD aj aJ aP bn bl c8 gm ja)
   refine zt ?_;have U:=U.drop 3;exact U.me (s,[]) (by first|exact qY aj|exact qZ aJ|exact ra aP|exact rb bn|exact sF bl cm cV.an|exact sC bl cm cV.an|exact rf c8|exact rh gm|exact ri ja|exact sD aj aJ aP bn bl c8 gm ja)
  refine aB λI a w U=>?_;refine cz (λc8=>?_) λc8=>?_
  .refine aH λI a w U=>?_;refine U.o (.c2 (aeW s m cV hg.site)) λU=>?_;refine ax λI a w U=>?_;have U:=U.drop 3;exact U.me (mW s m,[]) (by first|exact qY aj|exact qZ aJ|exact ra aP|exact rb bn|exact sF bl cm cV.an|exact sC bl cm cV.an|exact rf c8|exact rh gm|exact ri ja|exact sD aj aJ aP bn bl c8 gm ja)
  refine aB λI a w U=>?_;refine cz (λgm=>?_) λgm=>?_
  .refine aH λI a w U=>?_;refine U.o (.c2 (aeD s m hg hm)) λU=>?_;refine ct λI a w U=>?_;have U:=U.drop 3;exact U.me ((ir s m).1,(ir s m).2) (by first|exact qY aj|exact qZ aJ|exact ra aP|exact rb bn|exact sF bl cm cV.an|exact sC bl cm cV.an|exact rf c8|exact rh gm|exact ri ja|exact sD aj aJ aP bn bl c8 gm ja)
  refine aB λI a w U=>?_;refine cz (λja=>?_) λja=>?_
  .refine aH λI a w U=>?_;refine U.o (.c2 (aer s m cV hg.site (iR hg.aD) hm)) λU=>?_;refine ax λI a w U=>?_;have U:=U.drop 3;exact U.me (mX s m,[]) (by first|exact qY aj|exact qZ aJ|exact ra aP|exact rb bn|exact sF bl cm cV.an|exact sC bl cm cV.an|exact rf c8|exact rh gm|exact ri ja|exact sD aj aJ aP bn bl c8 gm ja)
  refine zt ?_;have U:=U.drop 3;exact U.me (s,[]) (by first|exact qY aj|exact qZ aJ|exact ra aP|exact rb bn|exact sF bl cm cV.an|exact sC bl cm cV.an|exact rf c8|exact rh gm|exact ri ja|exact sD aj aJ aP bn bl c8 gm ja)
 rintro⟨u,ws⟩ I a w al U;have hu:bH u:=by have:=Ja hg hm (Hj ah).1;rw[al] at this;exact this
 have hw:∀y∈ws,bM y=true:=by have:=Jl hg hm;rw[al] at this;exact this
 refine bA λI a w U=>?_;refine U.o (.c1 (zA u hu.small)) λU=>U.m λU=>?_;refine U.o (cr (H8 ws (by have:=Sj s m;rw[al] at this;have:ws.length<=1:=this;omega) (λy hy=>w3 (hw y hy))) (ai .r aC)) λU=>?_;refine aB λI a w U=>?_;refine U.ret rfl (.cons (.sx 0) (.cons .x ba.nil)) ?_;exact(by unfold fH;rw[ah,if_pos rfl,al];rfl)
def Ts (q:Call) (h:yX q):
 bT prog 103 [q.av] [] (λ_:Value×Value=>True) (λu=>[Own.row u.1 128 9 (q.aA.map Answer.cells),Own.row u.2 115 3 (q.aO.map ao.cells)]) (λu=>q.yG u.1 u.2):=by
 refine bT.intro 40 func103 rfl ntmps103 rfl aG (λW I a U=>?_);obtain⟨h1,h2,h4,h5,h3⟩:=h;have U:=U.fV (sz:=9) 128;refine sr<|U.box rfl .tt λb1 I a w U=>U.alloc rfl eR j2 λb2 I a w U=>?_;refine zt ?_;refine U.da 10 ?_;simp only[TD];refine cj ?_;refine .o (AE cH cx rfl Xt .r (λ_=>by simp;omega)) ?_;refine cj ?_;refine .o (.cl (tJ q.ctx h2)) ?_;refine cj ?_;refine gv.lZ (DX q.aO h3) (ai .r aC) ?_;refine aX ?_;refine .nil ?_;intro I a w U;obtain⟨lQ,U⟩:=U.C9 (d:=14);refine bz λI a w U=>?_;try have Sk:=U.dZ 3 rfl
 refine gY λI a w U=>?_;refine St.lo (σ:=Nat×Value) (3::(5::(run 16 21 []))) ⟨λ⟨k,v⟩=>[(21,AV.int k),(3,AV.val v)],λ⟨k,v⟩=>[Own.row v 128 9 ((q.aA.take k).map Answer.cells),Own.box b1 53 [AV.int q.aq,AV.int q.num,AV.int q.kind,iz q.keys,AV.int q.val,bw q.ctx,AV.int q.bE,AV.int q.end_,AV.bool q.over,AV.int q.ar.time,AV.int q.ar.site,oN q.aA,AV.val lQ],Own.box b2 53 [AV.val (.int .i64 0),AV.val (.int .i64 0),AV.val (.int .i64 0),AV.rows 1 [],AV.val (.int .i64 0),AV.rows 3 [],AV.val (.int .i64 0),AV.val (.int .i64 0),AV.val (.bool false),AV.val (.int .i64 0),AV.val (.int .i64 0),AV.rows 9 [],AV.rows 3 []],Own.row lQ 115 3 (q.aO.map ao.cells)],λ⟨k,v⟩=>k<=q.aA.length⟩ (λ⟨k,v⟩=>q.aA.length-k) (0,.slice none 0 0) U ?aL ?bG;case aL=>exact Nat.zero_le _
 rintro⟨k,v⟩ I a w al U;have hk:k<=q.aA.length:=al;dsimp only at U;refine ax λI a w U=>?_;refine cz (λae=>?_) λae=>?_
 .refine aH λI a w U=>?_;refine U.alloc rfl fF pG λb5 I a w U=>?_;refine ax λI a w U=>?_;obtain⟨I,U⟩:=U.fb 4 5;refine U.dt 10 ?_;simp only[TD];refine kJ ?_;refine .o (.c1 (wP _ (h5 _ (bB ae)))) ?_;refine .o (.bd pG (.k (.k (.t aW.nil)))) ?_;refine .o (.li [(ab q.aA k).cells] uF (.u .nil)) ?_;refine .nil ?_;intro I a w U;refine U.ap 0 λv35 a w U=>?_;rw[bV,<-ez ae] at U;refine aN λI a w U=>?_;have U:=U.drop 4;exact U.ag (k+1,v35) (ae)
 refine wp_exit<|cM<|cM<|fI<|bk<|wp_seq ?_;rw[List.take_of_length_le om] at U;refine aH λI a w U=>?_;try have anv:=U.dZ 0 rfl
 refine aN λI a w U=>?_;exact U.bJ (v,lQ) [0,3] rfl (.cons (.s 2 eR rfl rfl (by first|rfl|assumption)) .nil) trivial rfl rfl
def Tt (q:Call) (h:yX q):Fn prog 103 [q.av] q.av:=(Ts q h).frozen λr c I a w _ U=>by
 obtain⟨I,U⟩:=U.fa 0 0 11;obtain⟨I,U⟩:=U.fa 1 0 12;exact⟨_,_,_,U⟩
def ae3 {q:Call} {k:Nat} (h:k<q.aO.length):sJ q k++[xq (ab q.aO k)]=sJ q (k+1):=by
 unfold sJ;rw[ez h,List.map_append,List.append_assoc];rfl
def Kq {q:Call} {k:Nat} (hk:¬q.kind=1) (h:q.aO.length<=k):sJ q k=asks q:=by
 unfold asks sJ qd;rw[if_neg hk,List.take_length,List.take_of_length_le h];rfl
def Kr {q:Call}:(asks q).length<=q.keys.length+q.aO.length+1:=by
 by_cases hk:q.kind=1
 .unfold asks;rw[if_pos hk];simp
 rw[<-Kq hk (Nat.le_refl _)];have:=Tq q q.aO.length;omega
def ae4 {q:Call} (h:q.ctx.length<=1048576):∀m∈asks q,jU m:=by
 intro m hm;unfold asks at hm;split at hm
 .obtain rfl:=List.mem_singleton.1 hm;exact⟨h,⟨Nat.zero_le _,λ_ h=>by cases h⟩,⟨Nat.zero_le _,λ_ h=>by cases h⟩,Nat.zero_le _⟩
 rcases List.mem_append.1 hm with hm|hm
 .obtain⟨k,_,rfl⟩:=List.mem_map.1 hm;exact Sn k
 obtain⟨d,_,rfl⟩:=List.mem_map.1 hm;exact So d
def Ks (q:Call):∀k,k<=(asks q).length->(pk q k).length=2*k
 |0,_=>by simp[pk]
 |k+1,h=>by
  have ih:=Ks q k om;unfold pk at ih⊢;rw[ez om,List.map_append,List.flatten_append,List.length_append,ih];rfl
def ae5 {q:Call} {k i:Nat} (h:k<(asks q).length) (hi:2<=i):pk q k++(jS q (ab (asks q) k)).take i=pk q (k+1):=by
 unfold pk;rw[List.take_of_length_le (l:=jS _ _) (by simpa[jS] using hi),ez h,List.map_append,List.flatten_append];simp
def Tu {q:Call} {t:Int} (h:dS q t) (ht:0<=t):(!fR q q.bE||!gP q)=!gP q:=by
 cases hw:gP q
 .simp
 have he:=(sa hw).1;have:=Ji (sE.2 h);rw[he,Int.add_zero] at this;rw[this];rfl
def ae6 (q:Call) (t:Int) (h:dS q t) (ht:t<=1000000):
 Fn prog 157 [q.av] (cQ (jH q)):=by
 refine Fn.go 103 func157 ntmps157 (λW I a U=>?_);have U:=U.fV (sz:=15) 84;have U:=U.fV (sz:=15) 84;have hb:=h.bE;have xE:=h.BU om;have nF:=h.lens;have hal:=Kr (q:=q);have aQ:=sd.1 h.aq;refine bO λI a w U=>?_;refine U.o (cr (Jo q q.bE om) (ai (.t rfl) (ai (.t rfl) aC))) λU=>?_;refine aV λI a w U=>?_;refine U.q .F (.cl (Jt ..)) λU=>?_;refine aB λI a w U=>?_;refine U.cd (λae=>?_) λae=>?_
 .rw[Tu h om] at ae;replace ae:=nt ae;refine ax λI a w U=>?_;refine U.ret rfl (.cons (.nil (sz:=15) rfl) ba.nil) ?_;exact(by unfold jH;rw[ae];rfl)
 rw[Tu h om] at ae;replace ae:=nf ae;refine bA λI a w U=>?_;refine nn ?_;refine St.cut (σ:=Value) (3::(5::(7::(run 48 22 [])))) ⟨λv=>[(3,AV.val v)],λv=>[Own.row v 84 15 ((asks q).map az.cells),Own.row (.slice none 0 0) 84 15 ([])],λv=>True⟩ U ?rA ?Ch;case rA=>
  refine aN λI a w U=>?_;refine cz (λah=>?_) λah=>?_
  .refine U.dt 11 ?_;simp only[TD];refine yv ?_;refine .o (.bd dN (.k (.k (.k (.k aW.nil))))) ?_;refine .o (.li [({cn with kind:=1,key:=ab q.keys 0,val:=q.val,aR:=q.ctx}:az).cells] gw (.u .nil)) ?_;refine .nil ?_;intro I a w U;refine U.append 0 rfl fi dj rfl .tt .r rfl bt λBR a w U=>?_;refine ax λI a w U=>?_;first|(rw[show[({cn with kind:=1,key:=ab q.keys 0,val:=q.val,aR:=q.ctx}:az).cells]=(asks q).map az.cells from by unfold asks;rw[if_pos ah];rfl] at U)|rw[Kq ah om] at U
   exact U.me BR fU
  refine aY λI a w U=>?_;refine St.lo (σ:=Nat×Value) (3::(5::(run 14 40 []))) ⟨λ⟨k,v⟩=>[(40,AV.int k),(3,AV.val v)],λ⟨k,v⟩=>[Own.row v 84 15 ((qd q k).map az.cells),Own.row (.slice none 0 0) 84 15 ([])],λ⟨k,v⟩=>k<=q.keys.length⟩ (λ⟨k,v⟩=>q.keys.length-k) (0,(.slice none 0 0)) U ?aL ?bG;case aL=>exact Nat.zero_le _
  rintro⟨k,v⟩ I a w al U;have hk:k<=q.keys.length:=al;dsimp only at U;refine ax λI a w U=>?_;refine cz (λaj=>?_) λaj=>?_
  .refine bO λI a w U=>?_;refine U.o (.c2 (Qn q (ab q.keys k))) λU=>?_;refine ax λI a w U=>?_;refine cz (λaJ=>?_) λaJ=>?_
   .refine aH λI a w U=>?_;refine U.o (.bd dN (.k (.k aW.nil))) λU=>?_;refine U.o (.li [(wS (ab q.keys k)).cells] gw (.u .nil)) λU=>?_;refine U.append 0 rfl fi dj rfl .tt .r rfl (by have:=Kn q k hk;simp;omega) λv52 a w U=>?_;rw[bV,SB aj (by simpa using aJ)] at U;refine aN λI a w U=>?_;exact U.ag (k+1,v52) (aj)
   refine aB λI a w U=>?_;rw[Ta aj (by simpa using aJ)] at U;exact U.ag (k+1,v) (aj)
  refine wp_exit<|cM<|cM<|fI<|bk<|wp_seq ?_;rw[aeu om] at U;refine aY λI a w U=>?_;refine St.lo (σ:=Nat×Value) (3::(7::(run 13 57 []))) ⟨λ⟨k,v⟩=>[(57,AV.int k),(3,AV.val v)],λ⟨k,v⟩=>[Own.row v 84 15 ((sJ q k).map az.cells),Own.row (.slice none 0 0) 84 15 ([])],λ⟨k,v⟩=>k<=q.aO.length⟩ (λ⟨k,v⟩=>q.aO.length-k) (0,v) U ?ei ?jK;case ei=>exact Nat.zero_le _
  rintro⟨k,v⟩ I a w al U;have hk:k<=q.aO.length:=al;dsimp only at U;refine ax λI a w U=>?_;refine cz (λaP=>?_) λaP=>?_
  .refine aH λI a w U=>?_;refine U.alloc rfl cE fh λb7 I a w U=>?_;refine ax λI a w U=>?_;obtain⟨I,U⟩:=U.fb 2 7;refine bO λI a w U=>?_;refine U.o (.bd dN (.k (.k (.t aW.nil)))) λU=>?_;refine U.o (.li [(xq (ab q.aO k)).cells] gw (.u .nil)) λU=>?_;refine U.append 0 rfl fi dj rfl .tt .r rfl (by have:=Tq q k;simp;omega) λJ2 a w U=>?_;rw[bV,ae3 aP] at U;refine aN λI a w U=>?_;have U:=U.drop 2;exact U.ag (k+1,J2) (aP)
  refine zt ?_;first|(rw[show[({cn with kind:=1,key:=ab q.keys 0,val:=q.val,aR:=q.ctx}:az).cells]=(asks q).map az.cells from by unfold asks;rw[if_pos ah];rfl] at U)|rw[Kq ah om] at U
  exact U.me v fU
 rintro v I a w al U;refine ax λI a w U=>?_;obtain⟨I,U⟩:=U.fr 0 3;rw[show([]:List (List AV))=(pk q 0).map az.cells from rfl] at U;refine aN λI a w U=>?_;refine St.lo (σ:=Nat×Value) (8::(run 2 10 (run 30 72 []))) ⟨λ⟨j,u⟩=>[(72,AV.int j),(8,AV.val u)],λ⟨j,u⟩=>[Own.gone,Own.row u 84 15 ((pk q j).map az.cells)],λ⟨j,u⟩=>j<=(asks q).length⟩ (λ⟨j,u⟩=>(asks q).length-j) (0,(.slice none 0 0)) U ?iN ?pj;case iN=>exact Nat.zero_le _
 rintro⟨j,u⟩ I a w al U;have hj:j<=(asks q).length:=al;dsimp only at U;refine ax λI a w U=>?_;refine cz (λbn=>?_) λbn=>?_
 .refine aH λI a w U=>?_;refine U.alloc rfl dj dN λkS I a w U=>?_;refine ax λI a w U=>?_;rw[show pk q j=pk q j++(jS q (ab (asks q) j)).take 0 from by simp] at U;refine aH λI a w U=>?_;refine U.o (m6 .c .tt (λ_=>by omega)) λU=>?_;refine ax λI a w U=>?_;refine St.lo (σ:=Nat×Int×Int×Int×Int×Value) (8::(11::(run 22 79 []))) ⟨λ⟨i,t11,f1,f2,f3,u2⟩=>[(11,AV.int t11),(8,AV.val u2)],λ⟨i,t11,f1,f2,f3,u2⟩=>[Own.gone,Own.row u2 84 15 ((pk q j++(jS q (ab (asks q) j)).take i).map az.cells),Own.box kS 84 ({(ab (asks q) j) with aU:=f1,to:=f2,call:=f3}:az).cells],λ⟨i,t11,f1,f2,f3,u2⟩=>i<=2/\t11=2*q.aq+(i:Int)⟩ (λ⟨i,t11,f1,f2,f3,u2⟩=>2-i) (0,2*q.aq,(ab (asks q) j).aU,(ab (asks q) j).to,(ab (asks q) j).call,u) U ?xx ?Jr;case xx=>exact⟨Nat.zero_le _,by simp⟩
  rintro⟨i,t11,f1,f2,f3,u2⟩ I a w al U;obtain⟨hi,rfl⟩:=al;dsimp only at U;refine aV λI a w U=>?_;refine U.o (m6 .c .tt (λ_=>by omega)) λU=>?_;refine aB λI a w U=>?_;refine cz (λbl=>?_) λbl=>?_
  .refine zt ?_;refine U.dh [([],none),([],none),([],none),([],none),([],none),([],none),([],none),([2],some (2,[])),([],none),([2],some (2,[])),([],none),([2],some (2,[]))] aG aG rfl ?_;refine kJ ?_;refine aK.cX (x:=AV.any) 2 (λF W0 I0 I a w Q U kk=>U.s1 2 λU=>kk _ _ _ U) ?_;refine aX ?_;refine aK.cX (x:=AV.any) 2 (λF W0 I0 I a w Q U kk=>U.s1 2 λU=>kk _ _ _ U) ?_;refine aX ?_;refine aK.cX (x:=AV.any) 2 (λF W0 I0 I a w Q U kk=>U.s1 2 λU=>kk _ _ _ U) ?_;refine .nil ?_;intro I a w U;refine aH λI a w U=>?_;refine U.o (cr (By {(ab (asks q) j) with aU:=10+q.aq,to:=2*q.aq+(i:Int),call:=q.num} (show jU (ab (asks q) j) from ae4 om _ (bB bn))) (ai (.t rfl) aC)) λU=>?_;refine U.o (.li [({(ab (asks q) j) with aU:=10+q.aq,to:=2*q.aq+(i:Int),call:=q.num}:az).cells] gw (.u .nil)) λU=>?_;refine U.append 1 rfl fi dj rfl .tt .r rfl (by have:=Ks q j om;have:=Kr (q:=q);simp[jS];omega) λae8 a w U=>?_;rw[bV,List.append_assoc,R2 q _ om] at U;refine aY λI a w U=>?_;exact U.ag (i+1,2*q.aq+(i:Int)+1,10+q.aq,2*q.aq+(i:Int),q.num,ae8) (⟨by show i+1<=2;omega,by simp;omega⟩)
  refine zt ?_;refine aB λI a w U=>?_;have U:=U.drop 2;rw[ae5 bn om] at U;exact U.ag (j+1,u2) (bn)
 refine wp_exit<|cM<|cM<|fI<|bk<|wp_seq ?_;rw[Te ae om] at U;obtain⟨I,U⟩:=U.fr 1 8;refine di ?_;rfl
def ae9 (s:Server) (m:az) (hg:bH s) (hm:bM m=true):
 Fn prog 201 [s.av,m.av] (AV.db [(fH s m).1.av,cQ (fH s m).2]):=by
 refine Fn.go 38 func201 ntmps201 (λW I a U=>?_);have al:=jx.2 hg;have gj:=hg.small;refine aH λI a w U=>?_;refine U.alloc rfl cq dz λb4 I a w U=>?_;refine aH λI a w U=>?_;refine U.o (.c1 (xh s)) λU=>?_;refine ax λI a w U=>?_;refine U.cd (λae=>?_) λae=>?_
 .exfalso;rw[al] at ae;cases ae;skip
 refine bO λI a w U=>?_;refine U.q .F (cr (Ko m (by have:=uX hm;unfold je;omega) (by have:=uX hm;unfold je;omega)) (ai .ag aC)) λU=>?_;refine mA λI a w U=>?_;refine U.cd (λah=>?_) λah=>?_
 .rw[DN] at ah;replace ah:=nt ah;refine bA λI a w U=>?_;refine U.o (.c1 (tN s gj)) λU=>?_;refine aB λI a w U=>?_;refine U.ret rfl (.cons (.sx 0) (.cons (.nil (sz:=15) rfl) ba.nil)) ?_;exact(by unfold fH;rw[ah];rfl)
 rw[DN] at ah;replace ah:=nf ah;have hu:=Ja hg hm (Hj ah).1;refine aH λI a w U=>?_;refine U.o (.c2 (aeq s m hg hm)) λU=>?_;refine aV λI a w U=>?_;refine U.alloc rfl cq dz λb6 I a w U=>?_;refine U.sb 1 λU=>?_;obtain⟨I,U⟩:=U.fb 1 6;refine aH λI a w U=>?_;refine U.o (.c1 (tN (eH s m).1 hu.small)) λU=>?_;refine aN λI a w U=>?_;refine U.ret rfl (.cons (.sx 0) (.cons .x ba.nil)) ?_;exact(by unfold fH;rw[ah,if_pos rfl];rfl)
def gJ (x:aI) (e:Ev):aI×Bool:=
 if e.kind=1\/e.kind=2\/e.kind=3 then iC x e
 else if e.kind=4\/e.kind=5 then iu x e
 else if aS e.kind 6 9&&cO e.at_ then fl x e
 else(x,false)
def afa {x:aI} {e:Ev} (h:e.kind=3) (hi:¬cA x.calls e.aq<0):gJ x e=({x with calls:=x.calls.set (cA x.calls e.aq).toNat {ab x.calls (cA x.calls e.aq).toNat with over:=true}},true):=by
 unfold gJ iC;rw[if_pos (.inr (.inr h)),if_neg om];dsimp only;rw[if_neg hi,if_pos h]
def afb {x:aI} {e:Ev} (hk:e.kind=9) (hm:(eG (ab x.aw e.at_.toNat) e.slot).2.2=true):fl x e=({x with aw:=x.aw.set e.at_.toNat (eG (ab x.aw e.at_.toNat) e.slot).1,au:=eB x.au [(eG (ab x.aw e.at_.toNat) e.slot).2.1]},true):=by
 have h:=Eu hm;rw[IW h];unfold fl;dsimp only;rw[if_neg om,if_neg om,if_neg om,if_pos h]
def afc (v:Value) (l:List (List AV)) (i:Nat) (hi:i<l.length) (hl:l.length<=1048576) (eA:∀r∈l,r.length=15):
 bT prog 159 [AV.val v,AV.int i,AV.int ((i:Int)+1)] [Own.row v 84 15 l] (λ_:Value=>True) (λu=>[Own.row u 84 15 (l.take i++l.drop (i+1))]) AV.val:=by
 refine bT.intro 33 func159 rfl ntmps159 rfl aG (λW I a U=>?_);obtain⟨q,cap,rfl,mn⟩:=U.AJ 0 rfl;refine dI λI a w U=>?_;refine U.o (NV (lo:=i) (hi:=i+1) (mx:=l.length) fi dj .tt .tt .tt .tt rfl om rfl om om om) λU=>?_;refine aN λI a w U=>?_;refine U.cd (λae=>?_) λae=>?_
 .exfalso;simp only[B] at ae;omega;skip
 refine aN λI a w U=>?_;have aZ:l≠[]:=by intro e;rw[e] at hi;simp at hi
 obtain⟨b,oI,he,nb,jB,mE,U⟩:=U.tc 0 rfl aZ;simp only[Value.slice.injEq] at he;obtain⟨rfl,_,rfl⟩:=he;have hF:l.flatten.length=l.length*15:=gM eA;have hB:(l.drop (i+1)).flatten.length=(l.length-(i+1))*15:=by rw[gM λr hr=>eA r (List.mem_of_mem_drop hr),List.length_drop]
 have hlen:(l.take i++l.drop (i+1)).length=i+(l.length-(i+1)):=by simp;omega
 have mG:∀r∈(l.take i++l.drop (i+1)),r.length=15:=λr hr=>(List.mem_append.1 hr).elim (λh=>eA r (List.mem_of_mem_take h)) λh=>eA r (List.mem_of_mem_drop h);refine U.dt 6 ?_;simp only[TD];refine cj ?_;refine .o (te (hi:=i) fi dj .tt .tt rfl om om) ?_;refine cj ?_;refine .o (G5 (lo:=i+1) fi dj .tt .tt om om om) ?_;refine .nil ?_;intro I a w U;refine U.NY (xs:=(l.drop (i+1)).flatten) 0 fi dj .tt .tt rfl (by rw[List.drop_append_of_le_length (by simp only[List.length_map,hF];exact Nat.mul_le_mul_right _ om),<-List.map_drop,Iy eA];exact ki _ (List.length_map _)) hB om (by simp only[List.length_append,List.length_map,List.length_replicate,hF,hB];omega) rfl λU=>?_;refine bO λI a w U=>?_;refine U.o (NX (lo:=i+(l.length-(i+1))) (hi:=l.length) fi dj .tt .tt .tt rfl rfl om om) λU=>?_;refine U.G7 0 fi dj rfl gw .tt om rfl (by rw[lg]<;>simp only[List.length_append,List.length_map,List.length_replicate,hF,hB]<;>omega) λU=>?_;have U:=U.td (l:=(l.take i++l.drop (i+1))) (cap:=cap) 0 rfl (by rw[lg,lg]<;>(try rw[lg])<;>simp only[List.length_append,List.length_map,List.length_replicate,hF,hB]<;>omega) mG om om om (N1 eA hi);rw[<-hlen] at U;refine aB λI a w U=>?_;refine U.bJ _ [0] rfl (.cons (.t rfl) .nil) trivial rfl rfl
def afd (s:Server) (hg:bH s):
 Fn prog 160 [s.av] ((ll s).av):=by
 refine Fn.go 13 func160 ntmps160 (λW I a U=>?_);have al:=jx.2 hg;have cV:=hg.ok;have gj:=hg.small;refine bA λI a w U=>?_;refine U.alloc rfl cq dz λb2 I a w U=>?_;refine bA λI a w U=>?_;refine U.o (.c1 (xh ..)) λU=>?_;refine ax λI a w U=>?_;refine U.cd (λae=>?_) λae=>?_
 .exfalso;rw[al] at ae;cases ae;skip
 refine bA λI a w U=>?_;refine U.o (.c1 (tN s gj)) λU=>U.alloc rfl cq dz λb3 I a w U=>?_;refine bz λI a w U=>?_;refine U.ye 1 qz .tt (At.nil (sz:=3) .c) (by first|exact gn rfl|exact en|exact gC|exact gE) rfl rfl λa w U=>?_;refine aB λI a w U=>?_;refine U.ret rfl (.cons (.sx 0) ba.nil) ?_;rfl
def afe (s:Server) (slot:Int) (hg:bH s):
 Fn prog 163 [s.av,AV.int slot] (AV.db [(eG s slot).1.av,(eG s slot).2.1.av,AV.bool (eG s slot).2.2]):=by
 refine Fn.go 59 func163 ntmps163 (λW I a U=>?_);have al:=jx.2 hg;have cV:=hg.ok;have gj:=hg.small;have h3:=hg.aF;have EU:aS slot 0 2=true->(ab s.aF slot.toNat).bf<=9999:=λhi=>by have h9:=hg.bD _ (bB (l:=s.aF) (k:=slot.toNat) (by simp[aS] at hi;omega));exact(wL.1 h9).2.1
 have e9:∀x,x=cG.cells ⟨(ab s.aF slot.toNat).bf+1,2⟩->(List.map cG.cells s.aF).set slot.toNat x=List.map cG.cells (kO s slot).aF:=λx h=>by rw[h];exact List.map_set.symm
 refine bA λI a w U=>?_;refine U.alloc rfl cq dz λb4 I a w U=>U.alloc rfl dj dN λb5 I a w U=>?_;refine aH λI a w U=>?_;refine U.o (.c1 (xh ..)) λU=>?_;refine ax λI a w U=>?_;refine U.cd (λae=>?_) λae=>?_
 .exfalso;rw[al] at ae;cases ae;skip
 refine bA λI a w U=>?_;refine U.bq [] (Bx s gj) (ai .tt aC) rfl aM rfl λ⟨vS,vV,vW,vO,vK⟩ I a w zG U=>?_;unfold Server.PF at U;have U:=U.nf;refine U.alloc rfl cq dz λb7 I a w U=>?_;refine U.sb 7 λU=>?_;refine wpList_nil ?_;obtain⟨I,U⟩:=U.fu 3 3 7;obtain⟨I,U⟩:=U.fu 4 4 7;obtain⟨I,U⟩:=U.fu 5 5 7;obtain⟨I,U⟩:=U.fu 6 6 7;have U:=U.nf;refine bO λI a w U=>?_;refine U.q .F (.cl (iS ..)) λU=>?_;refine dI λI a w U=>?_;refine U.q .F ((by first|exact dW fP ew .ag .ag (λhg=>by simp[aS] at hg;omega)|exact fe fP ew .ag .ag (λhg=>by simp[aS] at hg;omega)|exact fm fP ew .ag .ag (λhg=>by simp[aS] at hg;omega))) λU=>?_;refine lI λI a w U=>?_;refine U.q .F ((by first|exact dW fP ew .ag .ag (λhg=>by simp[aS] at hg;omega)|exact fe fP ew .ag .ag (λhg=>by simp[aS] at hg;omega)|exact fm fP ew .ag .ag (λhg=>by simp[aS] at hg;omega))) λU=>?_;refine aY λI a w U=>?_;refine U.cd (λah=>?_) λah=>?_
 .rw[Pn EU] at ah;replace ah:=nt ah;obtain⟨I,U⟩:=U.fu 2 2 7;refine sr<|U.o (.ls 7) λU=>?_;refine U.o (.bd dN aW.nil) λU=>?_;refine aN λI a w U=>?_;refine U.ret rfl (.cons (.sx 0) (.cons (.sx 1) (.cons (.t rfl) ba.nil))) ?_;exact(by unfold eG;rw[ah];rfl)
 rw[Pn EU] at ah;replace ah:=nf ah;have hmp:=uT ah;have hsr:=wL.1 (D6 hg (i:=slot.toNat) om);have xv:=za hg ah;refine zt ?_;obtain⟨bS,cS,rfl⟩:=U.ia 2 rfl iv;refine U.dt 12 ?_;simp only[TD];refine aX ?_;refine .o (.lb 7) ?_;refine mB ?_;refine .o (.bd mC (.k (.k aW.nil))) ?_;refine .o (gq fP ew .tt .tt (λ_=>by simp only[List.length_map];omega)) ?_;refine .nil ?_;intro I a w U;refine U.jZ 2 ew .tt .tt rfl (by exact ey om) rfl rfl λa w U=>?_;refine zt ?_;rw[e9] at U;rotate_left
 .rfl
 obtain⟨I,U⟩:=U.fu 2 2 7;have U:=U.nf;refine U.dt 4 ?_;simp only[TD];refine .o (.ls 7)<|.o (.ls 7) ?_;refine aX ?_;refine .o (cr (S9 (kO s slot) slot xv.small xv.site xv.aF om) (ai (.t rfl) (ai (.t rfl) aC))) ?_;refine .nil ?_;intro I a w U;refine aN λI a w U=>?_;refine U.ret rfl (.cons (.sx 0) (.cons (.sx 1) (.cons (.t rfl) ba.nil))) ?_;exact(by unfold eG;rw[ah];rfl)
def aff (x:aI) (m:az) (hg:cy x) (ht:x.time<=1000000) (iY:aS m.to 10 11=true):
 Fn prog 140 [x.av,m.av] ((lu x m).av):=by
 refine Fn.go 52 func140 ntmps140 (λW I a U=>?_);simp only[aS,Bool.and_eq_true,decide_eq_true_eq] at iY;have nF:=hg.lens;have zI:=hg.seen;have zN:=hg.time;refine sr<|U.box rfl .tt λb2 I a w U=>U.o .bp λU=>U.alloc rfl dx dB λb4 I a w U=>?_;refine fo λI a w U=>?_;refine U.o (.cl (Dx x.calls (m.to-10))) λU=>?_;refine aN λI a w U=>?_;refine cz (λae=>?_) λae=>?_
 .refine aB λI a w U=>?_;refine U.ret rfl (.cons (.sx 1) ba.nil) ?_;exact(by unfold lu;dsimp only;rw[if_pos ae];rfl)
 obtain⟨h1,h2,h3⟩:=qS ae;have hq:=zB (m:=m) (hg.call h1);have hqe:=hq.BU om;have M9:=hq.bE;refine zt ?_;refine U.da 10 ?_;simp only[TD];refine mB ?_;refine .o (.c3 (aeT _ m x.time (hg.call h1) ht))<|gv.alloc eR j2<|.nil ?_;intro I a w U;obtain⟨b7,U⟩:=U.uz (d:=7) rfl;refine ax λI a w U=>?_;obtain⟨I,U⟩:=U.fb 2 7;refine U.l0 λb27 I a w U=>?_;refine aH λI a w U=>?_;refine U.ap 3 λv30 a w U=>?_;simp only[List.nil_append] at U;refine U.o .fv λU=>?_;try have anA:=U.dZ 3 rfl
 refine ax λI a w U=>?_;obtain⟨Cf,Cg,rz⟩:=U.ia 3 rfl pt;subst rz;refine bz λI a w U=>?_;refine U.o (gq kj eR .tt .tt (λ_=>by simp only[List.length_map];omega)) λU=>?_;refine U.jZ 3 eR .tt .tt rfl (by exact ey om) rfl rfl λa w U=>?_;refine nn ?_;refine St.cut (σ:=List (List ao)) (run 14 37 []) ⟨λsn=>[],λsn=>[Own.box b2 28 [AV.int x.time,iG x.aw,cQ x.au,fB (x.calls.set (cA x.calls (m.to-10)).toNat (dG (ab x.calls (cA x.calls (m.to-10)).toNat) m x.time)),gN sn],Own.box b4 28 [AV.val (.int .i64 0),AV.rows 7 [],AV.rows 15 [],AV.rows 13 [],AV.rows 1 []],Own.gone,Own.gone],λsn=>sn=if 0<Call.end_ (dG (ab x.calls (cA x.calls (m.to-10)).toNat) m x.time) then x.seen.set (m.to-10).toNat (gx (dG (ab x.calls (cA x.calls (m.to-10)).toNat) m x.time)) else x.seen⟩ U ?Kp ?ae1;case Kp=>
  refine wp_seq ?_;have e9:∀y,y=Call.cells (dG (ab x.calls (cA x.calls (m.to-10)).toNat) m x.time)->(List.map Call.cells x.calls).set (cA x.calls (m.to-10)).toNat y=List.map Call.cells (x.calls.set (cA x.calls (m.to-10)).toNat (dG (ab x.calls (cA x.calls (m.to-10)).toNat) m x.time)):=λy hy=>by rw[hy,List.map_set]
  rw[e9] at U;rotate_left
  .rfl
  obtain⟨I,U⟩:=U.fu 3 3 0;refine aN λI a w U=>?_;refine cz (λah=>?_) λah=>?_
  .refine zt ?_;refine U.l0 λb40 I a w U=>?_;refine aH λI a w U=>?_;refine U.ap 4 λER a w U=>?_;simp only[List.nil_append] at U;refine U.o .fv λU=>?_;try have afg:=U.dZ 4 rfl
   refine ax λI a w U=>?_;obtain⟨bk2,ck2,ek2⟩:=U.ia 4 rfl pt;subst ek2;refine U.dt 6 ?_;simp only[TD];refine dM ?_;refine .o (cr (aeQ (dG (ab x.calls (cA x.calls (m.to-10)).toNat) m x.time) x.time (sE.2 hq) om om (by have:=hq.lens.2.2.2.2.1;omega)) (ai (.t rfl) aC)) ?_;refine .o (gq yw qz .tt .tt (λ_=>by simp only[List.length_map];omega)) ?_;refine .nil ?_;intro I a w U;refine U.vU (j:=0) 4 qz .tt .tt (by first|exact gn rfl|exact en|exact gC|exact gE|assumption) rfl (by exact ey om) rfl rfl λa w U=>?_;refine wpList_nil ?_;have e8:∀y,y=dQ (gx (dG (ab x.calls (cA x.calls (m.to-10)).toNat) m x.time))->(List.map dQ x.seen).set (m.to-10).toNat y=List.map dQ (x.seen.set (m.to-10).toNat (gx (dG (ab x.calls (cA x.calls (m.to-10)).toNat) m x.time))):=λy hy=>by rw[hy,List.map_set]
   rw[e8] at U;rotate_left
   .rfl
   obtain⟨I,U⟩:=U.fu 4 4 0;refine bk ?_;have U:=U.drop 4;exact U.me (x.seen.set (m.to-10).toNat (gx (dG (ab x.calls (cA x.calls (m.to-10)).toNat) m x.time))) (by first|exact(if_pos ah).symm|exact(if_neg om).symm)
  refine zt ?_;have U:=U.drop 4;exact U.me x.seen (by first|exact(if_pos ah).symm|exact(if_neg om).symm)
 rintro sn I a w al U;have Tv:sn=if 0<Call.end_ (dG (ab x.calls (cA x.calls (m.to-10)).toNat) m x.time) then x.seen.set (m.to-10).toNat (gx (dG (ab x.calls (cA x.calls (m.to-10)).toNat) m x.time)) else x.seen:=al
 refine aB λI a w U=>?_;refine U.ret rfl (.cons (.sx 1) ba.nil) ?_;unfold lu;dsimp only;rw[if_neg om];split
 .rename_i hh;rw[Tv,if_pos hh];rfl
 rename_i hh;rw[Tv,if_neg hh];rfl
def afi {w:aI} {e:Ev} (h:((e.kind==1)||(e.kind==2)||(e.kind==3))=false) (h2:((e.kind==4)||(e.kind==5))=true):cT w e=((iu {w with time:=w.time+1} e).1,(iu {w with time:=w.time+1} e).2):=by unfold cT;rw[if_neg (by simp at h;omega),if_pos (by simpa using h2)]
def afj {w:aI} {e:Ev} (h:((e.kind==1)||(e.kind==2)||(e.kind==3))=false) (h2:((e.kind==4)||(e.kind==5))=false) (h3:(!aS e.kind 6 9||!cO e.at_)=true):cT w e=({w with time:=w.time+1},false):=by
 unfold cT;rw[if_neg (by simp at h;omega),if_neg (by simpa using h2),if_neg (by simp at h3;simp;intro h9;rcases h3 with h'|h';(rw[h'] at h9;cases h9);exact h')]
def afk (b:Nat) (x:aI) (e:Ev) (s r q z:Value) (hg:cy x) (ht:x.time<=1000000):
 bT prog 154 [AV.val (.pointer (some ⟨b,0,none⟩)),e.av] (x.full b s r q z) (λ_:Value=>True) (λu=>bif (kb x e).2 then(kb x e).1.full b s r u z else[]) (λ_=>AV.bool (kb x e).2):=by
 refine bT.intro 114 func154 rfl ntmps154 rfl aG (λW I a U=>?_);change St _ _ [Own.box b 28 [AV.int x.time,AV.val s,AV.val r,AV.val q,AV.val z],Own.row s 43 7 (x.aw.map Server.cells),Own.row r 84 15 (x.au.map az.cells),Own.row q 53 13 (x.calls.map Call.cells),Own.row z 41 1 (x.seen.map dQ)] _ _ _ at U;have nF:=hg.lens;have zI:=hg.seen;have zN:=hg.time;refine bz λI a w U=>?_;refine U.o (.c1 (A7 ..)) λU=>?_;refine bO λI a w U=>?_;refine U.q .F (Dc (xs:=[AV.val (.pointer (some ⟨b,0,none⟩)),AV.int e.aq]) (rP:=[AV.ptr [AV.int x.time,AV.val s,AV.val r,fB x.calls,AV.val z],AV.int e.aq]) (Jw x.calls x.time s r z e.aq) (ai .ag (ai .ag aC)) (λc I a w U=>by obtain⟨I,U⟩:=U.fu 3 3 0;obtain⟨I,U⟩:=U.fb 0 0;exact⟨_,_,_,U,rfl,rfl,trivial⟩)) λU=>?_;refine aB λI a w U=>?_;refine U.cd (λae=>?_) λae=>?_
 .rw[OB] at ae;replace ae:=nt ae;refine ax λI a w U=>?_;refine U.bJ (.bool false) [] rfl (.cons (.t rfl) .nil) trivial (by rw[Jn ae];rfl) (by rw[Jn ae];rfl)
 rw[OB] at ae;replace ae:=nf ae;have E7:=ae;simp only[fC,aS,Bool.and_eq_true,decide_eq_true_eq] at E7;refine zt ?_;have U:=U.gF;have U:=U.gF;have U:=U.gF;refine U.wh 22 _ (rp 6 (([6],some (6,[26]))::rp 3 (([0],none)::rp 2 (([4],none)::([4],none)::rp 4 [([0],none),([7],some (7,[40,26])),([5],some (5,[5]))])))) rfl aG aG rfl ?_;simp only[TD];refine gZ ?_;refine aK.Db (iy:=[[AV.int e.a]]) 6 rfl rfl cH cx rfl iO rfl rfl rfl (aW.c rfl rfl .tt (by first|exact gn rfl|exact en|exact gC|exact gE|assumption) aW.nil) rfl rfl (by simp only[List.forall_mem_cons];exact⟨rfl,λ_ h=>by simp at h⟩) rfl ?_;refine dJ ?_;refine .r [0] (.lb 0) ?_;refine cj ?_;refine .r [4] (yy 4 yw qz .tt .tt rfl (λ_=>by rw[List.length_map];omega)) ?_;refine .r [4] (N2 (j:=0) 4 qz .tt rfl (λ_=>by exact ey om) rfl rfl rfl) ?_;refine .o (cr (tJ (ab x.seen e.aq.toNat) (by have:=hg.Su (i:=e.aq.toNat) om;omega)) (ai .r aC)) ?_;refine dJ ?_;refine .r [0] (.lb 0) ?_;refine aK.Dk 7 [26] (λa=>AV.agg [AV.int e.aq,AV.int 1,AV.int e.call,AV.val (a.tmps.getD 26 undef),AV.int 0,bw (ab x.seen e.aq.toNat),AV.int x.time,AV.int 0,AV.bool false,AV.int 0,AV.int 0,AV.rows 9 [],AV.rows 3 []]) rfl rfl rfl rfl (λa b h=>by simp only[List.forall_mem_cons] at h;simp only[h]) rfl (λF a I he=>Ok.to (.bd j2 (.k (.k (.k (aW.c Xn rfl .tt (uG (t:=26) he) (.k (.k aW.nil)))))))) ?_;refine aK.alloc 5 rfl rfl eR j2<|.nil ?_;intro I a w U;obtain⟨b5,U⟩:=U.my (d:=5) 5 rfl rfl;change St _ _ [Own.box b 28 [AV.int x.time,AV.val s,AV.val r,AV.val q,AV.val z],Own.row s 43 7 (x.aw.map Server.cells),Own.row r 84 15 (x.au.map az.cells),Own.row q 53 13 (x.calls.map Call.cells),Own.row z 41 1 (x.seen.map dQ),Own.box b5 53 _,Own.row (a.tmps.getD 26 undef) 3 1 [[AV.int e.a]],Own.is (AV.agg [AV.int e.aq,AV.int 1,AV.int e.call,AV.val (a.tmps.getD 26 undef),AV.int 0,bw (ab x.seen e.aq.toNat),AV.int x.time,AV.int 0,AV.bool false,AV.int 0,AV.int 0,AV.rows 9 [],AV.rows 3 []]) (a.tmps.getD 40 undef)] _ _ _ at U;have U:=U.Dl (d:=40) 7 rfl;have U:=U.drop 7;generalize a.tmps.getD 26 undef=w7 at U;show wpList _ _ _ _ _ _;refine bO λI a w U=>?_;refine U.o (lC 3 kj .tt rfl) λU=>?_;refine ax λI a w U=>?_;refine St.lo (σ:=Nat×Int) (7::(run 14 46 [])) ⟨λ⟨k,nm⟩=>[(46,AV.int k)],λ⟨k,nm⟩=>[Own.box b 28 [AV.int x.time,AV.val s,AV.val r,AV.val q,AV.val z],Own.row s 43 7 (x.aw.map Server.cells),Own.row r 84 15 (x.au.map az.cells),Own.row q 53 13 (x.calls.map Call.cells),Own.row z 41 1 (x.seen.map dQ),Own.box b5 53 [AV.int e.aq,AV.int nm,AV.int e.call,AV.val w7,AV.int 0,bw (ab x.seen e.aq.toNat),AV.int x.time,AV.int 0,AV.bool false,AV.int 0,AV.int 0,AV.rows 9 [],AV.rows 3 []],Own.row w7 3 1 [[AV.int e.a]]],λ⟨k,nm⟩=>k<=x.calls.length/\nm=ga x.calls k e.aq+1⟩ (λ⟨k,nm⟩=>x.calls.length-k) (0,1) U ?aL ?bG;case aL=>exact⟨Nat.zero_le _,by rw[Ho];rfl⟩
 rintro⟨k,nm⟩ I a w al U;obtain⟨hk,E9⟩:=al;have SL:=DD x.calls k e.aq;dsimp only at U;refine ax λI a w U=>?_;refine cz (λah=>?_) λah=>?_
 .rw[List.length_map] at ah;refine zt ?_;refine U.o (yy 3 kj eR .tt .tt rfl (λ_=>by rw[List.length_map];omega)) λU=>?_;refine U.o (N3 3 eR .tt rfl (λ_=>by exact ey ah) rfl) λU=>?_;refine U.alloc rfl eR j2 λb7 I a w U=>?_;refine U.sb 7 λU=>?_;obtain⟨I,U⟩:=U.fb 7 7;refine ct λI a w U=>?_;refine cz (λaj=>?_) λaj=>?_
  .rw[Int.toNat_natCast] at aj;refine bz λI a w U=>?_;refine U.s1 5 λU=>?_;refine aB λI a w U=>?_;have U:=U.drop 7;exact U.ag (k+1,nm+1) (⟨ah,by show nm+1=_;rw[rW ah,if_pos aj,E9]⟩)
  rw[Int.toNat_natCast] at aj;refine aB λI a w U=>?_;have U:=U.drop 7;exact U.ag (k+1,nm) (⟨ah,by show nm=_;rw[rW ah,if_neg aj,E9]⟩)
 rw[List.length_map] at ah;refine wp_exit<|cM<|cM<|fI<|bk ?_;refine St.cut (σ:=Int) (run 6 60 []) ⟨λval=>[],λval=>[Own.box b 28 [AV.int x.time,AV.val s,AV.val r,AV.val q,AV.val z],Own.row s 43 7 (x.aw.map Server.cells),Own.row r 84 15 (x.au.map az.cells),Own.row q 53 13 (x.calls.map Call.cells),Own.row z 41 1 (x.seen.map dQ),Own.box b5 53 [AV.int e.aq,AV.int (tF x.calls e.aq+1),AV.int e.call,AV.val w7,AV.int val,bw (ab x.seen e.aq.toNat),AV.int x.time,AV.int 0,AV.bool false,AV.int 0,AV.int 0,AV.rows 9 [],AV.rows 3 []],Own.row w7 3 1 [[AV.int e.a]]],λval=>val=if e.call=1 then e.val else 0⟩ U ?Ju ?adb;case Ju=>
  refine wp_seq ?_;rw[show k=x.calls.length by omega,<-adh hg] at E9;subst E9;refine aN λI a w U=>?_;refine cz (λaJ=>?_) λaJ=>?_
  .refine aV λI a w U=>?_;refine U.s1 5 λU=>?_;refine zt ?_;exact U.me e.val (by first|exact(if_pos aJ).symm|exact(if_neg aJ).symm)
  refine zt ?_;exact U.me 0 (by first|exact(if_pos aJ).symm|exact(if_neg aJ).symm)
 rintro val I a w al U;have eV:val=if e.call=1 then e.val else 0:=al
 subst eV;refine St.cut (σ:=Unit) (run 29 66 []) ⟨λ_=>[],λ_=>[Own.box b 28 [AV.int x.time,AV.val s,AV.val r,AV.val q,AV.val z],Own.row s 43 7 (x.aw.map Server.cells),Own.row r 84 15 (x.au.map az.cells),Own.row q 53 13 (x.calls.map Call.cells),Own.row z 41 1 (x.seen.map dQ),Own.box b5 53 [AV.int e.aq,AV.int (tF x.calls e.aq+1),AV.int e.call,iz (lJ e),AV.int (if e.call=1 then e.val else 0),bw (ab x.seen e.aq.toNat),AV.int x.time,AV.int 0,AV.bool false,AV.int 0,AV.int 0,AV.rows 9 [],AV.rows 3 []],Own.gone],λ_=>True⟩ U ?Kt ?afl;case Kt=>
  refine uE λI a w U=>?_;refine U.cd (λaP=>?_) λaP=>?_
  .refine bz λI a w U=>?_;refine U.o (.li [[AV.int e.b]] iO (.v .nil)) λU=>?_;refine U.append 6 rfl cH cx rfl .tt .r rfl bt λv81 a w U=>?_;refine U.o .fv λU=>?_;try have anF:=U.dZ 6 rfl
   refine U.s1 5 λU=>?_;refine ct λI a w U=>?_;refine cz (λbn=>?_) λbn=>?_
   .refine bz λI a w U=>?_;refine U.o (.li [[AV.int e.c]] iO (.v .nil)) λU=>?_;refine U.append 6 rfl cH cx rfl .tt .r rfl bt λv93 a w U=>?_;refine U.o .fv λU=>?_;try have anH:=U.dZ 6 rfl
    refine U.s1 5 λU=>?_;refine zt ?_;obtain⟨I,U⟩:=U.fu 6 3 5;have U:=U.pass (H':=[Own.box b 28 [AV.int x.time,AV.val s,AV.val r,AV.val q,AV.val z],Own.row s 43 7 (x.aw.map Server.cells),Own.row r 84 15 (x.au.map az.cells),Own.row q 53 13 (x.calls.map Call.cells),Own.row z 41 1 (x.seen.map dQ),Own.box b5 53 [AV.int e.aq,AV.int (tF x.calls e.aq+1),AV.int e.call,iz (lJ e),AV.int (if e.call=1 then e.val else 0),bw (ab x.seen e.aq.toNat),AV.int x.time,AV.int 0,AV.bool false,AV.int 0,AV.int 0,AV.rows 9 [],AV.rows 3 []],Own.gone]) (by first|(rw[EM aP bn];rfl)|(rw[EL aP (by simpa using bn)];rfl)|(rw[EK aP];rfl));exact U.me () fU
   refine zt ?_;obtain⟨I,U⟩:=U.fu 6 3 5;have U:=U.pass (H':=[Own.box b 28 [AV.int x.time,AV.val s,AV.val r,AV.val q,AV.val z],Own.row s 43 7 (x.aw.map Server.cells),Own.row r 84 15 (x.au.map az.cells),Own.row q 53 13 (x.calls.map Call.cells),Own.row z 41 1 (x.seen.map dQ),Own.box b5 53 [AV.int e.aq,AV.int (tF x.calls e.aq+1),AV.int e.call,iz (lJ e),AV.int (if e.call=1 then e.val else 0),bw (ab x.seen e.aq.toNat),AV.int x.time,AV.int 0,AV.bool false,AV.int 0,AV.int 0,AV.rows 9 [],AV.rows 3 []],Own.gone]) (by first|(rw[EM aP bn];rfl)|(rw[EL aP (by simpa using bn)];rfl)|(rw[EK aP];rfl));exact U.me () fU
  refine zt ?_;obtain⟨I,U⟩:=U.fu 6 3 5;have U:=U.pass (H':=[Own.box b 28 [AV.int x.time,AV.val s,AV.val r,AV.val q,AV.val z],Own.row s 43 7 (x.aw.map Server.cells),Own.row r 84 15 (x.au.map az.cells),Own.row q 53 13 (x.calls.map Call.cells),Own.row z 41 1 (x.seen.map dQ),Own.box b5 53 [AV.int e.aq,AV.int (tF x.calls e.aq+1),AV.int e.call,iz (lJ e),AV.int (if e.call=1 then e.val else 0),bw (ab x.seen e.aq.toNat),AV.int x.time,AV.int 0,AV.bool false,AV.int 0,AV.int 0,AV.rows 9 [],AV.rows 3 []],Own.gone]) (by first|(rw[EM aP bn];rfl)|(rw[EL aP (by simpa using bn)];rfl)|(rw[EK aP];rfl));exact U.me () fU
 rintro _ I a w al U;refine wp_seq ?_;obtain⟨I,U⟩:=U.fu 3 3 0;refine U.da 7 ?_;simp only[TD];refine dM ?_;refine gv.lZ (YQ x.calls om) (ai .r aC) ?_;refine aX ?_;refine .o (.li [(jj x e).cells] AW (.u .nil)) ?_;refine .nil ?_;intro I a w U;obtain⟨v99,U⟩:=U.C9 (d:=99);refine U.ap 7 λafm a w U=>?_;rw[bV] at U;refine dI λI a w U=>?_;refine U.o (Da 7 (ai .tt (ai .tt aC)) rfl (Th (x.calls++[jj x e]) x.time om fT (λq hq=>adi hg E7.1 hq)) (λ_ _ _ h=>h)) λU=>?_;refine ax λI a w U=>?_;refine U.cd (λbl=>?_) λbl=>?_
 .replace bl:=nt bl;refine ax λI a w U=>?_;refine U.bJ (.bool false) [] rfl (.cons (.t rfl) .nil) trivial (by rw[BV ae,bl];rfl) (by rw[BV ae,bl];rfl)
 replace bl:=nf bl;refine bz λI a w U=>?_;try have anJ:=U.dZ 7 rfl
 refine aB λI a w U=>?_;refine U.bJ afm [0,1,2,7,4] rfl (.cons (.t rfl) .nil) trivial (by rw[BV ae,bl];rfl) (by rw[BV ae,bl];rfl)
def Tw (v:Value) (l:List az) (i:Int) (h0:0<=i) (hi:i<l.length) (hl:l.length<=1048576):bT prog 159 [AV.val v,AV.int i,AV.int (i+1)] [Own.row v 84 15 (l.map az.cells)] (λ_:Value=>True) (λu=>[Own.row u 84 15 ((l.take i.toNat++l.drop (i.toNat+1)).map az.cells)]) AV.val:=by
 obtain⟨n,rfl⟩:=Int.eq_ofNat_of_zero_le h0;rw[List.map_append,List.map_take,List.map_drop];exact afc v (l.map az.cells) n iv iv (λr hr=>by obtain⟨u,_,rfl⟩:=List.mem_map.1 hr;rfl)
def afn {m:az} (h:bM m=true) (U:cO m.to=false):aS m.to 10 11=true:=by
 have:=(ny h).2.2.1;unfold lF at this;rw[U,Bool.false_or] at this;exact this
def Tx {s:Server} {m:az} (hg:bH s) (hm:bM m=true):(fH s m).2.length<=1048576/\∀y∈(fH s m).2,jU y:=by
 unfold fH;split
 .exact⟨by have:=Sj s m;omega,λy hy=>w3 (Jl hg hm y hy)⟩
 exact⟨Nat.zero_le _,λy hy=>by cases hy⟩
end Go.Proofs.YtdanidpleofjgaaGreat

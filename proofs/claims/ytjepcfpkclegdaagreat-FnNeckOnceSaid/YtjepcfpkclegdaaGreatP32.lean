/- Part 32: contracts of functions, plain facts. -/
import Derived.Test.YtjepcfpkclegdaaGreatP29
set_option linter.unusedVariables false
set_option linter.unusedSimpArgs false
set_option maxRecDepth 100000
set_option maxHeartbeats 4000000
namespace Go.Proofs.YtjepcfpkclegdaaGreat
open Go Go.RowKit
attribute [local irreducible] wpList Code.wp Ok
theorem D7 (x:aE) (hf:x.Fit) (hl:x.calls.length<=1048576):
 Fn Tryz.prog 52 [x.av] (AV.bool (ey x)):=by
 refine Fn.go 62 Tryz.func52 Tryz.ntmps52 (λW I a U=>?_)
 have lens:x.ax.length<=9223372036854775807/\x.ar.length<=9223372036854775807/\x.calls.length<=9223372036854775807/\x.seen.length<=9223372036854775807:=⟨U.ln 0 1,U.ln 0 2,U.ln 0 3,U.ln 0 4⟩
 refine bt λI a w U=>?_
 refine U.o (.cl (jv ..)) λU=>?_
 refine LX λI a w U=>?_
 refine U.cd (λae=>?_) λae=>?_
 ·replace ae:oz x=false:=by unfold oz;rw[ae];rfl
  refine ai λI a w U=>?_
  refine U.rt ?_
  exact bG (by unfold ey;rw[ae];rfl)
 ·replace ae:oz x=true:=by unfold oz;rw[ae];rfl
  refine aU λI a w U=>?_
  refine St.lo (σ:=Nat) (run 3 2 (run 15 30 [])) ⟨λk=>[(30,AV.int k)],λk=>[],λk=>k<=x.ax.length/\∀i,i<k->(qP x) i=true⟩ (λk=>x.ax.length-k) 0 U ?aJ ?aK
  case aJ=>exact⟨Nat.zero_le _,λi hi=>by omega⟩
  case aK=>
   rintro k I a w aj U
   obtain⟨o1,aN⟩:=aj
   refine ai λI a w U=>?_
   refine cz (λah=>?_) λah=>?_
   ·refine bk λI a w U=>?_
    refine U.alloc rfl cm dF λb4 I a w U=>?_
    refine aA λI a w U=>?_
    obtain⟨I,U⟩:=U.fb 0 4
    refine dD λI a w U=>?_
    refine U.q .F (.cl (xq ..)) λU=>?_
    refine aA λI a w U=>?_
    refine U.cd (λal=>?_) λal=>?_
    ·rw[Hy] at al;replace al:=nt al
     refine ai λI a w U=>?_
     refine U.rt ?_
     exact bG (by unfold ey;rw[eB (f:=qP x) ah al];simp)
    ·rw[Hy] at al;replace al:=nf al
     refine aA λI a w U=>?_
     have U:=U.drop 0
     exact U.ag (k+1) (⟨by omega,fg aN al⟩)
   ·refine zt ?_
    refine aF λI a w U=>?_
    refine U.o (.cl (WX x.ar wU _ (λm hm=>Fn.xT (aam m (hf.1 m hm).1 (hf.1 m hm).2)))) λU=>?_
    refine bt λI a w U=>?_
    refine U.q .T (.cl (WY x.seen wV _ (λm _=>Fn.xT (Z6 m)))) λU=>?_
    refine gz λI a w U=>?_
    refine U.q .T (bY (Q5 x.calls x.time (by have:=NT ae;omega) hl hf.2) (aw .ag (aw .ag aL))) λU=>?_
    refine aA λI a w U=>?_
    refine U.rt ?_
    exact bG (by unfold ey;rw[ae,eP aN (by omega)];rfl)
theorem adx {w:aE} (h:ey w=true) (e:Ev):ey (fQ w e).1=true:=by
 unfold fQ;rw[if_pos h];exact Bn h e
theorem ady (q:Call) (m:aC) (t:Int) (h:dw q t) (ht:t<=1000000) (hm:bO m=true):
 Fn Tryz.prog 186 [q.av,m.av,AV.int t] ((dm q m t).av):=by
 refine Fn.go 99 Tryz.func186 Tryz.ntmps186 (λW I a U=>?_)
 have aj:=pZ.2 h
 have oH:=h.lens
 have hb:=h.bD
 have xA:=h.Bh (by omega)
 have bB:=qt.1 h.an
 refine aF λI a w U=>?_
 refine U.alloc rfl dQ gD λb6 I a w U=>?_
 refine aF λI a w U=>?_
 refine U.o (bY (Du q t (by omega)) (aw (.t rfl) (aw (.t rfl) aL))) λU=>?_
 refine ai λI a w U=>?_
 refine U.cd (λae=>?_) λae=>?_
 ·exfalso;rw[aj] at ae;cases ae
  skip
 ·refine bH λI a w U=>?_
  refine U.cG [] (Pv q h.small) (aw .tt aL) rfl (by decide) rfl λ⟨u,v⟩ I a w sq U=>?_
  dsimp only at U
  have U:=U.nf
  refine U.alloc rfl dQ gD λb7 I a w U=>?_
  refine aF λI a w U=>?_
  refine U.o (.c1 (Gi q)) λU=>?_
  refine xZ λI a w U=>?_
  refine U.q .F (bY (H5 m (by have:=u7 hm;unfold gh;omega) (by have:=u7 hm;unfold gh;omega)) (aw .ag aL)) λU=>?_
  refine UL λI a w U=>?_
  refine U.q .F (.cl (PN q.keys m.key)) λU=>?_
  refine aA λI a w U=>?_
  refine U.cd (λah=>?_) λah=>?_
  ·rw[Rb] at ah;replace ah:=nt ah
   refine wp_seq ?_
   obtain⟨I,U⟩:=U.fu 1 11 3
   obtain⟨I,U⟩:=U.fu 2 12 3
   have U:=U.nf
   refine aA λI a w U=>?_
   refine U.ret rfl (.cons (.sx 0) aX.nil) ?_
   exact(by unfold dm;rw[ah];rfl)
  ·rw[Rb] at ah;replace ah:=nf ah;have uj:=ah;simp only[Bool.and_eq_true,decide_eq_true_eq] at uj;obtain⟨⟨⟨⟨⟨_,_⟩,_⟩,jh⟩,hw⟩,rj⟩:=uj;have D5:=fV (oB hm).1
   refine aI λI a w U=>?_
   refine cz (λal=>?_) λal=>?_
   ·refine dD λI a w U=>?_
    refine U.q .T (.cl (yq ..)) λU=>?_
    refine ai λI a w U=>?_
    refine U.cd (λaH=>?_) λaH=>?_
    ·refine bt λI a w U=>?_
     refine U.rv 3 l5 .tt .tt rfl rfl rfl λa w U=>?_
     refine aA λI a w U=>?_
     obtain⟨I,U⟩:=U.fu 1 11 3
     obtain⟨I,U⟩:=U.fu 2 12 3
     have U:=U.nf
     refine aA λI a w U=>?_
     refine U.ret rfl (.cons (.sx 0) aX.nil) ?_
     exact(by unfold dm;rw[ah,if_pos rfl,if_pos al,if_pos (by simpa using aH)];rfl)
    ·refine wp_skip<|aY<|wp_seq ?_
     obtain⟨I,U⟩:=U.fu 1 11 3
     obtain⟨I,U⟩:=U.fu 2 12 3
     have U:=U.nf
     refine aA λI a w U=>?_
     refine U.ret rfl (.cons (.sx 0) aX.nil) ?_
     exact(by unfold dm;rw[ah,if_pos rfl,if_pos al,if_neg (by simpa using aH)];rfl)
   ·refine wp_skip<|aY<|wp_seq<|wp_seq<|U.dk ?_
    refine qn ?_
    refine .q .F2 (dS (i:=0) cJ bA .ag .c (λhg=>by simp at hg;omega)) ?_
    refine nx ?_
    refine .nil ?_
    intro I a w U
    refine aY ?_
    refine U.cd (λaM=>?_) λaM=>?_
    ·rw[C0] at aM;replace aM:=nt aM;rw[decide_eq_false_iff_not] at aM
     refine wp_seq ?_
     obtain⟨I,U⟩:=U.fu 1 11 3
     obtain⟨I,U⟩:=U.fu 2 12 3
     have U:=U.nf
     refine aA λI a w U=>?_
     refine U.ret rfl (.cons (.sx 0) aX.nil) ?_
     exact(by unfold dm jW;rw[ah,if_pos rfl,if_neg al,if_neg aM];rfl)
    ·rw[C0] at aM;replace aM:=nf aM;rw[decide_eq_true_eq] at aM
     refine wp_skip<|aY<|wp_seq ?_
     have vC:dw (jW q m t) t:=by have:=y9 (m:=m) h;unfold dm at this;rw[ah,if_pos rfl,if_neg al] at this;exact this
     refine bk λI a w U=>?_
     refine U.eT [1,2] (ado q u v m t t h hm aM jh) (aw .tt (aw .tt (aw .tt aL))) rfl (by decide) rfl λI a w U=>?_
     refine U.o (.c1 (Pw (jW q m t) vC.small)) λU=>?_
     refine ai λI a w U=>?_
     refine U.ret rfl (.cons (.sx 0) aX.nil) ?_
     exact(by unfold dm;rw[ah,if_pos rfl,if_neg al];rfl)
theorem I5 (x:aE) (h:yn x):
 Fn Tryz.prog 67 [x.av] (x.av):=by
 refine Fn.go 69 Tryz.func67 Tryz.ntmps67 (λW I a U=>?_)
 obtain⟨⟨h1,h2⟩,⟨h3,h4⟩,⟨h5,h6⟩,h7,h8⟩:=h
 have U:=U.gC (sz:=7) 61
 have U:=U.gC (sz:=13) 39
 have U:=U.gC (sz:=1) 34
 refine bH λI a w U=>?_
 refine U.alloc rfl df dz λb2 I a w U=>?_
 refine zt ?_
 refine U.da 7 ?_
 simp only[TD]
 refine dq ?_
 refine .o (.cl (Hx x.ar h3 h4)) ?_
 refine .o (.bd x5 (.k (.k bf.nil))) ?_
 refine gj.alloc df dz<|.nil ?_
 intro I a w U
 obtain⟨b3,U⟩:=U.tm (d:=3) rfl
 refine aA λI a w U=>?_
 refine St.lo (σ:=Nat×Value) (4::(run 18 13 [])) ⟨λ⟨k,p⟩=>[(4,AV.int k)],λ⟨k,p⟩=>[Own.row p 61 7 ((x.ax.take k).map Server.cells),Own.row (.slice none 0 0) 39 13 ([]),Own.row (.slice none 0 0) 34 1 ([]),Own.box b2 30 [AV.val (.int .i64 0),AV.rows 7 [],AV.rows 15 [],AV.rows 13 [],AV.rows 1 []],Own.box b3 30 [AV.int x.time,AV.val p,bq x.ar,AV.val (.slice none 0 0),AV.val (.slice none 0 0)]],λ⟨k,p⟩=>k<=x.ax.length⟩ (λ⟨k,p⟩=>x.ax.length-k) (0,(.slice none 0 0)) U ?aJ ?aK
 case aJ=>exact Nat.zero_le _
 case aK=>
  rintro⟨k,p⟩ I a w aj U
  have hk:k<=x.ax.length:=aj
  dsimp only at U
  refine ck λI a w U=>?_
  refine cz (λae=>?_) λae=>?_
  ·refine zt ?_
   refine U.dt 9 ?_
   simp only[TD]
   refine lF ?_
   refine .o (.c1 (AR _ (h2 _ (aV ae)))) ?_
   refine .o (.li [(ab x.ax k).cells] Cs (.u .nil)) ?_
   refine .nil ?_
   intro I a w U
   refine U.ap 0 λyF a w U=>?_
   rw[cA,<-dW ae] at U
   refine U.o .fv λU=>?_
   try have YG:=U.eJ 0 rfl
   refine aU λI a w U=>?_
   exact U.ag (k+1,yF) (ae)
  ·refine wp_exit<|cN<|cN<|gw<|aY<|wp_seq<|wp_seq ?_
   rw[List.take_of_length_le (by omega)] at U
   refine ai λI a w U=>?_
   refine St.lo (σ:=Nat×Value) (5::(run 18 31 [])) ⟨λ⟨k,q⟩=>[(5,AV.int k)],λ⟨k,q⟩=>[Own.row p 61 7 (x.ax.map Server.cells),Own.row q 39 13 ((x.calls.take k).map Call.cells),Own.row (.slice none 0 0) 34 1 ([]),Own.box b2 30 [AV.val (.int .i64 0),AV.rows 7 [],AV.rows 15 [],AV.rows 13 [],AV.rows 1 []],Own.box b3 30 [AV.int x.time,AV.val p,bq x.ar,AV.val q,AV.val (.slice none 0 0)]],λ⟨k,q⟩=>k<=x.calls.length⟩ (λ⟨k,q⟩=>x.calls.length-k) (0,(.slice none 0 0)) U ?cU ?cV
   case cU=>exact Nat.zero_le _
   case cV=>
    rintro⟨k,q⟩ I a w aj U
    have hk:k<=x.calls.length:=aj
    dsimp only at U
    refine ck λI a w U=>?_
    refine cz (λah=>?_) λah=>?_
    ·refine zt ?_
     refine U.dt 9 ?_
     simp only[TD]
     refine lF ?_
     refine .o (.c1 (HL _ (h6 _ (aV ah)))) ?_
     refine .o (.li [(ab x.calls k).cells] Cq (.u .nil)) ?_
     refine .nil ?_
     intro I a w U
     refine U.ap 1 λIr a w U=>?_
     rw[cA,<-dW ah] at U
     refine U.o .fv λU=>?_
     try have alm:=U.eJ 1 rfl
     refine aU λI a w U=>?_
     exact U.ag (k+1,Ir) (ah)
    ·refine wp_exit<|cN<|cN<|gw<|aY<|wp_seq<|wp_seq ?_
     rw[List.take_of_length_le (by omega)] at U
     refine ai λI a w U=>?_
     refine St.lo (σ:=Nat×Value) (6::(run 19 49 [])) ⟨λ⟨k,r⟩=>[(6,AV.int k)],λ⟨k,r⟩=>[Own.row p 61 7 (x.ax.map Server.cells),Own.row q 39 13 (x.calls.map Call.cells),Own.row r 34 1 ((x.seen.take k).map fE),Own.box b2 30 [AV.val (.int .i64 0),AV.rows 7 [],AV.rows 15 [],AV.rows 13 [],AV.rows 1 []],Own.box b3 30 [AV.int x.time,AV.val p,bq x.ar,AV.val q,AV.val r]],λ⟨k,r⟩=>k<=x.seen.length⟩ (λ⟨k,r⟩=>x.seen.length-k) (0,(.slice none 0 0)) U ?fo ?fq
     case fo=>exact Nat.zero_le _
     case fq=>
      rintro⟨k,r⟩ I a w aj U
      have hk:k<=x.seen.length:=aj
      dsimp only at U
      refine ck λI a w U=>?_
      refine cz (λal=>?_) λal=>?_
      ·refine zt ?_
       refine U.dt 10 ?_
       simp only[TD]
       refine bT ?_
       refine .o (rG dJ cH) ?_
       refine fi ?_
       refine .o (Ca dJ cH rfl .tt .r (λ_=>by have:=h8 _ (aV al);simp;omega)) ?_
       refine .o (.li [fE (ab x.seen k)] FZ (.v .nil)) ?_
       refine .nil ?_
       intro I a w U
       refine U.ap 2 λv66 a w U=>?_
       rw[cA,<-dW al] at U
       refine U.o .fv λU=>?_
       try have aln:=U.eJ 2 rfl
       refine aU λI a w U=>?_
       exact U.ag (k+1,v66) (al)
      ·refine wp_exit<|cN<|cN<|gw<|aY<|wp_seq ?_
       rw[List.take_of_length_le (by omega)] at U
       obtain⟨I,U⟩:=U.fu 0 1 4
       obtain⟨I,U⟩:=U.fu 1 3 4
       obtain⟨I,U⟩:=U.fu 2 4 4
       have U:=U.nf
       refine aA λI a w U=>?_
       refine U.ret rfl (.cons (.sx 3) aX.nil) ?_
       rfl
theorem Inv.owner {w:aE} (h:Inv w) {i:Nat} (hi:i<4) {v:aB} (hv:bU w (i/2) v) (U:dX (sv w i) v.key=1):v∈(sv w i).ao:=by
 rcases hv.cases with hv|hv
 ·exact hv
 ·have hb:behind (sv w (bW i)) (sv w (bW (bW i))) (vk v):=by
   rw[j8]
   exact OR (h.fits i hi _ (tV (jB (h.dj (oi hi)) (.inl hv)))) U
  have:=h.pj _ (oi hi) v hv hb
  rwa[j8] at this
theorem adA {w:aE} (h:Inv w) {i:Nat} (hi:i<4) {d:au} (hd:mX (sv w i) d=true):∃u,u.aT=d/\bU w (i/2) u:=by
 unfold mX at hd
 rw[Bool.or_eq_true,decide_eq_true_eq,decide_eq_true_eq] at hd
 rcases hd with hd|hd
 ·obtain⟨x,hx,e⟩:=pd.1 hd
  exact⟨x,e,bU.here hi hx⟩
 ·exact h.bl i hi d (xj.1 hd)
theorem adB {w:aE} {m:aC} (hk:m.kind=5) (h:∃v,m.ao=[v]/\bU w (m.aR/2).toNat v/\bL v.aq.site=m.aR/2):eN w m:=by
 constructor<;>intro e<;>first|exact h|(rw[hk] at e;exact absurd e (by decide))
theorem adC {w:aE} (h:Inv w) {i:Nat} (hi:i<4) (m:aC):∀x∈oC (sv w i) m,eN w x:=by
 have kq:=h.site hi
 unfold oC
 split
 ·rename_i hc
  rw[Bool.and_eq_true] at hc
  intro x hx
  obtain rfl:x=_:=by simpa using hx
  obtain⟨v,hv⟩:=Option.isSome_iff_exists.1 hc.1
  have jn:=yS hv
  refine acH rfl ⟨v,jn.2,?_⟩
  show bU w ((sv w i).site/2).toNat v
  rw[kq,show((i:Int)/2).toNat=i/2 by omega];exact bU.here hi jn.1
 ·intro x hx;simp at hx
theorem I6 {w:aE} (h:Inv w) {i:Nat} (hi:i<4) {m:aC} (hf:m.aR=fl (sv w i).site):m.aR.toNat=bW i/\(m.aR/2).toNat=i/2:=by
 rw[h.site hi,OO] at hf
 have:=nB i
 omega
theorem Rq {w y:aE} (h:Inv w) {i:Nat} (hi:i<4) {m:aC} (he:m.bz<=ep y i m.slot.toNat):eN y (oq (sv w i) m):=by
 have kq:=h.site hi
 refine acJ rfl ?_
 show(sv w i).site.toNat<4/\m.bz<=ep y (sv w i).site.toNat m.slot.toNat
 rw[kq,Int.toNat_natCast]
 exact⟨hi,he⟩
theorem Inv.Bq {w:aE} (h:Inv w) {σ:Nat} {v:aB} (hv:bU w σ v):dM v=true:=by
 obtain⟨i,hi,_,hv⟩:=hv
 exact jB (h.dj hi) (.inl hv)
theorem adD {w:aE} (h:Inv w) {q:Call} (hq:q∈w.calls):∀m∈jP q,eN w m:=by
 intro m hm
 unfold jP at hm
 split at hm
 ·obtain⟨ws,h1,h2⟩:=List.mem_flatten.1 hm
  obtain⟨x,hx,rfl⟩:=List.mem_map.1 h1
  have hc:=ui h.aW hq
  have ke:m.aR=10+q.an/\q.num=m.call/\m.to/2=q.an/\m.kind=x.kind/\m.key=x.key/\m.val=x.val/\m.aO=x.aO:=by
   unfold kb at h2
   rcases List.mem_cons.1 h2 with rfl|h2
   ·exact⟨rfl,rfl,by show 2*q.an/2=_;omega,rfl,rfl,rfl,rfl⟩
   ·obtain rfl:m=_:=by simpa using h2
    exact⟨rfl,rfl,by show(2*q.an+1)/2=_;omega,rfl,rfl,rfl,rfl⟩
  obtain⟨t1,t2,t3,t4,t5,t6,t7⟩:=ke
  unfold asks at hx
  split at hx
  ·rename_i hk
   obtain rfl:x=_:=by simpa using hx
   exact acK t4 ⟨q,hq,t1,t2,t3,hk,t5.symm,t6.symm,t7.symm⟩
  ·rcases List.mem_append.1 hx with hx|hx
   ·obtain⟨k,_,rfl⟩:=List.mem_map.1 hx
    exact Rg t4 ⟨q,hq,t1,t2,t3⟩
   ·obtain⟨k,_,rfl⟩:=List.mem_map.1 hx
    exact Rg t4 ⟨q,hq,t1,t2,t3⟩
 ·simp at hm
theorem Rr {ar more:List aC} {m:aC} (h:m∈eF ar more):m∈ar\/m∈more:=by
 unfold eF at h
 rcases List.mem_append.1 h with h|h
 ·exact .inl h
 ·exact .inr (List.mem_of_mem_take h)
theorem Rs {w:aE} {i:Nat} (hi:i<4) {s:Server} (U:sv w i=s) (kq:s.site=(i:Int)) {slot:Int} (h0:0<=slot) (bc:(ab s.aG slot.toNat).dH=2):eN w (fM s slot):=by
 refine acI rfl ?_
 have e:(fM s slot).aR.toNat=i:=by show s.site.toNat=i;rw[kq];omega
 rw[e,U]
 exact⟨hi,.inr (Y4 h0 bc)⟩
theorem adE {w:aE} (h:Inv w) {i:Nat} (hi:i<4):∀m∈kJ (sv w i),eN w m:=by
 have U:=h.dj hi
 have kq:=h.site hi
 intro m hm
 unfold kJ at hm
 split at hm
 ·rcases List.mem_append.1 hm with hm|hm
  ·rcases List.mem_append.1 hm with hm|hm
   ·obtain⟨k,hk,rfl⟩:=List.mem_map.1 hm
    have eD:=(List.mem_filter.1 hk).2
    exact Rs hi rfl kq (Int.natCast_nonneg _) (by rw[Int.toNat_natCast];simpa using eD)
   ·obtain⟨ws,h1,h2⟩:=List.mem_flatten.1 hm
    obtain⟨d,hd,rfl⟩:=List.mem_map.1 h1
    obtain⟨x,hx,e⟩:=U.o6 d hd
    have hv:∃v,dU (sv w i).ao d=some v:=by
     have:=NQ (sv w i).ao d
     rw[show decide (0<=placeOf (sv w i).ao d)=true from decide_eq_true (pd.2 ⟨x,hx,e⟩)] at this
     exact Option.isSome_iff_exists.1 this
    obtain⟨v,hv⟩:=hv
    have jn:=yS hv
    have ho:=h.aD i hi d hd
    have key:∀t:Int,eN w {cg with kind:=5,aR:=(sv w i).site,to:=t,ao:=(dU (sv w i).ao d).toList}:=λt=>by
     refine adB rfl ⟨v,by show(dU (sv w i).ao d).toList=[v];rw[hv];rfl,?_,?_⟩
     ·show bU w ((sv w i).site/2).toNat v
      rw[kq,show((i:Int)/2).toNat=i/2 by omega];exact bU.here hi jn.1
     ·show bL v.aq.site=(sv w i).site/2
      rw[show v.aq=d.aq from congrArg au.aq jn.2,ho,kq];omega
    unfold kH at h2
    split at h2
    ·rcases List.mem_cons.1 h2 with rfl|h2
     ·exact key _
     ·obtain rfl:m=_:=by simpa using h2
      exact key _
    ·simp at h2
  ·obtain⟨d,_,rfl⟩:=List.mem_map.1 hm
   exact acG rfl
 ·simp at hm
theorem I7:Inv cX:=by
 have h0:∀i,i<4->(sv cX i).ao=[]/\(sv cX i).waits=[]/\(sv cX i).aD=[]/\(sv cX i).bl=[]:=by decide
 have hv:∀σ v,¬bU cX σ v:=λσ v ⟨i,hi,_,h⟩=>by rw[(h0 i hi).1] at h;simp at h
 refine⟨(ko.1 A9).1,by decide,λi hi v h=>?_,λi hi v h=>?_,λi hi v h=>?_,λi hi v h=>?_,λi hi v h=>?_,λi hi v h=>?_,λi hi v h=>?_,λσ v h=>absurd h (hv σ v),λσ _ u _ h=>absurd h (hv σ u),λσ _ u _ h=>absurd h (hv σ u),λσ v h=>absurd h (hv σ v),λq hq=>by simp[cX] at hq,λq hq=>by simp[cX] at hq,?_,λq hq=>by simp[cX] at hq,λi hi=>by simp[cX] at hi,?_,λm hm=>by simp[cX] at hm⟩
 ·rw[(h0 i hi).1] at h;simp at h
 ·rw[(h0 i hi).2.1] at h;simp at h
 ·rw[(h0 i hi).1] at h;simp at h
 ·rw[(h0 i hi).2.1] at h;simp at h
 ·rw[(h0 i hi).2.2.2] at h;simp at h
 ·rw[(h0 i hi).2.2.1] at h;simp at h
 ·rw[(h0 i hi).1] at h;simp at h
 ·intro k hk
  have:ab cX.seen k=[]:=by revert k;decide
  rw[this];intro d hd;simp at hd
 ·intro k hk _;revert k;decide
theorem lS {w:aE} (h:Inv w) {σ:Nat} (hσ:σ<2) {v:aB}:v∈bI w (σ:Int)↔bU w σ v:=by
 have e0:(2*(σ:Int)).toNat=2*σ:=by omega
 have e1:(2*(σ:Int)+1).toNat=2*σ+1:=by omega
 have he:bI w (σ:Int)=(sv w (2*σ+1)).ao.foldl eH (sv w (2*σ)).ao:=by unfold bI sv;rw[e0,e1]
 rw[he]
 have fwd:∀{x},x∈(sv w (2*σ+1)).ao.foldl eH (sv w (2*σ)).ao->bU w σ x:=λ{x} hx=>by
  rcases yl hx with hx|hx
  ·exact⟨2*σ+1,by omega,by omega,hx⟩
  ·exact⟨2*σ,by omega,by omega,hx⟩
 refine⟨fwd,λ⟨i,hi,e,hv⟩=>?_⟩
 have iU:i=2*σ\/i=2*σ+1:=by omega
 rcases iU with rfl|rfl
 ·exact GF hv
 ·obtain⟨x,hx,e2⟩:=Pd (out:=(sv w (2*σ)).ao) hv
  have:=h.uniq _ _ x v (fwd hx) ⟨_,hi,e,hv⟩ e2
  rwa[this] at hx
theorem ze {w:aE} (h:Inv w) {σ:Nat} (hσ:σ<2) {v:aB} (hv:bU w σ v):dU (bI w (σ:Int)) v.aT=some v:=by
 have hp:=pd.2 ⟨v,(lS h hσ).2 hv,rfl⟩
 unfold dU
 rw[if_pos hp]
 obtain⟨h1,h2⟩:=lL hp
 exact congrArg some (h.uniq _ _ _ _ ((lS h hσ).1 (aV h1)) hv h2)
theorem I8 {q:Call} {t:Int} (hq:dw q t):qv q.ctx (dP q):=λkey=>by
 unfold dP
 split
 ·exact uZ _
 ·rename_i he
  split
  ·rename_i hk
   have U:db q.aq=true:=by
    have h1:=(hq.ended he).2.2.2.1 hk
    have h2:=hq.fits
    unfold kx at h2;rw[h1,Bool.false_or] at h2;exact h2
   exact Qn (d:=⟨ab q.keys 0,q.aq⟩) hq.ctx U key
  ·rw[(ud hq.ctx hq.aW).2 key];exact AM _ _
theorem adF {q:Call} {t:Int} (hq:dw q t) (he:q.end_≠0) {a:Answer} (ha:a∈q.az) (hy:a.yes=true):bP (bx (dP q) a.key) a.be.aq=false:=by
 have hk:q.kind≠1:=λe=>by rw[(hq.put e).1] at ha;simp at ha
 unfold dP
 rw[if_neg he,if_neg hk,(ud hq.ctx hq.aW).2 a.key]
 exact qE (qE (Y5 ha hy) (yh _ _)) (yh _ _)
theorem Rt {w:aE} (h:Inv w) {q:Call} (hq:q∈w.calls) (he:q.end_≠0) {a b:Answer} (ha:a∈q.az) (hb:b∈q.az):bP a.be.aq (bx b.be.aO a.key)=false:=by
 obtain⟨i,hi,rfl⟩:=gq hq
 have hg:=h.aW.call hi
 have hk:(ab w.calls i).kind≠1:=λe=>by rw[(hg.put e).1] at ha;simp at ha
 obtain⟨_,_,hn,_,hl⟩:=hg.ended he
 obtain⟨C,c1,c2,c3⟩:=(h.az _ hq).full hk (hl hk)
 have:=(c2 a ha).resolve_right (by rw[hn];simp)
 exact qE (c1 b hb a.key) this
theorem p9 (x:aE) (s:Int) (aj:ey x=true) (uM:0<=s/\s<=1):
 Fn Tryz.prog 28 [x.av,AV.int s] (bX (bI x s)):=by
 refine Fn.go 16 Tryz.func28 Tryz.ntmps28 (λW I a U=>?_)
 have hg:=(ko.1 aj).1
 have oH:=hg.small.2.2.1.1
 have jt:aQ s 0 1=true:=by simp[aQ];omega
 refine bk λI a w U=>?_
 refine U.o (.c1 (D7 x hg.Fit oH)) λU=>?_
 refine bk λI a w U=>?_
 refine U.q .F (.cl (jv ..)) λU=>?_
 refine aA λI a w U=>?_
 refine U.cd (λae=>?_) λae=>?_
 ·exfalso;rw[aj,jt] at ae;simp at ae
  skip
 ·refine aF λI a w U=>?_
  refine U.o (.c2 (Ib x s aj uM)) λU=>?_
  refine ai λI a w U=>?_
  refine U.rt ?_
  rfl
end Go.Proofs.YtjepcfpkclegdaaGreat

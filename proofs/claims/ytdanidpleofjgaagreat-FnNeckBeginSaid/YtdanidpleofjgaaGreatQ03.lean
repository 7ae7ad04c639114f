/- Part 63: contracts of functions, plain facts. -/
import Derived.Test.YtdanidpleofjgaaGreatP55
set_option linter.all false
set_option maxRecDepth 100000
set_option maxHeartbeats 4000000
namespace Go.Proofs.YtdanidpleofjgaaGreat
open Go Go.RowKit Tryz
attribute [local irreducible] wpList Code.wp Ok
def FM (w:aI) (s:Int):List aE:=(ab w.aw (2*s+1).toNat).an.foldl gS (ab w.aw (2*s).toNat).an
def Uq {w:aI} (h:fS w=true) {k:Nat} (hk:k<4):gQ (ab w.aw k)=true/\w.aw.length=4/\(ab w.aw k).site=k:=by
 simp only[fS,Bool.and_eq_true] at h;have hl:w.aw.length=4:=by
  have:=h.1.1.1.1;simp[pJ] at this;omega
 have:=(js.1 h.1.1.1.2) k om;unfold qJ at this;rw[Bool.and_eq_true] at this;exact⟨this.2,hl,by simpa using this.1⟩
def ajG {s:Server} (h:gQ s=true):tw s=true:=by
 simp only[gQ,Bool.and_eq_true] at h;exact h.1.1.1.1
def Ur {x:aI} (al:fS x=true) {i:Nat} (hi:i<4):bY (ab x.aw i).an=true/\bY (ab x.aw i).waits=true/\fY (ab x.aw i).aD=true/\fY (ab x.aw i).bj=true/\(ab x.aw i).aF.length=3:=by
 have h:=Uq al hi;have h2:=DI (ajG h.1);exact⟨h2.2.1,h2.2.2.1,h2.2.2.2.1,h2.2.2.2.2.1,h2.1⟩
def ajH (x:aI) (s:Int) (al:fS x=true) (C6:0<=s/\s<=1):
 Fn prog 67 [x.av,AV.int s] (bQ (FM x s)):=by
 refine Fn.go 39 func67 ntmps67 (λW I a U=>?_);have h4:=(Uq al (k:=0) om).2.1;obtain⟨ca,-⟩:=Ur al (i:=(2*s).toNat) om;obtain⟨cb,-⟩:=Ur al (i:=(2*s+1).toNat) om;have la:=gz ca;have lb:=gz cb;refine bO λI a w U=>?_;refine U.o (m6 .c .tt (λ_=>by omega)) λU=>?_;refine aV λI a w U=>?_;refine U.o (cr (iA.fn (vb (ab x.aw (2*s).toNat).an om (λv hv=>by have:=ph ca v hv;omega))) (ai .r aC)) λU=>?_;refine bz λI a w U=>?_;refine U.o (m6 .c .tt (λ_=>by omega)) λU=>?_;refine gY λI a w U=>?_;refine St.lo (σ:=Nat) (5::(7::(run 13 25 []))) ⟨λk=>[(25,AV.int k),(5,bQ (((ab x.aw (2*s+1).toNat).an.take k).foldl gS (ab x.aw (2*s).toNat).an))],λk=>[],λk=>k<=(ab x.aw (2*s+1).toNat).an.length⟩ (λk=>(ab x.aw (2*s+1).toNat).an.length-k) 0 U ?aL ?bG;case aL=>exact Nat.zero_le _
 rintro k I a w al U;have hk:k<=(ab x.aw (2*s+1).toNat).an.length:=al;refine ax λI a w U=>?_;refine cz (λae=>?_) λae=>?_
 .refine aH λI a w U=>?_;refine U.alloc rfl bU dR λb7 I a w U=>?_;refine ax λI a w U=>?_;obtain⟨I,U⟩:=U.fb 0 7;refine aH λI a w U=>?_;refine U.o (.c1 (nq ..)) λU=>?_;refine U.o (.cl (qV ..)) λU=>?_;refine ax λI a w U=>?_;refine cz (λah=>?_) λah=>?_
  .refine aH λI a w U=>?_;refine U.o (cr (D8 (((ab x.aw (2*s+1).toNat).an.take k).foldl gS (ab x.aw (2*s).toNat).an) (ab (ab x.aw (2*s+1).toNat).an k) (by have:=HJ ((ab x.aw (2*s+1).toNat).an.take k) (ab x.aw (2*s).toNat).an;simp at this;omega) (λv hv=>by have:=PE (λv hv=>ph cb v (List.mem_of_mem_take hv)) (ph ca) v hv;omega) (by have:=ph cb _ (bB ae);omega)) (ai .r (ai (.t rfl) aC))) λU=>?_;refine aN λI a w U=>?_;have U:=U.drop 0;refine U.again (k+1) ?ij ?ik dD ?il (by repeat(first|exact Env.le_rfl|refine Env.hP rfl ?_));case ij=>omega
   case ik=>exact ae
   case il=>exact(Env.dq rfl dD (Env.dq rfl (by first|exact congrArg bQ (by rw[Bg ae,gS,if_pos ah])|exact congrArg bQ (by rw[Bg ae,gS,if_neg om])) Env.le_nil))
  refine aB λI a w U=>?_;have U:=U.drop 0;refine U.again (k+1) ?mR ?mS dD ?mT (by repeat(first|exact Env.le_rfl|refine Env.hP rfl ?_));case mR=>omega
  case mS=>exact ae
  case mT=>exact(Env.dq rfl dD (Env.dq rfl (by first|exact congrArg bQ (by rw[Bg ae,gS,if_pos ah])|exact congrArg bQ (by rw[Bg ae,gS,if_neg om])) Env.le_nil))
 refine zt ?_;refine di ?_;exact congrArg bQ (by rw[List.take_of_length_le om];rfl)
def ajI (site:Nat) (h4:site<4):
 Fn prog 66 [AV.int (site:Int)] ((wF site).av):=by
 refine Fn.go 33 func66 ntmps66 (λW I a U=>?_);have AH:cO (site:Int)=true:=lK.2 om;refine sr<|U.alloc rfl cq dz λb2 I a w U=>?_;refine bA λI a w U=>?_;refine U.o (.c1 (tu ..)) λU=>?_;refine ax λI a w U=>?_;refine U.cd (λae=>?_) λae=>?_
 .exfalso;rw[AH] at ae;cases ae;skip
 refine bA λI a w U=>?_;refine U.o (.bd Dh (.k (.k aW.nil))) λU=>?_;refine U.alloc rfl cq Dh λb3 I a w U=>?_;refine ax λI a w U=>?_;have U:=U.fV (sz:=2) 46;refine ax λI a w U=>?_;refine St.lo (σ:=Nat×Value) (4::(run 21 11 [])) ⟨λ⟨k,v⟩=>[(11,AV.int k)],λ⟨k,v⟩=>[Own.box b2 43 [AV.val (.int .i64 0),AV.val (.bool false),AV.rows 2 [],AV.rows 7 [],AV.rows 7 [],AV.rows 3 [],AV.rows 3 []],Own.box b3 43 [AV.int (site:Int),AV.bool true,AV.val v,AV.val (.slice none 0 0),AV.val (.slice none 0 0),AV.val (.slice none 0 0),AV.val (.slice none 0 0)],Own.row v 46 2 ((sN site k).map cG.cells)],λ⟨k,v⟩=>k<=3⟩ (λ⟨k,v⟩=>3-k) (0,.slice none 0 0) U ?aL ?bG;case aL=>exact Nat.zero_le _
 rintro⟨k,v⟩ I a w al U;have hk:k<=3:=al;dsimp only at U;refine ax λI a w U=>?_;refine cz (λah=>?_) λah=>?_
 .refine aV λI a w U=>?_;refine U.o (qn .tt .c (λ_=>by omega)) λU=>?_;refine U.m λU=>?_;refine U.o (qn .tt .c (λ_=>by omega)) λU=>?_;refine ax λI a w U=>?_;refine cz (λaj=>?_) λaj=>?_
  .refine aH λI a w U=>?_;refine U.o (.bd mC (.k (.k aW.nil))) λU=>?_;refine U.o (.li [cG.cells ⟨1,1⟩] Di (.u .nil)) λU=>?_;refine U.append 2 rfl fP ew rfl .tt .r rfl (by rw[List.length_map,Fh];simp;omega) λD9 a w U=>?_;refine U.o .fv λU=>?_;try have apC:=U.dZ 2 rfl
   refine aN λI a w U=>?_;rw[bV,TO (by simpa using aj)] at U;exact U.ag (k+1,D9) (by show k+1<=3;omega)
  refine aH λI a w U=>?_;refine U.o (.bd mC aW.nil) λU=>?_;refine U.o (.li [cG.cells ⟨0,0⟩] Di (.u .nil)) λU=>?_;refine U.append 2 rfl fP ew rfl .tt .r rfl (by rw[List.length_map,Fh];simp;omega) λtV a w U=>?_;refine U.o .fv λU=>?_;try have TK:=U.dZ 2 rfl
  refine aN λI a w U=>?_;rw[bV,TP (by simpa using aj)] at U;exact U.ag (k+1,tV) (by show k+1<=3;omega)
 refine wp_exit<|cM<|cM<|fI<|bk<|wp_seq ?_;obtain⟨I,U⟩:=U.fu 2 2 1;have U:=U.mo (q:=3) 1 rfl rfl (eW 7 _);have U:=U.mo (q:=4) 1 rfl rfl (eW 7 _);have U:=U.mo (q:=5) 1 rfl rfl (eW 3 _);have U:=U.mo (q:=6) 1 rfl rfl (eW 3 _);refine aB λI a w U=>?_;refine U.ret rfl (.cons (.sx 0) ba.nil) ?_;have ku:k=3:=by omega
 subst ku;rfl
def ajJ:
 Fn prog 25 [] (fw.av):=by
 refine Fn.go 17 func25 ntmps25 (λW I a U=>?_);refine sr<|U.alloc rfl dx dB λb0 I a w U=>?_;refine zt ?_;refine U.make rfl yw qz WD rfl .c .c (by exact⟨by decide,by decide⟩) λb3 a w U=>?_;obtain⟨I,U⟩:=U.fr 1 3;refine U.o (.bd wm (.k aW.nil)) λU=>?_;refine U.alloc rfl dx wm λb1 I a w U=>?_;refine ax λI a w U=>?_;have U:=U.fV (sz:=7) 43;refine ax λI a w U=>?_;refine St.lo (σ:=Nat×Value) (2::(run 11 5 [])) ⟨λ⟨k,p⟩=>[(5,AV.int k)],λ⟨k,p⟩=>[Own.box b0 28 [AV.val (.int .i64 0),AV.rows 7 [],AV.rows 15 [],AV.rows 13 [],AV.rows 1 []],Own.gone,Own.box b1 28 [AV.int 0,AV.val p,AV.val (.slice none 0 0),AV.val (.slice none 0 0),gN [[],[]]],Own.row p 43 7 ((zO k).map Server.cells)],λ⟨k,p⟩=>k<=4⟩ (λ⟨k,p⟩=>4-k) (0,.slice none 0 0) U ?aL ?bG;case aL=>exact Nat.zero_le _
 rintro⟨k,p⟩ I a w al U;have hk:k<=4:=al;dsimp only at U;refine ax λI a w U=>?_;refine cz (λae=>?_) λae=>?_
 .refine aB λI a w U=>?_;refine U.dt 5 ?_;simp only[TD];refine dJ ?_;refine .o (cr (ajI k om) (ai (.t rfl) aC)) ?_;refine .o (.li [(wF k).cells] AU (.u .nil)) ?_;refine .nil ?_;intro I a w U;refine U.append 3 rfl pH cq rfl .tt .r rfl (by rw[List.length_map,Kv];simp;omega) λv13 a w U=>?_;refine U.o .fv λU=>?_;try have apD:=U.dZ 3 rfl
  refine ax λI a w U=>?_;rw[bV] at U;refine aB λI a w U=>?_;exact U.ag (k+1,v13) (by show k+1<=4;omega)
 refine wp_exit<|cM<|cM<|fI<|bk<|wp_seq ?_;have zT:k=4:=by omega
 subst zT;obtain⟨I,U⟩:=U.fu 3 1 2;have U:=U.mo (q:=2) 2 rfl rfl (eW 15 _);have U:=U.mo (q:=3) 2 rfl rfl (eW 13 _);refine aB λI a w U=>?_;refine U.ret rfl (.cons (.sx 0) ba.nil) ?_;rfl
def ajL (code:List UInt8) (aQ:code.length<=1099511627776):
 yr prog 26 [cg code] NW aI.av:=by
 refine yr.intro 19 func26 rfl ntmps26 rfl aG (λW I a U=>?_);refine sr<|U.alloc rfl dx dB λb2 I a w U=>?_;refine bA λI a w U=>?_;refine U.bq [] (TC code aQ) (ai .r aC) rfl aM rfl λr6 I a w uY U=>?_;obtain⟨br,cd⟩:=r6;replace uY:cd.length<=1099511627776:=uY;have dV:=uY;change St _ _ [Own.box b2 28 [AV.val (.int .i64 0),AV.rows 7 [],AV.rows 15 [],AV.rows 13 [],AV.rows 1 []],Own.box br 100 [cg cd,AV.int (0)]] _ _ _ at U;refine aH λI a w U=>?_;refine U.bq [1] (Lw br cd dV 0 0 om om om 16 om) (ai .tt (ai .c aC)) rfl aM rfl λr8 I a w qQ U=>?_;obtain⟨bs,s1,p1⟩:=r8;replace qQ:cP (0+26000) s1/\0<=p1/\p1<=((0+26000:Nat):Int):=qQ;obtain⟨gD,oR,xK⟩:=qQ;obtain⟨w1,l1,v1⟩:=s1;have jl:=gD.reach.bD;replace jl:cy w1:=jl;change St _ _ [Own.box b2 28 [AV.val (.int .i64 0),AV.rows 7 [],AV.rows 15 [],AV.rows 13 [],AV.rows 1 []],Own.box bs 77 [AV.val (.pointer (some ⟨br,0,none⟩)),AV.int w1.time,iG w1.aw,cQ w1.au,fB w1.calls,gN w1.seen,AV.val v1],Own.row v1 30 11 (l1.map Ev.cells),Own.box br 100 [cg cd,AV.int (p1)]] _ _ _ at U;refine aV λI a w U=>?_;refine U.alloc rfl dx dB λb4 I a w U=>?_;refine ax λI a w U=>?_;obtain⟨I,U⟩:=U.fb 4 4;refine U.m λU=>?_;refine U.bq [3] (eh br cd (p1) (2) om dV) (ai .tt (ai .c aC)) rfl aM rfl λ⟨ud,B7⟩ I a w ru U=>?_;replace ru:0<=ud/\(0<(2:Int)->ud<(2))/\B7=p1+1:=ru;obtain⟨J5,E3,rfl⟩:=ru;have U:=U.nf;refine ax λI a w U=>?_;refine U.cd (λae=>?_) λae=>?_
 .refine aH λI a w U=>?_;refine U.bq [3] (Ue br cd (p1+1) om dV w1 jl) (ai .tt (ai .tt aC)) rfl aM rfl λ⟨y17,zJ⟩ I a w lR U=>?_;have U:=U.nf;have Us:=lR.1;dsimp only at Us;refine ax λI a w U=>?_;refine U.bJ y17 [] rfl (.cons (.sx 0) .nil) Us rfl rfl
 refine aB λI a w U=>?_;refine U.bJ w1 [] rfl (.cons (.sx 0) .nil) jl.nw rfl rfl
def Ut (x:aI) (s:Int) (al:fS x=true) (C6:0<=s/\s<=1):
 Fn prog 27 [x.av,AV.int s] (bQ (FM x s)):=by
 refine Fn.go 16 func27 ntmps27 (λW I a U=>?_);have hg:=(jy.1 al).1;have nF:=hg.small.2.2.1.1;have kD:aS s 0 1=true:=by simp[aS];omega
 refine aV λI a w U=>?_;refine U.o (.c1 (Ci x hg.Fit nF)) λU=>?_;refine aV λI a w U=>?_;refine U.q .F (.cl (iS ..)) λU=>?_;refine aB λI a w U=>?_;refine U.cd (λae=>?_) λae=>?_
 .exfalso;rw[al,kD] at ae;simp at ae;skip
 refine aH λI a w U=>?_;refine U.o (.c2 (ajH x s al C6)) λU=>?_;refine bc ?_;rfl
def Uu (code:List UInt8):
 Fn prog 9 [cg code] (AV.bool true):=by
 refine Fn.go 45 func9 ntmps9 (λW I a U=>?_);have hle:=U.dE (t:=0) rfl;refine aY λI a w U=>?_;refine cz (λae=>?_) λae=>?_
 .refine bc ?_;rfl
 refine zt ?_;refine U.o (.cl (T6 ..)) λU=>?_;refine U.alloc rfl dx dB λb3 I a w U=>?_;refine ax λI a w U=>?_;obtain⟨I,U⟩:=U.fb 0 3;refine U.o (.cl (ajJ ..)) λU=>?_;refine U.alloc rfl dx dB λb4 I a w U=>?_;refine ax λI a w U=>?_;obtain⟨I,U⟩:=U.fb 1 4;refine U.m λU=>?_;refine U.bq [] (ajL code om) (ai .r aC) rfl aM rfl λx I a w sH U=>?_;replace sH:NW x:=sH;refine U.alloc rfl dx dB λb5 I a w U=>?_;refine ax λI a w U=>?_;obtain⟨I,U⟩:=U.fb 2 5;have l0:(FM fw 0).length=0:=rfl;have l1:(FM fw 1).length=0:=rfl;have l2:fw.au.length=0:=rfl;have l3:fw.calls.length=0:=rfl;refine U.dk ?_;refine cj ?_;refine .o (.c2 (pq fw (Fg xd))) ?_;refine cj ?_;refine .q .T (.cl (Ci fw (Cu xd).1 (Cu xd).2.1)) ?_;refine dJ ?_;refine .q .T (.cl (Ci x sH.1 sH.2.1)) ?_;refine aX ?_;refine .q .T (.cl (Cm x sH.2.2)) ?_;refine .q .T (vQ .ag .ag lj) ?_;refine dJ ?_;refine .q .T (cr (Ut fw 0 xd om) (ai .ag (ai .c aC))) ?_;refine cj ?_;refine .q .T (cr (Ut fw 1 xd om) (ai .ag (ai .c aC))) ?_;refine Wq ?_;refine .nil ?_;intro I a w U;refine zt ?_;refine U.rt ?_;exact bF (by rw[xd,l0,l1,l2,l3];simp)
end Go.Proofs.YtdanidpleofjgaaGreat

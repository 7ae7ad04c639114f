/- Part 20: contracts of functions, plain facts. -/
import Derived.Test.YtldbakcpcfdlaaaGreatP13
import Derived.Test.YtldbakcpcfdlaaaGreatP14
import Derived.Test.YtldbakcpcfdlaaaGreatP15
import Derived.Test.YtldbakcpcfdlaaaGreatP16
set_option linter.all false
set_option maxRecDepth 100000
set_option maxHeartbeats 4000000
namespace Go.Proofs.YtldbakcpcfdlaaaGreat
open Go Go.RowKit Tryz
attribute [local irreducible] wpList Code.wp Ok
def qN (l:List ao):
 Fn prog 90 [bm l] (AV.bool (ck l)):=by
 refine Fn.go 44 func90 ntmps90 (λW I a U=>?_);have hle:=U.dD (t:=0) rfl;refine ax λI a w U=>?_;refine St.lo (σ:=Nat) (run 42 2 []) ⟨λk=>[(3,AV.int k)],λk=>[],λk=>k<=l.length/\ck l=dL (jV l k) (l.drop k)/\-1<=jV l k⟩ (λk=>l.length-k) 0 U ?aD ?bh;case aD=>exact⟨by simp,rfl,by simp[jV]⟩
 rintro k I a w aj U;obtain⟨hk,hd,hp⟩:=aj;refine aU λI a w U=>?_;refine cz (λab=>?_) λab=>?_
 .refine zt ?_;refine U.dk ?_;refine fQ ?_;refine .o (.c1 (s9 ..)) ?_;refine ky ?_;refine .q .F (.cl (uL ..)) ?_;refine n5 ?_;refine ef ?_;refine .nil ?_;intro I a w U;refine ba ?_;refine U.cd (λah=>?_) λah=>?_
  .rw[Mg hp] at ah;simp only[Bool.not_eq_true'] at ah;refine aW ?_;exact bT (VV ab hd ah)
  rw[Mg hp] at ah;simp only[Bool.not_eq_false'] at ah;refine aI λI a w U=>?_;exact U.ag (k+1) (VU ab hd hp ah)
 refine zt ?_;refine aW ?_;exact bT (by rw[hd,List.drop_eq_nil_of_le om];rfl)
def Ht (v:aJ):
 Fn prog 251 [v.av] (AV.bool (fi v)):=by
 refine Fn.go 56 func251 ntmps251 (λW I a U=>?_);have G3:v.aK.length<=9223372036854775807:=by
  obtain⟨cs,_,hc⟩:=U.env 0 _ rfl;obtain⟨u,_,hu,_⟩:=hc.get (i:=6) rfl;exact yy hu
 refine aR λI a w U=>?_;refine U.o (.c1 (s9 ..)) λU=>?_;refine aR λI a w U=>?_;refine U.q .F (.cl (uL ..)) λU=>?_;refine bV λI a w U=>?_;refine U.q .F (.cl (iu ..)) λU=>?_;refine bV λI a w U=>?_;refine U.q .F (.cl (iu ..)) λU=>?_;refine bV λI a w U=>?_;refine U.q .F (.cl (iu ..)) λU=>?_;refine bV λI a w U=>?_;refine U.q .F (.cl (qN ..)) λU=>?_;refine ax λI a w U=>?_;refine U.cd (λab=>?_) λab=>?_
 .rw[show aS v.aB 0 1=fC v.aB from rfl,Ce v] at ab;replace ab:=nt ab;refine aW ?_;exact bT (by rw[wW,ab];rfl)
 rw[show aS v.aB 0 1=fC v.aB from rfl,Ce v] at ab;replace ab:=nf ab;refine al λI a w U=>?_;refine St.lo (σ:=Nat) (run 2 2 (run 18 38 [])) ⟨λk=>[(3,AV.int k)],λk=>[],λk=>k<=v.aK.length/\∀i,i<k->(λi=>decide ((ae v.aK i).aw.time<v.aw.time)) i=true⟩ (λk=>v.aK.length-k) 0 U ?aD ?bh;case aD=>exact⟨by simp,λi hi=>by omega⟩
 rintro k I a w aj U;obtain⟨hk,aT⟩:=aj;have hle:v.aK.length<=9223372036854775807:=G3;refine bP λI a w U=>?_;refine cz (λah=>?_) λah=>?_
 .refine al λI a w U=>?_;refine U.cd (λai=>?_) λai=>?_
  .rw[Cd] at ai;replace ai:=nt ai;refine aW ?_;exact bT (by rw[wW,ab];exact(fI (f:=(λi=>decide ((ae v.aK i).aw.time<v.aw.time))) ah ai).symm)
  rw[Cd] at ai;replace ai:=nf ai;refine aI λI a w U=>?_;exact U.ag (k+1) (⟨by omega,gf aT ai⟩)
 refine zt ?_;refine aW ?_;exact bT (by rw[wW,ab];exact(fD aT om).symm)
def tJ (l:List aJ):
 Fn prog 171 [cm l] (AV.bool (cD l)):=by
 refine Fn.go 36 func171 ntmps171 (λW I a U=>?_);have hle:=U.dD (t:=0) rfl;refine aU λI a w U=>?_;refine cz (λab=>?_) λab=>?_
 .refine aW ?_;exact bT (by simp[cD];omega)
 refine al λI a w U=>?_;refine St.lo (σ:=Nat) (run 2 2 (run 29 7 [])) ⟨λk=>[(3,AV.int k)],λk=>[],λk=>k<=l.length/\∀i,i<k->(eU fi gx l) i=true⟩ (λk=>l.length-k) 0 U ?aD ?bh;case aD=>exact⟨by simp,λi hi=>by omega⟩
 rintro k I a w aj U;obtain⟨hk,aT⟩:=aj;refine aU λI a w U=>?_;refine cz (λah=>?_) λah=>?_
 .refine zt ?_;refine U.dk ?_;refine ef ?_;refine .o (.c1 (Ht ..)) ?_;refine rz ?_;refine .q .T2 (.cl (LI ..)) ?_;refine ee ?_;refine .nil ?_;intro I a w U;refine ba ?_;refine U.cd (λai=>?_) λai=>?_
  .rw[sO] at ai;replace ai:=nt ai;refine aW ?_;exact bT (by unfold cD;rw[fI (f:=(eU fi gx l)) ah ai];simp)
  rw[sO] at ai;replace ai:=nf ai;refine aI λI a w U=>?_;exact U.ag (k+1) (⟨by omega,gf aT ai⟩)
 refine zt ?_;refine aW ?_;exact bT (by unfold cD;rw[fD aT om,Bool.and_true];simp;omega)
def ON {l:List Int} (h:kf l=true):l.Pairwise (·<·):=by
 have:=LS (f:=λn:Int=>n) (l:=l) λi h0 hi=>by
  have:=(jc.1 h) i hi;unfold eU at this;simp[nN] at this;have h1:=this.2;omega
 simpa using this
def sj (l:List aJ) (key:Int) (st:cG):
 Fn prog 174 [cm l,AV.int key,st.av] (AV.c8 [((jA l ⟨key,st⟩).getD default).av,AV.bool (jA l ⟨key,st⟩).isSome]):=by
 refine Fn.go 41 func174 ntmps174 (λW I a U=>?_);have hle:=U.dD (t:=0) rfl;refine aX λI a w U=>?_;refine U.alloc rfl bI dY λb6 I a w U=>?_;refine aA λI a w U=>?_;refine U.o (.cl (tJ ..)) λU=>?_;refine al λI a w U=>?_;refine U.cd (λab=>?_) λab=>?_
 .replace ab:=nt ab;refine zt ?_;refine U.o (.bd dY bf.nil) λU=>?_;refine ax λI a w U=>?_;refine U.ret rfl (.cons (.sx 0) (.cons (.t rfl) aZ.nil)) ?_;exact(by rw[Vb ab];rfl)
 replace ab:=nf ab;refine al λI a w U=>?_;refine St.lo (σ:=Nat) (run 2 7 (run 27 13 [])) ⟨λk=>[(8,AV.int k)],λk=>[Own.box b6 54 [AV.val (.int .i64 0),AV.val (.int .i64 0),AV.val (.int .i64 0),AV.val (.int .i64 0),AV.val (.int .i64 0),AV.val (.int .i64 0),AV.rows 3 []]],λk=>k<=l.length/\∀i,i<k->mR ⟨key,st⟩ (ae l i)=false⟩ (λk=>l.length-k) 0 U ?aD ?bh;case aD=>exact⟨Nat.zero_le _,λi hi=>by omega⟩
 rintro k I a w aj U;obtain⟨hk,aT⟩:=aj;refine aU λI a w U=>?_;refine cz (λah=>?_) λah=>?_
 .refine zt ?_;refine U.dk ?_;refine rz ?_;refine .q .T (n1 [_,_] [_,_] qh rfl rfl .ag .ag) ?_;refine br ?_;refine .nil ?_;intro I a w U;refine ba ?_;refine U.cd (λai=>?_) λai=>?_
  .rw[LX] at ai;refine aR λI a w U=>?_;refine U.o (bx (ou _ (by have:=V0 (s6 ab ah);omega)) (an (.t rfl) aH)) λU=>?_;refine ax λI a w U=>?_;refine U.ret rfl (.cons (.sx 0) (.cons (.t rfl) aZ.nil)) ?_;exact(by rw[U9 ab ah aT ai];rfl)
  rw[LX] at ai;refine aI λI a w U=>?_;exact U.ag (k+1) (⟨ah,λi h1=>by rcases Nat.lt_succ_iff_lt_or_eq.1 h1 with h|h;exact aT i h;rw[h];exact ai⟩)
 refine zt ?_;refine U.o (.bd dY bf.nil) λU=>?_;refine ax λI a w U=>?_;refine U.ret rfl (.cons (.sx 0) (.cons (.t rfl) aZ.nil)) ?_;exact(by rw[Va om aT];rfl)
def OO (l:List ao) (v:ao):(eN l v).length<=l.length+1:=by
 unfold eN;split
 .omega
 rw[LY];exact Nat.le_refl _
def gF (s:Server) (m:az):aJ:=⟨m.key,pw s.site (jC s m),m.val,m.bj-10,m.call,m.aK⟩
def ie (s:Server) (m:az):Server×List az:=
 if aS m.bj 10 11&&decide (1<=m.call)&&fR s m.key then
  match kV s m.key (m.bj-10) m.call with
  |some v=>(s,[mh s m v.aw])
  |none=>if jj (jC s m)&&iv s.ar (gF s m)&&decide (s.aE.length<80) then
    (g9 {s with ar:=fF s.ar (gF s m),aE:=eN s.aE (gF s m).bD},[mh s m (gF s m).aw])
   else(s,[])
 else(s,[])
def Za (l:List ao) (key:Int) (hl:ck l=true):
 Fn prog 369 [bm l,AV.int key] ((cB l key).av):=by
 refine Fn.go 29 func369 ntmps369 (λW I a U=>?_);have hle:=U.dD (t:=0) rfl;refine sr<|U.alloc rfl jg iI λb4 I a w U=>?_;refine aX λI a w U=>?_;refine U.o (.cl (qN ..)) λU=>?_;refine al λI a w U=>?_;refine U.cd (λab=>?_) λab=>?_
 .exfalso;rw[hl] at ab;cases ab;skip
 refine al λI a w U=>?_;refine St.lo (σ:=Nat) (5::(run 18 10 [])) ⟨λk=>[(5,AV.int k)],λk=>[Own.box b4 42 [AV.val (.int .i64 0),AV.val (.int .i64 0)]],λk=>k<=l.length/\∀i,i<k->oA key (ae l i)=false⟩ (λk=>l.length-k) 0 U ?aD ?bh;case aD=>exact⟨Nat.zero_le _,λi hi=>by omega⟩
 rintro k I a w aj U;obtain⟨hk,aT⟩:=aj;refine aU λI a w U=>?_;refine cz (λah=>?_) λah=>?_
 .refine fW λI a w U=>?_;refine U.cd (λai=>?_) λai=>?_
  .refine gy λI a w U=>?_;refine U.ret rfl (.cons (.sx 0) aZ.nil) ?_;exact(by rw[MU ah aT ai];rfl)
  refine aI λI a w U=>?_;exact U.ag (k+1) (⟨ah,λi h1=>by rcases Nat.lt_succ_iff_lt_or_eq.1 h1 with h|h;exact aT i h;rw[h];exact ai⟩)
 refine zt ?_;refine U.o (.bd iI bf.nil) λU=>?_;refine al λI a w U=>?_;refine U.ret rfl (.cons (.sx 0) aZ.nil) ?_;exact(by rw[MV om aT];rfl)
def Hu (l:List ao) (d:ao) (hl:ck l=true) (hd:kh d=true):
 Fn prog 243 [bm l,d.av] (bm (gT l d)):=by
 refine Fn.go 85 func243 ntmps243 (λW I a U=>?_);have zZ:=gU hl;have C7:=W1 d;refine sr<|U.box rfl .tt λb3 I a w U=>?_;refine aA λI a w U=>?_;refine U.o (.cl (qN ..)) λU=>?_;refine aV λI a w U=>?_;refine U.q .F (.li [_] gM (.u .nil)) λU=>?_;refine U.q .F (.cl (qN [d])) λU=>?_;refine ax λI a w U=>?_;refine U.cd (λab=>?_) λab=>?_
 .exfalso;rw[hl,C7,hd] at ab;cases ab;skip
 refine zt ?_;refine U.l0 λOP I a w U=>?_;refine aI λI a w U=>?_;refine St.lo (σ:=Nat×Bool×List ao×Value×ao) (run 3 5 (run 59 19 [])) ⟨λ⟨k,done,out,v,e⟩=>[(7,AV.int k),(6,AV.bool done),(5,AV.val v)],λ⟨k,done,out,v,e⟩=>[Own.box b3 125 e.cells,Own.row v 125 3 (out.map ao.cells)],λ⟨k,done,out,v,e⟩=>jR l d k done out/\e.key=d.key/\(done=false->e=d)⟩ (λ⟨k,done,out,v,e⟩=>l.length-k) (0,false,[],.slice (some ⟨OP,0,none⟩) 0 0,d) U ?aD ?bh;case aD=>exact⟨jR.zero l d,rfl,λ_=>rfl⟩
 rintro⟨k,done,out,v,e⟩ I a w aj U;obtain⟨hp,xh,As⟩:=aj;have hk:=hp.hk;have jM:=hp.len;have qc:done.toNat<=1:=by cases done<;>simp
 dsimp only at U;refine aU λI a w U=>?_;refine cz (λah=>?_) λah=>?_
 .refine al λI a w U=>?_;refine cz (λai=>?_) λai=>?_
  .refine wp_seq<|wp_seq<|U.dk ?_;refine wh ?_;refine .q .T (DN 0 jg .ag rfl rfl rfl) ?_;refine fQ ?_;refine .q .T (.cl (wQ ..)) ?_;refine br ?_;refine .nil ?_;intro I a w U;refine ba ?_;refine cz (λaG=>?_) λaG=>?_
   .refine fm λI a w U=>?_;refine U.o (.li [(ae l k).cells] gM (.u .nil)) λU=>?_;refine U.ap 1 λHv a w U=>?_;rw[cA] at U;refine aI λI a w U=>?_;refine KC (λaL=>?_) λaL=>?_
    .exfalso;simp at aL;skip
    refine aI λI a w U=>?_;exact U.ag (k+1,true,out++[ae l k],Hv,ae l k) (by obtain⟨h1,h2⟩:=ai;obtain rfl:=As h1;subst h1;have h:=(hp.same hl ah aG.1).2;rw[<-LM _ _ aG.1,if_pos aG.2] at h;exact⟨h,aG.1,λh=>by cases h⟩)
   refine aA λI a w U=>?_;refine U.o (.li [e.cells] gM (.u .nil)) λU=>?_;refine U.ap 1 λHv a w U=>?_;rw[cA] at U;refine aI λI a w U=>?_;refine cz (λbc=>?_) λbc=>?_
   .refine bV λI a w U=>?_;refine U.o (.li [(ae l k).cells] gM (.u .nil)) λU=>?_;refine U.ap 1 λHw a w U=>?_;rw[cA] at U;refine aU λI a w U=>?_;exact U.ag (k+1,true,(out++[e])++[ae l k],Hw,e) (by obtain⟨h1,h2⟩:=ai;obtain rfl:=As h1;subst h1;exact⟨hp.before hl ah om,rfl,λh=>by cases h⟩)
   refine aI λI a w U=>?_;exact U.ag (k+1,true,out++[e],Hv,e) (by obtain⟨h1,h2⟩:=ai;obtain rfl:=As h1;subst h1;have h:=(hp.same hl ah bc).2;rw[<-LM _ _ bc,if_neg (by rcases aG with h4|h4;exact absurd bc h4;rw[h4];simp)] at h;exact⟨h,rfl,λh=>by cases h⟩)
  refine al λI a w U=>?_;refine uz (λaY=>?_) λaY=>?_
  .refine bV λI a w U=>?_;refine U.o (.li [(ae l k).cells] gM (.u .nil)) λU=>?_;refine U.ap 1 λHw a w U=>?_;rw[cA] at U;refine aU λI a w U=>?_;exact U.ag (k+1,done,out++[ae l k],Hw,e) (⟨hp.step ah om λhd=>by(rcases ai with h|h;(rw[hd] at h;cases h);omega),xh,As⟩)
  exfalso;simp only[bne_eq_false_iff_eq] at aY;rcases ai with h|h;(have:=hp.late h k (Nat.le_refl _) ah;omega);omega
  skip
 refine zt ?_;refine ax λI a w U=>?_;refine cz (λbz=>?_) λbz=>?_
 .refine aA λI a w U=>?_;refine U.o (.li [e.cells] gM (.u .nil)) λU=>?_;refine U.ap 1 λOQ a w U=>?_;rw[cA] at U;refine aI λI a w U=>?_;obtain⟨I,U⟩:=U.fr 1 4;refine U.rt ?_;exact congrArg (AV.rows 3) (by obtain rfl:=As bz;subst bz;exact hp.rZ om▸rfl)
 refine ax λI a w U=>?_;obtain⟨I,U⟩:=U.fr 1 4;refine U.rt ?_;exact congrArg (AV.rows 3) (by subst bz;rw[hp.rY om])
def Zb (x:Answer):
 Fn prog 247 [x.av] (AV.bool (u0 x)):=by
 refine Fn.go 55 func247 ntmps247 (λW I a U=>?_);refine bP λI a w U=>?_;refine cz (λab=>?_) λab=>?_
 .refine aA λI a w U=>?_;refine U.alloc rfl bI dY λb3 I a w U=>?_;refine al λI a w U=>?_;obtain⟨I,U⟩:=U.fb 0 3;refine aA λI a w U=>?_;refine U.o (.c1 (s9 ..)) λU=>?_;refine Sa λI a w U=>?_;refine U.q .T (.bd iI bf.nil) λU=>?_;refine U.q .T (n1 [_,_] [_,_] qh rfl rfl .ag .ag) λU=>?_;refine et λI a w U=>?_;refine U.rt ?_;exact bT (by rw[<-Ww x ab,<-B8])
 refine aA λI a w U=>?_;refine U.o (.c1 (Ht ..)) λU=>?_;refine iG λI a w U=>?_;refine U.rt ?_;exact bT (by unfold u0;rw[ab];rfl)
def OR (l:List aJ) (key:Int) (hc:cD l=true):
 Fn prog 334 [cm l,AV.int key] (AV.c8 [((gD l key).getD default).av,AV.bool (gD l key).isSome]):=by
 refine Fn.go 31 func334 ntmps334 (λW I a U=>?_);have hle:=U.dD (t:=0) rfl;have Ao:=gV hc;refine sr<|U.alloc rfl bI dY λb4 I a w U=>?_;refine aA λI a w U=>?_;refine U.o (.cl (tJ ..)) λU=>?_;refine al λI a w U=>?_;refine U.cd (λab=>?_) λab=>?_
 .exfalso;rw[hc] at ab;cases ab;skip
 refine aU λI a w U=>?_;refine St.lo (σ:=Nat) (run 2 5 (run 16 14 [])) ⟨λj=>[(6,AV.int ((j:Int)-1))],λj=>[Own.box b4 54 [AV.val (.int .i64 0),AV.val (.int .i64 0),AV.val (.int .i64 0),AV.val (.int .i64 0),AV.val (.int .i64 0),AV.val (.int .i64 0),AV.rows 3 []]],λj=>j<=l.length/\∀i,j<=i->i<l.length->r5 key (ae l i)=false⟩ (λj=>j) l.length U ?aD ?bh;case aD=>exact⟨Nat.le_refl _,λi h1 h2=>by omega⟩
 rintro j I a w aj U;obtain⟨hk,aT⟩:=aj;refine ax λI a w U=>?_;refine cz (λah=>?_) λah=>?_
 .refine fW λI a w U=>?_;refine U.cd (λai=>?_) λai=>?_
  .refine aR λI a w U=>?_;refine U.o (bx (ou _ (by have:=tf hc _ (bK (k:=((j:Int)-1).toNat) om);omega)) (an (.t rfl) aH)) λU=>?_;refine ax λI a w U=>?_;refine U.ret rfl (.cons (.sx 0) (.cons (.t rfl) aZ.nil)) ?_;exact(by rw[M1 (k:=((j:Int)-1).toNat) om (λi h1 h2=>aT i om h2) ai];rfl)
  refine aI λI a w U=>?_;refine U.again (j-1) ?bM ?bN bF ?bO (by repeat(first|exact Env.le_rfl|refine Env.dj rfl ?_));case bM=>omega
  case bN=>exact⟨by omega,λi h1 h2=>by by_cases h:i=((j:Int)-1).toNat;(subst h;exact ai);exact aT i om h2⟩
  case bO=>exact(Env.bt rfl (by first|rfl|exact congrArg AV.int om) Env.le_nil)
 refine zt ?_;refine U.o (.bd dY bf.nil) λU=>?_;refine ax λI a w U=>?_;refine U.ret rfl (.cons (.sx 0) (.cons (.t rfl) aZ.nil)) ?_;exact(by rw[M2 λi h=>aT i om h];rfl)
def C8 (l:List aJ) (slot:Int) (hc:cD l=true):
 Fn prog 340 [cm l,AV.int slot] (AV.c8 [cm (l.filter (fG slot)),cm (l.filter (λv=>!fG slot v))]):=by
 refine Fn.go 48 func340 ntmps340 (λW I a U=>?_);have hle:=U.dD (t:=0) rfl;have Ao:=gV hc;have kj:=tf hc;refine ax λI a w U=>?_;refine U.l0 λb9 I a w U=>?_;refine al λI a w U=>?_;refine U.l0 λjD I a w U=>?_;refine aA λI a w U=>?_;refine U.o (.cl (tJ ..)) λU=>?_;refine al λI a w U=>?_;refine U.cd (λab=>?_) λab=>?_
 .exfalso;rw[hc] at ab;cases ab;skip
 refine al λI a w U=>?_;refine St.lo (σ:=Nat×Value×Value) (run 3 6 (run 30 16 [])) ⟨λ⟨k,u,v⟩=>[(8,AV.int k),(6,AV.val u),(7,AV.val v)],λ⟨k,u,v⟩=>[Own.row u 54 7 (((l.take k).filter (fG slot)).map aJ.cells),Own.row v 54 7 (((l.take k).filter (λv=>!fG slot v)).map aJ.cells)],λ⟨k,u,v⟩=>k<=l.length⟩ (λ⟨k,u,v⟩=>l.length-k) (0,.slice (some ⟨b9,0,none⟩) 0 0,.slice (some ⟨jD,0,none⟩) 0 0) U ?aD ?bh;case aD=>exact Nat.zero_le _
 rintro⟨k,u,v⟩ I a w aj U;have hk:k<=l.length:=aj;have MB:=qC (fG slot) l k;have MC:=qC (λv=>!fG slot v) l k;dsimp only at U;refine aU λI a w U=>?_;refine cz (λah=>?_) λah=>?_
 .refine bV λI a w U=>?_;refine U.o (.c1 (ta ..)) λU=>?_;refine ax λI a w U=>?_;refine U.cd (λai=>?_) λai=>?_
  .change fG slot (ae l k)=true at ai;refine bV λI a w U=>?_;refine U.o (bx (ou _ (by have:=kj _ (bK ah);omega)) (an (.t rfl) aH)) λU=>?_;refine U.o (.li [(ae l k).cells] j9 (.u .nil)) λU=>?_;refine U.ap 0 λAq a w U=>?_;rw[cA,<-mU ah ai,show(l.take k).filter (λv=>!fG slot v)=(l.take (k+1)).filter (λv=>!fG slot v) from(mV ah (by show(!fG slot _)=false;rw[ai];rfl)).symm] at U;refine aU λI a w U=>?_;exact U.ag (k+1,Aq,v) (ah)
  change fG slot (ae l k)=false at ai;refine bV λI a w U=>?_;refine U.o (bx (ou _ (by have:=kj _ (bK ah);omega)) (an (.t rfl) aH)) λU=>?_;refine U.o (.li [(ae l k).cells] j9 (.u .nil)) λU=>?_;refine U.ap 1 λAu a w U=>?_;rw[cA,<-mU (p:=(λv=>!fG slot v)) ah (by show(!fG slot _)=true;rw[ai];rfl),show(l.take k).filter (fG slot)=(l.take (k+1)).filter (fG slot) from(mV ah ai).symm] at U;refine aU λI a w U=>?_;exact U.ag (k+1,u,Au) (ah)
 refine zt ?_;refine aU λI a w U=>?_;obtain⟨I,U⟩:=U.fr 0 4;obtain⟨I,U⟩:=U.fr 1 5;refine U.rt ?_;exact(by rw[List.take_of_length_le om];rfl)
def OS (s:Server) (d:ao) (hc:cD s.ar=true):
 Fn prog 318 [s.av,d.av] (AV.bool (nC s d)):=by
 refine Fn.go 25 func318 ntmps318 (λW I a U=>?_);refine yR λI a w U=>?_;refine U.o (.cl (sj ..)) λU=>?_;refine aV λI a w U=>?_;refine U.alloc rfl bI dY λb5 I a w U=>?_;refine U.sb 0 λU=>?_;obtain⟨I,U⟩:=U.fb 0 5;refine df λI a w U=>?_;refine U.q .F (.cl (zU ..)) λU=>?_;refine ry ?_;exact bT (by unfold nC;rw[wS hc])
def Zc (s:Server) (v:aJ) (hc:cD s.ar=true):
 Fn prog 357 [s.av,v.av] (AV.bool (BX s v)):=by
 refine Fn.go 21 func357 ntmps357 (λW I a U=>?_);have lens:v.aK.length<=9223372036854775807:=U.ln 1 6;refine aU λI a w U=>?_;refine St.lo (σ:=Nat) (run 17 4 []) ⟨λk=>[(5,AV.int k)],λk=>[],λk=>k<=v.aK.length/\∀i,i<k->(λi=>nC s (ae v.aK i)) i=true⟩ (λk=>v.aK.length-k) 0 U ?aD ?bh;case aD=>exact⟨Nat.zero_le _,λi hi=>by omega⟩
 rintro k I a w aj U;obtain⟨qD,aT⟩:=aj;refine bP λI a w U=>?_;refine cz (λab=>?_) λab=>?_
 .refine zt ?_;refine U.dk ?_;refine gS ?_;refine .o (.c2 (OS _ _ hc)) ?_;refine br ?_;refine .nil ?_;intro I a w U;refine ba ?_;refine cz (λah=>?_) λah=>?_
  .refine aW ?_;exact bT (fI (f:=λi=>nC s (ae v.aK i)) ab ah).symm
  refine aI λI a w U=>?_;exact U.ag (k+1) (⟨by omega,gf aT ah⟩)
 refine zt ?_;refine aW ?_;exact bT (fD aT om).symm
def eI.OT {s:Server} (h:eI s) {d:ao} (hl:s.bq.length<80):eI {s with bq:=eN s.bq d}:=⟨h.aQ,h.ar,h.waits,h.apart,by have:=OO s.bq d;show(eN s.bq d).length<=80;omega⟩
def Zd {l:List ao} {d x:ao}:x∈eN l d↔x=d\/x∈l:=by
 unfold eN;split
 .rename_i h;exact⟨.inr,λh'=>h'.elim (λe=>e▸wZ.1 h) id⟩
 exact CJ
def Ze (s:Server) (m:az):(ie s m).1.site=s.site:=by
 unfold ie;split
 .split
  .rfl
  split
  .exact xf _
  rfl
 rfl
def OU (s:Server) (slot:Int) (h1:cD s.ar=true) (h2:cD s.waits=true) (ho:s.aE.length<=80):
 Fn prog 339 [s.av,AV.int slot] ((eJ s slot).av):=by
 refine Fn.go 51 func339 ntmps339 (λW I a U=>?_);have lens:s.aQ.length<=9223372036854775807/\s.ar.length<=9223372036854775807/\s.waits.length<=9223372036854775807/\s.aE.length<=9223372036854775807/\s.bq.length<=9223372036854775807:=⟨U.ln 0 2,U.ln 0 3,U.ln 0 4,U.ln 0 5,U.ln 0 6⟩;refine sr<|U.box rfl .tt λb2 I a w U=>U.alloc rfl bL di λb4 I a w U=>?_;refine aV λI a w U=>?_;refine U.o (.cl (C8 _ _ h1)) λU=>?_;refine lJ λI a w U=>?_;refine U.o (.cl (C8 _ _ h2)) λU=>?_;refine bP λI a w U=>?_;refine U.l0 λZf I a w U=>?_;refine ax λI a w U=>?_;refine St.lo (σ:=Nat×Value) (run 2 5 (run 24 24 [])) ⟨λ⟨k,v⟩=>[(6,AV.int k),(5,AV.val v)],λ⟨k,v⟩=>[Own.box b2 95 [AV.int s.site,AV.bool s.up,l4 s.aQ,cm (s.ar.filter λv=>!fG slot v),cm (s.waits.filter λv=>!fG slot v),bm s.aE,bm s.bq],Own.box b4 95 [AV.val (.int .i64 0),AV.val (.bool false),AV.rows 2 [],AV.rows 7 [],AV.rows 7 [],AV.rows 3 [],AV.rows 3 []],Own.row v 125 3 (((s.aE.take k).filter (λd=>!gC slot d)).map ao.cells)],λ⟨k,v⟩=>k<=s.aE.length⟩ (λ⟨k,v⟩=>s.aE.length-k) (0,.slice (some ⟨Zf,0,none⟩) 0 0) U ?aD ?bh;case aD=>exact Nat.zero_le _
 rintro⟨k,v⟩ I a w aj U;have hk:k<=s.aE.length:=aj;have jK:=qC (λd=>!gC slot d) s.aE k;dsimp only at U;refine bP λI a w U=>?_;refine cz (λab=>?_) λab=>?_
 .refine df λI a w U=>?_;refine U.o (.c1 (ta ..)) λU=>?_;refine ax λI a w U=>?_;refine U.cd (λah=>?_) λah=>?_
  .change(λd=>!gC slot d) (ae s.aE k)=true at ah;refine df λI a w U=>?_;refine U.o (.li [(ae s.aE k).cells] gM (.u .nil)) λU=>?_;refine U.ap 2 λHx a w U=>?_;rw[cA,<-mU (p:=(λd=>!gC slot d)) ab ah] at U;refine aU λI a w U=>?_;exact U.ag (k+1,Hx) (ab)
  change(λd=>!gC slot d) (ae s.aE k)=false at ah;refine aI λI a w U=>?_;rw[show(s.aE.take k).filter (λd=>!gC slot d)=(s.aE.take (k+1)).filter (λd=>!gC slot d) from(mV ab ah).symm] at U;exact U.ag (k+1,v) (ab)
 refine zt ?_;refine U.m λU=>?_;obtain⟨I,U⟩:=U.fr 2 48;refine aU λI a w U=>?_;refine U.ret rfl (.cons (.sx 1) aZ.nil) ?_;exact(by rw[show s.aE.take k=s.aE from List.take_of_length_le om];rfl)
def OV (s:Server) (m:az):(!jj (jC s m)||!iv s.ar (gF s m)||decide (80<=(s.aE.length:Int)))=!(jj (jC s m)&&iv s.ar (gF s m)&&decide (s.aE.length<80)):=by
 have e:decide (80<=(s.aE.length:Int))=!decide (s.aE.length<80):=by rw[Bool.eq_iff_iff];simp;omega
 rw[e];simp
def OW:∀(ds l:List ao),(ds.foldl eN l).length<=l.length+ds.length
 |[],l=>by simp
 |d::r,l=>by have h1:=OW r (eN l d);have h2:=OO l d;simp only[List.foldl_cons,List.length_cons];omega
def OX (l ds:List ao) (k:Nat):((ds.take k).foldl eN l).length<=l.length+k:=by
 have h1:=OW (ds.take k) l;have h2:(ds.take k).length<=k:=by simp;omega
 omega
def Zg (s:Server) (m:az):(ie s m).2.length<=1:=by
 unfold ie;split
 .split
  .simp
  split<;>simp
 simp
def C9 (l:List aJ) (h:l.length<=1048576) (hd:∀v∈l,v.aK.length<=1048576):
 bG prog 130 [cm l] [] (λp:Value×List VT=>p.2.map VT.x=l) (λp=>[Own.ar KK p.1 p.2]) (λp=>AV.val p.1):=by
 refine bG.intro 19 func130 rfl ntmps130 rfl aq (λW I a U=>?_);have U:=U.en (sz:=7) KK.bl;have U:=U.mO;refine bP λI a w U=>?_;refine St.lo (σ:=List VT×Value) (3::(5::(run 10 8 []))) ⟨λ⟨ts,v⟩=>[(8,AV.int (ts.length:Nat)),(3,AV.val v)],λ⟨ts,v⟩=>[Own.row v KK.bl 7 (ts.map VT.cells),Own.many (ts.map λx=>Own.many (VT.owns KK x))],λ⟨ts,v⟩=>ts.map VT.x=l.take ts.length/\ts.length<=l.length⟩ (λ⟨ts,v⟩=>l.length-ts.length) ([],.slice none 0 0) U ?aD ?bh;case aD=>exact⟨by simp,Nat.zero_le _⟩
 rintro⟨ts,v⟩ I a w aj U;obtain⟨ig,hk⟩:=aj;dsimp only at U;refine al λI a w U=>?_;refine cz (λab=>?_) λab=>?_
 .refine aA λI a w U=>?_;refine U.alloc rfl bI dY λb5 I a w U=>?_;refine al λI a w U=>?_;obtain⟨I,U⟩:=U.fb 2 5;refine aA λI a w U=>?_;refine U.dX [] (MK (ae l ts.length) (hd _ (bK ab))) (an .tt aH) rfl bA rfl λt I a w qO U=>?_;change St _ _ ([Own.row v KK.bl 7 (ts.map VT.cells),Own.many (ts.map λx=>Own.many (VT.owns KK x))]++Own.gone::VT.owns KK t) _ _ _ at U;refine U.o (.li [VT.cells t] j9 (.u .nil)) λU=>?_;refine U.ap 0 λrL a w U=>?_;refine aI λI a w U=>?_;rw[uE] at U;have U:=U.uD 3 1 t rfl rfl;have U:=U.drop 2;refine U.again (ts++[t],rL) ?bM ?bN bF ?bO (by repeat(first|exact Env.le_rfl|refine Env.dj rfl ?_));case bM=>simp;omega
  case bN=>exact nz ⟨ig,hk⟩ ab qO
  case bO=>exact(Env.bt rfl (by exact congrArg AV.int be) (Env.bt rfl bF Env.le_nil))
 refine zt ?_;refine ax λI a w U=>?_;have U:=U.whole;have aT:=nA ⟨ig,hk⟩ om;refine U.cE (v,ts) [0] rfl (.cons (.t rfl) .nil) aT rfl rfl
def Zh (m:az) (h:iV m):
 bG prog 221 [m.av] [] (λt:WT=>WT.plain t=m) (λt=>t.owns KK) (λt=>AV.agg t.cells):=by
 refine bG.intro 20 func221 rfl ntmps221 rfl aq (λW I a U=>?_);obtain⟨h1,⟨h2,h3⟩,⟨h4,h5⟩,h6⟩:=h;refine sr<|U.box rfl .tt λb1 I a w U=>U.alloc rfl cH dN λb2 I a w U=>?_;refine zt ?_;have U:=U.dH;have U:=U.dH;have U:=U.dH;have U:=U.dH;refine U.ql 13 [([],none),([0],none),([2],some (2,[5])),([],none),([0],none),([3],some (3,[8])),([],none),([0],none),([4],some (4,[11])),([],none),([0],none),([5],some (5,[14])),([],none)] aq aq rfl ?_;simp only[TD];refine br ?_;refine .r [0] (.lb 0) ?_;refine aP.gh 2 rfl rfl (oc m.aK h1) (an .r aH) ?_;refine br ?_;refine .r [0] (.lb 0) ?_;refine aP.rH AV.jd 3 rfl rfl (C9 m.ar h2 h3) (λ_ _ _ _ _ ho e=>zd ho e) (an .r aH) ?_;refine br ?_;refine .r [0] (.lb 0) ?_;refine aP.rH AV.jd 4 rfl rfl (C9 m.waits h4 h5) (λ_ _ _ _ _ ho e=>zd ho e) (an .r aH) ?_;refine br ?_;refine .r [0] (.lb 0) ?_;refine aP.gh 5 rfl rfl (oc m.aE h6) (an .r aH) ?_;refine br ?_;refine aP.rh ?_;intro γ I a w U;change St _ _ [Own.box b1 108 m.cells,Own.box b2 108 [AV.val (.int .i64 0),AV.val (.int .i64 0),AV.val (.int .i64 0),AV.val (.int .i64 0),AV.val (.int .i64 0),AV.val (.int .i64 0),AV.val (.int .i64 0),AV.val (.int .i64 0),AV.val (.bool false),AV.rows 3 [],AV.val (.int .i64 0),AV.val (.int .i64 0),AV.rows 7 [],AV.rows 7 [],AV.rows 3 []],Own.row (a.tmps.getD 5 undef) 125 3 (m.aK.map ao.cells),Own.au _ _ _ (γ 8) (a.tmps.getD 8 undef),Own.au _ _ _ (γ 11) (a.tmps.getD 11 undef),Own.row (a.tmps.getD 14 undef) 125 3 (m.aE.map ao.cells)] _ _ _ at U;obtain⟨⟨u8,t8⟩,Hy,U⟩:=U.qj (d:=8) 3 rfl;replace Hy:t8.map VT.x=m.ar:=Hy;obtain⟨⟨Zi,t11⟩,Hz,U⟩:=U.qj (d:=11) 4 rfl;replace Hz:t11.map VT.x=m.waits:=Hz;have U:=U.nm 5;have U:=U.nm 14;generalize a.tmps.getD 5 undef=v5 at U;generalize a.tmps.getD 14 undef=gX at U;have U:=U.nf;have Wf:=U.cU 2 rfl;have Ak:=U.cU 5 rfl;have Zj:=U.mP 6 rfl;have Zk:=U.mP 7 rfl;show wpList _ _ _ _ _ _;refine iG λI a w U=>?_;refine U.cE (⟨m,v5,u8,Zi,gX,t8,t11⟩:WT) [2,6,7,5] rfl (.cons (.sx 1) .nil) (by show WT.plain _=m;unfold WT.plain mK;rw[Hy,Hz]) rfl rfl
def Zl (l:List az) (h:l.length<=1048576) (hd:∀m∈l,iV m):
 bG prog 135 [dW l] [] (λp:Value×List WT=>p.2.map WT.plain=l) (λp=>[Own.words KK p.1 p.2]) (λp=>AV.val p.1):=by
 refine bG.intro 19 func135 rfl ntmps135 rfl aq (λW I a U=>?_);have U:=U.en (sz:=15) KK.word;have U:=U.mO;refine bP λI a w U=>?_;refine St.lo (σ:=List WT×Value) (3::(5::(run 10 8 []))) ⟨λ⟨ts,v⟩=>[(8,AV.int (ts.length:Nat)),(3,AV.val v)],λ⟨ts,v⟩=>[Own.row v KK.word 15 (ts.map WT.cells),Own.many (ts.map λx=>Own.many (WT.owns KK x))],λ⟨ts,v⟩=>ts.map WT.plain=l.take ts.length/\ts.length<=l.length⟩ (λ⟨ts,v⟩=>l.length-ts.length) ([],.slice none 0 0) U ?aD ?bh;case aD=>exact⟨by simp,Nat.zero_le _⟩
 rintro⟨ts,v⟩ I a w aj U;obtain⟨ig,hk⟩:=aj;dsimp only at U;refine al λI a w U=>?_;refine cz (λab=>?_) λab=>?_
 .refine aA λI a w U=>?_;refine U.alloc rfl cH dN λb5 I a w U=>?_;refine al λI a w U=>?_;obtain⟨I,U⟩:=U.fb 2 5;refine aA λI a w U=>?_;refine U.dX [] (Zh (ae l ts.length) (hd _ (bK ab))) (an .tt aH) rfl bA rfl λt I a w qO U=>?_;change St _ _ ([Own.row v KK.word 15 (ts.map WT.cells),Own.many (ts.map λx=>Own.many (WT.owns KK x))]++Own.gone::WT.owns KK t) _ _ _ at U;refine U.o (.li [WT.cells t] gj (.u .nil)) λU=>?_;refine U.ap 0 λrL a w U=>?_;refine aI λI a w U=>?_;rw[uE] at U;have U:=U.uD 3 1 t rfl rfl;have U:=U.drop 2;refine U.again (ts++[t],rL) ?bM ?bN bF ?bO (by repeat(first|exact Env.le_rfl|refine Env.dj rfl ?_));case bM=>simp;omega
  case bN=>exact nz ⟨ig,hk⟩ ab qO
  case bO=>exact(Env.bt rfl (by exact congrArg AV.int be) (Env.bt rfl bF Env.le_nil))
 refine zt ?_;refine ax λI a w U=>?_;have U:=U.whole;have aT:=nA ⟨ig,hk⟩ om;refine U.cE (v,ts) [0] rfl (.cons (.t rfl) .nil) aT rfl rfl
def Zm (s:Server) (h:po s):
 bG prog 136 [s.av] [] (λt:ST=>ST.plain t=s) (λt=>t.owns KK) (λt=>AV.agg t.cells):=by
 refine bG.intro 23 func136 rfl ntmps136 rfl aq (λW I a U=>?_);obtain⟨h1,⟨h2,h3⟩,⟨h4,h5⟩,h6,h7⟩:=h;refine aX λI a w U=>?_;refine U.alloc rfl bL di λb2 I a w U=>?_;refine zt ?_;have U:=U.dH;have U:=U.dH;have U:=U.dH;have U:=U.dH;have U:=U.en (sz:=2) 97;refine U.ql 19 [([],none),([],none),([],none),([],none),([],none),([],none),([5],some (5,[9])),([],none),([],none),([1],some (1,[12])),([],none),([],none),([2],some (2,[15])),([],none),([],none),([3],some (3,[18])),([],none),([],none),([4],some (4,[21]))] aq aq rfl ?_;simp only[TD];refine gS ?_;refine aP.Bi 5 rfl rfl eM dP rfl .c .r ff ?_;refine cy ?_;refine aP.rH AV.jd 1 rfl rfl (C9 s.ar h2 h3) (λ_ _ _ _ _ ho e=>zd ho e) (an .r aH) ?_;refine cy ?_;refine aP.rH AV.jd 2 rfl rfl (C9 s.waits h4 h5) (λ_ _ _ _ _ ho e=>zd ho e) (an .r aH) ?_;refine cy ?_;refine aP.gh 3 rfl rfl (oc s.aE h6) (an .r aH) ?_;refine cy ?_;refine aP.gh 4 rfl rfl (oc s.bq h7) (an .r aH) ?_;refine aP.rh ?_;intro γ I a w U;change St _ _ [Own.box b2 95 [AV.val (.int .i64 0),AV.val (.bool false),AV.rows 2 [],AV.rows 7 [],AV.rows 7 [],AV.rows 3 [],AV.rows 3 []],Own.au _ _ _ (γ 12) (a.tmps.getD 12 undef),Own.au _ _ _ (γ 15) (a.tmps.getD 15 undef),Own.row (a.tmps.getD 18 undef) 125 3 (s.aE.map ao.cells),Own.row (a.tmps.getD 21 undef) 125 3 (s.bq.map ao.cells),Own.row (a.tmps.getD 9 undef) 97 2 (s.aQ.map ct.cells)] _ _ _ at U;obtain⟨⟨Zn,t12⟩,xk,U⟩:=U.qj (d:=12) 1 rfl;replace xk:t12.map VT.x=s.ar:=xk;obtain⟨⟨Zo,t15⟩,Da,U⟩:=U.qj (d:=15) 2 rfl;replace Da:t15.map VT.x=s.waits:=Da;have U:=U.nm 9;have U:=U.nm 18;have U:=U.nm 21;generalize a.tmps.getD 9 undef=v9 at U;generalize a.tmps.getD 18 undef=BZ at U;generalize a.tmps.getD 21 undef=wM at U;have U:=U.nf;have NU:=U.cU 5 rfl;have ahk:=U.cU 3 rfl;have Zp:=U.cU 4 rfl;have Zq:=U.mP 6 rfl;have Zr:=U.mP 7 rfl;show wpList _ _ _ _ _ _;refine U.o (.bd di (.k (.k (.k (.k (.k (.k (.k bf.nil)))))))) λU=>?_;refine al λI a w U=>?_;refine U.cE (⟨s,v9,Zn,Zo,BZ,wM,t12,t15⟩:ST) [5,6,7,3,4] rfl (.cons (.sx 0) .nil) (by show ST.plain _=s;unfold ST.plain mK;rw[xk,Da]) rfl rfl
def Zs (q:Call) (h:uO q):
 bG prog 137 [q.av] [] (λt:CT=>CT.plain t=q) (λt=>t.owns KK) (λt=>AV.agg t.cells):=by
 refine bG.intro 40 func137 rfl ntmps137 rfl aq (λW I a U=>?_);obtain⟨h1,h2,h4,h5,h3⟩:=h;have U:=U.en (sz:=9) 56;have U:=U.mO;refine sr<|U.box rfl .tt λb1 I a w U=>U.alloc rfl dm g0 λb2 I a w U=>?_;refine zt ?_;have U:=U.dH;have U:=U.dH;have U:=U.en (sz:=1) 3;refine U.ql 10 [([],none),([2],none),([6],some (6,[8])),([],none),([2],none),([4],some (4,[11])),([],none),([2],none),([5],some (5,[14])),([],none)] aq aq rfl ?_;simp only[TD];refine br ?_;refine .r [2] (.lb 2) ?_;refine aP.Bi 6 rfl rfl kG cT rfl .c .r ff ?_;refine br ?_;refine .r [2] (.lb 2) ?_;refine aP.gh 4 rfl rfl (oc q.ctx h2) (an .r aH) ?_;refine br ?_;refine .r [2] (.lb 2) ?_;refine aP.gh 5 rfl rfl (oc q.aO h3) (an .r aH) ?_;refine br ?_;refine .nil ?_;intro I a w U;change St _ _ [Own.row (.slice none 0 0) 56 9 [],Own.many [],Own.box b1 45 q.cells,Own.box b2 45 [AV.val (.int .i64 0),AV.val (.int .i64 0),AV.val (.int .i64 0),AV.rows 1 [],AV.val (.int .i64 0),AV.rows 3 [],AV.val (.int .i64 0),AV.val (.int .i64 0),AV.val (.bool false),AV.val (.int .i64 0),AV.val (.int .i64 0),AV.rows 9 [],AV.rows 3 []],Own.row (a.tmps.getD 11 undef) 125 3 (q.ctx.map ao.cells),Own.row (a.tmps.getD 14 undef) 125 3 (q.aO.map ao.cells),Own.row (a.tmps.getD 8 undef) 3 1 (q.keys.map lF)] _ _ _ at U;have U:=U.nm 8;have U:=U.nm 11;have U:=U.nm 14;generalize a.tmps.getD 8 undef=v8 at U;generalize a.tmps.getD 11 undef=v11 at U;generalize a.tmps.getD 14 undef=gX at U;have Zj:=U.cU 6 rfl;have Zk:=U.cU 4 rfl;have Ak:=U.cU 5 rfl;show wpList _ _ _ _ _ _;refine n4 λI a w U=>?_;refine St.lo (σ:=List AT×Value) (3::(5::(run 16 21 []))) ⟨λ⟨ts,v⟩=>[(21,AV.int (ts.length:Nat)),(3,AV.val v)],λ⟨ts,v⟩=>[Own.row v 56 9 (ts.map AT.cells),Own.many (ts.map λx=>Own.many (AT.owns KK x)),Own.box b1 45 [AV.int q.aB,AV.int q.num,AV.int q.kind,AV.val v8,AV.int q.val,AV.val v11,AV.int q.bw,AV.int q.end_,AV.bool q.over,AV.int q.aw.time,AV.int q.aw.site,j7 q.au,AV.val gX],Own.box b2 45 [AV.val (.int .i64 0),AV.val (.int .i64 0),AV.val (.int .i64 0),AV.rows 1 [],AV.val (.int .i64 0),AV.rows 3 [],AV.val (.int .i64 0),AV.val (.int .i64 0),AV.val (.bool false),AV.val (.int .i64 0),AV.val (.int .i64 0),AV.rows 9 [],AV.rows 3 []],Own.row v11 125 3 (q.ctx.map ao.cells),Own.row gX 125 3 (q.aO.map ao.cells),Own.row v8 3 1 (q.keys.map lF)],λ⟨ts,v⟩=>ts.map AT.x=q.au.take ts.length/\ts.length<=q.au.length⟩ (λ⟨ts,v⟩=>q.au.length-ts.length) ([],.slice none 0 0) U ?aD ?bh;case aD=>exact⟨by simp,Nat.zero_le _⟩
 rintro⟨ts,v⟩ I a w aj U;obtain⟨ig,hk⟩:=aj;dsimp only at U;refine al λI a w U=>?_;refine cz (λab=>?_) λab=>?_
 .refine aA λI a w U=>?_;refine U.alloc rfl dI lq λb5 I a w U=>?_;refine U.sb 7 λU=>?_;obtain⟨I,U⟩:=U.fb 7 5;refine zt ?_;have U:=U.dH;have U:=U.dH;have U:=U.dH;refine U.ql 10 [([],none),([],none),([],none),([],none),([],none),([],none),([],none),([8],some (8,[32])),([9],some (9,[33,32])),([10],some (10,[34,33]))] aq aq rfl ?_;simp only[TD];refine ky ?_;refine aP.rH (AV.kS 7) 8 rfl rfl (MK (ae q.au ts.length).bl (h5 _ (bK ab))) (λ_ _ _ _ _ _ e=>sY e) (an .tt aH) ?_;refine aP.ze (AV.kS 9) 9 [32] (λa=>AV.agg ([AV.int (ae q.au ts.length).key,AV.bool (ae q.au ts.length).yes]++eA (a.tmps.getD 32 undef))) rfl rfl rfl rfl (λa b h=>by simp only[List.forall_mem_cons] at h;simp only[h]) rfl (λF a I he=>⟨Ok.to (.bd lq (.k (.k (bf.s Tg (uB (he 32 _ rfl)) rfl (K2 he rfl) bf.nil)))) (by have hl:=uB (he 32 _ rfl);generalize eA (a.tmps.getD 32 undef)=D at hl⊢;simp[filled,eC,hl]),λ_ _ h=>sY h (by rw[List.length_append];exact congrArg (2+·) (uB (he 32 _ rfl)))⟩) ?_;refine aP.BJ 10 rfl rfl eD dI rfl rB rfl rfl rfl rfl<|aP.rh ?_;intro γ I a w U;change St _ _ [Own.row v 56 9 (ts.map AT.cells),Own.many (ts.map λx=>Own.many (AT.owns KK x)),Own.box b1 45 [AV.int q.aB,AV.int q.num,AV.int q.kind,AV.val v8,AV.int q.val,AV.val v11,AV.int q.bw,AV.int q.end_,AV.bool q.over,AV.int q.aw.time,AV.int q.aw.site,j7 q.au,AV.val gX],Own.box b2 45 [AV.val (.int .i64 0),AV.val (.int .i64 0),AV.val (.int .i64 0),AV.rows 1 [],AV.val (.int .i64 0),AV.rows 3 [],AV.val (.int .i64 0),AV.val (.int .i64 0),AV.val (.bool false),AV.val (.int .i64 0),AV.val (.int .i64 0),AV.rows 9 [],AV.rows 3 []],Own.row v11 125 3 (q.ctx.map ao.cells),Own.row gX 125 3 (q.aO.map ao.cells),Own.row v8 3 1 (q.keys.map lF),Own.gone,Own.au _ _ _ (γ 32) (a.tmps.getD 32 undef),Own.is (.agg ([AV.int (ae q.au ts.length).key,AV.bool (ae q.au ts.length).yes]++eA (a.tmps.getD 32 undef))) (a.tmps.getD 33 undef),Own.is (.rows 9 [eA (a.tmps.getD 33 undef)]) (a.tmps.getD 34 undef)] _ _ _ at U;obtain⟨⟨Zt,u32⟩,HA,U⟩:=U.qj (d:=32) 8 rfl;replace HA:Zt=(ae q.au ts.length).bl:=HA;subst HA;have U:=U.TY (d:=33) (t:=32) [AV.int (ae q.au ts.length).key,AV.bool (ae q.au ts.length).yes] 9 rfl rfl;have U:=U.BK (d:=34) (t:=33) 10 rfl rfl rfl;change St _ _ [Own.row v 56 9 (ts.map AT.cells),Own.many (ts.map λx=>Own.many (AT.owns KK x)),Own.box b1 45 [AV.int q.aB,AV.int q.num,AV.int q.kind,AV.val v8,AV.int q.val,AV.val v11,AV.int q.bw,AV.int q.end_,AV.bool q.over,AV.int q.aw.time,AV.int q.aw.site,j7 q.au,AV.val gX],Own.box b2 45 [AV.val (.int .i64 0),AV.val (.int .i64 0),AV.val (.int .i64 0),AV.rows 1 [],AV.val (.int .i64 0),AV.rows 3 [],AV.val (.int .i64 0),AV.val (.int .i64 0),AV.val (.bool false),AV.val (.int .i64 0),AV.val (.int .i64 0),AV.rows 9 [],AV.rows 3 []],Own.row v11 125 3 (q.ctx.map ao.cells),Own.row gX 125 3 (q.aO.map ao.cells),Own.row v8 3 1 (q.keys.map lF),Own.gone,Own.gone,Own.gone,Own.gone,Own.aK KK u32 (ae q.au ts.length).bl.aK] _ _ _ at U;show wpList _ _ _ _ _ _;refine U.ap 0 λCY a w U=>?_;refine aI λI a w U=>?_;change St _ _ (Own.row CY 56 9 (ts.map AT.cells++[AT.cells ⟨(ae q.au ts.length),u32⟩])::_) _ _ _ at U;rw[uE] at U;have U:=U.uD 11 1 (⟨(ae q.au ts.length),u32⟩:AT) rfl rfl;have U:=U.drop 7;refine U.again (ts++[⟨(ae q.au ts.length),u32⟩],CY) ?bM ?bN bF ?bO (by repeat(first|exact Env.le_rfl|refine Env.dj rfl ?_));case bM=>simp;omega
  case bN=>exact nz ⟨ig,hk⟩ ab rfl
  case bO=>exact(Env.bt rfl (by exact congrArg AV.int be) (Env.bt rfl bF Env.le_nil))
 refine wp_exit<|bU<|bU<|eb<|ba<|wp_seq ?_;have aT:=nA ⟨ig,hk⟩ om;have K6:=U.cU 0 rfl;refine aA λI a w U=>?_;try have YD:=U.cU 0 rfl
 refine aI λI a w U=>?_;have U:=U.sZ 2;have U:=U.tie 5;refine U.cE (⟨q,v8,v11,v,gX,ts⟩:CT) [4,2,5,3] rfl (.cons (.sx 1) .nil) (by show CT.plain _=q;unfold CT.plain;rw[aT]) rfl rfl
def oQ (l:List aJ):Nat:=l.length+eK ow l
def kW (m:az):Nat:=jl m.aK+oQ m.ar+oQ m.waits+jl m.aE
def sk (l:List az):Nat:=l.length+eK kW l
def jZ (s:Server):Nat:=z4 s.aQ+oQ s.ar+oQ s.waits+jl s.aE+jl s.bq
def so (l:List Server):Nat:=l.length+eK jZ l
def qP (l:List Answer):Nat:=l.length+eK ox l
def jG (k:Call):Nat:=z3 k.keys+jl k.ctx+qP k.au+jl k.aO
def qQ (l:List Call):Nat:=l.length+eK jG l
def qR (l:List (List ao)):Nat:=l.length+eK jl l
def ko (w:aM):Nat:=so w.aF+sk w.aC+qQ w.calls+qR w.seen
def Db (l:List (aJ)) (left:Int) (h0:0<=left) (h1:left<=1048576):
 Fn prog 258 [cm l,AV.int left] (AV.int (dx left (oQ l))):=by
 refine Fn.go 27 func258 ntmps258 (λW I a U=>?_);have hle:=U.dD (t:=0) rfl;refine et λI a w U=>?_;refine cz (λab=>?_) λab=>?_
 .refine aW ?_;exact cj (qE ab (by unfold oQ;omega))
 refine al λI a w U=>?_;refine St.sF (σ:=Nat) (1::(run 2 4 (run 14 12 []))) ⟨λk=>[(5,AV.int k),(1,AV.int (dx left (l.length+eK ow (l.take k))))],λk=>[],λk=>k<=l.length/\0<=dx left (l.length+eK ow (l.take k))⟩ (λk=>l.length-k) 0 U rfl ?aD ?nE ?bh;case aD=>exact⟨Nat.zero_le _,by simp only[dx,eK,List.take_zero,List.map_nil,List.sum_nil];split<;>omega⟩
 case nE=>exact(Env.bt rfl bF (Env.bt rfl (by exact congrArg AV.int (by simp only[dx,eK,List.take_zero,List.map_nil,List.sum_nil];split<;>omega)) Env.le_nil))
 rintro k I a w aj U;obtain⟨hk,lC⟩:=aj;refine aU λI a w U=>?_;refine cz (λah=>?_) λah=>?_
 .refine bV λI a w U=>?_;refine U.o (.c2 (MM _ _ lC (ke h1))) λU=>?_;rw[kd lC] at U;refine aI λI a w U=>?_;refine U.cd (λai=>?_) λai=>?_
  .simp only[decide_eq_true_eq] at ai;refine aW ?_;exact cj (iy ai (by have e1:=kg (f:=ow) ah;have e2:=tv (f:=ow) l (k+1);unfold oQ;omega))
  simp only[decide_eq_false_iff_not,Int.not_lt] at ai;refine aI λI a w U=>?_;refine U.again (k+1) ?bM ?bN bF ?bO (by repeat(first|exact Env.le_rfl|refine Env.dj rfl ?_));case bM=>omega
  case bN=>exact⟨ah,by rw[kg ah,<-Nat.add_assoc];exact ai⟩
  case bO=>exact(Env.bt rfl bF (Env.bt rfl (by exact congrArg AV.int (by rw[kg ah,<-Nat.add_assoc])) Env.le_nil))
 refine zt ?_;refine cK ?_;exact cj (by unfold oQ;rw[List.take_of_length_le om])
def Zu (x:az) (left:Int) (h0:0<=left) (h1:left<=1048576):
 Fn prog 194 [x.av,AV.int left] (AV.int (dx left (kW x))):=by
 refine Fn.go 30 func194 ntmps194 (λW I a U=>?_);refine bV λI a w U=>?_;refine U.o (.cl (th _ _ h0 h1)) λU=>?_;refine aI λI a w U=>?_;refine cz (λab=>?_) λab=>?_
 .refine aW ?_;exact cj (iy ab (by unfold kW;omega))
 refine aV λI a w U=>?_;refine U.o (.cl (Db _ _ ab (ke h1))) λU=>?_;rw[kd ab] at U;refine aI λI a w U=>?_;refine cz (λah=>?_) λah=>?_
 .refine aW ?_;exact cj (iy ah (by unfold kW;omega))
 refine aV λI a w U=>?_;refine U.o (.cl (Db _ _ ah (ke h1))) λU=>?_;rw[kd ah] at U;refine aI λI a w U=>?_;refine cz (λai=>?_) λai=>?_
 .refine aW ?_;exact cj (iy ai (by unfold kW;omega))
 refine aV λI a w U=>?_;refine U.o (.cl (th _ _ ai (ke h1))) λU=>?_;rw[kd ai] at U;refine aI λI a w U=>?_;refine cz (λaG=>?_) λaG=>?_
 .refine aW ?_;exact cj (iy aG (by unfold kW;omega))
 refine cK ?_;exact cj rfl
def Zv (l:List (az)) (left:Int) (h0:0<=left) (h1:left<=1048576):
 Fn prog 98 [dW l,AV.int left] (AV.int (dx left (sk l))):=by
 refine Fn.go 27 func98 ntmps98 (λW I a U=>?_);have hle:=U.dD (t:=0) rfl;refine et λI a w U=>?_;refine cz (λab=>?_) λab=>?_
 .refine aW ?_;exact cj (qE ab (by unfold sk;omega))
 refine al λI a w U=>?_;refine St.sF (σ:=Nat) (1::(run 2 4 (run 14 12 []))) ⟨λk=>[(5,AV.int k),(1,AV.int (dx left (l.length+eK kW (l.take k))))],λk=>[],λk=>k<=l.length/\0<=dx left (l.length+eK kW (l.take k))⟩ (λk=>l.length-k) 0 U rfl ?aD ?nE ?bh;case aD=>exact⟨Nat.zero_le _,by simp only[dx,eK,List.take_zero,List.map_nil,List.sum_nil];split<;>omega⟩
 case nE=>exact(Env.bt rfl bF (Env.bt rfl (by exact congrArg AV.int (by simp only[dx,eK,List.take_zero,List.map_nil,List.sum_nil];split<;>omega)) Env.le_nil))
 rintro k I a w aj U;obtain⟨hk,lC⟩:=aj;refine aU λI a w U=>?_;refine cz (λah=>?_) λah=>?_
 .refine bV λI a w U=>?_;refine U.o (.c2 (Zu _ _ lC (ke h1))) λU=>?_;rw[kd lC] at U;refine aI λI a w U=>?_;refine U.cd (λai=>?_) λai=>?_
  .simp only[decide_eq_true_eq] at ai;refine aW ?_;exact cj (iy ai (by have e1:=kg (f:=kW) ah;have e2:=tv (f:=kW) l (k+1);unfold sk;omega))
  simp only[decide_eq_false_iff_not,Int.not_lt] at ai;refine aI λI a w U=>?_;refine U.again (k+1) ?bM ?bN bF ?bO (by repeat(first|exact Env.le_rfl|refine Env.dj rfl ?_));case bM=>omega
  case bN=>exact⟨ah,by rw[kg ah,<-Nat.add_assoc];exact ai⟩
  case bO=>exact(Env.bt rfl bF (Env.bt rfl (by exact congrArg AV.int (by rw[kg ah,<-Nat.add_assoc])) Env.le_nil))
 refine zt ?_;refine cK ?_;exact cj (by unfold sk;rw[List.take_of_length_le om])
def Zw (l:List (Answer)) (left:Int) (h0:0<=left) (h1:left<=1048576):
 Fn prog 260 [j7 l,AV.int left] (AV.int (dx left (qP l))):=by
 refine Fn.go 27 func260 ntmps260 (λW I a U=>?_);have hle:=U.dD (t:=0) rfl;refine et λI a w U=>?_;refine cz (λab=>?_) λab=>?_
 .refine aW ?_;exact cj (qE ab (by unfold qP;omega))
 refine al λI a w U=>?_;refine St.sF (σ:=Nat) (1::(run 2 4 (run 14 12 []))) ⟨λk=>[(5,AV.int k),(1,AV.int (dx left (l.length+eK ox (l.take k))))],λk=>[],λk=>k<=l.length/\0<=dx left (l.length+eK ox (l.take k))⟩ (λk=>l.length-k) 0 U rfl ?aD ?nE ?bh;case aD=>exact⟨Nat.zero_le _,by simp only[dx,eK,List.take_zero,List.map_nil,List.sum_nil];split<;>omega⟩
 case nE=>exact(Env.bt rfl bF (Env.bt rfl (by exact congrArg AV.int (by simp only[dx,eK,List.take_zero,List.map_nil,List.sum_nil];split<;>omega)) Env.le_nil))
 rintro k I a w aj U;obtain⟨hk,lC⟩:=aj;refine aU λI a w U=>?_;refine cz (λah=>?_) λah=>?_
 .refine bV λI a w U=>?_;refine U.o (.c2 (Wg _ _ lC (ke h1))) λU=>?_;rw[kd lC] at U;refine aI λI a w U=>?_;refine U.cd (λai=>?_) λai=>?_
  .simp only[decide_eq_true_eq] at ai;refine aW ?_;exact cj (iy ai (by have e1:=kg (f:=ox) ah;have e2:=tv (f:=ox) l (k+1);unfold qP;omega))
  simp only[decide_eq_false_iff_not,Int.not_lt] at ai;refine aI λI a w U=>?_;refine U.again (k+1) ?bM ?bN bF ?bO (by repeat(first|exact Env.le_rfl|refine Env.dj rfl ?_));case bM=>omega
  case bN=>exact⟨ah,by rw[kg ah,<-Nat.add_assoc];exact ai⟩
  case bO=>exact(Env.bt rfl bF (Env.bt rfl (by exact congrArg AV.int (by rw[kg ah,<-Nat.add_assoc])) Env.le_nil))
 refine zt ?_;refine cK ?_;exact cj (by unfold qP;rw[List.take_of_length_le om])
def Zx (l:List (List ao)) (left:Int) (h0:0<=left) (h1:left<=1048576):
 Fn prog 100 [lG l,AV.int left] (AV.int (dx left (qR l))):=by
 refine Fn.go 27 func100 ntmps100 (λW I a U=>?_);have hle:=U.dD (t:=0) rfl;refine et λI a w U=>?_;refine cz (λab=>?_) λab=>?_
 .refine aW ?_;exact cj (qE ab (by unfold qR;omega))
 refine al λI a w U=>?_;refine St.sF (σ:=Nat) (1::(run 2 4 (run 14 12 []))) ⟨λk=>[(5,AV.int k),(1,AV.int (dx left (l.length+eK jl (l.take k))))],λk=>[],λk=>k<=l.length/\0<=dx left (l.length+eK jl (l.take k))⟩ (λk=>l.length-k) 0 U rfl ?aD ?nE ?bh;case aD=>exact⟨Nat.zero_le _,by simp only[dx,eK,List.take_zero,List.map_nil,List.sum_nil];split<;>omega⟩
 case nE=>exact(Env.bt rfl bF (Env.bt rfl (by exact congrArg AV.int (by simp only[dx,eK,List.take_zero,List.map_nil,List.sum_nil];split<;>omega)) Env.le_nil))
 rintro k I a w aj U;obtain⟨hk,lC⟩:=aj;refine aU λI a w U=>?_;refine cz (λah=>?_) λah=>?_
 .refine bV λI a w U=>?_;refine U.o (.cl (th _ _ lC (ke h1))) λU=>?_;rw[kd lC] at U;refine aI λI a w U=>?_;refine U.cd (λai=>?_) λai=>?_
  .simp only[decide_eq_true_eq] at ai;refine aW ?_;exact cj (iy ai (by have e1:=kg (f:=jl) ah;have e2:=tv (f:=jl) l (k+1);unfold qR;omega))
  simp only[decide_eq_false_iff_not,Int.not_lt] at ai;refine aI λI a w U=>?_;refine U.again (k+1) ?bM ?bN bF ?bO (by repeat(first|exact Env.le_rfl|refine Env.dj rfl ?_));case bM=>omega
  case bN=>exact⟨ah,by rw[kg ah,<-Nat.add_assoc];exact ai⟩
  case bO=>exact(Env.bt rfl bF (Env.bt rfl (by exact congrArg AV.int (by rw[kg ah,<-Nat.add_assoc])) Env.le_nil))
 refine zt ?_;refine cK ?_;exact cj (by unfold qR;rw[List.take_of_length_le om])
def OY {x:aM} (h:ko x<=1048576):x.calls.length<=1048576/\∀q∈x.calls,q.au.length<=1048576:=by
 unfold ko qQ at h;refine⟨by omega,λq hq=>?_⟩;obtain⟨k,hk,rfl⟩:=iq hq;have:=va (f:=jG) hk;have h3:jG (ae x.calls k)<=1048576:=by omega
 unfold jG qP at h3;omega
def OZ {x:aM} (h:0<=dx 1048576 (ko x)):ko x<=1048576:=by have:=ML h;omega
def Zy (x:Call):
 Fn prog 207 [x.av,x.av] (AV.bool true):=by
 refine Fn.go 70 func207 ntmps207 (λW I a U=>?_);refine et λI a w U=>?_;refine U.cd (λab=>?_) λab=>?_
 .exfalso;simp at ab;skip
 refine bP λI a w U=>?_;refine U.cd (λah=>?_) λah=>?_
 .exfalso;simp at ah;skip
 refine bP λI a w U=>?_;refine U.cd (λai=>?_) λai=>?_
 .exfalso;simp at ai;skip
 refine aR λI a w U=>?_;refine U.o (.cl (WK ..)) λU=>?_;refine al λI a w U=>?_;refine U.cd (λaG=>?_) λaG=>?_
 .exfalso;simp at aG;skip
 refine bP λI a w U=>?_;refine U.cd (λaL=>?_) λaL=>?_
 .exfalso;simp at aL;skip
 refine aR λI a w U=>?_;refine U.o (.cl (tb ..)) λU=>?_;refine al λI a w U=>?_;refine U.cd (λbc=>?_) λbc=>?_
 .exfalso;simp at bc;skip
 refine bP λI a w U=>?_;refine U.cd (λaY=>?_) λaY=>?_
 .exfalso;simp at aY;skip
 refine bP λI a w U=>?_;refine U.cd (λbz=>?_) λbz=>?_
 .exfalso;simp at bz;skip
 refine aR λI a w U=>?_;refine U.o (o1 .tt .tt n7) λU=>?_;refine zt ?_;refine U.cd (λbR=>?_) λbR=>?_
 .exfalso;simp at bR;skip
 refine aR λI a w U=>?_;refine U.o (.c2 (Ca ..)) λU=>?_;refine al λI a w U=>?_;refine U.cd (λdO=>?_) λdO=>?_
 .exfalso;simp at dO;skip
 refine aR λI a w U=>?_;refine U.o (.cl (Vt ..)) λU=>?_;refine al λI a w U=>?_;refine U.cd (λeE=>?_) λeE=>?_
 .exfalso;simp at eE;skip
 refine aR λI a w U=>?_;refine U.o (.cl (tb ..)) λU=>?_;refine al λI a w U=>?_;refine U.cd (λjU=>?_) λjU=>?_
 .exfalso;simp at jU;skip
 refine aW ?_;rfl
def Zz (l:List (Call)):
 Fn prog 110 [jb l,jb l] (AV.bool true):=by
 refine Fn.go 27 func110 ntmps110 (λW I a U=>?_);have hle:=U.dD (t:=0) rfl;refine gy λI a w U=>?_;refine U.cd (λab=>?_) λab=>?_
 .exfalso;simp at ab;skip
 refine al λI a w U=>?_;refine St.lo (σ:=Nat) (run 2 4 (run 16 11 [])) ⟨λk=>[(5,AV.int k)],λk=>[],λk=>k<=l.length⟩ (λk=>l.length-k) 0 U ?aD ?bh;case aD=>exact Nat.zero_le _
 rintro k I a w aj U;have hk:k<=l.length:=aj;refine aU λI a w U=>?_;refine cz (λah=>?_) λah=>?_
 .refine zt ?_;refine U.dk ?_;refine kz ?_;refine .o (.c2 (Zy ..)) ?_;refine br ?_;refine .nil ?_;intro I a w U;refine ba ?_;refine U.cd (λai=>?_) λai=>?_
  .exfalso;simp at ai;skip
  refine aI λI a w U=>?_;exact U.ag (k+1) (ah)
 refine zt ?_;refine aW ?_;rfl
def tz.snoc {l:List aJ} {I0:Im} {xs:List (sf l I0)} {x:sf l I0} (h:tz xs) (hx:x.1.1+1+xs.length=l.length):tz (xs++[x]):=λj y e=>by
 rcases Nat.lt_or_ge j xs.length with hj|hj
 .rw[List.getElem?_append_left hj] at e;exact h j y e
 rw[List.getElem?_append_right hj] at e;cases hk:j-xs.length with
 |zero=>rw[hk] at e;obtain rfl:x=y:=by simpa using e
        rw[show j=xs.length from by omega];exact hx
 |succ k=>rw[hk] at e;simp at e
def ZA (l:List aJ) (n:Nat) (hn:1<=n) (I0:Im) (w0:World) (hm:dR w0 I0) (G:Nat->Prop) (hG:∀b cs,I0 b=some cs->¬G b) (p:Value) (hp:(AV.ptr [cm l]).h I0 p):
 SeqStopsK Fence.wide n prog 240 #[p] (λx:sf l I0=>#[.int .i64 x.1.1,x.1.2]) (Kept G) (λxs=>xs.length=l.length/\tz xs) tz l.length w0:=λlp J Jx W hW hJ ZB hY h0=>by
 have ZC:dR W I0:=λb cs e=>by
  obtain⟨T,fr,k⟩:=hm b cs e;exact⟨T,fr,(hW.block b (hm.lt e)).trans k⟩
 obtain⟨vs,nY,CS,xq⟩:∃vs:List (List Value),vs.length=l.length/\(AV.ptr [AV.rows 7 (vs.map Gs)]).h I0 p/\∀i,i<l.length->bs I0 (ae l i).cells (vs.getD i [])/\(AV.agg (ae l i).cells).h I0 (.agg (ae vs i).toArray)/\(ae vs i).length=7:=by
  obtain⟨q,e,h1,cs,h2,h3⟩:=hp;generalize hd:(cs.toList.drop q.off).take 1=ds at h3;match ds,h3 with
  |[v],h3=>
   obtain⟨vs,e1,e4,e2,e3⟩:=Uu h3.1.1
   rw[List.map_congr_left λr hr=>MO (e4 r hr)] at e2
   refine⟨vs,by simpa using e1,⟨q,e,h1,cs,h2,by show bs _ _ (List.take 1 _);rw[hd];exact⟨⟨e2,h3.1.2⟩,trivial⟩⟩,λi hi=>?_⟩
   have:=e3 i (by simpa using hi)
   rw[Qr aJ.cells l i hi,show l[i]! =ae l i from by simp[ae,hi]] at this
   have hv:i<vs.length:=by rw[e1];simpa using hi
   have he:vs.getD i []=ae vs i:=by simp[ae,hv]
   exact⟨this,⟨_,rfl,by rw[<-he];exact this⟩,e4 _ (bK hv)⟩
 refine Ur (F:=j2) 19 func240 rfl ntmps240 (args:=[.val (.func (.yield lp) #[] #[]),.val p]) rfl ZC ⟨rfl,rfl,trivial⟩ λa U=>?_;have hQ:∀a w,¬bodyPost prog f240 (λe W'=>(∃v,e=.returned v)/\((∃xs:List (sf l I0),(xs.length=l.length/\tz xs)/\J xs W')\/∃pre,tz pre/\Jx pre W')) .outgrown a w:=λa w h=>by obtain⟨⟨v,e⟩,_⟩:=h;cases e
 have Dc:∀{A B:World} {xs},A.grownBy B none->J xs A->J xs B:=λh k=>hJ _ _ _ none k h (λr e=>by cases e);have ZD:∀{A B:World} {xs},A.grownBy B none->Jx xs A->Jx xs B:=λh k=>ZB _ _ _ none k h (λr e=>by cases e);refine wpIn_seq (wG (by exact hQ) rfl ?_);refine U.oU 1 CS .l1 λ{I a w} U=>?_;have hle:=U.dD (t:=4) rfl;refine aV λI a w U=>?_;refine nn ?_;refine wpIn_block (wpIn_loop (λa w=>∃(k:Nat) (pre:List (sf l I0)),St ⟨w,I0,19,j2⟩ I0 [] [(3,.int ((k:Int)-1)),(1,.val p),(0,.val (.func (.yield lp) #[] #[]))] a w/\pre.length+k=l.length/\tz pre/\J pre w) (λa _=>Gr a) ?_ ?_)
 .refine⟨l.length,[],?_,by simp,λj x e=>by simp at e,Dc (U.grown rfl) h0⟩;refine(U.base [(3,.int .i64 ((l.length:Int)-1)),(1,p),(0,.func (.yield lp) #[] #[])] (by rw[<-nY];rfl))
 rintro a w ⟨k,pre,U,hk,hd,O0⟩;have ZE:=MN U;refine wpIn_seq (wpIn_seq (wG (by exact hQ) rfl ?_));refine aA λI a w U=>?_;refine nn ?_;refine wpIn_cond_split (U.env 8 _ rfl) (λab=>?_) (λab=>?_)
 .refine wpIn_skip ?_;refine ba ?_;have ab:1<=k:=by simp only[B] at ab;omega
  refine wpIn_seq (wpIn_block (wpIn_seq (wpIn_region_lit ?_)));refine BO (by exact hQ) [_,_] [_,_,_,_,_,_] rfl ?_;have gr:k<=vs.length:=by omega
  refine aA λI a w U=>?_;refine U.oU 1 CS .l1 λ{I a w} U=>?_;refine aV λI a w U=>?_;have ZF:=Dc (U.grown rfl) O0;have hx:((k:Int)-1).toNat<l.length:=by omega
  refine nn (wpListIn_plain rfl λK hK=>?_);have GM:a.eval (.tmp 12)=.int .i64 ((((k:Int)-1).toNat:Nat):Int):=by
   rw[show a.eval (.tmp 12)=.int .i64 ((k:Int)-1) from U.env 12 _ rfl];congr 1;omega
  have ZG:a.eval (.tmp 16)=.agg (ae vs ((k:Int)-1).toNat).toArray:=by
   have:(AV.agg (Gs (ae vs ((k:Int)-1).toNat))).h I (a.eval (.tmp 16)):=U.env 16 _ rfl;rw[<-MO (xq _ hx).2.2] at this;exact Ut this
  have l3:(#[.tmp 12,.tmp 16]:Array Operand).map a.eval=#[.int .i64 ((((k:Int)-1).toNat:Nat):Int),.agg (ae vs ((k:Int)-1).toNat).toArray]:=by simp[GM,ZG]
  refine Uq (λ_=>trivial) rfl (U.env 11 _ rfl) l3 (hY pre ⟨(((k:Int)-1).toNat,.agg (ae vs ((k:Int)-1).toNat).toArray),hx,(xq _ hx).2.1⟩ w ZF om) λe w' he=>?_;have Av:=hd.snoc (x:=⟨(((k:Int)-1).toNat,.agg (ae vs ((k:Int)-1).toNat).toArray),hx,(xq _ hx).2.1⟩) (by show((k:Int)-1).toNat+1+_=_;omega);rcases he with⟨rfl,HB,EK⟩|⟨rfl,HB⟩
  .refine⟨_,rfl,hK _ _ ?_⟩;have U:=(U.EM [(3,.int .i64 ((k:Int)-1)),(1,p),(0,.func (.yield lp) #[] #[])] hG EK).BP (d:=17) (x:=.bool true) (v:=.bool true) (show 17<19 from by decide) rfl;refine BO (by exact hQ) [] [_] rfl ?_;refine aX λI a w U=>?_;refine nn ?_;refine ba ?_;refine wpIn_cond_split (U.env 18 _ rfl) (λah=>by cases ah) (λah=>?_);refine wpIn_skip ?_;refine yj ?_;refine ba ?_;refine wG (by exact hQ) rfl ?_;refine aV λI a w U=>?_;have h3:St _ _ _ _ _ _:=U.base [(3,.int .i64 ((((k-1:Nat)):Int)-1)),(1,p),(0,.func (.yield lp) #[] #[])] (by rw[show(((k-1:Nat):Int)-1)=(k:Int)-1-1 from by omega];rfl);refine wpList_nil (ba ?_);refine⟨⟨k-1,_,h3,by simp;omega,Av,Dc (U.grown rfl) HB⟩,?_⟩;rw[ZE,MN (k:=k-1) h3];omega
  refine⟨_,rfl,hK _ _ ?_⟩;have U:=(U.blank w' []).BP (d:=17) (x:=.bool false) (v:=.bool false) (show 17<19 from by decide) rfl;refine BO (by exact hQ) [] [_] rfl ?_;refine aX λI a w U=>?_;refine nn ?_;refine ba ?_;refine wpIn_cond_split (U.env 18 _ rfl) (λah=>?_) (λah=>by cases ah);refine wpIn_ret ?_;refine tY (vJ (vJ (tY ?_)));exact⟨U.defers,_,results_none rfl _ _ _,⟨_,rfl⟩,.inr ⟨_,Av,ZD (U.grown rfl) HB⟩⟩
 refine wpIn_exit ?_;refine bU (bU (eb ?_));have hk0:k=0:=by
  have ab:¬(0<=(k:Int)-1):=by simpa using ab
  omega
 exact⟨U.defers,_,results_none rfl _ _ _,⟨_,rfl⟩,.inl ⟨_,⟨by omega,hd⟩,Dc (U.grown rfl) O0⟩⟩
def O1 {s:Server} {m:az} (h:s.aE.length<=80):(!jj (jC s m)||((s.aE.length:Int)==80))=!(jj (jC s m)&&decide (s.aE.length<80)):=by
 have e:((s.aE.length:Int)==80)=!decide (s.aE.length<80):=by rw[Bool.eq_iff_iff];simp;omega
 rw[e];simp
def O2 {x:aM} (h:ko x<=1048576):pf x<=12582912:=by
 have v:∀l:List aJ,n9 l<=6*oQ l:=Lb;have s:=wF (f:=lL) (g:=jZ) (c:=6) (λs=>by have h1:=v s.ar;have h2:=v s.waits;simp only[lL,jZ,z4,jl];omega) x.aF;have m:=wF (f:=lM) (g:=kW) (c:=11) (λm=>by have h1:=v m.ar;have h2:=v m.waits;simp only[lM,kW,jl];omega) x.aC;have q:=wF (f:=lN) (g:=jG) (c:=9) (λq=>by
  have h1:=wF (f:=lr) (g:=ox) (c:=8) (λa=>by simp only[lr,jh,ox,ow,jl];omega) q.au;simp only[lN,jG,jl,z3,qP,eK];omega) x.calls
 have d:=wF (f:=λl:List ao=>3*l.length) (g:=jl) (c:=3) (λl=>by simp only[jl];omega) x.seen;unfold ko so sk qQ qR eK at h;unfold pf;omega
def O3 {x:aM} (h:ko x<=1048576):x.seen.length<=1048576:=by unfold ko qR at h;omega
def Dd (l:List Ev) (hl:l.length<=1048576):
 gR prog 49 [o5 l] 49 11 (l.map Ev.cells):=by
 refine gR.intro 23 func49 rfl ntmps49 rfl aq (λW I a U=>?_);refine aV λI a w U=>?_;refine U.make rfl mJ ll n6 rfl .tt .tt om λb7 a w U=>?_;change St _ _ ([]++[Own.row (.slice (some ⟨b7,0,none⟩) l.length l.length) 49 11 (List.replicate l.length [AV.val (.int .i64 0),AV.val (.int .i64 0),AV.val (.int .i64 0),AV.val (.int .i64 0),AV.val (.int .i64 0),AV.val (.int .i64 0),AV.val (.int .i64 0),AV.val (.int .i64 0),AV.val (.int .i64 0),AV.val (.int .i64 0),AV.val (.int .i64 0)])]) _ _ _ at U;rw[<-Cz (f:=Ev.cells)] at U;refine ax λI a w U=>?_;refine St.lo (σ:=Nat) (4::(run 14 8 [])) ⟨λk=>[(4,AV.int k)],λk=>[Own.row (.slice (some ⟨b7,0,none⟩) l.length l.length) 49 11 (partOf Ev.cells [AV.val (.int .i64 0),AV.val (.int .i64 0),AV.val (.int .i64 0),AV.val (.int .i64 0),AV.val (.int .i64 0),AV.val (.int .i64 0),AV.val (.int .i64 0),AV.val (.int .i64 0),AV.val (.int .i64 0),AV.val (.int .i64 0),AV.val (.int .i64 0)] l k)],λk=>k<=l.length⟩ (λk=>l.length-k) 0 U ?aD ?bh;case aD=>exact Nat.zero_le _
 rintro k I a w aj U;have hk:k<=l.length:=aj;have lf:(partOf Ev.cells [AV.val (.int .i64 0),AV.val (.int .i64 0),AV.val (.int .i64 0),AV.val (.int .i64 0),AV.val (.int .i64 0),AV.val (.int .i64 0),AV.val (.int .i64 0),AV.val (.int .i64 0),AV.val (.int .i64 0),AV.val (.int .i64 0),AV.val (.int .i64 0)] l k).length=l.length:=Cy hk;dsimp only at U;rw[<-lf] at U;refine aU λI a w U=>?_;refine cz (λab=>?_) λab=>?_
 .refine df λI a w U=>?_;refine U.o (.c1 (CP _)) λU=>?_;refine U.o (gv mJ ll .tt .tt (λ_=>by omega)) λU=>?_;refine U.ja 0 ll .tt .tt rfl (by exact CB ab) rfl rfl λa w U=>?_;refine aI λI a w U=>?_;change St _ _ [Own.row (.slice (some ⟨b7,0,none⟩) (partOf Ev.cells [AV.val (.int .i64 0),AV.val (.int .i64 0),AV.val (.int .i64 0),AV.val (.int .i64 0),AV.val (.int .i64 0),AV.val (.int .i64 0),AV.val (.int .i64 0),AV.val (.int .i64 0),AV.val (.int .i64 0),AV.val (.int .i64 0),AV.val (.int .i64 0)] l k).length (partOf Ev.cells [AV.val (.int .i64 0),AV.val (.int .i64 0),AV.val (.int .i64 0),AV.val (.int .i64 0),AV.val (.int .i64 0),AV.val (.int .i64 0),AV.val (.int .i64 0),AV.val (.int .i64 0),AV.val (.int .i64 0),AV.val (.int .i64 0),AV.val (.int .i64 0)] l k).length) 49 11 ((partOf Ev.cells [AV.val (.int .i64 0),AV.val (.int .i64 0),AV.val (.int .i64 0),AV.val (.int .i64 0),AV.val (.int .i64 0),AV.val (.int .i64 0),AV.val (.int .i64 0),AV.val (.int .i64 0),AV.val (.int .i64 0),AV.val (.int .i64 0),AV.val (.int .i64 0)] l k).set k (Ev.cells (ae l k)))] _ _ _ at U;rw[lf,CC ab] at U;exact U.ag (k+1) (ab)
 refine zt ?_;refine ax λI a w U=>?_;rw[lf,CA om] at U;exact U.rq (r:=2) 0 rfl rfl rfl rfl
end Go.Proofs.YtldbakcpcfdlaaaGreat

/- Part 50: contracts of functions, plain facts. -/
import Derived.Test.YtdanidpleofjgaaGreatP45
set_option linter.all false
set_option maxRecDepth 100000
set_option maxHeartbeats 4000000
namespace Go.Proofs.YtdanidpleofjgaaGreat
open Go Go.RowKit Tryz
attribute [local irreducible] wpList Code.wp Ok
def sN (site k:Nat):List cG:=(List.range k).map λi=>if i%2=site%2 then⟨1,1⟩ else⟨0,0⟩
def TO {site k:Nat} (h:(k:Int)%2=(site:Int)%2):sN site k++[⟨1,1⟩]=sN site (k+1):=by
 unfold sN;rw[List.range_succ,List.map_append,List.map_singleton,if_pos om]
def TP {site k:Nat} (h:¬(k:Int)%2=(site:Int)%2):sN site k++[⟨0,0⟩]=sN site (k+1):=by
 unfold sN;rw[List.range_succ,List.map_append,List.map_singleton,if_neg om]
def Fh (site k:Nat):(sN site k).length=k:=by simp[sN]
def agc (site:Nat) (h4:site<4):
 Fn prog 65 [AV.int (site:Int)] ((wF site).av):=by
 refine Fn.go 30 func65 ntmps65 (λW I a U=>?_);have AH:cO (site:Int)=true:=lK.2 om;refine sr<|U.alloc rfl cq dz λb2 I a w U=>?_;refine bA λI a w U=>?_;refine U.o (.c1 (rS ..)) λU=>?_;refine ax λI a w U=>?_;refine U.cd (λae=>?_) λae=>?_
 .exfalso;rw[AH] at ae;cases ae;skip
 refine bA λI a w U=>?_;refine U.o (.bd Dh (.k (.k aW.nil))) λU=>?_;refine U.alloc rfl cq Dh λb3 I a w U=>?_;refine ax λI a w U=>?_;have U:=U.fV (sz:=2) 46;refine ax λI a w U=>?_;refine St.lo (σ:=Nat×Value) (run 2 4 (run 17 12 [])) ⟨λ⟨k,v⟩=>[(4,AV.int k)],λ⟨k,v⟩=>[Own.box b2 43 [AV.val (.int .i64 0),AV.val (.bool false),AV.rows 2 [],AV.rows 7 [],AV.rows 7 [],AV.rows 3 [],AV.rows 3 []],Own.box b3 43 [AV.int (site:Int),AV.bool true,AV.val v,AV.val (.slice none 0 0),AV.val (.slice none 0 0),AV.val (.slice none 0 0),AV.val (.slice none 0 0)],Own.row v 46 2 ((sN site k).map cG.cells)],λ⟨k,v⟩=>k<=3⟩ (λ⟨k,v⟩=>3-k) (0,.slice none 0 0) U ?aL ?bG;case aL=>exact Nat.zero_le _
 rintro⟨k,v⟩ I a w al U;have hk:k<=3:=al;dsimp only at U;refine aB λI a w U=>?_;refine cz (λah=>?_) λah=>?_
 .refine zt ?_;refine U.o (.bd mC aW.nil) λU=>?_;refine U.alloc rfl ew mC λb5 I a w U=>?_;refine aH λI a w U=>?_;refine U.o (qn .tt .c (λ_=>by omega)) λU=>?_;refine U.m λU=>?_;refine U.o (qn .tt .c (λ_=>by omega)) λU=>?_;refine ax λI a w U=>?_;refine cz (λaj=>?_) λaj=>?_
  .refine St.region ?_;refine U.o (.bd mC (.k (.k aW.nil))) λU=>?_;refine bz λI a w U=>?_;refine U.o (.li [cG.cells ⟨1,1⟩] Di (.u .nil)) λU=>?_;refine U.append 2 rfl fP ew rfl .tt .r rfl (by rw[List.length_map,Fh];simp;omega) λKG a w U=>?_;refine U.o .fv λU=>?_;try have agd:=U.dZ 2 rfl
   refine aY λI a w U=>?_;have U:=U.drop 3;rw[bV,TO (by simpa using aj)] at U;exact U.ag (k+1,KG) (by show k+1<=3;omega)
  refine aV λI a w U=>?_;refine U.o (.li [cG.cells ⟨0,0⟩] Di (.u .nil)) λU=>?_;refine U.append 2 rfl fP ew rfl .tt .r rfl (by rw[List.length_map,Fh];simp;omega) λKG a w U=>?_;refine U.o .fv λU=>?_;try have agd:=U.dZ 2 rfl
  refine aY λI a w U=>?_;have U:=U.drop 3;rw[bV,TP (by simpa using aj)] at U;exact U.ag (k+1,KG) (by show k+1<=3;omega)
 refine wp_exit<|cM<|cM<|fI<|bk<|wp_seq ?_;obtain⟨I,U⟩:=U.fu 2 2 1;have U:=U.mo (q:=3) 1 rfl rfl (eW 7 _);have U:=U.mo (q:=4) 1 rfl rfl (eW 7 _);have U:=U.mo (q:=5) 1 rfl rfl (eW 3 _);have U:=U.mo (q:=6) 1 rfl rfl (eW 3 _);refine aB λI a w U=>?_;refine U.ret rfl (.cons (.sx 0) ba.nil) ?_;have ku:k=3:=by omega
 subst ku;rfl
def age {w:aI} {e:Ev} (h:((e.kind==1)||(e.kind==2)||(e.kind==3))=true):cT w e=((iC {w with time:=w.time+1} e).1,(iC {w with time:=w.time+1} e).2):=by unfold cT;rw[if_pos (by simp at h;omega)]
def agf {x:aI} {e:Ev} (h:e.kind=1):gJ x e=kb x e:=by unfold gJ iC;rw[if_pos (.inl h),if_pos h]
def zR {x:aI} {e:Ev} (h:(aS e.kind 6 9&&cO e.at_)=true):gJ x e=fl x e:=by
 have h2:=h;simp only[aS,Bool.and_eq_true,decide_eq_true_eq] at h2;unfold gJ;rw[if_neg om,if_neg om,if_pos h]
def agh {x:aI} {e:Ev} (h:((ab x.aw e.at_.toNat).up==(e.kind==7))=false) (hk:e.kind=6):fl x e=({x with aw:=x.aw.set e.at_.toNat (ll (ab x.aw e.at_.toNat))},true):=by
 unfold fl;dsimp only;rw[if_neg om,if_pos hk,Pq h om]
def agi {x:aI} {e:Ev} (h:((ab x.aw e.at_.toNat).up==(e.kind==7))=false) (hk:e.kind=8):fl x e=({x with au:=eB x.au (kT (ab x.aw e.at_.toNat))},true):=by
 unfold fl;dsimp only;rw[if_neg om,if_neg om,if_pos hk,Pq h om]
def agj {x:aI} {e:Ev} (hk:e.kind=9) (hm:(eG (ab x.aw e.at_.toNat) e.slot).2.2=false):fl x e=(x,false):=by
 unfold fl;dsimp only;rw[if_neg om,if_neg om,if_neg om,if_neg (by rw[IV hm];simp)]
def agk {s:Server} {slot:Int} (hg:bH s) (hm:(eG s slot).2.2=true):∀y∈[(eG s slot).2.1],jU y:=by
 have h:=Eu hm;have hp:=uT h;intro y hy;obtain rfl:=List.mem_singleton.1 hy;rw[IW h];exact w3 (Em (za hg h) hp.2.1 hp.2.2.1)
def cP.mono {n m:Nat} {s:dC} (h:cP n s) (hm:n<=m):cP m s:=
 ⟨h.reach,by have:=h.time;omega,by have:=h.len;omega,h.fit⟩
def agl {x i:Int} (h:gA x):gA (ab [0,2,x] i.toNat):=by
 unfold gA at*;have:∀k:Nat,ab [0,2,x] k=0\/ab [0,2,x] k=2\/ab [0,2,x] k=x:=λk=>by
  match k with
  |0=>exact .inl rfl
  |1=>exact .inr (.inl rfl)
  |2=>exact .inr (.inr rfl)
  |k+3=>exact .inl rfl
 rcases this i.toNat with h|h|h<;>omega
def Co {x:Int} (h1:0<=x) (h2:x<4611686018427387904):gA x:=by unfold gA;omega
def oS (bs br:Nat) (code:List UInt8) (s:dC) (p:Int):List Own:=[Own.box bs 77 [AV.val (.pointer (some ⟨br,0,none⟩)),AV.int s.w.time,iG s.w.aw,cQ s.w.au,fB s.w.calls,gN s.w.seen,AV.val s.lv],Own.row s.lv 30 11 (s.list.map Ev.cells),Own.box br 100 [cg code,AV.int (p)]]
def vC (l:List ao):
 Fn prog 54 [bw l,bw l] (AV.bool true):=by
 refine Fn.go 26 func54 ntmps54 (λW I a U=>?_);have hle:=U.dE (t:=0) rfl;refine gY λI a w U=>?_;refine U.cd (λae=>?_) λae=>?_
 .exfalso;simp at ae;skip
 refine ax λI a w U=>?_;refine St.lo (σ:=Nat) (run 2 4 (run 15 11 [])) ⟨λk=>[(5,AV.int k)],λk=>[],λk=>k<=l.length⟩ (λk=>l.length-k) 0 U ?aL ?bG;case aL=>exact Nat.zero_le _
 rintro k I a w al U;have hk:k<=l.length:=al;refine aY λI a w U=>?_;refine cz (λah=>?_) λah=>?_
 .refine zt ?_;refine U.dk ?_;refine mB ?_;refine .o (rJ [_,_,_] [_,_,_] wq rfl rfl .tt .tt)<|.nil ?_;intro I a w U;refine bk ?_;refine U.cd (λaj=>?_) λaj=>?_
  .exfalso;simp at aj;skip
  refine aN λI a w U=>?_;exact U.ag (k+1) (ah)
 refine zt ?_;refine bc ?_;rfl
def TQ (v:aE):
 Fn prog 33 [v.av,v.av] (AV.bool true):=by
 refine Fn.go 45 func33 ntmps33 (λW I a U=>?_);refine th λI a w U=>?_;refine U.q .T (mq [_,_] [_,_] mD rfl rfl .ag .ag) λU=>?_;refine NP λI a w U=>?_;refine U.q .T (.cl (vC ..)) λU=>?_;refine di ?_;exact bF bt
def Fi (l:List aE):
 Fn prog 38 [bQ l,bQ l] (AV.bool true):=by
 refine Fn.go 27 func38 ntmps38 (λW I a U=>?_);have hle:=U.dE (t:=0) rfl;refine gY λI a w U=>?_;refine U.cd (λae=>?_) λae=>?_
 .exfalso;simp at ae;skip
 refine ax λI a w U=>?_;refine St.lo (σ:=Nat) (run 2 4 (run 16 11 [])) ⟨λk=>[(5,AV.int k)],λk=>[],λk=>k<=l.length⟩ (λk=>l.length-k) 0 U ?aL ?bG;case aL=>exact Nat.zero_le _
 rintro k I a w al U;have hk:k<=l.length:=al;refine aY λI a w U=>?_;refine cz (λah=>?_) λah=>?_
 .refine zt ?_;refine U.dk ?_;refine mB ?_;refine .o (.c2 (TQ (ab l k))) ?_;refine aX ?_;refine .nil ?_;intro I a w U;refine bk ?_;refine U.cd (λaj=>?_) λaj=>?_
  .exfalso;simp at aj;skip
  refine aN λI a w U=>?_;exact U.ag (k+1) (ah)
 refine zt ?_;refine bc ?_;rfl
def agm (m:az):
 Fn prog 105 [m.av,m.av] (AV.bool true):=by
 refine Fn.go 101 func105 ntmps105 (λW I a U=>?_);refine De λI a w U=>?_;refine wj λI a w U=>?_;refine U.q .T (mq [_,_] [_,_] mD rfl rfl .ag .ag) λU=>?_;refine th λI a w U=>?_;refine U.q .T (vQ .ag .ag lj) λU=>?_;refine Wh λI a w U=>?_;refine U.q .T (.cl (vC ..)) λU=>?_;refine dI λI a w U=>?_;refine U.q .T (.cl (Fi ..)) λU=>?_;refine dI λI a w U=>?_;refine U.q .T (.cl (Fi ..)) λU=>?_;refine dI λI a w U=>?_;refine U.q .T (.cl (vC ..)) λU=>?_;refine di ?_;exact bF bt
def TR (s:Server) (hl:s.aF.length<=1048576):
 Fn prog 22 [s.av,s.av] (AV.bool true):=by
 refine Fn.go 77 func22 ntmps22 (λW I a U=>?_);refine th λI a w U=>?_;refine U.q .F (qm .ag .ag lj) λU=>?_;refine yu λI a w U=>?_;refine U.q .F (.cl (Fi ..)) λU=>?_;refine fo λI a w U=>?_;refine U.q .F (.cl (Fi ..)) λU=>?_;refine fo λI a w U=>?_;refine U.q .F (.cl (vC ..)) λU=>?_;refine fo λI a w U=>?_;refine U.q .F (.cl (vC ..)) λU=>?_;refine aB λI a w U=>?_;refine U.cd (λae=>?_) λae=>?_
 .exfalso;simp at ae;skip
 refine ax λI a w U=>?_;refine St.lo (σ:=Nat) (run 2 4 (run 18 59 [])) ⟨λk=>[(5,AV.int k)],λk=>[],λk=>k<=s.aF.length⟩ (λk=>s.aF.length-k) 0 U ?aL ?bG;case aL=>exact Nat.zero_le _
 rintro k I a w al U;have hk:k<=s.aF.length:=al;refine ct λI a w U=>?_;refine cz (λah=>?_) λah=>?_
 .refine zt ?_;refine U.dk ?_;refine lh ?_;refine .o (rJ [_,_] [_,_] G3 rfl rfl .tt .tt)<|.nil ?_;intro I a w U;refine bk ?_;refine U.cd (λaj=>?_) λaj=>?_
  .exfalso;simp at aj;skip
  refine aN λI a w U=>?_;exact U.ag (k+1) (ah)
 refine zt ?_;refine bc ?_;rfl
def agn (l:List Answer):
 Fn prog 64 [oN l,oN l] (AV.bool true):=by
 refine Fn.go 55 func64 ntmps64 (λW I a U=>?_);have hle:=U.dE (t:=0) rfl;refine gY λI a w U=>?_;refine U.cd (λae=>?_) λae=>?_
 .exfalso;simp at ae;skip
 refine ax λI a w U=>?_;refine St.lo (σ:=Nat) (run 2 4 (run 44 11 [])) ⟨λk=>[(5,AV.int k)],λk=>[],λk=>k<=l.length⟩ (λk=>l.length-k) 0 U ?aL ?bG;case aL=>exact Nat.zero_le _
 rintro k I a w al U;have hk:k<=l.length:=al;refine aY λI a w U=>?_;refine cz (λah=>?_) λah=>?_
 .refine zt ?_;refine U.dk ?_;refine nd ?_;refine gZ ?_;refine .q .F (qm .ag .ag lj) ?_;refine AR ?_;refine .q .F (.cl (TQ ..)) ?_;refine cj ?_;refine .nil ?_;intro I a w U;refine bk ?_;refine U.cd (λaj=>?_) λaj=>?_
  .exfalso;simp at aj;skip
  refine aN λI a w U=>?_;exact U.ag (k+1) (ah)
 refine zt ?_;refine bc ?_;rfl
def ago (q:Call) (hl:q.keys.length<=1048576):
 Fn prog 23 [q.av,q.av] (AV.bool true):=by
 refine Fn.go 111 func23 ntmps23 (λW I a U=>?_);refine De λI a w U=>?_;refine NL λI a w U=>?_;refine U.q .F (qm .ag .ag lj) λU=>?_;refine dI λI a w U=>?_;refine U.q .F (rJ [_,_] [_,_] mD rfl rfl .ag .ag) λU=>?_;refine yu λI a w U=>?_;refine U.q .F (.cl (vC ..)) λU=>?_;refine fo λI a w U=>?_;refine U.q .F (.cl (vC ..)) λU=>?_;refine fo λI a w U=>?_;refine U.q .F (.cl (agn ..)) λU=>?_;refine aB λI a w U=>?_;refine U.cd (λae=>?_) λae=>?_
 .exfalso;simp at ae;skip
 refine ax λI a w U=>?_;refine St.lo (σ:=Nat) (run 2 4 (run 18 93 [])) ⟨λk=>[(5,AV.int k)],λk=>[],λk=>k<=q.keys.length⟩ (λk=>q.keys.length-k) 0 U ?aL ?bG;case aL=>exact Nat.zero_le _
 rintro k I a w al U;have hk:k<=q.keys.length:=al;refine ct λI a w U=>?_;refine cz (λah=>?_) λah=>?_
 .refine ax λI a w U=>?_;refine U.cd (λaj=>?_) λaj=>?_
  .exfalso;simp at aj;skip
  refine aN λI a w U=>?_;exact U.ag (k+1) (ah)
 refine zt ?_;refine bc ?_;rfl
def agp (l:List az) (h:l.length<=1048576) (hd:∀y∈l,jU y):
 iA prog 83 [cQ l] 84 15 (l.map az.cells):=by
 refine iA.intro 21 func83 rfl ntmps83 rfl aG (λW I a U=>?_);have hle:=U.dE (t:=0) rfl;refine ax λI a w U=>?_;refine U.l0 λb5 I a w U=>?_;refine aB λI a w U=>?_;refine St.lo (σ:=Nat×Value) (run 2 3 (run 14 6 [])) ⟨λ⟨k,v⟩=>[(4,AV.int k),(3,AV.val v)],λ⟨k,v⟩=>[Own.row v 84 15 ((l.take k).map az.cells)],λ⟨k,v⟩=>k<=l.length⟩ (λ⟨k,v⟩=>l.length-k) (0,.slice (some ⟨b5,0,none⟩) 0 0) U ?aL ?bG;case aL=>exact Nat.zero_le _
 rintro⟨k,v⟩ I a w al U;have hk:k<=l.length:=al;dsimp only at U;refine aY λI a w U=>?_;refine cz (λae=>?_) λae=>?_
 .refine bO λI a w U=>?_;refine U.o (.c1 (H7 (ab l k) (hd _ (bB ae)))) λU=>?_;refine U.o (.li [(ab l k).cells] gw (.u .nil)) λU=>?_;refine U.ap 0 λlP a w U=>?_;rw[bV,<-ez ae] at U;refine aY λI a w U=>?_;exact U.ag (k+1,lP) (ae)
 refine zt ?_;refine aB λI a w U=>?_;refine U.qx (r:=2) 0 rfl rfl rfl (by rw[List.take_of_length_le om])
def agq {s t:Server} (hl:t.aF.length<=1048576) (e:s=t):Fn prog 22 [s.av,t.av] (AV.bool true):=by rw[e];exact TR t hl
def TG (w:aI) (k:Nat):(!gQ (ab w.aw k)||((ab w.aw k).site !=(k:Int)))=!qJ w k:=by rw[Bool.or_comm,HA]
def TH (x:aI):(!aS x.time 0 99999||((x.aw.length:Int) !=4)||decide (60<(x.au.length:Int))||((x.seen.length:Int) !=2)||!jJ x.calls x.time)=!(pJ x&&jJ x.calls x.time):=by
 unfold pJ;simp
def Ck (l:List (List ao)):(!hasB wE l)=de l.length λi=>bN (ab l i):=by
 rw[BA];exact Av rfl λi _=>by simp[wE]
def Cl (l:List az):(!hasB wN l)=de l.length λi=>bM (ab l i):=by
 rw[BA];exact Av rfl λi _=>by simp[wN]
def Cm (x:aI) (vn:∀q∈x.calls,q.aA.length<=1048576):
 Fn prog 18 [x.av] (AV.bool (fS x)):=by
 refine Fn.go 88 func18 ntmps18 (λW I a U=>?_);have lens:x.aw.length<=9223372036854775807/\x.au.length<=9223372036854775807/\x.calls.length<=9223372036854775807/\x.seen.length<=9223372036854775807:=⟨U.ln 0 1,U.ln 0 2,U.ln 0 3,U.ln 0 4⟩;refine bz λI a w U=>?_;refine U.o (.cl (jg ..)) λU=>?_;refine Wk λI a w U=>?_;refine U.q .F (NU (λhg=>Td x.calls x.time (by simp[aS] at hg;omega) vn) (ai .ag (ai .ag aC))) λU=>?_;refine aB λI a w U=>?_;refine U.cd (λae=>?_) λae=>?_
 .rw[TH] at ae;replace ae:=nt ae;refine bc ?_;exact bF (by unfold fS;rw[Ck,Cl];revert ae;cases pJ x<;>cases jJ x.calls x.time<;>simp)
 rw[TH] at ae;replace ae:=nf ae;refine ax λI a w U=>?_;refine St.lo (σ:=Nat) (run 2 2 (run 24 36 [])) ⟨λk=>[(3,AV.int k)],λk=>[],λk=>k<=x.aw.length/\∀i,i<k->(qJ x) i=true⟩ (λk=>x.aw.length-k) 0 U ?aL ?bG;case aL=>exact⟨Nat.zero_le _,λi hi=>by omega⟩
 rintro k I a w al U;obtain⟨rV,aT⟩:=al;refine ct λI a w U=>?_;refine cz (λah=>?_) λah=>?_
 .refine bO λI a w U=>?_;refine U.o (.c1 (vj ..)) λU=>?_;refine AO λI a w U=>?_;refine U.cd (λaj=>?_) λaj=>?_
  .rw[TG] at aj;replace aj:=nt aj;refine bc ?_;exact bF (by unfold fS;rw[Ck,Cl];rw[fN (f:=qJ x) ah aj];simp)
  rw[TG] at aj;replace aj:=nf aj;refine aN λI a w U=>?_;exact U.ag (k+1) (⟨by omega,gO aT aj⟩)
 refine zt ?_;refine ax λI a w U=>?_;refine St.lo (σ:=Nat) (2::(4::(run 14 60 []))) ⟨λk2=>[(4,AV.int k2)],λk2=>[],λk2=>k2<=x.au.length/\∀i,i<k2->(λi=>bM (ab x.au i)) i=true⟩ (λk2=>x.au.length-k2) 0 U ?ei ?jK;case ei=>exact⟨Nat.zero_le _,λi hi=>by omega⟩
 rintro k2 I a w al U;obtain⟨zn,jL⟩:=al;refine ct λI a w U=>?_;refine cz (λaJ=>?_) λaJ=>?_
 .refine bO λI a w U=>?_;refine U.o (.c1 (I6 ..)) λU=>?_;refine ax λI a w U=>?_;refine U.cd (λaP=>?_) λaP=>?_
  .replace aP:=nt aP;refine bc ?_;exact bF (by unfold fS;rw[Ck,Cl];rw[fN (f:=λi=>bM (ab x.au i)) aJ aP];simp)
  replace aP:=nf aP;refine aN λI a w U=>?_;exact U.ag (k2+1) (⟨by omega,gO jL aP⟩)
 refine zt ?_;refine ax λI a w U=>?_;refine St.lo (σ:=Nat) (2::(5::(run 14 74 []))) ⟨λk3=>[(5,AV.int k3)],λk3=>[],λk3=>k3<=x.seen.length/\∀i,i<k3->(λi=>bN (ab x.seen i)) i=true⟩ (λk3=>x.seen.length-k3) 0 U ?iN ?pj;case iN=>exact⟨Nat.zero_le _,λi hi=>by omega⟩
 rintro k3 I a w al U;obtain⟨Rz,vi⟩:=al;refine ct λI a w U=>?_;refine cz (λbn=>?_) λbn=>?_
 .refine bO λI a w U=>?_;refine U.o (.cl (pI ..)) λU=>?_;refine ax λI a w U=>?_;refine U.cd (λbl=>?_) λbl=>?_
  .replace bl:=nt bl;refine bc ?_;exact bF (by unfold fS;rw[Ck,Cl];rw[fN (f:=λi=>bN (ab x.seen i)) bn bl];simp)
  replace bl:=nf bl;refine aN λI a w U=>?_;exact U.ag (k3+1) (⟨by omega,gO vi bl⟩)
 refine zt ?_;refine bc ?_;exact bF (by unfold fS;rw[Ck,Cl];rw[fJ aT om,fJ jL om,fJ vi om];rw[Bool.and_eq_true] at ae;rw[ae.1,ae.2];rfl)
def ue (x:aI):Prop:=(x.aw.length<=1048576/\∀s∈x.aw,qO s)/\(x.au.length<=1048576/\∀m∈x.au,jU m)/\(x.calls.length<=1048576/\∀q∈x.calls,yX q)/\x.seen.length<=1048576/\∀l∈x.seen,l.length<=1048576
def af0 (l:List az) (h:l.length<=1048576) (hd:∀m∈l,jU m):
 iA prog 101 [cQ l] 84 15 (l.map az.cells):=by
 refine iA.intro 19 func101 rfl ntmps101 rfl aG (λW I a U=>?_);have U:=U.fV (sz:=15) 84;refine ct λI a w U=>?_;refine St.lo (σ:=Nat×Value) (3::(5::(run 10 8 []))) ⟨λ⟨k,v⟩=>[(8,AV.int k),(3,AV.val v)],λ⟨k,v⟩=>[Own.row v 84 15 ((l.take k).map az.cells)],λ⟨k,v⟩=>k<=l.length⟩ (λ⟨k,v⟩=>l.length-k) (0,.slice none 0 0) U ?aL ?bG;case aL=>exact Nat.zero_le _
 rintro⟨k,v⟩ I a w al U;have hk:k<=l.length:=al;dsimp only at U;refine ax λI a w U=>?_;refine cz (λae=>?_) λae=>?_
 .refine aH λI a w U=>?_;refine U.alloc rfl dj dN λb5 I a w U=>?_;refine ax λI a w U=>?_;obtain⟨I,U⟩:=U.fb 1 5;refine aH λI a w U=>?_;refine U.o (.c1 (By (ab l k) (hd _ (bB ae)))) λU=>?_;refine U.o (.li [(ab l k).cells] gw (.u .nil)) λU=>?_;refine U.ap 0 λIj a w U=>?_;rw[bV,<-ez ae] at U;refine aN λI a w U=>?_;have U:=U.drop 1;exact U.ag (k+1,Ij) (ae)
 refine zt ?_;refine aB λI a w U=>?_;exact U.qx (r:=2) 0 rfl rfl rfl (by rw[List.take_of_length_le om])
def TI (x:aI) (h:ue x):
 bT prog 52 [x.av] [] (λ_=>True) x.Dw x.Pp:=by
 refine bT.intro 62 func52 rfl ntmps52 rfl aG (λW I a U=>?_);obtain⟨⟨h1,h2⟩,⟨h3,h4⟩,⟨h5,h6⟩,h7,h8⟩:=h;have U:=U.fV (sz:=7) 43;have U:=U.fV (sz:=13) 53;have U:=U.fV (sz:=1) 41;refine bA λI a w U=>?_;refine U.alloc rfl dx dB λb2 I a w U=>?_;refine zt ?_;have U:=U.gF;have U:=U.gF;have U:=U.gF;refine U.wh 7 _ (rp 4 [([5],some (5,[14])),([6],some (6,[15,14])),([4],some (4,[3]))]) rfl aG aG rfl ?_;simp only[TD];refine dM ?_;refine aK.lZ 5 rfl rfl (af0 x.au h3 h4) (ai .r aC) ?_;refine aK.Dk 6 [14] (λa=>AV.agg [AV.int x.time,AV.val (.slice none 0 0),AV.val (a.tmps.getD 14 undef),AV.val (.slice none 0 0),AV.val (.slice none 0 0)]) rfl rfl rfl rfl (λa b h=>by simp only[List.forall_mem_cons] at h;simp only[h]) rfl (λF a I he=>Ok.to (.bd wm (.k (aW.c NR rfl .tt (uG (t:=14) he) aW.nil)))) ?_;refine aK.alloc 4 rfl rfl dx dB<|.nil ?_;intro I a w U;obtain⟨b3,U⟩:=U.my (d:=3) 4 rfl rfl;change St _ _ [Own.row (.slice none 0 0) 43 7 [],Own.row (.slice none 0 0) 53 13 [],Own.row (.slice none 0 0) 41 1 [],Own.box b2 28 [AV.val (.int .i64 0),AV.rows 7 [],AV.rows 15 [],AV.rows 13 [],AV.rows 1 []],Own.box b3 28 _,Own.row (a.tmps.getD 14 undef) 84 15 (x.au.map az.cells),Own.is (AV.agg [AV.int x.time,AV.val (.slice none 0 0),AV.val (a.tmps.getD 14 undef),AV.val (.slice none 0 0),AV.val (.slice none 0 0)]) (a.tmps.getD 15 undef)] _ _ _ at U;have U:=U.Dl (d:=15) 6 rfl;have U:=U.drop 6;generalize a.tmps.getD 14 undef=lQ at U;show wpList _ _ _ _ _ _;refine ct λI a w U=>?_;refine St.lo (σ:=Nat×Value) (5::(run 12 19 [])) ⟨λ⟨k,p⟩=>[(19,AV.int k)],λ⟨k,p⟩=>[Own.row p 43 7 ((x.aw.take k).map Server.cells),Own.row (.slice none 0 0) 53 13 ([]),Own.row (.slice none 0 0) 41 1 ([]),Own.box b2 28 [AV.val (.int .i64 0),AV.rows 7 [],AV.rows 15 [],AV.rows 13 [],AV.rows 1 []],Own.box b3 28 [AV.int x.time,AV.val p,AV.val lQ,AV.val (.slice none 0 0),AV.val (.slice none 0 0)],Own.row lQ 84 15 (x.au.map az.cells)],λ⟨k,p⟩=>k<=x.aw.length⟩ (λ⟨k,p⟩=>x.aw.length-k) (0,(.slice none 0 0)) U ?aL ?bG;case aL=>exact Nat.zero_le _
 rintro⟨k,p⟩ I a w al U;have hk:k<=x.aw.length:=al;dsimp only at U;refine ax λI a w U=>?_;refine cz (λae=>?_) λae=>?_
 .refine aH λI a w U=>?_;refine U.alloc rfl cq dz λb5 I a w U=>?_;refine ax λI a w U=>?_;obtain⟨I,U⟩:=U.fb 6 5;refine U.dt 5 ?_;simp only[TD];refine dJ ?_;refine .o (.c1 (tN _ (h2 _ (bB ae)))) ?_;refine .o (.li [(ab x.aw k).cells] AU (.u .nil)) ?_;refine .nil ?_;intro I a w U;refine U.ap 0 λBG a w U=>?_;rw[bV,<-ez ae] at U;refine U.o .fv λU=>?_;try have anX:=U.dZ 0 rfl
  refine aN λI a w U=>?_;have U:=U.drop 6;exact U.ag (k+1,BG) (ae)
 refine wp_exit<|cM<|cM<|fI<|bk<|wp_seq<|wp_seq ?_;rw[List.take_of_length_le om] at U;refine aY λI a w U=>?_;refine St.lo (σ:=Nat×Value) (7::(run 12 34 [])) ⟨λ⟨k,q⟩=>[(34,AV.int k)],λ⟨k,q⟩=>[Own.row p 43 7 (x.aw.map Server.cells),Own.row q 53 13 ((x.calls.take k).map Call.cells),Own.row (.slice none 0 0) 41 1 ([]),Own.box b2 28 [AV.val (.int .i64 0),AV.rows 7 [],AV.rows 15 [],AV.rows 13 [],AV.rows 1 []],Own.box b3 28 [AV.int x.time,AV.val p,AV.val lQ,AV.val q,AV.val (.slice none 0 0)],Own.row lQ 84 15 (x.au.map az.cells)],λ⟨k,q⟩=>k<=x.calls.length⟩ (λ⟨k,q⟩=>x.calls.length-k) (0,(.slice none 0 0)) U ?ei ?jK;case ei=>exact Nat.zero_le _
 rintro⟨k,q⟩ I a w al U;have hk:k<=x.calls.length:=al;dsimp only at U;refine ax λI a w U=>?_;refine cz (λah=>?_) λah=>?_
 .refine aH λI a w U=>?_;refine U.alloc rfl eR j2 λb7 I a w U=>?_;refine ax λI a w U=>?_;obtain⟨I,U⟩:=U.fb 6 7;refine U.dt 5 ?_;simp only[TD];refine dJ ?_;refine .o (.c1 (Tt _ (h6 _ (bB ah)))) ?_;refine .o (.li [(ab x.calls k).cells] AW (.u .nil)) ?_;refine .nil ?_;intro I a w U;refine U.ap 1 λER a w U=>?_;rw[bV,<-ez ah] at U;refine U.o .fv λU=>?_;try have afg:=U.dZ 1 rfl
  refine aN λI a w U=>?_;have U:=U.drop 6;exact U.ag (k+1,ER) (ah)
 refine wp_exit<|cM<|cM<|fI<|bk<|wp_seq<|wp_seq ?_;rw[List.take_of_length_le om] at U;refine aY λI a w U=>?_;refine St.lo (σ:=Nat×Value) (9::(run 12 49 [])) ⟨λ⟨k,r⟩=>[(49,AV.int k)],λ⟨k,r⟩=>[Own.row p 43 7 (x.aw.map Server.cells),Own.row q 53 13 (x.calls.map Call.cells),Own.row r 41 1 ((x.seen.take k).map dQ),Own.box b2 28 [AV.val (.int .i64 0),AV.rows 7 [],AV.rows 15 [],AV.rows 13 [],AV.rows 1 []],Own.box b3 28 [AV.int x.time,AV.val p,AV.val lQ,AV.val q,AV.val r],Own.row lQ 84 15 (x.au.map az.cells)],λ⟨k,r⟩=>k<=x.seen.length⟩ (λ⟨k,r⟩=>x.seen.length-k) (0,(.slice none 0 0)) U ?iN ?pj;case iN=>exact Nat.zero_le _
 rintro⟨k,r⟩ I a w al U;have hk:k<=x.seen.length:=al;dsimp only at U;refine ax λI a w U=>?_;refine cz (λaj=>?_) λaj=>?_
 .refine aN λI a w U=>?_;refine U.dt 5 ?_;simp only[TD];refine dJ ?_;refine .o (.cl (tJ _ (h8 _ (bB aj)))) ?_;refine .o (.li [dQ (ab x.seen k)] Dg (.v .nil)) ?_;refine .nil ?_;intro I a w U;refine U.ap 2 λJ8 a w U=>?_;rw[bV,<-ez aj] at U;refine U.o .fv λU=>?_;try have anY:=U.dZ 2 rfl
  refine aN λI a w U=>?_;exact U.ag (k+1,J8) (aj)
 refine wp_exit<|cM<|cM<|fI<|bk<|wp_seq ?_;rw[List.take_of_length_le om] at U;refine aB λI a w U=>?_;exact U.bJ (p,lQ,q,r) [0,5,1,2] rfl (.cons (.s 3 dx rfl rfl (by first|rfl|assumption)) .nil) trivial rfl rfl
def af1 (x:aI) (h:ue x):Fn prog 52 [x.av] x.av:=(TI x h).frozen λr c I a w _ U=>by
 obtain⟨I,U⟩:=U.fa 0 0 1;obtain⟨I,U⟩:=U.fa 1 0 2;obtain⟨I,U⟩:=U.fa 2 0 3;obtain⟨I,U⟩:=U.fa 3 0 4;exact⟨_,_,_,U⟩
def af2 {x:aI} {e:Ev} (h:e.kind=2\/e.kind=3) (hi:cA x.calls e.aq<0):gJ x e=(x,false):=by unfold gJ iC;rw[if_pos (.inr h),if_neg om];dsimp only;rw[if_pos hi]
def af3 {x:aI} {e:Ev} (h:e.kind=2) (hi:¬cA x.calls e.aq<0):gJ x e=({x with au:=eB x.au (jH (ab x.calls (cA x.calls e.aq).toNat))},true):=by
 unfold gJ iC;rw[if_pos (.inr (.inl h)),if_neg om];dsimp only;rw[if_neg hi,if_neg om]
def KA {x:aI} {e:Ev} (h:e.kind=4\/e.kind=5):gJ x e=iu x e:=by unfold gJ;rw[if_neg om,if_pos h]
def af4 {x:aI} {e:Ev} (h1:¬e.kind=1) (h2:¬(e.kind=2\/e.kind=3)) (h4:¬e.kind=4) (h5:¬e.kind=5) (h:(aS e.kind 6 9&&cO e.at_)=false):gJ x e=(x,false):=by
 unfold gJ;rw[if_neg om,if_neg om,h];rfl
def af5 {x:aI} {e:Ev} (h:((ab x.aw e.at_.toNat).up==(e.kind==7))=false) (hk:e.kind=7):fl x e=({x with aw:=x.aw.set e.at_.toNat (pU (ab x.aw e.at_.toNat))},true):=by
 unfold fl;dsimp only;rw[if_pos hk,Yg h hk];rfl
def TJ {q:Call} {t:Int} (h:dS q t):(jH q).length<=1048576/\∀y∈jH q,jU y:=by
 refine⟨?_,λy hy=>w3 (IJ h y hy)⟩;cases hw:gP q
 .unfold jH;rw[hw];exact Nat.zero_le _
 rw[<-Te hw (Nat.le_refl _),Ks q _ (Nat.le_refl _)];have:=Kr (q:=q);have:=h.lens;omega
def cy.small {w:aI} (h:cy w):ue w:=by
 refine⟨⟨by have:=h.aw;omega,λs U=>?_⟩,⟨by have:=h.au;omega,λm hm=>w3 (h.words m hm)⟩,⟨by have:=h.lens.1;omega,λq hq=>?_⟩,by have:=h.seen;omega,λl hl=>by have:=eL (h.kd l hl);omega⟩
 .obtain⟨i,hi,rfl⟩:=g7 U;exact((h.site i (by have:=h.aw;omega)).2).small
 obtain⟨i,hi,rfl⟩:=g7 hq;exact(h.call hi).small
def hC (bs:List UInt8) (p n:Int) (h:n<=4611686018427387904):0<=bI bs p n/\bI bs p n<4611686018427387904:=by
 refine⟨ig ..,?_⟩;by_cases h0:0<n
 .have:=iJ bs p h0;omega
 unfold bI;rw[if_pos om];omega
def cP.start (n:Nat) (v:Value):cP n ⟨fw,[],v⟩:=⟨.start,Int.natCast_nonneg n,Nat.zero_le _,λ_ h=>by simp at h⟩
def cP.af6 {n:Nat} {s:dC} {e:Ev} (h:cP n s) (he:e.y7) (al:(cT s.w e).2=true) (v:Value):cP (n+1) ⟨(cT s.w e).1,s.list++[e],v⟩:=
 ⟨h.reach.step al,by have:=h.time;show(cT s.w e).1.time<=_;rw[Jq];omega,by have:=h.len;show(s.list++[e]).length<=_;simp;omega,λx hx=>by
  rcases List.mem_append.1 hx with hx|hx
  .exact h.fit x hx
  obtain rfl:=List.mem_singleton.1 hx;exact he⟩
def jW {a b c d e f g h i j k:Int} (h1:gA a:=by unfold gA;omega) (h2:gA b:=by unfold gA;omega) (h3:gA c:=by unfold gA;omega) (h4:gA d:=by unfold gA;omega) (h5:gA e:=by unfold gA;omega) (h6:gA f:=by unfold gA;omega)
 (h7:gA g:=by unfold gA;omega) (h8:gA h:=by unfold gA;omega) (h9:gA i:=by unfold gA;omega) (wH:gA j:=by unfold gA;omega) (sV:gA k:=by unfold gA;omega):Ev.y7 ⟨a,b,c,d,e,f,g,h,i,j,k⟩:=by
 intro x hx;unfold gA at*;simp only[Ev.ints,List.mem_cons,List.not_mem_nil,or_false] at hx;rcases hx with rfl|rfl|rfl|rfl|rfl|rfl|rfl|rfl|rfl|rfl|rfl<;>omega
def af7 {bs:List UInt8} {p n m:Int} (h:n<=m) (hm:0<=m):bI bs p n<=m:=by
 by_cases h0:0<n
 .have:=iJ bs p h0;omega
 unfold bI;rw[if_pos om];omega
def KB (x:aI) (h:ue x):
 Fn prog 44 [x.av] (x.av):=by
 refine Fn.go 69 func44 ntmps44 (λW I a U=>?_);obtain⟨⟨h1,h2⟩,⟨h3,h4⟩,⟨h5,h6⟩,h7,h8⟩:=h;have U:=U.fV (sz:=7) 43;have U:=U.fV (sz:=13) 53;have U:=U.fV (sz:=1) 41;refine bA λI a w U=>?_;refine U.alloc rfl dx dB λb2 I a w U=>?_;refine zt ?_;refine U.da 7 ?_;simp only[TD];refine dM ?_;refine .o (.cl (H8 x.au h3 h4)) ?_;refine .o (.bd wm (.k (.k aW.nil))) ?_;refine gv.alloc dx dB<|.nil ?_;intro I a w U;obtain⟨b3,U⟩:=U.uz (d:=3) rfl;refine aB λI a w U=>?_;refine St.lo (σ:=Nat×Value) (4::(run 18 13 [])) ⟨λ⟨k,p⟩=>[(4,AV.int k)],λ⟨k,p⟩=>[Own.row p 43 7 ((x.aw.take k).map Server.cells),Own.row (.slice none 0 0) 53 13 ([]),Own.row (.slice none 0 0) 41 1 ([]),Own.box b2 28 [AV.val (.int .i64 0),AV.rows 7 [],AV.rows 15 [],AV.rows 13 [],AV.rows 1 []],Own.box b3 28 [AV.int x.time,AV.val p,cQ x.au,AV.val (.slice none 0 0),AV.val (.slice none 0 0)]],λ⟨k,p⟩=>k<=x.aw.length⟩ (λ⟨k,p⟩=>x.aw.length-k) (0,(.slice none 0 0)) U ?aL ?bG;case aL=>exact Nat.zero_le _
 rintro⟨k,p⟩ I a w al U;have hk:k<=x.aw.length:=al;dsimp only at U;refine ct λI a w U=>?_;refine cz (λae=>?_) λae=>?_
 .refine zt ?_;refine U.dt 9 ?_;simp only[TD];refine kJ ?_;refine .o (.c1 (zA _ (h2 _ (bB ae)))) ?_;refine .o (.li [(ab x.aw k).cells] AU (.u .nil)) ?_;refine .nil ?_;intro I a w U;refine U.ap 0 λtV a w U=>?_;rw[bV,<-ez ae] at U;refine U.o .fv λU=>?_;try have TK:=U.dZ 0 rfl
  refine aY λI a w U=>?_;exact U.ag (k+1,tV) (ae)
 refine wp_exit<|cM<|cM<|fI<|bk<|wp_seq<|wp_seq ?_;rw[List.take_of_length_le om] at U;refine ax λI a w U=>?_;refine St.lo (σ:=Nat×Value) (5::(run 18 31 [])) ⟨λ⟨k,q⟩=>[(5,AV.int k)],λ⟨k,q⟩=>[Own.row p 43 7 (x.aw.map Server.cells),Own.row q 53 13 ((x.calls.take k).map Call.cells),Own.row (.slice none 0 0) 41 1 ([]),Own.box b2 28 [AV.val (.int .i64 0),AV.rows 7 [],AV.rows 15 [],AV.rows 13 [],AV.rows 1 []],Own.box b3 28 [AV.int x.time,AV.val p,cQ x.au,AV.val q,AV.val (.slice none 0 0)]],λ⟨k,q⟩=>k<=x.calls.length⟩ (λ⟨k,q⟩=>x.calls.length-k) (0,(.slice none 0 0)) U ?ei ?jK;case ei=>exact Nat.zero_le _
 rintro⟨k,q⟩ I a w al U;have hk:k<=x.calls.length:=al;dsimp only at U;refine ct λI a w U=>?_;refine cz (λah=>?_) λah=>?_
 .refine zt ?_;refine U.dt 9 ?_;simp only[TD];refine kJ ?_;refine .o (.c1 (EF _ (h6 _ (bB ah)))) ?_;refine .o (.li [(ab x.calls k).cells] AW (.u .nil)) ?_;refine .nil ?_;intro I a w U;refine U.ap 1 λBL a w U=>?_;rw[bV,<-ez ah] at U;refine U.o .fv λU=>?_;try have af8:=U.dZ 1 rfl
  refine aY λI a w U=>?_;exact U.ag (k+1,BL) (ah)
 refine wp_exit<|cM<|cM<|fI<|bk<|wp_seq<|wp_seq ?_;rw[List.take_of_length_le om] at U;refine ax λI a w U=>?_;refine St.lo (σ:=Nat×Value) (6::(run 19 49 [])) ⟨λ⟨k,r⟩=>[(6,AV.int k)],λ⟨k,r⟩=>[Own.row p 43 7 (x.aw.map Server.cells),Own.row q 53 13 (x.calls.map Call.cells),Own.row r 41 1 ((x.seen.take k).map dQ),Own.box b2 28 [AV.val (.int .i64 0),AV.rows 7 [],AV.rows 15 [],AV.rows 13 [],AV.rows 1 []],Own.box b3 28 [AV.int x.time,AV.val p,cQ x.au,AV.val q,AV.val r]],λ⟨k,r⟩=>k<=x.seen.length⟩ (λ⟨k,r⟩=>x.seen.length-k) (0,(.slice none 0 0)) U ?iN ?pj;case iN=>exact Nat.zero_le _
 rintro⟨k,r⟩ I a w al U;have hk:k<=x.seen.length:=al;dsimp only at U;refine ct λI a w U=>?_;refine cz (λaj=>?_) λaj=>?_
 .refine zt ?_;refine U.dt 10 ?_;simp only[TD];refine cj ?_;refine .o (tb du cE) ?_;refine fD ?_;refine .o (AE du cE rfl .tt .r (λ_=>by have:=h8 _ (bB aj);simp;omega)) ?_;refine .o (.li [dQ (ab x.seen k)] Dg (.v .nil)) ?_;refine .nil ?_;intro I a w U;refine U.ap 2 λKC a w U=>?_;rw[bV,<-ez aj] at U;refine U.o .fv λU=>?_;try have af9:=U.dZ 2 rfl
  refine aY λI a w U=>?_;exact U.ag (k+1,KC) (aj)
 refine wp_exit<|cM<|cM<|fI<|bk<|wp_seq ?_;rw[List.take_of_length_le om] at U;obtain⟨I,U⟩:=U.fu 0 1 4;obtain⟨I,U⟩:=U.fu 1 3 4;obtain⟨I,U⟩:=U.fu 2 4 4;have U:=U.nf;refine aB λI a w U=>?_;refine U.ret rfl (.cons (.sx 3) ba.nil) ?_;rfl
def Own.res {α:Type} (ok:α->Prop) (res:α->AV) (g:Value->List Own) (v:Value):Own:=
 ⟨λb=>∃o∈g v,o.gB b,λI w=>(∃x,ok x/\(res x).h I v)/\(∀o∈g v,o.ok I w)/\(g v).Pairwise m5,
  λI I' w w' hl hb h=>⟨let⟨x,h1,h2⟩:=h.1;⟨x,h1,(res x).up _ _ _ hl h2⟩,λo ho=>o.hO I I' w w' hl (λb e=>hb b ⟨o,ho,e⟩) (h.2.1 o ho),h.2.2⟩⟩
def AV.some {α:Type} (ok:α->Prop) (f:α->AV):AV:=⟨λI v=>∃x,ok x/\(f x).h I v,λI J v hl ⟨x,h,k⟩=>⟨x,h,(f x).up I J v hl k⟩⟩
def nH:AV:=AV.some (λ_:Int=>True) AV.int
def TL:AV:=AV.some lL AV.int
def TM:AV:=AV.some (λ_:Bool=>True) AV.bool
def aga:AV:=AV.some (λ_:List cG=>True) s7
def Fc:AV:=AV.some (λ_:List aE=>True) bQ
def xO:AV:=AV.some (λ_:List ao=>True) bw
def Fe:List AV:=[nH,nH]
def Cn:List AV:=[nH,TM,aga,Fc,Fc,xO,xO]
def zQ:List AV:=[nH,TL,TL,nH,nH,nH,nH,nH,TM,xO,nH,nH,Fc,Fc,xO]
def sM (br:Nat) (code:List UInt8) (a b:Int):Own:=Own.box br 100 [cg code,AV.some (λq:Int=>a<=q/\q<=b) AV.int]
def Ff (v:Value) (i:Nat):Value:=v.cells.toList.getD i undef
def KD {I:Im} {l:List AV} {v u:Value} {i:Nat} (h:(AV.agg l).h I v) (hi:l[i]?=some (.val u)):Ff v i=u:=by
 obtain⟨cs,rfl,h⟩:=h;obtain⟨c,hc,e,_⟩:=h.get hi;obtain rfl:c=u:=e;show cs.toList.getD i undef=c;rw[List.getD_eq_getElem?_getD,hc];rfl
def KE (s:Server) (v:Value):List Own:=[Own.row (Ff v 2) 46 2 (s.aF.map cG.cells),Own.row (Ff v 5) 115 3 (s.aD.map ao.cells),Own.row (Ff v 6) 115 3 (s.bj.map ao.cells)]
def KF {α:Type} {l:List α} {i:Nat} {r:α} (h:i<l.length):(l.set i r)[i]?=some r:=by rw[List.getElem?_set_self h]
def agb {α:Type} {f:α->List AV} {l:List α} {r:List AV}:((l.map f)++[r])[l.length]?=some r:=by
 rw[List.getElem?_append_right bt];simp
def Fg {x:aI} (h:fS x=true):ue x:=(jy.1 h).1.small
def afp (q:Call) (t:Int) (hq:fR q t=true):
 Fn prog 203 [q.av] (bw (gx q)):=by
 refine Fn.go 45 func203 ntmps203 (λW I a U=>?_);have lens:q.keys.length<=9223372036854775807/\q.aA.length<=9223372036854775807/\q.aO.length<=9223372036854775807:=⟨U.ln 0 3,U.ln 0 11,U.ln 0 12⟩;have hp:=EN hq;have hc6:=eL hp.1;refine bz λI a w U=>?_;refine U.o (cr (tJ q.ctx om) (ai .r aC)) λU=>?_;refine aY λI a w U=>?_;refine cz (λae=>?_) λae=>?_
 .refine di ?_;exact congrArg bw (by unfold gx;rw[if_pos ae])
 refine aN λI a w U=>?_;refine cz (λah=>?_) λah=>?_
 .refine wp_seq<|U.dk ?_;refine dJ ?_;refine .o ((by first|exact dW cH cx .tt .c (λ_=>by have:=xo hp.2.2.1 ah;omega)|exact fe cH cx .tt .c (λ_=>by have:=xo hp.2.2.1 ah;omega)|exact fm cH cx .tt .c (λ_=>by have:=xo hp.2.2.1 ah;omega))) ?_;refine dJ ?_;refine .o (.bd fh (.k (.t aW.nil))) ?_;refine .o (.cl (Km _ ⟨ab q.keys 0,q.ar⟩ hp.1)) ?_;refine aX ?_;refine .nil ?_;intro I a w U;refine zt ?_;refine U.rt ?_;exact congrArg bw (by unfold gx;rw[if_neg ae,if_pos ah])
 refine aY λI a w U=>?_;refine St.lo (σ:=Nat) (3::(5::(run 16 28 []))) ⟨λk=>[(28,AV.int k),(3,bw ((q.aA.take k).foldl mH q.ctx))],λk=>[],λk=>k<=q.aA.length⟩ (λk=>q.aA.length-k) 0 U ?aL ?bG;case aL=>exact Nat.zero_le _
 rintro k I a w al U;have hk:k<=q.aA.length:=al;refine ax λI a w U=>?_;refine cz (λaj=>?_) λaj=>?_
 .refine aH λI a w U=>?_;refine U.alloc rfl fF pG λb5 I a w U=>?_;refine ax λI a w U=>?_;obtain⟨I,U⟩:=U.fb 0 5;refine aB λI a w U=>?_;refine cz (λaJ=>?_) λaJ=>?_
  .refine U.dk ?_;refine dM ?_;refine .o (.cl (To _ _ (zm hp.1 (yR hp.2.1 k)).1 (sk (hp.2.1 _ (bB aj))))) ?_;refine cj ?_;refine .o (.c1 (nq ..)) ?_;refine .o (.cl (Km _ _ (wX (zm hp.1 (yR hp.2.1 k)).1 λd hd=>p7 (sk (hp.2.1 _ (bB aj))) hd))) ?_;refine aX ?_;refine .nil ?_;intro I a w U;refine aB λI a w U=>?_;have U:=U.drop 0;refine U.again (k+1) ?ij ?ik dD ?il (by repeat(first|exact Env.le_rfl|refine Env.hP rfl ?_));case ij=>omega
   case ik=>exact aj
   case il=>exact(Env.dq rfl dD (Env.dq rfl (by exact congrArg bw (by rw[yF aj];unfold mH;rw[aJ];rfl)) Env.le_nil))
  refine aB λI a w U=>?_;have U:=U.drop 0;refine U.again (k+1) ?mR ?mS dD ?mT (by repeat(first|exact Env.le_rfl|refine Env.hP rfl ?_));case mR=>omega
  case mS=>exact aj
  case mT=>exact(Env.dq rfl dD (Env.dq rfl (by exact congrArg bw (by rw[yF aj];unfold mH;rw[aJ];rfl)) Env.le_nil))
 refine zt ?_;refine di ?_;exact congrArg bw (by rw[List.take_of_length_le om];unfold gx;rw[if_neg ae,if_neg ah])
def afq (s:Server) (hg:bH s):
 Fn prog 161 [s.av] ((pU s).av):=by
 refine Fn.go 12 func161 ntmps161 (λW I a U=>?_);have al:=jx.2 hg;have cV:=hg.ok;have gj:=hg.small;refine bA λI a w U=>?_;refine U.alloc rfl cq dz λb2 I a w U=>?_;refine bA λI a w U=>?_;refine U.o (.c1 (xh ..)) λU=>?_;refine ax λI a w U=>?_;refine U.cd (λae=>?_) λae=>?_
 .exfalso;rw[al] at ae;cases ae;skip
 refine bA λI a w U=>?_;refine U.o (.c1 (tN s gj)) λU=>U.alloc rfl cq dz λb3 I a w U=>?_;refine ct λI a w U=>?_;refine U.ret rfl (.cons (.sx 0) ba.nil) ?_;rfl
def afr (s:Server) (hg:bH s):
 Fn prog 162 [s.av] (cQ (kT s)):=by
 refine Fn.go 129 func162 ntmps162 (λW I a U=>?_);have U:=U.fV (sz:=15) 84;have U:=U.fV (sz:=3) 115;have al:=jx.2 hg;have cV:=hg.ok;have gj:=hg.small;have lens:s.aF.length<=9223372036854775807/\s.an.length<=9223372036854775807/\s.waits.length<=9223372036854775807/\s.aD.length<=9223372036854775807/\s.bj.length<=9223372036854775807:=⟨U.ln 0 2,U.ln 0 3,U.ln 0 4,U.ln 0 5,U.ln 0 6⟩;have h3:=hg.aF;have zc:=gz hg.an;have kU:=gz hg.waits;have jP:=iR hg.aD;have jN:∀v∈s.waits,v.aR.length<=6:=λv hv=>eL (jv (gy hg.waits v hv)).2.2;have hsd:=Hi hg.site;refine aV λI a w U=>?_;refine U.o (.c1 (xh s)) λU=>?_;refine gY λI a w U=>?_;refine U.cd (λae=>?_) λae=>?_
 .rw[DO] at ae;replace ae:=nt ae;refine ax λI a w U=>?_;refine U.ret rfl (.cons (.nil (sz:=15) rfl) ba.nil) ?_;exact(by rw[al,Bool.true_and] at ae;rw[RB ae];rfl)
 rw[DO] at ae;replace ae:=nf ae;rw[Bool.and_eq_true] at ae;refine ct λI a w U=>?_;refine St.lo (σ:=Nat×Value) (run 3 3 (run 15 27 [])) ⟨λ⟨n,v⟩=>[(27,AV.int n),(3,AV.val v)],λ⟨n,v⟩=>[Own.row v 84 15 ((pg s n).map az.cells),Own.row (.slice none 0 0) 115 3 ([])],λ⟨n,v⟩=>n<=s.aF.length⟩ (λ⟨n,v⟩=>s.aF.length-n) (0,(.slice none 0 0)) U ?aL ?bG;case aL=>exact Nat.zero_le _
 rintro⟨n,v⟩ I a w al U;have hn:n<=s.aF.length:=al;dsimp only at U;refine ax λI a w U=>?_;refine cz (λah=>?_) λah=>?_
 .refine aV λI a w U=>?_;refine U.alloc rfl ew mC λb5 I a w U=>?_;refine aB λI a w U=>?_;obtain⟨I,U⟩:=U.fb 2 5;refine aN λI a w U=>?_;refine cz (λaj=>?_) λaj=>?_
  .refine aV λI a w U=>?_;refine U.o (cr (S9 s (n:Int) gj hg.site h3 om) (ai (.t rfl) (ai (.t rfl) aC))) λU=>?_;refine U.o (.li [(gi s (n:Int)).cells] gw (.u .nil)) λU=>?_;refine U.append 0 rfl fi dj rfl .tt .r rfl (by have:=Ib s n;simp;omega) λTn a w U=>?_;rw[bV,Rf (by simpa using aj)] at U;refine aN λI a w U=>?_;have U:=U.drop 2;exact U.ag (n+1,Tn) (ah)
  refine aB λI a w U=>?_;have U:=U.drop 2;rw[Rv (by simpa using aj)] at U;exact U.ag (n+1,v) (ah)
 refine wp_exit<|cM<|cM<|fI<|bk<|wp_seq ?_;rw[Rw om] at U;refine aH λI a w U=>?_;refine U.o (.c1 (A8 _)) λU=>U.o .G0 λU=>?_;refine U.o (m6 .c .tt (λ_=>by omega)) λU=>?_;refine ax λI a w U=>?_;rw[show 2*(1-bP s.site)=2-2*bP s.site by omega] at U;refine aY λI a w U=>?_;refine St.lo (σ:=Nat×Value) (3::(run 3 8 (run 35 50 []))) ⟨λ⟨k,v⟩=>[(50,AV.int k),(3,AV.val v)],λ⟨k,v⟩=>[Own.row v 84 15 ((iW s k).map az.cells),Own.row (.slice none 0 0) 115 3 ([])],λ⟨k,v⟩=>k<=s.aD.length⟩ (λ⟨k,v⟩=>s.aD.length-k) (0,v) U ?ei ?jK;case ei=>exact Nat.zero_le _
 rintro⟨k,v⟩ I a w al U;have hk:k<=s.aD.length:=al;dsimp only at U;refine ax λI a w U=>?_;refine cz (λaJ=>?_) λaJ=>?_
 .refine aH λI a w U=>?_;refine U.alloc rfl cE fh λb8 I a w U=>?_;refine ax λI a w U=>?_;obtain⟨I,U⟩:=U.fb 2 8;refine aV λI a w U=>?_;refine U.o (.c2 (yS s (ab s.aD k).key h3)) λU=>?_;refine ax λI a w U=>?_;refine U.cd (λaP=>?_) λaP=>?_
  .replace aP:=nt aP;refine zt ?_;refine aB λI a w U=>?_;have U:=U.drop 2;rw[abh aJ aP (acP hg (bB aJ))] at U;exact U.ag (k+1,v) (aJ)
  replace aP:=nf aP;refine zt ?_;obtain⟨vd,su,BM,iK⟩:=QE hg (bB aJ);obtain⟨oR,xK,B5⟩:=ac6 su;refine U.da 9 ?_;simp only[TD];refine fD ?_;refine .o (.cl (qV s.an (ab s.aD k))) ?_;refine cj ?_;refine gv.alloc bU dR<|.nil ?_;intro I a w U;obtain⟨b9,U⟩:=U.uz (d:=9) rfl;refine ax λI a w U=>?_;obtain⟨I,U⟩:=U.fb 3 9;rw[B5] at U;rw[show iW s k=iW s k++(j8 s (ab s.aD k)).take 0 from by simp] at U;refine aB λI a w U=>?_;refine St.lo (σ:=Nat×Int×Value) (3::(10::(run 16 68 []))) ⟨λ⟨j,t,v2⟩=>[(10,AV.int t),(3,AV.val v2)],λ⟨j,t,v2⟩=>[Own.row v2 84 15 ((iW s k++(j8 s (ab s.aD k)).take j).map az.cells),Own.row (.slice none 0 0) 115 3 ([]),Own.gone,Own.gone],λ⟨j,t,v2⟩=>j<=2/\t=2-2*bP s.site+(j:Int)⟩ (λ⟨j,t,v2⟩=>2-j) (0,2-2*bP s.site,v) U ?iN ?pj;case iN=>exact⟨Nat.zero_le _,by simp⟩
  rintro⟨j,t,v2⟩ I a w al U;obtain⟨hj,rfl⟩:=al;dsimp only at U;refine aY λI a w U=>?_;refine cz (λbn=>?_) λbn=>?_
  .refine bO λI a w U=>?_;refine U.o (.li [vd.cells] ju (.u .nil)) λU=>?_;refine U.o (.bd dN (.k (.k (.k (.k aW.nil))))) λU=>?_;refine U.o (.c1 (By {cn with kind:=5,aU:=s.site,to:=2-2*bP s.site+(j:Int),an:=[vd]} (abP (gj.2.1.2 vd iK)))) λU=>?_;refine U.o (.li [({cn with kind:=5,aU:=s.site,to:=2-2*bP s.site+(j:Int),an:=[vd]}:az).cells] gw (.u .nil)) λU=>?_;refine U.append 0 rfl fi dj rfl .tt .r rfl (by have:=zs s k hk;simp;omega) λIQ a w U=>?_;rw[bV,Rj (wM aP).2 su om] at U;refine aY λI a w U=>?_;exact U.ag (j+1,2-2*bP s.site+(j:Int)+1,IQ) (⟨by show j+1<=2;omega,by simp;omega⟩)
  refine zt ?_;refine aB λI a w U=>?_;have U:=U.drop 2;rw[Rx aJ om] at U;exact U.ag (k+1,v2) (aJ)
 refine zt ?_;refine ax λI a w U=>?_;rw[Ri om] at U;refine aY λI a w U=>?_;refine St.lo (σ:=Nat×Value×Value) (3::(11::(13::(15::(run 40 88 []))))) ⟨λ⟨i,v,u⟩=>[(88,AV.int i),(3,AV.val v),(11,AV.val u)],λ⟨i,v,u⟩=>[Own.row v 84 15 ((nC s (mQ s i)).map az.cells),Own.row u 115 3 ((mQ s i).map ao.cells)],λ⟨i,v,u⟩=>i<=s.waits.length⟩ (λ⟨i,v,u⟩=>s.waits.length-i) (0,v,(.slice none 0 0)) U ?xx ?Jr;case xx=>exact Nat.zero_le _
 rintro⟨i,v,u⟩ I a w al U;have hi:i<=s.waits.length:=al;dsimp only at U;refine ax λI a w U=>?_;refine cz (λbl=>?_) λbl=>?_
 .refine aH λI a w U=>?_;refine U.alloc rfl bU dR λEz I a w U=>?_;refine ax λI a w U=>?_;obtain⟨I,U⟩:=U.fb 2 13;refine aY λI a w U=>?_;refine St.lo (σ:=Nat×Value×Value) (3::(11::(15::(run 32 95 [])))) ⟨λ⟨j,v2,u2⟩=>[(95,AV.int j),(3,AV.val v2),(11,AV.val u2)],λ⟨j,v2,u2⟩=>[Own.row v2 84 15 ((nC s (ji s i j)).map az.cells),Own.row u2 115 3 ((ji s i j).map ao.cells),Own.gone],λ⟨j,v2,u2⟩=>j<=(ab s.waits i).aR.length⟩ (λ⟨j,v2,u2⟩=>(ab s.waits i).aR.length-j) (0,v,u) U ?Js ?ac2;case Js=>exact Nat.zero_le _
  rintro⟨j,v2,u2⟩ I a w al U;have hj:j<=(ab s.waits i).aR.length:=al;have hdj:=jN _ (bB bl);dsimp only at U;refine ax λI a w U=>?_;refine cz (λcm=>?_) λcm=>?_
  .refine aH λI a w U=>?_;refine U.alloc rfl cE fh λIG I a w U=>?_;refine ax λI a w U=>?_;obtain⟨I,U⟩:=U.fb 3 15;refine aH λI a w U=>?_;refine U.o (.c2 (QW s (ab (ab s.waits i).aR j))) λU=>?_;refine bz λI a w U=>?_;refine U.q .T (Da 1 (ai .ag (ai .ag aC)) rfl (Bn (ji s i j) (ab (ab s.waits i).aR j)) (λ_ _ _ h=>h)) λU=>?_;refine aB λI a w U=>?_;refine U.cd (λc8=>?_) λc8=>?_
   .rw[Ou] at c8;refine aH λI a w U=>?_;refine U.o (.li [(ab (ab s.waits i).aR j).cells] fE (.u .nil)) λU=>?_;refine U.append 1 rfl du cE rfl .tt .r rfl (by have:=zh jN i hi;have:=Bo s i j;have:=jN _ (bB bl);simp;omega) λafs a w U=>?_;rw[bV,show ji s i j++[(ab (ab s.waits i).aR j)]=ji s i (j+1) from by rw[y6 cm,D1 c8]] at U;refine ax λI a w U=>?_;refine U.dt 12 ?_;simp only[TD];refine fD ?_;refine .o (.c1 (HX _ hg.site)) ?_;refine dM ?_;refine .o (.bd dN (.k (.k (.k (.k (.t aW.nil)))))) ?_;refine .o (.li [(mb s (ab (ab s.waits i).aR j)).cells] gw (.u .nil)) ?_;refine .nil ?_;intro I a w U;refine U.append 0 rfl fi dj rfl .tt .r rfl (by have:=zh jN i hi;have:=Bo s i j;have:=jN _ (bB bl);have:=zs s _ (Nat.le_refl s.aD.length);simp[nC];omega) λaft a w U=>?_;rw[bV,Rh,show ji s i j++[(ab (ab s.waits i).aR j)]=ji s i (j+1) from by rw[y6 cm,D1 c8]] at U;refine aN λI a w U=>?_;have U:=U.drop 3;exact U.ag (j+1,aft,afs) (cm)
   rw[Ou] at c8;refine aB λI a w U=>?_;have U:=U.drop 3;rw[show ji s i j=ji s i (j+1) from by rw[y6 cm,PW c8]] at U;exact U.ag (j+1,v2,u2) (cm)
  refine zt ?_;refine aB λI a w U=>?_;have U:=U.drop 2;rw[HP bl om] at U;exact U.ag (i+1,v2,u2) (bl)
 refine wp_exit<|cM<|cM<|fI<|bk<|wp_seq ?_;rw[HQ s om,I8 ae.2 h3] at U;obtain⟨I,U⟩:=U.fr 0 3;refine di ?_;rfl
def afu (q:Call) (g n:Value) (m:az) (t t0:Int) (h:dS q t0) (hm:bM m=true) (hv:m.kind=4/\(m.yes=true->m.an.length=1/\(ab m.an 0).key=m.key)) (iH:g9 q.keys m.key=true):
 gG prog 231 [q.yG g n,m.av,AV.int t] [Own.row g 128 9 (q.aA.map Answer.cells),Own.row n 115 3 (q.aO.map ao.cells)] [] (jI q m t).av:=by
 refine bT.intro 99 func231 rfl ntmps231 rfl aG (λW I a U=>?_);have nF:=h.lens;have rr:=Ed (q:=q) hm hv.2;have E6:=gz (nx hm).1;have hkx:(dK m).key=m.key:=rfl;refine sr<|U.box rfl .tt λb3 I a w U=>U.o .bp λU=>U.alloc rfl eR j2 λb6 I a w U=>?_;refine bz λI a w U=>?_;refine U.o (.bd pG (.k (.k aW.nil))) λU=>?_;refine U.alloc rfl fF pG λb7 I a w U=>?_;refine U.sb 4 λU=>?_;refine nn ?_;refine St.cut (σ:=Unit) (run 8 14 []) ⟨λ_=>[],λ_=>[Own.row g 128 9 (q.aA.map Answer.cells),Own.row n 115 3 (q.aO.map ao.cells),Own.box b3 53 [AV.int q.aq,AV.int q.num,AV.int q.kind,iz q.keys,AV.int q.val,bw q.ctx,AV.int q.bE,AV.int q.end_,AV.bool q.over,AV.int q.ar.time,AV.int q.ar.site,AV.val g,AV.val n],Own.box b6 53 [AV.val (.int .i64 0),AV.val (.int .i64 0),AV.val (.int .i64 0),AV.rows 1 [],AV.val (.int .i64 0),AV.rows 3 [],AV.val (.int .i64 0),AV.val (.int .i64 0),AV.val (.bool false),AV.val (.int .i64 0),AV.val (.int .i64 0),AV.rows 9 [],AV.rows 3 []],Own.box b7 128 (dK m).cells],λ_=>True⟩ U ?xp ?Jc;case xp=>
  refine aB λI a w U=>?_;refine cz (λae=>?_) λae=>?_
  .refine aH λI a w U=>?_;refine U.o (dW (i:=0) ea bU .tt .c (λ_=>by have:=(hv.2 ae).1;omega)) λU=>?_;refine U.o .la λU=>?_;refine U.o (cr (wP (ab m.an 0) (by have:=eL (jv (gy (nx hm).1 _ (bB (l:=m.an) (k:=0) (by have:=(hv.2 ae).1;omega)))).2.2;omega)) (ai (.t rfl) aC)) λU=>?_;refine U.o .fv λU=>U.pB 4 bU .tt .tt rfl rfl rfl λa w U=>?_;refine zt ?_;have U:=U.pass (H':=[Own.row g 128 9 (q.aA.map Answer.cells),Own.row n 115 3 (q.aO.map ao.cells),Own.box b3 53 [AV.int q.aq,AV.int q.num,AV.int q.kind,iz q.keys,AV.int q.val,bw q.ctx,AV.int q.bE,AV.int q.end_,AV.bool q.over,AV.int q.ar.time,AV.int q.ar.site,AV.val g,AV.val n],Own.box b6 53 [AV.val (.int .i64 0),AV.val (.int .i64 0),AV.val (.int .i64 0),AV.rows 1 [],AV.val (.int .i64 0),AV.rows 3 [],AV.val (.int .i64 0),AV.val (.int .i64 0),AV.val (.bool false),AV.val (.int .i64 0),AV.val (.int .i64 0),AV.rows 9 [],AV.rows 3 []],Own.box b7 128 (dK m).cells]) (by unfold dK;rw[ae];rfl);exact U.me () fU
  refine zt ?_;have U:=U.pass (H':=[Own.row g 128 9 (q.aA.map Answer.cells),Own.row n 115 3 (q.aO.map ao.cells),Own.box b3 53 [AV.int q.aq,AV.int q.num,AV.int q.kind,iz q.keys,AV.int q.val,bw q.ctx,AV.int q.bE,AV.int q.end_,AV.bool q.over,AV.int q.ar.time,AV.int q.ar.site,AV.val g,AV.val n],Own.box b6 53 [AV.val (.int .i64 0),AV.val (.int .i64 0),AV.val (.int .i64 0),AV.rows 1 [],AV.val (.int .i64 0),AV.rows 3 [],AV.val (.int .i64 0),AV.val (.int .i64 0),AV.val (.bool false),AV.val (.int .i64 0),AV.val (.int .i64 0),AV.rows 9 [],AV.rows 3 []],Own.box b7 128 (dK m).cells]) (by unfold dK;rw[ae];rfl);exact U.me () fU
 rintro _ I a w al U;refine aV λI a w U=>?_;refine U.o (Nh (cs:=[AV.int q.aq,AV.int q.num,AV.int q.kind,iz q.keys,AV.int q.val,bw q.ctx,AV.int q.bE,AV.int q.end_,AV.bool q.over,AV.int q.ar.time,AV.int q.ar.site,.val g,.val n]) 0 11 (ai .tt (ai .tt aC)) rfl rfl (abS q n m.key) (λ_ _ _ h=>h)) λU=>?_;refine dI λI a w U=>?_;refine U.q .T (.cl (wA ..)) λU=>?_;refine aB λI a w U=>?_;refine U.cd (λah=>?_) λah=>?_
 .have hn9:cB q m.key<0:=by simp only[Bool.and_eq_true,decide_eq_true_eq] at ah;exact ah.1
  have aZ:∀y∈q.aA,y.key≠(dK m).key:=λy hy e=>by have:=Ei.2 ⟨y,hy,e⟩;have e2:(dK m).key=m.key:=rfl;rw[e2] at this;omega
  have G4:∀y∈c7 q.aA (dK m),dF y=true:=λy hy=>(r7.1 hy).elim (λe=>e▸rr) (h.bD y);refine ax λI a w U=>?_;refine St.lo (σ:=Nat) (8::(run 18 35 [])) ⟨λk=>[(8,AV.int k)],λk=>[Own.row g 128 9 (q.aA.map Answer.cells),Own.row n 115 3 (q.aO.map ao.cells),Own.box b3 53 [AV.int q.aq,AV.int q.num,AV.int q.kind,iz q.keys,AV.int q.val,bw q.ctx,AV.int q.bE,AV.int q.end_,AV.bool q.over,AV.int q.ar.time,AV.int q.ar.site,AV.val g,AV.val n],Own.box b6 53 [AV.val (.int .i64 0),AV.val (.int .i64 0),AV.val (.int .i64 0),AV.rows 1 [],AV.val (.int .i64 0),AV.rows 3 [],AV.val (.int .i64 0),AV.val (.int .i64 0),AV.val (.bool false),AV.val (.int .i64 0),AV.val (.int .i64 0),AV.rows 9 [],AV.rows 3 []],Own.box b7 128 (dK m).cells],λk=>k<=q.aA.length/\∀i,i<k->(ab q.aA i).key<m.key⟩ (λk=>q.aA.length-k) 0 U ?aL ?bG;case aL=>exact⟨Nat.zero_le _,λi hi=>by omega⟩
  rintro k I a w al U;obtain⟨hk,aT⟩:=al;refine wp_seq<|wp_seq<|U.dk ?_;refine dJ ?_;refine .o (lC 0 ie .tt rfl) ?_;refine fD ?_;refine .q .T (yy 0 ie fF .ag .ag rfl (λhg=>by simp at hg;simp;omega)) ?_;refine aX ?_;refine .q .T (N2 0 cx .ag rfl (λhg=>by simp at hg;rw[List.getElem?_map,MF om];rfl) rfl rfl rfl) ?_;refine dM ?_;refine .nil ?_;intro I a w U;refine bk ?_;refine cz (λaj=>?_) λaj=>?_
  .rw[List.length_map,Int.toNat_natCast] at aj;refine aN λI a w U=>?_;exact U.ag (k+1) (⟨by omega,λi h1=>by rcases Nat.lt_succ_iff_lt_or_eq.1 h1 with h|h;exact aT i h;rw[h];exact aj.2⟩)
  rw[List.length_map,Int.toNat_natCast] at aj;refine zt ?_;refine bz λI a w U=>?_;refine U.o (.li [(dK m).cells] uF (.u .nil)) λU=>?_;refine U.eJ [0] (aeX g (q.aA.map Answer.cells) (dK m).cells k (by rw[List.length_map];exact hk) iv (λr hr=>by obtain⟨u,_,rfl⟩:=List.mem_map.1 hr;rfl) rfl) (ai .r (ai .tt (ai .r aC))) rfl aM rfl λI a w U=>?_;rw[<-List.map_take,<-List.map_drop,<-List.map_cons,<-List.map_append,R4 (a:=dK m) hk aT (λhl=>by rcases aj with h4|h4;omega;exact Int.not_lt.2 h4) aZ] at U;refine aV λI a w U=>?_;refine U.o (.c1 (ab3 {q with aA:=c7 q.aA (dK m)} n)) λU=>?_;refine ax λI a w U=>?_;refine cz (λaJ=>?_) λaJ=>?_
  .refine wp_seq ?_;have U:=U.nf;obtain⟨I,U⟩:=U.fu 1 12 2;refine aB λI a w U=>?_;refine U.bJ () [] rfl (.cons (.sx 3) .nil) trivial rfl ?_;exact(by rw[adf h hv iH ah aJ];rfl)
  refine wp_skip<|bk ?_;have U:=U.nf;refine bA λI a w U=>?_;refine U.o (cr (aeV {q with aA:=c7 q.aA (dK m)} n G4 (by show(c7 q.aA _).length<=_;rw[wI];omega)) (ai (.t rfl) aC)) λU=>?_;refine aB λI a w U=>?_;have U:=U.nf;refine aY λI a w U=>?_;refine cz (λaP=>?_) λaP=>?_
  .refine ct λI a w U=>?_;refine U.bJ () [] rfl (.cons (.sx 3) .nil) trivial rfl ?_;exact(by rw[RV h hv iH ah aJ,if_pos (List.length_eq_zero_iff.1 om)];rfl)
  refine aB λI a w U=>?_;refine U.bJ () [] rfl (.cons (.sx 3) .nil) trivial rfl ?_;exact(by rw[RV h hv iH ah aJ,if_neg (λe=>by rw[e] at aP;simp at aP)];rfl)
 refine wp_seq<|U.dk ?_;refine lh ?_;refine .q .T (CC 4 bU .ag rfl rfl rfl) ?_;refine .q .T (.cl (nq ..)) ?_;refine .q .T (Da 1 (ai .ag (ai .ag aC)) rfl (Bn q.aO (dK m).bm.bh) (λ_ _ _ h=>h)) ?_;refine cj ?_;refine .nil ?_;intro I a w U;refine bk ?_;refine U.cd (λbn=>?_) λbn=>?_
 .have BX:0<=cB q m.key:=by simp only[Bool.and_eq_true,decide_eq_true_eq] at bn;exact bn.1.1
  obtain⟨jl,m0⟩:=w6 BX;obtain⟨bg,Sx,eg⟩:=U.ia 0 rfl pt;subst eg;refine bz λI a w U=>?_;refine U.o (yy 0 ie fF .tt .tt rfl (λ_=>by simp;omega)) λU=>?_;refine U.jZ 0 fF .tt .tt rfl (by exact ey om) rfl rfl λa w U=>?_;refine wpList_nil ?_;have e9:∀y,y=(dK m).cells->(List.map Answer.cells q.aA).set (cB q m.key).toNat y=List.map Answer.cells (q.aA.set (cB q m.key).toNat (dK m)):=λy hy=>by rw[hy,List.map_set]
  rw[e9] at U;rotate_left
  .rfl
  obtain⟨I,U⟩:=U.fu 0 11 2;refine aH λI a w U=>?_;refine U.o (oJ (ai .tt aC)) λU=>?_;refine U.bq [1,3] (IB n q.aO (λd=>decide (d.key=m.key)) _ (Own.box b6 53 [AV.val (.int .i64 0),AV.val (.int .i64 0),AV.val (.int .i64 0),AV.rows 1 [],AV.val (.int .i64 0),AV.rows 3 [],AV.val (.int .i64 0),AV.val (.int .i64 0),AV.val (.bool false),AV.val (.int .i64 0),AV.val (.int .i64 0),AV.rows 9 [],AV.rows 3 []]) om (λd hd=>lD.frame (Fn.val (gX:=[AV.ptr m.cells]) (Ye m d)))) (ai .r (ai .tt aC)) rfl aM rfl λv90 I a w anR U=>?_;refine U.o .fv λU=>?_;try have anS:=U.dZ 1 rfl
  refine ax λI a w U=>?_;have U:=U.nf;obtain⟨I,U⟩:=U.fu 1 12 2;have U:=U.nf;refine aY λI a w U=>?_;refine cz (λbl=>?_) λbl=>?_
  .refine ct λI a w U=>?_;refine U.bJ () [] rfl (.cons (.sx 3) .nil) trivial rfl ?_;exact(by rw[Sp h rr hv bn,if_pos (List.length_eq_zero_iff.1 (by simpa using bl))];rfl)
  refine aB λI a w U=>?_;refine U.bJ () [] rfl (.cons (.sx 3) .nil) trivial rfl ?_;exact(by rw[Sp h rr hv bn,if_neg (λe=>by rw[e] at bl;simp at bl)];rfl)
 refine wp_seq ?_;have U:=U.nf;obtain⟨I,U⟩:=U.fu 0 11 2;obtain⟨I,U⟩:=U.fu 1 12 2;refine aB λI a w U=>?_;refine U.bJ () [] rfl (.cons (.sx 3) .nil) trivial rfl ?_;exact(by rw[acu hv ah bn];rfl)
def afv {w:aI} {e:Ev} (h:((e.kind==1)||(e.kind==2)||(e.kind==3))=false) (h2:((e.kind==4)||(e.kind==5))=false) (h3:(!aS e.kind 6 9||!cO e.at_)=false):cT w e=((fl {w with time:=w.time+1} e).1,(fl {w with time:=w.time+1} e).2):=by
 unfold cT;rw[if_neg (by simp at h;omega),if_neg (by simpa using h2),if_pos (by simp at h3⊢;exact h3)]
def afw {au more:List az} {k:Nat} (hk:k<more.length) (h:(eB au (more.take k)).length<60):eB au (more.take k)++[ab more k]=eB au (more.take (k+1)):=by
 unfold eB at h⊢;rw[List.length_append,List.length_take,List.length_take] at h;rw[List.take_of_length_le (l:=more.take k) (by rw[List.length_take];omega),List.take_of_length_le (l:=more.take (k+1)) (by rw[List.length_take];omega),ez hk,List.append_assoc]
def afx {au more:List az} {k:Nat} (hr:au.length<=60) (hk:k<more.length) (h:¬(eB au (more.take k)).length<60):eB au (more.take k)=eB au (more.take (k+1)):=by
 unfold eB at h⊢;rw[List.length_append,List.length_take,List.length_take] at h;rw[List.take_take,List.take_take,Nat.min_eq_left om,Nat.min_eq_left om]
def Fa (b:Nat) (t:Int) (s r q z:Value) (au more:List az) (hr:au.length<=60) (hl:more.length<=1048576) (hd:∀m∈more,jU m):
 bT prog 156 [AV.val (.pointer (some ⟨b,0,none⟩)),cQ more] [Own.box b 28 [AV.int t,AV.val s,AV.val r,AV.val q,AV.val z],Own.row r 84 15 ((au).map az.cells)] (λ_:Value=>True) (λu=>[Own.box b 28 [AV.int t,AV.val s,AV.val u,AV.val q,AV.val z],Own.row u 84 15 ((eB au more).map az.cells)]) (λ_=>AV.db []):=by
 refine bT.intro 30 func156 rfl ntmps156 rfl aG (λW I a U=>?_);rw[show au=eB au (more.take 0) from(aai au).symm] at U;refine aN λI a w U=>?_;refine St.lo (σ:=Nat×Value) (5::(run 22 8 [])) ⟨λ⟨k,u⟩=>[(8,AV.int k)],λ⟨k,u⟩=>[Own.box b 28 [AV.int t,AV.val s,AV.val u,AV.val q,AV.val z],Own.row u 84 15 ((eB au (more.take k)).map az.cells)],λ⟨k,u⟩=>k<=more.length⟩ (λ⟨k,u⟩=>more.length-k) (0,r) U ?aL ?bG;case aL=>exact Nat.zero_le _
 rintro⟨k,u⟩ I a w al U;have hk:k<=more.length:=al;dsimp only at U;refine ax λI a w U=>?_;refine cz (λae=>?_) λae=>?_
 .refine aH λI a w U=>?_;refine U.alloc rfl dj dN λb5 I a w U=>?_;refine ax λI a w U=>?_;obtain⟨I,U⟩:=U.fb 2 5;refine bz λI a w U=>?_;refine U.o (lC 1 fi .tt rfl) λU=>?_;refine ax λI a w U=>?_;refine cz (λah=>?_) λah=>?_
  .rw[List.length_map] at ah;refine U.dh (rp 4 (([0],none)::rp 3 (([1],some (1,[26]))::rp 2 [([0],some (0,[26]))]))) aG aG rfl ?_;refine dM ?_;refine .r [0] (.lb 0) ?_;refine aX ?_;refine .o (.c1 (By (ab more k) (hd _ (bB ae)))) ?_;refine .o (.li [(ab more k).cells] gw (.u .nil)) ?_;refine aK.C5 1 rfl rfl fi dj rfl .tt .r (by rw[List.length_map];have:=acC au (more.take k) hr;simp;omega) ?_;refine cj ?_;refine aK.AD 0 rfl AT .tt rfl rfl<|.nil ?_;intro I a w U;change St _ _ [Own.box b 28 [AV.int t,AV.val s,AV.val (a.tmps.getD 26 undef),AV.val q,AV.val z],Own.row (a.tmps.getD 26 undef) 84 15 (((eB au (more.take k)).map az.cells)++[(ab more k).cells]),Own.gone] _ _ _ at U;generalize a.tmps.getD 26 undef=w7 at U;rw[bV,afw ae om] at U;refine aB λI a w U=>?_;have U:=U.drop 2;exact U.ag (k+1,w7) (ae)
  rw[List.length_map] at ah;refine aB λI a w U=>?_;have U:=U.drop 2;rw[afx hr ae om] at U;exact U.ag (k+1,u) (ae)
 refine zt ?_;rw[show more.take k=more from List.take_of_length_le om] at U;exact U.mz u [0,1] rfl .nil trivial rfl rfl
def afy {x:aI} {e:Ev} (h:((ab x.aw e.at_.toNat).up==(e.kind==7))=true):(fl x e).2=false:=by
 unfold fl;dsimp only;by_cases h7:e.kind=7
 .rw[if_pos h7];rw[h7] at h;simpa using h
 have hu:(ab x.aw e.at_.toNat).up=false:=by rw[show(e.kind==7)=false by simpa using h7] at h;simpa using h
 rw[if_neg h7];split
 .exact hu
 split
 .exact hu
 rw[show l5 (ab x.aw e.at_.toNat) e.slot=false by unfold l5;rw[hu];rfl];rfl
end Go.Proofs.YtdanidpleofjgaaGreat

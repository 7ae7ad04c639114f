/- Part 15: contracts of functions, plain facts. -/
import Derived.Test.YtldbakcpcfdlaaaGreatP11
import Derived.Test.YtldbakcpcfdlaaaGreatP12
import Derived.Test.YtldbakcpcfdlaaaGreatP13
import Derived.Test.YtldbakcpcfdlaaaGreatP14
set_option linter.all false
set_option maxRecDepth 100000
set_option maxHeartbeats 4000000
namespace Go.Proofs.YtldbakcpcfdlaaaGreat
open Go Go.RowKit Tryz
attribute [local irreducible] wpList Code.wp Ok
def gR (s:Server) (m:az):List az:=
 if aJ m.aT 10 11&&decide (1<=m.call)&&fE s m.key then
  if dw m.ar then[lS s m (dY s.an m.key)]
  else match eK s.an ⟨m.key,m.ar⟩ with
   |some v=>[lS s m (some v)]
   |none=>[]
 else[]
def lz (s:Server) (m:az):List az:=if(eK s.an ⟨m.key,m.ar⟩).isSome&&(m.aT==fA s.site) then[mZ s m] else[]
def ib (s:Server) (m:az):Server:=
 if(m.aT==fA s.site)&&iq s ⟨m.key,m.ar⟩&&decide (s.ba.length<80) then ef {s with ba:=eA s.ba ⟨m.key,m.ar⟩} else s
def jB (s:Server) (m:az):Server:=
 let x:=eh s m.slot
 {x with aD:=x.aD.set m.slot.toNat ⟨m.bw,1⟩,an:=jx x.an m.an,waits:=jx x.waits m.waits,aE:=m.aE.foldl eA x.aE}
def gq (s:Server) (m:az):Server×List az:=
 if(m.aT==fA s.site)&&decide (1<=m.bw) then
  if m.bw<=(ab s.aD m.slot.toNat).bw then(s,[nG s m])
  else if pQ s m&&iB (jB s m) then(ef (jB s m),[nG s m]) else(s,[])
 else(s,[])
def jN (s:Server) (d:aw):List az:=
 if cP s d.key==1 then[{cn with kind:=5,aT:=s.site,to:=2-2*bM s.site,an:=(eK s.an d).toList},{cn with kind:=5,aT:=s.site,to:=2-2*bM s.site+1,an:=(eK s.an d).toList}] else[]
def mb (q:Call) (a:Answer) (time:Int):Call:=
 let x:={q with au:=dj q.au a}
 if x.au.length<x.keys.length then x else kV {x with aL:=x.aL++ky x} time
def iw (q:Call) (m:az) (time:Int):Call:=
 if m.kind=4/\(m.yes=true->m.an.length=1/\(ab m.an 0).key=m.key) then
  if cv q m.key<0 then(if dw m.ar then mb q (cX m) time else q)
  else if m.yes then lu q (cX m) time else q
 else q
def cQ (q:Call) (m:az) (time:Int):Call:=
 if bK m&&(m.to==10+q.aj)&&(m.call==q.num)&&iE q.keys m.key&&bV q&&decide (q.bH<time) then
  if q.kind=1 then(if m.kind=2/\dB m.ar=true then{q with ar:=m.ar,end_:=time} else q)
  else iw q m time
 else q
def ey (w:ai) (e:Ev):Call:={oM with aj:=e.aj,num:=sB w.calls e.aj+1,kind:=e.call,keys:=eZ e,val:=if e.call=1 then e.val else 0,ctx:=ab w.seen e.aj.toNat,bH:=w.time}
def jC (w:ai) (m:az):ai:=
 let i:=cq w.calls (m.to-10)
 if i<0 then w else
  let q:=cQ (ab w.calls i.toNat) m w.time
  let w1:={w with calls:=w.calls.set i.toNat q}
  if 0<q.end_ then{w1 with seen:=w.seen.set (m.to-10).toNat (gJ q)} else w1
def LF (l:List aw) (d:aw) (hl:bT l=true) (hd:l9 d=true):
 Fn prog 243 [bE l,d.av] (bE (gI l d)):=by
 refine Fn.go 85 func243 ntmps243 (λW I a U=>?_);have Dp:=iV hl;have GA:=adx d;refine sr<|U.box rfl .tt λb3 I a w U=>?_;refine aG λI a w U=>?_;refine U.o (.cl (tT ..)) λU=>?_;refine bk λI a w U=>?_;refine U.q .F (.li [_] jk (.u .nil)) λU=>?_;refine U.q .F (.cl (tT [d])) λU=>?_;refine aF λI a w U=>?_;refine U.cd (λae=>?_) λae=>?_
 .exfalso;rw[hl,GA,hd] at ae;cases ae;skip
 refine zt ?_;refine U.l0 λUf I a w U=>?_;refine aR λI a w U=>?_;refine St.lo (σ:=Nat×Bool×List aw×Value×aw) (run 3 5 (run 59 19 [])) ⟨λ⟨k,done,out,v,e⟩=>[(7,AV.int k),(6,AV.bool done),(5,AV.val v)],λ⟨k,done,out,v,e⟩=>[Own.box b3 125 e.cells,Own.row v 125 3 (out.map aw.cells)],λ⟨k,done,out,v,e⟩=>lL l d k done out/\e.key=d.key/\(done=false->e=d)⟩ (λ⟨k,done,out,v,e⟩=>l.length-k) (0,false,[],.slice (some ⟨Uf,0,none⟩) 0 0,d) U ?aI ?bF;case aI=>exact⟨lL.zero l d,rfl,λ_=>rfl⟩
 rintro⟨k,done,out,v,e⟩ I a w ao U;obtain⟨hp,lO,Dy⟩:=ao;have hk:=hp.hk;have lF:=hp.len;have tD:done.toNat<=1:=by cases done<;>simp
 dsimp only at U;refine aX λI a w U=>?_;refine cz (λah=>?_) λah=>?_
 .refine aB λI a w U=>?_;refine cz (λaq=>?_) λaq=>?_
  .refine wp_seq<|wp_seq<|U.dk ?_;refine pK ?_;refine .q .T (Iv 0 mQ .ag rfl rfl rfl) ?_;refine fZ ?_;refine .q .T (.cl (Ar ..)) ?_;refine bG ?_;refine .nil ?_;intro I a w U;refine bm ?_;refine cz (λaK=>?_) λaK=>?_
   .refine g9 λI a w U=>?_;refine U.o (.li [(ab l k).cells] jk (.u .nil)) λU=>?_;refine U.ap 1 λLG a w U=>?_;rw[cJ] at U;refine aR λI a w U=>?_;refine Cy (λaS=>?_) λaS=>?_
    .exfalso;simp at aS;skip
    refine aR λI a w U=>?_;exact U.ag (k+1,true,out++[ab l k],LG,ab l k) (by obtain⟨h1,h2⟩:=aq;obtain rfl:=Dy h1;subst h1;have h:=(hp.same hl ah aK.1).2;rw[<-RZ _ _ aK.1,if_pos aK.2] at h;exact⟨h,aK.1,λh=>by cases h⟩)
   refine aG λI a w U=>?_;refine U.o (.li [e.cells] jk (.u .nil)) λU=>?_;refine U.ap 1 λLG a w U=>?_;rw[cJ] at U;refine aR λI a w U=>?_;refine cz (λbA=>?_) λbA=>?_
   .refine bY λI a w U=>?_;refine U.o (.li [(ab l k).cells] jk (.u .nil)) λU=>?_;refine U.ap 1 λLH a w U=>?_;rw[cJ] at U;refine aX λI a w U=>?_;exact U.ag (k+1,true,(out++[e])++[ab l k],LH,e) (by obtain⟨h1,h2⟩:=aq;obtain rfl:=Dy h1;subst h1;exact⟨hp.before hl ah om,rfl,λh=>by cases h⟩)
   refine aR λI a w U=>?_;exact U.ag (k+1,true,out++[e],LG,e) (by obtain⟨h1,h2⟩:=aq;obtain rfl:=Dy h1;subst h1;have h:=(hp.same hl ah bA).2;rw[<-RZ _ _ bA,if_neg (by rcases aK with h4|h4;exact absurd bA h4;rw[h4];simp)] at h;exact⟨h,rfl,λh=>by cases h⟩)
  refine aB λI a w U=>?_;refine tN (λbt=>?_) λbt=>?_
  .refine bY λI a w U=>?_;refine U.o (.li [(ab l k).cells] jk (.u .nil)) λU=>?_;refine U.ap 1 λLH a w U=>?_;rw[cJ] at U;refine aX λI a w U=>?_;exact U.ag (k+1,done,out++[ab l k],LH,e) (⟨hp.step ah om λhd=>by(rcases aq with h|h;(rw[hd] at h;cases h);omega),lO,Dy⟩)
  exfalso;simp only[bne_eq_false_iff_eq] at bt;rcases aq with h|h;(have:=hp.late h k (Nat.le_refl _) ah;omega);omega
  skip
 refine zt ?_;refine aF λI a w U=>?_;refine cz (λcr=>?_) λcr=>?_
 .refine aG λI a w U=>?_;refine U.o (.li [e.cells] jk (.u .nil)) λU=>?_;refine U.ap 1 λUg a w U=>?_;rw[cJ] at U;refine aR λI a w U=>?_;obtain⟨I,U⟩:=U.fr 1 4;refine U.rt ?_;exact congrArg (AV.rows 3) (by obtain rfl:=Dy cr;subst cr;exact hp.vq om▸rfl)
 refine aF λI a w U=>?_;obtain⟨I,U⟩:=U.fr 1 4;refine U.rt ?_;exact congrArg (AV.rows 3) (by subst cr;rw[hp.vp om])
def aeL (s:Server) (h:um s):
 dp prog 165 [s.av] [] (λ_:Value=>True) (λv=>[Own.row v 97 2 (s.aD.map de.cells)]) s.AH:=by
 refine dp.intro 27 func165 rfl ntmps165 rfl aO (λW I a U=>?_);obtain⟨h1,⟨h2,h3⟩,⟨h4,h5⟩,h6,h7⟩:=h;refine sr<|U.box rfl .tt λb1 I a w U=>U.alloc rfl cA dS λb2 I a w U=>?_;refine zt ?_;refine U.l0 λb3 I a w U=>?_;refine aG λI a w U=>?_;refine U.ap 2 λv6 a w U=>?_;refine U.o .fv λU=>?_;try have ho6:=U.fI 2 rfl
 refine bk λI a w U=>?_;refine U.o (.cl (yr s.an h2 h3)) λU=>?_;refine bx λI a w U=>?_;refine U.o (.cl (yr s.waits h4 h5)) λU=>?_;refine aF λI a w U=>?_;refine U.l0 λAR I a w U=>?_;refine aG λI a w U=>?_;refine U.ap 3 λss a w U=>?_;obtain⟨I,U⟩:=U.fr 3 19;refine U.o .fv λU=>?_;try have aeM:=U.fI 3 rfl
 refine aB λI a w U=>?_;refine U.l0 λDj I a w U=>?_;refine aG λI a w U=>?_;refine U.ap 4 λoh a w U=>?_;obtain⟨I,U⟩:=U.fr 4 24;refine U.o .fv λU=>?_;try have aeN:=U.fI 4 rfl
 refine aR λI a w U=>?_;exact U.dx v6 [2] rfl (.cons (.s 1 cA rfl rfl (by first|rfl|assumption)) .nil) trivial rfl rfl
def Dz (m:az) (h:ly m):
 Fn prog 221 [m.av] (m.av):=by
 refine Fn.go 20 func221 ntmps221 (λW I a U=>?_);obtain⟨h1,⟨h2,h3⟩,⟨h4,h5⟩,h6⟩:=h;refine sr<|U.box rfl .tt λb1 I a w U=>U.alloc rfl dV eU λb2 I a w U=>?_;refine zt ?_;refine U.dt 13 ?_;simp only[TD];refine cG ?_;refine .o (.cl (vu m.aQ h1)) ?_;refine cG ?_;refine .o (bO (kQ.fn (xd m.an h2 h3)) (ax .r aH)) ?_;refine cG ?_;refine .o (bO (kQ.fn (xd m.waits h4 h5)) (ax .r aH)) ?_;refine cG ?_;refine .o (.cl (vu m.aE h6)) ?_;refine bG ?_;refine .nil ?_;intro I a w U;refine oE λI a w U=>?_;refine U.ret rfl (.cons (.sx 1) aV.nil) ?_;rfl
def aeO (l:List az) (h:l.length<=1048576) (hd:∀m∈l,ly m):
 kQ prog 135 [dM l] 108 15 (l.map az.cells):=by
 refine kQ.intro 19 func135 rfl ntmps135 rfl aO (λW I a U=>?_);have U:=U.ik (sz:=15) 108;refine cF λI a w U=>?_;refine St.lo (σ:=Nat×Value) (3::(5::(run 10 8 []))) ⟨λ⟨k,v⟩=>[(8,AV.int k),(3,AV.val v)],λ⟨k,v⟩=>[Own.row v 108 15 ((l.take k).map az.cells)],λ⟨k,v⟩=>k<=l.length⟩ (λ⟨k,v⟩=>l.length-k) (0,.slice none 0 0) U ?aI ?bF;case aI=>exact Nat.zero_le _
 rintro⟨k,v⟩ I a w ao U;have hk:k<=l.length:=ao;dsimp only at U;refine aB λI a w U=>?_;refine cz (λae=>?_) λae=>?_
 .refine aG λI a w U=>?_;refine U.alloc rfl dV eU λb5 I a w U=>?_;refine aB λI a w U=>?_;obtain⟨I,U⟩:=U.fb 1 5;refine aG λI a w U=>?_;refine U.o (.c1 (Dz (ab l k) (hd _ (bh ae)))) λU=>?_;refine U.o (.li [(ab l k).cells] iN (.u .nil)) λU=>?_;refine U.ap 0 λKQ a w U=>?_;rw[cJ,<-fe ae] at U;refine aR λI a w U=>?_;have U:=U.drop 1;exact U.ag (k+1,KQ) (ae)
 refine zt ?_;refine aF λI a w U=>?_;exact U.yb (r:=2) 0 rfl rfl rfl (by rw[List.take_of_length_le om])
def aeP (s:Server) (key aj call:Int):
 Fn prog 333 [s.av,AV.int key,AV.int aj,AV.int call] (AV.dG [((kU s key aj call).getD default).av,AV.bool (kU s key aj call).isSome]):=by
 refine Fn.go 52 func333 ntmps333 (λW I a U=>?_);have lens:s.aD.length<=9223372036854775807/\s.an.length<=9223372036854775807/\s.waits.length<=9223372036854775807/\s.aE.length<=9223372036854775807/\s.ba.length<=9223372036854775807:=⟨U.ln 0 2,U.ln 0 3,U.ln 0 4,U.ln 0 5,U.ln 0 6⟩;refine bD λI a w U=>?_;refine U.alloc rfl bL ee λb8 I a w U=>?_;refine aF λI a w U=>?_;refine St.lo (σ:=Nat) (run 42 9 []) ⟨λk=>[(10,AV.int k)],λk=>[Own.box b8 54 [AV.val (.int .i64 0),AV.val (.int .i64 0),AV.val (.int .i64 0),AV.val (.int .i64 0),AV.val (.int .i64 0),AV.val (.int .i64 0),AV.rows 3 []]],λk=>k<=s.an.length/\∀i,i<k->(pS s key aj call) (ab s.an i)=false⟩ (λk=>s.an.length-k) 0 U ?aI ?bF;case aI=>exact⟨Nat.zero_le _,λi hi=>by omega⟩
 rintro k I a w ao U;obtain⟨hk,aM⟩:=ao;refine cF λI a w U=>?_;refine cz (λae=>?_) λae=>?_
 .refine bY λI a w U=>?_;refine U.alloc rfl bL ee λmG I a w U=>?_;refine aB λI a w U=>?_;obtain⟨I,U⟩:=U.fb 1 11;refine U.dk ?_;refine pL ?_;refine eb ?_;refine .q .T (.cl (sI ..)) ?_;refine cG ?_;refine .q .T (.cl (sI ..)) ?_;refine cG ?_;refine .nil ?_;intro I a w U;refine bm ?_;refine U.cd (λah=>?_) λah=>?_
  .change(pS s key aj call) (ab s.an k)=true at ah;refine aR λI a w U=>?_;refine U.ret rfl (.cons (.sx 0) (.cons (.t rfl) aV.nil)) ?_;exact(by rw[show kU s key aj call=some (ab s.an k) from Sv ae aM ah];rfl)
  change(pS s key aj call) (ab s.an k)=false at ah;refine aR λI a w U=>?_;have U:=U.drop 1;exact U.ag (k+1) (⟨ae,λi h1=>by rcases Nat.lt_succ_iff_lt_or_eq.1 h1 with h|h;exact aM i h;rw[h];exact ah⟩)
 refine zt ?_;refine U.o (.bd ee aZ.nil) λU=>?_;refine aF λI a w U=>?_;refine U.ret rfl (.cons (.sx 0) (.cons (.t rfl) aV.nil)) ?_;exact(by rw[show kU s key aj call=none from Sw om aM];rfl)
def bJ.Uh {s:Server} (h:bJ s) {slot:Int} {y:de} (h0:0<=slot) (hy:sh y=true) (hv:∀v∈s.an,cV v.key=slot->y.cm≠0) (hw:∀v∈s.waits,cV v.key=slot->y.cm≠0) (h3:slot<3):bJ {s with aD:=s.aD.set slot.toNat y}:=by
 have key:∀v:aA,dN v=true->cP s v.key≠0->(cV v.key=slot->y.cm≠0)->cP {s with aD:=s.aD.set slot.toNat y} v.key≠0:=λv A3 h1 h2=>by
  by_cases U:cV v.key=slot
  .rw[acG U h0 (by rw[h.aD];omega)];exact h2 U
  rw[ad4 U h0 (si A3)];exact h1
 refine⟨h.site,by show(s.aD.set _ _).length=3;rw[List.length_set];exact h.aD,h.an,h.waits,h.aE,h.ba,h.up,λx hx=>?_,λv jD=>key v (fw h.an v jD) (h.here v jD) (hv v jD),λv jD=>key v (fw h.waits v jD) (h.oK v jD) (hw v jD),h.oL,h.apart,h.lN⟩;rcases List.mem_or_eq_of_mem_set hx with hx|rfl
 .exact h.aN x hx
 exact hy
def LI {s:Server} {m:az} (h:bJ s) (hm:bK m=true):∀x∈fB s m,dB x=true:=by
 intro x hx;unfold fB at hx;rcases List.mem_append.1 hx with hx|hx
 .obtain⟨d,hd,rfl⟩:=List.mem_map.1 hx;have:=Dg (ma hm).2.2.2.2.2.2.2.1 d hd;simp only[kO,Bool.and_eq_true] at this;exact this.2
 split at hx
 .rename_i v hv;obtain rfl:x=v.ar:=by simpa using hx
  exact(iW (fw h.an v (uj hv).1)).2.1
 simp at hx
def Ui {s:Server} {m:az} (h:bJ s) (hm:bK m=true):bJ (lr s m):=by
 have U:=(ma hm).2.2.2.2.2.2.2.2;refine(h.eh m.slot).Uh U.1.1 ?_ (λv hv e=>absurd e (S4.1 v hv)) (λv hv e=>absurd e (S4.2 v hv)) om;rw[uc];exact⟨U.2.1.1,U.2.1.2,by simp,by simp,λe=>absurd rfl e⟩
def A4 {s:Server} {slot:Int} (h:bJ s) (hk:nD s slot=true):bJ (j9 s slot):=by
 obtain⟨_,h1,h2,h3,h4⟩:=yz hk;have hg:=uc.1 (F5 h (i:=slot.toNat) om);refine h.Uh h1 ?_ (λv _ _=>by simp) (λv _ _=>by simp) om;rw[uc];exact⟨by simp;omega,by simp;omega,by simp,by simp,λ_=>by simp;omega⟩
def aeQ {s:Server} {m:az} (h:bJ s) (hm:bK m=true):∀w∈lz s m,bK w=true:=by
 have p:=ma hm;unfold lz;split
 .intro w hw;obtain rfl:w=_:=by simpa using hw
  exact vC ⟨by simp[mZ],by simp[mZ]⟩ (qK h.site) p.2.1 ⟨by simp[mZ,cn],by simp[mZ,cn]⟩ p.2.2.2.2.1 p.2.2.2.2.2.1 ⟨by simp[mZ,cn],by simp[mZ,cn]⟩ ud ⟨by simp[mZ,cn],by simp[mZ,cn]⟩ ⟨by simp[mZ,cn],by simp[mZ,cn]⟩ qL qL yC
 intro w hw;simp at hw
def aeR {s:Server} (h:bJ s) {d:aw}:∀w∈jN s d,bK w=true:=by
 have U:=ue h.site;have key:∀k:Int,0<=k->k<=1->bK {cn with kind:=5,aT:=s.site,to:=2-2*bM s.site+k,an:=(eK s.an d).toList}=true:=λk h1 h2=>
  vC ⟨by simp,by simp⟩ (qK h.site) (qK (jy.2 ⟨by simp;omega,by simp;omega⟩)) ⟨by simp[cn],by simp[cn]⟩ KE C4 ⟨by simp[cn],by simp[cn]⟩ ud ⟨by simp[cn],by simp[cn]⟩ ⟨by simp[cn],by simp[cn]⟩ (Sy λv hv=>fw h.an v (AJ hv).1) qL yC
 unfold jN;split
 .intro w hw;rcases List.mem_cons.1 hw with rfl|hw
  .have:=key 0 om om;rwa[Int.add_zero] at this
  obtain rfl:w=_:=by simpa using hw
  exact key 1 om om
 intro w hw;simp at hw
def LJ:∀{l:List Answer} {a:Answer},(l.Pairwise λa b=>gZ a b=true)->(∀x∈l,x.key≠a.key)->(dj l a).Pairwise λa b=>gZ a b=true
 |[],a,_,_=>by simp[dj]
 |e::r,a,h,hn=>by
  unfold dj;rw[List.pairwise_cons] at h;have he:=hn e bn;split
  .rename_i hl;rw[List.pairwise_cons];refine⟨λx hx=>?_,List.pairwise_cons.2 h⟩;rcases List.mem_cons.1 hx with rfl|hx
   .unfold gZ;rw[decide_eq_true_eq];exact hl
   have:=h.1 x hx;unfold gZ at*;rw[decide_eq_true_eq] at*;omega
  rename_i hl;rw[List.pairwise_cons];refine⟨λx hx=>?_,LJ h.2 λx hx=>hn x (by simp[hx])⟩;rcases oW.1 hx with rfl|hx
  .unfold gZ;rw[decide_eq_true_eq];omega
  exact h.1 x hx
def aeS (s:Server) (m:az):(gq s m).1.site=s.site:=by
 unfold gq;split
 .split
  .rfl
  split
  .exact AQ _
  rfl
 rfl
def vI (s:Server) (m x:az) (h:ly x):
 Fn prog 347 [s.av,m.av,x.av] (dM [{x with aT:=s.site,to:=m.aT}]):=by
 refine Fn.go 16 func347 ntmps347 (λW I a U=>?_);refine aG λI a w U=>?_;refine U.box rfl .tt λb5 I a w U=>?_;refine aB λI a w U=>?_;refine U.gG (rp 5 [([0],some (0,[])),([],none),([0],some (0,[]))]) aO aO rfl ?_;refine fZ ?_;refine bc.ji (x:=AV.any) 0 (λF W0 I0 I γ a w Q U kk=>U.s1 0 λU=>kk _ _ _ U) ?_;refine bG ?_;refine bc.ji (x:=AV.any) 0 (λF W0 I0 I γ a w Q U kk=>U.s1 0 λU=>kk _ _ _ U) ?_;refine .nil ?_;intro I a w U;refine bD λI a w U=>?_;refine U.o (.c1 (Dz {x with aT:=s.site,to:=m.aT} h)) λU=>?_;refine U.o (.li [({x with aT:=s.site,to:=m.aT}:az).cells] iN (.u .nil)) λU=>?_;refine bf ?_;rfl
def aeT (s:Server) (m:az) (ao:fK s) (h0:cM s.site=true) (ho:s.aE.length<=80) (hm:bK m=true):
 Fn prog 316 [s.av,m.av] ((jL s m).av):=by
 refine Fn.go 53 func316 ntmps316 (λW I a U=>?_);have ka:=qJ hm;have h3:=ao.aD;have h4:(eh s m.slot).aD.length=3:=h3;have e9:∀x,x=de.cells ⟨m.bw,0⟩->(List.map de.cells (eh s m.slot).aD).set m.slot.toNat x=List.map de.cells (lr s m).aD:=λx h=>by rw[h];exact List.map_set.symm
 refine sr<|U.box rfl .tt λb2 I a w U=>U.o .bp λU=>U.alloc rfl cA dS λb4 I a w U=>nn<|wp_seq<|wp_seq<|U.dk ?_;refine eb ?_;refine .o (.c1 (AI _ h0)) ?_;refine pL ?_;refine mA ?_;refine .nil ?_;intro I a w U;refine bm ?_;refine U.cd (λae=>?_) λae=>?_
 .rw[SC s m] at ae;replace ae:=nt ae;refine aF λI a w U=>?_;refine U.ret rfl (.cons (.sx 1) aV.nil) ?_;exact(by unfold jL;rw[ae];rfl)
 rw[SC s m] at ae;replace ae:=nf ae;refine bk λI a w U=>?_;refine U.o (.c2 (S8 s m.slot ao.an ao.waits ho)) λU=>?_;refine aB λI a w U=>?_;refine U.l0 λb38 I a w U=>?_;refine aG λI a w U=>?_;refine U.ap 2 λGi a w U=>?_;refine U.o .fv λU=>?_;try have are:=U.fI 2 rfl
 refine aB λI a w U=>?_;simp only[List.nil_append] at U;obtain⟨b41,arh,e41⟩:=U.ku 2 rfl qh;subst e41;refine dZ λI a w U=>?_;refine U.o (.bd oF (.k aZ.nil)) λU=>?_;refine U.o (jF gQ fh .tt .tt (λ_=>by simp only[List.length_map];omega)) λU=>?_;refine U.mn 2 fh .tt .tt rfl (by exact gB om) rfl rfl λa w U=>?_;refine zt ?_;rw[e9] at U;rotate_left
 .rfl
 obtain⟨I,U⟩:=U.fu 2 2 0;refine bD λI a w U=>?_;refine U.o (.c1 (AB (lr s m) (ao.gone m))) λU=>?_;refine aB λI a w U=>?_;refine U.ret rfl (.cons (.sx 1) aV.nil) ?_;exact(by unfold jL;rw[ae];rfl)
def aeV (s:Server) (v:aA) (hl:s.aD.length=3) (hk:du v.key=true):
 Fn prog 362 [v.av,AV.ptr s.cells] (AV.bool (iC s v)):=by
 refine Fn.go 15 func362 ntmps362 (λW I a U=>?_);refine bY λI a w U=>?_;refine U.o (.c2 (AX s v.key hl)) λU=>?_;refine bk λI a w U=>?_;refine U.q .T (nu (ax .tt aH)) λU=>?_;refine U.q .T (.cl (Tm v.aQ (λd=>!eG s d) _ (λd _=>Fn.val (adH s d)))) λU=>?_;refine tO ?_;exact bB (adG hk)
def yZ (s:Server) (m:az) (i j k:Nat):Server:=
 {eh s m.slot with aD:=(eh s m.slot).aD.set m.slot.toNat ⟨m.bw,1⟩,an:=jx (eh s m.slot).an (m.an.take i),waits:=jx (eh s m.slot).waits (m.waits.take j),aE:=(m.aE.take k).foldl eA (eh s m.slot).aE}
def GB (s:Server) (m:az) {i j k:Nat} (hi:m.an.length<=i) (hj:m.waits.length<=j) (hk:m.aE.length<=k):yZ s m i j k=jB s m:=by
 unfold yZ jB;rw[List.take_of_length_le hi,List.take_of_length_le hj,List.take_of_length_le hk]
def aeW {s:Server} {m:az} (h:((m.aT==fA s.site)&&decide (1<=m.bw))=false):gq s m=(s,[]):=by unfold gq;rw[h];rfl
def Uj {s:Server} {m:az} (h:((m.aT==fA s.site)&&decide (1<=m.bw))=true) (h2:m.bw<=(ab s.aD m.slot.toNat).bw):gq s m=(s,[nG s m]):=by unfold gq;rw[h,if_pos rfl,if_pos h2]
def LK {s:Server} {m:az} (h:((m.aT==fA s.site)&&decide (1<=m.bw))=true) (h2:¬m.bw<=(ab s.aD m.slot.toNat).bw) (h3:(pQ s m&&iB (jB s m))=false):gq s m=(s,[]):=by unfold gq;rw[h,if_pos rfl,if_neg h2,h3];rfl
def Uk {s:Server} {m:az} (h:((m.aT==fA s.site)&&decide (1<=m.bw))=true) (h2:¬m.bw<=(ab s.aD m.slot.toNat).bw) (h3:(pQ s m&&iB (jB s m))=true):gq s m=(ef (jB s m),[nG s m]):=by unfold gq;rw[h,if_pos rfl,if_neg h2,h3];rfl
def aeX (s:Server) (m:az):(gR s m).length<=1:=by
 unfold gR;split
 .split
  .simp
  split<;>simp
 simp
def aeY (s:Server) (m:az):(gq s m).2.length<=1:=by
 unfold gq;split
 .split
  .simp
  split<;>simp
 simp
def Ul (s:Server) (d:aw):(jN s d).length<=2:=by unfold jN;split<;>simp
def Um {s:Server} {d:aw} (h:¬cP s d.key=1):jN s d=[]:=by unfold jN;rw[if_neg (by simpa using h)]
def aeZ {s:Server} {d:aw} (h:cP s d.key=1):(jN s d).length=2:=by unfold jN;rw[if_pos (by simpa using h)];rfl
def ae0 {s:Server} {d:aw} {v:aA} (h:cP s d.key=1) (hv:eK s.an d=some v) {j:Nat} (hj:j<2):ab (jN s d) j={cn with kind:=5,aT:=s.site,to:=2-2*bM s.site+(j:Int),an:=[v]}:=by
 unfold jN;rw[if_pos (by simpa using h),hv];match j,hj with
 |0,_=>show _={cn with kind:=5,aT:=s.site,to:=2-2*bM s.site+(0:Int),an:=[v]};rw[Int.add_zero];rfl
 |1,_=>rfl
def ae1 (q:Call) (h:AP q):
 dp prog 166 [q.av] [] (λ_:Value×Value=>True) (λu=>[Own.row u.1 56 9 (q.au.map Answer.cells),Own.row u.2 125 3 (q.aL.map aw.cells)]) (λu=>q.AH u.1 u.2):=by
 refine dp.intro 45 func166 rfl ntmps166 rfl aO (λW I a U=>?_);obtain⟨h1,h2,h4,h5,h3⟩:=h;refine sr<|U.box rfl .tt λb1 I a w U=>U.alloc rfl eJ im λb2 I a w U=>?_;refine zt ?_;refine U.l0 λb6 I a w U=>?_;refine aG λI a w U=>?_;refine U.ap 2 λv9 a w U=>?_;obtain⟨I,U⟩:=U.fr 2 9;refine U.o .fv λU=>?_;try have ho9:=U.fI 2 rfl
 refine aB λI a w U=>?_;refine U.l0 λmG I a w U=>?_;refine aG λI a w U=>?_;refine U.ap 3 λm8 a w U=>?_;obtain⟨I,U⟩:=U.fr 3 14;refine U.o .fv λU=>?_;try have Un:=U.fI 3 rfl
 refine aB λI a w U=>?_;refine U.l0 λAR I a w U=>?_;refine aG λI a w U=>?_;refine U.ap 4 λss a w U=>?_;simp only[List.nil_append] at U;refine U.o .fv λU=>?_;try have aeM:=U.fI 4 rfl
 refine aB λI a w U=>?_;refine U.l0 λDj I a w U=>?_;refine aF λI a w U=>?_;refine St.lo (σ:=Nat×Value) (run 3 3 (run 20 22 [])) ⟨λ⟨k,v⟩=>[(4,AV.int k),(3,AV.val v)],λ⟨k,v⟩=>[Own.box b1 45 [AV.int q.aj,AV.int q.num,AV.int q.kind,jt q.keys,AV.int q.val,bE q.ctx,AV.int q.bH,AV.int q.end_,AV.bool q.over,AV.int q.ar.time,AV.int q.ar.site,sd q.au,AV.val ss],Own.box b2 45 [AV.val (.int .i64 0),AV.val (.int .i64 0),AV.val (.int .i64 0),AV.rows 1 [],AV.val (.int .i64 0),AV.rows 3 [],AV.val (.int .i64 0),AV.val (.int .i64 0),AV.val (.bool false),AV.val (.int .i64 0),AV.val (.int .i64 0),AV.rows 9 [],AV.rows 3 []],Own.gone,Own.gone,Own.row ss 125 3 (q.aL.map aw.cells),Own.row v 56 9 ((q.au.take k).map Answer.cells)],λ⟨k,v⟩=>k<=q.au.length⟩ (λ⟨k,v⟩=>q.au.length-k) (0,.slice (some ⟨Dj,0,none⟩) 0 0) U ?aI ?bF;case aI=>exact Nat.zero_le _
 rintro⟨k,v⟩ I a w ao U;have hk:k<=q.au.length:=ao;dsimp only at U;refine cF λI a w U=>?_;refine cz (λae=>?_) λae=>?_
 .refine bY λI a w U=>?_;refine U.alloc rfl fg pM λb5 I a w U=>?_;refine bk λI a w U=>?_;refine U.o (.c1 (qB _ (h5 _ (bh ae)))) λU=>U.o .fv λU=>U.rV 6 bL .tt .tt rfl rfl rfl λa w U=>?_;refine aG λI a w U=>?_;refine U.o (.li [(ab q.au k).cells] wO (.u .nil)) λU=>?_;refine U.ap 5 λGi a w U=>?_;rw[cJ,<-fe ae] at U;refine aX λI a w U=>?_;have U:=U.drop 6;exact U.ag (k+1,Gi) (ae)
 refine wp_exit<|cB<|cB<|fo<|bm<|wp_seq ?_;rw[List.take_of_length_le om] at U;refine aG λI a w U=>?_;try have arj:=U.fI 5 rfl
 refine aR λI a w U=>?_;exact U.dx (v,ss) [5,4] rfl (.cons (.s 1 eJ rfl rfl (by first|rfl|assumption)) .nil) trivial rfl rfl
def ae2 {q:Call} {a:Answer} {k:Nat} (h:k<q.aL.length) (he:ab q.aL k≠a.aY.aU):qQ q a k=qQ q a (k+1):=by
 unfold qQ;by_cases hm:a.aY.aU∈q.aL.take k
 .rw[if_pos hm,if_pos ((Lq h).2 (.inl hm))]
 rw[if_neg hm,if_neg λhh=>((Lq h).1 hh).elim hm λe=>he e.symm]
def xo.snoc {l:List aA} {I0:Im} {xs:List (vH l I0)} {x:vH l I0} (h:xo xs) (hx:x.1.1+1+xs.length=l.length):xo (xs++[x]):=λj y e=>by
 rcases Nat.lt_or_ge j xs.length with hj|hj
 .rw[List.getElem?_append_left hj] at e;exact h j y e
 rw[List.getElem?_append_right hj] at e;cases hk:j-xs.length with
 |zero=>rw[hk] at e;obtain rfl:x=y:=by simpa using e
        rw[show j=xs.length from by omega];exact hx
 |succ k=>rw[hk] at e;simp at e
def ae3 (l:List aA) (n:Nat) (hn:1<=n) (I0:Im) (w0:World) (hm:eM w0 I0) (G:Nat->Prop) (hG:∀b cs,I0 b=some cs->¬G b) (p:Value) (hp:(AV.ptr [bU l]).h I0 p):
 SeqStopsK Fence.wide n prog 240 #[p] (λx:vH l I0=>#[.int .i64 x.1.1,x.1.2]) (Kept G) (λxs=>xs.length=l.length/\xo xs) xo l.length w0:=λlp J Jx W hW hJ hJx hY h0=>by
 have hmW:eM W I0:=λb cs e=>by
  obtain⟨T,fr,k⟩:=hm b cs e;exact⟨T,fr,(hW.block b (hm.lt e)).trans k⟩
 obtain⟨vs,qm,GC,A5⟩:∃vs:List (List Value),vs.length=l.length/\(AV.ptr [AV.rows 7 (vs.map Ls)]).h I0 p/\∀i,i<l.length->bN I0 (ab l i).cells (vs.getD i [])/\(AV.agg (ab l i).cells).h I0 (.agg (ab vs i).toArray)/\(ab vs i).length=7:=by
  obtain⟨q,e,h1,cs,h2,h3⟩:=hp;generalize hd:(cs.toList.drop q.off).take 1=ds at h3;match ds,h3 with
  |[v],h3=>
   obtain⟨vs,e1,e4,e2,e3⟩:=abN h3.1.1
   rw[List.map_congr_left λr hr=>TY (e4 r hr)] at e2
   refine⟨vs,by simpa using e1,⟨q,e,h1,cs,h2,by show bN _ _ (List.take 1 _);rw[hd];exact⟨⟨e2,h3.1.2⟩,trivial⟩⟩,λi hi=>?_⟩
   have:=e3 i (by simpa using hi)
   rw[Yy aA.cells l i hi,show l[i]! =ab l i from by simp[ab,hi]] at this
   have hv:i<vs.length:=by rw[e1];simpa using hi
   have he:vs.getD i []=ab vs i:=by simp[ab,hv]
   exact⟨this,⟨_,rfl,by rw[<-he];exact this⟩,e4 _ (bh hv)⟩
 refine abK (F:=lV) 19 func240 rfl ntmps240 (args:=[.val (.func (.yield lp) #[] #[]),.val p]) rfl hmW ⟨rfl,rfl,trivial⟩ λa U=>?_;have hQ:∀a w,¬bodyPost prog f240 (λe W'=>(∃v,e=.returned v)/\((∃xs:List (vH l I0),(xs.length=l.length/\xo xs)/\J xs W')\/∃pre,xo pre/\Jx pre W')) .outgrown a w:=λa w h=>by obtain⟨⟨v,e⟩,_⟩:=h;cases e
 have GD:∀{A B:World} {xs},A.grownBy B none->J xs A->J xs B:=λh k=>hJ _ _ _ none k h (λr e=>by cases e);have ae6:∀{A B:World} {xs},A.grownBy B none->Jx xs A->Jx xs B:=λh k=>hJx _ _ _ none k h (λr e=>by cases e);refine wpIn_seq (Ao (by exact hQ) rfl ?_);refine U.oU 1 GC .l1 λ{I a w} U=>?_;have hle:=U.eE (t:=4) rfl;refine bk λI a w U=>?_;refine nn ?_;refine wpIn_block (wpIn_loop (λa w=>∃(k:Nat) (pre:List (vH l I0)),St ⟨w,I0,19,lV⟩ I0 [] [(3,.int ((k:Int)-1)),(1,.val p),(0,.val (.func (.yield lp) #[] #[]))] a w/\pre.length+k=l.length/\xo pre/\J pre w) (λa _=>Lr a) ?_ ?_)
 .refine⟨l.length,[],?_,by simp,λj x e=>by simp at e,GD (U.grown rfl) h0⟩;refine(U.base [(3,.int .i64 ((l.length:Int)-1)),(1,p),(0,.func (.yield lp) #[] #[])] (by rw[<-qm];rfl))
 rintro a w ⟨k,pre,U,hk,hd,Uo⟩;have hmu:=TX U;refine wpIn_seq (wpIn_seq (Ao (by exact hQ) rfl ?_));refine aG λI a w U=>?_;refine nn ?_;refine wpIn_cond_split (U.env 8 _ rfl) (λae=>?_) (λae=>?_)
 .refine wpIn_skip ?_;refine bm ?_;have ae:1<=k:=by simp only[B] at ae;omega
  refine wpIn_seq (wpIn_block (wpIn_seq (wpIn_region_lit ?_)));refine FA (by exact hQ) [_,_] [_,_,_,_,_,_] rfl ?_;have mL:k<=vs.length:=by omega
  refine aG λI a w U=>?_;refine U.oU 1 GC .l1 λ{I a w} U=>?_;refine bk λI a w U=>?_;have hJ2:=GD (U.grown rfl) Uo;have hx:((k:Int)-1).toNat<l.length:=by omega
  refine nn (wpListIn_plain rfl λK hK=>?_);have F7:a.eval (.tmp 12)=.int .i64 ((((k:Int)-1).toNat:Nat):Int):=by
   rw[show a.eval (.tmp 12)=.int .i64 ((k:Int)-1) from U.env 12 _ rfl];congr 1;omega
  have h16:a.eval (.tmp 16)=.agg (ab vs ((k:Int)-1).toNat).toArray:=by
   have:(AV.agg (Ls (ab vs ((k:Int)-1).toNat))).h I (a.eval (.tmp 16)):=U.env 16 _ rfl;rw[<-TY (A5 _ hx).2.2] at this;exact abM this
  have nZ:(#[.tmp 12,.tmp 16]:Array Operand).map a.eval=#[.int .i64 ((((k:Int)-1).toNat:Nat):Int),.agg (ab vs ((k:Int)-1).toNat).toArray]:=by simp[F7,h16]
  refine abJ (λ_=>trivial) rfl (U.env 11 _ rfl) nZ (hY pre ⟨(((k:Int)-1).toNat,.agg (ab vs ((k:Int)-1).toNat).toArray),hx,(A5 _ hx).2.1⟩ w hJ2 om) λe w' he=>?_;have vJ:=hd.snoc (x:=⟨(((k:Int)-1).toNat,.agg (ab vs ((k:Int)-1).toNat).toArray),hx,(A5 _ hx).2.1⟩) (by show((k:Int)-1).toNat+1+_=_;omega);rcases he with⟨rfl,LL,ya⟩|⟨rfl,LL⟩
  .refine⟨_,rfl,hK _ _ ?_⟩;have U:=(U.Jt [(3,.int .i64 ((k:Int)-1)),(1,p),(0,.func (.yield lp) #[] #[])] hG ya).FB (d:=17) (x:=.bool true) (v:=.bool true) (show 17<19 from by decide) rfl;refine FA (by exact hQ) [] [_] rfl ?_;refine bD λI a w U=>?_;refine nn ?_;refine bm ?_;refine wpIn_cond_split (U.env 18 _ rfl) (λah=>by cases ah) (λah=>?_);refine wpIn_skip ?_;refine z4 ?_;refine bm ?_;refine Ao (by exact hQ) rfl ?_;refine bk λI a w U=>?_;have h3:St _ _ _ _ _ _:=U.base [(3,.int .i64 ((((k-1:Nat)):Int)-1)),(1,p),(0,.func (.yield lp) #[] #[])] (by rw[show(((k-1:Nat):Int)-1)=(k:Int)-1-1 from by omega];rfl);refine wpList_nil (bm ?_);refine⟨⟨k-1,_,h3,by simp;omega,vJ,GD (U.grown rfl) LL⟩,?_⟩;rw[hmu,TX (k:=k-1) h3];omega
  refine⟨_,rfl,hK _ _ ?_⟩;have U:=(U.blank w' []).FB (d:=17) (x:=.bool false) (v:=.bool false) (show 17<19 from by decide) rfl;refine FA (by exact hQ) [] [_] rfl ?_;refine bD λI a w U=>?_;refine nn ?_;refine bm ?_;refine wpIn_cond_split (U.env 18 _ rfl) (λah=>?_) (λah=>by cases ah);refine wpIn_ret ?_;refine xQ (z3 (z3 (xQ ?_)));exact⟨U.defers,_,results_none rfl _ _ _,⟨_,rfl⟩,.inr ⟨_,vJ,ae6 (U.grown rfl) LL⟩⟩
 refine wpIn_exit ?_;refine cB (cB (fo ?_));have LM:k=0:=by
  have ae:¬(0<=(k:Int)-1):=by simpa using ae
  omega
 exact⟨U.defers,_,results_none rfl _ _ _,⟨_,rfl⟩,.inl ⟨_,⟨by omega,hd⟩,GD (U.grown rfl) Uo⟩⟩
def afa (l:List Call) (aj:Int) {k:Nat} (hk:k<=l.length) (h:l.length<=k):vz l aj k=sB l aj:=by
 have key:∀k,k<=l.length->vz l aj k=(l.take k).foldl (λn q=>if q.aj=aj then q.num else n) 0:=by
  intro k;induction k with
  |zero=>intro _;simp[vz]
  |succ k ih=>intro h;rw[fe om,List.foldl_append];show(if _ then _ else vz l aj k)=_;rw[ih om];rfl
 unfold sB;rw[key k hk,List.take_of_length_le h]
def GF (b:Nat) (t:Int) (s r q z:Value) (al more:List az) (hr:al.length<=60) (hl:more.length<=1048576) (hd:∀m∈more,ly m):
 dp prog 231 [AV.val (.pointer (some ⟨b,0,none⟩)),dM more] [Own.box b 28 [AV.int t,AV.val s,AV.val r,AV.val q,AV.val z],Own.row r 108 15 ((al).map az.cells)] (λ_:Value=>True) (λu=>[Own.box b 28 [AV.int t,AV.val s,AV.val u,AV.val q,AV.val z],Own.row u 108 15 ((eN al more).map az.cells)]) (λ_=>AV.dG []):=by
 refine dp.intro 30 func231 rfl ntmps231 rfl aO (λW I a U=>?_);rw[show al=eN al (more.take 0) from(aet al).symm] at U;refine aR λI a w U=>?_;refine St.lo (σ:=Nat×Value) (5::(run 22 8 [])) ⟨λ⟨k,u⟩=>[(8,AV.int k)],λ⟨k,u⟩=>[Own.box b 28 [AV.int t,AV.val s,AV.val u,AV.val q,AV.val z],Own.row u 108 15 ((eN al (more.take k)).map az.cells)],λ⟨k,u⟩=>k<=more.length⟩ (λ⟨k,u⟩=>more.length-k) (0,r) U ?aI ?bF;case aI=>exact Nat.zero_le _
 rintro⟨k,u⟩ I a w ao U;have hk:k<=more.length:=ao;dsimp only at U;refine aB λI a w U=>?_;refine cz (λae=>?_) λae=>?_
 .refine aG λI a w U=>?_;refine U.alloc rfl dV eU λb5 I a w U=>?_;refine aB λI a w U=>?_;obtain⟨I,U⟩:=U.fb 2 5;refine bx λI a w U=>?_;refine U.o (tv 1 gA .tt rfl) λU=>?_;refine aB λI a w U=>?_;refine cz (λah=>?_) λah=>?_
  .rw[List.length_map] at ah;refine U.gG (rp 4 (([0],none)::rp 3 (([1],some (1,[26]))::rp 2 [([0],some (0,[26]))]))) aO aO rfl ?_;refine eb ?_;refine .r [0] (.lb 0) ?_;refine bG ?_;refine .o (.c1 (Dz (ab more k) (hd _ (bh ae)))) ?_;refine .o (.li [(ab more k).cells] iN (.u .nil)) ?_;refine bc.Jk 1 rfl rfl gA dV rfl .tt .r (by rw[List.length_map];have:=aeu al (more.take k) hr;simp;omega) ?_;refine cG ?_;refine bc.Ff 0 rfl JP .tt rfl rfl<|.nil ?_;intro I a w U;change St _ _ [Own.box b 28 [AV.int t,AV.val s,AV.val (a.tmps.getD 26 undef),AV.val q,AV.val z],Own.row (a.tmps.getD 26 undef) 108 15 (((eN al (more.take k)).map az.cells)++[(ab more k).cells]),Own.gone] _ _ _ at U;generalize a.tmps.getD 26 undef=y6 at U;rw[cJ,aer ae om] at U;refine aF λI a w U=>?_;have U:=U.drop 2;exact U.ag (k+1,y6) (ae)
  rw[List.length_map] at ah;refine aF λI a w U=>?_;have U:=U.drop 2;rw[aes hr ae om] at U;exact U.ag (k+1,u) (ae)
 refine zt ?_;rw[show more.take k=more from List.take_of_length_le om] at U;exact U.n6 u [0,1] rfl .nil trivial rfl rfl
def afb (l:List az):
 Fn prog 74 [dM l,dM l] (AV.bool true):=by
 refine Fn.go 27 func74 ntmps74 (λW I a U=>?_);have hle:=U.eE (t:=0) rfl;refine iM λI a w U=>?_;refine U.cd (λae=>?_) λae=>?_
 .exfalso;simp at ae;skip
 refine aB λI a w U=>?_;refine St.lo (σ:=Nat) (run 2 4 (run 16 11 [])) ⟨λk=>[(5,AV.int k)],λk=>[],λk=>k<=l.length⟩ (λk=>l.length-k) 0 U ?aI ?bF;case aI=>exact Nat.zero_le _
 rintro k I a w ao U;have hk:k<=l.length:=ao;refine aX λI a w U=>?_;refine cz (λah=>?_) λah=>?_
 .refine zt ?_;refine U.dk ?_;refine ny ?_;refine .o (.c2 (adq (ab l k))) ?_;refine bG ?_;refine .nil ?_;intro I a w U;refine bm ?_;refine U.cd (λaq=>?_) λaq=>?_
  .exfalso;simp at aq;skip
  refine aR λI a w U=>?_;exact U.ag (k+1) (ah)
 refine zt ?_;refine bf ?_;rfl
def afc (s:Server) (hl:s.aD.length<=1048576):
 Fn prog 75 [s.av,s.av] (AV.bool true):=by
 refine Fn.go 77 func75 ntmps75 (λW I a U=>?_);refine wM λI a w U=>?_;refine U.q .F (B8 .ag .ag wP) λU=>?_;refine Fq λI a w U=>?_;refine U.q .F (.cl (C7 ..)) λU=>?_;refine g9 λI a w U=>?_;refine U.q .F (.cl (C7 ..)) λU=>?_;refine g9 λI a w U=>?_;refine U.q .F (.cl (w7 ..)) λU=>?_;refine g9 λI a w U=>?_;refine U.q .F (.cl (w7 ..)) λU=>?_;refine aF λI a w U=>?_;refine U.cd (λae=>?_) λae=>?_
 .exfalso;simp at ae;skip
 refine aB λI a w U=>?_;refine St.lo (σ:=Nat) (run 2 4 (run 18 59 [])) ⟨λk=>[(5,AV.int k)],λk=>[],λk=>k<=s.aD.length⟩ (λk=>s.aD.length-k) 0 U ?aI ?bF;case aI=>exact Nat.zero_le _
 rintro k I a w ao U;have hk:k<=s.aD.length:=ao;refine cF λI a w U=>?_;refine cz (λah=>?_) λah=>?_
 .refine zt ?_;refine U.dk ?_;refine pK ?_;refine .o (tz [_,_] [_,_] Ra rfl rfl .tt .tt)<|.nil ?_;intro I a w U;refine bm ?_;refine U.cd (λaq=>?_) λaq=>?_
  .exfalso;simp at aq;skip
  refine aR λI a w U=>?_;exact U.ag (k+1) (ah)
 refine zt ?_;refine bf ?_;rfl
def LN (w:ai) (m:az):(jC w m).aC=w.aC:=by
 unfold jC;dsimp only;split
 .rfl
 split<;>rfl
def afd (s:Server) (d:aw):(jN s d).length<=2:=by unfold jN;split<;>simp
def Up {x:ai} {m:az} {n:Nat} (LO:cq x.calls (m.to-10)=(n:Int)):(jC x m).calls=x.calls.set n (cQ (ab x.calls n) m x.time):=by
 unfold jC;dsimp only;rw[LO,if_neg om,Int.toNat_natCast];split<;>rfl
end Go.Proofs.YtldbakcpcfdlaaaGreat

/- Part 25: contracts of functions, plain facts. -/
import Derived.Test.YtdanidpleofjgaaGreatP19
import Derived.Test.YtdanidpleofjgaaGreatP22
set_option linter.all false
set_option maxRecDepth 100000
set_option maxHeartbeats 4000000
namespace Go.Proofs.YtdanidpleofjgaaGreat
open Go Go.RowKit Tryz
attribute [local irreducible] wpList Code.wp Ok
def sE {q:Call} {t:Int}:fR q t=true↔dS q t:=by
 have e1:(de q.aO.length (qW q))=true↔∀d∈q.aO,so q d=true:=by
  have e:qW q=λi=>so q (ab q.aO i):=by funext i;rfl
  rw[e];exact zd
 have e2:(((q.aO.length:Int)==0)||pR q)=true↔q.aO=[]\/q.aA.length=q.keys.length:=by
  unfold pR;rw[Bool.or_eq_true,beq_iff_eq,beq_iff_eq];constructor
  .rintro(h|h)
   .exact .inl (List.length_eq_zero_iff.1 om)
   exact .inr om
  rintro(h|h)
  .exact .inl (by rw[h];rfl)
  exact .inr om
 have e3:yI q=true↔(q.kind=1->q.aA=[]/\q.aO=[])/\(q.kind≠1->q.val=0/\dX q.ar=true):=by
  unfold yI;rw[OK];by_cases hk:q.kind=1
  .simp[hk]
  simp[hk]
 have e4:pd q t=true↔(q.end_=0->dX q.ar=true)/\(q.end_≠0->q.over=false/\(q.bE+1<=q.end_/\q.end_<=t)/\q.aO=[]/\(q.kind=1->dX q.ar=false)/\(q.kind≠1->q.aA.length=q.keys.length)):=by
  unfold pd;by_cases he:q.end_=0
  .simp[he]
  rw[if_neg he,OJ];unfold pR aS;by_cases hk:q.kind=1
  .simp[hk,he,and_assoc]
  simp[hk,he,and_assoc];omega
 unfold fR mf p8;simp only[Bool.and_eq_true];rw[Rs,e1,e2,e3,e4];constructor
 .rintro⟨⟨⟨⟨⟨⟨⟨⟨⟨⟨a1,a2⟩,a3⟩,a4⟩,a5⟩,a6⟩,a7⟩,a8⟩,⟨⟨a9,wQ,Bl⟩,HM⟩,HN⟩,a14,a15⟩,a16,a17⟩;simp only[aS,Bool.and_eq_true,decide_eq_true_eq] at a2 a4 a7;exact⟨a1,a2,a3,a4,a5,a6,a7,a8,a9,wQ,Bl,HM,HN,a14,a15,a16,a17⟩
 intro h;simp only[aS,Bool.and_eq_true,decide_eq_true_eq];exact⟨⟨⟨⟨⟨⟨⟨⟨⟨⟨h.aq,h.num⟩,h.keys⟩,h.val⟩,h.ctx⟩,h.aO⟩,h.bE⟩,h.fits⟩,⟨⟨h.has,h.sorted,h.bD⟩,h.xa⟩,h.full⟩,h.put,h.read⟩,h.open_,h.ended⟩
def dS.later {q:Call} {t t':Int} (h:dS q t) (ht:t<=t'):dS q t':=sE.1 (aap (sE.2 h) ht)
def tY {l:List Call} {t:Int}:jJ l t=true↔l.length<=20/\∀i,i<l.length->dS (ab l i) t/\(i=0\/(ab l (i-1)).bE<(ab l i).bE)/\(ab l i).num=ga l (i+1) (ab l i).aq/\∀j,j<i->lM (ab l j) (ab l i)=false:=by
 unfold jJ mZ zl;rw[Bool.and_eq_true,js,decide_eq_true_eq];constructor
 .rintro⟨h,hl⟩;refine⟨hl,λi hi=>?_⟩;have:=h i hi;simp only[Bool.and_eq_true,Bool.or_eq_true,decide_eq_true_eq,beq_iff_eq,js] at this;exact⟨sE.1 this.1.1.1,this.1.1.2,this.1.2,λj hj=>by simpa using this.2 j hj⟩
 rintro⟨hl,h⟩;refine⟨λi hi=>?_,hl⟩;obtain⟨a1,a2,a3,a4⟩:=h i hi;simp only[Bool.and_eq_true,Bool.or_eq_true,decide_eq_true_eq,beq_iff_eq,js];exact⟨⟨⟨sE.2 a1,a2⟩,a3⟩,λj hj=>by rw[a4 j hj];rfl⟩
def abY {l:List Call} {t t':Int} (h:jJ l t=true) (ht:t<=t'):jJ l t'=true:=by
 obtain⟨h1,h2⟩:=tY.1 h;exact tY.2 ⟨h1,λi hi=>⟨(h2 i hi).1.later ht,(h2 i hi).2⟩⟩
def abZ {l:List Call} {t:Int} (h:jJ l t=true) {i:Nat} (hi:i<l.length) (hw:gP (ab l i)=true) {x:Call} (hx:dS x t) (h1:x.aq=(ab l i).aq) (h2:x.num=(ab l i).num) (h3:x.bE=(ab l i).bE):jJ (l.set i x) t=true:=by
 obtain⟨he,ho⟩:=sa hw;obtain⟨a,b⟩:=tY.1 h;have hb:∀j,(ab (l.set i x) j).bE=(ab l j).bE:=λj=>by rw[jh hi];split;subst_vars;exact h3;rfl
 have aQ:∀j,(ab (l.set i x) j).aq=(ab l j).aq:=λj=>by rw[jh hi];split;subst_vars;exact h1;rfl
 have BT:∀j,(ab (l.set i x) j).num=(ab l j).num:=λj=>by rw[jh hi];split;subst_vars;exact h2;rfl
 refine tY.2 ⟨by rw[List.length_set];exact a,λj hj=>?_⟩;rw[List.length_set] at hj;obtain⟨b1,b2,b3,b4⟩:=b j hj;refine⟨?_,by rw[hb,hb];exact b2,by rw[BT,aQ,Ys hi h1];exact b3,λk hk=>?_⟩
 .rw[jh hi];split
  .exact hx
  exact b1
 have hc:=b4 k hk;unfold lM at hc⊢;rw[aQ,aQ,hb];by_cases e:k=i
 .subst e;rw[he,ho] at hc;have:((ab l k).aq==(ab l j).aq)=false:=by simpa using hc
  rw[this];rfl
 rw[jh hi,if_neg e];exact hc
def cy.later {w:aI} (h:cy w):cy {w with time:=w.time+1}:=
 ⟨by have:=h.time;show 0<=w.time+1;omega,h.aw,h.site,h.au,h.words,h.seen,h.kd,abY h.calls (by show w.time<=w.time+1;omega)⟩
def cy.RX {w:aI} (h:cy w) {i:Nat} (hi:i<w.calls.length) (hw:gP (ab w.calls i)=true) {x:Call} (hx:dS x w.time) (h1:x.aq=(ab w.calls i).aq) (h2:x.num=(ab w.calls i).num) (h3:x.bE=(ab w.calls i).bE):cy {w with calls:=w.calls.set i x}:=
 ⟨h.time,h.aw,h.site,h.au,h.words,h.seen,h.kd,abZ h.calls hi hw hx h1 h2 h3⟩
def cy.call {w:aI} (h:cy w) {i:Nat} (hi:i<w.calls.length):dS (ab w.calls i) w.time:=((tY.1 h.calls).2 i hi).1
def RY {w:aI} (h:cy w) (e:Ev) (al:(iC w e).2=true):cy (iC w e).1:=by
 unfold iC at*;split at al
 .rename_i hk;rw[if_pos hk];unfold kb at*;split at al
  .rename_i hc;rw[if_pos hc];exact⟨h.time,h.aw,h.site,h.au,h.words,h.seen,h.kd,al⟩
  cases al
 rename_i hk;rw[if_neg hk];dsimp only at al⊢;split
 .exact h
 rename_i hn;obtain⟨h1,h2,h3⟩:=qS (l:=w.calls) (aq:=e.aq) om;have hq:=h.call h1;obtain⟨he,_⟩:=sa h3;split
 .refine h.RX h1 h3 ⟨hq.aq,hq.num,hq.keys,hq.val,hq.ctx,hq.aO,hq.bE,hq.fits,hq.has,hq.sorted,hq.bD,hq.xa,hq.full,hq.put,hq.read,hq.open_,λe=>absurd he e⟩ rfl rfl rfl
 exact h.send (IJ hq)
def EI (s:Server) (m:az):(!aS m.aU 10 11||decide (m.call<1)||!gf s m.key)=!(aS m.aU 10 11&&decide (1<=m.call)&&gf s m.key):=by
 have e:decide (m.call<1)=!decide (1<=m.call):=by rw[Bool.eq_iff_iff];simp
 rw[e];simp
def RZ (s:Server) (slot:Int) (h1:bY s.an=true) (h2:bY s.waits=true) (h0:cO s.site=true) (h3:s.aF.length=3) (jM:0<=slot/\slot<3) (ho:s.aD.length<=80):
 Fn prog 192 [s.av,AV.int slot] ((gi s slot).av):=by
 refine Fn.go 63 func192 ntmps192 (λW I a U=>?_);have lens:s.aF.length<=9223372036854775807/\s.an.length<=9223372036854775807/\s.waits.length<=9223372036854775807/\s.aD.length<=9223372036854775807/\s.bj.length<=9223372036854775807:=⟨U.ln 0 2,U.ln 0 3,U.ln 0 4,U.ln 0 5,U.ln 0 6⟩;refine sr<|U.box rfl .tt λb2 I a w U=>U.alloc rfl dj dN λb4 I a w U=>?_;refine zt ?_;refine U.da 14 ?_;simp only[TD];refine dM ?_;refine .o (.c1 (yL _ h0)) ?_;refine kJ ?_;refine .o (.bd WO (.k (.k (.k (.k (.k aW.nil)))))) ?_;refine gv.alloc dj dN<|.nil ?_;intro I a w U;obtain⟨b5,U⟩:=U.uz (d:=5) rfl;refine ax λI a w U=>?_;have U:=U.fV (sz:=3) 115;refine aV λI a w U=>?_;refine U.o (.cl (Ec _ _ h1)) λU=>?_;refine lI λI a w U=>?_;refine U.o (.cl (Ec _ _ h2)) λU=>?_;refine gY λI a w U=>?_;refine St.lo (σ:=Nat×Value) (6::(run 26 36 [])) ⟨λ⟨k,v⟩=>[(6,AV.int k)],λ⟨k,v⟩=>[Own.box b2 43 s.cells,Own.box b4 84 [AV.val (.int .i64 0),AV.val (.int .i64 0),AV.val (.int .i64 0),AV.val (.int .i64 0),AV.val (.int .i64 0),AV.val (.int .i64 0),AV.val (.int .i64 0),AV.val (.int .i64 0),AV.val (.bool false),AV.rows 3 [],AV.val (.int .i64 0),AV.val (.int .i64 0),AV.rows 7 [],AV.rows 7 [],AV.rows 3 []],Own.box b5 84 [AV.int (gi s slot).kind,AV.int (gi s slot).aU,AV.int (gi s slot).to,AV.int (gi s slot).call,AV.int (gi s slot).key,AV.int (gi s slot).ar.time,AV.int (gi s slot).ar.site,AV.int (gi s slot).val,AV.bool (gi s slot).yes,AV.val (.slice none 0 0),AV.int (gi s slot).slot,AV.int (gi s slot).bf,bQ (gi s slot).an,bQ (gi s slot).waits,AV.val v],Own.row v 115 3 (((s.aD.take k).filter (gh slot)).map ao.cells)],λ⟨k,v⟩=>k<=s.aD.length⟩ (λ⟨k,v⟩=>s.aD.length-k) (0,.slice none 0 0) U ?aL ?bG;case aL=>exact Nat.zero_le _
 rintro⟨k,v⟩ I a w al U;have hk:k<=s.aD.length:=al;have kg:=rX (gh slot) s.aD k;dsimp only at U;refine ct λI a w U=>?_;refine cz (λae=>?_) λae=>?_
 .refine dI λI a w U=>?_;refine U.o (.c1 (uJ ..)) λU=>?_;refine aB λI a w U=>?_;refine U.cd (λah=>?_) λah=>?_
  .change(gh slot) (ab s.aD k)=true at ah;refine U.dt 8 ?_;simp only[TD];refine kJ ?_;refine .o (.li [(ab s.aD k).cells] fE (.u .nil)) ?_;refine .nil ?_;intro I a w U;refine U.ap 3 λv60 a w U=>?_;refine U.o .fv λU=>?_;try have amt:=U.dZ 3 rfl
   refine ax λI a w U=>?_;rw[bV,<-nu (p:=(gh slot)) ae ah] at U;refine aN λI a w U=>?_;exact U.ag (k+1,v60) (ae)
  change(gh slot) (ab s.aD k)=false at ah;refine aN λI a w U=>?_;rw[show(s.aD.take k).filter (gh slot)=(s.aD.take (k+1)).filter (gh slot) from(nv ae ah).symm] at U;exact U.ag (k+1,v) (ae)
 refine wp_exit<|cM<|cM<|fI<|bk<|wp_seq ?_;have U:=U.mo (q:=9) 2 rfl rfl (eW 3 _);obtain⟨I,U⟩:=U.fu 3 14 2;refine aB λI a w U=>?_;refine U.ret rfl (.cons (.sx 1) ba.nil) ?_;exact(by rw[show s.aD.take k=s.aD from List.take_of_length_le om];rfl)
def ab1 {s:Server} {m:az} (h:(aS m.aU 10 11&&decide (1<=m.call)&&gf s m.key)=false):im s m=(s,[]):=by unfold im;rw[h];rfl
def R0 {s:Server} {m:az} (h:(aS m.aU 10 11&&decide (1<=m.call)&&gf s m.key)=true) (hv:(j3 s m.key (m.aU-10) m.call).isSome=true):im s m=(s,[mL s m ((j3 s m.key (m.aU-10) m.call).getD default).ar]):=by
 obtain⟨v,hv⟩:=Option.isSome_iff_exists.1 hv;unfold im;rw[h,hv];rfl
def Jd {s:Server} {m:az} (h:(aS m.aU 10 11&&decide (1<=m.call)&&gf s m.key)=true) (hv:(j3 s m.key (m.aU-10) m.call).isSome=false) (hf:(jG (jR s m)&&gH s.an (fk s m)&&decide (s.aD.length<80))=false):im s m=(s,[]):=by
 have hv:=A5 (o:=j3 s m.key (m.aU-10) m.call) (by rw[hv];rfl);unfold im;rw[h,hv];dsimp only;rw[hf];rfl
def R1 {s:Server} {m:az} (h:(aS m.aU 10 11&&decide (1<=m.call)&&gf s m.key)=true) (hv:(j3 s m.key (m.aU-10) m.call).isSome=false) (hf:(jG (jR s m)&&gH s.an (fk s m)&&decide (s.aD.length<80))=true):
 im s m=(fQ {s with an:=eE s.an (fk s m),aD:=eF s.aD (fk s m).bh},[mL s m (fk s m).ar]):=by
 have hv:=A5 (o:=j3 s m.key (m.aU-10) m.call) (by rw[hv];rfl);unfold im;rw[h,hv];dsimp only;rw[hf];rfl
def ab2 (q:Call) (m:az) {j:Nat} (hj:j<2):ab (jS q m) j={m with aU:=10+q.aq,to:=2*q.aq+(j:Int),call:=q.num}:=by
 match j,hj with
 |0,_=>show _={m with aU:=10+q.aq,to:=2*q.aq+(0:Int),call:=q.num};rw[Int.add_zero];rfl
 |1,_=>rfl
def R2 (q:Call) (m:az) {j:Nat} (hj:j<2):(jS q m).take j++[{m with aU:=10+q.aq,to:=2*q.aq+(j:Int),call:=q.num}]=(jS q m).take (j+1):=by
 rw[<-ab2 q m hj,<-ez hj]
def qd (q:Call) (k:Nat):List az:=((q.keys.take k).filter λk=>decide (cB q k<0)).map wS
def R3 (q:Call) (m:az) (t:Int) (he:0<=q.end_):(!bM m||(m.to !=10+q.aq)||(m.call !=q.num)||!g9 q.keys m.key||decide (0<q.end_)||q.over||decide (t<=q.bE))=
 !(bM m&&(m.to==10+q.aq)&&(m.call==q.num)&&g9 q.keys m.key&&gP q&&decide (q.bE<t)):=by
 have e1:decide (0<q.end_)=!(q.end_==0):=by rw[Bool.eq_iff_iff];simp;omega
 have e2:decide (t<=q.bE)=!decide (q.bE<t):=by rw[Bool.eq_iff_iff];simp
 unfold gP;rw[e1,e2];simp[bne,Bool.or_assoc]
def R4:∀{l:List Answer} {a:Answer} {k:Nat},k<=l.length->(∀i,i<k->(ab l i).key<a.key)->(k<l.length->¬(ab l k).key<a.key)->(∀x∈l,x.key≠a.key)->l.take k++a::l.drop k=c7 l a
 |[],a,k,h,_,_,_=>by obtain rfl:k=0:=by simpa using h
                     rfl
 |e::r,a,0,_,_,h2,h3=>by
  have h2:=h2 bt;have h3:=h3 e bt;have:a.key<e.key:=by have h4:¬e.key<a.key:=h2;omega
  unfold c7;rw[if_pos this];rfl
 |e::r,a,k+1,h,h1,h2,h3=>by
  have h0:e.key<a.key:=h1 0 om;unfold c7;rw[if_neg om];show e::(r.take k++a::r.drop k)=_;rw[R4 (by simpa using h) (λi hi=>h1 (i+1) om) (λhl=>h2 (by simpa using hl)) λx hx=>h3 x (by simp[hx])]
def ab3 (q:Call) (n:Value):
 Fn prog 175 [q.yH n] (AV.bool (pR q)):=by
 refine Fn.go 10 func175 ntmps175 (λW I a U=>?_);refine uE λI a w U=>?_;refine U.rt ?_;rfl
def R5 {s:Server} {m:az} {y:Bool} {v:aE} (h:v.aR.length<=1048576):jU ⟨4,0,0,m.call,m.key,m.ar,0,y,[],0,0,[v],[],[]⟩:=⟨Nat.zero_le _,⟨by simp,λx hx=>by obtain rfl:=List.mem_singleton.1 hx;exact h⟩,⟨Nat.zero_le _,λ_ h=>by cases h⟩,Nat.zero_le _⟩
def R6 (s:Server) (m:az) (v:aE):(v.key==m.key&&v.aq==m.aU-10&&v.call==m.call&&!(bP v.ar.site !=bP s.site))=oZ s m.key (m.aU-10) m.call v:=by unfold oZ;simp[bne]
def R7 {s:Server} {m:az} {k:Nat} (hk:k<s.an.length) (h:∀i,i<k->oZ s m.key (m.aU-10) m.call (ab s.an i)=false) (hp:oZ s m.key (m.aU-10) m.call (ab s.an k)=true):j3 s m.key (m.aU-10) m.call=some (ab s.an k):=PG hk h hp
def Je {s:Server} {m:az} {k:Nat} (hk:s.an.length<=k) (h:∀i,i<k->oZ s m.key (m.aU-10) m.call (ab s.an i)=false):(j3 s m.key (m.aU-10) m.call).isSome=false:=by unfold j3;rw[Pf hk h];rfl
def EJ {s:Server} {m:az} {k:Int} (h:(m.kind==k&&fC (m.aU-10)&&decide (0<m.call)&&gf s m.key)=true):m.kind=k/\(aS m.aU 10 11&&decide (1<=m.call)&&gf s m.key)=true:=by
 rw[Ox] at h;simp only[Bool.and_eq_true,beq_iff_eq,decide_eq_true_eq] at h⊢;exact⟨h.1.1.1,⟨h.1.1.2,by omega⟩,h.2⟩
def R8 {s:Server} {m:az} {k:Int} (h:(m.kind==k&&fC (m.aU-10)&&decide (0<m.call)&&gf s m.key)=false) (hk:m.kind=k):(aS m.aU 10 11&&decide (1<=m.call)&&gf s m.key)=false:=by
 rw[Ox,hk] at h;simp only[beq_self_eq_true,Bool.true_and] at h;rw[show decide (1<=m.call)=decide (0<m.call) from by rw[Bool.eq_iff_iff];simp;omega];exact h
def EK {e:Ev} (h:((e.call==2)&&decide (e.a<e.b))=false):lJ e=[e.a]:=by
 unfold lJ;rw[if_neg];simpa using h
def EL {e:Ev} (h:((e.call==2)&&decide (e.a<e.b))=true) (h2:¬e.b<e.c):lJ e=[e.a,e.b]:=by
 unfold lJ;rw[if_pos (by simpa using h),if_neg h2]
def EM {e:Ev} (h:((e.call==2)&&decide (e.a<e.b))=true) (h2:e.b<e.c):lJ e=[e.a,e.b,e.c]:=by
 unfold lJ;rw[if_pos (by simpa using h),if_pos h2]
def ab4 (e:Ev):
 Fn prog 180 [e.av] (iz (lJ e)):=by
 refine Fn.go 33 func180 ntmps180 (λW I a U=>?_);refine bz λI a w U=>?_;refine U.Db (iy:=[[AV.int e.a]]) rfl cH cx rfl iO rfl rfl rfl (aW.c rfl rfl .tt (by first|exact gn rfl|exact en|exact gC|exact gE) aW.nil) rfl rfl (by simp only[List.forall_mem_cons];exact⟨rfl,λ_ h=>by simp at h⟩) rfl λb6 I a w U=>?_;refine AO λI a w U=>?_;refine U.cd (λae=>?_) λae=>?_
 .refine aV λI a w U=>?_;refine U.o (.li [[AV.int e.b]] iO (.v .nil)) λU=>?_;refine U.append 0 rfl cH cx rfl .tt .r rfl bt λEa a w U=>?_;refine gY λI a w U=>?_;refine cz (λah=>?_) λah=>?_
  .refine aV λI a w U=>?_;refine U.o (.li [[AV.int e.c]] iO (.v .nil)) λU=>?_;refine U.append 0 rfl cH cx rfl .tt .r rfl bt λv31 a w U=>?_;refine aN λI a w U=>?_;obtain⟨I,U⟩:=U.fr 0 2;refine U.rt ?_;exact(by rw[EM ae ah];rfl)
  refine aB λI a w U=>?_;obtain⟨I,U⟩:=U.fr 0 2;refine U.rt ?_;exact(by rw[EL ae (by simpa using ah)];rfl)
 refine aB λI a w U=>?_;obtain⟨I,U⟩:=U.fr 0 2;refine U.rt ?_;exact(by rw[EK ae];rfl)
def ab5 {w:aI} {e:Ev} (h:e.kind=1):iC w e=((kb w e).1,(kb w e).2):=by unfold iC;rw[if_pos h]
structure eU (w:aI) (m:az):Prop where
 k1:m.kind=1->∃q∈w.calls,m.aU=10+q.aq/\q.num=m.call/\m.to/2=q.aq/\q.kind=1/\ab q.keys 0=m.key/\q.val=m.val/\q.ctx=m.aR
 k2:m.kind=2->∃v,cF w (m.to-10).toNat v/\v.aq=m.to-10/\v.call=m.call/\v.key=m.key/\v.ar=m.ar
 k3:m.kind=3->∃q∈w.calls,m.aU=10+q.aq/\q.num=m.call/\m.to/2=q.aq
 k4:m.kind=4->∃q∈w.calls,m.to=10+q.aq/\q.num=m.call/\(m.yes=true->∃v,m.an=[v]/\v.key=m.key/\cF w q.aq.toNat v/\(dX m.ar=true->ck v.ar (bL q.ctx m.key)=false)/\(dX m.ar=false->v.ar=m.ar))/\
  (m.yes=false->dX m.ar=true/\bL q.ctx m.key=fK)
 k5:m.kind=5->∃v,m.an=[v]/\cF w (m.aU/2).toNat v/\bP v.ar.site=m.aU/2
 k6:m.kind=6->∃v,v.bh=⟨m.key,m.ar⟩/\mI w (m.aU/2).toNat v
 k8:m.kind=8->∃v,v.bh=⟨m.key,m.ar⟩/\cF w (m.aU/2).toNat v
 k9:m.kind=9->m.aU.toNat<4/\(m.bf<=ep w (cv m.aU.toNat) m.slot.toNat\/yM (sv w m.aU.toNat) m)
 kV:m.kind=10->m.aU.toNat<4/\m.bf<=ep w m.aU.toNat m.slot.toNat
def R9 {w:aI} {m:az} (hk:m.kind=2) (h:∃v,cF w (m.to-10).toNat v/\v.aq=m.to-10/\v.call=m.call/\v.key=m.key/\v.ar=m.ar):eU w m:=by
 constructor<;>intro e<;>first|exact h|(rw[hk] at e;exact absurd e aM)
def Sa {w:aI} {m:az} (hk:m.kind=4) (h:∃q∈w.calls,m.to=10+q.aq/\q.num=m.call/\(m.yes=true->∃v,m.an=[v]/\v.key=m.key/\cF w q.aq.toNat v/\(dX m.ar=true->ck v.ar (bL q.ctx m.key)=false)/\(dX m.ar=false->v.ar=m.ar))/\(m.yes=false->dX m.ar=true/\bL q.ctx m.key=fK)):eU w m:=by
 constructor<;>intro e<;>first|exact h|(rw[hk] at e;exact absurd e aM)
def Sb {w:aI} {m:az} (hk:m.kind=6) (h:∃v:aE,v.bh=⟨m.key,m.ar⟩/\mI w (m.aU/2).toNat v):eU w m:=by
 constructor<;>intro e<;>first|exact h|(rw[hk] at e;exact absurd e aM)
def ab6 {w:aI} {m:az} (hk:m.kind=7):eU w m:=by
 constructor<;>intro e<;>(rw[hk] at e;exact absurd e aM)
def ab7 {w:aI} {m:az} (hk:m.kind=8) (h:∃v:aE,v.bh=⟨m.key,m.ar⟩/\cF w (m.aU/2).toNat v):eU w m:=by
 constructor<;>intro e<;>first|exact h|(rw[hk] at e;exact absurd e aM)
def ab8 {w:aI} {m:az} (hk:m.kind=9) (h:m.aU.toNat<4/\(m.bf<=ep w (cv m.aU.toNat) m.slot.toNat\/yM (sv w m.aU.toNat) m)):eU w m:=by
 constructor<;>intro e<;>first|exact h|(rw[hk] at e;exact absurd e aM)
def ab9 {w:aI} {m:az} (hk:m.kind=10) (h:m.aU.toNat<4/\m.bf<=ep w m.aU.toNat m.slot.toNat):eU w m:=by
 constructor<;>intro e<;>first|exact h|(rw[hk] at e;exact absurd e aM)
def Sc {w:aI} (h:cy w) {i j:Nat} (jA:i<j) (hj:j<w.calls.length) (hc:(ab w.calls i).aq=(ab w.calls j).aq):(ab w.calls i).num<(ab w.calls j).num:=by
 have hh:=(tY.1 h.calls).2;have h1:=(hh i om).2.2.1;have h2:=(hh j hj).2.2.1;rw[h1,h2,rW hj,hc];simp only[beq_self_eq_true,if_true];have:=YB w.calls (a:=i+1) (b:=j) om (ab w.calls j).aq;omega
def Jf {w:aI} (h:cy w) {q p:Call} (hq:q∈w.calls) (hp:p∈w.calls) (hc:q.aq=p.aq) (hn:q.num=p.num):q=p:=by
 obtain⟨i,hi,rfl⟩:=g7 hq;obtain⟨j,hj,rfl⟩:=g7 hp;rcases Nat.lt_trichotomy i j with bK|he|bK
 .have:=Sc h bK hj hc;omega
 .rw[he]
 have:=Sc h bK hi hc.symm;omega
def aca {s:Server} {key aq call:Int} (h:j3 s key aq call=none) {v:aE} (hv:v∈s.an):oZ s key aq call v=false:=by
 unfold j3 at h;rw[List.find?_eq_none] at h;simpa using h v hv
def Jg {w:aI} (h:cy w) {i j:Nat} (hw:gP (ab w.calls i)=true) (jA:i<j) (hj:j<w.calls.length):(ab w.calls j).aq≠(ab w.calls i).aq:=λe=>by
 have:=((tY.1 h.calls).2 j hj).2.2.2 i jA;obtain⟨h1,h2⟩:=sa hw;unfold lM at this;rw[e,h1,h2] at this;simp at this
def Jh {w:aI} (h:cy w) {q:Call} (hq:q∈w.calls):q.aq.toNat<2/\((q.aq.toNat:Nat):Int)=q.aq:=by
 obtain⟨i,hi,rfl⟩:=g7 hq;have:=sd.1 (h.call hi).aq;omega
def acb {w:aI} {m:az} (hk:m.kind=1) (h:∃q∈w.calls,m.aU=10+q.aq/\q.num=m.call/\m.to/2=q.aq/\q.kind=1/\ab q.keys 0=m.key/\q.val=m.val/\q.ctx=m.aR):eU w m:=by
 constructor<;>intro e<;>first|exact h|(rw[hk] at e;exact absurd e aM)
def Sd {w:aI} {m:az} (hk:m.kind=3) (h:∃q∈w.calls,m.aU=10+q.aq/\q.num=m.call/\m.to/2=q.aq):eU w m:=by
 constructor<;>intro e<;>first|exact h|(rw[hk] at e;exact absurd e aM)
def xo {q:Call} (h:iQ q=true) (hk:q.kind=1):0<q.keys.length:=by
 unfold iQ at h;rw[Bool.and_eq_true] at h;have:=h.2;simp[hk] at this;omega
def bH.xg {s:Server} (h:bH s) (hp:0<=eN s):bH (mK s (eN s).toNat):=by
 obtain⟨hl,p6,hg⟩:=zb hp;have hm:=bB hl;have al:=h.ok.xg hp;refine⟨h.site,h.aF,al.an,al.waits,h.aD,h.bj,h.up,h.bD,λv hv=>?_,λv hv=>h.pV v (BF hv),λv hv=>h.pW v (BF hv),λv hv=>pT (al.apart v hv),λd hd=>PL (h.pf d hd)⟩;rcases iL.1 hv with rfl|hv
 .exact h.pV _ hm
 exact h.here v hv
def bH.ka:∀(n:Nat) {s:Server},bH s->bH (ka n s)
 |0,_,h=>h
 |n+1,s,h=>by
  unfold Go.Proofs.YtdanidpleofjgaaGreat.ka;split
  .exact h
  exact bH.ka n (h.xg om)
def bH.IS {s:Server} (h:bH s):bH (iX s):=bH.ka _ h
def bH.settle {s:Server} (h:bH s):bH (fQ s):=h.IS.hO
def abz {s:Server} {m:az} (h:bH s) (hm:bM m=true):bH (im s m).1:=by
 unfold im;split
 .rename_i hc;simp only[Bool.and_eq_true,decide_eq_true_eq] at hc;split
  .exact h
  split
  .rename_i hk;simp only[Bool.and_eq_true,decide_eq_true_eq] at hk;obtain⟨a1,a2,a3⟩:=Ex h hm hk.1.1;exact(h.put hk.1.2 (by rw[a1]) (by show dU s m.key≠0;rw[(wM hc.2).2];omega) hk.2).settle
  exact h
 exact h
def abA {s:Server} {m:az} (h:bH s):bH (iq s m).1:=by
 unfold iq;split
 .rename_i hr;obtain⟨_,_,_,ho,hf⟩:=Bd hr;dsimp only;split
  .rename_i hn;split
   .rename_i hc;exact(h.wait hc hn.1 hf (by rw[(wM ho).2];omega)).settle
   exact h
  exact h.settle
 exact h
def abB {s:Server} {m:az} (h:bH s) (hu:s.up=true):bH (mW s m):=by
 unfold mW;split
 .rename_i hc;simp only[Bool.and_eq_true,decide_eq_true_eq] at hc;obtain⟨v,hv,hd⟩:=Q9.1 hc.1.2;exact(h.QR (Eh (jv (gy h.waits v hv)).2.2 _ hd) hc.2 hu).settle
 exact h
def abC {s:Server} {m:az} (h:bH s) (hm:bM m=true):bH (mX s m):=by
 unfold mX;split
 .exact(Ra h hm).settle
 exact h
def abD {s:Server} {m:az} (h:bH s):bH (ir s m).1:=by
 unfold ir;split
 .split
  .exact h
  split
  .rename_i hc;simp only[Bool.and_eq_true] at hc;exact(jx.1 hc.2).settle
  exact h
 exact h
def Ja {s:Server} {m:az} (h:bH s) (hm:bM m=true) (hu:s.up=true):bH (eH s m).1:=by
 unfold eH;repeat' split
 .exact abz h hm
 .exact h
 .exact abA h
 .exact Q8 h
 .exact h
 .exact abB h hu
 .exact abD h
 .exact abC h hm
 exact h
def abE {s:Server} {m:az} (h:bH s):bH (fH s m).1:=by
 unfold fH;split
 .rename_i hc;simp only[Bool.and_eq_true] at hc;exact Ja h hc.1.2 hc.1.1
 exact h
def abF {s u u2:Server} {g2:Bool} {i:Nat} (hu:eM u) (eT:iX u=iX s) (EG:u.bj=s.bj) (hf:g2=false->u=u2/\i<=u.waits.length/\(u.an.length<80->∀j,j<i->kt u (ab u.waits j)=false))
 (ht:g2=true->0<=eN u/\u2=mK u (eN u).toNat) (hb:u2.waits.length<=i\/g2=true):eM u2/\iX u2=iX s/\(g2=false->eN u2<0)/\u2.bj=s.bj:=by
 cases g2 with
 |true=>
  obtain⟨h1,rfl⟩:=ht rfl
  exact⟨hu.xg h1,by rw[<-Qj h1,eT],(λe=>by cases e),EG⟩
 |false=>
  obtain⟨rfl,h1,h2⟩:=hf rfl
  have h3:u.waits.length<=i:=hb.resolve_right bt
  exact⟨hu,eT,λ_=>ZI λp6 j hj=>h2 p6 j om,EG⟩
def zD (s:Server) (h:eM s):
 Fn prog 224 [s.av] ((fQ s).av):=by
 refine Fn.go 91 func224 ntmps224 (λW I a U=>?_);refine sr<|U.box rfl .tt λb1 I a w U=>U.alloc rfl cq dz λb2 I a w U=>?_;refine ax λI a w U=>?_;refine St.lo (σ:=Bool×Server) (run 5 3 (run 55 10 [])) ⟨λ⟨g,u⟩=>[(3,AV.bool g)],λ⟨g,u⟩=>[Own.box b1 43 u.cells,Own.box b2 43 [AV.val (.int .i64 0),AV.val (.bool false),AV.rows 2 [],AV.rows 7 [],AV.rows 7 [],AV.rows 3 [],AV.rows 3 []]],λ⟨g,u⟩=>eM u/\iX u=iX s/\(g=false->eN u<0)/\u.bj=s.bj⟩ (λ⟨g,u⟩=>2*u.waits.length+g.toNat) (true,s) U ?aL ?bG;case aL=>exact⟨h,rfl,(λe=>by cases e),rfl⟩
 rintro⟨g,u⟩ I a w al U;obtain⟨hu,eT,abG,EG⟩:=al;have kU:=gz hu.waits;have lB:=hu.bj;dsimp only at U;refine ax λI a w U=>?_;refine U.cd (λae=>?_) λae=>?_
 .refine aB λI a w U=>?_;refine St.lo (σ:=Nat×Bool×Server) (run 5 3 (run 54 11 [])) ⟨λ⟨i,g2,u2⟩=>[(4,AV.int i),(3,AV.bool g2)],λ⟨i,g2,u2⟩=>[Own.box b1 43 u2.cells,Own.box b2 43 [AV.val (.int .i64 0),AV.val (.bool false),AV.rows 2 [],AV.rows 7 [],AV.rows 7 [],AV.rows 3 [],AV.rows 3 []]],λ⟨i,g2,u2⟩=>(g2=false->u=u2/\i<=u.waits.length/\(u.an.length<80->∀j,j<i->kt u (ab u.waits j)=false))/\(g2=true->0<=eN u/\u2=mK u (eN u).toNat)⟩ (λ⟨i,g2,u2⟩=>if g2 then 0 else u.waits.length-i+1) (0,false,u) U ?ei ?jK;case ei=>exact⟨λ_=>⟨rfl,Nat.zero_le _,λ_ j hj=>by omega⟩,λe=>by cases e⟩
  rintro⟨i,g2,u2⟩ I a w al U;obtain⟨hf,ht⟩:=al;dsimp only at U;refine mA λI a w U=>?_;refine cz (λah=>?_) λah=>?_
  .obtain⟨hi,m0⟩:=ah;obtain⟨rfl,jE,km⟩:=hf m0;subst m0;refine aV λI a w U=>?_;refine U.o ((by first|exact dW ea bU .tt .tt (λ_=>by exact hi)|exact fe ea bU .tt .tt (λ_=>by exact hi)|exact fm ea bU .tt .tt (λ_=>by exact hi))) λU=>?_;refine U.o .la λU=>?_;refine U.alloc rfl bU dR λb5 I a w U=>?_;refine ax λI a w U=>?_;obtain⟨I,U⟩:=U.fb 2 5;refine U.dk ?_;refine dM ?_;refine .o (.c1 (uJ _)) ?_;refine .o ((by first|exact dW fP ew .tt .tt (λ_=>by have:=qI (qH (uP hu.waits hi));have:=hu.aF;omega)|exact fe fP ew .tt .tt (λ_=>by have:=qI (qH (uP hu.waits hi));have:=hu.aF;omega)|exact fm fP ew .tt .tt (λ_=>by have:=qI (qH (uP hu.waits hi));have:=hu.aF;omega))) ?_;refine gZ ?_;refine .q .F (.cl (Zj u (ab u.waits i) hu.an)) ?_;refine cj ?_;refine .nil ?_;intro I a w U;refine bk ?_;refine U.cd (λaj=>?_) λaj=>?_
   .rw[Qz] at aj;replace aj:=nt aj;refine zt ?_;refine aN λI a w U=>?_;have U:=U.drop 2;exact U.ag (i+1,false,u) (⟨λ_=>⟨rfl,hi,λp6 j hj=>by rcases Nat.lt_succ_iff_lt_or_eq.1 hj with h|h;exact km p6 j h;rw[h];exact aj⟩,λe=>by cases e⟩) (hμ:=by simp;try omega)
   rw[Qz] at aj;replace aj:=nf aj;refine aV λI a w U=>?_;refine U.o (.cl (Ew u.an (ab u.waits i) hu.an)) λU=>?_;refine gY λI a w U=>?_;refine U.cd (λaJ=>?_) λaJ=>?_
   .refine aN λI a w U=>?_;have U:=U.gF;refine U.dh (rp 2 (([0],none)::rp 2 (([3],some (3,[57]))::([],none)::([0],none)::rp 3 [([3],some (3,[])),([],none),([0],some (0,[]))]))) aG aG rfl ?_;refine .o (tb ea bU) ?_;refine aX ?_;refine .r [0] (.lb 0) ?_;refine aX ?_;refine .o (Ak ea bU .r .tt (λ_=>by simp;omega)) ?_;refine aK.AF 3 rfl rfl ea bU rfl .tt .r (by have:=gz hu.waits;simp;omega) ?_;refine aX ?_;refine .r [0] (.lb 0) ?_;refine cj ?_;refine .o (Aj ea bU .r .tt (λ_=>by simp;omega)) ?_;refine aK.C4 3 rfl rfl ea bU rfl .r (by have:=gz hu.waits;simp;omega) ?_;refine aX ?_;refine aK.cX (x:=AV.any) 0 (λF W0 I0 I a w Q U kk=>U.s1 0 λU=>kk _ _ _ U) ?_;refine .nil ?_;intro I a w U;rw[<-List.map_take,<-List.map_drop,<-List.map_append,if_pos aJ,show((i:Int)+1).toNat=i+1 by omega,Int.toNat_natCast] at U;change St _ _ [Own.box b1 43 (mK u i).cells,Own.box b2 43 [AV.val (.int .i64 0),AV.val (.bool false),AV.rows 2 [],AV.rows 7 [],AV.rows 7 [],AV.rows 3 [],AV.rows 3 []],Own.gone,Own.gone] _ _ _ at U;refine aY λI a w U=>?_;have U:=U.drop 2;exact U.ag (i+1,true,mK u i) (⟨(λe=>by cases e),λ_=>by have e:=ZH (rY aJ).2.2 hi (km (rY aJ).2.2) aj;rw[e];exact⟨by omega,by simp⟩⟩) (hμ:=by simp;try omega)
   refine aN λI a w U=>?_;have U:=U.drop 2;exact U.ag (i+1,false,u) (⟨λ_=>⟨rfl,hi,λp6=>by have:=ZR hu hi aJ;omega⟩,λe=>by cases e⟩) (hμ:=by simp;try omega)
  rw[Nat.not_lt] at ah;refine zt ?_;exact U.ag (g2,u2) (abF hu eT EG hf ht ah) (hμ:=by subst ae;exact ZQ hf ht)
 refine zt ?_;refine U.l0 λb65 I a w U=>?_;refine aB λI a w U=>?_;refine St.lo (σ:=Nat×Value) (run 2 8 (run 22 66 [])) ⟨λ⟨k,v⟩=>[(9,AV.int k),(8,AV.val v)],λ⟨k,v⟩=>[Own.box b1 43 u.cells,Own.box b2 43 [AV.val (.int .i64 0),AV.val (.bool false),AV.rows 2 [],AV.rows 7 [],AV.rows 7 [],AV.rows 3 [],AV.rows 3 []],Own.row v 115 3 (((u.bj.take k).filter (iT u)).map ao.cells)],λ⟨k,v⟩=>k<=u.bj.length⟩ (λ⟨k,v⟩=>u.bj.length-k) (0,.slice (some ⟨b65,0,none⟩) 0 0) U ?iN ?pj;case iN=>exact Nat.zero_le _
 rintro⟨k,v⟩ I a w al U;have hk:k<=u.bj.length:=al;dsimp only at U;refine ct λI a w U=>?_;refine cz (λaP=>?_) λaP=>?_
 .refine zt ?_;refine U.dk ?_;refine gZ ?_;refine .o (.c2 (PH ..))<|.nil ?_;intro I a w U;refine bk ?_;refine cz (λbn=>?_) λbn=>?_
  .refine dI λI a w U=>?_;refine U.o (.li [(ab u.bj k).cells] fE (.u .nil)) λU=>?_;refine U.append 2 rfl du cE rfl .tt .r rfl (by have h1:=rX (iT u) u.bj k;have h2:=hu.bj;simp;omega) λJb a w U=>?_;rw[bV,<-nu aP bn] at U;refine aY λI a w U=>?_;exact U.ag (k+1,Jb) (aP)
  refine aN λI a w U=>?_;rw[show(u.bj.take k).filter (iT u)=(u.bj.take (k+1)).filter (iT u) from(nv aP bn).symm] at U;exact U.ag (k+1,v) (aP)
 refine zt ?_;refine U.m λU=>?_;obtain⟨I,U⟩:=U.fr 2 88;refine aY λI a w U=>?_;have e1:fQ s=DU u:=by unfold fQ;rw[<-eT,Rp (abG ae)]
 have e2:u.bj.take k=u.bj:=List.take_of_length_le om;refine U.ret rfl (.cons (.sx 1) ba.nil) ?_;exact(by rw[e1,e2];rfl)
set_option maxHeartbeats 8000000 in
def zE (s:Server) (al:eM s) (ho:s.aD.length<=80):
 Fn prog 249 [s.av] ((fQ s).av):=by
 refine Fn.go 40 func249 ntmps249 (λW I a U=>?_);have kW:=al;have gj:=al.small om;refine bA λI a w U=>?_;refine U.alloc rfl cq dz λb2 I a w U=>?_;refine bA λI a w U=>?_;refine U.bq [] (Bx s gj) (ai .tt aC) rfl aM rfl λ⟨vS,vV,vW,vO,vK⟩ I a w uY U=>?_;refine U.alloc rfl cq dz λb3 I a w U=>?_;refine U.sb 6 λU=>?_;refine wpList_nil ?_;obtain⟨I,U⟩:=U.fu 1 2 6;obtain⟨I,U⟩:=U.fu 2 3 6;obtain⟨I,U⟩:=U.fu 4 5 6;refine bk ?_;refine St.cut (σ:=Server×Value) (4::(run 26 7 [])) ⟨λ⟨x,u⟩=>[],λ⟨x,u⟩=>[Own.box b2 43 [AV.val (.int .i64 0),AV.val (.bool false),AV.rows 2 [],AV.rows 7 [],AV.rows 7 [],AV.rows 3 [],AV.rows 3 []],Own.gone,Own.gone,Own.row u 62 7 (x.waits.map aE.cells),Own.gone,Own.row vK 115 3 (x.bj.map ao.cells),Own.box b3 43 [AV.int x.site,AV.bool x.up,s7 x.aF,bQ x.an,AV.val u,bw x.aD,AV.val vK]],λ⟨x,u⟩=>eM x/\iX x=iX s/\x.aD=s.aD/\eN x<0⟩ U ?xp ?Jc;case xp=>
  refine wp_block ?_;refine St.lo (σ:=Server×Value) (4::(run 26 7 [])) ⟨λ⟨x,u⟩=>[],λ⟨x,u⟩=>[Own.box b2 43 [AV.val (.int .i64 0),AV.val (.bool false),AV.rows 2 [],AV.rows 7 [],AV.rows 7 [],AV.rows 3 [],AV.rows 3 []],Own.gone,Own.gone,Own.row u 62 7 (x.waits.map aE.cells),Own.gone,Own.row vK 115 3 (x.bj.map ao.cells),Own.box b3 43 [AV.int x.site,AV.bool x.up,s7 x.aF,bQ x.an,AV.val u,bw x.aD,AV.val vK]],λ⟨x,u⟩=>eM x/\iX x=iX s/\x.aD=s.aD⟩ (λ⟨x,u⟩=>x.waits.length) (s,vW) U ?aL ?bG;case aL=>exact⟨al,rfl,rfl⟩
  rintro⟨x,u⟩ I a w al U;obtain⟨hx,mr,vg⟩:=al;dsimp only at U;have su:=ph hx.an;have hwd:=ph hx.waits;have pz:=gz hx.an;have kU:=gz hx.waits;refine aY λI a w U=>?_;refine cz (λae=>?_) λae=>?_
  .refine aH λI a w U=>?_;refine U.o (oJ (ai .tt aC)) λU=>?_;refine U.o (Dc (xs:=[AV.val u,AV.fn 262 [AV.val (.pointer (some ⟨b3,0,none⟩))]]) (rP:=[bQ x.waits,AV.fn 262 [AV.ptr x.cells]]) (Hn x.waits (kt x) _ (λv hv=>Fn.val (aa7 x v hx.aF (qH (gy hx.waits v hv))))) (ai .tt (ai .tt aC)) (λc I a w U=>by obtain⟨I,U,hf⟩:=U.rI 3 rfl;have U:=U.mo (q:=4) 6 rfl rfl hf;have U:=U.vP (t:=0) rfl hf;obtain⟨I,U⟩:=U.fu 5 6 6;obtain⟨I,U⟩:=U.fc 6 1 0;exact⟨_,_,_,U,rfl,rfl,trivial⟩)) λU=>?_;refine ax λI a w U=>?_;have hid:eN x=dm (kt x) x.waits:=ZS om;refine aB λI a w U=>?_;refine cz (λah=>?_) λah=>?_
   .refine zt ?_;exact U.me (x,u) (by first|exact⟨hx,mr,vg,QB om⟩|exact⟨hx,mr,vg,by omega⟩)
   have oR:0<=eN x:=by omega
   obtain⟨yl,p6,kG⟩:=zb oR;have RW:=hx.xg oR;have eT:=Qj oR;obtain⟨n,hn⟩:∃n:Nat,(eN x).toNat=n:=⟨_,rfl⟩;rw[hn] at yl RW eT kG;rw[show dm (kt x) x.waits=(n:Int) by omega] at U;refine zt ?_;obtain⟨bu,cu,rfl⟩:=U.ia 3 rfl iv;refine U.dt 9 ?_;simp only[TD];refine fD ?_;refine .o (gq ea bU .tt .tt (λ_=>by rw[List.length_map];omega)) ?_;refine .o (rG 3 bU .tt rfl (λ_=>by exact ey yl) rfl) ?_;refine .o (cr (D8 x.an (ab x.waits n) om (λy hy=>by have:=su y hy;omega) (by have:=hwd _ (bB yl);omega)) (ai .r (ai (.t rfl) aC))) ?_;refine aX ?_;refine .nil ?_;intro I a w U;refine U.s1 6 λU=>?_;refine bO λI a w U=>?_;refine U.bq [3] (Z8 _ (x.waits.map aE.cells) n (by rw[List.length_map];exact yl) iv (λr hr=>by obtain⟨y,_,rfl⟩:=List.mem_map.1 hr;rfl)) (ai .r (ai .tt (ai .tt aC))) rfl aM rfl λu2 I a w EH U=>?_;rw[<-List.map_take,<-List.map_drop,<-List.map_append] at U;refine U.o .fv λU=>?_;try have amr:=U.dZ 3 rfl
   refine U.s1 6 λU=>?_;refine zt ?_;exact U.ag (mK x n,u2) (⟨RW,eT.symm.trans mr,vg⟩) (hμ:=by show(mK x n).waits.length<x.waits.length;rw[HL yl];omega)
  refine zt ?_;exact U.me (x,u) (by first|exact⟨hx,mr,vg,QB om⟩|exact⟨hx,mr,vg,by omega⟩)
 rintro⟨x,u⟩ I a w al U;obtain⟨hx,mr,vg,Er⟩:=al;dsimp only at U;have eT:=aaQ mr Er;have abJ:qO {x with bj:=x.bj.filter λd=>!(!iT x d)}:=by rw[<-eT];exact(kW.settle).small (by rw[(ze s).2.2.2];omega)
 refine wp_seq ?_;obtain⟨I,U⟩:=U.fu 3 4 6;refine aH λI a w U=>?_;refine U.o (oJ (ai .tt aC)) λU=>?_;refine U.bq [5,6] (IB vK x.bj (λd=>!iT x d) _ (Own.box b3 43 [AV.int x.site,AV.bool x.up,s7 x.aF,bQ x.an,bQ x.waits,bw x.aD,AV.val vK]) (by have:=hx.bj;omega) (λd hd=>gG.val (aae b3 x (AV.val vK) d))) (ai .r (ai .tt aC)) rfl aM rfl λBR I a w nE U=>?_;refine U.o .fv λU=>?_;try have ams:=U.dZ 5 rfl
 refine U.s1 6 λU=>?_;refine nn<|wp_seq ?_;obtain⟨I,U⟩:=U.fu 5 6 6;refine bA λI a w U=>?_;refine U.o (.c1 (tN {x with bj:=x.bj.filter λd=>!(!iT x d)} abJ)) λU=>?_;refine ax λI a w U=>?_;refine U.ret rfl (.cons (.sx 0) ba.nil) ?_;exact(by rw[eT];rfl)
def abK (s:Server) (m:az) (hg:bH s) (hm:bM m=true) (ho:(cO m.aU&&(bP m.aU !=bP s.site))=true):
 Fn prog 243 [s.av,m.av] (AV.db [(iq s m).1.av,cQ (iq s m).2]):=by
 refine Fn.go 76 func243 ntmps243 (λW I a U=>?_);have al:=jx.2 hg;have cV:=hg.ok;have gj:=hg.small;have kU:=nx hm;have lens:m.aR.length<=9223372036854775807/\m.an.length<=9223372036854775807/\m.waits.length<=9223372036854775807/\m.aD.length<=9223372036854775807:=⟨U.ln 1 9,U.ln 1 12,U.ln 1 13,U.ln 1 14⟩;have h3:=hg.aF;refine aH λI a w U=>?_;refine U.alloc rfl cq dz λb4 I a w U=>?_;refine ax λI a w U=>?_;refine U.dk ?_;refine mB ?_;refine .q .F (dW (i:=0) ea bU .ag .c (λhg=>by simp at hg;omega)) ?_;refine cj ?_;refine .q .F (.cl (yS s (ab m.an 0).key h3)) ?_;refine gZ ?_;refine .q .F (dW (i:=0) ea bU .ag .c (λhg=>by simp at hg;omega)) ?_;refine aX ?_;refine .q .F (.cl (Hx ..)) ?_;refine cj ?_;refine .nil ?_;intro I a w U;refine bk ?_;refine U.cd (λae=>?_) λae=>?_
 .rw[Po ho] at ae;replace ae:=nt ae;refine aN λI a w U=>?_;refine U.ret rfl (.cons (.sx 0) (.cons (.nil (sz:=15) rfl) ba.nil)) ?_;exact(by unfold iq;rw[ae];rfl)
 rw[Po ho] at ae;replace ae:=nf ae;refine aH λI a w U=>?_;refine U.o (dW (i:=0) ea bU .tt .c (λ_=>by have:=(Bd ae).2.2.1;omega)) λU=>?_;refine U.o .la λU=>?_;refine U.alloc rfl bU dR λb6 I a w U=>?_;refine ax λI a w U=>?_;obtain⟨I,U⟩:=U.fb 1 6;refine U.o .la λU=>?_;refine U.o (.c1 (tN s gj)) λU=>U.alloc rfl cq dz λb7 I a w U=>?_;refine ax λI a w U=>?_;refine U.dk ?_;refine dJ ?_;refine .o (.c1 (nq ..)) ?_;refine .o (.cl (qV ..)) ?_;refine fD ?_;refine .q .T (.cl (nq ..)) ?_;refine .q .T (.cl (qV ..)) ?_;refine cj ?_;refine .nil ?_;intro I a w U;refine bk ?_;refine oV (λah=>?_) λah=>?_
 .refine aV λI a w U=>?_;refine U.o (.cl (Rc _ _ cV.waits)) λU=>?_;refine jf λI a w U=>?_;refine cz (λaj=>?_) λaj=>?_
  .refine aN λI a w U=>?_;refine U.ret rfl (.cons (.sx 0) (.cons (.nil (sz:=15) rfl) ba.nil)) ?_;exact(by unfold iq;rw[ae,if_pos rfl];dsimp only;rw[if_pos ah,aj];rfl)
  refine aN λI a w U=>?_;rw[if_pos aj] at U;refine U.dt 10 ?_;simp only[TD];refine aX ?_;refine .o (.c1 (zE {s with waits:=eE s.waits (ab m.an 0)} (cV.It aj ah.1) (iR hg.aD))) ?_;refine gZ ?_;refine .o (.bd dN (.k (.k (.t aW.nil)))) ?_;refine .o (.c3 (tP s m ⟨6,0,0,0,(ab m.an 0).key,(ab m.an 0).ar,0,false,[],0,0,[],[],[]⟩ (wR ..)))<|.nil ?_;intro I a w U;refine aB λI a w U=>?_;refine U.ret rfl (.cons (.sx 0) (.cons .x ba.nil)) ?_;exact(by unfold iq;rw[ae,if_pos rfl];dsimp only;rw[if_pos ah,aj];rfl)
 rw[<-Bool.not_eq_true] at ah;simp only[B] at ah;refine zt ?_;refine U.dt 10 ?_;simp only[TD];refine aX ?_;refine .o (.c1 (zE s cV (iR hg.aD))) ?_;refine gZ ?_;refine .o (.bd dN (.k (.k (.t aW.nil)))) ?_;refine .o (.c3 (tP s m ⟨6,0,0,0,(ab m.an 0).key,(ab m.an 0).ar,0,false,[],0,0,[],[],[]⟩ (wR ..)))<|.nil ?_;intro I a w U;refine aB λI a w U=>?_;refine U.ret rfl (.cons (.sx 0) (.cons .x ba.nil)) ?_;exact(by unfold iq;rw[ae,if_pos rfl];dsimp only;rw[if_neg ah];rfl)
def abL (s:Server) (m:az) (hg:bH s) (hm:bM m=true) (hf:((m.aU==fj s.site)&&decide (1<=m.bf))=true):
 Fn prog 250 [s.av,m.av] (AV.db [(ir s m).1.av,cQ (ir s m).2]):=by
 refine Fn.go 106 func250 ntmps250 (λW I a U=>?_);have al:=jx.2 hg;have cV:=hg.ok;have gj:=hg.small;have kU:=nx hm;have jM:=qB hm;have lens:m.aR.length<=9223372036854775807/\m.an.length<=9223372036854775807/\m.waits.length<=9223372036854775807/\m.aD.length<=9223372036854775807:=⟨U.ln 1 9,U.ln 1 12,U.ln 1 13,U.ln 1 14⟩;have h3:=hg.aF;have oK:=cV.drop m.slot;have hdo:=iR (hg.eb m.slot).aD;have Nn:=iR kU.2.2.1;have hdv:=gz oK.an;have hdw:=gz oK.waits;have e9:∀x,x=cG.cells ⟨m.bf,1⟩->(List.map cG.cells s.aF).set m.slot.toNat x=List.map cG.cells ((eb s m.slot).aF.set m.slot.toNat ⟨m.bf,1⟩):=λx h=>by rw[h];exact List.map_set.symm
 refine aH λI a w U=>?_;refine U.alloc rfl cq dz λb4 I a w U=>?_;refine fo λI a w U=>?_;refine U.o (.bd dN (.k (.k (.k aW.nil)))) λU=>?_;refine U.o (.c3 (tP s m ⟨10,0,0,0,0,⟨0,0⟩,0,false,[],m.slot,m.bf,[],[],[]⟩ (wR ..))) λU=>?_;refine aB λI a w U=>?_;refine cz (λae=>?_) λae=>?_
 .refine aY λI a w U=>?_;refine U.ret rfl (.cons (.sx 0) (.cons .x ba.nil)) ?_;exact(by rw[QC hf om];rfl)
 refine aV λI a w U=>?_;refine U.bq [] (Re s m.slot gj) (ai .tt (ai .tt aC)) rfl aM rfl λvS I a w BS U=>?_;refine U.alloc rfl cq dz λb7 I a w U=>?_;refine th λI a w U=>?_;refine U.o (.cl (Rt (eb s m.slot).an m.an oK.an kU.1)) λU=>?_;refine wj λI a w U=>?_;refine U.o (.cl (Rt (eb s m.slot).waits m.waits oK.waits kU.2.1)) λU=>?_;refine mA λI a w U=>?_;refine St.lo (σ:=Nat) (14::(run 10 65 [])) ⟨λk=>[(65,AV.int k)],λk=>[Own.box b4 43 [AV.val (.int .i64 0),AV.val (.bool false),AV.rows 2 [],AV.rows 7 [],AV.rows 7 [],AV.rows 3 [],AV.rows 3 []],Own.row vS 46 2 (s.aF.map cG.cells),Own.box b7 43 [AV.int s.site,AV.bool s.up,AV.val vS,bQ (eb s m.slot).an,bQ (eb s m.slot).waits,bw ((m.aD.take k).foldl eF (eb s m.slot).aD),bw s.bj]],λk=>k<=m.aD.length⟩ (λk=>m.aD.length-k) 0 U ?aL ?bG;case aL=>exact Nat.zero_le _
 rintro k I a w al U;have hk:k<=m.aD.length:=al;dsimp only at U;refine ax λI a w U=>?_;refine cz (λah=>?_) λah=>?_
 .refine aH λI a w U=>?_;refine U.alloc rfl cE fh λtX I a w U=>?_;refine ax λI a w U=>?_;obtain⟨I,U⟩:=U.fb 3 14;refine aV λI a w U=>?_;refine U.o (cr (Ix ((m.aD.take k).foldl eF (eb s m.slot).aD) (ab m.aD k) (by have:=PT (eb s m.slot).aD m.aD k;omega)) (ai .r (ai (.t rfl) aC))) λU=>?_;refine aY λI a w U=>?_;have U:=U.drop 3;rw[<-QZ ah] at U;exact U.ag (k+1) (ah)
 refine zt ?_;refine gY λI a w U=>?_;obtain⟨bS,cS,rfl⟩:=U.ia 1 rfl iv;refine dI λI a w U=>?_;refine U.o (.bd mC (.k (.k aW.nil))) λU=>?_;refine U.o (gq fP ew .tt .tt (λ_=>by simp only[List.length_map];omega)) λU=>?_;refine U.jZ 1 ew .tt .tt rfl (by exact ey om) rfl rfl λa w U=>?_;refine zt ?_;rw[e9] at U;rotate_left
 .rfl
 obtain⟨I,U⟩:=U.fu 1 2 2;rw[show m.aD.take k=m.aD from List.take_of_length_le om] at U;refine Dd λI a w U=>?_;refine U.q .F (.cl (xh (kr s m))) λU=>?_;refine aB λI a w U=>?_;refine U.cd (λaj=>?_) λaj=>?_
 .rw[Rk] at aj;replace aj:=nt aj;refine aN λI a w U=>?_;refine U.ret rfl (.cons (.sx 0) (.cons (.nil (sz:=15) rfl) ba.nil)) ?_;exact(by rw[Ip hf om aj];rfl)
 rw[Rk] at aj;replace aj:=nf aj;refine bA λI a w U=>?_;refine U.o (cr (zE (kr s m) (jx.1 (by simp only[Bool.and_eq_true] at aj;exact aj.2)).ok (iR (jx.1 (by simp only[Bool.and_eq_true] at aj;exact aj.2)).aD)) (ai (.t rfl) aC)) λU=>?_;refine aN λI a w U=>?_;refine U.ret rfl (.cons (.sx 0) (.cons .x ba.nil)) ?_;exact(by rw[QD hf om aj];rfl)
def abP {s:Server} {t:Int} {v:aE} (h:v.aR.length<=1048576):jU {cn with kind:=5,aU:=s.site,to:=t,an:=[v]}:=⟨Nat.zero_le _,⟨by simp,λx hx=>by obtain rfl:=List.mem_singleton.1 hx;exact h⟩,⟨Nat.zero_le _,λ_ h=>by cases h⟩,Nat.zero_le _⟩
def pk (q:Call) (k:Nat):List az:=(((asks q).take k).map (jS q)).flatten
def abQ {a:Answer} (h:dF a=true):ck a.bm.ar fK=false:=by
 cases hy:a.yes
 .rw[yQ h hy];rfl
 have:=(y8 h hy).1;simp only[iP,Bool.and_eq_true] at this;have U:=this.2;simp[dr,aS,aE.bh] at U;rw[Bool.eq_false_iff];intro e;simp[ck,fK] at e;have h1:=of_decide_eq_true U.1.1;rcases e with e|⟨e,_⟩
 .have:=of_decide_eq_true e;omega
 omega
def abR {a:Answer} {s:cw} (h:dF a=true) (U:tD s):(!dX s&&np a s)=ck a.bm.ar s:=by
 rcases U with rfl|U
 .rw[abQ h];rfl
 rw[O5 h U];have:dX s=false:=by simp[dr,aS] at U;simp[dX];intro e;rw[e] at U;simp at U
 rw[this];rfl
def abS (q:Call) (n:Value) (key:Int):
 Fn prog 200 [q.yH n,AV.int key] (AV.int (cB q key)):=by
 refine Fn.go 9 func200 ntmps200 (λW I a U=>?_);refine bA λI a w U=>?_;refine U.o (yd .tt (by first|exact gn rfl|exact en|exact gC|exact gE)) λU=>?_;refine aV λI a w U=>?_;refine U.o (oJ (ai .tt aC)) λU=>?_;refine U.o (.cl (OG q.aA (tH key) _ (λv _=>Fn.val (Qm v key)))) λU=>?_;refine bc ?_;rfl
def abT {w:aI} {e:Ev} (h:¬e.kind=1) (hn:0<=cA w.calls e.aq) (h3:¬e.kind=3):iC w e=({w with au:=eB w.au (jH (ab w.calls (cA w.calls e.aq).toNat))},true):=by unfold iC;rw[if_neg h];dsimp only;rw[if_neg om,if_neg h3]
end Go.Proofs.YtdanidpleofjgaaGreat

/- Part 61: contracts of functions, plain facts. -/
import Derived.Test.YtdanidpleofjgaaGreatP59
set_option linter.all false
set_option maxRecDepth 100000
set_option maxHeartbeats 4000000
namespace Go.Proofs.YtdanidpleofjgaaGreat
open Go Go.RowKit Tryz
attribute [local irreducible] wpList Code.wp Ok
def Ul (w:aI) (e:Ev):((cT w e).1.aw=w.aw/\Hr w.calls (cT w e).1.calls)\/((cT w e).1.calls=w.calls/\∃i s,(cT w e).1.aw=w.aw.set i s):=by
 show _\/((cT w e).1.calls=w.calls/\_);have U:({w with time:=w.time+1}:aI).aw=w.aw:=rfl;have hc:({w with time:=w.time+1}:aI).calls=w.calls:=rfl;unfold cT;dsimp only;revert U hc;generalize ({w with time:=w.time+1}:aI)=x;intro U hc;rw[<-U,<-hc];clear U hc w;split
 .left;unfold iC;split
  .unfold kb;split
   .exact⟨rfl,.inr (.inl ⟨_,rfl⟩)⟩
   exact⟨rfl,.inl rfl⟩
  dsimp only;split
  .exact⟨rfl,.inl rfl⟩
  rename_i hn;obtain⟨a1,_,a3⟩:=qS (l:=x.calls) (aq:=e.aq) om;split
  .exact⟨rfl,.inr (.inr ⟨_,_,a1,a3,rfl⟩)⟩
  exact⟨rfl,.inl rfl⟩
 split
 .unfold iu;split
  .have hc:(if e.kind=5\/e.hO=0 then{x with au:=x.au.take e.word.toNat++x.au.drop (e.word.toNat+1)} else x).calls=x.calls:=by split<;>rfl
   have U:(if e.kind=5\/e.hO=0 then{x with au:=x.au.take e.word.toNat++x.au.drop (e.word.toNat+1)} else x).aw=x.aw:=by split<;>rfl
   dsimp only;revert hc U;generalize (if e.kind=5\/e.hO=0 then{x with au:=x.au.take e.word.toNat++x.au.drop (e.word.toNat+1)} else x)=y;intro hc U;split
   .exact .inl ⟨U,.inl hc⟩
   split
   .left;unfold lu;dsimp only;split
    .exact⟨U,.inl hc⟩
    rename_i hn;obtain⟨a1,_,a3⟩:=qS (l:=y.calls) (aq:=(ab x.au e.word.toNat).to-10) om;have:=hc;split
    .exact⟨U,.inr (.inr ⟨_,_,by rw[<-hc];exact a1,by rw[<-hc];exact a3,by rw[<-hc]⟩)⟩
    exact⟨U,.inr (.inr ⟨_,_,by rw[<-hc];exact a1,by rw[<-hc];exact a3,by rw[<-hc]⟩)⟩
   exact .inr ⟨hc,_,_,rfl⟩
  exact .inl ⟨rfl,.inl rfl⟩
 split
 .unfold fl;dsimp only;split
  .exact .inr ⟨rfl,_,_,rfl⟩
  split
  .exact .inr ⟨rfl,_,_,rfl⟩
  split
  .exact .inl ⟨rfl,.inl rfl⟩
  split
  .exact .inr ⟨rfl,_,_,rfl⟩
  exact .inl ⟨rfl,.inl rfl⟩
 exact .inl ⟨rfl,.inl rfl⟩
def jX {α:Type} [Inhabited α] [DecidableEq α] (l m:List α):Nat->Nat
 |0=>0
 |k+1=>jX l m k+if ab l k=ab m k then 0 else 1
def LP {α:Type} [Inhabited α] [DecidableEq α] {l m:List α} {k:Nat} (h:∀i,i<k->ab l i=ab m i):jX l m k=0:=by
 induction k with
 |zero=>rfl
 |succ k ih=>
  show jX l m k+_=0
  rw[ih λi hi=>h i om,if_pos (h k om)]
def LQ {α:Type} [Inhabited α] [DecidableEq α] {l m:List α} {i:Nat}:∀{k:Nat},(∀j,j<k->j≠i->ab l j=ab m j)->jX l m k<=1
 |0,_=>Nat.zero_le _
 |k+1,h=>by
  show jX l m k+_<=1;by_cases e:k=i
  .subst e;rw[LP λj hj=>h j om om];split<;>omega
  rw[if_pos (h k om e)];exact LQ λj hj aZ=>h j om aZ
def ajm {w:aI} {e:Ev} (h:fS w=true):jX (cI w e).1.aw w.aw (cI w e).1.aw.length+jX (cI w e).1.calls w.calls w.calls.length<=1/\(cI w e).1.calls.length<=w.calls.length+1:=by
 rw[xN h];unfold iZ;have same:∀{α:Type} [Inhabited α] [DecidableEq α] (l:List α) (k:Nat),jX l l k=0:=λl k=>LP λ_ _=>rfl;split
 .rcases Ul w e with⟨h1,h2⟩|⟨h1,i,s,h2⟩
  .rw[h1,same];rcases h2 with h2|⟨x,h2⟩|⟨i,x,hi,_,h2⟩
   .rw[h2,same];omega
   .rw[h2];have:jX (w.calls++[x]) w.calls w.calls.length=0:=LP λj hj=>HF hj;simp;omega
   rw[h2];have:jX (w.calls.set i x) w.calls w.calls.length<=1:=LQ (i:=i) λj hj aZ=>by rw[jh om,if_neg aZ]
   simp;omega
  rw[h1,h2,same];refine⟨?_,by omega⟩;have:jX (w.aw.set i s) w.aw (w.aw.set i s).length<=1:=LQ (i:=i) λj hj aZ=>by
   rw[List.length_set] at hj;by_cases hi:i<w.aw.length
   .rw[jh hi,if_neg aZ]
   rw[List.set_eq_of_length_le om]
  omega
 dsimp only;rw[same,same];omega
def ajn {w:aI} (e:Ev) (h:fS w=true):w.calls.length<=(cI w e).1.calls.length:=by
 rw[xN h];unfold iZ;split
 .rcases Ul w e with⟨_,h2⟩|⟨h1,_⟩
  .rcases h2 with h2|⟨x,h2⟩|⟨i,x,hi,_,h2⟩
   .rw[h2];exact Nat.le_refl _
   .rw[h2];simp
   rw[h2];simp
  rw[h1];exact Nat.le_refl _
 exact Nat.le_refl _
def FK {α:Type} [Inhabited α] [DecidableEq α] {l m:List α} {k n:Nat} (h:(!decide (ab l k=ab m k))=true):((n+jX l m k:Nat):Int)+1=((n+jX l m (k+1):Nat):Int):=by
 have h:ab l k≠ab m k:=by simpa using h
 show _=((n+(jX l m k+if ab l k=ab m k then 0 else 1):Nat):Int);rw[if_neg h];omega
def FL {α:Type} [Inhabited α] [DecidableEq α] {l m:List α} {k n:Nat} (h:(!decide (ab l k=ab m k))=false):((n+jX l m k:Nat):Int)=((n+jX l m (k+1):Nat):Int):=by
 have h:ab l k=ab m k:=by simpa using h
 show _=((n+(jX l m k+if ab l k=ab m k then 0 else 1):Nat):Int);rw[if_pos h];rfl
def LR {α:Type} [Inhabited α] [DecidableEq α] (l m:List α):∀k,jX l m k<=k
 |0=>Nat.le_refl _
 |k+1=>by
  have:=LR l m k;show jX l m k+_<=_;split<;>omega
def Um (e d:ao):([e.key,e.ar.time,e.ar.site] !=[d.key,d.ar.time,d.ar.site])=!decide (e=d):=by rw[bne,yY]
def Un (e d:cG):([e.bf,e.dy] !=[d.bf,d.dy])=!decide (e=d):=by
 obtain⟨k,t⟩:=d;obtain⟨k',t'⟩:=e;rw[Bool.eq_iff_iff];simp[bne]
def ajo (u v:aE):(u.key==v.key&&[u.ar.time,u.ar.site]==[v.ar.time,v.ar.site]&&u.val==v.val&&u.aq==v.aq&&u.call==v.call&&decide (u.aR=v.aR))=decide (u=v):=by
 obtain⟨k,⟨t,s⟩,a,b,c,d⟩:=u;obtain⟨k',⟨t',s'⟩,a',b',c',d'⟩:=v;rw[Bool.eq_iff_iff];simp[and_assoc]
def ajp {a b:Answer} (h:(a.key !=b.key||a.yes !=b.yes||!decide (a.bm=b.bm))=false):a=b:=by
 obtain⟨k,y,v⟩:=a;obtain⟨k',y',v'⟩:=b;simpa[and_assoc] using h
def ajq {s t:Server} (h1:s.site=t.site) (h2:s.up=t.up) (h3:s.aF=t.aF) (h4:s.an=t.an) (h5:s.waits=t.waits) (h6:s.aD=t.aD) (h7:s.bj=t.bj):s=t:=by
 cases s;cases t;simp_all
def ajr {a b:cw} (h:[a.time,a.site]=[b.time,b.site]):a=b:=by cases a;cases b;simpa using h
def ajs {q r:Call} (h1:q.aq=r.aq) (h2:q.num=r.num) (h3:q.kind=r.kind) (h4:q.val=r.val) (h5:q.bE=r.bE) (h6:q.end_=r.end_) (h7:q.over=r.over) (h8:[q.ar.time,q.ar.site]=[r.ar.time,r.ar.site]) (h9:q.keys=r.keys) (wH:q.ctx=r.ctx) (sV:q.aO=r.aO) (uM:q.aA=r.aA):q=r:=by
 have:=ajr h8;cases q;cases r;simp_all
def CA (l m:List ao):
 Fn prog 54 [bw l,bw m] (AV.bool (decide (l=m))):=by
 refine Fn.go 26 func54 ntmps54 (λW I a U=>?_);have hle:=U.dE (t:=0) rfl;have LN:=U.dE (t:=1) rfl;refine gY λI a w U=>?_;refine cz (λae=>?_) λae=>?_
 .refine bc ?_;exact bF (by symm;rw[decide_eq_false_iff_not];intro h;subst h;exact ae rfl)
 refine ax λI a w U=>?_;refine St.lo (σ:=Nat) (run 2 4 (run 15 11 [])) ⟨λk=>[(5,AV.int k)],λk=>[],λk=>k<=l.length/\∀i,i<k->ab l i=ab m i⟩ (λk=>l.length-k) 0 U ?aL ?bG;case aL=>exact⟨Nat.zero_le _,λi hi=>by omega⟩
 rintro k I a w al U;obtain⟨hk,aT⟩:=al;refine aY λI a w U=>?_;refine cz (λah=>?_) λah=>?_
 .refine zt ?_;refine U.dk ?_;refine mB ?_;refine .o (rJ [_,_,_] [_,_,_] wq rfl rfl .tt .tt)<|.nil ?_;intro I a w U;refine bk ?_;refine U.cd (λaj=>?_) λaj=>?_
  .rw[Um] at aj;simp only[B] at aj;have aZ:=aj;refine bc ?_;exact bF (by symm;rw[decide_eq_false_iff_not];intro h;subst h;exact aZ rfl)
  rw[Um] at aj;simp only[B] at aj;have heq:=aj;refine aN λI a w U=>?_;exact U.ag (k+1) (⟨ah,λi h1=>by rcases Nat.lt_succ_iff_lt_or_eq.1 h1 with h|h;exact aT i h;rw[h];exact heq⟩)
 refine zt ?_;refine bc ?_;exact bF (by symm;rw[decide_eq_true_eq];exact yE om λi hi=>aT i om)
def Uo (u v:aE):
 Fn prog 33 [u.av,v.av] (AV.bool (decide (u=v))):=by
 refine Fn.go 45 func33 ntmps33 (λW I a U=>?_);refine th λI a w U=>?_;refine U.q .T (mq [_,_] [_,_] mD rfl rfl .ag .ag) λU=>?_;refine NP λI a w U=>?_;refine U.q .T (.cl (CA u.aR v.aR)) λU=>?_;refine di ?_;exact bF (ajo u v)
def Up (l m:List aE):
 Fn prog 38 [bQ l,bQ m] (AV.bool (decide (l=m))):=by
 refine Fn.go 27 func38 ntmps38 (λW I a U=>?_);have hle:=U.dE (t:=0) rfl;have LN:=U.dE (t:=1) rfl;refine gY λI a w U=>?_;refine cz (λae=>?_) λae=>?_
 .refine bc ?_;exact bF (by symm;rw[decide_eq_false_iff_not];intro h;subst h;exact ae rfl)
 refine ax λI a w U=>?_;refine St.lo (σ:=Nat) (run 2 4 (run 16 11 [])) ⟨λk=>[(5,AV.int k)],λk=>[],λk=>k<=l.length/\∀i,i<k->ab l i=ab m i⟩ (λk=>l.length-k) 0 U ?aL ?bG;case aL=>exact⟨Nat.zero_le _,λi hi=>by omega⟩
 rintro k I a w al U;obtain⟨hk,aT⟩:=al;refine aY λI a w U=>?_;refine cz (λah=>?_) λah=>?_
 .refine zt ?_;refine U.dk ?_;refine mB ?_;refine .o (.c2 (Uo (ab l k) (ab m k))) ?_;refine aX ?_;refine .nil ?_;intro I a w U;refine bk ?_;refine cz (λaj=>?_) λaj=>?_
  .have aZ:=aj;refine bc ?_;exact bF (by symm;rw[decide_eq_false_iff_not];intro h;subst h;exact aZ rfl)
  have heq:=aj;refine aN λI a w U=>?_;exact U.ag (k+1) (⟨ah,λi h1=>by rcases Nat.lt_succ_iff_lt_or_eq.1 h1 with h|h;exact aT i h;rw[h];exact heq⟩)
 refine zt ?_;refine bc ?_;exact bF (by symm;rw[decide_eq_true_eq];exact yE om λi hi=>aT i om)
def ajt (l m:List Answer):
 Fn prog 64 [oN l,oN m] (AV.bool (decide (l=m))):=by
 refine Fn.go 55 func64 ntmps64 (λW I a U=>?_);have hle:=U.dE (t:=0) rfl;have LN:=U.dE (t:=1) rfl;refine gY λI a w U=>?_;refine cz (λae=>?_) λae=>?_
 .refine bc ?_;exact bF (by symm;rw[decide_eq_false_iff_not];intro h;subst h;exact ae rfl)
 refine ax λI a w U=>?_;refine St.lo (σ:=Nat) (run 2 4 (run 44 11 [])) ⟨λk=>[(5,AV.int k)],λk=>[],λk=>k<=l.length/\∀i,i<k->ab l i=ab m i⟩ (λk=>l.length-k) 0 U ?aL ?bG;case aL=>exact⟨Nat.zero_le _,λi hi=>by omega⟩
 rintro k I a w al U;obtain⟨hk,aT⟩:=al;refine aY λI a w U=>?_;refine cz (λah=>?_) λah=>?_
 .refine zt ?_;refine U.dk ?_;refine nd ?_;refine gZ ?_;refine .q .F (qm .ag .ag lj) ?_;refine AR ?_;refine .q .F (.cl (Uo (ab l k).bm (ab m k).bm)) ?_;refine cj ?_;refine .nil ?_;intro I a w U;refine bk ?_;refine U.cd (λaj=>?_) λaj=>?_
  .have aZ:ab l k≠ab m k:=λh=>by rw[h] at aj;simp at aj
   refine bc ?_;exact bF (by symm;rw[decide_eq_false_iff_not];intro h;subst h;exact aZ rfl)
  have heq:=ajp aj;refine aN λI a w U=>?_;exact U.ag (k+1) (⟨ah,λi h1=>by rcases Nat.lt_succ_iff_lt_or_eq.1 h1 with h|h;exact aT i h;rw[h];exact heq⟩)
 refine zt ?_;refine bc ?_;exact bF (by symm;rw[decide_eq_true_eq];exact yE om λi hi=>aT i om)
def aju (s t:Server) (hl:s.aF.length<=1048576) (hm:t.aF.length<=1048576):
 Fn prog 22 [s.av,t.av] (AV.bool (decide (s=t))):=by
 refine Fn.go 77 func22 ntmps22 (λW I a U=>?_);refine th λI a w U=>?_;refine U.q .F (qm .ag .ag lj) λU=>?_;refine yu λI a w U=>?_;refine U.q .F (.cl (Up s.an t.an)) λU=>?_;refine fo λI a w U=>?_;refine U.q .F (.cl (Up s.waits t.waits)) λU=>?_;refine fo λI a w U=>?_;refine U.q .F (.cl (CA s.aD t.aD)) λU=>?_;refine fo λI a w U=>?_;refine U.q .F (.cl (CA s.bj t.bj)) λU=>?_;refine aB λI a w U=>?_;refine AN (λae=>?_) λae=>?_
 .refine bc ?_;exact bF (by symm;rw[decide_eq_false_iff_not];intro h;subst h;simp at ae)
 obtain⟨⟨⟨⟨⟨⟨h1,h2⟩,h3⟩,h4⟩,h5⟩,h6⟩,h7⟩:=ae;refine ax λI a w U=>?_;refine St.lo (σ:=Nat) (run 2 4 (run 18 59 [])) ⟨λk=>[(5,AV.int k)],λk=>[],λk=>k<=s.aF.length/\∀i,i<k->ab s.aF i=ab t.aF i⟩ (λk=>s.aF.length-k) 0 U ?aL ?bG;case aL=>exact⟨Nat.zero_le _,λi hi=>by omega⟩
 rintro k I a w al U;obtain⟨hk,aT⟩:=al;refine ct λI a w U=>?_;refine cz (λah=>?_) λah=>?_
 .refine zt ?_;refine U.dk ?_;refine lh ?_;refine .o (rJ [_,_] [_,_] G3 rfl rfl .tt .tt)<|.nil ?_;intro I a w U;refine bk ?_;refine U.cd (λaj=>?_) λaj=>?_
  .rw[Un] at aj;simp only[B] at aj;have aZ:=aj;refine bc ?_;exact bF (by symm;rw[decide_eq_false_iff_not];intro h;subst h;exact aZ rfl)
  rw[Un] at aj;simp only[B] at aj;have heq:=aj;refine aN λI a w U=>?_;exact U.ag (k+1) (⟨ah,λi h1=>by rcases Nat.lt_succ_iff_lt_or_eq.1 h1 with h|h;exact aT i h;rw[h];exact heq⟩)
 refine zt ?_;refine bc ?_;exact bF (by symm;rw[decide_eq_true_eq];exact ajq h1 h2 (yE om λi hi=>aT i om) h4 h5 h6 h7)
def ajv (q r:Call) (hl:q.keys.length<=1048576) (hm:r.keys.length<=1048576):
 Fn prog 23 [q.av,r.av] (AV.bool (decide (q=r))):=by
 refine Fn.go 111 func23 ntmps23 (λW I a U=>?_);refine De λI a w U=>?_;refine NL λI a w U=>?_;refine U.q .F (qm .ag .ag lj) λU=>?_;refine dI λI a w U=>?_;refine U.q .F (rJ [_,_] [_,_] mD rfl rfl .ag .ag) λU=>?_;refine yu λI a w U=>?_;refine U.q .F (.cl (CA q.ctx r.ctx)) λU=>?_;refine fo λI a w U=>?_;refine U.q .F (.cl (CA q.aO r.aO)) λU=>?_;refine fo λI a w U=>?_;refine U.q .F (.cl (ajt q.aA r.aA)) λU=>?_;refine aB λI a w U=>?_;refine AN (λae=>?_) λae=>?_
 .refine bc ?_;exact bF (by symm;rw[decide_eq_false_iff_not];intro h;subst h;simp at ae)
 obtain⟨⟨⟨⟨⟨⟨⟨⟨⟨⟨⟨h1,h2⟩,h3⟩,h4⟩,h5⟩,h6⟩,h7⟩,h8⟩,h9⟩,wH⟩,sV⟩,uM⟩:=ae;refine ax λI a w U=>?_;refine St.lo (σ:=Nat) (run 2 4 (run 18 93 [])) ⟨λk=>[(5,AV.int k)],λk=>[],λk=>k<=q.keys.length/\∀i,i<k->ab q.keys i=ab r.keys i⟩ (λk=>q.keys.length-k) 0 U ?aL ?bG;case aL=>exact⟨Nat.zero_le _,λi hi=>by omega⟩
 rintro k I a w al U;obtain⟨hk,aT⟩:=al;refine ct λI a w U=>?_;refine cz (λah=>?_) λah=>?_
 .refine ax λI a w U=>?_;refine cz (λaj=>?_) λaj=>?_
  .have aZ:=aj;refine bc ?_;exact bF (by symm;rw[decide_eq_false_iff_not];intro h;subst h;exact aZ rfl)
  have heq:=aj;refine aN λI a w U=>?_;exact U.ag (k+1) (⟨ah,λi h1=>by rcases Nat.lt_succ_iff_lt_or_eq.1 h1 with h|h;exact aT i h;rw[h];exact heq⟩)
 refine zt ?_;refine bc ?_;exact bF (by symm;rw[decide_eq_true_eq];exact ajs h1 h2 h3 h4 h5 h6 h7 h8 (yE om λi hi=>aT i om) wH sV uM)
def UA (code:List UInt8):
 Fn prog 7 [cg code] (AV.bool true):=by
 refine Fn.go 107 func7 ntmps7 (λW I a U=>?_);have hle:=U.dE (t:=0) rfl;refine aY λI a w U=>?_;refine cz (λae=>?_) λae=>?_
 .refine bc ?_;rfl
 refine bA λI a w U=>?_;refine U.bq [] (zW code om) (ai .r aC) rfl aM rfl λ⟨x,e⟩ I a w lR U=>?_;replace lR:NW x:=lR;have gV:=lR;dsimp only at U;refine aV λI a w U=>?_;refine U.alloc rfl dx dB λb3 I a w U=>U.alloc rfl oW ib λb4 I a w U=>?_;refine U.sb 0 λU=>?_;obtain⟨I,U⟩:=U.fb 0 3;refine ax λI a w U=>?_;obtain⟨I,U⟩:=U.fb 1 4;refine aH λI a w U=>?_;refine U.o (cr (zV x e gV) (ai .tt (ai .tt aC))) λU=>?_;refine aV λI a w U=>?_;refine U.alloc rfl dx dB λb5 I a w U=>?_;refine U.sb 2 λU=>?_;obtain⟨I,U⟩:=U.fb 2 5;refine aV λI a w U=>?_;refine U.o (cr (xT x e gV) (ai .tt (ai .tt aC))) λU=>?_;refine aV λI a w U=>?_;refine U.alloc rfl dx dB λb7 I a w U=>?_;refine U.sb 3 λU=>?_;obtain⟨I,U⟩:=U.fb 3 7;refine aV λI a w U=>?_;refine U.o (qm .tt .tt lj) λU=>?_;refine aV λI a w U=>?_;refine U.q .F (.cl (pq (cI x e).1 (rB _ _))) λU=>?_;refine gY λI a w U=>?_;have U:=U.drop 0;refine U.cd (λah=>?_) λah=>?_
 .refine aH λI a w U=>?_;refine U.o (vQ .tt .tt lj) λU=>?_;refine aV λI a w U=>?_;refine U.q .T (.cl (pq (cI x e).1 (rB _ _))) λU=>?_;refine di ?_;exact bF bt
 simp at ah;refine wp_skip<|bk<|wp_seq ?_;have hw:=vB ah;have hg:=(jy.1 hw).1;have sR:=(jy.1 (sL hw e)).1;have h4:=hg.aw;have Uj:=sR.aw;have aQ:=ajn e hw;obtain⟨Ba,oE⟩:=ajm (e:=e) hw;have apB:=hg.small.2.2.1.1;refine aB λI a w U=>?_;refine St.lo (σ:=Nat) (run 2 9 (run 21 53 [])) ⟨λi=>[(10,AV.int i),(9,AV.int ((0+jX (cI x e).1.aw x.aw i:Nat):Int))],λi=>[],λi=>i<=(cI x e).1.aw.length⟩ (λi=>(cI x e).1.aw.length-i) 0 U ?aL ?bG;case aL=>exact Nat.zero_le _
 rintro i I a w al U;have Uk:i<=(cI x e).1.aw.length:=al;refine ct λI a w U=>?_;refine cz (λaj=>?_) λaj=>?_
 .refine zt ?_;have q0:=(hg.site i om).2.aF;have q1:=(sR.site i om).2.aF;have hdf:=LR (cI x e).1.aw x.aw i;refine U.dk ?_;refine lh ?_;refine .o (cr (aju (ab (cI x e).1.aw i) (ab x.aw i) om om) (ai (.t rfl) (ai (.t rfl) aC))) ?_;refine aX ?_;refine .nil ?_;intro I a w U;refine bk ?_;refine U.cd (λaJ=>?_) λaJ=>?_
  .refine gY λI a w U=>?_;refine U.again (i+1) ?ij ?ik dD ?il (by repeat(first|exact Env.le_rfl|refine Env.hP rfl ?_));case ij=>omega
   case ik=>show i+1<=_;omega
   case il=>exact(Env.dq rfl dD (Env.dq rfl (by first|exact congrArg AV.int (FK aJ)|exact congrArg AV.int (FL aJ)) Env.le_nil))
  refine aN λI a w U=>?_;refine U.again (i+1) ?mR ?mS dD ?mT (by repeat(first|exact Env.le_rfl|refine Env.hP rfl ?_));case mR=>omega
  case mS=>show i+1<=_;omega
  case mT=>exact(Env.dq rfl dD (Env.dq rfl (by first|exact congrArg AV.int (FK aJ)|exact congrArg AV.int (FL aJ)) Env.le_nil))
 refine wp_exit<|cM<|cM<|fI<|bk<|wp_seq<|wp_seq ?_;obtain rfl:i=(cI x e).1.aw.length:=by omega
 refine ax λI a w U=>?_;refine St.FV (σ:=Nat) (9::(11::(run 21 74 []))) ⟨λi=>[(11,AV.int i),(9,AV.int ((jX (cI x e).1.aw x.aw (cI x e).1.aw.length+jX (cI x e).1.calls x.calls i:Nat):Int))],λi=>[],λi=>i<=x.calls.length⟩ (λi=>x.calls.length-i) 0 U rfl ?ei ?ajx ?jK;case ei=>exact Nat.zero_le _
 case ajx=>exact(Env.dq rfl dD (Env.dq rfl (by exact congrArg AV.int (by show _=((_+0:Nat):Int);omega)) Env.le_nil))
 rintro i I a w al U;have Uk:i<=x.calls.length:=al;refine ct λI a w U=>?_;refine cz (λaP=>?_) λaP=>?_
 .refine zt ?_;have q0:=(hg.small.2.2.1.2 _ (bB aP)).1;have q1:=(sR.small.2.2.1.2 _ (bB (by omega:i<(cI x e).1.calls.length))).1;have hdf:=LR (cI x e).1.calls x.calls i;refine U.dk ?_;refine lh ?_;refine .o (cr (ajv (ab (cI x e).1.calls i) (ab x.calls i) om om) (ai (.t rfl) (ai (.t rfl) aC))) ?_;refine aX ?_;refine .nil ?_;intro I a w U;refine bk ?_;refine U.cd (λbn=>?_) λbn=>?_
  .refine gY λI a w U=>?_;refine U.again (i+1) ?mu3 ?ajz dD ?ajA (by repeat(first|exact Env.le_rfl|refine Env.hP rfl ?_));case mu3=>omega
   case ajz=>show i+1<=_;omega
   case ajA=>exact(Env.dq rfl dD (Env.dq rfl (by first|exact congrArg AV.int (FK bn)|exact congrArg AV.int (FL bn)) Env.le_nil))
  refine aN λI a w U=>?_;refine U.again (i+1) ?mu4 ?ajC dD ?ajD (by repeat(first|exact Env.le_rfl|refine Env.hP rfl ?_));case mu4=>omega
  case ajC=>show i+1<=_;omega
  case ajD=>exact(Env.dq rfl dD (Env.dq rfl (by first|exact congrArg AV.int (FK bn)|exact congrArg AV.int (FL bn)) Env.le_nil))
 refine wp_exit<|cM<|cM<|fI<|bk<|wp_seq ?_;obtain rfl:i=x.calls.length:=by omega
 refine AQ λI a w U=>?_;refine U.rt ?_;exact bF fT
end Go.Proofs.YtdanidpleofjgaaGreat

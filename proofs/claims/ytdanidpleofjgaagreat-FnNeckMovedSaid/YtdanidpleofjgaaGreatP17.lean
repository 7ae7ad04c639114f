/- Part 17: contracts of functions, plain facts. -/
import Derived.Test.YtdanidpleofjgaaGreatP13
import Derived.Test.YtdanidpleofjgaaGreatP14
set_option linter.all false
set_option maxRecDepth 100000
set_option maxHeartbeats 4000000
namespace Go.Proofs.YtdanidpleofjgaaGreat
open Go Go.RowKit Tryz
attribute [local irreducible] wpList Code.wp Ok
def Jp (s:Server) (key:Int) (hk:c7 key=true) (hl:s.aw.length=3):
 Fn prog 108 [s.av,AV.int key] (AV.int (cM s key)):=by
 refine Fn.go 12 func108 ntmps108 (λW I a U=>?_);have hr:=rr hk;refine aF λI a w U=>?_;refine U.dk ?_;refine dD ?_;refine .o (.c1 (Iv ..)) ?_;refine ef ?_;refine .nil ?_;intro I a w U;refine zt ?_;refine U.rt ?_;rfl
def gx (c:Call) (time:Int):Bool:=mT c time&&zl c&&oP c time
def aa9 {c:Call} (h:nX c=true) (hd:bU c.aL=true) {i:Nat} (hi:i<c.aL.length):vj c i=rk c i:=by
 unfold vj rk;by_cases hg:0<=cm c (ab c.aL i).key
 .have h2:=pK hd (bf hi);simp only[lK,Bool.and_eq_true] at h2;rw[Ps (IA h (vm hg)).1 h2.2]
 simp[hg]
def zB (l:List Call) (time:Int) (i:Nat):Bool:=gx (ab l i) time&&(decide (i=0)||decide ((ab l (i-1)).bH<(ab l i).bH))
def nF (l:List Call) (time:Int) (i:Nat):Bool:=(zB l time i&&((ab l i).num==gH l (i+1) (ab l i).ao))&&de i λj=>!mz (ab l j) (ab l i)
def j6 (l:List Call) (time:Int):Bool:=de l.length (nF l time)&&decide (l.length<=20)
def Rc (l:List Call) (time:Int) (k:Nat):(!gx (ab l k) time||(decide (0<(k:Int))&&decide ((ab l k).bH<=(ab l ((k:Int)-1).toNat).bH)))=!zB l time k:=by
 have e:=uW (λd=>gx d time) (λa b=>decide (a.bH<b.bH)) l k;have e2:decide ((ab l k).bH<=(ab l ((k:Int)-1).toNat).bH)=!decide ((ab l ((k:Int)-1).toNat).bH<(ab l k).bH):=by rw[Bool.eq_iff_iff];simp
 rw[e2,e];rfl
def Rd (l:List Call) (time:Int) (k:Nat):((!gx (ab l k) time||(decide (0<(k:Int))&&decide ((ab l k).bH<=(ab l ((k:Int)-1).toNat).bH)))||((ab l k).num !=gH l (k+1) (ab l k).ao))=!(zB l time k&&((ab l k).num==gH l (k+1) (ab l k).ao)):=by
 rw[Rc];simp[bne]
def p4 {s:cx} (h:s=gn\/di s=true):dJ gn s=s:=by
 unfold dJ;rcases h with rfl|h
 .simp
 rw[if_pos (Pq (rl h))]
def BZ {s:cx} (h:s=gn\/di s=true):dJ s gn=s:=by rw[Z2,p4 h]
def ui:∀{l:List au} {last:Int},eb last l=true->∀key,bN l key=gn\/di (bN l key)=true
 |[],_,_,key=>Or.inl rfl
 |e::r,last,h,key=>by
  simp only[eb,Bool.and_eq_true] at h;rw[lZ];split
  .exact Or.inr h.1.2
  exact ui h.2 key
def B0:∀{l:List au} {last:Int} {d:au} (key:Int),eb last l=true->di d.aq=true->bN (gq l d) key=if d.key=key then dJ (bN l key) d.aq else bN l key
 |[],last,d,key,_,U=>by
  unfold gq;rw[lZ];split
  .show d.aq=dJ gn d.aq;rw[p4 (Or.inr U)]
  rfl
 |e::r,last,d,key,h,U=>by
  have h':=h;simp only[eb,Bool.and_eq_true] at h;unfold gq;split
  .rename_i hk;rw[lZ,lZ];have e1:(if bV e.aq d.aq=true then d else e).key=e.key:=by split<;>simp[hk]
   rw[e1,hk];split
   .unfold dJ;split<;>rfl
   rfl
  rename_i hk;split
  .rename_i bw;rw[lZ];split
   .rename_i gj;have:bN (e::r) key=gn:=by
     have hd:eb d.key (e::r)=true:=by
      simp only[eb,Bool.and_eq_true];refine⟨⟨?_,h.1.2⟩,h.2⟩;have:=h.1.1;simp[aH] at this⊢;omega
     exact yU hd om
    rw[this,p4 (Or.inr U)]
   rfl
  rename_i bw;rw[lZ,lZ,B0 key h.2 U];by_cases lD:e.key=key
  .rw[if_pos lD,if_pos lD,if_neg om]
  rw[if_neg lD,if_neg lD]
def mX (out:List au) (a:Answer):List au:=iV out a.bl.aQ
def fR (c:Call):List au:=c.aC.foldl mX []
def kO:List Answer->Int->cx
 |[],_=>gn
 |a::r,key=>dJ (bN a.bl.aQ key) (kO r key)
def aba (s:Server) (i:Nat):sS s i=(oQ s s.waits i&&xe s i):=by
 unfold sS ub oQ xe;have e:decide (placeOf s.ai (ab s.waits i).aU<0)=!decide (0<=placeOf s.ai (ab s.waits i).aU):=by rw[Bool.eq_iff_iff];simp
 rw[e];cases(cM s (ab s.waits i).key !=0)<;>cases decide (0<=placeOf s.ai (ab s.waits i).aU)<;>simp[bne]
def zC {l:List aE} {d:au} (h:∀x∈l,x.aU≠d):placeOf l d<0:=by
 rcases Int.lt_or_le (placeOf l d) 0 with hn|hn
 .exact hn
 obtain⟨k,hk,hp⟩:=Iw hn;simp[lY] at hp;exact absurd hp (h _ (bf hk))
def kQ (q:Call):List au:=(q.aC.map (nV (fR q))).flatten
def l9 (q:Call) (a:Answer) (time:Int):Call:=
 let x:={q with aC:=c8 q.aC a}
 if x.aC.length<x.keys.length then x else kD {x with aL:=x.aL++kQ x} time
def ig (q:Call) (m:ax) (time:Int):Call:=
 if m.kind=4/\(m.yes=true->m.ai.length=1/\(ab m.ai 0).key=m.key) then
  if cm q m.key<0 then(if dS m.aq then l9 q (dh m) time else q)
  else if m.yes then lu q (dh m) time else q
 else q
def cP (q:Call) (m:ax) (time:Int):Call:=
 if bI m&&(m.to==10+q.ao)&&(m.call==q.num)&&ib q.keys m.key&&cD q&&decide (q.bH<time) then
  if q.kind=1 then(if m.kind=2/\di m.aq=true then{q with aq:=m.aq,end_:=time} else q)
  else ig q m time
 else q
def EU (q:Call) (key:Int):
 Fn prog 149 [q.av,AV.int key] (AV.int (cm q key)):=by
 refine Fn.go 22 func149 ntmps149 (λW I a U=>?_);have lens:q.keys.length<=9223372036854775807/\q.aC.length<=9223372036854775807/\q.aL.length<=9223372036854775807:=⟨U.ln 0 3,U.ln 0 11,U.ln 0 12⟩;refine aR λI a w U=>?_;refine St.lo (σ:=Nat) (run 18 4 []) ⟨λk=>[(5,AV.int k)],λk=>[],λk=>k<=q.aC.length/\∀i,i<k->tT key (ab q.aC i)=false⟩ (λk=>q.aC.length-k) 0 U ?aJ ?bF;case aJ=>exact⟨Nat.zero_le _,λi hi=>by omega⟩
 rintro k I a w an U;obtain⟨hk,aT⟩:=an;refine cI λI a w U=>?_;refine cz (λae=>?_) λae=>?_
 .refine py λI a w U=>?_;refine U.cd (λah=>?_) λah=>?_
  .refine dG ?_;exact fW (mQ ae aT ah).symm
  refine aR λI a w U=>?_;exact U.ag (k+1) (⟨by omega,λi h1=>by rcases Nat.lt_succ_iff_lt_or_eq.1 h1 with h|h;exact aT i h;rw[h];exact ah⟩)
 refine zt ?_;refine bh ?_;exact fW (my om aT).symm
def Re {l:List Call} {time:Int} {j:Nat} (h:nF l time j=true):(ab l j).num=gH l (j+1) (ab l j).ao:=by
 simp only[nF,Bool.and_eq_true,beq_iff_eq] at h;exact h.1.2
def Rf (l:List Call) (time:Int) (k:Nat):(!gx (ab l k) time||(decide (0<(k:Int))&&decide ((ab l k).bH<=(ab l ((k:Int)-1).toNat).bH)))=!zB l time k:=Rc l time k
def Rg {d q:Call} (h:d.ao=q.ao):(!d.over&&((d.end_==0)||decide (q.bH<=d.end_)))=mz d q:=by
 unfold mz;rw[h];simp
def abb {d q:Call} (h:¬d.ao=q.ao):mz d q=false:=by
 unfold mz;simp[h]
def EV (l:List Call) (time:Int) (k:Nat):nF l time k=((zB l time k&&((ab l k).num==gH l (k+1) (ab l k).ao))&&de k λj=>!mz (ab l j) (ab l k)):=rfl
def EW {α:Type} [Inhabited α] {aK:α->Bool} {less:α->α->Bool} (tr:∀{a b d},less a b=true->less b d=true->less a d=true) {l:List α}:
 de l.length (fl aK less l)=true↔(∀x∈l,aK x=true)/\l.Pairwise λa b=>less a b=true:=by
 rw[jm];constructor
 .intro h;refine⟨λx hx=>?_,Qr (R:=λa b=>less a b=true) (λh1 h2=>tr h1 h2) λi h0 hi=>?_⟩
  .obtain⟨k,hk,rfl⟩:=gm hx;have:=h k hk;unfold fl at this;rw[Bool.and_eq_true] at this;exact this.1
  have:=h i hi;unfold fl at this;rw[Bool.and_eq_true,Bool.or_eq_true,decide_eq_true_eq] at this;rcases this.2 with h3|h3
  .omega
  exact h3
 rintro⟨h1,h2⟩ i hi;unfold fl;rw[Bool.and_eq_true,Bool.or_eq_true,decide_eq_true_eq];refine⟨h1 _ (bf hi),?_⟩;rcases Nat.eq_zero_or_pos i with h|h
 .exact Or.inl h
 exact Or.inr (xq h2 om hi)
def uj {l:List aE}:cg l=true↔l.length<=80/\(∀v∈l,dL v=true)/\VS l:=by
 unfold cg;rw[Bool.and_eq_true,decide_eq_true_eq,EW (less:=fG) (λh1 h2=>P7 h1 h2)];rfl
def vE {l:List au}:fZ l=true↔l.length<=80/\(∀d∈l,ka d=true)/\l.Pairwise λa b=>eD a b=true:=by
 unfold fZ;rw[Bool.and_eq_true,decide_eq_true_eq,EW (less:=eD) (λh1 h2=>zb h1 h2)]
def xJ {l m:List aE} (h:cg l=true) (U:m.Sublist l):cg m=true:=by
 obtain⟨h1,h2,h3⟩:=uj.1 h;exact uj.2 ⟨Nat.le_trans U.length_le h1,λx hx=>h2 x (U.subset hx),h3.sublist U⟩
def B1 {l m:List au} (h:fZ l=true) (U:m.Sublist l):fZ m=true:=by
 obtain⟨h1,h2,h3⟩:=vE.1 h;exact vE.2 ⟨Nat.le_trans U.length_le h1,λx hx=>h2 x (U.subset hx),h3.sublist U⟩
def fg.drop {s:Server} (h:fg s) (slot:Int):fg (dW s slot):=
 ⟨h.aw,xJ h.ai (List.filter_sublist),xJ h.waits (List.filter_sublist),λv hv=>zC λx hx=>pP (h.apart v (rD hv)) x (rD hx),h.aV⟩
def fg.gone {s:Server} (h:fg s) (m:ax):fg (kg s m):=(h.drop m.slot).Z8 (by show(s.aw.set _ _).length=3;rw[List.length_set];exact h.aw)
def Rh {l:List aE} {d:au}:placeOf l d<0↔∀x∈l,x.aU≠d:=⟨pP,zC⟩
def vF {α:Type} {l:List α} {n:Nat} {x:α} (h:x∈l.take n++l.drop (n+1)):x∈l:=(xu l n).subset h
def bG.fe {s:Server} (h:bG s):bG (Ew s):=
 ⟨h.site,h.aw,h.ai,h.waits,h.aD,B1 h.aV List.filter_sublist,λe=>by show s.aV.filter _=[];rw[h.up e];rfl,h.aK,h.here,h.nZ,h.n5,h.apart,h.ly⟩
def abc {v:aE} (h:dL v=true):cg [v]=true:=uj.2 ⟨by simp,by simpa using h,by simp[VS]⟩
def Ri {o:Option aE} (h:∀v,o=some v->dL v=true):cg o.toList=true:=by
 cases o with
 |none=>rfl
 |some v=>exact abc (h v rfl)
def Rj {q:Call}:nX q=true↔(∀a∈q.aC,ib q.keys a.key=true)/\(q.aC.Pairwise λa b=>gW a b=true)/\∀a∈q.aC,dT a=true:=by
 unfold nX;rw[jm];have h1:=EW (aK:=λa:Answer=>ib q.keys a.key) (less:=gW) (λh1 h2=>ZK h1 h2) (l:=q.aC);rw[jm] at h1;unfold pL;constructor
 .intro h;have h2:=h1.1 λi hi=>(Bool.and_eq_true _ _▸h i hi:_/\_).1;refine⟨h2.1,h2.2,λa ha=>?_⟩;obtain⟨k,hk,rfl⟩:=gm ha;exact(Bool.and_eq_true _ _▸h k hk:_/\_).2
 rintro⟨a1,a2,a3⟩ i hi;rw[Bool.and_eq_true];exact⟨h1.2 ⟨a1,a2⟩ i hi,a3 _ (bf hi)⟩
def Rk {q:Call} {d:au} (h:d∈kQ q):∃a∈q.aC,d=⟨a.key,bN (fR q) a.key⟩/\bV a.bl.aq d.aq=true:=by
 unfold kQ at h;obtain⟨ds,h1,h2⟩:=List.mem_flatten.1 h;obtain⟨a,ha,rfl⟩:=List.mem_map.1 h1;unfold nV at h2;split at h2
 .rename_i hl;obtain rfl:d=_:=by simpa using h2
  exact⟨a,ha,rfl,hl⟩
 simp at h2
structure bR (w:aj):Prop where
 time:0<=w.time
 aA:w.aA.length=4
 site:∀i,i<4->(ab w.aA i).site=(i:Int)/\bG (ab w.aA i)
 al:w.al.length<=60
 words:∀m∈w.al,bI m=true
 seen:w.seen.length=2
 kj:∀l∈w.seen,bU l=true
 calls:j6 w.calls w.time=true
def abd (v:Value) (l:List (List AV)) (x:List AV) (i:Nat) (hi:i<=l.length) (hl:l.length<=1048576) (eQ:∀r∈l,r.length=3) (hx:x.length=3):
 jC prog 261 [AV.val v,AV.int i,AV.rows 3 [x]] [Own.row v 115 3 l] [] (AV.rows 3 (l.take i++x::l.drop i)):=by
 refine jC.intro 95 func261 rfl ntmps261 rfl aS (λW I a U=>?_);obtain⟨q,cap,rfl,nh⟩:=U.Bh 0 rfl;refine bm λI a w U=>?_;refine U.o (Hz en cV .tt .tt ⟨by omega,by omega⟩ nh) λU=>?_;refine bK λI a w U=>?_;refine U.o (AG en .tt) λU=>?_;rw[show(([x]:List (List AV)).length:Int)=1 from rfl] at U;refine aR λI a w U=>?_;refine U.cd (λae=>?_) λae=>?_
 .exfalso;simp at ae;skip
 refine iP λI a w U=>?_;refine cz (λah=>?_) λah=>?_
 .refine aG λI a w U=>?_;refine U.append 0 rfl en cV rfl .tt .tt rfl (by simp only[List.length_singleton];omega) λxC a w U=>?_;obtain⟨I,U⟩:=U.fr 0 25;have U:=U.drop 0;refine aB λI a w U=>?_;refine U.tI rfl (.cons .x .nil) rfl ?_;exact congrArg (AV.rows 3) (by rw[show i=l.length by omega];simp)
 refine bB λI a w U=>?_;refine U.o (HB en .tt) λU=>?_;refine aB λI a w U=>?_;refine cz (λar=>?_) λar=>?_
 .refine zt ?_;have aX:l≠[]:=by intro e;rw[e] at hi ah;simp at hi ah;omega
  obtain⟨b,oC,he,kT,jZ,mr,U⟩:=U.tF 0 rfl aX;simp only[Value.slice.injEq] at he;obtain⟨rfl,_,rfl⟩:=he;have hA:(l.take i).flatten.length=i*3:=by rw[hZ λr hr=>eQ r (List.mem_of_mem_take hr),List.length_take,Nat.min_eq_left hi]
  have hB:(l.drop i).flatten.length=(l.length-i)*3:=by rw[hZ λr hr=>eQ r (List.mem_of_mem_drop hr),List.length_drop]
  rw[show l.flatten=(l.take i).flatten++(l.drop i).flatten by rw[<-List.flatten_append,List.take_append_drop],List.map_append] at U;have g7:([x]:List (List AV)).flatten.length=3:=by simpa using hx
  have hlen:(l.take i++x::l.drop i).length=l.length+1:=by simp;omega
  have nB:∀r∈l.take i++x::l.drop i,r.length=3:=λr hr=>(List.mem_append.1 hr).elim (λh=>eQ r (List.mem_of_mem_take h)) λh=>(List.mem_cons.1 h).elim (λe=>e▸hx) λh=>eQ r (List.mem_of_mem_drop h);have rC:(l.take i++x::l.drop i).flatten.map some=(l.take i).flatten.map some++([x]:List (List AV)).flatten.map some++(l.drop i).flatten.map some:=by simp
  refine aG λI a w U=>?_;refine U.o (tH (hi:=i) en cV .tt .tt rfl om om) λU=>?_;refine cj λI a w U=>?_;refine U.HC (kd:=l.length+1-i) (xs:=(l.take i).flatten) 0 en rh cV rfl aN .tt .tt om om rfl (by rw[List.drop_zero,List.append_assoc];exact lg _ (List.length_map _)) hA om om om rfl λ{gb BP a w} sf u9 U=>?_;refine bm λI a w U=>?_;refine U.o (kx (lo:=i) en cV .tt .tt rfl om om) λU=>?_;refine U.m λU=>?_;refine U.yE 1 en cV .tt .tt rfl bk (by simp only[List.length_singleton];omega) (by simp only[List.length_singleton,List.length_append,List.length_map,List.length_replicate,hA];omega) rfl λU=>?_;refine zt ?_;refine U.dt 8 ?_;simp only[TD];refine ef ?_;refine .o (kx (lo:=i+1) en cV .tt .tt om om om) ?_;refine cB ?_;refine .o (kx (lo:=i) en cV .tt .tt rfl om om) ?_;refine .nil ?_;intro I a w U;refine U.yF (xs:=(l.drop i).flatten) 1 0 en cV .tt .tt rfl rfl (by rw[List.append_assoc,wT _ (by simp only[List.length_map,hA];omega)];exact lg _ (List.length_map _)) (by rw[hB,Nat.min_eq_left om]) (by rw[lW (by simp only[List.length_map,List.length_append,List.length_replicate,g7,hA];omega)];simp only[List.length_append,List.length_map,List.length_replicate,hA,hB];omega) rfl λU=>?_;rw[HI (by simp only[List.length_map,hA];omega) (by simp only[List.length_map,g7];omega) (by simp only[List.length_map,List.length_replicate,g7,hB];omega)] at U;have U:=U.tG (l:=l.take i++x::l.drop i) (cap:=BP) 1 rfl (by simp only[List.length_append,List.length_map,List.length_drop,List.length_replicate,hA,hB,g7];omega) nB om om om (by rw[rC,hlen];exact lg _ (by simp only[List.length_append,List.length_map,hA,hB,g7];omega));rw[show i+(l.length+1-i)=(l.take i++x::l.drop i).length by omega] at U;obtain⟨I,U⟩:=U.fr 1 9;have U:=U.drop 0;refine aF λI a w U=>?_;exact U.tI rfl (.cons (by first|exact .t rfl|exact .nil rfl) .nil) rfl rfl
 refine zt ?_;have aX:l≠[]:=by intro e;rw[e] at hi ah;simp at hi ah;omega
 obtain⟨b,oC,he,kT,jZ,mr,U⟩:=U.tF 0 rfl aX;simp only[Value.slice.injEq] at he;obtain⟨rfl,_,rfl⟩:=he;have hA:(l.take i).flatten.length=i*3:=by rw[hZ λr hr=>eQ r (List.mem_of_mem_take hr),List.length_take,Nat.min_eq_left hi]
 have hB:(l.drop i).flatten.length=(l.length-i)*3:=by rw[hZ λr hr=>eQ r (List.mem_of_mem_drop hr),List.length_drop]
 rw[show l.flatten=(l.take i).flatten++(l.drop i).flatten by rw[<-List.flatten_append,List.take_append_drop],List.map_append] at U;have g7:([x]:List (List AV)).flatten.length=3:=by simpa using hx
 have hlen:(l.take i++x::l.drop i).length=l.length+1:=by simp;omega
 have nB:∀r∈l.take i++x::l.drop i,r.length=3:=λr hr=>(List.mem_append.1 hr).elim (λh=>eQ r (List.mem_of_mem_take h)) λh=>(List.mem_cons.1 h).elim (λe=>e▸hx) λh=>eQ r (List.mem_of_mem_drop h);have rC:(l.take i++x::l.drop i).flatten.map some=(l.take i).flatten.map some++([x]:List (List AV)).flatten.map some++(l.drop i).flatten.map some:=by simp
 refine bB λI a w U=>?_;refine U.o (tH (hi:=l.length+1) en cV .tt .tt om om om) λU=>?_;refine ee λI a w U=>?_;refine U.o (kx (lo:=i+1) en cV .tt .tt om om om) λU=>?_;refine U.overlaps (tR:=4) 0 func270 rfl aS aS aS en cV aN .tt bk .tt rfl rfl λU=>?_;refine aB λI a w U=>?_;refine U.cd (λaM=>?_) λaM=>?_
 .refine wp_seq ?_;refine U.dt 8 ?_;simp only[TD];refine ef ?_;refine .o (kx (lo:=i+1) en cV .tt .tt om om om) ?_;refine cB ?_;refine .o (kx (lo:=i) en cV .tt .tt rfl om om) ?_;refine .nil ?_;intro I a w U;refine U.yF (xs:=(l.drop i).flatten) 0 0 en cV .tt .tt rfl rfl (by rw[List.append_assoc,wT _ (by simp only[List.length_map,hA];omega)];exact lg _ (List.length_map _)) (by rw[hB];congr 1;omega) (by simp only[List.length_append,List.length_map,List.length_replicate,hA,hB];omega) rfl λU=>?_;refine aG λI a w U=>?_;refine U.o (kx (lo:=i) en cV .tt .tt rfl om om) λU=>?_;refine U.m λU=>?_;refine U.yE 0 en cV .tt .tt rfl bk (by simp only[List.length_singleton];omega) (by rw[lW (by simp only[List.length_map,List.length_append,List.length_replicate,hA,hB];omega)];simp only[List.length_singleton,List.length_append,List.length_map,List.length_replicate,hA,hB];omega) rfl λU=>?_;rw[HH (by simp only[List.length_map,hA];omega) (by simp only[List.length_map,g7];omega) (by simp only[List.length_map,List.length_replicate,g7];omega)] at U;have U:=U.tG (l:=l.take i++x::l.drop i) (cap:=cap) 0 rfl (by simp only[List.length_append,List.length_map,List.length_drop,List.length_replicate,hA,hB,g7];omega) nB om om om (by rw[rC,hlen];exact lg _ (by simp only[List.length_append,List.length_map,hA,hB,g7];omega));rw[show l.length+1=(l.take i++x::l.drop i).length by omega] at U;obtain⟨I,U⟩:=U.fr 0 0;have U:=U.drop 0;refine aF λI a w U=>?_;exact U.tI rfl (.cons (by first|exact .t rfl|exact .nil rfl) .nil) rfl rfl
 exfalso;simp at aM;skip
def abe (l:List au) (d:au):
 Fn prog 236 [bE l,d.av] (AV.int (eW l d)):=by
 refine Fn.go 19 func236 ntmps236 (λW I a U=>?_);have hle:=U.eC (t:=0) rfl;refine cI λI a w U=>?_;refine St.lo (σ:=Nat) (run 2 4 (run 11 8 [])) ⟨λk=>[(8,AV.int k)],λk=>[],λk=>k<=l.length/\∀i,i<k->(λe=>decide (e=d)) (ab l i)=false⟩ (λk=>l.length-k) 0 U ?aJ ?bF;case aJ=>exact⟨Nat.zero_le _,λi hi=>by omega⟩
 rintro k I a w an U;obtain⟨hk,aT⟩:=an;refine aB λI a w U=>?_;refine cz (λae=>?_) λae=>?_
 .refine aF λI a w U=>?_;refine U.dk ?_;refine gF ?_;refine .o (nj [_,_,_] [_,_,_] yN rfl rfl .tt .tt)<|.nil ?_;intro I a w U;refine bj ?_;refine U.cd (λah=>?_) λah=>?_
  .rw[BQ] at ah;rw[decide_eq_true_eq] at ah;refine dG ?_;exact fW (mQ ae aT (decide_eq_true ah.symm)).symm
  rw[BQ] at ah;rw[decide_eq_false_iff_not] at ah;refine aF λI a w U=>?_;exact U.ag (k+1) (⟨ae,λi h1=>by rcases Nat.lt_succ_iff_lt_or_eq.1 h1 with h|h;exact aT i h;rw[h];exact decide_eq_false λe=>ah e.symm⟩)
 refine zt ?_;refine bh ?_;exact fW (my om aT).symm
def B2 (l:List au) (d:au):
 Fn prog 207 [bE l,d.av] (AV.bool (decide (0<=eW l d))):=by
 refine Fn.go 9 func207 ntmps207 (λW I a U=>?_);refine bB λI a w U=>?_;refine U.o (.cl (abe ..)) λU=>?_;refine dG ?_;rfl
def zD (s:Server) (key:Int) (hl:s.aw.length=3):
 Fn prog 205 [s.av,AV.int key] (AV.bool (fq s key)):=by
 refine Fn.go 13 func205 ntmps205 (λW I a U=>?_);refine bm λI a w U=>?_;refine U.o (.c1 (Bw ..)) λU=>?_;refine bm λI a w U=>?_;refine U.q .T (OI (λhg=>Jp s key hg hl) (az .ag (az .ag aI))) λU=>?_;refine tJ ?_;rfl
def Rl (v:aE) (d:au):
 Fn prog 260 [v.av,AV.ptr d.cells] (AV.bool (ry d v)):=by
 refine Fn.go 8 func260 ntmps260 (λW I a U=>?_);refine cj λI a w U=>?_;refine U.o (.cl (B2 ..)) λU=>?_;refine bh ?_;rfl
def abf (n:Int) (l:List cx) (hn:cr n=true) (hl:∀s∈l,di s=true):
 Fn prog 257 [AV.int n,AV.rows 2 (l.map cx.cells)] (AV.dy [(nz n l).av,AV.bool (js l)]):=by
 refine Fn.go 36 func257 ntmps257 (λW I a U=>?_);have hle:=U.eC (t:=1) rfl;refine sr<|U.alloc rfl mP ke λb4 I a w U=>?_;refine cI λI a w U=>?_;refine St.lo (σ:=Nat) (run 2 5 (8::(run 13 11 []))) ⟨λk=>[(11,AV.int k),(6,AV.int (je (l.take k)))],λk=>[Own.box b4 50 [AV.val (.int .i64 0),AV.val (.int .i64 0)]],λk=>k<=l.length⟩ (λk=>l.length-k) 0 U ?aJ ?bF;case aJ=>exact Nat.zero_le _
 rintro k I a w an U;have hk:k<=l.length:=an;refine aB λI a w U=>?_;refine cz (λae=>?_) λae=>?_
 .refine aG λI a w U=>?_;refine U.alloc rfl mP ke λb8 I a w U=>?_;refine aB λI a w U=>?_;obtain⟨I,U⟩:=U.fb 1 8;refine U.o .la λU=>?_;refine U.o (.c1 (yY ..)) λU=>?_;refine aB λI a w U=>?_;refine U.cd (λah=>?_) λah=>?_
  .exfalso;simp only[B] at ah;rw[hl _ (bf ae)] at ah;cases ah;skip
  refine bm λI a w U=>?_;refine U.o (YI .tt .tt) λU=>?_;refine aR λI a w U=>?_;have U:=U.drop 1;refine U.again (k+1) ?iG ?iH eA ?iI (by repeat(first|exact Env.le_rfl|refine Env.ja rfl ?_));case iG=>omega
  case iH=>exact ae
  case iI=>exact(Env.dK rfl eA (Env.dK rfl (by exact congrArg AV.int (BO ae).symm) Env.le_nil))
 refine zt ?_;refine U.m λU=>U.o (.c1 (tQ ..)) λU=>?_;refine cI λI a w U=>?_;refine cz (λar=>?_) λar=>?_
 .refine zt ?_;refine U.o (.bd ke bc.nil) λU=>?_;refine aF λI a w U=>?_;rw[List.take_of_length_le om] at ar;refine U.ret rfl (.cons (.sx 0) (.cons (.t rfl) aW.nil)) ?_;have e:js l=false:=by rcases ar with h|h;(rw[hn] at h;cases h);unfold js;simp;omega
  exact(by unfold nz;rw[e];rfl)
 refine bK λI a w U=>?_;refine U.o (mH .tt .c (λ_=>by have:=EN hl k;omega)) λU=>?_;refine U.m λU=>?_;refine U.o (.bd ke (.k (.k bc.nil))) λU=>?_;refine aF λI a w U=>?_;rw[List.take_of_length_le om] at ar;refine U.ret rfl (.cons (.sx 0) (.cons (.t rfl) aW.nil)) ?_;have e:js l=true:=by have:=EN hl l.length;rw[List.take_length] at this;unfold js;simp;omega
 exact(by unfold nz;rw[e,List.take_of_length_le om];rfl)
def EX (l:List aE) (slot:Int) (h:l.length<=1048576) (hd:∀v∈l,v.aQ.length<=1048576):
 Fn prog 234 [cn l,AV.int slot] (AV.dy [cn (l.filter (eR slot)),cn (l.filter (λv=>!eR slot v))]):=by
 refine Fn.go 34 func234 ntmps234 (λW I a U=>?_);have U:=U.hP (sz:=7) 62;have U:=U.hP (sz:=7) 62;refine jD λI a w U=>?_;refine St.lo (σ:=Nat×Value×Value) (run 2 6 (9::(run 20 12 []))) ⟨λ⟨k,u,v⟩=>[(12,AV.int k),(6,AV.val u),(7,AV.val v)],λ⟨k,u,v⟩=>[Own.row u 62 7 (((l.take k).filter (eR slot)).map aE.cells),Own.row v 62 7 (((l.take k).filter (λv=>!eR slot v)).map aE.cells)],λ⟨k,u,v⟩=>k<=l.length⟩ (λ⟨k,u,v⟩=>l.length-k) (0,.slice none 0 0,.slice none 0 0) U ?aJ ?bF;case aJ=>exact Nat.zero_le _
 rintro⟨k,u,v⟩ I a w an U;have hk:k<=l.length:=an;have QZ:=sW (eR slot) l k;have BX:=sW (λv=>!eR slot v) l k;dsimp only at U;refine aB λI a w U=>?_;refine cz (λae=>?_) λae=>?_
 .refine aG λI a w U=>?_;refine U.alloc rfl bQ dO λb9 I a w U=>?_;refine aB λI a w U=>?_;obtain⟨I,U⟩:=U.fb 2 9;refine aG λI a w U=>?_;refine U.o (.c1 (Iv ..)) λU=>?_;refine aF λI a w U=>?_;refine U.cd (λah=>?_) λah=>?_
  .change(eR slot) (ab l k)=true at ah;refine aG λI a w U=>?_;refine U.o (.c1 (xh _ (hd _ (bf ae)))) λU=>?_;refine U.o (.li [(ab l k).cells] lX (.u .nil)) λU=>?_;refine U.ap 0 λxC a w U=>?_;rw[cF,<-nY (p:=(eR slot)) ae ah,show(l.take k).filter (λv=>!eR slot v)=(l.take (k+1)).filter (λv=>!eR slot v) from(ob ae (by show(!_)=false;rw[ah];rfl)).symm] at U;refine aR λI a w U=>?_;have U:=U.drop 2;exact U.ag (k+1,xC,v) (ae)
  change(eR slot) (ab l k)=false at ah;refine aG λI a w U=>?_;refine U.o (.c1 (xh _ (hd _ (bf ae)))) λU=>?_;refine U.o (.li [(ab l k).cells] lX (.u .nil)) λU=>?_;refine U.ap 1 λv30 a w U=>?_;rw[cF,<-nY (p:=(λv=>!eR slot v)) ae (by show(!_)=true;rw[ah];rfl),show(l.take k).filter (eR slot)=(l.take (k+1)).filter (eR slot) from(ob ae ah).symm] at U;refine aR λI a w U=>?_;have U:=U.drop 2;exact U.ag (k+1,u,v30) (ae)
 refine zt ?_;refine aZ λI a w U=>?_;obtain⟨I,U⟩:=U.fr 0 4;obtain⟨I,U⟩:=U.fr 1 5;refine U.rt ?_;exact(by rw[List.take_of_length_le om];rfl)
def Rm (l:List au) (slot:Int) (h:l.length<=1048576):
 Fn prog 235 [bE l,AV.int slot] (AV.dy [bE (l.filter (gG slot)),bE (l.filter (λd=>!gG slot d))]):=by
 refine Fn.go 32 func235 ntmps235 (λW I a U=>?_);have U:=U.hP (sz:=3) 115;have U:=U.hP (sz:=3) 115;refine jD λI a w U=>?_;refine St.lo (σ:=Nat×Value×Value) (run 2 6 (9::(run 18 12 []))) ⟨λ⟨k,u,v⟩=>[(12,AV.int k),(6,AV.val u),(7,AV.val v)],λ⟨k,u,v⟩=>[Own.row u 115 3 (((l.take k).filter (gG slot)).map au.cells),Own.row v 115 3 (((l.take k).filter (λd=>!gG slot d)).map au.cells)],λ⟨k,u,v⟩=>k<=l.length⟩ (λ⟨k,u,v⟩=>l.length-k) (0,.slice none 0 0,.slice none 0 0) U ?aJ ?bF;case aJ=>exact Nat.zero_le _
 rintro⟨k,u,v⟩ I a w an U;have hk:k<=l.length:=an;have QZ:=sW (gG slot) l k;have BX:=sW (λd=>!gG slot d) l k;dsimp only at U;refine aB λI a w U=>?_;refine cz (λae=>?_) λae=>?_
 .refine aG λI a w U=>?_;refine U.alloc rfl cV gK λb9 I a w U=>?_;refine aB λI a w U=>?_;obtain⟨I,U⟩:=U.fb 2 9;refine aG λI a w U=>?_;refine U.o (.c1 (Iv ..)) λU=>?_;refine aF λI a w U=>?_;refine U.cd (λah=>?_) λah=>?_
  .change(gG slot) (ab l k)=true at ah;refine aG λI a w U=>?_;refine U.o (.li [(ab l k).cells] iQ (.u .nil)) λU=>?_;refine U.ap 0 λB3 a w U=>?_;rw[cF,<-nY (p:=(gG slot)) ae ah,show(l.take k).filter (λd=>!gG slot d)=(l.take (k+1)).filter (λd=>!gG slot d) from(ob ae (by show(!_)=false;rw[ah];rfl)).symm] at U;refine aR λI a w U=>?_;have U:=U.drop 2;exact U.ag (k+1,B3,v) (ae)
  change(gG slot) (ab l k)=false at ah;refine aG λI a w U=>?_;refine U.o (.li [(ab l k).cells] iQ (.u .nil)) λU=>?_;refine U.ap 1 λJq a w U=>?_;rw[cF,<-nY (p:=(λd=>!gG slot d)) ae (by show(!_)=true;rw[ah];rfl),show(l.take k).filter (gG slot)=(l.take (k+1)).filter (gG slot) from(ob ae ah).symm] at U;refine aR λI a w U=>?_;have U:=U.drop 2;exact U.ag (k+1,u,Jq) (ae)
 refine zt ?_;refine aZ λI a w U=>?_;obtain⟨I,U⟩:=U.fr 0 4;obtain⟨I,U⟩:=U.fr 1 5;refine U.rt ?_;exact(by rw[List.take_of_length_le om];rfl)
def Jr {α:Type}:∀{l:List (List α)} {sz:Nat},(∀r∈l,r.length=sz)->∀{i:Nat},l.flatten.drop (i*sz)=(l.drop i).flatten
 |l,sz,h,0=>by simp
 |[],sz,h,i+1=>by simp
 |x::r,sz,h,i+1=>by
  have hx:x.length=sz:=h x bk;have ih:=Jr (l:=r) (sz:=sz) (λy hy=>h y (by simp[hy])) (i:=i);rw[List.flatten_cons,List.drop_succ_cons,<-ih,show(i+1)*sz=x.length+i*sz by rw[hx,Nat.succ_mul,Nat.add_comm],List.drop_append];simp
def jg {α:Type} (p:α->Bool) (l:List α) (j:Nat):List α:=kp p l j++l.drop (kp p l j).length
section
variable {α:Type} {p:α->Bool} {l:List α} {j:Nat}
def Js:(kp p l j).length<=j:=by
 have h1:=List.length_filter_le (λd=>!p d) (l.take j);have h2:(l.take j).length<=j:=by simp;omega
 unfold kp;omega
def abg (h:j<=l.length):(jg p l j).length=l.length:=by
 have:=Js (p:=p) (l:=l) (j:=j);unfold jg;simp;omega
def abh:kp p l l.length=l.filter λd=>!p d:=by unfold kp;rw[List.take_length]
variable [Inhabited α]
def EY (h:j<l.length) (hp:p (ab l j)=false):kp p l (j+1)=kp p l j++[ab l j]:=nY h (by rw[hp];rfl)
def B4 (h:j<l.length) (hp:p (ab l j)=true):kp p l (j+1)=kp p l j:=ob h (by rw[hp];rfl)
def abi (h:j<l.length):ab (jg p l j) j=ab l j:=by
 have:=Js (p:=p) (l:=l) (j:=j);unfold jg ab;rw[List.getD_eq_getElem?_getD,List.getD_eq_getElem?_getD,List.getElem?_append_right this,List.getElem?_drop];congr 2;omega
def abj (h:j<l.length) (hp:p (ab l j)=false):(jg p l j).set (kp p l j).length (ab l j)=jg p l (j+1):=by
 have:=Js (p:=p) (l:=l) (j:=j);have hi:(kp p l j).length<l.length:=by omega
 unfold jg;rw[EY h hp,List.set_append_right _ _ (Nat.le_refl _),Nat.sub_self];have e:l.drop (kp p l j).length=l[(kp p l j).length]::l.drop ((kp p l j).length+1):=List.drop_eq_getElem_cons hi;rw[e,List.set_cons_zero];simp
def abk (h:j<l.length) (hp:p (ab l j)=true):jg p l (j+1)=jg p l j:=by unfold jg;rw[B4 h hp]
def Jt (h:0<=df p l):kp p l ((df p l).toNat+1)=l.take (df p l).toNat:=by
 obtain⟨h1,h2,h3⟩:=EA h;rw[B4 h1 h2];unfold kp;rw[List.filter_eq_self];intro x hx;obtain⟨i,hi,rfl⟩:=List.getElem_of_mem hx;have qX:i<(df p l).toNat/\i<l.length:=by simp at hi;omega
 have:=h3 i qX.1;simpa[ab,qX.2] using this
def Rn (h:0<=df p l):jg p l ((df p l).toNat+1)=l:=by
 have h1:=(EA h).1;unfold jg;rw[Jt h,List.length_take,Nat.min_eq_left om,List.take_append_drop]
def abl (h:df p l<0):(l.filter λd=>!p d)=l:=by
 rw[List.filter_eq_self];intro x hx;obtain⟨i,hi,rfl⟩:=List.getElem_of_mem hx;have:=BB h i hi;simpa[ab,hi] using this
end
def abm (v:Value) (l:List (List AV)) (i:Nat) (hi:i<l.length) (hl:l.length<=1048576) (eQ:∀r∈l,r.length=7):
 dr prog 264 [AV.val v,AV.int i,AV.int ((i:Int)+1)] [Own.row v 62 7 l] (λ_:Value=>True) (λu=>[Own.row u 62 7 (l.take i++l.drop (i+1))]) AV.val:=by
 refine dr.intro 33 func264 rfl ntmps264 rfl aS (λW I a U=>?_);obtain⟨q,cap,rfl,nh⟩:=U.Bh 0 rfl;refine ee λI a w U=>?_;refine U.o (OJ (lo:=i) (hi:=i+1) (mx:=l.length) eJ bQ .tt .tt .tt .tt rfl om rfl om om om) λU=>?_;refine aR λI a w U=>?_;refine U.cd (λae=>?_) λae=>?_
 .exfalso;simp only[B] at ae;omega;skip
 refine aR λI a w U=>?_;have aX:l≠[]:=by intro e;rw[e] at hi;simp at hi
 obtain⟨b,oC,he,kT,jZ,mr,U⟩:=U.tF 0 rfl aX;simp only[Value.slice.injEq] at he;obtain⟨rfl,_,rfl⟩:=he;have hF:l.flatten.length=l.length*7:=hZ eQ;have hB:(l.drop (i+1)).flatten.length=(l.length-(i+1))*7:=by rw[hZ λr hr=>eQ r (List.mem_of_mem_drop hr),List.length_drop]
 have hlen:(l.take i++l.drop (i+1)).length=i+(l.length-(i+1)):=by simp;omega
 have nB:∀r∈(l.take i++l.drop (i+1)),r.length=7:=λr hr=>(List.mem_append.1 hr).elim (λh=>eQ r (List.mem_of_mem_take h)) λh=>eQ r (List.mem_of_mem_drop h);refine U.dt 6 ?_;simp only[TD];refine cB ?_;refine .o (tH (hi:=i) eJ bQ .tt .tt rfl om om) ?_;refine cB ?_;refine .o (H5 (lo:=i+1) eJ bQ .tt .tt om om om) ?_;refine .nil ?_;intro I a w U;refine U.OL (xs:=(l.drop (i+1)).flatten) 0 eJ bQ .tt .tt rfl (by rw[List.drop_append_of_le_length (by simp only[List.length_map,hF];exact Nat.mul_le_mul_right _ om),<-List.map_drop,Jr eQ];exact lg _ (List.length_map _)) hB om (by simp only[List.length_append,List.length_map,List.length_replicate,hF,hB];omega) rfl λU=>?_;refine cj λI a w U=>?_;refine U.o (OK (lo:=i+(l.length-(i+1))) (hi:=l.length) eJ bQ .tt .tt .tt rfl rfl om om) λU=>?_;refine U.H7 0 eJ bQ rfl lX .tt om rfl (by rw[lW]<;>simp only[List.length_append,List.length_map,List.length_replicate,hF,hB]<;>omega) λU=>?_;have U:=U.tG (l:=(l.take i++l.drop (i+1))) (cap:=cap) 0 rfl (by rw[lW,lW]<;>(try rw[lW])<;>simp only[List.length_append,List.length_map,List.length_replicate,hF,hB]<;>omega) nB om om om (OO eQ hi);rw[<-hlen] at U;refine aF λI a w U=>?_;refine U.dw _ [0] rfl (.cons (.t rfl) .nil) trivial rfl rfl
def abn {p:au->Bool} {l:List au} {j:Nat} {R Y:List (Option AV)} (h:(jg p l j).length=l.length):(over (((jg p l j).map au.cells).flatten.map some++R) ((kp p l j).length*3) Y).take (((kp p l j).map au.cells).length*3)=((kp p l j).map au.cells).flatten.map some:=by
 have hA:((kp p l j).map au.cells).flatten.length=(kp p l j).length*3:=by
  rw[hZ (sz:=3) λr hr=>by obtain⟨d,_,rfl⟩:=List.mem_map.1 hr;rfl,List.length_map]
 have e:((jg p l j).map au.cells).flatten=((kp p l j).map au.cells).flatten++((l.drop (kp p l j).length).map au.cells).flatten:=by
  unfold jg;rw[List.map_append,List.flatten_append]
 rw[List.length_map,e,List.map_append,ON (by simp only[List.length_append,List.length_map,hA];omega),List.append_assoc];exact List.take_left' (by rw[List.length_map,hA])
def abo (v:Value) (l:List au) (p:au->Bool) (fv:AV) (O:Own) (hl:l.length<=1048576) (hf:∀x,x∈l->Bt prog fv [x.av] [O] (AV.bool (p x))):
 jC prog 209 [AV.val v,fv] [Own.row v 115 3 (l.map au.cells),O] [Own.row v 115 3 (l.map au.cells),O] (AV.int (df p l)):=by
 refine jC.intro 19 func209 rfl ntmps209 rfl aS (λW I a U=>?_);refine aG λI a w U=>?_;refine U.o (sh 0 en .tt rfl) λU=>?_;refine aB λI a w U=>?_;refine St.lo (σ:=Nat) (run 2 4 (run 11 8 [])) ⟨λk=>[(8,AV.int k)],λk=>[Own.row v 115 3 (l.map au.cells),O],λk=>k<=l.length/\∀i,i<k->p (ab l i)=false⟩ (λk=>l.length-k) 0 U ?aJ ?bF;case aJ=>exact⟨Nat.zero_le _,λi hi=>by omega⟩
 rintro k I a w an U;obtain⟨hk,aT⟩:=an;dsimp only at U;refine aB λI a w U=>?_;refine U.cd (λae=>?_) λae=>?_
 .simp only[B,List.length_map] at ae;refine cj λI a w U=>?_;obtain⟨b,cap,rfl⟩:=U.j3 0 rfl ko;refine U.o (jj en cV .tt .tt (λ_=>by simp only[List.length_map];omega)) λU=>?_;refine U.o (si 0 cV .tt rfl (λ_=>by exact gh ae) rfl) λU=>?_;refine U.OM [1] (hf _ (bf ae)) .tt (az .tt aI) rfl aN rfl λI a w U=>?_;refine zt ?_;refine U.cd (λah=>?_) λah=>?_
  .refine aF λI a w U=>?_;refine U.dw () [0,1] rfl (.cons (.t rfl) .nil) trivial rfl (fW (mQ ae aT ah).symm)
  refine aF λI a w U=>?_;exact U.ag (k+1) (⟨ae,λi h1=>by rcases Nat.lt_succ_iff_lt_or_eq.1 h1 with h|h;exact aT i h;rw[h];exact ah⟩)
 simp only[B,List.length_map] at ae;refine zt ?_;refine aB λI a w U=>?_;refine U.dw () [0,1] rfl (.cons (.t rfl) .nil) trivial rfl (fW (my om aT).symm)
def Ju (v:Value) (l:List au) (p:au->Bool) (fv:AV) (O:Own) (hl:l.length<=1048576) (hf:∀x,x∈l->Bt prog fv [x.av] [O] (AV.bool (p x))):
 dr prog 244 [AV.val v,fv] [Own.row v 115 3 (l.map au.cells),O] (λ_:Value=>True) (λu=>[Own.row u 115 3 ((l.filter λd=>!p d).map au.cells),O]) AV.val:=by
 refine dr.intro 42 func244 rfl ntmps244 rfl aS (λW I a U=>?_);refine bm λI a w U=>?_;refine U.fm [0,1] (abo v l p fv O hl hf) (az .tt (az .tt aI)) rfl aN rfl λI a w U=>?_;refine aR λI a w U=>?_;refine U.cd (λae=>?_) λae=>?_
 .refine aF λI a w U=>?_;simp only[B] at ae;refine U.dw v [0,1] rfl (.cons (.t rfl) .nil) trivial (by rw[abl om];rfl) rfl
 refine wp_skip<|bj<|wp_seq<|wp_seq ?_;simp only[B] at ae;have sf:=ZY p l;have h0:0<=df p l:=by omega
 obtain⟨h1,h2,h3⟩:=EA h0;obtain⟨b,cap,rfl⟩:=U.j3 0 rfl ko;rw[show l.map au.cells=(jg p l ((df p l).toNat+1)).map au.cells from by rw[Rn h0]] at U;rw[show((jg p l ((df p l).toNat+1)).map au.cells).length=(l.map au.cells).length from by rw[Rn h0]] at U;refine aR λI a w U=>?_;refine St.GS (σ:=Nat) (run 3 5 (run 20 16 [])) ⟨λj=>[(6,AV.int j),(5,AV.int (kp p l j).length)],λj=>[Own.row (.slice (some ⟨b,0,none⟩) (l.map au.cells).length cap) 115 3 ((jg p l (j)).map au.cells),O],λj=>j<=l.length/\(kp p l j).length<j⟩ (λj=>l.length-j) ((df p l).toNat+1) U rfl ?aJ ?abp ?bF;case aJ=>exact⟨by omega,by rw[Jt h0,List.length_take];omega⟩
 case abp=>exact(Env.dK rfl (by exact congrArg AV.int om) (Env.dK rfl (by exact congrArg AV.int (by rw[Jt h0,List.length_take];omega)) Env.le_nil))
 rintro j I a w an U;obtain⟨hj,hkj⟩:=an;dsimp only at U;have mg:=abg (p:=p) hj;have hle:(l.map au.cells).length=((jg p l (j)).map au.cells).length:=by rw[List.length_map,List.length_map,mg]
 refine aG λI a w U=>?_;refine U.o (sh 0 en .tt rfl) λU=>?_;refine aB λI a w U=>?_;refine U.cd (λah=>?_) λah=>?_
 .simp only[B,List.length_map] at ah;have ah:j<l.length:=by omega
  refine aG λI a w U=>?_;rw[hle] at U;refine U.o (jj en cV .tt .tt (λ_=>by simp only[List.length_map];omega)) λU=>?_;refine U.o (si 0 cV .tt rfl (λ_=>by show((jg p l j).map au.cells)[j]?=some (ab l j).cells;rw[<-abi (p:=p) ah];exact gh om) rfl) λU=>?_;refine U.alloc rfl cV gK λb7 I a w U=>?_;refine aB λI a w U=>?_;obtain⟨I,U⟩:=U.fb 2 7;refine aG λI a w U=>?_;refine U.OM [1] (hf _ (bf ah)) .tt (az .tt aI) rfl aN rfl λI a w U=>?_;refine aB λI a w U=>?_;refine cz (λar=>?_) λar=>?_
  .refine wp_seq ?_;have hw:(kp p l j).length<(jg p l j).length:=by omega
   refine bm λI a w U=>?_;refine U.o (jj en cV .tt .tt (λ_=>by simp only[List.length_map];omega)) λU=>?_;refine U.lS 0 cV .tt .tt rfl (by exact gh hw) rfl rfl λa w U=>?_;refine iP λI a w U=>?_;have U:=U.drop 2;rw[Int.toNat_natCast (kp p l j).length] at U;rw[show((jg p l (j)).map au.cells).set (kp p l j).length (ab l j).cells=(jg p l (j+1)).map au.cells from by rw[<-abj ah ar,List.map_set]] at U;rw[<-hle] at U;refine U.again (j+1) ?iG ?iH eA ?iI (by repeat(first|exact Env.le_rfl|refine Env.ja rfl ?_));case iG=>omega
   case iH=>exact⟨ah,by rw[EY ah ar,List.length_append];simp;omega⟩
   case iI=>exact(Env.dK rfl eA (Env.dK rfl (by first|exact congrArg AV.int (by rw[EY ah ar,List.length_append];simp)|exact congrArg AV.int (by rw[B4 ah ar])) Env.le_nil))
  refine aR λI a w U=>?_;have U:=U.drop 2;rw[<-hle,<-abk ah ar] at U;refine U.again (j+1) ?nC ?nD eA ?nE (by repeat(first|exact Env.le_rfl|refine Env.ja rfl ?_));case nC=>omega
  case nD=>exact⟨ah,by rw[B4 ah ar];omega⟩
  case nE=>exact(Env.dK rfl eA (Env.dK rfl (by first|exact congrArg AV.int (by rw[EY ah ar,List.length_append];simp)|exact congrArg AV.int (by rw[B4 ah ar])) Env.le_nil))
 simp only[B,List.length_map] at ah;refine zt ?_;refine aG λI a w U=>?_;have aX:((jg p l (j)).map au.cells)≠[]:=by intro e;have:=congrArg List.length e;simp only[List.length_map,List.length_nil] at this;omega
 obtain⟨b2,oC,he,kT,jZ,mr,U⟩:=U.tF 0 rfl aX;simp only[Value.slice.injEq,Option.some.injEq,Addr.mk.injEq] at he;obtain⟨⟨rfl,_⟩,_,rfl⟩:=he;refine U.o (H5 (lo:=(kp p l j).length) en cV .tt .tt rfl ko (by rw[hle];exact kT)) λU=>?_;have hF:((jg p l (j)).map au.cells).flatten.length=((jg p l (j)).map au.cells).length*3:=hZ (λr hr=>by obtain⟨d,_,rfl⟩:=List.mem_map.1 hr;rfl);refine U.H7 0 en cV rfl iQ .tt ko rfl (by simp only[List.length_append,List.length_map,List.length_replicate,hF,mg];omega) λU=>?_;have U:=U.tG (l:=(kp p l j).map au.cells) (cap:=cap) 0 rfl (by rw[lW]<;>simp only[List.length_append,List.length_map,List.length_replicate,hF,mg]<;>simp only[List.length_map,mg] at kT<;>omega) (λr hr=>by obtain⟨d,_,rfl⟩:=List.mem_map.1 hr;rfl) (by rw[List.length_map];simp only[List.length_map,mg] at kT;omega) mr jZ (abn mg);rw[show((kp p l j).map au.cells).length=(kp p l j).length from List.length_map _] at U;refine aG λI a w U=>?_;refine U.o (tH (hi:=(kp p l j).length) en cV .tt .tt rfl (by simp only[List.length_map,mg] at kT;omega) mr) λU=>?_;refine aB λI a w U=>?_;obtain rfl:j=l.length:=by omega
 rw[abh] at U;refine U.dw _ [0,1] rfl (.cons (.t rfl) .nil) trivial (by rw[List.length_map];rfl) rfl
def abq {l:List aE} {v:aE} (hv:dL v=true) (hl:l.length<80):(if ix l v then fJ l v else l)=eY l v:=by
 unfold ix eY;rw[hv];by_cases hp:placeOf l v.aU<0
 .simp[hp,hl]
 simp[hp]
def Call.zq (q:Call) (g n:Value):AV:=.agg [AV.int q.ao,AV.int q.num,AV.int q.kind,jb q.keys,AV.int q.val,bE q.ctx,AV.int q.bH,AV.int q.end_,AV.bool q.over,AV.int q.aq.time,AV.int q.aq.site,.val g,.val n]
def abr (q:Call) (h:zn q):
 dr prog 85 [q.av] [] (λ_:Value×Value=>True) (λu=>[Own.row u.1 128 9 (q.aC.map Answer.cells),Own.row u.2 115 3 (q.aL.map au.cells)]) (λu=>q.zq u.1 u.2):=by
 refine dr.intro 45 func85 rfl ntmps85 rfl aS (λW I a U=>?_);obtain⟨h1,h2,h4,h5,h3⟩:=h;refine sr<|U.box rfl .tt λb1 I a w U=>U.alloc rfl fI j4 λb2 I a w U=>?_;refine zt ?_;refine U.l0 λb6 I a w U=>?_;refine aG λI a w U=>?_;refine U.ap 2 λv9 a w U=>?_;obtain⟨I,U⟩:=U.fr 2 9;refine U.o .fv λU=>?_;try have ho9:=U.ff 2 rfl
 refine aB λI a w U=>?_;refine U.l0 λma I a w U=>?_;refine aG λI a w U=>?_;refine U.ap 3 λmC a w U=>?_;obtain⟨I,U⟩:=U.fr 3 14;refine U.o .fv λU=>?_;try have Ro:=U.ff 3 rfl
 refine aB λI a w U=>?_;refine U.l0 λBV I a w U=>?_;refine aG λI a w U=>?_;refine U.ap 4 λrE a w U=>?_;simp only[List.nil_append] at U;refine U.o .fv λU=>?_;try have abt:=U.ff 4 rfl
 refine aB λI a w U=>?_;refine U.l0 λB5 I a w U=>?_;refine aF λI a w U=>?_;refine St.lo (σ:=Nat×Value) (run 3 3 (run 20 22 [])) ⟨λ⟨k,v⟩=>[(4,AV.int k),(3,AV.val v)],λ⟨k,v⟩=>[Own.box b1 53 [AV.int q.ao,AV.int q.num,AV.int q.kind,jb q.keys,AV.int q.val,bE q.ctx,AV.int q.bH,AV.int q.end_,AV.bool q.over,AV.int q.aq.time,AV.int q.aq.site,sw q.aC,AV.val rE],Own.box b2 53 [AV.val (.int .i64 0),AV.val (.int .i64 0),AV.val (.int .i64 0),AV.rows 1 [],AV.val (.int .i64 0),AV.rows 3 [],AV.val (.int .i64 0),AV.val (.int .i64 0),AV.val (.bool false),AV.val (.int .i64 0),AV.val (.int .i64 0),AV.rows 9 [],AV.rows 3 []],Own.gone,Own.gone,Own.row rE 115 3 (q.aL.map au.cells),Own.row v 128 9 ((q.aC.take k).map Answer.cells)],λ⟨k,v⟩=>k<=q.aC.length⟩ (λ⟨k,v⟩=>q.aC.length-k) (0,.slice (some ⟨B5,0,none⟩) 0 0) U ?aJ ?bF;case aJ=>exact Nat.zero_le _
 rintro⟨k,v⟩ I a w an U;have hk:k<=q.aC.length:=an;dsimp only at U;refine cI λI a w U=>?_;refine cz (λae=>?_) λae=>?_
 .refine cj λI a w U=>?_;refine U.alloc rfl ga pD λb5 I a w U=>?_;refine bm λI a w U=>?_;refine U.o (.c1 (pO _ (h5 _ (bf ae)))) λU=>U.o .fv λU=>U.se 6 bQ .tt .tt rfl rfl rfl λa w U=>?_;refine aG λI a w U=>?_;refine U.o (.li [(ab q.aC k).cells] ve (.u .nil)) λU=>?_;refine U.ap 5 λEZ a w U=>?_;rw[cF,<-eT ae] at U;refine aZ λI a w U=>?_;have U:=U.drop 6;exact U.ag (k+1,EZ) (ae)
 refine wp_exit<|cy<|cy<|fk<|bj<|wp_seq ?_;rw[List.take_of_length_le om] at U;refine aG λI a w U=>?_;try have anW:=U.ff 5 rfl
 refine aR λI a w U=>?_;exact U.dw (v,rE) [5,4] rfl (.cons (.s 1 fI rfl rfl (by first|rfl|assumption)) .nil) trivial rfl rfl
structure nG (l:List Answer) (v:Answer) (k:Nat) (done:Bool) (out:List Answer):Prop where
 hk:k<=l.length
 eq:c8 l v=if done then out++l.drop k else out++c8 (l.drop k) v
 len:out.length<=k+done.toNat
def nG.zero (l:List Answer) (v:Answer):nG l v 0 false []:=⟨Nat.zero_le _,by simp,by simp⟩
def oc (q:Call):Nat->List au
 |0=>q.aL
 |k+1=>oc q k++nV (fR q) (ab q.aC k)
def Rp (q:Call):∀k,k<=q.aC.length->oc q k=q.aL++((q.aC.take k).map (nV (fR q))).flatten
 |0,_=>by simp[oc]
 |k+1,h=>by
  show oc q k++_=_;rw[Rp q k om,eT om,List.map_append,List.flatten_append,List.append_assoc];simp
def Jv {q:Call} {k:Nat} (h:k<q.aC.length):oc q (k+1)=oc q k++nV (fR q) (ab q.aC k):=rfl
def abu {q:Call} {k:Nat} (h:k<q.aC.length) (hl:bV (ab q.aC k).bl.aq (bN (fR q) (ab q.aC k).key)=true):oc q k++[⟨(ab q.aC k).key,bN (fR q) (ab q.aC k).key⟩]=oc q (k+1):=by
 rw[Jv h];unfold nV;rw[if_pos hl]
def abv {q:Call} {k:Nat} (h:k<q.aC.length) (hl:¬bV (ab q.aC k).bl.aq (bN (fR q) (ab q.aC k).key)=true):oc q k=oc q (k+1):=by
 rw[Jv h];unfold nV;rw[if_neg hl,List.append_nil]
def Rq (q:Call):∀k,k<=q.aC.length->(oc q k).length<=q.aL.length+k
 |0,_=>by simp[oc]
 |k+1,h=>by
  have ih:=Rq q k om;rw[Jv om,List.length_append];have:(nV (fR q) (ab q.aC k)).length<=1:=by unfold nV;split<;>simp
  omega
def abw {q:Call} {k:Nat} (hk:k<=q.aC.length) (h:q.aC.length<=k):oc q k=q.aL++kQ q:=by rw[Rp q k hk];unfold kQ;rw[List.take_of_length_le h]
def abx {q:Call} {a:Answer} {k:Nat} (h:k<q.aL.length) (he:ab q.aL k=a.bl.aU):pS q a (k+1)=q.aC.set (cm q a.key).toNat a:=by
 unfold pS;rw[if_pos ((Il h).2 (.inr he.symm))]
def aby (q:Call) (a:Answer) (k:Nat):(pU q a k).length<=q.aL.length:=sW _ _ _
def vC.snoc {l:List aE} {I0:Im} {xs:List (uf l I0)} {x:uf l I0} (h:vC xs) (hx:x.1.1+1+xs.length=l.length):vC (xs++[x]):=λj y e=>by
 rcases Nat.lt_or_ge j xs.length with hj|hj
 .rw[List.getElem?_append_left hj] at e;exact h j y e
 rw[List.getElem?_append_right hj] at e;cases hk:j-xs.length with
 |zero=>rw[hk] at e;obtain rfl:x=y:=by simpa using e
        rw[show j=xs.length from by omega];exact hx
 |succ k=>rw[hk] at e;simp at e
def abz (l:List aE) (n:Nat) (hn:1<=n) (I0:Im) (w0:World) (hm:eB w0 I0) (G:Nat->Prop) (hG:∀b cs,I0 b=some cs->¬G b) (p:Value) (hp:(AV.ptr [cn l]).h I0 p):
 SeqStopsK Fence.wide n prog 177 #[p] (λx:uf l I0=>#[.int .i64 x.1.1,x.1.2]) (Kept G) (λxs=>xs.length=l.length/\vC xs) vC l.length w0:=λlp J Jx W hW hJ hJx hY h0=>by
 have hmW:eB W I0:=λb cs e=>by
  obtain⟨T,fr,k⟩:=hm b cs e;exact⟨T,fr,(hW.block b (hm.lt e)).trans k⟩
 obtain⟨vs,po,E0,zE⟩:∃vs:List (List Value),vs.length=l.length/\(AV.ptr [AV.rows 7 (vs.map Je)]).h I0 p/\∀i,i<l.length->bO I0 (ab l i).cells (vs.getD i [])/\(AV.agg (ab l i).cells).h I0 (.agg (ab vs i).toArray)/\(ab vs i).length=7:=by
  obtain⟨q,e,h1,cs,h2,h3⟩:=hp;generalize hd:(cs.toList.drop q.off).take 1=ds at h3;match ds,h3 with
  |[v],h3=>
   obtain⟨vs,e1,e4,e2,e3⟩:=YZ h3.1.1
   rw[List.map_congr_left λr hr=>QD (e4 r hr)] at e2
   refine⟨vs,by simpa using e1,⟨q,e,h1,cs,h2,by show bO _ _ (List.take 1 _);rw[hd];exact⟨⟨e2,h3.1.2⟩,trivial⟩⟩,λi hi=>?_⟩
   have:=e3 i (by simpa using hi)
   rw[VR aE.cells l i hi,show l[i]! =ab l i from by simp[ab,hi]] at this
   have hv:i<vs.length:=by rw[e1];simpa using hi
   have he:vs.getD i []=ab vs i:=by simp[ab,hv]
   exact⟨this,⟨_,rfl,by rw[<-he];exact this⟩,e4 _ (bf hv)⟩
 refine YW (F:=lF) 19 func177 rfl ntmps177 (args:=[.val (.func (.yield lp) #[] #[]),.val p]) rfl hmW ⟨rfl,rfl,trivial⟩ λa U=>?_;have hQ:∀a w,¬bodyPost prog f177 (λe W'=>(∃v,e=.returned v)/\((∃xs:List (uf l I0),(xs.length=l.length/\vC xs)/\J xs W')\/∃pre,vC pre/\Jx pre W')) .outgrown a w:=λa w h=>by obtain⟨⟨v,e⟩,_⟩:=h;cases e
 have E1:∀{A B:World} {xs},A.grownBy B none->J xs A->J xs B:=λh k=>hJ _ _ _ none k h (λr e=>by cases e);have abC:∀{A B:World} {xs},A.grownBy B none->Jx xs A->Jx xs B:=λh k=>hJx _ _ _ none k h (λr e=>by cases e);refine wpIn_seq (yP (by exact hQ) rfl ?_);refine U.oU 1 E0 .l1 λ{I a w} U=>?_;have hle:=U.eC (t:=4) rfl;refine bm λI a w U=>?_;refine nn ?_;refine wpIn_block (wpIn_loop (λa w=>∃(k:Nat) (pre:List (uf l I0)),St ⟨w,I0,19,lF⟩ I0 [] [(3,.int ((k:Int)-1)),(1,.val p),(0,.val (.func (.yield lp) #[] #[]))] a w/\pre.length+k=l.length/\vC pre/\J pre w) (λa _=>Jd a) ?_ ?_)
 .refine⟨l.length,[],?_,by simp,λj x e=>by simp at e,E1 (U.grown rfl) h0⟩;refine(U.base [(3,.int .i64 ((l.length:Int)-1)),(1,p),(0,.func (.yield lp) #[] #[])] (by rw[<-po];rfl))
 rintro a w ⟨k,pre,U,hk,hd,Rr⟩;have hmu:=QC U;refine wpIn_seq (wpIn_seq (yP (by exact hQ) rfl ?_));refine aG λI a w U=>?_;refine nn ?_;refine wpIn_cond_split (U.env 8 _ rfl) (λae=>?_) (λae=>?_)
 .refine wpIn_skip ?_;refine bj ?_;have ae:1<=k:=by simp only[B] at ae;omega
  refine wpIn_seq (wpIn_block (wpIn_seq (wpIn_region_lit ?_)));refine DX (by exact hQ) [_,_] [_,_,_,_,_,_] rfl ?_;have mg:k<=vs.length:=by omega
  refine aG λI a w U=>?_;refine U.oU 1 E0 .l1 λ{I a w} U=>?_;refine bm λI a w U=>?_;have hJ2:=E1 (U.grown rfl) Rr;have hx:((k:Int)-1).toNat<l.length:=by omega
  refine nn (wpListIn_plain rfl λK hK=>?_);have Ih:a.eval (.tmp 12)=.int .i64 ((((k:Int)-1).toNat:Nat):Int):=by
   rw[show a.eval (.tmp 12)=.int .i64 ((k:Int)-1) from U.env 12 _ rfl];congr 1;omega
  have h16:a.eval (.tmp 16)=.agg (ab vs ((k:Int)-1).toNat).toArray:=by
   have:(AV.agg (Je (ab vs ((k:Int)-1).toNat))).h I (a.eval (.tmp 16)):=U.env 16 _ rfl;rw[<-QD (zE _ hx).2.2] at this;exact YY this
  have nk:(#[.tmp 12,.tmp 16]:Array Operand).map a.eval=#[.int .i64 ((((k:Int)-1).toNat:Nat):Int),.agg (ab vs ((k:Int)-1).toNat).toArray]:=by simp[Ih,h16]
  refine YV (λ_=>trivial) rfl (U.env 11 _ rfl) nk (hY pre ⟨(((k:Int)-1).toNat,.agg (ab vs ((k:Int)-1).toNat).toArray),hx,(zE _ hx).2.1⟩ w hJ2 om) λe w' he=>?_;have uk:=hd.snoc (x:=⟨(((k:Int)-1).toNat,.agg (ab vs ((k:Int)-1).toNat).toArray),hx,(zE _ hx).2.1⟩) (by show((k:Int)-1).toNat+1+_=_;omega);rcases he with⟨rfl,Jw,Bc⟩|⟨rfl,Jw⟩
  .refine⟨_,rfl,hK _ _ ?_⟩;have U:=(U.HE [(3,.int .i64 ((k:Int)-1)),(1,p),(0,.func (.yield lp) #[] #[])] hG Bc).DY (d:=17) (x:=.bool true) (v:=.bool true) (show 17<19 from by decide) rfl;refine DX (by exact hQ) [] [_] rfl ?_;refine bK λI a w U=>?_;refine nn ?_;refine bj ?_;refine wpIn_cond_split (U.env 18 _ rfl) (λah=>by cases ah) (λah=>?_);refine wpIn_skip ?_;refine wB ?_;refine bj ?_;refine yP (by exact hQ) rfl ?_;refine bm λI a w U=>?_;have h3:St _ _ _ _ _ _:=U.base [(3,.int .i64 ((((k-1:Nat)):Int)-1)),(1,p),(0,.func (.yield lp) #[] #[])] (by rw[show(((k-1:Nat):Int)-1)=(k:Int)-1-1 from by omega];rfl);refine wpList_nil (bj ?_);refine⟨⟨k-1,_,h3,by simp;omega,uk,E1 (U.grown rfl) Jw⟩,?_⟩;rw[hmu,QC (k:=k-1) h3];omega
  refine⟨_,rfl,hK _ _ ?_⟩;have U:=(U.blank w' []).DY (d:=17) (x:=.bool false) (v:=.bool false) (show 17<19 from by decide) rfl;refine DX (by exact hQ) [] [_] rfl ?_;refine bK λI a w U=>?_;refine nn ?_;refine bj ?_;refine wpIn_cond_split (U.env 18 _ rfl) (λah=>?_) (λah=>by cases ah);refine wpIn_ret ?_;refine wC (yq (yq (wC ?_)));exact⟨U.defers,_,results_none rfl _ _ _,⟨_,rfl⟩,.inr ⟨_,uk,abC (U.grown rfl) Jw⟩⟩
 refine wpIn_exit ?_;refine cy (cy (fk ?_));have Jy:k=0:=by
  have ae:¬(0<=(k:Int)-1):=by simpa using ae
  omega
 exact⟨U.defers,_,results_none rfl _ _ _,⟨_,rfl⟩,.inl ⟨_,⟨by omega,hd⟩,E1 (U.grown rfl) Rr⟩⟩
def abG {l:List au} {d:au} {k:Nat} (h:l.Pairwise λa b=>a≠b) (hk:k<l.length) (e:ab l k=d):l.filter (λx=>!decide (x=d))=l.take k++l.drop (k+1):=by
 have e1:l=l.take k++d::l.drop (k+1):=by rw[<-e,<-mh hk,List.take_append_drop]
 have hp:=h;rw[e1,List.pairwise_append,List.pairwise_cons] at hp;conv=>lhs;rw[e1]
 rw[List.filter_append,List.filter_cons_of_neg bk,List.filter_eq_self.2 λx hx=>(by simpa using hp.2.2 x hx d bk),List.filter_eq_self.2 λx hx=>(by simpa usingλe=>hp.2.1.1 x hx e.symm)]
end Go.Proofs.YtdanidpleofjgaaGreat

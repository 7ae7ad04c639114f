/- Part 26: contracts of functions, plain facts. -/
import Derived.Test.YtldbakcpcfdlaaaGreatA20
import Derived.Test.YtldbakcpcfdlaaaGreatA22
set_option linter.all false
set_option maxRecDepth 100000
set_option maxHeartbeats 4000000
namespace Go.Proofs.YtldbakcpcfdlaaaGreat
open Go Go.RowKit Tryz
attribute [local irreducible] wpList Code.wp Ok
def GB (m:aw) (h1:iQ m.aY) (h2:iQ m.to):
 Fn prog 69 [m.av] (AV.bool (bQ m)):=by
 refine Fn.go 66 func69 ntmps69 (λW I a U=>?_);refine bj λI a w U=>?_;refine U.o (.cl (ij ..)) λU=>?_;refine bc λI a w U=>?_;refine U.q .T (.cl (NM _ h1)) λU=>?_;refine bj λI a w U=>?_;refine U.q .T (.cl (NM _ h2)) λU=>?_;refine bj λI a w U=>?_;refine U.q .T (.cl (ij ..)) λU=>?_;refine bj λI a w U=>?_;refine U.q .T (.cl (x3 ..)) λU=>?_;refine bj λI a w U=>?_;refine U.q .T (.cl (NZ ..)) λU=>?_;refine bj λI a w U=>?_;refine U.q .T (.cl (ij ..)) λU=>?_;refine bj λI a w U=>?_;refine U.q .T (.cl (yc ..)) λU=>?_;refine bj λI a w U=>?_;refine U.q .T (.cl (ij ..)) λU=>?_;refine bj λI a w U=>?_;refine U.q .T (.cl (ij ..)) λU=>?_;refine bj λI a w U=>?_;refine U.q .T (.cl (yH ..)) λU=>?_;refine bj λI a w U=>?_;refine U.q .T (.cl (yH ..)) λU=>?_;refine bj λI a w U=>?_;refine U.q .T (.cl (FW ..)) λU=>?_;refine dh ?_;rfl
def aab (q:Call) (t:Int) (hq:eY q t=true) (ht:q.bq+q.end_<=4611686018427387904) (hl:-4611686018427387904<=q.end_) (sw:q.az.length<=1048576):
 Fn prog 308 [q.av] (bf (jx q)):=by
 refine Fn.go 68 func308 ntmps308 (λW I a U=>?_);have lens:q.keys.length<=9223372036854775807/\q.az.length<=9223372036854775807/\q.aL.length<=9223372036854775807:=⟨U.ln 0 3,U.ln 0 11,U.ln 0 12⟩;have hp:=Bc hq;have gA:=(rf (acc:=[]) rfl hp.2.1).1;have dN:=E9 hq;have hc6:=dY hp.1;have hjo:bP (iZ q.ctx (eL q))=true:=we hp.1 λd hd=>nV gA hd;have mE:=YH hp.1 hp.2.1;refine j3 λI a w U=>?_;refine U.o (.c2 (B0 _ _ ht sw)) λU=>?_;refine ao λI a w U=>?_;refine U.cd (λae=>?_) λae=>?_
 .exfalso;rw[dN] at ae;cases ae;skip
 refine zt ?_;refine U.l0 λra I a w U=>?_;refine aF λI a w U=>?_;refine U.ap 0 λv17 a w U=>?_;obtain⟨I,U⟩:=U.fr 0 17;have U:=U.drop 0;refine aV λI a w U=>?_;refine cz (λah=>?_) λah=>?_
 .refine dh ?_;exact congrArg bf (by unfold jx;rw[if_pos ah])
 refine aM λI a w U=>?_;refine cz (λaj=>?_) λaj=>?_
 .refine wp_seq<|U.dk ?_;refine dw ?_;refine .o ((by first|exact dE cG cB .tt .c (λ_=>by have:=tF hp.2.2.1 aj;omega)|exact eG cG cB .tt .c (λ_=>by have:=tF hp.2.2.1 aj;omega)|exact eM cG cB .tt .c (λ_=>by have:=tF hp.2.2.1 aj;omega))) ?_;refine dw ?_;refine .o (.bd ez (.k (.t aT.nil))) ?_;refine .o (.cl (A0 _ ⟨ab q.keys 0,q.ax⟩ hp.1 (XO hq aj ah))) ?_;refine aW ?_;refine .nil ?_;intro I a w U;refine zt ?_;refine U.rt ?_;exact congrArg bf (by unfold jx;rw[if_neg ah,if_pos aj])
 refine aF λI a w U=>?_;refine U.o (.c1 (Xm _ hp.2.1)) λU=>?_;refine U.o (.cl (FK _ _ hp.1 gA)) λU=>?_;refine aq λI a w U=>?_;refine St.lo (σ:=Nat) (run 2 3 (run 29 38 [])) ⟨λk=>[(4,AV.int k),(3,bf ((q.az.take k).foldl pI (iZ q.ctx (eL q))))],λk=>[],λk=>k<=q.az.length⟩ (λk=>q.az.length-k) 0 U ?aH ?bx;case aH=>exact Nat.zero_le _
 rintro k I a w al U;have hk:k<=q.az.length:=al;refine cn λI a w U=>?_;refine cz (λaG=>?_) λaG=>?_
 .refine iU λI a w U=>?_;refine cz (λaK=>?_) λaK=>?_
  .refine U.dk ?_;refine qz ?_;refine .o (.bd ez (.k (.t aT.nil))) ?_;refine .o (cq (A0 _ ⟨(ab q.az k).key,(ab q.az k).bF.ax⟩ (BO hjo (wi hp.2.1 k)).1 (by have:=yt (hp.2.1 _ (bB aG)) aK;rw[<-this.2];exact this.1)) (ai .r (ai (.t rfl) aB))) ?_;refine aW ?_;refine .nil ?_;intro I a w U;refine aM λI a w U=>?_;refine U.again (k+1) ?ik ?il ef ?im (by repeat(first|exact Env.le_rfl|refine Env.iB rfl ?_));case ik=>omega
   case il=>exact aG
   case im=>exact(Env.dM rfl ef (Env.dM rfl (by exact congrArg bf (by rw[wh aG];unfold pI;rw[aK];rfl)) Env.le_nil))
  refine aM λI a w U=>?_;refine U.again (k+1) ?ox ?oz ef ?oA (by repeat(first|exact Env.le_rfl|refine Env.iB rfl ?_));case ox=>omega
  case oz=>exact aG
  case oA=>exact(Env.dM rfl ef (Env.dM rfl (by exact congrArg bf (by rw[wh aG];unfold pI;rw[aK];rfl)) Env.le_nil))
 refine zt ?_;refine dh ?_;exact congrArg bf (by rw[List.take_of_length_le om,<-mE];unfold FX;rw[if_neg ah,if_neg aj])
def aae (q:Call) (t:Int) (hq:eY q t=true):
 Fn prog 96 [q.av] (bf (jx q)):=by
 refine Fn.go 45 func96 ntmps96 (λW I a U=>?_);have lens:q.keys.length<=9223372036854775807/\q.az.length<=9223372036854775807/\q.aL.length<=9223372036854775807:=⟨U.ln 0 3,U.ln 0 11,U.ln 0 12⟩;have hp:=Bc hq;have hc6:=dY hp.1;refine bj λI a w U=>?_;refine U.o (cq (qQ q.ctx om) (ai .r aB)) λU=>?_;refine aV λI a w U=>?_;refine cz (λae=>?_) λae=>?_
 .refine dh ?_;exact congrArg bf (by unfold jx;rw[if_pos ae])
 refine aM λI a w U=>?_;refine cz (λah=>?_) λah=>?_
 .refine wp_seq<|U.dk ?_;refine dw ?_;refine .o ((by first|exact dE cG cB .tt .c (λ_=>by have:=tF hp.2.2.1 ah;omega)|exact eG cG cB .tt .c (λ_=>by have:=tF hp.2.2.1 ah;omega)|exact eM cG cB .tt .c (λ_=>by have:=tF hp.2.2.1 ah;omega))) ?_;refine dw ?_;refine .o (.bd ez (.k (.t aT.nil))) ?_;refine .o (.cl (Fa _ ⟨ab q.keys 0,q.ax⟩ hp.1)) ?_;refine aW ?_;refine .nil ?_;intro I a w U;refine zt ?_;refine U.rt ?_;exact congrArg bf (by unfold jx;rw[if_neg ae,if_pos ah])
 refine aV λI a w U=>?_;refine St.lo (σ:=Nat) (3::(5::(run 16 28 []))) ⟨λk=>[(28,AV.int k),(3,bf ((q.az.take k).foldl pN q.ctx))],λk=>[],λk=>k<=q.az.length⟩ (λk=>q.az.length-k) 0 U ?aH ?bx;case aH=>exact Nat.zero_le _
 rintro k I a w al U;have hk:k<=q.az.length:=al;refine ao λI a w U=>?_;refine cz (λaj=>?_) λaj=>?_
 .refine aF λI a w U=>?_;refine U.alloc rfl eI m5 λb5 I a w U=>?_;refine ao λI a w U=>?_;obtain⟨I,U⟩:=U.fb 0 5;refine aq λI a w U=>?_;refine cz (λaG=>?_) λaG=>?_
  .refine U.dk ?_;refine dq ?_;refine .o (.cl (N1 _ _ (wx hp.1 (wi hp.2.1 k)).1 (qU (hp.2.1 _ (bB aj))))) ?_;refine cg ?_;refine .o (.c1 (mF ..)) ?_;refine .o (.cl (Fa _ _ (we (wx hp.1 (wi hp.2.1 k)).1 λd hd=>nV (qU (hp.2.1 _ (bB aj))) hd))) ?_;refine aW ?_;refine .nil ?_;intro I a w U;refine aq λI a w U=>?_;have U:=U.drop 0;refine U.again (k+1) ?ik ?il ef ?im (by repeat(first|exact Env.le_rfl|refine Env.iB rfl ?_));case ik=>omega
   case il=>exact aj
   case im=>exact(Env.dM rfl ef (Env.dM rfl (by exact congrArg bf (by rw[wh aj];unfold pN;rw[aG];rfl)) Env.le_nil))
  refine aq λI a w U=>?_;have U:=U.drop 0;refine U.again (k+1) ?ox ?oz ef ?oA (by repeat(first|exact Env.le_rfl|refine Env.iB rfl ?_));case ox=>omega
  case oz=>exact aj
  case oA=>exact(Env.dM rfl ef (Env.dM rfl (by exact congrArg bf (by rw[wh aj];unfold pN;rw[aG];rfl)) Env.le_nil))
 refine zt ?_;refine dh ?_;exact congrArg bf (by rw[List.take_of_length_le om];unfold jx;rw[if_neg ae,if_neg ah])
def aaf {w:aJ} (h:cr w) (m:aw):cr (oF w m):=by
 unfold oF;dsimp only;split
 .exact h
 rename_i hn;obtain⟨h1,h2,h3⟩:=uc (l:=w.calls) (aA:=m.to-10) om;obtain⟨e1,e2,e3,_⟩:=Zr (ab w.calls (cw w.calls (m.to-10)).toNat) m w.time;have hq:=B1 (m:=m) (h.call h1);have hg:=h.N5 h1 h3 hq e1 e2 e3;split
 .exact hg.Wh _ (YM hq)
 exact hg
def aag {w:aJ} (h:cr w) (e:Ev):cr (iM w e).1:=by
 unfold iM;split
 .rename_i hr;simp only[aQ,Bool.and_eq_true,decide_eq_true_eq] at hr;have hm:bQ (ab w.au e.word.toNat)=true:=h.words _ (bB om);have h1:cr (if e.kind=5\/e.jd=0 then{w with au:=w.au.take e.word.toNat++w.au.drop (e.word.toNat+1)} else w):=by
   split
   .have U:=xV w.au e.word.toNat;exact⟨h.time,h.aC,h.site,Nat.le_trans U.length_le h.au,λm hm=>h.words m (U.subset hm),h.seen,h.od,h.calls⟩
   exact h
  have jA:(if e.kind=5\/e.jd=0 then{w with au:=w.au.take e.word.toNat++w.au.drop (e.word.toNat+1)} else w).aC=w.aC:=by split<;>rfl
  dsimp only;generalize (if e.kind=5\/e.jd=0 then{w with au:=w.au.take e.word.toNat++w.au.drop (e.word.toNat+1)} else w)=w1 at*;split
  .exact h1
  split
  .exact aaf h1 _
  rename_i aR;have lZ:0<=(ab w.au e.word.toNat).to/\(ab w.au e.word.toNat).to<=3:=by
   have:=(nj hm).2.2.1;simp only[kH,cQ,aQ,Bool.or_eq_true,Bool.and_eq_true,decide_eq_true_eq] at this aR;omega
  have hi:(ab w.au e.word.toNat).to.toNat<4:=by omega
  have O0:=(h.site _ hi).2;have:=(h1.server hi (s:=(gq (ab w.aC (ab w.au e.word.toNat).to.toNat) (ab w.au e.word.toNat)).1) (YJ O0) (by rw[YO,jA])).send (YL (m:=ab w.au e.word.toNat) O0);rw[<-jA] at this⊢;exact this
 exact h
def O1 {w:aJ} (h:cr w) (e:Ev) (al:(eU w e).2=true):cr (eU w e).1:=by
 have h1:=h.later;unfold eU at*;dsimp only at al⊢;split
 .rename_i hk;rw[if_pos hk] at al;exact YQ h1 e al
 split
 .exact aag h1 e
 split
 .rename_i hk;rw[Bool.and_eq_true] at hk;exact YP h1 e hk.2
 exact h1
def aah (s:Server) (m:aw) (hg:bA s):
 Fn prog 275 [s.av,m.av] (AV.c6 [(gq s m).1.av,cU (gq s m).2]):=by
 refine Fn.go 118 func275 ntmps275 (λW I a U=>?_);have al:=iL.2 hg;have cK:=hg.ok;refine aF λI a w U=>?_;refine U.alloc rfl ck c9 λb4 I a w U=>?_;refine ao λI a w U=>?_;refine U.l0 λkr I a w U=>?_;obtain⟨I,U⟩:=U.fr 1 11;refine aF λI a w U=>?_;refine U.o (.c1 (rR ..)) λU=>?_;refine ao λI a w U=>?_;refine U.cd (λae=>?_) λae=>?_
 .exfalso;rw[al] at ae;cases ae;skip
 refine bw λI a w U=>?_;refine U.o (.c1 (v8 s hg.small)) λU=>U.alloc rfl ck c9 λb7 I a w U=>?_;refine dp λI a w U=>?_;refine U.q .F (.cl (E6 ..)) λU=>?_;refine m4 λI a w U=>?_;refine U.cd (λah=>?_) λah=>?_
 .rw[Bl] at ah;replace ah:=nt ah;refine aV λI a w U=>?_;refine U.ret rfl (.cons (.sx 0) (.cons .x aX.nil)) ?_;exact(by unfold gq;rw[ah];rfl)
 rw[Bl] at ah;replace ah:=nf ah;have hm:=(E4 ah).2;refine aF λI a w U=>?_;refine nn ?_;refine St.cut (σ:=Server×List aw) (run 3 8 (run 77 37 [])) ⟨λ⟨u,ws⟩=>[(8,cU ws)],λ⟨u,ws⟩=>[Own.box b4 95 [AV.val (.int .i64 0),AV.val (.bool false),AV.rows 2 [],AV.rows 7 [],AV.rows 7 [],AV.rows 3 [],AV.rows 3 []],Own.gone,Own.box b7 95 u.cells],λ⟨u,ws⟩=>en s m=(u,ws)⟩ U ?GC ?aai;case GC=>
  refine aV λI a w U=>?_;refine cz (λaj=>?_) λaj=>?_
  .refine aF λI a w U=>?_;refine U.o (.c2 (YE s m hg hm)) λU=>?_;refine cn λI a w U=>?_;have U:=U.drop 3;exact U.me ((gX s m).1,(gX s m).2) (by first|exact oH aj|exact oI aG|exact oJ aK|exact oK bh|exact pT aZ bT cK.ar|exact pU aZ bT cK.ar|exact oL cO|exact oM fg|exact oN g9|exact pV aj aG aK bh aZ cO fg g9)
  refine aq λI a w U=>?_;refine cz (λaG=>?_) λaG=>?_
  .refine aF λI a w U=>?_;refine U.o (.c2 (X6 s m al)) λU=>?_;refine ao λI a w U=>?_;have U:=U.drop 3;exact U.me (s,iA s m) (by first|exact oH aj|exact oI aG|exact oJ aK|exact oK bh|exact pT aZ bT cK.ar|exact pU aZ bT cK.ar|exact oL cO|exact oM fg|exact oN g9|exact pV aj aG aK bh aZ cO fg g9)
  refine aq λI a w U=>?_;refine cz (λaK=>?_) λaK=>?_
  .refine aF λI a w U=>?_;refine U.o (.c2 (Xh s m hg hm)) λU=>?_;refine cn λI a w U=>?_;have U:=U.drop 3;exact U.me ((gY s m).1,(gY s m).2) (by first|exact oH aj|exact oI aG|exact oJ aK|exact oK bh|exact pT aZ bT cK.ar|exact pU aZ bT cK.ar|exact oL cO|exact oM fg|exact oN g9|exact pV aj aG aK bh aZ cO fg g9)
  refine aq λI a w U=>?_;refine cz (λbh=>?_) λbh=>?_
  .refine aF λI a w U=>?_;refine U.o (.c2 (Ys s m cK (gZ hg.aE) hm)) λU=>?_;refine ao λI a w U=>?_;have U:=U.drop 3;exact U.me (ny s m,[]) (by first|exact oH aj|exact oI aG|exact oJ aK|exact oK bh|exact pT aZ bT cK.ar|exact pU aZ bT cK.ar|exact oL cO|exact oM fg|exact oN g9|exact pV aj aG aK bh aZ cO fg g9)
  refine aq λI a w U=>?_;refine cz (λaZ=>?_) λaZ=>?_
  .refine dp λI a w U=>?_;refine U.o (.cl (pC ..)) λU=>?_;refine bc λI a w U=>?_;refine U.alloc rfl bL dy λb9 I a w U=>?_;refine U.sb 3 λU=>?_;obtain⟨I,U⟩:=U.fb 3 9;refine ao λI a w U=>?_;refine U.dk ?_;refine gw ?_;refine .q .T (.cl (vE _ hg.site)) ?_;refine cg ?_;refine .nil ?_;intro I a w U;refine ba ?_;refine U.cd (λbT=>?_) λbT=>?_
   .refine j3 λI a w U=>?_;refine U.o (.bd dr (.k (.k (.k (.k (.t aT.nil)))))) λU=>?_;refine U.o (.li [(lj s m).cells] fo (.u .nil)) λU=>?_;refine ao λI a w U=>?_;have U:=U.drop 3;exact U.me (s,[lj s m]) (by first|exact oH aj|exact oI aG|exact oJ aK|exact oK bh|exact pT aZ bT cK.ar|exact pU aZ bT cK.ar|exact oL cO|exact oM fg|exact oN g9|exact pV aj aG aK bh aZ cO fg g9)
   refine zt ?_;have U:=U.drop 3;exact U.me (s,[]) (by first|exact oH aj|exact oI aG|exact oJ aK|exact oK bh|exact pT aZ bT cK.ar|exact pU aZ bT cK.ar|exact oL cO|exact oM fg|exact oN g9|exact pV aj aG aK bh aZ cO fg g9)
  refine aq λI a w U=>?_;refine cz (λcO=>?_) λcO=>?_
  .refine aF λI a w U=>?_;refine U.o (.c2 (Yt s m cK hg.site)) λU=>?_;refine ao λI a w U=>?_;have U:=U.drop 3;exact U.me (nk s m,[]) (by first|exact oH aj|exact oI aG|exact oJ aK|exact oK bh|exact pT aZ bT cK.ar|exact pU aZ bT cK.ar|exact oL cO|exact oM fg|exact oN g9|exact pV aj aG aK bh aZ cO fg g9)
  refine aq λI a w U=>?_;refine cz (λfg=>?_) λfg=>?_
  .refine aF λI a w U=>?_;refine U.o (.c2 (Zm s m hg hm)) λU=>?_;refine cn λI a w U=>?_;have U:=U.drop 3;exact U.me ((g8 s m).1,(g8 s m).2) (by first|exact oH aj|exact oI aG|exact oJ aK|exact oK bh|exact pT aZ bT cK.ar|exact pU aZ bT cK.ar|exact oL cO|exact oM fg|exact oN g9|exact pV aj aG aK bh aZ cO fg g9)
  refine aq λI a w U=>?_;refine cz (λg9=>?_) λg9=>?_
  .refine aF λI a w U=>?_;refine U.o (.c2 (Xt s m cK hg.site (gZ hg.aE) hm)) λU=>?_;refine ao λI a w U=>?_;have U:=U.drop 3;exact U.me (nz s m,[]) (by first|exact oH aj|exact oI aG|exact oJ aK|exact oK bh|exact pT aZ bT cK.ar|exact pU aZ bT cK.ar|exact oL cO|exact oM fg|exact oN g9|exact pV aj aG aK bh aZ cO fg g9)
  refine zt ?_;have U:=U.drop 3;exact U.me (s,[]) (by first|exact oH aj|exact oI aG|exact oJ aK|exact oK bh|exact pT aZ bT cK.ar|exact pU aZ bT cK.ar|exact oL cO|exact oM fg|exact oN g9|exact pV aj aG aK bh aZ cO fg g9)
 rintro⟨u,ws⟩ I a w al U;have hu:bA u:=by have:=Gd hg hm (E4 ah).1;rw[al] at this;exact this
 have hw:∀y∈ws,bQ y=true:=by have:=Ge hg hm;rw[al] at this;exact this
 refine bw λI a w U=>?_;refine U.o (.c1 (v8 u hu.small)) λU=>U.m λU=>?_;refine U.o (cq (Fe ws (by have:=Ox s m;rw[al] at this;have:ws.length<=1:=this;omega) (λy hy=>tO (hw y hy))) (ai .r aB)) λU=>?_;refine aq λI a w U=>?_;refine U.ret rfl (.cons (.sx 0) (.cons .x aX.nil)) ?_;exact(by unfold gq;rw[ah,if_pos rfl,al];rfl)
def aaj {site k:Nat} (h:(k:Int)%2=(site:Int)%2):rj site k++[⟨1,1⟩]=rj site (k+1):=by
 unfold rj;rw[List.range_succ,List.map_append,List.map_singleton,if_pos om]
def aak {site k:Nat} (h:¬(k:Int)%2=(site:Int)%2):rj site k++[⟨0,0⟩]=rj site (k+1):=by
 unfold rj;rw[List.range_succ,List.map_append,List.map_singleton,if_neg om]
def O2 {s:Server} {slot:Int} (he:aQ slot 0 2=true->(ab s.aN slot.toNat).bU<=9999):(!s.up||!aQ slot 0 2||((ab s.aN slot.toNat).eH !=1)||((ab s.aN slot.toNat).bU==9999))=!ld s slot:=by
 unfold ld;cases h:aQ slot 0 2
 .simp
 have:=he h;have e:((ab s.aN slot.toNat).bU==9999)=!decide ((ab s.aN slot.toNat).bU<9999):=by rw[Bool.eq_iff_iff];simp;omega
 rw[e];simp[bne]
def pX (q:Call) (k:Nat):List aw:=nE q q.keys.length++(q.aL.take k).map tH
def O3 {q:Call} {k:Nat} (h:k<q.keys.length) (hg:cE q (ab q.keys k)<0):nE q k++[tW (ab q.keys k)]=nE q (k+1):=by
 unfold nE;rw[lP h (by simpa using hg),List.map_append];rfl
def aal {q:Call} {k:Nat} (h:k=q.keys.length):nE q k=pX q 0:=by subst h;simp[pX]
def aam {q:Call} {k:Nat} (h:k<q.aL.length):pX q k++[tH (ab q.aL k)]=pX q (k+1):=by
 unfold pX;rw[dO h,List.map_append,List.append_assoc];rfl
def GD {q:Call} {k:Nat} (hk:¬q.kind=1) (h:q.aL.length<=k):pX q k=asks q:=by
 unfold asks pX nE;rw[if_neg hk,List.take_length,List.take_of_length_le h];rfl
def O4 {q:Call} {t:Int} (h:dQ q t) (ht:0<=t):(!eY q q.bq||!g0 q)=!g0 q:=by
 cases hw:g0 q
 .simp
 have he:=(wa hw).1;have:=E9 (pG.2 h);rw[he,Int.add_zero] at this;rw[this];rfl
def O5 (q:Call) (m:aw) (t:Int):(!g0 q||decide (t<=q.bq)||!bQ m||(m.to !=10+q.aA)||(m.call !=q.num)||!gz q.keys m.key)=
 !(bQ m&&(m.to==10+q.aA)&&(m.call==q.num)&&gz q.keys m.key&&g0 q&&decide (q.bq<t)):=by
 have e2:decide (t<=q.bq)=!decide (q.bq<t):=by rw[Bool.eq_iff_iff];simp
 rw[e2,Bool.eq_iff_iff];cases g0 q<;>cases bQ m<;>cases decide (q.bq<t)<;>cases gz q.keys m.key<;>simp[bne]
def aan (q:Call) (n:Value) (hg:∀a∈q.az,dH a=true) (hl:q.az.length<=1048576):
 Fn prog 354 [q.wu n] (bf (ka q)):=by
 refine Fn.go 51 func354 ntmps354 (λW I a U=>?_);have U:=U.fC (sz:=3) 125;refine aM λI a w U=>?_;have U:=U.sQ (t:=3) rfl (fA 3 _);refine aV λI a w U=>?_;refine St.lo (σ:=Nat) (3::(5::(run 10 13 []))) ⟨λk=>[(13,AV.int k),(3,bf ((q.az.take k).foldl ll []))],λk=>[Own.row (.slice none 0 0) 125 3 []],λk=>k<=q.az.length⟩ (λk=>q.az.length-k) 0 U ?aH ?bx;case aH=>exact Nat.zero_le _
 rintro k I a w al U;have hk:k<=q.az.length:=al;dsimp only at U;refine ao λI a w U=>?_;refine cz (λae=>?_) λae=>?_
 .refine aF λI a w U=>?_;refine U.alloc rfl eI m5 λb5 I a w U=>?_;refine ao λI a w U=>?_;obtain⟨I,U⟩:=U.fb 1 5;refine bj λI a w U=>?_;refine U.o (.cl (N1 ((q.az.take k).foldl ll []) (ab q.az k).bF.aS (rf (acc:=[]) rfl (wi hg k)).1 (qU (hg _ (bB ae))))) λU=>?_;rw[show iZ ((q.az.take k).foldl ll []) (ab q.az k).bF.aS=(q.az.take (k+1)).foldl ll [] from by rw[dO ae,List.foldl_append];rfl] at U;refine aM λI a w U=>?_;have U:=U.drop 1;exact U.ag (k+1) (ae)
 refine wp_exit<|cm<|cm<|dS<|ba<|wp_seq ?_;rw[show(q.az.take k).foldl ll []=eL q from by rw[List.take_of_length_le om];rfl] at U;refine cn λI a w U=>?_;refine St.lo (σ:=Nat×Value) (6::(run 2 8 (run 24 26 []))) ⟨λ⟨k,v⟩=>[(26,AV.int k),(6,AV.val v)],λ⟨k,v⟩=>[Own.row v 125 3 ((oB q k).map an.cells)],λ⟨k,v⟩=>k<=q.az.length⟩ (λ⟨k,v⟩=>q.az.length-k) (0,.slice none 0 0) U ?dC ?iJ;case dC=>exact Nat.zero_le _
 rintro⟨k,v⟩ I a w al U;have hk:k<=q.az.length:=al;dsimp only at U;refine ao λI a w U=>?_;refine cz (λah=>?_) λah=>?_
 .refine aF λI a w U=>?_;refine U.alloc rfl eI m5 λb8 I a w U=>?_;refine ao λI a w U=>?_;obtain⟨I,U⟩:=U.fb 1 8;refine bc λI a w U=>?_;refine U.o (.cl (Wz (eL q) (ab q.az k).key)) λU=>?_;refine U.alloc rfl iH gx λb9 I a w U=>?_;refine ao λI a w U=>?_;obtain⟨I,U⟩:=U.fb 2 9;refine U.o .la λU=>?_;refine U.o (.c1 (tz ..)) λU=>?_;refine bj λI a w U=>?_;refine U.q .T (.cl (Ml ..)) λU=>?_;refine ao λI a w U=>?_;refine U.cd (λaj=>?_) λaj=>?_
  .refine bj λI a w U=>?_;refine U.o (.bd ez (.k (.t aT.nil))) λU=>?_;refine U.o (.li [an.cells ⟨(ab q.az k).key,cv (eL q) (ab q.az k).key⟩] eJ (.u .nil)) λU=>?_;refine U.append 0 rfl c4 cx rfl .tt .r rfl (by have:=Xa q k;simp;omega) λGw a w U=>?_;rw[bN,W8 ah aj] at U;refine aM λI a w U=>?_;have U:=U.drop 1;exact U.ag (k+1,Gw) (ah)
  refine aq λI a w U=>?_;have U:=U.drop 1;rw[W9 ah aj] at U;exact U.ag (k+1,v) (ah)
 refine wp_exit<|cm<|cm<|dS<|ba<|wp_seq ?_;rw[Zz hg om] at U;obtain⟨I,U⟩:=U.fr 0 6;refine dh ?_;rfl
def aao (s:Server) (m:aw) (hg:bA s) (ho:(aQ m.aY 10 11&&decide (1<=m.call)&&fw s m.key)=true):
 Fn prog 343 [s.av,m.av] (AV.c6 [((s,iA s m)).1.av,cU ((s,iA s m)).2]):=by
 refine Fn.go 55 func343 ntmps343 (λW I a U=>?_);have al:=iL.2 hg;have cK:=hg.ok;have gF:=hg.small;have sP:∀v∈s.ar,v.aS.length<=1048576:=gF.2.1.2;refine aF λI a w U=>?_;refine U.alloc rfl ck c9 λb4 I a w U=>?_;refine fm λI a w U=>?_;refine U.o (.bd dr (.k (.k (.k (.t aT.nil))))) λU=>?_;refine U.alloc rfl cV dr λb6 I a w U=>?_;refine bK λI a w U=>?_;refine U.o (.cl (Oc s.ar m.key sP)) λU=>?_;refine bc λI a w U=>?_;refine U.alloc rfl bL dy λb7 I a w U=>?_;refine bj λI a w U=>?_;refine U.o (.c1 (tz ..)) λU=>?_;refine ao λI a w U=>?_;refine U.cd (λae=>?_) λae=>?_
 .replace ae:=nt ae;refine dp λI a w U=>?_;refine U.o (.bd ez (.k (.t aT.nil))) λU=>?_;refine U.o (.cl (pQ s.ar ⟨m.key,m.ax⟩)) λU=>?_;refine aM λI a w U=>?_;refine U.cd (λah=>?_) λah=>?_
  .refine aM λI a w U=>?_;refine U.ret rfl (.cons (.sx 0) (.cons (.nil (sz:=15) rfl) aX.nil)) ?_;exact(by show AV.c6 [s.av,_]=AV.c6 [s.av,cU (iA s m)];unfold iA;rw[ho,if_pos rfl];rw[ae,if_neg bt,show ja s.ar ⟨m.key,m.ax⟩=none from by unfold ja;rw[if_neg (by simpa using ah)]];rfl)
  refine bc λI a w U=>?_;refine U.o ((by first|exact dE dA bL .tt .tt (λ_=>by have:=yB ah;omega)|exact eG dA bL .tt .tt (λ_=>by have:=yB ah;omega)|exact eM dA bL .tt .tt (λ_=>by have:=yB ah;omega))) λU=>?_;refine aV λI a w U=>?_;refine U.cd (λaj=>?_) λaj=>?_
  .refine U.db (([2],none)::rp 2 [([1],some (1,[])),([],none),([1],some (1,[]))]) aP aP rfl ?_;refine .r [2] (.ls 2) ?_;refine .o (.li [_] iy (.u .nil)) ?_;refine aW ?_;refine aI.de (x:=AV.any) 1 (λF W0 I0 I γ a w Q U kk=>U.s1 1 λU=>kk _ _ _ U) ?_;refine aW ?_;refine aI.de (x:=AV.any) 1 (λF W0 I0 I γ a w Q U kk=>U.s1 1 λU=>kk _ _ _ U) ?_;refine .nil ?_;intro I a w U;refine zt ?_;refine U.dt 5 ?_;simp only[TD];refine dq ?_;refine .o (cq (qT s m ⟨4,0,0,m.call,m.key,m.ax,0,true,[],0,0,[ab s.ar (placeOf s.ar ⟨m.key,m.ax⟩).toNat],[],[]⟩ (MN (s:=s) (sP _ (bB (by have:=yB ah;omega))))) (ai (.t rfl) (ai (.t rfl) (ai (.t rfl) aB)))) ?_;refine .nil ?_;intro I a w U;refine aq λI a w U=>?_;refine U.ret rfl (.cons (.sx 0) (.cons .x aX.nil)) ?_;exact(by show AV.c6 [s.av,_]=AV.c6 [s.av,cU (iA s m)];unfold iA;rw[ho,if_pos rfl];rw[ae,if_neg bt,(yB ah).2.2];rfl)
  cases aj;skip
 replace ae:=nf ae;refine ao λI a w U=>?_;refine U.cd (λaG=>?_) λaG=>?_
 .refine U.db (([2],none)::rp 2 [([1],some (1,[])),([],none),([1],some (1,[]))]) aP aP rfl ?_;refine .r [2] (.ls 2) ?_;refine .o (.li [_] iy (.u .nil)) ?_;refine aW ?_;refine aI.de (x:=AV.any) 1 (λF W0 I0 I γ a w Q U kk=>U.s1 1 λU=>kk _ _ _ U) ?_;refine aW ?_;refine aI.de (x:=AV.any) 1 (λF W0 I0 I γ a w Q U kk=>U.s1 1 λU=>kk _ _ _ U) ?_;refine .nil ?_;intro I a w U;refine zt ?_;refine U.dt 5 ?_;simp only[TD];refine dq ?_;refine .o (cq (qT s m ⟨4,0,0,m.call,m.key,m.ax,0,true,[],0,0,[(gf s.ar m.key).getD default],[],[]⟩ (MN (s:=s) (by obtain⟨v,hv⟩:=Option.isSome_iff_exists.1 aG;rw[hv];exact sP _ (Eu hv).1))) (ai (.t rfl) (ai (.t rfl) (ai (.t rfl) aB)))) ?_;refine .nil ?_;intro I a w U;refine aq λI a w U=>?_;refine U.ret rfl (.cons (.sx 0) (.cons .x aX.nil)) ?_;exact(by show AV.c6 [s.av,_]=AV.c6 [s.av,cU (iA s m)];unfold iA;rw[ho,if_pos rfl];rw[ae,if_pos rfl];obtain⟨v,hv⟩:=Option.isSome_iff_exists.1 aG;unfold lh;rw[hv];rfl)
 refine zt ?_;refine U.dt 5 ?_;simp only[TD];refine dq ?_;refine .o (.c3 (qT s m ⟨4,0,0,m.call,m.key,m.ax,0,false,[],0,0,[],[],[]⟩ (tP ..)))<|.nil ?_;intro I a w U;refine aq λI a w U=>?_;refine U.ret rfl (.cons (.sx 0) (.cons .x aX.nil)) ?_;exact(by show AV.c6 [s.av,_]=AV.c6 [s.av,cU (iA s m)];unfold iA;rw[ho,if_pos rfl];rw[ae,if_pos rfl];unfold lh;rw[show gf s.ar m.key=none from xZ (by rw[aG];rfl)];rfl)
def aap {s:Server} {m:aw} (h:(m.kind==7&&(m.aY==eS s.site)&&decide (0<=placeOf s.ar ⟨m.key,m.ax⟩))=true):en s m=(s,[lj s m]):=by
 simp only[Bool.and_eq_true,beq_iff_eq,decide_eq_true_eq] at h;unfold en;rw[h.1.1];show(s,nD s m)=_;unfold nD ja;rw[if_pos h.2,h.1.2];simp
def aaq (x:aJ) (m:aw) (hg:cr x) (ht:x.time<=1000000) (lZ:aQ m.to 10 11=true):
 Fn prog 274 [x.av,m.av] ((oF x m).av):=by
 refine Fn.go 52 func274 ntmps274 (λW I a U=>?_);simp only[aQ,Bool.and_eq_true,decide_eq_true_eq] at lZ;have lX:=hg.lens;have B5:=hg.seen;have wB:=hg.time;refine sr<|U.box rfl .tt λb2 I a w U=>U.o .bp λU=>U.alloc rfl eE eQ λb4 I a w U=>?_;refine fm λI a w U=>?_;refine U.o (.cl (A7 x.calls (m.to-10))) λU=>?_;refine aM λI a w U=>?_;refine cz (λae=>?_) λae=>?_
 .refine aq λI a w U=>?_;refine U.ret rfl (.cons (.sx 1) aX.nil) ?_;exact(by unfold oF;dsimp only;rw[if_pos ae];rfl)
 obtain⟨h1,h2,h3⟩:=uc ae;have hq:=B1 (m:=m) (hg.call h1);have hqe:=hq.yA om;have JJ:=hq.bq;refine zt ?_;refine U.da 10 ?_;simp only[TD];refine mn ?_;refine .o (.c3 (Zx _ m x.time (hg.call h1) ht))<|fk.alloc ei jj<|.nil ?_;intro I a w U;obtain⟨b7,U⟩:=U.rF (d:=7) rfl;refine ao λI a w U=>?_;obtain⟨I,U⟩:=U.fb 2 7;refine U.l0 λb27 I a w U=>?_;refine aF λI a w U=>?_;refine U.ap 3 λv30 a w U=>?_;simp only[List.nil_append] at U;refine U.o .fv λU=>?_;try have ajo:=U.dK 3 rfl
 refine ao λI a w U=>?_;obtain⟨yP,yQ,oO⟩:=U.gv 3 rfl mR;subst oO;refine bj λI a w U=>?_;refine U.o (fj ju ei .tt .tt (λ_=>by simp only[List.length_map];omega)) λU=>?_;refine U.jf 3 ei .tt .tt rfl (by exact dL om) rfl rfl λa w U=>?_;refine nn ?_;refine St.cut (σ:=List (List an)) (run 14 37 []) ⟨λsn=>[],λsn=>[Own.box b2 28 [AV.int x.time,jh x.aC,cU x.au,fN (x.calls.set (cw x.calls (m.to-10)).toNat (dJ (ab x.calls (cw x.calls (m.to-10)).toNat) m x.time)),iw sn],Own.box b4 28 [AV.val (.int .i64 0),AV.rows 7 [],AV.rows 15 [],AV.rows 13 [],AV.rows 1 []],Own.gone,Own.gone],λsn=>sn=if 0<Call.end_ (dJ (ab x.calls (cw x.calls (m.to-10)).toNat) m x.time) then x.seen.set (m.to-10).toNat (jx (dJ (ab x.calls (cw x.calls (m.to-10)).toNat) m x.time)) else x.seen⟩ U ?GC ?aai;case GC=>
  refine wp_seq ?_;have e9:∀y,y=Call.cells (dJ (ab x.calls (cw x.calls (m.to-10)).toNat) m x.time)->(List.map Call.cells x.calls).set (cw x.calls (m.to-10)).toNat y=List.map Call.cells (x.calls.set (cw x.calls (m.to-10)).toNat (dJ (ab x.calls (cw x.calls (m.to-10)).toNat) m x.time)):=λy hy=>by rw[hy,List.map_set]
  rw[e9] at U;rotate_left
  .rfl
  obtain⟨I,U⟩:=U.fu 3 3 0;refine aM λI a w U=>?_;refine cz (λah=>?_) λah=>?_
  .refine zt ?_;refine U.l0 λb40 I a w U=>?_;refine aF λI a w U=>?_;refine U.ap 4 λBQ a w U=>?_;simp only[List.nil_append] at U;refine U.o .fv λU=>?_;try have aar:=U.dK 4 rfl
   refine ao λI a w U=>?_;obtain⟨bk2,ck2,ek2⟩:=U.gv 4 rfl mR;subst ek2;refine U.dt 6 ?_;simp only[TD];refine dq ?_;refine .o (cq (aab (dJ (ab x.calls (cw x.calls (m.to-10)).toNat) m x.time) x.time (pG.2 hq) om om (by have:=hq.lens.2.2.2.2.1;omega)) (ai (.t rfl) aB)) ?_;refine .o (fj xF pw .tt .tt (λ_=>by simp only[List.length_map];omega)) ?_;refine .nil ?_;intro I a w U;refine U.sT (j:=0) 4 pw .tt .tt (by first|exact fi rfl|exact dD|exact fB|exact fE|assumption) rfl (by exact dL om) rfl rfl λa w U=>?_;refine wpList_nil ?_;have e8:∀y,y=du (jx (dJ (ab x.calls (cw x.calls (m.to-10)).toNat) m x.time))->(List.map du x.seen).set (m.to-10).toNat y=List.map du (x.seen.set (m.to-10).toNat (jx (dJ (ab x.calls (cw x.calls (m.to-10)).toNat) m x.time))):=λy hy=>by rw[hy,List.map_set]
   rw[e8] at U;rotate_left
   .rfl
   obtain⟨I,U⟩:=U.fu 4 4 0;refine ba ?_;have U:=U.drop 4;exact U.me (x.seen.set (m.to-10).toNat (jx (dJ (ab x.calls (cw x.calls (m.to-10)).toNat) m x.time))) (by first|exact(if_pos ah).symm|exact(if_neg om).symm)
  refine zt ?_;have U:=U.drop 4;exact U.me x.seen (by first|exact(if_pos ah).symm|exact(if_neg om).symm)
 rintro sn I a w al U;have O6:sn=if 0<Call.end_ (dJ (ab x.calls (cw x.calls (m.to-10)).toNat) m x.time) then x.seen.set (m.to-10).toNat (jx (dJ (ab x.calls (cw x.calls (m.to-10)).toNat) m x.time)) else x.seen:=al
 refine aq λI a w U=>?_;refine U.ret rfl (.cons (.sx 1) aX.nil) ?_;unfold oF;dsimp only;rw[if_neg om];split
 .rename_i hh;rw[O6,if_pos hh];rfl
 rename_i hh;rw[O6,if_neg hh];rfl
def aat {w:aJ} {e:Ev} (h:((e.kind==1)||(e.kind==2)||(e.kind==3))=true):eU w e=((jc {w with time:=w.time+1} e).1,(jc {w with time:=w.time+1} e).2):=by unfold eU;rw[if_pos (by simp at h;omega)]
def aau {w:aJ} {e:Ev} (h:((e.kind==1)||(e.kind==2)||(e.kind==3))=false) (h2:((e.kind==4)||(e.kind==5))=false) (h3:(!aQ e.kind 6 9||!cQ e.at_)=false):eU w e=((fH {w with time:=w.time+1} e).1,(fH {w with time:=w.time+1} e).2):=by
 unfold eU;rw[if_neg (by simp at h;omega),if_neg (by simpa using h2),if_pos (by simp at h3⊢;exact h3)]
def yS:Nat->List Server
 |0=>[]
 |k+1=>yS k++[yw k]
def O7:∀k,(yS k).length=k
 |0=>rfl
 |k+1=>by show(yS k++[yw k]).length=_;rw[List.length_append,O7 k];rfl
def O8:∀k,(A9 k).length=k
 |0=>rfl
 |k+1=>by show(A9 k++[[]]).length=_;rw[List.length_append,O8 k];rfl
def aav {au more:List aw} {k:Nat} (hk:k<more.length) (h:(eC au (more.take k)).length<60):eC au (more.take k)++[ab more k]=eC au (more.take (k+1)):=by
 unfold eC at h⊢;rw[List.length_append,List.length_take,List.length_take] at h;rw[List.take_of_length_le (l:=more.take k) (by rw[List.length_take];omega),List.take_of_length_le (l:=more.take (k+1)) (by rw[List.length_take];omega),dO hk,List.append_assoc]
def aaw (au more:List aw) (h:au.length<=60):(eC au more).length<=60:=by
 unfold eC;rw[List.length_append,List.length_take];omega
def aax {m:aw} (h:bQ m=true) (U:cQ m.to=false):aQ m.to 10 11=true:=by
 have:=(nj h).2.2.1;unfold kH at this;rw[U,Bool.false_or] at this;exact this
def aay {n:Int} (h:cQ n=true):aQ n 10 11=false:=by
 have:=mI.1 h;unfold aQ;rw[Bool.and_eq_false_iff,decide_eq_false_iff_not,decide_eq_false_iff_not];omega
def O9 {s:Server} {m:aw} (hg:bA s) (hm:bQ m=true):(gq s m).2.length<=1048576/\∀y∈(gq s m).2,iY y:=by
 unfold gq;split
 .exact⟨by have:=Ox s m;omega,λy hy=>tO (Ge hg hm y hy)⟩
 exact⟨Nat.zero_le _,λy hy=>by cases hy⟩
def fI (x:aJ) (e:Ev):aJ×Bool:=
 if e.kind=1\/e.kind=2\/e.kind=3 then jc x e
 else if e.kind=4\/e.kind=5 then iM x e
 else if aQ e.kind 6 9&&cQ e.at_ then fH x e
 else(x,false)
def Reach.cH {w:aJ} (h:Reach w):cr w:=by
 induction h with
 |start=>exact(mL.1 X3).1
 |step _ al ih=>exact O1 ih _ al
def aaz {bs:List UInt8} {p n m:Int} (h:n<=m) (hm:0<=m):bE bs p n<=m:=by
 by_cases h0:0<n
 .have:=gR bs p h0;omega
 unfold bE;rw[if_pos om];omega
structure oQ (f:aJ->Nat->aJ) (n:Int) (x y:aJ) (k:Nat):Prop where
 cH:cr y
 time:y.time<=x.time+n*k
 eq:y=(List.range k).foldl f x
def oQ.zero {f:aJ->Nat->aJ} {n:Int} {x:aJ} (h:cr x):oQ f n x x 0:=⟨h,by omega,rfl⟩
def aaA (l:List an) (d:an) (hl:bP l=true) (hd:gU d=true):
 gO prog 243 [bf l,d.av] 125 3 ((fR l d).map an.cells):=by
 refine gO.intro 85 func243 rfl ntmps243 rfl aP (λW I a U=>?_);have pJ:=dY hl;have vY:=LO d;refine sr<|U.box rfl .tt λb3 I a w U=>?_;refine aF λI a w U=>?_;refine U.o (.cl (m7 ..)) λU=>?_;refine bc λI a w U=>?_;refine U.q .F (.li [_] eJ (.u .nil)) λU=>?_;refine U.q .F (.cl (m7 [d])) λU=>?_;refine aq λI a w U=>?_;refine U.cd (λae=>?_) λae=>?_
 .exfalso;rw[hl,vY,hd] at ae;cases ae;skip
 refine zt ?_;refine U.l0 λA1 I a w U=>?_;refine aM λI a w U=>?_;refine St.lo (σ:=Nat×Bool×List an×Value×an) (run 3 5 (run 59 19 [])) ⟨λ⟨k,done,out,v,e⟩=>[(7,AV.int k),(6,AV.bool done),(5,AV.val v)],λ⟨k,done,out,v,e⟩=>[Own.box b3 125 e.cells,Own.row v 125 3 (out.map an.cells)],λ⟨k,done,out,v,e⟩=>iV l d k done out/\e.key=d.key/\(done=false->e=d)⟩ (λ⟨k,done,out,v,e⟩=>l.length-k) (0,false,[],.slice (some ⟨A1,0,none⟩) 0 0,d) U ?aH ?bx;case aH=>exact⟨iV.zero l d,rfl,λ_=>rfl⟩
 rintro⟨k,done,out,v,e⟩ I a w al U;obtain⟨hp,r4,oi⟩:=al;have hk:=hp.hk;have iO:=hp.len;have mZ:done.toNat<=1:=by cases done<;>simp
 dsimp only at U;refine aV λI a w U=>?_;refine cz (λah=>?_) λah=>?_
 .refine ao λI a w U=>?_;refine cz (λaj=>?_) λaj=>?_
  .refine wp_seq<|wp_seq<|U.dk ?_;refine mo ?_;refine .q .T (zs 0 iH .ag rfl rfl rfl) ?_;refine eP ?_;refine .q .T (.cl (tj ..)) ?_;refine aW ?_;refine .nil ?_;intro I a w U;refine ba ?_;refine cz (λaG=>?_) λaG=>?_
   .refine fm λI a w U=>?_;refine U.o (.li [(ab l k).cells] eJ (.u .nil)) λU=>?_;refine U.ap 1 λtD a w U=>?_;rw[bN] at U;refine aM λI a w U=>?_;refine Km (λaK=>?_) λaK=>?_
    .exfalso;simp at aK;skip
    refine aM λI a w U=>?_;exact U.ag (k+1,true,out++[ab l k],tD,ab l k) (by obtain⟨h1,h2⟩:=aj;obtain rfl:=oi h1;subst h1;have h:=(hp.same hl ah aG.1).2;rw[<-AW _ _ aG.1,if_pos aG.2] at h;exact⟨h,aG.1,λh=>by cases h⟩)
   refine aF λI a w U=>?_;refine U.o (.li [e.cells] eJ (.u .nil)) λU=>?_;refine U.ap 1 λtD a w U=>?_;rw[bN] at U;refine aM λI a w U=>?_;refine cz (λbh=>?_) λbh=>?_
   .refine bK λI a w U=>?_;refine U.o (.li [(ab l k).cells] eJ (.u .nil)) λU=>?_;refine U.ap 1 λtE a w U=>?_;rw[bN] at U;refine aV λI a w U=>?_;exact U.ag (k+1,true,(out++[e])++[ab l k],tE,e) (by obtain⟨h1,h2⟩:=aj;obtain rfl:=oi h1;subst h1;exact⟨hp.before hl ah om,rfl,λh=>by cases h⟩)
   refine aM λI a w U=>?_;exact U.ag (k+1,true,out++[e],tD,e) (by obtain⟨h1,h2⟩:=aj;obtain rfl:=oi h1;subst h1;have h:=(hp.same hl ah bh).2;rw[<-AW _ _ bh,if_neg (by rcases aG with h4|h4;exact absurd bh h4;rw[h4];simp)] at h;exact⟨h,rfl,λh=>by cases h⟩)
  refine ao λI a w U=>?_;refine kO (λaZ=>?_) λaZ=>?_
  .refine bK λI a w U=>?_;refine U.o (.li [(ab l k).cells] eJ (.u .nil)) λU=>?_;refine U.ap 1 λtE a w U=>?_;rw[bN] at U;refine aV λI a w U=>?_;exact U.ag (k+1,done,out++[ab l k],tE,e) (⟨hp.step ah om λhd=>by(rcases aj with h|h;(rw[hd] at h;cases h);omega),r4,oi⟩)
  exfalso;simp only[bne_eq_false_iff_eq] at aZ;rcases aj with h|h;(have:=hp.late h k (Nat.le_refl _) ah;omega);omega
  skip
 refine zt ?_;refine aq λI a w U=>?_;refine cz (λbT=>?_) λbT=>?_
 .refine aF λI a w U=>?_;refine U.o (.li [e.cells] eJ (.u .nil)) λU=>?_;refine U.ap 1 λEZ a w U=>?_;rw[bN] at U;refine aM λI a w U=>?_;obtain rfl:=oi bT;subst bT;exact U.nO (r:=4) 1 rfl rfl rfl (congrArg (List.map an.cells) (hp.nX om))
 refine aq λI a w U=>?_;subst bT;exact U.nO (r:=4) 1 rfl rfl rfl (congrArg (List.map an.cells) (hp.nW om))
def aaB (l:List aD) (v:aD) (h:l.length<=1048575) (hd:∀u∈l,u.aS.length<=1048576) (hv:v.aS.length<=1048576):
 gO prog 102 [bV l,v.av] 54 7 ((nc l v).map aD.cells):=by
 refine gO.intro 46 func102 rfl ntmps102 rfl aP (λW I a U=>?_);refine aq λI a w U=>?_;refine U.l0 λb8 I a w U=>?_;refine aM λI a w U=>?_;refine St.lo (σ:=Nat×Bool×List aD×Value) (run 3 5 (run 29 9 [])) ⟨λ⟨k,done,out,u⟩=>[(7,AV.int k),(6,AV.bool done),(5,AV.val u)],λ⟨k,done,out,u⟩=>[Own.row u 54 7 (out.map aD.cells)],λ⟨k,done,out,u⟩=>jS l v k done out⟩ (λ⟨k,done,out,u⟩=>l.length-k) (0,false,[],.slice (some ⟨b8,0,none⟩) 0 0) U ?aH ?bx;case aH=>exact jS.zero l v
 rintro⟨k,done,out,u⟩ I a w al U;have hp:jS l v k done out:=al;have hk:=hp.hk;have iO:=hp.len;have mZ:done.toNat<=1:=by cases done<;>simp
 dsimp only at U;refine aV λI a w U=>?_;refine cz (λae=>?_) λae=>?_
 .refine zt ?_;refine U.dk ?_;refine mn ?_;refine .q .T (.cl (Ef ..)) ?_;refine aW ?_;refine .nil ?_;intro I a w U;refine ba ?_;refine cz (λah=>?_) λah=>?_
  .refine aF λI a w U=>?_;refine U.o (.c1 (j4 v hv)) λU=>?_;refine U.o (.li [v.cells] iy (.u .nil)) λU=>?_;refine U.ap 0 λtn a w U=>?_;rw[bN] at U;refine fm λI a w U=>?_;refine U.o (.c1 (j4 (ab l k) (hd _ (bB ae)))) λU=>?_;refine U.o (.li [(ab l k).cells] iy (.u .nil)) λU=>?_;refine U.ap 0 λqG a w U=>?_;rw[bN] at U;refine aV λI a w U=>?_;exact U.ag (k+1,true,(out++[v])++[ab l k],qG) (by obtain⟨h1,h2⟩:=ah;subst h1;exact hp.before ae h2)
  refine bK λI a w U=>?_;refine U.o (.c1 (j4 (ab l k) (hd _ (bB ae)))) λU=>?_;refine U.o (.li [(ab l k).cells] iy (.u .nil)) λU=>?_;refine U.ap 0 λqG a w U=>?_;rw[bN] at U;refine aV λI a w U=>?_;exact U.ag (k+1,done,out++[ab l k],qG) (hp.step ae (by simpa using ah))
 refine zt ?_;refine aq λI a w U=>?_;refine cz (λaj=>?_) λaj=>?_
 .refine aF λI a w U=>?_;refine U.o (.c1 (j4 v hv)) λU=>?_;refine U.o (.li [v.cells] iy (.u .nil)) λU=>?_;refine U.ap 0 λqH a w U=>?_;rw[bN] at U;refine aM λI a w U=>?_;subst aj;exact U.nO (r:=4) 0 rfl rfl rfl (congrArg (List.map aD.cells) (hp.nX om))
 refine aq λI a w U=>?_;subst aj;exact U.nO (r:=4) 0 rfl rfl rfl (congrArg (List.map aD.cells) (hp.nW om))
def Pa (l:List aD) (v:aD) (hc:bY l=true):
 bJ prog 295 [bV l,v.av] [] (λ_:Value=>True) (λu=>[Own.row u 54 7 ((if fW l v then ej l v else l).map aD.cells)]) (λu=>AV.c6 [AV.val u,AV.bool (fW l v)]):=by
 refine bJ.intro 37 func295 rfl ntmps295 rfl aP (λW I a U=>?_);have hle:=U.eh (t:=0) rfl;have vD:=fV hc;have gA:=qF hc;refine bj λI a w U=>?_;refine U.o (.cl (qA ..)) λU=>?_;refine ao λI a w U=>?_;refine U.cd (λae=>?_) λae=>?_
 .exfalso;rw[hc] at ae;cases ae;skip
 refine bK λI a w U=>?_;refine U.o (.cl (pC ..)) λU=>?_;refine bc λI a w U=>?_;refine U.alloc rfl bL dy λb6 I a w U=>?_;refine U.sb 0 λU=>?_;obtain⟨I,U⟩:=U.fb 0 6;refine aF λI a w U=>?_;refine U.o (.c1 (Ax ..)) λU=>?_;refine m4 λI a w U=>?_;refine U.cd (λah=>?_) λah=>?_
 .rw[AJ v hc] at ah;replace ah:=nt ah;refine bw λI a w U=>?_;refine U.km (Wt l om (λu hu=>by have:=gA u hu;omega)) (ai .r aB) rfl λI GF a w U=>?_;refine aq λI a w U=>?_;refine U.bD GF [1] rfl (.cons (.t rfl) (.cons (.t rfl) .nil)) trivial (by rw[ah];rfl) (by rw[ah];rfl)
 rw[AJ v hc] at ah;replace ah:=nf ah;refine aF λI a w U=>?_;refine U.km (aaB l v om (λu hu=>by have:=gA u hu;omega) (by have:=dY (AI (qJ ah).1);omega)) (ai .r (ai .tt aB)) rfl λI yM a w U=>?_;refine aq λI a w U=>?_;refine U.bD yM [1] rfl (.cons (.t rfl) (.cons (.t rfl) .nil)) trivial (by rw[ah,<-Es (nZ (qJ ah).2.1)];rfl) (by rw[ah];rfl)
def GG (br:Nat) (code:List UInt8) (p:Int) (hp:0<=p/\p<=1099510000000) (aR:code.length<=1099511627776):
 bJ prog 162 [AV.val (.pointer (some ⟨br,0,none⟩))] [Own.box br 147 [cy code,AV.int (p)]] (λr:List an×Value×Int=>r.1.length<=7/\p<=r.2.2/\r.2.2<=p+30) (λr=>[Own.box br 147 [cy code,AV.int (r.2.2)],Own.row r.2.1 125 3 (r.1.map an.cells)]) (λr=>AV.val r.2.1):=by
 refine bJ.intro 40 func162 rfl ntmps162 rfl aP (λW I a U=>?_);refine ao λI a w U=>?_;refine U.l0 λb5 I a w U=>?_;refine aF λI a w U=>?_;refine U.bz [0] (eT br code (p) (5) om aR) (ai .tt (ai .c aB)) rfl aO rfl λ⟨x7,q7⟩ I a w mM U=>?_;replace mM:0<=x7/\(0<(5:Int)->x7<(5))/\q7=p+1:=mM;obtain⟨OA,Gi,rfl⟩:=mM;have U:=U.nf;refine ao λI a w U=>?_;refine St.lo (σ:=Int×List an×Value×Int) (run 2 3 (run 8 8 [])) ⟨λ⟨m,l,v,p1⟩=>[(4,AV.int m),(3,AV.val v)],λ⟨m,l,v,p1⟩=>[Own.box br 147 [cy code,AV.int (p1)],Own.row v 125 3 (l.map an.cells)],λ⟨m,l,v,p1⟩=>bP l=true/\0<=m/\m<=4/\p<=p1/\p1<=p+1+3*(4-m)⟩ (λ⟨m,l,v,p1⟩=>m.toNat) (x7,[],.slice (some ⟨b5,0,none⟩) 0 0,p+1) U ?aH ?bx;case aH=>exact⟨rfl,OA,by have:=Gi om;omega,by omega,by have:=Gi om;omega⟩
 rintro⟨m,l,v,p1⟩ I a w al U;obtain⟨hl,zS,OF,Gn,uU⟩:=al;dsimp only at U;refine aq λI a w U=>?_;refine cz (λae=>?_) λae=>?_
 .refine aF λI a w U=>?_;refine U.bz [0] (NY br code p1 om aR) (ai .tt aB) rfl aO rfl λ⟨d14,GH⟩ I a w pP U=>?_;replace pP:gU d14=true/\GH=p1+3:=pP;obtain⟨Pb,rfl⟩:=pP;obtain⟨I,U⟩:=U.fr 1 12;refine U.km (aaA l d14 hl Pb) (ai .r (ai .tt aB)) rfl λI Ff a w U=>?_;have U:=U.qk 1 rfl;refine aV λI a w U=>?_;have U:=U.drop 2;exact U.ag (m-1,fR l d14,Ff,p1+3) (⟨NJ hl Pb,by show 0<=m-1;omega,by show m-1<=4;omega,by show p<=p1+3;omega,by show p1+3<=_;omega⟩)
 refine zt ?_;refine U.m λU=>?_;refine U.bz [0] (eT br code (p1) (14) om aR) (ai .tt (ai .c aB)) rfl aO rfl λ⟨wy,Gk⟩ I a w uf U=>?_;replace uf:0<=wy/\(0<(14:Int)->wy<(14))/\Gk=p1+1:=uf;obtain⟨Zb,Zc,rfl⟩:=uf;have U:=U.nf;refine aq λI a w U=>?_;refine cz (λah=>?_) λah=>?_
 .refine aF λI a w U=>?_;refine U.bz [0] (eT br code (p1+1) (7) om aR) (ai .tt (ai .c aB)) rfl aO rfl λ⟨nF,q22⟩ I a w B7 U=>?_;replace B7:0<=nF/\(0<(7:Int)->nF<(7))/\q22=p1+1+1:=B7;obtain⟨GI,GJ,rfl⟩:=B7;have U:=U.nf;refine aF λI a w U=>?_;refine U.bz [0] (yG br code (p1+1+1) om aR) (ai .tt aB) rfl aO rfl λ⟨wC,GK⟩ I a w wD U=>?_;replace wD:p1+1+1<=GK/\GK<=p1+1+1+4:=wD;refine U.o (.bd ez (.k (.t aT.nil))) λU=>?_;refine U.o (.li [an.cells ⟨nF-1,wC⟩] eJ (.u .nil)) λU=>?_;refine U.append 1 rfl c4 cx rfl .tt .r rfl (by rw[List.length_map];have:=dY hl;simp;omega) λyf a w U=>?_;rw[bN] at U;refine aM λI a w U=>?_;have pJ:=dY hl;refine U.bD (l++[⟨nF-1,wC⟩],yf,GK) [0,1] rfl (.cons (.t rfl) .nil) (by dsimp only;refine⟨by first|omega|(simp;omega),by omega,by omega⟩) rfl rfl
 refine aq λI a w U=>?_;refine cz (λaj=>?_) λaj=>?_
 .refine bw λI a w U=>?_;refine U.o (jY 1 c4 .tt rfl) λU=>?_;refine ao λI a w U=>?_;refine kO (λaG=>?_) λaG=>?_
  .rw[List.length_map] at aG;obtain⟨bR,cR,rfl⟩:=U.gv 1 rfl gG;refine aF λI a w U=>?_;refine U.bz [0] (yG br code (p1+1) om aR) (ai .tt aB) rfl aO rfl λ⟨pY,oR⟩ I a w lY U=>?_;replace lY:p1+1<=oR/\oR<=p1+1+4:=lY;refine U.o (vn 1 c4 cx .tt .c rfl (λ_=>by rw[List.length_map];omega)) λU=>?_;refine U.o .fv λU=>?_;refine U.KS (j:=1) 1 iH .tt .tt rfl (by exact dL om) rfl rfl rfl λa w U=>?_;refine wpList_nil ?_;have e9:∀y,y=an.cells ⟨(ab l 0).key,pY⟩->(List.map an.cells l).set 0 y=List.map an.cells (l.set 0 ⟨(ab l 0).key,pY⟩):=λy hy=>by rw[hy,List.map_set]
   rw[show Int.toNat 0=0 from rfl,e9] at U;rotate_left
   .rfl
   refine aq λI a w U=>?_;have pJ:=dY hl;refine U.bD (l.set 0 ⟨(ab l 0).key,pY⟩,.slice (some ⟨bR,0,none⟩) (l.map an.cells).length cR,oR) [0,1] rfl (.cons (.t rfl) .nil) (by dsimp only;refine⟨by first|omega|(simp;omega),by omega,by omega⟩) rfl rfl
  refine aq λI a w U=>?_;have pJ:=dY hl;refine U.bD (l,v,p1+1) [0,1] rfl (.cons (.t rfl) .nil) (by dsimp only;refine⟨by first|omega|(simp;omega),by omega,by omega⟩) rfl rfl
 refine aq λI a w U=>?_;have pJ:=dY hl;refine U.bD (l,v,p1+1) [0,1] rfl (.cons (.t rfl) .nil) (by dsimp only;refine⟨by first|omega|(simp;omega),by omega,by omega⟩) rfl rfl
def yT (br:Nat) (code:List UInt8) (p:Int) (hp:0<=p/\p<=1099500000000) (aR:code.length<=1099511627776) (jV:Int) (hm:1<=jV/\jV<=12):
 bJ prog 241 [AV.val (.pointer (some ⟨br,0,none⟩)),AV.int jV] [Own.box br 147 [cy code,AV.int (p)]] (λr:List aD×Value×Int=>oC r.1/\p<=r.2.2/\r.2.2<=p+500) (λr=>[Own.box br 147 [cy code,AV.int (r.2.2)],Own.row r.2.1 54 7 (r.1.map aD.cells)]) (λr=>AV.val r.2.1):=by
 refine bJ.intro 62 func241 rfl ntmps241 rfl aP (λW I a U=>?_);refine ao λI a w U=>?_;refine U.l0 λjU I a w U=>?_;refine bc λI a w U=>?_;refine U.bz [0] (eT br code (p) (jV) om aR) (ai .tt (ai .tt aB)) rfl aO rfl λ⟨GL,q13⟩ I a w uu U=>?_;replace uu:0<=GL/\(0<(jV:Int)->GL<(jV))/\q13=p+1:=uu;obtain⟨aaE,Pc,rfl⟩:=uu;have U:=U.nf;refine ao λI a w U=>?_;refine St.lo (σ:=Int×List aD×Value×Int) (run 2 5 (run 11 14 [])) ⟨λ⟨m,l,v,p1⟩=>[(6,AV.int m),(5,AV.val v)],λ⟨m,l,v,p1⟩=>[Own.box br 147 [cy code,AV.int (p1)],Own.row v 54 7 ((l).map aD.cells)],λ⟨m,l,v,p1⟩=>bY l=true/\0<=m/\m<=12/\p<=p1/\p1<=p+1+31*(12-m)⟩ (λ⟨m,l,v,p1⟩=>m.toNat) (GL,[],.slice (some ⟨jU,0,none⟩) 0 0,p+1) U ?aH ?bx;case aH=>exact⟨rfl,aaE,by have:=Pc om;omega,by omega,by have:=Pc om;omega⟩
 rintro⟨m,l,v,p1⟩ I a w al U;obtain⟨hl,zS,OF,Gn,uU⟩:=al;dsimp only at U;refine aq λI a w U=>?_;refine cz (λae=>?_) λae=>?_
 .refine aF λI a w U=>?_;refine U.bz [0] (Oz br code p1 om aR) (ai .tt aB) rfl aO rfl λ⟨yU,yV⟩ I a w Pd U=>?_;replace Pd:pM yU/\p1<=yV/\yV<=p1+30:=Pd;have U:=U.nf;obtain⟨I,U⟩:=U.fr 1 19;refine U.bz [] (Pa l yU hl) (ai .r (ai .tt aB)) rfl aO rfl λv22 I a w B7 U=>?_;have U:=U.qk 1 rfl;have U:=U.nf;refine ib λI a w U=>?_;have U:=U.drop 2;exact U.ag (m-1,if fW l yU then ej l yU else l,v22,yV) (⟨NK hl yU,by show 0<=m-1;omega,by show m-1<=12;omega,by show p<=yV;omega,by show yV<=_;omega⟩)
 refine zt ?_;refine U.m λU=>?_;refine U.bz [0] (eT br code (p1) (16) om aR) (ai .tt (ai .c aB)) rfl aO rfl λ⟨Pe,q26⟩ I a w uv U=>?_;replace uv:0<=Pe/\(0<(16:Int)->Pe<(16))/\q26=p1+1:=uv;obtain⟨ajs,ajt,rfl⟩:=uv;have U:=U.nf;refine aq λI a w U=>?_;refine cz (λah=>?_) λah=>?_
 .refine aF λI a w U=>?_;refine U.bz [0] (Oz br code (p1+1) om aR) (ai .tt aB) rfl aO rfl λ⟨GM,GN⟩ I a w B2 U=>?_;replace B2:pM GM/\p1+1<=GN/\GN<=p1+1+30:=B2;have U:=U.nf;refine U.o (.li [GM.cells] iy (.u .nil)) λU=>?_;refine U.append 1 rfl dA bL rfl .tt .r rfl (by rw[List.length_map];have:=fV hl;simp;omega) λGF a w U=>?_;rw[bN] at U;refine aM λI a w U=>?_;refine U.bD (l++[GM],GF,GN) [0,1] rfl (.cons (.t rfl) .nil) (by dsimp only;exact⟨Yl hl B2.1,by omega,by omega⟩) rfl rfl
 refine aq λI a w U=>?_;refine cz (λaj=>?_) λaj=>?_
 .refine ao λI a w U=>?_;refine St.lo (σ:=Nat×List aD×Value×Int) (5::(run 3 7 (run 25 36 []))) ⟨λ⟨n,l,v,p1⟩=>[(7,AV.int n),(5,AV.val v)],λ⟨n,l,v,p1⟩=>[Own.box br 147 [cy code,AV.int (p1)],Own.row v 54 7 ((l).map aD.cells)],λ⟨n,l,v,p1⟩=>bY l=true/\n<=40/\p<=p1/\p1<=p+374+n⟩ (λ⟨n,l,v,p1⟩=>40-n) (0,l,v,p1+1) U ?dC ?iJ;case dC=>exact⟨hl,Nat.zero_le _,by omega,by simp;omega⟩
  rintro⟨n,l,v,p1⟩ I a w al U;obtain⟨hl,hn,Gn,uU⟩:=al;dsimp only at U;refine bj λI a w U=>?_;refine U.DR 0 (CR rfl rfl rfl) rfl rfl (cW br code p1 4 om aR) (ai .ag (ai .c aB)) λI a w U=>?_;have hq:∀G:Bool,∃p2:Int,(bif G then Own.box br 147 [cy code,AV.int (p1+1)] else Own.box br 147 [cy code,AV.int (p1)])=Own.box br 147 [cy code,AV.int (p2)]/\p1<=p2/\p2<=p1+1:=λG=>by cases G;exact⟨p1,rfl,by omega,by omega⟩;exact⟨p1+1,rfl,by omega,by omega⟩
  obtain⟨p2,e2,yK,OH⟩:=hq (decide ((n:Int)<40));change St _ _ [(bif decide ((n:Int)<40) then Own.box br 147 [cy code,AV.int (p1+1)] else Own.box br 147 [cy code,AV.int (p1)]),Own.row v 54 7 (l.map aD.cells)] _ _ _ at U;rw[e2] at U;refine aq λI a w U=>?_;refine U.cd (λaG=>?_) λaG=>?_
  .have aju:n<40:=by simp only[Bool.and_eq_true,decide_eq_true_eq] at aG;omega
   refine ao λI a w U=>?_;refine St.lo (σ:=Nat×List aD×Value) (5::(run 2 8 (run 16 45 []))) ⟨λ⟨j,l,v⟩=>[(8,AV.int j),(5,AV.val v)],λ⟨j,l,v⟩=>[Own.box br 147 [cy code,AV.int (p2)],Own.row v 54 7 (l.map aD.cells)],λ⟨j,l,v⟩=>bY l=true/\j<=3⟩ (λ⟨j,l,v⟩=>3-j) (0,l,v) U ?fU ?kT;case fU=>exact⟨hl,Nat.zero_le _⟩
   rintro⟨j,l,v⟩ I a w al U;obtain⟨hl,hj⟩:=al;dsimp only at U;refine aq λI a w U=>?_;refine cz (λaK=>?_) λaK=>?_
   .refine bj λI a w U=>?_;refine U.o (.bd gx (.k (.k aT.nil))) λU=>?_;refine U.o (.bd dy (.k (.t (.k (.k aT.nil))))) λU=>?_;refine U.alloc rfl bL dy λb9 I a w U=>?_;refine ao λI a w U=>?_;obtain⟨I,U⟩:=U.fb 2 9;refine U.m λU=>?_;obtain⟨I,U⟩:=U.fr 1 56;refine U.o .la λU=>?_;refine U.bz [] (Pa l ⟨(j:Int),⟨20+(n:Int),(j:Int)⟩,0,1,9,[]⟩ hl) (ai .r (ai .tt aB)) rfl aO rfl λGO I a w ajv U=>?_;have U:=U.qk 1 rfl;have U:=U.nf;refine ib λI a w U=>?_;have U:=U.drop 2;exact U.ag (j+1,if fW l ⟨(j:Int),⟨20+(n:Int),(j:Int)⟩,0,1,9,[]⟩ then ej l ⟨(j:Int),⟨20+(n:Int),(j:Int)⟩,0,1,9,[]⟩ else l,GO) (⟨NK hl _,by show j+1<=3;omega⟩)
   refine zt ?_;refine aM λI a w U=>?_;exact U.ag (n+1,l,v,p2) (⟨hl,by show n+1<=40;omega,by show p<=p2;omega,by show p2<=_;simp;omega⟩)
  refine zt ?_;refine aq λI a w U=>?_;refine U.bD (l,v,p2) [0,1] rfl (.cons (.t rfl) .nil) (by dsimp only;exact⟨FG hl,by omega,by omega⟩) rfl rfl
 refine aq λI a w U=>?_;refine U.bD (l,v,p1+1) [0,1] rfl (.cons (.t rfl) .nil) (by dsimp only;exact⟨FG hl,by omega,by omega⟩) rfl rfl
def B8 (v:Value) (i:Nat):Value:=v.cells.toList.getD i undef
def GP {I:Im} {l:List AV} {v u:Value} {i:Nat} (h:(AV.agg l).h I v) (hi:l[i]?=some (.val u)):B8 v i=u:=by
 obtain⟨cs,rfl,h⟩:=h;obtain⟨c,hc,e,_⟩:=h.get hi;obtain rfl:c=u:=e;show cs.toList.getD i undef=c;rw[List.getD_eq_getElem?_getD,hc];rfl
def GQ (s:Server) (v:Value):List Own:=[Own.row (B8 v 2) 97 2 (s.aN.map cI.cells),Own.row (B8 v 5) 125 3 (s.aE.map an.cells),Own.row (B8 v 6) 125 3 (s.bn.map an.cells)]
def yW (code:List UInt8) (p:Int):an:=⟨bE code p 6,⟨1+bE code (p+1) 5,bE code (p+1+1) 4⟩⟩
end Go.Proofs.YtldbakcpcfdlaaaGreat

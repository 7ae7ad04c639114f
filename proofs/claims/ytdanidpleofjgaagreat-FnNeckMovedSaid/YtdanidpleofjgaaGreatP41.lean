/- Part 41: contracts of functions, plain facts. -/
import Derived.Test.YtdanidpleofjgaaGreatP30
set_option linter.all false
set_option maxRecDepth 100000
set_option maxHeartbeats 4000000
namespace Go.Proofs.YtdanidpleofjgaaGreat
open Go Go.RowKit Tryz
attribute [local irreducible] wpList Code.wp Ok
def vZ {l:List aE} (h:cg l=true):VS l:=by
 unfold cg at h;rw[Bool.and_eq_true,jm] at h;refine Qr (R:=λa b=>fG a b=true) (λh1 h2=>zb h1 h2) λi h0 hi=>?_;have:=h.2 i hi;unfold fl at this;rw[Bool.and_eq_true,Bool.or_eq_true,decide_eq_true_eq] at this;rcases this.2 with h3|h3
 .omega
 exact h3
def bX (w0:aj) (e:Ev):aj×Bool:=
 let w:={w0 with time:=w0.time+1}
 if e.kind=1\/e.kind=2\/e.kind=3 then gz w e
 else if e.kind=4\/e.kind=5 then gP w e
 else if aH e.kind 6 9&&cr e.at_ then eN w e
 else(w,false)
def eL (w:aj) (e:Ev):aj×Bool:=if w.time<99999/\(bX w e).2=true then((bX w e).1,true) else(w,false)
def Td (x:aj):(!aH x.time 0 99999||((x.aA.length:Int) !=4)||decide (60<(x.al.length:Int))||((x.seen.length:Int) !=2)||!j6 x.calls x.time)=!(pG x&&j6 x.calls x.time):=by
 unfold pG;simp
def Cr (l:List (List au)):(!hasB w9 l)=de l.length λi=>bU (ab l i):=by
 rw[B7];exact A3 rfl λi _=>by simp[w9]
def Cs (l:List ax):(!hasB w8 l)=de l.length λi=>bI (ab l i):=by
 rw[B7];exact A3 rfl λi _=>by simp[w8]
def dH.later {q:Call} {t t':Int} (h:dH q t) (ht:t<=t'):dH q t':=ta.1 (acC (ta.2 h) ht)
def Te (q:Call) (m:ax) (t:Int):(cP q m t).ao=q.ao/\(cP q m t).num=q.num/\(cP q m t).bH=q.bH/\(cP q m t).over=q.over/\(cP q m t).ctx=q.ctx/\(cP q m t).keys=q.keys/\(cP q m t).kind=q.kind:=by
 have e:∀q':Call,∀t,(kD q' t).ao=q'.ao/\(kD q' t).num=q'.num/\(kD q' t).bH=q'.bH/\(kD q' t).over=q'.over/\(kD q' t).ctx=q'.ctx/\(kD q' t).keys=q'.keys/\(kD q' t).kind=q'.kind:=λq' t=>by
  unfold kD;split<;>exact⟨rfl,rfl,rfl,rfl,rfl,rfl,rfl⟩
 unfold cP ig l9 lu;dsimp only;repeat' split
 all_goals first|exact⟨rfl,rfl,rfl,rfl,rfl,rfl,rfl⟩|exact e _ _
def aeZ {l:List Call} {t t':Int} (h:j6 l t=true) (ht:t<=t'):j6 l t'=true:=by
 obtain⟨h1,h2⟩:=tc.1 h;exact tc.2 ⟨h1,λi hi=>⟨(h2 i hi).1.later ht,(h2 i hi).2⟩⟩
def ae0 {l:List Call} {i:Nat} {x:Call} (h:i<l.length) (hx:x.ao=(ab l i).ao) (k:Nat) (y:Int):gH (l.set i x) k y=gH l k y:=by
 have e:((l.set i x).map Call.ao)=l.map Call.ao:=by
  rw[List.map_set];apply List.ext_getElem
  .simp
  intro n hn1 C9;by_cases e:i=n
  .subst e;rw[List.getElem_set_self,List.getElem_map,hx];simp[ab,h]
  rw[List.getElem_set_ne e]
 have e2:∀l:List Call,gH l k y=((((l.map Call.ao).take k).filter λd=>d==y).length:Nat):=λl=>by
  unfold gH;rw[<-List.map_take,List.filter_map,List.length_map];rfl
 rw[e2,e2,e]
def ae1 {l:List Call} {t:Int} (h:j6 l t=true) {i:Nat} (hi:i<l.length) (hw:cD (ab l i)=true) {x:Call} (hx:dH x t) (h1:x.ao=(ab l i).ao) (h2:x.num=(ab l i).num) (h3:x.bH=(ab l i).bH):j6 (l.set i x) t=true:=by
 obtain⟨he,ho⟩:=nu hw;obtain⟨a,b⟩:=tc.1 h;have hb:∀j,(ab (l.set i x) j).bH=(ab l j).bH:=λj=>by rw[eO hi];split;subst_vars;exact h3;rfl
 have bq:∀j,(ab (l.set i x) j).ao=(ab l j).ao:=λj=>by rw[eO hi];split;subst_vars;exact h1;rfl
 have Ct:∀j,(ab (l.set i x) j).num=(ab l j).num:=λj=>by rw[eO hi];split;subst_vars;exact h2;rfl
 refine tc.2 ⟨by rw[List.length_set];exact a,λj hj=>?_⟩;rw[List.length_set] at hj;obtain⟨b1,b2,b3,b4⟩:=b j hj;refine⟨?_,by rw[hb,hb];exact b2,by rw[Ct,bq,ae0 hi h1];exact b3,λk hk=>?_⟩
 .rw[eO hi];split
  .exact hx
  exact b1
 have hc:=b4 k hk;unfold mz at hc⊢;rw[bq,bq,hb];by_cases e:k=i
 .subst e;rw[he,ho] at hc;have:((ab l k).ao==(ab l j).ao)=false:=by simpa using hc
  rw[this];rfl
 rw[eO hi,if_neg e];exact hc
def bR.later {w:aj} (h:bR w):bR {w with time:=w.time+1}:=
 ⟨by have:=h.time;show 0<=w.time+1;omega,h.aA,h.site,h.al,h.words,h.seen,h.kj,aeZ h.calls (by show w.time<=w.time+1;omega)⟩
def bR.Tf {w:aj} (h:bR w) {i:Nat} (hi:i<w.calls.length) (hw:cD (ab w.calls i)=true) {x:Call} (hx:dH x w.time) (h1:x.ao=(ab w.calls i).ao) (h2:x.num=(ab w.calls i).num) (h3:x.bH=(ab w.calls i).bH):bR {w with calls:=w.calls.set i x}:=
 ⟨h.time,h.aA,h.site,h.al,h.words,h.seen,h.kj,ae1 h.calls hi hw hx h1 h2 h3⟩
def ae2 (s:Server) (m:ax):(fT s m).1.site=s.site:=by
 unfold fT;split
 .split
  .rfl
  split
  .exact ze _
  rfl
 rfl
def ae3 (s:Server) (m:ax):(fj s m).1.site=s.site:=by
 unfold fj;split
 .split
  .rfl
  split
  .exact ze _
  rfl
 rfl
def ae4 (s:Server) (m:ax):(cJ s m).1.site=s.site:=by
 unfold cJ;repeat' split
 .exact ae2 s m
 .rfl
 .exact acP s m
 .show(iS s m).site=s.site;unfold iS;split<;>rfl
 .rfl
 .show(fK s m).site=s.site;unfold fK;split
  .exact ze _
  rfl
 .exact ae3 s m
 .show(g8 s m).site=s.site;unfold g8;split
  .exact ze _
  rfl
 rfl
def ae5 (s:Server) (m:ax):(cK s m).1.site=s.site:=by
 unfold cK;split
 .exact ae4 s m
 rfl
def xZ (w:aj) (e:Ev):(bX w e).1.time=w.time+1:=by
 unfold bX gz jJ gP iL eN;dsimp only;repeat' split
 all_goals rfl
def KD (q:Call) (m:ax) (hc:fF q.ao=true) (hm:kH m):
 Fn prog 181 [q.av,m.av] (dR (jr q m)):=by
 refine Fn.go 31 func181 ntmps181 (λW I a U=>?_);have bq:=pJ.1 hc;refine bK λI a w U=>?_;refine U.box rfl .tt λb3 I a w U=>?_;refine aB λI a w U=>?_;refine U.l0 λb7 I a w U=>?_;refine aF λI a w U=>?_;refine St.lo (σ:=Nat×Int×Int×Int×Value) (run 2 5 (run 22 8 [])) ⟨λ⟨j,f1,f2,f3,v⟩=>[(6,AV.int j),(5,AV.val v)],λ⟨j,f1,f2,f3,v⟩=>[Own.box b3 84 ({m with aO:=f1,to:=f2,call:=f3}:ax).cells,Own.row v 84 15 (((jr q m).take j).map ax.cells)],λ⟨j,f1,f2,f3,v⟩=>j<=2⟩ (λ⟨j,f1,f2,f3,v⟩=>2-j) (0,m.aO,m.to,m.call,.slice (some ⟨b7,0,none⟩) 0 0) U ?aJ ?bF;case aJ=>exact Nat.zero_le _
 rintro⟨j,f1,f2,f3,v⟩ I a w an U;have hj:j<=2:=an;dsimp only at U;refine aF λI a w U=>?_;refine cz (λae=>?_) λae=>?_
 .refine gT λI a w U=>?_;refine U.o (lP .c .tt (λ_=>by omega)) λU=>?_;refine va λI a w U=>?_;refine U.o (.c1 (QY {m with aO:=10+q.ao,to:=2*q.ao+(j:Int),call:=q.num} hm)) λU=>?_;refine U.o (.li [({m with aO:=10+q.ao,to:=2*q.ao+(j:Int),call:=q.num}:ax).cells] ir (.u .nil)) λU=>?_;refine U.append 1 rfl gf dI rfl .tt .r rfl (by simp[jr];omega) λzF a w U=>?_;rw[cF,SJ q m om] at U;refine aZ λI a w U=>?_;exact U.ag (j+1,10+q.ao,2*q.ao+(j:Int),q.num,zF) (by show j+1<=2;omega)
 refine wp_exit<|cy<|cy<|fk<|bj<|wp_seq ?_;rw[List.take_of_length_le (by show 2<=j;omega)] at U;obtain⟨I,U⟩:=U.fr 1 5;refine dG ?_;rfl
def ae6 (q:Call) (t:Int) (h:dH q t) (ht:t<=1000000):
 Fn prog 139 [q.av] (dR (ie q)):=by
 refine Fn.go 89 func139 ntmps139 (λW I a U=>?_);have hb:=h.bH;have xY:=h.Cn om;have mY:=h.lens;have eG:=JY (ta.2 h);refine aF λI a w U=>?_;refine U.l0 λb6 I a w U=>?_;refine gT λI a w U=>?_;refine U.o (bT (Fm q (q.bH+q.end_) om om) (az (.t rfl) (az (.t rfl) aI))) λU=>?_;refine wX λI a w U=>?_;refine U.cd (λae=>?_) λae=>?_
 .rw[Sr (t:=t) eG xY.1] at ae;replace ae:=nt ae;refine aF λI a w U=>?_;obtain⟨I,U⟩:=U.fr 0 2;refine U.rt ?_;exact(by unfold ie;rw[ae];rfl)
 rw[Sr (t:=t) eG xY.1] at ae;replace ae:=nf ae;refine aR λI a w U=>?_;refine cz (λah=>?_) λah=>?_
 .refine wp_seq<|U.dk ?_;refine yJ ?_;refine .o (.bd eI (.k (.k (.k (.k bc.nil))))) ?_;refine .o (.c2 (KD q {bW with kind:=1,key:=ab q.keys 0,val:=q.val,aQ:=q.ctx} h.ao ⟨by show q.ctx.length<=_;omega,by simp[vp,bW],by simp[vp,bW],by simp[bW]⟩)) ?_;refine bJ ?_;refine .nil ?_;intro I a w U;refine zt ?_;refine U.rt ?_;exact(by unfold ie asks;rw[ae,if_pos rfl,if_pos ah];rfl)
 refine aB λI a w U=>?_;refine St.lo (σ:=Nat×Value) (run 2 3 (run 25 39 [])) ⟨λ⟨k,v⟩=>[(4,AV.int k),(3,AV.val v)],λ⟨k,v⟩=>[Own.row v 84 15 ((pY q k).map ax.cells)],λ⟨k,v⟩=>k<=q.keys.length⟩ (λ⟨k,v⟩=>q.keys.length-k) (0,.slice (some ⟨b6,0,none⟩) 0 0) U ?aJ ?bF;case aJ=>exact Nat.zero_le _
 rintro⟨k,v⟩ I a w an U;have hk:k<=q.keys.length:=an;dsimp only at U;refine cI λI a w U=>?_;refine cz (λar=>?_) λar=>?_
 .refine zt ?_;refine U.dk ?_;refine iC ?_;refine .o (.c2 (EU ..)) ?_;refine bJ ?_;refine .nil ?_;intro I a w U;refine bj ?_;refine cz (λaM=>?_) λaM=>?_
  .refine U.dt 9 ?_;simp only[TD];refine mo ?_;refine .o (.bd eI (.k (.k bc.nil))) ?_;refine .o (.c2 (KD q (xF (ab q.keys k)) h.ao (Sd _)))<|.nil ?_;intro I a w U;refine U.append 0 rfl gf dI rfl .tt .r rfl (by have:=Jk q k hk;simp[jr];omega) λv63 a w U=>?_;rw[<-List.map_append,QU ar (by simpa using aM)] at U;refine aZ λI a w U=>?_;exact U.ag (k+1,v63) (ar)
  refine aR λI a w U=>?_;rw[QV ar (by simpa using aM)] at U;exact U.ag (k+1,v) (ar)
 refine wp_exit<|cy<|cy<|fk<|bj<|wp_seq<|wp_seq ?_;rw[acj om] at U;refine aB λI a w U=>?_;refine St.lo (σ:=Nat×Value) (3::(5::(run 24 64 []))) ⟨λ⟨j,v⟩=>[(5,AV.int j),(3,AV.val v)],λ⟨j,v⟩=>[Own.row v 84 15 ((sY q j).map ax.cells)],λ⟨j,v⟩=>j<=q.aL.length⟩ (λ⟨j,v⟩=>q.aL.length-j) (0,v) U ?eF ?jS;case eF=>exact Nat.zero_le _
 rintro⟨j,v⟩ I a w an U;have hj:j<=q.aL.length:=an;dsimp only at U;refine cI λI a w U=>?_;refine cz (λaP=>?_) λaP=>?_
 .refine zt ?_;refine U.dt 16 ?_;simp only[TD];refine rf ?_;refine .o (.bd eI (.k (.k (.t bc.nil)))) ?_;refine .o (.c2 (KD q (xI (ab q.aL j)) h.ao (Rb _)))<|.nil ?_;intro I a w U;refine U.append 0 rfl gf dI rfl .tt .r rfl (by have:=R3 q j hj;simp[jr];omega) λKa a w U=>?_;rw[<-List.map_append,R2 aP] at U;refine aZ λI a w U=>?_;exact U.ag (j+1,Ka) (aP)
 refine wp_exit<|cy<|cy<|fk<|bj<|wp_seq ?_;rw[ack ae (by simpa using ah) om] at U;obtain⟨I,U⟩:=U.fr 0 3;refine dG ?_;rfl
def ae8 {w:aj} {e:Ev} (h:((e.kind==1)||(e.kind==2)||(e.kind==3))=true):bX w e=((gz {w with time:=w.time+1} e).1,(gz {w with time:=w.time+1} e).2):=by unfold bX;rw[if_pos (by simp at h;omega)]
def ae9 {w:aj} {e:Ev} (h:((e.kind==1)||(e.kind==2)||(e.kind==3))=false) (h2:((e.kind==4)||(e.kind==5))=true):bX w e=((gP {w with time:=w.time+1} e).1,(gP {w with time:=w.time+1} e).2):=by unfold bX;rw[if_neg (by simp at h;omega),if_pos (by simpa using h2)]
def afa {w:aj} {e:Ev} (h:((e.kind==1)||(e.kind==2)||(e.kind==3))=false) (h2:((e.kind==4)||(e.kind==5))=false) (h3:(!aH e.kind 6 9||!cr e.at_)=true):bX w e=({w with time:=w.time+1},false):=by
 unfold bX;rw[if_neg (by simp at h;omega),if_neg (by simpa using h2),if_neg (by simp at h3;simp;intro h9;rcases h3 with h'|h';(rw[h'] at h9;cases h9);exact h')]
def afb {w:aj} {e:Ev} (h:((e.kind==1)||(e.kind==2)||(e.kind==3))=false) (h2:((e.kind==4)||(e.kind==5))=false) (h3:(!aH e.kind 6 9||!cr e.at_)=false):bX w e=((eN {w with time:=w.time+1} e).1,(eN {w with time:=w.time+1} e).2):=by
 unfold bX;rw[if_neg (by simp at h;omega),if_neg (by simpa using h2),if_pos (by simp at h3⊢;exact h3)]
def afc (b:Nat) (x:aj) (e:Ev) (s r q z:Value) (hg:bR x) (ht:x.time<=1000000):
 dr prog 154 [AV.val (.pointer (some ⟨b,0,none⟩)),e.av] (x.full b s r q z) (λ_:Value=>True) (λu=>bif (jJ x e).2 then(jJ x e).1.full b s r u z else[]) (λ_=>AV.bool (jJ x e).2):=by
 refine dr.intro 114 func154 rfl ntmps154 rfl aS (λW I a U=>?_);change St _ _ [Own.box b 28 [AV.int x.time,AV.val s,AV.val r,AV.val q,AV.val z],Own.row s 43 7 (x.aA.map Server.cells),Own.row r 84 15 (x.al.map ax.cells),Own.row q 53 13 (x.calls.map Call.cells),Own.row z 41 1 (x.seen.map fX)] _ _ _ at U;have mY:=hg.lens;have vU:=hg.seen;have zS:=hg.time;refine bB λI a w U=>?_;refine U.o (.c1 (Bx ..)) λU=>?_;refine cj λI a w U=>?_;refine U.q .F (DO (xs:=[AV.val (.pointer (some ⟨b,0,none⟩)),AV.int e.ao]) (sE:=[AV.ptr [AV.int x.time,AV.val s,AV.val r,jl x.calls,AV.val z],AV.int e.ao]) (JU x.calls x.time s r z e.ao) (az .ag (az .ag aI)) (λc I a w U=>by obtain⟨I,U⟩:=U.fu 3 3 0;obtain⟨I,U⟩:=U.fb 0 0;exact⟨_,_,_,U,rfl,rfl,trivial⟩)) λU=>?_;refine aF λI a w U=>?_;refine U.cd (λae=>?_) λae=>?_
 .rw[Pj] at ae;replace ae:=nt ae;refine aB λI a w U=>?_;refine U.dw (.bool false) [] rfl (.cons (.t rfl) .nil) trivial (by rw[JT ae];rfl) (by rw[JT ae];rfl)
 rw[Pj] at ae;replace ae:=nf ae;have FB:=ae;simp only[fF,aH,Bool.and_eq_true,decide_eq_true_eq] at FB;refine zt ?_;have U:=U.jc;have U:=U.jc;have U:=U.jc;refine U.Bj 22 _ (rp 6 (([6],some (6,[26]))::rp 3 (([0],none)::rp 2 (([4],none)::([4],none)::rp 4 [([0],none),([7],some (7,[40,26])),([5],some (5,[5]))])))) rfl aS aS rfl ?_;simp only[TD];refine iC ?_;refine aY.DM (jk:=[[AV.int e.a]]) 6 rfl rfl ky jQ rfl vb rfl rfl rfl (bc.c rfl rfl .tt (by first|exact lG rfl|exact lQ|exact lR|exact lV|assumption) bc.nil) rfl rfl (by simp only[List.forall_mem_cons];exact⟨rfl,λ_ h=>by simp at h⟩) rfl ?_;refine dD ?_;refine .r [0] (.lb 0) ?_;refine cB ?_;refine .r [4] (Bu 4 Br tK .tt .tt rfl (λ_=>by rw[List.length_map];omega)) ?_;refine .r [4] (OP (j:=0) 4 tK .tt rfl (λ_=>by exact gh om) rfl rfl rfl) ?_;refine .o (bT (tX (ab x.seen e.ao.toNat) (by have:=hg.Se (i:=e.ao.toNat) om;omega)) (az .r aI)) ?_;refine dD ?_;refine .r [0] (.lb 0) ?_;refine aY.HZ 7 [26] (λa=>AV.agg [AV.int e.ao,AV.int 1,AV.int e.call,AV.val (a.tmps.getD 26 undef),AV.int 0,bE (ab x.seen e.ao.toNat),AV.int x.time,AV.int 0,AV.bool false,AV.int 0,AV.int 0,AV.rows 9 [],AV.rows 3 []]) rfl rfl rfl rfl (λa b h=>by simp only[List.forall_mem_cons] at h;simp only[h]) rfl (λF a I he=>Ok.to (.bd j4 (.k (.k (.k (bc.c YF rfl .tt (w3 (t:=26) he) (.k (.k bc.nil)))))))) ?_;refine aY.alloc 5 rfl rfl fI j4<|.nil ?_;intro I a w U;obtain⟨b5,U⟩:=U.oL (d:=5) 5 rfl rfl;change St _ _ [Own.box b 28 [AV.int x.time,AV.val s,AV.val r,AV.val q,AV.val z],Own.row s 43 7 (x.aA.map Server.cells),Own.row r 84 15 (x.al.map ax.cells),Own.row q 53 13 (x.calls.map Call.cells),Own.row z 41 1 (x.seen.map fX),Own.box b5 53 _,Own.row (a.tmps.getD 26 undef) 3 1 [[AV.int e.a]],Own.is (AV.agg [AV.int e.ao,AV.int 1,AV.int e.call,AV.val (a.tmps.getD 26 undef),AV.int 0,bE (ab x.seen e.ao.toNat),AV.int x.time,AV.int 0,AV.bool false,AV.int 0,AV.int 0,AV.rows 9 [],AV.rows 3 []]) (a.tmps.getD 40 undef)] _ _ _ at U;have U:=U.H4 (d:=40) 7 rfl;have U:=U.drop 7;generalize a.tmps.getD 26 undef=xT at U;show wpList _ _ _ _ _ _;refine cj λI a w U=>?_;refine U.o (sh 3 oO .tt rfl) λU=>?_;refine aB λI a w U=>?_;refine St.lo (σ:=Nat×Int) (7::(run 14 46 [])) ⟨λ⟨k,nm⟩=>[(46,AV.int k)],λ⟨k,nm⟩=>[Own.box b 28 [AV.int x.time,AV.val s,AV.val r,AV.val q,AV.val z],Own.row s 43 7 (x.aA.map Server.cells),Own.row r 84 15 (x.al.map ax.cells),Own.row q 53 13 (x.calls.map Call.cells),Own.row z 41 1 (x.seen.map fX),Own.box b5 53 [AV.int e.ao,AV.int nm,AV.int e.call,AV.val xT,AV.int 0,bE (ab x.seen e.ao.toNat),AV.int x.time,AV.int 0,AV.bool false,AV.int 0,AV.int 0,AV.rows 9 [],AV.rows 3 []],Own.row xT 3 1 [[AV.int e.a]]],λ⟨k,nm⟩=>k<=x.calls.length/\nm=gH x.calls k e.ao+1⟩ (λ⟨k,nm⟩=>x.calls.length-k) (0,1) U ?aJ ?bF;case aJ=>exact⟨Nat.zero_le _,by rw[Jb];rfl⟩
 rintro⟨k,nm⟩ I a w an U;obtain⟨hk,FJ⟩:=an;have Tg:=EK x.calls k e.ao;dsimp only at U;refine aB λI a w U=>?_;refine cz (λah=>?_) λah=>?_
 .rw[List.length_map] at ah;refine zt ?_;refine U.o (Bu 3 oO fI .tt .tt rfl (λ_=>by rw[List.length_map];omega)) λU=>?_;refine U.o (OQ 3 fI .tt rfl (λ_=>by exact gh ah) rfl) λU=>?_;refine U.alloc rfl fI j4 λb7 I a w U=>?_;refine U.sb 7 λU=>?_;obtain⟨I,U⟩:=U.fb 7 7;refine cI λI a w U=>?_;refine cz (λar=>?_) λar=>?_
  .rw[Int.toNat_natCast] at ar;refine bB λI a w U=>?_;refine U.s1 5 λU=>?_;refine aF λI a w U=>?_;have U:=U.drop 7;exact U.ag (k+1,nm+1) (⟨ah,by show nm+1=_;rw[sV ah,if_pos ar,FJ]⟩)
  rw[Int.toNat_natCast] at ar;refine aF λI a w U=>?_;have U:=U.drop 7;exact U.ag (k+1,nm) (⟨ah,by show nm=_;rw[sV ah,if_neg ar,FJ]⟩)
 rw[List.length_map] at ah;refine wp_exit<|cy<|cy<|fk<|bj ?_;refine St.cut (σ:=Int) (run 6 60 []) ⟨λval=>[],λval=>[Own.box b 28 [AV.int x.time,AV.val s,AV.val r,AV.val q,AV.val z],Own.row s 43 7 (x.aA.map Server.cells),Own.row r 84 15 (x.al.map ax.cells),Own.row q 53 13 (x.calls.map Call.cells),Own.row z 41 1 (x.seen.map fX),Own.box b5 53 [AV.int e.ao,AV.int (tW x.calls e.ao+1),AV.int e.call,AV.val xT,AV.int val,bE (ab x.seen e.ao.toNat),AV.int x.time,AV.int 0,AV.bool false,AV.int 0,AV.int 0,AV.rows 9 [],AV.rows 3 []],Own.row xT 3 1 [[AV.int e.a]]],λval=>val=if e.call=1 then e.val else 0⟩ U ?Kl ?adH;case Kl=>
  refine wp_seq ?_;rw[show k=x.calls.length by omega,<-ad5 hg] at FJ;subst FJ;refine aR λI a w U=>?_;refine cz (λaM=>?_) λaM=>?_
  .refine bm λI a w U=>?_;refine U.s1 5 λU=>?_;refine zt ?_;exact U.me e.val (by first|exact(if_pos aM).symm|exact(if_neg aM).symm)
  refine zt ?_;exact U.me 0 (by first|exact(if_pos aM).symm|exact(if_neg aM).symm)
 rintro val I a w an U;have gC:val=if e.call=1 then e.val else 0:=an
 subst gC;refine St.cut (σ:=Unit) (run 29 66 []) ⟨λ_=>[],λ_=>[Own.box b 28 [AV.int x.time,AV.val s,AV.val r,AV.val q,AV.val z],Own.row s 43 7 (x.aA.map Server.cells),Own.row r 84 15 (x.al.map ax.cells),Own.row q 53 13 (x.calls.map Call.cells),Own.row z 41 1 (x.seen.map fX),Own.box b5 53 [AV.int e.ao,AV.int (tW x.calls e.ao+1),AV.int e.call,jb (lq e),AV.int (if e.call=1 then e.val else 0),bE (ab x.seen e.ao.toNat),AV.int x.time,AV.int 0,AV.bool false,AV.int 0,AV.int 0,AV.rows 9 [],AV.rows 3 []],Own.gone],λ_=>True⟩ U ?KE ?afd;case KE=>
  refine wX λI a w U=>?_;refine U.cd (λaP=>?_) λaP=>?_
  .refine bB λI a w U=>?_;refine U.o (.li [[AV.int e.b]] vb (.v .nil)) λU=>?_;refine U.append 6 rfl ky jQ rfl .tt .r rfl bk λv81 a w U=>?_;refine U.o .fv λU=>?_;try have aoH:=U.ff 6 rfl
   refine U.s1 5 λU=>?_;refine cI λI a w U=>?_;refine cz (λbx=>?_) λbx=>?_
   .refine bB λI a w U=>?_;refine U.o (.li [[AV.int e.c]] vb (.v .nil)) λU=>?_;refine U.append 6 rfl ky jQ rfl .tt .r rfl bk λv93 a w U=>?_;refine U.o .fv λU=>?_;try have aoJ:=U.ff 6 rfl
    refine U.s1 5 λU=>?_;refine zt ?_;obtain⟨I,U⟩:=U.fu 6 3 5;have U:=U.pass (H':=[Own.box b 28 [AV.int x.time,AV.val s,AV.val r,AV.val q,AV.val z],Own.row s 43 7 (x.aA.map Server.cells),Own.row r 84 15 (x.al.map ax.cells),Own.row q 53 13 (x.calls.map Call.cells),Own.row z 41 1 (x.seen.map fX),Own.box b5 53 [AV.int e.ao,AV.int (tW x.calls e.ao+1),AV.int e.call,jb (lq e),AV.int (if e.call=1 then e.val else 0),bE (ab x.seen e.ao.toNat),AV.int x.time,AV.int 0,AV.bool false,AV.int 0,AV.int 0,AV.rows 9 [],AV.rows 3 []],Own.gone]) (by first|(rw[Fz aP bx];rfl)|(rw[Fy aP (by simpa using bx)];rfl)|(rw[Fx aP];rfl));exact U.me () gD
   refine zt ?_;obtain⟨I,U⟩:=U.fu 6 3 5;have U:=U.pass (H':=[Own.box b 28 [AV.int x.time,AV.val s,AV.val r,AV.val q,AV.val z],Own.row s 43 7 (x.aA.map Server.cells),Own.row r 84 15 (x.al.map ax.cells),Own.row q 53 13 (x.calls.map Call.cells),Own.row z 41 1 (x.seen.map fX),Own.box b5 53 [AV.int e.ao,AV.int (tW x.calls e.ao+1),AV.int e.call,jb (lq e),AV.int (if e.call=1 then e.val else 0),bE (ab x.seen e.ao.toNat),AV.int x.time,AV.int 0,AV.bool false,AV.int 0,AV.int 0,AV.rows 9 [],AV.rows 3 []],Own.gone]) (by first|(rw[Fz aP bx];rfl)|(rw[Fy aP (by simpa using bx)];rfl)|(rw[Fx aP];rfl));exact U.me () gD
  refine zt ?_;obtain⟨I,U⟩:=U.fu 6 3 5;have U:=U.pass (H':=[Own.box b 28 [AV.int x.time,AV.val s,AV.val r,AV.val q,AV.val z],Own.row s 43 7 (x.aA.map Server.cells),Own.row r 84 15 (x.al.map ax.cells),Own.row q 53 13 (x.calls.map Call.cells),Own.row z 41 1 (x.seen.map fX),Own.box b5 53 [AV.int e.ao,AV.int (tW x.calls e.ao+1),AV.int e.call,jb (lq e),AV.int (if e.call=1 then e.val else 0),bE (ab x.seen e.ao.toNat),AV.int x.time,AV.int 0,AV.bool false,AV.int 0,AV.int 0,AV.rows 9 [],AV.rows 3 []],Own.gone]) (by first|(rw[Fz aP bx];rfl)|(rw[Fy aP (by simpa using bx)];rfl)|(rw[Fx aP];rfl));exact U.me () gD
 rintro _ I a w an U;refine wp_seq ?_;obtain⟨I,U⟩:=U.fu 3 3 0;refine U.da 7 ?_;simp only[TD];refine ef ?_;refine gJ.pt (aas x.calls om) (az .r aI) ?_;refine bJ ?_;refine .o (.li [(iK x e).cells] DW (.u .nil)) ?_;refine .nil ?_;intro I a w U;obtain⟨v99,U⟩:=U.DK (d:=99);refine U.ap 7 λafe a w U=>?_;rw[cF] at U;refine ee λI a w U=>?_;refine U.o (DL 7 (az .tt (az .tt aI)) rfl (SR (x.calls++[iK x e]) x.time om gQ (λq hq=>adL hg FB.1 hq)) (λ_ _ _ h=>h)) λU=>?_;refine aB λI a w U=>?_;refine U.cd (λbt=>?_) λbt=>?_
 .replace bt:=nt bt;refine aB λI a w U=>?_;refine U.dw (.bool false) [] rfl (.cons (.t rfl) .nil) trivial (by rw[Cg ae,bt];rfl) (by rw[Cg ae,bt];rfl)
 replace bt:=nf bt;refine bB λI a w U=>?_;try have aoL:=U.ff 7 rfl
 refine aF λI a w U=>?_;refine U.dw afe [0,1,2,7,4] rfl (.cons (.t rfl) .nil) trivial (by rw[Cg ae,bt];rfl) (by rw[Cg ae,bt];rfl)
def aff {x:aj} {e:Ev} (h:((ab x.aA e.at_.toNat).up==(e.kind==7))=false) (hk:e.kind=6):eN x e=({x with aA:=x.aA.set e.at_.toNat (ll (ab x.aA e.at_.toNat))},true):=by
 unfold eN;dsimp only;rw[if_neg om,if_pos hk,Pk h om]
def afg {x:aj} {e:Ev} (h:((ab x.aA e.at_.toNat).up==(e.kind==7))=false) (hk:e.kind=7):eN x e=({x with aA:=x.aA.set e.at_.toNat (jF (ab x.aA e.at_.toNat))},true):=by
 unfold eN;dsimp only;rw[if_pos hk,ZS h hk];rfl
inductive Reach:aj->Prop
 |start:Reach dA
 |step {w:aj} {e:Ev}:Reach w->(bX w e).2=true->Reach (bX w e).1
structure c9 (n:Nat) (s:dU):Prop where
 reach:Reach s.w
 time:s.w.time<=n
 len:s.list.length<=n
 fit:∀e∈s.list,e.zh
def c9.mono {n m:Nat} {s:dU} (h:c9 n s) (hm:n<=m):c9 m s:=
 ⟨h.reach,by have:=h.time;omega,by have:=h.len;omega,h.fit⟩
def c9.afh {n:Nat} {s:dU} {e:Ev} (h:c9 n s) (he:e.zh) (an:(bX s.w e).2=true) (v:Value):c9 (n+1) ⟨(bX s.w e).1,s.list++[e],v⟩:=
 ⟨h.reach.step an,by have:=h.time;show(bX s.w e).1.time<=_;rw[xZ];omega,by have:=h.len;show(s.list++[e]).length<=_;simp;omega,λx hx=>by
  rcases List.mem_append.1 hx with hx|hx
  .exact h.fit x hx
  obtain rfl:=List.mem_singleton.1 hx;exact he⟩
def bR.aC {w:aj} (h:bR w):∀q∈w.calls,q.aC.length<=1048576:=λq hq=>by have:=h.lens.2 q hq;omega
def mZ (w:aj) (σ:Nat) (D:List au):Prop:=∀d∈D,∃u,bn w σ u/\u.aU=d/\vg u.aQ D
structure dX (w:aj) (m:ax):Prop where
 k1:m.kind=1->∃q∈w.calls,m.aO=10+q.ao/\q.num=m.call/\m.to/2=q.ao/\q.kind=1/\ab q.keys 0=m.key/\q.val=m.val/\q.ctx=m.aQ
 k2:m.kind=2->∃v,bn w (m.to-10).toNat v/\v.ao=m.to-10/\v.call=m.call/\v.key=m.key/\v.aq=m.aq
 k3:m.kind=3->∃q∈w.calls,m.aO=10+q.ao/\q.num=m.call/\m.to/2=q.ao
 k4:m.kind=4->∃q∈w.calls,m.to=10+q.ao/\q.num=m.call/\(m.yes=true->∃v,m.ai=[v]/\v.key=m.key/\bn w q.ao.toNat v/\(dS m.aq=true->bV v.aq (bN q.ctx m.key)=false)/\(dS m.aq=false->v.aq=m.aq))/\
  (m.yes=false->dS m.aq=true/\bN q.ctx m.key=gn)
 k5:m.kind=5->∃v,m.ai=[v]/\bn w (m.aO/2).toNat v/\bM v.aq.site=m.aO/2
 k6:m.kind=6->∃v,v.aU=⟨m.key,m.aq⟩/\mu w (m.aO/2).toNat v
 k8:m.kind=8->∃v,v.aU=⟨m.key,m.aq⟩/\bn w (m.aO/2).toNat v
 k9:m.kind=9->m.aO.toNat<4/\(m.ba<=ep w (bL m.aO.toNat) m.slot.toNat\/xk (sv w m.aO.toNat) m)
 nJ:m.kind=10->m.aO.toNat<4/\m.ba<=ep w m.aO.toNat m.slot.toNat
structure m9 (w:aj) (q:Call):Prop where
 dY:∀a∈q.aC,a.yes=true->bn w q.ao.toNat a.bl
 ctx:∀a∈q.aC,bV a.bl.aq (bN q.ctx a.key)=false
 full:q.kind≠1->q.aC.length=q.keys.length->∃C:Int->cx,(∀a∈q.aC,∀key,bV (C key) (bN a.bl.aQ key)=false)/\(∀a∈q.aC,bV a.bl.aq (C a.key)=false\/(⟨a.key,C a.key⟩:au)∈q.aL)/\
  ∀d∈q.aL,d.aq=C d.key/\∃u,bn w q.ao.toNat u/\u.aU=d/\∀key,bV (C key) (bN u.aQ key)=false
structure Ext (w x:aj):Prop where
 dY:∀{σ v},bn w σ v->bn x σ v
 cont:∀{σ v},mu w σ v->mu x σ v
 ep:∀i,i<4->∀k,k<3->ep w i k<=ep x i k
 calls:∀q∈w.calls,∃p∈x.calls,jR q p
def mZ.ext {w x:aj} (h:Ext w x) {σ:Nat} {D:List au} (hc:mZ w σ D):mZ x σ D:=λd hd=>let⟨u,h1,h2,h3⟩:=hc d hd;⟨u,h.dY h1,h2,h3⟩
def m9.ext {w x:aj} (h:Ext w x) {q:Call} (g:m9 w q):m9 x q:=
 ⟨λa ha hy=>h.dY (g.dY a ha hy),g.ctx,λh1 h2=>by
  obtain⟨C,c1,c2,c3⟩:=g.full h1 h2;exact⟨C,c1,c2,λd hd=>let⟨e1,u,e2,e3⟩:=c3 d hd;⟨e1,u,h.dY e2,e3⟩⟩⟩
def dX.ext {w x:aj} (h:Ext w x) {m:ax} (hm:bI m=true) (g:dX w m) (h9:m.kind=9->m.aO.toNat<4->xk (sv w m.aO.toNat) m->m.ba<=ep x (bL m.aO.toNat) m.slot.toNat\/xk (sv x m.aO.toNat) m):dX x m where
 k1 e:=by
  obtain⟨q,hq,a1,a2,a3,a4,a5,a6,a7⟩:=g.k1 e;obtain⟨p,hp,s1,s2,s3,s4,s5,s6⟩:=h.calls q hq;exact⟨p,hp,by rw[s1];exact a1,by rw[s2];exact a2,by rw[s1];exact a3,by rw[s3];exact a4,by rw[s4];exact a5,by rw[s5];exact a6,by rw[s6];exact a7⟩
 k2 e:=by
  obtain⟨v,a1,a2⟩:=g.k2 e;exact⟨v,h.dY a1,a2⟩
 k3 e:=by
  obtain⟨q,hq,a1,a2,a3⟩:=g.k3 e;obtain⟨p,hp,s1,s2,s3,s4,s5,s6⟩:=h.calls q hq;exact⟨p,hp,by rw[s1];exact a1,by rw[s2];exact a2,by rw[s1];exact a3⟩
 k4 e:=by
  obtain⟨q,hq,a1,a2,a3,a4⟩:=g.k4 e;obtain⟨p,hp,s1,s2,s3,s4,s5,s6⟩:=h.calls q hq;refine⟨p,hp,by rw[s1];exact a1,by rw[s2];exact a2,λhy=>?_,λhy=>?_⟩
  .obtain⟨v,b1,b2,b3,b4,b5⟩:=a3 hy;exact⟨v,b1,b2,by rw[s1];exact h.dY b3,by rw[s6];exact b4,b5⟩
  rw[s6];exact a4 hy
 k5 e:=by
  obtain⟨v,a1,a2,a3⟩:=g.k5 e;exact⟨v,a1,h.dY a2,a3⟩
 k6 e:=by
  obtain⟨v,a1,a2⟩:=g.k6 e;exact⟨v,a1,h.cont a2⟩
 k8 e:=by
  obtain⟨v,a1,a2⟩:=g.k8 e;exact⟨v,a1,h.dY a2⟩
 k9 e:=by
  obtain⟨hl,a|a⟩:=g.k9 e
  .exact⟨hl,.inl (Int.le_trans a (h.ep _ (gX hl) _ (BF hm)))⟩
  exact⟨hl,h9 e hl a⟩
 nJ e:=⟨(g.nJ e).1,Int.le_trans (g.nJ e).2 (h.ep _ (g.nJ e).1 _ (BF hm))⟩
def rV {v:aE} (h:dL v=true):vk v<3:=by have:=EG (iW h).1;unfold vk;omega
def Ext.refl (w:aj):Ext w w:=⟨id,id,λ_ _ _ _=>Int.le_refl _,λq hq=>⟨q,hq,jR.refl q⟩⟩
def KF (a b:cx):bV (dJ a b) a=false:=by
 unfold dJ;split
 .rename_i h;exact Es h
 exact yX a
def afi {l:List au} {d:au} (h:bU l=true) (hd:di d.aq=true):vg l (gq l d):=λkey=>by
 rw[B0 key h hd];split
 .exact KF _ _
 exact yX _
def afj {a b:List au} (ha:bU a=true) (hb:bU b=true):vg a (iV a b):=λkey=>by rw[Cd ha hb];exact KF _ _
def afk {l:List Answer} {key:Int}:kO l key=gn\/∃b∈l,bN b.bl.aQ key=kO l key:=by
 induction l with
 |nil=>exact .inl rfl
 |cons b r ih=>
  show dJ (bN b.bl.aQ key) (kO r key)=gn\/∃x∈b::r,_=dJ (bN b.bl.aQ key) (kO r key)
  unfold dJ
  split
  .rcases ih with ih|⟨x,hx,e⟩
   .exact .inl ih
   exact .inr ⟨x,List.mem_cons_of_mem _ hx,e⟩
  exact .inr ⟨b,List.mem_cons_self ..,rfl⟩
def Th {q:Call} (h:∀a∈q.aC,dT a=true) (key:Int):bN (fR q) key=kO q.aC key:=by
 show bN (q.aC.foldl mX []) key=_;rw[(s7 (acc:=[]) rfl h).2 key];show dJ gn _=_;exact p4 (Fe h key)
def aei (s:Server) (m:ax) (an:fg s) (ho:s.aD.length<=80) (hm:bI m=true):
 Fn prog 187 [s.av,m.av] ((iS s m).av):=by
 refine Fn.go 57 func187 ntmps187 (λW I a U=>?_);have jK:=rr (BR hm);have h3:=an.aw;have FD:=λh=>P8 (l:=s.aD) (d:=⟨m.key,m.aq⟩) h;refine sr<|U.box rfl .tt λb2 I a w U=>U.o .bp λU=>U.alloc rfl cv dN λb4 I a w U=>?_;refine ee λI a w U=>?_;refine U.o (.bd gK (.k (.t bc.nil))) λU=>?_;refine U.o (.cl (BT s.aD ⟨m.key,m.aq⟩)) λU=>?_;refine aB λI a w U=>?_;refine U.dk ?_;refine cB ?_;refine .o (.c1 (sG ..)) ?_;refine ef ?_;refine .q .F (.cl (rj ..)) ?_;refine cB ?_;refine .q .F (.cl (rj ..)) ?_;refine XN ?_;refine .q .F (.cl (vz ..)) ?_;refine gF ?_;refine .nil ?_;intro I a w U;refine bj ?_;refine U.cd (λae=>?_) λae=>?_
 .rw[Qb s m] at ae;replace ae:=nt ae;refine aF λI a w U=>?_;refine U.ret rfl (.cons (.sx 1) aW.nil) ?_;exact(by unfold iS;rw[ae];rfl)
 rw[Qb s m] at ae;replace ae:=nf ae;refine zt ?_;have U:=U.jc;refine U.gw (rp 2 (([0],none)::rp 2 (([2],some (2,[48]))::([],none)::([0],none)::rp 3 [([2],some (2,[])),([],none),([0],some (0,[]))]))) aS aS rfl ?_;refine .o (uZ en cV) ?_;refine bJ ?_;refine .r [0] (.lb 0) ?_;refine bJ ?_;refine .o (AS en cV .r .tt (λ_=>by simp only[B] at ae;have h9:=FD om;simp only[List.length_map];omega)) ?_;refine aY.Bb 2 rfl rfl en cV rfl .tt .r gQ ?_;refine bJ ?_;refine .r [0] (.lb 0) ?_;refine bJ ?_;refine .o (mH .tt .c (λ_=>by simp only[B] at ae;have h9:=FD om;omega)) ?_;refine .o (G6 en cV .r .tt (λ_=>by simp only[B] at ae;have h9:=FD om;simp only[List.length_map];omega)) ?_;refine aY.DE 2 rfl rfl en cV rfl .r gQ ?_;refine bJ ?_;refine aY.jn (x:=AV.any) 0 (λF W0 I0 I a w Q U kk=>U.s1 0 λU=>kk _ _ _ U) ?_;refine .nil ?_;intro I a w U;rw[<-List.map_take,<-List.map_drop,<-List.map_append] at U;refine aF λI a w U=>?_;refine U.ret rfl (.cons (.sx 1) aW.nil) ?_;exact(by unfold iS;rw[ae];have h9:=FD (by simp only[B] at ae;omega);rw[show((eW s.aD ⟨m.key,m.aq⟩)+1).toNat=(eW s.aD ⟨m.key,m.aq⟩).toNat+1 by simp only[B] at ae;omega];rfl)
def SV {q:Call} {k:Nat} (hw:cD q=true) (h:(asks q).length<=k):oZ q k=ie q:=by
 unfold oZ ie;rw[if_pos hw,List.take_of_length_le h]
def SW {q:Call} {t:Int} (h:dH q t) (ht:0<=t):(!gx q q.bH||!cD q)=!cD q:=by
 cases hw:cD q
 .simp
 have he:=(nu hw).1;have:=JY (ta.2 h);rw[he,Int.add_zero] at this;rw[this];rfl
def aej (q:Call) (m:ax) (t:Int) (h:dH q t) (ht:t<=1000000):
 Fn prog 182 [q.av,m.av,AV.int t] ((cP q m t).av):=by
 refine Fn.go 135 func182 ntmps182 (λW I a U=>?_);have an:=ta.2 h;have mY:=h.lens;have hb:=h.bH;have xY:=h.Cn om;have bq:=pJ.1 h.ao;refine aG λI a w U=>?_;refine U.alloc rfl fI j4 λb6 I a w U=>?_;refine aG λI a w U=>?_;refine U.o (bT (Fm q t om om) (az (.t rfl) (az (.t rfl) aI))) λU=>?_;refine aB λI a w U=>?_;refine U.cd (λae=>?_) λae=>?_
 .exfalso;rw[an] at ae;cases ae;skip
 refine bK λI a w U=>?_;refine U.dj [] (abr q h.small) (az .tt aI) rfl aN rfl λu I a w aek U=>?_;refine U.alloc rfl fI j4 λb7 I a w U=>?_;refine aG λI a w U=>?_;refine U.o (.c1 (Jg ..)) λU=>?_;refine Oz λI a w U=>?_;refine U.q .F (.cl (Rx ..)) λU=>?_;refine HV λI a w U=>?_;refine U.cd (λah=>?_) λah=>?_
 .rw[SN q m t xY.1] at ah;replace ah:=nt ah;refine wp_seq ?_;obtain⟨I,U⟩:=U.fu 1 11 3;obtain⟨I,U⟩:=U.fu 2 12 3;refine aF λI a w U=>?_;refine U.ret rfl (.cons (.sx 0) aW.nil) ?_;exact(by unfold cP;rw[ah];rfl)
 rw[SN q m t xY.1] at ah;replace ah:=nf ah;have uz:=ah;simp only[Bool.and_eq_true,decide_eq_true_eq] at uz;obtain⟨⟨⟨⟨⟨hm,_⟩,_⟩,gj⟩,hw⟩,rS⟩:=uz;have FE:=g0 (mW hm).1;refine aR λI a w U=>?_;refine cz (λar=>?_) λar=>?_
 .refine ee λI a w U=>?_;refine U.q .T (.cl (w5 ..)) λU=>?_;refine aB λI a w U=>?_;refine U.cd (λaM=>?_) λaM=>?_
  .refine bm λI a w U=>?_;refine U.se 3 mP .tt .tt rfl rfl rfl λa w U=>?_;refine aR λI a w U=>?_;obtain⟨I,U⟩:=U.fu 1 11 3;obtain⟨I,U⟩:=U.fu 2 12 3;refine aF λI a w U=>?_;refine U.ret rfl (.cons (.sx 0) aW.nil) ?_;exact(by unfold cP;rw[ah,if_pos rfl,if_pos ar,if_pos (by simpa using aM)];rfl)
  refine wp_skip<|bj<|wp_seq ?_;obtain⟨I,U⟩:=U.fu 1 11 3;obtain⟨I,U⟩:=U.fu 2 12 3;refine aF λI a w U=>?_;refine U.ret rfl (.cons (.sx 0) aW.nil) ?_;exact(by unfold cP;rw[ah,if_pos rfl,if_pos ar,if_neg (by simpa using aM)];rfl)
 refine bB λI a w U=>?_;refine U.o (.bd pD (.k (.k bc.nil))) λU=>?_;refine U.alloc rfl ga pD λb8 I a w U=>?_;refine aB λI a w U=>?_;refine U.dk ?_;refine rf ?_;refine .q .F2 (gS (i:=0) eJ bQ .ag .c (λhg=>by simp at hg;omega)) ?_;refine pB ?_;refine .nil ?_;intro I a w U;refine bj ?_;refine U.cd (λaP=>?_) λaP=>?_
 .rw[D8] at aP;replace aP:=nt aP;rw[decide_eq_false_iff_not] at aP;refine wp_seq ?_;obtain⟨I,U⟩:=U.fu 1 11 3;obtain⟨I,U⟩:=U.fu 2 12 3;refine aF λI a w U=>?_;refine U.ret rfl (.cons (.sx 0) aW.nil) ?_;exact(by unfold cP ig;rw[ah,if_pos rfl,if_neg ar,if_neg aP];rfl)
 rw[D8] at aP;replace aP:=nf aP;rw[decide_eq_true_eq] at aP;have rT:=ET (q:=q) hm aP.2;refine wp_skip<|bj ?_;refine St.cut (σ:=Unit) (run 8 104 []) ⟨λ_=>[],λ_=>[Own.box b6 53 [AV.val (.int .i64 0),AV.val (.int .i64 0),AV.val (.int .i64 0),AV.rows 1 [],AV.val (.int .i64 0),AV.rows 3 [],AV.val (.int .i64 0),AV.val (.int .i64 0),AV.val (.bool false),AV.val (.int .i64 0),AV.val (.int .i64 0),AV.rows 9 [],AV.rows 3 []],Own.row u.1 128 9 (q.aC.map Answer.cells),Own.row u.2 115 3 (q.aL.map au.cells),Own.box b7 53 [AV.int q.ao,AV.int q.num,AV.int q.kind,jb q.keys,AV.int q.val,bE q.ctx,AV.int q.bH,AV.int q.end_,AV.bool q.over,AV.int q.aq.time,AV.int q.aq.site,AV.val u.1,AV.val u.2],Own.box b8 128 (dh m).cells],λ_=>True⟩ U ?ael ?aou;case ael=>
  refine aF λI a w U=>?_;refine U.cd (λbx=>?_) λbx=>?_
  .have uB:=(aP.2 bx).1;refine aG λI a w U=>?_;refine U.o (gS (i:=0) eJ bQ .tt .c (λ_=>by omega)) λU=>?_;refine U.o .la λU=>?_;refine U.o (bT (pO (ab m.ai 0) (by have:=iE (iW (fi (mW hm).1 _ (bf (l:=m.ai) (k:=0) om))).2.2;omega)) (az (.t rfl) aI)) λU=>?_;refine U.o .fv λU=>U.se 4 bQ .tt .tt rfl rfl rfl λa w U=>?_;refine zt ?_;have U:=U.pass (H':=[Own.box b6 53 [AV.val (.int .i64 0),AV.val (.int .i64 0),AV.val (.int .i64 0),AV.rows 1 [],AV.val (.int .i64 0),AV.rows 3 [],AV.val (.int .i64 0),AV.val (.int .i64 0),AV.val (.bool false),AV.val (.int .i64 0),AV.val (.int .i64 0),AV.rows 9 [],AV.rows 3 []],Own.row u.1 128 9 (q.aC.map Answer.cells),Own.row u.2 115 3 (q.aL.map au.cells),Own.box b7 53 [AV.int q.ao,AV.int q.num,AV.int q.kind,jb q.keys,AV.int q.val,bE q.ctx,AV.int q.bH,AV.int q.end_,AV.bool q.over,AV.int q.aq.time,AV.int q.aq.site,AV.val u.1,AV.val u.2],Own.box b8 128 (dh m).cells]) (by unfold dh;rw[bx];rfl);exact U.me () gD
  refine zt ?_;have U:=U.pass (H':=[Own.box b6 53 [AV.val (.int .i64 0),AV.val (.int .i64 0),AV.val (.int .i64 0),AV.rows 1 [],AV.val (.int .i64 0),AV.rows 3 [],AV.val (.int .i64 0),AV.val (.int .i64 0),AV.val (.bool false),AV.val (.int .i64 0),AV.val (.int .i64 0),AV.rows 9 [],AV.rows 3 []],Own.row u.1 128 9 (q.aC.map Answer.cells),Own.row u.2 115 3 (q.aL.map au.cells),Own.box b7 53 [AV.int q.ao,AV.int q.num,AV.int q.kind,jb q.keys,AV.int q.val,bE q.ctx,AV.int q.bH,AV.int q.end_,AV.bool q.over,AV.int q.aq.time,AV.int q.aq.site,AV.val u.1,AV.val u.2],Own.box b8 128 (dh m).cells]) (by unfold dh;rw[bx];rfl);exact U.me () gD
 rintro _ I a w an U;refine bm λI a w U=>?_;refine U.o (.c2 (EU q m.key)) λU=>?_;refine aB λI a w U=>?_;refine cz (λbt=>?_) λbt=>?_
 .refine aG λI a w U=>?_;refine U.o (.bd ke bc.nil) λU=>?_;refine U.o (nj [_,_] [_,_] nU rfl rfl .tt .tt) λU=>?_;refine zt ?_;refine U.cd (λcE=>?_) λcE=>?_
  .rw[D5] at cE;refine wp_seq ?_;obtain⟨I,U⟩:=U.fu 1 11 3;refine bm λI a w U=>?_;refine U.fm [2] (adG q u.2 (dh m) t h.aK rT om om om) (az .tt (az .tt (az .tt aI))) rfl aN rfl λI a w U=>?_;refine U.o (.c1 (JS _ (dH.l9 h hw rS ar rT gj bt).small)) λU=>?_;refine aB λI a w U=>?_;refine U.ret rfl (.cons (.sx 0) aW.nil) ?_;exact(by unfold cP ig;rw[ah,if_pos rfl,if_neg ar,if_pos aP,if_pos bt,if_pos cE];rfl)
  rw[D5] at cE;refine wp_skip<|bj<|wp_seq ?_;obtain⟨I,U⟩:=U.fu 1 11 3;obtain⟨I,U⟩:=U.fu 2 12 3;refine aF λI a w U=>?_;refine U.ret rfl (.cons (.sx 0) aW.nil) ?_;exact(by unfold cP ig;rw[ah,if_pos rfl,if_neg ar,if_pos aP,if_pos bt,if_neg (by rw[cE];simp)];rfl)
 refine aF λI a w U=>?_;refine U.cd (λdF=>?_) λdF=>?_
 .refine wp_seq ?_;obtain⟨I,U⟩:=U.fu 2 12 3;refine bm λI a w U=>?_;refine U.fm [1] (adY q u.1 (dh m) t t h (rm rT dF).2) (az .tt (az .tt (az .tt aI))) rfl aN rfl λI a w U=>?_;refine U.o (.c1 (JS _ (dH.lu h hw rS ar rT dF).small)) λU=>?_;refine aB λI a w U=>?_;refine U.ret rfl (.cons (.sx 0) aW.nil) ?_;exact(by unfold cP ig;rw[ah,if_pos rfl,if_neg ar,if_pos aP,if_neg (Int.not_lt.2 bt),if_pos dF];rfl)
 refine wp_skip<|bj<|wp_seq ?_;obtain⟨I,U⟩:=U.fu 1 11 3;obtain⟨I,U⟩:=U.fu 2 12 3;refine aF λI a w U=>?_;refine U.ret rfl (.cons (.sx 0) aW.nil) ?_;exact(by unfold cP ig;rw[ah,if_pos rfl,if_neg ar,if_pos aP,if_neg (Int.not_lt.2 bt),if_neg (by rw[dF];simp)];rfl)
def aem (q:Call) (n:Value) (hg:∀a∈q.aC,dT a=true) (hl:q.aC.length<=1048576):
 Fn prog 253 [q.yV n] (bE (kQ q)):=by
 refine Fn.go 51 func253 ntmps253 (λW I a U=>?_);have U:=U.hP (sz:=3) 115;refine aR λI a w U=>?_;have U:=U.yw (t:=3) rfl (fB 3 _);refine aZ λI a w U=>?_;refine St.lo (σ:=Nat) (3::(5::(run 10 13 []))) ⟨λk=>[(13,AV.int k),(3,bE ((q.aC.take k).foldl mX []))],λk=>[Own.row (.slice none 0 0) 115 3 []],λk=>k<=q.aC.length⟩ (λk=>q.aC.length-k) 0 U ?aJ ?bF;case aJ=>exact Nat.zero_le _
 rintro k I a w an U;have hk:k<=q.aC.length:=an;dsimp only at U;refine aB λI a w U=>?_;refine cz (λae=>?_) λae=>?_
 .refine aG λI a w U=>?_;refine U.alloc rfl ga pD λb5 I a w U=>?_;refine aB λI a w U=>?_;obtain⟨I,U⟩:=U.fb 1 5;refine bB λI a w U=>?_;refine U.o (.cl (Sh ((q.aC.take k).foldl mX []) (ab q.aC k).bl.aQ (s7 (acc:=[]) rfl (za hg k)).1 (sX (hg _ (bf ae))))) λU=>?_;rw[show iV ((q.aC.take k).foldl mX []) (ab q.aC k).bl.aQ=(q.aC.take (k+1)).foldl mX [] from by rw[eT ae,List.foldl_append];rfl] at U;refine aR λI a w U=>?_;have U:=U.drop 1;exact U.ag (k+1) (ae)
 refine wp_exit<|cy<|cy<|fk<|bj<|wp_seq ?_;rw[show(q.aC.take k).foldl mX []=fR q from by rw[List.take_of_length_le om];rfl] at U;refine cI λI a w U=>?_;refine St.lo (σ:=Nat×Value) (6::(run 2 8 (run 24 26 []))) ⟨λ⟨k,v⟩=>[(26,AV.int k),(6,AV.val v)],λ⟨k,v⟩=>[Own.row v 115 3 ((rG q k).map au.cells)],λ⟨k,v⟩=>k<=q.aC.length⟩ (λ⟨k,v⟩=>q.aC.length-k) (0,.slice none 0 0) U ?eF ?jS;case eF=>exact Nat.zero_le _
 rintro⟨k,v⟩ I a w an U;have hk:k<=q.aC.length:=an;dsimp only at U;refine aB λI a w U=>?_;refine cz (λah=>?_) λah=>?_
 .refine aG λI a w U=>?_;refine U.alloc rfl ga pD λb8 I a w U=>?_;refine aB λI a w U=>?_;obtain⟨I,U⟩:=U.fb 1 8;refine bm λI a w U=>?_;refine U.o (.cl (acE (fR q) (ab q.aC k).key)) λU=>?_;refine U.alloc rfl mP ke λb9 I a w U=>?_;refine aB λI a w U=>?_;obtain⟨I,U⟩:=U.fb 2 9;refine U.o .la λU=>?_;refine U.o (.c1 (xm ..)) λU=>?_;refine bB λI a w U=>?_;refine U.q .T (.cl (Ry ..)) λU=>?_;refine aB λI a w U=>?_;refine U.cd (λar=>?_) λar=>?_
  .refine bB λI a w U=>?_;refine U.o (.bd gK (.k (.t bc.nil))) λU=>?_;refine U.o (.li [au.cells ⟨(ab q.aC k).key,bN (fR q) (ab q.aC k).key⟩] iQ (.u .nil)) λU=>?_;refine U.append 0 rfl en cV rfl .tt .r rfl (by have:=acp q k;simp;omega) λKm a w U=>?_;rw[cF,acn ah ar] at U;refine aR λI a w U=>?_;have U:=U.drop 1;exact U.ag (k+1,Km) (ah)
  refine aF λI a w U=>?_;have U:=U.drop 1;rw[aco ah ar] at U;exact U.ag (k+1,v) (ah)
 refine wp_exit<|cy<|cy<|fk<|bj<|wp_seq ?_;rw[adI hg om] at U;obtain⟨I,U⟩:=U.fr 0 6;refine dG ?_;rfl
def aen {w:aj} {e:Ev} (h:¬e.kind=1) (hn:0<=bY w.calls e.ao) (h3:¬e.kind=3):gz w e=({w with al:=eo w.al (ie (ab w.calls (bY w.calls e.ao).toNat))},true):=by unfold gz;rw[if_neg h];dsimp only;rw[if_neg om,if_neg h3]
end Go.Proofs.YtdanidpleofjgaaGreat

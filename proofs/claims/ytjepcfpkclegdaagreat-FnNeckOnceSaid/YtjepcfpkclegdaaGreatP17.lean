/- Part 17: contracts of functions, plain facts. -/
import Derived.Test.YtjepcfpkclegdaaGreatP10
import Derived.Test.YtjepcfpkclegdaaGreatP11
import Derived.Test.YtjepcfpkclegdaaGreatP12
import Derived.Test.YtjepcfpkclegdaaGreatP13
set_option linter.unusedVariables false
set_option linter.unusedSimpArgs false
set_option maxRecDepth 100000
set_option maxHeartbeats 4000000
namespace Go.Proofs.YtjepcfpkclegdaaGreat
open Go Go.RowKit
attribute [local irreducible] wpList Code.wp Ok
theorem xq (s:Server):
 Fn Tryz.prog 87 [s.av] (AV.bool (gK s)):=by
 refine Fn.go 127 Tryz.func87 Tryz.ntmps87 (λW I a U=>?_)
 have lens:s.aG.length<=9223372036854775807/\s.ao.length<=9223372036854775807/\s.waits.length<=9223372036854775807/\s.aD.length<=9223372036854775807:=⟨U.ln 0 2,U.ln 0 3,U.ln 0 4,U.ln 0 5⟩
 refine bt λI a w U=>?_
 refine U.o (.c1 (tG ..)) λU=>?_
 refine uO λI a w U=>?_
 refine U.q .F (.cl (AN ..)) λU=>?_
 refine bM λI a w U=>?_
 refine U.q .F (.cl (AN ..)) λU=>?_
 refine bM λI a w U=>?_
 refine U.q .F (.cl (Ha ..)) λU=>?_
 refine bM λI a w U=>?_
 refine U.q .F (.cl (Ha ..)) λU=>?_
 refine Cn λI a w U=>?_
 refine U.cd (λae=>?_) λae=>?_
 ·rw[CR] at ae;replace ae:=nt ae
  refine ai λI a w U=>?_
  refine U.rt ?_
  exact bG (by unfold gK;rw[ae];rfl)
 ·rw[CR] at ae;replace ae:=nf ae;obtain⟨A8,xl,H6,hco,yV,hsi⟩:=CS ae
  refine aU λI a w U=>?_
  refine St.lo (σ:=Nat) (2::(4::(run 25 57 []))) ⟨λk1=>[(57,AV.int k1)],λk1=>[],λk1=>k1<=s.aG.length/\∀i,i<k1->(r6 s) i=true⟩ (λk1=>s.aG.length-k1) 0 U ?aJ ?aK
  case aJ=>exact⟨Nat.zero_le _,λi hi=>by omega⟩
  case aK=>
   rintro k1 I a w aj U
   obtain⟨aal,xm⟩:=aj
   refine ai λI a w U=>?_
   refine cz (λah=>?_) λah=>?_
   ·refine aF λI a w U=>?_
    refine U.alloc rfl er oe λb4 I a w U=>?_
    refine ai λI a w U=>?_
    obtain⟨I,U⟩:=U.fb 0 4
    refine aF λI a w U=>?_
    refine U.o (.cl (jv ..)) λU=>?_
    refine bt λI a w U=>?_
    refine U.q .F (.cl (jv ..)) λU=>?_
    refine Ae λI a w U=>?_
    refine U.cd (λal=>?_) λal=>?_
    ·rw[GI] at al;replace al:=nt al
     refine ai λI a w U=>?_
     refine U.rt ?_
     exact bG (by unfold gK;rw[ae,eB (f:=r6 s) ah al];simp)
    ·rw[GI] at al;replace al:=nf al
     refine aA λI a w U=>?_
     have U:=U.drop 0
     exact U.ag (k1+1) (⟨by omega,fg xm al⟩)
   ·refine zt ?_
    refine aU λI a w U=>?_
    refine St.lo (σ:=Nat) (2::(6::(run 10 85 []))) ⟨λk2=>[(85,AV.int k2)],λk2=>[],λk2=>k2<=s.ao.length/\∀i,i<k2->(tJ s) i=true⟩ (λk2=>s.ao.length-k2) 0 U ?cU ?cV
    case cU=>exact⟨Nat.zero_le _,λi hi=>by omega⟩
    case cV=>
     rintro k2 I a w aj U
     obtain⟨xh,jC⟩:=aj
     refine ai λI a w U=>?_
     refine cz (λaH=>?_) λaH=>?_
     ·refine aF λI a w U=>?_
      refine U.alloc rfl bA dE λb6 I a w U=>?_
      refine ai λI a w U=>?_
      obtain⟨I,U⟩:=U.fb 0 6
      refine bk λI a w U=>?_
      refine U.o (.c2 (Hr _ _ (qA (uW xl aH)) A8)) λU=>?_
      refine ai λI a w U=>?_
      refine U.cd (λaM=>?_) λaM=>?_
      ·rw[Ni] at aM;replace aM:=nt aM
       refine ai λI a w U=>?_
       refine U.rt ?_
       exact bG (by unfold gK;rw[ae,eP xm (by omega),eB (f:=tJ s) aH aM];simp)
      ·rw[Ni] at aM;replace aM:=nf aM
       refine aA λI a w U=>?_
       have U:=U.drop 0
       exact U.ag (k2+1) (⟨by omega,fg jC aM⟩)
     ·refine zt ?_
      refine aU λI a w U=>?_
      refine St.lo (σ:=Nat) (2::(8::(run 24 98 []))) ⟨λk3=>[(98,AV.int k3)],λk3=>[],λk3=>k3<=s.waits.length/\∀i,i<k3->(r9 s) i=true⟩ (λk3=>s.waits.length-k3) 0 U ?fo ?fq
      case fo=>exact⟨Nat.zero_le _,λi hi=>by omega⟩
      case fq=>
       rintro k3 I a w aj U
       obtain⟨H9,pX⟩:=aj
       refine ai λI a w U=>?_
       refine cz (λbh=>?_) λbh=>?_
       ·refine aF λI a w U=>?_
        refine U.alloc rfl bA dE λb8 I a w U=>?_
        refine ai λI a w U=>?_
        obtain⟨I,U⟩:=U.fb 0 8
        refine U.dk ?_
        refine cD ?_
        refine .o (.c2 (Hr _ _ (qA (uW H6 bh)) A8)) ?_
        refine dq ?_
        refine .q .F (.cl (GJ ..)) ?_
        refine fK ?_
        refine .q .F (.cl (mS ..)) ?_
        refine .q .F (.cl (oj ..)) ?_
        refine bT ?_
        refine .nil ?_
        intro I a w U
        refine aY ?_
        refine U.cd (λaZ=>?_) λaZ=>?_
        ·rw[ND] at aZ;replace aZ:=nt aZ
         refine ai λI a w U=>?_
         refine U.rt ?_
         exact bG (by unfold gK;rw[ae,eP xm (by omega),eP jC (by omega),eB (f:=r9 s) bh aZ];simp)
        ·rw[ND] at aZ;replace aZ:=nf aZ
         refine aA λI a w U=>?_
         have U:=U.drop 0
         exact U.ag (k3+1) (⟨by omega,fg pX aZ⟩)
       ·refine zt ?_
        refine bt λI a w U=>?_
        refine U.o (.cl (Gu ..)) λU=>?_
        refine ai λI a w U=>?_
        refine U.rt ?_
        exact bG (by unfold gK;rw[ae,eP xm (by omega),eP jC (by omega),eP pX (by omega)];simp)
def gV (s:Server) (m:aC):Server×List aC:=
 if(m.aR==fl s.site)&&decide (1<=m.bz) then
  if m.bz<=(ab s.aG m.slot.toNat).bz then(s,[oq s m])
  else if tF s m&&gK (lQ s m) then(fO (lQ s m),[oq s m]) else(s,[])
 else(s,[])
def eG (s:Server) (m:aC):Server×List aC:=
 if m.kind=1 then iL s m else if m.kind=3 then(s,jm s m) else if m.kind=5 then jb s m else if m.kind=6 then(mY s m,[]) else
 if m.kind=7 then(s,oC s m) else if m.kind=8 then(nN s m,[]) else if m.kind=9 then gV s m else if m.kind=10 then(m7 s m,[]) else(s,[])
def fJ (s:Server) (m:aC):Server×List aC:=if s.up&&bO m&&(m.to==s.site) then eG s m else(s,[])
def je (w:aE) (e:Ev):aE×Bool:=
 if aQ e.word 0 ((w.ar.length:Int)-1) then
  let m:=ab w.ar e.word.toNat
  let w1:=if e.kind=5\/e.iR=0 then{w with ar:=w.ar.take e.word.toNat++w.ar.drop (e.word.toNat+1)} else w
  if e.kind=5 then(w1,true)
  else if aQ m.to 10 11 then(mb w1 m,true)
  else({w1 with ax:=w.ax.set m.to.toNat (fJ (ab w.ax m.to.toNat) m).1,ar:=eF w1.ar (fJ (ab w.ax m.to.toNat) m).2},true)
 else(w,false)
theorem DP (l:List aB) (v:aB) (hc:cn l=true):
 Fn Tryz.prog 237 [bX l,v.av] (AV.dx [bX (if jw l v then fk l v else l),AV.bool (jw l v)]):=by
 refine Fn.go 37 Tryz.func237 Tryz.ntmps237 (λW I a U=>?_)
 have hle:=U.cW (t:=0) rfl
 have A5:=fV hc
 have jO:=pW hc
 refine bt λI a w U=>?_
 refine U.o (.cl (u9 ..)) λU=>?_
 refine ai λI a w U=>?_
 refine U.cd (λae=>?_) λae=>?_
 ·exfalso;rw[hc] at ae;cases ae
  skip
 ·refine bM λI a w U=>?_
  refine U.o (.cl (tU ..)) λU=>?_
  refine bk λI a w U=>?_
  refine U.alloc rfl bA dE λb6 I a w U=>?_
  refine U.sb 0 λU=>?_
  obtain⟨I,U⟩:=U.fb 0 6
  refine aF λI a w U=>?_
  refine U.o (.c1 (Ge ..)) λU=>?_
  refine mA λI a w U=>?_
  refine U.cd (λah=>?_) λah=>?_
  ·rw[Nq v hc] at ah;replace ah:=nt ah
   refine bH λI a w U=>?_
   refine U.o (bY (w9 l (by omega) (λu hu=>by have:=jO u hu;omega)) (aw .r aL)) λU=>?_
   refine aA λI a w U=>?_
   refine U.rt ?_
   exact(by rw[ah];rfl)
  ·rw[Nq v hc] at ah;replace ah:=nf ah
   refine aF λI a w U=>?_
   refine U.o (bY (Y9 l v (by omega) (λu hu=>by have:=jO u hu;omega) (by have:=gR (GU (vb ah).1);omega)) (aw .r (aw (.t rfl) aL))) λU=>?_
   refine aA λI a w U=>?_
   refine U.rt ?_
   exact(by rw[ah,<-Om (pQ (vb ah).2.1)];rfl)
theorem DQ {l:List aB} {v:aB} (h:cn l=true) (hv:dM v=true) (hp:placeOf l v.aT<0) (hl:l.length<80):cn (fk l v)=true:=by
 obtain⟨h1,h2,h3⟩:=xd.1 h
 refine xd.2 ⟨by rw[MY];omega,λx hx=>?_,Hs h3 (pQ hp)⟩
 rcases gS.1 hx with rfl|hx
 ·exact hv
 ·exact h2 x hx
theorem eK.xu {s:Server} (h:eK s) (hp:0<=eL s):eK (nD s (eL s).toNat):=by
 obtain⟨hl,pR,_⟩:=yw hp
 have hm:=aV hl
 have hws:=(xd.1 h.waits).2.2
 refine⟨h.aG,DQ h.ao (gu h.waits _ hm) (h.apart _ hm) pR,AX h.waits (wH _ _),λv hv=>Ap λx hx=>?_,h.bl⟩
 obtain⟨k,hk,bj,rfl⟩:=Xr hv
 rcases gS.1 hx with rfl|hx
 ·exactλe=>GL hws hk hl bj e.symm
 ·exact pQ (h.apart _ (aV hk)) x hx
theorem eK.Io {s:Server} (h:eK s):eK (ja s):=by
 have:∀(n:Nat) (s:Server),eK s->eK (kK n s):=by
  intro n
  induction n with
  |zero=>exactλs h=>h
  |succ n ih=>
   intro s h
   unfold kK
   split
   ·exact h
   ·exact ih _ (h.xu (by omega))
 exact this _ _ h
theorem eK.settle {s:Server} (h:eK s):eK (fO s):=by
 have h2:=h.Io
 exact⟨h2.aG,h2.ao,h2.waits,h2.apart,Nat.le_trans (List.length_filter_le _ _) h2.bl⟩
theorem eK.Ip {s:Server} (h:eK s) {v:aB} (hc:jw s.waits v=true) (hp:placeOf s.ao v.aT<0):eK {s with waits:=fk s.waits v}:=by
 obtain⟨h1,h2,h3⟩:=vb hc
 refine⟨h.aG,h.ao,DQ h.waits h1 h2 h3,λx hx=>?_,h.bl⟩
 rcases gS.1 hx with rfl|hx
 ·exact hp
 ·exact h.apart x hx
theorem Iq {l:List aB} {ds:List au}:rV l ds=true↔∀d∈ds,∃x∈l,x.aT=d:=by
 unfold rV
 rw[Bool.not_eq_true',Dy]
 refine forall_congr' λd=>forall_congr' λhd=>?_
 rw[<-pd]
 unfold missing
 simp
theorem jY {s:Server}:gK s=true↔bF s:=by
 have e1:(cF s.aG.length (r6 s))=true↔∀x∈s.aG,qz x=true:=by
  have e:r6 s=λi=>qz (ab s.aG i):=by funext i;unfold r6;rfl
  rw[e];exact vo
 have e2:(cF s.ao.length (tJ s))=true↔∀x∈s.ao,(dX s x.key !=0)=true:=by
  have e:tJ s=λi=>(λv:aB=>dX s v.key !=0) (ab s.ao i):=by funext i;unfold tJ;rfl
  rw[e];exact vo (p:=λv:aB=>dX s v.key !=0)
 have e3:(cF s.waits.length (r9 s))=true↔∀x∈s.waits,tM s x=true:=by
  have e:r9 s=λi=>tM s (ab s.waits i):=by funext i;unfold r9;rfl
  rw[e];exact vo
 have eu:(!(!s.up&&decide (0<s.bl.length)))=true↔(s.up=false->s.bl=[]):=by
  cases s.up<;>simp
 unfold gK tI
 simp only[Bool.and_eq_true,decide_eq_true_eq]
 rw[e1,e2,e3,Iq,eu]
 constructor
 ·rintro⟨⟨⟨⟨⟨⟨⟨⟨⟨⟨a1,a2⟩,a3⟩,a4⟩,a5⟩,a6⟩,a7⟩,a8⟩,a9⟩,wI⟩,As⟩
  refine⟨a1,a2,a3,a4,a5,a6,a7,a8,λv hv=>by simpa using a9 v hv,λv hv=>?_,λv hv=>?_,λv hv=>?_,As⟩<;>
   have:=wI v hv<;>simp only[tM,Bool.and_eq_true,decide_eq_true_eq,O7,bne_iff_ne] at this
  ·exact this.1.1
  ·exact this.1.2
  ·exact this.2
 ·intro h
  refine⟨⟨⟨⟨⟨⟨⟨⟨⟨⟨h.site,h.aG⟩,h.ao⟩,h.waits⟩,h.aD⟩,h.bl⟩,h.up⟩,h.aW⟩,λv hv=>by simpa using h.here v hv⟩,λv hv=>?_⟩,h.o6⟩
  simp only[tM,Bool.and_eq_true,decide_eq_true_eq,O7,bne_iff_ne]
  exact⟨⟨h.pM v hv,h.pN v hv⟩,h.apart v hv⟩
theorem bF.ok {s:Server} (h:bF s):eK s:=HA (jY.2 h)
theorem bF.xu {s:Server} (h:bF s) (hp:0<=eL s):bF (nD s (eL s).toNat):=by
 obtain⟨hl,pR,hg⟩:=yw hp
 have hm:=aV hl
 have aj:=h.ok.xu hp
 refine⟨h.site,h.aG,aj.ao,aj.waits,h.aD,h.bl,h.up,h.aW,λv hv=>?_,λv hv=>h.pM v (yN hv),λv hv=>h.pN v (yN hv),λv hv=>pQ (aj.apart v hv),λd hd=>M5 (h.o6 d hd)⟩
 rcases gS.1 hv with rfl|hv
 ·exact h.pM _ hm
 ·exact h.here v hv
theorem bF.kK:∀(n:Nat) {s:Server},bF s->bF (kK n s)
 |0,_,h=>h
 |n+1,s,h=>by
  unfold Go.Proofs.YtjepcfpkclegdaaGreat.kK
  split
  ·exact h
  ·exact bF.kK n (h.xu (by omega))
theorem bF.Io {s:Server} (h:bF s):bF (ja s):=bF.kK _ h
theorem bF.settle {s:Server} (h:bF s):bF (fO s):=h.Io.iR
theorem bF.dY {s:Server} (h:bF s) (slot:Int):bF (dY s slot):=by
 have aj:=h.ok.drop slot
 refine⟨h.site,h.aG,aj.ao,aj.waits,Dk h.aD List.filter_sublist,h.bl,h.up,h.aW,λv hv=>h.here v (qJ hv),λv hv=>h.pM v (qJ hv),λv hv=>h.pN v (qJ hv),
  λv hv x hx=>h.apart v (qJ hv) x (qJ hx),λd hd=>?_⟩
 obtain⟨h1,h2⟩:=List.mem_filter.1 hd
 obtain⟨x,hx,e⟩:=h.o6 d h1
 refine⟨x,List.mem_filter.2 ⟨hx,?_⟩,e⟩
 subst e;exact h2
theorem Qq {s:Server} {slot:Int}:(∀v∈(Go.Proofs.YtjepcfpkclegdaaGreat.dY s slot).ao,cQ v.key≠slot)/\(∀v∈(Go.Proofs.YtjepcfpkclegdaaGreat.dY s slot).waits,cQ v.key≠slot):=by
 constructor<;>intro v hv<;>have:=(List.mem_filter.1 hv).2<;>simpa[ew] using this
theorem bF.wait {s:Server} (h:bF s) {v:aB} (hc:jw s.waits v=true) (hp:placeOf s.ao v.aT<0) (hf:bL v.aq.site≠bL s.site) (bc:dX s v.key≠0):bF {s with waits:=fk s.waits v}:=by
 have aj:=h.ok.Ip hc hp
 refine⟨h.site,h.aG,h.ao,aj.waits,h.aD,h.bl,h.up,h.aW,h.here,λx hx=>?_,λx hx=>?_,λx hx=>pQ (aj.apart x hx),h.o6⟩
 ·rcases gS.1 hx with rfl|hx
  ·exact bc
  ·exact h.pM x hx
 ·rcases gS.1 hx with rfl|hx
  ·exact hf
  ·exact h.pN x hx
theorem aa3 {s:Server} {m:aC} (h:bF s):bF (jb s m).1:=by
 unfold jb
 split
 ·rename_i hr
  obtain⟨_,_,_,ho,hf⟩:=AF hr
  dsimp only
  split
  ·rename_i hn
   split
   ·rename_i hc
    exact(h.wait hc hn.1 hf (by rw[(w6 ho).2];omega)).settle
   ·exact h
  ·exact h.settle
 ·exact h
theorem Qr {s:Server} {m:aC} (h:bF s) (hm:bO m=true):bF (l8 s m):=by
 have U:=(mW hm).2.2.2.2.2.2.2.2
 refine(h.dY m.slot).On U.1.1 ?_ (λv hv e=>absurd e (Qq.1 v hv)) (λv hv e=>absurd e (Qq.2 v hv)) (by omega)
 rw[wO]
 exact⟨U.2.1.1,U.2.1.2,by simp,by simp,λe=>absurd rfl e⟩
theorem aa4 {s:Server} {m:aC} (h:bF s) (hm:bO m=true):bF (m7 s m):=by
 unfold m7
 split
 ·exact(Qr h hm).settle
 ·exact h
theorem aa5 {s:Server} {m:aC} (h:bF s):bF (gV s m).1:=by
 unfold gV
 split
 ·split
  ·exact h
  ·split
   ·rename_i hc
    simp only[Bool.and_eq_true] at hc
    exact(jY.1 hc.2).settle
   ·exact h
 ·exact h
theorem aa6 {s:Server} {m:aC} (h:bF s) (hm:bO m=true):∀w∈(gV s m).2,bO w=true:=by
 unfold gV
 split
 ·split
  ·intro w hw
   obtain rfl:w=_:=by simpa using hw
   exact Ot h hm
  ·split
   ·intro w hw
    obtain rfl:w=_:=by simpa using hw
    exact Ot h hm
   ·intro w hw;simp at hw
 ·intro w hw;simp at hw
theorem bF.small {s:Server} (h:bF s):rW s:=h.ok.small (by have:=jz h.aD;omega)
theorem aa7 (s:Server) (m:aC):(gV s m).1.site=s.site:=by
 unfold gV
 split
 ·split
  ·rfl
  ·split
   ·exact yJ _
   ·rfl
 ·rfl
theorem aa8 (s:Server) (m:aC):(eG s m).1.site=s.site:=by
 unfold eG
 repeat' split
 ·exact Zg s m
 ·rfl
 ·exact Zh s m
 ·show(mY s m).site=s.site
  unfold mY;split<;>rfl
 ·rfl
 ·show(nN s m).site=s.site
  unfold nN;split
  ·exact yJ _
  ·rfl
 ·exact aa7 s m
 ·show(m7 s m).site=s.site
  unfold m7;split
  ·exact yJ _
  ·rfl
 ·rfl
theorem aa9 (s:Server) (m:aC):(fJ s m).1.site=s.site:=by
 unfold fJ
 split
 ·exact aa8 s m
 ·rfl
theorem aba (n:Int) (l:List cw) (hn:cL n=true) (hl:∀s∈l,db s=true):
 Fn Tryz.prog 262 [AV.int n,AV.rows 2 (l.map cw.cells)] (AV.dx [(qC n l).av,AV.bool (j9 l)]):=by
 refine Fn.go 36 Tryz.func262 Tryz.ntmps262 (λW I a U=>?_)
 have hle:=U.cW (t:=1) rfl
 refine sr<|U.alloc rfl l5 jU λb4 I a w U=>?_
 refine ck λI a w U=>?_
 refine St.lo (σ:=Nat) (run 2 5 (8::(run 13 11 []))) ⟨λk=>[(11,AV.int k),(6,AV.int (o3 (l.take k)))],λk=>[Own.box b4 36 [AV.val (.int .i64 0),AV.val (.int .i64 0)]],λk=>k<=l.length⟩ (λk=>l.length-k) 0 U ?aJ ?aK
 case aJ=>exact Nat.zero_le _
 case aK=>
  rintro k I a w aj U
  have hk:k<=l.length:=aj
  refine ai λI a w U=>?_
  refine cz (λae=>?_) λae=>?_
  ·refine aF λI a w U=>?_
   refine U.alloc rfl l5 jU λb8 I a w U=>?_
   refine ai λI a w U=>?_
   obtain⟨I,U⟩:=U.fb 1 8
   refine U.o .la λU=>?_
   refine U.o (.c1 (yq ..)) λU=>?_
   refine ai λI a w U=>?_
   refine U.cd (λah=>?_) λah=>?_
   ·exfalso;simp only[B] at ah;rw[hl _ (aV ae)] at ah;cases ah
    skip
   ·refine bk λI a w U=>?_
    refine U.o (VU .tt .tt) λU=>?_
    refine aI λI a w U=>?_
    have U:=U.drop 1
    refine U.again (k+1) ?iM ?iN (by rfl) ?iO (by repeat(first|exact Env.le_rfl|refine Env.jf rfl ?_))
    case iM=>omega
    case iN=>exact ae
    case iO=>exact(Env.dK rfl (by rfl) (Env.dK rfl (by exact congrArg AV.int (Ax ae).symm) Env.le_nil))
  ·refine zt ?_
   refine U.m λU=>U.o (.c1 (tG ..)) λU=>?_
   refine ck λI a w U=>?_
   refine cz (λal=>?_) λal=>?_
   ·refine zt ?_
    refine U.o (.bd jU bf.nil) λU=>?_
    refine aA λI a w U=>?_
    rw[List.take_of_length_le (by omega)] at al
    refine U.ret rfl (.cons (.sx 0) (.cons (.t rfl) aX.nil)) ?_
    have e:j9 l=false:=by rcases al with h|h;(rw[hn] at h;cases h);unfold j9;simp;omega
    exact(by unfold qC;rw[e];rfl)
   ·refine bH λI a w U=>?_
    refine U.o (kS .tt .c (λ_=>by have:=Dg hl k;omega)) λU=>?_
    refine U.m λU=>?_
    refine U.o (.bd jU (.k (.k bf.nil))) λU=>?_
    refine aA λI a w U=>?_
    rw[List.take_of_length_le (by omega)] at al
    refine U.ret rfl (.cons (.sx 0) (.cons (.t rfl) aX.nil)) ?_
    have e:j9 l=true:=by have:=Dg hl l.length;rw[List.take_length] at this;unfold j9;simp;omega
    exact(by unfold qC;rw[e,List.take_of_length_le (by omega)];rfl)
theorem Qs (l:List aB) (v:aB) (hc:cn l=true):
 Fn Tryz.prog 263 [bX l,v.av] (AV.dx [bX (if jw l v then fk l v else l),AV.bool (jw l v)]):=by
 refine Fn.go 29 Tryz.func263 Tryz.ntmps263 (λW I a U=>?_)
 have hle:=U.cW (t:=0) rfl
 have A5:=fV hc
 have jO:=pW hc
 refine bt λI a w U=>?_
 refine U.o (.cl (AN ..)) λU=>?_
 refine ai λI a w U=>?_
 refine U.cd (λae=>?_) λae=>?_
 ·exfalso;rw[hc] at ae;cases ae
  skip
 ·refine bH λI a w U=>?_
  refine U.o (.c1 (GG ..)) λU=>?_
  refine bt λI a w U=>?_
  refine U.q .F (.cl (mS ..)) λU=>?_
  refine U.q .F (.cl (oj ..)) λU=>?_
  refine jT λI a w U=>?_
  refine U.cd (λah=>?_) λah=>?_
  ·rw[N0,Nu v hc] at ah;replace ah:=nt ah
   refine bH λI a w U=>?_
   refine U.o (bY (kh.fn (vu l (by omega) (λu hu=>by have:=jO u hu;omega))) (aw .r aL)) λU=>?_
   refine aA λI a w U=>?_
   refine U.rt ?_
   exact(by rw[ah];rfl)
  ·rw[N0,Nu v hc] at ah;replace ah:=nf ah
   refine aF λI a w U=>?_
   refine U.o (bY (Dw l v (by omega) (λu hu=>by have:=jO u hu;omega) (by have:=gR (GU (vb ah).1);omega)) (aw .r (aw (.t rfl) aL))) λU=>?_
   refine aA λI a w U=>?_
   refine U.rt ?_
   exact(by rw[ah];rfl)
theorem abb {s u u2:Server} {g2:Bool} {i:Nat} (hu:eK u) (eM:ja u=ja s) (qQ:u.bl=s.bl) (hf:g2=false->u=u2/\i<=u.waits.length/\(u.ao.length<80->∀j,j<i->ll u (ab u.waits j)=false))
 (ht:g2=true->0<=eL u/\u2=nD u (eL u).toNat) (hb:u2.waits.length<=i\/g2=true):eK u2/\ja u2=ja s/\(g2=false->eL u2<0)/\u2.bl=s.bl:=by
 cases g2 with
 |true=>
  obtain⟨h1,rfl⟩:=ht rfl
  exact⟨hu.xu h1,by rw[<-O0 h1,eM],(λe=>by cases e),qQ⟩
 |false=>
  obtain⟨rfl,h1,h2⟩:=hf rfl
  have h3:u.waits.length<=i:=hb.resolve_right (by simp)
  exact⟨hu,eM,λ_=>GW λpR j hj=>h2 pR j (by omega),qQ⟩
theorem Qt (s:Server) (slot:Int) (h1:cn s.ao=true) (h2:cn s.waits=true) (ho:s.aD.length<=80):
 Fn Tryz.prog 241 [s.av,AV.int slot] ((dY s slot).av):=by
 refine Fn.go 51 Tryz.func241 Tryz.ntmps241 (λW I a U=>?_)
 have lens:s.aG.length<=9223372036854775807/\s.ao.length<=9223372036854775807/\s.waits.length<=9223372036854775807/\s.aD.length<=9223372036854775807/\s.bl.length<=9223372036854775807:=⟨U.ln 0 2,U.ln 0 3,U.ln 0 4,U.ln 0 5,U.ln 0 6⟩
 refine sr<|U.box rfl .tt λb2 I a w U=>U.alloc rfl cm dF λb4 I a w U=>?_
 refine bk λI a w U=>?_
 refine U.o (.cl (Dx _ _ h1)) λU=>?_
 refine lE λI a w U=>?_
 refine U.o (.cl (Dx _ _ h2)) λU=>?_
 refine ck λI a w U=>?_
 refine U.l0 λb23 I a w U=>?_
 refine aA λI a w U=>?_
 refine St.lo (σ:=Nat×Value) (run 2 5 (run 24 24 [])) ⟨λ⟨k,v⟩=>[(6,AV.int k),(5,AV.val v)],λ⟨k,v⟩=>[Own.box b2 61 [AV.int s.site,AV.bool s.up,uJ s.aG,bX (s.ao.filter λv=>!ew slot v),bX (s.waits.filter λv=>!ew slot v),bm s.aD,bm s.bl],Own.box b4 61 [AV.val (.int .i64 0),AV.val (.bool false),AV.rows 2 [],AV.rows 7 [],AV.rows 7 [],AV.rows 3 [],AV.rows 3 []],Own.row v 63 3 (((s.aD.take k).filter (λd=>!gm slot d)).map au.cells)],λ⟨k,v⟩=>k<=s.aD.length⟩ (λ⟨k,v⟩=>s.aD.length-k) (0,.slice (some ⟨b23,0,none⟩) 0 0) U ?aJ ?aK
 case aJ=>exact Nat.zero_le _
 case aK=>
  rintro⟨k,v⟩ I a w aj U
  have hk:k<=s.aD.length:=aj
  have kT:=rX (λd=>!gm slot d) s.aD k
  dsimp only at U
  refine ck λI a w U=>?_
  refine cz (λae=>?_) λae=>?_
  ·refine dD λI a w U=>?_
   refine U.o (.c1 (uV ..)) λU=>?_
   refine aA λI a w U=>?_
   refine U.cd (λah=>?_) λah=>?_
   ·change(λd=>!gm slot d) (ab s.aD k)=true at ah
    refine dD λI a w U=>?_
    refine U.o (.li [(ab s.aD k).cells] iX (.u .nil)) λU=>?_
    refine U.ap 2 λIr a w U=>?_
    rw[cA,<-oA (p:=(λd=>!gm slot d)) ae ah] at U
    refine aU λI a w U=>?_
    exact U.ag (k+1,Ir) (ae)
   ·change(λd=>!gm slot d) (ab s.aD k)=false at ah
    refine aI λI a w U=>?_
    rw[show(s.aD.take k).filter (λd=>!gm slot d)=(s.aD.take (k+1)).filter (λd=>!gm slot d) from(ot ae ah).symm] at U
    exact U.ag (k+1,v) (ae)
  ·refine zt ?_
   refine U.m λU=>?_
   obtain⟨I,U⟩:=U.fr 2 48
   refine aU λI a w U=>?_
   refine U.ret rfl (.cons (.sx 1) aX.nil) ?_
   exact(by rw[show s.aD.take k=s.aD from List.take_of_length_le (by omega)];rfl)
theorem Qu (s:Server) (m:aC):(decide (80<((dY s m.slot).ao.length:Int)+m.ao.length)||decide (80<((dY s m.slot).waits.length:Int)+m.waits.length)||decide (80<((dY s m.slot).aD.length:Int)+m.aD.length))=!tF s m:=by
 have e:∀a b:Nat,decide (80<(a:Int)+b)=!decide (a+b<=80):=λa b=>by rw[Bool.eq_iff_iff];simp;omega
 unfold tF
 rw[e,e,e];simp
theorem abd {l:List aB} {v:aB} (hc:cn l=true) (hv:dM v=true) (hl:l.length<80):cn (eH l v)=true:=by
 unfold eH
 split
 ·rename_i hp;exact DQ hc hv hp hl
 ·exact hc
theorem Is {s:Server} {m:aC} (h:tF s m=true):(dY s m.slot).ao.length+m.ao.length<=80/\(dY s m.slot).waits.length+m.waits.length<=80/\(dY s m.slot).aD.length+m.aD.length<=80:=by
 unfold tF at h;simp only[Bool.and_eq_true,decide_eq_true_eq] at h;exact⟨h.1.1,h.1.2,h.2⟩
theorem Qv (s:Server) (slot:Int) (h:rW s):
 c7 Tryz.prog 253 [s.av,AV.int slot] [] (λ_:Value=>True) (λv=>[Own.row v 104 2 (s.aG.map dG.cells)]) (dY s slot).yx:=by
 refine c7.intro 33 Tryz.func253 rfl Tryz.ntmps253 rfl (by kernel_rfl) (λW I a U=>?_)
 obtain⟨h1,⟨h2,h3⟩,⟨h4,h5⟩,h6,h7⟩:=id h
 refine bH λI a w U=>?_
 refine U.alloc rfl cm dF λb4 I a w U=>?_
 refine bH λI a w U=>?_
 refine U.cG [] (A3 s h) (aw .tt aL) rfl (by decide) rfl λ⟨vS,vV,vW,vO,vK⟩ I a w aks U=>?_
 refine U.alloc rfl cm dF λb5 I a w U=>?_
 refine bt λI a w U=>?_
 refine U.o (.cl (Dm s.ao slot h2 h3)) λU=>?_
 refine bt λI a w U=>?_
 refine U.s1 6 λU=>?_
 refine bk λI a w U=>?_
 refine U.o (.cl (Dm s.waits slot h4 h5)) λU=>?_
 refine bt λI a w U=>?_
 refine U.s1 6 λU=>?_
 refine bk λI a w U=>?_
 refine U.o (.cl (Ps s.aD slot h6)) λU=>?_
 refine bt λI a w U=>?_
 refine U.s1 6 λU=>?_
 refine nn<|wp_seq ?_
 obtain⟨I,U⟩:=U.fu 5 6 6
 refine aA λI a w U=>?_
 refine U.de vS [1] rfl (.cons (.sx 0) .nil) trivial rfl rfl
theorem abe (s:Server) (v:aB) (hl:s.aG.length=3) (hk:dp v.key=true):
 Fn Tryz.prog 266 [v.av,AV.ptr s.cells] (AV.bool (ll s v)):=by
 refine Fn.go 15 Tryz.func266 Tryz.ntmps266 (λW I a U=>?_)
 refine bM λI a w U=>?_
 refine U.o (.c2 (yK s v.key hl)) λU=>?_
 refine bk λI a w U=>?_
 refine U.q .T (mN (aw .tt aL)) λU=>?_
 refine U.q .T (.cl (MR v.aO (λd=>!mX s d) _ (λd _=>Fn.val (ZA s d)))) λU=>?_
 refine aI λI a w U=>?_
 refine U.rt ?_
 exact bG (aai hk)
def xv (s:Server) (m:aC) (i j k:Nat):Server:=
 {dY s m.slot with aG:=(dY s m.slot).aG.set m.slot.toNat ⟨m.bz,1⟩,ao:=iJ (dY s m.slot).ao (m.ao.take i),waits:=iJ (dY s m.slot).waits (m.waits.take j),aD:=(m.aD.take k).foldl ef (dY s m.slot).aD}
theorem DR (s:Server) (m:aC) {i j k:Nat} (hi:m.ao.length<=i) (hj:m.waits.length<=j) (hk:m.aD.length<=k):xv s m i j k=lQ s m:=by
 unfold xv lQ
 rw[List.take_of_length_le hi,List.take_of_length_le hj,List.take_of_length_le hk]
theorem Qw {l vs:List aB} (hl:cn l=true) (hv:cn vs=true) (hn:l.length+vs.length<=80):∀k,k<=vs.length->cn (iJ l (vs.take k))=true
 |0,_=>by simpa[iJ] using hl
 |k+1,hk=>by
  have h1:=Qw hl hv hn k (by omega)
  have h2:=GB l vs k
  rw[CQ (by omega)]
  exact abd h1 (gu hv _ (aV (by omega))) (by omega)
theorem Qx {l vs:List aB} {k:Nat} (hl:cn l=true) (hv:cn vs=true) (hn:l.length+vs.length<=80) (hk:k<vs.length):Fn Tryz.prog 237 [bX (iJ l (vs.take k)),(ab vs k).av] (AV.dx [bX (iJ l (vs.take (k+1))),AV.bool (jw (iJ l (vs.take k)) (ab vs k))]):=by
 have h2:=GB l vs k
 have:=DP (iJ l (vs.take k)) (ab vs k) (Qw hl hv hn k (by omega))
 rwa[aah (gu hv _ (aV hk)) (by omega),<-CQ hk] at this
theorem abf {s:Server} {m:aC} (h:((m.aR==fl s.site)&&decide (1<=m.bz))=false):gV s m=(s,[]):=by unfold gV;rw[h];rfl
theorem Qy {s:Server} {m:aC} (h:((m.aR==fl s.site)&&decide (1<=m.bz))=true) (h2:m.bz<=(ab s.aG m.slot.toNat).bz):gV s m=(s,[oq s m]):=by unfold gV;rw[h,if_pos rfl,if_pos h2]
theorem It {s:Server} {m:aC} (h:((m.aR==fl s.site)&&decide (1<=m.bz))=true) (h2:¬m.bz<=(ab s.aG m.slot.toNat).bz) (h3:(tF s m&&gK (lQ s m))=false):gV s m=(s,[]):=by unfold gV;rw[h,if_pos rfl,if_neg h2,h3];rfl
theorem Qz {s:Server} {m:aC} (h:((m.aR==fl s.site)&&decide (1<=m.bz))=true) (h2:¬m.bz<=(ab s.aG m.slot.toNat).bz) (h3:(tF s m&&gK (lQ s m))=true):gV s m=(fO (lQ s m),[oq s m]):=by unfold gV;rw[h,if_pos rfl,if_neg h2,h3];rfl
theorem qR {s:Server} {m:aC} (h:m.kind=1):eG s m=((iL s m).1,(iL s m).2):=by unfold eG;rw[if_pos h]
theorem qS {s:Server} {m:aC} (h:m.kind=3):eG s m=(s,jm s m):=by unfold eG;rw[h];rfl
theorem qT {s:Server} {m:aC} (h:m.kind=5):eG s m=((jb s m).1,(jb s m).2):=by unfold eG;rw[h];rfl
theorem qU {s:Server} {m:aC} (h:m.kind=6):eG s m=(mY s m,[]):=by unfold eG;rw[h];rfl
theorem sj {s:Server} {m:aC} (h:m.kind=7) (h2:((kz s.ao ⟨m.key,m.aq⟩).isSome&&(m.aR==fl s.site))=true) (hc:cn s.ao=true):eG s m=(s,[nG s m]):=by
 rw[AH hc] at h2
 unfold eG;rw[h];show(s,oC s m)=_
 unfold oC;rw[h2];rfl
theorem sk {s:Server} {m:aC} (h:m.kind=7) (h2:((kz s.ao ⟨m.key,m.aq⟩).isSome&&(m.aR==fl s.site))=false) (hc:cn s.ao=true):eG s m=(s,[]):=by
 rw[AH hc] at h2
 unfold eG;rw[h];show(s,oC s m)=_
 unfold oC;rw[h2];rfl
theorem qV {s:Server} {m:aC} (h:m.kind=8):eG s m=(nN s m,[]):=by unfold eG;rw[h];rfl
theorem qW {s:Server} {m:aC} (h:m.kind=9):eG s m=((gV s m).1,(gV s m).2):=by unfold eG;rw[h];rfl
theorem qX {s:Server} {m:aC} (h:m.kind=10):eG s m=(m7 s m,[]):=by unfold eG;rw[h];rfl
theorem so {s:Server} {m:aC} (h1:¬m.kind=1) (h3:¬m.kind=3) (h5:¬m.kind=5) (h6:¬m.kind=6) (h7:¬m.kind=7) (h8:¬m.kind=8) (h9:¬m.kind=9) (CH:¬m.kind=10):eG s m=(s,[]):=by
 unfold eG;rw[if_neg h1,if_neg h3,if_neg h5,if_neg h6,if_neg h7,if_neg h8,if_neg h9,if_neg CH]
theorem abg (s:Server) (m:aC):(gV s m).2.length<=1:=by
 unfold gV
 split
 ·split
  ·simp
  ·split<;>simp
 ·simp
theorem QA (s:Server) (m:aC):(eG s m).2.length<=1:=by
 unfold eG
 repeat' split
 ·exact Zj s m
 ·exact Yz s m
 ·exact Zk s m
 ·simp
 ·show(oC s m).length<=1
  unfold oC;split<;>simp
 ·simp
 ·exact abg s m
 ·simp
 ·simp
theorem abh (s:Server) (hg:bF s):
 Fn Tryz.prog 131 [s.av] ((o5 s).av):=by
 refine Fn.go 12 Tryz.func131 Tryz.ntmps131 (λW I a U=>?_)
 have aj:=jY.2 hg
 have cT:=hg.ok
 have jE:=hg.small
 refine bH λI a w U=>?_
 refine U.alloc rfl cm dF λb2 I a w U=>?_
 refine bH λI a w U=>?_
 refine U.o (.c1 (xq ..)) λU=>?_
 refine ai λI a w U=>?_
 refine U.cd (λae=>?_) λae=>?_
 ·exfalso;rw[aj] at ae;cases ae
  skip
 ·refine bH λI a w U=>?_
  refine U.o (.c1 (ua s jE)) λU=>U.alloc rfl cm dF λb3 I a w U=>?_
  refine ck λI a w U=>?_
  refine U.ret rfl (.cons (.sx 0) aX.nil) ?_
  rfl
theorem abi (s:Server) (hg:bF s):
 Fn Tryz.prog 130 [s.av] ((ou s).av):=by
 refine Fn.go 13 Tryz.func130 Tryz.ntmps130 (λW I a U=>?_)
 have aj:=jY.2 hg
 have cT:=hg.ok
 have jE:=hg.small
 refine bH λI a w U=>?_
 refine U.alloc rfl cm dF λb2 I a w U=>?_
 refine bH λI a w U=>?_
 refine U.o (.c1 (xq ..)) λU=>?_
 refine ai λI a w U=>?_
 refine U.cd (λae=>?_) λae=>?_
 ·exfalso;rw[aj] at ae;cases ae
  skip
 ·refine bH λI a w U=>?_
  refine U.o (.c1 (ua s jE)) λU=>U.alloc rfl cm dF λb3 I a w U=>?_
  refine bt λI a w U=>?_
  refine U.BQ 1 oc .tt (At.nil (sz:=3) .c) (by first|exact jR rfl|exact j0|exact j1|exact j6) rfl rfl λa w U=>?_
  refine aA λI a w U=>?_
  refine U.ret rfl (.cons (.sx 0) aX.nil) ?_
  rfl
theorem QB (s:Server) (m:aC) (x:Bool):((((!decide ((dY s m.slot).ao.length+m.ao.length<=80))||!decide ((dY s m.slot).waits.length+m.waits.length<=80))||decide (80<((dY s m.slot).aD.length:Int)+m.aD.length))||!x)=!(tF s m&&x):=by
 have e:decide (80<((dY s m.slot).aD.length:Int)+m.aD.length)=!decide ((dY s m.slot).aD.length+m.aD.length<=80):=by rw[Bool.eq_iff_iff];simp;omega
 unfold tF
 rw[e];simp
section
variable {l:List Answer} {v:Answer} {k:Nat} {out:List Answer} {done:Bool}
theorem nR.before (hp:nR l v k false out) (h:k<l.length) (he:v.key<(ab l k).key):nR l v (k+1) true ((out++[v])++[ab l k]):=by
 refine⟨h,?_,by have:=hp.len;simp at this⊢;omega⟩
 have:=hp.eq
 rw[mr h] at this
 simp only[cR,if_pos he] at this
 rw[this];simp
theorem nR.step (hp:nR l v k done out) (h:k<l.length) (he:done=true\/¬v.key<(ab l k).key):nR l v (k+1) done (out++[ab l k]):=by
 refine⟨h,?_,by have:=hp.len;simp;omega⟩
 have:=hp.eq
 cases done
 ·rw[mr h] at this
  have he:¬v.key<(ab l k).key:=he.resolve_left (by simp)
  simp only[cR,if_neg he] at this
  rw[this];simp
 ·simp only[if_true] at this⊢
  rw[this,mr h];simp
theorem nR.tX (hp:nR l v k true out) (h:l.length<=k):out=cR l v:=by
 have:=hp.eq
 rw[List.drop_eq_nil_of_le h] at this;simpa using this.symm
theorem nR.tY (hp:nR l v k false out) (h:l.length<=k):out++[v]=cR l v:=by
 have:=hp.eq
 rw[List.drop_eq_nil_of_le h] at this;simpa[cR] using this.symm
end
theorem abj {s:Server} {m:aC} (h:(m.kind==7&&(m.aR==fl s.site)&&decide (0<=placeOf s.ao ⟨m.key,m.aq⟩))=true):eG s m=(s,[nG s m]):=by
 simp only[Bool.and_eq_true,beq_iff_eq,decide_eq_true_eq] at h
 unfold eG
 rw[h.1.1]
 show(s,oC s m)=_
 unfold oC dU
 rw[if_pos h.2,h.1.2];simp
theorem abk {s:Server} {m:aC} (h:(m.kind==8&&(m.aR==fl s.site)&&jy s ⟨m.key,m.aq⟩&&decide ((s.bl.length:Int)<80))=true):eG s m=(fO {s with bl:=ef s.bl ⟨m.key,m.aq⟩},[]):=by
 simp only[Bool.and_eq_true,beq_iff_eq,decide_eq_true_eq] at h
 have hl:s.bl.length<80:=by omega
 rw[qV h.1.1.1]
 unfold nN
 rw[if_pos (by simp only[Bool.and_eq_true,beq_iff_eq,decide_eq_true_eq];exact⟨⟨h.1.1.2,h.1.2⟩,hl⟩)]
theorem abl {s:Server} {m:aC} (h:(m.kind==10&&(m.aR==fl s.site)&&([(ab s.aG m.slot.toNat).bz,(ab s.aG m.slot.toNat).dH]==[m.bz,2]))=true):eG s m=(fO (l8 s m),[]):=by
 simp only[Bool.and_eq_true,beq_iff_eq,List.cons.injEq] at h
 rw[qX h.1.1]
 unfold m7
 rw[if_pos (by simp only[Bool.and_eq_true,beq_iff_eq];exact⟨⟨h.1.2,h.2.2.1⟩,h.2.1⟩)]
theorem abm {s:Server} {d:au} (h:gi s.aD=true):s.aD.filter (λx=>!decide (x=d))=if 0<=fH s.aD d then s.aD.take (fH s.aD d).toNat++s.aD.drop ((fH s.aD d).toNat+1) else s.aD:=by
 split
 ·rename_i hi
  refine ZP ((yM.1 h).2.2.imp λ{a b} hl e=>?_) (NX hi) (of_decide_eq_true (CX (p:=λe=>decide (e=d)) hi).2.1)
  subst e
  rw[Aw] at hl;cases hl
 ·rename_i hi
  exact List.filter_eq_self.2 λx hx=>by simpa using P1 (by omega) x hx
theorem abn {s:Server} {m:aC} (hg:bF s) (h:(m.kind==6&&(cL m.aR&&(bL m.aR !=bL s.site))&&gv s m.key)=true):eG s m=({s with aD:=s.aD.filter (λd=>!decide (d=⟨m.key,m.aq⟩))},[]):=by
 simp only[Bool.and_eq_true,beq_iff_eq] at h
 obtain⟨⟨h1,h2,h3⟩,h4⟩:=h
 have h5:(dX s m.key==1)=true:=by unfold gv at h4;rw[Bool.and_eq_true] at h4;exact h4.2
 rw[qU h1,abm hg.aD]
 unfold mY
 rw[h2,h3,h5]
 by_cases hi:0<=fH s.aD ⟨m.key,m.aq⟩
 ·rw[if_pos hi,if_pos (by simp[hi])]
 ·rw[if_neg hi,if_neg (by simp[hi])]
theorem vy {w:aE} {e:Ev} (h:aQ e.word 0 ((w.ar.length:Int)-1)=true):je w e=if e.kind=5 then({w with ar:=jc w e},true) else if aQ (ab w.ar e.word.toNat).to 10 11=true then(mb {w with ar:=jc w e} (ab w.ar e.word.toNat),true)
 else({w with ax:=w.ax.set (ab w.ar e.word.toNat).to.toNat (fJ (ab w.ax (ab w.ar e.word.toNat).to.toNat) (ab w.ar e.word.toNat)).1,ar:=eF (jc w e) (fJ (ab w.ax (ab w.ar e.word.toNat).to.toNat) (ab w.ar e.word.toNat)).2},true):=by
 unfold je
 rw[if_pos h,ZQ]
theorem DS {w:aE} {e:Ev} (h:aQ e.word 0 ((w.ar.length:Int)-1)=false):je w e=(w,false):=by unfold je;rw[h];rfl
theorem Iu {s:Server} {slot:Int} {v:aB}:v∈(dY s slot).ao↔v∈s.ao/\cQ v.key≠slot:=by
 show v∈s.ao.filter (λv=>!ew slot v)↔_
 rw[List.mem_filter];simp[ew]
theorem Iv {s:Server} {slot:Int} {v:aB}:v∈(dY s slot).waits↔v∈s.waits/\cQ v.key≠slot:=by
 show v∈s.waits.filter (λv=>!ew slot v)↔_
 rw[List.mem_filter];simp[ew]
theorem QC {s:Server} {slot:Int} {d:au}:d∈(dY s slot).aD↔d∈s.aD/\cQ d.key≠slot:=by
 show d∈s.aD.filter (λd=>!gm slot d)↔_
 rw[List.mem_filter];simp[gm]
theorem abo {s:Server} {m:aC} (h:ve s) (hm:u0 m):ve (fJ s m).1/\∀x∈(fJ s m).2,u0 x:=by
 obtain⟨h1,h2,h3⟩:=h
 have U:ve s:=⟨h1,h2,h3⟩
 have qY:∀x∈([]:List aC),u0 x:=λx hx=>by simp at hx
 unfold fJ
 split
 ·obtain⟨hk,m1,m2,m3,m4⟩:=hm
  unfold eG
  rcases hk with hk|hk|hk|hk<;>simp only[hk]<;>simp only[show((3:Int)=1)=False by decide,show((4:Int)=1)=False by decide,show((9:Int)=1)=False by decide,show((10:Int)=1)=False by decide,show((4:Int)=3)=False by decide,show((9:Int)=3)=False by decide,show((10:Int)=3)=False by decide,show((4:Int)=5)=False by decide,show((9:Int)=5)=False by decide,show((10:Int)=5)=False by decide,
   show((4:Int)=6)=False by decide,show((9:Int)=6)=False by decide,show((10:Int)=6)=False by decide,show((4:Int)=7)=False by decide,show((9:Int)=7)=False by decide,show((10:Int)=7)=False by decide,show((4:Int)=8)=False by decide,show((9:Int)=8)=False by decide,show((10:Int)=8)=False by decide,show((4:Int)=9)=False by decide,show((4:Int)=10)=False by decide,show((10:Int)=9)=False by decide,if_true,if_false]
  ·refine⟨U,?_⟩
   unfold jm
   rw[h1]
   split
   ·split
    ·intro x hx
     obtain rfl:x=_:=by simpa using hx
     exact⟨.inr (.inl rfl),rfl,rfl,rfl,rfl⟩
    ·exact qY
   ·exact qY
  ·exact⟨U,qY⟩
  ·unfold gV
   split
   ·split
    ·exact⟨U,λx hx=>by obtain rfl:x=_:=(by simpa using hx);exact⟨.inr (.inr (.inr rfl)),rfl,rfl,rfl,rfl⟩⟩
    ·split
     ·refine⟨Pf ?_,λx hx=>by obtain rfl:x=_:=(by simpa using hx);exact⟨.inr (.inr (.inr rfl)),rfl,rfl,rfl,rfl⟩⟩
      refine⟨?_,?_,?_⟩
      ·show iJ (s.ao.filter _) m.ao=[];rw[h1,m1];rfl
      ·show iJ (s.waits.filter _) m.waits=[];rw[h2,m2];rfl
      ·show m.aD.foldl ef (s.aD.filter _)=[];rw[h3,m3];rfl
     ·exact⟨U,qY⟩
   ·exact⟨U,qY⟩
  ·refine⟨?_,qY⟩
   unfold m7
   split
   ·refine Pf ⟨?_,?_,?_⟩
    ·show s.ao.filter _=[];rw[h1];rfl
    ·show s.waits.filter _=[];rw[h2];rfl
    ·show s.aD.filter _=[];rw[h3];rfl
   ·exact U
 ·exact⟨U,qY⟩
end Go.Proofs.YtjepcfpkclegdaaGreat

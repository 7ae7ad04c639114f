/- Part 17: contracts of functions, plain facts. -/
import Derived.Test.YtldbakcpcfdlaaaGreatP11
import Derived.Test.YtldbakcpcfdlaaaGreatP12
import Derived.Test.YtldbakcpcfdlaaaGreatP13
import Derived.Test.YtldbakcpcfdlaaaGreatP14
set_option linter.all false
set_option maxRecDepth 100000
set_option maxHeartbeats 4000000
namespace Go.Proofs.YtldbakcpcfdlaaaGreat
open Go Go.RowKit Tryz
attribute [local irreducible] wpList Code.wp Ok
def L4 (l:List aA) (ds:List aw):
 Fn prog 143 [bU l,bE ds] (AV.bool (tU l ds)):=by
 refine Fn.go 9 func143 ntmps143 (λW I a U=>?_);refine zt ?_;refine U.o (z5 .tt (by first|exact j6 rfl|exact kg|exact kh|exact kr)) λU=>?_;refine aG λI a w U=>?_;refine U.o (nu (ax .tt aH)) λU=>?_;refine U.o (.cl (Tm ds (missing l) _ (λd _=>Fn.val (acY d l)))) λU=>?_;refine c8 ?_;rfl
def UN {l:List Int} {k:Nat} (h:∀i,i<k->fO du nI l i=true):-1<=w3 l k/\w3 l k<=5:=by
 unfold w3;split
 .omega
 rename_i hk;have:=h (k-1) om;unfold fO at this;rw[Bool.and_eq_true,K9] at this;omega
def UO {l:List Int} {k:Nat} (h:∀i,i<k->fO du nI l i=true):aJ (ab l k) (w3 l k+1) 5=fO du nI l k:=by
 have:=UN h;unfold fO w3 at*;by_cases hk:k=0
 .subst hk;simp[du,aJ]
 simp only[hk,if_false] at this⊢;rw[Bool.eq_iff_iff];simp[du,aJ,nI];omega
def L5 (w:ai) (k:Nat):(((ab w.aC k).site !=(k:Int))||!iB (ab w.aC k))=!sD w k:=by simp[sD,bne]
def UP (w:ai) (k:Nat):(!iB (ab w.aC k)||((ab w.aC k).site !=(k:Int)))=!sD w k:=by rw[Bool.or_comm,L5]
def DB:∀{l:List Answer},(∀a∈l,dL a=true)->∀key,ua (kx l key)
 |[],_,_=>Or.inl rfl
 |a::r,h,key=>R7 (tZ (sG (h a bn)) key) (DB (λb hb=>h b (by simp[hb])) key)
def DC:∀{l:List Answer},(∀a∈l,dL a=true)->∀key,ua (vx l key)
 |[],_,_=>Or.inl rfl
 |a::r,h,key=>by
  refine R7 ?_ (DC (l:=r) (λb hb=>h b (by simp[hb])) key);split
  .rename_i hy;exact Or.inr (iW (qO (h a bn) hy.1).1).2.1
  exact Or.inl rfl
def DD (s:Server):iB s=(vm s&&cI s.aD.length (tV s)&&(cI s.an.length (pT s s.an)&&cI s.waits.length (pT s s.waits))&&cI s.waits.length (yQ s)&&cI s.aE.length (uf s)):=by
 unfold iB;have e:cI s.waits.length (tW s)=(cI s.waits.length (pT s s.waits)&&cI s.waits.length (yQ s)):=by
  rw[<-adz];exact Ac rfl λi _=>adY s i
 have e2:cI s.an.length (vn s)=cI s.an.length (pT s s.an):=rfl;rw[e,e2,adA];cases vm s<;>cases cI s.aD.length (tV s)<;>cases cI s.an.length (pT s s.an)<;>cases cI s.waits.length (pT s s.waits)<;>simp
def xq (s:Server):
 Fn prog 88 [s.av] (AV.bool (iB s)):=by
 refine Fn.go 177 func88 ntmps88 (λW I a U=>?_);have lens:s.aD.length<=9223372036854775807/\s.an.length<=9223372036854775807/\s.waits.length<=9223372036854775807/\s.aE.length<=9223372036854775807:=⟨U.ln 0 2,U.ln 0 3,U.ln 0 4,U.ln 0 5⟩;refine bx λI a w U=>?_;refine U.o (.c1 (tQ ..)) λU=>?_;refine wL λI a w U=>?_;refine U.q .F (.cl (wS ..)) λU=>?_;refine bY λI a w U=>?_;refine U.q .F (.cl (wS ..)) λU=>?_;refine bY λI a w U=>?_;refine U.q .F (.cl (K7 ..)) λU=>?_;refine bY λI a w U=>?_;refine U.q .F (.cl (K7 ..)) λU=>?_;refine Fs λI a w U=>?_;refine U.cd (λae=>?_) λae=>?_
 .rw[Gb] at ae;replace ae:=nt ae;refine bf ?_;exact bB (by unfold iB;rw[ae];rfl)
 rw[Gb] at ae;replace ae:=nf ae;obtain⟨DE,y8,L6,hco,A8,L7⟩:=CI ae;refine aB λI a w U=>?_;refine St.lo (σ:=Nat) (run 2 2 (run 43 55 [])) ⟨λk1=>[(3,AV.int k1)],λk1=>[],λk1=>k1<=s.aD.length/\∀i,i<k1->(tV s) i=true⟩ (λk1=>s.aD.length-k1) 0 U ?aI ?bF;case aI=>exact⟨Nat.zero_le _,λi hi=>by omega⟩
 rintro k1 I a w ao U;obtain⟨afD,y9⟩:=ao;refine cF λI a w U=>?_;refine cz (λah=>?_) λah=>?_
 .refine dZ λI a w U=>?_;refine U.o (.cl (jJ ..)) λU=>?_;refine mz λI a w U=>?_;refine U.q .F (.cl (jJ ..)) λU=>?_;refine JN λI a w U=>?_;refine U.cd (λaq=>?_) λaq=>?_
  .rw[SR] at aq;replace aq:=nt aq;refine bf ?_;exact bB (by rw[DD,ae,eI (f:=tV s) ah aq];simp)
  rw[SR] at aq;replace aq:=nf aq;refine aR λI a w U=>?_;exact U.ag (k1+1) (⟨by omega,eY y9 aq⟩)
 refine zt ?_;refine bk λI a w U=>?_;refine U.o (.cl (Tq _ _ DE y8)) λU=>?_;refine bY λI a w U=>?_;refine U.q .F (.cl (Tq _ _ DE L6)) λU=>?_;refine aF λI a w U=>?_;refine U.cd (λaK=>?_) λaK=>?_
 .refine bf ?_;exact bB (by rw[DD,ae];revert aK;cases cI s.an.length (pT s s.an)<;>cases cI s.waits.length (pT s s.waits)<;>simp)
 rw[Bool.or_eq_false_iff] at aK;obtain⟨L8,L9⟩:=aK;replace L8:=nf L8;replace L9:=nf L9;refine aB λI a w U=>?_;refine St.lo (σ:=Nat) (2::(run 3 4 (run 40 110 []))) ⟨λk2=>[(4,AV.int k2)],λk2=>[],λk2=>k2<=s.waits.length/\∀i,i<k2->(yQ s) i=true⟩ (λk2=>s.waits.length-k2) 0 U ?eo ?jK;case eo=>exact⟨Nat.zero_le _,λi hi=>by omega⟩
 rintro k2 I a w ao U;obtain⟨xu,iZ⟩:=ao;refine cF λI a w U=>?_;refine cz (λaS=>?_) λaS=>?_
 .refine zt ?_;have U:=U.jj;refine U.gG [([],none),([],none),([],none),([],none),([],none),([],none),([],none),([],none),([],none),([],none),([],none),([],none),([],none),([],none),([],none),([],none),([],none),([],none),([0],some (0,[5])),([0],some (0,[5])),([],none)] aO aO rfl ?_;refine tP ?_;refine .o (.cl (vr ..)) ?_;refine dO ?_;refine bc.alloc 0 rfl rfl bL ee<|bc.qu 0 rfl bL rfl .tt rfl rfl ?_;refine bG ?_;refine .nil ?_;intro I a w U;obtain⟨b5,U⟩:=U.oC (d:=5) 0 rfl rfl;obtain⟨I,U⟩:=U.fb 0 5;refine bm<|wp_seq<|U.dk ?_;refine vh ?_;refine .q .F (.cl (sI ..)) ?_;refine cG ?_;refine .q .F (.cl (sI ..)) ?_;refine cG ?_;refine .nil ?_;intro I a w U;refine bm ?_;refine U.cd (λbA=>?_) λbA=>?_
  .rw[Tp s _ y8] at bA;replace bA:=nt bA;refine bf ?_;exact bB (by rw[DD,ae,eI (f:=yQ s) aS bA];simp)
  rw[Tp s _ y8] at bA;replace bA:=nf bA;refine aR λI a w U=>?_;have U:=U.drop 0;exact U.ag (k2+1) (⟨by omega,eY iZ bA⟩)
 refine zt ?_;refine aB λI a w U=>?_;refine St.lo (σ:=Nat) (2::(run 3 7 (run 27 150 []))) ⟨λk3=>[(7,AV.int k3)],λk3=>[],λk3=>k3<=s.aE.length/\∀i,i<k3->(uf s) i=true⟩ (λk3=>s.aE.length-k3) 0 U ?iD ?od;case iD=>exact⟨Nat.zero_le _,λi hi=>by omega⟩
 rintro k3 I a w ao U;obtain⟨GK,ov⟩:=ao;refine cF λI a w U=>?_;refine cz (λbt=>?_) λbt=>?_
 .refine zt ?_;have U:=U.jj;refine U.gG [([],none),([],none),([],none),([],none),([],none),([],none),([],none),([],none),([],none),([],none),([],none),([],none),([],none),([],none),([],none),([],none),([],none),([],none),([0],some (0,[8])),([0],some (0,[8])),([],none)] aO aO rfl ?_;refine tP ?_;refine .o (.cl (vr ..)) ?_;refine dO ?_;refine bc.alloc 0 rfl rfl bL ee<|bc.qu 0 rfl bL rfl .tt rfl rfl ?_;refine bG ?_;refine .nil ?_;intro I a w U;obtain⟨b8,U⟩:=U.oC (d:=8) 0 rfl rfl;obtain⟨I,U⟩:=U.fb 0 8;refine aF λI a w U=>?_;refine U.cd (λcr=>?_) λcr=>?_
  .rw[SS s _ y8] at cr;replace cr:=nt cr;refine bf ?_;exact bB (by rw[DD,ae,eI (f:=uf s) bt cr];simp)
  rw[SS s _ y8] at cr;replace cr:=nf cr;refine aR λI a w U=>?_;have U:=U.drop 0;exact U.ag (k3+1) (⟨by omega,eY ov cr⟩)
 refine zt ?_;refine bf ?_;exact bB (by rw[DD,ae,eX y9 om,L8,L9,eX iZ om,eX ov om];rfl)
def Ma (l:List aA) (d:aw):(eK l d).isSome=decide (0<=placeOf l d):=by
 unfold eK;split<;>simp_all
def lB (a b:de):Bool:=ui a b||ui b a||vB a b||vB b a
def qV (own other:List aA) (side:Int) (k:Nat):Bool:=(cI k λj=>!C2 (ab own j) (ab own k))&&tU own (ab own k).aQ&&(if 0<=placeOf other (ab own k).aU then equalIn other (ab own k) else bM (ab own k).ar.site==side)
def Mb (w:ai) (side:Int):Bool:=cI (cT w (2*side)).aD.length λi=>lB (ab (cT w (2*side)).aD i) (ab (cT w (2*side+1)).aD i)
def sN (w:ai) (side:Int):Bool:=
 cI (cg w side).length (qV (cg w side) (cg w (1-side)) side)&&Mb w side&&cI w.calls.length (λi=>w6 (cg w side) side (ab w.calls i))&&
  tU (cg w side) (ab w.seen side.toNat)&&!hasB (Gd (cg w (1-side))) ((cT w (2*side)).waits++(cT w (2*side+1)).waits)
def nb (s:Server) (d:aw):az:={cn with kind:=7,aT:=s.site,to:=fA s.site,key:=d.key,ar:=d.ar}
def gD (q:Call):List az:=if bV q then((asks q).map (jq q)).flatten else[]
def afE (q:Call):
 Fn prog 226 [q.av] (AV.bool (fU q)):=by
 refine Fn.go 40 func226 ntmps226 (λW I a U=>?_);have lens:q.keys.length<=9223372036854775807/\q.au.length<=9223372036854775807/\q.aL.length<=9223372036854775807:=⟨U.ln 0 3,U.ln 0 11,U.ln 0 12⟩;refine jW λI a w U=>?_;refine St.lo (σ:=Nat) (run 2 2 (5::(run 11 9 []))) ⟨λk=>[(9,AV.int k),(3,AV.int (w3 q.keys k))],λk=>[],λk=>k<=q.keys.length/\∀i,i<k->fO du nI q.keys i=true⟩ (λk=>q.keys.length-k) 0 U ?aI ?bF;case aI=>exact⟨Nat.zero_le _,λi hi=>by omega⟩
 rintro k I a w ao U;obtain⟨hk,aM⟩:=ao;refine aB λI a w U=>?_;refine cz (λae=>?_) λae=>?_
 .refine bY λI a w U=>?_;refine U.o (lW .tt .c (λ_=>by have:=UN aM;omega)) λU=>?_;refine U.o (.cl (jI ..)) λU=>?_;refine aB λI a w U=>?_;refine U.cd (λah=>?_) λah=>?_
  .rw[UO aM] at ah;replace ah:=nt ah;refine bf ?_;exact bB (by unfold fU jZ;rw[eI (f:=fO du nI q.keys) ae ah];rfl)
  rw[UO aM] at ah;replace ah:=nf ah;refine aX λI a w U=>?_;refine U.again (k+1) ?hO ?hP dR ?hZ (by repeat(first|exact Env.le_rfl|refine Env.iy rfl ?_));case hO=>omega
  case hP=>exact⟨by omega,eY aM ah⟩
  case hZ=>exact(Env.dA rfl dR (Env.dA rfl (by exact congrArg AV.int (acZ _ _).symm) Env.le_nil))
 refine zt ?_;refine QZ λI a w U=>?_;refine U.q .T2 (.cl (jI ..)) λU=>?_;refine tO ?_;exact bB (by unfold fU jZ;rw[eX aM om];rfl)
def afF (l:List aw):
 Fn prog 71 [bE l] (AV.bool (yA l)):=by
 refine Fn.go 6 func71 ntmps71 (λW I a U=>?_);refine aG λI a w U=>?_;refine U.o (.cl (Dm ..)) λU=>?_;refine c8 ?_;rfl
def afG {x y:List aw} (hl:(x.length:Int)=y.length) (h:∀i,i<x.length->decide (ab x i=ab y i)=true):sw x y=true:=by
 unfold sw;simp;exact KD om λi hi=>by simpa using h i hi
def UQ (x y:List aw):
 Fn prog 95 [bE x,bE y] (AV.bool (sw x y)):=by
 refine Fn.go 26 func95 ntmps95 (λW I a U=>?_);have xU:=U.eE (t:=0) rfl;have hly:=U.eE (t:=1) rfl;refine iM λI a w U=>?_;refine cz (λae=>?_) λae=>?_
 .refine bf ?_;exact bB (acE ae).symm
 refine aR λI a w U=>?_;refine St.lo (σ:=Nat) (run 2 4 (run 13 13 [])) ⟨λk=>[(13,AV.int k)],λk=>[],λk=>k<=x.length/\∀i,i<k->(λi=>decide (ab x i=ab y i)) i=true⟩ (λk=>x.length-k) 0 U ?aI ?bF;case aI=>exact⟨Nat.zero_le _,λi hi=>by omega⟩
 rintro k I a w ao U;obtain⟨mU,aM⟩:=ao;refine aB λI a w U=>?_;refine cz (λah=>?_) λah=>?_
 .refine aF λI a w U=>?_;refine U.dk ?_;refine ny ?_;refine .o (tz [_,_,_] [_,_,_] wQ rfl rfl .tt .tt)<|.nil ?_;intro I a w U;refine bm ?_;refine U.cd (λaq=>?_) λaq=>?_
  .rw[AE] at aq;replace aq:=nt aq;refine bf ?_;exact bB (acF aq).symm
  rw[AE] at aq;replace aq:=nf aq;refine aF λI a w U=>?_;exact U.ag (k+1) (⟨by omega,eY aM aq⟩)
 refine zt ?_;refine bf ?_;exact bB (afG ae λi hi=>aM i om).symm
def A9 (x:ai):Prop:=(x.aC.length<=1048576/\∀s∈x.aC,um s)/\(x.al.length<=1048576/\∀m∈x.al,ly m)/\(x.calls.length<=1048576/\∀q∈x.calls,AP q)/\x.seen.length<=1048576/\∀l∈x.seen,l.length<=1048576
def Mc (s:Server) (key:Int) (ao:iB s=true):
 Fn prog 332 [s.av,AV.int key] (AV.bool (fE s key)):=by
 refine Fn.go 21 func332 ntmps332 (λW I a U=>?_);have hp:=CM ao;refine aF λI a w U=>?_;refine U.dk ?_;refine bG ?_;refine .o (.c1 (xq ..)) ?_;refine cG ?_;refine .q .T (.cl (wR ..)) ?_;refine fZ ?_;refine .q .T (.cl (wT ..)) ?_;refine .q .T ((by first|exact ff gQ fh .ag .ag (λhg=>by have:=KR hg;omega)|exact iT gQ fh .ag .ag (λhg=>by have:=KR hg;omega)|exact je gQ fh .ag .ag (λhg=>by have:=KR hg;omega))) ?_;refine fZ ?_;refine .nil ?_;intro I a w U;refine zt ?_;refine U.rt ?_;exact bB (by rw[ao];rfl)
def afH {s:Server} (h:bJ s) {d:aw} (hd:kO d=true):bK (nb s d)=true:=by
 simp only[kO,Bool.and_eq_true] at hd;exact vC ⟨by simp[nb],by simp[nb]⟩ (qK h.site) (qK (Sx h.site)) ⟨by simp[nb,cn],by simp[nb,cn]⟩ hd.1 (C3 hd.2) ⟨by simp[nb,cn],by simp[nb,cn]⟩ ud ⟨by simp[nb,cn],by simp[nb,cn]⟩ ⟨by simp[nb,cn],by simp[nb,cn]⟩ qL qL yC
def afI {s:Server} (h:bJ s):∀d∈vF s,kO d=true:=by
 intro d hd;rcases Lk hd with hd|hd
 .simp at hd
 obtain⟨ds,h1,h2⟩:=List.mem_flatten.1 hd;obtain⟨v,hv,rfl⟩:=List.mem_map.1 h1;exact Dg (iW (fw h.waits v hv)).2.2 d h2
def afJ (s:Server):(leaving s).length<=s.aD.length:=by
 have:=List.length_filter_le (λi=>(ab s.aD i).cm==2) (List.range s.aD.length);rw[List.length_range] at this;exact this
def Md (l:List aw) (d:aw) (h:l.length<=1048575):
 Fn prog 349 [bE l,d.av] (bE (eA l d)):=by
 refine Fn.go 31 func349 ntmps349 (λW I a U=>?_);refine bx λI a w U=>?_;refine U.o (.cl (CR ..)) λU=>?_;refine zt ?_;refine cz (λae=>?_) λae=>?_
 .refine bD λI a w U=>?_;refine U.o (bO (vu l om) (ax .r aH)) λU=>?_;refine bf ?_;exact congrArg (AV.rows 3) (by unfold eA;rw[if_pos ae])
 refine aB λI a w U=>?_;refine St.lo (σ:=Nat) (5::(run 14 11 [])) ⟨λk=>[(5,AV.int k)],λk=>[],λk=>k<=l.length/\∀i,i<k->eQ (ab l i) d=true⟩ (λk=>l.length-k) 0 U ?aI ?bF;case aI=>exact⟨Nat.zero_le _,λi hi=>by omega⟩
 rintro k I a w ao U;obtain⟨hk,aM⟩:=ao;refine wp_seq<|wp_seq<|U.dk ?_;refine pK ?_;refine .q .T (.cl (Gj ..)) ?_;refine bG ?_;refine .nil ?_;intro I a w U;refine bm ?_;refine cz (λah=>?_) λah=>?_
 .refine aR λI a w U=>?_;exact U.ag (k+1) (⟨by omega,λi h1=>by rcases Nat.lt_succ_iff_lt_or_eq.1 h1 with h|h;exact aM i h;rw[h];exact ah.2⟩)
 refine zt ?_;refine U.da 5 ?_;simp only[TD];refine bG ?_;refine gW.pG (Gl l om) (ax .r aH) ?_;refine cG ?_;refine .o (.li [d.cells] jk (.u .nil)) ?_;refine .nil ?_;intro I a w U;obtain⟨y6,U⟩:=U.Fj (d:=26);refine U.fR [0] (ac6 _ (l.map aw.cells) d.cells k (by rw[List.length_map];exact hk) lf (λr hr=>by obtain⟨u,_,rfl⟩:=List.mem_map.1 hr;rfl) rfl) (ax .tt (ax .tt (ax .tt aH))) rfl aP rfl λI a w U=>?_;refine bf ?_;exact congrArg (AV.rows 3) (by unfold eA;rw[if_neg om,<-SA hk aM (λhl=>by rcases ah with h|h;omega;exact h) (TI ae),List.map_append,List.map_cons,List.map_take,List.map_drop])
def afK (s:Server) (ao:iB s=true):
 Fn prog 276 [s.av] ((l8 s).av):=by
 refine Fn.go 12 func276 ntmps276 (λW I a U=>?_);have hp:=CM ao;refine bD λI a w U=>?_;refine U.alloc rfl cA dS λb2 I a w U=>?_;refine bD λI a w U=>?_;refine U.o (.c1 (xq ..)) λU=>?_;refine aB λI a w U=>?_;refine U.cd (λae=>?_) λae=>?_
 .exfalso;rw[ao] at ae;cases ae;skip
 refine bD λI a w U=>?_;refine U.o (bO (Dr s (by have:=xj hp.2.1;have:=xj hp.2.2.1;exact(Kg ao).small (by have:=iP hp.2.2.2.1;omega))) (ax (.t rfl) aH)) λU=>?_;refine U.alloc rfl cA dS λb3 I a w U=>?_;refine cF λI a w U=>?_;refine U.ret rfl (.cons (.sx 0) aV.nil) ?_;rfl
def afL (s:Server) (ao:iB s=true):
 Fn prog 277 [s.av] ((mE s).av):=by
 refine Fn.go 14 func277 ntmps277 (λW I a U=>?_);have hp:=CM ao;refine bD λI a w U=>?_;refine U.alloc rfl cA dS λb2 I a w U=>?_;refine bD λI a w U=>?_;refine U.o (.c1 (xq ..)) λU=>?_;refine aB λI a w U=>?_;refine U.cd (λae=>?_) λae=>?_
 .exfalso;rw[ao] at ae;cases ae;skip
 refine bD λI a w U=>?_;refine U.o (bO (Dr s (by have:=xj hp.2.1;have:=xj hp.2.2.1;exact(Kg ao).small (by have:=iP hp.2.2.2.1;omega))) (ax (.t rfl) aH)) λU=>?_;refine U.alloc rfl cA dS λb3 I a w U=>?_;refine aR λI a w U=>?_;refine U.l0 λmG I a w U=>?_;obtain⟨I,U⟩:=U.fr 2 11;refine aX λI a w U=>?_;refine U.ret rfl (.cons (.sx 0) aV.nil) ?_;rfl
def UR (s:Server) (m:az):(decide (80<((eh s m.slot).an.length:Int)+m.an.length)||decide (80<((eh s m.slot).waits.length:Int)+m.waits.length)||decide (80<((eh s m.slot).aE.length:Int)+m.aE.length))=!pQ s m:=by
 have e:∀a b:Nat,decide (80<(a:Int)+b)=!decide (a+b<=80):=λa b=>by rw[Bool.eq_iff_iff];simp;omega
 unfold pQ;rw[e,e,e];simp
def afM {s:Server}:vG s s.aD.length=leaving s:=rfl
def US (s:Server) (m:az) (x:Bool):((((!decide ((eh s m.slot).an.length+m.an.length<=80))||!decide ((eh s m.slot).waits.length+m.waits.length<=80))||decide (80<((eh s m.slot).aE.length:Int)+m.aE.length))||!x)=!(pQ s m&&x):=by
 have e:decide (80<((eh s m.slot).aE.length:Int)+m.aE.length)=!decide ((eh s m.slot).aE.length+m.aE.length<=80):=by rw[Bool.eq_iff_iff];simp;omega
 unfold pQ;rw[e];simp
def afN {s:Server} {t:Int} {v:aA} (h:v.aQ.length<=1048576):ly {cn with kind:=5,aT:=s.site,to:=t,an:=[v]}:=⟨Nat.zero_le _,⟨by simp,λx hx=>by obtain rfl:=List.mem_singleton.1 hx;exact h⟩,⟨Nat.zero_le _,λ_ h=>by cases h⟩,Nat.zero_le _⟩
def UT (key:Int):ly (yM key):=TS rfl rfl rfl rfl
def UU (d:aw):ly (yN d):=TS rfl rfl rfl rfl
def UW (q:Call) (h:AP q):
 dp prog 137 [q.av] [] (λ_:Value×Value=>True) (λu=>[Own.row u.1 56 9 (q.au.map Answer.cells),Own.row u.2 125 3 (q.aL.map aw.cells)]) (λu=>q.AH u.1 u.2):=by
 refine dp.intro 40 func137 rfl ntmps137 rfl aO (λW I a U=>?_);obtain⟨h1,h2,h4,h5,h3⟩:=h;have U:=U.ik (sz:=9) 56;refine sr<|U.box rfl .tt λb1 I a w U=>U.alloc rfl eJ im λb2 I a w U=>?_;refine zt ?_;refine U.da 10 ?_;simp only[TD];refine cG ?_;refine .o (Fg kR jH rfl abx .r (λ_=>by simp;omega)) ?_;refine cG ?_;refine .o (.cl (vu q.ctx h2)) ?_;refine cG ?_;refine gW.pG (Gl q.aL h3) (ax .r aH) ?_;refine bG ?_;refine .nil ?_;intro I a w U;obtain⟨m8,U⟩:=U.Fj (d:=14);refine bx λI a w U=>?_;try have Un:=U.fI 3 rfl
 refine iM λI a w U=>?_;refine St.lo (σ:=Nat×Value) (3::(5::(run 16 21 []))) ⟨λ⟨k,v⟩=>[(21,AV.int k),(3,AV.val v)],λ⟨k,v⟩=>[Own.row v 56 9 ((q.au.take k).map Answer.cells),Own.box b1 45 [AV.int q.aj,AV.int q.num,AV.int q.kind,jt q.keys,AV.int q.val,bE q.ctx,AV.int q.bH,AV.int q.end_,AV.bool q.over,AV.int q.ar.time,AV.int q.ar.site,sd q.au,AV.val m8],Own.box b2 45 [AV.val (.int .i64 0),AV.val (.int .i64 0),AV.val (.int .i64 0),AV.rows 1 [],AV.val (.int .i64 0),AV.rows 3 [],AV.val (.int .i64 0),AV.val (.int .i64 0),AV.val (.bool false),AV.val (.int .i64 0),AV.val (.int .i64 0),AV.rows 9 [],AV.rows 3 []],Own.row m8 125 3 (q.aL.map aw.cells)],λ⟨k,v⟩=>k<=q.au.length⟩ (λ⟨k,v⟩=>q.au.length-k) (0,.slice none 0 0) U ?aI ?bF;case aI=>exact Nat.zero_le _
 rintro⟨k,v⟩ I a w ao U;have hk:k<=q.au.length:=ao;dsimp only at U;refine aB λI a w U=>?_;refine cz (λae=>?_) λae=>?_
 .refine aG λI a w U=>?_;refine U.alloc rfl fg pM λb5 I a w U=>?_;refine aB λI a w U=>?_;obtain⟨I,U⟩:=U.fb 4 5;refine U.dt 10 ?_;simp only[TD];refine mA ?_;refine .o (.c1 (yJ _ (h5 _ (bh ae)))) ?_;refine .o (.bd pM (.k (.k (.t aZ.nil)))) ?_;refine .o (.li [(ab q.au k).cells] wO (.u .nil)) ?_;refine .nil ?_;intro I a w U;refine U.ap 0 λv35 a w U=>?_;rw[cJ,<-fe ae] at U;refine aR λI a w U=>?_;have U:=U.drop 4;exact U.ag (k+1,v35) (ae)
 refine wp_exit<|cB<|cB<|fo<|bm<|wp_seq ?_;rw[List.take_of_length_le om] at U;refine aG λI a w U=>?_;try have aro:=U.fI 0 rfl
 refine aR λI a w U=>?_;exact U.dx (v,m8) [0,3] rfl (.cons (.s 2 eJ rfl rfl (by first|rfl|assumption)) .nil) trivial rfl rfl
def UX (q:Call) (h:AP q):Fn prog 137 [q.av] q.av:=(UW q h).frozen λr c I a w _ U=>by
 obtain⟨I,U⟩:=U.fa 0 0 11;obtain⟨I,U⟩:=U.fa 1 0 12;exact⟨_,_,_,U⟩
def afP {q:Call} (h:q.ctx.length<=1048576):∀m∈asks q,ly m:=by
 intro m hm;unfold asks at hm;split at hm
 .obtain rfl:=List.mem_singleton.1 hm;exact⟨h,⟨Nat.zero_le _,λ_ h=>by cases h⟩,⟨Nat.zero_le _,λ_ h=>by cases h⟩,Nat.zero_le _⟩
 rcases List.mem_append.1 hm with hm|hm
 .obtain⟨k,_,rfl⟩:=List.mem_map.1 hm;exact UT k
 obtain⟨d,_,rfl⟩:=List.mem_map.1 hm;exact UU d
def afQ (q:Call) (n:Value) (key:Int):
 Fn prog 284 [q.A0 n,AV.int key] (AV.int (cv q key)):=by
 refine Fn.go 9 func284 ntmps284 (λW I a U=>?_);refine bD λI a w U=>?_;refine U.o (z5 .tt (by first|exact j6 rfl|exact kg|exact kh|exact kr)) λU=>?_;refine bk λI a w U=>?_;refine U.o (nu (ax .tt aH)) λU=>?_;refine U.o (.cl (KC q.au (vD key) _ (λv _=>Fn.val (SY v key)))) λU=>?_;refine bf ?_;rfl
def UY {s:Server} {m:az} (h:s.aE.length<=80):(!jM (fB s m)||((s.aE.length:Int)==80))=!(jM (fB s m)&&decide (s.aE.length<80)):=by
 have e:((s.aE.length:Int)==80)=!decide (s.aE.length<80):=by rw[Bool.eq_iff_iff];simp;omega
 rw[e];simp
def afR {s:Server} {d:aw} (h:gz s.aE=true):s.aE.filter (λx=>!decide (x=d))=if 0<=fy s.aE d then s.aE.take (fy s.aE d).toNat++s.aE.drop ((fy s.aE d).toNat+1) else s.aE:=by
 split
 .rename_i hi;refine adk ((xe.1 h).2.2.imp λ{a b} hl e=>?_) (TE hi) (of_decide_eq_true (FR (p:=λe=>decide (e=d)) hi).2.1);subst e;rw[wV] at hl;cases hl
 rename_i hi;exact List.filter_eq_self.2 λx hx=>by simpa using TI om x hx
def afS {bs:List UInt8} {p n m:Int} (h:n<=m) (hm:0<=m):dK bs p n<=m:=by
 by_cases h0:0<n
 .have:=jm bs p h0;omega
 unfold dK;rw[if_pos om];omega
def afT (l:List Answer):
 Fn prog 152 [sd l,sd l] (AV.bool true):=by
 refine Fn.go 55 func152 ntmps152 (λW I a U=>?_);have hle:=U.eE (t:=0) rfl;refine iM λI a w U=>?_;refine U.cd (λae=>?_) λae=>?_
 .exfalso;simp at ae;skip
 refine aB λI a w U=>?_;refine St.lo (σ:=Nat) (run 2 4 (run 44 11 [])) ⟨λk=>[(5,AV.int k)],λk=>[],λk=>k<=l.length⟩ (λk=>l.length-k) 0 U ?aI ?bF;case aI=>exact Nat.zero_le _
 rintro k I a w ao U;have hk:k<=l.length:=ao;refine aX λI a w U=>?_;refine cz (λah=>?_) λah=>?_
 .refine zt ?_;refine U.dk ?_;refine pL ?_;refine iA ?_;refine .q .F (B8 .ag .ag wP) ?_;refine Fu ?_;refine .q .F (.cl (KI ..)) ?_;refine cG ?_;refine .nil ?_;intro I a w U;refine bm ?_;refine U.cd (λaq=>?_) λaq=>?_
  .exfalso;simp at aq;skip
  refine aR λI a w U=>?_;exact U.ag (k+1) (ah)
 refine zt ?_;refine bf ?_;rfl
def afU (q:Call) (hl:q.keys.length<=1048576):
 Fn prog 76 [q.av,q.av] (AV.bool true):=by
 refine Fn.go 111 func76 ntmps76 (λW I a U=>?_);refine JL λI a w U=>?_;refine aam λI a w U=>?_;refine U.q .F (B8 .ag .ag wP) λU=>?_;refine dZ λI a w U=>?_;refine U.q .F (tz [_,_] [_,_] nz rfl rfl .ag .ag) λU=>?_;refine Fq λI a w U=>?_;refine U.q .F (.cl (w7 ..)) λU=>?_;refine g9 λI a w U=>?_;refine U.q .F (.cl (w7 ..)) λU=>?_;refine g9 λI a w U=>?_;refine U.q .F (.cl (afT ..)) λU=>?_;refine aF λI a w U=>?_;refine U.cd (λae=>?_) λae=>?_
 .exfalso;simp at ae;skip
 refine aB λI a w U=>?_;refine St.lo (σ:=Nat) (run 2 4 (run 18 93 [])) ⟨λk=>[(5,AV.int k)],λk=>[],λk=>k<=q.keys.length⟩ (λk=>q.keys.length-k) 0 U ?aI ?bF;case aI=>exact Nat.zero_le _
 rintro k I a w ao U;have hk:k<=q.keys.length:=ao;refine cF λI a w U=>?_;refine cz (λah=>?_) λah=>?_
 .refine aB λI a w U=>?_;refine U.cd (λaq=>?_) λaq=>?_
  .exfalso;simp at aq;skip
  refine aR λI a w U=>?_;exact U.ag (k+1) (ah)
 refine zt ?_;refine bf ?_;rfl
def za {i:Nat}:fA (i:Int)=(bP i:Int):=by unfold fA bP;split<;>split<;>omega
def nK (w:ai) (σ:Nat) (D:List aw):Prop:=∀d∈D,∃u,be w σ u/\u.aU=d/\wZ u.aQ D
structure Ext (w x:ai):Prop where
 eC:∀{σ v},be w σ v->be x σ v
 cont:∀{σ v},mY w σ v->mY x σ v
 ep:∀i,i<4->∀k,k<3->ep w i k<=ep x i k
 calls:∀q∈w.calls,∃p∈x.calls,j2 q p
def be.cases {w:ai} {i:Nat} {v:aA} (h:be w (i/2) v):v∈(sv w i).an\/v∈(sv w (bP i)).an:=by
 obtain⟨j,_,e,hv⟩:=h;rcases aeE e with rfl|rfl
 .exact .inl hv
 exact .inr hv
def nK.ext {w x:ai} (h:Ext w x) {σ:Nat} {D:List aw} (hc:nK w σ D):nK x σ D:=λd hd=>let⟨u,h1,h2,h3⟩:=hc d hd;⟨u,h.eC h1,h2,h3⟩
def Me {w:ai} {i:Nat} (hi:i<w.aC.length):eB w i (sv w i)=w:=by
 unfold eB sv;have e:w.aC.set i (ab w.aC i)=w.aC:=by
  apply List.ext_getElem
  .simp
  intro n h1 h2;rw[List.getElem_set];split
  .rename_i e;subst e;simp[ab,h2]
  rfl
 rw[e]
def sO {v:aA} (h:dN v=true):vk v<3:=by have:=Gy (iW h).1;unfold vk;omega
def UZ {v:aA} (h:dN v=true) {slot:Int} (h0:0<=slot):vk v=slot.toNat↔cV v.key=slot:=by have:=Gy (iW h).1;unfold vk;omega
def Mf {x y:de} (h:lB x y=true) (hx:x.cm=1):y.cm≠1/\y.bw<=x.bw:=by
 unfold lB ui vB at h;simp only[Bool.or_eq_true,Bool.and_eq_true,beq_iff_eq,bne_iff_ne,decide_eq_true_eq] at h;omega
def U0 {s t:Server} {k:Nat} (h:lB (ab s.aD k) (ab t.aD k)=true) (U:(ab s.aD k).cm=1):¬behind s t k:=by
 have:=Mf h U;unfold behind;omega
def U1 {s t:Server} {k:Nat} (h:lB (ab s.aD k) (ab t.aD k)=true) (U:(ab s.aD k).cm=1):behind t s k:=by
 have:=Mf h U;unfold behind;omega
def afV {s t:Server} {k:Nat} (h:lB (ab s.aD k) (ab t.aD k)=true):behind s t k\/behind t s k:=by
 unfold lB ui vB at h;simp only[Bool.or_eq_true,Bool.and_eq_true,beq_iff_eq,bne_iff_ne,decide_eq_true_eq] at h;unfold behind;omega
def Mg {s t:Server} {k:Nat} (h:lB (ab s.aD k) (ab t.aD k)=true) (hb:behind s t k):¬behind t s k:=by
 unfold lB ui vB at h;simp only[Bool.or_eq_true,Bool.and_eq_true,beq_iff_eq,bne_iff_ne,decide_eq_true_eq] at h;unfold behind at*;omega
def Ext.refl (w:ai):Ext w w:=⟨id,id,λ_ _ _ _=>Int.le_refl _,λq hq=>⟨q,hq,j2.refl q⟩⟩
def Mh {l:List aA} (h:VS l):l.Pairwise λa b=>a.aU≠b.aU:=h.imp λ{a b} hl e=>by
 unfold fP at hl;rw[e,wV] at hl;cases hl
def GL {s:Server} {m:az} (hm:bK m=true) {l vs:List aA} (hl:∀v∈l,cV v.key≠m.slot) (hv:∀v∈vs,cV v.key=m.slot) (hc:ct vs=true) (x:aA):x∈jx l vs↔x∈l\/x∈vs:=
 SM (λu hu v dU e=>hl u hu (by rw[show u.key=v.key from congrArg aw.key e];exact hv v dU)) (Mh (pU hc)) x
def GM {l:List aA} (hl:VS l) {key:Int} {v u:aA} (h:dY l key=some v) (hu:u∈l) (hk:u.key=key):bQ v.ar u.ar=false:=by
 have hv:=uj h;unfold dY at h;rw[List.find?_eq_some_iff_append] at h;obtain⟨_,Mi,bs,e,hn⟩:=h;have e2:l=bs.reverse++v::Mi.reverse:=by
  have:=congrArg List.reverse e;simpa using this
 have vM:u=v\/u∈bs:=by
  rw[e2] at hu;rcases List.mem_append.1 hu with hu|hu
  .exact .inr (List.mem_reverse.1 hu)
  rcases List.mem_cons.1 hu with hu|hu
  .exact .inl hu
  have:=hn u (List.mem_reverse.1 hu);simp[pV,hk] at this
 rcases vM with rfl|vM
 .simp[bQ]
 unfold VS at hl;rw[e2,List.pairwise_append] at hl;have:=hl.2.2 u (List.mem_reverse.2 vM) v bn;unfold fP eQ aA.aU at this;rw[hk,hv.2] at this;simp at this;exact CU this
def Mj (a b:cE):bQ (dQ a b) a=false:=by
 unfold dQ;split
 .rename_i h;exact CU h
 exact C9 a
def U2 (a b:cE):bQ (dQ a b) b=false:=by
 unfold dQ;split
 .exact C9 b
 rename_i h;simpa using h
def GN {a b d:List aw} (h:wZ a b) (h':wZ b d):wZ a d:=λkey=>C8 (h key) (h' key)
def afW {l:List aw} {d:aw} (h:bT l=true) (hd:dB d.ar=true):wZ l (gI l d):=λkey=>by
 rw[CX key h hd];split
 .exact Mj _ _
 exact C9 _
def U3:∀{b a:List aw} {x:aw},x∈iX a b->x∈a\/x∈b
 |[],a,x,h=>.inl h
 |d::r,a,x,h=>by
  rcases U3 (b:=r) (a:=gI a d) h with h|h
  .rcases KL h with h|h
   .exact .inr (by rw[h];exact List.mem_cons_self ..)
   exact .inl h
  exact .inr (List.mem_cons_of_mem _ h)
def U4 {w:ai} {σ:Nat} {D:List aw} {v:aA} (hc:nK w σ D) (hD:bT D=true) (hv:be w σ v) (ao:dB v.ar=true) (hl:wZ v.aQ D):nK w σ (gI D v.aU):=λd hd=>by
 have hle:=afW (d:=v.aU) hD ao;rcases KL hd with rfl|hd
 .exact⟨v,hv,rfl,GN hl hle⟩
 obtain⟨u,h1,h2,h3⟩:=hc d hd;exact⟨u,h1,h2,GN h3 hle⟩
def U5 {l:List Answer} {a:Answer} (h:a∈l) (key:Int):bQ (kx l key) (bI a.aY.aQ key)=false:=by
 induction l with
 |nil=>simp at h
 |cons b r ih=>
  show bQ (dQ (bI b.aY.aQ key) (kx r key)) _=false
  rcases List.mem_cons.1 h with rfl|h
  .exact Mj _ _
  exact C8 (ih h) (U2 _ _)
def afX {l:List Call} {i:Nat} {p:Call} (hi:i<l.length) (hp:p.aj=(ab l i).aj) (j:Nat) (x:Int):iF (l.set i p) j x=iF l j x:=by
 rw[T6,T6,List.map_set];have e:p.aj=ab (l.map Call.aj) i:=by rw[hp];simp[ab,hi]
 rw[e,adu (by simpa using hi)]
def afY {l:List Call} {i:Nat} {x:Int} (h:iF l i x<0) {j:Nat} (j5:i<j) (hj:j<l.length):(ab l j).aj≠x:=by
 unfold iF at h;have:=CH h (j-(i+1)) (by rw[List.length_drop];omega);rw[adt,show i+1+(j-(i+1))=j by omega] at this;simpa[m9] using this
def afZ {l:List Call} {p:Call} {i:Nat} {x:Int} (hi:i<l.length):iF (l++[p]) i x=if 0<=iF l i x then iF l i x else if p.aj=x then((l.length-(i+1):Nat):Int) else-1:=by
 unfold iF;rw[List.drop_append_of_le_length om];unfold df;rw[List.findIdx?_append];cases h:(l.drop (i+1)).findIdx? (m9 x) with
 |some k=>simp
 |none=>
  by_cases hp:p.aj=x
  .simp[List.findIdx?_cons,m9,hp]
  simp[List.findIdx?_cons,m9,hp]
def af0 {out:List aA} {v x:aA} (h:x∈out):x∈er out v:=by
 unfold er;split
 .exact hC.2 (.inr h)
 exact h
def Ml:∀{l out:List aA} {x:aA},x∈out->x∈l.foldl er out
 |[],_,_,h=>h
 |v::r,out,x,h=>Ml (l:=r) (af0 h)
def U6:∀{l out:List aA} {v:aA},v∈l->∃x∈l.foldl er out,x.aU=v.aU
 |[],_,_,h=>by simp at h
 |u::r,out,v,h=>by
  rcases List.mem_cons.1 h with rfl|h
  .have:∃x∈er out v,x.aU=v.aU:=by
    unfold er;split
    .exact⟨v,hC.2 (.inl rfl),rfl⟩
    rename_i hp;obtain⟨x,hx,e⟩:=nC.1 (show 0<=placeOf out v.aU by omega);exact⟨x,hx,e⟩
   obtain⟨x,hx,e⟩:=this;exact⟨x,Ml (l:=r) hx,e⟩
  exact U6 (l:=r) h
def ur.ended {a b:List Call} (h:ur a b) {i:Nat} (hi:i<a.length) (he:bV (ab a i)=false):ab b i=ab a i:=by
 rcases h with rfl|⟨q,rfl⟩|⟨k,q,h1,h2,rfl⟩
 .rfl
 .exact sL hi
 rw[fC h1,if_neg];rintro rfl;rw[he] at h2;cases h2
def DF {α:Type} {P:α->Nat->Prop} (inj:∀x y i,P x i->P y i->x=y):∀(n:Nat) {l:List α},l.Pairwise (λa b=>a≠b)->(∀x∈l,∃i,i<n/\P x i)->l.length<=n
 |0,l,_,h=>by
  cases l with
  |nil=>exact Nat.le_refl _
  |cons x r=>obtain⟨i,hi,_⟩:=h x bn;omega
 |n+1,l,hn,h=>by
  by_cases hx:∃x∈l,P x n
  .obtain⟨x,hx,hp⟩:=hx;obtain⟨l1,l2,rfl⟩:=List.append_of_mem hx;have vN:(l1++l2).Sublist (l1++x::l2):=List.Sublist.append (List.Sublist.refl _) (List.sublist_cons_self x l2);have aW:∀y∈l1++l2,y≠x:=λy hy=>by
    rw[List.pairwise_append] at hn;rcases List.mem_append.1 hy with hy|hy
    .exact hn.2.2 y hy x bn
    exactλe=>(List.pairwise_cons.1 hn.2.1).1 y hy e.symm
   have:=DF inj n (l:=l1++l2) (hn.sublist vN) λy hy=>by
    obtain⟨i,hi,DG⟩:=h y (vN.subset hy);refine⟨i,?_,DG⟩;rcases Nat.lt_or_ge i n with bz|lY
    .exact bz
    have:i=n:=by omega
    exact absurd (inj y x n (this▸DG) hp) (aW y hy)
   simp only[List.length_append,List.length_cons] at this⊢;omega
  have:=DF inj n hn λy hy=>by
   obtain⟨i,hi,DG⟩:=h y hy;refine⟨i,?_,DG⟩;rcases Nat.lt_or_ge i n with bz|lY
   .exact bz
   have:i=n:=by omega
   exact absurd ⟨y,hy,this▸DG⟩ hx
  omega
def Mm {l:List aA} (h:VS l):(l.map aA.aU).Pairwise λa b=>a≠b:=List.pairwise_map.2 (Mh h)
def DH {l:List aw} (h:gz l=true):l.Pairwise λa b=>a≠b:=(xe.1 h).2.2.imp λ{a b} hl e=>by
 rw[e,wV] at hl;cases hl
def Ba (s:Server):yW (ef s):=λd hd=>by
 have hd:d∈(ir s).ba.filter (iq (ir s)):=hd;rw[Sm (s:=ef s) (t:=ir s) rfl];exact(List.mem_filter.1 hd).2
def U7 {α:Type} [Inhabited α] {p:α->Bool} {l:List α} {k:Nat} (hk:k<l.length) (hp:p (ab l k)=true):0<=df p l:=by
 unfold df;split
 .omega
 rename_i hn;rw[List.findIdx?_eq_none_iff] at hn;have:=hn _ (bh hk);rw[hp] at this;cases this
def U8 {s:Server} (h:dI s<0) (hl:s.an.length<80) {v:aA} (hv:v∈s.waits):iC s v=false:=by
 obtain⟨k,hk,rfl⟩:=fS hv;cases hg:iC s (ab s.waits k) with
 |false=>rfl
 |true=>
  unfold dI at h
  rw[if_pos hl] at h
  have:=U7 (p:=iC s) hk hg
  omega
def DI {s t:Server} (h:dI s<0) (h1:t.an=s.an) (h2:t.waits=s.waits) (hg:∀v∈s.waits,iC t v=true->iC s v=true):dI t<0:=by
 refine Ki λhl k hk=>?_;rw[h1] at hl;rw[h2] at hk⊢;have:=U8 h hl (bh hk);cases hc:iC t (ab s.waits k) with
 |false=>rfl
 |true=>rw[hg _ (bh hk) hc] at this;cases this
def Bb (s:Server):dI (ef s)<0:=by
 have h:dI (ir s)<0:=Tf _ s (Nat.le_refl _);exact DI (t:=ef s) h rfl rfl λv _=>C0 (λe=>e) λd _=>Dx (s:=ir s) (t:=ef s) rfl λd hd=>(List.mem_filter.1 hd).1
def af1 {s:Server} {k:Nat} (hk:k<s.aD.length) (h:(ab s.aD k).cm=2):k∈leaving s:=by
 unfold leaving;rw[List.mem_filter,List.mem_range];exact⟨hk,by simp[h]⟩
def af2 {a b:de} (h:lB a b=true) (ha:a.cm≠2) (hb:b.cm≠2):(a.cm=1/\b.cm≠1)\/(b.cm=1/\a.cm≠1):=by
 simp only[lB,ui,vB,Bool.or_eq_true,Bool.and_eq_true,beq_iff_eq,bne_iff_ne] at h;rcases h with((h|h)|h)|h
 .exact .inl ⟨h.1.1.1,h.1.1.2⟩
 .exact .inr ⟨h.1.1.1,h.1.1.2⟩
 .exact absurd h.1.1 ha
 exact absurd h.1.1 hb
def U9 {s:Server} {d:aw} {v:aA} (h:eG s d=true) (hv:v∈(ef s).waits) (hd:d∈v.aQ):eG (ef s) d=true:=by
 rcases Ub h with⟨x,hx,e⟩|h
 .exact KM ⟨x,Ti hx,e⟩
 refine LB (List.mem_filter.2 ⟨?_,Du.2 ⟨v,hv,hd⟩⟩);have:(ir s).ba=s.ba:=(KT _ s).2.2.2.2;rw[this];exact h
end Go.Proofs.YtldbakcpcfdlaaaGreat

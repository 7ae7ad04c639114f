/- Part 9: rules of the proofs. -/
import Derived.ProofKit
import Derived.OpenShut
import Derived.Deep.DeepHandedRow
import Derived.Deep.Slices
import Derived.Lib.LaidTab
import Derived.LaidSub
import Derived.Carry
import Derived.Test.YtdanidpleofjgaaGreatP08
set_option linter.all false
namespace Go.Proofs.YtdanidpleofjgaaGreat
open Go Go.RowKit Go.ChangeShapes Go.WideShapes Go.ChangeAt
section
variable {H:Type} {enc:TypeId×Value->H} {P:Program}
def nd (W:World):Im:=λb=>match W.heap[b]? with
 |some (.cells cs _ _)=>some cs
 |_=>none
def yj (W:World):eB W (nd W):=λb cs e=>by
 unfold nd at e;split at e
 .rename_i jN T fr h;cases e;exact⟨T,fr,h⟩
 cases e
def Y1 {W:World} {b:Nat} {cs:Array Value} {T:TypeId} {fr:Nat×Nat} (h:W.heap[b]?=some (.cells cs T fr)):nd W b=some cs:=by unfold nd;rw[h]
def OZ {W:World} {a:Addr} {v:Value} (h:W.cell? a=some v):a.spot=none/\∃cs T fr,W.heap[a.block]?=some (.cells cs T fr)/\cs[a.off]?=some v:=by
 have U:=World.cell?_spot h;refine⟨U,?_⟩;unfold World.cell? at h;rw[U] at h;split at h
 .rename_i cs T fr he;exact⟨cs,T,fr,he,by simpa using h⟩
 simp at h
def Y2 {W:World} {base:Nat} {a:Addr} {n:Nat} {jN:List Value} {cs:Array Value} {T:TypeId} {fr:Nat×Nat} (h:W.cells? base a n=some jN) (ha:W.heap[a.block]?=some (.cells cs T fr)):(cs.toList.drop a.off).take n=jN:=by
 obtain⟨_,hl,hc⟩:=World.cells?_some h;apply List.ext_getElem?;intro i;rw[List.getElem?_take];split
 .rename_i hi;rw[<-hc i hi,List.getElem?_drop];obtain⟨v,hv⟩:∃v,jN[i]?=some v:=⟨jN[i]'om,by simp[hl,hi]⟩
  obtain⟨_,Y3,T2,fr2,h2,h3⟩:=OZ ((hc i hi).trans hv);have hb:(a.add i).block=a.block:=by unfold Addr.add;split<;>rfl
  have ho:(a.add i).off=a.off+i:=by unfold Addr.add;split<;>simp_all
  rw[hb,ha] at h2;cases h2;rw[hc i hi,hv,<-ho];simpa using h3
 rename_i hi;rw[List.getElem?_eq_none om]
def yk {f:Func} {s:ChangeSpec} {apart fresh handsOn again:Bool} {W W':World} {args:Array Value} {v:Value} {ds gs:List (DataW H)} {before pa pv:List MemPlace}
 (hW:DataW.Whole enc P f.params.toList s.vars apart W args.toList ds gs before)
 (O0:∀(b:Nat) (sp:Nat->Bool) (hd:Bool),DataW.TrodAll enc P W' b sp hd f.resultTypes.toList (v.resultList f.resultTypes.size) (s.fn H (ds++gs)).results [])
 (iN:∀sp:Nat->Bool,(∀p∈before,sp p.block=true)->DataW.TrodAll enc P W' 0 sp true f.params.toList args.toList (s.fn H (ds++gs)).args pa)
 (O1:∀sp:Nat->Bool,(∀p∈before,sp p.block=true)->DataW.TrodVars enc P W' sp s.vars (s.fn H (ds++gs)).vars pv)
 (D0:before=pa++pv) (hb:Below W.heap.size W W')
 (an:∀(j:Nat) (t:TypeId) (r:Value),f.resultTypes[j]?=some t->(v.resultList f.resultTypes.size)[j]?=some r->Value.okWide P W' .any 0 t r):
 s.post enc P f apart fresh handsOn again W args v W':=by
 have bw:=λp hp=>hW.lt p hp;have hold:∀p∈before,(λb=>decide (b<W.heap.size)) p.block=true:=λp hp=>by simpa using bw p hp
 refine⟨ds,gs,before,[],pa,pv,hW,O0 _ _ _,iN _ hold,O1 _ hold,World.keptBut_mono (λp hp=>⟨hp,?_⟩) (hb.frame (·∈before)),λ_=>?_⟩
 .rw[D0,List.mem_append] at hp;exact Or.inr hp
 obtain⟨_,_,_,_,_,hz,hn⟩:=hW;refine⟨an,_,_,([]++pa)++pv,⟨[]++pa,pv,ChangeShapes.trodAll_append (iN _ (λ_ _=>rfl)) (O0 _ _ _),O1 _ (λ_ _=>rfl),rfl,?_,?_⟩,?_⟩
 .intro b off hp;have Ic:MemPlace.cell b off∈before:=by rw[D0];simpa using hp
  rw[hb.frozen (p:=⟨b,off,none⟩) (bw _ Ic)];exact hz b off Ic
 .intro ha;have:=hn ha;rw[D0] at this;simpa using this
 intro p hp _;rw[D0];simpa using hp
end
section
variable {H:Type} {enc:TypeId×Value->H} {P:Program} {W:World}
def Bv {α:Type} (enc:TypeId×Value->H) (P:Program) (W:World) (cf:α->List AV) (Fit:α->Prop) (t:TypeId):Prop:=
 ∀n cs x,DataW.trod enc P W 0 (λ_=>true) true n t cs=some x->∃y:α,bO (nd W) (cf y) cs/\Fit y
def Y4 {α:Type} [Inhabited α] {cf:α->List AV} {Fit:α->Prop} {sz:Nat} {t e:TypeId} (hu:P.underlying t=some (.slice e)) (hc:P.cellsOf e=sz) (h0:0<sz) (cT:∀y,(cf y).length=sz) (ho:Bv enc P W cf Fit e):
 Bv enc P W (λl:List α=>[AV.rows sz (l.map cf)]) (λl=>∀y∈l,Fit y) t:=λn cs x h=>by
 rcases Deep.open_slice hu h with⟨rfl,_⟩|⟨a,len,cap,m,n,D,Pl,rfl,_,Y5,AQ,hm,_,D1⟩
 .exact⟨[],⟨⟨fB _ _,rfl⟩,trivial⟩,by simp⟩
 have hle:len<=m:=by rw[hm];split<;>omega
 rw[hc] at D1;have ch:∀i:Nat,∃y:α,i<len->(∃jN,W.cells? 0 (a.add (i*sz)) sz=some jN/\bO (nd W) (cf y) jN)/\Fit y:=λi=>by
  by_cases hi:i<len
  .obtain⟨jN,h1,h2⟩:=D1 i om;obtain⟨y,hy,hf⟩:=ho _ _ _ h2;exact⟨y,λ_=>⟨⟨jN,h1,hy⟩,hf⟩⟩
  exact⟨default,λh=>absurd h hi⟩
 let g:Nat->α:=λi=>(ch i).choose;have hg:∀i,i<len->(∃jN,W.cells? 0 (a.add (i*sz)) sz=some jN/\bO (nd W) (cf (g i)) jN)/\Fit (g i):=λi=>(ch i).choose_spec;have kr:∀r∈((List.range len).map g).map cf,r.length=sz:=λr hr=>by
  simp only[List.map_map,List.mem_map] at hr;obtain⟨i,_,rfl⟩:=hr;exact cT _
 refine⟨(List.range len).map g,⟨⟨⟨some a,cap,by simp,by simpa using Y5,AQ,kr,?_,(λh=>by cases h)⟩,rfl⟩,trivial⟩,?_⟩
 .rcases Nat.eq_zero_or_pos len with hz|mK
  .left;rw[hz];rfl
  right;obtain⟨⟨Y6,H6,hh0⟩,_⟩:=hg 0 mK;obtain⟨_,qT,mr⟩:=World.cells?_some H6;have O2:=mr 0 om;obtain⟨u,Y7⟩:∃u,Y6[0]?=some u:=⟨_,List.getElem?_eq_getElem om⟩;rw[Y7] at O2;obtain⟨O3,cs,T,fr,hb,_⟩:=OZ O2;have D2:((a.add (0*sz)).add 0)=a:=by simp[Addr.add]
  rw[D2] at hb O3;refine⟨a,rfl,O3,cs,Y1 hb,?_⟩;have key:∀k,k<=len->bO (nd W) (((List.range k).map g).map cf).flatten ((cs.toList.drop a.off).take (k*sz)):=by
   intro k;induction k with
   |zero=>intro _;simp[bO]
   |succ k ih=>
    intro hk
    have h1:=ih om
    obtain⟨⟨jN,Y8,Y9⟩,_⟩:=hg k om
    have tM:(a.add (k*sz)).block=a.block:=by unfold Addr.add;split<;>rfl
    have Za:(a.add (k*sz)).off=a.off+k*sz:=by unfold Addr.add;split<;>simp_all
    have h2:=Y2 Y8 (by rw[tM];exact hb)
    rw[Za] at h2
    rw[List.range_succ,List.map_append,List.map_append,List.flatten_append,Nat.succ_mul]
    have e3:(cs.toList.drop a.off).take (k*sz+sz)=(cs.toList.drop a.off).take (k*sz)++jN:=by
     rw[<-h2,<-List.drop_drop,List.take_add]
    rw[e3]
    refine h1.append ?_
    simpa using Y9
  have:=key len (Nat.le_refl _);have hlen:(((List.range len).map g).map cf).flatten.length=len*sz:=by
   rw[hZ kr];simp
  rwa[hlen]
 intro y hy;obtain⟨i,hi,rfl⟩:=List.mem_map.1 hy;exact(hg i (by simpa using hi)).2
end
section
variable {H:Type} {enc:TypeId×Value->H} {P:Program} {W:World}
def Zb {v:Value} (h:∀cs,v≠.agg cs):v.cells.toList=[v]:=by
 cases v<;>first|rfl|exact absurd rfl (h _)
def wu {α:Type} {cf:α->AV} {Fit:α->Prop} {t base:Nat} {v:Value} {d:DataW H} {ps:List MemPlace} (ho:Bv enc P W (λy=>[cf y]) Fit t) (aX:∀cs,v≠.agg cs) (h:DataW.Trod enc P W 0 (λ_=>true) true t v d ps):
 ∃y,(cf y).h (nd W) v/\Fit y:=by
 obtain⟨fuel,h⟩:=h;rw[Zb aX] at h;obtain⟨y,hy,hf⟩:=ho _ _ _ h;exact⟨y,hy.1.1,hf⟩
def wx {t base e:Nat} {v:Value} (hu:P.underlying t=some (.slice e)) (an:Value.okWide P W .any base t v):∀cs,v≠.agg cs:=by
 rintro cs rfl;simp[Value.okWide,hu,Cell.okWide,Cell.ok] at an
end
end Go.Proofs.YtdanidpleofjgaaGreat
set_option linter.all false
set_option maxRecDepth 100000
set_option maxHeartbeats 4000000
namespace Go.Proofs.YtdanidpleofjgaaGreat
open Go Go.RowKit Tryz
attribute [local irreducible] wpList Code.wp Ok
def jE (n a b:Int):
 Fn prog 46 [AV.int n,AV.int a,AV.int b] (AV.bool (aH n a b)):=by
 refine Fn.go 15 func46 ntmps46 (λW I a U=>?_);refine wX λI a w U=>?_;refine U.rt ?_;exact bP (by simp only[aH,ge_iff_le])
def sG (n:Int):
 Fn prog 88 [AV.int n] (AV.bool (cr n)):=by
 refine Fn.go 5 func88 ntmps88 (λW I a U=>?_);refine aG λI a w U=>?_;refine U.o (.cl (jE ..)) λU=>?_;refine bh ?_;rfl
def vf (n:Int):
 Fn prog 97 [AV.int n] (AV.bool (c7 n)):=by
 refine Fn.go 5 func97 ntmps97 (λW I a U=>?_);refine aG λI a w U=>?_;refine U.o (.cl (jE ..)) λU=>?_;refine bh ?_;rfl
def w5 (s:cx):
 Fn prog 99 [s.av] (AV.bool (di s)):=by
 refine Fn.go 11 func99 ntmps99 (λW I a U=>?_);refine bB λI a w U=>?_;refine U.o (.cl (jE ..)) λU=>?_;refine bm λI a w U=>?_;refine U.q .T (.cl (sG ..)) λU=>?_;refine dG ?_;rfl
def yS (s t:cx):
 Fn prog 150 [s.av,t.av] (AV.bool (bV s t)):=by
 refine Fn.go 24 func150 ntmps150 (λW I a U=>?_);refine Bp λI a w U=>?_;refine U.rt ?_;rfl
def lh (l:List au) (k:Nat):Int:=if k=0 then-1 else(ab l (k-1)).key
def O4 (l:List au) (k:Nat):lh l (k+1)=(ab l k).key:=by simp[lh]
def O5 {l:List au} {k:Nat} (hk:k<l.length):eb (lh l k) (l.drop k)=(aH (ab l k).key (lh l k+1) 5&&di (ab l k).aq&&eb (lh l (k+1)) (l.drop (k+1))):=by
 rw[mh hk,O4];rfl
def O6 {l:List au} {k:Nat} (hp:-1<=lh l k):(!c7 (ab l k).key||!di (ab l k).aq||(decide (0<(k:Int))&&decide ((ab l k).key<=(ab l ((k:Int)-1).toNat).key)))=!(aH (ab l k).key (lh l k+1) 5&&di (ab l k).aq):=by
 rw[show((k:Int)-1).toNat=k-1 from by omega];rcases Nat.eq_zero_or_pos k with rfl|h
 .simp[lh,c7,aH]
 have h0:k≠0:=by omega
 have Ic:-1<=(ab l (k-1)).key:=by simpa[lh,h0] using hp
 have h1:(0<(k:Int)):=by omega
 simp only[lh,if_neg h0,c7,aH];generalize (ab l (k-1)).key=p at*;generalize (ab l k).key=q at*;rw[Bool.eq_iff_iff];cases di (ab l k).aq<;>simp[h1]<;>omega
def Zc {l:List au} {k:Nat} (hk:k<l.length) (hd:bU l=eb (lh l k) (l.drop k)) (hp:-1<=lh l k) (h:(aH (ab l k).key (lh l k+1) 5&&di (ab l k).aq)=true):
 k+1<=l.length/\bU l=eb (lh l (k+1)) (l.drop (k+1))/\-1<=lh l (k+1):=by
 refine⟨hk,by rw[hd,O5 hk,h,Bool.true_and],?_⟩;rw[O4];simp[aH] at h;omega
def Zd {l:List au} {k:Nat} (hk:k<l.length) (hd:bU l=eb (lh l k) (l.drop k)) (h:(aH (ab l k).key (lh l k+1) 5&&di (ab l k).aq)=false):false=bU l:=by
 rw[hd,O5 hk,h,Bool.false_and]
def sH (l:List au):
 Fn prog 50 [bE l] (AV.bool (bU l)):=by
 refine Fn.go 44 func50 ntmps50 (λW I a U=>?_);have hle:=U.eC (t:=0) rfl;refine aF λI a w U=>?_;refine St.lo (σ:=Nat) (run 42 2 []) ⟨λk=>[(3,AV.int k)],λk=>[],λk=>k<=l.length/\bU l=eb (lh l k) (l.drop k)/\-1<=lh l k⟩ (λk=>l.length-k) 0 U ?aJ ?bF;case aJ=>exact⟨by simp,rfl,by simp[lh]⟩
 rintro k I a w an U;obtain⟨hk,hd,hp⟩:=an;refine aZ λI a w U=>?_;refine cz (λae=>?_) λae=>?_
 .refine zt ?_;refine U.dk ?_;refine gF ?_;refine .o (.c1 (vf ..)) ?_;refine mo ?_;refine .q .F (.cl (w5 ..)) ?_;refine nT ?_;refine ef ?_;refine .nil ?_;intro I a w U;refine bj ?_;refine U.cd (λah=>?_) λah=>?_
  .rw[O6 hp] at ah;simp only[Bool.not_eq_true'] at ah;refine bh ?_;exact bP (Zd ae hd ah)
  rw[O6 hp] at ah;simp only[Bool.not_eq_false'] at ah;refine aR λI a w U=>?_;exact U.ag (k+1) (Zc ae hd hp ah)
 refine zt ?_;refine bh ?_;exact bP (by rw[hd,List.drop_eq_nil_of_le om];rfl)
def nt {b:Bool} (h:(!b)=true):b=false:=by simpa using h
def nf {b:Bool} (h:(!b)=false):b=true:=by simpa using h
def D3 (l:List au) (k:Nat) (t:Int):decide (t<=(ab l k).aq.time)=!decide ((ab l k).aq.time<t):=by
 rw[Bool.eq_iff_iff];simp
def Ie (v:aE):Bool:=c7 v.key&&di v.aq&&aH v.val 0 9999&&fF v.ao&&aH v.call 1 99&&bU v.aQ
def D4 (v:aE):(!c7 v.key||!di v.aq||!aH v.val 0 9999||!fF v.ao||!aH v.call 1 99||!bU v.aQ)=!Ie v:=by simp[Ie]
def yT (v:aE):dL v=(Ie v&&Dx v.aq.time v.aQ):=rfl
def If (v:aE):
 Fn prog 151 [v.av] (AV.bool (dL v)):=by
 refine Fn.go 56 func151 ntmps151 (λW I a U=>?_);have Ig:v.aQ.length<=9223372036854775807:=by
  obtain⟨cs,_,hc⟩:=U.env 0 _ rfl;obtain⟨u,_,hu,_⟩:=hc.get (i:=6) rfl;exact AX hu
 refine bB λI a w U=>?_;refine U.o (.c1 (vf ..)) λU=>?_;refine bB λI a w U=>?_;refine U.q .F (.cl (w5 ..)) λU=>?_;refine cj λI a w U=>?_;refine U.q .F (.cl (jE ..)) λU=>?_;refine cj λI a w U=>?_;refine U.q .F (.cl (jE ..)) λU=>?_;refine cj λI a w U=>?_;refine U.q .F (.cl (jE ..)) λU=>?_;refine cj λI a w U=>?_;refine U.q .F (.cl (sH ..)) λU=>?_;refine aF λI a w U=>?_;refine U.cd (λae=>?_) λae=>?_
 .rw[show aH v.ao 0 1=fF v.ao from rfl,D4 v] at ae;replace ae:=nt ae;refine bh ?_;exact bP (by rw[yT,ae];rfl)
 rw[show aH v.ao 0 1=fF v.ao from rfl,D4 v] at ae;replace ae:=nf ae;refine aB λI a w U=>?_;refine St.lo (σ:=Nat) (run 2 2 (run 18 38 [])) ⟨λk=>[(3,AV.int k)],λk=>[],λk=>k<=v.aQ.length/\∀i,i<k->(λi=>decide ((ab v.aQ i).aq.time<v.aq.time)) i=true⟩ (λk=>v.aQ.length-k) 0 U ?aJ ?bF;case aJ=>exact⟨by simp,λi hi=>by omega⟩
 rintro k I a w an U;obtain⟨hk,aT⟩:=an;have hle:v.aQ.length<=9223372036854775807:=Ig;refine cI λI a w U=>?_;refine cz (λah=>?_) λah=>?_
 .refine aB λI a w U=>?_;refine U.cd (λar=>?_) λar=>?_
  .rw[D3] at ar;replace ar:=nt ar;refine bh ?_;exact bP (by rw[yT,ae];exact(fY (f:=(λi=>decide ((ab v.aQ i).aq.time<v.aq.time))) ah ar).symm)
  rw[D3] at ar;replace ar:=nf ar;refine aR λI a w U=>?_;exact U.ag (k+1) (⟨by omega,gI aT ar⟩)
 refine zt ?_;refine bh ?_;exact bP (by rw[yT,ae];exact(fP aT om).symm)
def O7 (a b:aE):
 Fn prog 152 [a.av,b.av] (AV.bool (fG a b)):=by
 refine Fn.go 24 func152 ntmps152 (λW I a U=>?_);refine Oy λI a w U=>?_;refine U.q .T2 (.cl (yS ..)) λU=>?_;refine tJ ?_;rfl
def df {α:Type} (p:α->Bool) (l:List α):Int:=match l.findIdx? p with
 |some k=>k
 |none=>-1
def mQ {α:Type} [Inhabited α] {p:α->Bool} {l:List α} {k:Nat} (hk:k<l.length) (h:∀i,i<k->p (ab l i)=false) (hp:p (ab l k)=true):df p l=k:=by
 have:l.findIdx? p=some k:=by
  rw[List.findIdx?_eq_some_iff_getElem];refine⟨hk,by simpa[ab,hk] using hp,λj hj=>?_⟩;have:=h j hj;have lT:j<l.length:=by omega
  simpa[ab,lT] using this
 unfold df;rw[this]
def lY (d:au) (v:aE):Bool:=decide (v.aU=d)
def placeOf (l:List aE) (d:au):Int:=df (lY d) l
def mR (a b:Int):Bool:=decide (a<b)
def lj (l:List Int):Bool:=de l.length (fl c7 mR l)
def sI:aE:=⟨0,⟨0,0⟩,0,0,0,[]⟩
def mS (v u:aE):Bool:=decide (v=u)
def O8 (l:List Int) (k:Nat):(!c7 (ab l k)||(decide (0<(k:Int))&&decide (ab l k<=ab l ((k:Int)-1).toNat)))=!fl c7 mR l k:=by
 rw[<-uW];have e:decide (ab l k<=ab l ((k:Int)-1).toNat)=!mR (ab l ((k:Int)-1).toNat) (ab l k):=by rw[Bool.eq_iff_iff];simp[mR]
 rw[e]
def w6 (a:Answer):Bool:=if a.yes then dL a.bl&&(a.bl.key==a.key) else c7 a.key&&mS a.bl sI
def w7 (c:Call):Bool:=!(decide ((c.keys.length:Int)<1)||decide (3<(c.keys.length:Int))||((c.kind==1)&&((c.keys.length:Int) !=1)))&&lj c.keys
def O9:∀(l:List au) (last:Int),eb last l=true->last<=5->(l.length:Int)<=5-last
 |[],last,_,h=>by simp;omega
 |d::r,last,h,hl=>by
  simp only[eb,Bool.and_eq_true,aH,decide_eq_true_eq] at h;have:=O9 r d.key h.2 om;simp;omega
def Ze {l:List au} (h:bU l=true):l.length<=6:=by
 have:=O9 l (-1) h om;omega
def kz (l:List aE) (d:au):Option aE:=if cg l=true/\0<=placeOf l d then some (ab l (placeOf l d).toNat) else none
def Zf {l:List aE} {d:au} {k:Nat} (hc:cg l=true) (hk:k<l.length) (h:∀i,i<k->lY d (ab l i)=false) (hp:lY d (ab l k)=true):kz l d=some (ab l k):=by
 have e:placeOf l d=k:=mQ hk h hp;unfold kz;rw[e,if_pos ⟨hc,by omega⟩];rfl
def D5 (s:cx):([s.time,s.site]==[0,0])=dS s:=by
 rw[Bool.eq_iff_iff];simp[dS]
def Zg (x:Answer) (h:x.yes=false):(c7 x.key&&(x.bl.key==0)&&(x.bl.val==0)&&(x.bl.ao==0)&&(x.bl.call==0)&&dS x.bl.aq&&((x.bl.aQ.length:Int)==0))=w6 x:=by
 unfold w6;rw[h];obtain⟨k,y,⟨vk,⟨t,s⟩,vv,vc,vl,vd⟩⟩:=x;simp only[mS,sI,dS];rw[Bool.eq_iff_iff];simp;constructor
 .rintro⟨⟨⟨⟨⟨⟨h1,h2⟩,h3⟩,h4⟩,h5⟩,h6⟩,h7⟩;exact⟨h1,h2,h6,h3,h4,h5,h7⟩
 rintro⟨h1,h2,h6,h3,h4,h5,h7⟩;exact⟨⟨⟨⟨⟨⟨h1,h2⟩,h3⟩,h4⟩,h5⟩,h6⟩,h7⟩
def Zh (x:Answer):
 Fn prog 147 [x.av] (AV.bool (w6 x)):=by
 refine Fn.go 55 func147 ntmps147 (λW I a U=>?_);refine cI λI a w U=>?_;refine cz (λae=>?_) λae=>?_
 .refine aG λI a w U=>?_;refine U.alloc rfl bQ dO λb3 I a w U=>?_;refine aB λI a w U=>?_;obtain⟨I,U⟩:=U.fb 0 3;refine aG λI a w U=>?_;refine U.o (.c1 (vf ..)) λU=>?_;refine OA λI a w U=>?_;refine U.q .T (.bd ke bc.nil) λU=>?_;refine U.q .T (nj [_,_] [_,_] nU rfl rfl .ag .ag) λU=>?_;refine py λI a w U=>?_;refine U.rt ?_;exact bP (by rw[<-Zg x ae,<-D5])
 refine aG λI a w U=>?_;refine U.o (.c1 (If ..)) λU=>?_;refine pz λI a w U=>?_;refine U.rt ?_;exact bP (by unfold w6;rw[ae];rfl)
end Go.Proofs.YtdanidpleofjgaaGreat

/- Part 9: rules of the proofs. -/
import Derived.ProofKit
import Derived.OpenShut
import Derived.Deep.DeepHandedRow
import Derived.Deep.Slices
import Derived.Lib.LaidTab
import Derived.LaidSub
import Derived.Carry
import Derived.Test.YtdanidpleofjgaaGreatP08
set_option linter.all false
namespace Go.Proofs.YtdanidpleofjgaaGreat
open Go Go.RowKit Go.ChangeShapes Go.WideShapes Go.ChangeAt
section
variable {H:Type} {enc:TypeId×Value->H} {P:Program}
def lS (W:World):Im:=λb=>match W.heap[b]? with
 |some (.cells cs _ _)=>some cs
 |_=>none
def vD (W:World):dT W (lS W):=λb cs e=>by
 unfold lS at e;split at e
 .rename_i jo T fr h;cases e;exact⟨T,fr,h⟩
 cases e
def XO {W:World} {b:Nat} {cs:Array Value} {T:TypeId} {fr:Nat×Nat} (h:W.heap[b]?=some (.cells cs T fr)):lS W b=some cs:=by unfold lS;rw[h]
def Oc {W:World} {a:Addr} {v:Value} (h:W.cell? a=some v):a.spot=none/\∃cs T fr,W.heap[a.block]?=some (.cells cs T fr)/\cs[a.off]?=some v:=by
 have U:=World.cell?_spot h;refine⟨U,?_⟩;unfold World.cell? at h;rw[U] at h;split at h
 .rename_i cs T fr he;exact⟨cs,T,fr,he,by simpa using h⟩
 simp at h
def XP {W:World} {base:Nat} {a:Addr} {n:Nat} {jo:List Value} {cs:Array Value} {T:TypeId} {fr:Nat×Nat} (h:W.cells? base a n=some jo) (ha:W.heap[a.block]?=some (.cells cs T fr)):(cs.toList.drop a.off).take n=jo:=by
 obtain⟨_,hl,hc⟩:=World.cells?_some h;apply List.ext_getElem?;intro i;rw[List.getElem?_take];split
 .rename_i hi;rw[<-hc i hi,List.getElem?_drop];obtain⟨v,hv⟩:∃v,jo[i]?=some v:=⟨jo[i]'om,by simp[hl,hi]⟩
  obtain⟨_,XQ,T2,fr2,h2,h3⟩:=Oc ((hc i hi).trans hv);have hb:(a.add i).block=a.block:=by unfold Addr.add;split<;>rfl
  have ho:(a.add i).off=a.off+i:=by unfold Addr.add;split<;>simp_all
  rw[hb,ha] at h2;cases h2;rw[hc i hi,hv,<-ho];simpa using h3
 rename_i hi;rw[List.getElem?_eq_none om]
def vE {f:Func} {s:ChangeSpec} {apart fresh handsOn again:Bool} {W W':World} {args:Array Value} {v:Value} {ds gs:List (DataW H)} {before pa pv:List MemPlace}
 (hW:DataW.Whole enc P f.params.toList s.vars apart W args.toList ds gs before)
 (Od:∀(b:Nat) (sp:Nat->Bool) (hd:Bool),DataW.TrodAll enc P W' b sp hd f.resultTypes.toList (v.resultList f.resultTypes.size) (s.fn H (ds++gs)).results [])
 (gK:∀sp:Nat->Bool,(∀p∈before,sp p.block=true)->DataW.TrodAll enc P W' 0 sp true f.params.toList args.toList (s.fn H (ds++gs)).args pa)
 (Oe:∀sp:Nat->Bool,(∀p∈before,sp p.block=true)->DataW.TrodVars enc P W' sp s.vars (s.fn H (ds++gs)).vars pv)
 (Dq:before=pa++pv) (hb:Below W.heap.size W W')
 (al:∀(j:Nat) (t:TypeId) (r:Value),f.resultTypes[j]?=some t->(v.resultList f.resultTypes.size)[j]?=some r->Value.okWide P W' .any 0 t r):
 s.post enc P f apart fresh handsOn again W args v W':=by
 have bK:=λp hp=>hW.lt p hp;have hold:∀p∈before,(λb=>decide (b<W.heap.size)) p.block=true:=λp hp=>by simpa using bK p hp
 refine⟨ds,gs,before,[],pa,pv,hW,Od _ _ _,gK _ hold,Oe _ hold,World.keptBut_mono (λp hp=>⟨hp,?_⟩) (hb.frame (·∈before)),λ_=>?_⟩
 .rw[Dq,List.mem_append] at hp;exact Or.inr hp
 obtain⟨_,_,_,_,_,hz,hn⟩:=hW;refine⟨al,_,_,([]++pa)++pv,⟨[]++pa,pv,ChangeShapes.trodAll_append (gK _ (λ_ _=>rfl)) (Od _ _ _),Oe _ (λ_ _=>rfl),rfl,?_,?_⟩,?_⟩
 .intro b off hp;have Hc:MemPlace.cell b off∈before:=by rw[Dq];simpa using hp
  rw[hb.frozen (p:=⟨b,off,none⟩) (bK _ Hc)];exact hz b off Hc
 .intro ha;have:=hn ha;rw[Dq] at this;simpa using this
 intro p hp _;rw[Dq];simpa using hp
end
section
variable {H:Type} {enc:TypeId×Value->H} {P:Program} {W:World}
def AZ {α:Type} (enc:TypeId×Value->H) (P:Program) (W:World) (cf:α->List AV) (Fit:α->Prop) (t:TypeId):Prop:=
 ∀n cs x,DataW.trod enc P W 0 (λ_=>true) true n t cs=some x->∃y:α,bx (lS W) (cf y) cs/\Fit y
def XR {α:Type} [Inhabited α] {cf:α->List AV} {Fit:α->Prop} {sz:Nat} {t e:TypeId} (hu:P.underlying t=some (.slice e)) (hc:P.cellsOf e=sz) (h0:0<sz) (cN:∀y,(cf y).length=sz) (ho:AZ enc P W cf Fit e):
 AZ enc P W (λl:List α=>[AV.rows sz (l.map cf)]) (λl=>∀y∈l,Fit y) t:=λn cs x h=>by
 rcases Deep.open_slice hu h with⟨rfl,_⟩|⟨a,len,cap,m,n,D,Pl,rfl,_,XS,F5,hm,_,Dr⟩
 .exact⟨[],⟨⟨eW _ _,rfl⟩,trivial⟩,by simp⟩
 have hle:len<=m:=by rw[hm];split<;>omega
 rw[hc] at Dr;have ch:∀i:Nat,∃y:α,i<len->(∃jo,W.cells? 0 (a.add (i*sz)) sz=some jo/\bx (lS W) (cf y) jo)/\Fit y:=λi=>by
  by_cases hi:i<len
  .obtain⟨jo,h1,h2⟩:=Dr i om;obtain⟨y,hy,hf⟩:=ho _ _ _ h2;exact⟨y,λ_=>⟨⟨jo,h1,hy⟩,hf⟩⟩
  exact⟨default,λh=>absurd h hi⟩
 let g:Nat->α:=λi=>(ch i).choose;have hg:∀i,i<len->(∃jo,W.cells? 0 (a.add (i*sz)) sz=some jo/\bx (lS W) (cf (g i)) jo)/\Fit (g i):=λi=>(ch i).choose_spec;have jn:∀r∈((List.range len).map g).map cf,r.length=sz:=λr hr=>by
  simp only[List.map_map,List.mem_map] at hr;obtain⟨i,_,rfl⟩:=hr;exact cN _
 refine⟨(List.range len).map g,⟨⟨⟨some a,cap,by simp,by simpa using XS,F5,jn,?_,(λh=>by cases h)⟩,rfl⟩,trivial⟩,?_⟩
 .rcases Nat.eq_zero_or_pos len with hz|lU
  .left;rw[hz];rfl
  right;obtain⟨⟨XT,G6,hh0⟩,_⟩:=hg 0 lU;obtain⟨_,qj,mE⟩:=World.cells?_some G6;have Of:=mE 0 om;obtain⟨u,XU⟩:∃u,XT[0]?=some u:=⟨_,List.getElem?_eq_getElem om⟩;rw[XU] at Of;obtain⟨Og,cs,T,fr,hb,_⟩:=Oc Of;have Hd:((a.add (0*sz)).add 0)=a:=by simp[Addr.add]
  rw[Hd] at hb Og;refine⟨a,rfl,Og,cs,XO hb,?_⟩;have key:∀k,k<=len->bx (lS W) (((List.range k).map g).map cf).flatten ((cs.toList.drop a.off).take (k*sz)):=by
   intro k;induction k with
   |zero=>intro _;simp[bx]
   |succ k ih=>
    intro hk
    have h1:=ih om
    obtain⟨⟨jo,XV,XW⟩,_⟩:=hg k om
    have tl:(a.add (k*sz)).block=a.block:=by unfold Addr.add;split<;>rfl
    have XX:(a.add (k*sz)).off=a.off+k*sz:=by unfold Addr.add;split<;>simp_all
    have h2:=XP XV (by rw[tl];exact hb)
    rw[XX] at h2
    rw[List.range_succ,List.map_append,List.map_append,List.flatten_append,Nat.succ_mul]
    have e3:(cs.toList.drop a.off).take (k*sz+sz)=(cs.toList.drop a.off).take (k*sz)++jo:=by
     rw[<-h2,<-List.drop_drop,List.take_add]
    rw[e3]
    refine h1.append ?_
    simpa using XW
  have:=key len (Nat.le_refl _);have hlen:(((List.range len).map g).map cf).flatten.length=len*sz:=by
   rw[gM jn];simp
  rwa[hlen]
 intro y hy;obtain⟨i,hi,rfl⟩:=List.mem_map.1 hy;exact(hg i (by simpa using hi)).2
end
section
variable {H:Type} {enc:TypeId×Value->H} {P:Program} {W:World}
def XY {v:Value} (h:∀cs,v≠.agg cs):v.cells.toList=[v]:=by
 cases v<;>first|rfl|exact absurd rfl (h _)
def ug {α:Type} {cf:α->AV} {Fit:α->Prop} {t base:Nat} {v:Value} {d:DataW H} {ps:List MemPlace} (ho:AZ enc P W (λy=>[cf y]) Fit t) (aZ:∀cs,v≠.agg cs) (h:DataW.Trod enc P W 0 (λ_=>true) true t v d ps):
 ∃y,(cf y).h (lS W) v/\Fit y:=by
 obtain⟨fuel,h⟩:=h;rw[XY aZ] at h;obtain⟨y,hy,hf⟩:=ho _ _ _ h;exact⟨y,hy.1.1,hf⟩
def ui {t base e:Nat} {v:Value} (hu:P.underlying t=some (.slice e)) (al:Value.okWide P W .any base t v):∀cs,v≠.agg cs:=by
 rintro cs rfl;simp[Value.okWide,hu,Cell.okWide,Cell.ok] at al
end
end Go.Proofs.YtdanidpleofjgaaGreat
namespace Go.Proofs.YtdanidpleofjgaaGreat
open Go Go.RowKit
section
variable {P:Program} {c:Ctx} {I:Im} {H:List Own} {Γ:Env} {a:Act} {w:World} {Q:Exit->Act->World->Prop} {ops:Array Oper} {rest:List Oper} {E T ty:TypeId} {y z:Operand} {m:Nat} {zv:Value} {p:String} {af:Array Edge}
def St.Oh {b cap q sz i j n:Nat} {l:List (List AV)} {r lx:List AV} (k:Nat) (U:St c I H Γ a w) (hT:Ty P T true n m zv) (hy:At Γ true y (.val (.pointer (some ⟨b,q,none⟩)))) (hz:At Γ true z (.agg lx))
 (hk:H[k]?=some (Own.row (.slice (some ⟨b,0,none⟩) l.length cap) E sz l)) (hr:l[i]?=some r) (hq:q=i*sz+j) (hn:lx.length=n) (hj:Nat.ble (j+n) sz=true)
 (kk:∀a' w',St c I (H.set k (Own.row (.slice (some ⟨b,0,none⟩) l.length cap) E sz (l.set i (eI r j lx)))) Γ a' w'->wpList P ops Q rest a' w'):
 wpList P ops Q (⟨none,.store T y z,ty,p,af,none⟩::rest) a w:=by
 obtain⟨cs,hv,hl⟩:=hz I a U.env rfl;obtain⟨w',jd,bW⟩:=U.F9 (q:=q) (lx:=lx) (j:=j) (v:=a.eval z) k hT hk (by rw[hv];exact hl) hn hr hq (Nat.le_of_ble_eq_true hj);exact jc rfl (vL (hy I a U.env rfl) rfl jd (kk _ _ bW))
def bT.conv {α β:Type} {f:FuncId} {args:List AV} {h0:List Own} {ok:α->Prop} {h1:α->List Own} {res:α->AV} {Oi:β->Prop} {Gh:β->List Own} {pw:β->AV} (h:bT P f args h0 ok h1 res) (k:∀x,ok x->∃y,Oi y/\Gh y=h1 x/\pw y=res x):bT P f args h0 Oi Gh pw:=
 ⟨h.1,λI w vs hm ho ha=>(h.2 I w vs hm ho ha).mono λe w' he=>by
   cases e with
   |panicked _=>exact he.elim
   |outgrown=>exact he.elim
   |returned v=>
    obtain⟨x,I',hx,be,dO,hv⟩:=he
    obtain⟨y,hy,e1,e2⟩:=k x hx
    exact⟨y,I',hy,be,e1▸dO,e2▸hv⟩⟩
end
end Go.Proofs.YtdanidpleofjgaaGreat

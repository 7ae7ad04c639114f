/- Part 9: rules of the proofs. -/
import Derived.ProofKit
import Derived.OpenShut
import Derived.Deep.DeepHandedRow
import Derived.Deep.Slices
import Derived.Lib.LaidTab
import Derived.LaidSub
import Derived.Carry
import Derived.Test.YtldbakcpcfdlaaaGreatP08
set_option linter.all false
namespace Go.Proofs.YtldbakcpcfdlaaaGreat
open Go Go.RowKit Go.ChangeShapes Go.WideShapes Go.ChangeAt
section
variable {H:Type} {enc:TypeId×Value->H} {P:Program}
def nU (W:World):Im:=λb=>match W.heap[b]? with
 |some (.cells cs _ _)=>some cs
 |_=>none
def zW (W:World):eM W (nU W):=λb cs e=>by
 unfold nU at e;split at e
 .rename_i jh T fr h;cases e;exact⟨T,fr,h⟩
 cases e
def abP {W:World} {b:Nat} {cs:Array Value} {T:TypeId} {fr:Nat×Nat} (h:W.heap[b]?=some (.cells cs T fr)):nU W b=some cs:=by unfold nU;rw[h]
def Rt {W:World} {a:Addr} {v:Value} (h:W.cell? a=some v):a.spot=none/\∃cs T fr,W.heap[a.block]?=some (.cells cs T fr)/\cs[a.off]?=some v:=by
 have U:=World.cell?_spot h;refine⟨U,?_⟩;unfold World.cell? at h;rw[U] at h;split at h
 .rename_i cs T fr he;exact⟨cs,T,fr,he,by simpa using h⟩
 simp at h
def abQ {W:World} {base:Nat} {a:Addr} {n:Nat} {jh:List Value} {cs:Array Value} {T:TypeId} {fr:Nat×Nat} (h:W.cells? base a n=some jh) (ha:W.heap[a.block]?=some (.cells cs T fr)):(cs.toList.drop a.off).take n=jh:=by
 obtain⟨_,hl,hc⟩:=World.cells?_some h;apply List.ext_getElem?;intro i;rw[List.getElem?_take];split
 .rename_i hi;rw[<-hc i hi,List.getElem?_drop];obtain⟨v,hv⟩:∃v,jh[i]?=some v:=⟨jh[i]'om,by simp[hl,hi]⟩
  obtain⟨_,Ru,T2,fr2,h2,h3⟩:=Rt ((hc i hi).trans hv);have hb:(a.add i).block=a.block:=by unfold Addr.add;split<;>rfl
  have ho:(a.add i).off=a.off+i:=by unfold Addr.add;split<;>simp_all
  rw[hb,ha] at h2;cases h2;rw[hc i hi,hv,<-ho];simpa using h3
 rename_i hi;rw[List.getElem?_eq_none om]
def zX {f:Func} {s:ChangeSpec} {apart fresh handsOn again:Bool} {W W':World} {args:Array Value} {v:Value} {ds gs:List (DataW H)} {before pa pv:List MemPlace}
 (hW:DataW.Whole enc P f.params.toList s.vars apart W args.toList ds gs before)
 (Rv:∀(b:Nat) (sp:Nat->Bool) (hd:Bool),DataW.TrodAll enc P W' b sp hd f.resultTypes.toList (v.resultList f.resultTypes.size) (s.fn H (ds++gs)).results [])
 (jd:∀sp:Nat->Bool,(∀p∈before,sp p.block=true)->DataW.TrodAll enc P W' 0 sp true f.params.toList args.toList (s.fn H (ds++gs)).args pa)
 (Rw:∀sp:Nat->Bool,(∀p∈before,sp p.block=true)->DataW.TrodVars enc P W' sp s.vars (s.fn H (ds++gs)).vars pv)
 (FD:before=pa++pv) (hb:Below W.heap.size W W')
 (ao:∀(j:Nat) (t:TypeId) (r:Value),f.resultTypes[j]?=some t->(v.resultList f.resultTypes.size)[j]?=some r->Value.okWide P W' .any 0 t r):
 s.post enc P f apart fresh handsOn again W args v W':=by
 have bz:=λp hp=>hW.lt p hp;have hold:∀p∈before,(λb=>decide (b<W.heap.size)) p.block=true:=λp hp=>by simpa using bz p hp
 refine⟨ds,gs,before,[],pa,pv,hW,Rv _ _ _,jd _ hold,Rw _ hold,World.keptBut_mono (λp hp=>⟨hp,?_⟩) (hb.frame (·∈before)),λ_=>?_⟩
 .rw[FD,List.mem_append] at hp;exact Or.inr hp
 obtain⟨_,_,_,_,_,hz,hn⟩:=hW;refine⟨ao,_,_,([]++pa)++pv,⟨[]++pa,pv,ChangeShapes.trodAll_append (jd _ (λ_ _=>rfl)) (Rv _ _ _),Rw _ (λ_ _=>rfl),rfl,?_,?_⟩,?_⟩
 .intro b off hp;have J2:MemPlace.cell b off∈before:=by rw[FD];simpa using hp
  rw[hb.frozen (p:=⟨b,off,none⟩) (bz _ J2)];exact hz b off J2
 .intro ha;have:=hn ha;rw[FD] at this;simpa using this
 intro p hp _;rw[FD];simpa using hp
end
section
variable {H:Type} {enc:TypeId×Value->H} {P:Program} {W:World}
def CF {α:Type} (enc:TypeId×Value->H) (P:Program) (W:World) (cf:α->List AV) (Fit:α->Prop) (t:TypeId):Prop:=
 ∀n cs x,DataW.trod enc P W 0 (λ_=>true) true n t cs=some x->∃y:α,bN (nU W) (cf y) cs/\Fit y
def abR {α:Type} [Inhabited α] {cf:α->List AV} {Fit:α->Prop} {sz:Nat} {t e:TypeId} (hu:P.underlying t=some (.slice e)) (hc:P.cellsOf e=sz) (h0:0<sz) (db:∀y,(cf y).length=sz) (ho:CF enc P W cf Fit e):
 CF enc P W (λl:List α=>[AV.rows sz (l.map cf)]) (λl=>∀y∈l,Fit y) t:=λn cs x h=>by
 rcases Deep.open_slice hu h with⟨rfl,_⟩|⟨a,len,cap,m,n,D,Pl,rfl,_,hlc,mj,hm,_,FE⟩
 .exact⟨[],⟨⟨fN _ _,rfl⟩,trivial⟩,by simp⟩
 have hle:len<=m:=by rw[hm];split<;>omega
 rw[hc] at FE;have ch:∀i:Nat,∃y:α,i<len->(∃jh,W.cells? 0 (a.add (i*sz)) sz=some jh/\bN (nU W) (cf y) jh)/\Fit y:=λi=>by
  by_cases hi:i<len
  .obtain⟨jh,h1,h2⟩:=FE i om;obtain⟨y,hy,hf⟩:=ho _ _ _ h2;exact⟨y,λ_=>⟨⟨jh,h1,hy⟩,hf⟩⟩
  exact⟨default,λh=>absurd h hi⟩
 let g:Nat->α:=λi=>(ch i).choose;have hg:∀i,i<len->(∃jh,W.cells? 0 (a.add (i*sz)) sz=some jh/\bN (nU W) (cf (g i)) jh)/\Fit (g i):=λi=>(ch i).choose_spec;have kK:∀r∈((List.range len).map g).map cf,r.length=sz:=λr hr=>by
  simp only[List.map_map,List.mem_map] at hr;obtain⟨i,_,rfl⟩:=hr;exact db _
 refine⟨(List.range len).map g,⟨⟨⟨some a,cap,by simp,by simpa using hlc,mj,kK,?_,(λh=>by cases h)⟩,rfl⟩,trivial⟩,?_⟩
 .rcases Nat.eq_zero_or_pos len with hz|nq
  .left;rw[hz];rfl
  right;obtain⟨⟨cs0,JW,hh0⟩,_⟩:=hg 0 nq;obtain⟨_,rX,n7⟩:=World.cells?_some JW;have Rx:=n7 0 om;obtain⟨u,hu0⟩:∃u,cs0[0]?=some u:=⟨_,List.getElem?_eq_getElem om⟩;rw[hu0] at Rx;obtain⟨Ry,cs,T,fr,hb,_⟩:=Rt Rx;have FF:((a.add (0*sz)).add 0)=a:=by simp[Addr.add]
  rw[FF] at hb Ry;refine⟨a,rfl,Ry,cs,abP hb,?_⟩;have key:∀k,k<=len->bN (nU W) (((List.range k).map g).map cf).flatten ((cs.toList.drop a.off).take (k*sz)):=by
   intro k;induction k with
   |zero=>intro _;simp[bN]
   |succ k ih=>
    intro hk
    have h1:=ih om
    obtain⟨⟨jh,abV,hh'⟩,_⟩:=hg k om
    have vj:(a.add (k*sz)).block=a.block:=by unfold Addr.add;split<;>rfl
    have abX:(a.add (k*sz)).off=a.off+k*sz:=by unfold Addr.add;split<;>simp_all
    have h2:=abQ abV (by rw[vj];exact hb)
    rw[abX] at h2
    rw[List.range_succ,List.map_append,List.map_append,List.flatten_append,Nat.succ_mul]
    have e3:(cs.toList.drop a.off).take (k*sz+sz)=(cs.toList.drop a.off).take (k*sz)++jh:=by
     rw[<-h2,<-List.drop_drop,List.take_add]
    rw[e3]
    refine h1.append ?_
    simpa using hh'
  have:=key len (Nat.le_refl _);have hlen:(((List.range len).map g).map cf).flatten.length=len*sz:=by
   rw[iz kK];simp
  rwa[hlen]
 intro y hy;obtain⟨i,hi,rfl⟩:=List.mem_map.1 hy;exact(hg i (by simpa using hi)).2
end
section
variable {H:Type} {enc:TypeId×Value->H} {P:Program} {W:World}
def abY {v:Value} (h:∀cs,v≠.agg cs):v.cells.toList=[v]:=by
 cases v<;>first|rfl|exact absurd rfl (h _)
def zT {α:Type} {cf:α->AV} {Fit:α->Prop} {t base:Nat} {v:Value} {d:DataW H} {ps:List MemPlace} (ho:CF enc P W (λy=>[cf y]) Fit t) (aW:∀cs,v≠.agg cs) (h:DataW.Trod enc P W 0 (λ_=>true) true t v d ps):
 ∃y,(cf y).h (nU W) v/\Fit y:=by
 obtain⟨fuel,h⟩:=h;rw[abY aW] at h;obtain⟨y,hy,hf⟩:=ho _ _ _ h;exact⟨y,hy.1.1,hf⟩
def zV {t base e:Nat} {v:Value} (hu:P.underlying t=some (.slice e)) (ao:Value.okWide P W .any base t v):∀cs,v≠.agg cs:=by
 rintro cs rfl;simp[Value.okWide,hu,Cell.okWide,Cell.ok] at ao
end
end Go.Proofs.YtldbakcpcfdlaaaGreat
namespace Go.Proofs.YtldbakcpcfdlaaaGreat
open Go Go.RowKit
section
variable {P:Program} {c:Ctx} {I:Im} {H:List Own} {Γ:Env} {a:Act} {w:World} {Q:Exit->Act->World->Prop} {ops:Array Oper} {rest:List Oper} {E T ty:TypeId} {y z:Operand} {m:Nat} {zv:Value} {p:String} {af:Array Edge}
def dp.conv {α β:Type} {f:FuncId} {args:List AV} {h0:List Own} {ok:α->Prop} {h1:α->List Own} {res:α->AV} {Rz:β->Prop} {IW:β->List Own} {uP:β->AV} (h:dp P f args h0 ok h1 res) (k:∀x,ok x->∃y,Rz y/\IW y=h1 x/\uP y=res x):dp P f args h0 Rz IW uP:=
 ⟨h.1,λI w vs hm ho ha=>(h.2 I w vs hm ho ha).mono λe w' he=>by
   cases e with
   |panicked _=>exact he.elim
   |outgrown=>exact he.elim
   |returned v=>
    obtain⟨x,I',hx,bj,eH,hv⟩:=he
    obtain⟨y,hy,e1,e2⟩:=k x hx
    exact⟨y,I',hy,bj,e1▸eH,e2▸hv⟩⟩
end
end Go.Proofs.YtldbakcpcfdlaaaGreat

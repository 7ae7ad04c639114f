/- Part 9: rules of the proofs. -/
import Derived.ProofKit
import Derived.OpenShut
import Derived.Deep.DeepHandedRow
import Derived.Deep.Slices
import Derived.Lib.LaidTab
import Derived.LaidSub
import Derived.Carry
import Derived.RangeFuncNested
import Derived.RangeFuncLeaves
import Derived.Test.YtldbakcpcfdlaaaGreatU08
set_option linter.all false
namespace Go.Proofs.YtldbakcpcfdlaaaGreat
open Go Go.RowKit Go.ChangeShapes Go.WideShapes Go.ChangeAt
section
variable {H:Type} {enc:TypeId×Value->H} {P:Program}
def gz (W:World):Im:=λb=>match W.heap[b]? with
 |some (.cells cs _ _)=>some cs
 |_=>none
def zy (W:World):cx W (gz W):=λb cs e=>by
 unfold gz at e;split at e
 .rename_i dj T fr h;cases e;exact⟨T,fr,h⟩
 cases e
def Dy {W:World} {b:Nat} {cs:Array Value} {T:TypeId} {fr:Nat×Nat} (h:W.heap[b]?=some (.cells cs T fr)):gz W b=some cs:=by unfold gz;rw[h]
def wW {W:World} {a:Addr} {v:Value} (h:W.cell? a=some v):a.spot=none/\∃cs T fr,W.heap[a.block]?=some (.cells cs T fr)/\cs[a.off]?=some v:=by
 have U:=World.cell?_spot h;refine⟨U,?_⟩;unfold World.cell? at h;rw[U] at h;split at h
 .rename_i cs T fr he;exact⟨cs,T,fr,he,by simpa using h⟩
 simp at h
def Dz {W:World} {base:Nat} {a:Addr} {n:Nat} {dj:List Value} {cs:Array Value} {T:TypeId} {fr:Nat×Nat} (h:W.cells? base a n=some dj) (ha:W.heap[a.block]?=some (.cells cs T fr)):(cs.toList.drop a.off).take n=dj:=by
 obtain⟨_,hl,hc⟩:=World.cells?_some h;apply List.ext_getElem?;intro i;rw[List.getElem?_take];split
 .rename_i hi;rw[<-hc i hi,List.getElem?_drop];obtain⟨v,hv⟩:∃v,dj[i]?=some v:=⟨dj[i]'om,by simp[hl,hi]⟩
  obtain⟨_,DA,T2,JM,h2,h3⟩:=wW ((hc i hi).trans hv);have hb:(a.add i).block=a.block:=by unfold Addr.add;split<;>rfl
  have ho:(a.add i).off=a.off+i:=by unfold Addr.add;split<;>simp_all
  rw[hb,ha] at h2;cases h2;rw[hc i hi,hv,<-ho];simpa using h3
 rename_i hi;rw[List.getElem?_eq_none om]
def DB {n:Int} (h:(Lit.int .i64 n).wf=true):bD n:=by
 simp only[Lit.wf,Bool.and_eq_true,decide_eq_true_eq] at h;exact⟨h.1,h.2⟩
def zA {f:Func} {s:ChangeSpec} {apart fresh handsOn again:Bool} {W W':World} {args:Array Value} {v:Value} {ds gs:List (DataW H)} {before pa pv:List MemPlace}
 (hW:DataW.Whole enc P f.params.toList s.vars apart W args.toList ds gs before)
 (wX:∀(b:Nat) (sp:Nat->Bool) (hd:Bool),DataW.TrodAll enc P W' b sp hd f.resultTypes.toList (v.resultList f.resultTypes.size) (s.fn H (ds++gs)).results [])
 (eM:∀sp:Nat->Bool,(∀p∈before,sp p.block=true)->DataW.TrodAll enc P W' 0 sp true f.params.toList args.toList (s.fn H (ds++gs)).args pa)
 (wY:∀sp:Nat->Bool,(∀p∈before,sp p.block=true)->DataW.TrodVars enc P W' sp s.vars (s.fn H (ds++gs)).vars pv)
 (pb:before=pa++pv) (hb:Below W.heap.size W W')
 (ak:∀(j:Nat) (t:TypeId) (r:Value),f.resultTypes[j]?=some t->(v.resultList f.resultTypes.size)[j]?=some r->Value.okWide P W' .any 0 t r):
 s.post enc P f apart fresh handsOn again W args v W':=by
 have bH:=λp hp=>hW.lt p hp;have hold:∀p∈before,(λb=>decide (b<W.heap.size)) p.block=true:=λp hp=>by simpa using bH p hp
 refine⟨ds,gs,before,[],pa,pv,hW,wX _ _ _,eM _ hold,wY _ hold,World.keptBut_mono (λp hp=>⟨hp,?_⟩) (hb.frame (·∈before)),λ_=>?_⟩
 .rw[pb,List.mem_append] at hp;exact Or.inr hp
 obtain⟨_,_,_,_,_,hz,hn⟩:=hW;refine⟨ak,_,_,([]++pa)++pv,⟨[]++pa,pv,ChangeShapes.trodAll_append (eM _ (λ_ _=>rfl)) (wX _ _ _),wY _ (λ_ _=>rfl),rfl,?_,?_⟩,?_⟩
 .intro b off hp;have rZ:MemPlace.cell b off∈before:=by rw[pb];simpa using hp
  rw[hb.frozen (p:=⟨b,off,none⟩) (bH _ rZ)];exact hz b off rZ
 .intro ha;have:=hn ha;rw[pb] at this;simpa using this
 intro p hp _;rw[pb];simpa using hp
end
section
variable {H:Type} {enc:TypeId×Value->H} {P:Program} {W:World}
def fo {α:Type} (enc:TypeId×Value->H) (P:Program) (W:World) (cf:α->List AV) (Fit:α->Prop) (t:TypeId):Prop:=
 ∀n cs x,DataW.trod enc P W 0 (λ_=>true) true n t cs=some x->∃y:α,aC (gz W) (cf y) cs/\Fit y
def cW {t:TypeId} (ht:P.underlying t=some (.int .i64)):fo enc P W (λn:Int=>[AV.int n]) bD t:=λn cs x h=>by
 obtain⟨k,rfl,_,hw⟩:=DataW.trod_int ht h;exact⟨k,⟨⟨rfl,rfl⟩,trivial⟩,DB hw⟩
def pd {t:TypeId} (ht:P.underlying t=some .bool):fo enc P W (λb:Bool=>[AV.bool b]) (λ_=>True) t:=λn cs x h=>by
 obtain⟨k,rfl,_⟩:=DataW.trod_bool ht h;exact⟨k,⟨⟨rfl,rfl⟩,trivial⟩,trivial⟩
def jh {I:Im} {cs:List Value} {k:Nat} (h:cs.length=k):aC I [] (cs.drop k):=by
 rw[List.drop_eq_nil_of_le om];trivial
def bt {I:Im} {l1 l2:List AV} {cs:List Value} {o s:Nat} (h1:aC I l1 ((cs.drop o).take s)) (h2:aC I l2 (cs.drop (o+s))):aC I (l1++l2) (cs.drop o):=by
 have:=h1.append h2;rwa[<-List.drop_drop,List.take_append_drop] at this
def wZ (fs:Array Field) (i ft off:Nat):Bool:=match fs[i]? with
 |some f=>f.type==ft&&f.offset==off
 |none=>false
def part {α:Type} {cf:α->List AV} {Fit:α->Prop} {fs:Array Field} {m i ft off s:Nat} {cs:List Value} {xs:List (DataW H×List MemPlace)} (ho:fo enc P W cf Fit ft) (hl:xs.length=fs.size)
 (hf:∀(i:Nat) (f:Field),fs[i]?=some f->DataW.trod enc P W 0 (λ_=>true) true m f.type ((cs.drop f.offset).take (P.cellsOf f.type))=xs[i]?) (hb:wZ fs i ft off=true) (U:P.cellsOf ft=s):
 ∃y:α,aC (gz W) (cf y) ((cs.drop off).take s)/\Fit y:=by
 unfold wZ at hb;split at hb
 .rename_i f w0;rw[Bool.and_eq_true,beq_iff_eq,beq_iff_eq] at hb;have hi:i<fs.size:=(Array.getElem?_eq_some_iff.1 w0).1;have:=hf i f w0;rw[List.getElem?_eq_getElem om,hb.1,hb.2,U] at this;exact ho _ _ _ this
 cases hb
def ey {α:Type} [Inhabited α] {cf:α->List AV} {Fit:α->Prop} {sz:Nat} {t e:TypeId} (hu:P.underlying t=some (.slice e)) (hc:P.cellsOf e=sz) (h0:0<sz) (bf:∀y,(cf y).length=sz) (ho:fo enc P W cf Fit e):
 fo enc P W (λl:List α=>[AV.rows sz (l.map cf)]) (λl=>∀y∈l,Fit y) t:=λn cs x h=>by
 rcases Deep.open_slice hu h with⟨rfl,_⟩|⟨a,len,cap,m,n,D,Pl,rfl,_,DC,qi,hm,_,w1⟩
 .exact⟨[],⟨⟨c9 _ _,rfl⟩,trivial⟩,by simp⟩
 have hle:len<=m:=by rw[hm];split<;>omega
 rw[hc] at w1;have ch:∀i:Nat,∃y:α,i<len->(∃dj,W.cells? 0 (a.add (i*sz)) sz=some dj/\aC (gz W) (cf y) dj)/\Fit y:=λi=>by
  by_cases hi:i<len
  .obtain⟨dj,h1,h2⟩:=w1 i om;obtain⟨y,hy,hf⟩:=ho _ _ _ h2;exact⟨y,λ_=>⟨⟨dj,h1,hy⟩,hf⟩⟩
  exact⟨default,λh=>absurd h hi⟩
 let g:Nat->α:=λi=>(ch i).choose;have hg:∀i,i<len->(∃dj,W.cells? 0 (a.add (i*sz)) sz=some dj/\aC (gz W) (cf (g i)) dj)/\Fit (g i):=λi=>(ch i).choose_spec;have kf:∀r∈((List.range len).map g).map cf,r.length=sz:=λr hr=>by
  simp only[List.map_map,List.mem_map] at hr;obtain⟨i,_,rfl⟩:=hr;exact bf _
 refine⟨(List.range len).map g,⟨⟨⟨some a,cap,by simp,by simpa using DC,qi,kf,?_,(λh=>by cases h)⟩,rfl⟩,trivial⟩,?_⟩
 .rcases Nat.eq_zero_or_pos len with hz|ia
  .left;rw[hz];rfl
  right;obtain⟨⟨DD,DE,JN⟩,_⟩:=hg 0 ia;obtain⟨_,kg,r4⟩:=World.cells?_some DE;have w2:=r4 0 om;obtain⟨u,DF⟩:∃u,DD[0]?=some u:=⟨_,List.getElem?_eq_getElem om⟩;rw[DF] at w2;obtain⟨w3,cs,T,fr,hb,_⟩:=wW w2;have r5:((a.add (0*sz)).add 0)=a:=by simp[Addr.add]
  rw[r5] at hb w3;refine⟨a,rfl,w3,cs,Dy hb,?_⟩;have key:∀k,k<=len->aC (gz W) (((List.range k).map g).map cf).flatten ((cs.toList.drop a.off).take (k*sz)):=by
   intro k;induction k with
   |zero=>intro _;simp[aC]
   |succ k ih=>
    intro hk
    have h1:=ih om
    obtain⟨⟨dj,DG,DH⟩,_⟩:=hg k om
    have DI:(a.add (k*sz)).block=a.block:=by unfold Addr.add;split<;>rfl
    have DJ:(a.add (k*sz)).off=a.off+k*sz:=by unfold Addr.add;split<;>simp_all
    have h2:=Dz DG (by rw[DI];exact hb)
    rw[DJ] at h2
    rw[List.range_succ,List.map_append,List.map_append,List.flatten_append,Nat.succ_mul]
    have e3:(cs.toList.drop a.off).take (k*sz+sz)=(cs.toList.drop a.off).take (k*sz)++dj:=by
     rw[<-h2,<-List.drop_drop,List.take_add]
    rw[e3]
    refine h1.append ?_
    simpa using DH
  have:=key len (Nat.le_refl _);have hlen:(((List.range len).map g).map cf).flatten.length=len*sz:=by
   rw[eO kf];simp
  rwa[hlen]
 intro y hy;obtain⟨i,hi,rfl⟩:=List.mem_map.1 hy;exact(hg i (by simpa using hi)).2
end
section
variable {H:Type} {enc:TypeId×Value->H} {P:Program} {W:World}
def zm {α:Type} {cf:α->List AV} {Fit:α->Prop} {fs:Array Field} {t base:Nat} {v:Value} {d:DataW H} {ps:List MemPlace} (hu:P.underlying t=some (.struct fs)) (ho:fo enc P W cf Fit t) (ak:Value.okWide P W .any base t v) (h:DataW.Trod enc P W 0 (λ_=>true) true t v d ps):
 ∃y,(AV.agg (cf y)).h (gz W) v/\Fit y:=by
 unfold Value.okWide at ak;rw[hu] at ak;obtain⟨cs,rfl,_,_⟩:=ak;obtain⟨fuel,h⟩:=h;obtain⟨y,hy,hf⟩:=ho _ _ _ h;exact⟨y,⟨cs,rfl,hy⟩,hf⟩
def DK {v:Value} (h:∀cs,v≠.agg cs):v.cells.toList=[v]:=by
 cases v<;>first|rfl|exact absurd rfl (h _)
def zu {α:Type} {cf:α->AV} {Fit:α->Prop} {t base:Nat} {v:Value} {d:DataW H} {ps:List MemPlace} (ho:fo enc P W (λy=>[cf y]) Fit t) (aY:∀cs,v≠.agg cs) (h:DataW.Trod enc P W 0 (λ_=>true) true t v d ps):
 ∃y,(cf y).h (gz W) v/\Fit y:=by
 obtain⟨fuel,h⟩:=h;rw[DK aY] at h;obtain⟨y,hy,hf⟩:=ho _ _ _ h;exact⟨y,hy.1.1,hf⟩
def zw {t base:Nat} {v:Value} {k:IntKind} (hu:P.underlying t=some (.int k)) (ak:Value.okWide P W .any base t v):∀cs,v≠.agg cs:=by
 rintro cs rfl;simp[Value.okWide,hu,Cell.okWide,Cell.ok] at ak
end
def cy.Deep (s:cy):Prop:=bD s.time/\bD s.site
def ay.Deep (d:ay):Prop:=bD d.key/\d.aE.Deep
def al.Deep (v:al):Prop:=bD v.key/\v.aE.Deep/\bD v.val/\bD v.bl/\bD v.call/\∀d∈v.aA,d.Deep
def cu.Deep (m:cu):Prop:=bD m.kind/\bD m.kt/\bD m.to/\bD m.call/\bD m.key/\m.aE.Deep/\bD m.val/\True/\(∀d∈m.aA,d.Deep)/\bD m.slot/\bD m.fe/\(∀v∈m.ao,v.Deep)/\(∀v∈m.waits,v.Deep)/\∀d∈m.bV,d.Deep
def cv.Deep (s:cv):Prop:=bD s.fe/\bD s.iX
def Server.Deep (s:Server):Prop:=bD s.site/\True/\(∀x∈s.cn,x.Deep)/\(∀v∈s.ao,v.Deep)/\(∀v∈s.waits,v.Deep)/\(∀d∈s.bV,d.Deep)/\∀d∈s.ek,d.Deep
def Answer.Deep (a:Answer):Prop:=bD a.key/\True/\a.bs.Deep
def Call.Deep (k:Call):Prop:=bD k.bl/\bD k.num/\bD k.kind/\(∀n∈k.keys,bD n)/\bD k.val/\(∀d∈k.ctx,d.Deep)/\bD k.cO/\bD k.end_/\True/\k.aE.Deep/\(∀a∈k.aG,a.Deep)/\∀d∈k.aR,d.Deep
def bB.Deep (w:bB):Prop:=bD w.time/\(∀s∈w.aM,s.Deep)/\(∀m∈w.c0,m.Deep)/\(∀k∈w.calls,k.Deep)/\∀l∈w.seen,∀d∈l,d.Deep
def Ev.Deep (e:Ev):Prop:=bD e.kind/\bD e.at_/\bD e.bl/\bD e.word/\bD e.fy/\bD e.slot/\bD e.call/\bD e.a/\bD e.b/\bD e.c/\bD e.val
end Go.Proofs.YtldbakcpcfdlaaaGreat
set_option maxHeartbeats 1000000
namespace Go.Proofs.YtldbakcpcfdlaaaGreat
open Go Go.RowKit
def Kept.trans {F:Nat->Prop} {A B C:World} (h:Kept F A B) (k:Kept F B C):Kept F A C:=
 ⟨k.os.trans h.os,k.tape.trans h.tape,k.output.trans h.output,Nat.le_trans h.size k.size,λi hi hf=>(k.block i (Nat.lt_of_lt_of_le hi h.size) hf).trans (h.block i hi hf)⟩
def w4:∀{l:List (Nat×Value)} {t:Nat} {x:AV},Env.get t (l.map λp=>(p.1,AV.val p.2))=some x->∃v,(t,v)∈l/\x=.val v
 |[],t,x,e=>by simp[Env.get] at e
 |p::l,t,x,e=>by
  simp only[List.map_cons,Env.get] at e;cases hb:Nat.beq p.1 t with
  |true=>
   rw[hb] at e
   obtain rfl:p.1=t:=Nat.eq_of_beq_eq_true hb
   exact⟨p.2,by simp,(Option.some.inj e).symm⟩
  |false=>
   rw[hb] at e
   obtain⟨v,h1,h2⟩:=w4 (l:=l) e
   exact⟨v,List.mem_cons_of_mem _ h1,h2⟩
def St.base {c:Ctx} {I:Im} {H:List Own} {Γ:Env} {a:Act} {w:World} (l:List (Nat×Value)) (U:St c I H Γ a w) (hl:l.map (λp=>Env.get p.1 Γ)=l.map (λp=>some (AV.val p.2)):=by rfl):St ⟨w,c.I,c.n,gO⟩ c.I [] (l.map λp=>(p.1,AV.val p.2)) a w:=by
 refine⟨cE.refl λb cs e=>U.step.bO b cs (U.step.le b cs e),aO.nil _ _ _,λt x e=>?_,U.size,U.defers⟩;obtain⟨v,hv,rfl⟩:=w4 e;have:=List.map_inj_left.1 hl _ hv;exact U.env t _ this
def Kept.mono {F G:Nat->Prop} {A B:World} (h:Kept F A B) (k:∀b,F b->G b):Kept G A B:=⟨h.os,h.tape,h.output,h.size,λi hi hf=>h.block i hi λe=>hf (k i e)⟩
end Go.Proofs.YtldbakcpcfdlaaaGreat
namespace Go.Proofs.YtldbakcpcfdlaaaGreat
open Go Go.RowKit
section
variable {P:Program} {c:Ctx} {I:Im} {H:List Own} {Γ:Env} {a:Act} {w:World} {Q:Exit->Act->World->Prop} {ops:Array Oper} {rest:List Oper} {E T:TypeId} {sz:Nat} {v:Value} {D:List AV} {Hf:List (EA->Own)} {os:List Oper} {ms:Meta} {ty:TypeId} {p:String} {af:Array Edge}
def St.DL {L L':List Own} (k:Nat) (U:St c I H Γ a w) (hk:H[k]?=some (Own.many L)) (hp:L.Perm L'):St c I (H.set k (Own.many L')) Γ a w:=
 U.swap k hk (λb ⟨o,ho,e⟩=>⟨o,hp.mem_iff.2 ho,e⟩) λ⟨h1,h2⟩=>⟨λo ho=>h1 o (hp.mem_iff.2 ho),(hp.pairwise_iff λh=>eE.symm h).1 h2⟩
def DM {α β:Type} {f:α->β} {l:List α} {y:α} {k:Nat}:(l.map f++[f y]).Perm ((l.take k++y::l.drop k).map f):=by
 rw[List.map_append,List.map_cons];refine .trans ?_ List.perm_middle.symm;rw[<-List.map_append,List.take_append_drop];exact List.perm_append_comm (l₂:=[f y])
end
end Go.Proofs.YtldbakcpcfdlaaaGreat

/- Part 8: rules of the proofs. -/
import Derived.Laws.AppendOwn
import Derived.Test.YtldbakcpcfdlaaaGreatU07
set_option linter.all false
namespace Go.Proofs.YtldbakcpcfdlaaaGreat
open Go Go.RowKit
def Own.tree {α:Type} (v:Value) (E:TypeId) (sz:Nat) (C:α->List AV) (O:α->List Own) (l:List α):Own:=Own.many [Own.row v E sz (l.map C),Own.many (l.map λx=>Own.many (O x))]
section
variable {P:Program} {c:Ctx} {I I':Im} {H:List Own} {Γ:Env} {a:Act} {w:World} {E T:TypeId} {sz:Nat} {v:Value} {α β:Type} {C:α->List AV} {O:α->List Own} {l:List α}
def St.C0 (k:Nat) (U:St c I H Γ a w) (hk:H[k]?=some (Own.tree v E sz C O l)):St c I (H.set k Own.gone++[Own.row v E sz (l.map C),Own.many (l.map λx=>Own.many (O x))]) Γ a w:=U.split k hk
def St.C1 {L:List Own} {M:List Own} (k i:Nat) (U:St c I H Γ a w) (hk:H[k]?=some (Own.many L)) (hi:L[i]?=some (Own.many M)):St c I (H.set k (Own.many (L.set i Own.gone))++M) Γ a w:=by
 have h:=(U.focus k i hk hi).split (L:=M) H.length (by rw[List.getElem?_append_right aJ];simp);obtain⟨h1,h2,h3⟩:=List.pairwise_append.1 h.own.apart;have e:(H.set k (Own.many (L.set i Own.gone))++[Own.many M]).set H.length Own.gone=H.set k (Own.many (L.set i Own.gone))++[Own.gone]:=by
  rw[List.set_append_right _ _ aJ];simp
 rw[e] at h;refine⟨h.step,⟨λo ho=>h.own.all o ?_,?_⟩,h.env,h.size,h.defers⟩
 .rcases List.mem_append.1 ho with ho|ho
  .exact List.mem_append_left _ (List.mem_append_left _ ho)
  exact List.mem_append_right _ ho
 exact h.own.apart.sublist (List.Sublist.append (List.sublist_append_left _ _) (List.Sublist.refl _))
def St.C2 {L M M':List Own} (k i:Nat) (U:St c I (H.set k (Own.many (L.set i Own.gone))++M') Γ a w) (hk:k<H.length) (hi:i<L.length):St c I (H.set k (Own.many (L.set i (Own.many M')))) Γ a w:=by
 have h:=U.join.wh k i (L:=L.set i Own.gone) (by rw[List.getElem?_set_self hk]) (by rw[List.getElem?_set_self hi]);rwa[List.set_set,List.set_set] at h
def bR.tree {D:α->List AV} (h:bR I' w (Own.tree v E sz C O l)) (ok:(Own.tree v E sz C O l).ok I w) (hle:Im.le I I') (U:∀x∈l,(Own.many (O x)).ok I w->bR I' w (Own.many (O x))->ec I' (C x) (D x)) (hn:∀x,(C x).length=(D x).length):(AV.rows sz (l.map D)).h I' v:=by
 have h1:=ok.1 (Own.row v E sz (l.map C)) aJ;have h2:=ok.1 (Own.many (l.map λx=>Own.many (O x))) aJ;have s1:bR I' w (Own.row v E sz (l.map C)):=bR.sub h aJ;have s2:bR I' w (Own.many (l.map λx=>Own.many (O x))):=bR.sub h aJ;exact wi (s1.row h1 hle) (λx hx=>U x hx (h2.1 _ (List.mem_map.2 ⟨x,hx,rfl⟩)) (s2.sub (List.mem_map.2 ⟨x,hx,rfl⟩))) λx _=>hn x
def C3 (h:∀x∈l,∀y∈C x,y.Flat) (k:∀x∈l,∀o∈O x,o.Flat):(Own.tree v E sz C O l).Flat:=rO λo ho=>by
 simp only[List.mem_cons,List.not_mem_nil,or_false] at ho;rcases ho with rfl|rfl
 .exact wk λr hr x hx=>by
   obtain⟨y,hy,rfl⟩:=List.mem_map.1 hr;exact h y hy x hx
 exact rO λo ho=>by
  obtain⟨x,hx,rfl⟩:=List.mem_map.1 ho;exact rO (k x hx)
end
structure VT where
 x:al
 u:Value
structure er where
 cG:TypeId
 bs:TypeId
 slot:TypeId
 int:TypeId
 answer:TypeId
 server:TypeId
 word:TypeId
 call:TypeId
 seen:TypeId
def VT.cells (t:VT):List AV:=[.int t.x.key,.int t.x.aE.time,.int t.x.aE.site,.int t.x.val,.int t.x.bl,.int t.x.call,.val t.u]
def Own.aA (K:er) (u:Value) (l:List ay):Own:=Own.row u K.cG 3 (l.map ay.cells)
def VT.owns (K:er) (t:VT):List Own:=[Own.aA K t.u t.x.aA]
def Own.ao (K:er) (v:Value) (l:List VT):Own:=Own.tree v K.bs 7 VT.cells (VT.owns K) l
def eT (l:List VT):List al:=l.map VT.x
structure WT where
 x:cu
 u1:Value
 u2:Value
 u3:Value
 u4:Value
 vs:List VT
 ws:List VT
def WT.cells (t:WT):List AV:=[.int t.x.kind,.int t.x.kt,.int t.x.to,.int t.x.call,.int t.x.key,.int t.x.aE.time,.int t.x.aE.site,.int t.x.val,.bool t.x.yes,.val t.u1,.int t.x.slot,.int t.x.fe,.val t.u2,.val t.u3,.val t.u4]
def WT.owns (K:er) (t:WT):List Own:=[Own.aA K t.u1 t.x.aA,Own.ao K t.u2 t.vs,Own.ao K t.u3 t.ws,Own.aA K t.u4 t.x.bV]
def WT.plain (t:WT):cu:={t.x with ao:=eT t.vs,waits:=eT t.ws}
def Own.words (K:er) (v:Value) (l:List WT):Own:=Own.tree v K.word 15 WT.cells (WT.owns K) l
structure ST where
 x:Server
 u1:Value
 u2:Value
 u3:Value
 u4:Value
 u5:Value
 vs:List VT
 ws:List VT
def Own.cn (K:er) (u:Value) (l:List cv):Own:=Own.row u K.slot 2 (l.map cv.cells)
def ST.cells (t:ST):List AV:=[.int t.x.site,.bool t.x.up,.val t.u1,.val t.u2,.val t.u3,.val t.u4,.val t.u5]
def ST.owns (K:er) (t:ST):List Own:=[Own.cn K t.u1 t.x.cn,Own.ao K t.u2 t.vs,Own.ao K t.u3 t.ws,Own.aA K t.u4 t.x.bV,Own.aA K t.u5 t.x.ek]
def ST.plain (t:ST):Server:={t.x with ao:=eT t.vs,waits:=eT t.ws}
def Own.aM (K:er) (v:Value) (l:List ST):Own:=Own.tree v K.server 7 ST.cells (ST.owns K) l
structure AT where
 x:Answer
 u:Value
def AT.cells (t:AT):List AV:=[.int t.x.key,.bool t.x.yes,.int t.x.bs.key,.int t.x.bs.aE.time,.int t.x.bs.aE.site,.int t.x.bs.val,.int t.x.bs.bl,.int t.x.bs.call,.val t.u]
def AT.owns (K:er) (t:AT):List Own:=[Own.aA K t.u t.x.bs.aA]
def Own.answers (K:er) (v:Value) (l:List AT):Own:=Own.tree v K.answer 9 AT.cells (AT.owns K) l
structure CT where
 x:Call
 u1:Value
 u2:Value
 u3:Value
 u4:Value
 aG:List AT
def Own.ints (K:er) (u:Value) (l:List Int):Own:=Own.row u K.int 1 (l.map gD)
def CT.cells (t:CT):List AV:=[.int t.x.bl,.int t.x.num,.int t.x.kind,.val t.u1,.int t.x.val,.val t.u2,.int t.x.cO,.int t.x.end_,.bool t.x.over,.int t.x.aE.time,.int t.x.aE.site,.val t.u3,.val t.u4]
def CT.owns (K:er) (t:CT):List Own:=[Own.ints K t.u1 t.x.keys,Own.aA K t.u2 t.x.ctx,Own.answers K t.u3 t.aG,Own.aA K t.u4 t.x.aR]
def CT.plain (t:CT):Call:={t.x with aG:=t.aG.map AT.x}
def Own.calls (K:er) (v:Value) (l:List CT):Own:=Own.tree v K.call 13 CT.cells (CT.owns K) l
structure DT where
 x:List ay
 u:Value
def DT.cells (t:DT):List AV:=[.val t.u]
def DT.owns (K:er) (t:DT):List Own:=[Own.aA K t.u t.x]
def Own.seen (K:er) (v:Value) (l:List DT):Own:=Own.tree v K.seen 1 DT.cells (DT.owns K) l
structure NT where
 time:Int
 u1:Value
 u2:Value
 u3:Value
 u4:Value
 aM:List ST
 c0:List WT
 calls:List CT
 seen:List DT
def NT.cells (t:NT):List AV:=[.int t.time,.val t.u1,.val t.u2,.val t.u3,.val t.u4]
def NT.owns (K:er) (t:NT):List Own:=[Own.aM K t.u1 t.aM,Own.words K t.u2 t.c0,Own.calls K t.u3 t.calls,Own.seen K t.u4 t.seen]
def NT.plain (t:NT):bB:=⟨t.time,t.aM.map ST.plain,t.c0.map WT.plain,t.calls.map CT.plain,t.seen.map DT.x⟩
def NT.av (t:NT):AV:=.agg t.cells
section
variable {I I':Im} {w:World} {K:er} {v:Value}
def bR.aA {u:Value} {l:List ay} (h:bR I' w (Own.aA K u l)) (ok:(Own.aA K u l).ok I w) (hle:Im.le I I'):(cY l).h I' u:=h.row ok hle
def bR.ao {l:List VT} (h:bR I' w (Own.ao K v l)) (ok:(Own.ao K v l).ok I w) (hle:Im.le I I'):(bN (eT l)).h I' v:=by
 have:=bR.tree (D:=λt=>t.x.cells) h ok hle (λt _ o s=>ee 6 rfl ((s.sub (O:=Own.aA K t.u t.x.aA) (by simp[VT.owns])).aA (o.1 _ (by simp[VT.owns])) hle)) λ_=>rfl;simpa[bN,eT,List.map_map,Function.comp_def] using this
def WT.jN {t:WT} (o:(Own.many (t.owns K)).ok I w) (s:bR I' w (Own.many (t.owns K))) (hle:Im.le I I'):ec I' t.cells t.plain.cells:=by
 have s1:=((s.sub (O:=Own.aA K t.u1 t.x.aA) (by simp[WT.owns])).aA (o.1 _ (by simp[WT.owns])) hle);have s2:=((s.sub (O:=Own.ao K t.u2 t.vs) (by simp[WT.owns])).ao (o.1 _ (by simp[WT.owns])) hle);have s3:=((s.sub (O:=Own.ao K t.u3 t.ws) (by simp[WT.owns])).ao (o.1 _ (by simp[WT.owns])) hle);have s4:=((s.sub (O:=Own.aA K t.u4 t.x.bV) (by simp[WT.owns])).aA (o.1 _ (by simp[WT.owns])) hle);exact((ee 9 rfl s1).trans (ee 12 rfl s2)).trans ((ee 13 rfl s3).trans (ee 14 rfl s4))
def bR.words {l:List WT} (h:bR I' w (Own.words K v l)) (ok:(Own.words K v l).ok I w) (hle:Im.le I I'):(iY (l.map WT.plain)).h I' v:=by
 have:=bR.tree (D:=λt=>t.plain.cells) h ok hle (λt _ o s=>WT.jN o s hle) λ_=>rfl;simpa[iY,List.map_map,Function.comp_def] using this
def ST.jN {t:ST} (o:(Own.many (t.owns K)).ok I w) (s:bR I' w (Own.many (t.owns K))) (hle:Im.le I I'):ec I' t.cells t.plain.cells:=by
 have s1:(lH t.x.cn).h I' t.u1:=(s.sub (O:=Own.cn K t.u1 t.x.cn) (by simp[ST.owns])).row (o.1 (Own.cn K t.u1 t.x.cn) (by simp[ST.owns])) hle;have s2:=((s.sub (O:=Own.ao K t.u2 t.vs) (by simp[ST.owns])).ao (o.1 _ (by simp[ST.owns])) hle);have s3:=((s.sub (O:=Own.ao K t.u3 t.ws) (by simp[ST.owns])).ao (o.1 _ (by simp[ST.owns])) hle);have s4:=((s.sub (O:=Own.aA K t.u4 t.x.bV) (by simp[ST.owns])).aA (o.1 _ (by simp[ST.owns])) hle);have s5:=((s.sub (O:=Own.aA K t.u5 t.x.ek) (by simp[ST.owns])).aA (o.1 _ (by simp[ST.owns])) hle);exact((ee 2 rfl s1).trans (ee 3 rfl s2)).trans (((ee 4 rfl s3).trans (ee 5 rfl s4)).trans (ee 6 rfl s5))
def bR.aM {l:List ST} (h:bR I' w (Own.aM K v l)) (ok:(Own.aM K v l).ok I w) (hle:Im.le I I'):(ku (l.map ST.plain)).h I' v:=by
 have:=bR.tree (D:=λt=>t.plain.cells) h ok hle (λt _ o s=>ST.jN o s hle) λ_=>rfl;simpa[ku,List.map_map,Function.comp_def] using this
def bR.answers {l:List AT} (h:bR I' w (Own.answers K v l)) (ok:(Own.answers K v l).ok I w) (hle:Im.le I I'):(jC (l.map AT.x)).h I' v:=by
 have:=bR.tree (D:=λt=>t.x.cells) h ok hle (λt _ o s=>ee 8 rfl ((s.sub (O:=Own.aA K t.u t.x.bs.aA) (by simp[AT.owns])).aA (o.1 _ (by simp[AT.owns])) hle)) λ_=>rfl;simpa[jC,List.map_map,Function.comp_def] using this
def CT.jN {t:CT} (o:(Own.many (t.owns K)).ok I w) (s:bR I' w (Own.many (t.owns K))) (hle:Im.le I I'):ec I' t.cells t.plain.cells:=by
 have s1:(iZ t.x.keys).h I' t.u1:=(s.sub (O:=Own.ints K t.u1 t.x.keys) (by simp[CT.owns])).row (o.1 (Own.ints K t.u1 t.x.keys) (by simp[CT.owns])) hle;have s2:=((s.sub (O:=Own.aA K t.u2 t.x.ctx) (by simp[CT.owns])).aA (o.1 _ (by simp[CT.owns])) hle);have s3:=((s.sub (O:=Own.answers K t.u3 t.aG) (by simp[CT.owns])).answers (o.1 _ (by simp[CT.owns])) hle);have s4:=((s.sub (O:=Own.aA K t.u4 t.x.aR) (by simp[CT.owns])).aA (o.1 _ (by simp[CT.owns])) hle);exact((ee 3 rfl s1).trans (ee 5 rfl s2)).trans ((ee 11 rfl s3).trans (ee 12 rfl s4))
def bR.calls {l:List CT} (h:bR I' w (Own.calls K v l)) (ok:(Own.calls K v l).ok I w) (hle:Im.le I I'):(ja (l.map CT.plain)).h I' v:=by
 have:=bR.tree (D:=λt=>t.plain.cells) h ok hle (λt _ o s=>CT.jN o s hle) λ_=>rfl;simpa[ja,List.map_map,Function.comp_def] using this
def bR.seen {l:List DT} (h:bR I' w (Own.seen K v l)) (ok:(Own.seen K v l).ok I w) (hle:Im.le I I'):(jb (l.map DT.x)).h I' v:=by
 have:=bR.tree (D:=λt=>uJ t.x) h ok hle (λt _ o s=>ee 0 rfl ((s.sub (O:=Own.aA K t.u t.x) (by simp[DT.owns])).aA (o.1 _ (by simp[DT.owns])) hle)) λ_=>rfl;simpa[jb,List.map_map,Function.comp_def] using this
def NT.jN {t:NT} (o:(Own.many (t.owns K)).ok I w) (s:bR I' w (Own.many (t.owns K))) (hle:Im.le I I'):ec I' t.cells t.plain.cells:=by
 have s1:=((s.sub (O:=Own.aM K t.u1 t.aM) (by simp[NT.owns])).aM (o.1 _ (by simp[NT.owns])) hle);have s2:=((s.sub (O:=Own.words K t.u2 t.c0) (by simp[NT.owns])).words (o.1 _ (by simp[NT.owns])) hle);have s3:=((s.sub (O:=Own.calls K t.u3 t.calls) (by simp[NT.owns])).calls (o.1 _ (by simp[NT.owns])) hle);have s4:=((s.sub (O:=Own.seen K t.u4 t.seen) (by simp[NT.owns])).seen (o.1 _ (by simp[NT.owns])) hle);exact((ee 1 rfl s1).trans (ee 2 rfl s2)).trans ((ee 3 rfl s3).trans (ee 4 rfl s4))
def C4 {u:Value} {l:List ay}:(Own.aA K u l).Flat:=wk λr hr x hx=>by
 obtain⟨d,_,rfl⟩:=List.mem_map.1 hr;simp only[ay.cells,List.mem_cons,List.not_mem_nil,or_false] at hx;rcases hx with rfl|rfl|rfl<;>exact o1
def VT.flat (t:VT):∀y∈t.cells,y.Flat:=λy hy=>by
 simp only[VT.cells,List.mem_cons,List.not_mem_nil,or_false] at hy;rcases hy with rfl|rfl|rfl|rfl|rfl|rfl|rfl<;>exact o1
def wq {l:List VT}:(Own.ao K v l).Flat:=C3 (λt _=>t.flat) λt _ o ho=>by
 obtain rfl:=List.mem_singleton.1 ho;exact C4
end
end Go.Proofs.YtldbakcpcfdlaaaGreat
namespace Go.Proofs.YtldbakcpcfdlaaaGreat
def aw {α:Type} (f:Nat->α->α×Nat):Nat->List α->List α×Nat
 |k,[]=>([],k)
 |k,x::r=>((f k x).1::(aw f (f k x).2 r).1,(aw f (f k x).2 r).2)
section
variable {α β:Type} {f:Nat->α->α×Nat}
def o3:∀{k:Nat} {l m:List α},aw f k (l++m)=((aw f k l).1++(aw f (aw f k l).2 m).1,(aw f (aw f k l).2 m).2)
 |_,[],_=>rfl
 |k,x::l,m=>by simp only[List.cons_append,aw];rw[o3]
def fR:∀{k:Nat} {l:List α},(aw f k l).1.length=l.length
 |_,[]=>rfl
 |k,x::l=>by simp[aw,fR]
def rP {f':Nat->β->β×Nat} {g:α->β} (h:∀k x,f' k (g x)=(g (f k x).1,(f k x).2)):∀{k:Nat} {l:List α},aw f' k (l.map g)=((aw f k l).1.map g,(aw f k l).2)
 |_,[]=>rfl
 |k,x::l=>by simp only[List.map_cons,aw];rw[h,rP h]
def rQ {k i:Nat} {l:List α} {x:α} (hx:l[i]?=some x):aw f k (l.take (i+1))=((aw f k (l.take i)).1++[(f (aw f k (l.take i)).2 x).1],(f (aw f k (l.take i)).2 x).2):=by
 rw[List.take_add_one,hx,Option.toList_some,o3];rfl
def wu (h:∀k x,k<=(f k x).2):∀{k:Nat} {l:List α},k<=(aw f k l).2
 |k,[]=>Nat.le_refl k
 |k,x::l=>Nat.le_trans (h k x) (wu h)
def C5 (h:∀k x,k<=(f k x).2) {k i:Nat} {l:List α}:(aw f k (l.take i)).2<=(aw f k l).2:=by
 conv=>rhs;rw[<-List.take_append_drop i l,o3]
 exact wu h
def C6 {k i:Nat} {l:List α} {x:α} (hx:l[i]?=some x):(aw f k l).1[i]?=some (f (aw f k (l.take i)).2 x).1:=by
 have hi:=(List.getElem?_eq_some_iff.1 hx).1;conv=>lhs;rw[<-List.take_append_drop (i+1) l,o3,rQ hx]
 rw[List.getElem?_append_left (by simp[fR];omega),List.getElem?_append_right (by simp[fR];omega)];have:i-(aw f k (l.take i)).1.length=0:=by rw[fR,List.length_take];omega
 rw[this];rfl
def cw (f:Nat->α->α×Nat) (k:Nat) (l:List α) (i:Nat):List α:=(aw f k (l.take i)).1++l.drop i
def wv {k i:Nat} {l:List α} (h:l.length<=i):cw f k l i=(aw f k l).1:=by
 simp[cw,List.take_of_length_le h,List.drop_eq_nil_of_le h]
def dR {k i:Nat} {l:List α}:(cw f k l i).length=l.length:=by simp[cw,fR];omega
def wx {k i:Nat} {l:List α} {x:α} (hx:l[i]?=some x):(cw f k l i)[i]?=some x:=by
 have hi:=(List.getElem?_eq_some_iff.1 hx).1;unfold cw;rw[List.getElem?_append_right (by rw[fR,List.length_take];omega),fR,List.length_take,List.getElem?_drop];rw[show i+(i-min i l.length)=i by omega];exact hx
def wy {k i:Nat} {l:List α} {x:α} (hx:l[i]?=some x):cw f k l (i+1)=(cw f k l i).set i (f (aw f k (l.take i)).2 x).1:=by
 have hi:=(List.getElem?_eq_some_iff.1 hx).1;unfold cw;have hl:(aw f k (l.take i)).1.length=i:=by rw[fR,List.length_take];omega
 rw[rQ hx,List.set_append_right _ _ om,hl,Nat.sub_self];have hd:l.drop i=x::l.drop (i+1):=by
  rw[List.drop_eq_getElem_cons hi];obtain⟨_,e⟩:=List.getElem?_eq_some_iff.1 hx;rw[e]
 rw[hd];simp
end
def dm (k:Nat) (_:ay):ay×Nat:=(⟨k,⟨(k+1:Nat),(k+2:Nat)⟩⟩,k+3)
def lW (k:Nat) (_:cv):cv×Nat:=(⟨k,(k+1:Nat)⟩,k+2)
def lX (k:Nat) (_:Int):Int×Nat:=(k,k+1)
def ct (k:Nat) (l:List ay):List ay×Nat:=aw dm k l
def ix (k:Nat) (l:List cv):List cv×Nat:=aw lW k l
def iy (k:Nat) (l:List Int):List Int×Nat:=aw lX k l
def bX (k:Nat) (v:al):al×Nat:=(⟨k,⟨(k+1:Nat),(k+2:Nat)⟩,(k+3:Nat),(k+4:Nat),(k+5:Nat),(ct (k+6) v.aA).1⟩,(ct (k+6) v.aA).2)
def je (k:Nat) (t:VT):VT×Nat:=(⟨(bX k t.x).1,t.u⟩,(bX k t.x).2)
def et (k:Nat) (l:List VT):List VT×Nat:=aw je k l
def o4 {k:Nat} {l:List VT}:aw bX k (eT l)=(eT (et k l).1,(et k l).2):=rP (f:=je) (g:=VT.x) λ_ _=>rfl
def fl (k:Nat):Bool:=(k:Int)%3==0
def eU (k:Nat) (t:ST):ST×Nat:=
 let a:=ix (k+2) t.x.cn;let b:=et a.2 t.vs;let c:=et b.2 t.ws;let d:=ct c.2 t.x.bV;let e:=ct d.2 t.x.ek
 (⟨⟨k,fl (k+1),a.1,t.x.ao,t.x.waits,d.1,e.1⟩,t.u1,t.u2,t.u3,t.u4,t.u5,b.1,c.1⟩,e.2)
def m9 (k:Nat) (s:Server):Server×Nat:=
 let a:=ix (k+2) s.cn;let b:=aw bX a.2 s.ao;let c:=aw bX b.2 s.waits;let d:=ct c.2 s.bV;let e:=ct d.2 s.ek
 (⟨k,fl (k+1),a.1,b.1,c.1,d.1,e.1⟩,e.2)
def C7 (k:Nat) (t:ST):m9 k t.plain=((eU k t).1.plain,(eU k t).2):=by
 simp only[m9,eU,ST.plain,o4]
def eV (k:Nat) (t:WT):WT×Nat:=
 let a:=ct (k+9) t.x.aA;let b:=et (a.2+2) t.vs;let c:=et b.2 t.ws;let d:=ct c.2 t.x.bV
 (⟨⟨k,(k+1:Nat),(k+2:Nat),(k+3:Nat),(k+4:Nat),⟨(k+5:Nat),(k+6:Nat)⟩,(k+7:Nat),fl (k+8),a.1,a.2,(a.2+1:Nat),t.x.ao,t.x.waits,d.1⟩,t.u1,t.u2,t.u3,t.u4,b.1,c.1⟩,d.2)
def na (k:Nat) (t:cu):cu×Nat:=
 let a:=ct (k+9) t.aA;let b:=aw bX (a.2+2) t.ao;let c:=aw bX b.2 t.waits;let d:=ct c.2 t.bV
 (⟨k,(k+1:Nat),(k+2:Nat),(k+3:Nat),(k+4:Nat),⟨(k+5:Nat),(k+6:Nat)⟩,(k+7:Nat),fl (k+8),a.1,a.2,(a.2+1:Nat),b.1,c.1,d.1⟩,d.2)
def C8 (k:Nat) (t:WT):na k t.plain=((eV k t).1.plain,(eV k t).2):=by
 simp only[na,eV,WT.plain,o4]
def lY (k:Nat) (a:Answer):Answer×Nat:=(⟨k,fl (k+1),(bX (k+2) a.bs).1⟩,(bX (k+2) a.bs).2)
def eJ (k:Nat) (t:AT):AT×Nat:=(⟨(lY k t.x).1,t.u⟩,(lY k t.x).2)
def C9 {k:Nat} {l:List AT}:aw lY k (l.map AT.x)=((aw eJ k l).1.map AT.x,(aw eJ k l).2):=rP (f:=eJ) (g:=AT.x) λ_ _=>rfl
def eW (k:Nat) (t:CT):CT×Nat:=
 let a:=iy (k+3) t.x.keys;let b:=ct (a.2+1) t.x.ctx;let c:=aw eJ (b.2+5) t.aG;let d:=ct c.2 t.x.aR
 (⟨⟨k,(k+1:Nat),(k+2:Nat),a.1,a.2,b.1,b.2,(b.2+1:Nat),fl (b.2+2),⟨(b.2+3:Nat),(b.2+4:Nat)⟩,t.x.aG,d.1⟩,t.u1,t.u2,t.u3,t.u4,c.1⟩,d.2)
def nb (k:Nat) (t:Call):Call×Nat:=
 let a:=iy (k+3) t.keys;let b:=ct (a.2+1) t.ctx;let c:=aw lY (b.2+5) t.aG;let d:=ct c.2 t.aR
 (⟨k,(k+1:Nat),(k+2:Nat),a.1,a.2,b.1,b.2,(b.2+1:Nat),fl (b.2+2),⟨(b.2+3:Nat),(b.2+4:Nat)⟩,c.1,d.1⟩,d.2)
def Da (k:Nat) (t:CT):nb k t.plain=((eW k t).1.plain,(eW k t).2):=by
 simp only[nb,eW,CT.plain,C9]
def gZ (k:Nat) (t:DT):DT×Nat:=(⟨(ct k t.x).1,t.u⟩,(ct k t.x).2)
def nc (k:Nat) (t:NT):NT×Nat:=
 let a:=aw eU k t.aM;let b:=aw eV a.2 t.c0;let c:=aw eW b.2 t.calls;let d:=aw gZ c.2 t.seen
 (⟨t.time,t.u1,t.u2,t.u3,t.u4,a.1,b.1,c.1,d.1⟩,d.2)
def wz (k:Nat) (t:bB):bB×Nat:=
 let a:=aw m9 k t.aM;let b:=aw na a.2 t.c0;let c:=aw nb b.2 t.calls;let d:=aw ct c.2 t.seen
 (⟨t.time,a.1,b.1,c.1,d.1⟩,d.2)
def eu {α:Type} {f:Nat->α->α×Nat} {c:α->Nat} (h:∀k x,(f k x).2=k+c x):∀{k:Nat} {l:List α},(aw f k l).2=k+(l.map c).sum
 |k,[]=>by simp[aw]
 |k,x::l=>by simp only[aw,List.map_cons,List.sum_cons];rw[eu h,h];omega
def o5 {α:Type} (c:Nat):∀l:List α,(l.map λ_=>c).sum=c*l.length
 |[]=>by simp
 |x::l=>by simp only[List.map_cons,List.sum_cons,List.length_cons,o5 c l];rw[Nat.mul_add];omega
def c7 {k:Nat} {l:List ay}:(ct k l).2=k+3*l.length:=by
 unfold ct;rw[eu (c:=λ_=>3) λ_ _=>rfl,o5]
def rR {k:Nat} {l:List cv}:(ix k l).2=k+2*l.length:=by
 unfold ix;rw[eu (c:=λ_=>2) λ_ _=>rfl,o5]
def rS {k:Nat} {l:List Int}:(iy k l).2=k+l.length:=by
 unfold iy;rw[eu (c:=λ_=>1) λ_ _=>rfl,o5,Nat.one_mul]
def ew (v:al):Nat:=6+3*v.aA.length
def gr (l:List al):Nat:=(l.map ew).sum
def nd (k:Nat) (v:al):(bX k v).2=k+ew v:=by
 simp only[bX,c7,ew];omega
def ng {k:Nat} {l:List al}:(aw bX k l).2=k+gr l:=eu nd
def jf {k:Nat} {l:List VT}:(et k l).2=k+gr (eT l):=by
 rw[<-ng,o4]
def iz (s:Server):Nat:=2+2*s.cn.length+gr s.ao+gr s.waits+3*s.bV.length+3*s.ek.length
def wA (k:Nat) (s:Server):(m9 k s).2=k+iz s:=by
 simp only[m9,c7,rR,ng,iz];omega
def iA (m:cu):Nat:=11+3*m.aA.length+gr m.ao+gr m.waits+3*m.bV.length
def wB (k:Nat) (m:cu):(na k m).2=k+iA m:=by
 simp only[na,c7,ng,iA];omega
def g0 (a:Answer):Nat:=2+ew a.bs
def wC (k:Nat) (a:Answer):(lY k a).2=k+g0 a:=by
 simp only[lY,nd,g0];omega
def iB (q:Call):Nat:=9+q.keys.length+3*q.ctx.length+(q.aG.map g0).sum+3*q.aR.length
def wD (k:Nat) (q:Call):(nb k q).2=k+iB q:=by
 simp only[nb,c7,rS,eu wC,iB];omega
def lZ (w:bB):Nat:=(w.aM.map iz).sum+(w.c0.map iA).sum+(w.calls.map iB).sum+(w.seen.map λl=>3*l.length).sum
def Db (k:Nat) (w:bB):(wz k w).2=k+lZ w:=by
 simp only[wz,eu wA,eu wB,eu wD,eu (f:=ct) (c:=λl=>3*l.length) λ_ _=>c7,lZ];omega
def wE (k:Nat) (t:VT):(je k t).2=k+ew t.x:=nd k t.x
def o6 (k:Nat) (t:ST):(eU k t).2=k+iz t.plain:=by rw[<-wA,C7]
def o7 (k:Nat) (t:WT):(eV k t).2=k+iA t.plain:=by rw[<-wB,C8]
def rT (k:Nat) (t:AT):(eJ k t).2=k+g0 t.x:=wC k t.x
def wF {k:Nat} {l:List AT}:(aw eJ k l).2=k+((l.map AT.x).map g0).sum:=by rw[eu rT,List.map_map];rfl
def o8 (k:Nat) (t:CT):(eW k t).2=k+iB t.plain:=by rw[<-wD,Da]
def wG (k:Nat) (t:DT):(gZ k t).2=k+3*t.x.length:=c7
def get_some {α:Type} {l:List α} {i:Nat} (h:i<l.length):∃t,l[i]?=some t:=⟨_,List.getElem?_eq_getElem h⟩
def iC {α:Type} {f:Nat->α->α×Nat} {c:α->Nat} (hc:∀k x,(f k x).2=k+c x) (h1:∀x,1<=c x) {k:Nat} {l:List α}:k+l.length<=(aw f k l).2:=by
 rw[eu hc];have:∀m:List α,m.length<=(m.map c).sum:=λm=>by
  induction m with
  |nil=>exact Nat.zero_le _
  |cons x m ih=>have:=h1 x;simp only[List.length_cons,List.map_cons,List.sum_cons];omega
 have:=this l;omega
def wH {α:Type} [Inhabited α] {f:Nat->α->α×Nat} {k i kk:Nat} {l:List α} {t:α} (hx:l[i]?=some t) (bZ:(aw f k (l.take i)).2=kk):ae (aw f k l).1 i=(f kk t).1:=by
 subst bZ;simp[ae,C6 hx]
def g7 {α:Type} {f:Nat->α->α×Nat} {c:α->Nat} (hc:∀k x,(f k x).2=k+c x) {k i kk:Nat} {l:List α} {x:α} (hx:l[i]?=some x) (bZ:(aw f k (l.take i)).2=kk):(aw f k (l.take (i+1))).2=(f kk x).2/\kk+c x<=(aw f k l).2:=by
 subst bZ;have e:(aw f k (l.take (i+1))).2=(f (aw f k (l.take i)).2 x).2:=by rw[rQ hx]
 refine⟨e,?_⟩;rw[<-hc,<-e];exact C5 λk x=>by rw[hc];omega
end Go.Proofs.YtldbakcpcfdlaaaGreat
namespace Go.Proofs.YtldbakcpcfdlaaaGreat
open Go Go.RowKit
section
variable {P:Program} {c:Ctx} {I:Im} {H:List Own} {Γ:Env} {a:Act} {w:World} {Q:Exit->Act->World->Prop} {ops:Array Oper} {rest:List Oper} {E T:TypeId} {sz:Nat} {v:Value} {R:List (List AV)} {D:List AV} {α:Type} {C:α->List AV} {O:α->List Own} {l l':List α} {x:α}
def St.bT {y z:Operand} {ty:TypeId} {p:String} {af:Array Edge} {m:Nat} {zv:Value} {q i j:Nat} {x:AV} (k:Nat) (U:St c I H Γ a w) (hT:Ty P T false 1 m zv) (hy:At Γ true y (.val (.pointer (some ⟨kK v,q,none⟩)))) (hz:At Γ true z x) (hx:x.One)
 (hk:H[k]?=some (Own.row v E sz (R.set i D))) (hi:i<R.length) (hq:q=i*sz+j) (hj:Nat.ble (j+1) sz=true)
 (kk:∀a' w',St c I (H.set k (Own.row v E sz (R.set i (D.set j x)))) Γ a' w'->wpList P ops Q rest a' w'):
 wpList P ops Q (⟨none,.store T y z,ty,p,af,none⟩::rest) a w:=by
 have ho:=(U.own.all _ (List.mem_of_getElem? hk)).1;have hC:(R.set i D)[i]?=some D:=by simp[hi]
 obtain⟨b,cap,rfl⟩:=oX ho (by intro h;rw[h] at hC;simp at hC);have bf:D.length=sz:=ho.1 D (List.mem_of_getElem? hC);refine U.uD (i:=i) (j:=j) (r:=D) (l:=R.set i D) k hT hy hz hx hk hC hq hj λa' w' bj=>kk a' w' ?_;rw[List.set_set,tZ (by have:=Nat.le_of_ble_eq_true hj;omega)] at bj;exact bj
def fm {i:Nat} (h:i<R.length):(R.set i D)[((i:Int)).toNat]?=some D:=by simp[h]
def St.rU (k i:Nat) (U:St c I H Γ a w) (hk:H[k]?=some (Own.row v E sz R)) (hC:R[i]?=some D):St c I (H.set k (Own.row v E sz (R.set i D))) Γ a w:=by
 rw[qp hC,qp hk];exact U
def St.Dc (i:Nat) (U:St c I [Own.row v E sz (l.map C),Own.many (l.map λx=>Own.many (O x))] Γ a w) (hx:l[i]?=some x):
 St c I ([Own.row v E sz ((l.map C).set i (C x)),Own.many ((l.map λx=>Own.many (O x)).set i Own.gone)]++O x) Γ a w:=
 (U.rU 0 i rfl (by rw[List.getElem?_map,hx];rfl)).C1 1 i rfl (by rw[List.getElem?_map,hx];rfl)
def St.Dd {D:List AV} {M:List Own} (x:α) (i:Nat) (U:St c I ([Own.row v E sz ((l.map C).set i D),Own.many ((l.map λx=>Own.many (O x)).set i Own.gone)]++M) Γ a w) (hi:i<l.length) (hl:l.set i x=l') (hC:C x=D) (hM:O x=M):
 St c I [Own.row v E sz (l'.map C),Own.many (l'.map λx=>Own.many (O x))] Γ a w:=by
 subst hl hC hM;have h:=St.C2 (H:=[Own.row v E sz ((l.map C).set i (C x)),Own.many (l.map λx=>Own.many (O x))]) (L:=l.map λx=>Own.many (O x)) (M:=[]) (M':=O x) 1 i U aJ (by simpa using hi);simp only[List.map_set] at h⊢;exact h
def St.l3 {f:Nat->α->α×Nat} {k i:Nat} (U:St c I [Own.row v E sz ((cw f k l i).map C),Own.many ((cw f k l i).map λx=>Own.many (O x))] Γ a w) (hx:l[i]?=some x):
 ∃m,cw f k l i=m/\m.length=l.length/\St c I ([Own.row v E sz ((m.map C).set i (C x)),Own.many ((m.map λx=>Own.many (O x)).set i Own.gone)]++O x) Γ a w:=⟨_,rfl,dR,U.Dc i (wx hx)⟩
def St.l4 {f:Nat->α->α×Nat} {k i kk:Nat} {m:List α} {D:List AV} {M:List Own} (U:St c I ([Own.row v E sz ((m.map C).set i D),Own.many ((m.map λx=>Own.many (O x)).set i Own.gone)]++M) Γ a w) (hx:l[i]?=some x) (hm:cw f k l i=m) (bZ:(aw f k (l.take i)).2=kk) (hC:C (f kk x).1=D) (hM:O (f kk x).1=M):
 St c I [Own.row v E sz ((cw f k l (i+1)).map C),Own.many ((cw f k l (i+1)).map λx=>Own.many (O x))] Γ a w:=by
 subst hm bZ;exact U.Dd (f _ x).1 i (by rw[dR];exact(List.getElem?_eq_some_iff.1 hx).1) (wy hx).symm hC hM
def St.rV {f:Nat->α->α×Nat} {k i:Nat} (U:St c I [Own.row v E sz ((cw f k l i).map C)] Γ a w) (hx:l[i]?=some x):
 ∃m,cw f k l i=m/\m.length=l.length/\St c I [Own.row v E sz ((m.map C).set i (C x))] Γ a w:=⟨_,rfl,dR,U.rU 0 i rfl (by rw[List.getElem?_map,wx hx];rfl)⟩
def St.rW {f:Nat->α->α×Nat} {k i kk:Nat} {m:List α} {D:List AV} (U:St c I [Own.row v E sz ((m.map C).set i D)] Γ a w) (hx:l[i]?=some x) (hm:cw f k l i=m) (bZ:(aw f k (l.take i)).2=kk) (hC:C (f kk x).1=D):
 St c I [Own.row v E sz ((cw f k l (i+1)).map C)] Γ a w:=by
 subst hm bZ hC;rw[wy hx,List.map_set];exact U
def St.l5 {f:Nat->α->α×Nat} {k i:Nat} (U:St c I [Own.row v E sz ((cw f k l i).map C),Own.many ((cw f k l i).map λx=>Own.many (O x))] Γ a w) (h:l.length<=i):
 St c I [Own.tree v E sz C O (aw f k l).1] Γ a w:=by
 rw[wv h] at U;exact St.join (H:=[]) U
def St.rX {f:Nat->α->α×Nat} {k i:Nat} (U:St c I [Own.row v E sz ((cw f k l i).map C)] Γ a w) (h:l.length<=i):St c I [Own.row v E sz ((aw f k l).1.map C)] Γ a w:=by
 rw[wv h] at U;exact U
def St.parts {L:List Own} (U:St c I [Own.many L] Γ a w):St c I L Γ a w:=by
 have h:=U.split (L:=L) 0 rfl;exact⟨h.step,⟨λo ho=>h.own.all o (by simp[ho]),(List.pairwise_append.1 h.own.apart).2.1⟩,h.env,h.size,h.defers⟩
def St.whole {L:List Own} (U:St c I L Γ a w):St c I [Own.many L] Γ a w:=St.join (H:=[]) U
def St.l6 {M:List Own} {n m:Nat} {z D:List AV} (x:α) (U:St c I ([Own.row v E sz ((l.map C++List.replicate n z).set l.length D),Own.many (l.map λx=>Own.many (O x))]++M) Γ a w) (hn:n=m+1) (hC:C x=D) (hM:O x=M):
 St c I [Own.row v E sz ((l++[x]).map C++List.replicate m z),Own.many ((l++[x]).map λx=>Own.many (O x))] Γ a w:=by
 subst hn hC hM;have h:=U.join.merge 1 rfl;have e:(l.map C++List.replicate (m+1) z).set l.length (C x)=(l++[x]).map C++List.replicate m z:=by
  rw[List.set_append_right _ _ aJ];simp[List.replicate_succ]
 rw[e] at h;simpa using h
def St.jO (U:St c I H Γ a w):St c I (H++[Own.many []]) Γ a w:=St.join (L:=[]) (by rw[List.append_nil];exact U)
def St.jg (k:Nat) (U:St c I H Γ a w) (hk:H[k]?=some (Own.tree v E sz C O l)):(AV.val v).One:=by
 obtain⟨h1,_⟩:=(U.own.all _ (List.mem_of_getElem? hk)).1;obtain⟨q,cap,rfl,_⟩:=oI (h1 (Own.row v E sz (l.map C)) aJ);exact bA rfl
def St.l7 {n:Nat} {z:List AV} (U:St c I [Own.row v E sz (l.map C++List.replicate n z),Own.many (l.map λx=>Own.many (O x))] Γ a w) (hn:n=0):St c I [Own.tree v E sz C O l] Γ a w:=by
 subst hn;rw[List.replicate_zero,List.append_nil] at U;exact St.join (H:=[]) U
def kO {β:Type} [Inhabited β] {f:α->β} {ts:List α} {l:List β} {t:α} (h:ts.map f=l.take ts.length/\ts.length<=l.length) (hb:ts.length<l.length) (ht:f t=ae l ts.length):(ts++[t]).map f=l.take (ts++[t]).length/\(ts++[t]).length<=l.length:=by
 refine⟨?_,by simp;omega⟩;rw[List.map_append,h.1,List.length_append,List.length_singleton,mN hb,List.map_singleton,ht]
def kQ {β:Type} {f:α->β} {ts:List α} {l:List β} (h:ts.map f=l.take ts.length/\ts.length<=l.length) (hb:l.length<=ts.length):ts.map f=l:=by
 rw[h.1,List.take_of_length_le hb]
def St.nh {y z:Operand} {ty:TypeId} {p:String} {af:Array Edge} {m:Nat} {zv:Value} {q i:Nat} {lx:List AV} (k:Nat) (U:St c I H Γ a w) (hT:Ty P T true sz m zv) (hy:At Γ true y (.val (.pointer (some ⟨kK v,q,none⟩)))) (hz:At Γ true z (.agg lx))
 (hk:H[k]?=some (Own.row v E sz R)) (hi:i<R.length) (hq:q=i*sz) (hn:lx.length=sz)
 (kk:∀a' w',St c I (H.set k (Own.row v E sz (R.set i lx))) Γ a' w'->wpList P ops Q rest a' w'):
 wpList P ops Q (⟨none,.store T y z,ty,p,af,none⟩::rest) a w:=by
 have ho:=(U.own.all _ (List.mem_of_getElem? hk)).1;obtain⟨D,hD⟩:=get_some hi;obtain⟨b,cap,rfl⟩:=oX ho (by intro h;rw[h] at hi;simp at hi);exact U.qC k hT hy hz hk hD hq hn kk
def St.De {y z:Operand} {ty:TypeId} {p:String} {af:Array Edge} {m:Nat} {zv:Value} {q i:Nat} {x:AV} (k:Nat) (U:St c I H Γ a w) (hT:Ty P T false 1 m zv) (hy:At Γ true y (.val (.pointer (some ⟨kK v,q,none⟩)))) (hz:At Γ true z x) (hx:x.One)
 (hk:H[k]?=some (Own.row v E 1 R)) (hi:i<R.length) (hq:q=i*1)
 (kk:∀a' w',St c I (H.set k (Own.row v E 1 (R.set i [x]))) Γ a' w'->wpList P ops Q rest a' w'):
 wpList P ops Q (⟨none,.store T y z,ty,p,af,none⟩::rest) a w:=by
 obtain⟨D,hD⟩:=get_some hi;have hl:D.length=1:=(U.own.all _ (List.mem_of_getElem? hk)).1.1 D (List.mem_of_getElem? hD);obtain⟨d,rfl⟩:∃d,D=[d]:=List.length_eq_one_iff.1 hl;have bj:=U.rU k i hk hD;have ei:=(List.getElem?_eq_some_iff.1 hk).1;refine bj.bT (j:=0) (R:=R) (i:=i) k hT hy hz hx (by rw[List.getElem?_set_self ei]) hi hq rfl λa' w' h=>kk a' w' ?_;rw[List.set_set] at h;exact h
end
def AV.ni (n:Nat):AV:=⟨λ_ v=>∃cs:Array Value,v=.agg cs/\cs.size=n/\∀u∈cs.toList,u.oneCell'=true,λ_ _ _ _ h=>h⟩
def fI:Value->List AV
 |.agg cs=>cs.toList.map AV.val
 |v=>[AV.val v]
section
variable {P:Program} {c:Ctx} {I:Im} {H:List Own} {Γ:Env} {a:Act} {w:World} {Q:Exit->Act->World->Prop} {ops:Array Oper} {rest:List Oper} {E T:TypeId} {sz:Nat} {v:Value} {D:List AV}
def rY:∀{l:List AV} {cs:List Value},aC I l cs->cs.length=l.length/\∀u∈cs,u.oneCell'=true
 |[],[],_=>⟨rfl,λ_ h=>by simp at h⟩
 |x::l,u::cs,h=>⟨by simp[(rY h.2).1],λy hy=>by
   rcases List.mem_cons.1 hy with rfl|hy
   .exact h.1.2
   exact(rY h.2).2 y hy⟩
 |[],_::_,h=>h.elim
 |_::_,[],h=>h.elim
def wI:∀{cs:List Value},(∀u∈cs,u.oneCell'=true)->aC I (cs.map AV.val) cs
 |[],_=>trivial
 |u::cs,h=>⟨⟨rfl,h u aJ⟩,wI λy hy=>h y (by simp[hy])⟩
def wJ:∀{cs ds:List Value},aC I (cs.map AV.val) ds->ds=cs
 |[],[],_=>rfl
 |u::cs,x::ds,h=>by rw[show x=u from h.1.1,wJ h.2]
 |[],_::_,h=>h.elim
 |_::_,[],h=>h.elim
def wK {n:Nat} (h:(AV.agg D).h I v) (hn:D.length=n:=by rfl):(AV.ni n).h I v:=by
 obtain⟨cs,rfl,h⟩:=h;obtain⟨h1,h2⟩:=rY h;exact⟨cs,rfl,by rw[<-hn,<-h1];simp,h2⟩
def wL {n:Nat} (h:(AV.ni n).h I v):(fI v).length=n:=by
 obtain⟨cs,rfl,h,_⟩:=h;simp[fI,h]
def Df (h:(AV.agg D).h I v):ec I (fI v) D:=λds hd=>by
 obtain⟨cs,rfl,h⟩:=h;rw[wJ (cs:=cs.toList) hd];exact h
def Dg {u:Value} {α:Type} {C:α->List AV} {O:α->List Own} {l:List α} (ho:(Own.many [Own.tree u E sz C O l]).ok I w) (e:(AV.val u).h I v):v.oneCell'=true:=by
 obtain rfl:v=u:=e;obtain⟨q,cap,rfl,_⟩:=oI (((ho.1 _ (List.mem_singleton.2 rfl)).1) (Own.row v E sz (l.map C)) aJ);rfl
def bg.wM {Hf:List (EA->Own)} {os:List Oper} {ms:Meta} {α:Type} {d:Nat} {f:FuncId} {ys:Array Operand} {ts:Array TypeId} {ty:TypeId} {p:String} {af:Array Edge} {xs:List AV} {ok:α->Prop} {h1:α->List Own} {res:α->AV} (z:AV) (k:Nat) (hk:Hf[k]?=some λ_=>Own.gone) (hd:Nat.blt d c.n=true) (hf:bm P f xs [] ok h1 res)
 (Dh:∀x I w v,ok x->(Own.many (h1 x)).ok I w->(res x).h I v->z.h I v) (eM:∀I a,br I a (Γ.only ((⟨some d,.call ⟨.value (.func f),ys,ts⟩,ty,p,af,none⟩:Oper).looksAt ops))->true=true->bI I xs (ys.map a.eval).toList)
 (r:bg P c ops Q ((d,z)::Γ) (Hf.set k λe=>Own.aG ok h1 res (e.g d) (e.tmps.getD d undef)) os ms):bg P c ops Q Γ Hf (⟨some d,.call ⟨.value (.func f),ys,ts⟩,ty,p,af,none⟩::os) (([k],some (k,[d]))::ms):=
 bg.cons (u:=some ⟨k,[d],λe=>Own.aG ok h1 res (e.g d) (e.tmps.getD d undef)⟩) (x:=z) (λv e=>by
  cases e;intro a a' hh;show Own.aG ok h1 res (a.g d) (a.tmps.getD d undef)=Own.aG ok h1 res (a'.g d) (a'.tmps.getD d undef);rw[(hh d aJ).1,(hh d aJ).2]) (λF W0 I0 I γ a w Q U kk=>by
  refine U.dA [] hf eM rfl aZ hd λx I' a' w' hx bj=>?_;have bj:=bj.pass (show fill (hole (cr [k] (ea a γ) F 0 Hf) []) [] (h1 x)=cr [k] (ea a γ) F 0 Hf++h1 x by simp[fill,hole]);have hv:(res x).h I' (a'.tmps.getD d undef):=bj.env d (res x) (by simp[Env.get]);have hm:(Own.many (h1 x)).ok I' w':=⟨λo ho=>(bj.own.all o (List.mem_append_right _ ho)).1,(List.pairwise_append.1 bj.own.apart).2.1⟩;have cS:=bj.own.close (o:=Own.aG ok h1 res (Own.many (h1 x)) (a'.tmps.getD d undef)) (λb h=>h) ⟨hm,x,hx,hv,rfl⟩;have dC:St ⟨W0.1,I0,c.n,W0.2⟩ I' (cr [k] (ea a γ) F 0 Hf++[Own.aG ok h1 res (Own.many (h1 x)) (a'.tmps.getD d undef)]) ((d,z)::Γ.only ((⟨some d,.call ⟨.value (.func f),ys,ts⟩,ty,p,af,none⟩:Oper).looksAt ops)) a' w':=
   ⟨bj.step,cS,λt y e=>by
    simp only[Env.get] at e;cases hb:Nat.beq d t with
    |true=>rw[hb] at e;obtain rfl:d=t:=Nat.eq_of_beq_eq_true hb;simp at e;subst e;exact Dh x I' w' _ hx hm hv
    |false=>rw[hb] at e;exact bj.env t y (by simp only[Env.get,hb];exact e),bj.size,bj.defers⟩
  exact kk (λt=>if t=d then Own.many (h1 x) else γ t) (λt ht=>if_neg λe=>ht (by rw[e])) I' a' w' ((dC.oA k (jH hk)).pass (lN (a':=ea a' λt=>if t=d then Own.many (h1 x) else γ t) (f:=λe=>Own.aG ok h1 res (e.g d) (e.tmps.getD d undef)) (by
   show _=Own.aG ok h1 res (if d=d then Own.many (h1 x) else γ d) _;rw[if_pos rfl])))) r
def bg.Di {Hf:List (EA->Own)} {os:List Oper} {ms:Meta} {o:Oper} {d:Nat} (z:AV) (k:Nat) (ds:List Nat) (y:EA->AV) (hk:Hf[k]?=some λ_=>Own.gone) (hg:o.guard=none) (ho:o.dst=some d) (hd:Nat.blt d c.n=true) (hx:∀a a':EA,(∀t∈ds,a.tmps.getD t undef=a'.tmps.getD t undef)->y a=y a') (c8:ds.contains d=false)
 (h:∀{γ:Nat->Own} F a I,br I a (Γ.only (o.looksAt ops))->Ok P (cr [k] (ea a γ) F 0 Hf) (kJ ds a++Γ.only (o.looksAt ops)) true o (y (ea a γ))/\∀I' v,(y (ea a γ)).h I' v->z.h I' v)
 (r:bg P c ops Q ((d,z)::Γ) (Hf.set k λa=>Own.is (y a) (a.tmps.getD d undef)) os ms):bg P c ops Q Γ Hf (o::os) (([k],some (k,d::ds))::ms):=
 bg.cons (u:=some ⟨k,d::ds,λa=>Own.is (y a) (a.tmps.getD d undef)⟩) (x:=z) (λv e=>by
  cases e;intro a a' hh;show Own.is (y a) _=Own.is (y a') _;rw[hx a a' λt ht=>(hh t (List.mem_cons_of_mem _ ht)).1,(hh d aJ).1]) (λF W0 I0 I γ a w Q U kk=>by
  unfold wpList;rw[if_pos (by simp[Region.wanted,hg])];obtain⟨h1,h2⟩:=h F a I U.env (γ:=γ);refine .inl (h1 _ I a w _ _ ((we ds).append U.env) U.step.bO U.own rfl λv I' w' hv s=>?_);rw[ho];have iT:d<c.n:=by simpa using hd
  have bf:=U.size;have bj:=U.put (d:=d) (x:=z) (v:=v) iT (h2 I' v hv) s;have Dj:(a.put (some d) v).tmps.getD d undef=v:=by simp[Act.put,bf,iT]
  have wN:y (ea (a.put (some d) v) γ)=y (ea a γ):=hx _ _ λt ht=>by
   have aY:d≠t:=λe=>by
    subst e;have:ds.contains d=true:=by simpa using ht
    rw[c8] at this;cases this
   simp[Act.put,aY]
  have dC:=(bj.CO (x:=y (ea a γ)) (v:=v) hv).oA k (jH hk);refine kk γ (λ_ _=>rfl) I' (a.put (some d) v) w' (St.pass (H:=(cr [k] (ea a γ) F 0 Hf).set k (Own.is (y (ea a γ)) v)) ?_ (lN (a':=ea (a.put (some d) v) γ) (f:=λa=>Own.is (y a) (a.tmps.getD d undef)) (by rw[Dj,wN])));rw[ho];exact dC) (by rw[ho];exact r)
def Dk {t:Nat} {g:Bool} {n:Nat} {Γ':Env} (he:br I a Γ') (ht:Env.get t Γ'=some (AV.ni n)):At (kJ [t] a++Γ') g (.tmp t) (.agg (fI (a.tmps.getD t undef))):=λI' a' Dl _=>by
 have h1:a'.tmps.getD t undef=a.tmps.getD t undef:=Dl t (AV.val (a.tmps.getD t undef)) (by simp[kJ,Env.get]);show(AV.agg (fI (a.tmps.getD t undef))).h I' (a'.tmps.getD t undef);rw[h1];obtain⟨cs,e,h2,h3⟩:=he t _ ht;rw[e];exact⟨cs,rfl,wI h3⟩
def bg.Dm {Hf:List (EA->Own)} {os:List Oper} {ms:Meta} {d t m:Nat} {zv:Value} {ty:TypeId} {p:String} {af:Array Edge} (k:Nat) (hk:Hf[k]?=some λ_=>Own.gone) (hd:Nat.blt d c.n=true) (hT:P.underlying T=some (.slice E)) (hE:Ty P E true sz m zv) (dV:zv.cells.size=sz) (kh:∀u∈zv.cells.toList,u.oneCell'=true)
 (bf:Nat.blt 0 sz=true) (lC:Nat.ble (1*sz) 16777216=true) (c8:[t].contains d=false) (ht:Env.get t (Γ.only ((⟨some d,.buildSlice T 1 #[(0,.tmp t)],ty,p,af,none⟩:Oper).looksAt ops))=some (AV.ni sz))
 (r:bg P c ops Q ((d,AV.any)::Γ) (Hf.set k λe=>Own.is (.rows sz [fI (e.tmps.getD t undef)]) (e.tmps.getD d undef)) os ms):bg P c ops Q Γ Hf (⟨some d,.buildSlice T 1 #[(0,.tmp t)],ty,p,af,none⟩::os) (([k],some (k,[d,t]))::ms):=
 bg.Di AV.any k [t] (λe=>.rows sz [fI (e.tmps.getD t undef)]) hk rfl rfl hd (λa b h=>by rw[h t aJ]) c8 (λF a I he=>by
  have hl:(fI (a.tmps.getD t undef)).length=sz:=wL (he t _ ht);refine⟨uz (ig:=[fI (a.tmps.getD t undef)]) (parts:=[(0,.tmp t)]) (ps:=[(0,fI (a.tmps.getD t undef))]) hT hE dV kh bf lC (bU.s (q:=sz) (by simp[ie]) hl aJ (Dk he ht) .nil) ?_ rfl (λr hr=>by rw[List.mem_singleton.1 hr];exact hl),λ_ _ _=>trivial⟩;generalize fI (a.tmps.getD t undef)=D at hl⊢;simp[filled,cm,hl]) r
def St.Dn {d t:Nat} (k:Nat) (U:St c I H Γ a w) (hk:H[k]?=some (Own.is (.rows sz [fI (a.tmps.getD t undef)]) (a.tmps.getD d undef))) (ht:Env.get t Γ=some (.agg D)) (hn:D.length=sz):St c I (H.set k Own.gone) ((d,.rows sz [D])::Γ) a w:=by
 have h:=U.CR k hk;have hv:=U.env t _ ht;have h0:=h.env d (.rows sz [fI (a.tmps.getD t undef)]) (by simp[Env.get]);refine⟨h.step,h.own,λs y e=>?_,h.size,h.defers⟩;simp only[Env.get] at e;cases hb:Nat.beq d s with
 |false=>rw[hb] at e;exact U.env s y (by simpa using e)
 |true=>
  rw[hb] at e;obtain rfl:d=s:=Nat.eq_of_beq_eq_true hb;simp at e;subst e
  exact wi (m:=[()]) (f:=λ_=>fI (a.tmps.getD t undef)) (g:=λ_=>D) h0 (λ_ _=>Df hv) λ_ _=>(wL (wK hv hn)).trans hn.symm
def Dp (P:Program) (ops:Array Oper) (Q:Exit->Act->World->Prop) (tail:List Oper):Exit->Act->World->Prop
 |.normal=>wpList P ops Q tail
 |e=>Q e
def St.Dq {id:Nat} {l:List Oper} (n:Nat) (ms:Meta) (U:St c I H Γ a w) (hm:P.follows .mixedOrders=true) (cI:mW (l.take n) (l.drop n) ms=true) (hd:((l.take n).all λo=>match o.dst with|some d=>Nat.blt d c.n|none=>true)=true)
 (run:bg P c l.toArray (Dp P l.toArray Q (l.drop n)) Γ (H.map λo _=>o) (l.take n) ms):(Code.region id l.toArray true).wp P Q a w:=by
 obtain⟨rs,h0,run,k⟩:=run;subst h0;have e:l.take n++l.drop n=l:=List.take_append_drop n l;have:=U.u7 (id:=id) (Q:=Q) (pre:=l.take n) (tail:=l.drop n) (rs:=rs) hm cI hd (by rw[e];exact run) λγ I' a' w' h=>by rw[e];exact k γ I' a' w' h
 rwa[e] at this
def St.wO {β:Type} {f:β->Own} {ts:List β} (n km:Nat) (t:β) (U:St c I H Γ a w) (hM:Own.many (H.drop n)=f t) (hk:(H.take n)[km]?=some (Own.many (ts.map f))):St c I ((H.take n).set km (Own.many ((ts++[t]).map f))) Γ a w:=by
 have h:=(U.tie (L:=H.drop n) n rfl).merge km hk;rw[hM] at h;rw[List.map_append];exact h
def St.wP (n:Nat) (U:St c I H Γ a w):St c I (H.drop n++H.take n) Γ a w:=by
 have h:=U.own;rw[<-List.take_append_drop n H] at h;obtain⟨h1,h2,h3⟩:=List.pairwise_append.1 h.apart;exact⟨U.step,⟨λo ho=>h.all o (by rcases List.mem_append.1 ho with ho|ho;exact List.mem_append_right _ ho;exact List.mem_append_left _ ho),List.pairwise_append.2 ⟨h2,h1,λy hy z hz=>(h3 z hz y hy).symm⟩⟩,U.env,U.size,U.defers⟩
def Dr {α:Type} {C:α->List AV} {ts:List α} {t:α}:ts.map C++[C t]=(ts++[t]).map C:=by simp
end
section
variable {P:Program} {c:Ctx} {I:Im} {H:List Own} {Γ:Env} {a:Act} {w:World} {Q:Exit->Act->World->Prop} {ops:Array Oper} {rest:List Oper}
variable {d:Nat} {dd:Option Tmp} {y z z' z2:Operand} {ty T T' E E':TypeId} {p:String} {af:Array Edge} {g:Bool} {gd:Option (Nat×Bool)} {n m:Nat} {zv:Value}
def wQ (P:Program) (fv:AV) (args:List AV) (h0:List Own) (res:AV):Prop:=
 ∀(I:Im) (w:World) (v:Value) (vs:Array Value),cx w I->fv.h I v->aO (cH h0) I w h0->bI I args vs.toList->
  ∃f first dX,v=.func (.func f) first dX/\iM P f/\Calls P f (first++vs++dX) w (jc ⟨w,I,0,cH h0⟩ (λ_:Unit=>True) (λ_=>h0) (λ_=>res))
def c5.val {f:FuncId} {args dX:List AV} {h0:List Own} {res:AV} (h:c5 P f (args++dX) h0 h0 res):wQ P (.fn f dX) args h0 res:=λI w v vs hm ⟨cs,e,hc⟩ ho ha=>
 ⟨f,#[],cs,e,h.1,h.2 I w (#[]++vs++cs) hm ho (by simpa using ha.append hc)⟩
def Step.Ds {F:Nat->Prop} {I':Im} {w':World} (h:Step I w I' w'):cE F I w I' w':=
 ⟨h.le,λb hb _=>h.cR b hb,h.bO,⟨h.below.os,h.below.tape,h.below.output,h.below.size,λk hk _=>h.below.block k hk⟩⟩
def ga.frame {fv:AV} {args:List AV} {h0:List Own} {res:AV} (h:ga P fv args res):wQ P fv args h0 res:=λI w v vs hm hf ho ha=>
 let⟨f,first,dX,e,mM,hc⟩:=h I w v vs hm hf ha
 ⟨f,first,dX,e,mM,hc.mono λe w' he=>by
   cases e with
   |panicked _=>exact he.elim
   |outgrown=>exact he.elim
   |returned u=>
    obtain⟨I',U,hx⟩:=he
    exact⟨(),I',trivial,U.Ds,(ho.step U).weaken λb hb=>Or.inr hb,hx⟩⟩
end
section
variable {P:Program} {c:Ctx} {I I':Im} {H:List Own} {Γ:Env} {a:Act} {w:World} {E T:TypeId} {sz:Nat} {v:Value} {D D':List AV} {L L':List Own} {K:er}
def St.wR (n:Nat) (U:St c I H Γ a w):∃I',St c I' (H.take n) Γ a w/\Im.le I I'/\bR I' w (Own.many (H.drop n))/\(Own.many (H.drop n)).ok I w:=by
 have h:=U.tie n rfl;have ho:=(h.own.all (Own.many (H.drop n)) aJ).1;obtain⟨I',h2,hl,aX⟩:=h.oZ (O:=Own.many (H.drop n)) (H.take n).length aJ;refine⟨I',?_,hl,aX,ho⟩;have h3:=h2.drop (H.take n).length;rwa[List.set_append_right _ _ (Nat.le_refl _),List.take_left] at h3
def bR.list (h:bR I' w (Own.many L)) (U:L'.Sublist L):bR I' w (Own.many L'):=λb cs T fr ⟨o,ho,e⟩ k=>h b cs T fr ⟨o,U.subset ho,e⟩ k
def Dt (h:(Own.many L).ok I w) (U:L'.Sublist L):(Own.many L').ok I w:=⟨λo ho=>h.1 o (U.subset ho),h.2.sublist U⟩
def wS (h:ec I D D') (k:(AV.agg D).h I v):(AV.agg D').h I v:=by
 obtain⟨cs,e,k⟩:=k;exact⟨cs,e,h _ k⟩
def St.nj {x y:AV} (t:Nat) (U:St c I H Γ a w) (ht:Env.get t Γ=some x) (h:∀v,x.h I v->y.h I v):St c I H ((t,y)::Γ) a w:=U.BO h ht
def Du {t:NT} {y:bB} {zs:List AV} (n:Nat) (hH:(H.drop n).take 4=t.owns K) (hy:t.plain=y) (zf:∀Γ:Env,(∀k,Env.get (k+1) Γ=Env.get (k+1) (eF 0 (t.av::zs)))->jJ 1 zs Γ) (c:Ctx) (I:Im) (a:Act) (w:World) (U:St c I H (eF 0 (t.av::zs)) a w):∃I2 H2 Γ2,St c I2 H2 Γ2 a w/\jJ 0 (y.av::zs) Γ2:=by
 subst hy;obtain⟨I',h,hl,aX,ho⟩:=U.wR 0;have oY:(t.owns K).Sublist (H.drop 0):=by rw[<-hH];exact(List.take_sublist 4 _).trans (List.drop_sublist n H)
 have h2:=h.nj (x:=t.av) (y:=t.plain.av) 0 rfl λv hv=>wS (NT.jN (Dt ho oY) (aX.list oY) hl) hv;exact⟨I',_,_,h2,rfl,zf _ λk=>rfl⟩
def wT {t:NT} {y:bB} {z:AV} (n:Nat) (hH:(H.drop n).take 4=t.owns K) (hy:t.plain=y) (c:Ctx) (I:Im) (a:Act) (w:World) (U:St c I H (eF 0 [t.av,z]) a w):∃I2 H2 Γ2,St c I2 H2 Γ2 a w/\jJ 0 [y.av,z] Γ2:=
 Du (zs:=[z]) n hH hy (λΓ h=>⟨h 0,trivial⟩) c I a w U
def o9 {u:Value} {l:List VT} {m:List al} {z:AV} (n:Nat) (hH:H[n]?=some (Own.ao K u l)) (hy:l.map VT.x=m) (c:Ctx) (I:Im) (a:Act) (w:World) (U:St c I H (eF 0 [.val u,z]) a w):∃I2 H2 Γ2,St c I2 H2 Γ2 a w/\jJ 0 [bN m,z] Γ2:=by
 subst hy;obtain⟨I',h,hl,aX⟩:=U.oZ n hH;have ho:=(U.own.all _ (List.mem_of_getElem? hH)).1;have h2:=h.nj (x:=.val u) (y:=bN (eT l)) 0 rfl λv (hv:v=u)=>by rw[hv];exact aX.ao ho hl
 exact⟨I',_,_,h2,rfl,rfl,trivial⟩
def bm.Dv {f:FuncId} {args:List AV} {y:bB} (h:bm P f args [] (λt:NT=>t.plain=y) (λt=>t.owns K) (λt=>AV.agg t.cells)):Fn P f args y.av:=h.frozen λt c I a w ht U=>by
 subst ht;obtain⟨I',h,hl,aX,ho⟩:=U.wR 0;exact⟨I',_,_,h.nj (x:=t.av) (y:=t.plain.av) 0 rfl λv hv=>wS (NT.jN ho aX hl) hv⟩
def bm.ao {f:FuncId} {args:List AV} {m:List al} (h:bm P f args [] (λp:Value×List VT=>p.2.map VT.x=m) (λp=>[Own.ao K p.1 p.2]) (λp=>AV.val p.1)):Fn P f args (bN m):=h.frozen λp c I a w hp U=>by
 subst hp;obtain⟨I',h,hl,aX⟩:=U.oZ (O:=Own.ao K p.1 p.2) 0 rfl;have ho:=(U.own.all (Own.ao K p.1 p.2) aJ).1;exact⟨I',_,_,h.nj (x:=.val p.1) (y:=bN (eT p.2)) 0 rfl λv (hv:v=p.1)=>by rw[hv];exact aX.ao ho hl⟩
def St.Dw {α:Type} (E:TypeId) (sz:Nat) (C:α->List AV) (O:α->List Own) (U:St c I H Γ a w):St c I (H++[Own.tree (.slice none 0 0) E sz C O []]) Γ a w:=by
 have h:=(U.qg (sz:=sz) E).jO;have h2:=St.join (H:=H) (L:=[Own.row (.slice none 0 0) E sz [],Own.many []]) (by simpa using h);exact h2
def St.Dx {u:Value} {l:List VT} (n s:Nat) (U:St c I H Γ a w) (hH:H[n]?=some (Own.ao K u l)) (ht:Env.get s Γ=some (.val u)):∃I',St c I' (H.set n Own.gone) ((s,bN (eT l))::Γ) a w:=by
 obtain⟨I',h,hl,aX⟩:=U.oZ n hH;have ho:=(U.own.all _ (List.mem_of_getElem? hH)).1;exact⟨I',h.nj s ht λv (hv:v=u)=>by rw[hv];exact aX.ao ho hl⟩
end
def wU:∀l:List al,gr l<=6*(l.length+(l.map λv=>v.aA.length).sum)
 |[]=>by simp[gr]
 |v::l=>by
  have h:=wU l;unfold gr at h⊢;simp only[List.map_cons,List.sum_cons,List.length_cons,ew];omega
def wV {α:Type} {f:α->Nat} {c:Nat}:∀{l:List α},(∀x∈l,f x<=c)->(l.map f).sum<=l.length*c
 |[],_=>by simp
 |x::l,h=>by
  have h1:=h x aJ;have h2:=wV (l:=l) λy hy=>h y (by simp[hy]);simp only[List.map_cons,List.sum_cons,List.length_cons,Nat.add_mul,Nat.one_mul];omega
def l8 {α:Type} {f g:α->Nat} {c:Nat} (h:∀x,f x<=c*(1+g x)):∀l:List α,(l.map f).sum<=c*(l.length+(l.map g).sum)
 |[]=>by simp
 |x::l=>by
  have h1:=h x;have h2:=l8 h l;simp only[List.map_cons,List.sum_cons,List.length_cons];have e:c*(l.length+1+(g x+(l.map g).sum))=c*(1+g x)+c*(l.length+(l.map g).sum):=by rw[<-Nat.mul_add];congr 1;omega
  omega
end Go.Proofs.YtldbakcpcfdlaaaGreat

/- Part 54: contracts of functions, plain facts. -/
import Derived.Test.YtdanidpleofjgaaGreatP48
set_option linter.all false
set_option maxRecDepth 100000
set_option maxHeartbeats 4000000
namespace Go.Proofs.YtdanidpleofjgaaGreat
open Go Go.RowKit Tryz
attribute [local irreducible] wpList Code.wp Ok
def T6:
 Fn prog 24 [] (fw.av):=by
 refine Fn.go 27 func24 ntmps24 (λW I a U=>?_);refine sr<|U.alloc rfl dx dB λb0 I a w U=>?_;refine zt ?_;refine U.o (.bd wm aW.nil) λU=>?_;refine U.alloc rfl dx wm λb1 I a w U=>?_;refine ax λI a w U=>?_;have U:=U.fV (sz:=7) 43;have U:=U.fV (sz:=1) 41;refine ax λI a w U=>?_;refine St.lo (σ:=Nat×Value) (2::(run 11 5 [])) ⟨λ⟨k,p⟩=>[(2,AV.int k)],λ⟨k,p⟩=>[Own.box b0 28 [AV.val (.int .i64 0),AV.rows 7 [],AV.rows 15 [],AV.rows 13 [],AV.rows 1 []],Own.box b1 28 [AV.int 0,AV.val p,AV.val (.slice none 0 0),AV.val (.slice none 0 0),AV.val (.slice none 0 0)],Own.row p 43 7 ((zO k).map Server.cells),Own.row (.slice none 0 0) 41 1 []],λ⟨k,p⟩=>k<=4⟩ (λ⟨k,p⟩=>4-k) (0,.slice none 0 0) U ?aL ?bG;case aL=>exact Nat.zero_le _
 rintro⟨k,p⟩ I a w al U;have hk:k<=4:=al;dsimp only at U;refine aB λI a w U=>?_;refine cz (λae=>?_) λae=>?_
 .refine zt ?_;refine U.dt 5 ?_;simp only[TD];refine dJ ?_;refine .o (cr (agc k om) (ai (.t rfl) aC)) ?_;refine .o (.li [(wF k).cells] AU (.u .nil)) ?_;refine .nil ?_;intro I a w U;refine U.append 2 rfl pH cq rfl .tt .r rfl (by rw[List.length_map,Kv];simp;omega) λlQ a w U=>?_;refine U.o .fv λU=>?_;try have Sk:=U.dZ 2 rfl
  refine ax λI a w U=>?_;rw[bV] at U;refine aN λI a w U=>?_;exact U.ag (k+1,lQ) (by show k+1<=4;omega)
 refine zt ?_;refine ax λI a w U=>?_;refine St.lo (σ:=Nat×Value) (3::(run 10 16 [])) ⟨λ⟨j,r⟩=>[(3,AV.int j)],λ⟨j,r⟩=>[Own.box b0 28 [AV.val (.int .i64 0),AV.rows 7 [],AV.rows 15 [],AV.rows 13 [],AV.rows 1 []],Own.box b1 28 [AV.int 0,AV.val p,AV.val (.slice none 0 0),AV.val (.slice none 0 0),AV.val r],Own.row p 43 7 ((zO k).map Server.cells),Own.row r 41 1 ((Dy j).map dQ)],λ⟨j,r⟩=>j<=2⟩ (λ⟨j,r⟩=>2-j) (0,.slice none 0 0) U ?ei ?jK;case ei=>exact Nat.zero_le _
 rintro⟨j,r⟩ I a w al U;have hj:j<=2:=al;dsimp only at U;refine aB λI a w U=>?_;refine cz (λah=>?_) λah=>?_
 .refine aH λI a w U=>?_;refine U.l0 λb22 I a w U=>?_;obtain⟨I,U⟩:=U.fr 4 22;refine U.o (.li [dQ []] Dg (.v .nil)) λU=>?_;refine U.append 3 rfl yw qz rfl .tt .r rfl (by rw[List.length_map,TA];simp;omega) λw8 a w U=>?_;rw[bV] at U;refine U.o .fv λU=>?_;try have Rr:=U.dZ 3 rfl
  refine aY λI a w U=>?_;have U:=U.drop 4;exact U.ag (j+1,w8) (by show j+1<=2;omega)
 refine wp_exit<|cM<|cM<|fI<|bk<|wp_seq ?_;have zT:k=4:=by omega
 have hj2:j=2:=by omega
 subst zT;subst hj2;obtain⟨I,U⟩:=U.fu 2 1 1;obtain⟨I,U⟩:=U.fu 3 4 1;have U:=U.mo (q:=2) 1 rfl rfl (eW 15 _);have U:=U.mo (q:=3) 1 rfl rfl (eW 13 _);refine aB λI a w U=>?_;refine U.ret rfl (.cons (.sx 0) ba.nil) ?_;rfl
def ahq (l:List az):
 Fn prog 53 [cQ l,cQ l] (AV.bool true):=by
 refine Fn.go 27 func53 ntmps53 (λW I a U=>?_);have hle:=U.dE (t:=0) rfl;refine gY λI a w U=>?_;refine U.cd (λae=>?_) λae=>?_
 .exfalso;simp at ae;skip
 refine ax λI a w U=>?_;refine St.lo (σ:=Nat) (run 2 4 (run 16 11 [])) ⟨λk=>[(5,AV.int k)],λk=>[],λk=>k<=l.length⟩ (λk=>l.length-k) 0 U ?aL ?bG;case aL=>exact Nat.zero_le _
 rintro k I a w al U;have hk:k<=l.length:=al;refine aY λI a w U=>?_;refine cz (λah=>?_) λah=>?_
 .refine zt ?_;refine U.dk ?_;refine mB ?_;refine .o (.c2 (agm (ab l k))) ?_;refine aX ?_;refine .nil ?_;intro I a w U;refine bk ?_;refine U.cd (λaj=>?_) λaj=>?_
  .exfalso;simp at aj;skip
  refine aN λI a w U=>?_;exact U.ag (k+1) (ah)
 refine zt ?_;refine bc ?_;rfl
def pq (x:aI) (h:ue x):
 Fn prog 20 [x.av,x.av] (AV.bool true):=by
 refine Fn.go 105 func20 ntmps20 (λW I a U=>?_);obtain⟨⟨h1,h2⟩,⟨h3,h4⟩,⟨h5,h6⟩,h7,h8⟩:=h;refine De λI a w U=>?_;refine lI λI a w U=>?_;refine U.q .F (.cl (ahq ..)) λU=>?_;refine aB λI a w U=>?_;refine U.cd (λae=>?_) λae=>?_
 .exfalso;simp at ae;skip
 refine ax λI a w U=>?_;refine St.lo (σ:=Nat) (run 2 4 (run 19 48 [])) ⟨λk=>[(5,AV.int k)],λk=>[],λk=>k<=x.aw.length⟩ (λk=>x.aw.length-k) 0 U ?aL ?bG;case aL=>exact Nat.zero_le _
 rintro k I a w al U;have hk:k<=x.aw.length:=al;refine ct λI a w U=>?_;refine cz (λah=>?_) λah=>?_
 .refine zt ?_;refine U.dk ?_;refine lh ?_;refine .o (.c2 (TR (ab x.aw k) (h2 _ (bB ah)).1)) ?_;refine aX ?_;refine .nil ?_;intro I a w U;refine bk ?_;refine U.cd (λaj=>?_) λaj=>?_
  .exfalso;simp at aj;skip
  refine aN λI a w U=>?_;exact U.ag (k+1) (ah)
 refine zt ?_;refine ax λI a w U=>?_;refine St.lo (σ:=Nat) (4::(6::(run 19 67 []))) ⟨λk=>[(6,AV.int k)],λk=>[],λk=>k<=x.calls.length⟩ (λk=>x.calls.length-k) 0 U ?ei ?jK;case ei=>exact Nat.zero_le _
 rintro k I a w al U;have hk:k<=x.calls.length:=al;refine ct λI a w U=>?_;refine cz (λaJ=>?_) λaJ=>?_
 .refine zt ?_;refine U.dk ?_;refine lh ?_;refine .o (.c2 (ago (ab x.calls k) (h6 _ (bB aJ)).1)) ?_;refine aX ?_;refine .nil ?_;intro I a w U;refine bk ?_;refine U.cd (λaP=>?_) λaP=>?_
  .exfalso;simp at aP;skip
  refine aN λI a w U=>?_;exact U.ag (k+1) (aJ)
 refine zt ?_;refine ax λI a w U=>?_;refine St.lo (σ:=Nat) (4::(7::(run 19 86 []))) ⟨λk=>[(7,AV.int k)],λk=>[],λk=>k<=x.seen.length⟩ (λk=>x.seen.length-k) 0 U ?iN ?pj;case iN=>exact Nat.zero_le _
 rintro k I a w al U;have hk:k<=x.seen.length:=al;refine ct λI a w U=>?_;refine cz (λbn=>?_) λbn=>?_
 .refine zt ?_;refine U.dk ?_;refine lh ?_;refine .o (.cl (vC (ab x.seen k))) ?_;refine aX ?_;refine .nil ?_;intro I a w U;refine bk ?_;refine U.cd (λbl=>?_) λbl=>?_
  .exfalso;simp at bl;skip
  refine aN λI a w U=>?_;exact U.ag (k+1) (bn)
 refine zt ?_;refine bc ?_;rfl
section
variable {P:Program} {c:Ctx} {I:Im} {H:List Own} {Γ:Env} {a:Act} {w:World} {Q:Exit->Act->World->Prop} {ops:Array Oper} {rest os:List Oper} {Hf:List (Act->Own)} {ms:Meta} {E T:TypeId} {sz:Nat} {l:List (List AV)} {v:Value} {x:AV}
def bX.open {base:Nat->Prop} {k:Nat} {o:Own} {L:List Own} (h:bX base I w H) (hk:H[k]?=Option.some o) (hb:∀b,(∃p∈L,p.gB b)->o.gB b) (ho:∀p∈L,p.ok I w) (hL:L.Pairwise m5):bX base I w (H.set k Own.gone++L):=by
 refine⟨λy hy=>?_,List.pairwise_append.2 ⟨rE h.apart λb e=>e.elim,hL,λy hy z hz b e e'=>?_⟩⟩
 .rcases List.mem_append.1 hy with hy|hy
  .rcases List.mem_or_eq_of_mem_set hy with hy|rfl
   .exact h.all y hy
   exact⟨trivial,λb e=>e.elim⟩
  exact⟨ho y hy,λb e=>(h.all o (List.mem_of_getElem? hk)).2 b (hb b ⟨y,hy,e⟩)⟩
 obtain⟨i,hi⟩:=List.mem_iff_getElem?.1 hy;rw[List.getElem?_set] at hi;split at hi
 .split at hi
  .cases hi;exact e
  cases hi
 rename_i aZ;exact Ac h.apart (λe=>aZ e.symm) hi hk b e (hb b ⟨z,hz,e'⟩)
def bX.close {base:Nat->Prop} {o:Own} {L:List Own} (h:bX base I w (H++L)) (hb:∀b,o.gB b->∃p∈L,p.gB b) (ho:o.ok I w):bX base I w (H++[o]):=by
 obtain⟨h1,h2,h3⟩:=List.pairwise_append.1 h.apart;refine⟨λy hy=>?_,List.pairwise_append.2 ⟨h1,by simp,λy hy z hz b e e'=>?_⟩⟩
 .rcases List.mem_append.1 hy with hy|hy
  .exact h.all y (List.mem_append_left _ hy)
  obtain rfl:=List.mem_singleton.1 hy;exact⟨ho,λb e=>let⟨p,hp,e'⟩:=hb b e;(h.all p (List.mem_append_right _ hp)).2 b e'⟩
 obtain rfl:=List.mem_singleton.1 hz;obtain⟨p,hp,e2⟩:=hb b e';exact h3 y hy p hp b e e2
def aK.ahr {α:Type} {d:Nat} {f:FuncId} {ys:Array Operand} {ts:Array TypeId} {ty:TypeId} {p:String} {af:Array Edge} {xs:List AV} {ok:α->Prop} {h1:α->List Own} {res:α->AV} (g:Value->List Own) (k:Nat) (hk:Hf[k]?=Option.some λ_=>Own.gone) (hd:Nat.blt d c.n=true) (hf:bT P f xs [] ok h1 res)
 (hg:∀x I v,ok x->(res x).h I v->h1 x=g v) (gK:∀I a,cY I a (Γ.only ((⟨Option.some d,.call ⟨.value (.func f),ys,ts⟩,ty,p,af,none⟩:Oper).looksAt ops))->true=true->c9 I xs (ys.map a.eval).toList)
 (r:aK P c ops Q ((d,AV.any)::Γ) (Hf.set k λa=>Own.res ok res g (a.tmps.getD d undef)) os ms):aK P c ops Q Γ Hf (⟨Option.some d,.call ⟨.value (.func f),ys,ts⟩,ty,p,af,none⟩::os) (([k],Option.some (k,[d]))::ms):=
 aK.cons (u:=Option.some ⟨k,[d],λa=>Own.res ok res g (a.tmps.getD d undef)⟩) (x:=AV.any) (ta (g:=λv=>Own.res ok res g v) λv v' e=>e▸rfl) (λF W0 I0 I a w Q U kk=>by
  refine U.bq [] hf gK rfl aM hd λx I' a' w' hx bW=>?_;have bW:=bW.pass (show fill (hole (eo [k] a F 0 Hf) []) [] (h1 x)=eo [k] a F 0 Hf++h1 x by simp[fill,hole]);have hv:(res x).h I' (a'.tmps.getD d undef):=bW.env d (res x) (by simp[Env.get]);have e:=hg x I' _ hx hv;have dO:=bW.own.close (o:=Own.res ok res g (a'.tmps.getD d undef)) (λb h=>by rw[e];exact h) ⟨⟨x,hx,hv⟩,λo ho=>(bW.own.all o (List.mem_append_right _ (by rw[e];exact ho))).1,by rw[<-e];exact(List.pairwise_append.1 bW.own.apart).2.1⟩;have et:St ⟨W0.1,I0,c.n,W0.2⟩ I' (eo [k] a F 0 Hf++[Own.res ok res g (a'.tmps.getD d undef)]) ((d,AV.any)::Γ.only ((⟨Option.some d,.call ⟨.value (.func f),ys,ts⟩,ty,p,af,none⟩:Oper).looksAt ops)) a' w':=
   ⟨bW.step,dO,λt y e=>by
    simp only[Env.get] at e;cases hb:Nat.beq d t with
    |true=>rw[hb] at e;simp at e;subst e;trivial
    |false=>rw[hb] at e;exact bW.env t y (by simp only[Env.get,hb];exact e),bW.size,bW.defers⟩
  exact kk I' a' w' ((et.s8 k (kh hk)).pass (mw (a':=a') (f:=λa=>Own.res ok res g (a.tmps.getD d undef)) rfl))) r
def St.ahs {α:Type} {d:Nat} {ok:α->Prop} {h1:α->List Own} {res:α->AV} {g:Value->List Own} (k:Nat) (U:St c I H Γ a w) (hk:H[k]?=Option.some (Own.res ok res g (a.tmps.getD d undef))) (hg:∀x I v,ok x->(res x).h I v->h1 x=g v):∃x,ok x/\St c I (H.set k Own.gone++h1 x) ((d,res x)::Γ) a w:=by
 obtain⟨⟨x,hx,hv⟩,h2,h3⟩:=(U.own.all _ (List.mem_of_getElem? hk)).1;have e:=hg x I _ hx hv;refine⟨x,hx,U.step,by rw[e];exact U.own.open hk (λb h=>h) h2 h3,λt y e=>?_,U.size,U.defers⟩;simp only[Env.get] at e;cases hb:Nat.beq d t with
 |true=>rw[hb] at e;obtain rfl:d=t:=Nat.eq_of_beq_eq_true hb;simp at e;subst e;exact hv
 |false=>rw[hb] at e;exact U.env t y (by simpa using e)
def bT.Cv {α:Type} {f:FuncId} {xs:List AV} {h0:List Own} {ok:α->Prop} {O:α->Own} {O':Own} {res:α->AV} {pw:AV} (h:bT P f xs h0 ok (λx=>[O x]) res) (hb:∀x,(O x).gB=O'.gB) (ho:∀x,ok x->∀I w,(O x).ok I w->O'.ok I w) (hr:∀x,ok x->∀I v,(res x).h I v->pw.h I v):gG P f xs h0 [O'] pw:=
 ⟨h.1,λI w vs hm hw ha=>(h.2 I w vs hm hw ha).mono λe w' he=>by
   cases e with
   |panicked _=>exact he.elim
   |outgrown=>exact he.elim
   |returned v=>
    obtain⟨x,I',hx,be,dO,hv⟩:=he
    refine⟨(),I',trivial,be,⟨λo hm=>?_,by simp⟩,hr x hx _ _ hv⟩
    obtain rfl:=List.mem_singleton.1 hm
    obtain⟨q1,q2⟩:=dO.all (O x) (List.mem_singleton.2 rfl)
    exact⟨ho x hx _ _ q1,λb e=>q2 b (by rw[hb];exact e)⟩⟩
def St.Fu {α:Type} {ok:α->Prop} {f:α->AV} {b:Nat} {m:List AV} (k j:Nat) (U:St c I H Γ a w) (hk:H[k]?=Option.some (Own.box b T m)) (hj:m[j]?=Option.some (AV.some ok f)):∃x,ok x/\St c I (H.set k (Own.box b T (m.set j (f x)))) Γ a w:=by
 obtain⟨⟨cs,hb,hl⟩,_⟩:=U.own.all _ (List.mem_of_getElem? hk);obtain⟨u,hu,⟨x,hx,hv⟩,h1⟩:=hl.get hj;exact⟨x,hx,U.step,U.own.same hk rfl ⟨cs,hb,(hl.set j hv h1).cast rfl (CP hu)⟩,U.env,U.size,U.defers⟩
def St.aht {α:Type} {ok:α->Prop} {f:α->List AV} {b:Nat} {r:List AV} (k:Nat) (U:St c I H Γ a w) (hk:H[k]?=Option.some (Own.box b T r)) (hf:∀I cs,bx I r cs->∃x,ok x/\bx I (f x) cs):∃x,ok x/\St c I (H.set k (Own.box b T (f x))) Γ a w:=by
 obtain⟨⟨cs,hb,hl⟩,_⟩:=U.own.all _ (List.mem_of_getElem? hk);obtain⟨x,hx,h⟩:=hf I _ hl;exact⟨x,hx,U.step,U.own.same hk rfl ⟨cs,hb,h⟩,U.env,U.size,U.defers⟩
def nI {α:Type} {ok:α->Prop} {f:α->AV} (h:∀x,(f x).One):(AV.some ok f).One:=λI v ⟨x,_,k⟩=>h x I v k
def bx.cL {I:Im} {x:AV} {l:List AV} {cs:List Value} (h:bx I (x::l) cs):∃u us,cs=u::us/\(x.h I u/\u.oneCell'=true)/\bx I l us:=by
 cases cs with
 |nil=>exact h.elim
 |cons u us=>exact⟨u,us,rfl,h.1,h.2⟩
def bx.none {I:Im} {cs:List Value} (h:bx I [] cs):cs=[]:=by
 cases cs with
 |nil=>rfl
 |cons u us=>exact h.elim
def bT.ahu {α:Type} {f:FuncId} {xs:List AV} {h0:List Own} {ok:α->Prop} {O:α->Own} {v:α->Value} {l:α->List (List AV)} (h:bT P f xs h0 ok (λx=>[O x,Own.row (v x) E sz (l x)]) (λx=>AV.val (v x))):bT P f xs h0 ok (λx=>[O x]) (λx=>AV.rows sz (l x)):=
 ⟨h.1,λI w vs hm hw ha=>(h.2 I w vs hm hw ha).mono λe w' he=>by
   cases e with
   |panicked _=>exact he.elim
   |outgrown=>exact he.elim
   |returned u=>
    obtain⟨x,I',hx,be,dO,hv⟩:=he
    obtain rfl:u=v x:=hv
    have U:St ⟨w,I,0,dY h0⟩ I' [O x,Own.row (v x) E sz (l x)] [] {tmps:=#[],defers:=[]} w':=⟨be,dO,λt y e=>by simp[Env.get] at e,rfl,rfl⟩
    obtain⟨I2,et,hf⟩:=U.rI 1 rfl
    have kH:=et.drop 1
    exact⟨x,I2,hx,kH.step,kH.own,hf⟩⟩
def bx.split {I:Im} {l m:List AV} {cs:List Value} (h:bx I (l++m) cs):bx I l (cs.take l.length)/\bx I m (cs.drop l.length):=
 ⟨(h.take l.length).cast bt rfl,(h.drop l.length).cast bt rfl⟩
def St.Fv {α:Type} {ok:α->Prop} {f:α->List AV} {r:List AV} (k i:Nat) (U:St c I H Γ a w) (hk:H[k]?=Option.some (Own.row v E sz l)) (hi:l[i]?=Option.some r) (hf:∀I cs,bx I r cs->∃x,ok x/\bx I (f x) cs) (hn:∀x,(f x).length=r.length):∃x,ok x/\St c I (H.set k (Own.row v E sz (l.set i (f x)))) Γ a w:=by
 obtain⟨⟨cN,h⟩,_⟩:=U.own.all _ (List.mem_of_getElem? hk);have jE:i<l.length:=(List.getElem?_eq_some_iff.1 hi).1;rcases h with⟨h0,_⟩|⟨b,cap,cur,e,h0,hb,h3,h4,h5,hl⟩
 .subst h0;simp at jE
 have e1:l=l.take i++r::l.drop (i+1):=by
  obtain⟨_,rfl⟩:=List.getElem?_eq_some_iff.1 hi;simp
 have e2:∀y,l.set i y=l.take i++y::l.drop (i+1):=λy=>by rw[List.set_eq_take_append_cons_drop,if_pos jE]
 have vw:=hl;rw[e1] at vw;simp only[List.flatten_append,List.flatten_cons] at vw;rw[<-e1] at vw;obtain⟨p1,p2⟩:=vw.split;obtain⟨p3,p4⟩:=p2.split;obtain⟨x,hx,p5⟩:=hf I _ p3;refine⟨x,hx,U.step,U.own.same hk rfl ⟨λy hy=>?_,.inr ⟨b,cap,cur,by rw[List.length_set];exact e,h0,hb,by rw[List.length_set];exact h3,h4,h5,?_⟩⟩,U.env,U.size,U.defers⟩
 .rcases List.mem_or_eq_of_mem_set hy with hy|rfl
  .exact cN y hy
  rw[hn];exact cN r (List.mem_of_getElem? hi)
 rw[e2,List.flatten_append,List.flatten_cons,List.length_append,List.length_cons,List.length_take,List.length_drop,show min i l.length+(l.length-(i+1)+1)=l.length from by omega];refine(p1.append (p5.append p4)).cast rfl ?_;rw[List.take_append_drop,List.take_append_drop]
end
def ahv {I:Im} {cs:List Value} (h:bx I zQ cs):∃m:az,(lL m.aU/\lL m.to)/\bx I m.cells cs:=by
 unfold zQ at h;obtain⟨u0,us,rfl,⟨⟨k0,n0,e0⟩,o0⟩,h⟩:=h.cL;obtain⟨u1,us,rfl,⟨⟨k1,n1,e1⟩,o1⟩,h⟩:=h.cL;obtain⟨u2,us,rfl,⟨⟨k2,n2,e2⟩,o2⟩,h⟩:=h.cL;obtain⟨u3,us,rfl,⟨⟨k3,n3,e3⟩,o3⟩,h⟩:=h.cL;obtain⟨u4,us,rfl,⟨⟨k4,n4,e4⟩,o4⟩,h⟩:=h.cL;obtain⟨u5,us,rfl,⟨⟨k5,n5,e5⟩,o5⟩,h⟩:=h.cL;obtain⟨u6,us,rfl,⟨⟨k6,n6,e6⟩,o6⟩,h⟩:=h.cL;obtain⟨u7,us,rfl,⟨⟨k7,n7,e7⟩,o7⟩,h⟩:=h.cL;obtain⟨u8,us,rfl,⟨⟨k8,n8,e8⟩,o8⟩,h⟩:=h.cL;obtain⟨u9,us,rfl,⟨⟨k9,n9,e9⟩,o9⟩,h⟩:=h.cL;obtain⟨KO,us,rfl,⟨⟨kV,n10,xl⟩,Cw⟩,h⟩:=h.cL;obtain⟨T7,us,rfl,⟨⟨k11,n11,BQ⟩,K9⟩,h⟩:=h.cL;obtain⟨T8,us,rfl,⟨⟨k12,n12,La⟩,Lb⟩,h⟩:=h.cL;obtain⟨u13,us,rfl,⟨⟨k13,n13,Lc⟩,Ld⟩,h⟩:=h.cL;obtain⟨u14,us,rfl,⟨⟨k14,n14,BW⟩,Le⟩,h⟩:=h.cL;obtain rfl:=h.none;exact⟨⟨k0,k1,k2,k3,k4,⟨k5,k6⟩,k7,k8,k9,kV,k11,k12,k13,k14⟩,⟨n1,n2⟩,⟨e0,o0⟩,⟨e1,o1⟩,⟨e2,o2⟩,⟨e3,o3⟩,⟨e4,o4⟩,⟨e5,o5⟩,⟨e6,o6⟩,⟨e7,o7⟩,⟨e8,o8⟩,⟨e9,o9⟩,⟨xl,Cw⟩,⟨BQ,K9⟩,⟨La,Lb⟩,⟨Lc,Ld⟩,⟨BW,Le⟩,trivial⟩
def ahC {I:Im} {m:az} {v:Value} (hm:lL m.aU/\lL m.to) (h:m.av.h I v):(AV.agg zQ).h I v:=by
 obtain⟨cs,rfl,h⟩:=h;refine⟨cs,rfl,?_⟩;revert h;generalize cs.toList=l;intro h;unfold az.cells at h;obtain⟨u0,us,rfl,⟨e0,o0⟩,h⟩:=h.cL;obtain⟨u1,us,rfl,⟨e1,o1⟩,h⟩:=h.cL;obtain⟨u2,us,rfl,⟨e2,o2⟩,h⟩:=h.cL;obtain⟨u3,us,rfl,⟨e3,o3⟩,h⟩:=h.cL;obtain⟨u4,us,rfl,⟨e4,o4⟩,h⟩:=h.cL;obtain⟨u5,us,rfl,⟨e5,o5⟩,h⟩:=h.cL;obtain⟨u6,us,rfl,⟨e6,o6⟩,h⟩:=h.cL;obtain⟨u7,us,rfl,⟨e7,o7⟩,h⟩:=h.cL;obtain⟨u8,us,rfl,⟨e8,o8⟩,h⟩:=h.cL;obtain⟨u9,us,rfl,⟨e9,o9⟩,h⟩:=h.cL;obtain⟨KO,us,rfl,⟨xl,Cw⟩,h⟩:=h.cL;obtain⟨T7,us,rfl,⟨BQ,K9⟩,h⟩:=h.cL;obtain⟨T8,us,rfl,⟨La,Lb⟩,h⟩:=h.cL;obtain⟨u13,us,rfl,⟨Lc,Ld⟩,h⟩:=h.cL;obtain⟨u14,us,rfl,⟨BW,Le⟩,h⟩:=h.cL;obtain rfl:=h.none;exact⟨⟨⟨_,trivial,e0⟩,o0⟩,⟨⟨_,hm.1,e1⟩,o1⟩,⟨⟨_,hm.2,e2⟩,o2⟩,⟨⟨_,trivial,e3⟩,o3⟩,⟨⟨_,trivial,e4⟩,o4⟩,⟨⟨_,trivial,e5⟩,o5⟩,⟨⟨_,trivial,e6⟩,o6⟩,⟨⟨_,trivial,e7⟩,o7⟩,⟨⟨_,trivial,e8⟩,o8⟩,⟨⟨_,trivial,e9⟩,o9⟩,⟨⟨_,trivial,xl⟩,Cw⟩,⟨⟨_,trivial,BQ⟩,K9⟩,⟨⟨_,trivial,La⟩,Lb⟩,⟨⟨_,trivial,Lc⟩,Ld⟩,⟨⟨_,trivial,BW⟩,Le⟩,trivial⟩
def ahD {I:Im} {cs:List Value} (h:bx I Cn cs):∃m:Server,(True)/\bx I m.cells cs:=by
 unfold Cn at h;obtain⟨u0,us,rfl,⟨⟨k0,n0,e0⟩,o0⟩,h⟩:=h.cL;obtain⟨u1,us,rfl,⟨⟨k1,n1,e1⟩,o1⟩,h⟩:=h.cL;obtain⟨u2,us,rfl,⟨⟨k2,n2,e2⟩,o2⟩,h⟩:=h.cL;obtain⟨u3,us,rfl,⟨⟨k3,n3,e3⟩,o3⟩,h⟩:=h.cL;obtain⟨u4,us,rfl,⟨⟨k4,n4,e4⟩,o4⟩,h⟩:=h.cL;obtain⟨u5,us,rfl,⟨⟨k5,n5,e5⟩,o5⟩,h⟩:=h.cL;obtain⟨u6,us,rfl,⟨⟨k6,n6,e6⟩,o6⟩,h⟩:=h.cL;obtain rfl:=h.none;exact⟨⟨k0,k1,k2,k3,k4,k5,k6⟩,trivial,⟨e0,o0⟩,⟨e1,o1⟩,⟨e2,o2⟩,⟨e3,o3⟩,⟨e4,o4⟩,⟨e5,o5⟩,⟨e6,o6⟩,trivial⟩
def ahE {I:Im} {m:Server} {v:Value} (hm:True) (h:m.av.h I v):(AV.agg Cn).h I v:=by
 obtain⟨cs,rfl,h⟩:=h;refine⟨cs,rfl,?_⟩;revert h;generalize cs.toList=l;intro h;unfold Server.cells at h;obtain⟨u0,us,rfl,⟨e0,o0⟩,h⟩:=h.cL;obtain⟨u1,us,rfl,⟨e1,o1⟩,h⟩:=h.cL;obtain⟨u2,us,rfl,⟨e2,o2⟩,h⟩:=h.cL;obtain⟨u3,us,rfl,⟨e3,o3⟩,h⟩:=h.cL;obtain⟨u4,us,rfl,⟨e4,o4⟩,h⟩:=h.cL;obtain⟨u5,us,rfl,⟨e5,o5⟩,h⟩:=h.cL;obtain⟨u6,us,rfl,⟨e6,o6⟩,h⟩:=h.cL;obtain rfl:=h.none;exact⟨⟨⟨_,trivial,e0⟩,o0⟩,⟨⟨_,trivial,e1⟩,o1⟩,⟨⟨_,trivial,e2⟩,o2⟩,⟨⟨_,trivial,e3⟩,o3⟩,⟨⟨_,trivial,e4⟩,o4⟩,⟨⟨_,trivial,e5⟩,o5⟩,⟨⟨_,trivial,e6⟩,o6⟩,trivial⟩
def ahF {I:Im} {m:cw} {v:Value} (hm:True) (h:m.av.h I v):(AV.agg Fe).h I v:=by
 obtain⟨cs,rfl,h⟩:=h;refine⟨cs,rfl,?_⟩;revert h;generalize cs.toList=l;intro h;unfold cw.cells at h;obtain⟨u0,us,rfl,⟨e0,o0⟩,h⟩:=h.cL;obtain⟨u1,us,rfl,⟨e1,o1⟩,h⟩:=h.cL;obtain rfl:=h.none;exact⟨⟨⟨_,trivial,e0⟩,o0⟩,⟨⟨_,trivial,e1⟩,o1⟩,trivial⟩
def Cx {br:Nat} {code:List UInt8} {q a b:Int} (h:a<=q/\q<=b) (I:Im) (w:World) (ho:(Own.box br 100 [cg code,AV.int (q)]).ok I w):(sM br code a b).ok I w:=by
 obtain⟨cs,e,hl⟩:=ho;refine⟨cs,e,?_⟩;revert hl;generalize cs.toList=l;intro hl;obtain⟨u0,us,rfl,h0,hl⟩:=hl.cL;obtain⟨u1,us,rfl,⟨e1,o1⟩,hl⟩:=hl.cL;obtain rfl:=hl.none;exact⟨h0,⟨⟨q,h,e1⟩,o1⟩,trivial⟩
def T9 (br:Nat) (code:List UInt8) (p:Int) (hp:0<=p/\p<=1099511000000) (aQ:code.length<=1099511627776):
 gG prog 132 [AV.val (.pointer (some ⟨br,0,none⟩))] [Own.box br 100 [cg code,AV.int (p)]] [Own.box br 100 [cg code,AV.int (p+1+1+1)]] (BO code p).av:=by
 refine bT.intro 12 func132 rfl ntmps132 rfl aG (λW I a U=>?_);refine sr<|U.alloc rfl cE fh λb2 I a w U=>?_;refine bA λI a w U=>?_;refine U.eJ [0] (cU br code (p) (6) om aQ) (ai .tt (ai .c aC)) rfl aM rfl λI a w U=>?_;have U:=U.nf;refine U.m λU=>?_;refine U.eJ [0] (cU br code (p+1) (5) om aQ) (ai .tt (ai .c aC)) rfl aM rfl λI a w U=>?_;have U:=U.nf;have bd6:=g0 code (p+1) (n:=5) om;refine aH λI a w U=>?_;refine U.eJ [0] (cU br code (p+1+1) (4) om aQ) (ai .tt (ai .c aC)) rfl aM rfl λI a w U=>?_;have U:=U.nf;refine U.o (.bd ic (.k (.k aW.nil))) λU=>?_;refine U.o (.bd fh (.k (.t aW.nil))) λU=>?_;refine ax λI a w U=>?_;refine U.bJ () [0] rfl (.cons (.sx 1) .nil) trivial rfl rfl
def ahG (br:Nat) (code:List UInt8) (p:Int) (hp:0<=p/\p<=1099490000000) (aQ:code.length<=1099511627776):gG prog 80 [AV.val (.pointer (some ⟨br,0,none⟩))] [Own.box br 100 [cg code,AV.int (p)]] [sM br code p (p+1200)] (AV.agg zQ):=
 (aeF br code p hp aQ).Cv (λ_=>rfl) (λx hx I w h=>Cx hx.2.2.2 I w h) λx hx I v h=>ahC ⟨hx.2.1,hx.2.2.1⟩ h
def ahH (br:Nat) (code:List UInt8) (p:Int) (hp:0<=p/\p<=1099511000000) (aQ:code.length<=1099511627776):gG prog 82 [AV.val (.pointer (some ⟨br,0,none⟩))] [Own.box br 100 [cg code,AV.int (p)]] [sM br code p (p+4)] (AV.agg Fe):=
 (Bq br code p hp aQ).Cv (λ_=>rfl) (λx hx I w h=>Cx hx I w h) λx hx I v h=>ahF trivial h
def ahI (br:Nat) (code:List UInt8) (p:Int) (hp:0<=p/\p<=1099510000000) (aQ:code.length<=1099511627776):gG prog 81 [AV.val (.pointer (some ⟨br,0,none⟩))] [Own.box br 100 [cg code,AV.int (p)]] [sM br code p (p+30)] xO:=
 (bT.ahu (J9 br code p hp aQ)).Cv (λ_=>rfl) (λx hx I w h=>Cx hx.2 I w h) λx hx I v h=>⟨x.1,trivial,h⟩
def ahJ {I:Im} {cs:List Value} (h:bx I [xO] cs):∃l:List ao,True/\bx I (dQ l) cs:=by
 obtain⟨u0,us,rfl,⟨⟨k0,_,e0⟩,o0⟩,h⟩:=h.cL;obtain rfl:=h.none;exact⟨k0,trivial,⟨e0,o0⟩,trivial⟩
def ahK {I:Im} {cs:List Value} (q:Call) (h:bx I (eI q.cells 9 Fe) cs):∃t:cw,True/\bx I ({q with ar:=t}:Call).cells cs:=by
 change bx I [AV.int q.aq,AV.int q.num,AV.int q.kind,iz q.keys,AV.int q.val,bw q.ctx,AV.int q.bE,AV.int q.end_,AV.bool q.over,nH,nH,oN q.aA,bw q.aO] cs at h;obtain⟨u0,us,rfl,h0,h⟩:=h.cL;obtain⟨u1,us,rfl,h1,h⟩:=h.cL;obtain⟨u2,us,rfl,h2,h⟩:=h.cL;obtain⟨u3,us,rfl,h3,h⟩:=h.cL;obtain⟨u4,us,rfl,h4,h⟩:=h.cL;obtain⟨u5,us,rfl,h5,h⟩:=h.cL;obtain⟨u6,us,rfl,h6,h⟩:=h.cL;obtain⟨u7,us,rfl,h7,h⟩:=h.cL;obtain⟨u8,us,rfl,h8,h⟩:=h.cL;obtain⟨u9,us,rfl,⟨⟨k9,_,e9⟩,o9⟩,h⟩:=h.cL;obtain⟨KO,us,rfl,⟨⟨kV,_,xl⟩,Cw⟩,h⟩:=h.cL;obtain⟨T7,us,rfl,sV,h⟩:=h.cL;obtain⟨T8,us,rfl,uM,h⟩:=h.cL;obtain rfl:=h.none;exact⟨⟨k9,kV⟩,trivial,h0,h1,h2,h3,h4,h5,h6,h7,h8,⟨e9,o9⟩,⟨xl,Cw⟩,sV,uM,trivial⟩
def ahL {w:aI} {e:Ev} (h:fS w=true) (h2:(cI w e).2=false):(cI w e).1=w:=by
 rw[xN h] at h2⊢;unfold iZ at h2⊢;split at h2
 .cases h2
 rename_i hn;rw[if_neg hn]
def Lf {w:aI} {e:Ev} (h2:(cI w e).2=true):(cI w e).1=(cT w e).1/\(cT w e).2=true:=by
 have hw:=vB h2;rw[xN hw] at h2⊢;unfold iZ at h2⊢;split at h2
 .rename_i hn;rw[if_pos hn];exact⟨rfl,hn.2⟩
 cases h2
def Lg {x y:aI} (h:ue y) (e:x=y):Fn prog 20 [x.av,y.av] (AV.bool true):=by rw[e];exact pq y h
def aho (x:aI) (h:ue x):
 bT prog 44 [x.av] [] (λ_=>True) x.Dw x.Pp:=by
 refine bT.intro 69 func44 rfl ntmps44 rfl aG (λW I a U=>?_);obtain⟨⟨h1,h2⟩,⟨h3,h4⟩,⟨h5,h6⟩,h7,h8⟩:=h;have U:=U.fV (sz:=7) 43;have U:=U.fV (sz:=13) 53;have U:=U.fV (sz:=1) 41;refine bA λI a w U=>?_;refine U.alloc rfl dx dB λb2 I a w U=>?_;refine zt ?_;have U:=U.gF;have U:=U.gF;have U:=U.gF;refine U.wh 7 _ (rp 4 [([5],some (5,[11])),([6],some (6,[12,11])),([4],some (4,[3]))]) rfl aG aG rfl ?_;simp only[TD];refine dM ?_;refine aK.lZ 5 rfl rfl (agp x.au h3 h4) (ai .r aC) ?_;refine aK.Dk 6 [11] (λa=>AV.agg [AV.int x.time,AV.val (.slice none 0 0),AV.val (a.tmps.getD 11 undef),AV.val (.slice none 0 0),AV.val (.slice none 0 0)]) rfl rfl rfl rfl (λa b h=>by simp only[List.forall_mem_cons] at h;simp only[h]) rfl (λF a I he=>Ok.to (.bd wm (.k (aW.c NR rfl .tt (uG (t:=11) he) aW.nil)))) ?_;refine aK.alloc 4 rfl rfl dx dB<|.nil ?_;intro I a w U;obtain⟨b3,U⟩:=U.my (d:=3) 4 rfl rfl;change St _ _ [Own.row (.slice none 0 0) 43 7 [],Own.row (.slice none 0 0) 53 13 [],Own.row (.slice none 0 0) 41 1 [],Own.box b2 28 [AV.val (.int .i64 0),AV.rows 7 [],AV.rows 15 [],AV.rows 13 [],AV.rows 1 []],Own.box b3 28 _,Own.row (a.tmps.getD 11 undef) 84 15 (x.au.map az.cells),Own.is (AV.agg [AV.int x.time,AV.val (.slice none 0 0),AV.val (a.tmps.getD 11 undef),AV.val (.slice none 0 0),AV.val (.slice none 0 0)]) (a.tmps.getD 12 undef)] _ _ _ at U;have U:=U.Dl (d:=12) 6 rfl;have U:=U.drop 6;generalize a.tmps.getD 11 undef=v11 at U;show wpList _ _ _ _ _ _;refine aB λI a w U=>?_;refine St.lo (σ:=Nat×Value) (4::(run 18 13 [])) ⟨λ⟨k,p⟩=>[(4,AV.int k)],λ⟨k,p⟩=>[Own.row p 43 7 ((x.aw.take k).map Server.cells),Own.row (.slice none 0 0) 53 13 ([]),Own.row (.slice none 0 0) 41 1 ([]),Own.box b2 28 [AV.val (.int .i64 0),AV.rows 7 [],AV.rows 15 [],AV.rows 13 [],AV.rows 1 []],Own.box b3 28 [AV.int x.time,AV.val p,AV.val v11,AV.val (.slice none 0 0),AV.val (.slice none 0 0)],Own.row v11 84 15 (x.au.map az.cells)],λ⟨k,p⟩=>k<=x.aw.length⟩ (λ⟨k,p⟩=>x.aw.length-k) (0,(.slice none 0 0)) U ?aL ?bG;case aL=>exact Nat.zero_le _
 rintro⟨k,p⟩ I a w al U;have hk:k<=x.aw.length:=al;dsimp only at U;refine ct λI a w U=>?_;refine cz (λae=>?_) λae=>?_
 .refine zt ?_;refine U.dt 9 ?_;simp only[TD];refine kJ ?_;refine .o (.c1 (zA _ (h2 _ (bB ae)))) ?_;refine .o (.li [(ab x.aw k).cells] AU (.u .nil)) ?_;refine .nil ?_;intro I a w U;refine U.ap 0 λtV a w U=>?_;rw[bV,<-ez ae] at U;refine U.o .fv λU=>?_;try have TK:=U.dZ 0 rfl
  refine aY λI a w U=>?_;exact U.ag (k+1,tV) (ae)
 refine wp_exit<|cM<|cM<|fI<|bk<|wp_seq<|wp_seq ?_;rw[List.take_of_length_le om] at U;refine ax λI a w U=>?_;refine St.lo (σ:=Nat×Value) (5::(run 18 31 [])) ⟨λ⟨k,q⟩=>[(5,AV.int k)],λ⟨k,q⟩=>[Own.row p 43 7 (x.aw.map Server.cells),Own.row q 53 13 ((x.calls.take k).map Call.cells),Own.row (.slice none 0 0) 41 1 ([]),Own.box b2 28 [AV.val (.int .i64 0),AV.rows 7 [],AV.rows 15 [],AV.rows 13 [],AV.rows 1 []],Own.box b3 28 [AV.int x.time,AV.val p,AV.val v11,AV.val q,AV.val (.slice none 0 0)],Own.row v11 84 15 (x.au.map az.cells)],λ⟨k,q⟩=>k<=x.calls.length⟩ (λ⟨k,q⟩=>x.calls.length-k) (0,(.slice none 0 0)) U ?ei ?jK;case ei=>exact Nat.zero_le _
 rintro⟨k,q⟩ I a w al U;have hk:k<=x.calls.length:=al;dsimp only at U;refine ct λI a w U=>?_;refine cz (λah=>?_) λah=>?_
 .refine zt ?_;refine U.dt 9 ?_;simp only[TD];refine kJ ?_;refine .o (.c1 (EF _ (h6 _ (bB ah)))) ?_;refine .o (.li [(ab x.calls k).cells] AW (.u .nil)) ?_;refine .nil ?_;intro I a w U;refine U.ap 1 λBL a w U=>?_;rw[bV,<-ez ah] at U;refine U.o .fv λU=>?_;try have af8:=U.dZ 1 rfl
  refine aY λI a w U=>?_;exact U.ag (k+1,BL) (ah)
 refine wp_exit<|cM<|cM<|fI<|bk<|wp_seq<|wp_seq ?_;rw[List.take_of_length_le om] at U;refine ax λI a w U=>?_;refine St.lo (σ:=Nat×Value) (6::(run 19 49 [])) ⟨λ⟨k,r⟩=>[(6,AV.int k)],λ⟨k,r⟩=>[Own.row p 43 7 (x.aw.map Server.cells),Own.row q 53 13 (x.calls.map Call.cells),Own.row r 41 1 ((x.seen.take k).map dQ),Own.box b2 28 [AV.val (.int .i64 0),AV.rows 7 [],AV.rows 15 [],AV.rows 13 [],AV.rows 1 []],Own.box b3 28 [AV.int x.time,AV.val p,AV.val v11,AV.val q,AV.val r],Own.row v11 84 15 (x.au.map az.cells)],λ⟨k,r⟩=>k<=x.seen.length⟩ (λ⟨k,r⟩=>x.seen.length-k) (0,(.slice none 0 0)) U ?iN ?pj;case iN=>exact Nat.zero_le _
 rintro⟨k,r⟩ I a w al U;have hk:k<=x.seen.length:=al;dsimp only at U;refine ct λI a w U=>?_;refine cz (λaj=>?_) λaj=>?_
 .refine zt ?_;refine U.dt 10 ?_;simp only[TD];refine cj ?_;refine .o (tb du cE) ?_;refine fD ?_;refine .o (AE du cE rfl .tt .r (λ_=>by have:=h8 _ (bB aj);simp;omega)) ?_;refine .o (.li [dQ (ab x.seen k)] Dg (.v .nil)) ?_;refine .nil ?_;intro I a w U;refine U.ap 2 λKC a w U=>?_;rw[bV,<-ez aj] at U;refine U.o .fv λU=>?_;try have af9:=U.dZ 2 rfl
  refine aY λI a w U=>?_;exact U.ag (k+1,KC) (aj)
 refine wp_exit<|cM<|cM<|fI<|bk<|wp_seq ?_;rw[List.take_of_length_le om] at U;refine aB λI a w U=>?_;refine U.bJ (p,v11,q,r) [0,5,1,2] rfl (.cons (.sx 3) .nil) trivial rfl rfl
def T5 (s:Server) (r:Value×Value×Value) (I:Im) (v:Value) (_:True) (h:(s.TF r).h I v):[Own.row r.1 46 2 (s.aF.map cG.cells),Own.row r.2.1 115 3 (s.aD.map ao.cells),Own.row r.2.2 115 3 (s.bj.map ao.cells)]=KE s v:=by
 unfold KE;rw[KD h (i:=2) rfl,KD h (i:=5) rfl,KD h (i:=6) rfl]
def cy.nw {x:aI} (h:cy x):NW x:=⟨h.Fit,h.small.2.2.1.1,h.aA⟩
def Ft:List AV:=[nH,AV.some (λ_:List Server=>True) iG,AV.some afX cQ,AV.some afY fB,AV.some (λ_:List (List ao)=>True) gN]
def rB (w:aI) (e:Ev):ue (cI w e).1:=by
 cases h:fS w with
 |true=>exact(jy.1 (sL h e)).1.small
 |false=>
  rw[Kz e h]
  exact⟨⟨Nat.zero_le _,λ_ h=>by cases h⟩,⟨Nat.zero_le _,λ_ h=>by cases h⟩,⟨Nat.zero_le _,λ_ h=>by cases h⟩,Nat.zero_le _,λ_ h=>by cases h⟩
def Cu {x:aI} (h:fS x=true):NW x:=(jy.1 h).1.nw
def agr (b:Nat) (x:aI) (e:Ev) (s r q z:Value) (hg:cy x) (ht:x.time<=1000000):
 bT prog 100 [AV.val (.pointer (some ⟨b,0,none⟩)),e.av] (x.full b s r q z) (λ_:Value×Value=>True) (λu=>bif (gJ x e).2 then(gJ x e).1.full b s u.1 u.2 z else[]) (λ_=>AV.bool (gJ x e).2):=by
 refine bT.intro 148 func100 rfl ntmps100 rfl aG (λW I a U=>?_);change St _ _ [Own.box b 28 [AV.int x.time,AV.val s,AV.val r,AV.val q,AV.val z],Own.row s 43 7 (x.aw.map Server.cells),Own.row r 84 15 (x.au.map az.cells),Own.row q 53 13 (x.calls.map Call.cells),Own.row z 41 1 (x.seen.map dQ)] _ _ _ at U;have nF:=hg.lens;have zI:=hg.seen;have zN:=hg.time;have jn:=hg.au;have uB:=hg.aw;have E6:(List.map az.cells x.au).length<=60:=by rw[List.length_map];exact jn
 obtain⟨bS,cS,rfl⟩:=U.ia 1 rfl iv;refine gY λI a w U=>?_;refine cz (λae=>?_) λae=>?_
 .refine aH λI a w U=>?_;refine U.bq [0,1,2,3,4] (afk b x e (.slice (some ⟨bS,0,none⟩) (x.aw.map Server.cells).length cS) r q z hg ht) (ai .tt (ai .tt aC)) rfl aM rfl λu I a w pY U=>?_;refine U.s λU=>nn<|wp_ret<|vI<|yc ?_;have hR:gJ x e=kb x e:=agf ae;cases hB:(kb x e).2
  .refine U.bJ (r,r) [] rfl (.cons (ky.t rfl) .nil) trivial (by rw[hR,hB];rfl) (by rw[hR];rfl)
  rw[hB] at U;refine U.bJ (r,u) [0,1,2,3,4] rfl (.cons (ky.t rfl) .nil) trivial (by rw[hR,hB];rfl) (by rw[hR,hB];rfl)
 refine St.cut (σ:=Bool) (17::18::19::[]) ⟨λg=>[(17,AV.bool g)],λg=>[Own.box b 28 [AV.int x.time,AV.val (.slice (some ⟨bS,0,none⟩) (x.aw.map Server.cells).length cS),AV.val r,AV.val q,AV.val z],Own.row (.slice (some ⟨bS,0,none⟩) (x.aw.map Server.cells).length cS) 43 7 ((x.aw).map Server.cells),Own.row r 84 15 ((x.au).map az.cells),Own.row q 53 13 ((x.calls).map Call.cells),Own.row z 41 1 ((x.seen).map dQ)],λg=>g=decide (e.kind=2\/e.kind=3)⟩ U ?rA ?Ch;case rA=>
  refine aB λI a w U=>?_;refine cz (λah=>?_) λah=>?_
  .refine zt ?_;exact U.me (e.kind==2) (by first|(show(e.kind==2)=_;rw[Bool.eq_iff_iff];simp;omega)|(show(e.kind==3)=_;rw[Bool.eq_iff_iff];simp;omega))
  refine aB λI a w U=>?_;exact U.me (e.kind==3) (by first|(show(e.kind==2)=_;rw[Bool.eq_iff_iff];simp;omega)|(show(e.kind==3)=_;rw[Bool.eq_iff_iff];simp;omega))
 rintro g I a w al U;obtain rfl:g=decide (e.kind=2\/e.kind=3):=al;refine cz (λaj=>?_) λaj=>?_
 .refine aV λI a w U=>?_;refine U.o (Dc (xs:=[AV.val (.pointer (some ⟨b,0,none⟩)),AV.int e.aq]) (rP:=[AV.ptr [AV.int x.time,AV.val (.slice (some ⟨bS,0,none⟩) (x.aw.map Server.cells).length cS),AV.val r,fB x.calls,AV.val z],AV.int e.aq]) (Jw x.calls x.time (.slice (some ⟨bS,0,none⟩) (x.aw.map Server.cells).length cS) r z e.aq) (ai .tt (ai .tt aC)) (λc I a w U=>by obtain⟨I,U⟩:=U.fu 3 3 0;obtain⟨I,U⟩:=U.fb 0 0;exact⟨_,_,_,U,rfl,rfl,trivial⟩)) λU=>?_;refine aN λI a w U=>?_;refine cz (λaJ=>?_) λaJ=>?_
  .refine ax λI a w U=>?_;have hR:gJ x e=(x,false):=af2 aj aJ;refine U.bJ (r,r) [] rfl (.cons (.t rfl) .nil) trivial (by rw[hR];rfl) (by rw[hR];rfl)
  obtain⟨h1,h2,h3⟩:=qS (show 0<=(cA x.calls e.aq) by omega);obtain⟨bC,cC,rfl⟩:=U.ia 3 rfl iv;refine aN λI a w U=>?_;refine cz (λaP=>?_) λaP=>?_
  .refine dI λI a w U=>?_;refine U.o (gq kj eR .tt .tt (λ_=>by rw[List.length_map];omega)) λU=>?_;refine U.o (rG 3 eR .tt rfl (λ_=>by exact ey om) rfl) λU=>?_;refine U.o (.c1 (ae6 (ab x.calls (cA x.calls e.aq).toNat) x.time (hg.call h1) ht)) λU=>?_;refine U.bq [0,2] (Fa b x.time (.slice (some ⟨bS,0,none⟩) (x.aw.map Server.cells).length cS) r (.slice (some ⟨bC,0,none⟩) (x.calls.map Call.cells).length cC) z x.au (jH (ab x.calls (cA x.calls e.aq).toNat)) jn (TJ (hg.call h1)).1 (TJ (hg.call h1)).2) (ai .tt (ai .r aC)) rfl aM rfl λu2 I a w BS U=>?_;refine ax λI a w U=>?_;have hR:gJ x e=({x with au:=eB x.au (jH (ab x.calls (cA x.calls e.aq).toNat))},true):=af3 aP om;refine U.bJ (u2,(.slice (some ⟨bC,0,none⟩) (x.calls.map Call.cells).length cC)) [0,1,2,3,4] rfl (.cons (.t rfl) .nil) trivial (by rw[hR];rfl) (by rw[hR];rfl)
  refine bO λI a w U=>?_;refine U.o (gq kj eR .tt .tt (λ_=>by rw[List.length_map];omega)) λU=>?_;refine U.o .fv λU=>?_;refine U.vU (j:=8) 3 AS .tt .c (by first|exact gn rfl|exact en|exact gC|exact gE|assumption) rfl (by exact ey om) rfl rfl λa w U=>?_;refine wpList_nil ?_;have e9:∀y,y=Call.cells {(ab x.calls (cA x.calls e.aq).toNat) with over:=true}->(List.map Call.cells x.calls).set (cA x.calls e.aq).toNat y=List.map Call.cells (x.calls.set (cA x.calls e.aq).toNat {(ab x.calls (cA x.calls e.aq).toNat) with over:=true}):=λy hy=>by rw[hy,List.map_set]
  rw[e9] at U;rotate_left
  .rfl
  refine ax λI a w U=>?_;have hR:gJ x e=({x with calls:=x.calls.set (cA x.calls e.aq).toNat {(ab x.calls (cA x.calls e.aq).toNat) with over:=true}},true):=afa om om;refine U.bJ (r,(.slice (some ⟨bC,0,none⟩) (x.calls.map Call.cells).length cC)) [0,1,2,3,4] rfl (.cons (.t rfl) .nil) trivial (by rw[hR];rfl) (by rw[hR];rfl)
 refine aB λI a w U=>?_;refine cz (λbn=>?_) λbn=>?_
 .refine aH λI a w U=>?_;refine U.bq [0,1,2,3,4] (afI b x e (.slice (some ⟨bS,0,none⟩) (x.aw.map Server.cells).length cS) r q z hg ht bn) (ai .tt (ai .tt aC)) rfl aM rfl λu I a w Fj U=>?_;refine U.s λU=>nn<|wp_ret<|vI<|yc ?_;have hR:gJ x e=iu x e:=KA (.inl bn);cases hB:(iu x e).2
  .refine U.bJ (r,r) [] rfl (.cons (ky.t rfl) .nil) trivial (by rw[hR,hB];rfl) (by rw[hR];rfl)
  rw[hB] at U;refine U.bJ (u,q) [0,1,2,3,4] rfl (.cons (ky.t rfl) .nil) trivial (by rw[hR,hB];rfl) (by rw[hR,hB];rfl)
 refine aB λI a w U=>?_;refine cz (λbl=>?_) λbl=>?_
 .refine wp_seq<|wp_seq<|U.dk ?_;refine gZ ?_;refine .o (lC 2 fi .tt rfl) ?_;refine aX ?_;refine .o (.cl (iS ..)) ?_;refine aX ?_;refine .nil ?_;intro I a w U;refine bk ?_;refine U.cd (λcm=>?_) λcm=>?_
  .rw[List.length_map] at cm;replace cm:=nt cm;refine ax λI a w U=>?_;have hR:gJ x e=(x,false):=by rw[KA (.inr bl),E8 cm]
   refine U.bJ (r,r) [] rfl (.cons (.t rfl) .nil) trivial (by rw[hR];rfl) (by rw[hR];rfl)
  rw[List.length_map] at cm;replace cm:=nf cm;have sU:=cm;simp only[aS,Bool.and_eq_true,decide_eq_true_eq] at sU;refine zt ?_;refine U.dh (rp 4 (([0],none)::rp 5 (([2],some (2,[73]))::rp 2 [([0],some (0,[73]))]))) aG aG rfl ?_;refine dM ?_;refine .r [0] (.lb 0) ?_;refine fD ?_;refine aK.N4 2 rfl rfl (Tw r x.au e.word om om om) (ai .r (ai .tt (ai .tt aC))) ?_;refine cj ?_;refine aK.AD 0 rfl AT .tt rfl rfl<|.nil ?_;intro I a w U;change St _ _ [Own.box b 28 [AV.int x.time,AV.val (.slice (some ⟨bS,0,none⟩) (x.aw.map Server.cells).length cS),AV.val (a.tmps.getD 73 undef),AV.val q,AV.val z],Own.row (.slice (some ⟨bS,0,none⟩) (x.aw.map Server.cells).length cS) 43 7 ((x.aw).map Server.cells),Own.row (a.tmps.getD 73 undef) 84 15 ((x.au.take e.word.toNat++x.au.drop (e.word.toNat+1)).map az.cells),Own.row q 53 13 ((x.calls).map Call.cells),Own.row z 41 1 ((x.seen).map dQ)] _ _ _ at U;generalize a.tmps.getD 73 undef=v73 at U;refine ax λI a w U=>?_;have hR:gJ x e=({x with au:=x.au.take e.word.toNat++x.au.drop (e.word.toNat+1)},true):=by rw[KA (.inr bl),vA cm,if_pos bl];unfold iD;rw[if_pos (.inl bl)]
  refine U.bJ (v73,q) [0,1,2,3,4] rfl (.cons (.t rfl) .nil) trivial (by rw[hR];rfl) (by rw[hR];rfl)
 refine aH λI a w U=>?_;refine U.o (.cl (iS ..)) λU=>?_;refine bz λI a w U=>?_;refine U.q .F (.cl (tu ..)) λU=>?_;refine aB λI a w U=>?_;refine U.cd (λc8=>?_) λc8=>?_
 .rw[<-Bool.not_and] at c8;replace c8:=nt c8;refine ax λI a w U=>?_;have hR:gJ x e=(x,false):=af4 ae aj bn bl c8;refine U.bJ (r,r) [] rfl (.cons (.t rfl) .nil) trivial (by rw[hR];rfl) (by rw[hR];rfl)
 rw[<-Bool.not_and] at c8;replace c8:=nf c8;have TS:=c8;simp only[aS,Bool.and_eq_true,decide_eq_true_eq] at TS;have zy:=lK.1 TS.2;have jk:=(hg.site e.at_.toNat om).2;refine wp_skip<|bk<|wp_seq<|U.dk ?_;refine gZ ?_;refine .o (gq pH cq .tt .tt (λ_=>by rw[List.length_map];omega)) ?_;refine aX ?_;refine .nil ?_;intro I a w U;refine bk<|wp_seq<|wp_seq<|U.dk ?_;refine dJ ?_;refine .o (Mv 1 AS .tt rfl (λ_=>by exact ey om) rfl rfl rfl) ?_;refine dJ ?_;refine .o (vQ .tt .tt lj)<|.nil ?_;intro I a w U;refine bk ?_;refine U.cd (λgm=>?_) λgm=>?_
 .refine ax λI a w U=>?_;have hR:(gJ x e).2=false:=by rw[zR c8];exact afy gm
  refine U.bJ (r,r) [] rfl (.cons (.t rfl) .nil) trivial (by rw[hR];rfl) (by rw[hR];rfl)
 refine aY λI a w U=>?_;refine cz (λja=>?_) λja=>?_
 .refine aV λI a w U=>?_;refine U.o (rG 1 cq .tt rfl (λ_=>by exact ey om) rfl) λU=>?_;refine U.o (.c1 (afd (ab x.aw e.at_.toNat) jk)) λU=>?_;refine U.o .nl λU=>?_;refine U.jZ 1 cq .tt .tt rfl (by exact ey om) rfl rfl λa w U=>?_;refine wpList_nil ?_;have e9:∀y,y=Server.cells (ll (ab x.aw e.at_.toNat))->(List.map Server.cells x.aw).set e.at_.toNat y=List.map Server.cells (x.aw.set e.at_.toNat (ll (ab x.aw e.at_.toNat))):=λy hy=>by rw[hy,List.map_set]
  rw[e9] at U;rotate_left
  .rfl
  refine ax λI a w U=>?_;have hR:gJ x e=({x with aw:=x.aw.set e.at_.toNat (ll (ab x.aw e.at_.toNat))},true):=by rw[zR c8,agh gm ja]
  refine U.bJ (r,q) [0,1,2,3,4] rfl (.cons (.t rfl) .nil) trivial (by rw[hR];rfl) (by rw[hR];rfl)
 refine aB λI a w U=>?_;refine cz (λFk=>?_) λFk=>?_
 .refine aV λI a w U=>?_;refine U.o (rG 1 cq .tt rfl (λ_=>by exact ey om) rfl) λU=>?_;refine U.o (.c1 (afq (ab x.aw e.at_.toNat) jk)) λU=>?_;refine U.o .nl λU=>?_;refine U.jZ 1 cq .tt .tt rfl (by exact ey om) rfl rfl λa w U=>?_;refine wpList_nil ?_;have e9:∀y,y=Server.cells (pU (ab x.aw e.at_.toNat))->(List.map Server.cells x.aw).set e.at_.toNat y=List.map Server.cells (x.aw.set e.at_.toNat (pU (ab x.aw e.at_.toNat))):=λy hy=>by rw[hy,List.map_set]
  rw[e9] at U;rotate_left
  .rfl
  refine ax λI a w U=>?_;have hR:gJ x e=({x with aw:=x.aw.set e.at_.toNat (pU (ab x.aw e.at_.toNat))},true):=by rw[zR c8,af5 gm Fk]
  refine U.bJ (r,q) [0,1,2,3,4] rfl (.cons (.t rfl) .nil) trivial (by rw[hR];rfl) (by rw[hR];rfl)
 refine aB λI a w U=>?_;refine cz (λFl=>?_) λFl=>?_
 .refine aV λI a w U=>?_;refine U.o (rG 1 cq .tt rfl (λ_=>by exact ey om) rfl) λU=>?_;refine U.o (.c1 (afr (ab x.aw e.at_.toNat) jk)) λU=>?_;refine U.bq [0,2] (Fa b x.time (.slice (some ⟨bS,0,none⟩) (x.aw.map Server.cells).length cS) r q z x.au (kT (ab x.aw e.at_.toNat)) jn (by have:=RR jk;omega) (λy hy=>w3 (EO jk y hy))) (ai .tt (ai .r aC)) rfl aM rfl λu2 I a w anZ U=>?_;refine ax λI a w U=>?_;have hR:gJ x e=({x with au:=eB x.au (kT (ab x.aw e.at_.toNat))},true):=by rw[zR c8,agi gm Fl]
  refine U.bJ (u2,q) [0,1,2,3,4] rfl (.cons (.t rfl) .nil) trivial (by rw[hR];rfl) (by rw[hR];rfl)
 refine aB λI a w U=>?_;refine cz (λCp=>?_) λCp=>?_
 .refine wp_seq ?_;have U:=U.gF;have U:=U.gF;refine U.dh (rp 2 [([1],none),([],none),([],none),([],none),([],none),([],none),([],none),([],none),([5],some (5,[7])),([6],some (6,[8])),([5],some (5,[7])),([6],some (6,[8])),([],none)]) aG aG rfl ?_;refine cj ?_;refine .r [1] (rG 1 cq .tt rfl (λ_=>by exact ey om) rfl) ?_;refine cj ?_;refine .o (.c2 (afe (ab x.aw e.at_.toNat) e.slot jk)) ?_;refine dM ?_;refine aK.alloc 5 rfl rfl cq dz<|aK.alloc 6 rfl rfl dj dN<|aK.qv 5 rfl cq rfl .tt rfl rfl<|aK.qv 6 rfl dj rfl .tt rfl rfl ?_;refine aX ?_;refine .nil ?_;intro I a w U;obtain⟨b7,U⟩:=U.my (d:=7) 5 rfl rfl;obtain⟨I,U⟩:=U.fb 5 7;obtain⟨b8,U⟩:=U.my (d:=8) 6 rfl rfl;obtain⟨I,U⟩:=U.fb 6 8;refine aB λI a w U=>?_;refine U.cd (λsO=>?_) λsO=>?_
  .replace sO:=nt sO;refine ax λI a w U=>?_;have hR:gJ x e=(x,false):=by rw[zR c8,agj Cp sO]
   refine U.bJ (r,r) [] rfl (.cons (.t rfl) .nil) trivial (by rw[hR];rfl) (by rw[hR];rfl)
  replace sO:=nf sO;refine aV λI a w U=>?_;refine U.jZ 1 cq .tt .tt rfl (by exact ey om) rfl rfl λa w U=>?_;refine wpList_nil ?_;have e9:∀y,y=Server.cells (eG (ab x.aw e.at_.toNat) e.slot).1->(List.map Server.cells x.aw).set e.at_.toNat y=List.map Server.cells (x.aw.set e.at_.toNat (eG (ab x.aw e.at_.toNat) e.slot).1):=λy hy=>by rw[hy,List.map_set]
  rw[e9] at U;rotate_left
  .rfl
  refine aH λI a w U=>?_;refine U.o (.li [(eG (ab x.aw e.at_.toNat) e.slot).2.1.cells] gw (.u .nil)) λU=>?_;refine U.bq [0,2] (Fa b x.time (.slice (some ⟨bS,0,none⟩) (x.aw.map Server.cells).length cS) r q z x.au [(eG (ab x.aw e.at_.toNat) e.slot).2.1] jn bt (agk jk sO)) (ai .tt (ai .r aC)) rfl aM rfl λu2 I a w an0 U=>?_;refine ax λI a w U=>?_;have hR:gJ x e=({x with aw:=x.aw.set e.at_.toNat (eG (ab x.aw e.at_.toNat) e.slot).1,au:=eB x.au [(eG (ab x.aw e.at_.toNat) e.slot).2.1]},true):=by rw[zR c8,afb Cp sO]
  refine U.bJ (u2,q) [0,1,2,3,4] rfl (.cons (.t rfl) .nil) trivial (by rw[hR];rfl) (by rw[hR];rfl)
 refine bA λI a w U=>?_;refine nn<|wp_ret ?_;exfalso;omega
end Go.Proofs.YtdanidpleofjgaaGreat

/- Part 38: rules of the proofs, contracts of functions, plain facts. -/
import Derived.Test.YtoeioeimmfpefaaGreatP33
set_option linter.unusedVariables false
set_option linter.unusedSimpArgs false
set_option maxRecDepth 100000
set_option maxHeartbeats 4000000
namespace Go.Proofs.YtoeioeimmfpefaaGreat
open Go Go.RowKit
attribute [local irreducible] wpList Code.wp Ok
structure kU (l:List Answer) (v:Answer) (k:Nat) (done:Bool) (out:List Answer):Prop where
 hk:k≤l.length
 eq:c7 l v=if done then out++l.drop k else out++c7 (l.drop k) v
 len:out.length≤k+done.toNat
theorem kU.zero (l:List Answer) (v:Answer):kU l v 0 false []:=⟨Nat.zero_le _,by simp,by simp⟩
section
variable {l:List Answer} {v:Answer} {k:Nat} {out:List Answer} {done:Bool}
theorem kU.before (hp:kU l v k false out) (h:k<l.length) (he:v.key<(ab l k).key):kU l v (k+1) true ((out++[v])++[ab l k]):=by
 refine⟨h,?_,by have:=hp.len;simp at this⊢;omega⟩
 have:=hp.eq
 rw[jw h] at this
 simp only[c7,if_pos he] at this
 rw[this];simp
theorem kU.step (hp:kU l v k done out) (h:k<l.length) (he:done=true∨¬v.key<(ab l k).key):kU l v (k+1) done (out++[ab l k]):=by
 refine⟨h,?_,by have:=hp.len;simp;omega⟩
 have:=hp.eq
 cases done
 ·rw[jw h] at this
  have he:¬v.key<(ab l k).key:=he.resolve_left (by simp)
  simp only[c7,if_neg he] at this
  rw[this];simp
 ·simp only[if_true] at this⊢
  rw[this,jw h];simp
theorem kU.pZ (hp:kU l v k true out) (h:l.length≤k):out=c7 l v:=by
 have:=hp.eq
 rw[List.drop_eq_nil_of_le h] at this;simpa using this.symm
theorem kU.p4 (hp:kU l v k false out) (h:l.length≤k):out++[v]=c7 l v:=by
 have:=hp.eq
 rw[List.drop_eq_nil_of_le h] at this;simpa[c7] using this.symm
end
def lF (q:Call):Nat→List ar
 |0=>q.aM
 |k+1=>lF q k++mj (ez q) (ab q.ax k)
theorem K7 (q:Call):∀k,k≤q.ax.length→lF q k=q.aM++((q.ax.take k).map (mj (ez q))).flatten
 |0,_=>by simp[lF]
 |k+1,h=>by
  show lF q k++_=_
  rw[K7 q k (by omega),dL (by omega),List.map_append,List.flatten_append,List.append_assoc];simp
theorem DY {q:Call} {k:Nat} (h:k<q.ax.length):lF q (k+1)=lF q k++mj (ez q) (ab q.ax k):=rfl
theorem UP {q:Call} {k:Nat} (h:k<q.ax.length) (hl:cY (ab q.ax k).bG.aA (bY (ez q) (ab q.ax k).key)=true):lF q k++[⟨(ab q.ax k).key,bY (ez q) (ab q.ax k).key⟩]=lF q (k+1):=by
 rw[DY h];unfold mj;rw[if_pos hl]
theorem UQ {q:Call} {k:Nat} (h:k<q.ax.length) (hl:¬cY (ab q.ax k).bG.aA (bY (ez q) (ab q.ax k).key)=true):lF q k=lF q (k+1):=by
 rw[DY h];unfold mj;rw[if_neg hl,List.append_nil]
theorem K8 (q:Call):∀k,k≤q.ax.length→(lF q k).length≤q.aM.length+k
 |0,_=>by simp[lF]
 |k+1,h=>by
  have ih:=K8 q k (by omega)
  rw[DY (by omega),List.length_append]
  have:(mj (ez q) (ab q.ax k)).length≤1:=by unfold mj;split<;>simp
  omega
theorem UR {q:Call} {k:Nat} (hk:k≤q.ax.length) (h:q.ax.length≤k):lF q k=q.aM++jV q:=by rw[K7 q k hk];unfold jV;rw[List.take_of_length_le h]
def nb (q:Call) (a:Answer) (k:Nat):List Answer:=if a.bG.bH∈q.aM.take k then q.ax.set (cz q a.key).toNat a else q.ax
def nc (q:Call) (a:Answer) (k:Nat):List ar:=(q.aM.take k).filter fun d=>decide (d≠a.bG.bH)
theorem DZ {α:Type} [Inhabited α] {l:List α} {k:Nat} {x:α} (h:k<l.length):x∈l.take (k+1)↔x∈l.take k∨x=ab l k:=by rw[dL h];simp
theorem US {q:Call} {a:Answer} {k:Nat} (h:k<q.aM.length) (he:ab q.aM k=a.bG.bH):nb q a (k+1)=q.ax.set (cz q a.key).toNat a:=by
 unfold nb;rw[if_pos ((DZ h).2 (.inr he.symm))]
theorem UT {q:Call} {a:Answer} {k:Nat} (h:k<q.aM.length) (he:ab q.aM k≠a.bG.bH):nb q a k=nb q a (k+1):=by
 unfold nb
 by_cases hm:a.bG.bH∈q.aM.take k
 ·rw[if_pos hm,if_pos ((DZ h).2 (.inl hm))]
 ·rw[if_neg hm,if_neg fun hh=>((DZ h).1 hh).elim hm fun e=>he e.symm]
theorem UU {q:Call} {a:Answer} {k:Nat} (hd:bT q.aM=true) (h:k<q.aM.length) (he:ab q.aM k=a.bG.bH):nb q a k=q.ax:=by
 unfold nb
 rw[if_neg]
 intro hm
 obtain⟨i,hi,e⟩:=List.getElem_of_mem hm
 have jN:i<k∧i<q.aM.length:=by simp at hi;omega
 rw[List.getElem_take] at e
 have e2:ab q.aM i=a.bG.bH:=by rw[←e];simp[ab,jN.2]
 have:=wm hd jN.1 h
 rw[e2,he] at this;omega
theorem UW {q:Call} {a:Answer} {k:Nat} (h:k<q.aM.length) (he:ab q.aM k=a.bG.bH):nc q a k=nc q a (k+1):=(lD h (by simp[he])).symm
theorem UX {q:Call} {a:Answer} {k:Nat} (h:k<q.aM.length) (he:ab q.aM k≠a.bG.bH):nc q a k++[ab q.aM k]=nc q a (k+1):=(lC h (by simp[he])).symm
theorem UY (q:Call) (a:Answer) (k:Nat):(nc q a k).length≤q.aM.length:=oM _ _ _
theorem K9 {q:Call} {a:Answer} {t:Int} {k:Nat} (h:q.aM.length≤k):ml q a t=if(nc q a k=[]∧q.aM≠[]) then{q with ax:=nb q a k,aM:=nc q a k,end_:=t} else{q with ax:=nb q a k,aM:=nc q a k}:=by
 unfold ml nc nb
 rw[List.take_of_length_le h]
 by_cases hm:a.bG.bH∈q.aM
 ·rw[if_pos hm,if_pos hm]
  have bn:q.aM≠[]:=fun e=>by rw[e] at hm;simp at hm
  dsimp only
  by_cases he:(q.aM.filter fun d=>decide (d≠a.bG.bH))=[]
  ·rw[if_pos he,if_pos ⟨he,bn⟩]
  ·rw[if_neg he,if_neg fun hh=>he hh.1]
 ·rw[if_neg hm,if_neg hm]
  have hf:(q.aM.filter fun d=>decide (d≠a.bG.bH))=q.aM:=by
   rw[List.filter_eq_self];intro d hd;simp;rintro rfl;exact hm hd
  rw[hf,if_neg fun hh=>hh.2 hh.1]
theorem La (d:ar) (a:Answer) (h:a.bG.key=a.key):((d.key==a.key)&&([d.aA.time,d.aA.site]==[a.bG.aA.time,a.bG.aA.site]))=decide (d=a.bG.bH):=by
 obtain⟨k,⟨t,s⟩⟩:=d
 obtain⟨ak,ay,av⟩:=a
 obtain⟨vk,⟨vt,vs⟩,vv,vc,vca,vd⟩:=av
 obtain rfl:vk=ak:=h
 rw[Bool.eq_iff_iff]
 simp[aK.bH]
theorem Lb (q:Call) (m:aD) (t:Int) (he:0≤q.end_):(!bN m||(m.to !=10+q.aC)||(m.call !=q.num)||!fQ q.keys m.key||decide (0<q.end_)||q.over||decide (t≤q.bm))=
 !(bN m&&(m.to==10+q.aC)&&(m.call==q.num)&&fQ q.keys m.key&&gG q&&decide (q.bm<t)):=by
 have e1:decide (0<q.end_)=!(q.end_==0):=by rw[Bool.eq_iff_iff];simp;omega
 have e2:decide (t≤q.bm)=!decide (q.bm<t):=by rw[Bool.eq_iff_iff];simp
 unfold gG
 rw[e1,e2];simp[bne,Bool.or_assoc]
theorem zU (m:aD):((m.kind !=4)||(m.yes&&((m.aq.length:Int) !=1||((ab m.aq 0).key !=m.key))))=!decide (m.kind=4∧(m.yes=true→m.aq.length=1∧(ab m.aq 0).key=m.key)):=by
 have e:((m.aq.length:Int) !=1)=!decide (m.aq.length=1):=by rw[Bool.eq_iff_iff];simp;omega
 rw[e,Bool.eq_iff_iff]
 cases m.yes<;>simp<;>omega
theorem UZ (q:Call) (n:Value) (hg:∀y∈q.ax,dE y=true) (hl:q.ax.length≤1048576):
 Fn Tryz.prog 206 [q.uN n] (bl (ez q)):=by
 refine Fn.intro 23 Tryz.func206 rfl Tryz.ntmps206 rfl (by kernel_rfl) (fun W I a hs=>?_)
 refine ai fun I a w hs=>?_
 refine nn<|sr ?_
 refine hs.cT rfl bA bk (by decide) fun b5 I a w hs=>?_
 obtain⟨I,hs⟩:=hs.fr 0 5
 have hs:=hs.drop 0
 refine ai fun I a w hs=>?_
 refine nn<|wp_block ?_
 refine St.lo (σ:=Nat) (run 2 3 (run 16 6 [])) ⟨fun k=>[(4,AV.int k),(3,bl ((q.ax.take k).foldl kv []))],fun k=>[],fun k=>k≤q.ax.length⟩ (fun k=>q.ax.length-k) 0 hs ?aN ?aO
 case aN=>exact Nat.zero_le _
 case aO=>
  rintro k I a w al hs
  have hk:k≤q.ax.length:=al
  refine aW fun I a w hs=>?_
  refine nn ?_
  refine hs.cd (fun ae=>?_) fun ae=>?_
  ·try simp only[B] at ae
   refine gi fun I a w hs=>?_
   refine hs.o (.cl (Cw _ _ (qd (acc:=[]) rfl (um hg k)).1 (p9 (hg _ (bx ae))))) fun hs=>?_
   refine aJ fun I a w hs=>?_
   refine nn ?_
   refine hs.again (k+1) ?gS ?gT (by rfl) ?gU (by repeat(first|exact Env.le_rfl|refine Env.ie rfl ?_))
   case gS=>omega
   case gT=>exact ae
   case gU=>exact(Env.dI rfl (by rfl) (Env.dI rfl (by exact congrArg bl (by rw[uk ae];rfl)) Env.le_nil))
  ·try simp only[B] at ae
   refine wp_exit<|aF<|aF<|aY ?_
   refine ai fun I a w hs=>?_
   refine nn<|wp_ret ?_
   refine hs.rt ?_
   exact congrArg bl (by rw[List.take_of_length_le (by omega)];rfl)
set_option maxHeartbeats 4000000 in
theorem U0 (q:Call) (n:Value) (t:Int) (hg:∀y∈q.ax,dE y=true) (hl:q.ax.length≤1048576) (hn:q.aM.length≤1048576):
 gO Tryz.prog 231 [q.uN n,AV.int t] [Own.row n 97 3 (q.aM.map ar.cells)] [] (jW {q with aM:=q.aM++jV q} t).av:=by
 refine cL.intro 54 Tryz.func231 rfl Tryz.ntmps231 rfl (by kernel_rfl) (fun W I a hs=>?_)
 have gR:bT (ez q)=true:=(qd (l:=q.ax) (acc:=[]) rfl hg).1
 refine sr<|hs.box rfl .tt fun b2 I a w hs=>hs.alloc rfl cy iP fun b4 I a w hs=>?_
 refine az fun I a w hs=>?_
 refine hs.o (.c1 (UZ q n hg hl)) fun hs=>?_
 refine ai fun I a w hs=>?_
 refine nn<|wp_block ?_
 refine St.lo (σ:=Nat×Value) (run 2 6 (run 37 10 [])) ⟨fun⟨k,v⟩=>[(6,AV.int k)],fun⟨k,v⟩=>[Own.row v 97 3 ((lF q k).map ar.cells),Own.box b2 51 [AV.int q.aC,AV.int q.num,AV.int q.kind,gh q.keys,AV.int q.val,bl q.ctx,AV.int q.bm,AV.int q.end_,AV.bool q.over,AV.int q.aA.time,AV.int q.aA.site,oq q.ax,AV.val v],Own.box b4 51 [AV.val (.int .i64 0),AV.val (.int .i64 0),AV.val (.int .i64 0),AV.rows 1 [],AV.val (.int .i64 0),AV.rows 3 [],AV.val (.int .i64 0),AV.val (.int .i64 0),AV.val (.bool false),AV.val (.int .i64 0),AV.val (.int .i64 0),AV.rows 9 [],AV.rows 3 []]],fun⟨k,v⟩=>k≤q.ax.length⟩ (fun⟨k,v⟩=>q.ax.length-k) (0,n) hs ?aN ?aO
 case aN=>exact Nat.zero_le _
 case aO=>
  rintro⟨k,v⟩ I a w al hs
  have hk:k≤q.ax.length:=al
  dsimp only at hs
  refine aW fun I a w hs=>?_
  refine nn ?_
  refine hs.cd (fun ae=>?_) fun ae=>?_
  ·try simp only[B] at ae
   refine dq fun I a w hs=>?_
   refine hs.o (.cl (Qe _ _ gR)) fun hs=>?_
   refine hs.alloc rfl gj iC fun b7 I a w hs=>?_
   refine hs.sb 3 fun hs=>?_
   obtain⟨I,hs⟩:=hs.fb 3 7
   refine nn<|wp_seq<|hs.dk ?_
   refine mJ ?_
   refine .o (.c2 (tW ..))<|.nil ?_
   intro I a w hs
   refine aG ?_
   refine hs.cd (fun ah=>?_) fun ah=>?_
   ·skip
    refine hs.dp 11 (by kernel_rfl) (by kernel_rfl) (by kernel_rfl) ?_
    simp only[List.take_succ_cons,List.take_zero,List.drop_succ_cons,List.drop_zero]
    refine tQ ?_
    refine .o (.bd eV (.k (.t aZ.nil))) ?_
    refine .o (.li [ar.cells ⟨(ab q.ax k).key,bY (ez q) (ab q.ax k).key⟩] fU (.u .nil)) ?_
    refine .nil ?_
    intro I a w hs
    refine hs.append 0 rfl bA bk rfl .tt .r rfl (by have:=K8 q k hk;simp;omega) fun CJ a w hs=>?_
    refine hs.o .fv fun hs=>?_
    try have ac0:=hs.dS 0 rfl
    refine hs.s1 1 fun hs=>?_
    refine wpList_nil ?_
    rw[ck,UP ae ah] at hs
    refine aB fun I a w hs=>?_
    refine nn ?_
    have hs:=hs.drop 3
    exact hs.ag (k+1,CJ) (ae)
   ·skip
    refine aB fun I a w hs=>?_
    refine nn ?_
    have hs:=hs.drop 3
    rw[UQ ae (by rw[ah];simp)] at hs
    exact hs.ag (k+1,v) (ae)
  ·try simp only[B] at ae
   refine wp_exit<|aF<|aF<|aY<|aG<|wp_seq<|wp_seq ?_
   rw[UR hk (by omega)] at hs
   refine ai fun I a w hs=>?_
   refine hs.o (ni 0 bA .tt rfl) fun hs=>hs.o .si fun hs=>nn ?_
   refine hs.cd (fun aj=>?_) fun aj=>?_
   ·try simp only[B] at aj
    refine aB fun I a w hs=>?_
    refine nn<|wp_seq ?_
    obtain⟨I,hs⟩:=hs.fu 0 12 1
    refine ai fun I a w hs=>?_
    refine nn<|wp_ret ?_
    refine hs.cP () [] rfl (.cons (.s 2 cy rfl rfl (by first|rfl|assumption)) .nil) trivial rfl ?_
    exact(by unfold jW;rw[if_pos (by apply List.length_eq_zero_iff.1;rw[List.length_map] at aj;exact Int.ofNat_eq_zero.1 aj)];rfl)
   ·try simp only[B] at aj
    refine wp_skip<|aG<|wp_seq ?_
    obtain⟨I,hs⟩:=hs.fu 0 12 1
    refine ai fun I a w hs=>?_
    refine nn<|wp_ret ?_
    refine hs.cP () [] rfl (.cons (.s 2 cy rfl rfl (by first|rfl|assumption)) .nil) trivial rfl ?_
    exact(by unfold jW;rw[if_neg (fun e=>aj (by rw[show q.aM++jV q=[] from e];rfl))];rfl)
set_option maxHeartbeats 4000000 in
theorem U1 (q:Call) (n:Value) (x:Answer) (t:Int) (hg:∀y∈q.ax,dE y=true) (hx:dE x=true) (hl:q.ax.length≤1048575) (jP:q.keys.length≤1048576) (hn:q.aM.length≤1048576):
 gO Tryz.prog 203 [q.uN n,x.av,AV.int t] [Own.row n 97 3 (q.aM.map ar.cells)] [] (lz q x t).av:=by
 refine cL.intro 62 Tryz.func203 rfl Tryz.ntmps203 rfl (by kernel_rfl) (fun W I a hs=>?_)
 refine sr<|hs.box rfl .tt fun b3 I a w hs=>hs.o .bp fun hs=>hs.alloc rfl cy iP fun b6 I a w hs=>nn<|sr ?_
 refine hs.cT rfl ef dC (by decide) fun kb I a w hs=>?_
 refine aB fun I a w hs=>?_
 refine nn<|wp_block ?_
 refine St.lo (σ:=Nat×Bool×List Answer×Value) (run 3 7 (run 32 11 [])) ⟨fun⟨k,done,out,v⟩=>[(9,AV.int k),(8,AV.bool done),(7,AV.val v)],fun⟨k,done,out,v⟩=>[Own.row n 97 3 (q.aM.map ar.cells),Own.box b3 51 [AV.int q.aC,AV.int q.num,AV.int q.kind,gh q.keys,AV.int q.val,bl q.ctx,AV.int q.bm,AV.int q.end_,AV.bool q.over,AV.int q.aA.time,AV.int q.aA.site,oq q.ax,AV.val n],Own.box b6 51 [AV.val (.int .i64 0),AV.val (.int .i64 0),AV.val (.int .i64 0),AV.rows 1 [],AV.val (.int .i64 0),AV.rows 3 [],AV.val (.int .i64 0),AV.val (.int .i64 0),AV.val (.bool false),AV.val (.int .i64 0),AV.val (.int .i64 0),AV.rows 9 [],AV.rows 3 []],Own.row v 121 9 (out.map Answer.cells)],fun⟨k,done,out,v⟩=>kU q.ax x k done out⟩ (fun⟨k,done,out,v⟩=>q.ax.length-k) (0,false,[],.slice (some ⟨kb,0,none⟩) 0 0) hs ?aN ?aO
 case aN=>exact kU.zero q.ax x
 case aO=>
  rintro⟨k,done,out,v⟩ I a w al hs
  have hp:kU q.ax x k done out:=al
  have hk:=hp.hk
  have gf:=hp.len
  have nr:done.toNat≤1:=by cases done<;>simp
  dsimp only at hs
  refine aW fun I a w hs=>?_
  refine nn ?_
  refine hs.cd (fun ae=>?_) fun ae=>?_
  ·try simp only[B] at ae
   refine az fun I a w hs=>?_
   refine aG ?_
   refine hs.cd (fun ah=>?_) fun ah=>?_
   ·simp only[B] at ah
    refine ai fun I a w hs=>?_
    refine hs.o (.li [x.cells] qT (.u .nil)) fun hs=>?_
    refine hs.append 3 rfl ef dC rfl .tt .r rfl (by simp;omega) fun v34 a w hs=>?_
    rw[ck] at hs
    refine gi fun I a w hs=>?_
    refine hs.o (.li [(ab q.ax k).cells] qT (.u .nil)) fun hs=>?_
    refine hs.append 3 rfl ef dC rfl .tt .r rfl (by simp;omega) fun my a w hs=>?_
    rw[ck] at hs
    refine aJ fun I a w hs=>?_
    refine nn ?_
    exact hs.ag (k+1,true,(out++[x])++[ab q.ax k],my) (by obtain⟨h1,h2⟩:=ah;subst h1;exact hp.before ae h2)
   ·simp only[B] at ah
    refine cx fun I a w hs=>?_
    refine hs.o (.li [(ab q.ax k).cells] qT (.u .nil)) fun hs=>?_
    refine hs.append 3 rfl ef dC rfl .tt .r rfl (by simp;omega) fun my a w hs=>?_
    rw[ck] at hs
    refine aJ fun I a w hs=>?_
    refine nn ?_
    exact hs.ag (k+1,done,out++[ab q.ax k],my) (hp.step ae (by rcases ah with h|h;exact .inl h;exact .inr (by omega)))
  ·try simp only[B] at ae
   refine wp_exit<|aF<|aF<|aY<|aG ?_
   refine St.cut (σ:=Value) (7::(run 6 43 [])) ⟨fun v=>[(7,AV.val v)],fun v=>[Own.row n 97 3 (q.aM.map ar.cells),Own.box b3 51 [AV.int q.aC,AV.int q.num,AV.int q.kind,gh q.keys,AV.int q.val,bl q.ctx,AV.int q.bm,AV.int q.end_,AV.bool q.over,AV.int q.aA.time,AV.int q.aA.site,oq q.ax,AV.val n],Own.box b6 51 [AV.val (.int .i64 0),AV.val (.int .i64 0),AV.val (.int .i64 0),AV.rows 1 [],AV.val (.int .i64 0),AV.rows 3 [],AV.val (.int .i64 0),AV.val (.int .i64 0),AV.val (.bool false),AV.val (.int .i64 0),AV.val (.int .i64 0),AV.rows 9 [],AV.rows 3 []],Own.row v 121 9 ((c7 q.ax x).map Answer.cells)],fun v=>True⟩ hs ?D0 ?D1
   case D0=>
    refine ai fun I a w hs=>?_
    refine nn ?_
    refine hs.cd (fun aj=>?_) fun aj=>?_
    ·try simp only[B] at aj
     refine ai fun I a w hs=>?_
     refine hs.o (.li [x.cells] qT (.u .nil)) fun hs=>?_
     refine hs.append 3 rfl ef dC rfl .tt .r rfl (by simp;omega) fun D2 a w hs=>?_
     rw[ck] at hs
     refine hs.s fun hs=>nn ?_
     first|rw[show out++[x]=c7 q.ax x from by subst aj;exact hp.p4 (by omega)] at hs|rw[show out=c7 q.ax x from by subst aj;exact hp.pZ (by omega)] at hs
     exact hs.me D2 (by trivial)
    ·try simp only[B] at aj
     refine wp_skip<|aG ?_
     first|rw[show out++[x]=c7 q.ax x from by subst aj;exact hp.p4 (by omega)] at hs|rw[show out=c7 q.ax x from by subst aj;exact hp.pZ (by omega)] at hs
     exact hs.me v (by trivial)
   case D1=>
    rintro v I a w al hs
    refine wp_seq ?_
    obtain⟨I,hs⟩:=hs.fr 3 7
    refine ai fun I a w hs=>?_
    try have ac2:=hs.dS 3 rfl
    refine gi fun I a w hs=>?_
    refine nn ?_
    refine hs.cd (fun aI=>?_) fun aI=>?_
    ·try simp only[B] at aI
     refine wp_seq ?_
     obtain⟨I,hs⟩:=hs.fu 0 12 1
     refine ai fun I a w hs=>?_
     refine nn<|wp_ret<|aE ?_
     refine hs.cP () [] rfl (.cons (.s 2 cy rfl rfl (by first|rfl|assumption)) .nil) trivial rfl ?_
     exact(by unfold lz;dsimp only;rw[if_pos (by simpa using aI)];rfl)
    ·try simp only[B] at aI
     refine ai fun I a w hs=>?_
     refine hs.dZ [0] (U0 {q with ax:=c7 q.ax x} n t (fun y hy=>(rz.1 hy).elim (fun e=>e▸hx) (hg y)) (by show(c7 q.ax x).length≤_;rw[sY];omega) hn) (aw .tt (aw .tt aP)) rfl (by decide) rfl fun I a w hs=>?_
     refine hs.sb 2 fun hs=>?_
     refine nn<|wp_ret ?_
     refine hs.cP () [] rfl (.cons (.s 2 cy rfl rfl (by first|rfl|assumption)) .nil) trivial rfl ?_
     exact(by unfold lz;dsimp only;rw[if_neg (by simpa using aI)];rfl)
theorem Lc (q:Call) (x:Answer) (k:Nat):(((((nc q x k).map ar.cells).length:Int)==0)&&decide (0<(q.aM.length:Int)))=decide (nc q x k=[]∧q.aM≠[]):=by
 rw[List.length_map,Bool.eq_iff_iff]
 simp
 intro _
 exact⟨fun h e=>by rw[e] at h;simp at h,fun h=>by cases hq:q.aM with|nil=>exact absurd hq h|cons _ _=>simp⟩
theorem U2 {q:Call} {t:Int} (h:dK q t) {x:Answer} {k:Nat} (hk:k<q.aM.length) (he:ab q.aM k=x.bG.bH) (hx:x.bG.key=x.key):0≤cz q x.key:=by
 have:=h.uD _ (bx hk)
 unfold qn at this
 rw[Bool.and_eq_true,decide_eq_true_eq,he] at this
 rw[←hx];exact this.1
set_option maxHeartbeats 4000000 in
theorem U3 (q:Call) (g:Value) (x:Answer) (t t0:Int) (h:dK q t0) (s5:x.bG.key=x.key):
 gO Tryz.prog 204 [q.TC g,x.av,AV.int t] [Own.row g 121 9 (q.ax.map Answer.cells)] [] (ml q x t).av:=by
 refine cL.intro 68 Tryz.func204 rfl Tryz.ntmps204 rfl (by kernel_rfl) (fun W I a hs=>?_)
 have m9:=h.lens
 refine sr<|hs.box rfl .tt fun b3 I a w hs=>hs.o .bp fun hs=>hs.alloc rfl cy iP fun b6 I a w hs=>nn<|sr ?_
 refine hs.cT rfl bA bk (by decide) fun b9 I a w hs=>?_
 refine ai fun I a w hs=>?_
 refine nn<|wp_block ?_
 refine St.lo (σ:=Nat×Value) (run 2 7 (run 44 10 [])) ⟨fun⟨k,v⟩=>[(8,AV.int k),(7,AV.val v)],fun⟨k,v⟩=>[Own.row g 121 9 ((nb q x k).map Answer.cells),Own.box b3 51 [AV.int q.aC,AV.int q.num,AV.int q.kind,gh q.keys,AV.int q.val,bl q.ctx,AV.int q.bm,AV.int q.end_,AV.bool q.over,AV.int q.aA.time,AV.int q.aA.site,AV.val g,bl q.aM],Own.box b6 51 [AV.val (.int .i64 0),AV.val (.int .i64 0),AV.val (.int .i64 0),AV.rows 1 [],AV.val (.int .i64 0),AV.rows 3 [],AV.val (.int .i64 0),AV.val (.int .i64 0),AV.val (.bool false),AV.val (.int .i64 0),AV.val (.int .i64 0),AV.rows 9 [],AV.rows 3 []],Own.row v 97 3 ((nc q x k).map ar.cells)],fun⟨k,v⟩=>k≤q.aM.length⟩ (fun⟨k,v⟩=>q.aM.length-k) (0,.slice (some ⟨b9,0,none⟩) 0 0) hs ?aN ?aO
 case aN=>exact Nat.zero_le _
 case aO=>
  rintro⟨k,v⟩ I a w al hs
  have hk:k≤q.aM.length:=al
  dsimp only at hs
  refine aW fun I a w hs=>?_
  refine nn ?_
  refine hs.cd (fun ae=>?_) fun ae=>?_
  ·try simp only[B] at ae
   refine wp_skip<|aG<|wp_seq<|wp_block<|wp_seq<|wp_seq<|hs.dk ?_
   refine lY ?_
   refine du ?_
   refine .q .T (lf [_,_] [_,_] l3 rfl rfl .ag .ag) ?_
   refine bz ?_
   refine .nil ?_
   intro I a w hs
   refine aG ?_
   refine hs.cd (fun ah=>?_) fun ah=>?_
   ·rw[La _ x s5,decide_eq_true_eq] at ah
    have D3:=U2 h ae ah s5
    obtain⟨qx,rv⟩:=uE D3
    rw[UU h.aM ae ah] at hs
    obtain⟨bg,Ld,eg⟩:=hs.g8 0 rfl (by simp only[List.length_map];omega)
    subst eg
    refine wp_seq ?_
    refine hs.dp 8 (by kernel_rfl) (by kernel_rfl) (by kernel_rfl) ?_
    simp only[List.take_succ_cons,List.take_zero,List.drop_succ_cons,List.drop_zero]
    refine eK ?_
    refine .o (Gp (cs:=[AV.int q.aC,AV.int q.num,AV.int q.kind,gh q.keys,AV.int q.val,bl q.ctx,AV.int q.bm,AV.int q.end_,AV.bool q.over,AV.int q.aA.time,AV.int q.aA.site,.val (.slice (some ⟨bg,0,none⟩) (q.ax.map Answer.cells).length Ld),bl q.aM]) 0 11 (aw .tt (aw .tt aP)) rfl rfl (yM q x.key) (fun _ _ _ h=>h)) ?_
    refine bz ?_
    refine .o (gv ef dC .tt .tt (fun _=>by simp only[List.length_map];omega)) ?_
    refine .nil ?_
    intro I a w hs
    refine hs.jx 0 dC .tt .tt rfl (by exact ek (by omega)) rfl rfl fun a w hs=>?_
    refine nn<|wp_exit<|aF<|aY ?_
    refine aB fun I a w hs=>?_
    refine nn ?_
    have e9:∀y,y=x.cells→(List.map Answer.cells q.ax).set (cz q x.key).toNat y=List.map Answer.cells (nb q x (k+1)):=fun y hy=>by rw[hy,US ae ah,List.map_set]
    rw[e9,UW ae ah] at hs
    rotate_left
    ·rfl
    exact hs.ag (k+1,v) (ae)
   ·rw[La _ x s5,decide_eq_false_iff_not] at ah
    refine cx fun I a w hs=>?_
    refine hs.o (.li [(ab q.aM k).cells] fU (.u .nil)) fun hs=>?_
    refine hs.append 3 rfl bA bk rfl .tt .r rfl (by have:=UY q x k;simp;omega) fun U4 a w hs=>?_
    rw[ck,UX ae ah,UT ae ah] at hs
    refine aJ fun I a w hs=>?_
    refine nn ?_
    exact hs.ag (k+1,U4) (ae)
  ·try simp only[B] at ae
   refine wp_exit<|aF<|aF<|aY ?_
   refine az fun I a w hs=>?_
   refine hs.o (ni 3 bA .tt rfl) fun hs=>?_
   refine dq fun I a w hs=>?_
   refine nn ?_
   refine hs.cd (fun aj=>?_) fun aj=>?_
   ·rw[Lc,decide_eq_true_eq] at aj
    refine aB fun I a w hs=>?_
    refine nn<|wp_seq ?_
    obtain⟨I,hs⟩:=hs.fr 3 7
    refine ai fun I a w hs=>?_
    try have U5:=hs.dS 3 rfl
    refine hs.s1 1 fun hs=>?_
    refine nn<|wp_seq ?_
    obtain⟨I,hs⟩:=hs.fu 0 11 1
    refine ai fun I a w hs=>?_
    refine nn<|wp_ret ?_
    refine hs.cP () [] rfl (.cons (.s 2 cy rfl rfl (by first|rfl|assumption)) .nil) trivial rfl ?_
    exact(by rw[K9 (k:=k) (by omega),if_pos aj];rfl)
   ·rw[Lc,decide_eq_false_iff_not] at aj
    refine wp_skip<|aG<|wp_seq ?_
    obtain⟨I,hs⟩:=hs.fr 3 7
    refine ai fun I a w hs=>?_
    try have U5:=hs.dS 3 rfl
    refine hs.s1 1 fun hs=>?_
    refine nn<|wp_seq ?_
    obtain⟨I,hs⟩:=hs.fu 0 11 1
    refine ai fun I a w hs=>?_
    refine nn<|wp_ret ?_
    refine hs.cP () [] rfl (.cons (.s 2 cy rfl rfl (by first|rfl|assumption)) .nil) trivial rfl ?_
    exact(by rw[K9 (k:=k) (by omega),if_neg aj];rfl)
set_option maxHeartbeats 4000000 in
theorem U6 (q:Call) (m:aD) (t:Int) (h:dK q t) (ht:t≤1000000):
 Fn Tryz.prog 178 [q.av,m.av,AV.int t] ((c4 q m t).av):=by
 refine Fn.intro 135 Tryz.func178 rfl Tryz.ntmps178 rfl (by kernel_rfl) (fun W I a hs=>?_)
 have al:=oO.2 h
 have m9:=h.lens
 have hb:=h.bm
 have tg:=h.xi (by omega)
 have bB:=qp.1 h.aC
 refine ai fun I a w hs=>?_
 refine hs.alloc rfl cy iP fun b6 I a w hs=>?_
 refine ai fun I a w hs=>?_
 refine hs.o (cI (yQ q t (by omega) (by omega)) (aw (.t rfl) (aw (.t rfl) aP))) fun hs=>?_
 refine hs.o .nt fun hs=>nn ?_
 refine hs.cd (fun ae=>?_) fun ae=>?_
 ·exfalso;rw[al] at ae;cases ae
  skip
 ·skip
  refine az fun I a w hs=>?_
  refine hs.cW [] (TE q h.small) (aw .tt aP) rfl (by decide) rfl fun u I a w ac3 hs=>?_
  refine hs.alloc rfl cy iP fun b7 I a w hs=>?_
  refine ai fun I a w hs=>?_
  refine hs.o (.c1 (B5 ..)) fun hs=>?_
  refine G3 fun I a w hs=>?_
  refine hs.q .F (.cl (H9 ..)) fun hs=>?_
  refine vZ fun I a w hs=>?_
  refine nn ?_
  refine hs.cd (fun ah=>?_) fun ah=>?_
  ·rw[Lb q m t tg.1] at ah;replace ah:=nt ah
   refine wp_seq ?_
   obtain⟨I,hs⟩:=hs.fu 1 11 3
   obtain⟨I,hs⟩:=hs.fu 2 12 3
   refine ai fun I a w hs=>?_
   refine nn<|wp_ret<|aE ?_
   refine hs.ret rfl (.cons (.s 0 cy rfl rfl (by first|rfl|assumption)) aU.nil) ?_
   exact(by unfold c4;rw[ah];rfl)
  ·rw[Lb q m t tg.1] at ah;replace ah:=nf ah;have xl:=ah;simp only[Bool.and_eq_true,decide_eq_true_eq] at xl;obtain⟨⟨⟨⟨⟨hm,_⟩,_⟩,iB⟩,hw⟩,D4⟩:=xl;have xm:=gn (mo hm).1
   refine aB fun I a w hs=>?_
   refine nn ?_
   refine hs.cd (fun aj=>?_) fun aj=>?_
   ·try simp only[B] at aj
    refine cx fun I a w hs=>?_
    refine hs.q .T (.cl (sC ..)) fun hs=>?_
    refine hs.o .an fun hs=>nn ?_
    refine hs.cd (fun aI=>?_) fun aI=>?_
    ·skip
     refine aB fun I a w hs=>?_
     refine hs.oi 3 gj .tt .tt rfl rfl rfl fun a w hs=>?_
     refine aB fun I a w hs=>?_
     refine nn<|wp_seq ?_
     obtain⟨I,hs⟩:=hs.fu 1 11 3
     obtain⟨I,hs⟩:=hs.fu 2 12 3
     refine ai fun I a w hs=>?_
     refine nn<|wp_ret<|aE ?_
     refine hs.ret rfl (.cons (.s 0 cy rfl rfl (by first|rfl|assumption)) aU.nil) ?_
     exact(by unfold c4;rw[ah,if_pos rfl,if_pos aj,if_pos (by simpa using aI)];rfl)
    ·skip
     refine wp_skip<|aG<|wp_seq ?_
     obtain⟨I,hs⟩:=hs.fu 1 11 3
     obtain⟨I,hs⟩:=hs.fu 2 12 3
     refine ai fun I a w hs=>?_
     refine nn<|wp_ret<|aE ?_
     refine hs.ret rfl (.cons (.s 0 cy rfl rfl (by first|rfl|assumption)) aU.nil) ?_
     exact(by unfold c4;rw[ah,if_pos rfl,if_pos aj,if_neg (by simpa using aI)];rfl)
   ·try simp only[B] at aj
    refine aJ fun I a w hs=>?_
    refine hs.o (.bd mL (.k (.k aZ.nil))) fun hs=>?_
    refine hs.alloc rfl dC mL fun b8 I a w hs=>?_
    refine hs.sb 4 fun hs=>?_
    refine nn<|wp_seq<|wp_seq<|hs.dk ?_
    refine pT ?_
    refine .q .F2 (eZ (i:=0) cM bt .ag .c (fun hg=>by simp at hg;omega)) ?_
    refine mJ ?_
    refine .nil ?_
    intro I a w hs
    refine aG ?_
    refine hs.cd (fun aL=>?_) fun aL=>?_
    ·rw[zU] at aL;replace aL:=nt aL;rw[decide_eq_false_iff_not] at aL
     refine wp_seq ?_
     obtain⟨I,hs⟩:=hs.fu 1 11 3
     obtain⟨I,hs⟩:=hs.fu 2 12 3
     refine ai fun I a w hs=>?_
     refine nn<|wp_ret<|aE ?_
     refine hs.ret rfl (.cons (.s 0 cy rfl rfl (by first|rfl|assumption)) aU.nil) ?_
     exact(by unfold c4 iI;rw[ah,if_pos rfl,if_neg aj,if_neg aL];rfl)
    ·rw[zU] at aL;replace aL:=nf aL;rw[decide_eq_true_eq] at aL;have rG:=Dd (q:=q) hm aL.2
     refine wp_skip<|aG ?_
     refine St.cut (σ:=Unit) (run 8 104 []) ⟨fun _=>[],fun _=>[Own.box b6 51 [AV.val (.int .i64 0),AV.val (.int .i64 0),AV.val (.int .i64 0),AV.rows 1 [],AV.val (.int .i64 0),AV.rows 3 [],AV.val (.int .i64 0),AV.val (.int .i64 0),AV.val (.bool false),AV.val (.int .i64 0),AV.val (.int .i64 0),AV.rows 9 [],AV.rows 3 []],Own.row u.1 121 9 (q.ax.map Answer.cells),Own.row u.2 97 3 (q.aM.map ar.cells),Own.box b7 51 [AV.int q.aC,AV.int q.num,AV.int q.kind,gh q.keys,AV.int q.val,bl q.ctx,AV.int q.bm,AV.int q.end_,AV.bool q.over,AV.int q.aA.time,AV.int q.aA.site,AV.val u.1,AV.val u.2],Own.box b8 121 (dw m).cells],fun _=>True⟩ hs ?U7 ?U8
     case U7=>
      refine ai fun I a w hs=>?_
      refine nn ?_
      refine hs.cd (fun bf=>?_) fun bf=>?_
      ·have hv1:=(aL.2 bf).1
       refine ai fun I a w hs=>?_
       refine hs.o (eZ (i:=0) cM bt .tt .c (fun _=>by omega)) fun hs=>?_
       refine hs.o .la fun hs=>?_
       refine hs.o (cI (mN (ab m.aq 0) (by have:=gm (jE (gA (mo hm).1 _ (bx (l:=m.aq) (k:=0) (by omega)))).2.2;omega)) (aw (.t rfl) aP)) fun hs=>?_
       refine hs.o .fv fun hs=>hs.oi 4 bt .tt .tt rfl rfl rfl fun a w hs=>nn ?_
       have hs:=hs.pass (H':=[Own.box b6 51 [AV.val (.int .i64 0),AV.val (.int .i64 0),AV.val (.int .i64 0),AV.rows 1 [],AV.val (.int .i64 0),AV.rows 3 [],AV.val (.int .i64 0),AV.val (.int .i64 0),AV.val (.bool false),AV.val (.int .i64 0),AV.val (.int .i64 0),AV.rows 9 [],AV.rows 3 []],Own.row u.1 121 9 (q.ax.map Answer.cells),Own.row u.2 97 3 (q.aM.map ar.cells),Own.box b7 51 [AV.int q.aC,AV.int q.num,AV.int q.kind,gh q.keys,AV.int q.val,bl q.ctx,AV.int q.bm,AV.int q.end_,AV.bool q.over,AV.int q.aA.time,AV.int q.aA.site,AV.val u.1,AV.val u.2],Own.box b8 121 (dw m).cells]) (by unfold dw;rw[bf];rfl)
       exact hs.me () (by trivial)
      ·skip
       refine wp_skip<|aG ?_
       have hs:=hs.pass (H':=[Own.box b6 51 [AV.val (.int .i64 0),AV.val (.int .i64 0),AV.val (.int .i64 0),AV.rows 1 [],AV.val (.int .i64 0),AV.rows 3 [],AV.val (.int .i64 0),AV.val (.int .i64 0),AV.val (.bool false),AV.val (.int .i64 0),AV.val (.int .i64 0),AV.rows 9 [],AV.rows 3 []],Own.row u.1 121 9 (q.ax.map Answer.cells),Own.row u.2 97 3 (q.aM.map ar.cells),Own.box b7 51 [AV.int q.aC,AV.int q.num,AV.int q.kind,gh q.keys,AV.int q.val,bl q.ctx,AV.int q.bm,AV.int q.end_,AV.bool q.over,AV.int q.aA.time,AV.int q.aA.site,AV.val u.1,AV.val u.2],Own.box b8 121 (dw m).cells]) (by unfold dw;rw[bf];rfl)
       exact hs.me () (by trivial)
     case U8=>
      rintro _ I a w al hs
      refine aB fun I a w hs=>?_
      refine hs.o (.c2 (yM q m.key)) fun hs=>hs.o .vH fun hs=>nn ?_
      refine hs.cd (fun aX=>?_) fun aX=>?_
      ·try simp only[B] at aX
       refine ai fun I a w hs=>?_
       refine hs.o (.bd iC aZ.nil) fun hs=>?_
       refine hs.o (lf [_,_] [_,_] l3 rfl rfl .tt .tt) fun hs=>nn ?_
       refine hs.cd (fun bU=>?_) fun bU=>?_
       ·rw[yP] at bU
        refine wp_seq ?_
        obtain⟨I,hs⟩:=hs.fu 1 11 3
        refine aB fun I a w hs=>?_
        refine hs.dZ [2] (U1 q u.2 (dw m) t h.eD rG (by omega) (by omega) (by omega)) (aw .tt (aw .tt (aw .tt aP))) rfl (by decide) rfl fun I a w hs=>?_
        refine hs.o (.c1 (DF _ (dK.lz h hw D4 aj rG iB aX).small)) fun hs=>?_
        refine hs.sb 0 fun hs=>?_
        refine nn<|wp_ret<|aE<|aE ?_
        refine hs.ret rfl (.cons (.s 0 cy rfl rfl (by first|rfl|assumption)) aU.nil) ?_
        exact(by unfold c4 iI;rw[ah,if_pos rfl,if_neg aj,if_pos aL,if_pos aX,if_pos bU];rfl)
       ·rw[yP] at bU
        refine wp_skip<|aG<|wp_seq ?_
        obtain⟨I,hs⟩:=hs.fu 1 11 3
        obtain⟨I,hs⟩:=hs.fu 2 12 3
        refine ai fun I a w hs=>?_
        refine nn<|wp_ret<|aE ?_
        refine hs.ret rfl (.cons (.s 0 cy rfl rfl (by first|rfl|assumption)) aU.nil) ?_
        exact(by unfold c4 iI;rw[ah,if_pos rfl,if_neg aj,if_pos aL,if_pos aX,if_neg (by rw[bU];simp)];rfl)
      ·try simp only[B] at aX
       refine ai fun I a w hs=>?_
       refine nn ?_
       refine hs.cd (fun cQ=>?_) fun cQ=>?_
       ·skip
        refine wp_seq ?_
        obtain⟨I,hs⟩:=hs.fu 2 12 3
        refine aB fun I a w hs=>?_
        refine hs.dZ [1] (U3 q u.1 (dw m) t t h (ri rG cQ).2) (aw .tt (aw .tt (aw .tt aP))) rfl (by decide) rfl fun I a w hs=>?_
        refine hs.o (.c1 (DF _ (dK.ml h hw D4 aj rG cQ).small)) fun hs=>?_
        refine hs.sb 0 fun hs=>?_
        refine nn<|wp_ret<|aE ?_
        refine hs.ret rfl (.cons (.s 0 cy rfl rfl (by first|rfl|assumption)) aU.nil) ?_
        exact(by unfold c4 iI;rw[ah,if_pos rfl,if_neg aj,if_pos aL,if_neg (Int.not_lt.2 aX),if_pos cQ];rfl)
       ·skip
        refine wp_skip<|aG<|wp_seq ?_
        obtain⟨I,hs⟩:=hs.fu 1 11 3
        obtain⟨I,hs⟩:=hs.fu 2 12 3
        refine ai fun I a w hs=>?_
        refine nn<|wp_ret ?_
        refine hs.ret rfl (.cons (.s 0 cy rfl rfl (by first|rfl|assumption)) aU.nil) ?_
        exact(by unfold c4 iI;rw[ah,if_pos rfl,if_neg aj,if_pos aL,if_neg (Int.not_lt.2 aX),if_neg (by rw[cQ];simp)];rfl)
theorem zV (l:List Call) (aC:Int):
 Fn Tryz.prog 93 [bE l,AV.int aC] (AV.int (bW l aC)):=by
 refine Fn.intro 36 Tryz.func93 rfl Tryz.ntmps93 rfl (by kernel_rfl) (fun W I a hs=>?_)
 have hle:=hs.ew (t:=0) rfl
 refine ai fun I a w hs=>?_
 refine nn<|wp_block ?_
 refine St.lo (σ:=Nat) (run 32 4 []) ⟨fun k=>[(5,AV.int k)],fun k=>[],fun k=>k≤l.length∧∀i,i<k→rq aC (ab l i)=false⟩ (fun k=>l.length-k) 0 hs ?aN ?aO
 case aN=>exact⟨Nat.zero_le _,fun i hi=>by omega⟩
 case aO=>
  rintro k I a w al hs
  obtain⟨hk,aT⟩:=al
  refine aJ fun I a w hs=>?_
  refine nn ?_
  refine hs.cd (fun ae=>?_) fun ae=>?_
  ·try simp only[B] at ae
   refine v3 fun I a w hs=>?_
   refine nn ?_
   refine hs.cd (fun ah=>?_) fun ah=>?_
   ·change rq aC (ab l k)=true at ah
    refine ai fun I a w hs=>?_
    refine nn<|wp_ret<|bh<|aE<|aE<|bh<|aE ?_
    refine hs.rt ?_
    exact fk (mM ae aT ah).symm
   ·change rq aC (ab l k)=false at ah
    refine aB fun I a w hs=>?_
    refine nn ?_
    exact hs.ag (k+1) (⟨ae,fun i h1=>by rcases Nat.lt_succ_iff_lt_or_eq.1 h1 with h|h;exact aT i h;rw[h];exact ah⟩)
  ·try simp only[B] at ae
   refine wp_exit<|aF<|aF<|aY ?_
   refine az fun I a w hs=>?_
   refine nn<|wp_ret ?_
   refine hs.rt ?_
   exact fk (l5 (by omega) aT).symm
theorem zW {e:Ev} (h:((e.call==2)&&decide (e.a<e.b))=false):lB e=[e.a]:=by
 unfold lB;rw[if_neg];simpa using h
theorem zX {e:Ev} (h:((e.call==2)&&decide (e.a<e.b))=true) (h2:¬e.b<e.c):lB e=[e.a,e.b]:=by
 unfold lB;rw[if_pos (by simpa using h),if_neg h2]
theorem zY {e:Ev} (h:((e.call==2)&&decide (e.a<e.b))=true) (h2:e.b<e.c):lB e=[e.a,e.b,e.c]:=by
 unfold lB;rw[if_pos (by simpa using h),if_pos h2]
def tk (ao more:List aD):Nat→List aD
 |0=>ao
 |k+1=>tk ao more k++[ab more k]
theorem Le (ao more:List aD):∀k,k≤more.length→tk ao more k=ao++more.take k
 |0,_=>by simp[tk]
 |k+1,h=>by
  show tk ao more k++_=_
  rw[Le ao more k (by omega),List.append_assoc,←dL (by omega)]
theorem U9 {ao more:List aD} {k:Nat} (hr:ao.length≤60) (hk:k≤more.length) (jn:k≤60-ao.length) (h:¬(k<more.length∧(ao++more.take k).length<60)):ao++more.take k=dQ ao more:=by
 unfold dQ
 have hl:(more.take k).length=k:=by simp;omega
 rw[List.length_append,hl] at h
 congr 1
 by_cases hm:k<more.length
 ·have:k=60-ao.length:=by omega
  rw[this]
 ·have:k=more.length:=by omega
  rw[this,List.take_length,List.take_of_length_le (by omega)]
theorem Va (e:Ev):
 Fn Tryz.prog 176 [e.av] (gh (lB e)):=by
 refine Fn.intro 33 Tryz.func176 rfl Tryz.ntmps176 rfl (by kernel_rfl) (fun W I a hs=>?_)
 refine aJ fun I a w hs=>?_
 refine hs.yf (gw:=[[AV.int e.a]]) rfl il fT rfl qS rfl rfl rfl (aZ.c rfl rfl .tt (by first|exact iY rfl|exact jj|exact jk|exact jl) aZ.nil) rfl rfl (by simp only[List.forall_mem_cons];exact⟨rfl,fun _ h=>by simp at h⟩) rfl fun b6 I a w hs=>?_
 refine qR fun I a w hs=>?_
 refine nn ?_
 refine hs.cd (fun ae=>?_) fun ae=>?_
 ·skip
  refine aB fun I a w hs=>?_
  refine hs.o (.li [[AV.int e.b]] qS (.v .nil)) fun hs=>?_
  refine hs.append 0 rfl il fT rfl .tt .r rfl (by simp) fun IG a w hs=>?_
  refine cx fun I a w hs=>?_
  refine nn ?_
  refine hs.cd (fun ah=>?_) fun ah=>?_
  ·try simp only[B] at ah
   refine aB fun I a w hs=>?_
   refine hs.o (.li [[AV.int e.c]] qS (.v .nil)) fun hs=>?_
   refine hs.append 0 rfl il fT rfl .tt .r rfl (by simp) fun v31 a w hs=>?_
   refine aB fun I a w hs=>?_
   refine nn<|wp_ret ?_
   obtain⟨I,hs⟩:=hs.fr 0 2
   refine hs.rt ?_
   exact(by rw[zY ae ah];rfl)
  ·try simp only[B] at ah
   refine ai fun I a w hs=>?_
   refine nn<|wp_ret ?_
   obtain⟨I,hs⟩:=hs.fr 0 2
   refine hs.rt ?_
   exact(by rw[zX ae (by simpa using ah)];rfl)
 ·skip
  refine ai fun I a w hs=>?_
  refine nn<|wp_ret ?_
  obtain⟨I,hs⟩:=hs.fr 0 2
  refine hs.rt ?_
  exact(by rw[zW ae];rfl)
set_option maxHeartbeats 4000000 in
theorem zZ (v:Value) (ao more:List aD) (hr:ao.length≤60):
 gO Tryz.prog 145 [AV.val v,bj more] [Own.row v 74 15 (ao.map aD.cells)] [] (bj (dQ ao more)):=by
 refine cL.intro 25 Tryz.func145 rfl Tryz.ntmps145 rfl (by kernel_rfl) (fun W I a hs=>?_)
 have hle:=hs.ew (t:=1) rfl
 refine ai fun I a w hs=>?_
 refine nn<|wp_block ?_
 refine St.lo (σ:=Nat×Value) (0::(run 19 5 [])) ⟨fun⟨k,u⟩=>[(5,AV.int k),(0,AV.val u)],fun⟨k,u⟩=>[Own.row u 74 15 ((tk ao more k).map aD.cells)],fun⟨k,u⟩=>k≤more.length∧k≤60-ao.length⟩ (fun⟨k,u⟩=>more.length-k) (0,v) hs ?aN ?aO
 case aN=>exact⟨Nat.zero_le _,Nat.zero_le _⟩
 case aO=>
  rintro⟨k,u⟩ I a w al hs
  obtain⟨hk,jn⟩:=al
  have bJ:(more.take k).length=k:=by simp;omega
  have z0:=Le ao more k hk
  dsimp only at hs
  refine cx fun I a w hs=>?_
  refine hs.q .T (ni 0 dh .ag rfl) fun hs=>?_
  refine ai fun I a w hs=>?_
  refine nn ?_
  refine hs.cd (fun ae=>?_) fun ae=>?_
  ·simp only[B] at ae;rw[List.length_map] at ae;rw[z0] at ae;replace ae:k<more.length∧(ao++more.take k).length<60:=⟨ae.1,by omega⟩
   refine aB fun I a w hs=>?_
   refine hs.o ((by first|exact eZ dh cj .tt .tt (fun _=>by exact ae.1)|exact iM dh cj .tt .tt (fun _=>by exact ae.1)|exact iX dh cj .tt .tt (fun _=>by exact ae.1))) fun hs=>?_
   refine hs.o .la fun hs=>?_
   refine hs.o (.li [(ab more k).cells] fF (.u .nil)) fun hs=>?_
   refine hs.append 0 rfl dh cj rfl .tt .r rfl (by rw[z0];simp;omega) fun yW a w hs=>?_
   rw[ck,show tk ao more k++[ab more k]=tk ao more (k+1) from rfl] at hs
   refine aJ fun I a w hs=>?_
   refine nn ?_
   exact hs.ag (k+1,yW) (⟨ae.1,by have:=ae.2;rw[List.length_append,bJ] at this;omega⟩)
  ·replace ae:¬(k<more.length∧(ao++more.take k).length<60):=fun hh=>by rw[z0] at ae;simp at ae;simp at hh;omega
   refine wp_exit<|aF<|aF<|aY<|aG<|wp_seq ?_
   rw[z0,U9 hr hk jn ae] at hs
   obtain⟨I,hs⟩:=hs.fr 0 0
   refine ai fun I a w hs=>?_
   refine nn<|wp_ret ?_
   refine hs.cP () [] rfl (.cons (.t rfl) .nil) trivial rfl rfl
end Go.Proofs.YtoeioeimmfpefaaGreat

/- Part 42: contracts of functions, plain facts. -/
import Derived.Test.YtdanidpleofjgaaGreatP37
import Derived.Test.YtdanidpleofjgaaGreatP39
import Derived.Test.YtdanidpleofjgaaGreatP41
set_option linter.all false
set_option maxRecDepth 100000
set_option maxHeartbeats 4000000
namespace Go.Proofs.YtdanidpleofjgaaGreat
open Go Go.RowKit Tryz
attribute [local irreducible] wpList Code.wp Ok
def KG (m:ax) (h1:kv m.aO) (h2:kv m.to):
 Fn prog 59 [m.av] (AV.bool (bI m)):=by
 refine Fn.go 66 func59 ntmps59 (λW I a U=>?_);refine bB λI a w U=>?_;refine U.o (.cl (jq ..)) λU=>?_;refine bm λI a w U=>?_;refine U.q .T (.cl (Sf _ h1)) λU=>?_;refine bB λI a w U=>?_;refine U.q .T (.cl (Sf _ h2)) λU=>?_;refine bB λI a w U=>?_;refine U.q .T (.cl (jq ..)) λU=>?_;refine bB λI a w U=>?_;refine U.q .T (.cl (Bw ..)) λU=>?_;refine bB λI a w U=>?_;refine U.q .T (.cl (QG ..)) λU=>?_;refine bB λI a w U=>?_;refine U.q .T (.cl (jq ..)) λU=>?_;refine bB λI a w U=>?_;refine U.q .T (.cl (Bz ..)) λU=>?_;refine bB λI a w U=>?_;refine U.q .T (.cl (jq ..)) λU=>?_;refine bB λI a w U=>?_;refine U.q .T (.cl (jq ..)) λU=>?_;refine bB λI a w U=>?_;refine U.q .T (.cl (zy ..)) λU=>?_;refine bB λI a w U=>?_;refine U.q .T (.cl (zy ..)) λU=>?_;refine bB λI a w U=>?_;refine U.q .T (.cl (Jf ..)) λU=>?_;refine dG ?_;rfl
def Ti (q:Call) (h:zn q):
 dr prog 103 [q.av] [] (λ_:Value×Value=>True) (λu=>[Own.row u.1 128 9 (q.aC.map Answer.cells),Own.row u.2 115 3 (q.aL.map au.cells)]) (λu=>q.zq u.1 u.2):=by
 refine dr.intro 40 func103 rfl ntmps103 rfl aS (λW I a U=>?_);obtain⟨h1,h2,h4,h5,h3⟩:=h;have U:=U.hP (sz:=9) 128;refine sr<|U.box rfl .tt λb1 I a w U=>U.alloc rfl fI j4 λb2 I a w U=>?_;refine zt ?_;refine U.da 10 ?_;simp only[TD];refine cB ?_;refine .o (DG ky jQ rfl YH .r (λ_=>by simp;omega)) ?_;refine cB ?_;refine .o (.cl (tX q.ctx h2)) ?_;refine cB ?_;refine gJ.pt (Ez q.aL h3) (az .r aI) ?_;refine bJ ?_;refine .nil ?_;intro I a w U;obtain⟨mC,U⟩:=U.DK (d:=14);refine bB λI a w U=>?_;try have Ro:=U.ff 3 rfl
 refine iP λI a w U=>?_;refine St.lo (σ:=Nat×Value) (3::(5::(run 16 21 []))) ⟨λ⟨k,v⟩=>[(21,AV.int k),(3,AV.val v)],λ⟨k,v⟩=>[Own.row v 128 9 ((q.aC.take k).map Answer.cells),Own.box b1 53 [AV.int q.ao,AV.int q.num,AV.int q.kind,jb q.keys,AV.int q.val,bE q.ctx,AV.int q.bH,AV.int q.end_,AV.bool q.over,AV.int q.aq.time,AV.int q.aq.site,sw q.aC,AV.val mC],Own.box b2 53 [AV.val (.int .i64 0),AV.val (.int .i64 0),AV.val (.int .i64 0),AV.rows 1 [],AV.val (.int .i64 0),AV.rows 3 [],AV.val (.int .i64 0),AV.val (.int .i64 0),AV.val (.bool false),AV.val (.int .i64 0),AV.val (.int .i64 0),AV.rows 9 [],AV.rows 3 []],Own.row mC 115 3 (q.aL.map au.cells)],λ⟨k,v⟩=>k<=q.aC.length⟩ (λ⟨k,v⟩=>q.aC.length-k) (0,.slice none 0 0) U ?aJ ?bF;case aJ=>exact Nat.zero_le _
 rintro⟨k,v⟩ I a w an U;have hk:k<=q.aC.length:=an;dsimp only at U;refine aB λI a w U=>?_;refine cz (λae=>?_) λae=>?_
 .refine aG λI a w U=>?_;refine U.alloc rfl ga pD λb5 I a w U=>?_;refine aB λI a w U=>?_;obtain⟨I,U⟩:=U.fb 4 5;refine U.dt 10 ?_;simp only[TD];refine mo ?_;refine .o (.c1 (xh _ (h5 _ (bf ae)))) ?_;refine .o (.bd pD (.k (.k (.t bc.nil)))) ?_;refine .o (.li [(ab q.aC k).cells] ve (.u .nil)) ?_;refine .nil ?_;intro I a w U;refine U.ap 0 λv35 a w U=>?_;rw[cF,<-eT ae] at U;refine aR λI a w U=>?_;have U:=U.drop 4;exact U.ag (k+1,v35) (ae)
 refine wp_exit<|cy<|cy<|fk<|bj<|wp_seq ?_;rw[List.take_of_length_le om] at U;refine aG λI a w U=>?_;try have aoM:=U.ff 0 rfl
 refine aR λI a w U=>?_;exact U.dw (v,mC) [0,3] rfl (.cons (.s 2 fI rfl rfl (by first|rfl|assumption)) .nil) trivial rfl rfl
def Tj (q:Call) (h:zn q):Fn prog 103 [q.av] q.av:=(Ti q h).frozen λr c I a w _ U=>by
 obtain⟨I,U⟩:=U.fa 0 0 11;obtain⟨I,U⟩:=U.fa 1 0 12;exact⟨_,_,_,U⟩
def KH {q:Call}:(asks q).length<=q.keys.length+q.aL.length+1:=by
 by_cases hk:q.kind=1
 .unfold asks;rw[if_pos hk];simp
 rw[<-Kr hk (Nat.le_refl _)];have:=R6 q q.aL.length;omega
def afm (q:Call) (t:Int) (h:dH q t) (ht:t<=1000000):
 Fn prog 157 [q.av] (dR (ie q)):=by
 refine Fn.go 103 func157 ntmps157 (λW I a U=>?_);have U:=U.hP (sz:=15) 84;have U:=U.hP (sz:=15) 84;have hb:=h.bH;have xY:=h.Cn om;have mY:=h.lens;have hal:=KH (q:=q);have bq:=pJ.1 h.ao;refine cj λI a w U=>?_;refine U.o (bT (JQ q q.bH om) (az (.t rfl) (az (.t rfl) aI))) λU=>?_;refine bm λI a w U=>?_;refine U.q .F (.cl (Ik ..)) λU=>?_;refine aF λI a w U=>?_;refine U.cd (λae=>?_) λae=>?_
 .rw[SW h om] at ae;replace ae:=nt ae;refine aB λI a w U=>?_;refine U.ret rfl (.cons (.nil (sz:=15) rfl) aW.nil) ?_;exact(by unfold ie;rw[ae];rfl)
 rw[SW h om] at ae;replace ae:=nf ae;refine bK λI a w U=>?_;refine nn ?_;refine St.cut (σ:=Value) (3::(5::(7::(run 48 22 [])))) ⟨λv=>[(3,AV.val v)],λv=>[Own.row v 84 15 ((asks q).map ax.cells),Own.row (.slice none 0 0) 84 15 ([])],λv=>True⟩ U ?rR ?Cq;case rR=>
  refine aR λI a w U=>?_;refine cz (λah=>?_) λah=>?_
  .refine U.dt 11 ?_;simp only[TD];refine yJ ?_;refine .o (.bd eI (.k (.k (.k (.k bc.nil))))) ?_;refine .o (.li [({bW with kind:=1,key:=ab q.keys 0,val:=q.val,aQ:=q.ctx}:ax).cells] ir (.u .nil)) ?_;refine .nil ?_;intro I a w U;refine U.append 0 rfl gf dI rfl .tt .r rfl bk λSv a w U=>?_;refine aB λI a w U=>?_;first|(rw[show[({bW with kind:=1,key:=ab q.keys 0,val:=q.val,aQ:=q.ctx}:ax).cells]=(asks q).map ax.cells from by unfold asks;rw[if_pos ah];rfl] at U)|rw[Kr ah om] at U
   exact U.me Sv gD
  refine aZ λI a w U=>?_;refine St.lo (σ:=Nat×Value) (3::(5::(run 14 40 []))) ⟨λ⟨k,v⟩=>[(40,AV.int k),(3,AV.val v)],λ⟨k,v⟩=>[Own.row v 84 15 ((p5 q k).map ax.cells),Own.row (.slice none 0 0) 84 15 ([])],λ⟨k,v⟩=>k<=q.keys.length⟩ (λ⟨k,v⟩=>q.keys.length-k) (0,(.slice none 0 0)) U ?aJ ?bF;case aJ=>exact Nat.zero_le _
  rintro⟨k,v⟩ I a w an U;have hk:k<=q.keys.length:=an;dsimp only at U;refine aB λI a w U=>?_;refine cz (λar=>?_) λar=>?_
  .refine cj λI a w U=>?_;refine U.o (.c2 (QL q (ab q.keys k))) λU=>?_;refine aB λI a w U=>?_;refine cz (λaM=>?_) λaM=>?_
   .refine aG λI a w U=>?_;refine U.o (.bd eI (.k (.k bc.nil))) λU=>?_;refine U.o (.li [(xF (ab q.keys k)).cells] ir (.u .nil)) λU=>?_;refine U.append 0 rfl gf dI rfl .tt .r rfl (by have:=JP q k hk;simp;omega) λv52 a w U=>?_;rw[cF,R4 ar (by simpa using aM)] at U;refine aR λI a w U=>?_;exact U.ag (k+1,v52) (ar)
   refine aF λI a w U=>?_;rw[R5 ar (by simpa using aM)] at U;exact U.ag (k+1,v) (ar)
  refine wp_exit<|cy<|cy<|fk<|bj<|wp_seq ?_;rw[acm om] at U;refine aZ λI a w U=>?_;refine St.lo (σ:=Nat×Value) (3::(7::(run 13 57 []))) ⟨λ⟨k,v⟩=>[(57,AV.int k),(3,AV.val v)],λ⟨k,v⟩=>[Own.row v 84 15 ((sZ q k).map ax.cells),Own.row (.slice none 0 0) 84 15 ([])],λ⟨k,v⟩=>k<=q.aL.length⟩ (λ⟨k,v⟩=>q.aL.length-k) (0,v) U ?eF ?jS;case eF=>exact Nat.zero_le _
  rintro⟨k,v⟩ I a w an U;have hk:k<=q.aL.length:=an;dsimp only at U;refine aB λI a w U=>?_;refine cz (λaP=>?_) λaP=>?_
  .refine aG λI a w U=>?_;refine U.alloc rfl cV gK λb7 I a w U=>?_;refine aB λI a w U=>?_;obtain⟨I,U⟩:=U.fb 2 7;refine cj λI a w U=>?_;refine U.o (.bd eI (.k (.k (.t bc.nil)))) λU=>?_;refine U.o (.li [(xI (ab q.aL k)).cells] ir (.u .nil)) λU=>?_;refine U.append 0 rfl gf dI rfl .tt .r rfl (by have:=R6 q k;simp;omega) λKs a w U=>?_;rw[cF,adD aP] at U;refine aR λI a w U=>?_;have U:=U.drop 2;exact U.ag (k+1,Ks) (aP)
  refine zt ?_;first|(rw[show[({bW with kind:=1,key:=ab q.keys 0,val:=q.val,aQ:=q.ctx}:ax).cells]=(asks q).map ax.cells from by unfold asks;rw[if_pos ah];rfl] at U)|rw[Kr ah om] at U
  exact U.me v gD
 rintro v I a w an U;refine aB λI a w U=>?_;obtain⟨I,U⟩:=U.fr 0 3;rw[show([]:List (List AV))=(oZ q 0).map ax.cells from rfl] at U;refine aR λI a w U=>?_;refine St.lo (σ:=Nat×Value) (8::(run 2 10 (run 30 72 []))) ⟨λ⟨j,u⟩=>[(72,AV.int j),(8,AV.val u)],λ⟨j,u⟩=>[Own.gone,Own.row u 84 15 ((oZ q j).map ax.cells)],λ⟨j,u⟩=>j<=(asks q).length⟩ (λ⟨j,u⟩=>(asks q).length-j) (0,(.slice none 0 0)) U ?jh ?oY;case jh=>exact Nat.zero_le _
 rintro⟨j,u⟩ I a w an U;have hj:j<=(asks q).length:=an;dsimp only at U;refine aB λI a w U=>?_;refine cz (λbx=>?_) λbx=>?_
 .refine aG λI a w U=>?_;refine U.alloc rfl dI eI λl6 I a w U=>?_;refine aB λI a w U=>?_;rw[show oZ q j=oZ q j++(jr q (ab (asks q) j)).take 0 from by simp] at U;refine aG λI a w U=>?_;refine U.o (lP .c .tt (λ_=>by omega)) λU=>?_;refine aB λI a w U=>?_;refine St.lo (σ:=Nat×Int×Int×Int×Int×Value) (8::(11::(run 22 79 []))) ⟨λ⟨i,t11,f1,f2,f3,u2⟩=>[(11,AV.int t11),(8,AV.val u2)],λ⟨i,t11,f1,f2,f3,u2⟩=>[Own.gone,Own.row u2 84 15 ((oZ q j++(jr q (ab (asks q) j)).take i).map ax.cells),Own.box l6 84 ({(ab (asks q) j) with aO:=f1,to:=f2,call:=f3}:ax).cells],λ⟨i,t11,f1,f2,f3,u2⟩=>i<=2/\t11=2*q.ao+(i:Int)⟩ (λ⟨i,t11,f1,f2,f3,u2⟩=>2-i) (0,2*q.ao,(ab (asks q) j).aO,(ab (asks q) j).to,(ab (asks q) j).call,u) U ?xW ?Kp;case xW=>exact⟨Nat.zero_le _,by simp⟩
  rintro⟨i,t11,f1,f2,f3,u2⟩ I a w an U;obtain⟨hi,rfl⟩:=an;dsimp only at U;refine bm λI a w U=>?_;refine U.o (lP .c .tt (λ_=>by omega)) λU=>?_;refine aF λI a w U=>?_;refine cz (λbt=>?_) λbt=>?_
  .refine zt ?_;refine U.gw [([],none),([],none),([],none),([],none),([],none),([],none),([],none),([2],some (2,[])),([],none),([2],some (2,[])),([],none),([2],some (2,[]))] aS aS rfl ?_;refine mo ?_;refine aY.jn (x:=AV.any) 2 (λF W0 I0 I a w Q U kk=>U.s1 2 λU=>kk _ _ _ U) ?_;refine bJ ?_;refine aY.jn (x:=AV.any) 2 (λF W0 I0 I a w Q U kk=>U.s1 2 λU=>kk _ _ _ U) ?_;refine bJ ?_;refine aY.jn (x:=AV.any) 2 (λF W0 I0 I a w Q U kk=>U.s1 2 λU=>kk _ _ _ U) ?_;refine .nil ?_;intro I a w U;refine aG λI a w U=>?_;refine U.o (bT (B9 {(ab (asks q) j) with aO:=10+q.ao,to:=2*q.ao+(i:Int),call:=q.num} (show kH (ab (asks q) j) from acu om _ (bf bx))) (az (.t rfl) aI)) λU=>?_;refine U.o (.li [({(ab (asks q) j) with aO:=10+q.ao,to:=2*q.ao+(i:Int),call:=q.num}:ax).cells] ir (.u .nil)) λU=>?_;refine U.append 1 rfl gf dI rfl .tt .r rfl (by have:=J8 q j om;have:=KH (q:=q);simp[jr];omega) λafo a w U=>?_;rw[cF,List.append_assoc,SJ q _ om] at U;refine aZ λI a w U=>?_;exact U.ag (i+1,2*q.ao+(i:Int)+1,10+q.ao,2*q.ao+(i:Int),q.num,afo) (⟨by show i+1<=2;omega,by simp;omega⟩)
  refine zt ?_;refine aF λI a w U=>?_;have U:=U.drop 2;rw[acX bx om] at U;exact U.ag (j+1,u2) (bx)
 refine wp_exit<|cy<|cy<|fk<|bj<|wp_seq ?_;rw[SV ae om] at U;obtain⟨I,U⟩:=U.fr 1 8;refine dG ?_;rfl
def afp (q:Call) (g n:Value) (m:ax) (t t0:Int) (h:dH q t0) (hm:bI m=true) (hv:m.kind=4/\(m.yes=true->m.ai.length=1/\(ab m.ai 0).key=m.key)) (gj:ib q.keys m.key=true):
 jC prog 231 [q.zq g n,m.av,AV.int t] [Own.row g 128 9 (q.aC.map Answer.cells),Own.row n 115 3 (q.aL.map au.cells)] [] (ig q m t).av:=by
 refine dr.intro 99 func231 rfl ntmps231 rfl aS (λW I a U=>?_);have mY:=h.lens;have rT:=ET (q:=q) hm hv.2;have FE:=g0 (mW hm).1;have hkx:(dh m).key=m.key:=rfl;refine sr<|U.box rfl .tt λb3 I a w U=>U.o .bp λU=>U.alloc rfl fI j4 λb6 I a w U=>?_;refine bB λI a w U=>?_;refine U.o (.bd pD (.k (.k bc.nil))) λU=>?_;refine U.alloc rfl ga pD λb7 I a w U=>?_;refine U.sb 4 λU=>?_;refine nn ?_;refine St.cut (σ:=Unit) (run 8 14 []) ⟨λ_=>[],λ_=>[Own.row g 128 9 (q.aC.map Answer.cells),Own.row n 115 3 (q.aL.map au.cells),Own.box b3 53 [AV.int q.ao,AV.int q.num,AV.int q.kind,jb q.keys,AV.int q.val,bE q.ctx,AV.int q.bH,AV.int q.end_,AV.bool q.over,AV.int q.aq.time,AV.int q.aq.site,AV.val g,AV.val n],Own.box b6 53 [AV.val (.int .i64 0),AV.val (.int .i64 0),AV.val (.int .i64 0),AV.rows 1 [],AV.val (.int .i64 0),AV.rows 3 [],AV.val (.int .i64 0),AV.val (.int .i64 0),AV.val (.bool false),AV.val (.int .i64 0),AV.val (.int .i64 0),AV.rows 9 [],AV.rows 3 []],Own.box b7 128 (dh m).cells],λ_=>True⟩ U ?Cl ?Ss;case Cl=>
  refine aF λI a w U=>?_;refine cz (λae=>?_) λae=>?_
  .refine aG λI a w U=>?_;refine U.o (gS (i:=0) eJ bQ .tt .c (λ_=>by have:=(hv.2 ae).1;omega)) λU=>?_;refine U.o .la λU=>?_;refine U.o (bT (xh (ab m.ai 0) (by have:=iE (iW (fi (mW hm).1 _ (bf (l:=m.ai) (k:=0) (by have:=(hv.2 ae).1;omega)))).2.2;omega)) (az (.t rfl) aI)) λU=>?_;refine U.o .fv λU=>U.se 4 bQ .tt .tt rfl rfl rfl λa w U=>?_;refine zt ?_;have U:=U.pass (H':=[Own.row g 128 9 (q.aC.map Answer.cells),Own.row n 115 3 (q.aL.map au.cells),Own.box b3 53 [AV.int q.ao,AV.int q.num,AV.int q.kind,jb q.keys,AV.int q.val,bE q.ctx,AV.int q.bH,AV.int q.end_,AV.bool q.over,AV.int q.aq.time,AV.int q.aq.site,AV.val g,AV.val n],Own.box b6 53 [AV.val (.int .i64 0),AV.val (.int .i64 0),AV.val (.int .i64 0),AV.rows 1 [],AV.val (.int .i64 0),AV.rows 3 [],AV.val (.int .i64 0),AV.val (.int .i64 0),AV.val (.bool false),AV.val (.int .i64 0),AV.val (.int .i64 0),AV.rows 9 [],AV.rows 3 []],Own.box b7 128 (dh m).cells]) (by unfold dh;rw[ae];rfl);exact U.me () gD
  refine zt ?_;have U:=U.pass (H':=[Own.row g 128 9 (q.aC.map Answer.cells),Own.row n 115 3 (q.aL.map au.cells),Own.box b3 53 [AV.int q.ao,AV.int q.num,AV.int q.kind,jb q.keys,AV.int q.val,bE q.ctx,AV.int q.bH,AV.int q.end_,AV.bool q.over,AV.int q.aq.time,AV.int q.aq.site,AV.val g,AV.val n],Own.box b6 53 [AV.val (.int .i64 0),AV.val (.int .i64 0),AV.val (.int .i64 0),AV.rows 1 [],AV.val (.int .i64 0),AV.rows 3 [],AV.val (.int .i64 0),AV.val (.int .i64 0),AV.val (.bool false),AV.val (.int .i64 0),AV.val (.int .i64 0),AV.rows 9 [],AV.rows 3 []],Own.box b7 128 (dh m).cells]) (by unfold dh;rw[ae];rfl);exact U.me () gD
 rintro _ I a w an U;refine bm λI a w U=>?_;refine U.o (N1 (cs:=[AV.int q.ao,AV.int q.num,AV.int q.kind,jb q.keys,AV.int q.val,bE q.ctx,AV.int q.bH,AV.int q.end_,AV.bool q.over,AV.int q.aq.time,AV.int q.aq.site,.val g,.val n]) 0 11 (az .tt (az .tt aI)) rfl rfl (acY q n m.key) (λ_ _ _ h=>h)) λU=>?_;refine ee λI a w U=>?_;refine U.q .T (.cl (xm ..)) λU=>?_;refine aF λI a w U=>?_;refine U.cd (λah=>?_) λah=>?_
 .have hn9:cm q m.key<0:=by simp only[Bool.and_eq_true,decide_eq_true_eq] at ah;exact ah.1
  have aX:∀y∈q.aC,y.key≠(dh m).key:=λy hy e=>by have:=vI.2 ⟨y,hy,e⟩;have e2:(dh m).key=m.key:=rfl;rw[e2] at this;omega
  have mq:∀y∈c8 q.aC (dh m),dT y=true:=λy hy=>(pX.1 hy).elim (λe=>e▸rT) (h.aK y);refine aB λI a w U=>?_;refine St.lo (σ:=Nat) (8::(run 18 35 [])) ⟨λk=>[(8,AV.int k)],λk=>[Own.row g 128 9 (q.aC.map Answer.cells),Own.row n 115 3 (q.aL.map au.cells),Own.box b3 53 [AV.int q.ao,AV.int q.num,AV.int q.kind,jb q.keys,AV.int q.val,bE q.ctx,AV.int q.bH,AV.int q.end_,AV.bool q.over,AV.int q.aq.time,AV.int q.aq.site,AV.val g,AV.val n],Own.box b6 53 [AV.val (.int .i64 0),AV.val (.int .i64 0),AV.val (.int .i64 0),AV.rows 1 [],AV.val (.int .i64 0),AV.rows 3 [],AV.val (.int .i64 0),AV.val (.int .i64 0),AV.val (.bool false),AV.val (.int .i64 0),AV.val (.int .i64 0),AV.rows 9 [],AV.rows 3 []],Own.box b7 128 (dh m).cells],λk=>k<=q.aC.length/\∀i,i<k->(ab q.aC i).key<m.key⟩ (λk=>q.aC.length-k) 0 U ?aJ ?bF;case aJ=>exact⟨Nat.zero_le _,λi hi=>by omega⟩
  rintro k I a w an U;obtain⟨hk,aT⟩:=an;refine wp_seq<|wp_seq<|U.dk ?_;refine dD ?_;refine .o (sh 0 iD .tt rfl) ?_;refine gF ?_;refine .q .T (Bu 0 iD ga .ag .ag rfl (λhg=>by simp at hg;simp;omega)) ?_;refine bJ ?_;refine .q .T (OP 0 jQ .ag rfl (λhg=>by simp at hg;rw[List.getElem?_map,Ns om];rfl) rfl rfl rfl) ?_;refine ef ?_;refine .nil ?_;intro I a w U;refine bj ?_;refine cz (λar=>?_) λar=>?_
  .rw[List.length_map,Int.toNat_natCast] at ar;refine aR λI a w U=>?_;exact U.ag (k+1) (⟨by omega,λi h1=>by rcases Nat.lt_succ_iff_lt_or_eq.1 h1 with h|h;exact aT i h;rw[h];exact ar.2⟩)
  rw[List.length_map,Int.toNat_natCast] at ar;refine zt ?_;refine bB λI a w U=>?_;refine U.o (.li [(dh m).cells] ve (.u .nil)) λU=>?_;refine U.fm [0] (acw g (q.aC.map Answer.cells) (dh m).cells k (by rw[List.length_map];exact hk) ko (λr hr=>by obtain⟨u,_,rfl⟩:=List.mem_map.1 hr;rfl) rfl) (az .r (az .tt (az .r aI))) rfl aN rfl λI a w U=>?_;rw[<-List.map_take,<-List.map_drop,<-List.map_cons,<-List.map_append,R7 (a:=dh m) hk aT (λhl=>by rcases ar with h4|h4;omega;exact Int.not_lt.2 h4) aX] at U;refine bm λI a w U=>?_;refine U.o (.c1 (aa8 {q with aC:=c8 q.aC (dh m)} n)) λU=>?_;refine aB λI a w U=>?_;refine cz (λaM=>?_) λaM=>?_
  .refine wp_seq ?_;have U:=U.nf;obtain⟨I,U⟩:=U.fu 1 12 2;refine aF λI a w U=>?_;refine U.dw () [] rfl (.cons (.sx 3) .nil) trivial rfl ?_;exact(by rw[adJ h hv gj ah aM];rfl)
  refine wp_skip<|bj ?_;have U:=U.nf;refine bK λI a w U=>?_;refine U.o (bT (aem {q with aC:=c8 q.aC (dh m)} n mq (by show(c8 q.aC _).length<=_;rw[xE];omega)) (az (.t rfl) aI)) λU=>?_;refine aF λI a w U=>?_;have U:=U.nf;refine aZ λI a w U=>?_;refine cz (λaP=>?_) λaP=>?_
  .refine cI λI a w U=>?_;refine U.dw () [] rfl (.cons (.sx 3) .nil) trivial rfl ?_;exact(by rw[SP h hv gj ah aM,if_pos (List.length_eq_zero_iff.1 om)];rfl)
  refine aF λI a w U=>?_;refine U.dw () [] rfl (.cons (.sx 3) .nil) trivial rfl ?_;exact(by rw[SP h hv gj ah aM,if_neg (λe=>by rw[e] at aP;simp at aP)];rfl)
 refine wp_seq<|U.dk ?_;refine pC ?_;refine .q .T (GO 4 bQ .ag rfl rfl rfl) ?_;refine .q .T (.cl (oa ..)) ?_;refine .q .T (DL 1 (az .ag (az .ag aI)) rfl (B2 q.aL (dh m).bl.aU) (λ_ _ _ h=>h)) ?_;refine cB ?_;refine .nil ?_;intro I a w U;refine bj ?_;refine U.cd (λbx=>?_) λbx=>?_
 .have xX:0<=cm q m.key:=by simp only[Bool.and_eq_true,decide_eq_true_eq] at bx;exact bx.1.1
  obtain⟨oj,nI⟩:=tY xX;obtain⟨bg,SO,eg⟩:=U.j3 0 rfl pj;subst eg;refine bB λI a w U=>?_;refine U.o (Bu 0 iD ga .tt .tt rfl (λ_=>by simp;omega)) λU=>?_;refine U.lS 0 ga .tt .tt rfl (by exact gh om) rfl rfl λa w U=>?_;refine wpList_nil ?_;have e9:∀y,y=(dh m).cells->(List.map Answer.cells q.aC).set (cm q m.key).toNat y=List.map Answer.cells (q.aC.set (cm q m.key).toNat (dh m)):=λy hy=>by rw[hy,List.map_set]
  rw[e9] at U;rotate_left
  .rfl
  obtain⟨I,U⟩:=U.fu 0 11 2;refine aG λI a w U=>?_;refine U.o (oD (az .tt aI)) λU=>?_;refine U.dj [1,3] (Ju n q.aL (λd=>decide (d.key=m.key)) _ (Own.box b6 53 [AV.val (.int .i64 0),AV.val (.int .i64 0),AV.val (.int .i64 0),AV.rows 1 [],AV.val (.int .i64 0),AV.rows 3 [],AV.val (.int .i64 0),AV.val (.int .i64 0),AV.val (.bool false),AV.val (.int .i64 0),AV.val (.int .i64 0),AV.rows 9 [],AV.rows 3 []]) om (λd hd=>kV.frame (Fn.val (iq:=[AV.ptr m.cells]) (aap m d)))) (az .r (az .tt aI)) rfl aN rfl λv90 I a w aoR U=>?_;refine U.o .fv λU=>?_;try have aoS:=U.ff 1 rfl
  refine aB λI a w U=>?_;have U:=U.nf;obtain⟨I,U⟩:=U.fu 1 12 2;have U:=U.nf;refine aZ λI a w U=>?_;refine cz (λbt=>?_) λbt=>?_
  .refine cI λI a w U=>?_;refine U.dw () [] rfl (.cons (.sx 3) .nil) trivial rfl ?_;exact(by rw[SU h rT hv bx,if_pos (List.length_eq_zero_iff.1 (by simpa using bt))];rfl)
  refine aF λI a w U=>?_;refine U.dw () [] rfl (.cons (.sx 3) .nil) trivial rfl ?_;exact(by rw[SU h rT hv bx,if_neg (λe=>by rw[e] at bt;simp at bt)];rfl)
 refine wp_seq ?_;have U:=U.nf;obtain⟨I,U⟩:=U.fu 0 11 2;obtain⟨I,U⟩:=U.fu 1 12 2;refine aF λI a w U=>?_;refine U.dw () [] rfl (.cons (.sx 3) .nil) trivial rfl ?_;exact(by rw[ad1 hv ah bx];rfl)
def afq (q:Call) (m:ax) (t:Int) (h:dH q t) (ht:t<=1000000) (hm:bI m=true):
 Fn prog 202 [q.av,m.av,AV.int t] ((cP q m t).av):=by
 refine Fn.go 99 func202 ntmps202 (λW I a U=>?_);have an:=ta.2 h;have mY:=h.lens;have hb:=h.bH;have xY:=h.Cn om;have bq:=pJ.1 h.ao;refine aG λI a w U=>?_;refine U.alloc rfl fI j4 λb6 I a w U=>?_;refine aG λI a w U=>?_;refine U.o (bT (JQ q t om) (az (.t rfl) (az (.t rfl) aI))) λU=>?_;refine aB λI a w U=>?_;refine U.cd (λae=>?_) λae=>?_
 .exfalso;rw[an] at ae;cases ae;skip
 refine bK λI a w U=>?_;refine U.dj [] (Ti q h.small) (az .tt aI) rfl aN rfl λ⟨u,v⟩ I a w zP U=>?_;dsimp only at U;have U:=U.nf;refine U.alloc rfl fI j4 λb7 I a w U=>?_;refine aG λI a w U=>?_;refine U.o (.c1 (Ik q)) λU=>?_;refine yH λI a w U=>?_;refine U.q .F (bT (KG m (by have:=vx hm;unfold kv;omega) (by have:=vx hm;unfold kv;omega)) (az .ag aI)) λU=>?_;refine XG λI a w U=>?_;refine U.q .F (.cl (QK q.keys m.key)) λU=>?_;refine aF λI a w U=>?_;refine U.cd (λah=>?_) λah=>?_
 .rw[SK] at ah;replace ah:=nt ah;refine wp_seq ?_;obtain⟨I,U⟩:=U.fu 1 11 3;obtain⟨I,U⟩:=U.fu 2 12 3;have U:=U.nf;refine aF λI a w U=>?_;refine U.ret rfl (.cons (.sx 0) aW.nil) ?_;exact(by unfold cP;rw[ah];rfl)
 rw[SK] at ah;replace ah:=nf ah;have uz:=ah;simp only[Bool.and_eq_true,decide_eq_true_eq] at uz;obtain⟨⟨⟨⟨⟨_,_⟩,_⟩,gj⟩,hw⟩,rS⟩:=uz;have FE:=g0 (mW hm).1;refine aR λI a w U=>?_;refine cz (λar=>?_) λar=>?_
 .refine ee λI a w U=>?_;refine U.q .T (.cl (yY ..)) λU=>?_;refine aB λI a w U=>?_;refine U.cd (λaM=>?_) λaM=>?_
  .refine bB λI a w U=>?_;refine U.se 3 mP .tt .tt rfl rfl rfl λa w U=>?_;refine aF λI a w U=>?_;obtain⟨I,U⟩:=U.fu 1 11 3;obtain⟨I,U⟩:=U.fu 2 12 3;have U:=U.nf;refine aF λI a w U=>?_;refine U.ret rfl (.cons (.sx 0) aW.nil) ?_;exact(by unfold cP;rw[ah,if_pos rfl,if_pos ar,if_pos (by simpa using aM)];rfl)
  refine wp_skip<|bj<|wp_seq ?_;obtain⟨I,U⟩:=U.fu 1 11 3;obtain⟨I,U⟩:=U.fu 2 12 3;have U:=U.nf;refine aF λI a w U=>?_;refine U.ret rfl (.cons (.sx 0) aW.nil) ?_;exact(by unfold cP;rw[ah,if_pos rfl,if_pos ar,if_neg (by simpa using aM)];rfl)
 refine wp_skip<|bj<|wp_seq<|wp_seq<|U.dk ?_;refine rf ?_;refine .q .F2 (gS (i:=0) eJ bQ .ag .c (λhg=>by simp at hg;omega)) ?_;refine pB ?_;refine .nil ?_;intro I a w U;refine bj ?_;refine U.cd (λaP=>?_) λaP=>?_
 .rw[D8] at aP;replace aP:=nt aP;rw[decide_eq_false_iff_not] at aP;refine wp_seq ?_;obtain⟨I,U⟩:=U.fu 1 11 3;obtain⟨I,U⟩:=U.fu 2 12 3;have U:=U.nf;refine aF λI a w U=>?_;refine U.ret rfl (.cons (.sx 0) aW.nil) ?_;exact(by unfold cP ig;rw[ah,if_pos rfl,if_neg ar,if_neg aP];rfl)
 rw[D8] at aP;replace aP:=nf aP;rw[decide_eq_true_eq] at aP;refine wp_skip<|bj<|wp_seq ?_;have v8:dH (ig q m t) t:=by have:=zR (m:=m) h;unfold cP at this;rw[ah,if_pos rfl,if_neg ar] at this;exact this
 refine bm λI a w U=>?_;refine U.fm [1,2] (afp q u v m t t h hm aP gj) (az .tt (az .tt (az .tt aI))) rfl aN rfl λI a w U=>?_;refine U.o (.c1 (Tj (ig q m t) v8.small)) λU=>?_;refine aB λI a w U=>?_;refine U.ret rfl (.cons (.sx 0) aW.nil) ?_;exact(by unfold cP;rw[ah,if_pos rfl,if_neg ar];rfl)
def afr (s:Server) (m:ax) (hg:bG s) (hm:bI m=true):
 Fn prog 201 [s.av,m.av] (AV.dy [(cK s m).1.av,dR (cK s m).2]):=by
 refine Fn.go 38 func201 ntmps201 (λW I a U=>?_);have an:=jI.2 hg;have jv:=hg.small;refine aG λI a w U=>?_;refine U.alloc rfl cv dN λb4 I a w U=>?_;refine aG λI a w U=>?_;refine U.o (.c1 (xM s)) λU=>?_;refine aB λI a w U=>?_;refine U.cd (λae=>?_) λae=>?_
 .exfalso;rw[an] at ae;cases ae;skip
 refine cj λI a w U=>?_;refine U.q .F (bT (KG m (by have:=vx hm;unfold kv;omega) (by have:=vx hm;unfold kv;omega)) (az .ag aI)) λU=>?_;refine pz λI a w U=>?_;refine U.cd (λah=>?_) λah=>?_
 .rw[Ef] at ah;replace ah:=nt ah;refine bK λI a w U=>?_;refine U.o (.c1 (uu s jv)) λU=>?_;refine aF λI a w U=>?_;refine U.ret rfl (.cons (.sx 0) (.cons (.nil (sz:=15) rfl) aW.nil)) ?_;exact(by unfold cK;rw[ah];rfl)
 rw[Ef] at ah;replace ah:=nf ah;have hu:=Kw hg hm (IZ ah).1;refine aG λI a w U=>?_;refine U.o (.c2 (aea s m hg hm)) λU=>?_;refine bm λI a w U=>?_;refine U.alloc rfl cv dN λb6 I a w U=>?_;refine U.sb 1 λU=>?_;obtain⟨I,U⟩:=U.fb 1 6;refine aG λI a w U=>?_;refine U.o (.c1 (uu (cJ s m).1 hu.small)) λU=>?_;refine aR λI a w U=>?_;refine U.ret rfl (.cons (.sx 0) (.cons .x aW.nil)) ?_;exact(by unfold cK;rw[ah,if_pos rfl];rfl)
def Tk {w:aj} (h:bR w) (e:Ev):bR {w with al:=iY w e}:=by
 unfold iY;split
 .have U:=xu w.al e.word.toNat;exact⟨h.time,h.aA,h.site,Nat.le_trans U.length_le h.al,λm hm=>h.words m (U.subset hm),h.seen,h.kj,h.calls⟩
 exact h
def afs {w:aj} {e:Ev} (h:e.kind=1):gz w e=((jJ w e).1,(jJ w e).2):=by unfold gz;rw[if_pos h]
def KI {w:aj} {i:Nat} (hi:i<w.aA.length):eh w i (sv w i)=w:=by
 unfold eh sv;have e:w.aA.set i (ab w.aA i)=w.aA:=by
  apply List.ext_getElem
  .simp
  intro n h1 h2;rw[List.getElem_set];split
  .rename_i e;subst e;simp[ab,h2]
  rfl
 rw[e]
def KJ {α:Type} [Inhabited α] {l:List α} {x:α} (n:Nat) (h:x∈l):x=ab l n\/x∈l.take n++l.drop (n+1):=by
 obtain⟨k,hk,rfl⟩:=gm h;by_cases e:k=n
 .exact .inl (by rw[e])
 right;rw[List.mem_append];rcases Nat.lt_or_gt_of_ne e with bw|bw
 .left;rw[List.mem_iff_getElem];exact⟨k,by simp;omega,by simp[ab,hk]⟩
 right;rw[List.mem_iff_getElem];exact⟨k-(n+1),by simp;omega,by simp[ab];rw[List.getElem?_eq_getElem hk];simp;congr 1;omega⟩
def aft {s:Server} {key ao call:Int} (h:ki s key ao call=none) {v:aE} (hv:v∈s.ai):oV s key ao call v=false:=by
 unfold ki at h;rw[List.find?_eq_none] at h;simpa using h v hv
def afT (x:aj) (e:Ev) (hg:bR x) (ht:x.time<=1000000):
 Fn prog 86 [x.av,e.av] (AV.dy [(gz x e).1.av,AV.bool (gz x e).2]):=by
 refine Fn.go 53 func86 ntmps86 (λW I a U=>?_);have mY:=hg.lens;have kr:=hg.al;refine sr<|U.box rfl .tt λb2 I a w U=>U.o .bp λU=>U.alloc rfl dM ei λb4 I a w U=>?_;refine cj λI a w U=>?_;refine U.o (.cl (ER x.calls e.ao)) λU=>?_;refine cI λI a w U=>?_;refine cz (λae=>?_) λae=>?_
 .refine aG λI a w U=>?_;refine U.o (.c2 (aeg x e hg ht)) λU=>?_;refine aZ λI a w U=>?_;refine U.ret rfl (.cons (.sx 1) (.cons (.t rfl) aW.nil)) ?_;exact(by rw[afs ae];rfl)
 refine aR λI a w U=>?_;refine cz (λah=>?_) λah=>?_
 .refine aR λI a w U=>?_;refine U.ret rfl (.cons (.sx 1) (.cons (.t rfl) aW.nil)) ?_;exact(by rw[aew ae ah];rfl)
 have hni:=(l5 ah).1;refine aZ λI a w U=>?_;refine cz (λar=>?_) λar=>?_
 .refine zt ?_;refine U.l0 λb29 I a w U=>?_;refine aG λI a w U=>?_;refine U.ap 2 λv32 a w U=>?_;simp only[List.nil_append] at U;refine U.o .fv λU=>?_;try have aoY:=U.ff 2 rfl
  refine aB λI a w U=>?_;obtain⟨Co,Cp,rQ⟩:=U.j3 2 rfl pj;subst rQ;refine bm λI a w U=>?_;refine U.o (jj oO fI .tt .tt (λ_=>by simp only[List.length_map];omega)) λU=>?_;refine U.o .fv λU=>?_;refine U.AY (j:=8) 2 Bq .tt .c (by first|exact lG rfl|exact lQ|exact lR|exact lV|assumption) rfl (by exact gh om) rfl rfl λa w U=>?_;refine nn<|wp_seq ?_;have e9:∀y,y=Call.cells ({ab x.calls (bY x.calls e.ao).toNat with over:=true})->(List.map Call.cells x.calls).set (bY x.calls e.ao).toNat y=List.map Call.cells (x.calls.set (bY x.calls e.ao).toNat ({ab x.calls (bY x.calls e.ao).toNat with over:=true})):=λy hy=>by rw[hy,List.map_set]
  rw[e9] at U;rotate_left
  .rfl
  obtain⟨I,U⟩:=U.fu 2 3 0;refine aR λI a w U=>?_;refine U.ret rfl (.cons (.sx 1) (.cons (.t rfl) aW.nil)) ?_;exact(by rw[aeh ae ah ar];rfl)
 refine zt ?_;have U:=U.jc;refine U.gw (rp 2 (([0],none)::([2],some (2,[43]))::([],none)::([0],none)::rp 4 [([2],some (2,[])),([],none),([0],some (0,[]))])) aS aS rfl ?_;refine .o (uZ gf dI) ?_;refine bJ ?_;refine .r [0] (.lb 0) ?_;refine aY.Bb 2 rfl rfl gf dI rfl .tt .r gQ ?_;refine bJ ?_;refine .r [0] (.lb 0) ?_;refine dD ?_;refine .o (.c1 (ae6 _ x.time (hg.call (l5 ah).1) ht)) ?_;refine aY.fm (d':=43) (xs:=λv=>[AV.val v,dR (ie (ab x.calls (bY x.calls e.ao).toNat))]) 2 rfl rfl (λv=>Eg v x.al (ie (ab x.calls (bY x.calls e.ao).toNat)) hg.al) (λI a he hg=>Xs rfl ((az .r aI) I a he hg)) ?_;refine bJ ?_;refine aY.jn (x:=AV.any) 0 (λF W0 I0 I a w Q U kk=>U.s1 0 λU=>kk _ _ _ U) ?_;refine .nil ?_;intro I a w U;refine aR λI a w U=>?_;refine U.ret rfl (.cons (.sx 1) (.cons (.t rfl) aW.nil)) ?_;exact(by rw[aen ae ah ar];rfl)
def aey (q:Call) (t:Int) (hq:gx q t=true) (ht:q.bH+q.end_<=4611686018427387904) (hl:-4611686018427387904<=q.end_) (vM:q.aC.length<=1048576):
 Fn prog 183 [q.av] (bE (gO q)):=by
 refine Fn.go 68 func183 ntmps183 (λW I a U=>?_);have lens:q.keys.length<=9223372036854775807/\q.aC.length<=9223372036854775807/\q.aL.length<=9223372036854775807:=⟨U.ln 0 3,U.ln 0 11,U.ln 0 12⟩;have hp:=Fi hq;have jG:=(s7 (acc:=[]) rfl hp.2.1).1;have eG:=JY hq;have hc6:=iE hp.1;have hjo:bU (iV q.ctx (fR q))=true:=xD hp.1 λd hd=>pK jG hd;have fw:=adv hp.1 hp.2.1;refine mn λI a w U=>?_;refine U.o (.c2 (Fm _ _ ht vM)) λU=>?_;refine aB λI a w U=>?_;refine U.cd (λae=>?_) λae=>?_
 .exfalso;rw[eG] at ae;cases ae;skip
 refine zt ?_;refine U.l0 λuw I a w U=>?_;refine aG λI a w U=>?_;refine U.ap 0 λv17 a w U=>?_;obtain⟨I,U⟩:=U.fr 0 17;have U:=U.drop 0;refine aZ λI a w U=>?_;refine cz (λah=>?_) λah=>?_
 .refine dG ?_;exact congrArg bE (by unfold gO;rw[if_pos ah])
 refine aR λI a w U=>?_;refine cz (λar=>?_) λar=>?_
 .refine wp_seq<|U.dk ?_;refine dD ?_;refine .o ((by first|exact gS ky jQ .tt .c (λ_=>by have:=xg hp.2.2.1 ar;omega)|exact ku ky jQ .tt .c (λ_=>by have:=xg hp.2.2.1 ar;omega)|exact kS ky jQ .tt .c (λ_=>by have:=xg hp.2.2.1 ar;omega))) ?_;refine dD ?_;refine .o (.bd gK (.k (.t bc.nil))) ?_;refine .o (.cl (JZ _ ⟨ab q.keys 0,q.aq⟩ hp.1 (acJ hq ar ah))) ?_;refine bJ ?_;refine .nil ?_;intro I a w U;refine zt ?_;refine U.rt ?_;exact congrArg bE (by unfold gO;rw[if_neg ah,if_pos ar])
 refine aG λI a w U=>?_;refine U.o (.c1 (ado _ hp.2.1)) λU=>?_;refine U.o (.cl (J2 _ _ hp.1 jG)) λU=>?_;refine aF λI a w U=>?_;refine St.lo (σ:=Nat) (run 2 3 (run 29 38 [])) ⟨λk=>[(4,AV.int k),(3,bE ((q.aC.take k).foldl s9 (iV q.ctx (fR q))))],λk=>[],λk=>k<=q.aC.length⟩ (λk=>q.aC.length-k) 0 U ?aJ ?bF;case aJ=>exact Nat.zero_le _
 rintro k I a w an U;have hk:k<=q.aC.length:=an;refine cI λI a w U=>?_;refine cz (λaM=>?_) λaM=>?_
 .refine iP λI a w U=>?_;refine cz (λaP=>?_) λaP=>?_
  .refine U.dk ?_;refine rf ?_;refine .o (.bd gK (.k (.t bc.nil))) ?_;refine .o (bT (JZ _ ⟨(ab q.aC k).key,(ab q.aC k).bl.aq⟩ (Fu hjo (za hp.2.1 k)).1 (by have:=zx (hp.2.1 _ (bf aM)) aP;rw[<-this.2];exact this.1)) (az .r (az (.t rfl) aI))) ?_;refine bJ ?_;refine .nil ?_;intro I a w U;refine aR λI a w U=>?_;refine U.again (k+1) ?iG ?iH eA ?iI (by repeat(first|exact Env.le_rfl|refine Env.ja rfl ?_));case iG=>omega
   case iH=>exact aM
   case iI=>exact(Env.dK rfl eA (Env.dK rfl (by exact congrArg bE (by rw[zd aM];unfold s9;rw[aP];rfl)) Env.le_nil))
  refine aR λI a w U=>?_;refine U.again (k+1) ?nC ?nD eA ?nE (by repeat(first|exact Env.le_rfl|refine Env.ja rfl ?_));case nC=>omega
  case nD=>exact aM
  case nE=>exact(Env.dK rfl eA (Env.dK rfl (by exact congrArg bE (by rw[zd aM];unfold s9;rw[aP];rfl)) Env.le_nil))
 refine zt ?_;refine dG ?_;exact congrArg bE (by rw[List.take_of_length_le om,<-fw];unfold JX;rw[if_neg ah,if_neg ar])
def aeB (q:Call) (t:Int) (hq:gx q t=true):
 Fn prog 203 [q.av] (bE (gO q)):=by
 refine Fn.go 45 func203 ntmps203 (λW I a U=>?_);have lens:q.keys.length<=9223372036854775807/\q.aC.length<=9223372036854775807/\q.aL.length<=9223372036854775807:=⟨U.ln 0 3,U.ln 0 11,U.ln 0 12⟩;have hp:=Fi hq;have hc6:=iE hp.1;refine bB λI a w U=>?_;refine U.o (bT (tX q.ctx om) (az .r aI)) λU=>?_;refine aZ λI a w U=>?_;refine cz (λae=>?_) λae=>?_
 .refine dG ?_;exact congrArg bE (by unfold gO;rw[if_pos ae])
 refine aR λI a w U=>?_;refine cz (λah=>?_) λah=>?_
 .refine wp_seq<|U.dk ?_;refine dD ?_;refine .o ((by first|exact gS ky jQ .tt .c (λ_=>by have:=xg hp.2.2.1 ah;omega)|exact ku ky jQ .tt .c (λ_=>by have:=xg hp.2.2.1 ah;omega)|exact kS ky jQ .tt .c (λ_=>by have:=xg hp.2.2.1 ah;omega))) ?_;refine dD ?_;refine .o (.bd gK (.k (.t bc.nil))) ?_;refine .o (.cl (JV _ ⟨ab q.keys 0,q.aq⟩ hp.1)) ?_;refine bJ ?_;refine .nil ?_;intro I a w U;refine zt ?_;refine U.rt ?_;exact congrArg bE (by unfold gO;rw[if_neg ae,if_pos ah])
 refine aZ λI a w U=>?_;refine St.lo (σ:=Nat) (3::(5::(run 16 28 []))) ⟨λk=>[(28,AV.int k),(3,bE ((q.aC.take k).foldl nH q.ctx))],λk=>[],λk=>k<=q.aC.length⟩ (λk=>q.aC.length-k) 0 U ?aJ ?bF;case aJ=>exact Nat.zero_le _
 rintro k I a w an U;have hk:k<=q.aC.length:=an;refine aB λI a w U=>?_;refine cz (λar=>?_) λar=>?_
 .refine aG λI a w U=>?_;refine U.alloc rfl ga pD λb5 I a w U=>?_;refine aB λI a w U=>?_;obtain⟨I,U⟩:=U.fb 0 5;refine aF λI a w U=>?_;refine cz (λaM=>?_) λaM=>?_
  .refine U.dk ?_;refine ef ?_;refine .o (.cl (Sh _ _ (zO hp.1 (za hp.2.1 k)).1 (sX (hp.2.1 _ (bf ar))))) ?_;refine cB ?_;refine .o (.c1 (oa ..)) ?_;refine .o (.cl (JV _ _ (xD (zO hp.1 (za hp.2.1 k)).1 λd hd=>pK (sX (hp.2.1 _ (bf ar))) hd))) ?_;refine bJ ?_;refine .nil ?_;intro I a w U;refine aF λI a w U=>?_;have U:=U.drop 0;refine U.again (k+1) ?iG ?iH eA ?iI (by repeat(first|exact Env.le_rfl|refine Env.ja rfl ?_));case iG=>omega
   case iH=>exact ar
   case iI=>exact(Env.dK rfl eA (Env.dK rfl (by exact congrArg bE (by rw[zd ar];unfold nH;rw[aM];rfl)) Env.le_nil))
  refine aF λI a w U=>?_;have U:=U.drop 0;refine U.again (k+1) ?nC ?nD eA ?nE (by repeat(first|exact Env.le_rfl|refine Env.ja rfl ?_));case nC=>omega
  case nD=>exact ar
  case nE=>exact(Env.dK rfl eA (Env.dK rfl (by exact congrArg bE (by rw[zd ar];unfold nH;rw[aM];rfl)) Env.le_nil))
 refine zt ?_;refine dG ?_;exact congrArg bE (by rw[List.take_of_length_le om];unfold gO;rw[if_neg ae,if_neg ah])
def aeC (l:List ax) (h:l.length<=1048576) (hd:∀m∈l,kH m):
 lf prog 101 [dR l] 84 15 (l.map ax.cells):=by
 refine lf.intro 19 func101 rfl ntmps101 rfl aS (λW I a U=>?_);have U:=U.hP (sz:=15) 84;refine cI λI a w U=>?_;refine St.lo (σ:=Nat×Value) (3::(5::(run 10 8 []))) ⟨λ⟨k,v⟩=>[(8,AV.int k),(3,AV.val v)],λ⟨k,v⟩=>[Own.row v 84 15 ((l.take k).map ax.cells)],λ⟨k,v⟩=>k<=l.length⟩ (λ⟨k,v⟩=>l.length-k) (0,.slice none 0 0) U ?aJ ?bF;case aJ=>exact Nat.zero_le _
 rintro⟨k,v⟩ I a w an U;have hk:k<=l.length:=an;dsimp only at U;refine aB λI a w U=>?_;refine cz (λae=>?_) λae=>?_
 .refine aG λI a w U=>?_;refine U.alloc rfl dI eI λb5 I a w U=>?_;refine aB λI a w U=>?_;obtain⟨I,U⟩:=U.fb 1 5;refine aG λI a w U=>?_;refine U.o (.c1 (B9 (ab l k) (hd _ (bf ae)))) λU=>?_;refine U.o (.li [(ab l k).cells] ir (.u .nil)) λU=>?_;refine U.ap 0 λJC a w U=>?_;rw[cF,<-eT ae] at U;refine aR λI a w U=>?_;have U:=U.drop 1;exact U.ag (k+1,JC) (ae)
 refine zt ?_;refine aF λI a w U=>?_;exact U.Bg (r:=2) 0 rfl rfl rfl (by rw[List.take_of_length_le om])
def aeD {s:Server} {m:ax} (h:bG s):bG (cK s m).1:=by
 unfold cK;split
 .rename_i hc;simp only[Bool.and_eq_true] at hc;exact Kw h hc.1.2 hc.1.1
 exact h
def S5 {s:Server} (h:bG s):bG (jF s):=⟨h.site,h.aw,h.ai,h.waits,h.aD,h.aV,λe=>(by cases e),h.aK,h.here,h.nZ,h.n5,h.apart,h.ly⟩
def S6 {s:Server} {m:ax} (h:bG s):∀w∈(cK s m).2,bI w=true:=by
 unfold cK;split
 .rename_i hc;simp only[Bool.and_eq_true] at hc;exact Kk h hc.1.2
 intro w hw;simp at hw
def aeE {q:Call} {t:Int} (h:dH q t):∀m∈asks q,(m.kind=1\/m.kind=3)/\c7 m.key=true/\lU m.aq=true/\(0<=m.val/\m.val<=9999)/\bU m.aQ=true/\m.slot=0/\m.ba=0/\m.ai=[]/\m.waits=[]/\m.aD=[]:=by
 have hk:lj q.keys=true:=by have:=h.keys;simp only[iu,Bool.and_eq_true] at this;exact this.1
 unfold asks;split
 .intro m hm;obtain rfl:m=_:=by simpa using hm
  have h1:q.keys.length=1:=by
   have:=h.keys;rename_i e;simp[iu,e] at this;omega
  exact⟨.inl rfl,y6 hk (bf om),BE,h.val,h.ctx,rfl,rfl,rfl,rfl,rfl⟩
 intro m hm;rcases List.mem_append.1 hm with hm|hm
 .obtain⟨k,hkm,rfl⟩:=List.mem_map.1 hm;exact⟨.inr rfl,y6 hk (rD hkm),BE,⟨by simp[bW],by simp[bW]⟩,sP,rfl,rfl,rfl,rfl,rfl⟩
 obtain⟨d,hd,rfl⟩:=List.mem_map.1 hm;have:=pK h.aL hd;simp only[lK,Bool.and_eq_true] at this;exact⟨.inr rfl,this.1,BD this.2,⟨by simp[bW],by simp[bW]⟩,sP,rfl,rfl,rfl,rfl,rfl⟩
def Kz {q:Call} {t:Int} (h:dH q t):∀m∈ie q,bI m=true:=by
 unfold ie;split
 .intro m hm;obtain⟨ws,h1,h2⟩:=List.mem_flatten.1 hm;obtain⟨x,hx,rfl⟩:=List.mem_map.1 h1;obtain⟨a1,a2,a3,a4,a5,a6,a7,a8,a9,xv⟩:=aeE h x hx;have hc:=pJ.1 h.ao;have key:∀n:Int,cr n=true->bI {x with aO:=10+q.ao,to:=n,call:=q.num}=true:=λn hn=>
   tO (by show 1<=x.kind/\x.kind<=10;omega) (Zn h.ao) (pI hn) ⟨by have:=h.num;show 0<=q.num;omega,h.num.2⟩ a2 a3 a4 a5 (by show 0<=x.slot/\x.slot<=2;omega) (by show 0<=x.ba/\x.ba<=9999;omega)
    (by show cg x.ai=true;rw[a8];rfl) (by show cg x.waits=true;rw[a9];rfl) (by show fZ x.aD=true;rw[xv];rfl)
  unfold jr at h2;rcases List.mem_cons.1 h2 with rfl|h2
  .exact key _ (iF.2 om)
  obtain rfl:m=_:=by simpa using h2
  exact key _ (iF.2 om)
 intro m hm;simp at hm
def aeG (s:Server) (m:ax) (an:fg s) (h0:cr s.site=true):
 Fn prog 189 [s.av,m.av] ((fK s m).av):=by
 refine Fn.go 37 func189 ntmps189 (λW I a U=>?_);have h8:=an.aV;refine sr<|U.box rfl .tt λb2 I a w U=>U.o .bp λU=>U.alloc rfl cv dN λb4 I a w U=>?_;refine bB λI a w U=>?_;refine U.o (.bd gK (.k (.t bc.nil))) λU=>?_;refine U.alloc rfl cV gK λb5 I a w U=>?_;refine aB λI a w U=>?_;obtain⟨I,U⟩:=U.fb 2 5;refine U.dk ?_;refine ef ?_;refine .o (.c1 (zs _ h0)) ?_;refine ef ?_;refine .q .F (.cl (QN s ⟨m.key,m.aq⟩)) ?_;refine pB ?_;refine .nil ?_;intro I a w U;refine bj ?_;refine U.cd (λae=>?_) λae=>?_
 .rw[Q5 s m] at ae;replace ae:=nt ae;refine aF λI a w U=>?_;refine U.ret rfl (.cons (.sx 1) aW.nil) ?_;exact(by unfold fK;rw[ae];rfl)
 rw[Q5 s m] at ae;replace ae:=nf ae;refine bm λI a w U=>?_;refine U.o (bT (J3 s.aV ⟨m.key,m.aq⟩ om) (az .r (az (.t rfl) aI))) λU=>?_;refine bm λI a w U=>?_;refine U.o (bT (zM {s with aV:=dP s.aV ⟨m.key,m.aq⟩} (an.Q0 (by simp only[B] at ae;omega))) (az (.t rfl) aI)) λU=>?_;refine aB λI a w U=>?_;refine U.ret rfl (.cons (.sx 1) aW.nil) ?_;exact(by unfold fK;rw[ae];rfl)
def aeH (v:Value) (l:List (List AV)) (i:Nat) (hi:i<l.length) (hl:l.length<=1048576) (eQ:∀r∈l,r.length=15):
 dr prog 159 [AV.val v,AV.int i,AV.int ((i:Int)+1)] [Own.row v 84 15 l] (λ_:Value=>True) (λu=>[Own.row u 84 15 (l.take i++l.drop (i+1))]) AV.val:=by
 refine dr.intro 33 func159 rfl ntmps159 rfl aS (λW I a U=>?_);obtain⟨q,cap,rfl,nh⟩:=U.Bh 0 rfl;refine ee λI a w U=>?_;refine U.o (OJ (lo:=i) (hi:=i+1) (mx:=l.length) gf dI .tt .tt .tt .tt rfl om rfl om om om) λU=>?_;refine aR λI a w U=>?_;refine U.cd (λae=>?_) λae=>?_
 .exfalso;simp only[B] at ae;omega;skip
 refine aR λI a w U=>?_;have aX:l≠[]:=by intro e;rw[e] at hi;simp at hi
 obtain⟨b,oC,he,kT,jZ,mr,U⟩:=U.tF 0 rfl aX;simp only[Value.slice.injEq] at he;obtain⟨rfl,_,rfl⟩:=he;have hF:l.flatten.length=l.length*15:=hZ eQ;have hB:(l.drop (i+1)).flatten.length=(l.length-(i+1))*15:=by rw[hZ λr hr=>eQ r (List.mem_of_mem_drop hr),List.length_drop]
 have hlen:(l.take i++l.drop (i+1)).length=i+(l.length-(i+1)):=by simp;omega
 have nB:∀r∈(l.take i++l.drop (i+1)),r.length=15:=λr hr=>(List.mem_append.1 hr).elim (λh=>eQ r (List.mem_of_mem_take h)) λh=>eQ r (List.mem_of_mem_drop h);refine U.dt 6 ?_;simp only[TD];refine cB ?_;refine .o (tH (hi:=i) gf dI .tt .tt rfl om om) ?_;refine cB ?_;refine .o (H5 (lo:=i+1) gf dI .tt .tt om om om) ?_;refine .nil ?_;intro I a w U;refine U.OL (xs:=(l.drop (i+1)).flatten) 0 gf dI .tt .tt rfl (by rw[List.drop_append_of_le_length (by simp only[List.length_map,hF];exact Nat.mul_le_mul_right _ om),<-List.map_drop,Jr eQ];exact lg _ (List.length_map _)) hB om (by simp only[List.length_append,List.length_map,List.length_replicate,hF,hB];omega) rfl λU=>?_;refine cj λI a w U=>?_;refine U.o (OK (lo:=i+(l.length-(i+1))) (hi:=l.length) gf dI .tt .tt .tt rfl rfl om om) λU=>?_;refine U.H7 0 gf dI rfl ir .tt om rfl (by rw[lW]<;>simp only[List.length_append,List.length_map,List.length_replicate,hF,hB]<;>omega) λU=>?_;have U:=U.tG (l:=(l.take i++l.drop (i+1))) (cap:=cap) 0 rfl (by rw[lW,lW]<;>(try rw[lW])<;>simp only[List.length_append,List.length_map,List.length_replicate,hF,hB]<;>omega) nB om om om (OO eQ hi);rw[<-hlen] at U;refine aF λI a w U=>?_;refine U.dw _ [0] rfl (.cons (.t rfl) .nil) trivial rfl rfl
def aeI (s:Server) (hg:bG s):
 Fn prog 161 [s.av] ((jF s).av):=by
 refine Fn.go 12 func161 ntmps161 (λW I a U=>?_);have an:=jI.2 hg;have cX:=hg.ok;have jv:=hg.small;refine bK λI a w U=>?_;refine U.alloc rfl cv dN λb2 I a w U=>?_;refine bK λI a w U=>?_;refine U.o (.c1 (xM ..)) λU=>?_;refine aB λI a w U=>?_;refine U.cd (λae=>?_) λae=>?_
 .exfalso;rw[an] at ae;cases ae;skip
 refine bK λI a w U=>?_;refine U.o (.c1 (uu s jv)) λU=>U.alloc rfl cv dN λb3 I a w U=>?_;refine cI λI a w U=>?_;refine U.ret rfl (.cons (.sx 0) aW.nil) ?_;rfl
def aeJ (s:Server) (hg:bG s):
 Fn prog 160 [s.av] ((ll s).av):=by
 refine Fn.go 13 func160 ntmps160 (λW I a U=>?_);have an:=jI.2 hg;have cX:=hg.ok;have jv:=hg.small;refine bK λI a w U=>?_;refine U.alloc rfl cv dN λb2 I a w U=>?_;refine bK λI a w U=>?_;refine U.o (.c1 (xM ..)) λU=>?_;refine aB λI a w U=>?_;refine U.cd (λae=>?_) λae=>?_
 .exfalso;rw[an] at ae;cases ae;skip
 refine bK λI a w U=>?_;refine U.o (.c1 (uu s jv)) λU=>U.alloc rfl cv dN λb3 I a w U=>?_;refine bB λI a w U=>?_;refine U.GZ 1 tK .tt (At.nil (sz:=3) .c) (by first|exact lG rfl|exact lQ|exact lR|exact lV) rfl rfl λa w U=>?_;refine aF λI a w U=>?_;refine U.ret rfl (.cons (.sx 0) aW.nil) ?_;rfl
def aeK (x:aj) (m:ax) (hg:bR x) (ht:x.time<=1000000) (ey:aH m.to 10 11=true):
 Fn prog 140 [x.av,m.av] ((iL x m).av):=by
 refine Fn.go 52 func140 ntmps140 (λW I a U=>?_);simp only[aH,Bool.and_eq_true,decide_eq_true_eq] at ey;have mY:=hg.lens;have vU:=hg.seen;have zS:=hg.time;refine sr<|U.box rfl .tt λb2 I a w U=>U.o .bp λU=>U.alloc rfl dM ei λb4 I a w U=>?_;refine gT λI a w U=>?_;refine U.o (.cl (ER x.calls (m.to-10))) λU=>?_;refine aR λI a w U=>?_;refine cz (λae=>?_) λae=>?_
 .refine aF λI a w U=>?_;refine U.ret rfl (.cons (.sx 1) aW.nil) ?_;exact(by unfold iL;dsimp only;rw[if_pos ae];rfl)
 obtain⟨h1,h2,h3⟩:=l5 ae;have hq:=zR (m:=m) (hg.call h1);have hqe:=hq.Cn om;have NU:=hq.bH;refine zt ?_;refine U.da 10 ?_;simp only[TD];refine pB ?_;refine .o (.c3 (aej _ m x.time (hg.call h1) ht))<|gJ.alloc fI j4<|.nil ?_;intro I a w U;obtain⟨b7,U⟩:=U.uX (d:=7) rfl;refine aB λI a w U=>?_;obtain⟨I,U⟩:=U.fb 2 7;refine U.l0 λb27 I a w U=>?_;refine aG λI a w U=>?_;refine U.ap 3 λv30 a w U=>?_;simp only[List.nil_append] at U;refine U.o .fv λU=>?_;try have aoC:=U.ff 3 rfl
 refine aB λI a w U=>?_;obtain⟨Co,Cp,rQ⟩:=U.j3 3 rfl pj;subst rQ;refine bB λI a w U=>?_;refine U.o (jj oO fI .tt .tt (λ_=>by simp only[List.length_map];omega)) λU=>?_;refine U.lS 3 fI .tt .tt rfl (by exact gh om) rfl rfl λa w U=>?_;refine nn ?_;refine St.cut (σ:=List (List au)) (run 14 37 []) ⟨λsn=>[],λsn=>[Own.box b2 28 [AV.int x.time,mL x.aA,dR x.al,jl (x.calls.set (bY x.calls (m.to-10)).toNat (cP (ab x.calls (bY x.calls (m.to-10)).toNat) m x.time)),kY sn],Own.box b4 28 [AV.val (.int .i64 0),AV.rows 7 [],AV.rows 15 [],AV.rows 13 [],AV.rows 1 []],Own.gone,Own.gone],λsn=>sn=if 0<Call.end_ (cP (ab x.calls (bY x.calls (m.to-10)).toNat) m x.time) then x.seen.set (m.to-10).toNat (gO (cP (ab x.calls (bY x.calls (m.to-10)).toNat) m x.time)) else x.seen⟩ U ?KA ?aeL;case KA=>
  refine wp_seq ?_;have e9:∀y,y=Call.cells (cP (ab x.calls (bY x.calls (m.to-10)).toNat) m x.time)->(List.map Call.cells x.calls).set (bY x.calls (m.to-10)).toNat y=List.map Call.cells (x.calls.set (bY x.calls (m.to-10)).toNat (cP (ab x.calls (bY x.calls (m.to-10)).toNat) m x.time)):=λy hy=>by rw[hy,List.map_set]
  rw[e9] at U;rotate_left
  .rfl
  obtain⟨I,U⟩:=U.fu 3 3 0;refine aR λI a w U=>?_;refine cz (λah=>?_) λah=>?_
  .refine zt ?_;refine U.l0 λb40 I a w U=>?_;refine aG λI a w U=>?_;refine U.ap 4 λFw a w U=>?_;simp only[List.nil_append] at U;refine U.o .fv λU=>?_;try have aeM:=U.ff 4 rfl
   refine aB λI a w U=>?_;obtain⟨bk2,ck2,ek2⟩:=U.j3 4 rfl pj;subst ek2;refine U.dt 6 ?_;simp only[TD];refine ef ?_;refine .o (bT (aey (cP (ab x.calls (bY x.calls (m.to-10)).toNat) m x.time) x.time (ta.2 hq) om om (by have:=hq.lens.2.2.2.2.1;omega)) (az (.t rfl) aI)) ?_;refine .o (jj Br tK .tt .tt (λ_=>by simp only[List.length_map];omega)) ?_;refine .nil ?_;intro I a w U;refine U.AY (j:=0) 4 tK .tt .tt (by first|exact lG rfl|exact lQ|exact lR|exact lV|assumption) rfl (by exact gh om) rfl rfl λa w U=>?_;refine wpList_nil ?_;have e8:∀y,y=fX (gO (cP (ab x.calls (bY x.calls (m.to-10)).toNat) m x.time))->(List.map fX x.seen).set (m.to-10).toNat y=List.map fX (x.seen.set (m.to-10).toNat (gO (cP (ab x.calls (bY x.calls (m.to-10)).toNat) m x.time))):=λy hy=>by rw[hy,List.map_set]
   rw[e8] at U;rotate_left
   .rfl
   obtain⟨I,U⟩:=U.fu 4 4 0;refine bj ?_;have U:=U.drop 4;exact U.me (x.seen.set (m.to-10).toNat (gO (cP (ab x.calls (bY x.calls (m.to-10)).toNat) m x.time))) (by first|exact(if_pos ah).symm|exact(if_neg om).symm)
  refine zt ?_;have U:=U.drop 4;exact U.me x.seen (by first|exact(if_pos ah).symm|exact(if_neg om).symm)
 rintro sn I a w an U;have S7:sn=if 0<Call.end_ (cP (ab x.calls (bY x.calls (m.to-10)).toNat) m x.time) then x.seen.set (m.to-10).toNat (gO (cP (ab x.calls (bY x.calls (m.to-10)).toNat) m x.time)) else x.seen:=an
 refine aF λI a w U=>?_;refine U.ret rfl (.cons (.sx 1) aW.nil) ?_;unfold iL;dsimp only;rw[if_neg om];split
 .rename_i hh;rw[S7,if_pos hh];rfl
 rename_i hh;rw[S7,if_neg hh];rfl
def aeO (w:aj) (e:Ev):(if e.kind=5\/e.fe=0 then{w with al:=w.al.take e.word.toNat++w.al.drop (e.word.toNat+1)} else w)={w with al:=iY w e}:=by unfold iY;split<;>rfl
def vY {w:aj} {e:Ev} (h:aH e.word 0 ((w.al.length:Int)-1)=true):gP w e=if e.kind=5 then({w with al:=iY w e},true) else if aH (ab w.al e.word.toNat).to 10 11=true then(iL {w with al:=iY w e} (ab w.al e.word.toNat),true)
 else({w with aA:=w.aA.set (ab w.al e.word.toNat).to.toNat (cK (ab w.aA (ab w.al e.word.toNat).to.toNat) (ab w.al e.word.toNat)).1,al:=eo (iY w e) (cK (ab w.aA (ab w.al e.word.toNat).to.toNat) (ab w.al e.word.toNat)).2},true):=by
 unfold gP;rw[if_pos h,aeO]
def FG (b:Nat) (t:Int) (s r q z:Value) (al more:List ax) (hr:al.length<=60) (hl:more.length<=1048576) (hd:∀m∈more,kH m):
 dr prog 156 [AV.val (.pointer (some ⟨b,0,none⟩)),dR more] [Own.box b 28 [AV.int t,AV.val s,AV.val r,AV.val q,AV.val z],Own.row r 84 15 ((al).map ax.cells)] (λ_:Value=>True) (λu=>[Own.box b 28 [AV.int t,AV.val s,AV.val u,AV.val q,AV.val z],Own.row u 84 15 ((eo al more).map ax.cells)]) (λ_=>AV.dy []):=by
 refine dr.intro 30 func156 rfl ntmps156 rfl aS (λW I a U=>?_);rw[show al=eo al (more.take 0) from(ZQ al).symm] at U;refine aR λI a w U=>?_;refine St.lo (σ:=Nat×Value) (5::(run 22 8 [])) ⟨λ⟨k,u⟩=>[(8,AV.int k)],λ⟨k,u⟩=>[Own.box b 28 [AV.int t,AV.val s,AV.val u,AV.val q,AV.val z],Own.row u 84 15 ((eo al (more.take k)).map ax.cells)],λ⟨k,u⟩=>k<=more.length⟩ (λ⟨k,u⟩=>more.length-k) (0,r) U ?aJ ?bF;case aJ=>exact Nat.zero_le _
 rintro⟨k,u⟩ I a w an U;have hk:k<=more.length:=an;dsimp only at U;refine aB λI a w U=>?_;refine cz (λae=>?_) λae=>?_
 .refine aG λI a w U=>?_;refine U.alloc rfl dI eI λb5 I a w U=>?_;refine aB λI a w U=>?_;obtain⟨I,U⟩:=U.fb 2 5;refine bB λI a w U=>?_;refine U.o (sh 1 gf .tt rfl) λU=>?_;refine aB λI a w U=>?_;refine cz (λah=>?_) λah=>?_
  .rw[List.length_map] at ah;refine U.gw (rp 4 (([0],none)::rp 3 (([1],some (1,[26]))::rp 2 [([0],some (0,[26]))]))) aS aS rfl ?_;refine ef ?_;refine .r [0] (.lb 0) ?_;refine bJ ?_;refine .o (.c1 (B9 (ab more k) (hd _ (bf ae)))) ?_;refine .o (.li [(ab more k).cells] ir (.u .nil)) ?_;refine aY.Hv 1 rfl rfl gf dI rfl .tt .r (by rw[List.length_map];have:=ZR al (more.take k) hr;simp;omega) ?_;refine cB ?_;refine aY.DF 0 rfl HX .tt rfl rfl<|.nil ?_;intro I a w U;change St _ _ [Own.box b 28 [AV.int t,AV.val s,AV.val (a.tmps.getD 26 undef),AV.val q,AV.val z],Own.row (a.tmps.getD 26 undef) 84 15 (((eo al (more.take k)).map ax.cells)++[(ab more k).cells]),Own.gone] _ _ _ at U;generalize a.tmps.getD 26 undef=xT at U;rw[cF,ZO ae om] at U;refine aF λI a w U=>?_;have U:=U.drop 2;exact U.ag (k+1,xT) (ae)
  rw[List.length_map] at ah;refine aF λI a w U=>?_;have U:=U.drop 2;rw[ZP hr ae om] at U;exact U.ag (k+1,u) (ae)
 refine zt ?_;rw[show more.take k=more from List.take_of_length_le om] at U;exact U.nr u [0,1] rfl .nil trivial rfl rfl
def S8 (v:Value) (l:List ax) (i:Int) (h0:0<=i) (hi:i<l.length) (hl:l.length<=1048576):dr prog 159 [AV.val v,AV.int i,AV.int (i+1)] [Own.row v 84 15 (l.map ax.cells)] (λ_:Value=>True) (λu=>[Own.row u 84 15 ((l.take i.toNat++l.drop (i.toNat+1)).map ax.cells)]) AV.val:=by
 obtain⟨n,rfl⟩:=Int.eq_ofNat_of_zero_le h0;rw[List.map_append,List.map_take,List.map_drop];exact aeH v (l.map ax.cells) n ko ko (λr hr=>by obtain⟨u,_,rfl⟩:=List.mem_map.1 hr;rfl)
def S9 {s:Server} {m:ax} (hg:bG s) (hm:bI m=true):(cK s m).2.length<=1048576/\∀y∈(cK s m).2,kH y:=by
 unfold cK;split
 .exact⟨by have:=SH s m;omega,λy hy=>xH (Kk hg hm y hy)⟩
 exact⟨Nat.zero_le _,λy hy=>by cases hy⟩
def g9 (x:aj) (e:Ev):aj×Bool:=
 if e.kind=1\/e.kind=2\/e.kind=3 then gz x e
 else if e.kind=4\/e.kind=5 then gP x e
 else if aH e.kind 6 9&&cr e.at_ then eN x e
 else(x,false)
def aeP {x:aj} {e:Ev} (h:e.kind=1):g9 x e=jJ x e:=by unfold g9 gz;rw[if_pos (.inl h),if_pos h]
def aeQ {x:aj} {e:Ev} (h:e.kind=2\/e.kind=3) (hi:bY x.calls e.ao<0):g9 x e=(x,false):=by unfold g9 gz;rw[if_pos (.inr h),if_neg om];dsimp only;rw[if_pos hi]
def aeR {x:aj} {e:Ev} (h:e.kind=2) (hi:¬bY x.calls e.ao<0):g9 x e=({x with al:=eo x.al (ie (ab x.calls (bY x.calls e.ao).toNat))},true):=by
 unfold g9 gz;rw[if_pos (.inr (.inl h)),if_neg om];dsimp only;rw[if_neg hi,if_neg om]
def aeS {x:aj} {e:Ev} (h:e.kind=3) (hi:¬bY x.calls e.ao<0):g9 x e=({x with calls:=x.calls.set (bY x.calls e.ao).toNat {ab x.calls (bY x.calls e.ao).toNat with over:=true}},true):=by
 unfold g9 gz;rw[if_pos (.inr (.inr h)),if_neg om];dsimp only;rw[if_neg hi,if_pos h]
def KB {x:aj} {e:Ev} (h:e.kind=4\/e.kind=5):g9 x e=gP x e:=by unfold g9;rw[if_neg om,if_pos h]
def aeT {x:aj} {e:Ev} (h1:¬e.kind=1) (h2:¬(e.kind=2\/e.kind=3)) (h4:¬e.kind=4) (h5:¬e.kind=5) (h:(aH e.kind 6 9&&cr e.at_)=false):g9 x e=(x,false):=by
 unfold g9;rw[if_neg om,if_neg om,h];rfl
def zX {x:aj} {e:Ev} (h:(aH e.kind 6 9&&cr e.at_)=true):g9 x e=eN x e:=by
 have h2:=h;simp only[aH,Bool.and_eq_true,decide_eq_true_eq] at h2;unfold g9;rw[if_neg om,if_neg om,if_pos h]
def aeU {x:aj} {e:Ev} (h:((ab x.aA e.at_.toNat).up==(e.kind==7))=true):(eN x e).2=false:=by
 unfold eN;dsimp only;by_cases h7:e.kind=7
 .rw[if_pos h7];rw[h7] at h;simpa using h
 have hu:(ab x.aA e.at_.toNat).up=false:=by rw[show(e.kind==7)=false by simpa using h7] at h;simpa using h
 rw[if_neg h7];split
 .exact hu
 split
 .exact hu
 rw[show lL (ab x.aA e.at_.toNat) e.slot=false by unfold lL;rw[hu];rfl];rfl
def aeV {x:aj} {e:Ev} (h:((ab x.aA e.at_.toNat).up==(e.kind==7))=false) (hk:e.kind=8):eN x e=({x with al:=eo x.al (gy (ab x.aA e.at_.toNat))},true):=by
 unfold eN;dsimp only;rw[if_neg om,if_neg om,if_pos hk,Pk h om]
def aeW {x:aj} {e:Ev} (hk:e.kind=9) (hm:(eZ (ab x.aA e.at_.toNat) e.slot).2.2=true):eN x e=({x with aA:=x.aA.set e.at_.toNat (eZ (ab x.aA e.at_.toNat) e.slot).1,al:=eo x.al [(eZ (ab x.aA e.at_.toNat) e.slot).2.1]},true):=by
 have h:=E8 hm;rw[JJ h];unfold eN;dsimp only;rw[if_neg om,if_neg om,if_neg om,if_pos h]
def aeX {x:aj} {e:Ev} (hk:e.kind=9) (hm:(eZ (ab x.aA e.at_.toNat) e.slot).2.2=false):eN x e=(x,false):=by
 unfold eN;dsimp only;rw[if_neg om,if_neg om,if_neg om,if_neg (by rw[JI hm];simp)]
def aeY {s:Server} {slot:Int} (hg:bG s) (hm:(eZ s slot).2.2=true):∀y∈[(eZ s slot).2.1],kH y:=by
 have h:=E8 hm;have hp:=vq h;intro y hy;obtain rfl:=List.mem_singleton.1 hy;rw[JJ h];exact xH (Fk (zL hg h) hp.2.1 hp.2.2.1)
def iZ {s:Server} (h:bG s) {v:aE} (hv:v∈s.ai\/v∈s.waits):dL v=true:=by
 rcases hv with hv|hv
 .exact fi h.ai v hv
 exact fi h.waits v hv
def FH {l:List aE} (h:VS l):l.Pairwise λa b=>a.aU≠b.aU:=h.imp λ{a b} hl e=>by
 unfold fG at hl;rw[e,xB] at hl;cases hl
def FI:∀{l:List au} {key:Int},bN l key=gn\/(⟨key,bN l key⟩:au)∈l
 |[],_=>.inl rfl
 |d::r,key=>by
  rw[lZ];split
  .rename_i e;right;rw[<-e];exact List.mem_cons_self ..
  rcases FI (l:=r) (key:=key) with h|h
  .exact .inl h
  exact .inr (List.mem_cons_of_mem _ h)
def Ta (a b:cx):bV (dJ a b) b=false:=by
 unfold dJ;split
 .exact yX b
 rename_i h;simpa using h
def Tb {a b:List au} (ha:bU a=true) (hb:bU b=true):vg b (iV a b):=λkey=>by rw[Cd ha hb];exact Ta _ _
def KC:∀{l:List au} {d x:au},x∈gq l d->x=d\/x∈l
 |[],d,x,h=>by simpa[gq] using h
 |e::r,d,x,h=>by
  unfold gq at h;split at h
  .split at h
   .rcases List.mem_cons.1 h with h|h
    .exact .inl h
    exact .inr (List.mem_cons_of_mem _ h)
   exact .inr h
  split at h
  .rcases List.mem_cons.1 h with h|h
   .exact .inl h
   exact .inr h
  rcases List.mem_cons.1 h with h|h
  .exact .inr (by rw[h];exact List.mem_cons_self ..)
  rcases KC h with h|h
  .exact .inl h
  exact .inr (List.mem_cons_of_mem _ h)
def Tc:∀{b a:List au} {x:au},x∈iV a b->x∈a\/x∈b
 |[],a,x,h=>.inl h
 |d::r,a,x,h=>by
  rcases Tc (b:=r) (a:=gq a d) h with h|h
  .rcases KC h with h|h
   .exact .inr (by rw[h];exact List.mem_cons_self ..)
   exact .inl h
  exact .inr (List.mem_cons_of_mem _ h)
end Go.Proofs.YtdanidpleofjgaaGreat

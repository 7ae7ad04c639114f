/- Part 11: contracts of functions, plain facts. -/
import Derived.Test.YtjepcfpkclegdaaGreatP07
import Derived.Test.YtjepcfpkclegdaaGreatP08
import Derived.Test.YtjepcfpkclegdaaGreatP09
set_option linter.unusedVariables false
set_option linter.unusedSimpArgs false
set_option maxRecDepth 100000
set_option maxHeartbeats 4000000
namespace Go.Proofs.YtjepcfpkclegdaaGreat
open Go Go.RowKit
attribute [local irreducible] wpList Code.wp Ok
theorem AN (l:List aB):
 Fn Tryz.prog 140 [bX l] (AV.bool (cn l)):=by
 refine Fn.go 35 Tryz.func140 Tryz.ntmps140 (λW I a U=>?_)
 have hle:=U.cW (t:=0) rfl
 refine aU λI a w U=>?_
 refine St.lo (σ:=Nat) (run 3 2 (run 25 7 [])) ⟨λk=>[(7,AV.int k)],λk=>[],λk=>k<=l.length/\∀i,i<k->(eQ dM gy l) i=true⟩ (λk=>l.length-k) 0 U ?aJ ?aK
 case aJ=>exact⟨by simp,λi hi=>by omega⟩
 case aK=>
  rintro k I a w aj U
  obtain⟨hk,aN⟩:=aj
  refine ai λI a w U=>?_
  refine cz (λae=>?_) λae=>?_
  ·refine bk λI a w U=>?_
   refine U.alloc rfl bA dE λb4 I a w U=>?_
   refine aA λI a w U=>?_
   obtain⟨I,U⟩:=U.fb 0 4
   refine U.dk ?_
   refine bn ?_
   refine .o (.c1 (GG ..)) ?_
   refine oY ?_
   refine .q .T2 (.cl (mS ..)) ?_
   refine bn ?_
   refine .q .T2 (.cl (mS ..)) ?_
   refine .q .T2 (.cl (CK ..)) ?_
   refine cD ?_
   refine .nil ?_
   intro I a w U
   refine aY ?_
   refine U.cd (λah=>?_) λah=>?_
   ·rw[show dZ (ab l ((k:Int)-1).toNat).aT (ab l k).aT=gy (ab l ((k:Int)-1).toNat) (ab l k) from rfl,uK] at ah;replace ah:=nt ah
    refine ai λI a w U=>?_
    refine U.rt ?_
    exact bG (by unfold cn;rw[eB (f:=(eQ dM gy l)) ae ah];simp)
   ·rw[show dZ (ab l ((k:Int)-1).toNat).aT (ab l k).aT=gy (ab l ((k:Int)-1).toNat) (ab l k) from rfl,uK] at ah;replace ah:=nf ah
    refine aA λI a w U=>?_
    have U:=U.drop 0
    exact U.ag (k+1) (⟨by omega,fg aN ah⟩)
  ·refine zt ?_
   refine aU λI a w U=>?_
   refine U.rt ?_
   exact bG (by unfold cn;rw[eP aN (by omega),Bool.and_true];simp;try omega)
theorem Hr (s:Server) (key:Int) (hk:dp key=true) (hl:s.aG.length=3):
 Fn Tryz.prog 142 [s.av,AV.int key] (AV.int (dX s key)):=by
 refine Fn.go 12 Tryz.func142 Tryz.ntmps142 (λW I a U=>?_)
 have hr:=qF hk
 refine aA λI a w U=>?_
 refine U.dk ?_
 refine cD ?_
 refine .o (.c1 (GH ..)) ?_
 refine dq ?_
 refine .nil ?_
 intro I a w U
 refine zt ?_
 refine U.rt ?_
 rfl
section
variable {l:List au} {d:au} {k:Nat} {out:List au} {done:Bool}
theorem lj.same (hp:lj l d k done out) (hl:bN l=true) (h:k<l.length) (he:(ab l k).key=d.key):done=false/\lj l d (k+1) true (out++[if bP (ab l k).aq d.aq then d else ab l k]):=by
 have hd:done=false:=by
  cases done
  ·rfl
  ·have:=hp.late rfl k (Nat.le_refl _) h;omega
 subst hd
 refine⟨rfl,h,?_,λ_ i hi kU=>?_,by have:=hp.len;simp at this⊢;omega⟩
 ·have:=hp.eq
  rw[mr h] at this
  simp only[fN,if_pos he] at this
  rw[this];simp
 ·rw[<-he];exact Ao hl (by omega) kU
theorem lj.before (hp:lj l d k false out) (hl:bN l=true) (h:k<l.length) (he:d.key<(ab l k).key):lj l d (k+1) true ((out++[d])++[ab l k]):=by
 refine⟨h,?_,λ_ i hi kU=>?_,by have:=hp.len;simp at this⊢;omega⟩
 ·have:=hp.eq
  rw[mr h] at this
  simp only[fN,if_neg (show¬(ab l k).key=d.key by omega),if_pos he] at this
  rw[this];simp
 ·have:=Ao hl (i:=k) (j:=i) (by omega) kU
  omega
theorem lj.step (hp:lj l d k done out) (h:k<l.length) (he:(ab l k).key≠d.key) (hn:done=false->(ab l k).key<=d.key):lj l d (k+1) done (out++[ab l k]):=by
 refine⟨h,?_,λhd i hi kU=>hp.late hd i (by omega) kU,by have:=hp.len;simp;omega⟩
 have:=hp.eq
 cases done
 ·rw[mr h] at this
  have:=hn rfl
  simp_all only[fN]
  simp
  omega
 ·simp only[if_true] at this⊢
  rw[this,mr h];simp
theorem lj.tX (hp:lj l d k true out) (h:l.length<=k):out=fN l d:=by
 have:=hp.eq
 rw[List.drop_eq_nil_of_le h] at this;simpa using this.symm
theorem lj.tY (hp:lj l d k false out) (h:l.length<=k):out++[d]=fN l d:=by
 have:=hp.eq
 rw[List.drop_eq_nil_of_le h] at this;simpa[fN] using this.symm
end
theorem pT {a:Answer} (h:dB a=true):bN a.be.aO=true:=by
 cases hy:a.yes
 ·rw[u5 h hy];rfl
 ·exact(jk (pJ h hy).1).2.2
theorem OX (s:Server) (l:List aB) (hl:s.aG.length=3) (hc:cn l=true):
 Fn Tryz.prog 163 [s.av,bX l] (AV.bool (cF l.length (o7 s l))):=by
 refine Fn.go 20 Tryz.func163 Tryz.ntmps163 (λW I a U=>?_)
 have hle:=U.cW (t:=1) rfl
 refine aI λI a w U=>?_
 refine St.lo (σ:=Nat) (run 16 4 []) ⟨λk=>[(5,AV.int k)],λk=>[],λk=>k<=l.length/\∀i,i<k->(o7 s l) i=true⟩ (λk=>l.length-k) 0 U ?aJ ?aK
 case aJ=>exact⟨Nat.zero_le _,λi hi=>by omega⟩
 case aK=>
  rintro k I a w aj U
  obtain⟨o1,aN⟩:=aj
  refine aU λI a w U=>?_
  refine cz (λae=>?_) λae=>?_
  ·refine zt ?_
   refine U.dk ?_
   refine fK ?_
   refine .o (.c2 (XK _ _ (qA (uW hc ae)) hl)) ?_
   refine bn ?_
   refine .nil ?_
   intro I a w U
   refine aY ?_
   refine U.cd (λah=>?_) λah=>?_
   ·replace ah:=nt ah
    refine ai λI a w U=>?_
    refine U.rt ?_
    exact bG (eB (f:=o7 s l) ae ah).symm
   ·replace ah:=nf ah
    refine aI λI a w U=>?_
    exact U.ag (k+1) (⟨by omega,fg aN ah⟩)
  ·refine zt ?_
   refine ai λI a w U=>?_
   refine U.rt ?_
   exact bG (eP aN (by omega)).symm
theorem Hs:∀{l:List aB} {v:aB},VS l->(∀x∈l,x.aT≠v.aT)->VS (fk l v)
 |[],v,_,_=>by simp[fk,VS]
 |x::r,v,h,hd=>by
  unfold VS at h
  rw[List.pairwise_cons] at h
  unfold fk
  split
  ·rename_i bw
   unfold VS
   rw[List.pairwise_cons]
   refine⟨λy hy=>?_,Hs h.2 λy hy=>hd y (by simp[hy])⟩
   rcases gS.1 hy with rfl|hy
   ·exact bw
   ·exact h.1 y hy
  ·rename_i bw
   have h1:gy v x=true:=by
    cases h1:gy v x
    ·simp only[Bool.not_eq_true] at bw
     exact absurd (CV bw h1) (hd x (by simp))
    ·rfl
   unfold VS
   rw[List.pairwise_cons,List.pairwise_cons]
   refine⟨λy hy=>?_,h.1,h.2⟩
   rcases List.mem_cons.1 hy with rfl|hy
   ·exact h1
   ·exact yk h1 (h.1 y hy)
section
variable {l:List aB} {v:aB} {k:Nat} {out:List aB} {done:Bool}
theorem nJ.before (hp:nJ l v k false out) (h:k<l.length) (he:gy v (ab l k)=true):nJ l v (k+1) true ((out++[v])++[ab l k]):=by
 refine⟨h,?_,by have:=hp.len;simp at this⊢;omega⟩
 have:=hp.eq
 rw[mr h] at this
 simp only[qG,if_pos he] at this
 rw[this];simp
theorem nJ.step (hp:nJ l v k done out) (h:k<l.length) (he:done=true\/gy v (ab l k)=false):nJ l v (k+1) done (out++[ab l k]):=by
 refine⟨h,?_,by have:=hp.len;simp;omega⟩
 have:=hp.eq
 cases done
 ·rw[mr h] at this
  have he:gy v (ab l k)=false:=he.resolve_left (by simp)
  simp only[qG,he] at this
  rw[this];simp
 ·simp only[if_true] at this⊢
  rw[this,mr h];simp
theorem nJ.tX (hp:nJ l v k true out) (h:l.length<=k):out=qG l v:=by
 have:=hp.eq
 rw[List.drop_eq_nil_of_le h] at this;simpa using this.symm
theorem nJ.tY (hp:nJ l v k false out) (h:l.length<=k):out++[v]=qG l v:=by
 have:=hp.eq
 rw[List.drop_eq_nil_of_le h] at this;simpa[qG] using this.symm
end
theorem Dg {l:List cw} (h:∀s∈l,db s=true) (k:Nat):0<=o3 (l.take k)/\o3 (l.take k)<=9999:=Gw (by omega) (by omega) λs U=>h s (List.mem_of_mem_take U)
theorem OY {l:List aB} {key:Int} (h:∀i,i<l.length->qD key (ab l i)=false):fA l key=none:=by
 unfold fA
 rw[List.find?_eq_none]
 intro x hx
 obtain⟨k,hk,rfl⟩:=gq (List.mem_reverse.1 hx)
 rw[h k hk];simp
def ef (l:List au) (d:au):List au:=if 0<=fH l d then l else lg l d
theorem nC.zero (l:List au) (v:au):nC l v 0 false []:=⟨Nat.zero_le _,by simp,by simp⟩
section
variable {l:List au} {v:au} {k:Nat} {out:List au} {done:Bool}
theorem nC.before (hp:nC l v k false out) (h:k<l.length) (he:dZ v (ab l k)=true):nC l v (k+1) true ((out++[v])++[ab l k]):=by
 refine⟨h,?_,by have:=hp.len;simp at this⊢;omega⟩
 have:=hp.eq
 rw[mr h] at this
 simp only[lg,if_pos he] at this
 rw[this];simp
theorem nC.step (hp:nC l v k done out) (h:k<l.length) (he:done=true\/dZ v (ab l k)=false):nC l v (k+1) done (out++[ab l k]):=by
 refine⟨h,?_,by have:=hp.len;simp;omega⟩
 have:=hp.eq
 cases done
 ·rw[mr h] at this
  have he:dZ v (ab l k)=false:=he.resolve_left (by simp)
  simp only[lg,he] at this
  rw[this];simp
 ·simp only[if_true] at this⊢
  rw[this,mr h];simp
theorem nC.tX (hp:nC l v k true out) (h:l.length<=k):out=lg l v:=by
 have:=hp.eq
 rw[List.drop_eq_nil_of_le h] at this;simpa using this.symm
theorem nC.tY (hp:nC l v k false out) (h:l.length<=k):out++[v]=lg l v:=by
 have:=hp.eq
 rw[List.drop_eq_nil_of_le h] at this;simpa[lg] using this.symm
end
theorem OZ (l:List au) (v:au):(ef l v).length<=l.length+1:=by
 unfold ef;split
 ·omega
 ·rw[MZ];exact Nat.le_refl _
def kK:Nat->Server->Server
 |0,s=>s
 |n+1,s=>if eL s<0 then s else kK n (nD s (eL s).toNat)
def ja (s:Server):Server:=kK s.waits.length s
def fO (s:Server):Server:=C4 (ja s)
theorem O0 {s:Server} (h:0<=eL s):ja s=ja (nD s (eL s).toNat):=by
 have hl:=(yw h).1
 unfold ja
 rw[Gx hl]
 obtain⟨n,hn⟩:∃n,s.waits.length=n+1:=⟨s.waits.length-1,by omega⟩
 rw[hn]
 show(if eL s<0 then s else _)=_
 rw[if_neg (by omega)];rfl
theorem Dh {s:Server} (h:eL s<0):ja s=s:=by
 unfold ja
 cases s.waits.length with
 |zero=>rfl
 |succ n=>show(if eL s<0 then s else _)=_;rw[if_pos h]
def iL (s:Server) (m:aC):Server×List aC:=
 if aQ m.aR 10 11&&decide (1<=m.call)&&gv s m.key then
  match kG s m.key (m.aR-10) m.call with
  |some v=>(s,[nE s m v.aq])
  |none=>if j9 (kj s m)&&jw s.ao (fm s m)&&decide (s.aD.length<80) then
    (fO {s with ao:=fk s.ao (fm s m),aD:=ef s.aD (fm s m).aT},[nE s m (fm s m).aq])
   else(s,[])
 else(s,[])
def jb (s:Server) (m:aC):Server×List aC:=
 if vi s m then
  let v:=ab m.ao 0
  if placeOf s.ao v.aT<0/\placeOf s.waits v.aT<0 then
   if jw s.waits v then(fO {s with waits:=fk s.waits v},[mU s m v]) else(s,[])
  else(fO s,[mU s m v])
 else(s,[])
def nN (s:Server) (m:aC):Server:=
 if(m.aR==fl s.site)&&jy s ⟨m.key,m.aq⟩&&decide (s.bl.length<80) then fO {s with bl:=ef s.bl ⟨m.key,m.aq⟩} else s
def lQ (s:Server) (m:aC):Server:=
 let x:=dY s m.slot
 {x with aG:=x.aG.set m.slot.toNat ⟨m.bz,1⟩,ao:=iJ x.ao m.ao,waits:=iJ x.waits m.waits,aD:=m.aD.foldl ef x.aD}
def m7 (s:Server) (m:aC):Server:=
 if(m.aR==fl s.site)&&((ab s.aG m.slot.toNat).dH==2)&&((ab s.aG m.slot.toNat).bz==m.bz) then fO (l8 s m) else s
theorem Ht (l:List au) (d:au) (hl:bN l=true):
 Fn Tryz.prog 84 [bm l,d.av] (bm (fN l d)):=by
 refine Fn.go 53 Tryz.func84 Tryz.ntmps84 (λW I a U=>?_)
 have AO:=gR hl
 have U:=U.gC (sz:=3) 63
 refine jT λI a w U=>?_
 refine St.lo (σ:=Nat×Bool×List au×Value) (run 2 5 (8::(run 35 11 []))) ⟨λ⟨k,done,out,v⟩=>[(11,AV.int k),(6,AV.bool done),(5,AV.val v)],λ⟨k,done,out,v⟩=>[Own.row v 63 3 (out.map au.cells)],λ⟨k,done,out,v⟩=>lj l d k done out⟩ (λ⟨k,done,out,v⟩=>l.length-k) (0,false,[],.slice none 0 0) U ?aJ ?aK
 case aJ=>exact lj.zero l d
 case aK=>
  rintro⟨k,done,out,v⟩ I a w aj U
  have hp:lj l d k done out:=aj
  have hk:=hp.hk
  have kv:=hp.len
  have rF:done.toNat<=1:=by cases done<;>simp
  dsimp only at U
  refine ai λI a w U=>?_
  refine cz (λae=>?_) λae=>?_
  ·refine aF λI a w U=>?_
   refine U.alloc rfl cH fL λb8 I a w U=>?_
   refine jT λI a w U=>?_
   refine cz (λah=>?_) λah=>?_
   ·refine bt λI a w U=>?_
    refine U.o (.c2 (rU ..)) λU=>?_
    refine zt ?_
    refine cz (λal=>?_) λal=>?_
    ·refine bM λI a w U=>?_
     refine U.o (.li [d.cells] iX (.u .nil)) λU=>?_
     refine U.ap 0 λvm a w U=>?_
     rw[cA] at U
     refine aI λI a w U=>?_
     have U:=U.drop 1
     exact U.ag (k+1,true,out++[d],vm) (by have h:=(hp.same hl ae ah).2;rw[al,if_pos rfl] at h;exact h)
    ·refine bk λI a w U=>?_
     refine U.o (.li [(ab l k).cells] iX (.u .nil)) λU=>?_
     refine U.ap 0 λvm a w U=>?_
     rw[cA] at U
     refine aI λI a w U=>?_
     have U:=U.drop 1
     exact U.ag (k+1,true,out++[ab l k],vm) (by have h:=(hp.same hl ae ah).2;rw[al] at h;exact h)
   ·refine wu λI a w U=>?_
    refine cz (λaH=>?_) λaH=>?_
    ·refine aF λI a w U=>?_
     refine U.o (.li [d.cells] iX (.u .nil)) λU=>?_
     refine U.ap 0 λO1 a w U=>?_
     rw[cA] at U
     refine bt λI a w U=>?_
     refine U.o (.li [(ab l k).cells] iX (.u .nil)) λU=>?_
     refine U.ap 0 λvm a w U=>?_
     rw[cA] at U
     refine aI λI a w U=>?_
     have U:=U.drop 1
     exact U.ag (k+1,true,(out++[d])++[ab l k],vm) (by obtain⟨h1,h2⟩:=aH;subst h2;exact hp.before hl ae h1)
    ·refine aF λI a w U=>?_
     refine U.o (.li [(ab l k).cells] iX (.u .nil)) λU=>?_
     refine U.ap 0 λvm a w U=>?_
     rw[cA] at U
     refine aI λI a w U=>?_
     have U:=U.drop 1
     exact U.ag (k+1,done,out++[ab l k],vm) (hp.step ae ah λhd=>by rcases aH with h|h;exact h;rw[hd] at h;cases h)
  ·refine zt ?_
   refine aA λI a w U=>?_
   refine cz (λaM=>?_) λaM=>?_
   ·refine aF λI a w U=>?_
    refine U.o (.li [d.cells] iX (.u .nil)) λU=>?_
    refine U.ap 0 λv51 a w U=>?_
    rw[cA] at U
    refine aI λI a w U=>?_
    obtain⟨I,U⟩:=U.fr 0 4
    refine U.rt ?_
    exact congrArg (AV.rows 3) (by subst aM;exact hp.tY (by omega)▸rfl)
   ·refine aA λI a w U=>?_
    obtain⟨I,U⟩:=U.fr 0 4
    refine U.rt ?_
    exact congrArg (AV.rows 3) (by subst aM;rw[hp.tX (by omega)])
theorem Hu (l:List au) (d:au) (hl:bN l=true) (hd:lh d=true):
 Fn Tryz.prog 230 [bm l,d.av] (bm (fN l d)):=by
 refine Fn.go 85 Tryz.func230 Tryz.ntmps230 (λW I a U=>?_)
 have AO:=gR hl
 have Di:=XL d
 refine sr<|U.box rfl .tt λb3 I a w U=>?_
 refine aF λI a w U=>?_
 refine U.o (.cl (rQ ..)) λU=>?_
 refine bk λI a w U=>?_
 refine U.q .F (.li [_] iX (.u .nil)) λU=>?_
 refine U.q .F (.cl (rQ [d])) λU=>?_
 refine aA λI a w U=>?_
 refine U.cd (λae=>?_) λae=>?_
 ·exfalso;rw[hl,Di,hd] at ae;cases ae
  skip
 ·refine zt ?_
  refine U.l0 λO2 I a w U=>?_
  refine aI λI a w U=>?_
  refine St.lo (σ:=Nat×Bool×List au×Value×au) (run 3 5 (run 59 19 [])) ⟨λ⟨k,done,out,v,e⟩=>[(7,AV.int k),(6,AV.bool done),(5,AV.val v)],λ⟨k,done,out,v,e⟩=>[Own.box b3 63 e.cells,Own.row v 63 3 (out.map au.cells)],λ⟨k,done,out,v,e⟩=>lj l d k done out/\e.key=d.key/\(done=false->e=d)⟩ (λ⟨k,done,out,v,e⟩=>l.length-k) (0,false,[],.slice (some ⟨O2,0,none⟩) 0 0,d) U ?aJ ?aK
  case aJ=>exact⟨lj.zero l d,rfl,λ_=>rfl⟩
  case aK=>
   rintro⟨k,done,out,v,e⟩ I a w aj U
   obtain⟨hp,lq,AP⟩:=aj
   have hk:=hp.hk
   have kv:=hp.len
   have rF:done.toNat<=1:=by cases done<;>simp
   dsimp only at U
   refine aU λI a w U=>?_
   refine cz (λah=>?_) λah=>?_
   ·refine ai λI a w U=>?_
    refine cz (λal=>?_) λal=>?_
    ·refine wp_seq<|wp_seq<|U.dk ?_
     refine oY ?_
     refine .q .T (EJ 0 l5 .ag rfl rfl rfl) ?_
     refine fi ?_
     refine .q .T (.cl (yd ..)) ?_
     refine bn ?_
     refine .nil ?_
     intro I a w U
     refine aY ?_
     refine cz (λaH=>?_) λaH=>?_
     ·refine gz λI a w U=>?_
      refine U.o (.li [(ab l k).cells] iX (.u .nil)) λU=>?_
      refine U.ap 1 λHv a w U=>?_
      rw[cA] at U
      refine aI λI a w U=>?_
      refine Cl (λaM=>?_) λaM=>?_
      ·exfalso;simp at aM
       skip
      ·refine aI λI a w U=>?_
       exact U.ag (k+1,true,out++[ab l k],Hv,ab l k) (by obtain⟨h1,h2⟩:=al;obtain rfl:=AP h1;subst h1;have h:=(hp.same hl ah aH.1).2;rw[<-NG _ _ aH.1,if_pos aH.2] at h;exact⟨h,aH.1,λh=>by cases h⟩)
     ·refine aF λI a w U=>?_
      refine U.o (.li [e.cells] iX (.u .nil)) λU=>?_
      refine U.ap 1 λHv a w U=>?_
      rw[cA] at U
      refine aI λI a w U=>?_
      refine cz (λbh=>?_) λbh=>?_
      ·refine bM λI a w U=>?_
       refine U.o (.li [(ab l k).cells] iX (.u .nil)) λU=>?_
       refine U.ap 1 λHw a w U=>?_
       rw[cA] at U
       refine aU λI a w U=>?_
       exact U.ag (k+1,true,(out++[e])++[ab l k],Hw,e) (by obtain⟨h1,h2⟩:=al;obtain rfl:=AP h1;subst h1;exact⟨hp.before hl ah (by omega),rfl,λh=>by cases h⟩)
      ·refine aI λI a w U=>?_
       exact U.ag (k+1,true,out++[e],Hv,e) (by obtain⟨h1,h2⟩:=al;obtain rfl:=AP h1;subst h1;have h:=(hp.same hl ah bh).2;rw[<-NG _ _ bh,if_neg (by rcases aH with h4|h4;exact absurd bh h4;rw[h4];simp)] at h;exact⟨h,rfl,λh=>by cases h⟩)
    ·refine ai λI a w U=>?_
     refine nw (λaZ=>?_) λaZ=>?_
     ·refine bM λI a w U=>?_
      refine U.o (.li [(ab l k).cells] iX (.u .nil)) λU=>?_
      refine U.ap 1 λHw a w U=>?_
      rw[cA] at U
      refine aU λI a w U=>?_
      exact U.ag (k+1,done,out++[ab l k],Hw,e) (⟨hp.step ah (by omega) λhd=>by(rcases al with h|h;(rw[hd] at h;cases h);omega),lq,AP⟩)
     ·exfalso;simp only[bne_eq_false_iff_eq] at aZ;rcases al with h|h;(have:=hp.late h k (Nat.le_refl _) ah;omega);omega
      skip
   ·refine zt ?_
    refine aA λI a w U=>?_
    refine cz (λbV=>?_) λbV=>?_
    ·refine aF λI a w U=>?_
     refine U.o (.li [e.cells] iX (.u .nil)) λU=>?_
     refine U.ap 1 λO3 a w U=>?_
     rw[cA] at U
     refine aI λI a w U=>?_
     obtain⟨I,U⟩:=U.fr 1 4
     refine U.rt ?_
     exact congrArg (AV.rows 3) (by obtain rfl:=AP bV;subst bV;exact hp.tY (by omega)▸rfl)
    ·refine aA λI a w U=>?_
     obtain⟨I,U⟩:=U.fr 1 4
     refine U.rt ?_
     exact congrArg (AV.rows 3) (by subst bV;rw[hp.tX (by omega)])
theorem Dj:wo Tryz.prog 145 3 3 (λx:Int=>Lit.int .i64 x) (λx:Int=>Value.int .i64 x) (λx=>.lit (.int .i64 x)) (λx=>-9223372036854775808<=x/\x<=9223372036854775807) 0:=Uw Vx ny ny λw=>gO.zero
theorem Y9 (l:List aB) (v:aB) (h:l.length<=1048575) (hd:∀u∈l,u.aO.length<=1048576) (hv:v.aO.length<=1048576):
 Fn Tryz.prog 259 [bX l,v.av] (bX (qG l v)):=by
 refine Fn.go 46 Tryz.func259 Tryz.ntmps259 (λW I a U=>?_)
 refine aA λI a w U=>?_
 refine U.l0 λb8 I a w U=>?_
 refine aI λI a w U=>?_
 refine St.lo (σ:=Nat×Bool×List aB×Value) (run 3 5 (run 29 9 [])) ⟨λ⟨k,done,out,u⟩=>[(7,AV.int k),(6,AV.bool done),(5,AV.val u)],λ⟨k,done,out,u⟩=>[Own.row u 43 7 (out.map aB.cells)],λ⟨k,done,out,u⟩=>nJ l v k done out⟩ (λ⟨k,done,out,u⟩=>l.length-k) (0,false,[],.slice (some ⟨b8,0,none⟩) 0 0) U ?aJ ?aK
 case aJ=>exact nJ.zero l v
 case aK=>
  rintro⟨k,done,out,u⟩ I a w aj U
  have hp:nJ l v k done out:=aj
  have hk:=hp.hk
  have kv:=hp.len
  have rF:done.toNat<=1:=by cases done<;>simp
  dsimp only at U
  refine aU λI a w U=>?_
  refine cz (λae=>?_) λae=>?_
  ·refine zt ?_
   refine U.dk ?_
   refine nx ?_
   refine .q .T (.cl (My ..)) ?_
   refine bn ?_
   refine .nil ?_
   intro I a w U
   refine aY ?_
   refine cz (λah=>?_) λah=>?_
   ·refine aF λI a w U=>?_
    refine U.o (.c1 (pE v hv)) λU=>?_
    refine U.o (.li [v.cells] lH (.u .nil)) λU=>?_
    refine U.ap 0 λyF a w U=>?_
    rw[cA] at U
    refine gz λI a w U=>?_
    refine U.o (.c1 (pE (ab l k) (hd _ (aV ae)))) λU=>?_
    refine U.o (.li [(ab l k).cells] lH (.u .nil)) λU=>?_
    refine U.ap 0 λAQ a w U=>?_
    rw[cA] at U
    refine aU λI a w U=>?_
    exact U.ag (k+1,true,(out++[v])++[ab l k],AQ) (by obtain⟨h1,h2⟩:=ah;subst h1;exact hp.before ae h2)
   ·refine bM λI a w U=>?_
    refine U.o (.c1 (pE (ab l k) (hd _ (aV ae)))) λU=>?_
    refine U.o (.li [(ab l k).cells] lH (.u .nil)) λU=>?_
    refine U.ap 0 λAQ a w U=>?_
    rw[cA] at U
    refine aU λI a w U=>?_
    exact U.ag (k+1,done,out++[ab l k],AQ) (hp.step ae (by simpa using ah))
  ·refine zt ?_
   refine aA λI a w U=>?_
   refine cz (λal=>?_) λal=>?_
   ·refine aF λI a w U=>?_
    refine U.o (.c1 (pE v hv)) λU=>?_
    refine U.o (.li [v.cells] lH (.u .nil)) λU=>?_
    refine U.ap 0 λvm a w U=>?_
    rw[cA] at U
    refine aI λI a w U=>?_
    obtain⟨I,U⟩:=U.fr 0 4
    refine U.rt ?_
    exact congrArg (AV.rows 7) (by subst al;exact hp.tY (by omega)▸rfl)
   ·refine aA λI a w U=>?_
    obtain⟨I,U⟩:=U.fr 0 4
    refine U.rt ?_
    exact congrArg (AV.rows 7) (by subst al;rw[hp.tX (by omega)])
theorem vn {l:List aB} (h:cn l=true):u6 l:=⟨by have:=fV h;omega,λv hv=>by have:=gR (GU (gu h v hv));omega⟩
theorem w9 (l:List aB) (h:l.length<=1048576) (hd:∀y∈l,y.aO.length<=1048576):
 Fn Tryz.prog 171 [bX l] (bX l):=by
 refine Fn.go 21 Tryz.func171 Tryz.ntmps171 (λW I a U=>?_)
 have hle:=U.cW (t:=0) rfl
 refine ai λI a w U=>?_
 refine U.l0 λb5 I a w U=>?_
 refine aA λI a w U=>?_
 refine St.lo (σ:=Nat×Value) (run 2 3 (run 14 6 [])) ⟨λ⟨k,v⟩=>[(4,AV.int k),(3,AV.val v)],λ⟨k,v⟩=>[Own.row v 43 7 ((l.take k).map aB.cells)],λ⟨k,v⟩=>k<=l.length⟩ (λ⟨k,v⟩=>l.length-k) (0,.slice (some ⟨b5,0,none⟩) 0 0) U ?aJ ?aK
 case aJ=>exact Nat.zero_le _
 case aK=>
  rintro⟨k,v⟩ I a w aj U
  have hk:k<=l.length:=aj
  dsimp only at U
  refine aU λI a w U=>?_
  refine cz (λae=>?_) λae=>?_
  ·refine bM λI a w U=>?_
   refine U.o (.c1 (pE (ab l k) (hd _ (aV ae)))) λU=>?_
   refine U.o (.li [(ab l k).cells] lH (.u .nil)) λU=>?_
   refine U.ap 0 λqO a w U=>?_
   rw[cA,<-dW ae] at U
   refine aU λI a w U=>?_
   exact U.ag (k+1,qO) (ae)
  ·refine zt ?_
   refine aA λI a w U=>?_
   obtain⟨I,U⟩:=U.fr 0 2
   refine U.rt ?_
   exact congrArg (AV.rows 7) (by rw[List.take_of_length_le (by omega)])
theorem O4 (m:aC) (h:kD m):
 Fn Tryz.prog 170 [m.av] (m.av):=by
 refine Fn.go 22 Tryz.func170 Tryz.ntmps170 (λW I a U=>?_)
 obtain⟨h1,⟨h2,h3⟩,⟨h4,h5⟩,h6⟩:=h
 refine sr<|U.box rfl .tt λb1 I a w U=>U.alloc rfl dr eb λb2 I a w U=>?_
 refine zt ?_
 refine U.l0 λb3 I a w U=>?_
 refine aF λI a w U=>?_
 refine U.ap 2 λv6 a w U=>?_
 obtain⟨I,U⟩:=U.fr 2 6
 refine bt λI a w U=>?_
 refine U.o (.cl (w9 m.ao h2 h3)) λU=>?_
 refine bt λI a w U=>?_
 refine U.o (.cl (w9 m.waits h4 h5)) λU=>?_
 refine aA λI a w U=>?_
 refine U.l0 λyI I a w U=>?_
 refine aF λI a w U=>?_
 refine U.ap 3 λqO a w U=>?_
 obtain⟨I,U⟩:=U.fr 3 19
 refine aU λI a w U=>?_
 refine U.ret rfl (.cons (.sx 1) aX.nil) ?_
 rfl
theorem Hx (l:List aC) (h:l.length<=1048576) (hd:∀y∈l,kD y):
 Fn Tryz.prog 118 [bq l] (bq l):=by
 refine Fn.go 21 Tryz.func118 Tryz.ntmps118 (λW I a U=>?_)
 have hle:=U.cW (t:=0) rfl
 refine ai λI a w U=>?_
 refine U.l0 λb5 I a w U=>?_
 refine aA λI a w U=>?_
 refine St.lo (σ:=Nat×Value) (run 2 3 (run 14 6 [])) ⟨λ⟨k,v⟩=>[(4,AV.int k),(3,AV.val v)],λ⟨k,v⟩=>[Own.row v 70 15 ((l.take k).map aC.cells)],λ⟨k,v⟩=>k<=l.length⟩ (λ⟨k,v⟩=>l.length-k) (0,.slice (some ⟨b5,0,none⟩) 0 0) U ?aJ ?aK
 case aJ=>exact Nat.zero_le _
 case aK=>
  rintro⟨k,v⟩ I a w aj U
  have hk:k<=l.length:=aj
  dsimp only at U
  refine aU λI a w U=>?_
  refine cz (λae=>?_) λae=>?_
  ·refine bM λI a w U=>?_
   refine U.o (.c1 (O4 (ab l k) (hd _ (aV ae)))) λU=>?_
   refine U.o (.li [(ab l k).cells] gP (.u .nil)) λU=>?_
   refine U.ap 0 λqO a w U=>?_
   rw[cA,<-dW ae] at U
   refine aU λI a w U=>?_
   exact U.ag (k+1,qO) (ae)
  ·refine zt ?_
   refine aA λI a w U=>?_
   obtain⟨I,U⟩:=U.fr 0 2
   refine U.rt ?_
   exact congrArg (AV.rows 15) (by rw[List.take_of_length_le (by omega)])
theorem AR (s:Server) (h:rW s):
 Fn Tryz.prog 119 [s.av] (s.av):=by
 refine Fn.go 27 Tryz.func119 Tryz.ntmps119 (λW I a U=>?_)
 obtain⟨h1,⟨h2,h3⟩,⟨h4,h5⟩,h6,h7⟩:=h
 refine sr<|U.box rfl .tt λb1 I a w U=>U.alloc rfl cm dF λb2 I a w U=>?_
 refine zt ?_
 refine U.l0 λb3 I a w U=>?_
 refine aF λI a w U=>?_
 refine U.ap 2 λv6 a w U=>?_
 obtain⟨I,U⟩:=U.fr 2 6
 refine bt λI a w U=>?_
 refine U.o (.cl (w9 s.ao h2 h3)) λU=>?_
 refine bt λI a w U=>?_
 refine U.o (.cl (w9 s.waits h4 h5)) λU=>?_
 refine aA λI a w U=>?_
 refine U.l0 λyI I a w U=>?_
 refine aF λI a w U=>?_
 refine U.ap 3 λqO a w U=>?_
 obtain⟨I,U⟩:=U.fr 3 19
 refine aA λI a w U=>?_
 refine U.l0 λAS I a w U=>?_
 refine aF λI a w U=>?_
 refine U.ap 4 λxa a w U=>?_
 obtain⟨I,U⟩:=U.fr 4 24
 refine aU λI a w U=>?_
 refine U.ret rfl (.cons (.sx 1) aX.nil) ?_
 rfl
theorem Za (s:Server) (h:rW s):
 c7 Tryz.prog 119 [s.av] [] (λ_:Value=>True) (λv=>[Own.row v 104 2 (s.aG.map dG.cells)]) s.yx:=by
 refine c7.intro 27 Tryz.func119 rfl Tryz.ntmps119 rfl (by kernel_rfl) (λW I a U=>?_)
 obtain⟨h1,⟨h2,h3⟩,⟨h4,h5⟩,h6,h7⟩:=h
 refine sr<|U.box rfl .tt λb1 I a w U=>U.alloc rfl cm dF λb2 I a w U=>?_
 refine zt ?_
 refine U.l0 λb3 I a w U=>?_
 refine aF λI a w U=>?_
 refine U.ap 2 λv6 a w U=>?_
 refine U.o .fv λU=>?_
 try have ho6:=U.eJ 2 rfl
 refine bk λI a w U=>?_
 refine U.o (.cl (w9 s.ao h2 h3)) λU=>?_
 refine bt λI a w U=>?_
 refine U.o (.cl (w9 s.waits h4 h5)) λU=>?_
 refine aA λI a w U=>?_
 refine U.l0 λyI I a w U=>?_
 refine aF λI a w U=>?_
 refine U.ap 3 λqO a w U=>?_
 obtain⟨I,U⟩:=U.fr 3 19
 refine U.o .fv λU=>?_
 try have Zb:=U.eJ 3 rfl
 refine ai λI a w U=>?_
 refine U.l0 λAS I a w U=>?_
 refine aF λI a w U=>?_
 refine U.ap 4 λxa a w U=>?_
 obtain⟨I,U⟩:=U.fr 4 24
 refine U.o .fv λU=>?_
 try have Zc:=U.eJ 4 rfl
 refine aI λI a w U=>?_
 exact U.de v6 [2] rfl (.cons (.s 1 cm rfl rfl (by first|rfl|assumption)) .nil) trivial rfl rfl
theorem Zd (n:Int) (l:List cw) (hn:cL n=true) (hl:∀s∈l,db s=true):
 Fn Tryz.prog 236 [AV.int n,AV.rows 2 (l.map cw.cells)] (AV.dx [(qC n l).av,AV.bool (j9 l)]):=by
 refine Fn.go 44 Tryz.func236 Tryz.ntmps236 (λW I a U=>?_)
 have hle:=U.cW (t:=1) rfl
 refine sr<|U.alloc rfl l5 jU λb4 I a w U=>?_
 refine aF λI a w U=>?_
 refine U.o (.c1 (rP ..)) λU=>?_
 refine ai λI a w U=>?_
 refine U.cd (λae=>?_) λae=>?_
 ·exfalso;rw[hn] at ae;cases ae
  skip
 ·refine aA λI a w U=>?_
  refine St.lo (σ:=Nat) (run 3 5 (run 25 12 [])) ⟨λk=>[(7,AV.int k),(6,AV.int (o3 (l.take k)))],λk=>[Own.box b4 36 [AV.val (.int .i64 0),AV.val (.int .i64 0)]],λk=>k<=l.length⟩ (λk=>l.length-k) 0 U ?aJ ?aK
  case aJ=>exact Nat.zero_le _
  case aK=>
   rintro k I a w aj U
   have hk:k<=l.length:=aj
   refine aU λI a w U=>?_
   refine cz (λah=>?_) λah=>?_
   ·refine bt λI a w U=>?_
    refine U.o (.c1 (wA ..)) λU=>?_
    refine ai λI a w U=>?_
    refine U.cd (λal=>?_) λal=>?_
    ·exfalso;simp only[B] at al;rw[hl _ (aV ah)] at al;cases al
     skip
    ·refine jT λI a w U=>?_
     refine cz (λaH=>?_) λaH=>?_
     ·refine mA λI a w U=>?_
      refine U.again (k+1) ?iM ?iN (by rfl) ?iO (by repeat(first|exact Env.le_rfl|refine Env.jf rfl ?_))
      case iM=>omega
      case iN=>exact ah
      case iO=>exact(Env.dK rfl (by rfl) (Env.dK rfl (by first|exact congrArg AV.int (by rw[Ax ah,if_pos aH])|exact congrArg AV.int (by rw[Ax ah,if_neg (by omega)])) Env.le_nil))
     ·refine aI λI a w U=>?_
      refine U.again (k+1) ?nO ?nP (by rfl) ?nQ (by repeat(first|exact Env.le_rfl|refine Env.jf rfl ?_))
      case nO=>omega
      case nP=>exact ah
      case nQ=>exact(Env.dK rfl (by rfl) (Env.dK rfl (by first|exact congrArg AV.int (by rw[Ax ah,if_pos aH])|exact congrArg AV.int (by rw[Ax ah,if_neg (by omega)])) Env.le_nil))
   ·refine zt ?_
    refine aA λI a w U=>?_
    refine cz (λaM=>?_) λaM=>?_
    ·refine zt ?_
     refine U.o (.bd jU bf.nil) λU=>?_
     refine aA λI a w U=>?_
     rw[List.take_of_length_le (by omega)] at aM
     refine U.ret rfl (.cons (.sx 0) (.cons (.t rfl) aX.nil)) ?_
     have e:j9 l=false:=by unfold j9;simp;omega
     exact(by unfold qC;rw[e];rfl)
    ·refine bH λI a w U=>?_
     refine U.o (kS .tt .c (λ_=>by have:=Dg hl k;omega)) λU=>?_
     refine U.m λU=>?_
     refine U.o (.bd jU (.k (.k bf.nil))) λU=>?_
     refine aA λI a w U=>?_
     rw[List.take_of_length_le (by omega)] at aM
     refine U.ret rfl (.cons (.sx 0) (.cons (.t rfl) aX.nil)) ?_
     have e:j9 l=true:=by unfold j9;simp;omega
     exact(by unfold qC;rw[e,List.take_of_length_le (by omega)];rfl)
theorem eK.small {s:Server} (h:eK s) (ho:s.aD.length<=1048576):rW s:=⟨by have:=h.aG;omega,vn h.ao,vn h.waits,ho,by have:=h.bl;omega⟩
theorem O5:∀(n:Nat) (s:Server),(kK n s).site=s.site/\(kK n s).up=s.up/\(kK n s).aG=s.aG/\(kK n s).aD=s.aD/\(kK n s).bl=s.bl
 |0,s=>⟨rfl,rfl,rfl,rfl,rfl⟩
 |n+1,s=>by
  unfold kK
  split
  ·exact⟨rfl,rfl,rfl,rfl,rfl⟩
  ·obtain⟨a,b,d,e,f⟩:=O5 n (nD s (eL s).toNat)
   exact⟨a,b,d,e,f⟩
theorem eK.O6 {s:Server} (h:eK s) {d:au} (hl:s.bl.length<80):eK {s with bl:=ef s.bl d}:=⟨h.aG,h.ao,h.waits,h.apart,by have:=OZ s.bl d;show(ef s.bl d).length<=80;omega⟩
theorem vo {α:Type} [Inhabited α] {p:α->Bool} {l:List α}:(cF l.length λi=>p (ab l i))=true↔∀x∈l,p x=true:=by
 rw[gx]
 exact⟨λh x hx=>by obtain⟨k,hk,rfl⟩:=gq hx;exact h k hk,λh i hi=>h _ (aV hi)⟩
theorem pd {l:List aB} {d:au}:0<=placeOf l d↔∃x∈l,x.aT=d:=by
 constructor
 ·intro h
  obtain⟨h1,h2⟩:=lL h
  exact⟨_,aV h1,h2⟩
 ·rintro⟨x,hx,he⟩
  apply Int.not_lt.1
  intro hn
  exact pQ hn x hx he
theorem O7 {l:List aB} {d:au}:placeOf l d<0↔∀x∈l,x.aT≠d:=⟨pQ,Ap⟩
theorem Ze (s:Server):(ja s).site=s.site/\(ja s).up=s.up/\(ja s).aG=s.aG/\(ja s).aD=s.aD/\(ja s).bl=s.bl:=O5 _ s
theorem AT (s:Server):(fO s).site=s.site/\(fO s).up=s.up/\(fO s).aG=s.aG/\(fO s).aD=s.aD:=by
 obtain⟨a,b,d,e,_⟩:=Ze s
 exact⟨a,b,d,e⟩
theorem Zf {site:Int} {l:List cw} (hn:cL site=true) (hl:∀s∈l,db s=true) (ho:j9 l=true):db (qC site l)=true/\(qC site l).site=site/\∀s∈l,s.time<(qC site l).time:=by
 have hr:=Dg hl l.length
 rw[List.take_length] at hr
 have hm:o3 l<9999:=by simpa[j9] using ho
 have hle:∀(l:List cw) (t:Int),t<=l.foldl (λt s=>if t<s.time then s.time else t) t/\∀s∈l,s.time<=l.foldl (λt s=>if t<s.time then s.time else t) t:=by
  intro l
  induction l with
  |nil=>intro t;simp
  |cons a r ih=>
   intro t
   rw[List.foldl_cons]
   have h1:=ih (if t<a.time then a.time else t)
   have h2:t<=(if t<a.time then a.time else t)/\a.time<=(if t<a.time then a.time else t):=by split<;>omega
   refine⟨by omega,λs U=>?_⟩
   rcases List.mem_cons.1 U with rfl|U
   ·omega
   ·exact h1.2 s U
 unfold qC
 rw[ho,if_pos rfl]
 refine⟨by simp[db,aQ,hn];omega,rfl,λs U=>?_⟩
 have:=(hle l 0).2 s U
 show s.time<o3 l+1
 unfold o3;omega
theorem xb {m:aC} (h:bO m=true):kD m:=by
 have p:=mW h
 refine⟨by have:=gR p.2.2.2.2.2.2.2.1;omega,vn p.2.2.2.2.2.2.2.2.2.2.1,vn p.2.2.2.2.2.2.2.2.2.2.2.1,by have:=jz p.2.2.2.2.2.2.2.2.2.2.2.2;omega⟩
theorem yJ (s:Server):(fO s).site=s.site:=(AT s).1
theorem Zg (s:Server) (m:aC):(iL s m).1.site=s.site:=by
 unfold iL
 split
 ·split
  ·rfl
  ·split
   ·exact yJ _
   ·rfl
 ·rfl
theorem Zh (s:Server) (m:aC):(jb s m).1.site=s.site:=by
 unfold jb
 split
 ·dsimp only
  split
  ·split
   ·exact yJ _
   ·rfl
  ·exact yJ _
 ·rfl
theorem yK (s:Server) (key:Int) (hl:s.aG.length=3):
 Fn Tryz.prog 188 [s.av,AV.int key] (AV.bool (gv s key)):=by
 refine Fn.go 13 Tryz.func188 Tryz.ntmps188 (λW I a U=>?_)
 refine bk λI a w U=>?_
 refine U.o (.c1 (Au ..)) λU=>?_
 refine bk λI a w U=>?_
 refine U.q .T (Ah (λhg=>Hr s key hg hl) (aw .ag (aw .ag aL))) λU=>?_
 refine aI λI a w U=>?_
 refine U.rt ?_
 rfl
theorem O8 {l ds:List au} {k:Nat} (h:k<ds.length):(ds.take (k+1)).foldl ef l=ef ((ds.take k).foldl ef l) (ab ds k):=by
 rw[dW h,List.foldl_append];rfl
theorem O9:∀(ds l:List au),(ds.foldl ef l).length<=l.length+ds.length
 |[],l=>by simp
 |d::r,l=>by have h1:=O9 r (ef l d);have h2:=OZ l d;simp only[List.foldl_cons,List.length_cons];omega
theorem Pa (l ds:List au) (k:Nat):((ds.take k).foldl ef l).length<=l.length+k:=by
 have h1:=O9 (ds.take k) l
 have h2:(ds.take k).length<=k:=by simp;omega
 omega
theorem Pb {l vs:List aB} {k:Nat} (hk:k<vs.length) (hp:¬placeOf l (ab vs k).aT<0):iJ l (vs.take k)=iJ l (vs.take (k+1)):=by
 rw[CQ hk,eH,if_neg]
 intro hn
 obtain⟨x,hx,e⟩:=pd.1 (show 0<=placeOf l (ab vs k).aT by omega)
 exact pQ hn x (M8 hx) e
theorem Zi {s x:Server} (h:ja x=ja s) (hp:eL x<0):fO s={x with bl:=x.bl.filter λd=>!(!jy x d)}:=by
 have e:=Dh hp
 unfold fO C4
 rw[<-h,e,X3]
theorem Zj (s:Server) (m:aC):(iL s m).2.length<=1:=by
 unfold iL
 split
 ·split
  ·simp
  ·split<;>simp
 ·simp
theorem Zk (s:Server) (m:aC):(jb s m).2.length<=1:=by
 unfold jb
 split
 ·dsimp only
  split
  ·split<;>simp
  ·simp
 ·simp
theorem Pc {s:Server} (h:bF s) {d:au} (hd:d∈s.aD):∃v,dU s.ao d=some v/\v.key=d.key/\v∈s.ao:=by
 obtain⟨x,hx,e⟩:=h.o6 d hd
 have hp:=pd.2 ⟨x,hx,e⟩
 obtain⟨h1,h2⟩:=lL hp
 refine⟨ab s.ao (placeOf s.ao d).toNat,by unfold dU;rw[if_pos hp],congrArg au.key h2,aV h1⟩
theorem Pd:∀{l out:List aB} {v:aB},v∈l->∃x∈l.foldl eH out,x.aT=v.aT
 |[],_,_,h=>by simp at h
 |u::r,out,v,h=>by
  rcases List.mem_cons.1 h with rfl|h
  ·have:∃x∈eH out v,x.aT=v.aT:=by
    unfold eH;split
    ·exact⟨v,gS.2 (.inl rfl),rfl⟩
    ·rename_i hp
     obtain⟨x,hx,e⟩:=pd.1 (show 0<=placeOf out v.aT by omega)
     exact⟨x,hx,e⟩
   obtain⟨x,hx,e⟩:=this
   exact⟨x,GF (l:=r) hx,e⟩
  ·exact Pd (l:=r) h
theorem Pe {v:aB} (h:dM v=true) {d:au} (hd:d∈v.aO):d.aq.time<v.aq.time:=by
 simp only[dM,Bool.and_eq_true] at h
 have:=h.2
 unfold Fo at this
 rw[vo (p:=λd:au=>decide (d.aq.time<v.aq.time))] at this
 simpa using this d hd
theorem Pf {s:Server} (h:ve s):ve (fO s):=by
 have e:ja s=s:=Dh (GW λ_ i hi=>by rw[h.2.1] at hi;simp at hi)
 unfold fO;rw[e];exact h
end Go.Proofs.YtjepcfpkclegdaaGreat

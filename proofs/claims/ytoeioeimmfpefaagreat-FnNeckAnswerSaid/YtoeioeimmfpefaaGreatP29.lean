/- Part 29: rules of the proofs, contracts of functions, plain facts. -/
import Derived.Test.YtoeioeimmfpefaaGreatP27
import Derived.Test.YtoeioeimmfpefaaGreatP28
set_option linter.unusedVariables false
set_option linter.unusedSimpArgs false
set_option maxRecDepth 100000
set_option maxHeartbeats 4000000
namespace Go.Proofs.YtoeioeimmfpefaaGreat
open Go Go.RowKit
attribute [local irreducible] wpList Code.wp Ok
theorem Dj {α:Type}:∀{l:List (List α)} {sz:Nat},(∀r∈l,r.length=sz)→∀{i:Nat},l.flatten.drop (i*sz)=(l.drop i).flatten
 |l,sz,h,0=>by simp
 |[],sz,h,i+1=>by simp
 |x::r,sz,h,i+1=>by
  have hx:x.length=sz:=h x (by simp)
  have ih:=Dj (l:=r) (sz:=sz) (fun y hy=>h y (by simp[hy])) (i:=i)
  rw[List.flatten_cons,List.drop_succ_cons,←ih,show(i+1)*sz=x.length+i*sz by rw[hx,Nat.succ_mul,Nat.add_comm],List.drop_append]
  simp
theorem zy {α:Type} [Inhabited α] {p:α→Bool} {l:List α} (h:0≤dm p l):(dm p l).toNat<l.length∧p (ab l (dm p l).toNat)=true∧∀i,i<(dm p l).toNat→p (ab l i)=false:=by
 unfold dm at*
 split at h
 ·rename_i k hk
  obtain⟨h1,h2,h3⟩:=List.findIdx?_eq_some_iff_getElem.1 hk
  refine⟨by simpa using h1,by simpa[ab,h1] using h2,fun i hi=>?_⟩
  have jN:i<k:=by simpa using hi
  have jm:i<l.length:=by omega
  have:=h3 i jN
  simpa[ab,jm] using this
 ·omega
def kp {α:Type} (p:α→Bool) (l:List α) (j:Nat):List α:=(l.take j).filter fun d=>!p d
def gr {α:Type} (p:α→Bool) (l:List α) (j:Nat):List α:=kp p l j++l.drop (kp p l j).length
section
variable {α:Type} {p:α→Bool} {l:List α} {j:Nat}
theorem Dk:(kp p l j).length≤j:=by
 have h1:=List.length_filter_le (fun d=>!p d) (l.take j)
 have h2:(l.take j).length≤j:=by simp;omega
 unfold kp;omega
theorem Ss (h:j≤l.length):(gr p l j).length=l.length:=by
 have:=Dk (p:=p) (l:=l) (j:=j)
 unfold gr;simp;omega
theorem Sx:kp p l l.length=l.filter fun d=>!p d:=by unfold kp;rw[List.take_length]
variable [Inhabited α]
theorem zA (h:j<l.length) (hp:p (ab l j)=false):kp p l (j+1)=kp p l j++[ab l j]:=lC h (by rw[hp];rfl)
theorem xd (h:j<l.length) (hp:p (ab l j)=true):kp p l (j+1)=kp p l j:=lD h (by rw[hp];rfl)
theorem Su (h:j<l.length):ab (gr p l j) j=ab l j:=by
 have:=Dk (p:=p) (l:=l) (j:=j)
 unfold gr ab
 rw[List.getD_eq_getElem?_getD,List.getD_eq_getElem?_getD,List.getElem?_append_right this,List.getElem?_drop]
 congr 2;omega
theorem Sv (h:j<l.length) (hp:p (ab l j)=false):(gr p l j).set (kp p l j).length (ab l j)=gr p l (j+1):=by
 have:=Dk (p:=p) (l:=l) (j:=j)
 have hi:(kp p l j).length<l.length:=by omega
 unfold gr
 rw[zA h hp,List.set_append_right _ _ (Nat.le_refl _),Nat.sub_self]
 have e:l.drop (kp p l j).length=l[(kp p l j).length]::l.drop ((kp p l j).length+1):=List.drop_eq_getElem_cons hi
 rw[e,List.set_cons_zero]
 simp
theorem Sw (h:j<l.length) (hp:p (ab l j)=true):gr p l (j+1)=gr p l j:=by unfold gr;rw[xd h hp]
theorem Dl (h:0≤dm p l):kp p l ((dm p l).toNat+1)=l.take (dm p l).toNat:=by
 obtain⟨h1,h2,h3⟩:=zy h
 rw[xd h1 h2]
 unfold kp
 rw[List.filter_eq_self]
 intro x hx
 obtain⟨i,hi,rfl⟩:=List.getElem_of_mem hx
 have jN:i<(dm p l).toNat∧i<l.length:=by simp at hi;omega
 have:=h3 i jN.1
 simpa[ab,jN.2] using this
theorem JF (h:0≤dm p l):gr p l ((dm p l).toNat+1)=l:=by
 have h1:=(zy h).1
 unfold gr
 rw[Dl h,List.length_take,Nat.min_eq_left (by omega),List.take_append_drop]
theorem Sy (h:dm p l<0):(l.filter fun d=>!p d)=l:=by
 rw[List.filter_eq_self]
 intro x hx
 obtain⟨i,hi,rfl⟩:=List.getElem_of_mem hx
 have:=yw h i hi
 simpa[ab,hi] using this
end
set_option maxHeartbeats 4000000 in
theorem Sz (v:Value) (l:List (List AV)) (i:Nat) (hi:i<l.length) (hl:l.length≤1048576) (dJ:∀r∈l,r.length=7):
 cL Tryz.prog 241 [AV.val v,AV.int i,AV.int ((i:Int)+1)] [Own.row v 100 7 l] (fun _:Value=>True) (fun u=>[Own.row u 100 7 (l.take i++l.drop (i+1))]) AV.val:=by
 refine cL.intro 33 Tryz.func241 rfl Tryz.ntmps241 rfl (by kernel_rfl) (fun W I a hs=>?_)
 obtain⟨q,cap,rfl,kj⟩:=hs.vP 0 rfl
 refine cx fun I a w hs=>?_
 refine hs.o (GB (lo:=i) (hi:=i+1) (mx:=l.length) cM bt .tt .tt .tt .tt rfl (by omega) rfl (by omega) (by omega) (by omega)) fun hs=>?_
 refine aB fun I a w hs=>?_
 refine nn ?_
 refine hs.cd (fun ae=>?_) fun ae=>?_
 ·exfalso;simp only[B] at ae;omega
  skip
 ·skip
  refine aB fun I a w hs=>?_
  refine nn<|wp_seq ?_
  have bn:l≠[]:=by intro e;rw[e] at hi;simp at hi
  obtain⟨b,lN,he,lO,lP,ky,hs⟩:=hs.pN 0 rfl bn
  simp only[Value.slice.injEq] at he
  obtain⟨rfl,_,rfl⟩:=he
  have hF:l.flatten.length=l.length*7:=fj dJ
  have hB:(l.drop (i+1)).flatten.length=(l.length-(i+1))*7:=by rw[fj fun r hr=>dJ r (List.mem_of_mem_drop hr),List.length_drop]
  have hlen:(l.take i++l.drop (i+1)).length=i+(l.length-(i+1)):=by simp;omega
  have kz:∀r∈(l.take i++l.drop (i+1)),r.length=7:=fun r hr=>(List.mem_append.1 hr).elim (fun h=>dJ r (List.mem_of_mem_take h)) fun h=>dJ r (List.mem_of_mem_drop h)
  refine hs.dp 6 (by kernel_rfl) (by kernel_rfl) (by kernel_rfl) ?_
  simp only[List.take_succ_cons,List.take_zero,List.drop_succ_cons,List.drop_zero]
  refine cq ?_
  refine .o (pP (hi:=i) cM bt .tt .tt rfl (by omega) (by omega)) ?_
  refine cq ?_
  refine .o (BN (lo:=i+1) cM bt .tt .tt (by omega) (by omega) (by omega)) ?_
  refine .nil ?_
  intro I a w hs
  refine hs.GD (xs:=(l.drop (i+1)).flatten) 0 cM bt .tt .tt rfl (by rw[List.drop_append_of_le_length (by simp only[List.length_map,hF];exact Nat.mul_le_mul_right _ (by omega)),←List.map_drop,Dj dJ];exact ja _ (List.length_map _)) hB (by omega) (by simp only[List.length_append,List.length_map,List.length_replicate,hF,hB];omega) rfl fun hs=>?_
  refine aW fun I a w hs=>?_
  refine hs.o (GC (lo:=i+(l.length-(i+1))) (hi:=l.length) cM bt .tt .tt .tt rfl rfl (by omega) (by omega)) fun hs=>?_
  refine hs.BP 0 cM bt rfl jD .tt (by omega) rfl (by rw[jC]<;>simp only[List.length_append,List.length_map,List.length_replicate,hF,hB]<;>omega) fun hs=>?_
  have hs:=hs.pO (l:=(l.take i++l.drop (i+1))) (cap:=cap) 0 rfl (by rw[jC,jC]<;>(try rw[jC])<;>simp only[List.length_append,List.length_map,List.length_replicate,hF,hB]<;>omega) kz (by omega) (by omega) (by omega) (GH dJ hi)
  rw[←hlen] at hs
  refine ai fun I a w hs=>?_
  refine nn<|wp_ret ?_
  refine hs.cP _ [0] rfl (.cons (.t rfl) .nil) trivial rfl rfl
theorem SA {p:ar→Bool} {l:List ar} {j:Nat} {R Y:List (Option AV)} (h:(gr p l j).length=l.length):(over (((gr p l j).map ar.cells).flatten.map some++R) ((kp p l j).length*3) Y).take (((kp p l j).map ar.cells).length*3)=((kp p l j).map ar.cells).flatten.map some:=by
 have hA:((kp p l j).map ar.cells).flatten.length=(kp p l j).length*3:=by
  rw[fj (sz:=3) fun r hr=>by obtain⟨d,_,rfl⟩:=List.mem_map.1 hr;rfl,List.length_map]
 have e:((gr p l j).map ar.cells).flatten=((kp p l j).map ar.cells).flatten++((l.drop (kp p l j).length).map ar.cells).flatten:=by
  unfold gr;rw[List.map_append,List.flatten_append]
 rw[List.length_map,e,List.map_append,GG (by simp only[List.length_append,List.length_map,hA];omega),List.append_assoc]
 exact List.take_left' (by rw[List.length_map,hA])
set_option maxHeartbeats 4000000 in
theorem SB (v:Value) (l:List (List AV)) (i:Nat) (hi:i<l.length) (hl:l.length≤1048576) (dJ:∀r∈l,r.length=15):
 cL Tryz.prog 136 [AV.val v,AV.int i,AV.int ((i:Int)+1)] [Own.row v 74 15 l] (fun _:Value=>True) (fun u=>[Own.row u 74 15 (l.take i++l.drop (i+1))]) AV.val:=by
 refine cL.intro 33 Tryz.func136 rfl Tryz.ntmps136 rfl (by kernel_rfl) (fun W I a hs=>?_)
 obtain⟨q,cap,rfl,kj⟩:=hs.vP 0 rfl
 refine cx fun I a w hs=>?_
 refine hs.o (GB (lo:=i) (hi:=i+1) (mx:=l.length) dh cj .tt .tt .tt .tt rfl (by omega) rfl (by omega) (by omega) (by omega)) fun hs=>?_
 refine aB fun I a w hs=>?_
 refine nn ?_
 refine hs.cd (fun ae=>?_) fun ae=>?_
 ·exfalso;simp only[B] at ae;omega
  skip
 ·skip
  refine aB fun I a w hs=>?_
  refine nn<|wp_seq ?_
  have bn:l≠[]:=by intro e;rw[e] at hi;simp at hi
  obtain⟨b,lN,he,lO,lP,ky,hs⟩:=hs.pN 0 rfl bn
  simp only[Value.slice.injEq] at he
  obtain⟨rfl,_,rfl⟩:=he
  have hF:l.flatten.length=l.length*15:=fj dJ
  have hB:(l.drop (i+1)).flatten.length=(l.length-(i+1))*15:=by rw[fj fun r hr=>dJ r (List.mem_of_mem_drop hr),List.length_drop]
  have hlen:(l.take i++l.drop (i+1)).length=i+(l.length-(i+1)):=by simp;omega
  have kz:∀r∈(l.take i++l.drop (i+1)),r.length=15:=fun r hr=>(List.mem_append.1 hr).elim (fun h=>dJ r (List.mem_of_mem_take h)) fun h=>dJ r (List.mem_of_mem_drop h)
  refine hs.dp 6 (by kernel_rfl) (by kernel_rfl) (by kernel_rfl) ?_
  simp only[List.take_succ_cons,List.take_zero,List.drop_succ_cons,List.drop_zero]
  refine cq ?_
  refine .o (pP (hi:=i) dh cj .tt .tt rfl (by omega) (by omega)) ?_
  refine cq ?_
  refine .o (BN (lo:=i+1) dh cj .tt .tt (by omega) (by omega) (by omega)) ?_
  refine .nil ?_
  intro I a w hs
  refine hs.GD (xs:=(l.drop (i+1)).flatten) 0 dh cj .tt .tt rfl (by rw[List.drop_append_of_le_length (by simp only[List.length_map,hF];exact Nat.mul_le_mul_right _ (by omega)),←List.map_drop,Dj dJ];exact ja _ (List.length_map _)) hB (by omega) (by simp only[List.length_append,List.length_map,List.length_replicate,hF,hB];omega) rfl fun hs=>?_
  refine aW fun I a w hs=>?_
  refine hs.o (GC (lo:=i+(l.length-(i+1))) (hi:=l.length) dh cj .tt .tt .tt rfl rfl (by omega) (by omega)) fun hs=>?_
  refine hs.BP 0 dh cj rfl fF .tt (by omega) rfl (by rw[jC]<;>simp only[List.length_append,List.length_map,List.length_replicate,hF,hB]<;>omega) fun hs=>?_
  have hs:=hs.pO (l:=(l.take i++l.drop (i+1))) (cap:=cap) 0 rfl (by rw[jC,jC]<;>(try rw[jC])<;>simp only[List.length_append,List.length_map,List.length_replicate,hF,hB]<;>omega) kz (by omega) (by omega) (by omega) (GH dJ hi)
  rw[←hlen] at hs
  refine ai fun I a w hs=>?_
  refine nn<|wp_ret ?_
  refine hs.cP _ [0] rfl (.cons (.t rfl) .nil) trivial rfl rfl
set_option maxHeartbeats 4000000 in
theorem SC (v:Value) (l:List ar) (p:ar→Bool) (fv:AV) (O:Own) (hl:l.length≤1048576) (hf:∀x,x∈l→vX Tryz.prog fv [x.av] [O] (AV.bool (p x))):
 gO Tryz.prog 156 [AV.val v,fv] [Own.row v 97 3 (l.map ar.cells),O] [Own.row v 97 3 (l.map ar.cells),O] (AV.int (dm p l)):=by
 refine gO.intro 19 Tryz.func156 rfl Tryz.ntmps156 rfl (by kernel_rfl) (fun W I a hs=>?_)
 refine ai fun I a w hs=>?_
 refine hs.o (ni 0 bA .tt rfl) fun hs=>hs.mc fun hs=>nn<|wp_block ?_
 refine St.lo (σ:=Nat) (run 2 4 (run 11 8 [])) ⟨fun k=>[(8,AV.int k)],fun k=>[Own.row v 97 3 (l.map ar.cells),O],fun k=>k≤l.length∧∀i,i<k→p (ab l i)=false⟩ (fun k=>l.length-k) 0 hs ?aN ?aO
 case aN=>exact⟨Nat.zero_le _,fun i hi=>by omega⟩
 case aO=>
  rintro k I a w al hs
  obtain⟨hk,aT⟩:=al
  dsimp only at hs
  refine az fun I a w hs=>?_
  refine nn<|wp_seq ?_
  refine hs.cd (fun ae=>?_) fun ae=>?_
  ·simp only[B,List.length_map] at ae
   refine aW fun I a w hs=>?_
   obtain⟨b,cap,rfl⟩:=hs.g8 0 rfl (by rw[List.length_map];omega)
   refine hs.o (gv bA bk .tt .tt (fun _=>by simp only[List.length_map];omega)) fun hs=>?_
   refine hs.o (oj 0 bk .tt rfl (fun _=>by exact ek ae) rfl) fun hs=>?_
   refine hs.GF [1] (hf _ (bx ae)) .tt (aw .tt aP) rfl (by decide) rfl fun I a w hs=>?_
   refine nn ?_
   refine hs.cd (fun ah=>?_) fun ah=>?_
   ·skip
    refine ai fun I a w hs=>?_
    refine nn<|wp_ret<|bh<|aE<|aE<|bh<|aE ?_
    refine hs.cP () [0,1] rfl (.cons (.t rfl) .nil) trivial rfl (fk (mM ae aT ah).symm)
   ·skip
    refine ai fun I a w hs=>?_
    refine nn ?_
    exact hs.ag (k+1) (⟨ae,fun i h1=>by rcases Nat.lt_succ_iff_lt_or_eq.1 h1 with h|h;exact aT i h;rw[h];exact ah⟩)
  ·simp only[B,List.length_map] at ae
   refine wp_exit<|aF<|aF<|aY ?_
   refine az fun I a w hs=>?_
   refine nn<|wp_ret ?_
   refine hs.cP () [0,1] rfl (.cons (.t rfl) .nil) trivial rfl (fk (l5 (by omega) aT).symm)
set_option maxHeartbeats 4000000 in
theorem Dm (v:Value) (l:List ar) (p:ar→Bool) (fv:AV) (O:Own) (hl:l.length≤1048576) (hf:∀x,x∈l→vX Tryz.prog fv [x.av] [O] (AV.bool (p x))):
 cL Tryz.prog 220 [AV.val v,fv] [Own.row v 97 3 (l.map ar.cells),O] (fun _:Value=>True) (fun u=>[Own.row u 97 3 ((l.filter fun d=>!p d).map ar.cells),O]) AV.val:=by
 refine cL.intro 42 Tryz.func220 rfl Tryz.ntmps220 rfl (by kernel_rfl) (fun W I a hs=>?_)
 refine aB fun I a w hs=>?_
 refine hs.dZ [0,1] (SC v l p fv O hl hf) (aw .tt (aw .tt aP)) rfl (by decide) rfl fun I a w hs=>?_
 refine aB fun I a w hs=>?_
 refine nn ?_
 refine hs.cd (fun ae=>?_) fun ae=>?_
 ·skip
  refine ai fun I a w hs=>?_
  refine nn<|wp_ret<|aE ?_
  simp only[B] at ae
  refine hs.cP v [0,1] rfl (.cons (.t rfl) .nil) trivial (by rw[Sy (by omega)];rfl) rfl
 ·skip
  refine wp_skip<|aG<|wp_seq<|wp_seq ?_
  simp only[B] at ae
  have rY:=PA p l
  have h0:0≤dm p l:=by omega
  obtain⟨h1,h2,h3⟩:=zy h0
  obtain⟨b,cap,rfl⟩:=hs.g8 0 rfl (by rw[List.length_map];omega)
  rw[show l.map ar.cells=(gr p l ((dm p l).toNat+1)).map ar.cells from by rw[JF h0]] at hs
  rw[show((gr p l ((dm p l).toNat+1)).map ar.cells).length=(l.map ar.cells).length from by rw[JF h0]] at hs
  refine aB fun I a w hs=>?_
  refine nn<|wp_block ?_
  refine St.E6 (σ:=Nat) (run 3 5 (run 20 16 [])) ⟨fun j=>[(6,AV.int j),(5,AV.int (kp p l j).length)],fun j=>[Own.row (.slice (some ⟨b,0,none⟩) (l.map ar.cells).length cap) 97 3 ((gr p l (j)).map ar.cells),O],fun j=>j≤l.length∧(kp p l j).length<j⟩ (fun j=>l.length-j) ((dm p l).toNat+1) hs rfl ?aN ?SD ?aO
  case aN=>exact⟨by omega,by rw[Dl h0,List.length_take];omega⟩
  case SD=>exact(Env.dI rfl (by exact congrArg AV.int (by omega)) (Env.dI rfl (by exact congrArg AV.int (by rw[Dl h0,List.length_take];omega)) Env.le_nil))
  case aO=>
   rintro j I a w al hs
   obtain⟨hj,hkj⟩:=al
   dsimp only at hs
   have jP:=Ss (p:=p) hj
   have hle:(l.map ar.cells).length=((gr p l (j)).map ar.cells).length:=by rw[List.length_map,List.length_map,jP]
   refine ai fun I a w hs=>?_
   refine hs.o (ni 0 bA .tt rfl) fun hs=>hs.o .lss fun hs=>nn ?_
   refine hs.cd (fun ah=>?_) fun ah=>?_
   ·simp only[B,List.length_map] at ah
    have ah:j<l.length:=by omega
    refine ai fun I a w hs=>?_
    rw[hle] at hs
    refine hs.o (gv bA bk .tt .tt (fun _=>by simp only[List.length_map];omega)) fun hs=>?_
    refine hs.o (oj 0 bk .tt rfl (fun _=>by show((gr p l j).map ar.cells)[j]?=some (ab l j).cells;rw[←Su (p:=p) ah];exact ek (by omega)) rfl) fun hs=>?_
    refine hs.alloc rfl bk eV fun b7 I a w hs=>?_
    refine hs.sb 2 fun hs=>?_
    obtain⟨I,hs⟩:=hs.fb 2 7
    refine ai fun I a w hs=>?_
    refine hs.GF [1] (hf _ (bx ah)) .tt (aw .tt aP) rfl (by decide) rfl fun I a w hs=>?_
    refine hs.o .nt fun hs=>nn ?_
    refine hs.cd (fun aj=>?_) fun aj=>?_
    ·simp only[B] at aj
     refine wp_seq ?_
     have hw:(kp p l j).length<(gr p l j).length:=by omega
     refine aB fun I a w hs=>?_
     refine hs.o (gv bA bk .tt .tt (fun _=>by simp only[List.length_map];omega)) fun hs=>?_
     refine hs.jx 0 bk .tt .tt rfl (by exact ek hw) rfl rfl fun a w hs=>?_
     refine cx fun I a w hs=>?_
     refine nn ?_
     have hs:=hs.drop 2
     rw[Int.toNat_natCast (kp p l j).length] at hs
     rw[show((gr p l (j)).map ar.cells).set (kp p l j).length (ab l j).cells=(gr p l (j+1)).map ar.cells from by rw[←Sv ah aj,List.map_set]] at hs
     rw[←hle] at hs
     refine hs.again (j+1) ?gS ?gT (by rfl) ?gU (by repeat(first|exact Env.le_rfl|refine Env.ie rfl ?_))
     case gS=>omega
     case gT=>exact⟨ah,by rw[zA ah aj,List.length_append];simp;omega⟩
     case gU=>exact(Env.dI rfl (by rfl) (Env.dI rfl (by first|exact congrArg AV.int (by rw[zA ah aj,List.length_append];simp)|exact congrArg AV.int (by rw[xd ah aj])) Env.le_nil))
    ·simp only[B] at aj
     refine aB fun I a w hs=>?_
     refine nn ?_
     have hs:=hs.drop 2
     rw[←hle,←Sw ah aj] at hs
     refine hs.again (j+1) ?nK ?nL (by rfl) ?nM (by repeat(first|exact Env.le_rfl|refine Env.ie rfl ?_))
     case nK=>omega
     case nL=>exact⟨ah,by rw[xd ah aj];omega⟩
     case nM=>exact(Env.dI rfl (by rfl) (Env.dI rfl (by first|exact congrArg AV.int (by rw[zA ah aj,List.length_append];simp)|exact congrArg AV.int (by rw[xd ah aj])) Env.le_nil))
   ·simp only[B,List.length_map] at ah
    refine wp_exit<|aF<|aF<|aY ?_
    refine ai fun I a w hs=>?_
    have bn:((gr p l (j)).map ar.cells)≠[]:=by intro e;have:=congrArg List.length e;simp only[List.length_map,List.length_nil] at this;omega
    obtain⟨b2,lN,he,lO,lP,ky,hs⟩:=hs.pN 0 rfl bn
    simp only[Value.slice.injEq,Option.some.injEq,Addr.mk.injEq] at he
    obtain⟨⟨rfl,_⟩,_,rfl⟩:=he
    refine hs.o (BN (lo:=(kp p l j).length) bA bk .tt .tt rfl (by rw[List.length_map];omega) (by rw[hle];exact lO)) fun hs=>?_
    have hF:((gr p l (j)).map ar.cells).flatten.length=((gr p l (j)).map ar.cells).length*3:=fj (fun r hr=>by obtain⟨d,_,rfl⟩:=List.mem_map.1 hr;rfl)
    refine hs.BP 0 bA bk rfl fU .tt (by rw[List.length_map];omega) rfl (by simp only[List.length_append,List.length_map,List.length_replicate,hF,jP];omega) fun hs=>?_
    have hs:=hs.pO (l:=(kp p l j).map ar.cells) (cap:=cap) 0 rfl (by rw[jC]<;>simp only[List.length_append,List.length_map,List.length_replicate,hF,jP]<;>simp only[List.length_map,jP] at lO<;>omega) (fun r hr=>by obtain⟨d,_,rfl⟩:=List.mem_map.1 hr;rfl) (by rw[List.length_map];simp only[List.length_map,jP] at lO;omega) ky lP (SA jP)
    rw[show((kp p l j).map ar.cells).length=(kp p l j).length from List.length_map _] at hs
    refine ai fun I a w hs=>?_
    refine hs.o (pP (hi:=(kp p l j).length) bA bk .tt .tt rfl (by simp only[List.length_map,jP] at lO;omega) ky) fun hs=>?_
    refine hs.s fun hs=>nn<|wp_ret ?_
    obtain rfl:j=l.length:=by omega
    rw[Sx] at hs
    refine hs.cP _ [0,1] rfl (.cons (.t rfl) .nil) trivial (by rw[List.length_map];rfl) rfl
end Go.Proofs.YtoeioeimmfpefaaGreat

/- Part 22: rules of the proofs, contracts of functions, plain facts. -/
import Derived.Test.YtoeioeimmfpefaaGreatP21
set_option linter.unusedVariables false
set_option linter.unusedSimpArgs false
set_option maxRecDepth 100000
set_option maxHeartbeats 4000000
namespace Go.Proofs.YtoeioeimmfpefaaGreat
open Go Go.RowKit
attribute [local irreducible] wpList Code.wp Ok
def eE:List aK→aK→List aK
 |[],v=>[v]
 |x::r,v=>if fE x v then x::eE r v else v::x::r
def nN:List aK→aK→List aK
 |[],v=>[v]
 |x::r,v=>if fE v x then v::x::r else x::nN r v
theorem It:∀{l:List aK} {v:aK} {n:Nat},n≤l.length→(∀i,i<n→fE (ab l i) v=true)→(n<l.length→fE (ab l n) v=false)→l.take n++v::l.drop n=eE l v
 |[],v,n,h,_,_=>by have:n=0:=by simpa using h
                   subst this;rfl
 |x::r,v,0,_,_,h2=>by
  have:=h2 (by simp)
  have e:fE x v=false:=this
  simp[eE,e]
 |x::r,v,n+1,h,h1,h2=>by
  have e:fE x v=true:=h1 0 (by omega)
  have ih:=It (l:=r) (v:=v) (n:=n) (by simpa using h) (fun i hi=>h1 (i+1) (by omega)) (fun hl=>h2 (by simpa using hl))
  simp[eE,e,ih]
theorem yT {a b:ar} (h:dD a b=false) (h':dD b a=false):a=b:=by
 obtain⟨k,⟨t,s⟩⟩:=a
 obtain⟨k',⟨t',s'⟩⟩:=b
 simp[dD,cY] at h h'
 simp
 omega
theorem QB {a b:ar} (h:dD a b=true):dD b a=false:=by
 obtain⟨k,⟨t,s⟩⟩:=a
 obtain⟨k',⟨t',s'⟩⟩:=b
 simp[dD,cY] at h⊢
 omega
theorem yU (a:ar):dD a a=false:=by simp[dD,cY]
theorem wG {a b d:ar} (h:dD a b=true) (h':dD b d=true):dD a d=true:=by
 obtain⟨k,⟨t,s⟩⟩:=a
 obtain⟨k',⟨t',s'⟩⟩:=b
 obtain⟨k2,⟨t2,s2⟩⟩:=d
 simp[dD,cY] at h h'⊢
 omega
def VS (l:List aK):Prop:=l.Pairwise fun a b=>fE a b=true
theorem Iu:∀{l:List aK} {v:aK},(∀x∈l,x.bH≠v.bH)→nN l v=eE l v
 |[],_,_=>rfl
 |x::r,v,h=>by
  have hx:=h x (by simp)
  have ih:=Iu (l:=r) (v:=v) fun y hy=>h y (by simp[hy])
  unfold eE nN
  cases h1:fE v x
  ·cases h2:fE x v
   ·exact absurd (yT h2 h1) hx
   ·simp[ih]
  ·rw[show fE x v=false from QB h1];simp
theorem lr:∀{l:List aK} {v x:aK},x∈eE l v↔x=v∨x∈l
 |[],v,x=>by simp[eE]
 |y::r,v,x=>by
  unfold eE
  split
  ·rw[List.mem_cons,lr (l:=r),List.mem_cons]
   constructor
   ·rintro(h|h|h)<;>simp[h]
   ·rintro(h|h|h)<;>simp[h]
  ·rw[List.mem_cons]
theorem Iv (l:List aK) (v:aK):(eE l v).length=l.length+1:=by
 induction l with
 |nil=>rfl
 |cons x r ih=>unfold eE;split<;>simp[ih]
theorem Iw:∀{l:List aK} {v:aK},VS l→(∀x∈l,x.bH≠v.bH)→VS (eE l v)
 |[],v,_,_=>by simp[eE,VS]
 |x::r,v,h,hd=>by
  unfold VS at h
  rw[List.pairwise_cons] at h
  unfold eE
  split
  ·rename_i bJ
   unfold VS
   rw[List.pairwise_cons]
   refine⟨fun y hy=>?_,Iw h.2 fun y hy=>hd y (by simp[hy])⟩
   rcases lr.1 hy with rfl|hy
   ·exact bJ
   ·exact h.1 y hy
  ·rename_i bJ
   have h1:fE v x=true:=by
    cases h1:fE v x
    ·simp only[Bool.not_eq_true] at bJ
     exact absurd (yT bJ h1) (hd x (by simp))
    ·rfl
   unfold VS
   rw[List.pairwise_cons,List.pairwise_cons]
   refine⟨fun y hy=>?_,h.1,h.2⟩
   rcases List.mem_cons.1 hy with rfl|hy
   ·exact h1
   ·exact wG h1 (h.1 y hy)
theorem oK {l:List aK} {d:ar} (h:placeOf l d<0):∀x∈l,x.bH≠d:=fun x hx he=>by
 obtain⟨k,hk,rfl⟩:=hO hx
 have:=yw h k hk
 simp[ln] at this;exact this he
theorem yV {l:List aK} {d:ar} (h:∀x∈l,x.bH≠d):placeOf l d<0:=by
 rcases Int.lt_or_le (placeOf l d) 0 with hn|hn
 ·exact hn
 ·obtain⟨k,hk,hp⟩:=B7 hn
  simp[ln] at hp
  exact absurd hp (h _ (bx hk))
theorem wH {l:List aK} {d:ar} (h:0≤placeOf l d):(placeOf l d).toNat<l.length∧(ab l (placeOf l d).toNat).bH=d:=by
 unfold placeOf dm at*
 split at h
 ·rename_i k hk
  obtain⟨h1,h2,_⟩:=List.findIdx?_eq_some_iff_getElem.1 hk
  refine⟨by simpa using h1,?_⟩
  simp only[Int.toNat_natCast]
  simpa[ab,h1,ln] using h2
 ·omega
def iS (out:List aK) (v:aK):List aK:=if placeOf out v.bH<0 then eE out v else out
theorem QC {out:List aK} {v x:aK} (h:x∈iS out v):x=v∨x∈out:=by
 unfold iS at h;split at h
 ·exact lr.1 h
 ·exact Or.inr h
theorem QD (out:List aK) (v:aK):(iS out v).length≤out.length+1:=by
 unfold iS;split
 ·rw[Iv];exact Nat.le_refl _
 ·omega
theorem CA:∀{l out:List aK} {x:aK},x∈l.foldl iS out→x∈l∨x∈out
 |[],_,_,h=>Or.inr h
 |v::r,out,x,h=>by
  rcases CA (l:=r) h with h1|h1
  ·exact Or.inl (by simp[h1])
  ·rcases QC h1 with rfl|h2
   ·exact Or.inl (by simp)
   ·exact Or.inr h2
theorem Ix:∀(l out:List aK),(l.foldl iS out).length≤out.length+l.length
 |[],_=>by simp
 |v::r,out=>by
  have:=Ix r (iS out v)
  have h2:=QD out v
  simp at this⊢;omega
theorem QE {l out:List aK} {k:Nat} (h:k<l.length):(l.take (k+1)).foldl iS out=iS ((l.take k).foldl iS out) (ab l k):=by
 rw[dL h,List.foldl_append];rfl
theorem QF {α:Type} [Inhabited α] {R:α→α→Prop} (tr:∀{a b d},R a b→R b d→R a d) {l:List α} (h:∀i,0<i→i<l.length→R (ab l (i-1)) (ab l i)):l.Pairwise R:=by
 rw[List.pairwise_iff_getElem]
 intro i j hi hj gM
 have e:∀k (hk:k<l.length),l[k]=ab l k:=fun k hk=>by simp[ab,hk]
 rw[e i hi,e j hj]
 obtain⟨n,rfl⟩:∃n,j=i+1+n:=⟨j-(i+1),by omega⟩
 clear gM
 induction n with
 |zero=>have:=h (i+1) (by omega) hj;simpa using this
 |succ n ih=>
  have h1:=ih (by omega)
  have h2:=h (i+1+(n+1)) (by omega) hj
  rw[show i+1+(n+1)-1=i+1+n from by omega] at h2
  exact tr h1 h2
theorem gA {l:List aK} (h:cg l=true):∀x∈l,et x=true:=fun x hx=>by
 obtain⟨k,hk,rfl⟩:=hO hx
 exact qY h hk
theorem gn {l:List aK} (h:cg l=true):l.length≤80:=by
 unfold cg at h
 rw[Bool.and_eq_true,decide_eq_true_eq] at h;exact h.1
def iF (l:List aK) (d:ar):Option aK:=if 0≤placeOf l d then some (ab l (placeOf l d).toNat) else none
structure kx (l:List aK) (v:aK) (k:Nat) (done:Bool) (out:List aK):Prop where
 hk:k≤l.length
 eq:nN l v=if done then out++l.drop k else out++nN (l.drop k) v
 len:out.length≤k+done.toNat
theorem kx.zero (l:List aK) (v:aK):kx l v 0 false []:=⟨Nat.zero_le _,by simp,by simp⟩
section
variable {l:List aK} {v:aK} {k:Nat} {out:List aK} {done:Bool}
theorem kx.before (hp:kx l v k false out) (h:k<l.length) (he:fE v (ab l k)=true):kx l v (k+1) true ((out++[v])++[ab l k]):=by
 refine⟨h,?_,by have:=hp.len;simp at this⊢;omega⟩
 have:=hp.eq
 rw[jw h] at this
 simp only[nN,if_pos he] at this
 rw[this];simp
theorem kx.step (hp:kx l v k done out) (h:k<l.length) (he:done=true∨fE v (ab l k)=false):kx l v (k+1) done (out++[ab l k]):=by
 refine⟨h,?_,by have:=hp.len;simp;omega⟩
 have:=hp.eq
 cases done
 ·rw[jw h] at this
  have he:fE v (ab l k)=false:=he.resolve_left (by simp)
  simp only[nN,he] at this
  rw[this];simp
 ·simp only[if_true] at this⊢
  rw[this,jw h];simp
theorem kx.pZ (hp:kx l v k true out) (h:l.length≤k):out=nN l v:=by
 have:=hp.eq
 rw[List.drop_eq_nil_of_le h] at this;simpa using this.symm
theorem kx.p4 (hp:kx l v k false out) (h:l.length≤k):out++[v]=nN l v:=by
 have:=hp.eq
 rw[List.drop_eq_nil_of_le h] at this;simpa[nN] using this.symm
end
set_option maxHeartbeats 4000000 in
theorem QG (v:Value) (l:List (List AV)) (x:List AV) (i:Nat) (hi:i≤l.length) (hl:l.length≤1048576) (dJ:∀r∈l,r.length=7) (hx:x.length=7):
 gO Tryz.prog 130 [AV.val v,AV.int i,AV.rows 7 [x]] [Own.row v 100 7 l] [] (AV.rows 7 (l.take i++x::l.drop i)):=by
 refine gO.intro 95 Tryz.func130 rfl Tryz.ntmps130 rfl (by kernel_rfl) (fun W I a hs=>?_)
 obtain⟨q,cap,rfl,kj⟩:=hs.vP 0 rfl
 refine aB fun I a w hs=>?_
 refine hs.o (Bw cM bt .tt .tt ⟨by omega,by omega⟩ kj) fun hs=>?_
 refine az fun I a w hs=>?_
 refine hs.o (vg cM .tt) fun hs=>?_
 rw[show(([x]:List (List AV)).length:Int)=1 from rfl] at hs
 refine aB fun I a w hs=>?_
 refine nn ?_
 refine hs.cd (fun ae=>?_) fun ae=>?_
 ·exfalso;simp at ae
  skip
 ·skip
  refine cx fun I a w hs=>?_
  refine nn ?_
  refine hs.cd (fun ah=>?_) fun ah=>?_
  ·try simp only[B] at ah
   refine ai fun I a w hs=>?_
   refine hs.append 0 rfl cM bt rfl .tt .tt rfl (by simp only[List.length_singleton];omega) fun sM a w hs=>?_
   obtain⟨I,hs⟩:=hs.fr 0 25
   have hs:=hs.drop 0
   refine hs.s fun hs=>nn<|wp_ret<|aE ?_
   refine hs.pQ rfl (.cons (by first|exact .t rfl|exact .nil rfl) .nil) rfl ?_
   exact congrArg (AV.rows 7) (by rw[show i=l.length by omega];simp)
  ·try simp only[B] at ah
   refine aJ fun I a w hs=>?_
   refine hs.o (By cM .tt) fun hs=>hs.o .gtr fun hs=>nn ?_
   refine hs.cd (fun aj=>?_) fun aj=>?_
   ·try simp only[B] at aj
    refine sr ?_
    have bn:l≠[]:=by intro e;rw[e] at hi ah;simp at hi ah;omega
    obtain⟨b,lN,he,lO,lP,ky,hs⟩:=hs.pN 0 rfl bn
    simp only[Value.slice.injEq] at he
    obtain⟨rfl,_,rfl⟩:=he
    have hA:(l.take i).flatten.length=i*7:=by rw[fj fun r hr=>dJ r (List.mem_of_mem_take hr),List.length_take,Nat.min_eq_left hi]
    have hB:(l.drop i).flatten.length=(l.length-i)*7:=by rw[fj fun r hr=>dJ r (List.mem_of_mem_drop hr),List.length_drop]
    rw[show l.flatten=(l.take i).flatten++(l.drop i).flatten by rw[←List.flatten_append,List.take_append_drop],List.map_append] at hs
    have ff:([x]:List (List AV)).flatten.length=7:=by simpa using hx
    have hlen:(l.take i++x::l.drop i).length=l.length+1:=by simp;omega
    have kz:∀r∈l.take i++x::l.drop i,r.length=7:=fun r hr=>(List.mem_append.1 hr).elim (fun h=>dJ r (List.mem_of_mem_take h)) fun h=>(List.mem_cons.1 h).elim (fun e=>e▸hx) fun h=>dJ r (List.mem_of_mem_drop h)
    have nO:(l.take i++x::l.drop i).flatten.map some=(l.take i).flatten.map some++([x]:List (List AV)).flatten.map some++(l.drop i).flatten.map some:=by simp
    refine ai fun I a w hs=>?_
    refine hs.o (pP (hi:=i) cM bt .tt .tt rfl (by omega) (by omega)) fun hs=>?_
    refine aW fun I a w hs=>?_
    refine hs.Bz (iA:=l.length+1-i) (xs:=(l.take i).flatten) 0 cM nA bt rfl (by decide) .tt .tt (by omega) (by omega) rfl (by rw[List.drop_zero,List.append_assoc];exact ja _ (List.length_map _)) hA (by omega) (by omega) (by omega) rfl fun{gb wI a w} rY qQ hs=>?_
    refine aB fun I a w hs=>?_
    refine hs.o (iO (lo:=i) cM bt .tt .tt rfl (by omega) (by omega)) fun hs=>?_
    refine hs.m fun hs=>?_
    refine hs.tO 1 cM bt .tt .tt rfl (by simp) (by simp only[List.length_singleton];omega) (by simp only[List.length_singleton,List.length_append,List.length_map,List.length_replicate,hA];omega) rfl fun hs=>?_
    refine nn<|wp_seq ?_
    refine hs.dp 8 (by kernel_rfl) (by kernel_rfl) (by kernel_rfl) ?_
    simp only[List.take_succ_cons,List.take_zero,List.drop_succ_cons,List.drop_zero]
    refine de ?_
    refine .o (iO (lo:=i+1) cM bt .tt .tt (by omega) (by omega) (by omega)) ?_
    refine cq ?_
    refine .o (iO (lo:=i) cM bt .tt .tt rfl (by omega) (by omega)) ?_
    refine .nil ?_
    intro I a w hs
    refine hs.tP (xs:=(l.drop i).flatten) 1 0 cM bt .tt .tt rfl rfl (by rw[List.append_assoc,sj _ (by simp only[List.length_map,hA];omega)];exact ja _ (List.length_map _)) (by rw[hB,Nat.min_eq_left (by omega)]) (by rw[jC (by simp only[List.length_map,List.length_append,List.length_replicate,ff,hA];omega)];simp only[List.length_append,List.length_map,List.length_replicate,hA,hB];omega) rfl fun hs=>?_
    rw[BG (by simp only[List.length_map,hA];omega) (by simp only[List.length_map,ff];omega) (by simp only[List.length_map,List.length_replicate,ff,hB];omega)] at hs
    have hs:=hs.pO (l:=l.take i++x::l.drop i) (cap:=wI) 1 rfl (by simp only[List.length_append,List.length_map,List.length_drop,List.length_replicate,hA,hB,ff];omega) kz (by omega) (by omega) (by omega) (by rw[nO,hlen];exact ja _ (by simp only[List.length_append,List.length_map,hA,hB,ff];omega))
    rw[show i+(l.length+1-i)=(l.take i++x::l.drop i).length by omega] at hs
    obtain⟨I,hs⟩:=hs.fr 1 9
    have hs:=hs.drop 0
    refine ai fun I a w hs=>?_
    refine nn<|wp_ret<|aE ?_
    exact hs.pQ rfl (.cons (by first|exact .t rfl|exact .nil rfl) .nil) rfl rfl
   ·try simp only[B] at aj
    refine wp_skip<|aG<|sr ?_
    have bn:l≠[]:=by intro e;rw[e] at hi ah;simp at hi ah;omega
    obtain⟨b,lN,he,lO,lP,ky,hs⟩:=hs.pN 0 rfl bn
    simp only[Value.slice.injEq] at he
    obtain⟨rfl,_,rfl⟩:=he
    have hA:(l.take i).flatten.length=i*7:=by rw[fj fun r hr=>dJ r (List.mem_of_mem_take hr),List.length_take,Nat.min_eq_left hi]
    have hB:(l.drop i).flatten.length=(l.length-i)*7:=by rw[fj fun r hr=>dJ r (List.mem_of_mem_drop hr),List.length_drop]
    rw[show l.flatten=(l.take i).flatten++(l.drop i).flatten by rw[←List.flatten_append,List.take_append_drop],List.map_append] at hs
    have ff:([x]:List (List AV)).flatten.length=7:=by simpa using hx
    have hlen:(l.take i++x::l.drop i).length=l.length+1:=by simp;omega
    have kz:∀r∈l.take i++x::l.drop i,r.length=7:=fun r hr=>(List.mem_append.1 hr).elim (fun h=>dJ r (List.mem_of_mem_take h)) fun h=>(List.mem_cons.1 h).elim (fun e=>e▸hx) fun h=>dJ r (List.mem_of_mem_drop h)
    have nO:(l.take i++x::l.drop i).flatten.map some=(l.take i).flatten.map some++([x]:List (List AV)).flatten.map some++(l.drop i).flatten.map some:=by simp
    refine aJ fun I a w hs=>?_
    refine hs.o (pP (hi:=l.length+1) cM bt .tt .tt (by omega) (by omega) (by omega)) fun hs=>?_
    refine cx fun I a w hs=>?_
    refine hs.o (iO (lo:=i+1) cM bt .tt .tt (by omega) (by omega) (by omega)) fun hs=>?_
    refine hs.overlaps (tR:=4) 0 Tryz.func162 rfl (by kernel_rfl) (by kernel_rfl) (by kernel_rfl) cM bt (by decide) .tt (by simp) .tt rfl rfl fun hs=>?_
    refine hs.o .nt fun hs=>nn ?_
    refine hs.cd (fun aI=>?_) fun aI=>?_
    ·skip
     refine wp_seq ?_
     refine hs.dp 8 (by kernel_rfl) (by kernel_rfl) (by kernel_rfl) ?_
     simp only[List.take_succ_cons,List.take_zero,List.drop_succ_cons,List.drop_zero]
     refine de ?_
     refine .o (iO (lo:=i+1) cM bt .tt .tt (by omega) (by omega) (by omega)) ?_
     refine cq ?_
     refine .o (iO (lo:=i) cM bt .tt .tt rfl (by omega) (by omega)) ?_
     refine .nil ?_
     intro I a w hs
     refine hs.tP (xs:=(l.drop i).flatten) 0 0 cM bt .tt .tt rfl rfl (by rw[List.append_assoc,sj _ (by simp only[List.length_map,hA];omega)];exact ja _ (List.length_map _)) (by rw[hB];congr 1;omega) (by simp only[List.length_append,List.length_map,List.length_replicate,hA,hB];omega) rfl fun hs=>?_
     refine ai fun I a w hs=>?_
     refine hs.o (iO (lo:=i) cM bt .tt .tt rfl (by omega) (by omega)) fun hs=>?_
     refine hs.m fun hs=>?_
     refine hs.tO 0 cM bt .tt .tt rfl (by simp) (by simp only[List.length_singleton];omega) (by rw[jC (by simp only[List.length_map,List.length_append,List.length_replicate,hA,hB];omega)];simp only[List.length_singleton,List.length_append,List.length_map,List.length_replicate,hA,hB];omega) rfl fun hs=>?_
     rw[BF (by simp only[List.length_map,hA];omega) (by simp only[List.length_map,ff];omega) (by simp only[List.length_map,List.length_replicate,ff];omega)] at hs
     have hs:=hs.pO (l:=l.take i++x::l.drop i) (cap:=cap) 0 rfl (by simp only[List.length_append,List.length_map,List.length_drop,List.length_replicate,hA,hB,ff];omega) kz (by omega) (by omega) (by omega) (by rw[nO,hlen];exact ja _ (by simp only[List.length_append,List.length_map,hA,hB,ff];omega))
     rw[show l.length+1=(l.take i++x::l.drop i).length by omega] at hs
     obtain⟨I,hs⟩:=hs.fr 0 0
     have hs:=hs.drop 0
     refine ai fun I a w hs=>?_
     refine nn<|wp_ret<|aE ?_
     exact hs.pQ rfl (.cons (by first|exact .t rfl|exact .nil rfl) .nil) rfl rfl
    ·exfalso;simp at aI
     skip
theorem sN (v:aK) (h:v.aS.length≤1048576):
 Fn Tryz.prog 129 [v.av] (v.av):=by
 refine Fn.intro 8 Tryz.func129 rfl Tryz.ntmps129 rfl (by kernel_rfl) (fun W I a hs=>?_)
 refine sr<|hs.box rfl .tt fun b1 I a w hs=>hs.alloc rfl bt dO fun b2 I a w hs=>?_
 refine ai fun I a w hs=>?_
 refine hs.o (.cl (qe v.aS h)) fun hs=>?_
 refine aJ fun I a w hs=>?_
 refine nn<|wp_ret ?_
 refine hs.ret rfl (.cons (.s 1 bt rfl rfl (by first|rfl|assumption)) aU.nil) ?_
 rfl
theorem sO (l:List aK) (h:l.length≤1048576) (hd:∀v∈l,v.aS.length≤1048576):
 jo Tryz.prog 85 [cv l] 100 7 (l.map aK.cells):=by
 refine jo.intro 19 Tryz.func85 rfl Tryz.ntmps85 rfl (by kernel_rfl) (fun W I a hs=>?_)
 have hs:=hs.fi (sz:=7) 100
 refine aW fun I a w hs=>?_
 refine nn<|wp_block ?_
 refine St.lo (σ:=Nat×Value) (3::(5::(run 10 8 []))) ⟨fun⟨k,v⟩=>[(8,AV.int k),(3,AV.val v)],fun⟨k,v⟩=>[Own.row v 100 7 ((l.take k).map aK.cells)],fun⟨k,v⟩=>k≤l.length⟩ (fun⟨k,v⟩=>l.length-k) (0,.slice none 0 0) hs ?aN ?aO
 case aN=>exact Nat.zero_le _
 case aO=>
  rintro⟨k,v⟩ I a w al hs
  have hk:k≤l.length:=al
  dsimp only at hs
  refine az fun I a w hs=>?_
  refine nn<|wp_seq ?_
  refine hs.cd (fun ae=>?_) fun ae=>?_
  ·try simp only[B] at ae
   refine ai fun I a w hs=>?_
   refine hs.alloc rfl bt dO fun b5 I a w hs=>?_
   refine hs.sb 1 fun hs=>?_
   obtain⟨I,hs⟩:=hs.fb 1 5
   refine ai fun I a w hs=>?_
   refine hs.o (.c1 (sN (ab l k) (hd _ (bx ae)))) fun hs=>?_
   refine hs.o (.li [(ab l k).cells] jD (.u .nil)) fun hs=>?_
   refine hs.append 0 rfl cM bt rfl .tt .r rfl (by simp;omega) fun wJ a w hs=>?_
   rw[ck,←dL ae] at hs
   refine aB fun I a w hs=>?_
   refine nn ?_
   have hs:=hs.drop 1
   exact hs.ag (k+1,wJ) (ae)
  ·try simp only[B] at ae
   refine wp_exit<|aF<|aF<|aY ?_
   refine ai fun I a w hs=>?_
   refine nn<|wp_ret ?_
   exact hs.vN (r:=2) 0 rfl rfl rfl (by rw[List.take_of_length_le (by omega)])
theorem CB (l:List aK) (v:aK) (h:l.length≤1048575) (hd:∀u∈l,u.aS.length≤1048576) (hv:v.aS.length≤1048576):
 Fn Tryz.prog 86 [cv l,v.av] (cv (eE l v)):=by
 refine Fn.intro 29 Tryz.func86 rfl Tryz.ntmps86 rfl (by kernel_rfl) (fun W I a hs=>?_)
 refine aB fun I a w hs=>?_
 refine nn<|wp_seq<|wp_block ?_
 refine St.lo (σ:=Nat) (run 17 5 []) ⟨fun k=>[(5,AV.int k)],fun k=>[],fun k=>k≤l.length∧∀i,i<k→fE (ab l i) v=true⟩ (fun k=>l.length-k) 0 hs ?aN ?aO
 case aN=>exact⟨Nat.zero_le _,fun i hi=>by omega⟩
 case aO=>
  rintro k I a w al hs
  obtain⟨hk,aT⟩:=al
  refine wp_seq<|wp_seq<|hs.dk ?_
  refine tQ ?_
  refine .q .T (.cl (l4 ..)) ?_
  refine bz ?_
  refine .q .T (.cl (l4 ..)) ?_
  refine .q .T (.cl (yv ..)) ?_
  refine bz ?_
  refine .nil ?_
  intro I a w hs
  refine aG ?_
  refine hs.cd (fun ae=>?_) fun ae=>?_
  ·try simp only[B] at ae
   refine aB fun I a w hs=>?_
   refine wpList_nil<|eI<|aG ?_
   exact hs.ag (k+1) (⟨by omega,fun i h1=>by rcases Nat.lt_succ_iff_lt_or_eq.1 h1 with h|h;exact aT i h;rw[h];exact ae.2⟩)
  ·try simp only[B] at ae
   refine wp_exit<|aF<|aF<|aY<|aG<|wp_seq ?_
   refine hs.mG 6 (by kernel_rfl) (by kernel_rfl) (by kernel_rfl) ?_
   simp only[List.take_succ_cons,List.take_zero,List.drop_succ_cons,List.drop_zero]
   refine bz ?_
   refine fl.mI (sO l (by omega) hd) (aw .r aP) ?_
   refine cq ?_
   refine .o (.c1 (sN v hv)) ?_
   refine .o (.li [v.cells] jD (.u .nil)) ?_
   refine .nil ?_
   intro I a w hs
   obtain⟨yW,hs⟩:=hs.yd (d:=23)
   refine hs.dZ [0] (QG _ (l.map aK.cells) v.cells k (by rw[List.length_map];exact hk) (by rw[List.length_map];omega) (fun r hr=>by obtain⟨u,_,rfl⟩:=List.mem_map.1 hr;rfl) rfl) (aw .tt (aw .tt (aw .tt aP))) rfl (by decide) rfl fun I a w hs=>?_
   refine hs.s fun hs=>nn<|wp_ret ?_
   refine hs.rt ?_
   exact congrArg (AV.rows 7) (by rw[←It hk aT (fun hl=>by rcases ae with h|h;omega;exact h),List.map_append,List.map_cons,List.map_take,List.map_drop])
theorem rm {l:List aK} (h:cg l=true):∀v∈l,v.aS.length≤6:=fun v hv=>gm (jE (gA h v hv)).2.2
theorem QH {l out:List aK} (h1:∀v∈l,v.aS.length≤6) (h2:∀v∈out,v.aS.length≤6):∀v∈l.foldl iS out,v.aS.length≤6:=fun v hv=>(CA hv).elim (h1 v) (h2 v)
theorem gB {l:List ar} (h:fe l=true):l.length≤80:=by
 unfold fe at h
 rw[Bool.and_eq_true,decide_eq_true_eq] at h;exact h.1
set_option maxHeartbeats 4000000 in
theorem QI (l:List aK) (v:aK) (h:l.length≤1048575) (hd:∀u∈l,u.aS.length≤1048576) (hv:v.aS.length≤1048576):
 Fn Tryz.prog 191 [cv l,v.av] (cv (nN l v)):=by
 refine Fn.intro 46 Tryz.func191 rfl Tryz.ntmps191 rfl (by kernel_rfl) (fun W I a hs=>?_)
 refine ai fun I a w hs=>?_
 refine nn<|sr ?_
 refine hs.cT rfl cM bt (by decide) fun b8 I a w hs=>?_
 refine aB fun I a w hs=>?_
 refine nn<|wp_block ?_
 refine St.lo (σ:=Nat×Bool×List aK×Value) (run 3 5 (run 29 9 [])) ⟨fun⟨k,done,out,u⟩=>[(7,AV.int k),(6,AV.bool done),(5,AV.val u)],fun⟨k,done,out,u⟩=>[Own.row u 100 7 (out.map aK.cells)],fun⟨k,done,out,u⟩=>kx l v k done out⟩ (fun⟨k,done,out,u⟩=>l.length-k) (0,false,[],.slice (some ⟨b8,0,none⟩) 0 0) hs ?aN ?aO
 case aN=>exact kx.zero l v
 case aO=>
  rintro⟨k,done,out,u⟩ I a w al hs
  have hp:kx l v k done out:=al
  have hk:=hp.hk
  have gf:=hp.len
  have nr:done.toNat≤1:=by cases done<;>simp
  dsimp only at hs
  refine aJ fun I a w hs=>?_
  refine nn ?_
  refine hs.cd (fun ae=>?_) fun ae=>?_
  ·try simp only[B] at ae
   refine wp_skip<|aG<|wp_seq<|wp_block<|wp_seq<|wp_seq<|hs.dk ?_
   refine mJ ?_
   refine .q .T (.cl (Hb ..)) ?_
   refine bz ?_
   refine .nil ?_
   intro I a w hs
   refine aG ?_
   refine hs.cd (fun ah=>?_) fun ah=>?_
   ·try simp only[B] at ah
    refine ai fun I a w hs=>?_
    refine hs.o (.c1 (mN v hv)) fun hs=>?_
    refine hs.o (.li [v.cells] jD (.u .nil)) fun hs=>?_
    refine hs.append 0 rfl cM bt rfl .tt .r rfl (by simp;omega) fun uq a w hs=>?_
    rw[ck] at hs
    refine dq fun I a w hs=>?_
    refine hs.o (.c1 (mN (ab l k) (hd _ (bx ae)))) fun hs=>?_
    refine hs.o (.li [(ab l k).cells] jD (.u .nil)) fun hs=>?_
    refine hs.append 0 rfl cM bt rfl .tt .r rfl (by simp;omega) fun wL a w hs=>?_
    rw[ck] at hs
    refine aJ fun I a w hs=>?_
    refine nn ?_
    exact hs.ag (k+1,true,(out++[v])++[ab l k],wL) (by obtain⟨h1,h2⟩:=ah;subst h1;exact hp.before ae h2)
   ·try simp only[B] at ah
    refine aW fun I a w hs=>?_
    refine hs.o (.c1 (mN (ab l k) (hd _ (bx ae)))) fun hs=>?_
    refine hs.o (.li [(ab l k).cells] jD (.u .nil)) fun hs=>?_
    refine hs.append 0 rfl cM bt rfl .tt .r rfl (by simp;omega) fun wL a w hs=>?_
    rw[ck] at hs
    refine aJ fun I a w hs=>?_
    refine nn ?_
    exact hs.ag (k+1,done,out++[ab l k],wL) (hp.step ae (by simpa using ah))
  ·try simp only[B] at ae
   refine wp_exit<|aF<|aF<|aY ?_
   refine ai fun I a w hs=>?_
   refine nn ?_
   refine hs.cd (fun aj=>?_) fun aj=>?_
   ·try simp only[B] at aj
    refine ai fun I a w hs=>?_
    refine hs.o (.c1 (mN v hv)) fun hs=>?_
    refine hs.o (.li [v.cells] jD (.u .nil)) fun hs=>?_
    refine hs.append 0 rfl cM bt rfl .tt .r rfl (by simp;omega) fun rj a w hs=>?_
    rw[ck] at hs
    refine aB fun I a w hs=>?_
    refine nn<|wp_ret ?_
    obtain⟨I,hs⟩:=hs.fr 0 4
    refine hs.rt ?_
    exact congrArg (AV.rows 7) (by subst aj;exact hp.p4 (by omega)▸rfl)
   ·try simp only[B] at aj
    refine ai fun I a w hs=>?_
    refine nn<|wp_ret ?_
    obtain⟨I,hs⟩:=hs.fr 0 4
    refine hs.rt ?_
    exact congrArg (AV.rows 7) (by subst aj;rw[hp.pZ (by omega)])
end Go.Proofs.YtoeioeimmfpefaaGreat

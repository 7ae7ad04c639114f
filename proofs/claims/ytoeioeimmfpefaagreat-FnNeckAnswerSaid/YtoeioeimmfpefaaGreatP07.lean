/- Part 7: rules of the proofs, contracts of functions, plain facts. -/
import Derived.Lib.ItoaNum
import Derived.Laws.BytesString
import Derived.Laws.DeepStrings4
import Derived.Lib.SlBytesRow
import Derived.Lib.Strings
import Derived.Lib.ItoaLen
import Derived.Test.YtoeioeimmfpefaaGreatP05
import Derived.Test.YtoeioeimmfpefaaGreatP06
set_option linter.unusedVariables false
set_option linter.unusedSimpArgs false
namespace Go.Proofs.YtoeioeimmfpefaaGreat
open Go Go.RowKit
structure ct where
 time:Int
 site:Int
deriving DecidableEq,Inhabited
structure ar where
 key:Int
 aA:ct
deriving DecidableEq,Inhabited
structure aK where
 key:Int
 aA:ct
 val:Int
 aC:Int
 call:Int
 aS:List ar
deriving DecidableEq,Inhabited
structure aD where
 kind:Int
 bc:Int
 to:Int
 call:Int
 key:Int
 aA:ct
 val:Int
 yes:Bool
 aS:List ar
 slot:Int
 bO:Int
 aq:List aK
 waits:List aK
 aH:List ar
deriving DecidableEq,Inhabited
structure dt where
 bO:Int
 er:Int
deriving DecidableEq,Inhabited
structure Server where
 site:Int
 up:Bool
 aR:List dt
 aq:List aK
 waits:List aK
 aH:List ar
 bq:List ar
deriving DecidableEq,Inhabited
structure Answer where
 key:Int
 yes:Bool
 bG:aK
deriving DecidableEq,Inhabited
structure Call where
 aC:Int
 num:Int
 kind:Int
 keys:List Int
 val:Int
 ctx:List ar
 bm:Int
 end_:Int
 over:Bool
 aA:ct
 ax:List Answer
 aM:List ar
deriving DecidableEq,Inhabited
structure be where
 time:Int
 au:List Server
 ao:List aD
 calls:List Call
 seen:List (List ar)
deriving DecidableEq,Inhabited
structure Ev where
 kind:Int
 at_:Int
 aC:Int
 word:Int
 fN:Int
 slot:Int
 call:Int
 a:Int
 b:Int
 c:Int
 val:Int
deriving DecidableEq,Inhabited
def ct.cells (s:ct):List AV:=[.int s.time,.int s.site]
def ar.cells (d:ar):List AV:=[.int d.key,.int d.aA.time,.int d.aA.site]
def bl (l:List ar):AV:=.rows 3 (l.map ar.cells)
def aK.cells (v:aK):List AV:=[.int v.key,.int v.aA.time,.int v.aA.site,.int v.val,.int v.aC,.int v.call,bl v.aS]
def cv (l:List aK):AV:=.rows 7 (l.map aK.cells)
def aD.cells (w:aD):List AV:=[.int w.kind,.int w.bc,.int w.to,.int w.call,.int w.key,.int w.aA.time,.int w.aA.site,.int w.val,.bool w.yes,bl w.aS,.int w.slot,.int w.bO,cv w.aq,cv w.waits,bl w.aH]
def bj (l:List aD):AV:=.rows 15 (l.map aD.cells)
def dt.cells (s:dt):List AV:=[.int s.bO,.int s.er]
def qJ (l:List dt):AV:=.rows 2 (l.map dt.cells)
def Server.cells (s:Server):List AV:=[.int s.site,.bool s.up,qJ s.aR,cv s.aq,cv s.waits,bl s.aH,bl s.bq]
def bK (l:List Server):AV:=.rows 7 (l.map Server.cells)
def Answer.cells (a:Answer):List AV:=[.int a.key,.bool a.yes,.int a.bG.key,.int a.bG.aA.time,.int a.bG.aA.site,.int a.bG.val,.int a.bG.aC,.int a.bG.call,bl a.bG.aS]
def oq (l:List Answer):AV:=.rows 9 (l.map Answer.cells)
def xU (k:Int):List AV:=[.int k]
def gh (l:List Int):AV:=.rows 1 (l.map xU)
def Call.cells (c:Call):List AV:=[.int c.aC,.int c.num,.int c.kind,gh c.keys,.int c.val,bl c.ctx,.int c.bm,.int c.end_,.bool c.over,.int c.aA.time,.int c.aA.site,oq c.ax,bl c.aM]
def bE (l:List Call):AV:=.rows 13 (l.map Call.cells)
def ey (l:List ar):List AV:=[bl l]
def bI (l:List (List ar)):AV:=.rows 1 (l.map ey)
def be.cells (w:be):List AV:=[.int w.time,bK w.au,bj w.ao,bE w.calls,bI w.seen]
def Ev.cells (e:Ev):List AV:=[.int e.kind,.int e.at_,.int e.aC,.int e.word,.int e.fN,.int e.slot,.int e.call,.int e.a,.int e.b,.int e.c,.int e.val]
def FR (l:List Ev):AV:=.rows 11 (l.map Ev.cells)
def ct.av (s:ct):AV:=.agg s.cells
def ar.av (s:ar):AV:=.agg s.cells
def aK.av (s:aK):AV:=.agg s.cells
def aD.av (s:aD):AV:=.agg s.cells
def dt.av (s:dt):AV:=.agg s.cells
def Server.av (s:Server):AV:=.agg s.cells
def Answer.av (s:Answer):AV:=.agg s.cells
def Call.av (s:Call):AV:=.agg s.cells
def be.av (s:be):AV:=.agg s.cells
def Ev.av (s:Ev):AV:=.agg s.cells
end Go.Proofs.YtoeioeimmfpefaaGreat
set_option linter.unusedVariables false
set_option linter.unusedSimpArgs false
namespace Go.Proofs.YtoeioeimmfpefaaGreat
def c8 (n:Int):Prop:=-9223372036854775808≤n∧n≤9223372036854775807
def aQ (n low high:Int):Bool:=decide (low≤n)&&decide (n≤high)
def cJ (n:Int):Bool:=aQ n 0 3
def cU (n:Int):Bool:=aQ n 0 5
def eC (n:Int):Bool:=aQ n 0 1
def c6 (s:ct):Bool:=aQ s.time 1 9999&&cJ s.site
def cY (a b:ct):Bool:=decide (a.time<b.time)||(a.time==b.time&&decide (a.site<b.site))
def dR (s:ct):Bool:=s.time==0&&s.site==0
def jz (s:ct):Bool:=dR s||c6 s
def bV (n:Int):Int:=if cJ n then n/2 else-1
def dD (a b:ar):Bool:=decide (a.key<b.key)||(a.key==b.key&&cY a.aA b.aA)
def db (last:Int):List ar→Bool
 |[]=>true
 |d::r=>aQ d.key (last+1) 5&&c6 d.aA&&db d.key r
def bT (l:List ar):Bool:=db (-1) l
def cO (n:Nat) (f:Nat→Bool):Bool:=decide (∀i,i<n→f i=true)
theorem eJ {n k:Nat} {f:Nat→Bool} (h:∀i,i<k→f i=true) (hk:n≤k):cO n f=true:=by
 simp only[cO,decide_eq_true_eq];exact fun i hi=>h i (by omega)
theorem eP {n k:Nat} {f:Nat→Bool} (hk:k<n) (h:f k=false):cO n f=false:=by
 simp only[cO,decide_eq_false_iff_not];exact fun hh=>by rw[hh k hk] at h;cases h
theorem fD {k:Nat} {f:Nat→Bool} (h:∀i,i<k→f i=true) (hf:f k=true):∀i,i<k+1→f i=true:=fun i hi=>by
 by_cases e:i=k
 ·subst e;exact hf
 ·exact h i (by omega)
theorem iy {n:Nat} {f:Nat→Bool}:cO n f=true↔∀i,i<n→f i=true:=by simp[cO]
theorem vD {n m:Nat} {f g:Nat→Bool} (hn:n=m) (h:∀i,i<n→f i=g i):cO n f=cO m g:=by
 subst hn
 rw[Bool.eq_iff_iff,iy,iy]
 exact⟨fun k i hi=>by rw[←h i hi];exact k i hi,fun k i hi=>by rw[h i hi];exact k i hi⟩
def ee {α:Type} [Inhabited α] (eD:α→Bool) (less:α→α→Bool) (l:List α) (k:Nat):Bool:=eD (ab l k)&&(decide (k=0)||less (ab l (k-1)) (ab l k))
theorem qK {α:Type} [Inhabited α] (eD:α→Bool) (less:α→α→Bool) (l:List α) (k:Nat):
 (!eD (ab l k)||(decide (0<(k:Int))&&!less (ab l ((k:Int)-1).toNat) (ab l k)))=!ee eD less l k:=by
 rw[show((k:Int)-1).toNat=k-1 from by omega]
 unfold ee
 rcases Nat.eq_zero_or_pos k with rfl|h
 ·simp
 ·have h2:k≠0:=by omega
  have h3:0<k:=h
  simp[h2,h3]
def FT (t:Int) (l:List ar):Bool:=cO l.length fun i=>decide ((ab l i).aA.time<t)
def et (v:aK):Bool:=cU v.key&&c6 v.aA&&aQ v.val 0 9999&&eC v.aC&&aQ v.call 1 99&&bT v.aS&&FT v.aA.time v.aS
def aK.bH (v:aK):ar:=⟨v.key,v.aA⟩
def fE (a b:aK):Bool:=dD a.bH b.bH
def cg (l:List aK):Bool:=decide (l.length≤80)&&cO l.length (ee et fE l)
def jA (d:ar):Bool:=cU d.key&&c6 d.aA
def fe (l:List ar):Bool:=decide (l.length≤80)&&cO l.length (ee jA dD l)
def j7 (n:Int):Bool:=cJ n||aQ n 10 11
def bN (w:aD):Bool:=
 aQ w.kind 1 10&&j7 w.bc&&j7 w.to&&aQ w.call 0 99&&cU w.key&&jz w.aA&&aQ w.val 0 9999&&bT w.aS&&aQ w.slot 0 2&&aQ w.bO 0 9999&&
  cg w.aq&&cg w.waits&&fe w.aH
def gx (key:Int):Int:=if cU key then key*3/6 else-1
open Go
def dec (n:Int):List UInt8:=Lib.itoa n
def written (n:Int):Bool:=aQ n 0 99999
def Ev.ints (e:Ev):List Int:=[e.kind,e.at_,e.aC,e.word,e.fN,e.slot,e.call,e.a,e.b,e.c,e.val]
def Ev.Fit (e:Ev):Prop:=∀x∈e.ints,c8 x
def Nx (ns:List Int):List UInt8:=(ns.map fun n=>32::dec n).flatten
structure Form where
 word:List UInt8
 ev:Ev
 FU:List Nat
deriving DecidableEq,Inhabited
def Form.FV (f:Form) (e:Ev):List Int:=f.FU.map fun o=>e.ints.getD o 0
def Form.made (f:Form) (e:Ev):List Int:=f.FU.foldl (fun m o=>m.set o (e.ints.getD o 0)) f.ev.ints
def Form.write (f:Form) (e:Ev):List UInt8:=if(f.FV e).all written&&decide (f.made e=e.ints) then f.word++Nx (f.FV e)++[10] else[]
end Go.Proofs.YtoeioeimmfpefaaGreat
set_option linter.unusedVariables false
set_option linter.unusedSimpArgs false
namespace Go.Proofs.YtoeioeimmfpefaaGreat
open Go Go.RowKit
abbrev AV.u8 (n:Int):AV:=.val (.int .u8 n)
abbrev AV.byte (x:UInt8):AV:=.u8 (x.toNat:Int)
section
variable {P:Program} {H:List Own} {Γ:Env} {g:Bool} {d:Option Tmp} {y z z':Operand} {ty T T' E:TypeId} {p:String} {af:Array Edge} {gd:Option (Nat×Bool)} {n m:Nat} {zv:Value} {k k':List UInt8}
theorem Bb {m:Int} (hT:(P.underlying T).isSome=true) (Ny:P.underlying T'=some (.int .i64)) (hy:At Γ g y (.u8 m)) (hb:g=true→0≤m∧m≤255):Ok P H Γ g ⟨d,.convert T T' y,ty,p,af,gd⟩ (.int m):=
 fR fun I a w he hg=>by
  have h1:a.eval y=.int .u8 m:=hy I a he hg
  obtain⟨b0,b1⟩:=hb hg
  have h3:IntKind.i64.wrap m=m:=IntWalk.i64_in _ ⟨by omega,by omega⟩
  simp only[execOp,h1]
  simp[go_sem,hT,Ny,h3]
end
section
variable {P:Program} {c:Ctx} {I:Im} {H:List Own} {Γ:Env} {a:Act} {w:World} {Q:Exit→Act→World→Prop}
theorem FW {S:Nat→Bool}:∀{k:Nat} {os:List Oper} {xs:List AV},made S a k os (xs.map fun x=>(x,none))=[]
 |_,[],xs=>by unfold made;rfl
 |_,_::_,[]=>by simp[made]
 |k,o::os,x::xs=>by simp only[List.map_cons,made];exact FW
theorem j4.FX {ops:Array Oper}:∀{Γ:Env} {os:List Oper} {xs:List AV},j4 P H ops Γ os xs→qI P H ops Γ os (xs.map fun x=>(x,none))
 |_,[],[],_=>trivial
 |_,_::_,_::_,h=>⟨h.1.r,j4.FX h.2⟩
 |_,[],_::_,h=>h.elim
 |_,_::_,[],h=>h.elim
def lT (P:Program) (c:Ctx) (H:List Own) (ops:Array Oper) (Q:Exit→Act→World→Prop) (tail:List Oper) (Γ:Env) (os:List Oper):Prop:=
 ∃xs,j4 P H ops Γ os xs∧∀I' a' w',St c I' H (lK Γ os xs) a' w'→wpList P ops Q tail a' w'
theorem lT.nil {ops:Array Oper} {tail:List Oper} (k:∀I' a' w',St c I' H Γ a' w'→wpList P ops Q tail a' w'):lT P c H ops Q tail Γ []:=⟨[],trivial,k⟩
theorem lT.cons {ops:Array Oper} {tail:List Oper} {o:Oper} {os:List Oper} {x:AV} (h:lJ P H ops (Γ.only (o.looksAt ops)) o x) (k:lT P c H ops Q tail ((o.dst.getD 0,x)::Γ) os):lT P c H ops Q tail Γ (o::os):=
 let⟨xs,h1,h2⟩:=k;⟨x::xs,⟨h,h1⟩,h2⟩
theorem St.Nz {id:Nat} (pre tail:List Oper) (hs:St c I H Γ a w) (hm:P.follows .mixedOrders=true) (dx:lR pre tail=true) (hd:(pre.all fun o=>Nat.blt (o.dst.getD 0) c.n)=true)
 (run:lT P c H (pre++tail).toArray Q tail Γ pre):(Code.region id (pre++tail).toArray true).wp P Q a w:=by
 obtain⟨xs,run,k⟩:=run
 refine wp_region_any hm ?_
 have e0:(xs.map fun x=>(x,(none:Mk))).map (·.1)=xs:=by rw[List.map_map];exact List.map_id xs
 obtain⟨hlen,eS⟩:=qI.at (Γ0:=Γ) pre (xs.map fun x=>(x,none)) 0 [] (by simpa[c5] using run.FX) (fun e he=>by simp at he)
 have hf:∀i:Nat,(Array.replicate (pre++tail).length false).getD i false=false:=fun i=>by
  rw[Array.getD_eq_getD_getElem?,Array.getElem?_replicate];split<;>rfl
 have xV:∀(S:Nat→Bool) (a:Act),made S a 0 pre (xs.map fun x=>(x,(none:Mk)))=[]:=fun S a=>FW
 have:=FN (P:=P) (c:=c) (H:=H) (Γ:=Γ) (Q:=Q) dx hlen (by simpa using hd) (fun i o x ho hx=>by simpa using eS i o x ho hx) (fun I' a' w' h=>by
  rw[e0,xV,List.append_nil,←xF] at h;exact k I' a' w' h) (pre++tail).length (Array.replicate (pre++tail).length false) I a {w with drawn:=w.drawn+1} (by simp)
  (by simpa using List.length_filter_le _ (List.range (pre++tail).length)) (fun i hi h=>by rw[hf] at h;cases h) (fun i o ho hi=>by rw[hf] at hi;cases hi) (by
    have he:(dj 0 pre ((xs.map fun x=>(x,(none:Mk))).map (·.1))).reverse.filter (fun e=>(Array.replicate (pre++tail).length false).getD e.1 false)=[]:=by
     rw[List.filter_eq_nil_iff];intro e _;rw[hf];simp
    rw[he,xV,List.append_nil]
    exact⟨⟨hs.step.le,hs.step.eB,hs.step.cE,hs.step.below.drew⟩,⟨fun o ho=>⟨o.fN I I w _ (Im.le_refl I) (fun _ _=>rfl) (hs.own.all o ho).1,(hs.own.all o ho).2⟩,hs.own.nodup⟩,hs.env,hs.size,hs.defers⟩)
 simpa using this
def lU (T:TypeId) (l:List AV):Value→Own
 |.pointer (some ⟨b,0,none⟩)=>Own.box b T l
 |_=>Own.gone
def AV.r8:AV:=⟨fun _ v=>∃b,v=.pointer (some ⟨b,0,none⟩),fun _ _ _ _ h=>h⟩
def fl (P:Program) (c:Ctx) (H:List Own) (ops:Array Oper) (Q:Exit→Act→World→Prop) (tail:List Oper) (M:Act→List Own) (k:Nat) (Γ:Env) (os:List Oper):Prop:=
 ∃xs,qI P H ops Γ os xs∧∀I' a' w',St c I' (H++(M a'++made (fun _=>true) a' k os xs)) (lK Γ os (xs.map (·.1))) a' w'→wpList P ops Q tail a' w'
theorem fl.nil {ops:Array Oper} {tail:List Oper} {M:Act→List Own} {k:Nat} (h:∀I' a' w',St c I' (H++M a') Γ a' w'→wpList P ops Q tail a' w'):fl P c H ops Q tail M k Γ []:=
 ⟨[],trivial,fun I' a' w' hs=>h I' a' w' (by simpa[made,lK] using hs)⟩
theorem fl.cons {ops:Array Oper} {tail:List Oper} {M:Act→List Own} {k:Nat} {o:Oper} {os:List Oper} {x:AV} (h:lJ P H ops (Γ.only (o.looksAt ops)) o x) (r:fl P c H ops Q tail M (k+1) ((o.dst.getD 0,x)::Γ) os):fl P c H ops Q tail M k Γ (o::os):=
 let⟨xs,h1,h2⟩:=r
 ⟨(x,none)::xs,⟨h.r,h1⟩,fun I' a' w' hs=>h2 I' a' w' (by simpa[made,lK] using hs)⟩
theorem fl.alloc {ops:Array Oper} {tail:List Oper} {M:Act→List Own} {k d:Nat} {os:List Oper} {T ty:TypeId} {p:String} {af:Array Edge} {ag:Bool} {n m:Nat} {zv:Value} {l:List AV} (hT:Ty P T ag n m zv) (hz:∀I,bD I l zv.cells.toList)
 (r:fl P c H ops Q tail (fun a=>M a++[lU T l (a.tmps.getD d undef)]) (k+1) ((d,AV.r8)::Γ) os):fl P c H ops Q tail M k Γ (⟨some d,.alloc T,ty,p,af,none⟩::os):=by
 obtain⟨xs,h1,h2⟩:=r
 refine⟨(AV.r8,some (lU T l))::xs,⟨?_,h1⟩,fun I' a' w' hs=>h2 I' a' w' (by simpa[made,lK] using hs)⟩
 intro base I a w K Q he hm hw kk
 rw[if_pos (by simp[Region.wanted])]
 unfold Oper.wp
 have vr:(zeroValue T).run P w=.ok zv w:=hT.zero
 simp only[execOp,Instr.alloc,Sem.run_bind,vr,Result.andThen_ok,vp,Sem.run_pure,Oper.upon_value]
 refine kk _ I _ ⟨_,rfl⟩ (Step.alloc hm _) fun f hf=>?_
 cases hf
 refine⟨⟨_,qC w _,hz I⟩,fun b hb=>?_⟩
 cases hb
 exact⟨Nat.le_refl _,hm.none (Nat.le_refl _),by simp⟩
theorem St.NA {id:Nat} (pre tail:List Oper) (hs:St c I H Γ a w) (hm:P.follows .mixedOrders=true) (dx:lR pre tail=true) (hd:(pre.all fun o=>Nat.blt (o.dst.getD 0) c.n)=true)
 (run:fl P c H (pre++tail).toArray Q tail (fun _=>[]) 0 Γ pre):(Code.region id (pre++tail).toArray true).wp P Q a w:=by
 obtain⟨xs,run,k⟩:=run
 refine wp_region_any hm ?_
 obtain⟨hlen,eS⟩:=qI.at (Γ0:=Γ) pre xs 0 [] (by simpa[c5] using run) (fun e he=>by simp at he)
 have hf:∀i:Nat,(Array.replicate (pre++tail).length false).getD i false=false:=fun i=>by
  rw[Array.getD_eq_getD_getElem?,Array.getElem?_replicate];split<;>rfl
 have xV:∀(a:Act),made (fun i=>(Array.replicate (pre++tail).length false).getD i false) a 0 pre xs=[]:=fun a=>by
  rw[qH (S':=fun _=>false) fun i o x f _ _=>hf _]
  have key:∀(k:Nat) (os:List Oper) (xs:List (AV×Mk)),made (fun _=>false) a k os xs=[]:=by
   intro k os
   induction os generalizing k with
   |nil=>intro xs;unfold made;rfl
   |cons o os ih=>
    intro xs
    cases xs with
    |nil=>simp[made]
    |cons x xs=>
     obtain⟨x,r⟩:=x
     cases r with
     |none=>simp only[made];exact ih _ _
     |some f=>simp only[made,cond_false];exact ih _ _
  exact key _ _ _
 have:=FN (P:=P) (c:=c) (H:=H) (Γ:=Γ) (Q:=Q) dx hlen (by simpa using hd) (fun i o x ho hx=>by simpa using eS i o x ho hx) (fun I' a' w' h=>by
  rw[←xF] at h;exact k I' a' w' (by simpa using h)) (pre++tail).length (Array.replicate (pre++tail).length false) I a {w with drawn:=w.drawn+1} (by simp)
  (by simpa using List.length_filter_le _ (List.range (pre++tail).length)) (fun i hi h=>by rw[hf] at h;cases h) (fun i o ho hi=>by rw[hf] at hi;cases hi) (by
    have he:(dj 0 pre (xs.map (·.1))).reverse.filter (fun e=>(Array.replicate (pre++tail).length false).getD e.1 false)=[]:=by
     rw[List.filter_eq_nil_iff];intro e _;rw[hf];simp
    rw[he,xV,List.append_nil]
    exact⟨⟨hs.step.le,hs.step.eB,hs.step.cE,hs.step.below.drew⟩,⟨fun o ho=>⟨o.fN I I w _ (Im.le_refl I) (fun _ _=>rfl) (hs.own.all o ho).1,(hs.own.all o ho).2⟩,hs.own.nodup⟩,hs.env,hs.size,hs.defers⟩)
 simpa using this
theorem St.mG {id:Nat} {l:List Oper} (n:Nat) (hs:St c I H Γ a w) (hm:P.follows .mixedOrders=true) (dx:lR (l.take n) (l.drop n)=true) (hd:((l.take n).all fun o=>Nat.blt (o.dst.getD 0) c.n)=true)
 (run:fl P c H l.toArray Q (l.drop n) (fun _=>[]) 0 Γ (l.take n)):(Code.region id l.toArray true).wp P Q a w:=by
 have e:l.take n++l.drop n=l:=List.take_append_drop n l
 have:=hs.NA (id:=id) (Q:=Q) (l.take n) (l.drop n) hm dx hd (by rw[e];exact run)
 rwa[e] at this
theorem St.qL {d:Nat} {T:TypeId} {l:List AV} (hs:St c I (H++([]++[lU T l (a.tmps.getD d undef)])) Γ a w) (h:Env.get d Γ=some AV.r8):∃b,St c I (H++[Own.box b T l]) ((d,.val (.pointer (some ⟨b,0,none⟩)))::Γ) a w:=by
 obtain⟨b,hb⟩:∃b,a.tmps.getD d undef=.pointer (some ⟨b,0,none⟩):=hs.env d _ h
 rw[hb] at hs
 refine⟨b,hs.step,by simpa[lU] using hs.own,fun t x e=>?_,hs.size,hs.defers⟩
 simp only[Env.get] at e
 cases lh:Nat.beq d t with
 |true=>
  rw[lh] at e;simp only[cond_true] at e;cases e
  obtain rfl:d=t:=Nat.eq_of_beq_eq_true lh
  exact hb
 |false=>rw[lh] at e;exact hs.env t x (by simpa using e)
theorem St.dp {id:Nat} {l:List Oper} (n:Nat) (hs:St c I H Γ a w) (hm:P.follows .mixedOrders=true) (dx:lR (l.take n) (l.drop n)=true) (hd:((l.take n).all fun o=>Nat.blt (o.dst.getD 0) c.n)=true)
 (run:lT P c H l.toArray Q (l.drop n) Γ (l.take n)):(Code.region id l.toArray true).wp P Q a w:=by
 have e:l.take n++l.drop n=l:=List.take_append_drop n l
 have:=hs.Nz (id:=id) (Q:=Q) (l.take n) (l.drop n) hm dx hd (by rw[e];exact run)
 rwa[e] at this
end
theorem jl {f:FuncId} {l:List AV}:(AV.fn f l).One:=fun _ _ ⟨_,e,_⟩=>by rw[e];rfl
end Go.Proofs.YtoeioeimmfpefaaGreat

/- Part 13: contracts of functions, plain facts. -/
import Derived.Test.YtldbakcpcfdlaaaGreatU10
set_option linter.all false
set_option maxRecDepth 100000
set_option maxHeartbeats 4000000
namespace Go.Proofs.YtldbakcpcfdlaaaGreat
open Go Go.RowKit Tryz
attribute [local irreducible] wpList Code.wp Ok
def pC (s:cy):
 Fn prog 190 [s.av] (AV.bool (en s)):=by
 refine Fn.go 6 func190 ntmps190 (λW I a U=>?_);refine aN λI a w U=>?_;refine U.o (.bd kH bU.nil) λU=>?_;refine U.o (ki [_,_] [_,_] jM rfl rfl .tt .tt) λU=>?_;refine an ?_;exact aQ (by simp[en])
def x5 (s:cy):
 Fn prog 147 [s.av] (AV.bool (jD s)):=by
 refine Fn.go 9 func147 ntmps147 (λW I a U=>?_);refine aN λI a w U=>?_;refine U.o (.c1 (pC ..)) λU=>?_;refine aL λI a w U=>?_;refine U.q .F (.cl (pg ..)) λU=>?_;refine bQ ?_;rfl
def ld (v:al):
 Fn prog 132 [v.av] (v.cG.av):=by
 refine Fn.go 8 func132 ntmps132 (λW I a U=>?_);refine aV λI a w U=>?_;refine U.alloc rfl ep gY λb2 I a w U=>?_;refine ax λI a w U=>?_;refine U.o (.bd gY (.k (.t bU.nil))) λU=>?_;refine aq λI a w U=>?_;refine U.ret rfl (.cons (.sx 0) cC.nil) ?_;rfl
def Fm {n:Int} (h:bD n):fE (IntKind.i64.wrap (n-10))=fE (n-10):=by
 obtain⟨h1,h2⟩:=h;by_cases h3:-9223372036854775808<=n-10
 .rw[IntWalk.i64_in _ ⟨h3,by omega⟩]
 have e:IntKind.i64.wrap (n-10)=n-10+18446744073709551616:=by
  simp only[IntKind.wrap];simp[IntKind.signed,IntKind.bits];omega
 rw[e];simp only[fE,aI];rw[Bool.eq_iff_iff];simp;omega
def Fo (d:ay) (v:al):([v.key,v.aE.time,v.aE.site]==[d.key,d.aE.time,d.aE.site])=eX d v:=by
 obtain⟨k,⟨t,s⟩⟩:=d;obtain⟨vk,⟨vt,vs⟩,_,_,_,_⟩:=v;rw[Bool.eq_iff_iff];simp[eX,al.cG,Bool.and_eq_true]
def Fp (v:al) (d:ay):
 Fn prog 219 [v.av,AV.ptr d.cells] (AV.bool (eX d v)):=by
 refine Fn.go 8 func219 ntmps219 (λW I a U=>?_);refine aH λI a w U=>?_;refine U.dk ?_;refine c6 ?_;refine .o (.c1 (ld ..)) ?_;refine c6 ?_;refine .o (ki [_,_,_] [_,_,_] wc rfl rfl .tt .tt) ?_;refine c6 ?_;refine .nil ?_;intro I a w U;refine zt ?_;refine U.rt ?_;exact aQ (Fo d v)
def missing (l:List al) (d:ay):Bool:=decide (placeOf l d<0)
def pD (l:List al) (ds:List ay):Bool:=!hasB (missing l) ds
def mh (s:Server) (i:Nat):Bool:=jQ s (ae s.ao i).key !=0
def pE (s:Server) (v:al):Bool:=(jQ s v.key !=0)&&(ff v.aE.site !=ff s.site)&&decide (placeOf s.ao v.cG<0)
def mi (s:Server) (i:Nat):Bool:=pE s (ae s.waits i)
def x6 (s:Server) (i:Nat):(jQ s (ae s.ao i).key==0)=!mh s i:=by simp[mh,bne]
def x7 (s:Server) (v:al):((jQ s v.key==0)||!(ff v.aE.site !=ff s.site)||decide (0<=placeOf s.ao v.cG))=!pE s v:=by
 have e:decide (0<=placeOf s.ao v.cG)=!decide (placeOf s.ao v.cG<0):=by rw[Bool.eq_iff_iff];simp
 rw[e];simp[pE,bne]
def x8 (c:Call) (k:Nat):(decide (dp c (ae c.aR k).key<0)||!nw (ae c.aG (dp c (ae c.aR k).key).toNat) (ae c.aR k).aE)=!jk c k:=by
 unfold jk;have e:decide (dp c (ae c.aR k).key<0)=!decide (0<=dp c (ae c.aR k).key):=by rw[Bool.eq_iff_iff];simp
 rw[e];simp
def gL (l:List al) (d:ay):Option al:=if 0<=placeOf l d then some (ae l (placeOf l d).toNat) else none
def Fq {l:List al} {d:ay} {k:Nat} (hk:k<l.length) (h:∀i,i<k->eX d (ae l i)=false) (hp:eX d (ae l k)=true):gL l d=some (ae l k):=by
 have e:placeOf l d=k:=jj hk h hp;unfold gL;rw[e,if_pos om];rfl
def Fs {l:List al} {d:ay} {k:Nat} (hk:l.length<=k) (h:∀i,i<k->eX d (ae l i)=false):gL l d=none:=by
 have e:placeOf l d=-1:=iE hk h;unfold gL;rw[e,if_neg om]
def x9 (l:List al) (d:ay):(gL l d).isSome=decide (0<=placeOf l d):=by
 unfold gL;split<;>simp_all
def Ft (x:Answer) (key:Int):
 Fn prog 322 [x.av,AV.ptr [AV.int key]] (AV.bool (nx key x)):=by
 refine Fn.go 8 func322 ntmps322 (λW I a U=>?_);refine lP λI a w U=>?_;refine U.rt ?_;rfl
def Fu (q:Call) (key:Int):
 Fn prog 284 [q.av,AV.int key] (AV.int (dp q key)):=by
 refine Fn.go 9 func284 ntmps284 (λW I a U=>?_);refine aV λI a w U=>?_;refine U.o (tX .tt (by first|exact bA rfl|exact bE|exact bF|exact bG)) λU=>?_;refine aN λI a w U=>?_;refine U.o (qA (az .tt aP)) λU=>?_;refine U.o (.cl (DS q.aG (nx key) _ (λv _=>Fn.val (Ft v key)))) λU=>?_;refine an ?_;rfl
def Fv (l:List al) (key:Int) (st:cy):
 Fn prog 101 [bN l,AV.int key,st.av] (AV.mo [((gL l ⟨key,st⟩).getD default).av,AV.bool (gL l ⟨key,st⟩).isSome]):=by
 refine Fn.go 36 func101 ntmps101 (λW I a U=>?_);have hle:=U.cB (t:=0) rfl;refine aV λI a w U=>?_;refine U.alloc rfl bK dP λb6 I a w U=>?_;refine aH λI a w U=>?_;refine St.lo (σ:=Nat) (run 28 7 []) ⟨λk=>[(8,AV.int k)],λk=>[Own.box b6 54 [AV.val (.int .i64 0),AV.val (.int .i64 0),AV.val (.int .i64 0),AV.val (.int .i64 0),AV.val (.int .i64 0),AV.val (.int .i64 0),AV.rows 3 []]],λk=>k<=l.length/\∀i,i<k->eX ⟨key,st⟩ (ae l i)=false⟩ (λk=>l.length-k) 0 U ?ar ?aW;case ar=>exact⟨Nat.zero_le _,λi hi=>by omega⟩
 rintro k I a w ak U;obtain⟨hk,au⟩:=ak;refine bc λI a w U=>?_;refine cz (λab=>?_) λab=>?_
 .refine zt ?_;refine U.dk ?_;refine m6 ?_;refine .q .T (ki [_,_] [_,_] jM rfl rfl .ag .ag) ?_;refine c6 ?_;refine .nil ?_;intro I a w U;refine bM ?_;refine U.cd (λah=>?_) λah=>?_
  .rw[pw] at ah;refine fQ λI a w U=>?_;refine U.ret rfl (.cons (.sx 0) (.cons (.t rfl) cC.nil)) ?_;exact(by rw[Fq ab au ah];rfl)
  rw[pw] at ah;refine aK λI a w U=>?_;exact U.ag (k+1) (⟨ab,λi h1=>by rcases Nat.lt_succ_iff_lt_or_eq.1 h1 with h|h;exact au i h;rw[h];exact ah⟩)
 refine zt ?_;refine U.o (.bd dP bU.nil) λU=>?_;refine aH λI a w U=>?_;refine U.ret rfl (.cons (.sx 0) (.cons (.t rfl) cC.nil)) ?_;exact(by rw[Fs om au];rfl)
def lf {α:Type} [Inhabited α] {f:α->Nat} {l:List α} {k:Nat} (h:k<l.length):f (ae l k)<=bY f l:=by
 have:=eC (f:=f) h;have h2:=jX (f:=f) l (k+1);omega
def iK (l:List (List ay)):Nat:=l.length+bY dJ l
def Fw (l:List (List ay)) (left:Int) (h0:0<=left) (h1:left<=1048576):
 Fn prog 100 [jb l,AV.int left] (AV.int (bq left (iK l))):=by
 refine Fn.go 27 func100 ntmps100 (λW I a U=>?_);have hle:=U.cB (t:=0) rfl;refine db λI a w U=>?_;refine cz (λab=>?_) λab=>?_
 .refine an ?_;exact aT (jm ab (by unfold iK;omega))
 refine aq λI a w U=>?_;refine St.ju (σ:=Nat) (1::(run 2 4 (run 14 12 []))) ⟨λk=>[(5,AV.int k),(1,AV.int (bq left (l.length+bY dJ (l.take k))))],λk=>[],λk=>k<=l.length/\0<=bq left (l.length+bY dJ (l.take k))⟩ (λk=>l.length-k) 0 U rfl ?ar ?gw ?aW;case ar=>exact⟨Nat.zero_le _,by simp only[bq,bY,List.take_zero,List.map_nil,List.sum_nil];split<;>omega⟩
 case gw=>exact(Env.aU rfl bh (Env.aU rfl (by exact congrArg AV.int (by simp only[bq,bY,List.take_zero,List.map_nil,List.sum_nil];split<;>omega)) Env.le_nil))
 rintro k I a w ak U;obtain⟨hk,eY⟩:=ak;refine bc λI a w U=>?_;refine cz (λah=>?_) λah=>?_
 .refine bJ λI a w U=>?_;refine U.o (.cl (jY _ _ eY (eB h1))) λU=>?_;rw[eA eY] at U;refine aK λI a w U=>?_;refine U.cd (λai=>?_) λai=>?_
  .simp only[decide_eq_true_eq] at ai;refine an ?_;exact aT (dh ai (by have e1:=eC (f:=dJ) ah;have e2:=jX (f:=dJ) l (k+1);unfold iK;omega))
  simp only[decide_eq_false_iff_not,Int.not_lt] at ai;refine aK λI a w U=>?_;refine U.again (k+1) ?bu ?bw bh ?bx (by repeat(first|exact Env.le_rfl|refine Env.cL rfl ?_));case bu=>omega
  case bw=>exact⟨ah,by rw[eC ah,<-Nat.add_assoc];exact ai⟩
  case bx=>exact(Env.aU rfl bh (Env.aU rfl (by exact congrArg AV.int (by rw[eC ah,<-Nat.add_assoc])) Env.le_nil))
 refine zt ?_;refine bQ ?_;exact aT (by unfold iK;rw[List.take_of_length_le om])
def partOf {α:Type} (f:α->List AV) (z:List AV) (l:List α) (k:Nat):List (List AV):=(l.take k).map f++List.replicate (l.length-k) z
section
variable {α:Type} {f:α->List AV} {z:List AV} {l:List α} {k:Nat}
def sE (h:k<=l.length):(partOf f z l k).length=l.length:=by simp[partOf];omega
def sF:partOf f z l 0=List.replicate l.length z:=by simp[partOf]
def sG (h:l.length<=k):partOf f z l k=l.map f:=by
 unfold partOf;rw[List.take_of_length_le h,show l.length-k=0 from by omega];simp
def sH (h:k<l.length):(partOf f z l k)[k]?=some z:=by
 unfold partOf;have e:((l.take k).map f).length=k:=by simp;omega
 rw[List.getElem?_append_right om,e,Nat.sub_self,List.getElem?_replicate,if_pos om]
def sI [Inhabited α] (h:k<l.length):(partOf f z l k).set k (f (ae l k))=partOf f z l (k+1):=by
 unfold partOf;have e:((l.take k).map f).length=k:=by simp;omega
 rw[List.set_append_right _ _ om,e,Nat.sub_self,mN h,List.map_append,show l.length-k=(l.length-(k+1))+1 from by omega,List.replicate_succ];simp
end
def Fx (x:ay):
 Fn prog 266 [x.av] (x.av):=by
 refine Fn.go 12 func266 ntmps266 (λW I a U=>?_);refine aV λI a w U=>?_;refine U.alloc rfl ep gY λb2 I a w U=>nn<|sr<|U.alloc rfl ep gY λb3 I a w U=>?_;refine fH λI a w U=>?_;refine U.o (.c1 (pz _)) λU=>U.o .fv λU=>U.lz 1 lT .tt .tt rfl rfl rfl λa w U=>?_;refine aH λI a w U=>?_;refine U.ret rfl (.cons (.sx 0) cC.nil) ?_;rfl
def Fy (x:cv):
 Fn prog 300 [x.av] (x.av):=by
 refine Fn.go 11 func300 ntmps300 (λW I a U=>?_);refine aV λI a w U=>?_;refine U.alloc rfl jL oT λb2 I a w U=>nn<|sr<|U.alloc rfl jL oT λb3 I a w U=>?_;refine m5 λI a w U=>?_;refine U.ret rfl (.cons (.sx 0) cC.nil) ?_;rfl
def j3 (l:List (ay)) (h:dJ l<=1048576):
 fG prog 202 [cY l] KK.cG 3 (l.map ay.cells):=by
 refine fG.intro 23 func202 rfl ntmps202 rfl aj (λW I a U=>?_);have hl:l.length<=1048576:=by unfold dJ at h;omega
 refine aN λI a w U=>?_;refine U.make rfl iw ep gY rfl .tt .tt om λb7 a w U=>?_;change St _ _ ([]++[Own.row (.slice (some ⟨b7,0,none⟩) l.length l.length) 125 3 (List.replicate l.length [AV.val (.int .i64 0),AV.val (.int .i64 0),AV.val (.int .i64 0)])]) _ _ _ at U;rw[<-sF (f:=ay.cells)] at U;refine aH λI a w U=>?_;refine St.lo (σ:=Nat) (4::(run 14 8 [])) ⟨λk=>[(4,AV.int k)],λk=>[Own.row (.slice (some ⟨b7,0,none⟩) l.length l.length) 125 3 (partOf (ay.cells) [AV.val (.int .i64 0),AV.val (.int .i64 0),AV.val (.int .i64 0)] l k)],λk=>k<=l.length⟩ (λk=>l.length-k) 0 U ?ar ?aW;case ar=>exact Nat.zero_le _
 rintro k I a w ak U;have hk:k<=l.length:=ak;have fZ:(partOf (ay.cells) [AV.val (.int .i64 0),AV.val (.int .i64 0),AV.val (.int .i64 0)] l k).length=l.length:=sE hk;dsimp only at U;rw[<-fZ] at U;refine bc λI a w U=>?_;refine cz (λab=>?_) λab=>?_
 .refine fH λI a w U=>?_;refine U.o (.c1 (Fx _)) λU=>?_;refine U.o (qn iw ep .tt .tt (λ_=>by omega)) λU=>?_;refine U.qC 0 ep .tt .tt rfl (by exact sH ab) rfl rfl λa w U=>?_;refine aK λI a w U=>?_;change St _ _ [Own.row (.slice (some ⟨b7,0,none⟩) (partOf (ay.cells) [AV.val (.int .i64 0),AV.val (.int .i64 0),AV.val (.int .i64 0)] l k).length (partOf (ay.cells) [AV.val (.int .i64 0),AV.val (.int .i64 0),AV.val (.int .i64 0)] l k).length) 125 3 ((partOf (ay.cells) [AV.val (.int .i64 0),AV.val (.int .i64 0),AV.val (.int .i64 0)] l k).set k (ay.cells (ae l k)))] _ _ _ at U;rw[fZ,sI ab] at U;exact U.ag (k+1) (ab)
 refine zt ?_;refine aH λI a w U=>?_;rw[fZ,sG om] at U;exact U.oH (r:=2) 0 rfl rfl rfl rfl
def Fz (l:List (cv)) (h:nA l<=1048576):
 fG prog 261 [lH l] KK.slot 2 (l.map cv.cells):=by
 refine fG.intro 23 func261 rfl ntmps261 rfl aj (λW I a U=>?_);have hl:l.length<=1048576:=by unfold nA at h;omega
 refine aN λI a w U=>?_;refine U.make rfl m8 jL oT rfl .tt .tt om λb7 a w U=>?_;change St _ _ ([]++[Own.row (.slice (some ⟨b7,0,none⟩) l.length l.length) 97 2 (List.replicate l.length [AV.val (.int .i64 0),AV.val (.int .i64 0)])]) _ _ _ at U;rw[<-sF (f:=cv.cells)] at U;refine aH λI a w U=>?_;refine St.lo (σ:=Nat) (4::(run 14 8 [])) ⟨λk=>[(4,AV.int k)],λk=>[Own.row (.slice (some ⟨b7,0,none⟩) l.length l.length) 97 2 (partOf (cv.cells) [AV.val (.int .i64 0),AV.val (.int .i64 0)] l k)],λk=>k<=l.length⟩ (λk=>l.length-k) 0 U ?ar ?aW;case ar=>exact Nat.zero_le _
 rintro k I a w ak U;have hk:k<=l.length:=ak;have fZ:(partOf (cv.cells) [AV.val (.int .i64 0),AV.val (.int .i64 0)] l k).length=l.length:=sE hk;dsimp only at U;rw[<-fZ] at U;refine bc λI a w U=>?_;refine cz (λab=>?_) λab=>?_
 .refine fH λI a w U=>?_;refine U.o (.c1 (Fy _)) λU=>?_;refine U.o (qn m8 jL .tt .tt (λ_=>by omega)) λU=>?_;refine U.qC 0 jL .tt .tt rfl (by exact sH ab) rfl rfl λa w U=>?_;refine aK λI a w U=>?_;change St _ _ [Own.row (.slice (some ⟨b7,0,none⟩) (partOf (cv.cells) [AV.val (.int .i64 0),AV.val (.int .i64 0)] l k).length (partOf (cv.cells) [AV.val (.int .i64 0),AV.val (.int .i64 0)] l k).length) 97 2 ((partOf (cv.cells) [AV.val (.int .i64 0),AV.val (.int .i64 0)] l k).set k (cv.cells (ae l k)))] _ _ _ at U;rw[fZ,sI ab] at U;exact U.ag (k+1) (ab)
 refine zt ?_;refine aH λI a w U=>?_;rw[fZ,sG om] at U;exact U.oH (r:=2) 0 rfl rfl rfl rfl
def ya (x:al) (h:gI x<=1048576):
 bm prog 301 [x.av] [] (λt:VT=>VT.x t=x) (λt=>t.owns KK) (λt=>AV.agg t.cells):=by
 refine bm.intro 25 func301 rfl ntmps301 rfl aj (λW I a U=>?_);refine aV λI a w U=>?_;refine U.alloc rfl bK dP λb2 I a w U=>nn<|sr<|U.alloc rfl bK dP λb3 I a w U=>?_;refine fH λI a w U=>?_;refine U.o (.c1 (pz ..)) λU=>U.o .fv λU=>U.lz 1 lT .tt .tt rfl rfl rfl λa w U=>?_;refine rq λI a w U=>?_;refine U.fP (j3 x.aA (by unfold gI at h;omega)) (az .r aP) rfl λI sJ a w U=>?_;refine U.o .fv λU=>?_;try have FA:=U.gW 2 rfl
 refine aK λI a w U=>?_;refine U.dN (⟨x,sJ⟩:VT) [2] rfl (.cons (.sx 0) .nil) rfl rfl rfl
def pF (l:List (al)) (h:gJ l<=1048576):
 bm prog 262 [bN l] [] (λp:Value×List VT=>p.2.map VT.x=l) (λp=>[Own.ao KK p.1 p.2]) (λp=>AV.val p.1):=by
 refine bm.intro 23 func262 rfl ntmps262 rfl aj (λW I a U=>?_);have hl:l.length<=1048576:=by unfold gJ at h;omega
 refine aN λI a w U=>?_;refine U.make rfl cQ bK dP rfl .tt .tt om λb7 a w U=>?_;have U:=U.jO;change St _ _ [Own.row (.slice (some ⟨b7,0,none⟩) l.length l.length) KK.bs 7 (([]:List VT).map VT.cells++List.replicate (l.length-([]:List VT).length) [AV.val (.int .i64 0),AV.val (.int .i64 0),AV.val (.int .i64 0),AV.val (.int .i64 0),AV.val (.int .i64 0),AV.val (.int .i64 0),AV.rows 3 []]),Own.many (([]:List VT).map λx=>Own.many (VT.owns KK x))] _ _ _ at U;refine aH λI a w U=>?_;refine St.lo (σ:=List VT) (4::(run 14 8 [])) ⟨λts=>[(4,AV.int (ts.length:Nat))],λts=>[Own.row (.slice (some ⟨b7,0,none⟩) l.length l.length) KK.bs 7 (ts.map VT.cells++List.replicate (l.length-ts.length) [AV.val (.int .i64 0),AV.val (.int .i64 0),AV.val (.int .i64 0),AV.val (.int .i64 0),AV.val (.int .i64 0),AV.val (.int .i64 0),AV.rows 3 []]),Own.many (ts.map λx=>Own.many (VT.owns KK x))],λts=>ts.map VT.x=l.take ts.length/\ts.length<=l.length⟩ (λts=>l.length-ts.length) [] U ?ar ?aW;case ar=>exact⟨by simp,Nat.zero_le _⟩
 rintro ts I a w ak U;obtain⟨eg,hk⟩:=ak;dsimp only at U;refine bc λI a w U=>?_;refine cz (λab=>?_) λab=>?_
 .refine ax λI a w U=>?_;refine U.o ((by first|exact ij rL rF .tt .tt (λ_=>by first|omega|(simp only[List.length_append,List.length_map,List.length_replicate];omega))|exact gR rL rF .tt .tt (λ_=>by first|omega|(simp only[List.length_append,List.length_map,List.length_replicate];omega))|exact hP rL rF .tt .tt (λ_=>by first|omega|(simp only[List.length_append,List.length_map,List.length_replicate];omega)))) λU=>?_;refine U.o .la λU=>?_;refine U.dA [] (ya (ae l ts.length) (by have:=lf (f:=gI) ab;unfold gJ at h;omega)) (az .tt aP) rfl aZ rfl λt I a w gy U=>?_;change St _ _ ([Own.row (.slice (some ⟨b7,0,none⟩) l.length l.length) KK.bs 7 (ts.map VT.cells++List.replicate (l.length-ts.length) [AV.val (.int .i64 0),AV.val (.int .i64 0),AV.val (.int .i64 0),AV.val (.int .i64 0),AV.val (.int .i64 0),AV.val (.int .i64 0),AV.rows 3 []]),Own.many (ts.map λx=>Own.many (VT.owns KK x))]++VT.owns KK t) _ _ _ at U;refine U.o (be 0 cQ bK .tt .tt rfl (λ_=>by first|omega|(simp only[List.length_append,List.length_map,List.length_replicate];omega))) λU=>?_;refine U.nh 0 bK .tt .tt rfl (by simp only[List.length_append,List.length_map,List.length_replicate];omega) rfl rfl λa w U=>?_;refine aV λI a w U=>?_;refine U.o (ba .tt .c (λ_=>by first|omega|(simp only[List.length_append,List.length_map,List.length_replicate];omega))) λU=>?_;refine aq λI a w U=>?_;have U:=St.l6 (m:=l.length-(ts++[t]).length) t U dF rfl rfl;refine U.again (ts++[t]) ?bu ?bw bh ?bx (by repeat(first|exact Env.le_rfl|refine Env.cL rfl ?_));case bu=>simp;omega
  case bw=>exact kO ⟨eg,hk⟩ ab gy
  case bx=>exact(Env.aU rfl (by exact congrArg AV.int aJ) Env.le_nil)
 refine zt ?_;refine aH λI a w U=>?_;have U:=U.l7 om;have au:=kQ ⟨eg,hk⟩ om;refine U.dN (_,ts) [0] rfl (.cons (.t rfl) .nil) au rfl rfl
def FB (x:Answer) (h:gK x<=1048576):
 bm prog 302 [x.av] [] (λt:AT=>AT.x t=x) (λt=>t.owns KK) (λt=>AV.agg t.cells):=by
 refine bm.intro 15 func302 rfl ntmps302 rfl aj (λW I a U=>?_);refine aV λI a w U=>?_;refine U.alloc rfl dQ oR λb2 I a w U=>nn<|sr<|U.alloc rfl dQ oR λb3 I a w U=>?_;refine lO λI a w U=>?_;refine U.dA [] (ya x.bs (by unfold gK at h;omega)) (az .tt aP) rfl aZ rfl λt12 I a w FC U=>?_;obtain⟨sK,sL⟩:=t12;have FD:sK=x.bs:=FC;subst FD;have U:=U.nf;refine U.o .fv λU=>U.lz 1 bK .tt .tt rfl rfl rfl λa w U=>?_;refine aH λI a w U=>?_;refine U.dN (⟨x,sL⟩:AT) [2] rfl (.cons (.sx 0) .nil) rfl rfl rfl
def FE (l:List (Answer)) (h:iG l<=1048576):
 bm prog 265 [jC l] [] (λp:Value×List AT=>p.2.map AT.x=l) (λp=>[Own.answers KK p.1 p.2]) (λp=>AV.val p.1):=by
 refine bm.intro 23 func265 rfl ntmps265 rfl aj (λW I a U=>?_);have hl:l.length<=1048576:=by unfold iG at h;omega
 refine aN λI a w U=>?_;refine U.make rfl eI dQ oR rfl .tt .tt om λb7 a w U=>?_;have U:=U.jO;change St _ _ [Own.row (.slice (some ⟨b7,0,none⟩) l.length l.length) KK.answer 9 (([]:List AT).map AT.cells++List.replicate (l.length-([]:List AT).length) [AV.val (.int .i64 0),AV.val (.bool false),AV.val (.int .i64 0),AV.val (.int .i64 0),AV.val (.int .i64 0),AV.val (.int .i64 0),AV.val (.int .i64 0),AV.val (.int .i64 0),AV.rows 3 []]),Own.many (([]:List AT).map λx=>Own.many (AT.owns KK x))] _ _ _ at U;refine aH λI a w U=>?_;refine St.lo (σ:=List AT) (4::(run 14 8 [])) ⟨λts=>[(4,AV.int (ts.length:Nat))],λts=>[Own.row (.slice (some ⟨b7,0,none⟩) l.length l.length) KK.answer 9 (ts.map AT.cells++List.replicate (l.length-ts.length) [AV.val (.int .i64 0),AV.val (.bool false),AV.val (.int .i64 0),AV.val (.int .i64 0),AV.val (.int .i64 0),AV.val (.int .i64 0),AV.val (.int .i64 0),AV.val (.int .i64 0),AV.rows 3 []]),Own.many (ts.map λx=>Own.many (AT.owns KK x))],λts=>ts.map AT.x=l.take ts.length/\ts.length<=l.length⟩ (λts=>l.length-ts.length) [] U ?ar ?aW;case ar=>exact⟨by simp,Nat.zero_le _⟩
 rintro ts I a w ak U;obtain⟨eg,hk⟩:=ak;dsimp only at U;refine bc λI a w U=>?_;refine cz (λab=>?_) λab=>?_
 .refine ax λI a w U=>?_;refine U.o ((by first|exact ij rM rG .tt .tt (λ_=>by first|omega|(simp only[List.length_append,List.length_map,List.length_replicate];omega))|exact gR rM rG .tt .tt (λ_=>by first|omega|(simp only[List.length_append,List.length_map,List.length_replicate];omega))|exact hP rM rG .tt .tt (λ_=>by first|omega|(simp only[List.length_append,List.length_map,List.length_replicate];omega)))) λU=>?_;refine U.o .la λU=>?_;refine U.dA [] (FB (ae l ts.length) (by have:=lf (f:=gK) ab;unfold iG at h;omega)) (az .tt aP) rfl aZ rfl λt I a w gy U=>?_;change St _ _ ([Own.row (.slice (some ⟨b7,0,none⟩) l.length l.length) KK.answer 9 (ts.map AT.cells++List.replicate (l.length-ts.length) [AV.val (.int .i64 0),AV.val (.bool false),AV.val (.int .i64 0),AV.val (.int .i64 0),AV.val (.int .i64 0),AV.val (.int .i64 0),AV.val (.int .i64 0),AV.val (.int .i64 0),AV.rows 3 []]),Own.many (ts.map λx=>Own.many (AT.owns KK x))]++AT.owns KK t) _ _ _ at U;refine U.o (be 0 eI dQ .tt .tt rfl (λ_=>by first|omega|(simp only[List.length_append,List.length_map,List.length_replicate];omega))) λU=>?_;refine U.nh 0 dQ .tt .tt rfl (by simp only[List.length_append,List.length_map,List.length_replicate];omega) rfl rfl λa w U=>?_;refine aV λI a w U=>?_;refine U.o (ba .tt .c (λ_=>by first|omega|(simp only[List.length_append,List.length_map,List.length_replicate];omega))) λU=>?_;refine aq λI a w U=>?_;have U:=St.l6 (m:=l.length-(ts++[t]).length) t U dF rfl rfl;refine U.again (ts++[t]) ?bu ?bw bh ?bx (by repeat(first|exact Env.le_rfl|refine Env.cL rfl ?_));case bu=>simp;omega
  case bw=>exact kO ⟨eg,hk⟩ ab gy
  case bx=>exact(Env.aU rfl (by exact congrArg AV.int aJ) Env.le_nil)
 refine zt ?_;refine aH λI a w U=>?_;have U:=U.l7 om;have au:=kQ ⟨eg,hk⟩ om;refine U.dN (_,ts) [0] rfl (.cons (.t rfl) .nil) au rfl rfl
def FF (l:List (List ay)) (h:iK l<=1048576):
 bm prog 106 [jb l] [] (λp:Value×List DT=>p.2.map DT.x=l) (λp=>[Own.seen KK p.1 p.2]) (λp=>AV.val p.1):=by
 refine bm.intro 23 func106 rfl ntmps106 rfl aj (λW I a U=>?_);have hl:l.length<=1048576:=by unfold iK at h;omega
 refine aN λI a w U=>?_;refine U.make rfl oV gp Cc rfl .tt .tt om λb7 a w U=>?_;have U:=U.jO;change St _ _ [Own.row (.slice (some ⟨b7,0,none⟩) l.length l.length) KK.seen 1 (([]:List DT).map DT.cells++List.replicate (l.length-([]:List DT).length) [AV.rows 3 []]),Own.many (([]:List DT).map λx=>Own.many (DT.owns KK x))] _ _ _ at U;refine aH λI a w U=>?_;refine St.lo (σ:=List DT) (4::(run 14 8 [])) ⟨λts=>[(4,AV.int (ts.length:Nat))],λts=>[Own.row (.slice (some ⟨b7,0,none⟩) l.length l.length) KK.seen 1 (ts.map DT.cells++List.replicate (l.length-ts.length) [AV.rows 3 []]),Own.many (ts.map λx=>Own.many (DT.owns KK x))],λts=>ts.map DT.x=l.take ts.length/\ts.length<=l.length⟩ (λts=>l.length-ts.length) [] U ?ar ?aW;case ar=>exact⟨by simp,Nat.zero_le _⟩
 rintro ts I a w ak U;obtain⟨eg,hk⟩:=ak;dsimp only at U;refine bc λI a w U=>?_;refine cz (λab=>?_) λab=>?_
 .refine ax λI a w U=>?_;refine U.o ((by first|exact ij rK rB .tt .tt (λ_=>by first|omega|(simp only[List.length_append,List.length_map,List.length_replicate];omega))|exact gR rK rB .tt .tt (λ_=>by first|omega|(simp only[List.length_append,List.length_map,List.length_replicate];omega))|exact hP rK rB .tt .tt (λ_=>by first|omega|(simp only[List.length_append,List.length_map,List.length_replicate];omega)))) λU=>?_;refine U.o .l1 λU=>?_;refine U.fP (j3 (ae l ts.length) (by have:=lf (f:=dJ) ab;unfold iK at h;omega)) (az .r aP) rfl λI v20 a w U=>?_;refine U.o (be 0 oV gp .tt .tt rfl (λ_=>by first|omega|(simp only[List.length_append,List.length_map,List.length_replicate];omega))) λU=>?_;have FG:=U.gW 2 rfl;refine U.De 0 gp .tt .tt (by first|exact bA rfl|exact bE|exact bF|exact bG|assumption) rfl (by simp only[List.length_append,List.length_map,List.length_replicate];omega) rfl λa w U=>?_;refine aV λI a w U=>?_;refine U.o (ba .tt .c (λ_=>by first|omega|(simp only[List.length_append,List.length_map,List.length_replicate];omega))) λU=>?_;refine aq λI a w U=>?_;have U:=St.l6 (m:=l.length-(ts++[(⟨ae l ts.length,v20⟩:DT)]).length) (⟨ae l ts.length,v20⟩:DT) U dF rfl rfl;refine U.again (ts++[(⟨ae l ts.length,v20⟩:DT)]) ?bu ?bw bh ?bx (by repeat(first|exact Env.le_rfl|refine Env.cL rfl ?_));case bu=>simp;omega
  case bw=>exact kO ⟨eg,hk⟩ ab rfl
  case bx=>exact(Env.aU rfl (by exact congrArg AV.int aJ) Env.le_nil)
 refine zt ?_;refine aH λI a w U=>?_;have U:=U.l7 om;have au:=kQ ⟨eg,hk⟩ om;refine U.dN (_,ts) [0] rfl (.cons (.t rfl) .nil) au rfl rfl
def FH (k:Nat) (l:List (ay)) (hb:(aw dm k l).2<=1152921504606846976):
 Fn prog 117 [cY (aw dm k l).1,AV.int (k:Nat)] (AV.int ((aw dm k l).2:Nat)):=by
 refine Fn.go 42 func117 ntmps117 (λW I a U=>?_);have hl:k+l.length<=(aw dm k l).2:=iC (f:=dm) (c:=λ_=>3) (λ_ _=>rfl) (λ_=>by decide);have iH:(aw dm k l).1.length=l.length:=fR;refine aH λI a w U=>?_;refine St.lo (σ:=Nat) (1::(run 37 4 [])) ⟨λi=>[(5,AV.int i),(1,AV.int ((aw dm k (l.take i)).2:Nat))],λi=>[],λi=>i<=l.length⟩ (λi=>l.length-i) 0 U ?ar ?aW;case ar=>exact Nat.zero_le _
 rintro i I a w ak U;have iD:i<=l.length:=ak;dsimp only at U;refine bc λI a w U=>?_;refine U.cd (λab=>?_) λab=>?_
 .simp only[B,fR] at ab;refine wp_skip<|bM<|wp_seq<|wp_block<|wp_seq<|wp_seq ?_;obtain⟨t,hx⟩:=get_some ab;generalize bZ:(aw dm k (l.take i)).2=kk at U;obtain⟨dS,de⟩:=g7 (f:=dm) (c:=λ_=>3) (λ_ _=>rfl) hx bZ;have he:=wH hx bZ;refine lP λI a w U=>?_;refine U.cd (λah=>?_) λah=>?_
  .exfalso;rw[he] at ah;first|(simp only[B,dm,not_true_eq_false] at ah;done)|(simp only[B,dm] at ah;omega)|(simp[dm,fl] at ah)
   skip
  refine aL λI a w U=>?_;rw[show((kk:Nat):Int)+1=((kk+1:Nat):Int) from rfl] at U;refine lQ λI a w U=>?_;refine U.cd (λai=>?_) λai=>?_
  .exfalso;rw[he] at ai;first|(simp only[B,dm,not_true_eq_false] at ai;done)|(simp only[B,dm] at ai;omega)|(simp[dm,fl] at ai)
   skip
  refine aL λI a w U=>?_;rw[show((kk+1:Nat):Int)+1=((kk+2:Nat):Int) from rfl] at U;refine lQ λI a w U=>?_;refine U.cd (λaF=>?_) λaF=>?_
  .exfalso;rw[he] at aF;first|(simp only[B,dm,not_true_eq_false] at aF;done)|(simp only[B,dm] at aF;omega)|(simp[dm,fl] at aF)
   skip
  refine aL λI a w U=>?_;rw[show((kk+2:Nat):Int)+1=((kk+3:Nat):Int) from rfl] at U;refine bc λI a w U=>?_;refine U.again (i+1) ?bu ?bw bh ?bx (by repeat(first|exact Env.le_rfl|refine Env.cL rfl ?_));case bu=>omega
  case bw=>show i+1<=_;omega
  case bx=>exact(Env.aU rfl bh (Env.aU rfl (by exact congrArg AV.int (by rw[dS];(try rfl))) Env.le_nil))
 simp only[B,fR] at ab;refine zt ?_;refine bQ ?_;rw[List.take_of_length_le om];rfl
def yb (k:Nat) (l:List (al)) (hb:(aw bX k l).2<=1152921504606846976):
 Fn prog 44 [bN (aw bX k l).1,AV.int (k:Nat)] (AV.int ((aw bX k l).2:Nat)):=by
 refine Fn.go 78 func44 ntmps44 (λW I a U=>?_);have hl:k+l.length<=(aw bX k l).2:=iC (f:=bX) (c:=ew) (nd) (λt=>by simp only[ew];omega);have iH:(aw bX k l).1.length=l.length:=fR;refine aH λI a w U=>?_;refine St.lo (σ:=Nat) (1::(run 73 4 [])) ⟨λi=>[(5,AV.int i),(1,AV.int ((aw bX k (l.take i)).2:Nat))],λi=>[],λi=>i<=l.length⟩ (λi=>l.length-i) 0 U ?ar ?aW;case ar=>exact Nat.zero_le _
 rintro i I a w ak U;have iD:i<=l.length:=ak;dsimp only at U;refine bc λI a w U=>?_;refine U.cd (λab=>?_) λab=>?_
 .simp only[B,fR] at ab;refine wp_skip<|bM<|wp_seq<|wp_block<|wp_seq<|wp_seq ?_;obtain⟨t,hx⟩:=get_some ab;generalize bZ:(aw bX k (l.take i)).2=kk at U;obtain⟨dS,de⟩:=g7 (f:=bX) (c:=ew) (nd) hx bZ;have he:=wH hx bZ;simp only[ew] at de;refine lP λI a w U=>?_;refine U.cd (λah=>?_) λah=>?_
  .exfalso;rw[he] at ah;first|(simp only[B,bX,not_true_eq_false] at ah;done)|(simp only[B,bX] at ah;omega)|(simp[bX,fl] at ah)
   skip
  refine aL λI a w U=>?_;rw[show((kk:Nat):Int)+1=((kk+1:Nat):Int) from rfl] at U;refine lQ λI a w U=>?_;refine U.cd (λai=>?_) λai=>?_
  .exfalso;rw[he] at ai;first|(simp only[B,bX,not_true_eq_false] at ai;done)|(simp only[B,bX] at ai;omega)|(simp[bX,fl] at ai)
   skip
  refine aL λI a w U=>?_;rw[show((kk+1:Nat):Int)+1=((kk+2:Nat):Int) from rfl] at U;refine lQ λI a w U=>?_;refine U.cd (λaF=>?_) λaF=>?_
  .exfalso;rw[he] at aF;first|(simp only[B,bX,not_true_eq_false] at aF;done)|(simp only[B,bX] at aF;omega)|(simp[bX,fl] at aF)
   skip
  refine aL λI a w U=>?_;rw[show((kk+2:Nat):Int)+1=((kk+3:Nat):Int) from rfl] at U;refine db λI a w U=>?_;refine U.cd (λaS=>?_) λaS=>?_
  .exfalso;rw[he] at aS;first|(simp only[B,bX,not_true_eq_false] at aS;done)|(simp only[B,bX] at aS;omega)|(simp[bX,fl] at aS)
   skip
  refine aL λI a w U=>?_;rw[show((kk+3:Nat):Int)+1=((kk+4:Nat):Int) from rfl] at U;refine db λI a w U=>?_;refine U.cd (λbL=>?_) λbL=>?_
  .exfalso;rw[he] at bL;first|(simp only[B,bX,not_true_eq_false] at bL;done)|(simp only[B,bX] at bL;omega)|(simp[bX,fl] at bL)
   skip
  refine aL λI a w U=>?_;rw[show((kk+4:Nat):Int)+1=((kk+5:Nat):Int) from rfl] at U;refine db λI a w U=>?_;refine U.cd (λbz=>?_) λbz=>?_
  .exfalso;rw[he] at bz;first|(simp only[B,bX,not_true_eq_false] at bz;done)|(simp only[B,bX] at bz;omega)|(simp[bX,fl] at bz)
   skip
  refine aL λI a w U=>?_;rw[show((kk+5:Nat):Int)+1=((kk+6:Nat):Int) from rfl] at U;refine gX λI a w U=>?_;refine U.o (fA (show Fn prog 117 [cY (ae (aw bX k l).1 i).aA,AV.int ((kk+6):Nat)] (AV.int ((ct (kk+6) t.aA).2:Nat)) from by have hq:(ct (kk+6) t.aA).2<=1152921504606846976:=(by rw[show(ct (kk+6) t.aA).2=_ from c7];omega);rw[he];exact FH _ _ hq) (az .r (az (.t rfl) aP))) λU=>?_;generalize dD:(ct (kk+6) t.aA).2=k1 at U;have kR:k1=_:=dD.symm.trans (c7);refine aK λI a w U=>?_;refine U.cd (λdf=>?_) λdf=>?_
  .exfalso;simp only[B] at df;omega;skip
  refine aK λI a w U=>?_;subst dD;refine U.again (i+1) ?bu ?bw bh ?bx (by repeat(first|exact Env.le_rfl|refine Env.cL rfl ?_));case bu=>omega
  case bw=>show i+1<=_;omega
  case bx=>exact(Env.aU rfl bh (Env.aU rfl (by exact congrArg AV.int (by rw[dS];(try rfl))) Env.le_nil))
 simp only[B,fR] at ab;refine zt ?_;refine bQ ?_;rw[List.take_of_length_le om];rfl
def FI (x:Server):
 Fn prog 205 [x.av,x.av] (AV.bool true):=by
 refine Fn.go 45 func205 ntmps205 (λW I a U=>?_);refine db λI a w U=>?_;refine U.cd (λab=>?_) λab=>?_
 .exfalso;simp at ab;skip
 refine ax λI a w U=>?_;refine U.o (oa .tt .tt oU) λU=>?_;refine zt ?_;refine U.cd (λah=>?_) λah=>?_
 .exfalso;simp at ah;skip
 refine ax λI a w U=>?_;refine U.o (.cl (Es ..)) λU=>?_;refine aq λI a w U=>?_;refine U.cd (λai=>?_) λai=>?_
 .exfalso;simp at ai;skip
 refine ax λI a w U=>?_;refine U.o (.cl (k9 ..)) λU=>?_;refine aq λI a w U=>?_;refine U.cd (λaF=>?_) λaF=>?_
 .exfalso;simp at aF;skip
 refine ax λI a w U=>?_;refine U.o (.cl (k9 ..)) λU=>?_;refine aq λI a w U=>?_;refine U.cd (λaS=>?_) λaS=>?_
 .exfalso;simp at aS;skip
 refine ax λI a w U=>?_;refine U.o (.cl (jZ ..)) λU=>?_;refine aq λI a w U=>?_;refine U.cd (λbL=>?_) λbL=>?_
 .exfalso;simp at bL;skip
 refine ax λI a w U=>?_;refine U.o (.cl (jZ ..)) λU=>?_;refine aq λI a w U=>?_;refine U.cd (λbz=>?_) λbz=>?_
 .exfalso;simp at bz;skip
 refine an ?_;rfl
def FJ (l:List (Server)):
 Fn prog 108 [ku l,ku l] (AV.bool true):=by
 refine Fn.go 27 func108 ntmps108 (λW I a U=>?_);have hle:=U.cB (t:=0) rfl;refine fQ λI a w U=>?_;refine U.cd (λab=>?_) λab=>?_
 .exfalso;simp at ab;skip
 refine aq λI a w U=>?_;refine St.lo (σ:=Nat) (run 2 4 (run 16 11 [])) ⟨λk=>[(5,AV.int k)],λk=>[],λk=>k<=l.length⟩ (λk=>l.length-k) 0 U ?ar ?aW;case ar=>exact Nat.zero_le _
 rintro k I a w ak U;have hk:k<=l.length:=ak;refine bc λI a w U=>?_;refine cz (λah=>?_) λah=>?_
 .refine zt ?_;refine U.dk ?_;refine jd ?_;refine .o (.c2 (FI ..)) ?_;refine c6 ?_;refine .nil ?_;intro I a w U;refine bM ?_;refine U.cd (λai=>?_) λai=>?_
  .exfalso;simp at ai;skip
  refine aK λI a w U=>?_;exact U.ag (k+1) (ah)
 refine zt ?_;refine an ?_;rfl
def yc {l:List al} {d:ay} (h:(gL l d).isSome=false):placeOf l d<0:=by
 rw[x9,decide_eq_false_iff_not] at h;omega
def yd {l:List al} {d:ay} (h:(gL l d).isSome=true):¬placeOf l d<0:=by
 rw[x9,decide_eq_true_eq] at h;omega
end Go.Proofs.YtldbakcpcfdlaaaGreat

/- For the law of worlds: The engine; What lies in memory; What functions do. -/
import Derived.Test.YtfookmefmjhonaaGreatProg
import Derived.Test.YtfookmefmjhonaaGreatZ12
set_option linter.all false
namespace Go.Proofs.YtfookmefmjhonaaGreat.My
noncomputable abbrev Cp := Tryz.prog
end Go.Proofs.YtfookmefmjhonaaGreat.My
namespace Go.Proofs.YtfookmefmjhonaaGreat.My
open Go.RowKit Go.bE
abbrev iv (x:Int):Value:=.int .i64 x
abbrev bv (x:UInt8):Value:=.int .u8 (x.toNat:Int)
def az:Kd Int:=⟨3,1,fun x=> [iv x],fun _=>rfl,fun _=>rfl,by decide⟩
def aA:Kd UInt8:=⟨5,1,fun x=> [bv x],fun _=>rfl,fun _=>rfl,by decide⟩
structure cN where
 t:Int
 r:Int
 deriving DecidableEq
instance:Inhabited cN:=⟨⟨0,0⟩⟩
def bZ:Kd cN:=⟨29,2,fun x=> [iv x.t,iv x.r],fun _=>rfl,fun _=>rfl,by decide⟩
structure bz where
 st:cN
 seq:Int
 aX:List Int
 kind:Int
 node:cN
 par:cN
 key:ByteArray
 prop:Int
 val:Int
noncomputable instance:DecidableEq bz:=fun _ _=>Classical.propDecidable _
structure aT where
 o:bz
 A:OA
 c:Nat
abbrev aT.cells (x:aT):List Value:=
 [iv x.o.st.t,iv x.o.st.r,iv x.o.seq,.slice x.A x.o.aX.length x.c,iv x.o.kind,iv x.o.node.t,iv x.o.node.r,iv x.o.par.t,iv x.o.par.r,.string x.o.key,iv x.o.prop,iv x.o.val]
def bx:Kd aT:=⟨56,12,aT.cells,fun _=>rfl,fun _=>rfl,by decide⟩
abbrev aT.own (x:aT):aM:=az.row x.A x.c x.o.aX
def aT.Rd (x:aT) (w:World):Prop:=x.o.aX.length≤1073741824∧az.Rd x.A x.o.aX w
def aT.Rd.aE {x:aT} {w w':World} (h:x.Rd w) (hc:Ch No w w'):x.Rd w':=⟨h.1,h.2.aE hc⟩
def ir (A:OA) (xs:List aT) (w:World):Prop:=xs.length≤1073741824∧bx.Rd A xs w∧ ∀x∈xs,x.Rd w
def ir.aE {A:OA} {xs:List aT} {w w':World} (h:ir A xs w) (hc:Ch No w w'):ir A xs w':=⟨h.1,h.2.1.aE hc,fun x hx=>(h.2.2 x hx).aE hc⟩
structure Nd where
 id:cN
 par:cN
 key:ByteArray
abbrev Nd.cells (x:Nd):List Value:= [iv x.id.t,iv x.id.r,iv x.par.t,iv x.par.r,.string x.key]
def aP:Kd Nd:=⟨184,5,Nd.cells,fun _=>rfl,fun _=>rfl,by decide⟩
structure Rg where
 prop:Int
 val:Int
 st:cN
abbrev Rg.cells (x:Rg):List Value:= [iv x.prop,iv x.val,iv x.st.t,iv x.st.r]
def eH:Kd Rg:=⟨178,4,Rg.cells,fun _=>rfl,fun _=>rfl,by decide⟩
structure FX where
 o:bz
 kW:Bool
 par:cN
 key:ByteArray
 idle:Bool
structure cD where
 x:aT
 kW:Bool
 par:cN
 key:ByteArray
 idle:Bool
def cD.d (e:cD):FX:=⟨e.x.o,e.kW,e.par,e.key,e.idle⟩
abbrev cD.cells (e:cD):List Value:=
 [iv e.x.o.st.t,iv e.x.o.st.r,iv e.x.o.seq,.slice e.x.A e.x.o.aX.length e.x.c,iv e.x.o.kind,iv e.x.o.node.t,iv e.x.o.node.r,iv e.x.o.par.t,iv e.x.o.par.r,.string e.x.o.key,iv e.x.o.prop,iv e.x.o.val,.bool e.kW,iv e.par.t,iv e.par.r,.string e.key,.bool e.idle]
def gq:Kd cD:=⟨187,17,cD.cells,fun _=>rfl,fun _=>rfl,by decide⟩
abbrev cD.own (e:cD):aM:=e.x.own
structure iZ where
 id:cN
 bX:List Rg
structure bj where
 id:cN
 bX:List Rg
 A:OA
 c:Nat
def bj.d (x:bj):iZ:=⟨x.id,x.bX⟩
abbrev bj.cells (x:bj):List Value:= [iv x.id.t,iv x.id.r,.slice x.A x.bX.length x.c]
def eS:Kd bj:=⟨152,3,bj.cells,fun _=>rfl,fun _=>rfl,by decide⟩
abbrev bj.own (x:bj):aM:=eH.row x.A x.c x.bX
def cD.Rd (e:cD) (w:World):Prop:=e.x.Rd w
def bj.Rd (x:bj) (w:World):Prop:=x.bX.length≤1073741824∧eH.Rd x.A x.bX w
def r6 (A:OA) (xs:List cD) (w:World):Prop:=xs.length≤1073741824∧gq.Rd A xs w∧ ∀x∈xs,x.x.Rd w
def oX (A:OA) (xs:List bj) (w:World):Prop:=xs.length≤1073741824∧eS.Rd A xs w∧ ∀x∈xs,x.Rd w
def r6.aE {A:OA} {xs:List cD} {w w':World} (h:r6 A xs w) (hc:Ch No w w'):r6 A xs w':=⟨h.1,h.2.1.aE hc,fun x hx=>(h.2.2 x hx).aE hc⟩
def bj.Rd.aE {x:bj} {w w':World} (h:x.Rd w) (hc:Ch No w w'):x.Rd w':=⟨h.1,h.2.aE hc⟩
def oX.aE {A:OA} {xs:List bj} {w w':World} (h:oX A xs w) (hc:Ch No w w'):oX A xs w':=⟨h.1,h.2.1.aE hc,fun x hx=>(h.2.2 x hx).aE hc⟩
def cS (a b:cN):Bool:=(a.t==b.t)&&((a.r==b.r)&&true)
def G_ (a b:Nd):Bool:=cS a.id b.id&&(cS a.par b.par&&((a.key==b.key)&&true))
def Hb (a b:Rg):Bool:=(a.prop==b.prop)&&((a.val==b.val)&&(cS a.st b.st&&true))
def yv (a b:ByteArray):((a==b)=true)=(a=b):=by
 rw [beq_toListBytes,beq_iff_eq]
 exact propext ⟨fun h=>by
  rw [ByteArray.toList_eq,ByteArray.toList_eq] at h
  cases a;cases b
  simpa using h,fun h=>by rw [h]⟩
@[simp] theorem gn (a b:cN):(cS a b=true)=(a=b):=by
 cases a;cases b
 simp [cS]
@[simp] theorem jW (a b:cN):(cS a b=false)= ¬ (a=b):=by
 rw [← gn];cases cS a b<;>simp
@[simp] theorem Hd (a b:Nd):(G_ a b=true)=(a=b):=by
 cases a;cases b
 simp [G_,yv]
@[simp] theorem T7 (a b:Nd):(G_ a b=false)= ¬ (a=b):=by
 rw [← Hd];cases G_ a b<;>simp
@[simp] theorem He (a b:Rg):(Hb a b=true)=(a=b):=by
 cases a;cases b
 simp [Hb]
@[simp] theorem T8 (a b:Rg):(Hb a b=false)= ¬ (a=b):=by
 rw [← He];cases Hb a b<;>simp
instance:DecidableEq Nd:=fun a b=>decidable_of_iff (G_ a b=true) (by simp)
instance:DecidableEq Rg:=fun a b=>decidable_of_iff (Hb a b=true) (by simp)
end Go.Proofs.YtfookmefmjhonaaGreat.My
namespace Go.bE
variable {P:Program} {n:Nat} {U:Nat→Prop} {w0 w:World} {Q:Exit→Act→World→Prop} {s:S}
open Go.Proofs.YtfookmefmjhonaaGreat.My in
def Bj (a b:cN) (h:s.WX=some (.bool (cS a b))) (kt:a=b→G P n U w0 Q s.WY) (kf: ¬a=b→G P n U w0 Q s.iff):G P n U w0 Q s:=
 eQ (h:=h) (cS a b) (fun e=>kt J1) fun e=>kf J1
open Go.Proofs.YtfookmefmjhonaaGreat.My in
def Dr (a b:cN) (h:s.WX=some (.bool (!cS a b))) (kt: ¬a=b→G P n U w0 Q s.WY) (kf:a=b→G P n U w0 Q s.iff):G P n U w0 Q s:=
 eQ (h:=h) (!cS a b) (fun e=>kt J1) fun e=>kf J1
open Go.Proofs.YtfookmefmjhonaaGreat.My in
def kL (d:Nat) (a b:cN) (h:s.L.get d=some (.bool (cS a b))) (kt:a=b→G P n U w0 Q (s.put d (.bool true))) (kf: ¬a=b→G P n U w0 Q (s.put d (.bool false))):G P n U w0 Q s:=
 eg (h:=h) d (cS a b) (fun e=>kt J1) fun e=>kf J1
def dQ (k:G P n U w0 Q {s with H:=s.H++ [.k (aM.all [])]}):G P n U w0 Q s:=by
 refine ⟨fun w hS a ha=>k.go w ?_ a ha⟩
 show SS U w0 w ((s.H++ [HB.k (aM.all [])]).map HB.gf)
 rw [cT]
 exact (hS.KC).perm (List.perm_append_comm (l₁:= [_]))
def RT {l:List aM} {B:aM} {K:List aM} (h:SS U w0 w (B::aM.all l::K)):SS U w0 w (aM.all (l++ [B])::K):=by
 have h1:=h.perm (List.Perm.swap (aM.all l) B K)
 refine SS.le h1 ?_
 have e1:(aM.star B (aM.all K)).le (aM.star (aM.all [B]) (aM.all K)):=aM.iW ((aM.tO B).trans (aM.wK _ _)) (aM.le.refl _)
 exact (aM.iW (aM.le.refl _) e1).trans ((aM.lG _ _ _).trans (aM.iW (aM.pn l [B]) (aM.le.refl _)))
def eD {α:Type} (f:α→aM) (i j:Nat) (xs:List α) (x:α) (h:(dR s.H.length [i,j],pk s.H [i,j])=(true,[f x,aM.all (xs.map f)])) (k:G P n U w0 Q {s with H:=gv s.H [i,j] [.k (aM.all ((xs++ [x]).map f))]}):G P n U w0 Q s:=
 js [i,j] _ [.k (aM.all ((xs++ [x]).map f))] h (fun w K hS=>by rw [cT];exact RT hS) k
end Go.bE
namespace Go.Proofs.YtfookmefmjhonaaGreat.My
open Go.RowKit Go.bE
def s9 {l:List aM} {A:aM} (h:A∈l): ∀ {F:Nat→Prop} {w:World},(aM.all l).H F w→ ∃F',A.H F' w:=by
 induction l with
 |nil=>cases h
 |cons B l ih=>
  rintro F w ⟨F1,F2,_,_,h3,h4⟩
  rcases dx.1 h with rfl|h
  ·exact ⟨F1,h3⟩
  ·exact ih h h4
def kB {α β:Type} {f:α→β} {xs:List α} {ys:List α} {x:α} (h:ys.map f=(xs.take ys.length).map f) (hx:xs[ys.length]? =some x) {y:α} (hy:f y=f x):(ys++ [y]).map f=(xs.take (ys.length+1)).map f:=by
 rw [List.take_add_one,hx,cT,cT,h]
 simp [hy]
def bp {α:Type} {xs:List α} {k:Nat} {x:α} (hx:xs[k]? =some x):xs.take k++ [x]=xs.take (k+1):=by
 rw [List.take_add_one,hx];rfl
def Pc {α:Type} {xs ys:List α} {k:Nat} {y:α} (hl:ys.length=k) (hk:k<xs.length):(ys++xs.drop k).set k y=(ys++ [y])++xs.drop (k+1):=by
 subst hl
 rw [List.set_append_right _ _ (bO _),Nat.sub_self,fI hk]
 simp only [List.set_cons_zero,cH,List.singleton_append]
end Go.Proofs.YtfookmefmjhonaaGreat.My
namespace Go.Proofs.YtfookmefmjhonaaGreat.My
open Go.RowKit Go.bE
section
abbrev root:cN:=⟨0,0⟩
abbrev w5:cN:=⟨0,1⟩
def en (a b:cN):cS a b=decide (a=b):=by
 rw [Bool.eq_iff_iff,gn,decide_eq_true_iff]
def bY (s:cN):Prop:=1≤s.t∧s.t≤1099511627776∧0≤s.r∧s.r<16
instance (s:cN):Decidable (bY s):=by unfold bY;infer_instance
def fL (s:cN):Prop:=bY s∨s=root∨s=w5
instance (s:cN):Decidable (fL s):=by unfold fL;infer_instance
def dW (l:List Int):Prop:=1≤l.length∧l.length≤16∧ ∀x∈l,0≤x∧x≤1099511627776
instance (l:List Int):Decidable (dW l):=by unfold dW;infer_instance
def AB {l:List Int} {k:Nat} {x:Int} (h: ∀y∈l.take k,0≤y∧y≤1099511627776) (hx:l[k]? =some x) (h2:0≤x∧x≤1099511627776): ∀y∈l.take (k+1),0≤y∧y≤1099511627776:=by
 exact qib
@[simp] theorem tK (a b:ByteArray):((a.toList==b.toList)=true)=(a=b):=by rw [← beq_toListBytes];exact yv a b
@[simp] theorem EI (a b:ByteArray):((a.toList==b.toList)=false)= ¬ (a=b):=by
 rw [← tK];cases (a.toList==b.toList)<;>simp
def Ym (a b:ByteArray) [Decidable (a=b)]:(a.toList==b.toList)=decide (a=b):=by
 rw [Bool.eq_iff_iff,tK,decide_eq_true_iff]
def R9 (a:ByteArray) [Decidable (a=⟨#[]⟩)]:a.toList.isEmpty=decide (a=⟨#[]⟩):=by
 rw [Bool.eq_iff_iff,decide_eq_true_iff,List.isEmpty_iff]
 have h:=tK a ⟨#[]⟩
 rw [beq_iff_eq] at h
 have e:(⟨#[]⟩:ByteArray).toList= []:=by rw [ByteArray.toList_eq]
 rw [e] at h
 exact ⟨fun x=>h▸x,fun x=>h.symm▸x⟩
def n8 (k:ByteArray):UInt8:=k.data.getD (k.size-1) 0
def KP {k:ByteArray} (h:1≤k.size):k[((k.size:Int)-1).toNat]? =some (n8 k):=by
 have e:((k.size:Int)-1).toNat=k.size-1:=by omega
 rw [e]
 have hl:k.size-1<k.size:=by omega
 rw [getElem?_pos k _ hl]
 unfold n8
 have It:k.size-1<k.data.size:=hl
 rw [ff,Array.getElem?_eq_getElem It]
 rfl
def jX (k:ByteArray):Prop:=1≤k.size∧k.size≤64∧(n8 k).toNat≠0
instance (k:ByteArray):Decidable (jX k):=by unfold jX;infer_instance
def low (p:Int):Int:=if p=3∨p=4∨p=6∨p=8∨p=11 then-1 else if p=18 then 64 else 0
def high (p:Int):Int:=
 if p=0 then 2 else if p=1∨p=2 then 1 else if p=12∨p=13∨p=14 then 1073741824 else if p=15 then 4 else if p=16 then 3
 else if p=17 then 16777215 else if p=18 then 64000 else if p=9∨p=10 then 1048576 else 1099511627776
def plain (p:Int):Int:=if p=3∨p=4∨p=6∨p=8∨p=11 then-1 else if p=10 then 1 else if p=18 then 1024 else 0
def Ti (p:Int):Bool:=p==17||p==18
def fB (p v:Int):Prop:=0≤p∧p<19∧low p≤v∧v≤high p
instance (p v:Int):Decidable (fB p v):=by unfold fB;infer_instance
def xK (p v:Int):Int:=if 0≤p∧p<19 then if fB p v then 0 else 9 else 3
def EB {p:Int} (h:0≤p∧p<19):p=0∨p=1∨p=2∨p=3∨p=4∨p=5∨p=6∨p=7∨p=8∨p=9∨p=10∨p=11∨p=12∨p=13∨p=14∨p=15∨p=16∨p=17∨p=18:=by omega
def cW:ByteArray:=⟨#[]⟩
def kg (o:bz):Prop:=(o.kind=1∧fL o.par∧jX o.key∧o.prop=0∧o.val=0)∨(o.kind=2∧fB o.prop o.val∧o.par=root∧o.key=cW)
local instance:DecidableEq ByteArray:=fun a b=>decidable_of_iff ((a==b)=true) (by rw [yv])
instance (o:bz):Decidable (kg o):=by unfold kg;infer_instance
def bV (o:bz):Prop:=bY o.st∧dW o.aX∧o.st.r<o.aX.length∧bY o.node∧o.seq=o.aX.getD o.st.r.toNat 0+1∧o.seq≤1099511627776∧kg o
instance (o:bz):Decidable (bV o):=by unfold bV;infer_instance
def AD (a b:List Int):Prop:= ∀i,i<a.length→b.getD i 0≤a.getD i 0
instance (a b:List Int):Decidable (AD a b):=by unfold AD;infer_instance
def Ho {a b:List Int} {k:Nat} {x y:Int} (h: ∀i,i<k→b.getD i 0≤a.getD i 0) (hx:a[k]? =some x) (hy:b[k]? =some y) (hxy:y≤x): ∀i,i<k+1→b.getD i 0≤a.getD i 0:=by
 intro i hi
 rcases Nat.lt_or_ge i k with h1|h1
 ·exact h i h1
 ·have:i=k:=by omega
  subst this
  rw [bA,bA,hx,hy]
  exact hxy
def yg (a b:cN):(a=b)=(a.t=b.t∧a.r=b.r):=by
 cases a;cases b
 simp
def dO (a b:Int):Int:=if a<b then-1 else if b<a then 1 else 0
def bl (a b:cN):Int:=if a.t<b.t then-1 else if b.t<a.t then 1 else dO a.r b.r
def F_:List Int→Int
 | []=>0
 |x::l=>if x=0 then F_ l else x
def QN {l:List Int} {k:Nat} {x:Int} (h: ∀y∈l.take k,y=0) (hx:l[k]? =some x) (h0:x=0): ∀y∈l.take (k+1),y=0:=by
 intro y hy
 rw [List.take_add_one,hx] at hy
 rcases eG.1 hy with h1|h1
 ·exact h y h1
 ·simp at h1;omega
def or_none: ∀ {l:List Int},(∀y∈l,y=0)→F_ l=0
 | [],_=>rfl
 |x::l,h=>by rw [F_,if_pos (h x cE)];exact or_none fun y hy=>h y (bH _ hy)
def or_some: ∀ {l:List Int} {k:Nat} {x:Int},(∀y∈l.take k,y=0)→l[k]? =some x→x≠0→F_ l=x
 | [],k,x,_,h,_=>by simp at h
 |y::l,0,x,_,h,h0=>by simp at h;subst h;rw [F_,if_neg h0]
 |y::l,k+1,x,h1,h,h0=>by
  rw [F_,if_pos (h1 y (by simp))]
  exact or_some (k:=k) (fun z hz=>h1 z (by rw [List.take_succ_cons];exact bH _ hz)) TF h0
def QO (a b:cN):F_ [dO a.t b.t,dO a.r b.r]=bl a b:=by
 simp only [F_,bl,dO]
 split<;>(try split)<;>(try split)<;>(try split)<;>(try split)<;>(try split)<;>first|rfl|omega|simp_all
def cQ (v:List Int) (o:bz):Prop:=v.getD o.st.r.toNat 0=o.seq-1∧AD v o.aX
instance (v:List Int) (o:bz):Decidable (cQ v o):=by unfold cQ;infer_instance
end
structure Wm where
 ns:List Nd
 ms:List FX
structure oe where
 ns:List Nd
 An:OA
 cn:Nat
 ms:List cD
 Am:OA
 cm:Nat
def oe.d (x:oe):Wm:=⟨x.ns,x.ms.map cD.d⟩
def oe.Rd (x:oe) (w:World):Prop:=x.ns.length≤1073741824∧aP.Rd x.An x.ns w∧r6 x.Am x.ms w
def oe.Rd.aE {x:oe} {w w':World} (h:x.Rd w) (hc:Ch No w w'):x.Rd w':=⟨h.1,h.2.1.aE hc,h.2.2.aE hc⟩
structure ShD where
 tr:Wm
 ls:List iZ
structure sV where
 tr:oe
 ls:List bj
 Al:OA
 cl:Nat
def sV.d (x:sV):ShD:=⟨x.tr.d,x.ls.map bj.d⟩
def sV.Rd (x:sV) (w:World):Prop:=x.tr.Rd w∧oX x.Al x.ls w
def sV.Rd.aE {x:sV} {w w':World} (h:x.Rd w) (hc:Ch No w w'):x.Rd w':=⟨h.1.aE hc,h.2.aE hc⟩
noncomputable instance:DecidableEq FX:=fun _ _=>Classical.propDecidable _
noncomputable instance:DecidableEq iZ:=fun _ _=>Classical.propDecidable _
noncomputable instance:DecidableEq Wm:=fun _ _=>Classical.propDecidable _
noncomputable instance:DecidableEq ShD:=fun _ _=>Classical.propDecidable _
abbrev oe.own (x:oe):List aM:= [aP.row x.An x.cn x.ns,gq.row x.Am x.cm x.ms,aM.all (x.ms.map cD.own)]
abbrev sV.own (x:sV):List aM:=x.tr.own++ [eS.row x.Al x.cl x.ls,aM.all (x.ls.map bj.own)]
def aQ (n:Nat):List UInt8:=if n<128 then [UInt8.ofNat n] else UInt8.ofNat (n % 128+128)::aQ (n/128)
 termination_by n
 decreasing_by omega
def sT {n:Nat} (h:n<128):aQ n= [UInt8.ofNat n]:=by rw [aQ,if_pos h]
def xu {n:Nat} (h:128≤n):aQ n=UInt8.ofNat (n % 128+128)::aQ (n/128):=by rw [aQ,if_neg (by omega)]
def g_ (n:Nat):1≤(aQ n).length:=by
 rw [aQ];split<;>simp
def B6: ∀(k n:Nat),n<128^k→(aQ n).length≤max k 1
 |0,n,h=>by rw [sT (by simp at h;omega)];simp
 |k+1,n,h=>by
  by_cases h1:n<128
  ·rw [sT h1];simp
  ·rw [xu (by omega)]
   have:=B6 k (n/128) (by rw [Nat.pow_succ] at h;omega)
   have hk:1≤k:=by
    rcases k with _|k
    ·exfalso;simp at h;omega
    ·omega
   simp only [dM]
   omega
def eB {n:Nat} (h:n≤4611686018427387904):(aQ n).length≤9:=B6 9 n (by omega)
def bS (l:List Int):List UInt8:=aQ l.length++l.flatMap fun x=>aQ x.toNat
def bB (s:cN):List UInt8:=aQ s.t.toNat++aQ s.r.toNat
def ig (z:ByteArray):List UInt8:=aQ z.size++z.data.toList
def iL (o:bz):List UInt8:=bB o.st++bS o.aX++aQ o.kind.toNat++bB o.node++if o.kind=1 then bB o.par++ig o.key else aQ o.prop.toNat++aQ (o.val+1).toNat
def wrap_u8 (x:Int):IntKind.u8.wrap x=x % 256:=by simp [IntKind.wrap,IntKind.bits,IntKind.signed]
def wrap_u32 (x:Int):IntKind.u32.wrap x=x % 4294967296:=by simp [IntKind.wrap,IntKind.bits,IntKind.signed]
def mq (x:Int):IntKind.u64.wrap x=x % 18446744073709551616:=by simp [IntKind.wrap,IntKind.bits,IntKind.signed]
def _3: ∀m:Fin 256,(BitVec.ofNat 8 m.val|||BitVec.ofNat 8 128).toNat=m.val % 128+128:=by decide+kernel
def QI {y:Int} (h:0≤y):IntKind.u8.wrap (BitVec.ofInt 8 (IntKind.u8.wrap y)|||BitVec.ofInt 8 128).toNat=((UInt8.ofNat (y.toNat % 128+128)).toNat:Int):=by
 obtain ⟨n,rfl⟩:=Int.eq_ofNat_of_zero_le h
 have h1:BitVec.ofInt 8 (IntKind.u8.wrap (n:Int))=BitVec.ofNat 8 (n % 256):=by
  rw [wrap_u8]
  have:((n:Int)% 256)=((n % 256:Nat):Int):=by omega
  rw [this,BitVec.ofInt_natCast]
 have h2:=_3 ⟨n % 256,Nat.mod_lt _ (by decide)⟩
 rw [h1,wrap_u8,show BitVec.ofInt 8 (128:Int)=BitVec.ofNat 8 128 by decide,h2,UInt8.toNat_ofNat']
 simp only [Int.toNat_natCast]
 omega
def QJ {y:Int} (h:0≤y):IntKind.u8.wrap y=((UInt8.ofNat y.toNat).toNat:Int):=by
 rw [wrap_u8,UInt8.toNat_ofNat']
 omega
def ahu {y:Int} (h:0≤y):Int.fdiv y (2^7)=y/128:=by
 rw [Int.fdiv_eq_ediv_of_nonneg _ (by decide)];rfl
def Pg (z:ByteArray):z.data.toList.flatMap aA.f=gM z:=En (fun _=>rfl) _
def VX: ∀m:Fin 256,(BitVec.ofNat 8 m.val&&&BitVec.ofNat 8 127).toNat=m.val % 128:=by decide+kernel
def KE (b:UInt8):IntKind.u8.wrap (BitVec.ofInt 8 (b.toNat:Int)&&&BitVec.ofInt 8 127).toNat=((b.toNat % 128:Nat):Int):=by
 have h2:=VX ⟨b.toNat,b.toNat_lt⟩
 rw [BitVec.ofInt_natCast,wrap_u8,show BitVec.ofInt 8 (127:Int)=BitVec.ofNat 8 127 by decide,h2]
 simp only
 omega
def IY {a b i:Nat} (h:a<2^i) (hb:a+b*2^i<2^63):IntKind.i64.wrap (BitVec.ofInt 64 (a:Int)|||BitVec.ofInt 64 ((b*2^i:Nat):Int)).toNat=((a+b*2^i:Nat):Int):=by
 have hp:=Nat.two_pow_pos i
 rw [BitVec.ofInt_natCast,BitVec.ofInt_natCast,BitVec.toNat_or,BitVec.toNat_ofNat,BitVec.toNat_ofNat,Nat.mod_eq_of_lt (by omega),Nat.mod_eq_of_lt (by omega)]
 have:=Nat.shiftLeft_add_eq_or_of_lt h b
 rw [Nat.shiftLeft_eq] at this
 rw [Nat.or_comm,← this,wrap_i64 ⟨by omega,by omega⟩,Nat.add_comm]
def zc (c0:Nat):Ct Cp 57 #[sl none 0 c0] (fun _=>True) [] (fun v Cs=> ∃A c,v=sl A (([]:List Int).length) c∧Cs= [az.row A c ([]:List Int)]):=by
 refine cc Tryz.func57 fun w0 hp=>bG az<|R4
def zd (a:Addr) (bb:Nat) (xs:List Int) (hb:xs.length≤1073741824):Ct Cp 57 #[sl (some a) xs.length bb] (fun w=>az.Rd (some a) xs w) [] (fun v Cs=> ∃A c,v=sl A xs.length c∧Cs= [az.row A c xs]):=by
 refine cc Tryz.func57 fun w0 hp=>aa 16 fun a8=>mi az 0 (a8 14) 0 []<|bQ az 0 (so (a8 14)) 0 [] (some a) xs.length bb xs il RX fun A2 c3=>R3
def qu (aU:OA) (bb:Nat) (xs:List Int) (hb:xs.length≤1073741824):Ct Cp 57 #[sl aU xs.length bb] (fun w=>az.Rd aU xs w) [] (fun v Cs=> ∃A c,v=sl A xs.length c∧Cs= [az.row A c xs]):=by
 cases aU with
 |none=>
  intro U w hp hS
  have hc:xs= []:=dV.1 (Nat.eq_zero_of_not_pos fun h=>RW)
  subst hc
  exact zc bb U w trivial hS
 |some a=>exact zd a bb xs hb
def sk (aU:OA) (bb:Nat) (xs:List Int) (hb:xs.length≤1073741824):Ct Cp 12 #[sl aU xs.length bb] (fun w=>az.Rd aU xs w) [] (fun v Cs=> ∃A c,v=sl A xs.length c∧Cs= [az.row A c xs]):=by
 refine cc Tryz.func12 fun w0 hp=>aa 14 fun _=>bG az<|aR (σ:=Nat×OA×Nat×List Int) WA (fun (k,B,d,ys)=> [.k (az.row B d ys)]) (fun (k,B,d,ys)=>k≤xs.length∧ys=xs.take k) (fun (k,B,d,ys)=>xs.length-k) (0,none,0,[]) [0] ⟨bh _,rfl⟩ ?_
 rintro _ ⟨k,B,d,ys⟩ ⟨hk,hy⟩ aB
 refine aa 8 fun _=>aq ((k:Int)<(xs.length:Int)) (fun h1=>?_) (fun h1=>?_)
 ·refine aa 7 fun _=>aV aU xs.length (k:Int) 1 X8 ?_
  obtain ⟨x2,e3⟩:=aw (xs:=xs) (k:=k) (by omega)
  refine bd 3 (ad aU (k*1) 0) (iv x2) Wy<|aa 1 fun rM=>bQ az 0 B d ys (so (rM 0)) 1 1 [x2] (fun w h=>h.eT 1 (rM 0) 3 (List.flatMap az.f [x2]) kr) qol fun A5 c6=>qto
 ·exact qeu
def xe (aU:OA) (bb:Nat) (xs:List Int) (mX:OA) (xM:Nat) (ys:List Int) (hb:xs.length≤1073741824):Ct Cp 20 #[sl aU xs.length bb,sl mX ys.length xM] (fun w=>az.Rd aU xs w∧az.Rd mX ys w) [] (fun v Cs=>v=.bool (decide (xs=ys))∧Cs= []):=by
 refine cc Tryz.func20 fun w0 hp=>aa 13 fun _=>cU ((xs.length:Int)=(ys.length:Int)) (fun h1=>?_) (fun h1=>?_)
 ·exact qfj
 ·refine aa 7 fun _=>aR (σ:=Nat) Yo (fun k=> []) (fun k=>k≤xs.length∧xs.take k=ys.take k) (fun k=>xs.length-k) 0 [] ⟨bh _,rfl⟩ ?_
  rintro _ k ⟨hk,hy⟩ aB
  refine aa 8 fun _=>aq ((k:Int)<(xs.length:Int)) (fun h2=>?_) (fun h2=>?_)
  ·refine aa 4 fun _=>?_
   obtain ⟨x3,e4⟩:=aw (xs:=xs) (k:=k) (by omega)
   obtain ⟨x5,e6⟩:=aw (xs:=ys) (k:=k) (by omega)
   refine aK [(2,_),(3,iv x3),(6,_),(7,iv x5)] [] ⟨qug,cB 3 (ad aU (k*1) 0) (fun w h=>bW (K:=az) (hp.1.aE h.ch) e4),quf,cB 3 (ad mX (k*1) 0) qvm,trivial⟩<|cU (x3=x5) (fun h7=>?_) (fun h7=>?_)
   ·exact qdm
   ·refine aa 5 fun _=>ao 16 ((k:Int)+1)<|aa 2 fun _=>aB _ (k+1) [] kr ⟨by omega,by rw [← bp e4,← bp e6,hy,h7]⟩ (by omega)
  ·exact Yp
def Ov (aU:OA) (bb:Nat) (xs:List Nd) (mX:OA) (xM:Nat) (ys:List Nd) (hb:xs.length≤1073741824):Ct Cp 64 #[sl aU xs.length bb,sl mX ys.length xM] (fun w=>aP.Rd aU xs w∧aP.Rd mX ys w) [] (fun v Cs=>v=.bool (decide (xs=ys))∧Cs= []):=by
 refine cc Tryz.func64 fun w0 hp=>aa 13 fun _=>cU ((xs.length:Int)=(ys.length:Int)) (fun h1=>?_) (fun h1=>?_)
 ·exact qfj
 ·refine aa 7 fun _=>aR (σ:=Nat) Yo (fun k=> []) (fun k=>k≤xs.length∧xs.take k=ys.take k) (fun k=>xs.length-k) 0 [] ⟨bh _,rfl⟩ ?_
  rintro _ k ⟨hk,hy⟩ aB
  refine aa 8 fun _=>aq ((k:Int)<(xs.length:Int)) (fun h2=>?_) (fun h2=>?_)
  ·refine aa 4 fun _=>?_
   obtain ⟨x3,e4⟩:=aw (xs:=xs) (k:=k) (by omega)
   obtain ⟨x5,e6⟩:=aw (xs:=ys) (k:=k) (by omega)
   refine aK [(2,_),(3,.agg (Nd.cells x3).toArray),(6,_),(7,.agg (Nd.cells x5).toArray)] [] ⟨bF aU xs.length (k:Int) 5 (fun w h=>Kd.cd (K:=aP) (xs:=xs) (hp.1.aE h.ch) (by omega)),cB 184 (ad aU (k*5) 0) (fun w h=>bN (K:=aP) (hp.1.aE h.ch) e4),bF mX ys.length (k:Int) 5 (fun w h=>Kd.cd (K:=aP) (xs:=ys) (hp.2.aE h.ch) (by omega)),cB 184 (ad mX (k*5) 0) (fun w h=>bN (K:=aP) (hp.2.aE h.ch) e6),trivial⟩<|eQ (!(G_ x3 x5)) (fun h7=>?_) (fun h7=>?_)
   ·exact qdm
   ·exact qf3
  ·exact Yp
def Tv (aU:OA) (bb:Nat) (xs:List Rg) (mX:OA) (xM:Nat) (ys:List Rg) (hb:xs.length≤1073741824):Ct Cp 97 #[sl aU xs.length bb,sl mX ys.length xM] (fun w=>eH.Rd aU xs w∧eH.Rd mX ys w) [] (fun v Cs=>v=.bool (decide (xs=ys))∧Cs= []):=by
 refine cc Tryz.func97 fun w0 hp=>aa 13 fun _=>cU ((xs.length:Int)=(ys.length:Int)) (fun h1=>?_) (fun h1=>?_)
 ·exact qfj
 ·refine aa 7 fun _=>aR (σ:=Nat) Yo (fun k=> []) (fun k=>k≤xs.length∧xs.take k=ys.take k) (fun k=>xs.length-k) 0 [] ⟨bh _,rfl⟩ ?_
  rintro _ k ⟨hk,hy⟩ aB
  refine aa 8 fun _=>aq ((k:Int)<(xs.length:Int)) (fun h2=>?_) (fun h2=>?_)
  ·refine aa 4 fun _=>?_
   obtain ⟨x3,e4⟩:=aw (xs:=xs) (k:=k) (by omega)
   obtain ⟨x5,e6⟩:=aw (xs:=ys) (k:=k) (by omega)
   refine aK [(2,_),(3,.agg (Rg.cells x3).toArray),(6,_),(7,.agg (Rg.cells x5).toArray)] [] ⟨bF aU xs.length (k:Int) 4 (fun w h=>Kd.cd (K:=eH) (xs:=xs) (hp.1.aE h.ch) (by omega)),cB 178 (ad aU (k*4) 0) (fun w h=>bN (K:=eH) (hp.1.aE h.ch) e4),bF mX ys.length (k:Int) 4 (fun w h=>Kd.cd (K:=eH) (xs:=ys) (hp.2.aE h.ch) (by omega)),cB 178 (ad mX (k*4) 0) (fun w h=>bN (K:=eH) (hp.2.aE h.ch) e6),trivial⟩<|eQ (!(Hb x3 x5)) (fun h7=>?_) (fun h7=>?_)
   ·exact qdm
   ·exact qf3
  ·exact Yp
def Ru:Ct Cp 126 #[] (fun _=>True) [] (fun v Cs=>v=.agg #[iv 0,iv 0]∧Cs= []):=by
 refine cc Tryz.func126 fun w0 hp=>qul
def Rv:Ct Cp 148 #[] (fun _=>True) [] (fun v Cs=>v=.agg #[iv 0,iv 0]∧Cs= []):=by
 refine cc Tryz.func148 fun w0 hp=>qul
def Tf:Ct Cp 127 #[] (fun _=>True) [] (fun v Cs=>v=.agg #[iv 0,iv 1]∧Cs= []):=by
 refine cc Tryz.func127 fun w0 hp=>qul
def Ju:Ct Cp 157 #[] (fun _=>True) [] (fun v Cs=>v=.agg #[iv 0,iv 1]∧Cs= []):=by
 refine cc Tryz.func157 fun w0 hp=>qul
def num (x m:Int):Ct Cp 17 #[iv x,iv m] (fun _=>True) [] (fun v Cs=>v=.bool (decide (0≤x∧x≤m))∧Cs= []):=by
 refine cc Tryz.func17 fun w0 hp=>aa 9 fun _=>aG 7 (x≥0) (fun h1=>?_) (fun h1=>?_)
 ·refine aa 6 fun _=>a_ [] ⟨kt (.bool (decide (x≤m))) (dP X5),kr⟩
 ·refine aa 6 fun _=>X6
def xI (s:cN):Ct Cp 103 #[.agg #[iv s.t,iv s.r]] (fun _=>True) [] (fun v Cs=>v=.bool (decide (bY s))∧Cs= []):=by
 refine cc Tryz.func103 fun w0 hp=>ae 11 [0] fun a8=>aG 6 (s.t≥1) (fun h2=>?_) (fun h2=>?_)
 ·refine ae 5 [0] fun _=>aG 11 (s.t≤1099511627776) (fun h3=>?_) (fun h3=>?_)
  ·refine ae 5 [0] fun _=>aG 16 (s.r≥0) (fun h4=>?_) (fun h4=>?_)
   ·refine ae 6 [0] fun _=>a_ [] ⟨kt (.bool (decide (s.r<16))) (dP qik),kr⟩
   ·refine aa 6 fun _=>X7
  ·refine aa 11 fun _=>X7
 ·refine aa 16 fun _=>X7
def CZ (s:cN):Ct Cp 88 #[.agg #[iv s.t,iv s.r]] (fun _=>True) [] (fun v Cs=>v=.bool (decide (bY s))∧Cs= []):=by
 refine cc Tryz.func88 fun w0 hp=>ae 11 [0] fun a8=>aG 6 (s.t≥1) (fun h2=>?_) (fun h2=>?_)
 ·refine ae 5 [0] fun _=>aG 11 (s.t≤1099511627776) (fun h3=>?_) (fun h3=>?_)
  ·refine ae 2 [0] fun _=>ah (num s.r 15) [] cJ ?_
   rintro _ _ ⟨rfl,rfl⟩
   refine aa 3 fun _=>a_ [] ⟨kt (.bool (decide (0≤s.r∧s.r≤15))) (dP qik),kr⟩
  ·refine aa 6 fun _=>X7
 ·refine aa 11 fun _=>X7
def place (s:cN):Ct Cp 145 #[.agg #[iv s.t,iv s.r]] (fun _=>True) [] (fun v Cs=>v=.bool (decide (fL s))∧Cs= []):=by
 refine cc Tryz.func145 fun w0 hp=>aa 6 fun a8=>?_
 rcases bK (decide (bY s)) with b3|b3
 ·have h2:=cg b3
  refine aK [(1,.bool true)] [0] ⟨qvi,trivial⟩<|qcn
 ·have h2:=de b3
  rcases bK (cS s (⟨0,0⟩:cN)) with b5|b5
  ·have h4:=(gn _ _).mp b5
   refine aK [(1,.bool false),(4,.agg #[iv 0,iv 0]),(5,.bool true)] [0,0] ⟨qvi,Oi,qgo,trivial⟩<|qcn
  ·have h4:=(jW _ _).mp b5
   refine aK [(1,.bool false),(4,.agg #[iv 0,iv 0]),(5,.bool false),(9,.agg #[iv 0,iv 1])] [0,0,0] ⟨qvi,Oi,qgo,Tg,trivial⟩<|qep
def Th (s:cN):Ct Cp 89 #[.agg #[iv s.t,iv s.r]] (fun _=>True) [] (fun v Cs=>v=.bool (decide (fL s))∧Cs= []):=by
 refine cc Tryz.func89 fun w0 hp=>aa 6 fun a8=>?_
 rcases bK (decide (bY s)) with b3|b3
 ·have h2:=cg b3
  refine aK [(1,.bool true)] [0] ⟨qvk,trivial⟩<|qcn
 ·have h2:=de b3
  rcases bK (cS s (⟨0,0⟩:cN)) with b5|b5
  ·have h4:=(gn _ _).mp b5
   refine aK [(1,.bool false),(4,.agg #[iv 0,iv 0]),(5,.bool true)] [0,0] ⟨qvk,bT Ru jU,qgo,trivial⟩<|qcn
  ·have h4:=(jW _ _).mp b5
   refine aK [(1,.bool false),(4,.agg #[iv 0,iv 0]),(5,.bool false),(9,.agg #[iv 0,iv 1])] [0,0,0] ⟨qvk,bT Ru jU,qgo,bT Tf jU,trivial⟩<|qep
def Jv (p:Int):Ct Cp 181 #[iv p] (fun _=>True) [] (fun v Cs=>v=.bool (decide (0≤p∧p<19))∧Cs= []):=by
 refine cc Tryz.func181 fun w0 hp=>aa 9 fun _=>aG 5 (p≥0) (fun h1=>?_) (fun h1=>?_)
 ·refine aa 5 fun _=>a_ [] ⟨kt (.bool (decide (p<19))) (dP X5),kr⟩
 ·refine aa 5 fun _=>X6
def xJ (p:Int) (h:0≤p∧p<19):Ct Cp 182 #[iv p] (fun _=>True) [] (fun v Cs=>v=.agg #[iv (low p),iv (high p),iv (plain p),.bool (Ti p)]∧Cs= []):=by
 refine cc Tryz.func182 fun w0 hp=>?_
 rcases EB h with rfl|rfl|rfl|rfl|rfl|rfl|rfl|rfl|rfl|rfl|rfl|rfl|rfl|rfl|rfl|rfl|rfl|rfl|rfl
 ·refine ae 21 [0] fun a8=>zA
 ·refine ae 30 [0] fun a8=>zA
 ·refine ae 33 [0] fun a8=>zA
 ·refine ae 42 [0] fun a8=>zA
 ·refine ae 48 [0] fun a8=>zA
 ·refine ae 72 [0] fun a8=>zA
 ·refine ae 54 [0] fun a8=>zA
 ·refine ae 75 [0] fun a8=>zA
 ·refine ae 60 [0] fun a8=>zA
 ·refine ae 81 [0] fun a8=>zA
 ·refine ae 87 [0] fun a8=>zA
 ·refine ae 63 [0] fun a8=>zA
 ·exact qu9
 ·exact qu9
 ·exact qu9
 ·refine ae 93 [0] fun a8=>zA
 ·refine ae 99 [0] fun a8=>zA
 ·refine ae 105 [0] fun a8=>zA
 ·refine ae 111 [0] fun a8=>zA
def xy (p q:Int):Ct Cp 147 #[iv p,iv q] (fun _=>True) [] (fun v Cs=>v=.bool (decide (fB p q))∧Cs= []):=by
 refine cc Tryz.func147 fun w0 hp=>aa 7 fun _=>ah (Jv p) [] cJ ?_
 rintro _ _ ⟨rfl,rfl⟩
 refine aa 1 fun _=>aG 7 (0≤p∧p<19) (fun h1=>?_) (fun h1=>?_)
 ·refine aa 2 fun _=>ah (xJ p (by omega)) [] cJ ?_
  rintro _ _ ⟨rfl,rfl⟩
  refine aa 4 fun _=>aG 14 (q≥(low p)) (fun h2=>?_) (fun h2=>?_)
  ·refine aa 2 fun _=>ah (xJ p (by omega)) [] cJ ?_
   rintro _ _ ⟨rfl,rfl⟩
   refine aa 5 fun _=>a_ [] ⟨kt (.bool (decide (q≤(high p)))) (dP (by first|(simp [fB,en, *];done)|exact dd (by unfold fB;omega)|exact dn (by unfold fB;omega))),kr⟩
  ·refine aa 8 fun _=>qi1
 ·refine aa 15 fun _=>qi1
def wF (p q:Int):Ct Cp 158 #[iv p,iv q] (fun _=>True) [] (fun v Cs=>v=iv (xK p q)∧Cs= []):=by
 refine cc Tryz.func158 fun w0 hp=>aa 8 fun _=>ah (Jv p) [] cJ ?_
 rintro _ _ ⟨rfl,rfl⟩
 refine aa 2 fun _=>cU (0≤p∧p<19) (fun h1=>?_) (fun h1=>?_)
 ·refine aa 4 fun _=>a_ [] ⟨kt (iv 3) (iT qg6),kr⟩
 ·refine aa 6 fun _=>ah (xy p q) [] cJ ?_
  rintro _ _ ⟨rfl,rfl⟩
  refine aa 2 fun _=>cU (fB p q) (fun h2=>?_) (fun h2=>?_)
  ·refine aa 4 fun _=>a_ [] ⟨kt (iv 9) (iT qg6),kr⟩
  ·refine aa 5 fun _=>a_ [] ⟨kt (iv 0) (iT qg6),kr⟩
def EC (z:ByteArray):Ct Cp 146 #[.string z] (fun _=>True) [] (fun v Cs=>v=.bool (decide (jX z))∧Cs= []):=by
 refine cc Tryz.func146 fun w0 hp=>qbm
def adQ (z:ByteArray):Ct Cp 90 #[.string z] (fun _=>True) [] (fun v Cs=>v=.bool (decide (jX z))∧Cs= []):=by
 refine cc Tryz.func90 fun w0 hp=>qbm
def xL (aU:OA) (bb:Nat) (xs:List Int) (hm:xs.length≤1073741824):Ct Cp 104 #[sl aU xs.length bb] (fun w=>az.Rd aU xs w) [] (fun v Cs=>v=.bool (decide (dW xs))∧Cs= []):=by
 refine cc Tryz.func104 fun w0 hp=>aa 4 fun _=>ed 0 (σ:=Nat) qpn (fun k=> []) (fun k=>k≤xs.length∧ ∀y∈xs.take k,0≤y∧y≤1099511627776) (fun k=>xs.length-k) ?_ ?_
 ·intro _ cG
  refine aa 6 fun _=>cG _ 0 [] kr ⟨bh _,by simp⟩
 ·rintro _ k ⟨hk,hy⟩ dm
  refine aa 8 fun _=>aq ((k:Int)=(xs.length:Int)) (fun h1=>?_) (fun h1=>?_)
  ·refine aa 5 fun _=>aG 10 ((k:Int)≥1) (fun h2=>?_) (fun h2=>?_)
   ·refine aa 5 fun _=>a_ [] ⟨kt (.bool (decide ((k:Int)≤16))) (dP qc9),kr⟩
   ·refine aa 5 fun _=>qge
  ·refine aa 6 fun _=>aV aU xs.length (k:Int) 1 X8 ?_
   obtain ⟨x3,e4⟩:=aw (xs:=xs) (k:=k) (by omega)
   refine bd 3 (ad aU (k*1) 0) (iv x3) Wl<|aa 2 fun _=>aG 19 (x3≥0) (fun h5=>?_) (fun h5=>?_)
   ·refine aa 2 fun _=>aV aU xs.length (k:Int) 1 X8<|bd 3 (ad aU (k*1) 0) (iv x3) Wl<|aa 3 fun _=>aq (x3≤1099511627776) (fun h6=>?_) (fun h6=>?_)
    ·refine aa 4 fun _=>ao 27 ((k:Int)+1)<|aa 2 fun _=>dm _ (k+1) [] kr ⟨by omega,AB hy e4 (by omega)⟩ (by omega)
    ·refine aa 5 fun _=>qjz
   ·refine aa 13 fun _=>qjz
def Jw (aU:OA) (bb:Nat) (xs:List Int) (hm:xs.length≤1073741824):Ct Cp 33 #[sl aU xs.length bb] (fun w=>az.Rd aU xs w) [] (fun v Cs=>v=.bool (decide (dW xs))∧Cs= []):=by
 refine cc Tryz.func33 fun w0 hp=>aa 10 fun _=>aR (σ:=Nat) qpn (fun k=> []) (fun k=>k≤xs.length∧ ∀y∈xs.take k,0≤y∧y≤1099511627776) (fun k=>xs.length-k) 0 [] ⟨bh _,by simp⟩ ?_
 rintro _ k ⟨hk,hy⟩ aB
 refine aa 8 fun _=>aq ((k:Int)<(xs.length:Int)) (fun h1=>?_) (fun h1=>?_)
 ·refine aa 7 fun _=>aV aU xs.length (k:Int) 1 X8 ?_
  obtain ⟨x2,e3⟩:=aw (xs:=xs) (k:=k) (by omega)
  refine bd 3 (ad aU (k*1) 0) (iv x2) Wy<|ah (num x2 1099511627776) [] cJ ?_
  rintro _ _ ⟨rfl,rfl⟩
  refine aa 2 fun _=>cU (0≤x2∧x2≤1099511627776) (fun h4=>?_) (fun h4=>?_)
  ·refine aa 4 fun _=>a_ [] ⟨kt (.bool false) (dP (df (fun h=>by have:=h.2.2 _ (aI e3);omega))),kr⟩
  ·refine aa 5 fun _=>ao 9 ((k:Int)+1)<|aa 2 fun _=>aB _ (k+1) [] kr ⟨by omega,AB hy e3 (by omega)⟩ (by omega)
 ·refine aa 7 fun _=>aG 19 ((xs.length:Int)≥1) (fun h5=>?_) (fun h5=>?_)
  ·refine aa 6 fun _=>a_ [] ⟨kt (.bool (decide ((xs.length:Int)≤16))) (dP qc9),kr⟩
  ·refine aa 6 fun _=>qge
def Jx (aU:OA) (bb:Nat) (xs:List Int) (mX:OA) (xM:Nat) (ys:List Int) (hm:xs.length≤1073741824) (hl:xs.length≤ys.length):Ct Cp 106 #[sl aU xs.length bb,sl mX ys.length xM] (fun w=>az.Rd aU xs w∧az.Rd mX ys w) [] (fun v Cs=>v=.bool (decide (AD xs ys))∧Cs= []):=by
 refine cc Tryz.func106 fun w0 hp=>aa 12 fun _=>aR (σ:=Nat) (fun k=> [(0,sl aU xs.length bb),(1,sl mX ys.length xM),(4,.bool false),(6,sl aU xs.length bb),(7,iv (xs.length:Int)),(8,iv k)]) (fun k=> []) (fun k=>k≤xs.length∧ ∀i,i<k→ys.getD i 0≤xs.getD i 0) (fun k=>xs.length-k) 0 [] ⟨bh _,by omega⟩ ?_
 rintro _ k ⟨hk,hy⟩ aB
 refine aa 5 fun _=>aq ((k:Int)<(xs.length:Int)) (fun h1=>?_) (fun h1=>?_)
 ·refine aa 9 fun _=>?_
  obtain ⟨x2,e3⟩:=aw (xs:=ys) (k:=k) (by omega)
  obtain ⟨x4,e5⟩:=aw (xs:=xs) (k:=k) (by omega)
  refine aK [(2,_),(3,iv x2),(6,_),(7,iv x4)] [] qcw<|aq (x2>x4) (fun h6=>?_) (fun h6=>?_)
  ·exact qf7
  ·refine aa 4 fun _=>ao 20 ((k:Int)+1)<|qjn
 ·exact qij
def Tj (aU:OA) (bb:Nat) (xs:List Int) (mX:OA) (xM:Nat) (ys:List Int) (hm:xs.length≤1073741824) (hl:xs.length≤ys.length):Ct Cp 60 #[sl aU xs.length bb,sl mX ys.length xM] (fun w=>az.Rd aU xs w∧az.Rd mX ys w) [] (fun v Cs=>v=.bool (decide (AD xs ys))∧Cs= []):=by
 refine cc Tryz.func60 fun w0 hp=>aa 10 fun _=>aR (σ:=Nat) (fun k=> [(0,sl aU xs.length bb),(1,sl mX ys.length xM),(4,.bool false),(5,iv k)]) (fun k=> []) (fun k=>k≤xs.length∧ ∀i,i<k→ys.getD i 0≤xs.getD i 0) (fun k=>xs.length-k) 0 [] ⟨bh _,by omega⟩ ?_
 rintro _ k ⟨hk,hy⟩ aB
 refine aa 8 fun _=>aq ((k:Int)<(xs.length:Int)) (fun h1=>?_) (fun h1=>?_)
 ·refine aa 4 fun _=>?_
  obtain ⟨x2,e3⟩:=aw (xs:=ys) (k:=k) (by omega)
  obtain ⟨x4,e5⟩:=aw (xs:=xs) (k:=k) (by omega)
  refine aK [(2,_),(3,iv x2),(6,_),(7,iv x4)] [] qcw<|aq (x2>x4) (fun h6=>?_) (fun h6=>?_)
  ·exact qf7
  ·refine aa 5 fun _=>ao 11 ((k:Int)+1)<|qjn
 ·exact qij

/- For the law of worlds: What lies in memory; What functions do. -/
import Derived.Test.YtfookmefmjhonaaGreatZ16
set_option linter.all false
namespace Go.Proofs.YtfookmefmjhonaaGreat.My
open Go.RowKit Go.bE
structure pU where
 fN:Int
 to:Int
 kind:Int
 hv:List Int
 ops:List bz
structure lD where
 fN:Int
 to:Int
 kind:Int
 hv:List Int
 Ah:OA
 ch:Nat
 ops:List aT
 Ao:OA
 co:Nat
def lD.d (f:lD):pU:=⟨f.fN,f.to,f.kind,f.hv,f.ops.map (·.o)⟩
def lD.Rd (f:lD) (w:World):Prop:=f.hv.length≤1073741824∧az.Rd f.Ah f.hv w∧ir f.Ao f.ops w
def lD.Rd.aE {f:lD} {w w':World} (h:f.Rd w) (hc:Ch No w w'):f.Rd w':=⟨h.1,h.2.1.aE hc,h.2.2.aE hc⟩
def gN (f:pU):Prop:=0≤f.fN∧f.fN<16∧0≤f.to∧f.to<16∧ ¬f.fN=f.to∧((f.kind=1∧dW f.hv∧f.ops= [])∨(f.kind=2∧f.hv= []∧1≤f.ops.length∧f.ops.length≤8∧ ∀o∈f.ops,bV o))
noncomputable instance (f:pU):Decidable (gN f):=Classical.propDecidable _
def mU (f:pU):List UInt8:=aQ f.fN.toNat++aQ f.to.toNat++aQ f.kind.toNat++(if f.kind=1 then bS f.hv else aQ f.ops.length)++f.ops.flatMap iL
def fp (s:BitVec 32):List UInt8:= [UInt8.ofNat (s.toNat/16777216),UInt8.ofNat (s.toNat/65536 % 256),UInt8.ofNat (s.toNat/256 % 256),UInt8.ofNat (s.toNat % 256)]
def fR (f:pU):List UInt8:=fp (cj (mU f))++mU f
def r_ (b:List UInt8):Prop:=4≤b.length∧b.take 4=fp (cj (b.drop 4))
def nX (f:pU):r_ (fR f):=by
 unfold r_ fR
 have h4:(fp (cj (mU f))).length=4:=rfl
 refine ⟨by rw [bm];omega,?_⟩
 rw [List.take_left' h4,List.drop_left' h4]
def ku {o:bz} (h:bV o):(iL o).length≤400:=by
 have h1:=qy h.1
 have h2:=oE (ur h.2.1) (by have:=h.2.1.2.1;omega)
 have h3:=qy h.2.2.2.1
 have hv:=h.2.1.2.1
 have Gz:o.kind=1∨o.kind=2:=h.2.2.2.2.2.2.elim (fun h=>.inl h.1) fun h=>.inr h.1
 have h4:=eB (n:=o.kind.toNat) (by omega)
 unfold iL
 rcases h.2.2.2.2.2.2 with hk|hk
 ·have h5:=pz hk.2.1
  have h6:=eB (n:=o.key.size) (by have:=hk.2.2.1.2.1;omega)
  have h7:o.key.data.toList.length=o.key.size:=by simp
  have h8:=hk.2.2.1.2.1
  rw [if_pos hk.1]
  simp only [bm,ig]
  omega
 ·have hq:=hk.2.1.val
  have Vo:=hk.2.1.1
  have hq3:=hk.2.1.2.1
  have h5:=eB (n:=o.prop.toNat) (by omega)
  have h6:=eB (n:=(o.val+1).toNat) (by omega)
  exact qpy
def uw: ∀ {l:List bz},(∀o∈l,bV o)→(l.flatMap iL).length≤400*l.length
 | [],_=>by simp
 |x::l,h=>by
  have h1:=uw (l:=l) fun y hy=>h y (bH _ hy)
  have h2:=ku (h x cE)
  rw [iE,bm,dM]
  omega
def Lf {f:pU} (h:gN f):(mU f).length≤4000:=by
 obtain ⟨h1,h2,h3,h4,_,h5⟩:=h
 have h6:=eB (n:=f.fN.toNat) (by omega)
 have h7:=eB (n:=f.to.toNat) (by omega)
 unfold mU
 rcases h5 with ⟨k1,k2,k3⟩|⟨k1,k2,k3,k4,k5⟩
 ·have h8:=eB (n:=f.kind.toNat) (by omega)
  have h9:=oE (ur k2) (by have:=k2.2.1;omega)
  have iJ:=k2.2.1
  rw [if_pos k1,k3]
  simp only [bm,List.flatMap_nil,fA]
  omega
 ·have h8:=eB (n:=f.kind.toNat) (by omega)
  have h9:=eB (n:=f.ops.length) (by omega)
  have iJ:=uw k5
  exact qpy
def BA {l:List aT} {k:Nat} {x:aT} (hx:l[k]? =some x):((l.take k).map (·.o)).flatMap iL++iL x.o=((l.take (k+1)).map (·.o)).flatMap iL:=by
 rw [← bp hx,cT,List.flatMap_append]
 simp
def KG (a:BitVec 32):IntKind.u8.wrap (Int.fdiv (a.toNat:Int) (2^24))=((UInt8.ofNat (a.toNat/16777216)).toNat:Int):=by
 have:=a.isLt
 exact qgq
def KF (a:BitVec 32):IntKind.u8.wrap (Int.fdiv (a.toNat:Int) (2^16))=((UInt8.ofNat (a.toNat/65536 % 256)).toNat:Int):=by
 exact qgq
def RV (a:BitVec 32):IntKind.u8.wrap (Int.fdiv (a.toNat:Int) (2^8))=((UInt8.ofNat (a.toNat/256 % 256)).toNat:Int):=by
 exact qgq
def RU (a:BitVec 32):IntKind.u8.wrap (a.toNat:Int)=((UInt8.ofNat (a.toNat % 256)).toNat:Int):=by
 exact qrp
def KO {ys:List UInt8} {a b c d:UInt8} (h:4≤ys.length):(((ys.set 0 a).set 1 b).set 2 c).set 3 d= [a,b,c,d]++ys.drop 4:=by
 match ys,h with
 |_::_::_::_::l,_=>rfl
def Le (aU:OA) (bb:Nat) (xs:List aT):Ct Cp 173 #[sl aU xs.length bb] (fun w=>ir aU xs w) [] (fun v Cs=>v=.bool (decide (1≤xs.length∧xs.length≤8∧ ∀x∈xs,bV x.o))∧Cs= []):=by
 refine cc Tryz.func173 fun w0 hp=>aa 4 fun _=>ed 0 (σ:=Nat) (fun k=> [(0,sl aU xs.length bb),(2,.bool false),(3,iv k)]) (fun k=> []) (fun k=>k≤xs.length∧ ∀x∈xs.take k,bV x.o) (fun k=>xs.length-k) ?_ ?_
 ·intro _ cG
  refine aa 6 fun _=>cG _ 0 [] kr ⟨by omega,by simp⟩
 ·rintro _ k ⟨hk,hy⟩ dm
  refine aa 8 fun _=>aq ((k:Int)=(xs.length:Int)) (fun h1=>?_) (fun h1=>?_)
  ·refine aa 5 fun _=>aG 10 ((k:Int)≥1) (fun h2=>?_) (fun h2=>?_)
   ·refine aa 5 fun _=>a_ [] ⟨kt (.bool (decide ((k:Int)≤8))) (dP qc9),kr⟩
   ·refine aa 5 fun _=>a_ [] ⟨kt (.bool false) (dP (df (fun h=>qvj))),kr⟩
  ·refine aa 6 fun _=>aV aU xs.length (k:Int) 12 qe9 ?_
   obtain ⟨x3,e4⟩:=aw (xs:=xs) (k:=k) (by omega)
   refine bd 56 (ad aU (k*12) 0) (bx.V x3) (fun w h=>bN (K:=bx) (hp.2.1.aE h.ch) e4)<|ah (wJ x3) [] (fun w h=>((hp.2.2 x3 (aI e4)).aE h.ch)) ?_
   rintro _ _ ⟨rfl,rfl⟩
   refine aa 1 fun _=>aq (bV x3.o) (fun h5=>?_) (fun h5=>?_)
   ·refine aa 4 fun _=>ao (e:=by have:=hp.1;omega) 20 ((k:Int)+1)<|aa 2 fun _=>dm _ (k+1) [] kr ⟨by omega,gG hy e4 (by simpa using h5)⟩ (by omega)
   ·refine aa 5 fun _=>a_ [] ⟨kt (.bool false) (dP (df (fun h=>h5 (h.2.2 x3 (aI e4))))),kr⟩
def uv (f:lD):Ct Cp 122 #[.agg #[iv f.fN,iv f.to,iv f.kind,sl f.Ah f.hv.length f.ch,sl f.Ao f.ops.length f.co]] (fun w=>f.Rd w) [] (fun v Cs=>v=.bool (decide (gN f.d))∧Cs= []):=by
 refine cc Tryz.func122 fun w0 hp=>?_
 have e1:f.hv.length=0↔f.hv= []:=dV
 have e2:f.ops.length=0↔f.ops= []:=dV
 refine ae 12 [0] fun a8=>aG 6 (f.fN<0) (fun h2=>?_) (fun h2=>?_)
 ·refine aa 27 fun _=>R8
 ·refine ae 5 [0] fun _=>aG 11 (f.fN≥16) (fun h3=>?_) (fun h3=>?_)
  ·refine aa 22 fun _=>R8
  ·refine ae 5 [0] fun _=>aG 16 (f.to<0) (fun h4=>?_) (fun h4=>?_)
   ·refine aa 17 fun _=>R8
   ·refine ae 5 [0] fun _=>aG 21 (f.to≥16) (fun h5=>?_) (fun h5=>?_)
    ·refine aa 12 fun _=>R8
    ·refine ae 7 [0,0] fun _=>aq (f.fN=f.to) (fun h6=>?_) (fun h6=>?_)
     ·refine aa 4 fun _=>R8
     ·refine ae 13 [0] fun _=>aq (f.kind=1) (fun h7=>?_) (fun h7=>?_)
      ·refine ae 4 [0] fun _=>ah (xL f.Ah f.ch f.hv hp.1) [] Tr ?_
       rintro _ _ ⟨rfl,rfl⟩
       refine aa 1 fun _=>aG 35 (dW f.hv) (fun h8=>?_) (fun h8=>?_)
       ·refine ae 7 [0] fun _=>a_ [] ⟨kt (.bool (decide ((f.ops.length:Int)=0))) (dP qbz),kr⟩
       ·refine aa 7 fun _=>R8
      ·refine aa 5 fun _=>aq (f.kind=2) (fun h9=>?_) (fun h9=>?_)
       ·refine ae 7 [0] fun _=>aG 47 ((f.hv.length:Int)=0) (fun iJ=>?_) (fun iJ=>?_)
        ·refine ae 2 [0] fun _=>ah (Le f.Ao f.co f.ops) [] Yn ?_
         rintro _ _ ⟨rfl,rfl⟩
         refine aa 3 fun _=>a_ [] ⟨kt (.bool (decide (1≤f.ops.length∧f.ops.length≤8∧ ∀x∈f.ops,bV x.o))) (dP qbz),kr⟩
        ·refine aa 6 fun _=>R8
       ·refine aa 6 fun _=>R8
def tI (f:lD) (hf:gN f.d):Ct Cp 119 #[.agg #[iv f.fN,iv f.to,iv f.kind,sl f.Ah f.hv.length f.ch,sl f.Ao f.ops.length f.co]] (fun w=>f.Rd w) [] (fun v Cs=> ∃A c,v=sl A ((fR f.d).length) c∧Cs= [aA.row A c (fR f.d)]):=by
 refine cc Tryz.func119 fun w0 hp=>?_
 have hf0:=hf.1;have hf1:=hf.2.1;have hf2:=hf.2.2.1;have hf3:=hf.2.2.2.1;have Gz:f.kind=1∨f.kind=2:=hf.2.2.2.2.2.elim (fun h=>.inl h.1) fun h=>.inr h.1
 simp only [lD.d] at hf0 hf1 hf2 hf3
 have q1:=eB (n:=f.fN.toNat) (by omega);have q2:=eB (n:=f.to.toNat) (by omega);have q3:=eB (n:=f.kind.toNat) (by omega)
 have hl:=Lf hf
 have gX:f.ops.length≤8∧ ∀x∈f.ops,bV x.o:=hf.2.2.2.2.2.elim (fun h=>by have h2:f.ops= []:=List.map_eq_nil_iff.1 h.2.2;rw [h2];simp) fun h=>⟨by have:=h.2.2.2.1;simpa [lD.d] using this,fun x hx=>h.2.2.2.2 _ (di hx)⟩
 refine aa 7 fun a8=>XY aA 4 0 fun a2=>ae 15 [0,0,0] fun _=>iH 4<|aa 17 fun _=>ah (put (some a2) 4 (List.replicate 4 0) f.fN (by omega) (by omega) Ze) [1] cJ ?_
 rintro _ _ ⟨A3,c4,rfl,rfl⟩
 refine aa 24 fun _=>ah (put A3 c4 ((List.replicate 4 0)++aQ f.fN.toNat) f.to (by omega) (by omega) Ze) [2] cJ ?_
 rintro _ _ ⟨A5,c6,rfl,rfl⟩
 refine aa 24 fun _=>ah (put A5 c6 (((List.replicate 4 0)++aQ f.fN.toNat)++aQ f.to.toNat) f.kind (by omega) (by omega) Ze) [3] cJ ?_
 rintro _ _ ⟨A7,c8,rfl,rfl⟩
 refine ae 21 [0] fun _=>aq (f.kind=1) (fun h9=>?_) (fun h9=>?_)
 ·have IK:dW f.hv:=hf.2.2.2.2.2.elim (fun k=>k.2.1) fun k=>by have h2:=k.1;simp only [lD.d] at h2;omega
  have q4:=oE (ur IK) (by have:=IK.2.1;omega);have q5:=IK.2.1
  refine ae 4 [0] fun _=>bD (KW A7 c8 ((((List.replicate 4 0)++aQ f.fN.toNat)++aQ f.to.toNat)++aQ f.kind.toNat) f.Ah f.ch f.hv (ur IK) (by omega) Ze) [4] (fun w F h=>hp.2.1.u0.ew h) ?_
  rintro _ _ ⟨po,pK,rfl,rfl⟩
  refine ae 11 [0] fun _=>?_
  have RC:(((((List.replicate 4 0)++aQ f.fN.toNat)++aQ f.to.toNat)++aQ f.kind.toNat)++bS f.hv).length≤700:=by simp only [bm,eA,Int.toNat_natCast];omega
  refine aR (σ:=Nat×OA×Nat×List UInt8) qhu qhd (fun (k,B,d,ys)=>k≤f.ops.length∧ys=(((((List.replicate 4 0)++aQ f.fN.toNat)++aQ f.to.toNat)++aQ f.kind.toNat)++bS f.hv)++((f.ops.take k).map (·.o)).flatMap iL) (fun (k,B,d,ys)=>f.ops.length-k) (0,po,pK,((((List.replicate 4 0)++aQ f.fN.toNat)++aQ f.to.toNat)++aQ f.kind.toNat)++bS f.hv) [5,0] ⟨by omega,by simp⟩ ?_
  rintro _ ⟨k,B,d,ys⟩ ⟨hk,hy⟩ aB
  refine aa 5 fun _=>aq ((k:Int)<(f.ops.length:Int)) (fun xw=>?_) (fun xw=>?_)
  ·refine aa 5 fun _=>aV (hj:=by (try simp only [cX]);omega) f.Ao f.ops.length (k:Int) 12 quu ?_
   obtain ⟨wH,zC⟩:=aw (xs:=f.ops) (k:=k) Bk
   refine bd 56 (((cz f.Ao).add (k*12)).add 0) (bx.V wH) (fun w h=>bN (K:=bx) (hp.2.2.2.1.aE h.ch) zC)<|ae 6 [2,2] fun Bc=>bD (KX B d ys wH (gX.2 _ (aI zC)) qev) [0] (fun w F h=>(show aT.gx _ _ _ from (hp.2.2.2.2 wH (aI zC)).u0.ew h)) ?_
   rintro _ _ ⟨F9,Es,rfl,rfl⟩
   refine aa 5 fun _=>ao (e:=by have:=gX.1;omega) 46 ((k:Int)+1)<|aa 2 fun _=>aB _ (k+1,F9,Es,ys++iL wH.o) [3,1] kr ⟨by omega,by rw [hy,cH,BA zC]⟩ du
  ·refine aa 4 fun _=>?_
   have hz:ys=List.replicate 4 0++mU f.d:=by rw [hy,cA (by omega)];unfold mU lD.d;simp only [h9,if_true,if_false,cH,Int.toNat_natCast,cM]
   have NC:4≤ys.length∧ys.length≤4004:=by rw [hz,bm,eA];omega
   have R6:ys.drop 4=mU f.d:=by rw [hz];exact List.drop_left' rfl
   refine dN (φ:=ys.length≤d) qp4 fun agt=>fC B ys.length d 1 4 ys.length (some (iv 4)) none (⟨_,rfl⟩) (by omega) agt<|aC 48 (sl (dS B d 4 1) ((ys.drop 4).length) (d-4)) (sl (dS B d 4 1) (ys.length-4) (d-4)) yu<|ah (sum (dS B d 4 1) (d-4) (ys.drop 4) ub) [] qn9 ?_
   rintro _ _ ⟨rfl,rfl⟩
   refine aa 11 fun _=>aC 56 (.int .u8 ((UInt8.ofNat ((cj (ys.drop 4)).toNat/16777216)).toNat:Int)) (.int .u8 (IntKind.u8.wrap (Int.fdiv ((cj (ys.drop 4)).toNat:Int) (2^24)))) qnj<|aa 3 fun _=>aC 59 (.int .u8 ((UInt8.ofNat ((cj (ys.drop 4)).toNat/65536 % 256)).toNat:Int)) (.int .u8 (IntKind.u8.wrap (Int.fdiv ((cj (ys.drop 4)).toNat:Int) (2^16)))) qnk<|aa 3 fun _=>aC 62 (.int .u8 ((UInt8.ofNat ((cj (ys.drop 4)).toNat/256 % 256)).toNat:Int)) (.int .u8 (IntKind.u8.wrap (Int.fdiv ((cj (ys.drop 4)).toNat:Int) (2^8)))) qns<|aa 2 fun _=>aC 64 (.int .u8 ((UInt8.ofNat ((cj (ys.drop 4)).toNat % 256)).toNat:Int)) (.int .u8 (IntKind.u8.wrap ((cj (ys.drop 4)).toNat:Int))) qnt<|aV (hj:=by (try simp only [cX]);omega) B ys.length 0 1 qu6 ?_
   obtain ⟨m0,rj⟩:=aw (xs:=ys) (k:=0) Bk
   refine gH aA 0 B d ys 0 0 m0 (UInt8.ofNat ((cj (ys.drop 4)).toNat/16777216)) 5 (.int .u8 ((UInt8.ofNat ((cj (ys.drop 4)).toNat/16777216)).toNat:Int)) rj<|aV (hj:=by (try simp only [cX]);omega) B ys.length 1 1 qt0 ?_
   obtain ⟨sd,Hi⟩:=aw (xs:=ys.set 0 (UInt8.ofNat ((cj (ys.drop 4)).toNat/16777216))) (k:=1) Bk
   refine gH aA 0 B d (ys.set 0 (UInt8.ofNat ((cj (ys.drop 4)).toNat/16777216))) 1 0 sd (UInt8.ofNat ((cj (ys.drop 4)).toNat/65536 % 256)) 5 (.int .u8 ((UInt8.ofNat ((cj (ys.drop 4)).toNat/65536 % 256)).toNat:Int)) Hi<|aV (hj:=by (try simp only [cX]);omega) B ys.length 2 1 qtl ?_
   obtain ⟨vf,Et⟩:=aw (xs:=(ys.set 0 (UInt8.ofNat ((cj (ys.drop 4)).toNat/16777216))).set 1 (UInt8.ofNat ((cj (ys.drop 4)).toNat/65536 % 256))) (k:=2) Bk
   refine gH aA 0 B d ((ys.set 0 (UInt8.ofNat ((cj (ys.drop 4)).toNat/16777216))).set 1 (UInt8.ofNat ((cj (ys.drop 4)).toNat/65536 % 256))) 2 0 vf (UInt8.ofNat ((cj (ys.drop 4)).toNat/256 % 256)) 5 (.int .u8 ((UInt8.ofNat ((cj (ys.drop 4)).toNat/256 % 256)).toNat:Int)) Et<|aV (hj:=by (try simp only [cX]);omega) B ys.length 3 1 qtb ?_
   obtain ⟨Az,Te⟩:=aw (xs:=((ys.set 0 (UInt8.ofNat ((cj (ys.drop 4)).toNat/16777216))).set 1 (UInt8.ofNat ((cj (ys.drop 4)).toNat/65536 % 256))).set 2 (UInt8.ofNat ((cj (ys.drop 4)).toNat/256 % 256))) (k:=3) Bk
   refine gH aA 0 B d (((ys.set 0 (UInt8.ofNat ((cj (ys.drop 4)).toNat/16777216))).set 1 (UInt8.ofNat ((cj (ys.drop 4)).toNat/65536 % 256))).set 2 (UInt8.ofNat ((cj (ys.drop 4)).toNat/256 % 256))) 3 0 Az (UInt8.ofNat ((cj (ys.drop 4)).toNat % 256)) 5 (.int .u8 ((UInt8.ofNat ((cj (ys.drop 4)).toNat % 256)).toNat:Int)) Te<|qbv
 ·have q4:=eB (n:=f.ops.length) (by omega)
  refine ae 5 [0] fun _=>ah (put A7 c8 ((((List.replicate 4 0)++aQ f.fN.toNat)++aQ f.to.toNat)++aQ f.kind.toNat) (f.ops.length:Int) (by omega) (by omega) Ze) [4] cJ ?_
  rintro _ _ ⟨C8,Gw,rfl,rfl⟩
  refine ae 11 [0] fun _=>?_
  have RC:(((((List.replicate 4 0)++aQ f.fN.toNat)++aQ f.to.toNat)++aQ f.kind.toNat)++aQ (f.ops.length:Int).toNat).length≤700:=by simp only [bm,eA,Int.toNat_natCast];omega
  refine aR (σ:=Nat×OA×Nat×List UInt8) qhu qhd (fun (k,B,d,ys)=>k≤f.ops.length∧ys=(((((List.replicate 4 0)++aQ f.fN.toNat)++aQ f.to.toNat)++aQ f.kind.toNat)++aQ (f.ops.length:Int).toNat)++((f.ops.take k).map (·.o)).flatMap iL) (fun (k,B,d,ys)=>f.ops.length-k) (0,C8,Gw,((((List.replicate 4 0)++aQ f.fN.toNat)++aQ f.to.toNat)++aQ f.kind.toNat)++aQ (f.ops.length:Int).toNat) [5,0] ⟨by omega,by simp⟩ ?_
  rintro _ ⟨k,B,d,ys⟩ ⟨hk,hy⟩ dG
  refine aa 5 fun _=>aq ((k:Int)<(f.ops.length:Int)) (fun Tz=>?_) (fun Tz=>?_)
  ·refine aa 5 fun _=>aV (hj:=by (try simp only [cX]);omega) f.Ao f.ops.length (k:Int) 12 quu ?_
   obtain ⟨xX,Gx⟩:=aw (xs:=f.ops) (k:=k) Bk
   refine bd 56 (((cz f.Ao).add (k*12)).add 0) (bx.V xX) (fun w h=>bN (K:=bx) (hp.2.2.2.1.aE h.ch) Gx)<|ae 6 [2,2] fun YN=>bD (KX B d ys xX (gX.2 _ (aI Gx)) qev) [0] (fun w F h=>(show aT.gx _ _ _ from (hp.2.2.2.2 xX (aI Gx)).u0.ew h)) ?_
   rintro _ _ ⟨G4,G5,rfl,rfl⟩
   refine aa 5 fun _=>ao (e:=by have:=gX.1;omega) 46 ((k:Int)+1)<|aa 2 fun _=>dG _ (k+1,G4,G5,ys++iL xX.o) [3,1] kr ⟨by omega,by rw [hy,cH,BA Gx]⟩ du
  ·refine aa 4 fun _=>?_
   have hz:ys=List.replicate 4 0++mU f.d:=by rw [hy,cA (by omega)];unfold mU lD.d;simp only [h9,if_true,if_false,cH,Int.toNat_natCast,cM]
   have NC:4≤ys.length∧ys.length≤4004:=by rw [hz,bm,eA];omega
   have R6:ys.drop 4=mU f.d:=by rw [hz];exact List.drop_left' rfl
   refine dN (φ:=ys.length≤d) qp4 fun agu=>fC B ys.length d 1 4 ys.length (some (iv 4)) none (⟨_,rfl⟩) (by omega) agu<|aC 48 (sl (dS B d 4 1) ((ys.drop 4).length) (d-4)) (sl (dS B d 4 1) (ys.length-4) (d-4)) yu<|ah (sum (dS B d 4 1) (d-4) (ys.drop 4) ub) [] qn9 ?_
   rintro _ _ ⟨rfl,rfl⟩
   refine aa 11 fun _=>aC 56 (.int .u8 ((UInt8.ofNat ((cj (ys.drop 4)).toNat/16777216)).toNat:Int)) (.int .u8 (IntKind.u8.wrap (Int.fdiv ((cj (ys.drop 4)).toNat:Int) (2^24)))) qnj<|aa 3 fun _=>aC 59 (.int .u8 ((UInt8.ofNat ((cj (ys.drop 4)).toNat/65536 % 256)).toNat:Int)) (.int .u8 (IntKind.u8.wrap (Int.fdiv ((cj (ys.drop 4)).toNat:Int) (2^16)))) qnk<|aa 3 fun _=>aC 62 (.int .u8 ((UInt8.ofNat ((cj (ys.drop 4)).toNat/256 % 256)).toNat:Int)) (.int .u8 (IntKind.u8.wrap (Int.fdiv ((cj (ys.drop 4)).toNat:Int) (2^8)))) qns<|aa 2 fun _=>aC 64 (.int .u8 ((UInt8.ofNat ((cj (ys.drop 4)).toNat % 256)).toNat:Int)) (.int .u8 (IntKind.u8.wrap ((cj (ys.drop 4)).toNat:Int))) qnt<|aV (hj:=by (try simp only [cX]);omega) B ys.length 0 1 qu6 ?_
   obtain ⟨Xg,e37⟩:=aw (xs:=ys) (k:=0) Bk
   refine gH aA 0 B d ys 0 0 Xg (UInt8.ofNat ((cj (ys.drop 4)).toNat/16777216)) 5 (.int .u8 ((UInt8.ofNat ((cj (ys.drop 4)).toNat/16777216)).toNat:Int)) e37<|aV (hj:=by (try simp only [cX]);omega) B ys.length 1 1 qt0 ?_
   obtain ⟨x38,e39⟩:=aw (xs:=ys.set 0 (UInt8.ofNat ((cj (ys.drop 4)).toNat/16777216))) (k:=1) Bk
   refine gH aA 0 B d (ys.set 0 (UInt8.ofNat ((cj (ys.drop 4)).toNat/16777216))) 1 0 x38 (UInt8.ofNat ((cj (ys.drop 4)).toNat/65536 % 256)) 5 (.int .u8 ((UInt8.ofNat ((cj (ys.drop 4)).toNat/65536 % 256)).toNat:Int)) e39<|aV (hj:=by (try simp only [cX]);omega) B ys.length 2 1 qtl ?_
   obtain ⟨jM,GY⟩:=aw (xs:=(ys.set 0 (UInt8.ofNat ((cj (ys.drop 4)).toNat/16777216))).set 1 (UInt8.ofNat ((cj (ys.drop 4)).toNat/65536 % 256))) (k:=2) Bk
   refine gH aA 0 B d ((ys.set 0 (UInt8.ofNat ((cj (ys.drop 4)).toNat/16777216))).set 1 (UInt8.ofNat ((cj (ys.drop 4)).toNat/65536 % 256))) 2 0 jM (UInt8.ofNat ((cj (ys.drop 4)).toNat/256 % 256)) 5 (.int .u8 ((UInt8.ofNat ((cj (ys.drop 4)).toNat/256 % 256)).toNat:Int)) GY<|aV (hj:=by (try simp only [cX]);omega) B ys.length 3 1 qtb ?_
   obtain ⟨zN,DC⟩:=aw (xs:=((ys.set 0 (UInt8.ofNat ((cj (ys.drop 4)).toNat/16777216))).set 1 (UInt8.ofNat ((cj (ys.drop 4)).toNat/65536 % 256))).set 2 (UInt8.ofNat ((cj (ys.drop 4)).toNat/256 % 256))) (k:=3) Bk
   refine gH aA 0 B d (((ys.set 0 (UInt8.ofNat ((cj (ys.drop 4)).toNat/16777216))).set 1 (UInt8.ofNat ((cj (ys.drop 4)).toNat/65536 % 256))).set 2 (UInt8.ofNat ((cj (ys.drop 4)).toNat/256 % 256))) 3 0 zN (UInt8.ofNat ((cj (ys.drop 4)).toNat % 256)) 5 (.int .u8 ((UInt8.ofNat ((cj (ys.drop 4)).toNat % 256)).toNat:Int)) DC<|qbv
def rP {α:Type} (K:Kd α) (A:OA) (xs:List α) (A2:OA) (ys:List α):Prop:= ∀U w,K.gx A xs U w→K.gx A2 ys U w
def rP.refl {α:Type} (K:Kd α) (A:OA) (xs:List α):rP K A xs A xs:=fun _ _ h=>h
def rP.step {α:Type} {K:Kd α} {A A2:OA} {xs ys zs:List α} {c l:Nat} (h:rP K A xs A2 ys) (hc:ys.length≤c) (e:ys.drop l=zs):rP K A xs (dS A2 c l K.sz) zs:=fun U w hr=>by rw [← e];exact Kd.KU (h U w hr) hc
def rQ {l:List Int} {k:Nat} {x:Int} {ys rest:List UInt8} (hx:l[k]? =some x) (h:ys=((l.drop k).flatMap fun x=>aQ x.toNat)++rest):ys=aQ x.toNat++(((l.drop (k+1)).flatMap fun x=>aQ x.toNat)++rest):=by rw [h,mv hx,cH]
def vR (f:pU):List UInt8:=(if f.kind=1 then bS f.hv else aQ f.ops.length)++f.ops.flatMap iL
def UF (f:pU):mU f=(([f.fN,f.to,f.kind]:List Int).flatMap fun x=>aQ x.toNat)++vR f:=by
 unfold mU vR
 simp only [iE,List.flatMap_nil,cH,fj]
def uF {l:List bz} {k:Nat} {x:bz} {ys:List UInt8} (hx:l[k]? =some x) (h:ys=(l.drop k).flatMap iL):ys=iL x++(l.drop (k+1)).flatMap iL:=by
 have hk:k<l.length:=(aN.1 hx).1
 have e:l[k]=x:=(aN.1 hx).2
 rw [h,fI hk,e,iE]
def BE {ys a b:List UInt8} (h:ys=a++b):ys.drop a.length=b:=by rw [h,List.drop_left' rfl]
def numbers (aU:OA) (bb:Nat) (xs:List UInt8) (n:Nat) (fE:List Int) (rest:List UInt8) (hn:n=fE.length) (hx:xs=(fE.flatMap fun x=>aQ x.toNat)++rest) (hv: ∀x∈fE,0≤x∧x≤4611686018427387904) (hl:fE.length≤1024) (hb:xs.length≤1073741824) (lV:xs.length≤bb):Ct Cp 172 #[sl aU xs.length bb,iv n] (fun w=>aA.Rd aU xs w) [] (fun v Cs=> ∃A c A2 c2,v=.tuple #[sl A fE.length c,sl A2 rest.length c2,.bool true]∧rP aA aU xs A2 rest∧rest.length≤c2∧Cs= [az.row A c fE]):=by
 refine cc Tryz.func172 fun w0 hp=>aa 13 fun _=>bG az<|aR (σ:=Nat×OA×Nat×List Int×OA×Nat×List UInt8) (fun (k,B,d,ys,A2,c2,zs)=> [(0,sl A2 zs.length c2),(4,sl B ys.length d),(5,sl none 0 0),(6,.bool false),(10,iv n),(11,iv k)]) (fun (k,B,d,ys,A2,c2,zs)=> [.k (az.row B d ys)]) (fun (k,B,d,ys,A2,c2,zs)=>k≤fE.length∧ys=fE.take k∧zs=((fE.drop k).flatMap fun x=>aQ x.toNat)++rest∧rP aA aU xs A2 zs∧zs.length≤c2∧zs.length≤1073741824) (fun (k,B,d,ys,A2,c2,zs)=>fE.length-k) (0,none,0,[],aU,bb,xs) [0] ⟨by omega,rfl,hx,rP.refl _ _ _,lV,hb⟩ ?_
 rintro _ ⟨k,B,d,ys,A2,c2,zs⟩ ⟨hk,hy,hz,ht,UG,NC⟩ aB
 refine aa 5 fun _=>aq ((k:Int)<(n:Int)) (fun h1=>?_) (fun h1=>?_)
 ·obtain ⟨x2,e3⟩:=aw (xs:=fE) (k:=k) (by omega)
  have hxx:=hv x2 (aI e3)
  have PB:=qo (rQ e3 hz)
  refine aa 6 fun _=>ah (n_ A2 c2 zs x2 _ (rQ e3 hz) (by omega) (by omega) (by omega)) [] qou ?_
  rintro _ _ ⟨rfl,rfl⟩
  refine aa 16 fun _=>aO [(3,_),(6,_)] [] ⟨ib (hb:=fun _=>by rw [hy,b0];omega) az 0 (fun vs=>B) (fun vs=>d) (fun vs=>ys) (fun vs=>some ⟨(a5 (vs 2)),0,none⟩) (fun vs=>1) (fun vs=>1) (fun vs=> [x2]) (fun vs w h=>h.eT 0 (a5 (vs 2)) 3 (List.flatMap az.f [x2]) kr),qp ((zs.drop ((aQ x2.toNat).length)).length) A2 zs.length c2 ((aQ x2.toNat).length) zs.length 1 (some (iv ((aQ x2.toNat).length:Int))) none yu (⟨_,rfl⟩) (fun vs w h=>UG),trivial⟩ fun v4=>aa 3 fun _=>ao 28 ((k:Int)+1)<|aa 2 fun _=>aB _ (k+1,ak (v4 3),an (v4 3),ys++ [x2],dS A2 c2 ((aQ x2.toNat).length) 1,c2- ((aQ x2.toNat).length),zs.drop ((aQ x2.toNat).length)) [2] kr ⟨by omega,by rw [hy,bp e3],BE (rQ e3 hz),ht.step UG rfl,by rw [cL];omega,by rw [cL];omega⟩ du
 ·refine aa 9 fun _=>?_
  rw [cA (by omega)] at hy
  have wu:zs=rest:=by rw [hz,eJ (by omega)];rfl
  subst hy
  subst wu
  exact a_ [0] ⟨B,d,A2,c2,kr,ht,UG,kr⟩
def HC (aU:OA) (bb:Nat) (xs:List UInt8) (f:pU) (hx:xs=mU f) (hf:gN f) (hb:xs.length≤1073741824) (lV:xs.length≤bb):Ct Cp 121 #[sl aU xs.length bb] (fun w=>aA.Rd aU xs w) [] (fun v Cs=> ∃Ah ch ops Ao co,v=.tuple #[.agg #[iv f.fN,iv f.to,iv f.kind,sl Ah f.hv.length ch,sl Ao ops.length co],.bool true]∧ops.map (·.o)=f.ops∧Cs= [az.row Ah ch f.hv,bx.row Ao co ops,aM.all (ops.map aT.own)]):=by
 refine cc Tryz.func121 fun w0 hp=>?_
 have hf0:=hf.1;have hf1:=hf.2.1;have hf2:=hf.2.2.1;have hf3:=hf.2.2.2.1;have Gz:f.kind=1∨f.kind=2:=hf.2.2.2.2.2.elim (fun h=>.inl h.1) fun h=>.inr h.1
 have e0:xs=(([f.fN,f.to,f.kind]:List Int).flatMap fun x=>aQ x.toNat)++vR f:=by rw [hx,UF]
 have hl0:=qo e0
 refine aa 8 fun a8=>ah (numbers aU bb xs 3 [f.fN,f.to,f.kind] (vR f) rfl e0 ql9 (by simp) hb lV) [] il ?_
 rintro _ _ ⟨A2,c3,A4,c5,rfl,f6,f7,rfl⟩
 have I9:(vR f).length≤1073741824:=by have:=congrArg List.length e0;rw [bm] at this;omega
 refine aa 17 fun _=>aO [(1,_),(2,_),(4,_),(5,_),(7,_),(8,_)] [0,2,3] ⟨br (hj:=fun _=>by simp) (fun vs=>A2) (fun vs=> [f.fN,f.to,f.kind].length) (fun vs=>0) 1 (fun vs w h=>Kd.cd (K:=az) (xs:= [f.fN,f.to,f.kind]) (h.bg 1 A2 c3 [f.fN,f.to,f.kind] kr) (by simp)),cZ 3 (fun vs=>ad A2 (0*1) 0) (fun vs=>iv f.fN) (fun vs w h=>bW (K:=az) (h.bg 1 A2 c3 [f.fN,f.to,f.kind] kr) rfl),br (hj:=fun _=>by simp) (fun vs=>A2) (fun vs=> [f.fN,f.to,f.kind].length) (fun vs=>1) 1 qiv,cZ 3 (fun vs=>ad A2 (1*1) 0) (fun vs=>iv f.to) qk6,br (hj:=fun _=>by simp) (fun vs=>A2) (fun vs=> [f.fN,f.to,f.kind].length) (fun vs=>2) 1 qiv,cZ 3 (fun vs=>ad A2 (2*1) 0) (fun vs=>iv f.kind) qk6,trivial⟩ fun v8=>ae 7 [4] fun _=>aq (f.kind=1) (fun h9=>?_) (fun h9=>?_)
 ·have hk:=h9;have hq:=hf.2.2.2.2.2.resolve_right fun k=>by have:=k.1;omega
  refine aa 3 fun _=>ah (Bi A4 c5 (vR f) f.hv [] (by unfold vR;rw [if_pos hk,hq.2.2];rfl) hq.2.1 I9 f7) [] qov ?_
  rintro _ _ ⟨po,pK,rfl,rfl⟩
  refine ae 22 [4,4,4] fun _=>bG bx<|dQ<|bk [4] [5,6,7] ⟨po,pK,([]:List aT),none,0,kr,hq.2.2.symm,kr⟩
 ·have hk:=h9;have hq:=hf.2.2.2.2.2.resolve_left fun k=>hk k.1;have e1:vR f=(([(f.ops.length:Int)]:List Int).flatMap fun x=>aQ x.toNat)++f.ops.flatMap iL:=(by unfold vR;rw [if_neg hk];simp);have hq3:=hq.2.2.1;have hq4:=hq.2.2.2.1
  refine aa 4 fun _=>ah (numbers A4 c5 (vR f) 1 [(f.ops.length:Int)] (f.ops.flatMap iL) rfl e1 ql9 (by simp) I9 f7) [] qov ?_
  rintro _ _ ⟨nf,mD,GG,J9,rfl,f16,f17,rfl⟩
  have zG:rP aA aU xs GG (f.ops.flatMap iL):=fun U w h=>f16 U w (f6 U w h)
  refine aa 15 fun _=>aV (hj:=by simp) nf ([(f.ops.length:Int)].length) 0 1 qit<|bd 3 (ad nf (0*1) 0) (iv (f.ops.length:Int)) qk4<|aa 3 fun _=>aq ((f.ops.length:Int)>8) (fun vI=>?_) (fun vI=>?_)
  ·exact kp
  ·refine aa 5 fun _=>aV (hj:=by simp) nf ([(f.ops.length:Int)].length) 0 1 qit<|bd 3 (ad nf (0*1) 0) (iv (f.ops.length:Int)) qk4<|aa 3 fun _=>bG bx<|dQ<|aR (σ:=Nat×OA×Nat×List aT×OA×Nat×List UInt8) (fun (k,B,d,ys,A2,c2,zs)=> [(0,sl A2 zs.length c2),(2,pv (a8 2)),(3,.bool true),(63,iv (f.ops.length:Int)),(64,iv k)]) (fun (k,B,d,ys,A2,c2,zs)=> [.b (a8 2) 168 [iv f.fN,iv f.to,iv f.kind,sl none 0 0,sl B ys.length d],.k (bx.row B d ys),.k (aM.all (ys.map aT.own))]) (fun (k,B,d,ys,A2,c2,zs)=>k≤f.ops.length∧ys.map (·.o)=f.ops.take k∧zs=(f.ops.drop k).flatMap iL∧rP aA aU xs A2 zs∧zs.length≤c2∧zs.length≤1073741824) (fun (k,B,d,ys,A2,c2,zs)=>f.ops.length-k) (0,none,0,[],GG,J9,_) [4,6,7] ⟨by omega,rfl,rfl,zG,f17,by have:=congrArg List.length e1;rw [bm] at this;rw [List.drop_zero];omega⟩ ?_
   rintro _ ⟨k,B,d,ys,A2,c2,zs⟩ ⟨sE,hy,hz,ht,UG,NC⟩ aB
   refine aa 5 fun _=>aq ((k:Int)<(f.ops.length:Int)) (fun Ey=>?_) (fun Ey=>?_)
   ·obtain ⟨nw,Aj⟩:=aw (xs:=f.ops) (k:=k) (by omega)
    have PB:=qo (uF Aj hz)
    refine aa 6 fun _=>ah (KZ A2 c2 zs nw _ (uF Aj hz) (hq.2.2.2.2 _ (aI Aj)) (by omega) UG) [] qou ?_
    rintro _ _ ⟨wZ,vH,rfl,rfl⟩
    refine ae 17 [4] fun ue=>aO [(4,_),(7,_)] [0,4,0] ⟨ib (hb:=fun _=>by have:=congrArg List.length hy;rw [cM,b0] at this;omega) bx 1 (fun vs=>B) (fun vs=>d) (fun vs=>ys) (fun vs=>some ⟨(a5 (vs 3)),0,none⟩) (fun vs=>1) (fun vs=>1) (fun vs=> [(⟨nw,wZ,vH⟩:aT)]) (fun vs w h=>h.eT 4 (a5 (vs 3)) 56 (List.flatMap bx.f [(⟨nw,wZ,vH⟩:aT)]) kr),qp ((zs.drop ((iL nw).length)).length) A2 zs.length c2 ((iL nw).length) zs.length 1 (some (iv ((iL nw).length:Int))) none yu (⟨_,rfl⟩) (fun vs w h=>UG),trivial⟩ fun Cx=>aa 3 fun _=>ao 84 ((k:Int)+1)<|aa 2 fun _=>eD aT.own 3 2 ys (⟨nw,wZ,vH⟩:aT) kr<|aB _ (k+1,ak (Cx 4),an (Cx 4),ys++ [(⟨nw,wZ,vH⟩:aT)],dS A2 c2 ((iL nw).length) 1,c2- ((iL nw).length),zs.drop ((iL nw).length)) [7,6,8] kr ⟨by omega,by rw [cT,hy,← bp Aj];rfl,BE (uF Aj hz),ht.step UG rfl,by rw [cL];omega,by rw [cL];omega⟩ du
   ·refine ae 7 [0,0] fun _=>bG az<|aS az 3 none 0 [] f.hv kr hq.2.1.symm<|bk [0] [4,1,2] ⟨none,0,ys,B,d,kt (.tuple #[.agg #[iv f.fN,iv f.to,iv f.kind,sl none 0 0,sl B ys.length d],.bool true]) (by rw [hq.2.1];rfl),by rw [hy,cA (by omega)],kr⟩
def yE (b:UInt8):IntKind.u32.wrap (b.toNat:Int)=(b.toNat:Int):=by
 exact qje
def aga (b:UInt8):IntKind.u32.wrap ((b.toNat:Int)*2^24)=((b.toNat*16777216:Nat):Int):=by
 exact qje
def agb (b:UInt8):IntKind.u32.wrap ((b.toNat:Int)*2^16)=((b.toNat*65536:Nat):Int):=by
 exact qje
def sh8 (b:UInt8):IntKind.u32.wrap ((b.toNat:Int)*2^8)=((b.toNat*256:Nat):Int):=by
 exact qje
def VT {a b:Nat} (i:Nat) (h:a<2^i) (hb:b*2^i+a<4294967296):IntKind.u32.wrap (BitVec.ofInt 32 ((b*2^i:Nat):Int)|||BitVec.ofInt 32 (a:Int)).toNat=((b*2^i+a:Nat):Int):=by
 rw [BitVec.ofInt_natCast,BitVec.ofInt_natCast,BitVec.toNat_or,BitVec.toNat_ofNat,BitVec.toNat_ofNat,Nat.mod_eq_of_lt (by omega),Nat.mod_eq_of_lt (by omega)]
 have:=Nat.shiftLeft_add_eq_or_of_lt h b
 rw [Nat.shiftLeft_eq] at this
 rw [← this,wrap_u32]
 omega
def Zo (a b:UInt8):IntKind.u32.wrap (BitVec.ofInt 32 ((a.toNat*16777216:Nat):Int)|||BitVec.ofInt 32 ((b.toNat*65536:Nat):Int)).toNat=(((a.toNat*256+b.toNat)*65536:Nat):Int):=by
 have:=a.toNat_lt
 have:=b.toNat_lt
 rw [VT (b:=a.toNat) (a:=b.toNat*65536) 24 (by omega) (by omega)]
 omega
def Zp (n:Nat) (c:UInt8) (h:n<65536):IntKind.u32.wrap (BitVec.ofInt 32 ((n*65536:Nat):Int)|||BitVec.ofInt 32 ((c.toNat*256:Nat):Int)).toNat=(((n*256+c.toNat)*256:Nat):Int):=by
 have:=c.toNat_lt
 rw [VT (b:=n) (a:=c.toNat*256) 16 (by omega) (by omega)]
 omega
def agc (n:Nat) (c:UInt8) (h:n<16777216):IntKind.u32.wrap (BitVec.ofInt 32 ((n*256:Nat):Int)|||BitVec.ofInt 32 (c.toNat:Int)).toNat=((n*256+c.toNat:Nat):Int):=by
 have:=c.toNat_lt
 rw [VT (b:=n) (a:=c.toNat) 8 (by omega) (by omega)]
def y8 {xs:List UInt8} {a b c d:UInt8} (ha:xs[0]? =some a) (hb:xs[1]? =some b) (hc:xs[2]? =some c) (hd:xs[3]? =some d):xs.take 4= [a,b,c,d]:=by
 match xs,ha,hb,hc,hd with
 |x0::x1::x2::x3::l,ha,hb,hc,hd=>
  simp at ha hb hc hd
  simp [ha,hb,hc,hd]
def q7 (s:BitVec 32) (a b c d:UInt8): [a,b,c,d]=fp s↔((a.toNat*256+b.toNat)*256+c.toNat)*256+d.toNat=s.toNat:=by
 have:=a.toNat_lt
 have:=b.toNat_lt
 have:=c.toNat_lt
 have:=d.toNat_lt
 have:=s.isLt
 have e: ∀(x:UInt8) (n:Nat),n<256→(x=UInt8.ofNat n↔x.toNat=n):=fun x n hn=>by
  rw [← UInt8.toNat_inj,UInt8.toNat_ofNat']
  rw [Nat.mod_eq_of_lt (by omega)]
 unfold fp
 simp only [List.cons.injEq,and_true]
 rw [e _ _ (by omega),e _ _ (by omega),e _ _ (by omega),e _ _ (by omega)]
 omega
def _root_.Go.bE.SH.E5 {U:Nat→Prop} {w0 w:World} {H:List HB} (h:SH U w0 w H) (i j:Nat) (A:OA) (c:Nat) (xs:List aT) (hi:(dR H.length [i],pk H [i])=(true,[bx.row A c xs])) (hj:(dR H.length [j],pk H [j])=(true,[aM.all (xs.map aT.own)])) (hb:xs.length≤1073741824) (hd: ∀x∈xs,x.o.aX.length≤1073741824):ir A xs w:=by
 refine ⟨hb,h.bg i A c xs hi,fun x hx=>⟨hd x hx,?_⟩⟩
 simp only [bI] at hj
 exact SS.get h (SH.gf hj.1 hj.2) fun F hF=>by
  exact qkw
def gg {o:bz} (h:bV o):o.aX.length≤1073741824:=by have:=h.2.1.2.1;omega
def L7 {f:pU} (h:gN f) {ops:List aT} (e:ops.map (·.o)=f.ops):ops.length≤8∧ ∀x∈ops,bV x.o:=by
 have hl:=congrArg List.length e
 rw [cM] at hl
 rcases h.2.2.2.2.2 with k|k
 ·rw [k.2.2] at e
  have:=List.map_eq_nil_iff.1 e
  subst this
  simp
 ·exact ⟨by have:=k.2.2.2.1;omega,fun x hx=>k.2.2.2.2 _ (by rw [← e];exact di hx)⟩
def E7 {f:pU} (h:gN f):f.hv.length≤16:=by
 rcases h.2.2.2.2.2 with k|k
 ·exact k.2.1.2.1
 ·rw [k.2.1];simp
def Fc (aU:OA) (bb:Nat) (xs:List UInt8) (f:pU) (hx:xs=fR f) (hf:gN f) (hb:xs.length≤1073741824) (lV:xs.length≤bb):Ct Cp 81 #[sl aU xs.length bb] (fun w=>aA.Rd aU xs w) [] (fun v Cs=> ∃Ah ch ops Ao co,v=.tuple #[.agg #[iv f.fN,iv f.to,iv f.kind,sl Ah f.hv.length ch,sl Ao ops.length co],iv 0]∧ops.map (·.o)=f.ops∧Cs= [az.row Ah ch f.hv,bx.row Ao co ops,aM.all (ops.map aT.own)]):=by
 refine cc Tryz.func81 fun w0 hp=>?_
 have zI:4≤xs.length:=by rw [hx];exact (nX f).1
 have hx4:xs.take 4=fp (cj (xs.drop 4)):=by rw [hx];exact (nX f).2
 have Wo:xs.drop 4=mU f:=by rw [hx];exact List.drop_left' rfl
 refine aa 12 fun a8=>aq ((xs.length:Int)<4) (fun h2=>?_) (fun h2=>?_)
 ·exact kp
 ·refine aa 4 fun _=>fC aU xs.length bb 1 4 xs.length (some (iv 4)) none (⟨_,rfl⟩) (by omega) lV<|aC 12 (sl (dS aU bb 4 1) ((xs.drop 4).length) (bb-4)) (sl (dS aU bb 4 1) (xs.length-4) (bb-4)) yu<|ah (sum (dS aU bb 4 1) (bb-4) (xs.drop 4) ub) [] YW ?_
  rintro _ _ ⟨rfl,rfl⟩
  refine aa 4 fun _=>?_
  obtain ⟨x3,e4⟩:=aw (xs:=xs) (k:=0) (by omega)
  obtain ⟨x5,e6⟩:=aw (xs:=xs) (k:=1) (by omega)
  obtain ⟨x7,e8⟩:=aw (xs:=xs) (k:=2) (by omega)
  obtain ⟨x9,ng⟩:=aw (xs:=xs) (k:=3) (by omega)
  refine aK [(1,_),(2,.int .u8 (x3.toNat:Int)),(3,.int .u32 (x3.toNat:Int)),(4,.int .u32 ((x3.toNat*16777216:Nat):Int)),(6,_),(7,.int .u8 (x5.toNat:Int)),(8,.int .u32 (x5.toNat:Int)),(9,.int .u32 ((x5.toNat*65536:Nat):Int)),(10,.int .u32 (((x3.toNat*256+x5.toNat)*65536:Nat):Int)),(12,_),(13,.int .u8 (x7.toNat:Int)),(14,.int .u32 (x7.toNat:Int)),(15,.int .u32 ((x7.toNat*256:Nat):Int)),(16,.int .u32 ((((x3.toNat*256+x5.toNat)*256+x7.toNat)*256:Nat):Int)),(18,_),(19,.int .u8 (x9.toNat:Int)),(20,.int .u32 (x9.toNat:Int)),(21,.int .u32 ((((x3.toNat*256+x5.toNat)*256+x7.toNat)*256+x9.toNat:Nat):Int))] [] qal<|cU (((((x3.toNat*256+x5.toNat)*256+x7.toNat)*256+x9.toNat:Nat):Int)=((cj (xs.drop 4)).toNat:Int)) (fun kx=>?_) (fun kx=>?_)
  ·exact (show False from kx (by have e4:=(q7 _ _ _ _ _).1 ((y8 e4 e6 e8 ng).symm.trans hx4);omega)).elim
  ·refine aa 4 fun _=>fC aU xs.length bb 1 4 xs.length (some (iv 4)) none (⟨_,rfl⟩) (by omega) lV<|aC 41 (sl (dS aU bb 4 1) ((xs.drop 4).length) (bb-4)) (sl (dS aU bb 4 1) (xs.length-4) (bb-4)) yu<|ah (HC (dS aU bb 4 1) (bb-4) (xs.drop 4) f Wo hf ub ub) [] YW ?_
   rintro _ _ ⟨yz,yA,nY,yB,yC,rfl,f17,rfl⟩
   have hd:(⟨f.fN,f.to,f.kind,f.hv,yz,yA,nY,yB,yC⟩:lD).d=f:=by unfold lD.d;simp only [f17]
   have hm:nY.length≤8∧ ∀x∈nY,bV x.o:=L7 hf f17
   refine ae 14 [4,4] fun Qc=>ah (uv (⟨f.fN,f.to,f.kind,f.hv,yz,yA,nY,yB,yC⟩:lD)) [] qgj ?_
   rintro _ _ ⟨rfl,rfl⟩
   refine aa 3 fun _=>eV 52 (gN (⟨f.fN,f.to,f.kind,f.hv,yz,yA,nY,yB,yC⟩:lD).d) (fun Ey=>?_) (fun Ey=>?_)
   ·exact (show False from Ey (by rw [hd];exact hf)).elim
   ·refine ae 1 [4] fun _=>ah (tI (⟨f.fN,f.to,f.kind,f.hv,yz,yA,nY,yB,yC⟩:lD) (by rw [hd];exact hf)) [] qgj ?_
    rintro _ _ ⟨Dc,AW,rfl,rfl⟩
    refine aa 1 fun _=>ah (C5 Dc AW (fR (⟨f.fN,f.to,f.kind,f.hv,yz,yA,nY,yB,yC⟩:lD).d) aU bb xs) [] (fun w h=>⟨h.bg 5 Dc AW (fR (⟨f.fN,f.to,f.kind,f.hv,yz,yA,nY,yB,yC⟩:lD).d) kr,hp.aE h.ch⟩) ?_
    rintro _ _ ⟨rfl,rfl⟩
    refine aa 3 fun _=>cU ((fR (⟨f.fN,f.to,f.kind,f.hv,yz,yA,nY,yB,yC⟩:lD).d)=xs) (fun tH=>?_) (fun tH=>?_)
    ·exact (show False from tH (by rw [hd];exact hx.symm)).elim
    ·refine ae 7 [4,0] fun _=>bk [0] [1,2,3] ⟨yz,yA,nY,yB,yC,kr,f17,kr⟩
def L6 (aU:OA) (bb:Nat) (xs:List UInt8) (Dk: ¬r_ xs) (hb:xs.length≤1073741824) (lV:xs.length≤bb):Ct Cp 81 #[sl aU xs.length bb] (fun w=>aA.Rd aU xs w) [] (fun v Cs=> ∃(e:Int),v=.tuple #[.agg #[iv 0,iv 0,iv 0,sl none 0 0,sl none 0 0],iv e]∧ ¬e=0∧Cs= []):=by
 refine cc Tryz.func81 fun w0 hp=>aa 12 fun a8=>aq ((xs.length:Int)<4) (fun h2=>?_) (fun h2=>?_)
 ·refine ae 6 [0] fun _=>bk [0] [] ⟨7,kr,by decide,kr⟩
 ·refine aa 4 fun _=>fC aU xs.length bb 1 4 xs.length (some (iv 4)) none (⟨_,rfl⟩) (by omega) lV<|aC 12 (sl (dS aU bb 4 1) ((xs.drop 4).length) (bb-4)) (sl (dS aU bb 4 1) (xs.length-4) (bb-4)) yu<|ah (sum (dS aU bb 4 1) (bb-4) (xs.drop 4) ub) [] YW ?_
  rintro _ _ ⟨rfl,rfl⟩
  refine aa 4 fun _=>?_
  obtain ⟨x3,e4⟩:=aw (xs:=xs) (k:=0) (by omega)
  obtain ⟨x5,e6⟩:=aw (xs:=xs) (k:=1) (by omega)
  obtain ⟨x7,e8⟩:=aw (xs:=xs) (k:=2) (by omega)
  obtain ⟨x9,ng⟩:=aw (xs:=xs) (k:=3) (by omega)
  refine aK [(1,_),(2,.int .u8 (x3.toNat:Int)),(3,.int .u32 (x3.toNat:Int)),(4,.int .u32 ((x3.toNat*16777216:Nat):Int)),(6,_),(7,.int .u8 (x5.toNat:Int)),(8,.int .u32 (x5.toNat:Int)),(9,.int .u32 ((x5.toNat*65536:Nat):Int)),(10,.int .u32 (((x3.toNat*256+x5.toNat)*65536:Nat):Int)),(12,_),(13,.int .u8 (x7.toNat:Int)),(14,.int .u32 (x7.toNat:Int)),(15,.int .u32 ((x7.toNat*256:Nat):Int)),(16,.int .u32 ((((x3.toNat*256+x5.toNat)*256+x7.toNat)*256:Nat):Int)),(18,_),(19,.int .u8 (x9.toNat:Int)),(20,.int .u32 (x9.toNat:Int)),(21,.int .u32 ((((x3.toNat*256+x5.toNat)*256+x7.toNat)*256+x9.toNat:Nat):Int))] [] qal<|cU (((((x3.toNat*256+x5.toNat)*256+x7.toNat)*256+x9.toNat:Nat):Int)=((cj (xs.drop 4)).toNat:Int)) (fun kx=>?_) (fun kx=>?_)
  ·refine ae 6 [0] fun _=>bk [0] [] ⟨8,kr,by decide,kr⟩
  ·exact (show False from Dk ⟨by omega,(y8 e4 e6 e8 ng).trans ((q7 _ _ _ _ _).2 (by omega))⟩).elim

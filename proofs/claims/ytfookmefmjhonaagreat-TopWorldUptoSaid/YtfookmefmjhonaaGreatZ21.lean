/- For the law of worlds: What functions do; What lies in memory. -/
import Derived.Test.YtfookmefmjhonaaGreatZ20
set_option linter.all false
namespace Go.Proofs.YtfookmefmjhonaaGreat.My
open Go.RowKit Go.bE
def FO (x:Nd) (y:cN):Ct Cp 232 #[aP.V x,bZ.V y] (fun _=>True) [] (fun v Cs=>v=iv (bl x.id y)∧Cs= []):=by
 refine cc Tryz.func232 fun w0 hp=>qup
def D' (aU:OA) (bb:Nat) (xs:List Nd) (y:cN) (hs:tS (fun z_:Nd=>bl z_.id y) xs) (hb:xs.length≤1073741824):Ct Cp 231 #[sl aU xs.length bb,bZ.V y,.func (.func 232) #[] #[]] (fun w=>aP.Rd aU xs w) [] (fun v Cs=>v=.tuple #[iv (db (fun z_:Nd=>bl z_.id y) xs:Int),.bool (decide (zz (fun z_:Nd=>bl z_.id y) xs (db (fun z_:Nd=>bl z_.id y) xs)))]∧Cs= []):=by
 refine cc Tryz.func231 fun w0 hp=>aa 20 fun a8=>aR (σ:=Nat×Nat) (fun (i,j)=> [(0,sl aU xs.length bb),(2,.func (.func 232) #[] #[]),(4,pv (a8 2)),(6,iv 0),(7,.bool false),(8,iv (xs.length:Int)),(9,iv i),(10,iv j)]) qpo (fun (i,j)=>i≤j∧j≤xs.length∧(∀m∈xs.take i,(fun z_:Nd=>bl z_.id y) m<0)∧ ∀m∈xs.drop j,¬ (fun z_:Nd=>bl z_.id y) m<0) (fun (i,j)=>j-i) (0,xs.length) [0] ⟨bh _,bO _,by simp,by simp⟩ ?_
 rintro _ ⟨i,j⟩ ⟨JC,hj,ht,hd⟩ aB
 refine aa 7 fun _=>aq ((i:Int)<(j:Int)) (fun h2=>?_) (fun h2=>?_)
 ·refine aa 7 fun _=>ao 20 ((i:Int)+(j:Int))<|aa 1 fun _=>aC 21 (.int .u64 ((i+j:Nat):Int)) (.int .u64 (IntKind.u64.wrap ((i:Int)+(j:Int)))) qgr<|aa 1 fun _=>aC 22 (.int .u64 (((i+j)/2:Nat):Int)) (.int .u64 (Int.fdiv ((i+j:Nat):Int) (2^1))) qhy<|aa 1 fun _=>aC 23 (iv (((i+j)/2:Nat):Int)) (iv (IntKind.i64.wrap (((i+j)/2:Nat):Int))) qkb<|aa 3 fun _=>?_
  obtain ⟨x3,e4⟩:=aw (xs:=xs) (k:=(i+j)/2) (by omega)
  refine aK [(3,_),(4,aP.V x3),(6,iv (bl x3.id y))] [0] ⟨bF aU xs.length (((i+j)/2:Nat):Int) 5 qhw,cB 184 (((cz aU).add (((i+j)/2)*5)).add 0) (fun w h=>bN (K:=aP) (hp.aE h.ch) e4),bT (FO x3 y) jU,trivial⟩<|qtj
 ·refine aa 2 fun _=>?_
  rcases bK (decide ((i:Int)<(xs.length:Int))) with b7|b7
  ·have h6:=cg b7
   obtain ⟨x8,e9⟩:=aw (xs:=xs) (k:=i) (by omega)
   refine aK [(3,.bool true),(8,_),(9,aP.V x8),(11,iv (bl x8.id y))] [0] ⟨qda,bF aU xs.length (i:Int) 5 qhw,cB 184 (ad aU (i*5) 0) (fun w h=>bN (K:=aP) (hp.aE h.ch) e9),bT (FO x8 y) jU,trivial⟩ ?_
   have uf:db (fun z_:Nd=>bl z_.id y) xs=i:=mQ ⟨by omega,ht,by have e:i=j:=(by omega);rw [e];exact hd⟩
   exact a_ [] ⟨kt (.tuple #[iv i,.bool (decide ((bl x8.id y)=0))]) (by rw [uf];exact congrArg (fun b=>Value.tuple #[iv i,.bool b]) (decide_eq_decide.2 (De (c:=fun z_:Nd=>bl z_.id y) e9))),kr⟩
  ·have h6:=de b7
   refine aK [(3,.bool false)] [] qv0 ?_
   have uf:db (fun z_:Nd=>bl z_.id y) xs=i:=mQ ⟨by omega,ht,by have e:i=j:=(by omega);rw [e];exact hd⟩
   exact a_ [] ⟨kt (.tuple #[iv i,.bool false]) (by rw [uf];exact congrArg (fun b=>Value.tuple #[iv i,.bool b]) ((decide_eq_false (Df (c:=fun z_:Nd=>bl z_.id y) (by omega))).symm)),kr⟩
def mK {α:Type} {xs:List α} {x:α} {i:Nat} (hi:i≤xs.length):(xs.take i++x::xs.drop i).length=xs.length+1:=by
 simp only [bm,b0,dM,cL]
 omega
def qe {α:Type} (K:Kd α) {xs:List α} {gs:List Value} {i k d:Nat} (hi:i≤xs.length) (e:min k d=xs.length-i):(((xs.flatMap K.f++gs).drop (i*K.sz)).take (min k d*K.sz)).all (·.oneCell')=true:=by
 have h1:i*K.sz+(xs.length-i)*K.sz=(xs.flatMap K.f).length:=by rw [K.size,← Nat.add_mul];congr 1;omega
 rw [e,qf (by omega),nS ub]
 exact kO (dE.2 fun v hv=>dE.1 (K.vF xs) v (lH hv))
def s5 {α:Type} (K:Kd α) {xs:List α} {gs:List Value} {i:Nat} (hi:i≤xs.length) (hg:gs.length=1*K.sz):((xs.flatMap K.f++gs).drop (i*K.sz)).length=(xs.length+1-i)*K.sz:=by
 rw [cL,bm,K.size,hg,Nat.sub_mul,Nat.add_mul]
def yj {α:Type} (K:Kd α) {xs:List α} {gs:List Value} {c:Nat} (hg:gs.length=1*K.sz) (hc:xs.length+1≤c):(xs.flatMap K.f++gs).length≤c*K.sz:=by
 rw [bm,K.size,hg,← Nat.add_mul]
 exact dC _ hc
def OU {α:Type} {xs:List α} {x:α} {i:Nat} (h:i=xs.length):xs++ [x]=xs.take i++x::xs.drop i:=by subst h;simp
def Dd (A:OA) (c:Nat) (xs:List Nd) (i gv:Nat) (x:Nd) (hi:i≤xs.length) (hb:xs.length≤1000000):Ct Cp 253 #[sl A xs.length c,iv i,sl (so gv) 1 1] (fun _=>True) [aP.row A c xs,bJ gv 184 (Nd.cells x)] (fun v Cs=> ∃A2 c2,v=sl A2 ((xs.take i++x::xs.drop i).length) c2∧Cs= [aP.row A2 c2 (xs.take i++x::xs.drop i)]):=by
 refine Fz [.k (aP.row A c xs),.b gv 184 (Nd.cells x)] Tryz.func253 fun U w0 hp=>mi aP 1 gv 1 [x]<|aa 8 fun _=>dN (φ:=xs.length≤c) qqg fun OV=>fC A xs.length c 5 i xs.length (some (iv i)) none (⟨_,rfl⟩) kD vq<|aa 28 fun _=>aq ((i:Int)=(xs.length:Int)) (fun h2=>?_) (fun h2=>?_)
 ·refine aa 4 fun _=>bQ aP 0 A c xs (so gv) 1 1 [x] qiw (by omega) fun A3 c4=>aa 2 fun _=>aS aP 0 A3 c4 (xs++ [x]) (xs.take i++x::xs.drop i) kr qmn<|qtz
 ·refine aa 7 fun _=>ao 28 ((xs.length:Int)+1)<|aa 4 fun _=>aq (((xs.length:Int)+1)>(c:Int)) (fun h5=>?_) (fun h5=>?_)
  ·refine aa 4 fun _=>fC (hh:=⟨_,rfl⟩) A xs.length c 5 0 i none (some (iv i)) rfl kD vq<|aC 34 (sl A i c) (sl (dS A c 0 5) (i-0) (c-0)) Iz<|aa 3 fun _=>ao 37 ((xs.length:Int)+1)<|aa 2 fun _=>ao 39 (((xs.length:Int)+1)- (i:Int)) ?_
   have e7:((xs.length:Int)+1)- (i:Int)=(((xs.length+1-i):Nat):Int):=by omega
   refine aC 39 (iv (((xs.length+1-i):Nat):Int)) (iv (((xs.length:Int)+1)- (i:Int))) (iT e7)<|qg aP A c i (xs.take i) (List.replicate (xs.length+1-i) (⟨⟨0,0⟩,⟨0,0⟩,cW⟩:Nd)) 46 3 (iv (((xs.length+1-i):Nat):Int)) qia C7 (fun w h=>.zr (kk:=.i64) (x0:=(⟨⟨0,0⟩,⟨0,0⟩,cW⟩:Nd)) kr kr) RK RK fun a6 c7 hc8=>aa 6 fun _=>fC (some a6) (i+(List.replicate (xs.length+1-i) (⟨⟨0,0⟩,⟨0,0⟩,cW⟩:Nd)).length) c7 5 i (i+(List.replicate (xs.length+1-i) (⟨⟨0,0⟩,⟨0,0⟩,cW⟩:Nd)).length) (some (iv i)) none (⟨_,rfl⟩) kD YC<|aa 1 fun _=>nT 184 5 2 (some a6) c7 ((xs.take i++List.replicate (xs.length+1-i) (⟨⟨0,0⟩,⟨0,0⟩,cW⟩:Nd)).length) ((xs.take i++List.replicate (xs.length+1-i) (⟨⟨0,0⟩,⟨0,0⟩,cW⟩:Nd)).flatMap aP.f) i ((i+(List.replicate (xs.length+1-i) (⟨⟨0,0⟩,⟨0,0⟩,cW⟩:Nd)).length)-i) (c7-i) 1 (sl (so gv) 1 1) ([x].flatMap aP.f) RL Co qoz<|aa 2 fun _=>aO [(3,_),(4,_),(7,_),(8,_)] [] ⟨RM,lT (fun vs=>some a6) (fun vs=>(i+(List.replicate (xs.length+1-i) (⟨⟨0,0⟩,⟨0,0⟩,cW⟩:Nd)).length)) (fun vs=>c7) (fun vs=>((i:Int)+1).toNat) (fun vs=>(i+(List.replicate (xs.length+1-i) (⟨⟨0,0⟩,⟨0,0⟩,cW⟩:Nd)).length)) 5 (fun vs=>some (iv ((i:Int)+1))) (fun vs=>none) RN (fun _=>kD) qve,lT (fun vs=>A) (fun vs=>xs.length) (fun vs=>c) (fun vs=>i) (fun vs=>xs.length) 5 (fun vs=>some (iv i)) (fun vs=>none) Kh (fun _=>kD) IA,lU 184 5 2 (some a6) c7 ((xs.take i++List.replicate (xs.length+1-i) (⟨⟨0,0⟩,⟨0,0⟩,cW⟩:Nd)).length) (ba ((xs.take i++List.replicate (xs.length+1-i) (⟨⟨0,0⟩,⟨0,0⟩,cW⟩:Nd)).flatMap aP.f) (i*5) (([x].flatMap aP.f).take (min 1 ((i+(List.replicate (xs.length+1-i) (⟨⟨0,0⟩,⟨0,0⟩,cW⟩:Nd)).length)-i)*5))) (((i:Int)+1).toNat) ((i+(List.replicate (xs.length+1-i) (⟨⟨0,0⟩,⟨0,0⟩,cW⟩:Nd)).length)- (((i:Int)+1).toNat)) (c7- (((i:Int)+1).toNat)) (xs.length-i) (sl (dS A c i 5) (xs.length-i) (c-i)) ((xs.drop i).flatMap aP.f) qt3 Co qoz,trivial⟩ fun v9=>aa 5 fun _=>?_
   have e9:ba (ba ((xs.take i++List.replicate (xs.length+1-i) (⟨⟨0,0⟩,⟨0,0⟩,cW⟩:Nd)).flatMap aP.f) (i*5) (([x].flatMap aP.f).take (min 1 ((i+(List.replicate (xs.length+1-i) (⟨⟨0,0⟩,⟨0,0⟩,cW⟩:Nd)).length)-i)*5))) ((((i:Int)+1).toNat)*5) (((xs.drop i).flatMap aP.f).take (min (xs.length-i) ((i+(List.replicate (xs.length+1-i) (⟨⟨0,0⟩,⟨0,0⟩,cW⟩:Nd)).length)- (((i:Int)+1).toNat))*5))=(xs.take i++x::xs.drop i).flatMap aP.f:=s6 hi (by rw [eA]) (by omega) kD kD
   refine aD 3 (row 184 5 (sl (some a6) ((xs.take i++List.replicate (xs.length+1-i) (⟨⟨0,0⟩,⟨0,0⟩,cW⟩:Nd)).length) c7) ((xs.take i++List.replicate (xs.length+1-i) (⟨⟨0,0⟩,⟨0,0⟩,cW⟩:Nd)).length) (ba (ba ((xs.take i++List.replicate (xs.length+1-i) (⟨⟨0,0⟩,⟨0,0⟩,cW⟩:Nd)).flatMap aP.f) (i*5) (([x].flatMap aP.f).take (min 1 ((i+(List.replicate (xs.length+1-i) (⟨⟨0,0⟩,⟨0,0⟩,cW⟩:Nd)).length)-i)*5))) ((((i:Int)+1).toNat)*5) (((xs.drop i).flatMap aP.f).take (min (xs.length-i) ((i+(List.replicate (xs.length+1-i) (⟨⟨0,0⟩,⟨0,0⟩,cW⟩:Nd)).length)- (((i:Int)+1).toNat))*5)))) (aP.row (some a6) c7 (xs.take i++x::xs.drop i)) kr (by unfold Kd.row;rw [← e9,mK hi,show ((xs.take i++List.replicate (xs.length+1-i) (⟨⟨0,0⟩,⟨0,0⟩,cW⟩:Nd))).length=xs.length+1 by simp only [bm,b0,eA];omega];rfl)<|a_ [4] ⟨some a6,c7,kt (sl (some a6) (i+(List.replicate (xs.length+1-i) (⟨⟨0,0⟩,⟨0,0⟩,cW⟩:Nd)).length) c7) WE,kr⟩
  ·refine aa 7 fun _=>ao 59 ((xs.length:Int)+1)<|fC (hh:=⟨.i64,by rw [iR (by omega)]⟩) A xs.length c 5 0 (((xs.length:Int)+1).toNat) none (some (iv ((xs.length:Int)+1))) rfl kD vq<|aC 60 (sl A (xs.length+1) c) (sl (dS A c 0 5) (((xs.length:Int)+1).toNat-0) (c-0)) Iz<|aa 10 fun _=>ao 65 ((i:Int)+1)<|fC A (xs.length+1) c 5 (((i:Int)+1).toNat) (xs.length+1) (some (iv ((i:Int)+1))) none TR kD vq<|EV 272 Tryz.f272 46 184 5 184 5 184 5 0 1 A (so gv) c (((i:Int)+1).toNat) ((xs.length+1)- (((i:Int)+1).toNat)) (c- (((i:Int)+1).toNat)) xs.length (xs.flatMap aP.f) 1 1 ([x].flatMap aP.f) Tryz.func272<|oz 184 5 0 A c xs.length 1 (xs.flatMap aP.f) fun gs hg=>aa 4 fun _=>aO [(3,_),(4,_),(7,_),(8,_)] [] ⟨RM,lT (fun vs=>A) (fun vs=>(xs.length+1)) (fun vs=>c) (fun vs=>((i:Int)+1).toNat) (fun vs=>(xs.length+1)) 5 (fun vs=>some (iv ((i:Int)+1))) (fun vs=>none) RN (fun _=>kD) IA,lT (fun vs=>A) (fun vs=>(xs.length+1)) (fun vs=>c) (fun vs=>i) (fun vs=>(xs.length+1)) 5 (fun vs=>some (iv i)) (fun vs=>none) Kh (fun _=>kD) IA,lU 184 5 2 A c (xs.length+1) (xs.flatMap aP.f++gs) (((i:Int)+1).toNat) ((xs.length+1)- (((i:Int)+1).toNat)) (c- (((i:Int)+1).toNat)) ((xs.length+1)-i) (sl (dS A c i 5) ((xs.length+1)-i) (c-i)) ((xs.flatMap aP.f++gs).drop (i*5)) (fun vs w h=>.sl (s5 aP hi hg) (Rc.cut h.YD (yj aP hg (by omega)))) Co (qe aP hi (by omega)),trivial⟩ fun v10=>?_
   refine aa 4 fun _=>fC A (xs.length+1) c 5 i (xs.length+1) (some (iv i)) none (⟨_,rfl⟩) kD vq<|aa 1 fun _=>nT 184 5 3 A c (xs.length+1) (ba (xs.flatMap aP.f++gs) ((((i:Int)+1).toNat)*5) (((xs.flatMap aP.f++gs).drop (i*5)).take (min ((xs.length+1)-i) ((xs.length+1)- (((i:Int)+1).toNat))*5))) i ((xs.length+1)-i) (c-i) 1 (sl (so gv) 1 1) ([x].flatMap aP.f) RL Co qoz<|aa 6 fun _=>?_
   have e9:ba (ba (xs.flatMap aP.f++gs) ((((i:Int)+1).toNat)*5) (((xs.flatMap aP.f++gs).drop (i*5)).take (min ((xs.length+1)-i) ((xs.length+1)- (((i:Int)+1).toNat))*5))) (i*5) (([x].flatMap aP.f).take (min 1 ((xs.length+1)-i)*5))=(xs.take i++x::xs.drop i).flatMap aP.f:=yk hi hg (by omega) (by omega) (by omega)
   refine aD 3 (row 184 5 (sl A (xs.length+1) c) (xs.length+1) (ba (ba (xs.flatMap aP.f++gs) ((((i:Int)+1).toNat)*5) (((xs.flatMap aP.f++gs).drop (i*5)).take (min ((xs.length+1)-i) ((xs.length+1)- (((i:Int)+1).toNat))*5))) (i*5) (([x].flatMap aP.f).take (min 1 ((xs.length+1)-i)*5)))) (aP.row A c (xs.take i++x::xs.drop i)) kr qha<|qt4
def uq {ns:List Nd} (hs:dI ns) (y:cN):tS (fun x:Nd=>bl x.id y) ns:=hs.imp fun h k=>slt.trans h k
def ec (ns:List Nd) (y:cN):Nat:=db (fun x:Nd=>bl x.id y) ns
def gJ (ns:List Nd) (y:cN):Prop:=(dZ ns y).isSome=true
instance (ns:List Nd) (y:cN):Decidable (gJ ns y):=by unfold gJ;infer_instance
def s8 {ns:List Nd} (hs:dI ns) (y:cN):At ns y (ec ns y):=CT (uq hs y)
def E4 (ns:List Nd) (y:cN):ec ns y≤ns.length:=tE
def G9 {ns:List Nd} (hs:dI ns) (y:cN):zz (fun x:Nd=>bl x.id y) ns (ec ns y)↔gJ ns y:=by
 unfold gJ
 rw [ET hs (s8 hs y)]
 constructor
 ·rintro ⟨x,h1,h2⟩
  rw [h1]
  simp only [Option.filter]
  rw [if_pos (by simpa using (qc _ _).1 h2)]
  rfl
 ·intro h
  cases hx:ns[ec ns y]?with
  |none=>rw [hx] at h;cases h
  |some x=>
   rw [hx] at h
   simp only [Option.filter] at h
   split at h
   ·rename_i h2
    exact ⟨x,hx,(qc _ _).2 IC⟩
   ·cases h
def oC {ns:List Nd} (hs:dI ns) {y:cN} (h:gJ ns y): ∃n,ns[ec ns y]? =some n∧n.id=y∧dZ ns y=some n:=by
 have e:=ET hs (s8 hs y)
 unfold gJ at h
 rw [e] at h⊢
 cases hx:ns[ec ns y]?with
 |none=>rw [hx] at h;cases h
 |some x=>
  rw [hx] at h
  simp only [Option.filter] at h
  split at h
  ·rename_i h2
   exact ⟨x,rfl,by simpa using h2,by simp only [Option.filter];rw [if_pos h2]⟩
  ·cases h
def qm {ns:List Nd} (hs:dI ns) {y:cN} (h: ¬gJ ns y):dZ ns y=none∧ ∀n,ns[ec ns y]? =some n→n.id≠y:=by
 have hn:dZ ns y=none:=by
  cases hf:dZ ns y with
  |none=>rfl
  |some n=>exact absurd (by unfold gJ;rw [hf];rfl) h
 exact ⟨hn,fun n hx=>iQ.1 hn n (aI hx)⟩
def _root_.Go.bE.EX {P:Program} {n:Nat} {U:Nat→Prop} {w0:World} {s:S} {ez:Ez} {hs:List Nat} {i:Nat} (m:Nat) (A:OA) (len cap h sz:Nat) (hv:Option Value) (em:h=m) (e: ∀vs,s.ox P n ez hs i vs (WW P)=some (A,len,cap,sz,none,hv)) (hh:qn hv len h) (h2: ∀vs w,SE U w0 w [] (s.vA P n ez hs i vs)→h≤cap):
 ke P n U w0 s ez hs i ⟨[],fun _=>.slice A m cap,[]⟩:=by
 subst em
 have:=lT (e:=e) (hh:=fun _=>hh) (P:=P) (n:=n) (U:=U) (w0:=w0) (s:=s) (ez:=ez) (hs:=hs) (i:=i) (fun _=>A) (fun _=>len) (fun _=>cap) (fun _=>0) (fun _=>h) sz (fun _=>none) (fun _=>hv) (fun _=>rfl) (fun _=>bh _) h2
 simpa only [T6,Nat.sub_zero] using this
def _root_.Go.bE.SE.aeI {α:Type} {K:Kd α} {U:Nat→Prop} {w0 w:World} {Y:List aM} {c:Nat} {A:OA} {xs:List α} (h:SE U w0 w [K.row A c xs] Y):K.Rd A xs w:=SE.YD h
def DW (A:OA) (c:Nat) (xs:List Nd) (i j:Nat) (hj:j=i+1) (hi:i<xs.length) (hb:xs.length≤1000000):Ct Cp 252 #[sl A xs.length c,iv i,iv j] (fun _=>True) [aP.row A c xs] (fun v Cs=>v=sl A ((xs.take i++xs.drop (i+1)).length) c∧Cs= [aP.row A c (xs.take i++xs.drop (i+1))]):=by
 refine Fz [.k (aP.row A c xs)] Tryz.func252 fun U w0 hp=>dN (φ:=xs.length≤c) qqg fun OV=>dN (φ:=A.isSome=true) (fun w h=>Kd.cd (K:=aP) (h.bg 0 A c xs kr) (by omega)) fun lu=>aa 11 fun _=>Jj A xs.length c 5 i j xs.length<|aa 8 fun _=>aq ((i:Int)=(j:Int)) (fun h3=>?_) (fun h3=>?_)
 ·exact kp
 ·refine aa 8 fun _=>aO [(2,_),(5,_),(6,_)] [] ⟨EX i A xs.length c i 5 (some (iv i)) rfl (fun _=>kr) (⟨_,rfl⟩) (fun vs w h=>G0),lT (fun vs=>A) (fun vs=>xs.length) (fun vs=>c) (fun vs=>j) (fun vs=>xs.length) 5 (fun vs=>some (iv j)) (fun vs=>none) Kh (fun _=>G0) qv8,yp aP 0 A c i xs (xs.drop j) 46 46 (sl (dS A c j 5) (xs.length-j) (c-j)) qhx ub ub lu,trivial⟩ fun v4=>aa 6 fun _=>fC (hh:=⟨_,rfl⟩) A (i+(xs.drop j).length) c 5 (i+(xs.drop j).length) xs.length (some (iv ((i+(xs.drop j).length):Int))) (some (iv (xs.length:Int))) (⟨_,rfl⟩) G0 G0<|s7 184 5 1 A c (xs.take i++xs.drop j).length ((xs.take i++xs.drop j).flatMap aP.f) (i+(xs.drop j).length) (xs.length- (i+(xs.drop j).length)) (c- (i+(xs.drop j).length)) qkj qm8<|aa 6 fun _=>aS aP 1 A c (xs.take i++xs.drop j) (xs.take i++xs.drop (i+1)) kr (by rw [hj])<|qec
def qE (aU:OA) (bb:Nat) (xs:List Nd) (y:cN) (hs:dI xs) (hb:xs.length≤1073741824):Ct Cp 192 #[sl aU xs.length bb,bZ.V y] (fun w=>aP.Rd aU xs w) [] (fun v Cs=>v=.tuple #[iv (ec xs y:Int),.bool (decide (gJ xs y))]∧Cs= []):=by
 refine cc Tryz.func192 fun w0 hp=>ae 10 [0] fun a8=>ah (D' aU bb xs y (uq hs y) (by omega)) [] il ?_
 rintro _ _ ⟨rfl,rfl⟩
 refine aa 5 fun _=>a_ [] ⟨kt (.tuple #[iv (db (fun z_:Nd=>bl z_.id y) xs:Int),.bool (decide (zz (fun z_:Nd=>bl z_.id y) xs (db (fun z_:Nd=>bl z_.id y) xs)))]) (congrArg (fun b=>Value.tuple #[iv (db (fun z_:Nd=>bl z_.id y) xs:Int),.bool b]) (decide_eq_decide.2 (G9 hs y))),kr⟩
def K5 (g:Nat) (SU y:cN) (aU:OA) (bb:Nat) (xs:List Nd) (hs:dI xs) (ha:lR xs) (hb:xs.length≤1073741824):hO Cp 238 #[pv g,bZ.V SU,bZ.V y] (fun U w=>aP.gx aU xs U w) [bJ g 328 [sl aU xs.length bb]] (fun v Cs=>v=.bool (ic xs SU y)∧Cs= [bJ g 328 [sl aU xs.length bb]]):=by
 refine kz [.b g 328 [sl aU xs.length bb]] Tryz.func238 fun U w0 hp=>?_
 obtain ⟨md,hr⟩:=id ha
 refine aa 6 fun a8=>ed 0 (σ:=cN) (fun p=> [(0,pv g),(4,pv (a8 2)),(5,pv (a8 3)),(6,.bool false)]) (fun p=> [.b g 328 [sl aU xs.length bb],.b (a8 2) 29 [iv SU.t,iv SU.r],.b (a8 3) 29 [iv p.t,iv p.r]]) (fun p=>ic xs SU p=ic xs SU y) (fun p=>md p) ?_ ?_
 ·intro _ cG
  refine aa 10 fun _=>cG _ y [0,1,2] kr rfl
 ·rintro _ p hc dm
  refine ae 7 [2,1] fun _=>Bj p SU kr (fun h2=>?_) (fun h2=>?_)
  ·refine aa 4 fun _=>a_ [0] ⟨kt (.bool true) (by rw [← hc,qd ha,if_pos h2]),kr⟩
  ·refine aa 3 fun _=>aK [(5,.tuple #[iv (ec xs p:Int),.bool (decide (gJ xs p))])] [0,2] ⟨bT (hp:=fun w h=>(hp.aE h.ch).rc) (qE aU bb xs p hs (by omega)) jU,trivial⟩<|aa 4 fun _=>aq (gJ xs p) (fun h3=>?_) (fun h3=>?_)
   ·obtain ⟨n4,Xz⟩:=oC hs h3
    refine ae 7 [0] fun _=>aV (hj:=by have:=(aN.1 Xz.1).1;omega) aU xs.length (ec xs p:Int) 5 (fun w h=>Kd.cd (K:=aP) (xs:=xs) ((hp.aE h.ch).rc) (by have:=(aN.1 Xz.1).1;omega)) ?_
    refine aa 1 fun _=>bd 29 (ad aU ((ec xs p)*5) 2) (bZ.V n4.par) (fun w h=>iy (K:=aP) (o:=2) (m:=2) (sub:= [iv n4.par.t,iv n4.par.r]) ((hp.aE h.ch).rc) Xz.1)<|ae 2 [2] fun _=>dm _ n4.par [0,1,2] kr (by rw [qd ha SU p,if_neg h2,Xz.2.2] at hc;exact hc) (by have:=hr n4 (aI Xz.1);rw [Xz.2.1] at this;exact this)
   ·refine aa 5 fun _=>a_ [0] ⟨kt (.bool false) (by rw [← hc,qd ha,if_neg h2,(qm hs h3).1]),kr⟩
end Go.Proofs.YtfookmefmjhonaaGreat.My
namespace Go.Proofs.YtfookmefmjhonaaGreat.My
open Go.RowKit Go.bE
def Iy (g:Nat) (ns:List Nd) (Cs:List aM):Prop:= ∃(A:OA) (c:Nat),Cs= [bJ g 328 [.slice A ns.length c],aP.row A c ns]
def tV (g:Nat) (ns:List Nd):aM:=g9 (Iy g ns)
def tW {P:Program} {n:Nat} {U:Nat→Prop} {w0:World} {Q:Exit→Act→World→Prop} {s:S} {β:Type} (j m:Nat) (f:β→aM) (l:List β) (h:(dR s.H.length [j],pk s.H [j])=(true,[aM.all (l.map f)])) (k:G P n U w0 Q {s with H:=gv s.H [j] [.k (aM.all ((l.take m).map f)),.k (aM.all ((l.drop m).map f))]}):G P n U w0 Q s:=
 js [j] _ [.k (aM.all ((l.take m).map f)),.k (aM.all ((l.drop m).map f))] h (fun w K hS=>by
  have e:l.map f=(l.take m).map f++(l.drop m).map f:=by rw [← cT,List.take_append_drop]
  have h2:SS U w0 w (aM.all (l.map f)::K):=hS
  rw [e] at h2
  exact SS.star (SS.J4 h2 (aM.all_append _ _))) k
def wO {l:List bz} {ms:List cD} (h:ms.map cD.d=fz l []) {k:Nat} {y:cD} (hy:ms[k]? =some y): ∃o,l[k]? =some o∧y.x.o=o∧y.d=aH (ai (l.take k) []) o:=by
 have h1:(ms.map cD.d)[k]? =some y.d:=by rw [fk,hy];rfl
 rw [h] at h1
 have hk:k<l.length:=by have:=(aN.1 h1).1;rw [wP] at this;exact this
 have h2:=dw hk
 have h3:=GK [] h2
 rw [h1] at h3
 have h4:=Option.some.inj h3
 exact ⟨_,h2,congrArg FX.o h4,h4⟩
def tX {l:List bz} {k:Nat} {o:bz} (h:l[k]? =some o):ai (l.take (k+1)) []=iD (ai (l.take k) []) o:=by
 rw [← bp h,mo];rfl
def Ke {ns:List Nd} (hs:dI ns) {o:bz} (h:ic ns o.node o.par=false):gJ (iD ns o) o.node:=by
 unfold gJ iD
 rw [if_neg (by rw [h];decide)]
 have hm:(⟨o.node,o.par,o.key⟩:Nd)∈jH ⟨o.node,o.par,o.key⟩ ns:=(kN hs).2 (.inl rfl)
 have:=oy (jI hs) hm
 rw [this];rfl
def tY {l:List bz} {o:bz} {i:Nat} (hs:mZ l) (hi:i≤l.length) (h: ∀m,l[i-1]? =some m→0<i→ ¬slt o.st m.st): ∀m∈l.take i,¬slt o.st m.st:=by
 intro m hm
 obtain ⟨k,hk,e⟩:=List.getElem_of_mem hm
 rw [b0] at hk
 rw [List.getElem_take] at e
 have h1:i-1<l.length:=by omega
 have h2:=h _ (dw h1) (by omega)
 rcases Nat.lt_or_ge k (i-1) with h3|h3
 ·have:=List.pairwise_iff_getElem.1 hs k (i-1) (by omega) h1 h3
  rw [e] at this
  exact fun h4=>h2 (h4.trans this)
 ·have h4:k=i-1:=by omega
  subst h4
  rw [← e];exact h2
end Go.Proofs.YtfookmefmjhonaaGreat.My
namespace Go.Proofs.YtfookmefmjhonaaGreat.My
open Go.RowKit Go.bE
def GF (An:OA) (cn:Nat) (Am:OA) (cm:Nat) (l:List bz) (Cs:List aM):Prop:= ∃ms:List cD,ms.map cD.d=fz l []∧Cs= [aP.row An cn (ai l []),gq.row Am cm ms,aM.all (ms.map cD.own)]
def iK (An:OA) (cn:Nat) (Am:OA) (cm:Nat) (l:List bz):aM:=g9 (GF An cn Am cm l)
def tZ: ∀(l:List bz) (i:Nat) (ns:List Nd),(fz l ns).take i=fz (l.take i) ns
 | [],_,_=>by simp [fz]
 |_::_,0,_=>by simp [fz]
 |o::l,i+1,ns=>by simp only [fz,List.take_succ_cons];rw [tZ l i]
def iC {l:List bz} {ms:List cD} (h:ms.map cD.d=fz l []):ms.length=l.length:=by rw [← cM (f:=cD.d),h,wP]
def wQ {l:List bz} {ms:List cD} (h:ms.map cD.d=fz l []) {i:Nat} {o:bz} {E:cD} (hE:E.d=aH (ai (l.take i) []) o):(ms.take i++ [E]).map cD.d=fz (l.take i++o::(l.drop i).take 0) []:=by
 rw [cT,List.map_take,h,tZ,List.take_zero,ov]
 exact qq7
def AX {l:List bz} {nm:List cD} {i j:Nat} {o o2:bz} {E:cD} (h:nm.map cD.d=fz (l.take i++o::(l.drop i).take j) []) (h2:(l.drop i)[j]? =some o2) (hE:E.d=aH (ai (l.take i++o::(l.drop i).take j) []) o2):(nm++ [E]).map cD.d=fz (l.take i++o::(l.drop i).take (j+1)) []:=by
 rw [← bp h2,cT,h,← List.cons_append,← cH,ov _ [o2]]
 exact qq7
def GL {l:List bz} {i j:Nat} {o o2:bz} (h2:(l.drop i)[j]? =some o2):ai (l.take i++o::(l.drop i).take (j+1)) []=iD (ai (l.take i++o::(l.drop i).take j) []) o2:=by
 rw [← bp h2,← List.cons_append,← cH,mo];rfl
def GM {l:List bz} {i:Nat} {o:bz} (h:l[i-1]? =some o) (hi:0<i):l.drop (i-1)=o::l.drop i:=by
 have hk:=(aN.1 h).1
 have hx:=(aN.1 h).2
 rw [fI hk,hx,show i-1+1=i by omega]
def mP (l:List bz):(ai l []).length≤l.length:=by have:=nQ l [];simpa using this
def ye (l:List bz) (i:Nat):(ai (l.take i) []).length≤l.length:=by have:=mP (l.take i);rw [b0] at this;omega
def yf {l:List bz} {i j:Nat} {o:bz} (hi:i≤l.length):(l.take i++o::(l.drop i).take j).length≤l.length+1:=by
 simp only [bm,b0,dM,cL];omega
def dX (l:List bz):dI (ai l []):=pw l dI.nil
def eZ (l:List bz):lR (ai l []):=ua l dI.nil lR.nil
end Go.Proofs.YtfookmefmjhonaaGreat.My
namespace Go.Proofs.YtfookmefmjhonaaGreat.My
open Go.RowKit Go.bE
def HV {ns:List Nd} {e:FX} (h:e.idle=true):iu ns e=ns:=by unfold iu;rw [if_pos h]
def L3 {ns:List Nd} {e:FX} (h:e.idle=false) (h2:e.kW=true) {n:Nd} (hs:dI ns) (hn:ns[ec ns e.o.node]? =some n) (AY:n.id=e.o.node):iu ns e=ns.set (ec ns e.o.node) ⟨e.o.node,e.par,e.key⟩:=by
 unfold iu
 rw [if_neg (by rw [h];decide),if_pos h2]
 exact qrd
def L4 {ns:List Nd} {e:FX} (h:e.idle=false) (h2:e.kW=false) {n:Nd} (hs:dI ns) (hn:ns[ec ns e.o.node]? =some n) (AY:n.id=e.o.node):iu ns e=ns.take (ec ns e.o.node)++ns.drop (ec ns e.o.node+1):=by
 unfold iu
 rw [if_neg (by rw [h];decide),if_neg (by rw [h2];decide)]
 exact TQ hs hn AY
def Fy {ns:List Nd} {o:bz} (h:ic ns o.node o.par=true):iD ns o=ns:=by unfold iD;rw [if_pos h]
def Vt {ns:List Nd} {o:bz} (h: ¬ic ns o.node o.par=true) {n:Nd} (hs:dI ns) (hn:ns[ec ns o.node]? =some n) (AY:n.id=o.node):iD ns o=ns.set (ec ns o.node) ⟨o.node,o.par,o.key⟩:=by
 unfold iD
 rw [if_neg h]
 exact qrd
def Vu {ns:List Nd} {o:bz} (h: ¬ic ns o.node o.par=true) (hs:dI ns) (ht: ¬gJ ns o.node):iD ns o=ns.take (ec ns o.node)++⟨o.node,o.par,o.key⟩::ns.drop (ec ns o.node):=by
 unfold iD
 rw [if_neg h]
 exact yh (s8 hs _) (qm hs ht).2 rfl
def nW {ns:List Nd} {o:bz} {n:Nd} (h:dZ ns o.node=some n):aH ns o=⟨o,true,n.par,n.key,ic ns o.node o.par⟩:=by unfold aH;rw [h];rfl
def px {ns:List Nd} {o:bz} (h:dZ ns o.node=none):aH ns o=⟨o,false,⟨0,0⟩,cW,ic ns o.node o.par⟩:=by unfold aH;rw [h];rfl
def DU {α:Type} {l:List α} {i:Nat} {a b:α}:(l.set i a).set i b=l.set i b:=List.set_set ..
def DV {α:Type} {l:List α} {i:Nat} {a b n:α} (hn:l[i]? =some n) (h:(l.set i a)[i]? =some b):b=a:=by
 have hi:=(aN.1 hn).1
 rw [gO hi] at h
 exact (Option.some.inj h).symm
def KQ (g:Nat) (e:cD) (xs:List Nd) (hs:dI xs) (hth:e.idle=false→gJ xs e.x.o.node) (hb:xs.length≤1000000):Ct Cp 222 #[pv g,gq.V e] (fun _=>True) [tV g xs] (fun v Cs=>v=.tuple #[]∧Cs= [tV g (iu xs e.d)]):=by
 refine Fz [.k (tV g xs)] Tryz.func222 fun U w0 hp=>bn (φ:=Iy g xs) 0 ?_
 rintro _ ⟨A,c,rfl⟩
 refine dB 1 g 328 Ug<|aa 5 fun a8=>aK [(7,.tuple #[iv (ec xs e.x.o.node:Int),.bool (decide (gJ xs e.x.o.node))])] [1,3] ⟨bT (hp:=fun w h=>h.bg 2 A c xs kr) (qE A c xs e.x.o.node hs (by omega)) jU,trivial⟩<|ae 7 [3] fun _=>eQ e.idle (fun h2=>?_) (fun h2=>?_)
 ·refine aa 2 fun _=>?_
  have e9:iu xs e.d=xs:=HV h2
  refine bP 1 g 328 Ug ql4 kr (by rw [e9])<|aS aP 2 A c xs (iu xs e.d) kr e9.symm<|aJ (Iy g (iu xs e.d)) [1,4] qg0 (⟨A,c,rfl⟩)<|a_ [5] ⟨kr,kr⟩
 ·have AY:e.idle=false:=by simpa using h2
  obtain ⟨n,hn⟩:=oC hs (hth AY)
  refine ae 6 [3] fun _=>eQ e.kW (fun h3=>?_) (fun h3=>?_)
  ·obtain ⟨x4,e5⟩:=aw (xs:=xs.set (ec xs e.x.o.node) (⟨⟨n.id.t,n.id.r⟩,⟨e.par.t,e.par.r⟩,n.key⟩:Nd)) (k:=ec xs e.x.o.node) qd6
   refine aO [(14,_),(16,_),(17,_),(19,_)] [1,1,3,3] ⟨br (hj:=fun _=>qvf) (fun vs=>A) (fun vs=>xs.length) (fun vs=>(ec xs e.x.o.node:Int)) 5 (fun vs w h=>Kd.cd (K:=aP) (xs:=xs) (h.bg 2 A c xs kr) qd6),cR aP 2 (fun vs=>A) (fun vs=>c) (fun vs=>xs) (ec xs e.x.o.node) 2 (fun vs=>n) (fun vs=>(⟨⟨n.id.t,n.id.r⟩,⟨e.par.t,e.par.r⟩,n.key⟩:Nd)) 29 (fun vs=>bZ.V e.par) (fun _=>hn.1),br (hj:=fun _=>qvf) (fun vs=>A) (fun vs=>xs.length) (fun vs=>(ec xs e.x.o.node:Int)) 5 (fun vs w h=>Kd.cd (K:=aP) (xs:=xs.set (ec xs e.x.o.node) (⟨⟨n.id.t,n.id.r⟩,⟨e.par.t,e.par.r⟩,n.key⟩:Nd)) (h.bg 3 A c (xs.set (ec xs e.x.o.node) (⟨⟨n.id.t,n.id.r⟩,⟨e.par.t,e.par.r⟩,n.key⟩:Nd)) kr) qd6),cR aP 4 (fun vs=>A) (fun vs=>c) (fun vs=>xs.set (ec xs e.x.o.node) (⟨⟨n.id.t,n.id.r⟩,⟨e.par.t,e.par.r⟩,n.key⟩:Nd)) (ec xs e.x.o.node) 4 (fun vs=>x4) (fun vs=>(⟨⟨x4.id.t,x4.id.r⟩,⟨x4.par.t,x4.par.r⟩,e.key⟩:Nd)) 9 (fun vs=>.string e.key) (fun _=>e5),trivial⟩ fun v6=>?_
   refine aa 1 fun _=>?_
   have e9:iu xs e.d=(xs.set (ec xs e.x.o.node) (⟨⟨n.id.t,n.id.r⟩,⟨e.par.t,e.par.r⟩,n.key⟩:Nd)).set (ec xs e.x.o.node) (⟨⟨x4.id.t,x4.id.r⟩,⟨x4.par.t,x4.par.r⟩,e.key⟩:Nd):=(L3 (e:=e.d) AY h3 hs hn.1 hn.2.1).trans (by have hx:=DV hn.1 e5;rw [hx,DU,hn.2.1];rfl)
   refine bP 1 g 328 Ug ql4 kr qsq<|aS aP 5 A c ((xs.set (ec xs e.x.o.node) (⟨⟨n.id.t,n.id.r⟩,⟨e.par.t,e.par.r⟩,n.key⟩:Nd)).set (ec xs e.x.o.node) (⟨⟨x4.id.t,x4.id.r⟩,⟨x4.par.t,x4.par.r⟩,e.key⟩:Nd)) (iu xs e.d) kr e9.symm<|aJ (Iy g (iu xs e.d)) [1,6] qg0 (⟨A,c,rfl⟩)<|a_ [7] ⟨kr,kr⟩
  ·refine ae 9 [1] fun _=>ao (e:=by have:=E4 xs e.x.o.node;omega) 24 ((ec xs e.x.o.node:Int)+1)<|aC 24 (iv ((ec xs e.x.o.node+1:Nat):Int)) (iv ((ec xs e.x.o.node:Int)+1)) (iT rfl)<|ah (DW A c xs (ec xs e.x.o.node) (ec xs e.x.o.node+1) rfl ((aN.1 hn.1).1) (by omega)) [2] cJ ?_
   rintro _ _ ⟨rfl,rfl⟩
   refine ae 5 [1] fun _=>?_
   have e9:iu xs e.d=xs.take (ec xs e.x.o.node)++xs.drop ((ec xs e.x.o.node)+1):=L4 (e:=e.d) AY (by show e.kW=false;simpa using h3) hs hn.1 hn.2.1
   refine bP 1 g 328 [sl A ((xs.take (ec xs e.x.o.node)++xs.drop ((ec xs e.x.o.node)+1)).length) c] ql4 kr (by rw [e9])<|aS aP 4 A c (xs.take (ec xs e.x.o.node)++xs.drop ((ec xs e.x.o.node)+1)) (iu xs e.d) kr e9.symm<|aJ (Iy g (iu xs e.d)) [1,5] qg0 (⟨A,c,rfl⟩)<|a_ [6] ⟨kr,kr⟩
def Dt (g:Nat) (x:aT) (xs:List Nd) (hs:dI xs) (ha:lR xs) (hb:xs.length≤1000000):hO Cp 223 #[pv g,bx.V x] (fun U w=>x.gx U w) [tV g xs] (fun v Cs=> ∃A2 c2,v=gq.V ⟨(⟨x.o,A2,c2⟩:aT),(aH xs x.o).kW,⟨(aH xs x.o).par.t,(aH xs x.o).par.r⟩,(aH xs x.o).key,(aH xs x.o).idle⟩∧Cs= [tV g (iD xs x.o),az.row A2 c2 x.o.aX]):=by
 refine kz [.k (tV g xs)] Tryz.func223 fun U w0 hp=>bn (φ:=Iy g xs) 0 ?_
 rintro _ ⟨A,c,rfl⟩
 refine dB 1 g 328 Ug<|aa 6 fun a8=>aO [(1,_),(7,_)] [3,3,3,7] ⟨aY (fun vs=>tB x) [] (fun vs=>bx.V ⟨x.o,ak (ag (vs 1) 3),an (ag (vs 1) 3)⟩) [fun vs=>.k (az.row (ak (ag (vs 1) 3)) (an (ag (vs 1) 3)) x.o.aX)] qkh kA,fJ (fun vs=>K5 g x.o.node x.o.par A c xs hs ha (by omega)) [1] (fun vs=>.bool (ic xs x.o.node x.o.par)) [fun vs=>.b g 328 [sl A xs.length c]] (fun vs w F h=>h.XS 1 A c xs kr) ko,trivial⟩ fun v6=>aa 1 fun _=>aK [(6,.tuple #[iv (ec xs x.o.node:Int),.bool (decide (gJ xs x.o.node))])] [6,3] ⟨bT (hp:=fun w h=>h.bg 2 A c xs kr) (qE A c xs x.o.node hs (by omega)) jU,trivial⟩<|aa 5 fun _=>aq (gJ xs x.o.node) (fun h7=>?_) (fun h7=>?_)
 ·obtain ⟨n,hn⟩:=oC hs h7
  refine aO [(5,_),(7,_),(13,_),(15,_)] [6,6,8,9,10] ⟨qb3,cZ 29 (fun vs=>ad A ((ec xs x.o.node)*5) 2) (fun vs=>bZ.V n.par) (fun vs w h=>iy (K:=aP) (o:=2) (m:=2) (sub:= [iv n.par.t,iv n.par.r]) (h.bg 2 A c xs kr) hn.1),qb3,cZ 9 (fun vs=>ad A ((ec xs x.o.node)*5) 4) (fun vs=>.string n.key) (fun vs w h=>bW (K:=aP) (h.bg 2 A c xs kr) hn.1),trivial⟩ fun v8=>?_
  refine ae 20 [3,3,3,12,11] fun EA=>eQ (ic xs x.o.node x.o.par) (fun iJ=>?_) (fun iJ=>?_)
  ·refine ae 7 [11,4] fun _=>?_
   have e9:iD xs x.o=xs:=Fy iJ
   refine bP 6 g 328 Ug qmt kr (by rw [e9])<|aS aP 2 A c xs (iD xs x.o) kr e9.symm<|aJ (Iy g (iD xs x.o)) [6,13] qhg (⟨A,c,rfl⟩) ?_
   have he:=nW hn.2.2
   exact bk [4] [14,5] ⟨ak (ag (v6 1) 3),an (ag (v6 1) 3),kt (gq.V ⟨(⟨x.o,ak (ag (v6 1) 3),an (ag (v6 1) 3)⟩:aT),true,⟨n.par.t,n.par.r⟩,n.key,ic xs x.o.node x.o.par⟩) qp9,kr⟩
  ·refine aa 5 fun _=>aq (gJ xs x.o.node) (fun kx=>?_) (fun kx=>?_)
   ·refine aO [(6,_),(7,_)] [6,12] ⟨qb3,cR aP 2 (fun vs=>A) (fun vs=>c) (fun vs=>xs) (ec xs x.o.node) 0 (fun vs=>n) (fun vs=>(⟨⟨x.o.node.t,x.o.node.r⟩,⟨x.o.par.t,x.o.par.r⟩,x.o.key⟩:Nd)) 184 (fun vs=>aP.V ⟨⟨x.o.node.t,x.o.node.r⟩,⟨x.o.par.t,x.o.par.r⟩,x.o.key⟩) (fun _=>hn.1),trivial⟩ fun jd=>?_
    refine ae 6 [11,4] fun _=>?_
    have e9:iD xs x.o=xs.set (ec xs x.o.node) (⟨⟨x.o.node.t,x.o.node.r⟩,⟨x.o.par.t,x.o.par.r⟩,x.o.key⟩:Nd):=Vt WV hs hn.1 hn.2.1
    refine bP 6 g 328 Ug qmt kr qsq<|aS aP 13 A c (xs.set (ec xs x.o.node) (⟨⟨x.o.node.t,x.o.node.r⟩,⟨x.o.par.t,x.o.par.r⟩,x.o.key⟩:Nd)) (iD xs x.o) kr e9.symm<|aJ (Iy g (iD xs x.o)) [6,14] qhg (⟨A,c,rfl⟩) ?_
    have he:=nW hn.2.2
    exact bk [4] [15,5] ⟨ak (ag (v6 1) 3),an (ag (v6 1) 3),kt (gq.V ⟨(⟨x.o,ak (ag (v6 1) 3),an (ag (v6 1) 3)⟩:aT),true,⟨n.par.t,n.par.r⟩,n.key,ic xs x.o.node x.o.par⟩) qp9,kr⟩
   ·exact (show False from kx h7).elim
 ·refine ae 21 [3,3,3,9,8] fun On=>eQ (ic xs x.o.node x.o.par) (fun sU=>?_) (fun sU=>?_)
  ·refine ae 7 [8,4] fun _=>?_
   have e9:iD xs x.o=xs:=Fy sU
   refine bP 6 g 328 Ug qmt kr (by rw [e9])<|aS aP 2 A c xs (iD xs x.o) kr e9.symm<|aJ (Iy g (iD xs x.o)) [6,10] qhg (⟨A,c,rfl⟩) ?_
   have he:=px (qm hs h7).1
   exact bk [4] [11,5] ⟨ak (ag (v6 1) 3),an (ag (v6 1) 3),kt (gq.V ⟨(⟨x.o,ak (ag (v6 1) 3),an (ag (v6 1) 3)⟩:aT),false,⟨0,0⟩,⟨#[]⟩,ic xs x.o.node x.o.par⟩) qp9,kr⟩
  ·refine aa 5 fun _=>aq (gJ xs x.o.node) (fun Io=>?_) (fun Io=>?_)
   ·exact (show False from h7 Io).elim
   ·refine aO [(8,_)] [6,9,6] ⟨aY (fun vs=>Dd A c xs (ec xs x.o.node) (a5 (vs 7)) (⟨⟨x.o.node.t,x.o.node.r⟩,⟨x.o.par.t,x.o.par.r⟩,x.o.key⟩:Nd) (E4 _ _) (by omega)) [2,10] (fun vs=>sl (ak (vs 8)) ((xs.take (ec xs x.o.node)++(⟨⟨x.o.node.t,x.o.node.r⟩,⟨x.o.par.t,x.o.par.r⟩,x.o.key⟩:Nd)::xs.drop (ec xs x.o.node)).length) (an (vs 8))) [fun vs=>.k (aP.row (ak (vs 8)) (an (vs 8)) (xs.take (ec xs x.o.node)++(⟨⟨x.o.node.t,x.o.node.r⟩,⟨x.o.par.t,x.o.par.r⟩,x.o.key⟩:Nd)::xs.drop (ec xs x.o.node)))] nE kA,trivial⟩ fun zD=>ae 6 [8,4] fun _=>?_
    have e9:iD xs x.o=xs.take (ec xs x.o.node)++(⟨⟨x.o.node.t,x.o.node.r⟩,⟨x.o.par.t,x.o.par.r⟩,x.o.key⟩:Nd)::xs.drop (ec xs x.o.node):=Vu (by simpa using sU) hs Io
    refine bP 12 g 328 [sl (ak (zD 8)) ((xs.take (ec xs x.o.node)++(⟨⟨x.o.node.t,x.o.node.r⟩,⟨x.o.par.t,x.o.par.r⟩,x.o.key⟩:Nd)::xs.drop (ec xs x.o.node)).length) (an (zD 8))] [sl (ak (zD 8)) ((iD xs x.o).length) (an (zD 8))] kr (by rw [e9])<|aS aP 11 (ak (zD 8)) (an (zD 8)) (xs.take (ec xs x.o.node)++(⟨⟨x.o.node.t,x.o.node.r⟩,⟨x.o.par.t,x.o.par.r⟩,x.o.key⟩:Nd)::xs.drop (ec xs x.o.node)) (iD xs x.o) kr e9.symm<|aJ (Iy g (iD xs x.o)) [12,13] [bJ g 328 [sl (ak (zD 8)) ((iD xs x.o).length) (an (zD 8))],aP.row (ak (zD 8)) (an (zD 8)) (iD xs x.o)] (⟨ak (zD 8),an (zD 8),rfl⟩) ?_
    have he:=px (qm hs Io).1
    exact bk [4] [14,5] ⟨ak (ag (v6 1) 3),an (ag (v6 1) 3),kt (gq.V ⟨(⟨x.o,ak (ag (v6 1) 3),an (ag (v6 1) 3)⟩:aT),false,⟨0,0⟩,⟨#[]⟩,ic xs x.o.node x.o.par⟩) qp9,kr⟩

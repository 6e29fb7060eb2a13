/- For the law of worlds: What functions do; What lies in memory. -/
import Derived.Test.YtfookmefmjhonaaGreatZ23
set_option linter.all false
namespace Go.Proofs.YtfookmefmjhonaaGreat.My
open Go.RowKit Go.bE
def U_ {a b:cN} (h:bl a b<0):(-1:Int)=bl a b:=by
 rw [nR] at h
 exact qj6
def Va {a b:cN} (h:bl b a<0):(1:Int)=bl a b:=by
 rw [nR] at h
 exact qj6
def _s {a b:cN} (h: ¬bl a b<0) (h2: ¬bl b a<0):(0:Int)=bl a b:=by
 rw [nR] at h h2
 exact qj6
def Sr (x y:aT):Ct Cp 240 #[bx.V x,bx.V y] (fun _=>True) [] (fun v Cs=>v=iv (bl x.o.st y.o.st)∧Cs= []):=by
 refine cc Tryz.func240 fun w0 hp=>ae 12 [0,1] fun a8=>ah (Dx x y) [] cJ ?_
 rintro _ _ ⟨rfl,rfl⟩
 refine aa 2 fun _=>aq (bl x.o.st y.o.st<0) (fun h2=>?_) (fun h2=>?_)
 ·refine aa 4 fun _=>a_ [] ⟨kt (iv (-1)) (iT (U_ h2)),kr⟩
 ·refine ae 4 [1,0] fun _=>ah (Dx y x) [] cJ ?_
  rintro _ _ ⟨rfl,rfl⟩
  refine aa 2 fun _=>aq (bl y.o.st x.o.st<0) (fun h3=>?_) (fun h3=>?_)
  ·refine aa 4 fun _=>a_ [] ⟨kt (iv 1) (iT (Va h3)),kr⟩
  ·refine aa 6 fun _=>a_ [] ⟨kt (iv 0) (iT (_s h2 h3)),kr⟩
def I' (aU:OA) (bb:Nat) (xs:List aT) (y:aT) (hb:xs.length≤1073741824):Ct Cp 239 #[sl aU xs.length bb,bx.V y,.func (.func 240) #[] #[]] (fun w=>bx.Rd aU xs w) [] (fun v Cs=> ∃(i:Nat) (f:Bool),v=.tuple #[iv i,.bool f]∧i≤xs.length∧Cs= []):=by
 refine cc Tryz.func239 fun w0 hp=>aa 20 fun a8=>aR (σ:=Nat×Nat) (fun (i,j)=> [(0,sl aU xs.length bb),(2,.func (.func 240) #[] #[]),(4,pv (a8 2)),(6,iv 0),(7,.bool false),(8,iv (xs.length:Int)),(9,iv i),(10,iv j)]) (fun (i,j)=> [.b (a8 2) 56 (aT.cells y)]) (fun (i,j)=>i≤j∧j≤xs.length) (fun (i,j)=>j-i) (0,xs.length) [0] ⟨bh _,bO _⟩ ?_
 rintro _ ⟨i,j⟩ ⟨JC,hj⟩ aB
 refine aa 7 fun _=>aq ((i:Int)<(j:Int)) (fun h2=>?_) (fun h2=>?_)
 ·refine aa 7 fun _=>ao 20 ((i:Int)+(j:Int))<|aa 1 fun _=>aC 21 (.int .u64 ((i+j:Nat):Int)) (.int .u64 (IntKind.u64.wrap ((i:Int)+(j:Int)))) qgr<|aa 1 fun _=>aC 22 (.int .u64 (((i+j)/2:Nat):Int)) (.int .u64 (Int.fdiv ((i+j:Nat):Int) (2^1))) qhy<|aa 1 fun _=>aC 23 (iv (((i+j)/2:Nat):Int)) (iv (IntKind.i64.wrap (((i+j)/2:Nat):Int))) qkb<|aa 3 fun _=>?_
  obtain ⟨x3,e4⟩:=aw (xs:=xs) (k:=(i+j)/2) (by omega)
  refine aK [(3,_),(4,bx.V x3),(6,iv (bl x3.o.st y.o.st))] [0] ⟨bF aU xs.length (((i+j)/2:Nat):Int) 12 qmf,cB 56 (((cz aU).add (((i+j)/2)*12)).add 0) (fun w h=>bN (K:=bx) (hp.aE h.ch) e4),bT (Sr x3 y) jU,trivial⟩<|aq ((bl x3.o.st y.o.st)<0) (fun h5=>?_) (fun h5=>?_)
  ·refine aa 3 fun _=>ao 33 ((((i+j)/2:Nat):Int)+1)<|aa 3 fun _=>aB _ (((i+j)/2)+1,j) [0] kr ⟨by omega,hj⟩ du
  ·refine aa 5 fun _=>aB _ (i,((i+j)/2)) [0] kr ⟨by omega,by omega⟩ du
 ·refine aa 2 fun _=>?_
  rcases bK (decide ((i:Int)<(xs.length:Int))) with b7|b7
  ·have h6:=cg b7
   obtain ⟨x8,e9⟩:=aw (xs:=xs) (k:=i) (by omega)
   refine aK [(3,.bool true),(8,_),(9,bx.V x8),(11,iv (bl x8.o.st y.o.st))] [0] ⟨qda,bF aU xs.length (i:Int) 12 qmf,cB 56 (ad aU (i*12) 0) (fun w h=>bN (K:=bx) (hp.aE h.ch) e9),bT (Sr x8 y) jU,trivial⟩<|a_ [] ⟨i,decide ((bl x8.o.st y.o.st)=0),kr,by omega,kr⟩
  ·have h6:=de b7
   refine aK [(3,.bool false)] [] qv0<|a_ [] ⟨i,false,kr,by omega,kr⟩
def Ja (A:OA) (c:Nat) (xs:List aT) (i gv:Nat) (x:aT) (hi:i≤xs.length) (hb:xs.length≤1000000):Ct Cp 241 #[sl A xs.length c,iv i,sl (so gv) 1 1] (fun _=>True) [bx.row A c xs,bJ gv 56 (aT.cells x)] (fun v Cs=> ∃A2 c2,v=sl A2 ((xs.take i++x::xs.drop i).length) c2∧Cs= [bx.row A2 c2 (xs.take i++x::xs.drop i)]):=by
 refine Fz [.k (bx.row A c xs),.b gv 56 (aT.cells x)] Tryz.func241 fun U w0 hp=>mi bx 1 gv 1 [x]<|aa 8 fun _=>dN (φ:=xs.length≤c) qko fun OV=>fC A xs.length c 12 i xs.length (some (iv i)) none (⟨_,rfl⟩) kD vq<|aa 28 fun _=>aq ((i:Int)=(xs.length:Int)) (fun h2=>?_) (fun h2=>?_)
 ·refine aa 4 fun _=>bQ bx 0 A c xs (so gv) 1 1 [x] qiw (by omega) fun A3 c4=>aa 2 fun _=>aS bx 0 A3 c4 (xs++ [x]) (xs.take i++x::xs.drop i) kr qmn<|qtz
 ·refine aa 7 fun _=>ao 28 ((xs.length:Int)+1)<|aa 4 fun _=>aq (((xs.length:Int)+1)>(c:Int)) (fun h5=>?_) (fun h5=>?_)
  ·refine aa 4 fun _=>fC (hh:=⟨_,rfl⟩) A xs.length c 12 0 i none (some (iv i)) rfl kD vq<|aC 34 (sl A i c) (sl (dS A c 0 12) (i-0) (c-0)) Iz<|aa 3 fun _=>ao 37 ((xs.length:Int)+1)<|aa 2 fun _=>ao 39 (((xs.length:Int)+1)- (i:Int)) ?_
   have e7:((xs.length:Int)+1)- (i:Int)=(((xs.length+1-i):Nat):Int):=by omega
   refine aC 39 (iv (((xs.length+1-i):Nat):Int)) (iv (((xs.length:Int)+1)- (i:Int))) (iT e7)<|qg bx A c i (xs.take i) (List.replicate (xs.length+1-i) (⟨⟨⟨0,0⟩,0,[],0,⟨0,0⟩,⟨0,0⟩,cW,0,0⟩,none,0⟩:aT)) 45 3 (iv (((xs.length+1-i):Nat):Int)) qia C7 (fun w h=>.zr (kk:=.i64) (x0:=(⟨⟨⟨0,0⟩,0,[],0,⟨0,0⟩,⟨0,0⟩,cW,0,0⟩,none,0⟩:aT)) kr kr) RK RK fun a6 c7 hc8=>aa 6 fun _=>fC (some a6) (i+(List.replicate (xs.length+1-i) (⟨⟨⟨0,0⟩,0,[],0,⟨0,0⟩,⟨0,0⟩,cW,0,0⟩,none,0⟩:aT)).length) c7 12 i (i+(List.replicate (xs.length+1-i) (⟨⟨⟨0,0⟩,0,[],0,⟨0,0⟩,⟨0,0⟩,cW,0,0⟩,none,0⟩:aT)).length) (some (iv i)) none (⟨_,rfl⟩) kD YC<|aa 1 fun _=>nT 56 12 2 (some a6) c7 ((xs.take i++List.replicate (xs.length+1-i) (⟨⟨⟨0,0⟩,0,[],0,⟨0,0⟩,⟨0,0⟩,cW,0,0⟩,none,0⟩:aT)).length) ((xs.take i++List.replicate (xs.length+1-i) (⟨⟨⟨0,0⟩,0,[],0,⟨0,0⟩,⟨0,0⟩,cW,0,0⟩,none,0⟩:aT)).flatMap bx.f) i ((i+(List.replicate (xs.length+1-i) (⟨⟨⟨0,0⟩,0,[],0,⟨0,0⟩,⟨0,0⟩,cW,0,0⟩,none,0⟩:aT)).length)-i) (c7-i) 1 (sl (so gv) 1 1) ([x].flatMap bx.f) RL Co qoy<|aa 2 fun _=>aO [(3,_),(4,_),(7,_),(8,_)] [] ⟨RM,lT (fun vs=>some a6) (fun vs=>(i+(List.replicate (xs.length+1-i) (⟨⟨⟨0,0⟩,0,[],0,⟨0,0⟩,⟨0,0⟩,cW,0,0⟩,none,0⟩:aT)).length)) (fun vs=>c7) (fun vs=>((i:Int)+1).toNat) (fun vs=>(i+(List.replicate (xs.length+1-i) (⟨⟨⟨0,0⟩,0,[],0,⟨0,0⟩,⟨0,0⟩,cW,0,0⟩,none,0⟩:aT)).length)) 12 (fun vs=>some (iv ((i:Int)+1))) (fun vs=>none) RN (fun _=>kD) qve,lT (fun vs=>A) (fun vs=>xs.length) (fun vs=>c) (fun vs=>i) (fun vs=>xs.length) 12 (fun vs=>some (iv i)) (fun vs=>none) Kh (fun _=>kD) IA,lU 56 12 2 (some a6) c7 ((xs.take i++List.replicate (xs.length+1-i) (⟨⟨⟨0,0⟩,0,[],0,⟨0,0⟩,⟨0,0⟩,cW,0,0⟩,none,0⟩:aT)).length) (ba ((xs.take i++List.replicate (xs.length+1-i) (⟨⟨⟨0,0⟩,0,[],0,⟨0,0⟩,⟨0,0⟩,cW,0,0⟩,none,0⟩:aT)).flatMap bx.f) (i*12) (([x].flatMap bx.f).take (min 1 ((i+(List.replicate (xs.length+1-i) (⟨⟨⟨0,0⟩,0,[],0,⟨0,0⟩,⟨0,0⟩,cW,0,0⟩,none,0⟩:aT)).length)-i)*12))) (((i:Int)+1).toNat) ((i+(List.replicate (xs.length+1-i) (⟨⟨⟨0,0⟩,0,[],0,⟨0,0⟩,⟨0,0⟩,cW,0,0⟩,none,0⟩:aT)).length)- (((i:Int)+1).toNat)) (c7- (((i:Int)+1).toNat)) (xs.length-i) (sl (dS A c i 12) (xs.length-i) (c-i)) ((xs.drop i).flatMap bx.f) qt3 Co qoy,trivial⟩ fun v9=>aa 5 fun _=>?_
   have e9:ba (ba ((xs.take i++List.replicate (xs.length+1-i) (⟨⟨⟨0,0⟩,0,[],0,⟨0,0⟩,⟨0,0⟩,cW,0,0⟩,none,0⟩:aT)).flatMap bx.f) (i*12) (([x].flatMap bx.f).take (min 1 ((i+(List.replicate (xs.length+1-i) (⟨⟨⟨0,0⟩,0,[],0,⟨0,0⟩,⟨0,0⟩,cW,0,0⟩,none,0⟩:aT)).length)-i)*12))) ((((i:Int)+1).toNat)*12) (((xs.drop i).flatMap bx.f).take (min (xs.length-i) ((i+(List.replicate (xs.length+1-i) (⟨⟨⟨0,0⟩,0,[],0,⟨0,0⟩,⟨0,0⟩,cW,0,0⟩,none,0⟩:aT)).length)- (((i:Int)+1).toNat))*12))=(xs.take i++x::xs.drop i).flatMap bx.f:=s6 hi (by rw [eA]) (by omega) kD kD
   refine aD 3 (row 56 12 (sl (some a6) ((xs.take i++List.replicate (xs.length+1-i) (⟨⟨⟨0,0⟩,0,[],0,⟨0,0⟩,⟨0,0⟩,cW,0,0⟩,none,0⟩:aT)).length) c7) ((xs.take i++List.replicate (xs.length+1-i) (⟨⟨⟨0,0⟩,0,[],0,⟨0,0⟩,⟨0,0⟩,cW,0,0⟩,none,0⟩:aT)).length) (ba (ba ((xs.take i++List.replicate (xs.length+1-i) (⟨⟨⟨0,0⟩,0,[],0,⟨0,0⟩,⟨0,0⟩,cW,0,0⟩,none,0⟩:aT)).flatMap bx.f) (i*12) (([x].flatMap bx.f).take (min 1 ((i+(List.replicate (xs.length+1-i) (⟨⟨⟨0,0⟩,0,[],0,⟨0,0⟩,⟨0,0⟩,cW,0,0⟩,none,0⟩:aT)).length)-i)*12))) ((((i:Int)+1).toNat)*12) (((xs.drop i).flatMap bx.f).take (min (xs.length-i) ((i+(List.replicate (xs.length+1-i) (⟨⟨⟨0,0⟩,0,[],0,⟨0,0⟩,⟨0,0⟩,cW,0,0⟩,none,0⟩:aT)).length)- (((i:Int)+1).toNat))*12)))) (bx.row (some a6) c7 (xs.take i++x::xs.drop i)) kr (by unfold Kd.row;rw [← e9,mK hi,show ((xs.take i++List.replicate (xs.length+1-i) (⟨⟨⟨0,0⟩,0,[],0,⟨0,0⟩,⟨0,0⟩,cW,0,0⟩,none,0⟩:aT))).length=xs.length+1 by simp only [bm,b0,eA];omega];rfl)<|a_ [4] ⟨some a6,c7,kt (sl (some a6) (i+(List.replicate (xs.length+1-i) (⟨⟨⟨0,0⟩,0,[],0,⟨0,0⟩,⟨0,0⟩,cW,0,0⟩,none,0⟩:aT)).length) c7) WE,kr⟩
  ·refine aa 7 fun _=>ao 59 ((xs.length:Int)+1)<|fC (hh:=⟨.i64,by rw [iR (by omega)]⟩) A xs.length c 12 0 (((xs.length:Int)+1).toNat) none (some (iv ((xs.length:Int)+1))) rfl kD vq<|aC 60 (sl A (xs.length+1) c) (sl (dS A c 0 12) (((xs.length:Int)+1).toNat-0) (c-0)) Iz<|aa 10 fun _=>ao 65 ((i:Int)+1)<|fC A (xs.length+1) c 12 (((i:Int)+1).toNat) (xs.length+1) (some (iv ((i:Int)+1))) none TR kD vq<|EV 263 Tryz.f263 45 56 12 56 12 56 12 0 1 A (so gv) c (((i:Int)+1).toNat) ((xs.length+1)- (((i:Int)+1).toNat)) (c- (((i:Int)+1).toNat)) xs.length (xs.flatMap bx.f) 1 1 ([x].flatMap bx.f) Tryz.func263<|oz 56 12 0 A c xs.length 1 (xs.flatMap bx.f) fun gs hg=>aa 4 fun _=>aO [(3,_),(4,_),(7,_),(8,_)] [] ⟨RM,lT (fun vs=>A) (fun vs=>(xs.length+1)) (fun vs=>c) (fun vs=>((i:Int)+1).toNat) (fun vs=>(xs.length+1)) 12 (fun vs=>some (iv ((i:Int)+1))) (fun vs=>none) RN (fun _=>kD) IA,lT (fun vs=>A) (fun vs=>(xs.length+1)) (fun vs=>c) (fun vs=>i) (fun vs=>(xs.length+1)) 12 (fun vs=>some (iv i)) (fun vs=>none) Kh (fun _=>kD) IA,lU 56 12 2 A c (xs.length+1) (xs.flatMap bx.f++gs) (((i:Int)+1).toNat) ((xs.length+1)- (((i:Int)+1).toNat)) (c- (((i:Int)+1).toNat)) ((xs.length+1)-i) (sl (dS A c i 12) ((xs.length+1)-i) (c-i)) ((xs.flatMap bx.f++gs).drop (i*12)) (fun vs w h=>.sl (s5 bx hi hg) (Rc.cut h.YD (yj bx hg (by omega)))) Co (qe bx hi (by omega)),trivial⟩ fun v10=>?_
   refine aa 4 fun _=>fC A (xs.length+1) c 12 i (xs.length+1) (some (iv i)) none (⟨_,rfl⟩) kD vq<|aa 1 fun _=>nT 56 12 3 A c (xs.length+1) (ba (xs.flatMap bx.f++gs) ((((i:Int)+1).toNat)*12) (((xs.flatMap bx.f++gs).drop (i*12)).take (min ((xs.length+1)-i) ((xs.length+1)- (((i:Int)+1).toNat))*12))) i ((xs.length+1)-i) (c-i) 1 (sl (so gv) 1 1) ([x].flatMap bx.f) RL Co qoy<|aa 6 fun _=>?_
   have e9:ba (ba (xs.flatMap bx.f++gs) ((((i:Int)+1).toNat)*12) (((xs.flatMap bx.f++gs).drop (i*12)).take (min ((xs.length+1)-i) ((xs.length+1)- (((i:Int)+1).toNat))*12))) (i*12) (([x].flatMap bx.f).take (min 1 ((xs.length+1)-i)*12))=(xs.take i++x::xs.drop i).flatMap bx.f:=yk hi hg (by omega) (by omega) (by omega)
   refine aD 3 (row 56 12 (sl A (xs.length+1) c) (xs.length+1) (ba (ba (xs.flatMap bx.f++gs) ((((i:Int)+1).toNat)*12) (((xs.flatMap bx.f++gs).drop (i*12)).take (min ((xs.length+1)-i) ((xs.length+1)- (((i:Int)+1).toNat))*12))) (i*12) (([x].flatMap bx.f).take (min 1 ((xs.length+1)-i)*12)))) (bx.row A c (xs.take i++x::xs.drop i)) kr qha<|qt4
def Jf (A:OA) (c:Nat) (xs:List aT) (i j:Nat) (hj:j=i+1) (hi:i<xs.length) (hb:xs.length≤1000000):Ct Cp 207 #[sl A xs.length c,iv i,iv j] (fun _=>True) [bx.row A c xs] (fun v Cs=>v=sl A ((xs.take i++xs.drop (i+1)).length) c∧Cs= [bx.row A c (xs.take i++xs.drop (i+1))]):=by
 refine Fz [.k (bx.row A c xs)] Tryz.func207 fun U w0 hp=>dN (φ:=xs.length≤c) qko fun OV=>dN (φ:=A.isSome=true) (fun w h=>Kd.cd (K:=bx) (h.bg 0 A c xs kr) (by omega)) fun lu=>aa 11 fun _=>Jj A xs.length c 12 i j xs.length<|aa 8 fun _=>aq ((i:Int)=(j:Int)) (fun h3=>?_) (fun h3=>?_)
 ·exact kp
 ·refine aa 8 fun _=>aO [(2,_),(5,_),(6,_)] [] ⟨EX i A xs.length c i 12 (some (iv i)) rfl (fun _=>kr) (⟨_,rfl⟩) (fun vs w h=>G0),lT (fun vs=>A) (fun vs=>xs.length) (fun vs=>c) (fun vs=>j) (fun vs=>xs.length) 12 (fun vs=>some (iv j)) (fun vs=>none) Kh (fun _=>G0) qv8,yp bx 0 A c i xs (xs.drop j) 45 45 (sl (dS A c j 12) (xs.length-j) (c-j)) qhx ub ub lu,trivial⟩ fun v4=>aa 6 fun _=>fC (hh:=⟨_,rfl⟩) A (i+(xs.drop j).length) c 12 (i+(xs.drop j).length) xs.length (some (iv ((i+(xs.drop j).length):Int))) (some (iv (xs.length:Int))) (⟨_,rfl⟩) G0 G0<|s7 56 12 1 A c (xs.take i++xs.drop j).length ((xs.take i++xs.drop j).flatMap bx.f) (i+(xs.drop j).length) (xs.length- (i+(xs.drop j).length)) (c- (i+(xs.drop j).length)) qkj qm8<|aa 6 fun _=>aS bx 1 A c (xs.take i++xs.drop j) (xs.take i++xs.drop (i+1)) kr (by rw [hj])<|qec
def LI (e:aT) (b:Nat) (x:aT):Ct Cp 202 #[bx.V e,pv b] (fun _=>True) [bJ b 56 (aT.cells x)] (fun v Cs=>v=.bool (decide (e.o.st.r=x.o.st.r∧e.o.seq=x.o.seq))∧Cs= [bJ b 56 (aT.cells x)]):=by
 refine Fz [.b b 56 (aT.cells x)] Tryz.func202 fun U w0 hp=>ae 9 [1,0] fun a8=>ah (ag1 e x) [] cJ ?_
 exact qvp
end Go.Proofs.YtfookmefmjhonaaGreat.My
namespace Go.bE
open Go.RowKit
def Mu {α:Type} {K:Kd α} {A:OA} {c i:Nat} {xs:List α}:(K.row A c xs).le (K.row A c (xs.take i)):=fun F w ⟨h1,h2⟩=>by
 have hl:(xs.take i).length≤xs.length:=by rw [b0];omega
 obtain ⟨h3,⟨h4,h5⟩|⟨g,cap,cur,h4,h5,h6,h7,h8,h9,iJ⟩⟩:=h2
 ·injection h4 with h4 h5' h6
  subst h4
  subst h6
  have e:xs= []:=dV.1 h5'
  subst e
  exact ⟨h1,by simp,.inl ⟨by simp,by simp⟩⟩
 ·injection h4 with h4 _ kx
  subst h4
  subst kx
  refine ⟨h1,K.size _,.inr ⟨g,c,cur,rfl,h5,h6,eF hl h7,h8,h9,?_⟩⟩
  have xw:cur.toList.take (xs.length*K.sz)=xs.flatMap K.f:=iJ
  rw [b0]
  rcases Nat.le_total i xs.length with h|h
  ·rw [fD h,← K.Sm h,← xw,List.take_take,fD (dC _ h)]
  ·rw [Nat.min_eq_right h,xw,cA h]
end Go.bE
namespace Go.Proofs.YtfookmefmjhonaaGreat.My
open Go.RowKit Go.bE
section
variable {α:Type} {p:α→Bool} {xs L:List α} {i j:Nat} {y:α}
abbrev j8 (p:α→Bool) (xs:List α):List α:=xs.filter fun y=> !p y
def B5 (h:eU p xs= -1):j8 p xs=xs:=by
 unfold eU at h
 split at h
 ·omega
 ·rename_i h2
  refine List.filter_eq_self.2 fun y hy=>?_
  cases hp:p y with
  |false=>rfl
  |true=>exact absurd (List.any_eq_true.2 ⟨y,hy,hp⟩) h2
def H9 (h: ¬eU p xs= -1):0≤eU p xs∧(eU p xs).toNat<xs.length∧xs.take (eU p xs).toNat=j8 p (xs.take ((eU p xs).toNat+1)):=by
 have h0:0≤eU p xs:=by
  unfold eU at*
  split
  ·omega
  ·rename_i h2
   exact absurd (if_neg h2) h
 obtain ⟨x,hx,hp⟩:=xE h0
 refine ⟨h0,(aN.1 hx).1,?_⟩
 have h1:=yx.1 h0
 have e:(eU p xs).toNat=xs.findIdx p:=by unfold eU;rw [if_pos h1];rfl
 rw [← bp hx,j8,List.filter_append,List.filter_eq_self.2,List.filter_cons,hp]
 ·simp
 ·intro y hy
  obtain ⟨k,hk,e2⟩:=List.mem_take_iff_getElem.1 hy
  rw [e] at hk
  have:=List.not_of_lt_findIdx (p:=p) (xs:=xs) (i:=k) (by omega)
  rw [← e2]
  exact Rf
def QF (hl:L.length=xs.length) (JC:i≤j) (h1:L.take i=j8 p (xs.take j)) (h2:L.drop j=xs.drop j) (hy:L[j]? =some y) (hp:p y=false):(L.set i y).take (i+1)=j8 p (xs.take (j+1))∧(L.set i y).drop (j+1)=xs.drop (j+1):=by
 have hj:=(aN.1 hy).1
 have hx:xs[j]? =some y:=by
  exact qjd
 constructor
 ·rw [← bp hx,j8,List.filter_append,List.filter_cons,hp]
  have e:(L.set i y)[i]? =some y:=gO (by omega)
  rw [← bp e,List.take_set_of_le (bO i),h1]
  simp [j8]
 ·rw [List.drop_set_of_lt (by omega)]
  exact qmd
def Mw (hl:L.length=xs.length) (h1:L.take i=j8 p (xs.take j)) (h2:L.drop j=xs.drop j) (hy:L[j]? =some y) (hp:p y=true):L.take i=j8 p (xs.take (j+1))∧L.drop (j+1)=xs.drop (j+1):=by
 have hx:xs[j]? =some y:=by
  exact qjd
 constructor
 ·rw [← bp hx,j8,List.filter_append,List.filter_cons,hp,h1]
  simp [j8]
 ·exact qmd
end
end Go.Proofs.YtfookmefmjhonaaGreat.My
namespace Go.Proofs.YtfookmefmjhonaaGreat.My
open Go.RowKit Go.bE
def oi {v:List Int} {r:Int} {x:Int} (h:v[r.toNat]? =some x):dA v r=x:=by unfold dA;rw [bA,h];rfl
def MA (aU:OA) (bb:Nat) (xs:List aT) (b:Nat) (x:aT) (hb:xs.length≤1073741824):hO Cp 205 #[sl aU xs.length bb,.func (.func 202) #[] #[pv b]] (fun U w=>bx.gx aU xs U w) [bJ b 56 (aT.cells x)] (fun v Cs=>v=iv (eU (fun z_:aT=>decide (z_.o.st.r=x.o.st.r∧z_.o.seq=x.o.seq)) xs)∧Cs= [bJ b 56 (aT.cells x)]):=by
 refine kz [.b b 56 (aT.cells x)] Tryz.func205 fun U w0 hp=>aa 12 fun _=>aR (σ:=Nat) (fun k=> [(0,sl aU xs.length bb),(1,.func (.func 202) #[] #[pv b]),(4,iv 0),(7,iv (xs.length:Int)),(8,iv k)]) qsc (fun k=>k≤xs.length∧ ∀y∈xs.take k,(fun z_:aT=>decide (z_.o.st.r=x.o.st.r∧z_.o.seq=x.o.seq)) y=false) (fun k=>xs.length-k) 0 [0] ⟨bh _,by simp⟩ ?_
 rintro _ k ⟨hk,hy⟩ aB
 refine aa 5 fun _=>aq ((k:Int)<(xs.length:Int)) (fun h1=>?_) (fun h1=>?_)
 ·refine aa 13 fun _=>aV aU xs.length (k:Int) 12 qlq ?_
  obtain ⟨x2,e3⟩:=aw (xs:=xs) (k:=k) (by omega)
  refine bd 56 (ad aU (k*12) 0) (bx.V x2) qoo<|ah (LI x2 b x) [0] cJ ?_
  rintro _ _ ⟨rfl,rfl⟩
  refine dB 1 b 56 (aT.cells x)<|aa 1 fun _=>aq (x2.o.st.r=x.o.st.r∧x2.o.seq=x.o.seq) (fun h4=>?_) (fun h4=>?_)
  ·refine aa 5 fun _=>a_ [1] ⟨kt (iv k) (by rw [om (p:=fun z_:aT=>decide (z_.o.st.r=x.o.st.r∧z_.o.seq=x.o.seq)) hy e3 Ir]),kr⟩
  ·refine aa 4 fun _=>ao 18 ((k:Int)+1)<|aa 2 fun _=>aB _ (k+1) [1] kr ⟨by omega,mc (p:=fun z_:aT=>decide (z_.o.st.r=x.o.st.r∧z_.o.seq=x.o.seq)) hy e3 Ir⟩ (by omega)
 ·refine aa 5 fun _=>a_ [0] ⟨kt (iv (-1)) (by rw [jV (p:=fun z_:aT=>decide (z_.o.st.r=x.o.st.r∧z_.o.seq=x.o.seq)) hy (by omega)]),kr⟩
def Jb (aU:OA) (bb:Nat) (xs:List aT) (b:Nat) (x:aT) (hb:xs.length≤1073741824):hO Cp 188 #[sl aU xs.length bb,.func (.func 202) #[] #[pv b]] (fun U w=>bx.gx aU xs U w) [bJ b 56 (aT.cells x)] (fun v Cs=>v=.bool (xs.any (fun z_:aT=>decide (z_.o.st.r=x.o.st.r∧z_.o.seq=x.o.seq)))∧Cs= [bJ b 56 (aT.cells x)]):=by
 refine kz [.b b 56 (aT.cells x)] Tryz.func188 fun U w0 hp=>aa 8 fun _=>bD (MA aU bb xs b x hb) [0] Ad ?_
 rintro _ _ ⟨rfl,rfl⟩
 refine dB 1 b 56 (aT.cells x)<|aa 3 fun _=>a_ [1] ⟨kt (.bool (decide ((eU (fun z_:aT=>decide (z_.o.st.r=x.o.st.r∧z_.o.seq=x.o.seq)) xs)≥0))) (dP qjp),kr⟩
def H_ (y:aT) (b:Nat) (vv:List Int) (Av:OA) (cv:Nat) (hm:bV y.o∧y.o.aX.length=vv.length):hO Cp 206 #[bx.V y,pv b] (fun U w=>y.gx U w∧az.gx Av vv U w) [bJ b 32 [sl Av vv.length cv]] (fun v Cs=>v=.bool (decide (cQ vv y.o))∧Cs= [bJ b 32 [sl Av vv.length cv]]):=by
 refine kz [.b b 32 [sl Av vv.length cv]] Tryz.func206 fun U w0 hp=>?_
 obtain ⟨QG,mJ⟩:=hm
 have hv:=QG.2.1;have hr:=QG.2.2.1;have ji:=QG.1;unfold bY at ji;have hsq:=QG.2.2.2.2.1;have atd:=QG.2.2.2.2.2.1;have Lp:=oh QG
 refine ae 9 [0,1] fun a8=>ah (isReady Av cv vv y RS mJ.symm RS RS RS RS) [] (fun w h=>⟨(hp.2.aE h.ch).rc,(aT.gx.aE hp.1 h.ch).rd⟩) ?_
 exact qvp
def Je (aU:OA) (bb:Nat) (xs:List aT) (b:Nat) (vv:List Int) (Av:OA) (cv:Nat) (hb:xs.length≤1073741824) (hm: ∀y∈xs,bV y.o∧y.o.aX.length=vv.length):hO Cp 205 #[sl aU xs.length bb,.func (.func 206) #[] #[pv b]] (fun U w=>ka aU xs U w∧az.gx Av vv U w) [bJ b 32 [sl Av vv.length cv]] (fun v Cs=>v=iv (eU (fun z_:aT=>decide (cQ vv z_.o)) xs)∧Cs= [bJ b 32 [sl Av vv.length cv]]):=by
 refine kz [.b b 32 [sl Av vv.length cv]] Tryz.func205 fun U w0 hp=>aa 12 fun _=>aR (σ:=Nat) (fun k=> [(0,sl aU xs.length bb),(1,.func (.func 206) #[] #[pv b]),(4,iv 0),(7,iv (xs.length:Int)),(8,iv k)]) qqo (fun k=>k≤xs.length∧ ∀y∈xs.take k,(fun z_:aT=>decide (cQ vv z_.o)) y=false) (fun k=>xs.length-k) 0 [0] ⟨bh _,by simp⟩ ?_
 rintro _ k ⟨hk,hy⟩ aB
 refine aa 5 fun _=>aq ((k:Int)<(xs.length:Int)) (fun h1=>?_) (fun h1=>?_)
 ·refine aa 13 fun _=>aV aU xs.length (k:Int) 12 (fun w h=>Kd.cd (K:=bx) (xs:=xs) ((hp.1.2.1.aE h.ch).rc) (by omega)) ?_
  obtain ⟨x2,e3⟩:=aw (xs:=xs) (k:=k) (by omega)
  refine bd 56 (ad aU (k*12) 0) (bx.V x2) (fun w h=>bN (K:=bx) ((hp.1.2.1.aE h.ch).rc) e3)<|bD (H_ x2 b vv Av cv (hm x2 (aI e3))) [0] (fun w F h=>⟨(hp.1.2.2 x2 (aI e3)).ew h,hp.2.ew h⟩) ?_
  rintro _ _ ⟨rfl,rfl⟩
  refine dB 1 b 32 qms<|aa 1 fun _=>aq (cQ vv x2.o) (fun h4=>?_) (fun h4=>?_)
  ·refine aa 5 fun _=>a_ [1] ⟨kt (iv k) (by rw [om (p:=fun z_:aT=>decide (cQ vv z_.o)) hy e3 Ir]),kr⟩
  ·refine aa 4 fun _=>ao 18 ((k:Int)+1)<|aa 2 fun _=>aB _ (k+1) [1] kr ⟨by omega,mc (p:=fun z_:aT=>decide (cQ vv z_.o)) hy e3 Ir⟩ (by omega)
 ·refine aa 5 fun _=>a_ [0] ⟨kt (iv (-1)) (by rw [jV (p:=fun z_:aT=>decide (cQ vv z_.o)) hy (by omega)]),kr⟩
def FL (y:aT) (b:Nat) (vv:List Int) (Av:OA) (cv:Nat) (hm:bV y.o∧y.o.aX.length=vv.length):hO Cp 209 #[bx.V y,pv b] (fun U w=>az.gx Av vv U w) [bJ b 32 [sl Av vv.length cv]] (fun v Cs=>v=.bool (decide (y.o.seq≤dA vv y.o.st.r))∧Cs= [bJ b 32 [sl Av vv.length cv]]):=by
 refine kz [.b b 32 [sl Av vv.length cv]] Tryz.func209 fun U w0 hp=>?_
 obtain ⟨QG,mJ⟩:=hm
 have hr:=QG.2.2.1;have ji:=QG.1;unfold bY at ji
 refine aa 6 fun a8=>?_
 obtain ⟨x2,e3⟩:=aw (xs:=vv) (k:=y.o.st.r.toNat) (by omega)
 refine aK [(6,_),(7,iv x2)] [1,0,1] ⟨bF Av vv.length y.o.st.r 1 (fun w h=>Kd.cd (K:=az) (xs:=vv) ((hp.aE h.ch).rc) (by omega)),cB 3 (ad Av (y.o.st.r.toNat*1) 0) qoj,trivial⟩<|a_ [0] ⟨kt (.bool (decide (y.o.seq≤x2))) (by rw [oi e3]),kr⟩
def MB (aU:OA) (bb:Nat) (xs:List aT) (b:Nat) (vv:List Int) (Av:OA) (cv:Nat) (hb:xs.length≤1073741824) (hm: ∀y∈xs,bV y.o∧y.o.aX.length=vv.length):hO Cp 205 #[sl aU xs.length bb,.func (.func 209) #[] #[pv b]] (fun U w=>bx.gx aU xs U w∧az.gx Av vv U w) [bJ b 32 [sl Av vv.length cv]] (fun v Cs=>v=iv (eU (fun z_:aT=>decide (z_.o.seq≤dA vv z_.o.st.r)) xs)∧Cs= [bJ b 32 [sl Av vv.length cv]]):=by
 refine kz [.b b 32 [sl Av vv.length cv]] Tryz.func205 fun U w0 hp=>aa 12 fun _=>aR (σ:=Nat) (fun k=> [(0,sl aU xs.length bb),(1,.func (.func 209) #[] #[pv b]),(4,iv 0),(7,iv (xs.length:Int)),(8,iv k)]) qqo (fun k=>k≤xs.length∧ ∀y∈xs.take k,(fun z_:aT=>decide (z_.o.seq≤dA vv z_.o.st.r)) y=false) (fun k=>xs.length-k) 0 [0] ⟨bh _,by simp⟩ ?_
 rintro _ k ⟨hk,hy⟩ aB
 refine aa 5 fun _=>aq ((k:Int)<(xs.length:Int)) (fun h1=>?_) (fun h1=>?_)
 ·refine aa 13 fun _=>aV aU xs.length (k:Int) 12 (fun w h=>Kd.cd (K:=bx) (xs:=xs) ((hp.1.aE h.ch).rc) (by omega)) ?_
  obtain ⟨x2,e3⟩:=aw (xs:=xs) (k:=k) (by omega)
  refine bd 56 (ad aU (k*12) 0) (bx.V x2) (fun w h=>bN (K:=bx) ((hp.1.aE h.ch).rc) e3)<|bD (FL x2 b vv Av cv (hm x2 (aI e3))) [0] (fun w F h=>hp.2.ew h) ?_
  rintro _ _ ⟨rfl,rfl⟩
  refine dB 1 b 32 qms<|aa 1 fun _=>aq (x2.o.seq≤dA vv x2.o.st.r) (fun h4=>?_) (fun h4=>?_)
  ·refine aa 5 fun _=>a_ [1] ⟨kt (iv k) (by rw [om (p:=fun z_:aT=>decide (z_.o.seq≤dA vv z_.o.st.r)) hy e3 Ir]),kr⟩
  ·refine aa 4 fun _=>ao 18 ((k:Int)+1)<|aa 2 fun _=>aB _ (k+1) [1] kr ⟨by omega,mc (p:=fun z_:aT=>decide (z_.o.seq≤dA vv z_.o.st.r)) hy e3 Ir⟩ (by omega)
 ·refine aa 5 fun _=>a_ [0] ⟨kt (iv (-1)) (by rw [jV (p:=fun z_:aT=>decide (z_.o.seq≤dA vv z_.o.st.r)) hy (by omega)]),kr⟩
def Ob (A:OA) (c:Nat) (xs:List aT) (b:Nat) (vv:List Int) (Av:OA) (cv:Nat) (hb:xs.length≤1000000) (hm: ∀y∈xs,bV y.o∧y.o.aX.length=vv.length):hO Cp 208 #[sl A xs.length c,.func (.func 209) #[] #[pv b]] (fun U w=>az.gx Av vv U w) [bx.row A c xs,bJ b 32 [sl Av vv.length cv]] (fun v Cs=>v=sl A ((j8 (fun z_:aT=>decide (z_.o.seq≤dA vv z_.o.st.r)) xs).length) c∧Cs= [bx.row A c (j8 (fun z_:aT=>decide (z_.o.seq≤dA vv z_.o.st.r)) xs),bJ b 32 [sl Av vv.length cv]]):=by
 refine kz [.k (bx.row A c xs),.b b 32 [sl Av vv.length cv]] Tryz.func208 fun U w0 hp=>dN (φ:=xs.length≤c) qko fun OV=>aa 8 fun _=>bD (MB A c xs b vv Av cv ((by omega)) hm) [1] (fun w F h=>⟨h.F8 0 A c xs kr,hp.ew h⟩) ?_
 rintro _ _ ⟨rfl,rfl⟩
 refine dB 2 b 32 qms<|aa 8 fun _=>aq ((eU (fun z_:aT=>decide (z_.o.seq≤dA vv z_.o.st.r)) xs)=(-1)) (fun h2=>?_) (fun h2=>?_)
 ·refine aa 5 fun _=>aS bx 0 A c xs (j8 (fun z_:aT=>decide (z_.o.seq≤dA vv z_.o.st.r)) xs) kr ((B5 h2).symm)<|a_ [3,2] ⟨kt (sl A xs.length c) (by rw [B5 h2]),kr⟩
 ·obtain ⟨h0,h1,h2⟩:=H9 h2
  refine aa 6 fun _=>ao 15 ((eU (fun z_:aT=>decide (z_.o.seq≤dA vv z_.o.st.r)) xs)+1)<|aa 3 fun _=>aC 5 (iv ((eU (fun z_:aT=>decide (z_.o.seq≤dA vv z_.o.st.r)) xs).toNat:Int)) (iv (eU (fun z_:aT=>decide (z_.o.seq≤dA vv z_.o.st.r)) xs)) XX<|aC 6 (iv (((eU (fun z_:aT=>decide (z_.o.seq≤dA vv z_.o.st.r)) xs).toNat+1:Nat):Int)) (iv ((eU (fun z_:aT=>decide (z_.o.seq≤dA vv z_.o.st.r)) xs)+1)) XX<|aR (σ:=Nat×Nat×List aT) (fun (i,j,L)=> [(0,sl A xs.length c),(1,.func (.func 209) #[] #[pv b]),(4,sl none 0 0),(5,iv i),(6,iv j)]) (fun (i,j,L)=> [.k (bx.row A c L),.b b 32 [sl Av vv.length cv]]) (fun (i,j,L)=>L.length=xs.length∧i≤j∧j≤xs.length∧L.take i=j8 (fun z_:aT=>decide (z_.o.seq≤dA vv z_.o.st.r)) (xs.take j)∧L.drop j=xs.drop j) (fun (i,j,L)=>xs.length-j) ((eU (fun z_:aT=>decide (z_.o.seq≤dA vv z_.o.st.r)) xs).toNat,(eU (fun z_:aT=>decide (z_.o.seq≤dA vv z_.o.st.r)) xs).toNat+1,xs) [0,2] ⟨rfl,by omega,by omega,h2,rfl⟩ ?_
  rintro _ ⟨i,j,L⟩ ⟨hl,JC,NZ,hi,hj⟩ aB
  refine aa 8 fun _=>aq ((j:Int)<(xs.length:Int)) (fun h3=>?_) (fun h3=>?_)
  ·refine aa 7 fun _=>aV A xs.length (j:Int) 12 ql1 ?_
   obtain ⟨x4,e5⟩:=aw (xs:=L) (k:=j) Bk
   refine bd 56 (ad A (j*12) 0) (bx.V x4) (fun w h=>bN (K:=bx) (h.bg 0 A c L kr) e5)<|ae 7 [2,2] fun pW=>bD (FL x4 b vv Av cv (hm x4 (by have e0:=e5;have e1:=congrArg (·[0]?) hj;simp only [List.getElem?_drop,Nat.add_zero] at e1;exact aI (e1▸e0)))) [1] Ad ?_
   rintro _ _ ⟨rfl,rfl⟩
   refine dB 3 b 32 qms<|aa 2 fun _=>cU (x4.o.seq≤dA vv x4.o.st.r) (fun h7=>?_) (fun h7=>?_)
   ·refine ae 5 [2] fun _=>aV A xs.length (i:Int) 12 ql1 ?_
    obtain ⟨x8,e9⟩:=aw (xs:=L) (k:=i) Bk
    refine gH bx 0 A c L i 0 x8 x4 56 (bx.V x4) e9<|aa 4 fun _=>ao 35 ((i:Int)+1)<|aa 6 fun _=>ao 21 ((j:Int)+1)<|aa 2 fun _=>aB _ (i+1,j+1,L.set i x4) [0,3] kr ⟨by rw [cX];exact hl,by omega,by omega,QF hl JC hi hj e5 YK⟩ du
   ·refine aa 5 fun _=>ao 21 ((j:Int)+1)<|aa 2 fun _=>aB _ (i,j+1,L) [0,3] kr ⟨hl,by omega,by omega,Mw hl hi hj e5 YK⟩ du
  ·refine aa 5 fun _=>fC A xs.length c 12 i xs.length (some (iv i)) none (⟨_,rfl⟩) (by omega) (by omega)<|lY 0 (bx.row A c L) (bx.row A c (L.take i)) Mu<|s7 56 12 2 A c (L.take i).length ((L.take i).flatMap bx.f) i (xs.length-i) (c-i) C7 (by omega)<|aa 5 fun _=>fC (hh:=⟨_,rfl⟩) A xs.length c 12 0 i none (some (iv i)) rfl (by omega) (by omega)<|aC 41 (sl A i c) (sl (dS A c 0 12) (i-0) (c-0)) Iz<|aa 2 fun _=>?_
   have qs:L.take i=j8 (fun z_:aT=>decide (z_.o.seq≤dA vv z_.o.st.r)) xs:=by rw [hi,cA (by omega)]
   have Cr:i=(j8 (fun z_:aT=>decide (z_.o.seq≤dA vv z_.o.st.r)) xs).length:=by rw [← qs,b0];omega
   refine aS bx 2 A c (L.take i) (j8 (fun z_:aT=>decide (z_.o.seq≤dA vv z_.o.st.r)) xs) kr qs<|a_ [3,1] ⟨kt (sl A i c) (by rw [← Cr]),kr⟩
def _root_.Go.bE.SF.XW {U F:Nat→Prop} {w0 w:World} {H:List HB} (h:SF U w0 w F (H.map HB.gf)) (i j:Nat) (A:OA) (c:Nat) (xs:List aT) (hi:(dR H.length [i],pk H [i])=(true,[bx.row A c xs])) (hj:(dR H.length [j],pk H [j])=(true,[aM.all (xs.map aT.own)])) (hb:xs.length≤1073741824) (hd: ∀x∈xs,x.o.aX.length≤1073741824):ka A xs F w:=
 ⟨hb,h.F8 i A c xs hi,fun x hx=>⟨hd x hx,h.yq j aT.own xs hx rfl hj⟩⟩
structure kH (v:List Int) (held:List bz) (x:bz) (v2:List Int) (h2 tk:List bz):Prop where
 chain:cP v tk v2
 YT: ∀y∈tk,y=x∨y∈held
 je: ∀y∈h2,y=x∨y∈held
 hl:h2.length≤16
 tl:tk.length≤held.length+1
 own:cQ v x→ ¬x.seq≤dA v x.st.r→(∀y∈held,¬ (y.st.r=x.st.r∧y.seq=x.seq))→x∈tk
def Jc {ys:List aT} {l:List bz} (hy:ys.map (·.o)=l) {x:bz} (h:ys.any (fun z_:aT=>decide (z_.o.st.r=x.st.r∧z_.o.seq=x.seq))=true): ∃y∈l,y.st.r=x.st.r∧y.seq=x.seq:=by
 obtain ⟨y,h1,h2⟩:=List.any_eq_true.1 h
 exact ⟨y.o,by rw [← hy];exact di h1,by simpa using h2⟩
def Oa {α:Type} {l:List α} {x y:α} {i:Nat} (h:y∈l.take i++x::l.drop i):y=x∨y∈l:=by
 rcases eG.1 h with h|h
 ·exact .inr (gU h)
 ·exact (dx.1 h).imp id lH
def Eu {α:Type} {l:List α} {y:α} {i:Nat} (h:y∈l.take i++l.drop (i+1)):y∈l:=(eG.1 h).elim gU lH
def Ew {α:Type} {l:List α} {i:Nat} (h:i<l.length):(l.take i++l.drop (i+1)).length+1=l.length:=by simp only [bm,b0,cL];omega
def CP {o:bz} (h:bV o):o.seq≤1099511627776:=h.2.2.2.2.2.1

/- For the law of worlds: Sorting. -/
import Derived.Test.YtfookmefmjhonaaGreatZ27
set_option linter.all false
namespace Go.Proofs.YtfookmefmjhonaaGreat.My
open Go.RowKit Go.bE
def VF (aL:OA) (aZ n:Nat) (ns:List Nd) (a b:Int) (hn:ns.length=n) (hl:n≤1000000) (wB:0≤a∧a+12<b∧b≤n):Ct Cp 280 #[sl aL n aZ,iv a,iv b,.func (.func 234) #[] #[]] (fun _=>True) [aP.row aL aZ ns] (fun v Cs=> ∃(x h:Int),v=.tuple #[iv x,iv h]∧(a≤x∧x<b)∧Cs= [aP.row aL aZ ns]):=by
 refine Fz [.k (aP.row aL aZ ns)] Tryz.func280 fun U w0 hp=>aa 10 fun _=>ao 17 (b-a)<|aa 11 fun a8=>aC 20 (iv ((b-a)/4)) (iv (IntKind.i64.wrap (Int.tdiv (b-a) 4))) Rp<|aa 1 fun _=>ao 21 (((b-a)/4)*1)<|aa 1 fun _=>ao 22 (a+(((b-a)/4)*1))<|aa 7 fun _=>aC 25 (iv ((b-a)/4)) (iv (IntKind.i64.wrap (Int.tdiv (b-a) 4))) Rp ?_
 refine aa 1 fun _=>ao 26 (((b-a)/4)*2)<|aa 1 fun _=>ao 27 (a+(((b-a)/4)*2))<|aa 7 fun _=>aC 30 (iv ((b-a)/4)) (iv (IntKind.i64.wrap (Int.tdiv (b-a) 4))) Rp<|aa 1 fun _=>ao 31 (((b-a)/4)*3)<|aa 1 fun _=>ao 32 (a+(((b-a)/4)*3))<|aa 8 fun _=>?_
 refine aq ((b-a)≥8) (fun h2=>?_) (fun h2=>?_)
 ·refine aa 6 fun _=>aq ((b-a)≥50) (fun h3=>?_) (fun h3=>?_)
  ·refine aa 5 fun _=>ah (xH aL aZ n ns (a+(((b-a)/4)*1)) (a8 4) 0 dg (by omega) (by omega) (by omega)) [0,1] cJ ?_
   rintro _ _ ⟨x4,q5,rfl,f6,f7,rfl⟩
   refine dB 3 (a8 4) 3 [iv q5]<|aa 7 fun _=>ah (xH aL aZ n ns (a+(((b-a)/4)*2)) (a8 4) q5 dg (by omega) (by omega) (by omega)) [2,3] cJ ?_
   rintro _ _ ⟨x8,q9,rfl,f10,f11,rfl⟩
   refine dB 5 (a8 4) 3 [iv q9]<|aa 6 fun _=>ah (xH aL aZ n ns (a+(((b-a)/4)*3)) (a8 4) q9 dg (by omega) (by omega) (by omega)) [4,5] cJ ?_
   rintro _ _ ⟨kE,X0,rfl,f14,f15,rfl⟩
   refine dB 7 (a8 4) 3 [iv X0]<|aa 8 fun _=>ah (xG aL aZ n ns x4 x8 kE (a8 4) X0 dg (by omega) (by omega) (by omega) (by omega) (by omega)) [6,7] cJ ?_
   rintro _ _ ⟨jD,q17,rfl,f18,f19,rfl⟩
   refine dB 9 (a8 4) 3 [iv q17]<|ae 12 [9] fun _=>aq (q17=0) (fun Qy=>?_) (fun Qy=>?_)
   ·refine aa 6 fun _=>a_ [8] ⟨jD,1,kr,by omega,kr⟩
   ·refine aa 5 fun _=>aq (q17=12) (fun Zr=>?_) (fun Zr=>?_)
    ·refine aa 6 fun _=>a_ [8] ⟨jD,2,kr,by omega,kr⟩
    ·refine aa 6 fun _=>a_ [8] ⟨jD,0,kr,by omega,kr⟩
  ·refine aa 7 fun _=>ah (xG aL aZ n ns (a+(((b-a)/4)*1)) (a+(((b-a)/4)*2)) (a+(((b-a)/4)*3)) (a8 4) 0 dg (by omega) (by omega) (by omega) (by omega) (by omega)) [0,1] cJ ?_
   rintro _ _ ⟨NP,q23,rfl,f24,f25,rfl⟩
   refine dB 3 (a8 4) 3 [iv q23]<|ae 12 [3] fun _=>aq (q23=0) (fun IE=>?_) (fun IE=>?_)
   ·refine aa 6 fun _=>a_ [2] ⟨NP,1,kr,by omega,kr⟩
   ·refine aa 5 fun _=>aq (q23=12) (fun Gd=>?_) (fun Gd=>?_)
    ·refine aa 6 fun _=>a_ [2] ⟨NP,2,kr,by omega,kr⟩
    ·refine aa 6 fun _=>a_ [2] ⟨NP,0,kr,by omega,kr⟩
 ·refine ae 18 [1] fun _=>a_ [0] ⟨a+(((b-a)/4)*2),1,kr,by omega,kr⟩
def Qx (aL:OA) (aZ n:Nat) (ns:List Nd) (a b p:Int) (hn:ns.length=n) (hl:n≤1000000) (wB:0≤a∧a+1<b∧b≤n) (hp_:a≤p∧p<b):Ct Cp 283 #[sl aL n aZ,iv a,iv b,iv p,.func (.func 234) #[] #[]] (fun _=>True) [aP.row aL aZ ns] (fun v Cs=> ∃m,∃(x:Int),v=iv x∧m.Perm ns∧(a<x∧x≤b)∧Cs= [aP.row aL aZ m]):=by
 refine Fz [.k (aP.row aL aZ ns)] Tryz.func283 fun U w0 hp=>aa 5 fun _=>Exists.elim (aw (xs:=ns) (k:=p.toNat) dg) fun x1 e2=>Exists.elim (aw (xs:=ns) (k:=a.toNat) dg) fun x3 e4=>Exists.elim (aw (xs:=ns.set a.toNat x1) (k:=p.toNat) dg) fun x5 e6=>aO [(6,_),(7,_),(10,_),(11,_),(12,_),(13,_),(14,_),(15,_)] [] qs9 fun v7=>aa 4 fun _=>ao 28 (a+1)<|aa 2 fun _=>ao 30 (b-1)<|aa 5 fun _=>?_
 refine aR (σ:=Int×Int×List Nd) (fun (i,j,m)=> [(0,sl aL n aZ),(1,iv a),(4,.func (.func 234) #[] #[]),(10,iv 0),(11,iv i),(12,iv j)]) qqq (fun (i,j,m)=>m.Perm ns∧a+1≤i∧i≤b∧a≤j∧j≤b-1) (fun (i,j,m)=>(j-i+3).toNat) (a+1,b-1,(ns.set a.toNat x1).set p.toNat x3) [2] ⟨(swap_perm e4 e2),⟨by omega,by omega,by omega,by omega⟩⟩ ?_
 rintro _ ⟨i,j,m⟩ ⟨jA,⟨hq,hr,hs,ht⟩⟩ aB
 have Ga:m.length=n:=by rw [jA.length_eq];omega
 refine aa 3 fun _=>aR (σ:=Int×List Nd) (fun (u1,m1)=> [(0,sl aL n aZ),(1,iv a),(4,.func (.func 234) #[] #[]),(10,iv 0),(11,iv u1),(12,iv j)]) (fun (u1,m1)=> [.k (aP.row aL aZ m1)]) (fun (u1,m1)=>m1.Perm ns∧a+1≤u1∧u1≤b∧a≤j∧j≤b-1∧i≤u1) (fun (u1,m1)=>(j-u1+1).toNat) (i,m) [0] ⟨jA,⟨by omega,by omega,by omega,by omega,by omega⟩⟩ ?_
 rintro _ ⟨u1,m1⟩ ⟨jT,⟨Xl,pG,S8,_i,Q_⟩⟩ dG
 have CR:m1.length=n:=by rw [jT.length_eq];omega
 refine aa 2 fun _=>dj (σ:=Bool) (fun Ed=> [(0,sl aL n aZ),(1,iv a),(4,.func (.func 234) #[] #[]),(10,iv 0),(11,iv u1),(12,iv j),(47,.bool Ed)]) (fun Ed=> [.k (aP.row aL aZ m1)]) (fun Ed=>Ed=true→u1≤j) ?_ ?_
 ·rintro Ed Wa
  refine eQ Ed (fun h8=>?_) (fun h8=>?_)
  ·have ahQ:=Wa h8
   refine aa 5 fun _=>ao 49 (u1+1)<|aa 3 fun _=>dG _ (u1+1,m1) [0] kr ⟨jT,⟨by omega,by omega,by omega,by omega,by omega⟩⟩ du
  ·refine aa 3 fun _=>aR (σ:=Int×List Nd) (fun (u3,m3)=> [(0,sl aL n aZ),(1,iv a),(4,.func (.func 234) #[] #[]),(10,iv 0),(11,iv u1),(12,iv u3),(47,.bool Ed)]) (fun (u3,m3)=> [.k (aP.row aL aZ m3)]) (fun (u3,m3)=>m3.Perm ns∧a+1≤u1∧u1≤b∧a≤u3∧u3≤b-1∧u3≤j) (fun (u3,m3)=>(u3-u1+1).toNat) (j,m1) [0] ⟨jT,⟨by omega,by omega,by omega,by omega,by omega⟩⟩ ?_
   rintro _ ⟨u3,m3⟩ ⟨AG,⟨hq3,hr3,hs3,ht3,NB⟩⟩ pg
   have Ya:m3.length=n:=by rw [AG.length_eq];omega
   refine aa 2 fun _=>dj (σ:=Bool) (fun Xw=> [(0,sl aL n aZ),(1,iv a),(4,.func (.func 234) #[] #[]),(10,iv 0),(11,iv u1),(12,iv u3),(47,.bool Ed),(65,.bool Xw)]) (fun Xw=> [.k (aP.row aL aZ m3)]) (fun Xw=>Xw=true→u1≤u3) ?_ ?_
   ·rintro Xw ahR
    refine eQ Xw (fun h9=>?_) (fun h9=>?_)
    ·have atJ:=ahR h9
     refine aa 5 fun _=>ao 67 (u3-1)<|aa 3 fun _=>pg _ (u3-1,m3) [0] kr ⟨AG,⟨by omega,by omega,by omega,by omega,by omega⟩⟩ du
    ·refine aa 8 fun _=>aq (u1>u3) (fun iJ=>?_) (fun iJ=>?_)
     ·refine aa 6 fun _=>a_ [0] ⟨m3,u1,kr,AG,by omega,kr⟩
     ·refine aa 2 fun _=>Exists.elim (aw (xs:=m3) (k:=u3.toNat) dg) fun fW wD=>Exists.elim (aw (xs:=m3) (k:=u1.toNat) dg) fun wH zC=>Exists.elim (aw (xs:=m3.set u1.toNat fW) (k:=u3.toNat) dg) fun l_ CA=>aO [(6,_),(7,_),(10,_),(11,_),(12,_),(13,_),(14,_),(15,_)] [] ⟨br (fun vs=>aL) (fun vs=>n) (fun vs=>u3) 5 qt9,cZ 184 (fun vs=>ad aL (u3.toNat*5) 0) (fun vs=>aP.V fW) (fun vs w h=>bN (K:=aP) (h.bg 0 aL aZ m3 kr) wD),qwn,cZ 184 (fun vs=>ad aL (u1.toNat*5) 0) (fun vs=>aP.V wH) (fun vs w h=>bN (K:=aP) (h.bg 0 aL aZ m3 kr) zC),qwn,cR aP 0 (fun vs=>aL) (fun vs=>aZ) (fun vs=>m3) u1.toNat 0 (fun vs=>wH) (fun vs=>fW) 184 (fun vs=>aP.V fW) (fun _=>zC),br (fun vs=>aL) (fun vs=>n) (fun vs=>u3) 5 (fun vs w h=>Kd.cd (K:=aP) (xs:=m3.set u1.toNat fW) (h.bg 0 aL aZ (m3.set u1.toNat fW) kr) dg),cR aP 1 (fun vs=>aL) (fun vs=>aZ) (fun vs=>m3.set u1.toNat fW) u3.toNat 0 (fun vs=>l_) (fun vs=>wH) 184 (fun vs=>aP.V wH) (fun _=>CA),trivial⟩ fun DR=>aa 4 fun _=>ao 86 (u1+1)<|aa 5 fun _=>ao 88 (u3-1)<|aa 3 fun _=>aB _ (u1+1,u3-1,(m3.set u1.toNat fW).set u3.toNat wH) [2] kr ⟨((swap_perm zC wD).trans AG),⟨by omega,by omega,by omega,by omega⟩⟩ du
   ·intro _ nI
    refine (bK (decide (u1≤u3))).elim (fun b19=>?_) (fun b19=>?_)
    ·have vI:=cg b19
     refine Exists.elim (aw (xs:=m3) (k:=a.toNat) dg) fun nw Aj=>Exists.elim (aw (xs:=m3) (k:=u3.toNat) dg) fun NP e23=>aK [(2,.bool true),(7,_),(8,aP.V nw),(11,_),(12,aP.V NP),(13,iv (iB nw NP))] [] ⟨qpc,bF aL n a 5 qu3,cB 184 (ad aL (a.toNat*5) 0) (fun w h=>bN (K:=aP) (h.bg 0 aL aZ m3 kr) Aj),bF aL n u3 5 qu3,cB 184 (ad aL (u3.toNat*5) 0) (fun w h=>bN (K:=aP) (h.bg 0 aL aZ m3 kr) e23),bT (kj nw NP) jU,trivial⟩<|nI _ (decide ((iB nw NP)<0)) [0] kr (fun _=>by omega)
    ·have vI:=de b19
     refine aK [(2,.bool false)] [] ⟨qpc,trivial⟩<|nI _ false [0] kr (fun h=>absurd h (by decide))
 ·intro _ im
  refine (bK (decide (u1≤j))).elim (fun NA=>?_) (fun NA=>?_)
  ·have D5:=cg NA
   refine Exists.elim (aw (xs:=m1) (k:=a.toNat) dg) fun l9 vo=>Exists.elim (aw (xs:=m1) (k:=u1.toNat) dg) fun nG CV=>aK [(2,.bool true),(7,_),(8,aP.V l9),(11,_),(12,aP.V nG),(13,iv (iB l9 nG))] [] ⟨qpm,bF aL n a 5 Wr,cB 184 (ad aL (a.toNat*5) 0) (fun w h=>bN (K:=aP) (h.bg 0 aL aZ m1 kr) vo),bF aL n u1 5 Wr,cB 184 (ad aL (u1.toNat*5) 0) (fun w h=>bN (K:=aP) (h.bg 0 aL aZ m1 kr) CV),bT (kj l9 nG) jU,trivial⟩<|im _ (!decide ((iB l9 nG)<0)) [0] kr (fun _=>by omega)
  ·have D5:=de NA
   refine aK [(2,.bool false)] [] ⟨qpm,trivial⟩<|qn0
def _R (aL:OA) (aZ n:Nat) (ns:List Nd) (a b p:Int) (hn:ns.length=n) (hl:n≤1000000) (wB:0≤a∧a+1<b∧b≤n) (hp_:a≤p∧p<b):Ct Cp 284 #[sl aL n aZ,iv a,iv b,iv p,.func (.func 234) #[] #[]] (fun _=>True) [aP.row aL aZ ns] (fun v Cs=> ∃m,∃(x:Int) (t:Bool),v=.tuple #[iv x,.bool t]∧m.Perm ns∧(a≤x∧x<b)∧Cs= [aP.row aL aZ m]):=by
 refine Fz [.k (aP.row aL aZ ns)] Tryz.func284 fun U w0 hp=>aa 6 fun _=>Exists.elim (aw (xs:=ns) (k:=p.toNat) dg) fun x1 e2=>Exists.elim (aw (xs:=ns) (k:=a.toNat) dg) fun x3 e4=>Exists.elim (aw (xs:=ns.set a.toNat x1) (k:=p.toNat) dg) fun x5 e6=>aO [(6,_),(7,_),(10,_),(11,_),(12,_),(13,_),(14,_),(15,_)] [] qs9 fun v7=>aa 4 fun _=>ao 29 (a+1)<|aa 2 fun _=>ao 31 (b-1)<|aa 5 fun _=>?_
 refine aR (σ:=Int×List Nd) (fun (u0,m)=> [(0,sl aL n aZ),(1,iv a),(4,.func (.func 234) #[] #[]),(10,iv 0),(11,.bool false),(12,iv u0),(13,iv (b-1))]) (fun (u0,m)=> [.k (aP.row aL aZ m)]) (fun (u0,m)=>m.Perm ns∧a+1≤u0∧u0≤b∧a≤b-1∧b-1≤b-1∧a+1≤u0) (fun (u0,m)=>(b-1-u0+1).toNat) (a+1,(ns.set a.toNat x1).set p.toNat x3) [2] ⟨(swap_perm e4 e2),⟨by omega,by omega,by omega,by omega,by omega⟩⟩ ?_
 rintro _ ⟨u0,m⟩ ⟨jA,⟨hq0,ZO,Lp,ht0,hu0⟩⟩ aB
 have Ga:m.length=n:=by rw [jA.length_eq];omega
 refine aa 2 fun _=>dj (σ:=Bool) (fun Ed=> [(0,sl aL n aZ),(1,iv a),(4,.func (.func 234) #[] #[]),(10,iv 0),(11,.bool false),(12,iv u0),(13,iv (b-1)),(47,.bool Ed)]) (fun Ed=> [.k (aP.row aL aZ m)]) (fun Ed=>Ed=true→u0≤b-1) ?_ ?_
 ·rintro Ed Wa
  refine eQ Ed (fun h8=>?_) (fun h8=>?_)
  ·have ahQ:=Wa h8
   refine aa 5 fun _=>ao 49 (u0+1)<|aa 3 fun _=>aB _ (u0+1,m) [0] kr ⟨jA,⟨by omega,by omega,by omega,by omega,by omega⟩⟩ du
  ·refine aa 3 fun _=>aR (σ:=Int×List Nd) (fun (u2,m2)=> [(0,sl aL n aZ),(1,iv a),(4,.func (.func 234) #[] #[]),(10,iv 0),(11,.bool false),(12,iv u0),(13,iv u2)]) (fun (u2,m2)=> [.k (aP.row aL aZ m2)]) (fun (u2,m2)=>m2.Perm ns∧a+1≤u0∧u0≤b∧a≤u2∧u2≤b-1∧u2≤b-1) (fun (u2,m2)=>(u2-u0+1).toNat) (b-1,m) [0] ⟨jA,⟨by omega,by omega,by omega,by omega,by omega⟩⟩ ?_
   rintro _ ⟨u2,m2⟩ ⟨pZ,⟨Vo,XD,lu,zG,hu2⟩⟩ jr
   have Jp:m2.length=n:=by rw [pZ.length_eq];omega
   refine aa 2 fun _=>dj (σ:=Bool) (fun Xx=> [(0,sl aL n aZ),(1,iv a),(4,.func (.func 234) #[] #[]),(10,iv 0),(11,.bool false),(12,iv u0),(13,iv u2),(66,.bool Xx)]) (fun Xx=> [.k (aP.row aL aZ m2)]) (fun Xx=>Xx=true→u0≤u2) ?_ ?_
   ·rintro Xx ahU
    refine eQ Xx (fun h9=>?_) (fun h9=>?_)
    ·have atK:=ahU h9
     refine aa 5 fun _=>ao 68 (u2-1)<|aa 3 fun _=>jr _ (u2-1,m2) [0] kr ⟨pZ,⟨by omega,by omega,by omega,by omega,by omega⟩⟩ du
    ·refine aa 8 fun _=>aq (u0>u2) (fun iJ=>?_) (fun iJ=>?_)
     ·refine aa 1 fun _=>Exists.elim (aw (xs:=m2) (k:=a.toNat) dg) fun fW wD=>Exists.elim (aw (xs:=m2) (k:=u2.toNat) dg) fun wH zC=>Exists.elim (aw (xs:=m2.set u2.toNat fW) (k:=a.toNat) dg) fun l_ CA=>aO [(6,_),(7,_),(10,_),(11,_),(12,_),(13,_),(14,_),(15,_)] [] ⟨br (fun vs=>aL) (fun vs=>n) (fun vs=>a) 5 qtg,cZ 184 (fun vs=>ad aL (a.toNat*5) 0) (fun vs=>aP.V fW) (fun vs w h=>bN (K:=aP) (h.bg 0 aL aZ m2 kr) wD),qwh,cZ 184 (fun vs=>ad aL (u2.toNat*5) 0) (fun vs=>aP.V wH) (fun vs w h=>bN (K:=aP) (h.bg 0 aL aZ m2 kr) zC),qwh,cR aP 0 (fun vs=>aL) (fun vs=>aZ) (fun vs=>m2) u2.toNat 0 (fun vs=>wH) (fun vs=>fW) 184 (fun vs=>aP.V fW) (fun _=>zC),br (fun vs=>aL) (fun vs=>n) (fun vs=>a) 5 (fun vs w h=>Kd.cd (K:=aP) (xs:=m2.set u2.toNat fW) (h.bg 0 aL aZ (m2.set u2.toNat fW) kr) dg),cR aP 1 (fun vs=>aL) (fun vs=>aZ) (fun vs=>m2.set u2.toNat fW) a.toNat 0 (fun vs=>l_) (fun vs=>wH) 184 (fun vs=>aP.V wH) (fun _=>CA),trivial⟩ fun DR=>aa 6 fun _=>a_ [2] ⟨(m2.set u2.toNat fW).set a.toNat wH,u2,true,kr,((swap_perm zC wD).trans pZ),by omega,kr⟩
     ·refine aa 2 fun _=>Exists.elim (aw (xs:=m2) (k:=u2.toNat) dg) fun Cl e19=>Exists.elim (aw (xs:=m2) (k:=u0.toNat) dg) fun nw Aj=>Exists.elim (aw (xs:=m2.set u0.toNat Cl) (k:=u2.toNat) dg) fun NP e23=>aO [(6,_),(7,_),(10,_),(11,_),(12,_),(13,_),(14,_),(15,_)] [] ⟨qwh,cZ 184 (fun vs=>ad aL (u2.toNat*5) 0) (fun vs=>aP.V Cl) (fun vs w h=>bN (K:=aP) (h.bg 0 aL aZ m2 kr) e19),qwo,cZ 184 (fun vs=>ad aL (u0.toNat*5) 0) (fun vs=>aP.V nw) (fun vs w h=>bN (K:=aP) (h.bg 0 aL aZ m2 kr) Aj),qwo,cR aP 0 (fun vs=>aL) (fun vs=>aZ) (fun vs=>m2) u0.toNat 0 (fun vs=>nw) (fun vs=>Cl) 184 (fun vs=>aP.V Cl) (fun _=>Aj),br (fun vs=>aL) (fun vs=>n) (fun vs=>u2) 5 (fun vs w h=>Kd.cd (K:=aP) (xs:=m2.set u0.toNat Cl) (h.bg 0 aL aZ (m2.set u0.toNat Cl) kr) dg),cR aP 1 (fun vs=>aL) (fun vs=>aZ) (fun vs=>m2.set u0.toNat Cl) u2.toNat 0 (fun vs=>NP) (fun vs=>nw) 184 (fun vs=>aP.V nw) (fun _=>e23),trivial⟩ fun sc=>aa 4 fun _=>ao 102 (u0+1)<|aa 6 fun _=>ao 104 (u2-1)<|aa 4 fun _=>aR (σ:=Int×Int×List Nd) (fun (i,j,m4)=> [(0,sl aL n aZ),(1,iv a),(4,.func (.func 234) #[] #[]),(10,iv 0),(11,.bool false),(12,iv i),(13,iv j)]) (fun (i,j,m4)=> [.k (aP.row aL aZ m4)]) (fun (i,j,m4)=>m4.Perm ns∧a+1≤i∧i≤b∧a≤j∧j≤b-1) (fun (i,j,m4)=>(j-i+3).toNat) (u0+1,u2-1,(m2.set u0.toNat Cl).set u2.toNat nw) [2] ⟨((swap_perm Aj e19).trans pZ),⟨by omega,by omega,by omega,by omega⟩⟩ ?_
      rintro _ ⟨i,j,m4⟩ ⟨aag,⟨hq,hr,hs,ht⟩⟩ yS
      have adY:m4.length=n:=by rw [aag.length_eq];omega
      refine aa 3 fun _=>aR (σ:=Int×List Nd) (fun (u5,m5)=> [(0,sl aL n aZ),(1,iv a),(4,.func (.func 234) #[] #[]),(10,iv 0),(11,.bool false),(12,iv u5),(13,iv j)]) (fun (u5,m5)=> [.k (aP.row aL aZ m5)]) (fun (u5,m5)=>m5.Perm ns∧a+1≤u5∧u5≤b∧a≤j∧j≤b-1∧i≤u5) (fun (u5,m5)=>(j-u5+1).toNat) (i,m4) [0] ⟨aag,⟨by omega,by omega,by omega,by omega,by omega⟩⟩ ?_
      rintro _ ⟨u5,m5⟩ ⟨rG,⟨hq5,hr5,hs5,ht5,hu5⟩⟩ rH
      have Oj:m5.length=n:=by rw [rG.length_eq];omega
      refine aa 2 fun _=>dj (σ:=Bool) (fun Ca=> [(0,sl aL n aZ),(1,iv a),(4,.func (.func 234) #[] #[]),(10,iv 0),(11,.bool false),(12,iv u5),(13,iv j),(120,.bool Ca)]) (fun Ca=> [.k (aP.row aL aZ m5)]) (fun Ca=>Ca=true→u5≤j) ?_ ?_
      ·rintro Ca aah
       refine eQ Ca (fun vG=>?_) (fun vG=>?_)
       ·have aqH:=aah vG
        refine aa 5 fun _=>ao 122 (u5+1)<|aa 3 fun _=>rH _ (u5+1,m5) [0] kr ⟨rG,⟨by omega,by omega,by omega,by omega,by omega⟩⟩ du
       ·refine aa 3 fun _=>aR (σ:=Int×List Nd) (fun (u7,m7)=> [(0,sl aL n aZ),(1,iv a),(4,.func (.func 234) #[] #[]),(10,iv 0),(11,.bool false),(12,iv u5),(13,iv u7),(120,.bool Ca)]) (fun (u7,m7)=> [.k (aP.row aL aZ m7)]) (fun (u7,m7)=>m7.Perm ns∧a+1≤u5∧u5≤b∧a≤u7∧u7≤b-1∧u7≤j) (fun (u7,m7)=>(u7-u5+1).toNat) (j,m5) [0] ⟨rG,⟨by omega,by omega,by omega,by omega,by omega⟩⟩ ?_
        rintro _ ⟨u7,m7⟩ ⟨Q3,⟨hq7,hr7,hs7,ht7,hu7⟩⟩ Wb
        have adU:m7.length=n:=by rw [Q3.length_eq];omega
        refine aa 2 fun _=>dj (σ:=Bool) (fun Ic=> [(0,sl aL n aZ),(1,iv a),(4,.func (.func 234) #[] #[]),(10,iv 0),(11,.bool false),(12,iv u5),(13,iv u7),(120,.bool Ca),(139,.bool Ic)]) (fun Ic=> [.k (aP.row aL aZ m7)]) (fun Ic=>Ic=true→u5≤u7) ?_ ?_
        ·rintro Ic aai
         refine eQ Ic (fun IE=>?_) (fun IE=>?_)
         ·have aqI:=aai IE
          refine aa 5 fun _=>ao 141 (u7-1)<|aa 3 fun _=>Wb _ (u7-1,m7) [0] kr ⟨Q3,⟨by omega,by omega,by omega,by omega,by omega⟩⟩ du
         ·refine aa 8 fun _=>aq (u5>u7) (fun Gd=>?_) (fun Gd=>?_)
          ·refine aa 2 fun _=>Exists.elim (aw (xs:=m7) (k:=a.toNat) dg) fun nG CV=>Exists.elim (aw (xs:=m7) (k:=u7.toNat) dg) fun xX Gx=>Exists.elim (aw (xs:=m7.set u7.toNat nG) (k:=a.toNat) dg) fun xO Tm=>aO [(6,_),(7,_),(10,_),(11,_),(12,_),(13,_),(14,_),(15,_)] [] ⟨br (fun vs=>aL) (fun vs=>n) (fun vs=>a) 5 qtf,cZ 184 (fun vs=>ad aL (a.toNat*5) 0) (fun vs=>aP.V nG) (fun vs w h=>bN (K:=aP) (h.bg 0 aL aZ m7 kr) CV),qwg,cZ 184 (fun vs=>ad aL (u7.toNat*5) 0) (fun vs=>aP.V xX) (fun vs w h=>bN (K:=aP) (h.bg 0 aL aZ m7 kr) Gx),qwg,cR aP 0 (fun vs=>aL) (fun vs=>aZ) (fun vs=>m7) u7.toNat 0 (fun vs=>xX) (fun vs=>nG) 184 (fun vs=>aP.V nG) (fun _=>Gx),br (fun vs=>aL) (fun vs=>n) (fun vs=>a) 5 (fun vs w h=>Kd.cd (K:=aP) (xs:=m7.set u7.toNat nG) (h.bg 0 aL aZ (m7.set u7.toNat nG) kr) dg),cR aP 1 (fun vs=>aL) (fun vs=>aZ) (fun vs=>m7.set u7.toNat nG) a.toNat 0 (fun vs=>xO) (fun vs=>xX) 184 (fun vs=>aP.V xX) (fun _=>Tm),trivial⟩ fun v34=>aa 6 fun _=>a_ [2] ⟨(m7.set u7.toNat nG).set a.toNat xX,u7,false,kr,((swap_perm Gx CV).trans Q3),by omega,kr⟩
          ·refine aa 2 fun _=>Exists.elim (aw (xs:=m7) (k:=u7.toNat) dg) fun ND e36=>Exists.elim (aw (xs:=m7) (k:=u5.toNat) dg) fun SN Xy=>Exists.elim (aw (xs:=m7.set u5.toNat ND) (k:=u7.toNat) dg) fun Xh Xi=>aO [(6,_),(7,_),(10,_),(11,_),(12,_),(13,_),(14,_),(15,_)] [] ⟨qwg,cZ 184 (fun vs=>ad aL (u7.toNat*5) 0) (fun vs=>aP.V ND) (fun vs w h=>bN (K:=aP) (h.bg 0 aL aZ m7 kr) e36),qwm,cZ 184 (fun vs=>ad aL (u5.toNat*5) 0) (fun vs=>aP.V SN) (fun vs w h=>bN (K:=aP) (h.bg 0 aL aZ m7 kr) Xy),qwm,cR aP 0 (fun vs=>aL) (fun vs=>aZ) (fun vs=>m7) u5.toNat 0 (fun vs=>SN) (fun vs=>ND) 184 (fun vs=>aP.V ND) (fun _=>Xy),br (fun vs=>aL) (fun vs=>n) (fun vs=>u7) 5 (fun vs w h=>Kd.cd (K:=aP) (xs:=m7.set u5.toNat ND) (h.bg 0 aL aZ (m7.set u5.toNat ND) kr) dg),cR aP 1 (fun vs=>aL) (fun vs=>aZ) (fun vs=>m7.set u5.toNat ND) u7.toNat 0 (fun vs=>Xh) (fun vs=>SN) 184 (fun vs=>aP.V SN) (fun _=>Xi),trivial⟩ fun v41=>aa 4 fun _=>ao 160 (u5+1)<|aa 5 fun _=>ao 162 (u7-1)<|aa 3 fun _=>yS _ (u5+1,u7-1,(m7.set u5.toNat ND).set u7.toNat SN) [2] kr ⟨((swap_perm Xy e36).trans Q3),⟨by omega,by omega,by omega,by omega⟩⟩ du
        ·intro _ EE
         refine (bK (decide (u5≤u7))).elim (fun b43=>?_) (fun b43=>?_)
         ·have U5:=cg b43
          refine Exists.elim (aw (xs:=m7) (k:=u7.toNat) dg) fun x44 e45=>Exists.elim (aw (xs:=m7) (k:=a.toNat) dg) fun x46 e47=>aK [(2,.bool true),(7,_),(8,aP.V x44),(11,_),(12,aP.V x46),(13,iv (iB x44 x46))] [] ⟨qpb,bF aL n u7 5 qu1,cB 184 (ad aL (u7.toNat*5) 0) (fun w h=>bN (K:=aP) (h.bg 0 aL aZ m7 kr) e45),bF aL n a 5 qu1,cB 184 (ad aL (a.toNat*5) 0) (fun w h=>bN (K:=aP) (h.bg 0 aL aZ m7 kr) e47),bT (kj x44 x46) jU,trivial⟩<|EE _ (!decide ((iB x44 x46)<0)) [0] kr (fun _=>by omega)
         ·have U5:=de b43
          refine aK [(2,.bool false)] [] ⟨qpb,trivial⟩<|qny
      ·intro _ EF
       refine (bK (decide (u5≤j))).elim (fun b49=>?_) (fun b49=>?_)
       ·have h48:=cg b49
        refine Exists.elim (aw (xs:=m5) (k:=u5.toNat) dg) fun x50 e51=>Exists.elim (aw (xs:=m5) (k:=a.toNat) dg) fun Q4 Ud=>aK [(2,.bool true),(7,_),(8,aP.V x50),(11,_),(12,aP.V Q4),(13,iv (iB x50 Q4))] [] ⟨qpl,bF aL n u5 5 qtw,cB 184 (ad aL (u5.toNat*5) 0) (fun w h=>bN (K:=aP) (h.bg 0 aL aZ m5 kr) e51),bF aL n a 5 qtw,cB 184 (ad aL (a.toNat*5) 0) (fun w h=>bN (K:=aP) (h.bg 0 aL aZ m5 kr) Ud),bT (kj x50 Q4) jU,trivial⟩<|EF _ (decide ((iB x50 Q4)<0)) [0] kr (fun _=>by omega)
       ·have h48:=de b49
        refine aK [(2,.bool false)] [] ⟨qpl,trivial⟩<|qnz
   ·intro _ kK
    refine (bK (decide (u0≤u2))).elim (fun b55=>?_) (fun b55=>?_)
    ·have T2:=cg b55
     refine Exists.elim (aw (xs:=m2) (k:=u2.toNat) dg) fun x56 e57=>Exists.elim (aw (xs:=m2) (k:=a.toNat) dg) fun x58 e59=>aK [(2,.bool true),(7,_),(8,aP.V x56),(11,_),(12,aP.V x58),(13,iv (iB x56 x58))] [] ⟨qpd,bF aL n u2 5 qu4,cB 184 (ad aL (u2.toNat*5) 0) (fun w h=>bN (K:=aP) (h.bg 0 aL aZ m2 kr) e57),bF aL n a 5 qu4,cB 184 (ad aL (a.toNat*5) 0) (fun w h=>bN (K:=aP) (h.bg 0 aL aZ m2 kr) e59),bT (kj x56 x58) jU,trivial⟩<|kK _ (!decide ((iB x56 x58)<0)) [0] kr (fun _=>by omega)
    ·have T2:=de b55
     refine aK [(2,.bool false)] [] ⟨qpd,trivial⟩<|kK _ false [0] kr (fun h=>absurd h (by decide))
 ·intro _ gV
  refine (bK (decide (u0≤(b-1)))).elim (fun b61=>?_) (fun b61=>?_)
  ·have h60:=cg b61
   refine Exists.elim (aw (xs:=m) (k:=u0.toNat) dg) fun x62 e63=>Exists.elim (aw (xs:=m) (k:=a.toNat) dg) fun x64 e65=>aK [(2,.bool true),(7,_),(8,aP.V x62),(11,_),(12,aP.V x64),(13,iv (iB x62 x64))] [] ⟨qoq,bF aL n u0 5 Wu,cB 184 (ad aL (u0.toNat*5) 0) (fun w h=>bN (K:=aP) (h.bg 0 aL aZ m kr) e63),bF aL n a 5 Wu,cB 184 (ad aL (a.toNat*5) 0) (fun w h=>bN (K:=aP) (h.bg 0 aL aZ m kr) e65),bT (kj x62 x64) jU,trivial⟩<|gV _ (decide ((iB x62 x64)<0)) [0] kr (fun _=>by omega)
  ·have h60:=de b61
   refine aK [(2,.bool false)] [] ⟨qoq,trivial⟩<|gV _ false [0] kr (fun h=>absurd h (by decide))
def Me (aL:OA) (aZ n:Nat) (ns:List Nd) (a b:Int) (hn:ns.length=n) (hl:n≤1000000) (wB:0≤a∧a+1≤b∧b≤n):Ct Cp 282 #[sl aL n aZ,iv a,iv b,.func (.func 234) #[] #[]] (fun _=>True) [aP.row aL aZ ns] (fun v Cs=> ∃m,∃(t:Bool),v=.bool t∧m.Perm ns∧Cs= [aP.row aL aZ m]):=by
 refine Fz [.k (aP.row aL aZ ns)] Tryz.func282 fun U w0 hp=>aa 8 fun _=>ao 14 (a+1)<|aa 8 fun _=>aR (σ:=Int×Int×List Nd) (fun (i,k,m)=> [(0,sl aL n aZ),(1,iv a),(2,iv b),(3,.func (.func 234) #[] #[]),(8,.bool false),(9,iv i),(10,iv k)]) (fun (i,k,m)=> [.k (aP.row aL aZ m)]) (fun (i,k,m)=>m.Perm ns∧a+1≤i∧i≤b∧0≤k) (fun (i,k,m)=>(5-k).toNat) (a+1,0,ns) [0] ⟨(List.Perm.refl _),⟨by omega,by omega,by omega⟩⟩ ?_
 rintro _ ⟨i,k,m⟩ ⟨jA,⟨hq,hr,hs⟩⟩ aB
 have Ga:m.length=n:=by rw [jA.length_eq];omega
 refine aa 6 fun _=>aq (k<5) (fun h1=>?_) (fun h1=>?_)
 ·refine aa 5 fun _=>aR (σ:=Int×List Nd) (fun (i1,m1)=> [(0,sl aL n aZ),(1,iv a),(2,iv b),(3,.func (.func 234) #[] #[]),(8,.bool false),(9,iv i1),(10,iv k),(16,.bool (decide (k<5)))]) (fun (i1,m1)=> [.k (aP.row aL aZ m1)]) (fun (i1,m1)=>m1.Perm ns∧a+1≤i1∧i1≤b) (fun (i1,m1)=>(b-i1).toNat) (i,m) [0] ⟨jA,⟨by omega,by omega⟩⟩ ?_
  rintro _ ⟨i1,m1⟩ ⟨jT,⟨Xl,pG⟩⟩ dG
  have CR:m1.length=n:=by rw [jT.length_eq];omega
  refine aa 2 fun _=>dj (σ:=Bool) (fun Wc=> [(0,sl aL n aZ),(1,iv a),(2,iv b),(3,.func (.func 234) #[] #[]),(8,.bool false),(9,iv i1),(10,iv k),(16,.bool (decide (k<5))),(36,.bool Wc)]) (fun Wc=> [.k (aP.row aL aZ m1)]) (fun Wc=>Wc=true→i1<b) ?_ ?_
  ·rintro Wc ahV
   refine eQ Wc (fun h2=>?_) (fun h2=>?_)
   ·have atS:=ahV h2
    refine aa 5 fun _=>ao 38 (i1+1)<|aa 3 fun _=>dG _ (i1+1,m1) [0] kr ⟨jT,⟨by omega,by omega⟩⟩ du
   ·refine aa 8 fun _=>aq (i1=b) (fun h3=>?_) (fun h3=>?_)
    ·refine aa 4 fun _=>a_ [0] ⟨m1,true,kr,jT,kr⟩
    ·refine aa 7 fun _=>ao 44 (b-a)<|aa 2 fun _=>aq ((b-a)<50) (fun h4=>?_) (fun h4=>?_)
     ·refine aa 4 fun _=>a_ [0] ⟨m1,false,kr,jT,kr⟩
     ·refine aa 2 fun _=>Exists.elim (aw (xs:=m1) (k:=(i1-1).toNat) dg) fun x5 e6=>Exists.elim (aw (xs:=m1) (k:=i1.toNat) dg) fun x7 e8=>Exists.elim (aw (xs:=m1.set i1.toNat x5) (k:=(i1-1).toNat) dg) fun x9 ng=>aO [(4,_),(7,_),(8,_),(9,_),(12,_),(13,_),(14,_),(15,_),(16,_),(17,_)] [] ⟨fc (fun vs=>i1-1),fc (fun vs=>i1-1),br (fun vs=>aL) (fun vs=>n) (fun vs=>i1-1) 5 Ws,cZ 184 (fun vs=>((cz aL).add (((i1-1).toNat)*5)).add 0) (fun vs=>aP.V x5) qnh,qwp,cZ 184 (fun vs=>ad aL (i1.toNat*5) 0) (fun vs=>aP.V x7) qng,qwp,cR aP 0 (fun vs=>aL) (fun vs=>aZ) (fun vs=>m1) i1.toNat 0 (fun vs=>x7) (fun vs=>x5) 184 (fun vs=>aP.V x5) (fun _=>e8),br (fun vs=>aL) (fun vs=>n) (fun vs=>i1-1) 5 (fun vs w h=>Kd.cd (K:=aP) (xs:=m1.set i1.toNat x5) (h.bg 0 aL aZ (m1.set i1.toNat x5) kr) dg),cR aP 1 (fun vs=>aL) (fun vs=>aZ) (fun vs=>m1.set i1.toNat x5) ((i1-1).toNat) 0 (fun vs=>x9) (fun vs=>x7) 184 (fun vs=>aP.V x7) (fun _=>ng),trivial⟩ fun v11=>aa 6 fun _=>ao 64 (i1-a)<|aa 2 fun _=>dj (σ:=List Nd) (fun z3=> [(0,sl aL n aZ),(1,iv a),(2,iv b),(3,.func (.func 234) #[] #[]),(8,.bool false),(9,iv i1),(10,iv k)]) (fun z3=> [.k (aP.row aL aZ z3)]) (fun z3=>z3.Perm ns) ?_ ?_
      ·rintro z3 Wd
       have atT:z3.length=n:=by rw [Wd.length_eq];omega
       refine aa 5 fun _=>ao 103 (b-i1)<|aa 2 fun _=>dj (σ:=List Nd) (fun z4=> [(0,sl aL n aZ),(1,iv a),(2,iv b),(3,.func (.func 234) #[] #[]),(8,.bool false),(9,iv i1),(10,iv k)]) (fun z4=> [.k (aP.row aL aZ z4)]) (fun z4=>z4.Perm ns) ?_ ?_
       ·rintro z4 aaj
        have atU:z4.length=n:=by rw [aaj.length_eq];omega
        refine aa 4 fun _=>ao 18 (k+1)<|aa 2 fun _=>aB _ (i1,k+1,z4) [0] kr ⟨aaj,⟨by omega,by omega,by omega⟩⟩ du
       ·intro _ nI
        refine aq ((b-i1)≥2) (fun xw=>?_) (fun xw=>?_)
        ·refine aa 4 fun _=>ao 106 (i1+1)<|aa 3 fun _=>aR (σ:=Int×List Nd) (fun (j,m5)=> [(0,sl aL n aZ),(1,iv a),(2,iv b),(3,.func (.func 234) #[] #[]),(8,.bool false),(9,iv i1),(10,iv k),(12,iv j),(104,.bool (decide ((b-i1)≥2)))]) (fun (j,m5)=> [.k (aP.row aL aZ m5)]) (fun (j,m5)=>m5.Perm ns∧a+1≤j∧j≤b) (fun (j,m5)=>(b-j).toNat) (i1+1,z3) [0] ⟨Wd,⟨by omega,by omega⟩⟩ ?_
         rintro _ ⟨j,m5⟩ ⟨rG,⟨hj,hj2⟩⟩ rH
         have Oj:m5.length=n:=by rw [rG.length_eq];omega
         refine aa 7 fun _=>aq (j<b) (fun ki=>?_) (fun ki=>?_)
         ·refine aa 5 fun _=>Exists.elim (aw (xs:=m5) (k:=j.toNat) dg) fun iV vm=>Exists.elim (aw (xs:=m5) (k:=(j-1).toNat) dg) fun jD yw=>aK [(3,_),(4,aP.V iV),(7,_),(8,_),(9,aP.V jD),(10,iv (iB iV jD))] [] ⟨bF aL n j 5 qtw,cB 184 (ad aL (j.toNat*5) 0) (fun w h=>bN (K:=aP) (h.bg 0 aL aZ m5 kr) vm),fM (j-1),bF aL n (j-1) 5 qtw,cB 184 (((cz aL).add (((j-1).toNat)*5)).add 0) (fun w h=>bN (K:=aP) (h.bg 0 aL aZ m5 kr) yw),bT (kj iV jD) jU,trivial⟩<|cU ((iB iV jD)<0) (fun vI=>?_) (fun vI=>?_)
          ·exact qqs
          ·refine aa 1 fun _=>Exists.elim (aw (xs:=m5.set j.toNat jD) (k:=(j-1).toNat) dg) fun m0 rj=>aO [(4,_),(7,_),(8,_),(9,_),(12,_),(13,_),(14,_),(15,_),(16,_),(17,_)] [] ⟨Rn,Rn,br (fun vs=>aL) (fun vs=>n) (fun vs=>j-1) 5 qt8,cZ 184 (fun vs=>((cz aL).add (((j-1).toNat)*5)).add 0) (fun vs=>aP.V jD) (fun vs w h=>bN (K:=aP) (h.bg 0 aL aZ m5 kr) yw),qws,cZ 184 (fun vs=>ad aL (j.toNat*5) 0) (fun vs=>aP.V iV) (fun vs w h=>bN (K:=aP) (h.bg 0 aL aZ m5 kr) vm),qws,cR aP 0 (fun vs=>aL) (fun vs=>aZ) (fun vs=>m5) j.toNat 0 (fun vs=>iV) (fun vs=>jD) 184 (fun vs=>aP.V jD) (fun _=>vm),br (fun vs=>aL) (fun vs=>n) (fun vs=>j-1) 5 (fun vs w h=>Kd.cd (K:=aP) (xs:=m5.set j.toNat jD) (h.bg 0 aL aZ (m5.set j.toNat jD) kr) dg),cR aP 1 (fun vs=>aL) (fun vs=>aZ) (fun vs=>m5.set j.toNat jD) ((j-1).toNat) 0 (fun vs=>m0) (fun vs=>iV) 184 (fun vs=>aP.V iV) (fun _=>rj),trivial⟩ fun gW=>aa 4 fun _=>ao 111 (j+1)<|aa 2 fun _=>rH _ (j+1,(m5.set j.toNat jD).set ((j-1).toNat) iV) [2] kr ⟨((swap_perm vm yw).trans rG),⟨by omega,by omega⟩⟩ du
         ·exact qqs
        ·refine aa 1 fun _=>nI _ z3 [0] kr Wd
      ·intro _ kK
       refine aq ((i1-a)≥2) (fun tH=>?_) (fun tH=>?_)
       ·refine aa 4 fun _=>ao 67 (i1-1)<|aa 3 fun _=>aR (σ:=Int×List Nd) (fun (j,m6)=> [(0,sl aL n aZ),(1,iv a),(2,iv b),(3,.func (.func 234) #[] #[]),(8,.bool false),(9,iv i1),(10,iv k),(11,iv j),(16,.bool (decide (k<5))),(36,.bool Wc),(41,.bool (decide (i1=b))),(45,.bool (decide ((b-a)<50))),(65,.bool (decide ((i1-a)≥2)))]) (fun (j,m6)=> [.k (aP.row aL aZ m6)]) (fun (j,m6)=>m6.Perm ns∧0≤j∧j<b) (fun (j,m6)=>j.toNat) (i1-1,(m1.set i1.toNat x5).set ((i1-1).toNat) x7) [2] ⟨((swap_perm e8 e6).trans jT),⟨by omega,by omega⟩⟩ ?_
        rintro _ ⟨j,m6⟩ ⟨Uc,⟨hj,hj2⟩⟩ We
        have atV:m6.length=n:=by rw [Uc.length_eq];omega
        refine aa 6 fun _=>aq (j≥1) (fun Yc=>?_) (fun Yc=>?_)
        ·refine aa 5 fun _=>Exists.elim (aw (xs:=m6) (k:=j.toNat) dg) fun vn Tl=>Exists.elim (aw (xs:=m6) (k:=(j-1).toNat) dg) fun l9 vo=>aK [(3,_),(4,aP.V vn),(7,_),(8,_),(9,aP.V l9),(10,iv (iB vn l9))] [] ⟨bF aL n j 5 qu2,cB 184 (ad aL (j.toNat*5) 0) (fun w h=>bN (K:=aP) (h.bg 0 aL aZ m6 kr) Tl),fM (j-1),bF aL n (j-1) 5 qu2,cB 184 (((cz aL).add (((j-1).toNat)*5)).add 0) (fun w h=>bN (K:=aP) (h.bg 0 aL aZ m6 kr) vo),bT (kj vn l9) jU,trivial⟩<|cU ((iB vn l9)<0) (fun h28=>?_) (fun h28=>?_)
         ·exact qqt
         ·refine aa 1 fun _=>Exists.elim (aw (xs:=m6.set j.toNat l9) (k:=(j-1).toNat) dg) fun Xq e30=>aO [(4,_),(7,_),(8,_),(9,_),(12,_),(13,_),(14,_),(15,_),(16,_),(17,_)] [] ⟨Rn,Rn,br (fun vs=>aL) (fun vs=>n) (fun vs=>j-1) 5 qt7,cZ 184 (fun vs=>((cz aL).add (((j-1).toNat)*5)).add 0) (fun vs=>aP.V l9) (fun vs w h=>bN (K:=aP) (h.bg 0 aL aZ m6 kr) vo),qwt,cZ 184 (fun vs=>ad aL (j.toNat*5) 0) (fun vs=>aP.V vn) (fun vs w h=>bN (K:=aP) (h.bg 0 aL aZ m6 kr) Tl),qwt,cR aP 0 (fun vs=>aL) (fun vs=>aZ) (fun vs=>m6) j.toNat 0 (fun vs=>vn) (fun vs=>l9) 184 (fun vs=>aP.V l9) (fun _=>Tl),br (fun vs=>aL) (fun vs=>n) (fun vs=>j-1) 5 (fun vs w h=>Kd.cd (K:=aP) (xs:=m6.set j.toNat l9) (h.bg 0 aL aZ (m6.set j.toNat l9) kr) dg),cR aP 1 (fun vs=>aL) (fun vs=>aZ) (fun vs=>m6.set j.toNat l9) ((j-1).toNat) 0 (fun vs=>Xq) (fun vs=>vn) 184 (fun vs=>aP.V vn) (fun _=>e30),trivial⟩ fun v31=>aa 4 fun _=>ao 71 (j-1)<|aa 2 fun _=>We _ (j-1,(m6.set j.toNat l9).set ((j-1).toNat) vn) [2] kr ⟨((swap_perm Tl vo).trans Uc),⟨by omega,by omega⟩⟩ du
        ·exact qqt
       ·refine aa 1 fun _=>kK _ ((m1.set i1.toNat x5).set ((i1-1).toNat) x7) [2] kr ((swap_perm e8 e6).trans jT)
  ·intro _ im
   refine (bK (decide (i1<b))).elim (fun b33=>?_) (fun b33=>?_)
   ·have Up:=cg b33
    refine Exists.elim (aw (xs:=m1) (k:=i1.toNat) dg) fun ot Ni=>Exists.elim (aw (xs:=m1) (k:=(i1-1).toNat) dg) fun Xg e37=>aK [(2,.bool true),(7,_),(8,aP.V ot),(11,_),(12,_),(13,aP.V Xg),(14,iv (iB ot Xg))] [] ⟨qpz,bF aL n i1 5 Wr,cB 184 (ad aL (i1.toNat*5) 0) (fun w h=>bN (K:=aP) (h.bg 0 aL aZ m1 kr) Ni),fM (i1-1),bF aL n (i1-1) 5 Wr,cB 184 (((cz aL).add (((i1-1).toNat)*5)).add 0) (fun w h=>bN (K:=aP) (h.bg 0 aL aZ m1 kr) e37),bT (kj ot Xg) jU,trivial⟩<|im _ (!decide ((iB ot Xg)<0)) [0] kr (fun _=>by omega)
   ·have Up:=de b33
    refine aK [(2,.bool false)] [] ⟨qpz,trivial⟩<|qn0
 ·refine aa 5 fun _=>a_ [0] ⟨m,false,kr,jA,kr⟩

/- For the law of worlds: What functions do. -/
import Derived.Test.YtfookmefmjhonaaGreatZ13
set_option linter.all false
namespace Go.Proofs.YtfookmefmjhonaaGreat.My
open Go.RowKit Go.bE
def ZS (x:aT):Ct Cp 105 #[.agg (aT.cells x).toArray] (fun _=>True) [] (fun v Cs=>v=.bool (decide (kg x.o))∧Cs= []):=by
 refine cc Tryz.func105 fun w0 hp=>ae 17 [0] fun a8=>aq (x.o.kind=1) (fun h2=>?_) (fun h2=>?_)
 ·refine ae 4 [0] fun _=>ah (place x.o.par) [] cJ ?_
  rintro _ _ ⟨rfl,rfl⟩
  refine aa 1 fun _=>aG 10 (fL x.o.par) (fun h3=>?_) (fun h3=>?_)
  ·refine ae 2 [0] fun _=>ah (EC x.o.key) [] cJ ?_
   rintro _ _ ⟨rfl,rfl⟩
   refine aa 2 fun _=>aG 15 (jX x.o.key) (fun h4=>?_) (fun h4=>?_)
   ·refine ae 5 [0] fun _=>aG 20 (x.o.prop=0) (fun h5=>?_) (fun h5=>?_)
    ·refine ae 6 [0] fun _=>a_ [] ⟨kt (.bool (decide (x.o.val=0))) (dP qbg),kr⟩
    ·refine aa 6 fun _=>Xd
   ·refine aa 11 fun _=>Xd
  ·refine aa 16 fun _=>Xd
 ·refine aa 5 fun _=>aq (x.o.kind=2) (fun h6=>?_) (fun h6=>?_)
  ·refine aa 1 fun _=>?_
   rcases bK (decide (fB x.o.prop x.o.val)) with b8|b8
   ·have h7:=cg b8
    rcases bK (cS x.o.par (⟨0,0⟩:cN)) with b10|b10
    ·have h9:=(gn _ _).mp b10
     refine aK [(4,.bool true),(8,.agg #[iv 0,iv 0]),(9,.bool true)] [0,0,0,0] ⟨qgn,Oi,qm2,trivial⟩<|a_ [] ⟨kt (.bool (x.o.key.toList==({data:= #[]}:ByteArray).toList)) (dP qbg),kr⟩
    ·have h9:=(jW _ _).mp b10
     refine aK [(4,.bool true),(8,.agg #[iv 0,iv 0]),(9,.bool false)] [0,0,0] ⟨qgn,Oi,qm2,trivial⟩<|Xd
   ·have h7:=de b8
    refine aK [(4,.bool false)] [0,0] ⟨qgn,trivial⟩<|Xd
  ·refine aa 6 fun _=>Xd
def ag1 (x y:aT):Ct Cp 203 #[.agg (aT.cells x).toArray,.agg (aT.cells y).toArray] (fun _=>True) [] (fun v Cs=>v=.bool (decide (x.o.st.r=y.o.st.r∧x.o.seq=y.o.seq))∧Cs= []):=by
 refine cc Tryz.func203 fun w0 hp=>qtv
def same (x y:aT):Ct Cp 37 #[.agg (aT.cells x).toArray,.agg (aT.cells y).toArray] (fun _=>True) [] (fun v Cs=>v=.bool (decide (x.o.st.r=y.o.st.r∧x.o.seq=y.o.seq))∧Cs= []):=by
 refine cc Tryz.func37 fun w0 hp=>qtv
def OR (a b:cN):Ct Cp 36 #[.agg #[iv a.t,iv a.r],.agg #[iv b.t,iv b.r]] (fun _=>True) [] (fun v Cs=>v=iv (bl a b)∧Cs= []):=by
 refine cc Tryz.func36 fun w0 hp=>ae 15 [0,1] fun a8=>aG 10 (a.t<b.t) (fun h2=>?_) (fun h2=>?_)
 ·refine aa 19 fun _=>qvx
 ·refine ae 6 [0,1] fun _=>aG 16 (a.t=b.t) (fun h3=>?_) (fun h3=>?_)
  ·refine ae 8 [0,1] fun _=>aq (a.r<b.r) (fun h4=>?_) (fun h4=>?_)
   ·refine aa 4 fun _=>qvx
   ·refine ae 8 [0,1] fun _=>Dr a b kr (fun h5=>?_) (fun h5=>?_)
    ·exact qvh
    ·exact qvg
  ·refine ae 17 [0,1] fun _=>Dr a b kr (fun h6=>?_) (fun h6=>?_)
   ·exact qvh
   ·exact qvg
def isNaN (a:Int):Ct Cp 274 #[iv a] (fun _=>True) [] (fun v Cs=>v=.bool false∧Cs= []):=by
 refine cc Tryz.func274 fun w0 hp=>aa 11 fun _=>a_ [] ⟨kt (.bool (!decide (a=a))) (dP (by simp)),kr⟩
def compare (a b:Int):Ct Cp 254 #[iv a,iv b] (fun _=>True) [] (fun v Cs=>v=iv (dO a b)∧Cs= []):=by
 refine cc Tryz.func254 fun w0 hp=>aa 7 fun _=>ah (isNaN a) [] cJ ?_
 rintro _ _ ⟨rfl,rfl⟩
 refine aa 5 fun _=>ah (isNaN b) [] cJ ?_
 rintro _ _ ⟨rfl,rfl⟩
 refine aa 23 fun _=>aq (a<b) (fun h1=>?_) (fun h1=>?_)
 ·refine aa 4 fun _=>a_ [] ⟨kt (iv (-1)) (iT qhn),kr⟩
 ·refine aa 8 fun _=>aq (a>b) (fun h2=>?_) (fun h2=>?_)
  ·refine aa 4 fun _=>a_ [] ⟨kt (iv 1) (iT qhn),kr⟩
  ·refine aa 5 fun _=>a_ [] ⟨kt (iv 0) (iT qhn),kr⟩
def Rm (aU:OA) (bb:Nat) (xs:List Int) (hb:xs.length≤1073741824):Ct Cp 235 #[sl aU xs.length bb] (fun w=>az.Rd aU xs w) [] (fun v Cs=>v=iv (F_ xs)∧Cs= []):=by
 refine cc Tryz.func235 fun w0 hp=>aa 16 fun _=>aR (σ:=Nat) (fun k=> [(3,iv 0),(6,sl aU xs.length bb),(7,iv (xs.length:Int)),(8,iv k)]) (fun k=> []) (fun k=>k≤xs.length∧ ∀y∈xs.take k,y=0) (fun k=>xs.length-k) 0 [] ⟨bh _,by simp⟩ ?_
 rintro _ k ⟨hk,hy⟩ aB
 refine aa 5 fun _=>aq ((k:Int)<(xs.length:Int)) (fun h1=>?_) (fun h1=>?_)
 ·refine aa 5 fun _=>aV aU xs.length (k:Int) 1 X8 ?_
  obtain ⟨x2,e3⟩:=aw (xs:=xs) (k:=k) (by omega)
  refine bd 3 (ad aU (k*1) 0) (iv x2) Wy<|aa 8 fun _=>cU (x2=0) (fun h4=>?_) (fun h4=>?_)
  ·refine aa 5 fun _=>a_ [] ⟨kt (iv x2) (iT (or_some hy e3 h4).symm),kr⟩
  ·refine aa 4 fun _=>ao 16 ((k:Int)+1)<|aa 2 fun _=>aB _ (k+1) [] kr ⟨by omega,QN hy e3 h4⟩ (by omega)
 ·refine aa 6 fun _=>a_ [] ⟨kt (iv 0) (iT (or_none (by have e:k=xs.length:=(by omega);subst e;rw [List.take_length] at hy;exact hy)).symm),kr⟩
def pS (a b:cN):Ct Cp 226 #[.agg #[iv a.t,iv a.r],.agg #[iv b.t,iv b.r]] (fun _=>True) [] (fun v Cs=>v=iv (bl a b)∧Cs= []):=by
 refine cc Tryz.func226 fun w0 hp=>aa 7 fun a8=>aO [(4,_),(9,_),(11,_)] [0,1,0,1] ⟨aY (fun vs=>compare a.t b.t) [] (fun vs=>iv (dO a.t b.t)) [] nE ko,aY (fun vs=>compare a.r b.r) [] (fun vs=>iv (dO a.r b.r)) [] nE ko,aY (fun vs=>Rm (some ⟨(a5 (vs 10)),0,none⟩) 2 [dO a.t b.t,dO a.r b.r] (by simp)) [] (fun vs=>iv (F_ [dO a.t b.t,dO a.r b.r])) [] (fun vs w h=>h.eT 2 (a5 (vs 10)) 3 (List.flatMap az.f [dO a.t b.t,dO a.r b.r]) kr) ko,trivial⟩ fun v2=>a_ [] ⟨kt (iv (F_ [dO a.t b.t,dO a.r b.r])) (iT (QO a b)),kr⟩
def Dx (x y:aT):Ct Cp 221 #[.agg (aT.cells x).toArray,.agg (aT.cells y).toArray] (fun _=>True) [] (fun v Cs=>v=.bool (decide (bl x.o.st y.o.st<0))∧Cs= []):=by
 refine cc Tryz.func221 fun w0 hp=>ae 12 [0,1] fun a8=>ah (pS x.o.st y.o.st) [] cJ ?_
 rintro _ _ ⟨rfl,rfl⟩
 refine aa 3 fun _=>a_ [] ⟨kt (.bool (decide ((bl x.o.st y.o.st)<0))) (dP X5),kr⟩
def zg (c0:Nat):Ct Cp 74 #[sl none 0 c0] (fun _=>True) [] (fun v Cs=> ∃A c,v=sl A (([]:List aT).length) c∧Cs= [bx.row A c ([]:List aT)]):=by
 refine cc Tryz.func74 fun w0 hp=>bG bx<|R4
def zh (a:Addr) (bb:Nat) (xs:List aT) (hb:xs.length≤1073741824):Ct Cp 74 #[sl (some a) xs.length bb] (fun w=>bx.Rd (some a) xs w) [] (fun v Cs=> ∃A c,v=sl A xs.length c∧Cs= [bx.row A c xs]):=by
 refine cc Tryz.func74 fun w0 hp=>aa 16 fun a8=>mi bx 0 (a8 14) 0 []<|bQ bx 0 (so (a8 14)) 0 [] (some a) xs.length bb xs il RX fun A2 c3=>R3
def PF (aU:OA) (bb:Nat) (xs:List aT) (hb:xs.length≤1073741824):Ct Cp 74 #[sl aU xs.length bb] (fun w=>bx.Rd aU xs w) [] (fun v Cs=> ∃A c,v=sl A xs.length c∧Cs= [bx.row A c xs]):=by
 cases aU with
 |none=>
  intro U w hp hS
  have hc:xs= []:=dV.1 (Nat.eq_zero_of_not_pos fun h=>RW)
  subst hc
  exact zg bb U w trivial hS
 |some a=>exact zh a bb xs hb
def zi (c0:Nat):Ct Cp 86 #[sl none 0 c0] (fun _=>True) [] (fun v Cs=> ∃A c,v=sl A (([]:List bj).length) c∧Cs= [eS.row A c ([]:List bj)]):=by
 refine cc Tryz.func86 fun w0 hp=>bG eS<|R4
def zj (a:Addr) (bb:Nat) (xs:List bj) (hb:xs.length≤1073741824):Ct Cp 86 #[sl (some a) xs.length bb] (fun w=>eS.Rd (some a) xs w) [] (fun v Cs=> ∃A c,v=sl A xs.length c∧Cs= [eS.row A c xs]):=by
 refine cc Tryz.func86 fun w0 hp=>aa 16 fun a8=>mi eS 0 (a8 14) 0 []<|bQ eS 0 (so (a8 14)) 0 [] (some a) xs.length bb xs il RX fun A2 c3=>R3
def QM (aU:OA) (bb:Nat) (xs:List bj) (hb:xs.length≤1073741824):Ct Cp 86 #[sl aU xs.length bb] (fun w=>eS.Rd aU xs w) [] (fun v Cs=> ∃A c,v=sl A xs.length c∧Cs= [eS.row A c xs]):=by
 cases aU with
 |none=>
  intro U w hp hS
  have hc:xs= []:=dV.1 (Nat.eq_zero_of_not_pos fun h=>RW)
  subst hc
  exact zi bb U w trivial hS
 |some a=>exact zj a bb xs hb
def zk (c0:Nat):Ct Cp 87 #[sl none 0 c0] (fun _=>True) [] (fun v Cs=> ∃A c,v=sl A (([]:List Rg).length) c∧Cs= [eH.row A c ([]:List Rg)]):=by
 refine cc Tryz.func87 fun w0 hp=>bG eH<|R4
def zl (a:Addr) (bb:Nat) (xs:List Rg) (hb:xs.length≤1073741824):Ct Cp 87 #[sl (some a) xs.length bb] (fun w=>eH.Rd (some a) xs w) [] (fun v Cs=> ∃A c,v=sl A xs.length c∧Cs= [eH.row A c xs]):=by
 refine cc Tryz.func87 fun w0 hp=>aa 16 fun a8=>mi eH 0 (a8 14) 0 []<|bQ eH 0 (so (a8 14)) 0 [] (some a) xs.length bb xs il RX fun A2 c3=>R3
def Ex (aU:OA) (bb:Nat) (xs:List Rg) (hb:xs.length≤1073741824):Ct Cp 87 #[sl aU xs.length bb] (fun w=>eH.Rd aU xs w) [] (fun v Cs=> ∃A c,v=sl A xs.length c∧Cs= [eH.row A c xs]):=by
 cases aU with
 |none=>
  intro U w hp hS
  have hc:xs= []:=dV.1 (Nat.eq_zero_of_not_pos fun h=>RW)
  subst hc
  exact zk bb U w trivial hS
 |some a=>exact zl a bb xs hb
def wc (c0:Nat):Ct Cp 124 #[sl none 0 c0] (fun _=>True) [] (fun v Cs=> ∃A c,v=sl A (([]:List Nd).length) c∧Cs= [aP.row A c ([]:List Nd)]):=by
 refine cc Tryz.func124 fun w0 hp=>bG aP<|R4
def we (a:Addr) (bb:Nat) (xs:List Nd) (hb:xs.length≤1073741824):Ct Cp 124 #[sl (some a) xs.length bb] (fun w=>aP.Rd (some a) xs w) [] (fun v Cs=> ∃A c,v=sl A xs.length c∧Cs= [aP.row A c xs]):=by
 refine cc Tryz.func124 fun w0 hp=>aa 16 fun a8=>mi aP 0 (a8 14) 0 []<|bQ aP 0 (so (a8 14)) 0 [] (some a) xs.length bb xs il RX fun A2 c3=>R3
def MI (aU:OA) (bb:Nat) (xs:List Nd) (hb:xs.length≤1073741824):Ct Cp 124 #[sl aU xs.length bb] (fun w=>aP.Rd aU xs w) [] (fun v Cs=> ∃A c,v=sl A xs.length c∧Cs= [aP.row A c xs]):=by
 cases aU with
 |none=>
  intro U w hp hS
  have hc:xs= []:=dV.1 (Nat.eq_zero_of_not_pos fun h=>RW)
  subst hc
  exact wc bb U w trivial hS
 |some a=>exact we a bb xs hb
def wg (c0:Nat):Ct Cp 125 #[sl none 0 c0] (fun _=>True) [] (fun v Cs=> ∃A c,v=sl A (([]:List cD).length) c∧Cs= [gq.row A c ([]:List cD)]):=by
 refine cc Tryz.func125 fun w0 hp=>bG gq<|R4
def wj (a:Addr) (bb:Nat) (xs:List cD) (hb:xs.length≤1073741824):Ct Cp 125 #[sl (some a) xs.length bb] (fun w=>gq.Rd (some a) xs w) [] (fun v Cs=> ∃A c,v=sl A xs.length c∧Cs= [gq.row A c xs]):=by
 refine cc Tryz.func125 fun w0 hp=>aa 16 fun a8=>mi gq 0 (a8 14) 0 []<|bQ gq 0 (so (a8 14)) 0 [] (some a) xs.length bb xs il RX fun A2 c3=>R3
def Bm (aU:OA) (bb:Nat) (xs:List cD) (hb:xs.length≤1073741824):Ct Cp 125 #[sl aU xs.length bb] (fun w=>gq.Rd aU xs w) [] (fun v Cs=> ∃A c,v=sl A xs.length c∧Cs= [gq.row A c xs]):=by
 cases aU with
 |none=>
  intro U w hp hS
  have hc:xs= []:=dV.1 (Nat.eq_zero_of_not_pos fun h=>RW)
  subst hc
  exact wg bb U w trivial hS
 |some a=>exact wj a bb xs hb
def zm (c0:Nat):Ct Cp 22 #[sl none 0 c0] (fun _=>True) [] (fun v Cs=> ∃A c,v=sl A (([]:List UInt8).length) c∧Cs= [aA.row A c ([]:List UInt8)]):=by
 refine cc Tryz.func22 fun w0 hp=>bG aA<|R4
def zn (a:Addr) (bb:Nat) (xs:List UInt8) (hb:xs.length≤1073741824):Ct Cp 22 #[sl (some a) xs.length bb] (fun w=>aA.Rd (some a) xs w) [] (fun v Cs=> ∃A c,v=sl A xs.length c∧Cs= [aA.row A c xs]):=by
 refine cc Tryz.func22 fun w0 hp=>aa 16 fun a8=>mi aA 0 (a8 14) 0 []<|bQ aA 0 (so (a8 14)) 0 [] (some a) xs.length bb xs il RX fun A2 c3=>R3
def ij (aU:OA) (bb:Nat) (xs:List UInt8) (hb:xs.length≤1073741824):Ct Cp 22 #[sl aU xs.length bb] (fun w=>aA.Rd aU xs w) [] (fun v Cs=> ∃A c,v=sl A xs.length c∧Cs= [aA.row A c xs]):=by
 cases aU with
 |none=>
  intro U w hp hS
  have hc:xs= []:=dV.1 (Nat.eq_zero_of_not_pos fun h=>RW)
  subst hc
  exact zm bb U w trivial hS
 |some a=>exact zn a bb xs hb
def wI (aU:OA) (bb:Nat) (xs:List Nd) (hb:xs.length≤1073741824):Ct Cp 132 #[sl aU xs.length bb] (fun w=>aP.Rd aU xs w) [] (fun v Cs=> ∃A c,v=sl A xs.length c∧Cs= [aP.row A c xs]):=by
 refine cc Tryz.func132 fun w0 hp=>aa 14 fun _=>bG aP<|aR (σ:=Nat×OA×Nat×List Nd) WA (fun (k,B,d,ys)=> [.k (aP.row B d ys)]) (fun (k,B,d,ys)=>k≤xs.length∧ys=xs.take k) (fun (k,B,d,ys)=>xs.length-k) (0,none,0,[]) [0] ⟨bh _,rfl⟩ ?_
 rintro _ ⟨k,B,d,ys⟩ ⟨hk,hy⟩ aB
 refine aa 8 fun _=>aq ((k:Int)<(xs.length:Int)) (fun h1=>?_) (fun h1=>?_)
 ·refine aa 7 fun _=>aV aU xs.length (k:Int) 5 qhw ?_
  obtain ⟨x2,e3⟩:=aw (xs:=xs) (k:=k) (by omega)
  refine bd 184 (ad aU (k*5) 0) (.agg (Nd.cells x2).toArray) (fun w h=>bN (K:=aP) (hp.aE h.ch) e3)<|aa 1 fun rM=>bQ aP 0 B d ys (so (rM 0)) 1 1 [x2] (fun w h=>h.eT 1 (rM 0) 184 (List.flatMap aP.f [x2]) kr) qol fun A5 c6=>qto
 ·exact qeu
def JT (aU:OA) (bb:Nat) (xs:List Rg) (hb:xs.length≤1073741824):Ct Cp 218 #[sl aU xs.length bb] (fun w=>eH.Rd aU xs w) [] (fun v Cs=> ∃A c,v=sl A xs.length c∧Cs= [eH.row A c xs]):=by
 refine cc Tryz.func218 fun w0 hp=>aa 14 fun _=>bG eH<|aR (σ:=Nat×OA×Nat×List Rg) WA (fun (k,B,d,ys)=> [.k (eH.row B d ys)]) (fun (k,B,d,ys)=>k≤xs.length∧ys=xs.take k) (fun (k,B,d,ys)=>xs.length-k) (0,none,0,[]) [0] ⟨bh _,rfl⟩ ?_
 rintro _ ⟨k,B,d,ys⟩ ⟨hk,hy⟩ aB
 refine aa 8 fun _=>aq ((k:Int)<(xs.length:Int)) (fun h1=>?_) (fun h1=>?_)
 ·refine aa 7 fun _=>aV aU xs.length (k:Int) 4 qhv ?_
  obtain ⟨x2,e3⟩:=aw (xs:=xs) (k:=k) (by omega)
  refine bd 178 (ad aU (k*4) 0) (.agg (Rg.cells x2).toArray) qpr<|aa 1 fun rM=>bQ eH 0 B d ys (so (rM 0)) 1 1 [x2] (fun w h=>h.eT 1 (rM 0) 178 (List.flatMap eH.f [x2]) kr) qol fun A5 c6=>qto
 ·exact qeu
def tB (x:aT):Ct Cp 75 #[.agg (aT.cells x).toArray] (fun w=>x.Rd w) [] (fun v Cs=> ∃A c,v=.agg #[iv x.o.st.t,iv x.o.st.r,iv x.o.seq,sl A x.o.aX.length c,iv x.o.kind,iv x.o.node.t,iv x.o.node.r,iv x.o.par.t,iv x.o.par.r,.string x.o.key,iv x.o.prop,iv x.o.val]∧Cs= [az.row A c x.o.aX]):=by
 refine cc Tryz.func75 fun w0 hp=>ae 9 [0] fun a8=>ah (qu x.A x.c x.o.aX hp.1) [] Nh ?_
 rintro _ _ ⟨A2,c3,rfl,rfl⟩
 refine ae 8 [0,0,1] fun _=>bk [1] [2] ⟨A2,c3,kr,kr⟩
def xS (x:aT):Ct Cp 62 #[.agg (aT.cells x).toArray] (fun w=>x.Rd w) [] (fun v Cs=> ∃A c,v=.agg #[iv x.o.st.t,iv x.o.st.r,iv x.o.seq,sl A x.o.aX.length c,iv x.o.kind,iv x.o.node.t,iv x.o.node.r,iv x.o.par.t,iv x.o.par.r,.string x.o.key,iv x.o.prop,iv x.o.val]∧Cs= [az.row A c x.o.aX]):=by
 refine cc Tryz.func62 fun w0 hp=>ae 15 [0,2,0] fun a8=>ah (sk x.A x.c x.o.aX hp.1) [] Nh ?_
 exact qfx
def mV {α:Type} {xs ys:List α} {k:Nat} {x:α} (hl:ys.length=k) (hx:(ys++xs.drop k)[k]? =some x):xs[k]? =some x:=by
 subst hl
 rw [gD (bO _),Nat.sub_self,List.getElem?_drop] at hx
 exact WC
def aS {P:Program} {n:Nat} {U:Nat→Prop} {w0:World} {Q:Exit→Act→World→Prop} {s:S} {α:Type} (K:Kd α) (j:Nat) (A:OA) (c:Nat) (xs ys:List α) (h:(dR s.H.length [j],pk s.H [j])=(true,[K.row A c xs])) (e:xs=ys) (k:G P n U w0 Q {s with H:=gv s.H [j] [.k (K.row A c ys)]}):G P n U w0 Q s:=by
 subst e
 exact js [j] _ [.k (K.row A c xs)] h (fun w K hS=>hS) k
def oN (a b:bz):Prop:=a.st=b.st∧a.seq=b.seq∧a.aX=b.aX∧a.kind=b.kind∧a.node=b.node∧a.par=b.par∧a.key=b.key∧a.prop=b.prop∧a.val=b.val
noncomputable instance (a b:bz):Decidable (oN a b):=Classical.propDecidable _
def Px (aU:OA) (bb:Nat) (xs:List aT):Ct Cp 61 #[sl aU xs.length bb] (fun w=>ir aU xs w) [] (fun v Cs=> ∃A c ys,v=sl A ys.length c∧ys.map (·.o)=xs.map (·.o)∧Cs= [bx.row A c ys,aM.all (ys.map aT.own)]):=by
 refine cc Tryz.func61 fun w0 hp=>aa 14 fun _=>bG bx<|dQ<|aR (σ:=Nat×OA×Nat×List aT) WA (fun (k,B,d,ys)=> [.k (bx.row B d ys),.k (aM.all (ys.map aT.own))]) (fun (k,B,d,ys)=>k≤xs.length∧ys.length=k∧ys.map (·.o)=(xs.take k).map (·.o)) (fun (k,B,d,ys)=>xs.length-k) (0,none,0,[]) [0,1] ⟨bh _,rfl,rfl⟩ ?_
 rintro _ ⟨k,B,d,ys⟩ ⟨hk,hl,hy⟩ aB
 refine aa 8 fun _=>aq ((k:Int)<(xs.length:Int)) (fun h1=>?_) (fun h1=>?_)
 ·refine aa 7 fun _=>aV aU xs.length (k:Int) 12 qe9 ?_
  obtain ⟨x2,e3⟩:=aw (xs:=xs) (k:=k) (by omega)
  refine bd 56 (ad aU (k*12) 0) (.agg (aT.cells x2).toArray) qjk<|ah (xS x2) [] qo3 ?_
  rintro _ _ ⟨A4,c5,rfl,rfl⟩
  refine aa 1 fun pW=>bQ bx 0 B d ys (so (pW 0)) 1 1 [(⟨x2.o,A4,c5⟩:aT)] (fun w h=>h.eT 3 (pW 0) 56 (List.flatMap bx.f [(⟨x2.o,A4,c5⟩:aT)]) kr) qky fun A7 c8=>aa 6 fun _=>ao (e:=by have:=hp.1;omega) 10 ((k:Int)+1)<|aa 2 fun _=>eD aT.own 2 1 ys (⟨x2.o,A4,c5⟩:aT) kr<|aB _ (k+1,A7,c8,ys++ [(⟨x2.o,A4,c5⟩:aT)]) [0,4] kr ⟨by omega,by simp [hl],by subst hl;exact kB hy e3 rfl⟩ du
 ·exact qd8
def UL (aU:OA) (bb:Nat) (xs:List aT):Ct Cp 49 #[sl aU xs.length bb] (fun w=>ir aU xs w) [] (fun v Cs=> ∃A c ys,v=sl A ys.length c∧ys.map (·.o)=xs.map (·.o)∧Cs= [bx.row A c ys,aM.all (ys.map aT.own)]):=by
 refine cc Tryz.func49 fun w0 hp=>aa 7 fun _=>ah (PF aU bb xs hp.1) [] Tr ?_
 rintro _ _ ⟨A1,c2,rfl,rfl⟩
 refine aa 10 fun _=>dQ<|aR (σ:=Nat×List aT) (fun (k,ys)=> [(0,sl A1 xs.length c2),(7,iv (xs.length:Int)),(8,iv k)]) (fun (k,ys)=> [.k (bx.row A1 c2 (ys++xs.drop k)),.k (aM.all (ys.map aT.own))]) (fun (k,ys)=>k≤xs.length∧ys.length=k∧ys.map (·.o)=(xs.take k).map (·.o)) (fun (k,ys)=>xs.length-k) (0,[]) [0,1] ⟨bh _,rfl,rfl⟩ ?_
 rintro _ ⟨k,ys⟩ ⟨hk,hl,hy⟩ aB
 refine aa 5 fun _=>aq ((k:Int)<(xs.length:Int)) (fun h3=>?_) (fun h3=>?_)
 ·refine aa 13 fun _=>aV A1 xs.length (k:Int) 12 quh ?_
  obtain ⟨x4,e5⟩:=aw (xs:=ys++xs.drop k) (k:=k) qgu
  refine bd 56 (ad A1 (k*12) 0) (.agg (aT.cells x4).toArray) (fun w h=>bN (K:=bx) (h.bg 0 A1 c2 (ys++xs.drop k) kr) e5)<|ah (tB x4) [] (fun w h=>((hp.2.2 x4 (aI (mV hl e5))).aE h.ch)) ?_
  rintro _ _ ⟨A6,c7,rfl,rfl⟩
  refine aV A1 xs.length (k:Int) 12 quh<|gH bx 0 A1 c2 (ys++xs.drop k) k 0 x4 (⟨x4.o,A6,c7⟩:aT) 56 (.agg #[iv x4.o.st.t,iv x4.o.st.r,iv x4.o.seq,sl A6 x4.o.aX.length c7,iv x4.o.kind,iv x4.o.node.t,iv x4.o.node.r,iv x4.o.par.t,iv x4.o.par.r,.string x4.o.key,iv x4.o.prop,iv x4.o.val]) e5<|aa 4 fun _=>ao (e:=by have:=hp.1;omega) 19 ((k:Int)+1)<|aa 2 fun _=>eD aT.own 2 1 ys (⟨x4.o,A6,c7⟩:aT) kr<|aS bx 0 A1 c2 ((ys++xs.drop k).set k (⟨x4.o,A6,c7⟩:aT)) ((ys++ [(⟨x4.o,A6,c7⟩:aT)])++xs.drop (k+1)) kr qos<|aB _ (k+1,ys++ [(⟨x4.o,A6,c7⟩:aT)]) [4,3] kr ⟨by omega,by simp [hl],by subst hl;exact kB hy (mV rfl e5) rfl⟩ du
 ·refine aa 6 fun _=>?_
  have ek:k=xs.length:=by omega
  rw [ek,List.take_length] at hy
  refine aS bx 0 A1 c2 (ys++xs.drop k) ys kr qlc<|a_ [2,1] ⟨A1,c2,ys,kt (sl A1 xs.length c2) (by rw [hl,ek]),hy,kr⟩
def wJ (x:aT):Ct Cp 71 #[.agg (aT.cells x).toArray] (fun w=>x.Rd w) [] (fun v Cs=>v=.bool (decide (bV x.o))∧Cs= []):=by
 refine cc Tryz.func71 fun w0 hp=>ae 10 [0] fun a8=>ah (xI x.o.st) [] cJ ?_
 rintro _ _ ⟨rfl,rfl⟩
 refine aa 2 fun _=>eV 7 (bY x.o.st) (fun h2=>?_) (fun h2=>?_)
 ·refine aa 26 fun _=>qc2
 ·have ji:1≤x.o.st.t∧x.o.st.t≤1099511627776∧0≤x.o.st.r∧x.o.st.r<16:=by simpa [bY] using h2
  refine ae 2 [0] fun _=>ah (xL x.A x.c x.o.aX hp.1) [] Nh ?_
  rintro _ _ ⟨rfl,rfl⟩
  refine aa 3 fun _=>eV 13 (dW x.o.aX) (fun h3=>?_) (fun h3=>?_)
  ·refine aa 20 fun _=>qc2
  ·have hv:dW x.o.aX:=by simpa using h3
   refine ae 9 [0,0] fun _=>aG 22 ((x.o.aX.length:Int)≤x.o.st.r) (fun h4=>?_) (fun h4=>?_)
   ·refine aa 11 fun _=>qc2
   ·refine ae 2 [0] fun _=>ah (xI x.o.node) [] cJ ?_
    rintro _ _ ⟨rfl,rfl⟩
    refine aa 3 fun _=>cU (bY x.o.node) (fun h5=>?_) (fun h5=>?_)
    ·refine aa 4 fun _=>qc2
    ·refine aa 2 fun _=>?_
     obtain ⟨x6,e7⟩:=aw (xs:=x.o.aX) (k:=x.o.st.r.toNat) (by omega)
     rcases bK (decide (x.o.seq=(x6+1))) with b9|b9
     ·have h8:=cg b9
      rcases bK (decide (x.o.seq≤1099511627776)) with Pk|Pk
      ·have iJ:=cg Pk
       refine aK [(7,_),(8,iv x6),(9,_),(10,.bool true),(14,.bool true),(18,.bool (decide (kg x.o)))] [0,0,0,0,0] ⟨Zk,qfb,qir,qi4,qmq,bT (ZS x) jU,trivial⟩<|a_ [] ⟨kt (.bool (decide (kg x.o))) (dP qh1),kr⟩
      ·have iJ:=de Pk
       refine aK [(7,_),(8,iv x6),(9,_),(10,.bool true),(14,.bool false)] [0,0,0,0] ⟨Zk,qfb,qir,qi4,qmq,trivial⟩<|qvs
     ·have h8:=de b9
      refine aK [(7,_),(8,iv x6),(9,_),(10,.bool false)] [0,0,0] ⟨Zk,qfb,qir,qi4,trivial⟩<|qvs
def isReady (nZ:OA) (Bx:Nat) (fE:List Int) (x:aT) (hm:fE.length≤1073741824) (hl:fE.length=x.o.aX.length) (ZO:0≤x.o.st.r) (hr:x.o.st.r<fE.length) (hs:0≤x.o.seq) (lu:x.o.seq≤1099511627776):Ct Cp 72 #[sl nZ fE.length Bx,.agg (aT.cells x).toArray] (fun w=>az.Rd nZ fE w∧x.Rd w) [] (fun v Cs=>v=.bool (decide (cQ fE x.o))∧Cs= []):=by
 refine cc Tryz.func72 fun w0 hp=>aa 6 fun a8=>?_
 obtain ⟨x2,e3⟩:=aw (xs:=fE) (k:=x.o.st.r.toNat) (by omega)
 rcases bK (decide (x2=(x.o.seq-1))) with b5|b5
 ·have h4:=cg b5
  refine aK [(4,_),(5,iv x2),(8,_),(9,.bool true),(14,.bool (decide (AD fE x.o.aX)))] [0,0,0] ⟨qc7,qdy,qv2,qgp,bT (hp:=fun w h=>⟨hp.1.aE h.ch,hp.2.2.aE h.ch⟩) (Jx nZ Bx fE x.A x.c x.o.aX (by omega) (by omega)) jU,trivial⟩<|qut
 ·exact qb8
def ready (nZ:OA) (Bx:Nat) (fE:List Int) (x:aT) (hm:fE.length≤1073741824) (hl:fE.length=x.o.aX.length) (ZO:0≤x.o.st.r) (hr:x.o.st.r<fE.length) (hs:0≤x.o.seq) (lu:x.o.seq≤1099511627776):Ct Cp 35 #[sl nZ fE.length Bx,.agg (aT.cells x).toArray] (fun w=>az.Rd nZ fE w∧x.Rd w) [] (fun v Cs=>v=.bool (decide (cQ fE x.o))∧Cs= []):=by
 refine cc Tryz.func35 fun w0 hp=>aa 6 fun a8=>?_
 obtain ⟨x2,e3⟩:=aw (xs:=fE) (k:=x.o.st.r.toNat) (by omega)
 rcases bK (decide (x2=(x.o.seq-1))) with b5|b5
 ·have h4:=cg b5
  refine aK [(4,_),(5,iv x2),(8,_),(9,.bool true),(14,.bool (decide (AD fE x.o.aX)))] [0,0,0] ⟨qc7,qdy,qv2,qgp,bT (hp:=fun w h=>⟨hp.1.aE h.ch,hp.2.2.aE h.ch⟩) (Tj nZ Bx fE x.A x.c x.o.aX (by omega) (by omega)) jU,trivial⟩<|qut
 ·exact qb8
def Ot (x y:aT):Ct Cp 10 #[.agg (aT.cells x).toArray,.agg (aT.cells y).toArray] (fun w=>x.Rd w∧y.Rd w) [] (fun v Cs=>v=.bool (decide (oN x.o y.o))∧Cs= []):=by
 refine cc Tryz.func10 fun w0 hp=>ae 14 [0,1] fun a8=>kL 10 x.o.st y.o.st kr (fun h2=>?_) (fun h2=>?_)
 ·refine ae 7 [0,1] fun _=>aG 17 (x.o.seq=y.o.seq) (fun h3=>?_) (fun h3=>?_)
  ·refine ae 4 [0,1] fun _=>ah (xe x.A x.c x.o.aX y.A y.c y.o.aX hp.1.1) [] qi2 ?_
   rintro _ _ ⟨rfl,rfl⟩
   refine aa 2 fun _=>aG 24 (x.o.aX=y.o.aX) (fun h4=>?_) (fun h4=>?_)
   ·refine ae 7 [0,1] fun _=>aG 31 (x.o.kind=y.o.kind) (fun h5=>?_) (fun h5=>?_)
    ·refine ae 7 [0,1] fun _=>kL 38 x.o.node y.o.node kr (fun h6=>?_) (fun h6=>?_)
     ·refine ae 7 [0,1] fun _=>kL 45 x.o.par y.o.par kr (fun h7=>?_) (fun h7=>?_)
      ·refine ae 7 [0,1] fun _=>eg 52 (x.o.key.toList==y.o.key.toList) (fun h8=>?_) (fun h8=>?_)
       ·have hk:=h8;simp only [tK,EI] at hk
        refine ae 7 [0,1] fun _=>aG 59 (x.o.prop=y.o.prop) (fun h9=>?_) (fun h9=>?_)
        ·refine ae 8 [0,1] fun _=>a_ [] ⟨kt (.bool (decide (x.o.val=y.o.val))) (dP (by simp [oN,en, *])),kr⟩
        ·refine aa 8 fun _=>R7
       ·have hk:=h8;simp only [tK,EI] at hk
        refine aa 15 fun _=>R7
      ·refine aa 22 fun _=>R7
     ·refine aa 29 fun _=>R7
    ·refine aa 36 fun _=>R7
   ·refine aa 43 fun _=>R7
  ·refine aa 50 fun _=>R7
 ·refine aa 57 fun _=>R7
def KM (p:Int):Prop:=0≤p∧p<19
instance (p:Int):Decidable (KM p):=by unfold KM;infer_instance
def KL (p:Int):Int:=if KM p then low p else 0
def Bt (p:Int):Int:=if KM p then high p else 0
def D3 (p:Int):Int:=if KM p then plain p else 0
def FI (o:bz):oN ⟨o.st,o.seq,o.aX,o.kind,o.node,o.par,o.key,0,0⟩ o↔o.prop=0∧o.val=0:=by simp [oN,eq_comm]
def FJ (o:bz):oN ⟨o.st,o.seq,o.aX,o.kind,o.node,⟨0,0⟩,⟨#[]⟩,o.prop,o.val⟩ o↔o.par=root∧o.key=⟨#[]⟩:=by simp [oN,cW,eq_comm]
def R_ (p v:Int):(xK p v=0)=fB p v:=by
 unfold xK
 by_cases h:0≤p∧p<19
 ·rw [if_pos h]
  by_cases h2:fB p v<;>simp [h2]
 ·rw [if_neg h]
  have: ¬fB p v:=fun e=>h ⟨e.1,e.2.1⟩
  simp [this]
def oh {o:bz} (h:bV o):1≤o.seq:=by
 obtain ⟨h1,h2,h3,_,h5,_⟩:=h
 have:o.st.r.toNat<o.aX.length:=by have:=h1.2.2.1;omega
 have h6:=h2.2.2 _ (List.getElem_mem this)
 rw [bA,dw this] at h5
 simp only [Option.getD_some] at h5
 omega
def Mp {p:Int} (h: ¬KM p):KL p=0∧Bt p=0∧D3 p=0:=by simp [KL,Bt,D3,h]
def rvalue (p:Int):Ct Cp 128 #[iv p] (fun _=>True) [] (fun v Cs=>v=.tuple #[iv (KL p),iv (Bt p),iv (D3 p),.bool (decide (KM p))]∧Cs= []):=by
 refine cc Tryz.func128 fun w0 hp=>aa 18 fun _=>aq (p=0) (fun h1=>?_) (fun h1=>?_)
 ·refine aa 7 fun _=>a_ [] ⟨by subst h1;kernel_rfl,kr⟩
 ·refine aa 6 fun _=>aG 9 (p=1) (fun h2=>?_) (fun h2=>?_)
  ·refine aa 10 fun _=>a_ [] ⟨by subst h2;kernel_rfl,kr⟩
  ·refine aa 5 fun _=>aG 9 (p=2) (fun h3=>?_) (fun h3=>?_)
   ·refine aa 8 fun _=>a_ [] ⟨by subst h3;kernel_rfl,kr⟩
   ·refine aa 7 fun _=>aG 12 (p=3) (fun h4=>?_) (fun h4=>?_)
    ·refine aa 10 fun _=>a_ [] ⟨by subst h4;kernel_rfl,kr⟩
    ·refine aa 6 fun _=>aG 12 (p=4) (fun h5=>?_) (fun h5=>?_)
     ·refine aa 10 fun _=>a_ [] ⟨by subst h5;kernel_rfl,kr⟩
     ·refine aa 6 fun _=>aG 12 (p=6) (fun h6=>?_) (fun h6=>?_)
      ·refine aa 10 fun _=>a_ [] ⟨by subst h6;kernel_rfl,kr⟩
      ·refine aa 6 fun _=>aG 12 (p=8) (fun h7=>?_) (fun h7=>?_)
       ·refine aa 10 fun _=>a_ [] ⟨by subst h7;kernel_rfl,kr⟩
       ·refine aa 5 fun _=>aG 12 (p=11) (fun h8=>?_) (fun h8=>?_)
        ·refine aa 8 fun _=>a_ [] ⟨by subst h8;kernel_rfl,kr⟩
        ·refine aa 7 fun _=>aG 18 (p=5) (fun h9=>?_) (fun h9=>?_)
         ·refine aa 10 fun _=>a_ [] ⟨by subst h9;kernel_rfl,kr⟩
         ·refine aa 5 fun _=>aG 18 (p=7) (fun iJ=>?_) (fun iJ=>?_)
          ·refine aa 8 fun _=>a_ [] ⟨by subst iJ;kernel_rfl,kr⟩
          ·refine aa 6 fun _=>aq (p=9) (fun kx=>?_) (fun kx=>?_)
           ·refine aa 7 fun _=>a_ [] ⟨by subst kx;kernel_rfl,kr⟩
           ·refine aa 5 fun _=>aq (p=10) (fun xw=>?_) (fun xw=>?_)
            ·refine aa 7 fun _=>a_ [] ⟨by subst xw;kernel_rfl,kr⟩
            ·refine aa 6 fun _=>aG 25 (p=12) (fun ki=>?_) (fun ki=>?_)
             ·refine aa 10 fun _=>a_ [] ⟨by subst ki;kernel_rfl,kr⟩
             ·refine aa 6 fun _=>aG 25 (p=13) (fun sU=>?_) (fun sU=>?_)
              ·refine aa 10 fun _=>a_ [] ⟨by subst sU;kernel_rfl,kr⟩
              ·refine aa 5 fun _=>aG 25 (p=14) (fun Io=>?_) (fun Io=>?_)
               ·refine aa 8 fun _=>a_ [] ⟨by subst Io;kernel_rfl,kr⟩
               ·refine aa 6 fun _=>aq (p=15) (fun AF=>?_) (fun AF=>?_)
                ·refine aa 7 fun _=>a_ [] ⟨by subst AF;kernel_rfl,kr⟩
                ·refine aa 5 fun _=>aq (p=16) (fun Rw=>?_) (fun Rw=>?_)
                 ·refine aa 7 fun _=>a_ [] ⟨by subst Rw;kernel_rfl,kr⟩
                 ·refine aa 5 fun _=>aq (p=17) (fun vI=>?_) (fun vI=>?_)
                  ·refine aa 7 fun _=>a_ [] ⟨by subst vI;kernel_rfl,kr⟩
                  ·refine aa 5 fun _=>aq (p=18) (fun Ey=>?_) (fun Ey=>?_)
                   ·refine aa 7 fun _=>a_ [] ⟨by subst Ey;kernel_rfl,kr⟩
                   ·refine aa 9 fun _=>a_ [] ⟨kt (.tuple #[iv 0,iv 0,iv 0,.bool false]) (by have h: ¬KM p:=(by unfold KM;omega);rw [(Mp h).1,(Mp h).2.1,(Mp h).2.2,decide_eq_false h]),kr⟩
def VO (p q:Int):Ct Cp 91 #[iv p,iv q] (fun _=>True) [] (fun v Cs=>v=iv (xK p q)∧Cs= []):=by
 refine cc Tryz.func91 fun w0 hp=>aa 7 fun _=>ah (rvalue p) [] cJ ?_
 rintro _ _ ⟨rfl,rfl⟩
 refine aa 16 fun _=>cU (KM p) (fun h1=>?_) (fun h1=>?_)
 ·refine aa 4 fun _=>a_ [] ⟨kt (iv 3) (iT qdo),kr⟩
 ·refine aa 8 fun _=>aG 21 (q<(KL p)) (fun h2=>?_) (fun h2=>?_)
  ·refine aa 10 fun _=>qv6
  ·refine aa 5 fun _=>aq (q>(Bt p)) (fun h3=>?_) (fun h3=>?_)
   ·refine aa 4 fun _=>qv6
   ·refine aa 5 fun _=>a_ [] ⟨kt (iv 0) (iT qdo),kr⟩
def rop (x:aT):Ct Cp 59 #[.agg (aT.cells x).toArray] (fun w=>x.Rd w) [] (fun v Cs=>v=.bool (decide (bV x.o))∧Cs= []):=by
 refine cc Tryz.func59 fun w0 hp=>aa 7 fun a8=>?_
 rcases bK (!decide (bY x.o.st)) with b3|b3
 ·have h2: ¬ (bY x.o.st):=by simpa using b3
  refine aK [(2,.bool (decide (bY x.o.st))),(3,.bool true)] [0] ⟨T_,Ul,trivial⟩<|Zn
 ·have h2:bY x.o.st:=by simpa using b3
  have ji:=h2;have ahp:=ji;unfold bY at ahp
  rcases bK (!decide (dW x.o.aX)) with b5|b5
  ·have h4: ¬ (dW x.o.aX):=by simpa using b5
   refine aK [(2,.bool (decide (bY x.o.st))),(3,.bool false),(7,.bool (decide (dW x.o.aX))),(8,.bool true)] [0,0] ⟨T_,Ul,W0,W_,trivial⟩<|Zn
  ·have h4:dW x.o.aX:=by simpa using b5
   have hv:=h4
   rcases bK (decide ((x.o.aX.length:Int)≤x.o.st.r)) with b7|b7
   ·have h6:=cg b7
    refine aK [(2,.bool (decide (bY x.o.st))),(3,.bool false),(7,.bool (decide (dW x.o.aX))),(8,.bool false),(17,.bool true)] [0,0,0,0] ⟨T_,Ul,W0,W_,Zh,trivial⟩<|Zn
   ·have h6:=de b7
    rcases bK (decide (x.o.seq<1)) with b9|b9
    ·have h8:=cg b9
     refine aK [(2,.bool (decide (bY x.o.st))),(3,.bool false),(7,.bool (decide (dW x.o.aX))),(8,.bool false),(17,.bool false),(22,.bool true)] [0,0,0,0,0] ⟨T_,Ul,W0,W_,Zh,qhb,trivial⟩<|Zn
    ·have h8:=de b9
     rcases bK (decide (x.o.seq>1099511627776)) with Pk|Pk
     ·have iJ:=cg Pk
      refine aK [(2,.bool (decide (bY x.o.st))),(3,.bool false),(7,.bool (decide (dW x.o.aX))),(8,.bool false),(17,.bool false),(22,.bool false),(27,.bool true)] [0,0,0,0,0,0] ⟨T_,Ul,W0,W_,Zh,qhb,qh6,trivial⟩<|Zn
     ·have iJ:=de Pk
      obtain ⟨kE,vr⟩:=aw (xs:=x.o.aX) (k:=x.o.st.r.toNat) (by omega)
      rcases bK (!decide (x.o.seq=(kE+1))) with b15|b15
      ·have sU: ¬ (x.o.seq=(kE+1)):=by simpa using b15
       refine aK [(2,.bool (decide (bY x.o.st))),(3,.bool false),(7,.bool (decide (dW x.o.aX))),(8,.bool false),(17,.bool false),(22,.bool false),(27,.bool false),(37,_),(38,iv kE),(39,_),(40,.bool true)] [0,0,0,0,0,0,0,0,0] ⟨T_,Ul,W0,W_,Zh,qhb,qh6,Zk,qjc,qm9,qnu,trivial⟩<|aa 5 fun _=>WZ
      ·have sU:x.o.seq=(kE+1):=by simpa using b15
       refine aK [(2,.bool (decide (bY x.o.st))),(3,.bool false),(7,.bool (decide (dW x.o.aX))),(8,.bool false),(17,.bool false),(22,.bool false),(27,.bool false),(37,_),(38,iv kE),(39,_),(40,.bool false),(45,.bool (decide (bY x.o.node)))] [0,0,0,0,0,0,0,0,0,0] ⟨T_,Ul,W0,W_,Zh,qhb,qh6,Zk,qjc,qm9,qnu,bT (CZ x.o.node) jU,trivial⟩<|cU (bY x.o.node) (fun AF=>?_) (fun AF=>?_)
       ·refine aa 4 fun _=>WZ
       ·refine ae 29 [0,0,0,0,0,1,0] fun kQ=>aq (x.o.kind=1) (fun vI=>?_) (fun vI=>?_)
        ·refine aa 1 fun _=>aO [] [0,0,1,2] trivial fun D4=>ae 4 [3,0] fun _=>ah (Ot (⟨⟨⟨x.o.st.t,x.o.st.r⟩,x.o.seq,x.o.aX,x.o.kind,⟨x.o.node.t,x.o.node.r⟩,⟨x.o.par.t,x.o.par.r⟩,x.o.key,0,0⟩,x.A,x.c⟩:aT) x) [] qpq ?_
         rintro _ _ ⟨rfl,rfl⟩
         refine aa 1 fun _=>aG 76 (oN (⟨⟨⟨x.o.st.t,x.o.st.r⟩,x.o.seq,x.o.aX,x.o.kind,⟨x.o.node.t,x.o.node.r⟩,⟨x.o.par.t,x.o.par.r⟩,x.o.key,0,0⟩,x.A,x.c⟩:aT).o x.o) (fun Qy=>?_) (fun Qy=>?_)
         ·have hq:(x.o.prop=0∧x.o.val=0):=(FI x.o).mp Qy
          clear Qy
          refine ae 2 [0] fun _=>ah (Th x.o.par) [] cJ ?_
          rintro _ _ ⟨rfl,rfl⟩
          refine aa 2 fun _=>aG 81 (fL x.o.par) (fun Zr=>?_) (fun Zr=>?_)
          ·refine ae 2 [0] fun _=>ah (adQ x.o.key) [] cJ ?_
           rintro _ _ ⟨rfl,rfl⟩
           refine aa 3 fun _=>a_ [] ⟨kt (.bool (decide (jX x.o.key))) (dP qa6),kr⟩
          ·refine aa 6 fun _=>WZ
         ·have hq: ¬ (x.o.prop=0∧x.o.val=0):=fun e=>Qy ((FI x.o).mpr e)
          clear Qy
          refine aa 11 fun _=>WZ
        ·refine aa 5 fun _=>aq (x.o.kind=2) (fun tH=>?_) (fun tH=>?_)
         ·refine aa 1 fun _=>aO [] [0,0,1,2] trivial fun ud=>ae 4 [3,0] fun _=>ah (Ot (⟨⟨⟨x.o.st.t,x.o.st.r⟩,x.o.seq,x.o.aX,x.o.kind,⟨x.o.node.t,x.o.node.r⟩,⟨0,0⟩,⟨#[]⟩,x.o.prop,x.o.val⟩,x.A,x.c⟩:aT) x) [] qpq ?_
          rintro _ _ ⟨rfl,rfl⟩
          refine aa 1 fun _=>aG 97 (oN (⟨⟨⟨x.o.st.t,x.o.st.r⟩,x.o.seq,x.o.aX,x.o.kind,⟨x.o.node.t,x.o.node.r⟩,⟨0,0⟩,⟨#[]⟩,x.o.prop,x.o.val⟩,x.A,x.c⟩:aT).o x.o) (fun D5=>?_) (fun D5=>?_)
          ·have hq:(x.o.par=root∧x.o.key=⟨#[]⟩):=(FJ x.o).mp D5
           clear D5
           refine ae 4 [0,0] fun _=>ah (VO x.o.prop x.o.val) [] cJ ?_
           rintro _ _ ⟨rfl,rfl⟩
           refine aa 4 fun _=>a_ [] ⟨kt (.bool (decide ((xK x.o.prop x.o.val)=0))) (dP qa6),kr⟩
          ·have hq: ¬ (x.o.par=root∧x.o.key=⟨#[]⟩):=fun e=>D5 ((FJ x.o).mpr e)
           clear D5
           refine aa 9 fun _=>WZ
         ·refine aa 6 fun _=>WZ

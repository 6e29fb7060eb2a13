/- For the law of worlds: What functions do; What lies in memory. -/
import Derived.Test.YtfookmefmjhonaaGreatZ14
set_option linter.all false
namespace Go.Proofs.YtfookmefmjhonaaGreat.My
open Go.RowKit Go.bE
def gG {α:Type} {p:α→Prop} {l:List α} {k:Nat} {x:α} (h: ∀y∈l.take k,p y) (hx:l[k]? =some x) (h2:p x): ∀y∈l.take (k+1),p y:=by
 exact qib
def BG {α:Type} {p:α→Prop} {l:List α} {k:Nat} (h: ∀y∈l.take k,p y) (hk:l.length≤k): ∀y∈l,p y:=by
 rw [cA hk] at h;exact h
def V2 {α:Type} (l:List α) (p:α→Prop):Prop:= ∀x∈l,p x
noncomputable instance ahN {α:Type} (l:List α) (p:α→Prop):Decidable (V2 l p):=Classical.propDecidable _
def _6 (a b:Int):Ct Cp 38 #[iv a,iv b] (fun _=>True) [] (fun v Cs=>v=.bool (decide ((1≤b∧b≤16)∧0≤a∧a≤b-1))∧Cs= []):=by
 refine cc Tryz.func38 fun w0 hp=>aa 9 fun _=>aG 7 (b≥1) (fun h1=>?_) (fun h1=>?_)
 ·refine aa 4 fun _=>aG 11 (b≤16) (fun h2=>?_) (fun h2=>?_)
  ·refine aa 3 fun _=>ao 14 (b-1)<|ah (num a (b-1)) [] cJ ?_
   rintro _ _ ⟨rfl,rfl⟩
   refine aa 3 fun _=>a_ [] ⟨kt (.bool (decide (0≤a∧a≤(b-1)))) (dP X5),kr⟩
  ·refine aa 7 fun _=>X6
 ·refine aa 11 fun _=>X6
def iz (aU:OA) (bb:Nat) (xs:List aT) (n:Int):Ct Cp 39 #[sl aU xs.length bb,iv n] (fun w=>ir aU xs w) [] (fun v Cs=>v=.bool (decide (V2 xs (fun x=>bV x.o∧(x.o.aX.length:Int)=n)))∧Cs= []):=by
 refine cc Tryz.func39 fun w0 hp=>aa 10 fun _=>aR (σ:=Nat) (fun k=> [(0,sl aU xs.length bb),(1,iv n),(5,iv k)]) (fun k=> []) (fun k=>k≤xs.length∧ ∀x∈xs.take k,bV x.o∧(x.o.aX.length:Int)=n) (fun k=>xs.length-k) 0 [] ⟨bh _,by simp⟩ ?_
 rintro _ k ⟨hk,hy⟩ aB
 refine aa 8 fun _=>aq ((k:Int)<(xs.length:Int)) (fun h1=>?_) (fun h1=>?_)
 ·refine aa 7 fun _=>aV aU xs.length (k:Int) 12 qe9 ?_
  obtain ⟨x2,e3⟩:=aw (xs:=xs) (k:=k) (by omega)
  refine bd 56 (ad aU (k*12) 0) (.agg (aT.cells x2).toArray) qjk<|ah (rop x2) [] qo3 ?_
  rintro _ _ ⟨rfl,rfl⟩
  refine aa 2 fun _=>eV 18 (bV x2.o) (fun h4=>?_) (fun h4=>?_)
  ·refine aa 15 fun _=>qj0
  ·refine aa 2 fun _=>aV aU xs.length (k:Int) 12 qe9<|aa 1 fun _=>bd 32 (ad aU (k*12) 3) (sl x2.A x2.o.aX.length x2.c) (fun w h=>bW (K:=bx) (hp.2.1.aE h.ch) e3)<|aa 5 fun _=>cU ((x2.o.aX.length:Int)=n) (fun h5=>?_) (fun h5=>?_)
   ·refine aa 4 fun _=>qj0
   ·refine aa 5 fun _=>ao (e:=by have:=hp.1;omega) 11 ((k:Int)+1)<|aa 2 fun _=>aB _ (k+1) [] kr ⟨by omega,gG hy e3 (by simp_all)⟩ (by omega)
 ·refine aa 5 fun _=>a_ [] ⟨kt (.bool true) (dP (dt (BG hy (by omega)))),kr⟩
def AI (a b:bz):oN a b↔a=b:=by
 cases a;cases b
 simp [oN]
def Tp (a b:cD):(a.d=b.d)=(a.x.o=b.x.o∧a.kW=b.kW∧a.par=b.par∧a.key=b.key∧a.idle=b.idle):=by
 cases a;cases b
 simp [cD.d]
def JO (a b:bj):(a.d=b.d)=(a.id=b.id∧a.bX=b.bX):=by
 cases a;cases b
 simp [bj.d]
def JP (a b:oe):(a.d=b.d)=(a.ns=b.ns∧a.ms.map cD.d=b.ms.map cD.d):=by
 cases a;cases b
 simp [oe.d]
def JQ (a b:sV):(a.d=b.d)=(a.tr.d=b.tr.d∧a.ls.map bj.d=b.ls.map bj.d):=by
 cases a;cases b
 simp [sV.d]
def JR {α β:Type} {f:α→β} {xs ys:List α} {k:Nat} {x y:α} (h:(xs.take k).map f=(ys.take k).map f) (hx:xs[k]? =some x) (hy:ys[k]? =some y) (e:f x=f y):(xs.take (k+1)).map f=(ys.take (k+1)).map f:=by
 rw [← bp hx,← bp hy,cT,cT,h]
 simp [e]
def Tq {α β:Type} {f:α→β} {xs ys:List α} {k:Nat} {x y:α} (hx:xs[k]? =some x) (hy:ys[k]? =some y) (e: ¬f x=f y): ¬xs.map f=ys.map f:=by
 intro h
 have:=congrArg (fun l=>l[k]?) h
 simp only [fk,hx,hy,Option.map_some,a9] at this
 exact e this
def Oo {α β:Type} {f:α→β} {xs ys:List α} (h: ¬xs.length=ys.length): ¬xs.map f=ys.map f:=fun e=>h (by have:=congrArg List.length e;simpa using this)
def Gn (x:cD):Ct Cp 176 #[.agg (cD.cells x).toArray] (fun w=>x.Rd w) [] (fun v Cs=> ∃A c,v=.agg #[iv x.x.o.st.t,iv x.x.o.st.r,iv x.x.o.seq,sl A x.x.o.aX.length c,iv x.x.o.kind,iv x.x.o.node.t,iv x.x.o.node.r,iv x.x.o.par.t,iv x.x.o.par.r,.string x.x.o.key,iv x.x.o.prop,iv x.x.o.val,.bool x.kW,iv x.par.t,iv x.par.r,.string x.key,.bool x.idle]∧Cs= [az.row A c x.x.o.aX]):=by
 refine cc Tryz.func176 fun w0 hp=>ae 15 [0,2,0] fun a8=>ah (xS x.x) [] (fun w h=>((show aT.Rd _ _ from hp).aE h.ch)) ?_
 exact qfx
def Gp (aU:OA) (bb:Nat) (xs:List cD):Ct Cp 133 #[sl aU xs.length bb] (fun w=>r6 aU xs w) [] (fun v Cs=> ∃A c ys,v=sl A ys.length c∧ys.map cD.d=xs.map cD.d∧Cs= [gq.row A c ys,aM.all (ys.map cD.own)]):=by
 refine cc Tryz.func133 fun w0 hp=>aa 14 fun _=>bG gq<|dQ<|aR (σ:=Nat×OA×Nat×List cD) WA (fun (k,B,d,ys)=> [.k (gq.row B d ys),.k (aM.all (ys.map cD.own))]) (fun (k,B,d,ys)=>k≤xs.length∧ys.length=k∧ys.map cD.d=(xs.take k).map cD.d) (fun (k,B,d,ys)=>xs.length-k) (0,none,0,[]) [0,1] ⟨bh _,rfl,rfl⟩ ?_
 rintro _ ⟨k,B,d,ys⟩ ⟨hk,hl,hy⟩ aB
 refine aa 8 fun _=>aq ((k:Int)<(xs.length:Int)) (fun h1=>?_) (fun h1=>?_)
 ·refine aa 7 fun _=>aV aU xs.length (k:Int) 17 (fun w h=>Kd.cd (K:=gq) (xs:=xs) (hp.2.1.aE h.ch) (by omega)) ?_
  obtain ⟨x2,e3⟩:=aw (xs:=xs) (k:=k) (by omega)
  refine bd 187 (ad aU (k*17) 0) (.agg (cD.cells x2).toArray) (fun w h=>bN (K:=gq) (hp.2.1.aE h.ch) e3)<|ah (Gn x2) [] (fun w h=>(show cD.Rd _ _ from (hp.2.2 x2 (aI e3)).aE h.ch)) ?_
  rintro _ _ ⟨A4,c5,rfl,rfl⟩
  refine aa 1 fun pW=>bQ gq 0 B d ys (so (pW 0)) 1 1 [(⟨(⟨x2.x.o,A4,c5⟩:aT),x2.kW,⟨x2.par.t,x2.par.r⟩,x2.key,x2.idle⟩:cD)] (fun w h=>h.eT 3 (pW 0) 187 (List.flatMap gq.f [(⟨(⟨x2.x.o,A4,c5⟩:aT),x2.kW,⟨x2.par.t,x2.par.r⟩,x2.key,x2.idle⟩:cD)]) kr) qky fun A7 c8=>aa 6 fun _=>ao (e:=by have:=hp.1;omega) 10 ((k:Int)+1)<|aa 2 fun _=>eD cD.own 2 1 ys (⟨(⟨x2.x.o,A4,c5⟩:aT),x2.kW,⟨x2.par.t,x2.par.r⟩,x2.key,x2.idle⟩:cD) kr<|aB _ (k+1,A7,c8,ys++ [(⟨(⟨x2.x.o,A4,c5⟩:aT),x2.kW,⟨x2.par.t,x2.par.r⟩,x2.key,x2.idle⟩:cD)]) [0,4] kr ⟨by omega,by simp [hl],by subst hl;exact kB hy e3 rfl⟩ du
 ·exact qd8
def JS (x:bj):Ct Cp 174 #[.agg #[iv x.id.t,iv x.id.r,sl x.A x.bX.length x.c]] (fun w=>x.Rd w) [] (fun v Cs=> ∃A c,v=.agg #[iv x.id.t,iv x.id.r,sl A x.bX.length c]∧Cs= [eH.row A c x.bX]):=by
 refine cc Tryz.func174 fun w0 hp=>ae 15 [0,2,0] fun a8=>ah (JT x.A x.c x.bX hp.1) [] Nh ?_
 exact qfx
def Gq (aU:OA) (bb:Nat) (xs:List bj):Ct Cp 129 #[sl aU xs.length bb] (fun w=>oX aU xs w) [] (fun v Cs=> ∃A c ys,v=sl A ys.length c∧ys.map bj.d=xs.map bj.d∧Cs= [eS.row A c ys,aM.all (ys.map bj.own)]):=by
 refine cc Tryz.func129 fun w0 hp=>aa 14 fun _=>bG eS<|dQ<|aR (σ:=Nat×OA×Nat×List bj) WA (fun (k,B,d,ys)=> [.k (eS.row B d ys),.k (aM.all (ys.map bj.own))]) (fun (k,B,d,ys)=>k≤xs.length∧ys.length=k∧ys.map bj.d=(xs.take k).map bj.d) (fun (k,B,d,ys)=>xs.length-k) (0,none,0,[]) [0,1] ⟨bh _,rfl,rfl⟩ ?_
 rintro _ ⟨k,B,d,ys⟩ ⟨hk,hl,hy⟩ aB
 refine aa 8 fun _=>aq ((k:Int)<(xs.length:Int)) (fun h1=>?_) (fun h1=>?_)
 ·refine aa 7 fun _=>aV aU xs.length (k:Int) 3 qlt ?_
  obtain ⟨x2,e3⟩:=aw (xs:=xs) (k:=k) (by omega)
  refine bd 152 (ad aU (k*3) 0) (.agg #[iv x2.id.t,iv x2.id.r,sl x2.A x2.bX.length x2.c]) (fun w h=>bN (K:=eS) (hp.2.1.aE h.ch) e3)<|ah (JS x2) [] (fun w h=>(show bj.Rd _ _ from (hp.2.2 x2 (aI e3)).aE h.ch)) ?_
  rintro _ _ ⟨A4,c5,rfl,rfl⟩
  refine aa 1 fun pW=>bQ eS 0 B d ys (so (pW 0)) 1 1 [(⟨⟨x2.id.t,x2.id.r⟩,x2.bX,A4,c5⟩:bj)] (fun w h=>h.eT 3 (pW 0) 152 (List.flatMap eS.f [(⟨⟨x2.id.t,x2.id.r⟩,x2.bX,A4,c5⟩:bj)]) kr) qky fun A7 c8=>aa 6 fun _=>ao (e:=by have:=hp.1;omega) 10 ((k:Int)+1)<|aa 2 fun _=>eD bj.own 2 1 ys (⟨⟨x2.id.t,x2.id.r⟩,x2.bX,A4,c5⟩:bj) kr<|aB _ (k+1,A7,c8,ys++ [(⟨⟨x2.id.t,x2.id.r⟩,x2.bX,A4,c5⟩:bj)]) [0,4] kr ⟨by omega,by simp [hl],by subst hl;exact kB hy e3 rfl⟩ du
 ·exact qd8
def tJ (x:oe):Ct Cp 94 #[.agg #[sl x.An x.ns.length x.cn,sl x.Am x.ms.length x.cm]] (fun w=>x.Rd w) [] (fun v Cs=> ∃A c A2 c2 AJ,v=.agg #[sl A x.ns.length c,sl A2 AJ.length c2]∧AJ.map cD.d=x.ms.map cD.d∧Cs= [aP.row A c x.ns,gq.row A2 c2 AJ,aM.all (AJ.map cD.own)]):=by
 refine cc Tryz.func94 fun w0 hp=>ae 15 [0,2,0] fun a8=>ah (wI x.An x.cn x.ns hp.1) [] Tr ?_
 rintro _ _ ⟨A2,c3,rfl,rfl⟩
 refine ae 7 [2,0] fun _=>ah (Gp x.Am x.cm x.ms) [] Yn ?_
 rintro _ _ ⟨A4,c5,ys6,rfl,f7,rfl⟩
 refine ae 8 [2,2,1] fun _=>bk [1] [3,4,5] ⟨A2,c3,A4,c5,ys6,kr,f7,kr⟩
def Gs (x:sV):Ct Cp 92 #[.agg #[sl x.tr.An x.tr.ns.length x.tr.cn,sl x.tr.Am x.tr.ms.length x.tr.cm,sl x.Al x.ls.length x.cl]] (fun w=>x.Rd w) [] (fun v Cs=> ∃A c A2 c2 AJ A3 c3 Gt,v=.agg #[sl A x.tr.ns.length c,sl A2 AJ.length c2,sl A3 Gt.length c3]∧AJ.map cD.d=x.tr.ms.map cD.d∧Gt.map bj.d=x.ls.map bj.d∧Cs= [aP.row A c x.tr.ns,gq.row A2 c2 AJ,aM.all (AJ.map cD.own),eS.row A3 c3 Gt,aM.all (Gt.map bj.own)]):=by
 refine cc Tryz.func92 fun w0 hp=>ae 15 [0,2,0] fun a8=>ah (tJ x.tr) [] (fun w h=>(show oe.Rd _ _ from hp.1.aE h.ch)) ?_
 rintro _ _ ⟨A2,c3,A4,c5,Ts,rfl,f7,rfl⟩
 refine ae 7 [2,0] fun _=>ah (Gq x.Al x.cl x.ls) [] Nh ?_
 rintro _ _ ⟨A8,c9,p7,rfl,f11,rfl⟩
 refine ae 8 [2,2,1] fun _=>bk [1] [3,4,5,6,7] ⟨A2,c3,A4,c5,Ts,A8,c9,p7,kr,f7,f11,kr⟩
def Oq (x y:cD):Ct Cp 96 #[.agg (cD.cells x).toArray,.agg (cD.cells y).toArray] (fun w=>x.Rd w∧y.Rd w) [] (fun v Cs=>v=.bool (decide (x.d=y.d))∧Cs= []):=by
 refine cc Tryz.func96 fun w0 hp=>ae 12 [0,1] fun a8=>ah (Ot x.x y.x) [] (fun w h=>⟨((show aT.Rd _ _ from hp.1).aE h.ch),((show aT.Rd _ _ from hp.2).aE h.ch)⟩) ?_
 rintro _ _ ⟨rfl,rfl⟩
 refine aa 1 fun _=>aG 10 (oN x.x.o y.x.o) (fun h2=>?_) (fun h2=>?_)
 ·refine ae 7 [0,1] fun _=>eg 17 (x.kW==y.kW) (fun h3=>?_) (fun h3=>?_)
  ·refine ae 7 [0,1] fun _=>kL 24 x.par y.par kr (fun h4=>?_) (fun h4=>?_)
   ·refine ae 7 [0,1] fun _=>eg 31 (x.key.toList==y.key.toList) (fun h5=>?_) (fun h5=>?_)
    ·have hk:=h5;simp only [tK,EI] at hk
     refine ae 8 [0,1] fun _=>a_ [] ⟨kt (.bool (x.idle==y.idle)) (dP qud),kr⟩
    ·have hk:=h5;simp only [tK,EI] at hk
     refine aa 8 fun _=>qb6
   ·refine aa 15 fun _=>qb6
  ·refine aa 22 fun _=>qb6
 ·refine aa 29 fun _=>qb6
def Ou (aU:OA) (bb:Nat) (xs:List cD) (mX:OA) (xM:Nat) (ys:List cD):Ct Cp 65 #[sl aU xs.length bb,sl mX ys.length xM] (fun w=>r6 aU xs w∧r6 mX ys w) [] (fun v Cs=>v=.bool (decide (xs.map cD.d=ys.map cD.d))∧Cs= []):=by
 refine cc Tryz.func65 fun w0 hp=>aa 13 fun _=>cU ((xs.length:Int)=(ys.length:Int)) (fun h1=>?_) (fun h1=>?_)
 ·exact qkf
 ·refine aa 7 fun _=>aR (σ:=Nat) Yo (fun k=> []) (fun k=>k≤xs.length∧(xs.take k).map cD.d=(ys.take k).map cD.d) (fun k=>xs.length-k) 0 [] ⟨bh _,rfl⟩ ?_
  rintro _ k ⟨hk,hy⟩ aB
  refine aa 8 fun _=>aq ((k:Int)<(xs.length:Int)) (fun h2=>?_) (fun h2=>?_)
  ·refine aa 4 fun _=>?_
   obtain ⟨x3,e4⟩:=aw (xs:=xs) (k:=k) (by omega)
   obtain ⟨x5,e6⟩:=aw (xs:=ys) (k:=k) (by omega)
   refine aK [(2,_),(3,.agg (cD.cells x3).toArray),(6,_),(7,.agg (cD.cells x5).toArray),(8,.bool (decide (x3.d=x5.d)))] [] ⟨bF aU xs.length (k:Int) 17 (fun w h=>Kd.cd (K:=gq) (xs:=xs) (hp.1.2.1.aE h.ch) (by omega)),cB 187 (ad aU (k*17) 0) (fun w h=>bN (K:=gq) (hp.1.2.1.aE h.ch) e4),bF mX ys.length (k:Int) 17 (fun w h=>Kd.cd (K:=gq) (xs:=ys) (hp.2.2.1.aE h.ch) (by omega)),cB 187 (ad mX (k*17) 0) (fun w h=>bN (K:=gq) (hp.2.2.1.aE h.ch) e6),bT (hp:=fun w h=>⟨(show cD.Rd _ _ from (hp.1.2.2 x3 (aI e4)).aE h.ch),(show cD.Rd _ _ from (hp.2.2.2 x5 (aI e6)).aE h.ch)⟩) (Oq x3 x5) jU,trivial⟩<|qc3
  ·exact Yp
def Tt (x y:oe):Ct Cp 42 #[.agg #[sl x.An x.ns.length x.cn,sl x.Am x.ms.length x.cm],.agg #[sl y.An y.ns.length y.cn,sl y.Am y.ms.length y.cm]] (fun w=>x.Rd w∧y.Rd w) [] (fun v Cs=>v=.bool (decide (x.d=y.d))∧Cs= []):=by
 refine cc Tryz.func42 fun w0 hp=>ae 12 [0,1] fun a8=>ah (Ov x.An x.cn x.ns y.An y.cn y.ns hp.1.1) [] (fun w h=>⟨hp.1.2.1.aE h.ch,hp.2.2.1.aE h.ch⟩) ?_
 rintro _ _ ⟨rfl,rfl⟩
 refine aa 1 fun _=>aG 10 (x.ns=y.ns) (fun h2=>?_) (fun h2=>?_)
 ·refine ae 4 [0,1] fun _=>ah (Ou x.Am x.cm x.ms y.Am y.cm y.ms) [] (fun w h=>⟨hp.1.2.2.aE h.ch,hp.2.2.2.aE h.ch⟩) ?_
  rintro _ _ ⟨rfl,rfl⟩
  refine aa 3 fun _=>a_ [] ⟨kt (.bool (decide (x.ms.map cD.d=y.ms.map cD.d))) (dP (by simp [JP, *])),kr⟩
 ·refine aa 8 fun _=>a_ [] ⟨kt (.bool false) (dP (by simp [JP, *])),kr⟩
def Tu (x y:bj):Ct Cp 66 #[.agg #[iv x.id.t,iv x.id.r,sl x.A x.bX.length x.c],.agg #[iv y.id.t,iv y.id.r,sl y.A y.bX.length y.c]] (fun w=>x.Rd w∧y.Rd w) [] (fun v Cs=>v=.bool (decide (x.d=y.d))∧Cs= []):=by
 refine cc Tryz.func66 fun w0 hp=>ae 14 [0,1] fun a8=>kL 10 x.id y.id kr (fun h2=>?_) (fun h2=>?_)
 ·refine ae 4 [0,1] fun _=>ah (Tv x.A x.c x.bX y.A y.c y.bX hp.1.1) [] qi2 ?_
  rintro _ _ ⟨rfl,rfl⟩
  refine aa 3 fun _=>a_ [] ⟨kt (.bool (decide (x.bX=y.bX))) (dP (by simp [JO, *])),kr⟩
 ·refine aa 8 fun _=>a_ [] ⟨kt (.bool false) (dP (by simp [JO, *])),kr⟩
def Ow (aU:OA) (bb:Nat) (xs:List bj) (mX:OA) (xM:Nat) (ys:List bj):Ct Cp 43 #[sl aU xs.length bb,sl mX ys.length xM] (fun w=>oX aU xs w∧oX mX ys w) [] (fun v Cs=>v=.bool (decide (xs.map bj.d=ys.map bj.d))∧Cs= []):=by
 refine cc Tryz.func43 fun w0 hp=>aa 13 fun _=>cU ((xs.length:Int)=(ys.length:Int)) (fun h1=>?_) (fun h1=>?_)
 ·exact qkf
 ·refine aa 7 fun _=>aR (σ:=Nat) Yo (fun k=> []) (fun k=>k≤xs.length∧(xs.take k).map bj.d=(ys.take k).map bj.d) (fun k=>xs.length-k) 0 [] ⟨bh _,rfl⟩ ?_
  rintro _ k ⟨hk,hy⟩ aB
  refine aa 8 fun _=>aq ((k:Int)<(xs.length:Int)) (fun h2=>?_) (fun h2=>?_)
  ·refine aa 4 fun _=>?_
   obtain ⟨x3,e4⟩:=aw (xs:=xs) (k:=k) (by omega)
   obtain ⟨x5,e6⟩:=aw (xs:=ys) (k:=k) (by omega)
   refine aK [(2,_),(3,.agg #[iv x3.id.t,iv x3.id.r,sl x3.A x3.bX.length x3.c]),(6,_),(7,.agg #[iv x5.id.t,iv x5.id.r,sl x5.A x5.bX.length x5.c]),(8,.bool (decide (x3.d=x5.d)))] [] ⟨bF aU xs.length (k:Int) 3 (fun w h=>Kd.cd (K:=eS) (xs:=xs) (hp.1.2.1.aE h.ch) (by omega)),cB 152 (ad aU (k*3) 0) (fun w h=>bN (K:=eS) (hp.1.2.1.aE h.ch) e4),bF mX ys.length (k:Int) 3 (fun w h=>Kd.cd (K:=eS) (xs:=ys) (hp.2.2.1.aE h.ch) (by omega)),cB 152 (ad mX (k*3) 0) (fun w h=>bN (K:=eS) (hp.2.2.1.aE h.ch) e6),bT (hp:=fun w h=>⟨(show bj.Rd _ _ from (hp.1.2.2 x3 (aI e4)).aE h.ch),(show bj.Rd _ _ from (hp.2.2.2 x5 (aI e6)).aE h.ch)⟩) (Tu x3 x5) jU,trivial⟩<|qc3
  ·exact Yp
def Ox (x y:sV):Ct Cp 21 #[.agg #[sl x.tr.An x.tr.ns.length x.tr.cn,sl x.tr.Am x.tr.ms.length x.tr.cm,sl x.Al x.ls.length x.cl],.agg #[sl y.tr.An y.tr.ns.length y.tr.cn,sl y.tr.Am y.tr.ms.length y.tr.cm,sl y.Al y.ls.length y.cl]] (fun w=>x.Rd w∧y.Rd w) [] (fun v Cs=>v=.bool (decide (x.d=y.d))∧Cs= []):=by
 refine cc Tryz.func21 fun w0 hp=>ae 12 [0,1] fun a8=>ah (Tt x.tr y.tr) [] (fun w h=>⟨(show oe.Rd _ _ from hp.1.1.aE h.ch),(show oe.Rd _ _ from hp.2.1.aE h.ch)⟩) ?_
 rintro _ _ ⟨rfl,rfl⟩
 refine aa 1 fun _=>aG 10 (x.tr.d=y.tr.d) (fun h2=>?_) (fun h2=>?_)
 ·refine ae 4 [0,1] fun _=>ah (Ow x.Al x.cl x.ls y.Al y.cl y.ls) [] qi2 ?_
  rintro _ _ ⟨rfl,rfl⟩
  refine aa 3 fun _=>a_ [] ⟨kt (.bool (decide (x.ls.map bj.d=y.ls.map bj.d))) (dP (by simp [JQ, *])),kr⟩
 ·refine aa 8 fun _=>a_ [] ⟨kt (.bool false) (dP (by simp [JQ, *])),kr⟩
def jL:mG Cp aA id:=⟨kr,fun _=>rfl⟩
def put (aU:OA) (bb:Nat) (xs:List UInt8) (x:Int) (h0:0≤x) (h1:x≤4611686018427387904) (hb:xs.length≤536870912):Ct Cp 169 #[sl aU xs.length bb,iv x] (fun _=>True) [aA.row aU bb xs] (fun v Cs=> ∃A c,v=sl A ((xs++aQ x.toNat).length) c∧Cs= [aA.row A c (xs++aQ x.toNat)]):=by
 refine Fz [.k (aA.row aU bb xs)] Tryz.func169 fun U w0 hp=>aa 4 fun _=>ed 0 (σ:=Int×OA×Nat×List UInt8) (fun (y,B,d,ys)=> [(0,sl B ys.length d),(1,iv y),(4,sl none 0 0)]) (fun (y,B,d,ys)=> [.k (aA.row B d ys)]) (fun (y,B,d,ys)=>0≤y∧y≤4611686018427387904∧ys++aQ y.toNat=xs++aQ x.toNat) (fun (y,B,d,ys)=>y.toNat) ?_ ?_
 ·intro _ cG
  refine aa 2 fun _=>cG _ (x,aU,bb,xs) [0] kr ⟨by omega,by omega,rfl⟩
 ·rintro _ ⟨y,B,d,ys⟩ ⟨nA,hy1,hy⟩ dm
  refine aa 6 fun _=>aq (y≥128) (fun h1=>?_) (fun h1=>?_)
  ·refine aa 6 fun _=>aC 10 (.int .u8 ((UInt8.ofNat (y.toNat % 128+128)).toNat:Int)) (.int .u8 (IntKind.u8.wrap (BitVec.ofInt 8 (IntKind.u8.wrap y)|||BitVec.ofInt 8 128).toNat)) (congrArg (Value.int .u8) (QI (by omega)))<|aa 1 fun ld=>bQ aA 0 B d ys (so (ld 0)) 1 1 [UInt8.ofNat (y.toNat % 128+128)] (fun w h=>h.eT 1 (ld 0) 5 (List.flatMap aA.f [UInt8.ofNat (y.toNat % 128+128)]) kr) qhr fun A3 c4=>aa 6 fun _=>aC 14 (iv (y/128)) (iv (Int.fdiv y (2^7))) (iT (ahu (by omega)))<|aa 2 fun _=>dm _ (y/128,A3,c4,ys++ [UInt8.ofNat (y.toNat % 128+128)]) [0] kr ⟨by omega,by omega,by rw [← hy,xu (n:=y.toNat) (by omega),cH,show (y/128).toNat=y.toNat/128 by omega];rfl⟩ du
  ·refine aa 6 fun _=>aC 17 (.int .u8 ((UInt8.ofNat y.toNat).toNat:Int)) (.int .u8 (IntKind.u8.wrap y)) (congrArg (Value.int .u8) (QJ (by omega)))<|aa 1 fun jn=>bQ aA 0 B d ys (so (jn 0)) 1 1 [UInt8.ofNat y.toNat] (fun w h=>h.eT 1 (jn 0) 5 (List.flatMap aA.f [UInt8.ofNat y.toNat]) kr) qhr fun A6 c7=>aa 2 fun _=>aS aA 0 A6 c7 (ys++ [UInt8.ofNat y.toNat]) (xs++aQ x.toNat) kr qp8<|a_ [2] ⟨A6,c7,kt (sl A6 ((ys++ [UInt8.ofNat y.toNat]).length) c7) qp8,kr⟩
end Go.Proofs.YtfookmefmjhonaaGreat.My
namespace Go.bE
variable {U F:Nat→Prop} {w0 w:World} {rest:List aM}
def ra.ew {A:OA} {cs:List Value} (hr:ra A cs U w0) (h:SF U w0 w F rest):ra A cs F w:=h.aE hr
end Go.bE
namespace Go.Proofs.YtfookmefmjhonaaGreat.My
open Go.RowKit Go.bE
variable {U F:Nat→Prop} {w0 w w':World} {rest:List aM}
def aT.gx (x:aT) (U:Nat→Prop) (w:World):Prop:=x.o.aX.length≤1073741824∧az.gx x.A x.o.aX U w
def aT.gx.rd {x:aT} (h:x.gx U w):x.Rd w:=⟨h.1,h.2.rc⟩
def aT.Rd.u0 {x:aT} (h:x.Rd w):x.gx No w:=⟨h.1,h.2.u0⟩
def aT.gx.aE {x:aT} (h:x.gx U w) (hc:Ch U w w'):x.gx U w':=⟨h.1,h.2.aE hc⟩
def aT.gx.ew {x:aT} (hr:x.gx U w0) (h:SF U w0 w F rest):x.gx F w:=⟨hr.1,hr.2.ew h⟩
def ka (A:OA) (xs:List aT) (U:Nat→Prop) (w:World):Prop:=xs.length≤1073741824∧bx.gx A xs U w∧ ∀x∈xs,x.gx U w
def ka.rd {A:OA} {xs:List aT} (h:ka A xs U w):ir A xs w:=⟨h.1,h.2.1.rc,fun x hx=>(h.2.2 x hx).rd⟩
def ir.u0 {A:OA} {xs:List aT} (h:ir A xs w):ka A xs No w:=⟨h.1,h.2.1.u0,fun x hx=>(h.2.2 x hx).u0⟩
def ka.aE {A:OA} {xs:List aT} (h:ka A xs U w) (hc:Ch U w w'):ka A xs U w':=⟨h.1,h.2.1.aE hc,fun x hx=>(h.2.2 x hx).aE hc⟩
def ka.ew {A:OA} {xs:List aT} (hr:ka A xs U w0) (h:SF U w0 w F rest):ka A xs F w:=⟨hr.1,hr.2.1.ew h,fun x hx=>(hr.2.2 x hx).ew h⟩
end Go.Proofs.YtfookmefmjhonaaGreat.My
namespace Go.Proofs.YtfookmefmjhonaaGreat.My
open Go.RowKit Go.bE
def KV: ∀ {l:List Int},(∀x∈l,0≤x∧x≤4611686018427387904)→(l.flatMap fun x=>aQ x.toNat).length≤9*l.length
 | [],_=>by simp
 |x::l,h=>by
  have h1:=KV (l:=l) fun y hy=>h y (bH _ hy)
  have h2:=h x cE
  have h3:=eB (n:=x.toNat) (by omega)
  rw [iE,bm,dM]
  omega
def oE {l:List Int} (h: ∀x∈l,0≤x∧x≤4611686018427387904) (hl:l.length≤1024):(bS l).length≤9+9*l.length:=by
 have h1:=KV h
 have h2:=eB (n:=l.length) (by omega)
 unfold bS
 rw [bm]
 omega
def Hq {l:List Int} {k:Nat} {x:Int} (hx:l[k]? =some x):((l.take k).flatMap fun x=>aQ x.toNat)++aQ x.toNat=(l.take (k+1)).flatMap fun x=>aQ x.toNat:=by
 rw [← bp hx,List.flatMap_append]
 simp
def ur {l:List Int} (h:dW l): ∀x∈l,0≤x∧x≤4611686018427387904:=fun x hx=>by have:=h.2.2 x hx;omega
def qy {s:cN} (h:bY s):(bB s).length≤18:=by
 have h1:=eB (n:=s.t.toNat) qpp
 have h2:=eB (n:=s.r.toNat) qpp
 exact qor
def yG {s:cN} (h:fL s):(0≤s.t∧s.t≤4611686018427387904)∧0≤s.r∧s.r≤4611686018427387904:=by
 rcases h with h|rfl|rfl
 ·exact qpp
 ·decide
 ·decide
def pz {s:cN} (h:fL s):(bB s).length≤18:=by
 have h0:=yG h
 have h1:=eB (n:=s.t.toNat) (by omega)
 have h2:=eB (n:=s.r.toNat) (by omega)
 exact qor
def fB.val {p v:Int} (h:fB p v): -1≤v∧v≤4611686018427387900:=by
 obtain ⟨h1,h2,h3,h4⟩:=h
 rcases EB ⟨h1,h2⟩ with h|h|h|h|h|h|h|h|h|h|h|h|h|h|h|h|h|h|h<;>subst h<;>simp [low,high] at h3 h4<;>omega
def KW (aU:OA) (bb:Nat) (xs:List UInt8) (nZ:OA) (Bx:Nat) (fE:List Int) (hv: ∀x∈fE,0≤x∧x≤4611686018427387904) (hl:fE.length≤1024) (hb:xs.length≤500000000):hO Cp 170 #[sl aU xs.length bb,sl nZ fE.length Bx] (fun U w=>az.gx nZ fE U w) [aA.row aU bb xs] (fun v Cs=> ∃A c,v=sl A ((xs++bS fE).length) c∧Cs= [aA.row A c (xs++bS fE)]):=by
 refine kz [.k (aA.row aU bb xs)] Tryz.func170 fun U w0 hp=>aa 9 fun _=>ah (put aU bb xs (fE.length:Int) (by omega) (by omega) (by omega)) [0] cJ ?_
 rintro _ _ ⟨A1,c2,rfl,rfl⟩
 refine aa 10 fun _=>aR (σ:=Nat×OA×Nat×List UInt8) (fun (k,B,d,ys)=> [(0,sl B ys.length d),(4,sl none 0 0),(11,sl nZ fE.length Bx),(12,iv (fE.length:Int)),(13,iv k)]) (fun (k,B,d,ys)=> [.k (aA.row B d ys)]) (fun (k,B,d,ys)=>k≤fE.length∧ys=(xs++aQ fE.length)++(fE.take k).flatMap fun x=>aQ x.toNat) (fun (k,B,d,ys)=>fE.length-k) (0,A1,c2,xs++aQ (fE.length:Int).toNat) [1] ⟨bh _,by simp⟩ ?_
 rintro _ ⟨k,B,d,ys⟩ ⟨hk,hy⟩ aB
 refine aa 5 fun _=>aq ((k:Int)<(fE.length:Int)) (fun h3=>?_) (fun h3=>?_)
 ·refine aa 5 fun _=>aV nZ fE.length (k:Int) 1 (fun w h=>Kd.cd (K:=az) (xs:=fE) ((hp.aE h.ch).rc) (by omega)) ?_
  obtain ⟨x4,e5⟩:=aw (xs:=fE) (k:=k) (by omega)
  refine bd 3 (ad nZ (k*1) 0) (iv x4) (fun w h=>bW (K:=az) ((hp.aE h.ch).rc) e5)<|aa 5 fun _=>ah (put B d ys x4 (by have:=hv _ (aI e5);omega) (by have:=hv _ (aI e5);omega) (by have:=congrArg List.length hy;simp only [bm] at this;have:=eB (n:=fE.length) (by omega);have:=KV (l:=fE.take k) fun y hy=>hv y (gU hy);rw [b0] at this;omega)) [0] cJ ?_
  rintro _ _ ⟨A6,c7,rfl,rfl⟩
  refine aa 5 fun _=>ao 20 ((k:Int)+1)<|aa 2 fun _=>aB _ (k+1,A6,c7,ys++aQ x4.toNat) [1] kr ⟨by omega,by rw [hy,cH,Hq e5]⟩ du
 ·refine aa 6 fun _=>aS aA 0 B d ys (xs++bS fE) kr (by rw [hy,cA (by omega),cH];rfl)<|a_ [1] ⟨B,d,kt (sl B ys.length d) (by rw [show ys=xs++bS fE from by rw [hy,cA (by omega),cH];rfl]),kr⟩
def uz (aU:OA) (bb:Nat) (xs:List UInt8) (x:cN) (h0:0≤x.t∧x.t≤4611686018427387904) (h1:0≤x.r∧x.r≤4611686018427387904) (hb:xs.length≤500000000):Ct Cp 216 #[sl aU xs.length bb,bZ.V x] (fun _=>True) [aA.row aU bb xs] (fun v Cs=> ∃A c,v=sl A ((xs++bB x).length) c∧Cs= [aA.row A c (xs++bB x)]):=by
 refine Fz [.k (aA.row aU bb xs)] Tryz.func216 fun U w0 hp=>aa 6 fun a8=>aO [(3,_),(6,_)] [1,1] ⟨aY (fun vs=>put aU bb xs x.t (by omega) (by omega) qk2) [0] (fun vs=>sl (ak (vs 3)) ((xs++aQ x.t.toNat).length) (an (vs 3))) [fun vs=>.k (aA.row (ak (vs 3)) (an (vs 3)) (xs++aQ x.t.toNat))] nE kA,aY (fun vs=>put (ak (vs 3)) (an (vs 3)) (xs++aQ x.t.toNat) x.r (by omega) (by omega) qk2) [2] (fun vs=>sl (ak (vs 6)) (((xs++aQ x.t.toNat)++aQ x.r.toNat).length) (an (vs 6))) [fun vs=>.k (aA.row (ak (vs 6)) (an (vs 6)) ((xs++aQ x.t.toNat)++aQ x.r.toNat))] nE kA,trivial⟩ fun v8=>aS aA 3 (ak (v8 6)) (an (v8 6)) ((xs++aQ x.t.toNat)++aQ x.r.toNat) (xs++bB x) kr qsh<|a_ [4] ⟨ak (v8 6),an (v8 6),kt (sl (ak (v8 6)) (((xs++aQ x.t.toNat)++aQ x.r.toNat).length) (an (v8 6))) qsh,kr⟩
def Ps (aU:OA) (bb:Nat) (xs:List UInt8) (z:ByteArray) (hz:z.size≤65536) (hb:xs.length≤400000000):Ct Cp 217 #[sl aU xs.length bb,.string z] (fun _=>True) [aA.row aU bb xs] (fun v Cs=> ∃A c,v=sl A ((xs++ig z).length) c∧Cs= [aA.row A c (xs++ig z)]):=by
 refine Fz [.k (aA.row aU bb xs)] Tryz.func217 fun U w0 hp=>aa 9 fun _=>ah (put aU bb xs (z.size:Int) (by omega) (by omega) (by omega)) [0] cJ ?_
 rintro _ _ ⟨A1,c2,rfl,rfl⟩
 refine aa 1 fun _=>dN (φ:=A1.isSome=true) (fun w h=>Kd.cd (K:=aA) (h.bg 1 A1 c2 (xs++aQ (z.size:Int).toNat) kr) (by have:=g_ (z.size:Int).toNat;simp only [bm];omega)) fun hs5=>Dy aA 1 A1 c2 (xs++aQ (z.size:Int).toNat) z.data.toList 90 9 (.string z) qrj (by simp only [bm];have:=eB (n:=(z.size:Int).toNat) (by omega);have e:z.data.toList.length=z.size:=(by simp);omega) (.inl hs5) fun A3 c4=>aC 10 (sl A3 ((xs++aQ (z.size:Int).toNat++z.data.toList).length) c4) (sl A3 ((xs++aQ (z.size:Int).toNat).length+z.data.toList.length) c4) qpt<|aa 2 fun _=>aS aA 1 A3 c4 (xs++aQ (z.size:Int).toNat++z.data.toList) (xs++ig z) kr qsh<|a_ [2] ⟨A3,c4,kt (sl A3 ((xs++aQ (z.size:Int).toNat++z.data.toList).length) c4) qsh,kr⟩
def KX (aU:OA) (bb:Nat) (xs:List UInt8) (x:aT) (hm:bV x.o) (hb:xs.length≤300000000):hO Cp 171 #[sl aU xs.length bb,bx.V x] (fun U w=>x.gx U w) [aA.row aU bb xs] (fun v Cs=> ∃A c,v=sl A ((xs++iL x.o).length) c∧Cs= [aA.row A c (xs++iL x.o)]):=by
 refine kz [.k (aA.row aU bb xs)] Tryz.func171 fun U w0 hp=>?_
 have ji:=hm.1;have IK:=hm.2.1;have zX:=hm.2.2.2.1;unfold bY at ji zX;have hl:=IK.2.1
 have Xf:=qy hm.1;have It:=oE (ur IK) (by omega);have YM:=qy hm.2.2.2.1;have Gz:x.o.kind=1∨x.o.kind=2:=hm.2.2.2.2.2.2.elim (fun h=>.inl h.1) fun h=>.inr h.1
 have hl4:=eB (n:=x.o.kind.toNat) (by omega)
 have h1:x.o.kind=1→fL x.o.par∧jX x.o.key:=fun h=>hm.2.2.2.2.2.2.elim (fun k=>⟨k.2.1,k.2.2.1⟩) fun k=>by omega
 have h2: ¬x.o.kind=1→(0≤x.o.prop∧x.o.prop<19)∧ -1≤x.o.val∧x.o.val≤4611686018427387900:=fun h=>hm.2.2.2.2.2.2.elim (fun k=>absurd k.1 h) fun k=>⟨⟨k.2.1.1,k.2.1.2.1⟩,k.2.1.val⟩
 refine aa 6 fun a8=>aO [(3,_),(6,_)] [1,1] ⟨aY (fun vs=>uz aU bb xs x.o.st (by omega) (by omega) RY) [0] (fun vs=>sl (ak (vs 3)) ((xs++bB x.o.st).length) (an (vs 3))) [fun vs=>.k (aA.row (ak (vs 3)) (an (vs 3)) (xs++bB x.o.st))] nE kA,fJ (fun vs=>KW (ak (vs 3)) (an (vs 3)) (xs++bB x.o.st) x.A x.c x.o.aX (ur hm.2.1) (by omega) RY) [2] (fun vs=>sl (ak (vs 6)) (((xs++bB x.o.st)++bS x.o.aX).length) (an (vs 6))) [fun vs=>.k (aA.row (ak (vs 6)) (an (vs 6)) ((xs++bB x.o.st)++bS x.o.aX))] qm7 kA,trivial⟩ fun v8=>aa 1 fun _=>aO [(3,_),(6,_)] [1,1] ⟨aY (fun vs=>put (ak (v8 6)) (an (v8 6)) ((xs++bB x.o.st)++bS x.o.aX) x.o.kind (by omega) (by omega) RY) [3] (fun vs=>sl (ak (vs 3)) ((((xs++bB x.o.st)++bS x.o.aX)++aQ x.o.kind.toNat).length) (an (vs 3))) [fun vs=>.k (aA.row (ak (vs 3)) (an (vs 3)) (((xs++bB x.o.st)++bS x.o.aX)++aQ x.o.kind.toNat))] nE kA,aY (fun vs=>uz (ak (vs 3)) (an (vs 3)) (((xs++bB x.o.st)++bS x.o.aX)++aQ x.o.kind.toNat) x.o.node (by omega) (by omega) RY) [4] (fun vs=>sl (ak (vs 6)) (((((xs++bB x.o.st)++bS x.o.aX)++aQ x.o.kind.toNat)++bB x.o.node).length) (an (vs 6))) [fun vs=>.k (aA.row (ak (vs 6)) (an (vs 6)) ((((xs++bB x.o.st)++bS x.o.aX)++aQ x.o.kind.toNat)++bB x.o.node))] nE kA,trivial⟩ fun lQ=>ae 7 [1] fun _=>aq (x.o.kind=1) (fun AF=>?_) (fun AF=>?_)
 ·have hk:=AF;have hq:=yG (h1 hk).1;have hl5:=pz (h1 hk).1
  refine aa 1 fun _=>aO [(3,_),(6,_)] [1,1] ⟨aY (fun vs=>uz (ak (lQ 6)) (an (lQ 6)) ((((xs++bB x.o.st)++bS x.o.aX)++aQ x.o.kind.toNat)++bB x.o.node) x.o.par (by omega) (by omega) RY) [5] (fun vs=>sl (ak (vs 3)) ((((((xs++bB x.o.st)++bS x.o.aX)++aQ x.o.kind.toNat)++bB x.o.node)++bB x.o.par).length) (an (vs 3))) [fun vs=>.k (aA.row (ak (vs 3)) (an (vs 3)) (((((xs++bB x.o.st)++bS x.o.aX)++aQ x.o.kind.toNat)++bB x.o.node)++bB x.o.par))] nE kA,aY (fun vs=>Ps (ak (vs 3)) (an (vs 3)) (((((xs++bB x.o.st)++bS x.o.aX)++aQ x.o.kind.toNat)++bB x.o.node)++bB x.o.par) x.o.key (by have:=(h1 hk).2.2.1;omega) RY) [6] (fun vs=>sl (ak (vs 6)) (((((((xs++bB x.o.st)++bS x.o.aX)++aQ x.o.kind.toNat)++bB x.o.node)++bB x.o.par)++ig x.o.key).length) (an (vs 6))) [fun vs=>.k (aA.row (ak (vs 6)) (an (vs 6)) ((((((xs++bB x.o.st)++bS x.o.aX)++aQ x.o.kind.toNat)++bB x.o.node)++bB x.o.par)++ig x.o.key))] nE kA,trivial⟩ fun ud=>aS aA 7 (ak (ud 6)) (an (ud 6)) ((((((xs++bB x.o.st)++bS x.o.aX)++aQ x.o.kind.toNat)++bB x.o.node)++bB x.o.par)++ig x.o.key) (xs++iL x.o) kr qfe<|a_ [8] ⟨ak (ud 6),an (ud 6),kt (sl (ak (ud 6)) (((((((xs++bB x.o.st)++bS x.o.aX)++aQ x.o.kind.toNat)++bB x.o.node)++bB x.o.par)++ig x.o.key).length) (an (ud 6))) qfe,kr⟩
 ·have hq:=h2 AF;have hl5:=eB (n:=x.o.prop.toNat) (by omega)
  refine aa 2 fun _=>aO [(3,_),(6,_),(7,_)] [1,1] ⟨aY (fun vs=>put (ak (lQ 6)) (an (lQ 6)) ((((xs++bB x.o.st)++bS x.o.aX)++aQ x.o.kind.toNat)++bB x.o.node) x.o.prop (by omega) (by omega) RY) [5] (fun vs=>sl (ak (vs 3)) ((((((xs++bB x.o.st)++bS x.o.aX)++aQ x.o.kind.toNat)++bB x.o.node)++aQ x.o.prop.toNat).length) (an (vs 3))) [fun vs=>.k (aA.row (ak (vs 3)) (an (vs 3)) (((((xs++bB x.o.st)++bS x.o.aX)++aQ x.o.kind.toNat)++bB x.o.node)++aQ x.o.prop.toNat))] nE kA,fc (fun vs=>x.o.val+1),aY (fun vs=>put (ak (vs 3)) (an (vs 3)) (((((xs++bB x.o.st)++bS x.o.aX)++aQ x.o.kind.toNat)++bB x.o.node)++aQ x.o.prop.toNat) (x.o.val+1) (by omega) (by omega) RY) [6] (fun vs=>sl (ak (vs 7)) (((((((xs++bB x.o.st)++bS x.o.aX)++aQ x.o.kind.toNat)++bB x.o.node)++aQ x.o.prop.toNat)++aQ (x.o.val+1).toNat).length) (an (vs 7))) [fun vs=>.k (aA.row (ak (vs 7)) (an (vs 7)) ((((((xs++bB x.o.st)++bS x.o.aX)++aQ x.o.kind.toNat)++bB x.o.node)++aQ x.o.prop.toNat)++aQ (x.o.val+1).toNat))] nE kA,trivial⟩ fun v30=>aS aA 7 (ak (v30 7)) (an (v30 7)) ((((((xs++bB x.o.st)++bS x.o.aX)++aQ x.o.kind.toNat)++bB x.o.node)++aQ x.o.prop.toNat)++aQ (x.o.val+1).toNat) (xs++iL x.o) kr qfe<|a_ [8] ⟨ak (v30 7),an (v30 7),kt (sl (ak (v30 7)) (((((((xs++bB x.o.st)++bS x.o.aX)++aQ x.o.kind.toNat)++bB x.o.node)++aQ x.o.prop.toNat)++aQ (x.o.val+1).toNat).length) (an (v30 7))) qfe,kr⟩

/- For the law of worlds: What functions do. -/
import Derived.Test.YtfookmefmjhonaaGreatZ41
set_option linter.all false
namespace Go.Proofs.YtfookmefmjhonaaGreat.My
open Go.RowKit Go.bE
def PI {ns:List Nd} {id:cN} {k:Nat} {n:Nd} (h: ∀m∈ns.take k,m.id≠id) (hn:ns[k]? =some n) (e:n.id=id):dZ ns id=some n:=by
 have h1:dZ (ns.take k) id=none:=iQ.2 h
 have hk:=(aN.1 hn).1
 have h2:ns.drop k=n::ns.drop (k+1):=by rw [fI hk,(aN.1 hn).2]
 unfold dZ at*
 rw [← List.take_append_drop k ns,List.find?_append,h1,h2,List.find?_cons]
 simp [e]
def PJ {ns:List Nd} {id x:cN} {n:Nd} {m:Nat} (h: ¬x=id) (hf:dZ ns x=some n):km ns id (m+1) x=km ns id m n.par:=by
 rw [km,if_neg h,hf]
def PK {ns:List Nd} {id x:cN} {m:Nat} (h: ¬x=id) (hf: ∀y∈ns,y.id≠x):km ns id (m+1) x=false:=by
 rw [km,if_neg h,iQ.2 hf]
def KJ {ns:List Nd} {id x:cN} {m:Nat} (h:x=id):km ns id (m+1) x=true:=by rw [km,if_pos h]
def Li (e:Int):Ct Cp 8 #[iv e] (fun _=>True) [] (fun v Cs=>v=iv e∧Cs= []):=by
 refine cc Tryz.func8 fun w0 hp=>aa 9 fun _=>Nc
def RO (aL:OA) (aZ:Nat) (ns:List Nd) (id:cN) (hl:ns.length≤1073741824):Ct Cp 219 #[sl aL ns.length aZ,bZ.V id] (fun w=>aP.Rd aL ns w) [] (fun v Cs=>(∃(i:Nat) (n:Nd),v=iv i∧ns[i]? =some n∧dZ ns id=some n∧Cs= [])∨(v=iv (-1)∧(∀m∈ns,m.id≠id)∧Cs= [])):=by
 refine cc Tryz.func219 fun w0 hp=>aa 11 fun a8=>aR (σ:=Nat) (fun k=> [(0,sl aL ns.length aZ),(3,pv (a8 2)),(4,iv 0),(5,iv k)]) (fun k=> [.b (a8 2) 29 [iv id.t,iv id.r]]) (fun k=>k≤ns.length∧ ∀m∈ns.take k,m.id≠id) (fun k=>ns.length-k) 0 [0] ⟨bh _,by simp⟩ ?_
 rintro _ k ⟨hk,wR⟩ aB
 refine aa 8 fun _=>aq ((k:Int)<(ns.length:Int)) (fun h2=>?_) (fun h2=>?_)
 ·refine aa 4 fun _=>?_
  obtain ⟨x3,e4⟩:=aw (xs:=ns) (k:=k) (by omega)
  refine aK [(2,_),(4,bZ.V x3.id)] [0] ⟨bF aL ns.length (k:Int) 5 qmg,cB 29 (ad aL (k*5) 0) (fun w h=>iy (K:=aP) (o:=0) (m:=2) (sub:= [iv x3.id.t,iv x3.id.r]) (hp.aE h.ch) e4),trivial⟩<|Bj x3.id id kr (fun h5=>?_) (fun h5=>?_)
  ·refine aa 5 fun _=>a_ [] (.inl ⟨k,x3,kr,e4,PI wR e4 h5,kr⟩)
  ·refine aa 5 fun _=>ao 11 ((k:Int)+1)<|aa 2 fun _=>aB _ (k+1) [0] kr ⟨by omega,gG wR e4 h5⟩ (by omega)
 ·refine aa 5 fun _=>a_ [] (.inr ⟨kr,BG wR (by omega),kr⟩)
def RP (aL:OA) (aZ:Nat) (ns:List Nd) (id y:cN) (hl:ns.length≤1073741824):Ct Cp 220 #[sl aL ns.length aZ,bZ.V id,bZ.V y] (fun w=>aP.Rd aL ns w) [] (fun v Cs=>v=.bool (ic ns id y)∧Cs= []):=by
 refine cc Tryz.func220 fun w0 hp=>aa 12 fun a8=>aR (σ:=Nat×cN) (fun (k,z)=> [(0,sl aL ns.length aZ),(4,pv (a8 2)),(5,pv (a8 3)),(6,.bool false),(7,iv k)]) (fun (k,z)=> [.b (a8 2) 29 [iv id.t,iv id.r],.b (a8 3) 29 [iv z.t,iv z.r]]) (fun (k,z)=>k≤ns.length+1∧km ns id (ns.length+1-k) z=ic ns id y) (fun (k,z)=>ns.length+1-k) (0,y) [0,1] ⟨bh _,rfl⟩ ?_
 rintro _ ⟨k,z⟩ ⟨hk,hov⟩ aB
 refine aa 8 fun _=>aq ((k:Int)≤(ns.length:Int)) (fun h2=>?_) (fun h2=>?_)
 ·refine ae 10 [1,0] fun _=>Bj z id kr (fun h3=>?_) (fun h3=>?_)
  ·refine aa 4 fun _=>qf6
  ·refine ae 5 [1] fun _=>ah (RO aL aZ ns z (by omega)) [] il ?_
   rintro _ _ (⟨i5,n6,rfl,f7,f8,rfl⟩|⟨rfl,f9,rfl⟩)
   ·have ou:=(aN.1 f7).1
    refine aa 8 fun _=>aq ((i5:Int)<0) (fun iJ=>?_) (fun iJ=>?_)
    ·exact kp
    ·refine aa 4 fun _=>aV aL ns.length (i5:Int) 5 qmg<|aa 1 fun _=>bd 29 (ad aL (i5*5) 2) (bZ.V n6.par) (fun w h=>iy (K:=aP) (o:=2) (m:=2) (sub:= [iv n6.par.t,iv n6.par.r]) (hp.aE h.ch) f7)<|ae 6 [1] fun _=>ao 14 ((k:Int)+1)<|aa 2 fun _=>aB _ (k+1,n6.par) [0,1] kr ⟨by omega,by rw [← hov,show ns.length+1-k=(ns.length+1- (k+1))+1 by omega];exact (PJ h3 f8).symm⟩ du
   ·refine aa 13 fun _=>a_ [] ⟨kt (.bool false) (by rw [← hov,show ns.length+1-k=(ns.length-k)+1 by omega,PK h3 f9]),kr⟩
 ·refine aa 5 fun _=>qf6
def OW {ns:List Nd} (hs:dI ns) {i:Nat} {m n:Nd} (hm:ns[i]? =some m) (e:n.id=m.id):jH n ns=ns.set i n:=by
 obtain ⟨hi,hg⟩:=aN.1 hm
 have hp:=List.pairwise_iff_getElem.1 hs
 refine EU (id:=m.id) ⟨Nat.le_of_lt hi,fun x hx=>?_,fun x hx=>?_⟩ hm rfl e
 ·obtain ⟨j,hj,rfl⟩:=List.getElem_of_mem hx
  rw [b0] at hj
  rw [List.getElem_take,← hg]
  exact hp j i (by omega) hi (by omega)
 ·obtain ⟨j,hj,rfl⟩:=List.getElem_of_mem hx
  rw [cL] at hj
  rw [List.getElem_drop,← hg]
  by_cases h:j=0
  ·subst h;exact slt.RH _
  ·exact (hp i (i+j) hi (by omega) (by omega)).asymm
def OX {ns:List Nd} (hs:dI ns) {k:Nat} {y n:Nd} (hy:ns[k]? =some y) (h1: ∀m∈ns.take k,slt m.id n.id) (h2:0<bl y.id n.id):jH n ns=ns.take k++n::ns.drop k:=by
 obtain ⟨hi,hg⟩:=aN.1 hy
 have hp:=List.pairwise_iff_getElem.1 hs
 have hl:slt n.id y.id:=(tU _ _).1 h2
 refine yh (id:=n.id) ⟨Nat.le_of_lt hi,h1,fun x hx=>?_⟩ (fun m hm e=>?_) rfl
 ·obtain ⟨j,hj,rfl⟩:=List.getElem_of_mem hx
  rw [cL] at hj
  rw [List.getElem_drop]
  by_cases h:j=0
  ·subst h;rw [← hg] at hl;exact hl.asymm
  ·rw [← hg] at hl;exact (hl.trans (hp k (k+j) hi (by omega) (by omega))).asymm
 ·rw [hy] at hm;injection hm with hm;subst hm;exact hl.ne e.symm
def OY {ns:List Nd} {n:Nd} (h1: ∀m∈ns,slt m.id n.id):jH n ns=ns++ [n]:=by
 have h:=yh (ns:=ns) (id:=n.id) (i:=ns.length) ⟨bO _,(by rw [List.take_length];exact h1),(by rw [List.drop_length];intro m hm;cases hm)⟩ (by intro m hm;rw [List.getElem?_eq_none (bO _)] at hm;cases hm) rfl
 rw [h,List.take_length,List.drop_length]
def gy {α:Type} {l:List α} {k:Nat} {x:α} (h:l[k]? =some x):l.drop k=x::l.drop (k+1):=by
 rw [fI (aN.1 h).1,(aN.1 h).2]
structure kP (N:Nd) (ns:List Nd) (k:Nat) (b:Bool) (m:List Nd):Prop where
 kl:k≤ns.length
 no:b=false→m=ns.take k∧ ∀y∈ns.take k,slt y.id N.id
 yes:b=true→m++ns.drop k=jH N ns
 len:m.length≤k+1
def kP.nil (N:Nd) (ns:List Nd):kP N ns 0 false []:=⟨bh _,fun _=>⟨rfl,by simp⟩,by simp,by simp⟩
def kP.go {N:Nd} {ns:List Nd} {k:Nat} {b:Bool} {m:List Nd} (h:kP N ns k b m) {y:Nd} (hy:ns[k]? =some y) (hb:(!b)=false):kP N ns (k+1) b (m++ [y]):=by
 have hb:b=true:=by simpa using hb
 subst hb
 refine ⟨(aN.1 hy).1,by simp,fun _=>?_,by have:=h.len;simp;omega⟩
 exact qrw
def kP.put {N:Nd} {ns:List Nd} {k:Nat} {b:Bool} {m:List Nd} (h:kP N ns k b m) (hs:dI ns) {y:Nd} (hy:ns[k]? =some y) (hb:(!b)=true) (hc:bl y.id N.id>0):kP N ns (k+1) true (m++ [N]++ [y]):=by
 have hb:b=false:=by simpa using hb
 subst hb
 obtain ⟨h1,h2⟩:=h.no rfl
 refine ⟨(aN.1 hy).1,by simp,fun _=>?_,by have:=congrArg List.length h1;rw [b0] at this;simp;omega⟩
 rw [OX hs hy h2 hc,h1,gy hy];simp
def kP.step {N:Nd} {ns:List Nd} {k:Nat} {b:Bool} {m:List Nd} (h:kP N ns k b m) (hn: ∀y∈ns,y.id≠N.id) {y:Nd} (hy:ns[k]? =some y) (hb:(!b)=true) (hc: ¬ (bl y.id N.id>0)):kP N ns (k+1) b (m++ [y]):=by
 have hb:b=false:=by simpa using hb
 subst hb
 obtain ⟨h1,h2⟩:=h.no rfl
 refine ⟨(aN.1 hy).1,fun _=>⟨by rw [h1,← bp hy],gG h2 hy ?_⟩,by simp,by have:=h.len;simp;omega⟩
 have h3:=hn y (aI hy)
 rcases slt.total y.id N.id with h4|h4|h4
 ·exact h4
 ·exact absurd h4 h3
 ·exact absurd ((tU _ _).2 h4) hc
def kP.fin {N:Nd} {ns:List Nd} {k:Nat} {b:Bool} {m:List Nd} (h:kP N ns k b m) (hk:ns.length≤k):(b=true→m=jH N ns)∧(b=false→m++ [N]=jH N ns):=by
 constructor
 ·intro hb
  have:=h.yes hb
  exact qkr
 ·intro hb
  obtain ⟨h1,h2⟩:=h.no hb
  rw [cA hk] at h1 h2
  rw [h1,OY h2]
def yn {ns:List Nd} {o:bz} (h:ic ns o.node o.par=true):iD ns o=ns:=by unfold iD;rw [if_pos h]
def Dg {ns:List Nd} {o:bz} (h:ic ns o.node o.par=false):iD ns o=jH ⟨o.node,o.par,o.key⟩ ns:=by unfold iD;rw [h];rfl
def Yz (aL:OA) (aZ:Nat) (ns:List Nd) (x:aT) (hs:dI ns) (hl:ns.length≤1000000):hO Cp 175 #[sl aL ns.length aZ,bx.V x] (fun U w=>x.gx U w) [aP.row aL aZ ns] (fun v Cs=> ∃A2 c2 A3 c3,v=.tuple #[sl A2 ((iD ns x.o).length) c2,gq.V ⟨(⟨x.o,A3,c3⟩:aT),(aH ns x.o).kW,⟨(aH ns x.o).par.t,(aH ns x.o).par.r⟩,(aH ns x.o).key,(aH ns x.o).idle⟩]∧Cs= [aP.row A2 c2 (iD ns x.o),az.row A3 c3 x.o.aX]):=by
 refine kz [.k (aP.row aL aZ ns)] Tryz.func175 fun U w0 hp=>ae 9 [1] fun a8=>ah (xS x) [] qqw ?_
 rintro _ _ ⟨A2,c3,rfl,rfl⟩
 refine ae 9 [4,1] fun rM=>ah (RO aL aZ ns x.o.node qne) [] qjf ?_
 rintro _ _ (⟨i6,n7,rfl,f8,f9,rfl⟩|⟨rfl,f10,rfl⟩)
 ·have ou:=(aN.1 f8).1
  have ee:=nW f9
  have eid:=(iP f9).2
  refine aa 8 fun _=>aq ((i6:Int)≥0) (fun kx=>?_) (fun kx=>?_)
  ·refine aO [(2,_),(4,_),(7,_),(9,_)] [4,5,6] ⟨qg9,cZ 29 (fun vs=>ad aL (i6*5) 2) (fun vs=>bZ.V n7.par) (fun vs w h=>iy (K:=aP) (o:=2) (m:=2) (sub:= [iv n7.par.t,iv n7.par.r]) (h.bg 0 aL aZ ns kr) f8),qg9,cZ 9 (fun vs=>ad aL (i6*5) 4) (fun vs=>.string n7.key) (fun vs w h=>bW (K:=aP) (h.bg 0 aL aZ ns kr) f8),trivial⟩ fun jd=>ae 8 [1,1] fun _=>ah (RP aL aZ ns x.o.node x.o.par qne) [] qjf ?_
   rintro _ _ ⟨rfl,rfl⟩
   refine aa 1 fun _=>eQ (ic ns x.o.node x.o.par) (fun ki=>?_) (fun ki=>?_)
   ·refine ae 6 [7] fun _=>aO [] [7,2] trivial fun v14=>?_
    have rN:=yn ki
    refine aS aP 0 aL aZ ns (iD ns x.o) kr ((yn ki).symm)<|bk [8] [9,3] ⟨aL,aZ,A2,c3,kt (.tuple #[sl aL ns.length aZ,gq.V ⟨(⟨x.o,A2,c3⟩:aT),true,⟨n7.par.t,n7.par.r⟩,n7.key,true⟩]) qln,kr⟩
   ·refine ae 19 [1,1,1,8] fun Bc=>aq ((i6:Int)≥0) (fun AF=>?_) (fun AF=>?_)
    ·refine aa 3 fun _=>ah (wI aL aZ ns qne) [] qjf ?_
     rintro _ _ ⟨RJ,TM,rfl,rfl⟩
     refine ae 7 [8] fun _=>aV RJ ns.length (i6:Int) 5 (fun w h=>Kd.cd (K:=aP) (xs:=ns) (h.bg 9 RJ TM ns kr) (by omega)) ?_
     obtain ⟨m0,rj⟩:=aw (xs:=ns) (k:=i6) (by omega)
     refine gH aP 9 RJ TM ns i6 0 m0 (⟨⟨x.o.node.t,x.o.node.r⟩,⟨x.o.par.t,x.o.par.r⟩,x.o.key⟩:Nd) 184 (aP.V ⟨⟨x.o.node.t,x.o.node.r⟩,⟨x.o.par.t,x.o.par.r⟩,x.o.key⟩) rj<|aa 2 fun _=>aO [] [7,2] trivial fun gW=>?_
     have rN:iD ns x.o=ns.set i6 (⟨⟨x.o.node.t,x.o.node.r⟩,⟨x.o.par.t,x.o.par.r⟩,x.o.key⟩:Nd):=(Dg ki).trans (OW hs f8 eid.symm)
     refine aS aP 9 RJ TM (ns.set i6 (⟨⟨x.o.node.t,x.o.node.r⟩,⟨x.o.par.t,x.o.par.r⟩,x.o.key⟩:Nd)) (iD ns x.o) kr rN.symm<|bk [10] [11,3] ⟨RJ,TM,A2,c3,kt (.tuple #[sl RJ ns.length TM,gq.V ⟨(⟨x.o,A2,c3⟩:aT),true,⟨n7.par.t,n7.par.r⟩,n7.key,false⟩]) qln,kr⟩
    ·exact kp
  ·exact kp
 ·have ee:=px (o:=x.o) (iQ.2 f10)
  refine ae 18 [1,1] fun _=>ah (RP aL aZ ns x.o.node x.o.par qne) [] qjf ?_
  rintro _ _ ⟨rfl,rfl⟩
  refine aa 1 fun _=>eQ (ic ns x.o.node x.o.par) (fun tH=>?_) (fun tH=>?_)
  ·refine ae 6 [4] fun _=>aO [] [4,2] trivial fun ud=>?_
   have rN:=yn tH
   refine aS aP 0 aL aZ ns (iD ns x.o) kr ((yn tH).symm)<|bk [5] [6,3] ⟨aL,aZ,A2,c3,kt (.tuple #[sl aL ns.length aZ,gq.V ⟨(⟨x.o,A2,c3⟩:aT),false,⟨0,0⟩,⟨#[]⟩,true⟩]) qhe,kr⟩
  ·refine ae 35 [1,1,1,5] fun ue=>bG aP<|aR (σ:=Nat×Bool×OA×Nat×List Nd) (fun (k,b,B,d,m)=> [(0,sl aL ns.length aZ),(3,pv (a8 2)),(4,sl none 0 0),(5,pv (a8 4)),(6,pv (rM 1)),(8,pv (ue 10)),(10,sl B m.length d),(11,.bool b),(12,iv k)]) (fun (k,b,B,d,m)=> [.k (aP.row aL aZ ns),.b (a8 2) 56 (aT.cells x),.b (a8 4) 187 [iv 0,iv 0,iv 0,sl none 0 0,iv 0,iv 0,iv 0,iv 0,iv 0,.string ⟨#[]⟩,iv 0,iv 0,.bool false,iv 0,iv 0,.string ⟨#[]⟩,.bool false],.k (az.row A2 c3 x.o.aX),.b (rM 1) 187 [iv x.o.st.t,iv x.o.st.r,iv x.o.seq,sl A2 x.o.aX.length c3,iv x.o.kind,iv x.o.node.t,iv x.o.node.r,iv x.o.par.t,iv x.o.par.r,.string x.o.key,iv x.o.prop,iv x.o.val,.bool false,iv 0,iv 0,.string ⟨#[]⟩,.bool false],.b (ue 10) 184 [iv x.o.node.t,iv x.o.node.r,iv x.o.par.t,iv x.o.par.r,.string x.o.key],.k (aP.row B d m)]) (fun (k,b,B,d,m)=>kP (⟨x.o.node,x.o.par,x.o.key⟩:Nd) ns k b m) (fun (k,b,B,d,m)=>ns.length-k) (0,false,none,0,[]) [0,1,2,3,4,5,6] (kP.nil _ _) ?_
   rintro _ ⟨k,b,B,d,m⟩ je aB
   have AN:=je.kl
   have oO:=je.len
   refine aa 8 fun _=>aq ((k:Int)<(ns.length:Int)) (fun vG=>?_) (fun vG=>?_)
   ·refine aa 5 fun _=>?_
    rcases bK (!b) with YF|YF
    ·obtain ⟨nG,CV⟩:=aw (xs:=ns) (k:=k) (by omega)
     refine aK [(1,.bool true),(5,_),(7,bZ.V nG.id),(10,iv (bl nG.id x.o.node))] [1] ⟨qsj,bF aL ns.length (k:Int) 5 qer,cB 29 (ad aL (k*5) 0) (fun w h=>iy (K:=aP) (o:=0) (m:=2) (sub:= [iv nG.id.t,iv nG.id.r]) (h.bg 0 aL aZ ns kr) CV),bT (OR nG.id x.o.node) jU,trivial⟩<|aq ((bl nG.id x.o.node)>0) (fun Rk=>?_) (fun Rk=>?_)
     ·refine ae 5 [5] fun GX=>bQ aP 6 B d m (so (GX 4)) 1 1 [(⟨⟨x.o.node.t,x.o.node.r⟩,⟨x.o.par.t,x.o.par.r⟩,x.o.key⟩:Nd)] (fun w h=>h.eT 7 (GX 4) 184 (List.flatMap aP.f [(⟨⟨x.o.node.t,x.o.node.r⟩,⟨x.o.par.t,x.o.par.r⟩,x.o.key⟩:Nd)]) kr) vE fun OS TP=>aa 9 fun _=>aV aL ns.length (k:Int) 5 qer<|bd 184 (ad aL (k*5) 0) (aP.V nG) qn1<|aa 1 fun YG=>bQ aP 6 OS TP (m++ [(⟨⟨x.o.node.t,x.o.node.r⟩,⟨x.o.par.t,x.o.par.r⟩,x.o.key⟩:Nd)]) (so (YG 0)) 1 1 [nG] (fun w h=>h.eT 8 (YG 0) 184 (List.flatMap aP.f [nG]) kr) vE fun Nt Nu=>aa 6 fun _=>ao 66 ((k:Int)+1)<|aa 2 fun _=>aB _ (k+1,true,Nt,Nu,m++ [(⟨⟨x.o.node.t,x.o.node.r⟩,⟨x.o.par.t,x.o.par.r⟩,x.o.key⟩:Nd)]++ [nG]) [0,1,2,3,4,5,6] kr (je.put hs CV YF Rk) du
     ·refine aa 5 fun _=>aV aL ns.length (k:Int) 5 qer<|bd 184 (ad aL (k*5) 0) (aP.V nG) qn1<|aa 1 fun YH=>bQ aP 6 B d m (so (YH 0)) 1 1 [nG] (fun w h=>h.eT 7 (YH 0) 184 (List.flatMap aP.f [nG]) kr) vE fun A38 c39=>aa 6 fun _=>ao 66 ((k:Int)+1)<|aa 2 fun _=>aB _ (k+1,b,A38,c39,m++ [nG]) [0,1,2,3,4,5,6] kr (je.step f10 CV YF Rk) du
    ·refine aK [(1,.bool false)] [] ⟨qsj,trivial⟩<|aa 6 fun _=>aV aL ns.length (k:Int) 5 qer ?_
     obtain ⟨jM,GY⟩:=aw (xs:=ns) (k:=k) (by omega)
     refine bd 184 (ad aL (k*5) 0) (aP.V jM) (fun w h=>bN (K:=aP) (h.bg 0 aL aZ ns kr) GY)<|aa 1 fun TX=>bQ aP 6 B d m (so (TX 0)) 1 1 [jM] (fun w h=>h.eT 7 (TX 0) 184 (List.flatMap aP.f [jM]) kr) vE fun A43 c44=>aa 6 fun _=>ao 66 ((k:Int)+1)<|aa 2 fun _=>aB _ (k+1,b,A43,c44,m++ [jM]) [0,1,2,3,4,5,6] kr (je.go GY YF) du
   ·refine aa 7 fun _=>eQ (!b) (fun RA=>?_) (fun RA=>?_)
    ·refine ae 4 [5] fun TY=>bQ aP 6 B d m (so (TY 3)) 1 1 [(⟨⟨x.o.node.t,x.o.node.r⟩,⟨x.o.par.t,x.o.par.r⟩,x.o.key⟩:Nd)] (fun w h=>h.eT 7 (TY 3) 184 (List.flatMap aP.f [(⟨⟨x.o.node.t,x.o.node.r⟩,⟨x.o.par.t,x.o.par.r⟩,x.o.key⟩:Nd)]) kr) vE fun A47 c48=>aa 3 fun _=>aO [] [4,2] trivial fun Kn=>?_
     have rN:iD ns x.o=m++ [(⟨⟨x.o.node.t,x.o.node.r⟩,⟨x.o.par.t,x.o.par.r⟩,x.o.key⟩:Nd)]:=(Dg tH).trans ((je.fin (by omega)).2 (by simpa using RA)).symm
     refine aS aP 6 A47 c48 (m++ [(⟨⟨x.o.node.t,x.o.node.r⟩,⟨x.o.par.t,x.o.par.r⟩,x.o.key⟩:Nd)]) (iD ns x.o) kr rN.symm<|bk [8] [9,3] ⟨A47,c48,A2,c3,kt (.tuple #[sl A47 ((m++ [(⟨⟨x.o.node.t,x.o.node.r⟩,⟨x.o.par.t,x.o.par.r⟩,x.o.key⟩:Nd)]).length) c48,gq.V ⟨(⟨x.o,A2,c3⟩:aT),false,⟨0,0⟩,⟨#[]⟩,false⟩]) qhe,kr⟩
    ·refine aa 2 fun _=>aO [] [4,2] trivial fun v50=>?_
     have rN:iD ns x.o=m:=(Dg tH).trans ((je.fin (by omega)).1 (by simpa using RA)).symm
     refine aS aP 6 B d m (iD ns x.o) kr rN.symm<|bk [7] [8,3] ⟨B,d,A2,c3,kt (.tuple #[sl B m.length d,gq.V ⟨(⟨x.o,A2,c3⟩:aT),false,⟨0,0⟩,⟨#[]⟩,false⟩]) qhe,kr⟩
structure nP (z:aT) (os:List aT) (k:Nat) (b:Bool) (m:List aT):Prop where
 kl:k≤os.length
 no:b=false→m=os.take k∧ ∀y∈os.take k,¬slt z.o.st y.o.st
 yes:b=true→m.map (·.o)++(os.drop k).map (·.o)=eP z.o (os.map (·.o))
 ne: ∀y∈os.take k,y.o.st≠z.o.st
 mem: ∀y∈m,y=z∨y∈os
 len:m.length≤k+1
def nP.nil (z:aT) (os:List aT):nP z os 0 false []:=⟨bh _,fun _=>⟨rfl,by simp⟩,by simp,by simp,by simp,by simp⟩
def nP.Yy {z y:aT} {os m:List aT} {k:Nat} {b:Bool} (h:nP z os k b m) (hy:os[k]? =some y): ∀x∈m++ [y],x=z∨x∈os:=by
 intro x hx
 rcases eG.1 hx with hx|hx
 ·exact h.mem x hx
 ·exact qph
def nP.go {z:aT} {os:List aT} {k:Nat} {b:Bool} {m:List aT} (h:nP z os k b m) {y:aT} (hy:os[k]? =some y) (hb:(!b)=false) (hc: ¬ (bl y.o.st z.o.st=0)):nP z os (k+1) b (m++ [y]):=by
 have hb:b=true:=by simpa using hb
 subst hb
 refine ⟨(aN.1 hy).1,by simp,fun _=>?_,gG h.ne hy fun e=>hc ((qc _ _).2 e),h.Yy hy,by have:=h.len;simp;omega⟩
 exact qrw
def nP.put {z:aT} {os:List aT} {k:Nat} {b:Bool} {m:List aT} (h:nP z os k b m) (hs:mZ (os.map (·.o))) {y:aT} (hy:os[k]? =some y) (hb:(!b)=true) (hc:bl y.o.st z.o.st>0):nP z os (k+1) true (m++ [z]++ [y]):=by
 have hb:b=false:=by simpa using hb
 subst hb
 obtain ⟨h1,h2⟩:=h.no rfl
 obtain ⟨hi,hg⟩:=aN.1 hy
 have hl:slt z.o.st y.o.st:=(tU _ _).1 hc
 refine ⟨hi,by simp,fun _=>?_,gG h.ne hy fun e=>?_,?_,by have:=congrArg List.length h1;rw [b0] at this;simp;omega⟩
 ·have h3:=s3 (o:=z.o) (l:=os.map (·.o)) (i:=k) OO (by rw [← List.map_take];intro m hm;obtain ⟨q,hq,rfl⟩:=List.mem_map.1 hm;exact h2 q hq) (by
   intro m hm
   obtain ⟨j,hj,rfl⟩:=List.getElem_of_mem hm
   have hp:=List.pairwise_iff_getElem.1 hs
   simp only [cL,cM] at hj
   rw [List.getElem_drop]
   by_cases h:j=0
   ·subst h;simp only [Nat.add_zero,List.getElem_map,hg];exact hl
   ·have h4:=hp k (k+j) OO OO (by omega)
    simp only [List.getElem_map,hg] at h4⊢
    exact hl.trans h4)
  rw [h3,h1,← List.map_take,← List.map_drop,gy hy];simp
 ·rw [e] at hl;exact slt.RH _ hl
 ·intro x hx
  rcases eG.1 hx with hx|hx
  ·rcases eG.1 hx with hx|hx
   ·exact h.mem x hx
   ·exact .inl (fv.1 hx)
  ·exact qph
def nP.step {z:aT} {os:List aT} {k:Nat} {b:Bool} {m:List aT} (h:nP z os k b m) {y:aT} (hy:os[k]? =some y) (hb:(!b)=true) (hc: ¬ (bl y.o.st z.o.st>0)) (h0: ¬ (bl y.o.st z.o.st=0)):nP z os (k+1) b (m++ [y]):=by
 have hb:b=false:=by simpa using hb
 subst hb
 obtain ⟨h1,h2⟩:=h.no rfl
 exact ⟨(aN.1 hy).1,fun _=>⟨by rw [h1,← bp hy],gG h2 hy fun e=>hc ((tU _ _).2 e)⟩,by simp,gG h.ne hy fun e=>h0 ((qc _ _).2 e),h.Yy hy,by have:=h.len;simp;omega⟩
def nP.fin {z:aT} {os:List aT} {k:Nat} {b:Bool} {m:List aT} (h:nP z os k b m) (hk:os.length≤k):(b=true→m.map (·.o)=eP z.o (os.map (·.o)))∧(b=false→(m++ [z]).map (·.o)=eP z.o (os.map (·.o))):=by
 constructor
 ·intro hb
  have:=h.yes hb
  rw [eJ hk,List.map_nil,fj] at this
  exact this
 ·intro hb
  obtain ⟨h1,h2⟩:=h.no hb
  rw [cA hk] at h1 h2
  rw [s3 (i:=(os.map (·.o)).length) (bO _) (by rw [List.take_length];intro m hm;obtain ⟨q,hq,rfl⟩:=List.mem_map.1 hm;exact h2 q hq) (by rw [List.drop_length];simp),h1,List.take_length,List.drop_length];simp
def TH {ms:List cD} {l:List bz} (h:ms.map cD.d=fz l []):(ms.map cD.x).map (·.o)=l:=by
 rw [← oj l [],← h,List.map_map,List.map_map];rfl
def RI (aU:OA) (bb:Nat) (xs:List aT) (l:List bz) (he:xs.map (·.o)=l) (hl:xs.length≤100010):Ct Cp 131 #[sl aU xs.length bb] (fun w=>ir aU xs w) [] (fun v Cs=> ∃A2 c2 A3 c3,v=.agg #[sl A2 ((ai l []).length) c2,sl A3 l.length c3]∧Cs= [iK A2 c2 A3 c3 l]):=by
 refine cc Tryz.func131 fun w0 hp=>ae 16 [1] fun a8=>bG aP<|bG gq<|dQ<|aS aP 2 none 0 [] (ai (l.take 0) []) kr rfl<|aR (σ:=Nat×OA×Nat×OA×Nat×List cD) (fun (k,A,c,B,d,ms)=> [(0,sl aU xs.length bb),(2,pv (a8 2)),(3,pv (a8 7)),(4,iv k)]) (fun (k,A,c,B,d,ms)=> [.b (a8 2) 49 [sl none 0 0,sl none 0 0],.b (a8 7) 49 [sl A ((ai (l.take k) []).length) c,sl B ms.length d],.k (aP.row A c (ai (l.take k) [])),.k (gq.row B d ms),.k (aM.all (ms.map cD.own))]) (fun (k,A,c,B,d,ms)=>k≤xs.length∧ms.map cD.d=fz (l.take k) []) (fun (k,A,c,B,d,ms)=>xs.length-k) (0,none,0,none,0,[]) [0,1,5,3,4] ⟨bh _,rfl⟩ ?_
 rintro _ ⟨k,A,c,B,d,ms⟩ ⟨hk,mO⟩ aB
 have oO:=iC mO
 have s4:l.length=xs.length:=by rw [← he,cM]
 have J8:=nQ (l.take k) []
 rw [b0] at oO J8
 simp only [fA] at J8
 refine aa 8 fun _=>aq ((k:Int)<(xs.length:Int)) (fun h2=>?_) (fun h2=>?_)
 ·refine aa 4 fun _=>?_
  obtain ⟨x3,e4⟩:=aw (xs:=xs) (k:=k) (by omega)
  refine aO [(4,_),(5,_),(6,_)] [1,7] ⟨br (fun vs=>aU) (fun vs=>xs.length) (fun vs=>(k:Int)) 12 (fun vs w h=>Kd.cd (K:=bx) (xs:=xs) (hp.2.1.aE h.ch) (by omega)),cZ 56 (fun vs=>ad aU (k*12) 0) (fun vs=>bx.V x3) (fun vs w h=>bN (K:=bx) (hp.2.1.aE h.ch) e4),fJ (fun vs=>Yz A c (ai (l.take k) []) x3 (pw _ dI.nil) (by omega)) [2] (fun vs=>.tuple #[sl (ak (tp (vs 6) 0)) ((iD (ai (l.take k) []) x3.o).length) (an (tp (vs 6) 0)),gq.V ⟨(⟨x3.o,ak (ag (tp (vs 6) 1) 3),an (ag (tp (vs 6) 1) 3)⟩:aT),(aH (ai (l.take k) []) x3.o).kW,⟨(aH (ai (l.take k) []) x3.o).par.t,(aH (ai (l.take k) []) x3.o).par.r⟩,(aH (ai (l.take k) []) x3.o).key,(aH (ai (l.take k) []) x3.o).idle⟩]) [fun vs=>.k (aP.row (ak (tp (vs 6) 0)) (an (tp (vs 6) 0)) (iD (ai (l.take k) []) x3.o)),fun vs=>.k (az.row (ak (ag (tp (vs 6) 1) 3)) (an (ag (tp (vs 6) 1) 3)) x3.o.aX)] (fun vs w F h=>(show aT.gx _ _ _ from (hp.2.2 x3 (aI e4)).u0.ew h)) qlb,trivial⟩ fun mj=>ae 11 [1,1,8] fun yc=>bQ gq 3 B d ms (so (yc 10)) 1 1 [(⟨(⟨x3.o,ak (ag (tp (mj 6) 1) 3),an (ag (tp (mj 6) 1) 3)⟩:aT),(aH (ai (l.take k) []) x3.o).kW,⟨(aH (ai (l.take k) []) x3.o).par.t,(aH (ai (l.take k) []) x3.o).par.r⟩,(aH (ai (l.take k) []) x3.o).key,(aH (ai (l.take k) []) x3.o).idle⟩:cD)] (fun w h=>h.eT 9 (yc 10) 187 (List.flatMap gq.f [(⟨(⟨x3.o,ak (ag (tp (mj 6) 1) 3),an (ag (tp (mj 6) 1) 3)⟩:aT),(aH (ai (l.take k) []) x3.o).kW,⟨(aH (ai (l.take k) []) x3.o).par.t,(aH (ai (l.take k) []) x3.o).par.r⟩,(aH (ai (l.take k) []) x3.o).key,(aH (ai (l.take k) []) x3.o).idle⟩:cD)]) kr) (by omega) fun xp wk=>ae 7 [1] fun _=>ao 13 ((k:Int)+1)<|aa 2 fun _=>?_
  have Db:l[k]? =some x3.o:=by rw [← he,fk,e4];rfl
  have IW:=bp Db
  have hnk:iD (ai (l.take k) []) x3.o=ai (l.take (k+1)) []:=by rw [← IW,mo];rfl
  refine aS aP 5 (ak (tp (mj 6) 0)) (an (tp (mj 6) 0)) (iD (ai (l.take k) []) x3.o) (ai (l.take (k+1)) []) kr hnk<|eD cD.own 6 4 ms (⟨(⟨x3.o,ak (ag (tp (mj 6) 1) 3),an (ag (tp (mj 6) 1) 3)⟩:aT),(aH (ai (l.take k) []) x3.o).kW,⟨(aH (ai (l.take k) []) x3.o).par.t,(aH (ai (l.take k) []) x3.o).par.r⟩,(aH (ai (l.take k) []) x3.o).key,(aH (ai (l.take k) []) x3.o).idle⟩:cD) kr<|bP 1 (a8 7) 49 [sl (ak (tp (mj 6) 0)) ((iD (ai (l.take k) []) x3.o).length) (an (tp (mj 6) 0)),sl xp ((ms++ [(⟨(⟨x3.o,ak (ag (tp (mj 6) 1) 3),an (ag (tp (mj 6) 1) 3)⟩:aT),(aH (ai (l.take k) []) x3.o).kW,⟨(aH (ai (l.take k) []) x3.o).par.t,(aH (ai (l.take k) []) x3.o).par.r⟩,(aH (ai (l.take k) []) x3.o).key,(aH (ai (l.take k) []) x3.o).idle⟩:cD)]).length) wk] [sl (ak (tp (mj 6) 0)) ((ai (l.take (k+1)) []).length) (an (tp (mj 6) 0)),sl xp ((ms++ [(⟨(⟨x3.o,ak (ag (tp (mj 6) 1) 3),an (ag (tp (mj 6) 1) 3)⟩:aT),(aH (ai (l.take k) []) x3.o).kW,⟨(aH (ai (l.take k) []) x3.o).par.t,(aH (ai (l.take k) []) x3.o).par.r⟩,(aH (ai (l.take k) []) x3.o).key,(aH (ai (l.take k) []) x3.o).idle⟩:cD)]).length) wk] kr (by rw [hnk])<|aB _ (k+1,ak (tp (mj 6) 0),an (tp (mj 6) 0),xp,wk,ms++ [(⟨(⟨x3.o,ak (ag (tp (mj 6) 1) 3),an (ag (tp (mj 6) 1) 3)⟩:aT),(aH (ai (l.take k) []) x3.o).kW,⟨(aH (ai (l.take k) []) x3.o).par.t,(aH (ai (l.take k) []) x3.o).par.r⟩,(aH (ai (l.take k) []) x3.o).key,(aH (ai (l.take k) []) x3.o).idle⟩:cD)]) [0,1,10,3,11] kr ⟨by omega,by rw [← IW,ov,cT,mO];rfl⟩ du
 ·refine ae 6 [1,0] fun _=>?_
  have ek:l.take k=l:=cA (by omega)
  have GD:=mO
  rw [ek] at GD
  refine aS aP 2 A c (ai (l.take k) []) (ai l []) kr (by rw [ek])<|aJ (GF A c B d l) [5,3,4] [aP.row A c (ai l []),gq.row B d ms,aM.all (ms.map cD.own)] (⟨ms,GD,rfl⟩)<|bk [0] [6] ⟨A,c,B,d,kt (.agg #[sl A ((ai (l.take k) []).length) c,sl B ms.length d]) (by rw [ek,iC GD]),kr⟩
def TI (x:oe) (hl:x.ms.length≤100000):Ct Cp 130 #[.agg #[sl x.An x.ns.length x.cn,sl x.Am x.ms.length x.cm]] (fun w=>x.Rd w) [] (fun v Cs=> ∃A2 c2,v=sl A2 ((x.ms.map cD.x).length) c2∧Cs= [bx.row A2 c2 (x.ms.map cD.x)]):=by
 refine cc Tryz.func130 fun w0 hp=>aa 15 fun a8=>bG bx<|aS bx 1 none 0 [] ((x.ms.take 0).map cD.x) kr rfl<|aR (σ:=Nat×OA×Nat) (fun (k,A,c)=> [(1,pv (a8 2)),(2,sl none 0 0),(3,sl A (((x.ms.take k).map cD.x).length) c),(4,iv k)]) (fun (k,A,c)=> [.b (a8 2) 49 [sl x.An x.ns.length x.cn,sl x.Am x.ms.length x.cm],.k (bx.row A c ((x.ms.take k).map cD.x))]) (fun (k,A,c)=>k≤x.ms.length) (fun (k,A,c)=>x.ms.length-k) (0,none,0) [0,2] (bh _) ?_
 rintro _ ⟨k,A,c⟩ hk aB
 refine ae 9 [0] fun _=>aq ((k:Int)<(x.ms.length:Int)) (fun h2=>?_) (fun h2=>?_)
 ·refine ae 8 [0] fun _=>aV x.Am x.ms.length (k:Int) 17 (fun w h=>Kd.cd (K:=gq) (xs:=x.ms) (hp.2.2.2.1.aE h.ch) (by omega))<|aa 1 fun _=>?_
  obtain ⟨x3,e4⟩:=aw (xs:=x.ms) (k:=k) (by omega)
  refine bd 56 (((cz x.Am).add (k*17)).add 0) (bx.V x3.x) (fun w h=>iy (K:=gq) (o:=0) (m:=12) (sub:=(aT.cells x3.x)) (hp.2.2.2.1.aE h.ch) e4)<|aa 1 fun jn=>bQ bx 1 A c ((x.ms.take k).map cD.x) (so (jn 0)) 1 1 [x3.x] (fun w h=>h.eT 2 (jn 0) 56 (List.flatMap bx.f [x3.x]) kr) (by rw [cM,b0];omega) fun A6 c7=>aa 6 fun _=>ao 11 ((k:Int)+1)<|aa 2 fun _=>aS bx 1 A6 c7 ((x.ms.take k).map cD.x++ [x3.x]) ((x.ms.take (k+1)).map cD.x) kr qqx<|aC 3 (sl A6 (((x.ms.take (k+1)).map cD.x).length) c7) (sl A6 (((x.ms.take k).map cD.x++ [x3.x]).length) c7) qqx<|aB _ (k+1,A6,c7) [0,3] kr (by omega) du
 ·refine aa 6 fun _=>aS bx 1 A c ((x.ms.take k).map cD.x) (x.ms.map cD.x) kr Oh<|a_ [2] ⟨A,c,kt (sl A (((x.ms.take k).map cD.x).length) c) Oh,kr⟩
def TJ (x:oe) (z:aT) (l:List bz) (he:x.ms.map cD.d=fz l []) (hl:l.length≤100000) (os:mZ l):Ct Cp 93 #[.agg #[sl x.An x.ns.length x.cn,sl x.Am x.ms.length x.cm],bx.V z] (fun w=>x.Rd w∧z.Rd w) [] (fun v Cs=>(v=.tuple #[.agg #[sl x.An x.ns.length x.cn,sl x.Am x.ms.length x.cm],.bool false]∧(∃m∈l,m.st=z.o.st)∧Cs= [])∨(∃A2 c2 A3 c3,v=.tuple #[.agg #[sl A2 ((ai (eP z.o l) []).length) c2,sl A3 ((eP z.o l).length) c3],.bool true]∧(∀m∈l,m.st≠z.o.st)∧Cs= [iK A2 c2 A3 c3 (eP z.o l)])):=by
 refine cc Tryz.func93 fun w0 hp=>?_
 have Ix:=TH he
 have oO:=iC he
 have hos:(x.ms.map cD.x).length=x.ms.length:=cM ..
 refine ae 18 [0] fun a8=>ah (TI x (by omega)) [] Ok ?_
 rintro _ _ ⟨A2,c3,rfl,rfl⟩
 refine aa 8 fun _=>bG bx<|aR (σ:=Nat×Bool×OA×Nat×List aT) (fun (k,b,B,d,m)=> [(2,pv (a8 2)),(3,pv (a8 3)),(4,pv (a8 4)),(5,.bool false),(6,sl B m.length d),(7,.bool b),(8,sl A2 ((x.ms.map cD.x).length) c3),(9,iv k)]) (fun (k,b,B,d,m)=> [.b (a8 2) 49 [sl x.An x.ns.length x.cn,sl x.Am x.ms.length x.cm],.b (a8 3) 56 (aT.cells z),.b (a8 4) 49 [sl none 0 0,sl none 0 0],.k (bx.row A2 c3 (x.ms.map cD.x)),.k (bx.row B d m)]) (fun (k,b,B,d,m)=>nP z (x.ms.map cD.x) k b m) (fun (k,b,B,d,m)=>(x.ms.map cD.x).length-k) (0,false,none,0,[]) [0,1,2,3,4] (nP.nil _ _) ?_
 rintro _ ⟨k,b,B,d,m⟩ je aB
 have AN:=je.kl
 have TK:=je.len
 refine aa 8 fun _=>aq ((k:Int)<((x.ms.map cD.x).length:Int)) (fun h4=>?_) (fun h4=>?_)
 ·refine aa 4 fun _=>?_
  obtain ⟨x5,e6⟩:=aw (xs:=x.ms.map cD.x) (k:=k) (by omega)
  refine aK [(2,_),(4,bZ.V x5.o.st),(7,iv (bl x5.o.st z.o.st))] [1] ⟨bF A2 ((x.ms.map cD.x).length) (k:Int) 12 qdh,cB 29 (ad A2 (k*12) 0) (fun w h=>iy (K:=bx) (o:=0) (m:=2) (sub:= [iv x5.o.st.t,iv x5.o.st.r]) (h.bg 3 A2 c3 (x.ms.map cD.x) kr) e6),bT (OR x5.o.st z.o.st) jU,trivial⟩<|aa 6 fun _=>aq ((bl x5.o.st z.o.st)=0) (fun h7=>?_) (fun h7=>?_)
  ·refine ae 6 [0,2] fun _=>bk [2] [] (.inl ⟨kr,⟨x5.o,by rw [← Ix];exact di (aI e6),(qc _ _).1 h7⟩,kr⟩)
  ·refine aa 7 fun _=>eg 32 (!b) (fun h8=>?_) (fun h8=>?_)
   ·refine aa 4 fun _=>aq ((bl x5.o.st z.o.st)>0) (fun h9=>?_) (fun h9=>?_)
    ·refine ae 5 [1] fun yd=>bQ bx 4 B d m (so (yd 4)) 1 1 [z] (fun w h=>h.eT 5 (yd 4) 56 (List.flatMap bx.f [z]) kr) vE fun rI xR=>aa 9 fun _=>aV A2 ((x.ms.map cD.x).length) (k:Int) 12 qdh<|bd 56 (ad A2 (k*12) 0) (bx.V x5) qhp<|aa 1 fun On=>bQ bx 4 rI xR (m++ [z]) (so (On 0)) 1 1 [x5] (fun w h=>h.eT 6 (On 0) 56 (List.flatMap bx.f [x5]) kr) vE fun GG J9=>aa 6 fun _=>ao 18 ((k:Int)+1)<|aa 2 fun _=>aB _ (k+1,true,GG,J9,m++ [z]++ [x5]) [0,1,2,3,4] kr (je.put (by rw [Ix];exact os) e6 h8 h9) du
    ·refine aa 5 fun _=>aV A2 ((x.ms.map cD.x).length) (k:Int) 12 qdh<|bd 56 (ad A2 (k*12) 0) (bx.V x5) qhp<|aa 1 fun TL=>bQ bx 4 B d m (so (TL 0)) 1 1 [x5] (fun w h=>h.eT 5 (TL 0) 56 (List.flatMap bx.f [x5]) kr) vE fun RJ TM=>aa 6 fun _=>ao 18 ((k:Int)+1)<|aa 2 fun _=>aB _ (k+1,b,RJ,TM,m++ [x5]) [0,1,2,3,4] kr (je.step e6 h8 h9 h7) du
   ·refine aa 10 fun _=>aV A2 ((x.ms.map cD.x).length) (k:Int) 12 qdh<|bd 56 (ad A2 (k*12) 0) (bx.V x5) qhp<|aa 1 fun TO=>bQ bx 4 B d m (so (TO 0)) 1 1 [x5] (fun w h=>h.eT 5 (TO 0) 56 (List.flatMap bx.f [x5]) kr) vE fun Dc AW=>aa 6 fun _=>ao 18 ((k:Int)+1)<|aa 2 fun _=>aB _ (k+1,b,Dc,AW,m++ [x5]) [0,1,2,3,4] kr (je.go e6 h8 h7) du
 ·refine aa 7 fun _=>eQ (!b) (fun tH=>?_) (fun tH=>?_)
  ·refine ae 4 [1] fun GH=>bQ bx 4 B d m (so (GH 3)) 1 1 [z] (fun w h=>h.eT 5 (GH 3) 56 (List.flatMap bx.f [z]) kr) vE fun YA YB=>aa 5 fun _=>ah (RI YA YB (m++ [z]) (eP z.o l) (by have hf:=(je.fin (by omega)).2 (by simpa using tH);rw [Ix] at hf;exact hf) qa9) [] (fun w h=>⟨by (try simp only [bm,dM,fA]);omega,h.bg 4 YA YB (m++ [z]) kr,fun y hy=>((fun y hy=>(eG.1 hy).elim (je.mem y) fun hy=>.inl (fv.1 hy)) y hy).elim (fun e=>e▸hp.2.aE h.ch) (fun e=>qk1)⟩) ?_
   rintro _ _ ⟨GI,GJ,pR,rC,rfl,rfl⟩
   refine ae 3 [2] fun _=>bk [2] [6] (.inr ⟨GI,GJ,pR,rC,kr,qhm,kr⟩)
  ·refine aa 4 fun _=>ah (RI B d m (eP z.o l) (by have hf:=(je.fin (by omega)).1 (by simpa using tH);rw [Ix] at hf;exact hf) qa9) [] (fun w h=>⟨by (try simp only [bm,dM,fA]);omega,h.bg 4 B d m kr,fun y hy=>(je.mem y hy).elim (fun e=>e▸hp.2.aE h.ch) (fun e=>qk1)⟩) ?_
   rintro _ _ ⟨J_,Kb,OS,TP,rfl,rfl⟩
   refine ae 3 [2] fun _=>bk [2] [5] (.inr ⟨J_,Kb,OS,TP,kr,qhm,kr⟩)

/- For the law of worlds: What functions do; What lies in memory; Sorting. -/
import Derived.Test.YtfookmefmjhonaaGreatZ26
set_option linter.all false
namespace Go.Proofs.YtfookmefmjhonaaGreat.My
open Go.RowKit Go.bE
def _k (z:Nd) (b:Nat) (yy:cN):Ct Cp 196 #[aP.V z,pv b] (fun _=>True) [bJ b 29 [iv yy.t,iv yy.r]] (fun v Cs=>v=.bool (cS z.id yy)∧Cs= [bJ b 29 [iv yy.t,iv yy.r]]):=by
 refine Fz [.b b 29 [iv yy.t,iv yy.r]] Tryz.func196 fun U w0 hp=>ae 13 [1,0] fun a8=>Of
def U6 (aU:OA) (bb:Nat) (xs:List Nd) (b:Nat) (yy:cN) (hb:xs.length≤1073741824):hO Cp 195 #[sl aU xs.length bb,.func (.func 196) #[] #[pv b]] (fun U w=>aP.gx aU xs U w) [bJ b 29 [iv yy.t,iv yy.r]] (fun v Cs=>v=iv (eU (fun z_:Nd=>cS z_.id yy) xs)∧Cs= [bJ b 29 [iv yy.t,iv yy.r]]):=by
 refine kz [.b b 29 [iv yy.t,iv yy.r]] Tryz.func195 fun U w0 hp=>aa 12 fun _=>aR (σ:=Nat) (fun k=> [(0,sl aU xs.length bb),(1,.func (.func 196) #[] #[pv b]),(4,iv 0),(7,iv (xs.length:Int)),(8,iv k)]) (fun k=> [.b b 29 [iv yy.t,iv yy.r]]) (fun k=>k≤xs.length∧ ∀y∈xs.take k,(fun z_:Nd=>cS z_.id yy) y=false) (fun k=>xs.length-k) 0 [0] ⟨bh _,by simp⟩ ?_
 rintro _ k ⟨hk,hy⟩ aB
 refine aa 5 fun _=>aq ((k:Int)<(xs.length:Int)) (fun h1=>?_) (fun h1=>?_)
 ·refine aa 13 fun _=>aV aU xs.length (k:Int) 5 (fun w h=>Kd.cd (K:=aP) (xs:=xs) ((hp.aE h.ch).rc) (by omega)) ?_
  obtain ⟨x2,e3⟩:=aw (xs:=xs) (k:=k) (by omega)
  refine bd 184 (ad aU (k*5) 0) (aP.V x2) (fun w h=>bN (K:=aP) ((hp.aE h.ch).rc) e3)<|ah (_k x2 b yy) [0] cJ ?_
  rintro _ _ ⟨rfl,rfl⟩
  refine dB 1 b 29 [iv yy.t,iv yy.r]<|aa 1 fun _=>eQ (cS x2.id yy) (fun h4=>?_) (fun h4=>?_)
  ·refine aa 5 fun _=>a_ [1] ⟨kt (iv k) (by rw [om (p:=fun z_:Nd=>cS z_.id yy) hy e3 Ir]),kr⟩
  ·refine aa 4 fun _=>ao 18 ((k:Int)+1)<|aa 2 fun _=>aB _ (k+1) [1] kr ⟨by omega,mc (p:=fun z_:Nd=>cS z_.id yy) hy e3 Ir⟩ (by omega)
 ·refine aa 5 fun _=>a_ [0] ⟨kt (iv (-1)) (by rw [jV (p:=fun z_:Nd=>cS z_.id yy) hy (by omega)]),kr⟩
def EJ {ns:List Nd}: ∀ {k:Nat} {x:cN},(zE ns k x).length<k→ ∀m,k≤m→zE ns m x=zE ns k x
 |0,_,h,_,_=>by simp at h
 |k+1,x,h,m,hm=>by
  obtain ⟨m,rfl⟩: ∃j,m=j+1:=⟨m-1,by omega⟩
  simp only [zE] at h⊢
  cases hf:dZ ns x with
  |none=>rfl
  |some n=>
   rw [hf] at h
   simp only [dM] at h
   exact congrArg (n:: ·) (EJ (by omega) m (by omega))
abbrev dy (ns:List Nd) (x:cN):List Nd:=zE ns (ns.length+1) x
def kC {ns:List Nd} (ha:lR ns) (x:cN):(dy ns x).length≤ns.length:=by
 obtain ⟨md,hr⟩:=ha
 exact tL (rJ hr) fun n hn=>xT n hn
def AK {ns:List Nd} (ha:lR ns) (x:cN):dy ns x=match dZ ns x with|none=> []|some n=>n::dy ns n.par:=by
 have h:=EJ (ns:=ns) (k:=ns.length+1) (x:=x) (by have:=kC ha x;unfold dy at this;omega) (ns.length+2) (by omega)
 unfold dy
 rw [← h,zE];cases dZ ns x<;>rfl
def JU {ns:List Nd} (ha:lR ns) {x:cN} (h: ¬gJ ns x):dy ns x= []:=by
 have e:dZ ns x=none:=by unfold gJ at h;cases hf:dZ ns x with|none=>rfl|some n=>rw [hf] at h;simp at h
 rw [AK ha,e]
def tM {ns:List Nd} (ha:lR ns) {x:cN} {n:Nd} (h:dZ ns x=some n):dy ns x=n::dy ns n.par:=by rw [AK ha,h]
def KD (An:OA) (cn:Nat) (Am:OA) (cm:Nat) (y:cN) (l:List bz) (hs:dI (ai l [])) (ha:lR (ai l [])) (hb:(ai l []).length≤1000000):Ct Cp 200 #[.agg #[sl An ((ai l []).length) cn,sl Am l.length cm],bZ.V y] (fun w=>sL An Am l w) [] (fun v Cs=>(∃A c,v=sl A (((dy (ai l []) y).map (·.par)).length) c∧Cs= [bZ.row A c ((dy (ai l []) y).map (·.par))])):=by
 refine cc Tryz.func200 fun w0 hp=>?_
 obtain ⟨md,hr⟩:=id ha
 refine aa 6 fun a8=>bG bZ<|ed 0 (σ:=cN×Nd×Nat×OA×Nat×List cN) (fun (p,q,m5,B,d,ys)=> [(2,pv (a8 2)),(3,pv (a8 3)),(4,sl B ys.length d),(5,pv m5)]) (fun (p,q,m5,B,d,ys)=> [.b (a8 2) 49 [sl An ((ai l []).length) cn,sl Am l.length cm],.b (a8 3) 29 [iv p.t,iv p.r],.b m5 184 (Nd.cells q),.k (bZ.row B d ys)]) (fun (p,q,m5,B,d,ys)=>ys++(dy (ai l []) p).map (·.par)=(dy (ai l []) y).map (·.par)) (fun (p,q,m5,B,d,ys)=>md p) ?_ ?_
 ·intro _ cG
  refine aa 10 fun ld=>cG _ (y,⟨⟨0,0⟩,⟨0,0⟩,.empty⟩,(ld 2),none,0,[]) [0,1,3,2] kr rfl
 ·rintro _ ⟨p,q,m5,B,d,ys⟩ hy dm
  refine ae 5 [0,1] fun _=>ah (qv An cn Am cm p l hs (by omega)) [] il ?_
  rintro _ _ (⟨Xv,rfl,f6,rfl⟩|⟨rfl,f7,rfl⟩)
  ·refine ae 22 [2,2,1,1] fun sf=>bQ bZ 3 B d ys (so (sf 21)) 1 1 [Xv.par] (fun w h=>h.eT 4 (sf 21) 29 (List.flatMap bZ.f [Xv.par]) kr) (by have e0:=congrArg List.length hy;have e1:=kC ha y;simp only [bm,cM] at e0;omega) fun A9 rA=>aa 2 fun _=>dm _ (Xv.par,Xv,m5,A9,rA,ys++ [Xv.par]) [0,1,2,3] kr (by have e0:=tM ha f6;have e1:=(iP f6).2;dsimp only at hy;rw [e0] at hy;simpa using hy) (by have e1:=iP f6;have:=hr Xv e1.1;rw [e1.2] at this;exact this)
  ·have qs:ys=(dy (ai l []) y).map (·.par):=by dsimp only at hy;rw [JU ha f7] at hy;simpa using hy
   refine ae 17 [2] fun _=>aS bZ 3 B d ys ((dy (ai l []) y).map (·.par)) kr qs<|a_ [4] (⟨B,d,kt (sl B ys.length d) (by rw [← qs]),kr⟩)
structure fe where
 id:cN
 vs:List Int
 Av:OA
 cv:Nat
 kids:List fe
 Ak:OA
 ck:Nat
abbrev fe.cells (b:fe):List Value:= [iv b.id.t,iv b.id.r,.slice b.Av b.vs.length b.cv,.slice b.Ak b.kids.length b.ck]
def k7:Kd fe:=⟨210,4,fe.cells,fun _=>rfl,fun _=>rfl,by decide⟩
def oZ (g:Nat) (w:World):Prop:= ∃cur t,w.heap[g]? =some (.cells cur t (0,0))∧cur.size≠0
def oZ.aE {g:Nat} {w w':World} (h:oZ g w) (hc:Ch No w w'):oZ g w':=by
 obtain ⟨cur,t,h1,h2⟩:=h
 exact ⟨cur,t,(hc.block g (Array.getElem?_eq_some_iff.1 h1).1 id).trans h1,h2⟩
inductive xx (w:World):Nat→fe→Prop
 |mk {n:Nat} {b:fe}:az.Rd b.Av b.vs w→k7.Rd b.Ak b.kids w→(∀k∈b.kids,xx w n k)→(b.kids≠ []→ ∃g o,b.Ak=some ⟨g,o,none⟩∧oZ g w)→xx w (n+1) b
def xx.aE {n:Nat} {b:fe} {w w':World} (h:xx w n b) (hc:Ch No w w'):xx w' n b:=by
 induction h with
 |mk h1 h2 _ h4 ih=>exact .mk (h1.aE hc) (h2.aE hc) ih fun hk=>by obtain ⟨g,o,e,hs⟩:=h4 hk;exact ⟨g,o,e,hs.aE hc⟩
def Ia {α:Type} {K:Kd α} {A:OA} {c:Nat} {xs:List α} {w:World} (h:(Row K.e K.sz (.slice A xs.length c) xs.length (xs.flatMap K.f)).P w) (hx:xs≠ []): ∃g o,A=some ⟨g,o,none⟩∧oZ g w:=by
 obtain ⟨hl,⟨h1,h2⟩|⟨g,cap,cur,h1,hcm,hg,hn,h5,pq,ht⟩⟩:=h
 ·exact (hx (dV.1 (by omega))).elim
 ·injection h1 with h1 h2 h3
  refine ⟨g,0,h1,cur,_,hg,fun h0=>?_⟩
  have:=Nat.mul_pos (dY (List.length_pos_iff.2 hx) hn) K.pos
  omega
abbrev NN (n:Nat) (b:fe):aM:=Gr fun w=>xx w n b
abbrev LL (n:Nat) (l:List fe):aM:=Gr fun w=> ∀k∈l,xx w n k
def PY (n:Nat):mA (fun w=> ∀k∈([]:List fe),xx w n k) []:=fun _ _ _ _ k hk=>by simp at hk
def LM {n:Nat} {l:List fe} {b:fe}:mA (fun w=> ∀k∈l++ [b],xx w n k) [LL n l,NN n b]:=(mA.cons Gr.p Gr.p).of fun w h k hk=>(eG.1 hk).elim (h.1 k) fun hk=>by rw [fv.1 hk];exact h.2
def fq (ns:List Nd) (x:cN):Bool:=cS x ⟨0,0⟩||(match (dy ns x).getLast? with|some n=>cS n.par ⟨0,0⟩|none=>false)
def pD {ns:List Nd} {x:cN} (h:cS x ⟨0,0⟩=true):fq ns x=true:=by simp [fq,h]
def Eb {ns:List Nd} {x:cN} (h:cS x ⟨0,0⟩=false) (k:((dy ns x).map (·.par)).length=0):fq ns x=false:=by
 rw [cM,dV] at k
 simp [fq,h,k]
def Ec {ns:List Nd} {x:cN} {z:cN} {k:Nat} (h:cS x ⟨0,0⟩=false) (hk:((dy ns x).map (·.par)).length=k+1) (hz:((dy ns x).map (·.par))[k]? =some z):fq ns x=cS z ⟨0,0⟩:=by
 rw [cM] at hk
 rw [fk] at hz
 have e:(dy ns x).getLast?=(dy ns x)[k]? :=by rw [List.getLast?_eq_getElem?,hk];rfl
 simp only [fq,h,Bool.false_or,e]
 cases hn:(dy ns x)[k]?with
 |none=>rw [hn] at hz;simp at hz
 |some n=>rw [hn] at hz;simp only [Option.map_some,a9] at hz;rw [← hz]
def kF (An:OA) (cn:Nat) (Am:OA) (cm:Nat) (y:cN) (l:List bz) (hs:dI (ai l [])) (ha:lR (ai l [])) (hb:(ai l []).length≤1000000):Ct Cp 193 #[.agg #[sl An ((ai l []).length) cn,sl Am l.length cm],bZ.V y] (fun w=>sL An Am l w) [] (fun v Cs=>v=.bool (fq (ai l []) y)∧Cs= []):=by
 refine cc Tryz.func193 fun w0 hp=>ae 10 [0,1] fun a8=>ah (KD An cn Am cm y l hs ha hb) [] il ?_
 rintro _ _ (⟨A4,c5,rfl,rfl⟩)
 ·refine aa 3 fun _=>?_
  rcases bK (cS y (⟨0,0⟩:cN)) with b7|b7
  ·have h6:=(gn _ _).mp b7
   refine aK [(1,bZ.V ⟨0,0⟩),(2,.bool true)] [1] ⟨Oi,qi3,trivial⟩<|a_ [] ⟨kt (.bool true) (dP (pD b7).symm),kr⟩
  ·have h6:=(jW _ _).mp b7
   rcases bK (decide ((((dy (ai l []) y).map (·.par)).length:Int)>0)) with b9|b9
   ·have h8:=cg b9
    obtain ⟨gA,zF⟩:=aw (xs:=(dy (ai l []) y).map (·.par)) (k:=((((dy (ai l []) y).map (·.par)).length:Int)-1).toNat) (by omega)
    refine aK [(1,bZ.V ⟨0,0⟩),(2,.bool false),(6,.bool true),(11,_),(12,_),(13,bZ.V gA),(14,bZ.V ⟨0,0⟩)] [1] ⟨Oi,qi3,qjy,fM (e:=by have e0:=kC ha y;have e1:((dy (ai l []) y).map (·.par)).length=_:=cM _;omega) ((((dy (ai l []) y).map (·.par)).length:Int)-1),bF A4 (((dy (ai l []) y).map (·.par)).length) ((((dy (ai l []) y).map (·.par)).length:Int)-1) 2 (fun w h=>Kd.cd (K:=bZ) (xs:=(dy (ai l []) y).map (·.par)) (h.bg 2 A4 c5 ((dy (ai l []) y).map (·.par)) kr) (by omega)),cB 29 (((cz A4).add ((((((dy (ai l []) y).map (·.par)).length:Int)-1).toNat)*2)).add 0) (fun w h=>iy (K:=bZ) (o:=0) (m:=2) (sub:= [iv gA.t,iv gA.r]) (h.bg 2 A4 c5 ((dy (ai l []) y).map (·.par)) kr) zF),Oi,trivial⟩<|a_ [] ⟨kt (.bool (cS gA (⟨0,0⟩:cN))) (dP (Ec b7 (k:=((((dy (ai l []) y).map (·.par)).length:Int)-1).toNat) (by omega) zF).symm),kr⟩
   ·have h8:=de b9
    refine aK [(1,bZ.V ⟨0,0⟩),(2,.bool false),(6,.bool false)] [1] ⟨Oi,qi3,qjy,trivial⟩<|a_ [] ⟨kt (.bool false) (dP (Eb b7 (by omega)).symm),kr⟩
def sg (An:OA) (cn:Nat) (Am:OA) (cm:Nat) (x:aT) (l:List bz) (hb:(ai l []).length≤1000000):Ct Cp 198 #[.agg #[sl An ((ai l []).length) cn,sl Am l.length cm],bx.V x] (fun w=>sL An Am l w) [] (fun v Cs=>v=.bool (ic (ai l []) x.o.node x.o.par)∧Cs= []):=by
 refine cc Tryz.func198 fun w0 hp=>?_
 obtain ⟨ms,mO,Bg,G3⟩:=id hp
 refine ae 21 [0,1,1] fun a8=>bD (K5 (a8 11) x.o.node x.o.par An cn (ai l []) (dX l) (eZ l) (by omega)) [2] (fun w F h=>Bg.u0.ew h) ?_
 rintro _ _ ⟨rfl,rfl⟩
 refine dB 3 (a8 11) 328 [sl An ((ai l []).length) cn]<|qv7
def sh (An:OA) (cn:Nat) (Am:OA) (cm:Nat) (l:List bz) (hb:(ai l []).length≤1000000):Ct Cp 199 #[.agg #[sl An ((ai l []).length) cn,sl Am l.length cm]] (fun w=>sL An Am l w) [] (fun v Cs=> ∃(nn:Nat),v=iv nn∧nn≤(ai l []).length∧Cs= []):=by
 refine cc Tryz.func199 fun w0 hp=>?_
 obtain ⟨ms,mO,Bg,G3⟩:=id hp
 refine ae 14 [0] fun a8=>aR (σ:=Nat×Nat) (fun (k,m)=> [(1,pv (a8 2)),(2,iv m),(6,sl An ((ai l []).length) cn),(7,iv ((ai l []).length:Int)),(8,iv k)]) (fun (k,m)=> [.b (a8 2) 49 [sl An ((ai l []).length) cn,sl Am l.length cm]]) (fun (k,m)=>k≤(ai l []).length∧m≤k) (fun (k,m)=>(ai l []).length-k) (0,0) [0] (by omega) ?_
 rintro _ ⟨k,m⟩ hk aB
 refine aa 5 fun _=>aq ((k:Int)<((ai l []).length:Int)) (fun h2=>?_) (fun h2=>?_)
 ·refine aa 5 fun _=>aV An ((ai l []).length) (k:Int) 5 qla ?_
  obtain ⟨x3,e4⟩:=aw (xs:=ai l []) (k:=k) (by omega)
  refine bd 184 (ad An (k*5) 0) (aP.V x3) qpj<|ae 8 [1,0,1] fun jn=>ah (kF An cn Am cm x3.id l (dX l) (eZ l) (by omega)) [] il ?_
  rintro _ _ ⟨rfl,rfl⟩
  refine aa 1 fun _=>eQ (fq (ai l []) x3.id) (fun h6=>?_) (fun h6=>?_)
  ·refine aa 3 fun _=>ao 17 ((m:Int)+1)<|aa 5 fun _=>ao 18 ((k:Int)+1)<|aa 2 fun _=>aB _ (k+1,((m:Int)+1).toNat) [0] kr (by omega) du
  ·refine aa 4 fun _=>ao 18 ((k:Int)+1)<|aa 2 fun _=>aB _ (k+1,m) [0] kr (by omega) du
 ·refine aa 6 fun _=>a_ [] ⟨m,kr,by omega,kr⟩
def zZ (a b:ByteArray):Int:=Lib.compareBytes a.data.toList b.data.toList
set_option maxHeartbeats 1000000 in
set_option maxRecDepth 100000 in
def QW (a b:ByteArray) (w:World):Calls Tryz.prog 262 #[.string a,.string b] w fun e w'=>e=.returned (iv (zZ a b))∧w'=w:=by
 go_enter Tryz.func262,Tryz.ntmps262
 go_wp2
 rw [run_callFunc_extern Tryz.func287 kr kr kr (e:=Extern.BytealgCompare.compare) kr,Lib.run_compareString]
 simp only [Result.andThen]
 rw [Oper.upon_value]
 go_wp2
 go_ret
 exact ⟨rfl,rfl⟩
def Td (a b:ByteArray):Ct Tryz.prog 262 #[.string a,.string b] (fun _=>True) [] (fun v Cs=>v=iv (zZ a b)∧Cs= []):=fun U w _ hS=>
 (QW a b w).mono fun e w' ⟨h1,h2⟩=>⟨_,h1,[],⟨rfl,rfl⟩,by rw [h2];exact hS⟩
def swap_perm {α:Type} {l:List α} {i j:Nat} {x y:α} (hi:l[i]? =some x) (hj:l[j]? =some y):((l.set i y).set j x).Perm l:=by
 obtain ⟨h1,h2⟩:=aN.1 hi
 obtain ⟨h3,h4⟩:=aN.1 hj
 have:=List.set_set_perm h1 h3
 rw [h2,h4] at this
 exact this
def iB (x y:Nd):Int:=F_ [zZ x.key y.key,bl x.id y.id]
def Tc (a b:ByteArray):Ct Cp 236 #[.string a,.string b] (fun _=>True) [] (fun v Cs=>v=iv (zZ a b)∧Cs= []):=by
 refine cc Tryz.func236 fun w0 hp=>aa 8 fun _=>ah (Td a b) [] cJ ?_
 exact Iq
def kj (x y:Nd):Ct Cp 234 #[aP.V x,aP.V y] (fun _=>True) [] (fun v Cs=>v=iv (iB x y)∧Cs= []):=by
 refine cc Tryz.func234 fun w0 hp=>aa 7 fun a8=>aO [(4,_),(9,_),(11,_)] [0,1,0,1] ⟨aY (fun vs=>Tc x.key y.key) [] (fun vs=>iv (zZ x.key y.key)) [] nE ko,aY (fun vs=>pS x.id y.id) [] (fun vs=>iv (bl x.id y.id)) [] nE ko,aY (fun vs=>Rm (some ⟨(a5 (vs 10)),0,none⟩) 2 [zZ x.key y.key,bl x.id y.id] (by simp)) [] (fun vs=>iv (F_ [zZ x.key y.key,bl x.id y.id])) [] (fun vs w h=>h.eT 2 (a5 (vs 10)) 3 (List.flatMap az.f [zZ x.key y.key,bl x.id y.id]) kr) ko,trivial⟩ fun v2=>Nc
def Od (aL:OA) (aZ n:Nat) (ns:List Nd) (a b:Int) (hn:ns.length=n) (hl:n≤1000000) (wB:0≤a∧a≤b∧b≤n):Ct Cp 277 #[sl aL n aZ,iv a,iv b,.func (.func 234) #[] #[]] (fun _=>True) [aP.row aL aZ ns] (fun v Cs=> ∃m,v=.tuple #[]∧m.Perm ns∧Cs= [aP.row aL aZ m]):=by
 refine Fz [.k (aP.row aL aZ ns)] Tryz.func277 fun U w0 hp=>aa 4 fun _=>ao 11 (a+1)<|aa 3 fun _=>aR (σ:=Int×List Nd) (fun (i,m)=> [(0,sl aL n aZ),(1,iv a),(2,iv b),(3,.func (.func 234) #[] #[]),(8,iv i)]) qk0 (fun (i,m)=>m.Perm ns∧a<i∧(i≤b∨b≤a+1)) (fun (i,m)=>(b-i).toNat) (a+1,ns) [0] ⟨(List.Perm.refl _),⟨by omega,by omega⟩⟩ ?_
 rintro _ ⟨i,m⟩ ⟨jA,⟨hi,hib⟩⟩ aB
 have Ga:m.length=n:=by rw [jA.length_eq];omega
 refine aa 7 fun _=>aq (i<b) (fun h1=>?_) (fun h1=>?_)
 ·refine aa 9 fun _=>aR (σ:=Int×List Nd) (fun (j,m1)=> [(0,sl aL n aZ),(1,iv a),(2,iv b),(3,.func (.func 234) #[] #[]),(8,iv i),(9,iv j),(14,.bool (decide (i<b)))]) (fun (j,m1)=> [.k (aP.row aL aZ m1)]) (fun (j,m1)=>m1.Perm ns∧a≤j∧j≤i) (fun (j,m1)=>(j-a).toNat) (i,m) [0] ⟨jA,⟨by omega,by omega⟩⟩ ?_
  rintro _ ⟨j,m1⟩ ⟨jT,⟨hj,oL⟩⟩ dG
  have CR:m1.length=n:=by rw [jT.length_eq];omega
  refine aa 2 fun _=>(bK (decide (j>a))).elim (fun b3=>?_) (fun b3=>?_)
  ·have h2:=cg b3
   refine Exists.elim (aw (xs:=m1) (k:=j.toNat) dg) fun x4 e5=>Exists.elim (aw (xs:=m1) (k:=(j-1).toNat) dg) fun x6 e7=>aK [(2,.bool true),(7,_),(8,aP.V x4),(11,_),(12,_),(13,aP.V x6),(14,iv (iB x4 x6))] [] ⟨qh4,bF aL n j 5 Wr,cB 184 (ad aL (j.toNat*5) 0) (fun w h=>bN (K:=aP) (h.bg 0 aL aZ m1 kr) e5),fM (j-1),bF aL n (j-1) 5 Wr,cB 184 (((cz aL).add (((j-1).toNat)*5)).add 0) (fun w h=>bN (K:=aP) (h.bg 0 aL aZ m1 kr) e7),bT (kj x4 x6) jU,trivial⟩<|aq ((iB x4 x6)<0) (fun h8=>?_) (fun h8=>?_)
   ·refine aa 3 fun _=>Exists.elim (aw (xs:=m1.set j.toNat x6) (k:=(j-1).toNat) dg) fun x9 ng=>aO [(4,_),(7,_),(8,_),(9,_),(12,_),(13,_),(14,_),(15,_),(16,_),(17,_)] [] ⟨Rn,Rn,br (fun vs=>aL) (fun vs=>n) (fun vs=>j-1) 5 Ws,cZ 184 (fun vs=>((cz aL).add (((j-1).toNat)*5)).add 0) (fun vs=>aP.V x6) (fun vs w h=>bN (K:=aP) (h.bg 0 aL aZ m1 kr) e7),qwu,cZ 184 (fun vs=>ad aL (j.toNat*5) 0) (fun vs=>aP.V x4) (fun vs w h=>bN (K:=aP) (h.bg 0 aL aZ m1 kr) e5),qwu,cR aP 0 (fun vs=>aL) (fun vs=>aZ) (fun vs=>m1) j.toNat 0 (fun vs=>x4) (fun vs=>x6) 184 (fun vs=>aP.V x6) (fun _=>e5),br (fun vs=>aL) (fun vs=>n) (fun vs=>j-1) 5 (fun vs w h=>Kd.cd (K:=aP) (xs:=m1.set j.toNat x6) (h.bg 0 aL aZ (m1.set j.toNat x6) kr) dg),cR aP 1 (fun vs=>aL) (fun vs=>aZ) (fun vs=>m1.set j.toNat x6) ((j-1).toNat) 0 (fun vs=>x9) (fun vs=>x4) 184 (fun vs=>aP.V x4) (fun _=>ng),trivial⟩ fun v11=>qt1
   ·refine aa 5 fun _=>qtm
  ·exact qwi
 ·exact XZ
def Jk (aL:OA) (aZ n:Nat) (ns:List Nd) (a b:Int) (hn:ns.length=n) (hl:n≤1000000) (wB:0≤a∧a≤b∧b≤n):Ct Cp 281 #[sl aL n aZ,iv a,iv b,.func (.func 234) #[] #[]] (fun _=>True) [aP.row aL aZ ns] (fun v Cs=> ∃m,v=.tuple #[]∧m.Perm ns∧Cs= [aP.row aL aZ m]):=by
 refine Fz [.k (aP.row aL aZ ns)] Tryz.func281 fun U w0 hp=>aa 9 fun _=>ao 12 (b-1)<|aa 3 fun _=>aR (σ:=Int×Int×List Nd) (fun (i,j,m)=> [(0,sl aL n aZ),(8,iv i),(9,iv j)]) qqq (fun (i,j,m)=>m.Perm ns∧a≤i∧j<b) (fun (i,j,m)=>(j-i).toNat) (a,b-1,ns) [0] ⟨(List.Perm.refl _),⟨by omega,by omega⟩⟩ ?_
 rintro _ ⟨i,j,m⟩ ⟨jA,⟨hi,hj⟩⟩ aB
 have Ga:m.length=n:=by rw [jA.length_eq];omega
 refine aa 7 fun _=>aq (i<j) (fun h1=>?_) (fun h1=>?_)
 ·refine aa 3 fun _=>Exists.elim (aw (xs:=m) (k:=j.toNat) dg) fun x2 e3=>Exists.elim (aw (xs:=m) (k:=i.toNat) dg) fun x4 e5=>Exists.elim (aw (xs:=m.set i.toNat x2) (k:=j.toNat) dg) fun x6 e7=>aO [(6,_),(7,_),(10,_),(11,_),(12,_),(13,_),(14,_),(15,_)] [] ⟨br (fun vs=>aL) (fun vs=>n) (fun vs=>j) 5 Wt,cZ 184 (fun vs=>ad aL (j.toNat*5) 0) (fun vs=>aP.V x2) (fun vs w h=>bN (K:=aP) (h.bg 0 aL aZ m kr) e3),qwe,cZ 184 (fun vs=>ad aL (i.toNat*5) 0) (fun vs=>aP.V x4) qnq,qwe,cR aP 0 (fun vs=>aL) (fun vs=>aZ) (fun vs=>m) i.toNat 0 (fun vs=>x4) (fun vs=>x2) 184 (fun vs=>aP.V x2) (fun _=>e5),br (fun vs=>aL) (fun vs=>n) (fun vs=>j) 5 (fun vs w h=>Kd.cd (K:=aP) (xs:=m.set i.toNat x2) (h.bg 0 aL aZ (m.set i.toNat x2) kr) dg),cR aP 1 (fun vs=>aL) (fun vs=>aZ) (fun vs=>m.set i.toNat x2) j.toNat 0 (fun vs=>x6) (fun vs=>x4) 184 (fun vs=>aP.V x4) (fun _=>e7),trivial⟩ fun v8=>aa 4 fun _=>ao 31 (i+1)<|aa 5 fun _=>ao 33 (j-1)<|aa 3 fun _=>aB _ (i+1,j-1,(m.set i.toNat x2).set j.toNat x4) [2] kr ⟨((swap_perm e5 e3).trans jA),⟨by omega,by omega⟩⟩ du
 ·exact XZ
def mM {x d:Int} (h:0≤x∧x≤4611686018427387904) (hd:1≤d):IntKind.i64.wrap (Int.tdiv x d)=x/d:=by
 rw [Int.tdiv_eq_ediv_of_nonneg h.1]
 have h1:x/d≤x:=Int.ediv_le_self _ h.1
 have h2:0≤x/d:=Int.ediv_nonneg h.1 (by omega)
 exact wrap_i64 (by omega)
def xF (aL:OA) (aZ n:Nat) (ns:List Nd) (a b:Int) (g:Nat) (sw:Int) (hn:ns.length=n) (hl:n≤1000000) (hsw:0≤sw∧sw≤1000) (ha:0≤a∧a<n) (hb:0≤b∧b<n):Ct Cp 324 #[sl aL n aZ,iv a,iv b,pv g,.func (.func 234) #[] #[]] (fun _=>True) [aP.row aL aZ ns,bJ g 3 [iv sw]] (fun v Cs=> ∃(x y q:Int),v=.tuple #[iv x,iv y]∧(x=a∧y=b∨x=b∧y=a)∧(sw≤q∧q≤sw+1)∧Cs= [aP.row aL aZ ns,bJ g 3 [iv q]]):=by
 refine Fz [.k (aP.row aL aZ ns),.b g 3 [iv sw]] Tryz.func324 fun U w0 hp=>aa 7 fun _=>Exists.elim (aw (xs:=ns) (k:=b.toNat) dg) fun x1 e2=>Exists.elim (aw (xs:=ns) (k:=a.toNat) dg) fun x3 e4=>aK [(3,_),(4,aP.V x1),(7,_),(8,aP.V x3),(9,iv (iB x1 x3))] [] ⟨bF aL n b 5 qu0,cB 184 (ad aL (b.toNat*5) 0) (fun w h=>bN (K:=aP) (h.bg 0 aL aZ ns kr) e2),bF aL n a 5 qu0,cB 184 (ad aL (a.toNat*5) 0) (fun w h=>bN (K:=aP) (h.bg 0 aL aZ ns kr) e4),bT (kj x1 x3) jU,trivial⟩<|aq ((iB x1 x3)<0) (fun h5=>?_) (fun h5=>?_)
 ·refine ae 6 [1] fun _=>ao 26 (sw+1)<|ae 10 [1] fun _=>a_ [0,1] ⟨b,a,sw+1,kr,by omega,by omega,kr⟩
 ·refine aa 8 fun _=>a_ [0,1] ⟨a,b,sw,kr,by omega,by omega,kr⟩
def xG (aL:OA) (aZ n:Nat) (ns:List Nd) (a b c:Int) (g:Nat) (sw:Int) (hn:ns.length=n) (hl:n≤1000000) (hsw:0≤sw∧sw≤900) (ha:0≤a∧a<n) (hb:0≤b∧b<n) (hc:0≤c∧c<n):Ct Cp 309 #[sl aL n aZ,iv a,iv b,iv c,pv g,.func (.func 234) #[] #[]] (fun _=>True) [aP.row aL aZ ns,bJ g 3 [iv sw]] (fun v Cs=> ∃(x q:Int),v=iv x∧(x=a∨x=b∨x=c)∧(sw≤q∧q≤sw+3)∧Cs= [aP.row aL aZ ns,bJ g 3 [iv q]]):=by
 refine Fz [.k (aP.row aL aZ ns),.b g 3 [iv sw]] Tryz.func309 fun U w0 hp=>aa 11 fun _=>ah (xF aL aZ n ns a b g sw dg (by omega) (by omega) (by omega) (by omega)) [0,1] cJ ?_
 rintro _ _ ⟨x1,y2,q3,rfl,f4,f5,rfl⟩
 refine dB 3 g 3 [iv q3]<|aa 13 fun _=>ah (xF aL aZ n ns y2 c g q3 dg (by omega) (by omega) (by omega) (by omega)) [2,3] cJ ?_
 rintro _ _ ⟨x6,y7,q8,rfl,f9,f10,rfl⟩
 refine dB 5 g 3 [iv q8]<|aa 13 fun _=>ah (xF aL aZ n ns x1 x6 g q8 dg (by omega) (by omega) (by omega) (by omega)) [4,5] cJ ?_
 rintro _ _ ⟨fW,y12,X0,rfl,f14,f15,rfl⟩
 refine dB 7 g 3 [iv X0]<|aa 11 fun _=>a_ [6,7] ⟨y12,X0,kr,by omega,by omega,kr⟩
def xH (aL:OA) (aZ n:Nat) (ns:List Nd) (a:Int) (g:Nat) (sw:Int) (hn:ns.length=n) (hl:n≤1000000) (hsw:0≤sw∧sw≤800) (ha:1≤a∧a+1<n):Ct Cp 308 #[sl aL n aZ,iv a,pv g,.func (.func 234) #[] #[]] (fun _=>True) [aP.row aL aZ ns,bJ g 3 [iv sw]] (fun v Cs=> ∃(x q:Int),v=iv x∧(a-1≤x∧x≤a+1)∧(sw≤q∧q≤sw+3)∧Cs= [aP.row aL aZ ns,bJ g 3 [iv q]]):=by
 refine Fz [.k (aP.row aL aZ ns),.b g 3 [iv sw]] Tryz.func308 fun U w0 hp=>aa 9 fun _=>ao 11 (a-1)<|aa 3 fun _=>ao 14 (a+1)<|aa 2 fun _=>ah (xG aL aZ n ns (a-1) a (a+1) g sw dg (by omega) (by omega) (by omega) (by omega) (by omega)) [0,1] cJ ?_
 rintro _ _ ⟨x1,q2,rfl,f3,f4,rfl⟩
 refine dB 3 g 3 [iv q2]<|aa 2 fun _=>a_ [2,3] ⟨x1,q2,kr,by omega,by omega,kr⟩
def Ro (aL:OA) (aZ n:Nat) (ns:List Nd) (lo hi f:Int) (hn:ns.length=n) (hl:n≤1000000) (h0:0≤lo∧lo≤hi∧0≤f∧f+hi≤n):Ct Cp 305 #[sl aL n aZ,iv lo,iv hi,iv f,.func (.func 234) #[] #[]] (fun _=>True) [aP.row aL aZ ns] (fun v Cs=> ∃m,v=.tuple #[]∧m.Perm ns∧Cs= [aP.row aL aZ m]):=by
 refine Fz [.k (aP.row aL aZ ns)] Tryz.func305 fun U w0 hp=>aa 6 fun _=>aR (σ:=Int×List Nd) (fun (i,m)=> [(0,sl aL n aZ),(2,iv hi),(3,iv f),(4,.func (.func 234) #[] #[]),(10,iv i)]) qk0 (fun (i,m)=>m.Perm ns∧0≤i∧i≤hi) (fun (i,m)=>(hi-i).toNat) (lo,ns) [0] ⟨(List.Perm.refl _),⟨by omega,by omega⟩⟩ ?_
 rintro _ ⟨i,m⟩ ⟨jA,⟨hi0,hih⟩⟩ aB
 have Ga:m.length=n:=by rw [jA.length_eq];omega
 refine aa 5 fun _=>ao 14 (2*i)<|aa 1 fun _=>ao 15 ((2*i)+1)<|aa 9 fun _=>aq (((2*i)+1)≥hi) (fun h1=>?_) (fun h1=>?_)
 ·exact XZ
 ·refine aa 3 fun _=>(bK (decide ((((2*i)+1)+1)<hi))).elim (fun b3=>?_) (fun b3=>?_)
  ·have h2:=cg b3
   refine Exists.elim (aw (xs:=m) (k:=(f+((2*i)+1)).toNat) dg) fun x4 e5=>Exists.elim (aw (xs:=m) (k:=((f+((2*i)+1))+1).toNat) dg) fun x6 e7=>aK [(1,_),(3,.bool true),(9,_),(10,_),(11,aP.V x4),(15,_),(16,_),(17,_),(18,aP.V x6),(19,iv (iB x4 x6))] [] ⟨fM (((2*i)+1)+1),qn2,ql6,qwj,qif,ql6,fM ((f+((2*i)+1))+1),bF aL n ((f+((2*i)+1))+1) 5 Wu,cB 184 (((cz aL).add ((((f+((2*i)+1))+1).toNat)*5)).add 0) (fun w h=>bN (K:=aP) (h.bg 0 aL aZ m kr) e7),bT (kj x4 x6) jU,trivial⟩<|aq ((iB x4 x6)<0) (fun h8=>?_) (fun h8=>?_)
   ·refine aa 3 fun _=>ao 42 (((2*i)+1)+1)<|aa 4 fun _=>Exists.elim (aw (xs:=m) (k:=(f+i).toNat) dg) fun x9 ng=>Exists.elim (aw (xs:=m) (k:=(f+(((2*i)+1)+1)).toNat) dg) fun fW wD=>aK [(4,_),(5,_),(6,aP.V x9),(10,_),(11,_),(12,aP.V fW),(13,iv (iB x9 fW))] [] ⟨fM (f+i),qwx,cB 184 (((cz aL).add (((f+i).toNat)*5)).add 0) (fun w h=>bN (K:=aP) (h.bg 0 aL aZ m kr) ng),fM (f+(((2*i)+1)+1)),bF aL n (f+(((2*i)+1)+1)) 5 Wu,cB 184 (((cz aL).add (((f+(((2*i)+1)+1)).toNat)*5)).add 0) (fun w h=>bN (K:=aP) (h.bg 0 aL aZ m kr) wD),bT (kj x9 fW) jU,trivial⟩<|cU ((iB x9 fW)<0) (fun ki=>?_) (fun ki=>?_)
    ·exact qff
    ·refine aa 2 fun _=>Exists.elim (aw (xs:=m.set ((f+i).toNat) fW) (k:=(f+(((2*i)+1)+1)).toNat) dg) fun iV vm=>aO [(3,_),(7,_),(11,_),(12,_),(13,_),(17,_),(18,_),(19,_),(20,_),(21,_),(22,_),(23,_)] [] ⟨Wv,qrt,qrt,br (fun vs=>aL) (fun vs=>n) (fun vs=>f+(((2*i)+1)+1)) 5 Wt,cZ 184 (fun vs=>((cz aL).add (((f+(((2*i)+1)+1)).toNat)*5)).add 0) (fun vs=>aP.V fW) (fun vs w h=>bN (K:=aP) (h.bg 0 aL aZ m kr) wD),Wv,Ww,cZ 184 (fun vs=>((cz aL).add (((f+i).toNat)*5)).add 0) (fun vs=>aP.V x9) qni,Ww,cR aP 0 (fun vs=>aL) (fun vs=>aZ) (fun vs=>m) ((f+i).toNat) 0 (fun vs=>x9) (fun vs=>fW) 184 (fun vs=>aP.V fW) (fun _=>ng),br (fun vs=>aL) (fun vs=>n) (fun vs=>f+(((2*i)+1)+1)) 5 (fun vs w h=>Kd.cd (K:=aP) (xs:=m.set ((f+i).toNat) fW) (h.bg 0 aL aZ (m.set ((f+i).toNat) fW) kr) dg),cR aP 1 (fun vs=>aL) (fun vs=>aZ) (fun vs=>m.set ((f+i).toNat) fW) ((f+(((2*i)+1)+1)).toNat) 0 (fun vs=>iV) (fun vs=>x9) 184 (fun vs=>aP.V x9) (fun _=>vm),trivial⟩ fun jy=>aa 5 fun _=>aB _ (((2*i)+1)+1,(m.set ((f+i).toNat) fW).set ((f+(((2*i)+1)+1)).toNat) x9) [2] kr ⟨((swap_perm ng wD).trans jA),⟨by omega,by omega⟩⟩ du
   ·refine aa 3 fun _=>Exists.elim (aw (xs:=m) (k:=(f+i).toNat) dg) fun sC Ng=>aK [(4,_),(5,_),(6,aP.V sC),(10,_),(11,_),(12,aP.V x4),(13,iv (iB sC x4))] [] ⟨fM (f+i),qwx,cB 184 (((cz aL).add (((f+i).toNat)*5)).add 0) (fun w h=>bN (K:=aP) (h.bg 0 aL aZ m kr) Ng),ql6,qwj,qif,bT (kj sC x4) jU,trivial⟩<|cU ((iB sC x4)<0) (fun Ey=>?_) (fun Ey=>?_)
    ·exact qff
    ·refine aa 2 fun _=>Exists.elim (aw (xs:=m.set ((f+i).toNat) x4) (k:=(f+((2*i)+1)).toNat) dg) fun nw Aj=>aO [(3,_),(7,_),(11,_),(12,_),(13,_),(17,_),(18,_),(19,_),(20,_),(21,_),(22,_),(23,_)] [] ⟨Wv,qj2,qj2,qwk,cZ 184 (fun vs=>((cz aL).add (((f+((2*i)+1)).toNat)*5)).add 0) (fun vs=>aP.V x4) qnq,Wv,Ww,cZ 184 (fun vs=>((cz aL).add (((f+i).toNat)*5)).add 0) (fun vs=>aP.V sC) (fun vs w h=>bN (K:=aP) (h.bg 0 aL aZ m kr) Ng),Ww,cR aP 0 (fun vs=>aL) (fun vs=>aZ) (fun vs=>m) ((f+i).toNat) 0 (fun vs=>sC) (fun vs=>x4) 184 (fun vs=>aP.V x4) (fun _=>Ng),br (fun vs=>aL) (fun vs=>n) (fun vs=>f+((2*i)+1)) 5 (fun vs w h=>Kd.cd (K:=aP) (xs:=m.set ((f+i).toNat) x4) (h.bg 0 aL aZ (m.set ((f+i).toNat) x4) kr) dg),cR aP 1 (fun vs=>aL) (fun vs=>aZ) (fun vs=>m.set ((f+i).toNat) x4) ((f+((2*i)+1)).toNat) 0 (fun vs=>nw) (fun vs=>sC) 184 (fun vs=>aP.V sC) (fun _=>Aj),trivial⟩ fun eE=>aa 5 fun _=>aB _ ((2*i)+1,(m.set ((f+i).toNat) x4).set ((f+((2*i)+1)).toNat) sC) [2] kr ⟨((swap_perm Ng e5).trans jA),⟨by omega,by omega⟩⟩ du
  ·have h2:=de b3
   refine aK [(1,_),(3,.bool false)] [] ⟨fM (((2*i)+1)+1),qn2,trivial⟩<|aa 4 fun _=>Exists.elim (aw (xs:=m) (k:=(f+i).toNat) dg) fun vf Et=>Exists.elim (aw (xs:=m) (k:=(f+((2*i)+1)).toNat) dg) fun Az Te=>aK [(4,_),(5,_),(6,aP.V vf),(10,_),(11,_),(12,aP.V Az),(13,iv (iB vf Az))] [] ⟨fM (f+i),qwx,cB 184 (((cz aL).add (((f+i).toNat)*5)).add 0) (fun w h=>bN (K:=aP) (h.bg 0 aL aZ m kr) Et),ql6,qwj,cB 184 (((cz aL).add (((f+((2*i)+1)).toNat)*5)).add 0) (fun w h=>bN (K:=aP) (h.bg 0 aL aZ m kr) Te),bT (kj vf Az) jU,trivial⟩<|cU ((iB vf Az)<0) (fun Gd=>?_) (fun Gd=>?_)
   ·exact qff
   ·refine aa 2 fun _=>Exists.elim (aw (xs:=m.set ((f+i).toNat) Az) (k:=(f+((2*i)+1)).toNat) dg) fun nG CV=>aO [(3,_),(7,_),(11,_),(12,_),(13,_),(17,_),(18,_),(19,_),(20,_),(21,_),(22,_),(23,_)] [] ⟨Wv,qj2,qj2,qwk,cZ 184 (fun vs=>((cz aL).add (((f+((2*i)+1)).toNat)*5)).add 0) (fun vs=>aP.V Az) (fun vs w h=>bN (K:=aP) (h.bg 0 aL aZ m kr) Te),Wv,Ww,cZ 184 (fun vs=>((cz aL).add (((f+i).toNat)*5)).add 0) (fun vs=>aP.V vf) (fun vs w h=>bN (K:=aP) (h.bg 0 aL aZ m kr) Et),Ww,cR aP 0 (fun vs=>aL) (fun vs=>aZ) (fun vs=>m) ((f+i).toNat) 0 (fun vs=>vf) (fun vs=>Az) 184 (fun vs=>aP.V Az) (fun _=>Et),br (fun vs=>aL) (fun vs=>n) (fun vs=>f+((2*i)+1)) 5 (fun vs w h=>Kd.cd (K:=aP) (xs:=m.set ((f+i).toNat) Az) (h.bg 0 aL aZ (m.set ((f+i).toNat) Az) kr) dg),cR aP 1 (fun vs=>aL) (fun vs=>aZ) (fun vs=>m.set ((f+i).toNat) Az) ((f+((2*i)+1)).toNat) 0 (fun vs=>nG) (fun vs=>vf) 184 (fun vs=>aP.V vf) (fun _=>CV),trivial⟩ fun v30=>aa 5 fun _=>aB _ ((2*i)+1,(m.set ((f+i).toNat) Az).set ((f+((2*i)+1)).toNat) vf) [2] kr ⟨((swap_perm Et Te).trans jA),⟨by omega,by omega⟩⟩ du
def X1 (aL:OA) (aZ n:Nat) (ns:List Nd) (a b:Int) (hn:ns.length=n) (hl:n≤1000000) (wB:0≤a∧a<b∧b≤n):Ct Cp 278 #[sl aL n aZ,iv a,iv b,.func (.func 234) #[] #[]] (fun _=>True) [aP.row aL aZ ns] (fun v Cs=> ∃m,v=.tuple #[]∧m.Perm ns∧Cs= [aP.row aL aZ m]):=by
 refine Fz [.k (aP.row aL aZ ns)] Tryz.func278 fun U w0 hp=>aa 14 fun _=>ao 16 (b-a)<|aa 7 fun _=>ao 18 ((b-a)-1)<|aa 1 fun _=>aC 19 (iv (((b-a)-1)/2)) (iv (IntKind.i64.wrap (Int.tdiv ((b-a)-1) 2))) Rp<|aa 3 fun _=>aR (σ:=Int×List Nd) (fun (i,m)=> [(0,sl aL n aZ),(3,.func (.func 234) #[] #[]),(8,iv a),(9,iv 0),(10,iv (b-a)),(11,iv i)]) qk0 (fun (i,m)=>m.Perm ns∧ -1≤i∧i<b-a) (fun (i,m)=>(i+1).toNat) (((b-a)-1)/2,ns) [0] ⟨(List.Perm.refl _),⟨by omega,by omega⟩⟩ ?_
 rintro _ ⟨i,m⟩ ⟨jA,⟨hi0,hih⟩⟩ aB
 have Ga:m.length=n:=by rw [jA.length_eq];omega
 refine aa 6 fun _=>aq (i≥0) (fun h1=>?_) (fun h1=>?_)
 ·refine aa 9 fun _=>ah (Ro aL aZ n m i (b-a) a dg (by omega) (by omega)) [0] cJ ?_
  rintro _ _ ⟨m2,rfl,f3,rfl⟩
  have Jp:m2.length=n:=by rw [f3.length_eq];first|omega|(simp only [cX];omega)
  refine aa 5 fun _=>ao 23 (i-1)<|aa 2 fun _=>aB _ (i-1,m2) [1] kr ⟨(f3.trans jA),⟨by omega,by omega⟩⟩ du
 ·refine aa 5 fun _=>ao 31 ((b-a)-1)<|aa 3 fun _=>aR (σ:=Int×List Nd) (fun (i,m1)=> [(0,sl aL n aZ),(3,.func (.func 234) #[] #[]),(8,iv a),(9,iv 0),(12,iv i)]) (fun (i,m1)=> [.k (aP.row aL aZ m1)]) (fun (i,m1)=>m1.Perm ns∧ -1≤i∧i<b-a) (fun (i,m1)=>(i+1).toNat) (b-a-1,m) [0] ⟨jA,⟨by omega,by omega⟩⟩ ?_
  rintro _ ⟨i,m1⟩ ⟨jT,⟨hi0,hih⟩⟩ dG
  have CR:m1.length=n:=by rw [jT.length_eq];omega
  refine aa 6 fun _=>aq (i≥0) (fun h4=>?_) (fun h4=>?_)
  ·refine aa 4 fun _=>Exists.elim (aw (xs:=m1) (k:=(a+i).toNat) dg) fun x5 e6=>Exists.elim (aw (xs:=m1) (k:=a.toNat) dg) fun x7 e8=>Exists.elim (aw (xs:=m1.set a.toNat x5) (k:=(a+i).toNat) dg) fun x9 ng=>aO [(5,_),(9,_),(10,_),(11,_),(14,_),(15,_),(16,_),(17,_),(18,_),(19,_)] [] ⟨ql7,ql7,br (fun vs=>aL) (fun vs=>n) (fun vs=>a+i) 5 Ws,cZ 184 (fun vs=>((cz aL).add (((a+i).toNat)*5)).add 0) (fun vs=>aP.V x5) qnh,qww,cZ 184 (fun vs=>ad aL (a.toNat*5) 0) (fun vs=>aP.V x7) qng,qww,cR aP 0 (fun vs=>aL) (fun vs=>aZ) (fun vs=>m1) a.toNat 0 (fun vs=>x7) (fun vs=>x5) 184 (fun vs=>aP.V x5) (fun _=>e8),br (fun vs=>aL) (fun vs=>n) (fun vs=>a+i) 5 (fun vs w h=>Kd.cd (K:=aP) (xs:=m1.set a.toNat x5) (h.bg 0 aL aZ (m1.set a.toNat x5) kr) dg),cR aP 1 (fun vs=>aL) (fun vs=>aZ) (fun vs=>m1.set a.toNat x5) ((a+i).toNat) 0 (fun vs=>x9) (fun vs=>x7) 184 (fun vs=>aP.V x7) (fun _=>ng),trivial⟩ fun v11=>aa 6 fun _=>ah (Ro aL aZ n ((m1.set a.toNat x5).set ((a+i).toNat) x7) 0 i a dg (by omega) (by omega)) [2] cJ ?_
   rintro _ _ ⟨m12,rfl,f13,rfl⟩
   have aiR:m12.length=n:=by rw [f13.length_eq];first|omega|(simp only [cX];omega)
   refine aa 5 fun _=>ao 35 (i-1)<|aa 2 fun _=>dG _ (i-1,m12) [3] kr ⟨(f13.trans ((swap_perm e8 e6).trans jT)),⟨by omega,by omega⟩⟩ du
  ·exact qj8

/- For the law of worlds: What lies in memory; What functions do. -/
import Derived.Test.YtfookmefmjhonaaGreatZ22
set_option linter.all false
namespace Go.Proofs.YtfookmefmjhonaaGreat.My
open Go.RowKit Go.bE
section
def Nw (A:OA) (c:Nat) (ls:List iZ) (Cs:List aM):Prop:= ∃xs:List bj,xs.map bj.d=ls∧Cs= [eS.row A c xs,aM.all (xs.map bj.own)]
def kI (A:OA) (c:Nat) (ls:List iZ):aM:=g9 (Nw A c ls)
section
variable {α:Type} {p:α→Bool} {xs:List α} {k:Nat} {x:α}
def eU (p:α→Bool) (xs:List α):Int:=if xs.any p=true then (xs.findIdx p:Int) else-1
def om (h: ∀y∈xs.take k,p y=false) (e:xs[k]? =some x) (hx:p x=true):eU p xs=k:=by
 have hk:=(aN.1 e).1
 have S9:=(aN.1 e).2
 have h1:xs.any p=true:=List.any_eq_true.2 ⟨x,aI e,hx⟩
 have h2:xs.findIdx p=k:=by
  rw [List.findIdx_eq hk]
  refine ⟨by rw [S9];exact hx,fun j hj=>?_⟩
  exact h _ (List.mem_take_iff_getElem.2 ⟨j,by omega,rfl⟩)
 unfold eU
 rw [if_pos h1,h2]
def jV (h: ∀y∈xs.take k,p y=false) (hk:xs.length≤k):eU p xs= -1:=by
 rw [cA hk] at h
 unfold eU
 rw [if_neg]
 rw [List.any_eq_true]
 rintro ⟨y,hy,h2⟩
 rw [h y hy] at h2;cases h2
def mc (h: ∀y∈xs.take k,p y=false) (e:xs[k]? =some x) (hx:p x=false): ∀y∈xs.take (k+1),p y=false:=fun y hy=>by
 rw [← bp e] at hy
 rcases eG.1 hy with h1|h1
 ·exact h y h1
 ·simp at h1;subst h1;exact hx
def yx:0≤eU p xs↔xs.any p=true:=by
 unfold eU
 split
 ·rename_i h;exact ⟨fun _=>h,fun _=>by omega⟩
 ·rename_i h;exact ⟨fun h2=>by omega,fun h2=>absurd h2 h⟩
def xE (h:0≤eU p xs): ∃x,xs[(eU p xs).toNat]? =some x∧p x=true:=by
 have h1:=yx.1 h
 unfold eU
 rw [if_pos h1]
 have h2:xs.findIdx p<xs.length:=List.findIdx_lt_length.2 (List.any_eq_true.1 h1)
 exact ⟨xs[xs.findIdx p],by simp [h2],List.findIdx_getElem⟩
end
end
def adD {l:List Rg} {p:Int} {i:Nat} (h:zz (fun x:Rg=>dO x.prop p) l i): ∃m,l[i]? =some m∧m.prop=p:=by obtain ⟨m,h1,h2⟩:=h;exact ⟨m,h1,(Jm _ _).1 h2⟩
def Jn {l:List Rg} {p:Int} {i:Nat} (h: ¬zz (fun x:Rg=>dO x.prop p) l i): ∀m,l[i]? =some m→m.prop≠p:=fun m hm e=>h ⟨m,hm,(Jm _ _).2 e⟩
def Jo (Al:OA) (cl:Nat) (l:List Rg) (r:Rg) (hs:lA l) (hb:l.length≤1000000):Ct Cp 187 #[sl Al l.length cl,eH.V r] (fun w=>eH.Rd Al l w) [] (fun v Cs=> ∃A c,v=sl A ((cO r l).length) c∧Cs= [eH.row A c (cO r l)]):=by
 refine cc Tryz.func187 fun w0 hp=>?_
 have Nf:=CT (tD hs r.prop)
 refine aa 8 fun a8=>ah (Ex Al cl l (by omega)) [] il ?_
 rintro _ _ ⟨A2,c3,rfl,rfl⟩
 refine ae 7 [0] fun _=>ah (Oe A2 c3 l r.prop (tD hs _) (by omega)) [] (fun w h=>h.bg 1 A2 c3 l kr) ?_
 rintro _ _ ⟨rfl,rfl⟩
 refine aa 14 fun _=>cU (zz (fun z_:Rg=>dO z_.prop r.prop) l (db (fun z_:Rg=>dO z_.prop r.prop) l)) (fun h4=>?_) (fun h4=>?_)
 ·refine ae 6 [0] fun jn=>ah (Gb A2 c3 l (db (fun z_:Rg=>dO z_.prop r.prop) l) (jn 5) r tE (by omega)) [1,2] cJ ?_
  rintro _ _ ⟨A6,c7,rfl,rfl⟩
  refine aa 2 fun _=>aS eH 3 A6 c7 (l.take (db (fun z_:Rg=>dO z_.prop r.prop) l)++r::l.drop (db (fun z_:Rg=>dO z_.prop r.prop) l)) (cO r l) kr ((tF Nf (Jn h4)).symm)<|a_ [4] ⟨A6,c7,kt (sl A6 ((l.take (db (fun z_:Rg=>dO z_.prop r.prop) l)++r::l.drop (db (fun z_:Rg=>dO z_.prop r.prop) l)).length) c7) (by rw [tF Nf (Jn h4)]),kr⟩
 ·obtain ⟨m,hm⟩:=adD h4
  refine aa 1 fun _=>aK [(2,_),(4,bZ.V m.st),(7,iv (bl m.st r.st))] [0] ⟨bF (hj:=by have:=(aN.1 hm.1).1;omega) A2 l.length (db (fun z_:Rg=>dO z_.prop r.prop) l:Int) 4 qju,cB 29 (((cz A2).add ((db (fun z_:Rg=>dO z_.prop r.prop) l)*4)).add 2) (fun w h=>iy (K:=eH) (o:=2) (m:=2) (sub:= [iv m.st.t,iv m.st.r]) (h.bg 1 A2 c3 l kr) hm.1),bT (pS m.st r.st) jU,trivial⟩ ?_
  refine aq ((bl m.st r.st)<0) (fun h8=>?_) (fun h8=>?_)
  ·refine ae 4 [0] fun _=>aV (hj:=by have:=(aN.1 hm.1).1;omega) A2 l.length (db (fun z_:Rg=>dO z_.prop r.prop) l:Int) 4 qju ?_
   refine gH eH 1 A2 c3 l (db (fun z_:Rg=>dO z_.prop r.prop) l) 0 m r 178 (eH.V r) hm.1<|aa 7 fun _=>aS eH 1 A2 c3 (l.set (db (fun z_:Rg=>dO z_.prop r.prop) l) r) (cO r l) kr (((nF Nf hm.1 hm.2).trans (if_pos h8)).symm)<|a_ [2] ⟨A2,c3,kt (sl A2 l.length c3) (by rw [(nF Nf hm.1 hm.2).trans (if_pos h8)];simp only [cX]),kr⟩
  ·refine aa 7 fun _=>aS eH 1 A2 c3 l (cO r l) kr (((nF Nf hm.1 hm.2).trans (if_neg h8)).symm)<|a_ [2] ⟨A2,c3,kt (sl A2 l.length c3) (by rw [(nF Nf hm.1 hm.2).trans (if_neg h8)]),kr⟩
def Gc (e:cD) (b:Nat) (x:aT):Ct Cp 150 #[gq.V e,pv b] (fun _=>True) [bJ b 56 (aT.cells x)] (fun v Cs=>v=.bool (cS e.x.o.st x.o.st)∧Cs= [bJ b 56 (aT.cells x)]):=by
 refine Fz [.b b 56 (aT.cells x)] Tryz.func150 fun U w0 hp=>ae 15 [1,0] fun a8=>Of
def Og (aU:OA) (bb:Nat) (xs:List cD) (b:Nat) (x:aT) (hb:xs.length≤1073741824):hO Cp 183 #[sl aU xs.length bb,.func (.func 150) #[] #[pv b]] (fun U w=>gq.gx aU xs U w) [bJ b 56 (aT.cells x)] (fun v Cs=>v=iv (eU (fun e:cD=>cS e.x.o.st x.o.st) xs)∧Cs= [bJ b 56 (aT.cells x)]):=by
 refine kz [.b b 56 (aT.cells x)] Tryz.func183 fun U w0 hp=>aa 12 fun _=>aR (σ:=Nat) (fun k=> [(0,sl aU xs.length bb),(1,.func (.func 150) #[] #[pv b]),(4,iv 0),(7,iv (xs.length:Int)),(8,iv k)]) qsc (fun k=>k≤xs.length∧ ∀y∈xs.take k,(fun e:cD=>cS e.x.o.st x.o.st) y=false) (fun k=>xs.length-k) 0 [0] ⟨bh _,by simp⟩ ?_
 rintro _ k ⟨hk,hy⟩ aB
 refine aa 5 fun _=>aq ((k:Int)<(xs.length:Int)) (fun h1=>?_) (fun h1=>?_)
 ·refine aa 13 fun _=>aV aU xs.length (k:Int) 17 (fun w h=>Kd.cd (K:=gq) (xs:=xs) ((hp.aE h.ch).rc) (by omega)) ?_
  obtain ⟨x2,e3⟩:=aw (xs:=xs) (k:=k) (by omega)
  refine bd 187 (ad aU (k*17) 0) (gq.V x2) (fun w h=>bN (K:=gq) ((hp.aE h.ch).rc) e3)<|ah (Gc x2 b x) [0] cJ ?_
  rintro _ _ ⟨rfl,rfl⟩
  refine dB 1 b 56 (aT.cells x)<|aa 1 fun _=>eQ (cS x2.x.o.st x.o.st) (fun h4=>?_) (fun h4=>?_)
  ·refine aa 5 fun _=>a_ [1] ⟨kt (iv k) (by rw [om (p:=fun e:cD=>cS e.x.o.st x.o.st) hy e3 Ir]),kr⟩
  ·refine aa 4 fun _=>ao 18 ((k:Int)+1)<|aa 2 fun _=>aB _ (k+1) [1] kr ⟨by omega,mc (p:=fun e:cD=>cS e.x.o.st x.o.st) hy e3 Ir⟩ (by omega)
 ·refine aa 5 fun _=>a_ [0] ⟨kt (iv (-1)) (by rw [jV (p:=fun e:cD=>cS e.x.o.st x.o.st) hy (by omega)]),kr⟩
def CU (aU:OA) (bb:Nat) (xs:List cD) (b:Nat) (x:aT) (hb:xs.length≤1073741824):hO Cp 149 #[sl aU xs.length bb,.func (.func 150) #[] #[pv b]] (fun U w=>gq.gx aU xs U w) [bJ b 56 (aT.cells x)] (fun v Cs=>v=.bool (xs.any (fun e:cD=>cS e.x.o.st x.o.st))∧Cs= [bJ b 56 (aT.cells x)]):=by
 refine kz [.b b 56 (aT.cells x)] Tryz.func149 fun U w0 hp=>aa 8 fun _=>bD (Og aU bb xs b x (by omega)) [0] Ad ?_
 rintro _ _ ⟨rfl,rfl⟩
 refine dB 1 b 56 (aT.cells x)<|aa 3 fun _=>a_ [1] ⟨kt (.bool (decide ((eU (fun e:cD=>cS e.x.o.st x.o.st) xs)≥0))) (dP qjp),kr⟩
section
abbrev pE (xs:List bj) (y:cN):Nat:=db (fun x:bj=>bl x.id y) xs
def zt {xs:List bj} {ls:List iZ} (hx:xs.map bj.d=ls) (hs:iY ls) (y:cN):tS (fun x:bj=>bl x.id y) xs:=by
 subst hx
 have h1:xs.Pairwise fun a b=>slt a.id b.id:=(List.pairwise_map (f:=bj.d) (R:=fun a b:iZ=>slt a.id b.id)).1 hs
 exact h1.imp fun h k=>slt.trans h k
def SM {xs:List bj} {ls:List iZ} (hx:xs.map bj.d=ls) (hs:iY ls) (y:cN):RG (fun x:iZ=>bl x.id y) ls (pE xs y):=by
 obtain ⟨h1,h2,h3⟩:=CT (zt hx hs y)
 subst hx
 refine ⟨by rw [cM];exact h1,fun m hm=>?_,fun m hm=>?_⟩
 ·rw [← List.map_take] at hm
  obtain ⟨k,hk,rfl⟩:=List.mem_map.1 hm
  exact h2 k hk
 ·rw [← List.map_drop] at hm
  obtain ⟨k,hk,rfl⟩:=List.mem_map.1 hm
  exact h3 k hk
def MX {xs:List bj} {y:cN} (h:zz (fun x:bj=>bl x.id y) xs (pE xs y)): ∃m,xs[pE xs y]? =some m∧m.id=y:=by
 obtain ⟨m,h1,h2⟩:=h
 exact ⟨m,h1,(qc _ _).1 h2⟩
def MY {xs:List bj} {ls:List iZ} (hx:xs.map bj.d=ls) (hs:iY ls) {y:cN} {r:Rg} {m:bj} (hm:xs[pE xs y]? =some m∧m.id=y) {A:OA} {c:Nat}:(xs.set (pE xs y) (⟨m.id,cO r m.bX,A,c⟩:bj)).map bj.d=gY y r ls:=by
 have h1:ls[pE xs y]? =some m.d:=by rw [← hx,fk,hm.1];rfl
 rw [AU (SM hx hs y) h1 hm.2,List.map_set,hx]
 simp only [bj.d,hm.2]
def MW {xs:List bj} {ls:List iZ} (hx:xs.map bj.d=ls) (hs:iY ls) {y:cN} {r:Rg} {z:bj} (hn: ¬zz (fun x:bj=>bl x.id y) xs (pE xs y)) {A:OA} {c:Nat}:((xs.take (pE xs y)++z::xs.drop (pE xs y)).set (pE xs y) (⟨y,cO r [],A,c⟩:bj)).map bj.d=gY y r ls:=by
 have hle:pE xs y≤xs.length:=tE
 rw [AT (SM hx hs y),List.set_append_right _ _ C7,b0,fD hle,Nat.sub_self,List.set_cons_zero,cT,fm,List.map_take,List.map_drop,hx]
 ·rfl
 ·intro m hm e
  rw [← hx,fk] at hm
  obtain ⟨k,hk,rfl⟩:=fV.1 hm
  exact hn ⟨k,hk,(qc _ _).2 e⟩
def V6 {α:Type} {xs:List α} {z:α} {i:Nat} (h:i≤xs.length):(xs.take i++z::xs.drop i)[i]? =some z:=by
 rw [gD C7,b0,fD h,Nat.sub_self];rfl
variable {P:Program} {n:Nat} {U:Nat→Prop} {w0:World} {Q:Exit→Act→World→Prop} {s:S} {β:Type}
def _root_.Go.bE.FQ {X Y K:List aM} {A:aM} {w:World} (h:SS U w0 w (A::aM.all (X++Y)::K)):SS U w0 w (aM.all (X++A::Y)::K):=by
 refine SS.tz ?_
 have h1:=SS.all (h.perm (List.Perm.swap _ _ _))
 refine h1.perm ?_
 rw [cH,cH]
 refine List.Perm.append_left X ?_
 rw [List.cons_append]
 exact List.perm_middle
def _root_.Go.bE.zW (a j i:Nat) (f:β→aM) (l:List β) (x:β) (h:(dR s.H.length [a,j],pk s.H [a,j])=(true,[f x,aM.all (l.map f)])) (k:G P n U w0 Q {s with H:=gv s.H [a,j] [.k (aM.all ((l.take i++x::l.drop i).map f))]}):G P n U w0 Q s:=
 js [a,j] _ [.k (aM.all ((l.take i++x::l.drop i).map f))] h (fun w K hS=>by
  have h2:SS U w0 w (f x::aM.all (l.map f)::K):=hS
  have e:l.map f=(l.take i).map f++(l.drop i).map f:=by rw [← cT,List.take_append_drop]
  rw [e] at h2
  have:=FQ h2
  rw [cT,fm]
  exact this) k
def _root_.Go.bE.B_ (a j i:Nat) (f:β→aM) (l:List β) (x:β) (hi:i<l.length) (h:(dR s.H.length [a,j],pk s.H [a,j])=(true,[f x,aM.all (l.map f)])) (k:G P n U w0 Q {s with H:=gv s.H [a,j] [.k (aM.all ((l.set i x).map f))]}):G P n U w0 Q s:=
 js [a,j] _ [.k (aM.all ((l.set i x).map f))] h (fun w K hS=>by
  have h2:SS U w0 w (f x::aM.all (l.map f)::K):=hS
  have e:l.map f=(l.take i).map f++f l[i]::(l.drop (i+1)).map f:=by
   conv=>lhs;rw [← List.take_append_drop i l,fI hi]
   rw [cT,fm]
  have e2:(l.set i x).map f=(l.take i).map f++f x::(l.drop (i+1)).map f:=by rw [List.set_eq_take_append_cons_drop,if_pos hi,cT,fm]
  have h3:SS U w0 w (f x::aM.all ((l.take i).map f++(l.drop (i+1)).map f)::K):=by
   rw [e] at h2
   have h4:=SS.all (h2.perm (List.Perm.swap _ _ _))
   have h5:SS U w0 w (f l[i]::((l.take i).map f++(l.drop (i+1)).map f)++(f x::K)):=h4.perm qnn
   have h6:SS U w0 w (((l.take i).map f++(l.drop (i+1)).map f)++(f x::K)):=h5.tail
   exact (SS.tz h6).perm (List.Perm.swap _ _ _)
  have:=FQ h3
  rw [e2]
  exact this) k
end
def nq (l:List bz) (o:bz):List bz:=if o.kind=1 then eP o l else l
def B9 (An:OA) (cn:Nat) (Am:OA) (cm:Nat) (Al:OA) (cl:Nat) (x:aT) (l:List bz) (ls:List iZ) (ux:mZ l) (Bu: ∀m∈l,bV m) (hl:l.length≤100000) (wY:iY ls) (E0: ∀k∈ls,lA k.bX∧k.bX.length≤100000) (s4:ls.length≤100000) (wR:x.o.kind=1→ ∀m∈l,m.st≠x.o.st):hO Cp 151 #[.agg #[sl An ((ai l []).length) cn,sl Am l.length cm,sl Al ls.length cl],bx.V x] (fun U w=>x.gx U w) [iK An cn Am cm l,kI Al cl ls] (fun v Cs=> ∃A3 c3 A4 c4 A5 c5,v=.tuple #[.agg #[sl A3 ((ai (nq l x.o) []).length) c3,sl A4 ((nq l x.o).length) c4,sl A5 ((eC ls x.o).length) c5],iv 0]∧Cs= [iK A3 c3 A4 c4 (nq l x.o),kI A5 c5 (eC ls x.o)]):=by
 refine kz [.k (iK An cn Am cm l),.k (kI Al cl ls)] Tryz.func151 fun U w0 hp=>ae 14 [3] fun a8=>aq (x.o.kind=1) (fun h2=>?_) (fun h2=>?_)
 ·have hk:=h2
  refine ae 5 [2,3] fun _=>bD (Pp An cn Am cm x l ux (wR hk) Bu (by omega)) [0] Ad ?_
  rintro _ _ ⟨A3,c4,A5,c6,rfl,rfl⟩
  refine ae 27 [6,6,2,2,4] fun AA=>aD 5 (iK A3 c4 A5 c6 (eP x.o l)) (iK A3 c4 A5 c6 (nq l x.o)) kr (by rw [show nq l x.o=eP x.o l from if_pos hk])<|aD 1 (kI Al cl ls) (kI Al cl (eC ls x.o)) kr (by rw [show eC ls x.o=ls from if_pos hk])<|bk [4] [7,8] ⟨A3,c4,A5,c6,Al,cl,kt (.tuple #[.agg #[sl A3 ((ai (eP x.o l) []).length) c4,sl A5 ((eP x.o l).length) c6,sl Al ls.length cl],iv 0]) (by rw [show nq l x.o=eP x.o l from if_pos hk,show eC ls x.o=ls from if_pos hk]),kr⟩
 ·have hk:=h2
  refine bn (φ:=Nw Al cl ls) 1 ?_
  rintro _ ⟨xs,rB,rfl⟩
  have zI:xs.length=ls.length:=by rw [← rB,cM]
  refine bP 2 (a8 2) 52 qes [sl An ((ai l []).length) cn,sl Am l.length cm,sl Al xs.length cl] kr (by rw [zI])<|ae 7 [2,3] fun _=>ah (Bd Al cl xs x.o.node (zt rB wY _) (by omega)) [] (fun w h=>h.bg 5 Al cl xs kr) ?_
  rintro _ _ ⟨rfl,rfl⟩
  refine aa 12 fun _=>cU (zz (fun z_:bj=>bl z_.id x.o.node) xs (db (fun z_:bj=>bl z_.id x.o.node) xs)) (fun h8=>?_) (fun h8=>?_)
  ·have wR:=h8
   refine ae 8 [2,3] fun EA=>ah (Di Al cl xs (db (fun z_:bj=>bl z_.id x.o.node) xs) (EA 7) (⟨⟨x.o.node.t,x.o.node.r⟩,[],none,0⟩:bj) tE (by omega)) [5,7] cJ ?_
   rintro _ _ ⟨po,pK,rfl,rfl⟩
   refine ae 4 [2] fun _=>bG eH<|zW 9 6 (pE xs x.o.node) bj.own xs (⟨⟨x.o.node.t,x.o.node.r⟩,[],none,0⟩:bj) kr ?_
   have hz:=V6 (xs:=xs) (z:=(⟨⟨x.o.node.t,x.o.node.r⟩,[],none,0⟩:bj)) (i:=(pE xs x.o.node)) tE
   have ou:db (fun z_:bj=>bl z_.id x.o.node) xs<(xs.take (db (fun z_:bj=>bl z_.id x.o.node) xs)++(⟨⟨x.o.node.t,x.o.node.r⟩,[],none,0⟩:bj)::xs.drop (db (fun z_:bj=>bl z_.id x.o.node) xs)).length:=(aN.1 hz).1
   refine aO [(6,_),(8,_),(16,_),(17,_),(19,_)] [2,2,3,3,3] ⟨qbo,cZ 150 (fun vs=>((cz po).add ((db (fun z_:bj=>bl z_.id x.o.node) xs)*3)).add 2) (fun vs=>sl ((⟨⟨x.o.node.t,x.o.node.r⟩,[],none,0⟩:bj).A) ((⟨⟨x.o.node.t,x.o.node.r⟩,[],none,0⟩:bj).bX.length) ((⟨⟨x.o.node.t,x.o.node.r⟩,[],none,0⟩:bj).c)) (fun vs w h=>bW (K:=eS) (h.bg 8 po pK (xs.take (db (fun z_:bj=>bl z_.id x.o.node) xs)++(⟨⟨x.o.node.t,x.o.node.r⟩,[],none,0⟩:bj)::xs.drop (db (fun z_:bj=>bl z_.id x.o.node) xs)) kr) hz),aY (fun vs=>Jo ((⟨⟨x.o.node.t,x.o.node.r⟩,[],none,0⟩:bj).A) ((⟨⟨x.o.node.t,x.o.node.r⟩,[],none,0⟩:bj).c) ((⟨⟨x.o.node.t,x.o.node.r⟩,[],none,0⟩:bj).bX) (⟨x.o.prop,x.o.val,⟨x.o.st.t,x.o.st.r⟩⟩:Rg) List.Pairwise.nil (bh _)) [] (fun vs=>sl (ak (vs 16)) ((cO (⟨x.o.prop,x.o.val,⟨x.o.st.t,x.o.st.r⟩⟩:Rg) ((⟨⟨x.o.node.t,x.o.node.r⟩,[],none,0⟩:bj).bX)).length) (an (vs 16))) [fun vs=>.k (eH.row (ak (vs 16)) (an (vs 16)) (cO (⟨x.o.prop,x.o.val,⟨x.o.st.t,x.o.st.r⟩⟩:Rg) ((⟨⟨x.o.node.t,x.o.node.r⟩,[],none,0⟩:bj).bX)))] (fun vs w h=>h.o5 10 bj.own (xs.take (db (fun z_:bj=>bl z_.id x.o.node) xs)++(⟨⟨x.o.node.t,x.o.node.r⟩,[],none,0⟩:bj)::xs.drop (db (fun z_:bj=>bl z_.id x.o.node) xs)) (aI hz) rfl kr) kA,qbo,cR eS 8 (fun vs=>po) (fun vs=>pK) (fun vs=>xs.take (db (fun z_:bj=>bl z_.id x.o.node) xs)++(⟨⟨x.o.node.t,x.o.node.r⟩,[],none,0⟩:bj)::xs.drop (db (fun z_:bj=>bl z_.id x.o.node) xs)) (db (fun z_:bj=>bl z_.id x.o.node) xs) 2 (fun vs=>(⟨⟨x.o.node.t,x.o.node.r⟩,[],none,0⟩:bj)) (fun vs=>(⟨⟨(⟨⟨x.o.node.t,x.o.node.r⟩,[],none,0⟩:bj).id.t,(⟨⟨x.o.node.t,x.o.node.r⟩,[],none,0⟩:bj).id.r⟩,(cO (⟨x.o.prop,x.o.val,⟨x.o.st.t,x.o.st.r⟩⟩:Rg) ((⟨⟨x.o.node.t,x.o.node.r⟩,[],none,0⟩:bj).bX)),ak (vs 16),an (vs 16)⟩:bj)) 150 (fun vs=>sl (ak (vs 16)) ((cO (⟨x.o.prop,x.o.val,⟨x.o.st.t,x.o.st.r⟩⟩:Rg) ((⟨⟨x.o.node.t,x.o.node.r⟩,[],none,0⟩:bj).bX)).length) (an (vs 16))) (fun _=>hz),trivial⟩ fun jy=>ae 6 [2,4] fun _=>B_ 11 10 (pE xs x.o.node) bj.own ((xs.take (db (fun z_:bj=>bl z_.id x.o.node) xs)++(⟨⟨x.o.node.t,x.o.node.r⟩,[],none,0⟩:bj)::xs.drop (db (fun z_:bj=>bl z_.id x.o.node) xs))) (⟨⟨(⟨⟨x.o.node.t,x.o.node.r⟩,[],none,0⟩:bj).id.t,(⟨⟨x.o.node.t,x.o.node.r⟩,[],none,0⟩:bj).id.r⟩,(cO (⟨x.o.prop,x.o.val,⟨x.o.st.t,x.o.st.r⟩⟩:Rg) ((⟨⟨x.o.node.t,x.o.node.r⟩,[],none,0⟩:bj).bX)),ak (jy 16),an (jy 16)⟩:bj) (aN.1 hz).1 kr ?_
   have qs:((xs.take (db (fun z_:bj=>bl z_.id x.o.node) xs)++(⟨⟨x.o.node.t,x.o.node.r⟩,[],none,0⟩:bj)::xs.drop (db (fun z_:bj=>bl z_.id x.o.node) xs)).set (db (fun z_:bj=>bl z_.id x.o.node) xs) (⟨⟨(⟨⟨x.o.node.t,x.o.node.r⟩,[],none,0⟩:bj).id.t,(⟨⟨x.o.node.t,x.o.node.r⟩,[],none,0⟩:bj).id.r⟩,(cO (⟨x.o.prop,x.o.val,⟨x.o.st.t,x.o.st.r⟩⟩:Rg) ((⟨⟨x.o.node.t,x.o.node.r⟩,[],none,0⟩:bj).bX)),ak (jy 16),an (jy 16)⟩:bj)).map bj.d=eC ls x.o:=(MW rB wY wR).trans (if_neg hk).symm
   refine aJ (Nw po pK (eC ls x.o)) [12,13] [eS.row po pK ((xs.take (db (fun z_:bj=>bl z_.id x.o.node) xs)++(⟨⟨x.o.node.t,x.o.node.r⟩,[],none,0⟩:bj)::xs.drop (db (fun z_:bj=>bl z_.id x.o.node) xs)).set (db (fun z_:bj=>bl z_.id x.o.node) xs) (⟨⟨(⟨⟨x.o.node.t,x.o.node.r⟩,[],none,0⟩:bj).id.t,(⟨⟨x.o.node.t,x.o.node.r⟩,[],none,0⟩:bj).id.r⟩,(cO (⟨x.o.prop,x.o.val,⟨x.o.st.t,x.o.st.r⟩⟩:Rg) ((⟨⟨x.o.node.t,x.o.node.r⟩,[],none,0⟩:bj).bX)),ak (jy 16),an (jy 16)⟩:bj)),aM.all (((xs.take (db (fun z_:bj=>bl z_.id x.o.node) xs)++(⟨⟨x.o.node.t,x.o.node.r⟩,[],none,0⟩:bj)::xs.drop (db (fun z_:bj=>bl z_.id x.o.node) xs)).set (db (fun z_:bj=>bl z_.id x.o.node) xs) (⟨⟨(⟨⟨x.o.node.t,x.o.node.r⟩,[],none,0⟩:bj).id.t,(⟨⟨x.o.node.t,x.o.node.r⟩,[],none,0⟩:bj).id.r⟩,(cO (⟨x.o.prop,x.o.val,⟨x.o.st.t,x.o.st.r⟩⟩:Rg) ((⟨⟨x.o.node.t,x.o.node.r⟩,[],none,0⟩:bj).bX)),ak (jy 16),an (jy 16)⟩:bj)).map bj.own)] (⟨_,qs,rfl⟩) ?_
   have Cr:((xs.take (db (fun z_:bj=>bl z_.id x.o.node) xs)++(⟨⟨x.o.node.t,x.o.node.r⟩,[],none,0⟩:bj)::xs.drop (db (fun z_:bj=>bl z_.id x.o.node) xs)).set (db (fun z_:bj=>bl z_.id x.o.node) xs) (⟨⟨(⟨⟨x.o.node.t,x.o.node.r⟩,[],none,0⟩:bj).id.t,(⟨⟨x.o.node.t,x.o.node.r⟩,[],none,0⟩:bj).id.r⟩,(cO (⟨x.o.prop,x.o.val,⟨x.o.st.t,x.o.st.r⟩⟩:Rg) ((⟨⟨x.o.node.t,x.o.node.r⟩,[],none,0⟩:bj).bX)),ak (jy 16),an (jy 16)⟩:bj)).length=(eC ls x.o).length:=by rw [← qs,cM]
   refine aD 0 (iK An cn Am cm l) (iK An cn Am cm (nq l x.o)) kr qpu<|bk [4] [15,14] ⟨An,cn,Am,cm,po,pK,kt (.tuple #[.agg #[sl An ((ai l []).length) cn,sl Am l.length cm,sl po ((xs.take (db (fun z_:bj=>bl z_.id x.o.node) xs)++(⟨⟨x.o.node.t,x.o.node.r⟩,[],none,0⟩:bj)::xs.drop (db (fun z_:bj=>bl z_.id x.o.node) xs)).length) pK],iv 0]) qlw,kr⟩
  ·obtain ⟨m,hm⟩:=MX h8
   have ou:db (fun z_:bj=>bl z_.id x.o.node) xs<xs.length:=(aN.1 hm.1).1
   refine aa 2 fun _=>aO [(6,_),(8,_),(16,_),(17,_),(19,_)] [2,2,3,3,3] ⟨qf4,cZ 150 (fun vs=>((cz Al).add ((db (fun z_:bj=>bl z_.id x.o.node) xs)*3)).add 2) (fun vs=>sl m.A m.bX.length m.c) (fun vs w h=>bW (K:=eS) (h.bg 5 Al cl xs kr) hm.1),aY (fun vs=>Jo m.A m.c m.bX (⟨x.o.prop,x.o.val,⟨x.o.st.t,x.o.st.r⟩⟩:Rg) ((E0 m.d qq9).1) (eF (E0 m.d qq9).2 (by decide))) [] (fun vs=>sl (ak (vs 16)) ((cO (⟨x.o.prop,x.o.val,⟨x.o.st.t,x.o.st.r⟩⟩:Rg) m.bX).length) (an (vs 16))) [fun vs=>.k (eH.row (ak (vs 16)) (an (vs 16)) (cO (⟨x.o.prop,x.o.val,⟨x.o.st.t,x.o.st.r⟩⟩:Rg) m.bX))] (fun vs w h=>h.o5 6 bj.own xs (aI hm.1) rfl kr) kA,qf4,cR eS 5 (fun vs=>Al) (fun vs=>cl) (fun vs=>xs) (db (fun z_:bj=>bl z_.id x.o.node) xs) 2 (fun vs=>m) (fun vs=>(⟨⟨m.id.t,m.id.r⟩,(cO (⟨x.o.prop,x.o.val,⟨x.o.st.t,x.o.st.r⟩⟩:Rg) m.bX),ak (vs 16),an (vs 16)⟩:bj)) 150 (fun vs=>sl (ak (vs 16)) ((cO (⟨x.o.prop,x.o.val,⟨x.o.st.t,x.o.st.r⟩⟩:Rg) m.bX).length) (an (vs 16))) (fun _=>hm.1),trivial⟩ fun gW=>ae 6 [2,4] fun _=>B_ 7 6 (pE xs x.o.node) bj.own xs (⟨⟨m.id.t,m.id.r⟩,(cO (⟨x.o.prop,x.o.val,⟨x.o.st.t,x.o.st.r⟩⟩:Rg) m.bX),ak (gW 16),an (gW 16)⟩:bj) (aN.1 hm.1).1 kr ?_
   have qs:(xs.set (db (fun z_:bj=>bl z_.id x.o.node) xs) (⟨⟨m.id.t,m.id.r⟩,(cO (⟨x.o.prop,x.o.val,⟨x.o.st.t,x.o.st.r⟩⟩:Rg) m.bX),ak (gW 16),an (gW 16)⟩:bj)).map bj.d=eC ls x.o:=(MY rB wY hm).trans (if_neg hk).symm
   refine aJ (Nw Al cl (eC ls x.o)) [8,9] [eS.row Al cl (xs.set (db (fun z_:bj=>bl z_.id x.o.node) xs) (⟨⟨m.id.t,m.id.r⟩,(cO (⟨x.o.prop,x.o.val,⟨x.o.st.t,x.o.st.r⟩⟩:Rg) m.bX),ak (gW 16),an (gW 16)⟩:bj)),aM.all ((xs.set (db (fun z_:bj=>bl z_.id x.o.node) xs) (⟨⟨m.id.t,m.id.r⟩,(cO (⟨x.o.prop,x.o.val,⟨x.o.st.t,x.o.st.r⟩⟩:Rg) m.bX),ak (gW 16),an (gW 16)⟩:bj)).map bj.own)] (⟨_,qs,rfl⟩) ?_
   have Cr:(xs.set (db (fun z_:bj=>bl z_.id x.o.node) xs) (⟨⟨m.id.t,m.id.r⟩,(cO (⟨x.o.prop,x.o.val,⟨x.o.st.t,x.o.st.r⟩⟩:Rg) m.bX),ak (gW 16),an (gW 16)⟩:bj)).length=(eC ls x.o).length:=by rw [← qs,cM]
   refine aD 0 (iK An cn Am cm l) (iK An cn Am cm (nq l x.o)) kr qpu<|bk [4] [11,10] ⟨An,cn,Am,cm,Al,cl,kt (.tuple #[.agg #[sl An ((ai l []).length) cn,sl Am l.length cm,sl Al xs.length cl],iv 0]) qlw,kr⟩
structure j9 where
 rep:Int
 hv:List Int
 ops:List bz
 held:List bz
 wait:Int
 dT:Int
 aW:Int
structure Ac where
 Ah:OA
 ch:Nat
 Ao:OA
 co:Nat
 Ax:OA
 cx:Nat
 An:OA
 cn:Nat
 Am:OA
 cm:Nat
 Al:OA
 cl:Nat
def bq (l:List bz):Int:=l.foldl (fun t o=>if o.st.t>t then o.st.t else t) 0
def r9 (l:List bz) (o:bz):bq (l++ [o])=if o.st.t>bq l then o.st.t else bq l:=by simp [bq]
structure c_ where
 d:j9
 a:Ac
abbrev c_.cells (v:c_):List Value:= [iv v.d.rep,iv (bq v.d.ops),.slice v.a.Ah v.d.hv.length v.a.ch,.slice v.a.Ao v.d.ops.length v.a.co,.slice v.a.Ax v.d.held.length v.a.cx,.slice v.a.An (ai (dJ v.d.ops) []).length v.a.cn,.slice v.a.Am (dJ v.d.ops).length v.a.cm,.slice v.a.Al (fY v.d.ops).length v.a.cl,iv v.d.wait,iv v.d.dT,iv v.d.aW]
def CS:Kd c_:=⟨54,11,c_.cells,fun _=>rfl,fun _=>rfl,by decide⟩
def SP (v:c_) (Cs:List aM):Prop:=Cs= [az.row v.a.Ah v.a.ch v.d.hv,cV v.a.Ao v.a.co v.d.ops,cV v.a.Ax v.a.cx v.d.held,iK v.a.An v.a.cn v.a.Am v.a.cm (dJ v.d.ops),kI v.a.Al v.a.cl (fY v.d.ops)]
def SA (v:c_):aM:=g9 (SP v)
def pT (g:Nat) (d:j9) (Cs:List aM):Prop:= ∃a:Ac,Cs= [bJ g 54 (c_.cells ⟨d,a⟩),SA ⟨d,a⟩]
def oY (g:Nat) (d:j9):aM:=g9 (pT g d)
structure gI (d:j9):Prop where
 ops: ∀o∈d.ops,bV o
 held: ∀o∈d.held,bV o
 hv:d.hv.length≤16
 ol:d.ops.length≤3000
 hl:d.held.length≤16
def gI.ml {d:j9} (h:gI d):(dJ d.ops).length≤3000:=eF (k6 d.ops).ml h.ol
def gI.mm {d:j9} (h:gI d): ∀m∈dJ d.ops,bV m:=fun m hm=>h.ops m ((k6 d.ops).mem m hm)
def gI.ll {d:j9} (h:gI d):(fY d.ops).length≤3000:=eF (k6 d.ops).ll h.ol
def gI.rs {d:j9} (h:gI d): ∀k∈fY d.ops,lA k.bX∧k.bX.length≤100000:=fun k hk=>by
 have:=(k6 d.ops).rs k hk
 have:=h.ol
 exact ⟨(k6 d.ops|>.rs k hk).1,by omega⟩
def Jl {l:List bz} {ms:List cD} (h:ms.map cD.d=fz l []) (s:cN):ms.any (fun e=>cS e.x.o.st s)=l.any (fun m=>cS m.st s):=by
 have e:l=ms.map (fun e=>e.x.o):=by rw [← oj l [],← h,List.map_map];rfl
 rw [e,List.any_map];rfl
def V7 (An:OA) (cn:Nat) (Am:OA) (cm:Nat) (Al:OA) (cl:Nat) (x:aT) (l:List bz) (ls:List iZ) (ux:mZ l) (Bu: ∀m∈l,bV m) (hl:l.length≤100000) (wY:iY ls) (E0: ∀k∈ls,lA k.bX∧k.bX.length≤100000) (s4:ls.length≤100000):hO Cp 107 #[.agg #[sl An ((ai l []).length) cn,sl Am l.length cm,sl Al ls.length cl],bx.V x] (fun U w=>x.gx U w) [iK An cn Am cm l,kI Al cl ls] (fun v Cs=> ∃A3 c3 A4 c4 A5 c5,v=.agg #[sl A3 ((ai (eW l x.o) []).length) c3,sl A4 ((eW l x.o).length) c4,sl A5 ((eC ls x.o).length) c5]∧Cs= [iK A3 c3 A4 c4 (eW l x.o),kI A5 c5 (eC ls x.o)]):=by
 refine kz [.k (iK An cn Am cm l),.k (kI Al cl ls)] Tryz.func107 fun U w0 hp=>ae 13 [3] fun a8=>aG 8 (x.o.kind=1) (fun h2=>?_) (fun h2=>?_)
 ·have hk:=h2
  refine bn (φ:=GF An cn Am cm l) 0 ?_
  rintro _ ⟨ms,mO,rfl⟩
  have oO:=iC mO
  refine bP 2 (a8 2) 52 qes qg4 kr (by rw [oO])<|ae 4 [2] fun _=>bD (CU Am cm ms (a8 3) x (by omega)) [3] (fun w F h=>h.F8 6 Am cm ms kr) ?_
  rintro _ _ ⟨rfl,rfl⟩
  refine dB 8 (a8 3) 56 (aT.cells x)<|aa 2 fun _=>eQ (ms.any (fun e:cD=>cS e.x.o.st x.o.st)) (fun h3=>?_) (fun h3=>?_)
  ·refine bP 2 (a8 2) 52 qg4 qes kr (by rw [oO])<|aJ (GF An cn Am cm l) [5,6,7] qld (⟨ms,mO,rfl⟩) ?_
   have ahI:l.any (fun m=>cS m.st x.o.st)=true:=by rw [← Jl mO];exact h3
   refine ae 5 [2,4] fun _=>?_
   have e1:eW l x.o=l:=(if_pos hk).trans (if_pos ahI)
   have e2:eC ls x.o=ls:=if_pos hk
   refine aD 1 (kI Al cl ls) (kI Al cl (eC ls x.o)) kr (by rw [e2])<|aD 9 (iK An cn Am cm l) (iK An cn Am cm (eW l x.o)) kr (by rw [e1])<|bk [4] [11,10] ⟨An,cn,Am,cm,Al,cl,kt (.agg #[sl An ((ai l []).length) cn,sl Am l.length cm,sl Al ls.length cl]) (by rw [e1,e2]),kr⟩
  ·refine bP 2 (a8 2) 52 qg4 qes kr (by rw [oO])<|aJ (GF An cn Am cm l) [5,6,7] qld (⟨ms,mO,rfl⟩) ?_
   have wR: ¬l.any (fun m=>cS m.st x.o.st)=true:=by rw [← Jl mO];simpa using h3
   refine ae 5 [2,8] fun _=>bD (B9 An cn Am cm Al cl x l ls ux Bu hl wY E0 s4 ((fun _ m hm e=>wR (yb.2 ⟨m,hm,e⟩)))) [9,1] Ad ?_
   rintro _ _ ⟨A4,c5,A6,c7,A8,c9,rfl,rfl⟩
   refine ae 10 [2,2,4] fun _=>?_
   have e1:eW l x.o=nq l x.o:=((if_pos hk).trans (if_neg wR)).trans (if_pos hk).symm
   refine aD 10 (iK A4 c5 A6 c7 (nq l x.o)) (iK A4 c5 A6 c7 (eW l x.o)) kr (by rw [e1])<|bk [4] [12,11] ⟨A4,c5,A6,c7,A8,c9,kt (.agg #[sl A4 ((ai (nq l x.o) []).length) c5,sl A6 ((nq l x.o).length) c7,sl A8 ((eC ls x.o).length) c9]) (by rw [e1]),kr⟩
 ·have hk:=h2
  refine ae 13 [2,3] fun _=>bD (B9 An cn Am cm Al cl x l ls ux Bu hl wY E0 s4 ((fun hk=>absurd hk h2))) [0,1] Ad ?_
  rintro _ _ ⟨po,pK,nf,mD,GG,J9,rfl,rfl⟩
  refine ae 10 [2,2,4] fun _=>?_
  have e1:eW l x.o=nq l x.o:=(if_neg hk).trans (if_neg hk).symm
  refine aD 5 (iK po pK nf mD (nq l x.o)) (iK po pK nf mD (eW l x.o)) kr (by rw [e1])<|bk [4] [7,6] ⟨po,pK,nf,mD,GG,J9,kt (.agg #[sl po ((ai (nq l x.o) []).length) pK,sl nf ((nq l x.o).length) mD,sl GG ((eC ls x.o).length) J9]) (by rw [e1]),kr⟩
def EK (g:Nat) (x:aT) (d:j9) (hf:gI d):hO Cp 73 #[pv g,bx.V x] (fun U w=>x.gx U w) [oY g d] (fun v Cs=>v=.tuple #[]∧Cs= [oY g ({d with ops:=d.ops++ [x.o]})]):=by
 refine kz [.k (oY g d)] Tryz.func73 fun U w0 hp=>?_
 have vh:=hf.ol
 refine bn (φ:=pT g d) 0 ?_
 rintro _ ⟨a,rfl⟩
 refine dB 1 g 54 qm3<|bn (φ:=SP ⟨d,a⟩) 2 ?_
 rintro _ rfl
 refine bn (φ:=hZ a.Ao a.co d.ops) 4 ?_
 rintro _ ⟨iA,lz,rfl⟩
 have mJ:iA.length=d.ops.length:=by rw [← lz,cM]
 refine bP 1 g 54 qm3 [iv d.rep,iv (bq d.ops),sl a.Ah d.hv.length a.ch,sl a.Ao iA.length a.co,sl a.Ax d.held.length a.cx,sl a.An ((ai (dJ d.ops) []).length) a.cn,sl a.Am ((dJ d.ops).length) a.cm,sl a.Al ((fY d.ops).length) a.cl,iv d.wait,iv d.dT,iv d.aW] kr (by rw [mJ])<|aa 5 fun nB=>aO [(6,_),(8,_)] [1,10,1] ⟨aY (fun vs=>tB x) [] (fun vs=>bx.V ⟨x.o,ak (ag (vs 6) 3),an (ag (vs 6) 3)⟩) [fun vs=>.k (az.row (ak (ag (vs 6) 3)) (an (ag (vs 6) 3)) x.o.aX)] qkh kA,ib bx 8 (fun vs=>a.Ao) (fun vs=>a.co) (fun vs=>iA) (fun vs=>some ⟨(a5 (vs 7)),0,none⟩) (fun vs=>1) (fun vs=>1) (fun vs=> [(⟨x.o,ak (ag (vs 6) 3),an (ag (vs 6) 3)⟩:aT)]) (fun vs w h=>h.eT 11 (a5 (vs 7)) 56 (List.flatMap bx.f [(⟨x.o,ak (ag (vs 6) 3),an (ag (vs 6) 3)⟩:aT)]) kr),trivial⟩ fun v8=>aa 1 fun _=>aO [] [14,10,14] trivial fun v9=>aO [(6,_)] [15,10,15] ⟨fJ (fun vs=>V7 a.An a.cn a.Am a.cm a.Al a.cl x (dJ d.ops) (fY d.ops) ((k6 _).ms) hf.mm (eF hf.ml (by decide)) ((k6 _).ls) hf.rs (eF hf.ll (by decide))) [6,7] (fun vs=>.agg #[sl (ak (ag (vs 6) 0)) ((ai (eW (dJ d.ops) x.o) []).length) (an (ag (vs 6) 0)),sl (ak (ag (vs 6) 1)) ((eW (dJ d.ops) x.o).length) (an (ag (vs 6) 1)),sl (ak (ag (vs 6) 2)) ((eC (fY d.ops) x.o).length) (an (ag (vs 6) 2))]) [fun vs=>.k (iK (ak (ag (vs 6) 0)) (an (ag (vs 6) 0)) (ak (ag (vs 6) 1)) (an (ag (vs 6) 1)) (eW (dJ d.ops) x.o)),fun vs=>.k (kI (ak (ag (vs 6) 2)) (an (ag (vs 6) 2)) (eC (fY d.ops) x.o))] qki qkt,trivial⟩ fun eE=>eD aT.own 11 9 iA (⟨x.o,ak (ag (v8 6) 3),an (ag (v8 6) 3)⟩:aT) kr<|aJ (hZ (ak (v8 8)) (an (v8 8)) (d.ops++ [x.o])) [13,19] [bx.row (ak (v8 8)) (an (v8 8)) (iA++ [(⟨x.o,ak (ag (v8 6) 3),an (ag (v8 6) 3)⟩:aT)]),aM.all ((iA++ [(⟨x.o,ak (ag (v8 6) 3),an (ag (v8 6) 3)⟩:aT)]).map aT.own)] (⟨iA++ [(⟨x.o,ak (ag (v8 6) 3),an (ag (v8 6) 3)⟩:aT)],by rw [cT,lz];rfl,rfl⟩) ?_
 have e1:=nM d.ops x.o
 have e2:=nN d.ops x.o
 have e3:=r9 d.ops x.o
 refine aD 16 (iK (ak (ag (eE 6) 0)) (an (ag (eE 6) 0)) (ak (ag (eE 6) 1)) (an (ag (eE 6) 1)) (eW (dJ d.ops) x.o)) (iK (ak (ag (eE 6) 0)) (an (ag (eE 6) 0)) (ak (ag (eE 6) 1)) (an (ag (eE 6) 1)) (dJ (d.ops++ [x.o]))) kr (by rw [e1])<|aD 17 (kI (ak (ag (eE 6) 2)) (an (ag (eE 6) 2)) (eC (fY d.ops) x.o)) (kI (ak (ag (eE 6) 2)) (an (ag (eE 6) 2)) (fY (d.ops++ [x.o]))) kr (by rw [e2])<|bP 18 g 54 [iv d.rep,iv (if x.o.st.t>(bq d.ops) then x.o.st.t else bq d.ops),sl a.Ah d.hv.length a.ch,sl (ak (v8 8)) ((iA++ [(⟨x.o,ak (ag (v8 6) 3),an (ag (v8 6) 3)⟩:aT)]).length) (an (v8 8)),sl a.Ax d.held.length a.cx,sl (ak (ag (eE 6) 0)) ((ai (eW (dJ d.ops) x.o) []).length) (an (ag (eE 6) 0)),sl (ak (ag (eE 6) 1)) ((eW (dJ d.ops) x.o).length) (an (ag (eE 6) 1)),sl (ak (ag (eE 6) 2)) ((eC (fY d.ops) x.o).length) (an (ag (eE 6) 2)),iv d.wait,iv d.dT,iv d.aW] [iv d.rep,iv (bq (d.ops++ [x.o])),sl a.Ah d.hv.length a.ch,sl (ak (v8 8)) ((d.ops++ [x.o]).length) (an (v8 8)),sl a.Ax d.held.length a.cx,sl (ak (ag (eE 6) 0)) ((ai (dJ (d.ops++ [x.o])) []).length) (an (ag (eE 6) 0)),sl (ak (ag (eE 6) 1)) ((dJ (d.ops++ [x.o])).length) (an (ag (eE 6) 1)),sl (ak (ag (eE 6) 2)) ((fY (d.ops++ [x.o])).length) (an (ag (eE 6) 2)),iv d.wait,iv d.dT,iv d.aW] kr (by rw [e1,e2,e3,show (d.ops++ [x.o]).length=(iA++ [(⟨x.o,ak (ag (v8 6) 3),an (ag (v8 6) 3)⟩:aT)]).length by simp [mJ]])<|aJ (SP ⟨{d with ops:=d.ops++ [x.o]},⟨a.Ah,a.ch,ak (v8 8),an (v8 8),a.Ax,a.cx,ak (ag (eE 6) 0),an (ag (eE 6) 0),ak (ag (eE 6) 1),an (ag (eE 6) 1),ak (ag (eE 6) 2),an (ag (eE 6) 2)⟩⟩) [3,20,5,21,22] [az.row a.Ah a.ch d.hv,cV (ak (v8 8)) (an (v8 8)) (d.ops++ [x.o]),cV a.Ax a.cx d.held,iK (ak (ag (eE 6) 0)) (an (ag (eE 6) 0)) (ak (ag (eE 6) 1)) (an (ag (eE 6) 1)) (dJ (d.ops++ [x.o])),kI (ak (ag (eE 6) 2)) (an (ag (eE 6) 2)) (fY (d.ops++ [x.o]))] rfl<|aJ (pT g ({d with ops:=d.ops++ [x.o]})) [18,23] [bJ g 54 [iv d.rep,iv (bq (d.ops++ [x.o])),sl a.Ah d.hv.length a.ch,sl (ak (v8 8)) ((d.ops++ [x.o]).length) (an (v8 8)),sl a.Ax d.held.length a.cx,sl (ak (ag (eE 6) 0)) ((ai (dJ (d.ops++ [x.o])) []).length) (an (ag (eE 6) 0)),sl (ak (ag (eE 6) 1)) ((dJ (d.ops++ [x.o])).length) (an (ag (eE 6) 1)),sl (ak (ag (eE 6) 2)) ((fY (d.ops++ [x.o])).length) (an (ag (eE 6) 2)),iv d.wait,iv d.dT,iv d.aW],SA (⟨{d with ops:=d.ops++ [x.o]},⟨a.Ah,a.ch,ak (v8 8),an (v8 8),a.Ax,a.cx,ak (ag (eE 6) 0),an (ag (eE 6) 0),ak (ag (eE 6) 1),an (ag (eE 6) 1),ak (ag (eE 6) 2),an (ag (eE 6) 2)⟩⟩)] (⟨⟨a.Ah,a.ch,ak (v8 8),an (v8 8),a.Ax,a.cx,ak (ag (eE 6) 0),an (ag (eE 6) 0),ak (ag (eE 6) 1),an (ag (eE 6) 1),ak (ag (eE 6) 2),an (ag (eE 6) 2)⟩,rfl⟩)<|a_ [24] ⟨kr,kr⟩
end Go.Proofs.YtfookmefmjhonaaGreat.My
namespace Go.bE
open Go.RowKit
variable {P:Program} {n:Nat} {U:Nat→Prop} {w0 w:World} {Q:Exit→Act→World→Prop} {s:S} {β:Type}
def SS.sub {l m:List aM} (h:l.Sublist m): ∀ {K:List aM},SS U w0 w (aM.all m::K)→SS U w0 w (aM.all l::K):=by
 induction h with
 |slnil=>exact fun h=>h
 |cons a _ ih=>exact fun h=>ih (SS.star h).tail
 |cons_cons a _ ih=>exact fun h=>SS.RD ((ih ((SS.star h).perm (List.Perm.swap _ _ _))).perm (List.Perm.swap _ _ _))
def Jg (j:Nat) (f:β→aM) (l m:List β) (hs:l.Sublist m) (h:(dR s.H.length [j],pk s.H [j])=(true,[aM.all (m.map f)])) (k:G P n U w0 Q {s with H:=gv s.H [j] [.k (aM.all (l.map f))]}):G P n U w0 Q s:=
 js [j] _ [.k (aM.all (l.map f))] h (fun w K hS=>SS.sub (hs.map f) hS) k
def gu (j i:Nat) (f:β→aM) (l:List β) (x:β) (e:l[i]? =some x) (h:(dR s.H.length [j],pk s.H [j])=(true,[aM.all (l.map f)])) (k:G P n U w0 Q {s with H:=gv s.H [j] [.k (f x),.k (aM.all ((l.take i++l.drop (i+1)).map f))]}):G P n U w0 Q s:=
 js [j] _ [.k (f x),.k (aM.all ((l.take i++l.drop (i+1)).map f))] h (fun w K hS=>by
  have hi:=(aN.1 e).1
  have hx:=(aN.1 e).2
  have e1:l.map f=(l.take i).map f++f x::(l.drop (i+1)).map f:=by
   conv=>lhs;rw [← List.take_append_drop i l,fI hi,hx]
   rw [cT,fm]
  have h2:SS U w0 w (aM.all (l.map f)::K):=hS
  rw [e1] at h2
  have h3:SS U w0 w (f x::(((l.take i).map f++(l.drop (i+1)).map f)++K)):=(SS.all h2).perm qnn
  have h4:=(SS.tz (h3.perm (List.perm_middle (l₁:=(l.take i).map f++(l.drop (i+1)).map f)).symm)).perm (List.Perm.swap _ _ _)
  have e2:(l.take i++l.drop (i+1)).map f=(l.take i).map f++(l.drop (i+1)).map f:=cT ..
  show SS U w0 w (f x::aM.all ((l.take i++l.drop (i+1)).map f)::K)
  rw [e2]
  exact h4) k
end Go.bE
namespace Go.Proofs.YtfookmefmjhonaaGreat.My
open Go.RowKit Go.bE
abbrev dA (v:List Int) (r:Int):Int:=v.getD r.toNat 0
def cP:List Int→List bz→List Int→Prop
 |v,[],v'=>v'=v
 |v,o::l,v'=>cQ v o∧cP (v.set o.st.r.toNat o.seq) l v'
def cP.snoc {o:bz}: ∀ {l:List bz} {v v':List Int},cP v l v'→cQ v' o→cP v (l++ [o]) (v'.set o.st.r.toNat o.seq)
 | [],v,v',h,h2=>by
  have:v'=v:=h
  subst this
  exact ⟨h2,rfl⟩
 |x::l,v,v',h,h2=>⟨h.1,cP.snoc h.2 h2⟩
def cP.len: ∀ {l:List bz} {v v':List Int},cP v l v'→v'.length=v.length
 | [],_,_,h=>by rw [show _=_ from h]
 |_::l,v,_,h=>by have:=cP.len h.2;simpa using this
end Go.Proofs.YtfookmefmjhonaaGreat.My

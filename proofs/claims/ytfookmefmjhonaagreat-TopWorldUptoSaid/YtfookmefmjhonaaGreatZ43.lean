/- For the law of worlds: What functions do; What lies in memory. -/
import Derived.Test.YtfookmefmjhonaaGreatZ42
set_option linter.all false
namespace Go.Proofs.YtfookmefmjhonaaGreat.My
open Go.RowKit Go.bE
def uT {r:Rg}: ∀ {l:List Rg} {k:Nat},(∀y∈l.take k,y.prop<r.prop)→(∀y,l[k]? =some y→r.prop<y.prop)→k≤l.length→cO r l=l.take k++r::l.drop k
 | [],k,_,_,h=>by simp at h;subst h;rfl
 |m::l,0,_,h,_=>by have h1:=h m rfl;unfold cO;rw [if_neg (by omega),if_neg (by omega)];rfl
 |m::l,k+1,h,h2,h3=>by
  have h1:=h m (by simp)
  unfold cO
  rw [if_pos h1,uT (k:=k) (fun y hy=>h y (by simp [hy])) IC (by simpa using h3)];rfl
def FB {r y:Rg}: ∀ {l:List Rg} {k:Nat},(∀y∈l.take k,y.prop<r.prop)→l[k]? =some y→y.prop=r.prop→cO r l=l.take k++(if slt y.st r.st then r else y)::l.drop (k+1)
 | [],k,_,h,_=>by simp at h
 |m::l,0,_,h,h2=>by
  simp only [gQ,a9] at h
  subst h
  unfold cO
  rw [if_neg (by omega),if_pos h2]
  split<;>rfl
 |m::l,k+1,h,h2,h3=>by
  have h1:=h m (by simp)
  unfold cO
  rw [if_pos h1,FB (k:=k) (fun y hy=>h y (by simp [hy])) IC h3];rfl
structure mC (r:Rg) (l:List Rg) (k:Nat) (b:Bool) (m:List Rg):Prop where
 kl:k≤l.length
 no:b=false→m=l.take k∧ ∀y∈l.take k,y.prop<r.prop
 yes:b=true→m++l.drop k=cO r l∧ ∀y∈l.drop k,r.prop<y.prop
 len:m.length≤k+1
def mC.nil (r:Rg) (l:List Rg):mC r l 0 false []:=⟨bh _,fun _=>⟨rfl,by simp⟩,by simp,by simp⟩
def mC.off {r:Rg} {l:List Rg} {k:Nat} {b:Bool} {m:List Rg} (h:mC r l k b m) {y:Rg} (hy:l[k]? =some y) (e:y.prop=r.prop):b=false:=by
 cases b with
 |false=>rfl
 |true=>have:=(h.yes rfl).2 y (by rw [gy hy];exact cE);omega
def Hm {l:List Rg} (hs:lA l) {k:Nat} {y:Rg} (hy:l[k]? =some y): ∀z∈l.drop (k+1),y.prop<z.prop:=by
 have h:lA (l.drop k):=List.Pairwise.sublist (List.drop_sublist _ _) hs
 exact qqf
def mC.ID {r:Rg} {l:List Rg} {k:Nat} {b:Bool} {m:List Rg} (h:mC r l k b m) (hs:lA l) {y z:Rg} (hy:l[k]? =some y) (e:y.prop=r.prop) (hz:z=if slt y.st r.st then r else y):mC r l (k+1) true (m++ [z]):=by
 obtain ⟨h1,h2⟩:=h.no (h.off hy e)
 refine ⟨(aN.1 hy).1,by simp,fun _=>⟨?_,fun q hq=>qss⟩,by have:=h.len;simp;omega⟩
 rw [FB h2 hy e,h1,hz];simp
def mC.put {r:Rg} {l:List Rg} {k:Nat} {b:Bool} {m:List Rg} (h:mC r l k b m) (hs:lA l) {y:Rg} (hy:l[k]? =some y) (hb:(!b)=true) (e:y.prop>r.prop):mC r l (k+1) true (m++ [r]++ [y]):=by
 obtain ⟨h1,h2⟩:=h.no qsf
 refine ⟨(aN.1 hy).1,by simp,fun _=>⟨?_,fun q hq=>qss⟩,by have:=congrArg List.length h1;rw [b0] at this;simp;omega⟩
 rw [uT h2 (by intro q hq;rw [hy] at hq;injection hq with hq;subst hq;exact e) h.kl,h1,gy hy];simp
def mC.step {r:Rg} {l:List Rg} {k:Nat} {b:Bool} {m:List Rg} (h:mC r l k b m) {y:Rg} (hy:l[k]? =some y) (hb:(!b)=true) (e: ¬ (y.prop=r.prop)) (e2: ¬ (y.prop>r.prop)):mC r l (k+1) b (m++ [y]):=by
 have hb:b=false:=by simpa using hb
 subst hb
 obtain ⟨h1,h2⟩:=h.no rfl
 exact ⟨(aN.1 hy).1,fun _=>⟨by rw [h1,← bp hy],gG h2 hy (by omega)⟩,by simp,by have:=h.len;simp;omega⟩
def mC.go {r:Rg} {l:List Rg} {k:Nat} {b:Bool} {m:List Rg} (h:mC r l k b m) {y:Rg} (hy:l[k]? =some y) (hb:(!b)=false):mC r l (k+1) b (m++ [y]):=by
 have hb:b=true:=by simpa using hb
 subst hb
 obtain ⟨h1,h2⟩:=h.yes rfl
 refine ⟨(aN.1 hy).1,by simp,fun _=>⟨?_,fun q hq=>h2 q qr0⟩,by have:=h.len;simp;omega⟩
 rw [← h1,gy hy];simp
def mC.fin {r:Rg} {l:List Rg} {k:Nat} {b:Bool} {m:List Rg} (h:mC r l k b m) (hk:l.length≤k):(b=true→m=cO r l)∧(b=false→m++ [r]=cO r l):=by
 constructor
 ·exact qv9
 ·intro hb
  obtain ⟨h1,h2⟩:=h.no hb
  rw [cA hk] at h1 h2
  rw [uT (k:=l.length) (by rw [List.take_length];exact h2) qmx (bO _),h1,List.take_length,List.drop_length]
def YP (Al:OA) (cl:Nat) (l:List Rg) (p q:Int) (u:cN) (hs:lA l) (hl:l.length≤1000000):Ct Cp 95 #[sl Al l.length cl,iv p,iv q,bZ.V u] (fun w=>eH.Rd Al l w) [] (fun v Cs=> ∃A2 c2,v=sl A2 ((cO (⟨p,q,u⟩:Rg) l).length) c2∧Cs= [eH.row A2 c2 (cO (⟨p,q,u⟩:Rg) l)]):=by
 refine cc Tryz.func95 fun w0 hp=>ae 28 [0,1] fun a8=>bG eH<|aR (σ:=Nat×Bool×OA×Nat×List Rg) (fun (k,b,B,d,m)=> [(0,sl Al l.length cl),(1,iv p),(7,pv (a8 2)),(8,sl none 0 0),(9,sl B m.length d),(10,.bool b),(11,pv (a8 19)),(12,iv k)]) (fun (k,b,B,d,m)=> [.b (a8 2) 29 [iv u.t,iv u.r],.b (a8 19) 178 [iv p,iv q,iv u.t,iv u.r],.k (eH.row B d m)]) (fun (k,b,B,d,m)=>mC (⟨p,q,u⟩:Rg) l k b m) (fun (k,b,B,d,m)=>l.length-k) (0,false,none,0,[]) [0,1,2] (mC.nil _ _) ?_
 rintro _ ⟨k,b,B,d,m⟩ je aB
 have AN:=je.kl
 have oO:=je.len
 refine aa 8 fun _=>aq ((k:Int)<(l.length:Int)) (fun h2=>?_) (fun h2=>?_)
 ·refine aa 8 fun _=>aV Al l.length (k:Int) 4 Um<|aa 1 fun _=>?_
  obtain ⟨x3,e4⟩:=aw (xs:=l) (k:=k) (by omega)
  refine bd 3 (ad Al (k*4) 0) (iv x3.prop) qps<|aa 3 fun _=>aq (x3.prop=p) (fun h5=>?_) (fun h5=>?_)
  ·refine aa 6 fun _=>aK [(2,_),(4,bZ.V x3.st),(6,iv (bl x3.st u))] [0] ⟨bF Al l.length (k:Int) 4 Um,cB 29 (ad Al (k*4) 2) (fun w h=>iy (K:=eH) (o:=2) (m:=2) (sub:= [iv x3.st.t,iv x3.st.r]) (hp.aE h.ch) e4),bT (OR x3.st u) jU,trivial⟩<|aq ((bl x3.st u)<0) (fun h6=>?_) (fun h6=>?_)
   ·refine ae 4 [1] fun AA=>bQ eH 2 B d m (so (AA 3)) 1 1 [(⟨p,q,⟨u.t,u.r⟩⟩:Rg)] (fun w h=>h.eT 3 (AA 3) 178 (List.flatMap eH.f [(⟨p,q,⟨u.t,u.r⟩⟩:Rg)]) kr) vE fun A8 c9=>aa 6 fun _=>ao 22 ((k:Int)+1)<|aa 2 fun _=>aB _ (k+1,true,A8,c9,m++ [(⟨p,q,⟨u.t,u.r⟩⟩:Rg)]) [0,1,2] kr (je.ID hs e4 h5 (by rw [if_pos h6])) du
   ·refine aa 4 fun _=>aV Al l.length (k:Int) 4 Um<|bd 178 (ad Al (k*4) 0) (eH.V x3) qho<|aa 1 fun yd=>bQ eH 2 B d m (so (yd 0)) 1 1 [x3] (fun w h=>h.eT 3 (yd 0) 178 (List.flatMap eH.f [x3]) kr) vE fun rI xR=>aa 6 fun _=>ao 22 ((k:Int)+1)<|aa 2 fun _=>aB _ (k+1,true,rI,xR,m++ [x3]) [0,1,2] kr (je.ID hs e4 h5 (by rw [if_neg h6])) du
  ·refine aa 7 fun _=>eg 51 (!b) (fun ki=>?_) (fun ki=>?_)
   ·refine aa 2 fun _=>aV Al l.length (k:Int) 4 Um<|aa 1 fun _=>bd 3 (ad Al (k*4) 0) (iv x3.prop) qps<|aa 4 fun _=>aq (x3.prop>p) (fun sU=>?_) (fun sU=>?_)
    ·refine ae 5 [1] fun Bc=>bQ eH 2 B d m (so (Bc 4)) 1 1 [(⟨p,q,⟨u.t,u.r⟩⟩:Rg)] (fun w h=>h.eT 3 (Bc 4) 178 (List.flatMap eH.f [(⟨p,q,⟨u.t,u.r⟩⟩:Rg)]) kr) vE fun F9 Es=>aa 9 fun _=>aV Al l.length (k:Int) 4 Um<|bd 178 (ad Al (k*4) 0) (eH.V x3) qho<|aa 1 fun Qc=>bQ eH 2 F9 Es (m++ [(⟨p,q,⟨u.t,u.r⟩⟩:Rg)]) (so (Qc 0)) 1 1 [x3] (fun w h=>h.eT 4 (Qc 0) 178 (List.flatMap eH.f [x3]) kr) vE fun A19 c20=>aa 6 fun _=>ao 22 ((k:Int)+1)<|aa 2 fun _=>aB _ (k+1,true,A19,c20,m++ [(⟨p,q,⟨u.t,u.r⟩⟩:Rg)]++ [x3]) [0,1,2] kr (je.put hs e4 ki sU) du
    ·refine aa 5 fun _=>aV Al l.length (k:Int) 4 Um<|bd 178 (ad Al (k*4) 0) (eH.V x3) qho<|aa 1 fun _I=>bQ eH 2 B d m (so (_I 0)) 1 1 [x3] (fun w h=>h.eT 3 (_I 0) 178 (List.flatMap eH.f [x3]) kr) vE fun wZ vH=>aa 6 fun _=>ao 22 ((k:Int)+1)<|aa 2 fun _=>aB _ (k+1,b,wZ,vH,m++ [x3]) [0,1,2] kr (je.step e4 ki h5 sU) du
   ·refine aa 15 fun _=>aV Al l.length (k:Int) 4 Um<|bd 178 (ad Al (k*4) 0) (eH.V x3) qho<|aa 1 fun ue=>bQ eH 2 B d m (so (ue 0)) 1 1 [x3] (fun w h=>h.eT 3 (ue 0) 178 (List.flatMap eH.f [x3]) kr) vE fun vg vz=>aa 6 fun _=>ao 22 ((k:Int)+1)<|aa 2 fun _=>aB _ (k+1,b,vg,vz,m++ [x3]) [0,1,2] kr (je.go e4 ki) du
 ·refine aa 7 fun _=>eQ (!b) (fun Gd=>?_) (fun Gd=>?_)
  ·refine ae 4 [1] fun DH=>bQ eH 2 B d m (so (DH 3)) 1 1 [(⟨p,q,⟨u.t,u.r⟩⟩:Rg)] (fun w h=>h.eT 3 (DH 3) 178 (List.flatMap eH.f [(⟨p,q,⟨u.t,u.r⟩⟩:Rg)]) kr) vE fun Z6 Z7=>aa 7 fun _=>?_
   have IF:=(je.fin (by omega)).2 (by simpa using Gd)
   refine aS eH 2 Z6 Z7 (m++ [(⟨p,q,⟨u.t,u.r⟩⟩:Rg)]) (cO (⟨p,q,u⟩:Rg) l) kr IF<|a_ [4] ⟨Z6,Z7,kt (sl Z6 ((m++ [(⟨p,q,⟨u.t,u.r⟩⟩:Rg)]).length) Z7) (by rw [← IF]),kr⟩
  ·refine aa 6 fun _=>?_
   have IF:=(je.fin (by omega)).1 (by simpa using Gd)
   refine aS eH 2 B d m (cO (⟨p,q,u⟩:Rg) l) kr IF<|a_ [3] ⟨B,d,kt (sl B m.length d) (by rw [← IF]),kr⟩
section
def uh {id:cN} {r:Rg}: ∀ {l:List iZ} {k:Nat},(∀y∈l.take k,slt y.id id)→(∀y,l[k]? =some y→slt id y.id)→k≤l.length→gY id r l=l.take k++⟨id,cO r []⟩::l.drop k
 | [],k,_,_,h=>by simp at h;subst h;rfl
 |m::l,0,_,h,_=>by have h1:=h m rfl;unfold gY;rw [if_neg h1.asymm,if_neg h1.ne.symm];rfl
 |m::l,k+1,h,h2,h3=>by
  have h1:=h m (by simp)
  unfold gY
  rw [if_pos h1,uh (k:=k) (fun y hy=>h y (by simp [hy])) IC (by simpa using h3)];rfl
def EZ {id:cN} {r:Rg} {y:iZ}: ∀ {l:List iZ} {k:Nat},(∀y∈l.take k,slt y.id id)→l[k]? =some y→y.id=id→gY id r l=l.take k++⟨id,cO r y.bX⟩::l.drop (k+1)
 | [],k,_,h,_=>by simp at h
 |m::l,0,_,h,h2=>by
  simp only [gQ,a9] at h
  subst h
  unfold gY
  rw [if_neg (by rw [h2];exact slt.RH _),if_pos h2];rfl
 |m::l,k+1,h,h2,h3=>by
  have h1:=h m (by simp)
  unfold gY
  rw [if_pos h1,EZ (k:=k) (fun y hy=>h y (by simp [hy])) IC h3];rfl
structure mu (id:cN) (r:Rg) (os:List iZ) (k:Nat) (b:Bool) (m:List bj):Prop where
 kl:k≤os.length
 no:b=false→m.map bj.d=os.take k∧ ∀y∈os.take k,slt y.id id
 yes:b=true→m.map bj.d++os.drop k=gY id r os∧ ∀y∈os.drop k,slt id y.id
 len:m.length≤k+1
def mu.nil (id:cN) (r:Rg) (os:List iZ):mu id r os 0 false []:=⟨bh _,fun _=>⟨rfl,by simp⟩,by simp,by simp⟩
def wW {l:List iZ} (hs:iY l) {k:Nat} {y:iZ} (hy:l[k]? =some y): ∀z∈l.drop (k+1),slt y.id z.id:=by
 have h:iY (l.drop k):=List.Pairwise.sublist (List.drop_sublist _ _) hs
 exact qqf
section
variable {id:cN} {r:Rg} {os:List iZ} {k:Nat} {b:Bool} {m:List bj} {y:iZ} {z n:bj}
def mu.far (h:mu id r os k b m) (hy:os[k]? =some y) (hb:(!b)=false): ¬ (bl y.id id=0):=by
 have:=(h.yes qsf).2 y (by rw [gy hy];exact cE)
 rw [qc]
 exact this.ne.symm
def mu.put (h:mu id r os k b m) (hs:iY os) (hy:os[k]? =some y) (hb:(!b)=true) (e:bl y.id id>0) (hz:z.d=y) (hn:n.d=⟨id,cO r []⟩):mu id r os (k+1) true (m++ [n]++ [z]):=by
 obtain ⟨h1,h2⟩:=h.no qsf
 have hl:slt id y.id:=(tU _ _).1 e
 refine ⟨(aN.1 hy).1,by simp,fun _=>⟨?_,fun q hq=>hl.trans (wW hs hy q hq)⟩,by have:=congrArg List.length h1;rw [cM,b0] at this;simp;omega⟩
 rw [uh h2 (by intro q hq;rw [hy] at hq;injection hq with hq;subst hq;exact hl) h.kl,gy hy];simp [h1,hz,hn]
def mu.ID (h:mu id r os k b m) (hs:iY os) (hy:os[k]? =some y) (hb:(!b)=true) (e:bl y.id id=0) (hn:n.d=⟨y.id,cO r y.bX⟩):mu id r os (k+1) true (m++ [n]):=by
 obtain ⟨h1,h2⟩:=h.no qsf
 have hl:y.id=id:=(qc _ _).1 e
 refine ⟨(aN.1 hy).1,by simp,fun _=>⟨?_,fun q hq=>by rw [← hl];exact wW hs hy q hq⟩,by have:=h.len;simp;omega⟩
 rw [EZ h2 hy hl];simp [h1,hn,hl]
def mu.step (h:mu id r os k b m) (hy:os[k]? =some y) (hb:(!b)=true) (e: ¬ (bl y.id id>0)) (e2: ¬ (bl y.id id=0)) (hz:z.d=y):mu id r os (k+1) b (m++ [z]):=by
 have hb:b=false:=by simpa using hb
 subst hb
 obtain ⟨h1,h2⟩:=h.no rfl
 refine ⟨(aN.1 hy).1,fun _=>⟨?_,gG h2 hy (by unfold slt;omega)⟩,by simp,by have:=h.len;simp;omega⟩
 rw [← bp hy,cT,h1];simp [hz]
def mu.go (h:mu id r os k b m) (hy:os[k]? =some y) (hb:(!b)=false) (hz:z.d=y):mu id r os (k+1) b (m++ [z]):=by
 have hb:b=true:=by simpa using hb
 subst hb
 obtain ⟨h1,h2⟩:=h.yes rfl
 refine ⟨(aN.1 hy).1,by simp,fun _=>⟨?_,fun q hq=>h2 q qr0⟩,by have:=h.len;simp;omega⟩
 rw [← h1,gy hy];simp [hz]
def mu.fin (h:mu id r os k b m) (hk:os.length≤k):(b=true→m.map bj.d=gY id r os)∧(b=false→ ∀n:bj,n.d=⟨id,cO r []⟩→(m++ [n]).map bj.d=gY id r os):=by
 constructor
 ·exact qv9
 ·intro hb n hn
  obtain ⟨h1,h2⟩:=h.no hb
  rw [cA hk] at h1 h2
  rw [uh (k:=os.length) (by rw [List.take_length];exact h2) qmx (bO _),cT,h1,List.take_length,List.drop_length];simp [hn]
end
def G1 {l:List bz} {o:bz} (h1:o.kind=1) (h: ∃m∈l,m.st=o.st):eW l o=l:=by unfold eW;rw [if_pos h1,if_pos (yb.2 h)]
def G2 {l:List bz} {o:bz} (h1:o.kind=1) (h: ∀m∈l,m.st≠o.st):eW l o=eP o l:=by
 unfold eW
 rw [if_pos h1,if_neg]
 intro h2
 obtain ⟨m,hm,e⟩:=yb.1 h2
 exact h m hm e
def Be {l:List bz} {o:bz} (h1: ¬ (o.kind=1)):eW l o=l:=by unfold eW;rw [if_neg h1]
def Bf {l:List iZ} {o:bz} (h1:o.kind=1):eC l o=l:=by unfold eC;rw [if_pos h1]
def wX {l:List iZ} {o:bz} (h1: ¬ (o.kind=1)):eC l o=gY o.node ⟨o.prop,o.val,o.st⟩ l:=by unfold eC;rw [if_neg h1]
def YL (An:OA) (cn:Nat) (Am:OA) (cm:Nat) (Al:OA) (cl:Nat) (z:aT) (l:List bz) (ls:List iZ) (hl:l.length≤90000) (os:mZ l) (hm: ∀m∈l,bV m) (hz:bV z.o) (wY:iY ls) (E0: ∀k∈ls,lA k.bX∧k.bX.length≤100000) (s4:ls.length≤90000):Ct Cp 63 #[.agg #[sl An ((ai l []).length) cn,sl Am l.length cm,sl Al ls.length cl],bx.V z] (fun w=>(sL An Am l w∧E1 Al ls w)∧z.Rd w) [] (fun v Cs=>(∃A2 n2,∃(c2:Nat),∃A3 n3,∃(c3:Nat),∃A4 n4,∃(c4:Nat),v=.tuple #[.agg #[sl A2 n2 c2,sl A3 n3 c3,sl A4 n4 c4],.bool false]∧eW l z.o=l∧eC ls z.o=ls∧Cs= [])∨(∃A2 c2 A3 c3 A4 c4,v=.tuple #[.agg #[sl A2 ((ai (eW l z.o) []).length) c2,sl A3 ((eW l z.o).length) c3,sl A4 ((eC ls z.o).length) c4],.bool true]∧Cs= [iK A2 c2 A3 c3 (eW l z.o),kI A4 c4 (eC ls z.o)])):=by
 refine cc Tryz.func63 fun w0 hp=>?_
 obtain ⟨⟨ms,mO,Bg,G3⟩,xs,rB,Db⟩:=hp.1
 have oO:=iC mO
 have zI:xs.length=ls.length:=by rw [← rB,cM]
 have J8:=nQ l []
 simp only [fA] at J8
 refine aC 0 (.agg #[sl An ((ai l []).length) cn,sl Am ms.length cm,sl Al xs.length cl]) (.agg #[sl An ((ai l []).length) cn,sl Am l.length cm,sl Al ls.length cl]) (by rw [oO,zI])<|ae 10 [0] fun a8=>ah (Gs (⟨(⟨ai l [],An,cn,ms,Am,cm⟩:oe),xs,Al,cl⟩:sV)) [] (fun w h=>(show sV.Rd _ _ from ⟨⟨show (ai l []).length≤1073741824 by omega,Bg.aE h.ch,G3.aE h.ch⟩,Db.aE h.ch⟩)) ?_
 rintro _ _ ⟨A2,c3,A4,c5,Ts,A7,c8,sM,rfl,f10,f11,rfl⟩
 have FW:Ts.map cD.d=fz l []:=f10.trans mO
 have It:sM.map bj.d=ls:=f11.trans rB
 refine aS aP 3 A2 c3 ((⟨(⟨ai l [],An,cn,ms,Am,cm⟩:oe),xs,Al,cl⟩:sV).tr.ns) (ai l []) kr rfl<|aJ (GF A2 c3 A4 c5 l) [8,4,5] [aP.row A2 c3 (ai l []),gq.row A4 c5 Ts,aM.all (Ts.map cD.own)] (⟨Ts,FW,rfl⟩)<|aC 15 (.agg #[sl A2 ((ai l []).length) c3,sl A4 l.length c5,sl A7 sM.length c8]) (.agg #[sl A2 ((⟨(⟨ai l [],An,cn,ms,Am,cm⟩:oe),xs,Al,cl⟩:sV).tr.ns.length) c3,sl A4 Ts.length c5,sl A7 sM.length c8]) (by rw [iC FW]) ?_
 have aew:sM.length=ls.length:=by rw [← It,cM]
 refine ae 10 [10,1] fun sN=>aq (z.o.kind=1) (fun ki=>?_) (fun ki=>?_)
 ·refine ae 5 [0,1] fun _=>ah (TJ (⟨ai l [],An,cn,ms,Am,cm⟩:oe) z l mO (by omega) os) [] (fun w h=>⟨(show oe.Rd _ _ from ⟨show (ai l []).length≤1073741824 by omega,Bg.aE h.ch,G3.aE h.ch⟩),(show aT.Rd _ _ from hp.2.aE h.ch)⟩) ?_
  rintro _ _ (⟨rfl,f19,rfl⟩|⟨Dc,AW,wZ,vH,rfl,f24,rfl⟩)
  ·refine ae 10 [11,11] fun T1=>ah (tJ (⟨ai l [],An,cn,ms,Am,cm⟩:oe)) [] (fun w h=>(show oe.Rd _ _ from ⟨show (ai l []).length≤1073741824 by omega,Bg.aE h.ch,G3.aE h.ch⟩)) ?_
   rintro _ _ ⟨GI,GJ,pR,rC,aex,rfl,f31,rfl⟩
   refine ae 10 [10,10,2] fun _=>bk [2] [] (.inl ⟨GI,(⟨ai l [],An,cn,ms,Am,cm⟩:oe).ns.length,GJ,pR,aex.length,rC,A7,sM.length,c8,kr,G1 ki f19,Bf ki,kr⟩)
  ·refine bn (φ:=GF Dc AW wZ vH (eP z.o l)) 11 ?_
   rintro _ ⟨RQ,hm3,rfl⟩
   have YM:=iC hm3
   rw [nO] at YM
   have hn3:=nQ (eP z.o l) []
   rw [nO] at hn3
   simp only [fA] at hn3
   have hd3: ∀y∈RQ,y.x.o.aX.length≤1073741824:=fun y hy=>by obtain ⟨k3,hk3,e3⟩:=List.getElem_of_mem hy;obtain ⟨o3,ho3,e4,_⟩:=wO hm3 (dw hk3);rw [e3] at e4;rw [e4];exact (qb.1 (aI ho3)).elim (fun e=>e▸gg hz) fun e=>gg (hm _ e)
   refine aC 23 (.tuple #[.agg #[sl Dc ((ai (eP z.o l) []).length) AW,sl wZ RQ.length vH],.bool true]) (.tuple #[.agg #[sl Dc ((ai (eP z.o l) []).length) AW,sl wZ ((eP z.o l).length) vH],.bool true]) (by rw [YM,nO])<|ae 10 [15,15] fun YN=>ah (tJ (⟨ai (eP z.o l) [],Dc,AW,RQ,wZ,vH⟩:oe)) [] (fun w h=>(show oe.Rd _ _ from ⟨show (ai (eP z.o l) []).length≤1073741824 by omega,h.bg 12 Dc AW (ai (eP z.o l) []) kr,show RQ.length≤1073741824 by omega,h.bg 13 wZ vH RQ kr,fun y hy=>⟨hd3 y hy,h.o5 14 cD.own RQ hy rfl kr⟩⟩)) ?_
   rintro _ _ ⟨G4,G5,Nt,Nu,Ks,rfl,f38,rfl⟩
   have hm4:Ks.map cD.d=fz (eP z.o l) []:=f38.trans hm3
   refine aS aP 16 G4 G5 ((⟨ai (eP z.o l) [],Dc,AW,RQ,wZ,vH⟩:oe).ns) (ai (eP z.o l) []) kr rfl<|aJ (GF G4 G5 Nt Nu (eP z.o l)) [19,17,18] [aP.row G4 G5 (ai (eP z.o l) []),gq.row Nt Nu Ks,aM.all (Ks.map cD.own)] (⟨Ks,hm4,rfl⟩)<|aC 27 (.agg #[sl G4 ((ai (eP z.o l) []).length) G5,sl Nt ((eP z.o l).length) Nu]) (.agg #[sl G4 ((⟨ai (eP z.o l) [],Dc,AW,RQ,wZ,vH⟩:oe).ns.length) G5,sl Nt Ks.length Nu]) (by rw [iC hm4])<|ae 10 [10,10,2] fun _=>?_
   have em:=G2 ki f24
   have el:eC ls z.o=ls:=Bf ki
   refine aJ (Nw A7 c8 ls) [6,7] [eS.row A7 c8 sM,aM.all (sM.map bj.own)] (⟨sM,It,rfl⟩) ?_
   have YO:=aew
   refine aD 20 (iK G4 G5 Nt Nu (eP z.o l)) (iK G4 G5 Nt Nu (eW l z.o)) kr (by rw [em])<|aD 21 (kI A7 c8 ls) (kI A7 c8 (eC ls z.o)) kr (by rw [el])<|bk [2] [22,23] (.inr ⟨G4,G5,Nt,Nu,A7,c8,kt (.tuple #[.agg #[sl G4 ((ai (eP z.o l) []).length) G5,sl Nt ((eP z.o l).length) Nu,sl A7 sM.length c8],.bool true]) (by rw [em,el,YO]),kr⟩)
 ·refine aa 15 fun _=>bG eS<|dQ<|aD 7 (aM.all (sM.map bj.own)) (aM.all ((sM.drop 0).map bj.own)) kr qom<|aD 12 (aM.all (([]:List bj).map bj.own)) (aM.all (([]:List bj).map bj.own)) kr rfl<|aR (σ:=Nat×Bool×OA×Nat×List bj) (fun (k,b,B,d,m)=> [(3,pv (a8 3)),(4,pv (a8 4)),(5,.bool false),(6,pv (sN 0)),(9,.bool b),(10,sl B m.length d),(11,iv k)]) (fun (k,b,B,d,m)=> [.b (a8 2) 52 [sl An ((ai l []).length) cn,sl Am ms.length cm,sl Al xs.length cl],.b (a8 3) 56 (aT.cells z),.b (a8 4) 52 [sl none 0 0,sl none 0 0,sl none 0 0],.k (iK A2 c3 A4 c5 l),.b (sN 0) 52 [sl A2 ((ai l []).length) c3,sl A4 l.length c5,sl A7 sM.length c8],.k (eS.row A7 c8 sM),.k (eS.row B d m),.k (aM.all ((sM.drop k).map bj.own)),.k (aM.all (m.map bj.own))]) (fun (k,b,B,d,m)=>mu z.o.node (⟨z.o.prop,z.o.val,z.o.st⟩:Rg) ls k b m) (fun (k,b,B,d,m)=>sM.length-k) (0,false,none,0,[]) [0,1,2,9,10,6,11,13,14] (mu.nil _ _ _) ?_
  rintro _ ⟨k,b,B,d,m⟩ je aB
  have AN:=je.kl
  have TK:=je.len
  refine ae 9 [4] fun _=>aq ((k:Int)<(sM.length:Int)) (fun O3=>?_) (fun O3=>?_)
  ·refine ae 8 [4] fun _=>aV A7 sM.length (k:Int) 3 (fun w h=>Kd.cd (K:=eS) (xs:=sM) (h.bg 5 A7 c8 sM kr) (by omega)) ?_
   obtain ⟨jM,GY⟩:=aw (xs:=sM) (k:=k) (by omega)
   refine bd 152 (ad A7 (k*3) 0) (eS.V jM) (fun w h=>bN (K:=eS) (h.bg 5 A7 c8 sM kr) GY)<|ae 9 [9,9,1] fun TX=>?_
   have ui:ls[k]? =some jM.d:=by rw [← It,fk,GY];rfl
   refine gu 7 0 bj.own (sM.drop k) jM (by rw [List.getElem?_drop];exact GY) kr ?_
   refine aD 11 (aM.all (((sM.drop k).take 0++(sM.drop k).drop (0+1)).map bj.own)) (aM.all ((sM.drop (k+1)).map bj.own)) kr qii<|ah (OR jM.id z.o.node) [] cJ ?_
   rintro _ _ ⟨rfl,rfl⟩
   refine aa 8 fun _=>eg 50 (!b) (fun O4=>?_) (fun O4=>?_)
   ·refine aa 4 fun _=>aq ((bl jM.id z.o.node)>0) (fun JE=>?_) (fun JE=>?_)
    ·refine aa 1 fun _=>aO [(9,_),(12,_)] [1,1,1,1] ⟨qti,ib (hb:=fun _=>qa9) eS 6 (fun vs=>B) (fun vs=>d) (fun vs=>m) (fun vs=>some ⟨(a5 (vs 11)),0,none⟩) (fun vs=>1) (fun vs=>1) (fun vs=> [(⟨⟨z.o.node.t,z.o.node.r⟩,(cO (⟨z.o.prop,z.o.val,z.o.st⟩:Rg) []),ak (vs 9),an (vs 9)⟩:bj)]) (fun vs w h=>h.eT 13 (a5 (vs 11)) 152 (List.flatMap eS.f [(⟨⟨z.o.node.t,z.o.node.r⟩,(cO (⟨z.o.prop,z.o.val,z.o.st⟩:Rg) []),ak (vs 9),an (vs 9)⟩:bj)]) kr),trivial⟩ fun Kn=>aa 9 fun _=>aq ((bl jM.id z.o.node)=0) (fun h50=>?_) (fun h50=>?_)
     ·exact kp
     ·refine ae 5 [9] fun Ku=>bQ eS 15 (ak (Kn 12)) (an (Kn 12)) (m++ [(⟨⟨z.o.node.t,z.o.node.r⟩,(cO (⟨z.o.prop,z.o.val,z.o.st⟩:Rg) []),ak (Kn 9),an (Kn 9)⟩:bj)]) (so (Ku 4)) 1 1 [jM] (fun w h=>h.eT 16 (Ku 4) 152 (List.flatMap eS.f [jM]) kr) vE fun A52 c53=>aa 6 fun _=>ao 37 ((k:Int)+1)<|aa 2 fun _=>eD bj.own 13 8 m (⟨⟨z.o.node.t,z.o.node.r⟩,(cO (⟨z.o.prop,z.o.val,z.o.st⟩:Rg) []),ak (Kn 9),an (Kn 9)⟩:bj) kr<|eD bj.own 10 17 (m++ [(⟨⟨z.o.node.t,z.o.node.r⟩,(cO (⟨z.o.prop,z.o.val,z.o.st⟩:Rg) []),ak (Kn 9),an (Kn 9)⟩:bj)]) jM kr<|aB _ (k+1,true,A52,c53,m++ [(⟨⟨z.o.node.t,z.o.node.r⟩,(cO (⟨z.o.prop,z.o.val,z.o.st⟩:Rg) []),ak (Kn 9),an (Kn 9)⟩:bj)]++ [jM]) [0,1,2,3,4,5,15,12,18] kr (je.put wY ui O4 JE rfl rfl) du
    ·refine aa 7 fun _=>aq ((bl jM.id z.o.node)=0) (fun T2=>?_) (fun T2=>?_)
     ·refine ae 10 [9,1,1,1] fun _=>ah (YP jM.A jM.c jM.bX z.o.prop z.o.val z.o.st ((E0 _ (aI ui)).1) (eF (E0 _ (aI ui)).2 (by decide))) [] (fun w h=>h.bg 10 jM.A jM.c jM.bX kr) ?_
      rintro _ _ ⟨A55,c56,rfl,rfl⟩
      refine ae 10 [9,9] fun Kv=>bQ eS 6 B d m (so (Kv 9)) 1 1 [(⟨⟨jM.id.t,jM.id.r⟩,(cO (⟨z.o.prop,z.o.val,z.o.st⟩:Rg) jM.bX),A55,c56⟩:bj)] (fun w h=>h.eT 14 (Kv 9) 152 (List.flatMap eS.f [(⟨⟨jM.id.t,jM.id.r⟩,(cO (⟨z.o.prop,z.o.val,z.o.st⟩:Rg) jM.bX),A55,c56⟩:bj)]) kr) vE fun A58 c59=>aa 6 fun _=>ao 37 ((k:Int)+1)<|aa 2 fun _=>eD bj.own 13 8 m (⟨⟨jM.id.t,jM.id.r⟩,(cO (⟨z.o.prop,z.o.val,z.o.st⟩:Rg) jM.bX),A55,c56⟩:bj) kr<|aB _ (k+1,true,A58,c59,m++ [(⟨⟨jM.id.t,jM.id.r⟩,(cO (⟨z.o.prop,z.o.val,z.o.st⟩:Rg) jM.bX),A55,c56⟩:bj)]) [0,1,2,3,4,5,6,12,15] kr (je.ID wY ui O4 T2 rfl) du
     ·refine ae 5 [9] fun YQ=>bQ eS 6 B d m (so (YQ 4)) 1 1 [jM] (fun w h=>h.eT 13 (YQ 4) 152 (List.flatMap eS.f [jM]) kr) vE fun A61 c62=>aa 6 fun _=>ao 37 ((k:Int)+1)<|aa 2 fun _=>eD bj.own 10 8 m jM kr<|aB _ (k+1,b,A61,c62,m++ [jM]) [0,1,2,3,4,5,6,12,14] kr (je.step ui O4 JE T2 rfl) du
   ·refine aa 12 fun _=>aq ((bl jM.id z.o.node)=0) (fun Iw=>?_) (fun Iw=>?_)
    ·exact (show False from je.far ui O4 Iw).elim
    ·refine ae 5 [9] fun YR=>bQ eS 6 B d m (so (YR 4)) 1 1 [jM] (fun w h=>h.eT 13 (YR 4) 152 (List.flatMap eS.f [jM]) kr) vE fun A65 c66=>aa 6 fun _=>ao 37 ((k:Int)+1)<|aa 2 fun _=>eD bj.own 10 8 m jM kr<|aB _ (k+1,b,A65,c66,m++ [jM]) [0,1,2,3,4,5,6,12,14] kr (je.go ui O4 rfl) du
  ·refine aa 7 fun _=>eQ (!b) (fun h67=>?_) (fun h67=>?_)
   ·refine aO [(9,_),(12,_)] [1,1,1,1] ⟨qti,ib (hb:=fun _=>qa9) eS 6 (fun vs=>B) (fun vs=>d) (fun vs=>m) (fun vs=>some ⟨(a5 (vs 11)),0,none⟩) (fun vs=>1) (fun vs=>1) (fun vs=> [(⟨⟨z.o.node.t,z.o.node.r⟩,(cO (⟨z.o.prop,z.o.val,z.o.st⟩:Rg) []),ak (vs 9),an (vs 9)⟩:bj)]) (fun vs w h=>h.eT 9 (a5 (vs 11)) 152 (List.flatMap eS.f [(⟨⟨z.o.node.t,z.o.node.r⟩,(cO (⟨z.o.prop,z.o.val,z.o.st⟩:Rg) []),ak (vs 9),an (vs 9)⟩:bj)]) kr),trivial⟩ fun oB=>ae 12 [4,4,2] fun _=>?_
    have em:=Be (l:=l) ki
    have el:=wX (l:=ls) ki
    refine eD bj.own 9 8 m (⟨⟨z.o.node.t,z.o.node.r⟩,(cO (⟨z.o.prop,z.o.val,z.o.st⟩:Rg) []),ak (oB 9),an (oB 9)⟩:bj) kr ?_
    have YS:(m++ [(⟨⟨z.o.node.t,z.o.node.r⟩,(cO (⟨z.o.prop,z.o.val,z.o.st⟩:Rg) []),ak (oB 9),an (oB 9)⟩:bj)]).map bj.d=gY z.o.node (⟨z.o.prop,z.o.val,z.o.st⟩:Rg) ls:=((je.fin (by omega)).2 (by simpa using h67) _ rfl)
    refine aJ (Nw (ak (oB 12)) (an (oB 12)) (gY z.o.node (⟨z.o.prop,z.o.val,z.o.st⟩:Rg) ls)) [11,12] [eS.row (ak (oB 12)) (an (oB 12)) (m++ [(⟨⟨z.o.node.t,z.o.node.r⟩,(cO (⟨z.o.prop,z.o.val,z.o.st⟩:Rg) []),ak (oB 9),an (oB 9)⟩:bj)]),aM.all ((m++ [(⟨⟨z.o.node.t,z.o.node.r⟩,(cO (⟨z.o.prop,z.o.val,z.o.st⟩:Rg) []),ak (oB 9),an (oB 9)⟩:bj)]).map bj.own)] (⟨m++ [(⟨⟨z.o.node.t,z.o.node.r⟩,(cO (⟨z.o.prop,z.o.val,z.o.st⟩:Rg) []),ak (oB 9),an (oB 9)⟩:bj)],YS,rfl⟩) ?_
    have YO:(m++ [(⟨⟨z.o.node.t,z.o.node.r⟩,(cO (⟨z.o.prop,z.o.val,z.o.st⟩:Rg) []),ak (oB 9),an (oB 9)⟩:bj)]).length=(gY z.o.node (⟨z.o.prop,z.o.val,z.o.st⟩:Rg) ls).length:=by rw [← YS,cM]
    refine aD 3 (iK A2 c3 A4 c5 l) (iK A2 c3 A4 c5 (eW l z.o)) kr (by rw [em])<|aD 13 (kI (ak (oB 12)) (an (oB 12)) (gY z.o.node (⟨z.o.prop,z.o.val,z.o.st⟩:Rg) ls)) (kI (ak (oB 12)) (an (oB 12)) (eC ls z.o)) kr (by rw [el])<|bk [2] [14,15] (.inr ⟨A2,c3,A4,c5,ak (oB 12),an (oB 12),kt (.tuple #[.agg #[sl A2 ((ai l []).length) c3,sl A4 l.length c5,sl (ak (oB 12)) ((m++ [(⟨⟨z.o.node.t,z.o.node.r⟩,(cO (⟨z.o.prop,z.o.val,z.o.st⟩:Rg) []),ak (oB 9),an (oB 9)⟩:bj)]).length) (an (oB 12))],.bool true]) (by rw [em,el,YO]),kr⟩)
   ·refine ae 13 [4,4,2] fun _=>?_
    have em:=Be (l:=l) ki
    have el:=wX (l:=ls) ki
    have YS:(m).map bj.d=gY z.o.node (⟨z.o.prop,z.o.val,z.o.st⟩:Rg) ls:=((je.fin (by omega)).1 (by simpa using h67))
    refine aJ (Nw B d (gY z.o.node (⟨z.o.prop,z.o.val,z.o.st⟩:Rg) ls)) [6,8] [eS.row B d m,aM.all (m.map bj.own)] (⟨m,YS,rfl⟩) ?_
    have YO:(m).length=(gY z.o.node (⟨z.o.prop,z.o.val,z.o.st⟩:Rg) ls).length:=by rw [← YS,cM]
    refine aD 3 (iK A2 c3 A4 c5 l) (iK A2 c3 A4 c5 (eW l z.o)) kr (by rw [em])<|aD 9 (kI B d (gY z.o.node (⟨z.o.prop,z.o.val,z.o.st⟩:Rg) ls)) (kI B d (eC ls z.o)) kr (by rw [el])<|bk [2] [10,11] (.inr ⟨A2,c3,A4,c5,B,d,kt (.tuple #[.agg #[sl A2 ((ai l []).length) c3,sl A4 l.length c5,sl B m.length d],.bool true]) (by rw [em,el,YO]),kr⟩)
end
section
def Hy (A:OA) (c:Nat) (xs:List aT):Ct Tryz.prog 61 #[.slice A xs.length c] (fun w=>ir A xs w) [] (fun v Cs=> ∃(A':OA),∃(c':Nat),v=.slice A' (xs.map (·.o)).length c'∧Cs= [cV A' c' (xs.map (·.o))]):=
 (Px A c xs).mono (fun _ h=>h) fun v Cs ⟨A,c,ys,h1,h2,h3⟩=>⟨_,⟨A,c,by rw [← h2,cM];exact h1,rfl⟩,fun U w0 w hS=>SS.rE (K:= []) qo2 ⟨ys,h2,h3⟩⟩
def K9 (A:OA) (c:Nat) (l:List bz):Ct Tryz.prog 61 #[.slice A l.length c] (fun w=>ph A l w) [] (fun v Cs=> ∃(A':OA),∃(c':Nat),v=.slice A' l.length c'∧Cs= [cV A' c' l]):=fun U w ⟨ys,e,h⟩ hS=>by
 subst e
 have:=Hy A c ys U w h hS
 rw [cM]
 exact qod
section
variable {n:Nat} {U F:Nat→Prop} {w0 w:World} {Q:Exit→Act→World→Prop} {s:S} {ez:Ez} {hs:List Nat} {i:Nat}
def Hz {A B:OA} {c d g i:Nat} {l:List bz} {x:bz} {cs:List Value} {K':List aM} {z:Op×TypeId} {L:Env} {ops:Array Oper} (hx:ef ops L i=some z) (h:uy Tryz.prog L z=some (56,.slice A l.length c,.slice (so g) 1 1)) (mL:fK Tryz.prog bx.e bx.sz=true) (rD:cs=List.flatMap bx.f [aT.mk x B d])
 (hS:SS U w0 w (cV A c l::az.row B d x.aX::bJ g 56 cs::K')) (hb:l.length+1≤1073741824) {Post:Value→World→Prop} (hp: ∀A' c' w',SS U w0 w' (cV A' c' (l++ [x])::K')→Post (.slice A' (l++ [x]).length c') w'):One Tryz.prog n ops Q i L w Post:=by
 obtain ⟨C1,⟨xs,rfl,rfl⟩,h1⟩:=SS.g9 hS
 subst rD
 rw [cM] at h hb
 refine tg bx (i':=0) hx h mL h1 rfl (ys:= [aT.mk x B d]) (SS.get h1 (i:=3) rfl fun F hF=>fun j v hj=>⟨_,rfl,pH.news hF.2 j v hj⟩) rfl hb fun A' c' w' hw=>?_
 have h2:SS U w0 w' (aT.own (aT.mk x B d)::aM.all (xs.map aT.own)::bx.row A' c' (xs++ [aT.mk x B d])::K'):=by
  have h3:SS U w0 w' (bx.row A' c' (xs++ [aT.mk x B d])::aM.all (xs.map aT.own)::az.row B d x.aX::bJ g 56 (List.flatMap bx.f [aT.mk x B d])::K'):=hw
  have h4:=h3.perm (K:=bJ g 56 (List.flatMap bx.f [aT.mk x B d])::az.row B d x.aX::aM.all (xs.map aT.own)::bx.row A' c' (xs++ [aT.mk x B d])::K') (by
   refine (List.Perm.append_right K' (l₁:= [_,_,_,_]) (l₂:= [_,_,_,_]) ?_)
   exact (List.reverse_perm _).symm)
  exact h4.tail
 have h5:=RT h2
 have h6:SS U w0 w' ([bx.row A' c' (xs++ [aT.mk x B d]),aM.all ((xs++ [aT.mk x B d]).map aT.own)]++K'):=by
  rw [cT]
  exact h5.perm (List.Perm.swap _ _ _)
 have:=hp A' c' w' (SS.rE (φ:=hZ A' c' (xs.map (·.o)++ [x])) h6 ⟨xs++ [aT.mk x B d],by rw [cT];rfl,rfl⟩)
 exact Rf
def Py (r1 r2 r3:Nat) (A B:(Nat→Value)→OA) (c d g:(Nat→Value)→Nat) (l:List bz) (x:bz) (cs:(Nat→Value)→List Value)
 (h: ∀vs,(s.ox Tryz.prog n ez hs i vs (uy Tryz.prog),(s.D Tryz.prog n ez hs vs).jh [r1,r2,r3],fK Tryz.prog bx.e bx.sz)=(some (56,.slice (A vs) l.length (c vs),.slice (some ⟨g vs,0,none⟩) 1 1),[cV (A vs) (c vs) l,az.row (B vs) (d vs) x.aX,bJ (g vs) 56 (cs vs)],true)) (rD: ∀vs,cs vs=List.flatMap bx.f [⟨x,B vs,d vs⟩]) (hb:l.length+1≤1073741824):
 ke Tryz.prog n U w0 s ez hs i ⟨[r1,r2,r3],fun vs=>.slice (ak (vs i)) (l++ [x]).length (an (vs i)),[fun vs=>.k (cV (ak (vs i)) (an (vs i)) (l++ [x]))]⟩:=by
 refine ⟨fun vs Q' w K' hS=>?_⟩
 have hh:=h vs
 simp only [bI] at hh
 obtain ⟨h1,h2,h3⟩:=hh
 obtain ⟨y,hy,h1⟩:=S.dU h1
 simp only at hS
 rw [h2] at hS
 refine Hz hy h1 h3 (rD vs) hS hb fun A' c' w' hw=>?_
 have e:ik vs i (.slice A' (l++ [x]).length c') i=.slice A' (l++ [x]).length c':=kR _ _ _
 exact qkd
end
end
section
section
variable {U:Nat→Prop} {w0 w:World} {H:List HB}
def _root_.Go.bE.SH.trR {An Am:OA} {cn cm:Nat} {l:List bz} (h:SH U w0 w H) (i:Nat) (hi:(dR H.length [i],pk H [i])=(true,[iK An cn Am cm l])) (hm: ∀o∈l,bV o) (hl:l.length≤100000):sL An Am l w:=by
 simp only [bI] at hi
 exact Sc h (aI (SH.gf hi.1 hi.2)) hm hl
def _root_.Go.bE.SH.lkR {A:OA} {c:Nat} {ls:List iZ} (h:SH U w0 w H) (i:Nat) (hi:(dR H.length [i],pk H [i])=(true,[kI A c ls])) (hm: ∀k∈ls,k.bX.length≤100000) (hl:ls.length≤100000):E1 A ls w:=by
 simp only [bI] at hi
 exact Sd h (aI (SH.gf hi.1 hi.2)) hm hl
end
def Mr (v_:c_) (x:aT) (hf:gI v_.d) (hz:bV x.o):hO Cp 41 #[.agg #[iv v_.d.rep,iv (bq v_.d.ops),sl v_.a.Ah v_.d.hv.length v_.a.ch,sl v_.a.Ao v_.d.ops.length v_.a.co,sl v_.a.Ax v_.d.held.length v_.a.cx,sl v_.a.An ((ai (dJ v_.d.ops) []).length) v_.a.cn,sl v_.a.Am ((dJ v_.d.ops).length) v_.a.cm,sl v_.a.Al ((fY v_.d.ops).length) v_.a.cl,iv v_.d.wait,iv v_.d.dT,iv v_.d.aW],bx.V x] (fun U w=>x.gx U w) [SA v_] (fun v Cs=> ∃a,v=.agg #[iv (({v_.d with ops:=v_.d.ops++ [x.o]}).rep),iv (bq ({v_.d with ops:=v_.d.ops++ [x.o]}).ops),sl a.Ah (({v_.d with ops:=v_.d.ops++ [x.o]}).hv.length) a.ch,sl a.Ao (({v_.d with ops:=v_.d.ops++ [x.o]}).ops.length) a.co,sl a.Ax (({v_.d with ops:=v_.d.ops++ [x.o]}).held.length) a.cx,sl a.An ((ai (dJ ({v_.d with ops:=v_.d.ops++ [x.o]}).ops) []).length) a.cn,sl a.Am ((dJ ({v_.d with ops:=v_.d.ops++ [x.o]}).ops).length) a.cm,sl a.Al ((fY ({v_.d with ops:=v_.d.ops++ [x.o]}).ops).length) a.cl,iv (({v_.d with ops:=v_.d.ops++ [x.o]}).wait),iv (({v_.d with ops:=v_.d.ops++ [x.o]}).dT),iv (({v_.d with ops:=v_.d.ops++ [x.o]}).aW)]∧Cs= [SA (⟨{v_.d with ops:=v_.d.ops++ [x.o]},a⟩)]):=by
 refine kz [.k (SA v_)] Tryz.func41 fun U w0 hp=>?_
 have vh:=hf.ol
 have e1:=nM v_.d.ops x.o
 have e2:=nN v_.d.ops x.o
 have e3:=r9 v_.d.ops x.o
 have oO:=hf.ml
 have s4:=hf.ll
 refine bn (φ:=SP ⟨v_.d,v_.a⟩) 0 ?_
 rintro _ rfl
 refine aa 7 fun a8=>aO [(2,_),(4,_),(6,_)] [6,7,6] ⟨aY (fun vs=>K9 v_.a.Ao v_.a.co v_.d.ops) [] (fun vs=>sl (ak (vs 2)) v_.d.ops.length (an (vs 2))) [fun vs=>.k (cV (ak (vs 2)) (an (vs 2)) v_.d.ops)] (fun vs w h=>h.Qh (c:=v_.a.co) 2 kr hf.ops (by omega)) kA,aY (fun vs=>xS x) [] (fun vs=>bx.V ⟨x.o,ak (ag (vs 4) 3),an (ag (vs 4) 3)⟩) [fun vs=>.k (az.row (ak (ag (vs 4) 3)) (an (ag (vs 4) 3)) x.o.aX)] qkh kA,Py 9 10 11 (fun vs=>ak (vs 2)) (fun vs=>ak (ag (vs 4) 3)) (fun vs=>an (vs 2)) (fun vs=>an (ag (vs 4) 3)) (fun vs=>(a5 (vs 5))) v_.d.ops x.o (fun vs=> [iv x.o.st.t,iv x.o.st.r,iv x.o.seq,sl (ak (ag (vs 4) 3)) x.o.aX.length (an (ag (vs 4) 3)),iv x.o.kind,iv x.o.node.t,iv x.o.node.r,iv x.o.par.t,iv x.o.par.r,.string x.o.key,iv x.o.prop,iv x.o.val]) (fun _=>kr) (fun _=>rfl) (by omega),trivial⟩ fun v8=>ae 16 [13,7,13,13,7] fun _=>ah (YL v_.a.An v_.a.cn v_.a.Am v_.a.cm v_.a.Al v_.a.cl x (dJ v_.d.ops) (fY v_.d.ops) (by omega) ((k6 _).ms) hf.mm hz ((k6 _).ls) hf.rs (by omega)) [] (fun w h=>⟨⟨h.trR (cn:=v_.a.cn) (cm:=v_.a.cm) 4 kr hf.mm (by omega),h.lkR (c:=v_.a.cl) 5 kr (fun k hk=>(hf.rs k hk).2) (by omega)⟩,(aT.gx.aE hp h.ch).rd⟩) ?_
 rintro _ _ (⟨xp,n16,Es,yF,n19,c20,A21,n22,vH,rfl,f24,f25,rfl⟩|⟨GI,GJ,pR,rC,J_,Kb,rfl,rfl⟩)
 ·refine ae 19 [14,13,8] fun YN=>aD 4 (iK v_.a.An v_.a.cn v_.a.Am v_.a.cm (dJ v_.d.ops)) (iK v_.a.An v_.a.cn v_.a.Am v_.a.cm (dJ (v_.d.ops++ [x.o]))) kr (by rw [e1,f24])<|aD 5 (kI v_.a.Al v_.a.cl (fY v_.d.ops)) (kI v_.a.Al v_.a.cl (fY (v_.d.ops++ [x.o]))) kr (by rw [e2,f25])<|bP 8 (a8 4) 54 [iv v_.d.rep,iv (if x.o.st.t>(bq v_.d.ops) then x.o.st.t else bq v_.d.ops),sl v_.a.Ah v_.d.hv.length v_.a.ch,sl (ak (v8 6)) ((v_.d.ops++ [x.o]).length) (an (v8 6)),sl v_.a.Ax v_.d.held.length v_.a.cx,sl v_.a.An ((ai (dJ v_.d.ops) []).length) v_.a.cn,sl v_.a.Am ((dJ v_.d.ops).length) v_.a.cm,sl v_.a.Al ((fY v_.d.ops).length) v_.a.cl,iv v_.d.wait,iv v_.d.dT,iv v_.d.aW] [iv v_.d.rep,iv (bq (v_.d.ops++ [x.o])),sl v_.a.Ah v_.d.hv.length v_.a.ch,sl (ak (v8 6)) ((v_.d.ops++ [x.o]).length) (an (v8 6)),sl v_.a.Ax v_.d.held.length v_.a.cx,sl v_.a.An ((ai (dJ (v_.d.ops++ [x.o])) []).length) v_.a.cn,sl v_.a.Am ((dJ (v_.d.ops++ [x.o])).length) v_.a.cm,sl v_.a.Al ((fY (v_.d.ops++ [x.o])).length) v_.a.cl,iv v_.d.wait,iv v_.d.dT,iv v_.d.aW] kr (by rw [e1,e2,e3,f24,f25])<|aJ (SP ⟨{v_.d with ops:=v_.d.ops++ [x.o]},⟨v_.a.Ah,v_.a.ch,ak (v8 6),an (v8 6),v_.a.Ax,v_.a.cx,v_.a.An,v_.a.cn,v_.a.Am,v_.a.cm,v_.a.Al,v_.a.cl⟩⟩) [1,12,3,15,16] [az.row v_.a.Ah v_.a.ch v_.d.hv,cV (ak (v8 6)) (an (v8 6)) (v_.d.ops++ [x.o]),cV v_.a.Ax v_.a.cx v_.d.held,iK v_.a.An v_.a.cn v_.a.Am v_.a.cm (dJ (v_.d.ops++ [x.o])),kI v_.a.Al v_.a.cl (fY (v_.d.ops++ [x.o]))] rfl<|bk [8] [17] ⟨⟨v_.a.Ah,v_.a.ch,ak (v8 6),an (v8 6),v_.a.Ax,v_.a.cx,v_.a.An,v_.a.cn,v_.a.Am,v_.a.cm,v_.a.Al,v_.a.cl⟩,kr,kr⟩
 ·refine ae 23 [16,16,13,13,8] fun atb=>aD 14 (iK GI GJ pR rC (eW (dJ v_.d.ops) x.o)) (iK GI GJ pR rC (dJ (v_.d.ops++ [x.o]))) kr (by rw [e1])<|aD 15 (kI J_ Kb (eC (fY v_.d.ops) x.o)) (kI J_ Kb (fY (v_.d.ops++ [x.o]))) kr (by rw [e2])<|bP 8 (a8 4) 54 [iv v_.d.rep,iv (if x.o.st.t>(bq v_.d.ops) then x.o.st.t else bq v_.d.ops),sl v_.a.Ah v_.d.hv.length v_.a.ch,sl (ak (v8 6)) ((v_.d.ops++ [x.o]).length) (an (v8 6)),sl v_.a.Ax v_.d.held.length v_.a.cx,sl GI ((ai (eW (dJ v_.d.ops) x.o) []).length) GJ,sl pR ((eW (dJ v_.d.ops) x.o).length) rC,sl J_ ((eC (fY v_.d.ops) x.o).length) Kb,iv v_.d.wait,iv v_.d.dT,iv v_.d.aW] [iv v_.d.rep,iv (bq (v_.d.ops++ [x.o])),sl v_.a.Ah v_.d.hv.length v_.a.ch,sl (ak (v8 6)) ((v_.d.ops++ [x.o]).length) (an (v8 6)),sl v_.a.Ax v_.d.held.length v_.a.cx,sl GI ((ai (dJ (v_.d.ops++ [x.o])) []).length) GJ,sl pR ((dJ (v_.d.ops++ [x.o])).length) rC,sl J_ ((fY (v_.d.ops++ [x.o])).length) Kb,iv v_.d.wait,iv v_.d.dT,iv v_.d.aW] kr qqz<|aJ (SP ⟨{v_.d with ops:=v_.d.ops++ [x.o]},⟨v_.a.Ah,v_.a.ch,ak (v8 6),an (v8 6),v_.a.Ax,v_.a.cx,GI,GJ,pR,rC,J_,Kb⟩⟩) [1,12,3,17,18] [az.row v_.a.Ah v_.a.ch v_.d.hv,cV (ak (v8 6)) (an (v8 6)) (v_.d.ops++ [x.o]),cV v_.a.Ax v_.a.cx v_.d.held,iK GI GJ pR rC (dJ (v_.d.ops++ [x.o])),kI J_ Kb (fY (v_.d.ops++ [x.o]))] rfl<|bk [8] [19] ⟨⟨v_.a.Ah,v_.a.ch,ak (v8 6),an (v8 6),v_.a.Ax,v_.a.cx,GI,GJ,pR,rC,J_,Kb⟩,kr,kr⟩
def ahq (rep:Int) (n:Nat) (hn:n≤16):Ct Cp 40 #[iv rep,iv n] (fun _=>True) [] (fun v Cs=> ∃a,v=.agg #[iv ((aj rep (bR n) []).rep),iv (bq (aj rep (bR n) []).ops),sl a.Ah ((aj rep (bR n) []).hv.length) a.ch,sl a.Ao ((aj rep (bR n) []).ops.length) a.co,sl a.Ax ((aj rep (bR n) []).held.length) a.cx,sl a.An ((ai (dJ (aj rep (bR n) []).ops) []).length) a.cn,sl a.Am ((dJ (aj rep (bR n) []).ops).length) a.cm,sl a.Al ((fY (aj rep (bR n) []).ops).length) a.cl,iv ((aj rep (bR n) []).wait),iv ((aj rep (bR n) []).dT),iv ((aj rep (bR n) []).aW)]∧Cs= [SA (⟨aj rep (bR n) [],a⟩)]):=by
 refine cc Tryz.func40 fun w0 hp=>qa1
end

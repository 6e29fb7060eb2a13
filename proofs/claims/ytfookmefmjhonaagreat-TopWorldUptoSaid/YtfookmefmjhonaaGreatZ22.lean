/- For the law of worlds: What functions do; What lies in memory. -/
import Derived.Test.YtfookmefmjhonaaGreatZ21
set_option linter.all false
namespace Go.Proofs.YtfookmefmjhonaaGreat.My
open Go.RowKit Go.bE
def Pp (An:OA) (cn:Nat) (Am:OA) (cm:Nat) (x:aT) (l:List bz) (ux:mZ l) (wR: ∀m∈l,m.st≠x.o.st) (Bu: ∀m∈l,bV m) (hl:l.length≤100000):hO Cp 184 #[.agg #[sl An ((ai l []).length) cn,sl Am l.length cm],bx.V x] (fun U w=>x.gx U w) [iK An cn Am cm l] (fun v Cs=> ∃A3 c3 A4 c4,v=.tuple #[.agg #[sl A3 ((ai (eP x.o l) []).length) c3,sl A4 ((eP x.o l).length) c4],iv 0]∧Cs= [iK A3 c3 A4 c4 (eP x.o l)]):=by
 refine kz [.k (iK An cn Am cm l)] Tryz.func184 fun U w0 hp=>bn (φ:=GF An cn Am cm l) 0 ?_
 rintro _ ⟨ms,mO,rfl⟩
 have oO:=iC mO
 refine dN (φ:=ms.length≤cm) (fun w h=>h.mR (K:=gq) 2 Am cm ms kr) fun OV=>aa 7 fun ld=>ed 0 (σ:=Nat×Nat) (fun (i,w)=> [(2,pv (ld 2)),(3,pv (ld 3)),(4,pv (ld 4)),(5,iv 0),(6,pv w),(7,iv i)]) (fun (i,w)=> [.b (ld 2) 49 [sl An ((ai l []).length) cn,sl Am l.length cm],.b (ld 3) 56 (aT.cells x),.b (ld 4) 49 [sl none 0 0,sl none 0 0],.k (tV w (ai (l.take i) [])),.k (gq.row Am cm ms),.k (aM.all (ms.map cD.own))]) (fun (i,w)=>i≤l.length∧ ∀m∈l.drop i,slt x.o.st m.st) (fun (i,w)=>i) ?_ ?_
 ·intro _ cG
  refine ae 21 [4,4] fun nB=>aJ (Iy (nB 5) (ai l [])) [7,1] [bJ (nB 5) 328 [sl An ((ai l []).length) cn],aP.row An cn (ai l [])] (⟨An,cn,rfl⟩)<|aD 8 (tV (nB 5) (ai l [])) (tV (nB 5) (ai (l.take l.length) [])) kr (by rw [List.take_length])<|cG _ (l.length,(nB 5)) [4,5,6,9,2,3] kr ⟨bO _,by simp⟩
 ·rintro _ ⟨i,w⟩ ⟨hi,hgt⟩ dm
  refine aa 2 fun _=>?_
  rcases bK (decide ((i:Int)>0)) with b5|b5
  ·have h4:=cg b5
   obtain ⟨y,hy⟩:=aw (xs:=ms) (k:=((i:Int)-1).toNat) (by omega)
   obtain ⟨o,ho⟩:=wO mO hy
   rw [show ((i:Int)-1).toNat=i-1 by omega] at ho
   have mJ:=Bu o (aI ho.1)
   refine aK [(1,.bool true),(7,_),(8,_),(10,bx.V y.x),(11,.bool (decide (bl x.o.st y.x.o.st<0)))] [1,0] ⟨qhc,fM ((i:Int)-1),qv3,cB 56 (((cz Am).add ((((i:Int)-1).toNat)*17)).add 0) (fun w h=>iy (K:=gq) (o:=0) (m:=12) (sub:=(aT.cells y.x)) (h.bg 4 Am cm ms kr) hy),bT (Dx x y.x) jU,trivial⟩<|aq (bl x.o.st y.x.o.st<0) (fun h6=>?_) (fun h6=>?_)
   ·refine aa 4 fun _=>ao 34 ((i:Int)-1)<|ae 8 [0] fun _=>aV Am l.length ((i:Int)-1) 17 qf5<|bd 187 (((cz Am).add ((((i:Int)-1).toNat)*17)).add 0) (gq.V y) (fun w h=>bN (K:=gq) (h.bg 4 Am cm ms kr) hy)<|ah (KQ w y (ai (l.take i) []) (dX _) (fun AY=>by rw [show ai (l.take i) []=iD (ai (l.take (i-1)) []) o by rw [← tX ho.1,show i-1+1=i by omega],ho.2.1];exact Ke (dX _) ((congrArg FX.idle ho.2.2).symm.trans AY)) qof) [3] cJ ?_
    rintro _ _ ⟨rfl,rfl⟩
    refine aa 1 fun _=>aD 6 (tV w (iu (ai (l.take i) []) y.d)) (tV w (ai (l.take (i-1)) [])) kr (by rw [show ai (l.take i) []=iD (ai (l.take (i-1)) []) o by rw [← tX ho.1,show i-1+1=i by omega],ho.2.2,OT (dX _)])<|aC 7 (iv ((i-1:Nat):Int)) (iv ((i:Int)-1)) XX<|dm _ (i-1,w) [0,1,2,7,4,5] kr ⟨by omega,by rw [GM ho.1 (by omega)];intro m hm;rcases dx.1 hm with rfl|hm;exact (ho.2.1▸h6);exact hgt m hm⟩ du
   ·refine ae 6 [0] fun _=>fC Am l.length cm 17 i l.length (some (iv i)) none (⟨_,rfl⟩) (by omega) (by omega)<|aa 4 fun _=>aK [(1,.bool true),(6,_),(7,_),(10,bZ.V y.x.o.st)] [0,1] ⟨qhc,fM ((i:Int)-1),qv3,cB 29 (((cz Am).add ((((i:Int)-1).toNat)*17)).add 0) (fun w h=>iy (K:=gq) (o:=0) (m:=2) (sub:= [iv y.x.o.st.t,iv y.x.o.st.r]) (h.bg 4 Am cm ms kr) hy),trivial⟩<|Bj y.x.o.st x.o.st kr (fun h7=>?_) (fun h7=>?_)
    ·exact (show False from wR o (aI ho.1) (by rw [← ho.2.1];exact h7)).elim
    ·refine aa 2 fun _=>tW 5 i cD.own ms kr ?_
     have hbe:=tY (o:=x.o) ux hi (fun m hm _=>by rw [ho.1] at hm;injection hm with hm;rw [← hm,← ho.2.1];exact h6)
     refine aO [(3,_),(4,_),(7,_),(9,_)] [0,1] qs0 fun jd=>aa 8 fun _=>eD cD.own 10 6 (ms.take i) (⟨(⟨x.o,ak (ag (jd 7) 3),an (ag (jd 7) 3)⟩:aT),(aH (ai (l.take i) []) x.o).kW,⟨(aH (ai (l.take i) []) x.o).par.t,(aH (ai (l.take i) []) x.o).par.r⟩,(aH (ai (l.take i) []) x.o).key,(aH (ai (l.take i) []) x.o).idle⟩:cD) kr<|aD 9 (tV w (iD (ai (l.take i) []) x.o)) (tV w (ai (l.take i++x.o::(l.drop i).take 0) [])) kr qqj<|aR (σ:=Nat×OA×Nat×List cD) (fun (j,B,d,nm)=> [(2,pv (ld 2)),(3,pv (ld 3)),(4,pv (ld 4)),(5,iv 0),(6,pv w),(7,iv i),(8,sl (dS Am cm i 17) (l.length-i) (cm-i)),(10,sl B nm.length d),(32,.bool (decide (bl x.o.st y.x.o.st<0))),(60,.bool (cS y.x.o.st x.o.st)),(85,sl (dS Am cm i 17) (l.length-i) (cm-i)),(86,iv ((l.length-i:Nat):Int)),(87,iv j)]) qc1 (fun (j,B,d,nm)=>j≤l.length-i∧nm.map cD.d=fz (l.take i++x.o::(l.drop i).take j) []) (fun (j,B,d,nm)=>l.length-i-j) (0,ak (jd 9),an (jd 9),ms.take i++ [(⟨(⟨x.o,ak (ag (jd 7) 3),an (ag (jd 7) 3)⟩:aT),(aH (ai (l.take i) []) x.o).kW,⟨(aH (ai (l.take i) []) x.o).par.t,(aH (ai (l.take i) []) x.o).par.r⟩,(aH (ai (l.take i) []) x.o).key,(aH (ai (l.take i) []) x.o).idle⟩:cD)]) [0,1,2,4,7,12,13,14] ⟨by omega,wQ mO rfl⟩ ?_
     rintro _ ⟨j,B,d,nm⟩ ⟨hj,RZ⟩ dG
     refine aa 5 fun _=>aq ((j:Int)<((l.length-i:Nat):Int)) (fun ki=>?_) (fun ki=>?_)
     ·obtain ⟨y2,lz⟩:=aw (xs:=ms.drop i) (k:=j) ub
      obtain ⟨o2,Cu⟩:=wO mO qqu
      have Cu:=And.intro (show (l.drop i)[j]? =some o2 by rw [List.getElem?_drop];exact Cu.1) Cu.2.1
      have Y_:=Bu o2 (lH (aI Cu.1))
      refine aa 5 fun _=>aV (dS Am cm i 17) (l.length-i) (j:Int) 17 qic<|bd 187 (ad (dS Am cm i 17) (j*17) 0) (gq.V y2) qk3<|ae 8 [8,8] fun yc=>bD (Dt w y2.x (ai (l.take i++x.o::(l.drop i).take j) []) (dX _) (eZ _) qjr) [7] qi0 ?_
      rintro _ _ ⟨xp,wk,rfl,rfl⟩
      refine aa 1 fun kQ=>bQ gq 5 B d nm (so (kQ 0)) 1 1 [(⟨(⟨y2.x.o,xp,wk⟩:aT),(aH (ai (l.take i++x.o::(l.drop i).take j) []) y2.x.o).kW,⟨(aH (ai (l.take i++x.o::(l.drop i).take j) []) y2.x.o).par.t,(aH (ai (l.take i++x.o::(l.drop i).take j) []) y2.x.o).par.r⟩,(aH (ai (l.take i++x.o::(l.drop i).take j) []) y2.x.o).key,(aH (ai (l.take i++x.o::(l.drop i).take j) []) y2.x.o).idle⟩:cD)] (fun w h=>h.eT 11 (kQ 0) 187 (List.flatMap gq.f [(⟨(⟨y2.x.o,xp,wk⟩:aT),(aH (ai (l.take i++x.o::(l.drop i).take j) []) y2.x.o).kW,⟨(aH (ai (l.take i++x.o::(l.drop i).take j) []) y2.x.o).par.t,(aH (ai (l.take i++x.o::(l.drop i).take j) []) y2.x.o).par.r⟩,(aH (ai (l.take i++x.o::(l.drop i).take j) []) y2.x.o).key,(aH (ai (l.take i++x.o::(l.drop i).take j) []) y2.x.o).idle⟩:cD)]) kr) qdw fun yF zM=>aa 5 fun _=>ao 98 ((j:Int)+1)<|aa 2 fun _=>eD cD.own 10 6 nm (⟨(⟨y2.x.o,xp,wk⟩:aT),(aH (ai (l.take i++x.o::(l.drop i).take j) []) y2.x.o).kW,⟨(aH (ai (l.take i++x.o::(l.drop i).take j) []) y2.x.o).par.t,(aH (ai (l.take i++x.o::(l.drop i).take j) []) y2.x.o).par.r⟩,(aH (ai (l.take i++x.o::(l.drop i).take j) []) y2.x.o).key,(aH (ai (l.take i++x.o::(l.drop i).take j) []) y2.x.o).idle⟩:cD) kr<|aD 9 (tV w (iD (ai (l.take i++x.o::(l.drop i).take j) []) y2.x.o)) (tV w (ai (l.take i++x.o::(l.drop i).take (j+1)) [])) kr qsb<|dG _ (j+1,yF,zM,nm++ [(⟨(⟨y2.x.o,xp,wk⟩:aT),(aH (ai (l.take i++x.o::(l.drop i).take j) []) y2.x.o).kW,⟨(aH (ai (l.take i++x.o::(l.drop i).take j) []) y2.x.o).par.t,(aH (ai (l.take i++x.o::(l.drop i).take j) []) y2.x.o).par.r⟩,(aH (ai (l.take i++x.o::(l.drop i).take j) []) y2.x.o).key,(aH (ai (l.take i++x.o::(l.drop i).take j) []) y2.x.o).idle⟩:cD)]) [0,1,2,3,4,5,12,13] kr ⟨by omega,AX RZ Cu.1 (by rw [← Cu.2];rfl)⟩ du
     ·exact qbh
  ·have h4:=de b5
   refine aK [(1,.bool false)] [] ⟨qhc,trivial⟩<|ae 7 [0] fun _=>fC Am l.length cm 17 i l.length (some (iv i)) none (⟨_,rfl⟩) (by omega) (by omega)<|aa 4 fun _=>aK [(1,.bool false)] [] ⟨qhc,trivial⟩<|aa 3 fun _=>tW 5 i cD.own ms kr ?_
   have hbe:=tY (o:=x.o) ux hi (fun m _ h0=>by omega)
   refine aO [(3,_),(4,_),(7,_),(9,_)] [0,1] qs0 fun sc=>aa 8 fun _=>eD cD.own 10 6 (ms.take i) (⟨(⟨x.o,ak (ag (sc 7) 3),an (ag (sc 7) 3)⟩:aT),(aH (ai (l.take i) []) x.o).kW,⟨(aH (ai (l.take i) []) x.o).par.t,(aH (ai (l.take i) []) x.o).par.r⟩,(aH (ai (l.take i) []) x.o).key,(aH (ai (l.take i) []) x.o).idle⟩:cD) kr<|aD 9 (tV w (iD (ai (l.take i) []) x.o)) (tV w (ai (l.take i++x.o::(l.drop i).take 0) [])) kr qqj<|aR (σ:=Nat×OA×Nat×List cD) (fun (j,B,d,nm)=> [(2,pv (ld 2)),(3,pv (ld 3)),(4,pv (ld 4)),(5,iv 0),(6,pv w),(7,iv i),(8,sl (dS Am cm i 17) (l.length-i) (cm-i)),(10,sl B nm.length d),(32,.bool false),(60,.bool false),(85,sl (dS Am cm i 17) (l.length-i) (cm-i)),(86,iv ((l.length-i:Nat):Int)),(87,iv j)]) qc1 (fun (j,B,d,nm)=>j≤l.length-i∧nm.map cD.d=fz (l.take i++x.o::(l.drop i).take j) []) (fun (j,B,d,nm)=>l.length-i-j) (0,ak (sc 9),an (sc 9),ms.take i++ [(⟨(⟨x.o,ak (ag (sc 7) 3),an (ag (sc 7) 3)⟩:aT),(aH (ai (l.take i) []) x.o).kW,⟨(aH (ai (l.take i) []) x.o).par.t,(aH (ai (l.take i) []) x.o).par.r⟩,(aH (ai (l.take i) []) x.o).key,(aH (ai (l.take i) []) x.o).idle⟩:cD)]) [0,1,2,4,7,12,13,14] ⟨by omega,wQ mO rfl⟩ ?_
   rintro _ ⟨j,B,d,nm⟩ ⟨hj,RZ⟩ jr
   refine aa 5 fun _=>aq ((j:Int)<((l.length-i:Nat):Int)) (fun vG=>?_) (fun vG=>?_)
   ·obtain ⟨y2,lz⟩:=aw (xs:=ms.drop i) (k:=j) ub
    obtain ⟨o2,Cu⟩:=wO mO qqu
    have Cu:=And.intro (show (l.drop i)[j]? =some o2 by rw [List.getElem?_drop];exact Cu.1) Cu.2.1
    have Y_:=Bu o2 (lH (aI Cu.1))
    refine aa 5 fun _=>aV (dS Am cm i 17) (l.length-i) (j:Int) 17 qic<|bd 187 (ad (dS Am cm i 17) (j*17) 0) (gq.V y2) qk3<|ae 8 [8,8] fun ar1=>bD (Dt w y2.x (ai (l.take i++x.o::(l.drop i).take j) []) (dX _) (eZ _) qjr) [7] qi0 ?_
    rintro _ _ ⟨C8,Gw,rfl,rfl⟩
    refine aa 1 fun Zq=>bQ gq 5 B d nm (so (Zq 0)) 1 1 [(⟨(⟨y2.x.o,C8,Gw⟩:aT),(aH (ai (l.take i++x.o::(l.drop i).take j) []) y2.x.o).kW,⟨(aH (ai (l.take i++x.o::(l.drop i).take j) []) y2.x.o).par.t,(aH (ai (l.take i++x.o::(l.drop i).take j) []) y2.x.o).par.r⟩,(aH (ai (l.take i++x.o::(l.drop i).take j) []) y2.x.o).key,(aH (ai (l.take i++x.o::(l.drop i).take j) []) y2.x.o).idle⟩:cD)] (fun w h=>h.eT 11 (Zq 0) 187 (List.flatMap gq.f [(⟨(⟨y2.x.o,C8,Gw⟩:aT),(aH (ai (l.take i++x.o::(l.drop i).take j) []) y2.x.o).kW,⟨(aH (ai (l.take i++x.o::(l.drop i).take j) []) y2.x.o).par.t,(aH (ai (l.take i++x.o::(l.drop i).take j) []) y2.x.o).par.r⟩,(aH (ai (l.take i++x.o::(l.drop i).take j) []) y2.x.o).key,(aH (ai (l.take i++x.o::(l.drop i).take j) []) y2.x.o).idle⟩:cD)]) kr) qdw fun J_ Kb=>aa 5 fun _=>ao 98 ((j:Int)+1)<|aa 2 fun _=>eD cD.own 10 6 nm (⟨(⟨y2.x.o,C8,Gw⟩:aT),(aH (ai (l.take i++x.o::(l.drop i).take j) []) y2.x.o).kW,⟨(aH (ai (l.take i++x.o::(l.drop i).take j) []) y2.x.o).par.t,(aH (ai (l.take i++x.o::(l.drop i).take j) []) y2.x.o).par.r⟩,(aH (ai (l.take i++x.o::(l.drop i).take j) []) y2.x.o).key,(aH (ai (l.take i++x.o::(l.drop i).take j) []) y2.x.o).idle⟩:cD) kr<|aD 9 (tV w (iD (ai (l.take i++x.o::(l.drop i).take j) []) y2.x.o)) (tV w (ai (l.take i++x.o::(l.drop i).take (j+1)) [])) kr qsb<|jr _ (j+1,J_,Kb,nm++ [(⟨(⟨y2.x.o,C8,Gw⟩:aT),(aH (ai (l.take i++x.o::(l.drop i).take j) []) y2.x.o).kW,⟨(aH (ai (l.take i++x.o::(l.drop i).take j) []) y2.x.o).par.t,(aH (ai (l.take i++x.o::(l.drop i).take j) []) y2.x.o).par.r⟩,(aH (ai (l.take i++x.o::(l.drop i).take j) []) y2.x.o).key,(aH (ai (l.take i++x.o::(l.drop i).take j) []) y2.x.o).idle⟩:cD)]) [0,1,2,3,4,5,12,13] kr ⟨by omega,AX RZ Cu.1 (by rw [← Cu.2];rfl)⟩ du
   ·exact qbh
def sZ (a b:Int):dO a b<0↔a<b:=by unfold dO;split<;>(try split)<;>constructor<;>intro h<;>omega
def Jm (a b:Int):dO a b=0↔a=b:=by unfold dO;split<;>(try split)<;>constructor<;>intro h<;>omega
abbrev lA (l:List Rg):Prop:=l.Pairwise fun a b=>a.prop<b.prop
def cO (r:Rg):List Rg→List Rg
 | []=> [r]
 |m::l=>if m.prop<r.prop then m::cO r l else if m.prop=r.prop then (if slt m.st r.st then r::l else m::l) else r::m::l
def tD {l:List Rg} (hs:lA l) (p:Int):tS (fun x:Rg=>dO x.prop p) l:=hs.imp fun h k=>by rw [sZ] at*;omega
def aea (l:List Rg) (p:Int):Nat:=db (fun x:Rg=>dO x.prop p) l
def aeb (l:List Rg) (p:Int):Prop:=zz (fun x:Rg=>dO x.prop p) l (aea l p)
noncomputable instance (l:List Rg) (p:Int):Decidable (aeb l p):=Classical.propDecidable _
def tF {r:Rg}: ∀ {l:List Rg} {i:Nat},RG (fun x:Rg=>dO x.prop r.prop) l i→(∀m,l[i]? =some m→m.prop≠r.prop)→cO r l=l.take i++r::l.drop i
 | [],i,h,_=>qrr
 |m::l,0,h,hn=>by
  have h1:=hn m rfl
  have h2:=h.2.2 m (by simp)
  rw [sZ] at h2
  unfold cO
  rw [if_neg h2,if_neg h1];rfl
 |m::l,i+1,h,hn=>by
  have h1:=h.2.1 m (by simp)
  rw [sZ] at h1
  unfold cO
  rw [if_pos h1,tF (i:=i) ⟨by simpa using h.1,fun x hx=>h.2.1 x (by simp [hx]),fun x hx=>h.2.2 x WC⟩ (by simpa using hn)]
  rfl
def nF {r m:Rg}: ∀ {l:List Rg} {i:Nat},RG (fun x:Rg=>dO x.prop r.prop) l i→l[i]? =some m→m.prop=r.prop→cO r l=if slt m.st r.st then l.set i r else l
 | [],i,_,hm,_=>by simp at hm
 |x::l,0,h,hm,hp=>by
  simp only [gQ,a9] at hm
  subst hm
  unfold cO
  rw [if_neg (by omega),if_pos hp]
  split<;>rfl
 |x::l,i+1,h,hm,hp=>by
  have h1:=h.2.1 x (by simp)
  rw [sZ] at h1
  unfold cO
  rw [if_pos h1,nF (i:=i) ⟨by simpa using h.1,fun y hy=>h.2.1 y (by simp [hy]),fun y hy=>h.2.2 y (by simpa using hy)⟩ (by simpa using hm) hp]
  split<;>rfl
def AR {r:Rg}: ∀ {l:List Rg} {m:Rg},m∈cO r l→m=r∨m∈l
 | [],m,h=>by simpa [cO] using h
 |x::l,m,h=>by
  unfold cO at h
  split at h
  ·rcases dx.1 h with rfl|h
   ·exact .inr cE
   ·exact (AR h).imp id (bH _)
  ·split at h
   ·split at h
    ·exact (dx.1 h).imp id (bH _)
    ·exact .inr h
   ·exact dx.1 h
def rL {r:Rg}: ∀ {l:List Rg},lA l→lA (cO r l)
 | [],_=>List.pairwise_singleton _ _
 |x::l,hs=>by
  have hp:=iq.1 hs
  unfold cO
  split
  ·rename_i h
   refine iq.2 ⟨fun m hm=>?_,rL hp.2⟩
   rcases AR hm with rfl|hm
   ·exact h
   ·exact hp.1 m hm
  ·rename_i h
   split
   ·rename_i h2
    split
    ·exact qme
    ·exact hs
   ·rename_i h2
    refine iq.2 ⟨fun m hm=>?_,hs⟩
    rcases dx.1 hm with rfl|hm
    ·omega
    ·have:=hp.1 m hm;omega
def AS {r:Rg}: ∀ {l:List Rg},(cO r l).length≤l.length+1
 | []=>by simp [cO]
 |x::l=>by
  have:=AS (r:=r) (l:=l)
  unfold cO
  split
  ·exact qm0
  ·split
   ·split<;>simp only [dM]<;>omega
   ·exact qm0
abbrev iY (l:List iZ):Prop:=l.Pairwise fun a b=>slt a.id b.id
def gY (id:cN) (r:Rg):List iZ→List iZ
 | []=> [⟨id,cO r []⟩]
 |m::l=>if slt m.id id then m::gY id r l else if m.id=id then ⟨id,cO r m.bX⟩::l else ⟨id,cO r []⟩::m::l
def AT {id:cN} {r:Rg}: ∀ {l:List iZ} {i:Nat},RG (fun x:iZ=>bl x.id id) l i→(∀m,l[i]? =some m→m.id≠id)→gY id r l=l.take i++⟨id,cO r []⟩::l.drop i
 | [],i,h,_=>qrr
 |m::l,0,h,hn=>by
  have h1:=hn m rfl
  have h2:=h.2.2 m (by simp)
  unfold gY
  rw [if_neg h2,if_neg h1];rfl
 |m::l,i+1,h,hn=>by
  have h1:=h.2.1 m (by simp)
  unfold gY
  rw [if_pos h1,AT (i:=i) ⟨by simpa using h.1,fun x hx=>h.2.1 x (by simp [hx]),fun x hx=>h.2.2 x WC⟩ (by simpa using hn)]
  rfl
def AU {id:cN} {r:Rg} {m:iZ}: ∀ {l:List iZ} {i:Nat},RG (fun x:iZ=>bl x.id id) l i→l[i]? =some m→m.id=id→gY id r l=l.set i ⟨id,cO r m.bX⟩
 | [],i,_,hm,_=>by simp at hm
 |x::l,0,h,hm,hp=>by
  simp only [gQ,a9] at hm
  subst hm
  have h2:=h.2.2 x (by simp)
  unfold gY
  rw [if_neg h2,if_pos hp];rfl
 |x::l,i+1,h,hm,hp=>by
  have h1:=h.2.1 x (by simp)
  unfold gY
  rw [if_pos h1,AU (i:=i) ⟨by simpa using h.1,fun y hy=>h.2.1 y (by simp [hy]),fun y hy=>h.2.2 y (by simpa using hy)⟩ (by simpa using hm) hp]
  rfl
def qa {id:cN} {r:Rg}: ∀ {l:List iZ} {m:iZ},m∈gY id r l→(m.id=id∧(m.bX=cO r []∨ ∃k∈l,m.bX=cO r k.bX))∨m∈l
 | [],m,h=>by simp [gY] at h;subst h;exact .inl ⟨rfl,.inl rfl⟩
 |x::l,m,h=>by
  unfold gY at h
  split at h
  ·rcases dx.1 h with rfl|h
   ·exact .inr cE
   ·rcases qa h with ⟨h1,h2|⟨k,hk,h2⟩⟩|h1
    ·exact .inl ⟨h1,.inl h2⟩
    ·exact .inl ⟨h1,.inr ⟨k,bH _ hk,h2⟩⟩
    ·exact .inr (bH _ h1)
  ·split at h
   ·rcases dx.1 h with rfl|h
    ·exact .inl ⟨rfl,.inr ⟨x,cE,rfl⟩⟩
    ·exact .inr (bH _ h)
   ·rcases dx.1 h with rfl|h
    ·exact .inl ⟨rfl,.inl rfl⟩
    ·exact .inr h
def wM {id:cN} {r:Rg}: ∀ {l:List iZ},iY l→iY (gY id r l)
 | [],_=>List.pairwise_singleton _ _
 |x::l,hs=>by
  have hp:=iq.1 hs
  unfold gY
  split
  ·rename_i h
   refine iq.2 ⟨fun m hm=>?_,wM hp.2⟩
   rcases qa hm with ⟨h1,_⟩|hm
   ·rw [h1];exact h
   ·exact hp.1 m hm
  ·rename_i h
   split
   ·rename_i h2
    exact qme
   ·rename_i h2
    refine iq.2 ⟨fun m hm=>?_,hs⟩
    have hg:=slt.tT h h2
    exact qls
def AV {id:cN} {r:Rg}: ∀ {l:List iZ},(gY id r l).length≤l.length+1
 | []=>by simp [gY]
 |x::l=>by
  have:=AV (id:=id) (r:=r) (l:=l)
  unfold gY
  split
  ·exact qm0
  ·split<;>simp only [dM]<;>omega
def eW (l:List bz) (o:bz):List bz:=if o.kind=1 then (if l.any (fun m=>cS m.st o.st)=true then l else eP o l) else l
def eC (l:List iZ) (o:bz):List iZ:=if o.kind=1 then l else gY o.node ⟨o.prop,o.val,o.st⟩ l
def dJ (ops:List bz):List bz:=ops.foldl eW []
def fY (ops:List bz):List iZ:=ops.foldl eC []
def nM (l:List bz) (o:bz):dJ (l++ [o])=eW (dJ l) o:=by simp [dJ]
def nN (l:List bz) (o:bz):fY (l++ [o])=eC (fY l) o:=by simp [fY]
def yb {l:List bz} {o:bz}:l.any (fun m=>cS m.st o.st)=true↔ ∃m∈l,m.st=o.st:=by
 rw [List.any_eq_true]
 constructor
 ·exact qlx
 ·exact qlx
def Da {l:List bz} (h:mZ l) (o:bz):mZ (eW l o):=by
 unfold eW
 split
 ·split
  ·exact h
  ·rename_i h2
   exact wN h fun m hm e=>h2 (yb.2 ⟨m,hm,e⟩)
 ·exact h
def nO {o:bz}: ∀ {l:List bz},(eP o l).length=l.length+1
 | []=>rfl
 |m::l=>by unfold eP;split<;>simp [nO]
structure OQ (ops:List bz):Prop where
 ms:mZ (dJ ops)
 mem: ∀m∈dJ ops,m∈ops
 ml:(dJ ops).length≤ops.length
 ls:iY (fY ops)
 rs: ∀k∈fY ops,lA k.bX∧k.bX.length≤ops.length∧k.bX≠ []
 ll:(fY ops).length≤ops.length
def ES (r:Rg) (l:List Rg):cO r l≠ []:=by
 cases l with
 |nil=>simp [cO]
 |cons x l=>unfold cO;split<;>(try split)<;>(try split)<;>simp
def GC {ops:List bz} (h:OQ ops) (o:bz):OQ (ops++ [o]):=by
 refine ⟨?_,?_,?_,?_,?_,?_⟩
 ·rw [nM];exact Da h.ms o
 ·rw [nM]
  intro m hm
  unfold eW at hm
  split at hm
  ·split at hm
   ·exact qku
   ·rcases qb.1 hm with rfl|hm
    ·simp
    ·exact qku
  ·exact qku
 ·rw [nM,bm,List.length_singleton]
  have:=h.ml
  unfold eW
  split
  ·split
   ·omega
   ·rw [nO];omega
  ·omega
 ·rw [nN];unfold eC;split
  ·exact h.ls
  ·exact wM h.ls
 ·rw [nN,bm,List.length_singleton]
  intro k hk
  unfold eC at hk
  split at hk
  ·exact qog
  ·rcases qa hk with ⟨_,h2|⟨k2,sE,h2⟩⟩|hk
   ·rw [h2];exact ⟨rL List.Pairwise.nil,by simp [cO],ES _ _⟩
   ·have:=h.rs k2 sE
    have h3:=AS (r:=⟨o.prop,o.val,o.st⟩) (l:=k2.bX)
    rw [h2];exact ⟨rL this.1,by omega,ES _ _⟩
   ·exact qog
 ·rw [nN,bm,List.length_singleton]
  have:=h.ll
  unfold eC
  split
  ·omega
  ·have h3:=AV (id:=o.node) (r:=⟨o.prop,o.val,o.st⟩) (l:=fY ops);omega
def k6 (ops:List bz):OQ ops:=by
 have: ∀n (l:List bz),l.length=n→OQ l:=by
  intro n
  induction n with
  |zero=>
   intro l hl
   have:=dV.1 hl
   subst this
   exact ⟨List.Pairwise.nil,by simp [dJ],by simp [dJ],List.Pairwise.nil,by simp [fY],by simp [fY]⟩
  |succ n ih=>
   intro l hl
   have rz:l≠ []:=by intro e;rw [e] at hl;simp at hl
   have e:=List.dropLast_concat_getLast rz
   rw [← e]
   exact GC (ih _ (by rw [List.length_dropLast];omega)) _
 exact this _ _ rfl
def Ko (x:Rg) (p:Int):Ct Cp 257 #[eH.V x,iv p] (fun _=>True) [] (fun v Cs=>v=iv (dO x.prop p)∧Cs= []):=by
 refine cc Tryz.func257 fun w0 hp=>ae 10 [0] fun a8=>ah (compare x.prop p) [] cJ ?_
 exact Iq
def GZ (aU:OA) (bb:Nat) (xs:List Rg) (p:Int) (hs:tS (fun z_:Rg=>dO z_.prop p) xs) (hb:xs.length≤1073741824):Ct Cp 256 #[sl aU xs.length bb,iv p,.func (.func 257) #[] #[]] (fun w=>eH.Rd aU xs w) [] (fun v Cs=>v=.tuple #[iv (db (fun z_:Rg=>dO z_.prop p) xs:Int),.bool (decide (zz (fun z_:Rg=>dO z_.prop p) xs (db (fun z_:Rg=>dO z_.prop p) xs)))]∧Cs= []):=by
 refine cc Tryz.func256 fun w0 hp=>aa 19 fun _=>aR (σ:=Nat×Nat) (fun (i,j)=> [(0,sl aU xs.length bb),(1,iv p),(2,.func (.func 257) #[] #[]),(6,iv 0),(7,.bool false),(8,iv (xs.length:Int)),(9,iv i),(10,iv j)]) (fun (i,j)=> []) (fun (i,j)=>i≤j∧j≤xs.length∧(∀m∈xs.take i,(fun z_:Rg=>dO z_.prop p) m<0)∧ ∀m∈xs.drop j,¬ (fun z_:Rg=>dO z_.prop p) m<0) (fun (i,j)=>j-i) (0,xs.length) [] ⟨bh _,bO _,by simp,by simp⟩ ?_
 rintro _ ⟨i,j⟩ ⟨JC,hj,ht,hd⟩ aB
 refine aa 7 fun _=>aq ((i:Int)<(j:Int)) (fun h1=>?_) (fun h1=>?_)
 ·refine aa 7 fun _=>ao 20 ((i:Int)+(j:Int))<|aa 1 fun _=>aC 21 (.int .u64 ((i+j:Nat):Int)) (.int .u64 (IntKind.u64.wrap ((i:Int)+(j:Int)))) qgr<|aa 1 fun _=>aC 22 (.int .u64 (((i+j)/2:Nat):Int)) (.int .u64 (Int.fdiv ((i+j:Nat):Int) (2^1))) qhy<|aa 1 fun _=>aC 23 (iv (((i+j)/2:Nat):Int)) (iv (IntKind.i64.wrap (((i+j)/2:Nat):Int))) qkb<|aa 7 fun _=>aV aU xs.length (((i+j)/2:Nat):Int) 4 qhv ?_
  obtain ⟨x2,e3⟩:=aw (xs:=xs) (k:=(i+j)/2) (by omega)
  refine bd 178 (((cz aU).add (((i+j)/2)*4)).add 0) (eH.V x2) qpr<|aa 1 fun _=>ah (Ko x2 p) [] cJ ?_
  rintro _ _ ⟨rfl,rfl⟩
  refine aa 2 fun _=>aq ((dO x2.prop p)<0) (fun h4=>?_) (fun h4=>?_)
  ·refine aa 3 fun _=>ao 33 ((((i+j)/2:Nat):Int)+1)<|aa 3 fun _=>aB _ (((i+j)/2)+1,j) [] kr ⟨by omega,hj,wT hs e3 h4,hd⟩ du
  ·refine aa 5 fun _=>aB _ (i,((i+j)/2)) [] kr ⟨by omega,by omega,ht,wU hs e3 h4⟩ du
 ·refine aa 8 fun _=>aG 39 ((i:Int)<(xs.length:Int)) (fun h5=>?_) (fun h5=>?_)
  ·refine aa 3 fun _=>aV aU xs.length (i:Int) 4 qhv ?_
   obtain ⟨x6,e7⟩:=aw (xs:=xs) (k:=i) (by omega)
   refine bd 178 (ad aU (i*4) 0) (eH.V x6) (fun w h=>bN (K:=eH) (hp.aE h.ch) e7)<|aa 1 fun _=>ah (Ko x6 p) [] cJ ?_
   rintro _ _ ⟨rfl,rfl⟩
   refine aa 5 fun _=>?_
   have uf:db (fun z_:Rg=>dO z_.prop p) xs=i:=mQ ⟨by omega,ht,by have e:i=j:=(by omega);rw [e];exact hd⟩
   exact a_ [] ⟨kt (.tuple #[iv i,.bool (decide ((dO x6.prop p)=0))]) (by rw [uf];exact congrArg (fun b=>Value.tuple #[iv i,.bool b]) (decide_eq_decide.2 (De (c:=fun z_:Rg=>dO z_.prop p) e7))),kr⟩
  ·refine aa 12 fun _=>?_
   have uf:db (fun z_:Rg=>dO z_.prop p) xs=i:=mQ ⟨by omega,ht,by have e:i=j:=(by omega);rw [e];exact hd⟩
   exact a_ [] ⟨kt (.tuple #[iv i,.bool false]) (by rw [uf];exact congrArg (fun b=>Value.tuple #[iv i,.bool b]) ((decide_eq_false (Df (c:=fun z_:Rg=>dO z_.prop p) (by omega))).symm)),kr⟩
def Oe (aU:OA) (bb:Nat) (xs:List Rg) (p:Int) (hs:tS (fun z_:Rg=>dO z_.prop p) xs) (hb:xs.length≤1073741824):Ct Cp 229 #[sl aU xs.length bb,iv p] (fun w=>eH.Rd aU xs w) [] (fun v Cs=>v=.tuple #[iv (db (fun z_:Rg=>dO z_.prop p) xs:Int),.bool (decide (zz (fun z_:Rg=>dO z_.prop p) xs (db (fun z_:Rg=>dO z_.prop p) xs)))]∧Cs= []):=by
 refine cc Tryz.func229 fun w0 hp=>aa 9 fun _=>ah (GZ aU bb xs p hs hb) [] il ?_
 exact qvo
def EW (x:bj) (y:cN):Ct Cp 225 #[eS.V x,bZ.V y] (fun _=>True) [] (fun v Cs=>v=iv (bl x.id y)∧Cs= []):=by
 refine cc Tryz.func225 fun w0 hp=>qup
def Dh (aU:OA) (bb:Nat) (xs:List bj) (y:cN) (hs:tS (fun z_:bj=>bl z_.id y) xs) (hb:xs.length≤1073741824):Ct Cp 224 #[sl aU xs.length bb,bZ.V y,.func (.func 225) #[] #[]] (fun w=>eS.Rd aU xs w) [] (fun v Cs=>v=.tuple #[iv (db (fun z_:bj=>bl z_.id y) xs:Int),.bool (decide (zz (fun z_:bj=>bl z_.id y) xs (db (fun z_:bj=>bl z_.id y) xs)))]∧Cs= []):=by
 refine cc Tryz.func224 fun w0 hp=>aa 20 fun a8=>aR (σ:=Nat×Nat) (fun (i,j)=> [(0,sl aU xs.length bb),(2,.func (.func 225) #[] #[]),(4,pv (a8 2)),(6,iv 0),(7,.bool false),(8,iv (xs.length:Int)),(9,iv i),(10,iv j)]) qpo (fun (i,j)=>i≤j∧j≤xs.length∧(∀m∈xs.take i,(fun z_:bj=>bl z_.id y) m<0)∧ ∀m∈xs.drop j,¬ (fun z_:bj=>bl z_.id y) m<0) (fun (i,j)=>j-i) (0,xs.length) [0] ⟨bh _,bO _,by simp,by simp⟩ ?_
 rintro _ ⟨i,j⟩ ⟨JC,hj,ht,hd⟩ aB
 refine aa 7 fun _=>aq ((i:Int)<(j:Int)) (fun h2=>?_) (fun h2=>?_)
 ·refine aa 7 fun _=>ao 20 ((i:Int)+(j:Int))<|aa 1 fun _=>aC 21 (.int .u64 ((i+j:Nat):Int)) (.int .u64 (IntKind.u64.wrap ((i:Int)+(j:Int)))) qgr<|aa 1 fun _=>aC 22 (.int .u64 (((i+j)/2:Nat):Int)) (.int .u64 (Int.fdiv ((i+j:Nat):Int) (2^1))) qhy<|aa 1 fun _=>aC 23 (iv (((i+j)/2:Nat):Int)) (iv (IntKind.i64.wrap (((i+j)/2:Nat):Int))) qkb<|aa 3 fun _=>?_
  obtain ⟨x3,e4⟩:=aw (xs:=xs) (k:=(i+j)/2) (by omega)
  refine aK [(3,_),(4,eS.V x3),(6,iv (bl x3.id y))] [0] ⟨bF aU xs.length (((i+j)/2:Nat):Int) 3 qmh,cB 152 (((cz aU).add (((i+j)/2)*3)).add 0) (fun w h=>bN (K:=eS) (hp.aE h.ch) e4),bT (EW x3 y) jU,trivial⟩<|qtj
 ·refine aa 2 fun _=>?_
  rcases bK (decide ((i:Int)<(xs.length:Int))) with b7|b7
  ·have h6:=cg b7
   obtain ⟨x8,e9⟩:=aw (xs:=xs) (k:=i) (by omega)
   refine aK [(3,.bool true),(8,_),(9,eS.V x8),(11,iv (bl x8.id y))] [0] ⟨qda,bF aU xs.length (i:Int) 3 qmh,cB 152 (ad aU (i*3) 0) (fun w h=>bN (K:=eS) (hp.aE h.ch) e9),bT (EW x8 y) jU,trivial⟩ ?_
   have uf:db (fun z_:bj=>bl z_.id y) xs=i:=mQ ⟨by omega,ht,by have e:i=j:=(by omega);rw [e];exact hd⟩
   exact a_ [] ⟨kt (.tuple #[iv i,.bool (decide ((bl x8.id y)=0))]) (by rw [uf];exact congrArg (fun b=>Value.tuple #[iv i,.bool b]) (decide_eq_decide.2 (De (c:=fun z_:bj=>bl z_.id y) e9))),kr⟩
  ·have h6:=de b7
   refine aK [(3,.bool false)] [] qv0 ?_
   have uf:db (fun z_:bj=>bl z_.id y) xs=i:=mQ ⟨by omega,ht,by have e:i=j:=(by omega);rw [e];exact hd⟩
   exact a_ [] ⟨kt (.tuple #[iv i,.bool false]) (by rw [uf];exact congrArg (fun b=>Value.tuple #[iv i,.bool b]) ((decide_eq_false (Df (c:=fun z_:bj=>bl z_.id y) (by omega))).symm)),kr⟩
def Bd (aU:OA) (bb:Nat) (xs:List bj) (y:cN) (hs:tS (fun z_:bj=>bl z_.id y) xs) (hb:xs.length≤1073741824):Ct Cp 185 #[sl aU xs.length bb,bZ.V y] (fun w=>eS.Rd aU xs w) [] (fun v Cs=>v=.tuple #[iv (db (fun z_:bj=>bl z_.id y) xs:Int),.bool (decide (zz (fun z_:bj=>bl z_.id y) xs (db (fun z_:bj=>bl z_.id y) xs)))]∧Cs= []):=by
 refine cc Tryz.func185 fun w0 hp=>ae 10 [0] fun a8=>ah (Dh aU bb xs y hs hb) [] il ?_
 exact qvo
def Gb (A:OA) (c:Nat) (xs:List Rg) (i gv:Nat) (x:Rg) (hi:i≤xs.length) (hb:xs.length≤1000000):Ct Cp 230 #[sl A xs.length c,iv i,sl (so gv) 1 1] (fun _=>True) [eH.row A c xs,bJ gv 178 (Rg.cells x)] (fun v Cs=> ∃A2 c2,v=sl A2 ((xs.take i++x::xs.drop i).length) c2∧Cs= [eH.row A2 c2 (xs.take i++x::xs.drop i)]):=by
 refine Fz [.k (eH.row A c xs),.b gv 178 (Rg.cells x)] Tryz.func230 fun U w0 hp=>mi eH 1 gv 1 [x]<|aa 8 fun _=>dN (φ:=xs.length≤c) (fun w h=>h.mR (K:=eH) 0 A c xs kr) fun OV=>fC A xs.length c 4 i xs.length (some (iv i)) none (⟨_,rfl⟩) kD vq<|aa 28 fun _=>aq ((i:Int)=(xs.length:Int)) (fun h2=>?_) (fun h2=>?_)
 ·refine aa 4 fun _=>bQ eH 0 A c xs (so gv) 1 1 [x] qiw (by omega) fun A3 c4=>aa 2 fun _=>aS eH 0 A3 c4 (xs++ [x]) (xs.take i++x::xs.drop i) kr qmn<|qtz
 ·refine aa 7 fun _=>ao 28 ((xs.length:Int)+1)<|aa 4 fun _=>aq (((xs.length:Int)+1)>(c:Int)) (fun h5=>?_) (fun h5=>?_)
  ·refine aa 4 fun _=>fC (hh:=⟨_,rfl⟩) A xs.length c 4 0 i none (some (iv i)) rfl kD vq<|aC 34 (sl A i c) (sl (dS A c 0 4) (i-0) (c-0)) Iz<|aa 3 fun _=>ao 37 ((xs.length:Int)+1)<|aa 2 fun _=>ao 39 (((xs.length:Int)+1)- (i:Int)) ?_
   have e7:((xs.length:Int)+1)- (i:Int)=(((xs.length+1-i):Nat):Int):=by omega
   refine aC 39 (iv (((xs.length+1-i):Nat):Int)) (iv (((xs.length:Int)+1)- (i:Int))) (iT e7)<|qg eH A c i (xs.take i) (List.replicate (xs.length+1-i) (⟨0,0,⟨0,0⟩⟩:Rg)) 150 3 (iv (((xs.length+1-i):Nat):Int)) qia C7 (fun w h=>.zr (kk:=.i64) (x0:=(⟨0,0,⟨0,0⟩⟩:Rg)) kr kr) RK RK fun a6 c7 hc8=>aa 6 fun _=>fC (some a6) (i+(List.replicate (xs.length+1-i) (⟨0,0,⟨0,0⟩⟩:Rg)).length) c7 4 i (i+(List.replicate (xs.length+1-i) (⟨0,0,⟨0,0⟩⟩:Rg)).length) (some (iv i)) none (⟨_,rfl⟩) kD YC<|aa 1 fun _=>nT 178 4 2 (some a6) c7 ((xs.take i++List.replicate (xs.length+1-i) (⟨0,0,⟨0,0⟩⟩:Rg)).length) ((xs.take i++List.replicate (xs.length+1-i) (⟨0,0,⟨0,0⟩⟩:Rg)).flatMap eH.f) i ((i+(List.replicate (xs.length+1-i) (⟨0,0,⟨0,0⟩⟩:Rg)).length)-i) (c7-i) 1 (sl (so gv) 1 1) ([x].flatMap eH.f) RL Co qox<|aa 2 fun _=>aO [(3,_),(4,_),(7,_),(8,_)] [] ⟨RM,lT (fun vs=>some a6) (fun vs=>(i+(List.replicate (xs.length+1-i) (⟨0,0,⟨0,0⟩⟩:Rg)).length)) (fun vs=>c7) (fun vs=>((i:Int)+1).toNat) (fun vs=>(i+(List.replicate (xs.length+1-i) (⟨0,0,⟨0,0⟩⟩:Rg)).length)) 4 (fun vs=>some (iv ((i:Int)+1))) (fun vs=>none) RN (fun _=>kD) qve,lT (fun vs=>A) (fun vs=>xs.length) (fun vs=>c) (fun vs=>i) (fun vs=>xs.length) 4 (fun vs=>some (iv i)) (fun vs=>none) Kh (fun _=>kD) IA,lU 178 4 2 (some a6) c7 ((xs.take i++List.replicate (xs.length+1-i) (⟨0,0,⟨0,0⟩⟩:Rg)).length) (ba ((xs.take i++List.replicate (xs.length+1-i) (⟨0,0,⟨0,0⟩⟩:Rg)).flatMap eH.f) (i*4) (([x].flatMap eH.f).take (min 1 ((i+(List.replicate (xs.length+1-i) (⟨0,0,⟨0,0⟩⟩:Rg)).length)-i)*4))) (((i:Int)+1).toNat) ((i+(List.replicate (xs.length+1-i) (⟨0,0,⟨0,0⟩⟩:Rg)).length)- (((i:Int)+1).toNat)) (c7- (((i:Int)+1).toNat)) (xs.length-i) (sl (dS A c i 4) (xs.length-i) (c-i)) ((xs.drop i).flatMap eH.f) qt3 Co qox,trivial⟩ fun v9=>aa 5 fun _=>?_
   have e9:ba (ba ((xs.take i++List.replicate (xs.length+1-i) (⟨0,0,⟨0,0⟩⟩:Rg)).flatMap eH.f) (i*4) (([x].flatMap eH.f).take (min 1 ((i+(List.replicate (xs.length+1-i) (⟨0,0,⟨0,0⟩⟩:Rg)).length)-i)*4))) ((((i:Int)+1).toNat)*4) (((xs.drop i).flatMap eH.f).take (min (xs.length-i) ((i+(List.replicate (xs.length+1-i) (⟨0,0,⟨0,0⟩⟩:Rg)).length)- (((i:Int)+1).toNat))*4))=(xs.take i++x::xs.drop i).flatMap eH.f:=s6 hi (by rw [eA]) (by omega) kD kD
   refine aD 3 (row 178 4 (sl (some a6) ((xs.take i++List.replicate (xs.length+1-i) (⟨0,0,⟨0,0⟩⟩:Rg)).length) c7) ((xs.take i++List.replicate (xs.length+1-i) (⟨0,0,⟨0,0⟩⟩:Rg)).length) (ba (ba ((xs.take i++List.replicate (xs.length+1-i) (⟨0,0,⟨0,0⟩⟩:Rg)).flatMap eH.f) (i*4) (([x].flatMap eH.f).take (min 1 ((i+(List.replicate (xs.length+1-i) (⟨0,0,⟨0,0⟩⟩:Rg)).length)-i)*4))) ((((i:Int)+1).toNat)*4) (((xs.drop i).flatMap eH.f).take (min (xs.length-i) ((i+(List.replicate (xs.length+1-i) (⟨0,0,⟨0,0⟩⟩:Rg)).length)- (((i:Int)+1).toNat))*4)))) (eH.row (some a6) c7 (xs.take i++x::xs.drop i)) kr (by unfold Kd.row;rw [← e9,mK hi,show ((xs.take i++List.replicate (xs.length+1-i) (⟨0,0,⟨0,0⟩⟩:Rg))).length=xs.length+1 by simp only [bm,b0,eA];omega];rfl)<|a_ [4] ⟨some a6,c7,kt (sl (some a6) (i+(List.replicate (xs.length+1-i) (⟨0,0,⟨0,0⟩⟩:Rg)).length) c7) WE,kr⟩
  ·refine aa 7 fun _=>ao 59 ((xs.length:Int)+1)<|fC (hh:=⟨.i64,by rw [iR (by omega)]⟩) A xs.length c 4 0 (((xs.length:Int)+1).toNat) none (some (iv ((xs.length:Int)+1))) rfl kD vq<|aC 60 (sl A (xs.length+1) c) (sl (dS A c 0 4) (((xs.length:Int)+1).toNat-0) (c-0)) Iz<|aa 10 fun _=>ao 65 ((i:Int)+1)<|fC A (xs.length+1) c 4 (((i:Int)+1).toNat) (xs.length+1) (some (iv ((i:Int)+1))) none TR kD vq<|EV 258 Tryz.f258 150 178 4 178 4 178 4 0 1 A (so gv) c (((i:Int)+1).toNat) ((xs.length+1)- (((i:Int)+1).toNat)) (c- (((i:Int)+1).toNat)) xs.length (xs.flatMap eH.f) 1 1 ([x].flatMap eH.f) Tryz.func258<|oz 178 4 0 A c xs.length 1 (xs.flatMap eH.f) fun gs hg=>aa 4 fun _=>aO [(3,_),(4,_),(7,_),(8,_)] [] ⟨RM,lT (fun vs=>A) (fun vs=>(xs.length+1)) (fun vs=>c) (fun vs=>((i:Int)+1).toNat) (fun vs=>(xs.length+1)) 4 (fun vs=>some (iv ((i:Int)+1))) (fun vs=>none) RN (fun _=>kD) IA,lT (fun vs=>A) (fun vs=>(xs.length+1)) (fun vs=>c) (fun vs=>i) (fun vs=>(xs.length+1)) 4 (fun vs=>some (iv i)) (fun vs=>none) Kh (fun _=>kD) IA,lU 178 4 2 A c (xs.length+1) (xs.flatMap eH.f++gs) (((i:Int)+1).toNat) ((xs.length+1)- (((i:Int)+1).toNat)) (c- (((i:Int)+1).toNat)) ((xs.length+1)-i) (sl (dS A c i 4) ((xs.length+1)-i) (c-i)) ((xs.flatMap eH.f++gs).drop (i*4)) (fun vs w h=>.sl (s5 eH hi hg) (Rc.cut h.YD (yj eH hg (by omega)))) Co (qe eH hi (by omega)),trivial⟩ fun v10=>?_
   refine aa 4 fun _=>fC A (xs.length+1) c 4 i (xs.length+1) (some (iv i)) none (⟨_,rfl⟩) kD vq<|aa 1 fun _=>nT 178 4 3 A c (xs.length+1) (ba (xs.flatMap eH.f++gs) ((((i:Int)+1).toNat)*4) (((xs.flatMap eH.f++gs).drop (i*4)).take (min ((xs.length+1)-i) ((xs.length+1)- (((i:Int)+1).toNat))*4))) i ((xs.length+1)-i) (c-i) 1 (sl (so gv) 1 1) ([x].flatMap eH.f) RL Co qox<|aa 6 fun _=>?_
   have e9:ba (ba (xs.flatMap eH.f++gs) ((((i:Int)+1).toNat)*4) (((xs.flatMap eH.f++gs).drop (i*4)).take (min ((xs.length+1)-i) ((xs.length+1)- (((i:Int)+1).toNat))*4))) (i*4) (([x].flatMap eH.f).take (min 1 ((xs.length+1)-i)*4))=(xs.take i++x::xs.drop i).flatMap eH.f:=yk hi hg (by omega) (by omega) (by omega)
   refine aD 3 (row 178 4 (sl A (xs.length+1) c) (xs.length+1) (ba (ba (xs.flatMap eH.f++gs) ((((i:Int)+1).toNat)*4) (((xs.flatMap eH.f++gs).drop (i*4)).take (min ((xs.length+1)-i) ((xs.length+1)- (((i:Int)+1).toNat))*4))) (i*4) (([x].flatMap eH.f).take (min 1 ((xs.length+1)-i)*4)))) (eH.row A c (xs.take i++x::xs.drop i)) kr qha<|qt4
def Di (A:OA) (c:Nat) (xs:List bj) (i gv:Nat) (x:bj) (hi:i≤xs.length) (hb:xs.length≤1000000):Ct Cp 186 #[sl A xs.length c,iv i,sl (so gv) 1 1] (fun _=>True) [eS.row A c xs,bJ gv 152 [iv x.id.t,iv x.id.r,sl x.A x.bX.length x.c]] (fun v Cs=> ∃A2 c2,v=sl A2 ((xs.take i++x::xs.drop i).length) c2∧Cs= [eS.row A2 c2 (xs.take i++x::xs.drop i)]):=by
 refine Fz [.k (eS.row A c xs),.b gv 152 [iv x.id.t,iv x.id.r,sl x.A x.bX.length x.c]] Tryz.func186 fun U w0 hp=>mi eS 1 gv 1 [x]<|aa 8 fun _=>dN (φ:=xs.length≤c) (fun w h=>h.mR (K:=eS) 0 A c xs kr) fun OV=>fC A xs.length c 3 i xs.length (some (iv i)) none (⟨_,rfl⟩) kD vq<|aa 28 fun _=>aq ((i:Int)=(xs.length:Int)) (fun h2=>?_) (fun h2=>?_)
 ·refine aa 4 fun _=>bQ eS 0 A c xs (so gv) 1 1 [x] qiw (by omega) fun A3 c4=>aa 2 fun _=>aS eS 0 A3 c4 (xs++ [x]) (xs.take i++x::xs.drop i) kr qmn<|qtz
 ·refine aa 7 fun _=>ao 28 ((xs.length:Int)+1)<|aa 4 fun _=>aq (((xs.length:Int)+1)>(c:Int)) (fun h5=>?_) (fun h5=>?_)
  ·refine aa 4 fun _=>fC (hh:=⟨_,rfl⟩) A xs.length c 3 0 i none (some (iv i)) rfl kD vq<|aC 34 (sl A i c) (sl (dS A c 0 3) (i-0) (c-0)) Iz<|aa 3 fun _=>ao 37 ((xs.length:Int)+1)<|aa 2 fun _=>ao 39 (((xs.length:Int)+1)- (i:Int)) ?_
   have e7:((xs.length:Int)+1)- (i:Int)=(((xs.length+1-i):Nat):Int):=by omega
   refine aC 39 (iv (((xs.length+1-i):Nat):Int)) (iv (((xs.length:Int)+1)- (i:Int))) (iT e7)<|qg eS A c i (xs.take i) (List.replicate (xs.length+1-i) (⟨⟨0,0⟩,[],none,0⟩:bj)) 50 3 (iv (((xs.length+1-i):Nat):Int)) qia C7 (fun w h=>.zr (kk:=.i64) (x0:=(⟨⟨0,0⟩,[],none,0⟩:bj)) kr kr) RK RK fun a6 c7 hc8=>aa 6 fun _=>fC (some a6) (i+(List.replicate (xs.length+1-i) (⟨⟨0,0⟩,[],none,0⟩:bj)).length) c7 3 i (i+(List.replicate (xs.length+1-i) (⟨⟨0,0⟩,[],none,0⟩:bj)).length) (some (iv i)) none (⟨_,rfl⟩) kD YC<|aa 1 fun _=>nT 152 3 2 (some a6) c7 ((xs.take i++List.replicate (xs.length+1-i) (⟨⟨0,0⟩,[],none,0⟩:bj)).length) ((xs.take i++List.replicate (xs.length+1-i) (⟨⟨0,0⟩,[],none,0⟩:bj)).flatMap eS.f) i ((i+(List.replicate (xs.length+1-i) (⟨⟨0,0⟩,[],none,0⟩:bj)).length)-i) (c7-i) 1 (sl (so gv) 1 1) ([x].flatMap eS.f) RL Co qo0<|aa 2 fun _=>aO [(3,_),(4,_),(7,_),(8,_)] [] ⟨RM,lT (fun vs=>some a6) (fun vs=>(i+(List.replicate (xs.length+1-i) (⟨⟨0,0⟩,[],none,0⟩:bj)).length)) (fun vs=>c7) (fun vs=>((i:Int)+1).toNat) (fun vs=>(i+(List.replicate (xs.length+1-i) (⟨⟨0,0⟩,[],none,0⟩:bj)).length)) 3 (fun vs=>some (iv ((i:Int)+1))) (fun vs=>none) RN (fun _=>kD) qve,lT (fun vs=>A) (fun vs=>xs.length) (fun vs=>c) (fun vs=>i) (fun vs=>xs.length) 3 (fun vs=>some (iv i)) (fun vs=>none) Kh (fun _=>kD) IA,lU 152 3 2 (some a6) c7 ((xs.take i++List.replicate (xs.length+1-i) (⟨⟨0,0⟩,[],none,0⟩:bj)).length) (ba ((xs.take i++List.replicate (xs.length+1-i) (⟨⟨0,0⟩,[],none,0⟩:bj)).flatMap eS.f) (i*3) (([x].flatMap eS.f).take (min 1 ((i+(List.replicate (xs.length+1-i) (⟨⟨0,0⟩,[],none,0⟩:bj)).length)-i)*3))) (((i:Int)+1).toNat) ((i+(List.replicate (xs.length+1-i) (⟨⟨0,0⟩,[],none,0⟩:bj)).length)- (((i:Int)+1).toNat)) (c7- (((i:Int)+1).toNat)) (xs.length-i) (sl (dS A c i 3) (xs.length-i) (c-i)) ((xs.drop i).flatMap eS.f) qt3 Co qo0,trivial⟩ fun v9=>aa 5 fun _=>?_
   have e9:ba (ba ((xs.take i++List.replicate (xs.length+1-i) (⟨⟨0,0⟩,[],none,0⟩:bj)).flatMap eS.f) (i*3) (([x].flatMap eS.f).take (min 1 ((i+(List.replicate (xs.length+1-i) (⟨⟨0,0⟩,[],none,0⟩:bj)).length)-i)*3))) ((((i:Int)+1).toNat)*3) (((xs.drop i).flatMap eS.f).take (min (xs.length-i) ((i+(List.replicate (xs.length+1-i) (⟨⟨0,0⟩,[],none,0⟩:bj)).length)- (((i:Int)+1).toNat))*3))=(xs.take i++x::xs.drop i).flatMap eS.f:=s6 hi (by rw [eA]) (by omega) kD kD
   refine aD 3 (row 152 3 (sl (some a6) ((xs.take i++List.replicate (xs.length+1-i) (⟨⟨0,0⟩,[],none,0⟩:bj)).length) c7) ((xs.take i++List.replicate (xs.length+1-i) (⟨⟨0,0⟩,[],none,0⟩:bj)).length) (ba (ba ((xs.take i++List.replicate (xs.length+1-i) (⟨⟨0,0⟩,[],none,0⟩:bj)).flatMap eS.f) (i*3) (([x].flatMap eS.f).take (min 1 ((i+(List.replicate (xs.length+1-i) (⟨⟨0,0⟩,[],none,0⟩:bj)).length)-i)*3))) ((((i:Int)+1).toNat)*3) (((xs.drop i).flatMap eS.f).take (min (xs.length-i) ((i+(List.replicate (xs.length+1-i) (⟨⟨0,0⟩,[],none,0⟩:bj)).length)- (((i:Int)+1).toNat))*3)))) (eS.row (some a6) c7 (xs.take i++x::xs.drop i)) kr (by unfold Kd.row;rw [← e9,mK hi,show ((xs.take i++List.replicate (xs.length+1-i) (⟨⟨0,0⟩,[],none,0⟩:bj))).length=xs.length+1 by simp only [bm,b0,eA];omega];rfl)<|a_ [4] ⟨some a6,c7,kt (sl (some a6) (i+(List.replicate (xs.length+1-i) (⟨⟨0,0⟩,[],none,0⟩:bj)).length) c7) WE,kr⟩
  ·refine aa 7 fun _=>ao 59 ((xs.length:Int)+1)<|fC (hh:=⟨.i64,by rw [iR (by omega)]⟩) A xs.length c 3 0 (((xs.length:Int)+1).toNat) none (some (iv ((xs.length:Int)+1))) rfl kD vq<|aC 60 (sl A (xs.length+1) c) (sl (dS A c 0 3) (((xs.length:Int)+1).toNat-0) (c-0)) Iz<|aa 10 fun _=>ao 65 ((i:Int)+1)<|fC A (xs.length+1) c 3 (((i:Int)+1).toNat) (xs.length+1) (some (iv ((i:Int)+1))) none TR kD vq<|EV 227 Tryz.f227 50 152 3 152 3 152 3 0 1 A (so gv) c (((i:Int)+1).toNat) ((xs.length+1)- (((i:Int)+1).toNat)) (c- (((i:Int)+1).toNat)) xs.length (xs.flatMap eS.f) 1 1 ([x].flatMap eS.f) Tryz.func227<|oz 152 3 0 A c xs.length 1 (xs.flatMap eS.f) fun gs hg=>aa 4 fun _=>aO [(3,_),(4,_),(7,_),(8,_)] [] ⟨RM,lT (fun vs=>A) (fun vs=>(xs.length+1)) (fun vs=>c) (fun vs=>((i:Int)+1).toNat) (fun vs=>(xs.length+1)) 3 (fun vs=>some (iv ((i:Int)+1))) (fun vs=>none) RN (fun _=>kD) IA,lT (fun vs=>A) (fun vs=>(xs.length+1)) (fun vs=>c) (fun vs=>i) (fun vs=>(xs.length+1)) 3 (fun vs=>some (iv i)) (fun vs=>none) Kh (fun _=>kD) IA,lU 152 3 2 A c (xs.length+1) (xs.flatMap eS.f++gs) (((i:Int)+1).toNat) ((xs.length+1)- (((i:Int)+1).toNat)) (c- (((i:Int)+1).toNat)) ((xs.length+1)-i) (sl (dS A c i 3) ((xs.length+1)-i) (c-i)) ((xs.flatMap eS.f++gs).drop (i*3)) (fun vs w h=>.sl (s5 eS hi hg) (Rc.cut h.YD (yj eS hg (by omega)))) Co (qe eS hi (by omega)),trivial⟩ fun v10=>?_
   refine aa 4 fun _=>fC A (xs.length+1) c 3 i (xs.length+1) (some (iv i)) none (⟨_,rfl⟩) kD vq<|aa 1 fun _=>nT 152 3 3 A c (xs.length+1) (ba (xs.flatMap eS.f++gs) ((((i:Int)+1).toNat)*3) (((xs.flatMap eS.f++gs).drop (i*3)).take (min ((xs.length+1)-i) ((xs.length+1)- (((i:Int)+1).toNat))*3))) i ((xs.length+1)-i) (c-i) 1 (sl (so gv) 1 1) ([x].flatMap eS.f) RL Co qo0<|aa 6 fun _=>?_
   have e9:ba (ba (xs.flatMap eS.f++gs) ((((i:Int)+1).toNat)*3) (((xs.flatMap eS.f++gs).drop (i*3)).take (min ((xs.length+1)-i) ((xs.length+1)- (((i:Int)+1).toNat))*3))) (i*3) (([x].flatMap eS.f).take (min 1 ((xs.length+1)-i)*3))=(xs.take i++x::xs.drop i).flatMap eS.f:=yk hi hg (by omega) (by omega) (by omega)
   refine aD 3 (row 152 3 (sl A (xs.length+1) c) (xs.length+1) (ba (ba (xs.flatMap eS.f++gs) ((((i:Int)+1).toNat)*3) (((xs.flatMap eS.f++gs).drop (i*3)).take (min ((xs.length+1)-i) ((xs.length+1)- (((i:Int)+1).toNat))*3))) (i*3) (([x].flatMap eS.f).take (min 1 ((xs.length+1)-i)*3)))) (eS.row A c (xs.take i++x::xs.drop i)) kr qha<|qt4

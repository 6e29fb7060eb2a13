/- For the law of worlds: What functions do; The reading of a script. -/
import Derived.Test.YtfookmefmjhonaaGreatRows
import Derived.Test.YtfookmefmjhonaaGreatZ44
set_option linter.all false
namespace Go.Proofs.YtfookmefmjhonaaGreat.My
open Go.RowKit Go.bE
set_option maxHeartbeats 800000
def Lg:Ct Cp 11 #[] (fun _=>True) [] (fun v Cs=>v=.bool true∧Cs= []):=by
 refine cc Tryz.func11 fun w0 hp=>aa 9 fun a8=>ah (Sf 1 (so (a8 8)) 1 [(⟨1,0,⟨1,⟨0,0⟩,⟨0,0⟩,⟨0,0⟩,0,0,0⟩,0,0,0,none,0,[]⟩:dz)] (by omega) (by decide) (fun a ha=>by rw [fv] at ha;subst ha;exact bO _) (fun j hj=>by simp [si,uE])) [] (fun w h=>⟨h.eT 0 (a8 8) 34 (List.flatMap mw.f [(⟨1,0,⟨1,⟨0,0⟩,⟨0,0⟩,⟨0,0⟩,0,0,0⟩,0,0,0,none,0,[]⟩:dz)]) kr,fun x hx=>by rw [fv] at hx;subst hx;exact Rc.nil _ _⟩) ?_
 rintro _ _ (⟨W13,ZH,DD,Lh,ZI,ZJ,ZK,ZL,ZM,rfl,f22,f23,rfl⟩)
 ·obtain ⟨x,hx,IL⟩:=f22.wk1 ⟨rfl,_,rfl,rfl,rfl,rfl,rfl,rfl⟩ rfl
  refine aS pc 1 DD Lh W13.fu ([x]) kr hx<|aC 7 (.tuple #[.agg #[sl DD 1 Lh,sl ZI ZH.length ZJ,sl ZK ((List.replicate 1 true).length) ZL,iv ZM],iv 0]) (.tuple #[.agg #[sl DD W13.fu.length Lh,sl ZI ZH.length ZJ,sl ZK ((List.replicate 1 true).length) ZL,iv ZM],iv 0]) (by rw [hx];rfl)<|ae 10 [6] fun ue=>ah (Li 0) [] cJ ?_
  rintro _ _ ⟨rfl,rfl⟩
  refine ae 10 [6,6] fun _=>aV DD 1 0 9 (fun w h=>Kd.cd (K:=pc) (xs:= [x]) (h.bg 5 DD Lh [x] kr) (by simp))<|aa 1 fun _=>bd 3 (ad DD (0*9) 0) (iv x.e) (fun w h=>bW (K:=pc) (h.bg 5 DD Lh [x] kr) rfl)<|aa 4 fun _=>a_ [] ⟨kt (.bool (decide (x.e=0))) (dP (decide_eq_true IL)),kr⟩
def UC (rp:Int) (Al:OA) (cl:Nat) (l:List dz) (hw:sj l≤4194304):Ct Cp 3 #[.agg #[iv rp,sl Al l.length cl]] (fun w=>lZ Al l w) [] (fun v Cs=>v=.bool true∧Cs= []):=by
 refine cc Tryz.func3 fun w0 hp=>ae 9 [0] fun a8=>ah (Lj rp Al cl l hw) [] il ?_
 rintro _ _ ⟨b2,rfl,f3,rfl⟩
 refine aa 1 fun _=>eQ b2 (fun h4=>?_) (fun h4=>?_)
 ·refine aa 4 fun _=>Nc
 ·have It:=f3 h4
  refine ae 5 [0] fun _=>ah (xc rp 4 (by omega)) [] cJ ?_
  rintro _ _ ⟨rfl,rfl⟩
  refine aa 1 fun _=>ao (e:=by have:=oF rp (n:=4) (by decide);omega) 20 (1+((gk rp 4:Nat):Int)) ?_
  have Ra:=oF rp (n:=4) (by decide)
  obtain ⟨n,hn⟩: ∃n:Nat,n=1+gk rp 4:=⟨_,rfl⟩
  refine aC 20 (iv n) (iv (1+((gk rp 4:Nat):Int))) XX<|ae 5 [0] fun _=>ah (Pz rp Al cl l hw) [] il ?_
  rintro _ _ ⟨A5,c6,m7,rfl,f8,f9,rfl⟩
  have Y5:=f9
  refine aa 8 fun _=>aS mw 1 A5 c6 m7 (m7++fG 0) kr ((fj _).symm)<|aD 2 (aM.all (m7.map dz.own)) (aM.all ((m7++fG 0).map dz.own)) kr qpv<|aC 4 (sl A5 ((m7++fG 0).length) c6) (sl A5 m7.length c6) qpv<|aR (σ:=Nat×OA×Nat) (fun (k,B,d)=> [(2,.bool false),(3,iv n),(4,sl B ((m7++fG k).length) d),(5,iv k)]) (fun (k,B,d)=> [.b (a8 2) 24 [iv rp,sl Al l.length cl],.k (mw.row B d (m7++fG k)),.k (aM.all ((m7++fG k).map dz.own))]) (fun (k,B,d)=>k≤n) (fun (k,B,d)=>n-k) (0,A5,c6) [0,3,4] (bh _) ?_
  rintro _ ⟨k,B,d⟩ hk aB
  refine aa 7 fun _=>aq ((k:Int)<(n:Int)) (fun iJ=>?_) (fun iJ=>?_)
  ·refine aa 10 fun F7=>bQ mw 1 B d (m7++fG k) (so (F7 9)) 2 2 [(⟨7,(k:Int),⟨0,⟨0,0⟩,⟨0,0⟩,⟨0,0⟩,0,0,0⟩,0,0,0,none,0,[]⟩:dz),(⟨8,(k:Int),⟨0,⟨0,0⟩,⟨0,0⟩,⟨0,0⟩,0,0,0⟩,0,0,0,none,0,[]⟩:dz)] (fun w h=>h.eT 3 (F7 9) 34 (List.flatMap mw.f [(⟨7,(k:Int),⟨0,⟨0,0⟩,⟨0,0⟩,⟨0,0⟩,0,0,0⟩,0,0,0,none,0,[]⟩:dz),(⟨8,(k:Int),⟨0,⟨0,0⟩,⟨0,0⟩,⟨0,0⟩,0,0,0⟩,0,0,0,none,0,[]⟩:dz)]) kr) (by rw [bm,xd];omega) fun nf mD=>aa 6 fun _=>ao 27 ((k:Int)+1)<|aa 2 fun _=>bG az<|eD dz.own 4 2 (m7++fG k) (⟨7,(k:Int),⟨0,⟨0,0⟩,⟨0,0⟩,⟨0,0⟩,0,0,0⟩,0,0,0,none,0,[]⟩:dz) kr<|bG az<|eD dz.own 6 5 ((m7++fG k)++ [(⟨7,(k:Int),⟨0,⟨0,0⟩,⟨0,0⟩,⟨0,0⟩,0,0,0⟩,0,0,0,none,0,[]⟩:dz)]) (⟨8,(k:Int),⟨0,⟨0,0⟩,⟨0,0⟩,⟨0,0⟩,0,0,0⟩,0,0,0,none,0,[]⟩:dz) kr ?_
   have agw:((m7++fG k)++ [(⟨7,(k:Int),⟨0,⟨0,0⟩,⟨0,0⟩,⟨0,0⟩,0,0,0⟩,0,0,0,none,0,[]⟩:dz)])++ [(⟨8,(k:Int),⟨0,⟨0,0⟩,⟨0,0⟩,⟨0,0⟩,0,0,0⟩,0,0,0,none,0,[]⟩:dz)]=m7++fG (k+1):=by simp [fG]
   refine aD 7 (aM.all ((((m7++fG k)++ [(⟨7,(k:Int),⟨0,⟨0,0⟩,⟨0,0⟩,⟨0,0⟩,0,0,0⟩,0,0,0,none,0,[]⟩:dz)])++ [(⟨8,(k:Int),⟨0,⟨0,0⟩,⟨0,0⟩,⟨0,0⟩,0,0,0⟩,0,0,0,none,0,[]⟩:dz)]).map dz.own)) (aM.all ((m7++fG (k+1)).map dz.own)) kr (by rw [agw]) ?_
   have Sg:m7++fG k++ [(⟨7,(k:Int),⟨0,⟨0,0⟩,⟨0,0⟩,⟨0,0⟩,0,0,0⟩,0,0,0,none,0,[]⟩:dz),(⟨8,(k:Int),⟨0,⟨0,0⟩,⟨0,0⟩,⟨0,0⟩,0,0,0⟩,0,0,0,none,0,[]⟩:dz)]=m7++fG (k+1):=by simp [fG]
   refine aS mw 1 nf mD (m7++fG k++ [(⟨7,(k:Int),⟨0,⟨0,0⟩,⟨0,0⟩,⟨0,0⟩,0,0,0⟩,0,0,0,none,0,[]⟩:dz),(⟨8,(k:Int),⟨0,⟨0,0⟩,⟨0,0⟩,⟨0,0⟩,0,0,0⟩,0,0,0,none,0,[]⟩:dz)]) (m7++fG (k+1)) kr Sg<|aC 4 (sl nf ((m7++fG (k+1)).length) mD) (sl nf ((m7++fG k++ [(⟨7,(k:Int),⟨0,⟨0,0⟩,⟨0,0⟩,⟨0,0⟩,0,0,0⟩,0,0,0,none,0,[]⟩:dz),(⟨8,(k:Int),⟨0,⟨0,0⟩,⟨0,0⟩,⟨0,0⟩,0,0,0⟩,0,0,0,none,0,[]⟩:dz)]).length) mD) (by rw [Sg])<|aB _ (k+1,nf,mD) [0,9,8] kr du du
  ·refine aa 5 fun _=>ah (Sf n B d (m7++fG k) (by omega) (by rw [bm,xd];omega) (fun a ha=>(eG.1 ha).elim (Y5 a) HA) (fun j hj=>by rw [rO _ _ _ _ (by omega)];decide)) [] (fun w h=>⟨h.bg 1 B d (m7++fG k) kr,fun x hx=>h.o5 2 dz.own (m7++fG k) hx rfl kr⟩) ?_
   rintro _ _ (⟨Sh,fg,BB,BC,j0,qq,sQ,vQ,PA,rfl,f34,f35,rfl⟩)
   ·have jJ:=End.of f34.wi f34.ZN (fun j hj=>by rw [List.take_length];exact rO _ _ _ _ (by omega)) f35 (fun i r hr=>eF (rn f34.wi hr) (by decide))
    have hyn:=jJ.len
    refine Lk 6 fg kr (fun y hy=>by obtain ⟨i,hi,e⟩:=List.getElem_of_mem hy;exact (jJ.ok i y W6).pM) ?_
    refine bn (φ:=fun Cs=> ∃f:c_→List aT,(∀y∈fg,(f y).map (·.o)=y.d.ops)∧Cs= [Gr (lh f fg)]) 7 ?_
    rintro _ ⟨f,Hn,rfl⟩
    refine ae 11 [9] fun BD=>ah (Li 0) [] cJ ?_
    rintro _ _ ⟨rfl,rfl⟩
    refine ae 9 [9] fun _=>cU ((fg.length:Int)=(n:Int)) (fun C4=>?_) (fun C4=>?_)
    ·exact (show False from C4 (by omega)).elim
    ·refine aa 7 fun _=>aR (σ:=Nat) (fun i=> [(2,.bool false),(3,iv n),(6,pv (BD 3)),(8,iv i)]) (fun i=> [.b (a8 2) 24 [iv rp,sl Al l.length cl],.k (pc.row BB BC Sh.fu),.k (CS.row j0 qq fg),.k (lI.row sQ vQ (List.replicate n true)),.k (Gr (lh f fg)),.b (BD 3) 39 [sl BB Sh.fu.length BC,sl j0 fg.length qq,sl sQ ((List.replicate n true).length) vQ,iv PA]]) (fun i=>i≤n) (fun i=>n-i) 0 [0,3,4,5,8,9] (bh _) ?_
     rintro _ i hi dG
     refine aa 7 fun _=>aq ((i:Int)<(n:Int)) (fun UD=>?_) (fun UD=>?_)
     ·refine ae 9 [5] fun _=>aV (hj:=by rw [eA];omega) sQ ((List.replicate n true).length) (i:Int) 1 (fun w h=>Kd.cd (K:=lI) (xs:=List.replicate n true) (h.bg 3 sQ vQ (List.replicate n true) kr) (by rw [eA];omega))<|Exists.elim (aw (xs:=List.replicate n true) (k:=i) (by rw [eA];omega)) fun Xh Xi=>bd 4 (ad sQ (i*1) 0) (.bool Xh) (fun w h=>bW (K:=lI) (h.bg 3 sQ vQ (List.replicate n true) kr) Xi)<|aa 2 fun _=>eg 62 (!Xh) (fun Ry=>?_) (fun Ry=>?_)
      ·exact (show False from by have e:=List.eq_of_mem_replicate (aI Xi);rw [e] at Ry;exact absurd Ry (by decide)).elim
      ·refine ae 3 [5] fun _=>aV j0 fg.length (i:Int) 11 Xb<|Exists.elim (aw (xs:=fg) (k:=i) (by omega)) fun zN DC=>bd 54 (ad j0 (i*11) 0) (.agg (c_.cells zN).toArray) (fun w h=>bN (K:=CS) (h.bg 2 j0 qq fg kr) DC)<|ah (UE zN ((jJ.ok _ _ DC).hb) (by rw [(jJ.ok _ _ DC).rep,(jJ.ok _ _ DC).len];omega) ((jJ.ok _ _ DC).vec) (by rw [(jJ.ok _ _ DC).len];exact (jJ.ok _ _ DC).chain) (fun q hq=>by rw [(jJ.ok _ _ DC).len];exact (jJ.ok _ _ DC).ops q hq) ((jJ.ok _ _ DC).ol)) [] (fun w h=>((show lh f fg _ from h.gr 4 kr) zN (aI DC)).1) ?_
       rintro _ _ ⟨rfl,rfl⟩
       refine aa 11 fun _=>aR (σ:=Nat) (fun k=> [(2,.bool false),(3,iv n),(6,pv (BD 3)),(8,iv i),(9,iv k),(53,.bool (decide ((i:Int)<(n:Int)))),(70,.bool false)]) (fun k=> [.b (a8 2) 24 [iv rp,sl Al l.length cl],.k (pc.row BB BC Sh.fu),.k (CS.row j0 qq fg),.k (lI.row sQ vQ (List.replicate n true)),.k (Gr (lh f fg)),.b (BD 3) 39 [sl BB Sh.fu.length BC,sl j0 fg.length qq,sl sQ ((List.replicate n true).length) vQ,iv PA]]) (fun k=>k≤n) (fun k=>n-k) 0 [0,1,2,3,4,5] (bh _) ?_
       rintro _ k sE jr
       refine aa 7 fun _=>aq ((k:Int)<(n:Int)) (fun JE=>?_) (fun JE=>?_)
       ·refine aa 4 fun _=>Exists.elim (aw (xs:=fg) (k:=i) (by omega)) fun Bz Pe=>Exists.elim (aw (xs:=Bz.d.hv) (k:=k) qso) fun yR Hl=>Exists.elim (aw (xs:=fg) (k:=k) (by omega)) fun w9 Pf=>Exists.elim (aw (xs:=w9.d.hv) (k:=k) qsn) fun IM ZG=>aK [(3,_),(5,sl Bz.a.Ah Bz.d.hv.length Bz.a.ch),(7,_),(8,iv yR),(12,_),(14,sl w9.a.Ah w9.d.hv.length w9.a.ch),(16,_),(17,iv IM)] [5,5] ⟨bF j0 fg.length (i:Int) 11 Xb,cB 32 (ad j0 (i*11) 2) (fun w h=>bW (K:=CS) (h.bg 2 j0 qq fg kr) Pe),bF (hj:=by have:=(jJ.ok _ _ Pe).len;omega) Bz.a.Ah Bz.d.hv.length (k:Int) 1 (fun w h=>Kd.cd (K:=az) (xs:=Bz.d.hv) (((show lh f fg _ from h.gr 4 kr) Bz (aI Pe)).1.hv) qso),cB 3 (((cz Bz.a.Ah).add (k*1)).add 0) (fun w h=>bW (K:=az) (((show lh f fg _ from h.gr 4 kr) Bz (aI Pe)).1.hv) Hl),bF j0 fg.length (k:Int) 11 Xb,cB 32 (ad j0 (k*11) 2) (fun w h=>bW (K:=CS) (h.bg 2 j0 qq fg kr) Pf),bF (hj:=by have:=(jJ.ok _ _ Pf).len;omega) w9.a.Ah w9.d.hv.length (k:Int) 1 (fun w h=>Kd.cd (K:=az) (xs:=w9.d.hv) (((show lh f fg _ from h.gr 4 kr) w9 (aI Pf)).1.hv) qsn),cB 3 (((cz w9.a.Ah).add (k*1)).add 0) (fun w h=>bW (K:=az) (((show lh f fg _ from h.gr 4 kr) w9 (aI Pf)).1.hv) ZG),trivial⟩<|aq (yR>IM) (fun h53=>?_) (fun h53=>?_)
        ·exact (show False from by have:=jJ.le Pe Pf Hl ZG;omega).elim
        ·refine aa 5 fun _=>ao 75 ((k:Int)+1)<|aa 2 fun _=>jr _ (k+1) [0,1,2,3,4,5] kr (by omega) (by omega)
       ·refine aa 6 fun _=>Exists.elim (aw (xs:=fg) (k:=i) (by omega)) fun yi Pj=>?_
        have hyo:=(jJ.ok _ _ Pj).ol
        refine aR (σ:=Nat) (fun j=> [(2,.bool false),(3,iv n),(6,pv (BD 3)),(8,iv i),(9,iv k),(10,iv j),(53,.bool (decide ((i:Int)<(n:Int)))),(70,.bool false),(73,.bool (decide ((k:Int)<(n:Int))))]) (fun j=> [.b (a8 2) 24 [iv rp,sl Al l.length cl],.k (pc.row BB BC Sh.fu),.k (CS.row j0 qq fg),.k (lI.row sQ vQ (List.replicate n true)),.k (Gr (lh f fg)),.b (BD 3) 39 [sl BB Sh.fu.length BC,sl j0 fg.length qq,sl sQ ((List.replicate n true).length) vQ,iv PA]]) (fun j=>j≤yi.d.ops.length) (fun j=>yi.d.ops.length-j) 0 [0,1,2,3,4,5] (bh _) ?_
        rintro _ j hj pg
        refine ae 7 [5] fun _=>aV j0 fg.length (i:Int) 11 Xb<|aa 1 fun _=>bd 45 (ad j0 (i*11) 3) (sl yi.a.Ao yi.d.ops.length yi.a.co) qm6<|aa 3 fun _=>aq ((j:Int)<(yi.d.ops.length:Int)) (fun T2=>?_) (fun T2=>?_)
        ·refine ae 8 [5] fun _=>aV j0 fg.length (i:Int) 11 Xb<|aa 1 fun _=>bd 45 (ad j0 (i*11) 3) (sl yi.a.Ao yi.d.ops.length yi.a.co) qm6<|aa 1 fun _=>aV (hj:=by have:=congrArg List.length (Hn yi (aI Pj));rw [cM] at this;omega) yi.a.Ao yi.d.ops.length (j:Int) 12 (fun w h=>Kd.cd (K:=bx) (xs:=f yi) (((show lh f fg _ from h.gr 4 kr) yi (aI Pj)).2.2.1) qlm)<|Exists.elim (aw (xs:=f yi) (k:=j) qlm) fun Ll e56=>bd 56 (((cz yi.a.Ao).add (j*12)).add 0) (bx.V Ll) (fun w h=>bN (K:=bx) (((show lh f fg _ from h.gr 4 kr) yi (aI Pj)).2.2.1) e56)<|ae 10 [6,5,6] fun Kv=>?_
         have hom:Ll.o∈yi.d.ops:=by rw [← Hn yi (aI Pj)];exact di (aI e56)
         have nD:=jJ.own i yi Pj _ hom
         have ZO:=nD.1
         have pG:=nD.2.1
         refine Exists.elim nD.2.2 fun z PB=>?_
         have hz:=PB.1
         have hoz:=PB.2
         have hzo:=(jJ.ok _ _ hz).ol
         refine aV j0 fg.length Ll.o.st.r 11 Xb<|aa 1 fun _=>bd 45 (ad j0 (Ll.o.st.r.toNat*11) 3) (sl z.a.Ao z.d.ops.length z.a.co) (fun w h=>bW (K:=CS) (h.bg 2 j0 qq fg kr) hz)<|aa 12 fun _=>aR (σ:=Nat×Bool) (fun (t,b)=> [(2,.bool false),(3,iv n),(6,pv (BD 3)),(8,iv i),(9,iv k),(10,iv j),(11,pv (Kv 0)),(12,sl z.a.Ao z.d.ops.length z.a.co),(13,.bool b),(14,iv t),(53,.bool (decide ((i:Int)<(n:Int)))),(70,.bool false),(73,.bool (decide ((k:Int)<(n:Int)))),(103,.bool (decide ((j:Int)<(yi.d.ops.length:Int))))]) (fun (t,b)=> [.b (a8 2) 24 [iv rp,sl Al l.length cl],.k (pc.row BB BC Sh.fu),.k (CS.row j0 qq fg),.k (lI.row sQ vQ (List.replicate n true)),.k (Gr (lh f fg)),.b (BD 3) 39 [sl BB Sh.fu.length BC,sl j0 fg.length qq,sl sQ ((List.replicate n true).length) vQ,iv PA],.b (Kv 0) 56 (aT.cells Ll)]) (fun (t,b)=>t≤z.d.ops.length∧(b=true∨ ∀m∈(f z).take t,m.o≠Ll.o)) (fun (t,b)=>z.d.ops.length-t) (0,false) [0,1,2,3,4,5,6] ⟨bh _,.inr (by simp)⟩ ?_
         rintro _ ⟨t,b⟩ ⟨ht,hbb⟩ yS
         refine aa 8 fun _=>aq ((t:Int)<(z.d.ops.length:Int)) (fun h58=>?_) (fun h58=>?_)
         ·refine aa 3 fun _=>(bK b).elim (fun ZP=>?_) (fun ZP=>?_)
          ·refine aK [(0,.bool true)] [] ⟨dv (.bool b) (dP ZP),trivial⟩<|aa 4 fun _=>ao 128 ((t:Int)+1)<|aa 2 fun _=>yS _ (t+1,true) [0,1,2,3,4,5,6] kr ⟨by omega,.inl rfl⟩ du
          ·refine Exists.elim (aw (xs:=f z) (k:=t) qhk) fun Xj e62=>aK [(0,.bool false),(4,_),(5,bx.V Xj),(7,.bool (decide (oN Xj.o Ll.o)))] [6] ⟨dv (.bool b) (dP ZP),bF (hj:=by have:=congrArg List.length (Hn z (aI hz));rw [cM] at this;omega) z.a.Ao z.d.ops.length (t:Int) 12 (fun w h=>Kd.cd (K:=bx) (xs:=f z) (((show lh f fg _ from h.gr 4 kr) z (aI hz)).2.2.1) qhk),cB 56 (((cz z.a.Ao).add (t*12)).add 0) (fun w h=>bN (K:=bx) (((show lh f fg _ from h.gr 4 kr) z (aI hz)).2.2.1) e62),bT (hp:=fun w h=>⟨(((show lh f fg _ from h.gr 4 kr) z (aI hz)).2.2.2 Xj (aI e62)),(((show lh f fg _ from h.gr 4 kr) yi (aI Pj)).2.2.2 Ll (aI e56))⟩) (Ot Xj Ll) jU,trivial⟩<|aa 4 fun _=>ao 128 ((t:Int)+1)<|aa 2 fun _=>yS _ (t+1,decide (oN Xj.o Ll.o)) [0,1,2,3,4,5,6] kr ⟨by omega,if e:oN Xj.o Ll.o then .inl (decide_eq_true e) else .inr (gG (hbb.resolve_left (fun e2=>by rw [e2] at ZP;cases ZP)) e62 fun q=>e ((AI _ _).2 q))⟩ du
         ·refine aa 6 fun _=>eQ (!b) (fun Iw=>?_) (fun Iw=>?_)
          ·exact (show False from hbb.elim (fun e=>by simp [e] at Iw) fun e=>by have e2:=hoz;rw [← Hn z (aI hz),List.mem_map] at e2;obtain ⟨q,hq,e3⟩:=e2;rw [cA qhk] at e;exact e q hq e3).elim
          ·refine aa 5 fun _=>ao 105 ((j:Int)+1)<|aa 2 fun _=>pg _ (j+1) [0,1,2,3,4,5] kr (by omega) (by omega)
        ·refine aa 5 fun _=>ao 55 ((i:Int)+1)<|aa 2 fun _=>dG _ (i+1) [0,1,2,3,4,5] kr (by omega) (by omega)
     ·refine aa 3 fun _=>ah Lg [] cJ ?_
      exact Iq
end Go.Proofs.YtfookmefmjhonaaGreat.My
namespace Go.Proofs.YtfookmefmjhonaaGreat.My
open Go.ChangeShapes Go.WideShapes Go.ChangeAt Go.RowKit Go.Deep Go.bE
section
def Qi:Tryz.prog.cellsOf 34=16:=by kernel_rfl
def Qj:Tryz.prog.cellsOf 32=1:=by kernel_rfl
def Qk:Tryz.prog.cellsOf 31=10:=by kernel_rfl
def Ql:Tryz.prog.cellsOf 29=2:=by kernel_rfl
def Qm:Tryz.prog.cellsOf 24=2:=by kernel_rfl
def Qn:Tryz.prog.cellsOf 22=1:=by kernel_rfl
def uV:Tryz.prog.cellsOf 3=1:=by kernel_rfl
def aha:ownKnob Tryz.prog.godebug=none:=by kernel_rfl
def laidOut:laidOutB Cp=true:=by kernel_rfl
def FE {H:Type} (d:DataW H):1≤Rows.uptoBulk d:=by
 cases d with
 |lit l=>cases l<;>simp [Rows.uptoBulk]
 |nil=>simp [Rows.uptoBulk]
 |ptr d=>simp [Rows.uptoBulk]
 |slice elems spare=>simp [Rows.uptoBulk]
 |agg parts=>simp [Rows.uptoBulk]
 |iface t d=>simp [Rows.uptoBulk]
 |map entries=>simp [Rows.uptoBulk]
 |held h=>simp [Rows.uptoBulk]
def BX {H:Type} {d:DataW H} {l:List (DataW H)} (h:d∈l):Rows.uptoBulk d≤Rows.uptoBulkAll l:=by
 induction l with
 |nil=>cases h
 |cons x r ih=>
  simp only [Rows.uptoBulkAll]
  cases dx.1 h with
  |inl e=>subst e;omega
  |inr e=>have:=ih e;omega
def Qo {H:Type} (l:List (DataW H)):l.length≤Rows.uptoBulkAll l:=by
 induction l with
 |nil=>simp [Rows.uptoBulkAll]
 |cons x r ih=>have:=FE x;simp only [Rows.uptoBulkAll,dM];omega
def BY {α:Type} {p:Nat→α→Prop}: ∀n,(∀i,i<n→ ∃a,p i a)→ ∃l:List α,l.length=n∧ ∀i a,l[i]? =some a→p i a
 |0,_=>⟨[],rfl,by simp⟩
 |n+1,h=>by
  obtain ⟨l,h1,h2⟩:=BY n fun i hi=>h i (by omega)
  obtain ⟨a,ha⟩:=h n (by omega)
  refine ⟨l++ [a],by simp [h1],fun i x hx=>?_⟩
  by_cases hi:i<l.length
  ·rw [lW hi] at hx;exact h2 i x hx
  ·have hl:=(aN.1 hx).1
   rw [bm,List.length_singleton] at hl
   have e:i=l.length:=by omega
   subst e
   rw [gD (bO _),Nat.sub_self] at hx
   simp only [gQ,a9] at hx
   subst hx
   rw [h1]
   exact ha
def HZ (l:List Int):l.flatMap az.f=l.map fun n=>iv n:=by
 induction l with
 |nil=>rfl
 |cons x l ih=>rw [iE,fm,ih];rfl
def FF {α:Type} (K:Kd α): ∀ {l:List α} {j:Nat} {v:Value},(l.flatMap K.f)[j]? =some v→ ∃k o b,l[k]? =some b∧(K.f b)[o]? =some v∧j=k*K.sz+o
 | [],_,_,h=>by simp at h
 |b::l,j,v,h=>by
  rw [iE] at h
  by_cases hj:j<(K.f b).length
  ·rw [lW hj] at h
   exact ⟨0,j,b,rfl,h,by simp⟩
  ·rw [gD (by omega)] at h
   obtain ⟨k,o,c,h1,h2,h3⟩:=FF K h
   refine ⟨k+1,o,c,by simpa using h1,h2,?_⟩
   rw [K.len] at h3 hj
   rw [Nat.succ_mul]
   omega
section
variable {H:Type} {enc:TypeId×Value→H} {w:World} {fuel:Nat}
abbrev uW (enc:TypeId×Value→H) (w:World) (fuel:Nat) (t:TypeId) (cs:List Value) (x:DataW H×List MemPlace):Prop:=DataW.trod enc Cp w 0 (fun _=>true) true fuel t cs=some x
def get_some {α:Type} {l:List α} {n i:Nat} (h:l.length=n) (hi:i<n): ∃y,l[i]? =some y:=⟨_,dw (by rw [h];exact hi)⟩
def kh {c:Value} {x:DataW H×List MemPlace} (h:uW enc w fuel 3 [c] x): ∃n,c=iv n:=by
 obtain ⟨n,hn,_⟩:=DataW.trod_int Tryz.underlying3 h
 simp only [List.cons.injEq,and_true] at hn
 exact ⟨n,hn⟩
def DY {c0 c1:Value} {x:DataW H×List MemPlace} (h:uW enc w fuel 29 [c0,c1] x): ∃y:cN,c0=iv y.t∧c1=iv y.r:=by
 obtain ⟨ys,n,_,_,_,hl,hf⟩:=DataW.trod_struct Tryz.underlying29 h
 have f0:=hf 0 _ rfl
 have f1:=hf 1 _ rfl
 obtain ⟨y0,g0⟩:=get_some (i:=0) hl (by decide)
 obtain ⟨y1,g1⟩:=get_some (i:=1) hl (by decide)
 rw [g0] at f0
 rw [g1] at f1
 simp [uV] at f0 f1
 obtain ⟨a,ha⟩:=kh f0
 obtain ⟨b,hb⟩:=kh f1
 exact ⟨⟨a,b⟩,ha,hb⟩
def Qp {v:Value} {x:DataW H×List MemPlace} (h:uW enc w fuel 32 [v] x): ∃A c xs,v=sl A xs.length c∧az.Rd A xs w∧1+xs.length≤Rows.uptoBulk x.1:=by
 rcases open_ints Tryz.underlying32 Tryz.underlying3 uV h with ⟨rD,hx⟩|⟨a,l,c,zs,rD,_,hl,hm,hz,hx,_L,_⟩
 ·simp only [List.cons.injEq,and_true] at rD
  exact ⟨none,0,[],rD,Rc.nil _ _,by rw [hx];exact FE _⟩
 ·simp only [List.cons.injEq,and_true] at rD
  have NC:zs.length=c:=by simpa using hz
  have s4:(zs.take l).length=l:=by rw [b0];omega
  refine ⟨some a,c,zs.take l,by rw [s4];exact rD,fun j v hj=>⟨a,rfl,?_⟩,?_⟩
  ·have pQ:((zs.take l).map fun n=>iv n)[j]? =some v:=by rw [← HZ];exact hj
   rw [fk] at pQ
   obtain ⟨n,hn,rfl⟩:=fV.1 pQ
   rw [List.getElem?_take] at hn
   split at hn
   ·have sE:j<zs.length:=by omega
    have:=_L j sE
    rw [bA,hn] at this
    exact this
   ·cases hn
  ·rw [hx,s4]
   simp only [Rows.uptoBulk]
   have h1:=Qo (H:=H) (lits .i64 (zs.take l))
   have h2:(lits (H:=H) .i64 (zs.take l)).length=l:=by rw [← s4];simp [lits]
   omega
def Vw {c0 c1 c2 c3 c4 c5 c6 c7 c8 c9:Value} {x:DataW H×List MemPlace} (h:uW enc w fuel 31 [c0,c1,c2,c3,c4,c5,c6,c7,c8,c9] x): ∃q:qj,[c0,c1,c2,c3,c4,c5,c6,c7,c8,c9]= [iv q.kind,iv q.node.t,iv q.node.r,iv q.par.t,iv q.par.r,iv q.oA.t,iv q.oA.r,iv q.prop,iv q.val,iv q.width]:=by
 obtain ⟨ys,n,_,_,_,hl,hf⟩:=DataW.trod_struct Tryz.underlying31 h
 have f0:=hf 0 _ rfl
 have f1:=hf 1 _ rfl
 have f2:=hf 2 _ rfl
 have f3:=hf 3 _ rfl
 have f4:=hf 4 _ rfl
 have f5:=hf 5 _ rfl
 have f6:=hf 6 _ rfl
 obtain ⟨y0,g0⟩:=get_some (i:=0) hl (by decide)
 obtain ⟨y1,g1⟩:=get_some (i:=1) hl (by decide)
 obtain ⟨y2,g2⟩:=get_some (i:=2) hl (by decide)
 obtain ⟨y3,g3⟩:=get_some (i:=3) hl (by decide)
 obtain ⟨y4,g4⟩:=get_some (i:=4) hl (by decide)
 obtain ⟨y5,g5⟩:=get_some (i:=5) hl (by decide)
 obtain ⟨y6,g6⟩:=get_some (i:=6) hl (by decide)
 rw [g0] at f0
 rw [g1] at f1
 rw [g2] at f2
 rw [g3] at f3
 rw [g4] at f4
 rw [g5] at f5
 rw [g6] at f6
 simp [uV,Ql] at f0 f1 f2 f3 f4 f5 f6
 obtain ⟨k,rfl⟩:=kh f0
 obtain ⟨nd,rfl,rfl⟩:=DY f1
 obtain ⟨pr,rfl,rfl⟩:=DY f2
 obtain ⟨bf,rfl,rfl⟩:=DY f3
 obtain ⟨pp,rfl⟩:=kh f4
 obtain ⟨vl,rfl⟩:=kh f5
 obtain ⟨wd,rfl⟩:=kh f6
 exact ⟨⟨k,nd,pr,bf,pp,vl,wd⟩,rfl⟩
set_option maxRecDepth 100000 in
def Vx {cs:List Value} {x:DataW H×List MemPlace} (vP:cs.length=16) (h:uW enc w fuel 34 cs x): ∃a:dz,cs=mw.f a∧az.Rd a.A a.fo w∧1+a.fo.length≤Rows.uptoBulk x.1:=by
 obtain ⟨ys,n,_,hx,_,hl,hf⟩:=DataW.trod_struct Tryz.underlying34 h
 match cs,vP with
 | [c0,c1,c2,c3,c4,c5,c6,c7,c8,c9,rA,pK,xR,mD,T5,J9],_=>
  have f0:=hf 0 _ rfl
  have f1:=hf 1 _ rfl
  have f2:=hf 2 _ rfl
  have f3:=hf 3 _ rfl
  have f4:=hf 4 _ rfl
  have f5:=hf 5 _ rfl
  have f6:=hf 6 _ rfl
  obtain ⟨y0,g0⟩:=get_some (i:=0) hl (by decide)
  obtain ⟨y1,g1⟩:=get_some (i:=1) hl (by decide)
  obtain ⟨y2,g2⟩:=get_some (i:=2) hl (by decide)
  obtain ⟨y3,g3⟩:=get_some (i:=3) hl (by decide)
  obtain ⟨y4,g4⟩:=get_some (i:=4) hl (by decide)
  obtain ⟨y5,g5⟩:=get_some (i:=5) hl (by decide)
  obtain ⟨y6,g6⟩:=get_some (i:=6) hl (by decide)
  rw [g0] at f0
  rw [g1] at f1
  rw [g2] at f2
  rw [g3] at f3
  rw [g4] at f4
  rw [g5] at f5
  rw [g6] at f6
  simp [uV,Qk,Qj] at f0 f1 f2 f3 f4 f5 f6
  obtain ⟨k,rfl⟩:=kh f0
  obtain ⟨rp,rfl⟩:=kh f1
  obtain ⟨q,hq⟩:=Vw f2
  obtain ⟨wh,rfl⟩:=kh f3
  obtain ⟨nm,rfl⟩:=kh f4
  obtain ⟨bt,rfl⟩:=kh f5
  obtain ⟨A,c,xs,rfl,hA,hb⟩:=Qp f6
  simp only [List.cons.injEq,and_true] at hq
  obtain ⟨rfl,rfl,rfl,rfl,rfl,rfl,rfl,rfl,rfl,rfl⟩:=hq
  refine ⟨⟨k,rp,q,wh,nm,bt,A,c,xs⟩,rfl,hA,?_⟩
  have h1:y6.1∈ys.map (·.1):=di (aI g6)
  have h2:=BX h1
  rw [hx]
  simp only [Rows.uptoBulk]
  omega
def Qq {v:Value} {x:DataW H×List MemPlace} (h:uW enc w fuel 22 [v] x): ∃A c,∃l:List dz,v=sl A l.length c∧lZ A l w∧sj l≤Rows.uptoBulk x.1:=by
 rcases open_slice Tryz.underlying22 h with ⟨rD,hx⟩|⟨a,len,cap,mm,n,D,Pl,rD,_,hl,hm,hmm,hx,hi⟩
 ·simp only [List.cons.injEq,and_true] at rD
  exact ⟨none,0,[],rD,⟨Rc.nil _ _,by simp⟩,bh _⟩
 ·simp only [List.cons.injEq,and_true] at rD
  have Y5:mm=cap:=by simpa using hmm
  obtain ⟨l,h1,h2⟩:=BY (p:=fun i (b:dz)=>(∀j v,(mw.f b)[j]? =some v→w.cell? (a.add (i*16+j))=some v)∧az.Rd b.A b.fo w∧1+b.fo.length≤Rows.uptoBulk (D i)) len fun i ou=>by
   obtain ⟨cs,hc,ht⟩:=hi i (by omega)
   rw [Qi] at hc
   obtain ⟨_,vP,Nf⟩:=World.cells?_some hc
   obtain ⟨b,e,hA,hb⟩:=Vx vP ht
   refine ⟨b,fun j v hj=>?_,hA,hb⟩
   have pQ:=(aN.1 hj).1
   rw [← e,vP] at pQ
   rw [← Addr.add_add,Nf j pQ,e,hj]
  refine ⟨some a,cap,l,by rw [h1];exact rD,⟨fun j v hj=>⟨a,rfl,?_⟩,fun b hb=>?_⟩,?_⟩
  ·obtain ⟨k,o,b,hk,hv,e⟩:=FF mw hj
   rw [e,show k*mw.sz+o=k*16+o from rfl]
   exact (h2 k b hk).1 o v hv
  ·obtain ⟨k,hk⟩:=List.mem_iff_getElem?.1 hb
   exact (h2 k b hk).2.1
  ·rw [hx]
   simp only [Rows.uptoBulk]
   have h3: ∀(l:List dz) (E:Nat→DataW H),(∀i b,l[i]? =some b→1+b.fo.length≤Rows.uptoBulk (E i))→sj l≤Rows.uptoBulkAll ((List.range l.length).map E):=by
    intro l
    induction l with
    |nil=>intro _ _;exact bh _
    |cons b l ih=>
     intro E hE
     have h4:=hE 0 b rfl
     have h5:=ih (fun i=>E (i+1)) fun i c hc=>hE (i+1) c qse
     rw [dM,List.range_succ_eq_map,fm,List.map_map]
     simp only [Rows.uptoBulkAll]
     unfold sj at h5⊢
     simp only [fm,List.sum_cons]
     exact Nat.add_le_add h4 h5
   have h6:=h3 l D fun i b hb=>(h2 i b hb).2.2
   rw [h1] at h6
   omega
end
end

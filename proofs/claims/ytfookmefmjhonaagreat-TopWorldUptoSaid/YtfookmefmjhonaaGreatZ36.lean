/- For the law of worlds: The layout. -/
import Derived.Test.YtfookmefmjhonaaGreatZ35
set_option linter.all false
namespace Go.Proofs.YtfookmefmjhonaaGreat.My
open Go.RowKit Go.bE
structure sP where
 g:Nat
 fr:Nat
 Ai:OA
 n:Nat
 ci:Nat
 Ax:OA
 xs:List Int
 cx:Nat
 Ay:OA
 ys:List Int
 cy:Nat
 cr:Int
def Zc:Kd sP:=⟨397,5,fun x=> [iv (x.fr:Int),sl x.Ai x.n x.ci,sl x.Ax x.xs.length x.cx,sl x.Ay x.ys.length x.cy,iv x.cr],fun _=>rfl,fun _=>rfl,by decide⟩
def NF:Kd Nat:=⟨395,1,fun g=> [pv g],fun _=>rfl,fun _=>rfl,by decide⟩
structure ah1 (o:sP) (w:World):Prop where
 o_:Zc.Rd (some ⟨o.g,0,none⟩) [o] w
 x_:az.Rd o.Ax o.xs w
 y_:az.Rd o.Ay o.ys w
def oQ (os:List sP) (w:World):Prop:= ∀o∈os,ah1 o w
abbrev La (os:List sP):aM:=Gr (oQ os)
def mA.bJ (g:Nat) (t:TypeId) (cs:List Value):mA (Rc (so g) cs) [bJ g t cs]:=fun U w0 w hS=>SS.get hS (i:=0) rfl fun F hF j v hj=>⟨_,rfl,pH.news hF.2 j v hj⟩
def Ld {os:List sP} {o:sP}:mA (oQ (os++ [o])) [La os,bJ o.g 397 (Zc.f o),az.row o.Ax o.cx o.xs,az.row o.Ay o.cy o.ys]:=
 (mA.cons Gr.p (mA.cons (mA.bJ _ _ _) (mA.cons (mA.row az _ _ _) (mA.row az _ _ _)))).of fun w h p hp=>(eG.1 hp).elim (h.1 p) fun e=>by
  rw [fv.1 e]
  exact ⟨by unfold Kd.Rd;simp only [iE,List.flatMap_nil,fj];exact h.2.1,h.2.2.1,h.2.2.2⟩
def oQ.at {os:List sP} {w:World} {o:sP} {x q:Nat} (h:oQ os w) (ho:os[q]? =some o∧o.g=x):Zc.Rd (so x) [o] w:=ho.2▸(h o (aI ho.1)).o_
def oQ.ax {os:List sP} {w:World} {o:sP} {x q:Nat} (h:oQ os w) (ho:os[q]? =some o∧o.g=x):az.Rd o.Ax o.xs w:=(h o (aI ho.1)).x_
def oQ.ay {os:List sP} {w:World} {o:sP} {x q:Nat} (h:oQ os w) (ho:os[q]? =some o∧o.g=x):az.Rd o.Ay o.ys w:=(h o (aI ho.1)).y_
def UB {os:List sP} {q x:Nat} (h:(os.map (·.g))[q]? =some x): ∃o,os[q]? =some o∧o.g=x:=by
 rw [fk] at h
 cases e:os[q]?with
 |none=>rw [e] at h;cases h
 |some o=>rw [e] at h;exact ⟨o,rfl,by simpa using h⟩
structure SR (m:Nat) (o:sP):Prop where
 fn:o.fr+o.n≤m
 xl:o.xs.length=o.n
 yl:o.ys.length=o.n
 xr: ∀y∈o.xs,dD y
 yr: ∀y∈o.ys,dD y
structure DA (m:List Int) (j nk:Nat) (os:List sP) (cr:List Int):Prop where
 jl:j≤m.length
 kl:(nk:Int)=(m.take j).sum
 ol:os.length=j
 cl:cr.length=j
 cr_: ∀y∈cr,dD y
 on: ∀o∈os,SR nk o
def DA.nil (m:List Int):DA m 0 0 [] []:=⟨bh _,by simp,rfl,rfl,by simp,by simp⟩
def DA.step {m:List Int} {j nk k:Nat} {os:List sP} {cr:List Int} (h:DA m j nk os cr) {x c:Int} (hx:m[j]? =some x) (hk:(k:Int)=x) (hc:dD c) {o:sP} (ho:SR (nk+k) o):DA m (j+1) (nk+k) (os++ [o]) (cr++ [c]):=by
 refine ⟨(aN.1 hx).1,by rw [pX hx,← h.kl];omega,by simp [h.ol],by simp [h.cl],nJ h.cr_ hc,fun p hp=>?_⟩
 rcases eG.1 hp with hp|hp
 ·have:=h.on p hp;exact ⟨by have:=this.fn;omega,this.xl,this.yl,this.xr,this.yr⟩
 ·rw [fv.1 hp];exact ho
def n' {m:List Int} (h: ∀y∈m,0≤y) (k:Nat):(m.take k).sum≤m.sum:=by
 induction m generalizing k with
 |nil=>simp
 |cons y m ih=>
  have h1:=h y cE
  have h2: ∀z∈m,0≤z:=fun z hz=>h z (bH _ hz)
  cases k with
  |zero=>
   have:=ih h2 0
   simp only [List.take_zero,List.sum_nil,List.sum_cons] at*
   omega
  |succ k=>have:=ih h2 k;simp only [List.take_succ_cons,List.sum_cons];omega
def UA (k_:Nat) (ih: ∀(gw:Nat) (ab:Addr) (b:fe) (av qw qh:Int) (R:World→Prop) (hL:vx R k_ ab b) (Nm:dD av) (Nn: -1≤qw∧qw≤1099511627776) (Np: -1≤qh∧qh≤1099511627776),hO Cp 211 #[pv gw,.agg #[.pointer (some ((cz (some ab)).add (0*4))),iv av,iv qw,iv qh]] (fun U w=>RF R U w) [ja R gw] (fun v Cs=> ∃(gt gr:Int) (z1 z2 z3 z4:Nat),∃Ka nk,∃(Kc:Nat),v=.agg #[iv gt,iv gr,.complex .f64 z1 z2,.complex .f64 z3 z4,sl Ka nk Kc]∧jb ⟨gt,gr,z1,z2,z3,z4,Ka,nk,Kc⟩∧Cs= [ja R gw])) (gw:Nat) (af:Addr) (f:Gv) (go:Nat) (R:World→Prop) (b:fe) (fr:Nat) (Ai:OA) (ci:Nat) (bo:List nK) (hL:vx R (k_+1) f.a b) (hF:AM f.w f.h f.i f.t) (mh: ∀y∈bo,lS y) (ou:bo.length≤64) (Nk:fr+bo.length≤b.kids.length):hO Cp 297 #[pv gw,.pointer (some ((cz (some af)).add (0*5))),pv go] (fun U w=>Cn.gx (some af) [f] U w∧RF R U w∧np.gx Ai bo U w) [ja R gw,bJ go 397 [iv fr,sl Ai bo.length ci,sl none 0 0,sl none 0 0,iv 0]] (fun v Cs=> ∃A2 c2 ks Ax cx,∃(xs:List Int),∃Ay cy,∃(ys:List Int) (cr:Int),v=sl A2 ks.length c2∧ks.length=bo.length∧xs.length=bo.length∧ys.length=bo.length∧(∀y∈xs,dD y)∧(∀y∈ys,dD y)∧dD cr∧Cs= [ja R gw,bJ go 397 [iv fr,sl Ai bo.length ci,sl Ax xs.length cx,sl Ay ys.length cy,iv cr],rK.row A2 c2 ks,az.row Ax cx xs,az.row Ay cy ys]):=by
 refine kz [.k (ja R gw),.b go 397 [iv fr,sl Ai bo.length ci,sl none 0 0,sl none 0 0,iv 0]] Tryz.func297 fun U w0 hp=>aa 9 fun _=>bd 310 (ad (some af) (0*5) 0) (.pointer (some ((cz (some f.a)).add (0*4)))) xV<|ah (lC f.a (k_+1) b 14 hL.ok sK) [] (fun w h=>hL.at_ _ (hp.2.1 _ h.ch)) ?_
 rintro _ _ ⟨rfl,rfl⟩
 refine aa 3 fun _=>aO [(8,_),(9,_)] [1] ⟨Ty,aY (fun vs=>(ER Ai ci bo (bM b 14) f.i mh (by omega) qhh (rg_of hF.i_)).g9) [] (fun vs=>sl (ak (vs 9)) (eI (vs 9)) (an (vs 9))) [fun vs=>.k (g9 ((fun v Cs=> ∃A2 c2,∃(vp:List Int),v=sl A2 vp.length c2∧vp.length=bo.length∧(∀y∈vp,dD y)∧Cs= [az.row A2 c2 vp]) (vs 9)))] (fun vs w h=>(hp.2.2.aE h.ch).rc) qu8,trivial⟩ fun v11=>?_
 refine bn (φ:=(fun v Cs=> ∃A2 c2,∃(vp:List Int),v=sl A2 vp.length c2∧vp.length=bo.length∧(∀y∈vp,dD y)∧Cs= [az.row A2 c2 vp]) (v11 9)) 2 ?_
 rintro _ (⟨A6,c7,Ef,Uh,f9,f10,rfl⟩)
 ·refine aC 28 (sl A6 Ef.length c7) (sl (ak (v11 9)) (eI (v11 9)) (an (v11 9))) qiq<|aC 8 (sl A6 Ef.length c7) (sl (ak (v11 9)) (eI (v11 9)) (an (v11 9))) qiq ?_
  have WG:=f9
  have Dn:=f10
  refine aa 1 fun _=>aO [(6,_),(10,_),(11,_),(12,_)] [1] ⟨Ty,OE,aY (fun vs=>lC f.a (k_+1) b 15 hL.ok sK) [] (fun vs=>iv (bM b 15)) [] qqh ko,aY (fun vs=>(su A6 c7 Ef (bM b 14) f.i (bM b 15) Dn sK sK (by omega)).g9) [] (fun vs=>sl (ak (vs 12)) (eI (vs 12)) (an (vs 12))) [fun vs=>.k (g9 ((fun v Cs=> ∃A2 c2,∃(z:List Int),v=sl A2 z.length c2∧z.length=Ef.length∧(∀y∈z,dD y)∧Cs= [az.row A2 c2 z]) (vs 12)))] (fun vs w h=>h.bg 3 A6 c7 Ef kr) qu8,trivial⟩ fun ud=>?_
  refine bn (φ:=(fun v Cs=> ∃A2 c2,∃(z:List Int),v=sl A2 z.length c2∧z.length=Ef.length∧(∀y∈z,dD y)∧Cs= [az.row A2 c2 z]) (ud 12)) 4 ?_
  rintro _ (⟨yF,zM,rk,Y0,f21,f22,rfl⟩)
  ·refine aC 41 (sl yF rk.length zM) (sl (ak (ud 12)) (eI (ud 12)) (an (ud 12))) qq5<|aD 5 (bJ go 397 [iv fr,sl Ai bo.length ci,sl (ak (ud 12)) (eI (ud 12)) (an (ud 12)),sl none 0 0,iv 0]) (bJ go 397 [iv fr,sl Ai bo.length ci,sl yF rk.length zM,sl none 0 0,iv 0]) kr qq5<|dB 7 go 397 [iv fr,sl Ai bo.length ci,sl yF rk.length zM,sl none 0 0,iv 0] ?_
   have zI:=f21
   have XQ:=f22
   refine aa 6 fun _=>bD (HG k_ ih gw af f go A6 c7 Ef R b fr Ai bo.length ci yF rk.length zM none 0 0 0 hL hF Dn (by omega) Ri) [0,7] (fun w F h=>⟨hp.1.ew h,h.F8 3 A6 c7 Ef kr,hp.2.1.ew h⟩) ?_
   rintro _ _ ⟨vg,vz,zx,pR,rC,Eg,Cb,rfl,f32,f33,f34,f35,rfl⟩
   refine dB 9 go 397 [iv fr,sl Ai bo.length ci,sl yF rk.length zM,sl none 0 0,iv Cb] ?_
   have AN:=f32
   have Yq:=f33
   have OD:=f34
   have BJ:=f35
   refine aa 14 fun _=>bG az ?_
   have RC:=hL.ok.len
   refine aR (σ:=Nat×List jc×OA×Nat×List Int) (fun (k,nz,F,f_,ys)=> [(0,pv gw),(1,.pointer (some ((cz (some af)).add (0*5)))),(2,pv go),(6,sl none 0 0),(8,sl A6 Ef.length c7),(9,sl vg zx.length vz),(10,sl pR Eg.length rC),(53,iv (zx.length:Int)),(54,iv k)]) (fun (k,nz,F,f_,ys)=> [.k (ja R gw),.b go 397 [iv fr,sl Ai bo.length ci,sl yF rk.length zM,sl F ys.length f_,iv Cb],.k (az.row A6 c7 Ef),.k (az.row yF zM rk),.k (az.row pR rC Eg),.k (rK.row vg vz nz),.k (az.row F f_ ys)]) (fun (k,nz,F,f_,ys)=>k≤zx.length∧nz.length=zx.length∧ys.length=k∧ ∀y∈ys,dD y) (fun (k,nz,F,f_,ys)=>zx.length-k) (0,zx,none,0,[]) [8,9,3,6,11,10,12] ⟨bh _,rfl,rfl,by simp⟩ ?_
   rintro _ ⟨k,nz,F,f_,ys⟩ ⟨hk,sE,mJ,Wq⟩ aB
   refine aa 5 fun _=>aq ((k:Int)<(zx.length:Int)) (fun Ye=>?_) (fun Ye=>?_)
   ·refine aa 9 fun _=>aK [(3,.pointer (some ((cz (some f.a)).add (0*4)))),(6,sl b.Ak b.kids.length b.ck),(12,_),(13,_)] [1] ⟨qv5,cB 208 (ad (some f.a) (0*4) 3) (fun w h=>bW (K:=k7) ((hL.at_ _ (hp.2.1 _ h.ch)).at) rfl),fM ((fr:Int)+(k:Int)),bF b.Ak b.kids.length ((fr:Int)+(k:Int)) 4 (fun w h=>Kd.cd (K:=k7) (xs:=b.kids) ((hL.at_ _ (hp.2.1 _ h.ch)).kids) (by omega)),trivial⟩<|aa 1 fun _=>Exists.elim (aw (xs:=Eg) (k:=k) (by omega)) fun SN Xy=>aO [(7,_),(8,_),(16,_),(17,_),(18,_),(21,_)] [1,1,1] ⟨br (fun vs=>pR) (fun vs=>Eg.length) (fun vs=>(k:Int)) 1 (fun vs w h=>Kd.cd (K:=az) (xs:=Eg) (h.bg 4 pR rC Eg kr) (by omega)),cZ 3 (fun vs=>ad pR (k*1) 0) (fun vs=>iv SN) (fun vs w h=>bW (K:=az) (h.bg 4 pR rC Eg kr) Xy),OE,aY (fun vs=>lC f.a (k_+1) b 16 hL.ok sK) [] (fun vs=>iv (bM b 16)) [] qqh ko,aY (fun vs=>(BK SN Cb (bM b 16) (OD _ (aI Xy)) sK).g9) [] (fun vs=>bZ.V ⟨(dH (ag (vs 18) 0)),(dH (ag (vs 18) 1))⟩) [fun vs=>.k (g9 ((fun v Cs=> ∃(x y:Int),v=bZ.V ⟨x,y⟩∧(dD x∧dD y)∧Cs= []) (vs 18)))] nE (fun vs u C h=>qj9),ib az 6 (fun vs=>F) (fun vs=>f_) (fun vs=>ys) (fun vs=>some ⟨(a5 (vs 20)),0,none⟩) (fun vs=>1) (fun vs=>1) (fun vs=> [(dH (ag (vs 18) 0))]) (fun vs w h=>h.eT 7 (a5 (vs 20)) 3 (List.flatMap az.f [(dH (ag (vs 18) 0))]) kr),trivial⟩ fun rZ=>?_
    refine bn (φ:=(fun v Cs=> ∃(x y:Int),v=bZ.V ⟨x,y⟩∧(dD x∧dD y)∧Cs= []) (rZ 18)) 7 ?_
    rintro _ (⟨zN,y43,Y8,f44,rfl⟩)
    ·refine aC 89 (bZ.V ⟨zN,y43⟩) (bZ.V ⟨dH (ag (rZ 18) 0),dH (ag (rZ 18) 1)⟩) qka<|aC 90 (iv zN) (gi (rZ 18) 0) qka<|aD 8 (bJ (a5 (rZ 20)) 3 [gi (rZ 18) 0]) (bJ (a5 (rZ 20)) 3 [iv zN]) kr qka<|dB 11 (a5 (rZ 20)) 3 [iv zN]<|aD 10 (bJ go 397 [iv fr,sl Ai bo.length ci,sl yF rk.length zM,sl (ak (rZ 21)) ((ys++ [(dH (ag (rZ 18) 0))]).length) (an (rZ 21)),iv Cb]) (bJ go 397 [iv fr,sl Ai bo.length ci,sl yF rk.length zM,sl (ak (rZ 21)) ((ys++ [zN]).length) (an (rZ 21)),iv Cb]) kr qi7<|dB 12 go 397 [iv fr,sl Ai bo.length ci,sl yF rk.length zM,sl (ak (rZ 21)) ((ys++ [zN]).length) (an (rZ 21)),iv Cb]<|aS az 9 (ak (rZ 21)) (an (rZ 21)) (ys++ [(dH (ag (rZ 18) 0))]) (ys++ [zN]) kr (qka)<|aC 92 (sl (ak (rZ 21)) ((ys++ [zN]).length) (an (rZ 21))) (sl (ak (rZ 21)) ((ys++ [(dH (ag (rZ 18) 0))]).length) (an (rZ 21))) qi7<|ae 8 [12] fun _=>Exists.elim (aw (xs:=b.kids) (k:=((fr:Int)+(k:Int)).toNat) (by omega)) fun yR Hl=>ah (GA af f ((cz b.Ak).add ((((fr:Int)+(k:Int)).toNat)*4)) k_ yR Cb (k_+1) b hL.ok ((hL.gZ Hl).ok) W4) [] (fun w h=>⟨(hp.1.aE h.ch).rc,(hL.gZ Hl).at_ _ (hp.2.1 _ h.ch),hL.at_ _ (hp.2.1 _ h.ch)⟩) ?_
     rintro _ _ ⟨z49,rfl,f50,rfl⟩
     refine aa 7 fun _=>cU (z49=(-1)) (fun h51=>?_) (fun h51=>?_)
     ·refine Exists.elim (aw (xs:=Ef) (k:=k) (by omega)) fun Q4 Ud=>Exists.elim (aw (xs:=nz) (k:=k) (by omega)) fun x74 e75=>aO [(7,_),(10,_),(11,_),(13,_),(14,_),(17,_),(18,_),(19,_)] [] ⟨Ty,br (fun vs=>A6) (fun vs=>Ef.length) (fun vs=>(k:Int)) 1 (fun vs w h=>Kd.cd (K:=az) (xs:=Ef) (h.bg 2 A6 c7 Ef kr) (by omega)),cZ 3 (fun vs=>ad A6 (k*1) 0) (fun vs=>iv Q4) (fun vs w h=>bW (K:=az) (h.bg 2 A6 c7 Ef kr) Ud),aY (fun vs=>lC ((cz b.Ak).add ((((fr:Int)+(k:Int)).toNat)*4)) k_ yR 12 ((hL.gZ Hl).ok) W4) [] (fun vs=>iv (bM yR 12)) [] (fun vs w h=>(hL.gZ Hl).at_ _ (hp.2.1 _ h.ch)) ko,aY (fun vs=>kJ Q4 (bM yR 12) (Dn _ (aI Ud)) W4) [] (fun vs=>iv (ia Q4 (bM yR 12))) [] nE ko,fJ (fun vs=>ih gw ((cz b.Ak).add ((((fr:Int)+(k:Int)).toNat)*4)) yR f.i (ia Q4 (bM yR 12)) z49 R (hL.gZ Hl) W4 W4 W4) [0] (fun vs=>.agg #[gi (vs 17) 0,gi (vs 17) 1,.complex .f64 (dK (ag (vs 17) 2)) (dL (ag (vs 17) 2)),.complex .f64 (dK (ag (vs 17) 3)) (dL (ag (vs 17) 3)),gs (vs 17) 4]) [fun vs=>.k (ja R gw)] (fun vs w F h=>hp.2.1.ew h) (fun vs u C h=>by obtain ⟨_,_,_,_,_,_,_,_,_,rfl,_,rfl⟩:=h;exact ⟨rfl,rfl⟩),br (fun vs=>vg) (fun vs=>zx.length) (fun vs=>(k:Int)) 5 (fun vs w h=>Kd.cd (K:=rK) (xs:=nz) (h.bg 4 vg vz nz kr) (by omega)),cR rK 5 (fun vs=>vg) (fun vs=>vz) (fun vs=>nz) k 0 (fun vs=>x74) (fun vs=>(⟨dH (ag (vs 17) 0),dH (ag (vs 17) 1),dK (ag (vs 17) 2),dL (ag (vs 17) 2),dK (ag (vs 17) 3),dL (ag (vs 17) 3),ak (ag (vs 17) 4),(eI (ag (vs 17) 4)),an (ag (vs 17) 4)⟩:jc)) 86 (fun vs=>.agg #[gi (vs 17) 0,gi (vs 17) 1,.complex .f64 (dK (ag (vs 17) 2)) (dL (ag (vs 17) 2)),.complex .f64 (dK (ag (vs 17) 3)) (dL (ag (vs 17) 3)),gs (vs 17) 4]) (fun _=>e75),trivial⟩ fun Q6=>aa 3 fun _=>ao 123 ((k:Int)+1)<|aa 2 fun _=>aB _ (k+1,nz.set k (⟨dH (ag (Q6 17) 0),dH (ag (Q6 17) 1),dK (ag (Q6 17) 2),dL (ag (Q6 17) 2),dK (ag (Q6 17) 3),dL (ag (Q6 17) 3),ak (ag (Q6 17) 4),(eI (ag (Q6 17) 4)),an (ag (Q6 17) 4)⟩:jc),ak (rZ 21),an (rZ 21),ys++ [zN]) [14,12,2,3,4,15,13] kr ⟨by omega,by rw [cX];exact sE,by rw [bm,mJ];rfl,xU Wq f44.1⟩ du
     ·refine aa 4 fun _=>ao 123 ((k:Int)+1)<|aa 2 fun _=>aB _ (k+1,nz,ak (rZ 21),an (rZ 21),ys++ [zN]) [0,12,2,3,4,5,13] kr ⟨by omega,sE,by rw [bm,mJ];rfl,xU Wq f44.1⟩ du
   ·refine aa 6 fun _=>a_ [0,1,5,3,6] ⟨vg,vz,nz,yF,zM,rk,F,f_,ys,Cb,kt (sl vg zx.length vz) (by rw [sE]),by omega,by omega,by omega,XQ,Wq,BJ,kr⟩
def ZC (k_:Nat) (ih: ∀(gw:Nat) (ab:Addr) (b:fe) (av qw qh:Int) (R:World→Prop) (hL:vx R k_ ab b) (Nm:dD av) (Nn: -1≤qw∧qw≤1099511627776) (Np: -1≤qh∧qh≤1099511627776),hO Cp 211 #[pv gw,.agg #[.pointer (some ((cz (some ab)).add (0*4))),iv av,iv qw,iv qh]] (fun U w=>RF R U w) [ja R gw] (fun v Cs=> ∃(gt gr:Int) (z1 z2 z3 z4:Nat),∃Ka nk,∃(Kc:Nat),v=.agg #[iv gt,iv gr,.complex .f64 z1 z2,.complex .f64 z3 z4,sl Ka nk Kc]∧jb ⟨gt,gr,z1,z2,z3,z4,Ka,nk,Kc⟩∧Cs= [ja R gw])) (gw:Nat) (af:Addr) (f:Gv) (R:World→Prop) (b:fe) (hL:vx R (k_+1) f.a b) (hF:AM f.w f.h f.i f.t) (ZD:b.kids.length≤64):hO Cp 268 #[pv gw,.pointer (some ((cz (some af)).add (0*5)))] (fun U w=>Cn.gx (some af) [f] U w∧RF R U w) [ja R gw] (fun v Cs=> ∃A2 n2,∃(c2:Nat) (z:Int),v=.tuple #[sl A2 n2 c2,iv z]∧dD z∧Cs= [ja R gw]):=by
 refine kz [.k (ja R gw)] Tryz.func268 fun U w0 hp=>aa 15 fun _=>bd 310 (ad (some af) (0*5) 0) (.pointer (some ((cz (some f.a)).add (0*4)))) xV<|aa 2 fun _=>bd 208 (ad (some f.a) (0*4) 3) (sl b.Ak b.kids.length b.ck) Tx<|aa 4 fun _=>bG np ?_
 have RC:=hL.ok.len
 refine aR (σ:=Nat×OA×Nat×List nK) (fun (k,B,d,bo)=> [(0,pv gw),(1,.pointer (some ((cz (some af)).add (0*5)))),(4,sl none 0 0),(5,iv 0),(6,sl B bo.length d),(24,iv (b.kids.length:Int)),(25,iv k)]) qnm (fun (k,B,d,bo)=>k≤b.kids.length∧bo.length=k∧ ∀y∈bo,lS y) (fun (k,B,d,bo)=>b.kids.length-k) (0,none,0,[]) [0,1] ⟨bh _,rfl,by simp⟩ ?_
 rintro _ ⟨k,B,d,bo⟩ ⟨hk,ou,mh⟩ aB
 refine aa 5 fun _=>aq ((k:Int)<(b.kids.length:Int)) (fun h1=>?_) (fun h1=>?_)
 ·refine aa 13 fun _=>bd 310 (ad (some af) (0*5) 0) (.pointer (some ((cz (some f.a)).add (0*4)))) xV<|aa 2 fun _=>bd 208 (ad (some f.a) (0*4) 3) (sl b.Ak b.kids.length b.ck) Tx<|aa 1 fun _=>aV b.Ak b.kids.length (k:Int) 4 qgb<|Exists.elim (aw (xs:=b.kids) (k:=k) (by omega)) fun x2 e3=>ah (K_ ((cz b.Ak).add (k*4)) k_ x2 ((hL.gZ e3).ok)) [] R5 ?_
  rintro _ _ ⟨x4,rfl,f5,rfl⟩
  refine aa 1 fun pW=>bQ np 1 B d bo (so (pW 0)) 1 1 [x4] (fun w h=>h.eT 2 (pW 0) 391 (List.flatMap np.f [x4]) kr) (by omega) fun A7 c8=>aa 5 fun _=>ao 41 ((k:Int)+1)<|aa 2 fun _=>aB _ (k+1,A7,c8,bo++ [x4]) [0,1] kr ⟨by omega,by rw [bm,ou];rfl,fun y hy=>(eG.1 hy).elim (mh y) fun e=>by rw [fv.1 e];exact f5⟩ du
 ·refine aa 14 fun _=>ah (ON af f B d bo (k_+1) b hL.ok mh (by omega)) [] (fun w h=>⟨(hp.1.aE h.ch).rc,h.bg 1 B d bo kr,hL.at_ _ (hp.2 _ h.ch)⟩) ?_
  rintro _ _ ⟨A9,rA,xP,rfl,f12,rfl⟩
  have mO:=f12.1
  have ZE:=f12.2.1
  have oO:=f12.2.2
  refine aa 4 fun _=>bG rK<|bG NF<|bG az<|aJ (mA (oQ [])) [] [] (mA.nil fun _ o ho=>by simp at ho)<|aS NF 4 none 0 [] (([]:List sP).map (·.g)) kr rfl<|aR (σ:=Nat×OA×Nat×List jc×OA×Nat×List sP×OA×Nat×List Int) (fun (j,F,f1,ks,C,e1,os,D,d1,cr)=> [(0,pv gw),(1,.pointer (some ((cz (some af)).add (0*5)))),(4,sl F ks.length f1),(5,iv 0),(6,sl B bo.length d),(8,sl C ((os.map (·.g)).length) e1),(9,sl D cr.length d1),(44,sl A9 xP.length rA),(45,iv (xP.length:Int)),(46,iv j)]) (fun (j,F,f1,ks,C,e1,os,D,d1,cr)=> [.k (ja R gw),.k (np.row B d bo),.k (az.row A9 rA xP),.k (rK.row F f1 ks),.k (NF.row C e1 (os.map (·.g))),.k (az.row D d1 cr),.k (La os)]) (fun (j,F,f1,ks,C,e1,os,D,d1,cr)=>DA xP j ks.length os cr) (fun (j,F,f1,ks,C,e1,os,D,d1,cr)=>xP.length-j) (0,none,0,[],none,0,[],none,0,[]) [0,1,2,3,7,5,6] (DA.nil _) ?_
  rintro _ ⟨j,F,f1,ks,C,e1,os,D,d1,cr⟩ nv dG
  have NZ:=nv.jl
  have vh:=nv.ol
  have vP:=nv.cl
  have AN:=nv.kl
  have hmp:(os.map (·.g)).length=os.length:=cM _
  have asd:=n' ZE j
  refine aa 5 fun _=>aq ((j:Int)<(xP.length:Int)) (fun ki=>?_) (fun ki=>?_)
  ·refine aa 5 fun _=>aV A9 xP.length (j:Int) 1 (fun w h=>Kd.cd (K:=az) (xs:=xP) (h.bg 2 A9 rA xP kr) (by omega))<|Exists.elim (aw (xs:=xP) (k:=j) (by omega)) fun iV vm=>bd 3 (ad A9 (j*1) 0) (iv iV) (fun w h=>bW (K:=az) (h.bg 2 A9 rA xP kr) vm)<|aa 13 fun _=>ao (e:=by have IL:=ZE _ (aI vm);have Lb:=n' ZE (j+1);rw [pX vm] at Lb;have AN:=nv.kl;omega) 58 ((ks.length:Int)+iV)<|dN (φ:=bo.length≤d) (fun w h=>h.mR (K:=np) 1 B d bo kr) fun ase=>?_
   have IL:=ZE _ (aI vm)
   have Lb:=n' ZE (j+1)
   rw [pX vm] at Lb
   have AN:=nv.kl
   refine fC (hh:=⟨.i64,by rw [iR (by omega)]⟩) B bo.length d 5 ks.length (((ks.length:Int)+iV).toNat) (some (iv (ks.length:Int))) (some (iv ((ks.length:Int)+iV))) (⟨_,rfl⟩) (by omega) (by omega) ?_
   have IW:((bo.drop ks.length).take (((ks.length:Int)+iV).toNat-ks.length)).length=iV.toNat:=by rw [b0,cL,fD (by omega)];omega
   refine aC 59 (sl (dS B d ks.length 5) (((bo.drop ks.length).take (((ks.length:Int)+iV).toNat-ks.length)).length) (d-ks.length)) (sl (dS B d ks.length 5) (((ks.length:Int)+iV).toNat-ks.length) (d-ks.length)) qkk<|aa 10 fun kQ=>bD (UA k_ ih gw af f (kQ 1) R b ks.length (dS B d ks.length 5) (d-ks.length) ((bo.drop ks.length).take (((ks.length:Int)+iV).toNat-ks.length)) hL hF (fun y hy=>mh y (lH (gU hy))) (by omega) (by omega)) [0,7] (fun w F h=>⟨hp.1.ew h,hp.2.ew h,Kd.ZF (Kd.KU (h.F8 1 B d bo kr) (by omega))⟩) ?_
   rintro _ _ ⟨yF,zM,Lc,yM,yN,yO,yP,yQ,fg,uC,rfl,f28,f29,f30,f31,f32,f33,rfl⟩
   refine dB 9 (kQ 1) 397 [iv (ks.length:Int),sl (dS B d ks.length 5) (((bo.drop ks.length).take (((ks.length:Int)+iV).toNat-ks.length)).length) (d-ks.length),sl yM yO.length yN,sl yP fg.length yQ,iv uC] ?_
   have NC:=f28
   refine bQ rK 3 F f1 ks yF Lc.length zM Lc (fun w h=>h.bg 10 yF zM Lc kr) (by omega) fun A34 c35=>aa 2 fun _=>aO [(3,_),(10,_)] [9] ⟨ib NF 4 (fun vs=>C) (fun vs=>e1) (fun vs=>os.map (·.g)) (fun vs=>some ⟨(a5 (vs 2)),0,none⟩) (fun vs=>1) (fun vs=>1) (fun vs=> [(kQ 1)]) (fun vs w h=>h.eT 12 (a5 (vs 2)) 395 (List.flatMap NF.f [(kQ 1)]) kr),ib az 5 (fun vs=>D) (fun vs=>d1) (fun vs=>cr) (fun vs=>some ⟨(a5 (vs 9)),0,none⟩) (fun vs=>1) (fun vs=>1) (fun vs=> [uC]) (fun vs w h=>h.eT 13 (a5 (vs 9)) 3 (List.flatMap az.f [uC]) kr),trivial⟩ fun EO=>aa 3 fun _=>ao 79 ((j:Int)+1)<|aa 2 fun _=>aJ (mA (oQ (os++ [(⟨(kQ 1),ks.length,dS B d ks.length 5,((bo.drop ks.length).take (((ks.length:Int)+iV).toNat-ks.length)).length,d-ks.length,yM,yO,yN,yP,fg,yQ,uC⟩:sP)]))) [6,9,11,12] [La os,bJ (kQ 1) 397 [iv (ks.length:Int),sl (dS B d ks.length 5) (((bo.drop ks.length).take (((ks.length:Int)+iV).toNat-ks.length)).length) (d-ks.length),sl yM yO.length yN,sl yP fg.length yQ,iv uC],az.row yM yN yO,az.row yP yQ fg] (Ld (o:=(⟨(kQ 1),ks.length,dS B d ks.length 5,((bo.drop ks.length).take (((ks.length:Int)+iV).toNat-ks.length)).length,d-ks.length,yM,yO,yN,yP,fg,yQ,uC⟩:sP)))<|aS NF 14 (ak (EO 3)) (an (EO 3)) (os.map (·.g)++ [(kQ 1)]) ((os++ [(⟨(kQ 1),ks.length,dS B d ks.length 5,((bo.drop ks.length).take (((ks.length:Int)+iV).toNat-ks.length)).length,d-ks.length,yM,yO,yN,yP,fg,yQ,uC⟩:sP)]).map (·.g)) kr Y7<|aC 8 (sl (ak (EO 3)) (((os++ [(⟨(kQ 1),ks.length,dS B d ks.length 5,((bo.drop ks.length).take (((ks.length:Int)+iV).toNat-ks.length)).length,d-ks.length,yM,yO,yN,yP,fg,yQ,uC⟩:sP)]).map (·.g)).length) (an (EO 3))) (sl (ak (EO 3)) ((os.map (·.g)++ [(kQ 1)]).length) (an (EO 3))) Y7 ?_
   have ji:=nv.step (k:=Lc.length) vm (by omega) f33 (o:=(⟨(kQ 1),ks.length,dS B d ks.length 5,((bo.drop ks.length).take (((ks.length:Int)+iV).toNat-ks.length)).length,d-ks.length,yM,yO,yN,yP,fg,yQ,uC⟩:sP)) ⟨by dsimp only;omega,f29,f30,f31,f32⟩
   rw [← bm] at ji
   exact dG _ (j+1,A34,c35,ks++Lc,ak (EO 3),an (EO 3),os++ [(⟨(kQ 1),ks.length,dS B d ks.length 5,((bo.drop ks.length).take (((ks.length:Int)+iV).toNat-ks.length)).length,d-ks.length,yM,yO,yN,yP,fg,yQ,uC⟩:sP)],ak (EO 10),an (EO 10),cr++ [uC]) [8,1,2,3,18,16,17] kr ji du
  ·refine aa 7 fun _=>bd 310 (ad (some af) (0*5) 0) (.pointer (some ((cz (some f.a)).add (0*4)))) xV<|ah (lC f.a (k_+1) b 14 hL.ok sK) [] qi6 ?_
   rintro _ _ ⟨rfl,rfl⟩
   refine ah (CY D d1 cr (bM b 14) nv.cr_ sK (by have:=nv.cl;have:=nv.jl;omega)) [] (fun w h=>h.bg 5 D d1 cr kr) ?_
   rintro _ _ ⟨NG,Se,rfl,rfl⟩
   refine aa 10 fun _=>aR (σ:=Nat×List jc) (fun (q,nz)=> [(1,.pointer (some ((cz (some af)).add (0*5)))),(4,sl F ks.length f1),(5,iv 0),(9,sl D cr.length d1),(13,sl NG ((fP [(bM b 14)] 0 cr).length) Se),(87,sl C ((os.map (·.g)).length) e1),(88,iv ((os.map (·.g)).length:Int)),(89,iv q)]) (fun (q,nz)=> [.k (ja R gw),.k (np.row B d bo),.k (az.row A9 rA xP),.k (NF.row C e1 (os.map (·.g))),.k (az.row D d1 cr),.k (La os),.k (az.row NG Se (fP [(bM b 14)] 0 cr)),.k (rK.row F f1 nz)]) (fun (q,nz)=>q≤os.length∧nz.length=ks.length) (fun (q,nz)=>os.length-q) (0,ks) [0,1,2,4,5,6,7,3] ⟨bh _,rfl⟩ ?_
   rintro _ ⟨q,nz⟩ ⟨hq,sE⟩ jr
   have OF:(fP [bM b 14] 0 cr).length=cr.length:=jo _ _ _
   refine aa 5 fun _=>aq ((q:Int)<((os.map (·.g)).length:Int)) (fun O3=>?_) (fun O3=>?_)
   ·refine aa 6 fun _=>aV C ((os.map (·.g)).length) (q:Int) 1 (fun w h=>Kd.cd (K:=NF) (xs:=os.map (·.g)) (h.bg 3 C e1 (os.map (·.g)) kr) (by omega))<|Exists.elim (aw (xs:=os.map (·.g)) (k:=q) (by omega)) fun jM GY=>bd 395 (ad C (q*1) 0) (.pointer (some ((cz (so jM)).add (0*5)))) (fun w h=>bW (K:=NF) (h.bg 3 C e1 (os.map (·.g)) kr) GY)<|aa 8 fun _=>Exists.elim (UB GY) fun o6 Du=>?_
    have uD:=nv.on _ (aI Du.1)
    have agq:=uD.fn
    have agr:=uD.xl
    have ags:=uD.yl
    refine bd 389 (ad (so jM) (0*5) 1) (sl o6.Ai o6.n o6.ci) (fun w h=>bW (K:=Zc) (oQ.at (os:=os) (h.gr 5 kr) Du) rfl)<|aa 4 fun _=>aR (σ:=Nat×List jc) (fun (i,Ff)=> [(1,.pointer (some ((cz (some af)).add (0*5)))),(4,sl F ks.length f1),(5,iv 0),(9,sl D cr.length d1),(13,sl NG ((fP [(bM b 14)] 0 cr).length) Se),(14,iv q),(15,.pointer (some ((cz (so jM)).add (0*5)))),(87,sl C ((os.map (·.g)).length) e1),(88,iv ((os.map (·.g)).length:Int)),(89,iv q),(90,.bool (decide ((q:Int)<((os.map (·.g)).length:Int)))),(98,iv (o6.n:Int)),(99,iv i)]) (fun (i,Ff)=> [.k (ja R gw),.k (np.row B d bo),.k (az.row A9 rA xP),.k (NF.row C e1 (os.map (·.g))),.k (az.row D d1 cr),.k (La os),.k (az.row NG Se (fP [(bM b 14)] 0 cr)),.k (rK.row F f1 Ff)]) (fun (i,Ff)=>i≤o6.n∧Ff.length=ks.length) (fun (i,Ff)=>o6.n-i) (0,nz) [0,1,2,3,4,5,6,7] ⟨bh _,sE⟩ ?_
    rintro _ ⟨i,Ff⟩ ⟨hi,hk3⟩ pg
    refine aa 5 fun _=>aq ((i:Int)<(o6.n:Int)) (fun JE=>?_) (fun JE=>?_)
    ·refine aa 8 fun _=>Exists.elim (aw (xs:=o6.xs) (k:=i) (by omega)) fun Bz Pe=>Exists.elim (aw (xs:=fP [(bM b 14)] 0 cr) (k:=q) (by omega)) fun yR Hl=>Exists.elim (aw (xs:=o6.ys) (k:=i) (by omega)) fun w9 Pf=>Exists.elim (aw (xs:=b.kids) (k:=((o6.fr:Int)+(i:Int)).toNat) (by omega)) fun IM ZG=>Exists.elim (aw (xs:=Ff) (k:=((o6.fr:Int)+(i:Int)).toNat) (by omega)) fun DB e54=>aO [(4,_),(6,_),(11,_),(14,_),(18,_),(20,_),(21,_),(25,_),(27,_),(28,_),(31,_),(32,_),(36,_),(38,_),(39,_),(41,_),(42,_),(43,_),(45,_)] [] ⟨qus,qql,OE,qcc,qus,qql,br (fun vs=>b.Ak) (fun vs=>b.kids.length) (fun vs=>(o6.fr:Int)+(i:Int)) 4 qdt,cZ 32 (fun vs=>ad (so jM) (0*5) 2) (fun vs=>sl o6.Ax o6.xs.length o6.cx) qex,br (fun vs=>o6.Ax) (fun vs=>o6.xs.length) (fun vs=>(i:Int)) 1 (fun vs w h=>Kd.cd (K:=az) (xs:=o6.xs) (oQ.ax (os:=os) (h.gr 5 kr) Du) (by omega)),cZ 3 (fun vs=>((cz o6.Ax).add (i*1)).add 0) (fun vs=>iv Bz) (fun vs w h=>bW (K:=az) (oQ.ax (os:=os) (h.gr 5 kr) Du) Pe),br (fun vs=>NG) (fun vs=>(fP [(bM b 14)] 0 cr).length) (fun vs=>(q:Int)) 1 (fun vs w h=>Kd.cd (K:=az) (xs:=fP [(bM b 14)] 0 cr) (h.bg 6 NG Se (fP [(bM b 14)] 0 cr) kr) (by omega)),cZ 3 (fun vs=>ad NG (q*1) 0) (fun vs=>iv yR) (fun vs w h=>bW (K:=az) (h.bg 6 NG Se (fP [(bM b 14)] 0 cr) kr) Hl),cZ 32 (fun vs=>ad (so jM) (0*5) 3) (fun vs=>sl o6.Ay o6.ys.length o6.cy) qex,br (fun vs=>o6.Ay) (fun vs=>o6.ys.length) (fun vs=>(i:Int)) 1 (fun vs w h=>Kd.cd (K:=az) (xs:=o6.ys) (oQ.ay (os:=os) (h.gr 5 kr) Du) (by omega)),cZ 3 (fun vs=>((cz o6.Ay).add (i*1)).add 0) (fun vs=>iv w9) (fun vs w h=>bW (K:=az) (oQ.ay (os:=os) (h.gr 5 kr) Du) Pf),aY (fun vs=>iN yR (some ⟨(a5 (vs 40)),0,none⟩) 1 [w9] (lF _ Ri _ (aI Hl)) (jq (uD.yr _ (aI Pf))) Is) [] (fun vs=>iv (bu yR [w9])) [] (fun vs w h=>h.eT 8 (a5 (vs 40)) 3 (List.flatMap az.f [w9]) kr) ko,aY (fun vs=>J0 af f ((cz b.Ak).add ((((o6.fr:Int)+(i:Int)).toNat)*4)) k_ IM Bz (bu yR [w9]) (k_+1) b hL.ok ((hL.gZ ZG).ok) (uD.xr _ (aI Pe)) (dp (lF _ Ri _ (aI Hl)) _)) [] (fun vs=>.complex .f64 (floatOfInt .f64 (bu (bM b 13) [Bz,bM IM 12])) (floatOfInt .f64 (bu (bM b 13) [(bu yR [w9]),bM IM 12]))) [] (fun vs w h=>⟨(hp.1.aE h.ch).rc,(hL.gZ ZG).at_ _ (hp.2 _ h.ch),hL.at_ _ (hp.2 _ h.ch)⟩) ko,br (fun vs=>F) (fun vs=>ks.length) (fun vs=>(o6.fr:Int)+(i:Int)) 5 (fun vs w h=>Kd.cd (K:=rK) (xs:=Ff) (h.bg 7 F f1 Ff kr) (by omega)),cR rK 7 (fun vs=>F) (fun vs=>f1) (fun vs=>Ff) (((o6.fr:Int)+(i:Int)).toNat) 2 (fun vs=>DB) (fun vs=>(⟨DB.t,DB.r,floatOfInt .f64 (bu (bM b 13) [Bz,bM IM 12]),floatOfInt .f64 (bu (bM b 13) [(bu yR [w9]),bM IM 12]),DB.z3,DB.z4,DB.Ka,DB.nk,DB.Kc⟩:jc)) 83 (fun vs=>.complex .f64 (floatOfInt .f64 (bu (bM b 13) [Bz,bM IM 12])) (floatOfInt .f64 (bu (bM b 13) [(bu yR [w9]),bM IM 12]))) (fun _=>e54),trivial⟩ fun v55=>aa 3 fun _=>ao 147 ((i:Int)+1)<|aa 2 fun _=>pg _ (i+1,Ff.set (((o6.fr:Int)+(i:Int)).toNat) (⟨DB.t,DB.r,floatOfInt .f64 (bu (bM b 13) [Bz,bM IM 12]),floatOfInt .f64 (bu (bM b 13) [(bu yR [w9]),bM IM 12]),DB.z3,DB.z4,DB.Ka,DB.nk,DB.Kc⟩:jc)) [0,1,2,3,4,5,6,9] kr ⟨by omega,by rw [cX];exact hk3⟩ du
    ·refine aa 4 fun _=>ao 148 ((q:Int)+1)<|aa 2 fun _=>jr _ (q+1,Ff) [0,1,2,3,4,5,6,7] kr ⟨by omega,hk3⟩ du
   ·refine aa 6 fun _=>ah (Js NG Se (fP [(bM b 14)] 0 cr) D d1 cr (lF _ Ri) nv.cr_ (⟨jo _ _ _,by rw [jo];have:=nv.cl;have:=nv.jl;omega⟩)) [] (fun w h=>⟨h.bg 6 NG Se (fP [(bM b 14)] 0 cr) kr,h.bg 4 D d1 cr kr⟩) ?_
    rintro _ _ ⟨z56,rfl,f57,rfl⟩
    refine aa 3 fun _=>a_ [0] ⟨F,ks.length,f1,z56,kr,f57.1,kr⟩
def Vb (k_:Nat) (ih: ∀(gw:Nat) (ab:Addr) (b:fe) (av qw qh:Int) (R:World→Prop) (hL:vx R k_ ab b) (Nm:dD av) (Nn: -1≤qw∧qw≤1099511627776) (Np: -1≤qh∧qh≤1099511627776),hO Cp 211 #[pv gw,.agg #[.pointer (some ((cz (some ab)).add (0*4))),iv av,iv qw,iv qh]] (fun U w=>RF R U w) [ja R gw] (fun v Cs=> ∃(gt gr:Int) (z1 z2 z3 z4:Nat),∃Ka nk,∃(Kc:Nat),v=.agg #[iv gt,iv gr,.complex .f64 z1 z2,.complex .f64 z3 z4,sl Ka nk Kc]∧jb ⟨gt,gr,z1,z2,z3,z4,Ka,nk,Kc⟩∧Cs= [ja R gw])) (gw:Nat) (af:Addr) (f:Gv) (R:World→Prop) (b:fe) (hL:vx R (k_+1) f.a b) (hF:AM f.w f.h f.i f.t):hO Cp 244 #[pv gw,.pointer (some ((cz (some af)).add (0*5)))] (fun U w=>Cn.gx (some af) [f] U w∧RF R U w) [ja R gw] (fun v Cs=> ∃A2 n2,∃(c2:Nat) (z:Int),v=.tuple #[sl A2 n2 c2,iv z]∧dD z∧Cs= [ja R gw]):=by
 refine kz [.k (ja R gw)] Tryz.func244 fun U w0 hp=>aa 12 fun _=>bd 310 (ad (some af) (0*5) 0) (.pointer (some ((cz (some f.a)).add (0*4)))) xV<|ah (lC f.a (k_+1) b 0 hL.ok sK) [] qi6 ?_
 rintro _ _ ⟨rfl,rfl⟩
 refine aa 2 fun _=>eV 13 ((bM b 0)=1) (fun h1=>?_) (fun h1=>?_)
 ·refine aa 17 fun _=>bD (EL k_ ih gw af f R b hL hF) [0] qhj ?_
  rintro _ _ ⟨A2,n3,c4,z5,rfl,f6,rfl⟩
  refine aa 5 fun _=>a_ [1] ⟨A2,n3,c4,z5,kr,f6,kr⟩
 ·refine aa 3 fun _=>bd 310 (ad (some af) (0*5) 0) (.pointer (some ((cz (some f.a)).add (0*4)))) xV<|aa 2 fun _=>bd 208 (ad (some f.a) (0*4) 3) (sl b.Ak b.kids.length b.ck) Tx<|aa 5 fun _=>aq ((b.kids.length:Int)>64) (fun h7=>?_) (fun h7=>?_)
  ·refine aa 4 fun _=>bD (EL k_ ih gw af f R b hL hF) [0] qhj ?_
   rintro _ _ ⟨A8,n9,rA,z11,rfl,f12,rfl⟩
   refine aa 5 fun _=>a_ [1] ⟨A8,n9,rA,z11,kr,f12,kr⟩
  ·refine aa 5 fun _=>bd 310 (ad (some af) (0*5) 0) (.pointer (some ((cz (some f.a)).add (0*4)))) xV<|ah (lC f.a (k_+1) b 1 hL.ok sK) [] qi6 ?_
   rintro _ _ ⟨rfl,rfl⟩
   refine aa 3 fun _=>aq ((bM b 1)=0) (fun ki=>?_) (fun ki=>?_)
   ·refine aa 4 fun _=>bD (ZC k_ ih gw af f R b hL hF sK) [0] qhj ?_
    rintro _ _ ⟨GG,n15,wk,EN,rfl,f18,rfl⟩
    refine aa 5 fun _=>a_ [1] ⟨GG,n15,wk,EN,kr,f18,kr⟩
   ·refine aa 6 fun _=>bD (Lx k_ ih gw af f R b hL hF sK) [0] qhj ?_
    rintro _ _ ⟨A19,n20,AW,z22,rfl,f23,rfl⟩
    refine aa 5 fun _=>a_ [1] ⟨A19,n20,AW,z22,kr,f23,kr⟩
def Vc (k_:Nat) (ih: ∀(gw:Nat) (ab:Addr) (b:fe) (av qw qh:Int) (R:World→Prop) (hL:vx R k_ ab b) (Nm:dD av) (Nn: -1≤qw∧qw≤1099511627776) (Np: -1≤qh∧qh≤1099511627776),hO Cp 211 #[pv gw,.agg #[.pointer (some ((cz (some ab)).add (0*4))),iv av,iv qw,iv qh]] (fun U w=>RF R U w) [ja R gw] (fun v Cs=> ∃(gt gr:Int) (z1 z2 z3 z4:Nat),∃Ka nk,∃(Kc:Nat),v=.agg #[iv gt,iv gr,.complex .f64 z1 z2,.complex .f64 z3 z4,sl Ka nk Kc]∧jb ⟨gt,gr,z1,z2,z3,z4,Ka,nk,Kc⟩∧Cs= [ja R gw])) (gw:Nat) (ab:Addr) (b:fe) (av qw qh:Int) (R:World→Prop) (hL:vx R (k_+1) ab b) (Nm:dD av) (Nn: -1≤qw∧qw≤1099511627776) (Np: -1≤qh∧qh≤1099511627776):hO Cp 211 #[pv gw,.agg #[.pointer (some ((cz (some ab)).add (0*4))),iv av,iv qw,iv qh]] (fun U w=>RF R U w) [ja R gw] (fun v Cs=> ∃(gt gr:Int) (z1 z2 z3 z4:Nat),∃Ka nk,∃(Kc:Nat),v=.agg #[iv gt,iv gr,.complex .f64 z1 z2,.complex .f64 z3 z4,sl Ka nk Kc]∧jb ⟨gt,gr,z1,z2,z3,z4,Ka,nk,Kc⟩∧Cs= [ja R gw]):=by
 refine kz [.k (ja R gw)] Tryz.func211 fun U w0 hp=>aa 7 fun a8=>bn (φ:=fun Cs=> ∃m,Cs= [bJ gw 314 [.map (some m)],mapA m R]) 0 ?_
 rintro _ ⟨m2,rfl⟩
 refine dB 3 gw 314 [.map (some m2)]<|aO [(5,_)] [3,1,6] ⟨ag3 R m2 ab av qw qh 4 (fun _=>kr) hL.ky (fun w hc=>hp w hc),trivial⟩ fun v3=>dN (φ:=(LkF (v3 5))) (fun w h=>h.fa 5 kr) fun Db=>aa 4 fun _=>eQ (_t (tp (v3 5) 1)) (fun h4=>?_) (fun h4=>?_)
 ·refine ae 5 [7,2] fun _=>aJ (fun Cs=> ∃m,Cs= [bJ gw 314 [.map (some m)],mapA m R]) [3,4] qqd (⟨m2,rfl⟩)<|bk [2] [8] ⟨dH (ag (tp (v3 5) 0) 0),dH (ag (tp (v3 5) 0) 1),dK (ag (tp (v3 5) 0) 2),dL (ag (tp (v3 5) 0) 2),dK (ag (tp (v3 5) 0) 3),dL (ag (tp (v3 5) 0) 3),ak (ag (tp (v3 5) 0) 4),(eI (ag (tp (v3 5) 0) 4)),an (ag (tp (v3 5) 0) 4),kr,Db h4,kr⟩
 ·refine ae 4 [1] fun _=>ah (OP ab (k_+1) b av qw qh hL.ok sK sK sK) [] qr9 ?_
  rintro _ _ ⟨Ft,PW,fi7,ft8,rfl,f9,rfl⟩
  have Hn:=f9
  refine ae 6 [8] fun yd=>aJ (fun Cs=> ∃m,Cs= [bJ gw 314 [.map (some m)],mapA m R]) [3,4] qqd (⟨m2,rfl⟩)<|bD (Vb k_ ih gw (⟨(yd 0),0,none⟩) (⟨ab,Ft,PW,fi7,ft8⟩:Gv) R b hL Hn) [9] (fun w F h=>⟨h.fcB 8 (yd 0) 350 (List.flatMap Cn.f [(⟨ab,Ft,PW,fi7,ft8⟩:Gv)]) kr,hp.ew h⟩) ?_
  rintro _ _ ⟨rI,n12,mD,NM,rfl,f15,rfl⟩
  have hz9:=f15
  refine ae 13 [8] fun _=>aq (PW=(-1)) (fun AF=>?_) (fun AF=>?_)
  ·refine ae 4 [1] fun _=>ah (lC ab (k_+1) b 13 hL.ok sK) [] qr9 ?_
   rintro _ _ ⟨rfl,rfl⟩
   refine aa 2 fun _=>aO [(6,_),(8,_),(9,_)] [1,8] ⟨aY (fun vs=>iN (bM b 13) (some ⟨(a5 (vs 5)),0,none⟩) 1 [bM b 13] ((hL.ok.rg (by omega)).1) (jq ((hL.ok.rg (by omega)).1)) Is) [] (fun vs=>iv (bu (bM b 13) [bM b 13])) [] (fun vs w h=>h.eT 11 (a5 (vs 5)) 3 (List.flatMap az.f [bM b 13]) kr) ko,aY (fun vs=>iN NM (some ⟨(a5 (vs 7)),0,none⟩) 1 [bu (bM b 13) [bM b 13]] hz9 (jq (dp (hL.ok.rg (by omega)).1 _)) Is) [] (fun vs=>iv (bu NM [bu (bM b 13) [bM b 13]])) [] (fun vs w h=>h.eT 12 (a5 (vs 7)) 3 (List.flatMap az.f [bu (bM b 13) [bM b 13]]) kr) ko,aY (fun vs=>CW ab (k_+1) b (bu NM [bu (bM b 13) [bM b 13]]) hL.ok) [] (fun vs=>iv (cF (bu NM [bu (bM b 13) [bM b 13]]) (bM b 7) (bM b 8))) [] (fun vs w h=>hL.at_ _ (hp _ h.ch)) ko,trivial⟩ fun DR=>aa 1 fun _=>aO [(4,_),(9,_)] [1,13,13,14] ⟨qga,aY (fun vs=>C9 Ft (cF (bu NM [bu (bM b 13) [bM b 13]]) (bM b 7) (bM b 8))) [] (fun vs=>.complex .f64 (floatOfInt .f64 Ft) (floatOfInt .f64 (cF (bu NM [bu (bM b 13) [bM b 13]]) (bM b 7) (bM b 8)))) [] nE ko,trivial⟩ fun zD=>aa 1 fun _=>bn (φ:=fun Cs=> ∃m,Cs= [bJ gw 314 [.map (some m)],mapA m R]) 10 ?_
   rintro _ ⟨_v,rfl⟩
   refine dB 16 gw 314 [.map (some _v)]<|aO [(6,_)] [16,1,15] ⟨_w R _v ab av qw qh (fun vs=>(⟨b.id.t,b.id.r,0,0,floatOfInt .f64 Ft,floatOfInt .f64 (cF (bu NM [bu (bM b 13) [bM b 13]]) (bM b 7) (bM b 8)),rI,n12,mD⟩:jc)) 17 (fun _=>kr) hL.ky (fun w hc=>hp w hc) (fun _=>jb.of (a:=Ft) (b:=(cF (bu NM [bu (bM b 13) [bM b 13]]) (bM b 7) (bM b 8))) rfl rfl Hn.w_ qfw),trivial⟩ fun v20=>ae 5 [15,2] fun _=>aJ (fun Cs=> ∃m,Cs= [bJ gw 314 [.map (some m)],mapA m R]) [16,18] [bJ gw 314 [.map (some _v)],mapA _v R] (⟨_v,rfl⟩)<|bk [2] [19] ⟨b.id.t,b.id.r,0,0,floatOfInt .f64 Ft,floatOfInt .f64 (cF (bu NM [bu (bM b 13) [bM b 13]]) (bM b 7) (bM b 8)),rI,n12,mD,kr,jb.of (a:=Ft) (b:=(cF (bu NM [bu (bM b 13) [bM b 13]]) (bM b 7) (bM b 8))) rfl rfl Hn.w_ qfw,kr⟩
  ·refine aa 2 fun _=>aO [(4,_),(9,_)] [1,8,8,11] ⟨qga,aY (fun vs=>C9 Ft PW) [] (fun vs=>.complex .f64 (floatOfInt .f64 Ft) (floatOfInt .f64 PW)) [] nE ko,trivial⟩ fun gW=>aa 1 fun _=>bn (φ:=fun Cs=> ∃m,Cs= [bJ gw 314 [.map (some m)],mapA m R]) 10 ?_
   rintro _ ⟨_x,rfl⟩
   refine dB 13 gw 314 [.map (some _x)]<|aO [(6,_)] [13,1,12] ⟨_w R _x ab av qw qh (fun vs=>(⟨b.id.t,b.id.r,0,0,floatOfInt .f64 Ft,floatOfInt .f64 PW,rI,n12,mD⟩:jc)) 14 (fun _=>kr) hL.ky (fun w hc=>hp w hc) (fun _=>jb.of (a:=Ft) (b:=PW) rfl rfl Hn.w_ qfw),trivial⟩ fun ud=>ae 5 [12,2] fun _=>aJ (fun Cs=> ∃m,Cs= [bJ gw 314 [.map (some m)],mapA m R]) [13,15] [bJ gw 314 [.map (some _x)],mapA _x R] (⟨_x,rfl⟩)<|bk [2] [16] ⟨b.id.t,b.id.r,0,0,floatOfInt .f64 Ft,floatOfInt .f64 PW,rI,n12,mD,kr,jb.of (a:=Ft) (b:=PW) rfl rfl Hn.w_ qfw,kr⟩
def XJ: ∀(k_ gw:Nat) (ab:Addr) (b:fe) (av qw qh:Int) (R:World→Prop) (hL:vx R k_ ab b) (Nm:dD av) (Nn: -1≤qw∧qw≤1099511627776) (Np: -1≤qh∧qh≤1099511627776),hO Cp 211 #[pv gw,.agg #[.pointer (some ((cz (some ab)).add (0*4))),iv av,iv qw,iv qh]] (fun U w=>RF R U w) [ja R gw] (fun v Cs=> ∃(gt gr:Int) (z1 z2 z3 z4:Nat),∃Ka nk,∃(Kc:Nat),v=.agg #[iv gt,iv gr,.complex .f64 z1 z2,.complex .f64 z3 z4,sl Ka nk Kc]∧jb ⟨gt,gr,z1,z2,z3,z4,Ka,nk,Kc⟩∧Cs= [ja R gw]):=by
 intro k_
 induction k_ with
 |zero=>intro _ _ _ _ _ _ _ h;exact h.ok.elim
 |succ k_ ih=>exact Vc k_ ih

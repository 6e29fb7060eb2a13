/- For the law of worlds: The layout. -/
import Derived.Test.YtfookmefmjhonaaGreatZ33
set_option linter.all false
namespace Go.Proofs.YtfookmefmjhonaaGreat.My
open Go.RowKit Go.bE
def Uq {l:List Int} {i:Nat} {x:Int} (h: ∀y∈l,dD y) (hx:dD x): ∀y∈l.set i x,dD y:=fun y hy=>(List.mem_or_eq_of_mem_set hy).elim (h y) fun e=>by rw [e];exact hx
def yH {it:nK} {z:Int} (h:lS it) (hz:0≤z∧z≤1099511627776):dD (cF z it.lo it.hi)∧ -2199023255552≤cF z it.lo it.hi-z∧cF z it.lo it.hi-z≤2199023255552:=by
 have h1:=py (rg_of hz) (rg_of h.lo) h.hi
 exact ⟨h1,by unfold dD at h1;omega,by unfold dD at h1;omega⟩
def OM (g:Nat) (w6:OA) (cos:Nat) (os:List Int) (Ai:OA) (ci:Nat) (bo:List nK) (gp rm:Int) (gr:Bool) (As:OA) (cs:Nat) (ss:List Int) (Af:OA) (cf:Nat) (fx:List Bool) (mh: ∀y∈bo,lS y) (ou:bo.length≤64) (hg:0≤gp∧gp≤1099511627776) (hr:dD rm) (Pt:ss.length=bo.length) (Dn: ∀y∈ss,dD y) (Cr:fx.length=bo.length) (gX:mz fx fx.length os) (WB: ∀(i:Nat) (x:nK),fx[i]? =some false→bo[i]? =some x→1≤vK gr x) (rz:0<os.length):hO Cp 319 #[pv g,sl w6 os.length cos] (fun U w=>az.gx w6 os U w∧np.gx Ai bo U w) [bJ g 420 [sl Ai bo.length ci,iv gp,iv rm,.bool gr,sl As ss.length cs,sl Af fx.length cf],az.row As cs ss,pJ.row Af cf fx] (fun v Cs=> ∃(vp:List Int),∃Sb,v=.tuple #[]∧vp.length=bo.length∧(∀y∈vp,dD y)∧Sb.length=bo.length∧(∀i:Nat,fx[i]? =some true→Sb[i]? =some true)∧Sb.count false<fx.count false∧Cs= [bJ g 420 [sl Ai bo.length ci,iv gp,iv rm,.bool gr,sl As ss.length cs,sl Af fx.length cf],az.row As cs vp,pJ.row Af cf Sb]):=by
 refine kz [.b g 420 [sl Ai bo.length ci,iv gp,iv rm,.bool gr,sl As ss.length cs,sl Af fx.length cf],.k (az.row As cs ss),.k (pJ.row Af cf fx)] Tryz.func319 fun U w0 hp=>aa 8 fun _=>ah (KY (⟨g,0,none⟩) (⟨Ai,bo.length,ci,gp,rm,gr,As,ss.length,cs,Af,fx.length,cf⟩:J5) w6 cos os bo ss fx mh rfl ou Dn (⟨rfl,Pt⟩) (⟨rfl,Cr⟩) hg hr gX WB rz) [] (fun w h=>⟨h.eT 0 g 420 (List.flatMap OK.f [(⟨Ai,bo.length,ci,gp,rm,gr,As,ss.length,cs,Af,fx.length,cf⟩:J5)]) kr,(hp.1.aE h.ch).rc,(hp.2.aE h.ch).rc,h.bg 1 As cs ss kr,h.bg 2 Af cf fx kr⟩) ?_
 rintro _ _ ⟨A1,c2,Bo,rfl,f4,f5,rfl⟩
 have NC:=f4
 have vh:=gX.len
 refine aa 10 fun _=>aR (σ:=Nat×List Int×List Int) (fun (k,ti,ds)=> [(0,pv g),(1,sl w6 os.length cos),(4,iv ds.sum),(5,sl A1 Bo.length c2),(14,sl w6 os.length cos),(15,iv (os.length:Int)),(16,iv k)]) (fun (k,ti,ds)=> [.b g 420 [sl Ai bo.length ci,iv gp,iv rm,.bool gr,sl As ss.length cs,sl Af fx.length cf],.k (az.row As cs ti),.k (pJ.row Af cf fx),.k (az.row A1 c2 Bo)]) (fun (k,ti,ds)=>k≤os.length∧ti.length=bo.length∧(∀y∈ti,dD y)∧uA os Bo ti k ds) (fun (k,ti,ds)=>os.length-k) (0,ss,[]) [0,1,2,3] ⟨bh _,Pt,Dn,uA.nil _ _ _⟩ ?_
 rintro _ ⟨k,ti,ds⟩ ⟨hk,Xf,S8,Hh⟩ aB
 refine aa 5 fun _=>aq ((k:Int)<(os.length:Int)) (fun h6=>?_) (fun h6=>?_)
 ·refine aa 6 fun _=>aV w6 os.length (k:Int) 1 qlf ?_
  obtain ⟨x7,e8⟩:=aw (xs:=os) (k:=k) (by omega)
  refine bd 3 (ad w6 (k*1) 0) (iv x7) (fun w h=>bW (K:=az) ((hp.1.aE h.ch).rc) e8)<|aa 4 fun _=>?_
  obtain ⟨x9,ng⟩:=aw (xs:=Bo) (k:=k) (by omega)
  obtain ⟨fW,wD⟩:=aw (xs:=bo) (k:=x7.toNat) W8
  obtain ⟨wH,zC⟩:=aw (xs:=ti) (k:=x7.toNat) W8
  refine aO [(7,_),(8,_),(14,_),(16,_),(22,_),(24,_),(25,_),(26,_),(27,_)] [0,0,0] ⟨br (fun vs=>A1) (fun vs=>Bo.length) (fun vs=>(k:Int)) 1 (fun vs w h=>Kd.cd (K:=az) (xs:=Bo) (h.bg 3 A1 c2 Bo kr) (by omega)),cZ 3 (fun vs=>ad A1 (k*1) 0) (fun vs=>iv x9) (fun vs w h=>bW (K:=az) (h.bg 3 A1 c2 Bo kr) ng),qfq,cZ 3 (fun vs=>ad Ai (x7.toNat*5) 1) (fun vs=>iv fW.lo) qnr,qfq,cZ 3 (fun vs=>ad Ai (x7.toNat*5) 2) (fun vs=>iv fW.hi) qnr,aY (fun vs=>pV x9 fW.lo fW.hi) [] (fun vs=>iv (cF x9 fW.lo fW.hi)) [] nE ko,br (hj:=fun _=>W8) (fun vs=>As) (fun vs=>ss.length) (fun vs=>x7) 1 (fun vs w h=>Kd.cd (K:=az) (xs:=ti) (h.bg 1 As cs ti kr) W8),cR az 1 (fun vs=>As) (fun vs=>cs) (fun vs=>ti) x7.toNat 0 (fun vs=>wH) (fun vs=>cF x9 fW.lo fW.hi) 3 (fun vs=>iv (cF x9 fW.lo fW.hi)) (fun _=>zC),trivial⟩ fun lQ=>?_
  obtain ⟨jD,yw⟩:=aw (xs:=ti.set x7.toNat (cF x9 fW.lo fW.hi)) (k:=x7.toNat) (by rw [cX];have:=gX.at e8;omega)
  refine aK [(6,_),(7,iv jD),(10,_),(11,iv x9),(12,_),(13,_)] [0] ⟨bF (hj:=by have:=gX.at e8;omega) As ss.length x7 1 (fun w h=>Kd.cd (K:=az) (xs:=ti.set x7.toNat (cF x9 fW.lo fW.hi)) (h.bg 4 As cs (ti.set x7.toNat (cF x9 fW.lo fW.hi)) kr) (by rw [cX];have:=gX.at e8;omega)),cB 3 (ad As (x7.toNat*1) 0) (fun w h=>bW (K:=az) (h.bg 4 As cs (ti.set x7.toNat (cF x9 fW.lo fW.hi)) kr) yw),bF A1 Bo.length (k:Int) 1 qk5,cB 3 (ad A1 (k*1) 0) (fun w h=>bW (K:=az) (h.bg 3 A1 c2 Bo kr) ng),fM (e:=by have:=f5 _ (aI ng);have hb3:=yH (mh _ (aI wD)) (f5 _ (aI ng));have Fa:=yw;rw [gO W8] at Fa;injection Fa with Fa;rw [← Fa];have JB:=Hh.sum (by omega);unfold dD at*;omega) (jD-x9),fM (e:=by have:=f5 _ (aI ng);have hb3:=yH (mh _ (aI wD)) (f5 _ (aI ng));have Fa:=yw;rw [gO W8] at Fa;injection Fa with Fa;rw [← Fa];have JB:=Hh.sum (by omega);unfold dD at*;omega) (ds.sum+(jD-x9)),trivial⟩ ?_
  refine aa 3 fun _=>ao (e:=by have JB:=Hh.sum (by omega);unfold dD at*;omega) 62 ((k:Int)+1)<|aa 2 fun _=>?_
  have hb3:=yH (mh _ (aI wD)) (f5 _ (aI ng))
  have zI:x7.toNat<ti.length:=by have:=gX.at e8;omega
  have Fa:=yw
  rw [gO zI] at Fa
  injection Fa with Fa
  refine aC 4 (iv ((ds++ [cF x9 fW.lo fW.hi-x9]).sum)) (iv (ds.sum+(jD-x9))) (by rw [tG,Fa])<|aB _ (k+1,ti.set x7.toNat (cF x9 fW.lo fW.hi),ds++ [cF x9 fW.lo fW.hi-x9]) [0,4,2,3] kr ⟨by omega,by rw [cX];exact Xf,Uq S8 hb3.1,Hh.step gX e8 ng zI hb3.2⟩ du
 ·refine aa 8 fun _=>aR (σ:=Nat×List Bool) (fun (j,fy)=> [(0,pv g),(4,iv ds.sum),(5,sl A1 Bo.length c2),(63,sl w6 os.length cos),(64,iv (os.length:Int)),(65,iv j)]) (fun (j,fy)=> [.b g 420 [sl Ai bo.length ci,iv gp,iv rm,.bool gr,sl As ss.length cs,sl Af fx.length cf],.k (az.row As cs ti),.k (pJ.row Af cf fy),.k (az.row A1 c2 Bo)]) (fun (j,fy)=>j≤os.length∧yI os ds fx fy j) (fun (j,fy)=>os.length-j) (0,fx) [0,1,2,3] ⟨bh _,yI.nil _ _ _⟩ ?_
  rintro _ ⟨j,fy⟩ ⟨hj,Cq⟩ dG
  refine aa 5 fun _=>aq ((j:Int)<(os.length:Int)) (fun vI=>?_) (fun vI=>?_)
  ·refine aa 6 fun _=>aV w6 os.length (j:Int) 1 qlf ?_
   obtain ⟨m0,rj⟩:=aw (xs:=os) (k:=j) (by omega)
   refine bd 3 (ad w6 (j*1) 0) (iv m0) (fun w h=>bW (K:=az) ((hp.1.aE h.ch).rc) rj)<|aa 4 fun _=>?_
   obtain ⟨sd,Hi⟩:=aw (xs:=ti) (k:=m0.toNat) qnd
   obtain ⟨vf,Et⟩:=aw (xs:=Bo) (k:=j) (by omega)
   refine aK [(5,_),(6,iv sd),(9,_),(10,iv vf),(11,_)] [0] ⟨bF (hj:=by have:=gX.at rj;omega) As ss.length m0 1 (fun w h=>Kd.cd (K:=az) (xs:=ti) (h.bg 1 As cs ti kr) qnd),cB 3 (ad As (m0.toNat*1) 0) (fun w h=>bW (K:=az) (h.bg 1 As cs ti kr) Hi),bF A1 Bo.length (j:Int) 1 qk5,cB 3 (ad A1 (j*1) 0) (fun w h=>bW (K:=az) (h.bg 3 A1 c2 Bo kr) Et),fM (e:=by have:=S8 _ (aI Hi);have:=f5 _ (aI Et);have JB:=Hh.sum (by omega);unfold dD at*;omega) (sd-vf),trivial⟩<|ae 9 [0] fun _=>aG 89 (ds.sum=0) (fun vG=>?_) (fun vG=>?_)
   ·refine aa 15 fun _=>aV (hj:=by have:=gX.at rj;omega) Af fx.length m0 1 Xc ?_
    obtain ⟨l9,vo⟩:=aw (xs:=fy) (k:=m0.toNat) Xa
    refine gH pJ 2 Af cf fy m0.toNat 0 l9 true 4 (.bool true) vo<|qtt
   ·refine aa 3 fun _=>aG 92 (ds.sum>0) (fun h28=>?_) (fun h28=>?_)
    ·refine aa 5 fun _=>aG 97 ((sd-vf)>0) (fun Tz=>?_) (fun Tz=>?_)
     ·refine aa 7 fun _=>aV (hj:=by have:=gX.at rj;omega) Af fx.length m0 1 Xc ?_
      obtain ⟨xX,Gx⟩:=aw (xs:=fy) (k:=m0.toNat) Xa
      refine gH pJ 2 Af cf fy m0.toNat 0 xX true 4 (.bool true) Gx<|qtt
     ·refine aa 3 fun _=>aG 100 (ds.sum<0) (fun Up=>?_) (fun Up=>?_)
      ·refine aa 4 fun _=>aV (hj:=by have:=gX.at rj;omega) Af fx.length m0 1 Xc ?_
       obtain ⟨x33,e34⟩:=aw (xs:=fy) (k:=m0.toNat) Xa
       refine gH pJ 2 Af cf fy m0.toNat 0 x33 (decide ((sd-vf)<0)) 4 (.bool (decide ((sd-vf)<0))) e34<|qtp
      ·refine aa 4 fun _=>aV (hj:=by have:=gX.at rj;omega) Af fx.length m0 1 Xc ?_
       obtain ⟨ND,e36⟩:=aw (xs:=fy) (k:=m0.toNat) Xa
       refine gH pJ 2 Af cf fy m0.toNat 0 ND false 4 (.bool false) e36<|qts
    ·refine aa 8 fun _=>aG 100 (ds.sum<0) (fun C4=>?_) (fun C4=>?_)
     ·refine aa 4 fun _=>aV (hj:=by have:=gX.at rj;omega) Af fx.length m0 1 Xc ?_
      obtain ⟨x38,e39⟩:=aw (xs:=fy) (k:=m0.toNat) Xa
      refine gH pJ 2 Af cf fy m0.toNat 0 x38 (decide ((sd-vf)<0)) 4 (.bool (decide ((sd-vf)<0))) e39<|qtp
     ·refine aa 4 fun _=>aV (hj:=by have:=gX.at rj;omega) Af fx.length m0 1 Xc ?_
      obtain ⟨jM,GY⟩:=aw (xs:=fy) (k:=m0.toNat) Xa
      refine gH pJ 2 Af cf fy m0.toNat 0 jM false 4 (.bool false) GY<|qts
  ·refine aa 1 fun _=>a_ [0,1,2] ⟨ti,fy,kr,Xf,S8,Cq.len.trans Cr,Cq.old,Cq.fin gX (by have:=Hh.len;omega) (by have:=Hh.len;omega),kr⟩
section
def dK:Value→Nat
 |.complex _ a _=>a
 |_=>0
def dL:Value→Nat
 |.complex _ _ b=>b
 |_=>0
variable {P:Program} {n:Nat} {U:Nat→Prop} {w0 w:World} {Q:Exit→Act→World→Prop} {s:S} {ez:Ez} {hs:List Nat} {i:Nat}
abbrev pL (a:Addr) (x y z:Int):Value:=.agg #[.pointer (some a),iv x,iv y,iv z]
def tQ (R:World→Prop) (a:Addr):Prop:= ∃g o,a=⟨g,o,none⟩∧ ∀w,R w→oZ g w
abbrev HM (x:jc):Value:=.agg #[iv x.t,iv x.r,.complex .f64 x.z1 x.z2,.complex .f64 x.z3 x.z4,sl x.Ka x.nk x.Kc]
structure sx (R:World→Prop) (e:MapEntry):Prop where
 key: ∃a x y z,e.key=pL a x y z∧tQ R a
 val: ∃x:jc,e.val=HM x∧jb x
def LN (m:Nat) (R:World→Prop):Ck where
 F:=fun b=>b=m
 P:=fun w=> ∃es c,w.heap[m]? =some (.map es c)∧ ∀e∈es.toList,sx R e
 loc:=fun _ _ h ⟨es,c,h1,h2⟩=>⟨es,c,(h m rfl).trans h1,h2⟩
abbrev mapA (m:Nat) (R:World→Prop):aM:=aM.of (LN m R)
def LO {w:World} {ga gb oa ob:Nat} (ha:oZ ga w) (hb:oZ gb w): ∃r,(sameAddr ⟨ga,oa,none⟩ ⟨gb,ob,none⟩).run P w=.ok r w∧(r=true→(⟨ga,oa,none⟩:Addr)=⟨gb,ob,none⟩):=by
 by_cases hg:ga=gb
 ·subst hg
  exact ⟨(⟨ga,oa,none⟩:Addr)==⟨ga,ob,none⟩,by simp [sameAddr],fun h=>eq_of_beq h⟩
 ·obtain ⟨xa,ta,ha,na⟩:=ha
  obtain ⟨xb,tb,hb,nb⟩:=hb
  have h1:(ga==gb)=false:=by simpa using hg
  have fa: ∀o,Sem.run P (Sem.frozen ⟨ga,o,none⟩ Sem.pure) w=.ok false w:=fun o=>by simp [Sem.run,World.frozen?,ha]
  have fb: ∀o,Sem.run P (Sem.frozen ⟨gb,o,none⟩ Sem.pure) w=.ok false w:=fun o=>by simp [Sem.run,World.frozen?,hb]
  have sa:Sem.run P (Sem.shape ga Sem.pure) w=.ok (some (ta,xa.size)) w:=by simp [Sem.run,World.shape?,ha]
  have sb:Sem.run P (Sem.shape gb Sem.pure) w=.ok (some (tb,xb.size)) w:=by simp [Sem.run,World.shape?,hb]
  refine ⟨false,?_,by simp⟩
  simp [sameAddr,frozen,noView,viewAt,mayBeOne,stringish,shape,fa,fb,sa,sb,h1,na,nb,Result.andThen]
structure Su (P:Program) (kt:TypeId) (f1 f2 f3 f4:Field) (e:TypeId) (inf:TypeInfo):Prop where
 hu:P.underlying kt=some (.struct #[f1,f2,f3,f4])
 st:P.stoodInHeld kt=false
 n1:f1.name≠ "_"
 n2:f2.name≠ "_"
 n3:f3.name≠ "_"
 n4:f4.name≠ "_"
 o1:f1.offset=0
 o2:f2.offset=1
 o3:f3.offset=2
 o4:f4.offset=3
 u1:P.underlying f1.type=some (.pointer e)
 u2:P.underlying f2.type=some (.int .i64)
 u3:P.underlying f3.type=some (.int .i64)
 u4:P.underlying f4.type=some (.int .i64)
 ie:P.info? e=some inf
 sz:inf.size≠0
def eq_int {P:Program} {t:TypeId} {x y:Int} {w:World} (d:Nat) (u:P.underlying t=some (.int .i64)):(Op.equalIn (d+1) t (iv x) (iv y)).run P w=.ok (x==y) w:=by
 simp [Op.equalIn,underlying,u,Result.andThen]
def Vg {P:Program} {t e:TypeId} {inf:TypeInfo} {a b:Addr} {w:World} {r:Bool} (d:Nat) (u:P.underlying t=some (.pointer e)) (ie:P.info? e=some inf) (sz:inf.size≠0) (hr:(sameAddr a b).run P w=.ok r w):(Op.equalIn (d+1) t (.pointer (some a)) (.pointer (some b))).run P w=.ok r w:=by
 simp [Op.equalIn,underlying,u,sizeOf,typeInfo,ie,sz,hr,Result.andThen]
def lN {P:Program} {t:TypeId} {cs:Array Value} {o:Nat} {v:Value} {w:World} {td:TypeDesc} (u:P.underlying t=some td) (ha:td=.int .i64∨ ∃e,td=.pointer e) (hv:cs[o]? =some v):(part t cs o).run P w=.ok v w:=by
 rcases ha with rfl|⟨e,rfl⟩<;>simp [part,isAgg,underlying,u,hv,Result.andThen]
def P0 {P:Program} {kt e:TypeId} {f1 f2 f3 f4:Field} {inf:TypeInfo} (h:Su P kt f1 f2 f3 f4 e inf) {w:World} {a b:Addr} {x y z x' y' z':Int} {r:Bool} (hr:(sameAddr a b).run P w=.ok r w) (d:Nat):
 (Op.equalIn (d+1+1) kt (pL a x y z) (pL b x' y' z')).run P w=.ok (r&&(x==x')&&(y==y')&&(z==z')) w:=by
 obtain ⟨hu,st,n1,n2,n3,n4,o1,o2,o3,o4,u1,u2,u3,u4,ie,sz⟩:=h
 have p1: ∀c x y z,(part f1.type #[.pointer (some c),iv x,iv y,iv z] f1.offset).run P w=.ok (.pointer (some c)) w:=fun c x y z=>lN u1 (.inr ⟨_,rfl⟩) (by rw [o1];rfl)
 have p2: ∀c x y z,(part f2.type #[.pointer (some c),iv x,iv y,iv z] f2.offset).run P w=.ok (iv x) w:=fun c x y z=>lN u2 (.inl rfl) (by rw [o2];rfl)
 have p3: ∀c x y z,(part f3.type #[.pointer (some c),iv x,iv y,iv z] f3.offset).run P w=.ok (iv y) w:=fun c x y z=>lN u3 (.inl rfl) (by rw [o3];rfl)
 have p4: ∀c x y z,(part f4.type #[.pointer (some c),iv x,iv y,iv z] f4.offset).run P w=.ok (iv z) w:=fun c x y z=>lN u4 (.inl rfl) (by rw [o4];rfl)
 have q1:=Vg d u1 ie sz hr
 have q2:=eq_int (x:=x) (y:=x') (w:=w) d u2
 have q3:=eq_int (x:=y) (y:=y') (w:=w) d u3
 have q4:=eq_int (x:=z) (y:=z') (w:=w) d u4
 generalize (x==x')=b1 at q2⊢
 generalize (y==y')=b2 at q3⊢
 generalize (z==z')=b3 at q4⊢
 rw [Op.equalIn]
 simp only [underlying]
 cases r<;>cases b1<;>cases b2<;>cases b3<;>simp [hu,st,n1,n2,n3,n4,p1,p2,p3,p4,q1,q2,q3,q4,pL,Result.andThen]
def tn {P:Program} {t:TypeId} {v:Value} {w:World} {b:Bool} {td:TypeDesc} (d:Nat) (u:P.underlying t=some td) (ha:td=.int .i64∨ ∃e,td=.pointer e):(Instr.checkKey b (d+1) t v).run P w=.ok () w:=by
 rcases ha with rfl|⟨e,rfl⟩<;>simp [Instr.checkKey,underlying,u,Result.andThen]
def Fv {P:Program} {kt e:TypeId} {f1 f2 f3 f4:Field} {inf:TypeInfo} (h:Su P kt f1 f2 f3 f4 e inf) {w:World} {a:Addr} {x y z:Int} {b:Bool} (d:Nat):(Instr.checkKey b (d+1+1) kt (pL a x y z)).run P w=.ok () w:=by
 obtain ⟨hu,st,n1,n2,n3,n4,o1,o2,o3,o4,u1,u2,u3,u4,ie,sz⟩:=h
 have p1: ∀c x y z,(part f1.type #[.pointer (some c),iv x,iv y,iv z] f1.offset).run P w=.ok (.pointer (some c)) w:=fun c x y z=>lN u1 (.inr ⟨_,rfl⟩) (by rw [o1];rfl)
 have p2: ∀c x y z,(part f2.type #[.pointer (some c),iv x,iv y,iv z] f2.offset).run P w=.ok (iv x) w:=fun c x y z=>lN u2 (.inl rfl) (by rw [o2];rfl)
 have p3: ∀c x y z,(part f3.type #[.pointer (some c),iv x,iv y,iv z] f3.offset).run P w=.ok (iv y) w:=fun c x y z=>lN u3 (.inl rfl) (by rw [o3];rfl)
 have p4: ∀c x y z,(part f4.type #[.pointer (some c),iv x,iv y,iv z] f4.offset).run P w=.ok (iv z) w:=fun c x y z=>lN u4 (.inl rfl) (by rw [o4];rfl)
 have c1: ∀v,(Instr.checkKey b (d+1) f1.type v).run P w=.ok () w:=fun v=>tn d u1 (.inr ⟨_,rfl⟩)
 have c2: ∀v,(Instr.checkKey b (d+1) f2.type v).run P w=.ok () w:=fun v=>tn d u2 (.inl rfl)
 have c3: ∀v,(Instr.checkKey b (d+1) f3.type v).run P w=.ok () w:=fun v=>tn d u3 (.inl rfl)
 have c4: ∀v,(Instr.checkKey b (d+1) f4.type v).run P w=.ok () w:=fun v=>tn d u4 (.inl rfl)
 rw [Instr.checkKey]
 simp only [underlying]
 simp [hu,n1,n2,n3,n4,p1,p2,p3,p4,c1,c2,c3,c4,pL,Result.andThen]
section
variable {R:World→Prop} {w:World} {a:Addr} {x y z:Int} {P:Program} {kt e:TypeId} {f1 f2 f3 f4:Field} {inf:TypeInfo}
def P1 (h:Su P kt f1 f2 f3 f4 e inf) (hR:R w) (ha:tQ R a) {v:MapEntry} (hv:sx R v): ∃r,(Op.equal kt (pL a x y z) v.key).run P w=.ok r w∧(r=true→v.key=pL a x y z):=by
 obtain ⟨⟨b,x',y',z',e1,hb⟩,_⟩:=hv
 obtain ⟨ga,oa,rfl,ha⟩:=ha
 obtain ⟨gb,ob,rfl,hb⟩:=hb
 obtain ⟨r,h1,h2⟩:=LO (P:=P) (oa:=oa) (ob:=ob) (ha w hR) (hb w hR)
 refine ⟨_,by rw [e1];exact P0 h h1 9998,fun h3=>?_⟩
 simp only [da,beq_iff_eq] at h3
 rw [e1,← h2 h3.1.1.1,← h3.1.1.2,← h3.1.2,← h3.2]
def Fw (h:Su P kt f1 f2 f3 f4 e inf) (hR:R w) (ha:tQ R a): ∀(es:List MapEntry) (i:Nat),(∀v∈es,sx R v)→ ∃r,(Instr.findAsking kt (pL a x y z) es i).run P w=.ok r w∧ ∀j u,r=some (j,u)→ ∃v,es[j-i]? =some v∧i≤j∧v.val=u∧v.key=pL a x y z
 | [],i,_=>⟨none,by simp [Instr.findAsking],by simp⟩
 |v::es,i,IQ=>by
  obtain ⟨r,h1,h2⟩:=P1 (x:=x) (y:=y) (z:=z) h hR ha (IQ v cE)
  cases r with
  |true=>exact ⟨some (i,v.val),by simp [Instr.findAsking,h1,Result.andThen],fun j u hj=>by
   simp only [a9,bI] at hj
   obtain ⟨rfl,rfl⟩:=hj
   exact ⟨v,by simp,bO _,rfl,h2 rfl⟩⟩
  |false=>
   obtain ⟨r,h3,h4⟩:=Fw h hR ha es (i+1) fun q hq=>IQ q (bH _ hq)
   refine ⟨r,by simp [Instr.findAsking,h1,h3,Result.andThen],fun j u hj=>?_⟩
   obtain ⟨q,h5,h6,h7,h8⟩:=h4 j u hj
   exact ⟨q,by rw [show j-i=(j- (i+1))+1 by omega,List.getElem?_cons_succ];exact h5,by omega,h7,h8⟩
def BQ (h:Su P kt f1 f2 f3 f4 e inf) (hR:R w) (ha:tQ R a) (es:List MapEntry) (IQ: ∀v∈es,sx R v): ∃r,(Instr.findKey kt (pL a x y z) es).run P w=.ok r w∧ ∀j u,r=some (j,u)→ ∃v,es[j]? =some v∧v.val=u∧v.key=pL a x y z:=by
 cases es with
 |nil=>exact ⟨none,by simp [Instr.findKey,underlying,h.hu,Instr.findNow,Result.andThen],by simp⟩
 |cons v es=>
  obtain ⟨r,h1,h2⟩:=Fw h hR ha (x:=x) (y:=y) (z:=z) (v::es) 0 IQ
  refine ⟨r,?_,fun j u hj=>by obtain ⟨q,h3,_,h5⟩:=h2 j u hj;exact ⟨q,by simpa using h3,h5⟩⟩
  obtain ⟨⟨b,x',y',z',e1,_⟩,_⟩:=IQ v cE
  have e2:Instr.findNow (.struct #[f1,f2,f3,f4]) (pL a x y z) (v::es) 0=none:=by
   unfold Instr.findNow
   rw [e1]
   rfl
  simp only [Instr.findKey,underlying]
  simp [h.hu,e2,h1,Result.andThen]
def geO (v:Value):jc:=⟨dH (ag v 0),dH (ag v 1),dK (ag v 2),dL (ag v 2),dK (ag v 3),dL (ag v 3),ak (ag v 4),eI (ag v 4),an (ag v 4)⟩
def _t:Value→Bool
 |.bool b=>b
 |_=>false
def HN (v:Value):Prop:=v=.tuple #[HM (geO (tp v 0)),.bool (_t (tp v 1))]∧(_t (tp v 1)=true→jb (geO (tp v 0)))
def HN.of (g:jc) (b:Bool) (h:b=true→jb g):HN (.tuple #[HM g,.bool b]):=⟨rfl,h⟩
def Vh {m:Nat} {es:Array MapEntry} {c:Nat} {mt el:TypeId} {z0:jc} (h:Su P kt f1 f2 f3 f4 e inf) (hm:P.underlying mt=some (.map kt el)) (hz:bc P (zeroValue el)=some (HM z0)) (hR:R w) (ha:tQ R a) (he:w.heap[m]? =some (.map es c)) (IQ: ∀v∈es.toList,sx R v): ∃v,(Instr.lookup mt (.map (some m)) (pL a x y z) true).run P w=.ok v w∧HN v:=by
 obtain ⟨r,h1,h2⟩:=BQ (x:=x) (y:=y) (z:=z) h hR ha es.toList IQ
 have h3:(Instr.checkKey es.isEmpty 10000 kt (pL a x y z)).run P w=.ok () w:=Fv h 9998
 have h4:(getObj m).run P w=.ok (.map es c) w:=by simp [getObj,Sem.run,he]
 have h5:(zeroValue el).run P w=.ok (HM z0) w:=eO hz w
 cases r with
 |none=>
  refine ⟨.tuple #[HM z0,.bool false],?_,HN.of z0 false (by simp)⟩
  simp only [Instr.lookup,underlying]
  exact qrv
 |some q=>
  obtain ⟨j,u⟩:=q
  obtain ⟨v,h6,h7,_⟩:=h2 j u rfl
  obtain ⟨g,h8,h9⟩:=(IQ v (aI h6)).val
  refine ⟨.tuple #[u,.bool true],?_,by rw [← h7,h8];exact HN.of g true fun _=>h9⟩
  simp only [Instr.lookup,underlying]
  simp [hm,h4,h3,h1,Result.andThen]
def P2 (a:Addr) (x y z:Int):Instr.sameBits 10000 (pL a x y z) (pL a x y z)=true:=by
 simp [Instr.sameBits,pL]
def P3 {m:Nat} {es:Array MapEntry} {c:Nat} {mt el:TypeId} {g:jc} (h:Su P kt f1 f2 f3 f4 e inf) (hm:P.underlying mt=some (.map kt el)) (hR:R w) (ha:tQ R a) (hg:jb g) (he:w.heap[m]? =some (.map es c)) (IQ: ∀v∈es.toList,sx R v): ∃_A c',(Instr.mapUpdate mt (.map (some m)) (pL a x y z) (HM g)).run P w=.ok () {w with heap:=w.heap.setIfInBounds m (.map _A c')}∧ ∀v∈_A.toList,sx R v:=by
 obtain ⟨r,h1,h2⟩:=BQ (x:=x) (y:=y) (z:=z) h hR ha es.toList IQ
 have h3:(Instr.checkKey false 10000 kt (pL a x y z)).run P w=.ok () w:=Fv h 9998
 have h4:(getObj m).run P w=.ok (.map es c) w:=by simp [getObj,Sem.run,he]
 have h5: ∀o,(setObj m o).run P w=.ok () {w with heap:=w.heap.setIfInBounds m o}:=fun o=>by simp [setObj,Sem.run,he]
 have hn: ∀b,sx R ⟨pL a x y z,HM g,b⟩:=fun b=>⟨⟨a,x,y,z,rfl,ha⟩,g,rfl,hg⟩
 cases r with
 |none=>
  refine ⟨es.push ⟨pL a x y z,HM g,c⟩,c+1,?_,fun v hv=>?_⟩
  ·simp only [Instr.mapUpdate,underlying]
   exact qrv
  ·rw [Array.toList_push] at hv
   rcases eG.1 hv with hv|hv
   ·exact IQ v hv
   ·rw [fv.1 hv];exact hn c
 |some q=>
  obtain ⟨j,u⟩:=q
  obtain ⟨v,h6,h7,h8⟩:=h2 j u rfl
  have h9:es[j]? =some v:=by rw [← Array.getElem?_toList];exact h6
  have iJ:(Instr.keyThatStays (pL a x y z) (pL a x y z)).run P w=.ok (pL a x y z) w:=by simp [Instr.keyThatStays,P2]
  refine ⟨es.modify j fun e=> {e with key:=pL a x y z,val:=HM g},c,?_,fun v hv=>?_⟩
  ·simp only [Instr.mapUpdate,underlying]
   simp [hm,h4,h3,h1,h5,h9,h8,iJ,Result.andThen]
  ·rw [Array.toList_modify] at hv
   obtain ⟨i,hi⟩:=List.mem_iff_getElem?.1 hv
   rw [List.getElem?_modify] at hi
   split at hi
   ·cases e1:es.toList[i]?with
    |none=>rw [e1] at hi;cases hi
    |some q=>rw [e1] at hi;simp only [Option.map_eq_map,Option.map_some,a9] at hi;rw [← hi];exact hn _
   ·exact IQ v (aI (by simpa using hi))
end
noncomputable def BR (i:Nat):Field:=match Tryz.prog.underlying 317 with
 |some (.struct fs)=>fs.toList.getD i ⟨ "",0,0,false,"","",0⟩
 |_=>⟨ "",0,0,false,"","",0⟩
noncomputable def _B:TypeInfo:=match Tryz.prog.info? 210 with
 |some i=>i
 |none=>⟨.invalid,"",0,0,false,0,0,none,false,#[]⟩
def kyT:Su Cp 317 (BR 0) (BR 1) (BR 2) (BR 3) 210 _B where
 hu:=by kernel_rfl
 st:=by kernel_rfl
 n1:=by rw [show (BR 0).name= "b" by kernel_rfl];decide
 n2:=by rw [show (BR 1).name= "avail" by kernel_rfl];decide
 n3:=by rw [show (BR 2).name= "w" by kernel_rfl];decide
 n4:=by rw [show (BR 3).name= "h" by kernel_rfl];decide
 o1:=by kernel_rfl
 o2:=by kernel_rfl
 o3:=by kernel_rfl
 o4:=by kernel_rfl
 u1:=by kernel_rfl
 u2:=by kernel_rfl
 u3:=by kernel_rfl
 u4:=by kernel_rfl
 ie:=by kernel_rfl
 sz:=by rw [show _B.size=4 by kernel_rfl];decide
abbrev LkF (v:Value):Prop:=_t (tp v 1)=true→jb (geO (tp v 0))
def lkO (L:Env):Op×TypeId→Option (TypeId×Value×Value)
 |(.lookup t m k true,_)=>some (t,L.ev m,L.ev k)
 |_=>none
def upO (L:Env):Op×TypeId→Option (TypeId×Value×Value×Value)
 |(.mapUpdate t m k v,_)=>some (t,L.ev m,L.ev k,L.ev v)
 |_=>none
def mmO (L:Env):Op×TypeId→Bool
 |(.makeMap _ none,_)=>true
 |_=>false
def Vi {R:World→Prop} {m i:Nat} {a:Addr} {x y z:Int} {o:Op×TypeId} {L:Env} {ops:Array Oper} (hx:ef ops L i=some o) (h:lkO L o=some (312,.map (some m),pL a x y z)) (hm:(LN m R).P w) (hR:R w) (ha:tQ R a):One Cp n ops Q i L w fun u w'=>w'=w∧HN u:=by
 obtain ⟨es,c,h1,h2⟩:=hm
 obtain ⟨v,h3,h4⟩:=Vh (mt:=312) (el:=86) (z0:=⟨0,0,0,0,0,0,none,0,0⟩) (x:=x) (y:=y) (z:=z) kyT kr kr hR ha h1 h2
 unfold lkO at h
 split at h
 ·simp only [a9,bI] at h
  obtain ⟨rfl,h5,h6⟩:=h
  exact cY hx (v:=v) (w':=w) (by simp only [ex,execOp,h5,h6];simp [h3]) ⟨rfl,h4⟩
 ·cases h
def Vj {R:World→Prop} {m i:Nat} {a:Addr} {x y z:Int} {g:jc} {H:List aM} {o:Op×TypeId} {L:Env} {ops:Array Oper} (hx:ef ops L i=some o) (h:upO L o=some (312,.map (some m),pL a x y z,HM g)) (hS:SS U w0 w (mapA m R::H)) (hR:R w) (ha:tQ R a) (hg:jb g):One Cp n ops Q i L w fun u w'=>u=undef∧SS U w0 w' (mapA m R::H):=by
 obtain ⟨F,hF,l8,hk⟩:=hS.one
 obtain ⟨hFb,es,c,h1,h2⟩:=hF
 obtain ⟨_A,c',h3,h4⟩:=P3 (mt:=312) (el:=86) (x:=x) (y:=y) (z:=z) kyT kr hR ha hg h1 h2
 have oO:m<w.heap.size:=(Array.getElem?_eq_some_iff.1 h1).1
 unfold upO at h
 split at h
 ·simp only [a9,bI] at h
  obtain ⟨rfl,h5,h6,h7⟩:=h
  refine jQ hx (w':= {w with heap:=w.heap.setIfInBounds m (.map _A c')}) (by simp only [ex,execOp,h5,h6,h7];simp [h3]) ⟨rfl,?_⟩
  refine hk _ F (mapA m R) ⟨rfl,rfl,rfl,by simp,fun b hb hn=>?_,bO _⟩ ⟨hFb,_A,c',by simp [oO],h4⟩ fun b hb=>.inl hb
  exact Array.getElem?_setIfInBounds_ne fun e=>hn ((hFb b).2 e.symm)
 ·cases h
def Vk {R:World→Prop} {i:Nat} {H:List aM} {o:Op×TypeId} {L:Env} {ops:Array Oper} (hx:ef ops L i=some o) (h:mmO L o=true) (hS:SS U w0 w H) {Post:Value→World→Prop} (hp: ∀m w',SS U w0 w' (mapA m R::H)→Post (.map (some m)) w'):One Cp n ops Q i L w Post:=by
 unfold mmO at h
 split at h
 ·refine cY hx (v:=.map (some w.heap.size)) (w':=w.alloc (.map #[] 0)) (by rfl) (hp _ _ ?_)
  exact hS.wC (c:=LN w.heap.size R) (Ch.alloc w _) ⟨#[],0,heap_alloc_new w _,by simp⟩ fun b hb=>qmm
 ·cases h
def adk (R:World→Prop) (h:(s.nx fun L o=>bif mmO L o then some () else none,s.vu n)=(some (),true)) (g: ∀m,G Cp n U w0 Q (s.dT (.map (some m)) (s.H++ [.k (mapA m R)]))):G Cp n U w0 Q s:=by
 simp only [bI] at h
 obtain ⟨h1,h2⟩:=h
 obtain ⟨z,hc,h1⟩:=S.fU h1
 refine iS h2 fun w hS ops Q' j hx=>Vk (R:=R) (hx.trans hc) (by revert h1;cases mmO s.L z<;>simp) hS fun m w' hw=>⟨_,SH.Eo hw,g m⟩
def ag3 (R:World→Prop) (m:Nat) (a:Addr) (x y z:Int) (jm:Nat) (h: ∀vs,(s.ox Cp n ez hs i vs lkO,(s.vA Cp n ez hs i vs)[jm]?)=(some (312,.map (some m),pL a x y z),some (mapA m R))) (ha:tQ R a) (hR: ∀w,Ch U w0 w→R w):
 ke Cp n U w0 s ez hs i ⟨[],fun vs=>.tuple #[HM (geO (tp (vs i) 0)),.bool (_t (tp (vs i) 1))],[fun vs=>.k (aM.fact (LkF (vs i)))]⟩:=by
 refine ⟨fun vs Q' w K' hS=>?_⟩
 have hh:=h vs
 simp only [bI] at hh
 obtain ⟨h1,h2⟩:=hh
 obtain ⟨o,hx,h1⟩:=S.dU h1
 have xB:SE U w0 w [] (s.vA Cp n ez hs i vs):=⟨K',hS⟩
 refine (Vi hx h1 (xB.get h2 fun F hF=>hF.2) (hR w xB.ch) ha).mono fun u w' hu=>?_
 obtain ⟨rfl,Q_,hu2⟩:=hu
 have e:ik vs i u i=u:=by simp [ik]
 refine ⟨by simp only [e];exact Q_,?_⟩
 simp only [fm,List.map_nil,e]
 exact SS.EP hS hu2
def _w (R:World→Prop) (m:Nat) (a:Addr) (x y z:Int) (g:(Nat→Value)→jc) (jm:Nat) (h: ∀vs,(s.ox Cp n ez hs i vs upO,(s.D Cp n ez hs vs).jh [jm])=(some (312,.map (some m),pL a x y z,HM (g vs)),[mapA m R])) (ha:tQ R a) (hR: ∀w,Ch U w0 w→R w) (hg: ∀vs,jb (g vs)):
 ke Cp n U w0 s ez hs i ⟨[jm],fun _=>undef,[fun _=>.k (mapA m R)]⟩:=by
 refine ⟨fun vs Q' w K' hS=>?_⟩
 have hh:=h vs
 simp only [bI] at hh
 obtain ⟨h1,h2⟩:=hh
 obtain ⟨o,hx,h1⟩:=S.dU h1
 simp only at hS
 rw [h2] at hS
 exact (Vj hx h1 hS (hR w hS.ch) ha (hg vs)).mono fun u w' hu=>hu
end

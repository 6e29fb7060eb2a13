/- For the law of worlds: What functions do; What lies in memory. -/
import Derived.Test.YtfookmefmjhonaaGreatZ43
set_option linter.all false
namespace Go.Proofs.YtfookmefmjhonaaGreat.My
open Go.RowKit Go.bE
def rX {u:List Int} {o:bz} {y:Int} (h:cQ u o) (hy:u[o.st.r.toNat]? =some y):y+1=o.seq:=by
 have h1:=h.1
 rw [bA,hy] at h1
 simp only [Option.getD_some] at h1
 omega
def Mo (rep:Int) (n:Nat) (A:OA) (c:Nat) (l:List bz) (v2:List Int) (h0:1≤n∧n≤16∧0≤rep∧rep<n) (hn:n≤16) (hc:cP (bR n) l v2) (hm: ∀o∈l,bV o∧o.aX.length=n) (hl:l.length≤2900):Ct Cp 19 #[iv rep,iv n,sl A l.length c] (fun w=>ph A l w) [] (fun v Cs=> ∃a,v=.tuple #[.agg (c_.cells ⟨aj rep v2 l,a⟩).toArray,.bool true]∧Cs= [SA (⟨aj rep v2 l,a⟩)]):=by
 refine cc Tryz.func19 fun w0 hp=>?_
 obtain ⟨ys,AL,ve⟩:=hp
 have mJ:ys.length=l.length:=by rw [← AL,cM]
 refine aC 2 (sl A ys.length c) (sl A l.length c) (by rw [mJ])<|aa 10 fun a8=>ah (_6 rep (n:Int)) [] cJ ?_
 rintro _ _ ⟨rfl,rfl⟩
 refine aa 2 fun _=>eV 14 ((1≤(n:Int)∧(n:Int)≤16)∧0≤rep∧rep≤(n:Int)-1) (fun h2=>?_) (fun h2=>?_)
 ·exact qqn
 ·refine aa 2 fun _=>ah (iz A c ys (n:Int)) [] (fun w h=>ve.aE h.ch) ?_
  rintro _ _ ⟨rfl,rfl⟩
  refine aa 3 fun _=>cU (V2 ys (fun x=>bV x.o∧(x.o.aX.length:Int)=(n:Int))) (fun h3=>?_) (fun h3=>?_)
  ·exact (show False from absurd (fun y hy=>by have:=hm y.o (by rw [← AL];exact di hy);exact ⟨this.1,by omega⟩) h3).elim
  ·refine aa 5 fun _=>ah (ahq rep n (by omega)) [] cJ ?_
   rintro _ _ ⟨a4,rfl,rfl⟩
   refine ae 9 [2] fun jn=>aJ (pT (jn 0) (aj rep (bR n) [])) [2,1] [bJ (jn 0) 54 (c_.cells ⟨aj rep (bR n) [],a4⟩),SA (⟨aj rep (bR n) [],a4⟩)] (⟨a4,rfl⟩)<|aD 3 (oY (jn 0) (aj rep (bR n) [])) (oY (jn 0) (aj rep (bR n) (l.take 0))) kr (by rw [List.take_zero])<|aR (σ:=Nat×List Int) (fun (i,u)=> [(2,sl A ys.length c),(6,pv (a8 2)),(7,.bool false),(8,pv (jn 0)),(9,iv i)]) (fun (i,u)=> [.b (a8 2) 54 [iv 0,iv 0,sl none 0 0,sl none 0 0,sl none 0 0,sl none 0 0,sl none 0 0,sl none 0 0,iv 0,iv 0,iv 0],.k (oY (jn 0) (aj rep u (l.take i)))]) (fun (i,u)=>i≤l.length∧cP (bR n) (l.take i) u∧cP u (l.drop i) v2) (fun (i,u)=>l.length-i) (0,bR n) [0,4] ⟨bh _,rfl,hc⟩ ?_
   rintro _ ⟨i,u⟩ ⟨hi,r5,OC⟩ aB
   refine aa 8 fun _=>aq ((i:Int)<(ys.length:Int)) (fun h6=>?_) (fun h6=>?_)
   ·refine bn (φ:=pT (jn 0) (aj rep u (l.take i))) 1 ?_
    rintro _ ⟨a,rfl⟩
    refine dB 2 (jn 0) 54 qp0<|bn (φ:=SP ⟨aj rep u (l.take i),a⟩) 3 ?_
    rintro _ rfl
    obtain ⟨x7,e8⟩:=aw (xs:=ys) (k:=i) (by omega)
    have Nl:l[i]? =some x7.o:=by rw [← AL,fk,e8];rfl
    obtain ⟨Cm,Wo⟩:=hm _ (aI Nl)
    have Tw:cQ u x7.o∧cP (u.set x7.o.st.r.toNat x7.o.seq) (l.drop (i+1)) v2:=by have hk:=(aN.1 Nl).1;have sE:=(aN.1 Nl).2;rw [fI hk,sE] at OC;exact OC
    obtain ⟨C6,JY⟩:=Tw
    have hul:u.length=n:=by rw [r5.len,eA]
    have RC:(aj rep u (l.take i)).hv.length=n:=hul
    have XQ:=Cm.2.2.1
    have rB:=Cm.1
    unfold bY at rB
    have hx1:=oh Cm
    have S9:=CP Cm
    refine aS az 4 a.Ah a.ch ((aj rep u (l.take i)).hv) u kr rfl<|bP 2 (jn 0) 54 qaq qby kr rfl<|aa 5 fun _=>aK [(4,_),(5,bx.V x7),(6,.bool (decide (cQ u x7.o)))] [2] ⟨bF A ys.length (i:Int) 12 qlp,cB 56 (ad A (i*12) 0) (fun w h=>bN (K:=bx) (ve.2.1.aE h.ch) e8),bT (hp:=fun w h=>⟨h.bg 9 a.Ah a.ch u kr,((ve.2.2 x7 (aI e8)).aE h.ch)⟩) (ready a.Ah a.ch u x7 (by omega) (by omega) (by omega) (by omega) (by omega) (by omega)) jU,trivial⟩<|cU (cQ u x7.o) (fun h9=>?_) (fun h9=>?_)
    ·exact qqc
    ·refine aa 2 fun _=>?_
     obtain ⟨gA,zF⟩:=aw (xs:=u) (k:=x7.o.st.r.toNat) (by omega)
     refine aO [(4,_),(7,_),(8,_),(9,_),(10,_),(11,_),(12,_)] [2] ⟨qhl,cZ 3 (fun vs=>ad A (i*12) 1) (fun vs=>iv x7.o.st.r) (fun vs w h=>bW (K:=bx) (ve.2.1.aE h.ch) e8),qg8,cZ 3 (fun vs=>((cz a.Ah).add (x7.o.st.r.toNat*1)).add 0) (fun vs=>iv gA) (fun vs w h=>bW (K:=az) (h.bg 9 a.Ah a.ch u kr) zF),fc (e:=fun _=>by have:=rX C6 zF;omega) (fun vs=>gA+1),qg8,cR az 9 (fun vs=>a.Ah) (fun vs=>a.ch) (fun vs=>u) x7.o.st.r.toNat 0 (fun vs=>gA) (fun vs=>gA+1) 3 (fun vs=>iv (gA+1)) (fun _=>zF),trivial⟩ fun jd=>aS az 10 a.Ah a.ch (u.set x7.o.st.r.toNat (gA+1)) (u.set x7.o.st.r.toNat x7.o.seq) kr (by rw [rX C6 zF])<|bP 2 (jn 0) 54 qby [iv ((aj rep (u.set x7.o.st.r.toNat x7.o.seq) (l.take i)).rep),iv (bq (aj rep (u.set x7.o.st.r.toNat x7.o.seq) (l.take i)).ops),sl a.Ah ((aj rep (u.set x7.o.st.r.toNat x7.o.seq) (l.take i)).hv.length) a.ch,sl a.Ao ((aj rep (u.set x7.o.st.r.toNat x7.o.seq) (l.take i)).ops.length) a.co,sl a.Ax ((aj rep (u.set x7.o.st.r.toNat x7.o.seq) (l.take i)).held.length) a.cx,sl a.An ((ai (dJ (aj rep (u.set x7.o.st.r.toNat x7.o.seq) (l.take i)).ops) []).length) a.cn,sl a.Am ((dJ (aj rep (u.set x7.o.st.r.toNat x7.o.seq) (l.take i)).ops).length) a.cm,sl a.Al ((fY (aj rep (u.set x7.o.st.r.toNat x7.o.seq) (l.take i)).ops).length) a.cl,iv ((aj rep (u.set x7.o.st.r.toNat x7.o.seq) (l.take i)).wait),iv ((aj rep (u.set x7.o.st.r.toNat x7.o.seq) (l.take i)).dT),iv ((aj rep (u.set x7.o.st.r.toNat x7.o.seq) (l.take i)).aW)] kr (by rw [show (aj rep (u.set x7.o.st.r.toNat x7.o.seq) (l.take i)).hv.length=u.length from cX ..];rfl)<|aJ (SP ⟨aj rep (u.set x7.o.st.r.toNat x7.o.seq) (l.take i),a⟩) [11,5,6,7,8] [az.row a.Ah a.ch (u.set x7.o.st.r.toNat x7.o.seq),cV a.Ao a.co ((aj rep u (l.take i)).ops),cV a.Ax a.cx ((aj rep u (l.take i)).held),iK a.An a.cn a.Am a.cm (dJ (aj rep u (l.take i)).ops),kI a.Al a.cl (fY (aj rep u (l.take i)).ops)] rfl<|aO [(3,_),(4,_),(5,_)] [2,2] ⟨qhl,cZ 56 (fun vs=>ad A (i*12) 0) (fun vs=>bx.V x7) (fun vs w h=>bN (K:=bx) (ve.2.1.aE h.ch) e8),fJ (fun vs=>Mr (⟨aj rep (u.set x7.o.st.r.toNat x7.o.seq) (l.take i),a⟩:c_) x7 (mN (fun o ho=>(hm o (gU ho)).1) (by rw [cX];omega) C7) Cm) [12] (fun vs=>.agg #[iv (({(aj rep (u.set x7.o.st.r.toNat x7.o.seq) (l.take i)) with ops:=(aj rep (u.set x7.o.st.r.toNat x7.o.seq) (l.take i)).ops++ [x7.o]}).rep),iv (bq ({(aj rep (u.set x7.o.st.r.toNat x7.o.seq) (l.take i)) with ops:=(aj rep (u.set x7.o.st.r.toNat x7.o.seq) (l.take i)).ops++ [x7.o]}).ops),sl (ak (ag (vs 5) 2)) (({(aj rep (u.set x7.o.st.r.toNat x7.o.seq) (l.take i)) with ops:=(aj rep (u.set x7.o.st.r.toNat x7.o.seq) (l.take i)).ops++ [x7.o]}).hv.length) (an (ag (vs 5) 2)),sl (ak (ag (vs 5) 3)) (({(aj rep (u.set x7.o.st.r.toNat x7.o.seq) (l.take i)) with ops:=(aj rep (u.set x7.o.st.r.toNat x7.o.seq) (l.take i)).ops++ [x7.o]}).ops.length) (an (ag (vs 5) 3)),sl (ak (ag (vs 5) 4)) (({(aj rep (u.set x7.o.st.r.toNat x7.o.seq) (l.take i)) with ops:=(aj rep (u.set x7.o.st.r.toNat x7.o.seq) (l.take i)).ops++ [x7.o]}).held.length) (an (ag (vs 5) 4)),sl (ak (ag (vs 5) 5)) ((ai (dJ ({(aj rep (u.set x7.o.st.r.toNat x7.o.seq) (l.take i)) with ops:=(aj rep (u.set x7.o.st.r.toNat x7.o.seq) (l.take i)).ops++ [x7.o]}).ops) []).length) (an (ag (vs 5) 5)),sl (ak (ag (vs 5) 6)) ((dJ ({(aj rep (u.set x7.o.st.r.toNat x7.o.seq) (l.take i)) with ops:=(aj rep (u.set x7.o.st.r.toNat x7.o.seq) (l.take i)).ops++ [x7.o]}).ops).length) (an (ag (vs 5) 6)),sl (ak (ag (vs 5) 7)) ((fY ({(aj rep (u.set x7.o.st.r.toNat x7.o.seq) (l.take i)) with ops:=(aj rep (u.set x7.o.st.r.toNat x7.o.seq) (l.take i)).ops++ [x7.o]}).ops).length) (an (ag (vs 5) 7)),iv (({(aj rep (u.set x7.o.st.r.toNat x7.o.seq) (l.take i)) with ops:=(aj rep (u.set x7.o.st.r.toNat x7.o.seq) (l.take i)).ops++ [x7.o]}).wait),iv (({(aj rep (u.set x7.o.st.r.toNat x7.o.seq) (l.take i)) with ops:=(aj rep (u.set x7.o.st.r.toNat x7.o.seq) (l.take i)).ops++ [x7.o]}).dT),iv (({(aj rep (u.set x7.o.st.r.toNat x7.o.seq) (l.take i)) with ops:=(aj rep (u.set x7.o.st.r.toNat x7.o.seq) (l.take i)).ops++ [x7.o]}).aW)]) [fun vs=>.k (SA (⟨{(aj rep (u.set x7.o.st.r.toNat x7.o.seq) (l.take i)) with ops:=(aj rep (u.set x7.o.st.r.toNat x7.o.seq) (l.take i)).ops++ [x7.o]},(⟨ak (ag (vs 5) 2),an (ag (vs 5) 2),ak (ag (vs 5) 3),an (ag (vs 5) 3),ak (ag (vs 5) 4),an (ag (vs 5) 4),ak (ag (vs 5) 5),an (ag (vs 5) 5),ak (ag (vs 5) 6),an (ag (vs 5) 6),ak (ag (vs 5) 7),an (ag (vs 5) 7)⟩:Ac)⟩))] (fun vs w F h=>(ve.2.2 x7 (aI e8)).u0.ew h) Zg,trivial⟩ fun lQ=>aa 4 fun _=>ao (e:=by have:=rX C6 zF;omega) 29 ((i:Int)+1)<|aa 2 fun _=>aJ (pT (jn 0) ({(aj rep (u.set x7.o.st.r.toNat x7.o.seq) (l.take i)) with ops:=(aj rep (u.set x7.o.st.r.toNat x7.o.seq) (l.take i)).ops++ [x7.o]})) [14,13] [bJ (jn 0) 54 [iv (({(aj rep (u.set x7.o.st.r.toNat x7.o.seq) (l.take i)) with ops:=(aj rep (u.set x7.o.st.r.toNat x7.o.seq) (l.take i)).ops++ [x7.o]}).rep),iv (bq ({(aj rep (u.set x7.o.st.r.toNat x7.o.seq) (l.take i)) with ops:=(aj rep (u.set x7.o.st.r.toNat x7.o.seq) (l.take i)).ops++ [x7.o]}).ops),sl (ak (ag (lQ 5) 2)) (({(aj rep (u.set x7.o.st.r.toNat x7.o.seq) (l.take i)) with ops:=(aj rep (u.set x7.o.st.r.toNat x7.o.seq) (l.take i)).ops++ [x7.o]}).hv.length) (an (ag (lQ 5) 2)),sl (ak (ag (lQ 5) 3)) (({(aj rep (u.set x7.o.st.r.toNat x7.o.seq) (l.take i)) with ops:=(aj rep (u.set x7.o.st.r.toNat x7.o.seq) (l.take i)).ops++ [x7.o]}).ops.length) (an (ag (lQ 5) 3)),sl (ak (ag (lQ 5) 4)) (({(aj rep (u.set x7.o.st.r.toNat x7.o.seq) (l.take i)) with ops:=(aj rep (u.set x7.o.st.r.toNat x7.o.seq) (l.take i)).ops++ [x7.o]}).held.length) (an (ag (lQ 5) 4)),sl (ak (ag (lQ 5) 5)) ((ai (dJ ({(aj rep (u.set x7.o.st.r.toNat x7.o.seq) (l.take i)) with ops:=(aj rep (u.set x7.o.st.r.toNat x7.o.seq) (l.take i)).ops++ [x7.o]}).ops) []).length) (an (ag (lQ 5) 5)),sl (ak (ag (lQ 5) 6)) ((dJ ({(aj rep (u.set x7.o.st.r.toNat x7.o.seq) (l.take i)) with ops:=(aj rep (u.set x7.o.st.r.toNat x7.o.seq) (l.take i)).ops++ [x7.o]}).ops).length) (an (ag (lQ 5) 6)),sl (ak (ag (lQ 5) 7)) ((fY ({(aj rep (u.set x7.o.st.r.toNat x7.o.seq) (l.take i)) with ops:=(aj rep (u.set x7.o.st.r.toNat x7.o.seq) (l.take i)).ops++ [x7.o]}).ops).length) (an (ag (lQ 5) 7)),iv (({(aj rep (u.set x7.o.st.r.toNat x7.o.seq) (l.take i)) with ops:=(aj rep (u.set x7.o.st.r.toNat x7.o.seq) (l.take i)).ops++ [x7.o]}).wait),iv (({(aj rep (u.set x7.o.st.r.toNat x7.o.seq) (l.take i)) with ops:=(aj rep (u.set x7.o.st.r.toNat x7.o.seq) (l.take i)).ops++ [x7.o]}).dT),iv (({(aj rep (u.set x7.o.st.r.toNat x7.o.seq) (l.take i)) with ops:=(aj rep (u.set x7.o.st.r.toNat x7.o.seq) (l.take i)).ops++ [x7.o]}).aW)],SA (⟨{(aj rep (u.set x7.o.st.r.toNat x7.o.seq) (l.take i)) with ops:=(aj rep (u.set x7.o.st.r.toNat x7.o.seq) (l.take i)).ops++ [x7.o]},(⟨ak (ag (lQ 5) 2),an (ag (lQ 5) 2),ak (ag (lQ 5) 3),an (ag (lQ 5) 3),ak (ag (lQ 5) 4),an (ag (lQ 5) 4),ak (ag (lQ 5) 5),an (ag (lQ 5) 5),ak (ag (lQ 5) 6),an (ag (lQ 5) 6),ak (ag (lQ 5) 7),an (ag (lQ 5) 7)⟩:Ac)⟩)] (⟨(⟨ak (ag (lQ 5) 2),an (ag (lQ 5) 2),ak (ag (lQ 5) 3),an (ag (lQ 5) 3),ak (ag (lQ 5) 4),an (ag (lQ 5) 4),ak (ag (lQ 5) 5),an (ag (lQ 5) 5),ak (ag (lQ 5) 6),an (ag (lQ 5) 6),ak (ag (lQ 5) 7),an (ag (lQ 5) 7)⟩:Ac),rfl⟩)<|aD 15 (oY (jn 0) ({(aj rep (u.set x7.o.st.r.toNat x7.o.seq) (l.take i)) with ops:=(aj rep (u.set x7.o.st.r.toNat x7.o.seq) (l.take i)).ops++ [x7.o]})) (oY (jn 0) (aj rep (u.set x7.o.st.r.toNat x7.o.seq) (l.take (i+1)))) kr qsa<|aB _ (i+1,u.set x7.o.st.r.toNat x7.o.seq) [0,16] kr ⟨by omega,by rw [← bp Nl];exact r5.snoc C6,JY⟩ du
   ·refine bn (φ:=pT (jn 0) (aj rep u (l.take i))) 1 ?_
    rintro _ ⟨a,rfl⟩
    refine dB 2 (jn 0) 54 qp0<|bn (φ:=SP ⟨aj rep u (l.take i),a⟩) 3 ?_
    rintro _ rfl
    refine ae 7 [2,0] fun _=>?_
    have ei:l.take i=l:=cA (by omega)
    have ev:u=v2:=by rw [eJ (by omega)] at OC;exact OC.symm
    refine aJ (SP ⟨aj rep u (l.take i),a⟩) [4,5,6,7,8] [az.row a.Ah a.ch ((aj rep u (l.take i)).hv),cV a.Ao a.co ((aj rep u (l.take i)).ops),cV a.Ax a.cx ((aj rep u (l.take i)).held),iK a.An a.cn a.Am a.cm (dJ (aj rep u (l.take i)).ops),kI a.Al a.cl (fY (aj rep u (l.take i)).ops)] rfl<|aD 9 (SA (⟨aj rep u (l.take i),a⟩)) (SA (⟨aj rep v2 l,a⟩)) kr (by rw [ei,ev])<|bk [0] [10] ⟨a,kt (.tuple #[.agg #[iv ((aj rep u (l.take i)).rep),iv (bq (aj rep u (l.take i)).ops),sl a.Ah ((aj rep u (l.take i)).hv.length) a.ch,sl a.Ao ((aj rep u (l.take i)).ops.length) a.co,sl a.Ax ((aj rep u (l.take i)).held.length) a.cx,sl a.An ((ai (dJ (aj rep u (l.take i)).ops) []).length) a.cn,sl a.Am ((dJ (aj rep u (l.take i)).ops).length) a.cm,sl a.Al ((fY (aj rep u (l.take i)).ops).length) a.cl,iv ((aj rep u (l.take i)).wait),iv ((aj rep u (l.take i)).dT),iv ((aj rep u (l.take i)).aW)],.bool true]) (by rw [ei,ev]),kr⟩
def QB {l:List bz} {n:Nat} (hm: ∀o∈l,bV o∧o.aX.length=n) {ms:List cD} (h:ms.map cD.d=fz (dJ l) []) {y:cD} (hy:y∈ms):y.x.o.aX.length≤1073741824:=by
 obtain ⟨k,hk,e⟩:=List.getElem_of_mem hy
 obtain ⟨o,ho,e2,_⟩:=wO h (dw hk)
 rw [e] at e2
 rw [e2]
 exact gg (hm o ((k6 l).mem o (aI ho))).1
def QC {l:List bz} {ls:List bj} {hl:l.length≤2900} (h:ls.map bj.d=fY l) {y:bj} (hy:y∈ls):y.bX.length≤1073741824:=by
 have:=((k6 l).rs y.d (by rw [← h];exact di hy)).2.1
 have:y.bX.length≤l.length:=this
 omega
def QD {ns:List Nd} {A1 A2 A3 B1 B2 B3:OA} {c1 c2 c3 d1 d2 d3:Nat} {Mm AJ:List cD} {Mn Gt:List bj} {E:List FX} {L:List iZ} (h1:Mm.map cD.d=E) (h2:AJ.map cD.d=E) (h3:Mn.map bj.d=L) (h4:Gt.map bj.d=L):(⟨⟨ns,A1,c1,Mm,A2,c2⟩,Mn,A3,c3⟩:sV).d=(⟨⟨ns,B1,d1,AJ,B2,d2⟩,Gt,B3,d3⟩:sV).d:=by
 show ShD.mk (Wm.mk ns (Mm.map cD.d)) (Mn.map bj.d)=ShD.mk (Wm.mk ns (AJ.map cD.d)) (Gt.map bj.d)
 rw [h1,h2,h3,h4]
def _V (VL:OA) (_W:Nat) (_X:List Int) (An:OA) (cn:Nat) (Xr:dW _X):Ct Cp 18 #[sl VL _X.length _W,sl An 0 cn] (fun w=>az.Rd VL _X w) [] (fun v Cs=>v=.bool true∧Cs= []):=by
 refine cc Tryz.func18 fun w0 hp=>aa 8 fun _=>ah (Jw VL _W _X (by have:=Xr.2.1;omega)) [] il ?_
 rintro _ _ ⟨rfl,rfl⟩
 refine aa 2 fun _=>eV 11 (dW _X) (fun h1=>?_) (fun h1=>?_)
 ·exact (show False from absurd Xr h1).elim
 ·refine aa 13 fun _=>iH 1<|aa 14 fun _=>Nc
def UE (v_:c_) (hb:v_.d=aj v_.d.rep v_.d.hv v_.d.ops) (as9:0≤v_.d.rep∧v_.d.rep<v_.d.hv.length) (Xr:dW v_.d.hv) (hc:cP (bR v_.d.hv.length) v_.d.ops v_.d.hv) (hm: ∀o∈v_.d.ops,bV o∧o.aX.length=v_.d.hv.length) (hl:v_.d.ops.length≤2900):Ct Cp 9 #[.agg (c_.cells v_).toArray] (fun w=>AH v_ w) [] (fun v Cs=>v=.bool true∧Cs= []):=by
 refine cc Tryz.func9 fun w0 hp=>?_
 have hw0:v_.d.wait=0:=by rw [hb];rfl
 have hd0:v_.d.aW=0:=by rw [hb];rfl
 have hn0:v_.d.dT=0:=by rw [hb];rfl
 have IL:v_.d.held= []:=by rw [hb];rfl
 obtain ⟨AJ,GD,ahi,ahj⟩:=hp.tr
 obtain ⟨Gt,_Y,ahk⟩:=hp.lk
 have TK:=iC GD
 have ahl:Gt.length=(fY v_.d.ops).length:=by rw [← _Y,cM]
 have hv1:=Xr.1
 have hv2:=Xr.2.1
 have J8:=nQ (dJ v_.d.ops) []
 simp only [fA] at J8
 have Ix:=(k6 v_.d.ops).ml
 have hlo:=(k6 v_.d.ops).ll
 refine aC 0 (.agg #[iv v_.d.rep,iv (bq v_.d.ops),sl v_.a.Ah v_.d.hv.length v_.a.ch,sl v_.a.Ao v_.d.ops.length v_.a.co,sl v_.a.Ax 0 v_.a.cx,sl v_.a.An ((ai (dJ v_.d.ops) []).length) v_.a.cn,sl v_.a.Am AJ.length v_.a.cm,sl v_.a.Al Gt.length v_.a.cl,iv v_.d.wait,iv v_.d.dT,iv v_.d.aW]) (.agg #[iv v_.d.rep,iv (bq v_.d.ops),sl v_.a.Ah v_.d.hv.length v_.a.ch,sl v_.a.Ao v_.d.ops.length v_.a.co,sl v_.a.Ax v_.d.held.length v_.a.cx,sl v_.a.An ((ai (dJ v_.d.ops) []).length) v_.a.cn,sl v_.a.Am ((dJ v_.d.ops).length) v_.a.cm,sl v_.a.Al ((fY v_.d.ops).length) v_.a.cl,iv v_.d.wait,iv v_.d.dT,iv v_.d.aW]) (by rw [IL,TK,ahl];rfl)<|ae 10 [0] fun a8=>ah (num v_.d.wait 4) [] cJ ?_
 rintro _ _ ⟨rfl,rfl⟩
 refine aa 2 fun _=>eV 9 (0≤v_.d.wait∧v_.d.wait≤4) (fun h2=>?_) (fun h2=>?_)
 ·exact qqn
 ·refine ae 2 [0] fun _=>ah (num v_.d.aW 1099511627776) [] cJ ?_
  rintro _ _ ⟨rfl,rfl⟩
  refine aa 3 fun _=>eV 15 (0≤v_.d.aW∧v_.d.aW≤1099511627776) (fun h3=>?_) (fun h3=>?_)
  ·exact qqm
  ·refine ae 4 [0,0] fun _=>ah (_V v_.a.Ah v_.a.ch v_.d.hv v_.a.Ax v_.a.cx Xr) [] (fun w h=>hp.hv.aE h.ch) ?_
   rintro _ _ ⟨rfl,rfl⟩
   refine ae 9 [0,0] fun _=>ao 29 ((v_.d.hv.length:Int)-1)<|ah (num v_.d.rep ((v_.d.hv.length:Int)-1)) [] cJ ?_
   rintro _ _ ⟨rfl,rfl⟩
   refine aa 3 fun _=>eV 33 (0≤v_.d.rep∧v_.d.rep≤((v_.d.hv.length:Int)-1)) (fun h4=>?_) (fun h4=>?_)
   ·exact (show False from h4 (by omega)).elim
   ·refine ae 6 [0,0] fun _=>ao 39 ((v_.d.hv.length:Int)-1)<|ah (num v_.d.dT ((v_.d.hv.length:Int)-1)) [] cJ ?_
    rintro _ _ ⟨rfl,rfl⟩
    refine aa 3 fun _=>cU (0≤v_.d.dT∧v_.d.dT≤((v_.d.hv.length:Int)-1)) (fun h5=>?_) (fun h5=>?_)
    ·exact (show False from h5 (by omega)).elim
    ·refine ae 10 [0,0,0] fun _=>ah (Mo v_.d.rep v_.d.hv.length v_.a.Ao v_.a.co v_.d.ops v_.d.hv qkg qkg hc hm hl) [] (fun w h=>hp.ops.aE h.ch) ?_
     rintro _ _ ⟨a6,rfl,rfl⟩
     refine ae 18 [2,2,0] fun AA=>bn (φ:=SP ⟨aj v_.d.rep v_.d.hv v_.d.ops,a6⟩) 1 ?_
     rintro _ rfl
     refine bn (φ:=GF a6.An a6.cn a6.Am a6.cm (dJ (aj v_.d.rep v_.d.hv v_.d.ops).ops)) 6 ?_
     rintro _ ⟨Mm,VM,rfl⟩
     refine bn (φ:=Nw a6.Al a6.cl (fY (aj v_.d.rep v_.d.hv v_.d.ops).ops)) 7 ?_
     rintro _ ⟨Mn,VN,rfl⟩
     have ahm:Mm.length=(dJ v_.d.ops).length:=iC VM
     have ahn:Mn.length=(fY v_.d.ops).length:=by rw [show fY v_.d.ops=fY (aj v_.d.rep v_.d.hv v_.d.ops).ops from rfl,← VN,cM]
     refine bP 2 (AA 3) 54 [iv ((aj v_.d.rep v_.d.hv v_.d.ops).rep),iv (bq (aj v_.d.rep v_.d.hv v_.d.ops).ops),sl a6.Ah ((aj v_.d.rep v_.d.hv v_.d.ops).hv.length) a6.ch,sl a6.Ao ((aj v_.d.rep v_.d.hv v_.d.ops).ops.length) a6.co,sl a6.Ax ((aj v_.d.rep v_.d.hv v_.d.ops).held.length) a6.cx,sl a6.An ((ai (dJ (aj v_.d.rep v_.d.hv v_.d.ops).ops) []).length) a6.cn,sl a6.Am ((dJ (aj v_.d.rep v_.d.hv v_.d.ops).ops).length) a6.cm,sl a6.Al ((fY (aj v_.d.rep v_.d.hv v_.d.ops).ops).length) a6.cl,iv ((aj v_.d.rep v_.d.hv v_.d.ops).wait),iv ((aj v_.d.rep v_.d.hv v_.d.ops).dT),iv ((aj v_.d.rep v_.d.hv v_.d.ops).aW)] [iv ((aj v_.d.rep v_.d.hv v_.d.ops).rep),iv (bq (aj v_.d.rep v_.d.hv v_.d.ops).ops),sl a6.Ah ((aj v_.d.rep v_.d.hv v_.d.ops).hv.length) a6.ch,sl a6.Ao ((aj v_.d.rep v_.d.hv v_.d.ops).ops.length) a6.co,sl a6.Ax ((aj v_.d.rep v_.d.hv v_.d.ops).held.length) a6.cx,sl a6.An ((ai (dJ (aj v_.d.rep v_.d.hv v_.d.ops).ops) []).length) a6.cn,sl a6.Am Mm.length a6.cm,sl a6.Al Mn.length a6.cl,iv ((aj v_.d.rep v_.d.hv v_.d.ops).wait),iv ((aj v_.d.rep v_.d.hv v_.d.ops).dT),iv ((aj v_.d.rep v_.d.hv v_.d.ops).aW)] kr (by rw [ahm,ahn];rfl)<|aG 62 ((bq (aj v_.d.rep v_.d.hv v_.d.ops).ops)=(bq v_.d.ops)) (fun h8=>?_) (fun h8=>?_)
     ·refine ae 4 [2,0] fun _=>ah (xe a6.Ah a6.ch ((aj v_.d.rep v_.d.hv v_.d.ops).hv) v_.a.Ah v_.a.ch v_.d.hv qkg) [] (fun w h=>⟨h.bg 3 a6.Ah a6.ch ((aj v_.d.rep v_.d.hv v_.d.ops).hv) kr,hp.hv.aE h.ch⟩) ?_
      rintro _ _ ⟨rfl,rfl⟩
      refine aa 2 fun _=>aG 69 (((aj v_.d.rep v_.d.hv v_.d.ops).hv)=v_.d.hv) (fun h9=>?_) (fun h9=>?_)
      ·refine ae 4 [2,0] fun _=>ah (Ox (⟨(⟨ai (dJ (aj v_.d.rep v_.d.hv v_.d.ops).ops) [],a6.An,a6.cn,Mm,a6.Am,a6.cm⟩:oe),Mn,a6.Al,a6.cl⟩:sV) (⟨(⟨ai (dJ v_.d.ops) [],v_.a.An,v_.a.cn,AJ,v_.a.Am,v_.a.cm⟩:oe),Gt,v_.a.Al,v_.a.cl⟩:sV)) [] (fun w h=>⟨(show sV.Rd _ _ from ⟨⟨show (ai (dJ v_.d.ops) []).length≤1073741824 by omega,h.bg 8 a6.An a6.cn (ai (dJ (aj v_.d.rep v_.d.hv v_.d.ops).ops) []) kr,show Mm.length≤1073741824 by omega,h.bg 9 a6.Am a6.cm Mm kr,fun y hy=>⟨QB hm VM hy,h.o5 10 cD.own Mm hy rfl kr⟩⟩,show Mn.length≤1073741824 by omega,h.bg 11 a6.Al a6.cl Mn kr,fun y hy=>⟨QC (hl:=hl) VN hy,h.o5 12 bj.own Mn hy rfl kr⟩⟩),(show sV.Rd _ _ from ⟨⟨show (ai (dJ v_.d.ops) []).length≤1073741824 by omega,ahi.aE h.ch,ahj.aE h.ch⟩,ahk.aE h.ch⟩)⟩) ?_
       rintro _ _ ⟨rfl,rfl⟩
       refine aa 3 fun _=>a_ [] ⟨kt (.bool (decide ((⟨(⟨ai (dJ (aj v_.d.rep v_.d.hv v_.d.ops).ops) [],a6.An,a6.cn,Mm,a6.Am,a6.cm⟩:oe),Mn,a6.Al,a6.cl⟩:sV).d=(⟨(⟨ai (dJ v_.d.ops) [],v_.a.An,v_.a.cn,AJ,v_.a.Am,v_.a.cm⟩:oe),Gt,v_.a.Al,v_.a.cl⟩:sV).d))) (dP (decide_eq_true (QD VM GD VN _Y))),kr⟩
      ·exact (show False from h9 rfl).elim
     ·exact (show False from h8 rfl).elim
def gk (i:Int) (n:Nat):Nat:=(IntKind.u64.wrap i).toNat % n
def PC {n:Nat} (h:n≤1000000):IntKind.u64.wrap (n:Int)=(n:Int):=by rw [mq];omega
def DE (i:Int) {n:Nat}:Int.tmod (IntKind.u64.wrap i) (n:Int)=((gk i n:Nat):Int):=by
 have h:0≤IntKind.u64.wrap i:=by rw [mq];omega
 unfold gk
 rw [Int.tmod_eq_emod_of_nonneg h,Int.natCast_emod,iR h]
def oF (i:Int) {n:Nat} (h:1≤n):gk i n<n:=Nat.mod_lt _ h
def Lm {i:Int} {n:Nat} (h:1≤n∧n≤1000):IntKind.i64.wrap ((gk i n:Nat):Int)=((gk i n:Nat):Int):=by
 have:=oF i h.1
 exact wrap_i64 (by omega)
def sj (l:List dz):Nat:=(l.map fun a=>1+a.fo.length).sum
def Ln {l:List dz} {k:Nat} {a:dz} (h:l[k]? =some a):sj (l.take (k+1))=sj (l.take k)+1+a.fo.length:=by
 unfold sj
 rw [← bp h,cT,List.sum_append];simp;omega
def UH (l:List dz) (k:Nat):sj (l.take k)≤sj l:=by
 unfold sj
 conv=>rhs;rw [← List.take_append_drop k l]
 rw [cT,List.sum_append];omega
def PD (l:List dz):l.length≤sj l:=by
 induction l with
 |nil=>simp
 |cons a l ih=>unfold sj at*;simp only [fm,List.sum_cons,dM];omega
def Fg {l:List dz} {a:dz} (h:a∈l):a.fo.length≤sj l:=by
 induction l with
 |nil=>cases h
 |cons b l ih=>
  unfold sj at*
  simp only [fm,List.sum_cons]
  rcases dx.1 h with rfl|h
  ·omega
  ·have:=ih h;omega
abbrev dz.own (a:dz):aM:=az.row a.A a.c a.fo
def xc (i:Int) (n:Nat) (hn:1≤n∧n≤1000):Ct Cp 5 #[iv i,iv n] (fun _=>True) [] (fun v Cs=>v=iv ((gk i n:Nat):Int)∧Cs= []):=by
 refine cc Tryz.func5 fun w0 hp=>aa 10 fun _=>aC 8 (.int .u64 (n:Int)) (.int .u64 (IntKind.u64.wrap (n:Int))) (congrArg (Value.int .u64) (PC (by omega)))<|FU .rem .u64 (IntKind.u64.wrap i) (n:Int) ((gk i n:Nat):Int) qjq (DE i)<|aa 1 fun _=>aC 10 (iv ((gk i n:Nat):Int)) (iv (IntKind.i64.wrap ((gk i n:Nat):Int))) (iT (Lm (by omega)))<|qv7
def Lj (rp:Int) (Al:OA) (cl:Nat) (l:List dz) (hw:sj l≤4194304):Ct Cp 4 #[.agg #[iv rp,sl Al l.length cl]] (fun w=>lZ Al l w) [] (fun v Cs=> ∃(b:Bool),v=.bool b∧(b=false→(l.length:Int)≤200)∧Cs= []):=by
 refine cc Tryz.func4 fun w0 hp=>aa 15 fun a8=>aR (σ:=Nat) (fun k=> [(1,pv (a8 2)),(2,.bool false),(3,iv ((sj (l.take k):Nat):Int)),(4,iv k)]) (fun k=> [.b (a8 2) 24 [iv rp,sl Al l.length cl]]) (fun k=>k≤l.length) (fun k=>l.length-k) 0 [0] (bh _) ?_
 rintro _ k hk aB
 have hle:=UH l k
 have hln:=PD l
 refine ae 9 [0] fun _=>aG 10 ((k:Int)<(l.length:Int)) (fun h2=>?_) (fun h2=>?_)
 ·refine aa 4 fun _=>aq (((sj (l.take k):Nat):Int)<1048576) (fun h3=>?_) (fun h3=>?_)
  ·refine aa 6 fun _=>ao 17 (((sj (l.take k):Nat):Int)+1)<|ae 3 [0] fun _=>aV Al l.length (k:Int) 16 qhq<|aa 1 fun _=>?_
   obtain ⟨x4,e5⟩:=aw (xs:=l) (k:=k) (by omega)
   refine bd 32 (ad Al (k*16) 15) (sl x4.A x4.fo.length x4.c) (fun w h=>bW (K:=mw) (hp.1.aE h.ch) e5)<|aa 2 fun _=>ao (e:=by have:=Fg (aI e5);omega) 25 ((((sj (l.take k):Nat):Int)+1)+(x4.fo.length:Int))<|aa 6 fun _=>ao 15 ((k:Int)+1)<|aa 2 fun _=>?_
   have ji:=Ln e5
   refine aC 3 (iv ((sj (l.take (k+1)):Nat):Int)) (iv ((((sj (l.take k):Nat):Int)+1)+(x4.fo.length:Int))) (by rw [ji];simp only [Value.int.injEq,true_and];omega)<|aB _ (k+1) [0] kr (by omega) (by omega)
  ·refine aa 6 fun _=>aG 28 (((sj (l.take k):Nat):Int)>5000) (fun h6=>?_) (fun h6=>?_)
   ·exact qll
   ·exact qjj
 ·refine aa 11 fun _=>aG 28 (((sj (l.take k):Nat):Int)>5000) (fun h7=>?_) (fun h7=>?_)
  ·exact qll
  ·exact qjj
def Pz (rp:Int) (Al:OA) (cl:Nat) (l:List dz) (hw:sj l≤4194304):Ct Cp 6 #[.agg #[iv rp,sl Al l.length cl]] (fun w=>lZ Al l w) [] (fun v Cs=> ∃A2 c2 m,v=sl A2 m.length c2∧m.length≤60∧(∀a∈m,a.fo.length≤a.c)∧Cs= [mw.row A2 c2 m,aM.all (m.map dz.own)]):=by
 refine cc Tryz.func6 fun w0 hp=>aa 15 fun a8=>bG mw<|dQ<|aR (σ:=Nat×OA×Nat×List dz) (fun (k,B,d,m)=> [(1,pv (a8 2)),(2,sl none 0 0),(3,sl B m.length d),(4,iv k)]) (fun (k,B,d,m)=> [.b (a8 2) 24 [iv rp,sl Al l.length cl],.k (mw.row B d m),.k (aM.all (m.map dz.own))]) (fun (k,B,d,m)=>(k≤l.length∧k≤60)∧m.length=k∧ ∀a∈m,a.fo.length≤a.c) (fun (k,B,d,m)=>l.length-k) (0,none,0,[]) [0,1,2] ⟨⟨bh _,bh _⟩,rfl,by simp⟩ ?_
 rintro _ ⟨k,B,d,m⟩ ⟨⟨hk,ZQ⟩,oO,Y5⟩ aB
 refine ae 9 [0] fun _=>aG 11 ((k:Int)<(l.length:Int)) (fun h2=>?_) (fun h2=>?_)
 ·refine aa 4 fun _=>aq ((k:Int)<60) (fun h3=>?_) (fun h3=>?_)
  ·refine ae 8 [0] fun _=>aV Al l.length (k:Int) 16 qhq ?_
   obtain ⟨x4,e5⟩:=aw (xs:=l) (k:=k) (by omega)
   refine bd 34 (ad Al (k*16) 0) (.agg #[iv x4.kind,iv x4.rep,iv x4.fX.kind,iv x4.fX.node.t,iv x4.fX.node.r,iv x4.fX.par.t,iv x4.fX.par.r,iv x4.fX.oA.t,iv x4.fX.oA.r,iv x4.fX.prop,iv x4.fX.val,iv x4.fX.width,iv x4.wh,iv x4.num,iv x4.ug,sl x4.A x4.fo.length x4.c]) (fun w h=>bN (K:=mw) (hp.1.aE h.ch) e5)<|ae 7 [3,3] fun pW=>ah (sk x4.A x4.c x4.fo (by have:=Fg (aI e5);omega)) [] (fun w h=>(hp.2 x4 (aI e5)).aE h.ch) ?_
   rintro _ _ ⟨A7,c8,rfl,rfl⟩
   refine ae 7 [3,3] fun _=>ah (xc x4.num 12 (by decide)) [] cJ ?_
   rintro _ _ ⟨rfl,rfl⟩
   refine aa 1 fun _=>ao (e:=by have:=oF x4.num (n:=12) (by decide);omega) 29 (1+((gk x4.num 12:Nat):Int))<|ae 7 [3,3] fun EA=>bQ mw 1 B d m (so (EA 6)) 1 1 [(⟨x4.kind,x4.rep,x4.fX,x4.wh,1+((gk x4.num 12:Nat):Int),x4.ug,A7,c8,x4.fo⟩:dz)] (fun w h=>h.eT 5 (EA 6) 34 (List.flatMap mw.f [(⟨x4.kind,x4.rep,x4.fX,x4.wh,1+((gk x4.num 12:Nat):Int),x4.ug,A7,c8,x4.fo⟩:dz)]) kr) (by omega) fun po pK=>aa 6 fun _=>ao 16 ((k:Int)+1)<|aa 2 fun _=>dN (φ:=x4.fo.length≤c8) (fun w h=>h.mR (K:=az) 4 A7 c8 x4.fo kr) fun Ut=>eD dz.own 4 2 m (⟨x4.kind,x4.rep,x4.fX,x4.wh,1+((gk x4.num 12:Nat):Int),x4.ug,A7,c8,x4.fo⟩:dz) kr<|aB _ (k+1,po,pK,m++ [(⟨x4.kind,x4.rep,x4.fX,x4.wh,1+((gk x4.num 12:Nat):Int),x4.ug,A7,c8,x4.fo⟩:dz)]) [0,1,6] kr ⟨by omega,by rw [bm,oO];rfl,fun a ha=>(eG.1 ha).elim (Y5 a) fun e=>by rw [fv] at e;subst e;exact Ut⟩ du
  ·refine aa 6 fun _=>qpx
 ·refine aa 11 fun _=>qpx
end Go.Proofs.YtfookmefmjhonaaGreat.My
namespace Go.Proofs.YtfookmefmjhonaaGreat.My
open Go.RowKit Go.bE
def fG:Nat→List dz
 |0=> []
 |k+1=>fG k++ [⟨7,k,⟨0,⟨0,0⟩,⟨0,0⟩,⟨0,0⟩,0,0,0⟩,0,0,0,none,0,[]⟩,⟨8,k,⟨0,⟨0,0⟩,⟨0,0⟩,⟨0,0⟩,0,0,0⟩,0,0,0,none,0,[]⟩]
def xd (k:Nat):(fG k).length=2*k:=by
 induction k with
 |zero=>rfl
 |succ k ih=>rw [fG,bm,ih];simp;omega
def HA {k:Nat} {a:dz} (h:a∈fG k):a.fo.length≤a.c:=by
 induction k with
 |zero=>cases h
 |succ k ih=>
  rcases eG.1 h with h|h
  ·exact ih h
  ·simp only [dx,List.not_mem_nil,or_false] at h
   rcases h with rfl|rfl<;>exact bO _
def rO (l:List dz) (s:Nat→Nat): ∀k j:Nat,j<k→si (l++fG k) s j=1
 |0,j,h=>absurd h (Nat.not_lt_zero _)
 |k+1,j,h=>by
  have e:l++fG (k+1)=(l++fG k++ [⟨7,k,⟨0,⟨0,0⟩,⟨0,0⟩,⟨0,0⟩,0,0,0⟩,0,0,0,none,0,[]⟩])++ [⟨8,k,⟨0,⟨0,0⟩,⟨0,0⟩,⟨0,0⟩,0,0,0⟩,0,0,0,none,0,[]⟩]:=by simp [fG]
  rw [e,pB,pB]
  by_cases hj:j=k
  ·subst hj;simp [uE]
  ·have:=rO l s k j (by omega)
   have h2: ¬ ((j:Int)=k):=by omega
   simp [uE,this,h2]
structure Ms (n i:Nat) (y:c_):Prop where
 hb:y.d=aj y.d.rep y.d.hv y.d.ops
 rep:y.d.rep=i
 len:y.d.hv.length=n
 vec:dW y.d.hv
 chain:cP (bR n) y.d.ops y.d.hv
 ops: ∀o∈y.d.ops,bV o∧o.aX.length=n
 ol:y.d.ops.length≤2900
structure End (n:Nat) (ys:List c_):Prop where
 n0:1≤n∧n≤4
 len:ys.length=n
 ok: ∀(i:Nat) (y:c_),ys[i]? =some y→Ms n i y
 own: ∀(i:Nat) (y:c_),ys[i]? =some y→ ∀o∈y.d.ops,0≤o.st.r∧o.st.r<n∧ ∃z,ys[o.st.r.toNat]? =some z∧o∈z.d.ops
def Ms.pM {n i:Nat} {y:c_} (h:Ms n i y):gI y.d:=by
 have h1:=h.ol
 have h2:=h.vec.2.1
 rw [h.hb]
 exact mN (fun o ho=>(h.ops o ho).1) h2 (by omega)
def cP.last: ∀ {l:List bz} {u v:List Int} {q:Int},cP u l v→0≤q→(∀o∈l,0≤o.st.r∧o.st.r<u.length)→dA v q=dA u q∨ ∃o∈l,o.st.r=q∧dA v q=o.seq
 | [],u,v,q,h,_,_=>by have h:v=u:=h;subst h;exact .inl rfl
 |x::l,u,v,q,h,hq,hr=>by
  obtain ⟨_,h2⟩:=h
  rcases cP.last h2 hq (fun o ho=>by rw [cX];exact hr o (bH _ ho)) with h3|⟨o,ho,h3⟩
  ·rw [re (hr x cE) q hq] at h3
   by_cases e:q=x.st.r
   ·rw [if_pos e] at h3;exact .inr ⟨x,cE,e.symm,h3⟩
   ·rw [if_neg e] at h3;exact .inl h3
  ·exact .inr ⟨o,bH _ ho,h3⟩
def End.of {n k:Nat} {W:kX} {ys:List c_} {s:Nat→Nat} (h:WI n k W) (hs:Sw s W) (hf: ∀j,j<n→s j=1) (ht:Told W n ys) (vh: ∀(i:Nat) (r:m'),W.aF[i]? =some r→r.d.ops.length≤2900):End n ys:=by
 refine ⟨h.n0,ht.1,fun i y hy=>?_,fun i y hy o ho=>?_⟩
 ·obtain ⟨r,hr,e⟩:=ht.2 i y hy
  have hi:i<n:=by have:=(aN.1 hr).1;rw [h.len] at this;exact this
  have h1:=h.rep i r hr
  have h2:r.d=aj i r.d.hv r.d.ops:=(hs i r hr).2 (hf i hi)
  have h3:y.d=aj y.d.rep y.d.hv y.d.ops:=by rw [e,h1.rep];exact h2
  exact ⟨h3,by rw [e];exact (h.rep i r hr).rep,by rw [e];exact (h.rep i r hr).len,by rw [e];exact (h.rep i r hr).vec,by rw [e];exact (h.rep i r hr).chain,by rw [e];exact (h.rep i r hr).ops,by rw [e];exact vh i r hr⟩
 ·obtain ⟨r,hr,e⟩:=ht.2 i y hy
  rw [e] at ho
  have h1:=(h.rep i r hr).aF.1 o ho
  obtain ⟨q,hq,hoq⟩:=h.own r (aI hr) o (.inl ho)
  have hl:o.st.r.toNat<ys.length:=by rw [ht.1];omega
  obtain ⟨p,hp,e2⟩:=ht.2 _ _ (dw hl)
  rw [hq] at hp
  injection hp with hp
  subst hp
  exact ⟨h1.1,h1.2,ys[o.st.r.toNat],dw hl,by rw [e2];exact hoq⟩
def Ms.aF {n i:Nat} {y:c_} (h:Ms n i y): ∀o∈y.d.ops,0≤o.st.r∧o.st.r<n:=fun o ho=>oK (h.ops o ho).1 (h.ops o ho).2
def End.le {n i k:Nat} {ys:List c_} {y z:c_} (h:End n ys) (hy:ys[i]? =some y) (hz:ys[k]? =some z) {a b:Int} (ha:y.d.hv[k]? =some a) (hb:z.d.hv[k]? =some b):a≤b:=by
 have h1:=h.ok i y hy
 have h2:=h.ok k z hz
 have ea:dA y.d.hv k=a:=by unfold dA;rw [bA,Int.toNat_natCast,ha];rfl
 have eb:dA z.d.hv k=b:=by unfold dA;rw [bA,Int.toNat_natCast,hb];rfl
 rcases cP.last h1.chain (Int.natCast_nonneg k) (by rw [eA];exact h1.aF) with h3|⟨o,ho,e,h3⟩
 ·have h4:dA (bR n) k=0:=by
   unfold dA
   rw [bA,List.getElem?_replicate]
   split<;>rfl
  have h5:=(h2.vec.2.2 b (aI hb)).1
  omega
 ·obtain ⟨_,_,q,hq,hoq⟩:=h.own i y hy o ho
  rw [e,Int.toNat_natCast,hz] at hq
  injection hq with hq
  subst hq
  have h6:=((h2.chain.up (by rw [eA];exact h2.aF)).2 o hoq).2
  rw [e] at h6
  omega
def lh (f:c_→List aT) (ys:List c_) (w:World):Prop:= ∀y∈ys,AH y w∧ir y.a.Ao (f y) w
open Classical in
def Mt {U:Nat→Prop} {w0 w:World} {ys:List c_} (hf: ∀y∈ys,gI y.d) {K:List aM} (hS:SS U w0 w (aM.all (ys.map SA)::K)): ∃(f:c_→List aT) (C:List aM),(∀y∈ys,(f y).map (·.o)=y.d.ops)∧mA (lh f ys) C∧SS U w0 w (C++K):=by
 induction ys generalizing K with
 |nil=>exact ⟨fun _=> [],[],(by simp),fun _ _ _ _ y hy=>(by cases hy),hS.tail⟩
 |cons y ys ih=>
  have h1:SS U w0 w (SA y::(ys.map SA++K)):=SS.all hS
  have h2:=h1.perm (List.perm_middle (a:=SA y) (l₁:=ys.map SA) (l₂:=K)).symm
  obtain ⟨f,C,hm,hg,h3⟩:=ih (fun z hz=>hf z (bH _ hz)) (SS.tz h2)
  have h4:=h3.perm List.perm_middle
  obtain ⟨C1,rfl,h5⟩:=SS.g9 h4
  have h6:=h5.perm (List.Perm.swap (cV y.a.Ao y.a.co y.d.ops) (az.row y.a.Ah y.a.ch y.d.hv) _)
  obtain ⟨C2,⟨zs,hz,rfl⟩,h7⟩:=SS.g9 h6
  refine ⟨fun x=>if x=y then zs else f x,[bx.row y.a.Ao y.a.co zs,aM.all (zs.map aT.own),az.row y.a.Ah y.a.ch y.d.hv,cV y.a.Ax y.a.cx y.d.held,iK y.a.An y.a.cn y.a.Am y.a.cm (dJ y.d.ops),kI y.a.Al y.a.cl (fY y.d.ops)]++C,fun x hx=>?_,?_,h7⟩
  ·by_cases e:x=y
   ·simp only [e,if_true];exact hz
   ·simp only [e,if_false];exact hm x ((dx.1 hx).resolve_left e)
  ·intro U' w0' w' xB
   have hl:=xB.left
   have hr:lh f ys w':=hg _ _ _ (SS.left (xB.perm List.perm_append_comm))
   have YX:=hf y cE
   have gX:ir y.a.Ao zs w':=by
    have NC:zs.length=y.d.ops.length:=by rw [← hz,cM]
    have:=YX.ol
    exact ⟨by omega,SS.get hl (i:=0) rfl fun F hF=>Row.rc hF.2,fun x hx=>⟨gg (YX.ops x.o (by rw [← hz];exact di hx)),SS.get hl (i:=1) rfl fun F hF=>by
     obtain ⟨F',Bp⟩:=s9 (di (f:=aT.own) hx) hF
     exact Row.rc Bp.2⟩⟩
   have ji:AH y w':=by
    have a1:=SS.rE (φ:=hZ y.a.Ao y.a.co y.d.ops) (C:= [bx.row y.a.Ao y.a.co zs,aM.all (zs.map aT.own)]) hl ⟨zs,hz,rfl⟩
    have a2:=a1.perm (List.Perm.swap (az.row y.a.Ah y.a.ch y.d.hv) _ _)
    have a3:SS U' w0' w' [SA y]:=SS.rE (φ:=SP y) (K:= []) (by rw [fj];exact a2) rfl
    exact K1 a3 cE YX
   intro x hx
   by_cases e:x=y
   ·simp only [e,if_true];exact ⟨ji,gX⟩
   ·simp only [e,if_false];exact hr x ((dx.1 hx).resolve_left e)
end Go.Proofs.YtfookmefmjhonaaGreat.My
namespace Go.bE
open Go.RowKit Go.Proofs.YtfookmefmjhonaaGreat.My
def Lk {P:Program} {n:Nat} {U:Nat→Prop} {w0:World} {Q:Exit→Act→World→Prop} {s:S} (j:Nat) (ys:List c_) (h:(dR s.H.length [j],pk s.H [j])=(true,[aM.all (ys.map SA)])) (hf: ∀y∈ys,gI y.d) (k:G P n U w0 Q {s with H:=gv s.H [j] [.k (g9 fun Cs=> ∃f:c_→List aT,(∀y∈ys,(f y).map (·.o)=y.d.ops)∧Cs= [Gr (lh f ys)])]}):G P n U w0 Q s:=
 js [j] _ [.k (g9 fun Cs=> ∃f:c_→List aT,(∀y∈ys,(f y).map (·.o)=y.d.ops)∧Cs= [Gr (lh f ys)])] h (fun w K hS=>by
  obtain ⟨f,C,h1,h2,h3⟩:=Mt hf hS
  exact SS.rE (C:= [Gr (lh f ys)]) (SS.rE (φ:=mA (lh f ys)) h3 h2) ⟨f,h1,rfl⟩) k
end Go.bE

/- For the law of worlds: What lies in memory; What functions do. -/
import Derived.Test.YtfookmefmjhonaaGreatZ25
set_option linter.all false
namespace Go.Proofs.YtfookmefmjhonaaGreat.My
open Go.RowKit Go.bE
abbrev bR (n:Nat):List Int:=List.replicate n 0
def aj (rep:Int) (v:List Int) (l:List bz):j9:=⟨rep,v,l,[],0,0,0⟩
def cP.at: ∀ {l:List bz} {v v':List Int} {i:Nat} {o:bz},cP v l v'→l[i]? =some o→ ∃u,cP v (l.take i) u∧cQ u o∧cP (u.set o.st.r.toNat o.seq) (l.drop (i+1)) v'
 | [],_,_,_,_,_,h=>by simp at h
 |x::l,v,v',0,o,h,e=>by
  simp only [gQ,a9] at e
  subst e
  exact ⟨v,rfl,h.1,h.2⟩
 |x::l,v,v',i+1,o,h,e=>by
  obtain ⟨u,h1,h2,h3⟩:=cP.at (i:=i) h.2 J1
  exact ⟨u,⟨h.1,h1⟩,h2,h3⟩
def mN {rep:Int} {v:List Int} {l:List bz} (hm: ∀o∈l,bV o) (hv:v.length≤16) (hl:l.length≤3000):gI (aj rep v l):=⟨hm,by simp [aj],hv,hl,by simp [aj]⟩
def Oz (rep:Int) (n:Nat) (hn:n≤16):Ct Cp 70 #[iv rep,iv n] (fun _=>True) [] (fun v Cs=> ∃a,v=.agg #[iv ((aj rep (bR n) []).rep),iv (bq (aj rep (bR n) []).ops),sl a.Ah ((aj rep (bR n) []).hv.length) a.ch,sl a.Ao ((aj rep (bR n) []).ops.length) a.co,sl a.Ax ((aj rep (bR n) []).held.length) a.cx,sl a.An ((ai (dJ (aj rep (bR n) []).ops) []).length) a.cn,sl a.Am ((dJ (aj rep (bR n) []).ops).length) a.cm,sl a.Al ((fY (aj rep (bR n) []).ops).length) a.cl,iv ((aj rep (bR n) []).wait),iv ((aj rep (bR n) []).dT),iv ((aj rep (bR n) []).aW)]∧Cs= [SA (⟨aj rep (bR n) [],a⟩)]):=by
 refine cc Tryz.func70 fun w0 hp=>qa1
def ad3 (rep:Int) (n:Nat) (h0:1≤n∧n≤16∧0≤rep∧rep<n):Ct Cp 47 #[iv rep,iv n] (fun _=>True) [] (fun v Cs=>v=.bool true∧Cs= []):=by
 refine cc Tryz.func47 fun w0 hp=>aa 9 fun _=>aG 7 ((n:Int)≥1) (fun h1=>?_) (fun h1=>?_)
 ·refine aa 4 fun _=>aG 11 ((n:Int)≤16) (fun h2=>?_) (fun h2=>?_)
  ·refine aa 4 fun _=>aG 15 (rep≥0) (fun h3=>?_) (fun h3=>?_)
   ·refine aa 6 fun _=>a_ [] ⟨kt (.bool (decide (rep<(n:Int)))) (dP (by simp;omega)),kr⟩
   ·exact kp
  ·exact kp
 ·exact kp
def OB (rep:Int) (n:Nat) (A:OA) (c:Nat) (l:List bz) (v2:List Int) (hn:n≤16) (hc:cP (bR n) l v2) (hm: ∀o∈l,bV o∧o.aX.length=n) (hl:l.length≤2900):Ct Cp 48 #[iv rep,iv n,sl A l.length c] (fun w=>ph A l w) [] (fun v Cs=> ∃a,v=.tuple #[.agg #[iv ((aj rep v2 l).rep),iv (bq (aj rep v2 l).ops),sl a.Ah ((aj rep v2 l).hv.length) a.ch,sl a.Ao ((aj rep v2 l).ops.length) a.co,sl a.Ax ((aj rep v2 l).held.length) a.cx,sl a.An ((ai (dJ (aj rep v2 l).ops) []).length) a.cn,sl a.Am ((dJ (aj rep v2 l).ops).length) a.cm,sl a.Al ((fY (aj rep v2 l).ops).length) a.cl,iv ((aj rep v2 l).wait),iv ((aj rep v2 l).dT),iv ((aj rep v2 l).aW)],.bool true]∧Cs= [SA (⟨aj rep v2 l,a⟩)]):=by
 refine cc Tryz.func48 fun w0 hp=>?_
 obtain ⟨ys,AL,ve⟩:=hp
 have mJ:ys.length=l.length:=by rw [← AL,cM]
 refine aC 2 (sl A ys.length c) (sl A l.length c) (by rw [mJ])<|aa 5 fun a8=>ed 0 (σ:=Nat×List Int×aT×Nat) (fun (i,u,y,g8)=> [(0,iv rep),(1,iv n),(2,sl A ys.length c),(6,pv (a8 2)),(7,.bool false),(8,pv g8),(9,iv i)]) (fun (i,u,y,g8)=> [.k (oY (a8 2) (aj rep u (l.take i))),.b g8 56 [iv y.o.st.t,iv y.o.st.r,iv y.o.seq,sl y.A y.o.aX.length y.c,iv y.o.kind,iv y.o.node.t,iv y.o.node.r,iv y.o.par.t,iv y.o.par.r,.string y.o.key,iv y.o.prop,iv y.o.val]]) (fun (i,u,y,g8)=>i≤l.length∧cP (bR n) (l.take i) u∧cP u (l.drop i) v2) (fun (i,u,y,g8)=>l.length-i) ?_ ?_
 ·intro _ cG
  refine aa 8 fun ld=>ah (Oz rep n hn) [] cJ ?_
  rintro _ _ ⟨a3,rfl,rfl⟩
  refine ae 8 [0] fun _=>aJ (pT (a8 2) (aj rep (bR n) [])) [0,2] [bJ (a8 2) 54 [iv ((aj rep (bR n) []).rep),iv (bq (aj rep (bR n) []).ops),sl a3.Ah ((aj rep (bR n) []).hv.length) a3.ch,sl a3.Ao ((aj rep (bR n) []).ops.length) a3.co,sl a3.Ax ((aj rep (bR n) []).held.length) a3.cx,sl a3.An ((ai (dJ (aj rep (bR n) []).ops) []).length) a3.cn,sl a3.Am ((dJ (aj rep (bR n) []).ops).length) a3.cm,sl a3.Al ((fY (aj rep (bR n) []).ops).length) a3.cl,iv ((aj rep (bR n) []).wait),iv ((aj rep (bR n) []).dT),iv ((aj rep (bR n) []).aW)],SA (⟨aj rep (bR n) [],a3⟩)] (⟨a3,rfl⟩)<|aD 3 (oY (a8 2) (aj rep (bR n) [])) (oY (a8 2) (aj rep (bR n) (l.take 0))) kr (by rw [List.take_zero])<|cG _ (0,bR n,(⟨⟨⟨0,0⟩,0,[],0,⟨0,0⟩,⟨0,0⟩,cW,0,0⟩,none,0⟩:aT),(ld 2)) [4,1] kr ⟨bh _,rfl,hc⟩
 ·rintro _ ⟨i,u,y,g8⟩ ⟨hi,r5,OC⟩ dm
  refine aa 8 fun _=>aq ((i:Int)=(ys.length:Int)) (fun h4=>?_) (fun h4=>?_)
  ·refine bn (φ:=pT (a8 2) (aj rep u (l.take i))) 0 ?_
   rintro _ ⟨a,rfl⟩
   refine dB 2 (a8 2) 54 qaq<|bn (φ:=SP ⟨aj rep u (l.take i),a⟩) 3 ?_
   rintro _ rfl
   refine ae 6 [2,2] fun _=>?_
   have ei:l.take i=l:=cA (by omega)
   have ev:u=v2:=by rw [eJ (by omega)] at OC;exact OC.symm
   refine aJ (SP ⟨aj rep u (l.take i),⟨a.Ah,a.ch,a.Ao,a.co,a.Ax,a.cx,a.An,a.cn,a.Am,a.cm,a.Al,a.cl⟩⟩) [4,5,6,7,8] [az.row a.Ah a.ch ((aj rep u (l.take i)).hv),cV a.Ao a.co ((aj rep u (l.take i)).ops),cV a.Ax a.cx ((aj rep u (l.take i)).held),iK a.An a.cn a.Am a.cm (dJ (aj rep u (l.take i)).ops),kI a.Al a.cl (fY (aj rep u (l.take i)).ops)] rfl<|aD 9 (SA (⟨aj rep u (l.take i),⟨a.Ah,a.ch,a.Ao,a.co,a.Ax,a.cx,a.An,a.cn,a.Am,a.cm,a.Al,a.cl⟩⟩)) (SA (⟨aj rep v2 l,⟨a.Ah,a.ch,a.Ao,a.co,a.Ax,a.cx,a.An,a.cn,a.Am,a.cm,a.Al,a.cl⟩⟩)) kr (by rw [ei,ev])<|bk [2] [10] ⟨⟨a.Ah,a.ch,a.Ao,a.co,a.Ax,a.cx,a.An,a.cn,a.Am,a.cm,a.Al,a.cl⟩,kt (.tuple #[.agg #[iv ((aj rep u (l.take i)).rep),iv (bq (aj rep u (l.take i)).ops),sl a.Ah ((aj rep u (l.take i)).hv.length) a.ch,sl a.Ao ((aj rep u (l.take i)).ops.length) a.co,sl a.Ax ((aj rep u (l.take i)).held.length) a.cx,sl a.An ((ai (dJ (aj rep u (l.take i)).ops) []).length) a.cn,sl a.Am ((dJ (aj rep u (l.take i)).ops).length) a.cm,sl a.Al ((fY (aj rep u (l.take i)).ops).length) a.cl,iv ((aj rep u (l.take i)).wait),iv ((aj rep u (l.take i)).dT),iv ((aj rep u (l.take i)).aW)],.bool true]) (by rw [ei,ev]),kr⟩
  ·refine bn (φ:=pT (a8 2) (aj rep u (l.take i))) 0 ?_
   rintro _ ⟨a,rfl⟩
   refine dB 2 (a8 2) 54 qaq<|bn (φ:=SP ⟨aj rep u (l.take i),a⟩) 3 ?_
   rintro _ rfl
   obtain ⟨x5,e6⟩:=aw (xs:=ys) (k:=i) (by omega)
   have Nl:l[i]? =some x5.o:=by rw [← AL,fk,e6];rfl
   obtain ⟨Cm,Wo⟩:=hm _ (aI Nl)
   have Tw:cQ u x5.o∧cP (u.set x5.o.st.r.toNat x5.o.seq) (l.drop (i+1)) v2:=by have hk:=(aN.1 Nl).1;have sE:=(aN.1 Nl).2;rw [fI hk,sE] at OC;exact OC
   obtain ⟨C6,JY⟩:=Tw
   have hul:u.length=n:=by rw [r5.len,eA]
   have RC:(aj rep u (l.take i)).hv.length=n:=hul
   have XQ:=Cm.2.2.1
   have rB:=Cm.1
   unfold bY at rB
   have hx1:=oh Cm
   have S9:=CP Cm
   have hfb:gI (aj rep u (l.take i)):=mN (fun o ho=>(hm o (gU ho)).1) (by omega) C7
   refine aa 6 fun _=>aV A ys.length (i:Int) 12 qlp<|bd 56 (ad A (i*12) 0) (bx.V x5) (fun w h=>bN (K:=bx) (ve.2.1.aE h.ch) e6)<|ae 5 [1,1] fun _=>ah (wJ x5) [] (fun w h=>((ve.2.2 x5 (aI e6)).aE h.ch)) ?_
   rintro _ _ ⟨rfl,rfl⟩
   refine aa 2 fun _=>eV 25 (bV x5.o) (fun h7=>?_) (fun h7=>?_)
   ·exact (show False from absurd Cm h7).elim
   ·refine ae 7 [1] fun _=>eV 32 ((x5.o.aX.length:Int)=(n:Int)) (fun h8=>?_) (fun h8=>?_)
    ·exact (show False from h8 (by omega)).elim
    ·refine ae 3 [2,1] fun _=>ah (isReady a.Ah a.ch ((aj rep u (l.take i)).hv) x5 (by omega) (by omega) (by omega) (by omega) (by omega) (by omega)) [] (fun w h=>⟨h.bg 4 a.Ah a.ch ((aj rep u (l.take i)).hv) kr,((ve.2.2 x5 (aI e6)).aE h.ch)⟩) ?_
     rintro _ _ ⟨rfl,rfl⟩
     refine aa 3 fun _=>cU (cQ ((aj rep u (l.take i)).hv) x5.o) (fun h9=>?_) (fun h9=>?_)
     ·exact qqc
     ·refine ae 10 [2,1,1] fun _=>aV a.Ah ((aj rep u (l.take i)).hv.length) x5.o.st.r 1 (fun w h=>Kd.cd (K:=az) (xs:=(aj rep u (l.take i)).hv) (h.bg 4 a.Ah a.ch ((aj rep u (l.take i)).hv) kr) (by omega)) ?_
      obtain ⟨gA,zF⟩:=aw (xs:=(aj rep u (l.take i)).hv) (k:=x5.o.st.r.toNat) (by omega)
      refine gH az 4 a.Ah a.ch ((aj rep u (l.take i)).hv) x5.o.st.r.toNat 0 gA x5.o.seq 3 (iv x5.o.seq) zF<|ae 4 [1] fun _=>bP 2 (a8 2) 54 qaq [iv ((aj rep u (l.take i)).rep),iv (bq (aj rep u (l.take i)).ops),sl a.Ah ((((aj rep u (l.take i)).hv).set x5.o.st.r.toNat x5.o.seq).length) a.ch,sl a.Ao ((aj rep u (l.take i)).ops.length) a.co,sl a.Ax ((aj rep u (l.take i)).held.length) a.cx,sl a.An ((ai (dJ (aj rep u (l.take i)).ops) []).length) a.cn,sl a.Am ((dJ (aj rep u (l.take i)).ops).length) a.cm,sl a.Al ((fY (aj rep u (l.take i)).ops).length) a.cl,iv ((aj rep u (l.take i)).wait),iv ((aj rep u (l.take i)).dT),iv ((aj rep u (l.take i)).aW)] kr (by rw [cX])<|aJ (SP ⟨aj rep (((aj rep u (l.take i)).hv).set x5.o.st.r.toNat x5.o.seq) (l.take i),⟨a.Ah,a.ch,a.Ao,a.co,a.Ax,a.cx,a.An,a.cn,a.Am,a.cm,a.Al,a.cl⟩⟩) [4,5,6,7,8] [az.row a.Ah a.ch (((aj rep u (l.take i)).hv).set x5.o.st.r.toNat x5.o.seq),cV a.Ao a.co ((aj rep u (l.take i)).ops),cV a.Ax a.cx ((aj rep u (l.take i)).held),iK a.An a.cn a.Am a.cm (dJ (aj rep u (l.take i)).ops),kI a.Al a.cl (fY (aj rep u (l.take i)).ops)] rfl<|aJ (pT (a8 2) (aj rep (((aj rep u (l.take i)).hv).set x5.o.st.r.toNat x5.o.seq) (l.take i))) [2,9] [bJ (a8 2) 54 [iv ((aj rep u (l.take i)).rep),iv (bq (aj rep u (l.take i)).ops),sl a.Ah ((((aj rep u (l.take i)).hv).set x5.o.st.r.toNat x5.o.seq).length) a.ch,sl a.Ao ((aj rep u (l.take i)).ops.length) a.co,sl a.Ax ((aj rep u (l.take i)).held.length) a.cx,sl a.An ((ai (dJ (aj rep u (l.take i)).ops) []).length) a.cn,sl a.Am ((dJ (aj rep u (l.take i)).ops).length) a.cm,sl a.Al ((fY (aj rep u (l.take i)).ops).length) a.cl,iv ((aj rep u (l.take i)).wait),iv ((aj rep u (l.take i)).dT),iv ((aj rep u (l.take i)).aW)],SA (⟨aj rep (((aj rep u (l.take i)).hv).set x5.o.st.r.toNat x5.o.seq) (l.take i),⟨a.Ah,a.ch,a.Ao,a.co,a.Ax,a.cx,a.An,a.cn,a.Am,a.cm,a.Al,a.cl⟩⟩)] (⟨⟨a.Ah,a.ch,a.Ao,a.co,a.Ax,a.cx,a.An,a.cn,a.Am,a.cm,a.Al,a.cl⟩,rfl⟩)<|bD (EK (a8 2) x5 (aj rep (((aj rep u (l.take i)).hv).set x5.o.st.r.toNat x5.o.seq) (l.take i)) (mN (fun o ho=>(hm o (gU ho)).1) (by rw [cX];omega) C7)) [10] (fun w F h=>(ve.2.2 x5 (aI e6)).u0.ew h) ?_
      rintro _ _ ⟨rfl,rfl⟩
      refine aa 5 fun _=>ao 51 ((i:Int)+1)<|aa 2 fun _=>aD 11 (oY (a8 2) ({(aj rep (((aj rep u (l.take i)).hv).set x5.o.st.r.toNat x5.o.seq) (l.take i)) with ops:=(aj rep (((aj rep u (l.take i)).hv).set x5.o.st.r.toNat x5.o.seq) (l.take i)).ops++ [x5.o]})) (oY (a8 2) (aj rep (u.set x5.o.st.r.toNat x5.o.seq) (l.take (i+1)))) kr qsa<|dm _ (i+1,u.set x5.o.st.r.toNat x5.o.seq,x5,g8) [12,1] kr ⟨by omega,by rw [← bp Nl];exact r5.snoc C6,JY⟩ du
def Gu (rep:Int) (n:Nat) (A:OA) (c:Nat) (l:List bz) (v2:List Int) (h0:1≤n∧n≤16∧0≤rep∧rep<n) (hn:n≤16) (hc:cP (bR n) l v2) (hm: ∀o∈l,bV o∧o.aX.length=n) (hl:l.length≤2900):Ct Cp 24 #[iv rep,iv n,sl A l.length c] (fun w=>ph A l w) [] (fun v Cs=> ∃a,v=.tuple #[.agg #[iv ((aj rep v2 l).rep),iv (bq (aj rep v2 l).ops),sl a.Ah ((aj rep v2 l).hv.length) a.ch,sl a.Ao ((aj rep v2 l).ops.length) a.co,sl a.Ax ((aj rep v2 l).held.length) a.cx,sl a.An ((ai (dJ (aj rep v2 l).ops) []).length) a.cn,sl a.Am ((dJ (aj rep v2 l).ops).length) a.cm,sl a.Al ((fY (aj rep v2 l).ops).length) a.cl,iv ((aj rep v2 l).wait),iv ((aj rep v2 l).dT),iv ((aj rep v2 l).aW)],iv 0]∧Cs= [SA (⟨aj rep v2 l,a⟩)]):=by
 refine cc Tryz.func24 fun w0 hp=>aa 10 fun a8=>ah (ad3 rep n h0) [] cJ ?_
 rintro _ _ ⟨rfl,rfl⟩
 refine aa 9 fun _=>ah (OB rep n A c l v2 (by omega) hc hm hl) [] il ?_
 rintro _ _ ⟨a2,rfl,rfl⟩
 refine ae 21 [2,2,0] fun nB=>bk [0] [1] ⟨a2,kr,kr⟩
def JZ (g:Nat) (d:j9) (h0:0≤d.aW∧d.aW≤1099511627776):Ct Cp 153 #[pv g] (fun _=>True) [oY g d] (fun v Cs=>v=.tuple #[]∧Cs= [oY g ({d with aW:=if 1099511627776<d.aW+1 then 1099511627776 else d.aW+1})]):=by
 refine Fz [.k (oY g d)] Tryz.func153 fun U w0 hp=>bn (φ:=pT g d) 0 ?_
 rintro _ ⟨a,rfl⟩
 refine dB 1 g 54 [iv d.rep,iv (bq d.ops),sl a.Ah d.hv.length a.ch,sl a.Ao d.ops.length a.co,sl a.Ax d.held.length a.cx,sl a.An ((ai (dJ d.ops) []).length) a.cn,sl a.Am ((dJ d.ops).length) a.cm,sl a.Al ((fY d.ops).length) a.cl,iv d.wait,iv d.dT,iv d.aW]<|bn (φ:=SP ⟨d,a⟩) 2 ?_
 rintro _ rfl
 refine ae 7 [1] fun _=>ao 7 (d.aW+1)<|ae 5 [1] fun _=>aJ (SP ⟨{d with aW:=if 1099511627776<d.aW+1 then 1099511627776 else d.aW+1},⟨a.Ah,a.ch,a.Ao,a.co,a.Ax,a.cx,a.An,a.cn,a.Am,a.cm,a.Al,a.cl⟩⟩) [3,4,5,6,7] [az.row a.Ah a.ch d.hv,cV a.Ao a.co d.ops,cV a.Ax a.cx d.held,iK a.An a.cn a.Am a.cm (dJ d.ops),kI a.Al a.cl (fY d.ops)] rfl<|aJ (pT g ({d with aW:=if 1099511627776<d.aW+1 then 1099511627776 else d.aW+1})) [1,8] [bJ g 54 [iv d.rep,iv (bq d.ops),sl a.Ah d.hv.length a.ch,sl a.Ao d.ops.length a.co,sl a.Ax d.held.length a.cx,sl a.An ((ai (dJ d.ops) []).length) a.cn,sl a.Am ((dJ d.ops).length) a.cm,sl a.Al ((fY d.ops).length) a.cl,iv d.wait,iv d.dT,iv (if 1099511627776<(d.aW+1) then 1099511627776 else d.aW+1)],SA (⟨{d with aW:=if 1099511627776<d.aW+1 then 1099511627776 else d.aW+1},⟨a.Ah,a.ch,a.Ao,a.co,a.Ax,a.cx,a.An,a.cn,a.Am,a.cm,a.Al,a.cl⟩⟩)] (⟨⟨a.Ah,a.ch,a.Ao,a.co,a.Ax,a.cx,a.An,a.cn,a.Am,a.cm,a.Al,a.cl⟩,rfl⟩)<|a_ [9] ⟨kr,kr⟩
def iI (x n:Int):Int:=if x+1=n then 0 else x+1
def w4 {x n:Int} (h0:0≤x) (h1:x<n) (h2:n≤16):NW .rem .i64 (x+1) n=iI x n:=by
 unfold iI
 have e:Int.tmod (x+1) n=if x+1=n then 0 else x+1:=by
  rw [Int.tmod_eq_emod_of_nonneg (by omega)]
  split
  ·rename_i h;rw [h,Int.emod_self]
  ·exact Int.emod_eq_of_lt (by omega) (by omega)
 rw [← e]
 rfl
def j5 {x n:Int} (h0:0≤x) (h1:x<n):0≤iI x n∧iI x n<n:=by unfold iI;split<;>omega
def MU {x n:Int} (h0:0≤x) (h1:x<n) (h2:2≤n):iI x n≠x:=by unfold iI;split<;>omega
def JN (x r:Int) (n:Nat) (h0:1≤n∧n≤16∧0≤r∧r<n∧0≤x∧x<n):Ct Cp 117 #[iv x,iv r,iv n] (fun _=>True) [] (fun v Cs=>(∃(wm th:Int),v=.tuple #[iv wm,iv th,iv 0]∧(0≤wm∧wm<n∧ ¬r=wm∧0≤th∧th<n)∧Cs= [])∨(v=.tuple #[iv 0,iv 0,iv 3]∧n=1∧Cs= [])):=by
 refine cc Tryz.func117 fun w0 hp=>aa 13 fun _=>aG 12 ((n:Int)<1) (fun h1=>?_) (fun h1=>?_)
 ·exact kp
 ·refine aa 4 fun _=>aG 16 ((n:Int)>16) (fun h2=>?_) (fun h2=>?_)
  ·exact kp
  ·refine aa 4 fun _=>aG 20 (r<0) (fun h3=>?_) (fun h3=>?_)
   ·exact kp
   ·refine aa 5 fun _=>aG 25 (r≥(n:Int)) (fun h4=>?_) (fun h4=>?_)
    ·exact kp
    ·refine aa 4 fun _=>aG 29 (x<0) (fun h5=>?_) (fun h5=>?_)
     ·exact kp
     ·refine aa 6 fun _=>aq (x≥(n:Int)) (fun h6=>?_) (fun h6=>?_)
      ·exact kp
      ·refine aa 6 fun _=>aq ((n:Int)=1) (fun h7=>?_) (fun h7=>?_)
       ·refine aa 6 fun _=>a_ [] (.inr ⟨kr,by omega,kr⟩)
       ·refine aa 14 fun _=>aq (x=r) (fun h8=>?_) (fun h8=>?_)
        ·refine aa 3 fun _=>ao (e:=by first|omega|(have:=j5 (x:=x) (n:=n) (by omega) (by omega);omega)) 42 (x+1)<|aa 1 fun _=>FU .rem .i64 (x+1) (n:Int) (iI x (n:Int)) qjq qo9<|aa 3 fun _=>aK [(2,_),(4,iv (iI (iI x (n:Int)) (n:Int)))] [] ⟨fM (e:=by first|omega|(have:=j5 (x:=x) (n:=n) (by omega) (by omega);omega)) ((iI x (n:Int))+1),NX .rem .i64 ((iI x (n:Int))+1) (n:Int) (iI (iI x (n:Int)) (n:Int)) qjq (w4 ((j5 (by omega) (by omega)).1) ((j5 (by omega) (by omega)).2) (by omega)),trivial⟩<|a_ [] (.inl ⟨iI x (n:Int),iI (iI x (n:Int)) (n:Int),kr,by have h7:=j5 (x:=x) (n:=n) (by omega) (by omega);have h8:=j5 (x:=iI x n) (n:=n) h7.1 h7.2;have h9:=MU (x:=x) (n:=n) (by omega) (by omega) (by omega);omega,kr⟩)
        ·refine aa 2 fun _=>aK [(2,_),(4,iv (iI x (n:Int)))] [] ⟨fM (e:=by first|omega|(have:=j5 (x:=x) (n:=n) (by omega) (by omega);omega)) (x+1),NX .rem .i64 (x+1) (n:Int) (iI x (n:Int)) qjq qo9,trivial⟩<|a_ [] (.inl ⟨x,iI x (n:Int),kr,by have h7:=j5 (x:=x) (n:=n) (by omega) (by omega);omega,kr⟩)
def Om (r t:Int) (Ahv:OA) (chv:Nat) (hv:List Int) (hf:gN ⟨r,t,1,hv,[]⟩) (hb:hv.length≤16):Ct Cp 118 #[iv r,iv t,sl Ahv hv.length chv] (fun w=>az.Rd Ahv hv w) [] (fun v Cs=> ∃A c,v=.tuple #[.agg #[iv r,iv t,iv 1,sl A hv.length c,sl none 0 0],iv 0]∧Cs= [az.row A c hv]):=by
 refine cc Tryz.func118 fun w0 hp=>aa 10 fun a8=>ah (qu Ahv chv hv (by omega)) [] il ?_
 rintro _ _ ⟨A2,c3,rfl,rfl⟩
 refine ae 8 [2,2] fun rM=>ah (uv (⟨r,t,1,hv,A2,c3,[],none,0⟩:lD)) [] (fun w h=>⟨by show hv.length≤_;omega,h.bg 1 A2 c3 hv kr,by simp,Rc.nil _ _,by simp⟩) ?_
 rintro _ _ ⟨rfl,rfl⟩
 refine aa 2 fun _=>cU (gN (⟨r,t,1,hv,A2,c3,[],none,0⟩:lD).d) (fun h5=>?_) (fun h5=>?_)
 ·exact (show False from h5 hf).elim
 ·refine ae 7 [2,0] fun _=>bk [0] [1] ⟨A2,c3,kr,kr⟩
def Pb (aU:OA) (bb:Nat) (xs:List aT) (yt:OA) (G8:Nat) (vv:List Int) (hm: ∀y∈xs,bV y.o∧y.o.aX.length=vv.length) (hv:dW vv):Ct Cp 190 #[sl aU xs.length bb,sl yt vv.length G8] (fun w=>ir aU xs w∧az.Rd yt vv w) [] (fun v Cs=>v=.bool true∧Cs= []):=by
 refine cc Tryz.func190 fun w0 hp=>aa 4 fun _=>ed 0 (σ:=Nat) (fun i=> [(0,sl aU xs.length bb),(1,sl yt vv.length G8),(4,.bool false),(5,iv i)]) (fun i=> []) (fun i=>i≤xs.length) (fun i=>xs.length-i) ?_ ?_
 ·exact qm1
 ·rintro _ i hi dm
  refine aa 8 fun _=>aq ((i:Int)=(xs.length:Int)) (fun h1=>?_) (fun h1=>?_)
  ·refine aa 3 fun _=>ah (xL yt G8 vv RS) [] Nh ?_
   rintro _ _ ⟨rfl,rfl⟩
   refine aa 2 fun _=>a_ [] ⟨kt (.bool (decide (dW vv))) (dP (decide_eq_true hv)),kr⟩
  ·obtain ⟨x,e⟩:=aw (xs:=xs) (k:=i) (by omega)
   obtain ⟨Cm,Wo⟩:=hm x (aI e)
   refine aa 6 fun _=>aV aU xs.length (i:Int) 12 qhf<|bd 56 (ad aU (i*12) 0) (bx.V x) (fun w h=>bN (K:=bx) (hp.1.2.1.aE h.ch) e)<|ah (wJ x) [] (fun w h=>((hp.1.2.2 x (aI e)).aE h.ch)) ?_
   rintro _ _ ⟨rfl,rfl⟩
   refine aa 1 fun _=>aG 17 (bV x.o) (fun h2=>?_) (fun h2=>?_)
   ·refine aa 2 fun _=>aV aU xs.length (i:Int) 12 qhf<|aa 1 fun _=>bd 32 (ad aU (i*12) 3) (sl x.A x.o.aX.length x.c) (fun w h=>bW (K:=bx) (hp.1.2.1.aE h.ch) e)<|aa 6 fun _=>aq ((x.o.aX.length:Int)=(vv.length:Int)) (fun h3=>?_) (fun h3=>?_)
    ·refine aa 4 fun _=>ao (e:=by have:=hp.1.1;omega) 29 ((i:Int)+1)<|aa 2 fun _=>dm _ (i+1) [] kr (by omega) (by omega)
    ·exact qqm
   ·exact (show False from h2 Cm).elim
def Dq (aU:OA) (bb:Nat) (xs:List aT) (yt:OA) (G8:Nat) (vv:List Int) (hm: ∀y∈xs,bV y.o∧y.o.aX.length=vv.length):Ct Cp 191 #[sl aU xs.length bb,sl yt vv.length G8] (fun w=>ir aU xs w∧az.Rd yt vv w) [] (fun v Cs=> ∃A c l,v=sl A l.length c∧l.length≤8∧(∀o∈l,o∈vO xs)∧Cs= [cV A c l]):=by
 refine cc Tryz.func191 fun w0 hp=>aa 12 fun _=>bG bx<|dQ<|aJ (hZ none 0 []) [0,1] Wp (⟨[],rfl,rfl⟩)<|aR (σ:=Nat×OA×Nat×List bz) (fun (k,A,c,l)=> [(1,sl yt vv.length G8),(4,sl A l.length c),(7,sl aU xs.length bb),(8,iv (xs.length:Int)),(9,iv k)]) (fun (k,A,c,l)=> [.k (cV A c l)]) (fun (k,A,c,l)=>k≤xs.length∧l.length≤8∧ ∀o∈l,o∈vO xs) (fun (k,A,c,l)=>xs.length-k) (0,none,0,[]) [2] ⟨by omega,by simp,by simp⟩ ?_
 rintro _ ⟨k,A,c,l⟩ ⟨hk,s4,je⟩ aB
 refine aa 5 fun _=>aq ((k:Int)<(xs.length:Int)) (fun h1=>?_) (fun h1=>?_)
 ·obtain ⟨x2,e3⟩:=aw (xs:=xs) (k:=k) (by omega)
  obtain ⟨Cm,Wo⟩:=hm x2 (aI e3)
  have XQ:=Cm.2.2.1;have rB:=Cm.1;unfold bY at rB
  refine aa 5 fun _=>aV aU xs.length (k:Int) 12 qhf<|bd 56 (ad aU (k*12) 0) (bx.V x2) (fun w h=>bN (K:=bx) (hp.1.2.1.aE h.ch) e3)<|ae 4 [1] fun rM=>?_
  obtain ⟨x5,e6⟩:=aw (xs:=vv) (k:=x2.o.st.r.toNat) (by omega)
  rcases bK (decide (x2.o.seq>x5)) with b8|b8
  ·have h7:=cg b8
   refine aK [(6,_),(7,iv x5),(8,.bool true)] [1,1] qd4<|aq ((l.length:Int)<8) (fun h9=>?_) (fun h9=>?_)
   ·refine bn (φ:=hZ A c l) 0 ?_
    rintro _ ⟨p7,YV,rfl⟩
    have mJ:p7.length=l.length:=by rw [← YV,cM]
    refine aC 4 (sl A p7.length c) (sl A l.length c) (by rw [mJ])<|ae 3 [1] fun _=>ah (tB x2) [] (fun w h=>((hp.1.2.2 x2 (aI e3)).aE h.ch)) ?_
    rintro _ _ ⟨nf,mD,rfl,rfl⟩
    refine aa 1 fun yc=>bQ bx 2 A c p7 (so (yc 0)) 1 1 [(⟨x2.o,nf,mD⟩:aT)] (fun w h=>h.eT 5 (yc 0) 56 (List.flatMap bx.f [(⟨x2.o,nf,mD⟩:aT)]) kr) (by omega) fun xp wk=>aa 5 fun _=>ao (e:=by have:=hp.1.1;omega) 32 ((k:Int)+1)<|aa 2 fun _=>eD aT.own 4 3 p7 (⟨x2.o,nf,mD⟩:aT) kr<|aJ (hZ xp wk (l++ [x2.o])) [2,6] [bx.row xp wk (p7++ [(⟨x2.o,nf,mD⟩:aT)]),aM.all ((p7++ [(⟨x2.o,nf,mD⟩:aT)]).map aT.own)] (⟨p7++ [(⟨x2.o,nf,mD⟩:aT)],by rw [cT,YV];rfl,rfl⟩)<|aC 4 (sl xp ((l++ [x2.o]).length) wk) (sl xp ((p7++ [(⟨x2.o,nf,mD⟩:aT)]).length) wk) (by simp only [bm,List.length_singleton,mJ])<|aB _ (k+1,xp,wk,l++ [x2.o]) [7] kr ⟨by omega,by simp only [bm,List.length_singleton];omega,fun o ho=>(eG.1 ho).elim (je o) (fun h=>by rw [fv.1 h];exact di (aI e3))⟩ du
   ·refine aa 4 fun _=>qub
  ·have h7:=de b8
   refine aK [(6,_),(7,iv x5),(8,.bool false)] [1,1] qd4<|aa 5 fun _=>qub
 ·refine aa 6 fun _=>a_ [0] ⟨A,c,l,kr,s4,je,kr⟩
def Hf (r t:Int) (aU:OA) (bb:Nat) (xs:List aT) (yt:OA) (G8:Nat) (vv:List Int) (hm: ∀y∈xs,bV y.o∧y.o.aX.length=vv.length) (hv:dW vv) (T9:0≤r∧r<16∧0≤t∧t<16∧ ¬r=t):Ct Cp 154 #[iv r,iv t,sl aU xs.length bb,sl yt vv.length G8] (fun w=>ir aU xs w∧az.Rd yt vv w) [] (fun v Cs=>(∃A c l,v=.tuple #[.agg #[iv r,iv t,iv 2,sl none 0 0,sl A l.length c],iv 0]∧gN ⟨r,t,2,[],l⟩∧(∀o∈l,o∈vO xs)∧Cs= [cV A c l])∨(v=.tuple #[.agg #[iv 0,iv 0,iv 0,sl none 0 0,sl none 0 0],iv 3]∧Cs= [])):=by
 refine cc Tryz.func154 fun w0 hp=>?_
 have Ix: ∀o∈vO xs,bV o:=fun o ho=>by obtain ⟨y,hy,e⟩:=List.mem_map.1 ho;rw [← e];exact (hm y hy).1
 refine aa 10 fun a8=>ah (Pb aU bb xs yt G8 vv hm hv) [] qot ?_
 rintro _ _ ⟨rfl,rfl⟩
 refine aa 10 fun _=>ah (Dq aU bb xs yt G8 vv hm) [] qot ?_
 rintro _ _ ⟨A2,c3,l4,rfl,f5,f6,rfl⟩
 refine ae 14 [2,2] fun AA=>aq ((l4.length:Int)=0) (fun h8=>?_) (fun h8=>?_)
 ·refine ae 6 [0] fun _=>bk [0] [] (.inr ⟨kr,kr⟩)
 ·have hl0:=h8
  refine bn (φ:=hZ A2 c3 l4) 1 ?_
  rintro _ ⟨Ny,Pd,rfl⟩
  have mJ:Ny.length=l4.length:=by rw [← Pd,cM]
  refine bP 2 (AA 1) 168 [iv r,iv t,iv 2,sl none 0 0,sl A2 l4.length c3] [iv r,iv t,iv 2,sl none 0 0,sl A2 Ny.length c3] kr (by rw [mJ]) ?_
  have Nk:gN ⟨r,t,2,[],l4⟩:=⟨T9.1,T9.2.1,T9.2.2.1,T9.2.2.2.1,T9.2.2.2.2,.inr ⟨rfl,rfl,(by show 1≤l4.length;omega),f5,fun o ho=>Ix o (f6 o ho)⟩⟩
  have YX:gN ⟨r,t,2,[],Ny.map (·.o)⟩:=by rw [Pd];exact Nk
  refine ae 3 [2] fun _=>ah (uv (⟨r,t,2,[],none,0,Ny,A2,c3⟩:lD)) [] (fun w h=>⟨by simp,Rc.nil _ _,h.E5 3 4 A2 c3 Ny kr kr (by omega) (fun x hx=>gg (Ix _ (f6 _ (by rw [← Pd];exact di hx))))⟩) ?_
  rintro _ _ ⟨rfl,rfl⟩
  refine aa 3 fun _=>cU (gN (⟨r,t,2,[],none,0,Ny,A2,c3⟩:lD).d) (fun kx=>?_) (fun kx=>?_)
  ·exact (show False from kx YX).elim
  ·refine ae 8 [2,0] fun _=>aJ (hZ A2 c3 l4) [3,4] [bx.row A2 c3 Ny,aM.all (Ny.map aT.own)] (⟨Ny,Pd,rfl⟩)<|bk [0] [5] (.inl ⟨A2,c3,l4,kt (.tuple #[.agg #[iv r,iv t,iv 2,sl none 0 0,sl A2 Ny.length c3],iv 0]) (by rw [mJ]),Nk,f6,kr⟩)
def Ol (v_:c_) (hf:gI v_.d) (hv:dW v_.d.hv) (h0:1≤v_.d.hv.length∧v_.d.hv.length≤16∧0≤v_.d.rep∧v_.d.rep<v_.d.hv.length∧0≤v_.d.dT∧v_.d.dT<v_.d.hv.length∧0≤v_.d.wait∧v_.d.wait≤4):Ct Cp 80 #[.agg (c_.cells v_).toArray] (fun w=>AH v_ w) [] (fun v Cs=>(∃a,∃(wt nx:Int),v=.tuple #[.agg (c_.cells ⟨{v_.d with wait:=wt,dT:=nx},a⟩).toArray,sl none 0 0]∧(0≤wt∧wt≤4∧0≤nx∧nx<v_.d.hv.length)∧Cs= [SA (⟨{v_.d with wait:=wt,dT:=nx},a⟩)])∨(∃a,∃(wt nx wm:Int),∃A c,v=.tuple #[.agg (c_.cells ⟨{v_.d with wait:=wt,dT:=nx},a⟩).toArray,sl A ((fR ⟨v_.d.rep,wm,1,v_.d.hv,[]⟩).length) c]∧(0≤wt∧wt≤4∧0≤nx∧nx<v_.d.hv.length)∧gN ⟨v_.d.rep,wm,1,v_.d.hv,[]⟩∧Cs= [SA (⟨{v_.d with wait:=wt,dT:=nx},a⟩),aA.row A c (fR ⟨v_.d.rep,wm,1,v_.d.hv,[]⟩)])):=by
 refine cc Tryz.func80 fun w0 hp=>ae 9 [0] fun a8=>ah (jY v_ hf) [] il ?_
 rintro _ _ ⟨a2,rfl,rfl⟩
 refine bn (φ:=SP ⟨v_.d,a2⟩) 2 ?_
 rintro _ rfl
 refine ae 9 [0,0] fun _=>aq (v_.d.wait>1) (fun h3=>?_) (fun h3=>?_)
 ·refine ae 5 [0] fun _=>ao 16 (v_.d.wait-1)<|ae 9 [0,0,1] fun _=>aJ (SP ⟨{v_.d with wait:=v_.d.wait-1,dT:=v_.d.dT},⟨a2.Ah,a2.ch,a2.Ao,a2.co,a2.Ax,a2.cx,a2.An,a2.cn,a2.Am,a2.cm,a2.Al,a2.cl⟩⟩) [3,4,5,6,7] [az.row a2.Ah a2.ch v_.d.hv,cV a2.Ao a2.co v_.d.ops,cV a2.Ax a2.cx v_.d.held,iK a2.An a2.cn a2.Am a2.cm (dJ v_.d.ops),kI a2.Al a2.cl (fY v_.d.ops)] rfl<|bk [1] [8] (.inl ⟨⟨a2.Ah,a2.ch,a2.Ao,a2.co,a2.Ax,a2.cx,a2.An,a2.cn,a2.Am,a2.cm,a2.Al,a2.cl⟩,v_.d.wait-1,v_.d.dT,kr,by omega,kr⟩)
 ·refine ae 15 [0,0,0,0] fun _=>ah (JN v_.d.dT v_.d.rep v_.d.hv.length (by omega)) [] cJ ?_
  rintro _ _ (⟨Nj,th8,rfl,f9,rfl⟩|⟨rfl,f10,rfl⟩)
  ·refine ae 29 [0,0,0] fun _=>?_
   have Nk:gN ⟨v_.d.rep,Nj,1,v_.d.hv,[]⟩:=⟨by show 0≤v_.d.rep;omega,by show v_.d.rep<16;omega,by show 0≤Nj;omega,by show Nj<16;omega,f9.2.2.1,.inl ⟨rfl,hv,rfl⟩⟩
   refine ah (Om v_.d.rep Nj a2.Ah a2.ch v_.d.hv Nk (by omega)) [] (fun w h=>h.bg 3 a2.Ah a2.ch v_.d.hv kr) ?_
   rintro _ _ ⟨rI,xR,rfl,rfl⟩
   refine ae 8 [9] fun On=>aO [(2,_)] [0,9,1] ⟨aY (fun vs=>tI (⟨v_.d.rep,Nj,1,v_.d.hv,rI,xR,[],none,0⟩:lD) Nk) [] (fun vs=>sl (ak (vs 2)) ((fR (⟨v_.d.rep,Nj,1,v_.d.hv,rI,xR,[],none,0⟩:lD).d).length) (an (vs 2))) [fun vs=>.k (aA.row (ak (vs 2)) (an (vs 2)) (fR (⟨v_.d.rep,Nj,1,v_.d.hv,rI,xR,[],none,0⟩:lD).d))] (fun vs w h=>⟨by show v_.d.hv.length≤_;omega,h.bg 8 rI xR v_.d.hv kr,by simp,Rc.nil _ _,by simp⟩) kA,trivial⟩ fun zD=>aJ (SP ⟨{v_.d with wait:=4,dT:=th8},⟨a2.Ah,a2.ch,a2.Ao,a2.co,a2.Ax,a2.cx,a2.An,a2.cn,a2.Am,a2.cm,a2.Al,a2.cl⟩⟩) [3,4,5,6,7] [az.row a2.Ah a2.ch v_.d.hv,cV a2.Ao a2.co v_.d.ops,cV a2.Ax a2.cx v_.d.held,iK a2.An a2.cn a2.Am a2.cm (dJ v_.d.ops),kI a2.Al a2.cl (fY v_.d.ops)] rfl<|aS aA 10 (ak (zD 2)) (an (zD 2)) (fR (⟨v_.d.rep,Nj,1,v_.d.hv,rI,xR,[],none,0⟩:lD).d) (fR ⟨v_.d.rep,Nj,1,v_.d.hv,[]⟩) kr rfl<|bk [11] [12,13] (.inr ⟨⟨a2.Ah,a2.ch,a2.Ao,a2.co,a2.Ax,a2.cx,a2.An,a2.cn,a2.Am,a2.cm,a2.Al,a2.cl⟩,4,th8,Nj,ak (zD 2),an (zD 2),kr,by omega,Nk,kr⟩)
  ·refine ae 21 [0,1] fun _=>aJ (SP ⟨{v_.d with wait:=4,dT:=v_.d.dT},⟨a2.Ah,a2.ch,a2.Ao,a2.co,a2.Ax,a2.cx,a2.An,a2.cn,a2.Am,a2.cm,a2.Al,a2.cl⟩⟩) [3,4,5,6,7] [az.row a2.Ah a2.ch v_.d.hv,cV a2.Ao a2.co v_.d.ops,cV a2.Ax a2.cx v_.d.held,iK a2.An a2.cn a2.Am a2.cm (dJ v_.d.ops),kI a2.Al a2.cl (fY v_.d.ops)] rfl<|bk [1] [8] (.inl ⟨⟨a2.Ah,a2.ch,a2.Ao,a2.co,a2.Ax,a2.cx,a2.An,a2.cn,a2.Am,a2.cm,a2.Al,a2.cl⟩,4,v_.d.dT,kr,by omega,kr⟩)
def Bs (d:j9) (f:lD):Prop:=(¬f.to=d.rep∨f.fN≥(d.hv.length:Int))∨(f.kind=1∧ ¬ (f.hv.length:Int)=d.hv.length)
instance (d:j9) (f:lD):Decidable (Bs d f):=by unfold Bs;exact inferInstance
def DX (d:j9) (f:lD):Bool:=decide (Bs d f)||f.ops.any (fun z_:aT=> !decide ((z_.o.aX.length:Int)=d.hv.length))
def Pm {d:j9} {f:lD} (h:Bs d f):DX d f=true:=by simp [DX,h]
def KN {d:j9} {f:lD} (h: ¬Bs d f):DX d f=f.ops.any (fun z_:aT=> !decide ((z_.o.aX.length:Int)=d.hv.length)):=by simp [DX,h]
def H8 (y:aT) (b:Nat) (nn:Int):Ct Cp 189 #[bx.V y,pv b] (fun _=>True) [bJ b 3 [iv nn]] (fun v Cs=>v=.bool (!decide ((y.o.aX.length:Int)=nn))∧Cs= [bJ b 3 [iv nn]]):=by
 refine Fz [.b b 3 [iv nn]] Tryz.func189 fun U w0 hp=>ae 14 [1,0] fun a8=>Of
def D6 (aU:OA) (bb:Nat) (xs:List aT) (b:Nat) (nn:Int) (hb:xs.length≤1073741824):hO Cp 205 #[sl aU xs.length bb,.func (.func 189) #[] #[pv b]] (fun U w=>bx.gx aU xs U w) [bJ b 3 [iv nn]] (fun v Cs=>v=iv (eU (fun z_:aT=> !decide ((z_.o.aX.length:Int)=nn)) xs)∧Cs= [bJ b 3 [iv nn]]):=by
 refine kz [.b b 3 [iv nn]] Tryz.func205 fun U w0 hp=>aa 12 fun _=>aR (σ:=Nat) (fun k=> [(0,sl aU xs.length bb),(1,.func (.func 189) #[] #[pv b]),(4,iv 0),(7,iv (xs.length:Int)),(8,iv k)]) (fun k=> [.b b 3 [iv nn]]) (fun k=>k≤xs.length∧ ∀y∈xs.take k,(fun z_:aT=> !decide ((z_.o.aX.length:Int)=nn)) y=false) (fun k=>xs.length-k) 0 [0] ⟨bh _,by simp⟩ ?_
 rintro _ k ⟨hk,hy⟩ aB
 refine aa 5 fun _=>aq ((k:Int)<(xs.length:Int)) (fun h1=>?_) (fun h1=>?_)
 ·refine aa 13 fun _=>aV aU xs.length (k:Int) 12 qlq ?_
  obtain ⟨x2,e3⟩:=aw (xs:=xs) (k:=k) (by omega)
  refine bd 56 (ad aU (k*12) 0) (bx.V x2) qoo<|ah (H8 x2 b nn) [0] cJ ?_
  rintro _ _ ⟨rfl,rfl⟩
  refine dB 1 b 3 [iv nn]<|aa 1 fun _=>cU ((x2.o.aX.length:Int)=nn) (fun h4=>?_) (fun h4=>?_)
  ·refine aa 5 fun _=>a_ [1] ⟨kt (iv k) (by rw [om (p:=fun z_:aT=> !decide ((z_.o.aX.length:Int)=nn)) hy e3 Ir]),kr⟩
  ·refine aa 4 fun _=>ao 18 ((k:Int)+1)<|aa 2 fun _=>aB _ (k+1) [1] kr ⟨by omega,mc (p:=fun z_:aT=> !decide ((z_.o.aX.length:Int)=nn)) hy e3 Ir⟩ (by omega)
 ·refine aa 5 fun _=>a_ [0] ⟨kt (iv (-1)) (by rw [jV (p:=fun z_:aT=> !decide ((z_.o.aX.length:Int)=nn)) hy (by omega)]),kr⟩
def Dw (aU:OA) (bb:Nat) (xs:List aT) (b:Nat) (nn:Int) (hb:xs.length≤1073741824):hO Cp 188 #[sl aU xs.length bb,.func (.func 189) #[] #[pv b]] (fun U w=>bx.gx aU xs U w) [bJ b 3 [iv nn]] (fun v Cs=>v=.bool (xs.any (fun z_:aT=> !decide ((z_.o.aX.length:Int)=nn)))∧Cs= [bJ b 3 [iv nn]]):=by
 refine kz [.b b 3 [iv nn]] Tryz.func188 fun U w0 hp=>aa 8 fun _=>bD (D6 aU bb xs b nn hb) [0] Ad ?_
 rintro _ _ ⟨rfl,rfl⟩
 refine dB 1 b 3 [iv nn]<|aa 3 fun _=>a_ [1] ⟨kt (.bool (decide ((eU (fun z_:aT=> !decide ((z_.o.aX.length:Int)=nn)) xs)≥0))) (dP qjp),kr⟩
def HY (v_:c_) (f:lD) (hb:f.ops.length≤8):Ct Cp 152 #[.agg (c_.cells v_).toArray,.agg #[iv f.fN,iv f.to,iv f.kind,sl f.Ah f.hv.length f.ch,sl f.Ao f.ops.length f.co]] (fun w=>AH v_ w∧f.Rd w) [] (fun v Cs=>v=.bool (DX v_.d f)∧Cs= []):=by
 refine cc Tryz.func152 fun w0 hp=>ae 23 [0,2,1,0] fun a8=>eV 14 (f.to=v_.d.rep) (fun h2=>?_) (fun h2=>?_)
 ·refine aa 23 fun _=>qfi
 ·refine ae 6 [1,2] fun _=>aG 20 (f.fN≥(v_.d.hv.length:Int)) (fun h3=>?_) (fun h3=>?_)
  ·refine aa 17 fun _=>qfi
  ·refine ae 4 [1] fun _=>aG 24 (f.kind=1) (fun h4=>?_) (fun h4=>?_)
   ·refine ae 8 [1,2] fun _=>cU ((f.hv.length:Int)=(v_.d.hv.length:Int)) (fun h5=>?_) (fun h5=>?_)
    ·refine aa 4 fun _=>qfi
    ·refine ae 6 [1] fun _=>qcl
   ·refine ae 15 [1] fun _=>qcl
def wv (x:Int):Ct Cp 112 #[iv x] (fun _=>True) [] (fun v Cs=>v=.bool (decide (0≤x∧x≤1099511627776))∧Cs= []):=by
 refine cc Tryz.func112 fun w0 hp=>aa 9 fun _=>aG 5 (x≥0) (fun h1=>?_) (fun h1=>?_)
 ·refine aa 5 fun _=>a_ [] ⟨kt (.bool (decide (x≤1099511627776))) (dP (by simp;omega)),kr⟩
 ·refine aa 5 fun _=>a_ [] ⟨kt (.bool false) (dP (by simp;omega)),kr⟩
def Hp (t r:Int) (h0:0≤t∧t≤1099511627776) (h1:0≤r∧r<16):Ct Cp 155 #[iv t,iv r] (fun _=>True) [] (fun v Cs=>(v=.tuple #[bZ.V ⟨t+1,r⟩,iv 0]∧t<1099511627776∧Cs= [])∨(v=.tuple #[bZ.V ⟨0,0⟩,iv 5]∧t=1099511627776∧Cs= [])):=by
 refine cc Tryz.func155 fun w0 hp=>aa 5 fun a8=>ed 0 (σ:=Nat) (fun k=> []) (fun k=> []) (fun k=>False) (fun k=>k) ?_ ?_
 ·intro _ cG
  refine aa 4 fun _=>ao 8 (t+1)<|ae 11 [1] fun ld=>aG 13 (t<0) (fun h3=>?_) (fun h3=>?_)
  ·exact kp
  ·refine aa 4 fun _=>aG 17 (t>1099511627776) (fun h4=>?_) (fun h4=>?_)
   ·exact kp
   ·refine aa 4 fun _=>aG 21 (r<0) (fun h5=>?_) (fun h5=>?_)
    ·exact kp
    ·refine aa 4 fun _=>aq (r≥16) (fun h6=>?_) (fun h6=>?_)
     ·exact kp
     ·refine aa 7 fun _=>aq (t=1099511627776) (fun h7=>?_) (fun h7=>?_)
      ·refine ae 6 [0] fun _=>bk [0] [] (.inr ⟨kr,by omega,kr⟩)
      ·refine ae 8 [1,0] fun _=>bk [0] [] (.inl ⟨kr,by omega,kr⟩)
 ·exact qsm
def qv (An:OA) (cn:Nat) (Am:OA) (cm:Nat) (y:cN) (l:List bz) (hs:dI (ai l [])) (hb:(ai l []).length≤1073741824):Ct Cp 156 #[.agg #[sl An ((ai l []).length) cn,sl Am l.length cm],bZ.V y] (fun w=>sL An Am l w) [] (fun v Cs=>(∃(nd:Nd),v=.tuple #[aP.V nd,.bool true]∧dZ (ai l []) y=some nd∧Cs= [])∨(v=.tuple #[aP.V ⟨⟨0,0⟩,⟨0,0⟩,.empty⟩,.bool false]∧ ¬gJ (ai l []) y∧Cs= [])):=by
 refine cc Tryz.func156 fun w0 hp=>?_
 obtain ⟨ms,mO,Bg,G3⟩:=hp
 refine ae 12 [0,1] fun a8=>ah (qE An cn (ai l []) y hs hb) [] (fun w h=>Bg.aE h.ch) ?_
 rintro _ _ ⟨rfl,rfl⟩
 refine aa 12 fun _=>cU (gJ (ai l []) y) (fun h2=>?_) (fun h2=>?_)
 ·refine ae 6 [2] fun _=>bk [2] [] (.inr ⟨kr,by simpa using h2,kr⟩)
 ·obtain ⟨nd,zX,AY,IF⟩:=oC hs (show gJ (ai l []) y from by simpa using h2)
  refine ae 6 [0] fun _=>aV (hj:=by have:=(aN.1 zX).1;omega) An ((ai l []).length) (ec (ai l []) y:Int) 5 (fun w h=>Kd.cd (K:=aP) (xs:=ai l []) (Bg.aE h.ch) (by have:=(aN.1 zX).1;omega)) ?_
  refine bd 184 (((cz An).add ((ec (ai l []) y)*5)).add 0) (aP.V nd) (fun w h=>bN (K:=aP) (Bg.aE h.ch) zX)<|ae 3 [2] fun _=>bk [2] [] (.inl ⟨nd,kr,IF,kr⟩)

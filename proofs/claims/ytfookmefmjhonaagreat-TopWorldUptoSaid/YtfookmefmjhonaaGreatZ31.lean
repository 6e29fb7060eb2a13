/- For the law of worlds: What functions do; The layout; What lies in memory. -/
import Derived.Test.YtfookmefmjhonaaGreatZ30
set_option linter.all false
namespace Go.Proofs.YtfookmefmjhonaaGreat.My
open Go.RowKit Go.bE
abbrev FC (x:Int):Int:=if 1099511627776<x+1 then 1099511627776 else x+1
def BW {x:Int} (h:0≤x∧x≤1099511627776):0≤FC x∧FC x≤1099511627776:=by unfold FC;split<;>omega
structure gK (d:j9) (l:List bz) (d':j9):Prop where
 rep:d'.rep=d.rep
 wait:d'.wait=d.wait
 dT:d'.dT=d.dT
 tk: ∃tk,d'.ops=d.ops++tk∧cP d.hv tk d'.hv∧ ∀y∈tk,y∈l∨y∈d.held
 held: ∀y∈d'.held,y∈l∨y∈d.held
 hl:d'.held.length≤16
 aW:0≤d'.aW∧d'.aW≤1099511627776
 len:d'.ops.length≤d.ops.length+17*l.length
def cP.app: ∀ {l m:List bz} {u v w:List Int},cP u l v→cP v m w→cP u (l++m) w
 | [],_,_,_,_,h,k=>by
  have:_=_:=h
  subst this
  exact k
 |_::_,_,_,_,_,h,k=>⟨h.1,cP.app h.2 k⟩
def gK.nil (d:j9) (hl:d.held.length≤16) (hd:0≤d.aW∧d.aW≤1099511627776):gK d [] d:=⟨rfl,rfl,rfl,⟨[],(fj _).symm,rfl,fun _ h=>by cases h⟩,fun y h=>.inr h,hl,hd,Nat.le_add_right _ _⟩
def gK.take {d d':j9} {l:List bz} {o:bz} {v2:List Int} {h2 tk:List bz} (h:gK d l d') (k:kH d'.hv d'.held o v2 h2 tk):gK d (l++ [o]) {d' with hv:=v2,held:=h2,ops:=d'.ops++tk}:=by
 obtain ⟨t1,e1,c1,m1⟩:=h.tk
 have inl: ∀y,y=o∨y∈d'.held→y∈l++ [o]∨y∈d.held:=fun y hy=>hy.elim (fun e=>.inl (List.mem_append_right _ (fv.2 e))) fun hy=>(h.held y hy).imp (List.mem_append_left _) id
 refine ⟨h.rep,h.wait,h.dT,⟨t1++tk,by show d'.ops++tk=_;rw [e1,cH],c1.app k.chain,fun y hy=>?_⟩,fun y hy=>inl y (k.je y hy),k.hl,h.aW,?_⟩
 ·exact (eG.1 hy).elim (fun hy=>(m1 y hy).imp (List.mem_append_left _) id) fun hy=>inl y (k.YT y hy)
 ·have:=h.len;have:=k.tl;have:=h.hl;simp only [bm,dM,fA];omega
def gK.drop {d d':j9} {l:List bz} (h:gK d l d') (o:bz):gK d (l++ [o]) {d' with aW:=FC d'.aW}:=by
 obtain ⟨t1,e1,c1,m1⟩:=h.tk
 refine ⟨h.rep,h.wait,h.dT,⟨t1,e1,c1,fun y hy=>(m1 y hy).imp (List.mem_append_left _) id⟩,fun y hy=>(h.held y hy).imp (List.mem_append_left _) id,h.hl,BW h.aW,?_⟩
 have:=h.len;simp only [bm,dM,fA];exact eF h.len (by omega)
def gK.pM {d d':j9} {l:List bz} (h:gK d l d') (hf:gI d) (hm: ∀o∈l,bV o) (hl:l.length≤8) (hr:d.ops.length≤2700):gI d':=by
 obtain ⟨t1,e1,c1,m1⟩:=h.tk
 have hn: ∀y,y∈l∨y∈d.held→bV y:=fun y hy=>hy.elim (hm y) (hf.held y)
 refine ⟨fun y hy=>?_,fun y hy=>hn y (h.held y hy),by rw [c1.len];exact hf.hv,?_,h.hl⟩
 ·rw [e1] at hy;exact (eG.1 hy).elim (hf.ops y) fun hy=>hn y (m1 y hy)
 ·have:=h.len;omega
def gK.Ci {d d':j9} {l:List bz} (h:gK d l d'):d'.hv.length=d.hv.length:=by obtain ⟨_,_,c1,_⟩:=h.tk;exact c1.len
structure Fit (d:j9) (f:pU):Prop where
 to:f.to=d.rep
 fN:f.fN<d.hv.length
 hv:f.kind=1→f.hv.length=d.hv.length
 ops: ∀o∈f.ops,o.aX.length=d.hv.length
def Qg {d:j9} {f:pU} (h:Fit d f) {g:lD} (e:g.d=f): ¬DX d g=true:=by
 subst e
 have h1: ¬Bs d g:=by
  rintro ((h1|h1)|h1)
  ·exact h1 h.to
  ·have:=h.fN;exact absurd h1 (by show¬g.fN≥_;have h2:g.fN<d.hv.length:=this;omega)
  ·have h2:g.hv.length=d.hv.length:=h.hv h1.1;omega
 rw [KN h1,List.any_eq_true]
 rintro ⟨x,hx,h2⟩
 have h3:=h.ops x.o (di hx)
 simp at h2
 omega
def _root_.Go.bE.SH.Qh {U:Nat→Prop} {w0 w:World} {H:List HB} {A:OA} {c:Nat} {l:List bz} (h:SH U w0 w H) (i:Nat) (hi:(dR H.length [i],pk H [i])=(true,[cV A c l])) (hm: ∀o∈l,bV o) (hl:l.length≤100000):ph A l w:=by
 simp only [bI] at hi
 exact yK h (aI (SH.gf hi.1 hi.2)) hm hl
def _root_.Go.bE.SE.Qh {U:Nat→Prop} {w0 w:World} {X Y:List aM} {A:OA} {c:Nat} {l:List bz} (h:SE U w0 w X Y) (i:Nat) (e:Y[i]? =some (cV A c l)) (hm: ∀o∈l,bV o) (hl:l.length≤100000):ph A l w:=by
 obtain ⟨K,hK⟩:=h
 exact yK hK (List.mem_append_right _ (List.mem_append_left _ (aI e))) hm hl
def Vv (r t:Int) (A:OA) (c:Nat) (yt:OA) (G8:Nat) (vv:List Int) (l:List bz) (hm: ∀y∈l,bV y∧y.aX.length=vv.length) (hv:dW vv) (T9:0≤r∧r<16∧0≤t∧t<16∧ ¬r=t):Ct Cp 154 #[iv r,iv t,sl A l.length c,sl yt vv.length G8] (fun w=>ph A l w∧az.Rd yt vv w) [] (fun v Cs=>(∃A c l2,v=.tuple #[.agg #[iv r,iv t,iv 2,sl none 0 0,sl A l2.length c],iv 0]∧gN ⟨r,t,2,[],l2⟩∧(∀o∈l2,o∈l)∧Cs= [cV A c l2])∨(v=.tuple #[.agg #[iv 0,iv 0,iv 0,sl none 0 0,sl none 0 0],iv 3]∧Cs= [])):=fun U w ⟨⟨ys,e,h⟩,h2⟩ hS=>by
 subst e
 have:=Hf r t A c ys yt G8 vv (fun y hy=>hm y.o (di hy)) hv T9 U w ⟨h,h2⟩ hS
 exact qod
def ag_ (f:pU) (Ah:OA) (ch:Nat) (Ao:OA) (co:Nat) (hf:gN f):Ct Cp 119 #[.agg #[iv f.fN,iv f.to,iv f.kind,sl Ah f.hv.length ch,sl Ao f.ops.length co]] (fun w=>az.Rd Ah f.hv w∧ph Ao f.ops w) [] (fun v Cs=> ∃A c,v=sl A ((fR f).length) c∧Cs= [aA.row A c (fR f)]):=fun U w ⟨h1,ys,e,h⟩ hS=>by
 have e2:(⟨f.fN,f.to,f.kind,f.hv,Ah,ch,ys,Ao,co⟩:lD).d=f:=by unfold lD.d;simp only [e]
 have:=tI ⟨f.fN,f.to,f.kind,f.hv,Ah,ch,ys,Ao,co⟩ (by rw [e2];exact hf) U w ⟨by have:=E7 hf;show f.hv.length≤_;omega,h1,h⟩ hS
 rw [e2] at this
 rw [← e,cM]
 exact this
def uj {f:pU} (h:gN f): ∀o∈f.ops,bV o:=by
 rcases h.2.2.2.2.2 with k|k
 ·rw [k.2.2];intro o ho;cases ho
 ·exact k.2.2.2.2
def _J {r t:Int} {l:List bz} (h:gN ⟨r,t,2,[],l⟩):l.length≤8:=by
 rcases h.2.2.2.2.2 with k|k
 ·exact absurd (show (2:Int)=1 from k.1) (by decide)
 ·exact k.2.2.2.1
def FD {f:pU} (h:gN f) (k:f.kind=1):dW f.hv∧f.ops= []:=by
 rcases h.2.2.2.2.2 with e|e
 ·exact e.2
 ·rw [e.1] at k;exact absurd k (by decide)
def gK.all {d d':j9} {k:Nat} {l:List bz} (h:gK d (l.take k) d') (hk: ¬k<l.length):gK d l d':=by rwa [cA (by omega)] at h
def Kw (v_:c_) (aU:OA) (bb:Nat) (xs:List UInt8) (hf:gI v_.d) (hd:0≤v_.d.aW∧v_.d.aW≤1099511627776) (hb:xs.length≤1073741824) (lV:xs.length≤bb) (Dk: ¬r_ xs):Ct Cp 108 #[.agg (c_.cells v_).toArray,sl aU xs.length bb] (fun w=>AH v_ w∧aA.Rd aU xs w) [] (fun v Cs=>(∃a,v=.tuple #[.agg (c_.cells ⟨{v_.d with aW:=if 1099511627776<v_.d.aW+1 then 1099511627776 else v_.d.aW+1},a⟩).toArray,sl none 0 0]∧Cs= [SA (⟨{v_.d with aW:=if 1099511627776<v_.d.aW+1 then 1099511627776 else v_.d.aW+1},a⟩)])):=by
 refine cc Tryz.func108 fun w0 hp=>?_
 have vh:=hf.ol
 refine ae 9 [0] fun a8=>ah (jY v_ hf) [] Ok ?_
 rintro _ _ ⟨a2,rfl,rfl⟩
 refine ae 5 [0] fun _=>ah (L6 aU bb xs Dk (by omega) T3) [] Nh ?_
 rintro _ _ ⟨e3,rfl,f4,rfl⟩
 refine ae 12 [3] fun jn=>aC 20 (.bool true) (.bool (!decide (e3=0))) (dP (by rw [decide_eq_false f4];rfl))<|aa 9 fun _=>aJ (pT (a8 2) v_.d) [0,2] qmj (⟨a2,rfl⟩)<|ah (JZ (a8 2) v_.d hd) [4] cJ ?_
 rintro _ _ ⟨rfl,rfl⟩
 refine bn (φ:=pT (a8 2) ({v_.d with aW:=if 1099511627776<v_.d.aW+1 then 1099511627776 else v_.d.aW+1})) 5 ?_
 rintro _ ⟨a6,rfl⟩
 refine dB 6 (a8 2) 54 (c_.cells ⟨{v_.d with aW:=if 1099511627776<v_.d.aW+1 then 1099511627776 else v_.d.aW+1},a6⟩)<|ae 7 [6,1] fun _=>bk [1] [7] (⟨a6,kr,kr⟩)
def O5 (v_:c_) (aU:OA) (bb:Nat) (xs:List UInt8) (f:pU) (hf:gI v_.d) (hd:0≤v_.d.aW∧v_.d.aW≤1099511627776) (hb:xs.length≤1073741824) (lV:xs.length≤bb) (hx:xs=fR f) (zJ:gN f) (kc:Fit v_.d f) (hh: ∀y∈v_.d.held,y.aX.length=v_.d.hv.length) (WT: ∀y∈v_.d.ops,y.aX.length=v_.d.hv.length) (hr:v_.d.ops.length≤2700):Ct Cp 108 #[.agg (c_.cells v_).toArray,sl aU xs.length bb] (fun w=>AH v_ w∧aA.Rd aU xs w) [] (fun v Cs=>(∃a l2 A c,v=.tuple #[.agg (c_.cells ⟨v_.d,a⟩).toArray,sl A ((fR ⟨v_.d.rep,f.fN,2,[],l2⟩).length) c]∧gN ⟨v_.d.rep,f.fN,2,[],l2⟩∧(∀o∈l2,o∈v_.d.ops)∧f.kind=1∧Cs= [SA (⟨v_.d,a⟩),aA.row A c (fR ⟨v_.d.rep,f.fN,2,[],l2⟩)])∨(∃a,∃(d2:j9),v=.tuple #[.agg (c_.cells ⟨d2,a⟩).toArray,sl none 0 0]∧gK v_.d f.ops d2∧Cs= [SA (⟨d2,a⟩)])):=by
 refine cc Tryz.func108 fun w0 hp=>?_
 have vh:=hf.ol
 refine ae 9 [0] fun a8=>ah (jY v_ hf) [] Ok ?_
 rintro _ _ ⟨a2,rfl,rfl⟩
 refine ae 5 [0] fun _=>ah (Fc aU bb xs f hx zJ (by omega) T3) [] Nh ?_
 rintro _ _ ⟨Uu,Uv,kv,K3,Pv,rfl,f8,rfl⟩
 have hm8:kv.length≤8∧ ∀x∈kv,bV x.o:=L7 zJ f8
 have _K:=f8
 have hd_:(⟨f.fN,f.to,f.kind,f.hv,Uu,Uv,kv,K3,Pv⟩:lD).d=f:=by unfold lD.d;simp only [f8]
 have asX:kv.length=f.ops.length:=by rw [← _K,cM]
 refine ae 15 [6,0,6] fun EA=>ah (HY (⟨v_.d,a2⟩:c_) (⟨f.fN,f.to,f.kind,f.hv,Uu,Uv,kv,K3,Pv⟩:lD) hm8.1) [] (fun w h=>⟨h.Ns (v:=⟨v_.d,a2⟩) 2 kr hf,⟨by have:=E7 zJ;simp only;omega,h.bg 3 Uu Uv f.hv kr,h.E5 4 5 K3 Pv kv kr kr (by omega) (fun x hx=>gg (hm8.2 x hx))⟩⟩) ?_
 rintro _ _ ⟨rfl,rfl⟩
 refine aa 2 fun _=>eQ (DX (⟨v_.d,a2⟩:c_).d (⟨f.fN,f.to,f.kind,f.hv,Uu,Uv,kv,K3,Pv⟩:lD)) (fun iJ=>?_) (fun iJ=>?_)
 ·exact (show False from Qg kc hd_ iJ).elim
 ·refine ae 8 [6] fun _=>aq (f.kind=1) (fun kx=>?_) (fun kx=>?_)
  ·refine ae 10 [0,6,0,6] fun _=>ah (Vv v_.d.rep f.fN a2.Ao a2.co Uu Uv f.hv v_.d.ops (fun y hy=>⟨hf.ops y hy,(WT y hy).trans (kc.hv kx).symm⟩) ((FD zJ kx).1) (by have e1:=zJ.1;have e2:=zJ.2.1;have e3:=zJ.2.2.1;have e4:=zJ.2.2.2.1;have e5:=zJ.2.2.2.2.1;have e6:=kc.to;omega)) [] (fun w h=>⟨(h.Ns (v:=⟨v_.d,a2⟩) 2 kr hf).ops,h.bg 3 Uu Uv f.hv kr⟩) ?_
   rintro _ _ (⟨nf,mD,Xp,rfl,f15,f16,rfl⟩|⟨rfl,rfl⟩)
   ·have Rw:=_J f15
    refine ae 16 [8] fun Qc=>aO [(2,_)] [0,8,1] ⟨aY (fun vs=>ag_ (⟨v_.d.rep,f.fN,2,[],Xp⟩) none 0 nf mD f15) [] (fun vs=>sl (ak (vs 2)) ((fR (⟨v_.d.rep,f.fN,2,[],Xp⟩)).length) (an (vs 2))) [fun vs=>.k (aA.row (ak (vs 2)) (an (vs 2)) (fR (⟨v_.d.rep,f.fN,2,[],Xp⟩)))] (fun vs w h=>⟨Rc.nil _ _,h.Qh (c:=mD) 7 kr (fun o ho=>hf.ops o (f16 o ho)) (eF Rw (by decide))⟩) kA,trivial⟩ fun ud=>aS aA 9 (ak (ud 2)) (an (ud 2)) (fR (⟨v_.d.rep,f.fN,2,[],Xp⟩)) (fR ⟨v_.d.rep,f.fN,2,[],Xp⟩) kr (by simp)<|bk [10] [2,11] (.inl ⟨a2,Xp,ak (ud 2),an (ud 2),kr,f15,f16,kx,kr⟩)
   ·refine ae 20 [7,0,1] fun ue=>bk [1] [2] (.inr ⟨a2,v_.d,kr,by rw [(FD zJ kx).2];exact gK.nil _ hf.hl hd,kr⟩)
  ·refine ae 10 [6] fun _=>aJ (pT (a8 2) v_.d) [0,2] qmj (⟨a2,rfl⟩)<|aD 5 (aM.all (kv.map aT.own)) (aM.all ((kv.drop 0).map aT.own)) kr qom<|aR (σ:=Nat×j9) (fun (k,d1)=> [(2,pv (a8 2)),(4,pv (a8 3)),(5,sl none 0 0),(50,sl K3 kv.length Pv),(51,iv (kv.length:Int)),(52,iv k)]) (fun (k,d1)=> [.k (bx.row K3 Pv kv),.k (aM.all ((kv.drop k).map aT.own)),.k (oY (a8 2) d1),.b (a8 3) 54 [iv 0,iv 0,sl none 0 0,sl none 0 0,sl none 0 0,sl none 0 0,sl none 0 0,sl none 0 0,iv 0,iv 0,iv 0]]) (fun (k,d1)=>k≤f.ops.length∧gK v_.d (f.ops.take k) d1) (fun (k,d1)=>f.ops.length-k) (0,v_.d) [4,8,7,1] ⟨bh _,gK.nil _ hf.hl hd⟩ ?_
   rintro _ ⟨k,d1⟩ ⟨hk,Iv⟩ aB
   refine aa 5 fun _=>aq ((k:Int)<(kv.length:Int)) (fun vG=>?_) (fun vG=>?_)
   ·refine aa 5 fun _=>aV K3 kv.length (k:Int) 12 (fun w h=>Kd.cd (K:=bx) (xs:=kv) (h.bg 0 K3 Pv kv kr) (by omega)) ?_
    obtain ⟨l9,vo⟩:=aw (xs:=kv) (k:=k) (by omega)
    refine bd 56 (ad K3 (k*12) 0) (bx.V l9) (fun w h=>bN (K:=bx) (h.bg 0 K3 Pv kv kr) vo)<|ae 6 [4,4] fun DH=>?_
    have hx_:f.ops[k]? =some l9.o:=by rw [← _K,fk,vo];rfl
    have hf1:=Iv.pM hf (fun o ho=>uj zJ o (gU ho)) C7 hr
    have Xf:=Iv.len
    rw [b0] at Xf
    refine gu 1 0 aT.own (kv.drop k) l9 (by rw [List.getElem?_drop];exact vo) kr ?_
    refine aD 6 (aM.all (((kv.drop k).take 0++(kv.drop k).drop (0+1)).map aT.own)) (aM.all ((kv.drop (k+1)).map aT.own)) kr qii<|ah (Fi (a8 2) l9 d1 hf1 (⟨uj zJ _ (aI hx_),by rw [Iv.Ci];exact kc.ops _ (aI hx_)⟩) (fun y hy=>by rw [Iv.Ci];exact (Iv.held y hy).elim (fun hy=>kc.ops y (gU hy)) (hh y)) (by omega)) [2,5] cJ ?_
    rintro _ _ (⟨v30,Yd,ag',rfl,f33,rfl⟩|⟨rfl,f34,rfl⟩)
    ·refine aa 7 fun _=>ao 60 ((k:Int)+1)<|aa 2 fun _=>aB _ (k+1,{d1 with hv:=v30,held:=Yd,ops:=d1.ops++ag'}) [0,7,8,3] kr ⟨by omega,by rw [← bp hx_];exact Iv.take f33⟩ du
    ·refine aa 4 fun _=>ah (JZ (a8 2) d1 Iv.aW) [8] cJ ?_
     rintro _ _ ⟨rfl,rfl⟩
     refine aa 4 fun _=>ao 60 ((k:Int)+1)<|aa 2 fun _=>aB _ (k+1,{d1 with aW:=if 1099511627776<d1.aW+1 then 1099511627776 else d1.aW+1}) [0,7,9,3] kr ⟨by omega,by rw [← bp hx_];exact Iv.drop _⟩ du
   ·refine bn (φ:=pT (a8 2) d1) 2 ?_
    rintro _ ⟨a35,rfl⟩
    refine dB 4 (a8 2) 54 (c_.cells ⟨d1,a35⟩)<|ae 7 [4,3] fun _=>bk [3] [5] (.inr ⟨a35,d1,kr,Iv.all (by omega),kr⟩)
abbrev dD (x:Int):Prop:= -1099511627776≤x∧x≤1099511627776
def rY (x:Int):Int:=if 1099511627776<(if-1099511627776>x then-1099511627776 else x) then 1099511627776 else if-1099511627776>x then-1099511627776 else x
def tc (x:Int):dD (rY x):=by unfold rY dD;constructor<;>(repeat' split)<;>omega
def MM {x:Int} (h:0≤x):0≤rY x:=by unfold rY;(repeat' split)<;>omega
def bu (x:Int) (l:List Int):Int:=l.foldl (fun a b=>rY (a+b)) x
def vb (x:Int) (l:List Int) (y:Int):bu x (l++ [y])=rY (bu x l+y):=by simp [bu]
def D9 {x y:Int} {l:List Int} {k:Nat} (h:l[k]? =some y):bu x (l.take (k+1))=rY (bu x (l.take k)+y):=by rw [← bp h,vb]
def dp {x:Int} (hx:dD x): ∀(l:List Int),dD (bu x l):=by
 intro l
 rcases List.eq_nil_or_concat l with rfl|⟨m,y,rfl⟩
 ·exact hx
 ·rw [List.concat_eq_append,vb];exact tc _
def oq: ∀ {x:Int} {l:List Int},0≤x→(∀y∈l,0≤y)→0≤bu x l
 |_,[],h,_=>h
 |x,y::l,h,h2=>oq (x:=rY (x+y)) (l:=l) (MM (by have:=h2 y cE;omega)) fun z hz=>h2 z (bH _ hz)
def o7 (a b:Int):Int:=if rY (a-b)>0 then rY (a-b) else 0
def gh (a b:Int):0≤o7 a b∧o7 a b≤1099511627776:=by have:=tc (a-b);unfold o7;split<;>(unfold dD at this;omega)
def QT (lo x:Int):Int:=if x>lo then x else lo
def By (x hi:Int):Int:=if hi<x then hi else x
def cF (x lo hi:Int):Int:=if hi= -1 then QT lo x else QT lo (By x hi)
def py {x lo hi:Int} (h1:dD x) (h2:dD lo) (h3:dD hi):dD (cF x lo hi):=by unfold cF QT By dD at*;constructor<;>(repeat' split)<;>omega
def se {x lo hi:Int} (h:0≤lo):0≤cF x lo hi:=by unfold cF QT By;(repeat' split)<;>omega
def ia (a m:Int):Int:=o7 a (bu m [m])
def fP (_8:List Int):Int→List Int→List Int
 |_,[]=> []
 |x,y::l=>x::fP _8 (bu (bu x [y]) _8) l
def jo (g:List Int): ∀(l:List Int) (x:Int),(fP g x l).length=l.length
 | [],_=>rfl
 |y::l,x=>by simp [fP,jo g l]
def lF (g:List Int): ∀ {l:List Int} {x:Int},dD x→ ∀y∈fP g x l,dD y
 | [],_,_,y,h=>by simp [fP] at h
 |z::l,x,hx,y,h=>by
  rcases dx.1 h with rfl|h
  ·exact hx
  ·exact lF g (l:=l) (dp (dp hx _) _) y h
def pf (g:List Int) (x:Int) (l:List Int):Int:=l.foldl (fun a y=>bu (bu a [y]) g) x
def Gf {g l:List Int} {x y:Int} {k:Nat} (h:l[k]? =some y):pf g x (l.take (k+1))=bu (bu (pf g x (l.take k)) [y]) g:=by rw [← bp h];simp [pf]
def yD {g:List Int} {x:Int} (hx:dD x) (l:List Int):dD (pf g x l):=by
 rcases List.eq_nil_or_concat l with rfl|⟨m,y,rfl⟩
 ·exact hx
 ·rw [List.concat_eq_append]
  show dD (List.foldl _ _ _)
  rw [List.foldl_append]
  exact dp (dp (yD hx m) _) _
 termination_by l.length
 decreasing_by all_goals (simp_all;try omega)
def wE {g l:List Int} {x y:Int} {k:Nat} (h:l[k]? =some y):fP g x (l.take (k+1))=fP g x (l.take k)++ [pf g x (l.take k)]:=by
 induction l generalizing x k with
 |nil=>simp at h
 |cons z l ih=>
  cases k with
  |zero=>simp [fP,pf]
  |succ k=>
   have:=ih (x:=bu (bu x [z]) g) (k:=k) TF
   simp only [List.take_succ_cons,fP,this,List.cons_append]
   rfl
def sX {p:Int→Prop} {a b:Int} (h1:p a) (h2:p b): ∀y∈ [a,b],p y:=by intro y hy;simp only [dx,List.not_mem_nil,or_false] at hy;rcases hy with rfl|rfl<;>assumption
def jq {p:Int→Prop} {a:Int} (h1:p a): ∀y∈ [a],p y:=by intro y hy;rw [fv] at hy;subst hy;exact h1
def SC (x:Int):Ct Cp 271 #[iv x] (fun _=>True) [] (fun v Cs=>v=iv (rY x)∧Cs= []):=by
 refine cc Tryz.func271 fun w0 hp=>aa 11 fun _=>Nc
def iN (x:Int) (Al:OA) (cl:Nat) (l:List Int) (hx:dD x) (hr: ∀y∈l,dD y) (hl:l.length≤1000000):Ct Cp 247 #[iv x,sl Al l.length cl] (fun w=>az.Rd Al l w) [] (fun v Cs=>v=iv (bu x l)∧Cs= []):=by
 refine cc Tryz.func247 fun w0 hp=>aa 4 fun _=>ed 0 (σ:=Nat) (fun k=> [(0,iv (bu x (l.take k))),(1,sl Al l.length cl),(4,iv 0),(5,iv k)]) (fun k=> []) (fun k=>k≤l.length) (fun k=>l.length-k) ?_ ?_
 ·exact qm1
 ·rintro _ k hk dm
  refine aa 8 fun _=>aq ((k:Int)<(l.length:Int)) (fun h1=>?_) (fun h1=>?_)
  ·refine aa 5 fun _=>aV Al l.length (k:Int) 1 qfp ?_
   obtain ⟨x2,e3⟩:=aw (xs:=l) (k:=k) (by omega)
   refine bd 3 (ad Al (k*1) 0) (iv x2) Wy<|aa 1 fun _=>ao (e:=by have h7:=dp hx (l.take k);have h8:=hr x2 (aI e3);omega) 15 ((bu x (l.take k))+x2)<|ah (SC ((bu x (l.take k))+x2)) [] cJ ?_
   rintro _ _ ⟨rfl,rfl⟩
   refine aa 6 fun _=>ao 18 ((k:Int)+1)<|aa 2 fun _=>aC 0 (iv (bu x (l.take (k+1)))) (iv (rY ((bu x (l.take k))+x2))) (by rw [D9 e3])<|qpi
  ·refine aa 6 fun _=>a_ [] ⟨kt (iv (bu x (l.take k))) Oh,kr⟩
def QU (a b:Int) (ha:dD a) (hb:dD b):Ct Cp 311 #[iv a,iv b] (fun _=>True) [] (fun v Cs=>v=iv (rY (a-b))∧Cs= []):=by
 refine cc Tryz.func311 fun w0 hp=>aa 9 fun _=>ao 7 (a-b)<|ah (SC (a-b)) [] cJ ?_
 exact Iq
def CX (a b:Int) (ha:dD a) (hb:dD b):Ct Cp 289 #[iv a,iv b] (fun _=>True) [] (fun v Cs=>v=iv (o7 a b)∧Cs= []):=by
 refine cc Tryz.func289 fun w0 hp=>aa 8 fun _=>ah (QU a b ha hb) [] cJ ?_
 rintro _ _ ⟨rfl,rfl⟩
 refine aa 3 fun _=>Nc
def pV (x lo hi:Int):Ct Cp 270 #[iv x,iv lo,iv hi] (fun _=>True) [] (fun v Cs=>v=iv (cF x lo hi)∧Cs= []):=by
 refine cc Tryz.func270 fun w0 hp=>aa 10 fun _=>cU (hi=(-1)) (fun h1=>?_) (fun h1=>?_)
 ·refine aa 13 fun _=>a_ [] ⟨kt (iv (if (if hi<x then hi else x)>lo then if hi<x then hi else x else lo)) (iT (show _=cF x lo hi from (if_neg h1).symm)),kr⟩
 ·refine aa 8 fun _=>a_ [] ⟨kt (iv (if x>lo then x else lo)) (iT (show _=cF x lo hi from (if_pos h1).symm)),kr⟩
def I0 (l:List Int):Prop:=l.length=19∧ ∀(p:Nat) (x:Int),l[p]? =some x→fB p x
def ix:Nat→fe→Prop
 |0,_=>False
 |n+1,b=>I0 b.vs∧b.kids.length≤1000∧ ∀k∈b.kids,ix n k
def ix.vA {n:Nat} {b:fe} (h:ix n b):I0 b.vs:=by cases n with|zero=>exact h.elim|succ n=>exact h.1
def ix.len {n:Nat} {b:fe} (h:ix n b):b.kids.length≤1000:=by cases n with|zero=>exact h.elim|succ n=>exact h.2.1
def bM (b:fe) (p:Int):Int:=b.vs.getD p.toNat 0
def Jq {b:fe} {p:Int} {x:Int} (h:b.vs[p.toNat]? =some x):bM b p=x:=by unfold bM;rw [bA,h];rfl
def ix.may {n:Nat} {b:fe} (h:ix n b) {p:Int} (hp:0≤p∧p<19):fB p (bM b p):=by
 have h1:=h.vA
 have hl:p.toNat<b.vs.length:=by rw [h1.1];omega
 have h2:=h1.2 _ _ (dw hl)
 rw [Jq (dw hl)]
 rw [iR hp.1] at h2
 exact h2
def ix.rg {n:Nat} {b:fe} (h:ix n b) {p:Int} (hp:0≤p∧p<19):dD (bM b p)∧ -1≤bM b p∧(p≠3→p≠4→p≠6→p≠8→p≠11→0≤bM b p)∧(p=9∨p=10→bM b p≤1048576):=by
 have h1:=h.may hp
 obtain ⟨_,_,h2,h3⟩:=h1
 have h4: -1≤low p:=by unfold low;(repeat' split)<;>omega
 have h5:high p≤1099511627776:=by unfold high;(repeat' split)<;>omega
 refine ⟨⟨by omega,by omega⟩,by omega,fun a b c d e=>?_,fun a=>?_⟩
 ·have h6:0≤low p:=by unfold low;rw [if_neg (by omega)];split<;>omega
  omega
 ·have h6:high p=1048576:=by rcases a with rfl|rfl<;>rfl
  omega
structure jF (a:Addr) (n:Nat) (b:fe) (w:World):Prop where
 «at» :k7.Rd (some a) [b] w
 rd:xx w n b
def jF.aE {a:Addr} {n:Nat} {b:fe} {w w':World} (h:jF a n b w) (hc:Ch No w w'):jF a n b w':=⟨h.at.aE hc,h.rd.aE hc⟩
def jF.vs {a:Addr} {n:Nat} {b:fe} {w:World} (h:jF a n b w):az.Rd b.Av b.vs w:=by cases h.rd with|mk h1 _ _ _=>exact h1
def jF.kids {a:Addr} {n:Nat} {b:fe} {w:World} (h:jF a n b w):k7.Rd b.Ak b.kids w:=by cases h.rd with|mk _ h1 _ _=>exact h1
def Kd.one {α:Type} {K:Kd α} {A:OA} {xs:List α} {x:α} {k:Nat} {w:World} (h:K.Rd A xs w) (hx:xs[k]? =some x):K.Rd (some ((cz A).add (k*K.sz))) [x] w:=by
 have h1:=Kd.drop (cap:=xs.length+k+1) (l:=k) h (by omega)
 have h2:=Kd.take (l:=1) h1
 unfold dS at h2
 rw [if_neg (by omega)] at h2
 have hk:=(aN.1 hx).1
 have e:(xs.drop k).take 1= [x]:=by rw [fI hk,(aN.1 hx).2];rfl
 rw [e] at h2
 cases A with
 |none=>exact fun j v hj=>by obtain ⟨a,h5,_⟩:=h2 j v hj;cases h5
 |some a=>exact h2
def jF.gZ {a:Addr} {n:Nat} {b x:fe} {w:World} {k:Nat} (h:jF a (n+1) b w) (hx:b.kids[k]? =some x):jF ((cz b.Ak).add (k*4)) n x w:=by
 refine ⟨Kd.one h.kids hx,?_⟩
 cases h.rd with|mk _ _ h1 _=>exact h1 x (aI hx)
def k9 (b:fe) (x:Int):Int:=bu x [bu (bM b 12) [bM b 12]]
structure nK where
 base:Int
 lo:Int
 hi:Int
 grow:Int
 shr:Int
def np:Kd nK:=⟨391,5,fun x=> [iv x.base,iv x.lo,iv x.hi,iv x.grow,iv x.shr],fun _=>rfl,fun _=>rfl,by decide⟩
structure lS (x:nK):Prop where
 base:0≤x.base∧x.base≤1099511627776
 lo:0≤x.lo∧x.lo≤1099511627776
 hi:dD x.hi
 grow:0≤x.grow∧x.grow≤1048576
 shr:0≤x.shr∧x.shr≤1048576
def iX (x:nK):Int:=cF x.base x.lo x.hi
def lS.size {x:nK} (h:lS x):0≤iX x∧dD (iX x):=⟨se h.lo.1,py (by have:=h.base;constructor<;>omega) (by have:=h.lo;constructor<;>omega) h.hi⟩
def lC (ab:Addr) (nb:Nat) (b:fe) (p:Int) (gS:ix nb b) (hp_:0≤p∧p<19):Ct Cp 245 #[.pointer (some ((cz (some ab)).add (0*4))),iv p] (fun w=>jF ab nb b w) [] (fun v Cs=>v=iv (bM b p)∧Cs= []):=by
 refine cc Tryz.func245 fun w0 hp=>aa 10 fun _=>bd 32 (ad (some ab) (0*4) 2) (sl b.Av b.vs.length b.cv) qjh<|aa 1 fun _=>aV (hj:=by have:=gS.vA.1;omega) b.Av b.vs.length p 1 (fun w h=>Kd.cd (K:=az) (xs:=b.vs) (hp.vs.aE h.ch) (by have:=gS.vA.1;omega)) ?_
 obtain ⟨x1,e2⟩:=aw (xs:=b.vs) (k:=p.toNat) (by have:=gS.vA.1;omega)
 refine bd 3 (((cz b.Av).add (p.toNat*1)).add 0) (iv x1) (fun w h=>bW (K:=az) (hp.vs.aE h.ch) e2)<|aa 2 fun _=>a_ [] ⟨kt (iv x1) (by rw [Jq e2]),kr⟩
def CW (ab:Addr) (nb:Nat) (b:fe) (x:Int) (gS:ix nb b):Ct Cp 246 #[.pointer (some ((cz (some ab)).add (0*4))),iv x] (fun w=>jF ab nb b w) [] (fun v Cs=>v=iv (cF x (bM b 7) (bM b 8))∧Cs= []):=by
 refine cc Tryz.func246 fun w0 hp=>aa 8 fun _=>ah (lC ab nb b 7 gS Ge) [] il ?_
 rintro _ _ ⟨rfl,rfl⟩
 refine aa 1 fun _=>ah (lC ab nb b 8 gS Ge) [] il ?_
 rintro _ _ ⟨rfl,rfl⟩
 refine ah (pV x (bM b 7) (bM b 8)) [] cJ ?_
 exact Iq
def Jr (ab:Addr) (nb:Nat) (b:fe) (x:Int) (gS:ix nb b):Ct Cp 266 #[.pointer (some ((cz (some ab)).add (0*4))),iv x] (fun w=>jF ab nb b w) [] (fun v Cs=>v=iv (cF x (bM b 5) (bM b 6))∧Cs= []):=by
 refine cc Tryz.func266 fun w0 hp=>aa 8 fun _=>ah (lC ab nb b 5 gS Ge) [] il ?_
 rintro _ _ ⟨rfl,rfl⟩
 refine aa 1 fun _=>ah (lC ab nb b 6 gS Ge) [] il ?_
 rintro _ _ ⟨rfl,rfl⟩
 refine ah (pV x (bM b 5) (bM b 6)) [] cJ ?_
 exact Iq
def kJ (a m:Int) (ha:dD a) (hm:dD m):Ct Cp 265 #[iv a,iv m] (fun _=>True) [] (fun v Cs=>v=iv (ia a m)∧Cs= []):=by
 refine cc Tryz.func265 fun w0 hp=>aa 10 fun a8=>ah (iN m (so (a8 9)) 1 [m] Ge qvz Is) [] (fun w h=>h.eT 0 (a8 9) 3 (List.flatMap az.f [m]) kr) ?_
 rintro _ _ ⟨rfl,rfl⟩
 refine ah (CX a (bu m [m]) Ge Ge) [] cJ ?_
 exact Iq
def oo (ab:Addr) (nb:Nat) (b:fe) (x:Int) (gS:ix nb b) (hx:dD x):Ct Cp 291 #[.pointer (some ((cz (some ab)).add (0*4))),iv x] (fun w=>jF ab nb b w) [] (fun v Cs=>v=iv (k9 b x)∧Cs= []):=by
 refine cc Tryz.func291 fun w0 hp=>aa 7 fun _=>ah (lC ab nb b 12 gS Ge) [] il ?_
 rintro _ _ ⟨rfl,rfl⟩
 refine aa 8 fun a8=>ah (iN (bM b 12) (so (a8 7)) 1 [bM b 12] Ge qvz Is) [] (fun w h=>h.eT 0 (a8 7) 3 (List.flatMap az.f [bM b 12]) kr) ?_
 rintro _ _ ⟨rfl,rfl⟩
 refine aa 1 fun ld=>ah (iN x (so (ld 0)) 1 [bu (bM b 12) [bM b 12]] Ge qvz Is) [] (fun w h=>h.eT 1 (ld 0) 3 (List.flatMap az.f [bu (bM b 12) [bM b 12]]) kr) ?_
 exact Iq
def Rq (Al:OA) (cl:Nat) (l:List Int) (q:Int) (hr: ∀y∈l,dD y) (hq:dD q) (hl:l.length≤1000000):Ct Cp 320 #[sl Al l.length cl,iv q] (fun w=>az.Rd Al l w) [] (fun v Cs=> ∃(z:Int),v=iv z∧dD z∧Cs= []):=by
 refine cc Tryz.func320 fun w0 hp=>aa 4 fun _=>ed 0 (σ:=Nat×Int) (fun (k,z)=> [(0,sl Al l.length cl),(1,iv q),(4,iv 0),(5,iv z),(6,iv k)]) qsv (fun (k,z)=>k≤l.length∧dD z) (fun (k,z)=>l.length-k) ?_ ?_
 ·intro _ cG
  refine aa 7 fun _=>cG _ (0,0) [] kr ⟨bh _,by constructor<;>omega⟩
 ·rintro _ ⟨k,z⟩ ⟨hk,hz⟩ dm
  refine aa 8 fun _=>aq ((k:Int)<(l.length:Int)) (fun h1=>?_) (fun h1=>?_)
  ·refine aa 6 fun _=>aq ((k:Int)>0) (fun h2=>?_) (fun h2=>?_)
   ·refine aa 4 fun nB=>ah (iN z (so (nB 3)) 1 [q] Wx Wx Is) [] (fun w h=>h.eT 0 (nB 3) 3 (List.flatMap az.f [q]) kr) ?_
    rintro _ _ ⟨rfl,rfl⟩
    refine aa 7 fun _=>aV Al l.length (k:Int) 1 qfp ?_
    obtain ⟨x4,e5⟩:=aw (xs:=l) (k:=k) (by omega)
    refine bd 3 (ad Al (k*1) 0) (iv x4) (fun w h=>bW (K:=az) (hp.aE h.ch) e5)<|aa 1 fun pW=>ah (iN (bu z [q]) (so (pW 0)) 1 [x4] Wx Wx Is) [] (fun w h=>h.eT 1 (pW 0) 3 (List.flatMap az.f [x4]) kr) ?_
    rintro _ _ ⟨rfl,rfl⟩
    refine aa 6 fun _=>ao 25 ((k:Int)+1)<|aa 2 fun _=>dm _ (k+1,bu (bu z [q]) [x4]) [] kr ⟨by omega,by repeat (first|exact dp X2 _|refine dp ?_ _)⟩ du
   ·refine aa 6 fun _=>aV Al l.length (k:Int) 1 qfp ?_
    obtain ⟨x7,e8⟩:=aw (xs:=l) (k:=k) (by omega)
    refine bd 3 (ad Al (k*1) 0) (iv x7) (fun w h=>bW (K:=az) (hp.aE h.ch) e8)<|aa 1 fun EA=>ah (iN z (so (EA 0)) 1 [x7] Wx Wx Is) [] (fun w h=>h.eT 0 (EA 0) 3 (List.flatMap az.f [x7]) kr) ?_
    rintro _ _ ⟨rfl,rfl⟩
    refine aa 6 fun _=>ao 25 ((k:Int)+1)<|aa 2 fun _=>dm _ (k+1,bu z [x7]) [] kr ⟨by omega,by repeat (first|exact dp X2 _|refine dp ?_ _)⟩ du
  ·refine aa 6 fun _=>a_ [] ⟨z,kr,hz,kr⟩
def Rr (Al:OA) (cl:Nat) (l:List Int) (x:Int) (Ags:OA) (cgs:Nat) (gs:List Int) (hr: ∀y∈l,dD y) (hx:dD x) (hg: ∀y∈gs,dD y) (hl:l.length≤1000000) (It:gs.length≤1000000):Ct Cp 312 #[sl Al l.length cl,iv x,sl Ags gs.length cgs] (fun w=>az.Rd Al l w∧az.Rd Ags gs w) [] (fun v Cs=> ∃A2 c2,v=sl A2 ((fP gs x l).length) c2∧Cs= [az.row A2 c2 (fP gs x l)]):=by
 refine cc Tryz.func312 fun w0 hp=>aa 4 fun _=>bG az<|aS az 0 none 0 [] (fP gs x (l.take 0)) kr rfl<|ed 0 (σ:=Nat×OA×Nat) (fun (k,B,d)=> [(0,sl Al l.length cl),(1,iv (pf gs x (l.take k))),(2,sl Ags gs.length cgs),(6,sl B ((fP gs x (l.take k)).length) d),(7,iv k)]) (fun (k,B,d)=> [.k (az.row B d (fP gs x (l.take k)))]) (fun (k,B,d)=>k≤l.length) (fun (k,B,d)=>l.length-k) ?_ ?_
 ·intro _ cG
  refine aa 6 fun _=>cG _ (0,none,0) [1] kr (bh _)
 ·rintro _ ⟨k,B,d⟩ hk dm
  refine aa 8 fun _=>aq ((k:Int)=(l.length:Int)) (fun h1=>?_) (fun h1=>?_)
  ·refine aa 5 fun _=>aS az 0 B d (fP gs x (l.take k)) (fP gs x l) kr Oh<|a_ [1] ⟨B,d,kt (sl B ((fP gs x (l.take k)).length) d) Oh,kr⟩
  ·refine aa 6 fun ld=>bQ az 0 B d (fP gs x (l.take k)) (so (ld 5)) 1 1 [pf gs x (l.take k)] (fun w h=>h.eT 1 (ld 5) 3 (List.flatMap az.f [pf gs x (l.take k)]) kr) (by rw [jo,b0];omega) fun A3 c4=>aa 7 fun _=>aV Al l.length (k:Int) 1 (fun w h=>Kd.cd (K:=az) (xs:=l) (hp.1.aE h.ch) (by omega)) ?_
   obtain ⟨x5,e6⟩:=aw (xs:=l) (k:=k) (by omega)
   refine bd 3 (ad Al (k*1) 0) (iv x5) (fun w h=>bW (K:=az) (hp.1.aE h.ch) e6)<|aa 1 fun AA=>ah (iN (pf gs x (l.take k)) (so (AA 0)) 1 [x5] qcx qcx Is) [] (fun w h=>h.eT 2 (AA 0) 3 (List.flatMap az.f [x5]) kr) ?_
   rintro _ _ ⟨rfl,rfl⟩
   refine aa 1 fun _=>ah (iN (bu (pf gs x (l.take k)) [x5]) Ags cgs gs qcx qcx (by omega)) [] Nh ?_
   rintro _ _ ⟨rfl,rfl⟩
   refine aa 6 fun _=>ao 27 ((k:Int)+1)<|aa 2 fun _=>aS az 0 A3 c4 (fP gs x (l.take k)++ [pf gs x (l.take k)]) (fP gs x (l.take (k+1))) kr ((wE e6).symm)<|aC 6 (sl A3 ((fP gs x (l.take (k+1))).length) c4) (sl A3 ((fP gs x (l.take k)++ [pf gs x (l.take k)]).length) c4) (by rw [wE e6])<|aC 1 (iv (pf gs x (l.take (k+1)))) (iv (bu (bu (pf gs x (l.take k)) [x5]) gs)) (by rw [Gf e6])<|dm _ (k+1,A3,c4) [3] kr (by omega) du
def CY (Al:OA) (cl:Nat) (l:List Int) (q:Int) (hr: ∀y∈l,dD y) (hq:dD q) (hl:l.length≤1000000):Ct Cp 292 #[sl Al l.length cl,iv q] (fun w=>az.Rd Al l w) [] (fun v Cs=> ∃A2 c2,v=sl A2 ((fP [q] 0 l).length) c2∧Cs= [az.row A2 c2 (fP [q] 0 l)]):=by
 refine cc Tryz.func292 fun w0 hp=>aa 9 fun a8=>ah (Rr Al cl l 0 (so (a8 8)) 1 [q] qht qht qht (by omega) Is) [] (fun w h=>⟨hp.aE h.ch,h.eT 0 (a8 8) 3 (List.flatMap az.f [q]) kr⟩) ?_
 rintro _ _ ⟨A2,c3,rfl,rfl⟩
 refine aa 2 fun _=>a_ [1] ⟨A2,c3,kr,kr⟩
def Js (Al:OA) (cl:Nat) (l:List Int) (Ar:OA) (cr:Nat) (r:List Int) (pG: ∀y∈l,dD y) (XD: ∀y∈r,dD y) (hl:l.length=r.length∧l.length≤1000000):Ct Cp 294 #[sl Al l.length cl,sl Ar r.length cr] (fun w=>az.Rd Al l w∧az.Rd Ar r w) [] (fun v Cs=> ∃(z:Int),v=iv z∧(dD z∧((∀y∈l,0≤y)→(∀y∈r,0≤y)→0≤z))∧Cs= []):=by
 refine cc Tryz.func294 fun w0 hp=>aa 11 fun _=>aq ((l.length:Int)=0) (fun h1=>?_) (fun h1=>?_)
 ·refine aa 4 fun _=>a_ [] ⟨0,kr,⟨by constructor<;>omega,fun _ _=>Int.le_refl _⟩,kr⟩
 ·refine aa 2 fun _=>?_
  obtain ⟨x2,e3⟩:=aw (xs:=l) (k:=((l.length:Int)-1).toNat) (by omega)
  obtain ⟨x4,e5⟩:=aw (xs:=r) (k:=((l.length:Int)-1).toNat) (by omega)
  refine aO [(3,_),(4,_),(5,_),(9,_),(10,_),(11,_),(13,_)] [] ⟨qrm,br (fun vs=>Al) (fun vs=>l.length) (fun vs=>(l.length:Int)-1) 1 (fun vs w h=>Kd.cd (K:=az) (xs:=l) (hp.1.aE h.ch) (by omega)),cZ 3 (fun vs=>((cz Al).add ((((l.length:Int)-1).toNat)*1)).add 0) (fun vs=>iv x2) (fun vs w h=>bW (K:=az) (hp.1.aE h.ch) e3),qrm,br (fun vs=>Ar) (fun vs=>r.length) (fun vs=>(l.length:Int)-1) 1 (fun vs w h=>Kd.cd (K:=az) (xs:=r) (hp.2.aE h.ch) (by omega)),cZ 3 (fun vs=>((cz Ar).add ((((l.length:Int)-1).toNat)*1)).add 0) (fun vs=>iv x4) (fun vs w h=>bW (K:=az) (hp.2.aE h.ch) e5),aY (fun vs=>iN x2 (some ⟨(a5 (vs 12)),0,none⟩) 1 [x4] quj quj Is) [] (fun vs=>iv (bu x2 [x4])) [] (fun vs w h=>h.eT 0 (a5 (vs 12)) 3 (List.flatMap az.f [x4]) kr) ko,trivial⟩ fun v6=>a_ [] ⟨bu x2 [x4],kr,⟨dp (pG _ (aI e3)) _,fun h1 h2=>oq (h1 _ (aI e3)) (jq (h2 _ (aI e5)))⟩,kr⟩

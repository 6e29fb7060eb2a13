/- For the law of worlds: The engine. -/
import Derived.Test.YtfookmefmjhonaaGreatZ00
set_option linter.all false
namespace Go
section
variable {p:Prop} {α:Sort _}
def qwy(h:p:=by exact br (fun vs=>aL) (fun vs=>n) (fun vs=>a) 5 qwf):=h
def qwx(h:p:=by exact bF aL n (f+i) 5 Wu):=h
def qww(h:p:=by exact br (fun vs=>aL) (fun vs=>n) (fun vs=>a) 5 Ws):=h
def qwv(h:p:=by exact br (fun vs=>aL) (fun vs=>n) (fun vs=>j) 2 qte):=h
def qwu(h:p:=by exact br (fun vs=>aL) (fun vs=>n) (fun vs=>j) 5 Ws):=h
def qwt(h:p:=by exact br (fun vs=>aL) (fun vs=>n) (fun vs=>j) 5 qt7):=h
def qws(h:p:=by exact br (fun vs=>aL) (fun vs=>n) (fun vs=>j) 5 qt8):=h
def qwr(h:p:=by exact br (fun vs=>aL) (fun vs=>n) (fun vs=>k) 2 qt6):=h
def qwq(h:p:=by exact br (fun vs=>aL) (fun vs=>n) (fun vs=>k) 2 qte):=h
def qwp(h:p:=by exact br (fun vs=>aL) (fun vs=>n) (fun vs=>i1) 5 Ws):=h
def qwo(h:p:=by exact br (fun vs=>aL) (fun vs=>n) (fun vs=>u0) 5 qtg):=h
def qwn(h:p:=by exact br (fun vs=>aL) (fun vs=>n) (fun vs=>u1) 5 qt9):=h
def qwm(h:p:=by exact br (fun vs=>aL) (fun vs=>n) (fun vs=>u5) 5 qtf):=h
def qwl(h:p:=by exact br (fun vs=>aL) (fun vs=>n) (fun vs=>a+i) 2 qua):=h
def qwk(h:p:=by exact br (fun vs=>aL) (fun vs=>n) (fun vs=>f+((2*i)+1)) 5 Wt):=h
def qwj(h:p:=by exact bF aL n (f+((2*i)+1)) 5 Wu):=h
def qwi(h:p:=by
 have h2:=de b3
 refine aK [(2,.bool false)] [] ⟨qh4,trivial⟩<|aa 6 fun _=>qtm):=h
def qwh(h:p:=by exact br (fun vs=>aL) (fun vs=>n) (fun vs=>u2) 5 qtg):=h
def qwg(h:p:=by exact br (fun vs=>aL) (fun vs=>n) (fun vs=>u7) 5 qtf):=h
def qwf(h:p:=by exact fun vs w h=>Kd.cd (K:=aP) (xs:=ns) (h.bg 0 aL aZ ns kr) dg):=h
def qwe(h:p:=by exact br (fun vs=>aL) (fun vs=>n) (fun vs=>i) 5 Wt):=h
def Ww(h:p:=by exact br (fun vs=>aL) (fun vs=>n) (fun vs=>f+i) 5 Wt):=h
def qwc(h:p:=by exact mM (by omega) (by omega)):=h
def qwb(h:p:=by have:=gh;simp only [dD];omega):=h
def qwa(h:p:=by exact dY (dF h) (bO _)):=h
def qv9(h:p:=by
 intro hb
 have:=(h.yes hb).1
 exact qkr):=h
def qv8(h:p:=by exact fun vs w h=>G0):=h
def qv7(h:p:=by exact aa 2 fun _=>Nc):=h
def qv6(h:p:=by exact a_ [] ⟨kt (iv 9) (iT qdo),kr⟩):=h
def qv5(h:p:=by exact cB 310 (ad (some af) (0*5) 0) xV):=h
def qv4(h:p:=by exact cB 389 (ad (some au) (0*6) 0) Nz):=h
def qv3(h:p:=by exact bF Am l.length ((i:Int)-1) 17 qf5):=h
def qv2(h:p:=by exact fM (x.o.seq-1)):=h
def qv1(h:p:=by exact fun vs u C h=>qfa):=h
def qv0(h:p:=by exact ⟨qda,trivial⟩):=h
def qvz(h:p:=by first|exact jq Ge):=h
def qvy(h:p:=by
 obtain ⟨Hg,he⟩:=aN.1 hi
 exact qj1):=h
def qvx(h:p:=by exact a_ [] ⟨kt (iv (-1)) (iT qb5),kr⟩):=h
def YK(h:p:=by simpa using h7):=h
def qvv(h:p:=by
 have vj:b=w.heap.size:=hb
 subst vj
 exact qle):=h
abbrev qvu(a:α:=by exact [bx.row A c iA,aM.all (iA.map aT.own)]):=a
def qvt(h:p:=by obtain ⟨_,_,rfl,rfl⟩:=h;exact ⟨rfl,rfl⟩):=h
def qvs(h:p:=by exact a_ [] ⟨kt (.bool false) (dP qh1),kr⟩):=h
def qvr(h:p:=by exact fun w h=>bW (K:=aA) (hp.aE h.ch) e6):=h
def qvq(h:p:=by exact fun w h=>bW (K:=aA) (hp.aE h.ch) e8):=h
def qvp(h:p:=by
 rintro _ _ ⟨rfl,rfl⟩
 refine aa 2 fun _=>Of):=h
def qvo(h:p:=by
 rintro _ _ ⟨rfl,rfl⟩
 refine aa 5 fun _=>Nc):=h
def qvn(h:p:=by exact fun w h=>bW (K:=az) (hp.1.aE h.ch) e3):=h
def qvm(h:p:=by exact fun w h=>bW (K:=az) (hp.2.aE h.ch) e6):=h
def qvl(h:p:=by first|(unfold jX;omega)|(simp [jX, *];done)):=h
def qvk(h:p:=by exact bT (CZ s) qe0):=h
def qvj(h:p:=by have:=h.1;have:=h.2.1;omega):=h
def qvi(h:p:=by exact bT (xI s) qe0):=h
def qvh(h:p:=by exact aa 4 fun _=>a_ [] ⟨kt (iv 1) (iT qb5),kr⟩):=h
def qvg(h:p:=by exact aa 5 fun _=>a_ [] ⟨kt (iv 0) (iT qb5),kr⟩):=h
def qvf(h:p:=by have:=(aN.1 hn.1).1;omega):=h
def qve(h:p:=by exact fun vs w h=>YC):=h
def qvd(h:p:=by exact aa 6 fun _=>qd3):=h
def qvc(h:p:=by exact aa 7 fun _=>qd3):=h
def qvb(h:p:=by first|assumption|omega|exact sX hq (hr _ (aI X2))):=h
abbrev qva(a:α:=by exact [bx.row none 0 [],aM.all (([]:List aT).map aT.own)]):=a
def qu9(h:p:=by exact ae 113 [0] fun a8=>zA):=h
def qu8(h:p:=by exact fun vs u C h=>qdr):=h
def qu7(h:p:=by
 rcases (hf b ((h1 b).2 (.inl x))).2 with h|h
 ·exact h
 ·omega):=h
def qu6(h:p:=by exact fun w h=>Kd.cd (K:=aA) (xs:=ys) (h.bg 0 B d ys kr) Bk):=h
def qu5(h:p:=by exact fun w h=>Kd.cd (K:=gB) (xs:=m) (h.bg 0 aL aZ m kr) dg):=h
def qu4(h:p:=by exact fun w h=>Kd.cd (K:=aP) (xs:=m2) (h.bg 0 aL aZ m2 kr) dg):=h
def qu3(h:p:=by exact fun w h=>Kd.cd (K:=aP) (xs:=m3) (h.bg 0 aL aZ m3 kr) dg):=h
def qu2(h:p:=by exact fun w h=>Kd.cd (K:=aP) (xs:=m6) (h.bg 0 aL aZ m6 kr) dg):=h
def qu1(h:p:=by exact fun w h=>Kd.cd (K:=aP) (xs:=m7) (h.bg 0 aL aZ m7 kr) dg):=h
def qu0(h:p:=by exact fun w h=>Kd.cd (K:=aP) (xs:=ns) (h.bg 0 aL aZ ns kr) dg):=h
def quz(h:p:=by exact fun w h=>Kd.cd (K:=aP) (xs:=y4) (h.bg 0 aL aZ y4 kr) dg):=h
def quy(h:p:=by exact fun w h=>Kd.cd (K:=gB) (xs:=m1) (h.bg 0 aL aZ m1 kr) dg):=h
def qux(h:p:=by exact fun w h=>Kd.cd (K:=gB) (xs:=m2) (h.bg 0 aL aZ m2 kr) dg):=h
def quw(h:p:=by exact fun w h=>Kd.cd (K:=gB) (xs:=m5) (h.bg 0 aL aZ m5 kr) dg):=h
def quv(h:p:=by exact fun w h=>Kd.cd (K:=az) (xs:=fE) (hp.1.aE h.ch) (by omega)):=h
def quu(h:p:=by exact fun w h=>Kd.cd (K:=bx) (xs:=f.ops) (hp.2.2.2.1.aE h.ch) Bk):=h
def qut(h:p:=by exact a_ [] ⟨kt (.bool (decide (AD fE x.o.aX))) (dP qfo),kr⟩):=h
def qus(h:p:=by exact cZ 3 (fun vs=>ad (so jM) (0*5) 0) (fun vs=>iv (o6.fr:Int)) qex):=h
def qur(h:p:=by exact aJ (nc g W) [2,3,4,5,6] Nv (⟨Ar,cr,Aw,cw,Aa,ca,rfl⟩)<|qqk):=h
def quq(h:p:=by exact br (fun vs=>b.Ak) (fun vs=>b.kids.length) (fun vs=>(k:Int)) 4 qdt):=h
def qup(h:p:=by
 refine ae 11 [0,1] fun a8=>ah (pS x.id y) [] cJ ?_
 exact Iq):=h
def XZ(h:p:=by exact aa 1 fun _=>qff):=h
def YY(h:p:=by first|assumption|omega):=h
def qul(h:p:=by exact ae 9 [0] fun a8=>zA):=h
def quk(h:p:=by exact aY (fun vs=>lC ab nb b 13 gS Nr) [] (fun vs=>iv (bM b 13)) [] YZ ko):=h
def quj(h:p:=by first|assumption|omega|exact jq (XD _ (aI X2))|exact pG _ (aI X2)|simp):=h
def qui(h:p:=by exact ⟨aY (fun vs=>Ju) [] (fun vs=>bZ.V ⟨0,1⟩) [] nE ko,qem,trivial⟩):=h
def quh(h:p:=by exact fun w h=>Kd.cd (K:=bx) (xs:=ys++xs.drop k) (h.bg 0 A1 c2 (ys++xs.drop k) kr) qgu):=h
def qug(h:p:=by exact bF aU xs.length (k:Int) 1 (fun w h=>Kd.cd (K:=az) (xs:=xs) (hp.1.aE h.ch) (by omega))):=h
def quf(h:p:=by exact bF mX ys.length (k:Int) 1 (fun w h=>Kd.cd (K:=az) (xs:=ys) (hp.2.aE h.ch) (by omega))):=h
def que(h:p:=by exact qp ((xs.drop p).length) aU xs.length bb p xs.length 1 (some (iv p)) none yu (⟨_,rfl⟩) qn4):=h
def qud(h:p:=by (try simp only [AI,beq_iff_eq,beq_eq_false_iff_ne,ne_eq] at*);simp [Tp,Bool.beq_eq_decide_eq, *]):=h
def Tg(h:p:=by exact bT Ju jU):=h
def qub(h:p:=by exact ao (e:=by have:=hp.1.1;omega) 32 ((k:Int)+1)<|aa 2 fun _=>aB _ (k+1,A,c,l) [0] kr ⟨by omega,s4,je⟩ du):=h
def qua(h:p:=by exact fun vs w h=>Kd.cd (K:=gB) (xs:=m) (h.bg 0 aL aZ m kr) dg):=h
def qt9(h:p:=by exact fun vs w h=>Kd.cd (K:=aP) (xs:=m3) (h.bg 0 aL aZ m3 kr) dg):=h
def qt8(h:p:=by exact fun vs w h=>Kd.cd (K:=aP) (xs:=m5) (h.bg 0 aL aZ m5 kr) dg):=h
def qt7(h:p:=by exact fun vs w h=>Kd.cd (K:=aP) (xs:=m6) (h.bg 0 aL aZ m6 kr) dg):=h
def qt6(h:p:=by exact fun vs w h=>Kd.cd (K:=gB) (xs:=m3) (h.bg 0 aL aZ m3 kr) dg):=h
def Oi(h:p:=by exact bT Rv jU):=h
def qt4(h:p:=by exact a_ [4] ⟨A,c,kt (sl A (xs.length+1) c) WE,kr⟩):=h
def qt3(h:p:=by exact fun vs w h=>.sl qnc (Kd.drop (h.bg 0 A c xs kr) vq)):=h
def T_(h:p:=by exact bT (CZ x.o.st) jU):=h
def qt1(h:p:=by exact aa 4 fun _=>ao 36 (j-1)<|aa 2 fun _=>dG _ (j-1,(m1.set j.toNat x6).set ((j-1).toNat) x4) [2] kr ⟨((swap_perm e5 e7).trans jT),⟨by omega,by omega⟩⟩ du):=h
def qt0(h:p:=by exact fun w h=>Kd.cd (K:=aA) (xs:=ys.set 0 (UInt8.ofNat ((cj (ys.drop 4)).toNat/16777216))) (h.bg 0 B d (ys.set 0 (UInt8.ofNat ((cj (ys.drop 4)).toNat/16777216))) kr) Bk):=h
def qtz(h:p:=by exact a_ [2] ⟨A3,c4,kt (sl A3 ((xs++ [x]).length) c4) WE,kr⟩):=h
def IA(h:p:=by exact fun vs w h=>vq):=h
def qtx(h:p:=by exact fun w h=>Kd.cd (K:=aA) (xs:=xs) (hp.aE h.ch) (by omega)):=h
def qtw(h:p:=by exact fun w h=>Kd.cd (K:=aP) (xs:=m5) (h.bg 0 aL aZ m5 kr) dg):=h
def qtv(h:p:=by
 refine ae 16 [0,1] fun a8=>aG 12 (x.o.st.r=y.o.st.r) (fun h2=>?_) (fun h2=>?_)
 ·refine ae 8 [0,1] fun _=>a_ [] ⟨kt (.bool (decide (x.o.seq=y.o.seq))) (dP X5),kr⟩
 ·refine aa 8 fun _=>X6):=h
def WZ(h:p:=by exact a_ [] ⟨kt (.bool false) (dP qa6),kr⟩):=h
def qtt(h:p:=by exact aa 4 fun _=>ao (e:=by have JB:=Hh.sum (by omega);unfold dD at*;omega) 106 ((j:Int)+1)<|aa 2 fun _=>dG _ (j+1,fy.set m0.toNat true) [0,1,2,3] kr ⟨by omega,Cq.step gX rj (Hh.by rj Et Hi (by omega)) (fun hh=>qcy)⟩ du):=h
def qts(h:p:=by exact aa 4 fun _=>ao (e:=by have JB:=Hh.sum (by omega);unfold dD at*;omega) 106 ((j:Int)+1)<|aa 2 fun _=>dG _ (j+1,fy.set m0.toNat false) [0,1,2,3] kr ⟨by omega,Cq.step gX rj (Hh.by rj Et Hi (by omega)) (fun hh=>qcy)⟩ du):=h
def qtr(h:p:=by exact aY (fun vs=>Ua g (pv d) (sl A zs.length c) (iv (gm zs:Int)) (iv 0) (iv ((bL zs).length:Int)) (.bool false)) [1] (fun vs=>iv 0) [fun vs=>.b g 154 [pv d,sl A zs.length c,iv (gm zs:Int),iv 0,iv ((bL zs).length:Int),.bool false]] nE ko):=h
def qtq(h:p:=by
 rintro _ _ ⟨rfl,rfl⟩
 refine dB 12 g 96 E6<|ae 22 [12] fun _=>aJ (Bl g K S) [12,2,3,4,5,6,7,8,9,10,11] qat (⟨⟨v.A0,v.c0,v.A1,v.c1,v.A2,v.c2,v.A3,v.c3,v.A4,v.c4,v.A5,v.c5,v.A6,v.c6,v.A7,v.c7,v.A8,v.c8,v.left⟩,l,⟨rN,lq,Hj⟩,rfl⟩)<|qpf):=h
def qtp(h:p:=by exact aa 4 fun _=>ao (e:=by have JB:=Hh.sum (by omega);unfold dD at*;omega) 106 ((j:Int)+1)<|aa 2 fun _=>dG _ (j+1,fy.set m0.toNat (decide ((sd-vf)<0))) [0,1,2,3] kr ⟨by omega,Cq.step gX rj (Hh.by rj Et Hi (by omega)) (fun hh=>qcy)⟩ du):=h
def qto(h:p:=by exact aa 6 fun _=>ao 10 ((k:Int)+1)<|aa 2 fun _=>aB _ (k+1,A5,c6,ys++ [x2]) [0] kr ⟨by omega,by rw [hy,bp e3]⟩ du):=h
def qtn(h:p:=by exact fc (e:=fun _=>qax) (fun vs=>(((dy (ai l []) x.o.par).map (·.par)).length:Int)+1)):=h
def qtm(h:p:=by exact ao 16 (i+1)<|aa 2 fun _=>aB _ (i+1,m1) [0] kr ⟨jT,⟨by omega,by omega⟩⟩ du):=h
def qtl(h:p:=by exact fun w h=>Kd.cd (K:=aA) (xs:=(ys.set 0 (UInt8.ofNat ((cj (ys.drop 4)).toNat/16777216))).set 1 (UInt8.ofNat ((cj (ys.drop 4)).toNat/65536 % 256))) (h.bg 0 B d ((ys.set 0 (UInt8.ofNat ((cj (ys.drop 4)).toNat/16777216))).set 1 (UInt8.ofNat ((cj (ys.drop 4)).toNat/65536 % 256))) kr) Bk):=h
def qtk(h:p:=by
 refine aa 4 fun _=>ao 36 ((i:Int)+1)<|aa 2 fun _=>?_
 have hge:128≤m:=by omega
 have em:x2.toNat % 128=m % 128:=by omega
 have hd1:=hd.resolve_left fun h=>by omega
 exact dm _ (i+1,acc+x2.toNat % 128*2^(7*i),m/128) [] kr ⟨by rw [em];exact hT.step hn hge,hd1.2.2.1,by have:=hd1.2.2.2;omega⟩ du):=h
def qtj(h:p:=by
 refine aq ((bl x3.id y)<0) (fun h5=>?_) (fun h5=>?_)
 ·refine aa 3 fun _=>ao 33 ((((i+j)/2:Nat):Int)+1)<|aa 3 fun _=>aB _ (((i+j)/2)+1,j) [0] kr ⟨by omega,hj,wT hs e4 h5,hd⟩ du
 ·refine aa 5 fun _=>aB _ (i,((i+j)/2)) [0] kr ⟨by omega,by omega,ht,wU hs e4 h5⟩ du):=h
def qti(h:p:=by exact aY (fun vs=>YP none 0 [] z.o.prop z.o.val z.o.st List.Pairwise.nil (by decide)) [] (fun vs=>sl (ak (vs 9)) ((cO (⟨z.o.prop,z.o.val,z.o.st⟩:Rg) []).length) (an (vs 9))) [fun vs=>.k (eH.row (ak (vs 9)) (an (vs 9)) (cO (⟨z.o.prop,z.o.val,z.o.st⟩:Rg) []))] (fun vs w h=>Rc.nil _ _) kA):=h
def Wr(h:p:=by exact fun w h=>Kd.cd (K:=aP) (xs:=m1) (h.bg 0 aL aZ m1 kr) dg):=h
def qtg(h:p:=by exact fun vs w h=>Kd.cd (K:=aP) (xs:=m2) (h.bg 0 aL aZ m2 kr) dg):=h
def qtf(h:p:=by exact fun vs w h=>Kd.cd (K:=aP) (xs:=m7) (h.bg 0 aL aZ m7 kr) dg):=h
def qte(h:p:=by exact fun vs w h=>Kd.cd (K:=gB) (xs:=m1) (h.bg 0 aL aZ m1 kr) dg):=h
def Ty(h:p:=by exact cZ 3 (fun vs=>ad (some af) (0*5) 3) (fun vs=>iv f.i) qba):=h
def W0(h:p:=by exact bT (hp:=fun w h=>hp.2.aE h.ch) (Jw x.A x.c x.o.aX hp.1) jU):=h
def qtb(h:p:=by exact fun w h=>Kd.cd (K:=aA) (xs:=((ys.set 0 (UInt8.ofNat ((cj (ys.drop 4)).toNat/16777216))).set 1 (UInt8.ofNat ((cj (ys.drop 4)).toNat/65536 % 256))).set 2 (UInt8.ofNat ((cj (ys.drop 4)).toNat/256 % 256))) (h.bg 0 B d (((ys.set 0 (UInt8.ofNat ((cj (ys.drop 4)).toNat/16777216))).set 1 (UInt8.ofNat ((cj (ys.drop 4)).toNat/65536 % 256))).set 2 (UInt8.ofNat ((cj (ys.drop 4)).toNat/256 % 256))) kr) Bk):=h
def qta(h:p:=by exact fc (e:=fun _=>qax) (fun vs=>((((dy (ai l []) x.o.par).map (·.par)).length:Int)+1)+(gz (ai l []) ((ai l []).length+1) x.o.node:Int))):=h
def qs9(h:p:=by exact ⟨br (fun vs=>aL) (fun vs=>n) (fun vs=>p) 5 qwf,qh7,qwy,qh8,qwy,qhs,br (fun vs=>aL) (fun vs=>n) (fun vs=>p) 5 (fun vs w h=>Kd.cd (K:=aP) (xs:=ns.set a.toNat x1) (h.bg 0 aL aZ (ns.set a.toNat x1) kr) dg),qg3,trivial⟩):=h
def Ws(h:p:=by exact fun vs w h=>Kd.cd (K:=aP) (xs:=m1) (h.bg 0 aL aZ m1 kr) dg):=h
def Wu(h:p:=by exact fun w h=>Kd.cd (K:=aP) (xs:=m) (h.bg 0 aL aZ m kr) dg):=h
def qs6(h:p:=by exact aa 3 fun _=>ao 91 ((k:Int)+1)<|aa 2 fun _=>aD 0 (bJ g 420 [sl Ai bo.length ci,iv gp,iv rm,.bool (decide ((dH (v10 9))<rm)),sl (ak (v5 6)) ((bo.map iX).length) (an (v5 6)),sl (ak (v5 12)) fx.length bo.length]) (bJ g 420 [sl Ai bo.length ci,iv gp,iv rm,.bool (decide ((dH (v10 9))<rm)),sl (ak (v5 6)) ((bo.map iX).length) (an (v5 6)),sl (ak (v5 12)) ((fx.set k true).length) bo.length]) kr (by rw [cX])<|dB 5 g 420 qf0<|aB _ (k+1,fx.set k true) [5,1,4] kr ⟨by omega,by rw [cX];exact Cr,Ds hw vr (Or.inl rfl)⟩ du):=h
def qs5(h:p:=by exact aa 3 fun _=>ao 91 ((k:Int)+1)<|aa 2 fun _=>aD 0 (bJ g 420 [sl Ai bo.length ci,iv gp,iv rm,.bool (decide ((dH (v10 9))<rm)),sl (ak (v5 6)) ((bo.map iX).length) (an (v5 6)),sl (ak (v5 12)) fx.length bo.length]) (bJ g 420 [sl Ai bo.length ci,iv gp,iv rm,.bool (decide ((dH (v10 9))<rm)),sl (ak (v5 6)) ((bo.map iX).length) (an (v5 6)),sl (ak (v5 12)) ((fx.set k false).length) bo.length]) kr (by rw [cX])<|dB 5 g 420 qfz<|aB _ (k+1,fx.set k false) [5,1,4] kr ⟨by omega,by rw [cX];exact Cr,Ds hw vr (Or.inr qe2)⟩ du):=h
def qs4(h:p:=by exact aY (fun vs=>Hk ((ai l []).length+1) An cn Am cm x.o.node l (by omega) (by omega) (by omega)) [] (fun vs=>iv (gz (ai l []) ((ai l []).length+1) x.o.node:Int)) [] YZ ko):=h
def qs3(h:p:=by exact aa 3 fun _=>ao 91 ((k:Int)+1)<|aa 2 fun _=>aD 0 (bJ g 420 [sl Ai bo.length ci,iv gp,iv rm,.bool (decide ((dH (v10 9))<rm)),sl (ak (v5 6)) ((bo.map iX).length) (an (v5 6)),sl (ak (v5 12)) fx.length bo.length]) (bJ g 420 [sl Ai bo.length ci,iv gp,iv rm,.bool (decide ((dH (v10 9))<rm)),sl (ak (v5 6)) ((bo.map iX).length) (an (v5 6)),sl (ak (v5 12)) ((fx.set k (decide (kE.base<l_))).length) bo.length]) kr (by rw [cX])<|dB 5 g 420 qfd<|aB _ (k+1,fx.set k (decide (kE.base<l_))) [5,1,4] kr ⟨by omega,by rw [cX];exact Cr,Ds hw vr (Or.inr qe2)⟩ du):=h
def W3(h:p:=by first|assumption|omega|exact rg_of qas|exact rg_of (mg _ _)|exact dp TA _|exact (hL.ok.rg (by omega)).1|exact ((hL.gZ e5).ok.rg (by omega)).1|exact me _ _):=h
def W4(h:p:=by first|assumption|omega|exact rg_of qas|exact rg_of (mg _ _)|exact dp TA _|exact (hL.ok.rg (by omega)).1|exact ((hL.gZ Hl).ok.rg (by omega)).1|exact me _ _):=h
def qs0(h:p:=by exact ⟨EX ((ms.take i).length) Am l.length cm i 17 (some (iv i)) C7 (fun _=>kr) (⟨_,rfl⟩) (fun vs w h=>by omega),aY (fun vs=>Bm Am cm (ms.take i) (by first|omega|(rw [b0];omega))) [] (fun vs=>sl (ak (vs 4)) ((ms.take i).length) (an (vs 4))) [fun vs=>.k (gq.row (ak (vs 4)) (an (vs 4)) (ms.take i))] qpk kA,fJ (fun vs=>Dt w x (ai (l.take i) []) (dX _) (eZ _) qof) [3] (fun vs=>gq.V ⟨(⟨x.o,ak (ag (vs 7) 3),an (ag (vs 7) 3)⟩:aT),(aH (ai (l.take i) []) x.o).kW,⟨(aH (ai (l.take i) []) x.o).par.t,(aH (ai (l.take i) []) x.o).par.r⟩,(aH (ai (l.take i) []) x.o).key,(aH (ai (l.take i) []) x.o).idle⟩) [fun vs=>.k (tV w (iD (ai (l.take i) []) x.o)),fun vs=>.k (az.row (ak (ag (vs 7) 3)) (an (ag (vs 7) 3)) x.o.aX)] qki kA,qa8,trivial⟩):=h
def qsz(h:p:=by exact aY (fun vs=>KD An cn Am cm x.o.par l (dX l) (eZ l) (by omega)) [] (fun vs=>sl (ak (vs 5)) (((dy (ai l []) x.o.par).map (·.par)).length) (an (vs 5))) [fun vs=>.k (bZ.row (ak (vs 5)) (an (vs 5)) ((dy (ai l []) x.o.par).map (·.par)))] YZ kA):=h
def Wt(h:p:=by exact fun vs w h=>Kd.cd (K:=aP) (xs:=m) (h.bg 0 aL aZ m kr) dg):=h
def Ub(h:p:=by first|assumption|omega|exact rg_of qas|exact rg_of (mg _ _)|exact dp TA _|exact (hL.ok.rg (by omega)).1|exact ((hL.gZ yw).ok.rg (by omega)).1|exact me _ _):=h
def W5(h:p:=by exact aY (fun vs=>Bn (⟨g,0,none⟩) (⟨Ai,bo.length,ci,gp,rm,decide ((dH (v10 9))<rm),ak (v5 6),(bo.map iX).length,an (v5 6),ak (v5 12),fx.length,bo.length⟩:J5) kE (mh _ (aI vr))) [] (fun vs=>iv (vK (decide ((dH (v10 9))<rm)) kE)) [] qa3 ko):=h
abbrev qsv(a:α:=by exact fun (k,z)=> []):=a
def qsu(h:p:=by have:=hk4;first|exact this|omega):=h
def qst(h:p:=by have:=I4 h2;omega):=h
def qss(h:p:=by have:=Hm hs hy q hq;omega):=h
def qsr(h:p:=by constructor<;>(try split)<;>omega):=h
def qsq(h:p:=by exact by rw [e9];simp only [cX]):=h
def qsp(h:p:=by exact fun vs w h=>hp.hv.aE h.ch):=h
def qso(h:p:=by have:=(jJ.ok _ _ Pe).len;omega):=h
def qsn(h:p:=by have:=(jJ.ok _ _ Pf).len;omega):=h
def qsm(h:p:=by
 rintro _ k hF dm
 exact hF.elim):=h
def qsl(h:p:=by
 rw [bA,gD (bO _)]
 simp):=h
def qsk(h:p:=by exact Int.le_refl _):=h
def qsj(h:p:=by exact dv (.bool (!b)) (dP YF)):=h
def qsi(h:p:=by exact kK _ false [0] kr trivial):=h
def qsh(h:p:=by rw [cH];rfl):=h
def qsg(h:p:=by simpa using h1):=h
def qsf(h:p:=by simpa using hb):=h
def qse(h:p:=by simpa using hc):=h
def qsd(h:p:=by simpa using hl):=h
abbrev qsc(a:α:=by exact fun k=> [.b b 56 (aT.cells x)]):=a
def qsb(h:p:=by exact by rw [GL Cu.1,Cu.2]):=h
def qsa(h:p:=by exact by rw [← bp Nl];rfl):=h
def qr9(h:p:=by exact fun w h=>hL.at_ _ (hp _ h.ch)):=h
def qr8(h:p:=by rw [hW,bA,lW hj,← bA]):=h
def qr7(h:p:=by rw [fv.1 hr];exact ⟨rfl,rfl⟩):=h
def qr6(h:p:=by simp only [b0,cL,fA];omega):=h
def qr5(h:p:=by simpa [BitVec.xor_assoc] using this):=h
def qr4(h:p:=by cases x<;>cases y<;>simp_all<;>omega):=h
def qr3(h:p:=by exact fun vs w h=>hp.2.2.1.aE h.ch):=h
def qr2(h:p:=by exact fun vs w h=>hp.2.2.2.aE h.ch):=h
def qr1(h:p:=by exact fun w h=>h.bg 3 A6 c7 vL kr):=h
def qr0(h:p:=by rw [gy hy];exact bH _ hq):=h
def qrz(h:p:=by rw [nv.len];exact (nv.held y hy).2):=h
def qry(h:p:=by rw [eM];omega):=h
def qrx(h:p:=by rw [cM];simp only [cM] at*;omega):=h
def qrw(h:p:=by rw [← h.yes rfl,gy hy];simp):=h
def qrv(h:p:=by simp [hm,h4,h3,h1,h5,Result.andThen]):=h
def qru(h:p:=by simp only [List.sum_cons] at h;omega):=h
def qrt(h:p:=by exact fc (fun vs=>f+(((2*i)+1)+1))):=h
def qrs(h:p:=by first|omega|rfl):=h
def qrr(h:p:=by have:=h.1;simp at this;subst this;rfl):=h
def qrq(h:p:=by rw [K.size,vi]):=h
def qrp(h:p:=by
 rw [wrap_u8,UInt8.toNat_ofNat']
 omega):=h
def qro(h:p:=by rw [← e,Int.toNat_natCast];exact hr):=h
def qrn(h:p:=by show ((x.b.length:Nat):Int)≠0;omega):=h
def qrm(h:p:=by exact fc (fun vs=>(l.length:Int)-1)):=h
def qrl(h:p:=by exact a_ [] ⟨(-1),kr,by omega,kr⟩):=h
def qrk(h:p:=by exact by first|(rw [hv8];rfl)|rw [hv8]):=h
def qrj(h:p:=by exact fun w h=>.str kr rfl (Pg z)):=h
def qri(h:p:=by obtain ⟨a,e⟩:=Rc.addr h h0;cases e):=h
def qrh(h:p:=by rw [List.eq_of_mem_replicate hx];omega):=h
def qrg(h:p:=by
 rw [wrap_u32,BitVec.toNat_ofNat]
 omega):=h
def qrf(h:p:=by show ws.sum≠0;omega):=h
def qre(h:p:=by (try simp only [bm,cL,cX]);omega):=h
def qrd(h:p:=by exact EU (s8 hs _) hn AY rfl):=h
def qrc(h:p:=by exact hc _ fun j hj=>h j (dq.2 hj)):=h
def qrb(h:p:=by have:=xN hT (hw _ (aI e3));omega):=h
def qra(h:p:=by obtain ⟨_,h1,_⟩:=xD h;cases h1):=h
def qq9(h:p:=by rw [← rB];exact di (aI hm.1)):=h
def qq8(h:p:=by rw [← hy4];exact di (lH hx)):=h
def qq7(h:p:=by simp only [fm,List.map_nil,fz,hE]):=h
def qq6(h:p:=by exact by first|(rw [Yx];rfl)|rw [Yx]):=h
def qq5(h:p:=by exact by first|(rw [Y0];rfl)|rw [Y0]):=h
def qq4(h:p:=by exact by first|(rw [Yr];rfl)|rw [Yr]):=h
def qq3(h:p:=by exact by first|(rw [Y1];rfl)|rw [Y1]):=h
def qq2(h:p:=by exact by first|(rw [Y2];rfl)|rw [Y2]):=h
def qq1(h:p:=by exact by first|(rw [Y3];rfl)|rw [Y3]):=h
def qq0(h:p:=by exact by first|(rw [Y4];rfl)|rw [Y4]):=h
def qqz(h:p:=by exact by rw [e1,e2,e3]):=h
def qqy(h:p:=by exact by rw [← bp e3,cT];rfl):=h
def qqx(h:p:=by exact by rw [← bp e4,cT];rfl):=h
def qqw(h:p:=by exact fun w h=>(aT.gx.aE hp h.ch).rd):=h
def qqv(h:p:=by exact this m (bO _)):=h
def qqu(h:p:=by rw [List.getElem?_drop] at lz;exact lz):=h
def qqt(h:p:=by exact aa 1 fun _=>kK _ m6 [0] kr Uc):=h
def qqs(h:p:=by exact aa 1 fun _=>nI _ m5 [0] kr rG):=h
def qqr(h:p:=by
 simp only [ba,bm,b0,cL]
 omega):=h
abbrev qqq(a:α:=by exact fun (i,j,m)=> [.k (aP.row aL aZ m)]):=a
abbrev qqp(a:α:=by exact fun (i,j,m)=> [.k (gB.row aL aZ m)]):=a
abbrev qqo(a:α:=by exact fun k=> [.b b 32 [sl Av vv.length cv]]):=a
def qqn(h:p:=by exact (show False from h2 (by omega)).elim):=h
def qqm(h:p:=by exact (show False from h3 (by omega)).elim):=h
def qql(h:p:=by exact fc (fun vs=>(o6.fr:Int)+(i:Int))):=h
def qqk(h:p:=by exact a_ [8,1] (⟨W,kr,hW,rfl,rfl,kr⟩)):=h
def qqj(h:p:=by exact by rw [List.take_zero,mo];rfl):=h
def qqi(h:p:=by exact fun vs w F h=>h.XS 1 x.A x.c x.b kr):=h
def qqh(h:p:=by exact fun vs w h=>hL.at_ _ (hp.2.1 _ h.ch)):=h
def qqg(h:p:=by exact fun w h=>h.mR (K:=aP) 0 A c xs kr):=h
def qqf(h:p:=by
 rw [gy hy] at h
 exact (iq.1 h).1):=h
def qqe(h:p:=by cases e<;>first|exact absurd rfl he|exact h):=h
abbrev qqd(a:α:=by exact [bJ gw 314 [.map (some m2)],mapA m2 R]):=a
def qqc(h:p:=by exact (show False from absurd C6 h9).elim):=h
def qqb(h:p:=by exact aa 2 fun _=>a_ [] ⟨k1,kr,f2,kr⟩):=h
def qqa(h:p:=by
 have Ud:(2:Nat)^53=2*2^52:=by decide
 omega):=h
def qp9(h:p:=by rw [he];(try rfl)):=h
def qp8(h:p:=by rw [← hy,sT (n:=y.toNat) (by omega)]):=h
def qp7(h:p:=by exact dv (.bool (decide (i>0))) (dP b26)):=h
def qp6(h:p:=by exact iT (wrap_i64 ⟨by omega,by omega⟩)):=h
def qp5(h:p:=by exact congrArg (Value.int .u8) (KE x2)):=h
def qp4(h:p:=by exact fun w h=>h.mR (K:=aA) 0 B d ys kr):=h
def qp3(h:p:=by exact fun w h=>h.Ns (v:=⟨d,a2⟩) 3 kr hf):=h
def qp2(h:p:=by exact Ph (by omega)):=h
def qp1(h:p:=by rw [← zK us];exact ha):=h
abbrev qp0(a:α:=by exact c_.cells ⟨aj rep u (l.take i),a⟩):=a
def qpz(h:p:=by exact dv (.bool (decide (i1<b))) (dP b33)):=h
def qpy(h:p:=by
 rw [if_neg (by omega)]
 simp only [bm]
 omega):=h
def qpx(h:p:=by exact a_ [1,2] ⟨B,d,m,kr,by omega,Y5,kr⟩):=h
def qpw(h:p:=by exact by rw [mr hr]):=h
def qpv(h:p:=by exact by rw [show m7++fG 0=m7 from fj _]):=h
def qpu(h:p:=by exact by rw [show nq l x.o=l from if_neg hk]):=h
def qpt(h:p:=by exact by simp only [bm]):=h
def qps(h:p:=by exact fun w h=>bW (K:=eH) (hp.aE h.ch) e4):=h
def qpr(h:p:=by exact fun w h=>bN (K:=eH) (hp.aE h.ch) e3):=h
def qpq(h:p:=by exact fun w h=>⟨hp.aE h.ch,hp.aE h.ch⟩):=h
def qpp(h:p:=by unfold bY at h;omega):=h
abbrev qpo(a:α:=by exact fun (i,j)=> [.b (a8 2) 29 [iv y.t,iv y.r]]):=a
abbrev qpn(a:α:=by exact fun k=> [(0,sl aU xs.length bb),(3,iv k)]):=a
def qpm(h:p:=by exact dv (.bool (decide (u1≤j))) (dP NA)):=h
def qpl(h:p:=by exact dv (.bool (decide (u5≤j))) (dP b49)):=h
def qpk(h:p:=by exact fun vs w h=>Kd.take (h.bg 4 Am cm ms kr)):=h
def qpj(h:p:=by exact fun w h=>bN (K:=aP) (Bg.aE h.ch) e4):=h
def qpi(h:p:=by exact dm _ (k+1) [] kr (by omega) (by omega)):=h
def qph(h:p:=by rw [fv] at hx;subst hx;exact .inr (aI hy)):=h
def qpg(h:p:=by exact fc (fun vs=>((at_:Int)+8)+(z.size:Int))):=h
def qpf(h:p:=by exact a_ [13] ⟨kr,kr⟩):=h
def qpe(h:p:=by exact cY hx (eO hp w) ⟨rfl,hS⟩):=h
def qpd(h:p:=by exact dv (.bool (decide (u0≤u2))) (dP b55)):=h
def qpc(h:p:=by exact dv (.bool (decide (u1≤u3))) (dP b19)):=h
def qpb(h:p:=by exact dv (.bool (decide (u5≤u7))) (dP b43)):=h
def qpa(h:p:=by exact by rw [← lz,cM]):=h
def qo9(h:p:=by exact w4 (by omega) (by omega) (by omega)):=h
def qo8(h:p:=by have e2:=gj v_ i (n:=256) (by omega);omega):=h
def qo7(h:p:=by
 intro i hi hl
 rw [ff] at hl
 simp [hi] at hl):=h
def qo6(h:p:=by simp only [cM] at*;omega):=h
abbrev qo5(a:α:=by exact [pv d,sl none 0 0,iv 0,iv 0,iv 0,.bool false]):=a
def qo4(h:p:=by exact cY hx (eO hp w) ⟨rfl,rfl⟩):=h
def qo3(h:p:=by exact fun w h=>((hp.2.2 x2 (aI e3)).aE h.ch)):=h
def qo2(h:p:=by rw [fj];exact hS):=h
def qo1(h:p:=by unfold maxLen;omega):=h
def qo0(h:p:=by exact kO (eS.vF _)):=h
def qoz(h:p:=by exact kO (aP.vF _)):=h
def qoy(h:p:=by exact kO (bx.vF _)):=h
def qox(h:p:=by exact kO (eH.vF _)):=h
def qow(h:p:=by exact fun vs w h=>(hL.gZ yw).at_ _ (hp.2 _ h.ch)):=h
def qov(h:p:=by exact fun w h=>(f6 No w (Rc.u0 (hp.aE h.ch))).rc):=h
def qou(h:p:=by exact fun w h=>(ht No w (Rc.u0 (hp.aE h.ch))).rc):=h
def qot(h:p:=by exact fun w h=>⟨hp.1.aE h.ch,hp.2.aE h.ch⟩):=h
def qos(h:p:=by exact Pc hl (by omega)):=h
def qor(h:p:=by unfold bB;rw [bm];omega):=h
def qoq(h:p:=by exact dv (.bool (decide (u0≤(b-1)))) (dP b61)):=h
def qop(h:p:=by exact by first|omega|(simp only [bm,eA];omega)):=h
def qoo(h:p:=by exact fun w h=>bN (K:=bx) ((hp.aE h.ch).rc) e3):=h
def qon(h:p:=by have:=(z.data.toList.getD i.toNat 0).toNat_lt;omega):=h
def qom(h:p:=by exact by rw [List.drop_zero]):=h
def qol(h:p:=by exact by rw [hy,b0];omega):=h
def qok(h:p:=by exact fun vs w h=>bW (K:=Cn) (hp.1.aE h.ch) rfl):=h
def qoj(h:p:=by exact fun w h=>bW (K:=az) ((hp.aE h.ch).rc) e3):=h
def qoi(h:p:=by exact fun w h=>h.mR (K:=aA) 5 A4 c5 (jK z) kr):=h
def qoh(h:p:=by exact fun w h=>⟨hp.tr.aE h.ch,hp.lk.aE h.ch⟩):=h
def qog(h:p:=by have:=h.rs k hk;exact ⟨this.1,by omega,this.2.2⟩):=h
def qof(h:p:=by have:=ye l i;omega):=h
def qoe(h:p:=by rw [hr] at e;injection e with e;rw [← e];exact NB):=h
def qod(h:p:=by simpa only [cM] using this):=h
def qoc(h:p:=by
 subst this
 exact (Array.getElem?_eq_some_iff.1 hh).1):=h
def qob(h:p:=by exact bk [1] [] ⟨0,0,0,0,0,0,none,0,0,1,kr,kr⟩):=h
def qoa(h:p:=by exact fun w h=>Kd.drop ((hp.aE h.ch).rc) (by omega)):=h
def qn9(h:p:=by exact fun w h=>Kd.drop (h.bg 0 B d ys kr) (by omega)):=h
def WD(h:p:=by exact .inl rfl):=h
def qn7(h:p:=by exact congrArg (Value.int .u64) (rF (by omega))):=h
def qn6(h:p:=by simp only [cL,b0];omega):=h
def WC(h:p:=by simpa using hx):=h
def qn4(h:p:=by exact fun vs w h=>hcx):=h
def qn3(h:p:=by
 unfold dS
 rw [if_neg (by omega),Option.map_some,zP]):=h
def qn2(h:p:=by exact dv (.bool (decide ((((2*i)+1)+1)<hi))) (dP b3)):=h
def qn1(h:p:=by exact fun w h=>bN (K:=aP) (h.bg 0 aL aZ ns kr) CV):=h
def qn0(h:p:=by exact im _ false [0] kr (fun h=>absurd h (by decide))):=h
def qnz(h:p:=by exact EF _ false [0] kr (fun h=>absurd h (by decide))):=h
def qny(h:p:=by exact EE _ false [0] kr (fun h=>absurd h (by decide))):=h
def qnw(h:p:=by
 have:=(h U w hp).go w hS a ha
 rw [hc] at this
 exact this):=h
def qnv(h:p:=by
 unfold vM
 rw [bA,fk,List.getElem?_range hi]
 rfl):=h
def qnu(h:p:=by exact dv (.bool (!decide (x.o.seq=(kE+1)))) (dP b15)):=h
def qnt(h:p:=by exact congrArg (Value.int .u8) (RU (cj (ys.drop 4)))):=h
def qns(h:p:=by exact congrArg (Value.int .u8) (RV (cj (ys.drop 4)))):=h
def qnr(h:p:=by exact fun vs w h=>bW (K:=np) ((hp.2.aE h.ch).rc) wD):=h
def qnq(h:p:=by exact fun vs w h=>bN (K:=aP) (h.bg 0 aL aZ m kr) e5):=h
def qnp(h:p:=by
 intro j hj f
 rw [bA,fk,List.getElem?_range hj]
 rfl):=h
def qno(h:p:=by
 rw [List.map_set,e]
 exact mr (by rw [fk,hr];rfl)):=h
def qnn(h:p:=by simp only [cH,List.cons_append];exact List.perm_middle):=h
abbrev qnm(a:α:=by exact fun (k,B,d,bo)=> [.k (ja R gw),.k (np.row B d bo)]):=a
def qnl(h:p:=by exact dP (decide_eq_false Ue)):=h
def qnk(h:p:=by exact congrArg (Value.int .u8) (KF (cj (ys.drop 4)))):=h
def qnj(h:p:=by exact congrArg (Value.int .u8) (KG (cj (ys.drop 4)))):=h
def qni(h:p:=by exact fun vs w h=>bN (K:=aP) (h.bg 0 aL aZ m kr) ng):=h
def qnh(h:p:=by exact fun vs w h=>bN (K:=aP) (h.bg 0 aL aZ m1 kr) e6):=h
def qng(h:p:=by exact fun vs w h=>bN (K:=aP) (h.bg 0 aL aZ m1 kr) e8):=h
def qnf(h:p:=by first|(rw [Y6];rfl)|rw [Y6]):=h
def qne(h:p:=by first|omega|exact hp.1):=h
def qnd(h:p:=by have:=gX.at rj;omega):=h
def qnc(h:p:=by rw [Kd.size,cL];rfl):=h
def qnb(h:p:=by exact (show False from by have:=hw _ (aI e4);omega).elim):=h
def WV(h:p:=by simpa using iJ):=h
def qm9(h:p:=by exact fM (e:=by have:=hv.2.2 _ (aI vr);omega) (kE+1)):=h
def qm8(h:p:=by exact by simp only [cL];omega):=h
def qm7(h:p:=by exact fun vs w F h=>hp.2.ew h):=h
def qm6(h:p:=by exact fun w h=>bW (K:=CS) (h.bg 2 j0 qq fg kr) Pj):=h
def qm5(h:p:=by exact ⟨dv (.bool (decide (a.wh<0))) (dP b3),trivial⟩):=h
def qm4(h:p:=by have:=congrArg ByteArray.size hz;rw [j3] at this;omega):=h
abbrev qm3(a:α:=by exact c_.cells ⟨d,a⟩):=a
def qm2(h:p:=by exact dv (.bool (cS x.o.par (⟨0,0⟩:cN))) (dP b10)):=h
def qm1(h:p:=by
 intro _ cG
 refine aa 6 fun _=>cG _ 0 [] kr (bh _)):=h
def qm0(h:p:=by simp only [dM];omega):=h
abbrev qmz(a:α:=by exact [pv p,sl A iA.length c,iv (gm (bU l):Int),.bool false]):=a
def qmy(h:p:=by exact fc (fun vs=>(at_:Int)+8)):=h
def qmx(h:p:=by intro y hy;rw [List.getElem?_eq_none (bO _)] at hy;cases hy):=h
abbrev qmw(a:α:=by exact [sl aU xs.length bb,iv ((p+(iL o).length:Nat):Int),iv 0]):=a
def qmv(h:p:=by exact (show False from by have:=hT.2.2.2 (by omega);omega).elim):=h
def qmu(h:p:=by exact dv (.bool (!(cS x.o.par (⟨0,1⟩:cN)))) (dP b9)):=h
abbrev qmt(a:α:=by exact [sl A ((iD xs x.o).length) c]):=a
abbrev qms(a:α:=by exact [sl Av vv.length cv]):=a
def qmr(h:p:=by exact dv (.bool (!(cS x.o.par (⟨0,1⟩:cN)))) (dP RE)):=h
def qmq(h:p:=by exact dv (.bool (decide (x.o.seq≤1099511627776))) (dP Pk)):=h
def qmp(h:p:=by exact by have:=hk4;first|omega|(simp only [fA] at this;omega)):=h
def qmo(h:p:=by exact fun vs w h=>hp.2.1.aE h.ch):=h
def qmn(h:p:=by exact OU (by omega)):=h
def qmm(h:p:=by have vj:b=w.heap.size:=hb;subst vj;exact ⟨bO _,by simp⟩):=h
def qml(h:p:=by have:=hw.1;omega):=h
def W6(h:p:=by rw [dw hi,e]):=h
abbrev qmj(a:α:=by exact [bJ (a8 2) 54 (c_.cells ⟨v_.d,a2⟩),SA (⟨v_.d,a2⟩)]):=a
def qmi(h:p:=by exact aa 4 fun _=>a_ [] (.inr ⟨2,kr,by decide,KH f5,kr⟩)):=h
def qmh(h:p:=by exact fun w h=>Kd.cd (K:=eS) (xs:=xs) (hp.aE h.ch) (by omega)):=h
def qmg(h:p:=by exact fun w h=>Kd.cd (K:=aP) (xs:=ns) (hp.aE h.ch) (by omega)):=h
def qmf(h:p:=by exact fun w h=>Kd.cd (K:=bx) (xs:=xs) (hp.aE h.ch) (by omega)):=h
def qme(h:p:=by exact iq.2 ⟨fun m hm=>by rw [← h2];exact hp.1 m hm,hp.2⟩):=h
def qmd(h:p:=by
 have:=congrArg (List.drop 1) h2
 simpa [List.drop_drop] using this):=h
def qmc(h:p:=by rcases pe with h|h;exact List.mem_append_left _ h;rw [h];simp):=h
def qmb(h:p:=by
 refine ⟨_,SH.lr (tk:=tk) ?_,k v C' hR⟩
 rw [Er]
 exact hs):=h
def qma(h:p:=by exact fun vs w h=>.sl (by rw [aA.size];rfl) ((hp.aE h.ch).rc)):=h
def ql9(h:p:=by intro x hx;simp only [dx,List.not_mem_nil,or_false] at hx;omega):=h
abbrev ql8(a:α:=by exact .pointer (some ⟨r.dk,0,none⟩)::.pointer none::c_.cells r.s):=a
def ql7(h:p:=by exact fc (fun vs=>a+i)):=h
def ql6(h:p:=by exact fM (f+((2*i)+1))):=h
def ql5(h:p:=by exact by rw [b0,cL,fD (by (try simp only [fA]);omega)]):=h
abbrev ql4(a:α:=by exact [sl A ((iu xs e.d).length) c]):=a
def ql3(h:p:=by exact .inl (h.own r (aI hr) o ho)):=h
def XX(h:p:=by exact iT (by omega)):=h
def ql1(h:p:=by exact fun w h=>Kd.cd (K:=bx) (xs:=L) (h.bg 0 A c L kr) (by omega)):=h
def ql0(h:p:=by exact fun w h=>⟨h.Ns (v:=⟨d,a2⟩) 3 kr hf,(hp.aE h.ch).rc⟩):=h
def qlz(h:p:=by have h8:=htd.1;have h9:(List.replicate q true).length=q:=eA;omega):=h
def qly(h:p:=by
 obtain ⟨e1,e2⟩:=hR vs u C' hr'
 rw [e2] at hN
 exact ⟨e1,hN⟩):=h
def qlx(h:p:=by rintro ⟨m,hm,h⟩;exact ⟨m,hm,by simpa [en] using h⟩):=h
def qlw(h:p:=by rw [show nq l x.o=l from if_neg hk,← Cr];(try simp only [cX])):=h
def qlv(h:p:=by exact fun w h=>Kd.cd (K:=az) (xs:=m) (h.bg 0 B d m kr) (by omega)):=h
def qlu(h:p:=by exact fun w h=>Kd.cd (K:=az) (xs:=q) (h.bg 0 B d q kr) (by omega)):=h
def qlt(h:p:=by exact fun w h=>Kd.cd (K:=eS) (xs:=xs) (hp.2.1.aE h.ch) (by omega)):=h
def qls(h:p:=by
 rcases dx.1 hm with rfl|hm
 ·exact hg
 ·exact hg.trans (hp.1 m hm)):=h
def qlr(h:p:=by exact fun w h=>Kd.cd (K:=az) (xs:=os) (hp.2.1.aE h.ch) (by omega)):=h
def qlq(h:p:=by exact fun w h=>Kd.cd (K:=bx) (xs:=xs) ((hp.aE h.ch).rc) (by omega)):=h
def qlp(h:p:=by exact fun w h=>Kd.cd (K:=bx) (xs:=ys) (ve.2.1.aE h.ch) (by omega)):=h
def qlo(h:p:=by
 intro j vs
 have:has (own T j) j=true:=dq.2 cE
 simp [mask,this]):=h
def qln(h:p:=by first|(rw [ee,rN,ki];done)|(rw [ee,rN,ki];rfl)|rw [ee,rN,cX,ki]):=h
def qlm(h:p:=by have:=congrArg List.length (Hn yi (aI Pj));rw [cM] at this;omega):=h
def qll(h:p:=by exact aa 7 fun _=>a_ [] ⟨true,kr,(fun h=>absurd h (by decide)),kr⟩):=h
def qlk(h:p:=by exact iT ((Int.natCast_add _ _).symm)):=h
def qlj(h:p:=by first|omega|(have h2:=cg h;omega)):=h
def qli(h:p:=by first|omega|(have:=xY gS (x:=bM b 4) (gS.rg (by omega)).1;omega)):=h
def qlh(h:p:=by simp only [bm,Yq,dM,fA];omega):=h
def qlg(h:p:=by simp only [bm,fA,show∀s,(fp s).length=4 from fun _=>rfl];omega):=h
def qlf(h:p:=by exact fun w h=>Kd.cd (K:=az) (xs:=os) ((hp.1.aE h.ch).rc) (by omega)):=h
def qle(h:p:=by exact ⟨bO _,by simp⟩):=h
abbrev qld(a:α:=by exact [aP.row An cn (ai l []),gq.row Am cm ms,aM.all (ms.map cD.own)]):=a
def qlc(h:p:=by exact by rw [ek,List.drop_length,fj]):=h
def qlb(h:p:=by exact fun vs u C h=>by obtain ⟨_,_,_,_,rfl,rfl⟩:=h;exact ⟨rfl,rfl⟩):=h
def qla(h:p:=by exact fun w h=>Kd.cd (K:=aP) (xs:=ai l []) (Bg.aE h.ch) (by omega)):=h
def qk9(h:p:=by
 obtain ⟨h2,h3⟩:=K.part (xs:=xs) (dw h1)
 rw [h2,List.take_left' h3]):=h
def qk8(h:p:=by simpa using h (i+1) (by simpa using hi)):=h
def qk7(h:p:=by exact a_ [0,1,2,3] ⟨B,d,ks,C,e,hs,cr,kr,by omega,by omega,OD,afu,kr⟩):=h
def qk6(h:p:=by exact fun vs w h=>bW (K:=az) (h.bg 0 A2 c3 [f.fN,f.to,f.kind] kr) rfl):=h
def qk5(h:p:=by exact fun w h=>Kd.cd (K:=az) (xs:=Bo) (h.bg 3 A1 c2 Bo kr) (by omega)):=h
def qk4(h:p:=by exact fun w h=>bW (K:=az) (h.bg 5 nf mD [(f.ops.length:Int)] kr) rfl):=h
def qk3(h:p:=by exact fun w h=>bN (K:=gq) (Kd.drop (h.bg 3 Am cm ms kr) (by omega)) lz):=h
def qk2(h:p:=by first|omega|(simp only [bm];have:=eB (n:=x.t.toNat) (by omega);omega)):=h
def qk1(h:p:=by obtain ⟨q,hq,rfl⟩:=List.mem_map.1 e;exact (hp.1.2.2.2.2 q hq).aE h.ch):=h
abbrev qk0(a:α:=by exact fun (i,m)=> [.k (aP.row aL aZ m)]):=a
abbrev qkz(a:α:=by exact fun (i,m)=> [.k (gB.row aL aZ m)]):=a
def qky(h:p:=by exact by have:=hp.1;simp only [hl];omega):=h
def qkx(h:p:=by exact fun vs w h=>hL.at_ _ (hp.2 _ h.ch)):=h
def qkw(h:p:=by
 obtain ⟨F',Bp⟩:=s9 (di (f:=aT.own) hx) hF
 exact Row.rc Bp.2):=h
def TF(h:p:=by simpa using h):=h
def qku(h:p:=by exact List.mem_append_left _ (h.mem m hm)):=h
def qkt(h:p:=by exact fun vs u C h=>by obtain ⟨_,_,_,_,_,_,rfl,rfl⟩:=h;exact ⟨rfl,rfl⟩):=h
def qks(h:p:=by first|exact hcx|(simp only [cL];omega)):=h
def qkr(h:p:=by
 rw [eJ hk,fj] at this
 exact this):=h
def qkq(h:p:=by show (2:Nat)≤1000000;decide):=h
def Y7(h:p:=by exact by rw [cT];rfl):=h
def qko(h:p:=by exact fun w h=>h.mR (K:=bx) 0 A c xs kr):=h
def qkn(h:p:=by
 rintro _ _ ⟨A1,c2,rfl,rfl⟩
 refine aa 5 fun _=>a_ [0,3,4] ⟨A1,c2,kr,kr⟩):=h
def qkm(h:p:=by simp only [Value.int.injEq,true_and];omega):=h
def qkl(h:p:=by exact a_ [] (.inr ⟨1,kr,by decide,fun hh=>by rw [hh.2] at h6;simp at h6,kr⟩)):=h
def qkk(h:p:=by exact by rw [b0,cL,fD (by omega)]):=h
def qkj(h:p:=by exact by simp only [bm,b0,cL];omega):=h
def qki(h:p:=by exact fun vs w F h=>hp.ew h):=h
def qkh(h:p:=by exact fun vs w h=>(aT.gx.aE hp h.ch).rd):=h
def qkg(h:p:=by first|omega|(show v_.d.hv.length≤_;omega)):=h
def qkf(h:p:=by exact aa 4 fun _=>a_ [] ⟨kt (.bool false) (dP (df (Oo (by omega)))),kr⟩):=h
def qke(h:p:=by obtain ⟨⟨_,h⟩,rfl⟩:=h;refine ⟨?_,rfl⟩;rcases h with ⟨_,rfl,_⟩<;>rfl):=h
def qkd(h:p:=by
 refine ⟨?_,?_⟩
 ·simp only [e];rfl
 ·simp only [fm,List.map_nil,e]
  exact hw):=h
def qkc(h:p:=by
 obtain ⟨G',h1,_⟩:=Bq (di (f:=f) hx) hG
 rw [e] at h1
 exact Row.rc h1.2):=h
def qkb(h:p:=by exact iT (Kk (by omega))):=h
def qka(h:p:=by first|(rw [Y8];rfl)|rw [Y8]):=h
def qj9(h:p:=by obtain ⟨⟨_,h⟩,rfl⟩:=h;refine ⟨?_,rfl⟩;rcases h with ⟨_,_,rfl,_,_⟩<;>rfl):=h
def qj8(h:p:=by exact aa 1 fun _=>a_ [0] ⟨m1,kr,jT,kr⟩):=h
def qj7(h:p:=by simp [Builtin.append_,run_underlying ht,sizeOf,typeInfo,hi,Builtin.lenOf,kc,hf,ha,ji]):=h
def qj6(h:p:=by
 unfold bl dO
 repeat' split
 all_goals omega):=h
def qj5(h:p:=by
 have:((k*i.bytes:Nat):Int)≤140737488355328:=by omega
 rw [Int.natCast_mul] at this
 omega):=h
def qj4(h:p:=by exact jS (fun vs=>.bool (decide (kE.base>l_))) (fun vs=>.bool false) (fun _=>dP NA)):=h
def qj3(h:p:=by
 rcases h with rfl|⟨x,h1,_,rfl⟩
 ·simp
 ·exact hp x.d (by rw [← hx];exact di h1)):=h
def qj2(h:p:=by exact fc (fun vs=>f+((2*i)+1))):=h
def qj1(h:p:=by rw [← he,List.set_getElem_self]):=h
def qj0(h:p:=by exact a_ [] ⟨kt (.bool false) (dP (df (fun e=>by have:=e x2 (aI e3);simp_all))),kr⟩):=h
def qjz(h:p:=by exact a_ [] ⟨kt (.bool false) (dP (df (fun h=>by have:=h.2.2 _ (aI e4);omega))),kr⟩):=h
def qjy(h:p:=by exact dv (.bool (decide ((((dy (ai l []) y).map (·.par)).length:Int)>0))) (dP b9)):=h
def OO(h:p:=by rw [cM];omega):=h
abbrev qjw(a:α:=by exact [bx.row Ax cx iA,aM.all (iA.map aT.own)]):=a
def qjv(h:p:=by exact jS (fun vs=>.bool (decide ((dH (v10 9))<rm))) (fun vs=>.bool false) (fun _=>dP Y9)):=h
def qju(h:p:=by exact fun w h=>Kd.cd (K:=eH) (xs:=l) (h.bg 1 A2 c3 l kr) (by have:=(aN.1 hm.1).1;omega)):=h
def qjt(h:p:=by exact fun w h=>bW (K:=IG) (hp.1.aE h.ch) rfl):=h
def qjs(h:p:=by exact fun w h=>bW (K:=Cn) (hp.1.aE h.ch) rfl):=h
def qjr(h:p:=by have:=mP (l.take i++x.o::(l.drop i).take j);have:=yf (l:=l) (j:=j) (o:=x.o) hi;omega):=h
def qjq(h:p:=by show (n:Int)≠0;omega):=h
def qjp(h:p:=by simp only [ge_iff_le,yx,Bool.decide_eq_true]):=h
def J1(h:p:=by simpa using e):=h
def qjn(h:p:=by exact aa 2 fun _=>aB _ (k+1) [] kr ⟨by omega,Ho hy e5 e3 (by omega)⟩ (by omega)):=h
def qjm(h:p:=by
 rw [hb] at hi
 simp only [cond_true,a9] at hi
 subst hi
 have:=dh hb
 subst this
 exact h.1):=h
def qjl(h:p:=by exact aa 7 fun _=>a_ [] ⟨0,0,kr,by omega,kr⟩):=h
def qjk(h:p:=by exact fun w h=>bN (K:=bx) (hp.2.1.aE h.ch) e3):=h
def qjj(h:p:=by exact ae 7 [0] fun _=>a_ [] ⟨decide ((l.length:Int)>200),kr,(fun h=>by simpa using h),kr⟩):=h
def qji(h:p:=by rw [cX];exact hb o (bH _ ho)):=h
def qjh(h:p:=by exact fun w h=>bW (K:=k7) (hp.at.aE h.ch) rfl):=h
def qjg(h:p:=by exact congrArg (Value.int .u8) (KI (by omega))):=h
def qjf(h:p:=by exact fun w h=>h.bg 0 aL aZ ns kr):=h
def qje(h:p:=by
 have:=b.toNat_lt
 rw [wrap_u32]
 omega):=h
def qjd(h:p:=by
 have:=congrArg (·[0]?) h2
 simp only [List.getElem?_drop,Nat.add_zero] at this
 rw [← this];exact hy):=h
def qjc(h:p:=by exact cB 3 (((cz x.A).add (x.o.st.r.toNat*1)).add 0) (fun w h=>bW (K:=az) (hp.2.aE h.ch) vr)):=h
def qjb(h:p:=by exact NX .quo .i64 r (n:Int) (r/(n:Int)) (by show (n:Int)≠0;omega) qwc):=h
def RS(h:p:=by have:=hv.2.1;omega):=h
def qi9(h:p:=by
 rw [← Uf,List.getElem?_take] at hj
 split at hj
 ·rw [List.getElem?_drop] at hj;exact hj
 ·cases hj):=h
def qi8(h:p:=by
 simp only [a9] at h⊢
 subst h
 exact ⟨rfl,rfl⟩):=h
def qi7(h:p:=by exact by simp only [bm,dM,fA]):=h
def qi6(h:p:=by exact fun w h=>hL.at_ _ (hp.2 _ h.ch)):=h
abbrev qi5(a:α:=by exact [sl Av ((v.set y.o.st.r.toNat y.o.seq).length) cv]):=a
def qi4(h:p:=by exact dv (.bool (decide (x.o.seq=(x6+1)))) (dP b9)):=h
def qi3(h:p:=by exact dv (.bool (cS y (⟨0,0⟩:cN))) (dP b7)):=h
def qi2(h:p:=by exact fun w h=>⟨hp.1.2.aE h.ch,hp.2.2.aE h.ch⟩):=h
def qi1(h:p:=by exact a_ [] ⟨kt (.bool false) (dP (df (by first|(unfold fB;omega)|(simp [fB, *];done)))),kr⟩):=h
def qi0(h:p:=by exact fun w F h=>⟨by rw [Cu.2];exact gg Y_,h.yq 4 cD.own (ms.drop i) (aI lz) rfl kr⟩):=h
def Y'(h:p:=by exact dP (decide_eq_false he)):=h
def Ri(h:p:=by constructor<;>omega):=h
def Wv(h:p:=by exact fc (fun vs=>f+i)):=h
def qiw(h:p:=by exact fun w h=>h.bg 1 (so gv) 1 [x] kr):=h
def qiv(h:p:=by exact fun vs w h=>Kd.cd (K:=az) (xs:= [f.fN,f.to,f.kind]) (h.bg 0 A2 c3 [f.fN,f.to,f.kind] kr) (by simp)):=h
def qiu(h:p:=by exact fun w h=>bW (K:=mF) (h.bg 4 Aw cw W.row kr) Kq):=h
def qit(h:p:=by exact fun w h=>Kd.cd (K:=az) (xs:= [(f.ops.length:Int)]) (h.bg 5 nf mD [(f.ops.length:Int)] kr) (by simp)):=h
abbrev Ug(a:α:=by exact [sl A xs.length c]):=a
def qir(h:p:=by exact fM (e:=by have:=hv.2.2 _ (aI e7);omega) (x6+1)):=h
def qiq(h:p:=by exact by first|(rw [Uh];rfl)|rw [Uh]):=h
def Yb(h:p:=by exact iT (wrap_i64 (by omega))):=h
def Yn(h:p:=by exact fun w h=>hp.2.2.aE h.ch):=h
def Rf(h:p:=by simpa using this):=h
def qim(h:p:=by
 by_cases h:c=r
 ·subst h
  by_cases hc:c<R.length
  ·simp [bA,hc]
  ·simp [bA,hc]
 ·simp [bA,lX h]):=h
abbrev qil(a:α:=by exact [bx.row pR rC (tC++ [(⟨y.o,vg,vz⟩:aT)]),aM.all ((tC++ [(⟨y.o,vg,vz⟩:aT)]).map aT.own)]):=a
def qik(h:p:=by first|(simp [bY,en, *];done)|exact dd (by unfold bY;omega)|exact dn (by unfold bY;omega)):=h
def qij(h:p:=by exact aa 5 fun _=>a_ [] ⟨kt (.bool true) (dP (dt (by have e:k=xs.length:=(by omega);subst e;exact hy))),kr⟩):=h
def qii(h:p:=by exact by rw [List.take_zero,List.nil_append,List.drop_drop]):=h
def IC(h:p:=by simpa using h2):=h
def Ir(h:p:=by simpa using h4):=h
def qif(h:p:=by exact cB 184 (((cz aL).add (((f+((2*i)+1)).toNat)*5)).add 0) (fun w h=>bN (K:=aP) (h.bg 0 aL aZ m kr) e5)):=h
def qie(h:p:=by exact congrArg (Value.int .u64) Gg):=h
def qid(h:p:=by
 intro k
 induction k with
 |zero=>exact fun _=>trivial
 |succ k ih=>exact fun hk=>⟨ih (by omega),zT k (by omega)⟩):=h
def qic(h:p:=by exact fun w h=>Kd.cd (K:=gq) (xs:=ms.drop i) (Kd.drop (h.bg 3 Am cm ms kr) (by omega)) (by (try rw [cL]);omega)):=h
def qib(h:p:=by
 intro y hy
 rw [List.take_add_one,hx] at hy
 rcases eG.1 hy with h1|h1
 ·exact h y h1
 ·simp at h1;subst h1;exact h2):=h
def qia(h:p:=by exact fun w h=>Kd.take (h.bg 0 A c xs kr)):=h
def qh9(h:p:=by
 have:=Br.eq (by obtain ⟨_,_,_,h⟩:=hD vs fun _ _=>rfl;exact h)
 rw [← nA] at this
 exact (List.cons.inj this).1):=h
def qh8(h:p:=by exact cZ 184 (fun vs=>ad aL (a.toNat*5) 0) (fun vs=>aP.V x3) (fun vs w h=>bN (K:=aP) (h.bg 0 aL aZ ns kr) e4)):=h
def qh7(h:p:=by exact cZ 184 (fun vs=>ad aL (p.toNat*5) 0) (fun vs=>aP.V x1) (fun vs w h=>bN (K:=aP) (h.bg 0 aL aZ ns kr) e2)):=h
def qh6(h:p:=by exact dv (.bool (decide (x.o.seq>1099511627776))) (dP Pk)):=h
abbrev qh5(a:α:=by exact [bJ r.rb 72 (.pointer (some ⟨r.dk,0,none⟩)::.pointer (some ⟨r.kb,0,none⟩)::c_.cells r.s),kn r.kb r.dk r.d]):=a
def qh4(h:p:=by exact dv (.bool (decide (j>a))) (dP b3)):=h
abbrev qh3(a:α:=by exact fun z=> [(0,pv g),(3,pv (a8 2)),(8,iv a.kind),(9,.bool z)]):=a
def qh2(h:p:=by exact ⟨se (h7.2.2.1 (by decide) (by decide) (by decide) (by decide) (by decide)),(py hx h7.1 h8.1).2⟩):=h
def qh1(h:p:=by simp [bV,bA,e7, *]<;>(intros;first|omega|(simp_all;done))):=h
def qh0(h:p:=by exact aJ (hZ A c l) [1,2] qvu (⟨iA,lz,rfl⟩)<|a_ [4] (.inr ⟨kr,kr⟩)):=h
def Ui(h:p:=by as_aux_lemma=>kernel_rfl):=h
def qhy(h:p:=by exact congrArg (Value.int .u64) (Kj _)):=h
def qhx(h:p:=by exact fun vs w h=>.sl (by rw [cL]) (Kd.drop h.aeI (by omega))):=h
def qhw(h:p:=by exact fun w h=>Kd.cd (K:=aP) (xs:=xs) (hp.aE h.ch) (by omega)):=h
def qhv(h:p:=by exact fun w h=>Kd.cd (K:=eH) (xs:=xs) (hp.aE h.ch) (by omega)):=h
abbrev qhu(a:α:=by exact fun (k,B,d,ys)=> [(2,sl none 0 0),(3,sl B ys.length d),(37,sl f.Ao f.ops.length f.co),(38,iv (f.ops.length:Int)),(39,iv k)]):=a
def qht(h:p:=by first|assumption|omega|exact jq hq|(constructor<;>omega)|simp):=h
def qhs(h:p:=by exact cR aP 0 (fun vs=>aL) (fun vs=>aZ) (fun vs=>ns) a.toNat 0 (fun vs=>x3) (fun vs=>x1) 184 (fun vs=>aP.V x1) (fun _=>e4)):=h
def qhr(h:p:=by exact by have:=congrArg List.length hy;simp only [bm] at this;have:=g_ y.toNat;have:=eB (n:=x.toNat) (by omega);omega):=h
def qhq(h:p:=by exact fun w h=>Kd.cd (K:=mw) (xs:=l) (hp.1.aE h.ch) (by omega)):=h
def qhp(h:p:=by exact fun w h=>bN (K:=bx) (h.bg 3 A2 c3 (x.ms.map cD.x) kr) e6):=h
def qho(h:p:=by exact fun w h=>bN (K:=eH) (hp.aE h.ch) e4):=h
def qhn(h:p:=by unfold dO;repeat (first|rfl|omega|(split<;>first|rfl|omega|skip))):=h
def qhm(h:p:=by have rz:=je.ne;rw [cA (by omega)] at rz;intro q hq;rw [← Ix] at hq;obtain ⟨y,hy,rfl⟩:=List.mem_map.1 hq;exact rz y hy):=h
def qhl(h:p:=by exact br (fun vs=>A) (fun vs=>ys.length) (fun vs=>(i:Int)) 12 (fun vs w h=>Kd.cd (K:=bx) (xs:=ys) (ve.2.1.aE h.ch) (by omega))):=h
def qhk(h:p:=by have:=congrArg List.length (Hn z (aI hz));rw [cM] at this;omega):=h
def qhj(h:p:=by exact fun w F h=>⟨hp.1.ew h,hp.2.ew h⟩):=h
def qhi(h:p:=by exact fun w h=>bW (K:=aA) (hp.aE h.ch) e4):=h
def qhh(h:p:=by have sU:=hL.ok.rg (p:=14) (by omega);have:=sU.2.2.1 (by decide) (by decide) (by decide) (by decide) (by decide);unfold dD at sU;omega):=h
abbrev qhg(a:α:=by exact [bJ g 328 [sl A ((iD xs x.o).length) c],aP.row A c (iD xs x.o)]):=a
def qhf(h:p:=by exact fun w h=>Kd.cd (K:=bx) (xs:=xs) (hp.1.2.1.aE h.ch) (by omega)):=h
def qhe(h:p:=by first|(rw [ee,rN,tH];done)|(rw [ee,rN,tH];rfl)|rw [ee,rN,cX,tH]):=h
abbrev qhd(a:α:=by exact fun (k,B,d,ys)=> [.k (aA.row B d ys),.b (a8 2) 168 [iv f.fN,iv f.to,iv f.kind,sl f.Ah f.hv.length f.ch,sl f.Ao f.ops.length f.co]]):=a
def qhc(h:p:=by exact dv (.bool (decide ((i:Int)>0))) (dP b5)):=h
def qhb(h:p:=by exact dv (.bool (decide (x.o.seq<1))) (dP b9)):=h
def qha(h:p:=by exact by unfold Kd.row;rw [← e9,mK hi];rfl):=h
def qg9(h:p:=by exact br (fun vs=>aL) (fun vs=>ns.length) (fun vs=>(i6:Int)) 5 (fun vs w h=>Kd.cd (K:=aP) (xs:=ns) (h.bg 0 aL aZ ns kr) (by omega))):=h
def qg8(h:p:=by exact br (fun vs=>a.Ah) (fun vs=>u.length) (fun vs=>x7.o.st.r) 1 (fun vs w h=>Kd.cd (K:=az) (xs:=u) (h.bg 9 a.Ah a.ch u kr) (by omega))):=h
def qg7(h:p:=by simp [ex,execOp,resolve,invoke,builtin,ha,hy,uo]):=h
def qg6(h:p:=by unfold xK;split<;>(try split)<;>first|rfl|contradiction|(exfalso;omega)):=h
def qg5(h:p:=by
 unfold eN at hk
 unfold wpOp
 simp only [ho] at hk⊢
 rw [ha.wanted hw]
 simp only [if_true]
 left
 unfold Oper.wp
 rw [ha.exec hA,he,hr]
 exact hk):=h
abbrev qg4(a:α:=by exact [sl An ((ai l []).length) cn,sl Am ms.length cm,sl Al ls.length cl]):=a
def qg3(h:p:=by exact cR aP 1 (fun vs=>aL) (fun vs=>aZ) (fun vs=>ns.set a.toNat x1) p.toNat 0 (fun vs=>x5) (fun vs=>x3) 184 (fun vs=>aP.V x3) (fun _=>e6)):=h
def qg2(h:p:=by exact fun w h=>Kd.cd (K:=aP) (xs:=oP) (h.bg 0 A3 c4 oP kr) (by omega)):=h
abbrev qg1(a:α:=by exact [sl aU xs.length bb,iv (((((p+(bB o.st).length)+((bS o.aX).length))+(aQ o.kind.toNat).length)+(bB o.node).length:Nat):Int),iv 0]):=a
abbrev qg0(a:α:=by exact [bJ g 328 [sl A ((iu xs e.d).length) c],aP.row A c (iu xs e.d)]):=a
def qgz(h:p:=by exact bk [3] [4] ⟨(bq v_.d.ops)+1,v_.d.rep,x5+1,ak (v11 9),v_.d.hv.length,an (v11 9),kd,q_.node.t,q_.node.r,pt,pr,ky,pp,vv,e,kr,kr⟩):=h
def qgy(h:p:=by exact fun w h=>Kd.cd (K:=IG) (xs:= [f0,f1,f2]) (hp.1.aE h.ch) (by simp)):=h
abbrev qgx(a:α:=by exact [az.row (ak (v11 9)) (an (v11 9)) v_.d.hv]):=a
def qgw(h:p:=by exact a_ [] (.inr ⟨6,kr,by decide,KH f5,kr⟩)):=h
def Oh(h:p:=by rw [cA (by omega)]):=h
def qgu(h:p:=by simp only [bm,cL];omega):=h
def Rn(h:p:=by exact fc (fun vs=>j-1)):=h
def RK(h:p:=by exact by rw [eA];omega):=h
def qgr(h:p:=by exact congrArg (Value.int .u64) (Ki (by omega))):=h
def qgq(h:p:=by
 rw [Int.fdiv_eq_ediv_of_nonneg _ (by decide),wrap_u8,UInt8.toNat_ofNat']
 omega):=h
def qgp(h:p:=by exact dv (.bool (decide (x2=(x.o.seq-1)))) (dP b5)):=h
def qgo(h:p:=by exact dv (.bool (cS s (⟨0,0⟩:cN))) (dP b5)):=h
def qgn(h:p:=by exact bT (xy x.o.prop x.o.val) (by rintro _ _ ⟨rfl,_⟩;exact dP b8)):=h
def W8(h:p:=by have:=gX.at e8;omega):=h
def qgl(h:p:=by
 intro l
 induction l with
 |nil=>intro _;rfl
 |cons j l ih=>
  intro hl
  rw [List.filterMap_cons,List.filterMap_cons,hl j cE,ih fun k hk=>hl k (bH _ hk)]):=h
def qgk(h:p:=by exact a_ [] (.inr ⟨1,kr,by decide,fun hh=>by rw [hh.1] at h1;simp at h1,kr⟩)):=h
def qgj(h:p:=by exact fun w h=>⟨by have:=E7 hf;simp only;omega,h.bg 1 yz yA f.hv kr,h.E5 2 3 yB yC nY kr kr (by omega) (fun x hx=>gg (hm.2 x hx))⟩):=h
def qgi(h:p:=by exact cZ 69 (fun vs=>ad Ar (i.toNat*1) 0) (fun vs=>.pointer (some ⟨r.rb,0,none⟩)) (fun vs w h=>bW (K:=mE) (h.bg 2 Ar cr (W.aF.map (·.rb)) kr) W9)):=h
def qgh(h:p:=by exact fun vs w h=>Kd.drop ((hp.aE h.ch).rc) (by omega)):=h
def qgg(h:p:=by exact a_ [] ⟨(-1),kr,fun h=>absurd h (by decide),kr⟩):=h
def XR(h:p:=by first|omega|(have:=(aN.1 lz.1).1;omega)):=h
def qge(h:p:=by exact a_ [] ⟨kt (.bool false) (dP (by have e:k=xs.length:=(by omega);subst e;rw [List.take_length] at hy;exact df (fun h=>qvj))),kr⟩):=h
def Tr(h:p:=by exact fun w h=>hp.2.1.aE h.ch):=h
abbrev qgc(a:α:=by exact [pv d,sl A zs.length c,iv (gm zs:Int),iv 0,iv ((bL zs).length:Int),.bool false]):=a
def qgb(h:p:=by exact fun w h=>Kd.cd (K:=k7) (xs:=b.kids) ((hL.at_ _ (hp.2 _ h.ch)).kids) (by omega)):=h
def qga(h:p:=by exact cZ 29 (fun vs=>ad (some ab) (0*4) 0) (fun vs=>bZ.V b.id) (fun vs w h=>iy (K:=k7) (o:=0) (m:=2) (sub:= [iv b.id.t,iv b.id.r]) ((hL.at_ _ (hp _ h.ch)).at) rfl)):=h
def X2(h:p:=by assumption):=h
def RW(h:p:=by have:=Kd.cd hp h;cases this):=h
def qf7(h:p:=by exact aa 4 fun _=>a_ [] ⟨kt (.bool false) (dP (df (fun hh=>by have:=hh k (by omega);rw [bA,bA,e5,e3] at this;simp only [Option.getD_some] at this;omega))),kr⟩):=h
def qf6(h:p:=by exact a_ [] ⟨kt (.bool true) (by first|(rw [← hov,show ns.length+1-k=(ns.length-k)+1 by omega,KJ h3];done)|(rw [← hov,show ns.length+1-k=0 by omega];rfl)),kr⟩):=h
def qf5(h:p:=by exact fun w h=>Kd.cd (K:=gq) (xs:=ms) (h.bg 4 Am cm ms kr) (by (try rw [cL]);omega)):=h
def qf4(h:p:=by exact br (fun vs=>Al) (fun vs=>xs.length) (fun vs=>(db (fun z_:bj=>bl z_.id x.o.node) xs:Int)) 3 (fun vs w h=>Kd.cd (K:=eS) (xs:=xs) (h.bg 5 Al cl xs kr) (by omega))):=h
def qf3(h:p:=by exact aa 5 fun _=>ao 16 ((k:Int)+1)<|aa 2 fun _=>aB _ (k+1) [] kr ⟨by omega,by rw [← bp e4,← bp e6,hy,(show x3=x5 by simpa using h7)]⟩ (by omega)):=h
def qf2(h:p:=by
 simp only [a9,bI] at h
 obtain ⟨rfl,rfl,rfl,rfl⟩:=h
 have vj:=Int.not_lt.2 hb
 exact cY hx (by simp only [ex,execOp,h1,h2];simp [eqGuard,binOp,Op.shift,vj,NW]) hp):=h
def qf1(h:p:=by simp [Go.Lib.bytesWorld,World.freeze,World.alloc,World.drew,-World.alloc_eq,-World.drew_eq]):=h
abbrev qf0(a:α:=by exact [sl Ai bo.length ci,iv gp,iv rm,.bool (decide ((dH (v10 9))<rm)),sl (ak (v5 6)) ((bo.map iX).length) (an (v5 6)),sl (ak (v5 12)) ((fx.set k true).length) bo.length]):=a
abbrev qfz(a:α:=by exact [sl Ai bo.length ci,iv gp,iv rm,.bool (decide ((dH (v10 9))<rm)),sl (ak (v5 6)) ((bo.map iX).length) (an (v5 6)),sl (ak (v5 12)) ((fx.set k false).length) bo.length]):=a
def YW(h:p:=by exact fun w h=>Kd.drop (hp.aE h.ch) (by omega)):=h
def qfx(h:p:=by
 rintro _ _ ⟨A2,c3,rfl,rfl⟩
 refine ae 8 [2,2,1] fun _=>bk [1] [3] ⟨A2,c3,kr,kr⟩):=h
def qfw(h:p:=by first|exact xY hL.ok (dp hz9 _)|(have:=Hn.h_;omega)):=h
def qfv(h:p:=by exact br (fun vs=>Ar) (fun vs=>(W.aF.map (·.rb)).length) (fun vs=>i) 1 (fun vs w h=>Kd.cd (K:=mE) (xs:=W.aF.map (·.rb)) (h.bg 2 Ar cr (W.aF.map (·.rb)) kr) (by omega))):=h
def qfu(h:p:=by exact jS (fun vs=>.bool (decide ((dH (v10 9))<rm))) (fun vs=>.bool true) (fun _=>dP Y9)):=h
def C7(h:p:=by rw [b0];omega):=h
def qfs(h:p:=by first|omega|exact OH gS (by first|exact rg_of (gh _ _)|exact (gS.rg (by omega)).1)):=h
def qfr(h:p:=by
 unfold bl dO
 repeat' split
 all_goals (constructor<;>intro h<;>first|omega|(simp at h;done))):=h
def qfq(h:p:=by exact br (hj:=fun _=>by have:=gX.at e8;omega) (fun vs=>Ai) (fun vs=>bo.length) (fun vs=>x7) 5 (fun vs w h=>Kd.cd (K:=np) (xs:=bo) ((hp.2.aE h.ch).rc) (by have:=gX.at e8;omega))):=h
def qfp(h:p:=by exact fun w h=>Kd.cd (K:=az) (xs:=l) (hp.aE h.ch) (by omega)):=h
def qfo(h:p:=by simp [cQ,bA,e3, *]<;>(intros;first|omega|(simp_all;done))):=h
def Za(h:p:=by first|assumption|omega|exact rg_of (by assumption)):=h
def qfm(h:p:=by exact fun w h=>Kd.cd (K:=az) (xs:=ws) (hp.aE h.ch) (by omega)):=h
abbrev Zb(a:α:=by exact [bJ g 54 (c_.cells ⟨d,a⟩),SA (⟨d,a⟩)]):=a
abbrev qfk(a:α:=by exact [sl aU xs.length bb,iv (((((((p+(bB o.st).length)+((bS o.aX).length))+(aQ o.kind.toNat).length)+(bB o.node).length)+(bB o.par).length)+((ig o.key).length):Nat):Int),iv 0]):=a
def qfj(h:p:=by exact aa 4 fun _=>a_ [] ⟨kt (.bool false) (dP (df (fun e=>by rw [e] at h1;simp at h1))),kr⟩):=h
def qfi(h:p:=by exact a_ [] ⟨kt (.bool true) (dP (Pm (d:=v_.d) (f:=f) (by unfold Bs;omega)).symm),kr⟩):=h
def RM(h:p:=by exact fc (fun vs=>(i:Int)+1)):=h
def Of(h:p:=by exact a_ [0] ⟨kr,kr⟩):=h
def qff(h:p:=by exact a_ [0] ⟨m,kr,jA,kr⟩):=h
def qfe(h:p:=by simp only [iL,bB,bS,ig,AF,if_true,if_false,cH];try rfl):=h
abbrev qfd(a:α:=by exact [sl Ai bo.length ci,iv gp,iv rm,.bool (decide ((dH (v10 9))<rm)),sl (ak (v5 6)) ((bo.map iX).length) (an (v5 6)),sl (ak (v5 12)) ((fx.set k (decide (kE.base<l_))).length) bo.length]):=a
abbrev qfc(a:α:=by exact fun k=> [(2,pv (a8 2)),(3,pv (a8 3)),(4,pv (a8 4)),(5,pv (a8 5)),(9,iv q_.kind),(10,.bool k)]):=a
def qfb(h:p:=by exact cB 3 (((cz x.A).add (x.o.st.r.toNat*1)).add 0) (fun w h=>bW (K:=az) (hp.2.aE h.ch) e7)):=h
def qfa(h:p:=by obtain ⟨⟨_,h⟩,rfl⟩:=h;refine ⟨?_,rfl⟩;rcases h with ⟨_,_,_,_,_,_,_,_,_,rfl,_,_⟩<;>rfl):=h
def qe9(h:p:=by exact fun w h=>Kd.cd (K:=bx) (xs:=xs) (hp.2.1.aE h.ch) (by omega)):=h
def qe8(h:p:=by have:=hT.lt hn;have e:x2.toNat % 128=m % 128:=(by omega);rw [e];omega):=h
def qe7(h:p:=by
 cases hg:P.eqGuardType P.depth t with
 |true=>rw [hg] at hq;cases hq
 |false=>
  rw [hg] at hq
  simp only [cond_false,fV] at hq
  obtain ⟨r,h3,rfl⟩:=hq
  exact E8 hx h1 h2 hg h3 ⟨rfl,rfl⟩):=h
def qe6(h:p:=by
 cases hg:P.eqGuardType P.depth t with
 |true=>rw [hg] at hq;cases hq
 |false=>
  rw [hg] at hq
  simp only [cond_false,fV] at hq
  obtain ⟨r,h3,rfl⟩:=hq
  exact E9 hx h1 h2 hg h3 ⟨rfl,rfl⟩):=h
abbrev qe5(a:α:=by exact [sl Ar ((W1.aF.map (·.rb)).length) cr,sl Aw W1.row.length cw,iv W1.fO,sl Aa W1.fu.length ca]):=a
def RX(h:p:=by exact by simp only [fA];omega):=h
def Iz(h:p:=by exact by rw [T6];rfl):=h
def qe2(h:p:=by have:=(KK (mh _ (aI vr)) (decide ((dH (v10 9))<rm))).1;omega):=h
def qe1(h:p:=by
 have:=heap_alloc_new w.drew (.cells ((xs.flatMap K.f).toArray++(ys.flatMap K.f).toArray++Builtin.zeroCells zv.cells (grownCap w (xs.length+ys.length) c K.e- (xs.length+ys.length))) K.e)
 simpa using this):=h
def qe0(h:p:=by exact by rintro _ _ ⟨rfl,_⟩;exact dP b3):=h
def Kh(h:p:=by exact fun _=>⟨_,rfl⟩):=h
def Ok(h:p:=by exact fun w h=>hp.1.aE h.ch):=h
def qex(h:p:=by exact fun vs w h=>bW (K:=Zc) (oQ.at (os:=os) (h.gr 5 kr) Du) rfl):=h
abbrev qew(a:α:=by exact [sl aU xs.length bb,iv (((((((p+(bB o.st).length)+((bS o.aX).length))+(aQ o.kind.toNat).length)+(bB o.node).length)+(aQ o.prop.toNat).length)+(aQ (o.val+1).toNat).length:Nat):Int),iv 0]):=a
def qev(h:p:=by have:=congrArg List.length hy;rw [bm] at this;have:=uw (l:=(f.ops.take k).map (·.o)) (fun o ho=>by obtain ⟨z,hz,rfl⟩:=List.mem_map.1 ho;exact gX.2 z (gU hz));rw [cM,b0] at this;omega):=h
def qeu(h:p:=by
 refine aa 6 fun _=>?_
 have ey:xs=ys:=by rw [hy,cA (by omega)]
 subst ey
 exact a_ [0] ⟨B,d,kr,kr⟩):=h
abbrev qet(a:α:=by exact fun (kd,pt,pr,ky,pp,vv,e)=> [(3,pv (a8 3)),(4,pv (a8 4)),(5,iv e)]):=a
abbrev qes(a:α:=by exact [sl An ((ai l []).length) cn,sl Am l.length cm,sl Al ls.length cl]):=a
def qer(h:p:=by exact fun w h=>Kd.cd (K:=aP) (xs:=ns) (h.bg 0 aL aZ ns kr) (by omega)):=h
def qeq(h:p:=by exact br (fun vs=>ak (v8 5)) (fun vs=>ms.length) (fun vs=>(k:Int)) 17 (fun vs w h=>Kd.cd (K:=gq) (xs:=ys++ms.drop k) (h.bg 3 (ak (v8 5)) (an (v8 5)) (ys++ms.drop k) kr) (by simp only [bm,cL];omega))):=h
def qep(h:p:=by exact a_ [] ⟨kt (.bool (cS s (⟨0,1⟩:cN))) (dP (by first|(simp [fL,root,w5,en, *];done)|exact dd (by unfold fL root w5;omega)|exact dn (by unfold fL root w5;omega))),kr⟩):=h
def qeo(h:p:=by exact br (fun vs=>ak (jd 5)) (fun vs=>xs.length) (fun vs=>(k:Int)) 3 (fun vs w h=>Kd.cd (K:=eS) (xs:=ys++xs.drop k) (h.bg 3 (ak (jd 5)) (an (jd 5)) (ys++xs.drop k) kr) (by simp only [bm,cL];omega))):=h
def qen(h:p:=by exact congrArg (Value.int .u64) (Jy ⟨by omega,by omega,by omega⟩)):=h
def qem(h:p:=by exact Uj aA (fun vs=>some ⟨(a5 (vs 1)),0,none⟩) 1 1 [(128:UInt8)] id (⟨([(128:UInt8)].map id).toArray⟩:ByteArray) jL (fun vs w h=>h.eT 8 (a5 (vs 1)) 5 (List.flatMap aA.f [(128:UInt8)]) kr)):=h
def Wy(h:p:=by exact fun w h=>bW (K:=az) (hp.aE h.ch) e3):=h
def Wl(h:p:=by exact fun w h=>bW (K:=az) (hp.aE h.ch) e4):=h
abbrev Zd(a:α:=by exact [pv p,sl A l.length c,iv (gm (bU l):Int),.bool false]):=a
def Ze(h:p:=by first|omega|(simp only [bm,eA,Int.toNat_natCast];omega)):=h
def RY(h:p:=by first|omega|(simp only [bm];omega)):=h
def qeg(h:p:=by (try rw [mJ]);(try simp only [bm,cM,List.length_singleton,Ta]);(try rfl)):=h
abbrev WH(a:α:=by exact pv p1::(c_.cells ⟨d,a2⟩++ [.bool false])):=a
def Nh(h:p:=by exact fun w h=>hp.2.aE h.ch):=h
def qec(h:p:=by exact a_ [2] ⟨kt (sl A (i+(xs.drop j).length) c) (by simp only [bm,b0,cL];rw [fD (by omega),hj]),kr⟩):=h
def TR(h:p:=by exact ⟨.i64,by rw [iR (by omega)]⟩):=h
def qea(h:p:=by
 have e:ik vs i (.slice A' (xs vs++ys vs).length c') i=.slice A' (xs vs++ys vs).length c':=kR _ _ _
 refine ⟨?_,?_⟩
 ·simp only [e,(hu vs _).1,(hu vs _).2];rfl
 ·simp only [fm,List.map_nil,e,(hu vs _).1,(hu vs _).2]
  exact hw):=h
def T3(h:p:=by first|omega|(simp only [cL,b0];omega)):=h
def qd8(h:p:=by
 refine aa 6 fun _=>?_
 have ek:k=xs.length:=by omega
 rw [ek,List.take_length] at hy
 exact a_ [0,1] ⟨B,d,ys,kr,hy,kr⟩):=h
abbrev E6(a:α:=by exact Zf.cells v K S l):=a
def qd6(h:p:=by have:=(aN.1 hn.1).1;(try simp only [cX]);omega):=h
def Yu(h:p:=by obtain ⟨x,hx,rfl⟩:=List.mem_map.1 hy;exact (mh x hx).size.2):=h
def qd4(h:p:=by exact ⟨bF yt vv.length x2.o.st.r 1 (fun w h=>Kd.cd (K:=az) (xs:=vv) (hp.2.aE h.ch) (by omega)),cB 3 (ad yt (x2.o.st.r.toNat*1) 0) qvm,dv (.bool (decide (x2.o.seq>x5))) (dP b8),trivial⟩):=h
def qd3(h:p:=by exact a_ [] (.inl ⟨kr,kr⟩)):=h
def qd2(h:p:=by exact br (hj:=fun _=>⟨I2.2.2.1,I2.2.2.2⟩) (fun vs=>A8) (fun vs=>x.b.length) (fun vs=>Int.tmod ((Int.tmod a.num (x.b.length:Int))+(x.b.length:Int)) (x.b.length:Int)) 1 (fun vs w h=>Kd.cd (K:=aA) (xs:=x.b) (h.bg 11 A8 c9 x.b kr) (by omega))):=h
def X8(h:p:=by exact fun w h=>Kd.cd (K:=az) (xs:=xs) (hp.aE h.ch) (by omega)):=h
abbrev qd0(a:α:=by exact .pointer (some ⟨r.dk,0,none⟩)::.pointer (some ⟨r.kb,0,none⟩)::c_.cells r.s):=a
def qdz(h:p:=by
 intro s' x' lg h Bp
 simp only [bI] at h
 obtain ⟨h5,h6,h7,h8⟩:=h
 refine ⟨fun w2 CG a2 Dm=>?_⟩
 have lu:=SH.Cv h6 CG
 rw [h8] at lu
 obtain ⟨L2,H2,nz⟩:=s'
 simp only at h5
 subst h5
 exact je x' w2 ⟨Bp,lu⟩ a2 (Dm.mono (kS h7))):=h
def qdy(h:p:=by exact cB 3 (ad nZ (x.o.st.r.toNat*1) 0) qvn):=h
def W_(h:p:=by exact dv (.bool (!decide (dW x.o.aX))) (dP b5)):=h
def qdw(h:p:=by first|(have:=iC RZ;have:=yf (l:=l) (j:=j) (o:=x.o) hi;omega)|(rw [b0];omega)):=h
def qdv(h:p:=by exact (show False from by have l1:=congrArg List.length hn1;have l2:=congrArg List.length Uk;simp only [fA] at l1 l2;omega).elim):=h
def Zg(h:p:=by exact fun vs u C h=>by obtain ⟨_,rfl,rfl⟩:=h;exact ⟨rfl,rfl⟩):=h
def qdt(h:p:=by exact fun vs w h=>Kd.cd (K:=k7) (xs:=b.kids) ((hL.at_ _ (hp.2 _ h.ch)).kids) (by omega)):=h
abbrev qds(a:α:=by exact [bJ g 65 [sl Ar ((W.aF.map (·.rb)).length) cr,sl Aw ((W.row.take j++W.row.drop (j+1)).length) cw,iv W.fO,sl Aa W.fu.length ca],mE.row Ar cr (W.aF.map (·.rb)),mF.row Aw cw (W.row.take j++W.row.drop (j+1)),pc.row Aa ca W.fu,aM.all (W.aF.map jE)]):=a
def qdr(h:p:=by obtain ⟨⟨_,h⟩,rfl⟩:=h;refine ⟨?_,rfl⟩;rcases h with ⟨_,_,_,rfl,_,_,_⟩<;>rfl):=h
def S1(h:p:=by exact fun w h=>bW (K:=aA) (hp.aE h.ch) e3):=h
def Rp(h:p:=by exact iT (mM (by omega) (by decide))):=h
def qdo(h:p:=by unfold xK fB;simp only [KL,Bt,KM] at*;by_cases h0:0≤p∧p<19<;>simp_all<;>omega):=h
abbrev Yo(a:α:=by exact fun k=> [(0,sl aU xs.length bb),(1,sl mX ys.length xM),(5,iv k)]):=a
def qdm(h:p:=by exact aa 4 fun _=>a_ [] ⟨kt (.bool false) (dP (df (fun h=>by subst h;rw [e4] at e6;simp only [a9] at e6;subst e6;simp at h7))),kr⟩):=h
def Zh(h:p:=by exact dv (.bool (decide ((x.o.aX.length:Int)≤x.o.st.r))) (dP b7)):=h
def Zi(h:p:=by exact fun w h=>bW (K:=mE) (h.bg 2 Ar cr (W.aF.map (·.rb)) kr) W9):=h
def Is(h:p:=by show (1:Nat)≤1000000;decide):=h
def R3(h:p:=by exact aa 2 fun _=>a_ [0] ⟨A2,c3,kr,kr⟩):=h
def qdh(h:p:=by exact fun w h=>Kd.cd (K:=bx) (xs:=x.ms.map cD.x) (h.bg 3 A2 c3 (x.ms.map cD.x) kr) (by omega)):=h
def yu(h:p:=by exact by rw [cL]):=h
def YZ(h:p:=by exact fun vs w h=>hp.aE h.ch):=h
def ub(h:p:=by rw [cL];omega):=h
def Yv(h:p:=by first|assumption|omega|exact (Gz.rg (by omega)).1|exact rg_of (gh _ _)):=h
def R4(h:p:=by exact aa 15 fun _=>a_ [0] ⟨none,0,kr,kr⟩):=h
def R5(h:p:=by exact fun w h=>(hL.gZ e3).at_ _ (hp.2 _ h.ch)):=h
def qda(h:p:=by exact dv (.bool (decide ((i:Int)<(xs.length:Int)))) (dP b7)):=h
def qc9(h:p:=by have e:k=xs.length:=(by omega);subst e;rw [List.take_length] at hy;exact dd ⟨fun _=>⟨by omega,by omega,hy⟩,fun h=>qvj⟩):=h
def qc8(h:p:=by
 rw [show∀(k:Program→Sem Value),Sem.run P (Sem.program k) w=Sem.run P (k P) w from fun _=>rfl]
 simp [hu,pb,Sem.bind,sizeOf,typeInfo,hi,Result.andThen]):=h
def qc7(h:p:=by exact bF nZ fE.length x.o.st.r 1 quv):=h
def Ul(h:p:=by exact dv (.bool (!decide (bY x.o.st))) (dP b3)):=h
def qc5(h:p:=by
 cases hk:decide (k1=k2) with
 |false=>rw [hk] at h;cases h
 |true=>
  have hk:=cg hk
  subst hk
  simp only [decide_true,cond_true,a9,bI] at h
  obtain ⟨rfl,rfl,rfl,rfl⟩:=h
  have vj:=hb
  simp only [k6,ne_eq] at vj
  exact cY hx (by simp only [ex,execOp,h1,h2];simp [eqGuard,binOp,Op.intDiv,vj,NW]) hp):=h
def RN(h:p:=by exact fun _=>⟨.i64,by rw [iR (by omega)]⟩):=h
def qc3(h:p:=by
 refine cU (x3.d=x5.d) (fun h7=>?_) (fun h7=>?_)
 ·refine aa 4 fun _=>a_ [] ⟨kt (.bool false) (dP (df (Tq e4 e6 YK))),kr⟩
 ·refine aa 5 fun _=>ao (e:=by have:=hp.1.1;omega) 16 ((k:Int)+1)<|aa 2 fun _=>aB _ (k+1) [] kr ⟨by omega,JR hy e4 e6 YK⟩ (by omega)):=h
def qc2(h:p:=by exact a_ [] ⟨kt (.bool false) (dP (by simp [bV,bA, *]<;>(intros;first|omega|(simp_all;done)))),kr⟩):=h
abbrev qc1(a:α:=by exact fun (j,B,d,nm)=> [.b (ld 2) 49 [sl An ((ai l []).length) cn,sl Am l.length cm],.b (ld 3) 56 (aT.cells x),.b (ld 4) 49 [sl none 0 0,sl none 0 0],.k (gq.row Am cm ms),.k (aM.all ((ms.drop i).map cD.own)),.k (gq.row B d nm),.k (aM.all (nm.map cD.own)),.k (tV w (ai (l.take i++x.o::(l.drop i).take j) []))]):=a
def YC(h:p:=by have hq:=hc8;(try simp only [eA] at hq⊢);omega):=h
def qcz(h:p:=by exact congrArg (Value.int .u8) (O6 (by have e1:=gF z i;have e2:=gj v_ i (n:=256) (by omega);omega))):=h
def qcy(h:p:=by unfold Pn at hh;first|rfl|(apply decide_eq_true;omega)|(exfalso;omega)):=h
def qcx(h:p:=by first|assumption|omega|exact yD hx _|exact dp (yD hx _) _|exact jq (hr _ (aI (by assumption)))):=h
def qcw(h:p:=by exact ⟨quf,cB 3 (ad mX (k*1) 0) (fun w h=>bW (K:=az) (hp.2.aE h.ch) e3),qug,cB 3 (ad aU (k*1) 0) (fun w h=>bW (K:=az) (hp.1.aE h.ch) e5),trivial⟩):=h
def G0(h:p:=by (try simp only [cL]);omega):=h
def Xa(h:p:=by have:=gX.at rj;have:=Cq.len;omega):=h
def Tx(h:p:=by exact fun w h=>bW (K:=k7) ((hL.at_ _ (hp.2 _ h.ch)).at) rfl):=h
def qcs(h:p:=by exact aJ (Dv v_.d q_ ((bq v_.d.ops)+1) v_.d.rep (x5+1) (ak (v11 9)) v_.d.hv.length (an (v11 9)) 1 q_.node.t q_.node.r 0 0 (⟨#[]⟩) 0 0 3) [] [] (.inr ⟨by decide,fun hw=>by have:=hw.1;omega,rfl⟩)<|bk [7] [9] ⟨(bq v_.d.ops)+1,v_.d.rep,x5+1,ak (v11 9),v_.d.hv.length,an (v11 9),1,q_.node.t,q_.node.r,0,0,⟨#[]⟩,0,0,3,kr,kr⟩):=h
def X5(h:p:=by first|(simp [en, *];done)|exact dd (by omega)|exact dn (by omega)):=h
def Um(h:p:=by exact fun w h=>Kd.cd (K:=eH) (xs:=l) (hp.aE h.ch) (by omega)):=h
abbrev WA(a:α:=by exact fun (k,B,d,ys)=> [(0,sl aU xs.length bb),(3,sl B ys.length d),(4,iv k)]):=a
def Ad(h:p:=by exact fun w F h=>hp.ew h):=h
def qcn(h:p:=by exact a_ [] ⟨kt (.bool true) (dP (dt (by first|(unfold fL root w5;omega)|(simp [fL,root,w5, *];done)))),kr⟩):=h
def Xb(h:p:=by exact fun w h=>Kd.cd (K:=CS) (xs:=fg) (h.bg 2 j0 qq fg kr) (by omega)):=h
def qcl(h:p:=by
 refine bD (Dw f.Ao f.co f.ops (a8 11) (v_.d.hv.length:Int) (by omega)) [2] (fun w F h=>hp.2.2.2.2.1.u0.ew h) ?_
 rintro _ _ ⟨rfl,rfl⟩
 refine dB 3 (a8 11) 3 [iv (v_.d.hv.length:Int)]<|aa 2 fun _=>a_ [] ⟨kt (.bool (f.ops.any (fun z_:aT=> !decide ((z_.o.aX.length:Int)=(v_.d.hv.length:Int))))) (dP (KN (d:=v_.d) (f:=f) (by unfold Bs;omega)).symm),kr⟩):=h
def IH(h:p:=by exact by first|(rw [Un];rfl)|rw [Un]):=h
def IB(h:p:=by exact by first|(rw [TW];rfl)|rw [TW]):=h
def II(h:p:=by exact by first|(rw [Uo];rfl)|rw [Uo]):=h
def X6(h:p:=by exact a_ [] ⟨kt (.bool false) (dP (df (by first|(omega)|(simp [*];done)))),kr⟩):=h
def Zj(h:p:=by exact fun w h=>Kd.cd (K:=mE) (xs:=W.aF.map (·.rb)) (h.bg 2 Ar cr (W.aF.map (·.rb)) kr) (by omega)):=h
def X7(h:p:=by exact a_ [] ⟨kt (.bool false) (dP (df (by first|(unfold bY;omega)|(simp [bY, *];done)))),kr⟩):=h
def qce(h:p:=by
 cases ho:ops[i]?with
 |none=>rw [ho] at h;cases h
 |some o=>
  rw [ho] at h
  simp only [da,dE,List.any_eq_true,Bool.or_eq_true,Bool.not_eq_true'] at h
  obtain ⟨e,he,vy,hh⟩:=h.1.1.2 j hj
  have l8:e.on<i:=by
   rcases h.1.1.1.2 e he with h|h
   ·rw [vy] at h;cases h
   ·exact qwa
  rcases hh with hh|hh
  ·have:=dh hh;omega
  ·have:=ih e.on l8 (by omega) j (dq.1 hh);omega):=h
def qcd(h:p:=by exact cG _ (0,none,0,[],v_.toList==({data:= #[]}:ByteArray).toList) [0] kr ⟨by omega,by simp,fun _ _=>⟨rfl,rfl⟩,fun e=>by simp [e]⟩):=h
def qcc(h:p:=by exact cZ 208 (fun vs=>ad (some f.a) (0*4) 3) (fun vs=>sl b.Ak b.kids.length b.ck) (fun vs w h=>bW (K:=k7) ((hL.at_ _ (hp.2 _ h.ch)).at) rfl)):=h
def Zk(h:p:=by exact bF x.A x.o.aX.length x.o.st.r 1 (fun w h=>Kd.cd (K:=az) (xs:=x.o.aX) (hp.2.aE h.ch) (by omega))):=h
def RL(h:p:=by exact fun w h=>.sl (by rw [Kd.size];rfl) (h.bg 1 (so gv) 1 [x] kr)):=h
def Nz(h:p:=by exact fun w h=>bW (K:=OK) (hp.1.aE h.ch) rfl):=h
def qb8(h:p:=by
 have h4:=de b5
 refine aK [(4,_),(5,iv x2),(8,_),(9,.bool false)] [0,0] ⟨bF nZ fE.length x.o.st.r 1 quv,cB 3 (ad nZ (x.o.st.r.toNat*1) 0) qvn,qv2,dv (.bool (decide (x2=(x.o.seq-1)))) (dP b5),trivial⟩<|a_ [] ⟨kt (.bool false) (dP (by simp [cQ,bA,e3, *]<;>(intros;first|omega|(simp_all;done)))),kr⟩):=h
def Zl(h:p:=by exact jS (fun vs=>.bool (decide ((vK (decide ((dH (v10 9))<rm)) kE)=0))) (fun vs=>.bool false) (fun _=>dP Zm)):=h
def qb6(h:p:=by exact a_ [] ⟨kt (.bool false) (dP qud),kr⟩):=h
def qb5(h:p:=by unfold bl dO;(try simp only [yg] at*);repeat (first|rfl|(split<;>first|rfl|omega|skip))):=h
def Yp(h:p:=by exact aa 5 fun _=>a_ [] ⟨kt (.bool true) (dP (dt (by rw [cA (by omega),cA (by omega)] at hy;exact hy))),kr⟩):=h
def qb3(h:p:=by exact br (hj:=fun _=>qvf) (fun vs=>A) (fun vs=>xs.length) (fun vs=>(ec xs x.o.node:Int)) 5 (fun vs w h=>Kd.cd (K:=aP) (xs:=xs) (h.bg 2 A c xs kr) (by have:=(aN.1 hn.1).1;(try simp only [cX]);omega))):=h
def qb2(h:p:=by exact ae 13 [3,3,3,3] fun _=>aJ (Dv v_.d q_ ((bq v_.d.ops)+1) v_.d.rep (x5+1) (ak (v11 9)) v_.d.hv.length (an (v11 9)) kd ((bq v_.d.ops)+1) v_.d.rep pt pr ky pp vv e) [2] [az.row (ak (v11 9)) (an (v11 9)) v_.d.hv] (.inl ⟨rfl,rfl,rfl,by rw [oi e6],fun hw=>⟨(hj hw).1,(hj hw).2.1,rfl,rfl,(hj hw).2.2⟩,rfl⟩)<|bk [3] [4] ⟨(bq v_.d.ops)+1,v_.d.rep,x5+1,ak (v11 9),v_.d.hv.length,an (v11 9),kd,(bq v_.d.ops)+1,v_.d.rep,pt,pr,ky,pp,vv,e,kr,kr⟩):=h
abbrev Wp(a:α:=by exact [bx.row none 0 [],aM.all (([]:List aT).map aT.own)]):=a
def Xc(h:p:=by exact fun w h=>Kd.cd (K:=pJ) (xs:=fy) (h.bg 2 Af cf fy kr) (by have:=gX.at rj;have:=Cq.len;omega)):=h
def qbz(h:p:=by simp [gN,lD.d, *]<;>(intros;first|omega|(simp_all;done))):=h
abbrev qby(a:α:=by exact [iv ((aj rep u (l.take i)).rep),iv (bq (aj rep u (l.take i)).ops),sl a.Ah u.length a.ch,sl a.Ao ((aj rep u (l.take i)).ops.length) a.co,sl a.Ax ((aj rep u (l.take i)).held.length) a.cx,sl a.An ((ai (dJ (aj rep u (l.take i)).ops) []).length) a.cn,sl a.Am ((dJ (aj rep u (l.take i)).ops).length) a.cm,sl a.Al ((fY (aj rep u (l.take i)).ops).length) a.cl,iv ((aj rep u (l.take i)).wait),iv ((aj rep u (l.take i)).dT),iv ((aj rep u (l.take i)).aW)]):=a
def Nc(h:p:=by exact a_ [] ⟨kr,kr⟩):=h
def Bk(h:p:=by (try simp only [cX]);omega):=h
def qbv(h:p:=by exact aa 6 fun _=>aS aA 0 B d ((((ys.set 0 (UInt8.ofNat ((cj (ys.drop 4)).toNat/16777216))).set 1 (UInt8.ofNat ((cj (ys.drop 4)).toNat/65536 % 256))).set 2 (UInt8.ofNat ((cj (ys.drop 4)).toNat/256 % 256))).set 3 (UInt8.ofNat ((cj (ys.drop 4)).toNat % 256))) (fR f.d) kr (by unfold fR;rw [← R6];exact KO NC.1)<|a_ [2] ⟨B,d,kt (sl B ys.length d) (by unfold fR;rw [← R6,bm,cL,show (fp (cj (ys.drop 4))).length=4 from rfl,show 4+(ys.length-4)=ys.length by omega]),kr⟩):=h
def R7(h:p:=by exact a_ [] ⟨kt (.bool false) (dP (by simp [oN,en, *])),kr⟩):=h
abbrev WS(a:α:=by exact [bJ g 105 (pv p1::(c_.cells ⟨d,a2⟩++ [.bool false])),zL p1 k (bL (bU d.ops)) d.ops,SA (⟨d,a2⟩)]):=a
def qbs(h:p:=by have h7:=(hL.gZ e3).ok.rg (p:=7) (by omega);have h71:=h7.2.2.1 (by decide) (by decide) (by decide) (by decide) (by decide);have kx:=(hL.gZ e3).ok.rg (p:=11) (by omega);unfold dD at*;omega):=h
def zA(h:p:=by exact bk [0] [] ⟨kr,kr⟩):=h
abbrev qbq(a:α:=by exact fun z=> [.k (pF g W),.k (aM.all (W.row.map gL.own)),.b (a8 2) 34 [iv a.kind,iv a.rep,iv a.fX.kind,iv a.fX.node.t,iv a.fX.node.r,iv a.fX.par.t,iv a.fX.par.r,iv a.fX.oA.t,iv a.fX.oA.r,iv a.fX.prop,iv a.fX.val,iv a.fX.width,iv a.wh,iv a.num,iv a.ug,sl a.A a.fo.length a.c]]):=a
def Wx(h:p:=by first|assumption|omega|exact dp (by assumption) _|exact jq (by first|assumption|exact hr _ (aI (by assumption)))):=h
def qbo(h:p:=by exact br (fun vs=>po) (fun vs=>(xs.take (db (fun z_:bj=>bl z_.id x.o.node) xs)++(⟨⟨x.o.node.t,x.o.node.r⟩,[],none,0⟩:bj)::xs.drop (db (fun z_:bj=>bl z_.id x.o.node) xs)).length) (fun vs=>(db (fun z_:bj=>bl z_.id x.o.node) xs:Int)) 3 (fun vs w h=>Kd.cd (K:=eS) (xs:=xs.take (db (fun z_:bj=>bl z_.id x.o.node) xs)++(⟨⟨x.o.node.t,x.o.node.r⟩,[],none,0⟩:bj)::xs.drop (db (fun z_:bj=>bl z_.id x.o.node) xs)) (h.bg 8 po pK (xs.take (db (fun z_:bj=>bl z_.id x.o.node) xs)++(⟨⟨x.o.node.t,x.o.node.r⟩,[],none,0⟩:bj)::xs.drop (db (fun z_:bj=>bl z_.id x.o.node) xs)) kr) (by omega))):=h
def Co(h:p:=by exact by (try simp only [bm,b0,eA]);omega):=h
def qbm(h:p:=by
 refine aa 10 fun _=>aG 6 ((z.size:Int)≥1) (fun h1=>?_) (fun h1=>?_)
 ·refine aa 5 fun _=>aG 11 ((z.size:Int)≤64) (fun h2=>?_) (fun h2=>?_)
  ·refine aa 4 fun _=>ao 15 ((z.size:Int)-1)<|uk z ((z.size:Int)-1) (n8 z) (KP (by omega))<|aa 4 fun _=>a_ [] ⟨kt (.bool (!decide (((n8 z).toNat:Int)=0))) (dP (by first|(simp [jX,en, *];done)|exact dd (by unfold jX;omega)|exact dn (by unfold jX;omega))),kr⟩
  ·refine aa 9 fun _=>a_ [] ⟨kt (.bool false) (dP (df qvl)),kr⟩
 ·refine aa 14 fun _=>a_ [] ⟨kt (.bool false) (dP (df qvl)),kr⟩):=h
def Iq(h:p:=by
 rintro _ _ ⟨rfl,rfl⟩
 refine aa 2 fun _=>a_ [] ⟨kr,kr⟩):=h
def R8(h:p:=by exact a_ [] ⟨kt (.bool false) (dP (by simp [gN,lD.d, *]<;>(intros;first|omega|(simp_all;done)))),kr⟩):=h
def qbj(h:p:=by
 obtain ⟨F',hF',Po⟩:=h'.own
 have hK: ∀b,F2 b→w'.heap[b]? =w.heap[b]? :=fun b hb=>h'.ch.block b (hf b ((h1 b).2 (.inr hb))).1 (fun x=>h2 b x hb)
 refine ⟨h.ch.trans h'.ch (fun b hb x=>?_),fun b=>F' b∨F2 b,aM.pn H' K _ _ ⟨F',F2,fun _=>Iff.rfl,fun b x y=>?_,hF',(aM.all K).loc F2 w w' hK h4⟩,fun b hb=>?_⟩
 ·exact qu7
 ·rcases (Po b x).2 with h|h
  ·exact h2 b h y
  ·have:=(hf b ((h1 b).2 (.inr y))).1;omega
 ·rcases hb with x|y
  ·refine ⟨(Po b x).1,?_⟩
   rcases (Po b x).2 with h5|h5
   ·exact (hf b ((h1 b).2 (.inl h5))).2
   ·exact .inr (eF h.ch.size h5)
  ·exact ⟨dY (hf b ((h1 b).2 (.inr y))).1 h'.ch.size,(hf b ((h1 b).2 (.inr y))).2⟩):=h
def nE(h:p:=by exact fun vs w h=>trivial):=h
def qbh(h:p:=by
 have qs:l.take i++x.o::(l.drop i).take j=eP x.o l:=by rw [show (l.drop i).take j=l.drop i from cA (by rw [cL];omega)];exact (s3 hi hbe hgt).symm
 rw [qs] at RZ
 have J8:=iC RZ
 refine aD 7 (tV w (ai (l.take i++x.o::(l.drop i).take j) [])) (tV w (ai (eP x.o l) [])) kr (by rw [qs])<|bn (φ:=Iy w (ai (eP x.o l) [])) 8 ?_
 rintro _ ⟨A3,c3,rfl⟩
 refine dB 9 w 328 [sl A3 ((ai (eP x.o l) []).length) c3]<|ae 12 [9,2] fun _=>aJ (GF A3 c3 B d (eP x.o l)) [10,5,6] [aP.row A3 c3 (ai (eP x.o l) []),gq.row B d nm,aM.all (nm.map cD.own)] (⟨nm,RZ,rfl⟩)<|bk [2] [11] ⟨A3,c3,B,d,kt (.tuple #[.agg #[sl A3 ((ai (eP x.o l) []).length) c3,sl B nm.length d],iv 0]) (by rw [J8]),kr⟩):=h
def qbg(h:p:=by first|(simp [kg,cW,en,R9, *];done)|(simp [kg,cW,en, *];intros;simp_all;done)):=h
def Zn(h:p:=by exact aa 5 fun _=>a_ [] ⟨kt (.bool false) (dP (by first|(exact df (fun e=>by have:=oh e;omega))|(simp [bV,kg,R_,cW,bA, *]<;>(intros;first|omega|(simp_all;done))))),kr⟩):=h
abbrev qbe(a:α:=by exact fun k=> [.b (a8 2) 54 (c_.cells v_),.b (a8 3) 31 [iv q_.kind,iv q_.node.t,iv q_.node.r,iv q_.par.t,iv q_.par.r,iv q_.oA.t,iv q_.oA.r,iv q_.prop,iv q_.val,iv q_.width],.b (a8 4) 54 [iv 0,iv 0,sl none 0 0,sl none 0 0,sl none 0 0,sl none 0 0,sl none 0 0,sl none 0 0,iv 0,iv 0,iv 0],.b (a8 5) 88 [iv 0,iv 0,iv 0,sl none 0 0,iv 0,iv 0,.complex .f64 0 0,.complex .f64 0 0,sl none 0 0]]):=a
def Xd(h:p:=by exact a_ [] ⟨kt (.bool false) (dP (by first|(simp [kg,cW,en,R9, *];done)|(simp [kg,cW,en, *];intros;simp_all;done))),kr⟩):=h
def Xe(h:p:=by exact br (fun vs=>ak (v5 12)) (fun vs=>fx.length) (fun vs=>(k:Int)) 1 (fun vs w h=>Kd.cd (K:=pJ) (xs:=fx) (h.bg 2 (ak (v5 12)) bo.length fx kr) (by omega))):=h
def Sa(h:p:=by first|assumption|omega|exact gh _ _|exact fun y hy=>hr y hy|exact sX hq (rg_of (by omega))|exact rg_of (by omega)):=h
def qba(h:p:=by exact fun vs w h=>bW (K:=Cn) ((hp.1.aE h.ch).rc) rfl):=h
def qa9(h:p:=by (try simp only [bm,dM,fA]);omega):=h
def qa8(h:p:=by exact ib (hb:=fun _=>by first|(have:=iC RZ;have:=yf (l:=l) (j:=j) (o:=x.o) hi;omega)|(rw [b0];omega)) gq 8 (fun vs=>ak (vs 4)) (fun vs=>an (vs 4)) (fun vs=>ms.take i) (fun vs=>some ⟨(a5 (vs 8)),0,none⟩) (fun vs=>1) (fun vs=>1) (fun vs=> [(⟨(⟨x.o,ak (ag (vs 7) 3),an (ag (vs 7) 3)⟩:aT),(aH (ai (l.take i) []) x.o).kW,⟨(aH (ai (l.take i) []) x.o).par.t,(aH (ai (l.take i) []) x.o).par.r⟩,(aH (ai (l.take i) []) x.o).key,(aH (ai (l.take i) []) x.o).idle⟩:cD)]) (fun vs w h=>h.eT 9 (a5 (vs 8)) 187 (List.flatMap gq.f [(⟨(⟨x.o,ak (ag (vs 7) 3),an (ag (vs 7) 3)⟩:aT),(aH (ai (l.take i) []) x.o).kW,⟨(aH (ai (l.take i) []) x.o).par.t,(aH (ai (l.take i) []) x.o).par.r⟩,(aH (ai (l.take i) []) x.o).key,(aH (ai (l.take i) []) x.o).idle⟩:cD)]) kr)):=h
def vE(h:p:=by exact by (try simp only [bm,dM,fA]);omega):=h
def qa6(h:p:=by first|(exact df (fun e=>by have:=oh e;omega))|(simp [bV,kg,R_,cW,bA,vr, *]<;>(intros;first|omega|(simp_all;done)))):=h
def xV(h:p:=by exact fun w h=>bW (K:=Cn) ((hp.1.aE h.ch).rc) rfl):=h
def Nr(h:p:=by first|assumption|omega|exact (gS.rg (by omega)).1|exact rg_of (gh _ _)|exact rg_of (by omega)):=h
def qa3(h:p:=by exact fun vs w h=>h.eT 0 g 420 (List.flatMap OK.f [(⟨Ai,bo.length,ci,gp,rm,decide ((dH (v10 9))<rm),ak (v5 6),(bo.map iX).length,an (v5 6),ak (v5 12),fx.length,bo.length⟩:J5)]) kr):=h
def qa2(h:p:=by exact aa 7 fun _=>ao 52 ((i:Int)+1)<|aa 4 fun _=>a_ [] ⟨kt (.tuple #[iv ((acc+x2.toNat % 128*2^(7*i):Nat):Int),iv ((i:Int)+1),iv 0]) (by have hd1:=hd.resolve_right (fun h=>by omega);have e1:acc+x2.toNat % 128*2^(7*i)=n:=(by have:=hT.1;rw [show x2.toNat % 128=m by omega];exact this);have e2:(i:Int)+1=((aQ n).length:Int):=(by have:=hd1.2.2.2;omega);rw [e1,e2]),kr⟩):=h
def qa1(h:p:=by
 refine aa 8 fun a8=>XY az n 0 fun a2=>ae 3 [0] fun _=>bG bx<|dQ<|aJ (hZ none 0 []) [2,3] qva (⟨[],rfl,rfl⟩)<|bG bx<|dQ<|aJ (hZ none 0 []) [5,6] qva (⟨[],rfl,rfl⟩)<|bG aP ?_
 refine bG gq<|dQ<|aJ (GF none 0 none 0 []) [8,9,10] [aP.row none 0 [],gq.row none 0 [],aM.all (([]:List cD).map cD.own)] (⟨[],rfl,rfl⟩)<|bG eS<|dQ<|aJ (Nw none 0 []) [12,13] [eS.row none 0 [],aM.all (([]:List bj).map bj.own)] (⟨[],rfl,rfl⟩)<|aJ (SP ⟨aj rep (bR n) [],⟨some a2,n,none,0,none,0,none,0,none,0,none,0⟩⟩) [1,4,7,11,14] [az.row (some a2) n (List.replicate n 0),cV none 0 ([]:List bz),cV none 0 ([]:List bz),iK none 0 none 0 ([]:List bz),kI none 0 ([]:List iZ)] rfl<|bk [0] [15] ⟨⟨some a2,n,none,0,none,0,none,0,none,0,none,0⟩,kt (.agg #[iv rep,iv 0,sl (some a2) n n,sl none 0 0,sl none 0 0,sl none 0 0,sl none 0 0,sl none 0 0,iv 0,iv 0,iv 0]) (by rw [show (aj rep (bR n) []).hv.length=n from eA];rfl),kr⟩):=h
def kD(h:p:=by (try simp only [eA]);omega):=h
def Im(h:p:=by exact fun w h=>Kd.cd (K:=aA) (xs:=xs) (hp.aE h.ch) (by omega)):=h
def OE(h:p:=by exact cZ 310 (fun vs=>ad (some af) (0*5) 0) (fun vs=>.pointer (some ((cz (some f.a)).add (0*4)))) (fun vs w h=>bW (K:=Cn) ((hp.1.aE h.ch).rc) rfl)):=h
def qax(h:p:=by have e0:=kC (eZ l) x.o.par;have e1:((dy (ai l []) x.o.par).map (·.par)).length=_:=cM _;have e2:=s_ (ai l []) ((ai l []).length+1) x.o.node;omega):=h
abbrev EY(a:α:=by exact [sl Ar ((W.aF.map (·.rb)).length) cr,sl Aw W.row.length cw,iv W.fO,sl Aa W.fu.length ca]):=a
abbrev qav(a:α:=by exact fun (kd,pt,pr,ky,pp,vv,e)=> [.b (a8 2) 54 (c_.cells v_),.b (a8 3) 31 [iv q_.kind,iv q_.node.t,iv q_.node.r,iv q_.par.t,iv q_.par.r,iv q_.oA.t,iv q_.oA.r,iv q_.prop,iv q_.val,iv q_.width],.k (az.row (ak (v11 9)) (an (v11 9)) v_.d.hv),.b (a8 4) 56 [iv ((bq v_.d.ops)+1),iv v_.d.rep,iv (x5+1),sl (ak (v11 9)) v_.d.hv.length (an (v11 9)),iv kd,iv q_.node.t,iv q_.node.r,iv pt,iv pr,.string ky,iv pp,iv vv]]):=a
def WE(h:p:=by rw [mK hi];(try simp only [bm,eA,List.length_singleton]);(try rw [show i+(xs.length+1-i)=xs.length+1 by omega])):=h
abbrev qat(a:α:=by exact [bJ g 96 (Zf.cells v K S l),aA.row v.A0 v.c0 K,aA.row v.A1 v.c1 S,jN.fH v.A2 v.c2 l,aM.all (l.map jf.own),aA.row v.A3 v.c3 ([]:List UInt8),aA.row v.A4 v.c4 ([]:List UInt8),jN.fH v.A5 v.c5 ([]:List jf),aA.row v.A6 v.c6 ([]:List UInt8),aA.row v.A7 v.c7 ([]:List UInt8),jN.fH v.A8 v.c8 ([]:List jf)]):=a
def qas(h:p:=by have:=hF.i_;have:=hF.t_;omega):=h
def il(h:p:=by exact fun w h=>hp.aE h.ch):=h
abbrev qaq(a:α:=by exact [iv ((aj rep u (l.take i)).rep),iv (bq (aj rep u (l.take i)).ops),sl a.Ah ((aj rep u (l.take i)).hv.length) a.ch,sl a.Ao ((aj rep u (l.take i)).ops.length) a.co,sl a.Ax ((aj rep u (l.take i)).held.length) a.cx,sl a.An ((ai (dJ (aj rep u (l.take i)).ops) []).length) a.cn,sl a.Am ((dJ (aj rep u (l.take i)).ops).length) a.cm,sl a.Al ((fY (aj rep u (l.take i)).ops).length) a.cl,iv ((aj rep u (l.take i)).wait),iv ((aj rep u (l.take i)).dT),iv ((aj rep u (l.take i)).aW)]):=a
def kp(h:p:=by exact (show False from by omega).elim):=h
def vq(h:p:=by have hq:=OV;(try simp only [eA] at hq⊢);omega):=h
def TA(h:p:=by first|assumption|omega):=h
def du(h:p:=by dsimp only;omega):=h
def qal(h:p:=by exact ⟨bF aU xs.length 0 1 qtx,cB 5 (ad aU (0*1) 0) (fun w h=>bW (K:=aA) (hp.aE h.ch) e4),dv (.int .u32 (IntKind.u32.wrap (x3.toNat:Int))) (congrArg (Value.int .u32) (yE x3)),dv (.int .u32 (IntKind.u32.wrap ((x3.toNat:Int)*2^24))) (congrArg (Value.int .u32) (aga x3)),bF aU xs.length 1 1 qtx,cB 5 (ad aU (1*1) 0) qvr,dv (.int .u32 (IntKind.u32.wrap (x5.toNat:Int))) (congrArg (Value.int .u32) (yE x5)),dv (.int .u32 (IntKind.u32.wrap ((x5.toNat:Int)*2^16))) (congrArg (Value.int .u32) (agb x5)),dv (.int .u32 (IntKind.u32.wrap (BitVec.ofInt 32 ((x3.toNat*16777216:Nat):Int)|||BitVec.ofInt 32 ((x5.toNat*65536:Nat):Int)).toNat)) (congrArg (Value.int .u32) (Zo x3 x5)),bF aU xs.length 2 1 qtx,cB 5 (ad aU (2*1) 0) qvq,dv (.int .u32 (IntKind.u32.wrap (x7.toNat:Int))) (congrArg (Value.int .u32) (yE x7)),dv (.int .u32 (IntKind.u32.wrap ((x7.toNat:Int)*2^8))) (congrArg (Value.int .u32) (sh8 x7)),dv (.int .u32 (IntKind.u32.wrap (BitVec.ofInt 32 (((x3.toNat*256+x5.toNat)*65536:Nat):Int)|||BitVec.ofInt 32 ((x7.toNat*256:Nat):Int)).toNat)) (congrArg (Value.int .u32) (Zp (x3.toNat*256+x5.toNat) x7 (by have:=x3.toNat_lt;have:=x5.toNat_lt;omega))),bF aU xs.length 3 1 qtx,cB 5 (ad aU (3*1) 0) (fun w h=>bW (K:=aA) (hp.aE h.ch) ng),dv (.int .u32 (IntKind.u32.wrap (x9.toNat:Int))) (congrArg (Value.int .u32) (yE x9)),dv (.int .u32 (IntKind.u32.wrap (BitVec.ofInt 32 ((((x3.toNat*256+x5.toNat)*256+x7.toNat)*256:Nat):Int)|||BitVec.ofInt 32 (x9.toNat:Int)).toNat)) (congrArg (Value.int .u32) (agc ((x3.toNat*256+x5.toNat)*256+x7.toNat) x9 (by have:=x3.toNat_lt;have:=x5.toNat_lt;have:=x7.toNat_lt;omega))),trivial⟩):=h
abbrev Nv(a:α:=by exact [bJ g 65 [sl Ar ((W.aF.map (·.rb)).length) cr,sl Aw W.row.length cw,iv W.fO,sl Aa W.fu.length ca],mE.row Ar cr (W.aF.map (·.rb)),mF.row Aw cw W.row,pc.row Aa ca W.fu,aM.all (W.aF.map jE)]):=a
def Ge(h:p:=by first|assumption|omega|exact tc _|exact dp YY _|exact (gS.rg (by omega)).1|exact qwb):=h
def J6(h:p:=by first|assumption|omega|exact tc _|exact dp YY _|exact (gS.rg (by omega)).1|exact (Gz.rg (by omega)).1|exact qwb|exact rg_of YY):=h
def jU(h:p:=by exact by rintro _ _ ⟨rfl,_⟩;exact rfl):=h
def EM(h:p:=by first|assumption|omega|exact rg_of (by have:=hF.i_;have:=hF.t_;omega)|exact rg_of (mg _ _)|exact dp YY _|exact (hL.ok.rg (by omega)).1|exact ((hL.gZ e3).ok.rg (by omega)).1|exact me _ _):=h
def IJ(h:p:=by first|assumption|omega|(have h3:=(gS.rg (p:=3) (by omega)).1;have h5:=(gS.rg (p:=5) (by omega));have kx:=gS.rg (p:=11) (by omega);have h6:=gS.rg (p:=6) (by omega);have h52:=h5.2.2.1 (by decide) (by decide) (by decide) (by decide) (by decide);simp only [dD] at*;first|omega|(split<;>omega))):=h
def cJ(h:p:=by exact fun w h=>trivial):=h
def kA(h:p:=by exact fun vs u C h=>qvt):=h
def ko(h:p:=by exact fun vs u C h=>by obtain ⟨rfl,rfl⟩:=h;exact ⟨rfl,rfl⟩):=h
def sK(h:p:=by first|assumption|omega|exact rg_of (by have:=hF.i_;have:=hF.t_;omega)|exact rg_of (mg _ _)|exact dp YY _|exact (hL.ok.rg (by omega)).1|exact me _ _):=h
def dg(h:p:=by first|omega|(simp only [cX];omega)):=h
end

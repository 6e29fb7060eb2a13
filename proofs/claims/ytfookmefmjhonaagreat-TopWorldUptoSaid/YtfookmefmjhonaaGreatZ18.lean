/- For the law of worlds: What lies in memory; What functions do. -/
import Derived.Test.YtfookmefmjhonaaGreatZ17
set_option linter.all false
namespace Go.bE
open Go.RowKit
variable {P:Program} {n:Nat} {U F:Nat→Prop} {w0 w:World} {Q:Exit→Act→World→Prop} {s:S} {rest:List aM}
def Bq {l:List aM} {A:aM} (h:A∈l) {G:Nat→Prop} (hG:(aM.all l).H G w): ∃G',A.H G' w∧ ∀b,G' b→G b:=by
 obtain ⟨i,hi,e⟩:=List.getElem_of_mem h
 exact yZ (i:=i) W6 hG
def SH.o5 {β α:Type} {K:Kd α} {H:List HB} (h:SH U w0 w H) (i:Nat) (f:β→aM) (xs:List β) {x:β} (hx:x∈xs) {A:OA} {c:Nat} {ys:List α} (e:f x=K.row A c ys) (hi:(dR H.length [i],pk H [i])=(true,[aM.all (xs.map f)])):K.Rd A ys w:=by
 simp only [bI] at hi
 exact SS.get h (SH.gf hi.1 hi.2) fun G hG=>by
  exact qkc
def SF.o5 {β α:Type} {K:Kd α} (h:SF U w0 w F rest) (i:Nat) (f:β→aM) (xs:List β) {x:β} (hx:x∈xs) {A:OA} {c:Nat} {ys:List α} (e:f x=K.row A c ys) (hi:rest[i]? =some (aM.all (xs.map f))):K.gx A ys F w:=by
 obtain ⟨G,hG,hd⟩:=h.get hi
 obtain ⟨G',h1,h2⟩:=Bq (di (f:=f) hx) hG
 rw [e] at h1
 exact Row.rcU h1.2 fun b hb=>hd b (h2 b ((h1.1 b).2 hb))
def SF.yq {β α:Type} {K:Kd α} {H:List HB} (h:SF U w0 w F (H.map HB.gf)) (i:Nat) (f:β→aM) (xs:List β) {x:β} (hx:x∈xs) {A:OA} {c:Nat} {ys:List α} (e:f x=K.row A c ys) (hi:(dR H.length [i],pk H [i])=(true,[aM.all (xs.map f)])):K.gx A ys F w:=by
 simp only [bI] at hi
 exact h.o5 i f xs hx e (SH.gf hi.1 hi.2)
def SE.o5 {β α:Type} {K:Kd α} {X Y:List aM} (h:SE U w0 w X Y) (i:Nat) (f:β→aM) (xs:List β) {x:β} (hx:x∈xs) {A:OA} {c:Nat} {ys:List α} (e:f x=K.row A c ys) (hi:Y[i]? =some (aM.all (xs.map f))):K.Rd A ys w:=h.get hi fun G hG=>by
 exact qkc
def H6 {β:Type} (j m:Nat) (f:β→aM) (l:List β) (h:(dR s.H.length [j],pk s.H [j])=(true,[aM.all (l.map f)])) (k:G P n U w0 Q {s with H:=gv s.H [j] [.k (aM.all ((l.drop m).map f))]}):G P n U w0 Q s:=
 js [j] _ [.k (aM.all ((l.drop m).map f))] h (fun w K hS=>by
  have e:l.map f=(l.take m).map f++(l.drop m).map f:=by rw [← cT,List.take_append_drop]
  have h2:SS U w0 w (aM.all (l.map f)::K):=hS
  rw [e] at h2
  have h3:=SS.star (SS.J4 h2 (aM.all_append _ _))
  exact h3.tail) k
def aD (j:Nat) (A B:aM) (h:(dR s.H.length [j],pk s.H [j])=(true,[A])) (e:A=B) (k:G P n U w0 Q {s with H:=gv s.H [j] [.k B]}):G P n U w0 Q s:=by
 subst e
 exact js [j] _ [.k A] h (fun w K hS=>hS) k
end Go.bE
namespace Go.Proofs.YtfookmefmjhonaaGreat.My
open Go.RowKit Go.bE
structure jf where
 cut:Bool
 at_:Int
 b:List UInt8
 A:OA
 c:Nat
def jN:Kd jf:=⟨173,3,fun x=> [.bool x.cut,iv x.at_,.slice x.A x.b.length x.c],fun _=>rfl,fun _=>rfl,by decide⟩
abbrev jf.own (x:jf):aM:=aA.row x.A x.c x.b
def u9:Nat→List jf→Prop
 |_,[]=>True
 |n,d::l=>d.cut=false∧d.at_=n∧u9 (n+d.b.length) l
abbrev gl (l:List jf):List UInt8:=l.flatMap (·.b)
def u9.snoc {d:jf}: ∀ {n:Nat} {l:List jf},u9 n l→d.cut=false→d.at_=((n+(gl l).length:Nat):Int)→u9 n (l++ [d])
 |_,[],_,h1,h2=>⟨h1,by simpa using h2,trivial⟩
 |n,x::l,h,h1,h2=>⟨h.1,h.2.1,u9.snoc h.2.2 h1 (by rw [h2];simp only [gl,iE,bm];congr 1;omega)⟩
def u9.next {n:Nat} {l:List jf} {x:jf} (h:u9 n l) (e:l[0]? =some x):x.cut=false∧x.at_=n∧u9 (n+x.b.length) (l.drop 1)∧gl l=x.b++gl (l.drop 1):=by
 cases l with
 |nil=>simp at e
 |cons y l=>
  simp only [gQ,a9] at e
  subst e
  exact ⟨h.1,h.2.1,h.2.2,by simp [gl]⟩
structure Zf where
 A0:OA
 c0:Nat
 A1:OA
 c1:Nat
 A2:OA
 c2:Nat
 A3:OA
 c3:Nat
 A4:OA
 c4:Nat
 A5:OA
 c5:Nat
 A6:OA
 c6:Nat
 A7:OA
 c7:Nat
 A8:OA
 c8:Nat
 left:Int
abbrev Zf.cells (v:Zf) (K S:List UInt8) (l:List jf):List Value:=
 [.slice v.A0 K.length v.c0,.slice v.A1 S.length v.c1,.slice v.A2 l.length v.c2,.slice v.A3 0 v.c3,.slice v.A4 0 v.c4,.slice v.A5 0 v.c5,.slice v.A6 0 v.c6,.slice v.A7 0 v.c7,.slice v.A8 0 v.c8,.bool false,.bool false,iv v.left]
def Bl (g:Nat) (K S:List UInt8) (Cs:List aM):Prop:= ∃(v:Zf) (l:List jf),(u9 K.length l∧K++gl l=S∧l.length≤(gl l).length)∧
 Cs= [bJ g 96 (v.cells K S l),aA.row v.A0 v.c0 K,aA.row v.A1 v.c1 S,jN.fH v.A2 v.c2 l,aM.all (l.map jf.own),aA.row v.A3 v.c3 [],aA.row v.A4 v.c4 [],jN.fH v.A5 v.c5 [],aA.row v.A6 v.c6 [],aA.row v.A7 v.c7 [],jN.fH v.A8 v.c8 []]
def j6 (g:Nat) (K S:List UInt8):aM:=g9 (Bl g K S)
end Go.Proofs.YtfookmefmjhonaaGreat.My
namespace Go.Proofs.YtfookmefmjhonaaGreat.My
open Go.RowKit Go.bE
def BS {f b:List UInt8} {A:OA} {c k m:Nat} (hk:k=b.length) (hm:m=f.length+k):row 5 1 (sl A m c) m (ba ((f++List.replicate k (0:UInt8)).flatMap aA.f) (f.length*1) ((b.flatMap aA.f).take (min k (m-f.length)*1)))=aA.row A c (f++b):=by
 subst hk
 subst hm
 have e1:(b.flatMap aA.f).length=b.length:=by rw [aA.size];exact Nat.mul_one _
 have e2:(f.flatMap aA.f).length=f.length:=by rw [aA.size];exact Nat.mul_one _
 have e3:min b.length (f.length+b.length-f.length)*1=b.length:=by omega
 have e6:(b.flatMap aA.f).take b.length=b.flatMap aA.f:=cA (by omega)
 rw [e3,e6,Nat.mul_one]
 have e4:ba ((f++List.replicate b.length (0:UInt8)).flatMap aA.f) f.length (b.flatMap aA.f)=(f++b).flatMap aA.f:=by
  unfold ba
  rw [List.flatMap_append,List.flatMap_append,List.take_left' e2,eJ,fj]
  have e5:((List.replicate b.length (0:UInt8)).flatMap aA.f).length=b.length:=by rw [aA.size,eA];exact Nat.mul_one _
  rw [bm,e2,e5,e1]
  exact bO _
 unfold Kd.row
 rw [e4,bm]
 rfl
def _E (d:jf) (Af:OA) (cf:Nat) (f:List UInt8) (h0:d.cut=false) (h1:d.at_=f.length) (hb:f.length+d.b.length≤1000000000):hO Cp 84 #[jN.V d,sl Af f.length cf] (fun U w=>aA.gx d.A d.b U w) [aA.row Af cf f] (fun v Cs=> ∃A c,v=sl A ((f++d.b).length) c∧Cs= [aA.row A c (f++d.b)]):=by
 refine kz [.k (aA.row Af cf f)] Tryz.func84 fun U w0 hp=>ae 11 [1] fun a8=>eQ d.cut (fun h2=>?_) (fun h2=>?_)
 ·exact (show False from by rw [h0] at h2;cases h2).elim
 ·refine ae 10 [1,1] fun _=>ao 17 (d.at_+(d.b.length:Int))<|aa 3 fun _=>ao 20 ((d.at_+(d.b.length:Int))- (f.length:Int))<|aa 7 fun _=>aq (((d.at_+(d.b.length:Int))- (f.length:Int))>0) (fun h3=>?_) (fun h3=>?_)
  ·refine aa 3 fun _=>?_
   have e7:(d.at_+(d.b.length:Int))- (f.length:Int)=(d.b.length:Int):=by omega
   refine aC 24 (iv (d.b.length:Int)) (iv ((d.at_+(d.b.length:Int))- (f.length:Int))) (iT e7)<|Dy aA 0 Af cf f (List.replicate d.b.length (0:UInt8)) 90 3 (iv (d.b.length:Int)) (fun w h=>.zr (kk:=.i64) (x0:=(0:UInt8)) kr kr) (by simp only [eA];omega) (.inr (by rw [eA];omega)) fun A4 c5=>aC 25 (sl A4 ((f++List.replicate d.b.length (0:UInt8)).length) c5) (sl A4 (f.length+(List.replicate d.b.length (0:UInt8)).length) c5) qpt<|aa 3 fun _=>dN (φ:=(f++List.replicate d.b.length (0:UInt8)).length≤c5) (fun w h=>h.mR (K:=aA) 0 A4 c5 (f++List.replicate d.b.length (0:UInt8)) kr) fun ZQ=>aO [(3,_),(6,_)] [1,1] ⟨qp (h1:=by first|omega|(simp only [bm,eA];omega)) (((f++List.replicate d.b.length (0:UInt8)).drop d.at_.toNat).length) A4 ((f++List.replicate d.b.length (0:UInt8)).length) c5 d.at_.toNat ((f++List.replicate d.b.length (0:UInt8)).length) 1 (some (iv d.at_)) none yu TR (fun vs w h=>ZQ),lU 5 1 0 A4 c5 ((f++List.replicate d.b.length (0:UInt8)).length) ((f++List.replicate d.b.length (0:UInt8)).flatMap aA.f) d.at_.toNat (((f++List.replicate d.b.length (0:UInt8)).drop d.at_.toNat).length) (c5-d.at_.toNat) d.b.length (sl d.A d.b.length d.c) (d.b.flatMap aA.f) qma qop (kO (aA.vF _)),trivial⟩ fun v7=>aa 5 fun _=>aD 2 (row 5 1 (sl A4 ((f++List.replicate d.b.length (0:UInt8)).length) c5) ((f++List.replicate d.b.length (0:UInt8)).length) (ba ((f++List.replicate d.b.length (0:UInt8)).flatMap aA.f) (d.at_.toNat*1) ((d.b.flatMap aA.f).take (min d.b.length (((f++List.replicate d.b.length (0:UInt8)).drop d.at_.toNat).length)*1)))) (aA.row A4 c5 (f++d.b)) kr (by rw [show d.at_.toNat=f.length by omega,cL];exact BS (f:=f) (b:=d.b) (m:=(f++List.replicate d.b.length 0).length) rfl (by rw [bm,eA]))<|a_ [3] ⟨A4,c5,kt (sl A4 ((f++List.replicate d.b.length (0:UInt8)).length) c5) (by simp only [bm,eA]),kr⟩
  ·refine aa 2 fun _=>dN (φ:=f.length≤cf) (fun w h=>h.mR (K:=aA) 0 Af cf f kr) fun hk8=>aO [(3,_),(6,_)] [1,1] ⟨qp (h1:=by first|omega|(simp only [bm,eA];omega)) ((f.drop d.at_.toNat).length) Af f.length cf d.at_.toNat f.length 1 (some (iv d.at_)) none yu TR (fun vs w h=>hk8),lU 5 1 0 Af cf ((f).length) (f.flatMap aA.f) d.at_.toNat ((f.drop d.at_.toNat).length) (cf-d.at_.toNat) d.b.length (sl d.A d.b.length d.c) (d.b.flatMap aA.f) qma qop (kO (aA.vF _)),trivial⟩ fun v9=>aa 5 fun _=>?_
   have e8:d.b= []:=dV.1 (by omega)
   refine aD 2 (row 5 1 (sl Af ((f).length) cf) ((f).length) (ba (f.flatMap aA.f) (d.at_.toNat*1) ((d.b.flatMap aA.f).take (min d.b.length ((f.drop d.at_.toNat).length)*1)))) (aA.row Af cf (f++d.b)) kr (by rw [e8,show d.at_.toNat=f.length by omega];simpa using BS (f:=f) (b:= []) (A:=Af) (c:=cf) (k:=0) (m:=f.length) rfl rfl)<|a_ [3] ⟨Af,cf,kt (sl Af f.length cf) (by simp [e8]),kr⟩
def P4 (g:Nat) (x1 x3 x4 x5 x6 x7 x8 x9 gA fW:Value) (K:List UInt8) (Ak:OA) (ck:Nat) (l:List jf) (Aq:OA) (cq:Nat) (h0:u9 K.length l) (hb:(K++gl l).length≤1000000000):Ct Cp 139 #[pv g] (fun _=>True) [bJ g 96 [sl Ak K.length ck,x1,sl Aq l.length cq,x3,x4,x5,x6,x7,x8,x9,gA,fW],aA.row Ak ck K,jN.fH Aq cq l,aM.all (l.map jf.own)] (fun v Cs=> ∃A c A2 c2,v=.tuple #[]∧Cs= [bJ g 96 [sl A ((K++gl l).length) c,x1,sl A2 0 c2,x3,x4,x5,x6,x7,x8,x9,gA,fW],aA.row A c (K++gl l),jN.fH A2 c2 ([]:List jf)]):=by
 refine Fz [.b g 96 [sl Ak K.length ck,x1,sl Aq l.length cq,x3,x4,x5,x6,x7,x8,x9,gA,fW],.k (aA.row Ak ck K),.k (jN.fH Aq cq l),.k (aM.all (l.map jf.own))] Tryz.func139 fun U w0 hp=>ed 0 (σ:=List UInt8×OA×Nat×List jf×OA×Nat) (fun (K2,A,c,l2,xk,u')=> [(0,pv g)]) (fun (K2,A,c,l2,xk,u')=> [.b g 96 [sl A K2.length c,x1,sl xk l2.length u',x3,x4,x5,x6,x7,x8,x9,gA,fW],.k (aA.row A c K2),.k (jN.fH xk u' l2),.k (aM.all (l2.map jf.own))]) (fun (K2,A,c,l2,xk,u')=>u9 K2.length l2∧K2++gl l2=K++gl l) (fun (K2,A,c,l2,xk,u')=>l2.length) ?_ ?_
 ·intro _ cG
  refine aa 2 fun _=>cG _ (K,Ak,ck,l,Aq,cq) [0,1,2,3] kr ⟨h0,rfl⟩
 ·rintro _ ⟨K2,A,c,l2,xk,u'⟩ ⟨hd,hf⟩ dm
  refine ae 9 [0] fun _=>aq ((l2.length:Int)>0) (fun h1=>?_) (fun h1=>?_)
  ·refine aa 1 fun _=>?_
   obtain ⟨x2,e3⟩:=aw (xs:=l2) (k:=0) (by omega)
   refine aO [(5,_),(6,_),(11,_)] [0,0,0] ⟨br (fun vs=>xk) (fun vs=>l2.length) (fun vs=>0) 3 (fun vs w h=>Kd.cd (K:=jN) (xs:=l2) (h.Zw 2 xk u' l2 kr) (by omega)),cZ 173 (fun vs=>ad xk (0*3) 0) (fun vs=>jN.V x2) (fun vs w h=>bN (K:=jN) (h.Zw 2 xk u' l2 kr) e3),fJ (fun vs=>_E x2 A c K2 ((hd.next e3).1) ((hd.next e3).2.1) (by rw [bm] at hb;have h5:=(hd.next e3).2.2.2;have h6:=congrArg List.length hf;rw [h5] at h6;simp only [bm] at h6;omega)) [1] (fun vs=>sl (ak (vs 11)) ((K2++x2.b).length) (an (vs 11))) [fun vs=>.k (aA.row (ak (vs 11)) (an (vs 11)) (K2++x2.b))] (fun vs w F h=>h.o5 2 jf.own l2 (aI e3) rfl kr) kA,trivial⟩ fun v8=>ae 7 [5] fun _=>dN (φ:=l2.length≤u') (fun w h=>h.Zy (K:=jN) 2 xk u' l2 kr) fun hk9=>fC xk l2.length u' 3 1 l2.length (some (iv 1)) none (⟨_,rfl⟩) (by omega) hk9<|lY 2 (jN.fH xk u' l2) (jN.fH (dS xk u' 1 3) (u'-1) (l2.drop 1)) (w8 (K:=jN) (by omega))<|H6 3 1 jf.own l2 kr<|aC 27 (sl (dS xk u' 1 3) ((l2.drop 1).length) (u'-1)) (sl (dS xk u' 1 3) (l2.length-1) (u'-1)) yu<|ae 4 [5] fun _=>?_
   have hn:=hd.next e3
   exact dm _ (K2++x2.b,ak (v8 11),an (v8 11),l2.drop 1,dS xk u' 1 3,u'-1) [5,4,6,7] kr ⟨by rw [bm];exact hn.2.2.1,by rw [cH,← hn.2.2.2,hf]⟩ (by dsimp only;rw [cL];omega)
  ·refine aa 1 fun _=>CC ?_
   have el:l2= []:=dV.1 (by omega)
   have eK:K2=K++gl l:=by rw [← hf,el];simp [gl]
   subst el
   refine bP 0 g 96 [sl A K2.length c,x1,sl xk ([]:List jf).length u',x3,x4,x5,x6,x7,x8,x9,gA,fW] [sl A ((K++gl l).length) c,x1,sl xk 0 u',x3,x4,x5,x6,x7,x8,x9,gA,fW] kr (by rw [eK];rfl)<|aS aA 1 A c K2 (K++gl l) kr eK<|a_ [0,4,2] ⟨A,c,xk,u',kr,kr⟩
def P5 (g:Nat) (x0 x1 x2 x3 x4 x5 x6 x7 x9 gA fW:Value) (A:OA) (c:Nat):Ct Cp 139 #[.pointer (some ⟨g,6,none⟩)] (fun _=>True) [bJ g 96 [x0,x1,x2,x3,x4,x5,x6,x7,sl A 0 c,x9,gA,fW]] (fun v Cs=>v=.tuple #[]∧Cs= [bJ g 96 [x0,x1,x2,x3,x4,x5,x6,x7,sl A 0 c,x9,gA,fW]]):=by
 refine Fz [.b g 96 [x0,x1,x2,x3,x4,x5,x6,x7,sl A 0 c,x9,gA,fW]] Tryz.func139 fun U w0 hp=>ed 0 (σ:=Unit) (fun _u=> [(0,.pointer (some ⟨g,6,none⟩))]) (fun _u=> [.b g 96 [x0,x1,x2,x3,x4,x5,x6,x7,sl A 0 c,x9,gA,fW]]) (fun _u=>True) (fun _u=>0) ?_ ?_
 ·intro _ cG
  refine aa 2 fun _=>cG _ () [0] kr trivial
 ·rintro _ _u _ dm
  refine ae 11 [0] fun _=>CC<|Of
def qW (g:Nat) (n:Int) (x0 x1 x2 x3 x4 x5 x6 x7 x8 fW:Value) (h0:0≤n) (h1:n<3):Ct Cp 177 #[pv g,iv n] (fun _=>True) [bJ g 96 [x0,x1,x2,x3,x4,x5,x6,x7,x8,.bool false,.bool false,fW]] (fun v Cs=>v=iv 0∧Cs= [bJ g 96 [x0,x1,x2,x3,x4,x5,x6,x7,x8,.bool false,.bool false,fW]]):=by
 refine Fz [.b g 96 [x0,x1,x2,x3,x4,x5,x6,x7,x8,.bool false,.bool false,fW]] Tryz.func177 fun U w0 hp=>ae 20 [0] fun _=>aG 13 (n<0) (fun h1=>?_) (fun h1=>?_)
 ·exact kp
 ·refine aa 5 fun _=>aq (n≥3) (fun h2=>?_) (fun h2=>?_)
  ·exact kp
  ·refine aa 6 fun _=>Of
def uQ (g:Nat) (n:Int) (x0 x1 x2 x3 x4 x5 x6 x7 x8 fW:Value) (h0:0≤n) (h1:n<3):Ct Cp 137 #[pv g,iv n] (fun _=>True) [bJ g 96 [x0,x1,x2,x3,x4,x5,x6,x7,x8,.bool false,.bool false,fW]] (fun v Cs=>v=iv 0∧Cs= [bJ g 96 [x0,x1,x2,x3,x4,x5,x6,x7,x8,.bool false,.bool false,fW]]):=by
 refine Fz [.b g 96 [x0,x1,x2,x3,x4,x5,x6,x7,x8,.bool false,.bool false,fW]] Tryz.func137 fun U w0 hp=>ae 25 [0] fun _=>ah (qW g n x0 x1 x2 x3 x4 x5 x6 x7 x8 fW (by omega) (by omega)) [0] cJ ?_
 rintro _ _ ⟨rfl,rfl⟩
 refine dB 1 g 96 [x0,x1,x2,x3,x4,x5,x6,x7,x8,.bool false,.bool false,fW]<|aa 2 fun _=>a_ [1] ⟨kr,kr⟩
def P6 {S:List UInt8} {l:List jf} (h:S++gl l=S) (hl:l.length≤(gl l).length):l= []:=by
 have:=congrArg List.length h
 rw [bm] at this
 exact dV.1 (by omega)
def LQ {K S:List UInt8} {l:List jf} (h:K++gl l=S) (hl:l.length≤(gl l).length):l.length≤S.length:=by
 have:=congrArg List.length h
 rw [bm] at this
 omega
def HQ (g:Nat) (K S:List UInt8):Ct Cp 134 #[pv g,iv 0] (fun _=>True) [j6 g K S] (fun v Cs=>v=.tuple #[iv (S.length:Int),iv 0]∧Cs= [j6 g K S]):=by
 refine Fz [.k (j6 g K S)] Tryz.func134 fun U w0 hp=>bn (φ:=Bl g K S) 0 ?_
 rintro _ ⟨v,l,⟨rN,lq,Hj⟩,rfl⟩
 refine dB 1 g 96 E6<|aa 10 fun _=>ah (qW g 0 (sl v.A0 K.length v.c0) (sl v.A1 S.length v.c1) (sl v.A2 l.length v.c2) (sl v.A3 0 v.c3) (sl v.A4 0 v.c4) (sl v.A5 0 v.c5) (sl v.A6 0 v.c6) (sl v.A7 0 v.c7) (sl v.A8 0 v.c8) (iv v.left) (by omega) (by omega)) [1] cJ ?_
 exact qtq
def HR (g:Nat) (K S:List UInt8):Ct Cp 134 #[pv g,iv 2] (fun _=>True) [j6 g K S] (fun v Cs=>v=.tuple #[iv 0,iv 0]∧Cs= [j6 g K S]):=by
 refine Fz [.k (j6 g K S)] Tryz.func134 fun U w0 hp=>bn (φ:=Bl g K S) 0 ?_
 rintro _ ⟨v,l,⟨rN,lq,Hj⟩,rfl⟩
 refine dB 1 g 96 E6<|aa 10 fun _=>ah (qW g 2 (sl v.A0 K.length v.c0) (sl v.A1 S.length v.c1) (sl v.A2 l.length v.c2) (sl v.A3 0 v.c3) (sl v.A4 0 v.c4) (sl v.A5 0 v.c5) (sl v.A6 0 v.c6) (sl v.A7 0 v.c7) (sl v.A8 0 v.c8) (iv v.left) (by omega) (by omega)) [1] cJ ?_
 exact qtq
def HS (g k:Nat) (K S:List UInt8) (hk:k=S.length) (hb:S.length≤1000000000):Ct Cp 135 #[pv g,iv 0,iv 0,iv k] (fun _=>True) [j6 g K S] (fun v Cs=> ∃A c,v=.tuple #[sl A S.length c,iv 0]∧Cs= [j6 g K S,aA.row A c S]):=by
 refine Fz [.k (j6 g K S)] Tryz.func135 fun U w0 hp=>bn (φ:=Bl g K S) 0 ?_
 rintro _ ⟨v,l,⟨rN,lq,Hj⟩,rfl⟩
 refine dB 1 g 96 E6<|aa 10 fun _=>ah (qW g 0 (sl v.A0 K.length v.c0) (sl v.A1 S.length v.c1) (sl v.A2 l.length v.c2) (sl v.A3 0 v.c3) (sl v.A4 0 v.c4) (sl v.A5 0 v.c5) (sl v.A6 0 v.c6) (sl v.A7 0 v.c7) (sl v.A8 0 v.c8) (iv v.left) (by omega) (by omega)) [1] cJ ?_
 rintro _ _ ⟨rfl,rfl⟩
 refine dB 12 g 96 E6<|ae 28 [12] fun _=>aq ((k:Int)<0) (fun h1=>?_) (fun h1=>?_)
 ·exact kp
 ·refine aa 11 fun _=>aG 37 ((k:Int)>(S.length:Int)) (fun h2=>?_) (fun h2=>?_)
  ·exact kp
  ·refine aa 5 fun _=>ao 42 ((S.length:Int)- (k:Int))<|aa 4 fun _=>aq (0>((S.length:Int)- (k:Int))) (fun h3=>?_) (fun h3=>?_)
   ·exact kp
   ·refine aa 9 fun _=>ao 49 (0+(k:Int))<|aC 49 (iv k) (iv (0+(k:Int))) (iT (Int.zero_add _))<|dN (φ:=S.length≤v.c1) (fun w h=>h.mR (K:=aA) 3 v.A1 v.c1 S kr) fun hk4=>fC (hh:=⟨_,rfl⟩) v.A1 S.length v.c1 1 0 k (some (iv 0)) (some (iv k)) (⟨_,rfl⟩) (by omega) qmp<|aC 50 (sl (dS v.A1 v.c1 0 1) (((S.drop 0).take (k-0)).length) (v.c1-0)) (sl (dS v.A1 v.c1 0 1) (k-0) (v.c1-0)) ql5<|ah (ij (dS v.A1 v.c1 0 1) (v.c1-0) ((S.drop 0).take (k-0)) qr6) [] (fun w h=>Kd.take (Kd.drop (h.bg 3 v.A1 v.c1 S kr) qsu)) ?_
    rintro _ _ ⟨A5,c6,rfl,rfl⟩
    refine aa 3 fun _=>aJ (Bl g K S) [12,2,3,4,5,6,7,8,9,10,11] qat (⟨⟨v.A0,v.c0,v.A1,v.c1,v.A2,v.c2,v.A3,v.c3,v.A4,v.c4,v.A5,v.c5,v.A6,v.c6,v.A7,v.c7,v.A8,v.c8,v.left⟩,l,⟨rN,lq,Hj⟩,rfl⟩)<|aS aA 13 A5 c6 ((S.drop 0).take (k-0)) S kr (by rw [hk];simp)<|a_ [14,15] ⟨A5,c6,kt (.tuple #[sl A5 (((S.drop 0).take (k-0)).length) c6,iv 0]) (by rw [hk];simp),kr⟩
def HT (g k:Nat) (K S:List UInt8) (hk:k=([]:List UInt8).length) (hb:S.length≤1000000000):Ct Cp 135 #[pv g,iv 2,iv 0,iv k] (fun _=>True) [j6 g K S] (fun v Cs=> ∃A c,v=.tuple #[sl A (([]:List UInt8).length) c,iv 0]∧Cs= [j6 g K S,aA.row A c ([]:List UInt8)]):=by
 refine Fz [.k (j6 g K S)] Tryz.func135 fun U w0 hp=>?_
 simp only [fA] at hk
 refine bn (φ:=Bl g K S) 0 ?_
 rintro _ ⟨v,l,⟨rN,lq,Hj⟩,rfl⟩
 refine dB 1 g 96 E6<|aa 10 fun _=>ah (qW g 2 (sl v.A0 K.length v.c0) (sl v.A1 S.length v.c1) (sl v.A2 l.length v.c2) (sl v.A3 0 v.c3) (sl v.A4 0 v.c4) (sl v.A5 0 v.c5) (sl v.A6 0 v.c6) (sl v.A7 0 v.c7) (sl v.A8 0 v.c8) (iv v.left) (by omega) (by omega)) [1] cJ ?_
 rintro _ _ ⟨rfl,rfl⟩
 refine dB 12 g 96 E6<|ae 28 [12] fun _=>aq ((k:Int)<0) (fun h1=>?_) (fun h1=>?_)
 ·exact kp
 ·refine aa 11 fun _=>aG 37 ((k:Int)>0) (fun h2=>?_) (fun h2=>?_)
  ·exact kp
  ·refine aa 5 fun _=>ao 42 (0- (k:Int))<|aa 4 fun _=>aq (0>(0- (k:Int))) (fun h3=>?_) (fun h3=>?_)
   ·exact kp
   ·refine aa 9 fun _=>ao 49 (0+(k:Int))<|aC 49 (iv k) (iv (0+(k:Int))) (iT (Int.zero_add _))<|dN (φ:=([]:List UInt8).length≤v.c7) (fun w h=>h.mR (K:=aA) 10 v.A7 v.c7 ([]:List UInt8) kr) fun hk4=>fC (hh:=⟨_,rfl⟩) v.A7 0 v.c7 1 0 k (some (iv 0)) (some (iv k)) (⟨_,rfl⟩) (by omega) qmp<|aC 50 (sl (dS v.A7 v.c7 0 1) (((([]:List UInt8).drop 0).take (k-0)).length) (v.c7-0)) (sl (dS v.A7 v.c7 0 1) (k-0) (v.c7-0)) ql5<|ah (ij (dS v.A7 v.c7 0 1) (v.c7-0) ((([]:List UInt8).drop 0).take (k-0)) qr6) [] (fun w h=>Kd.take (Kd.drop (h.bg 10 v.A7 v.c7 ([]:List UInt8) kr) qsu)) ?_
    rintro _ _ ⟨A5,c6,rfl,rfl⟩
    refine aa 3 fun _=>aJ (Bl g K S) [12,2,3,4,5,6,7,8,9,10,11] qat (⟨⟨v.A0,v.c0,v.A1,v.c1,v.A2,v.c2,v.A3,v.c3,v.A4,v.c4,v.A5,v.c5,v.A6,v.c6,v.A7,v.c7,v.A8,v.c8,v.left⟩,l,⟨rN,lq,Hj⟩,rfl⟩)<|aS aA 13 A5 c6 ((([]:List UInt8).drop 0).take (k-0)) ([]:List UInt8) kr (by rw [hk];simp)<|a_ [14,15] ⟨A5,c6,kt (.tuple #[sl A5 (((([]:List UInt8).drop 0).take (k-0)).length) c6,iv 0]) (by rw [hk];simp),kr⟩
def uP (l:List jf) (d:jf):gl (l++ [d])=gl l++d.b:=by simp [gl]
def LP (g:Nat) (d:jf) (x0 x3 x4 x5 x6 x7 x8 x9 gA fW:Value) (S:List UInt8) (_C:OA) (_D:Nat) (l:List jf) (Aq:OA) (cq:Nat) (h0:d.cut=false) (h1:d.at_=S.length) (hb:S.length+d.b.length≤1000000000) (hl:l.length≤5000000):Ct Cp 138 #[pv g,iv 0,jN.V d] (fun _=>True) [bJ g 96 [x0,sl _C S.length _D,sl Aq l.length cq,x3,x4,x5,x6,x7,x8,x9,gA,fW],aA.row _C _D S,jN.fH Aq cq l,aM.all (l.map jf.own),aA.row d.A d.c d.b] (fun v Cs=> ∃A c A2 c2,v=iv 0∧Cs= [bJ g 96 [x0,sl A ((S++d.b).length) c,sl A2 ((l++ [d]).length) c2,x3,x4,x5,x6,x7,x8,x9,gA,fW],aA.row A c (S++d.b),jN.fH A2 c2 (l++ [d]),aM.all ((l++ [d]).map jf.own)]):=by
 refine Fz [.b g 96 [x0,sl _C S.length _D,sl Aq l.length cq,x3,x4,x5,x6,x7,x8,x9,gA,fW],.k (aA.row _C _D S),.k (jN.fH Aq cq l),.k (aM.all (l.map jf.own)),.k (aA.row d.A d.c d.b)] Tryz.func138 fun U w0 hp=>aa 15 fun a8=>aO [(6,_)] [5,0,0] ⟨fJ (fun vs=>_E d _C _D S h0 h1 hb) [1] (fun vs=>sl (ak (vs 6)) ((S++d.b).length) (an (vs 6))) [fun vs=>.k (aA.row (ak (vs 6)) (an (vs 6)) (S++d.b))] (fun vs w F h=>h.XS 3 d.A d.c d.b kr) kA,trivial⟩ fun v6=>aa 1 fun _=>aO [(7,_)] [7,5,7] ⟨Vl jN 2 (fun vs=>Aq) (fun vs=>cq) (fun vs=>l) (fun vs=>some ⟨(a5 (vs 6)),0,none⟩) (fun vs=>1) (fun vs=> [d]) (fun vs w h=>h.eT 7 (a5 (vs 6)) 173 (List.flatMap jN.f [d]) kr) (fun _=>by simp only [List.length_singleton];omega) (fun _=>by simp),trivial⟩ fun v7=>aa 4 fun _=>eD jf.own 4 3 l d kr<|a_ [10,6,9,11] ⟨ak (v6 6),an (v6 6),ak (v7 7),an (v7 7),kr,kr⟩
def HO (g:Nat) (Abs:OA) (cbs:Nat) (bs K S:List UInt8) (h0:0<bs.length) (hb:S.length+bs.length≤4194304) (asM:bs.length≤cbs):hO Cp 215 #[pv g,iv 0,iv (S.length:Int),sl Abs bs.length cbs] (fun U w=>aA.gx Abs bs U w) [j6 g K S] (fun v Cs=>v=iv 0∧Cs= [j6 g K (S++bs)]):=by
 refine kz [.k (j6 g K S)] Tryz.func215 fun U w0 hp=>bn (φ:=Bl g K S) 0 ?_
 rintro _ ⟨v,l,⟨rN,lq,Hj⟩,rfl⟩
 refine dB 1 g 96 E6<|aa 9 fun _=>ah (uQ g 0 (sl v.A0 K.length v.c0) (sl v.A1 S.length v.c1) (sl v.A2 l.length v.c2) (sl v.A3 0 v.c3) (sl v.A4 0 v.c4) (sl v.A5 0 v.c5) (sl v.A6 0 v.c6) (sl v.A7 0 v.c7) (sl v.A8 0 v.c8) (iv v.left) (by omega) (by omega)) [1] cJ ?_
 rintro _ _ ⟨rfl,rfl⟩
 refine dB 12 g 96 E6<|aa 15 fun _=>aG 18 ((S.length:Int)<0) (fun h1=>?_) (fun h1=>?_)
 ·exact kp
 ·refine ae 12 [12] fun _=>aG 30 ((S.length:Int)>(S.length:Int)) (fun h2=>?_) (fun h2=>?_)
  ·exact kp
  ·refine aa 4 fun _=>ao 34 (4194304- (S.length:Int))<|aa 3 fun _=>aq ((bs.length:Int)>(4194304- (S.length:Int))) (fun h3=>?_) (fun h3=>?_)
   ·exact kp
   ·refine aa 7 fun _=>ah (ij Abs cbs bs (by omega)) [] (fun w h=>(hp.aE h.ch).rc) ?_
    rintro _ _ ⟨A4,c5,rfl,rfl⟩
    refine aa 1 fun _=>ah (LP g (⟨false,(S.length:Int),bs,A4,c5⟩:jf) (sl v.A0 K.length v.c0) (sl v.A3 0 v.c3) (sl v.A4 0 v.c4) (sl v.A5 0 v.c5) (sl v.A6 0 v.c6) (sl v.A7 0 v.c7) (sl v.A8 0 v.c8) (.bool false) (.bool false) (iv v.left) S v.A1 v.c1 l v.A2 v.c2 rfl rfl (by simp only;omega) (by have:=LQ lq Hj;omega)) [12,3,4,5,13] cJ ?_
    rintro _ _ ⟨A6,c7,A8,c9,rfl,rfl⟩
    refine dB 14 g 96 [sl v.A0 K.length v.c0,sl A6 ((S++(⟨false,(S.length:Int),bs,A4,c5⟩:jf).b).length) c7,sl A8 ((l++ [(⟨false,(S.length:Int),bs,A4,c5⟩:jf)]).length) c9,sl v.A3 0 v.c3,sl v.A4 0 v.c4,sl v.A5 0 v.c5,sl v.A6 0 v.c6,sl v.A7 0 v.c7,sl v.A8 0 v.c8,.bool false,.bool false,iv v.left]<|aa 2 fun _=>aJ (Bl g K (S++bs)) [14,2,15,16,17,6,7,8,9,10,11] [bJ g 96 [sl v.A0 K.length v.c0,sl A6 ((S++(⟨false,(S.length:Int),bs,A4,c5⟩:jf).b).length) c7,sl A8 ((l++ [(⟨false,(S.length:Int),bs,A4,c5⟩:jf)]).length) c9,sl v.A3 0 v.c3,sl v.A4 0 v.c4,sl v.A5 0 v.c5,sl v.A6 0 v.c6,sl v.A7 0 v.c7,sl v.A8 0 v.c8,.bool false,.bool false,iv v.left],aA.row v.A0 v.c0 K,aA.row A6 c7 (S++bs),jN.fH A8 c9 (l++ [(⟨false,(S.length:Int),bs,A4,c5⟩:jf)]),aM.all ((l++ [(⟨false,(S.length:Int),bs,A4,c5⟩:jf)]).map jf.own),aA.row v.A3 v.c3 ([]:List UInt8),aA.row v.A4 v.c4 ([]:List UInt8),jN.fH v.A5 v.c5 ([]:List jf),aA.row v.A6 v.c6 ([]:List UInt8),aA.row v.A7 v.c7 ([]:List UInt8),jN.fH v.A8 v.c8 ([]:List jf)] (⟨⟨v.A0,v.c0,A6,c7,A8,c9,v.A3,v.c3,v.A4,v.c4,v.A5,v.c5,v.A6,v.c6,v.A7,v.c7,v.A8,v.c8,v.left⟩,l++ [(⟨false,(S.length:Int),bs,A4,c5⟩:jf)],⟨rN.snoc rfl (by rw [← lq,bm]),by rw [uP,← cH,lq],by simp only [uP,bm,List.length_singleton];omega⟩,rfl⟩)<|a_ [18] ⟨kr,kr⟩
def xi (g:Nat) (K S:List UInt8) (hb:S.length≤4194304):Ct Cp 101 #[pv g,iv 0] (fun _=>True) [j6 g K S] (fun v Cs=>v=iv 0∧Cs= [j6 g S S]):=by
 refine Fz [.k (j6 g K S)] Tryz.func101 fun U w0 hp=>bn (φ:=Bl g K S) 0 ?_
 rintro _ ⟨v,l,⟨rN,lq,Hj⟩,rfl⟩
 refine dB 1 g 96 E6<|aa 9 fun _=>ah (uQ g 0 (sl v.A0 K.length v.c0) (sl v.A1 S.length v.c1) (sl v.A2 l.length v.c2) (sl v.A3 0 v.c3) (sl v.A4 0 v.c4) (sl v.A5 0 v.c5) (sl v.A6 0 v.c6) (sl v.A7 0 v.c7) (sl v.A8 0 v.c8) (iv v.left) (by omega) (by omega)) [1] cJ ?_
 rintro _ _ ⟨rfl,rfl⟩
 refine dB 12 g 96 E6<|aa 21 fun _=>ah (P4 g (sl v.A1 S.length v.c1) (sl v.A3 0 v.c3) (sl v.A4 0 v.c4) (sl v.A5 0 v.c5) (sl v.A6 0 v.c6) (sl v.A7 0 v.c7) (sl v.A8 0 v.c8) (.bool false) (.bool false) (iv v.left) K v.A0 v.c0 l v.A2 v.c2 rN (by rw [lq];omega)) [12,2,4,5] cJ ?_
 rintro _ _ ⟨A1,c2,A3,c4,rfl,rfl⟩
 refine dB 13 g 96 [sl A1 ((K++gl l).length) c2,sl v.A1 S.length v.c1,sl A3 0 c4,sl v.A3 0 v.c3,sl v.A4 0 v.c4,sl v.A5 0 v.c5,sl v.A6 0 v.c6,sl v.A7 0 v.c7,sl v.A8 0 v.c8,.bool false,.bool false,iv v.left]<|aa 5 fun _=>dQ<|aJ (Bl g S S) [13,14,3,15,16,6,7,8,9,10,11] [bJ g 96 [sl A1 ((K++gl l).length) c2,sl v.A1 S.length v.c1,sl A3 0 c4,sl v.A3 0 v.c3,sl v.A4 0 v.c4,sl v.A5 0 v.c5,sl v.A6 0 v.c6,sl v.A7 0 v.c7,sl v.A8 0 v.c8,.bool false,.bool false,iv v.left],aA.row A1 c2 (K++gl l),aA.row v.A1 v.c1 S,jN.fH A3 c4 ([]:List jf),aM.all (([]:List jf).map jf.own),aA.row v.A3 v.c3 ([]:List UInt8),aA.row v.A4 v.c4 ([]:List UInt8),jN.fH v.A5 v.c5 ([]:List jf),aA.row v.A6 v.c6 ([]:List UInt8),aA.row v.A7 v.c7 ([]:List UInt8),jN.fH v.A8 v.c8 ([]:List jf)] (⟨⟨A1,c2,v.A1,v.c1,A3,c4,v.A3,v.c3,v.A4,v.c4,v.A5,v.c5,v.A6,v.c6,v.A7,v.c7,v.A8,v.c8,v.left⟩,[],⟨trivial,by simp [gl],by simp⟩,by rw [lq];rfl⟩)<|a_ [17] ⟨kr,kr⟩
def HP (g:Nat) (K S:List UInt8) (hb:S.length≤4194304):Ct Cp 101 #[pv g,iv 2] (fun _=>True) [j6 g K S] (fun v Cs=>v=iv 0∧Cs= [j6 g K S]):=by
 refine Fz [.k (j6 g K S)] Tryz.func101 fun U w0 hp=>bn (φ:=Bl g K S) 0 ?_
 rintro _ ⟨v,l,⟨rN,lq,Hj⟩,rfl⟩
 refine dB 1 g 96 E6<|aa 9 fun _=>ah (uQ g 2 (sl v.A0 K.length v.c0) (sl v.A1 S.length v.c1) (sl v.A2 l.length v.c2) (sl v.A3 0 v.c3) (sl v.A4 0 v.c4) (sl v.A5 0 v.c5) (sl v.A6 0 v.c6) (sl v.A7 0 v.c7) (sl v.A8 0 v.c8) (iv v.left) (by omega) (by omega)) [1] cJ ?_
 rintro _ _ ⟨rfl,rfl⟩
 refine dB 12 g 96 E6<|aa 21 fun _=>ah (P5 g (sl v.A0 K.length v.c0) (sl v.A1 S.length v.c1) (sl v.A2 l.length v.c2) (sl v.A3 0 v.c3) (sl v.A4 0 v.c4) (sl v.A5 0 v.c5) (sl v.A6 0 v.c6) (sl v.A7 0 v.c7) (.bool false) (.bool false) (iv v.left) v.A8 v.c8) [12] cJ ?_
 rintro _ _ ⟨rfl,rfl⟩
 refine dB 13 g 96 E6<|aa 5 fun _=>aJ (Bl g K S) [13,2,3,4,5,6,7,8,9,10,11] qat (⟨⟨v.A0,v.c0,v.A1,v.c1,v.A2,v.c2,v.A3,v.c3,v.A4,v.c4,v.A5,v.c5,v.A6,v.c6,v.A7,v.c7,v.A8,v.c8,v.left⟩,l,⟨rN,lq,Hj⟩,rfl⟩)<|a_ [14] ⟨kr,kr⟩
structure tm where
 A:OA
 c:Nat
 b:List UInt8
def IG:Kd tm:=⟨90,1,fun x=> [sl x.A x.b.length x.c],fun _=>rfl,fun _=>rfl,by decide⟩
abbrev tm.own (x:tm):aM:=aA.row x.A x.c x.b
def MP:Ct Cp 13 #[sl none 0 0] (fun _=>True) [] (fun v Cs=> ∃(g:Nat),v=.tuple #[pv g,iv 0]∧Cs= [j6 g ([]:List UInt8) ([]:List UInt8)]):=by
 refine cc Tryz.func13 fun w0 hp=>aa 33 fun a8=>iH 1<|aa 13 fun _=>dQ<|bG aA<|bG aA<|bG jN<|lY 4 (jN.row none 0 []) (jN.fH none 0 []) uB<|bG aA<|bG aA ?_
 refine bG jN<|lY 8 (jN.row none 0 []) (jN.fH none 0 []) uB<|bG aA<|bG aA<|bG jN<|lY 12 (jN.row none 0 []) (jN.fH none 0 []) uB<|aJ (Bl (a8 8) ([]:List UInt8) ([]:List UInt8)) [0,2,3,5,1,6,7,9,10,11,13] [bJ (a8 8) 96 [sl none 0 0,sl none 0 0,sl none 0 0,sl none 0 0,sl none 0 0,sl none 0 0,sl none 0 0,sl none 0 0,sl none 0 0,.bool false,.bool false,iv 0],aA.row none 0 [],aA.row none 0 [],jN.fH none 0 ([]:List jf),aM.all (([]:List jf).map jf.own),aA.row none 0 [],aA.row none 0 [],jN.fH none 0 ([]:List jf),aA.row none 0 [],aA.row none 0 [],jN.fH none 0 ([]:List jf)] (⟨⟨none,0,none,0,none,0,none,0,none,0,none,0,none,0,none,0,none,0,0⟩,[],⟨trivial,by simp [gl],by simp⟩,rfl⟩)<|a_ [14] ⟨a8 8,kr,kr⟩
def Lt (SI:OA) (cfs:Nat) (f0 f1 f2:tm) (hn1:f1.b= []) (Uk:f2.b= []) (hb:f0.b.length≤4194304):Ct Cp 13 #[sl SI 3 cfs] (fun w=>IG.Rd SI [f0,f1,f2] w∧aA.Rd f0.A f0.b w∧aA.Rd f1.A f1.b w∧aA.Rd f2.A f2.b w) [] (fun v Cs=> ∃(g:Nat),v=.tuple #[pv g,iv 0]∧Cs= [j6 g f0.b f0.b]):=by
 refine cc Tryz.func13 fun w0 hp=>aa 33 fun a8=>iH 4<|aa 12 fun _=>aV SI 3 0 1 qgy<|bd 90 (ad SI (0*1) 0) (sl f0.A f0.b.length f0.c) qjt<|aa 10 fun _=>aq ((f0.b.length:Int)>4194304) (fun h2=>?_) (fun h2=>?_)
 ·exact qdv
 ·refine aa 1 fun _=>aO [(5,_),(7,_)] [0,3] ⟨aY (fun vs=>ij f0.A f0.c f0.b (by omega)) [] (fun vs=>sl (ak (vs 5)) f0.b.length (an (vs 5))) [fun vs=>.k (aA.row (ak (vs 5)) (an (vs 5)) f0.b)] qmo kA,aY (fun vs=>ij f0.A f0.c f0.b (by omega)) [] (fun vs=>sl (ak (vs 7)) f0.b.length (an (vs 7))) [fun vs=>.k (aA.row (ak (vs 7)) (an (vs 7)) f0.b)] qmo kA,trivial⟩ fun v9=>aa 17 fun _=>aV SI 3 1 1 qgy<|bd 90 (ad SI (1*1) 0) (sl f1.A f1.b.length f1.c) qjt<|aa 10 fun _=>aq ((f1.b.length:Int)>4194304) (fun iJ=>?_) (fun iJ=>?_)
  ·exact qdv
  ·refine aa 1 fun _=>aO [(5,_),(7,_)] [4,7] ⟨aY (fun vs=>ij f1.A f1.c f1.b (by omega)) [] (fun vs=>sl (ak (vs 5)) f1.b.length (an (vs 5))) [fun vs=>.k (aA.row (ak (vs 5)) (an (vs 5)) f1.b)] qr3 kA,aY (fun vs=>ij f1.A f1.c f1.b (by omega)) [] (fun vs=>sl (ak (vs 7)) f1.b.length (an (vs 7))) [fun vs=>.k (aA.row (ak (vs 7)) (an (vs 7)) f1.b)] qr3 kA,trivial⟩ fun DR=>aa 17 fun _=>aV SI 3 2 1 qgy<|bd 90 (ad SI (2*1) 0) (sl f2.A f2.b.length f2.c) qjt<|aa 10 fun _=>aq ((f2.b.length:Int)>4194304) (fun vI=>?_) (fun vI=>?_)
   ·exact qdv
   ·refine aa 1 fun _=>aO [(5,_),(7,_)] [8,11] ⟨aY (fun vs=>ij f2.A f2.c f2.b (by omega)) [] (fun vs=>sl (ak (vs 5)) f2.b.length (an (vs 5))) [fun vs=>.k (aA.row (ak (vs 5)) (an (vs 5)) f2.b)] qr2 kA,aY (fun vs=>ij f2.A f2.c f2.b (by omega)) [] (fun vs=>sl (ak (vs 7)) f2.b.length (an (vs 7))) [fun vs=>.k (aA.row (ak (vs 7)) (an (vs 7)) f2.b)] qr2 kA,trivial⟩ fun Cx=>aa 18 fun _=>dQ<|bG jN<|lY 14 (jN.row none 0 []) (jN.fH none 0 []) uB<|bG jN<|lY 16 (jN.row none 0 []) (jN.fH none 0 []) uB<|bG jN<|lY 18 (jN.row none 0 []) (jN.fH none 0 []) uB<|aJ (Bl (a8 8) f0.b f0.b) [12,1,2,15,13,5,6,17,9,10,19] [bJ (a8 8) 96 [sl (ak (v9 5)) f0.b.length (an (v9 5)),sl (ak (v9 7)) f0.b.length (an (v9 7)),sl none 0 0,sl (ak (DR 5)) f1.b.length (an (DR 5)),sl (ak (DR 7)) f1.b.length (an (DR 7)),sl none 0 0,sl (ak (Cx 5)) f2.b.length (an (Cx 5)),sl (ak (Cx 7)) f2.b.length (an (Cx 7)),sl none 0 0,.bool false,.bool false,iv 0],aA.row (ak (v9 5)) (an (v9 5)) f0.b,aA.row (ak (v9 7)) (an (v9 7)) f0.b,jN.fH none 0 ([]:List jf),aM.all (([]:List jf).map jf.own),aA.row (ak (DR 5)) (an (DR 5)) f1.b,aA.row (ak (DR 7)) (an (DR 7)) f1.b,jN.fH none 0 ([]:List jf),aA.row (ak (Cx 5)) (an (Cx 5)) f2.b,aA.row (ak (Cx 7)) (an (Cx 7)) f2.b,jN.fH none 0 ([]:List jf)] (⟨⟨ak (v9 5),an (v9 5),ak (v9 7),an (v9 7),none,0,ak (DR 5),an (DR 5),ak (DR 7),an (DR 7),none,0,ak (Cx 5),an (Cx 5),ak (Cx 7),an (Cx 7),none,0,0⟩,[],⟨trivial,by simp [gl],by simp⟩,by (try rw [hn1,Uk]);(try rfl)⟩) ?_
    exact a_ [20] ⟨a8 8,kr,kr⟩
def QV (x:Int):Ct Cp 83 #[iv x,iv 1] (fun _=>True) [] (fun v Cs=>v=iv 0∧Cs= []):=by
 refine cc Tryz.func83 fun w0 hp=>aa 9 fun _=>aC 7 (iv 0) (iv (Int.tmod x 1)) (iT (Int.tmod_one x))<|aa 6 fun _=>Nc
def MQ (b:Nat) (Ap:OA) (cp:Nat) (p:List Int) (hc:p.length≤cp):hO Cp 82 #[iv 1,pv b] (fun U w=>az.gx Ap p U w) [bJ b 32 [sl Ap p.length cp]] (fun v Cs=> ∃A2 c2,∃(p2:List Int),v=iv 0∧rP az Ap p A2 p2∧p2.length≤c2∧Cs= [bJ b 32 [sl A2 p2.length c2]]):=by
 refine kz [.b b 32 [sl Ap p.length cp]] Tryz.func82 fun U w0 hp=>ae 11 [0] fun _=>aq ((p.length:Int)=0) (fun h1=>?_) (fun h1=>?_)
 ·refine aa 4 fun _=>a_ [0] ⟨Ap,cp,p,kr,rP.refl _ _ _,hc,kr⟩
 ·refine ae 4 [0] fun _=>aV Ap p.length 0 1 (fun w h=>Kd.cd (K:=az) (xs:=p) ((hp.aE h.ch).rc) (by omega)) ?_
  obtain ⟨x2,e3⟩:=aw (xs:=p) (k:=0) (by omega)
  refine bd 3 (ad Ap (0*1) 0) (iv x2) qoj<|ae 5 [0] fun _=>fC Ap p.length cp 1 1 p.length (some (iv 1)) none (⟨_,rfl⟩) (by omega) hc<|aC 12 (sl (dS Ap cp 1 1) ((p.drop 1).length) (cp-1)) (sl (dS Ap cp 1 1) (p.length-1) (cp-1)) yu<|ae 6 [0] fun _=>ah (QV x2) [] cJ ?_
  rintro _ _ ⟨rfl,rfl⟩
  refine aa 2 fun _=>a_ [0] ⟨dS Ap cp 1 1,cp-1,p.drop 1,kr,(rP.refl az Ap p).step hc rfl,by rw [cL];omega,kr⟩
def HD (g:Nat) (Ap:OA) (cp:Nat) (p:List Int) (S:List UInt8) (hcp:p.length≤cp) (hb:S.length≤4194304):hO Cp 56 #[pv g,sl Ap p.length cp] (fun U w=>az.gx Ap p U w) [j6 g S S] (fun v Cs=> ∃A c A0 c0 A1 c1 A2 c2,v=sl A 3 c∧Cs= [IG.row A c [⟨A0,c0,S⟩,⟨A1,c1,[]⟩,⟨A2,c2,[]⟩],aA.row A0 c0 S,aA.row A1 c1 [],aA.row A2 c2 []]):=by
 refine kz [.k (j6 g S S)] Tryz.func56 fun U w0 hp=>bn (φ:=Bl g S S) 0 ?_
 rintro _ ⟨v,l,⟨rN,lq,Hj⟩,rfl⟩
 obtain rfl:l= []:=P6 lq Hj
 refine dB 1 g 96 [sl v.A0 S.length v.c0,sl v.A1 S.length v.c1,sl v.A2 0 v.c2,sl v.A3 0 v.c3,sl v.A4 0 v.c4,sl v.A5 0 v.c5,sl v.A6 0 v.c6,sl v.A7 0 v.c7,sl v.A8 0 v.c8,.bool false,.bool false,iv v.left]<|aa 16 fun a8=>iH 4<|aa 15 fun _=>aO [(7,_)] [1,1] ⟨aY (fun vs=>ij v.A0 v.c0 S (by first|omega|simp)) [] (fun vs=>sl (ak (vs 7)) S.length (an (vs 7))) [fun vs=>.k (aA.row (ak (vs 7)) (an (vs 7)) S)] (fun vs w h=>h.bg 2 v.A0 v.c0 S kr) kA,trivial⟩ fun v6=>aa 6 fun _=>bD (MQ (a8 2) Ap cp p hcp) [12] Ad ?_
 rintro _ _ ⟨A7,c8,p9,rfl,f10,f11,rfl⟩
 refine dB 14 (a8 2) 32 [sl A7 p9.length c8]<|aa 7 fun _=>fC (hh:=⟨_,rfl⟩) v.A2 0 v.c2 3 0 0 none (some (iv 0)) rfl (by omega) (bh _)<|aC 39 (sl v.A2 0 v.c2) (sl (dS v.A2 v.c2 0 3) (0-0) (v.c2-0)) Iz<|aa 4 fun _=>iH 1<|aa 29 fun sN=>bG IG<|bQ IG 16 none 0 [] (so (sN 28)) 1 1 [(⟨ak (v6 7),an (v6 7),S⟩:tm)] (fun w h=>h.eT 15 (sN 28) 90 (List.flatMap IG.f [(⟨ak (v6 7),an (v6 7),S⟩:tm)]) kr) (by simp) fun WU T5=>aa 22 fun _=>aO [(7,_)] [1,1] ⟨aY (fun vs=>ij v.A3 v.c3 ([]:List UInt8) (by first|omega|simp)) [] (fun vs=>sl (ak (vs 7)) (([]:List UInt8).length) (an (vs 7))) [fun vs=>.k (aA.row (ak (vs 7)) (an (vs 7)) ([]:List UInt8))] (fun vs w h=>h.bg 6 v.A3 v.c3 ([]:List UInt8) kr) kA,trivial⟩ fun D4=>?_
 refine aa 6 fun _=>bD (MQ (a8 2) A7 c8 p9 f11) [14] (fun w F h=>(f10 _ _ hp).ew h) ?_
 rintro _ _ ⟨Dc,AW,p22,rfl,f23,f24,rfl⟩
 refine dB 18 (a8 2) 32 [sl Dc p22.length AW]<|aa 7 fun _=>fC (hh:=⟨_,rfl⟩) v.A5 0 v.c5 3 0 0 none (some (iv 0)) rfl (by omega) (bh _)<|aC 39 (sl v.A5 0 v.c5) (sl (dS v.A5 v.c5 0 3) (0-0) (v.c5-0)) Iz<|aa 4 fun _=>iH 1<|aa 29 fun T1=>bQ IG 16 WU T5 ([]++ [(⟨ak (v6 7),an (v6 7),S⟩:tm)]) (so (T1 28)) 1 1 [(⟨ak (D4 7),an (D4 7),([]:List UInt8)⟩:tm)] (fun w h=>h.eT 19 (T1 28) 90 (List.flatMap IG.f [(⟨ak (D4 7),an (D4 7),([]:List UInt8)⟩:tm)]) kr) (by simp) fun GI GJ=>aa 22 fun _=>aO [(7,_)] [1,1] ⟨aY (fun vs=>ij v.A6 v.c6 ([]:List UInt8) (by first|omega|simp)) [] (fun vs=>sl (ak (vs 7)) (([]:List UInt8).length) (an (vs 7))) [fun vs=>.k (aA.row (ak (vs 7)) (an (vs 7)) ([]:List UInt8))] (fun vs w h=>h.bg 9 v.A6 v.c6 ([]:List UInt8) kr) kA,trivial⟩ fun iM=>aa 6 fun _=>?_
 refine bD (MQ (a8 2) Dc AW p22 f24) [18] (fun w F h=>(f23 _ _ (f10 _ _ hp)).ew h) ?_
 rintro _ _ ⟨G4,G5,p35,rfl,f36,f37,rfl⟩
 refine dB 21 (a8 2) 32 [sl G4 p35.length G5]<|aa 7 fun _=>fC (hh:=⟨_,rfl⟩) v.A8 0 v.c8 3 0 0 none (some (iv 0)) rfl (by omega) (bh _)<|aC 39 (sl v.A8 0 v.c8) (sl (dS v.A8 v.c8 0 3) (0-0) (v.c8-0)) Iz<|aa 4 fun _=>iH 1<|aa 29 fun aac=>bQ IG 16 GI GJ ([]++ [(⟨ak (v6 7),an (v6 7),S⟩:tm)]++ [(⟨ak (D4 7),an (D4 7),([]:List UInt8)⟩:tm)]) (so (aac 28)) 1 1 [(⟨ak (iM 7),an (iM 7),([]:List UInt8)⟩:tm)] (fun w h=>h.eT 22 (aac 28) 90 (List.flatMap IG.f [(⟨ak (iM 7),an (iM 7),([]:List UInt8)⟩:tm)]) kr) (by simp) fun A39 c40=>ae 26 [1] fun _=>aS IG 16 A39 c40 ([]++ [(⟨ak (v6 7),an (v6 7),S⟩:tm)]++ [(⟨ak (D4 7),an (D4 7),([]:List UInt8)⟩:tm)]++ [(⟨ak (iM 7),an (iM 7),([]:List UInt8)⟩:tm)]) [⟨(ak (v6 7)),(an (v6 7)),S⟩,⟨(ak (D4 7)),(an (D4 7)),[]⟩,⟨(ak (iM 7)),(an (iM 7)),[]⟩] kr rfl<|aS aA 17 (ak (D4 7)) (an (D4 7)) ([]:List UInt8) [] kr rfl ?_
 refine aS aA 20 (ak (iM 7)) (an (iM 7)) ([]:List UInt8) [] kr rfl<|a_ [23,13,24,25] ⟨A39,c40,ak (v6 7),an (v6 7),ak (D4 7),an (D4 7),ak (iM 7),an (iM 7),kr,kr⟩

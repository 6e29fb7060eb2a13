/- For the law of worlds: What functions do. -/
import Derived.Test.YtfookmefmjhonaaGreatZ29
set_option linter.all false
namespace Go.Proofs.YtfookmefmjhonaaGreat.My
open Go.RowKit Go.bE
def bC (z:ByteArray) (i n:Int):Int:=if i<z.size then (z.data.toList.getD i.toNat 0).toNat else n
def G7 {z:ByteArray} {i n:Int} {b:UInt8} (h:i<z.size) (e:z.data.toList[i.toNat]? =some b):bC z i n=(b.toNat:Int):=by simp [bC,h,bA,e]
def Bh {z:ByteArray} {i n:Int} (h: ¬i<z.size):bC z i n=n:=by simp [bC,h]
def gj (z:ByteArray) (i:Int) {n:Int} (h:0≤n∧n≤256):0≤bC z i n∧bC z i n≤256:=by
 unfold bC
 split
 ·exact qon
 ·exact h
def gF (z:ByteArray) (i:Int):0≤bC z i 0∧bC z i 0≤255:=by
 unfold bC
 split
 ·exact qon
 ·omega
def T4 {z:ByteArray} {i:Int} (h0:0≤i) (h:i<z.size): ∃b,z.data.toList[i.toNat]? =some b:=⟨_,dw (by have:z.data.toList.length=z.size:=Array.length_toList;omega)⟩
def w3 {x y:Int} (hx:0≤x∧x≤256) (hy:0≤y∧y≤256) (h:y≥x+2):IntKind.i64.wrap (Int.tdiv (y-x) 2)=(y-x)/2:=by rw [Int.tdiv_eq_ediv_of_nonneg (by omega)];exact wrap_i64 (by omega)
def O6 {x:Int} (h:0≤x∧x≤255):IntKind.u8.wrap x=((UInt8.ofNat x.toNat).toNat:Int):=by
 rw [wrap_u8,UInt8.toNat_ofNat'];omega
def E2 {z:ByteArray} (h:z=⟨#[]⟩) (i:Nat):bC z i 0=0:=Bh (by rw [h];show¬ ((i:Int)<((0:Nat):Int));omega)
def O7 {z:ByteArray} {i:Nat} {ys:List UInt8} (hz:z=⟨#[]⟩) (h:i=0∧ys= []):(⟨((ys++ [UInt8.ofNat (bC z i 0+(256-bC z i 0)/2).toNat]).map id).toArray⟩:ByteArray)=⟨#[128]⟩:=by
 rw [E2 hz,h.2];rfl
def O8 {z:ByteArray} {i:Nat} {b:UInt8} (h:z.data.toList[i]? =some b):z[i]? =some b:=by
 have h1:i<z.size:=by have:=(aN.1 h).1;rwa [Array.length_toList] at this
 rw [getElem?_pos z i h1]
 have h2:=(aN.1 h).2
 rw [Array.getElem_toList] at h2
 exact congrArg some h2
def Ky (z:ByteArray) (i n:Int) (h0:0≤i):Ct Cp 237 #[.string z,iv i,iv n] (fun _=>True) [] (fun v Cs=>v=iv (bC z i n)∧Cs= []):=by
 refine cc Tryz.func237 fun w0 hp=>aa 12 fun _=>aq (i<(z.size:Int)) (fun h1=>?_) (fun h1=>?_)
 ·refine aa 4 fun _=>?_
  obtain ⟨b2,e3⟩:=T4 h0 h1
  refine uk (hj:=h0) z i b2 (O8 e3)<|aa 1 fun _=>aC 14 (iv (b2.toNat:Int)) (iv (IntKind.i64.wrap (b2.toNat:Int))) (iT (wrap_i64 (by have:=b2.toNat_lt;omega)))<|aa 2 fun _=>a_ [] ⟨kt (iv (b2.toNat:Int)) (iT (G7 h1 e3).symm),kr⟩
 ·refine aa 6 fun _=>a_ [] ⟨kt (iv n) (iT (Bh h1).symm),kr⟩
def um (z v_:ByteArray):Ct Cp 197 #[.string z,.string v_] (fun _=>True) [] (fun v Cs=>(∃(ky:ByteArray),v=.tuple #[.string ky,iv 0]∧(z=⟨#[]⟩→v_=⟨#[]⟩→ky=⟨#[128]⟩)∧Cs= [])∨(∃(e:Int),v=.tuple #[.string (⟨#[]⟩:ByteArray),iv e]∧ ¬e=0∧ ¬ (z=⟨#[]⟩∧v_=⟨#[]⟩)∧Cs= [])):=by
 refine cc Tryz.func197 fun w0 hp=>aa 5 fun _=>bG aA<|ed 0 (σ:=Nat×OA×Nat×List UInt8×Bool) (fun (i,B,d,ys,lf)=> [(0,.string z),(1,.string v_),(4,.string {data:= #[]}),(5,iv 0),(6,sl B ys.length d),(7,iv i),(8,.bool lf)]) (fun (i,B,d,ys,lf)=> [.k (aA.row B d ys)]) (fun (i,B,d,ys,lf)=>i≤64∧ys.length≤i∧(z=⟨#[]⟩→v_=⟨#[]⟩→i=0∧ys= [])∧(v_=⟨#[]⟩→lf=true)) (fun (i,B,d,ys,lf)=>64-i) ?_ ?_
 ·intro _ cG
  refine aa 6 fun _=>eg 13 (!(z.toList==({data:= #[]}:ByteArray).toList)) (fun h1=>?_) (fun h1=>?_)
  ·refine aa 1 fun _=>ah (EC z) [] cJ ?_
   rintro _ _ ⟨rfl,rfl⟩
   refine aa 3 fun _=>eV 18 (jX z) (fun h2=>?_) (fun h2=>?_)
   ·refine aa 20 fun _=>qgk
   ·refine aa 3 fun _=>eg 21 (!(v_.toList==({data:= #[]}:ByteArray).toList)) (fun h3=>?_) (fun h3=>?_)
    ·refine aa 1 fun _=>ah (EC v_) [] cJ ?_
     rintro _ _ ⟨rfl,rfl⟩
     refine aa 2 fun _=>eV 25 (jX v_) (fun h4=>?_) (fun h4=>?_)
     ·refine aa 13 fun _=>qgk
     ·refine aa 7 fun _=>eQ (!(Go.Op.bytesLess z.toList v_.toList)) (fun h5=>?_) (fun h5=>?_)
      ·refine aa 5 fun _=>qgk
      ·refine aa 17 fun _=>qcd
    ·refine aa 29 fun _=>qcd
  ·refine aa 8 fun _=>eg 21 (!(v_.toList==({data:= #[]}:ByteArray).toList)) (fun h6=>?_) (fun h6=>?_)
   ·refine aa 1 fun _=>ah (EC v_) [] cJ ?_
    rintro _ _ ⟨rfl,rfl⟩
    refine aa 2 fun _=>eV 25 (jX v_) (fun h7=>?_) (fun h7=>?_)
    ·refine aa 13 fun _=>qkl
    ·refine aa 7 fun _=>eQ (!(Go.Op.bytesLess z.toList v_.toList)) (fun h8=>?_) (fun h8=>?_)
     ·refine aa 5 fun _=>qkl
     ·refine aa 17 fun _=>qcd
   ·refine aa 29 fun _=>qcd
 ·rintro _ ⟨i,B,d,ys,lf⟩ ⟨hi,hy,hw,O9⟩ dm
  refine aa 6 fun _=>aq ((i:Int)=64) (fun h9=>?_) (fun h9=>?_)
  ·refine aa 5 fun _=>a_ [] (.inr ⟨5,kr,by decide,fun hh=>by have:=hw hh.1 hh.2;omega,kr⟩)
  ·refine aa 5 fun _=>ah (Ky z (i:Int) 0 (by omega)) [] cJ ?_
   rintro _ _ ⟨rfl,rfl⟩
   refine aa 9 fun _=>eQ (!lf) (fun iJ=>?_) (fun iJ=>?_)
   ·refine aa 3 fun _=>ah (Ky v_ (i:Int) 256 (by omega)) [] cJ ?_
    rintro _ _ ⟨rfl,rfl⟩
    refine aa 8 fun _=>ao (e:=by have e1:=gF z i;have e2:=gj v_ i (n:=256) (by omega);omega) 46 ((bC z (i:Int) 0)+2)<|aa 2 fun _=>aq ((bC v_ (i:Int) 256)≥((bC z (i:Int) 0)+2)) (fun kx=>?_) (fun kx=>?_)
    ·refine aa 7 fun _=>ao (e:=by have e1:=gF z i;have e2:=gj v_ i (n:=256) (by omega);omega) 52 ((bC v_ (i:Int) 256)- (bC z (i:Int) 0))<|aa 1 fun _=>aC 53 (iv (((bC v_ (i:Int) 256)- (bC z (i:Int) 0))/2)) (iv (IntKind.i64.wrap (Int.tdiv ((bC v_ (i:Int) 256)- (bC z (i:Int) 0)) 2))) (iT (w3 (by have e1:=gF z i;omega) qo8 kx))<|aa 1 fun _=>ao (e:=by have e1:=gF z i;have e2:=gj v_ i (n:=256) (by omega);omega) 54 ((bC z (i:Int) 0)+(((bC v_ (i:Int) 256)- (bC z (i:Int) 0))/2))<|aa 1 fun _=>aC 55 (.int .u8 ((UInt8.ofNat ((bC z (i:Int) 0)+(((bC v_ (i:Int) 256)- (bC z (i:Int) 0))/2)).toNat).toNat:Int)) (.int .u8 (IntKind.u8.wrap ((bC z (i:Int) 0)+(((bC v_ (i:Int) 256)- (bC z (i:Int) 0))/2)))) qcz<|aa 1 fun sN=>bQ aA 0 B d ys (so (sN 0)) 1 1 [(UInt8.ofNat ((bC z (i:Int) 0)+(((bC v_ (i:Int) 256)- (bC z (i:Int) 0))/2)).toNat)] (fun w h=>h.eT 1 (sN 0) 5 (List.flatMap aA.f [(UInt8.ofNat ((bC z (i:Int) 0)+(((bC v_ (i:Int) 256)- (bC z (i:Int) 0))/2)).toNat)]) kr) (by omega) fun WU T5=>wo aA WU ((ys++ [(UInt8.ofNat ((bC z (i:Int) 0)+(((bC v_ (i:Int) 256)- (bC z (i:Int) 0))/2)).toNat)]).length) T5 (ys++ [(UInt8.ofNat ((bC z (i:Int) 0)+(((bC v_ (i:Int) 256)- (bC z (i:Int) 0))/2)).toNat)]) id jL (fun w h=>h.bg 0 WU T5 (ys++ [(UInt8.ofNat ((bC z (i:Int) 0)+(((bC v_ (i:Int) 256)- (bC z (i:Int) 0))/2)).toNat)]) kr) ?_
     refine aa 3 fun _=>a_ [] (.inl ⟨(⟨((ys++ [(UInt8.ofNat ((bC z (i:Int) 0)+(((bC v_ (i:Int) 256)- (bC z (i:Int) 0))/2)).toNat)]).map id).toArray⟩:ByteArray),kr,fun h1 h2=>absurd (O9 h2) WV,kr⟩)
    ·refine aa 6 fun _=>aC 61 (.int .u8 ((UInt8.ofNat (bC z (i:Int) 0).toNat).toNat:Int)) (.int .u8 (IntKind.u8.wrap (bC z (i:Int) 0))) qcz<|aa 1 fun Bc=>bQ aA 0 B d ys (so (Bc 0)) 1 1 [(UInt8.ofNat (bC z (i:Int) 0).toNat)] (fun w h=>h.eT 1 (Bc 0) 5 (List.flatMap aA.f [(UInt8.ofNat (bC z (i:Int) 0).toNat)]) kr) (by omega) fun F9 Es=>aa 6 fun _=>eg 65 lf (fun vI=>?_) (fun vI=>?_)
     ·refine aa 11 fun _=>ao (e:=by have e1:=gF z i;have e2:=gj v_ i (n:=256) (by omega);omega) 72 ((i:Int)+1)<|aa 2 fun _=>dm _ (i+1,F9,Es,ys++ [(UInt8.ofNat (bC z (i:Int) 0).toNat)],true) [0] kr ⟨by omega,by simp only [bm,dM,fA];omega,fun h1 h2=>absurd (O9 h2) WV,fun h2=>absurd (O9 h2) WV⟩ du
     ·refine aa 3 fun _=>ao (e:=by have e1:=gF z i;have e2:=gj v_ i (n:=256) (by omega);omega) 68 ((bC z (i:Int) 0)+1)<|aa 8 fun _=>ao (e:=by have e1:=gF z i;have e2:=gj v_ i (n:=256) (by omega);omega) 72 ((i:Int)+1)<|aa 2 fun _=>dm _ (i+1,F9,Es,ys++ [(UInt8.ofNat (bC z (i:Int) 0).toNat)],decide ((bC v_ (i:Int) 256)=((bC z (i:Int) 0)+1))) [0] kr ⟨by omega,by simp only [bm,dM,fA];omega,fun h1 h2=>absurd (O9 h2) WV,fun h2=>absurd (O9 h2) WV⟩ du
   ·refine aa 7 fun _=>ao (e:=by have e1:=gF z i;have e2:=gj v_ i (n:=256) (by omega);omega) 46 ((bC z (i:Int) 0)+2)<|aa 2 fun _=>aq (256≥((bC z (i:Int) 0)+2)) (fun Ey=>?_) (fun Ey=>?_)
    ·refine aa 7 fun _=>ao (e:=by have e1:=gF z i;have e2:=gj v_ i (n:=256) (by omega);omega) 52 (256- (bC z (i:Int) 0))<|aa 1 fun _=>aC 53 (iv ((256- (bC z (i:Int) 0))/2)) (iv (IntKind.i64.wrap (Int.tdiv (256- (bC z (i:Int) 0)) 2))) (iT (w3 (by have e1:=gF z i;omega) qo8 Ey))<|aa 1 fun _=>ao (e:=by have e1:=gF z i;have e2:=gj v_ i (n:=256) (by omega);omega) 54 ((bC z (i:Int) 0)+((256- (bC z (i:Int) 0))/2))<|aa 1 fun _=>aC 55 (.int .u8 ((UInt8.ofNat ((bC z (i:Int) 0)+((256- (bC z (i:Int) 0))/2)).toNat).toNat:Int)) (.int .u8 (IntKind.u8.wrap ((bC z (i:Int) 0)+((256- (bC z (i:Int) 0))/2)))) qcz<|aa 1 fun O_=>bQ aA 0 B d ys (so (O_ 0)) 1 1 [(UInt8.ofNat ((bC z (i:Int) 0)+((256- (bC z (i:Int) 0))/2)).toNat)] (fun w h=>h.eT 1 (O_ 0) 5 (List.flatMap aA.f [(UInt8.ofNat ((bC z (i:Int) 0)+((256- (bC z (i:Int) 0))/2)).toNat)]) kr) (by omega) fun A21 c22=>wo aA A21 ((ys++ [(UInt8.ofNat ((bC z (i:Int) 0)+((256- (bC z (i:Int) 0))/2)).toNat)]).length) c22 (ys++ [(UInt8.ofNat ((bC z (i:Int) 0)+((256- (bC z (i:Int) 0))/2)).toNat)]) id jL (fun w h=>h.bg 0 A21 c22 (ys++ [(UInt8.ofNat ((bC z (i:Int) 0)+((256- (bC z (i:Int) 0))/2)).toNat)]) kr) ?_
     refine aa 3 fun _=>a_ [] (.inl ⟨(⟨((ys++ [(UInt8.ofNat ((bC z (i:Int) 0)+((256- (bC z (i:Int) 0))/2)).toNat)]).map id).toArray⟩:ByteArray),kr,fun h1 h2=>O7 h1 (hw h1 h2),kr⟩)
    ·refine aa 6 fun _=>aC 61 (.int .u8 ((UInt8.ofNat (bC z (i:Int) 0).toNat).toNat:Int)) (.int .u8 (IntKind.u8.wrap (bC z (i:Int) 0))) qcz<|aa 1 fun GH=>bQ aA 0 B d ys (so (GH 0)) 1 1 [(UInt8.ofNat (bC z (i:Int) 0).toNat)] (fun w h=>h.eT 1 (GH 0) 5 (List.flatMap aA.f [(UInt8.ofNat (bC z (i:Int) 0).toNat)]) kr) (by omega) fun YA YB=>aa 6 fun _=>eg 65 lf (fun IE=>?_) (fun IE=>?_)
     ·refine aa 11 fun _=>ao (e:=by have e1:=gF z i;have e2:=gj v_ i (n:=256) (by omega);omega) 72 ((i:Int)+1)<|aa 2 fun _=>dm _ (i+1,YA,YB,ys++ [(UInt8.ofNat (bC z (i:Int) 0).toNat)],true) [0] kr ⟨by omega,by simp only [bm,dM,fA];omega,fun h1 h2=>by have:=E2 h1 i;omega,fun h2=>by first|rfl|(have:=O9 h2;simp [this])⟩ du
     ·refine aa 3 fun _=>ao (e:=by have e1:=gF z i;have e2:=gj v_ i (n:=256) (by omega);omega) 68 ((bC z (i:Int) 0)+1)<|aa 8 fun _=>ao (e:=by have e1:=gF z i;have e2:=gj v_ i (n:=256) (by omega);omega) 72 ((i:Int)+1)<|aa 2 fun _=>dm _ (i+1,YA,YB,ys++ [(UInt8.ofNat (bC z (i:Int) 0).toNat)],decide (256=((bC z (i:Int) 0)+1))) [0] kr ⟨by omega,by simp only [bm,dM,fA];omega,fun h1 h2=>absurd (O9 h2) (by simpa using IE),fun h2=>absurd (O9 h2) (by simpa using IE)⟩ du
def V8 {α:Type} (p:α→Bool) (xs:List α): -1≤eU p xs∧eU p xs<xs.length:=by
 by_cases h:0≤eU p xs
 ·obtain ⟨x,hx,_⟩:=xE h
  have:=(aN.1 hx).1
  omega
 ·have e:eU p xs= -1:=by
   unfold eU at h⊢
   split
   ·rename_i ha
    rw [if_pos ha] at h
    omega
   ·rfl
  omega
def jv {ks:List Nd} {y:cN} {ns:List Nd} (h:ks.Perm (mB ns y)) (e:ns= []):ks.length=0:=by have:=(qU h).2;rw [e] at this;simpa using this
def Bv (An:OA) (cn:Nat) (Am:OA) (cm:Nat) (Al:OA) (cl:Nat) (p q:cN) (l:List bz) (ls:List iZ) (hb:(ai l []).length≤1000000):Ct Cp 159 #[.agg #[sl An ((ai l []).length) cn,sl Am l.length cm,sl Al ls.length cl],bZ.V p,bZ.V q] (fun w=>sL An Am l w∧E1 Al ls w) [] (fun v Cs=>(∃(ky:ByteArray),v=.tuple #[.string ky,iv 0]∧(p=⟨0,0⟩→q=⟨0,0⟩→ai l []= []→ky=⟨#[128]⟩)∧Cs= [])∨(∃(e:Int),v=.tuple #[.string (⟨#[]⟩:ByteArray),iv e]∧ ¬e=0∧ ¬ (p=⟨0,0⟩∧q=⟨0,0⟩∧ai l []= [])∧Cs= [])):=by
 refine cc Tryz.func159 fun w0 hp=>ae 14 [0,1] fun a8=>ah (kF An cn Am cm p l (dX l) (eZ l) (by omega)) [] Ok ?_
 rintro _ _ ⟨rfl,rfl⟩
 refine aa 2 fun _=>eQ (!(fq (ai l []) p)) (fun h2=>?_) (fun h2=>?_)
 ·refine aa 5 fun _=>a_ [] (.inr ⟨3,kr,by decide,fun hh=>by simpa [pD ((gn _ _).mpr hh.1)] using h2,kr⟩)
 ·refine ae 6 [0,1] fun _=>ah (uO An cn Am cm p l (by omega)) [] Ok ?_
  rintro _ _ ⟨A3,c4,oP,rfl,f6,rfl⟩
  have AN:=(qU f6).2
  refine aa 10 fun _=>aK [(1,bZ.V ⟨0,0⟩)] [2] ⟨Oi,trivial⟩<|dj (σ:=Int) (fun i=> [(6,.string {data:= #[]}),(7,iv 0),(8,sl A3 oP.length c4),(9,iv i)]) (fun i=> [.k (aP.row A3 c4 oP)]) (fun i=> -1≤i∧i≤oP.length∧(q=⟨0,0⟩→i=oP.length)) ?_ ?_
  ·rintro i ⟨hi,pI,vi⟩
   refine aa 6 fun _=>aq (i<0) (fun h7=>?_) (fun h7=>?_)
   ·refine aa 5 fun _=>a_ [] (.inr ⟨3,kr,by decide,fun hh=>by have:=vi hh.2.1;omega,kr⟩)
   ·refine aa 12 fun _=>dj (σ:=ByteArray) (fun a=> [(6,.string {data:= #[]}),(7,iv 0),(8,sl A3 oP.length c4),(9,iv i),(10,.string a),(11,.string {data:= #[]})]) (fun a=> [.k (aP.row A3 c4 oP)]) (fun a=>(oP.length=0→a=⟨#[]⟩)) ?_ ?_
    ·rintro a ha
     refine aa 8 fun _=>dj (σ:=ByteArray) (fun b_=> [(6,.string {data:= #[]}),(7,iv 0),(10,.string a),(11,.string b_)]) (fun b_=> [.k (aP.row A3 c4 oP)]) (fun b_=>(oP.length=0→b_=⟨#[]⟩)) ?_ ?_
     ·rintro b_ hb_
      refine aa 7 fun _=>eg 51 (a.toList==b_.toList) (fun h8=>?_) (fun h8=>?_)
      ·refine aa 4 fun _=>eQ (!(a.toList==({data:= #[]}:ByteArray).toList)) (fun h9=>?_) (fun h9=>?_)
       ·refine aa 5 fun _=>a_ [] (.inr ⟨5,kr,by decide,fun hh=>by rw [ha (jv f6 hh.2.2)] at h9;simp at h9,kr⟩)
       ·refine aa 5 fun _=>ah (um a b_) [] cJ ?_
        rintro _ _ (⟨ahK,rfl,f13,rfl⟩|⟨zC,rfl,f15,f16,rfl⟩)
        ·refine aa 5 fun _=>a_ [] (.inl ⟨ahK,kr,fun h1 h2 h3=>f13 (ha (jv f6 h3)) (hb_ (jv f6 h3)),kr⟩)
        ·refine aa 5 fun _=>a_ [] (.inr ⟨zC,kr,f15,fun hh=>f16 ⟨ha (jv f6 hh.2.2),hb_ (jv f6 hh.2.2)⟩,kr⟩)
      ·refine aa 10 fun _=>ah (um a b_) [] cJ ?_
       rintro _ _ (⟨ahL,rfl,f20,rfl⟩|⟨Aj,rfl,f22,f23,rfl⟩)
       ·refine aa 5 fun _=>a_ [] (.inl ⟨ahL,kr,fun h1 h2 h3=>f20 (ha (jv f6 h3)) (hb_ (jv f6 h3)),kr⟩)
       ·refine aa 5 fun _=>a_ [] (.inr ⟨Aj,kr,f22,fun hh=>f23 ⟨ha (jv f6 hh.2.2),hb_ (jv f6 hh.2.2)⟩,kr⟩)
     ·intro _ im
      refine aq (i<(oP.length:Int)) (fun D5=>?_) (fun D5=>?_)
      ·refine aa 3 fun _=>aV A3 oP.length i 5 qg2<|aa 1 fun _=>?_
       obtain ⟨Az,Te⟩:=aw (xs:=oP) (k:=i.toNat) (by omega)
       refine bd 9 (ad A3 (i.toNat*5) 4) (.string Az.key) (fun w h=>bW (K:=aP) (h.bg 0 A3 c4 oP kr) Te)<|aa 2 fun _=>im _ Az.key [0] kr (by omega)
      ·refine aa 1 fun _=>im _ ({data:= #[]}) [0] kr (fun _=>rfl)
    ·intro _ gV
     refine aq (i>0) (fun Gd=>?_) (fun Gd=>?_)
     ·refine aa 4 fun _=>ao 35 (i-1)<|aV A3 oP.length (i-1) 5 qg2<|aa 1 fun _=>?_
      obtain ⟨nG,CV⟩:=aw (xs:=oP) (k:=(i-1).toNat) (by omega)
      refine bd 9 (((cz A3).add (((i-1).toNat)*5)).add 4) (.string nG.key) (fun w h=>bW (K:=aP) (h.bg 0 A3 c4 oP kr) CV)<|aa 2 fun _=>gV _ nG.key [0] kr (by omega)
     ·refine aa 1 fun _=>gV _ ({data:= #[]}) [0] kr (fun _=>rfl)
  ·intro _ jB
   refine Dr q (⟨0,0⟩:cN) kr (fun Rk=>?_) (fun Rk=>?_)
   ·refine aa 3 fun _=>bD (U6 A3 c4 oP (a8 4) q (by omega)) [2] (fun w F h=>h.F8 3 A3 c4 oP kr) ?_
    rintro _ _ ⟨rfl,rfl⟩
    refine dB 4 (a8 4) 29 [iv q.t,iv q.r] ?_
    have hix:=V8 (fun z_:Nd=>cS z_.id q) oP
    refine aa 2 fun _=>jB _ (eU (fun z_:Nd=>cS z_.id q) oP) [3] kr ⟨by have:=hix.1;omega,by have:=hix.2;omega,fun e=>absurd e Rk⟩
   ·refine aa 1 fun _=>jB _ (oP.length:Int) [3] kr ⟨by omega,by omega,fun _=>rfl⟩
structure qj where
 kind:Int
 node:cN
 par:cN
 oA:cN
 prop:Int
 val:Int
 width:Int
def Wk (q:qj) (d:j9):Prop:=q.kind=1∧q.par=⟨0,0⟩∧q.oA=⟨0,0⟩∧d.ops= []∧d.hv= [0]
def Dv (d:j9) (q:qj) (t r sq:Int) (A:OA) (n c:Nat) (kd nt nr pt pr:Int) (ky:ByteArray) (pp vv e:Int) (Cs:List aM):Prop:=
 (n=d.hv.length∧t=bq d.ops+1∧r=d.rep∧sq=dA d.hv d.rep+1∧(Wk q d→e=0∧kd=1∧nt=t∧nr=r∧pt=0∧pr=0∧ky=⟨#[128]⟩∧pp=0∧vv=0)∧Cs= [az.row A c d.hv])∨(¬e=0∧ ¬Wk q d∧Cs= [])
def Pq (d:j9) (q:qj) (t r sq:Int) (A:OA) (n c:Nat) (kd nt nr pt pr:Int) (ky:ByteArray) (pp vv e:Int):aM:=g9 (Dv d q t r sq A n c kd nt nr pt pr ky pp vv e)
def dW.at {v:List Int} (h:dW v) {k:Nat} {x:Int} (e:v[k]? =some x):0≤x∧x≤1099511627776:=h.2.2 x (aI e)
def qt {q:qj} {d:j9} (h:Wk q d):ai (dJ d.ops) []= []:=by rw [h.2.2.2.1];rfl
def KR (v_:c_) (q_:qj) (hf:gI v_.d) (hv:dW v_.d.hv) (h0:0≤v_.d.rep∧v_.d.rep<v_.d.hv.length∧v_.d.hv.length≤16) (ht:0≤bq v_.d.ops∧bq v_.d.ops≤1099511627776):Ct Cp 109 #[.agg (c_.cells v_).toArray,.agg #[iv q_.kind,iv q_.node.t,iv q_.node.r,iv q_.par.t,iv q_.par.r,iv q_.oA.t,iv q_.oA.r,iv q_.prop,iv q_.val,iv q_.width]] (fun w=>AH v_ w) [] (fun v Cs=> ∃(t r sq:Int),∃A n,∃(c:Nat) (kd nt nr pt pr:Int) (ky:ByteArray) (pp vv e:Int),v=.tuple #[.agg #[iv t,iv r,iv sq,sl A n c,iv kd,iv nt,iv nr,iv pt,iv pr,.string ky,iv pp,iv vv],iv e]∧Cs= [Pq v_.d q_ t r sq A n c kd nt nr pt pr ky pp vv e]):=by
 refine cc Tryz.func109 fun w0 hp=>?_
 obtain ⟨ms,mO,Bg,G3⟩:=id hp.tr
 have oO:=hf.ml
 have hmd:=mP (dJ v_.d.ops)
 refine ae 14 [0,0] fun a8=>ah (Hp (bq v_.d.ops) v_.d.rep (by omega) (by omega)) [] cJ ?_
 rintro _ _ (⟨rfl,f3,rfl⟩|⟨rfl,f4,rfl⟩)
 ·refine ae 15 [2] fun _=>?_
  obtain ⟨x5,e6⟩:=aw (xs:=v_.d.hv) (k:=v_.d.rep.toNat) (by omega)
  refine aO [(4,_),(5,_),(6,_),(9,_)] [0,0,0,1,2,4,5,6] ⟨br (fun vs=>v_.a.Ah) (fun vs=>v_.d.hv.length) (fun vs=>v_.d.rep) 1 (fun vs w h=>Kd.cd (K:=az) (xs:=v_.d.hv) (hp.hv.aE h.ch) (by omega)),cZ 3 (fun vs=>((cz v_.a.Ah).add (v_.d.rep.toNat*1)).add 0) (fun vs=>iv x5) (fun vs w h=>bW (K:=az) (hp.hv.aE h.ch) e6),fc (e:=fun _=>by have e1:=hv.at e6;omega) (fun vs=>x5+1),aY (fun vs=>qu v_.a.Ah v_.a.ch v_.d.hv (by omega)) [] (fun vs=>sl (ak (vs 9)) v_.d.hv.length (an (vs 9))) [fun vs=>.k (az.row (ak (vs 9)) (an (vs 9)) v_.d.hv)] qsp kA,trivial⟩ fun v11=>ae 8 [0,1] fun _=>ah (qv v_.a.An v_.a.cn v_.a.Am v_.a.cm q_.node (dJ v_.d.ops) (dX _) (by omega)) [] (fun w h=>hp.tr.aE h.ch) ?_
  rintro _ _ (⟨ar3,rfl,f15,rfl⟩|⟨rfl,f16,rfl⟩)
  ·refine ae 36 [8,1] fun kQ=>dj (σ:=Int×Int×Int×ByteArray×Int×Int×Int) qet qav (fun (kd,pt,pr,ky,pp,vv,e)=>Wk q_ v_.d→e=0∧kd=1∧pt=0∧pr=0∧ky=⟨#[128]⟩∧pp=0∧vv=0) ?_ ?_
   ·rintro ⟨kd,pt,pr,ky,pp,vv,e⟩ hj
    refine ae 8 [1] fun _=>aq (q_.kind=1) (fun vI=>?_) (fun vI=>?_)
    ·exact qb2
    ·refine ae 8 [3,3] fun _=>aJ (Dv v_.d q_ ((bq v_.d.ops)+1) v_.d.rep (x5+1) (ak (v11 9)) v_.d.hv.length (an (v11 9)) kd q_.node.t q_.node.r pt pr ky pp vv e) [2] qgx (.inl ⟨rfl,rfl,rfl,by rw [oi e6],fun hw=>absurd hw.1 vI,rfl⟩)<|qgz
   ·intro _ jB
    refine aq (q_.kind=3) (fun Ey=>?_) (fun Ey=>?_)
    ·refine aO [(0,_),(2,_)] [7,10] qui fun v20=>jB _ (1,0,1,(⟨([(128:UInt8)].map id).toArray⟩:ByteArray),0,0,0) [0,1,3,11] kr (fun hw=>qml)
    ·refine aa 5 fun _=>dj (σ:=Int×Int×Int×ByteArray×Int×Int×Int) qet qav (fun (kd,pt,pr,ky,pp,vv,e)=>Wk q_ v_.d→e=0∧kd=1∧pt=0∧pr=0∧ky=⟨#[128]⟩∧pp=0∧vv=0) ?_ ?_
     ·rintro ⟨kd,pt,pr,ky,pp,vv,e⟩ hj
      exact jB _ (kd,pt,pr,ky,pp,vv,e) [0,1,2,3] kr hj
     ·intro _ gV
      refine aq (q_.kind=4) (fun Zr=>?_) (fun Zr=>?_)
      ·refine aa 1 fun _=>aO [] [1,1,7,9,10] trivial fun eE=>ae 5 [1,1] fun _=>ah (wF q_.prop q_.val) [] cJ ?_
       rintro _ _ ⟨rfl,rfl⟩
       refine aa 2 fun _=>gV _ (2,0,0,⟨#[]⟩,q_.prop,q_.val,xK q_.prop q_.val) [0,1,3,11] kr (fun hw=>qml)
      ·refine ae 14 [1,7,0,1,1] fun _=>ah (Bv v_.a.An v_.a.cn v_.a.Am v_.a.cm v_.a.Al v_.a.cl q_.par q_.oA (dJ v_.d.ops) (fY v_.d.ops) (by omega)) [] qoh ?_
       rintro _ _ (⟨agd,rfl,f27,rfl⟩|⟨e28,rfl,f29,f30,rfl⟩)
       ·refine ae 7 [7] fun _=>gV _ (1,q_.par.t,q_.par.r,agd,0,0,0) [0,1,3,7] kr (fun hw=>⟨rfl,rfl,congrArg cN.t hw.2.1,congrArg cN.r hw.2.1,f27 hw.2.1 hw.2.2.1 (qt hw),rfl,rfl⟩)
       ·refine ae 7 [7] fun _=>gV _ (1,q_.par.t,q_.par.r,(⟨#[]⟩:ByteArray),0,0,e28) [0,1,3,7] kr (fun hw=>absurd ⟨hw.2.1,hw.2.2.1,qt hw⟩ f30)
  ·refine ae 16 [8,1] fun GX=>aG 52 (q_.kind=2) (fun Up=>?_) (fun Up=>?_)
   ·refine ae 13 [7,7] fun _=>qcs
   ·refine ae 6 [1] fun _=>aq (q_.kind=3) (fun Ue=>?_) (fun Ue=>?_)
    ·refine ae 6 [7,7] fun _=>qcs
    ·refine ae 13 [1] fun _=>dj (σ:=Int×Int×Int×ByteArray×Int×Int×Int) qet qav (fun (kd,pt,pr,ky,pp,vv,e)=>Wk q_ v_.d→e=0∧kd=1∧pt=0∧pr=0∧ky=⟨#[128]⟩∧pp=0∧vv=0) ?_ ?_
     ·rintro ⟨kd,pt,pr,ky,pp,vv,e⟩ hj
      refine ae 8 [1] fun _=>aq (q_.kind=1) (fun Pr=>?_) (fun Pr=>?_)
      ·exact qb2
      ·refine ae 8 [3,3] fun _=>aJ (Dv v_.d q_ ((bq v_.d.ops)+1) v_.d.rep (x5+1) (ak (v11 9)) v_.d.hv.length (an (v11 9)) kd q_.node.t q_.node.r pt pr ky pp vv e) [2] qgx (.inl ⟨rfl,rfl,rfl,by rw [oi e6],fun hw=>absurd hw.1 Pr,rfl⟩)<|qgz
     ·intro _ im
      refine aq (q_.kind=3) (fun h35=>?_) (fun h35=>?_)
      ·refine aO [(0,_),(2,_)] [7,10] qui fun EO=>im _ (1,0,1,(⟨([(128:UInt8)].map id).toArray⟩:ByteArray),0,0,0) [0,1,3,11] kr (fun hw=>qml)
      ·refine aa 5 fun _=>dj (σ:=Int×Int×Int×ByteArray×Int×Int×Int) qet qav (fun (kd,pt,pr,ky,pp,vv,e)=>Wk q_ v_.d→e=0∧kd=1∧pt=0∧pr=0∧ky=⟨#[128]⟩∧pp=0∧vv=0) ?_ ?_
       ·rintro ⟨kd,pt,pr,ky,pp,vv,e⟩ hj
        exact im _ (kd,pt,pr,ky,pp,vv,e) [0,1,2,3] kr hj
       ·intro _ kK
        refine aq (q_.kind=4) (fun C4=>?_) (fun C4=>?_)
        ·refine aa 1 fun _=>aO [] [1,1,7,9,10] trivial fun tf=>ae 5 [1,1] fun _=>ah (wF q_.prop q_.val) [] cJ ?_
         rintro _ _ ⟨rfl,rfl⟩
         refine aa 2 fun _=>kK _ (2,0,0,⟨#[]⟩,q_.prop,q_.val,xK q_.prop q_.val) [0,1,3,11] kr (fun hw=>qml)
        ·refine ae 14 [1,7,0,1,1] fun _=>ah (Bv v_.a.An v_.a.cn v_.a.Am v_.a.cm v_.a.Al v_.a.cl q_.par q_.oA (dJ v_.d.ops) (fY v_.d.ops) (by omega)) [] qoh ?_
         rintro _ _ (⟨agh,rfl,f43,rfl⟩|⟨e44,rfl,f45,f46,rfl⟩)
         ·refine ae 7 [7] fun _=>kK _ (1,q_.par.t,q_.par.r,agh,0,0,0) [0,1,3,7] kr (fun hw=>⟨rfl,rfl,congrArg cN.t hw.2.1,congrArg cN.r hw.2.1,f43 hw.2.1 hw.2.2.1 (qt hw),rfl,rfl⟩)
         ·refine ae 7 [7] fun _=>kK _ (1,q_.par.t,q_.par.r,(⟨#[]⟩:ByteArray),0,0,e44) [0,1,3,7] kr (fun hw=>absurd ⟨hw.2.1,hw.2.2.1,qt hw⟩ f46)
 ·refine ae 20 [2,2,2] fun _=>aJ (Dv v_.d q_ 0 0 0 none 0 0 0 0 0 0 0 (⟨#[]⟩) 0 0 5) [] [] (.inr ⟨by decide,fun hw=>by have e1:=hw.2.2.2.1;rw [e1] at f4;exact absurd f4 (by decide),rfl⟩)<|bk [2] [3] ⟨0,0,0,none,0,0,0,0,0,0,0,⟨#[]⟩,0,0,5,kt (.tuple #[.agg #[iv 0,iv 0,iv 0,sl none 0 0,iv 0,iv 0,iv 0,iv 0,iv 0,.string ⟨#[]⟩,iv 0,iv 0],iv 5]) rfl,kr⟩
def _root_.Go.bE.SE.Ns {U:Nat→Prop} {w0 w:World} {X Y:List aM} {v:c_} (h:SE U w0 w X Y) (i:Nat) (e:Y[i]? =some (SA v)) (hf:gI v.d):AH v w:=by
 obtain ⟨K,hK⟩:=h
 exact K1 hK (List.mem_append_right _ (List.mem_append_left _ (aI e))) hf
def LA:Value→ByteArray
 |.string z=>z
 |_=>⟨#[]⟩
structure qk (d:j9) (q:qj) (o:bz):Prop where
 may:bV o
 st:o.st=⟨bq d.ops+1,d.rep⟩
 seq:o.seq=dA d.hv d.rep+1
 aX:o.aX=d.hv
def U3 {d:j9} {q:qj} {t r sq kd nt nr pt pr pp vv e:Int} {ky:ByteArray} (h0:0≤d.rep∧d.rep<d.hv.length∧d.hv.length≤16) (ht:t=bq d.ops+1) (hr:r=d.rep) (hq:sq=dA d.hv d.rep+1) (k:Wk q d) (hk:e=0∧kd=1∧nt=t∧nr=r∧pt=0∧pr=0∧ky=⟨#[128]⟩∧pp=0∧vv=0):bV ⟨⟨t,r⟩,sq,d.hv,kd,⟨nt,nr⟩,⟨pt,pr⟩,ky,pp,vv⟩:=by
 obtain ⟨_,rfl,rfl,rfl,rfl,rfl,rfl,rfl,rfl⟩:=hk
 obtain ⟨_,_,_,k1,k2⟩:=k
 rw [k1] at ht
 rw [k2] at h0 hq⊢
 have ZO:d.rep=0:=by simp at h0;omega
 rw [ZO] at hr hq
 have ht:nt=1:=ht
 have hq:sq=1:=hq
 subst ht hr hq
 decide
def xg {d:j9} {o:bz} {q:qj} (h:qk d q o):cQ d.hv o:=by
 refine ⟨?_,?_⟩
 ·rw [h.st,h.seq];show dA d.hv d.rep=_;omega
 ·rw [h.aX];exact fun i _=>Int.le_refl _
def Z9 (An:OA) (cn:Nat) (Am:OA) (cm:Nat) (Al:OA) (cl:Nat) (x:aT) (l:List bz) (ls:List iZ) (hb:(ai l []).length≤1000000):Ct Cp 110 #[.agg #[sl An ((ai l []).length) cn,sl Am l.length cm,sl Al ls.length cl],bx.V x] (fun w=>sL An Am l w∧E1 Al ls w) [] (fun v Cs=> ∃e:Int,v=iv e∧Cs= [aM.fact (e=0∨ ¬ (x.o.kind=1∧x.o.par=⟨0,0⟩∧ai l []= []))]):=
 (HI An cn Am cm Al cl x l ls hb).mono (fun _ h=>h) fun v Cs h=>by
  rcases h with ⟨rfl,rfl⟩|⟨e,rfl,_,h2,rfl⟩
  ·exact ⟨_,⟨0,rfl,rfl⟩,fun U w0 w hS=>SS.EP hS (.inl rfl)⟩
  ·exact ⟨_,⟨e,rfl,rfl⟩,fun U w0 w hS=>SS.EP hS (.inr h2)⟩
def PO (g:Nat) (q_:qj) (d:j9) (hf:gI d) (hv:dW d.hv) (h0:0≤d.rep∧d.rep<d.hv.length∧d.hv.length≤16) (ht:0≤bq d.ops∧bq d.ops≤1099511627776) (hh: ∀y∈d.held,y.aX.length=d.hv.length) (hr:d.ops.length≤2900):Ct Cp 77 #[pv g,.agg #[iv q_.kind,iv q_.node.t,iv q_.node.r,iv q_.par.t,iv q_.par.r,iv q_.oA.t,iv q_.oA.r,iv q_.prop,iv q_.val,iv q_.width]] (fun _=>True) [oY g d] (fun v Cs=>(∃(o_:bz) (v2:List Int),∃h2 tk,∃(at_ ar:Int),v=.agg #[iv 0,iv at_,iv ar,sl none 0 0,iv 0,iv 0,.complex .f64 0 0,.complex .f64 0 0,sl none 0 0]∧qk d q_ o_∧kH d.hv d.held o_ v2 h2 tk∧Cs= [oY g ({d with hv:=v2,held:=h2,ops:=d.ops++tk})])∨(∃(e:Int),v=.agg #[iv e,iv 0,iv 0,sl none 0 0,iv 0,iv 0,.complex .f64 0 0,.complex .f64 0 0,sl none 0 0]∧ ¬e=0∧ ¬Wk q_ d∧Cs= [oY g d])):=by
 refine Fz [.k (oY g d)] Tryz.func77 fun U w0 hp=>bn (φ:=pT g d) 0 ?_
 rintro _ ⟨a,rfl⟩
 refine dB 1 g 54 qm3 ?_
 have oO:=hf.ml
 have hmd:=mP (dJ d.ops)
 refine aa 6 fun a8=>aO [(4,_)] [1,3,6] ⟨aY (fun vs=>KR (⟨d,a⟩:c_) q_ hf hv h0 ht) [] (fun vs=>.tuple #[.agg #[gi (tp (vs 4) 0) 0,gi (tp (vs 4) 0) 1,gi (tp (vs 4) 0) 2,gs (tp (vs 4) 0) 3,gi (tp (vs 4) 0) 4,gi (tp (vs 4) 0) 5,gi (tp (vs 4) 0) 6,gi (tp (vs 4) 0) 7,gi (tp (vs 4) 0) 8,.string (LA (ag (tp (vs 4) 0) 9)),gi (tp (vs 4) 0) 10,gi (tp (vs 4) 0) 11],iv (dH (tp (vs 4) 1))]) [fun vs=>.k (Pq ((⟨d,a⟩:c_).d) q_ (dH (ag (tp (vs 4) 0) 0)) (dH (ag (tp (vs 4) 0) 1)) (dH (ag (tp (vs 4) 0) 2)) (ak (ag (tp (vs 4) 0) 3)) (eI (ag (tp (vs 4) 0) 3)) (an (ag (tp (vs 4) 0) 3)) (dH (ag (tp (vs 4) 0) 4)) (dH (ag (tp (vs 4) 0) 5)) (dH (ag (tp (vs 4) 0) 6)) (dH (ag (tp (vs 4) 0) 7)) (dH (ag (tp (vs 4) 0) 8)) (LA (ag (tp (vs 4) 0) 9)) (dH (ag (tp (vs 4) 0) 10)) (dH (ag (tp (vs 4) 0) 11)) (dH (tp (vs 4) 1)))] (fun vs w h=>h.Ns (v:=⟨d,a⟩) 2 kr hf) (fun vs u C h=>by obtain ⟨_,_,_,_,_,_,_,_,_,_,_,_,_,_,_,rfl,rfl⟩:=h;exact ⟨rfl,rfl⟩),trivial⟩ fun iM=>aa 6 fun _=>?_
 obtain ⟨t,e_t⟩: ∃x_,x_=dH (ag (tp (iM 4) 0) 0):=⟨_,rfl⟩
 obtain ⟨r,e_r⟩: ∃x_,x_=dH (ag (tp (iM 4) 0) 1):=⟨_,rfl⟩
 obtain ⟨sq,Z_⟩: ∃x_,x_=dH (ag (tp (iM 4) 0) 2):=⟨_,rfl⟩
 obtain ⟨A,e_A⟩: ∃x_,x_=ak (ag (tp (iM 4) 0) 3):=⟨_,rfl⟩
 obtain ⟨n,e_n⟩: ∃x_,x_=eI (ag (tp (iM 4) 0) 3):=⟨_,rfl⟩
 obtain ⟨c,e_c⟩: ∃x_,x_=an (ag (tp (iM 4) 0) 3):=⟨_,rfl⟩
 obtain ⟨kd,Z'⟩: ∃x_,x_=dH (ag (tp (iM 4) 0) 4):=⟨_,rfl⟩
 obtain ⟨nt,_a⟩: ∃x_,x_=dH (ag (tp (iM 4) 0) 5):=⟨_,rfl⟩
 obtain ⟨nr,_b⟩: ∃x_,x_=dH (ag (tp (iM 4) 0) 6):=⟨_,rfl⟩
 obtain ⟨pt,_c⟩: ∃x_,x_=dH (ag (tp (iM 4) 0) 7):=⟨_,rfl⟩
 obtain ⟨pr,_d⟩: ∃x_,x_=dH (ag (tp (iM 4) 0) 8):=⟨_,rfl⟩
 obtain ⟨ky,_e⟩: ∃x_,x_=LA (ag (tp (iM 4) 0) 9):=⟨_,rfl⟩
 obtain ⟨pp,_g⟩: ∃x_,x_=dH (ag (tp (iM 4) 0) 10):=⟨_,rfl⟩
 obtain ⟨vv,_h⟩: ∃x_,x_=dH (ag (tp (iM 4) 0) 11):=⟨_,rfl⟩
 obtain ⟨e,e_e⟩: ∃x_,x_=dH (tp (iM 4) 1):=⟨_,rfl⟩
 refine aD 5 (Pq ((⟨d,a⟩:c_).d) q_ (dH (ag (tp (iM 4) 0) 0)) (dH (ag (tp (iM 4) 0) 1)) (dH (ag (tp (iM 4) 0) 2)) (ak (ag (tp (iM 4) 0) 3)) (eI (ag (tp (iM 4) 0) 3)) (an (ag (tp (iM 4) 0) 3)) (dH (ag (tp (iM 4) 0) 4)) (dH (ag (tp (iM 4) 0) 5)) (dH (ag (tp (iM 4) 0) 6)) (dH (ag (tp (iM 4) 0) 7)) (dH (ag (tp (iM 4) 0) 8)) (LA (ag (tp (iM 4) 0) 9)) (dH (ag (tp (iM 4) 0) 10)) (dH (ag (tp (iM 4) 0) 11)) (dH (tp (iM 4) 1))) (Pq ((⟨d,a⟩:c_).d) q_ t r sq A n c kd nt nr pt pr ky pp vv e) kr (by rw [e_t,e_r,Z_,e_A,e_n,e_c,Z',_a,_b,_c,_d,_e,_g,_h,e_e])<|aD 7 (bJ (a5 (iM 8)) 56 [gi (tp (iM 4) 0) 0,gi (tp (iM 4) 0) 1,gi (tp (iM 4) 0) 2,gs (tp (iM 4) 0) 3,gi (tp (iM 4) 0) 4,gi (tp (iM 4) 0) 5,gi (tp (iM 4) 0) 6,gi (tp (iM 4) 0) 7,gi (tp (iM 4) 0) 8,.string (LA (ag (tp (iM 4) 0) 9)),gi (tp (iM 4) 0) 10,gi (tp (iM 4) 0) 11]) (bJ (a5 (iM 8)) 56 [iv t,iv r,iv sq,sl A n c,iv kd,iv nt,iv nr,iv pt,iv pr,.string ky,iv pp,iv vv]) kr (by rw [e_t,e_r,Z_,e_A,e_n,e_c,Z',_a,_b,_c,_d,_e,_g,_h])<|dB 9 (a5 (iM 8)) 56 [iv t,iv r,iv sq,sl A n c,iv kd,iv nt,iv nr,iv pt,iv pr,.string ky,iv pp,iv vv]<|aC 6 (iv e) (iv (dH (tp (iM 4) 1))) (by rw [e_e])<|aC 17 (.bool (decide (e=0))) (.bool (decide ((dH (tp (iM 4) 1))=0))) (by rw [e_e])<|aC 18 (.bool (decide (e=0))) (.bool (decide ((dH (tp (iM 4) 1))=0))) (by rw [e_e])<|bn (φ:=Dv d q_ t r sq A n c kd nt nr pt pr ky pp vv e) 8 ?_
 rintro _ (⟨hn,_i,pG,Xl,hw,rfl⟩|⟨he,hw,rfl⟩)
 ·refine aD 9 (bJ (a5 (iM 8)) 56 [iv t,iv r,iv sq,sl A n c,iv kd,iv nt,iv nr,iv pt,iv pr,.string ky,iv pp,iv vv]) (bJ (a5 (iM 8)) 56 [iv t,iv r,iv sq,sl A d.hv.length c,iv kd,iv nt,iv nr,iv pt,iv pr,.string ky,iv pp,iv vv]) kr (by rw [hn])<|dB 11 (a5 (iM 8)) 56 [iv t,iv r,iv sq,sl A d.hv.length c,iv kd,iv nt,iv nr,iv pt,iv pr,.string ky,iv pp,iv vv]<|aG 18 (e=0) (fun Ue=>?_) (fun Ue=>?_)
  ·refine aC 6 (iv 0) (iv e) (by rw [Ue])<|ae 1 [11] fun _=>ah (wJ (⟨⟨⟨t,r⟩,sq,d.hv,kd,⟨nt,nr⟩,⟨pt,pr⟩,ky,pp,vv⟩,A,c⟩:aT)) [] (fun w h=>⟨by have:=h0.2.2;show d.hv.length≤_;omega,h.bg 10 A c d.hv kr⟩) ?_
   rintro _ _ ⟨rfl,rfl⟩
   refine aa 3 fun _=>cU (bV (⟨⟨⟨t,r⟩,sq,d.hv,kd,⟨nt,nr⟩,⟨pt,pr⟩,ky,pp,vv⟩,A,c⟩:aT).o) (fun Pr=>?_) (fun Pr=>?_)
   ·refine ae 44 [12,12,4] fun asz=>aJ (pT g d) [1,2] Zb (⟨a,rfl⟩)<|bk [4] [13] (.inr ⟨1,kr,by decide,fun k=>absurd (U3 h0 _i pG Xl k (hw k)) Pr,kr⟩)
   ·refine aa 8 fun _=>aO [(5,_)] [1,11] ⟨aY (fun vs=>Z9 a.An a.cn a.Am a.cm a.Al a.cl (⟨⟨⟨t,r⟩,sq,d.hv,kd,⟨nt,nr⟩,⟨pt,pr⟩,ky,pp,vv⟩,A,c⟩:aT) (dJ d.ops) (fY d.ops) (by omega)) [] (fun vs=>iv (dH (vs 5))) [fun vs=>.k (aM.fact ((dH (vs 5))=0∨ ¬ ((⟨⟨⟨t,r⟩,sq,d.hv,kd,⟨nt,nr⟩,⟨pt,pr⟩,ky,pp,vv⟩,A,c⟩:aT).o.kind=1∧(⟨⟨⟨t,r⟩,sq,d.hv,kd,⟨nt,nr⟩,⟨pt,pr⟩,ky,pp,vv⟩,A,c⟩:aT).o.par=⟨0,0⟩∧ai (dJ d.ops) []= [])))] (fun vs w h=>⟨(h.Ns (v:=⟨d,a⟩) 2 kr hf).tr,(h.Ns (v:=⟨d,a⟩) 2 kr hf).lk⟩) Zg,trivial⟩ fun tf=>aa 6 fun _=>dN (φ:=((dH (tf 5))=0∨ ¬ ((⟨⟨⟨t,r⟩,sq,d.hv,kd,⟨nt,nr⟩,⟨pt,pr⟩,ky,pp,vv⟩,A,c⟩:aT).o.kind=1∧(⟨⟨⟨t,r⟩,sq,d.hv,kd,⟨nt,nr⟩,⟨pt,pr⟩,ky,pp,vv⟩,A,c⟩:aT).o.par=⟨0,0⟩∧ai (dJ d.ops) []= []))) (fun w h=>h.fa 12 kr) fun l8=>?_
    obtain ⟨e2,U4⟩: ∃x_,x_=dH (tf 5):=⟨_,rfl⟩
    rw [← U4] at l8
    refine aC 6 (iv e2) (iv (dH (tf 5))) (by rw [U4])<|aC 32 (.bool (decide (e2=0))) (.bool (decide ((dH (tf 5))=0))) (by rw [U4])<|aq (e2=0) (fun O3=>?_) (fun O3=>?_)
    ·refine aC 6 (iv 0) (iv e2) (by rw [O3])<|ae 3 [11] fun _=>aJ (pT g d) [1,2] Zb (⟨a,rfl⟩)<|ah (Fi g (⟨⟨⟨t,r⟩,sq,d.hv,kd,⟨nt,nr⟩,⟨pt,pr⟩,ky,pp,vv⟩,A,c⟩:aT) d hf (⟨Pr,rfl⟩) hh hr) [13,10] cJ ?_
     rintro _ _ (⟨v41,U5,_j,rfl,f44,rfl⟩|⟨rfl,f45,rfl⟩)
     ·refine ae 20 [15,3] fun TY=>aq (q_.kind=1) (fun h47=>?_) (fun h47=>?_)
      ·refine ae 11 [11,15,15,4] fun _=>bk [4] [14] (.inl ⟨⟨⟨t,r⟩,sq,d.hv,kd,⟨nt,nr⟩,⟨pt,pr⟩,ky,pp,vv⟩,v41,U5,_j,nt,nr,kr,⟨Pr,by rw [_i,pG],Xl,rfl⟩,f44,kr⟩)
      ·refine ae 6 [15,4] fun _=>bk [4] [14] (.inl ⟨⟨⟨t,r⟩,sq,d.hv,kd,⟨nt,nr⟩,⟨pt,pr⟩,ky,pp,vv⟩,v41,U5,_j,0,0,kr,⟨Pr,by rw [_i,pG],Xl,rfl⟩,f44,kr⟩)
     ·exact (show False from f45 (xg (q:=q_) ⟨Pr,by rw [_i,pG],Xl,rfl⟩)).elim
    ·refine ae 13 [13] fun asB=>aC 39 (.bool false) (.bool (decide (e2=0))) (dP (decide_eq_false O3))<|ae 13 [13,4] fun _=>aJ (pT g d) [1,2] Zb (⟨a,rfl⟩)<|bk [4] [14] (.inr ⟨e2,kr,O3,fun k=>(l8.resolve_left O3) ⟨(hw k).2.1,by rw [(hw k).2.2.2.2.1,(hw k).2.2.2.2.2.1],qt k⟩,kr⟩)
  ·refine aa 12 fun _=>aC 24 (.bool false) (.bool (decide (e=0))) qnl<|aa 8 fun _=>aC 32 (.bool false) (.bool (decide (e=0))) qnl<|ae 15 [12] fun asC=>aC 39 (.bool false) (.bool (decide (e=0))) qnl<|ae 13 [12,4] fun _=>aJ (pT g d) [1,2] Zb (⟨a,rfl⟩)<|bk [4] [13] (.inr ⟨e,kr,Ue,fun k=>Ue (hw k).1,kr⟩)
 ·refine aC 17 (.bool false) (.bool (decide (e=0))) Y'<|aC 18 (.bool false) (.bool (decide (e=0))) Y'<|aa 12 fun _=>aC 24 (.bool false) (.bool (decide (e=0))) Y'<|aa 8 fun _=>aC 32 (.bool false) (.bool (decide (e=0))) Y'<|ae 15 [10] fun asD=>aC 39 (.bool false) (.bool (decide (e=0))) Y'<|ae 13 [10,4] fun _=>aJ (pT g d) [1,2] Zb (⟨a,rfl⟩)<|bk [4] [11] (.inr ⟨e,kr,he,hw,kr⟩)

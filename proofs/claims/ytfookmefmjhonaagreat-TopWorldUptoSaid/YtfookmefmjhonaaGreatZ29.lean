/- For the law of worlds: Sorting; What lies in memory; What functions do. -/
import Derived.Test.YtfookmefmjhonaaGreatZ28
set_option linter.all false
namespace Go.Proofs.YtfookmefmjhonaaGreat.My
open Go.RowKit Go.bE
def jg (x:Nat):Nat:=if x=0 then 0 else x.log2+1
def Qs:ByteArray:=⟨((List.range 256).map fun x=>UInt8.ofNat (jg x)).toArray⟩
def jO {x:Nat} (h:x<256):jg x≤8:=by
 unfold jg
 split
 ·omega
 ·have:=(Nat.log2_lt (n:=x) (k:=8) (by omega)).2 h;omega
def Ph {x:Int} (h:0≤x∧x<256):Qs[x.toNat]? =some (UInt8.ofNat (jg x.toNat)):=by
 show (((List.range 256).map fun x=>UInt8.ofNat (jg x)).toArray)[x.toNat]? =_
 rw [List.getElem?_toArray,fk,List.getElem?_range (by omega)];rfl
def uY {x:Int} (h:0≤x∧x<256):((UInt8.ofNat (jg x.toNat)).toNat:Int)=(jg x.toNat:Int):=by
 have:=jO (x:=x.toNat) (by omega)
 rw [UInt8.toNat_ofNat'];omega
def uZ {x:Nat} (h:1≤x):2^jg x≤2*x∧1≤jg x:=by
 unfold jg
 rw [if_neg (by omega),Nat.pow_succ]
 have:=Nat.log2_self_le (n:=x) (by omega)
 omega
def Mb {x k:Nat} (h:256≤x) (hk:2^k≤2*(x/256)):2^(8+k)≤2*x:=by
 rw [Nat.pow_add]
 have:(2:Nat)^8=256:=rfl
 rw [this];omega
def D1 {x k:Nat} (h:65536≤x) (hk:2^k≤2*(x/65536)):2^(16+k)≤2*x:=by
 rw [Nat.pow_add]
 have:(2:Nat)^16=65536:=rfl
 rw [this];omega
def D2 {x:Int}:Int.fdiv x (2^16)=x/65536:=by rw [Int.fdiv_eq_ediv_of_nonneg _ (by decide)];rfl
def KI {x:Int} (h:0≤x∧x<256):IntKind.u8.wrap x=x:=by rw [wrap_u8];omega
def rF {x:Int} (h:0≤x∧x<18446744073709551616):IntKind.u64.wrap x=x:=by rw [mq];omega
def Mc {x:Int}:Int.fdiv x (2^8)=x/256:=by rw [Int.fdiv_eq_ediv_of_nonneg _ (by decide)];rfl
def u6 (x y:Int):Int:=IntKind.u64.wrap (BitVec.ofInt 64 x^^^BitVec.ofInt 64 y).toNat
def qY (x y:Int):Int:=IntKind.u64.wrap (BitVec.ofInt 64 x&&&BitVec.ofInt 64 y).toNat
def Md {x m:Int} (h:0≤m∧m<9223372036854775808):0≤qY x m∧qY x m≤m:=by
 have h1:(BitVec.ofInt 64 x&&&BitVec.ofInt 64 m).toNat≤(BitVec.ofInt 64 m).toNat:=by rw [BitVec.toNat_and];exact Nat.and_le_right
 have h2:(BitVec.ofInt 64 m).toNat=m.toNat:=by rw [BitVec.toNat_ofInt];omega
 unfold qY
 rw [mq]
 omega
def Qt {k:Nat} (h:k≤24):IntKind.u64.wrap (1*2^min (k:Int).toNat 64)=((2^k:Nat):Int):=by
 have h1:2^k≤2^24:=Nat.pow_le_pow_right (by decide) h
 rw [Int.toNat_natCast,fD (by omega),Int.one_mul,mq]
 have h2:(2:Int)^k=((2^k:Nat):Int):=by rw [Int.natCast_pow];rfl
 rw [h2]
 have h3:(2:Nat)^24=16777216:=rfl
 rw [h3] at h1
 generalize (2:Nat)^k=p at h1⊢
 omega
def rU {x d:Int} (h:0≤x∧x≤4611686018427387904) (hd:1≤d):0≤x/d∧x/d≤x:=⟨Int.ediv_nonneg h.1 (by omega),Int.ediv_le_self _ h.1⟩
def H5 (x:Int) (hx:0≤x∧x<16777216):Ct Cp 286 #[.int .u64 x] (fun _=>True) [] (fun v Cs=> ∃(k:Nat),v=iv k∧((1≤x→2^k≤2*x.toNat)∧k≤24)∧Cs= []):=by
 refine cc Tryz.func286 fun w0 hp=>aa 10 fun _=>aq (x≥4294967296) (fun h1=>?_) (fun h1=>?_)
 ·exact kp
 ·refine aa 7 fun _=>aq (x≥65536) (fun h2=>?_) (fun h2=>?_)
  ·refine aa 4 fun _=>aC 10 (.int .u64 (x/65536)) (.int .u64 (Int.fdiv x (2^16))) (congrArg (Value.int .u64) D2)<|aa 13 fun _=>aq ((x/65536)≥256) (fun h3=>?_) (fun h3=>?_)
   ·exact kp
   ·refine aa 6 fun _=>aC 21 (.int .u8 (x/65536)) (.int .u8 (IntKind.u8.wrap (x/65536))) qjg<|uk Qs (x/65536) (UInt8.ofNat (jg (x/65536).toNat)) qp2<|aa 1 fun _=>aC 23 (iv (jg (x/65536).toNat:Int)) (iv (IntKind.i64.wrap ((UInt8.ofNat (jg (x/65536).toNat)).toNat:Int))) (iT (by have h7:=jO (x:=(x/65536).toNat) (by omega);have h8:=uY (x:=(x/65536)) (by omega);rw [h8];exact wrap_i64 (by omega)))<|aa 1 fun _=>ao (e:=by have h7:=jO (x:=(x/65536).toNat) (by omega);omega) 24 (16+(jg (x/65536).toNat:Int))<|aa 2 fun _=>a_ [] ⟨16+jg (x/65536).toNat,kt (iv (16+(jg (x/65536).toNat:Int))) qkm,by have h7:=uZ (x:=(x/65536).toNat) (by omega);have h8:=D1 (x:=x.toNat) (k:=jg (x/65536).toNat) (by omega) (by rw [show x.toNat/65536=(x/65536).toNat by omega];exact h7.1);exact ⟨fun _=>h8,by have:=jO (x:=(x/65536).toNat) (by omega);omega⟩,kr⟩
  ·refine aa 7 fun _=>aq (x≥256) (fun h4=>?_) (fun h4=>?_)
   ·refine aa 4 fun _=>aC 16 (.int .u64 (x/256)) (.int .u64 (Int.fdiv x (2^8))) (congrArg (Value.int .u64) Mc)<|aa 12 fun _=>aC 21 (.int .u8 (x/256)) (.int .u8 (IntKind.u8.wrap (x/256))) qjg<|uk Qs (x/256) (UInt8.ofNat (jg (x/256).toNat)) qp2<|aa 1 fun _=>aC 23 (iv (jg (x/256).toNat:Int)) (iv (IntKind.i64.wrap ((UInt8.ofNat (jg (x/256).toNat)).toNat:Int))) (iT (by have h7:=jO (x:=(x/256).toNat) (by omega);have h8:=uY (x:=(x/256)) (by omega);rw [h8];exact wrap_i64 (by omega)))<|aa 1 fun _=>ao (e:=by have h7:=jO (x:=(x/256).toNat) (by omega);omega) 24 (8+(jg (x/256).toNat:Int))<|aa 2 fun _=>a_ [] ⟨8+jg (x/256).toNat,kt (iv (8+(jg (x/256).toNat:Int))) qkm,by have h7:=uZ (x:=(x/256).toNat) (by omega);have h8:=Mb (x:=x.toNat) (k:=jg (x/256).toNat) (by omega) (by rw [show x.toNat/256=(x/256).toNat by omega];exact h7.1);exact ⟨fun _=>h8,by have:=jO (x:=(x/256).toNat) (by omega);omega⟩,kr⟩
   ·refine aa 6 fun _=>aC 21 (.int .u8 x) (.int .u8 (IntKind.u8.wrap x)) qjg<|uk Qs x (UInt8.ofNat (jg x.toNat)) qp2<|aa 1 fun _=>aC 23 (iv (jg x.toNat:Int)) (iv (IntKind.i64.wrap ((UInt8.ofNat (jg x.toNat)).toNat:Int))) (iT (by have h7:=jO (x:=x.toNat) (by omega);have h8:=uY (x:=x) (by omega);rw [h8];exact wrap_i64 (by omega)))<|aa 1 fun _=>ao (e:=by have h7:=jO (x:=x.toNat) (by omega);omega) 24 (0+(jg x.toNat:Int))<|aa 2 fun _=>a_ [] ⟨0+jg x.toNat,kt (iv (0+(jg x.toNat:Int))) qkm,by have:=jO (x:=x.toNat) (by omega);rw [Nat.zero_add];exact ⟨fun h9=>(uZ (x:=x.toNat) (by omega)).1,by omega⟩,kr⟩
def FG (x:Int) (hx:0≤x∧x<16777216):Ct Cp 261 #[.int .u64 x] (fun _=>True) [] (fun v Cs=> ∃(k:Nat),v=iv k∧((1≤x→2^k≤2*x.toNat)∧k≤24)∧Cs= []):=by
 refine cc Tryz.func261 fun w0 hp=>aa 10 fun _=>ah (H5 x (by omega)) [] cJ ?_
 rintro _ _ ⟨k1,rfl,f2,rfl⟩
 exact qqb
def Qu (x:Int) (hx:0≤x∧x<16777216):Ct Cp 306 #[iv x] (fun _=>True) [] (fun v Cs=> ∃(k:Nat),v=.int .u64 ((2^k:Nat):Int)∧((1≤x→2^k≤2*x.toNat)∧k≤24)∧Cs= []):=by
 refine cc Tryz.func306 fun w0 hp=>aa 8 fun _=>aC 4 (.int .u64 x) (.int .u64 (IntKind.u64.wrap x)) qn7<|ah (FG x (by omega)) [] cJ ?_
 rintro _ _ ⟨k1,rfl,f2,rfl⟩
 refine FU .shl .u64 1 (k1:Int) ((2^k1:Nat):Int) (by show 0≤(k1:Int);omega) (Qt (by omega))<|qqb
def VC (g:Nat) (u:Int):Ct Cp 307 #[pv g] (fun _=>True) [bJ g 406 [.int .u64 u]] (fun v Cs=> ∃(q:Int),v=.int .u64 q∧Cs= [bJ g 406 [.int .u64 q]]):=by
 refine Fz [.b g 406 [.int .u64 u]] Tryz.func307 fun U w0 hp=>aa 5 fun _=>aO [] [0,0,0] trivial fun v1=>aa 1 fun _=>aO [] [1,1,1] trivial fun v2=>aa 1 fun _=>aO [] [2,2,2] trivial fun v3=>ae 7 [3] fun _=>a_ [3] ⟨u6 (u6 (u6 u (IntKind.u64.wrap (u*2^13))) (Int.fdiv (u6 u (IntKind.u64.wrap (u*2^13))) (2^7))) (IntKind.u64.wrap ((u6 (u6 u (IntKind.u64.wrap (u*2^13))) (Int.fdiv (u6 u (IntKind.u64.wrap (u*2^13))) (2^7)))*2^17)),kr,kr⟩
def VD (aL:OA) (aZ n:Nat) (ns:List Nd) (a b:Int) (hn:ns.length=n) (hl:n≤1000000) (wB:0≤a∧a+12<b∧b≤n) (hn6:n≤1000000):Ct Cp 279 #[sl aL n aZ,iv a,iv b,.func (.func 234) #[] #[]] (fun _=>True) [aP.row aL aZ ns] (fun v Cs=> ∃m,v=.tuple #[]∧m.Perm ns∧Cs= [aP.row aL aZ m]):=by
 refine Fz [.k (aP.row aL aZ ns)] Tryz.func279 fun U w0 hp=>aa 5 fun _=>ao 15 (b-a)<|aa 7 fun _=>aq ((b-a)≥8) (fun h1=>?_) (fun h1=>?_)
 ·refine ae 10 [1] fun ld=>ah (Qu (b-a) (by omega)) [] cJ ?_
  rintro _ _ ⟨k3,rfl,f4,rfl⟩
  have h2k:=f4.1 (by omega)
  have h2p:0<2^k3:=Nat.pow_pos (by decide)
  refine aa 7 fun _=>aC 24 (iv ((b-a)/4)) (iv (IntKind.i64.wrap (Int.tdiv (b-a) 4))) Rp<|aa 1 fun _=>ao 25 (((b-a)/4)*2)<|aa 1 fun _=>ao 26 (a+(((b-a)/4)*2))<|aa 1 fun _=>ao 27 ((a+(((b-a)/4)*2))-1)<|aa 3 fun _=>aR (σ:=Int×Int×List Nd) (fun (i,u,m)=> [(0,sl aL n aZ),(1,iv a),(8,iv (b-a)),(9,pv (ld 4)),(10,.int .u64 ((2^k3:Nat):Int)),(11,iv i)]) (fun (i,u,m)=> [.b (ld 4) 406 [.int .u64 u],.k (aP.row aL aZ m)]) (fun (i,u,m)=>m.Perm ns∧a+(b-a)/4*2-1≤i) (fun (i,u,m)=>(a+(b-a)/4*2+2-i).toNat) ((a+(((b-a)/4)*2))-1,IntKind.u64.wrap (b-a),ns) [1,0] ⟨(List.Perm.refl _),by omega⟩ ?_
  rintro _ ⟨i,u,m⟩ ⟨jA,hi0⟩ aB
  have Ga:m.length=n:=by rw [jA.length_eq];omega
  refine aa 7 fun _=>aC 31 (iv ((b-a)/4)) (iv (IntKind.i64.wrap (Int.tdiv (b-a) 4))) Rp<|aa 1 fun _=>ao 32 (((b-a)/4)*2)<|aa 1 fun _=>ao 33 (a+(((b-a)/4)*2))<|aa 1 fun _=>ao 34 ((a+(((b-a)/4)*2))+1)<|aa 2 fun _=>aq (i≤((a+(((b-a)/4)*2))+1)) (fun h5=>?_) (fun h5=>?_)
  ·refine aa 5 fun _=>ah (VC (ld 4) u) [0] cJ ?_
   rintro _ _ ⟨q6,rfl,rfl⟩
   refine dB 2 (ld 4) 406 [.int .u64 q6]<|aa 2 fun _=>aC 40 (.int .u64 (((2^k3:Nat):Int)-1)) (.int .u64 (IntKind.u64.wrap (((2^k3:Nat):Int)-1))) qn7 ?_
   have han:=Md (x:=q6) (m:=((2^k3:Nat):Int)-1) (by omega)
   refine aa 2 fun _=>aC 42 (iv (qY q6 (((2^k3:Nat):Int)-1))) (iv (IntKind.i64.wrap (qY q6 (((2^k3:Nat):Int)-1)))) Yb<|aa 9 fun _=>dj (σ:=Int) (fun o1=> [(0,sl aL n aZ),(1,iv a),(8,iv (b-a)),(9,pv (ld 4)),(10,.int .u64 ((2^k3:Nat):Int)),(11,iv i),(12,iv o1)]) (fun o1=> [.k (aP.row aL aZ m),.b (ld 4) 406 [.int .u64 q6]]) (fun o1=>0≤o1∧o1<b-a) ?_ ?_
   ·rintro o1 ⟨ho0,ho1⟩
    refine Exists.elim (aw (xs:=m) (k:=(a+o1).toNat) dg) fun x7 e8=>Exists.elim (aw (xs:=m) (k:=i.toNat) dg) fun x9 ng=>Exists.elim (aw (xs:=m.set i.toNat x7) (k:=(a+o1).toNat) dg) fun fW wD=>aO [(5,_),(9,_),(10,_),(11,_),(14,_),(15,_),(16,_),(17,_),(18,_),(19,_)] [] ⟨fc (fun vs=>a+o1),fc (fun vs=>a+o1),br (fun vs=>aL) (fun vs=>n) (fun vs=>a+o1) 5 Wt,cZ 184 (fun vs=>((cz aL).add (((a+o1).toNat)*5)).add 0) (fun vs=>aP.V x7) (fun vs w h=>bN (K:=aP) (h.bg 0 aL aZ m kr) e8),qwe,cZ 184 (fun vs=>ad aL (i.toNat*5) 0) (fun vs=>aP.V x9) qni,qwe,cR aP 0 (fun vs=>aL) (fun vs=>aZ) (fun vs=>m) i.toNat 0 (fun vs=>x9) (fun vs=>x7) 184 (fun vs=>aP.V x7) (fun _=>ng),br (fun vs=>aL) (fun vs=>n) (fun vs=>a+o1) 5 (fun vs w h=>Kd.cd (K:=aP) (xs:=m.set i.toNat x7) (h.bg 1 aL aZ (m.set i.toNat x7) kr) dg),cR aP 2 (fun vs=>aL) (fun vs=>aZ) (fun vs=>m.set i.toNat x7) ((a+o1).toNat) 0 (fun vs=>fW) (fun vs=>x9) 184 (fun vs=>aP.V x9) (fun _=>wD),trivial⟩ fun mj=>aa 4 fun _=>ao 37 (i+1)<|aa 2 fun _=>aB _ (i+1,q6,(m.set i.toNat x7).set ((a+o1).toNat) x9) [1,3] kr ⟨((swap_perm ng e8).trans jA),by omega⟩ du
   ·intro _ gV
    refine aq ((qY q6 (((2^k3:Nat):Int)-1))≥(b-a)) (fun sU=>?_) (fun sU=>?_)
    ·refine aa 4 fun _=>ao 48 ((qY q6 (((2^k3:Nat):Int)-1))- (b-a))<|aa 2 fun _=>gV _ ((qY q6 (((2^k3:Nat):Int)-1))- (b-a)) [1,2] kr ⟨by omega,by omega⟩
    ·refine aa 1 fun _=>gV _ (qY q6 (((2^k3:Nat):Int)-1)) [1,2] kr ⟨by omega,by omega⟩
  ·refine aa 1 fun _=>a_ [1] ⟨m,kr,jA,kr⟩
 ·refine aa 1 fun _=>a_ [0] ⟨ns,kr,(List.Perm.refl _),kr⟩
def _O (k_:Nat) (ih: ∀(aL:OA) (aZ n:Nat) (ns:List Nd) (a b l0:Int) (hn:ns.length=n) (hl:n≤1000000) (wB:0≤a∧a≤b∧b≤n) (hn6:n≤1000000) (hl0:0≤l0∧l0≤1000000) (hd:(b-a).toNat<k_),Ct Cp 260 #[sl aL n aZ,iv a,iv b,iv l0,.func (.func 234) #[] #[]] (fun _=>True) [aP.row aL aZ ns] (fun v Cs=> ∃m,v=.tuple #[]∧m.Perm ns∧Cs= [aP.row aL aZ m])) (aL:OA) (aZ n:Nat) (ns:List Nd) (a b l0:Int) (hn:ns.length=n) (hl:n≤1000000) (wB:0≤a∧a≤b∧b≤n) (hn6:n≤1000000) (hl0:0≤l0∧l0≤1000000) (hd:(b-a).toNat<(k_+1)):Ct Cp 260 #[sl aL n aZ,iv a,iv b,iv l0,.func (.func 234) #[] #[]] (fun _=>True) [aP.row aL aZ ns] (fun v Cs=> ∃m,v=.tuple #[]∧m.Perm ns∧Cs= [aP.row aL aZ m]):=by
 refine Fz [.k (aP.row aL aZ ns)] Tryz.func260 fun U w0 hp=>aa 9 fun _=>aR (σ:=Int×Int×Int×Bool×Bool×List Nd) (fun (i,j,l,p1,p2,m)=> [(0,sl aL n aZ),(1,iv i),(2,iv j),(3,iv l),(4,.func (.func 234) #[] #[]),(10,.bool p1),(11,.bool p2)]) (fun (i,j,l,p1,p2,m)=> [.k (aP.row aL aZ m)]) (fun (i,j,l,p1,p2,m)=>m.Perm ns∧a≤i∧i≤j∧j≤b∧0≤l∧l≤1000000) (fun (i,j,l,p1,p2,m)=>(j-i).toNat) (a,b,l0,true,true,ns) [0] ⟨(List.Perm.refl _),⟨by omega,by omega,by omega,by omega,by omega⟩⟩ ?_
 rintro _ ⟨i,j,l,p1,p2,m⟩ ⟨jA,⟨hq,hr,hs,ht,hu⟩⟩ aB
 have Ga:m.length=n:=by rw [jA.length_eq];omega
 refine aa 6 fun _=>ao 23 (j-i)<|aa 8 fun _=>aq ((j-i)≤12) (fun h1=>?_) (fun h1=>?_)
 ·refine aa 6 fun _=>ah (Od aL aZ n m i j dg (by omega) (by omega)) [0] cJ ?_
  rintro _ _ ⟨m2,rfl,f3,rfl⟩
  have Jp:m2.length=n:=by rw [f3.length_eq];first|omega|(simp only [cX];omega)
  refine aa 1 fun _=>a_ [1] ⟨m2,kr,(f3.trans jA),kr⟩
 ·refine aa 7 fun _=>aq (l=0) (fun h4=>?_) (fun h4=>?_)
  ·refine aa 6 fun _=>ah (X1 aL aZ n m i j dg (by omega) (by omega)) [0] cJ ?_
   rintro _ _ ⟨m5,rfl,f6,rfl⟩
   have Oj:m5.length=n:=by rw [f6.length_eq];first|omega|(simp only [cX];omega)
   refine aa 1 fun _=>a_ [1] ⟨m5,kr,(f6.trans jA),kr⟩
  ·refine aa 7 fun _=>dj (σ:=Int×List Nd) (fun (l1,y1)=> [(0,sl aL n aZ),(1,iv i),(2,iv j),(3,iv l1),(4,.func (.func 234) #[] #[]),(10,.bool p1),(11,.bool p2),(12,iv (j-i))]) (fun (l1,y1)=> [.k (aP.row aL aZ y1)]) (fun (l1,y1)=>y1.Perm ns∧0≤l1∧l1≤1000000) ?_ ?_
   ·rintro ⟨l1,y1⟩ ⟨VE,⟨asY,asZ⟩⟩
    have as0:y1.length=n:=by rw [VE.length_eq];omega
    refine aa 6 fun _=>ah (VF aL aZ n y1 i j dg (by omega) (by omega)) [0] cJ ?_
    rintro _ _ ⟨x7,h8,rfl,f9,rfl⟩
    refine aa 12 fun _=>dj (σ:=Int×Int×List Nd) (fun (p,h,y2)=> [(0,sl aL n aZ),(1,iv i),(2,iv j),(3,iv l1),(4,.func (.func 234) #[] #[]),(10,.bool p1),(11,.bool p2),(12,iv (j-i)),(13,iv p),(14,iv h)]) (fun (p,h,y2)=> [.k (aP.row aL aZ y2)]) (fun (p,h,y2)=>y2.Perm ns∧i≤p∧p<j) ?_ ?_
    ·rintro ⟨p,h,y2⟩ ⟨Qv,⟨Nx,hp1⟩⟩
     have as1:y2.length=n:=by rw [Qv.length_eq];omega
     refine aa 2 fun _=>dj (σ:=Bool) (fun _P=> [(0,sl aL n aZ),(1,iv i),(2,iv j),(3,iv l1),(4,.func (.func 234) #[] #[]),(10,.bool p1),(11,.bool p2),(12,iv (j-i)),(13,iv p),(75,.bool _P)]) (fun _P=> [.k (aP.row aL aZ y2)]) (fun _P=>True) ?_ ?_
     ·rintro _P _
      refine dj (σ:=List Nd) (fun y4=> [(0,sl aL n aZ),(1,iv i),(2,iv j),(3,iv l1),(4,.func (.func 234) #[] #[]),(10,.bool p1),(11,.bool p2),(12,iv (j-i)),(13,iv p)]) (fun y4=> [.k (aP.row aL aZ y4)]) (fun y4=>y4.Perm ns∧True) ?_ ?_
      ·rintro y4 ⟨Qw,_⟩
       have as2:y4.length=n:=by rw [Qw.length_eq];omega
       refine aa 2 fun _=>dj (σ:=Bool) (fun _Q=> [(0,sl aL n aZ),(1,iv i),(2,iv j),(3,iv l1),(4,.func (.func 234) #[] #[]),(10,.bool p1),(11,.bool p2),(12,iv (j-i)),(13,iv p),(97,.bool _Q)]) (fun _Q=> [.k (aP.row aL aZ y4)]) (fun _Q=>True) ?_ ?_
       ·rintro _Q _
        refine eQ _Q (fun iJ=>?_) (fun iJ=>?_)
        ·refine aa 7 fun _=>ah (Qx aL aZ n y4 i j p dg (by omega) (by omega) (by omega)) [0] cJ ?_
         rintro _ _ ⟨xP,kE,rfl,f13,f14,rfl⟩
         have Yl:xP.length=n:=by rw [f13.length_eq];first|omega|(simp only [cX];omega)
         refine aa 8 fun _=>aB _ (kE,j,l1,p1,p2,xP) [1] kr ⟨(f13.trans Qw),⟨by omega,by omega,by omega,by omega,by omega⟩⟩ du
        ·refine aa 8 fun _=>ah (_R aL aZ n y4 i j p dg (by omega) (by omega) (by omega)) [0] cJ ?_
         rintro _ _ ⟨m15,jD,t17,rfl,f18,f19,rfl⟩
         have ap_:m15.length=n:=by rw [f18.length_eq];first|omega|(simp only [cX];omega)
         refine aa 16 fun _=>ao 117 (jD-i)<|aa 3 fun _=>ao 120 (j-jD)<|aa 7 fun _=>aC 122 (iv ((j-i)/8)) (iv (IntKind.i64.wrap (Int.tdiv (j-i) 8))) Rp<|aa 8 fun _=>aq ((jD-i)<(j-jD)) (fun Qy=>?_) (fun Qy=>?_)
         ·refine aa 14 fun _=>ah (ih aL aZ n m15 i jD l1 dg (by omega) (by omega) (by omega) (by omega) (by omega)) [1] cJ ?_
          rintro _ _ ⟨m21,rfl,f22,rfl⟩
          have aqa:m21.length=n:=by rw [f22.length_eq];first|omega|(simp only [cX];omega)
          refine aa 4 fun _=>ao 136 (jD+1)<|aa 3 fun _=>aB _ (jD+1,j,l1,decide ((jD-i)≥((j-i)/8)),t17,m21) [2] kr ⟨(f22.trans (f18.trans Qw)),⟨by omega,by omega,by omega,by omega,by omega⟩⟩ du
         ·refine aa 12 fun _=>ao 142 (jD+1)<|aa 3 fun _=>ah (ih aL aZ n m15 (jD+1) j l1 dg (by omega) (by omega) (by omega) (by omega) (by omega)) [1] cJ ?_
          rintro _ _ ⟨m23,rfl,f24,rfl⟩
          have aqc:m23.length=n:=by rw [f24.length_eq];first|omega|(simp only [cX];omega)
          refine aa 6 fun _=>aB _ (i,jD,l1,decide ((j-jD)≥((j-i)/8)),t17,m23) [2] kr ⟨(f24.trans (f18.trans Qw)),⟨by omega,by omega,by omega,by omega,by omega⟩⟩ du
       ·intro _ Sy
        refine (bK (decide (i>0))).elim (fun b26=>?_) (fun b26=>?_)
        ·have vG:=cg b26
         refine Exists.elim (aw (xs:=y4) (k:=(i-1).toNat) dg) fun x27 e28=>Exists.elim (aw (xs:=y4) (k:=p.toNat) dg) fun Xq e30=>aK [(1,.bool true),(6,_),(7,_),(8,aP.V x27),(11,_),(12,aP.V Xq),(13,iv (iB x27 Xq))] [] ⟨qp7,fM (i-1),bF aL n (i-1) 5 quz,cB 184 (((cz aL).add (((i-1).toNat)*5)).add 0) (fun w h=>bN (K:=aP) (h.bg 0 aL aZ y4 kr) e28),bF aL n p 5 quz,cB 184 (ad aL (p.toNat*5) 0) (fun w h=>bN (K:=aP) (h.bg 0 aL aZ y4 kr) e30),bT (kj x27 Xq) jU,trivial⟩<|Sy _ (!decide ((iB x27 Xq)<0)) [0] kr trivial
        ·have vG:=de b26
         refine aK [(1,.bool false)] [] ⟨qp7,trivial⟩<|Sy _ false [0] kr trivial
      ·intro _ nI
       refine eQ _P (fun Yd=>?_) (fun Yd=>?_)
       ·refine aa 6 fun _=>ah (Me aL aZ n y2 i j dg (by omega) (by omega)) [0] cJ ?_
        rintro _ _ ⟨m32,t33,rfl,f34,rfl⟩
        have aqd:m32.length=n:=by rw [f34.length_eq];first|omega|(simp only [cX];omega)
        refine aa 1 fun _=>eQ t33 (fun h35=>?_) (fun h35=>?_)
        ·exact a_ [1] ⟨m32,kr,(f34.trans Qv),kr⟩
        ·refine aa 1 fun _=>nI _ m32 [1] kr ⟨(f34.trans Qv),trivial⟩
       ·refine aa 1 fun _=>nI _ y2 [0] kr ⟨Qv,trivial⟩
     ·intro _ kK
      refine aa 3 fun _=>eg 69 p1 (fun Ye=>?_) (fun Ye=>?_)
      ·refine aa 3 fun _=>eg 72 p2 (fun C4=>?_) (fun C4=>?_)
       ·refine aa 4 fun _=>kK _ (decide (h=1)) [0] kr trivial
       ·refine aa 4 fun _=>qsi
      ·refine aa 7 fun _=>qsi
    ·intro _ im
     refine aq (h8=2) (fun UD=>?_) (fun UD=>?_)
     ·refine aa 6 fun _=>ah (Jk aL aZ n y1 i j dg (by omega) (by omega)) [1] cJ ?_
      rintro _ _ ⟨m39,rfl,f40,rfl⟩
      have aqf:m39.length=n:=by rw [f40.length_eq];first|omega|(simp only [cX];omega)
      refine aa 5 fun _=>ao 63 (j-1)<|aa 3 fun _=>ao 66 (x7-i)<|aa 1 fun _=>ao 67 ((j-1)- (x7-i))<|aa 5 fun _=>im _ ((j-1)- (x7-i),1,m39) [2] kr ⟨(f40.trans VE),⟨by omega,by omega⟩⟩
     ·refine aa 1 fun _=>im _ (x7,h8,y1) [1] kr ⟨VE,⟨by omega,by omega⟩⟩
   ·intro _ gV
    refine eQ (!p1) (fun Ry=>?_) (fun Ry=>?_)
    ·refine aa 6 fun _=>ah (VD aL aZ n m i j dg (by omega) (by omega) (by omega)) [0] cJ ?_
     rintro _ _ ⟨Yi,rfl,f43,rfl⟩
     have Yj:Yi.length=n:=by rw [f43.length_eq];first|omega|(simp only [cX];omega)
     refine aa 4 fun _=>ao 46 (l-1)<|aa 2 fun _=>gV _ (l-1,Yi) [1] kr ⟨(f43.trans jA),⟨by omega,by omega⟩⟩
    ·refine aa 1 fun _=>gV _ (l,m) [0] kr ⟨jA,⟨by omega,by omega⟩⟩
def ahg: ∀(k_:Nat) (aL:OA) (aZ n:Nat) (ns:List Nd) (a b l0:Int) (hn:ns.length=n) (hl:n≤1000000) (wB:0≤a∧a≤b∧b≤n) (hn6:n≤1000000) (hl0:0≤l0∧l0≤1000000) (hd:(b-a).toNat<k_),Ct Cp 260 #[sl aL n aZ,iv a,iv b,iv l0,.func (.func 234) #[] #[]] (fun _=>True) [aP.row aL aZ ns] (fun v Cs=> ∃m,v=.tuple #[]∧m.Perm ns∧Cs= [aP.row aL aZ m]):=by
 intro k_
 induction k_ with
 |zero=>intros;omega
 |succ k_ ih=>exact _O k_ ih
def HW (A:OA) (c:Nat) (xs:List Nd) (hb:xs.length≤1000000):Ct Tryz.prog 233 #[.slice A xs.length c,.func (.func 234) #[] #[]] (fun _=>True) [aP.row A c xs] (fun v Cs=> ∃(ys:List Nd),v=.tuple #[]∧ys.Perm xs∧Cs= [aP.row A c ys]):=by
 refine Fz [.k (aP.row A c xs)] Tryz.func233 fun U w0 hp=>?_
 refine aa 11 fun _=>?_
 refine aC 10 (.int .u64 (xs.length:Int)) (.int .u64 (IntKind.u64.wrap (xs.length:Int))) (congrArg (Value.int .u64) (rF (by omega))) ?_
 refine ah (FG (xs.length:Int) (by omega)) [] (fun w h=>trivial) ?_
 rintro _ _ ⟨k1,rfl,f2,rfl⟩
 refine aa 1 fun _=>?_
 refine ah (ahg (xs.length+1) A c xs.length xs 0 (xs.length:Int) (k1:Int) rfl (by omega) (by omega) (by omega) (by omega) (by omega)) [0] (fun w h=>trivial) ?_
 rintro _ _ ⟨m3,rfl,f4,rfl⟩
 refine aa 1 fun _=>?_
 exact a_ [1] ⟨m3,kr,f4,kr⟩
def mB (ns:List Nd) (y:cN):List Nd:=ns.filter fun n=>cS n.par y
def L5 {ns:List Nd} {x:Nd} {y:cN} (h:x.par=y):mB (ns++ [x]) y=mB ns y++ [x]:=by simp [mB,List.filter_append,(gn x.par y).mpr h]
def Qb {ns:List Nd} {x:Nd} {y:cN} (h: ¬x.par=y):mB (ns++ [x]) y=mB ns y:=by simp [mB,List.filter_append,(jW x.par y).mpr h]
def BV {ns ys:List Nd} {y:cN} {k:Nat} (h:mB (ns.take k) y=ys):ys.length≤k:=by
 rw [← h]
 exact eF (List.length_filter_le _ _) C7
def qU {ns ks:List Nd} {y:cN} (h:ks.Perm (mB ns y)):(∀n∈ks,n∈ns∧n.par=y)∧ks.length≤ns.length:=by
 refine ⟨fun n hn=>?_,by rw [h.length_eq];exact List.length_filter_le _ _⟩
 have:=List.mem_filter.1 (h.mem_iff.1 hn)
 exact ⟨this.1,(gn _ _).mp this.2⟩
def uO (An:OA) (cn:Nat) (Am:OA) (cm:Nat) (y:cN) (l:List bz) (hb:(ai l []).length≤1000000):Ct Cp 194 #[.agg #[sl An ((ai l []).length) cn,sl Am l.length cm],bZ.V y] (fun w=>sL An Am l w) [] (fun v Cs=> ∃A c ks,v=sl A ks.length c∧ks.Perm (mB (ai l []) y)∧Cs= [aP.row A c ks]):=by
 refine cc Tryz.func194 fun w0 hp=>?_
 obtain ⟨ms,mO,Bg,G3⟩:=id hp
 refine ae 15 [0] fun a8=>bG aP<|aR (σ:=Nat×OA×Nat×List Nd) (fun (k,B,d,ys)=> [(3,pv (a8 3)),(4,sl B ys.length d),(8,sl An ((ai l []).length) cn),(9,iv ((ai l []).length:Int)),(10,iv k)]) (fun (k,B,d,ys)=> [.b (a8 2) 49 [sl An ((ai l []).length) cn,sl Am l.length cm],.b (a8 3) 29 [iv y.t,iv y.r],.k (aP.row B d ys)]) (fun (k,B,d,ys)=>k≤(ai l []).length∧mB ((ai l []).take k) y=ys) (fun (k,B,d,ys)=>(ai l []).length-k) (0,none,0,[]) [0,1,2] ⟨by omega,rfl⟩ ?_
 rintro _ ⟨k,B,d,ys⟩ ⟨hk,hy⟩ aB
 refine aa 5 fun _=>aq ((k:Int)<((ai l []).length:Int)) (fun h2=>?_) (fun h2=>?_)
 ·refine aa 5 fun _=>aV An ((ai l []).length) (k:Int) 5 qla ?_
  obtain ⟨x3,e4⟩:=aw (xs:=ai l []) (k:=k) (by omega)
  refine bd 184 (ad An (k*5) 0) (aP.V x3) qpj<|ae 10 [3,3,1] fun jn=>Bj x3.par y kr (fun h6=>?_) (fun h6=>?_)
  ·refine ae 4 [3] fun AA=>bQ aP 2 B d ys (so (AA 3)) 1 1 [x3] (fun w h=>h.eT 4 (AA 3) 184 (List.flatMap aP.f [x3]) kr) (by have:=BV hy;omega) fun A8 c9=>aa 5 fun _=>ao 22 ((k:Int)+1)<|aa 2 fun _=>aB _ (k+1,A8,c9,ys++ [x3]) [0,1,2] kr ⟨by omega,by rw [List.take_add_one,e4,Option.toList_some,L5 h6,hy]⟩ du
  ·refine aa 4 fun _=>ao 22 ((k:Int)+1)<|aa 2 fun _=>aB _ (k+1,B,d,ys) [0,1,2] kr ⟨by omega,by rw [List.take_add_one,e4,Option.toList_some,Qb h6,hy]⟩ du
 ·refine aa 4 fun _=>ah (HW B d ys (by have:=BV hy;omega)) [2] cJ ?_
  rintro _ _ ⟨p7,rfl,f11,rfl⟩
  refine aC 4 (sl B p7.length d) (sl B ys.length d) (by rw [(f11).length_eq])<|aC 23 (sl B p7.length d) (sl B ys.length d) (by rw [(f11).length_eq])<|aa 6 fun _=>a_ [3] ⟨B,d,p7,kr,by rw [cA (by omega)] at hy;rw [hy];exact f11,kr⟩
def Ii {l:List bz} {n:Nd} (h:n∈ai l []):(dy (ai l []) n.id).length=(dy (ai l []) n.par).length+1:=by rw [tM (eZ l) (oy (dX l) h)];rfl
def od:List Nat→Nat
 | []=>0
 |x::l=>max (od l) x
def Ij {a b:List Nat} (h:a.Perm b):od a=od b:=by
 induction h with
 |nil=>rfl
 |cons x _ ih=>simp only [od,ih]
 |swap x y l=>simp only [od];omega
 |trans _ _ h1 h2=>exact h1.trans h2
def M_ (a b:List Nat):od (a++b)=max (od a) (od b):=by
 induction a with
 |nil=>simp [od]
 |cons x a ih=>simp only [List.cons_append,od,ih];omega
def Q9 {a:List Nat} {m:Nat} (h: ∀x∈a,x≤m):od a≤m:=by
 induction a with
 |nil=>exact bh _
 |cons x a ih=>have h1:=ih fun y hy=>h y (bH _ hy);have h2:=h x cE;simp only [od];omega
def gz (ns:List Nd):Nat→cN→Nat
 |0,_=>0
 |m+1,y=>od ((mB ns y).map fun n=>gz ns m n.id)+1
def s_ (ns:List Nd): ∀m y,gz ns m y≤m
 |0,_=>bO _
 |m+1,y=>Nat.succ_le_succ (Q9 fun x hx=>by obtain ⟨n,_,rfl⟩:=List.mem_map.1 hx;exact s_ ns m n.id)
def Ik {ns ks:List Nd} {m k d:Nat} {x:Nd} (e:ks[k]? =some x) (hd:od ((ks.take k).map fun n=>gz ns m n.id)=d):od ((ks.take (k+1)).map fun n=>gz ns m n.id)=if d<gz ns m x.id then gz ns m x.id else d:=by
 rw [List.take_add_one,e,Option.toList_some,cT,M_,hd]
 show max d (max 0 (gz ns m x.id))=_
 split<;>omega
def Cg {ns ks:List Nd} {m k d:Nat} {y:cN} (h:ks.Perm (mB ns y)) (hk:ks.length≤k) (hd:od ((ks.take k).map fun n=>gz ns m n.id)=d):gz ns (m+1) y=d+1:=by
 rw [cA hk] at hd
 rw [← hd,gz,Ij (h.map _)]
def El (m:Nat) (ih: ∀(An:OA) (cn:Nat) (Am:OA) (cm:Nat) (y:cN) (l:List bz) (hb:(ai l []).length≤1000000) (hm:(ai l []).length+1≤(dy (ai l []) y).length+m) (hx:m≤1000001),Ct Cp 201 #[.agg #[sl An ((ai l []).length) cn,sl Am l.length cm],bZ.V y] (fun w=>sL An Am l w) [] (fun v Cs=>v=iv (gz (ai l []) m y:Int)∧Cs= [])) (An:OA) (cn:Nat) (Am:OA) (cm:Nat) (y:cN) (l:List bz) (hb:(ai l []).length≤1000000) (hm:(ai l []).length+1≤(dy (ai l []) y).length+(m+1)) (hx:(m+1)≤1000001):Ct Cp 201 #[.agg #[sl An ((ai l []).length) cn,sl Am l.length cm],bZ.V y] (fun w=>sL An Am l w) [] (fun v Cs=>v=iv (gz (ai l []) (m+1) y:Int)∧Cs= []):=by
 refine cc Tryz.func201 fun w0 hp=>ae 15 [0,1] fun a8=>ah (uO An cn Am cm y l (by omega)) [] il ?_
 rintro _ _ ⟨A2,c3,IT,rfl,f5,rfl⟩
 have P_:=qU f5
 refine aa 4 fun _=>aR (σ:=Nat×Nat) (fun (k,d)=> [(2,pv (a8 2)),(4,iv 0),(5,iv d),(10,sl A2 IT.length c3),(11,iv (IT.length:Int)),(12,iv k)]) (fun (k,d)=> [.b (a8 2) 49 [sl An ((ai l []).length) cn,sl Am l.length cm],.k (aP.row A2 c3 IT)]) (fun (k,d)=>k≤IT.length∧od ((IT.take k).map fun n=>gz (ai l []) m n.id)=d) (fun (k,d)=>IT.length-k) (0,0) [0,2] ⟨by omega,rfl⟩ ?_
 rintro _ ⟨k,d⟩ ⟨hk,hy⟩ aB
 refine aa 5 fun _=>aq ((k:Int)<(IT.length:Int)) (fun h6=>?_) (fun h6=>?_)
 ·refine aa 5 fun _=>aV A2 IT.length (k:Int) 5 (fun w h=>Kd.cd (K:=aP) (xs:=IT) (h.bg 1 A2 c3 IT kr) (by omega)) ?_
  obtain ⟨x7,e8⟩:=aw (xs:=IT) (k:=k) (by omega)
  refine bd 184 (ad A2 (k*5) 0) (aP.V x7) (fun w h=>bN (K:=aP) (h.bg 1 A2 c3 IT kr) e8)<|ae 8 [2,0,2] fun EA=>?_
  have aaq:=P_.1 _ (aI e8)
  have FA:=Ii aaq.1
  rw [aaq.2] at FA
  refine ah (ih An cn Am cm x7.id l (by omega) (by rw [FA];omega) (by omega)) [] il ?_
  rintro _ _ ⟨rfl,rfl⟩
  refine aa 1 fun _=>aC 21 (iv ((if d<gz (ai l []) m x7.id then gz (ai l []) m x7.id else d:Nat):Int)) (iv (if (gz (ai l []) m x7.id:Int)>(d:Int) then (gz (ai l []) m x7.id:Int) else (d:Int))) (iT (by split<;>split<;>omega))<|aa 5 fun _=>ao (e:=by have h1:=P_.2;omega) 22 ((k:Int)+1)<|aa 2 fun _=>aB _ (k+1,if d<gz (ai l []) m x7.id then gz (ai l []) m x7.id else d) [0,1] kr ⟨by omega,Ik e8 hy⟩ du
 ·refine aa 5 fun _=>ao (e:=by have h1:=P_.2;have h2:=Cg f5 (k:=k) (by omega) hy;have h3:=s_ (ai l []) (m+1) y;omega) 24 ((d:Int)+1)<|aa 2 fun _=>a_ [] ⟨kt (iv ((d:Int)+1)) (by rw [Cg f5 (by omega) hy];rfl),kr⟩
def Hk: ∀(m:Nat) (An:OA) (cn:Nat) (Am:OA) (cm:Nat) (y:cN) (l:List bz) (hb:(ai l []).length≤1000000) (hm:(ai l []).length+1≤(dy (ai l []) y).length+m) (hx:m≤1000001),Ct Cp 201 #[.agg #[sl An ((ai l []).length) cn,sl Am l.length cm],bZ.V y] (fun w=>sL An Am l w) [] (fun v Cs=>v=iv (gz (ai l []) m y:Int)∧Cs= []):=by
 intro m
 induction m with
 |zero=>intro An cn Am cm y l hb hm;have:=kC (eZ l) y;omega
 |succ m ih=>exact El m ih
section
section
variable {l:List bz} {p:cN}
def KH {a:cN} {n:Nd} (h:dZ (ai l []) a=some n): ¬ (p=⟨0,0⟩∧ai l []= []):=fun k=>by rw [k.2] at h;simp [dZ] at h
def aaf (h: ¬fq (ai l []) p=true): ¬ (p=⟨0,0⟩∧ai l []= []):=fun k=>h (pD ((gn _ _).mpr k.1))
def SJ (h:p=⟨0,1⟩): ¬ (p=⟨0,0⟩∧ai l []= []):=fun k=>by rw [h] at k;exact absurd k.1 (by decide)
def SK {n:Nat} (h:n≤(ai l []).length) (h2:(n:Int)≥48): ¬ (p=⟨0,0⟩∧ai l []= []):=fun k=>by rw [k.2] at h;simp at h;omega
def SL {a b:cN} (h:((((dy (ai l []) a).map (·.par)).length:Int)+1)+(gz (ai l []) ((ai l []).length+1) b:Int)>13): ¬ (p=⟨0,0⟩∧ai l []= []):=fun k=>by
 have e0:=kC (eZ l) a
 have e2:=s_ (ai l []) ((ai l []).length+1) b
 rw [cM] at h
 have e3:(ai l []).length=0:=by rw [k.2];rfl
 omega
end
def D_ (An:OA) (cn:Nat) (Am:OA) (cm:Nat) (x:aT) (l:List bz) (hb:(ai l []).length≤1000000):Ct Cp 160 #[.agg #[sl An ((ai l []).length) cn,sl Am l.length cm],bx.V x] (fun w=>sL An Am l w) [] (fun v Cs=>(v=iv 0∧Cs= [])∨(∃(e:Int),v=iv e∧ ¬e=0∧ ¬ (x.o.par=⟨0,0⟩∧ai l []= [])∧Cs= [])):=by
 refine cc Tryz.func160 fun w0 hp=>ae 11 [0,1] fun a8=>ah (qv An cn Am cm x.o.node l (dX l) (by omega)) [] il ?_
 rintro _ _ (⟨nd4,rfl,f5,rfl⟩|⟨rfl,f6,rfl⟩)
 ·refine ae 12 [2,0,1] fun AA=>ah (kF An cn Am cm x.o.par l (dX l) (eZ l) (by omega)) [] il ?_
  rintro _ _ ⟨rfl,rfl⟩
  refine aa 5 fun _=>?_
  rcases bK (!(cS x.o.par (⟨0,1⟩:cN))) with b9|b9
  ·refine aK [(2,bZ.V ⟨0,1⟩),(3,.bool true)] [1] ⟨Tg,qmu,trivial⟩<|eQ (!(fq (ai l []) x.o.par)) (fun iJ=>?_) (fun iJ=>?_)
   ·refine aa 4 fun _=>a_ [] (.inr ⟨3,kr,by decide,KH f5,kr⟩)
   ·refine ae 7 [0,1] fun _=>ah (sg An cn Am cm x l (by omega)) [] il ?_
    rintro _ _ ⟨rfl,rfl⟩
    refine aa 1 fun _=>eg 34 (ic (ai l []) x.o.node x.o.par) (fun kx=>?_) (fun kx=>?_)
    ·refine aa 16 fun _=>qgw
    ·refine ae 3 [0,1] fun _=>ah (kF An cn Am cm x.o.node l (dX l) (eZ l) (by omega)) [] il ?_
     rintro _ _ ⟨rfl,rfl⟩
     refine aa 5 fun _=>eg 28 (!(fq (ai l []) x.o.node)) (fun xw=>?_) (fun xw=>?_)
     ·refine aa 7 fun _=>qgw
     ·refine aa 1 fun _=>aK [] [] trivial<|aa 14 fun _=>?_
      rcases bK (fq (ai l []) x.o.par) with b14|b14
      ·refine aO [(0,_),(5,_),(7,_),(11,_),(12,_)] [0,1,0,1] ⟨jS (fun vs=>.bool (fq (ai l []) x.o.par)) (fun vs=>.bool true) (fun _=>dP b14),qsz,qtn,qs4,qta,trivial⟩ fun ud=>aq ((((((dy (ai l []) x.o.par).map (·.par)).length:Int)+1)+(gz (ai l []) ((ai l []).length+1) x.o.node:Int))>13) (fun D5=>?_) (fun D5=>?_)
       ·exact qmi
       ·exact qvd
      ·refine aK [(0,.bool false)] [] ⟨dv (.bool (fq (ai l []) x.o.par)) (dP b14),trivial⟩<|qvc
  ·refine aK [(2,bZ.V ⟨0,1⟩),(3,.bool false)] [1] ⟨Tg,qmu,trivial⟩<|ae 8 [0,1] fun _=>ah (sg An cn Am cm x l (by omega)) [] il ?_
   rintro _ _ ⟨rfl,rfl⟩
   refine aa 1 fun _=>eg 34 (ic (ai l []) x.o.node x.o.par) (fun vG=>?_) (fun vG=>?_)
   ·refine aa 16 fun _=>qgw
   ·refine ae 3 [0,1] fun _=>ah (kF An cn Am cm x.o.node l (dX l) (eZ l) (by omega)) [] il ?_
    rintro _ _ ⟨rfl,rfl⟩
    refine aa 5 fun _=>eg 28 (!(fq (ai l []) x.o.node)) (fun IE=>?_) (fun IE=>?_)
    ·refine aa 7 fun _=>qgw
    ·refine aa 1 fun _=>aK [] [] trivial<|aa 14 fun _=>?_
     rcases bK (fq (ai l []) x.o.par) with b28|b28
     ·refine aO [(0,_),(5,_),(7,_),(11,_),(12,_)] [0,1,0,1] ⟨jS (fun vs=>.bool (fq (ai l []) x.o.par)) (fun vs=>.bool true) (fun _=>dP b28),qsz,qtn,qs4,qta,trivial⟩ fun v37=>aq ((((((dy (ai l []) x.o.par).map (·.par)).length:Int)+1)+(gz (ai l []) ((ai l []).length+1) x.o.node:Int))>13) (fun UD=>?_) (fun UD=>?_)
      ·exact qmi
      ·exact qvd
     ·refine aK [(0,.bool false)] [] ⟨dv (.bool (fq (ai l []) x.o.par)) (dP b28),trivial⟩<|qvc
 ·refine ae 12 [2,0,1] fun atH=>ah (kF An cn Am cm x.o.par l (dX l) (eZ l) (by omega)) [] il ?_
  rintro _ _ ⟨rfl,rfl⟩
  refine aa 5 fun _=>?_
  rcases bK (!(cS x.o.par (⟨0,1⟩:cN))) with RE|RE
  ·refine aK [(2,bZ.V ⟨0,1⟩),(3,.bool true)] [1] ⟨Tg,qmr,trivial⟩<|eQ (!(fq (ai l []) x.o.par)) (fun U5=>?_) (fun U5=>?_)
   ·refine aa 4 fun _=>a_ [] (.inr ⟨3,kr,by decide,aaf (by simpa using U5),kr⟩)
   ·refine aa 19 fun _=>aK [(5,bZ.V ⟨0,1⟩)] [1] ⟨Tg,trivial⟩<|kL 28 x.o.par (⟨0,1⟩:cN) kr (fun O4=>?_) (fun O4=>?_)
    ·refine aa 5 fun _=>a_ [] (.inr ⟨6,kr,by decide,SJ O4,kr⟩)
    ·refine ae 7 [0] fun _=>ah (sh An cn Am cm l (by omega)) [] il ?_
     rintro _ _ ⟨ahE,rfl,f45,rfl⟩
     refine aa 4 fun _=>aq ((ahE:Int)≥48) (fun h46=>?_) (fun h46=>?_)
     ·refine aa 4 fun _=>a_ [] (.inr ⟨5,kr,by decide,SK f45 h46,kr⟩)
     ·refine aa 1 fun _=>?_
      rcases bK (fq (ai l []) x.o.par) with b48|b48
      ·refine aO [(0,_),(5,_),(7,_),(11,_),(12,_)] [0,1,0,1] ⟨jS (fun vs=>.bool (fq (ai l []) x.o.par)) (fun vs=>.bool true) (fun _=>dP b48),qsz,qtn,qs4,qta,trivial⟩ fun v57=>aq ((((((dy (ai l []) x.o.par).map (·.par)).length:Int)+1)+(gz (ai l []) ((ai l []).length+1) x.o.node:Int))>13) (fun h58=>?_) (fun h58=>?_)
       ·refine aa 4 fun _=>a_ [] (.inr ⟨2,kr,by decide,SL h58,kr⟩)
       ·exact qvd
      ·refine aK [(0,.bool false)] [] ⟨dv (.bool (fq (ai l []) x.o.par)) (dP b48),trivial⟩<|qvc
  ·refine aK [(2,bZ.V ⟨0,1⟩),(3,.bool false)] [1] ⟨Tg,qmr,trivial⟩<|aa 20 fun _=>aK [(5,bZ.V ⟨0,1⟩)] [1] ⟨Tg,trivial⟩<|kL 28 x.o.par (⟨0,1⟩:cN) kr (fun h59=>?_) (fun h59=>?_)
   ·refine aa 5 fun _=>a_ [] (.inr ⟨6,kr,by decide,SJ h59,kr⟩)
   ·refine ae 7 [0] fun _=>ah (sh An cn Am cm l (by omega)) [] il ?_
    rintro _ _ ⟨ahG,rfl,f61,rfl⟩
    refine aa 4 fun _=>aq ((ahG:Int)≥48) (fun h62=>?_) (fun h62=>?_)
    ·refine aa 4 fun _=>a_ [] (.inr ⟨5,kr,by decide,SK f61 h62,kr⟩)
    ·refine aa 1 fun _=>?_
     rcases bK (fq (ai l []) x.o.par) with b64|b64
     ·refine aO [(0,_),(5,_),(7,_),(11,_),(12,_)] [0,1,0,1] ⟨jS (fun vs=>.bool (fq (ai l []) x.o.par)) (fun vs=>.bool true) (fun _=>dP b64),qsz,qtn,qs4,qta,trivial⟩ fun v73=>aq ((((((dy (ai l []) x.o.par).map (·.par)).length:Int)+1)+(gz (ai l []) ((ai l []).length+1) x.o.node:Int))>13) (fun h74=>?_) (fun h74=>?_)
      ·refine aa 4 fun _=>a_ [] (.inr ⟨2,kr,by decide,SL h74,kr⟩)
      ·exact qvd
     ·refine aK [(0,.bool false)] [] ⟨dv (.bool (fq (ai l []) x.o.par)) (dP b64),trivial⟩<|qvc
def HI (An:OA) (cn:Nat) (Am:OA) (cm:Nat) (Al:OA) (cl:Nat) (x:aT) (l:List bz) (ls:List iZ) (hb:(ai l []).length≤1000000):Ct Cp 110 #[.agg #[sl An ((ai l []).length) cn,sl Am l.length cm,sl Al ls.length cl],bx.V x] (fun w=>sL An Am l w∧E1 Al ls w) [] (fun v Cs=>(v=iv 0∧Cs= [])∨(∃(e:Int),v=iv e∧ ¬e=0∧ ¬ (x.o.kind=1∧x.o.par=⟨0,0⟩∧ai l []= [])∧Cs= [])):=by
 refine cc Tryz.func110 fun w0 hp=>ae 13 [1] fun a8=>aq (x.o.kind=1) (fun h2=>?_) (fun h2=>?_)
 ·refine ae 5 [0,1] fun _=>ah (D_ An cn Am cm x l (by omega)) [] Ok ?_
  rintro _ _ (⟨rfl,rfl⟩|⟨e3,rfl,f4,f5,rfl⟩)
  ·refine aa 2 fun _=>qd3
  ·refine aa 2 fun _=>a_ [] (.inr ⟨e3,kr,f4,fun hh=>f5 hh.2,kr⟩)
 ·refine ae 8 [0,1] fun _=>ah (qv An cn Am cm x.o.node l (dX l) (by omega)) [] Ok ?_
  rintro _ _ (⟨nd8,rfl,f9,rfl⟩|⟨rfl,f10,rfl⟩)
  ·refine ae 18 [2] fun F7=>qd3
  ·refine ae 17 [2] fun sN=>a_ [] (.inr ⟨3,kr,by decide,fun hh=>h2 hh.1,kr⟩)
end

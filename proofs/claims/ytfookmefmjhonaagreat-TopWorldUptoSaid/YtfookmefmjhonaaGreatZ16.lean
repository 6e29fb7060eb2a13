/- For the law of worlds: What functions do. -/
import Derived.Test.YtfookmefmjhonaaGreatZ15
set_option linter.all false
namespace Go.Proofs.YtfookmefmjhonaaGreat.My
open Go.RowKit Go.bE
def TN (n i acc m:Nat):Prop:=acc+m*2^(7*i)=n∧acc<2^(7*i)∧i≤8∧(0<i→1≤m)
def TN.i8 {n i acc m:Nat} (h:TN n i acc m) (hn:n≤4611686018427387904) (hi:i=8):m<128:=by
 obtain ⟨h1,h2,_⟩:=h
 subst hi
 omega
def TN.lt {n i acc m:Nat} (h:TN n i acc m) (hn:n≤4611686018427387904):m % 128*2^(7*i)≤4611686018427387904∧acc+m % 128*2^(7*i)≤4611686018427387904:=by
 obtain ⟨h1,h2,_⟩:=h
 have:=dC (2^(7*i)) (Nat.mod_le m 128)
 omega
def TN.step {n i acc m:Nat} (h:TN n i acc m) (hn:n≤4611686018427387904) (hm:128≤m):TN n (i+1) (acc+m % 128*2^(7*i)) (m/128):=by
 have hi:i≠8:=fun e=>by have:=h.i8 hn e;omega
 obtain ⟨h1,h2,h3,h4⟩:=h
 have e:2^(7*(i+1))=128*2^(7*i):=by rw [Nat.mul_add,Nat.pow_add];omega
 have FW:m % 128*2^(7*i)≤127*2^(7*i):=dC _ (by omega)
 refine ⟨?_,?_,by omega,fun _=>by omega⟩
 ·rw [e,← h1]
  have:m*2^(7*i)=(128*(m/128)+m % 128)*2^(7*i):=by rw [Nat.div_add_mod]
  rw [this,Nat.add_mul]
  have e2:m/128*(128*2^(7*i))=128*(m/128)*2^(7*i):=by rw [← Nat.mul_assoc,Nat.mul_comm (m/128) 128]
  omega
 ·rw [e];omega
def zQ {xs rest:List UInt8} {i m:Nat} {x:UInt8} (h:xs.drop i=aQ m++rest) (e:xs[i]? =some x):
 (m<128∧x.toNat=m∧xs.drop (i+1)=rest∧(aQ m).length=1)∨(128≤m∧x.toNat=m % 128+128∧xs.drop (i+1)=aQ (m/128)++rest∧(aQ m).length=(aQ (m/128)).length+1):=by
 have hi:i<xs.length:=(aN.1 e).1
 have hx:xs[i]=x:=(aN.1 e).2
 rw [fI hi,hx] at h
 by_cases hm:m<128
 ·rw [sT hm] at h⊢
  simp only [List.cons_append,List.nil_append,List.cons.injEq] at h
  exact .inl ⟨hm,by rw [h.1,UInt8.toNat_ofNat'];omega,h.2,rfl⟩
 ·rw [xu (by omega)] at h⊢
  simp only [List.cons_append,List.cons.injEq] at h
  exact .inr ⟨by omega,by rw [h.1,UInt8.toNat_ofNat'];omega,h.2,rfl⟩
def XE {a i:Nat} (hi:i≤8) (h:a*2^(7*i)≤4611686018427387904):NW .shl .i64 (a:Int) (7*(i:Int))=((a*2^(7*i):Nat):Int):=by
 show IntKind.i64.wrap ((a:Int)*2^min (7*(i:Int)).toNat IntKind.i64.bits)=_
 have e:min (7*(i:Int)).toNat IntKind.i64.bits=7*i:=by simp [IntKind.bits];omega
 rw [e]
 have e2:(a:Int)*2^(7*i)=((a*2^(7*i):Nat):Int):=by rw [Int.natCast_mul,Int.natCast_pow];rfl
 rw [e2,wrap_i64 ⟨by omega,by omega⟩]
def N3 {xs l:List UInt8} {i m:Nat} (h:xs.drop i=aQ m++l):i<xs.length:=by
 have:=congrArg List.length h
 have:=g_ m
 simp only [cL,bm] at*
 omega
def xv (aU:OA) (bb:Nat) (xs:List UInt8) (n:Nat) (rest:List UInt8) (hx:xs=aQ n++rest) (hn:n≤4611686018427387904) (hb:xs.length≤1073741824):Ct Cp 180 #[sl aU xs.length bb] (fun w=>aA.Rd aU xs w) [] (fun v Cs=>v=.tuple #[iv n,iv ((aQ n).length:Int),iv 0]∧Cs= []):=by
 refine cc Tryz.func180 fun w0 hp=>aa 6 fun _=>ed 0 (σ:=Nat×Nat×Nat) (fun (i,acc,m)=> [(0,sl aU xs.length bb),(2,iv acc),(3,iv 0),(4,iv 0),(5,iv i)]) (fun (i,acc,m)=> []) (fun (i,acc,m)=>TN n i acc m∧xs.drop i=aQ m++rest∧i+(aQ m).length=(aQ n).length) (fun (i,acc,m)=>xs.length-i) ?_ ?_
 ·intro _ cG
  refine aa 6 fun _=>cG _ (0,0,n) [] kr ⟨⟨by simp,by simp,by omega,by omega⟩,by rw [hx];rfl,by simp⟩
 ·rintro _ ⟨i,acc,m⟩ ⟨hT,hd0,hl⟩ dm
  have l8:i<xs.length:=N3 hd0
  have hi8:=hT.2.2.1
  refine aa 8 fun _=>aq ((i:Int)=(xs.length:Int)) (fun h1=>?_) (fun h1=>?_)
  ·exact (show False from by have:=l8;omega).elim
  ·refine aa 6 fun _=>aV aU xs.length (i:Int) 1 Im ?_
   obtain ⟨x2,e3⟩:=aw (xs:=xs) (k:=i) l8
   refine bd 5 (ad aU (i*1) 0) (.int .u8 (x2.toNat:Int)) S1<|aa 2 fun _=>aG 15 ((x2.toNat:Int)≥128) (fun h4=>?_) (fun h4=>?_)
   ·have hd:=zQ hd0 e3
    refine aa 4 fun _=>aq ((i:Int)=8) (fun h5=>?_) (fun h5=>?_)
    ·exact (show False from by have:=hT.i8 hn (by omega);omega).elim
    ·refine aa 6 fun _=>aV aU xs.length (i:Int) 1 Im<|bd 5 (ad aU (i*1) 0) (.int .u8 (x2.toNat:Int)) S1<|aa 1 fun _=>aC 24 (.int .u8 ((x2.toNat % 128:Nat):Int)) (.int .u8 (IntKind.u8.wrap (BitVec.ofInt 8 (x2.toNat:Int)&&&BitVec.ofInt 8 127).toNat)) qp5<|aa 1 fun _=>aC 25 (iv ((x2.toNat % 128:Nat):Int)) (iv (IntKind.i64.wrap ((x2.toNat % 128:Nat):Int))) qp6<|aa 2 fun _=>ao 27 (7*(i:Int))<|FU .shl .i64 ((x2.toNat % 128:Nat):Int) (7*(i:Int)) ((x2.toNat % 128*2^(7*i):Nat):Int) (by simp only [k6];omega) (XE hT.2.2.1 qe8)<|aa 1 fun _=>?_
     refine aC 29 (iv ((acc+x2.toNat % 128*2^(7*i):Nat):Int)) (iv (IntKind.i64.wrap (BitVec.ofInt 64 (acc:Int)|||BitVec.ofInt 64 ((x2.toNat % 128*2^(7*i):Nat):Int)).toNat)) (iT (IY hT.2.1 qe8))<|aa 7 fun _=>aV aU xs.length (i:Int) 1 Im<|bd 5 (ad aU (i*1) 0) (.int .u8 (x2.toNat:Int)) S1<|aa 2 fun _=>aq ((x2.toNat:Int)≥128) (fun h6=>?_) (fun h6=>?_)
     ·exact qtk
     ·refine aa 6 fun _=>aV aU xs.length (i:Int) 1 Im<|bd 5 (ad aU (i*1) 0) (.int .u8 (x2.toNat:Int)) S1<|aa 2 fun _=>aG 42 ((x2.toNat:Int)=0) (fun h7=>?_) (fun h7=>?_)
      ·refine aa 4 fun _=>aG 46 ((i:Int)>0) (fun h8=>?_) (fun h8=>?_)
       ·exact qmv
       ·refine aa 4 fun _=>aq (((acc+x2.toNat % 128*2^(7*i):Nat):Int)>4611686018427387904) (fun h9=>?_) (fun h9=>?_)
        ·exact (show False from by have:=hT.lt hn;have e:x2.toNat % 128=m % 128:=(by omega);rw [e] at h9;omega).elim
        ·exact qa2
      ·refine aa 8 fun _=>aq (((acc+x2.toNat % 128*2^(7*i):Nat):Int)>4611686018427387904) (fun iJ=>?_) (fun iJ=>?_)
       ·exact (show False from by have:=hT.lt hn;have e:x2.toNat % 128=m % 128:=(by omega);rw [e] at iJ;omega).elim
       ·exact qa2
   ·have hd:=zQ hd0 e3
    refine aa 11 fun _=>aV aU xs.length (i:Int) 1 Im<|bd 5 (ad aU (i*1) 0) (.int .u8 (x2.toNat:Int)) S1<|aa 1 fun _=>aC 24 (.int .u8 ((x2.toNat % 128:Nat):Int)) (.int .u8 (IntKind.u8.wrap (BitVec.ofInt 8 (x2.toNat:Int)&&&BitVec.ofInt 8 127).toNat)) qp5<|aa 1 fun _=>aC 25 (iv ((x2.toNat % 128:Nat):Int)) (iv (IntKind.i64.wrap ((x2.toNat % 128:Nat):Int))) qp6<|aa 2 fun _=>ao 27 (7*(i:Int))<|FU .shl .i64 ((x2.toNat % 128:Nat):Int) (7*(i:Int)) ((x2.toNat % 128*2^(7*i):Nat):Int) (by simp only [k6];omega) (XE hT.2.2.1 qe8)<|aa 1 fun _=>?_
    refine aC 29 (iv ((acc+x2.toNat % 128*2^(7*i):Nat):Int)) (iv (IntKind.i64.wrap (BitVec.ofInt 64 (acc:Int)|||BitVec.ofInt 64 ((x2.toNat % 128*2^(7*i):Nat):Int)).toNat)) (iT (IY hT.2.1 qe8))<|aa 7 fun _=>aV aU xs.length (i:Int) 1 Im<|bd 5 (ad aU (i*1) 0) (.int .u8 (x2.toNat:Int)) S1<|aa 2 fun _=>aq ((x2.toNat:Int)≥128) (fun kx=>?_) (fun kx=>?_)
    ·exact qtk
    ·refine aa 6 fun _=>aV aU xs.length (i:Int) 1 Im<|bd 5 (ad aU (i*1) 0) (.int .u8 (x2.toNat:Int)) S1<|aa 2 fun _=>aG 42 ((x2.toNat:Int)=0) (fun xw=>?_) (fun xw=>?_)
     ·refine aa 4 fun _=>aG 46 ((i:Int)>0) (fun ki=>?_) (fun ki=>?_)
      ·exact qmv
      ·refine aa 4 fun _=>aq (((acc+x2.toNat % 128*2^(7*i):Nat):Int)>4611686018427387904) (fun sU=>?_) (fun sU=>?_)
       ·exact (show False from by have:=hT.lt hn;have e:x2.toNat % 128=m % 128:=(by omega);rw [e] at sU;omega).elim
       ·exact qa2
     ·refine aa 8 fun _=>aq (((acc+x2.toNat % 128*2^(7*i):Nat):Int)>4611686018427387904) (fun Io=>?_) (fun Io=>?_)
      ·exact (show False from by have:=hT.lt hn;have e:x2.toNat % 128=m % 128:=(by omega);rw [e] at Io;omega).elim
      ·exact qa2
def oD {xs a rest:List UInt8} {p:Nat} (h:xs.drop p=a++rest):xs.drop (p+a.length)=rest:=by
 rw [← List.drop_drop,h,List.drop_left' rfl]
def jt {xs a rest:List UInt8} {p:Nat} (h:xs.drop p=a++rest) (h0:0<a.length):p+a.length≤xs.length:=by
 have:=congrArg List.length h
 simp only [cL,bm] at this
 omega
def mv {l:List Int} {k:Nat} {x:Int} (h:l[k]? =some x):((l.drop k).flatMap fun x=>aQ x.toNat)=aQ x.toNat++(l.drop (k+1)).flatMap fun x=>aQ x.toNat:=by
 have hk:k<l.length:=(aN.1 h).1
 have hx:l[k]=x:=(aN.1 h).2
 rw [fI hk,hx,iE]
def qo {xs a rest:List UInt8} (h:xs=a++rest):a.length≤xs.length:=by rw [h,bm];omega
def KB (aU:OA) (bb:Nat) (xs:List UInt8) (fE:List Int) (rest:List UInt8) (hx:xs=bS fE++rest) (hv: ∀x∈fE,0≤x∧x≤4611686018427387904) (hl:fE.length≤1024) (hb:xs.length≤1073741824) (lV:xs.length≤bb):Ct Cp 179 #[sl aU xs.length bb] (fun w=>aA.Rd aU xs w) [] (fun v Cs=> ∃A c,v=.tuple #[sl A fE.length c,iv ((bS fE).length:Int),iv 0]∧Cs= [az.row A c fE]):=by
 refine cc Tryz.func179 fun w0 hp=>aa 9 fun _=>ah (xv aU bb xs fE.length ((fE.flatMap fun x=>aQ x.toNat)++rest) (by rw [hx];unfold bS;rw [cH]) (by omega) hb) [] il ?_
 rintro _ _ ⟨rfl,rfl⟩
 refine aa 22 fun _=>aq ((fE.length:Int)>1024) (fun h1=>?_) (fun h1=>?_)
 ·exact kp
 ·refine aa 8 fun _=>?_
  have Nx:(aQ fE.length).length≤xs.length:=qo (hx.trans (by unfold bS;rw [cH]))
  refine bG az<|aR (σ:=Nat×Nat×OA×Nat×List Int) (fun (k,p,B,d,ys)=> [(0,sl aU xs.length bb),(2,sl B ys.length d),(3,iv p),(4,iv 0),(20,iv (fE.length:Int)),(21,iv k)]) (fun (k,p,B,d,ys)=> [.k (az.row B d ys)]) (fun (k,p,B,d,ys)=>ys=fE.take k∧k≤fE.length∧xs.drop p=((fE.drop k).flatMap fun x=>aQ x.toNat)++rest∧p≤xs.length∧p+((fE.drop k).flatMap fun x=>aQ x.toNat).length=(bS fE).length) (fun (k,p,B,d,ys)=>fE.length-k) (0,(aQ fE.length).length,none,0,[]) [0] ⟨rfl,bh _,by rw [hx];unfold bS;rw [cH,List.drop_left' rfl];rfl,Nx,by unfold bS;rw [bm];rfl⟩ ?_
  rintro _ ⟨k,p,B,d,ys⟩ ⟨AL,hk,hd,hpx,hlen⟩ aB
  refine aa 5 fun _=>aq ((k:Int)<(fE.length:Int)) (fun h2=>?_) (fun h2=>?_)
  ·obtain ⟨x3,e4⟩:=aw (xs:=fE) (k:=k) (by omega)
   have hxx:=hv x3 (aI e4)
   have hp1:p+(aQ x3.toNat).length≤xs.length:=jt (hd.trans (by rw [mv e4,cH])) (g_ _)
   refine aa 7 fun _=>fC aU xs.length bb 1 p xs.length (some (iv p)) none (⟨_,rfl⟩) (by omega) lV<|aC 26 (sl (dS aU bb p 1) ((xs.drop p).length) (bb-p)) (sl (dS aU bb p 1) (xs.length-p) (bb-p)) yu<|ah (xv (dS aU bb p 1) (bb-p) (xs.drop p) x3.toNat (((fE.drop (k+1)).flatMap fun x=>aQ x.toNat)++rest) (by rw [hd,mv e4,cH]) (by omega) ub) [] YW ?_
   rintro _ _ ⟨rfl,rfl⟩
   refine aa 20 fun jn=>bQ az 0 B d ys (so (jn 19)) 1 1 [(x3.toNat:Int)] (fun w h=>h.eT 1 (jn 19) 3 (List.flatMap az.f [(x3.toNat:Int)]) kr) (by rw [AL,b0];omega) fun A6 c7=>aa 3 fun _=>ao 40 ((p:Int)+((aQ x3.toNat).length:Int))<|aa 6 fun _=>ao 41 ((k:Int)+1)<|aa 2 fun _=>aB _ (k+1,p+(aQ x3.toNat).length,A6,c7,ys++ [(x3.toNat:Int)]) [0] kr ⟨by rw [AL,← bp e4,iR (by omega)],by omega,by rw [← List.drop_drop,hd,mv e4,cH,List.drop_left' rfl],by have:=hp1;omega,by rw [mv e4,bm] at hlen;omega⟩ du
  ·refine aa 9 fun _=>?_
   rw [eJ (by omega)] at hlen
   refine aS az 0 B d ys fE kr (by rw [AL,cA (by omega)])<|a_ [1] ⟨B,d,kt (.tuple #[sl B ys.length d,iv p,iv 0]) (by rw [AL,cA (by omega)];simp only [List.flatMap_nil,fA,Nat.add_zero] at hlen;rw [hlen]),kr⟩
def Bi (aU:OA) (bb:Nat) (xs:List UInt8) (fE:List Int) (rest:List UInt8) (hx:xs=bS fE++rest) (hv:dW fE) (hb:xs.length≤1073741824) (lV:xs.length≤bb):Ct Cp 141 #[sl aU xs.length bb] (fun w=>aA.Rd aU xs w) [] (fun v Cs=> ∃A c,v=.tuple #[sl A fE.length c,iv ((bS fE).length:Int),iv 0]∧Cs= [az.row A c fE]):=by
 refine cc Tryz.func141 fun w0 hp=>aa 9 fun _=>ah (KB aU bb xs fE rest hx (ur hv) RS (by omega) lV) [] il ?_
 rintro _ _ ⟨A1,c2,rfl,rfl⟩
 refine aa 20 fun _=>ah (xL A1 c2 fE RS) [] (fun w h=>h.bg 0 A1 c2 fE kr) ?_
 rintro _ _ ⟨rfl,rfl⟩
 refine aa 3 fun _=>cU (dW fE) (fun h3=>?_) (fun h3=>?_)
 ·exact (show False from h3 hv).elim
 ·refine aa 10 fun _=>a_ [0] ⟨A1,c2,kr,kr⟩
def n_ (aU:OA) (bb:Nat) (xs:List UInt8) (x:Int) (rest:List UInt8) (hx:xs=aQ x.toNat++rest) (h0:0≤x) (hn:x≤4611686018427387904) (hb:xs.length≤1073741824):Ct Cp 180 #[sl aU xs.length bb] (fun w=>aA.Rd aU xs w) [] (fun v Cs=>v=.tuple #[iv x,iv ((aQ x.toNat).length:Int),iv 0]∧Cs= []):=by
 have h:=xv aU bb xs x.toNat rest hx (by omega) hb
 rw [iR h0] at h
 exact h
def qB (s:cN):0<(bB s).length:=by
 have:=g_ s.t.toNat
 exact qor
def Hv (l:List Int):0<(bS l).length:=by
 have:=g_ l.length
 unfold bS;rw [bm];omega
def Hw (z:ByteArray):0<(ig z).length:=by
 have:=g_ z.size
 unfold ig;rw [bm];omega
def K4 (aU:OA) (bb:Nat) (xs:List UInt8) (z:ByteArray) (rest:List UInt8) (hx:xs=ig z++rest) (hz:z.size≤65536) (hb:xs.length≤1073741824) (lV:xs.length≤bb):Ct Cp 144 #[sl aU xs.length bb] (fun w=>aA.Rd aU xs w) [] (fun v Cs=>v=.tuple #[.string z,iv ((ig z).length:Int),iv 0]∧Cs= []):=by
 refine cc Tryz.func144 fun w0 hp=>?_
 have It:(aQ (z.size:Int).toNat).length+z.size≤xs.length:=by have:=congrArg List.length hx;simp only [ig,bm] at this;have e:z.data.toList.length=z.size:=(by simp);simp only [Int.toNat_natCast];omega
 refine aa 9 fun _=>ah (n_ aU bb xs (z.size:Int) (z.data.toList++rest) (by rw [hx];unfold ig;rw [cH];rfl) (by omega) (by omega) (by omega)) [] il ?_
 rintro _ _ ⟨rfl,rfl⟩
 refine aa 23 fun _=>aq ((z.size:Int)>65536) (fun h1=>?_) (fun h1=>?_)
 ·exact kp
 ·refine aa 7 fun _=>ao 24 ((xs.length:Int)- ((aQ (z.size:Int).toNat).length:Int))<|aa 3 fun _=>aq ((z.size:Int)>((xs.length:Int)- ((aQ (z.size:Int).toNat).length:Int))) (fun h2=>?_) (fun h2=>?_)
  ·exact (show False from by have:=It;omega).elim
  ·refine aa 9 fun _=>ao 30 (((aQ (z.size:Int).toNat).length:Int)+(z.size:Int))<|aC 30 (iv (((aQ (z.size:Int).toNat).length+z.size:Nat):Int)) (iv (((aQ (z.size:Int).toNat).length:Int)+(z.size:Int))) qlk<|fC (hh:=⟨_,rfl⟩) aU xs.length bb 1 ((aQ (z.size:Int).toNat).length) ((aQ (z.size:Int).toNat).length+z.size) (some (iv ((aQ (z.size:Int).toNat).length:Int))) (some (iv (((aQ (z.size:Int).toNat).length+z.size:Nat):Int))) (⟨_,rfl⟩) (by omega) (by omega)<|aC 31 (sl (dS aU bb ((aQ (z.size:Int).toNat).length) 1) (((xs.drop ((aQ (z.size:Int).toNat).length)).take ((aQ (z.size:Int).toNat).length+z.size- ((aQ (z.size:Int).toNat).length))).length) (bb- ((aQ (z.size:Int).toNat).length))) (sl (dS aU bb ((aQ (z.size:Int).toNat).length) 1) ((aQ (z.size:Int).toNat).length+z.size- ((aQ (z.size:Int).toNat).length)) (bb- ((aQ (z.size:Int).toNat).length))) qkk<|wo aA (dS aU bb ((aQ (z.size:Int).toNat).length) 1) (((xs.drop ((aQ (z.size:Int).toNat).length)).take ((aQ (z.size:Int).toNat).length+z.size- ((aQ (z.size:Int).toNat).length))).length) (bb- ((aQ (z.size:Int).toNat).length)) ((xs.drop ((aQ (z.size:Int).toNat).length)).take ((aQ (z.size:Int).toNat).length+z.size- ((aQ (z.size:Int).toNat).length))) id jL (fun w h=>Kd.take (Kd.drop (hp.aE h.ch) (by omega)))<|aC 32 (.string z) (.string (⟨(((xs.drop ((aQ (z.size:Int).toNat).length)).take ((aQ (z.size:Int).toNat).length+z.size- ((aQ (z.size:Int).toNat).length))).map id).toArray⟩)) (congrArg Value.string (by simp only [Int.toNat_natCast];rw [hx];unfold ig;rw [cH,List.drop_left' rfl,show (aQ z.size).length+z.size- (aQ z.size).length=z.data.toList.length by simp,List.take_left' rfl,List.map_id]))<|aa 3 fun _=>ao 35 (((aQ (z.size:Int).toNat).length:Int)+(z.size:Int))<|aC 35 (iv (((aQ (z.size:Int).toNat).length+z.size:Nat):Int)) (iv (((aQ (z.size:Int).toNat).length:Int)+(z.size:Int))) qlk<|aa 4 fun _=>?_
   exact a_ [] ⟨kt (.tuple #[.string z,iv (((aQ (z.size:Int).toNat).length+z.size:Nat):Int),iv 0]) (by unfold ig;rw [bm,show z.data.toList.length=z.size by simp];rfl),kr⟩
def Hx (aU:OA) (bb:Nat) (xs:List UInt8) (x:cN) (rest:List UInt8) (hx:xs=bB x++rest) (Nx:fL x) (hb:xs.length≤1073741824) (lV:xs.length≤bb):Ct Cp 178 #[sl aU xs.length bb] (fun w=>aA.Rd aU xs w) [] (fun v Cs=>v=.tuple #[bZ.V x,iv ((bB x).length:Int),iv 0]∧Cs= []):=by
 refine cc Tryz.func178 fun w0 hp=>?_
 have h62:=yG Nx
 have It:(bB x).length≤xs.length:=qo hx
 have YM:(bB x).length=(aQ x.t.toNat).length+(aQ x.r.toNat).length:=by unfold bB;rw [bm]
 have hl4:=pz Nx
 refine aa 9 fun a8=>ah (n_ aU bb xs x.t (aQ x.r.toNat++rest) (by rw [hx];unfold bB;rw [cH]) (by omega) (by omega) hb) [] il ?_
 rintro _ _ ⟨rfl,rfl⟩
 refine aa 20 fun _=>fC aU xs.length bb 1 ((aQ x.t.toNat).length) xs.length (some (iv ((aQ x.t.toNat).length:Int))) none (⟨_,rfl⟩) (by omega) lV<|aC 21 (sl (dS aU bb ((aQ x.t.toNat).length) 1) ((xs.drop ((aQ x.t.toNat).length)).length) (bb- ((aQ x.t.toNat).length))) (sl (dS aU bb ((aQ x.t.toNat).length) 1) (xs.length- ((aQ x.t.toNat).length)) (bb- ((aQ x.t.toNat).length))) yu<|ah (n_ (dS aU bb ((aQ x.t.toNat).length) 1) (bb- ((aQ x.t.toNat).length)) (xs.drop ((aQ x.t.toNat).length)) x.r rest (by rw [hx];unfold bB;rw [cH,List.drop_left' rfl]) (by omega) (by omega) ub) [] YW ?_
 rintro _ _ ⟨rfl,rfl⟩
 refine ae 27 [0,0] fun _=>ah (place x) [] cJ ?_
 rintro _ _ ⟨rfl,rfl⟩
 refine aa 2 fun _=>cU (fL x) (fun h2=>?_) (fun h2=>?_)
 ·exact (show False from h2 Nx).elim
 ·refine ae 7 [0] fun _=>ao 40 (((aQ x.t.toNat).length:Int)+((aQ x.r.toNat).length:Int))<|ae 4 [0] fun _=>bk [0] [] ⟨kt (.tuple #[bZ.V x,iv (((aQ x.t.toNat).length:Int)+((aQ x.r.toNat).length:Int)),iv 0]) (by rw [YM];rfl),kr⟩
def yL (g k:Nat) (A:OA) (m c p:Nat) (hp1:p+k≤1073741824):Ct Cp 142 #[pv g,iv k,iv 0] (fun _=>True) [bJ g 195 [sl A m c,iv p,iv 0]] (fun v Cs=>v=.tuple #[]∧Cs= [bJ g 195 [sl A m c,iv ((p+k:Nat):Int),iv 0]]):=by
 refine Fz [.b g 195 [sl A m c,iv p,iv 0]] Tryz.func142 fun U w0 hp=>ae 18 [0,0] fun _=>ao 18 ((p:Int)+(k:Int))<|aC 18 (iv ((p+k:Nat):Int)) (iv ((p:Int)+(k:Int))) qlk<|ae 8 [0,0] fun _=>Of
def bP {P:Program} {n:Nat} {U:Nat→Prop} {w0:World} {Q:Exit→Act→World→Prop} {s:S} (i g:Nat) (t:TypeId) (cs wL:List Value) (h:(dR s.H.length [i],pk s.H [i])=(true,[bJ g t cs])) (e:cs=wL) (k:G P n U w0 Q {s with H:=s.H.set i (.b g t wL)}):G P n U w0 Q s:=by
 subst e;exact dB (h:=h) i g t cs k
def Vq (o:bz):List UInt8:=if o.kind=1 then bB o.par++ig o.key else aQ o.prop.toNat++aQ (o.val+1).toNat
def LY (o:bz):iL o=bB o.st++(bS o.aX++(aQ o.kind.toNat++(bB o.node++Vq o))):=by
 unfold iL Vq;simp only [cH]
def tq (g:Nat) (aU:OA) (bb:Nat) (xs:List UInt8) (p:Nat) (x:cN) (rest:List UInt8) (hx:xs.drop p=bB x++rest) (Nx:fL x) (hb:xs.length≤1073741824) (hcx:xs.length≤bb):hO Cp 140 #[pv g] (fun U w=>aA.gx aU xs U w) [bJ g 195 [sl aU xs.length bb,iv p,iv 0]] (fun v Cs=>v=bZ.V x∧Cs= [bJ g 195 [sl aU xs.length bb,iv ((p+(bB x).length:Nat):Int),iv 0]]):=by
 refine kz [.b g 195 [sl aU xs.length bb,iv p,iv 0]] Tryz.func140 fun U w0 hp=>?_
 have l8:=jt hx (qB x)
 refine aa 5 fun a8=>aO [(8,_),(9,_)] [0,0,2] ⟨que,aY (fun vs=>Hx (dS aU bb p 1) (bb-p) (xs.drop p) x rest hx Nx ub qks) [] (fun vs=>.tuple #[bZ.V x,iv ((bB x).length:Int),iv 0]) [] qgh ko,trivial⟩ fun v2=>aa 5 fun _=>ah (yL g ((bB x).length) aU xs.length bb p (by omega)) [0] cJ ?_
 rintro _ _ ⟨rfl,rfl⟩
 refine dB 4 g 195 [sl aU xs.length bb,iv ((p+((bB x).length):Nat):Int),iv 0]<|ae 6 [3,1] fun _=>bk [1] [4] ⟨kr,kr⟩
def uS (g:Nat) (aU:OA) (bb:Nat) (xs:List UInt8) (p:Nat) (x:Int) (rest:List UInt8) (hx:xs.drop p=aQ x.toNat++rest) (h0:0≤x) (h1:x≤4611686018427387904) (hb:xs.length≤1073741824) (hcx:xs.length≤bb):hO Cp 143 #[pv g] (fun U w=>aA.gx aU xs U w) [bJ g 195 [sl aU xs.length bb,iv p,iv 0]] (fun v Cs=>v=iv x∧Cs= [bJ g 195 [sl aU xs.length bb,iv ((p+(aQ x.toNat).length:Nat):Int),iv 0]]):=by
 refine kz [.b g 195 [sl aU xs.length bb,iv p,iv 0]] Tryz.func143 fun U w0 hp=>?_
 have l8:=jt hx (g_ _)
 refine aa 5 fun _=>aO [(8,_),(9,_)] [0,0] ⟨que,aY (fun vs=>n_ (dS aU bb p 1) (bb-p) (xs.drop p) x rest hx (by omega) (by omega) ub) [] (fun vs=>.tuple #[iv x,iv ((aQ x.toNat).length:Int),iv 0]) [] qgh ko,trivial⟩ fun v1=>aa 5 fun _=>ah (yL g ((aQ x.toNat).length) aU xs.length bb p (by omega)) [0] cJ ?_
 rintro _ _ ⟨rfl,rfl⟩
 refine dB 1 g 195 [sl aU xs.length bb,iv ((p+((aQ x.toNat).length):Nat):Int),iv 0]<|aa 6 fun _=>a_ [1] ⟨kr,kr⟩
def Vr (g:Nat) (aU:OA) (bb:Nat) (xs:List UInt8) (p:Nat) (o:bz) (rest:List UInt8) (hx:xs.drop p=iL o++rest) (hm:bV o) (hb:xs.length≤1073741824) (hcx:xs.length≤bb):hO Cp 102 #[pv g] (fun U w=>aA.gx aU xs U w) [bJ g 195 [sl aU xs.length bb,iv p,iv 0]] (fun v Cs=> ∃A c,v=bx.V ⟨⟨⟨o.st.t,o.st.r⟩,0,o.aX,o.kind,⟨o.node.t,o.node.r⟩,⟨o.par.t,o.par.r⟩,o.key,o.prop,o.val⟩,A,c⟩∧Cs= [bJ g 195 [sl aU xs.length bb,iv ((p+(iL o).length:Nat):Int),iv 0],az.row A c o.aX]):=by
 refine kz [.b g 195 [sl aU xs.length bb,iv p,iv 0]] Tryz.func102 fun U w0 hp=>?_
 have ji:=hm.1;have IK:=hm.2.1;have zX:=hm.2.2.2.1
 have Gz:o.kind=1∨o.kind=2:=hm.2.2.2.2.2.2.elim (fun h=>.inl h.1) fun h=>.inr h.1
 have e0:xs.drop p=bB o.st++(bS o.aX++(aQ o.kind.toNat++(bB o.node++(Vq o++rest)))):=hx.trans (by rw [LY];simp only [cH])
 have e1:=oD e0;have e2:=oD e1;have e3:=oD e2;have e4:=oD e3
 have l0:=jt e0 (qB _);have l1:=jt e1 (Hv _);have l2:=jt e2 (g_ _);have l3:=jt e3 (qB _)
 refine aa 7 fun a8=>bD (tq g aU bb xs p o.st _ e0 (.inl ji) (by omega) (by omega)) [0] Ad ?_
 rintro _ _ ⟨rfl,rfl⟩
 refine dB 2 g 195 [sl aU xs.length bb,iv ((p+(bB o.st).length:Nat):Int),iv 0]<|ae 4 [1] fun _=>aO [(8,_),(9,_)] [2,2] ⟨qp ((xs.drop (p+(bB o.st).length)).length) aU xs.length bb (p+(bB o.st).length) xs.length 1 (some (iv ((p+(bB o.st).length:Nat):Int))) none yu (⟨_,rfl⟩) qn4,aY (fun vs=>Bi (dS aU bb (p+(bB o.st).length) 1) (bb- (p+(bB o.st).length)) (xs.drop (p+(bB o.st).length)) o.aX _ e1 IK ub qks) [] (fun vs=>.tuple #[sl (ak (tp (vs 9) 0)) o.aX.length (an (tp (vs 9) 0)),iv ((bS o.aX).length:Int),iv 0]) [fun vs=>.k (az.row (ak (tp (vs 9) 0)) (an (tp (vs 9) 0)) o.aX)] qgh kA,trivial⟩ fun v4=>aa 5 fun _=>ah (yL g ((bS o.aX).length) aU xs.length bb (p+(bB o.st).length) (by omega)) [2] cJ ?_
 rintro _ _ ⟨rfl,rfl⟩
 refine dB 4 g 195 [sl aU xs.length bb,iv (((p+(bB o.st).length)+((bS o.aX).length):Nat):Int),iv 0]<|ae 11 [1] fun _=>bD (uS g aU bb xs ((p+(bB o.st).length)+((bS o.aX).length)) o.kind _ e2 (by omega) (by omega) (by omega) (by omega)) [4] Ad ?_
 rintro _ _ ⟨rfl,rfl⟩
 refine dB 5 g 195 [sl aU xs.length bb,iv ((((p+(bB o.st).length)+((bS o.aX).length))+(aQ o.kind.toNat).length:Nat):Int),iv 0]<|ae 9 [1,1] fun _=>eV 38 (o.kind=1) (fun h5=>?_) (fun h5=>?_)
 ·refine ae 5 [1] fun _=>cU (o.kind=2) (fun h6=>?_) (fun h6=>?_)
  ·exact kp
  ·refine aa 5 fun _=>bD (tq g aU bb xs (((p+(bB o.st).length)+((bS o.aX).length))+(aQ o.kind.toNat).length) o.node _ e3 (.inl zX) (by omega) (by omega)) [5] Ad ?_
   rintro _ _ ⟨rfl,rfl⟩
   refine dB 6 g 195 qg1<|ae 9 [1,1] fun _=>aq (o.kind=1) (fun h7=>?_) (fun h7=>?_)
   ·exact (show False from absurd h7 h5).elim
   ·have hq:fB o.prop o.val∧o.par=root∧o.key=cW:=hm.2.2.2.2.2.2.elim (fun k=>absurd k.1 h7) fun k=>k.2
    have Vo:=hq.1.val;have hq3:=hq.1.1;have hq4:=hq.1.2.1
    unfold Vq at e4;rw [if_neg h7,cH] at e4;have e5:=oD e4;have l4:=jt e4 (g_ _);have l5:=jt e5 (g_ _)
    refine aa 4 fun _=>bD (uS g aU bb xs ((((p+(bB o.st).length)+((bS o.aX).length))+(aQ o.kind.toNat).length)+(bB o.node).length) o.prop _ e4 (by omega) (by omega) (by omega) (by omega)) [6] Ad ?_
    rintro _ _ ⟨rfl,rfl⟩
    refine dB 7 g 195 [sl aU xs.length bb,iv ((((((p+(bB o.st).length)+((bS o.aX).length))+(aQ o.kind.toNat).length)+(bB o.node).length)+(aQ o.prop.toNat).length:Nat):Int),iv 0]<|ae 6 [1] fun _=>bD (uS g aU bb xs (((((p+(bB o.st).length)+((bS o.aX).length))+(aQ o.kind.toNat).length)+(bB o.node).length)+(aQ o.prop.toNat).length) (o.val+1) _ e5 (by omega) (by omega) (by omega) (by omega)) [7] Ad ?_
    rintro _ _ ⟨rfl,rfl⟩
    refine dB 8 g 195 qew<|aa 1 fun _=>ao 80 ((o.val+1)-1)<|ae 8 [1,1,1] fun _=>?_
    have ep:(((((p+(bB o.st).length)+((bS o.aX).length))+(aQ o.kind.toNat).length)+(bB o.node).length)+(aQ o.prop.toNat).length)+(aQ (o.val+1).toNat).length=p+(iL o).length:=by rw [LY];unfold Vq;rw [if_neg h7];simp only [bm];omega
    refine bP 8 g 195 qew qmw kr (by rw [ep])<|bk [1] [8,3] ⟨ak (tp (v4 9) 0),an (tp (v4 9) 0),kt (bx.V ⟨⟨⟨o.st.t,o.st.r⟩,0,o.aX,o.kind,⟨o.node.t,o.node.r⟩,⟨0,0⟩,⟨#[]⟩,o.prop,(o.val+1)-1⟩,ak (tp (v4 9) 0),an (tp (v4 9) 0)⟩) (by rw [hq.2.1,hq.2.2,show o.val+1-1=o.val by omega];rfl),kr⟩
 ·refine aa 11 fun _=>bD (tq g aU bb xs (((p+(bB o.st).length)+((bS o.aX).length))+(aQ o.kind.toNat).length) o.node _ e3 (.inl zX) (by omega) (by omega)) [5] Ad ?_
  rintro _ _ ⟨rfl,rfl⟩
  refine dB 6 g 195 qg1<|ae 9 [1,1] fun _=>aq (o.kind=1) (fun h8=>?_) (fun h8=>?_)
  ·have hq:fL o.par∧jX o.key∧o.prop=0∧o.val=0:=hm.2.2.2.2.2.2.elim (fun k=>k.2) fun k=>by have:=k.1;omega
   unfold Vq at e4;rw [if_pos h8,cH] at e4;have e5:=oD e4;have l4:=jt e4 (qB _);have l5:=jt e5 (Hw _)
   refine aa 3 fun _=>bD (tq g aU bb xs ((((p+(bB o.st).length)+((bS o.aX).length))+(aQ o.kind.toNat).length)+(bB o.node).length) o.par _ e4 hq.1 (by omega) (by omega)) [6] Ad ?_
   rintro _ _ ⟨rfl,rfl⟩
   refine dB 7 g 195 [sl aU xs.length bb,iv ((((((p+(bB o.st).length)+((bS o.aX).length))+(aQ o.kind.toNat).length)+(bB o.node).length)+(bB o.par).length:Nat):Int),iv 0]<|ae 4 [1] fun _=>aO [(8,_),(9,_)] [7,7] ⟨qp ((xs.drop (((((p+(bB o.st).length)+((bS o.aX).length))+(aQ o.kind.toNat).length)+(bB o.node).length)+(bB o.par).length)).length) aU xs.length bb (((((p+(bB o.st).length)+((bS o.aX).length))+(aQ o.kind.toNat).length)+(bB o.node).length)+(bB o.par).length) xs.length 1 (some (iv ((((((p+(bB o.st).length)+((bS o.aX).length))+(aQ o.kind.toNat).length)+(bB o.node).length)+(bB o.par).length:Nat):Int))) none yu (⟨_,rfl⟩) qn4,aY (fun vs=>K4 (dS aU bb (((((p+(bB o.st).length)+((bS o.aX).length))+(aQ o.kind.toNat).length)+(bB o.node).length)+(bB o.par).length) 1) (bb- (((((p+(bB o.st).length)+((bS o.aX).length))+(aQ o.kind.toNat).length)+(bB o.node).length)+(bB o.par).length)) (xs.drop (((((p+(bB o.st).length)+((bS o.aX).length))+(aQ o.kind.toNat).length)+(bB o.node).length)+(bB o.par).length)) o.key _ e5 (by have:=hq.2.1.2.1;omega) ub qks) [] (fun vs=>.tuple #[.string o.key,iv ((ig o.key).length:Int),iv 0]) [] qgh ko,trivial⟩ fun v9=>aa 5 fun _=>ah (yL g ((ig o.key).length) aU xs.length bb (((((p+(bB o.st).length)+((bS o.aX).length))+(aQ o.kind.toNat).length)+(bB o.node).length)+(bB o.par).length) (by omega)) [7] cJ ?_
   rintro _ _ ⟨rfl,rfl⟩
   refine dB 8 g 195 qfk<|ae 12 [1,1,1] fun _=>?_
   have ep:(((((p+(bB o.st).length)+((bS o.aX).length))+(aQ o.kind.toNat).length)+(bB o.node).length)+(bB o.par).length)+((ig o.key).length)=p+(iL o).length:=by rw [LY];unfold Vq;rw [if_pos h8];simp only [bm];omega
   refine bP 8 g 195 qfk qmw kr (by rw [ep])<|bk [1] [8,3] ⟨ak (tp (v4 9) 0),an (tp (v4 9) 0),kt (bx.V ⟨⟨⟨o.st.t,o.st.r⟩,0,o.aX,o.kind,⟨o.node.t,o.node.r⟩,⟨o.par.t,o.par.r⟩,o.key,0,0⟩,ak (tp (v4 9) 0),an (tp (v4 9) 0)⟩) (by rw [hq.2.2.1,hq.2.2.2]),kr⟩
  ·exact (show False from absurd h5 h8).elim
def KZ (aU:OA) (bb:Nat) (xs:List UInt8) (o:bz) (rest:List UInt8) (hx:xs=iL o++rest) (hm:bV o) (hb:xs.length≤1073741824) (lV:xs.length≤bb):Ct Cp 69 #[sl aU xs.length bb] (fun w=>aA.Rd aU xs w) [] (fun v Cs=> ∃A c,v=.tuple #[bx.V ⟨o,A,c⟩,iv ((iL o).length:Int),iv 0]∧Cs= [az.row A c o.aX]):=by
 refine cc Tryz.func69 fun w0 hp=>?_
 have ji:=hm.1;unfold bY at ji;have IK:=hm.2.1
 refine aa 6 fun a8=>ed 0 (σ:=Nat) (fun k=> []) (fun k=> []) (fun k=>False) (fun k=>k) ?_ ?_
 ·intro _ cG
  refine aa 10 fun ld=>bD (Vr (ld 4) aU bb xs 0 o rest hx hm (by omega) lV) [1] (fun w F h=>hp.u0.ew h) ?_
  rintro _ _ ⟨A3,c4,rfl,rfl⟩
  refine dB 2 (ld 4) 195 [sl aU xs.length bb,iv ((0+(iL o).length:Nat):Int),iv 0]<|ae 33 [0,2,0,0] fun _=>aq (o.st.r≥(o.aX.length:Int)) (fun h5=>?_) (fun h5=>?_)
  ·exact (show False from by have:=hm.2.2.1;omega).elim
  ·refine ae 8 [0,0] fun _=>aV (hj:=by have:=hm.2.2.1;omega) A3 o.aX.length o.st.r 1 (fun w h=>Kd.cd (K:=az) (xs:=o.aX) (h.bg 3 A3 c4 o.aX kr) (by have:=hm.2.2.1;omega)) ?_
   obtain ⟨x6,e7⟩:=aw (xs:=o.aX) (k:=o.st.r.toNat) (by have:=hm.2.2.1;omega)
   refine bd 3 (ad A3 (o.st.r.toNat*1) 0) (iv x6) (fun w h=>bW (K:=az) (h.bg 3 A3 c4 o.aX kr) e7)<|aa 1 fun _=>ao (e:=by have:=IK.2.2 _ (aI e7);omega) 31 (x6+1)<|aC 31 (iv o.seq) (iv (x6+1)) (iT (by have:=hm.2.2.2.2.1;rw [bA,e7] at this;exact this.symm)) ?_
   refine ae 7 [0,0] fun _=>ah (wJ (⟨o,A3,c4⟩:aT)) [] (fun w h=>⟨by have:=IK.2.1;show o.aX.length≤_;omega,h.bg 3 A3 c4 o.aX kr⟩) ?_
   rintro _ _ ⟨rfl,rfl⟩
   refine aa 1 fun _=>aq (bV (⟨o,A3,c4⟩:aT).o) (fun h8=>?_) (fun h8=>?_)
   ·refine aa 1 fun _=>aO [] [0,2,0] trivial fun v9=>bk [4] [3] ⟨A3,c4,kt (.tuple #[bx.V ⟨o,A3,c4⟩,iv ((0+(iL o).length:Nat):Int),iv 0]) (by rw [Nat.zero_add]),kr⟩
   ·exact (show False from absurd hm h8).elim
 ·exact qsm
def QE (x:aT) (hm:bV x.o):Ct Cp 166 #[bx.V x] (fun w=>x.Rd w) [] (fun v Cs=> ∃A c,v=.tuple #[sl A ((iL x.o).length) c,iv 0]∧Cs= [aA.row A c (iL x.o)]):=by
 refine cc Tryz.func166 fun w0 hp=>ae 10 [0] fun a8=>ah (wJ x) [] (fun w h=>(show aT.Rd _ _ from hp.aE h.ch)) ?_
 rintro _ _ ⟨rfl,rfl⟩
 refine aa 2 fun _=>cU (bV x.o) (fun h2=>?_) (fun h2=>?_)
 ·exact (show False from absurd hm h2).elim
 ·refine ae 4 [0] fun _=>bG aA<|bD (KX none 0 [] x (by omega) (by simp)) [1] (fun w F h=>(show aT.gx _ _ _ from hp.u0.ew h)) ?_
  rintro _ _ ⟨A3,c4,rfl,rfl⟩
  refine aa 3 fun _=>aS aA 2 A3 c4 ([]++iL x.o) (iL x.o) kr (by simp)<|a_ [3] ⟨A3,c4,kr,kr⟩
def Gl (s:BitVec 32):BitVec 32:=(s>>>1)^^^(0xedb88320#32*(s&&&1#32))
def Gm:Nat→BitVec 32→BitVec 32
 |0,s=>s
 |k+1,s=>Gm k (Gl s)
def sD (s:BitVec 32):List UInt8→BitVec 32
 | []=>s
 |b::l=>sD (Gm 8 (s^^^BitVec.ofNat 32 b.toNat)) l
def cj (l:List UInt8):BitVec 32:= ~~~sD (~~~0#32) l
def xQ (a:BitVec 32):BitVec.ofInt 32 (a.toNat:Int)=a:=by rw [BitVec.ofInt_natCast,BitVec.ofNat_toNat,BitVec.setWidth_eq]
def p6 (a:BitVec 32):IntKind.u32.wrap (a.toNat:Int)=(a.toNat:Int):=by
 rw [wrap_u32]
 have:=a.isLt
 omega
def EG (a b:BitVec 32):IntKind.u32.wrap (BitVec.ofInt 32 (a.toNat:Int)^^^BitVec.ofInt 32 (b.toNat:Int)).toNat=((a^^^b).toNat:Int):=by rw [xQ,xQ,p6]
def JG (a:BitVec 32):IntKind.u32.wrap (BitVec.ofInt 32 (a.toNat:Int)&&&BitVec.ofInt 32 1).toNat=((a&&&1#32).toNat:Int):=by rw [xQ,show BitVec.ofInt 32 1=1#32 from rfl,p6]
def EH (a:BitVec 32):IntKind.u32.wrap (BitVec.ofInt 32 4294967295^^^BitVec.ofInt 32 (a.toNat:Int)).toNat=((~~~a).toNat:Int):=by
 rw [xQ,p6]
 have:BitVec.ofInt 32 4294967295^^^a= ~~~a:=by
  apply BitVec.eq_of_getLsbD_eq
  intro i hi
  rw [BitVec.getLsbD_xor,BitVec.getLsbD_not,show BitVec.ofInt 32 4294967295=BitVec.allOnes 32 by decide,BitVec.getLsbD_allOnes,decide_eq_true hi]
  cases a.getLsbD i<;>rfl
 rw [this]
def JH:IntKind.u32.wrap (BitVec.ofInt 32 4294967295^^^BitVec.ofInt 32 0).toNat=((~~~0#32).toNat:Int):=EH 0#32
def JI (a:BitVec 32):IntKind.u32.wrap (3988292384*(a.toNat:Int))=((0xedb88320#32*a).toNat:Int):=by
 rw [wrap_u32,BitVec.toNat_mul,show (0xedb88320#32).toNat=3988292384 from rfl]
 omega
def JJ (a:BitVec 32):Int.fdiv (a.toNat:Int) (2^1)=((a>>>1).toNat:Int):=by
 rw [Int.fdiv_eq_ediv_of_nonneg _ (by decide),BitVec.toNat_ushiftRight,Nat.shiftRight_eq_div_pow]
 omega
def JK (b:UInt8):IntKind.u32.wrap (b.toNat:Int)=((BitVec.ofNat 32 b.toNat).toNat:Int):=by
 exact qrg
def JL {xs:List UInt8} {i:Nat} {x:UInt8} {s:BitVec 32} (e:xs[i]? =some x):sD s (xs.drop i)=sD (Gm 8 (s^^^BitVec.ofNat 32 x.toNat)) (xs.drop (i+1)):=by
 have hi:i<xs.length:=(aN.1 e).1
 have hx:xs[i]=x:=(aN.1 e).2
 rw [fI hi,hx];rfl
def JM (xs ys:List UInt8):((⟨(xs.map id).toArray⟩:ByteArray).toList==(⟨(ys.map id).toArray⟩:ByteArray).toList)=decide (xs=ys):=by
 rw [Ym,List.map_id,List.map_id]
 refine dd ⟨fun h=>?_,fun h=>by rw [h]⟩
 have:=congrArg (fun b:ByteArray=>b.data.toList) h
 exact Rf
def sum (aU:OA) (bb:Nat) (xs:List UInt8) (hm:xs.length≤1073741824):Ct Cp 120 #[.int .u32 0,sl aU xs.length bb] (fun w=>aA.Rd aU xs w) [] (fun v Cs=>v=.int .u32 ((cj xs).toNat:Int)∧Cs= []):=by
 refine cc Tryz.func120 fun w0 hp=>aa 4 fun _=>ed 0 (σ:=BitVec 32×Nat×Nat) (fun (s,i,b)=> [(0,.int .u32 (s.toNat:Int)),(1,sl aU xs.length bb),(4,.int .u32 0),(5,iv i),(6,iv b)]) (fun (s,i,b)=> []) (fun (s,i,b)=>b≤8∧i≤xs.length∧sD (Gm (8-b) s) (xs.drop i)=sD (~~~0#32) xs) (fun (s,i,b)=>(xs.length-i)*9+(8-b)) ?_ ?_
 ·intro _ cG
  refine aa 4 fun _=>aC 8 (.int .u32 ((~~~0#32).toNat:Int)) (.int .u32 (IntKind.u32.wrap (BitVec.ofInt 32 4294967295^^^BitVec.ofInt 32 0).toNat)) (congrArg (Value.int .u32) JH)<|aa 9 fun _=>cG _ (~~~0#32,0,8) [] kr ⟨by omega,by omega,rfl⟩
 ·rintro _ ⟨s,i,b⟩ ⟨hb8,hi,hy⟩ dm
  refine aa 6 fun _=>aq ((b:Int)<8) (fun h1=>?_) (fun h1=>?_)
  ·refine aa 4 fun _=>aC 12 (.int .u32 ((s>>>1).toNat:Int)) (.int .u32 (Int.fdiv (s.toNat:Int) (2^1))) (congrArg (Value.int .u32) (JJ s))<|aa 2 fun _=>aC 14 (.int .u32 ((s&&&1#32).toNat:Int)) (.int .u32 (IntKind.u32.wrap (BitVec.ofInt 32 (s.toNat:Int)&&&BitVec.ofInt 32 1).toNat)) (congrArg (Value.int .u32) (JG s))<|aa 1 fun _=>aC 15 (.int .u32 ((0xedb88320#32*(s&&&1#32)).toNat:Int)) (.int .u32 (IntKind.u32.wrap (3988292384*((s&&&1#32).toNat:Int)))) (congrArg (Value.int .u32) (JI (s&&&1#32)))<|aa 1 fun _=>aC 16 (.int .u32 (((s>>>1)^^^(0xedb88320#32*(s&&&1#32))).toNat:Int)) (.int .u32 (IntKind.u32.wrap (BitVec.ofInt 32 ((s>>>1).toNat:Int)^^^BitVec.ofInt 32 ((0xedb88320#32*(s&&&1#32)).toNat:Int)).toNat)) (congrArg (Value.int .u32) (EG (s>>>1) (0xedb88320#32*(s&&&1#32))))<|aa 6 fun _=>ao 18 ((b:Int)+1)<|aa 2 fun _=>?_
   exact dm _ ((s>>>1)^^^(0xedb88320#32*(s&&&1#32)),i,b+1) [] kr ⟨by omega,by omega,by rw [← hy,show 8-b=(8- (b+1))+1 by omega];rfl⟩ du
  ·refine aa 9 fun _=>aq ((i:Int)<(xs.length:Int)) (fun h2=>?_) (fun h2=>?_)
   ·refine aa 5 fun _=>aV aU xs.length (i:Int) 1 Im ?_
    obtain ⟨x3,e4⟩:=aw (xs:=xs) (k:=i) (by omega)
    refine bd 5 (ad aU (i*1) 0) (.int .u8 (x3.toNat:Int)) qhi<|aa 1 fun _=>aC 28 (.int .u32 ((BitVec.ofNat 32 x3.toNat).toNat:Int)) (.int .u32 (IntKind.u32.wrap (x3.toNat:Int))) (congrArg (Value.int .u32) (JK x3))<|aa 1 fun _=>aC 29 (.int .u32 ((s^^^(BitVec.ofNat 32 x3.toNat)).toNat:Int)) (.int .u32 (IntKind.u32.wrap (BitVec.ofInt 32 (s.toNat:Int)^^^BitVec.ofInt 32 ((BitVec.ofNat 32 x3.toNat).toNat:Int)).toNat)) (congrArg (Value.int .u32) (EG s (BitVec.ofNat 32 x3.toNat)))<|aa 6 fun _=>ao 31 ((i:Int)+1)<|aa 3 fun _=>dm _ (s^^^BitVec.ofNat 32 x3.toNat,i+1,0) [] kr ⟨by omega,by omega,by rw [← hy,show 8-b=0 by omega];exact (JL e4).symm⟩ du
   ·refine aa 5 fun _=>aC 33 (.int .u32 ((~~~s).toNat:Int)) (.int .u32 (IntKind.u32.wrap (BitVec.ofInt 32 4294967295^^^BitVec.ofInt 32 (s.toNat:Int)).toNat)) (congrArg (Value.int .u32) (EH s))<|aa 2 fun _=>a_ [] ⟨kt (.int .u32 ((~~~s).toNat:Int)) (by unfold cj;rw [← hy,show 8-b=0 by omega,eJ (by omega)];rfl),kr⟩
def C5 (aU:OA) (bb:Nat) (xs:List UInt8) (mX:OA) (xM:Nat) (ys:List UInt8):Ct Cp 123 #[sl aU xs.length bb,sl mX ys.length xM] (fun w=>aA.Rd aU xs w∧aA.Rd mX ys w) [] (fun v Cs=>v=.bool (decide (xs=ys))∧Cs= []):=by
 refine cc Tryz.func123 fun w0 hp=>aa 7 fun _=>wo aA aU xs.length bb xs id jL Ok<|aa 1 fun _=>wo aA mX ys.length xM ys id jL Nh<|aa 3 fun _=>a_ [] ⟨kt (.bool ((⟨(xs.map id).toArray⟩:ByteArray).toList==(⟨(ys.map id).toArray⟩:ByteArray).toList)) (dP (JM xs ys)),kr⟩

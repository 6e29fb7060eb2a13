/- For the law of worlds: What lies in memory; What functions do. -/
import Derived.Test.YtfookmefmjhonaaGreatZ18
set_option linter.all false
namespace Go.bE
open Go.RowKit
def _T {P:Program} {n:Nat} {U:Nat→Prop} {w0:World} {s:S} {ez:Ez} {hs:List Nat} {i:Nat} {α:Type} (K:Kd α) (A:OA) (m c:Nat) (xs:List α) (f:α→UInt8) (z:ByteArray) (h: ∀vs,s.ox P n ez hs i vs (Re P)=some (.slice A m c,.slice K.e,.string)) (hk:mG P K f) (hm:xs.length=m) (hz:(⟨(xs.map f).toArray⟩:ByteArray)=z)
 (hr: ∀vs w,SE U w0 w [] (s.vA P n ez hs i vs)→K.Rd A xs w):ke P n U w0 s ez hs i ⟨[],fun _=>.string z,[]⟩:=
 mT _ (fun vs Q' w hS=>by
  obtain ⟨x,hx,h1⟩:=S.dU (h vs)
  subst hz
  exact xt K hx h1 hk hm (hr vs w hS) ⟨rfl,rfl⟩) fun _ _=>rfl
end Go.bE
namespace Go.Proofs.YtfookmefmjhonaaGreat.My
open Go.RowKit Go.bE
def fZ:Kd ByteArray:=⟨9,1,fun z=> [.string z],fun _=>rfl,fun _=>rfl,by decide⟩
abbrev zB (z:ByteArray):List UInt8:=z.data.toList
def jK (z:ByteArray):List UInt8:=fp (BitVec.ofNat 32 z.size)++fp (cj (zB z))++zB z
def bL (zs:List ByteArray):List UInt8:=zs.flatMap jK
def gm (zs:List ByteArray):Nat:=(zs.map fun z=>z.size+16).sum
def VQ {a b:Nat} (i:Nat) (h:a<2^i) (hb:b*2^i+a<9223372036854775808):IntKind.i64.wrap (BitVec.ofInt 64 ((b*2^i:Nat):Int)|||BitVec.ofInt 64 (a:Int)).toNat=((b*2^i+a:Nat):Int):=by
 rw [BitVec.ofInt_natCast,BitVec.ofInt_natCast,BitVec.toNat_or,BitVec.toNat_ofNat,BitVec.toNat_ofNat,Nat.mod_eq_of_lt (by omega),Nat.mod_eq_of_lt (by omega)]
 have:=Nat.shiftLeft_add_eq_or_of_lt h b
 rw [Nat.shiftLeft_eq] at this
 rw [← this,wrap_i64 ⟨by omega,by omega⟩]
def ZT (a b c d:UInt8):IntKind.i64.wrap (BitVec.ofInt 64 (IntKind.i64.wrap (BitVec.ofInt 64 (IntKind.i64.wrap (BitVec.ofInt 64 (IntKind.i64.wrap ((IntKind.i64.wrap (a.toNat:Int))*2^24))|||BitVec.ofInt 64 (IntKind.i64.wrap ((IntKind.i64.wrap (b.toNat:Int))*2^16))).toNat)|||BitVec.ofInt 64 (IntKind.i64.wrap ((IntKind.i64.wrap (c.toNat:Int))*2^8))).toNat)|||BitVec.ofInt 64 (IntKind.i64.wrap (d.toNat:Int))).toNat=((((a.toNat*256+b.toNat)*256+c.toNat)*256+d.toNat:Nat):Int):=by
 have:=a.toNat_lt
 have:=b.toNat_lt
 have:=c.toNat_lt
 have:=d.toNat_lt
 have w1: ∀(x k:Nat),x<256→k≤24→IntKind.i64.wrap ((x:Int)*2^k)=((x*2^k:Nat):Int):=fun x k hx hk=>by
  have h1:x*2^k<256*2^24:=dY (Nat.mul_lt_mul_of_pos_right hx (Nat.two_pow_pos k)) (Nat.mul_le_mul_left _ (Nat.pow_le_pow_right (by decide) hk))
  rw [show ((x:Int)*2^k)=((x*2^k:Nat):Int) by simp]
  exact wrap_i64 ⟨by omega,by omega⟩
 rw [wrap_i64 (n:=(a.toNat:Int)) ⟨by omega,by omega⟩,wrap_i64 (n:=(b.toNat:Int)) ⟨by omega,by omega⟩,wrap_i64 (n:=(c.toNat:Int)) ⟨by omega,by omega⟩,wrap_i64 (n:=(d.toNat:Int)) ⟨by omega,by omega⟩,w1 _ 24 (by omega) (by omega),w1 _ 16 (by omega) (by omega),w1 _ 8 (by omega) (by omega)]
 rw [VQ (b:=a.toNat) (a:=b.toNat*2^16) 24 (by omega) (by omega)]
 rw [show a.toNat*2^24+b.toNat*2^16=(a.toNat*256+b.toNat)*2^16 by omega]
 rw [VQ (b:=a.toNat*256+b.toNat) (a:=c.toNat*2^8) 16 (by omega) (by omega)]
 rw [show (a.toNat*256+b.toNat)*2^16+c.toNat*2^8=((a.toNat*256+b.toNat)*256+c.toNat)*2^8 by omega]
 rw [VQ (a:=d.toNat) 8 (by omega) (by omega)]
def UM {xs:List UInt8} {n:Nat} {a b c d:UInt8} (hn:xs.take 4=fp (BitVec.ofNat 32 n)) (h:n<4294967296) (ha:xs[0]? =some a) (hb:xs[1]? =some b) (hc:xs[2]? =some c) (hd:xs[3]? =some d):((((a.toNat*256+b.toNat)*256+c.toNat)*256+d.toNat:Nat):Int)=(n:Int):=by
 have:=(q7 _ a b c d).1 ((y8 ha hb hc hd).symm.trans hn)
 rw [this,BitVec.toNat_ofNat,Nat.mod_eq_of_lt h]
def _U (z:ByteArray):(⟨((zB z).map id).toArray⟩:ByteArray)=z:=by simp
def qZ (z:ByteArray):(jK z).length=8+z.size:=by
 unfold jK
 simp only [bm,show∀s,(fp s).length=4 from fun _=>rfl]
 have:(zB z).length=z.size:=by simp
 omega
def VJ (z:ByteArray) (l:List UInt8):(jK z++l).take 4=fp (BitVec.ofNat 32 z.size):=rfl
def VK (z:ByteArray) (l:List UInt8):((jK z++l).drop 4).take 4=fp (cj (zB z)):=rfl
def VI (z:ByteArray) (l:List UInt8):((jK z++l).drop 8).take z.size=zB z:=by
 show (zB z++l).take z.size=zB z
 exact List.take_left' (by simp)
def VH (z:ByteArray) (l:List UInt8):(jK z++l).drop (8+z.size)=l:=List.drop_left' (qZ z)
def xm {zs:List ByteArray} {k:Nat} {z:ByteArray} (h:zs[k]? =some z):bL (zs.drop k)=jK z++bL (zs.drop (k+1)):=by
 have hk:k<zs.length:=(aN.1 h).1
 have hx:zs[k]=z:=(aN.1 h).2
 unfold bL
 rw [fI hk,hx,iE]
def Mq (a b:List ByteArray):bL (a++b)=bL a++bL b:=by simp [bL]
def ju (a b:List ByteArray):gm (a++b)=gm a+gm b:=by simp [gm]
end Go.Proofs.YtfookmefmjhonaaGreat.My
namespace Go.Proofs.YtfookmefmjhonaaGreat.My
open Go.RowKit Go.bE
def PG (n:Nat):IntKind.u32.wrap (n:Int)=((BitVec.ofNat 32 n).toNat:Int):=by
 exact qrg
def xf (aU:OA) (bb:Nat) (xs:List UInt8) (n:Nat) (hn:xs.take 4=fp (BitVec.ofNat 32 n)) (Up:n<4294967296) (hl:4≤xs.length):Ct Cp 136 #[sl aU xs.length bb] (fun w=>aA.Rd aU xs w) [] (fun v Cs=>v=iv n∧Cs= []):=by
 refine cc Tryz.func136 fun w0 hp=>aa 5 fun _=>?_
 obtain ⟨x1,e2⟩:=aw (xs:=xs) (k:=0) (by omega)
 obtain ⟨x3,e4⟩:=aw (xs:=xs) (k:=1) (by omega)
 obtain ⟨x5,e6⟩:=aw (xs:=xs) (k:=2) (by omega)
 obtain ⟨x7,e8⟩:=aw (xs:=xs) (k:=3) (by omega)
 refine aK [(1,_),(2,.int .u8 (x1.toNat:Int)),(6,_),(7,.int .u8 (x3.toNat:Int)),(12,_),(13,.int .u8 (x5.toNat:Int)),(18,_),(19,.int .u8 (x7.toNat:Int))] [] ⟨bF aU xs.length 0 1 Im,cB 5 (ad aU (0*1) 0) (fun w h=>bW (K:=aA) (hp.aE h.ch) e2),bF aU xs.length 1 1 Im,cB 5 (ad aU (1*1) 0) qhi,bF aU xs.length 2 1 Im,cB 5 (ad aU (2*1) 0) qvr,bF aU xs.length 3 1 Im,cB 5 (ad aU (3*1) 0) qvq,trivial⟩<|a_ [] ⟨kt (iv (IntKind.i64.wrap (BitVec.ofInt 64 (IntKind.i64.wrap (BitVec.ofInt 64 (IntKind.i64.wrap (BitVec.ofInt 64 (IntKind.i64.wrap ((IntKind.i64.wrap (x1.toNat:Int))*2^24))|||BitVec.ofInt 64 (IntKind.i64.wrap ((IntKind.i64.wrap (x3.toNat:Int))*2^16))).toNat)|||BitVec.ofInt 64 (IntKind.i64.wrap ((IntKind.i64.wrap (x5.toNat:Int))*2^8))).toNat)|||BitVec.ofInt 64 (IntKind.i64.wrap (x7.toNat:Int))).toNat)) (by rw [ZT x1 x3 x5 x7,UM hn Up e2 e4 e6 e8]),kr⟩
def Fh (Ab:OA) (cb:Nat) (b:List UInt8) (s:BitVec 32) (hb:b.length≤1000000):Ct Cp 251 #[sl Ab b.length cb,.int .u32 (s.toNat:Int)] (fun _=>True) [aA.row Ab cb b] (fun v Cs=> ∃A c,v=sl A ((b++fp s).length) c∧Cs= [aA.row A c (b++fp s)]):=by
 refine Fz [.k (aA.row Ab cb b)] Tryz.func251 fun U w0 hp=>aa 10 fun _=>aC 8 (.int .u8 ((UInt8.ofNat (s.toNat/16777216)).toNat:Int)) (.int .u8 (IntKind.u8.wrap (Int.fdiv (s.toNat:Int) (2^24)))) (congrArg (Value.int .u8) (KG s))<|aa 3 fun _=>aC 11 (.int .u8 ((UInt8.ofNat (s.toNat/65536 % 256)).toNat:Int)) (.int .u8 (IntKind.u8.wrap (Int.fdiv (s.toNat:Int) (2^16)))) (congrArg (Value.int .u8) (KF s))<|aa 3 fun _=>aC 14 (.int .u8 ((UInt8.ofNat (s.toNat/256 % 256)).toNat:Int)) (.int .u8 (IntKind.u8.wrap (Int.fdiv (s.toNat:Int) (2^8)))) (congrArg (Value.int .u8) (RV s))<|aa 2 fun _=>aC 16 (.int .u8 ((UInt8.ofNat (s.toNat % 256)).toNat:Int)) (.int .u8 (IntKind.u8.wrap (s.toNat:Int))) (congrArg (Value.int .u8) (RU s))<|aa 1 fun a8=>bQ aA 0 Ab cb b (so (a8 0)) 4 4 [UInt8.ofNat (s.toNat/16777216),UInt8.ofNat (s.toNat/65536 % 256),UInt8.ofNat (s.toNat/256 % 256),UInt8.ofNat (s.toNat % 256)] (fun w h=>h.eT 1 (a8 0) 5 (List.flatMap aA.f [UInt8.ofNat (s.toNat/16777216),UInt8.ofNat (s.toNat/65536 % 256),UInt8.ofNat (s.toNat/256 % 256),UInt8.ofNat (s.toNat % 256)]) kr) (by first|omega|(simp;omega)) fun A2 c3=>?_
 refine aa 2 fun _=>aS aA 0 A2 c3 (b++ [UInt8.ofNat (s.toNat/16777216),UInt8.ofNat (s.toNat/65536 % 256),UInt8.ofNat (s.toNat/256 % 256),UInt8.ofNat (s.toNat % 256)]) (b++fp s) kr rfl<|a_ [2] ⟨A2,c3,kr,kr⟩
def UN (NH:OA) (czs:Nat) (z:ByteArray) (hz:z.size≤4096):Ct Cp 213 #[sl NH 1 czs] (fun w=>fZ.Rd NH [z] w) [] (fun v Cs=> ∃A c,v=sl A ((jK z).length) c∧Cs= [aA.row A c (jK z)]):=by
 refine cc Tryz.func213 fun w0 hp=>aa 12 fun _=>iH 2<|aa 11 fun _=>aV NH 1 0 1 (fun w h=>Kd.cd (K:=fZ) (xs:= [z]) (hp.aE h.ch) (by simp))<|bd 9 (ad NH (0*1) 0) (.string z) (fun w h=>bW (K:=fZ) (hp.aE h.ch) rfl)<|aa 7 fun _=>aC 14 (.int .u32 ((BitVec.ofNat 32 z.size).toNat:Int)) (.int .u32 (IntKind.u32.wrap (z.size:Int))) (congrArg (Value.int .u32) (PG _))<|bG aA<|ah (Fh none 0 [] (BitVec.ofNat 32 z.size) qlg) [0] cJ ?_
 rintro _ _ ⟨A1,c2,rfl,rfl⟩
 refine aa 1 fun _=>Rh aA z z.data.toList id jL (List.map_id _) fun a3 c4 hc5=>aC 17 (sl (some a3) z.data.toList.length c4) (sl (some a3) z.size c4) (by first|rfl|simp)<|ah (sum (some a3) c4 z.data.toList (by first|(simp;done)|(simp;omega))) [] (fun w h=>h.rcA 2 (some a3) z.data.toList kr) ?_
 rintro _ _ ⟨rfl,rfl⟩
 refine ah (Fh A1 c2 ([]++fp (BitVec.ofNat 32 z.size)) (cj z.data.toList) qlg) [1] cJ ?_
 rintro _ _ ⟨A6,c7,rfl,rfl⟩
 refine aa 1 fun _=>dN (φ:=A6.isSome=true) (fun w h=>Kd.cd (K:=aA) (h.bg 3 A6 c7 (([]++fp (BitVec.ofNat 32 z.size))++fp (cj z.data.toList)) kr) (by simp [fp])) fun agB=>Dy aA 3 A6 c7 (([]++fp (BitVec.ofNat 32 z.size))++fp (cj z.data.toList)) z.data.toList 90 9 (.string z) qrj (by simp only [bm,fA,show∀s,(fp s).length=4 from fun _=>rfl];simp;omega) (.inl agB) fun A8 c9=>aC 21 (sl A8 ((([]++fp (BitVec.ofNat 32 z.size))++fp (cj z.data.toList)++z.data.toList).length) c9) (sl A8 ((([]++fp (BitVec.ofNat 32 z.size))++fp (cj z.data.toList)).length+z.data.toList.length) c9) qpt<|aa 19 fun _=>aS aA 3 A8 c9 (([]++fp (BitVec.ofNat 32 z.size))++fp (cj z.data.toList)++z.data.toList) (jK z) kr rfl<|a_ [4] ⟨A8,c9,kr,kr⟩
def Mf {b:List UInt8} {zs:List ByteArray} {a k:Nat} (hd:b.drop a=bL (zs.drop k)) (ha:a≤b.length) (hk:k≤zs.length):(k=zs.length∧a=b.length)∨ ∃z,zs[k]? =some z∧b.drop a=jK z++bL (zs.drop (k+1))∧a+8+z.size≤b.length:=by
 have hl:=congrArg List.length hd
 rw [cL] at hl
 by_cases e:k=zs.length
 ·rw [eJ (by omega)] at hl
  have:(bL []).length=0:=rfl
  exact .inl ⟨e,by omega⟩
 ·have h:=dw (l:=zs) (i:=k) (by omega)
  rw [xm h,bm,qZ] at hl
  exact .inr ⟨_,h,by rw [hd,xm h],by omega⟩
def Mg {b:List UInt8} {zs:List ByteArray} {a k:Nat} {z:ByteArray} (hd:b.drop a=jK z++bL (zs.drop (k+1))):b.drop (a+8+z.size)=bL (zs.drop (k+1)):=by
 rw [show a+8+z.size=a+(8+z.size) by omega,← List.drop_drop,hd,VH]
def Mh {zs:List ByteArray} {k:Nat} {z:ByteArray} (h:zs[k]? =some z):gm (zs.take (k+1))=gm (zs.take k)+z.size+16:=by
 have hk:k<zs.length:=(aN.1 h).1
 have hx:zs[k]=z:=(aN.1 h).2
 rw [List.take_succ_eq_append_getElem hk,hx,ju]
 simp [gm]
 omega
def Ua (g:Nat) (x0 x1 x2 x3 x4 x5:Value):Ct Cp 214 #[pv g,iv 0] (fun _=>True) [bJ g 154 [x0,x1,x2,x3,x4,x5]] (fun v Cs=>v=iv 0∧Cs= [bJ g 154 [x0,x1,x2,x3,x4,.bool false]]):=by
 refine Fz [.b g 154 [x0,x1,x2,x3,x4,x5]] Tryz.func214 fun U w0 hp=>ae 18 [0] fun _=>Of
def Mi (g:Nat) (x1 x2 x3 x4 x5:Value) (d:Nat) (K S:List UInt8) (hb:S.length≤4194304):Ct Cp 98 #[pv g,iv 0] (fun _=>True) [bJ g 154 [pv d,x1,x2,x3,x4,x5],j6 d K S] (fun v Cs=> ∃A c,v=.tuple #[sl A S.length c,iv 0]∧Cs= [bJ g 154 [pv d,x1,x2,x3,x4,x5],j6 d K S,aA.row A c S]):=by
 refine Fz [.b g 154 [pv d,x1,x2,x3,x4,x5],.k (j6 d K S)] Tryz.func98 fun U w0 hp=>ae 12 [0] fun _=>ah (HQ d K S) [1] cJ ?_
 rintro _ _ ⟨rfl,rfl⟩
 refine ae 22 [0] fun _=>ah (HS d S.length K S qrs qrs) [2] cJ ?_
 exact qkn
def Mj (g:Nat) (x1 x2 x3 x4 x5:Value) (d:Nat) (K S:List UInt8) (hb:S.length≤4194304):Ct Cp 98 #[pv g,iv 2] (fun _=>True) [bJ g 154 [pv d,x1,x2,x3,x4,x5],j6 d K S] (fun v Cs=> ∃A c,v=.tuple #[sl A (([]:List UInt8).length) c,iv 0]∧Cs= [bJ g 154 [pv d,x1,x2,x3,x4,x5],j6 d K S,aA.row A c ([]:List UInt8)]):=by
 refine Fz [.b g 154 [pv d,x1,x2,x3,x4,x5],.k (j6 d K S)] Tryz.func98 fun U w0 hp=>ae 12 [0] fun _=>ah (HR d K S) [1] cJ ?_
 rintro _ _ ⟨rfl,rfl⟩
 refine ae 22 [0] fun _=>ah (HT d 0 K S qrs qrs) [2] cJ ?_
 exact qkn
def QA (g:Nat) (Ab:OA) (cb:Nat) (b:List UInt8) (x0 x3 x5:Value) (zs:List ByteArray) (hx:b=bL zs) (CQ: ∀z∈zs,z.size≤4096) (hb:b.length≤4194304) (Nb:b.length≤cb):hO Cp 99 #[pv g,sl Ab b.length cb] (fun U w=>aA.gx Ab b U w) [bJ g 154 [x0,sl none 0 0,iv 0,x3,iv 0,x5]] (fun v Cs=> ∃A c,v=.tuple #[]∧Cs= [bJ g 154 [x0,sl A zs.length c,iv (gm zs:Int),x3,iv (b.length:Int),x5],fZ.row A c zs]):=by
 refine kz [.b g 154 [x0,sl none 0 0,iv 0,x3,iv 0,x5]] Tryz.func99 fun U w0 hp=>bG fZ<|ed 0 (σ:=Nat×OA×Nat×List ByteArray×Nat) (fun (k,A,c,ys,at_)=> [(0,pv g),(1,sl Ab b.length cb)]) (fun (k,A,c,ys,at_)=> [.b g 154 [x0,sl A ys.length c,iv (gm ys:Int),x3,iv at_,x5],.k (fZ.row A c ys)]) (fun (k,A,c,ys,at_)=>ys=zs.take k∧k≤zs.length∧b.drop at_=bL (zs.drop k)∧at_≤b.length∧gm ys≤2*at_∧ys.length≤at_) (fun (k,A,c,ys,at_)=>zs.length-k) ?_ ?_
 ·intro _ cG
  refine aa 10 fun _=>cG _ (0,none,0,[],0) [0,1] kr ⟨rfl,bh _,hx,bh _,bO _,bO _⟩
 ·rintro _ ⟨k,A,c,ys,at_⟩ ⟨AL,hk,hd,ha,pq,mJ⟩ dm
  refine ae 10 [0] fun _=>ao 12 ((b.length:Int)- (at_:Int))<|aa 2 fun _=>aq (((b.length:Int)- (at_:Int))<8) (fun h1=>?_) (fun h1=>?_)
  ·have G3:=(Mf hd ha hk).resolve_right (fun ⟨z,_,_,NC⟩=>by omega)
   have hyz:ys=zs:=by rw [AL,cA (by omega)]
   refine bP 0 g 154 [x0,sl A ys.length c,iv (gm ys:Int),x3,iv at_,x5] [x0,sl A zs.length c,iv (gm zs:Int),x3,iv (b.length:Int),x5] kr (by rw [hyz,G3.2])<|aS fZ 1 A c ys zs kr hyz<|a_ [0,2] ⟨A,c,kr,kr⟩
  ·obtain ⟨z,hz,R6,NC⟩:=(Mf hd ha hk).resolve_left (fun ⟨_,_⟩=>by omega)
   have hz4:=CQ z (aI hz)
   have PB:((b.drop (((at_:Int)+8).toNat)).take ((((at_:Int)+8)+(z.size:Int)).toNat- (((at_:Int)+8).toNat)))=zB z:=by rw [show ((at_:Int)+8).toNat=at_+8 by omega,show (((at_:Int)+8)+(z.size:Int)).toNat- (at_+8)=z.size by omega,← List.drop_drop,R6,VI]
   refine ae 9 [0] fun _=>fC Ab b.length cb 1 at_ b.length (some (iv at_)) none (⟨_,rfl⟩) (by omega) (by have:=Nb;omega)<|aC 19 (sl (dS Ab cb at_ 1) ((b.drop at_).length) (cb-at_)) (sl (dS Ab cb at_ 1) (b.length-at_) (cb-at_)) yu<|ah (xf (dS Ab cb at_ 1) (cb-at_) (b.drop at_) z.size (by rw [R6];exact VJ z _) (by omega) qn6) [] qoa ?_
   rintro _ _ ⟨rfl,rfl⟩
   refine aa 7 fun _=>aG 23 ((z.size:Int)>4096) (fun h2=>?_) (fun h2=>?_)
   ·exact kp
   ·refine ae 8 [0] fun _=>ao 31 ((b.length:Int)- (at_:Int))<|aa 1 fun _=>ao 32 (((b.length:Int)- (at_:Int))-8)<|aa 3 fun _=>aq ((z.size:Int)>(((b.length:Int)- (at_:Int))-8)) (fun h3=>?_) (fun h3=>?_)
    ·exact kp
    ·refine aa 3 fun _=>aO [(5,_),(10,_),(12,_),(13,_)] [0,0] ⟨qmy,qmy,qpg,qp (hh:=⟨_,rfl⟩) (((b.drop (((at_:Int)+8).toNat)).take ((((at_:Int)+8)+(z.size:Int)).toNat- (((at_:Int)+8).toNat))).length) Ab b.length cb (((at_:Int)+8).toNat) ((((at_:Int)+8)+(z.size:Int)).toNat) 1 (some (iv ((at_:Int)+8))) (some (iv (((at_:Int)+8)+(z.size:Int)))) qkk TR (fun vs w h=>by have:=Nb;omega),trivial⟩ fun v4=>ae 8 [0] fun _=>ao 54 ((at_:Int)+4)<|aC 54 (iv ((at_+4:Nat):Int)) (iv ((at_:Int)+4)) (iT rfl)<|fC Ab b.length cb 1 (at_+4) b.length (some (iv ((at_+4:Nat):Int))) none (⟨_,rfl⟩) (by omega) (by have:=Nb;omega)<|aC 55 (sl (dS Ab cb (at_+4) 1) ((b.drop (at_+4)).length) (cb- (at_+4))) (sl (dS Ab cb (at_+4) 1) (b.length- (at_+4)) (cb- (at_+4))) yu<|ah (xf (dS Ab cb (at_+4) 1) (cb- (at_+4)) (b.drop (at_+4)) ((cj (zB z)).toNat) (by rw [← List.drop_drop,R6,VK,BitVec.ofNat_toNat,BitVec.setWidth_eq]) (BitVec.isLt _) qn6) [] qoa ?_
     rintro _ _ ⟨rfl,rfl⟩
     refine aa 2 fun _=>ah (sum (dS Ab cb (((at_:Int)+8).toNat) 1) (cb- (((at_:Int)+8).toNat)) ((b.drop (((at_:Int)+8).toNat)).take ((((at_:Int)+8)+(z.size:Int)).toNat- (((at_:Int)+8).toNat))) qn6) [] (fun w h=>Kd.take (Kd.drop ((hp.aE h.ch).rc) (by omega))) ?_
     rintro _ _ ⟨rfl,rfl⟩
     refine aa 2 fun _=>cU ((IntKind.u32.wrap (((cj (zB z)).toNat):Int))=((cj ((b.drop (((at_:Int)+8).toNat)).take ((((at_:Int)+8)+(z.size:Int)).toNat- (((at_:Int)+8).toNat)))).toNat:Int)) (fun h5=>?_) (fun h5=>?_)
     ·exact (show False from h5 (by rw [PB,p6])).elim
     ·refine aa 2 fun _=>aO [(8,_),(10,_),(16,_),(17,_),(22,_),(24,_)] [0,0,0,0,4,5] ⟨_T aA (dS Ab cb (((at_:Int)+8).toNat) 1) (((b.drop (((at_:Int)+8).toNat)).take ((((at_:Int)+8)+(z.size:Int)).toNat- (((at_:Int)+8).toNat))).length) (cb- (((at_:Int)+8).toNat)) ((b.drop (((at_:Int)+8).toNat)).take ((((at_:Int)+8)+(z.size:Int)).toNat- (((at_:Int)+8).toNat))) id z (fun _=>kr) jL rfl (by rw [PB];exact _U z) (fun vs w h=>Kd.take (Kd.drop ((hp.aE h.ch).rc) (by omega))),ib fZ 1 (fun vs=>A) (fun vs=>c) (fun vs=>ys) (fun vs=>some ⟨(a5 (vs 9)),0,none⟩) (fun vs=>1) (fun vs=>1) (fun vs=> [z]) (fun vs w h=>h.eT 1 (a5 (vs 9)) 9 (List.flatMap fZ.f [z]) kr),fc (fun vs=>(gm ys:Int)+(z.size:Int)),fc (fun vs=>((gm ys:Int)+(z.size:Int))+16),qmy,qpg,trivial⟩ fun v6=>bP 6 g 154 [x0,sl (ak (v6 10)) ((ys++ [z]).length) (an (v6 10)),iv (((gm ys:Int)+(z.size:Int))+16),x3,iv (((at_:Int)+8)+(z.size:Int)),x5] [x0,sl (ak (v6 10)) ((ys++ [z]).length) (an (v6 10)),iv (gm (ys++ [z]):Int),x3,iv ((at_+8+z.size:Nat):Int),x5] kr (by rw [show ((gm (ys++ [z]):Nat):Int)=((gm ys:Int)+(z.size:Int))+16 by rw [ju,show gm [z]=z.size+16 from rfl];omega];rfl)<|dm _ (k+1,ak (v6 10),an (v6 10),ys++ [z],at_+8+z.size) [6,3] kr ⟨by rw [AL,bp hz],by have:=(aN.1 hz).1;omega,Mg R6,by omega,by rw [ju,show gm [z]=z.size+16 from rfl];omega,by rw [bm,List.length_singleton];omega⟩ (by dsimp only;have:=(aN.1 hz).1;omega)
def PH (g d:Nat) (K:List UInt8) (zs:List ByteArray) (Cs:List aM):Prop:= ∃(A:OA) (c:Nat),
 Cs= [bJ g 154 [pv d,.slice A zs.length c,iv (gm zs),iv 0,iv (bL zs).length,.bool false],j6 d K (bL zs),fZ.row A c zs]
def vN (g d:Nat) (K:List UInt8) (zs:List ByteArray):aM:=g9 (PH g d K zs)
def qA: ∀zs:List ByteArray,(bL zs).length≤gm zs
 | []=>bO _
 |z::l=>by
  have:=qA l
  show (jK z++bL l).length≤z.size+16+gm l
  rw [bm,qZ]
  omega
def ML: ∀zs:List ByteArray,zs.length≤gm zs
 | []=>bO _
 |z::l=>by
  have:=ML l
  show l.length+1≤z.size+16+gm l
  omega
def MZ (z:ByteArray):bL [z]=jK z:=by simp [bL]
def zo (z:ByteArray):gm [z]=z.size+16:=rfl
def QZ (g d:Nat) (zs:List ByteArray) (CQ: ∀z∈zs,z.size≤4096) (hb:(bL zs).length≤4194304):Ct Cp 67 #[pv g] (fun _=>True) [bJ g 154 [pv d,sl none 0 0,iv 0,iv 0,iv 0,.bool false],j6 d (bL zs) (bL zs)] (fun v Cs=> ∃A c,v=iv 0∧Cs= [bJ g 154 [pv d,sl A zs.length c,iv (gm zs:Int),iv 0,iv ((bL zs).length:Int),.bool false],j6 d (bL zs) (bL zs),fZ.row A c zs]):=by
 refine Fz [.b g 154 [pv d,sl none 0 0,iv 0,iv 0,iv 0,.bool false],.k (j6 d (bL zs) (bL zs))] Tryz.func67 fun U w0 hp=>aa 7 fun _=>ah (Mj g (sl none 0 0) (iv 0) (iv 0) (iv 0) (.bool false) d (bL zs) (bL zs) (by omega)) [0,1] cJ ?_
 rintro _ _ ⟨A1,c2,rfl,rfl⟩
 refine dB 2 g 154 qo5<|aa 21 fun _=>aq ((([]:List UInt8).length:Int)>0) (fun h3=>?_) (fun h3=>?_)
 ·exact (show False from by simp at h3).elim
 ·refine ae 8 [2] fun _=>ah (Mi g (sl none 0 0) (iv 0) (iv 0) (iv 0) (.bool false) d (bL zs) (bL zs) (by omega)) [2,3] cJ ?_
  rintro _ _ ⟨A4,c5,rfl,rfl⟩
  refine dB 5 g 154 qo5<|aa 19 fun _=>dN (φ:=(bL zs).length≤c5) (fun w h=>h.mR (K:=aA) 7 A4 c5 (bL zs) kr) fun ZQ=>bD (QA g A4 c5 (bL zs) (pv d) (iv 0) (.bool false) zs rfl CQ (by omega) ZQ) [5] (fun w F h=>h.F8 7 A4 c5 (bL zs) kr) ?_
  rintro _ _ ⟨A7,c8,rfl,rfl⟩
  refine dB 8 g 154 [pv d,sl A7 zs.length c8,iv (gm zs:Int),iv 0,iv ((bL zs).length:Int),.bool false]<|ae 11 [8] fun _=>aq (((bL zs).length:Int)<((bL zs).length:Int)) (fun h9=>?_) (fun h9=>?_)
  ·exact kp
  ·refine ae 12 [8] fun _=>iH 3<|ae 26 [8] fun _=>ah (xi d (bL zs) (bL zs) (by omega)) [6] cJ ?_
   rintro _ _ ⟨rfl,rfl⟩
   refine ae 33 [8] fun _=>ah (HP d (bL zs) (bL zs) (by omega)) [10] cJ ?_
   rintro _ _ ⟨rfl,rfl⟩
   refine aa 19 fun _=>a_ [8,11,9] ⟨A7,c8,kr,kr⟩
def Pu (d:Nat) (zs:List ByteArray) (CQ: ∀z∈zs,z.size≤4096) (hb:(bL zs).length≤4194304):Ct Cp 44 #[pv d] (fun _=>True) [j6 d (bL zs) (bL zs)] (fun v Cs=> ∃(g:Nat),v=.tuple #[pv g,iv 0]∧Cs= [vN g d (bL zs) zs]):=by
 refine Fz [.k (j6 d (bL zs) (bL zs))] Tryz.func44 fun U w0 hp=>aa 24 fun a8=>ah (QZ (a8 17) d zs CQ (by omega)) [1,0] cJ ?_
 rintro _ _ ⟨A2,c3,rfl,rfl⟩
 refine dB 2 (a8 17) 154 [pv d,sl A2 zs.length c3,iv (gm zs:Int),iv 0,iv ((bL zs).length:Int),.bool false]<|aa 15 fun _=>aJ (PH (a8 17) d (bL zs) zs) [2,3,4] [bJ (a8 17) 154 [pv d,sl A2 zs.length c3,iv (gm zs:Int),iv 0,iv ((bL zs).length:Int),.bool false],j6 d (bL zs) (bL zs),fZ.row A2 c3 zs] (⟨A2,c3,rfl⟩)<|a_ [5] ⟨a8 17,kr,kr⟩
def zu (c0:Nat):Ct Cp 68 #[sl none 0 c0] (fun _=>True) [] (fun v Cs=> ∃A c,v=sl A (([]:List ByteArray).length) c∧Cs= [fZ.row A c ([]:List ByteArray)]):=by
 refine cc Tryz.func68 fun w0 hp=>bG fZ<|R4
def zw (a:Addr) (bb:Nat) (xs:List ByteArray) (hb:xs.length≤1073741824):Ct Cp 68 #[sl (some a) xs.length bb] (fun w=>fZ.Rd (some a) xs w) [] (fun v Cs=> ∃A c,v=sl A xs.length c∧Cs= [fZ.row A c xs]):=by
 refine cc Tryz.func68 fun w0 hp=>aa 16 fun a8=>mi fZ 0 (a8 14) 0 []<|bQ fZ 0 (so (a8 14)) 0 [] (some a) xs.length bb xs il RX fun A2 c3=>R3
def Q0 (aU:OA) (bb:Nat) (xs:List ByteArray) (hb:xs.length≤1073741824):Ct Cp 68 #[sl aU xs.length bb] (fun w=>fZ.Rd aU xs w) [] (fun v Cs=> ∃A c,v=sl A xs.length c∧Cs= [fZ.row A c xs]):=by
 cases aU with
 |none=>
  intro U w hp hS
  have hc:xs= []:=dV.1 (Nat.eq_zero_of_not_pos fun h=>RW)
  subst hc
  exact zu bb U w trivial hS
 |some a=>exact zw a bb xs hb
def Ur (g d:Nat) (K:List UInt8) (zs:List ByteArray) (hb:zs.length≤1073741824):Ct Cp 45 #[pv g] (fun _=>True) [vN g d K zs] (fun v Cs=> ∃A c,v=sl A zs.length c∧Cs= [vN g d K zs,fZ.row A c zs]):=by
 refine Fz [.k (vN g d K zs)] Tryz.func45 fun U w0 hp=>bn (φ:=PH g d K zs) 0 ?_
 rintro _ ⟨A,c,rfl⟩
 refine dB 1 g 154 qgc<|ae 10 [1] fun _=>ah (Q0 A c zs (by omega)) [] (fun w h=>h.bg 3 A c zs kr) ?_
 rintro _ _ ⟨A1,c2,rfl,rfl⟩
 refine aa 2 fun _=>aJ (PH g d K zs) [1,2,3] [bJ g 154 [pv d,sl A zs.length c,iv (gm zs:Int),iv 0,iv ((bL zs).length:Int),.bool false],j6 d K (bL zs),fZ.row A c zs] (⟨A,c,rfl⟩)<|a_ [5,4] ⟨A1,c2,kr,kr⟩
def Ib (g:Nat) (z:ByteArray) (d:Nat) (K:List UInt8) (zs:List ByteArray) (hz:z.size≤4096) (hs:gm zs+z.size+16≤2097152):Ct Cp 167 #[pv g,.string z] (fun _=>True) [vN g d K zs] (fun v Cs=>v=iv 0∧Cs= [vN g d K (zs++ [z])]):=by
 refine Fz [.k (vN g d K zs)] Tryz.func167 fun U w0 hp=>?_
 have hlb:=qA zs
 have hln:=ML zs
 have W9:=qZ z
 refine bn (φ:=PH g d K zs) 0 ?_
 rintro _ ⟨A,c,rfl⟩
 refine dB 1 g 154 qgc<|ae 22 [1] fun _=>aq ((z.size:Int)>4096) (fun h1=>?_) (fun h1=>?_)
 ·exact kp
 ·refine aa 5 fun _=>ao 19 ((z.size:Int)+16)<|ae 5 [1] fun _=>ao 24 (2097152- (gm zs:Int))<|aa 3 fun _=>aq (((z.size:Int)+16)>(2097152- (gm zs:Int))) (fun h2=>?_) (fun h2=>?_)
  ·exact kp
  ·refine aa 6 fun nB=>ah (UN (so (nB 5)) 1 z (by omega)) [] (fun w h=>h.eT 4 (nB 5) 9 (List.flatMap fZ.f [z]) kr) ?_
   rintro _ _ ⟨A4,c5,rfl,rfl⟩
   refine aa 4 fun _=>dN (φ:=(jK z).length≤c5) qoi fun ZQ=>dN (φ:=(jK z).length≤c5) qoi fun hk7=>aO [(14,_),(15,_)] [1,1,1] ⟨fJ (fun vs=>HO d A4 c5 (jK z) K (bL zs) (by omega) (by omega) hk7) [2] (fun vs=>iv 0) [fun vs=>.k (j6 d K ((bL zs)++(jK z)))] (fun vs w F h=>h.XS 4 A4 c5 (jK z) kr) ko,qtr,trivial⟩ fun v8=>aa 8 fun _=>aO [(9,_),(16,_),(17,_),(24,_)] [7,7,7,7,10,11] ⟨ib fZ 3 (fun vs=>A) (fun vs=>c) (fun vs=>zs) (fun vs=>some ⟨(a5 (vs 8)),0,none⟩) (fun vs=>1) (fun vs=>1) (fun vs=> [z]) (fun vs w h=>h.eT 7 (a5 (vs 8)) 9 (List.flatMap fZ.f [z]) kr),fc (fun vs=>(gm zs:Int)+(z.size:Int)),fc (fun vs=>((gm zs:Int)+(z.size:Int))+16),fc (fun vs=>((bL zs).length:Int)+((jK z).length:Int)),trivial⟩ fun v9=>aa 4 fun _=>aJ (PH g d K (zs++ [z])) [12,6,9] [bJ g 154 [pv d,sl (ak (v9 9)) ((zs++ [z]).length) (an (v9 9)),iv (((gm zs:Int)+(z.size:Int))+16),iv 0,iv (((bL zs).length:Int)+((jK z).length:Int)),.bool false],j6 d K ((bL zs)++(jK z)),fZ.row (ak (v9 9)) (an (v9 9)) (zs++ [z])] (⟨ak (v9 9),an (v9 9),by rw [show gm (zs++ [z])=gm zs+z.size+16 by rw [ju,zo];omega,show bL (zs++ [z])=bL zs++jK z by rw [Mq,MZ],show (bL zs++jK z).length=(bL zs).length+(jK z).length from bm];rfl⟩)<|qpf
def QP (g d:Nat) (K:List UInt8) (zs:List ByteArray) (hs:gm zs≤2097152):Ct Cp 168 #[pv g] (fun _=>True) [vN g d K zs] (fun v Cs=>v=iv 0∧Cs= [vN g d (bL zs) zs]):=by
 refine Fz [.k (vN g d K zs)] Tryz.func168 fun U w0 hp=>?_
 have hlb:=qA zs
 refine bn (φ:=PH g d K zs) 0 ?_
 rintro _ ⟨A,c,rfl⟩
 refine dB 1 g 154 qgc<|ae 15 [1] fun _=>aO [(9,_),(10,_)] [1,1] ⟨aY (fun vs=>xi d K (bL zs) (by omega)) [2] (fun vs=>iv 0) [fun vs=>.k (j6 d (bL zs) (bL zs))] nE ko,qtr,trivial⟩ fun v1=>aJ (PH g d (bL zs) zs) [5,4,3] [bJ g 154 [pv d,sl A zs.length c,iv (gm zs:Int),iv 0,iv ((bL zs).length:Int),.bool false],j6 d (bL zs) (bL zs),fZ.row A c zs] (⟨A,c,rfl⟩)<|a_ [6] ⟨kr,kr⟩
section
def Cw (o:bz):ByteArray:=⟨(iL o).toArray⟩
def Vy (o:bz):(⟨((iL o).map id).toArray⟩:ByteArray)=Cw o:=by rw [List.map_id];rfl
def Zv (o:bz):zB (Cw o)=iL o:=by simp [Cw]
def j3 (o:bz):(Cw o).size=(iL o).length:=by show (iL o).toArray.size=_;simp
abbrev bU (l:List bz):List ByteArray:=l.map Cw
abbrev vZ (m:List aT):List ByteArray:=m.map fun x=>Cw x.o
abbrev vO (m:List aT):List bz:=m.map (·.o)
def hZ (A:OA) (c:Nat) (l:List bz) (Cs:List aM):Prop:= ∃ys:List aT,ys.map (·.o)=l∧Cs= [bx.row A c ys,aM.all (ys.map aT.own)]
def cV (A:OA) (c:Nat) (l:List bz):aM:=g9 (hZ A c l)
section
variable {n:Nat} {U F:Nat→Prop} {w0 w:World} {Q:Exit→Act→World→Prop} {s:S} {ez:Ez} {hs:List Nat} {i:Nat}
def DZ {A B:OA} {c c2 i:Nat} {l m:List bz} {K':List aM} {z:Op×TypeId} {L:Env} {ops:Array Oper} (hx:ef ops L i=some z) (h:uy Tryz.prog L z=some (56,.slice A l.length c,.slice B m.length c2)) (mL:fK Tryz.prog bx.e bx.sz=true)
 (hS:SS U w0 w (cV A c l::cV B c2 m::K')) (hb:l.length+m.length≤1073741824) {Post:Value→World→Prop} (hp: ∀A' c' w',SS U w0 w' (cV A' c' (l++m)::K')→Post (.slice A' (l++m).length c') w'):One Tryz.prog n ops Q i L w Post:=by
 obtain ⟨C1,⟨xs,rfl,rfl⟩,h1⟩:=SS.g9 hS
 have h2:SS U w0 w (cV B c2 m:: [bx.row A c xs,aM.all (xs.map aT.own)]++K'):=h1.perm (List.perm_middle (l₁:= [bx.row A c xs,aM.all (xs.map aT.own)]) (l₂:=K'))
 obtain ⟨C2,⟨ys,rfl,rfl⟩,h3⟩:=SS.g9 h2
 rw [cM,cM] at h hb
 refine tg bx (i':=2) hx h mL h3 rfl (ys:=ys) (SS.get h3 (i:=0) rfl fun F hF=>Row.rc hF.2) rfl hb fun A' c' w' hw=>?_
 have h4:SS U w0 w' (bx.row A' c' (xs++ys)::aM.all (xs.map aT.own)::aM.all (ys.map aT.own)::K'):=by
  have h5:=SS.tail hw
  refine h5.perm ?_
  exact (List.Perm.swap _ _ _).trans (List.Perm.cons _ (List.Perm.swap _ _ _))
 have h6:SS U w0 w' ([bx.row A' c' (xs++ys),aM.all ((xs++ys).map aT.own)]++K'):=by
  rw [cT]
  generalize xs.map aT.own=X at h4
  generalize ys.map aT.own=Y at h4
  have a1:SS U w0 w' (aM.all X::aM.all Y::bx.row A' c' (xs++ys)::K'):=h4.perm ((List.Perm.swap _ _ _).trans (List.Perm.cons _ (List.Perm.swap _ _ _)))
  have a2:SS U w0 w' (aM.all Y::(X++bx.row A' c' (xs++ys)::K')):=(SS.all a1).perm List.perm_middle
  have a3:SS U w0 w' ((X++Y)++bx.row A' c' (xs++ys)::K'):=(SS.all a2).perm (by rw [← cH];exact List.Perm.append_right _ List.perm_append_comm)
  exact (SS.tz a3).perm (List.Perm.swap _ _ _)
 have:=hp A' c' w' (SS.rE h6 ⟨xs++ys,by rw [cT],rfl⟩)
 rw [← cT,cM] at this
 rw [← cT] at hp
 exact Rf
def L8 (r1 r2:Nat) (A B:(Nat→Value)→OA) (c c2:(Nat→Value)→Nat) (l m:List bz)
 (h: ∀vs,(s.ox Tryz.prog n ez hs i vs (uy Tryz.prog),(s.D Tryz.prog n ez hs vs).jh [r1,r2],fK Tryz.prog bx.e bx.sz)=(some (56,.slice (A vs) l.length (c vs),.slice (B vs) m.length (c2 vs)),[cV (A vs) (c vs) l,cV (B vs) (c2 vs) m],true)) (hb:l.length+m.length≤1073741824):
 ke Tryz.prog n U w0 s ez hs i ⟨[r1,r2],fun vs=>.slice (ak (vs i)) (l++m).length (an (vs i)),[fun vs=>.k (cV (ak (vs i)) (an (vs i)) (l++m))]⟩:=by
 refine ⟨fun vs Q' w K' hS=>?_⟩
 have hh:=h vs
 simp only [bI] at hh
 obtain ⟨h1,h2,h3⟩:=hh
 obtain ⟨x,hx,h1⟩:=S.dU h1
 simp only at hS
 rw [h2] at hS
 refine DZ hx h1 h3 hS hb fun A' c' w' hw=>?_
 have e:ik vs i (.slice A' (l++m).length c') i=.slice A' (l++m).length c':=kR _ _ _
 exact qkd
end
def Us (g d:Nat) (K:List UInt8) (l:List bz) (Cs:List aM):Prop:= ∃(p:Nat) (A:OA) (c:Nat),
 Cs= [bJ g 125 [pv p,.slice A l.length c,iv (gm (bU l)),.bool false],vN p d K (bU l),cV A c l]
def zL (g d:Nat) (K:List UInt8) (l:List bz):aM:=g9 (Us g d K l)
def _root_.Go.bE.Ct.mono {P:Program} {f:FuncId} {args:Array Value} {jx _M:World→Prop} {C:List aM} {R R':Value→List aM→Prop} (h:Ct P f args jx C R) (hp: ∀w,_M w→jx w) (hR: ∀v Cs,R v Cs→ ∃Cs',R' v Cs'∧ ∀U w0 w,SS U w0 w Cs→SS U w0 w Cs'):Ct P f args _M C R':=fun U w h1 h2=>
 (h U w (hp w h1) h2).mono fun _ w' ⟨v,he,Cs,hr,hs⟩=>by
  obtain ⟨Cs',h3,h4⟩:=hR v Cs hr
  exact ⟨v,he,Cs',h3,h4 _ _ _ hs⟩
def yJ (aU:OA) (bb:Nat) (xs:List aT):Ct Tryz.prog 49 #[.slice aU xs.length bb] (fun w=>ir aU xs w) [] (fun v Cs=> ∃(A:OA),∃(c:Nat),v=.slice A (xs.map (·.o)).length c∧Cs= [cV A c (xs.map (·.o))]):=
 (UL aU bb xs).mono (fun _ h=>h) fun v Cs ⟨A,c,ys,h1,h2,h3⟩=>⟨_,⟨A,c,by rw [← h2,cM];exact h1,rfl⟩,fun U w0 w hS=>SS.rE (K:= []) qo2 ⟨ys,h2,h3⟩⟩
def qz {l:List bz} (h: ∀o∈l,bV o):gm (bU l)≤416*l.length:=by
 induction l with
 |nil=>exact bO _
 |cons x l ih=>
  have h1:=ih fun y hy=>h y (bH _ hy)
  have h2:=ku (h x cE)
  show (Cw x).size+16+gm (bU l)≤_
  rw [j3,dM]
  omega
def w7 {l:List bz} (h: ∀o∈l,bV o): ∀z∈bU l,z.size≤4096:=by
 intro z hz
 obtain ⟨o,ho,rfl⟩:=List.mem_map.1 hz
 have:=ku (h o ho)
 rw [j3]
 omega
end

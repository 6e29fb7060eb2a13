/- For the law of worlds: What functions do; What lies in memory. -/
import Derived.Test.YtfookmefmjhonaaGreatZ19
set_option linter.all false
namespace Go.Proofs.YtfookmefmjhonaaGreat.My
open Go.RowKit Go.bE
def MJ {zs:List ByteArray} {k:Nat} {z:ByteArray} (h:zs[k]? =some z):gm (zs.take k)+z.size+16≤gm zs:=by
 have:=Mh h
 have e:=congrArg gm (List.take_append_drop (k+1) zs)
 rw [ju] at e
 omega
def MK (Al:OA) (cl:Nat) (l:List aT) (hm: ∀x∈l,bV x.o) (hl:l.length≤100000):Ct Cp 115 #[sl Al l.length cl] (fun w=>ir Al l w) [] (fun v Cs=> ∃A c,v=.tuple #[sl A ((vZ l).length) c,iv (gm (vZ l):Int),iv 0]∧Cs= [fZ.row A c (vZ l)]):=by
 refine cc Tryz.func115 fun w0 hp=>aa 14 fun _=>bG fZ<|aR (σ:=Nat×OA×Nat×List ByteArray) (fun (k,B,d,ys)=> [(2,sl B ys.length d),(3,iv (gm ys:Int)),(4,iv 0),(9,sl Al l.length cl),(10,iv (l.length:Int)),(11,iv k)]) (fun (k,B,d,ys)=> [.k (fZ.row B d ys)]) (fun (k,B,d,ys)=>k≤l.length∧ys=(l.take k).map (fun x=>Cw x.o)∧ys.length=k∧gm ys≤416*k) (fun (k,B,d,ys)=>l.length-k) (0,none,0,[]) [0] ⟨by omega,rfl,rfl,bO _⟩ ?_
 rintro _ ⟨k,B,d,ys⟩ ⟨hk,AL,mJ,pq⟩ aB
 refine aa 5 fun _=>aq ((k:Int)<(l.length:Int)) (fun h1=>?_) (fun h1=>?_)
 ·refine aa 5 fun _=>aV Al l.length (k:Int) 12 (fun w h=>Kd.cd (K:=bx) (xs:=l) (hp.2.1.aE h.ch) (by omega)) ?_
  obtain ⟨x2,e3⟩:=aw (xs:=l) (k:=k) (by omega)
  refine bd 56 (ad Al (k*12) 0) (bx.V x2) qjk<|ae 6 [1,1] fun rM=>ah (QE x2 (hm _ (aI e3))) [] (fun w h=>(show aT.Rd _ _ from (hp.2.2 x2 (aI e3)).aE h.ch)) ?_
  rintro _ _ ⟨A5,c6,rfl,rfl⟩
  refine aa 17 fun _=>wo aA A5 ((iL x2.o).length) c6 (iL x2.o) id jL (fun w h=>h.bg 2 A5 c6 (iL x2.o) kr)<|aC 25 (.string (Cw x2.o)) (.string (⟨((iL x2.o).map id).toArray⟩:ByteArray)) (congrArg Value.string (Vy _))<|aa 1 fun AA=>bQ fZ 0 B d ys (so (AA 0)) 1 1 [(Cw x2.o)] (fun w h=>h.eT 3 (AA 0) 9 (List.flatMap fZ.f [(Cw x2.o)]) kr) (by omega) fun A8 c9=>aa 4 fun _=>ao (e:=by have:=ku (hm _ (aI e3));omega) 31 ((gm ys:Int)+((iL x2.o).length:Int))<|aa 1 fun _=>ao (e:=by have:=ku (hm _ (aI e3));omega) 32 (((gm ys:Int)+((iL x2.o).length:Int))+16)<|aC 32 (iv (gm (ys++ [(Cw x2.o)]):Int)) (iv (((gm ys:Int)+((iL x2.o).length:Int))+16)) (iT (by rw [ju,zo,j3];omega))<|aa 6 fun _=>?_
  refine ao (e:=by have:=ku (hm _ (aI e3));omega) 33 ((k:Int)+1)<|aa 2 fun _=>aB _ (k+1,A8,c9,ys++ [(Cw x2.o)]) [0] kr ⟨by omega,by rw [AL,← bp e3,cT];rfl,by rw [bm,mJ];rfl,by rw [ju,zo];have:=ku (hm _ (aI e3));have:=j3 x2.o;omega⟩ du
 ·refine aa 9 fun _=>?_
  have eys:ys=vZ l:=by rw [AL,cA (by omega)]
  refine aS fZ 0 B d ys (vZ l) kr eys<|a_ [1] ⟨B,d,kt (.tuple #[sl B ys.length d,iv (gm ys:Int),iv 0]) (by rw [eys]),kr⟩
def D7 (g:Nat) (NH:OA) (czs:Nat) (zs:List ByteArray) (p:Nat) (x1 x2 x3:Value) (d:Nat) (K:List UInt8) (ws:List ByteArray) (hz: ∀z∈zs,z.size≤4096) (hs:gm ws+gm zs≤2097152):hO Cp 116 #[pv g,sl NH zs.length czs] (fun U w=>fZ.gx NH zs U w) [bJ g 125 [pv p,x1,x2,x3],vN p d K ws] (fun v Cs=>v=iv 0∧Cs= [bJ g 125 [pv p,x1,x2,x3],vN p d (bL (ws++zs)) (ws++zs)]):=by
 refine kz [.b g 125 [pv p,x1,x2,x3],.k (vN p d K ws)] Tryz.func116 fun U w0 hp=>?_
 have hln:=ML zs
 refine aa 12 fun _=>aR (σ:=Nat×List ByteArray) (fun (k,fE)=> [(0,pv g),(4,iv 0),(8,sl NH zs.length czs),(9,iv (zs.length:Int)),(10,iv k)]) (fun (k,fE)=> [.b g 125 [pv p,x1,x2,x3],.k (vN p d K fE)]) (fun (k,fE)=>k≤zs.length∧fE=ws++zs.take k) (fun (k,fE)=>zs.length-k) (0,ws) [0,1] ⟨by omega,by simp⟩ ?_
 rintro _ ⟨k,fE⟩ ⟨hk,hv⟩ aB
 refine aa 5 fun _=>aq ((k:Int)<(zs.length:Int)) (fun h1=>?_) (fun h1=>?_)
 ·refine aa 5 fun _=>aV NH zs.length (k:Int) 1 (fun w h=>Kd.cd (K:=fZ) (xs:=zs) ((hp.aE h.ch).rc) (by omega)) ?_
  obtain ⟨x2,e3⟩:=aw (xs:=zs) (k:=k) (by omega)
  refine bd 9 (ad NH (k*1) 0) (.string x2) (fun w h=>bW (K:=fZ) ((hp.aE h.ch).rc) e3)<|ae 9 [0] fun _=>ah (Ib p x2 d K fE (hz _ (aI e3)) (by have:=MJ e3;rw [hv,ju];omega)) [1] cJ ?_
  rintro _ _ ⟨rfl,rfl⟩
  refine aa 12 fun _=>ao 23 ((k:Int)+1)<|aa 2 fun _=>aB _ (k+1,fE++ [x2]) [0,2] kr ⟨by omega,by rw [hv,cH,bp e3]⟩ du
 ·refine ae 7 [0] fun _=>ah (QP p d K fE (by rw [hv,ju,cA (by omega)];omega)) [1] cJ ?_
  rintro _ _ ⟨rfl,rfl⟩
  refine aa 2 fun _=>aD 2 (vN p d (bL fE) fE) (vN p d (bL (ws++zs)) (ws++zs)) kr (by rw [hv,cA (by omega)])<|a_ [0,3] ⟨kr,kr⟩
def Bw (g:Nat) (Am:OA) (cm:Nat) (m:List aT) (d:Nat) (K:List UInt8) (l:List bz) (hm: ∀x∈m,bV x.o) (hl: ∀o∈l,bV o) (hb:l.length+m.length≤4000):hO Cp 79 #[pv g,sl Am m.length cm] (fun U w=>ka Am m U w) [zL g d K l] (fun v Cs=>v=iv 0∧Cs= [zL g d (bL (bU (l++vO m))) (l++vO m)]):=by
 refine kz [.k (zL g d K l)] Tryz.func79 fun U w0 hp=>?_
 have pq:=qz hl
 have Ix: ∀o∈vO m,bV o:=by simpa using hm
 have JB:=qz Ix
 have hmz:bU (vO m)=vZ m:=by simp
 have PB: ∀z∈vZ m,z.size≤4096:=by rw [← hmz];exact w7 Ix
 rw [cM,hmz] at JB
 refine bn (φ:=Us g d K l) 0 ?_
 rintro _ ⟨p,A,c,rfl⟩
 refine dB 1 g 125 Zd<|ae 17 [1] fun _=>ah (MK Am cm m hm (by omega)) [] (fun w h=>(hp.aE h.ch).rd) ?_
 rintro _ _ ⟨A1,c2,rfl,rfl⟩
 refine ae 25 [1] fun _=>ao 29 (2097152- (gm (bU l):Int))<|aa 3 fun _=>aq ((gm (vZ m):Int)>(2097152- (gm (bU l):Int))) (fun h3=>?_) (fun h3=>?_)
 ·exact kp
 ·refine aa 7 fun _=>bD (D7 g A1 c2 (vZ m) p (sl A l.length c) (iv (gm (bU l):Int)) (.bool false) d K (bU l) PB (by omega)) [1,2] (fun w F h=>h.F8 4 A1 c2 (vZ m) kr) ?_
  rintro _ _ ⟨rfl,rfl⟩
  refine dB 5 g 125 Zd<|aa 10 fun _=>aO [(7,_),(8,_),(14,_)] [5,5,5,9] ⟨aY (fun vs=>yJ Am cm m) [] (fun vs=>sl (ak (vs 7)) ((vO m).length) (an (vs 7))) [fun vs=>.k (cV (ak (vs 7)) (an (vs 7)) (vO m))] (fun vs w h=>(hp.aE h.ch).rd) kA,L8 3 7 (fun vs=>A) (fun vs=>(ak (vs 7))) (fun vs=>c) (fun vs=>(an (vs 7))) l (vO m) (fun _=>kr) OO,fc (fun vs=>(gm (bU l):Int)+(gm (vZ m):Int)),trivial⟩ fun v8=>aa 4 fun _=>?_
  have hz:bU (l++vO m)=bU l++vZ m:=by simp
  refine aJ (Us g d (bL (bU (l++vO m))) (l++vO m)) [10,6,8] [bJ g 125 [pv p,sl (ak (v8 8)) ((l++(vO m)).length) (an (v8 8)),iv ((gm (bU l):Int)+(gm (vZ m):Int)),.bool false],vN p d (bL ((bU l)++(vZ m))) ((bU l)++(vZ m)),cV (ak (v8 8)) (an (v8 8)) (l++(vO m))] (⟨p,ak (v8 8),an (v8 8),by rw [hz,ju];rfl⟩)<|a_ [11] ⟨kr,kr⟩
def Hr (l:List bz) (o:bz):bU (l++ [o])=bU l++ [Cw o]:=by simp
def Zu {r:List bz} {x:ByteArray} (h:(bU r)[0]? =some x): ∃o,x=Cw o∧r=o::r.drop 1:=by
 cases r with
 |nil=>simp at h
 |cons o r=>exact ⟨o,by simpa using h.symm,rfl⟩
def Ht (g:Nat) (z:ByteArray) (x0 x3:Value) (o:bz) (l:List bz) (A:OA) (c:Nat) (hz:z=Cw o) (hm:bV o) (hl:l.length≤100000) (hs:gm (bU l)≤100000000):Ct Cp 46 #[pv g,.string z] (fun _=>True) [bJ g 125 [x0,sl A l.length c,iv (gm (bU l):Int),x3],cV A c l] (fun v Cs=> ∃A2 c2,v=.bool true∧Cs= [bJ g 125 [x0,sl A2 ((l++ [o]).length) c2,iv (gm (bU (l++ [o])):Int),x3],cV A2 c2 (l++ [o])]):=by
 refine Fz [.b g 125 [x0,sl A l.length c,iv (gm (bU l):Int),x3],.k (cV A c l)] Tryz.func46 fun U w0 hp=>bn (φ:=hZ A c l) 1 ?_
 rintro _ ⟨iA,lz,rfl⟩
 refine bP 0 g 125 [x0,sl A l.length c,iv (gm (bU l):Int),x3] [x0,sl A iA.length c,iv (gm (bU l):Int),x3] kr qpa ?_
 have mJ:iA.length=l.length:=by rw [← lz,cM]
 have hob:=ku hm
 have CQ:z.size=(iL o).length:=by rw [hz,j3]
 refine aa 7 fun _=>Rh aA z (iL o) id jL (by rw [List.map_id,hz];exact (Zv o).symm) fun a3 c4 hc5=>aC 10 (sl (some a3) ((iL o).length) c4) (sl (some a3) z.size c4) (by rw [hz,j3])<|ah (KZ (some a3) c4 (iL o) o [] ((fj _).symm) hm (by omega) T3) [] (fun w h=>h.rcA 4 (some a3) (iL o) kr) ?_
 rintro _ _ ⟨A6,c7,rfl,rfl⟩
 refine ae 21 [6] fun sf=>cU (((iL o).length:Int)=(z.size:Int)) (fun h9=>?_) (fun h9=>?_)
 ·exact (show False from h9 (by rw [hz,j3])).elim
 ·refine aa 2 fun _=>aO [(8,_),(15,_),(16,_)] [0,6,0,0,9] ⟨ib bx 2 (fun vs=>A) (fun vs=>c) (fun vs=>iA) (fun vs=>some ⟨(a5 (vs 7)),0,none⟩) (fun vs=>1) (fun vs=>1) (fun vs=> [(⟨o,A6,c7⟩:aT)]) (fun vs w h=>h.eT 6 (a5 (vs 7)) 56 (List.flatMap bx.f [(⟨o,A6,c7⟩:aT)]) kr),fc (e:=fun _=>qm4) (fun vs=>(gm (bU l):Int)+(z.size:Int)),fc (e:=fun _=>qm4) (fun vs=>((gm (bU l):Int)+(z.size:Int))+16),trivial⟩ fun v10=>aa 4 fun _=>eD aT.own 5 3 iA (⟨o,A6,c7⟩:aT) kr<|aJ (hZ (ak (v10 8)) (an (v10 8)) (l++ [o])) [8,11] [bx.row (ak (v10 8)) (an (v10 8)) (iA++ [(⟨o,A6,c7⟩:aT)]),aM.all ((iA++ [(⟨o,A6,c7⟩:aT)]).map aT.own)] (⟨iA++ [(⟨o,A6,c7⟩:aT)],by rw [cT,lz];rfl,rfl⟩)<|bP 10 g 125 [x0,sl (ak (v10 8)) ((iA++ [(⟨o,A6,c7⟩:aT)]).length) (an (v10 8)),iv (((gm (bU l):Int)+(z.size:Int))+16),x3] [x0,sl (ak (v10 8)) ((l++ [o]).length) (an (v10 8)),iv (gm (bU (l++ [o])):Int),x3] kr (by rw [show gm (bU (l++ [o]))=gm (bU l)+z.size+16 by rw [Hr,ju,hz];exact (Nat.add_assoc _ _ _).symm,show (l++ [o]).length=(iA++ [(⟨o,A6,c7⟩:aT)]).length by simp [mJ]];rfl)<|a_ [10,12] ⟨ak (v10 8),an (v10 8),kr,kr⟩
def Hu (d:Nat) (l:List bz) (hm: ∀o∈l,bV o) (hl:l.length≤4000):Ct Cp 23 #[pv d] (fun _=>True) [j6 d (bL (bU l)) (bL (bU l))] (fun v Cs=> ∃(g:Nat),v=.tuple #[pv g,iv 0]∧Cs= [zL g d (bL (bU l)) l]):=by
 refine Fz [.k (j6 d (bL (bU l)) (bL (bU l)))] Tryz.func23 fun U w0 hp=>?_
 have WG:=qz hm
 refine aa 5 fun _=>ed 0 (σ:=List bz×List bz×OA×Nat×OA×Nat×Nat×Nat) (fun (t,r,A,c,B,d_,p,g)=> [(0,pv d),(2,.pointer none),(3,iv 0),(6,pv g),(7,sl B ((bU r).length) d_)]) (fun (t,r,A,c,B,d_,p,g)=> [.b g 125 [pv p,sl A t.length c,iv (gm (bU t):Int),.bool false],.k (cV A c t),.k (fZ.fH B d_ (bU r)),.k (vN p d (bL (bU l)) (bU l))]) (fun (t,r,A,c,B,d_,p,g)=>t++r=l∧t.length+r.length=l.length) (fun (t,r,A,c,B,d_,p,g)=>r.length) ?_ ?_
 ·intro _ cG
  refine aa 3 fun _=>ah (Pu d (bU l) (w7 hm) (by have:=qA (bU l);omega)) [0] cJ ?_
  rintro _ _ ⟨g1,rfl,rfl⟩
  refine aa 24 fun ld=>ah (Ur g1 d (bL (bU l)) (bU l) OO) [1] cJ ?_
  rintro _ _ ⟨A3,c4,rfl,rfl⟩
  refine aa 4 fun _=>lY 4 (fZ.row A3 c4 (bU l)) (fZ.fH A3 c4 (bU l)) uB<|bG bx<|dQ<|aJ (hZ none 0 []) [6,7] Wp (⟨[],rfl,rfl⟩)<|cG _ ([],l,none,0,A3,c4,g1,(ld 18)) [2,8,5,3] kr ⟨rfl,by simp⟩
 ·rintro _ ⟨t,r,A,c,B,d_,p,g⟩ ⟨hr,T0⟩ dm
  refine aa 7 fun _=>aq (((bU r).length:Int)=0) (fun h5=>?_) (fun h5=>?_)
  ·refine aa 6 fun _=>?_
   have er:r= []:=dV.1 qo6
   have et:t=l:=by rw [← hr,er,fj]
   refine aJ (Us g d (bL (bU l)) l) [0,3,1] [bJ g 125 [pv p,sl A t.length c,iv (gm (bU t):Int),.bool false],vN p d (bL (bU l)) (bU l),cV A c t] (⟨p,A,c,by rw [et]⟩)<|a_ [4] ⟨g,kr,kr⟩
  ·refine aa 6 fun _=>aV (hj:=by simp only [cM] at*;omega) B ((bU r).length) 0 1 (fun w h=>Kd.cd (K:=fZ) (xs:=bU r) (h.Zw 2 B d_ (bU r) kr) qrx) ?_
   obtain ⟨x6,e7⟩:=aw (xs:=bU r) (k:=0) qrx
   refine bd 9 (ad B (0*1) 0) (.string x6) (fun w h=>bW (K:=fZ) (h.Zw 2 B d_ (bU r) kr) e7) ?_
   obtain ⟨o8,hx9,Zx⟩:=Zu e7
   have vh:o8∈l:=by rw [← hr,Zx];simp
   have hrp:=congrArg List.length Zx
   rw [dM,cL] at hrp
   refine ah (Ht g x6 (pv p) (.bool false) o8 t A c hx9 (hm _ vh) (by omega) (by have:=qz (l:=t) fun y hy=>hm y (by rw [← hr];exact List.mem_append_left _ hy);omega)) [0,1] cJ ?_
   rintro _ _ ⟨po,pK,rfl,rfl⟩
   refine dB 4 g 125 [pv p,sl po ((t++ [o8]).length) pK,iv (gm (bU (t++ [o8])):Int),.bool false]<|aa 5 fun _=>dN (φ:=(bU r).length≤d_) (fun w h=>h.Zy (K:=fZ) 2 B d_ (bU r) kr) fun Ut=>fC B ((bU r).length) d_ 1 1 ((bU r).length) (some (iv 1)) none (⟨_,rfl⟩) qo6 Ut<|lY 2 (fZ.fH B d_ (bU r)) (fZ.fH (dS B d_ 1 1) (d_-1) (bU (r.drop 1))) (by rw [show bU (r.drop 1)=(bU r).drop 1 from List.map_drop ..];exact w8 (K:=fZ) qo6)<|aC 31 (sl (dS B d_ 1 1) ((bU (r.drop 1)).length) (d_-1)) (sl (dS B d_ 1 1) ((bU r).length-1) (d_-1)) (by rw [cM,cM,cL])<|aa 2 fun _=>dm _ (t++ [o8],r.drop 1,po,pK,dS B d_ 1 1,d_-1,p,g) [4,5,6,3] kr ⟨by rw [cH];exact (congrArg (t++ ·) Zx.symm).trans hr,by rw [bm,List.length_singleton,cL];omega⟩ (by dsimp only;rw [cL];omega)
def K0 (g d:Nat) (K:List UInt8) (l:List bz) (hm: ∀o∈l,bV o) (hl:l.length≤4000):Ct Cp 25 #[pv g] (fun _=>True) [zL g d K l] (fun v Cs=> ∃A c,v=sl A l.length c∧Cs= [zL g d K l,cV A c l]):=by
 refine Fz [.k (zL g d K l)] Tryz.func25 fun U w0 hp=>bn (φ:=Us g d K l) 0 ?_
 rintro _ ⟨p,A,c,rfl⟩
 refine dB 1 g 125 Zd<|bn (φ:=hZ A c l) 3 ?_
 rintro _ ⟨iA,lz,rfl⟩
 refine bP 1 g 125 Zd qmz kr qpa<|ae 10 [1] fun _=>ah (yJ A c iA) [] (fun w h=>h.E5 4 5 A c iA kr kr (by rw [← cM (f:=(·.o)),lz];omega) (fun x hx=>gg (hm _ (by rw [← lz];exact di hx)))) ?_
 rintro _ _ ⟨A3,c4,rfl,rfl⟩
 refine aa 2 fun _=>aD 6 (cV A3 c4 (vO iA)) (cV A3 c4 l) kr (by rw [show vO iA=l from lz])<|aJ (hZ A c l) [4,5] qvu (⟨iA,lz,rfl⟩)<|bP 1 g 125 qmz Zd kr qpa<|aJ (Us g d K l) [1,2,8] [bJ g 125 [pv p,sl A l.length c,iv (gm (bU l):Int),.bool false],vN p d K (bU l),cV A c l] (⟨p,A,c,rfl⟩)<|a_ [9,7] ⟨A3,c4,kt (sl A3 ((vO iA).length) c4) (by rw [show vO iA=l from lz]),kr⟩
def nR (a b:cN):bl a b<0↔(a.t<b.t∨a.t=b.t∧a.r<b.r):=by
 exact qfr
def qc (a b:cN):bl a b=0↔a=b:=by
 rw [yg]
 exact qfr
def tU (a b:cN):0<bl a b↔bl b a<0:=by
 rw [nR]
 exact qfr
abbrev slt (a b:cN):Prop:=bl a b<0
def slt.trans {a b c:cN} (h:slt a b) (k:slt b c):slt a c:=by
 unfold slt at*;rw [nR] at*;omega
def slt.RH (a:cN): ¬slt a a:=by unfold slt;rw [nR];omega
def slt.asymm {a b:cN} (h:slt a b): ¬slt b a:=fun k=>slt.RH a (h.trans k)
def slt.ne {a b:cN} (h:slt a b):a≠b:=fun e=>slt.RH a (by rw [e] at h⊢;exact h)
def slt.total (a b:cN):slt a b∨a=b∨slt b a:=by unfold slt;rw [nR,nR,yg];omega
def slt.tT {a b:cN} (h: ¬slt a b) (k:a≠b):slt b a:=((slt.total a b).resolve_left h).resolve_left k
abbrev dI (ns:List Nd):Prop:=ns.Pairwise fun a b=>slt a.id b.id
def dZ (ns:List Nd) (id:cN):Option Nd:=ns.find? fun n=>decide (n.id=id)
def iP {ns:List Nd} {id:cN} {n:Nd} (h:dZ ns id=some n):n∈ns∧n.id=id:=⟨List.mem_of_find?_eq_some h,by simpa using List.find?_some h⟩
def iQ {ns:List Nd} {id:cN}:dZ ns id=none↔ ∀n∈ns,n.id≠id:=by simp [dZ]
def oy {ns:List Nd} (hs:dI ns) {n:Nd} (h:n∈ns):dZ ns n.id=some n:=by
 induction ns with
 |nil=>cases h
 |cons m ns ih=>
  have hp:=iq.1 hs
  rcases dx.1 h with rfl|h
  ·simp [dZ]
  ·have:=(hp.1 n h).ne
   have hi:=ih hp.2 h
   simp only [dZ,List.find?_cons,this,decide_false] at hi⊢
   exact hi
def jH (n:Nd):List Nd→List Nd
 | []=> [n]
 |m::l=>if slt m.id n.id then m::jH n l else if m.id=n.id then n::l else n::m::l
def kN {n:Nd}: ∀ {ns:List Nd},dI ns→ ∀ {m:Nd},m∈jH n ns↔m=n∨(m∈ns∧m.id≠n.id)
 | [],_,m=>by simp [jH]
 |x::ns,hs,m=>by
  have hp:=iq.1 hs
  unfold jH
  split
  ·rename_i h
   simp only [dx,kN hp.2]
   constructor
   ·rintro (rfl|rfl|h2)
    ·exact .inr ⟨.inl rfl,h.ne⟩
    ·exact WD
    ·exact .inr ⟨.inr h2.1,h2.2⟩
   ·rintro (rfl|⟨rfl|h2,h3⟩)
    ·exact .inr (.inl rfl)
    ·exact WD
    ·exact .inr (.inr ⟨h2,h3⟩)
  ·rename_i h
   split
   ·rename_i he
    simp only [dx]
    constructor
    ·rintro (rfl|h2)
     ·exact WD
     ·exact .inr ⟨.inr h2,fun e=>(hp.1 m h2).ne (he.trans e.symm)⟩
    ·rintro (rfl|⟨rfl|h2,h3⟩)
     ·exact WD
     ·exact absurd he h3
     ·exact .inr h2
   ·rename_i he
    have hg:=slt.tT h he
    simp only [dx]
    constructor
    ·rintro (rfl|rfl|h2)
     ·exact WD
     ·exact .inr ⟨.inl rfl,he⟩
     ·exact .inr ⟨.inr h2,fun e=>(hg.trans (hp.1 m h2)).ne e.symm⟩
    ·rintro (rfl|⟨h2,h3⟩)
     ·exact WD
     ·exact .inr h2
def jI {n:Nd}: ∀ {ns:List Nd},dI ns→dI (jH n ns)
 | [],_=>List.pairwise_singleton _ _
 |x::ns,hs=>by
  have hp:=iq.1 hs
  unfold jH
  split
  ·rename_i h
   refine iq.2 ⟨fun m hm=>?_,jI hp.2⟩
   rcases (kN hp.2).1 hm with rfl|hm
   ·exact h
   ·exact hp.1 m hm.1
  ·rename_i h
   split
   ·rename_i he
    exact iq.2 ⟨fun m hm=>by rw [← he];exact hp.1 m hm,hp.2⟩
   ·rename_i he
    have hg:=slt.tT h he
    refine iq.2 ⟨fun m hm=>?_,hs⟩
    exact qls
def dI.ext {a b:List Nd} (ha:dI a) (hb:dI b) (h: ∀m,m∈a↔m∈b):a=b:=by
 induction a generalizing b with
 |nil=>cases b with
  |nil=>rfl
  |cons y b=>exact absurd ((h y).2 cE) (by simp)
 |cons x a ih=>
  cases b with
  |nil=>exact absurd ((h x).1 cE) (by simp)
  |cons y b=>
   have pa:=iq.1 ha
   have pb:=iq.1 hb
   have e:x=y:=by
    rcases dx.1 ((h x).1 cE) with e|h1
    ·exact e
    ·rcases dx.1 ((h y).2 cE) with e|h2
     ·exact e.symm
     ·exact absurd (pb.1 x h1) (pa.1 y h2).asymm
   subst e
   rw [ih pa.2 pb.2 fun m=>?_]
   constructor
   ·intro hm
    rcases dx.1 ((h m).1 (bH _ hm)) with rfl|h1
    ·exact absurd (pa.1 _ hm) (slt.RH _)
    ·exact h1
   ·intro hm
    rcases dx.1 ((h m).2 (bH _ hm)) with rfl|h1
    ·exact absurd (pb.1 _ hm) (slt.RH _)
    ·exact h1
def At (ns:List Nd) (id:cN) (i:Nat):Prop:=i≤ns.length∧(∀m∈ns.take i,slt m.id id)∧ ∀m∈ns.drop i,¬slt m.id id
def ET {ns:List Nd} (hs:dI ns) {id:cN} {i:Nat} (h:At ns id i):dZ ns id=(ns[i]?).filter fun n=>decide (n.id=id):=by
 obtain ⟨h1,h2,h3⟩:=h
 have wR:dZ (ns.take i) id=none:=iQ.2 fun n hn=>(h2 n hn).ne
 have e:dZ ns id=dZ (ns.drop i) id:=by
  have:=List.take_append_drop i ns
  conv=>lhs;rw [← this]
  unfold dZ at wR⊢
  rw [List.find?_append,wR];rfl
 rw [e]
 by_cases hi:i<ns.length
 ·have hd:ns.drop i=ns[i]::ns.drop (i+1):=fI hi
  rw [dw hi]
  have lu:dI (ns.drop i):=List.Pairwise.sublist (List.drop_sublist _ _) hs
  rw [hd] at lu
  have hp:=iq.1 lu
  rw [hd]
  by_cases he:ns[i].id=id
  ·generalize ns[i]=a at he;generalize List.drop (i+1) ns=tl;simp [dZ,Option.filter,he]
  ·have hg:=slt.tT (h3 ns[i] (by rw [hd];exact cE)) he
   have hn:dZ (ns.drop (i+1)) id=none:=iQ.2 fun n hn=>fun e=>(hg.trans (hp.1 n hn)).ne e.symm
   unfold dZ at hn⊢
   generalize ns[i]=a at he
   generalize List.drop (i+1) ns=tl at hn
   rw [List.find?_cons,hn]
   simp [Option.filter,he]
 ·rw [List.getElem?_eq_none (by omega),eJ (by omega)];rfl
def yh {ns:List Nd} {id:cN} {i:Nat} (h:At ns id i) (hn: ∀n,ns[i]? =some n→n.id≠id) {n:Nd} (e:n.id=id):jH n ns=ns.take i++n::ns.drop i:=by
 obtain ⟨h1,h2,h3⟩:=h
 subst e
 induction ns generalizing i with
 |nil=>simp [jH]
 |cons m ns ih=>
  cases i with
  |zero=>
   have h4:=h3 m (by simp)
   have h5:=hn m rfl
   simp [jH,h4,h5]
  |succ i=>
   have h4:=h2 m (by simp)
   simp only [jH,h4,if_true,List.take_succ_cons,List.drop_succ_cons,List.cons_append]
   rw [ih (i:=i) qsg (by simpa using hn) (fun x hx=>h2 x (by simp [hx])) (fun x hx=>h3 x WC)]
def EU {ns:List Nd} {id:cN} {i:Nat} (h:At ns id i) {m:Nd} (hm:ns[i]? =some m) (AY:m.id=id) {n:Nd} (e:n.id=id):jH n ns=ns.set i n:=by
 obtain ⟨h1,h2,h3⟩:=h
 subst e
 induction ns generalizing i with
 |nil=>simp at hm
 |cons x ns ih=>
  cases i with
  |zero=>
   simp only [gQ,a9] at hm
   subst hm
   have h4:=h3 x (by simp)
   simp only [jH,AY,if_true,List.set_cons_zero]
   rw [if_neg (slt.RH _)]
  |succ i=>
   have h4:=h2 x (by simp)
   simp only [jH,h4,if_true,List.set_cons_succ]
   rw [ih (by simpa using hm) qsg (fun x hx=>h2 x (by simp [hx])) (fun x hx=>h3 x WC)]
def TQ {ns:List Nd} (hs:dI ns) {id:cN} {i:Nat} {m:Nd} (hm:ns[i]? =some m) (AY:m.id=id):ns.filter (fun n=>decide (n.id≠id))=ns.take i++ns.drop (i+1):=by
 induction ns generalizing i with
 |nil=>simp at hm
 |cons x ns ih=>
  have hp:=iq.1 hs
  cases i with
  |zero=>
   simp only [gQ,a9] at hm
   subst hm
   simp only [List.filter_cons,AY,ne_eq,not_true_eq_false,decide_false,Bool.false_eq_true,if_false,List.take_zero,List.drop_succ_cons,List.drop_zero,List.nil_append]
   refine List.filter_eq_self.2 fun n hn=>?_
   have:=(hp.1 n hn).ne
   simp only [decide_eq_true_eq]
   exact fun e=>this (AY.trans e.symm)
  |succ i=>
   have hm':ns[i]? =some m:=by simpa using hm
   have hx:x.id≠id:=fun e=>(hp.1 m (aI hm')).ne (e.trans AY.symm)
   simp only [List.filter_cons,hx,ne_eq,not_false_eq_true,decide_true,if_true,List.take_succ_cons,List.drop_succ_cons,List.cons_append]
   have:=ih hp.2 hm'
   simp only [ne_eq] at this
   rw [this]
def km (ns:List Nd) (id:cN):Nat→cN→Bool
 |0,_=>true
 |k+1,at_=>if at_=id then true else match dZ ns at_ with|none=>false|some n=>km ns id k n.par
def lR (ns:List Nd):Prop:= ∃md:cN→Nat,∀n∈ns,md n.par<md n.id
def zE (ns:List Nd):Nat→cN→List Nd
 |0,_=> []
 |k+1,x=>match dZ ns x with|none=> []|some n=>n::zE ns k n.par
def xT {ns:List Nd}: ∀ {k:Nat} {x:cN},∀n∈zE ns k x,n∈ns
 |0,_,n,h=>by simp [zE] at h
 |k+1,x,n,h=>by
  simp only [zE] at h
  split at h
  ·simp at h
  ·rename_i m hm
   rcases dx.1 h with rfl|h
   ·exact (iP hm).1
   ·exact xT n h
def AZ {ns:List Nd} {md:cN→Nat} (hr: ∀n∈ns,md n.par<md n.id): ∀ {k:Nat} {x:cN},∀n∈zE ns k x,md n.id≤md x
 |0,_,n,h=>by simp [zE] at h
 |k+1,x,n,h=>by
  simp only [zE] at h
  split at h
  ·simp at h
  ·rename_i m hm
   have h1:=iP hm
   have h2:=hr m h1.1
   rw [h1.2] at h2
   rcases dx.1 h with rfl|h
   ·rw [h1.2];exact bO _
   ·have:=AZ hr (k:=k) n h;omega
def rJ {ns:List Nd} {md:cN→Nat} (hr: ∀n∈ns,md n.par<md n.id): ∀ {k:Nat} {x:cN},(zE ns k x).Nodup
 |0,_=>by simp [zE]
 |k+1,x=>by
  simp only [zE]
  split
  ·simp
  ·rename_i m hm
   refine List.nodup_cons.2 ⟨fun h=>?_,rJ hr⟩
   have h1:=AZ hr (k:=k) m h
   have h2:=hr m (iP hm).1
   omega
def tL {α:Type} [DecidableEq α]: ∀ {l m:List α},l.Nodup→(∀x∈l,x∈m)→l.length≤m.length
 | [],_,_,_=>by simp
 |x::l,m,hn,hs=>by
  have h1:=List.nodup_cons.1 hn
  have hx:=hs x cE
  have:l.length≤(m.erase x).length:=tL h1.2 fun y hy=>by
   have rz:y≠x:=fun e=>h1.1 (e▸hy)
   exact (List.mem_erase_of_ne rz).2 (hs y (bH _ hy))
  rw [List.length_erase_of_mem hx] at this
  have:=List.length_pos_of_mem hx
  simp only [dM]
  omega
def wS {ns:List Nd} {id:cN}: ∀ {k:Nat} {x:cN},(zE ns k x).length<k→ ∀m,k≤m→km ns id m x=km ns id k x
 |0,_,h,_,_=>by simp at h
 |k+1,x,h,m,hm=>by
  obtain ⟨m,rfl⟩: ∃j,m=j+1:=⟨m-1,by omega⟩
  simp only [km,zE] at h⊢
  split
  ·rfl
  ·cases hf:dZ ns x with
   |none=>rfl
   |some n=>
    rw [hf] at h
    simp only [dM] at h
    exact wS (by omega) m (by omega)
def Kf {ns:List Nd} (ha:lR ns) {id x:cN} {m:Nat} (hm:ns.length+1≤m):km ns id m x=km ns id (ns.length+1) x:=by
 obtain ⟨md,hr⟩:=ha
 refine wS ?_ m hm
 have:=tL (rJ hr (k:=ns.length+1) (x:=x)) fun n hn=>xT n hn
 omega
abbrev ic (ns:List Nd) (id x:cN):Bool:=km ns id (ns.length+1) x
def qd {ns:List Nd} (ha:lR ns) (id x:cN):ic ns id x=if x=id then true else match dZ ns x with|none=>false|some n=>ic ns id n.par:=by
 have h:=Kf ha (id:=id) (x:=x) (Nat.le_succ _)
 unfold ic
 rw [← h,km]
def lR.put {ns:List Nd} (hs:dI ns) (ha:lR ns) {n:Nd} (h:ic ns n.id n.par=false):lR (jH n ns):=by
 obtain ⟨md,hr⟩:=id ha
 refine ⟨fun x=>if ic ns n.id x=true then md x+md n.par+1 else md x,fun m hm=>?_⟩
 rcases (kN hs).1 hm with rfl|⟨h1,h2⟩
 ·have e:ic ns m.id m.id=true:=by rw [qd ha];simp
  simp only [h,e,if_true,Bool.false_eq_true,if_false]
  omega
 ·have e:ic ns n.id m.id=ic ns n.id m.par:=by
   conv=>lhs;rw [qd ha]
   rw [if_neg h2,oy hs h1]
  have:=hr m h1
  simp only [e]
  split<;>omega
def aH (ns:List Nd) (o:bz):FX:=⟨o,(dZ ns o.node).isSome,((dZ ns o.node).map Nd.par).getD root,((dZ ns o.node).map Nd.key).getD cW,ic ns o.node o.par⟩
def iD (ns:List Nd) (o:bz):List Nd:=if ic ns o.node o.par=true then ns else jH ⟨o.node,o.par,o.key⟩ ns
def iu (ns:List Nd) (e:FX):List Nd:=if e.idle=true then ns else if e.kW=true then jH ⟨e.o.node,e.par,e.key⟩ ns else ns.filter fun n=>decide (n.id≠e.o.node)
def A_ {ns:List Nd} {o:bz} (h:dI ns):dI (iD ns o):=by
 unfold iD
 split
 ·exact h
 ·exact jI h
def Kg {ns:List Nd} {o:bz} (hs:dI ns) (h:lR ns):lR (iD ns o):=by
 unfold iD
 split
 ·exact h
 ·rename_i hc
  exact h.put hs qse
def OT {ns:List Nd} (hs:dI ns) (o:bz):iu (iD ns o) (aH ns o)=ns:=by
 unfold iu iD aH
 simp only
 split
 ·rfl
 ·cases hf:dZ ns o.node with
  |some m=>
   obtain ⟨h1,h2⟩:=iP hf
   simp only [Option.isSome_some,if_true,Option.map_some,Option.getD_some]
   refine dI.ext (jI (jI hs)) hs fun x=>?_
   rw [kN (jI hs),kN hs]
   have hm:(⟨o.node,m.par,m.key⟩:Nd)=m:=by cases m;subst h2;rfl
   rw [hm]
   constructor
   ·rintro (rfl|⟨rfl|h3,h4⟩)
    ·exact h1
    ·exact absurd h2.symm h4
    ·exact h3.1
   ·intro hx
    by_cases e:x.id=o.node
    ·have:=oy hs hx
     rw [e,hf] at this
     exact .inl (by injection this with this;exact this.symm)
    ·exact .inr ⟨.inr ⟨hx,e⟩,by rw [h2];exact e⟩
  |none=>
   simp only [Option.isSome_none,Bool.false_eq_true,if_false]
   have hn:=iQ.1 hf
   refine dI.ext (List.Pairwise.sublist List.filter_sublist (jI hs)) hs fun x=>?_
   rw [List.mem_filter,kN hs]
   constructor
   ·rintro ⟨rfl|h3,h4⟩
    ·simp at h4
    ·exact h3.1
   ·intro hx
    exact ⟨.inr ⟨hx,hn x hx⟩,by simpa using hn x hx⟩
def ai:List bz→List Nd→List Nd
 | [],ns=>ns
 |o::l,ns=>ai l (iD ns o)
def fz:List bz→List Nd→List FX
 | [],_=> []
 |o::l,ns=>aH ns o::fz l (iD ns o)
def made (l:List bz):Wm:=⟨ai l [],fz l []⟩
def mo: ∀(a b:List bz) (ns:List Nd),ai (a++b) ns=ai b (ai a ns)
 | [],_,_=>rfl
 |_::a,b,ns=>mo a b _
def ov: ∀(a b:List bz) (ns:List Nd),fz (a++b) ns=fz a ns++fz b (ai a ns)
 | [],_,_=>rfl
 |_::a,b,ns=>by simp only [List.cons_append,fz,ai];rw [ov a b]
def oj: ∀(l:List bz) (ns:List Nd),(fz l ns).map FX.o=l
 | [],_=>rfl
 |o::l,ns=>by simp only [fz,fm,oj l];rfl
def wP (l:List bz) (ns:List Nd):(fz l ns).length=l.length:=by
 have:=congrArg List.length (oj l ns)
 exact Rf
def pw: ∀(l:List bz) {ns:List Nd},dI ns→dI (ai l ns)
 | [],_,h=>h
 |_::l,_,h=>pw l (A_ h)
def ua: ∀(l:List bz) {ns:List Nd},dI ns→lR ns→lR (ai l ns)
 | [],_,_,h=>h
 |_::l,_,hs,h=>ua l (A_ hs) (Kg hs h)
def dI.nil:dI []:=List.Pairwise.nil
def lR.nil:lR []:=⟨fun _=>0,fun _ h=>by cases h⟩
def GK {l:List bz} {k:Nat} {o:bz} (ns:List Nd) (h:l[k]? =some o):(fz l ns)[k]? =some (aH (ai (l.take k) ns) o):=by
 induction l generalizing k ns with
 |nil=>simp at h
 |cons x l ih=>
  cases k with
  |zero=>simp only [gQ,a9] at h;subst h;rfl
  |succ k=>simp only [fz,List.getElem?_cons_succ,List.take_succ_cons,ai];exact ih _ TF
def Ba {n:Nd}: ∀ {ns:List Nd},(jH n ns).length≤ns.length+1
 | []=>by simp [jH]
 |m::ns=>by
  have:=Ba (n:=n) (ns:=ns)
  unfold jH
  split
  ·exact qm0
  ·split<;>simp only [dM]<;>omega
def nQ (l:List bz) (ns:List Nd):(ai l ns).length≤ns.length+l.length:=by
 induction l generalizing ns with
 |nil=>simp [ai]
 |cons o l ih=>
  have h:=ih (iD ns o)
  have h2:(iD ns o).length≤ns.length+1:=by
   unfold iD
   split
   ·omega
   ·exact Ba
  simp only [ai,dM]
  omega
abbrev mZ (l:List bz):Prop:=l.Pairwise fun a b=>slt a.st b.st
def eP (o:bz):List bz→List bz
 | []=> [o]
 |m::l=>if slt o.st m.st then o::m::l else m::eP o l
def s3 {o:bz}: ∀ {l:List bz} {i:Nat},i≤l.length→(∀m∈l.take i,¬slt o.st m.st)→(∀m∈l.drop i,slt o.st m.st)→eP o l=l.take i++o::l.drop i
 | [],i,_,_,_=>by simp [eP]
 |m::l,0,_,_,h=>by simp [eP,h m (by simp)]
 |m::l,i+1,h1,h2,h3=>by
  simp only [eP,h2 m (by simp),if_false,List.take_succ_cons,List.drop_succ_cons,List.cons_append]
  rw [s3 qsg (fun x hx=>h2 x (by simp [hx])) (fun x hx=>h3 x WC)]
def qb {o:bz}: ∀ {l:List bz} {m:bz},m∈eP o l↔m=o∨m∈l
 | [],m=>by simp [eP]
 |x::l,m=>by
  unfold eP
  split
  ·simp
  ·simp only [dx,qb];constructor<;>rintro (h|h|h)<;>simp [h]
def wN {o:bz}: ∀ {l:List bz},mZ l→(∀m∈l,m.st≠o.st)→mZ (eP o l)
 | [],_,_=>List.pairwise_singleton _ _
 |x::l,hs,hn=>by
  have hp:=iq.1 hs
  unfold eP
  split
  ·rename_i h
   refine iq.2 ⟨fun m hm=>?_,hs⟩
   rcases dx.1 hm with rfl|hm
   ·exact h
   ·exact h.trans (hp.1 m hm)
  ·rename_i h
   refine iq.2 ⟨fun m hm=>?_,wN hp.2 fun m hm=>hn m (bH _ hm)⟩
   rcases qb.1 hm with rfl|hm
   ·exact slt.tT h fun e=>hn x cE e.symm
   ·exact hp.1 m hm
section
variable {α:Type}
def tS (c:α→Int) (xs:List α):Prop:=xs.Pairwise fun a b=>c b<0→c a<0
def RG (c:α→Int) (xs:List α) (i:Nat):Prop:=i≤xs.length∧(∀m∈xs.take i,c m<0)∧ ∀m∈xs.drop i,¬c m<0
def zz (c:α→Int) (xs:List α) (i:Nat):Prop:= ∃x,xs[i]? =some x∧c x=0
noncomputable instance (c:α→Int) (xs:List α) (i:Nat):Decidable (zz c xs i):=Classical.propDecidable _
def wT {c:α→Int} {xs:List α} (hs:tS c xs) {h:Nat} {x:α} (hx:xs[h]? =some x) (hc:c x<0): ∀m∈xs.take (h+1),c m<0:=by
 intro m hm
 obtain ⟨k,hk,e⟩:=List.getElem_of_mem hm
 rw [b0] at hk
 rw [List.getElem_take] at e
 obtain ⟨hh,hx⟩:=aN.1 hx
 rcases Nat.lt_or_ge k h with h1|h1
 ·have:=List.pairwise_iff_getElem.1 hs k h (by omega) hh h1
  rw [hx,e] at this
  exact this hc
 ·have e2:k=h:=by omega
  subst e2
  rw [← e,hx];exact hc
def wU {c:α→Int} {xs:List α} (hs:tS c xs) {h:Nat} {x:α} (hx:xs[h]? =some x) (hc: ¬c x<0): ∀m∈xs.drop h,¬c m<0:=by
 intro m hm
 obtain ⟨k,hk,e⟩:=List.getElem_of_mem hm
 rw [cL] at hk
 rw [List.getElem_drop] at e
 obtain ⟨hh,hx⟩:=aN.1 hx
 rcases Nat.eq_zero_or_pos k with h1|h1
 ·subst h1
  simp only [Nat.add_zero] at e
  rw [← e,hx];exact hc
 ·have:=List.pairwise_iff_getElem.1 hs h (h+k) hh (by omega) (by omega)
  rw [hx,e] at this
  exact fun h2=>hc (this h2)
def Ki {i j:Nat} (h:i+j<9223372036854775808):IntKind.u64.wrap ((i:Int)+(j:Int))=((i+j:Nat):Int):=by
 rw [mq]
 omega
def Kj (n:Nat):Int.fdiv (n:Int) (2^1)=((n/2:Nat):Int):=by
 rw [Int.fdiv_eq_ediv_of_nonneg _ (by decide)]
 omega
def Kk {n:Nat} (h:n<9223372036854775808):IntKind.i64.wrap (n:Int)=(n:Int):=wrap_i64 ⟨by omega,by omega⟩
def De {c:α→Int} {xs:List α} {i:Nat} {x:α} (e:xs[i]? =some x):c x=0↔zz c xs i:=⟨fun h=>⟨x,e,h⟩,fun ⟨y,h1,h2⟩=>by rw [e] at h1;injection h1 with h1;rw [h1];exact h2⟩
def Df {c:α→Int} {xs:List α} {i:Nat} (h: ¬i<xs.length): ¬zz c xs i:=fun ⟨x,h1,_⟩=>h (aN.1 h1).1
def db (c:α→Int) (xs:List α):Nat:=(xs.takeWhile fun m=>decide (c m<0)).length
def mQ {c:α→Int} {xs:List α} {i:Nat} (h:RG c xs i):db c xs=i:=by
 obtain ⟨h1,h2,h3⟩:=h
 have e:xs=xs.take i++xs.drop i:=(List.take_append_drop i xs).symm
 have h4:(xs.drop i).takeWhile (fun m=>decide (c m<0))= []:=by
  cases hd:xs.drop i with
  |nil=>rfl
  |cons y l=>rw [List.takeWhile_cons,if_neg];have:=h3 y (by rw [hd];exact cE);simpa using this
 have h5:xs.takeWhile (fun m=>decide (c m<0))=xs.take i:=by
  conv=>lhs;rw [e]
  rw [List.takeWhile_append_of_pos (fun a ha=>by simpa using h2 a ha),h4,fj]
 unfold db
 rw [h5,b0,fD h1]
def CT {c:α→Int} {xs:List α} (hs:tS c xs):RG c xs (db c xs):=by
 suffices∃i,RG c xs i by
  obtain ⟨i,h⟩:=this
  rw [mQ h];exact h
 induction xs with
 |nil=>exact ⟨0,bO _,by simp,by simp⟩
 |cons x l ih=>
  have hp:=iq.1 hs
  by_cases hx:c x<0
  ·obtain ⟨i,h1,h2,h3⟩:=ih hp.2
   refine ⟨i+1,by simpa using h1,fun m hm=>?_,by simpa using h3⟩
   rw [List.take_succ_cons] at hm
   rcases dx.1 hm with rfl|hm
   ·exact hx
   ·exact h2 m hm
  ·refine ⟨0,bh _,by simp,fun m hm=>?_⟩
   rw [List.drop_zero] at hm
   rcases dx.1 hm with rfl|hm
   ·exact hx
   ·exact fun h=>hx (hp.1 m hm h)
def tE {c:α→Int} {xs:List α}:db c xs≤xs.length:=by
 have:=(List.takeWhile_sublist (fun m=>decide (c m<0)) (l:=xs)).length_le
 exact this
end

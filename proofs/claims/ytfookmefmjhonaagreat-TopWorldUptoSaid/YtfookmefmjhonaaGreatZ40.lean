/- For the law of worlds: What functions do; What lies in memory. -/
import Derived.Test.YtfookmefmjhonaaGreatZ39
set_option linter.all false
namespace Go.Proofs.YtfookmefmjhonaaGreat.My
open Go.RowKit Go.bE
def Lq {l:List bz} (h: ∀o∈l,bV o) (hl:l.length≤3000):(bL (bU l)).length≤4194304:=by
 have h1:=qA (bU l)
 have h2:=qz h
 omega
def Lr {r:m'} (h:r.up=true):jE r=g9 fun Cs=>Cs= [bJ r.rb 72 (pv r.dk::pv r.kb::c_.cells r.s),kn r.kb r.dk r.d]:=by
 unfold jE
 congr 1
 funext Cs
 exact propext ⟨fun k=>k.elim (fun k=>k.2) fun k=>absurd (h.symm.trans k.1) (by decide),fun k=>.inl ⟨h,k⟩⟩
def Ls (r:m') (Ap:OA) (cp:Nat) (p:List Int) (hu:r.up=true) (hf:gI r.d) (hcp:p.length≤cp):hO Cp 31 #[.pointer (some ⟨r.rb,0,none⟩),sl Ap p.length cp] (fun U w=>az.gx Ap p U w) [jE r] (fun v Cs=> ∃(d2:Nat),∃a,v=.tuple #[]∧Cs= [jE ({r with dk:=d2,up:=false,s:=⟨r.d,a⟩})]):=by
 refine kz [.k (jE r)] Tryz.func31 fun U w0 hp=>aD 0 (jE r) (g9 fun Cs=>Cs= [bJ r.rb 72 (pv r.dk::pv r.kb::c_.cells r.s),kn r.kb r.dk r.d]) kr (by rw [Lr hu])<|bn (φ:=fun Cs=>Cs= [bJ r.rb 72 (pv r.dk::pv r.kb::c_.cells r.s),kn r.kb r.dk r.d]) 1 ?_
 rintro _ rfl
 refine dB 2 r.rb 72 qd0<|ae 7 [2] fun _=>ah (E' r.kb r.dk r.d hf) [3] cJ ?_
 rintro _ _ (⟨a2,rfl,rfl⟩)
 ·refine ae 12 [2,2] fun _=>bn (φ:=zH r.kb r.dk r.d) 4 ?_
  rintro _ ⟨p3,a4,rfl⟩
  refine dB 6 r.kb 105 (pv p3::(c_.cells ⟨r.d,a4⟩++ [.bool false]))<|bn (φ:=Us p3 r.dk (bL (bU r.d.ops)) r.d.ops) 7 ?_
  rintro _ ⟨p5,A6,c7,rfl⟩
  refine dB 9 p3 125 [pv p5,sl A6 r.d.ops.length c7,iv (gm (bU r.d.ops):Int),.bool false]<|bn (φ:=PH p5 r.dk (bL (bU r.d.ops)) (bU r.d.ops)) 10 ?_
  rintro _ ⟨A8,c9,rfl⟩
  refine dB 12 p5 154 [.pointer (some ⟨r.dk,0,none⟩),sl A8 ((bU r.d.ops).length) c9,iv (gm (bU r.d.ops):Int),iv 0,iv ((bL (bU r.d.ops)).length:Int),.bool false]<|bD (HD r.dk Ap cp p (bL (bU r.d.ops)) T3 (Lq hf.ops hf.ol)) [13] Ad ?_
  rintro _ _ ⟨po,pK,nf,mD,GG,J9,F9,Es,rfl,rfl⟩
  refine ah (Lt po pK (⟨nf,mD,bL (bU r.d.ops)⟩:tm) (⟨GG,J9,[]⟩:tm) (⟨F9,Es,[]⟩:tm) rfl rfl (Lq hf.ops hf.ol)) [] (fun w h=>⟨h.bg 15 po pK [(⟨nf,mD,bL (bU r.d.ops)⟩:tm),(⟨GG,J9,[]⟩:tm),(⟨F9,Es,[]⟩:tm)] kr,h.bg 16 nf mD (bL (bU r.d.ops)) kr,h.bg 17 GG J9 [] kr,h.bg 18 F9 Es [] kr⟩) ?_
  rintro _ _ ⟨g18,rfl,rfl⟩
  refine ae 13 [2,2] fun _=>aJ (xn ({r with dk:=g18,up:=false,s:=⟨r.d,a2⟩})) [2,19] [bJ r.rb 72 (pv g18::.pointer none::c_.cells ⟨r.d,a2⟩),j6 g18 ((⟨nf,mD,bL (bU r.d.ops)⟩:tm).b) ((⟨nf,mD,bL (bU r.d.ops)⟩:tm).b)] (.inr ⟨rfl,rfl⟩)<|a_ [20] ⟨g18,a2,kr,kr⟩
def PM (g:Nat) (i:Int) (W:kX) (n k:Nat) (hW:WI n k W):Ct Cp 27 #[pv g,iv i] (fun _=>True) [pF g W] (fun v Cs=>(∃(r:m') (g2:Nat),v=.tuple #[]∧0≤i∧W.aF[i.toNat]? =some r∧r.up=false∧Cs= [pF g ({W with aF:=W.aF.set i.toNat {r with up:=true,kb:=g2,d:=aj i r.d.hv r.d.ops}})])∨(v=.tuple #[]∧(∀r,0≤i→W.aF[i.toNat]? =some r→r.up=true)∧Cs= [pF g W])):=by
 refine Fz [.k (pF g W)] Tryz.func27 fun U w0 hp=>?_
 have Ra:=hW.n0
 have hlw:=hW.len
 have hlen:(W.aF.map (·.rb)).length=W.aF.length:=cM _
 refine bn (φ:=nc g W) 0 ?_
 rintro _ ⟨Ar,cr,Aw,cw,Aa,ca,rfl⟩
 refine dB 1 g 65 EY<|aa 5 fun _=>aG 6 (i≥0) (fun h1=>?_) (fun h1=>?_)
 ·refine ae 9 [1] fun _=>aG 15 (i<((W.aF.map (·.rb)).length:Int)) (fun h2=>?_) (fun h2=>?_)
  ·obtain ⟨r,hr⟩:=aw (xs:=W.aF) (k:=i.toNat) (by omega)
   have W9:(W.aF.map (·.rb))[i.toNat]? =some r.rb:=by rw [fk,hr];rfl
   have nv:=hW.rep _ _ hr
   have vh:=rn hW hr
   have r5:cP (bR (W.aF.map (·.rb)).length) r.d.ops r.d.hv:=by rw [hlen,hlw];exact nv.chain
   have hmm: ∀o∈r.d.ops,bV o∧o.aX.length=(W.aF.map (·.rb)).length:=by rw [hlen,hlw];exact nv.ops
   have hh0:1≤(W.aF.map (·.rb)).length∧(W.aF.map (·.rb)).length≤16∧0≤i∧i<((W.aF.map (·.rb)).length:Nat):=by omega
   refine gu 5 i.toNat jE W.aF r hr kr<|bn (φ:=xn r) 6 ?_
   rintro _ (⟨NB,rfl⟩|⟨NB,rfl⟩)
   ·refine dB 8 r.rb 72 qd0<|ae 5 [1] fun _=>aV Ar ((W.aF.map (·.rb)).length) i 1 Zj<|bd 69 (ad Ar (i.toNat*1) 0) (.pointer (some ⟨r.rb,0,none⟩)) Zi<|ae 8 [8] fun _=>aJ (xn r) [8,9] qh5 (.inl ⟨NB,rfl⟩)<|fQ 10 7 i.toNat jE W.aF r (by omega)<|aD 11 (aM.all ((W.aF.set i.toNat r).map jE)) (aM.all (W.aF.map jE)) kr qpw<|aJ (nc g W) [1,2,3,4,12] Nv (⟨Ar,cr,Aw,cw,Aa,ca,rfl⟩)<|a_ [13] (.inr ⟨kr,fun r2 _ e=>qoe,kr⟩)
   ·refine dB 8 r.rb 72 ql8<|ae 5 [1] fun _=>aV Ar ((W.aF.map (·.rb)).length) i 1 Zj<|bd 69 (ad Ar (i.toNat*1) 0) (.pointer (some ⟨r.rb,0,none⟩)) Zi<|ae 7 [8] fun _=>?_
    have hkp:=D8 r.dk i ((W.aF.map (·.rb)).length) r.d.ops r.d.hv hh0 r5 hmm (by omega)
    have hkp:=D8 r.dk i ((W.aF.map (·.rb)).length) r.d.ops r.d.hv hh0 r5 hmm (by omega)
    refine aO [(5,_),(6,_),(12,_),(13,_),(23,_)] [1,1,8,1,8] ⟨qfv,qgi,qfv,qgi,aY (fun vs=>hkp) [9] (fun vs=>.tuple #[.pointer (some ⟨(a5 (tp (vs 23) 0)),0,none⟩),iv 0]) [fun vs=>.k (kn (a5 (tp (vs 23) 0)) r.dk (aj i r.d.hv r.d.ops))] nE Zg,trivial⟩ fun v6=>aJ (xn ({r with up:=true,kb:=(a5 (tp (v6 23) 0)),d:=aj i r.d.hv r.d.ops})) [11,10] [bJ r.rb 72 (.pointer (some ⟨r.dk,0,none⟩)::.pointer (some ⟨(a5 (tp (v6 23) 0)),0,none⟩)::c_.cells r.s),kn (a5 (tp (v6 23) 0)) r.dk (aj i r.d.hv r.d.ops)] (.inl ⟨rfl,rfl⟩)<|fQ 12 7 i.toNat jE W.aF ({r with up:=true,kb:=(a5 (tp (v6 23) 0)),d:=aj i r.d.hv r.d.ops}) (by omega)<|aS mE 2 Ar cr (W.aF.map (·.rb)) ((W.aF.set i.toNat ({r with up:=true,kb:=(a5 (tp (v6 23) 0)),d:=aj i r.d.hv r.d.ops})).map (·.rb)) kr (gP (r':= {r with up:=true,kb:=(a5 (tp (v6 23) 0)),d:=aj i r.d.hv r.d.ops}) hr rfl).symm<|bP 1 g 65 EY [sl Ar (((W.aF.set i.toNat ({r with up:=true,kb:=(a5 (tp (v6 23) 0)),d:=aj i r.d.hv r.d.ops})).map (·.rb)).length) cr,sl Aw W.row.length cw,iv W.fO,sl Aa W.fu.length ca] kr (by rw [gP (r':= {r with up:=true,kb:=(a5 (tp (v6 23) 0)),d:=aj i r.d.hv r.d.ops}) hr rfl])<|aJ (nc g ({W with aF:=W.aF.set i.toNat {r with up:=true,kb:=(a5 (tp (v6 23) 0)),d:=aj i r.d.hv r.d.ops}})) [1,14,3,4,13] [bJ g 65 [sl Ar (((W.aF.set i.toNat ({r with up:=true,kb:=(a5 (tp (v6 23) 0)),d:=aj i r.d.hv r.d.ops})).map (·.rb)).length) cr,sl Aw W.row.length cw,iv W.fO,sl Aa W.fu.length ca],mE.row Ar cr ((W.aF.set i.toNat ({r with up:=true,kb:=(a5 (tp (v6 23) 0)),d:=aj i r.d.hv r.d.ops})).map (·.rb)),mF.row Aw cw W.row,pc.row Aa ca W.fu,aM.all ((W.aF.set i.toNat ({r with up:=true,kb:=(a5 (tp (v6 23) 0)),d:=aj i r.d.hv r.d.ops})).map jE)] (⟨Ar,cr,Aw,cw,Aa,ca,rfl⟩)<|a_ [15] (.inl ⟨r,(a5 (tp (v6 23) 0)),kr,by omega,hr,NB,kr⟩)
  ·refine aa 15 fun _=>aJ (nc g W) [1,2,3,4,5] Nv (⟨Ar,cr,Aw,cw,Aa,ca,rfl⟩)<|a_ [6] (.inr ⟨kr,fun r2 _ e=>by have:=(aN.1 e).1;omega,kr⟩)
 ·refine aa 24 fun _=>aJ (nc g W) [1,2,3,4,5] Nv (⟨Ar,cr,Aw,cw,Aa,ca,rfl⟩)<|a_ [6] (.inr ⟨kr,fun r2 h0 _=>absurd h0 (by omega),kr⟩)
def Mk {x y:BitVec 32} (h:Gl x=Gl y):x=y:=by
 have e1: ∀z:BitVec 32,Gl z=if z.getLsbD 0 then (z>>>1)^^^0xedb88320#32 else z>>>1:=fun z=>by
  have e2:z&&&1#32=if z.getLsbD 0 then 1#32 else 0#32:=by
   apply BitVec.eq_of_getLsbD_eq
   intro i hi
   rw [BitVec.getLsbD_and]
   by_cases h0:i=0
   ·subst h0;cases hz:z.getLsbD 0<;>simp
   ·have e3:(1#32).getLsbD i=false:=by rw [BitVec.getLsbD_one];simp;omega
    rw [e3];split<;>simp [h0]
  unfold Gl
  rw [e2]
  split<;>simp
 have s31: ∀z:BitVec 32,(z>>>1).getLsbD 31=false:=fun z=>by rw [BitVec.getLsbD_ushiftRight];exact BitVec.getLsbD_of_ge _ _ (by decide)
 have p31:(0xedb88320#32).getLsbD 31=true:=by decide
 have key: ∀z:BitVec 32,(Gl z).getLsbD 31=z.getLsbD 0:=fun z=>by
  rw [e1]
  cases hz:z.getLsbD 0 with
  |false=>rw [if_neg (by decide)];exact s31 z
  |true=>rw [if_pos rfl,BitVec.getLsbD_xor,s31,p31];rfl
 have hb:x.getLsbD 0=y.getLsbD 0:=by rw [← key x,← key y,h]
 rw [e1,e1,hb] at h
 have hs:x>>>1=y>>>1:=by
  split at h
  ·have:=congrArg (· ^^^0xedb88320#32) h
   exact qr5
  ·exact h
 apply BitVec.eq_of_getLsbD_eq
 intro i hi
 cases i with
 |zero=>exact hb
 |succ i=>
  have:=congrArg (fun z=>BitVec.getLsbD z i) hs
  simpa [BitVec.getLsbD_ushiftRight,Nat.add_comm] using this
def va: ∀ {k:Nat} {x y:BitVec 32},Gm k x=Gm k y→x=y
 |0,_,_,h=>h
 |k+1,_,_,h=>Mk (va h)
def B0: ∀ {l:List UInt8} {x y:BitVec 32},sD x l=sD y l→x=y
 | [],_,_,h=>h
 |b::l,x,y,h=>by
  have h1:=va (B0 (l:=l) h)
  have:=congrArg (· ^^^BitVec.ofNat 32 b.toNat) h1
  exact qr5
def Ml {a b:UInt8} (h:BitVec.ofNat 32 a.toNat=BitVec.ofNat 32 b.toNat):a=b:=by
 have h1:=congrArg BitVec.toNat h
 rw [BitVec.toNat_ofNat,BitVec.toNat_ofNat,Nat.mod_eq_of_lt (by have:=a.toNat_lt;omega),Nat.mod_eq_of_lt (by have:=b.toNat_lt;omega)] at h1
 exact UInt8.toNat_inj.1 h1
def B4: ∀ {l:List UInt8} {j:Nat} {x:UInt8} {s:BitVec 32},j<l.length→sD s (l.set j x)=sD s l→l[j]? =some x
 | [],_,_,_,h,_=>absurd h (Nat.not_lt_zero _)
 |b::l,0,x,s,_,h=>by
  have h1:s^^^BitVec.ofNat 32 x.toNat=s^^^BitVec.ofNat 32 b.toNat:=va (B0 (l:=l) h)
  have h2:=congrArg (s^^^ ·) h1
  simp only [← BitVec.xor_assoc,BitVec.xor_self,BitVec.zero_xor] at h2
  rw [Ml h2];rfl
 |b::l,j+1,x,s,hj,h=>by
  rw [List.getElem?_cons_succ]
  exact B4 (by simpa using hj) h
def O0 {l:List UInt8} {j:Nat} {x:UInt8} (h:r_ l) (hj:j<l.length):l.set j x=l∨ ¬r_ (l.set j x):=by
 by_cases hx:l[j]? =some x
 ·exact .inl (mr hx)
 ·right
  rintro ⟨_,h2⟩
  have h1:=h.2
  by_cases h4:j<4
  ·rw [List.drop_set,if_pos h4,← h1,List.take_set] at h2
   have h3:=congrArg (fun z=>z[j]?) h2
   rw [gO C7,List.getElem?_take,if_pos h4] at h3
   exact hx h3.symm
  ·rw [List.drop_set,if_neg h4,List.take_set_of_le (by omega),h1] at h2
   have h3:(cj (l.drop 4))=cj ((l.drop 4).set (j-4) x):=by
    have e1:=(q7 (cj (l.drop 4)) _ _ _ _).1 (show [_,_,_,_]=fp _ from rfl)
    have e2:=(q7 (cj ((l.drop 4).set (j-4) x)) _ _ _ _).1 (show [_,_,_,_]=fp _ from h2)
    exact BitVec.eq_of_toNat_eq (e1.symm.trans e2)
   have h5:sD (~~~0#32) ((l.drop 4).set (j-4) x)=sD (~~~0#32) (l.drop 4):=by
    have:=congrArg (~~~ ·) h3
    simpa [cj] using this.symm
   have h6:=B4 ub h5
   rw [List.getElem?_drop,show 4+(j-4)=j by omega] at h6
   exact hx h6
section
structure dz where
 kind:Int
 rep:Int
 fX:qj
 wh:Int
 num:Int
 ug:Int
 A:OA
 c:Nat
 fo:List Int
def Kp {α:Type} (K:Kd α) {A:OA} {c j:Nat} {xs:List α} {y z:α} (h:K.f y=K.f z):K.row A c (xs.set j y)=K.row A c (xs.set j z):=by
 have e: ∀u,(xs.set j u).flatMap K.f=((xs.map K.f).set j (K.f u)).flatten:=fun u=>by rw [List.flatMap_def,List.map_set]
 unfold Kd.row
 rw [e,e,h,cX,cX]
def OZ (z:Int):IntKind.u8.wrap z=((UInt8.ofNat (IntKind.u8.wrap z).toNat).toNat:Int):=by
 exact qrp
def TZ {a n:Int} (h:0<n): -n<Int.tmod a n∧Int.tmod a n<n∧0≤Int.tmod (Int.tmod a n+n) n∧Int.tmod (Int.tmod a n+n) n<n:=by
 have h1:=Int.tmod_lt_of_pos a h
 have h2: -n<Int.tmod a n:=by
  have:=Int.tmod_lt_of_pos (-a) h
  rw [Int.neg_tmod] at this
  omega
 exact ⟨h2,h1,Int.tmod_nonneg _ (by omega),Int.tmod_lt_of_pos _ h⟩
section
variable {n k i:Nat} {W:kX} {x y:gL}
def WI.flip (h:WI n k W) (hx:W.row[i]? =some x) (hy:j_ n W y):WI n k {W with row:=W.row.set i y}:=
 ⟨h.n0,h.k0,h.len,h.rep,h.own,fun z hz=>by
  have h1:j_ n W z:=(List.mem_or_eq_of_mem_set hz).elim (h.Ag z) fun e=>e▸hy
  exact ⟨h1.len,h1.Ae.imp (fun ⟨f,a,b,c⟩=>⟨f,a,b,⟨c.ok,c.fN,c.hv,c.ops⟩⟩) id⟩,by show (W.row.set i y).length≤64;rw [cX];exact h.row⟩
def WI.cut (h:WI n k W):WI n k {W with row:=W.row.take i++W.row.drop (i+1)}:=
 ⟨h.n0,h.k0,h.len,h.rep,h.own,fun z hz=>by
  have h1:j_ n W z:=h.Ag z (Eu hz)
  exact ⟨h1.len,h1.Ae.imp (fun ⟨f,a,b,c⟩=>⟨f,a,b,⟨c.ok,c.fN,c.hv,c.ops⟩⟩) id⟩,by show (W.row.take i++W.row.drop (i+1)).length≤64;have:=h.row;simp only [bm,b0,cL];omega⟩
def j_.flip (h:j_ n W x) (hs:x.sp=false) {j:Nat} (hj:j<x.b.length) (b:UInt8) (A:OA) (c:Nat):j_ n W ⟨x.b.set j b,A,c,x.to,true⟩:=by
 have hl:=h.len
 refine ⟨by show 1≤(x.b.set j b).length∧_;rw [cX];exact hl,?_⟩
 rcases h.Ae with ⟨f,h1,h2,h3⟩|⟨h2,_⟩
 ·rcases O0 (l:=x.b) (x:=b) (by rw [h1];exact nX f) hj with e|e
  ·exact .inl ⟨f,e.trans h1,h2,h3⟩
  ·exact .inr ⟨rfl,e⟩
 ·exact absurd (hs.symm.trans h2) (by decide)
end
def Dj (A:OA) (c:Nat) (xs:List gL) (i j:Nat) (hj:j=i+1) (hi:i<xs.length) (hb:xs.length≤1000000):Ct Cp 51 #[sl A xs.length c,iv i,iv j] (fun _=>True) [mF.row A c xs] (fun v Cs=>v=sl A ((xs.take i++xs.drop (i+1)).length) c∧Cs= [mF.row A c (xs.take i++xs.drop (i+1))]):=by
 refine Fz [.k (mF.row A c xs)] Tryz.func51 fun U w0 hp=>dN (φ:=xs.length≤c) (fun w h=>h.mR (K:=mF) 0 A c xs kr) fun OV=>dN (φ:=A.isSome=true) (fun w h=>Kd.cd (K:=mF) (h.bg 0 A c xs kr) (by omega)) fun lu=>aa 11 fun _=>Jj A xs.length c 3 i j xs.length<|aa 8 fun _=>aq ((i:Int)=(j:Int)) (fun h3=>?_) (fun h3=>?_)
 ·exact kp
 ·refine aa 8 fun _=>aO [(2,_),(5,_),(6,_)] [] ⟨EX i A xs.length c i 3 (some (iv i)) rfl (fun _=>kr) (⟨_,rfl⟩) (fun vs w h=>G0),lT (fun vs=>A) (fun vs=>xs.length) (fun vs=>c) (fun vs=>j) (fun vs=>xs.length) 3 (fun vs=>some (iv j)) (fun vs=>none) Kh (fun _=>G0) qv8,yp mF 0 A c i xs (xs.drop j) 63 63 (sl (dS A c j 3) (xs.length-j) (c-j)) qhx ub ub lu,trivial⟩ fun v4=>aa 6 fun _=>fC (hh:=⟨_,rfl⟩) A (i+(xs.drop j).length) c 3 (i+(xs.drop j).length) xs.length (some (iv ((i+(xs.drop j).length):Int))) (some (iv (xs.length:Int))) (⟨_,rfl⟩) G0 G0<|s7 132 3 1 A c (xs.take i++xs.drop j).length ((xs.take i++xs.drop j).flatMap mF.f) (i+(xs.drop j).length) (xs.length- (i+(xs.drop j).length)) (c- (i+(xs.drop j).length)) qkj qm8<|aa 6 fun _=>aS mF 1 A c (xs.take i++xs.drop j) (xs.take i++xs.drop (i+1)) kr (by rw [hj])<|qec
def YI (g:Nat) (a:dz) (W:kX) (n k:Nat) (hW:WI n k W):Ct Cp 26 #[pv g,.agg #[iv a.kind,iv a.rep,iv a.fX.kind,iv a.fX.node.t,iv a.fX.node.r,iv a.fX.par.t,iv a.fX.par.r,iv a.fX.oA.t,iv a.fX.oA.r,iv a.fX.prop,iv a.fX.val,iv a.fX.width,iv a.wh,iv a.num,iv a.ug,sl a.A a.fo.length a.c]] (fun _=>True) [pF g W,aM.all (W.row.map gL.own)] (fun v Cs=>(∃(W2:kX),v=.tuple #[]∧WI n k W2∧W2.fu=W.fu∧W2.aF.map (·.up)=W.aF.map (·.up)∧Cs= [pF g W2,aM.all (W2.row.map gL.own)])):=by
 refine Fz [.k (pF g W),.k (aM.all (W.row.map gL.own))] Tryz.func26 fun U w0 hp=>bn (φ:=nc g W) 0 ?_
 rintro _ ⟨Ar,cr,Aw,cw,Aa,ca,rfl⟩
 refine dB 2 g 65 EY ?_
 have T0:=hW.row
 refine aa 6 fun a8=>?_
 rcases bK (decide (a.wh<0)) with b3|b3
 ·have h2:=cg b3
  refine aK [(2,.bool true)] [7] qm5<|aa 1 fun _=>qur
 ·have h2:=de b3
  refine aK [(2,.bool false)] [7,7,2] qm5<|aq (a.wh≥(W.row.length:Int)) (fun h4=>?_) (fun h4=>?_)
  ·exact qur
  ·refine aa 2 fun _=>?_
   obtain ⟨j,hj⟩: ∃j:Nat,a.wh=(j:Int):=⟨a.wh.toNat,by omega⟩
   refine bP 7 (a8 2) 34 [iv a.kind,iv a.rep,iv a.fX.kind,iv a.fX.node.t,iv a.fX.node.r,iv a.fX.par.t,iv a.fX.par.r,iv a.fX.oA.t,iv a.fX.oA.r,iv a.fX.prop,iv a.fX.val,iv a.fX.width,iv a.wh,iv a.num,iv a.ug,sl a.A a.fo.length a.c] [iv a.kind,iv a.rep,iv a.fX.kind,iv a.fX.node.t,iv a.fX.node.r,iv a.fX.par.t,iv a.fX.par.r,iv a.fX.oA.t,iv a.fX.oA.r,iv a.fX.prop,iv a.fX.val,iv a.fX.width,iv j,iv a.num,iv a.ug,sl a.A a.fo.length a.c] kr (by rw [hj]) ?_
   obtain ⟨x,Kq⟩:=aw (xs:=W.row) (k:=j) (by omega)
   have YJ:=hW.Ag x (aI Kq)
   have zI:=YJ.len
   have I2:=TZ (a:=a.num) (n:=(x.b.length:Int)) (by omega)
   have NZ:=(aN.1 Kq).1
   refine gu 1 j gL.own W.row x Kq kr<|aK [(6,_)] [2,7] ⟨bF Aw W.row.length (j:Int) 3 (fun w h=>Kd.cd (K:=mF) (xs:=W.row) (h.bg 4 Aw cw W.row kr) (by omega)),trivial⟩<|aa 4 fun _=>bd 132 (ad Aw (j*3) 0) (.agg #[sl x.A x.b.length x.c,iv x.to,.bool x.sp]) (fun w h=>bN (K:=mF) (h.bg 4 Aw cw W.row kr) Kq)<|ae 15 [10,7] fun jn=>aq (a.kind=6) (fun h6=>?_) (fun h6=>?_)
   ·refine aa 6 fun _=>bd 4 (ad Aw (j*3) 2) (.bool x.sp) qiu<|aa 2 fun _=>eQ (!x.sp) (fun h7=>?_) (fun h7=>?_)
    ·refine aa 5 fun _=>bd 90 (ad Aw (j*3) 0) (sl x.A x.b.length x.c) qiu<|aa 9 fun _=>bd 90 (ad Aw (j*3) 0) (sl x.A x.b.length x.c) qiu<|ah (ij x.A x.c x.b (by omega)) [] (fun w h=>h.bg 8 x.A x.c x.b kr) ?_
     rintro _ _ ⟨A8,c9,rfl,rfl⟩
     refine aa 2 fun _=>gH mF 4 Aw cw W.row j 0 x (⟨x.b,A8,c9,x.to,x.sp⟩:gL) 90 (sl A8 x.b.length c9) Kq<|aa 2 fun _=>?_
     obtain ⟨gA,zF⟩:=aw (xs:=x.b) (k:=(Int.tmod ((Int.tmod a.num (x.b.length:Int))+(x.b.length:Int)) (x.b.length:Int)).toNat) (by have:=I2.2.2;omega)
     refine aO [(3,_),(7,_),(9,_),(11,_),(12,_),(13,_),(17,_),(18,_),(19,_)] [7,7] ⟨cZ 90 (fun vs=>ad Aw (j*3) 0) (fun vs=>sl A8 x.b.length c9) (fun vs w h=>bW (K:=mF) (h.bg 4 Aw cw (W.row.set j (⟨x.b,A8,c9,x.to,x.sp⟩:gL)) kr) (gO (aN.1 Kq).1)),O1 .rem .i64 (fun vs=>a.num) (fun vs=>(x.b.length:Int)) (fun vs=>Int.tmod a.num (x.b.length:Int)) (fun _=>qrn),fc (e:=fun _=>by have:=zI;omega) (fun vs=>(Int.tmod a.num (x.b.length:Int))+(x.b.length:Int)),O1 .rem .i64 (fun vs=>(Int.tmod a.num (x.b.length:Int))+(x.b.length:Int)) (fun vs=>(x.b.length:Int)) (fun vs=>Int.tmod ((Int.tmod a.num (x.b.length:Int))+(x.b.length:Int)) (x.b.length:Int)) (fun _=>qrn),qd2,cZ 5 (fun vs=>((cz A8).add (((Int.tmod ((Int.tmod a.num (x.b.length:Int))+(x.b.length:Int)) (x.b.length:Int)).toNat)*1)).add 0) (fun vs=>.int .u8 (gA.toNat:Int)) (fun vs w h=>bW (K:=aA) (h.bg 11 A8 c9 x.b kr) zF),jS (fun vs=>.int .u8 (IntKind.u8.wrap (BitVec.ofInt 8 (gA.toNat:Int)^^^BitVec.ofInt 8 (IntKind.u8.wrap a.ug)).toNat)) (fun vs=>.int .u8 ((UInt8.ofNat (IntKind.u8.wrap (BitVec.ofInt 8 (gA.toNat:Int)^^^BitVec.ofInt 8 (IntKind.u8.wrap a.ug)).toNat).toNat).toNat:Int)) (fun _=>congrArg (Value.int .u8) (OZ _)),qd2,cR aA 11 (fun vs=>A8) (fun vs=>c9) (fun vs=>x.b) ((Int.tmod ((Int.tmod a.num (x.b.length:Int))+(x.b.length:Int)) (x.b.length:Int)).toNat) 0 (fun vs=>gA) (fun vs=>(UInt8.ofNat (IntKind.u8.wrap (BitVec.ofInt 8 (gA.toNat:Int)^^^BitVec.ofInt 8 (IntKind.u8.wrap a.ug)).toNat).toNat)) 5 (fun vs=>.int .u8 ((UInt8.ofNat (IntKind.u8.wrap (BitVec.ofInt 8 (gA.toNat:Int)^^^BitVec.ofInt 8 (IntKind.u8.wrap a.ug)).toNat).toNat).toNat:Int)) (fun _=>zF),trivial⟩ fun jd=>?_
     refine aa 4 fun _=>gH mF 4 Aw cw (W.row.set j (⟨x.b,A8,c9,x.to,x.sp⟩:gL)) j 2 (⟨x.b,A8,c9,x.to,x.sp⟩:gL) (⟨x.b,A8,c9,x.to,true⟩:gL) 4 (.bool true) (gO (aN.1 Kq).1) ?_
     refine aa 1 fun _=>aD 4 (mF.row Aw cw ((W.row.set j (⟨x.b,A8,c9,x.to,x.sp⟩:gL)).set j (⟨x.b,A8,c9,x.to,true⟩:gL))) (mF.row Aw cw (W.row.set j (⟨x.b.set ((Int.tmod ((Int.tmod a.num (x.b.length:Int))+(x.b.length:Int)) (x.b.length:Int)).toNat) (UInt8.ofNat (IntKind.u8.wrap (BitVec.ofInt 8 (gA.toNat:Int)^^^BitVec.ofInt 8 (IntKind.u8.wrap a.ug)).toNat).toNat),A8,c9,x.to,true⟩:gL))) kr (by rw [List.set_set];exact Kp mF (by show [Value.slice _ _ _,_,_]= [Value.slice _ _ _,_,_];rw [cX]))<|fQ 12 9 j gL.own W.row (⟨x.b.set ((Int.tmod ((Int.tmod a.num (x.b.length:Int))+(x.b.length:Int)) (x.b.length:Int)).toNat) (UInt8.ofNat (IntKind.u8.wrap (BitVec.ofInt 8 (gA.toNat:Int)^^^BitVec.ofInt 8 (IntKind.u8.wrap a.ug)).toNat).toNat),A8,c9,x.to,true⟩:gL) NZ<|bP 2 g 65 EY [sl Ar ((W.aF.map (·.rb)).length) cr,sl Aw ((W.row.set j (⟨x.b.set ((Int.tmod ((Int.tmod a.num (x.b.length:Int))+(x.b.length:Int)) (x.b.length:Int)).toNat) (UInt8.ofNat (IntKind.u8.wrap (BitVec.ofInt 8 (gA.toNat:Int)^^^BitVec.ofInt 8 (IntKind.u8.wrap a.ug)).toNat).toNat),A8,c9,x.to,true⟩:gL)).length) cw,iv W.fO,sl Aa W.fu.length ca] kr (by simp only [cX])<|aJ (nc g ({W with row:=W.row.set j (⟨x.b.set ((Int.tmod ((Int.tmod a.num (x.b.length:Int))+(x.b.length:Int)) (x.b.length:Int)).toNat) (UInt8.ofNat (IntKind.u8.wrap (BitVec.ofInt 8 (gA.toNat:Int)^^^BitVec.ofInt 8 (IntKind.u8.wrap a.ug)).toNat).toNat),A8,c9,x.to,true⟩:gL)})) [2,3,13,5,6] [bJ g 65 [sl Ar ((W.aF.map (·.rb)).length) cr,sl Aw ((W.row.set j (⟨x.b.set ((Int.tmod ((Int.tmod a.num (x.b.length:Int))+(x.b.length:Int)) (x.b.length:Int)).toNat) (UInt8.ofNat (IntKind.u8.wrap (BitVec.ofInt 8 (gA.toNat:Int)^^^BitVec.ofInt 8 (IntKind.u8.wrap a.ug)).toNat).toNat),A8,c9,x.to,true⟩:gL)).length) cw,iv W.fO,sl Aa W.fu.length ca],mE.row Ar cr (W.aF.map (·.rb)),mF.row Aw cw (W.row.set j (⟨x.b.set ((Int.tmod ((Int.tmod a.num (x.b.length:Int))+(x.b.length:Int)) (x.b.length:Int)).toNat) (UInt8.ofNat (IntKind.u8.wrap (BitVec.ofInt 8 (gA.toNat:Int)^^^BitVec.ofInt 8 (IntKind.u8.wrap a.ug)).toNat).toNat),A8,c9,x.to,true⟩:gL)),pc.row Aa ca W.fu,aM.all (W.aF.map jE)] (⟨Ar,cr,Aw,cw,Aa,ca,rfl⟩)<|a_ [15,14] (⟨{W with row:=W.row.set j (⟨x.b.set ((Int.tmod ((Int.tmod a.num (x.b.length:Int))+(x.b.length:Int)) (x.b.length:Int)).toNat) (UInt8.ofNat (IntKind.u8.wrap (BitVec.ofInt 8 (gA.toNat:Int)^^^BitVec.ofInt 8 (IntKind.u8.wrap a.ug)).toNat).toNat),A8,c9,x.to,true⟩:gL)},kr,hW.flip Kq (YJ.flip YK (by have:=I2.2.2;omega) _ _ _),rfl,rfl,kr⟩)
    ·refine aa 1 fun _=>fQ 8 9 j gL.own W.row x NZ<|aD 11 (aM.all ((W.row.set j x).map gL.own)) (aM.all (W.row.map gL.own)) kr (by rw [mr Kq])<|aJ (nc g W) [2,3,4,5,6] Nv (⟨Ar,cr,Aw,cw,Aa,ca,rfl⟩)<|a_ [13,12] (⟨W,kr,hW,rfl,rfl,kr⟩)
   ·refine aa 5 fun _=>aq (a.kind=4) (fun ki=>?_) (fun ki=>?_)
    ·refine ae 4 [10] fun _=>aJ (nc g W) [2,3,4,5,6] Nv (⟨Ar,cr,Aw,cw,Aa,ca,rfl⟩)<|ah (Kr g x W n k hW YJ) [11,8] cJ ?_
     rintro _ _ (⟨W20,O2,rfl,f22,f23,f24,f25,rfl⟩)
     ·refine aa 1 fun _=>fQ 13 9 j gL.own W.row x NZ<|aD 15 (aM.all ((W.row.set j x).map gL.own)) (aM.all (W.row.map gL.own)) kr (by rw [mr Kq])<|pN 16 14 gL.own W.row O2<|aD 17 (aM.all ((W.row++O2).map gL.own)) (aM.all (W20.row.map gL.own)) kr (by rw [f23])<|a_ [12,18] (⟨W20,kr,f22,f24,f25,kr⟩)
    ·refine aa 3 fun _=>aO [(9,_),(10,_)] [2,7,7,2] ⟨fc (e:=fun _=>by have:=zI;omega) (fun vs=>(j:Int)+1),aY (fun vs=>Dj Aw cw W.row j (((j:Int)+1).toNat) (by omega) (by omega) (by omega)) [4] (fun vs=>sl Aw ((W.row.take j++W.row.drop (j+1)).length) cw) [fun vs=>.k (mF.row Aw cw (W.row.take j++W.row.drop (j+1)))] nE ko,trivial⟩ fun sW=>ae 6 [7] fun _=>aq (a.kind=3) (fun Gd=>?_) (fun Gd=>?_)
     ·refine ae 3 [10] fun _=>aJ (nc g ({W with row:=W.row.take j++W.row.drop (j+1)})) [12,3,11,5,6] qds (⟨Ar,cr,Aw,cw,Aa,ca,rfl⟩)<|ah (Kr g x ({W with row:=W.row.take j++W.row.drop (j+1)}) n k hW.cut (⟨YJ.len,YJ.Ae.imp (fun ⟨f,a,b,c⟩=>⟨f,a,b,⟨c.ok,c.fN,c.hv,c.ops⟩⟩) id⟩)) [13,8] cJ ?_
      rintro _ _ (⟨W34,l35,rfl,f36,f37,f38,f39,rfl⟩)
      ·refine aa 1 fun _=>pN 9 16 gL.own (W.row.take j++W.row.drop (j+1)) l35<|aD 17 (aM.all (((W.row.take j++W.row.drop (j+1))++l35).map gL.own)) (aM.all (W34.row.map gL.own)) kr (by rw [f37])<|a_ [14,18] (⟨W34,kr,f36,f38,f39,kr⟩)
     ·refine aa 1 fun _=>aJ (nc g ({W with row:=W.row.take j++W.row.drop (j+1)})) [12,3,11,5,6] qds (⟨Ar,cr,Aw,cw,Aa,ca,rfl⟩)<|a_ [13,9] (⟨{W with row:=W.row.take j++W.row.drop (j+1)},kr,hW.cut,rfl,rfl,kr⟩)
end

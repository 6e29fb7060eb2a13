/- For the law of worlds: What functions do; What lies in memory. -/
import Derived.Test.YtfookmefmjhonaaGreatZ24
set_option linter.all false
namespace Go.Proofs.YtfookmefmjhonaaGreat.My
open Go.RowKit Go.bE
def I_ (A:OA) (c:Nat) (x:aT) (l:List bz) (hl:l.length≤16):hO Cp 204 #[sl A l.length c,bx.V x] (fun U w=>x.gx U w) [cV A c l] (fun v Cs=>(∃A2 c2 l2,v=.tuple #[sl A2 l2.length c2,iv 0]∧(∃i,i≤l.length∧l2=l.take i++x.o::l.drop i)∧l.length<16∧Cs= [cV A2 c2 l2])∨(v=.tuple #[sl none 0 0,iv 5]∧Cs= [cV A c l])):=by
 refine kz [.k (cV A c l)] Tryz.func204 fun U w0 hp=>bn (φ:=hZ A c l) 0 ?_
 rintro _ ⟨iA,lz,rfl⟩
 have mJ:iA.length=l.length:=by rw [← lz,cM]
 refine aC 0 (sl A iA.length c) (sl A l.length c) (by rw [mJ])<|ae 10 [3] fun nB=>ah (I' A c iA x (by omega)) [] (fun w h=>h.bg 1 A c iA kr) ?_
 rintro _ _ ⟨i4,f5,rfl,f6,rfl⟩
 refine aa 11 fun _=>eg 15 f5 (fun h7=>?_) (fun h7=>?_)
 ·refine aa 11 fun _=>qh0
 ·refine aa 5 fun _=>aq ((iA.length:Int)=16) (fun h8=>?_) (fun h8=>?_)
  ·refine aa 5 fun _=>qh0
  ·refine ae 6 [3] fun _=>ah (tB x) [] qqw ?_
   rintro _ _ ⟨A9,rA,rfl,rfl⟩
   refine aa 1 fun F7=>ah (Ja A c iA i4 (F7 0) (⟨x.o,A9,rA⟩:aT) f6 (by omega)) [1,5] cJ ?_
   rintro _ _ ⟨nf,mD,rfl,rfl⟩
   refine aa 3 fun _=>zW 4 2 i4 aT.own iA (⟨x.o,A9,rA⟩:aT) kr<|aJ (hZ nf mD (l.take i4++x.o::l.drop i4)) [6,7] [bx.row nf mD (iA.take i4++(⟨x.o,A9,rA⟩:aT)::iA.drop i4),aM.all ((iA.take i4++(⟨x.o,A9,rA⟩:aT)::iA.drop i4).map aT.own)] (⟨iA.take i4++(⟨x.o,A9,rA⟩:aT)::iA.drop i4,by rw [cT,fm,List.map_take,List.map_drop,lz],rfl⟩)<|a_ [8] (.inl ⟨nf,mD,l.take i4++x.o::l.drop i4,kt (.tuple #[sl nf ((iA.take i4++(⟨x.o,A9,rA⟩:aT)::iA.drop i4).length) mD,iv 0]) (by simp only [bm,dM,b0,cL,mJ]),⟨i4,by omega,rfl⟩,by omega,kr⟩)
def N_ (Av:OA) (cv:Nat) (vv:List Int) (Ax:OA) (cx:Nat) (x:aT) (held:List bz) (hx:bV x.o∧x.o.aX.length=vv.length) (hh: ∀y∈held,bV y∧y.aX.length=vv.length) (hl:held.length≤16):Ct Cp 161 #[sl Av vv.length cv,sl Ax held.length cx,bx.V x] (fun _=>True) [az.row Av cv vv,cV Ax cx held,az.row x.A x.c x.o.aX] (fun v Cs=>(∃(v2:List Int),∃A2 c2 h2 A3 c3 tk,v=.tuple #[sl Av v2.length cv,sl A2 h2.length c2,sl A3 tk.length c3,iv 0]∧kH vv held x.o v2 h2 tk∧Cs= [az.row Av cv v2,cV A2 c2 h2,cV A3 c3 tk])∨(v=.tuple #[sl none 0 0,sl none 0 0,sl none 0 0,iv 5]∧ ¬cQ vv x.o∧Cs= [az.row Av cv vv,cV Ax cx held])):=by
 refine Fz [.k (az.row Av cv vv),.k (cV Ax cx held),.k (az.row x.A x.c x.o.aX)] Tryz.func161 fun U w0 hp=>bn (φ:=hZ Ax cx held) 1 ?_
 rintro _ ⟨iA,lz,rfl⟩
 have mJ:iA.length=held.length:=by rw [← lz,cM]
 refine aC 1 (sl Ax iA.length cx) (sl Ax held.length cx) (by rw [mJ]) ?_
 have Wo:=hx.2
 have XQ:=hx.1.2.2.1
 have rB:=hx.1.1
 unfold bY at rB
 have hx1:=oh hx.1
 have S9:=CP hx.1
 have hxv:=hx.1.2.1.2.1
 have hym: ∀y∈iA,bV y.o∧y.o.aX.length=vv.length:=fun y hy=>hh y.o (by rw [← lz];exact di hy)
 refine aa 9 fun nB=>ed 0 (σ:=List Int×aT×OA×Nat×List aT×OA×Nat×List bz) (fun (v,y,A,c,zs,At,ct,tk)=> [(1,sl A zs.length c),(3,pv (nB 2)),(5,pv (nB 3)),(6,sl none 0 0),(7,sl none 0 0),(8,sl At tk.length ct),(9,iv 0)]) (fun (v,y,A,c,zs,At,ct,tk)=> [.b (nB 2) 32 [sl Av v.length cv],.b (nB 3) 56 (aT.cells y),.k (az.row Av cv v),.k (az.row y.A y.c y.o.aX),.k (bx.row A c zs),.k (aM.all (zs.map aT.own)),.k (cV At ct tk)]) (fun (v,y,A,c,zs,At,ct,tk)=>v.length=vv.length∧cP vv tk v∧cQ v y.o∧(y=x∨y∈iA)∧(∀z∈zs,z∈iA)∧(∀z∈tk,z=x.o∨z∈held)∧tk.length+zs.length≤held.length∧(x.o∈tk∨y.o=x.o)) (fun (v,y,A,c,zs,At,ct,tk)=>zs.length) ?_ ?_
 ·intro _ cG
  refine aa 6 fun _=>?_
  obtain ⟨x4,e5⟩:=aw (xs:=vv) (k:=x.o.st.r.toNat) (by omega)
  rcases bK (decide (x4≥x.o.seq)) with b7|b7
  ·have h6:=cg b7
   have zX:x.o.seq≤dA vv x.o.st.r:=by rw [oi e5];omega
   refine aK [(4,_),(5,iv x4),(8,.bool true)] [5,6,6] ⟨bF (hj:=by first|omega|(have:=(aN.1 lz.1).1;omega)) Av vv.length x.o.st.r 1 (fun w h=>Kd.cd (K:=az) (xs:=vv) (h.bg 0 Av cv vv kr) XR),cB 3 (ad Av (x.o.st.r.toNat*1) 0) (fun w h=>bW (K:=az) (h.bg 0 Av cv vv kr) e5),dv (.bool (decide (x4≥x.o.seq))) (dP b7),trivial⟩ ?_
   refine ae 10 [5] fun _=>aJ (hZ Ax cx held) [3,4] qjw (⟨iA,lz,rfl⟩)<|bG bx<|dQ<|aJ (hZ none 0 []) [8,9] Wp (⟨[],rfl,rfl⟩)<|a_ [0,7,10] (.inl ⟨vv,Ax,cx,held,none,0,[],kt (.tuple #[sl Av vv.length cv,sl Ax iA.length cx,sl none 0 0,iv 0]) qeg,⟨rfl,by simp,fun y h=>.inr h,hl,by simp,fun hr hd ht=>absurd zX hd⟩,kr⟩)
  ·have h6:=de b7
   have zX: ¬x.o.seq≤dA vv x.o.st.r:=by rw [oi e5];omega
   refine aO [(4,_),(5,_),(8,_),(12,_)] [5,6,6] ⟨br (hj:=fun _=>XR) (fun vs=>Av) (fun vs=>vv.length) (fun vs=>x.o.st.r) 1 (fun vs w h=>Kd.cd (K:=az) (xs:=vv) (h.bg 0 Av cv vv kr) XR),cZ 3 (fun vs=>ad Av (x.o.st.r.toNat*1) 0) (fun vs=>iv x4) (fun vs w h=>bW (K:=az) (h.bg 0 Av cv vv kr) e5),jS (fun vs=>.bool (decide (x4≥x.o.seq))) (fun vs=>.bool false) (fun _=>dP b7),fJ (fun vs=>Jb Ax cx iA (nB 3) x (by omega)) [6] (fun vs=>.bool (iA.any (fun z_:aT=>decide (z_.o.st.r=x.o.st.r∧z_.o.seq=x.o.seq)))) [fun vs=>.b (nB 3) 56 (aT.cells x)] (fun vs w F h=>h.XS 3 Ax cx iA kr) ko,trivial⟩ fun v8=>?_
   refine eQ (iA.any (fun z_:aT=>decide (z_.o.st.r=x.o.st.r∧z_.o.seq=x.o.seq))) (fun h9=>?_) (fun h9=>?_)
   ·have zX:=Jc lz h9
    refine ae 9 [5] fun _=>aJ (hZ Ax cx held) [3,4] qjw (⟨iA,lz,rfl⟩)<|bG bx<|dQ<|aJ (hZ none 0 []) [9,10] Wp (⟨[],rfl,rfl⟩)<|a_ [0,8,11] (.inl ⟨vv,Ax,cx,held,none,0,[],kt (.tuple #[sl Av vv.length cv,sl Ax iA.length cx,sl none 0 0,iv 0]) qeg,⟨rfl,by simp,fun y h=>.inr h,hl,by simp,fun hr hd ht=>by obtain ⟨y,hy,h⟩:=zX;exact absurd h (ht y hy)⟩,kr⟩)
   ·refine ae 6 [5,7] fun _=>ah (isReady Av cv vv x (by omega) (by omega) (by omega) (by omega) (by omega) (by omega)) [] (fun w h=>⟨h.bg 0 Av cv vv kr,⟨by omega,h.bg 2 x.A x.c x.o.aX kr⟩⟩) ?_
    rintro _ _ ⟨rfl,rfl⟩
    refine aa 2 fun _=>cU (cQ vv x.o) (fun iJ=>?_) (fun iJ=>?_)
    ·have hnr: ¬cQ vv x.o:=by simpa using iJ
     refine aJ (hZ Ax cx held) [3,4] qjw (⟨iA,lz,rfl⟩)<|aC 1 (sl Ax held.length cx) (sl Ax iA.length cx) (by rw [mJ])<|ae 4 [7] fun _=>bD (I_ Ax cx x held (by omega)) [8] (fun w F h=>⟨by omega,h.F8 2 x.A x.c x.o.aX kr⟩) ?_
     rintro _ _ (⟨F9,Es,l18,rfl,f19,f20,rfl⟩|⟨rfl,rfl⟩)
     ·refine ae 23 [5] fun _=>bG bx<|dQ<|aJ (hZ none 0 []) [10,11] Wp (⟨[],rfl,rfl⟩)<|a_ [0,9,12] (.inl ⟨vv,F9,Es,l18,none,0,[],kt (.tuple #[sl Av vv.length cv,sl F9 l18.length Es,sl none 0 0,iv 0]) qeg,⟨rfl,by simp,fun y h=>by obtain ⟨i,_,e⟩:=f19;rw [e] at h;exact Oa h,by obtain ⟨i,hi,e⟩:=f19;rw [e,mK hi];omega,by simp,fun hr=>absurd hr hnr⟩,kr⟩)
     ·refine aa 21 fun _=>a_ [0,9] (.inr ⟨kr,hnr,kr⟩)
    ·have ve:cQ vv x.o:=by simpa using iJ
     refine aa 3 fun _=>bG bx<|dQ<|aJ (hZ none 0 []) [8,9] Wp (⟨[],rfl,rfl⟩)<|cG _ (vv,x,Ax,cx,iA,none,0,[]) [5,7,0,2,3,4,10] kr ⟨rfl,rfl,ve,.inl rfl,fun z h=>h,by simp,by simp [mJ],.inr rfl⟩
 ·rintro _ ⟨v,y,A,c,zs,At,ct,tk⟩ ⟨Ci,r5,Wq,hyx,CQ,XT,S_,pe⟩ dm
  have hyb:bV y.o∧y.o.aX.length=vv.length:=by rcases hyx with h|h;rw [h];exact hx;exact hym y h
  have XU:y.o=x.o∨y.o∈held:=by rcases hyx with h|h;exact .inl (by rw [h]);exact .inr (by rw [← lz];exact di h)
  have adx: ∀z∈zs,z=x∨z∈iA:=fun z hz=>.inr (CQ z hz)
  have XV: ∀y∈zs,bV y.o∧y.o.aX.length=vv.length:=fun z hz=>hym z (CQ z hz)
  have hyd:=hyb.2
  have aqV:=hyb.1.2.2.1
  have ady:=hyb.1.1
  unfold bY at ady
  have aqW:=hyb.1.2.1.2.1
  have zY:(v.set y.o.st.r.toNat y.o.seq).length=vv.length:=by rw [cX];exact Ci
  have aqX:=hx.2
  refine bn (φ:=hZ At ct tk) 6 ?_
  rintro _ ⟨tC,S',rfl⟩
  have Ta:tC.length=tk.length:=by rw [← S',cM]
  refine aC 8 (sl At tC.length ct) (sl At tk.length ct) (by rw [Ta])<|ae 8 [0,1,1] fun _=>aV (hj:=by first|omega|(have:=(aN.1 lz.1).1;omega)) Av v.length y.o.st.r 1 (fun w h=>Kd.cd (K:=az) (xs:=v) (h.bg 2 Av cv v kr) XR) ?_
  obtain ⟨vf,Et⟩:=aw (xs:=v) (k:=y.o.st.r.toNat) (by omega)
  refine gH az 2 Av cv v y.o.st.r.toNat 0 vf y.o.seq 3 (iv y.o.seq) Et<|ae 5 [1] fun _=>ah (tB y) [] (fun w h=>⟨by omega,h.bg 3 y.A y.c y.o.aX kr⟩) ?_
  rintro _ _ ⟨vg,vz,rfl,rfl⟩
  refine aa 1 fun Jd=>bQ bx 7 At ct tC (so (Jd 0)) 1 1 [(⟨y.o,vg,vz⟩:aT)] (fun w h=>h.eT 10 (Jd 0) 56 (List.flatMap bx.f [(⟨y.o,vg,vz⟩:aT)]) kr) (by omega) fun pR rC=>aa 7 fun _=>bP 0 (nB 2) 32 [sl Av v.length cv] qi5 kr (by rw [zY,Ci])<|bD (Je A c zs (nB 2) (v.set y.o.st.r.toNat y.o.seq) Av cv (by omega) (fun y hy=>⟨(XV y hy).1,by rw [(XV y hy).2];exact zY.symm⟩)) [0] (fun w F h=>⟨h.XW 4 5 A c zs kr kr (by omega) (fun x hx=>gg (XV x hx).1),h.F8 2 Av cv (v.set y.o.st.r.toNat y.o.seq) kr⟩) ?_
  rintro _ _ ⟨rfl,rfl⟩
  refine dB 11 (nB 2) 32 qi5<|aa 7 fun _=>aq ((eU (fun z_:aT=>decide (cQ (v.set y.o.st.r.toNat y.o.seq) z_.o)) zs)≥0) (fun Rk=>?_) (fun Rk=>?_)
  ·obtain ⟨y2,lz⟩:=xE (p:=fun z_:aT=>decide (cQ (v.set y.o.st.r.toNat y.o.seq) z_.o)) (xs:=zs) (by omega)
   refine aC 10 (iv ((eU (fun z_:aT=>decide (cQ (v.set y.o.st.r.toNat y.o.seq) z_.o)) zs).toNat:Int)) (iv (eU (fun z_:aT=>decide (cQ (v.set y.o.st.r.toNat y.o.seq) z_.o)) zs)) XX<|aa 4 fun _=>aV (hj:=by first|omega|(have:=(aN.1 lz.1).1;omega)) A zs.length ((eU (fun z_:aT=>decide (cQ (v.set y.o.st.r.toNat y.o.seq) z_.o)) zs).toNat:Int) 12 (fun w h=>Kd.cd (K:=bx) (xs:=zs) (h.bg 4 A c zs kr) XR) ?_
   refine bd 56 (((cz A).add (((eU (fun z_:aT=>decide (cQ (v.set y.o.st.r.toNat y.o.seq) z_.o)) zs).toNat)*12)).add 0) (bx.V y2) (fun w h=>bN (K:=bx) (h.bg 4 A c zs kr) lz.1)<|ae 8 [1] fun _=>ao (e:=by have:=(aN.1 lz.1).1;omega) 66 (((eU (fun z_:aT=>decide (cQ (v.set y.o.st.r.toNat y.o.seq) z_.o)) zs).toNat:Int)+1) ?_
   refine aC 66 (iv (((eU (fun z_:aT=>decide (cQ (v.set y.o.st.r.toNat y.o.seq) z_.o)) zs).toNat+1:Nat):Int)) (iv (((eU (fun z_:aT=>decide (cQ (v.set y.o.st.r.toNat y.o.seq) z_.o)) zs).toNat:Int)+1)) (iT rfl)<|ah (Jf A c zs ((eU (fun z_:aT=>decide (cQ (v.set y.o.st.r.toNat y.o.seq) z_.o)) zs).toNat) ((eU (fun z_:aT=>decide (cQ (v.set y.o.st.r.toNat y.o.seq) z_.o)) zs).toNat+1) (by omega) ((aN.1 lz.1).1) (by omega)) [4] cJ ?_
   rintro _ _ ⟨rfl,rfl⟩
   refine aa 2 fun _=>eD aT.own 9 8 tC (⟨y.o,vg,vz⟩:aT) kr<|aJ (hZ pR rC (tk++ [y.o])) [7,13] qil (⟨tC++ [(⟨y.o,vg,vz⟩:aT)],by rw [cT,S'];rfl,rfl⟩)<|aC 8 (sl pR ((tk++ [y.o]).length) rC) (sl pR ((tC++ [(⟨y.o,vg,vz⟩:aT)]).length) rC) (by simp only [bm,List.length_singleton,Ta])<|gu 5 ((eU (fun z_:aT=>decide (cQ (v.set y.o.st.r.toNat y.o.seq) z_.o)) zs).toNat) aT.own zs y2 lz.1 kr<|dm _ (v.set y.o.st.r.toNat y.o.seq,y2,A,c,zs.take ((eU (fun z_:aT=>decide (cQ (v.set y.o.st.r.toNat y.o.seq) z_.o)) zs).toNat)++zs.drop (((eU (fun z_:aT=>decide (cQ (v.set y.o.st.r.toNat y.o.seq) z_.o)) zs).toNat)+1),pR,rC,tk++ [y.o]) [11,1,2,15,12,16,14] kr ⟨by rw [cX];exact Ci,r5.snoc Wq,by simpa using lz.2,adx y2 (aI lz.1),fun z hz=>CQ z (Eu hz),fun z hz=>(eG.1 hz).elim (XT z) (fun h=>by rw [fv.1 h];exact XU),by have h9:=Ew (aN.1 lz.1).1;have h8:(tk++ [y.o]).length=tk.length+1:=(by simp);omega,.inl qmc⟩ (by dsimp only;have:=Ew (aN.1 lz.1).1;omega)
  ·refine aa 5 fun _=>bD (Ob A c zs (nB 2) (v.set y.o.st.r.toNat y.o.seq) Av cv (by omega) (fun y hy=>⟨(XV y hy).1,by rw [(XV y hy).2];exact zY.symm⟩)) [4,11] (fun w F h=>h.F8 2 Av cv (v.set y.o.st.r.toNat y.o.seq) kr) ?_
   rintro _ _ ⟨rfl,rfl⟩
   refine dB 13 (nB 2) 32 qi5<|ae 12 [13] fun _=>eD aT.own 9 8 tC (⟨y.o,vg,vz⟩:aT) kr<|aJ (hZ pR rC (tk++ [y.o])) [7,14] qil (⟨tC++ [(⟨y.o,vg,vz⟩:aT)],by rw [cT,S'];rfl,rfl⟩)<|Jg 5 aT.own (j8 (fun z_:aT=>decide (z_.o.seq≤dA (v.set y.o.st.r.toNat y.o.seq) z_.o.st.r)) zs) zs List.filter_sublist kr<|aJ (hZ A c (vO (j8 (fun z_:aT=>decide (z_.o.seq≤dA (v.set y.o.st.r.toNat y.o.seq) z_.o.st.r)) zs))) [12,16] [bx.row A c (j8 (fun z_:aT=>decide (z_.o.seq≤dA (v.set y.o.st.r.toNat y.o.seq) z_.o.st.r)) zs),aM.all ((j8 (fun z_:aT=>decide (z_.o.seq≤dA (v.set y.o.st.r.toNat y.o.seq) z_.o.st.r)) zs).map aT.own)] (⟨_,rfl,rfl⟩) ?_
   have vh:(j8 (fun z_:aT=>decide (z_.o.seq≤dA (v.set y.o.st.r.toNat y.o.seq) z_.o.st.r)) zs).length≤zs.length:=List.length_filter_le _ _
   exact a_ [2,17,15] (.inl ⟨v.set y.o.st.r.toNat y.o.seq,A,c,vO (j8 (fun z_:aT=>decide (z_.o.seq≤dA (v.set y.o.st.r.toNat y.o.seq) z_.o.st.r)) zs),pR,rC,tk++ [y.o],kt (.tuple #[sl Av ((v.set y.o.st.r.toNat y.o.seq).length) cv,sl A ((j8 (fun z_:aT=>decide (z_.o.seq≤dA (v.set y.o.st.r.toNat y.o.seq) z_.o.st.r)) zs).length) c,sl pR ((tC++ [(⟨y.o,vg,vz⟩:aT)]).length) rC,iv 0]) qeg,⟨r5.snoc Wq,fun z hz=>(eG.1 hz).elim (XT z) (fun h=>by rw [fv.1 h];exact XU),fun y h=>by obtain ⟨z,hz,e⟩:=List.mem_map.1 h;exact .inr (by rw [← e,← lz];exact di (CQ z (List.mem_filter.1 hz).1)),by rw [cM];omega,by simp only [bm,List.length_singleton];omega,fun _ _ _=>qmc⟩,kr⟩)
def _root_.Go.bE.Ct.Rt {P:Program} {f:FuncId} {args:Array Value} {jx:World→Prop} {C:List aM} {R:Value→List aM→Prop} (h:Ct P f args jx C R) (is:List Nat) (hp:is.isPerm (List.range C.length)=true):Ct P f args jx (is.map fun i=>C.getD i aM.emp) R:=fun U w h1 h2=>h U w h1 (h2.perm (lP hp))
def _root_.Go.bE.hO.Rt {P:Program} {f:FuncId} {args:Array Value} {jx:(Nat→Prop)→World→Prop} {C:List aM} {R:Value→List aM→Prop} (h:hO P f args jx C R) (is:List Nat) (hp:is.isPerm (List.range C.length)=true):hO P f args jx (is.map fun i=>C.getD i aM.emp) R:=fun U w h1 h2=>h U w h1 (h2.perm (lP hp))
def eI:Value→Nat
 |.slice _ n _=>n
 |_=>0
def dH:Value→Int
 |.int _ x=>x
 |_=>0
abbrev gi (v:Value) (k:Nat):Value:=iv (dH (ag v k))
abbrev gs (v:Value) (k:Nat):Value:=.slice (ak (ag v k)) (eI (ag v k)) (an (ag v k))
def X3 (Av:OA) (cv:Nat) (vv:List Int) (Ax:OA) (cx:Nat) (held:List bz) (x:bz) (a1:OA) (n1 c1:Nat) (a2:OA) (n2 c2:Nat) (a3:OA) (n3 c3:Nat) (e:Int) (Cs:List aM):Prop:=
 (e=0∧ ∃v2 h2 tk,kH vv held x v2 h2 tk∧a1=Av∧c1=cv∧n1=v2.length∧n2=h2.length∧n3=tk.length∧Cs= [az.row Av cv v2,cV a2 c2 h2,cV a3 c3 tk])∨(e=5∧ ¬cQ vv x∧Cs= [az.row Av cv vv,cV Ax cx held])
def X4 (Av:OA) (cv:Nat) (vv:List Int) (Ax:OA) (cx:Nat) (held:List bz) (x:bz) (a1:OA) (n1 c1:Nat) (a2:OA) (n2 c2:Nat) (a3:OA) (n3 c3:Nat) (e:Int):aM:=g9 (X3 Av cv vv Ax cx held x a1 n1 c1 a2 n2 c2 a3 n3 c3 e)
def Jt (Av:OA) (cv:Nat) (vv:List Int) (Ax:OA) (cx:Nat) (x:aT) (held:List bz) (hx:bV x.o∧x.o.aX.length=vv.length) (hh: ∀y∈held,bV y∧y.aX.length=vv.length) (hl:held.length≤16):Ct Tryz.prog 161 #[.slice Av vv.length cv,.slice Ax held.length cx,bx.V x] (fun _=>True) [az.row Av cv vv,cV Ax cx held,az.row x.A x.c x.o.aX]
 (fun v Cs=> ∃(a1:OA),∃(n1:Nat),∃(c1:Nat),∃(a2:OA),∃(n2:Nat),∃(c2:Nat),∃(a3:OA),∃(n3:Nat),∃(c3:Nat),∃(e:Int),v=.tuple #[.slice a1 n1 c1,.slice a2 n2 c2,.slice a3 n3 c3,iv e]∧Cs= [X4 Av cv vv Ax cx held x.o a1 n1 c1 a2 n2 c2 a3 n3 c3 e]):=
 (N_ Av cv vv Ax cx x held hx hh hl).mono (fun _ h=>h) fun v Cs hR=>by
  rcases hR with ⟨v2,A2,c2,h2,A3,c3,tk,h,f,e⟩|⟨h,f,e⟩
  ·exact ⟨_,⟨_,_,_,_,_,_,_,_,_,_,h,rfl⟩,fun U w0 w hS=>SS.rE (K:= []) qo2 (.inl ⟨rfl,v2,h2,tk,f,rfl,rfl,rfl,rfl,rfl,e⟩)⟩
  ·exact ⟨_,⟨_,_,_,_,_,_,_,_,_,_,h,rfl⟩,fun U w0 w hS=>SS.rE (K:= []) qo2 (.inr ⟨rfl,f,e⟩)⟩
def kH.pM {v:List Int} {held:List bz} {x:bz} {v2:List Int} {h2 tk:List bz} (h:kH v held x v2 h2 tk) (hh: ∀o∈held,bV o) (hx:bV x):(∀o∈tk,bV o)∧ ∀o∈h2,bV o:=
 ⟨fun o ho=>(h.YT o ho).elim (fun e=>e▸hx) (hh o),fun o ho=>(h.je o ho).elim (fun e=>e▸hx) (hh o)⟩
def Fi (g:Nat) (x:aT) (d:j9) (hf:gI d) (hx:bV x.o∧x.o.aX.length=d.hv.length) (hh: ∀y∈d.held,y.aX.length=d.hv.length) (hr:d.ops.length≤2900):Ct Cp 111 #[pv g,bx.V x] (fun _=>True) [oY g d,az.row x.A x.c x.o.aX] (fun v Cs=>(∃(v2:List Int),∃h2 tk,v=iv 0∧kH d.hv d.held x.o v2 h2 tk∧Cs= [oY g ({d with hv:=v2,held:=h2,ops:=d.ops++tk})])∨(v=iv 5∧ ¬cQ d.hv x.o∧Cs= [oY g d])):=by
 refine Fz [.k (oY g d),.k (az.row x.A x.c x.o.aX)] Tryz.func111 fun U w0 hp=>?_
 have vh:=hf.ol
 refine bn (φ:=pT g d) 0 ?_
 rintro _ ⟨a,rfl⟩
 refine dB 2 g 54 qm3<|bn (φ:=SP ⟨d,a⟩) 3 ?_
 rintro _ rfl
 refine aa 6 fun a8=>aO [(9,_)] [2,2,9] ⟨aY (fun vs=>(Jt a.Ah a.ch d.hv a.Ax a.cx x d.held hx (fun y hy=>⟨hf.held y hy,hh y hy⟩) hf.hl).Rt [2,0,1] rfl) [1,4,6] (fun vs=>.tuple #[sl (ak (tp (vs 9) 0)) (eI (tp (vs 9) 0)) (an (tp (vs 9) 0)),sl (ak (tp (vs 9) 1)) (eI (tp (vs 9) 1)) (an (tp (vs 9) 1)),sl (ak (tp (vs 9) 2)) (eI (tp (vs 9) 2)) (an (tp (vs 9) 2)),iv (dH (tp (vs 9) 3))]) [fun vs=>.k (X4 a.Ah a.ch d.hv a.Ax a.cx d.held x.o (ak (tp (vs 9) 0)) (eI (tp (vs 9) 0)) (an (tp (vs 9) 0)) (ak (tp (vs 9) 1)) (eI (tp (vs 9) 1)) (an (tp (vs 9) 1)) (ak (tp (vs 9) 2)) (eI (tp (vs 9) 2)) (an (tp (vs 9) 2)) (dH (tp (vs 9) 3)))] nE (fun vs u C h=>by obtain ⟨_,_,_,_,_,_,_,_,_,_,rfl,rfl⟩:=h;exact ⟨rfl,rfl⟩),trivial⟩ fun eE=>aa 6 fun _=>bn (φ:=X3 a.Ah a.ch d.hv a.Ax a.cx d.held x.o (ak (tp (eE 9) 0)) (eI (tp (eE 9) 0)) (an (tp (eE 9) 0)) (ak (tp (eE 9) 1)) (eI (tp (eE 9) 1)) (an (tp (eE 9) 1)) (ak (tp (eE 9) 2)) (eI (tp (eE 9) 2)) (an (tp (eE 9) 2)) (dH (tp (eE 9) 3))) 10 ?_
 rintro _ (⟨he,v2,h2,tk,BH,e1,e2,e3,e4,e5,rfl⟩|⟨he,hnr,rfl⟩)
 ·refine aC 22 (sl a.Ah v2.length a.ch) (sl (ak (tp (eE 9) 0)) (eI (tp (eE 9) 0)) (an (tp (eE 9) 0))) qqz<|aC 23 (sl (ak (tp (eE 9) 1)) h2.length (an (tp (eE 9) 1))) (sl (ak (tp (eE 9) 1)) (eI (tp (eE 9) 1)) (an (tp (eE 9) 1))) (by rw [e4])<|aC 24 (sl (ak (tp (eE 9) 2)) tk.length (an (tp (eE 9) 2))) (sl (ak (tp (eE 9) 2)) (eI (tp (eE 9) 2)) (an (tp (eE 9) 2))) (by rw [e5])<|aC 25 (iv 0) (iv (dH (tp (eE 9) 3))) (iT he)<|aC 5 (sl a.Ah v2.length a.ch) (sl (ak (tp (eE 9) 0)) (eI (tp (eE 9) 0)) (an (tp (eE 9) 0))) qqz<|aC 6 (sl (ak (tp (eE 9) 1)) h2.length (an (tp (eE 9) 1))) (sl (ak (tp (eE 9) 1)) (eI (tp (eE 9) 1)) (an (tp (eE 9) 1))) (by rw [e4])<|aC 7 (sl (ak (tp (eE 9) 2)) tk.length (an (tp (eE 9) 2))) (sl (ak (tp (eE 9) 2)) (eI (tp (eE 9) 2)) (an (tp (eE 9) 2))) (by rw [e5])<|aC 8 (iv 0) (iv (dH (tp (eE 9) 3))) (iT he)<|aC 26 (iv 0) (iv (dH (tp (eE 9) 3))) (iT he)<|aC 27 (.bool false) (.bool (!decide ((dH (tp (eE 9) 3))=0))) (dP (by simp [he]))<|ae 23 [2,2] fun _=>?_
  refine aJ (SP ⟨{d with hv:=v2,held:=h2},⟨a.Ah,a.ch,a.Ao,a.co,ak (tp (eE 9) 1),an (tp (eE 9) 1),a.An,a.cn,a.Am,a.cm,a.Al,a.cl⟩⟩) [11,5,12,7,8] [az.row a.Ah a.ch v2,cV a.Ao a.co d.ops,cV (ak (tp (eE 9) 1)) (an (tp (eE 9) 1)) h2,iK a.An a.cn a.Am a.cm (dJ d.ops),kI a.Al a.cl (fY d.ops)] rfl<|aJ (pT g ({d with hv:=v2,held:=h2})) [2,14] [bJ g 54 [iv d.rep,iv (bq d.ops),sl a.Ah v2.length a.ch,sl a.Ao d.ops.length a.co,sl (ak (tp (eE 9) 1)) h2.length (an (tp (eE 9) 1)),sl a.An ((ai (dJ d.ops) []).length) a.cn,sl a.Am ((dJ d.ops).length) a.cm,sl a.Al ((fY d.ops).length) a.cl,iv d.wait,iv d.dT,iv d.aW],SA (⟨{d with hv:=v2,held:=h2},⟨a.Ah,a.ch,a.Ao,a.co,ak (tp (eE 9) 1),an (tp (eE 9) 1),a.An,a.cn,a.Am,a.cm,a.Al,a.cl⟩⟩)] (⟨⟨a.Ah,a.ch,a.Ao,a.co,ak (tp (eE 9) 1),an (tp (eE 9) 1),a.An,a.cn,a.Am,a.cm,a.Al,a.cl⟩,rfl⟩)<|aD 15 (oY g ({d with hv:=v2,held:=h2})) (oY g ({d with hv:=v2,held:=h2,ops:=d.ops++tk.take 0})) kr (by rw [List.take_zero,fj])<|bn (φ:=hZ (ak (tp (eE 9) 2)) (an (tp (eE 9) 2)) tk) 13 ?_
  rintro _ ⟨BI,UT,rfl⟩
  have mJ:BI.length=tk.length:=by rw [← UT,cM]
  refine aR (σ:=Nat) (fun k=> [(0,pv g),(4,iv 0),(37,sl (ak (tp (eE 9) 2)) tk.length (an (tp (eE 9) 2))),(38,iv (tk.length:Int)),(39,iv k)]) (fun k=> [.k (bx.row (ak (tp (eE 9) 2)) (an (tp (eE 9) 2)) BI),.k (aM.all (BI.map aT.own)),.k (oY g ({d with hv:=v2,held:=h2,ops:=d.ops++tk.take k}))]) (fun k=>k≤tk.length) (fun k=>tk.length-k) 0 [17,18,16] (bh _) ?_
  rintro _ k hk aB
  refine aa 5 fun _=>aq ((k:Int)<(tk.length:Int)) (fun vG=>?_) (fun vG=>?_)
  ·refine aa 5 fun _=>aV (ak (tp (eE 9) 2)) tk.length (k:Int) 12 (fun w h=>Kd.cd (K:=bx) (xs:=BI) (h.bg 0 (ak (tp (eE 9) 2)) (an (tp (eE 9) 2)) BI kr) (by omega)) ?_
   obtain ⟨l9,vo⟩:=aw (xs:=BI) (k:=k) (by omega)
   refine bd 56 (((cz (ak (tp (eE 9) 2))).add (k*12)).add 0) (bx.V l9) (fun w h=>bN (K:=bx) (h.bg 0 (ak (tp (eE 9) 2)) (an (tp (eE 9) 2)) BI kr) vo)<|ae 6 [3,3] fun DH=>bD (EK g l9 ({d with hv:=v2,held:=h2,ops:=d.ops++tk.take k}) (⟨fun o ho=>(eG.1 ho).elim (hf.ops o) (fun h=>(BH.pM hf.held hx.1).1 o (gU h)),(BH.pM hf.held hx.1).2,by rw [BH.chain.len];exact hf.hv,by have h8:=BH.tl;have h9:=hf.hl;simp only [bm,b0];omega,BH.hl⟩)) [2] (fun w F h=>⟨gg ((BH.pM hf.held hx.1).1 l9.o (by rw [← UT];exact di (aI vo))),h.yq 1 aT.own BI (aI vo) rfl kr⟩) ?_
   rintro _ _ ⟨rfl,rfl⟩
   refine aa 4 fun _=>ao (e:=by have h8:=BH.tl;have h9:=hf.hl;omega) 46 ((k:Int)+1)<|aa 2 fun _=>aD 4 (oY g ({({d with hv:=v2,held:=h2,ops:=d.ops++tk.take k}) with ops:=({d with hv:=v2,held:=h2,ops:=d.ops++tk.take k}).ops++ [l9.o]})) (oY g ({d with hv:=v2,held:=h2,ops:=d.ops++tk.take (k+1)})) kr (by rw [← bp (show tk[k]? =some l9.o by rw [← UT,fk,vo];rfl),cH]) ?_
   exact aB _ (k+1) [0,1,5] kr (by omega) (by omega)
  ·refine aa 5 fun _=>aD 2 (oY g ({d with hv:=v2,held:=h2,ops:=d.ops++tk.take k})) (oY g ({d with hv:=v2,held:=h2,ops:=d.ops++tk})) kr Oh<|a_ [3] (.inl ⟨v2,h2,tk,kr,BH,kr⟩)
 ·refine aC 25 (iv 5) (iv (dH (tp (eE 9) 3))) (iT he)<|aC 8 (iv 5) (iv (dH (tp (eE 9) 3))) (iT he)<|aC 26 (iv 5) (iv (dH (tp (eE 9) 3))) (iT he)<|aC 27 (.bool true) (.bool (!decide ((dH (tp (eE 9) 3))=0))) (dP (by simp [he]))<|aa 6 fun _=>aJ (SP ⟨d,⟨a.Ah,a.ch,a.Ao,a.co,a.Ax,a.cx,a.An,a.cn,a.Am,a.cm,a.Al,a.cl⟩⟩) [11,5,12,7,8] [az.row a.Ah a.ch d.hv,cV a.Ao a.co d.ops,cV a.Ax a.cx d.held,iK a.An a.cn a.Am a.cm (dJ d.ops),kI a.Al a.cl (fY d.ops)] rfl<|aJ (pT g d) [2,13] [bJ g 54 (c_.cells ⟨d,a⟩),SA (⟨d,⟨a.Ah,a.ch,a.Ao,a.co,a.Ax,a.cx,a.An,a.cn,a.Am,a.cm,a.Al,a.cl⟩⟩)] (⟨⟨a.Ah,a.ch,a.Ao,a.co,a.Ax,a.cx,a.An,a.cn,a.Am,a.cm,a.Al,a.cl⟩,rfl⟩)<|a_ [14] (.inr ⟨kr,hnr,kr⟩)
end Go.Proofs.YtfookmefmjhonaaGreat.My
namespace Go.Proofs.YtfookmefmjhonaaGreat.My
open Go.RowKit Go.bE
def ph (A:OA) (l:List bz) (w:World):Prop:= ∃ys:List aT,ys.map (·.o)=l∧ir A ys w
def sL (An Am:OA) (l:List bz) (w:World):Prop:= ∃ms:List cD,ms.map cD.d=fz l []∧aP.Rd An (ai l []) w∧r6 Am ms w
def E1 (Al:OA) (ls:List iZ) (w:World):Prop:= ∃xs:List bj,xs.map bj.d=ls∧oX Al xs w
structure AH (v:c_) (w:World):Prop where
 hv:az.Rd v.a.Ah v.d.hv w
 ops:ph v.a.Ao v.d.ops w
 held:ph v.a.Ax v.d.held w
 tr:sL v.a.An v.a.Am (dJ v.d.ops) w
 lk:E1 v.a.Al (fY v.d.ops) w
def ph.aE {A:OA} {l:List bz} {w w':World} (h:ph A l w) (hc:Ch No w w'):ph A l w':=h.elim fun ys k=>⟨ys,k.1,k.2.aE hc⟩
def sL.aE {A B:OA} {l:List bz} {w w':World} (h:sL A B l w) (hc:Ch No w w'):sL A B l w':=h.elim fun ys k=>⟨ys,k.1,k.2.1.aE hc,k.2.2.aE hc⟩
def E1.aE {A:OA} {l:List iZ} {w w':World} (h:E1 A l w) (hc:Ch No w w'):E1 A l w':=h.elim fun ys k=>⟨ys,k.1,k.2.aE hc⟩
def AH.aE {v:c_} {w w':World} (h:AH v w) (hc:Ch No w w'):AH v w':=⟨h.hv.aE hc,h.ops.aE hc,h.held.aE hc,h.tr.aE hc,h.lk.aE hc⟩
section
variable {U:Nat→Prop} {w0 w:World} {K H:List aM}
def yK {A:OA} {c:Nat} {l:List bz} (hS:SS U w0 w H) (hi:cV A c l∈H) (hm: ∀o∈l,bV o) (hl:l.length≤100000):ph A l w:=by
 obtain ⟨i,hi,e⟩:=List.getElem_of_mem hi
 have h1:=hS.perm (iG (i:=i) W6)
 obtain ⟨C,⟨ys,hy,rfl⟩,h2⟩:=SS.g9 h1
 have mJ:ys.length=l.length:=by rw [← hy,cM]
 refine ⟨ys,hy,by omega,SS.get h2 (i:=0) rfl fun F hF=>Row.rc hF.2,fun x hx=>⟨gg (hm x.o (by rw [← hy];exact di hx)),?_⟩⟩
 exact SS.get h2 (i:=1) rfl fun F hF=>by
  exact qkw
def Sc {An Am:OA} {cn cm:Nat} {l:List bz} (hS:SS U w0 w H) (hi:iK An cn Am cm l∈H) (hm: ∀o∈l,bV o) (hl:l.length≤100000):sL An Am l w:=by
 obtain ⟨i,hi,e⟩:=List.getElem_of_mem hi
 have h1:=hS.perm (iG (i:=i) W6)
 obtain ⟨C,⟨ms,mO,rfl⟩,h2⟩:=SS.g9 h1
 have oO:=iC mO
 refine ⟨ms,mO,SS.get h2 (i:=0) rfl fun F hF=>Row.rc hF.2,by omega,SS.get h2 (i:=1) rfl fun F hF=>Row.rc hF.2,fun x hx=>⟨?_,?_⟩⟩
 ·obtain ⟨k,hk,e2⟩:=List.getElem_of_mem hx
  obtain ⟨o,ho,e3,_⟩:=wO mO (dw hk)
  rw [e2] at e3
  rw [e3]
  exact gg (hm o (aI ho))
 ·exact SS.get h2 (i:=2) rfl fun F hF=>by
   obtain ⟨F',Bp⟩:=s9 (di (f:=cD.own) hx) hF
   exact Row.rc Bp.2
def Sd {A:OA} {c:Nat} {ls:List iZ} (hS:SS U w0 w H) (hi:kI A c ls∈H) (hm: ∀k∈ls,k.bX.length≤100000) (hl:ls.length≤100000):E1 A ls w:=by
 obtain ⟨i,hi,e⟩:=List.getElem_of_mem hi
 have h1:=hS.perm (iG (i:=i) W6)
 obtain ⟨C,⟨xs,hy,rfl⟩,h2⟩:=SS.g9 h1
 have mJ:xs.length=ls.length:=by rw [← hy,cM]
 refine ⟨xs,hy,by omega,SS.get h2 (i:=0) rfl fun F hF=>Row.rc hF.2,fun x hx=>⟨?_,?_⟩⟩
 ·have:=hm x.d (by rw [← hy];exact di hx)
  exact eF this (by decide)
 ·exact SS.get h2 (i:=1) rfl fun F hF=>by
   obtain ⟨F',Bp⟩:=s9 (di (f:=bj.own) hx) hF
   exact Row.rc Bp.2
def K1 {v:c_} (hS:SS U w0 w H) (hi:SA v∈H) (hf:gI v.d):AH v w:=by
 obtain ⟨i,hi,e⟩:=List.getElem_of_mem hi
 have h1:=hS.perm (iG (i:=i) W6)
 obtain ⟨C,hC,h2⟩:=SS.g9 h1
 have hC:C=_:=hC
 subst hC
 have m1:=hf.ol
 have m2:=hf.hl
 have m3:=hf.ml
 have m4:=hf.ll
 exact ⟨SS.get h2 (i:=0) rfl fun F hF=>Row.rc hF.2,yK h2 (aI (i:=1) rfl) hf.ops (by omega),yK h2 (aI (i:=2) rfl) hf.held (by omega),Sc h2 (aI (i:=3) rfl) hf.mm (by omega),Sd h2 (aI (i:=4) rfl) (fun k hk=>(hf.rs k hk).2) (by omega)⟩
def _root_.Go.bE.SH.Ns {H:List HB} {v:c_} (h:SH U w0 w H) (i:Nat) (hi:(dR H.length [i],pk H [i])=(true,[SA v])) (hf:gI v.d):AH v w:=by
 simp only [bI] at hi
 exact K1 h (aI (SH.gf hi.1 hi.2)) hf
end
end Go.Proofs.YtfookmefmjhonaaGreat.My
namespace Go.Proofs.YtfookmefmjhonaaGreat.My
open Go.RowKit Go.bE
def Fb (A:OA) (c:Nat) (l:List bz):Ct Tryz.prog 49 #[.slice A l.length c] (fun w=>ph A l w) [] (fun v Cs=> ∃(A':OA),∃(c':Nat),v=.slice A' l.length c'∧Cs= [cV A' c' l]):=fun U w ⟨ys,e,h⟩ hS=>by
 subst e
 have:=yJ A c ys U w h hS
 rw [cM]
 exact qod
end Go.Proofs.YtfookmefmjhonaaGreat.My
namespace Go.Proofs.YtfookmefmjhonaaGreat.My
open Go.RowKit Go.bE
def Q2 (An:OA) (cn:Nat) (Am:OA) (cm:Nat) (l:List bz) (hlb:l.length≤100000):Ct Cp 85 #[.agg #[sl An ((ai l []).length) cn,sl Am l.length cm]] (fun w=>sL An Am l w) [] (fun v Cs=> ∃A3 c3 A4 c4,v=.agg #[sl A3 ((ai l []).length) c3,sl A4 l.length c4]∧Cs= [iK A3 c3 A4 c4 l]):=by
 refine cc Tryz.func85 fun w0 hp=>?_
 obtain ⟨ms,mO,Bg,G3⟩:=hp
 have oO:=iC mO
 refine aC 0 (.agg #[sl An ((ai l []).length) cn,sl Am ms.length cm]) (.agg #[sl An ((ai l []).length) cn,sl Am l.length cm]) (by rw [oO])<|aa 6 fun a8=>aO [(2,_),(5,_)] [0,0,0,4] ⟨aY (fun vs=>MI An cn (ai l []) (by have:=mP l;omega)) [] (fun vs=>sl (ak (vs 2)) ((ai l []).length) (an (vs 2))) [fun vs=>.k (aP.row (ak (vs 2)) (an (vs 2)) (ai l []))] (fun vs w h=>Bg.aE h.ch) kA,aY (fun vs=>Bm Am cm ms (by have:=mP l;omega)) [] (fun vs=>sl (ak (vs 5)) ms.length (an (vs 5))) [fun vs=>.k (gq.row (ak (vs 5)) (an (vs 5)) ms)] (fun vs w h=>G3.2.1.aE h.ch) kA,trivial⟩ fun v8=>ae 9 [5] fun _=>dQ<|aS gq 3 (ak (v8 5)) (an (v8 5)) ms (([]:List cD)++ms.drop 0) kr rfl<|aR (σ:=Nat×List cD) (fun (k,ys)=> [(1,pv (a8 2)),(2,pv (a8 3)),(14,iv (ms.length:Int)),(15,iv k)]) (fun (k,ys)=> [.b (a8 3) 49 [sl none 0 0,sl none 0 0],.k (aP.row (ak (v8 2)) (an (v8 2)) (ai l [])),.b (a8 2) 49 [sl (ak (v8 2)) ((ai l []).length) (an (v8 2)),sl (ak (v8 5)) ms.length (an (v8 5))],.k (gq.row (ak (v8 5)) (an (v8 5)) (ys++ms.drop k)),.k (aM.all (ys.map cD.own))]) (fun (k,ys)=>k≤ms.length∧ys.length=k∧ys.map cD.d=(ms.take k).map cD.d) (fun (k,ys)=>ms.length-k) (0,[]) [1,2,5,7,6] ⟨bh _,rfl,rfl⟩ ?_
 rintro _ ⟨k,ys⟩ ⟨hk,hl,hy⟩ aB
 refine aa 5 fun _=>aq ((k:Int)<(ms.length:Int)) (fun h9=>?_) (fun h9=>?_)
 ·refine aa 8 fun _=>?_
  obtain ⟨gA,zF⟩:=aw (xs:=ys++ms.drop k) (k:=k) qre
  refine aO [(6,_),(8,_),(9,_),(10,_),(12,_)] [2,2] ⟨qeq,cZ 56 (fun vs=>((cz (ak (v8 5))).add (k*17)).add 0) (fun vs=>bx.V gA.x) (fun vs w h=>iy (K:=gq) (o:=0) (m:=12) (sub:=(aT.cells gA.x)) (h.bg 3 (ak (v8 5)) (an (v8 5)) (ys++ms.drop k) kr) zF),aY (fun vs=>tB gA.x) [] (fun vs=>bx.V ⟨gA.x.o,ak (ag (vs 9) 3),an (ag (vs 9) 3)⟩) [fun vs=>.k (az.row (ak (ag (vs 9) 3)) (an (ag (vs 9) 3)) gA.x.o.aX)] (fun vs w h=>((G3.2.2 gA (aI (mV hl zF))).aE h.ch)) kA,qeq,cR gq 3 (fun vs=>ak (v8 5)) (fun vs=>an (v8 5)) (fun vs=>ys++ms.drop k) k 0 (fun vs=>gA) (fun vs=>(⟨(⟨gA.x.o,ak (ag (vs 9) 3),an (ag (vs 9) 3)⟩:aT),gA.kW,⟨gA.par.t,gA.par.r⟩,gA.key,gA.idle⟩:cD)) 56 (fun vs=>bx.V ⟨gA.x.o,ak (ag (vs 9) 3),an (ag (vs 9) 3)⟩) (fun _=>zF),trivial⟩ fun jy=>aa 3 fun _=>ao 30 ((k:Int)+1)<|aa 2 fun _=>eD cD.own 5 4 ys (⟨(⟨gA.x.o,ak (ag (jy 9) 3),an (ag (jy 9) 3)⟩:aT),gA.kW,⟨gA.par.t,gA.par.r⟩,gA.key,gA.idle⟩:cD) kr<|aS gq 6 (ak (v8 5)) (an (v8 5)) ((ys++ms.drop k).set k (⟨(⟨gA.x.o,ak (ag (jy 9) 3),an (ag (jy 9) 3)⟩:aT),gA.kW,⟨gA.par.t,gA.par.r⟩,gA.key,gA.idle⟩:cD)) ((ys++ [(⟨(⟨gA.x.o,ak (ag (jy 9) 3),an (ag (jy 9) 3)⟩:aT),gA.kW,⟨gA.par.t,gA.par.r⟩,gA.key,gA.idle⟩:cD)])++ms.drop (k+1)) kr qos<|aB _ (k+1,ys++ [(⟨(⟨gA.x.o,ak (ag (jy 9) 3),an (ag (jy 9) 3)⟩:aT),gA.kW,⟨gA.par.t,gA.par.r⟩,gA.key,gA.idle⟩:cD)]) [0,1,2,8,7] kr ⟨by omega,by simp [hl],by subst hl;exact kB hy (mV rfl zF) rfl⟩ du
 ·refine ae 6 [2,0] fun _=>?_
  have ek:k=ms.length:=by omega
  rw [ek,List.take_length,mO] at hy
  refine aS gq 3 (ak (v8 5)) (an (v8 5)) (ys++ms.drop k) ys kr qlc<|aJ (GF (ak (v8 2)) (an (v8 2)) (ak (v8 5)) (an (v8 5)) l) [1,5,4] [aP.row (ak (v8 2)) (an (v8 2)) (ai l []),gq.row (ak (v8 5)) (an (v8 5)) ys,aM.all (ys.map cD.own)] (⟨ys,hy,rfl⟩)<|bk [0] [6] ⟨ak (v8 2),an (v8 2),ak (v8 5),an (v8 5),kt (.agg #[sl (ak (v8 2)) ((ai l []).length) (an (v8 2)),sl (ak (v8 5)) ms.length (an (v8 5))]) (by rw [oO]),kr⟩
def M5 (An:OA) (cn:Nat) (Am:OA) (cm:Nat) (Al:OA) (cl:Nat) (l:List bz) (ls:List iZ) (hlb:l.length≤100000) (s4:ls.length≤100000):Ct Cp 58 #[.agg #[sl An ((ai l []).length) cn,sl Am l.length cm,sl Al ls.length cl]] (fun w=>sL An Am l w∧E1 Al ls w) [] (fun v Cs=> ∃A3 c3 A4 c4 A5 c5,v=.agg #[sl A3 ((ai l []).length) c3,sl A4 l.length c4,sl A5 ls.length c5]∧Cs= [iK A3 c3 A4 c4 l,kI A5 c5 ls]):=by
 refine cc Tryz.func58 fun w0 hp=>?_
 obtain ⟨xs,rB,Db⟩:=hp.2
 have zI:xs.length=ls.length:=by rw [← rB,cM]
 refine aC 0 (.agg #[sl An ((ai l []).length) cn,sl Am l.length cm,sl Al xs.length cl]) (.agg #[sl An ((ai l []).length) cn,sl Am l.length cm,sl Al ls.length cl]) (by rw [zI])<|aa 6 fun a8=>aO [(2,_),(5,_)] [0,0,0,4] ⟨aY (fun vs=>Q2 An cn Am cm l (by omega)) [] (fun vs=>.agg #[sl (ak (ag (vs 2) 0)) ((ai l []).length) (an (ag (vs 2) 0)),sl (ak (ag (vs 2) 1)) l.length (an (ag (vs 2) 1))]) [fun vs=>.k (iK (ak (ag (vs 2) 0)) (an (ag (vs 2) 0)) (ak (ag (vs 2) 1)) (an (ag (vs 2) 1)) l)] (fun vs w h=>hp.1.aE h.ch) qlb,aY (fun vs=>QM Al cl xs (by omega)) [] (fun vs=>sl (ak (vs 5)) xs.length (an (vs 5))) [fun vs=>.k (eS.row (ak (vs 5)) (an (vs 5)) xs)] (fun vs w h=>Db.2.1.aE h.ch) kA,trivial⟩ fun jd=>ae 9 [5] fun _=>dQ<|aS eS 3 (ak (jd 5)) (an (jd 5)) xs (([]:List bj)++xs.drop 0) kr rfl<|aR (σ:=Nat×List bj) (fun (k,ys)=> [(1,pv (a8 2)),(2,pv (a8 3)),(14,iv (xs.length:Int)),(15,iv k)]) (fun (k,ys)=> [.b (a8 3) 52 [sl none 0 0,sl none 0 0,sl none 0 0],.k (iK (ak (ag (jd 2) 0)) (an (ag (jd 2) 0)) (ak (ag (jd 2) 1)) (an (ag (jd 2) 1)) l),.b (a8 2) 52 [sl (ak (ag (jd 2) 0)) ((ai l []).length) (an (ag (jd 2) 0)),sl (ak (ag (jd 2) 1)) l.length (an (ag (jd 2) 1)),sl (ak (jd 5)) xs.length (an (jd 5))],.k (eS.row (ak (jd 5)) (an (jd 5)) (ys++xs.drop k)),.k (aM.all (ys.map bj.own))]) (fun (k,ys)=>k≤xs.length∧ys.length=k∧ys.map bj.d=(xs.take k).map bj.d) (fun (k,ys)=>xs.length-k) (0,[]) [1,2,5,7,6] ⟨bh _,rfl,rfl⟩ ?_
 rintro _ ⟨k,ys⟩ ⟨hk,hl,hy⟩ aB
 refine aa 5 fun _=>aq ((k:Int)<(xs.length:Int)) (fun ki=>?_) (fun ki=>?_)
 ·refine aa 8 fun _=>?_
  obtain ⟨iV,vm⟩:=aw (xs:=ys++xs.drop k) (k:=k) qre
  refine aO [(6,_),(8,_),(9,_),(10,_),(12,_)] [2,2] ⟨qeo,cZ 150 (fun vs=>((cz (ak (jd 5))).add (k*3)).add 2) (fun vs=>sl iV.A iV.bX.length iV.c) (fun vs w h=>bW (K:=eS) (h.bg 3 (ak (jd 5)) (an (jd 5)) (ys++xs.drop k) kr) vm),aY (fun vs=>Ex iV.A iV.c iV.bX ((Db.2.2 iV (aI (mV hl vm))).1)) [] (fun vs=>sl (ak (vs 9)) iV.bX.length (an (vs 9))) [fun vs=>.k (eH.row (ak (vs 9)) (an (vs 9)) iV.bX)] (fun vs w h=>(Db.2.2 iV (aI (mV hl vm))).2.aE h.ch) kA,qeo,cR eS 3 (fun vs=>ak (jd 5)) (fun vs=>an (jd 5)) (fun vs=>ys++xs.drop k) k 2 (fun vs=>iV) (fun vs=>(⟨⟨iV.id.t,iV.id.r⟩,iV.bX,ak (vs 9),an (vs 9)⟩:bj)) 150 (fun vs=>sl (ak (vs 9)) iV.bX.length (an (vs 9))) (fun _=>vm),trivial⟩ fun v20=>aa 3 fun _=>ao 30 ((k:Int)+1)<|aa 2 fun _=>eD bj.own 5 4 ys (⟨⟨iV.id.t,iV.id.r⟩,iV.bX,ak (v20 9),an (v20 9)⟩:bj) kr<|aS eS 6 (ak (jd 5)) (an (jd 5)) ((ys++xs.drop k).set k (⟨⟨iV.id.t,iV.id.r⟩,iV.bX,ak (v20 9),an (v20 9)⟩:bj)) ((ys++ [(⟨⟨iV.id.t,iV.id.r⟩,iV.bX,ak (v20 9),an (v20 9)⟩:bj)])++xs.drop (k+1)) kr qos<|aB _ (k+1,ys++ [(⟨⟨iV.id.t,iV.id.r⟩,iV.bX,ak (v20 9),an (v20 9)⟩:bj)]) [0,1,2,8,7] kr ⟨by omega,by simp [hl],by subst hl;exact kB hy (mV rfl vm) rfl⟩ du
 ·refine ae 6 [2,0] fun _=>?_
  have ek:k=xs.length:=by omega
  rw [ek,List.take_length,rB] at hy
  refine aS eS 3 (ak (jd 5)) (an (jd 5)) (ys++xs.drop k) ys kr qlc<|aJ (Nw (ak (jd 5)) (an (jd 5)) ls) [5,4] [eS.row (ak (jd 5)) (an (jd 5)) ys,aM.all (ys.map bj.own)] (⟨ys,hy,rfl⟩)<|bk [0] [1,6] ⟨ak (ag (jd 2) 0),an (ag (jd 2) 0),ak (ag (jd 2) 1),an (ag (jd 2) 1),ak (jd 5),an (jd 5),kt (.agg #[sl (ak (ag (jd 2) 0)) ((ai l []).length) (an (ag (jd 2) 0)),sl (ak (ag (jd 2) 1)) l.length (an (ag (jd 2) 1)),sl (ak (jd 5)) xs.length (an (jd 5))]) (by rw [zI]),kr⟩
def jY (v_:c_) (hf:gI v_.d):Ct Cp 32 #[.agg (c_.cells v_).toArray] (fun w=>AH v_ w) [] (fun v Cs=> ∃a,v=.agg (c_.cells ⟨v_.d,a⟩).toArray∧Cs= [SA (⟨v_.d,a⟩)]):=by
 refine cc Tryz.func32 fun w0 hp=>aa 6 fun a8=>aO [(2,_),(5,_),(8,_),(11,_)] [0,0,0,0,0,7,8,9] ⟨aY (fun vs=>qu v_.a.Ah v_.a.ch v_.d.hv (by have:=hf.hv;omega)) [] (fun vs=>sl (ak (vs 2)) v_.d.hv.length (an (vs 2))) [fun vs=>.k (az.row (ak (vs 2)) (an (vs 2)) v_.d.hv)] qsp kA,aY (fun vs=>Fb v_.a.Ao v_.a.co v_.d.ops) [] (fun vs=>sl (ak (vs 5)) v_.d.ops.length (an (vs 5))) [fun vs=>.k (cV (ak (vs 5)) (an (vs 5)) v_.d.ops)] (fun vs w h=>hp.ops.aE h.ch) kA,aY (fun vs=>Fb v_.a.Ax v_.a.cx v_.d.held) [] (fun vs=>sl (ak (vs 8)) v_.d.held.length (an (vs 8))) [fun vs=>.k (cV (ak (vs 8)) (an (vs 8)) v_.d.held)] (fun vs w h=>hp.held.aE h.ch) kA,aY (fun vs=>M5 v_.a.An v_.a.cn v_.a.Am v_.a.cm v_.a.Al v_.a.cl (dJ v_.d.ops) (fY v_.d.ops) (eF hf.ml (by decide)) (eF hf.ll (by decide))) [] (fun vs=>.agg #[sl (ak (ag (vs 11) 0)) ((ai ((dJ v_.d.ops)) []).length) (an (ag (vs 11) 0)),sl (ak (ag (vs 11) 1)) ((dJ v_.d.ops).length) (an (ag (vs 11) 1)),sl (ak (ag (vs 11) 2)) ((fY v_.d.ops).length) (an (ag (vs 11) 2))]) [fun vs=>.k (iK (ak (ag (vs 11) 0)) (an (ag (vs 11) 0)) (ak (ag (vs 11) 1)) (an (ag (vs 11) 1)) (dJ v_.d.ops)),fun vs=>.k (kI (ak (ag (vs 11) 2)) (an (ag (vs 11) 2)) (fY v_.d.ops))] (fun vs w h=>⟨hp.tr.aE h.ch,hp.lk.aE h.ch⟩) qkt,trivial⟩ fun jy=>ae 5 [10,1] fun _=>aJ (SP ⟨v_.d,⟨ak (jy 2),an (jy 2),ak (jy 5),an (jy 5),ak (jy 8),an (jy 8),ak (ag (jy 11) 0),an (ag (jy 11) 0),ak (ag (jy 11) 1),an (ag (jy 11) 1),ak (ag (jy 11) 2),an (ag (jy 11) 2)⟩⟩) [2,3,4,5,6] [az.row (ak (jy 2)) (an (jy 2)) v_.d.hv,cV (ak (jy 5)) (an (jy 5)) v_.d.ops,cV (ak (jy 8)) (an (jy 8)) v_.d.held,iK (ak (ag (jy 11) 0)) (an (ag (jy 11) 0)) (ak (ag (jy 11) 1)) (an (ag (jy 11) 1)) (dJ v_.d.ops),kI (ak (ag (jy 11) 2)) (an (ag (jy 11) 2)) (fY v_.d.ops)] rfl<|bk [1] [11] ⟨⟨ak (jy 2),an (jy 2),ak (jy 5),an (jy 5),ak (jy 8),an (jy 8),ak (ag (jy 11) 0),an (ag (jy 11) 0),ak (ag (jy 11) 1),an (ag (jy 11) 1),ak (ag (jy 11) 2),an (ag (jy 11) 2)⟩,kr,kr⟩

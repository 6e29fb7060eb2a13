/- For the law of worlds: What functions do; What lies in memory. -/
import Derived.Test.YtfookmefmjhonaaGreatZ37
set_option linter.all false
namespace Go.Proofs.YtfookmefmjhonaaGreat.My
open Go.RowKit Go.bE
def TT (v_:c_) (q_:qj) (hf:gI v_.d) (hv:dW v_.d.hv) (h0:0≤v_.d.rep∧v_.d.rep<v_.d.hv.length∧v_.d.hv.length≤16) (ht:0≤bq v_.d.ops∧bq v_.d.ops≤1099511627776) (hh: ∀y∈v_.d.held,y.aX.length=v_.d.hv.length) (hr:v_.d.ops.length≤2900):Ct Cp 52 #[.agg (c_.cells v_).toArray,.agg #[iv q_.kind,iv q_.node.t,iv q_.node.r,iv q_.par.t,iv q_.par.r,iv q_.oA.t,iv q_.oA.r,iv q_.prop,iv q_.val,iv q_.width]] (fun w=>AH v_ w) [] (fun v Cs=>(∃a,∃(o_:bz) (v2:List Int),∃h2 tk,∃(at_ ar:Int),v=.tuple #[.agg (c_.cells ⟨{v_.d with hv:=v2,held:=h2,ops:=v_.d.ops++tk},a⟩).toArray,.agg #[iv 0,iv at_,iv ar,sl none 0 0,iv 0,iv 0,.complex .f64 0 0,.complex .f64 0 0,sl none 0 0]]∧qk v_.d q_ o_∧kH v_.d.hv v_.d.held o_ v2 h2 tk∧Cs= [SA (⟨{v_.d with hv:=v2,held:=h2,ops:=v_.d.ops++tk},a⟩)])∨(∃a,∃(e:Int),∃Ha nh,∃(Hc:Nat) (gt gr:Int) (z1 z2 z3 z4:Nat),∃Ka nk,∃(Kc:Nat),v=.tuple #[.agg (c_.cells ⟨v_.d,a⟩).toArray,.agg #[iv e,iv 0,iv 0,sl Ha nh Hc,iv gt,iv gr,.complex .f64 z1 z2,.complex .f64 z3 z4,sl Ka nk Kc]]∧ ¬Wk q_ v_.d∧Cs= [SA (⟨v_.d,a⟩)])):=by
 refine cc Tryz.func52 fun w0 hp=>ae 20 [1] fun a8=>dj (σ:=Bool) qfc qbe (fun k=>k=false→ ¬q_.kind=1) ?_ ?_
 ·rintro k hk
  refine eg 10 k (fun h2=>?_) (fun h2=>?_)
  ·refine ae 4 [0] fun _=>ah (jY v_ hf) [] il ?_
   rintro _ _ ⟨a3,rfl,rfl⟩
   refine ae 6 [5,1] fun rM=>aJ (pT (rM 0) v_.d) [5,4] [bJ (rM 0) 54 (c_.cells ⟨v_.d,a3⟩),SA (⟨v_.d,a3⟩)] (⟨a3,rfl⟩)<|ah (PO (rM 0) q_ v_.d hf hv h0 ht hh hr) [6] cJ ?_
   rintro _ _ (⟨o_8,v9,iJ,VG,_S,ahh,rfl,f14,f15,rfl⟩|⟨CA,rfl,f17,f18,rfl⟩)
   ·refine bn (φ:=pT (rM 0) ({v_.d with hv:=v9,held:=iJ,ops:=v_.d.ops++VG})) 7 ?_
    rintro _ ⟨a19,rfl⟩
    refine dB 8 (rM 0) 54 (c_.cells ⟨{v_.d with hv:=v9,held:=iJ,ops:=v_.d.ops++VG},a19⟩)<|ae 13 [10,10] fun O_=>aO [] [8,10,2,3] trivial fun gW=>bk [11,12] [9] (.inl ⟨a19,o_8,v9,iJ,VG,_S,ahh,kr,f14,f15,kr⟩)
   ·refine bn (φ:=pT (rM 0) v_.d) 7 ?_
    rintro _ ⟨a22,rfl⟩
    refine dB 8 (rM 0) 54 (c_.cells ⟨v_.d,a22⟩)<|ae 9 [10,10] fun GH=>aC 21 (.bool true) (.bool (!decide (CA=0))) (dP (by rw [decide_eq_false f17];rfl))<|ae 4 [0] fun _=>ah (jY v_ hf) [] il ?_
    rintro _ _ ⟨a24,rfl,rfl⟩
    refine ae 3 [8] fun _=>aO [] [8,10,2,3] trivial fun Cx=>bk [12,13] [11] (.inr ⟨a24,CA,none,0,0,0,0,0,0,0,0,none,0,0,kr,f18,kr⟩)
  ·refine aa 6 fun _=>aq (q_.kind=5) (fun IE=>?_) (fun IE=>?_)
   ·refine aa 1 fun _=>aO [(1,_),(5,_)] [0,0,1,2,3] ⟨aY (fun vs=>jY v_ hf) [] (fun vs=>.agg #[iv v_.d.rep,iv (bq v_.d.ops),sl (ak (ag (vs 1) 2)) v_.d.hv.length (an (ag (vs 1) 2)),sl (ak (ag (vs 1) 3)) v_.d.ops.length (an (ag (vs 1) 3)),sl (ak (ag (vs 1) 4)) v_.d.held.length (an (ag (vs 1) 4)),sl (ak (ag (vs 1) 5)) ((ai (dJ v_.d.ops) []).length) (an (ag (vs 1) 5)),sl (ak (ag (vs 1) 6)) ((dJ v_.d.ops).length) (an (ag (vs 1) 6)),sl (ak (ag (vs 1) 7)) ((fY v_.d.ops).length) (an (ag (vs 1) 7)),iv v_.d.wait,iv v_.d.dT,iv v_.d.aW]) [fun vs=>.k (SA (⟨v_.d,(⟨ak (ag (vs 1) 2),an (ag (vs 1) 2),ak (ag (vs 1) 3),an (ag (vs 1) 3),ak (ag (vs 1) 4),an (ag (vs 1) 4),ak (ag (vs 1) 5),an (ag (vs 1) 5),ak (ag (vs 1) 6),an (ag (vs 1) 6),ak (ag (vs 1) 7),an (ag (vs 1) 7)⟩:Ac)⟩))] YZ Zg,aY (fun vs=>Qz v_ q_.width hf) [] (fun vs=>.agg #[gi (vs 5) 0,iv 0,iv 0,gs (vs 5) 3,gi (vs 5) 4,gi (vs 5) 5,.complex .f64 (dK (ag (vs 5) 6)) (dL (ag (vs 5) 6)),.complex .f64 (dK (ag (vs 5) 7)) (dL (ag (vs 5) 7)),gs (vs 5) 8]) [] YZ (fun vs u C h=>by obtain ⟨_,_,_,_,_,_,_,_,_,_,_,_,_,rfl,rfl⟩:=h;exact ⟨rfl,rfl⟩),trivial⟩ fun sS=>bk [5,6] [4] (.inr ⟨(⟨ak (ag (sS 1) 2),an (ag (sS 1) 2),ak (ag (sS 1) 3),an (ag (sS 1) 3),ak (ag (sS 1) 4),an (ag (sS 1) 4),ak (ag (sS 1) 5),an (ag (sS 1) 5),ak (ag (sS 1) 6),an (ag (sS 1) 6),ak (ag (sS 1) 7),an (ag (sS 1) 7)⟩:Ac),dH (ag (sS 5) 0),ak (ag (sS 5) 3),(eI (ag (sS 5) 3)),an (ag (sS 5) 3),dH (ag (sS 5) 4),dH (ag (sS 5) 5),dK (ag (sS 5) 6),dL (ag (sS 5) 6),dK (ag (sS 5) 7),dL (ag (sS 5) 7),ak (ag (sS 5) 8),(eI (ag (sS 5) 8)),an (ag (sS 5) 8),kr,fun k_=>hk IC k_.1,kr⟩)
   ·refine ae 5 [0] fun _=>ah (jY v_ hf) [] il ?_
    rintro _ _ ⟨a43,rfl,rfl⟩
    refine ae 4 [2,3] fun _=>bk [2,3] [4] (.inr ⟨a43,1,none,0,0,0,0,0,0,0,0,none,0,0,kr,fun k_=>hk IC k_.1,kr⟩)
 ·intro _ jB
  refine aG 10 (q_.kind=1) (fun JE=>?_) (fun JE=>?_)
  ·refine aa 2 fun _=>jB _ true [0,1,2,3] kr (fun e=>by cases e)
  ·refine aa 6 fun _=>dj (σ:=Bool) qfc qbe (fun k=>k=false→ ¬q_.kind=1) ?_ ?_
   ·rintro k hk
    exact jB _ k [0,1,2,3] kr (fun _=>by omega)
   ·intro _ gV
    refine aG 10 (q_.kind=2) (fun RA=>?_) (fun RA=>?_)
    ·refine aa 2 fun _=>gV _ true [0,1,2,3] kr (fun e=>by cases e)
    ·refine aa 6 fun _=>dj (σ:=Bool) qfc qbe (fun k=>k=false→ ¬q_.kind=1) ?_ ?_
     ·rintro k hk
      exact gV _ k [0,1,2,3] kr (fun _=>by omega)
     ·intro _ im
      refine aG 10 (q_.kind=3) (fun h46=>?_) (fun h46=>?_)
      ·refine aa 2 fun _=>im _ true [0,1,2,3] kr (fun e=>by cases e)
      ·refine aa 5 fun _=>im _ (decide (q_.kind=4)) [0,1,2,3] kr (fun _=>by omega)
def zH (g k:Nat) (d:j9) (Cs:List aM):Prop:= ∃(p:Nat) (a:Ac),Cs= [bJ g 105 (pv p::(c_.cells ⟨d,a⟩++ [.bool false])),zL p k (bL (bU d.ops)) d.ops,SA ⟨d,a⟩]
def kn (g k:Nat) (d:j9):aM:=g9 (zH g k d)
def nV (g:Nat) (v_:c_) (k:Nat) (d:j9) (tk:List bz) (he:v_.d.ops=d.ops++tk) (hm: ∀o∈v_.d.ops,bV o) (hb:v_.d.ops.length≤3000):Ct Cp 53 #[pv g,.agg (c_.cells v_).toArray] (fun _=>True) [kn g k d,SA (⟨v_.d,v_.a⟩)] (fun v Cs=>v=iv 0∧Cs= [kn g k v_.d]):=by
 refine Fz [.k (kn g k d),.k (SA (⟨v_.d,v_.a⟩))] Tryz.func53 fun U w0 hp=>bn (φ:=zH g k d) 0 ?_
 rintro _ ⟨p1,a2,rfl⟩
 refine dB 2 g 105 WH<|bn (φ:=SP ⟨v_.d,v_.a⟩) 1 ?_
 rintro _ rfl
 refine bn (φ:=hZ v_.a.Ao v_.a.co v_.d.ops) 6 ?_
 rintro _ ⟨vt,hy4,rfl⟩
 have mJ:vt.length=v_.d.ops.length:=by rw [← hy4,cM]
 have hel:v_.d.ops.length=d.ops.length+tk.length:=by rw [he,bm]
 refine dN (φ:=vt.length≤v_.a.co) (fun w h=>h.mR (K:=bx) 10 v_.a.Ao v_.a.co vt kr) fun hk5=>?_
 have FV:d.ops++vO (vt.drop d.ops.length)=v_.d.ops:=by show d.ops++(vt.drop _).map _=_;rw [List.map_drop,hy4];rw [he];rw [List.drop_left]
 refine aa 5 fun pW=>bP 12 (pW 2) 54 [iv v_.d.rep,iv (bq v_.d.ops),sl v_.a.Ah v_.d.hv.length v_.a.ch,sl v_.a.Ao v_.d.ops.length v_.a.co,sl v_.a.Ax v_.d.held.length v_.a.cx,sl v_.a.An ((ai (dJ v_.d.ops) []).length) v_.a.cn,sl v_.a.Am ((dJ v_.d.ops).length) v_.a.cm,sl v_.a.Al ((fY v_.d.ops).length) v_.a.cl,iv v_.d.wait,iv v_.d.dT,iv v_.d.aW] [iv v_.d.rep,iv (bq v_.d.ops),sl v_.a.Ah v_.d.hv.length v_.a.ch,sl v_.a.Ao vt.length v_.a.co,sl v_.a.Ax v_.d.held.length v_.a.cx,sl v_.a.An ((ai (dJ v_.d.ops) []).length) v_.a.cn,sl v_.a.Am ((dJ v_.d.ops).length) v_.a.cm,sl v_.a.Al ((fY v_.d.ops).length) v_.a.cl,iv v_.d.wait,iv v_.d.dT,iv v_.d.aW] kr (by rw [mJ])<|Zt 0 (σ:=Unit) (fun u_=> [(0,pv g),(3,pv (pW 2))]) (fun u_=> [.b g 105 (pv p1::(c_.cells ⟨d,a2⟩++ [.bool false])),.k (az.row v_.a.Ah v_.a.ch v_.d.hv),.k (cV v_.a.Ax v_.a.cx v_.d.held),.k (iK v_.a.An v_.a.cn v_.a.Am v_.a.cm (dJ v_.d.ops)),.k (kI v_.a.Al v_.a.cl (fY v_.d.ops)),.k (bx.row v_.a.Ao v_.a.co vt),.k (aM.all (vt.map aT.own)),.b (pW 2) 54 [iv v_.d.rep,iv (bq v_.d.ops),sl v_.a.Ah v_.d.hv.length v_.a.ch,sl v_.a.Ao vt.length v_.a.co,sl v_.a.Ax v_.d.held.length v_.a.cx,sl v_.a.An ((ai (dJ v_.d.ops) []).length) v_.a.cn,sl v_.a.Am ((dJ v_.d.ops).length) v_.a.cm,sl v_.a.Al ((fY v_.d.ops).length) v_.a.cl,iv v_.d.wait,iv v_.d.dT,iv v_.d.aW],.k (zL p1 k (bL (bU v_.d.ops)) v_.d.ops)]) (fun u_=>True) ?_ ?_
 ·rintro _ u_ _
  refine ae 12 [7,0] fun _=>bP 0 g 105 [pv p1,iv v_.d.rep,iv (bq v_.d.ops),sl v_.a.Ah v_.d.hv.length v_.a.ch,sl v_.a.Ao vt.length v_.a.co,sl v_.a.Ax v_.d.held.length v_.a.cx,sl v_.a.An ((ai (dJ v_.d.ops) []).length) v_.a.cn,sl v_.a.Am ((dJ v_.d.ops).length) v_.a.cm,sl v_.a.Al ((fY v_.d.ops).length) v_.a.cl,iv v_.d.wait,iv v_.d.dT,iv v_.d.aW,.bool false] [pv p1,iv v_.d.rep,iv (bq v_.d.ops),sl v_.a.Ah v_.d.hv.length v_.a.ch,sl v_.a.Ao v_.d.ops.length v_.a.co,sl v_.a.Ax v_.d.held.length v_.a.cx,sl v_.a.An ((ai (dJ v_.d.ops) []).length) v_.a.cn,sl v_.a.Am ((dJ v_.d.ops).length) v_.a.cm,sl v_.a.Al ((fY v_.d.ops).length) v_.a.cl,iv v_.d.wait,iv v_.d.dT,iv v_.d.aW,.bool false] kr (by rw [mJ])<|aJ (hZ v_.a.Ao v_.a.co v_.d.ops) [5,6] [bx.row v_.a.Ao v_.a.co vt,aM.all (vt.map aT.own)] (⟨vt,hy4,rfl⟩)<|aJ (SP ⟨v_.d,v_.a⟩) [1,9,2,3,4] [az.row v_.a.Ah v_.a.ch v_.d.hv,cV v_.a.Ao v_.a.co v_.d.ops,cV v_.a.Ax v_.a.cx v_.d.held,iK v_.a.An v_.a.cn v_.a.Am v_.a.cm (dJ v_.d.ops),kI v_.a.Al v_.a.cl (fY v_.d.ops)] rfl<|aJ (zH g k v_.d) [0,8,10] [bJ g 105 (pv p1::(c_.cells v_++ [.bool false])),zL p1 k (bL (bU v_.d.ops)) v_.d.ops,SA (⟨v_.d,v_.a⟩)] (⟨p1,v_.a,rfl⟩)<|a_ [11] ⟨kr,kr⟩
 ·intro _ cG dm
  refine aa 1 fun _=>aO [(8,_)] [12,2] ⟨qp ((vt.drop d.ops.length).length) v_.a.Ao vt.length v_.a.co d.ops.length vt.length 12 (some (iv (d.ops.length:Int))) none yu (⟨_,rfl⟩) (fun vs w h=>by omega),trivial⟩ fun v7=>aa 7 fun _=>aq (((vt.drop d.ops.length).length:Int)=0) (fun h8=>?_) (fun h8=>?_)
  ·refine aD 3 (zL p1 k (bL (bU d.ops)) d.ops) (zL p1 k (bL (bU v_.d.ops)) v_.d.ops) kr (by rw [show d.ops=v_.d.ops from by rw [he,List.eq_nil_of_length_eq_zero (l:=tk) (by rw [cL] at h8;omega),fj]])<|dm _ () [2,5,7,8,9,10,11,12,13] kr trivial
  ·refine ae 9 [2] fun _=>bD (Bw p1 (dS v_.a.Ao v_.a.co d.ops.length 12) (v_.a.co-d.ops.length) (vt.drop d.ops.length) k (bL (bU d.ops)) d.ops (fun x hx=>hm x.o qq8) (fun o ho=>hm o (by rw [he];exact List.mem_append_left _ ho)) ub) [3] (fun w F h=>⟨by rw [cL];omega,Kd.KU (h.F8 10 v_.a.Ao v_.a.co vt kr) hk5,fun x hx=>⟨gg (hm x.o qq8),h.yq 11 aT.own vt (lH hx) rfl kr⟩⟩) ?_
   rintro _ _ ⟨rfl,rfl⟩
   refine aa 19 fun _=>aD 13 (zL p1 k (bL (bU (d.ops++vO (vt.drop d.ops.length)))) (d.ops++vO (vt.drop d.ops.length))) (zL p1 k (bL (bU v_.d.ops)) v_.d.ops) kr (by rw [FV])<|cG _ () [2,5,7,8,9,10,11,12,14] kr trivial
def E' (g k:Nat) (d:j9) (hf:gI d):Ct Cp 16 #[pv g] (fun _=>True) [kn g k d] (fun v Cs=>(∃a,v=.agg (c_.cells ⟨d,a⟩).toArray∧Cs= [kn g k d,SA (⟨d,a⟩)])):=by
 refine Fz [.k (kn g k d)] Tryz.func16 fun U w0 hp=>bn (φ:=zH g k d) 0 ?_
 rintro _ ⟨p1,a2,rfl⟩
 refine dB 1 g 105 WH<|ae 10 [1] fun nB=>ah (jY (⟨d,a2⟩:c_) hf) [] qp3 ?_
 rintro _ _ ⟨a4,rfl,rfl⟩
 refine ae 2 [4] fun _=>aJ (zH g k d) [1,2,3] WS (⟨p1,a2,rfl⟩)<|bk [4] [6,5] (⟨a4,kr,kr⟩)
def SZ (g k:Nat) (d:j9) (hf:gI d) (hv:dW d.hv) (h0:1≤d.hv.length∧d.hv.length≤16∧0≤d.rep∧d.rep<d.hv.length∧0≤d.dT∧d.dT<d.hv.length∧0≤d.wait∧d.wait≤4):Ct Cp 54 #[pv g] (fun _=>True) [kn g k d] (fun v Cs=>(∃(wt nx:Int),v=.tuple #[sl none 0 0,iv 0]∧(0≤wt∧wt≤4∧0≤nx∧nx<d.hv.length)∧Cs= [kn g k ({d with wait:=wt,dT:=nx})])∨(∃(wt nx wm:Int),∃A c,v=.tuple #[sl A ((fR ⟨d.rep,wm,1,d.hv,[]⟩).length) c,iv 0]∧(0≤wt∧wt≤4∧0≤nx∧nx<d.hv.length)∧gN ⟨d.rep,wm,1,d.hv,[]⟩∧Cs= [kn g k ({d with wait:=wt,dT:=nx}),aA.row A c (fR ⟨d.rep,wm,1,d.hv,[]⟩)])):=by
 refine Fz [.k (kn g k d)] Tryz.func54 fun U w0 hp=>bn (φ:=zH g k d) 0 ?_
 rintro _ ⟨p1,a2,rfl⟩
 refine dB 1 g 105 WH<|ae 21 [1,1] fun _=>ah (Ol (⟨d,a2⟩:c_) hf hv h0) [] qp3 ?_
 rintro _ _ (⟨a7,wt8,nx9,rfl,f10,rfl⟩|⟨a11,kY,kZ,NU,xp,wk,rfl,f17,f18,rfl⟩)
 ·refine ae 21 [5,5,1] fun TO=>aJ (zH g k ({d with wait:=wt8,dT:=nx9})) [1,2,4] [bJ g 105 (pv p1::(c_.cells ⟨{d with wait:=wt8,dT:=nx9},a7⟩++ [.bool false])),zL p1 k (bL (bU d.ops)) d.ops,SA (⟨{d with wait:=wt8,dT:=nx9},a7⟩)] (⟨p1,a7,rfl⟩)<|a_ [6] (.inl ⟨wt8,nx9,kr,f10,kr⟩)
 ·refine ae 21 [6,6,1] fun O_=>aJ (zH g k ({d with wait:=kY,dT:=kZ})) [1,2,4] [bJ g 105 (pv p1::(c_.cells ⟨{d with wait:=kY,dT:=kZ},a11⟩++ [.bool false])),zL p1 k (bL (bU d.ops)) d.ops,SA (⟨{d with wait:=kY,dT:=kZ},a11⟩)] (⟨p1,a11,rfl⟩)<|a_ [7,5] (.inr ⟨kY,kZ,NU,xp,wk,kr,f17,f18,kr⟩)
def RR {f:pU} (h:gN f):f.ops.length≤8:=by
 rcases h.2.2.2.2.2 with k|k
 ·rw [k.2.2];exact bh _
 ·exact k.2.2.2.1
def G6 (g:Nat) (aU:OA) (bb:Nat) (xs:List UInt8) (k:Nat) (d:j9) (hf:gI d) (hd:0≤d.aW∧d.aW≤1099511627776) (hb:xs.length≤1073741824) (lV:xs.length≤bb) (Dk: ¬r_ xs):hO Cp 76 #[pv g,sl aU xs.length bb] (fun U w=>aA.gx aU xs U w) [kn g k d] (fun v Cs=>(v=.tuple #[sl none 0 0,iv 0]∧Cs= [kn g k ({d with aW:=if 1099511627776<d.aW+1 then 1099511627776 else d.aW+1})])):=by
 refine kz [.k (kn g k d)] Tryz.func76 fun U w0 hp=>bn (φ:=zH g k d) 0 ?_
 rintro _ ⟨p1,a2,rfl⟩
 refine dB 1 g 105 WH<|ae 22 [1,1] fun _=>ah (Kw (⟨d,a2⟩:c_) aU bb xs hf hd hb T3 Dk) [] ql0 ?_
 rintro _ _ (⟨a4,rfl,rfl⟩)
 ·refine ae 12 [5,5] fun jn=>aJ (zH g k d) [1,2,3] WS (⟨p1,a2,rfl⟩)<|ah (nV g (⟨{d with aW:=if 1099511627776<d.aW+1 then 1099511627776 else d.aW+1},a4⟩:c_) k d [] ((fj _).symm) hf.ops hf.ol) [6,4] cJ ?_
  rintro _ _ ⟨rfl,rfl⟩
  refine aa 15 fun _=>a_ [7] (⟨kr,kr⟩)
def Kx (g:Nat) (aU:OA) (bb:Nat) (xs:List UInt8) (k:Nat) (d:j9) (f:pU) (hf:gI d) (hd:0≤d.aW∧d.aW≤1099511627776) (hb:xs.length≤1073741824) (lV:xs.length≤bb) (hx:xs=fR f) (zJ:gN f) (kc:Fit d f) (hh: ∀y∈d.held,y.aX.length=d.hv.length) (WT: ∀y∈d.ops,y.aX.length=d.hv.length) (hr:d.ops.length≤2700):hO Cp 76 #[pv g,sl aU xs.length bb] (fun U w=>aA.gx aU xs U w) [kn g k d] (fun v Cs=>(∃l2 A c,v=.tuple #[sl A ((fR ⟨d.rep,f.fN,2,[],l2⟩).length) c,iv 0]∧gN ⟨d.rep,f.fN,2,[],l2⟩∧(∀o∈l2,o∈d.ops)∧f.kind=1∧Cs= [kn g k d,aA.row A c (fR ⟨d.rep,f.fN,2,[],l2⟩)])∨(∃(d2:j9),v=.tuple #[sl none 0 0,iv 0]∧gK d f.ops d2∧Cs= [kn g k d2])):=by
 refine kz [.k (kn g k d)] Tryz.func76 fun U w0 hp=>bn (φ:=zH g k d) 0 ?_
 rintro _ ⟨p1,a2,rfl⟩
 refine dB 1 g 105 WH<|ae 22 [1,1] fun _=>ah (O5 (⟨d,a2⟩:c_) aU bb xs f hf hd hb T3 hx zJ kc hh WT hr) [] ql0 ?_
 rintro _ _ (⟨a6,l7,A8,c9,rfl,f10,f11,f12,rfl⟩|⟨a13,d14,rfl,f15,rfl⟩)
 ·refine ae 12 [6,6] fun TL=>aJ (zH g k d) [1,2,3] WS (⟨p1,a2,rfl⟩)<|ah (nV g (⟨d,a6⟩:c_) k d [] ((fj _).symm) hf.ops hf.ol) [7,4] cJ ?_
  rintro _ _ ⟨rfl,rfl⟩
  refine aa 15 fun _=>a_ [8,5] (.inl ⟨l7,A8,c9,kr,f10,f11,f12,kr⟩)
 ·have YE:=gK.pM f15 hf (uj zJ) (RR zJ) hr
  obtain ⟨tk,etk,_⟩:=gK.tk f15
  refine ae 12 [5,5] fun kQ=>aJ (zH g k d) [1,2,3] WS (⟨p1,a2,rfl⟩)<|ah (nV g (⟨d14,a13⟩:c_) k d tk etk YE.ops YE.ol) [6,4] cJ ?_
  rintro _ _ ⟨rfl,rfl⟩
  refine aa 15 fun _=>a_ [7] (.inr ⟨d14,kr,f15,kr⟩)
def Km {d:j9} {o:bz} {v2:List Int} {h2 tk:List bz} (hf:gI d) (hl:kH d.hv d.held o v2 h2 tk) (hm:bV o) (hr:d.ops.length≤2900):gI {d with hv:=v2,held:=h2,ops:=d.ops++tk}:=by
 have h1:=hl.pM hf.held hm
 exact ⟨fun y hy=>(eG.1 hy).elim (hf.ops y) (h1.1 y),h1.2,by show v2.length≤16;rw [hl.chain.len];exact hf.hv,by have:=hl.tl;have:=hf.hl;show (d.ops++tk).length≤3000;rw [bm];omega,hl.hl⟩
def aeh (g:Nat) (q_:qj) (k:Nat) (d:j9) (hf:gI d) (hv:dW d.hv) (h0:0≤d.rep∧d.rep<d.hv.length∧d.hv.length≤16) (ht:0≤bq d.ops∧bq d.ops≤1099511627776) (hh: ∀y∈d.held,y.aX.length=d.hv.length) (hr:d.ops.length≤2900):Ct Cp 29 #[pv g,.agg #[iv q_.kind,iv q_.node.t,iv q_.node.r,iv q_.par.t,iv q_.par.r,iv q_.oA.t,iv q_.oA.r,iv q_.prop,iv q_.val,iv q_.width]] (fun _=>True) [kn g k d] (fun v Cs=>(∃(o_:bz) (v2:List Int),∃h2 tk,∃(at_ ar:Int),v=.tuple #[.agg #[iv 0,iv at_,iv ar,sl none 0 0,iv 0,iv 0,.complex .f64 0 0,.complex .f64 0 0,sl none 0 0],iv 0]∧qk d q_ o_∧kH d.hv d.held o_ v2 h2 tk∧Cs= [kn g k ({d with hv:=v2,held:=h2,ops:=d.ops++tk})])∨(∃(e:Int),∃Ha nh,∃(Hc:Nat) (gt gr:Int) (z1 z2 z3 z4:Nat),∃Ka nk,∃(Kc:Nat),v=.tuple #[.agg #[iv e,iv 0,iv 0,sl Ha nh Hc,iv gt,iv gr,.complex .f64 z1 z2,.complex .f64 z3 z4,sl Ka nk Kc],iv 0]∧ ¬Wk q_ d∧Cs= [kn g k d])):=by
 refine Fz [.k (kn g k d)] Tryz.func29 fun U w0 hp=>bn (φ:=zH g k d) 0 ?_
 rintro _ ⟨p1,a2,rfl⟩
 refine dB 1 g 105 WH<|ae 17 [1] fun nB=>aO [(5,_)] [1,4,7,8] ⟨aY (fun vs=>(TT (⟨d,a2⟩:c_) q_ hf hv h0 ht hh hr).g9) [] (fun vs=>.tuple #[.agg #[gi (tp (vs 5) 0) 0,gi (tp (vs 5) 0) 1,gs (tp (vs 5) 0) 2,gs (tp (vs 5) 0) 3,gs (tp (vs 5) 0) 4,gs (tp (vs 5) 0) 5,gs (tp (vs 5) 0) 6,gs (tp (vs 5) 0) 7,gi (tp (vs 5) 0) 8,gi (tp (vs 5) 0) 9,gi (tp (vs 5) 0) 10],.agg #[gi (tp (vs 5) 1) 0,gi (tp (vs 5) 1) 1,gi (tp (vs 5) 1) 2,gs (tp (vs 5) 1) 3,gi (tp (vs 5) 1) 4,gi (tp (vs 5) 1) 5,.complex .f64 (dK (ag (tp (vs 5) 1) 6)) (dL (ag (tp (vs 5) 1) 6)),.complex .f64 (dK (ag (tp (vs 5) 1) 7)) (dL (ag (tp (vs 5) 1) 7)),gs (tp (vs 5) 1) 8]]) [fun vs=>.k (g9 ((fun v Cs=>(∃a,∃(o_:bz) (v2:List Int),∃h2 tk,∃(at_ ar:Int),v=.tuple #[.agg (c_.cells ⟨{(⟨d,a2⟩:c_).d with hv:=v2,held:=h2,ops:=(⟨d,a2⟩:c_).d.ops++tk},a⟩).toArray,.agg #[iv 0,iv at_,iv ar,sl none 0 0,iv 0,iv 0,.complex .f64 0 0,.complex .f64 0 0,sl none 0 0]]∧qk (⟨d,a2⟩:c_).d q_ o_∧kH (⟨d,a2⟩:c_).d.hv (⟨d,a2⟩:c_).d.held o_ v2 h2 tk∧Cs= [SA (⟨{(⟨d,a2⟩:c_).d with hv:=v2,held:=h2,ops:=(⟨d,a2⟩:c_).d.ops++tk},a⟩)])∨(∃a,∃(e:Int),∃Ha nh,∃(Hc:Nat) (gt gr:Int) (z1 z2 z3 z4:Nat),∃Ka nk,∃(Kc:Nat),v=.tuple #[.agg (c_.cells ⟨(⟨d,a2⟩:c_).d,a⟩).toArray,.agg #[iv e,iv 0,iv 0,sl Ha nh Hc,iv gt,iv gr,.complex .f64 z1 z2,.complex .f64 z3 z4,sl Ka nk Kc]]∧ ¬Wk q_ (⟨d,a2⟩:c_).d∧Cs= [SA (⟨(⟨d,a2⟩:c_).d,a⟩)])) (vs 5)))] (fun vs w h=>h.Ns (v:=⟨d,a2⟩) 3 kr hf) (fun vs u C h=>by obtain ⟨⟨_,h⟩,rfl⟩:=h;refine ⟨?_,rfl⟩;rcases h with ⟨_,_,_,_,_,_,_,rfl,_,_,_⟩|⟨_,_,_,_,_,_,_,_,_,_,_,_,_,_,rfl,_,_⟩<;>rfl),trivial⟩ fun cK=>?_
 refine bn (φ:=(fun v Cs=>(∃a,∃(o_:bz) (v2:List Int),∃h2 tk,∃(at_ ar:Int),v=.tuple #[.agg (c_.cells ⟨{(⟨d,a2⟩:c_).d with hv:=v2,held:=h2,ops:=(⟨d,a2⟩:c_).d.ops++tk},a⟩).toArray,.agg #[iv 0,iv at_,iv ar,sl none 0 0,iv 0,iv 0,.complex .f64 0 0,.complex .f64 0 0,sl none 0 0]]∧qk (⟨d,a2⟩:c_).d q_ o_∧kH (⟨d,a2⟩:c_).d.hv (⟨d,a2⟩:c_).d.held o_ v2 h2 tk∧Cs= [SA (⟨{(⟨d,a2⟩:c_).d with hv:=v2,held:=h2,ops:=(⟨d,a2⟩:c_).d.ops++tk},a⟩)])∨(∃a,∃(e:Int),∃Ha nh,∃(Hc:Nat) (gt gr:Int) (z1 z2 z3 z4:Nat),∃Ka nk,∃(Kc:Nat),v=.tuple #[.agg (c_.cells ⟨(⟨d,a2⟩:c_).d,a⟩).toArray,.agg #[iv e,iv 0,iv 0,sl Ha nh Hc,iv gt,iv gr,.complex .f64 z1 z2,.complex .f64 z3 z4,sl Ka nk Kc]]∧ ¬Wk q_ (⟨d,a2⟩:c_).d∧Cs= [SA (⟨(⟨d,a2⟩:c_).d,a⟩)])) (cK 5)) 6 ?_
 rintro _ (⟨WJ,aei,TU,TV,Bb,wV,GN,TW,f65,f66,rfl⟩|⟨WK,WL,GO,GP,GQ,GR,GS,WM,WN,WQ,WR,GU,GV,GW,TW,f81,rfl⟩)
 ·refine aC 20 (.tuple #[.agg (c_.cells ⟨{d with hv:=TU,held:=TV,ops:=d.ops++Bb},WJ⟩).toArray,.agg #[iv 0,iv wV,iv GN,sl none 0 0,iv 0,iv 0,.complex .f64 0 0,.complex .f64 0 0,sl none 0 0]]) (.tuple #[.agg #[gi (tp (cK 5) 0) 0,gi (tp (cK 5) 0) 1,gs (tp (cK 5) 0) 2,gs (tp (cK 5) 0) 3,gs (tp (cK 5) 0) 4,gs (tp (cK 5) 0) 5,gs (tp (cK 5) 0) 6,gs (tp (cK 5) 0) 7,gi (tp (cK 5) 0) 8,gi (tp (cK 5) 0) 9,gi (tp (cK 5) 0) 10],.agg #[gi (tp (cK 5) 1) 0,gi (tp (cK 5) 1) 1,gi (tp (cK 5) 1) 2,gs (tp (cK 5) 1) 3,gi (tp (cK 5) 1) 4,gi (tp (cK 5) 1) 5,.complex .f64 (dK (ag (tp (cK 5) 1) 6)) (dL (ag (tp (cK 5) 1) 6)),.complex .f64 (dK (ag (tp (cK 5) 1) 7)) (dL (ag (tp (cK 5) 1) 7)),gs (tp (cK 5) 1) 8]]) IB<|aC 14 (.tuple #[.agg (c_.cells ⟨{d with hv:=TU,held:=TV,ops:=d.ops++Bb},WJ⟩).toArray,.agg #[iv 0,iv wV,iv GN,sl none 0 0,iv 0,iv 0,.complex .f64 0 0,.complex .f64 0 0,sl none 0 0]]) (.tuple #[.agg #[gi (tp (cK 5) 0) 0,gi (tp (cK 5) 0) 1,gs (tp (cK 5) 0) 2,gs (tp (cK 5) 0) 3,gs (tp (cK 5) 0) 4,gs (tp (cK 5) 0) 5,gs (tp (cK 5) 0) 6,gs (tp (cK 5) 0) 7,gi (tp (cK 5) 0) 8,gi (tp (cK 5) 0) 9,gi (tp (cK 5) 0) 10],.agg #[gi (tp (cK 5) 1) 0,gi (tp (cK 5) 1) 1,gi (tp (cK 5) 1) 2,gs (tp (cK 5) 1) 3,gi (tp (cK 5) 1) 4,gi (tp (cK 5) 1) 5,.complex .f64 (dK (ag (tp (cK 5) 1) 6)) (dL (ag (tp (cK 5) 1) 6)),.complex .f64 (dK (ag (tp (cK 5) 1) 7)) (dL (ag (tp (cK 5) 1) 7)),gs (tp (cK 5) 1) 8]]) IB<|aC 21 (.agg (c_.cells ⟨{d with hv:=TU,held:=TV,ops:=d.ops++Bb},WJ⟩).toArray) (.agg #[gi (tp (cK 5) 0) 0,gi (tp (cK 5) 0) 1,gs (tp (cK 5) 0) 2,gs (tp (cK 5) 0) 3,gs (tp (cK 5) 0) 4,gs (tp (cK 5) 0) 5,gs (tp (cK 5) 0) 6,gs (tp (cK 5) 0) 7,gi (tp (cK 5) 0) 8,gi (tp (cK 5) 0) 9,gi (tp (cK 5) 0) 10]) IB<|aC 22 (.agg #[iv 0,iv wV,iv GN,sl none 0 0,iv 0,iv 0,.complex .f64 0 0,.complex .f64 0 0,sl none 0 0]) (.agg #[gi (tp (cK 5) 1) 0,gi (tp (cK 5) 1) 1,gi (tp (cK 5) 1) 2,gs (tp (cK 5) 1) 3,gi (tp (cK 5) 1) 4,gi (tp (cK 5) 1) 5,.complex .f64 (dK (ag (tp (cK 5) 1) 6)) (dL (ag (tp (cK 5) 1) 6)),.complex .f64 (dK (ag (tp (cK 5) 1) 7)) (dL (ag (tp (cK 5) 1) 7)),gs (tp (cK 5) 1) 8]) IB<|aD 9 (bJ (a5 (cK 9)) 54 [gi (tp (cK 5) 0) 0,gi (tp (cK 5) 0) 1,gs (tp (cK 5) 0) 2,gs (tp (cK 5) 0) 3,gs (tp (cK 5) 0) 4,gs (tp (cK 5) 0) 5,gs (tp (cK 5) 0) 6,gs (tp (cK 5) 0) 7,gi (tp (cK 5) 0) 8,gi (tp (cK 5) 0) 9,gi (tp (cK 5) 0) 10]) (bJ (a5 (cK 9)) 54 (c_.cells ⟨{d with hv:=TU,held:=TV,ops:=d.ops++Bb},WJ⟩)) kr IB<|dB 12 (a5 (cK 9)) 54 (c_.cells ⟨{d with hv:=TU,held:=TV,ops:=d.ops++Bb},WJ⟩)<|aD 10 (bJ (a5 (cK 10)) 88 [gi (tp (cK 5) 1) 0,gi (tp (cK 5) 1) 1,gi (tp (cK 5) 1) 2,gs (tp (cK 5) 1) 3,gi (tp (cK 5) 1) 4,gi (tp (cK 5) 1) 5,.complex .f64 (dK (ag (tp (cK 5) 1) 6)) (dL (ag (tp (cK 5) 1) 6)),.complex .f64 (dK (ag (tp (cK 5) 1) 7)) (dL (ag (tp (cK 5) 1) 7)),gs (tp (cK 5) 1) 8]) (bJ (a5 (cK 10)) 88 [iv 0,iv wV,iv GN,sl none 0 0,iv 0,iv 0,.complex .f64 0 0,.complex .f64 0 0,sl none 0 0]) kr IB<|dB 13 (a5 (cK 10)) 88 [iv 0,iv wV,iv GN,sl none 0 0,iv 0,iv 0,.complex .f64 0 0,.complex .f64 0 0,sl none 0 0] ?_
  have YE:=Km hf f66 f65.may hr
  refine ae 5 [12] fun _=>aJ (zH g k d) [1,2,3] WS (⟨p1,a2,rfl⟩)<|ah (nV g (⟨{d with hv:=TU,held:=TV,ops:=d.ops++Bb},WJ⟩:c_) k d Bb rfl YE.ops YE.ol) [14,11] cJ ?_
  rintro _ _ ⟨rfl,rfl⟩
  refine ae 15 [13,5] fun _=>bk [5] [15] (.inl ⟨aei,TU,TV,Bb,wV,GN,kr,f65,f66,kr⟩)
 ·refine aC 20 (.tuple #[.agg (c_.cells ⟨d,WK⟩).toArray,.agg #[iv WL,iv 0,iv 0,sl GO GP GQ,iv GR,iv GS,.complex .f64 WM WN,.complex .f64 WQ WR,sl GU GV GW]]) (.tuple #[.agg #[gi (tp (cK 5) 0) 0,gi (tp (cK 5) 0) 1,gs (tp (cK 5) 0) 2,gs (tp (cK 5) 0) 3,gs (tp (cK 5) 0) 4,gs (tp (cK 5) 0) 5,gs (tp (cK 5) 0) 6,gs (tp (cK 5) 0) 7,gi (tp (cK 5) 0) 8,gi (tp (cK 5) 0) 9,gi (tp (cK 5) 0) 10],.agg #[gi (tp (cK 5) 1) 0,gi (tp (cK 5) 1) 1,gi (tp (cK 5) 1) 2,gs (tp (cK 5) 1) 3,gi (tp (cK 5) 1) 4,gi (tp (cK 5) 1) 5,.complex .f64 (dK (ag (tp (cK 5) 1) 6)) (dL (ag (tp (cK 5) 1) 6)),.complex .f64 (dK (ag (tp (cK 5) 1) 7)) (dL (ag (tp (cK 5) 1) 7)),gs (tp (cK 5) 1) 8]]) IB<|aC 14 (.tuple #[.agg (c_.cells ⟨d,WK⟩).toArray,.agg #[iv WL,iv 0,iv 0,sl GO GP GQ,iv GR,iv GS,.complex .f64 WM WN,.complex .f64 WQ WR,sl GU GV GW]]) (.tuple #[.agg #[gi (tp (cK 5) 0) 0,gi (tp (cK 5) 0) 1,gs (tp (cK 5) 0) 2,gs (tp (cK 5) 0) 3,gs (tp (cK 5) 0) 4,gs (tp (cK 5) 0) 5,gs (tp (cK 5) 0) 6,gs (tp (cK 5) 0) 7,gi (tp (cK 5) 0) 8,gi (tp (cK 5) 0) 9,gi (tp (cK 5) 0) 10],.agg #[gi (tp (cK 5) 1) 0,gi (tp (cK 5) 1) 1,gi (tp (cK 5) 1) 2,gs (tp (cK 5) 1) 3,gi (tp (cK 5) 1) 4,gi (tp (cK 5) 1) 5,.complex .f64 (dK (ag (tp (cK 5) 1) 6)) (dL (ag (tp (cK 5) 1) 6)),.complex .f64 (dK (ag (tp (cK 5) 1) 7)) (dL (ag (tp (cK 5) 1) 7)),gs (tp (cK 5) 1) 8]]) IB<|aC 21 (.agg (c_.cells ⟨d,WK⟩).toArray) (.agg #[gi (tp (cK 5) 0) 0,gi (tp (cK 5) 0) 1,gs (tp (cK 5) 0) 2,gs (tp (cK 5) 0) 3,gs (tp (cK 5) 0) 4,gs (tp (cK 5) 0) 5,gs (tp (cK 5) 0) 6,gs (tp (cK 5) 0) 7,gi (tp (cK 5) 0) 8,gi (tp (cK 5) 0) 9,gi (tp (cK 5) 0) 10]) IB<|aC 22 (.agg #[iv WL,iv 0,iv 0,sl GO GP GQ,iv GR,iv GS,.complex .f64 WM WN,.complex .f64 WQ WR,sl GU GV GW]) (.agg #[gi (tp (cK 5) 1) 0,gi (tp (cK 5) 1) 1,gi (tp (cK 5) 1) 2,gs (tp (cK 5) 1) 3,gi (tp (cK 5) 1) 4,gi (tp (cK 5) 1) 5,.complex .f64 (dK (ag (tp (cK 5) 1) 6)) (dL (ag (tp (cK 5) 1) 6)),.complex .f64 (dK (ag (tp (cK 5) 1) 7)) (dL (ag (tp (cK 5) 1) 7)),gs (tp (cK 5) 1) 8]) IB<|aD 9 (bJ (a5 (cK 9)) 54 [gi (tp (cK 5) 0) 0,gi (tp (cK 5) 0) 1,gs (tp (cK 5) 0) 2,gs (tp (cK 5) 0) 3,gs (tp (cK 5) 0) 4,gs (tp (cK 5) 0) 5,gs (tp (cK 5) 0) 6,gs (tp (cK 5) 0) 7,gi (tp (cK 5) 0) 8,gi (tp (cK 5) 0) 9,gi (tp (cK 5) 0) 10]) (bJ (a5 (cK 9)) 54 (c_.cells ⟨d,WK⟩)) kr IB<|dB 12 (a5 (cK 9)) 54 (c_.cells ⟨d,WK⟩)<|aD 10 (bJ (a5 (cK 10)) 88 [gi (tp (cK 5) 1) 0,gi (tp (cK 5) 1) 1,gi (tp (cK 5) 1) 2,gs (tp (cK 5) 1) 3,gi (tp (cK 5) 1) 4,gi (tp (cK 5) 1) 5,.complex .f64 (dK (ag (tp (cK 5) 1) 6)) (dL (ag (tp (cK 5) 1) 6)),.complex .f64 (dK (ag (tp (cK 5) 1) 7)) (dL (ag (tp (cK 5) 1) 7)),gs (tp (cK 5) 1) 8]) (bJ (a5 (cK 10)) 88 [iv WL,iv 0,iv 0,sl GO GP GQ,iv GR,iv GS,.complex .f64 WM WN,.complex .f64 WQ WR,sl GU GV GW]) kr IB<|dB 13 (a5 (cK 10)) 88 [iv WL,iv 0,iv 0,sl GO GP GQ,iv GR,iv GS,.complex .f64 WM WN,.complex .f64 WQ WR,sl GU GV GW]<|ae 5 [12] fun _=>aJ (zH g k d) [1,2,3] WS (⟨p1,a2,rfl⟩)<|ah (nV g (⟨d,WK⟩:c_) k d [] ((fj _).symm) hf.ops hf.ol) [14,11] cJ ?_
  rintro _ _ ⟨rfl,rfl⟩
  refine ae 15 [13,5] fun _=>bk [5] [15] (.inr ⟨WL,GO,GP,GQ,GR,GS,WM,WN,WQ,WR,GU,GV,GW,kr,f81,kr⟩)
def D8 (d:Nat) (r:Int) (n:Nat) (l:List bz) (v2:List Int) (h0:1≤n∧n≤16∧0≤r∧r<n) (hc:cP (bR n) l v2) (hm: ∀o∈l,bV o∧o.aX.length=n) (hl:l.length≤2900):Ct Cp 14 #[pv d,iv r,iv n] (fun _=>True) [j6 d (bL (bU l)) (bL (bU l))] (fun v Cs=> ∃(g:Nat),v=.tuple #[pv g,iv 0]∧Cs= [kn g d (aj r v2 l)]):=by
 refine Fz [.k (j6 d (bL (bU l)) (bL (bU l)))] Tryz.func14 fun U w0 hp=>aa 8 fun _=>ah (Hu d l (fun o ho=>(hm o ho).1) (by omega)) [0] cJ ?_
 rintro _ _ ⟨g1,rfl,rfl⟩
 refine aa 19 fun _=>ah (K0 g1 d (bL (bU l)) l (fun o ho=>(hm o ho).1) (by omega)) [1] cJ ?_
 rintro _ _ ⟨A2,c3,rfl,rfl⟩
 refine ah (Gu r n A2 c3 l v2 h0 h0.2.1 hc hm hl) [] (fun w h=>h.Qh (c:=c3) 3 kr (fun o ho=>(hm o ho).1) (by omega)) ?_
 rintro _ _ ⟨a4,rfl,rfl⟩
 refine ae 24 [5,5] fun jn=>aJ (zH (jn 20) d (aj r v2 l)) [6,2,4] [bJ (jn 20) 105 (pv g1::(c_.cells ⟨aj r v2 l,a4⟩++ [.bool false])),zL g1 d (bL (bU l)) l,SA (⟨aj r v2 l,a4⟩)] (⟨g1,a4,rfl⟩)<|a_ [7] ⟨jn 20,kr,kr⟩
def mE:Kd Nat:=⟨69,1,fun x=> [pv x],fun _=>rfl,fun _=>rfl,by decide⟩
structure m' where
 rb:Nat
 dk:Nat
 kb:Nat
 d:j9
 up:Bool
 s:c_
def xn (r:m') (Cs:List aM):Prop:=
 (r.up=true∧Cs= [bJ r.rb 72 (pv r.dk::pv r.kb::c_.cells r.s),kn r.kb r.dk r.d])∨
 (r.up=false∧Cs= [bJ r.rb 72 (pv r.dk::.pointer none::c_.cells r.s),j6 r.dk (bL (bU r.d.ops)) (bL (bU r.d.ops))])
def jE (r:m'):aM:=g9 (xn r)
structure gL where
 b:List UInt8
 A:OA
 c:Nat
 to:Int
 sp:Bool
def mF:Kd gL:=⟨132,3,fun x=> [.slice x.A x.b.length x.c,iv x.to,.bool x.sp],fun _=>rfl,fun _=>rfl,by decide⟩
def gL.own (x:gL):aM:=aA.row x.A x.c x.b
structure vk where
 e:Int
 t:Int
 r:Int
 Ha:OA
 nh:Nat
 Hc:Nat
 gt:Int
 gr:Int
 z1:Nat
 z2:Nat
 z3:Nat
 z4:Nat
 Ka:OA
 nk:Nat
 Kc:Nat
def pc:Kd vk:=⟨88,9,fun x=> [iv x.e,iv x.t,iv x.r,.slice x.Ha x.nh x.Hc,iv x.gt,iv x.gr,.complex .f64 x.z1 x.z2,.complex .f64 x.z3 x.z4,.slice x.Ka x.nk x.Kc],fun _=>rfl,fun _=>rfl,by decide⟩
structure kX where
 aF:List m'
 row:List gL
 fO:Int
 fu:List vk
def nc (g:Nat) (W:kX) (Cs:List aM):Prop:= ∃(Ar:OA) (cr:Nat) (Aw:OA) (cw:Nat) (Aa:OA) (ca:Nat),
 Cs= [bJ g 65 [.slice Ar (W.aF.map (·.rb)).length cr,.slice Aw W.row.length cw,iv W.fO,.slice Aa W.fu.length ca],mE.row Ar cr (W.aF.map (·.rb)),mF.row Aw cw W.row,pc.row Aa ca W.fu,aM.all (W.aF.map jE)]
def pF (g:Nat) (W:kX):aM:=g9 (nc g W)
structure ma (n k i:Nat) (r:m'):Prop where
 rep:r.d.rep=i
 len:r.d.hv.length=n
 vec:dW r.d.hv
 chain:cP (bR n) r.d.ops r.d.hv
 ops: ∀o∈r.d.ops,bV o∧o.aX.length=n
 held: ∀o∈r.d.held,bV o∧o.aX.length=n
 hl:r.d.held.length≤16
 own:dA r.d.hv i≤k
 aW:0≤r.d.aW∧r.d.aW≤1099511627776
 wn:0≤r.d.wait∧r.d.wait≤4∧0≤r.d.dT∧r.d.dT<n
def lB (W:kX) (o:bz):Prop:= ∃r,W.aF[o.st.r.toNat]? =some r∧o∈r.d.ops
structure tu (n:Nat) (W:kX) (f:pU):Prop where
 ok:gN f
 fN:f.fN<n
 hv:f.kind=1→f.hv.length=n
 ops: ∀o∈f.ops,o.aX.length=n∧lB W o
structure j_ (n:Nat) (W:kX) (x:gL):Prop where
 len:1≤x.b.length∧x.b.length≤1000000
 Ae:(∃f,x.b=fR f∧x.to=f.to∧tu n W f)∨(x.sp=true∧ ¬r_ x.b)
structure WI (n k:Nat) (W:kX):Prop where
 n0:1≤n∧n≤4
 k0:k≤100
 len:W.aF.length=n
 rep: ∀i r,W.aF[i]? =some r→ma n k i r
 own: ∀r∈W.aF,∀o,o∈r.d.ops∨o∈r.d.held→lB W o
 Ag: ∀x∈W.row,j_ n W x
 row:W.row.length≤64
def mr {α:Type} {l:List α} {i:Nat} {x:α} (h:l[i]? =some x):l.set i x=l:=by
 obtain ⟨hi,rfl⟩:=aN.1 h
 exact List.set_getElem_self hi
def Lw (g:Nat) (i:Int) (W:kX) (hl:W.aF.length≤16):Ct Cp 28 #[pv g,iv i] (fun _=>True) [pF g W] (fun v Cs=>(v=.pointer none∧(∀r,0≤i→W.aF[i.toNat]? =some r→r.up=false)∧Cs= [pF g W])∨(∃(r:m'),v=.pointer (some ⟨r.rb,0,none⟩)∧0≤i∧W.aF[i.toNat]? =some r∧r.up=true∧Cs= [pF g W])):=by
 refine Fz [.k (pF g W)] Tryz.func28 fun U w0 hp=>bn (φ:=nc g W) 0 ?_
 rintro _ ⟨Ar,cr,Aw,cw,Aa,ca,rfl⟩
 refine dB 1 g 65 EY<|aa 10 fun _=>aG 7 (i<0) (fun h1=>?_) (fun h1=>?_)
 ·refine aa 27 fun _=>aJ (nc g W) [1,2,3,4,5] Nv (⟨Ar,cr,Aw,cw,Aa,ca,rfl⟩)<|a_ [6] (.inl ⟨kr,fun r2 h0 _=>absurd h0 (by omega),kr⟩)
 ·refine ae 9 [1] fun _=>aG 16 (i≥((W.aF.map (·.rb)).length:Int)) (fun h2=>?_) (fun h2=>?_)
  ·refine aa 18 fun _=>aJ (nc g W) [1,2,3,4,5] Nv (⟨Ar,cr,Aw,cw,Aa,ca,rfl⟩)<|a_ [6] (.inl ⟨kr,fun r2 _ e=>by have:=(aN.1 e).1;rw [cM] at h2;omega,kr⟩)
  ·have hlen:(W.aF.map (·.rb)).length=W.aF.length:=cM _
   obtain ⟨r,hr⟩:=aw (xs:=W.aF) (k:=i.toNat) (by omega)
   have W9:(W.aF.map (·.rb))[i.toNat]? =some r.rb:=by rw [fk,hr];rfl
   refine gu 5 i.toNat jE W.aF r hr kr<|bn (φ:=xn r) 6 ?_
   rintro _ (⟨NB,rfl⟩|⟨NB,rfl⟩)
   ·refine dB 8 r.rb 72 qd0<|ae 5 [1] fun _=>aV Ar ((W.aF.map (·.rb)).length) i 1 Zj<|bd 69 (ad Ar (i.toNat*1) 0) (.pointer (some ⟨r.rb,0,none⟩)) Zi<|ae 15 [8,1] fun _=>aV Ar ((W.aF.map (·.rb)).length) i 1 Zj<|bd 69 (ad Ar (i.toNat*1) 0) (.pointer (some ⟨r.rb,0,none⟩)) Zi<|aa 2 fun _=>aJ (xn r) [8,9] qh5 (.inl ⟨NB,rfl⟩)<|fQ 10 7 i.toNat jE W.aF r (by omega)<|aD 11 (aM.all ((W.aF.set i.toNat r).map jE)) (aM.all (W.aF.map jE)) kr qpw ?_
    refine aJ (nc g W) [1,2,3,4,12] Nv (⟨Ar,cr,Aw,cw,Aa,ca,rfl⟩)<|a_ [13] (.inr ⟨r,kr,by omega,hr,NB,kr⟩)
   ·refine dB 8 r.rb 72 ql8<|ae 5 [1] fun _=>aV Ar ((W.aF.map (·.rb)).length) i 1 Zj<|bd 69 (ad Ar (i.toNat*1) 0) (.pointer (some ⟨r.rb,0,none⟩)) Zi<|ae 11 [8] fun _=>aJ (xn r) [8,9] [bJ r.rb 72 (.pointer (some ⟨r.dk,0,none⟩)::.pointer none::c_.cells r.s),j6 r.dk (bL (bU r.d.ops)) (bL (bU r.d.ops))] (.inr ⟨NB,rfl⟩)<|fQ 10 7 i.toNat jE W.aF r (by omega)<|aD 11 (aM.all ((W.aF.set i.toNat r).map jE)) (aM.all (W.aF.map jE)) kr qpw<|aJ (nc g W) [1,2,3,4,12] Nv (⟨Ar,cr,Aw,cw,Aa,ca,rfl⟩)<|a_ [13] (.inl ⟨kr,fun r2 _ e=>qoe,kr⟩)

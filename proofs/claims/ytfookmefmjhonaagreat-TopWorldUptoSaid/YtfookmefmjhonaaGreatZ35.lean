/- For the law of worlds: The layout. -/
import Derived.Test.YtfookmefmjhonaaGreatZ34
set_option linter.all false
namespace Go.Proofs.YtfookmefmjhonaaGreat.My
open Go.RowKit Go.bE
structure vx (R:World→Prop) (n:Nat) (a:Addr) (b:fe):Prop where
 ok:ix n b
 at_: ∀w,R w→jF a n b w
 ky:tQ R a
 ex: ∃w,R w
def vx.gZ {R:World→Prop} {n:Nat} {a:Addr} {b x:fe} (h:vx R (n+1) a b) {k:Nat} (hx:b.kids[k]? =some x):vx R n ((cz b.Ak).add (k*4)) x:=by
 have hm:=aI hx
 have rz:b.kids≠ []:=fun e=>by rw [e] at hm;cases hm
 refine ⟨h.ok.2.2 x hm,fun w hw=>(h.at_ w hw).gZ hx,?_,h.ex⟩
 obtain ⟨w0,hw0⟩:=h.ex
 obtain ⟨g,o,e,_⟩: ∃g o,b.Ak=some ⟨g,o,none⟩∧oZ g w0:=by cases (h.at_ w0 hw0).rd with|mk _ _ _ h4=>exact h4 rz
 refine ⟨g,if k*4=0 then o else o+k*4,?_,fun w hw=>?_⟩
 ·rw [e]
  unfold cz Addr.add
  split<;>rfl
 ·obtain ⟨g',o',e',hs⟩: ∃g o,b.Ak=some ⟨g,o,none⟩∧oZ g w:=by cases (h.at_ w hw).rd with|mk _ _ _ h4=>exact h4 rz
  rw [e] at e'
  injection e' with e'
  injection e' with e' _ _
  rw [e']
  exact hs
def ja (R:World→Prop) (g:Nat):aM:=g9 fun Cs=> ∃m,Cs= [bJ g 314 [.map (some m)],mapA m R]
def RF (R:World→Prop) (U:Nat→Prop) (w:World):Prop:= ∀w',Ch U w w'→R w'
def RF.ew {R:World→Prop} {U F:Nat→Prop} {w0 w:World} {rest:List aM} (h:RF R U w0) (hs:SF U w0 w F rest):RF R F w:=fun w' hc=>h w' (hs.ch.trans hc fun b hb hF=>(hs.sub b hF).resolve_right (by omega))
def hO.own {P:Program} {f:FuncId} {args:Array Value} {R:World→Prop} {C:List aM} {Q:Value→List aM→Prop} (h:hO P f args (RF R) C Q):Ct P f args (fun _=>True) (Gr R::C) Q:=fun U w _ hS=>by
 obtain ⟨F,hF,hf⟩:=hS.own
 obtain ⟨F1,F2,h1,h2,h3,h4⟩:=hF
 have l8: ∀b,F1 b∨F2 b→b<w.heap.size:=fun b hb=>(hf b ((h1 b).2 hb)).1
 refine (h F2 w (fun w' hc=>?_) ⟨Ch.refl _ _,F2,h4,fun b hb=>⟨l8 b (.inr hb),.inl hb⟩⟩).mono fun e w' hh=>?_
 ·have h5:(Gr R).H F1 w':=(Gr R).loc F1 w w' (fun b hb=>hc.block b (l8 b (.inl hb)) fun vy=>h2 b hb vy) h3
  exact SS.gr (U:=fun _=>True) (w0:=w') (H:= []) ⟨Ch.refl _ _,F1,⟨F1,fun _=>False,fun _=>⟨.inl,fun h=>h.elim id False.elim⟩,fun _ _ h=>h,h5,fun _ h=>h⟩,fun b hb=>⟨dY (l8 b (.inl hb)) hc.size,.inl trivial⟩⟩
 ·obtain ⟨v,he,C',hQ,hs⟩:=hh
  have hU: ∀b,b<w.heap.size→F2 b→U b:=fun b hb vy=>(hf b ((h1 b).2 (.inr vy))).2.resolve_right (by omega)
  refine ⟨v,he,C',hQ,hs.ch.mono hU,?_⟩
  obtain ⟨G,hG,hg⟩:=hs.own
  refine ⟨G,hG,fun b hb=>⟨(hg b hb).1,?_⟩⟩
  rcases (hg b hb).2 with h5|h5
  ·exact .inl (hU b (l8 b (.inr h5)) h5)
  ·exact .inr h5
structure Gv where
 a:Addr
 w:Int
 h:Int
 i:Int
 t:Int
def Cn:Kd Gv:=⟨350,5,fun x=> [.pointer (some x.a),iv x.w,iv x.h,iv x.i,iv x.t],fun _=>rfl,fun _=>rfl,by decide⟩
structure AM (w h i t:Int):Prop where
 w_:0≤w∧w≤1099511627776
 h_: -1≤h∧h≤1099511627776
 i_:0≤i∧i≤1099511627776
 t_:0≤t∧t≤1099511627776
def xY {b:fe} {n:Nat} (h:ix n b) {x:Int} (hx:dD x):0≤cF x (bM b 7) (bM b 8)∧cF x (bM b 7) (bM b 8)≤1099511627776:=by
 have h7:=h.rg (p:=7) (by omega)
 have h8:=h.rg (p:=8) (by omega)
 exact qh2
def OH {b:fe} {n:Nat} (h:ix n b) {x:Int} (hx:dD x):0≤cF x (bM b 5) (bM b 6)∧cF x (bM b 5) (bM b 6)≤1099511627776:=by
 have h7:=h.rg (p:=5) (by omega)
 have h8:=h.rg (p:=6) (by omega)
 exact qh2
def ER (kM:OA) (nj:Nat) (bo:List nK) (gp rm:Int) (mh: ∀y∈bo,lS y) (ou:bo.length≤64) (hg:0≤gp∧gp≤1099511627776) (hr:dD rm):Ct Cp 299 #[sl kM bo.length nj,iv gp,iv rm] (fun w=>np.Rd kM bo w) [] (fun v Cs=> ∃A2 c2,∃(vp:List Int),v=sl A2 vp.length c2∧vp.length=bo.length∧(∀y∈vp,dD y)∧Cs= [az.row A2 c2 vp]):=by
 refine cc Tryz.func299 fun w0 hp=>aa 4 fun _=>ed 0 (σ:=Nat×Bool×OA×Nat×List Int×OA×Nat×List Bool) (fun (g,gr,As,cs,ss,Af,cf,fx)=> [(0,sl kM bo.length nj),(1,iv gp),(2,iv rm),(6,sl none 0 0),(8,pv g)]) (fun (g,gr,As,cs,ss,Af,cf,fx)=> [.b g 420 [sl kM bo.length nj,iv gp,iv rm,.bool gr,sl As ss.length cs,sl Af fx.length cf],.k (az.row As cs ss),.k (pJ.row Af cf fx)]) (fun (g,gr,As,cs,ss,Af,cf,fx)=>OI bo gr ss fx) (fun (g,gr,As,cs,ss,Af,cf,fx)=>fx.count false) ?_ ?_
 ·intro _ cG
  refine aa 16 fun a8=>bD (OJ (a8 10) kM nj bo gp rm mh ou hg hr) [0] (fun w F h=>hp.u0.ew h) ?_
  rintro _ _ ⟨gr2,As3,cs4,Af5,cf6,fx7,rfl,f8,f9,rfl⟩
  refine dB 1 (a8 10) 420 [sl kM bo.length nj,iv gp,iv rm,.bool gr2,sl As3 ((bo.map iX).length) cs4,sl Af5 fx7.length cf6]<|aa 3 fun _=>cG _ ((a8 10),gr2,As3,cs4,bo.map iX,Af5,cf6,fx7) [1,2,3] kr ⟨cM iX,fun y hy=>Yu,f8,f9⟩
 ·rintro _ ⟨g,gr,As,cs,ss,Af,cf,fx⟩ Nq dm
  refine aa 4 fun _=>ah (TB (⟨g,0,none⟩) (⟨kM,bo.length,nj,gp,rm,gr,As,ss.length,cs,Af,fx.length,cf⟩:J5) fx rfl (by rw [Nq.fl];exact ou)) [] (fun w h=>⟨h.eT 0 g 420 (List.flatMap OK.f [(⟨kM,bo.length,nj,gp,rm,gr,As,ss.length,cs,Af,fx.length,cf⟩:J5)]) kr,h.bg 2 Af cf fx kr⟩) ?_
  rintro _ _ ⟨po,pK,TC,rfl,f13,rfl⟩
  have vh:=f13.len
  refine aa 8 fun _=>aq ((TC.length:Int)>0) (fun sU=>?_) (fun sU=>?_)
  ·refine aa 4 fun _=>bD (OM g po pK TC kM nj bo gp rm gr As cs ss Af cf fx mh ou hg hr Nq.sl Nq.sr Nq.fl f13 Nq.w1 (by omega)) [0,1,2] (fun w F h=>⟨h.F8 3 po pK TC kr,hp.u0.ew h⟩) ?_
   rintro _ _ ⟨TD,TE,rfl,f17,f18,f19,f20,f21,rfl⟩
   refine dB 4 g 420 [sl kM bo.length nj,iv gp,iv rm,.bool gr,sl As ss.length cs,sl Af fx.length cf]<|aa 1 fun _=>aD 4 (bJ g 420 [sl kM bo.length nj,iv gp,iv rm,.bool gr,sl As ss.length cs,sl Af fx.length cf]) (bJ g 420 [sl kM bo.length nj,iv gp,iv rm,.bool gr,sl As TD.length cs,sl Af TE.length cf]) kr (by rw [f17,Nq.sl,f19,Nq.fl])<|dB 7 g 420 [sl kM bo.length nj,iv gp,iv rm,.bool gr,sl As TD.length cs,sl Af TE.length cf]<|dm _ (g,gr,As,cs,TD,Af,cf,TE) [7,5,6] kr (Nq.round f17 f18 f19 f20) f21
  ·refine ae 9 [0] fun _=>a_ [1] ⟨As,cs,ss,kr,Nq.sl,Nq.sr,kr⟩
def J0 (af:Addr) (f:Gv) (xZ:Addr) (nk:Nat) (gZ:fe) (x y:Int) (nb:Nat) (b:fe) (gS:ix nb b) (Gz:ix nk gZ) (hx:dD x) (hy:dD y):Ct Cp 293 #[.pointer (some ((cz (some af)).add (0*5))),.pointer (some ((cz (some xZ)).add (0*4))),iv x,iv y] (fun w=>Cn.Rd (some af) [f] w∧jF xZ nk gZ w∧jF f.a nb b w) [] (fun v Cs=>v=.complex .f64 (floatOfInt .f64 (bu (bM b 13) [x,bM gZ 12])) (floatOfInt .f64 (bu (bM b 13) [y,bM gZ 12]))∧Cs= []):=by
 refine cc Tryz.func293 fun w0 hp=>aa 5 fun _=>aK [(1,iv (bM gZ 12)),(5,.pointer (some ((cz (some f.a)).add (0*4)))),(6,iv (bM b 13))] [] ⟨bT (hp:=fun w h=>hp.2.1.aE h.ch) (lC xZ nk gZ 12 Gz J6) jU,cB 310 (ad (some af) (0*5) 0) qjs,bT (hp:=fun w h=>hp.2.2.aE h.ch) (lC f.a nb b 13 gS J6) jU,trivial⟩<|aa 6 fun a8=>ah (iN (bM b 13) (so (a8 5)) 2 [x,bM gZ 12] J6 (by first|exact sX J6 J6) qkq) [] (fun w h=>h.eT 0 (a8 5) 3 (List.flatMap az.f [x,bM gZ 12]) kr) ?_
 rintro _ _ ⟨rfl,rfl⟩
 refine aa 4 fun ld=>ah (iN (bM b 13) (so (ld 3)) 2 [y,bM gZ 12] J6 (by first|exact sX J6 J6) qkq) [] (fun w h=>h.eT 1 (ld 3) 3 (List.flatMap az.f [y,bM gZ 12]) kr) ?_
 rintro _ _ ⟨rfl,rfl⟩
 refine ah (C9 (bu (bM b 13) [x,bM gZ 12]) (bu (bM b 13) [y,bM gZ 12])) [] cJ ?_
 exact Iq
def GA (af:Addr) (f:Gv) (xZ:Addr) (nk:Nat) (gZ:fe) (cr:Int) (nb:Nat) (b:fe) (gS:ix nb b) (Gz:ix nk gZ) (hc:dD cr):Ct Cp 316 #[.pointer (some ((cz (some af)).add (0*5))),.pointer (some ((cz (some xZ)).add (0*4))),iv cr] (fun w=>Cn.Rd (some af) [f] w∧jF xZ nk gZ w∧jF f.a nb b w) [] (fun v Cs=> ∃(z:Int),v=iv z∧(-1≤z∧z≤1099511627776)∧Cs= []):=by
 refine cc Tryz.func316 fun w0 hp=>aa 10 fun _=>bd 310 (ad (some af) (0*5) 0) (.pointer (some ((cz (some f.a)).add (0*4)))) qjs<|ah (lC f.a nb b 16 gS Yv) [] Yn ?_
 rintro _ _ ⟨rfl,rfl⟩
 refine aa 2 fun _=>eV 13 ((bM b 16)=0) (fun h1=>?_) (fun h1=>?_)
 ·refine aa 10 fun _=>qrl
 ·refine aa 1 fun _=>ah (lC xZ nk gZ 4 Gz Yv) [] Tr ?_
  rintro _ _ ⟨rfl,rfl⟩
  refine aa 3 fun _=>cU ((bM gZ 4)=(-1)) (fun h2=>?_) (fun h2=>?_)
  ·refine aa 4 fun _=>qrl
  ·refine aa 6 fun _=>ah (lC xZ nk gZ 12 Gz Yv) [] Tr ?_
   rintro _ _ ⟨rfl,rfl⟩
   refine ah (kJ cr (bM gZ 12) Yv Yv) [] cJ ?_
   rintro _ _ ⟨rfl,rfl⟩
   refine ah (CW xZ nk gZ (ia cr (bM gZ 12)) Gz) [] Tr ?_
   rintro _ _ ⟨rfl,rfl⟩
   refine aa 2 fun _=>a_ [] ⟨cF (ia cr (bM gZ 12)) (bM gZ 7) (bM gZ 8),kr,by have:=xY Gz (x:=ia cr (bM gZ 12)) (rg_of (gh _ _));omega,kr⟩
def ON (af:Addr) (f:Gv) (kM:OA) (nj:Nat) (bo:List nK) (nb:Nat) (b:fe) (gS:ix nb b) (mh: ∀y∈bo,lS y) (ou:bo.length≤64):Ct Cp 296 #[.pointer (some ((cz (some af)).add (0*5))),sl kM bo.length nj] (fun w=>Cn.Rd (some af) [f] w∧np.Rd kM bo w∧jF f.a nb b w) [] (fun v Cs=> ∃A2 c2,∃(m:List Int),v=sl A2 m.length c2∧(m.sum=bo.length∧(∀y∈m,0≤y)∧m.length≤bo.length)∧Cs= [az.row A2 c2 m]):=by
 refine cc Tryz.func296 fun w0 hp=>aa 13 fun _=>aq ((bo.length:Int)=0) (fun h1=>?_) (fun h1=>?_)
 ·refine aa 4 fun _=>bG az<|a_ [0] ⟨none,0,[],kr,⟨by simp;omega,by simp,by simp⟩,kr⟩
 ·refine aa 5 fun _=>bd 310 (ad (some af) (0*5) 0) (.pointer (some ((cz (some f.a)).add (0*4)))) qjs<|ah (lC f.a nb b 2 gS J6) [] Yn ?_
  rintro _ _ ⟨rfl,rfl⟩
  refine aa 3 fun _=>aq ((bM b 2)=0) (fun h2=>?_) (fun h2=>?_)
  ·refine aa 7 fun nB=>mi az 0 (nB 4) 1 [(bo.length:Int)]<|a_ [0] ⟨so (nB 4),1,[(bo.length:Int)],kr,⟨by simp,by simp,by simp;omega⟩,kr⟩
  ·refine aa 3 fun _=>aO [(1,_),(5,_),(6,_),(10,_),(11,_)] [] ⟨aY (fun vs=>ya kM nj bo (by omega)) [] (fun vs=>sl (ak (vs 1)) ((bo.map iX).length) (an (vs 1))) [fun vs=>.k (az.row (ak (vs 1)) (an (vs 1)) (bo.map iX))] qmo kA,cZ 310 (fun vs=>ad (some af) (0*5) 0) (fun vs=>.pointer (some ((cz (some f.a)).add (0*4)))) qok,aY (fun vs=>lC f.a nb b 14 gS J6) [] (fun vs=>iv (bM b 14)) [] (fun vs w h=>hp.2.2.aE h.ch) ko,cZ 3 (fun vs=>ad (some af) (0*5) 3) (fun vs=>iv f.i) qok,aY (fun vs=>(Yw (ak (vs 1)) (an (vs 1)) (bo.map iX) (bM b 14) f.i (fun y hy=>Yu) J6 OO).g9) [] (fun vs=>sl (ak (vs 11)) (eI (vs 11)) (an (vs 11))) [fun vs=>.k (g9 ((fun v Cs=> ∃A2 c2,∃(m:List Int),v=sl A2 m.length c2∧mY (bo.map iX).length m∧Cs= [az.row A2 c2 m]) (vs 11)))] (fun vs w h=>h.bg 0 (ak (vs 1)) (an (vs 1)) (bo.map iX) kr) (fun vs u C h=>by obtain ⟨⟨_,h⟩,rfl⟩:=h;refine ⟨?_,rfl⟩;rcases h with ⟨_,_,_,rfl,_,_⟩<;>rfl),trivial⟩ fun jd=>?_
   refine bn (φ:=(fun v Cs=> ∃A2 c2,∃(m:List Int),v=sl A2 m.length c2∧mY (bo.map iX).length m∧Cs= [az.row A2 c2 m]) (jd 11)) 1 ?_
   rintro _ (⟨A8,c9,m10,Yx,f11,rfl⟩)
   ·refine aC 4 (sl A8 m10.length c9) (sl (ak (jd 11)) (eI (jd 11)) (an (jd 11))) qq6<|aC 30 (sl A8 m10.length c9) (sl (ak (jd 11)) (eI (jd 11)) (an (jd 11))) qq6<|a_ [2] ⟨A8,c9,m10,kr,⟨by rw [f11.sum,cM],fun y hy=>by have:=f11.one y hy;omega,by have:=f11.len;rw [cM] at this;exact this⟩,kr⟩
def OP (ab:Addr) (nb:Nat) (b:fe) (av qw qh:Int) (gS:ix nb b) (Nm:dD av) (Nn: -1≤qw∧qw≤1099511627776) (Np: -1≤qh∧qh≤1099511627776):Ct Cp 243 #[.agg #[.pointer (some ((cz (some ab)).add (0*4))),iv av,iv qw,iv qh]] (fun w=>jF ab nb b w) [] (fun v Cs=> ∃(fw fh fi ft:Int),v=.agg #[.pointer (some ((cz (some ab)).add (0*4))),iv fw,iv fh,iv fi,iv ft]∧AM fw fh fi ft∧Cs= []):=by
 refine cc Tryz.func243 fun w0 hp=>ae 24 [0,0,0,2,2] fun a8=>dj (σ:=Int) (fun fw=> [(1,pv (a8 2)),(2,pv (a8 3)),(3,pv (a8 14))]) (fun fw=> [.b (a8 2) 317 [.pointer (some ((cz (some ab)).add (0*4))),iv av,iv qw,iv qh],.b (a8 3) 350 [.pointer none,iv 0,iv 0,iv 0,iv 0],.b (a8 14) 350 [.pointer (some ((cz (some ab)).add (0*4))),iv fw,iv qh,iv 0,iv 0]]) (fun fw=>0≤fw∧fw≤1099511627776) ?_ ?_
 ·rintro fw ⟨WB,hw2⟩
  refine ae 5 [0] fun _=>ah (lC ab nb b 4 gS Nr) [] il ?_
  rintro _ _ ⟨rfl,rfl⟩
  refine aa 3 fun _=>dj (σ:=Bool) (fun RE=> [(1,pv (a8 2)),(2,pv (a8 3)),(3,pv (a8 14)),(5,iv (bM b 4)),(41,.bool RE)]) (fun RE=> [.b (a8 2) 317 [.pointer (some ((cz (some ab)).add (0*4))),iv av,iv qw,iv qh],.b (a8 3) 350 [.pointer none,iv 0,iv 0,iv 0,iv 0],.b (a8 14) 350 [.pointer (some ((cz (some ab)).add (0*4))),iv fw,iv qh,iv 0,iv 0]]) (fun RE=>True) ?_ ?_
  ·rintro RE _
   refine dj (σ:=Int) (fun fh=> [(1,pv (a8 2)),(2,pv (a8 3)),(3,pv (a8 14))]) (fun fh=> [.b (a8 2) 317 [.pointer (some ((cz (some ab)).add (0*4))),iv av,iv qw,iv qh],.b (a8 3) 350 [.pointer none,iv 0,iv 0,iv 0,iv 0],.b (a8 14) 350 [.pointer (some ((cz (some ab)).add (0*4))),iv fw,iv fh,iv 0,iv 0]]) (fun fh=> -1≤fh∧fh≤1099511627776) ?_ ?_
   ·rintro fh ⟨Iv,hh2⟩
    refine aa 1 fun _=>aO [(4,_),(5,_)] [2,0,2] ⟨quk,aY (fun vs=>kJ fw (bM b 13) Nr Nr) [] (fun vs=>iv (ia fw (bM b 13))) [] nE ko,trivial⟩ fun v2=>ae 7 [3] fun _=>cU (fh=(-1)) (fun h3=>?_) (fun h3=>?_)
    ·refine aO [(4,_),(5,_)] [3,0,3] ⟨quk,aY (fun vs=>kJ fh (bM b 13) Nr Nr) [] (fun vs=>iv (ia fh (bM b 13))) [] nE ko,trivial⟩ fun v4=>ae 5 [4,1] fun _=>bk [1] [] ⟨fw,fh,ia fw (bM b 13),ia fh (bM b 13),kr,⟨⟨WB,hw2⟩,⟨Iv,hh2⟩,gh _ _,gh _ _⟩,kr⟩
    ·refine ae 6 [3,1] fun _=>bk [1] [] ⟨fw,fh,ia fw (bM b 13),0,kr,⟨⟨WB,hw2⟩,⟨Iv,hh2⟩,gh _ _,by omega⟩,kr⟩
   ·intro _ im
    refine eQ RE (fun h5=>?_) (fun h5=>?_)
    ·refine ae 4 [0] fun _=>ah (CW ab nb b (bM b 4) gS) [] il ?_
     rintro _ _ ⟨rfl,rfl⟩
     refine ae 3 [2] fun _=>im _ (cF (bM b 4) (bM b 7) (bM b 8)) [0,1,2] kr qli
    ·refine aa 1 fun _=>im _ qh [0,1,2] kr qli
  ·intro _ gV
   refine ae 5 [2] fun _=>aG 38 (qh=(-1)) (fun h6=>?_) (fun h6=>?_)
   ·refine aa 4 fun _=>gV _ (!decide ((bM b 4)=(-1))) [0,1,2] kr trivial
   ·refine aa 4 fun _=>gV _ false [0,1,2] kr trivial
 ·intro _ jB
  refine aq (qw=(-1)) (fun h7=>?_) (fun h7=>?_)
  ·refine ae 4 [0] fun _=>ah (lC ab nb b 3 gS Nr) [] il ?_
   rintro _ _ ⟨rfl,rfl⟩
   refine aa 8 fun _=>aq ((bM b 3)=(-1)) (fun h8=>?_) (fun h8=>?_)
   ·refine aK [(4,iv (bM b 12)),(5,iv (ia av (bM b 12)))] [0,0] ⟨bT (hp:=fun w h=>hp.aE h.ch) (lC ab nb b 12 gS Nr) jU,bT (kJ av (bM b 12) Nr Nr) jU,trivial⟩<|ae 4 [0] fun _=>ah (Jr ab nb b (ia av (bM b 12)) gS) [] il ?_
    rintro _ _ ⟨rfl,rfl⟩
    refine ae 3 [2] fun _=>jB _ (cF (ia av (bM b 12)) (bM b 5) (bM b 6)) [0,1,2] kr qfs
   ·refine ae 5 [0] fun _=>ah (Jr ab nb b (bM b 3) gS) [] il ?_
    rintro _ _ ⟨rfl,rfl⟩
    refine ae 3 [2] fun _=>jB _ (cF (bM b 3) (bM b 5) (bM b 6)) [0,1,2] kr qfs
  ·refine aa 1 fun _=>jB _ qw [0,1,2] kr qfs
def me (a m:Int): -1≤ia a m∧ia a m≤1099511627776:=by have:=gh a (bu m [m]);unfold ia;omega
def mg (a m:Int):0≤ia a m∧ia a m≤1099511627776:=gh a (bu m [m])
def xU {l:List Int} {x:Int} (h: ∀y∈l,dD y) (hx:dD x): ∀y∈l++ [x],dD y:=nJ h hx
def EL (k_:Nat) (ih: ∀(gw:Nat) (ab:Addr) (b:fe) (av qw qh:Int) (R:World→Prop) (hL:vx R k_ ab b) (Nm:dD av) (Nn: -1≤qw∧qw≤1099511627776) (Np: -1≤qh∧qh≤1099511627776),hO Cp 211 #[pv gw,.agg #[.pointer (some ((cz (some ab)).add (0*4))),iv av,iv qw,iv qh]] (fun U w=>RF R U w) [ja R gw] (fun v Cs=> ∃(gt gr:Int) (z1 z2 z3 z4:Nat),∃Ka nk,∃(Kc:Nat),v=.agg #[iv gt,iv gr,.complex .f64 z1 z2,.complex .f64 z3 z4,sl Ka nk Kc]∧jb ⟨gt,gr,z1,z2,z3,z4,Ka,nk,Kc⟩∧Cs= [ja R gw])) (gw:Nat) (af:Addr) (f:Gv) (R:World→Prop) (b:fe) (hL:vx R (k_+1) f.a b) (hF:AM f.w f.h f.i f.t):hO Cp 267 #[pv gw,.pointer (some ((cz (some af)).add (0*5)))] (fun U w=>Cn.gx (some af) [f] U w∧RF R U w) [ja R gw] (fun v Cs=> ∃A2 n2,∃(c2:Nat) (z:Int),v=.tuple #[sl A2 n2 c2,iv z]∧dD z∧Cs= [ja R gw]):=by
 refine kz [.k (ja R gw)] Tryz.func267 fun U w0 hp=>aa 15 fun _=>bd 310 (ad (some af) (0*5) 0) (.pointer (some ((cz (some f.a)).add (0*4)))) xV<|aa 2 fun _=>bd 208 (ad (some f.a) (0*4) 3) (sl b.Ak b.kids.length b.ck) Tx<|aa 4 fun _=>bG rK<|bG az<|aR (σ:=Nat×OA×Nat×List jc×OA×Nat×List Int) (fun (k,B,d,ks,C,e,hs)=> [(0,pv gw),(1,.pointer (some ((cz (some af)).add (0*5)))),(4,sl B ks.length d),(5,iv 0),(6,sl C hs.length e),(20,iv (b.kids.length:Int)),(21,iv k)]) (fun (k,B,d,ks,C,e,hs)=> [.k (ja R gw),.k (rK.row B d ks),.k (az.row C e hs)]) (fun (k,B,d,ks,C,e,hs)=>k≤b.kids.length∧ks.length=k∧hs.length=k∧ ∀y∈hs,dD y) (fun (k,B,d,ks,C,e,hs)=>b.kids.length-k) (0,none,0,[],none,0,[]) [0,1,2] ⟨bh _,rfl,rfl,by simp⟩ ?_
 rintro _ ⟨k,B,d,ks,C,e,hs⟩ ⟨hk,AN,Yq,OD⟩ aB
 have RC:=hL.ok.len
 refine aa 5 fun _=>aq ((k:Int)<(b.kids.length:Int)) (fun h1=>?_) (fun h1=>?_)
 ·refine aa 9 fun _=>Exists.elim (aw (xs:=b.kids) (k:=k) (by omega)) fun x2 e3=>aO [(4,_),(7,_),(9,_),(13,_),(15,_)] [4] ⟨OE,qcc,quq,Ty,fJ (fun vs=>(ih gw ((cz b.Ak).add (k*4)) x2 f.i (-1) (-1) R (hL.gZ e3) EM EM EM).g9) [0] (fun vs=>.agg #[gi (vs 15) 0,gi (vs 15) 1,.complex .f64 (dK (ag (vs 15) 2)) (dL (ag (vs 15) 2)),.complex .f64 (dK (ag (vs 15) 3)) (dL (ag (vs 15) 3)),gs (vs 15) 4]) [fun vs=>.k (g9 ((fun v Cs=> ∃(gt gr:Int) (z1 z2 z3 z4:Nat),∃Ka nk,∃(Kc:Nat),v=.agg #[iv gt,iv gr,.complex .f64 z1 z2,.complex .f64 z3 z4,sl Ka nk Kc]∧jb ⟨gt,gr,z1,z2,z3,z4,Ka,nk,Kc⟩∧Cs= [ja R gw]) (vs 15)))] qm7 qv1,trivial⟩ fun sc=>?_
  refine bn (φ:=(fun v Cs=> ∃(gt gr:Int) (z1 z2 z3 z4:Nat),∃Ka nk,∃(Kc:Nat),v=.agg #[iv gt,iv gr,.complex .f64 z1 z2,.complex .f64 z3 z4,sl Ka nk Kc]∧jb ⟨gt,gr,z1,z2,z3,z4,Ka,nk,Kc⟩∧Cs= [ja R gw]) (sc 15)) 3 ?_
  rintro _ (⟨sF,sG,Iu,EN,p8,p_,sH,sI,sJ,Yr,f23,rfl⟩)
  ·refine aC 39 (.agg #[iv sF,iv sG,.complex .f64 Iu EN,.complex .f64 p8 p_,sl sH sI sJ]) (.agg #[gi (sc 15) 0,gi (sc 15) 1,.complex .f64 (dK (ag (sc 15) 2)) (dL (ag (sc 15) 2)),.complex .f64 (dK (ag (sc 15) 3)) (dL (ag (sc 15) 3)),gs (sc 15) 4]) qq4<|aD 5 (bJ (a5 (sc 16)) 86 [gi (sc 15) 0,gi (sc 15) 1,.complex .f64 (dK (ag (sc 15) 2)) (dL (ag (sc 15) 2)),.complex .f64 (dK (ag (sc 15) 3)) (dL (ag (sc 15) 3)),gs (sc 15) 4]) (bJ (a5 (sc 16)) 86 [iv sF,iv sG,.complex .f64 Iu EN,.complex .f64 p8 p_,sl sH sI sJ]) kr qq4<|dB 7 (a5 (sc 16)) 86 [iv sF,iv sG,.complex .f64 Iu EN,.complex .f64 p8 p_,sl sH sI sJ] ?_
   have Ys:=f23.h0
   have Yt:=f23.w0
   refine ae 3 [7] fun _=>ah (xW (⟨sF,sG,Iu,EN,p8,p_,sH,sI,sJ⟩:jc) f23) [] cJ ?_
   rintro _ _ ⟨rfl,rfl⟩
   refine aa 6 fun _=>aO [(3,_),(8,_),(11,_),(13,_),(15,_),(17,_)] [7] ⟨ib rK 1 (fun vs=>B) (fun vs=>d) (fun vs=>ks) (fun vs=>some ⟨(a5 (vs 2)),0,none⟩) (fun vs=>1) (fun vs=>1) (fun vs=> [(⟨sF,sG,Iu,EN,p8,p_,sH,sI,sJ⟩:jc)]) (fun vs w h=>h.eT 7 (a5 (vs 2)) 86 (List.flatMap rK.f [(⟨sF,sG,Iu,EN,p8,p_,sH,sI,sJ⟩:jc)]) kr),OE,qcc,quq,aY (fun vs=>oo ((cz b.Ak).add (k*4)) k_ x2 (tN (⟨sF,sG,Iu,EN,p8,p_,sH,sI,sJ⟩:jc)) ((hL.gZ e3).ok) EM) [] (fun vs=>iv (k9 x2 (tN (⟨sF,sG,Iu,EN,p8,p_,sH,sI,sJ⟩:jc)))) [] (fun vs w h=>(hL.gZ e3).at_ _ (hp.2 _ h.ch)) ko,ib az 2 (fun vs=>C) (fun vs=>e) (fun vs=>hs) (fun vs=>some ⟨(a5 (vs 16)),0,none⟩) (fun vs=>1) (fun vs=>1) (fun vs=> [k9 x2 (tN (⟨sF,sG,Iu,EN,p8,p_,sH,sI,sJ⟩:jc))]) (fun vs w h=>h.eT 8 (a5 (vs 16)) 3 (List.flatMap az.f [k9 x2 (tN (⟨sF,sG,Iu,EN,p8,p_,sH,sI,sJ⟩:jc))]) kr),trivial⟩ fun sW=>aa 3 fun _=>ao 63 ((k:Int)+1)<|aa 2 fun _=>aB _ (k+1,ak (sW 3),an (sW 3),ks++ [(⟨sF,sG,Iu,EN,p8,p_,sH,sI,sJ⟩:jc)],ak (sW 17),an (sW 17),hs++ [k9 x2 (tN (⟨sF,sG,Iu,EN,p8,p_,sH,sI,sJ⟩:jc))]) [6,9,11] kr ⟨by omega,by rw [bm,AN];rfl,by rw [bm,Yq];rfl,xU OD (lE (hL.gZ e3).ok (rg_of Ys))⟩ du
 ·refine aa 7 fun _=>bd 310 (ad (some af) (0*5) 0) (.pointer (some ((cz (some f.a)).add (0*4)))) xV<|ah (lC f.a (k_+1) b 14 hL.ok sK) [] qi6 ?_
  rintro _ _ ⟨rfl,rfl⟩
  refine ah (CY C e hs (bM b 14) OD sK (by have:=hL.ok.len;omega)) [] (fun w h=>h.bg 2 C e hs kr) ?_
  rintro _ _ ⟨C8,Gw,rfl,rfl⟩
  refine aa 10 fun _=>?_
  have OF:(fP [bM b 14] 0 hs).length=hs.length:=jo _ _ _
  refine aR (σ:=Nat×List jc) (fun (j,nz)=> [(1,.pointer (some ((cz (some af)).add (0*5)))),(4,sl B ks.length d),(5,iv 0),(6,sl C hs.length e),(11,sl C8 ((fP [(bM b 14)] 0 hs).length) Gw),(72,iv (ks.length:Int)),(73,iv j)]) (fun (j,nz)=> [.k (ja R gw),.k (az.row C e hs),.k (az.row C8 Gw (fP [(bM b 14)] 0 hs)),.k (rK.row B d nz)]) (fun (j,nz)=>j≤ks.length∧nz.length=ks.length) (fun (j,nz)=>ks.length-j) (0,ks) [0,2,3,1] ⟨bh _,rfl⟩ ?_
  rintro _ ⟨j,nz⟩ ⟨hj,sE⟩ dG
  refine aa 5 fun _=>aq ((j:Int)<(ks.length:Int)) (fun Tz=>?_) (fun Tz=>?_)
  ·refine aa 8 fun _=>Exists.elim (aw (xs:=fP [(bM b 14)] 0 hs) (k:=j) (by omega)) fun xX Gx=>Exists.elim (aw (xs:=b.kids) (k:=j) (by omega)) fun xO Tm=>Exists.elim (aw (xs:=nz) (k:=j) (by omega)) fun ot Ni=>aO [(6,_),(9,_),(11,_),(14,_),(15,_),(16,_),(17,_),(19,_)] [] ⟨OE,qcc,br (fun vs=>b.Ak) (fun vs=>b.kids.length) (fun vs=>(j:Int)) 4 qdt,br (fun vs=>C8) (fun vs=>(fP [(bM b 14)] 0 hs).length) (fun vs=>(j:Int)) 1 (fun vs w h=>Kd.cd (K:=az) (xs:=fP [(bM b 14)] 0 hs) (h.bg 2 C8 Gw (fP [(bM b 14)] 0 hs) kr) (by omega)),cZ 3 (fun vs=>ad C8 (j*1) 0) (fun vs=>iv xX) (fun vs w h=>bW (K:=az) (h.bg 2 C8 Gw (fP [(bM b 14)] 0 hs) kr) Gx),aY (fun vs=>J0 af f ((cz b.Ak).add (j*4)) k_ xO 0 xX (k_+1) b hL.ok ((hL.gZ Tm).ok) (by first|assumption|omega|exact rg_of qas|exact rg_of (mg _ _)|exact dp TA _|exact (hL.ok.rg (by omega)).1|exact ((hL.gZ Tm).ok.rg (by omega)).1|exact me _ _) (lF _ Ri _ (aI Gx))) [] (fun vs=>.complex .f64 (floatOfInt .f64 (bu (bM b 13) [0,bM xO 12])) (floatOfInt .f64 (bu (bM b 13) [xX,bM xO 12]))) [] (fun vs w h=>⟨(hp.1.aE h.ch).rc,(hL.gZ Tm).at_ _ (hp.2 _ h.ch),hL.at_ _ (hp.2 _ h.ch)⟩) ko,br (fun vs=>B) (fun vs=>ks.length) (fun vs=>(j:Int)) 5 (fun vs w h=>Kd.cd (K:=rK) (xs:=nz) (h.bg 3 B d nz kr) (by omega)),cR rK 3 (fun vs=>B) (fun vs=>d) (fun vs=>nz) j 2 (fun vs=>ot) (fun vs=>(⟨ot.t,ot.r,floatOfInt .f64 (bu (bM b 13) [0,bM xO 12]),floatOfInt .f64 (bu (bM b 13) [xX,bM xO 12]),ot.z3,ot.z4,ot.Ka,ot.nk,ot.Kc⟩:jc)) 83 (fun vs=>.complex .f64 (floatOfInt .f64 (bu (bM b 13) [0,bM xO 12])) (floatOfInt .f64 (bu (bM b 13) [xX,bM xO 12]))) (fun _=>Ni),trivial⟩ fun EO=>aa 3 fun _=>ao 95 ((j:Int)+1)<|aa 2 fun _=>dG _ (j+1,nz.set j (⟨ot.t,ot.r,floatOfInt .f64 (bu (bM b 13) [0,bM xO 12]),floatOfInt .f64 (bu (bM b 13) [xX,bM xO 12]),ot.z3,ot.z4,ot.Ka,ot.nk,ot.Kc⟩:jc)) [0,1,2,4] kr ⟨by omega,by rw [cX];exact sE⟩ du
  ·refine aa 6 fun _=>ah (Js C8 Gw (fP [(bM b 14)] 0 hs) C e hs (lF _ Ri) OD (⟨jo _ _ _,by omega⟩)) [] (fun w h=>⟨h.bg 2 C8 Gw (fP [(bM b 14)] 0 hs) kr,h.bg 1 C e hs kr⟩) ?_
   rintro _ _ ⟨z37,rfl,f38,rfl⟩
   refine aa 3 fun _=>a_ [0] ⟨B,ks.length,d,z37,kr,f38.1,kr⟩
def UW (k_:Nat) (ih: ∀(gw:Nat) (ab:Addr) (b:fe) (av qw qh:Int) (R:World→Prop) (hL:vx R k_ ab b) (Nm:dD av) (Nn: -1≤qw∧qw≤1099511627776) (Np: -1≤qh∧qh≤1099511627776),hO Cp 211 #[pv gw,.agg #[.pointer (some ((cz (some ab)).add (0*4))),iv av,iv qw,iv qh]] (fun U w=>RF R U w) [ja R gw] (fun v Cs=> ∃(gt gr:Int) (z1 z2 z3 z4:Nat),∃Ka nk,∃(Kc:Nat),v=.agg #[iv gt,iv gr,.complex .f64 z1 z2,.complex .f64 z3 z4,sl Ka nk Kc]∧jb ⟨gt,gr,z1,z2,z3,z4,Ka,nk,Kc⟩∧Cs= [ja R gw])) (gw:Nat) (af:Addr) (f:Gv) (R:World→Prop) (b:fe) (hL:vx R (k_+1) f.a b) (hF:AM f.w f.h f.i f.t) (ZD:b.kids.length≤64):hO Cp 298 #[pv gw,.pointer (some ((cz (some af)).add (0*5)))] (fun U w=>Cn.gx (some af) [f] U w∧RF R U w) [ja R gw] (fun v Cs=> ∃A2 c2 bo,v=sl A2 bo.length c2∧bo.length=b.kids.length∧(∀y∈bo,lS y)∧Cs= [ja R gw,np.row A2 c2 bo]):=by
 refine kz [.k (ja R gw)] Tryz.func298 fun U w0 hp=>aa 10 fun _=>bd 310 (ad (some af) (0*5) 0) (.pointer (some ((cz (some f.a)).add (0*4)))) xV<|aa 2 fun _=>bd 208 (ad (some f.a) (0*4) 3) (sl b.Ak b.kids.length b.ck) Tx<|aa 4 fun _=>bG np<|aR (σ:=Nat×OA×Nat×List nK) (fun (k,B,d,bo)=> [(0,pv gw),(1,.pointer (some ((cz (some af)).add (0*5)))),(4,sl B bo.length d),(15,iv (b.kids.length:Int)),(16,iv k)]) qnm (fun (k,B,d,bo)=>k≤b.kids.length∧bo.length=k∧ ∀y∈bo,lS y) (fun (k,B,d,bo)=>b.kids.length-k) (0,none,0,[]) [0,1] ⟨bh _,rfl,by simp⟩ ?_
 rintro _ ⟨k,B,d,bo⟩ ⟨hk,ou,mh⟩ aB
 refine aa 5 fun _=>aq ((k:Int)<(b.kids.length:Int)) (fun h1=>?_) (fun h1=>?_)
 ·refine aa 13 fun _=>bd 310 (ad (some af) (0*5) 0) (.pointer (some ((cz (some f.a)).add (0*4)))) xV<|aa 2 fun _=>bd 208 (ad (some f.a) (0*4) 3) (sl b.Ak b.kids.length b.ck) Tx<|aa 1 fun _=>aV b.Ak b.kids.length (k:Int) 4 qgb<|aa 5 fun _=>Exists.elim (aw (xs:=b.kids) (k:=k) (by omega)) fun x2 e3=>ah (lC ((cz b.Ak).add (k*4)) k_ x2 11 ((hL.gZ e3).ok) EM) [] R5 ?_
  rintro _ _ ⟨rfl,rfl⟩
  refine aa 8 fun _=>aq ((bM x2 11)=(-1)) (fun h4=>?_) (fun h4=>?_)
  ·refine aa 6 fun _=>bd 3 (ad (some af) (0*5) 3) (iv f.i) xV<|aa 1 fun _=>bD (ih gw ((cz b.Ak).add (k*4)) x2 f.i (-1) (-1) R (hL.gZ e3) EM EM EM) [0] (fun w F h=>hp.2.ew h) ?_
   rintro _ _ ⟨gt5,gr6,z7,z8,z9,z10,Z1,Z2,Z3,rfl,f14,rfl⟩
   have Ys:=f14.h0
   have Yt:=f14.w0
   refine ah (xW (⟨gt5,gr6,z7,z8,z9,z10,Z1,Z2,Z3⟩:jc) f14) [] cJ ?_
   rintro _ _ ⟨rfl,rfl⟩
   refine aa 10 fun _=>ah (lC ((cz b.Ak).add (k*4)) k_ x2 7 ((hL.gZ e3).ok) EM) [] R5 ?_
   rintro _ _ ⟨rfl,rfl⟩
   refine aa 1 fun _=>ah (lC ((cz b.Ak).add (k*4)) k_ x2 8 ((hL.gZ e3).ok) EM) [] R5 ?_
   rintro _ _ ⟨rfl,rfl⟩
   refine ah (yV ((cz b.Ak).add (k*4)) k_ x2 (tN (⟨gt5,gr6,z7,z8,z9,z10,Z1,Z2,Z3⟩:jc)) (bM x2 7) (bM x2 8) ((hL.gZ e3).ok) qbs qbs EM) [] R5 ?_
   rintro _ _ ⟨l_,rfl,f16,rfl⟩
   refine aa 1 fun kQ=>bQ np 1 B d bo (so (kQ 0)) 1 1 [l_] (fun w h=>h.eT 3 (kQ 0) 391 (List.flatMap np.f [l_]) kr) (by omega) fun yF zM=>aa 5 fun _=>ao 54 ((k:Int)+1)<|aa 2 fun _=>aB _ (k+1,yF,zM,bo++ [l_]) [2,1] kr ⟨by omega,by rw [bm,ou];rfl,fun y hy=>(eG.1 hy).elim (mh y) fun e=>by rw [fv.1 e];exact f16⟩ du
  ·refine aa 6 fun _=>ah (lC ((cz b.Ak).add (k*4)) k_ x2 7 ((hL.gZ e3).ok) EM) [] R5 ?_
   rintro _ _ ⟨rfl,rfl⟩
   refine aa 1 fun _=>ah (lC ((cz b.Ak).add (k*4)) k_ x2 8 ((hL.gZ e3).ok) EM) [] R5 ?_
   rintro _ _ ⟨rfl,rfl⟩
   refine ah (yV ((cz b.Ak).add (k*4)) k_ x2 (bM x2 11) (bM x2 7) (bM x2 8) ((hL.gZ e3).ok) qbs qbs EM) [] R5 ?_
   rintro _ _ ⟨nw,rfl,f21,rfl⟩
   refine aa 1 fun Z4=>bQ np 1 B d bo (so (Z4 0)) 1 1 [nw] (fun w h=>h.eT 2 (Z4 0) 391 (List.flatMap np.f [nw]) kr) (by omega) fun A23 c24=>aa 5 fun _=>ao 54 ((k:Int)+1)<|aa 2 fun _=>aB _ (k+1,A23,c24,bo++ [nw]) [0,1] kr ⟨by omega,by rw [bm,ou];rfl,fun y hy=>(eG.1 hy).elim (mh y) fun e=>by rw [fv.1 e];exact f21⟩ du
 ·refine aa 6 fun _=>a_ [0,1] ⟨B,d,bo,kr,by omega,mh,kr⟩
def HG (k_:Nat) (ih: ∀(gw:Nat) (ab:Addr) (b:fe) (av qw qh:Int) (R:World→Prop) (hL:vx R k_ ab b) (Nm:dD av) (Nn: -1≤qw∧qw≤1099511627776) (Np: -1≤qh∧qh≤1099511627776),hO Cp 211 #[pv gw,.agg #[.pointer (some ((cz (some ab)).add (0*4))),iv av,iv qw,iv qh]] (fun U w=>RF R U w) [ja R gw] (fun v Cs=> ∃(gt gr:Int) (z1 z2 z3 z4:Nat),∃Ka nk,∃(Kc:Nat),v=.agg #[iv gt,iv gr,.complex .f64 z1 z2,.complex .f64 z3 z4,sl Ka nk Kc]∧jb ⟨gt,gr,z1,z2,z3,z4,Ka,nk,Kc⟩∧Cs= [ja R gw])) (gw:Nat) (af:Addr) (f:Gv) (go:Nat) (Z5:OA) (css:Nat) (ss:List Int) (R:World→Prop) (b:fe) (fr:Nat) (Ai:OA) (ni ci:Nat) (Ax:OA) (nx cx:Nat) (Ay:OA) (ny cy:Nat) (cr0:Int) (hL:vx R (k_+1) f.a b) (hF:AM f.w f.h f.i f.t) (Dn: ∀y∈ss,dD y) (Nk:fr+ss.length≤b.kids.length) (BJ:dD cr0):hO Cp 315 #[pv gw,.pointer (some ((cz (some af)).add (0*5))),pv go,sl Z5 ss.length css] (fun U w=>Cn.gx (some af) [f] U w∧az.gx Z5 ss U w∧RF R U w) [ja R gw,bJ go 397 [iv fr,sl Ai ni ci,sl Ax nx cx,sl Ay ny cy,iv cr0]] (fun v Cs=> ∃A2 c2 ks A3 c3,∃(hs:List Int) (cr:Int),v=.tuple #[sl A2 ks.length c2,sl A3 hs.length c3]∧ks.length=ss.length∧hs.length=ss.length∧(∀y∈hs,dD y)∧dD cr∧Cs= [ja R gw,bJ go 397 [iv fr,sl Ai ni ci,sl Ax nx cx,sl Ay ny cy,iv cr],rK.row A2 c2 ks,az.row A3 c3 hs]):=by
 refine kz [.k (ja R gw),.b go 397 [iv fr,sl Ai ni ci,sl Ax nx cx,sl Ay ny cy,iv cr0]] Tryz.func315 fun U w0 hp=>aa 13 fun _=>bG rK<|bG az<|aR (σ:=Nat×OA×Nat×List jc×OA×Nat×List Int×Int) (fun (k,B,d,ks,C,e,hs,cr)=> [(0,pv gw),(1,.pointer (some ((cz (some af)).add (0*5)))),(2,pv go),(8,sl B ks.length d),(9,sl C hs.length e),(16,sl Z5 ss.length css),(17,iv (ss.length:Int)),(18,iv k)]) (fun (k,B,d,ks,C,e,hs,cr)=> [.k (ja R gw),.b go 397 [iv fr,sl Ai ni ci,sl Ax nx cx,sl Ay ny cy,iv cr],.k (rK.row B d ks),.k (az.row C e hs)]) (fun (k,B,d,ks,C,e,hs,cr)=>k≤ss.length∧ks.length=k∧hs.length=k∧(∀y∈hs,dD y)∧dD cr) (fun (k,B,d,ks,C,e,hs,cr)=>ss.length-k) (0,none,0,[],none,0,[],cr0) [0,1,2,3] ⟨bh _,rfl,rfl,by simp,BJ⟩ ?_
 rintro _ ⟨k,B,d,ks,C,e,hs,cr⟩ ⟨hk,AN,Yq,OD,afu⟩ aB
 have RC:=hL.ok.len
 refine aa 5 fun _=>aq ((k:Int)<(ss.length:Int)) (fun h1=>?_) (fun h1=>?_)
 ·refine aa 6 fun _=>aV Z5 ss.length (k:Int) 1 (fun w h=>Kd.cd (K:=az) (xs:=ss) ((hp.2.1.aE h.ch).rc) (by omega))<|Exists.elim (aw (xs:=ss) (k:=k) (by omega)) fun x2 e3=>bd 3 (ad Z5 (k*1) 0) (iv x2) (fun w h=>bW (K:=az) ((hp.2.1.aE h.ch).rc) e3)<|aa 4 fun _=>aK [(3,.pointer (some ((cz (some f.a)).add (0*4)))),(6,sl b.Ak b.kids.length b.ck),(12,_),(13,_)] [1] ⟨qv5,cB 208 (ad (some f.a) (0*4) 3) (fun w h=>bW (K:=k7) ((hL.at_ _ (hp.2.2 _ h.ch)).at) rfl),fM ((fr:Int)+(k:Int)),bF b.Ak b.kids.length ((fr:Int)+(k:Int)) 4 (fun w h=>Kd.cd (K:=k7) (xs:=b.kids) ((hL.at_ _ (hp.2.2 _ h.ch)).kids) (by omega)),trivial⟩<|aa 1 fun _=>Exists.elim (aw (xs:=b.kids) (k:=((fr:Int)+(k:Int)).toNat) (by omega)) fun x4 e5=>aO [(5,_),(8,_),(9,_),(11,_)] [5] ⟨Ty,aY (fun vs=>lC ((cz b.Ak).add ((((fr:Int)+(k:Int)).toNat)*4)) k_ x4 12 ((hL.gZ e5).ok) W3) [] (fun vs=>iv (bM x4 12)) [] (fun vs w h=>(hL.gZ e5).at_ _ (hp.2.2 _ h.ch)) ko,aY (fun vs=>kJ x2 (bM x4 12) (Dn _ (aI e3)) W3) [] (fun vs=>iv (ia x2 (bM x4 12))) [] nE ko,fJ (fun vs=>(ih gw ((cz b.Ak).add ((((fr:Int)+(k:Int)).toNat)*4)) x4 f.i (ia x2 (bM x4 12)) (-1) R (hL.gZ e5) W3 W3 W3).g9) [0] (fun vs=>.agg #[gi (vs 11) 0,gi (vs 11) 1,.complex .f64 (dK (ag (vs 11) 2)) (dL (ag (vs 11) 2)),.complex .f64 (dK (ag (vs 11) 3)) (dL (ag (vs 11) 3)),gs (vs 11) 4]) [fun vs=>.k (g9 ((fun v Cs=> ∃(gt gr:Int) (z1 z2 z3 z4:Nat),∃Ka nk,∃(Kc:Nat),v=.agg #[iv gt,iv gr,.complex .f64 z1 z2,.complex .f64 z3 z4,sl Ka nk Kc]∧jb ⟨gt,gr,z1,z2,z3,z4,Ka,nk,Kc⟩∧Cs= [ja R gw]) (vs 11)))] (fun vs w F h=>hp.2.2.ew h) qv1,trivial⟩ fun sW=>?_
  refine bn (φ:=(fun v Cs=> ∃(gt gr:Int) (z1 z2 z3 z4:Nat),∃Ka nk,∃(Kc:Nat),v=.agg #[iv gt,iv gr,.complex .f64 z1 z2,.complex .f64 z3 z4,sl Ka nk Kc]∧jb ⟨gt,gr,z1,z2,z3,z4,Ka,nk,Kc⟩∧Cs= [ja R gw]) (sW 11)) 4 ?_
  rintro _ (⟨oR,oS,p8,p_,rk,Cy,oT,oU,oV,Y1,f25,rfl⟩)
  ·refine aC 48 (.agg #[iv oR,iv oS,.complex .f64 p8 p_,.complex .f64 rk Cy,sl oT oU oV]) (.agg #[gi (sW 11) 0,gi (sW 11) 1,.complex .f64 (dK (ag (sW 11) 2)) (dL (ag (sW 11) 2)),.complex .f64 (dK (ag (sW 11) 3)) (dL (ag (sW 11) 3)),gs (sW 11) 4]) qq3<|aD 6 (bJ (a5 (sW 12)) 86 [gi (sW 11) 0,gi (sW 11) 1,.complex .f64 (dK (ag (sW 11) 2)) (dL (ag (sW 11) 2)),.complex .f64 (dK (ag (sW 11) 3)) (dL (ag (sW 11) 3)),gs (sW 11) 4]) (bJ (a5 (sW 12)) 86 [iv oR,iv oS,.complex .f64 p8 p_,.complex .f64 rk Cy,sl oT oU oV]) kr qq3<|dB 8 (a5 (sW 12)) 86 [iv oR,iv oS,.complex .f64 p8 p_,.complex .f64 rk Cy,sl oT oU oV] ?_
   have Ys:=f25.h0
   have Yt:=f25.w0
   refine ae 3 [8] fun _=>ah (xW (⟨oR,oS,p8,p_,rk,Cy,oT,oU,oV⟩:jc) f25) [] cJ ?_
   rintro _ _ ⟨rfl,rfl⟩
   refine ae 11 [8] fun DH=>bQ rK 2 B d ks (so (DH 10)) 1 1 [(⟨oR,oS,p8,p_,rk,Cy,oT,oU,oV⟩:jc)] (fun w h=>h.eT 9 (DH 10) 86 (List.flatMap rK.f [(⟨oR,oS,p8,p_,rk,Cy,oT,oU,oV⟩:jc)]) kr) (by omega) fun Z6 Z7=>aa 3 fun _=>ah (oo ((cz b.Ak).add ((((fr:Int)+(k:Int)).toNat)*4)) k_ x4 (tN (⟨oR,oS,p8,p_,rk,Cy,oT,oU,oV⟩:jc)) ((hL.gZ e5).ok) W3) [] (fun w h=>(hL.gZ e5).at_ _ (hp.2.2 _ h.ch)) ?_
   rintro _ _ ⟨rfl,rfl⟩
   refine aa 1 fun GX=>bQ az 3 C e hs (so (GX 0)) 1 1 [k9 x4 (tN (⟨oR,oS,p8,p_,rk,Cy,oT,oU,oV⟩:jc))] (fun w h=>h.eT 10 (GX 0) 3 (List.flatMap az.f [k9 x4 (tN (⟨oR,oS,p8,p_,rk,Cy,oT,oU,oV⟩:jc))]) kr) (by omega) fun OS TP=>aa 3 fun _=>Exists.elim (aw (xs:=hs++ [k9 x4 (tN (⟨oR,oS,p8,p_,rk,Cy,oT,oU,oV⟩:jc))]) (k:=k) qlh) fun ot Ni=>aO [(7,_),(8,_)] [1,1] ⟨br (hj:=fun _=>qlh) (fun vs=>OS) (fun vs=>(hs++ [k9 x4 (tN (⟨oR,oS,p8,p_,rk,Cy,oT,oU,oV⟩:jc))]).length) (fun vs=>(k:Int)) 1 (fun vs w h=>Kd.cd (K:=az) (xs:=hs++ [k9 x4 (tN (⟨oR,oS,p8,p_,rk,Cy,oT,oU,oV⟩:jc))]) (h.bg 3 OS TP (hs++ [k9 x4 (tN (⟨oR,oS,p8,p_,rk,Cy,oT,oU,oV⟩:jc))]) kr) qlh),cZ 3 (fun vs=>ad OS (k*1) 0) (fun vs=>iv ot) (fun vs w h=>bW (K:=az) (h.bg 3 OS TP (hs++ [k9 x4 (tN (⟨oR,oS,p8,p_,rk,Cy,oT,oU,oV⟩:jc))]) kr) Ni),trivial⟩ fun EO=>aa 3 fun _=>ao 76 ((k:Int)+1)<|aa 2 fun _=>?_
   have iF:=xU OD (lE (hL.gZ e5).ok (rg_of Ys))
   have hy9:=iF _ (aI Ni)
   exact aB _ (k+1,Z6,Z7,ks++ [(⟨oR,oS,p8,p_,rk,Cy,oT,oU,oV⟩:jc)],OS,TP,hs++ [k9 x4 (tN (⟨oR,oS,p8,p_,rk,Cy,oT,oU,oV⟩:jc))],if ot>cr then ot else cr) [7,11,2,3] kr ⟨by omega,by rw [bm,AN];rfl,by rw [bm,Yq];rfl,iF,by constructor<;>split<;>omega⟩ du
 ·refine aa 7 fun _=>bd 310 (ad (some af) (0*5) 0) (.pointer (some ((cz (some f.a)).add (0*4)))) xV<|ah (lC f.a (k_+1) b 2 hL.ok sK) [] (fun w h=>hL.at_ _ (hp.2.2 _ h.ch)) ?_
  rintro _ _ ⟨rfl,rfl⟩
  refine aa 2 fun _=>aG 83 ((bM b 2)=0) (fun C4=>?_) (fun C4=>?_)
  ·refine aa 3 fun _=>bd 3 (ad (some af) (0*5) 2) (iv f.h) xV<|aa 3 fun _=>cU (f.h=(-1)) (fun UD=>?_) (fun UD=>?_)
   ·refine aa 5 fun _=>bd 3 (ad (some af) (0*5) 4) (iv f.t) xV<|ae 11 [1] fun _=>a_ [0,1,2,3] ⟨B,d,ks,C,e,hs,f.t,kr,by omega,by omega,OD,rg_of hF.t_,kr⟩
   ·refine aa 8 fun _=>qk7
  ·refine aa 16 fun _=>qk7
def Lx (k_:Nat) (ih: ∀(gw:Nat) (ab:Addr) (b:fe) (av qw qh:Int) (R:World→Prop) (hL:vx R k_ ab b) (Nm:dD av) (Nn: -1≤qw∧qw≤1099511627776) (Np: -1≤qh∧qh≤1099511627776),hO Cp 211 #[pv gw,.agg #[.pointer (some ((cz (some ab)).add (0*4))),iv av,iv qw,iv qh]] (fun U w=>RF R U w) [ja R gw] (fun v Cs=> ∃(gt gr:Int) (z1 z2 z3 z4:Nat),∃Ka nk,∃(Kc:Nat),v=.agg #[iv gt,iv gr,.complex .f64 z1 z2,.complex .f64 z3 z4,sl Ka nk Kc]∧jb ⟨gt,gr,z1,z2,z3,z4,Ka,nk,Kc⟩∧Cs= [ja R gw])) (gw:Nat) (af:Addr) (f:Gv) (R:World→Prop) (b:fe) (hL:vx R (k_+1) f.a b) (hF:AM f.w f.h f.i f.t) (ZD:b.kids.length≤64):hO Cp 269 #[pv gw,.pointer (some ((cz (some af)).add (0*5)))] (fun U w=>Cn.gx (some af) [f] U w∧RF R U w) [ja R gw] (fun v Cs=> ∃A2 n2,∃(c2:Nat) (z:Int),v=.tuple #[sl A2 n2 c2,iv z]∧dD z∧Cs= [ja R gw]):=by
 refine kz [.k (ja R gw)] Tryz.func269 fun U w0 hp=>aa 6 fun _=>aO [(2,_),(6,_),(7,_)] [] ⟨fJ (fun vs=>(UW k_ ih gw af f R b hL hF sK).g9) [0] (fun vs=>sl (ak (vs 2)) (eI (vs 2)) (an (vs 2))) [fun vs=>.k (g9 ((fun v Cs=> ∃A2 c2 bo,v=sl A2 bo.length c2∧bo.length=b.kids.length∧(∀y∈bo,lS y)∧Cs= [ja R gw,np.row A2 c2 bo]) (vs 2)))] (fun vs w F h=>⟨hp.1.ew h,hp.2.ew h⟩) qu8,OE,aY (fun vs=>lC f.a (k_+1) b 14 hL.ok sK) [] (fun vs=>iv (bM b 14)) [] qkx ko,trivial⟩ fun v11=>?_
 refine bn (φ:=(fun v Cs=> ∃A2 c2 bo,v=sl A2 bo.length c2∧bo.length=b.kids.length∧(∀y∈bo,lS y)∧Cs= [ja R gw,np.row A2 c2 bo]) (v11 2)) 1 ?_
 rintro _ (⟨A6,c7,vL,Uh,f9,f10,rfl⟩)
 ·refine aC 19 (sl A6 vL.length c7) (sl (ak (v11 2)) (eI (v11 2)) (an (v11 2))) qiq<|aC 6 (sl A6 vL.length c7) (sl (ak (v11 2)) (eI (v11 2)) (an (v11 2))) qiq ?_
  have ou:=f9
  have mh:=f10
  refine aa 11 fun _=>bd 3 (ad (some af) (0*5) 2) (iv f.h) xV<|aa 2 fun _=>dj (σ:=OA×Nat×List Int×OA×Nat×List Int) (fun (B,d,ss,C,e,tt)=> [(0,pv gw),(1,.pointer (some ((cz (some af)).add (0*5)))),(4,sl none 0 0),(5,iv 0),(8,sl B ss.length d),(9,sl C tt.length e)]) (fun (B,d,ss,C,e,tt)=> [.k (ja R gw),.k (np.row A6 c7 vL),.k (az.row B d ss),.k (az.row C e tt)]) (fun (B,d,ss,C,e,tt)=>ss.length=b.kids.length∧tt.length=ss.length∧(∀y∈ss,dD y)∧ ∀y∈tt,dD y) ?_ ?_
  ·rintro ⟨B,d,ss,C,e,tt⟩ ⟨WG,S_,Dn,htr⟩
   refine aa 8 fun _=>bG rK<|aR (σ:=Nat×OA×Nat×List jc) (fun (k,F,f_,ks)=> [(0,pv gw),(1,.pointer (some ((cz (some af)).add (0*5)))),(4,sl F ks.length f_),(5,iv 0),(8,sl B ss.length d),(9,sl C tt.length e),(54,sl B ss.length d),(55,iv (ss.length:Int)),(56,iv k)]) (fun (k,F,f_,ks)=> [.k (ja R gw),.k (az.row B d ss),.k (az.row C e tt),.k (rK.row F f_ ks)]) (fun (k,F,f_,ks)=>k≤ss.length∧ks.length=k) (fun (k,F,f_,ks)=>ss.length-k) (0,none,0,[]) [0,2,3,4] ⟨bh _,rfl⟩ ?_
   rintro _ ⟨k,F,f_,ks⟩ ⟨hk,AN⟩ dG
   refine aa 5 fun _=>aq ((k:Int)<(ss.length:Int)) (fun ki=>?_) (fun ki=>?_)
   ·refine aa 6 fun _=>aV B ss.length (k:Int) 1 (fun w h=>Kd.cd (K:=az) (xs:=ss) (h.bg 1 B d ss kr) (by omega))<|Exists.elim (aw (xs:=ss) (k:=k) (by omega)) fun iV vm=>bd 3 (ad B (k*1) 0) (iv iV) (fun w h=>bW (K:=az) (h.bg 1 B d ss kr) vm)<|aa 8 fun _=>bd 310 (ad (some af) (0*5) 0) (.pointer (some ((cz (some f.a)).add (0*4)))) xV<|aa 2 fun _=>bd 208 (ad (some f.a) (0*4) 3) (sl b.Ak b.kids.length b.ck) Tx<|aa 1 fun _=>aV b.Ak b.kids.length (k:Int) 4 qgb<|aa 3 fun _=>?_
    refine Exists.elim (aw (xs:=b.kids) (k:=k) (by omega)) fun jD yw=>aO [(5,_),(8,_),(9,_),(11,_)] [5] ⟨Ty,aY (fun vs=>lC ((cz b.Ak).add (k*4)) k_ jD 12 ((hL.gZ yw).ok) Ub) [] (fun vs=>iv (bM jD 12)) [] qow ko,aY (fun vs=>kJ iV (bM jD 12) (Dn _ (aI vm)) Ub) [] (fun vs=>iv (ia iV (bM jD 12))) [] nE ko,fJ (fun vs=>(ih gw ((cz b.Ak).add (k*4)) jD f.i (-1) (ia iV (bM jD 12)) R (hL.gZ yw) Ub Ub Ub).g9) [0] (fun vs=>.agg #[gi (vs 11) 0,gi (vs 11) 1,.complex .f64 (dK (ag (vs 11) 2)) (dL (ag (vs 11) 2)),.complex .f64 (dK (ag (vs 11) 3)) (dL (ag (vs 11) 3)),gs (vs 11) 4]) [fun vs=>.k (g9 ((fun v Cs=> ∃(gt gr:Int) (z1 z2 z3 z4:Nat),∃Ka nk,∃(Kc:Nat),v=.agg #[iv gt,iv gr,.complex .f64 z1 z2,.complex .f64 z3 z4,sl Ka nk Kc]∧jb ⟨gt,gr,z1,z2,z3,z4,Ka,nk,Kc⟩∧Cs= [ja R gw]) (vs 11)))] qm7 qv1,trivial⟩ fun tf=>?_
    refine bn (φ:=(fun v Cs=> ∃(gt gr:Int) (z1 z2 z3 z4:Nat),∃Ka nk,∃(Kc:Nat),v=.agg #[iv gt,iv gr,.complex .f64 z1 z2,.complex .f64 z3 z4,sl Ka nk Kc]∧jb ⟨gt,gr,z1,z2,z3,z4,Ka,nk,Kc⟩∧Cs= [ja R gw]) (tf 11)) 4 ?_
    rintro _ (⟨vV,vW,UX,UY,NJ,NK,vX,vY,wa,Y2,f37,rfl⟩)
    ·refine aC 81 (.agg #[iv vV,iv vW,.complex .f64 UX UY,.complex .f64 NJ NK,sl vX vY wa]) (.agg #[gi (tf 11) 0,gi (tf 11) 1,.complex .f64 (dK (ag (tf 11) 2)) (dL (ag (tf 11) 2)),.complex .f64 (dK (ag (tf 11) 3)) (dL (ag (tf 11) 3)),gs (tf 11) 4]) qq2<|aD 6 (bJ (a5 (tf 12)) 86 [gi (tf 11) 0,gi (tf 11) 1,.complex .f64 (dK (ag (tf 11) 2)) (dL (ag (tf 11) 2)),.complex .f64 (dK (ag (tf 11) 3)) (dL (ag (tf 11) 3)),gs (tf 11) 4]) (bJ (a5 (tf 12)) 86 [iv vV,iv vW,.complex .f64 UX UY,.complex .f64 NJ NK,sl vX vY wa]) kr qq2<|dB 8 (a5 (tf 12)) 86 [iv vV,iv vW,.complex .f64 UX UY,.complex .f64 NJ NK,sl vX vY wa] ?_
     have Ys:=f37.h0
     have Yt:=f37.w0
     refine ae 3 [8] fun _=>ah (xW (⟨vV,vW,UX,UY,NJ,NK,vX,vY,wa⟩:jc) f37) [] cJ ?_
     rintro _ _ ⟨rfl,rfl⟩
     refine aa 7 fun _=>aO [(2,_),(6,_),(10,_),(11,_),(12,_)] [10] ⟨aY (fun vs=>oo ((cz b.Ak).add (k*4)) k_ jD (Ly (⟨vV,vW,UX,UY,NJ,NK,vX,vY,wa⟩:jc)) ((hL.gZ yw).ok) (rg_of Yt)) [] (fun vs=>iv (k9 jD (Ly (⟨vV,vW,UX,UY,NJ,NK,vX,vY,wa⟩:jc)))) [] qow ko,Ty,OE,aY (fun vs=>lC f.a (k_+1) b 16 hL.ok Ub) [] (fun vs=>iv (bM b 16)) [] qkx ko,aY (fun vs=>(BK (k9 jD (Ly (⟨vV,vW,UX,UY,NJ,NK,vX,vY,wa⟩:jc))) f.i (bM b 16) (lE (hL.gZ yw).ok (rg_of Yt)) Ub).g9) [] (fun vs=>bZ.V ⟨(dH (ag (vs 12) 0)),(dH (ag (vs 12) 1))⟩) [fun vs=>.k (g9 ((fun v Cs=> ∃(x y:Int),v=bZ.V ⟨x,y⟩∧(dD x∧dD y)∧Cs= []) (vs 12)))] nE (fun vs u C h=>qj9),trivial⟩ fun Sk=>?_
     refine bn (φ:=(fun v Cs=> ∃(x y:Int),v=bZ.V ⟨x,y⟩∧(dD x∧dD y)∧Cs= []) (Sk 12)) 9 ?_
     rintro _ (⟨Sl,y44,Y3,f45,rfl⟩)
     ·refine aC 99 (bZ.V ⟨Sl,y44⟩) (bZ.V ⟨dH (ag (Sk 12) 0),dH (ag (Sk 12) 1)⟩) qq1<|aD 11 (bJ (a5 (Sk 13)) 403 [gi (Sk 12) 0,gi (Sk 12) 1]) (bJ (a5 (Sk 13)) 403 [iv Sl,iv y44]) kr qq1<|dB 12 (a5 (Sk 13)) 403 [iv Sl,iv y44]<|aa 1 fun _=>Exists.elim (aw (xs:=tt) (k:=k) (by omega)) fun Xk e49=>aO [(6,_),(7,_),(8,_)] [12,8] ⟨br (fun vs=>C) (fun vs=>tt.length) (fun vs=>(k:Int)) 1 (fun vs w h=>Kd.cd (K:=az) (xs:=tt) (h.bg 2 C e tt kr) (by omega)),cZ 3 (fun vs=>ad C (k*1) 0) (fun vs=>iv Xk) (fun vs w h=>bW (K:=az) (h.bg 2 C e tt kr) e49),aY (fun vs=>J0 af f ((cz b.Ak).add (k*4)) k_ jD Sl Xk (k_+1) b hL.ok ((hL.gZ yw).ok) f45.1 (htr _ (aI e49))) [] (fun vs=>.complex .f64 (floatOfInt .f64 (bu (bM b 13) [Sl,bM jD 12])) (floatOfInt .f64 (bu (bM b 13) [Xk,bM jD 12]))) [] (fun vs w h=>⟨(hp.1.aE h.ch).rc,(hL.gZ yw).at_ _ (hp.2 _ h.ch),hL.at_ _ (hp.2 _ h.ch)⟩) ko,trivial⟩ fun v50=>ae 4 [13] fun Ku=>bQ rK 3 F f_ ks (so (Ku 3)) 1 1 [(⟨vV,vW,floatOfInt .f64 (bu (bM b 13) [Sl,bM jD 12]),floatOfInt .f64 (bu (bM b 13) [Xk,bM jD 12]),NJ,NK,vX,vY,wa⟩:jc)] (fun w h=>h.eT 14 (Ku 3) 86 (List.flatMap rK.f [(⟨vV,vW,floatOfInt .f64 (bu (bM b 13) [Sl,bM jD 12]),floatOfInt .f64 (bu (bM b 13) [Xk,bM jD 12]),NJ,NK,vX,vY,wa⟩:jc)]) kr) (by omega) fun A52 c53=>aa 5 fun _=>ao 114 ((k:Int)+1)<|aa 2 fun _=>?_
      exact dG _ (k+1,A52,c53,ks++ [(⟨vV,vW,floatOfInt .f64 (bu (bM b 13) [Sl,bM jD 12]),floatOfInt .f64 (bu (bM b 13) [Xk,bM jD 12]),NJ,NK,vX,vY,wa⟩:jc)]) [7,1,2,3] kr ⟨by omega,by rw [bm,AN];rfl⟩ du
   ·refine aa 6 fun _=>ah (Js C e tt B d ss htr Dn (⟨S_,by omega⟩)) [] (fun w h=>⟨h.bg 2 C e tt kr,h.bg 1 B d ss kr⟩) ?_
    rintro _ _ ⟨z54,rfl,f55,rfl⟩
    refine aa 3 fun _=>a_ [0] ⟨F,ks.length,f_,z54,kr,f55.1,kr⟩
  ·intro _ jB
   refine cU (f.h=(-1)) (fun h56=>?_) (fun h56=>?_)
   ·refine aa 7 fun _=>bd 3 (ad (some af) (0*5) 4) (iv f.t) xV<|ah (ER A6 c7 vL (bM b 14) f.t mh (by omega) qhh (rg_of hF.t_)) [] qr1 ?_
    rintro _ _ ⟨A57,c58,Lz,rfl,f60,f61,rfl⟩
    have asv:=f60
    have Z8:=f61
    refine aa 2 fun _=>aO [(5,_),(9,_),(10,_),(11,_)] [] ⟨cZ 3 (fun vs=>ad (some af) (0*5) 4) (fun vs=>iv f.t) qba,OE,aY (fun vs=>lC f.a (k_+1) b 15 hL.ok sK) [] (fun vs=>iv (bM b 15)) [] qkx ko,aY (fun vs=>(su A57 c58 Lz (bM b 14) f.t (bM b 15) Z8 sK sK (by omega)).g9) [] (fun vs=>sl (ak (vs 11)) (eI (vs 11)) (an (vs 11))) [fun vs=>.k (g9 ((fun v Cs=> ∃A2 c2,∃(z:List Int),v=sl A2 z.length c2∧z.length=Lz.length∧(∀y∈z,dD y)∧Cs= [az.row A2 c2 z]) (vs 11)))] (fun vs w h=>h.bg 4 A57 c58 Lz kr) qu8,trivial⟩ fun oB=>?_
    refine bn (φ:=(fun v Cs=> ∃A2 c2,∃(z:List Int),v=sl A2 z.length c2∧z.length=Lz.length∧(∀y∈z,dD y)∧Cs= [az.row A2 c2 z]) (oB 11)) 5 ?_
    rintro _ (⟨A67,c68,z69,Y4,f70,f71,rfl⟩)
    ·refine aC 9 (sl A67 z69.length c68) (sl (ak (oB 11)) (eI (oB 11)) (an (oB 11))) qq0<|aC 48 (sl A67 z69.length c68) (sl (ak (oB 11)) (eI (oB 11)) (an (oB 11))) qq0<|jB _ (A57,c58,Lz,A67,c68,z69) [2,3,4,6] kr ⟨by omega,f70,Z8,f71⟩
   ·refine aa 3 fun _=>ah (ya A6 c7 vL (by omega)) [] qr1 ?_
    rintro _ _ ⟨A74,c75,rfl,rfl⟩
    refine aa 5 fun _=>ah (CY A74 c75 (vL.map iX) (bM b 14) (fun y hy=>Yu) sK OO) [] (fun w h=>h.bg 4 A74 c75 (vL.map iX) kr) ?_
    rintro _ _ ⟨A76,c77,rfl,rfl⟩
    refine aa 2 fun _=>jB _ (A74,c75,vL.map iX,A76,c77,fP [(bM b 14)] 0 (vL.map iX)) [2,3,4,5] kr ⟨by rw [cM];omega,jo _ _ _,fun y hy=>Yu,lF _ Ri⟩

/- For the law of worlds: The layout; What lies in memory. -/
import Derived.Test.YtfookmefmjhonaaGreatZ36
set_option linter.all false
namespace Go.Proofs.YtfookmefmjhonaaGreat.My
open Go.RowKit Go.bE
def mH:Nat→List Int→Bool
 |p,[]=>decide ((p:Int)=19)
 |p,x::l=>decide (fB (p:Int) x)&&mH (p+1) l
def zR: ∀ {l:List Int} {p:Nat},mH p l=true→(p+l.length=19)∧ ∀(q:Nat) (x:Int),l[q]? =some x→fB ((p+q:Nat):Int) x
 | [],p,h=>by
  have h:=cg h
  exact ⟨by simp;omega,by simp⟩
 |x::l,p,h=>by
  have h:=Bool.and_eq_true_iff.1 h
  obtain ⟨h1,h2⟩:=zR h.2
  refine ⟨by simp only [dM];omega,fun q y hq=>?_⟩
  cases q with
  |zero=>simp only [gQ,a9] at hq;subst hq;exact cg h.1
  |succ q=>have:=h2 q y (by simpa using hq);rw [show p+(q+1)=p+1+q by omega];exact this
def IZ {l:List Int} (h:mH 0 l=true):I0 l:=by
 obtain ⟨h1,h2⟩:=zR h
 exact ⟨by omega,fun p x hp=>by have:=h2 p x hp;rw [Nat.zero_add] at this;exact this⟩
def tv {l:List Int} {k:Nat} {x:Int} (hx:l[k]? =some x):mH k (l.drop k)=(decide (fB (k:Int) x)&&mH (k+1) (l.drop (k+1))):=by
 obtain ⟨h,rfl⟩:=aN.1 hx
 rw [fI h]
 rfl
def M' (n:Nat) (b:fe) (w:World):Prop:=xx w n b
def M'.aE {n:Nat} {b:fe} {w w':World} (h:M' n b w) (hc:Ch No w w'):M' n b w':=xx.aE h hc
def mb (g:Nat) (b:fe) (w:World):Prop:=w.heap[g]? =some (.cells (k7.f b).toArray 210 (0,0))∧M' 13 b w
def mb.at_ {g:Nat} {b:fe} {w:World} (h:mb g b w):jF ⟨g,0,none⟩ 13 b w:=⟨by
 unfold Kd.Rd
 simp only [iE,List.flatMap_nil,fj]
 exact fun j v hj=>⟨_,rfl,pH.news (show (pH g 210 (k7.f b)).P w from h.1) j v hj⟩,h.2⟩
def XF {g:Nat} {b:fe} (ho:ix 13 b) (hx: ∃w,mb g b w):vx (mb g b) 13 ⟨g,0,none⟩ b:=⟨ho,fun w h=>h.at_,⟨g,0,rfl,fun w h=>⟨_,_,h.1,by show (4:Nat)≠0;decide⟩⟩,hx⟩
def _root_.Go.bE.SH.root {U:Nat→Prop} {w0 w:World} {H:List HB} (h:SH U w0 w H) (i g:Nat) (b:fe) (hb:M' 13 b w) (hi:(dR H.length [i],pk H [i])=(true,[bJ g 210 (k7.f b)])):mb g b w:=by
 simp only [bI] at hi
 have h3:=SH.fS hi.1 h
 rw [hi.2] at h3
 exact ⟨SS.N4 (i:=0) h3 rfl,hb⟩
def mb.ew {F:Nat→Prop} {H:List HB} {w0 w:World} {b:fe} (hb:M' 13 b w0) (h:SF No w0 w F (H.map HB.gf)) (q g:Nat) (e:(dR H.length [q],pk H [q])=(true,[bJ g 210 (k7.f b)])):RF (mb g b) F w:=fun w' hc=>by
 simp only [bI] at e
 obtain ⟨G,⟨h1,h2⟩,h3⟩:=h.get (SH.gf e.1 e.2)
 have h4:w.heap[g]? =some (.cells (k7.f b).toArray 210 (0,0)):=h2
 have h5:=hc.block g (Array.getElem?_eq_some_iff.1 h4).1 (h3 g ((h1 g).2 rfl))
 exact ⟨h5.trans h4,hb.aE (h.ch.trans hc fun x hx hF=>(h.sub x hF).resolve_left (fun z=>z)|>fun z=>by omega)⟩
def N5 (XG:OA) (cvs:Nat) (vs:List Int):Ct Cp 242 #[.agg #[sl XG vs.length cvs]] (fun w=>az.Rd XG vs w) [] (fun v Cs=>v=.bool (mH 0 vs)∧Cs= []):=by
 refine cc Tryz.func242 fun w0 hp=>aa 5 fun a8=>ed 0 (σ:=Nat) (fun k=> [(1,pv (a8 2)),(2,.bool false),(3,iv k)]) (fun k=> [.b (a8 2) 207 [sl XG vs.length cvs]]) (fun k=>k≤vs.length∧mH 0 vs=mH k (vs.drop k)) (fun k=>vs.length-k) ?_ ?_
 ·intro _ cG
  refine aa 6 fun _=>cG _ 0 [0] kr ⟨bh _,rfl⟩
 ·rintro _ k ⟨hk,hw⟩ dm
  refine ae 9 [0] fun _=>aq ((k:Int)=(vs.length:Int)) (fun h2=>?_) (fun h2=>?_)
  ·refine aa 6 fun _=>a_ [] ⟨kt (.bool (decide ((k:Int)=19))) (by rw [hw,List.drop_of_length_le (by omega)];rfl),kr⟩
  ·refine ae 8 [0] fun _=>aV XG vs.length (k:Int) 1 (fun w h=>Kd.cd (K:=az) (xs:=vs) (hp.aE h.ch) (by omega)) ?_
   obtain ⟨x3,e4⟩:=aw (xs:=vs) (k:=k) (by omega)
   refine bd 3 (ad XG (k*1) 0) (iv x3) Wl<|ah (xy (k:Int) x3) [] cJ ?_
   rintro _ _ ⟨rfl,rfl⟩
   refine aa 1 fun _=>aq (fB (k:Int) x3) (fun h5=>?_) (fun h5=>?_)
   ·refine aa 4 fun _=>ao (e:=by have:=h5.2.1;omega) 19 ((k:Int)+1)<|aa 2 fun _=>dm _ (k+1) [0] kr ⟨by omega,by rw [hw,tv e4,decide_eq_true h5];rfl⟩ (by omega)
   ·refine aa 5 fun _=>a_ [] ⟨kt (.bool false) (by rw [hw,tv e4,decide_eq_false h5];rfl),kr⟩
def I1 (k_:Nat) (ih: ∀(ab:Addr) (b:fe) (sA wq:Int) (I2:sA=(k_:Nat)) (I3:k_≤13) (XH:0≤wq∧wq≤1000),Ct Cp 210 #[.pointer (some ((cz (some ab)).add (0*4))),iv sA,iv wq] (fun w=>jF ab k_ b w) [] (fun v Cs=> ∃(y_:Int),v=iv y_∧(0≤y_→1≤y_∧y_≤wq∧ix k_ b)∧Cs= [])) (ab:Addr) (b:fe) (sA wq:Int) (I2:sA=((k_+1):Nat)) (I3:(k_+1)≤13) (XH:0≤wq∧wq≤1000):Ct Cp 210 #[.pointer (some ((cz (some ab)).add (0*4))),iv sA,iv wq] (fun w=>jF ab (k_+1) b w) [] (fun v Cs=> ∃(y_:Int),v=iv y_∧(0≤y_→1≤y_∧y_≤wq∧ix (k_+1) b)∧Cs= []):=by
 refine cc Tryz.func210 fun w0 hp=>aa 14 fun _=>aG 12 (sA=0) (fun h1=>?_) (fun h1=>?_)
 ·refine aa 17 fun _=>qgg
 ·refine aa 4 fun _=>aG 16 (wq<1) (fun h2=>?_) (fun h2=>?_)
  ·refine aa 13 fun _=>qgg
  ·refine aa 3 fun _=>bd 207 (ad (some ab) (0*4) 2) (.agg #[sl b.Av b.vs.length b.cv]) (fun w h=>iy (K:=k7) (o:=2) (m:=1) (sub:= [sl b.Av b.vs.length b.cv]) (hp.at.aE h.ch) rfl)<|ah (N5 b.Av b.cv b.vs) [] (fun w h=>hp.vs.aE h.ch) ?_
   rintro _ _ ⟨rfl,rfl⟩
   refine aa 3 fun _=>eQ (!(mH 0 b.vs)) (fun h3=>?_) (fun h3=>?_)
   ·refine aa 4 fun _=>qgg
   ·have adf:=IZ (by simpa using h3)
    refine aa 7 fun _=>bd 208 (ad (some ab) (0*4) 3) (sl b.Ak b.kids.length b.ck) qjh<|aa 4 fun _=>aR (σ:=Nat×Int) (fun (k,z)=> [(0,.pointer (some ((cz (some ab)).add (0*4)))),(1,iv sA),(2,iv wq),(6,iv 0),(7,iv z),(28,iv (b.kids.length:Int)),(29,iv k)]) qsv (fun (k,z)=>k≤b.kids.length∧1+(k:Int)≤z∧z≤wq∧ ∀x∈b.kids.take k,ix k_ x) (fun (k,z)=>b.kids.length-k) (0,1) [] ⟨bh _,by omega,by omega,by simp⟩ ?_
    rintro _ ⟨k,z⟩ ⟨hk,I4,wu,gS⟩ aB
    refine aa 5 fun _=>aq ((k:Int)<(b.kids.length:Int)) (fun h4=>?_) (fun h4=>?_)
    ·refine aa 13 fun _=>bd 208 (ad (some ab) (0*4) 3) (sl b.Ak b.kids.length b.ck) qjh<|aa 1 fun _=>aV b.Ak b.kids.length (k:Int) 4 (fun w h=>Kd.cd (K:=k7) (xs:=b.kids) (hp.kids.aE h.ch) (by omega))<|aa 2 fun _=>ao 39 (sA-1)<|aa 3 fun _=>ao 42 (wq-z) ?_
     obtain ⟨x5,e6⟩:=aw (xs:=b.kids) (k:=k) (by omega)
     refine ah (ih ((cz b.Ak).add (k*4)) x5 (sA-1) (wq-z) (by omega) (by omega) (by omega)) [] (fun w h=>(hp.aE h.ch).gZ e6) ?_
     rintro _ _ ⟨y_7,rfl,f8,rfl⟩
     refine aa 8 fun _=>aq (y_7<0) (fun h9=>?_) (fun h9=>?_)
     ·refine aa 4 fun _=>qgg
     ·refine aa 5 fun _=>ao (e:=by first|omega|(have:=f8 (by omega);omega)) 48 (z+y_7)<|aa 5 fun _=>ao (e:=by first|omega|(have:=f8 (by omega);omega)) 49 ((k:Int)+1)<|aa 2 fun _=>aB _ (k+1,z+y_7) [] kr ⟨by omega,by have:=f8 (by omega);omega,by have:=f8 (by omega);omega,gG gS e6 (f8 (by omega)).2.2⟩ du
    ·refine aa 6 fun _=>a_ [] ⟨z,kr,fun _=>⟨by omega,wu,adf,by omega,fun x hx=>gS x (by rw [cA (by omega)];exact hx)⟩,kr⟩
def N6: ∀(k_:Nat) (ab:Addr) (b:fe) (sA wq:Int) (I2:sA=(k_:Nat)) (I3:k_≤13) (XH:0≤wq∧wq≤1000),Ct Cp 210 #[.pointer (some ((cz (some ab)).add (0*4))),iv sA,iv wq] (fun w=>jF ab k_ b w) [] (fun v Cs=> ∃(y_:Int),v=iv y_∧(0≤y_→1≤y_∧y_≤wq∧ix k_ b)∧Cs= []):=by
 intro k_
 induction k_ with
 |zero=>intro ab b rm wq h1 h2 h3 U w hp;cases hp.rd
 |succ k_ ih=>exact I1 k_ ih
def S2 (b:fe):Ct Cp 162 #[.agg (fe.cells b).toArray] (fun w=>M' 13 b w) [] (fun v Cs=> ∃(y_:Int),v=iv y_∧(0≤y_→ix 13 b)∧Cs= []):=by
 refine cc Tryz.func162 fun w0 hp=>aa 7 fun a8=>ah (N6 13 (⟨(a8 2),0,none⟩) b 13 1000 rfl (by decide) (by decide)) [] (fun w h=>(h.root 0 (a8 2) b (hp.aE h.ch) kr).at_) ?_
 rintro _ _ ⟨y_2,rfl,f3,rfl⟩
 refine aa 2 fun _=>a_ [] ⟨y_2,kr,fun h=>(f3 h).2.2,kr⟩
def XI (b:fe) (x:Int) (gS:ix 13 b) (hw:dD x):Ct Cp 163 #[.agg (fe.cells b).toArray,iv x] (fun w=>M' 13 b w) [] (fun v Cs=> ∃(gt gr:Int) (z1 z2 z3 z4:Nat),∃Ka nk,∃(Kc:Nat),v=.agg #[iv gt,iv gr,.complex .f64 z1 z2,.complex .f64 z3 z4,sl Ka nk Kc]∧Cs= []):=by
 refine cc Tryz.func163 fun w0 hp=>aa 7 fun a8=>adk (mb (a8 2) b) kr fun m2=>aa 9 fun nB=>aJ (fun Cs=> ∃m,Cs= [bJ (nB 1) 314 [.map (some m)],mapA m (mb (a8 2) b)]) [3,2] [bJ (nB 1) 314 [.map (some m2)],mapA m2 (mb (a8 2) b)] (⟨m2,rfl⟩)<|dN (φ:= ∃w_,mb (a8 2) b w_) (fun w h=>⟨w,h.root 0 (a8 2) b (hp.aE h.ch) kr⟩) fun hex=>bD (XJ 13 (nB 1) (⟨(a8 2),0,none⟩) b x (-1) (-1) (mb (a8 2) b) (XF gS hex) hw (by decide) (by decide)) [4] (fun w F h=>(mb.ew hp h 0 (a8 2) kr)) ?_
 rintro _ _ ⟨gt4,gr5,z6,z7,z8,z9,S3,S4,S5,rfl,f13,rfl⟩
 refine ae 2 [1] fun _=>bk [1] [] ⟨gt4,gr5,z6,z7,z8,z9,S3,S4,S5,kr,kr⟩
def S6 (b:fe) (x:Int):Ct Cp 113 #[.agg (fe.cells b).toArray,iv x] (fun w=>M' 13 b w) [] (fun v Cs=> ∃(gt gr:Int) (z1 z2 z3 z4:Nat),∃Ka nk,∃(Kc:Nat) (e:Int),v=.tuple #[.agg #[iv gt,iv gr,.complex .f64 z1 z2,.complex .f64 z3 z4,sl Ka nk Kc],iv e]∧Cs= []):=by
 refine cc Tryz.func113 fun w0 hp=>ae 10 [0] fun a8=>ah (S2 b) [] il ?_
 rintro _ _ ⟨y_2,rfl,f3,rfl⟩
 refine aa 2 fun _=>aG 9 (y_2<0) (fun h4=>?_) (fun h4=>?_)
 ·refine ae 12 [1] fun _=>qob
 ·refine aa 1 fun _=>ah (wv x) [] cJ ?_
  rintro _ _ ⟨rfl,rfl⟩
  refine aa 3 fun _=>cU (0≤x∧x≤1099511627776) (fun h5=>?_) (fun h5=>?_)
  ·refine ae 6 [1] fun _=>qob
  ·refine ae 5 [0] fun _=>ah (XI b x (f3 (by omega)) Ri) [] il ?_
   rintro _ _ ⟨gt6,gr7,z8,z9,z10,z11,ado,adp,adq,rfl,rfl⟩
   refine ae 3 [1] fun _=>bk [1] [] ⟨gt6,gr7,z8,z9,z10,z11,ado,adp,adq,0,kr,kr⟩
def vc {p:Rg→Prop} {r:Rg} (hr:p r): ∀ {l:List Rg},(∀x∈l,p x)→ ∀x∈cO r l,p x
 | [],_,x,h=>by simp [cO] at h;rw [h];exact hr
 |m::l,hl,x,h=>by
  have hm:=hl m cE
  have h2: ∀z∈l,p z:=fun z hz=>hl z (bH _ hz)
  unfold cO at h
  split at h
  ·rcases dx.1 h with rfl|h
   ·exact hm
   ·exact vc hr h2 x h
  ·split at h
   ·split at h
    ·rcases dx.1 h with rfl|h
     ·exact hr
     ·exact h2 x h
    ·exact hl x h
   ·rcases dx.1 h with rfl|h
    ·exact hr
    ·exact hl x h
abbrev LJ (r:Rg):Prop:=0≤r.prop∧r.prop<19
def Cc: ∀(ops:List bz) {l:List iZ},(∀o∈ops,bV o)→(∀k∈l,∀r∈k.bX,LJ r)→ ∀k∈ops.foldl eC l,∀r∈k.bX,LJ r
 | [],_,_,h=>h
 |o::ops,l,hm,h=>by
  rw [List.foldl_cons]
  refine Cc ops (fun q hq=>hm q (bH _ hq)) fun k hk=>?_
  unfold eC at hk
  split at hk
  ·exact h k hk
  ·rename_i rz
   have hr:LJ (⟨o.prop,o.val,o.st⟩:Rg):=by
    rcases (hm o cE).2.2.2.2.2.2 with h1|h1
    ·exact (rz h1.1).elim
    ·exact ⟨h1.2.1.1,h1.2.1.2.1⟩
   rcases qa hk with ⟨_,h2|⟨k2,sE,h2⟩⟩|hk
   ·rw [h2];exact vc hr (by simp)
   ·rw [h2];exact vc hr (h k2 sE)
   ·exact h k hk
def V1 {ops:List bz} (hm: ∀o∈ops,bV o): ∀k∈fY ops,∀r∈k.bX,LJ r:=Cc ops hm (by simp)
structure Ve (An Am:OA) (l:List bz) (Al:OA) (ls:List iZ) (w:World):Prop where
 tr:sL An Am l w
 lk:E1 Al ls w
def Ve.aE {An Am Al:OA} {l:List bz} {ls:List iZ} {w w':World} (h:Ve An Am l Al ls w) (hc:Ch No w w'):Ve An Am l Al ls w':=⟨h.tr.aE hc,h.lk.aE hc⟩
def RF.of0 {R:World→Prop} {F:Nat→Prop} {rest:List aM} {w0 w:World} (hk: ∀w',Ch No w0 w'→R w') (h:SF No w0 w F rest):RF R F w:=fun w' hc=>hk w' (h.ch.trans hc fun x hx hF=>(h.sub x hF).resolve_left (fun z=>z)|>fun z=>by omega)
def gR (k:Nat):List Int:=(List.range k).map fun p=>plain ((p:Nat):Int)
def Cd (k:Nat):gR (k+1)=gR k++ [plain (k:Int)]:=by unfold gR;rw [List.range_succ,cT];rfl
def vd (xs:List bj) (A:OA) (rs:List Rg):Prop:=rs= []∨ ∃x∈xs,A=x.A∧rs=x.bX
def vd.rd {xs:List bj} {Al A:OA} {rs:List Rg} {w:World} (h:vd xs A rs) (hl:oX Al xs w):eH.Rd A rs w:=by
 rcases h with rfl|⟨x,hx,rfl,rfl⟩
 ·exact fun j v hj=>by simp at hj
 ·exact (hl.2.2 x hx).2
def vd.pr {xs:List bj} {ls:List iZ} {A:OA} {rs:List Rg} (h:vd xs A rs) (hx:xs.map bj.d=ls) (hp: ∀k∈ls,∀r∈k.bX,LJ r): ∀r∈rs,LJ r:=by
 exact qj3
def vd.len {xs:List bj} {ls:List iZ} {A:OA} {rs:List Rg} (h:vd xs A rs) (hx:xs.map bj.d=ls) (hp: ∀k∈ls,k.bX.length≤100000):rs.length≤100000:=by
 exact qj3
structure HL where
 t:Int
 r:Int
 A:OA
 n:Nat
 c:Nat
 B:OA
 k:Nat
 d:Nat
def LK:Kd HL:=⟨210,4,fun x=> [iv x.t,iv x.r,sl x.A x.n x.c,sl x.B x.k x.d],fun _=>rfl,fun _=>rfl,by decide⟩
def bw (b:fe):HL:=⟨b.id.t,b.id.r,b.Av,b.vs.length,b.cv,b.Ak,b.kids.length,b.ck⟩
def M9 (l:List fe):(l.map bw).flatMap LK.f=l.flatMap k7.f:=by
 induction l with
 |nil=>rfl
 |cons b l ih=>simp only [fm,iE,ih];rfl
def Vf {m:Nat} {y:cN} {vs:List Int} {Av Ak:OA} {cv ck:Nat} {kids:List fe}:mA (fun w=>xx w (m+1) ⟨y,vs,Av,cv,kids,Ak,ck⟩) [az.row Av cv vs,LK.row Ak ck (kids.map bw),LL m kids]:=fun U w0 w hS=>by
 have h1:az.Rd Av vs w:=SS.get hS (i:=0) rfl fun F hF=>Row.rc hF.2
 have h2:(Row 210 4 (sl Ak (kids.map bw).length ck) (kids.map bw).length ((kids.map bw).flatMap LK.f)).P w:=hS.tP (i:=1) rfl
 rw [cM,M9] at h2
 have h3: ∀k∈kids,xx w m k:=SS.gr hS.tail.tail
 exact .mk h1 (Row.rc h2) h3 fun hk=>Ia (K:=k7) h2 hk
def PX {m:Nat} {y:cN} {vs:List Int} {Av:OA} {cv ck:Nat}:mA (fun w=>xx w (m+1) ⟨y,vs,Av,cv,[],none,ck⟩) [az.row Av cv vs]:=fun U w0 w hS=>.mk (SS.get hS (i:=0) rfl fun F hF=>Row.rc hF.2) (Rc.nil _ _) (fun k hk=>by simp at hk) fun hk=>(hk rfl).elim
def Fu:Ct Cp 165 #[] (fun _=>True) [] (fun v Cs=> ∃A2 c2,v=.agg #[sl A2 ((gR 19).length) c2]∧Cs= [az.row A2 c2 (gR 19)]):=by
 refine cc Tryz.func165 fun w0 hp=>aa 10 fun a8=>bG az<|aR (σ:=Nat×OA×Nat×List Int) (fun (k,B,d,sv)=> [(0,pv (a8 2)),(2,iv k)]) (fun (k,B,d,sv)=> [.b (a8 2) 207 [sl B sv.length d],.k (az.row B d sv)]) (fun (k,B,d,sv)=>k≤19∧sv=gR k) (fun (k,B,d,sv)=>19-k) (0,none,0,[]) [0,1] ⟨bh _,rfl⟩ ?_
 rintro _ ⟨k,B,d,sv⟩ ⟨hk,hl⟩ aB
 refine aa 5 fun _=>aq ((k:Int)<19) (fun h2=>?_) (fun h2=>?_)
 ·refine aa 8 fun _=>aO [(3,_),(6,_)] [0,0] ⟨aY (fun vs=>xJ (k:Int) (by omega)) [] (fun vs=>.agg #[iv (low (k:Int)),iv (high (k:Int)),iv (plain (k:Int)),.bool (Ti (k:Int))]) [] nE ko,ib (hb:=fun _=>by rw [hl,gR,cM,List.length_range];omega) az 1 (fun vs=>B) (fun vs=>d) (fun vs=>sv) (fun vs=>some ⟨(a5 (vs 5)),0,none⟩) (fun vs=>1) (fun vs=>1) (fun vs=> [plain (k:Int)]) (fun vs w h=>h.eT 1 (a5 (vs 5)) 3 (List.flatMap az.f [plain (k:Int)]) kr),trivial⟩ fun v3=>aa 3 fun _=>ao 13 ((k:Int)+1)<|aa 2 fun _=>aB _ (k+1,ak (v3 6),an (v3 6),sv++ [plain (k:Int)]) [4,3] kr ⟨by omega,by rw [hl,Cd]⟩ du
 ·refine ae 6 [0,0] fun _=>aS az 1 B d sv (gR 19) kr (by rw [hl,show k=19 from by omega])<|bk [0] [2] ⟨B,d,kt (.agg #[sl B sv.length d]) (by rw [hl,show k=19 from by omega]),kr⟩
def Q7 (m9:OA) (oH:Nat) (sv:List Int) (Ci:sv.length=19):Ct Cp 249 #[.agg #[sl m9 sv.length oH]] (fun w=>az.Rd m9 sv w) [] (fun v Cs=> ∃A2 c2,∃(v2:List Int),v=.agg #[sl A2 v2.length c2]∧v2.length=19∧Cs= [az.row A2 c2 v2]):=by
 refine cc Tryz.func249 fun w0 hp=>aa 7 fun a8=>ah Fu [] cJ ?_
 rintro _ _ ⟨A2,c3,rfl,rfl⟩
 have Ie:(gR 19).length=19:=rfl
 refine ae 11 [1,1] fun _=>aR (σ:=Nat×List Int) (fun (k,v2)=> [(1,pv (a8 2)),(2,pv (a8 3)),(7,iv ((gR 19).length:Int)),(8,iv k)]) (fun (k,v2)=> [.b (a8 2) 207 [sl m9 sv.length oH],.b (a8 3) 207 [sl A2 ((gR 19).length) c3],.k (az.row A2 c3 v2)]) (fun (k,v2)=>k≤19∧v2.length=19) (fun (k,v2)=>19-k) (0,gR 19) [0,1,2] ⟨bh _,Ie⟩ ?_
 rintro _ ⟨k,v2⟩ ⟨hk,zY⟩ aB
 refine aa 5 fun _=>aq ((k:Int)<((gR 19).length:Int)) (fun h4=>?_) (fun h4=>?_)
 ·refine aa 11 fun _=>ah (xJ (k:Int) (by omega)) [] cJ ?_
  rintro _ _ ⟨rfl,rfl⟩
  refine aa 2 fun _=>eQ (Ti (k:Int)) (fun h5=>?_) (fun h5=>?_)
  ·obtain ⟨x6,e7⟩:=aw (xs:=sv) (k:=k) (by omega)
   obtain ⟨x8,e9⟩:=aw (xs:=v2) (k:=k) (by omega)
   refine aO [(6,_),(7,_),(8,_),(9,_)] [1,0] ⟨br (fun vs=>m9) (fun vs=>sv.length) (fun vs=>(k:Int)) 1 (fun vs w h=>Kd.cd (K:=az) (xs:=sv) (hp.aE h.ch) (by omega)),cZ 3 (fun vs=>ad m9 (k*1) 0) (fun vs=>iv x6) (fun vs w h=>bW (K:=az) (hp.aE h.ch) e7),br (fun vs=>A2) (fun vs=>(gR 19).length) (fun vs=>(k:Int)) 1 (fun vs w h=>Kd.cd (K:=az) (xs:=v2) (h.bg 2 A2 c3 v2 kr) (by omega)),cR az 2 (fun vs=>A2) (fun vs=>c3) (fun vs=>v2) k 0 (fun vs=>x8) (fun vs=>x6) 3 (fun vs=>iv x6) (fun _=>e9),trivial⟩ fun v10=>aa 3 fun _=>ao 23 ((k:Int)+1)<|aa 2 fun _=>aB _ (k+1,v2.set k x6) [0,1,3] kr ⟨by omega,by rw [cX];exact zY⟩ du
  ·refine aa 4 fun _=>ao 23 ((k:Int)+1)<|aa 2 fun _=>aB _ (k+1,v2) [0,1,2] kr ⟨by omega,zY⟩ du
 ·refine ae 6 [1,1] fun _=>bk [1] [2] ⟨A2,c3,v2,kt (.agg #[sl A2 ((gR 19).length) c3]) (by rw [zY,Ie]),zY,kr⟩
def Wg (An:OA) (nn cn:Nat) (Am:OA) (nm cm:Nat) (Al:OA) (nl cl:Nat) (y:cN) (xs:List bj) (ls:List iZ) (J8:nl=xs.length) (rB:xs.map bj.d=ls) (wY:iY ls) (s4:ls.length≤100000):Ct Cp 250 #[.agg #[sl An nn cn,sl Am nm cm,sl Al nl cl],bZ.V y] (fun w=>oX Al xs w) [] (fun v Cs=> ∃A2 c2 rs,v=sl A2 rs.length c2∧vd xs A2 rs∧Cs= []):=by
 refine cc Tryz.func250 fun w0 hp=>?_
 have zI:xs.length=ls.length:=by rw [← rB,cM]
 refine aC 0 (.agg #[sl An nn cn,sl Am nm cm,sl Al xs.length cl]) (.agg #[sl An nn cn,sl Am nm cm,sl Al nl cl]) (by rw [J8])<|ae 11 [0,1] fun a8=>ah (Bd Al cl xs y (zt rB wY _) (by omega)) [] Tr ?_
 rintro _ _ ⟨rfl,rfl⟩
 refine aa 12 fun _=>cU (zz (fun z_:bj=>bl z_.id y) xs (db (fun z_:bj=>bl z_.id y) xs)) (fun h2=>?_) (fun h2=>?_)
 ·refine aa 4 fun _=>a_ [] ⟨none,0,[],kr,.inl rfl,kr⟩
 ·obtain ⟨m,hm⟩:=MX IC
  have ou:db (fun z_:bj=>bl z_.id y) xs<xs.length:=(aN.1 hm.1).1
  refine ae 6 [0] fun _=>aV Al xs.length (db (fun z_:bj=>bl z_.id y) xs:Int) 3 qlt<|aa 1 fun _=>bd 150 (((cz Al).add ((db (fun z_:bj=>bl z_.id y) xs)*3)).add 2) (sl m.A m.bX.length m.c) (fun w h=>bW (K:=eS) (hp.2.1.aE h.ch) hm.1)<|aa 2 fun _=>a_ [] ⟨m.A,m.c,m.bX,kr,.inr ⟨m,aI hm.1,rfl,rfl⟩,kr⟩
def PZ (An:OA) (cn:Nat) (Am:OA) (cm:Nat) (Al:OA) (cl:Nat) (y:cN) (m9:OA) (oH:Nat) (sv:List Int) (l:List bz) (ls:List iZ) (wY:iY ls) (s4:ls.length≤100000) (Ss: ∀k∈ls,k.bX.length≤100000) (IN: ∀k∈ls,∀r∈k.bX,LJ r) (Ci:sv.length=19):Ct Cp 212 #[.agg #[sl An ((ai l []).length) cn,sl Am l.length cm,sl Al ls.length cl],bZ.V y,.agg #[sl m9 sv.length oH]] (fun w=>sL An Am l w∧E1 Al ls w∧az.Rd m9 sv w) [] (fun v Cs=> ∃A2 c2,∃(v2:List Int),v=.agg #[sl A2 v2.length c2]∧v2.length=19∧Cs= [az.row A2 c2 v2]):=by
 refine cc Tryz.func212 fun w0 hp=>?_
 have ah2:=hp.2.1
 obtain ⟨xs,rB,Db⟩:=ah2
 have zI:xs.length=ls.length:=by rw [← rB,cM]
 have hxp: ∀k∈ls,k.bX.length≤100000:=Ss
 refine ae 10 [2] fun a8=>ah (Q7 m9 oH sv Ci) [] Yn ?_
 rintro _ _ ⟨A2,c3,v4,rfl,f5,rfl⟩
 have hv2:=f5
 refine ae 8 [5,0,1] fun pW=>ah (Wg An ((ai l []).length) cn Am l.length cm Al ls.length cl y xs ls zI.symm rB wY s4) [] (fun w h=>Db.aE h.ch) ?_
 rintro _ _ ⟨A7,c8,SV,rfl,f10,rfl⟩
 have hrp:=f10.pr rB IN
 have T0:=f10.len rB hxp
 refine aa 4 fun _=>aR (σ:=Nat×List Int) (fun (k,v3)=> [(6,pv (a8 5)),(7,pv (pW 0)),(14,sl A7 SV.length c8),(15,iv (SV.length:Int)),(16,iv k)]) (fun (k,v3)=> [.b (a8 2) 52 [sl An ((ai l []).length) cn,sl Am l.length cm,sl Al ls.length cl],.b (a8 3) 29 [iv y.t,iv y.r],.b (a8 4) 207 [sl m9 sv.length oH],.b (a8 5) 207 [sl none 0 0],.b (pW 0) 207 [sl A2 v4.length c3],.k (az.row A2 c3 v3)]) (fun (k,v3)=>k≤SV.length∧v3.length=19) (fun (k,v3)=>SV.length-k) (0,v4) [0,1,2,3,5,4] ⟨bh _,hv2⟩ ?_
 rintro _ ⟨k,v3⟩ ⟨hk,hv3⟩ aB
 refine aa 5 fun _=>aq ((k:Int)<(SV.length:Int)) (fun kx=>?_) (fun kx=>?_)
 ·refine aa 5 fun _=>aV A7 SV.length (k:Int) 4 (fun w h=>Kd.cd (K:=eH) (xs:=SV) (f10.rd (Db.aE h.ch)) (by omega)) ?_
  obtain ⟨kE,vr⟩:=aw (xs:=SV) (k:=k) (by omega)
  refine bd 178 (ad A7 (k*4) 0) (eH.V kE) (fun w h=>bN (K:=eH) (f10.rd (Db.aE h.ch)) vr)<|ae 10 [6,4,6,6] fun yc=>aV (hj:=by have:=hrp _ (aI vr);omega) A2 v4.length kE.prop 1 (fun w h=>Kd.cd (K:=az) (xs:=v3) (h.bg 5 A2 c3 v3 kr) (by omega)) ?_
  obtain ⟨l_,CA⟩:=aw (xs:=v3) (k:=kE.prop.toNat) (by have:=hrp _ (aI vr);omega)
  refine gH az 5 A2 c3 v3 kE.prop.toNat 0 l_ kE.val 3 (iv kE.val) CA<|aa 4 fun _=>ao 27 ((k:Int)+1)<|aa 2 fun _=>aB _ (k+1,v3.set kE.prop.toNat kE.val) [0,1,2,3,4,5] kr ⟨by omega,by rw [cX];exact hv3⟩ du
 ·refine ae 6 [4,3] fun _=>bk [3] [5] ⟨A2,c3,v3,kt (.agg #[sl A2 v4.length c3]) (by rw [hv3,hv2]),hv3,kr⟩
def Vd (k_:Nat) (ih: ∀(An:OA) (cn:Nat) (Am:OA) (cm:Nat) (Al:OA) (cl:Nat) (y:cN) (m9:OA) (oH:Nat) (sv:List Int) (sA:Int) (l:List bz) (ls:List iZ) (hb:(ai l []).length≤1000000) (wY:iY ls) (s4:ls.length≤100000) (Ss: ∀k∈ls,k.bX.length≤100000) (IN: ∀k∈ls,∀r∈k.bX,LJ r) (Ci:sv.length=19) (I2:sA=(k_:Nat)) (hm1:1≤k_) (I3:k_≤13),hO Cp 164 #[.agg #[sl An ((ai l []).length) cn,sl Am l.length cm,sl Al ls.length cl],bZ.V y,.agg #[sl m9 sv.length oH],iv sA] (fun U w=>RF (Ve An Am l Al ls) U w) [az.row m9 oH sv] (fun v Cs=> ∃(b:fe),v=.agg (fe.cells b).toArray∧Cs= [NN k_ b])) (An:OA) (cn:Nat) (Am:OA) (cm:Nat) (Al:OA) (cl:Nat) (y:cN) (m9:OA) (oH:Nat) (sv:List Int) (sA:Int) (l:List bz) (ls:List iZ) (hb:(ai l []).length≤1000000) (wY:iY ls) (s4:ls.length≤100000) (Ss: ∀k∈ls,k.bX.length≤100000) (IN: ∀k∈ls,∀r∈k.bX,LJ r) (Ci:sv.length=19) (I2:sA=((k_+1):Nat)) (hm1:1≤(k_+1)) (I3:(k_+1)≤13):hO Cp 164 #[.agg #[sl An ((ai l []).length) cn,sl Am l.length cm,sl Al ls.length cl],bZ.V y,.agg #[sl m9 sv.length oH],iv sA] (fun U w=>RF (Ve An Am l Al ls) U w) [az.row m9 oH sv] (fun v Cs=> ∃(b:fe),v=.agg (fe.cells b).toArray∧Cs= [NN (k_+1) b]):=by
 refine kz [.k (az.row m9 oH sv)] Tryz.func164 fun U w0 hp=>ae 21 [2,3,5] fun a8=>aq (sA=1) (fun h2=>?_) (fun h2=>?_)
 ·refine ae 5 [5,4] fun _=>aJ (mA (fun w=>xx w (k_+1) (⟨y,sv,m9,oH,[],none,0⟩:fe))) [0] [az.row m9 oH sv] PX<|bk [4] [6] ⟨(⟨y,sv,m9,oH,[],none,0⟩:fe),kr,kr⟩
 ·refine ae 7 [1,2] fun _=>ah (uO An cn Am cm y l hb) [] (fun w h=>(hp _ h.ch).tr) ?_
  rintro _ _ ⟨A3,c4,oP,rfl,f6,rfl⟩
  have Bg:=(qU f6).2
  refine aa 4 fun _=>bG LK<|aS LK 7 none 0 [] (([]:List fe).map bw) kr rfl<|aJ (mA (fun w=> ∀k∈([]:List fe),xx w k_ k)) [] [] (PY _)<|aR (σ:=Nat×OA×Nat×List fe) (fun (q,B,d,kids)=> [(3,iv sA),(4,pv (a8 2)),(6,pv (a8 4)),(8,pv (a8 5)),(9,pv (a8 12)),(22,sl A3 oP.length c4),(23,iv (oP.length:Int)),(24,iv q)]) (fun (q,B,d,kids)=> [.k (aP.row A3 c4 oP),.k (az.row m9 oH sv),.b (a8 2) 52 [sl An ((ai l []).length) cn,sl Am l.length cm,sl Al ls.length cl],.b (a8 3) 29 [iv y.t,iv y.r],.b (a8 4) 207 [sl m9 sv.length oH],.b (a8 5) 210 [iv 0,iv 0,sl none 0 0,sl none 0 0],.b (a8 12) 210 [iv y.t,iv y.r,sl m9 sv.length oH,sl B ((kids.map bw).length) d],.k (LK.row B d (kids.map bw)),.k (LL k_ kids)]) (fun (q,B,d,kids)=>q≤oP.length∧kids.length≤q) (fun (q,B,d,kids)=>oP.length-q) (0,none,0,[]) [6,0,1,2,3,4,5,8,9] ⟨bh _,bO _⟩ ?_
  rintro _ ⟨q,B,d,kids⟩ ⟨hq,hkq⟩ aB
  refine aa 5 fun _=>aq ((q:Int)<(oP.length:Int)) (fun h7=>?_) (fun h7=>?_)
  ·refine aa 5 fun _=>aV A3 oP.length (q:Int) 5 qg2 ?_
   obtain ⟨x8,e9⟩:=aw (xs:=oP) (k:=q) (by omega)
   refine bd 184 (ad A3 (q*5) 0) (aP.V x8) (fun w h=>bN (K:=aP) (h.bg 0 A3 c4 oP kr) e9)<|ae 9 [9,2,9,4] fun yd=>ah (PZ An cn Am cm Al cl x8.id m9 oH sv l ls wY s4 Ss IN Ci) [] (fun w h=>⟨(hp _ h.ch).tr,(hp _ h.ch).lk,h.bg 1 m9 oH sv kr⟩) ?_
   rintro _ _ ⟨rI,xR,mj,rfl,f14,rfl⟩
   have asK:0<mj.length:=by omega
   refine ae 7 [11,11] fun Bc=>aV rI mj.length 0 1 (fun w h=>Kd.cd (K:=az) (xs:=mj) (h.bg 10 rI xR mj kr) (by omega)) ?_
   obtain ⟨jD,yw⟩:=aw (xs:=mj) (k:=0) (by omega)
   refine bd 3 (ad rI (0*1) 0) (iv jD) (fun w h=>bW (K:=az) (h.bg 10 rI xR mj kr) yw)<|aa 2 fun _=>cU (jD=2) (fun vI=>?_) (fun vI=>?_)
   ·refine aO [(7,_),(8,_),(10,_)] [6,2,9,11,6] ⟨fc (fun vs=>sA-1),fJ (fun vs=>(ih An cn Am cm Al cl x8.id rI xR mj (sA-1) l ls hb wY s4 Ss IN f14 (by omega) (by omega) (by omega)).g9) [10] (fun vs=>.agg #[gi (vs 8) 0,gi (vs 8) 1,gs (vs 8) 2,gs (vs 8) 3]) [fun vs=>.k (g9 ((fun v Cs=> ∃(b:fe),v=.agg (fe.cells b).toArray∧Cs= [NN k_ b]) (vs 8)))] qki (fun vs u C h=>qke),ib (hb:=fun _=>OO) LK 7 (fun vs=>B) (fun vs=>d) (fun vs=>kids.map bw) (fun vs=>some ⟨(a5 (vs 9)),0,none⟩) (fun vs=>1) (fun vs=>1) (fun vs=> [(⟨(dH (ag (vs 8) 0)),(dH (ag (vs 8) 1)),(ak (ag (vs 8) 2)),(eI (ag (vs 8) 2)),(an (ag (vs 8) 2)),(ak (ag (vs 8) 3)),(eI (ag (vs 8) 3)),(an (ag (vs 8) 3))⟩:HL)]) (fun vs w h=>h.eT 11 (a5 (vs 9)) 210 (List.flatMap LK.f [(⟨(dH (ag (vs 8) 0)),(dH (ag (vs 8) 1)),(ak (ag (vs 8) 2)),(eI (ag (vs 8) 2)),(an (ag (vs 8) 2)),(ak (ag (vs 8) 3)),(eI (ag (vs 8) 3)),(an (ag (vs 8) 3))⟩:HL)]) kr),trivial⟩ fun gW=>?_
    refine bn (φ:=(fun v Cs=> ∃(b:fe),v=.agg (fe.cells b).toArray∧Cs= [NN k_ b]) (gW 8)) 12 ?_
    rintro _ (⟨jz,Y6,rfl⟩)
    ·refine aC 46 (.agg (fe.cells jz).toArray) (.agg #[gi (gW 8) 0,gi (gW 8) 1,gs (gW 8) 2,gs (gW 8) 3]) qnf<|aD 13 (bJ (a5 (gW 9)) 210 [gi (gW 8) 0,gi (gW 8) 1,gs (gW 8) 2,gs (gW 8) 3]) (bJ (a5 (gW 9)) 210 (fe.cells jz)) kr qnf<|dB 17 (a5 (gW 9)) 210 (fe.cells jz)<|aD 15 (bJ (a8 12) 210 [iv y.t,iv y.r,sl m9 sv.length oH,sl (ak (gW 10)) ((kids.map bw++ [(⟨(dH (ag (gW 8) 0)),(dH (ag (gW 8) 1)),(ak (ag (gW 8) 2)),(eI (ag (gW 8) 2)),(an (ag (gW 8) 2)),(ak (ag (gW 8) 3)),(eI (ag (gW 8) 3)),(an (ag (gW 8) 3))⟩:HL)]).length) (an (gW 10))]) (bJ (a8 12) 210 [iv y.t,iv y.r,sl m9 sv.length oH,sl (ak (gW 10)) ((kids.map bw++ [(⟨jz.id.t,jz.id.r,jz.Av,jz.vs.length,jz.cv,jz.Ak,jz.kids.length,jz.ck⟩:HL)]).length) (an (gW 10))]) kr qi7<|dB 18 (a8 12) 210 [iv y.t,iv y.r,sl m9 sv.length oH,sl (ak (gW 10)) ((kids.map bw++ [(⟨jz.id.t,jz.id.r,jz.Av,jz.vs.length,jz.cv,jz.Ak,jz.kids.length,jz.ck⟩:HL)]).length) (an (gW 10))]<|aS LK 14 (ak (gW 10)) (an (gW 10)) (kids.map bw++ [(⟨(dH (ag (gW 8) 0)),(dH (ag (gW 8) 1)),(ak (ag (gW 8) 2)),(eI (ag (gW 8) 2)),(an (ag (gW 8) 2)),(ak (ag (gW 8) 3)),(eI (ag (gW 8) 3)),(an (ag (gW 8) 3))⟩:HL)]) (kids.map bw++ [(⟨jz.id.t,jz.id.r,jz.Av,jz.vs.length,jz.cv,jz.Ak,jz.kids.length,jz.ck⟩:HL)]) kr (qnf)<|aC 48 (sl (ak (gW 10)) ((kids.map bw++ [(⟨jz.id.t,jz.id.r,jz.Av,jz.vs.length,jz.cv,jz.Ak,jz.kids.length,jz.ck⟩:HL)]).length) (an (gW 10))) (sl (ak (gW 10)) ((kids.map bw++ [(⟨(dH (ag (gW 8) 0)),(dH (ag (gW 8) 1)),(ak (ag (gW 8) 2)),(eI (ag (gW 8) 2)),(an (ag (gW 8) 2)),(ak (ag (gW 8) 3)),(eI (ag (gW 8) 3)),(an (ag (gW 8) 3))⟩:HL)]).length) (an (gW 10))) qi7<|aS LK 19 (ak (gW 10)) (an (gW 10)) (kids.map bw++ [(⟨jz.id.t,jz.id.r,jz.Av,jz.vs.length,jz.cv,jz.Ak,jz.kids.length,jz.ck⟩:HL)]) ((kids++ [jz]).map bw) kr Y7<|aD 18 (bJ (a8 12) 210 [iv y.t,iv y.r,sl m9 sv.length oH,sl (ak (gW 10)) ((kids.map bw++ [(⟨jz.id.t,jz.id.r,jz.Av,jz.vs.length,jz.cv,jz.Ak,jz.kids.length,jz.ck⟩:HL)]).length) (an (gW 10))]) (bJ (a8 12) 210 [iv y.t,iv y.r,sl m9 sv.length oH,sl (ak (gW 10)) (((kids++ [jz]).map bw).length) (an (gW 10))]) kr (by simp only [bm,cM,dM,fA])<|dB 21 (a8 12) 210 [iv y.t,iv y.r,sl m9 sv.length oH,sl (ak (gW 10)) (((kids++ [jz]).map bw).length) (an (gW 10))]<|aJ (mA (fun w=> ∀k∈kids++ [jz],xx w k_ k)) [8,16] [LL k_ kids,NN k_ jz] LM ?_
     refine aa 3 fun _=>ao 50 ((q:Int)+1)<|aa 2 fun _=>aB _ (q+1,ak (gW 10),an (gW 10),kids++ [jz]) [0,1,2,3,4,5,21,20,22] kr ⟨by omega,by simp only [bm,dM,fA];omega⟩ du
   ·refine aa 4 fun _=>ao 50 ((q:Int)+1)<|aa 2 fun _=>aB _ (q+1,B,d,kids) [0,1,2,3,4,5,6,7,8] kr ⟨by omega,by omega⟩ du
  ·refine ae 6 [6,5] fun _=>aJ (mA (fun w=>xx w (k_+1) (⟨y,sv,m9,oH,kids,B,d⟩:fe))) [1,7,8] [az.row m9 oH sv,LK.row B d (kids.map bw),LL k_ kids] Vf<|bk [5] [9] ⟨(⟨y,sv,m9,oH,kids,B,d⟩:fe),kt (.agg #[iv y.t,iv y.r,sl m9 sv.length oH,sl B ((kids.map bw).length) d]) (by rw [cM]),kr⟩
def _y: ∀(k_:Nat) (An:OA) (cn:Nat) (Am:OA) (cm:Nat) (Al:OA) (cl:Nat) (y:cN) (m9:OA) (oH:Nat) (sv:List Int) (sA:Int) (l:List bz) (ls:List iZ) (hb:(ai l []).length≤1000000) (wY:iY ls) (s4:ls.length≤100000) (Ss: ∀k∈ls,k.bX.length≤100000) (IN: ∀k∈ls,∀r∈k.bX,LJ r) (Ci:sv.length=19) (I2:sA=(k_:Nat)) (hm1:1≤k_) (I3:k_≤13),hO Cp 164 #[.agg #[sl An ((ai l []).length) cn,sl Am l.length cm,sl Al ls.length cl],bZ.V y,.agg #[sl m9 sv.length oH],iv sA] (fun U w=>RF (Ve An Am l Al ls) U w) [az.row m9 oH sv] (fun v Cs=> ∃(b:fe),v=.agg (fe.cells b).toArray∧Cs= [NN k_ b]):=by
 intro k_
 induction k_ with
 |zero=>intros;omega
 |succ k_ ih=>exact Vd k_ ih
def _z (An:OA) (cn:Nat) (Am:OA) (cm:Nat) (Al:OA) (cl:Nat) (l:List bz) (ls:List iZ) (hb:(ai l []).length≤1000000) (wY:iY ls) (s4:ls.length≤100000) (Ss: ∀k∈ls,k.bX.length≤100000) (IN: ∀k∈ls,∀r∈k.bX,LJ r):Ct Cp 114 #[.agg #[sl An ((ai l []).length) cn,sl Am l.length cm,sl Al ls.length cl]] (fun w=>sL An Am l w∧E1 Al ls w) [] (fun v Cs=> ∃(b:fe),v=.agg (fe.cells b).toArray∧Cs= [NN 13 b]):=by
 refine cc Tryz.func114 fun w0 hp=>aa 6 fun a8=>aO [(1,_),(2,_),(3,_)] [0,1] ⟨aY (fun vs=>Rv) [] (fun vs=>bZ.V ⟨0,0⟩) [] nE ko,aY (fun vs=>Fu) [] (fun vs=>.agg #[sl (ak (ag (vs 2) 0)) ((gR 19).length) (an (ag (vs 2) 0))]) [fun vs=>.k (az.row (ak (ag (vs 2) 0)) (an (ag (vs 2) 0)) (gR 19))] nE kA,fJ (fun vs=>(_y 13 An cn Am cm Al cl (⟨0,0⟩:cN) (ak (ag (vs 2) 0)) (an (ag (vs 2) 0)) (gR 19) 13 l ls hb wY s4 Ss IN rfl rfl (by decide) (by decide)).g9) [2] (fun vs=>.agg #[gi (vs 3) 0,gi (vs 3) 1,gs (vs 3) 2,gs (vs 3) 3]) [fun vs=>.k (g9 ((fun v Cs=> ∃(b:fe),v=.agg (fe.cells b).toArray∧Cs= [NN 13 b]) (vs 3)))] (fun vs w F h=>(RF.of0 (R:=Ve An Am l Al ls) (fun w hc=>⟨hp.1.aE hc,hp.2.aE hc⟩) h)) (fun vs u C h=>qke),trivial⟩ fun v7=>?_
 refine bn (φ:=(fun v Cs=> ∃(b:fe),v=.agg (fe.cells b).toArray∧Cs= [NN 13 b]) (v7 3)) 3 ?_
 rintro _ (⟨b6,hv8,rfl⟩)
 ·refine aC 6 (.agg (fe.cells b6).toArray) (.agg #[gi (v7 3) 0,gi (v7 3) 1,gs (v7 3) 2,gs (v7 3) 3]) qrk<|aD 4 (bJ (a8 3) 210 [gi (v7 3) 0,gi (v7 3) 1,gs (v7 3) 2,gs (v7 3) 3]) (bJ (a8 3) 210 (fe.cells b6)) kr qrk<|dB 6 (a8 3) 210 (fe.cells b6)<|bk [6] [5] ⟨b6,kr,kr⟩
def Qz (v_:c_) (x:Int) (hf:gI v_.d):Ct Tryz.prog 78 #[.agg #[iv v_.d.rep,iv (bq v_.d.ops),.slice v_.a.Ah v_.d.hv.length v_.a.ch,.slice v_.a.Ao v_.d.ops.length v_.a.co,.slice v_.a.Ax v_.d.held.length v_.a.cx,.slice v_.a.An ((ai (dJ v_.d.ops) []).length) v_.a.cn,.slice v_.a.Am ((dJ v_.d.ops).length) v_.a.cm,.slice v_.a.Al ((fY v_.d.ops).length) v_.a.cl,iv v_.d.wait,iv v_.d.dT,iv v_.d.aW],iv x] (fun w=>AH v_ w) [] (fun v Cs=> ∃(e:Int),∃(Ha:OA),∃(nh:Nat),∃(Hc:Nat),∃(gt:Int),∃(gr:Int),∃(z1:Nat),∃(z2:Nat),∃(z3:Nat),∃(z4:Nat),∃(Ka:OA),∃(nk:Nat),∃(Kc:Nat),v=.agg #[iv e,iv 0,iv 0,.slice Ha nh Hc,iv gt,iv gr,.complex .f64 z1 z2,.complex .f64 z3 z4,.slice Ka nk Kc]∧Cs= []):=by
 refine cc Tryz.func78 fun w0 hp=>?_
 have hfv:=hf.hv
 refine aa 9 fun a8=>?_
 refine ah (wv x) [] (fun w h=>trivial) ?_
 rintro _ _ ⟨rfl,rfl⟩
 refine aa 2 fun _=>?_
 refine cU (0≤x∧x≤1099511627776) (fun h2=>?_) (fun h2=>?_)
 ·refine ae 5 [1] fun _=>?_
  exact bk [1] [] ⟨1,none,0,0,0,0,0,0,0,0,none,0,0,kr,kr⟩
 ·refine ae 5 [0] fun _=>?_
  refine ah (_z v_.a.An v_.a.cn v_.a.Am v_.a.cm v_.a.Al v_.a.cl (dJ v_.d.ops) (fY v_.d.ops) (by have:=mP (dJ v_.d.ops);have:=hf.ml;omega) ((k6 _).ls) (by have:=hf.ll;omega) (fun k hk=>(hf.rs k hk).2) (V1 hf.ops)) [] (fun w h=>⟨hp.tr.aE h.ch,hp.lk.aE h.ch⟩) ?_
  rintro _ _ ⟨b3,rfl,rfl⟩
  refine aa 1 fun _=>?_
  refine ah (S6 b3 x) [] (fun w h=>(show M' 13 b3 w from h.gr 2 kr)) ?_
  rintro _ _ ⟨gt4,gr5,z6,z7,z8,z9,S3,S4,S5,vr,rfl,rfl⟩
  refine ae 13 [3] fun yc=>?_
  refine cU (vr=0) (fun Io=>?_) (fun Io=>?_)
  ·refine ae 6 [1] fun _=>?_
   exact bk [1] [] ⟨vr,none,0,0,0,0,0,0,0,0,none,0,0,kr,kr⟩
  ·refine aa 2 fun _=>?_
   refine aO [(2,_)] [0,3,1] ⟨aY (fun vs=>qu v_.a.Ah v_.a.ch v_.d.hv (by omega)) [] (fun vs=>.slice (ak (vs 2)) v_.d.hv.length (an (vs 2))) [fun vs=>.k (az.row (ak (vs 2)) (an (vs 2)) v_.d.hv)] (fun vs w h=>hp.hv.aE h.ch) (fun vs u C h=>qvt),trivial⟩ fun v20=>?_
   exact bk [5] [] ⟨0,ak (v20 2),v_.d.hv.length,an (v20 2),gt4,gr5,z6,z7,z8,z9,S3,S4,S5,kr,kr⟩

/- For the law of worlds: The layout. -/
import Derived.Test.YtfookmefmjhonaaGreatZ31
set_option linter.all false
namespace Go.Proofs.YtfookmefmjhonaaGreat.My
open Go.RowKit Go.bE
structure jc where
 t:Int
 r:Int
 z1:Nat
 z2:Nat
 z3:Nat
 z4:Nat
 Ka:OA
 nk:Nat
 Kc:Nat
def rK:Kd jc:=⟨86,5,fun x=> [iv x.t,iv x.r,.complex .f64 x.z1 x.z2,.complex .f64 x.z3 x.z4,sl x.Ka x.nk x.Kc],fun _=>rfl,fun _=>rfl,by decide⟩
def Ly (x:jc):Int:=(floatToIntVal .f64 x.z3 .i64).getD 0
def tN (x:jc):Int:=(floatToIntVal .f64 x.z4 .i64).getD 0
structure jb (x:jc):Prop where
 w:floatToIntVal .f64 x.z3 .i64=some (Ly x)
 h:floatToIntVal .f64 x.z4 .i64=some (tN x)
 w0:0≤Ly x∧Ly x≤1099511627776
 h0:0≤tN x∧tN x≤1099511627776
def FP {m:Int} (h:0≤m∧m≤1099511627776):floatToIntVal .f64 (floatOfInt .f64 m) .i64=some m:=by
 have:=DG (m:=m.toNat) (by exact dY (m:=9007199254740992) (by omega) (by decide))
 rw [iR h.1] at this
 exact this
def jb.of {x:jc} {a b:Int} (h1:x.z3=floatOfInt .f64 a) (h2:x.z4=floatOfInt .f64 b) (ha:0≤a∧a≤1099511627776) (hb:0≤b∧b≤1099511627776):jb x:=by
 have e1:floatToIntVal .f64 x.z3 .i64=some a:=by rw [h1];exact FP ha
 have e2:floatToIntVal .f64 x.z4 .i64=some b:=by rw [h2];exact FP hb
 have g1:Ly x=a:=by unfold Ly;rw [e1];rfl
 have g2:tN x=b:=by unfold tN;rw [e2];rfl
 exact ⟨by rw [g1];exact e1,by rw [g2];exact e2,by rw [g1];exact ha,by rw [g2];exact hb⟩
def lE {b:fe} {n:Nat} (h:ix n b) {x:Int} (hx:dD x):dD (k9 b x):=dp hx _
def rf {b:fe} {n:Nat} (h:ix n b) {x:Int} (hx:0≤x):0≤k9 b x:=by
 have h1:=(h.rg (p:=12) (by omega)).2.2.1 (by decide) (by decide) (by decide) (by decide) (by decide)
 exact oq hx (jq (oq h1 (jq h1)))
def rg_of {x:Int} (h:0≤x∧x≤1099511627776):dD x:=⟨by omega,by omega⟩
def Ea {l:List Int} {j:Nat} {x:Int} (h:l[j]? =some x):(l.set j (x+1)).sum=l.sum+1:=by
 induction l generalizing j with
 |nil=>simp at h
 |cons y l ih=>
  cases j with
  |zero=>simp only [gQ,a9] at h;subst h;simp only [List.set_cons_zero,List.sum_cons];omega
  |succ j=>simp only [List.set_cons_succ,List.sum_cons,ih TF];omega
def M0 {l:List Int} (h: ∀y∈l,1≤y) {x:Int} (hx:x∈l):x≤l.sum∧(l.length:Int)≤l.sum:=by
 have hl: ∀ {m:List Int},(∀y∈m,1≤y)→(m.length:Int)≤m.sum:=by
  intro m
  induction m with
  |nil=>intro _;simp
  |cons y m ih=>intro h;have:=ih fun z hz=>h z (bH _ hz);have:=h y cE;simp only [dM,List.sum_cons];omega
 refine ⟨?_,hl h⟩
 induction l with
 |nil=>cases hx
 |cons y l ih=>
  have h1:=hl (m:=l) fun z hz=>h z (bH _ hz)
  have h2:=h y cE
  rcases dx.1 hx with rfl|hx
  ·simp only [List.sum_cons];omega
  ·have:=ih (fun z hz=>h z (bH _ hz)) hx;simp only [List.sum_cons];omega
structure mY (k:Nat) (m:List Int):Prop where
 sum:m.sum=k
 one: ∀y∈m,1≤y
 ne:0<k→0<m.length
def mY.len {k:Nat} {m:List Int} (h:mY k m):m.length≤k:=by
 rcases m with _|⟨y,m⟩
 ·simp
 ·have:=(M0 h.one (cE (a:=y) (l:=m))).2;have:=h.sum;omega
def mY.new {k:Nat} {m:List Int} (h:mY k m):mY (k+1) (m++ [1]):=⟨by rw [List.sum_append,h.sum];simp,fun y hy=>(eG.1 hy).elim (h.one y) fun e=>by rw [fv] at e;omega,fun _=>by simp⟩
def mY.up {k j:Nat} {m:List Int} {x:Int} (h:mY k m) (hx:m[j]? =some x):mY (k+1) (m.set j (x+1)):=by
 have hp:=h.one x (aI hx)
 refine ⟨by rw [Ea hx,h.sum];simp,fun y hy=>?_,fun _=>?_⟩
 ·rcases List.mem_or_eq_of_mem_set hy with h1|h1
  ·exact h.one y h1
  ·omega
 ·rw [cX];have:=(aN.1 hx).1;omega
def M1 (n:Nat) (r kd:Int) (hr:0≤r∧r≤1099511627776) (hn:n≤1000000):Ct Cp 321 #[iv n,iv r,iv kd] (fun _=>True) [] (fun v Cs=> ∃(x y:Int),v=.tuple #[iv x,iv y]∧((0≤x∧x≤1099511627776)∧0≤y∧y≤1099511627776)∧Cs= []):=by
 refine cc Tryz.func321 fun w0 hp=>aa 16 fun _=>aq (kd=1) (fun h1=>?_) (fun h1=>?_)
 ·refine aa 6 fun _=>a_ [] ⟨r,0,kr,by omega,kr⟩
 ·refine aa 5 fun _=>aq (kd=2) (fun h2=>?_) (fun h2=>?_)
  ·refine aa 4 fun _=>aC 15 (iv (r/2)) (iv (IntKind.i64.wrap (Int.tdiv r 2))) Rp<|aa 3 fun _=>a_ [] ⟨r/2,0,kr,by omega,kr⟩
  ·refine aa 5 fun _=>aq (kd=3) (fun h3=>?_) (fun h3=>?_)
   ·refine aa 5 fun _=>aq ((n:Int)>1) (fun h4=>?_) (fun h4=>?_)
    ·refine aa 1 fun _=>aK [(2,_),(3,iv (r/((n:Int)-1)))] [] ⟨fM ((n:Int)-1),NX .quo .i64 r ((n:Int)-1) (r/((n:Int)-1)) (by show ((n:Int)-1)≠0;omega) qwc,trivial⟩<|a_ [] ⟨0,r/((n:Int)-1),kr,by have:=rU (x:=r) (d:=((n:Int)-1)) (by omega) (by omega);omega,kr⟩
    ·exact qjl
   ·refine aa 5 fun _=>aq (kd=4) (fun h5=>?_) (fun h5=>?_)
    ·refine aa 5 fun _=>aq ((n:Int)>0) (fun h6=>?_) (fun h6=>?_)
     ·refine aa 1 fun _=>aK [(2,iv (r/(n:Int))),(3,iv ((r/(n:Int))/2)),(6,iv (r/(n:Int)))] [] ⟨qjb,dv (iv (IntKind.i64.wrap (Int.tdiv (r/(n:Int)) 2))) (iT (mM (by have:=rU (x:=r) (d:=(n:Int)) (by omega) (by omega);omega) (by decide))),qjb,trivial⟩<|a_ [] ⟨(r/(n:Int))/2,r/(n:Int),kr,by have:=rU (x:=r) (d:=(n:Int)) (by omega) (by omega);omega,kr⟩
     ·exact qjl
    ·exact qjl
def su (Al:OA) (cl:Nat) (l:List Int) (q rm kd:Int) (hr: ∀y∈l,dD y) (hq:dD q) (I2:dD rm) (hl:l.length≤1000000):Ct Cp 300 #[sl Al l.length cl,iv q,iv rm,iv kd] (fun w=>az.Rd Al l w) [] (fun v Cs=> ∃A2 c2,∃(z:List Int),v=sl A2 z.length c2∧z.length=l.length∧(∀y∈z,dD y)∧Cs= [az.row A2 c2 z]):=by
 refine cc Tryz.func300 fun w0 hp=>aa 9 fun _=>ah (Rq Al cl l q Sa Sa (by omega)) [] il ?_
 rintro _ _ ⟨z1,rfl,f2,rfl⟩
 refine ah (CX rm z1 Sa Sa) [] cJ ?_
 rintro _ _ ⟨rfl,rfl⟩
 refine aa 8 fun _=>ah (M1 l.length (o7 rm z1) kd Sa (by omega)) [] cJ ?_
 rintro _ _ ⟨x3,y4,rfl,f5,rfl⟩
 obtain ⟨IL,nA⟩:=f5
 refine aa 13 fun pW=>ah (Rr Al cl l x3 (so (pW 12)) 2 [q,y4] Sa Sa Sa (by omega) qkq) [] (fun w h=>⟨hp.aE h.ch,h.eT 0 (pW 12) 3 (List.flatMap az.f [q,y4]) kr⟩) ?_
 rintro _ _ ⟨A7,c8,rfl,rfl⟩
 refine aa 2 fun _=>a_ [1] ⟨A7,c8,fP [q,y4] x3 l,kr,jo _ _ _,lF _ (rg_of IL),kr⟩
def BK (sz rm kd:Int) (hs:dD sz) (hr:dD rm):Ct Cp 302 #[iv sz,iv rm,iv kd] (fun _=>True) [] (fun v Cs=> ∃(x y:Int),v=bZ.V ⟨x,y⟩∧(dD x∧dD y)∧Cs= []):=by
 refine cc Tryz.func302 fun w0 hp=>aa 8 fun a8=>ah (CX rm sz Ge Ge) [] cJ ?_
 rintro _ _ ⟨rfl,rfl⟩
 refine aa 13 fun _=>aq (kd=1) (fun h2=>?_) (fun h2=>?_)
 ·refine ae 6 [0] fun _=>bk [0] [] ⟨0,sz,kr,by constructor<;>simp only [dD]<;>omega,kr⟩
 ·refine aa 5 fun _=>aq (kd=2) (fun h3=>?_) (fun h3=>?_)
  ·refine ae 7 [0] fun _=>bk [0] [] ⟨o7 rm sz,sz,kr,by have:=gh rm sz;constructor<;>simp only [dD]<;>omega,kr⟩
  ·refine aa 5 fun _=>aq (kd=3) (fun h4=>?_) (fun h4=>?_)
   ·refine aa 4 fun _=>aC 24 (iv ((o7 rm sz)/2)) (iv (IntKind.i64.wrap (Int.tdiv (o7 rm sz) 2))) (iT (mM (by have:=gh rm sz;omega) (by decide)))<|ae 4 [0] fun _=>bk [0] [] ⟨(o7 rm sz)/2,sz,kr,by have:=gh rm sz;constructor<;>simp only [dD]<;>omega,kr⟩
   ·refine ae 8 [0] fun _=>bk [0] [] ⟨0,rm,kr,by constructor<;>simp only [dD]<;>omega,kr⟩
def yV (ab:Addr) (nb:Nat) (b:fe) (bs mn mx:Int) (gS:ix nb b) (jh:0≤bs∧bs≤1099511627776) (hmn:0≤mn∧mn≤1099511627776) (hmx:dD mx):Ct Cp 313 #[.pointer (some ((cz (some ab)).add (0*4))),iv bs,iv mn,iv mx] (fun w=>jF ab nb b w) [] (fun v Cs=> ∃(x:nK),v=.agg #[iv x.base,iv x.lo,iv x.hi,iv x.grow,iv x.shr]∧lS x∧Cs= []):=by
 refine cc Tryz.func313 fun w0 hp=>aa 8 fun a8=>ah (oo ab nb b bs gS Za) [] il ?_
 rintro _ _ ⟨rfl,rfl⟩
 refine aa 2 fun _=>ah (oo ab nb b mn gS Za) [] il ?_
 rintro _ _ ⟨rfl,rfl⟩
 refine aa 1 fun _=>ah (lC ab nb b 9 gS Za) [] il ?_
 rintro _ _ ⟨rfl,rfl⟩
 refine aa 1 fun _=>ah (lC ab nb b 10 gS Za) [] il ?_
 rintro _ _ ⟨rfl,rfl⟩
 refine ae 10 [1] fun ld=>cU (mx=(-1)) (fun h3=>?_) (fun h3=>?_)
 ·refine aa 3 fun _=>ah (oo ab nb b mx gS Za) [] il ?_
  rintro _ _ ⟨rfl,rfl⟩
  refine ae 8 [1,1,0] fun _=>bk [0] [] ⟨(⟨k9 b bs,k9 b mn,k9 b mx,bM b 9,bM b 10⟩:nK),kr,⟨⟨rf gS (by omega),(lE gS (rg_of jh)).2⟩,⟨rf gS (by omega),(lE gS (rg_of hmn)).2⟩,lE gS hmx,⟨(gS.rg (p:=9) (by omega)).2.2.1 (by decide) (by decide) (by decide) (by decide) (by decide),(gS.rg (p:=9) (by omega)).2.2.2 (.inl rfl)⟩,⟨(gS.rg (p:=10) (by omega)).2.2.1 (by decide) (by decide) (by decide) (by decide) (by decide),(gS.rg (p:=10) (by omega)).2.2.2 (.inr rfl)⟩⟩,kr⟩
 ·refine ae 6 [1,0] fun _=>bk [0] [] ⟨(⟨k9 b bs,k9 b mn,(-1),bM b 9,bM b 10⟩:nK),kr,⟨⟨rf gS (by omega),(lE gS (rg_of jh)).2⟩,⟨rf gS (by omega),(lE gS (rg_of hmn)).2⟩,by show dD (-1);constructor<;>omega,⟨(gS.rg (p:=9) (by omega)).2.2.1 (by decide) (by decide) (by decide) (by decide) (by decide),(gS.rg (p:=9) (by omega)).2.2.2 (.inl rfl)⟩,⟨(gS.rg (p:=10) (by omega)).2.2.1 (by decide) (by decide) (by decide) (by decide) (by decide),(gS.rg (p:=10) (by omega)).2.2.2 (.inr rfl)⟩⟩,kr⟩
def K_ (ab:Addr) (nb:Nat) (b:fe) (gS:ix nb b):Ct Cp 295 #[.pointer (some ((cz (some ab)).add (0*4)))] (fun w=>jF ab nb b w) [] (fun v Cs=> ∃(x:nK),v=.agg #[iv x.base,iv x.lo,iv x.hi,iv x.grow,iv x.shr]∧lS x∧Cs= []):=by
 refine cc Tryz.func295 fun w0 hp=>aa 7 fun a8=>ah (lC ab nb b 11 gS IJ) [] il ?_
 rintro _ _ ⟨rfl,rfl⟩
 refine aa 8 fun _=>aq ((bM b 11)=(-1)) (fun h2=>?_) (fun h2=>?_)
 ·refine aa 2 fun _=>ah (lC ab nb b 3 gS IJ) [] il ?_
  rintro _ _ ⟨rfl,rfl⟩
  refine aa 8 fun _=>ah (lC ab nb b 5 gS IJ) [] il ?_
  rintro _ _ ⟨rfl,rfl⟩
  refine aa 1 fun _=>ah (lC ab nb b 6 gS IJ) [] il ?_
  rintro _ _ ⟨rfl,rfl⟩
  refine ah (yV ab nb b (if (bM b 3)>0 then bM b 3 else 0) (bM b 5) (bM b 6) gS IJ IJ IJ) [] il ?_
  rintro _ _ ⟨x3,rfl,f4,rfl⟩
  refine ae 2 [0] fun _=>bk [0] [] ⟨x3,kr,f4,kr⟩
 ·refine aa 6 fun _=>ah (lC ab nb b 5 gS IJ) [] il ?_
  rintro _ _ ⟨rfl,rfl⟩
  refine aa 1 fun _=>ah (lC ab nb b 6 gS IJ) [] il ?_
  rintro _ _ ⟨rfl,rfl⟩
  refine ah (yV ab nb b (bM b 11) (bM b 5) (bM b 6) gS IJ IJ IJ) [] il ?_
  rintro _ _ ⟨x5,rfl,f6,rfl⟩
  refine ae 2 [0] fun _=>bk [0] [] ⟨x5,kr,f6,kr⟩
def V' (x:nK):Ct Cp 322 #[.agg #[iv x.base,iv x.lo,iv x.hi,iv x.grow,iv x.shr]] (fun _=>True) [] (fun v Cs=>v=iv (iX x)∧Cs= []):=by
 refine cc Tryz.func322 fun w0 hp=>ae 13 [0,0,0] fun a8=>ah (pV x.base x.lo x.hi) [] cJ ?_
 exact Iq
def ya (kM:OA) (nj:Nat) (bo:List nK) (hl:bo.length≤1000000):Ct Cp 301 #[sl kM bo.length nj] (fun w=>np.Rd kM bo w) [] (fun v Cs=> ∃A2 c2,v=sl A2 ((bo.map iX).length) c2∧Cs= [az.row A2 c2 (bo.map iX)]):=by
 refine cc Tryz.func301 fun w0 hp=>aa 12 fun _=>bG az<|aS az 0 none 0 [] ((bo.take 0).map iX) kr rfl<|aR (σ:=Nat×OA×Nat) (fun (k,B,d)=> [(2,sl B (((bo.take k).map iX).length) d),(5,sl kM bo.length nj),(6,iv (bo.length:Int)),(7,iv k)]) (fun (k,B,d)=> [.k (az.row B d ((bo.take k).map iX))]) (fun (k,B,d)=>k≤bo.length) (fun (k,B,d)=>bo.length-k) (0,none,0) [1] (bh _) ?_
 rintro _ ⟨k,B,d⟩ hk aB
 refine aa 5 fun _=>aq ((k:Int)<(bo.length:Int)) (fun h1=>?_) (fun h1=>?_)
 ·refine aa 5 fun _=>aV kM bo.length (k:Int) 5 (fun w h=>Kd.cd (K:=np) (xs:=bo) (hp.aE h.ch) (by omega)) ?_
  obtain ⟨x2,e3⟩:=aw (xs:=bo) (k:=k) (by omega)
  refine bd 391 (ad kM (k*5) 0) (.agg #[iv x2.base,iv x2.lo,iv x2.hi,iv x2.grow,iv x2.shr]) (fun w h=>bN (K:=np) (hp.aE h.ch) e3)<|ae 6 [1,1] fun rM=>ah (V' x2) [] cJ ?_
  rintro _ _ ⟨rfl,rfl⟩
  refine aa 1 fun jn=>bQ az 0 B d ((bo.take k).map iX) (so (jn 0)) 1 1 [iX x2] (fun w h=>h.eT 2 (jn 0) 3 (List.flatMap az.f [iX x2]) kr) (by rw [cM,b0];omega) fun A6 c7=>aa 5 fun _=>ao 16 ((k:Int)+1)<|aa 2 fun _=>aS az 0 A6 c7 ((bo.take k).map iX++ [iX x2]) ((bo.take (k+1)).map iX) kr qqy<|aC 2 (sl A6 (((bo.take (k+1)).map iX).length) c7) (sl A6 (((bo.take k).map iX++ [iX x2]).length) c7) qqy<|aB _ (k+1,A6,c7) [3] kr (by omega) du
 ·refine aa 6 fun _=>aS az 0 B d ((bo.take k).map iX) (bo.map iX) kr Oh<|a_ [1] ⟨B,d,kt (sl B (((bo.take k).map iX).length) d) Oh,kr⟩
def Yw (Al:OA) (cl:Nat) (l:List Int) (q rm:Int) (hr: ∀y∈l,dD y) (hq:dD q) (hl:l.length≤1000000):Ct Cp 314 #[sl Al l.length cl,iv q,iv rm] (fun w=>az.Rd Al l w) [] (fun v Cs=> ∃A2 c2,∃(m:List Int),v=sl A2 m.length c2∧mY l.length m∧Cs= [az.row A2 c2 m]):=by
 refine cc Tryz.func314 fun w0 hp=>aa 16 fun _=>bG az<|aR (σ:=Nat×Int×OA×Nat×List Int) (fun (k,z,B,d,m)=> [(1,iv q),(2,iv rm),(6,sl B m.length d),(7,iv z),(11,sl Al l.length cl),(12,iv (l.length:Int)),(13,iv k)]) (fun (k,z,B,d,m)=> [.k (az.row B d m)]) (fun (k,z,B,d,m)=>k≤l.length∧dD z∧mY k m) (fun (k,z,B,d,m)=>l.length-k) (0,0,none,0,[]) [0] ⟨bh _,by constructor<;>omega,rfl,by simp,by simp⟩ ?_
 rintro _ ⟨k,z,B,d,m⟩ ⟨hk,hz,Q1⟩ aB
 have oO:=Q1.len
 have hmn:=Q1.ne
 refine aa 5 fun _=>aq ((k:Int)<(l.length:Int)) (fun h1=>?_) (fun h1=>?_)
 ·refine aa 6 fun _=>aV Al l.length (k:Int) 1 qfp ?_
  obtain ⟨x2,e3⟩:=aw (xs:=l) (k:=k) (by omega)
  refine bd 3 (ad Al (k*1) 0) (iv x2) Wy<|aa 10 fun rM=>ah (iN z (so (rM 9)) 2 [q,x2] qvb qvb qkq) [] (fun w h=>h.eT 1 (rM 9) 3 (List.flatMap az.f [q,x2]) kr) ?_
  rintro _ _ ⟨rfl,rfl⟩
  refine aa 7 fun _=>aG 25 ((k:Int)>0) (fun h5=>?_) (fun h5=>?_)
  ·refine aa 5 fun _=>aq ((bu z [q,x2])≤rm) (fun h6=>?_) (fun h6=>?_)
   ·refine aa 11 fun _=>ao 34 ((m.length:Int)-1)<|aV B m.length ((m.length:Int)-1) 1 qlv ?_
    obtain ⟨x7,e8⟩:=aw (xs:=m) (k:=((m.length:Int)-1).toNat) (by omega)
    refine bd 3 (((cz B).add ((((m.length:Int)-1).toNat)*1)).add 0) (iv x7) (fun w h=>bW (K:=az) (h.bg 0 B d m kr) e8)<|aa 1 fun _=>ao (e:=by have h7:=(M0 Q1.one (aI e8)).1;have h8:=Q1.one _ (aI e8);have h9:=Q1.sum;omega) 37 (x7+1)<|aV B m.length ((m.length:Int)-1) 1 qlv<|gH az 0 B d m (((m.length:Int)-1).toNat) 0 x7 (x7+1) 3 (iv (x7+1)) e8<|aa 4 fun _=>ao 43 ((k:Int)+1)<|aa 2 fun _=>aC 6 (sl B ((m.set (((m.length:Int)-1).toNat) (x7+1)).length) d) (sl B m.length d) (by rw [cX])<|aB _ (k+1,bu z [q,x2],B,d,m.set (((m.length:Int)-1).toNat) (x7+1)) [0] kr ⟨by omega,dp hz _,Q1.up e8⟩ du
   ·refine aa 9 fun EA=>bQ az 0 B d m (so (EA 8)) 1 1 [1] (fun w h=>h.eT 2 (EA 8) 3 (List.flatMap az.f [1]) kr) (by omega) fun po pK=>aa 5 fun _=>ao 43 ((k:Int)+1)<|aa 2 fun _=>aB _ (k+1,x2,po,pK,m++ [1]) [0] kr ⟨by omega,hr _ (aI e3),Q1.new⟩ du
  ·refine aa 15 fun sN=>bQ az 0 B d m (so (sN 14)) 1 1 [1] (fun w h=>h.eT 2 (sN 14) 3 (List.flatMap az.f [1]) kr) (by omega) fun WU T5=>aa 5 fun _=>ao 43 ((k:Int)+1)<|aa 2 fun _=>aB _ (k+1,x2,WU,T5,m++ [1]) [0] kr ⟨by omega,hr _ (aI e3),Q1.new⟩ du
 ·refine aa 6 fun _=>a_ [0] ⟨B,d,m,kr,(show k=l.length by omega)▸Q1,kr⟩
def C9 (x y:Int):Ct Cp 248 #[iv x,iv y] (fun _=>True) [] (fun v Cs=>v=.complex .f64 (floatOfInt .f64 x) (floatOfInt .f64 y)∧Cs= []):=by
 refine cc Tryz.func248 fun w0 hp=>aa 7 fun _=>US (.float .f64 (floatOfInt .f64 x))<|aa 1 fun _=>US (.float .f64 (floatOfInt .f64 y))<|US (.complex .f64 (floatOfInt .f64 x) (floatOfInt .f64 y))<|qv7
def xW (x:jc) (hg:jb x):Ct Cp 290 #[.agg #[iv x.t,iv x.r,.complex .f64 x.z1 x.z2,.complex .f64 x.z3 x.z4,sl x.Ka x.nk x.Kc]] (fun _=>True) [] (fun v Cs=>v=.tuple #[iv (Ly x),iv (tN x)]∧Cs= []):=by
 refine cc Tryz.func290 fun w0 hp=>aa 7 fun a8=>aK [(2,.float .f64 x.z3),(3,iv (Ly x)),(6,.float .f64 x.z4),(7,iv (tN x))] [0,0] ⟨ZU (.float .f64 x.z3),ZV x.z3 (Ly x) hg.w,ZU (.float .f64 x.z4),ZV x.z4 (tN x) hg.h,trivial⟩<|Nc
structure nH where
 n:Int
 k:Int
def gB:Kd nH:=⟨432,2,fun x=> [iv x.n,iv x.k],fun _=>rfl,fun _=>rfl,by decide⟩
def Jy {a b:Int} (h:0≤a∧0≤b∧a+b<4611686018427387904):IntKind.u64.wrap (a+b)=a+b:=rF (by omega)
def Gg {x:Int}:Int.fdiv x (2^1)=x/2:=by rw [Int.fdiv_eq_ediv_of_nonneg _ (by decide)];rfl
def tG (l:List Int) (x:Int):(l++ [x]).sum=l.sum+x:=by rw [List.sum_append];simp
def pX {l:List Int} {k:Nat} {x:Int} (h:l[k]? =some x):(l.take (k+1)).sum=(l.take k).sum+x:=by rw [← bp h,tG]
def pY {l:List Int} {a b:Int} (h: ∀y∈l,a≤y∧y≤b):a*l.length≤l.sum∧l.sum≤b*l.length:=by
 induction l with
 |nil=>simp
 |cons y l ih=>
  have h1:=ih fun z hz=>h z (bH _ hz)
  have h2:=h y cE
  simp only [List.sum_cons,dM,Int.natCast_add,Int.mul_add,Int.natCast_one,Int.mul_one]
  omega
def X9 {l:List Int} (h: ∀y∈l,0≤y∧y≤1048576) {x:Int} (hx:x∈l):x≤l.sum:=by
 induction l with
 |nil=>cases hx
 |cons y l ih=>
  have h0:=(pY fun z hz=>h z (bH _ hz)).1
  have h2:=h y cE
  simp only [List.sum_cons]
  rcases dx.1 hx with rfl|hx
  ·omega
  ·have:=ih (fun z hz=>h z (bH _ hz)) hx;omega
def xN {T x:Int} (hT:0≤T∧T≤1099511627776) (hx:0≤x∧x≤1048576):0≤T*x∧T*x≤1152921504606846976:=by
 refine ⟨Int.mul_nonneg hT.1 hx.1,?_⟩
 have h1:T*x≤T*1048576:=Int.mul_le_mul_of_nonneg_left hx.2 hT.1
 omega
def Jz {T S x:Int} (hT:0≤T∧T≤1099511627776) (hx:0≤x) (hS:1≤S) (hxS:x≤S):0≤T*x/S∧T*x/S≤T:=
 ⟨Int.ediv_nonneg (Int.mul_nonneg hT.1 hx) (by omega),Int.ediv_le_of_le_mul (by omega) (Int.mul_le_mul_of_nonneg_left hxS hT.1)⟩
def wG {T S:Int} (hS:1≤S): ∀(l:List Int),0≤T*l.sum-S*(l.map fun x=>T*x/S).sum∧T*l.sum-S*(l.map fun x=>T*x/S).sum≤S*l.length
 | []=>by simp
 |x::l=>by
  have h:=wG (T:=T) hS l
  have h1:=Int.mul_ediv_add_emod (T*x) S
  have h2:=Int.emod_nonneg (T*x) (b:=S) (by omega)
  have h3:=Int.emod_lt_of_pos (T*x) (b:=S) (by omega)
  simp only [fm,List.sum_cons,dM,Int.natCast_add,Int.mul_add,Int.natCast_one,Int.mul_one]
  omega
structure iO (T:Int) (ws:List Int) (k:Nat) (m:List Int) (rs:List nH):Prop where
 kl:k≤ws.length
 m_:m=(ws.take k).map fun x=>T*x/ws.sum
 rl:rs.length=k
 at_: ∀y∈rs,0≤y.k∧y.k<k
def iO.nil (T:Int) (ws:List Int):iO T ws 0 [] []:=⟨bh _,by simp,rfl,by simp⟩
def iO.len {T:Int} {ws m:List Int} {k:Nat} {rs:List nH} (h:iO T ws k m rs):m.length=k:=by have h1:=congrArg List.length h.m_;rw [cM,b0] at h1;have:=h.kl;omega
def iO.step {T:Int} {ws m:List Int} {k:Nat} {rs:List nH} (h:iO T ws k m rs) {x r:Int} (hx:ws[k]? =some x):iO T ws (k+1) (m++ [T*x/ws.sum]) (rs++ [⟨r,k⟩]):=by
 refine ⟨(aN.1 hx).1,by rw [← bp hx,cT,h.m_];rfl,by simp [h.rl],fun y hy=>?_⟩
 rcases eG.1 hy with hy|hy
 ·have:=h.at_ y hy;omega
 ·rw [fv] at hy;subst hy;dsimp only;omega
def iO.may {T:Int} {ws m:List Int} {k:Nat} {rs:List nH} (h:iO T ws k m rs) (hT:0≤T∧T≤1099511627776) (hw: ∀y∈ws,0≤y∧y≤1048576) (hS:1≤ws.sum): ∀y∈m,0≤y∧y≤T:=by
 intro y hy
 rw [h.m_] at hy
 obtain ⟨x,hx,rfl⟩:=List.mem_map.1 hy
 have hx:=gU hx
 exact Jz hT (hw x hx).1 hS (X9 hw hx)
def iO.adS {T:Int} {ws m:List Int} {k:Nat} {rs:List nH} (h:iO T ws k m rs) (hT:0≤T∧T≤1099511627776) (hw: ∀y∈ws,0≤y∧y≤1048576) (hS:1≤ws.sum) (hl:ws.length≤64):0≤m.sum∧m.sum≤70368744177664:=by
 have h1:=pY fun y hy=>(⟨(h.may hT hw hS y hy).1,Int.le_trans (h.may hT hw hS y hy).2 hT.2⟩:0≤y∧y≤1099511627776)
 have:=h.len
 have:=h.kl
 omega
def iO.left {T:Int} {ws m:List Int} {k:Nat} {rs:List nH} (h:iO T ws k m rs) (hk:ws.length≤k) (hS:1≤ws.sum):0≤T-m.sum∧T-m.sum≤ws.length:=by
 have h1:=h.m_
 rw [cA hk] at h1
 have h2:=wG (T:=T) hS ws
 rw [← h1,Int.mul_comm T,← Int.mul_sub] at h2
 exact ⟨Int.le_of_mul_le_mul_left (by rw [Int.mul_zero];exact h2.1) (by omega:0<ws.sum),Int.le_of_mul_le_mul_left h2.2 (by omega:0<ws.sum)⟩
def X_ {m:List Int} {j:Nat} {x b:Int} (h: ∀y∈m,0≤y∧y≤b) (hx:m[j]? =some x): ∀y∈m.set j (x+1),0≤y∧y≤b+1:=fun y hy=>by
 have h0:=h x (aI hx)
 rcases List.mem_or_eq_of_mem_set hy with h1|h1
 ·have:=h y h1;omega
 ·omega
def JA (Cj:OA) (Wz:Nat) (ws:List Int) (hw: ∀y∈ws,0≤y∧y≤1048576) (hl:ws.length≤64):Ct Cp 329 #[sl Cj ws.length Wz] (fun w=>az.Rd Cj ws w) [] (fun v Cs=>v=iv ws.sum∧Cs= []):=by
 refine cc Tryz.func329 fun w0 hp=>aa 4 fun _=>ed 0 (σ:=Nat) (fun k=> [(0,sl Cj ws.length Wz),(2,iv ((ws.take k).sum)),(3,iv k)]) (fun k=> []) (fun k=>k≤ws.length) (fun k=>ws.length-k) ?_ ?_
 ·intro _ cG
  refine aa 11 fun _=>aq ((ws.length:Int)>256) (fun h1=>?_) (fun h1=>?_)
  ·exact kp
  ·refine aa 3 fun _=>cG _ 0 [] kr (bh _)
 ·rintro _ k hk dm
  have JB:=pY (l:=ws.take k) fun y hy=>hw y (gU hy);rw [b0] at JB
  refine aa 8 fun _=>aq ((k:Int)=(ws.length:Int)) (fun h2=>?_) (fun h2=>?_)
  ·refine aa 5 fun _=>a_ [] ⟨kt (iv ((ws.take k).sum)) Oh,kr⟩
  ·refine aa 6 fun _=>aV Cj ws.length (k:Int) 1 qfm ?_
   obtain ⟨x3,e4⟩:=aw (xs:=ws) (k:=k) (by omega)
   refine bd 3 (ad Cj (k*1) 0) (iv x3) Wl<|aa 2 fun _=>aG 17 (x3<0) (fun h5=>?_) (fun h5=>?_)
   ·exact qnb
   ·refine aa 2 fun _=>aV Cj ws.length (k:Int) 1 qfm<|bd 3 (ad Cj (k*1) 0) (iv x3) Wl<|aa 3 fun _=>aq (x3>1048576) (fun h6=>?_) (fun h6=>?_)
    ·exact qnb
    ·refine aa 6 fun _=>aV Cj ws.length (k:Int) 1 qfm<|bd 3 (ad Cj (k*1) 0) (iv x3) Wl<|aa 1 fun _=>ao (e:=by have:=hw _ (aI e4);omega) 29 (((ws.take k).sum)+x3)<|aa 6 fun _=>ao 31 ((k:Int)+1)<|aa 2 fun _=>aC 2 (iv ((ws.take (k+1)).sum)) (iv (((ws.take k).sum)+x3)) (by rw [pX e4])<|qpi
def ED (x y:nH):Ct Cp 331 #[bZ.V ⟨x.n,x.k⟩,bZ.V ⟨y.n,y.k⟩] (fun _=>True) [] (fun v Cs=>v=iv (dO y.n x.n)∧Cs= []):=by
 refine cc Tryz.func331 fun w0 hp=>ae 12 [1,0] fun a8=>ah (compare y.n x.n) [] cJ ?_
 exact Iq
def AE (aL:OA) (aZ n:Nat) (ns:List nH) (a b:Int) (hn:ns.length=n) (hl:n≤1000000) (wB:0≤a∧a≤b∧b≤n):Ct Cp 333 #[sl aL n aZ,iv a,iv b,.func (.func 331) #[] #[]] (fun _=>True) [gB.row aL aZ ns] (fun v Cs=> ∃m,v=.tuple #[]∧m.Perm ns∧Cs= [gB.row aL aZ m]):=by
 refine Fz [.k (gB.row aL aZ ns)] Tryz.func333 fun U w0 hp=>aa 4 fun _=>ao 11 (a+1)<|aa 3 fun _=>aR (σ:=Int×List nH) (fun (i,m)=> [(0,sl aL n aZ),(1,iv a),(2,iv b),(3,.func (.func 331) #[] #[]),(8,iv i)]) qkz (fun (i,m)=>m.Perm ns∧a<i∧(i≤b∨b≤a+1)) (fun (i,m)=>(b-i).toNat) (a+1,ns) [0] ⟨(List.Perm.refl _),⟨by omega,by omega⟩⟩ ?_
 rintro _ ⟨i,m⟩ ⟨jA,⟨hi,hib⟩⟩ aB
 have Ga:m.length=n:=by rw [jA.length_eq];omega
 refine aa 7 fun _=>aq (i<b) (fun h1=>?_) (fun h1=>?_)
 ·refine aa 9 fun _=>aR (σ:=Int×List nH) (fun (j,m1)=> [(0,sl aL n aZ),(1,iv a),(2,iv b),(3,.func (.func 331) #[] #[]),(8,iv i),(9,iv j),(14,.bool (decide (i<b)))]) (fun (j,m1)=> [.k (gB.row aL aZ m1)]) (fun (j,m1)=>m1.Perm ns∧a≤j∧j≤i) (fun (j,m1)=>(j-a).toNat) (i,m) [0] ⟨jA,⟨by omega,by omega⟩⟩ ?_
  rintro _ ⟨j,m1⟩ ⟨jT,⟨hj,oL⟩⟩ dG
  have CR:m1.length=n:=by rw [jT.length_eq];omega
  refine aa 2 fun _=>(bK (decide (j>a))).elim (fun b3=>?_) (fun b3=>?_)
  ·have h2:=cg b3
   refine Exists.elim (aw (xs:=m1) (k:=j.toNat) dg) fun x4 e5=>Exists.elim (aw (xs:=m1) (k:=(j-1).toNat) dg) fun x6 e7=>aK [(2,.bool true),(7,_),(8,bZ.V ⟨x4.n,x4.k⟩),(11,_),(12,_),(13,bZ.V ⟨x6.n,x6.k⟩),(14,iv (dO x6.n x4.n))] [] ⟨qh4,bF aL n j 2 quy,cB 432 (ad aL (j.toNat*2) 0) (fun w h=>iy (K:=gB) (o:=0) (m:=2) (sub:= [iv x4.n,iv x4.k]) (h.bg 0 aL aZ m1 kr) e5),fM (j-1),bF aL n (j-1) 2 quy,cB 432 (((cz aL).add (((j-1).toNat)*2)).add 0) (fun w h=>iy (K:=gB) (o:=0) (m:=2) (sub:= [iv x6.n,iv x6.k]) (h.bg 0 aL aZ m1 kr) e7),bT (ED x4 x6) jU,trivial⟩<|aq ((dO x6.n x4.n)<0) (fun h8=>?_) (fun h8=>?_)
   ·refine aa 3 fun _=>Exists.elim (aw (xs:=m1.set j.toNat x6) (k:=(j-1).toNat) dg) fun x9 ng=>aO [(4,_),(7,_),(8,_),(9,_),(12,_),(13,_),(14,_),(15,_),(16,_),(17,_)] [] ⟨Rn,Rn,br (fun vs=>aL) (fun vs=>n) (fun vs=>j-1) 2 qte,cZ 432 (fun vs=>((cz aL).add (((j-1).toNat)*2)).add 0) (fun vs=>bZ.V ⟨x6.n,x6.k⟩) (fun vs w h=>iy (K:=gB) (o:=0) (m:=2) (sub:= [iv x6.n,iv x6.k]) (h.bg 0 aL aZ m1 kr) e7),qwv,cZ 432 (fun vs=>ad aL (j.toNat*2) 0) (fun vs=>bZ.V ⟨x4.n,x4.k⟩) (fun vs w h=>iy (K:=gB) (o:=0) (m:=2) (sub:= [iv x4.n,iv x4.k]) (h.bg 0 aL aZ m1 kr) e5),qwv,cR gB 0 (fun vs=>aL) (fun vs=>aZ) (fun vs=>m1) j.toNat 0 (fun vs=>x4) (fun vs=>x6) 432 (fun vs=>bZ.V ⟨x6.n,x6.k⟩) (fun _=>e5),br (fun vs=>aL) (fun vs=>n) (fun vs=>j-1) 2 (fun vs w h=>Kd.cd (K:=gB) (xs:=m1.set j.toNat x6) (h.bg 0 aL aZ (m1.set j.toNat x6) kr) dg),cR gB 1 (fun vs=>aL) (fun vs=>aZ) (fun vs=>m1.set j.toNat x6) ((j-1).toNat) 0 (fun vs=>x9) (fun vs=>x4) 432 (fun vs=>bZ.V ⟨x4.n,x4.k⟩) (fun _=>ng),trivial⟩ fun v11=>qt1
   ·refine aa 5 fun _=>qtm
  ·exact qwi
 ·exact XZ
def C3 (aL:OA) (aZ n:Nat) (ns:List nH) (a b q:Int) (hn:ns.length=n) (hl:n≤1000000) (wB:0≤a∧0≤b∧0≤q∧a+q≤n∧b+q≤n):Ct Cp 336 #[sl aL n aZ,iv a,iv b,iv q,.func (.func 331) #[] #[]] (fun _=>True) [gB.row aL aZ ns] (fun v Cs=> ∃m,v=.tuple #[]∧m.Perm ns∧Cs= [gB.row aL aZ m]):=by
 refine Fz [.k (gB.row aL aZ ns)] Tryz.func336 fun U w0 hp=>aa 5 fun _=>aR (σ:=Int×List nH) (fun (i,m)=> [(0,sl aL n aZ),(1,iv a),(2,iv b),(3,iv q),(10,iv i)]) qkz (fun (i,m)=>m.Perm ns∧0≤i∧i≤q) (fun (i,m)=>(q-i).toNat) (0,ns) [0] ⟨(List.Perm.refl _),⟨by omega,by omega⟩⟩ ?_
 rintro _ ⟨i,m⟩ ⟨jA,⟨hi,pI⟩⟩ aB
 have Ga:m.length=n:=by rw [jA.length_eq];omega
 refine aa 7 fun _=>aq (i<q) (fun h1=>?_) (fun h1=>?_)
 ·refine aa 3 fun _=>Exists.elim (aw (xs:=m) (k:=(b+i).toNat) dg) fun x2 e3=>Exists.elim (aw (xs:=m) (k:=(a+i).toNat) dg) fun x4 e5=>Exists.elim (aw (xs:=m.set ((a+i).toNat) x2) (k:=(b+i).toNat) dg) fun x6 e7=>aO [(3,_),(7,_),(11,_),(12,_),(13,_),(17,_),(18,_),(19,_),(20,_),(21,_),(22,_),(23,_)] [] ⟨ql7,fc (fun vs=>b+i),fc (fun vs=>b+i),br (fun vs=>aL) (fun vs=>n) (fun vs=>b+i) 2 qua,cZ 432 (fun vs=>((cz aL).add (((b+i).toNat)*2)).add 0) (fun vs=>bZ.V ⟨x2.n,x2.k⟩) (fun vs w h=>iy (K:=gB) (o:=0) (m:=2) (sub:= [iv x2.n,iv x2.k]) (h.bg 0 aL aZ m kr) e3),ql7,qwl,cZ 432 (fun vs=>((cz aL).add (((a+i).toNat)*2)).add 0) (fun vs=>bZ.V ⟨x4.n,x4.k⟩) (fun vs w h=>iy (K:=gB) (o:=0) (m:=2) (sub:= [iv x4.n,iv x4.k]) (h.bg 0 aL aZ m kr) e5),qwl,cR gB 0 (fun vs=>aL) (fun vs=>aZ) (fun vs=>m) ((a+i).toNat) 0 (fun vs=>x4) (fun vs=>x2) 432 (fun vs=>bZ.V ⟨x2.n,x2.k⟩) (fun _=>e5),br (fun vs=>aL) (fun vs=>n) (fun vs=>b+i) 2 (fun vs w h=>Kd.cd (K:=gB) (xs:=m.set ((a+i).toNat) x2) (h.bg 0 aL aZ (m.set ((a+i).toNat) x2) kr) dg),cR gB 1 (fun vs=>aL) (fun vs=>aZ) (fun vs=>m.set ((a+i).toNat) x2) ((b+i).toNat) 0 (fun vs=>x6) (fun vs=>x4) 432 (fun vs=>bZ.V ⟨x4.n,x4.k⟩) (fun _=>e7),trivial⟩ fun v8=>aa 4 fun _=>ao 15 (i+1)<|aa 2 fun _=>aB _ (i+1,(m.set ((a+i).toNat) x2).set ((b+i).toNat) x4) [2] kr ⟨((swap_perm e5 e3).trans jA),⟨by omega,by omega⟩⟩ du
 ·exact XZ
def X' (aL:OA) (aZ n:Nat) (ns:List nH) (a q b:Int) (hn:ns.length=n) (hl:n≤1000000) (wB:0≤a∧a<q∧q<b∧b≤n):Ct Cp 335 #[sl aL n aZ,iv a,iv q,iv b,.func (.func 331) #[] #[]] (fun _=>True) [gB.row aL aZ ns] (fun v Cs=> ∃m,v=.tuple #[]∧m.Perm ns∧Cs= [gB.row aL aZ m]):=by
 refine Fz [.k (gB.row aL aZ ns)] Tryz.func335 fun U w0 hp=>aa 5 fun _=>ao 14 (q-a)<|aa 7 fun _=>ao 17 (b-q)<|aa 4 fun _=>aR (σ:=Int×Int×List nH) (fun (i,j,m)=> [(0,sl aL n aZ),(2,iv q),(4,.func (.func 331) #[] #[]),(10,iv i),(11,iv j)]) qqp (fun (i,j,m)=>m.Perm ns∧0<i∧0<j∧i≤q-a∧j≤b-q) (fun (i,j,m)=>(i+j).toNat) (q-a,b-q,ns) [0] ⟨(List.Perm.refl _),⟨by omega,by omega,by omega,by omega⟩⟩ ?_
 rintro _ ⟨i,j,m⟩ ⟨jA,⟨hi,hj,pI,hj2⟩⟩ aB
 have Ga:m.length=n:=by rw [jA.length_eq];omega
 refine aa 7 fun _=>cU (i=j) (fun h1=>?_) (fun h1=>?_)
 ·refine aa 8 fun _=>aq (i>j) (fun h2=>?_) (fun h2=>?_)
  ·refine aa 6 fun _=>ao 27 (q-i)<|aa 3 fun _=>ah (C3 aL aZ n m (q-i) q j dg (by omega) (by omega)) [0] cJ ?_
   rintro _ _ ⟨m3,rfl,f4,rfl⟩
   have Ya:m3.length=n:=by rw [f4.length_eq];first|omega|(simp only [cX];omega)
   refine aa 5 fun _=>ao 34 (i-j)<|aa 3 fun _=>aB _ (i-j,j,m3) [1] kr ⟨(f4.trans jA),⟨by omega,by omega,by omega,by omega⟩⟩ du
  ·refine aa 6 fun _=>ao 38 (q-i)<|aa 3 fun _=>ao 41 (q+j)<|aa 2 fun _=>ao 43 ((q+j)-i)<|aa 2 fun _=>ah (C3 aL aZ n m (q-i) ((q+j)-i) i dg (by omega) (by omega)) [0] cJ ?_
   rintro _ _ ⟨m5,rfl,f6,rfl⟩
   have Oj:m5.length=n:=by rw [f6.length_eq];first|omega|(simp only [cX];omega)
   refine aa 5 fun _=>ao 49 (j-i)<|aa 3 fun _=>aB _ (i,j-i,m5) [1] kr ⟨(f6.trans jA),⟨by omega,by omega,by omega,by omega⟩⟩ du
 ·refine aa 6 fun _=>ao 53 (q-i)<|aa 3 fun _=>ah (C3 aL aZ n m (q-i) q i dg (by omega) (by omega)) [0] cJ ?_
  rintro _ _ ⟨m7,rfl,f8,rfl⟩
  have adU:m7.length=n:=by rw [f8.length_eq];first|omega|(simp only [cX];omega)
  refine aa 1 fun _=>a_ [1] ⟨m7,kr,(f8.trans jA),kr⟩
def Tk (k_:Nat) (ih: ∀(aL:OA) (aZ n:Nat) (ns:List nH) (a q b:Int) (hn:ns.length=n) (hl:n≤1000000) (wB:0≤a∧a<q∧q<b∧b≤n) (hd:(b-a).toNat<k_),Ct Cp 334 #[sl aL n aZ,iv a,iv q,iv b,.func (.func 331) #[] #[]] (fun _=>True) [gB.row aL aZ ns] (fun v Cs=> ∃m,v=.tuple #[]∧m.Perm ns∧Cs= [gB.row aL aZ m])) (aL:OA) (aZ n:Nat) (ns:List nH) (a q b:Int) (hn:ns.length=n) (hl:n≤1000000) (wB:0≤a∧a<q∧q<b∧b≤n) (hd:(b-a).toNat<(k_+1)):Ct Cp 334 #[sl aL n aZ,iv a,iv q,iv b,.func (.func 331) #[] #[]] (fun _=>True) [gB.row aL aZ ns] (fun v Cs=> ∃m,v=.tuple #[]∧m.Perm ns∧Cs= [gB.row aL aZ m]):=by
 refine Fz [.k (gB.row aL aZ ns)] Tryz.func334 fun U w0 hp=>aa 6 fun _=>ao 27 (q-a)<|aa 2 fun _=>aq ((q-a)=1) (fun h1=>?_) (fun h1=>?_)
 ·refine aa 12 fun _=>aR (σ:=Int×Int×List nH) (fun (i,j,m)=> [(0,sl aL n aZ),(1,iv a),(2,iv q),(3,iv b),(4,.func (.func 331) #[] #[]),(10,iv i),(11,iv j)]) qqp (fun (i,j,m)=>m.Perm ns∧q≤i∧i≤j∧j≤b) (fun (i,j,m)=>(j-i).toNat) (q,b,ns) [0] ⟨(List.Perm.refl _),⟨by omega,by omega,by omega⟩⟩ ?_
  rintro _ ⟨i,j,m⟩ ⟨jA,⟨hi,JC,hj⟩⟩ aB
  have Ga:m.length=n:=by rw [jA.length_eq];omega
  refine aa 7 fun _=>aq (i<j) (fun h2=>?_) (fun h2=>?_)
  ·refine aa 7 fun _=>ao 36 (i+j)<|aa 1 fun _=>aC 37 (.int .u64 (i+j)) (.int .u64 (IntKind.u64.wrap (i+j))) qen<|aa 1 fun _=>aC 38 (.int .u64 ((i+j)/2)) (.int .u64 (Int.fdiv (i+j) (2^1))) qie<|aa 1 fun _=>aC 39 (iv ((i+j)/2)) (iv (IntKind.i64.wrap ((i+j)/2))) Yb<|aa 3 fun _=>Exists.elim (aw (xs:=m) (k:=((i+j)/2).toNat) dg) fun x3 e4=>Exists.elim (aw (xs:=m) (k:=a.toNat) dg) fun x5 e6=>?_
   refine aK [(3,_),(4,bZ.V ⟨x3.n,x3.k⟩),(7,_),(8,bZ.V ⟨x5.n,x5.k⟩),(9,iv (dO x5.n x3.n))] [] ⟨bF aL n ((i+j)/2) 2 qu5,cB 432 (((cz aL).add ((((i+j)/2).toNat)*2)).add 0) (fun w h=>iy (K:=gB) (o:=0) (m:=2) (sub:= [iv x3.n,iv x3.k]) (h.bg 0 aL aZ m kr) e4),bF aL n a 2 qu5,cB 432 (ad aL (a.toNat*2) 0) (fun w h=>iy (K:=gB) (o:=0) (m:=2) (sub:= [iv x5.n,iv x5.k]) (h.bg 0 aL aZ m kr) e6),bT (ED x3 x5) jU,trivial⟩<|aq ((dO x5.n x3.n)<0) (fun h7=>?_) (fun h7=>?_)
   ·refine aa 3 fun _=>ao 52 (((i+j)/2)+1)<|aa 3 fun _=>aB _ (((i+j)/2)+1,j,m) [0] kr ⟨jA,⟨by omega,by omega,by omega⟩⟩ du
   ·refine aa 5 fun _=>aB _ (i,(i+j)/2,m) [0] kr ⟨jA,⟨by omega,by omega,by omega⟩⟩ du
  ·refine aa 8 fun _=>aR (σ:=Int×List nH) (fun (k,m1)=> [(0,sl aL n aZ),(1,iv a),(2,iv q),(3,iv b),(4,.func (.func 331) #[] #[]),(10,iv i),(13,iv k)]) (fun (k,m1)=> [.k (gB.row aL aZ m1)]) (fun (k,m1)=>m1.Perm ns∧a≤k) (fun (k,m1)=>(i-k).toNat) (a,m) [0] ⟨jA,by omega⟩ ?_
   rintro _ ⟨k,m1⟩ ⟨jT,hk⟩ dG
   have CR:m1.length=n:=by rw [jT.length_eq];omega
   refine aa 6 fun _=>ao 57 (i-1)<|aa 2 fun _=>aq (k<(i-1)) (fun h8=>?_) (fun h8=>?_)
   ·refine aa 3 fun _=>Exists.elim (aw (xs:=m1) (k:=(k+1).toNat) dg) fun x9 ng=>Exists.elim (aw (xs:=m1) (k:=k.toNat) dg) fun fW wD=>Exists.elim (aw (xs:=m1.set k.toNat x9) (k:=(k+1).toNat) dg) fun wH zC=>aO [(4,_),(7,_),(8,_),(9,_),(12,_),(13,_),(14,_),(15,_),(16,_),(17,_)] [] ⟨fc (fun vs=>k+1),fc (fun vs=>k+1),br (fun vs=>aL) (fun vs=>n) (fun vs=>k+1) 2 qte,cZ 432 (fun vs=>((cz aL).add (((k+1).toNat)*2)).add 0) (fun vs=>bZ.V ⟨x9.n,x9.k⟩) (fun vs w h=>iy (K:=gB) (o:=0) (m:=2) (sub:= [iv x9.n,iv x9.k]) (h.bg 0 aL aZ m1 kr) ng),qwq,cZ 432 (fun vs=>ad aL (k.toNat*2) 0) (fun vs=>bZ.V ⟨fW.n,fW.k⟩) (fun vs w h=>iy (K:=gB) (o:=0) (m:=2) (sub:= [iv fW.n,iv fW.k]) (h.bg 0 aL aZ m1 kr) wD),qwq,cR gB 0 (fun vs=>aL) (fun vs=>aZ) (fun vs=>m1) k.toNat 0 (fun vs=>fW) (fun vs=>x9) 432 (fun vs=>bZ.V ⟨x9.n,x9.k⟩) (fun _=>wD),br (fun vs=>aL) (fun vs=>n) (fun vs=>k+1) 2 (fun vs w h=>Kd.cd (K:=gB) (xs:=m1.set k.toNat x9) (h.bg 0 aL aZ (m1.set k.toNat x9) kr) dg),cR gB 1 (fun vs=>aL) (fun vs=>aZ) (fun vs=>m1.set k.toNat x9) ((k+1).toNat) 0 (fun vs=>wH) (fun vs=>fW) 432 (fun vs=>bZ.V ⟨fW.n,fW.k⟩) (fun _=>zC),trivial⟩ fun lQ=>aa 4 fun _=>ao 60 (k+1)<|aa 2 fun _=>dG _ (k+1,(m1.set k.toNat x9).set ((k+1).toNat) fW) [2] kr ⟨((swap_perm wD ng).trans jT),by omega⟩ du
   ·exact qj8
 ·refine aa 7 fun _=>ao 79 (b-q)<|aa 2 fun _=>aq ((b-q)=1) (fun AF=>?_) (fun AF=>?_)
  ·refine aa 12 fun _=>aR (σ:=Int×Int×List nH) (fun (i,j,m2)=> [(0,sl aL n aZ),(1,iv a),(2,iv q),(3,iv b),(4,.func (.func 331) #[] #[]),(14,iv i),(15,iv j)]) (fun (i,j,m2)=> [.k (gB.row aL aZ m2)]) (fun (i,j,m2)=>m2.Perm ns∧a≤i∧i≤j∧j≤q) (fun (i,j,m2)=>(j-i).toNat) (a,q,ns) [0] ⟨(List.Perm.refl _),⟨by omega,by omega,by omega⟩⟩ ?_
   rintro _ ⟨i,j,m2⟩ ⟨pZ,⟨hi,JC,hj⟩⟩ jr
   have Jp:m2.length=n:=by rw [pZ.length_eq];omega
   refine aa 7 fun _=>aq (i<j) (fun Rw=>?_) (fun Rw=>?_)
   ·refine aa 7 fun _=>ao 88 (i+j)<|aa 1 fun _=>aC 89 (.int .u64 (i+j)) (.int .u64 (IntKind.u64.wrap (i+j))) qen<|aa 1 fun _=>aC 90 (.int .u64 ((i+j)/2)) (.int .u64 (Int.fdiv (i+j) (2^1))) qie<|aa 1 fun _=>aC 91 (iv ((i+j)/2)) (iv (IntKind.i64.wrap ((i+j)/2))) Yb<|aa 3 fun _=>Exists.elim (aw (xs:=m2) (k:=q.toNat) dg) fun Cl e19=>Exists.elim (aw (xs:=m2) (k:=((i+j)/2).toNat) dg) fun nw Aj=>?_
    refine aK [(3,_),(4,bZ.V ⟨Cl.n,Cl.k⟩),(7,_),(8,bZ.V ⟨nw.n,nw.k⟩),(9,iv (dO nw.n Cl.n))] [] ⟨bF aL n q 2 qux,cB 432 (ad aL (q.toNat*2) 0) (fun w h=>iy (K:=gB) (o:=0) (m:=2) (sub:= [iv Cl.n,iv Cl.k]) (h.bg 0 aL aZ m2 kr) e19),bF aL n ((i+j)/2) 2 qux,cB 432 (((cz aL).add ((((i+j)/2).toNat)*2)).add 0) (fun w h=>iy (K:=gB) (o:=0) (m:=2) (sub:= [iv nw.n,iv nw.k]) (h.bg 0 aL aZ m2 kr) Aj),bT (ED Cl nw) jU,trivial⟩<|cU ((dO nw.n Cl.n)<0) (fun tH=>?_) (fun tH=>?_)
    ·refine aa 3 fun _=>ao 105 (((i+j)/2)+1)<|aa 3 fun _=>jr _ (((i+j)/2)+1,j,m2) [0] kr ⟨pZ,⟨by omega,by omega,by omega⟩⟩ du
    ·refine aa 5 fun _=>jr _ (i,(i+j)/2,m2) [0] kr ⟨pZ,⟨by omega,by omega,by omega⟩⟩ du
   ·refine aa 8 fun _=>aR (σ:=Int×List nH) (fun (k,m3)=> [(0,sl aL n aZ),(1,iv a),(2,iv q),(3,iv b),(4,.func (.func 331) #[] #[]),(14,iv i),(17,iv k)]) (fun (k,m3)=> [.k (gB.row aL aZ m3)]) (fun (k,m3)=>m3.Perm ns∧k≤q) (fun (k,m3)=>(k-i).toNat) (q,m2) [0] ⟨pZ,by omega⟩ ?_
    rintro _ ⟨k,m3⟩ ⟨AG,hk⟩ pg
    have Ya:m3.length=n:=by rw [AG.length_eq];omega
    refine aa 7 fun _=>aq (k>i) (fun Yc=>?_) (fun Yc=>?_)
    ·refine aa 3 fun _=>Exists.elim (aw (xs:=m3) (k:=(k-1).toNat) dg) fun vn Tl=>Exists.elim (aw (xs:=m3) (k:=k.toNat) dg) fun l9 vo=>Exists.elim (aw (xs:=m3.set k.toNat vn) (k:=(k-1).toNat) dg) fun nG CV=>aO [(4,_),(7,_),(8,_),(9,_),(12,_),(13,_),(14,_),(15,_),(16,_),(17,_)] [] ⟨fc (fun vs=>k-1),fc (fun vs=>k-1),br (fun vs=>aL) (fun vs=>n) (fun vs=>k-1) 2 qt6,cZ 432 (fun vs=>((cz aL).add (((k-1).toNat)*2)).add 0) (fun vs=>bZ.V ⟨vn.n,vn.k⟩) (fun vs w h=>iy (K:=gB) (o:=0) (m:=2) (sub:= [iv vn.n,iv vn.k]) (h.bg 0 aL aZ m3 kr) Tl),qwr,cZ 432 (fun vs=>ad aL (k.toNat*2) 0) (fun vs=>bZ.V ⟨l9.n,l9.k⟩) (fun vs w h=>iy (K:=gB) (o:=0) (m:=2) (sub:= [iv l9.n,iv l9.k]) (h.bg 0 aL aZ m3 kr) vo),qwr,cR gB 0 (fun vs=>aL) (fun vs=>aZ) (fun vs=>m3) k.toNat 0 (fun vs=>l9) (fun vs=>vn) 432 (fun vs=>bZ.V ⟨vn.n,vn.k⟩) (fun _=>vo),br (fun vs=>aL) (fun vs=>n) (fun vs=>k-1) 2 (fun vs w h=>Kd.cd (K:=gB) (xs:=m3.set k.toNat vn) (h.bg 0 aL aZ (m3.set k.toNat vn) kr) dg),cR gB 1 (fun vs=>aL) (fun vs=>aZ) (fun vs=>m3.set k.toNat vn) ((k-1).toNat) 0 (fun vs=>nG) (fun vs=>l9) 432 (fun vs=>bZ.V ⟨l9.n,l9.k⟩) (fun _=>CV),trivial⟩ fun v30=>aa 4 fun _=>ao 112 (k-1)<|aa 2 fun _=>pg _ (k-1,(m3.set k.toNat vn).set ((k-1).toNat) l9) [2] kr ⟨((swap_perm vo Tl).trans AG),by omega⟩ du
    ·refine aa 1 fun _=>a_ [0] ⟨m3,kr,AG,kr⟩
  ·refine aa 6 fun _=>ao 131 (a+b)<|aa 1 fun _=>aC 132 (.int .u64 (a+b)) (.int .u64 (IntKind.u64.wrap (a+b))) qen<|aa 1 fun _=>aC 133 (.int .u64 ((a+b)/2)) (.int .u64 (Int.fdiv (a+b) (2^1))) qie<|aa 1 fun _=>aC 134 (iv ((a+b)/2)) (iv (IntKind.i64.wrap ((a+b)/2))) Yb<|aa 7 fun _=>ao 137 (((a+b)/2)+q)<|aa 14 fun _=>?_
   refine dj (σ:=Int×Int) (fun (s0,r0)=> [(0,sl aL n aZ),(1,iv a),(2,iv q),(3,iv b),(4,.func (.func 331) #[] #[]),(18,iv ((a+b)/2)),(19,iv (((a+b)/2)+q)),(20,iv s0),(21,iv r0)]) (fun (s0,r0)=> [.k (gB.row aL aZ ns)]) (fun (s0,r0)=>a≤s0∧s0≤r0∧r0≤q∧r0≤(a+b)/2∧(a+b)/2+q≤s0+b) ?_ ?_
   ·rintro ⟨s0,r0⟩ ⟨S8,lu,hs3,hs4,hs5⟩
    refine aa 4 fun _=>ao 148 ((((a+b)/2)+q)-1)<|aa 4 fun _=>aR (σ:=Int×Int×List nH) (fun (i,j,m5)=> [(0,sl aL n aZ),(1,iv a),(2,iv q),(3,iv b),(4,.func (.func 331) #[] #[]),(18,iv ((a+b)/2)),(19,iv (((a+b)/2)+q)),(20,iv i),(21,iv j),(22,iv ((((a+b)/2)+q)-1))]) (fun (i,j,m5)=> [.k (gB.row aL aZ m5)]) (fun (i,j,m5)=>m5.Perm ns∧s0≤i∧i≤j∧j≤r0) (fun (i,j,m5)=>(j-i).toNat) (s0,r0,ns) [0] ⟨(List.Perm.refl _),⟨by omega,by omega,by omega⟩⟩ ?_
    rintro _ ⟨i,j,m5⟩ ⟨rG,⟨hi,JC,hj⟩⟩ rH
    have Oj:m5.length=n:=by rw [rG.length_eq];omega
    refine aa 7 fun _=>aq (i<j) (fun Yd=>?_) (fun Yd=>?_)
    ·refine aa 7 fun _=>ao 154 (i+j)<|aa 1 fun _=>aC 155 (.int .u64 (i+j)) (.int .u64 (IntKind.u64.wrap (i+j))) qen<|aa 1 fun _=>aC 156 (.int .u64 ((i+j)/2)) (.int .u64 (Int.fdiv (i+j) (2^1))) qie<|aa 1 fun _=>aC 157 (iv ((i+j)/2)) (iv (IntKind.i64.wrap ((i+j)/2))) Yb<|aa 3 fun _=>Exists.elim (aw (xs:=m5) (k:=(((((a+b)/2)+q)-1)- ((i+j)/2)).toNat) dg) fun xO Tm=>Exists.elim (aw (xs:=m5) (k:=((i+j)/2).toNat) dg) fun ot Ni=>?_
     refine aK [(4,_),(5,_),(6,bZ.V ⟨xO.n,xO.k⟩),(9,_),(10,bZ.V ⟨ot.n,ot.k⟩),(11,iv (dO ot.n xO.n))] [] ⟨fM (((((a+b)/2)+q)-1)- ((i+j)/2)),bF aL n (((((a+b)/2)+q)-1)- ((i+j)/2)) 2 quw,cB 432 (((cz aL).add (((((((a+b)/2)+q)-1)- ((i+j)/2)).toNat)*2)).add 0) (fun w h=>iy (K:=gB) (o:=0) (m:=2) (sub:= [iv xO.n,iv xO.k]) (h.bg 0 aL aZ m5 kr) Tm),bF aL n ((i+j)/2) 2 quw,cB 432 (((cz aL).add ((((i+j)/2).toNat)*2)).add 0) (fun w h=>iy (K:=gB) (o:=0) (m:=2) (sub:= [iv ot.n,iv ot.k]) (h.bg 0 aL aZ m5 kr) Ni),bT (ED xO ot) jU,trivial⟩<|cU ((dO ot.n xO.n)<0) (fun Ye=>?_) (fun Ye=>?_)
     ·refine aa 3 fun _=>ao 173 (((i+j)/2)+1)<|aa 3 fun _=>rH _ (((i+j)/2)+1,j,m5) [0] kr ⟨rG,⟨by omega,by omega,by omega⟩⟩ du
     ·refine aa 5 fun _=>rH _ (i,(i+j)/2,m5) [0] kr ⟨rG,⟨by omega,by omega,by omega⟩⟩ du
    ·refine aa 6 fun _=>ao 177 ((((a+b)/2)+q)-i)<|aa 4 fun _=>dj (σ:=Bool) (fun Gh=> [(0,sl aL n aZ),(1,iv a),(2,iv q),(3,iv b),(4,.func (.func 331) #[] #[]),(18,iv ((a+b)/2)),(20,iv i),(24,iv ((((a+b)/2)+q)-i)),(185,.bool Gh)]) (fun Gh=> [.k (gB.row aL aZ m5)]) (fun Gh=>Gh=true→i<q∧q<((((a+b)/2)+q)-i)) ?_ ?_
     ·rintro Gh Yf
      refine dj (σ:=List nH) (fun y7=> [(0,sl aL n aZ),(1,iv a),(3,iv b),(4,.func (.func 331) #[] #[]),(18,iv ((a+b)/2)),(20,iv i),(24,iv ((((a+b)/2)+q)-i))]) (fun y7=> [.k (gB.row aL aZ y7)]) (fun y7=>y7.Perm ns∧True) ?_ ?_
      ·rintro y7 ⟨Tn,_⟩
       have aq2:y7.length=n:=by rw [Tn.length_eq];omega
       refine aa 2 fun _=>dj (σ:=Bool) (fun Gi=> [(0,sl aL n aZ),(1,iv a),(3,iv b),(4,.func (.func 331) #[] #[]),(18,iv ((a+b)/2)),(20,iv i),(24,iv ((((a+b)/2)+q)-i)),(199,.bool Gi)]) (fun Gi=> [.k (gB.row aL aZ y7)]) (fun Gi=>Gi=true→a<i∧i<((a+b)/2)) ?_ ?_
       ·rintro Gi Yg
        refine dj (σ:=List nH) (fun y9=> [(0,sl aL n aZ),(3,iv b),(4,.func (.func 331) #[] #[]),(18,iv ((a+b)/2)),(24,iv ((((a+b)/2)+q)-i))]) (fun y9=> [.k (gB.row aL aZ y9)]) (fun y9=>y9.Perm ns∧True) ?_ ?_
        ·rintro y9 ⟨To,_⟩
         have aq3:y9.length=n:=by rw [To.length_eq];omega
         refine aa 1 fun _=>dj (σ:=Bool) (fun Gj=> [(0,sl aL n aZ),(3,iv b),(4,.func (.func 331) #[] #[]),(18,iv ((a+b)/2)),(24,iv ((((a+b)/2)+q)-i)),(213,.bool Gj)]) (fun Gj=> [.k (gB.row aL aZ y9)]) (fun Gj=>Gj=true→((a+b)/2)<((((a+b)/2)+q)-i)∧((((a+b)/2)+q)-i)<b) ?_ ?_
         ·rintro Gj Yh
          refine eQ Gj (fun C4=>?_) (fun C4=>?_)
          ·have ajh:=Yh C4
           refine aa 6 fun _=>ah (ih aL aZ n y9 ((a+b)/2) ((((a+b)/2)+q)-i) b dg (by omega) (by omega) (by omega)) [0] cJ ?_
           rintro _ _ ⟨m38,rfl,f39,rfl⟩
           have ajj:m38.length=n:=by rw [f39.length_eq];first|omega|(simp only [cX];omega)
           refine aa 1 fun _=>a_ [1] ⟨m38,kr,(f39.trans To),kr⟩
          ·refine aa 1 fun _=>a_ [0] ⟨y9,kr,To,kr⟩
         ·intro _ JD
          refine aa 5 fun _=>aG 209 (((a+b)/2)<((((a+b)/2)+q)-i)) (fun h40=>?_) (fun h40=>?_)
          ·refine aa 5 fun _=>JD _ (decide (((((a+b)/2)+q)-i)<b)) [0] kr (fun h=>qlj)
          ·refine aa 5 fun _=>JD _ false [0] kr (fun h=>absurd h (by decide))
        ·intro _ Rx
         refine eQ Gi (fun Ry=>?_) (fun Ry=>?_)
         ·have ajk:=Yg Ry
          refine aa 6 fun _=>ah (ih aL aZ n y7 a i ((a+b)/2) dg (by omega) (by omega) (by omega)) [0] cJ ?_
          rintro _ _ ⟨Yi,rfl,f43,rfl⟩
          have Yj:Yi.length=n:=by rw [f43.length_eq];first|omega|(simp only [cX];omega)
          refine aa 1 fun _=>Rx _ Yi [1] kr ⟨(f43.trans Tn),trivial⟩
         ·refine aa 1 fun _=>Rx _ y7 [0] kr ⟨Tn,trivial⟩
       ·intro _ EE
        refine aa 5 fun _=>aG 195 (a<i) (fun JE=>?_) (fun JE=>?_)
        ·refine aa 5 fun _=>EE _ (decide (i<((a+b)/2))) [0] kr (fun h=>qlj)
        ·refine aa 5 fun _=>qny
      ·intro _ Rz
       refine eQ Gh (fun RA=>?_) (fun RA=>?_)
       ·have ajm:=Yf RA
        refine aa 6 fun _=>ah (X' aL aZ n m5 i q ((((a+b)/2)+q)-i) dg (by omega) (by omega)) [0] cJ ?_
        rintro _ _ ⟨m46,rfl,f47,rfl⟩
        have ajo:m46.length=n:=by rw [f47.length_eq];first|omega|(simp only [cX];omega)
        refine aa 1 fun _=>Rz _ m46 [1] kr ⟨(f47.trans rG),trivial⟩
       ·refine aa 1 fun _=>Rz _ m5 [0] kr ⟨rG,trivial⟩
     ·intro _ EF
      refine aa 5 fun _=>aG 181 (i<q) (fun h48=>?_) (fun h48=>?_)
      ·refine aa 5 fun _=>EF _ (decide (q<((((a+b)/2)+q)-i))) [0] kr (fun h=>qlj)
      ·refine aa 5 fun _=>qnz
   ·intro _ nI
    refine aq (q>((a+b)/2)) (fun h49=>?_) (fun h49=>?_)
    ·refine aa 5 fun _=>ao 143 ((((a+b)/2)+q)-b)<|aa 6 fun _=>nI _ ((((a+b)/2)+q)-b,(a+b)/2) [0] kr ⟨by omega,by omega,by omega,by omega,by omega⟩
    ·refine aa 9 fun _=>nI _ (a,q) [0] kr ⟨by omega,by omega,by omega,by omega,by omega⟩
def RB: ∀(k_:Nat) (aL:OA) (aZ n:Nat) (ns:List nH) (a q b:Int) (hn:ns.length=n) (hl:n≤1000000) (wB:0≤a∧a<q∧q<b∧b≤n) (hd:(b-a).toNat<k_),Ct Cp 334 #[sl aL n aZ,iv a,iv q,iv b,.func (.func 331) #[] #[]] (fun _=>True) [gB.row aL aZ ns] (fun v Cs=> ∃m,v=.tuple #[]∧m.Perm ns∧Cs= [gB.row aL aZ m]):=by
 intro k_
 induction k_ with
 |zero=>intros;omega
 |succ k_ ih=>exact Tk k_ ih
def Gk (aL:OA) (aZ n:Nat) (ns:List nH) (e_:Int) (hn:ns.length=n) (hl:n≤1000000) (he:e_=(n:Int)):Ct Cp 332 #[sl aL n aZ,iv e_,.func (.func 331) #[] #[]] (fun _=>True) [gB.row aL aZ ns] (fun v Cs=> ∃m,v=.tuple #[]∧m.Perm ns∧Cs= [gB.row aL aZ m]):=by
 refine Fz [.k (gB.row aL aZ ns)] Tryz.func332 fun U w0 hp=>aa 12 fun _=>aR (σ:=Int×List nH) (fun (i,m)=> [(0,sl aL n aZ),(1,iv e_),(2,.func (.func 331) #[] #[]),(6,iv 20),(7,iv i),(8,iv (i+20))]) qkz (fun (i,m)=>m.Perm ns∧0≤i∧i≤n) (fun (i,m)=>(n+1- (i+20)).toNat) (0,ns) [0] ⟨(List.Perm.refl _),⟨by omega,by omega⟩⟩ ?_
 rintro _ ⟨i,m⟩ ⟨jA,⟨hi,pI⟩⟩ aB
 have Ga:m.length=n:=by rw [jA.length_eq];omega
 refine aa 7 fun _=>aq ((i+20)≤e_) (fun h1=>?_) (fun h1=>?_)
 ·refine aa 8 fun _=>ah (AE aL aZ n m i (i+20) dg (by omega) (by omega)) [0] cJ ?_
  rintro _ _ ⟨m2,rfl,f3,rfl⟩
  have Jp:m2.length=n:=by rw [f3.length_eq];first|omega|(simp only [cX];omega)
  refine aa 10 fun _=>ao 22 ((i+20)+20)<|aa 3 fun _=>aB _ (i+20,m2) [1] kr ⟨(f3.trans jA),⟨by omega,by omega⟩⟩ du
 ·refine aa 7 fun _=>ah (AE aL aZ n m i e_ dg (by omega) (by omega)) [0] cJ ?_
  rintro _ _ ⟨m4,rfl,f5,rfl⟩
  have adY:m4.length=n:=by rw [f5.length_eq];first|omega|(simp only [cX];omega)
  refine aa 2 fun _=>aR (σ:=Int×List nH) (fun (z,m1)=> [(0,sl aL n aZ),(1,iv e_),(2,.func (.func 331) #[] #[]),(6,iv z)]) (fun (z,m1)=> [.k (gB.row aL aZ m1)]) (fun (z,m1)=>m1.Perm ns∧20≤z∧z≤2000000) (fun (z,m1)=>(n-z).toNat) (20,m4) [1] ⟨(f5.trans jA),⟨by omega,by omega⟩⟩ ?_
  rintro _ ⟨z,m1⟩ ⟨jT,⟨hz,wu⟩⟩ dG
  have CR:m1.length=n:=by rw [jT.length_eq];omega
  refine aa 7 fun _=>aq (z<e_) (fun h6=>?_) (fun h6=>?_)
  ·refine aa 6 fun _=>ao 32 (2*z)<|aa 5 fun _=>aC 8 (iv (0+2*z)) (iv (2*z)) (by rw [Int.zero_add])<|aR (σ:=Int×List nH) (fun (i,m2)=> [(0,sl aL n aZ),(1,iv e_),(2,.func (.func 331) #[] #[]),(6,iv z),(7,iv i),(8,iv (i+2*z)),(30,.bool (decide (z<e_)))]) (fun (i,m2)=> [.k (gB.row aL aZ m2)]) (fun (i,m2)=>m2.Perm ns∧0≤i∧i≤n) (fun (i,m2)=>(n+1- (i+2*z)).toNat) (0,m1) [0] ⟨jT,⟨by omega,by omega⟩⟩ ?_
   rintro _ ⟨i,m2⟩ ⟨pZ,⟨hi,pI⟩⟩ jr
   have Jp:m2.length=n:=by rw [pZ.length_eq];omega
   refine aa 7 fun _=>aq ((i+2*z)≤e_) (fun h7=>?_) (fun h7=>?_)
   ·refine aa 9 fun _=>ao 40 (i+z)<|aa 2 fun _=>ah (RB 1000002 aL aZ n m2 i (i+z) (i+2*z) dg (by omega) (by omega) (by omega)) [0] cJ ?_
    rintro _ _ ⟨m8,rfl,f9,rfl⟩
    have aq6:m8.length=n:=by rw [f9.length_eq];first|omega|(simp only [cX];omega)
    refine aa 10 fun _=>ao 47 (2*z)<|aa 1 fun _=>ao 48 ((i+2*z)+(2*z))<|aa 3 fun _=>jr _ (i+2*z,m8) [1] kr ⟨(f9.trans pZ),⟨by omega,by omega⟩⟩ du
   ·refine aa 7 fun _=>ao 51 (i+z)<|aa 8 fun _=>dj (σ:=List nH) (fun y3=> [(0,sl aL n aZ),(1,iv e_),(2,.func (.func 331) #[] #[]),(6,iv z)]) (fun y3=> [.k (gB.row aL aZ y3)]) (fun y3=>y3.Perm ns∧True) ?_ ?_
    ·rintro y3 ⟨Yk,_⟩
     have aq7:y3.length=n:=by rw [Yk.length_eq];omega
     refine aa 3 fun _=>ao 62 (z*2)<|aa 3 fun _=>dG _ (z*2,y3) [0] kr ⟨Yk,⟨by omega,by omega⟩⟩ du
    ·intro _ kK
     refine aq ((i+z)<e_) (fun iJ=>?_) (fun iJ=>?_)
     ·refine aa 6 fun _=>ah (RB 1000002 aL aZ n m2 i (i+z) e_ dg (by omega) (by omega) (by omega)) [0] cJ ?_
      rintro _ _ ⟨xP,rfl,f12,rfl⟩
      have Yl:xP.length=n:=by rw [f12.length_eq];first|omega|(simp only [cX];omega)
      refine aa 1 fun _=>kK _ xP [1] kr ⟨(f12.trans pZ),trivial⟩
     ·refine aa 1 fun _=>kK _ m2 [0] kr ⟨pZ,trivial⟩
  ·exact qj8
def JF (aL:OA) (aZ n:Nat) (ns:List nH) (hn:ns.length=n) (hl:n≤1000000):Ct Cp 330 #[sl aL n aZ,.func (.func 331) #[] #[]] (fun _=>True) [gB.row aL aZ ns] (fun v Cs=> ∃m,v=.tuple #[]∧m.Perm ns∧Cs= [gB.row aL aZ m]):=by
 refine Fz [.k (gB.row aL aZ ns)] Tryz.func330 fun U w0 hp=>aa 5 fun _=>ah (Gk aL aZ n ns (n:Int) dg (by omega) (by omega)) [0] cJ ?_
 rintro _ _ ⟨m1,rfl,f2,rfl⟩
 have CR:m1.length=n:=by rw [f2.length_eq];first|omega|(simp only [cX];omega)
 refine aa 1 fun _=>a_ [1] ⟨m1,kr,f2,kr⟩

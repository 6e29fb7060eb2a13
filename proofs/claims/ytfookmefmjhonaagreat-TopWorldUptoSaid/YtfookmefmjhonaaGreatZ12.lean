/- For the law of worlds: The engine. -/
import Derived.Test.YtfookmefmjhonaaGreatZ11
set_option linter.all false
namespace Go.bE
open Go.RowKit
section
variable {P:Program} {n:Nat} {U:Nat→Prop} {w0 w:World} {Q:Exit→Act→World→Prop} {s:S}
def flO (P:Program) (L:Env):Op×TypeId→Option Value
 |(.convert t t2 x,_)=>match P.underlying t,P.underlying t2,L.ev x with
  |some _,some (.float k),.int _ m=>some (.float k (floatOfInt k m))
  |_,_,_=>none
 |(.call ⟨.builtin .complex,args,_⟩,_)=>match args.toList.map L.ev with
  | [.float .f64 a,.float .f64 b]=>some (.complex .f64 a b)
  |_=>none
 |(.call ⟨.builtin .real,args,_⟩,_)=>match args.toList.map L.ev with
  | [.complex k a _]=>some (.float k a)
  |_=>none
 |(.call ⟨.builtin .imag,args,_⟩,_)=>match args.toList.map L.ev with
  | [.complex k _ b]=>some (.float k b)
  |_=>none
 |_=>none
def fiO (P:Program) (L:Env):Op×TypeId→Option (Nat×Bool)
 |(.convert t t2 x,_)=>match L.ev x with
  |.float .f64 b=>some (b,(P.underlying t).isSome&&(match P.underlying t2 with|some (.int .i64)=>true|_=>false))
  |_=>none
 |_=>none
def UO (ts:Array TypeId) (t:TypeId) (a b:Nat):Builtin.complex_ ts t #[.float .f64 a,.float .f64 b]=pure (.complex .f64 a b):=rfl
def UP (ts:Array TypeId) (t:TypeId) (k:FloatKind) (a b:Nat):Builtin.real_ ts t #[.complex k a b]=pure (.float k a):=rfl
def UQ (ts:Array TypeId) (t:TypeId) (k:FloatKind) (a b:Nat):Builtin.imag_ ts t #[.complex k a b]=pure (.float k b):=rfl
def Lu {v:Value} {x:Op×TypeId} {L:Env} {ops:Array Oper} {i:Nat} (hx:ef ops L i=some x) (h:flO P L x=some v) {Post:Value→World→Prop} (hp:Post v w):One P n ops Q i L w Post:=by
 unfold flO at h
 split at h
 ·split at h
  ·rename_i h1 h2 h3
   simp only [a9] at h
   subst h
   exact cY hx (w':=w) (by simp only [ex,execOp,h3];simp [run_convert_int_float w _ _ _ _ _ (Option.isSome_iff_exists.2 ⟨_,h1⟩) h2]) hp
  ·cases h
 ·rename_i args ts ty
  split at h
  ·rename_i a b ha
   simp only [a9] at h
   subst h
   rcases hl:args.toList with _|⟨x1,_|⟨x2,_|⟨x3,l⟩⟩⟩<;>rw [hl] at ha<;>simp only [List.map_nil,fm,List.cons.injEq,reduceCtorEq,and_false,and_true,List.nil_eq] at ha
   have jC:=qF hl
   subst jC
   exact cY hx (w':=w) (by simp only [ex,execOp,resolve,invoke,builtin];simp [ha.1,ha.2,UO]) hp
  ·cases h
 ·rename_i args ts ty
  split at h
  ·rename_i k a b ha
   simp only [a9] at h
   subst h
   rcases hl:args.toList with _|⟨x1,_|⟨x2,l⟩⟩<;>rw [hl] at ha<;>simp only [List.map_nil,fm,List.cons.injEq,reduceCtorEq,and_false,and_true,List.nil_eq] at ha
   have jC:=qF hl
   subst jC
   exact cY hx (w':=w) (by simp only [ex,execOp,resolve,invoke,builtin];simp [ha,UP]) hp
  ·cases h
 ·rename_i args ts ty
  split at h
  ·rename_i k a b ha
   simp only [a9] at h
   subst h
   rcases hl:args.toList with _|⟨x1,_|⟨x2,l⟩⟩<;>rw [hl] at ha<;>simp only [List.map_nil,fm,List.cons.injEq,reduceCtorEq,and_false,and_true,List.nil_eq] at ha
   have jC:=qF hl
   subst jC
   exact cY hx (w':=w) (by simp only [ex,execOp,resolve,invoke,builtin];simp [ha,UQ]) hp
  ·cases h
 ·cases h
def UR {b:Nat} {m:Int} {x:Op×TypeId} {L:Env} {ops:Array Oper} {i:Nat} (hx:ef ops L i=some x) (h:fiO P L x=some (b,true)) (hm:floatToIntVal .f64 b .i64=some m) {Post:Value→World→Prop} (hp:Post (.int .i64 m) w):One P n ops Q i L w Post:=by
 unfold fiO at h
 split at h
 ·rename_i t t2 x ty
  split at h
  ·rename_i b' h1
   simp only [a9,bI,da] at h
   obtain ⟨rfl,h2,h3⟩:=h
   split at h3
   ·rename_i hu
    exact cY hx (w':=w) (by simp only [ex,execOp,h1];simp [run_convert_float_int w _ _ _ _ _ _ h2 hu hm]) hp
   ·cases h3
  ·cases h
 ·cases h
def US (v:Value) (g:G P n U w0 Q (s.dT v s.H)) (h:(s.nx (flO P),s.vu n)=(some v,true):=by kernel_rfl):G P n U w0 Q s:=by
 simp only [bI] at h
 obtain ⟨h1,h2⟩:=h
 obtain ⟨x,hc,h1⟩:=S.fU h1
 exact iS h2 fun w hS ops Q' i hx=>Lu (hx.trans hc) h1 ⟨_,hS,g⟩
def ZU {V:List Value} {i:Nat} (v:Value) (h:s.qx V i (flO P)=some v:=by kernel_rfl):vw P n U w0 s V i v:=by
 obtain ⟨x,hx,h1⟩:=S.dU h
 exact ⟨fun Q' w K hS=>Lu hx h1 ⟨rfl,hS⟩⟩
def ZV {V:List Value} {i:Nat} (b:Nat) (m:Int) (hm:floatToIntVal .f64 b .i64=some m) (h:s.qx V i (fiO P)=some (b,true):=by kernel_rfl):vw P n U w0 s V i (.int .i64 m):=by
 obtain ⟨x,hx,h1⟩:=S.dU h
 exact ⟨fun Q' w K hS=>UR hx h1 hm ⟨rfl,hS⟩⟩
def ZW (way:Ieee.Toward) (neg:Bool) (n:Nat):way.cut neg n 0=n:=by
 unfold Ieee.Toward.cut
 rw [fD (bh _)]
 cases way<;>simp [Nat.mod_one]
def DF {m:Nat} (h0:0<m) (h:m<2^53):FloatKind.nearest .f64 (m:Int)=(m.log2+1022)*2^52+m*2^(52-m.log2)∧2^52≤m*2^(52-m.log2)∧m*2^(52-m.log2)<2^53∧m.log2≤52:=by
 have hl:m.log2≤52:=by have:=(Nat.log2_lt (n:=m) (k:=53) (by omega)).2 h;omega
 have h1:=Nat.log2_self_le (n:=m) (by omega)
 have h2:=Nat.lt_log2_self (n:=m)
 have e: ∀L,L≤52→(2:Nat)^L*2^(52-L)=2^52:=fun L hL=>by rw [← Nat.pow_add];congr 1;omega
 have e1:=e m.log2 hl
 have hp:0<2^(52-m.log2):=Nat.pow_pos (by decide)
 have h3:2^52≤m*2^(52-m.log2):=by rw [← e1];exact dC _ h1
 have h4:m*2^(52-m.log2)<2^53:=by
  have h5:(m+1)*2^(52-m.log2)≤2^(m.log2+1)*2^(52-m.log2):=dC _ h2
  have h6:2^(m.log2+1)*2^(52-m.log2)=2^53:=by rw [Nat.pow_succ,Nat.mul_right_comm,e1]
  rw [h6,Nat.add_mul] at h5
  omega
 refine ⟨?_,h3,h4,hl⟩
 have hd:FloatKind.nearest .f64 (m:Int)=Ieee.Format.nearest Ieee.double false m 0:=by
  unfold FloatKind.nearest FloatKind.encode FloatKind.format Ieee.Format.write
  rw [show decide ((m:Int)<0)=false by simp,Int.natAbs_natCast]
 rw [hd]
 clear hd
 unfold Ieee.Format.nearest
 rw [if_neg (by omega)]
 dsimp only
 have IN:Ieee.double.leastPlace= -1074:=by decide
 have hfb:Ieee.double.fractionBits=52:=rfl
 have NI:Ieee.double.binade=2^52:=rfl
 have hir:Ieee.double.infRung=2047*2^52:=by decide
 rw [IN,hfb,NI,hir]
 have Lv:max ((0:Int)+m.log2- (52:Nat)) (-1074)=(m.log2:Int)-52:=by omega
 rw [Lv]
 have ha:((m.log2:Int)-52-0).toNat=0:=by omega
 have hb:((0:Int)- ((m.log2:Int)-52)).toNat=52-m.log2:=by omega
 have hc:((m.log2:Int)-52- -1074).toNat=m.log2+1022:=by omega
 rw [ha,hb,hc,ZW,Nat.shiftLeft_eq]
 have hw: ∀r,Ieee.double.word false r=r:=fun r=>rfl
 rw [hw]
 rw [fD]
 have:(m.log2+1022)*2^52≤1074*2^52:=dC _ (by omega)
 exact eF (Nat.add_le_add this (Nat.le_of_lt h4)) (by decide)
def DG {m:Nat} (h:m<2^53):floatToIntVal .f64 (FloatKind.nearest .f64 (m:Int)) .i64=some (m:Int):=by
 have agE:IntKind.min .i64≤(m:Int)∧(m:Int)≤IntKind.max .i64:=by
  have h1:IntKind.min .i64= -9223372036854775808:=by decide
  have h2:IntKind.max .i64=9223372036854775807:=by decide
  rw [h1,h2]
  have:(2:Nat)^53=9007199254740992:=by decide
  omega
 have key:(FloatKind.decode .f64 (FloatKind.nearest .f64 (m:Int))).toInt .zero=some (m:Int):=by
  rcases Nat.eq_zero_or_pos m with rfl|h0
  ·decide
  ·obtain ⟨hn,h3,h4,hl⟩:=DF h0 h
   rw [hn]
   show (Ieee.Format.read Ieee.double _).toInt .zero=_
   have hsw:Ieee.double.signWeight=2^63:=by decide
   have IN:Ieee.double.leastPlace= -1074:=by decide
   have NI:Ieee.double.binade=2^52:=rfl
   have hir:Ieee.double.infRung=2047*2^52:=by decide
   generalize hk:m*2^(52-m.log2)=k at h3 h4
   have hw:(m.log2+1022)*2^52+k<2^63:=by
    have:(m.log2+1022)*2^52≤1074*2^52:=dC _ (by omega)
    have e63:(2:Nat)^63=2048*2^52:=by decide
    exact qqa
   unfold Ieee.Format.read
   rw [hsw,IN,NI,hir,Nat.div_eq_of_lt hw,Nat.mod_eq_of_lt hw]
   have h5: ¬ ((m.log2+1022)*2^52+k<2^52):=by omega
   have h6:(m.log2+1022)*2^52+k<2047*2^52:=by
    have:(m.log2+1022)*2^52≤1074*2^52:=dC _ (by omega)
    exact qqa
   rw [if_neg h5,if_pos h6]
   have h7:((m.log2+1022)*2^52+k)% 2^52=k-2^52:=by
    have Ud:(2:Nat)^53=2*2^52:=by decide
    rw [Nat.mul_comm,Nat.mul_add_mod]
    rw [Nat.mod_eq_sub_mod h3,Nat.mod_eq_of_lt (by omega)]
   have h8:((m.log2+1022)*2^52+k)/2^52=m.log2+1023:=by
    have Ud:(2:Nat)^53=2*2^52:=by decide
    rw [Nat.mul_comm,Nat.mul_add_div (by decide)]
    have:k/2^52=1:=by
     apply Nat.div_eq_of_lt_le<;>omega
    omega
   rw [h7,h8]
   have h9:2^52+(k-2^52)=k:=by omega
   have iJ:(-1074:Int)+((m.log2+1023-1:Nat):Int)=(m.log2:Int)-52:=by omega
   rw [h9,iJ]
   unfold Ieee.Datum.toInt Ieee.Datum.integral
   dsimp only
   have ha:((m.log2:Int)-52).toNat=0:=by omega
   have hb:(-((m.log2:Int)-52)).toNat=52-m.log2:=by omega
   rw [ha,hb,Nat.shiftLeft_zero]
   have agF:Ieee.Toward.zero.cut false k (52-m.log2)=m:=by
    unfold Ieee.Toward.cut
    dsimp only
    have Db:k.log2=52:=by
     have a1:=(Nat.log2_lt (n:=k) (k:=53) (by omega)).2 h4
     have a2:=(Nat.le_log2 (n:=k) (k:=52) (by omega)).2 h3
     omega
    rw [Db,fD (by omega),Nat.one_shiftLeft,← hk,Nat.mul_div_cancel _ (Nat.pow_pos (by decide))]
    rfl
   show some (Ieee.signed _ _ 0)=_
   have agG:((0:Nat)% 2==1)=false:=by decide
   rw [agG,agF]
   simp [Ieee.signed]
 unfold floatToIntVal
 rw [key]
 simp only [agE,and_self,if_true]
end
section
variable {P:Program} {n:Nat} {U:Nat→Prop} {w0 w:World} {Q:Exit→Act→World→Prop} {s:S} {ez:Ez} {hs:List Nat} {i:Nat}
def ahw {α:Type} (K:Kd α) (m:Nat) (x0:α) (h: ∀vs,(s.ox P n ez hs i vs (mkO P),fK P K.e K.sz,((P.info? K.e).bind (·.zero)).map (·.cells.toList))=(some (K.e,.int .i64 (m:Int),.int .i64 (m:Int)),true,some (K.f x0)):=by intro _;kernel_rfl) (hb:m≤1073741824:=by omega):ke P n U w0 s ez hs i ⟨[],fun vs=>.slice (ak (vs i)) m m,[fun vs=>.k (K.row (ak (vs i)) m (List.replicate m x0))]⟩:=by
 refine ⟨fun vs Q' w K' hS=>?_⟩
 have hh:=h vs
 simp only [bI] at hh
 obtain ⟨h1,h2,h3⟩:=hh
 obtain ⟨z,hx,h1⟩:=S.dU h1
 refine mk_one K hx h1 h2 h3 hb (H:=(s.D P n ez hs vs).jh (kT s.mI (s.D P n ez hs vs) i)++K') (by exact hS) fun a w' hw=>?_
 have e:ik vs i (.slice (some a) m m) i=.slice (some a) m m:=by simp [ik]
 refine ⟨by simp only [e];rfl,?_⟩
 simp only [fm,List.map_nil,e]
 exact hw
end
section
abbrev pv (g:Nat):Value:=.pointer (some ⟨g,0,none⟩)
abbrev so (g:Nat):OA:=some ⟨g,0,none⟩
abbrev ad (A:OA) (k o:Nat):Addr:=((cz A).add k).add o
variable {P:Program} {n:Nat} {U:Nat→Prop} {w0 w:World} {Q:Exit→Act→World→Prop} {s:S} {ez:Ez} {hs:List Nat} {V:List Value} {i:Nat}
def aa (k:Nat) (g: ∀γ,G P n U w0 Q ((run P n γ k ⟨s,[],[],[]⟩).getD default).s) (h: ∀γ,VA (run P n γ k ⟨s,[],[],[]⟩)=VB (run P n γ k ⟨s,[],[],[]⟩):=by intro _;kernel_rfl):G P n U w0 Q s:=ae k [] g h
def a_ {fn:Func} {R:Value→List aM→Prop} (ids:List Nat) (hR:R (s.ret P fn []) (pk s.H ids)) (h:(QK (rW P s.L s.H fn.results.toList []),s.MH,dR s.H.length ids)=(QL (rW P s.L s.H fn.results.toList []),true,true):=by kernel_rfl):G P n U w0 (rV P fn U w0 R) s:=bk [] ids hR h
def bN {α:Type} {K:Kd α} {xs:List α} {A:OA} {k:Nat} {x:α} {t:TypeId} {v:Value} (h:K.Rd A xs w) (hx:xs[k]? =some x) (hv:.agg (K.f x).toArray=v:=by kernel_rfl) (hm:(bc P (isAgg t),bc P (sizeOf t))=(some true,some K.sz):=by kernel_rfl):(loadVar t (((cz A).add (k*K.sz)).add 0)).run P w=.ok v w:=by
 rw [← hv];simp only [bI] at hm
 refine Kd.ldN h hx (o:=0) (m:=K.sz) (by rw [List.drop_zero,cA (by rw [K.len];exact bO _)]) ?_
 rw [K.len,hm.1,hm.2,Nat.zero_add,Nat.ble_eq_true_of_le (bO _),Nat.ble_eq_true_of_le K.pos]
def bW {α:Type} {K:Kd α} {xs:List α} {A:OA} {k o:Nat} {x:α} {t:TypeId} {v:Value} (h:K.Rd A xs w) (hx:xs[k]? =some x) (hv:(K.f x)[o]? =some v:=by kernel_rfl) (ht:bc P (isAgg t)=some false:=by kernel_rfl):(loadVar t (((cz A).add (k*K.sz)).add o)).run P w=.ok v w:=Kd.ld1 h hx hv ht
def iy {α:Type} {K:Kd α} {xs:List α} {A:OA} {k o m:Nat} {x:α} {t:TypeId} {sub:List Value} (h:K.Rd A xs w) (hx:xs[k]? =some x) (hv:((K.f x).drop o).take m=sub:=by kernel_rfl) (hm:(sub.length,Nat.ble (o+m) K.sz,Nat.ble 1 m,bc P (isAgg t),bc P (sizeOf t))=(m,true,true,some true,some m):=by kernel_rfl):(loadVar t (((cz A).add (k*K.sz)).add o)).run P w=.ok (.agg sub.toArray) w:=Kd.ldN h hx hv hm
end

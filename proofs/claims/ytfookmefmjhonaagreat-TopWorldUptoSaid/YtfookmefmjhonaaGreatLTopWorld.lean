/- TopWorld: whatever the script of a world that comes in (any that can be read), the law returns true, and the script reads behind the call as it read before: no replica ever has what nobody issued, and whoever is started again has all that others have of its own. Condition: what is read is of bulk at most 1048576 (the given row's own bound), no other. -/
/- These texts were written long and made short by a program of mine, for the limit of bytes: names have two or three letters (of the engine, the memory, the functions' contracts in order), and what recurs word for word in proofs stands once, as a def whose argument fills itself by that proof where it is named. -/
import Derived.Test.YtfookmefmjhonaaGreatZ45
import Derived.Test.YtfookmefmjhonaaGreatZ46
set_option linter.all false
namespace Go.Proofs.YtfookmefmjhonaaGreat
open Go.ChangeShapes Go.WideShapes Go.ChangeAt Go.RowKit Go.Deep Go.bE My
namespace B8
def QX (rp:Int) (A:OA) (c:Nat) (l:List dz) (w:World) (hA:lZ A l w) (hb:sj l≤4194304):Calls Cp 3 #[.agg #[iv rp,sl A l.length c]] w fun e w'=>e=.returned (.bool true)∧Below w.heap.size w w':=
 (UC rp A c l hb No w hA (SS.nil No w)).mono fun e w' ⟨v,he,C',⟨hv,hC⟩,hs⟩=>by
  subst hv
  exact ⟨he,hs.ch.below⟩
set_option maxRecDepth 100000 in
def opened {H:Type} {enc:TypeId×Value→H} {W:World} {cs:Array Value} {d0:DataW H} {p0:List MemPlace} {fuel:Nat} (hf:uW enc W fuel 24 cs.toList (d0,p0)) (hk:Rows.uptoBulkAll [d0]≤1048576): ∃rp A c,∃l:List dz,cs= #[iv rp,sl A l.length c]∧lZ A l W∧sj l≤4194304:=by
 obtain ⟨ys,n,_,hx,vP,hl,Cr⟩:=DataW.trod_struct Tryz.underlying24 hf
 rw [Qm] at vP
 obtain ⟨cs⟩:=cs
 match cs,vP with
 | [c0,c1],_=>
  have f0:=Cr 0 _ rfl
  have f1:=Cr 1 _ rfl
  obtain ⟨y0,g0⟩:=get_some (i:=0) hl (by decide)
  obtain ⟨y1,g1⟩:=get_some (i:=1) hl (by decide)
  rw [g0] at f0
  rw [g1] at f1
  simp [uV,Qn] at f0 f1
  obtain ⟨rp,rfl⟩:=kh f0
  obtain ⟨A,c,l,rfl,V5,RC⟩:=Qq f1
  refine ⟨rp,A,c,l,rfl,V5,?_⟩
  have h2:=BX (di (f:=(·.1)) (aI g1))
  have h3:d0=.agg (ys.map (·.1)):=congrArg Prod.fst hx
  rw [h3] at hk
  simp only [Rows.uptoBulkAll,Rows.uptoBulk] at hk
  omega
set_option maxRecDepth 100000 in
def MV (H:Type) (enc:TypeId×Value→H) (W:World) (base:Nat) (args:Array Value) (ds gs:List (DataW H)) (before:List MemPlace)
 (QY: ∀(j:Nat) t v,Tryz.f3.params[j]? =some t→args[j]? =some v→Value.okWide Cp W .any base t v)
 (hW:DataW.Whole enc Cp Tryz.f3.params.toList Rows.topWorldSpec.vars false W args.toList ds gs before) (hk:Rows.uptoSmall H (ds++gs)=true):
 Calls Cp 3 args W fun e W'=> ∃v,e=.returned v∧Rows.topWorldSpec.post enc Cp Tryz.f3 false true false false W args v W':=by
 have hW':=hW
 obtain ⟨p,q,hA0,hV,rfl,hfz,zX⟩:=hW
 have hA:DataW.TrodAll enc Cp W 0 (fun _=>true) true Tryz.f3.params.toList args.toList ds p:=hA0
 rw [Tryz.params3] at hA QY
 obtain ⟨v0,vs0,d0,ds0,p0,q0,jC,rfl,rfl,h0,r0⟩:=trodAll_cons hA
 obtain ⟨rfl,rfl,rfl⟩:=trodAll_nil r0
 obtain rfl:args= #[v0]:=by cases args;simp_all
 obtain ⟨rfl,rfl⟩:=trodVars_none hV
 obtain ⟨cs,rfl,rD⟩:=okWide_struct Tryz.underlying24 (QY 0 24 v0 rfl rfl)
 have k0:=h0
 have lt0: ∀x∈p0,x.block<W.heap.size:=by obtain ⟨m,hm⟩:=k0;exact DataW.trod_lt m _ _ _ hm
 obtain ⟨fuel,hf⟩:=h0
 have I9:Rows.uptoBulkAll [d0]≤1048576:=cg hk
 obtain ⟨rp,A,c,l,rfl,V5,hb⟩:=opened (enc:=enc) (W:=W) (cs:=cs) (d0:=d0) (p0:=p0) (fuel:=fuel) hf I9
 clear hA0
 refine (QX rp A c l W V5 hb).mono fun e W' ⟨he,bel⟩=>?_
 subst he
 have hsh:=Below.trod laidOut (P:=Cp) kr (cg kr) k0 bel lt0
 exact ⟨_,rfl,_,_,_,[],_,[],hW',trodAll_mk1 (shut_bool Tryz.underlying4 _),trodAll_mk1 hsh,rfl,bel.frame _,fun h=>by cases h⟩
set_option maxRecDepth 100000 in
def lifted (os:Os) (started:os.Started) (H:Type) (enc:TypeId×Value→H) (F:Stop.Interp):
 ReturnsInHanded {} Tryz.checked os 3 .any ((Rows.OpenSpec.upto Rows.topWorldSpec).pre6 enc Cp Tryz.f3 Rows.topWorldUptoRow.domain false) (((Rows.OpenSpec.upto Rows.topWorldSpec).at F).post enc Cp Tryz.f3 false true false false):=by
 refine returnsInHanded_of_cond (C:=Tryz.checked) (s:=Rows.OpenSpec.upto Rows.topWorldSpec) (k:=Rows.uptoSmall) rfl aha started Ui Tryz.func3
  (OpenSpec.witness (enc:=enc) (C:=Tryz.checked) (s:=Rows.OpenSpec.upto Rows.topWorldSpec) (k:=Rows.uptoSmall) rfl false ⟨#[],#[.agg #[iv 0,sl none 0 0]],[]⟩ 8 Ui Ui Ui
   (x:=([.agg [.lit (.int .i64 0),.nil]],[],[])) Ui rfl Ui) ?_
 intro W base args ds gs before QY hW _ hk _
 exact MV H enc W base args ds gs before QY hW hk
end B8
open B8 in
theorem topWorldUpto_holds:Rows.TopWorldUptoSaid:=
 OpenClaim.holds_of_cond 3 Tryz.f3 rfl rfl rfl rfl rfl rfl rfl ⟨rfl,rfl,rfl,rfl,rfl⟩ rfl rfl rfl rfl rfl JX Tryz.func3 JV
  (cg Ui) Oy (fun os started H enc _ F=>lifted os started H enc F)
#print axioms topWorldUpto_holds

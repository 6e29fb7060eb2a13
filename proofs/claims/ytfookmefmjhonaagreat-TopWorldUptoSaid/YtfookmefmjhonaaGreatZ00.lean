/- For the law of worlds: Short words. -/
import Derived.Below
import Derived.ChangeKeysEq
import Derived.ChangeOld
import Derived.DataElems
import Derived.Deep.AppendLies
import Derived.Deep.Fields
import Derived.Deep.Slices
import Derived.JoinedCond
import Derived.KernelRfl
import Derived.Laws.AppendOwn
import Derived.Laws.BytesString
import Derived.Laws.Cells
import Derived.Laws.CopyRow
import Derived.Laws.Cover2
import Derived.Laws.Entries
import Derived.Laws.Externs
import Derived.Laws.FloatArith
import Derived.Laws.MakeOwn
import Derived.Laws.OwnMore
import Derived.Laws.Sem
import Derived.Laws.StructEq
import Derived.Laws.Tables
import Derived.Lib.Bytealg
import Derived.Lib.ConvBytes
import Derived.Lib.Slices
import Derived.Lib.Strings
import Derived.Lib.Walk
import Derived.LoopN
import Derived.OneCell
import Derived.Orders
import Derived.OwnWalk
import Derived.ProofKit
import Derived.Scope
set_option linter.all false
namespace Go
def kr {α:Type _} {a b:α} (h:a=b:=by kernel_rfl):a=b:=h
def kt {α:Type _} {a c:α} (b:α) (e:b=c) (h:a=b:=by kernel_rfl):a=c:=h.trans e
abbrev OA:=Option Addr
abbrev sl (A:OA) (n c:Nat):Value:=.slice A n c
def dP {a b:Bool} (h:a=b):Value.bool a=Value.bool b:=congrArg Value.bool h
def iT {a b:Int} (h:a=b):Value.int .i64 a=Value.int .i64 b:=congrArg (Value.int .i64) h
abbrev aI:= @List.mem_of_getElem?
abbrev aN:= @List.getElem?_eq_some_iff
abbrev bm:= @List.length_append
abbrev bA:= @List.getD_eq_getElem?_getD
abbrev bI:= @Prod.mk.injEq
abbrev cM:= @List.length_map
abbrev bK:= @Bool.eq_false_or_eq_true
abbrev cX:= @List.length_set
abbrev cE:= @List.mem_cons_self
abbrev cA:= @List.take_of_length_le
abbrev b0:= @List.length_take
abbrev cH:= @List.append_assoc
abbrev bh:= @Nat.zero_le
abbrev bH:= @List.mem_cons_of_mem
abbrev cL:= @List.length_drop
abbrev dw:= @List.getElem?_eq_getElem
abbrev bO:= @Nat.le_refl
abbrev cT:= @List.map_append
abbrev dM:= @List.length_cons
abbrev eA:= @List.length_replicate
abbrev da:= @Bool.and_eq_true
abbrev fk:= @List.getElem?_map
abbrev dx:= @List.mem_cons
abbrev dV:= @List.length_eq_zero_iff
abbrev di:= @List.mem_map_of_mem
abbrev dh:= @Nat.eq_of_beq_eq_true
abbrev ff:= @Array.getD_eq_getD_getElem?
abbrev eG:= @List.mem_append
abbrev fv:= @List.mem_singleton
abbrev dE:= @List.all_eq_true
abbrev dC:= @Nat.mul_le_mul_right
abbrev gD:= @List.getElem?_append_right
abbrev dF:= @Nat.le_of_ble_eq_true
abbrev fj:= @List.append_nil
abbrev fI:= @List.drop_eq_getElem_cons
abbrev fA:= @List.length_nil
abbrev fm:= @List.map_cons
abbrev eF:= @Nat.le_trans
abbrev fV:= @Option.map_eq_some_iff
abbrev eJ:= @List.drop_eq_nil_of_le
abbrev iq:= @List.pairwise_cons
abbrev gO:= @List.getElem?_set_self
abbrev gQ:= @List.getElem?_cons_zero
abbrev dY:= @Nat.lt_of_lt_of_le
abbrev fD:= @Nat.min_eq_left
abbrev iE:= @List.flatMap_cons
abbrev cg:= @of_decide_eq_true
abbrev de:= @of_decide_eq_false
abbrev iR:= @Int.toNat_of_nonneg
abbrev a9:= @Option.some.injEq
abbrev lW:= @List.getElem?_append_left
abbrev lX:= @List.getElem?_set_ne
abbrev nS:= @List.take_append_of_le_length
abbrev qf:= @List.drop_append_of_le_length
abbrev lH:= @List.mem_of_mem_drop
abbrev gU:= @List.mem_of_mem_take

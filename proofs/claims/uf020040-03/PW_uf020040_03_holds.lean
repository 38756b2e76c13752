import PyProof.Rows.All
import Wide.All
import OpenK.AllK
import Wide.FinOn
import PyProof.P3Statements
import PyProof.Rows.News
import PyProof.Walks
import PyProof.TupleKey
import PyProof.DictKinds
import PyProof.ExcInit
import PyProof.ExcClass3
import PyProof.InstLoad
import PyProof.InstStoreFacts
import PyProof.ExcArgsOwn
import PyProof.StationsW
import PyProof.AssignAttr
import PyProof.DefCall
import PyProof.Rows.RuleN_isinstance
import PyProof.DictDisplay
import PyProof.DictStraight
import KE.RegMulBits
import Wide.Seal
import PyProof.DictRoadsH
import PyProof.Rows.TupTab
import KE.KSliceW
import PyProof.MeetsSeq2
import KE.KRevIter
import PyProof.Rows.SumAny
import PyProof.ExcBaseAll.ValueError
import PyProof.Rows.AttrNodeAny
import KE.KItem
import PyProof.RulesAs
import PyProof.AttrMiss
import PyProof.ExcClsAt2
import PySem.Challenge.RW_uf020040_03
set_option Elab.async false
set_option linter.all false
set_option genSizeOf false
set_option bootstrap.genMatcherCode false
set_option genInjectivity false
set_option autoImplicit false
set_option tactic.hygienic true
noncomputable section
namespace Mine
theorem Qq{α : Type _}{l : List α}{i : Nat}{a : α}(h : l[i]? = some a) : ∃ h : i < l.length, l[i] = a := List.getElem?_eq_some_iff.mp h
theorem Qz{x y : Bool}(h : (x && y) = true) : x = true /\ y = true := Bool.and_eq_true_iff.mp h
theorem Qj(a b : Bool) : ((a && b) = true) = (a = true /\ b = true) := Bool.and_eq_true a b
theorem Qx{α : Type _}{a b : α}(h : a ∈ [b]) : a = b := List.mem_singleton.mp h
theorem Qk{α : Type _}{l : List α}{i : Nat}(h : i < l.length) : l[i]? = some l[i] := List.getElem?_eq_getElem h
theorem Qv{α : Type _}{a b : α}(h : some a = some b) : a = b := Option.some.inj h
theorem Qw{α : Type _}{a b : α}{l : List α}(h : a ∈ b :: l) : a = b \/ a ∈ l := List.mem_cons.mp h
theorem Qy{α β : Type _}{f : α -> β}{l : List α}{i : Nat} : (l.map f)[i]? = (l[i]?).map f := List.getElem?_map
theorem QQ{n m k : Nat}(h : n <= m)(q : m <= k) : n <= k := Nat.le_trans h q
theorem QZ{n m : Nat}(h : n < m) : (n : Int) < m := Int.ofNat_lt.mpr h
theorem QJ{α : Type _}{xs : Array α} : xs.toList.length = xs.size := Array.length_toList
theorem QX{α β : Type _}{f : α -> β}{a : α}{l : List α} : (a :: l).map f = f a :: l.map f := rfl
theorem QK{α β : Type _}{f : α -> β}{o : Option α}{b : β}(h : o.map f = some b) : ∃ a, o = some a /\ f a = b := Option.map_eq_some_iff.mp h
theorem QV{α : Type _}{a : α}{l : List α} : (a :: l).length = l.length + 1 := rfl
theorem QW{α : Type _}{l k : List α} : (l ++ k).length = l.length + k.length := List.length_append
theorem QY{α : Type _}{a : α}{l k : List α}(h : a ∈ l ++ k) : a ∈ l \/ a ∈ k := List.mem_append.mp h
theorem Qa{α : Type _}{l : List α}{i : Nat}{a : α}(h : l[i]? = some a) : a ∈ l := List.mem_of_getElem? h
theorem Qb{α β : Type _}{f : α -> β}{l k : List α} : (l ++ k).map f = l.map f ++ k.map f := List.map_append
theorem Qc{α : Type _}(a b : α) : (some a = some b) = (a = b) := Option.some.injEq a b
abbrev Qd:=@PySem.wpAny_bind
abbrev Qe:=@Nat.lt_of_lt_of_le
abbrev Qf:=@congrArg
abbrev Qg:=@PySem.wpAny_pure
abbrev Qh:=@Nat.lt_of_le_of_lt
abbrev Qi:=@PySem.Heap.get?_push_of_some
abbrev Ql:=@if_pos
abbrev Qm:=@Nat.le_of_lt
abbrev Qn:=@decide_eq_true
abbrev Qo:=@List.length_range
abbrev Qp:=@of_decide_eq_true
abbrev Qr:=@Bool.false_ne_true
abbrev Qs:=@PySem.wpAny_mono
abbrev Qt:=@Int.le_trans
abbrev Qu:=@if_neg
abbrev QA:=@Nat.lt_succ_self
abbrev QB:=@Int.ofNat_le
abbrev QC:=@Nat.add_le_add
abbrev QD:=@Bool.false_eq_true
abbrev QE:=@decide_eq_true_eq
abbrev QF:=@Nat.zero_le
abbrev QG:=@List.mem_map
abbrev QH:=@Int.lt_of_le_of_lt
abbrev QI:=@Nat.le_add_right
abbrev QL:=@PySem.Heap.get?_push_size
abbrev QM:=@Nat.ne_of_lt
abbrev QN:=@Int.toNat_natCast
abbrev QO:=@Nat.le_refl
abbrev QP:=@List.length_nil
abbrev QR:=@Int.le_add_of_nonneg_right
abbrev QS:=@Bool.not_eq_true'
abbrev QT:=@Nat.succ_le_succ
abbrev QU:=@Nat.succ_lt_succ
abbrev Q0:=@Int.ofNat_lt
abbrev Q1:=@List.isEmpty_iff
abbrev Q2:=@List.any_eq_true
abbrev Q3:=@PySem.Heap.lt_size
abbrev Q4:=@eq_of_beq
abbrev Q5:=@beq_iff_eq
abbrev Q6:=@List.mem_append_left
abbrev Q7:=@Nat.le_of_lt_succ
abbrev Q8:=@List.nodup_cons
abbrev Q9:=@List.mem_filter
abbrev Zq:=@Int.natCast_nonneg
abbrev Zz:=@List.length_filter_le
abbrev Zj:=@Nat.mul_le_mul_left
abbrev Zx:=@List.getElem?_append_left
abbrev Zk:=@decide_eq_false
abbrev Zv:=@PyProof.Rows.args_cons
abbrev Zw:=@List.filter_append
abbrev Zy:=@List.mem_append_right
abbrev ZQ:=@Nat.add_le_add_left
abbrev ZZ:=@Bool.eq_iff_iff
abbrev ZJ:=@List.mem_range
abbrev ZX:=@List.lookup_cons
abbrev ZK:=@List.all_eq_true
abbrev ZV:=@List.mem_singleton
abbrev ZW:=@List.getElem?_append_right
abbrev ZY:=@Nat.not_lt_zero
abbrev Za:=@Nat.lt_trans
abbrev Zb:=@Array.getElem?_toList
abbrev Zc:=@Nat.zero_add
abbrev Zd:=@Nat.le_of_eq
abbrev Ze:=@Bool.or_eq_true
abbrev Zf:=@Int.lt_of_lt_of_le
abbrev Zg:=@decide_eq_false_iff_not
abbrev Zh:=@beq_self_eq_true
abbrev Zi:=@dif_neg
abbrev Zl:=@PySem.wpAny_holding
abbrev Zm:=@Nat.succ_pos
abbrev Zn:=@List.getD_eq_getElem?_getD
abbrev Zo:=@Int.toNat_le
abbrev Zp:=@Int.toNat_of_nonneg
abbrev Zr:=@Option.getD_some
abbrev Zs:=@Nat.le_succ
abbrev Zt:=@Nat.add_le_add_right
abbrev Zu:=@List.map_dropLast
abbrev ZA:=@List.length_eq_zero_iff
abbrev ZB:=@Int.not_lt
abbrev ZC:=@Int.le_of_eq
abbrev ZD:=@List.mem_reverse
abbrev ZE:=@List.length_take
abbrev ZF:=@List.filter_cons
abbrev ZG:=@List.cons_append
abbrev ZH:=@PyProof.Rows.Call_
abbrev ZI:=@Nat.lt_or_eq_of_le
abbrev ZL:=@List.nodup_nil
abbrev ZM:=@Int.fmod_eq_emod_of_nonneg
abbrev ZN:=@PyProof.Rows.args_nil
abbrev ZO:=@Nat.le_of_ble_eq_true
abbrev ZP:=@List.getElem?_eq_none
abbrev ZR:=@List.dropLast_sublist
abbrev ZS:=@PySem.wpAny_truthy_bool
abbrev ZT:=@PySem.wpAny_newObj_type
abbrev ZU:=@List.take_add_one
abbrev Z0:=@List.reverse_cons
abbrev Z1:=@List.getElem?_of_mem
abbrev Z2:=@Int.toNat_lt
abbrev Z3:=@Bool.and_eq_true_iff
abbrev Z4:=@Nat.not_lt
abbrev Z5:=@List.length_reverse
abbrev Z6:=@PySem.Pv.callWith_type1
abbrev Z7:=@Nat.min_le_right
abbrev Z8:=@List.take_length
abbrev Z9:=@Nat.succ_add
abbrev Yq:=@Nat.lt_of_le_of_ne
abbrev Yz:=@List.map_map
abbrev Yj:=@Int.lt_trans
abbrev Yx:=@PySem.wpAny_standAt
abbrev Yk:=@List.any_cons
abbrev Yv:=@List.length_replicate
abbrev Yw:=@PySem.wpAny_assign_Name
abbrev Yy:=@Nat.le_succ_of_le
abbrev YQ:=@List.mem_of_mem_tail
abbrev YZ:=@Nat.le_of_not_lt
abbrev YJ:=@List.not_mem_nil
abbrev YX:=@Int.add_comm
abbrev YK:=@Array.getElem?_eq_getElem
abbrev YV:=@Nat.lt_irrefl
abbrev YW:=@List.mem_cons
abbrev YY:=@Nat.lt_of_lt_of_eq
abbrev Yb:=@List.find?_eq_none
abbrev Yc:=@List.size_toArray
abbrev Yd:=@List.any_eq_false
abbrev Ye:=@PyProof.Rows.tail_any
abbrev Yg:=@PySem.wpAny_execs_cons
abbrev Yh:=@Int.not_le
abbrev Yi:=@Bool.not_true
abbrev Yl:=@List.range_eq_range'
abbrev Ym:=@List.dropLast_concat
abbrev Yn:=@Int.natAbs_of_nonneg
abbrev Yo:=@Bool.or_eq_false_iff
abbrev Yp:=@PySem.wpAny_execs_nil
abbrev Yr:=@Nat.min_eq_left
abbrev Ys:=@List.mem_append
abbrev Yt:=@List.length_map
abbrev Yu:=@List.foldl_cons
abbrev YA:=@List.mem_map_of_mem
abbrev YB:=@List.getElem?_range
abbrev YC:=@Int.ne_of_gt
abbrev YD:=@Bool.or_true
abbrev YE:=@PySem.wpAny_Expr_any
abbrev YF:=@PySem.Calls.Name_function_global
abbrev YG:=@Option.isNone_iff_eq_none
abbrev YH:=@List.mem_of_find?_eq_some
abbrev YI:=@List.nodup_append
abbrev YL:=@List.append_assoc
abbrev YM:=@Bool.eq_false_iff
abbrev YN:=@Array.isEmpty_iff
abbrev YO:=@PySem.F.args_tuple_add_2
abbrev YR:=@Option.isSome_iff_exists
abbrev YS:=@PySem.wpAny_list_append_plain
abbrev YT:=@PySem.F.entry_tuple_add
abbrev YU:=@PyProof.Rows.Subscript_
abbrev Y0:=@Option.getD_none
abbrev Y1:=@Nat.succ_pred_eq_of_pos
abbrev Y2:=@Nat.lt_add_of_pos_right
abbrev Y3:=@List.range'_succ
abbrev Y4:=@List.getElem_mem
abbrev Y5:=@PySem.F.slot_tuple_add
abbrev Y6:=@Nat.sub_le
abbrev Y7:=@List.getElem?_set_self
abbrev Y8:=@Int.le_of_lt
abbrev Y9:=@Option.map_none
abbrev Xq:=@Option.any_some
abbrev Xz:=@List.forIn_cons
abbrev Xj:=@List.append_nil
abbrev Xx:=@Int.natCast_inj
abbrev Xk:=@List.dropLast_eq_take
abbrev Xv:=@List.contains_iff_mem
abbrev Xw:=@List.map_take
abbrev Xy:=@Int.le_natAbs
abbrev XQ:=@Bool.false_or
abbrev XZ:=@Bool.and_self
abbrev XJ:=@PySem.wpAny_tupleItemsOf
abbrev XX:=@Nat.max_le
abbrev XK:=@Nat.add_right_comm
abbrev XV:=@List.zip_cons_cons
theorem gX{α:Type _}{a:α}{l:List α}{i:Nat}:(a::l)[i+1]?=l[i]?:=rfl
theorem gN{α:Type _}{a:α}{l:List α}:(a::l)[0]?=some a:=rfl
theorem bX{α β:Type _}(a:α)(f:α->Option β):(some a).bind f=f a:=rfl
theorem mX{α β:Type _}(a:α)(f:α->β):(some a).map f=some (f a):=rfl
theorem sX{α:Type _}{a b:α}{l:List α}{i:Nat}:(a::l).set (i+1) b=a::l.set i b:=rfl
theorem sN{α:Type _}{a b:α}{l:List α}:(a::l).set 0 b=b::l:=rfl
theorem lX{α β:Type _}{l:List α}(f:α->β):(l.map f).length=l.length:=Yt f
open PySem PySem.W PyProof.Rows
noncomputable def yb(s:Stmt):Bool:=if h:s.ctorIdx=5 then Stmt.Assign.elim (motive_2:=λZ=>Bool) s h (λts Z Z=>ts.all λt=>if h:t.ctorIdx=23 then Expr.Name.elim (motive_1:=λZ=>Bool) t h (λx Z=>x != ("__name__" : Str)) else true) else true
def view03:Program:={ PySem.Challenge.pw_uf020040_03 with main:={ PySem.Challenge.pw_uf020040_03.main with body:=PySem.Challenge.pw_uf020040_03.main.body.filter yb } }
set_option maxRecDepth 100000
set_option maxHeartbeats 8000000
theorem said03:OpenLaw.wellSaid PySem.Challenge.rw_uf020040_03=true:=by
 delta OpenLaw.wellSaid OpenRow.wellSaid OpenRow.partSaid looksOpen
 repeat' with_reducible refine look_both ?_ ?_
 all_goals decide +kernel
end Mine
namespace Mine
open PySem PySem.W PyProof.Rows
noncomputable abbrev pq:Program:=PySem.Challenge.pw_uf020040_03
noncomputable def stA(k:Nat):Stmt:=(pq.main.body[k]?).getD (.Pass default)
noncomputable def fdOf(s:Stmt):Arguments × List Stmt × Scope:=if h:s.ctorIdx=0 then Stmt.FunctionDef.elim (motive_2:=λZ=>Arguments × List Stmt × Scope) s h (λZ a b Z Z Z c Z Z Z=>(a,b,c)) else default
noncomputable def clOf(s:Stmt):List Stmt:=if h:s.ctorIdx=2 then Stmt.ClassDef.elim (motive_2:=λZ=>List Stmt) s h (λZ Z Z b Z Z Z Z Z Z Z=>b) else []
def fA(k:Nat):Arguments:=(fdOf (stA k)).1
def fB(k:Nat):List Stmt:=(fdOf (stA k)).2.1
def fS(k:Nat):Scope:=(fdOf (stA k)).2.2
def gD(k j:Nat):Arguments × List Stmt × Scope:=fdOf (((clOf (stA k))[j]?).getD (.Pass default))
def gA(k j:Nat):Arguments:=(gD k j).1
def gB(k j:Nat):List Stmt:=(gD k j).2.1
def gS(k j:Nat):Scope:=(gD k j).2.2
noncomputable def Y(o:Obj)(l r:BT):BT:=.node o l r
def lT(o:Obj):BT:=Y o .nil .nil
noncomputable def z0:Value:=.int 0 0
noncomputable def zT:Obj:={ cls:=.type "tuple",data:=.seq #[] }
noncomputable def zF:Obj:={ cls:=.none,data:=.fields #[] }
noncomputable def tp(a:Array Value):Obj:={ cls:=.type "tuple",data:=.seq a }
noncomputable def kv(P:Params)(x:Str)(t:Nat)(v:Value):DictEntry:={ hash:=PyData.keyHash P x,key:=.str x t,val:=v }
def fn0(x:Str)(k:Nat):Obj:={ cls:=.none,data:=.func { name:=x,qualname:=x,params:=fA k,body:=.stmts (fB k),scope:=fS k,globals:=0,closure:=[],defaults:=.none,kwdefaults:=.none } }
def fn1(x:Str)(k:Nat)(y:Str)(t c:Nat):Obj:={ cls:=.type "function",data:=.func { name:=x,qualname:=x,params:=fA k,body:=.stmts (fB k),scope:=fS k,globals:=3,closure:=[],defaults:=.none,kwdefaults:=.none,pyModule:=.str y t,code:=.ref c } }
def cd(x:Str)(t1 t2 t3 l:Nat)(n:Value)(a b c d e t4 t5:Nat):Obj:={ cls:=.type "code",data:=.fields #[.str x t1,.str x t2,.str "/claim/cut.py" t3,.int l 0,n,z0,z0,.int 3 0,.ref a,.bool true,.int 181 0,.ref b,.none,.ref c,.ref d,.ref e,.int t4 0,.int l 0,.str "/claim/cut.py" t5] }
def kq0(P:Params):DictEntry:=kv P "__doc__" 166 .none
def kq1(P:Params):DictEntry:=kv P "__package__" 167 .none
def kq2(P:Params):DictEntry:=kv P "__loader__" 168 (.builtin "__main__.__loader__#opaque")
def kq3(P:Params):DictEntry:=kv P "__spec__" 169 .none
def kq4(P:Params):DictEntry:=kv P "__annotations__" 170 (.ref 6)
def kq5(P:Params):DictEntry:=kv P "__builtins__" 171 (.ref 4)
def kq6(P:Params):DictEntry:=kv P "__file__" 173 (.str "/claim/cut.py" 172)
def kq7(P:Params):DictEntry:=kv P "__cached__" 174 .none
def kq8(P:Params):DictEntry:=kv P "OPENERS" 193 (.ref 15)
def kq9(P:Params):DictEntry:=kv P "homes" 204 (.ref 22)
def kq10(P:Params):DictEntry:=kv P "ends" 215 (.ref 29)
def kq11(P:Params):DictEntry:=kv P "first_rows" 226 (.ref 36)
def kq12(P:Params):DictEntry:=kv P "DeskError" 255 (.ref 53)
def kq13(P:Params):DictEntry:=kv P "NoRow" 271 (.ref 66)
def kq14(P:Params):DictEntry:=kv P "NoBlock" 287 (.ref 78)
def kq15(P:Params):DictEntry:=kv P "NoWord" 303 (.ref 90)
def kq16(P:Params):DictEntry:=kv P "Taken" 319 (.ref 102)
def kq17(P:Params):DictEntry:=kv P "Narrow" 335 (.ref 114)
def kq18(P:Params):DictEntry:=kv P "NoEnd" 351 (.ref 126)
def kq19(P:Params):DictEntry:=kv P "LETTERS" 355 (.str "abcdefghijklmnopqrstuvwxyz" 354)
def kq20(P:Params):DictEntry:=kv P "LONGEST" 357 (.int 12 356)
def kq21(P:Params):DictEntry:=kv P "MOST_THING" 359 (.int 999999999 358)
def kq22(P:Params):DictEntry:=kv P "MOST_THINGS" 361 (.int 5 360)
def kq23(P:Params):DictEntry:=kv P "is_word" 367 (.ref 133)
def kq24(P:Params):DictEntry:=kv P "is_thing" 374 (.ref 140)
def kq25(P:Params):DictEntry:=kv P "is_choice" 380 (.ref 145)
def kq26(P:Params):DictEntry:=kv P "is_lend" 387 (.ref 152)
def kq27(P:Params):DictEntry:=kv P "is_row" 394 (.ref 159)
def kq28(P:Params):DictEntry:=kv P "meaning" 403 (.ref 166)
def kq29(P:Params):DictEntry:=kv P "need_block" 412 (.ref 173)
def kq30(P:Params):DictEntry:=kv P "need_hand" 422 (.ref 180)
def kq31(P:Params):DictEntry:=kv P "need_free" 432 (.ref 187)
def kq32(P:Params):DictEntry:=kv P "block_of" 440 (.ref 194)
def kq33(P:Params):DictEntry:=kv P "checked" 450 (.ref 201)
def kq34(P:Params):DictEntry:=kv P "entry_of" 461 (.ref 208)
def kq35(P:Params):DictEntry:=kv P "lent" 470 (.ref 215)
def w0(a:Str)(b:Nat)(c:Nat)(d:Nat)(e:Int)(f:Nat)(g:Nat)(h:Int)(i:Nat):Obj:={ cls:=.type "code",data:=.fields #[.str a b,.str a c,.str "/claim/cut.py" d,.int e 0,z0,z0,z0,z0,.ref f,.bool false,.int 181 0,.ref g,.none,.none,.none,.none,.int h 0,.int e 0,.str "/claim/cut.py" i] }
noncomputable def w1(a:Nat)(b:Nat)(c:Str)(d:Nat):Obj:={ cls:=.type "frame",slots:=#[some (.ref a),some (.ref 3),some (.ref b),none,some (.str c d),none,some (.ref 0)] }
noncomputable def w2:Obj:={ cls:=.type "builtin_function_or_method",data:=.fields #[.builtin "type.__prepare__",.type "type"] }
noncomputable def w3(a:Nat):Obj:={ cls:=.type "super",data:=.fields #[.ref a,.ref a,.ref a] }
noncomputable def w4(a:Nat):Obj:={ cls:=.type "builtin_function_or_method",data:=.fields #[.builtin "object.__init_subclass__",.ref a] }
def w5(P:Params)(a:Nat)(b:Nat)(c:Str)(d:Nat)(e:Nat)(f:Int)(g:Nat)(h:Nat)(i:Nat):Obj:={ cls:=.type "dict",data:=.dict #[kv P "__module__" a (.str "borrowdesk.errors" 227),kv P "__qualname__" b (.str c d),kv P "__firstlineno__" e (.int f g),kv P "__static_attributes__" h (.ref i)] 4 }
def w6(P:Params)(a:Nat)(b:Nat)(c:Int)(d:Nat)(e:Nat)(f:Nat)(g:Nat):Obj:={ cls:=.type "dict",data:=.dict #[kv P "__module__" a (.str "borrowdesk.errors" 227),kv P "__firstlineno__" b (.int c d),kv P "__static_attributes__" e (.ref f),kv P "__doc__" g .none] 2 }
noncomputable def w7(a:Str)(b:Nat)(c:Nat)(d:Nat)(e:Nat)(f:Nat):Obj:={ cls:=.type "type",data:=.cls { name:=a,bases:=[.ref 53],mro:=[.ref b,.ref 53,.type "ValueError",.type "Exception",.type "BaseException",.type "object"],ns:=c,qualname:=a },slots:=#[some (.ref d),none,some (.str a e),some (.str a f),some (.builtin "ValueError.__new__"),some (.bool true)] }
def w8(a:Str)(b:Nat)(c:Nat)(d:Nat)(e:Int)(f:Int)(g:Nat)(h:Nat)(i:Nat)(j:Int)(k:Nat):Obj:={ cls:=.type "code",data:=.fields #[.str a b,.str a c,.str "/claim/cut.py" d,.int e 0,.int f 0,z0,z0,.int 3 0,.ref g,.bool true,.int 181 0,.ref h,.none,.none,.none,.ref i,.int j 0,.int e 0,.str "/claim/cut.py" k] }
def o3(P:Params):Obj:={ cls:=.type "dict",data:=.dict #[kv P "__name__" 165 (.str "__main__" 164),kq0 P,kq1 P,kq2 P,kq3 P,kq4 P,kq5 P,kq6 P,kq7 P] 9 }
def o13:Obj:=w0 "<module>" 182 183 184 1 11 12 185 186
def o14:Obj:=w1 13 3 "__main__" 164
def o15(P:Params):Obj:={ cls:=.type "dict",data:=.dict #[kv P "__name__" 165 (.str "borrowdesk.errors" 227),kq0 P,kq1 P,kq2 P,kq3 P,kq4 P,kq5 P,kq6 P,kq7 P,kq8 P,kq9 P,kq10 P,kq11 P,kq12 P,kq13 P,kq14 P,kq15 P] 17 }
def o16:Obj:={ cls:=.none,data:=.fields #[.int 3 0,z0,.ref 21,.int 16 0,z0,.ref 28,.int 23 0,z0,.ref 35,.int 30 0,z0,.ref 42,.int 34 0,z0,.ref 62,.int 36 0,z0,.ref 74,.int 38 0,z0,.ref 86] }
def o17:Obj:=tp #[.str "lend" 189,.str "pick" 190,.str "either" 191,.str "again" 192]
def o20:Obj:=tp #[.str "rows" 197,.str "stack" 198,.str "found" 199,.str "at" 200,.str "row" 201]
def o22:Obj:=fn0 "homes" 2
def o23:Obj:=cd "homes" 194 195 196 3 (.int 1 0) 16 17 18 19 20 202 203
def o24:Obj:=fn1 "homes" 2 "borrowdesk.blocks" 187 21
def o27:Obj:=tp #[.str "rows" 208,.str "home" 209,.str "found" 210,.str "at" 211,.str "row" 212]
def o29:Obj:=fn0 "ends" 3
def o30:Obj:=cd "ends" 205 206 207 16 (.int 1 0) 23 24 25 26 27 213 214
def o31:Obj:=fn1 "ends" 3 "borrowdesk.blocks" 187 28
def o34:Obj:=tp #[.str "rows" 219,.str "home" 220,.str "at" 221,.str "found" 222,.str "number" 223]
def o36:Obj:=fn0 "first_rows" 4
def o37:Obj:=cd "first_rows" 216 217 218 23 (.int 3 0) 30 31 32 33 34 224 225
def o38:Obj:=fn1 "first_rows" 4 "borrowdesk.blocks" 187 35
def o39:Obj:=tp #[.type "ValueError"]
def o40:Obj:=w2
def o41(P:Params):Obj:={ cls:=.type "dict",data:=.dict #[kv P "__module__" 236 (.str "borrowdesk.errors" 227),kv P "__qualname__" 238 (.str "DeskError" 237),kv P "__firstlineno__" 240 (.int 30 239),kv P "__init__" 248 (.ref 50),kv P "__static_attributes__" 250 (.ref 51)] 5 }
noncomputable def o43:Obj:={ cls:=.none,data:=.fields #[.int 32 0,.int 4 0,.ref 49] }
def o44:Obj:=w0 "DeskError" 231 232 233 30 40 41 234 235
def o45:Obj:=w1 42 39 "borrowdesk.errors" 227
def o48:Obj:=tp #[.str "self" 244,.str "at" 245]
def o50:Obj:={ cls:=.none,data:=.func { name := "__init__",qualname := "DeskError.__init__",params:=gA 6 0,body:=.stmts (gB 6 0),scope:=gS 6 0,globals:=0,closure:=[],defaults:=.none,kwdefaults:=.none } }
def o51:Obj:={ cls:=.type "code",data:=.fields #[.str "__init__" 241,.str "DeskError.__init__" 242,.str "/claim/cut.py" 243,.int 32 0,.int 2 0,z0,z0,.int 3 0,.ref 44,.bool true,.int 181 0,.ref 45,.none,.ref 46,.ref 47,.ref 48,.int 246 0,.int 32 0,.str "/claim/cut.py" 247] }
def o52:Obj:={ cls:=.type "function",data:=.func { name := "__init__",qualname := "DeskError.__init__",params:=gA 6 0,body:=.stmts (gB 6 0),scope:=gS 6 0,globals:=3,closure:=[],defaults:=.none,kwdefaults:=.none,pyModule:=.str "borrowdesk.errors" 227,code:=.ref 49 } }
def o53:Obj:=tp #[.str "at" 249]
def o54(P:Params):Obj:={ cls:=.type "dict",data:=.dict #[kv P "__module__" 236 (.str "borrowdesk.errors" 227),kv P "__firstlineno__" 240 (.int 30 239),kv P "__init__" 248 (.ref 50),kv P "__static_attributes__" 250 (.ref 51),kv P "__weakref__" 252 (.ref 54),kv P "__doc__" 253 .none] 3 }
noncomputable def o55:Obj:={ cls:=.type "type",data:=.cls { name := "DeskError",bases:=[.type "ValueError"],mro:=[.ref 53,.type "ValueError",.type "Exception",.type "BaseException",.type "object"],ns:=52,qualname := "DeskError",subclasses:=[.ref 66,.ref 78,.ref 90] },slots:=#[some (.ref 37),none,some (.str "DeskError" 229),some (.str "DeskError" 237),some (.builtin "ValueError.__new__"),some (.bool true)] }
noncomputable def o56:Obj:={ cls:=.type "getset_descriptor",data:=.fields #[.str "__weakref__" 251,.ref 53,.builtin "ExceptionGroup.__weakref__",.none] }
def o57:Obj:=w3 53
def o58:Obj:=w4 53
def o59:Obj:=tp #[.ref 53]
def o60:Obj:=w2
def o61(P:Params):Obj:=w5 P 263 265 "NoRow" 264 267 34 266 268 64
def o64:Obj:=w0 "NoRow" 258 259 260 34 60 61 261 262
def o65:Obj:=w1 62 59 "borrowdesk.errors" 227
def o67(P:Params):Obj:=w6 P 263 267 34 266 268 64 269
def o68:Obj:=w7 "NoRow" 66 65 57 256 264
def o69:Obj:=w3 66
def o70:Obj:=w4 66
def o71:Obj:=tp #[.ref 53]
def o72:Obj:=w2
def o73(P:Params):Obj:=w5 P 279 281 "NoBlock" 280 283 36 282 284 76
def o76:Obj:=w0 "NoBlock" 274 275 276 36 72 73 277 278
def o77:Obj:=w1 74 71 "borrowdesk.errors" 227
def o79(P:Params):Obj:=w6 P 279 283 36 282 284 76 285
def o80:Obj:=w7 "NoBlock" 78 77 69 272 280
def o81:Obj:=w3 78
def o82:Obj:=w4 78
def o83:Obj:=tp #[.ref 53]
def o84:Obj:=w2
def o85(P:Params):Obj:=w5 P 295 297 "NoWord" 296 299 38 298 300 88
def o88:Obj:=w0 "NoWord" 290 291 292 38 84 85 293 294
def o89:Obj:=w1 86 83 "borrowdesk.errors" 227
def o91(P:Params):Obj:=w6 P 295 299 38 298 300 88 301
def o92:Obj:=w7 "NoWord" 90 89 81 288 296
def o93:Obj:=w3 90
def o94:Obj:=w4 90
def o95(P:Params):Obj:={ cls:=.type "dict",data:=.dict #[kv P "__name__" 165 (.str "borrowdesk.runs" 451),kq0 P,kq1 P,kq2 P,kq3 P,kq4 P,kq5 P,kq6 P,kq7 P,kq8 P,kq9 P,kq10 P,kq11 P,kq12 P,kq13 P,kq14 P,kq15 P,kq16 P,kq17 P,kq18 P,kq19 P,kq20 P,kq21 P,kq22 P,kq23 P,kq24 P,kq25 P,kq26 P,kq27 P,kq28 P,kq29 P,kq30 P,kq31 P,kq32 P,kq33 P,kq34 P,kq35 P] 37 }
def o96:Obj:={ cls:=.none,data:=.fields #[.int 3 0,z0,.ref 21,.int 16 0,z0,.ref 28,.int 23 0,z0,.ref 35,.int 30 0,z0,.ref 42,.int 34 0,z0,.ref 62,.int 36 0,z0,.ref 74,.int 38 0,z0,.ref 86,.int 40 0,z0,.ref 98,.int 42 0,z0,.ref 110,.int 44 0,z0,.ref 122,.int 51 0,z0,.ref 132,.int 55 0,z0,.ref 139,.int 57 0,z0,.ref 144,.int 61 0,z0,.ref 151,.int 65 0,z0,.ref 158,.int 77 0,z0,.ref 165,.int 82 0,z0,.ref 172,.int 87 0,z0,.ref 179,.int 93 0,z0,.ref 186,.int 103 0,z0,.ref 193,.int 109 0,z0,.ref 200,.int 126 0,z0,.ref 207,.int 131 0,z0,.ref 214] }
noncomputable def o97:Obj:={ cls:=.type "type",data:=.cls { name := "DeskError",bases:=[.type "ValueError"],mro:=[.ref 53,.type "ValueError",.type "Exception",.type "BaseException",.type "object"],ns:=52,qualname := "DeskError",subclasses:=[.ref 66,.ref 78,.ref 90,.ref 102,.ref 114,.ref 126] },slots:=#[some (.ref 37),none,some (.str "DeskError" 229),some (.str "DeskError" 237),some (.builtin "ValueError.__new__"),some (.bool true)] }
def o98:Obj:=tp #[.ref 53]
def o99:Obj:=w2
def o100(P:Params):Obj:=w5 P 311 313 "Taken" 312 315 40 314 316 100
def o103:Obj:=w0 "Taken" 306 307 308 40 96 97 309 310
def o104:Obj:=w1 98 95 "borrowdesk.errors" 227
def o106(P:Params):Obj:=w6 P 311 315 40 314 316 100 317
def o107:Obj:=w7 "Taken" 102 101 93 304 312
def o108:Obj:=w3 102
def o109:Obj:=w4 102
def o110:Obj:=tp #[.ref 53]
def o111:Obj:=w2
def o112(P:Params):Obj:=w5 P 327 329 "Narrow" 328 331 42 330 332 112
def o115:Obj:=w0 "Narrow" 322 323 324 42 108 109 325 326
def o116:Obj:=w1 110 107 "borrowdesk.errors" 227
def o118(P:Params):Obj:=w6 P 327 331 42 330 332 112 333
def o119:Obj:=w7 "Narrow" 114 113 105 320 328
def o120:Obj:=w3 114
def o121:Obj:=w4 114
def o122:Obj:=tp #[.ref 53]
def o123:Obj:=w2
def o124(P:Params):Obj:=w5 P 343 345 "NoEnd" 344 347 44 346 348 124
def o127:Obj:=w0 "NoEnd" 338 339 340 44 120 121 341 342
def o128:Obj:=w1 122 119 "borrowdesk.errors" 227
def o130(P:Params):Obj:=w6 P 343 347 44 346 348 124 349
def o131:Obj:=w7 "NoEnd" 126 125 117 336 344
def o132:Obj:=w3 126
def o133:Obj:=w4 126
def o136:Obj:=fn0 "is_word" 18
def o137:Obj:=w8 "is_word" 362 363 364 51 1 129 130 131 365 366
def o138:Obj:=fn1 "is_word" 18 "borrowdesk.forms" 352 132
def o141:Obj:=tp #[.str "thing" 371]
def o143:Obj:=fn0 "is_thing" 19
def o144:Obj:=cd "is_thing" 368 369 370 55 (.int 1 0) 134 135 136 137 138 372 373
def o145:Obj:=fn1 "is_thing" 19 "borrowdesk.forms" 352 139
def o148:Obj:=fn0 "is_choice" 20
def o149:Obj:=w8 "is_choice" 375 376 377 57 1 141 142 143 378 379
def o150:Obj:=fn1 "is_choice" 20 "borrowdesk.forms" 352 144
def o153:Obj:=tp #[.str "row" 384]
def o155:Obj:=fn0 "is_lend" 21
def o156:Obj:=cd "is_lend" 381 382 383 61 (.int 1 0) 146 147 148 149 150 385 386
def o157:Obj:=fn1 "is_lend" 21 "borrowdesk.forms" 352 151
def o160:Obj:=tp #[.str "row" 391]
def o162:Obj:=fn0 "is_row" 22
def o163:Obj:=cd "is_row" 388 389 390 65 (.int 1 0) 153 154 155 156 157 392 393
def o164:Obj:=fn1 "is_row" 22 "borrowdesk.forms" 352 158
def o167:Obj:=tp #[.str "stack" 398,.str "word" 399,.str "block" 400]
def o169:Obj:=fn0 "meaning" 23
def o170:Obj:=cd "meaning" 395 396 397 77 (.int 2 0) 160 161 162 163 164 401 402
def o171:Obj:=fn1 "meaning" 23 "borrowdesk.forms" 352 165
def o174:Obj:=tp #[.str "stack" 407,.str "at" 408,.str "row" 409]
def o176:Obj:=fn0 "need_block" 24
def o177:Obj:=cd "need_block" 404 405 406 82 (.int 3 0) 167 168 169 170 171 410 411
def o178:Obj:=fn1 "need_block" 24 "borrowdesk.forms" 352 172
def o181:Obj:=tp #[.str "stack" 416,.str "at" 417,.str "row" 418,.str "kind" 419]
def o183:Obj:=fn0 "need_hand" 25
def o184:Obj:=cd "need_hand" 413 414 415 87 (.int 3 0) 174 175 176 177 178 420 421
def o185:Obj:=fn1 "need_hand" 25 "borrowdesk.forms" 352 179
def o188:Obj:=tp #[.str "stack" 426,.str "at" 427,.str "row" 428,.str "source" 429]
def o190:Obj:=fn0 "need_free" 26
def o191:Obj:=cd "need_free" 423 424 425 93 (.int 3 0) 181 182 183 184 185 430 431
def o192:Obj:=fn1 "need_free" 26 "borrowdesk.forms" 352 186
def o195:Obj:=tp #[.str "at" 436,.str "row" 437]
def o197:Obj:=fn0 "block_of" 27
def o198:Obj:=cd "block_of" 433 434 435 103 (.int 2 0) 188 189 190 191 192 438 439
def o199:Obj:=fn1 "block_of" 27 "borrowdesk.forms" 352 193
def o202:Obj:=tp #[.str "rows" 444,.str "stack" 445,.str "at" 446,.str "row" 447]
def o204:Obj:=fn0 "checked" 28
def o205:Obj:=cd "checked" 441 442 443 109 (.int 1 0) 195 196 197 198 199 448 449
def o206:Obj:=fn1 "checked" 28 "borrowdesk.forms" 352 200
def o209:Obj:=tp #[.str "held" 456,.str "word" 457,.str "entry" 458]
def o211:Obj:=fn0 "entry_of" 30
def o212:Obj:=cd "entry_of" 453 454 455 126 (.int 2 0) 202 203 204 205 206 459 460
def o213:Obj:=fn1 "entry_of" 30 "borrowdesk.runs" 451 207
def o216:Obj:=tp #[.str "row" 465,.str "held" 466,.str "source" 467]
def o218:Obj:=fn0 "lent" 31
def o219:Obj:=cd "lent" 462 463 464 131 (.int 2 0) 209 210 211 212 213 468 469
def o220:Obj:=fn1 "lent" 31 "borrowdesk.runs" 451 214
def o221(P:Params):Obj:={ cls:=.type "dict",data:=.dict #[kv P "__name__" 165 (.str "law_uf020040_03" 617),kq0 P,kq1 P,kq2 P,kq3 P,kq4 P,kq5 P,kq6 P,kq7 P,kq8 P,kq9 P,kq10 P,kq11 P,kq12 P,kq13 P,kq14 P,kq15 P,kq16 P,kq17 P,kq18 P,kq19 P,kq20 P,kq21 P,kq22 P,kq23 P,kq24 P,kq25 P,kq26 P,kq27 P,kq28 P,kq29 P,kq30 P,kq31 P,kq32 P,kq33 P,kq34 P,kq35 P,kv P "given_back" 481 (.ref 222),kv P "count_of" 490 (.ref 229),kv P "ended" 502 (.ref 236),kv P "moved" 517 (.ref 243),kv P "chooses" 524 (.ref 250),kv P "is_asleep" 532 (.ref 255),kv P "awake" 541 (.ref 262),kv P "beside" 551 (.ref 269),kv P "hand_used" 560 (.ref 276),kv P "fault" 571 (.ref 283),kv P "WORDS" 577 (.ref 284),kv P "standings" 592 (.ref 291),kv P "choices_to" 603 (.ref 298),kv P "looked" 616 (.ref 305),kv P "_law_cell_at" 626 (.ref 312),kv P "_law_word" 640 (.ref 319),kv P "_law_draw" 650 (.ref 326),kv P "_law_thing" 658 (.ref 333),kv P "_law_lend" 671 (.ref 340),kv P "_law_deed" 682 (.ref 347),kv P "_law_row" 688 (.ref 352),kv P "_law_hands" 699 (.ref 359),kv P "_law_first_four" 717 (.ref 366),kv P "_law_gadget" 737 (.ref 373),kv P "_law_sheet" 743 (.ref 378),kv P "_law_drawn" 749 (.ref 383),kv P "_law_is_word" 755 (.ref 388),kv P "_law_is_thing" 762 (.ref 395),kv P "_law_is_row" 768 (.ref 400),kv P "_law_due_words" 779 (.ref 407),kv P "_law_due" 791 (.ref 414),kv P "_law_whole" 798 (.ref 421),kv P "_law_odd" 806 (.ref 428),kv P "_law_more" 812 (.ref 433)] 71 }
def o222:Obj:={ cls:=.none,data:=.fields #[.int 3 0,z0,.ref 21,.int 16 0,z0,.ref 28,.int 23 0,z0,.ref 35,.int 30 0,z0,.ref 42,.int 34 0,z0,.ref 62,.int 36 0,z0,.ref 74,.int 38 0,z0,.ref 86,.int 40 0,z0,.ref 98,.int 42 0,z0,.ref 110,.int 44 0,z0,.ref 122,.int 51 0,z0,.ref 132,.int 55 0,z0,.ref 139,.int 57 0,z0,.ref 144,.int 61 0,z0,.ref 151,.int 65 0,z0,.ref 158,.int 77 0,z0,.ref 165,.int 82 0,z0,.ref 172,.int 87 0,z0,.ref 179,.int 93 0,z0,.ref 186,.int 103 0,z0,.ref 193,.int 109 0,z0,.ref 200,.int 126 0,z0,.ref 207,.int 131 0,z0,.ref 214,.int 138 0,z0,.ref 221,.int 148 0,z0,.ref 228,.int 156 0,z0,.ref 235,.int 164 0,z0,.ref 242,.int 183 0,z0,.ref 249,.int 186 0,z0,.ref 254,.int 188 0,z0,.ref 261,.int 194 0,z0,.ref 268,.int 201 0,z0,.ref 275,.int 209 0,z0,.ref 282,.int 223 0,z0,.ref 290,.int 241 0,z0,.ref 297,.int 250 0,z0,.ref 304,.int 264 0,z0,.ref 311,.int 268 0,z0,.ref 318,.int 282 0,z0,.ref 325,.int 287 0,z0,.ref 332,.int 291 0,z0,.ref 339,.int 300 0,z0,.ref 346,.int 306 0,z0,.ref 351,.int 323 0,z0,.ref 358,.int 326 0,z0,.ref 365,.int 343 0,z0,.ref 372,.int 369 0,z0,.ref 377,.int 385 0,z0,.ref 382,.int 397 0,z0,.ref 387,.int 401 0,z0,.ref 394,.int 403 0,z0,.ref 399,.int 417 0,z0,.ref 406,.int 436 0,z0,.ref 413,.int 456 0,z0,.ref 420,.int 458 0,z0,.ref 427,.int 470 0,z0,.ref 432] }
def o225:Obj:=tp #[.str "held" 474,.str "hand" 475,.str "gone" 476,.str "found" 477,.str "entry" 478]
def o227:Obj:=fn0 "given_back" 32
def o228:Obj:=cd "given_back" 471 472 473 138 (.int 2 0) 216 217 218 219 220 479 480
def o229:Obj:=fn1 "given_back" 32 "borrowdesk.runs" 451 221
def o232:Obj:=tp #[.str "rows" 485,.str "home" 486,.str "at" 487]
def o234:Obj:=fn0 "count_of" 33
def o235:Obj:=cd "count_of" 482 483 484 148 (.int 3 0) 223 224 225 226 227 488 489
def o236:Obj:=fn1 "count_of" 33 "borrowdesk.runs" 451 228
def o239:Obj:=tp #[.str "rows" 494,.str "home" 495,.str "standing" 496,.str "at" 497,.str "held" 498,.str "kind" 499]
def o241:Obj:=fn0 "ended" 34
def o242:Obj:=cd "ended" 491 492 493 156 (.int 3 0) 230 231 232 233 234 500 501
def o243:Obj:=fn1 "ended" 34 "borrowdesk.runs" 451 235
def o246:Obj:=tp #[.str "rows" 506,.str "home" 507,.str "last" 508,.str "standing" 509,.str "choice" 510,.str "at" 511,.str "held" 512,.str "row" 513,.str "way" 514]
def o248:Obj:=fn0 "moved" 35
def o249:Obj:=cd "moved" 503 504 505 164 (.int 5 0) 237 238 239 240 241 515 516
def o250:Obj:=fn1 "moved" 35 "borrowdesk.runs" 451 242
def o253:Obj:=tp #[.str "row" 521]
def o255:Obj:=fn0 "chooses" 36
def o256:Obj:=cd "chooses" 518 519 520 183 (.int 1 0) 244 245 246 247 248 522 523
def o257:Obj:=fn1 "chooses" 36 "borrowdesk.runs" 451 249
def o260:Obj:=fn0 "is_asleep" 38
def o261:Obj:=w8 "is_asleep" 527 528 529 186 2 251 252 253 530 531
def o262:Obj:=fn1 "is_asleep" 38 "borrowdesk.faults" 525 254
def o265:Obj:=tp #[.str "held" 536,.str "found" 537,.str "entry" 538]
def o267:Obj:=fn0 "awake" 39
def o268:Obj:=cd "awake" 533 534 535 188 (.int 1 0) 256 257 258 259 260 539 540
def o269:Obj:=fn1 "awake" 39 "borrowdesk.faults" 525 261
def o272:Obj:=tp #[.str "held" 545,.str "hands" 546,.str "at" 547,.str "other" 548]
def o274:Obj:=fn0 "beside" 40
def o275:Obj:=cd "beside" 542 543 544 194 (.int 1 0) 263 264 265 266 267 549 550
def o276:Obj:=fn1 "beside" 40 "borrowdesk.faults" 525 268
def o279:Obj:=tp #[.str "row" 555,.str "held" 556,.str "source" 557]
def o281:Obj:=fn0 "hand_used" 41
def o282:Obj:=cd "hand_used" 552 553 554 201 (.int 2 0) 270 271 272 273 274 558 559
def o283:Obj:=fn1 "hand_used" 41 "borrowdesk.faults" 525 275
def o286:Obj:=tp #[.str "rows" 564,.str "standing" 565,.str "at" 566,.str "held" 567,.str "entry" 568]
def o288:Obj:=fn0 "fault" 42
def o289:Obj:=cd "fault" 561 562 563 209 (.int 2 0) 277 278 279 280 281 569 570
def o290:Obj:=fn1 "fault" 42 "borrowdesk.faults" 525 282
def o291:Obj:=tp #[.str "beside" 574,.str "empty" 575,.str "asleep" 576]
def o294:Obj:=tp #[.str "rows" 581,.str "home" 582,.str "last" 583,.str "found" 584,.str "seen" 585,.str "k" 586,.str "standing" 587,.str "choice" 588,.str "following" 589]
def o296:Obj:=fn0 "standings" 45
def o297:Obj:=cd "standings" 578 579 580 223 (.int 1 0) 285 286 287 288 289 590 591
def o298:Obj:=fn1 "standings" 45 "borrowdesk.looking" 572 290
def o301:Obj:=tp #[.str "rows" 596,.str "found" 597,.str "k" 598,.str "choices" 599,.str "ahead" 600]
def o303:Obj:=fn0 "choices_to" 46
def o304:Obj:=cd "choices_to" 593 594 595 241 (.int 3 0) 292 293 294 295 296 601 602
def o305:Obj:=fn1 "choices_to" 46 "borrowdesk.looking" 572 297
def o308:Obj:=tp #[.str "rows" 607,.str "found" 608,.str "best" 609,.str "k" 610,.str "part" 611,.str "word" 612,.str "rank" 613]
def o310:Obj:=fn0 "looked" 47
def o311:Obj:=cd "looked" 604 605 606 250 (.int 1 0) 299 300 301 302 303 614 615
def o312:Obj:=fn1 "looked" 47 "borrowdesk.looking" 572 304
def o315:Obj:=tp #[.str "_law_script" 622,.str "_law_k" 623]
def o317:Obj:=fn0 "_law_cell_at" 49
def o318:Obj:=cd "_law_cell_at" 619 620 621 264 (.int 2 0) 306 307 308 309 310 624 625
def o319:Obj:=fn1 "_law_cell_at" 49 "law_uf020040_03" 617 311
def o322:Obj:=tp #[.str "_law_one" 630,.str "_law_two" 631,.str "_law_deep" 632,.str "_law_draw_here" 633,.str "_law_letters" 634,.str "_law_sign" 635,.str "_law_found" 636,.str "_law_k" 637]
def o324:Obj:=fn0 "_law_word" 50
def o325:Obj:=cd "_law_word" 627 628 629 268 (.int 4 0) 313 314 315 316 317 638 639
def o326:Obj:=fn1 "_law_word" 50 "law_uf020040_03" 617 318
def o329:Obj:=tp #[.str "_law_script" 644,.str "_law_base" 645,.str "_law_style" 646,.str "_law_size" 647]
def o331:Obj:=fn0 "_law_draw" 51
def o332:Obj:=cd "_law_draw" 641 642 643 282 (.int 1 0) 320 321 322 323 324 648 649
def o333:Obj:=fn1 "_law_draw" 51 "law_uf020040_03" 617 325
def o336:Obj:=tp #[.str "_law_cell" 654,.str "_law_base" 655]
def o338:Obj:=fn0 "_law_thing" 52
def o339:Obj:=cd "_law_thing" 651 652 653 287 (.int 2 0) 327 328 329 330 331 656 657
def o340:Obj:=fn1 "_law_thing" 52 "law_uf020040_03" 617 332
def o343:Obj:=tp #[.str "_law_one" 662,.str "_law_two" 663,.str "_law_named" 664,.str "_law_draw_here" 665,.str "_law_kind" 666,.str "_law_source" 667,.str "_law_holder" 668]
def o345:Obj:=fn0 "_law_lend" 53
def o346:Obj:=cd "_law_lend" 659 660 661 291 (.int 4 0) 334 335 336 337 338 669 670
def o347:Obj:=fn1 "_law_lend" 53 "law_uf020040_03" 617 339
def o350:Obj:=tp #[.str "_law_one" 675,.str "_law_two" 676,.str "_law_hands_here" 677,.str "_law_hand" 678,.str "_law_word_here" 679]
def o352:Obj:=fn0 "_law_deed" 54
def o353:Obj:=cd "_law_deed" 672 673 674 300 (.int 3 0) 341 342 343 344 345 680 681
def o354:Obj:=fn1 "_law_deed" 54 "law_uf020040_03" 617 346
def o357:Obj:=fn0 "_law_row" 55
def o358:Obj:=w8 "_law_row" 683 684 685 306 5 348 349 350 686 687
def o359:Obj:=fn1 "_law_row" 55 "law_uf020040_03" 617 351
def o362:Obj:=tp #[.str "_law_one" 692,.str "_law_two" 693,.str "_law_deep" 694,.str "_law_draw_here" 695,.str "_law_found" 696]
def o364:Obj:=fn0 "_law_hands" 56
def o365:Obj:=cd "_law_hands" 689 690 691 323 (.int 4 0) 353 354 355 356 357 697 698
def o366:Obj:=fn1 "_law_hands" 56 "law_uf020040_03" 617 358
def o369:Obj:=tp #[.str "_law_way" 703,.str "_law_one" 704,.str "_law_two" 705,.str "_law_names" 706,.str "_law_thing_here" 707,.str "_law_a" 708,.str "_law_b" 709,.str "_law_c" 710,.str "_law_kind" 711,.str "_law_end" 712,.str "_law_rows" 713,.str "_law_first" 714]
def o371:Obj:=fn0 "_law_first_four" 57
def o372:Obj:=cd "_law_first_four" 700 701 702 326 (.int 5 0) 360 361 362 363 364 715 716
def o373:Obj:=fn1 "_law_first_four" 57 "law_uf020040_03" 617 365
def o376:Obj:=tp #[.str "_law_one" 721,.str "_law_two" 722,.str "_law_deep" 723,.str "_law_draw_here" 724,.str "_law_names" 725,.str "_law_a" 726,.str "_law_b" 727,.str "_law_thing_here" 728,.str "_law_far" 729,.str "_law_last" 730,.str "_law_kind" 731,.str "_law_end" 732,.str "_law_way" 733,.str "_law_rows" 734]
def o378:Obj:=fn0 "_law_gadget" 58
def o379:Obj:=cd "_law_gadget" 718 719 720 343 (.int 4 0) 367 368 369 370 371 735 736
def o380:Obj:=fn1 "_law_gadget" 58 "law_uf020040_03" 617 372
def o383:Obj:=fn0 "_law_sheet" 59
def o384:Obj:=w8 "_law_sheet" 738 739 740 369 4 374 375 376 741 742
def o385:Obj:=fn1 "_law_sheet" 59 "law_uf020040_03" 617 377
def o388:Obj:=fn0 "_law_drawn" 60
def o389:Obj:=w8 "_law_drawn" 744 745 746 385 2 379 380 381 747 748
def o390:Obj:=fn1 "_law_drawn" 60 "law_uf020040_03" 617 382
def o393:Obj:=fn0 "_law_is_word" 61
def o394:Obj:=w8 "_law_is_word" 750 751 752 397 1 384 385 386 753 754
def o395:Obj:=fn1 "_law_is_word" 61 "law_uf020040_03" 617 387
def o398:Obj:=tp #[.str "_law_value" 759]
def o400:Obj:=fn0 "_law_is_thing" 62
def o401:Obj:=cd "_law_is_thing" 756 757 758 401 (.int 1 0) 389 390 391 392 393 760 761
def o402:Obj:=fn1 "_law_is_thing" 62 "law_uf020040_03" 617 394
def o405:Obj:=fn0 "_law_is_row" 63
def o406:Obj:=w8 "_law_is_row" 763 764 765 403 1 396 397 398 766 767
def o407:Obj:=fn1 "_law_is_row" 63 "law_uf020040_03" 617 399
def o410:Obj:=tp #[.str "_law_row_here" 772,.str "_law_opened" 773,.str "_law_kinds_here" 774,.str "_law_other" 775,.str "_law_kind" 776]
def o412:Obj:=fn0 "_law_due_words" 64
def o413:Obj:=cd "_law_due_words" 769 770 771 417 (.int 2 0) 401 402 403 404 405 777 778
def o414:Obj:=fn1 "_law_due_words" 64 "law_uf020040_03" 617 406
def o417:Obj:=tp #[.str "_law_rows" 783,.str "_law_opened" 784,.str "_law_numbers" 785,.str "_law_at" 786,.str "_law_row_here" 787,.str "_law_word_here" 788]
def o419:Obj:=fn0 "_law_due" 65
def o420:Obj:=cd "_law_due" 780 781 782 436 (.int 1 0) 408 409 410 411 412 789 790
def o421:Obj:=fn1 "_law_due" 65 "law_uf020040_03" 617 413
def o424:Obj:=tp #[.str "_law_found" 795]
def o426:Obj:=fn0 "_law_whole" 66
def o427:Obj:=cd "_law_whole" 792 793 794 456 (.int 1 0) 415 416 417 418 419 796 797
def o428:Obj:=fn1 "_law_whole" 66 "law_uf020040_03" 617 420
def o431:Obj:=tp #[.str "_law_cell" 802,.str "_law_some" 803]
def o433:Obj:=fn0 "_law_odd" 67
def o434:Obj:=cd "_law_odd" 799 800 801 458 (.int 1 0) 422 423 424 425 426 804 805
def o435:Obj:=fn1 "_law_odd" 67 "law_uf020040_03" 617 427
def o438:Obj:=fn0 "_law_more" 68
def o439:Obj:=w8 "_law_more" 807 808 809 470 3 429 430 431 810 811
def o440:Obj:=fn1 "_law_more" 68 "law_uf020040_03" 617 432
def o441(P:Params):Obj:={ cls:=.type "dict",data:=.dict #[kv P "__name__" 165 (.str "law_uf020040_03" 617),kq0 P,kq1 P,kq2 P,kq3 P,kq4 P,kq5 P,kq6 P,kq7 P,kq8 P,kq9 P,kq10 P,kq11 P,kq12 P,kq13 P,kq14 P,kq15 P,kq16 P,kq17 P,kq18 P,kq19 P,kq20 P,kq21 P,kq22 P,kq23 P,kq24 P,kq25 P,kq26 P,kq27 P,kq28 P,kq29 P,kq30 P,kq31 P,kq32 P,kq33 P,kq34 P,kq35 P,kv P "given_back" 481 (.ref 222),kv P "count_of" 490 (.ref 229),kv P "ended" 502 (.ref 236),kv P "moved" 517 (.ref 243),kv P "chooses" 524 (.ref 250),kv P "is_asleep" 532 (.ref 255),kv P "awake" 541 (.ref 262),kv P "beside" 551 (.ref 269),kv P "hand_used" 560 (.ref 276),kv P "fault" 571 (.ref 283),kv P "WORDS" 577 (.ref 284),kv P "standings" 592 (.ref 291),kv P "choices_to" 603 (.ref 298),kv P "looked" 616 (.ref 305),kv P "_law_cell_at" 626 (.ref 312),kv P "_law_word" 640 (.ref 319),kv P "_law_draw" 650 (.ref 326),kv P "_law_thing" 658 (.ref 333),kv P "_law_lend" 671 (.ref 340),kv P "_law_deed" 682 (.ref 347),kv P "_law_row" 688 (.ref 352),kv P "_law_hands" 699 (.ref 359),kv P "_law_first_four" 717 (.ref 366),kv P "_law_gadget" 737 (.ref 373),kv P "_law_sheet" 743 (.ref 378),kv P "_law_drawn" 749 (.ref 383),kv P "_law_is_word" 755 (.ref 388),kv P "_law_is_thing" 762 (.ref 395),kv P "_law_is_row" 768 (.ref 400),kv P "_law_due_words" 779 (.ref 407),kv P "_law_due" 791 (.ref 414),kv P "_law_whole" 798 (.ref 421),kv P "_law_odd" 806 (.ref 428),kv P "_law_more" 812 (.ref 433),kv P "_law_spoiled" 818 (.ref 438),kv P "_law_kinds" 826 (.ref 445),kv P "_law_caught" 834 (.ref 452),kv P "_law_looked" 842 (.ref 459),kv P "_law_made" 848 (.ref 464),kv P "law" 854 (.ref 469)] 77 }
def o442:Obj:={ cls:=.none,data:=.fields #[.int 3 0,z0,.ref 21,.int 16 0,z0,.ref 28,.int 23 0,z0,.ref 35,.int 30 0,z0,.ref 42,.int 34 0,z0,.ref 62,.int 36 0,z0,.ref 74,.int 38 0,z0,.ref 86,.int 40 0,z0,.ref 98,.int 42 0,z0,.ref 110,.int 44 0,z0,.ref 122,.int 51 0,z0,.ref 132,.int 55 0,z0,.ref 139,.int 57 0,z0,.ref 144,.int 61 0,z0,.ref 151,.int 65 0,z0,.ref 158,.int 77 0,z0,.ref 165,.int 82 0,z0,.ref 172,.int 87 0,z0,.ref 179,.int 93 0,z0,.ref 186,.int 103 0,z0,.ref 193,.int 109 0,z0,.ref 200,.int 126 0,z0,.ref 207,.int 131 0,z0,.ref 214,.int 138 0,z0,.ref 221,.int 148 0,z0,.ref 228,.int 156 0,z0,.ref 235,.int 164 0,z0,.ref 242,.int 183 0,z0,.ref 249,.int 186 0,z0,.ref 254,.int 188 0,z0,.ref 261,.int 194 0,z0,.ref 268,.int 201 0,z0,.ref 275,.int 209 0,z0,.ref 282,.int 223 0,z0,.ref 290,.int 241 0,z0,.ref 297,.int 250 0,z0,.ref 304,.int 264 0,z0,.ref 311,.int 268 0,z0,.ref 318,.int 282 0,z0,.ref 325,.int 287 0,z0,.ref 332,.int 291 0,z0,.ref 339,.int 300 0,z0,.ref 346,.int 306 0,z0,.ref 351,.int 323 0,z0,.ref 358,.int 326 0,z0,.ref 365,.int 343 0,z0,.ref 372,.int 369 0,z0,.ref 377,.int 385 0,z0,.ref 382,.int 397 0,z0,.ref 387,.int 401 0,z0,.ref 394,.int 403 0,z0,.ref 399,.int 417 0,z0,.ref 406,.int 436 0,z0,.ref 413,.int 456 0,z0,.ref 420,.int 458 0,z0,.ref 427,.int 470 0,z0,.ref 432,.int 478 0,z0,.ref 437,.int 495 0,z0,.ref 444,.int 498 0,z0,.ref 451,.int 507 0,z0,.ref 458,.int 513 0,z0,.ref 463,.int 519 0,z0,.ref 468] }
def o445:Obj:=fn0 "_law_spoiled" 69
def o446:Obj:=w8 "_law_spoiled" 813 814 815 478 3 434 435 436 816 817
def o447:Obj:=fn1 "_law_spoiled" 69 "law_uf020040_03" 617 437
def o450:Obj:=tp #[.str "_law_e" 822,.str "_law_kinds_here" 823]
def o452:Obj:=fn0 "_law_kinds" 70
def o453:Obj:=cd "_law_kinds" 819 820 821 495 (.int 1 0) 439 440 441 442 443 824 825
def o454:Obj:=fn1 "_law_kinds" 70 "law_uf020040_03" 617 444
def o457:Obj:=tp #[.str "_law_rows" 830,.str "_law_e" 831]
def o459:Obj:=fn0 "_law_caught" 71
def o460:Obj:=cd "_law_caught" 827 828 829 498 (.int 1 0) 446 447 448 449 450 832 833
def o461:Obj:=fn1 "_law_caught" 71 "law_uf020040_03" 617 451
def o464:Obj:=tp #[.str "_law_rows" 838,.str "_law_e" 839]
def o466:Obj:=fn0 "_law_looked" 72
def o467:Obj:=cd "_law_looked" 835 836 837 507 (.int 1 0) 453 454 455 456 457 840 841
def o468:Obj:=fn1 "_law_looked" 72 "law_uf020040_03" 617 458
def o471:Obj:=fn0 "_law_made" 73
def o472:Obj:=w8 "_law_made" 843 844 845 513 1 460 461 462 846 847
def o473:Obj:=fn1 "_law_made" 73 "law_uf020040_03" 617 463
def o476:Obj:=fn0 "law" 74
def o477:Obj:=w8 "law" 849 850 851 519 1 465 466 467 852 853
def o478:Obj:=fn1 "law" 74 "law_uf020040_03" 617 468
noncomputable def envH:Env:={ scope:=pq.main.scope,locals:=mainNs,globals:=mainNs,cells:=[],code:=.ref 13,frame:=some 14 }
noncomputable abbrev cE:Code:=.body (behindTheImports pq) envH
noncomputable abbrev bF:List Frame:=[topFrame ⟨0,0,0,0⟩]
noncomputable abbrev anH:Option Value:=some (.ref 6)
def hA(P:Params):Heap:=⟨⟨[(boot_o_0 P),(boot_o_1 P),(boot_o_2 P),(o3 P),(boot_o_4 P),(boot_o_5 P),(boot_o_6 P),(boot_o_7 P),(boot_o_8 P),(boot_o_9 P),(boot_o_10 P),zT,zF,o13,o14]⟩,{}⟩
def hF(P:Params):Heap:=⟨⟨[(boot_o_0 P),(boot_o_1 P),(boot_o_2 P),(o441 P),(boot_o_4 P),(boot_o_5 P),(boot_o_6 P),(boot_o_7 P),(boot_o_8 P),(boot_o_9 P),(boot_o_10 P),zT,o442,o13,o14,o17,zT,zF,o20,zT,o22,o23,o24,zT,zF,o27,zT,o29,o30,o31,zT,zF,o34,zT,o36,o37,o38,o39,o40,(o41 P),zT,o43,o44,o45,zT,zF,o48,zT,o50,o51,o52,o53,(o54 P),o97,o56,o57,o58,o59,o60,(o61 P),zT,zF,o64,o65,zT,(o67 P),o68,o69,o70,o71,o72,(o73 P),zT,zF,o76,o77,zT,(o79 P),o80,o81,o82,o83,o84,(o85 P),zT,zF,o88,o89,zT,(o91 P),o92,o93,o94,o98,o99,(o100 P),zT,zF,o103,o104,zT,(o106 P),o107,o108,o109,o110,o111,(o112 P),zT,zF,o115,o116,zT,(o118 P),o119,o120,o121,o122,o123,(o124 P),zT,zF,o127,o128,zT,(o130 P),o131,o132,o133,zT,zF,o136,o137,o138,zT,zF,o141,zT,o143,o144,o145,zT,zF,o148,o149,o150,zT,zF,o153,zT,o155,o156,o157,zT,zF,o160,zT,o162,o163,o164,zT,zF,o167,zT,o169,o170,o171,zT,zF,o174,zT,o176,o177,o178,zT,zF,o181,zT,o183,o184,o185,zT,zF,o188,zT,o190,o191,o192,zT,zF,o195,zT,o197,o198,o199,zT,zF,o202,zT,o204,o205,o206,zT,zF,o209,zT,o211,o212,o213,zT,zF,o216,zT,o218,o219,o220,zT,zF,o225,zT,o227,o228,o229,zT,zF,o232,zT,o234,o235,o236,zT,zF,o239,zT,o241,o242,o243,zT,zF,o246,zT,o248,o249,o250,zT,zF,o253,zT,o255,o256,o257,zT,zF,o260,o261,o262,zT,zF,o265,zT,o267,o268,o269,zT,zF,o272,zT,o274,o275,o276,zT,zF,o279,zT,o281,o282,o283,zT,zF,o286,zT,o288,o289,o290,o291,zT,zF,o294,zT,o296,o297,o298,zT,zF,o301,zT,o303,o304,o305,zT,zF,o308,zT,o310,o311,o312,zT,zF,o315,zT,o317,o318,o319,zT,zF,o322,zT,o324,o325,o326,zT,zF,o329,zT,o331,o332,o333,zT,zF,o336,zT,o338,o339,o340,zT,zF,o343,zT,o345,o346,o347,zT,zF,o350,zT,o352,o353,o354,zT,zF,o357,o358,o359,zT,zF,o362,zT,o364,o365,o366,zT,zF,o369,zT,o371,o372,o373,zT,zF,o376,zT,o378,o379,o380,zT,zF,o383,o384,o385,zT,zF,o388,o389,o390,zT,zF,o393,o394,o395,zT,zF,o398,zT,o400,o401,o402,zT,zF,o405,o406,o407,zT,zF,o410,zT,o412,o413,o414,zT,zF,o417,zT,o419,o420,o421,zT,zF,o424,zT,o426,o427,o428,zT,zF,o431,zT,o433,o434,o435,zT,zF,o438,o439,o440,zT,zF,o445,o446,o447,zT,zF,o450,zT,o452,o453,o454,zT,zF,o457,zT,o459,o460,o461,zT,zF,o464,zT,o466,o467,o468,zT,zF,o471,o472,o473,zT,zF,o476,o477,o478]⟩,{}⟩
noncomputable def st0(os:OsState)(h:Heap)(t:Nat):Shared:=⟨h,⟨[]⟩,{},t,os⟩
def tr0(P:Params):BT:=(Y (boot_o_0 P) (Y (boot_o_1 P) (Y (o3 P) (lT (boot_o_7 P)) (lT zT)) (Y (boot_o_5 P) (lT (boot_o_9 P)) (lT o13))) (Y (boot_o_2 P) (Y (boot_o_4 P) (lT (boot_o_8 P)) (lT zF)) (Y (boot_o_6 P) (lT (boot_o_10 P)) (lT o14))))
noncomputable def sT0(w:World)(os:OsState):SharedT:=⟨tr0 w.params,15,{},⟨[]⟩,{},187,os⟩
def tr1(P:Params):BT:=(Y (boot_o_0 P) (Y (boot_o_1 P) (Y (o15 P) (Y (boot_o_7 P) (Y o17 (Y zF (lT o65) .nil) (Y zT (lT o81) .nil)) (Y zT (Y (o41 P) (lT (o73 P)) .nil) (Y o57 (lT o89) .nil))) (Y zT (Y zT (Y o37 (lT o69) .nil) (Y o53 (lT (o85 P)) .nil)) (Y o29 (Y o45 (lT o77) .nil) (Y (o61 P) (lT o93) .nil)))) (Y (boot_o_5 P) (Y (boot_o_9 P) (Y zF (Y zT (lT (o67 P)) .nil) (Y o51 (lT o83) .nil)) (Y o27 (Y o43 (lT zF) .nil) (Y o59 (lT (o91 P)) .nil))) (Y o13 (Y o23 (Y o39 (lT o71) .nil) (Y o55 (lT zF) .nil)) (Y o31 (Y zF (lT (o79 P)) .nil) (lT zF))))) (Y (boot_o_2 P) (Y (boot_o_4 P) (Y (boot_o_8 P) (Y zT (Y o34 (lT zT) .nil) (Y o50 (lT o82) .nil)) (Y zF (Y zT (lT zT) .nil) (Y o58 (lT zT) .nil))) (Y o16 (Y o22 (Y o38 (lT o70) .nil) (Y (o54 P) (lT zT) .nil)) (Y o30 (Y zT (lT zT) .nil) (Y zT (lT o94) .nil)))) (Y (boot_o_6 P) (Y (boot_o_10 P) (Y o20 (Y o36 (lT o68) .nil) (Y o52 (lT o84) .nil)) (Y zT (Y o44 (lT o76) .nil) (Y o60 (lT o92) .nil))) (Y o14 (Y o24 (Y o40 (lT o72) .nil) (Y o56 (lT o88) .nil)) (Y zT (Y o48 (lT o80) .nil) (lT o64))))))
noncomputable def sT1(w:World)(os:OsState):SharedT:=⟨tr1 w.params,93,{},⟨[]⟩,{},304,os⟩
def tr2(P:Params):BT:=(Y (boot_o_0 P) (Y (boot_o_1 P) (Y (o95 P) (Y (boot_o_7 P) (Y o17 (Y zF (Y o65 (lT o132) (lT zT)) (Y (o100 P) (lT o164) .nil)) (Y zT (Y o81 (lT o148) (lT o212)) (Y o116 (lT zF) .nil))) (Y zT (Y (o41 P) (Y (o73 P) (lT zF) (lT o204)) (Y o108 (lT zT) .nil)) (Y o57 (Y o89 (lT o156) (lT o220)) (Y (o124 P) (lT o188) .nil)))) (Y zT (Y zT (Y o37 (Y o69 (lT o136) (lT zT)) (Y o104 (lT zT) .nil)) (Y o53 (Y (o85 P) (lT zF) (lT o216)) (Y o120 (lT o184) .nil))) (Y o29 (Y o45 (Y o77 (lT o144) (lT zF)) (Y (o112 P) (lT o176) .nil)) (Y (o61 P) (Y o93 (lT o160) .nil) (Y o128 (lT o192) .nil))))) (Y (boot_o_5 P) (Y (boot_o_9 P) (Y zF (Y zT (Y (o67 P) (lT zT) (lT o198)) (Y zF (lT zF) .nil)) (Y o51 (Y o83 (lT o150) (lT zT)) (Y (o118 P) (lT zT) .nil))) (Y o27 (Y o43 (Y zF (lT zT) (lT o206)) (Y o110 (lT o174) .nil)) (Y o59 (Y (o91 P) (lT zT) .nil) (Y zF (lT o190) .nil)))) (Y o13 (Y o23 (Y o39 (Y o71 (lT o138) (lT o202)) (Y (o106 P) (lT o170) .nil)) (Y o97 (Y zF (lT zT) (lT o218)) (Y o122 (lT zT) .nil))) (Y o31 (Y zF (Y (o79 P) (lT zT) (lT zT)) (Y zF (lT o178) .nil)) (Y zF (Y o98 (lT o162) .nil) (Y (o130 P) (lT zF) .nil)))))) (Y (boot_o_2 P) (Y (boot_o_4 P) (Y (boot_o_8 P) (Y zT (Y o34 (Y zT (lT o133) (lT o197)) (Y zT (lT zT) .nil)) (Y o50 (Y o82 (lT o149) (lT o213)) (Y zT (lT o181) .nil))) (Y zF (Y zT (Y zT (lT o141) (lT o205)) (Y o109 (lT zF) .nil)) (Y o58 (Y zT (lT o157) .nil) (Y zT (lT zT) .nil)))) (Y o96 (Y o22 (Y o38 (Y o70 (lT o137) (lT zF)) (Y zT (lT o169) .nil)) (Y (o54 P) (Y zT (lT o153) (lT zT)) (Y o121 (lT o185) .nil))) (Y o30 (Y zT (Y zT (lT o145) (lT o209)) (Y zT (lT o177) .nil)) (Y zT (Y o94 (lT zT) .nil) (Y zT (lT zT) .nil))))) (Y (boot_o_6 P) (Y (boot_o_10 P) (Y o20 (Y o36 (Y o68 (lT zF) (lT o199)) (Y o103 (lT o167) .nil)) (Y o52 (Y o84 (lT zT) (lT zF)) (Y o119 (lT o183) .nil))) (Y zT (Y o44 (Y o76 (lT o143) (lT zT)) (Y o111 (lT zT) .nil)) (Y o60 (Y o92 (lT zF) .nil) (Y o127 (lT o191) .nil)))) (Y o14 (Y o24 (Y o40 (Y o72 (lT zT) (lT zT)) (Y o107 (lT o171) .nil)) (Y o56 (Y o88 (lT o155) (lT o219)) (Y o123 (lT zF) .nil))) (Y zT (Y o48 (Y o80 (lT zF) (lT o211)) (Y o115 (lT zT) .nil)) (Y o64 (Y o99 (lT o163) .nil) (Y o131 (lT o195) .nil)))))))
noncomputable def sT2(w:World)(os:OsState):SharedT:=⟨tr2 w.params,216,{},⟨[]⟩,{},471,os⟩
def u0(P:Params):BT:=Y (o100 P) (Y o164 (lT o294) (lT zT)) (Y zT (lT o358) .nil)
def u1:BT:=Y o116 (Y zF (lT o310) (lT o438)) (Y o246 (lT zT) .nil)
def u2:BT:=Y o108 (Y zT (lT zT) (lT zF)) (Y zF (lT o366) .nil)
def u3:BT:=Y o89 (Y o156 (lT o286) (lT o414)) (Y o220 (lT o350) .nil)
def u4:BT:=Y o104 (Y zT (lT o298) (lT o426)) (Y o234 (lT o362) .nil)
def u5(P:Params):BT:=Y (o112 P) (Y o176 (lT zT) (lT o434)) (Y o242 (lT zT) .nil)
def u6:BT:=Y o93 (Y o160 (lT o290) (lT zT)) (Y zT (lT o354) .nil)
def u7:BT:=Y zF (Y zF (lT o296) (lT o424)) (Y o232 (lT zT) .nil)
def u8(P:Params):BT:=Y (o118 P) (Y zT (lT o312) (lT o440)) (Y o248 (lT o376) .nil)
def u9:BT:=Y o110 (Y o174 (lT o304) (lT zT)) (Y zT (lT zF) .nil)
def u10(P:Params):BT:=Y (o91 P) (Y zT (lT o288) (lT zF)) (Y zF (lT o352) .nil)
def u11(P:Params):BT:=Y (o106 P) (Y o170 (lT zF) (lT o428)) (Y o236 (lT o364) .nil)
def u12:BT:=Y zF (Y o178 (lT o308) (lT zT)) (Y zT (lT o372) .nil)
def u13:BT:=Y o98 (Y o162 (lT zT) (lT o420)) (Y o228 (lT zF) .nil)
def u14:BT:=Y zT (Y zT (lT zT) (lT zF)) (Y zF (lT o359) .nil)
def u15:BT:=Y zT (Y o181 (lT o311) (lT o439)) (Y zT (lT zF) .nil)
def u16:BT:=Y o109 (Y zF (lT o303) (lT o431)) (Y o239 (lT zT) .nil)
def u17:BT:=Y zT (Y o157 (lT zT) (lT zT)) (Y zT (lT zT) .nil)
def u18:BT:=Y zT (Y o169 (lT zT) (lT o427)) (Y o235 (lT zT) .nil)
def u19:BT:=Y zT (Y o177 (lT zF) (lT o435)) (Y o243 (lT o371) .nil)
def u20:BT:=Y o94 (Y zT (lT o291) (lT o419)) (Y o227 (lT zT) .nil)
def u21:BT:=Y o103 (Y o167 (lT o297) (lT zT)) (Y zT (lT zF) .nil)
def u22:BT:=Y o111 (Y zT (lT o305) (lT o433)) (Y o241 (lT o369) .nil)
def u23:BT:=Y o92 (Y zF (lT o289) (lT o417)) (Y o225 (lT o353) .nil)
def u24:BT:=Y o107 (Y o171 (lT o301) (lT zT)) (Y zT (lT o365) .nil)
def u25:BT:=Y o88 (Y o155 (lT zF) (lT o413)) (Y o219 (lT zF) .nil)
def u26:BT:=Y o115 (Y zT (lT zT) (lT zF)) (Y zF (lT o373) .nil)
def u27:BT:=Y o99 (Y o163 (lT zF) (lT o421)) (Y o229 (lT o357) .nil)
def tr3(P:Params):BT:=(Y (boot_o_0 P) (Y (boot_o_1 P) (Y (o221 P) (Y (boot_o_7 P) (Y o17 (Y zF (Y o65 (Y o132 (lT o262) (lT o390)) (Y zT (lT o326) .nil)) (u0 P)) (Y zT (Y o81 (Y o148 (lT zF) (lT o406)) (Y o212 (lT zF) .nil)) u1)) (Y zT (Y (o41 P) (Y (o73 P) (Y zF (lT zT) (lT o398)) (Y o204 (lT zT) .nil)) u2) (Y o57 u3 (Y (o124 P) (Y o188 (lT o318) .nil) (Y zT (lT zF) .nil))))) (Y zT (Y zT (Y o37 (Y o69 (Y o136 (lT zT) (lT o394)) (Y zT (lT zT) .nil)) u4) (Y o53 (Y (o85 P) (Y zF (lT o282) (lT o410)) (Y o216 (lT o346) .nil)) (Y o120 (Y o184 (lT zF) .nil) (Y o250 (lT o378) .nil)))) (Y o29 (Y o45 (Y o77 (Y o144 (lT o274) (lT o402)) (Y zF (lT o338) .nil)) (u5 P)) (Y (o61 P) u6 (Y o128 (Y o192 (lT o322) .nil) (Y zT (lT zT) .nil)))))) (Y (boot_o_5 P) (Y (boot_o_9 P) (Y zF (Y zT (Y (o67 P) (Y zT (lT zF) (lT zF)) (Y o198 (lT zF) .nil)) u7) (Y o51 (Y o83 (Y o150 (lT zT) (lT zT)) (Y zT (lT zT) .nil)) (u8 P))) (Y o27 (Y o43 (Y zF (Y zT (lT o272) (lT o400)) (Y o206 (lT o336) .nil)) u9) (Y o59 (u10 P) (Y zF (Y o190 (lT zT) .nil) (Y o256 (lT o384) .nil))))) (Y o13 (Y o23 (Y o39 (Y o71 (Y o138 (lT o268) (lT zT)) (Y o202 (lT o332) .nil)) (u11 P)) (Y o97 (Y zF (Y zT (lT zT) (lT o412)) (Y o218 (lT zT) .nil)) (Y o122 (Y zT (lT zT) .nil) (Y zF (lT o380) .nil)))) (Y o31 (Y zF (Y (o79 P) (Y zT (lT o276) (lT zF)) (Y zT (lT o340) .nil)) u12) (Y zF u13 (Y (o130 P) (Y zF (lT o324) .nil) (Y o260 (lT o388) .nil))))))) (Y (boot_o_2 P) (Y (boot_o_4 P) (Y (boot_o_8 P) (Y zT (Y o34 (Y zT (Y o133 (lT zT) (lT zT)) (Y o197 (lT zT) .nil)) u14) (Y o50 (Y o82 (Y o149 (lT o279) (lT o407)) (Y o213 (lT o343) .nil)) u15)) (Y zF (Y zT (Y zT (Y o141 (lT zF) (lT zT)) (Y o205 (lT zF) .nil)) u16) (Y o58 u17 (Y zT (Y zT (lT o319) .nil) (Y o255 (lT o383) .nil))))) (Y o222 (Y o22 (Y o38 (Y o70 (Y o137 (lT o267) (lT o395)) (Y zF (lT o331) .nil)) u18) (Y (o54 P) (Y zT (Y o153 (lT o283) (lT zT)) (Y zT (lT o347) .nil)) (Y o121 (Y o185 (lT o315) .nil) (Y zT (lT o379) .nil)))) (Y o30 (Y zT (Y zT (Y o145 (lT o275) (lT zT)) (Y o209 (lT o339) .nil)) u19) (Y zT u20 (Y zT (Y zT (lT zT) .nil) (Y zF (lT zF) .nil)))))) (Y (boot_o_6 P) (Y (boot_o_10 P) (Y o20 (Y o36 (Y o68 (Y zF (lT o265) (lT o393)) (Y o199 (lT o329) .nil)) u21) (Y o52 (Y o84 (Y zT (lT o281) (lT zF)) (Y zF (lT o345) .nil)) (Y o119 (Y o183 (lT zT) .nil) (Y o249 (lT zT) .nil)))) (Y zT (Y o44 (Y o76 (Y o143 (lT zT) (lT o401)) (Y zT (lT zT) .nil)) u22) (Y o60 u23 (Y o127 (Y o191 (lT zF) .nil) (Y o257 (lT o385) .nil))))) (Y o14 (Y o24 (Y o40 (Y o72 (Y zT (lT o269) (lT zF)) (Y zT (lT o333) .nil)) u24) (Y o56 u25 (Y o123 (Y zF (lT o317) .nil) (Y o253 (lT zT) .nil)))) (Y zT (Y o48 (Y o80 (Y zF (lT zT) (lT o405)) (Y o211 (lT zT) .nil)) u26) (Y o64 u27 (Y o131 (Y o195 (lT o325) .nil) (Y o261 (lT o389) .nil))))))))
noncomputable def sT3(w:World)(os:OsState):SharedT:=⟨tr3 w.params,434,{},⟨[]⟩,{},813,os⟩
def tr4(P:Params):BT:=(Y (boot_o_0 P) (Y (boot_o_1 P) (Y (o441 P) (Y (boot_o_7 P) (Y o17 (Y zF (Y o65 (Y o132 (lT o262) (lT o390)) (Y zT (lT o326) (lT zF))) (u0 P)) (Y zT (Y o81 (Y o148 (lT zF) (lT o406)) (Y o212 (lT zF) (lT o472))) u1)) (Y zT (Y (o41 P) (Y (o73 P) (Y zF (lT zT) (lT o398)) (Y o204 (lT zT) (lT o464))) u2) (Y o57 u3 (Y (o124 P) (Y o188 (lT o318) (lT zT)) (Y zT (lT zF) .nil))))) (Y zT (Y zT (Y o37 (Y o69 (Y o136 (lT zT) (lT o394)) (Y zT (lT zT) (lT o460))) u4) (Y o53 (Y (o85 P) (Y zF (lT o282) (lT o410)) (Y o216 (lT o346) (lT o476))) (Y o120 (Y o184 (lT zF) (lT zF)) (Y o250 (lT o378) .nil)))) (Y o29 (Y o45 (Y o77 (Y o144 (lT o274) (lT o402)) (Y zF (lT o338) (lT o468))) (u5 P)) (Y (o61 P) u6 (Y o128 (Y o192 (lT o322) (lT o452)) (Y zT (lT zT) .nil)))))) (Y (boot_o_5 P) (Y (boot_o_9 P) (Y zF (Y zT (Y (o67 P) (Y zT (lT zF) (lT zF)) (Y o198 (lT zF) (lT zT))) u7) (Y o51 (Y o83 (Y o150 (lT zT) (lT zT)) (Y zT (lT zT) (lT zT))) (u8 P))) (Y o27 (Y o43 (Y zF (Y zT (lT o272) (lT o400)) (Y o206 (lT o336) (lT o466))) u9) (Y o59 (u10 P) (Y zF (Y o190 (lT zT) (lT o450)) (Y o256 (lT o384) .nil))))) (Y o13 (Y o23 (Y o39 (Y o71 (Y o138 (lT o268) (lT zT)) (Y o202 (lT o332) (lT zT))) (u11 P)) (Y o97 (Y zF (Y zT (lT zT) (lT o412)) (Y o218 (lT zT) (lT o478))) (Y o122 (Y zT (lT zT) (lT o446)) (Y zF (lT o380) .nil)))) (Y o31 (Y zF (Y (o79 P) (Y zT (lT o276) (lT zF)) (Y zT (lT o340) (lT zF))) u12) (Y zF u13 (Y (o130 P) (Y zF (lT o324) (lT o454)) (Y o260 (lT o388) .nil))))))) (Y (boot_o_2 P) (Y (boot_o_4 P) (Y (boot_o_8 P) (Y zT (Y o34 (Y zT (Y o133 (lT zT) (lT zT)) (Y o197 (lT zT) (lT o457))) u14) (Y o50 (Y o82 (Y o149 (lT o279) (lT o407)) (Y o213 (lT o343) (lT o473))) u15)) (Y zF (Y zT (Y zT (Y o141 (lT zF) (lT zT)) (Y o205 (lT zF) (lT zT))) u16) (Y o58 u17 (Y zT (Y zT (lT o319) (lT zF)) (Y o255 (lT o383) .nil))))) (Y o442 (Y o22 (Y o38 (Y o70 (Y o137 (lT o267) (lT o395)) (Y zF (lT o331) (lT o461))) u18) (Y (o54 P) (Y zT (Y o153 (lT o283) (lT zT)) (Y zT (lT o347) (lT o477))) (Y o121 (Y o185 (lT o315) (lT o445)) (Y zT (lT o379) .nil)))) (Y o30 (Y zT (Y zT (Y o145 (lT o275) (lT zT)) (Y o209 (lT o339) (lT zT))) u19) (Y zT u20 (Y zT (Y zT (lT zT) (lT o453)) (Y zF (lT zF) .nil)))))) (Y (boot_o_6 P) (Y (boot_o_10 P) (Y o20 (Y o36 (Y o68 (Y zF (lT o265) (lT o393)) (Y o199 (lT o329) (lT o459))) u21) (Y o52 (Y o84 (Y zT (lT o281) (lT zF)) (Y zF (lT o345) (lT zF))) (Y o119 (Y o183 (lT zT) (lT zT)) (Y o249 (lT zT) .nil)))) (Y zT (Y o44 (Y o76 (Y o143 (lT zT) (lT o401)) (Y zT (lT zT) (lT o467))) u22) (Y o60 u23 (Y o127 (Y o191 (lT zF) (lT zT)) (Y o257 (lT o385) .nil))))) (Y o14 (Y o24 (Y o40 (Y o72 (Y zT (lT o269) (lT zF)) (Y zT (lT o333) (lT zF))) u24) (Y o56 u25 (Y o123 (Y zF (lT o317) (lT o447)) (Y o253 (lT zT) .nil)))) (Y zT (Y o48 (Y o80 (Y zF (lT zT) (lT o405)) (Y o211 (lT zT) (lT o471))) u26) (Y o64 u27 (Y o131 (Y o195 (lT o325) (lT zT)) (Y o261 (lT o389) .nil))))))))
noncomputable def sT4(w:World)(os:OsState):SharedT:=⟨tr4 w.params,470,{},⟨[]⟩,{},855,os⟩
noncomputable def ls1:List Stmt:=((behindTheImports pq).drop 0).take 10
noncomputable def ls2:List Stmt:=((behindTheImports pq).drop 10).take 22
noncomputable def ls3:List Stmt:=((behindTheImports pq).drop 32).take 37
noncomputable def ls4:List Stmt:=((behindTheImports pq).drop 69).take 6
set_option maxRecDepth 100000
set_option maxHeartbeats 8000000
theorem preH(w:World)(os:OsState):topGo treeTable pq w 11 anH 12 ⟨boot_heap w.params,⟨[]⟩,boot_drawn,boot_toks,os⟩ (topStub pq)=some (st0 os (hA w.params) 187,⟨denote treeTable cE,cE,⟨0,0,0,0⟩,bF⟩):=by kernel_rfl
theorem yc(w:World)(os:OsState):segRun treeTable pq w 11 anH 1 1 (st0 os (hA w.params) 187) (blockOf (behindTheImports pq) envH cE ⟨0,0,0,0⟩ bF)=some (.next,(sT0 w os).abs,cE,⟨0,0,0,0⟩):=by kernel_rfl
theorem gH1(w:World)(os:OsState):segRunT treeTable pq w 11 anH 1 989 (sT0 w os) (piecesOf ls1 envH cE ⟨0,0,0,0⟩ bF)=some (.next,sT1 w os,cE,⟨38,0,39,8⟩):=by kernel_rfl
theorem gH2(w:World)(os:OsState):segRunT treeTable pq w 11 anH 1 1083 (sT1 w os) (piecesOf ls2 envH cE ⟨38,0,39,8⟩ bF)=some (.next,sT2 w os,cE,⟨131,0,137,57⟩):=by kernel_rfl
theorem gH3(w:World)(os:OsState):segRunT treeTable pq w 11 anH 1 1085 (sT2 w os) (piecesOf ls3 envH cE ⟨131,0,137,57⟩ bF)=some (.next,sT3 w os,cE,⟨470,0,477,36⟩):=by kernel_rfl
theorem gH4(w:World)(os:OsState):segRunT treeTable pq w 11 anH 1 169 (sT3 w os) (piecesOf ls4 envH cE ⟨470,0,477,36⟩ bF)=some (.next,sT4 w os,cE,⟨519,0,535,70⟩):=by kernel_rfl
theorem finH(w:World)(os:OsState):topRun treeTable pq w 11 anH 2 (sT4 w os).abs ⟨doneF .next,cE,⟨519,0,535,70⟩,bF⟩=some (st0 os (hF w.params) 855):=by kernel_rfl
theorem Ay:behindTheImports pq=ls1++(ls2++(ls3++(ls4++[]))):=by kernel_rfl
theorem runH(w:World)(os:OsState):topRun treeTable pq w 11 anH (12+(1+(989+(1083+(1085+(169+2)))))) ⟨boot_heap w.params,⟨[]⟩,boot_drawn,boot_toks,os⟩ (topStub pq)=some (st0 os (hF w.params) 855):=by
 refine go_top (preH w os) (piece_block (yc w os) ?_);rw [show restOf (behindTheImports pq) envH cE ⟨0,0,0,0⟩ bF=restOf (ls1++(ls2++(ls3++(ls4++[])))) envH cE ⟨0,0,0,0⟩ bF from Qf (λb=>restOf b envH cE ⟨0,0,0,0⟩ bF) Ay];exact (piece_app (segRun_of (gH1 w os)) (piece_app (segRun_of (gH2 w os)) (piece_app (segRun_of (gH3 w os)) (piece_app (segRun_of (gH4 w os)) (finH w os)))))
theorem Az(w:World):((boot_heap w.params).isNs mainGlobals&&(Array.mk ([]:List GenState)).size == 0,(boot_heap w.params).objs.size,(boot_heap w.params).nsMap mainGlobals "__annotations__")=(true,11,anH):=by kernel_rfl
theorem AA:∀ w:World,(fencedOpening treeTable pq w 7000).map (λs=>(s.heap,s.gens,s.drawn,s.toks))=some (boot_heap w.params,Array.mk [],boot_drawn,boot_toks):=boot_open (by kernel_rfl) rfl (λs=>by kernel_rfl)
end Mine
set_option autoImplicit true
set_option tactic.hygienic true
namespace Mine
open PySem
theorem byG{G:Prop}(h:∀ X:Prop,(G->X)->X):G:=h G id
theorem lc{α:Type}{motive:List α->Prop}(nil:motive [])(cons:∀ a l,motive (a::l))(l:List α):motive l:=l.casesOn nil cons
theorem nc{motive:Nat->Prop}(zero:motive 0)(succ:∀ n,motive (n+1))(n:Nat):motive n:=n.casesOn zero succ
theorem dc{motive:PyData->Prop}(none:motive .none)(bool:∀ b,motive (.bool b))(int:∀ i,motive (.int i))(str:∀ s,motive (.str s))(list:∀ xs,motive (.list xs))(tuple:∀ xs,motive (.tuple xs))(dict:∀ kvs,motive (.dict kvs))(d:PyData):motive d:=d.casesOn none bool int str list tuple dict
theorem nF{P:Prop}(h:false=true):P:=(Qr h).elim
theorem nT{P:Prop}(h:true=false):P:=(Qr h.symm).elim
theorem nN{P:Prop}{α:Type}{x:α}(h:none=some x):P:=nomatch h
theorem nS{P:Prop}{α:Type}{x:α}(h:some x=none):P:=nomatch h
theorem nL{P:Prop}{α:Type}{x:α}{l:List α}(h:[]=x::l):P:=nomatch h
theorem nM{P:Prop}{α:Type}{x:α}{l:List α}(h:x::l=[]):P:=nomatch h
abbrev D:=PyData
abbrev St:=List (Option D)
inductive Ty | list | tuple | str | int | bool
 deriving DecidableEq
inductive B1 | len | all | any | list | tuple | int
 deriving DecidableEq
mutual
inductive Ex
 | k (d:D)
 | v (i:Nat)
 | gc (x:Str)
 | tup (es:Exs)
 | lst (es:Exs)
 | dic (ks vs:Exs)
 | bin (op:Operator) (a b:Ex)
 | neg (a:Ex)
 | not (a:Ex)
 | bool (isAnd:Bool) (es:Exs)
 | cmp (op:CmpOp) (a b:Ex)
 | cmp2 (o1 o2:CmpOp) (a b c:Ex)
 | idx (a i:Ex)
 | sl (a:Ex) (lo hi:Exo)
 | call (fr:Bool) (f:Str) (args:Exs)
 | b1 (f:B1) (a:Ex)
 | isi (a:Ex) (t:Ty)
 | index (a b:Ex)
 | get (a k d:Ex)
 | mk (cls:Str) (a:Ex)
 | att (a:Ex)
 | isc (a:Ex) (cls:Str)
 | comp (elt:Ex) (it:It) (cond:Exo)
inductive Exs
 | nil
 | cons (e:Ex) (es:Exs)
inductive Exo
 | none
 | some (e:Ex)
inductive It
 | plain (e:Ex)
 | range1 (e:Ex)
 | enum (e:Ex)
end
set_option genCtorIdx false
inductive Fl
 | next
 | ret (d:D)
 | exc (x:D)
mutual
inductive Sm
 | asg (i:Nat) (e:Ex)
 | unp (i j:Nat) (e:Ex)
 | seti (i:Nat) (ix e:Ex)
 | app (i:Nat) (e:Ex)
 | pop (i:Nat)
 | rev (i:Nat)
 | ite (c:Ex) (t e:Sms)
 | for1 (i:Nat) (it:It) (body:Sms)
 | for2 (i j:Nat) (it:It) (body:Sms)
 | wh (c:Ex) (body:Sms)
 | ret (e:Ex)
 | rse (cls:Str) (e:Ex)
 | exr (f:Str) (args:Exs)
 | ifn (f:Str) (args:Exs)
 | cor (f:Str) (i j:Nat) (e:Ex)
 | cand (e:Ex) (f:Str) (i j:Nat)
 | stuck
inductive Sms
 | nil
 | cons (s:Sm) (r:Sms)
end
noncomputable def xD(cls:Str)(n:Int):D:=.dict [(.list [.str cls],.int n)]
noncomputable def exN:List Str:=["NoRow", "NoBlock", "NoWord", "Narrow", "Taken", "NoEnd", "DeskError"]
noncomputable def cy(c t:Str):Bool:=c == t||t == "DeskError" || t == "ValueError"
mutual
noncomputable def noList:D->Bool
 | .list _=>false
 | .dict _=>false
 | .tuple xs=>ap xs
 | _=>true
noncomputable def ap:List D->Bool
 | []=>true
 | x::xs=>noList x&&ap xs
end
theorem iE  : ap []=true:=rfl
theorem aG(x_1:D)(xs:List D):ap (x_1::xs)=(noList x_1&&ap xs):=rfl
def eh:List (D × D)->Bool
 | []=>true
 | (a,b)::r=>noList a&&noList b&&eh r
def flat:D->Bool
 | .list xs=>ap xs
 | .dict kvs=>eh kvs
 | d=>noList d
noncomputable def truth:D->Option Bool
 | .none=>some false
 | .bool b=>some b
 | .int i=>some (i != 0)
 | .str x=>some (x.length != 0)
 | .list xs=>some (!xs.isEmpty)
 | .tuple xs=>some (!xs.isEmpty)
 | .dict _=>none
theorem nV(b:Bool):truth (PyData.bool b)=some b:=rfl
noncomputable def cT:List D->Option (List Bool)
 | []=>some []
 | .bool b::xs=>(cT xs).map λbs=>b::bs
 | _=>none
noncomputable def isScalar:D->Bool
 | .list _ | .tuple _ | .dict _=>false
 | _=>true
mutual
noncomputable def noDict:D->Bool
 | .dict _=>false
 | .list xs=>av xs
 | .tuple xs=>av xs
 | _=>true
noncomputable def av:List D->Bool
 | []=>true
 | x::xs=>noDict x&&av xs
end
theorem dD(x_1:D)(xs:List D):av (x_1::xs)=(noDict x_1&&av xs):=rfl
def shp(d:D):Bool:=noDict d&&decide (d.depth<=32)
noncomputable def vD:D->Bool
 | .none=>true
 | _=>false
noncomputable def AB:D->Bool
 | .bool _=>true
 | _=>false
noncomputable def smallI(a:Int):Bool:=decide (a.natAbs < 2 ^ 60)
def pyEq(a b:D):Option Bool:=
 if (isScalar a&&isScalar b)||(shp a&&shp b) then some (a.eqv b) else none
noncomputable def repL{α:Type}(xs:List α):Nat->List α
 | 0=>[]
 | n+1=>xs++repL xs n
theorem uv{α:Type}(xs:List α):repL xs 0=[]:=rfl
theorem iF{α:Type}(xs:List α)(n:Nat):repL xs (n+1)=xs++repL xs n:=rfl
def strMul(x:Str)(n:Nat):Str:=⟨(repL x.cps.toList n).toArray⟩
noncomputable def addD:D->D->Option D
 | .int a,.int b=>some (.int (a+b))
 | .str x,.str y=>if x.length+y.length<=2 ^ 20 then some (.str (x++y)) else none
 | .list xs,.list ys=>if xs.length+ys.length<=2 ^ 20 then some (.list (xs++ys)) else none
 | .tuple xs,.tuple ys=>if xs.length+ys.length<=2 ^ 14 then some (.tuple (xs++ys)) else none
 | _,_=>none
def mulOkI(a b:Int):Bool:=smallI a||smallI b
def mulD:D->D->Option D
 | .int a,.int b=>if mulOkI a b then some (.int (a * b)) else none
 | .str x,.int n=>if x.length<=1000/\n<=1000/\-1000<=n then some (.str (strMul x n.toNat)) else none
 | .list xs,.int n=>if xs.length<=1000/\n<=10000/\-10000<=n then some (.list (repL xs n.toNat)) else none
 | _,_=>none
noncomputable def int1(x:D):Option Int:=if h:x.ctorIdx=2 then PyData.int.elim (motive_1:=λZ=>Option Int) x h some else none
def bL(x y:D):Option (Int × Int):=(int1 x).bind λa=>(int1 y).map λb=>(a,b)
def bY:Operator->D->D->Option D
 | .Add,x,y=>addD x y
 | .Mult,x,y=>mulD x y
 | .Sub,x,y=>(bL x y).map λp=>.int (p.1 - p.2)
 | .FloorDiv,x,y=>(bL x y).bind λp=>if p.2 ≠ 0/\p.2.natAbs < 1073741824 then some (.int (p.1.fdiv p.2)) else none
 | .Mod,x,y=>(bL x y).bind λp=>if p.2 ≠ 0 then some (.int (p.1.fmod p.2)) else none
 | .Pow,x,y=>(bL x y).bind λp=>if 0<=p.2/\p.2<=1000/\p.1.natAbs<=1000 then some (.int (p.1 ^ p.2.toNat)) else none
 | _,_,_=>none
noncomputable def aF(n:Nat)(i:Int):Option Nat:=
 if 0<=i then (if i < n then some i.toNat else none)
 else if -(n:Int)<=i then some (i+n).toNat else none
def item:D->D->Option D
 | .list xs,.int i=>(aF xs.length i).bind λk=>xs[k]?
 | .tuple xs,.int i=>(aF xs.length i).bind λk=>xs[k]?
 | .str x,.int i=>(aF x.length i).bind λk=>(x.cps[k]?).map λc=>.str ⟨#[c]⟩
 | _,_=>none
noncomputable def bM(n:Nat)(i:Int):Nat:=
 if i < 0 then (i+n).toNat else min i.toNat n
def cut{α:Type}(xs:List α)(lo hi:Option Int):List α:=
 let a:=(lo.map (bM xs.length)).getD 0
 let b:=(hi.map (bM xs.length)).getD xs.length
 (xs.drop a).take (b - a)
noncomputable def intO:Option D->Option (Option Int)
 | .none=>some .none
 | .some (.int i)=>some (.some i)
 | .some _=>.none
def slice:D->Option Int->Option Int->Option D
 | .list xs,lo,hi=>some (.list (cut xs lo hi))
 | .tuple xs,lo,hi=>some (.tuple (cut xs lo hi))
 | _,_,_=>none
def anyEq(x:D)(xs:List D):Option Bool:=
 if av xs&&shp x then some (xs.any λy=>y.eqv x) else none
noncomputable def subStrOne(x y:Str):Option Bool:=
 match x.cps.toList with
 | [c]=>some (decide (c ∈ y.cps.toList))
 | _=>none
noncomputable def strK(x:D):Option Str:=if h:x.ctorIdx=3 then PyData.str.elim (motive_1:=λZ=>Option Str) x h some else none
abbrev EnK:=Str × Str × Int × Str × Bool
abbrev StK:=Int × List EnK
noncomputable def enK(e:EnK):D:=.tuple [.str e.1,.str e.2.1,.int e.2.2.1,.str e.2.2.2.1,.bool e.2.2.2.2]
def stK(p:StK):D:=.tuple [.int p.1,.tuple (p.2.map enK)]
noncomputable def tupK(x:D):Option (List D):=if h:x.ctorIdx=5 then PyData.tuple.elim (motive_1:=λZ=>Option (List D)) x h some else none
noncomputable def bolK(x:D):Option Bool:=if h:x.ctorIdx=1 then PyData.bool.elim (motive_1:=λZ=>Option Bool) x h some else none
noncomputable def hd1:List D->Option (D × List D)
 | x::r=>some (x,r)
 | []=>none
def unEn(d:D):Option EnK:=(tupK d).bind λl=>(hd1 l).bind λa=>(strK a.1).bind λx1=>(hd1 a.2).bind λa=>(strK a.1).bind λx2=>(hd1 a.2).bind λa=>(int1 a.1).bind λx3=>(hd1 a.2).bind λa=>(strK a.1).bind λx4=>(hd1 a.2).bind λa=>(bolK a.1).bind λx5=>
 if a.2.isEmpty then some (x1,x2,x3,x4,x5) else none
def jS:List D->Option (List EnK)
 | []=>some []
 | d::r=>(unEn d).bind λe=>(jS r).map λl=>e::l
def unK(d:D):Option StK:=(tupK d).bind λl=>(hd1 l).bind λa=>(int1 a.1).bind λk=>(hd1 a.2).bind λa=>(tupK a.1).bind λl=>(jS l).bind λes=>if a.2.isEmpty then some (k,es) else none
noncomputable def tru:D->Bool
 | .bool b=>b
 | _=>false
def keysT:List (D × D)->Option (List StK)
 | []=>some []
 | p::r=>if tru p.2 then (unK p.1).bind λk=>(keysT r).map λks=>k::ks else none
noncomputable def eqT(p q:StK):Bool:=p.1 == q.1&&p.2 == q.2
def hasT(p:StK)(l:List StK):Bool:=l.any λq=>eqT q p
def nodT:List StK->Bool
 | []=>true
 | p::r=>!hasT p r&&nodT r
def dPutT(p:StK)(ks:List StK)(kvs:List (D × D)):List (D × D):=if hasT p ks then kvs else kvs++[(stK p,.bool true)]
def gR:List (D × D)->Option (List Str)
 | []=>some []
 | p::r=>(strK p.1).bind λx=>(gR r).map λxs=>x::xs
def dictOk(kvs:List (D × D)):Bool:=(gR kvs).any (λks=>decide ks.Nodup)&&kvs.all λp=>isScalar p.2
def dHas(x:Str)(kvs:List (D × D)):Bool:=kvs.any λp=>strK p.1 == some x
def dPut(x:Str)(v:D)(kvs:List (D × D)):List (D × D):=if dHas x kvs then kvs.map (λp=>if strK p.1 == some x then (p.1,v) else p) else kvs++[(.str x,v)]
def dFnd(s:Str)(kvs:List (D × D)):Option D:=(kvs.find? λp=>strK p.1 == some s).map (·.2)
noncomputable def kvD(x:D):Option (List (D × D)):=if h:x.ctorIdx=6 then PyData.dict.elim (motive_1:=λZ=>Option (List (D × D))) x h some else none
def dGet(x y z:D):Option D:=(kvD x).bind λkvs=>if dictOk kvs&&isScalar z then (match strK y with
 | some s=>some ((dFnd s kvs).getD z)
 | none=>(int1 y).map λZ=>z) else none
def dic1:List D->List D->Option D
 | [],[]=>some (.dict [])
 | [k],[v]=>match strK k with
  | some x=>if isScalar v then some (.dict [(.str x,v)]) else none
  | none=>(unK k).bind λp=>if tru v then some (.dict [(stK p,.bool true)]) else none
 | _,_=>none
def dIn(x:D)(kvs:List (D × D)):Option Bool:=match strK x with
 | some s=>if dictOk kvs then some (dHas s kvs) else none
 | none=>(unK x).bind λp=>(keysT kvs).bind λks=>if nodT ks then some (hasT p ks) else none
def pyIn(x:D):D->Option Bool
 | .list xs=>anyEq x xs
 | .tuple xs=>anyEq x xs
 | .str y=>match x with
  | .str z=>subStrOne z y
  | _=>none
 | .dict kvs=>dIn x kvs
 | _=>none
def ltInts:List D->List D->Option Bool
 | [],[]=>some false
 | x::xs,y::ys=>(bL x y).bind λp=>if p.1=p.2 then ltInts xs ys else (ltInts xs ys).map λZ=>decide (p.1 < p.2)
 | _,_=>none
def ltD:D->D->Option Bool
 | .tuple xs,.tuple ys=>ltInts xs ys
 | a,b=>(bL a b).map λp=>decide (p.1 < p.2)
noncomputable def isN:D->Bool
 | .none=>true
 | _=>false
def br:CmpOp->D->D->Option Bool
 | .Eq,a,b=>pyEq a b
 | .NotEq,a,b=>(pyEq a b).map (!·)
 | .Lt,a,b=>ltD a b
 | .LtE,a,b=>(bL a b).map λp=>decide (p.1<=p.2)
 | .Gt,a,b=>(bL a b).map λp=>decide (p.2 < p.1)
 | .GtE,a,b=>(bL a b).map λp=>decide (p.2<=p.1)
 | .In,a,b=>pyIn a b
 | .NotIn,a,b=>(pyIn a b).map (!·)
 | .Is,a,b=>if isN b then some (isN a) else none
 | .IsNot,a,b=>if isN b then some (!isN a) else none
noncomputable def isA:D->Ty->Option Bool
 | .dict _,_=>none
 | .list _,.list=>some true
 | .tuple _,.tuple=>some true
 | .str _,.str=>some true
 | .int _,.int=>some true
 | .bool _,.int=>some true
 | .bool _,.bool=>some true
 | _,_=>some false
noncomputable def lenD:D->Option D
 | .list xs=>some (.int xs.length)
 | .tuple xs=>some (.int xs.length)
 | .str x=>some (.int x.length)
 | _=>none
noncomputable def gT(x:D):Option (List D):=if h:x.ctorIdx=4 then PyData.list.elim (motive_1:=λZ=>Option (List D)) x h some else none
noncomputable def one1{α:Type}:List α->Option α
 | [x]=>some x
 | _=>none
def xK(d:D):Option (Str × Int):=(kvD d).bind λl=>(one1 l).bind λp=>(gT p.1).bind λl=>(one1 l).bind λc=>(strK c).bind λc=>(int1 p.2).map λn=>(c,n)
noncomputable def AC:List D->Option (D × D)
 | [a,b]=>some (a,b)
 | _=>none
def vE(x:D):Option (D × D):=(tupK x).bind AC
def AD(x:D):Option Bool:=bolK x
def b1:B1->D->Option D
 | .len,x=>lenD x
 | .all,x=>(gT x).bind λxs=>(cT xs).map λbs=>.bool (bs.all id)
 | .any,x=>(gT x).bind λxs=>(cT xs).map λbs=>.bool (bs.any id)
 | .list,x=>(gT x).map .list
 | .tuple,x=>(gT x).map .tuple
 | .int,x=>(AD x).map λb=>.int (if b then 1 else 0)
def nW:List D->Option (List Str)
 | []=>some []
 | d::r=>(strK d).bind λx=>(nW r).map λxs=>x::xs
def idxD(xs:List D)(x:D):Option D:=(strK x).bind λs=>(nW xs).bind λl=>if l.length<=1000 then (l.findIdx? (· == s)).map λ(n:Nat)=>PyData.int (n:Int) else none
def jT:D->D->Option D
 | .list xs,x=>idxD xs x
 | .tuple xs,x=>idxD xs x
 | _,_=>none
noncomputable def cU(a:Int):Nat->List D
 | 0=>[]
 | n+1=>.int a::cU (a+1) n
theorem eO(a:Int)(n:Nat):cU a (n+1)=PyData.int a::cU (a+1) n:=rfl
noncomputable def enumL(a:Nat):List D->List (List D)
 | []=>[]
 | x::r=>[.int a,x]::enumL (a+1) r
theorem ei(a:Nat)(x_1:D)(xs:List D):enumL a (x_1::xs)=[PyData.int ↑a,x_1]::enumL (a+1) xs:=rfl
noncomputable def one(xs:List D):List (List D):=xs.map λx=>[x]
noncomputable def dE(f:List D->Option D)(c:List D->Option Bool):List (List D)->Option (List D)
 | []=>some []
 | vs::r=>(c vs).bind λb=>if b then (f vs).bind λx=>(dE f c r).map λxs=>x::xs else dE f c r
theorem vF(f:List D->Option D)(c:List D->Option Bool):dE f c []=some []:=rfl
theorem nX(f:List D->Option D)(c:List D->Option Bool)(vs:List D)(r:List (List D)):dE f c (vs::r)=(c vs).bind λ(b:Bool)=>if b=true then (f vs).bind λ(x:D)=>Option.map (λ(xs:List D)=>x::xs) (dE f c r) else dE f c r:=rfl
noncomputable def forL(b:List D->St->Option (Fl × St)):List (List D)->St->Option (Fl × St)
 | [],m=>some (.next,m)
 | vs::r,m=>match b vs m with
  | some (.next,m')=>forL b r m'
  | some (.ret d,m')=>some (.ret d,m')
  | some (.exc d,m')=>some (.exc d,m')
  | none=>none
theorem yd(b:List D->St->Option (Fl × St))(x:St):forL b [] x=some (Fl.next,x):=rfl
theorem gd(b:List D->St->Option (Fl × St))(x:St)(vs:List D)(r:List (List D)):forL b (vs::r) x=match b vs x with | some (Fl.next,m')=>forL b r m' | some (Fl.ret d,m')=>some (Fl.ret d,m') | some (Fl.exc d,m')=>some (Fl.exc d,m') | none=>none:=rfl
noncomputable def whL(c:St->Option Bool)(b:St->Option (Fl × St)):Nat->St->Option (Fl × St)
 | 0,_=>none
 | n+1,m=>match c m with
  | some true=>(match b m with
   | some (.next,m')=>whL c b n m'
   | some (.ret d,m')=>some (.ret d,m')
   | some (.exc _,_)=>none
   | none=>none)
  | some false=>some (.next,m)
  | none=>none
theorem vG(c:St->Option Bool)(b:St->Option (Fl × St))(x:St)(n:Nat):whL c b (n+1) x=match c x with | some true=>(match b x with | some (Fl.next,m')=>whL c b n m' | some (Fl.ret d,m')=>some (Fl.ret d,m') | some (Fl.exc _,_)=>none | none=>none) | some false=>some (Fl.next,x) | none=>none:=rfl
noncomputable def bN:Nat->Bool:=λn=>decide (n<=2 ^ 22)
noncomputable def eZ:D->Option (List D)
 | .list xs=>some xs
 | .tuple xs=>some xs
 | .str x=>some (x.cps.toList.map λc=>.str ⟨#[c]⟩)
 | _=>none
theorem iG(xs:List PyData):eZ (PyData.list xs)=some xs:=rfl
theorem iH(xs:List PyData):eZ (PyData.tuple xs)=some xs:=rfl
theorem nY(x_1:Str):eZ (PyData.str x_1)=some (List.map (λ(c:Nat)=>PyData.str { cps:=#[c] }) x_1.cps.toList):=rfl
noncomputable def cz(_:It):Bool:=false
section
variable (Φ:Str->List D->Option D)(Γ:Str->Option D)
mutual
noncomputable def evE:Ex->St->Option D
 | .k d,_=>some d
 | .v i,m=>(m[i]?).bind λx=>x
 | .gc x,_=>Γ x
 | .tup es,m=>(evEs es m).map .tuple
 | .lst es,m=>(evEs es m).map .list
 | .dic a b,m=>(evEs a m).bind λks=>(evEs b m).bind λvs=>dic1 ks vs
 | .bin op a b,m=>(evE a m).bind λx=>(evE b m).bind λy=>bY op x y
 | .neg a,m=>(evE a m).bind λx=>(int1 x).map λi=>.int (-i)
 | .not a,m=>(evE a m).bind λx=>(truth x).map λb=>.bool (!b)
 | .bool isAnd es,m=>evB isAnd es m
 | .cmp op a b,m=>(evE a m).bind λx=>(evE b m).bind λy=>(br op x y).map .bool
 | .cmp2 o1 o2 a b c,m=>(evE a m).bind λx=>(evE b m).bind λy=>(br o1 x y).bind λr=>
  if r then (evE c m).bind λz=>(br o2 y z).map .bool else some (.bool false)
 | .idx a i,m=>(evE a m).bind λx=>(evE i m).bind λy=>item x y
 | .sl a lo hi,m=>(evE a m).bind λx=>(evO lo m).bind λl=>(evO hi m).bind λh=>(intO l).bind λl=>(intO h).bind λh=>slice x l h
 | .call _ f args,m=>(evEs args m).bind λxs=>Φ f xs
 | .b1 f a,m=>(evE a m).bind λx=>b1 f x
 | .isi a t,m=>(evE a m).bind λx=>(isA x t).map .bool
 | .get a k d,m=>(evE a m).bind λx=>(evE k m).bind λy=>(evE d m).bind λz=>dGet x y z
 | .mk c a,m=>(evE a m).bind λx=>(int1 x).map λn=>xD c n
 | .att a,m=>(evE a m).bind λx=>(xK x).map λq=>.int q.2
 | .isc a t,m=>(evE a m).bind λx=>(xK x).map λq=>.bool (cy q.1 t)
 | .index a b,m=>(evE a m).bind λx=>(evE b m).bind λy=>jT x y
 | .comp elt it cond,m=>(evIt it m).bind λitems=>if bN items.length then
  (dE (λvs=>evE elt (m++vs.map some)) (λvs=>evC cond (m++vs.map some)) items).bind λxs=>if !cz it||xs.all isScalar then some (.list xs) else none else none
noncomputable def evEs:Exs->St->Option (List D)
 | .nil,_=>some []
 | .cons e es,m=>(evE e m).bind λx=>(evEs es m).map λxs=>x::xs
noncomputable def evO:Exo->St->Option (Option D)
 | .none,_=>some .none
 | .some e,m=>(evE e m).map .some
noncomputable def evC:Exo->St->Option Bool
 | .none,_=>some true
 | .some e,m=>(evE e m).bind truth
noncomputable def evB(isAnd:Bool):Exs->St->Option D
 | .nil,_=>none
 | .cons e .nil,m=>evE e m
 | .cons e es,m=>(evE e m).bind λx=>(truth x).bind λb=>if b=isAnd then evB isAnd es m else some x
noncomputable def evIt:It->St->Option (List (List D))
 | .plain e,m=>(evE e m).bind λx=>(eZ x).map one
 | .range1 e,m=>(evE e m).bind λx=>(int1 x).bind λn=>if n.natAbs<=2 ^ 20 then some (one (cU 0 n.toNat)) else none
 | .enum e,m=>(evE e m).bind λx=>(gT x).map (enumL 0)
end
noncomputable def isOw(ow:List Nat):Ex->Bool
 | .v i=>ow.contains i
 | _=>false
noncomputable def frE:Ex->Bool
 | .v _ | .gc _ | .idx .. | .bool ..=>false
 | .call fr _ _=>fr
 | _=>true
def retOk(ow:List Nat)(e:Ex)(x:D):Bool:=noList x||((isOw ow e||frE e)&&flat x)
noncomputable def setV(m:St)(i:Nat)(d:D):St:=m.set i (some d)
noncomputable def exn(f:Str):Str:=⟨#[33]++f.cps⟩
def neD(x y:D):Option Bool:=(pyEq x y).map (!·)
noncomputable def getV(m:St)(i:Nat):Option D:=(m[i]?).bind λx=>x
mutual
noncomputable def exS(ow:List Nat)(fr:Bool)(N:Nat):Sm->St->Option (Fl × St)
 | .asg i e,m=>(evE Φ Γ e m).bind λx=>if !ow.contains i||flat x then some (.next,setV m i x) else none
 | .unp i j e,m=>(evE Φ Γ e m).bind λx=>(vE x).map λp=>(.next,setV (setV m i p.1) j p.2)
 | .seti i ix e,m=>(evE Φ Γ e m).bind λx=>((m[i]?).bind λc=>c).bind λc=>(evE Φ Γ ix m).bind λk=>
  if noList x then (match c,k with
   | .list xs,.int n=>if 0<=n/\n < xs.length then some (.next,setV m i (.list (xs.set n.toNat x))) else none
   | .dict kvs,.str s=>if dictOk kvs&&isScalar x&&decide (kvs.length<=2 ^ 20) then some (.next,setV m i (.dict (dPut s x kvs))) else none
   | .dict kvs,.tuple l=>(unK (.tuple l)).bind λp=>(keysT kvs).bind λks=>if nodT ks&&tru x&&decide (ks.length<=2 ^ 22) then some (.next,setV m i (.dict (dPutT p ks kvs))) else none
   | _,_=>none) else none
 | .app i e,m=>((m[i]?).bind λc=>c).bind λc=>(evE Φ Γ e m).bind λx=>match c with
  | .list xs=>if noList x&&bN xs.length then some (.next,setV m i (.list (xs++[x]))) else none
  | _=>none
 | .pop i,m=>((m[i]?).bind λc=>c).bind λc=>match c with
  | .list xs=>if xs.isEmpty then none else some (.next,setV m i (.list xs.dropLast))
  | _=>none
 | .rev i,m=>((m[i]?).bind λc=>c).bind λc=>match c with
  | .list xs=>some (.next,setV m i (.list xs.reverse))
  | _=>none
 | .ite c t e,m=>(evE Φ Γ c m).bind λx=>(truth x).bind λb=>if b then exSs ow fr N t m else exSs ow fr N e m
 | .for1 i it body,m=>(evIt Φ Γ it m).bind λitems=>if cz it then none else forL (λvs m=>match vs with
  | [x]=>exSs ow fr N body (setV m i x)
  | _=>none) items m
 | .for2 i j it body,m=>(evIt Φ Γ it m).bind λitems=>if cz it then none else forL (λvs m=>match vs with
  | [x,y]=>exSs ow fr N body (setV (setV m i x) j y)
  | _=>none) items m
 | .wh c body,m=>whL (λm=>(evE Φ Γ c m).bind truth) (λm=>exSs ow fr N body m) N m
 | .ret e,m=>(evE Φ Γ e m).bind λx=>if !fr||retOk ow e x then some (.ret x,m) else none
 | .rse cls e,m=>(evE Φ Γ e m).bind λx=>(int1 x).map λn=>(.exc (xD cls n),m)
 | .exr f args,m=>(evEs Φ Γ args m).bind λxs=>match Φ f xs with
  | some _=>some (.next,m)
  | none=>(Φ (exn f) xs).map λx=>(.exc x,m)
 | .ifn f args,m=>(evEs Φ Γ args m).bind λxs=>match Φ f xs with
  | some d=>if vD d then some (.next,m) else none
  | none=>(Φ (exn f) xs).map λx=>(.exc x,m)
 | .cor f i j e,m=>(getV m i).bind λx=>(Φ f [x]).bind λd=>(getV m j).bind λy=>(neD d y).bind λb=>if b then some (.ret (.bool false),m) else
  (evE Φ Γ e m).bind λz=>(truth z).map λb=>(if b then .ret (.bool false) else .next,m)
 | .cand e f i j,m=>(evE Φ Γ e m).bind λz=>(truth z).bind λb=>if b then (getV m i).bind λx=>(Φ f [x]).bind λd=>(getV m j).bind λy=>(neD d y).map λb=>(if b then .ret (.bool false) else .next,m) else some (.next,m)
 | .stuck,_=>none
noncomputable def exSs(ow:List Nat)(fr:Bool)(N:Nat):Sms->St->Option (Fl × St)
 | .nil,m=>some (.next,m)
 | .cons s r,m=>match exS ow fr N s m with
  | some (.next,m')=>exSs ow fr N r m'
  | some (.ret d,m')=>some (.ret d,m')
  | some (.exc d,m')=>some (.exc d,m')
  | none=>none
end
end
structure Fn where
 np:Nat
 ns:Nat
 ow:List Nat
 fr:Bool
 body:Sms
def runFn(Φ:Str->List D->Option D)(Γ:Str->Option D)(N:Nat)(f:Fn)(args:List D):Option D:=
 if args.length=f.np then match exSs Φ Γ f.ow f.fr N f.body (args.map some++List.replicate (f.ns - f.np) none) with
  | some (.ret d,_)=>some d
  | some (.next,_)=>some .none
  | some (.exc _,_)=>none
  | none=>none
 else none
def runX(Φ:Str->List D->Option D)(Γ:Str->Option D)(N:Nat)(f:Fn)(args:List D):Option D:=
 if args.length=f.np then match exSs Φ Γ f.ow f.fr N f.body (args.map some++List.replicate (f.ns - f.np) none) with
  | some (.exc x,_)=>some x
  | _=>none
 else none
section
variable {Φ:Str->List D->Option D}{Γ:Str->Option D}{m:St}{ow:List Nat}{fr:Bool}{N:Nat}
theorem x_k(d:D):evE Φ Γ (.k d) m=some d:=rfl
theorem x_v(i:Nat):evE Φ Γ (.v i) m=(m[i]?).bind λx=>x:=rfl
theorem x_gc(x:Str):evE Φ Γ (.gc x) m=Γ x:=rfl
theorem ye(es:Exs):evE Φ Γ (.tup es) m=(evEs Φ Γ es m).map .tuple:=rfl
theorem yf(es:Exs):evE Φ Γ (.lst es) m=(evEs Φ Γ es m).map .list:=rfl
theorem yg(op:Operator)(a b:Ex):evE Φ Γ (.bin op a b) m=(evE Φ Γ a m).bind λx=>(evE Φ Γ b m).bind λy=>bY op x y:=rfl
theorem AE(a:Ex):evE Φ Γ (.neg a) m=(evE Φ Γ a m).bind λx=>(int1 x).map λi=>.int (-i):=rfl
theorem vH(a:Ex):evE Φ Γ (.not a) m=(evE Φ Γ a m).bind λx=>(truth x).map λb=>.bool (!b):=rfl
theorem fc(q:Bool)(es:Exs):evE Φ Γ (.bool q es) m=evB Φ Γ q es m:=rfl
theorem vI(op:CmpOp)(a b:Ex):evE Φ Γ (.cmp op a b) m=(evE Φ Γ a m).bind λx=>(evE Φ Γ b m).bind λy=>(br op x y).map .bool:=rfl
theorem nZ(o1 o2:CmpOp)(a b c:Ex):evE Φ Γ (.cmp2 o1 o2 a b c) m=(evE Φ Γ a m).bind λx=>(evE Φ Γ b m).bind λy=>(br o1 x y).bind λr=>if r then (evE Φ Γ c m).bind λz=>(br o2 y z).map .bool else some (.bool false):=rfl
theorem n3(a b:Ex):evE Φ Γ (.index a b) m=(evE Φ Γ a m).bind λx=>(evE Φ Γ b m).bind λy=>jT x y:=rfl
theorem yh(a k d:Ex):evE Φ Γ (.get a k d) m=(evE Φ Γ a m).bind λx=>(evE Φ Γ k m).bind λy=>(evE Φ Γ d m).bind λz=>dGet x y z:=rfl
theorem x_mk(c:Str)(a:Ex):evE Φ Γ (.mk c a) m=(evE Φ Γ a m).bind λx=>(int1 x).map λn=>xD c n:=rfl
theorem AF(a:Ex):evE Φ Γ (.att a) m=(evE Φ Γ a m).bind λx=>(xK x).map λq=>.int q.2:=rfl
theorem AG(a:Ex)(t:Str):evE Φ Γ (.isc a t) m=(evE Φ Γ a m).bind λx=>(xK x).map λq=>.bool (cy q.1 t):=rfl
theorem vJ(a b:Ex):evE Φ Γ (.idx a b) m=(evE Φ Γ a m).bind λx=>(evE Φ Γ b m).bind λy=>item x y:=rfl
theorem x_sl(a:Ex)(l h:Exo):evE Φ Γ (.sl a l h) m=(evE Φ Γ a m).bind λx=>(evO Φ Γ l m).bind λl=>(evO Φ Γ h m).bind λh=>(intO l).bind λl=>(intO h).bind λh=>slice x l h:=rfl
theorem uw(q:Bool)(f:Str)(es:Exs):evE Φ Γ (.call q f es) m=(evEs Φ Γ es m).bind λxs=>Φ f xs:=rfl
theorem x_b1(f:B1)(a:Ex):evE Φ Γ (.b1 f a) m=(evE Φ Γ a m).bind λx=>b1 f x:=rfl
theorem AH(a:Ex)(t:Ty):evE Φ Γ (.isi a t) m=(evE Φ Γ a m).bind λx=>(isA x t).map .bool:=rfl
theorem vK(e:Ex)(es:Exs):evEs Φ Γ (.cons e es) m=(evE Φ Γ e m).bind λx=>(evEs Φ Γ es m).map λxs=>x::xs:=rfl
theorem vL:evO Φ Γ .none m=some .none:=rfl
theorem jU(e:Ex):evO Φ Γ (.some e) m=(evE Φ Γ e m).map .some:=rfl
theorem n4:evC Φ Γ .none m=some true:=rfl
theorem n6(e:Ex):evC Φ Γ (.some e) m=(evE Φ Γ e m).bind truth:=rfl
theorem bQ(q:Bool)(e:Ex):evB Φ Γ q (.cons e .nil) m=evE Φ Γ e m:=rfl
theorem jV(q:Bool)(e e2:Ex)(es:Exs):evB Φ Γ q (.cons e (.cons e2 es)) m=(evE Φ Γ e m).bind λx=>(truth x).bind λb=>if b=q then evB Φ Γ q (.cons e2 es) m else some x:=rfl
theorem AI(a b:Exs):evE Φ Γ (.dic a b) m=(evEs Φ Γ a m).bind λks=>(evEs Φ Γ b m).bind λvs=>dic1 ks vs:=rfl
theorem ux(elt:Ex)(it:It)(cond:Exo):evE Φ Γ (.comp elt it cond) m=(evIt Φ Γ it m).bind λitems=>if bN items.length then
 (dE (λvs=>evE Φ Γ elt (m++vs.map some)) (λvs=>evC Φ Γ cond (m++vs.map some)) items).bind λxs=>if !cz it||xs.all isScalar then some (.list xs) else none else none:=rfl
theorem vM(i:Nat)(e:Ex):exS Φ Γ ow fr N (.asg i e) m=(evE Φ Γ e m).bind λx=>if !ow.contains i||flat x then some (.next,setV m i x) else none:=rfl
theorem AJ(i j:Nat)(e:Ex):exS Φ Γ ow fr N (.unp i j e) m=(evE Φ Γ e m).bind λx=>(vE x).map λp=>(.next,setV (setV m i p.1) j p.2):=rfl
theorem iI(i:Nat)(ix e:Ex):exS Φ Γ ow fr N (.seti i ix e) m=(evE Φ Γ e m).bind λx=>((m[i]?).bind λc=>c).bind λc=>(evE Φ Γ ix m).bind λk=>
 if noList x then (match c,k with
  | .list xs,.int n=>if 0<=n/\n < xs.length then some (.next,setV m i (.list (xs.set n.toNat x))) else none
  | .dict kvs,.str s=>if dictOk kvs&&isScalar x&&decide (kvs.length<=2 ^ 20) then some (.next,setV m i (.dict (dPut s x kvs))) else none
  | .dict kvs,.tuple l=>(unK (.tuple l)).bind λp=>(keysT kvs).bind λks=>if nodT ks&&tru x&&decide (ks.length<=2 ^ 22) then some (.next,setV m i (.dict (dPutT p ks kvs))) else none
  | _,_=>none) else none:=rfl
theorem yi(i:Nat)(e:Ex):exS Φ Γ ow fr N (.app i e) m=((m[i]?).bind λc=>c).bind λc=>(evE Φ Γ e m).bind λx=>match c with
 | .list xs=>if noList x&&bN xs.length then some (.next,setV m i (.list (xs++[x]))) else none
 | _=>none:=rfl
theorem yj(i:Nat):exS Φ Γ ow fr N (.pop i) m=((m[i]?).bind λc=>c).bind λc=>match c with
 | .list xs=>if xs.isEmpty then none else some (.next,setV m i (.list xs.dropLast))
 | _=>none:=rfl
theorem yk(i:Nat):exS Φ Γ ow fr N (.rev i) m=((m[i]?).bind λc=>c).bind λc=>match c with
 | .list xs=>some (.next,setV m i (.list xs.reverse))
 | _=>none:=rfl
theorem rB(c:Ex)(t e:Sms):exS Φ Γ ow fr N (.ite c t e) m=(evE Φ Γ c m).bind λx=>(truth x).bind λb=>if b then exSs Φ Γ ow fr N t m else exSs Φ Γ ow fr N e m:=rfl
theorem n7(i:Nat)(it:It)(body:Sms):exS Φ Γ ow fr N (.for1 i it body) m=(evIt Φ Γ it m).bind λitems=>if cz it then none else forL (λvs m=>match vs with
 | [x]=>exSs Φ Γ ow fr N body (setV m i x)
 | _=>none) items m:=rfl
theorem n8(i j:Nat)(it:It)(body:Sms):exS Φ Γ ow fr N (.for2 i j it body) m=(evIt Φ Γ it m).bind λitems=>if cz it then none else forL (λvs m=>match vs with
 | [x,y]=>exSs Φ Γ ow fr N body (setV (setV m i x) j y)
 | _=>none) items m:=rfl
theorem e_wh(c:Ex)(body:Sms):exS Φ Γ ow fr N (.wh c body) m=whL (λm=>(evE Φ Γ c m).bind truth) (λm=>exSs Φ Γ ow fr N body m) N m:=rfl
theorem yl(e:Ex):exS Φ Γ ow fr N (.ret e) m=(evE Φ Γ e m).bind λx=>if !fr||retOk ow e x then some (.ret x,m) else none:=rfl
theorem ym(cls:Str)(e:Ex):exS Φ Γ ow fr N (.rse cls e) m=(evE Φ Γ e m).bind λx=>(int1 x).map λn=>(.exc (xD cls n),m):=rfl
theorem n9(f:Str)(args:Exs):exS Φ Γ ow fr N (.exr f args) m=(evEs Φ Γ args m).bind λxs=>match Φ f xs with
 | some _=>some (.next,m)
 | none=>(Φ (exn f) xs).map λx=>(.exc x,m):=rfl
theorem vN(f:Str)(args:Exs):exS Φ Γ ow fr N (.ifn f args) m=(evEs Φ Γ args m).bind λxs=>match Φ f xs with
 | some d=>if vD d then some (.next,m) else none
 | none=>(Φ (exn f) xs).map λx=>(.exc x,m):=rfl
theorem yn(f:Str)(i j:Nat)(e:Ex):exS Φ Γ ow fr N (.cor f i j e) m=(getV m i).bind λx=>(Φ f [x]).bind λd=>(getV m j).bind λy=>(neD d y).bind λb=>if b then some (.ret (.bool false),m) else
 (evE Φ Γ e m).bind λz=>(truth z).map λb=>(if b then .ret (.bool false) else .next,m):=rfl
theorem uy(f:Str)(i j:Nat)(e:Ex):exS Φ Γ ow fr N (.cand e f i j) m=(evE Φ Γ e m).bind λz=>(truth z).bind λb=>if b then (getV m i).bind λx=>(Φ f [x]).bind λd=>(getV m j).bind λy=>(neD d y).map λb=>(if b then .ret (.bool false) else .next,m) else some (.next,m):=rfl
theorem yo:exSs Φ Γ ow fr N .nil m=some (.next,m):=rfl
theorem fe(s:Sm)(r:Sms):exSs Φ Γ ow fr N (.cons s r) m=match exS Φ Γ ow fr N s m with
 | some (.next,m')=>exSs Φ Γ ow fr N r m'
 | some (.ret d,m')=>some (.ret d,m')
 | some (.exc d,m')=>some (.exc d,m')
 | none=>none:=rfl
theorem gU(e:Ex):evIt Φ Γ (.plain e) m=(evE Φ Γ e m).bind λx=>(eZ x).map one:=rfl
theorem iJ(e:Ex):evIt Φ Γ (.range1 e) m=(evE Φ Γ e m).bind λx=>(int1 x).bind λn=>if n.natAbs<=2 ^ 20 then some (one (cU 0 n.toNat)) else none:=rfl
theorem oa(e:Ex):evIt Φ Γ (.enum e) m=(evE Φ Γ e m).bind λx=>(gT x).map (enumL 0):=rfl
end
set_option tactic.hygienic false
theorem bind_some{α β:Type}{x:Option α}{f:α->Option β}{y:β}(h:x.bind f=some y):∃ a,x=some a/\f a=some y:=by
 induction x with
 | none=>exact nN h
 | some a=>exact ⟨a,rfl,h⟩
theorem aa{α β:Type}{x:Option α}{f:α->Option β}{y:β}{G:Prop}(h:x.bind f=some y)(k:∀ a,x=some a->f a=some y->G):G:=
 (bind_some h).elim λa r=>k a r.1 r.2
theorem ad{α β:Type}{x:Option α}{f:α->β}{y:β}(h:x.map f=some y):∃ a,x=some a/\f a=y:=by
 induction x with
 | none=>exact nN h
 | some a=>exact ⟨a,rfl,Qv h⟩
noncomputable abbrev listObj (vs:Array Value) (n:Nat):Obj:={ cls:=.type "list",data:=.seq vs n }
noncomputable abbrev tupObj (vs:Array Value) (n:Nat):Obj:={ cls:=.type "tuple",data:=.seq vs n }
noncomputable abbrev dictObj (es:Array DictEntry) (n:Nat):Obj:={ cls:=.type "dict",data:=.dict es n }
noncomputable def Shp(o:Obj):Prop:=(∃ vs n,o=listObj vs n)\/(∃ es n,o.data = .dict es n)\/∃ C,o.cls = .ref C
abbrev atM (v:Value):Str->Option Value:=λy=>if y=("at" : Str) then some v else Option.none
mutual
inductive Rd (H:D->Int) (h:Heap):Value->D->List Addr->Prop
 | none:Rd H h .none .none []
 | bool (b:Bool):Rd H h (.bool b) (.bool b) []
 | int (i:Int) (t:Tok):Rd H h (.int i t) (.int i) []
 | str (x:Str) (t:Tok) (hz:x.length<=sizeLine) (ho:PyData.strOk x=true):Rd H h (.str x t) (.str x) []
 | list {a:Addr} {vs:Array Value} {n:Nat} {xs:List D} {as:List Addr}:h.get? a=some (listObj vs n)->vs.size<=sizeLine->RdAll H h vs.toList xs as->Rd H h (.ref a) (.list xs) (a::as)
 | tuple {a:Addr} {vs:Array Value} {n:Nat} {xs:List D} {as:List Addr}:h.get? a=some (tupObj vs n)->vs.size<=sizeLine->RdAll H h vs.toList xs as->Rd H h (.ref a) (.tuple xs) as
 | dict {a:Addr} {es:Array DictEntry} {n:Nat} {kvs:List (D × D)}:a ≠ sysModules->h.get? a=some (dictObj es n)->RdKv H h es.toList kvs->Rd H h (.ref a) (.dict kvs) [a]
 | exc {a dx C:Addr} {o:Obj} {vs:Array Value} {c:Str} {n:Int} {t:Tok}:(h.get? a=some o/\o.cls = .ref C/\o.dict=some dx/\o.data = .fields vs)->h.Ns dx (atM (.int n t))->(H (.list [.str c])=(C:Int)/\c ∈ exN)->Rd H h (.ref a) (.dict [(.list [.str c],.int n)]) [a,dx]
inductive RdAll (H:D->Int) (h:Heap):List Value->List D->List Addr->Prop
 | nil:RdAll H h [] [] []
 | cons {v:Value} {vs:List Value} {d:D} {ds:List D} {as bs:List Addr}:Rd H h v d as->RdAll H h vs ds bs->RdAll H h (v::vs) (d::ds) (as++bs)
inductive RdKv (H:D->Int) (h:Heap):List DictEntry->List (D × D)->Prop
 | nil:RdKv H h [] []
 | cons {e:DictEntry} {es:List DictEntry} {k v:D} {kvs:List (D × D)}:Rd H h e.key k []->Rd H h e.val v []->e.hash=H k->RdKv H h es kvs->RdKv H h (e::es) ((k,v)::kvs)
end
section
variable {H:D->Int}
theorem Rd.mono_both:(∀ {v:Value} {d:D} {as:List Addr},Rd H h v d as->(∀ a o,h.get? a=some o->((∃ vs n,o=tupObj vs n)\/a ∈ as)->h'.get? a=some o)->Rd H h' v d as) /\
 (∀ {vs:List Value} {ds:List D} {as:List Addr},RdAll H h vs ds as->(∀ a o,h.get? a=some o->((∃ vs n,o=tupObj vs n)\/a ∈ as)->h'.get? a=some o)->RdAll H h' vs ds as):=by
 let M1:∀ (v:Value) (d:D) (as:List Addr),Rd H h v d as->Prop:=λv d as Z=>(∀ a o,h.get? a=some o->((∃ vs n,o=tupObj vs n)\/a ∈ as)->h'.get? a=some o)->Rd H h' v d as
 let M2:∀ (vs:List Value) (ds:List D) (as:List Addr),RdAll H h vs ds as->Prop:=λvs ds as Z=>(∀ a o,h.get? a=some o->((∃ vs n,o=tupObj vs n)\/a ∈ as)->h'.get? a=some o)->RdAll H h' vs ds as
 let M3:∀ (es:List DictEntry) (kvs:List (D × D)),RdKv H h es kvs->Prop:=λes kvs Z=>(∀ a o,h.get? a=some o->(∃ vs n,o=tupObj vs n)->h'.get? a=some o)->RdKv H h' es kvs
 have c5:∀ {a:Addr} {vs:Array Value} {n:Nat} {xs:List D} {as:List Addr} (h1:h.get? a=some (listObj vs n)) (hz:vs.size<=sizeLine) (h2:RdAll H h vs.toList xs as),M2 _ _ _ h2->M1 (.ref a) (.list xs) (a::as) (.list h1 hz h2):=λh1 hz Z ih hk=>.list (hk _ _ h1 (.inr (.head _))) hz (ih λa o e q=>hk a o e (q.imp id λq=>.tail _ q));have c6:∀ {a:Addr} {vs:Array Value} {n:Nat} {xs:List D} {as:List Addr} (h1:h.get? a=some (tupObj vs n)) (hz:vs.size<=sizeLine) (h2:RdAll H h vs.toList xs as),M2 _ _ _ h2->M1 (.ref a) (.tuple xs) as (.tuple h1 hz h2):=λh1 hz Z ih hk=>.tuple (hk _ _ h1 (.inl ⟨_,_,rfl⟩)) hz (ih hk);have c7:∀ {a:Addr} {es:Array DictEntry} {n:Nat} {kvs:List (D × D)} (h0:a ≠ sysModules) (h1:h.get? a=some (dictObj es n)) (h2:RdKv H h es.toList kvs),M3 _ _ h2->M1 (.ref a) (.dict kvs) [a] (.dict h0 h1 h2):=λh0 h1 Z ih hk=>.dict h0 (hk _ _ h1 (.inr (.head _))) (ih λa o e q=>hk a o e (.inl q));have c8:∀ {a dx C:Addr} {o:Obj} {vs:Array Value} {c:Str} {n:Int} {t:Tok} (h1:h.get? a=some o/\o.cls = .ref C/\o.dict=some dx/\o.data = .fields vs) (h2:h.Ns dx (atM (.int n t))) (h3:H (.list [.str c])=(C:Int)/\c ∈ exN),M1 (.ref a) (.dict [(.list [.str c],.int n)]) [a,dx] (.exc h1 h2 h3):=λh1 h2 h3 hk=>.exc ⟨hk _ _ h1.1 (.inr (.head _)),h1.2⟩ (h2.at' λo e=>hk _ _ e (.inr (.tail _ (.head _)))) h3;have c9:∀ {v:Value} {vs:List Value} {d:D} {ds:List D} {as bs:List Addr} (h1:Rd H h v d as) (h2:RdAll H h vs ds bs),M1 _ _ _ h1->M2 _ _ _ h2->M2 (v::vs) (d::ds) (as++bs) (.cons h1 h2):=λo_ Z i1 i2 hk=>.cons (i1 λa o e q=>hk a o e (q.imp id λq=>Q6 _ q)) (i2 λa o e q=>hk a o e (q.imp id λq=>Zy _ q));have c11:∀ {e:DictEntry} {es:List DictEntry} {k v:D} {kvs:List (D × D)} (h1:Rd H h e.key k []) (h2:Rd H h e.val v []) (h3:e.hash=H k) (h4:RdKv H h es kvs),M1 _ _ _ h1->M1 _ _ _ h2->M3 _ _ h4->M3 (e::es) ((k,v)::kvs) (.cons h1 h2 h3 h4):=λo_ Z h3 Z i1 i2 i4 hk=>.cons (i1 λa o e q=>q.elim (hk a o e) λq=>(YJ q).elim) (i2 λa o e q=>q.elim (hk a o e) λq=>(YJ q).elim) h3 (i4 hk)
 exact ⟨λr=>Rd.rec (motive_1:=M1) (motive_2:=M2) (motive_3:=M3) (λo_=>.none) (λb Z=>.bool b) (λi t Z=>.int i t) (λx t hz ho Z=>.str x t hz ho) c5 c6 c7 c8 (λo_=>.nil) c9 (λo_=>.nil) c11 r,
  λr=>RdAll.rec (motive_1:=M1) (motive_2:=M2) (motive_3:=M3) (λo_=>.none) (λb Z=>.bool b) (λi t Z=>.int i t) (λx t hz ho Z=>.str x t hz ho) c5 c6 c7 c8 (λo_=>.nil) c9 (λo_=>.nil) c11 r⟩
theorem Rd.mono'(r:Rd H h v d as)(hk:∀ a o,h.get? a=some o->((∃ vs n,o=tupObj vs n)\/a ∈ as)->h'.get? a=some o):Rd H h' v d as:=Rd.mono_both.1 r hk
theorem RdAll.mono'(r:RdAll H h v d as)(hk:∀ a o,h.get? a=some o->((∃ vs n,o=tupObj vs n)\/a ∈ as)->h'.get? a=some o):RdAll H h' v d as:=Rd.mono_both.2 r hk
theorem Rd.mono(r:Rd H h v d as)(hk:∀ a o,h.get? a=some o->(o.cls = .type "tuple" \/ a ∈ as)->h'.get? a=some o):Rd H h' v d as:=
 r.mono' λa o e q=>hk a o e (q.imp (λ⟨_,_,x⟩=>by rw [x]) id)
theorem RdAll.mono(r:RdAll H h v d as)(hk:∀ a o,h.get? a=some o->(o.cls = .type "tuple" \/ a ∈ as)->h'.get? a=some o):RdAll H h' v d as:=
 r.mono' λa o e q=>hk a o e (q.imp (λ⟨_,_,x⟩=>by rw [x]) id)
theorem Rd.keeps(r:Rd H h v d as)(hk:∀ b o,h.get? b=some o->h'.get? b=some o):Rd H h' v d as:=r.mono λa o e Z=>hk a o e
theorem RdAll.keeps(r:RdAll H h v d as)(hk:∀ b o,h.get? b=some o->h'.get? b=some o):RdAll H h' v d as:=r.mono λa o e Z=>hk a o e
theorem RdAll.ind{M:List Value->List D->List Addr->Prop}(n:M [] [] [])(c:∀ (v:Value) (vs:List Value) (d:D) (ds:List D) (as bs:List Addr),Rd H h v d as->RdAll H h vs ds bs->M vs ds bs->M (v::vs) (d::ds) (as++bs))(r:RdAll H h vs ds as):M vs ds as:=
 RdAll.rec (motive_1:=λo_ Z Z Z=>True) (motive_2:=λvs ds as Z=>M vs ds as) (motive_3:=λo_ Z Z=>True) trivial (λo_=>trivial) (λo_ Z=>trivial) (λo_ Z Z Z=>trivial) (λo_ Z Z Z=>trivial) (λo_ Z Z Z=>trivial) (λo_ Z Z Z=>trivial) (λo_ Z Z=>trivial) n (λh1 h2 Z i=>c _ _ _ _ _ _ h1 h2 i) trivial (λo_ Z Z Z Z Z Z=>trivial) r
theorem RdAll.length(r:RdAll H h vs ds as):vs.length=ds.length:=
 r.ind (M:=λvs ds Z=>vs.length=ds.length) rfl λo_ Z Z Z Z Z Z Z i=>Qf Nat.succ i
theorem Rd.two{M1:Value->D->List Addr->Prop}{M2:List Value->List D->List Addr->Prop}(c1:M1 .none .none [])(c2:∀ b:Bool,M1 (.bool b) (.bool b) [])(c3:∀ (i:Int) (t:Tok),M1 (.int i t) (.int i) [])(c4:∀ (x:Str) (t:Tok),PyData.strOk x=true->M1 (.str x t) (.str x) [])
 (c5:∀ {a:Addr} {vs:Array Value} {n:Nat} {xs:List D} {as:List Addr},h.get? a=some (listObj vs n)->M2 vs.toList xs as->M1 (.ref a) (.list xs) (a::as)) (c6:∀ {a:Addr} {vs:Array Value} {n:Nat} {xs:List D} {as:List Addr},h.get? a=some (tupObj vs n)->M2 vs.toList xs as->M1 (.ref a) (.tuple xs) as)
 (c7:∀ {a:Addr} {es:Array DictEntry} {n:Nat} {kvs:List (D × D)},h.get? a=some (dictObj es n)->M1 (.ref a) (.dict kvs) [a]) (c8:∀ {a dx C:Addr} {o:Obj} {c:Str} {n:Int} {t:Tok},h.get? a=some o->o.cls = .ref C->h.Ns dx (atM (.int n t))->M1 (.ref a) (.dict [(.list [.str c],.int n)]) [a,dx])
 (c9:M2 [] [] []) (c10:∀ {v:Value} {vs:List Value} {d:D} {ds:List D} {as bs:List Addr},M1 v d as->M2 vs ds bs->M2 (v::vs) (d::ds) (as++bs)) :
 (∀ {v:Value} {d:D} {as:List Addr},Rd H h v d as->M1 v d as)/\∀ {vs:List Value} {ds:List D} {as:List Addr},RdAll H h vs ds as->M2 vs ds as:=
 ⟨λr=>Rd.rec (motive_1:=λv d as Z=>M1 v d as) (motive_2:=λvs ds as Z=>M2 vs ds as) (motive_3:=λo_ Z Z=>True) c1 c2 c3 (λx t Z ho=>c4 x t ho) (λh1 Z Z ih=>c5 h1 ih) (λh1 Z Z ih=>c6 h1 ih) (λo_ h1 Z Z=>c7 h1) (λh1 h2 Z=>c8 h1.1 h1.2.1 h2) c9 (λo_ Z i1 i2=>c10 i1 i2) trivial (λo_ Z Z Z Z Z Z=>trivial) r,
  λr=>RdAll.rec (motive_1:=λv d as Z=>M1 v d as) (motive_2:=λvs ds as Z=>M2 vs ds as) (motive_3:=λo_ Z Z=>True) c1 c2 c3 (λx t Z ho=>c4 x t ho) (λh1 Z Z ih=>c5 h1 ih) (λh1 Z Z ih=>c6 h1 ih) (λo_ h1 Z Z=>c7 h1) (λh1 h2 Z=>c8 h1.1 h1.2.1 h2) c9 (λo_ Z i1 i2=>c10 i1 i2) trivial (λo_ Z Z Z Z Z Z=>trivial) r⟩
theorem Rd.old_both:(∀ {v:Value} {d:D} {as:List Addr},Rd H h v d as->∀ a ∈ as,∃ o,h.get? a=some o/\Shp o) /\
 (∀ {vs:List Value} {ds:List D} {as:List Addr},RdAll H h vs ds as->∀ a ∈ as,∃ o,h.get? a=some o/\Shp o):=
 Rd.two (M1:=λo_ Z as=>∀ a ∈ as,∃ o,h.get? a=some o/\Shp o) (M2:=λo_ Z as=>∀ a ∈ as,∃ o,h.get? a=some o/\Shp o) (λo_ q=>(YJ q).elim) (λo_ Z q=>(YJ q).elim) (λo_ Z Z q=>(YJ q).elim) (λo_ Z Z Z q=>(YJ q).elim) (λh1 ih b q=>(Qw q).elim (λe=>⟨_,e ▸ h1,.inl ⟨_,_,rfl⟩⟩) (ih b)) (λo_ ih=>ih)
  (λh1 b q=>⟨_,(Qx q) ▸ h1,.inr (.inl ⟨_,_,rfl⟩)⟩) (λh1 hc h2 b q=>(Qw q).elim (λe=>⟨_,e ▸ h1,.inr (.inr ⟨_,hc⟩)⟩) λq=>let ⟨o,_,_,z,y,_⟩:=h2;⟨o,(Qx q) ▸ z,.inr (.inl ⟨_,_,y⟩)⟩) (λo_ q=>(YJ q).elim) λi1 i2 b q=>(QY q).elim (i1 b) (i2 b)
theorem Rd.old(r:Rd H h v d as):∀ a ∈ as,∃ o,h.get? a=some o/\Shp o:=Rd.old_both.1 r
theorem RdAll.old(r:RdAll H h v d as):∀ a ∈ as,∃ o,h.get? a=some o/\Shp o:=Rd.old_both.2 r
theorem Rd.noAddr_both:(∀ {v:Value} {d:D} {as:List Addr},Rd H h v d as->noList d=true->as=[])/\(∀ {vs:List Value} {ds:List D} {as:List Addr},RdAll H h vs ds as->ap ds=true->as=[]):=
 Rd.two (M1:=λo_ d as=>noList d=true->as=[]) (M2:=λo_ ds as=>ap ds=true->as=[]) (λo_=>rfl) (λo_ Z=>rfl) (λo_ Z Z=>rfl) (λo_ Z Z Z=>rfl) (λo_ Z q=>nF (q:false=true)) (λo_ ih=>ih) (λo_ q=>nF (q:false=true)) (λo_ Z Z q=>nF (q:false=true)) (λo_=>rfl) λi1 i2 q=>by
  rw [aG,Qj] at q;rw [i1 q.1,i2 q.2];rfl
theorem Rd.noAddr(r:Rd H h v d as)(hn:noList d=true):as=[]:=Rd.noAddr_both.1 r hn
theorem RdAll.noAddr(r:RdAll H h v d as)(hn:ap d=true):as=[]:=Rd.noAddr_both.2 r hn
theorem Rd.oldF(r:Rd H h v d as)(hf:flat d=true):∀ a ∈ as,∃ o,h.get? a=some o/\((∃ vs n,o=listObj vs n)\/∃ es n,o=dictObj es n):=by
 intro a ha;induction r using Rd.casesOn with
 | list h1 h2 h3=>
  rcases Qw ha with rfl | q
  ·exact ⟨_,h1,.inl ⟨_,_,rfl⟩⟩
  ·rw [h3.noAddr hf] at q;exact (YJ q).elim
 | tuple h1 h2 h3=>rw [h3.noAddr hf] at ha;exact (YJ ha).elim
 | dict _ h1 _=>exact ⟨_,(Qx ha) ▸ h1,.inr ⟨_,_,rfl⟩⟩
 | exc=>exact nF hf
 | _=>exact (YJ ha).elim
theorem Rd.oldL_both:(∀ {v:Value} {d:D} {as:List Addr},Rd H h v d as->noDict d=true->∀ a ∈ as,∃ vs n,h.get? a=some (listObj vs n))/\(∀ {vs:List Value} {ds:List D} {as:List Addr},RdAll H h vs ds as->av ds=true->∀ a ∈ as,∃ vs n,h.get? a=some (listObj vs n)):=
 Rd.two (M1:=λo_ d as=>noDict d=true->∀ a ∈ as,∃ vs n,h.get? a=some (listObj vs n)) (M2:=λo_ ds as=>av ds=true->∀ a ∈ as,∃ vs n,h.get? a=some (listObj vs n)) (λo_ Z q=>(YJ q).elim) (λo_ Z Z q=>(YJ q).elim) (λo_ Z Z Z q=>(YJ q).elim) (λo_ Z Z Z Z q=>(YJ q).elim) (λh1 ih q b hb=>(Qw hb).elim (λe=>⟨_,_,e ▸ h1⟩) (ih q b)) (λo_ ih=>ih) (λo_ q=>nF (q:false=true)) (λo_ Z Z q=>nF (q:false=true)) (λo_ Z q=>(YJ q).elim) λi1 i2 q b hb=>by
  rw [dD,Qj] at q;exact (QY hb).elim (i1 q.1 b) (i2 q.2 b)
theorem Rd.reads_both:(∀ {v:Value} {d:D} {as:List Addr},Rd H h v d as->noDict d=true->∃ bs,Reads h v d bs)/\(∀ {vs:List Value} {ds:List D} {as:List Addr},RdAll H h vs ds as->av ds=true->∃ bs,ReadsAll h vs ds bs):=
 Rd.two (M1:=λv d Z=>noDict d=true->∃ bs,Reads h v d bs) (M2:=λvs ds Z=>av ds=true->∃ bs,ReadsAll h vs ds bs) (λo_=>⟨_,.none⟩) (λb Z=>⟨_,.bool b⟩) (λi t Z=>⟨_,.int i t⟩) (λx t Z Z=>⟨_,.str x t⟩) (λh1 ih q=>(ih q).elim λo_ r=>⟨_,.list h1 rfl rfl r⟩) (λh1 ih q=>(ih q).elim λo_ r=>⟨_,.tuple h1 rfl rfl r⟩) (λo_ q=>nF (q:false=true)) (λo_ Z Z q=>nF (q:false=true)) (λo_=>⟨_,.nil⟩) λi1 i2 q=>by
  rw [dD,Qj] at q;exact (i1 q.1).elim λo_ r=>(i2 q.2).elim λo_ q=>⟨_,.cons r q⟩
theorem Rd.reads(r:Rd H h v d as)(hn:noDict d=true):∃ bs,Reads h v d bs:=Rd.reads_both.1 r hn
theorem Rd.canLay_both:(∀ {v:Value} {d:D} {as:List Addr},Rd H h v d as->noDict d=true->d.canLay0=true)/\(∀ {vs:List Value} {ds:List D} {as:List Addr},RdAll H h vs ds as->av ds=true->PyData.canLayAll0 ds=true):=
 Rd.two (M1:=λo_ d Z=>noDict d=true->d.canLay0=true) (M2:=λo_ ds Z=>av ds=true->PyData.canLayAll0 ds=true) (λo_=>rfl) (λo_ Z=>rfl) (λo_ Z Z=>rfl) (λx Z ho Z=>ho) (λo_ ih=>ih) (λo_ ih=>ih) (λo_ q=>nF (q:false=true)) (λo_ Z Z q=>nF (q:false=true)) (λo_=>rfl) λi1 i2 q=>by
  rw [dD,Qj] at q;rw [PyData.canLayAll0,i1 q.1,i2 q.2];rfl
theorem Rd.canLay(r:Rd H h v d as)(hn:noDict d=true):d.canLay0=true:=Rd.canLay_both.1 r hn
theorem RdAll.canLay(r:RdAll H h v d as)(hn:av d=true):PyData.canLayAll0 d=true:=Rd.canLay_both.2 r hn
noncomputable def inn:D->List Addr->List Addr
 | .list _,as=>as.tail
 | .dict _,_=>[]
 | _,as=>as
theorem vO:∀ a ∈ inn d as,a ∈ as:=by
 intro a h;induction d using dc<;>first | exact h | exact YQ h | exact (YJ h).elim
theorem Rd.inn_flat(r:Rd H h v d as)(hf:flat d=true):inn d as=[]:=by
 induction r using Rd.casesOn with
 | list h1 h2 h3=>exact h3.noAddr (hf)
 | tuple h1 h2 h3=>exact h3.noAddr hf
 | dict=>rfl
 | exc=>exact nF hf
 | _=>rfl
theorem Rd.innG{d:D}{G:Addr->Prop}{q:Bool}(r:Rd H h v d as)(h1:q=false->∀ a ∈ as,G a)(h2:q=true->flat d=true):∀ a ∈ inn d as,G a:=by
 intro a m;induction q with
 | false=>exact h1 rfl a (vO a m)
 | true=>rw [r.inn_flat (h2 rfl)] at m;exact (YJ m).elim
theorem RdAll.append(r:RdAll H h vs ds as)(k:RdAll H h ws es bs):RdAll H h (vs++ws) (ds++es) (as++bs):=
 r.ind (M:=λvs ds as=>RdAll H h (vs++ws) (ds++es) (as++bs)) k λo_ Z Z Z Z Z h1 Z i=>by rw [YL];exact .cons h1 i
theorem RdAll.get(r:RdAll H h vs ds as){k:Nat}{d:D}(e:ds[k]?=some d):∃ v bs,vs[k]?=some v/\Rd H h v d bs/\∀ a ∈ bs,a ∈ as:=
 r.ind (M:=λvs ds as=>∀ (k:Nat) (d:D),ds[k]?=some d->∃ v bs,vs[k]?=some v/\Rd H h v d bs/\∀ a ∈ bs,a ∈ as) (λk d e=>by exact nN e) (λv vs d0 ds as bs h1 h2 i k d e=>by
  induction k using nc with
  | zero=>obtain rfl:=Qv e;exact ⟨v,as,rfl,h1,λo_ q=>Q6 _ q⟩
  | succ k=>
   refine byG λX_ g_=>?_;obtain ⟨w,cs,e1,r,q⟩:=i k d e;refine g_ ?_
   exact ⟨w,cs,e1,r,λa m=>Zy _ (q a m)⟩) k d e
theorem RdAll.getV(r:RdAll H h vs ds as){k:Nat}(e:vs[k]?=some v):∃ d bs,ds[k]?=some d/\Rd H h v d bs/\∀ a ∈ bs,a ∈ as:=by
 have hk:k < ds.length:=by rw [<- r.length];exact (Qq e).1
 refine byG λX_ g_=>?_;obtain ⟨w,bs,e1,r1,q⟩:=r.get (Qk hk);refine g_ ?_;rw [e] at e1;obtain rfl:=Qv e1;exact ⟨_,bs,Qk hk,r1,q⟩
theorem RdAll.drop(k:Nat)(r:RdAll H h vs ds as):∃ bs,RdAll H h (vs.drop k) (ds.drop k) bs/\∀ a ∈ bs,a ∈ as:=
 r.ind (M:=λvs ds as=>∀ k:Nat,∃ bs,RdAll H h (vs.drop k) (ds.drop k) bs/\∀ a ∈ bs,a ∈ as) (λk=>⟨[],by rw [List.drop_nil,List.drop_nil];exact .nil,λo_ q=>q⟩) (λv vs d ds as bs h1 h2 i k=>by
  induction k using nc with
  | zero=>exact ⟨_,.cons h1 h2,λo_ q=>q⟩
  | succ k=>obtain ⟨cs,r,q⟩:=i k;exact ⟨cs,r,λa m=>Zy _ (q a m)⟩) k
theorem RdAll.take(k:Nat)(r:RdAll H h vs ds as):∃ bs,RdAll H h (vs.take k) (ds.take k) bs/\∀ a ∈ bs,a ∈ as:=
 r.ind (M:=λvs ds as=>∀ k:Nat,∃ bs,RdAll H h (vs.take k) (ds.take k) bs/\∀ a ∈ bs,a ∈ as) (λk=>⟨[],by rw [List.take_nil,List.take_nil];exact .nil,λo_ q=>q⟩) (λv vs d ds as bs h1 h2 i k=>by
  induction k using nc with
  | zero=>exact ⟨[],.nil,λo_ q=>nomatch q⟩
  | succ k=>
   obtain ⟨cs,r,q⟩:=i k
   exact ⟨_,.cons h1 r,λa m=>(QY m).elim (λm=>Q6 _ m) λm=>Zy _ (q a m)⟩) k
theorem RdAll.one(r:Rd H h v d as):RdAll H h [v] [d] as:=by simpa using RdAll.cons r .nil
theorem RdAll.reverse(r:RdAll H h vs ds as):∃ bs,RdAll H h vs.reverse ds.reverse bs/\∀ a ∈ bs,a ∈ as:=
 r.ind (M:=λvs ds as=>∃ bs,RdAll H h vs.reverse ds.reverse bs/\∀ a ∈ bs,a ∈ as) ⟨[],.nil,λo_ q=>q⟩ λv vs d ds as bs h1 h2 i=>by
  obtain ⟨cs,r,q⟩:=i;rw [Z0,Z0];refine ⟨_,r.append (RdAll.one h1),λa m=>?_⟩;rcases QY m with m | m
  ·exact Zy _ (q a m)
  ·exact Q6 _ m
theorem RdAll.set{d:D}(r:Rd H h v d [])(k:Nat)(ra:RdAll H h vs ds as)(e:as=[]):RdAll H h (vs.set k v) (ds.set k d) []:=
 ra.ind (M:=λvs ds as=>∀ k:Nat,as=[]->RdAll H h (vs.set k v) (ds.set k d) []) (λk Z=>by rw [List.set_nil,List.set_nil];exact .nil) (λv0 vs d0 ds as bs h1 h2 i k e=>by
  obtain ⟨e1,e2⟩:=List.append_eq_nil_iff.mp e;subst e1;subst e2;induction k using nc with
  | zero=>exact .cons r h2
  | succ k=>exact .cons h1 (i k rfl)) k e
theorem RdAll.dropLast(r:RdAll H h vs ds as):∃ bs,RdAll H h vs.dropLast ds.dropLast bs/\∀ a ∈ bs,a ∈ as:=by
 rw [Xk,Xk,r.length];exact r.take _
theorem Rd.listE{motive:(v:Value)->(as:List Addr)->Rd H h v (.list xs) as->Prop}(mk:∀ {a:Addr} {vs:Array Value} {n:Nat} {as:List Addr} (h1:h.get? a=some (listObj vs n)) (h2:vs.size<=sizeLine) (h3:RdAll H h vs.toList xs as),motive (.ref a) (a::as) (.list h1 h2 h3))(rd:Rd H h v (.list xs) as):motive v as rd:=by
 cases rd with
 | list h1 h2 h3=>exact mk h1 h2 h3
theorem Rd.tupleE{motive:(v:Value)->(as:List Addr)->Rd H h v (.tuple xs) as->Prop}(mk:∀ {a:Addr} {vs:Array Value} {n:Nat} {as:List Addr} (h1:h.get? a=some (tupObj vs n)) (h2:vs.size<=sizeLine) (h3:RdAll H h vs.toList xs as),motive (.ref a) as (.tuple h1 h2 h3))(rd:Rd H h v (.tuple xs) as):motive v as rd:=by
 cases rd with
 | tuple h1 h2 h3=>exact mk h1 h2 h3
theorem Rd.intE{i:Int}{motive:(v:Value)->(as:List Addr)->Rd H h v (.int i) as->Prop}(mk:∀ t:Tok,motive (.int i t) [] (.int i t))(rd:Rd H h v (.int i) as):motive v as rd:=by
 cases rd with
 | int _ t=>exact mk t
theorem Rd.strE{motive:(v:Value)->(as:List Addr)->Rd H h v (.str x) as->Prop}(mk:∀ (t:Tok) (hz:x.length<=sizeLine) (ho:PyData.strOk x=true),motive (.str x t) [] (.str x t hz ho))(rd:Rd H h v (.str x) as):motive v as rd:=by
 cases rd with
 | str _ t hz ho=>exact mk t hz ho
end
section
variable {α:Type}{x:α}{d:Option α}
noncomputable def og(e:Expr)(k:Const->Nat->Pos->Option α)(d:Option α):Option α:=if h:e.ctorIdx=19 then Expr.Constant.elim (motive_1:=λZ=>Option α) e h k else d
theorem gV{k:Const->Nat->Pos->Option α}{G:Expr->Prop}(h:og e k d=some x)(g:∀ a b c,k a b c=some x->G (.Constant a b c))(g2:d=some x->G e):G e:=
 if q:e.ctorIdx=19 then Expr.Constant.elim (motive_1:=λe=>og e k d=some x->G e) e q g h else g2 ((Zi q).symm.trans h)
noncomputable def mF(e:Expr)(k:Str->Pos->Option α)(d:Option α):Option α:=if h:e.ctorIdx=23 then Expr.Name.elim (motive_1:=λZ=>Option α) e h k else d
theorem eP{k:Str->Pos->Option α}{G:Expr->Prop}(h:mF e k d=some x)(g:∀ a b,k a b=some x->G (.Name a b))(g2:d=some x->G e):G e:=
 if q:e.ctorIdx=23 then Expr.Name.elim (motive_1:=λe=>mF e k d=some x->G e) e q g h else g2 ((Zi q).symm.trans h)
noncomputable def oh(e:Expr)(k:List Expr->Nat->Pos->Option α)(d:Option α):Option α:=if h:e.ctorIdx=25 then Expr.Tuple.elim (motive_1:=λZ=>Option α) e h k else d
theorem gW{k:List Expr->Nat->Pos->Option α}{G:Expr->Prop}(h:oh e k d=some x)(g:∀ a b c,k a b c=some x->G (.Tuple a b c))(g2:d=some x->G e):G e:=
 if q:e.ctorIdx=25 then Expr.Tuple.elim (motive_1:=λe=>oh e k d=some x->G e) e q g h else g2 ((Zi q).symm.trans h)
noncomputable def vP(e:Expr)(k:List Expr->Pos->Option α)(d:Option α):Option α:=if h:e.ctorIdx=24 then Expr.List.elim (motive_1:=λZ=>Option α) e h k else d
theorem rC{k:List Expr->Pos->Option α}{G:Expr->Prop}(h:vP e k d=some x)(g:∀ a b,k a b=some x->G (.List a b))(g2:d=some x->G e):G e:=
 if q:e.ctorIdx=24 then Expr.List.elim (motive_1:=λe=>vP e k d=some x->G e) e q g h else g2 ((Zi q).symm.trans h)
noncomputable def vQ(e:Expr)(k:Expr->Operator->Expr->Pos->Option α)(d:Option α):Option α:=if h:e.ctorIdx=2 then Expr.BinOp.elim (motive_1:=λZ=>Option α) e h k else d
theorem rD{k:Expr->Operator->Expr->Pos->Option α}{G:Expr->Prop}(h:vQ e k d=some x)(g:∀ a b c d,k a b c d=some x->G (.BinOp a b c d))(g2:d=some x->G e):G e:=
 if q:e.ctorIdx=2 then Expr.BinOp.elim (motive_1:=λe=>vQ e k d=some x->G e) e q g h else g2 ((Zi q).symm.trans h)
noncomputable def vR(e:Expr)(k:UnaryOp->Expr->Pos->Option α)(d:Option α):Option α:=if h:e.ctorIdx=3 then Expr.UnaryOp.elim (motive_1:=λZ=>Option α) e h k else d
theorem rE{k:UnaryOp->Expr->Pos->Option α}{G:Expr->Prop}(h:vR e k d=some x)(g:∀ a b c,k a b c=some x->G (.UnaryOp a b c))(g2:d=some x->G e):G e:=
 if q:e.ctorIdx=3 then Expr.UnaryOp.elim (motive_1:=λe=>vR e k d=some x->G e) e q g h else g2 ((Zi q).symm.trans h)
noncomputable def rF(e:Expr)(k:BoolOp->List Expr->Pos->Option α)(d:Option α):Option α:=if h:e.ctorIdx=0 then Expr.BoolOp.elim (motive_1:=λZ=>Option α) e h k else d
theorem lf{k:BoolOp->List Expr->Pos->Option α}{G:Expr->Prop}(h:rF e k d=some x)(g:∀ a b c,k a b c=some x->G (.BoolOp a b c))(g2:d=some x->G e):G e:=
 if q:e.ctorIdx=0 then Expr.BoolOp.elim (motive_1:=λe=>rF e k d=some x->G e) e q g h else g2 ((Zi q).symm.trans h)
noncomputable def oi(e:Expr)(k:Expr->List CmpOp->List Expr->Pos->Option α)(d:Option α):Option α:=if h:e.ctorIdx=15 then Expr.Compare.elim (motive_1:=λZ=>Option α) e h k else d
theorem gY{k:Expr->List CmpOp->List Expr->Pos->Option α}{G:Expr->Prop}(h:oi e k d=some x)(g:∀ a b c d,k a b c d=some x->G (.Compare a b c d))(g2:d=some x->G e):G e:=
 if q:e.ctorIdx=15 then Expr.Compare.elim (motive_1:=λe=>oi e k d=some x->G e) e q g h else g2 ((Zi q).symm.trans h)
noncomputable def rG(e:Expr)(k:Expr->Expr->Pos->Option α)(d:Option α):Option α:=if h:e.ctorIdx=21 then Expr.Subscript.elim (motive_1:=λZ=>Option α) e h k else d
theorem lg{k:Expr->Expr->Pos->Option α}{G:Expr->Prop}(h:rG e k d=some x)(g:∀ a b c,k a b c=some x->G (.Subscript a b c))(g2:d=some x->G e):G e:=
 if q:e.ctorIdx=21 then Expr.Subscript.elim (motive_1:=λe=>rG e k d=some x->G e) e q g h else g2 ((Zi q).symm.trans h)
noncomputable def oj(e:Expr)(k:Expr->List Expr->List Keyword->Pos->Option α)(d:Option α):Option α:=if h:e.ctorIdx=16 then Expr.Call.elim (motive_1:=λZ=>Option α) e h k else d
theorem gZ{k:Expr->List Expr->List Keyword->Pos->Option α}{G:Expr->Prop}(h:oj e k d=some x)(g:∀ a b c d,k a b c d=some x->G (.Call a b c d))(g2:d=some x->G e):G e:=
 if q:e.ctorIdx=16 then Expr.Call.elim (motive_1:=λe=>oj e k d=some x->G e) e q g h else g2 ((Zi q).symm.trans h)
noncomputable def vS(e:Expr)(k:Expr->List Comprehension->Scope->Pos->Option α)(d:Option α):Option α:=if h:e.ctorIdx=8 then Expr.ListComp.elim (motive_1:=λZ=>Option α) e h k else d
theorem rH{k:Expr->List Comprehension->Scope->Pos->Option α}{G:Expr->Prop}(h:vS e k d=some x)(g:∀ a b c d,k a b c d=some x->G (.ListComp a b c d))(g2:d=some x->G e):G e:=
 if q:e.ctorIdx=8 then Expr.ListComp.elim (motive_1:=λe=>vS e k d=some x->G e) e q g h else g2 ((Zi q).symm.trans h)
noncomputable def vT(e:Expr)(k:List (Option Expr)->List Expr->Pos->Option α)(d:Option α):Option α:=if h:e.ctorIdx=6 then Expr.Dict.elim (motive_1:=λZ=>Option α) e h k else d
theorem rI{k:List (Option Expr)->List Expr->Pos->Option α}{G:Expr->Prop}(h:vT e k d=some x)(g:∀ a b c,k a b c=some x->G (.Dict a b c))(g2:d=some x->G e):G e:=
 if q:e.ctorIdx=6 then Expr.Dict.elim (motive_1:=λe=>vT e k d=some x->G e) e q g h else g2 ((Zi q).symm.trans h)
noncomputable def rJ(e:Expr)(k:Expr->Str->Pos->Option α)(d:Option α):Option α:=if h:e.ctorIdx=20 then Expr.Attribute.elim (motive_1:=λZ=>Option α) e h k else d
theorem lh{k:Expr->Str->Pos->Option α}{G:Expr->Prop}(h:rJ e k d=some x)(g:∀ a b c,k a b c=some x->G (.Attribute a b c))(g2:d=some x->G e):G e:=
 if q:e.ctorIdx=20 then Expr.Attribute.elim (motive_1:=λe=>rJ e k d=some x->G e) e q g h else g2 ((Zi q).symm.trans h)
noncomputable def vU(e:Expr)(k:Option Expr->Option Expr->Option Expr->Pos->Option α)(d:Option α):Option α:=if h:e.ctorIdx=26 then Expr.Slice.elim (motive_1:=λZ=>Option α) e h k else d
theorem rK{k:Option Expr->Option Expr->Option Expr->Pos->Option α}{G:Expr->Prop}(h:vU e k d=some x)(g:∀ a b c d,k a b c d=some x->G (.Slice a b c d))(g2:d=some x->G e):G e:=
 if q:e.ctorIdx=26 then Expr.Slice.elim (motive_1:=λe=>vU e k d=some x->G e) e q g h else g2 ((Zi q).symm.trans h)
noncomputable def onAs(e:Stmt)(k:List Expr->Expr->Pos->Option α)(d:Option α):Option α:=if h:e.ctorIdx=5 then Stmt.Assign.elim (motive_2:=λZ=>Option α) e h k else d
theorem ol{k:List Expr->Expr->Pos->Option α}{G:Stmt->Prop}(h:onAs e k d=some x)(g:∀ a b c,k a b c=some x->G (.Assign a b c))(g2:d=some x->G e):G e:=
 if q:e.ctorIdx=5 then Stmt.Assign.elim (motive_2:=λe=>onAs e k d=some x->G e) e q g h else g2 ((Zi q).symm.trans h)
noncomputable def onEx(e:Stmt)(k:Expr->Pos->Option α)(d:Option α):Option α:=if h:e.ctorIdx=24 then Stmt.Expr.elim (motive_2:=λZ=>Option α) e h k else d
theorem om{k:Expr->Pos->Option α}{G:Stmt->Prop}(h:onEx e k d=some x)(g:∀ a b,k a b=some x->G (.Expr a b))(g2:d=some x->G e):G e:=
 if q:e.ctorIdx=24 then Stmt.Expr.elim (motive_2:=λe=>onEx e k d=some x->G e) e q g h else g2 ((Zi q).symm.trans h)
noncomputable def onIf(e:Stmt)(k:Expr->List Stmt->List Stmt->Pos->Option α)(d:Option α):Option α:=if h:e.ctorIdx=12 then Stmt.If.elim (motive_2:=λZ=>Option α) e h k else d
theorem on{k:Expr->List Stmt->List Stmt->Pos->Option α}{G:Stmt->Prop}(h:onIf e k d=some x)(g:∀ a b c d,k a b c d=some x->G (.If a b c d))(g2:d=some x->G e):G e:=
 if q:e.ctorIdx=12 then Stmt.If.elim (motive_2:=λe=>onIf e k d=some x->G e) e q g h else g2 ((Zi q).symm.trans h)
noncomputable def onWh(e:Stmt)(k:Expr->List Stmt->List Stmt->Pos->Option α)(d:Option α):Option α:=if h:e.ctorIdx=11 then Stmt.While.elim (motive_2:=λZ=>Option α) e h k else d
theorem vV{k:Expr->List Stmt->List Stmt->Pos->Option α}{G:Stmt->Prop}(h:onWh e k d=some x)(g:∀ a b c d,k a b c d=some x->G (.While a b c d))(g2:d=some x->G e):G e:=
 if q:e.ctorIdx=11 then Stmt.While.elim (motive_2:=λe=>onWh e k d=some x->G e) e q g h else g2 ((Zi q).symm.trans h)
noncomputable def onFo(e:Stmt)(k:Expr->Expr->List Stmt->List Stmt->Pos->Option α)(d:Option α):Option α:=if h:e.ctorIdx=9 then Stmt.For.elim (motive_2:=λZ=>Option α) e h k else d
theorem vW{k:Expr->Expr->List Stmt->List Stmt->Pos->Option α}{G:Stmt->Prop}(h:onFo e k d=some x)(g:∀ a b c d e,k a b c d e=some x->G (.For a b c d e))(g2:d=some x->G e):G e:=
 if q:e.ctorIdx=9 then Stmt.For.elim (motive_2:=λe=>onFo e k d=some x->G e) e q g h else g2 ((Zi q).symm.trans h)
noncomputable def onRe(e:Stmt)(k:Option Expr->Pos->Option α)(d:Option α):Option α:=if h:e.ctorIdx=3 then Stmt.Return.elim (motive_2:=λZ=>Option α) e h k else d
theorem jW{k:Option Expr->Pos->Option α}{G:Stmt->Prop}(h:onRe e k d=some x)(g:∀ a b,k a b=some x->G (.Return a b))(g2:d=some x->G e):G e:=
 if q:e.ctorIdx=3 then Stmt.Return.elim (motive_2:=λe=>onRe e k d=some x->G e) e q g h else g2 ((Zi q).symm.trans h)
noncomputable def onRa(e:Stmt)(k:Option Expr->Option Expr->Pos->Option α)(d:Option α):Option α:=if h:e.ctorIdx=16 then Stmt.Raise.elim (motive_2:=λZ=>Option α) e h k else d
theorem vX{k:Option Expr->Option Expr->Pos->Option α}{G:Stmt->Prop}(h:onRa e k d=some x)(g:∀ a b c,k a b c=some x->G (.Raise a b c))(g2:d=some x->G e):G e:=
 if q:e.ctorIdx=16 then Stmt.Raise.elim (motive_2:=λe=>onRa e k d=some x->G e) e q g h else g2 ((Zi q).symm.trans h)
noncomputable def onTr(e:Stmt)(k:List Stmt->List ExceptHandler->List Stmt->List Stmt->Pos->Option α)(d:Option α):Option α:=if h:e.ctorIdx=17 then Stmt.Try.elim (motive_2:=λZ=>Option α) e h k else d
theorem vY{k:List Stmt->List ExceptHandler->List Stmt->List Stmt->Pos->Option α}{G:Stmt->Prop}(h:onTr e k d=some x)(g:∀ a b c d e,k a b c d e=some x->G (.Try a b c d e))(g2:d=some x->G e):G e:=
 if q:e.ctorIdx=17 then Stmt.Try.elim (motive_2:=λe=>onTr e k d=some x->G e) e q g h else g2 ((Zi q).symm.trans h)
end
structure TC where
 names:List Str
 kind:Str->Option NameKind
noncomputable def slotOf:List Str->Str->Option Nat
 | [],_=>none
 | y::r,x=>match slotOf r x with
  | some i=>some (i+1)
  | none=>if y == x then some 0 else none
theorem rL(x:Str):slotOf [] x=none:=rfl
theorem bZ(x:Str)(y:Str)(r:List Str):slotOf (y::r) x=match slotOf r x with | some i=>some (i+1) | none=>if (y == x)=true then some 0 else none:=rfl
noncomputable def kindC(scope:Scope)(kind:Str->Option NameKind)(x:Str):Option NameKind:=
 match scope.names.lookup x with
 | some .free=>if kind x == some .cell then some .cell else some .free
 | k=>k
noncomputable def tyOf(x:Str):Option Ty:=
 if x == ("list" : Str) then some .list else if x == ("tuple" : Str) then some .tuple else if x == ("str" : Str) then some .str
 else if x == ("int" : Str) then some .int else if x == ("bool" : Str) then some .bool else none
noncomputable def b1Of(x:Str):Option B1:=
 if x == ("len" : Str) then some .len
 else if x == ("all" : Str) then some .all
 else if x == ("any" : Str) then some .any
 else if x == ("list" : Str) then some .list else if x == ("tuple" : Str) then some .tuple
 else if x == ("int" : Str) then some .int
 else none
noncomputable def okOp:Operator->Bool
 | .Add | .Sub | .Mult | .FloorDiv | .Mod | .Pow=>true
 | _=>false
noncomputable def li(scope:Scope)(kind:Str->Option NameKind)(xs:List Str):Bool:=
 scope.kind == .function&&scope.names.all (λy=>y.2 != .cell) &&
 scope.names.all (λy=>y.2 != .local||scope.names.lookup y.1 == some .local) &&
 scope.names.all (λy=>y.2 != .free||kind y.1 == some .cell) &&
 scope.names.all (λy=>y.2 != .local||xs.contains y.1||y.1 == (".0" : Str)) &&
 xs.all λx=>scope.names.lookup x == some .local
noncomputable def isSet(e:Expr):Bool:=Nat.beq e.ctorIdx 7
noncomputable def isStar(e:Expr):Bool:=Nat.beq e.ctorIdx 22
noncomputable def g5(e:Expr):Bool:=Nat.beq e.ctorIdx 26
def bR(e:Expr):Option Str:=mF e (λx Z=>some x) none
def ge(e:Expr):Option (Str × Str × Pos):=rJ e (λo nm apos=>(bR o).map λx=>(x,nm,apos)) none
def callOf(e:Expr):Option (Str × List Expr):=oj e (λfn args kws Z=>if kws.isEmpty then (bR fn).map λg=>(g,args) else none) none
def slOf(e:Expr):Option (Option Expr × Option Expr):=vU e (λlo hi st Z=>if st.isNone then some (lo,hi) else none) none
def rM(fn:Expr)(args:List Expr)(kws:List Keyword)(cpos:Pos):Option (Str × Expr):=
 (ge fn).bind λq=>if q.2.1 == ("index" : Str)&&kws.isEmpty&&q.2.2.endLine == cpos.line then (match args with
  | [x]=>if isStar x then none else some (q.1,x)
  | _=>none) else none
def rN(fn:Expr)(args:List Expr)(kws:List Keyword)(cpos:Pos):Option (Str × Expr × Expr):=
 (ge fn).bind λq=>if q.2.1 == ("get" : Str)&&kws.isEmpty&&q.2.2.endLine == cpos.line then (match args with
  | [x,y]=>if isStar x||isStar y then none else some (q.1,x,y)
  | _=>none) else none
noncomputable def two1{α:Type}:List α->Option (α × α)
 | [x,y]=>some (x,y)
 | _=>none
noncomputable def bang:Str := "!"
section
variable (ff:Str->Option Bool)(gcs:Str->Bool)
def glob(c:TC)(x:Str):Bool:=c.kind x == some .globalImplicit&&x != ("__debug__" : Str)&&x != bang
def fg(c:TC)(x:Str):Option Ex:=
 if x == ("__debug__" : Str) then none else
 match c.kind x with
 | some .local=>(slotOf c.names x).map .v
 | some .cell=>(slotOf c.names x).map .v
 | some .globalImplicit=>if gcs x then some (.gc x) else none
 | _=>none
def trEs(f:Expr->Option Ex):List Expr->Option Exs
 | []=>some .nil
 | e::r=>if isStar e then none else (f e).bind λa=>(trEs f r).map λb=>.cons a b
theorem yp(f:Expr->Option Ex):trEs f []=some Exs.nil:=rfl
theorem yq(f:Expr->Option Ex)(e:Expr)(r:List Expr):trEs f (e::r)=if isStar e=true then none else (f e).bind λ(a:Ex)=>Option.map (λ(b:Exs)=>Exs.cons a b) (trEs f r):=rfl
noncomputable def trO(f:Expr->Option Ex):Option Expr->Option Exo
 | none=>some .none
 | some e=>(f e).map .some
theorem AK(f:Expr->Option Ex):trO f none=some Exo.none:=rfl
theorem AL(f:Expr->Option Ex)(e:Expr):trO f (some e)=Option.map Exo.some (f e):=rfl
def iK(f:Expr->Option Ex)(l:List Expr):Option It:=(one1 l).bind λx=>if isStar x then none else (f x).map .range1
def oo(c:TC)(e:Expr):Option (List Expr):=(callOf e).bind λq=>if glob c q.1&&q.1 == ("range" : Str) then some q.2 else none
def vZ(f:Expr->Option Ex)(c:TC)(e:Expr):Option It:=
 match oo c e with
 | some args=>iK f args
 | none=>(f e).map .plain
def v6(f:Expr->Option Ex)(c:TC)(g:Str)(l:List Expr):Option It:=(one1 l).bind λx=>if glob c g&&g == ("enumerate" : Str)&&!isStar x then (f x).map .enum else none
def yr(f:Expr->Option Ex)(c:TC)(e:Expr):Option It:=(callOf e).bind λq=>v6 f c q.1 q.2
def trIt(f:Expr->Option Ex)(c:TC)(xs:List Str)(e:Expr):Option It:=
 if (ff bang).isNone then none else match xs with
 | [_]=>vZ f c e
 | [_,_]=>yr f c e
 | _=>none
noncomputable def isLp:B1->Bool
 | .all | .any=>true
 | _=>false
def trC1(f:Expr->Option Ex)(c:TC)(g:Str)(x:Expr):Option Ex:=
 if isStar x then none else (b1Of g).bind λb=>if isLp b&&(ff bang).isNone then none else (f x).map λa=>.b1 b a
def AM(f:Expr->Option Ex)(c:TC):List Expr->Option Ex
 | [a,t]=>(bR t).bind λt=>if glob c t&&!isStar a then (if exN.contains t||t == "ValueError" then (f a).map λb=>.isc b t else (tyOf t).bind λty=>(f a).map λb=>.isi b ty) else none
 | _=>none
def lj(f:Expr->Option Ex)(c:TC)(g:Str)(args:List Expr):Option Ex:=
 if !glob c g then none else
 if g == ("isinstance" : Str) then AM f c args else
 if exN.contains g then (one1 args).bind λx=>if isStar x then none else (f x).map λa=>.mk g a else
 match ff g with
 | some fr=>if args.length<=20&&!args.isEmpty then (trEs f args).map λes=>.call fr g es else none
 | none=>match args with
  | [x]=>trC1 ff f c g x
  | _=>none
def g6:List Expr->Option (List Str)
 | [a,b]=>(bR a).bind λx=>(bR b).bind λy=>if x == y then none else some [x,y]
 | _=>none
def cH(e:Expr):Option (List Str):=mF e (λx Z=>some [x]) (oh e (λes Z Z=>g6 es) none)
noncomputable def v7(f:Expr->Option Ex):List Expr->Option Exo
 | []=>some .none
 | [q]=>(f q).map .some
 | _=>none
noncomputable def trK:Const->Option D
 | .none=>some .none
 | .bool b=>some (.bool b)
 | .int i=>some (.int i)
 | .str x=>some (.str x)
 | _=>none
noncomputable def trUn:UnaryOp->Option Ex->Option Ex
 | .USub,a=>a.map .neg
 | .Not,a=>a.map .not
 | _,_=>none
def yt(f:Expr->Option Ex)(l:Expr):List CmpOp->List Expr->Option Ex
 | [op],[r]=>if isSet r then none else (f l).bind λa=>(f r).map λb=>.cmp op a b
 | [o1,o2],[r1,r2]=>if lastMarks [o1,o2] [r1,r2] then none else (f l).bind λa=>(f r1).bind λb=>(f r2).map λc=>.cmp2 o1 o2 a b c
 | _,_=>none
def v8(f:Expr->Option Ex)(v i:Expr):Option Ex:=
 match slOf i with
 | some q=>(f v).bind λa=>(trO f q.1).bind λl=>(trO f q.2).map λh=>.sl a l h
 | none=>if g5 i then none else (f v).bind λa=>(f i).map λb=>.idx a b
def oq(fr:TC->Expr->Option Ex)(c:TC)(elt:Expr)(scope:Scope):List Comprehension->Option Ex
 | [g]=>if g.is_async != 0||isSet g.iter||c.names.contains (".0" : Str) then none else (cH g.target).bind λxs=>
  if li scope c.kind xs&&!xs.contains (".0" : Str) then (trIt ff (fr c) c xs g.iter).bind λit=>(fr ⟨c.names++xs,kindC scope c.kind⟩ elt).bind λa=>
   (v7 (fr ⟨c.names++xs,kindC scope c.kind⟩) g.ifs).map λb=>.comp a it b else none
 | _=>none
noncomputable def yu(f:Expr->Option Ex):List (Option Expr)->List Expr->Option Ex
 | [],[]=>some (.dic .nil .nil)
 | [k],[v]=>k.bind λk=>(f k).bind λa=>(f v).map λb=>.dic (.cons a .nil) (.cons b .nil)
 | _,_=>none
def isXE(o:Expr):Bool:=(bR o).isSome||((callOf o).any λq=>!q.2.isEmpty)
def trE1(f:TC->Expr->Option Ex)(c:TC)(e:Expr):Option Ex:=
 og e (λk Z Z=>(trK k).map .k) <|
 mF e (λx Z=>fg gcs c x) <|
 oh e (λes Z Z=>if es.length<=100 then (trEs (f c) es).map .tup else none) <|
 vP e (λes Z=>if es.length<=100 then (trEs (f c) es).map .lst else none) <|
 vQ e (λl op r Z=>if okOp op then (f c l).bind λa=>(f c r).map λb=>.bin op a b else none) <|
 vR e (λop x Z=>trUn op (f c x)) <|
 rF e (λop vs Z=>if vs.isEmpty then none else (trEs (f c) vs).map λes=>.bool (op == .And) es) <|
 oi e (λl ops rs Z=>yt (f c) l ops rs) <|
 rG e (λv i Z=>v8 (f c) v i) <|
 oj e (λfn args kws cpos=>match rM fn args kws cpos with
  | some q=>(fg gcs c q.1).bind λa=>(f c q.2).map λb=>.index a b
  | none=>match rN fn args kws cpos with
   | some q=>(fg gcs c q.1).bind λa=>(f c q.2.1).bind λb=>(f c q.2.2).map λd=>.get a b d
   | none=>(callOf (.Call fn args kws cpos)).bind λq=>lj ff (f c) c q.1 q.2) <|
 vS e (λelt gens scope Z=>oq ff f c elt scope gens) <|
 rJ e (λo nm Z=>if nm == ("at" : Str)&&isXE o then (f c o).map .att else none) <|
 vT e (λks vs Z=>yu (f c) ks vs) none
def trE:Nat->TC->Expr->Option Ex
 | 0,_,_=>none
 | n+1,c,e=>trE1 ff gcs (trE n) c e
def varOf(c:TC)(x:Str):Option Nat:=
 if x == ("__debug__" : Str) then none else
 match c.kind x with
 | some .local=>slotOf c.names x
 | some .cell=>slotOf c.names x
 | _=>none
def ot(f:Expr->Option Ex)(c:TC)(x:Str)(nm:Str)(args:List Expr):Option Sm:=
 (varOf c x).bind λi=>
  if nm == ("append" : Str) then (match args with
   | [a]=>if isStar a then none else (f a).map λb=>.app i b
   | _=>none)
  else if nm == ("pop" : Str) then (match args with
   | []=>some (.pop i)
   | _=>none)
  else if nm == ("reverse" : Str) then (match args with
   | []=>some (.rev i)
   | _=>none)
  else none
noncomputable def isComp(e:Expr):Bool:=Nat.ble 8 e.ctorIdx&&Nat.ble e.ctorIdx 10
def AN(c:TC)(value:Expr):List Str->Option Sm
 | [x,y]=>if (ff bang).isNone then none else (varOf c x).bind λi=>(varOf c y).bind λj=>(trE ff gcs 40 c value).map λe=>.unp i j e
 | _=>none
def yv(c:TC)(value t:Expr):Option Sm:=
 mF t (λx Z=>(varOf c x).bind λi=>(trE ff gcs 40 c value).map λe=>.asg i e) <|
 rG t (λo ix Z=>(bR o).bind λx=>if g5 ix||isComp value then none else (varOf c x).bind λi=>(trE ff gcs 40 c value).bind λe=>(trE ff gcs 40 c ix).map λk=>.seti i k e) <|
 oh t (λes Z Z=>if (bR value).isSome then (g6 es).bind λxs=>AN ff gcs c value xs else none) none
def trX(c:TC)(value:Expr):Option Sm:=
 oj value (λfn args kws cpos=>match ge fn with
  | some q=>if kws.isEmpty&&q.2.2.endLine == cpos.line then ot (trE ff gcs 40 c) c q.1 q.2.1 args else none
  | none=>(callOf (.Call fn args kws cpos)).bind λq=>if glob c q.1&&decide (q.2.length<=20)&&!q.2.isEmpty&&(ff q.1).isSome then (trEs (trE ff gcs 40 c) q.2).map λes=>.exr q.1 es else none) none
def v9(f:Expr->Option Ex)(c:TC)(tgt iter:Expr)(b:Option Sms):Option Sm:=
 if isSet iter then none else (cH tgt).bind λxs=>(trIt ff f c xs iter).bind λit=>b.bind λb=>(match xs with
  | [x]=>(varOf c x).map λi=>.for1 i it b
  | [x,y]=>(varOf c x).bind λi=>(varOf c y).map λj=>.for2 i j it b
  | _=>none)
def trA1(c:TC)(value:Expr):List Expr->Option Sm
 | [t]=>yv ff gcs c value t
 | _=>none
noncomputable def catN:List Str:=["_law_caught", "_law_looked"]
def ou(c:TC)(e:Expr):Option (Str × Nat × Nat):=
 oi e (λl ops rs Z=>(one1 ops).bind λop=>(one1 rs).bind λr=>(callOf l).bind λq=>(one1 q.2).bind λa=>(bR a).bind λx=>(varOf c x).bind λi=>(bR r).bind λy=>(varOf c y).bind λj=>
  if op == .NotEq&&catN.contains q.1&&glob c q.1&&(ff bang).isSome then some (q.1,i,j) else none) none
def retF(ss:List Stmt):Bool:=(one1 ss).any λst=>(onRe st (λv Z=>v.bind λe=>og e (λk Z Z=>(trK k).bind λd=>if d.eqv (.bool false)&&AB d then some true else none) none) none).isSome
def wa(c:TC)(test:Expr)(body orelse:List Stmt):Option Sm:=
 if retF body&&orelse.isEmpty then rF test (λop vs Z=>(two1 vs).bind λp=>if op == .Or then (ou ff c p.1).bind λq=>(trE ff gcs 40 c p.2).map λe=>.cor q.1 q.2.1 q.2.2 e
  else (ou ff c p.2).bind λq=>(trE ff gcs 40 c p.1).map λe=>.cand e q.1 q.2.1 q.2.2) none else none
def yw(c:TC)(e:Expr):Option Sm:=
 (callOf e).bind λq=>(one1 q.2).bind λa=>if exN.contains q.1&&glob c q.1&&!isStar a&&(ff bang).isSome then (trE ff gcs 40 c a).map λb=>.rse q.1 b else none
def trS(g:List Stmt->Option Sms)(c:TC)(st:Stmt):Option Sm:=
 onAs st (λts value Z=>trA1 ff gcs c value ts) <|
 onEx st (λvalue Z=>trX ff gcs c value) <|
 onIf st (λtest body orelse Z=>match wa ff gcs c test body orelse with
  | some q=>some q
  | none=>(trE ff gcs 40 c test).bind λq=>(g body).bind λa=>(g orelse).map λb=>.ite q a b) <|
 onWh st (λtest body orelse Z=>if orelse.isEmpty then (trE ff gcs 40 c test).bind λq=>(g body).map λa=>.wh q a else none) <|
 onFo st (λtgt iter body orelse Z=>if orelse.isEmpty then v9 ff (trE ff gcs 40 c) c tgt iter (g body) else none) <|
 onRe st (λvalue Z=>value.bind λv=>(trE ff gcs 40 c v).map .ret) <|
 onRa st (λe f Z=>if f.isNone then e.bind (yw ff gcs c) else none) none
def trSs:Nat->TC->List Stmt->Option Sms
 | _,_,[]=>some .nil
 | 0,_,_=>none
 | n+1,c,s::r=>(trS ff gcs (trSs n c) c s).bind λa=>(trSs n c r).map λb=>.cons a b
def oy(r:Expr):Bool:=(og r (λk Z Z=>(trK k).bind λd=>if vD d then some true else none) none).isSome
def yx(c:TC)(st:Stmt):Option Sm:=
 onIf st (λtest Z orelse Z=>if orelse.isEmpty then oi test (λl ops rs Z=>(one1 ops).bind λop=>(one1 rs).bind λr=>(callOf l).bind λq=>
  if op == .IsNot&&oy r&&glob c q.1&&decide (q.2.length<=20)&&!q.2.isEmpty&&(ff q.1).isSome then (trEs (trE ff gcs 40 c) q.2).map λes=>.ifn q.1 es else none) none else none) none
def trTb(c:TC)(st:Stmt):Option Sm:=
 match yx ff gcs c st with
 | some q=>some q
 | none=>onEx st (λvalue Z=>trX ff gcs c value) none
end
structure CatFn where
 np:Nat
 ns:Nat
 i:Nat
 tb:Sm
 hb:Sms
 rv:Ex
noncomputable def yy:ExceptHandler->Option (Expr × Str × List Stmt)
 | .ExceptHandler (some t) (some n) b _=>some (t,n,b)
 | _=>none
def dF(Φ Φ0:Str->List D->Option D)(Γ:Str->Option D)(N:Nat)(f:CatFn)(args:List D):Option D:=
 if args.length=f.np then match exS Φ Γ [] false N f.tb (args.map some++List.replicate (f.ns - f.np) none) with
  | some (.next,m)=>evE Φ Γ f.rv m
  | some (.exc x,_)=>(exSs Φ0 Γ [] false N f.hb ((List.replicate f.ns none).set f.i (some x))).bind λq=>match q.1 with
   | .ret d=>if noDict d then some d else none
   | _=>none
  | _=>none
 else none
set_option tactic.hygienic true
noncomputable def oz(w:World)(e:EnK):Int:=reduceHash (Builtin.Tuple.tupleHashOf [hashStr w e.1,hashStr w e.2.1,hashInt e.2.2.1,hashStr w e.2.2.2.1,reduceHash (if e.2.2.2.2 then 1 else 0)])
def cq(w:World)(p:StK):Int:=reduceHash (Builtin.Tuple.tupleHashOf [hashInt p.1,reduceHash (Builtin.Tuple.tupleHashOf (p.2.map (oz w)))])
set_option tactic.hygienic false
set_option maxRecDepth 100000
section
variable {M:Model}{A:Around}{E:Value->Shared->Prop}{h:Heap}{g:Array GenState}{d:Drawn}{t:Nat}{os:OsState}
variable {nm q:Str}{C N:Addr}{bs bm bmB:List Value}{hdct:Bool}{sn:List Str}{sub:List Value}{ab:Bool}{col:Option Bool}{dd:Option Addr}{k0 k1 k2 k3 k5:Option Value}{B newId initId:String}
theorem jX(F:ExcBaseFacts B newId initId bmB)(hs:∀ X:String,bm.contains (.type X)=bmB.contains (.type X)){rest:List Value}{Q:Unit->Shared->Prop}(hC:h.get? C=some (excClassObj nm q C N bs bm hdct sn sub ab col dd k0 k1 k2 k3 k5 newId))
 (hq:Q () ⟨h,g,d,t,os⟩):wpAny M A (checkBuiltinCall newId ⟨.ref C::rest,[]⟩) Q E ⟨h,g,d,t,os⟩:=by
 refine have hc:(Value.ref C::bm).contains (.type B)=true:=(by rw [List.contains_cons,hs,F.hasB,YD]);?_;refine have hstar:=F.noStar;?_;refine have e:=congr (Qf Prod.mk F.newKind) F.newSplit;?_;unfold checkBuiltinCall;generalize (builtinKind newId,splitId newId)=z at e ⊢;subst e;refine have e:=F.newRow;?_;generalize Manifest.signature? newId=z at e ⊢;subst e
 repeat (first | refine wpAny_loadPart_at hC ?_ | (refine wpAny_isSubtype_exc hC ?_;rw [hc]) | refine wpAny_staticBase_exc hC ?_ | refine wpAny_madeBy_exc hC ?_ | simp only [bne_self_eq_false,QD,if_false] | wp_step)
 exact hq
end
section
variable {prog:Program}{w:World}{A:Around}{R:Result->Shared->Prop}{h:Heap}{g:Array GenState}{d:Drawn}{t:Nat}{os:OsState}
variable {nm q:Str}{C N:Addr}{bs bm bmB:List Value}{hdct:Bool}{sn:List Str}{sub:List Value}{ab:Bool}{col:Option Bool}{dd:Option Addr}{k0 k1 k2 k3 k5:Option Value}{B newId initId:String}
theorem rO(F:ExcBaseFacts B newId initId bmB)(hs:∀ X:String,bm.contains (.type X)=bmB.contains (.type X)){rest:List Value}(hC:h.get? C=some (excClassObj nm q C N bs bm hdct sn sub ab col dd k0 k1 k2 k3 k5 newId))
 (hq:R (.ok (.ret (.ref (h.objs.size+1)))) ⟨(h.push { cls:=.type "tuple",data:=.seq rest.toArray }).push
  { cls:=.ref C,data:=.fields #[.ref h.objs.size,.none,.none,.none,.bool false,.none] },g,d,t,os⟩) (hrest:rest.length<=sizeLine) :
 codeAny (model prog w) A (.builtin newId ⟨.ref C::rest,[]⟩) R ⟨h,g,d,t,os⟩:=by
 refine have hends:=F.ends;?_;refine have hcB:(Value.ref C::bm).contains (.type B)=true:=(by rw [List.contains_cons,hs,F.hasB,YD]);?_;refine have hcA:(Value.ref C::bm).contains (.type "AttributeError")=false:=(by rw [List.contains_cons,hs,F.noAttr];rfl);?_;refine have hcN:(Value.ref C::bm).contains (.type "NameError")=false:=(by rw [List.contains_cons,hs,F.noName];rfl);?_;refine codeAny_builtinAt F.entry ?_;unfold Builtin.«BaseException.__new__»;refine wpAt_bind ?_;show wpAt _ _ _ (stack >>= _) _ _ _;refine wpAt_bind (wpAt_stack λp below=>wpAt_of_wpAny ?_)
 wp_walk
 refine wpAt_of_wpAny ?_;rw [F.owner]
 repeat (first | with_reducible refine wpAny_madeHere_exc F.canon hC ?_ | with_reducible refine wpAny_loadPart_at hC ?_ | (with_reducible refine wpAny_isSubtype_exc hC ?_;first | rw [hcB] | rw [hcA] | rw [hcN]) | wp_step)
 show R _ _;rw [Heap.size_push];exact hq
end
section
variable {prog:Program}{w:World}{A:Around}{E:Value->Shared->Prop}{h:Heap}{g:Array GenState}{d:Drawn}{t:Nat}{os:OsState}
variable {nm q:Str}{C N:Addr}{bs bm bmB:List Value}{hdct:Bool}{sn:List Str}{sub:List Value}{ab:Bool}{col:Option Bool}{dd:Option Addr}{k0 k1 k2 k3 k5:Option Value}{B newId initId:String}
noncomputable def yz(prog:Program)(w:World)(h:Heap)(C fI:Addr):Prop:=∀ (A':Around) (h':Heap) (g:Array GenState) (d:Drawn) (t:Nat) (os:OsState) (Q':Option Value->Shared->Prop) (E':Value->Shared->Prop),(∀ b o,h.get? b=some o->h'.get? b=some o)->Q' (some (.ref fI)) ⟨h',g,d,t,os⟩->wpAny (model prog w) A' (typeLookup (.ref C) "__init__") Q' E' ⟨h',g,d,t,os⟩
theorem rP(F:ExcBaseFacts B newId initId bmB)(hs:∀ X:String,bm.contains (.type X)=bmB.contains (.type X)){rest:List Value}{fI:Addr}{oI:Obj}{Q:Fin->Shared->Prop}
 (hC:h.get? C=some (excClassObj nm q C N bs bm hdct sn sub ab col dd k0 k1 k2 k3 k5 newId)) (hl:yz prog w h C fI)
 (hfI:h.get? fI=some oI) (hfc:oI.cls = .type "function")
 (hq:∀ h' e,Heap.MadeExcOf h h' e (.ref C) rest ->
  wpAny (model prog w) A (call (.ref fI) (.ref e::rest)) (λr s'=>r = .none/\Q (.done (.ret (.ref e))) s') E ⟨h',g,d,t,os⟩) (hrest:rest.length<=sizeLine) :
 wpAny (model prog w) A (Builtin.«type.__call__» ⟨.ref C::rest,[]⟩) Q E ⟨h,g,d,t,os⟩:=by
 repeat (first | with_reducible refine wpAny_loadPart_at hC ?_ | with_reducible refine wpAny_madeBy_exc hC ?_ | wp_step)
 refine codeAny_call_builtin_code (Code.quiet_builtin _ F.quiet) (jX F hs hC ?_);refine rO F hs hC ?_ hrest;show wpAny _ _ _ _ _ _;refine have kp:∀ b o,h.get? b=some o->((h.push { cls:=.type "tuple",data:=.seq rest.toArray }).push { cls:=.ref C,data:=.fields #[.ref h.objs.size,.none,.none,.none,.bool false,.none] }).get? b=some o:=λb o e=>Qi _ (Qi _ e);?_;refine have hC₁:=kp _ _ hC;?_
 have hget:((h.push { cls:=.type "tuple",data:=.seq rest.toArray }).push
  { cls:=.ref C,data:=.fields #[.ref h.objs.size,.none,.none,.none,.bool false,.none] }).get? (h.objs.size+1)=some
  { cls:=.ref C,data:=.fields #[.ref h.objs.size,.none,.none,.none,.bool false,.none] }:=by heap_get
 refine have hcC:(Value.ref C::bm).contains (.ref C)=true:=(by simp);?_;unfold isInstance
 repeat (first | with_reducible refine wpAny_loadPart_at hget ?_ | (with_reducible refine wpAny_isSubtype_exc hC₁ ?_;rw [hcC]) | wp_step)
 show wpAny _ _ (typeLookup (.ref C) _) _ _ _;refine hl _ _ _ _ _ _ _ _ kp ?_;refine Zl (Qd ?_);unfold bindSpecial;refine Qd (wpAny_typeOf (T := "function") ⟨_,kp _ _ hfI,hfc⟩ ?_);rw [Ql (by decide)];refine Qg (Qd (Qs (hq _ (h.objs.size+1) ⟨kp,Heap.get?_none_of_le (Zs _),h.objs.size,hget,Heap.get?_none_of_le (QO _),?_⟩) (λr s' hr=>?_) λo_ Z x=>x))
 ·exact Qi _ (Heap.get?_push_at rfl rfl)
 ·obtain ⟨rfl,hQ⟩:=hr
  wp_walk
  exact hQ
theorem rQ(F:ExcBaseFacts B newId initId bmB)(hs:∀ X:String,bm.contains (.type X)=bmB.contains (.type X)){rest:List Value}{fI:Addr}{oI:Obj}{Q:Value->Shared->Prop}
 (hC:h.get? C=some (excClassObj nm q C N bs bm hdct sn sub ab col dd k0 k1 k2 k3 k5 newId)) (hl:yz prog w h C fI)
 (hfI:h.get? fI=some oI) (hfc:oI.cls = .type "function")
 (hq:∀ h' e,Heap.MadeExcOf h h' e (.ref C) rest ->
  wpAny (model prog w) (A.under (.builtin "type.__call__" ⟨.ref C::rest,[]⟩)) (call (.ref fI) (.ref e::rest)) (λr s'=>r = .none/\Q (.ref e) s') E ⟨h',g,d,t,os⟩) (hrest:rest.length<=sizeLine) :
 wpAny (model prog w) A (call (.ref C) rest) Q E ⟨h,g,d,t,os⟩:=by
 refine have f1:=tc_lookup;?_;refine have f2:=tc_bind (.ref C);?_;refine have hT:(⟨h,g,d,t,os⟩:Shared).TypeIs (.ref C) "type" := ⟨_,hC,rfl⟩;?_;refine wpAny_call (codeAny_of_tree ?_);show wpAny _ _ (callAny (.ref C) _) _ _ _
 repeat (any_goals (first | assumption | with_reducible refine wpAny_loadPart_at hC ?_ | wp_step))
 refine ⟨rfl,?_⟩;exact codeAny_call_builtin_at (Code.quiet_builtin _ (by decide +kernel)) entry_typeCall (wpAny_check_type_call_sub hC (rP F hs hC hl hfI hfc (λh' e hm=>hq h' e hm) hrest))
end
end Mine
namespace Mine
open PySem Builtin Builtin.ObjectAttr
noncomputable def Lk(h:Heap)(C:Addr)(n:Str)(y:Option Value):Prop:=∀ (M:Model) (A:Around) (h':Heap) (g:Array GenState) (d:Drawn) (t:Nat) (os:OsState) (Q:Option Value->Shared->Prop) (E:Value->Shared->Prop),(∀ b o,h.get? b=some o->h'.get? b=some o)->Q y ⟨h',g,d,t,os⟩->wpAny M A (typeLookup (.ref C) n) Q E ⟨h',g,d,t,os⟩
noncomputable def bmV:List Value:=[.type "ValueError",.type "Exception",.type "BaseException",.type "object"]
structure OwnX(h:Heap)(C:Addr)(bm:List Value)(fI:Addr):Prop where
 obj:∃ nm q N bs sn sub ab col dd k0 k1 k2 k3 k5,h.get? C=some (excClassObj nm q C N bs bm true sn sub ab col dd k0 k1 k2 k3 k5 "ValueError.__new__")
 typ:∀ X:String,bm.contains (.type X)=bmV.contains (.type X)
 rf:∀ self,refuseLoop self "__setattr__" bm=pure ()
 sa:Lk h C "__setattr__" (some (.builtin "object.__setattr__"))
 at':Lk h C "at" none
 ga:Lk h C "__getattribute__" (some (.builtin "BaseException.__getattribute__"))
 gt:Lk h C "__getattr__" none
 ini:Lk h C "__init__" (some (.ref fI))
 cl:Lk h C "__class__" (some (.builtin "object.__class__"))
theorem Lk.keeps(L:Lk h C n y)(hk:∀ b o,h.get? b=some o->h'.get? b=some o):Lk h' C n y:=λM A h2 g d t os Q E k q=>L M A h2 g d t os Q E (λb o e=>k b o (hk b o e)) q
theorem OwnX.keeps(O:OwnX h C bm fI)(hk:∀ b o,h.get? b=some o->h'.get? b=some o):OwnX h' C bm fI:=by
 refine byG λX_ g_=>?_;obtain ⟨nm,q,N,bs,sn,sub,ab,col,dd,k0,k1,k2,k3,k5,e⟩:=O.obj;refine g_ ?_;exact ⟨⟨nm,q,N,bs,sn,sub,ab,col,dd,k0,k1,k2,k3,k5,hk _ _ e⟩,O.typ,O.rf,O.sa.keeps hk,O.at'.keeps hk,O.ga.keeps hk,O.gt.keeps hk,O.ini.keeps hk,O.cl.keeps hk⟩
section
variable {prog:Program}{w:World}{A:Around}{E:Value->Shared->Prop}{h:Heap}{g:Array GenState}{d:Drawn}{t:Nat}{os:OsState}{C fI x:Addr}{bm:List Value}{o:Obj}{v:Value}{vs:Array Value}
theorem Lk.go(L:Lk h C n y)(hq:Q y ⟨h,g,d,t,os⟩):wpAny M A (typeLookup (.ref C) n) Q E ⟨h,g,d,t,os⟩:=L _ _ _ _ _ _ _ _ _ (λZ Z e=>e) hq
set_option tactic.hygienic true in
theorem oA(O:OwnX h C bm fI)(hx:h.get? x=some o)(hc:o.cls = .ref C)(hdn:o.dict=none)(hdt:o.data = .fields vs)
 (hq:∀ h' tk',h'.get? x=some { o with dict:=some h.objs.size }->h'.Ns1 h.objs.size (atM v)->(∀ b ob,b ≠ x->h.get? b=some ob->h'.get? b=some ob)->Q (.done (.ret .none)) ⟨h',g,d,tk',os⟩) :
 wpAny (model prog w) A (Builtin.«object.__setattr__» ⟨[.ref x,.str "at" tk,v],[]⟩) Q E ⟨h,g,d,t,os⟩:=by
 refine byG λX_ g_=>?_;obtain ⟨nm,q,N,bs,sn,sub,ab,col,dd,k0,k1,k2,k3,k5,hC⟩:=O.obj;refine g_ ?_;refine have hpass:=O.rf (.ref x);?_;unfold Builtin.«object.__setattr__»
 repeat (first | rw [refuse_eq] | (rw [refuseLoop_ref,hpass]) | (with_reducible refine wpAny_loadPart_at hx ?_;rw [hc]) | with_reducible refine wpAny_mroOf_exc hC ?_ | with_reducible refine O.at'.go ?_ | wp_step)
 rw [hdn,Qu (by simp [typeHasDict])];split
 ·rename_i hcd
  exact nN hcd
 split
 ·rename_i c hcd
  rw [hdt] at hcd;cases hcd
 refine have hx₁:(h.push { cls:=.type "dict",data:=.dict #[] }).get? x=some o:=Qi _ hx;?_;refine have hxs:x ≠ h.objs.size:=QM (Q3 hx);?_;refine Qd (wpAny_alloc' ?_);refine Qd (wpAny_update' hx₁ ?_);refine Qg ?_;have hgd:((h.push { cls:=.type "dict",data:=.dict #[] }).update x λo=>{ cls:=o.cls,dict:=some h.objs.size,data:=o.data,slots:=o.slots }).get? h.objs.size
  = some { cls:=.type "dict",data:=.dict #[] }:=
  (Heap.get?_update_ne _ _ _ _ hxs.symm).trans (Heap.get?_push_at rfl rfl)
 show wpAny _ _ (storeInDict h.objs.size (.str "at" tk) "at" v) _ _ _;unfold storeInDict newKeyGuard
 refine Qd (Qg (Qd (wpAny_nsSet1 (Heap.Ns1.of_empty (
  ⟨_,#[],_,hgd,rfl,λe he=>absurd he (by simp),λZ=>rfl⟩)) λh' hn' hs=>?_)))
 refine byG λX_ g_=>?_;obtain ⟨oD,esD,epD,hoD,hdD,hcD⟩:=hn'.count (Within.cons "at" v Within.nil);refine g_ ?_;refine Qd (wpAny_lookBehind hoD (hdD ▸ (pastItsLine_dict (QQ hcD (by decide)))) ?_)
 wp_walk
 refine hq h' _ ?_ hn' λb ob hbx hb=>?_
 ·refine (hs.2 x hxs).trans (Heap.get?_update_self _ hx₁ ?_)
  refine have hfr:=(Heap.get?_some_iff.mp hx).2;?_;obtain ⟨oc,od,odt,osl⟩:=o;clear hx₁ hq hdt hdn hc hx hcD hdD hoD g_ hn' hgd hxs hpass hC O;induction odt<;>first | rfl | exact hfr
 ·exact (hs.2 b (QM (Q3 hb))).trans ((Heap.get?_update_ne _ _ _ _ hbx).trans (Qi _ hb))
theorem bT(O:OwnX h C bm fI)(hq:Q (bmV.contains (.type X)) ⟨h,g,d,t,os⟩):wpAny M A (isSubtype (.ref C) (.type X)) Q E ⟨h,g,d,t,os⟩:=by
 refine byG λX_ g_=>?_;obtain ⟨nm,q,N,bs,sn,sub,ab,col,dd,k0,k1,k2,k3,k5,hC⟩:=O.obj;refine g_ ?_;refine wpAny_isSubtype_exc hC ?_;rw [List.contains_cons,O.typ];exact hq
theorem rR(O:OwnX h C bm fI)(hx:h.get? x=some o)(hc:o.cls = .ref C)(hq:Q () ⟨h,g,d,t,os⟩) :
 wpAny M A (checkBuiltinCall "object.__setattr__" ⟨[.ref x,nameV,v],[]⟩) Q E ⟨h,g,d,t,os⟩:=by
 refine have ha:=F.store_ValueError.args (.ref x) nameV v;?_;simp only [checkBuiltinCall,F.store_ValueError.kind,F.store_ValueError.split];refine Qd ?_
 ·unfold isInstance
  repeat (first | (with_reducible refine wpAny_loadPart_at hx ?_;rw [hc]) | (with_reducible refine bT O ?_;rw [show bmV.contains (.type "object")=true by decide]) | wp_step)
  exact hq
theorem oB(O:OwnX h C bm fI)(hx:h.get? x=some o)(hc:o.cls = .ref C)(hdn:o.dict=none)(hdt:o.data = .fields vs)
 (hq:∀ h' tk',h'.get? x=some { o with dict:=some h.objs.size }->h'.Ns1 h.objs.size (atM v)->(∀ b ob,b ≠ x->h.get? b=some ob->h'.get? b=some ob)->R (.ok (.ret .none)) ⟨h',g,d,tk',os⟩) :
 codeAny (model prog w) A (.call (.builtin "object.__setattr__") ⟨[.ref x,.str "at" tk,v],[]⟩) R ⟨h,g,d,t,os⟩:=
 codeAny_call_builtin F.store_ValueError.slot.plain F.store_ValueError.entry (rR O hx hc (oA O hx hc hdn hdt hq))
theorem rT(O:OwnX h C bm fI)(hx:h.get? x=some o)(hc:o.cls = .ref C)(hdn:o.dict=none)(hdt:o.data = .fields vs)
 (hq:∀ h' tk',h'.get? x=some { o with dict:=some h.objs.size }->h'.Ns1 h.objs.size (atM v)->(∀ b ob,b ≠ x->h.get? b=some ob->h'.get? b=some ob)->Q () ⟨h',g,d,tk',os⟩) :
 wpAny (model prog w) A (setAttr (.ref x) "at" v) Q E ⟨h,g,d,t,os⟩:=by
 refine have f3:=F.store_ValueError.slot.bind (.ref x);?_;unfold setAttr callSpecial? specialOf
 repeat (any_goals (first | assumption | (with_reducible refine wpAny_loadPart_at hx ?_;rw [hc]) | with_reducible refine O.sa.go ?_ | wp_step))
 refine oB O hx hc hdn hdt (λh' tk' a b c=>?_)
 repeat (any_goals (first | assumption | wp_step))
 exact hq h' tk' a b c
theorem ll(O:OwnX h C bm fI)(hx:h.get? x=some o)(hc:o.cls = .ref C)(hq:Q () ⟨h,g,d,t,os⟩):wpAny M A (checkBuiltinCall "BaseException.__getattribute__" ⟨[.ref x,nameV],[]⟩) Q E ⟨h,g,d,t,os⟩:=by
 refine have hk:builtinKind "BaseException.__getattribute__" = some .slot:=(by decide +kernel);?_;refine have hsplit:splitId "BaseException.__getattribute__" = some ("BaseException", "__getattribute__"):=(by decide +kernel);?_;refine have ha:=F.args_bexc_ga (.ref x) nameV;?_;simp only [checkBuiltinCall,hk,hsplit];refine Qd ?_
 ·unfold isInstance
  repeat (first | (with_reducible refine wpAny_loadPart_at hx ?_;rw [hc]) | (with_reducible refine bT O ?_;rw [show bmV.contains (.type "BaseException")=true by decide]) | wp_step)
  exact hq
theorem rU(O:OwnX h C bm fI)(hx:h.get? x=some o)(hc:o.cls = .ref C)(hdx:o.dict=some dx)(hdt:o.data = .fields vs)(hns:h.Ns dx mA)(hv:mA "at" = some v)(hq:Q (.done (.ret v)) ⟨h,g,d,t,os⟩) :
 wpAny (model prog w) A (Builtin.«object.__getattribute__» ⟨[.ref x,.str "at" tk],[]⟩) Q E ⟨h,g,d,t,os⟩:=by
 refine byG λX_ g_=>?_;obtain ⟨nm,q,N,bs,sn,sub,ab,col,dd,k0,k1,k2,k3,k5,hC⟩:=O.obj;refine g_ ?_;unfold Builtin.«object.__getattribute__»
 repeat (first | (with_reducible refine wpAny_loadPart_at hx ?_;rw [hc]) | with_reducible refine O.at'.go ?_ | wp_step)
 rw [hdt];unfold instanceDict
 repeat (first | (with_reducible refine wpAny_loadPart_at hx ?_;rw [hc]) | with_reducible refine wpAny_loadPart_at hC ?_ | wp_step)
 rw [hdx]
 repeat (first | (with_reducible refine wpAny_nsGet hns ?_;rw [hv]) | wp_step)
 exact hq
theorem rV(O:OwnX h C bm fI)(hx:h.get? x=some o)(hc:o.cls = .ref C)(hdx:o.dict=some dx)(hdt:o.data = .fields vs)(hns:h.Ns dx mA)(hv:mA "at" = some v)(hq:R (.ok (.ret v)) ⟨h,g,d,t,os⟩) :
 codeAny (model prog w) A (.call (.builtin "BaseException.__getattribute__") ⟨[.ref x,.str "at" tk],[]⟩) R ⟨h,g,d,t,os⟩:=
 codeAny_call_builtin F.excAttr_ValueError.ga.plain F.entry_bexc_ga (ll O hx hc (rU O hx hc hdx hdt hns hv hq))
theorem wb(O:OwnX h C bm fI)(hx:h.get? x=some o)(hc:o.cls = .ref C)(hdx:o.dict=some dx)(hdt:o.data = .fields vs)(hns:h.Ns dx mA)(hv:mA "at" = some v)(hq:Q v ⟨h,g,d,t,os⟩)(hh:handedOut v=pure v) :
 wpAny (model prog w) A (getAttrBy (.ref x) (.str "at" tk) fill expr) Q E ⟨h,g,d,t,os⟩:=by
 refine have f3:=F.excAttr_ValueError.ga.bind (.ref x);?_;refine have hx0:(expr&&onTheHeap (Value.builtin "BaseException.__getattribute__"))=false:=(by induction expr<;>rfl);?_;refine have hx2:(Value.builtin "BaseException.__getattribute__" == Value.builtin "object.__getattribute__")=false:=(by decide +kernel);?_;refine have hx1:(onTheHeap (Value.ref C)&&Value.builtin "BaseException.__getattribute__" == Value.builtin "object.__getattribute__")=false:=(hx2);?_
 repeat (any_goals (first | assumption | (with_reducible refine wpAny_loadPart_at hx ?_;rw [hc]) | with_reducible refine O.ga.go ?_ | with_reducible refine O.gt.go ?_ | wp_step))
 refine rV O hx hc hdx hdt hns hv ?_
 repeat (any_goals (first | assumption | rw [hh] | wp_step))
theorem rW(O:OwnX h C bm fI)(hx:h.get? x=some o)(hc:o.cls = .ref C)(hdx:o.dict=some dx)(hdt:o.data = .fields vs)(hns:h.Ns dx mA)(hv:mA "at" = some v)(hq:Q v ⟨h,g,d,t+1,os⟩)(hh:handedOut v=pure v) :
 wpAny (model prog w) A (getAttr (.ref x) "at" expr) Q E ⟨h,g,d,t,os⟩:=by
 unfold getAttr
 repeat (any_goals (first | assumption | with_reducible apply wb O hx hc hdx hdt hns hv | wp_step))
end
end Mine
namespace Mine
open PySem
noncomputable def Tr(h base:Heap)(e C dx:Addr)(fl:Value):Prop:=∃ oe vs T oT ts,(h.get? e=some oe/\oe.cls = .ref C/\oe.dict=some dx/\oe.data = .fields vs)/\vs[1]?=some (.ref T)/\base.get? T=none/\T ≠ e/\h.get? T=some oT/\oT.data = .fields ts/\ts[3]?=some fl
noncomputable def Tr0(h:Heap)(e C dx:Addr):Prop:=∃ oe vs,(h.get? e=some oe/\oe.cls = .ref C/\oe.dict=some dx/\oe.data = .fields vs)/\vs[1]?=some .none
structure Hd(base:Heap)(l:List Env)(e C dx:Addr)(fl:Value)(h:Heap):Prop where
 st:base.StaysIn h
 new:base.get? e=none
 fr:h.FunFrames base l
 tr:Tr h base e C dx fl
theorem at3(a b c d:Value):(([a,b,c,d,e]++X).toArray)[3]?=some d:=rfl
theorem oC(f:Array Value->Array Value)(o:Obj):(Obj.mapFields f o).dict=o.dict:=by
 obtain ⟨c,d,dt,sl⟩:=o;induction dt<;>rfl
section
variable {M:Model}{A:Around}{E:Value->Shared->Prop}{s:Shared}{base:Heap}{env:Env}{outer:List Env}{L e C dx:Addr}
theorem uz 
 (hfr:A.frames=some (env::outer)) (hl:s.heap.FunFrames base (env::outer)) (hf:env.frame=some L)
 (he:s.heap.get? e=some oe) (hc:oe.cls = .ref C) (hdx:oe.dict=some dx) (hkb:base.StaysIn s.heap) (hen:base.get? e=none) (hd:oe.data = .fields vs) (hsz:1 < vs.size)
 (h:∀ h',Hd base (env::outer) e C dx (rawInt L) h'->s.heap.UpToSlots h'->Q () { s with heap:=h' }) :
 wpAny M A (do let a <- frameOf env;let pl <- entryPlaceOf L hadNext;let b <- EntryCells.newEntry head a .none (rawInt L) .none pl;setField (.ref e) 1 b) Q E s:=by
 refine Qd (wpAny_frameOf_fun hfr hl hf λh₁ hs₁=>?_);refine Qd (wpAny_entryPlaceOf λpl hpl=>?_);unfold EntryCells.newEntry newFields;refine Qd (ZT ?_ (hpl.sizeOk5 _ _ _ _ _))
 refine have he₁:h₁.get? e=some oe:=(hs₁.2.1 e (λhm=>by
  obtain ⟨_,o,ho,hnf⟩:=hl.mem hm
  rw [he] at ho;injection ho with ho;subst ho;exact hnf vs hd)).trans he;?_
 refine have kb₁:base.StaysIn h₁:=(λb o hbo=>(hs₁.2.1 b λhm=>by rw [(hl.mem hm).1] at hbo;exact nN hbo).trans (hkb b o hbo));?_;generalize hN:({ cls:=.type "traceback",dict:=none,data:=.fields ([head,.ref L,.none,rawInt L,.none]++(if pl.isEmpty then List.replicate 6 Value.none else pl)).toArray }:Obj)=oN;refine have he₂:=Qi (h:=h₁) oN he₁;?_;refine wpAny_setField he₂ hd hsz (h _ ?_ ?_)
 all_goals
  refine have hTe:h₁.objs.size ≠ e:=Nat.ne_of_gt (Q3 he₁);?_;refine have hd₃:=Obj.data_mapFields hd (·.setIfInBounds 1 (Value.ref h₁.objs.size));?_;refine have he₃:=Heap.get?_update_self (Obj.mapFields (·.setIfInBounds 1 (Value.ref h₁.objs.size))) he₂ (Obj.isFreed_of_fields hd₃);?_;refine have hT₃:=(Heap.get?_update_other (h₁.push oN) (Obj.mapFields (·.setIfInBounds 1 (Value.ref h₁.objs.size))) (Ne.symm hTe)).trans (QL h₁ (hN ▸ rfl));?_;have keep:∀ b o,b ≠ e->h₁.get? b=some o->((h₁.push oN).update e (Obj.mapFields (·.setIfInBounds 1 (Value.ref h₁.objs.size)))).get? b=some o:=λb o hbe hb=>by
   exact (Heap.get?_update_other _ _ (Ne.symm hbe)).trans (Qi _ hb)
  have noRecord:∀ b o,s.heap.get? b=some o->(∀ vs,o.data ≠ .fields vs)->b ≠ e:=λb o hb hnf q=>by
   rw [q,he] at hb;injection hb with hb;subst hb;exact hnf vs hd
 ·refine ⟨λb o hbo=>keep b o (λq=>by rw [q,hen] at hbo;exact nN hbo) (kb₁ b o hbo),hen,hl.of_keeps λb o hb hnf=>?_,?_⟩
  ·obtain ⟨sl,hs⟩:=hs₁.2.2 b o hb
   exact ⟨_,keep b _ (noRecord b o hb hnf) hs,rfl⟩
  ·refine ⟨_,_,h₁.objs.size,_,_,⟨he₃,(Obj.cls_mapFields _ _).trans hc,(oC _ _).trans hdx,hd₃⟩,by simp [hsz],kb₁.fresh,hTe,hT₃,(Qf Obj.data hN).symm,at3 _ _ _ _⟩
 ·intro b o hb hnf
  obtain ⟨sl,hs⟩:=hs₁.2.2 b o hb;exact ⟨sl,keep b _ (noRecord b o hb hnf) hs⟩
theorem yA(hfr:A.frames=some (env::outer))(hf:env.frame=some L)(hl:s.heap.FunFrames base (env::outer))(hkb:base.StaysIn s.heap)(hen:base.get? e=none)
 (ht:Tr0 s.heap e C dx\/Tr s.heap base e C dx .none)
 (h:∀ h',Hd base (env::outer) e C dx (rawInt L) h'->s.heap.UpToSlots h'->Q () { s with heap:=h' }):wpAny M A (noteFrame (.ref e) env) Q E s:=by
 unfold noteFrame;simp only [hf];rcases ht with ⟨oe,vs,⟨he,hc,hdx,hd⟩,h1⟩ | ⟨oe,vs,T,oT,ts,⟨he,hc,hdx,hd⟩,h1,hnT,hTe,hT,hdT,h3⟩
 ·refine Qd (wpAny_field he hd h1 ?_)
  rw [Qu (by decide)];exact uz hfr hl hf he hc hdx hkb hen hd (Array.getElem?_eq_some_iff.mp h1).1 h
 ·refine Qd (wpAny_field he hd h1 ?_)
  rw [Ql (show (Value.ref T != Value.none)=true from by rfl)];refine Qd (wpAny_field hT hdT h3 ?_);rw [Qu (show ¬ ((Value.none == rawInt L)=true) from by exact Qr)];refine Qd (wpAny_setField hT hdT (Array.getElem?_eq_some_iff.mp h3).1 ?_);refine have other:∀ b,b ≠ T->(s.heap.update T (Obj.mapFields (·.setIfInBounds 3 Value.none))).get? b=s.heap.get? b:=λb hb=>Heap.get?_update_other _ _ (Ne.symm hb);?_;have noRecord:∀ b o,s.heap.get? b=some o->(∀ vs,o.data ≠ .fields vs)->b ≠ T:=λb o hb hnf q=>by
   rw [q,hT] at hb;injection hb with hb;subst hb;exact hnf ts hdT
  exact uz hfr (hl.of_keeps λb o hb hnf=>⟨o,(other b (noRecord b o hb hnf)).trans hb,rfl⟩) hf ((other e (Ne.symm hTe)).trans he) hc hdx
   (λb o hbo=>(other b λq=>by rw [q,hnT] at hbo;exact nN hbo).trans (hkb b o hbo)) hen hd (Array.getElem?_eq_some_iff.mp h1).1
   λh' x1 x4=>h h' x1 λb o hb hnf=>x4 b o ((other b (noRecord b o hb hnf)).trans hb) hnf
theorem wc(H:Hd base l e C dx fl s.heap)
 (h:∀ h',Hd base l e C dx .none h'->s.heap.UpToSlots h'->Q () { s with heap:=h' }):wpAny M A (setFlight (.ref e) none) Q E s:=by
 refine byG λX_ g_=>?_;obtain ⟨hkb,hen,hl,oe,vs,T,oT,ts,⟨he,hc,hdx,hd⟩,h1,hnT,hTe,hT,hdT,h3⟩:=H;refine g_ ?_;refine have hsz3:3 < ts.size:=(Array.getElem?_eq_some_iff.mp h3).1;?_;have other:∀ b,b ≠ T->(s.heap.update T (Obj.mapFields (·.setIfInBounds 3 ((none:Option Addr).elim Value.none λf=>rawInt f)))).get? b=s.heap.get? b:=
  λb hb=>Heap.get?_update_other _ _ (Ne.symm hb)
 have noRecord:∀ b o,s.heap.get? b=some o->(∀ vs,o.data ≠ .fields vs)->b ≠ T:=λb o hb hnf q=>by
  rw [q,hT] at hb;injection hb with hb;subst hb;exact hnf ts hdT
 unfold setFlight;refine Qd (wpAny_field he hd h1 ?_);rw [Ql (show (Value.ref T != Value.none)=true from by rfl)]
 refine wpAny_setField hT hdT hsz3 (h _ ⟨λb o hbo=>(other b λq=>by rw [q,hnT] at hbo;exact nN hbo).trans (hkb b o hbo),hen,
  hl.of_keeps λb o hb hnf=>⟨o,(other b (noRecord b o hb hnf)).trans hb,rfl⟩,?_⟩ λb o hb hnf=>⟨o.slots,(other b (noRecord b o hb hnf)).trans hb⟩)
 exact ⟨oe,vs,T,_,_,⟨(other e (Ne.symm hTe)).trans he,hc,hdx,hd⟩,h1,hnT,hTe,Heap.get?_update_self _ hT (Obj.isFreed_of_fields (Obj.data_mapFields hdT _)),Obj.data_mapFields hdT _,by simp [hsz3]⟩
noncomputable def St3(h base:Heap)(e C dx L:Addr):Prop:=Tr0 h e C dx\/Tr h base e C dx .none\/Tr h base e C dx (rawInt L)
theorem we(hfr:A.frames=some (env::outer))(hf:env.frame=some L)(hl:s.heap.FunFrames base (env::outer))(hkb:base.StaysIn s.heap)(hen:base.get? e=none)
 (ht:St3 s.heap base e C dx L)
 (h:∀ h',Hd base (env::outer) e C dx (rawInt L) h'->s.heap.UpToSlots h'->Q () { s with heap:=h' }):wpAny M A (noteFrame (.ref e) env) Q E s:=by
 rcases ht with q | q | q
 ·exact yA hfr hf hl hkb hen (.inl q) h
 ·exact yA hfr hf hl hkb hen (.inr q) h
 ·refine have hq:=h s.heap ⟨hkb,hen,hl,q⟩ (.refl _);?_
  obtain ⟨oe,vs,T,oT,ts,⟨he,hc,hdx,hd⟩,h1,hnT,hTe,hT,hdT,h3⟩:=q;unfold noteFrame;simp only [hf];refine Qd (wpAny_field he hd h1 ?_);rw [Ql (show (Value.ref T != Value.none)=true from by rfl)];refine Qd (wpAny_field hT hdT h3 ?_);rw [Ql (show (rawInt L == rawInt L)=true from by simp)];exact Qg hq
theorem AO(hf:env.frame=some L)(H:Hd base l e C dx fl s.heap)
 (h:∀ h',Hd base l e C dx (rawInt L) h'->s.heap.UpToSlots h'->Q (.ref e) { s with heap:=h' }):cameBackBy M A env Q (.ref e) s:=by
 refine byG λX_ g_=>?_;obtain ⟨hkb,hen,hl,oe,vs,T,oT,ts,⟨he,hc,hdx,hd⟩,h1,hnT,hTe,hT,hdT,h3⟩:=H;refine g_ ?_;refine have hsz3:3 < ts.size:=(Array.getElem?_eq_some_iff.mp h3).1;?_;have other:∀ b,b ≠ T->(s.heap.update T (Obj.mapFields (·.setIfInBounds 3 ((some L:Option Addr).elim Value.none λf=>rawInt f)))).get? b=s.heap.get? b:=
  λb hb=>Heap.get?_update_other _ _ (Ne.symm hb)
 have noRecord:∀ b o,s.heap.get? b=some o->(∀ vs,o.data ≠ .fields vs)->b ≠ T:=λb o hb hnf q=>by
  rw [q,hT] at hb;injection hb with hb;subst hb;exact hnf ts hdT
 unfold cameBackBy;refine Qd (wpAny_field he hd h1 ?_);rw [Qu (show ¬ ((Value.ref T == Value.none)=true) from by exact Qr)];rw [hf];show wpAny M A (setFlight (.ref e) (some L)) _ _ _;unfold setFlight;refine Qd (wpAny_field he hd h1 ?_);rw [Ql (show (Value.ref T != Value.none)=true from by rfl)]
 refine wpAny_setField hT hdT hsz3 (h _ ⟨λb o hbo=>(other b λq=>by rw [q,hnT] at hbo;exact nN hbo).trans (hkb b o hbo),hen,
  hl.of_keeps λb o hb hnf=>⟨o,(other b (noRecord b o hb hnf)).trans hb,rfl⟩,?_⟩ λb o hb hnf=>⟨o.slots,(other b (noRecord b o hb hnf)).trans hb⟩)
 exact ⟨oe,vs,T,_,_,⟨(other e (Ne.symm hTe)).trans he,hc,hdx,hd⟩,h1,hnT,hTe,Heap.get?_update_self _ hT (Obj.isFreed_of_fields (Obj.data_mapFields hdT _)),Obj.data_mapFields hdT _,by simp [hsz3]⟩
theorem yB(hfr:A.frames=some (env::outer))(hf:env.frame=some L)(hl:s.heap.FunFrames base (env::outer))(hkb:base.StaysIn s.heap)(hen:base.get? e=none)
 (ht:St3 s.heap base e C dx L)
 (h:∀ h',Hd base outer e C dx .none h'->s.heap.UpToSlots h'->Q () { s with heap:=h' }):wpAny M A (leaving env (.ref e)) Q E s:=by
 unfold leaving;refine Qd (we hfr hf hl hkb hen ht λh1 H1 u1=>?_);refine wc H1 λh2 H2 u2=>?_;exact h h2 ⟨H2.st,H2.new,H2.fr.2.2,H2.tr⟩ (u1.trans u2)
end
theorem ak(h:isStar e=false)(es:List Expr)(env:Env):starEach (e::es) env=(false,eval e env)::starEach es env:=by
 cases e<;>first | rfl | exact nT h
structure InitX(h:Heap)(fI:Addr):Prop where
 ex:∃ oI fd p1 p2 p3 p4,h.get? fI=some oI/\oI.cls = .type "function" /\ oI.data = .func fd/\h.CodeRec fd.code fd.qualname/\fd.body = .stmts [.Assign [.Attribute (.Name "self" p1) "at" p2] (.Name "at" p3) p4] /\
  (∀ a b,bindArgs fd ⟨[a,b],[]⟩=pure [(("self" : Str),a),(("at" : Str),b)])/\(∀ x ∈ fd.scope.names,x.2 ≠ .cell)/\fd.scope.names.lookup ("self" : Str)=some .local/\fd.scope.names.lookup ("at" : Str)=some .local /\
  fd.scope.isCoroutine=false/\fd.scope.isGenerator=false/\fd.scope.kind = .function
theorem InitX.keeps(I:InitX h fI)(hk:∀ b o,h.get? b=some o->h'.get? b=some o):InitX h' fI:=by
 obtain ⟨oI,fd,p1,p2,p3,p4,h1,h2,h3,h4,r⟩:=I.ex;exact ⟨⟨oI,fd,p1,p2,p3,p4,hk _ _ h1,h2,h3,h4.keeps hk,r⟩⟩
structure MadeX(h h':Heap)(e C dx:Addr)(v:Value):Prop where
 keeps:∀ b o,h.get? b=some o->h'.get? b=some o
 new:h.get? e=none
 newd:h.get? dx=none
 ob:∃ t0,h'.get? e=some { cls:=.ref C,dict:=some dx,data:=.fields #[.ref t0,.none,.none,.none,.bool false,.none] }
 ns:h'.Ns dx (atM v)
section
variable {prog:Program}{w:World}{A:Around}{E:Value->Shared->Prop}{h:Heap}{g:Array GenState}{d:Drawn}{t:Nat}{os:OsState}{C fI:Addr}{bm:List Value}{v:Value}
theorem rX(F:ExcBaseFacts "ValueError" "ValueError.__new__" initId bmV)(O:OwnX h C bm fI)(I:InitX h fI)(hlim:h.NoLimit)(hroom:A.depth+1 < recursionLimit) 
 (hq:∀ h' tk' e dx,MadeX h h' e C dx v->Q (.ref e) ⟨h',g,d,tk',os⟩):wpAny (model prog w) A (call (.ref C) [v]) Q E ⟨h,g,d,t,os⟩:=by
 refine byG λX_ g_=>?_;obtain ⟨nm,q,N,bs,sn,sub,ab,col,dd,k0,k1,k2,k3,k5,hC⟩:=O.obj;obtain ⟨oI,fd,p1,p2,p3,p4,h1,h2,h3,h4,h5,h6,h7,h8,h9,h10,h11,h12⟩:=I.ex;refine g_ ?_;refine rQ F O.typ hC (λA' h' g d t os Q' E' hk hq=>O.ini _ _ _ _ _ _ _ _ _ hk hq) h1 h2 (λh' e hm=>?_) (show 1<=sizeLine by decide);refine have kk:=hm.keeps;?_;refine byG λX_ g_=>?_;obtain ⟨t0,he,ht0,_⟩:=hm.there;refine g_ ?_;refine wpAny_call (codeAny_call_def (fd:=fd) (binds:=[("self",.ref e),("at",v)]) ?_ (kk _ _ h1) h3 (hlim.keeps kk) (h4.keeps kk) h5 (.of_eq (h6 _ _)) h7 (λx hx=>?_) (λh₀ hns hk₀=>?_) h10 h11 h12)
 ·exact hroom
 ·rcases Qw hx with rfl | hx
  ·exact h8
  ·rcases Qw hx with rfl | hx
   ·exact h9
   ·exact (YJ hx).elim
 ·refine Yg (plainObj_wpAny_Assign_Attribute ?_)
  refine wpAny_Name (wpAny_loadName_local (v:=v) h12 h9 hns (by rfl) ?_) (by decide);refine wpAny_Name (wpAny_loadName_local (v:=.ref e) h12 h8 hns (by rfl) ?_) (by decide);refine rT (O.keeps λb o e=>hk₀ _ _ (kk _ _ e)) (hk₀ _ _ he) rfl rfl rfl λh2 tk2 a b c=>?_;refine Yp ?_;refine ⟨rfl,hq h2 tk2 e _ ⟨λb o q=>c b o (λz=>?_) (hk₀ _ _ (kk _ _ q)),hm.new,?_,⟨t0,a⟩,b.ns⟩⟩
  ·rw [z,hm.new] at q;exact nN q
  ·induction z:h.get? h₀.objs.size with
   | none=>rfl
   | some o=>exact absurd (Q3 (hk₀ _ _ (kk _ _ z))) (YV _)
theorem mG(hh:A.handled=none)
 (h:wpAny M A x (λu s₁=>∃ e dx t,u = .ref e/\OwnX s₁.heap C bm fI/\s₁.heap.get? e=some { cls:=.ref C,dict:=some dx,data:=.fields #[.ref t,.none,.none,.none,.bool false,.none] }/\E (.ref e) s₁) E s) :
 wpAny M A (raiseStmt env (some x) none) Q E s:=by
 unfold raiseStmt;refine Qd (Qs h (λv s₁ h₁=>?_) λo_ Z x=>x);refine byG λX_ g_=>?_;obtain ⟨e,dx,t,rfl,O,he,hE⟩:=h₁;obtain ⟨hp,g,d,tk,os⟩:=s₁;obtain ⟨nm,q,N,bs,sn,sub,ab,col,dd,k0,k1,k2,k3,k5,hC⟩:=O.obj;refine g_ ?_
 repeat (first | with_reducible refine wpAny_loadPart_at he ?_ | with_reducible refine wpAny_loadPart_at hC ?_ | (with_reducible refine bT O ?_;rw [show bmV.contains (.type "BaseException")=true by decide]) | wp_step)
 exact wpAny_raiseNew_none hh hE
theorem oF(F:ExcBaseFacts "ValueError" "ValueError.__new__" initId bmV)(hroom:A.depth+1 < recursionLimit)(hst:isStar arg=false)
 (h:wpAny (model prog w) A (eval (.Name x np) env) (λf s₁=>f = .ref C/\wpAny (model prog w) A (eval arg env)
  (λv s₂=>OwnX s₂.heap C bm fI/\InitX s₂.heap fI/\s₂.heap.NoLimit/\∀ h' tk e dx,MadeX s₂.heap h' e C dx v->Q (.ref e) { s₂ with heap:=h',toks:=tk }) E s₁) E s) :
 wpAny (model prog w) A (eval (.Call (.Name x np) [arg] [] cpos) env) Q E s:=by
 refine ZH (Qs h (λf s₁ h₁=>?_) λo_ Z x=>x);obtain ⟨rfl,h₁⟩:=h₁;have hargs:wpAny (model prog w) A (spliced (backTo cpos (starEach [arg] env))) (λvs s₂=>∃ v,vs=[v]/\OwnX s₂.heap C bm fI/\InitX s₂.heap fI/\s₂.heap.NoLimit/\∀ h' tk e dx,MadeX s₂.heap h' e C dx v->Q (.ref e) { s₂ with heap:=h',toks:=tk }) E s₁:=
  Zv (Qs h₁ (λv s₂ h₂=>ZN ⟨v,rfl,h₂⟩) λo_ Z x=>x) (ak hst [] env)
 rw [ak hst] at hargs ⊢;unfold callWith;refine Qd (Zl (Calls.evalArgs_plain (Qs hargs (λvs s₂ h₂=>?_) λo_ Z x=>x)));refine byG λX_ g_=>?_;obtain ⟨v,rfl,O,I,hl,hq⟩:=h₂;obtain ⟨hp,g,d,tk,os⟩:=s₂;obtain ⟨nm,q,N,bs,sn,sub,ab,col,dd,k0,k1,k2,k3,k5,hC⟩:=O.obj;refine g_ ?_;refine Qd (Yx ?_);refine Qd (wpAny_keeperOf_exc hC ?_);exact Qd (rX F O I hl hroom λh' tk' e dx m=>Qd (Zl (wpAny_point (Qg (hq h' tk' e dx m)))))
theorem oH(F:ExcBaseFacts "ValueError" "ValueError.__new__" initId bmV)(hh:A.handled=none)(hroom:A.depth+1 < recursionLimit)(hst:isStar arg=false)
 (h:wpAny (model prog w) A (eval (.Name x np) env) (λf s₁=>f = .ref C/\wpAny (model prog w) A (eval arg env)
  (λv s₂=>OwnX s₂.heap C bm fI/\InitX s₂.heap fI/\s₂.heap.NoLimit/\∀ h' tk e dx,MadeX s₂.heap h' e C dx v->E (.ref e) { s₂ with heap:=h',toks:=tk }) E s₁) E s) :
 wpAny (model prog w) A (exec (.Raise (some (.Call (.Name x np) [arg] [] cpos)) none pos) env) Q E s:=by
 rw [arm_exec_Raise];refine Qd (Yx (mG (C:=C) (bm:=bm) (fI:=fI) hh ?_));refine Qd (oF (C:=C) (bm:=bm) (fI:=fI) F hroom hst (Qs h (λf s₁ h₁=>⟨h₁.1,Qs h₁.2 (λv s₂ h₂=>?_) λo_ Z x=>x⟩) λo_ Z x=>x));refine byG λX_ g_=>?_;have O:=h₂.1;have I:=h₂.2.1;have hl:=h₂.2.2.1;have hq:=h₂.2.2.2;refine g_ ?_;refine ⟨O,I,hl,λh' tk e dx m=>Qd (Yx (Qg ?_))⟩;obtain ⟨t0,he⟩:=m.ob;exact ⟨e,dx,t0,rfl,O.keeps m.keeps,he,hq h' tk e dx m⟩
end
section
variable {prog:Program}{w:World}{A:Around}{E:Value->Shared->Prop}{h:Heap}{g:Array GenState}{d:Drawn}{t:Nat}{os:OsState}{C fI x:Addr}{bm:List Value}{o:Obj}{vs:Array Value}
theorem oJ(O:OwnX h C bm fI)(hx:h.get? x=some o)(hc:o.cls = .ref C)(hq:R (.ok (.ret (.ref C))) ⟨h,g,d,t,os⟩) :
 codeAny (model prog w) A (.call (.builtin "getset_descriptor.__get__") ⟨[.builtin "object.__class__",.ref x,.ref C],[]⟩) R ⟨h,g,d,t,os⟩:=by
 refine have hT5:(⟨h,g,d,t,os⟩:Shared).TypeIs (.builtin "object.__class__") "getset_descriptor" := F.typeOf_object_class;?_;refine codeAny_call_builtin F.slot_gs_get.plain F.entry_gs_get (F.slot_gs_get.check _ _ _ _ _ _ _ _ hT5 (F.args_gs_get _ _ _) ?_)
 repeat (any_goals (first | assumption | (with_reducible refine wpAny_loadPart_at hx ?_;rw [hc]) | (with_reducible refine bT O ?_;rw [F.owner_object_class,show bmV.contains (.type "object")=true by decide]) | wp_step))
 refine ⟨Code.quiet_builtin _ (by decide +kernel),codeAny_builtin F.entry_object_class ?_⟩
 repeat (any_goals (first | assumption | (with_reducible refine wpAny_loadPart_at hx ?_;rw [hc]) | wp_step))
theorem oK(O:OwnX h C bm fI)(hx:h.get? x=some o)(hc:o.cls = .ref C)(hq:Q (.done (.ret (.ref C))) ⟨h,g,d,t,os⟩) :
 wpAny (model prog w) A (Builtin.«object.__getattribute__» ⟨[.ref x,.str "__class__" tk],[]⟩) Q E ⟨h,g,d,t,os⟩:=by
 refine have hT5:(⟨h,g,d,t,os⟩:Shared).TypeIs (.builtin "object.__class__") "getset_descriptor" := F.typeOf_object_class;?_;refine have f5:=F.typeOf_object_class;?_;refine have f6:=F.slot_gs_get.lookup;?_;refine have f7:=F.slot_gs_set.lookup;?_
 repeat (any_goals (first | assumption | (with_reducible refine wpAny_loadPart_at hx ?_;rw [hc]) | with_reducible refine O.cl.go ?_ | wp_step))
 refine oJ O hx hc ?_
 repeat (any_goals (first | assumption | wp_step))
theorem oM(O:OwnX h C bm fI)(hx:h.get? x=some o)(hc:o.cls = .ref C)(hq:R (.ok (.ret (.ref C))) ⟨h,g,d,t,os⟩) :
 codeAny (model prog w) A (.call (.builtin "BaseException.__getattribute__") ⟨[.ref x,.str "__class__" tk],[]⟩) R ⟨h,g,d,t,os⟩:=
 codeAny_call_builtin F.excAttr_ValueError.ga.plain F.entry_bexc_ga (ll O hx hc (oK O hx hc hq))
theorem rY(O:OwnX h C bm fI)(hx:h.get? x=some o)(hc:o.cls = .ref C)(hq:Q (.ref C) ⟨h,g,d,t,os⟩):wpAny (model prog w) A (getAttrBy (.ref x) (.str "__class__" tk) false) Q E ⟨h,g,d,t,os⟩:=by
 refine have f3:=F.excAttr_ValueError.ga.bind (.ref x);?_;refine have hx2:(Value.builtin "BaseException.__getattribute__" == Value.builtin "object.__getattribute__")=false:=(by decide +kernel);?_;refine have hx1:(onTheHeap (Value.ref C)&&Value.builtin "BaseException.__getattribute__" == Value.builtin "object.__getattribute__")=false:=(hx2);?_
 repeat (any_goals (first | assumption | (with_reducible refine wpAny_loadPart_at hx ?_;rw [hc]) | with_reducible refine O.ga.go ?_ | with_reducible refine O.gt.go ?_ | wp_step))
 refine oM O hx hc ?_
 repeat (any_goals (first | assumption | wp_step))
theorem oO(O:OwnX h C bm fI)(hx:h.get? x=some o)(hc:o.cls = .ref C)(hq:Q (some (.ref C)) ⟨h,g,d,t+1,os⟩):wpAny (model prog w) A (getAttr? (.ref x) "__class__") Q E ⟨h,g,d,t,os⟩:=by
 unfold getAttr? getAttrBy?
 repeat (any_goals (first | assumption | with_reducible apply rY O hx hc | wp_step))
theorem rZ{D:Addr}{dep:Int}{b:Bool}{Q:Fin->Shared->Prop}(O:OwnX h C bm fI)(OD:OwnX h D bmD fI)(hx:h.get? x=some o)(hc:o.cls = .ref C)(hb:(Value.ref C::bm).contains (.ref D)=b)(hq:∀ t',Q (.done (.ret (.bool b))) ⟨h,g,d,t',os⟩) :
 wpAny (model prog w) A (Builtin.«isinstance.nested» ⟨[.ref x,.ref D,.int dep tk],[]⟩) Q E ⟨h,g,d,t,os⟩:=by
 by_cases he:(Value.ref C == Value.ref D)=true
 ·refine have hb1:b=true:=(by rw [<- hb,List.contains_cons,BEq.comm,he];rfl);?_
  subst hb1;refine have hq0:=hq t;?_
  repeat (any_goals (first | assumption | (with_reducible refine wpAny_loadPart_at hx ?_;rw [hc]) | wp_step))
 ·refine have he:(Value.ref C == Value.ref D)=false:=(by simpa using he);?_
  refine byG λX_ g_=>?_;obtain ⟨nm,q,N,bs,sn,sub,ab,col,dd,k0,k1,k2,k3,k5,hC⟩:=O.obj;obtain ⟨nm',q',N',bs',sn',sub',ab',col',dd',k0',k1',k2',k3',k5',hD⟩:=OD.obj;refine g_ ?_;refine have hq0:=hq t;?_;refine have hq1:=hq (t+1);?_;unfold Builtin.«isinstance.nested»;induction b<;>repeat (any_goals (first | assumption | (with_reducible refine wpAny_loadPart_at hx ?_;rw [hc]) | with_reducible refine wpAny_loadPart_at hC ?_ | with_reducible refine wpAny_loadPart_at hD ?_ | with_reducible apply oO O hx hc | (with_reducible refine wpAny_isSubtype_exc hC ?_;rw [hb]) | wp_step))
theorem wg{D:Addr}{b:Bool}{Q:Value->Shared->Prop}(O:OwnX h C bm fI)(OD:OwnX h D bmD fI)(hx:h.get? x=some o)(hc:o.cls = .ref C)(hb:(Value.ref C::bm).contains (.ref D)=b)(hq:∀ t',Q (.bool b) ⟨h,g,d,t',os⟩) :
 wpAny (model prog w) A (call (.builtin "isinstance") [.ref x,.ref D]) Q E ⟨h,g,d,t,os⟩:=
 PyProof.Rows.call_isinstance_of (rZ O OD hx hc hb hq) (λe=>by exact Value.noConfusion e)
theorem wi(O:OwnX h C bm fI)(hx:h.get? x=some o)(hc:o.cls = .ref C)(hq:Q (.bool true) ⟨h,g,d,t,os⟩) :
 wpAny (model prog w) A (call (.builtin "isinstance") [.ref x,.type "ValueError"]) Q E ⟨h,g,d,t,os⟩:=by
 refine PyProof.Rows.call_isinstance_of ?_ (λe=>by exact Value.noConfusion e);refine byG λX_ g_=>?_;obtain ⟨nm,q,N,bs,sn,sub,ab,col,dd,k0,k1,k2,k3,k5,hC⟩:=O.obj;refine g_ ?_;refine have he:(Value.ref C == Value.type "ValueError")=false:=rfl;?_;refine have hty:typeOf (.type "ValueError")=pure (.type "type"):=(by kernel_rfl);?_;unfold Builtin.«isinstance.nested»
 repeat (any_goals (first | assumption | (with_reducible refine wpAny_loadPart_at hx ?_;rw [hc]) | (with_reducible refine bT O ?_;rw [show bmV.contains (.type "ValueError")=true by decide]) | wp_step))
end
def nm(ow:List Nat)(e:Ex):Bool:=!isOw ow e
def nmEs(ow:List Nat):Exs->Bool
 | .nil=>true
 | .cons e es=>nm ow e&&nmEs ow es
noncomputable def yC:D->Bool
 | .str x=>decide (x.length<=1000)&&PyData.strOk x
 | _=>true
mutual
noncomputable def okE(ow:List Nat):Ex->Bool
 | .k d=>noList d&&yC d
 | .v _=>true
 | .gc _=>true
 | .tup es=>okEs ow es&&nmEs ow es
 | .lst es=>okEs ow es&&nmEs ow es
 | .dic a b=>okEs ow a&&okEs ow b
 | .bin _ a b=>okE ow a&&okE ow b
 | .neg a=>okE ow a
 | .not a=>okE ow a
 | .bool _ es=>okEs ow es&&nmEs ow es
 | .cmp _ a b=>okE ow a&&okE ow b
 | .cmp2 _ _ a b c=>okE ow a&&okE ow b&&okE ow c
 | .idx a b=>okE ow a&&okE ow b
 | .sl a l h=>okE ow a&&okO ow l&&okO ow h
 | .call fr _ es=>okEs ow es&&(fr||nmEs ow es)
 | .b1 _ a=>okE ow a
 | .isi a _=>okE ow a
 | .index a b=>okE ow a&&okE ow b
 | .get a k d=>okE ow a&&okE ow k&&okE ow d
 | .mk _ a=>okE ow a
 | .att a=>okE ow a
 | .isc a _=>okE ow a
 | .comp e it c=>okE ow e&&nm ow e&&okIt ow it&&okO ow c
noncomputable def okEs(ow:List Nat):Exs->Bool
 | .nil=>true
 | .cons e es=>okE ow e&&okEs ow es
noncomputable def okO(ow:List Nat):Exo->Bool
 | .none=>true
 | .some e=>okE ow e
noncomputable def okIt(ow:List Nat):It->Bool
 | .plain e=>okE ow e
 | .range1 e=>okE ow e
 | .enum e=>okE ow e
end
theorem AP(ow:List Nat)(e:Ex):okO ow (Exo.some e)=okE ow e:=rfl
theorem yD(ow:List Nat)(e:Ex):okIt ow (It.plain e)=okE ow e:=rfl
theorem yE(ow:List Nat)(e:Ex):okIt ow (It.range1 e)=okE ow e:=rfl
theorem yF(ow:List Nat)(e:Ex):okIt ow (It.enum e)=okE ow e:=rfl
theorem AQ(ow:List Nat)(es:Exs):okE ow (.tup es)=(okEs ow es&&nmEs ow es):=rfl
theorem AR(ow:List Nat)(es:Exs):okE ow (.lst es)=(okEs ow es&&nmEs ow es):=rfl
theorem AS(ow:List Nat)(op:Operator)(a b:Ex):okE ow (.bin op a b)=(okE ow a&&okE ow b):=rfl
theorem AT(ow:List Nat)(a:Ex):okE ow (.neg a)=okE ow a:=rfl
theorem yG(ow:List Nat)(a:Ex):okE ow (.not a)=okE ow a:=rfl
theorem uA(ow:List Nat)(q:Bool)(es:Exs):okE ow (.bool q es)=(okEs ow es&&nmEs ow es):=rfl
theorem yH(ow:List Nat)(op:CmpOp)(a b:Ex):okE ow (.cmp op a b)=(okE ow a&&okE ow b):=rfl
theorem AU(ow:List Nat)(a b:Ex):okE ow (.idx a b)=(okE ow a&&okE ow b):=rfl
theorem o_sl(ow:List Nat)(a:Ex)(l h:Exo):okE ow (.sl a l h)=(okE ow a&&okO ow l&&okO ow h):=rfl
theorem yI(ow:List Nat)(fr:Bool)(f:Str)(es:Exs):okE ow (.call fr f es)=(okEs ow es&&(fr||nmEs ow es)):=rfl
theorem o_b1(ow:List Nat)(f:B1)(a:Ex):okE ow (.b1 f a)=okE ow a:=rfl
theorem AV(ow:List Nat)(a:Ex)(t:Ty):okE ow (.isi a t)=okE ow a:=rfl
theorem AW(ow:List Nat)(a k d:Ex):okE ow (.get a k d)=(okE ow a&&okE ow k&&okE ow d):=rfl
theorem AX(ow:List Nat)(a b:Exs):okE ow (.dic a b)=(okEs ow a&&okEs ow b):=rfl
theorem yJ(ow:List Nat)(e:Ex)(it:It)(c:Exo):okE ow (.comp e it c)=(okE ow e&&nm ow e&&okIt ow it&&okO ow c):=rfl
structure FR where
 params:Arguments
 body:List Stmt
 scope:Scope
noncomputable def biNames:List Str:=["len", "all", "any", "sum", "list", "tuple", "int", "isinstance", "str", "bool", "reversed", "range", "enumerate", "zip", "ValueError"]
structure Pk where
 prog:Program
 w:World
 H:D->Int
 mg:Str->Option Value
 mb:Str->Option Value
 Φ:Str->List D->Option D
 Γ:Str->Option D
 defs:Str->Option FR
 fr:Str->Option Bool
def Pk.lp(P:Pk):Bool:=(P.fr bang).isSome
noncomputable def uC(P:Pk):Prop:=(∀ x:Str,P.H (.str x)=hashStr P.w x)/\(∀ p:StK,P.H (stK p)=cq P.w p)/\∀ x ∈ exN,∀ C,P.mg x=some (.ref C)->P.H (.list [.str x])=(C:Int)
noncomputable def ClsOk(mg:Str->Option Value)(h:Heap):Prop:=∃ fI,InitX h fI/\∀ x ∈ exN,∃ C bm,mg x=some (.ref C)/\OwnX h C bm fI/\∀ y ∈ exN,∀ C',mg y=some (.ref C')->(Value.ref C::bm).contains (.ref C')=(x == y||y == "DeskError")
theorem ClsOk.keeps(O:ClsOk mg h)(hk:∀ b o,h.get? b=some o->h'.get? b=some o):ClsOk mg h':=
 O.imp λZ q=>⟨q.1.keeps hk,λx hx=>(q.2 x hx).imp λZ z=>z.imp λZ z=>⟨z.1,z.2.1.keeps hk,z.2.2⟩⟩
structure Pk.GP(P:Pk)(h:Heap):Prop where
 g:h.Ns mainGlobals P.mg
 b:h.Ns builtinsNs P.mb
 nolimit:h.NoLimit
 fn:∀ f r,P.defs f=some r->∃ a o pm code doc,P.mg f=some (.ref a)/\h.get? a=some o/\o.data = .func (Calls.docDef f r.params r.body r.scope pm code doc)/\h.CodeRec code f
 gc:∀ x d,P.Γ x=some d->noList d=true/\∃ v,P.mg x=some v/\Rd P.H h v d []
 bi:∀ x ∈ biNames,P.mg x=none
 bb:∀ x:Str,x ≠ "__name__" -> P.mb x=bootBuiltins x
 hs:uC P
 ex:ClsOk P.mg h
theorem Pk.GP.keeps{P:Pk}{h h':Heap}(g:P.GP h)(hk:∀ b o,h.get? b=some o->h'.get? b=some o):P.GP h' where
 g:=g.g.keeps hk
 b:=g.b.keeps hk
 nolimit:=g.nolimit.keeps hk
 fn:=λf r e=>by obtain ⟨a,o,pm,code,doc,h1,h2,h3,h4⟩:=g.fn f r e;exact ⟨a,o,pm,code,doc,h1,hk _ _ h2,h3,h4.keeps hk⟩
 gc:=λx d e=>⟨(g.gc x d e).1,(g.gc x d e).2.imp λv h=>⟨h.1,h.2.keeps hk⟩⟩
 bi:=g.bi
 bb:=g.bb
 hs:=g.hs
 ex:=g.ex.keeps hk
structure Room(b:Bool)(A:Around)(r:Nat):Prop where
 hd:b=true->A.handled=none
 depth:A.depth+r+60 < recursionLimit
 units:A.units+4 * r+300 < cLine
noncomputable def VarAt(env:Env)(h:Heap)(x:Str)(v:Value):Prop:=
 (env.kindOf x=some .local/\∃ mm,h.Ns env.locals mm/\mm x=some v)\/(env.kindOf x=some .cell/\∃ c,env.cells.lookup x=some c/\h.IsCell c (some v))
structure EnvR(H:D->Int)(c:TC)(env:Env)(ow:List Nat)(own:Nat->Addr)(G:Addr->Prop)(h:Heap)(m:St):Prop where
 fn:env.scope.kind = .function
 gl:env.globals=mainGlobals
 bu:env.builtins=builtinsNs
 kd:∀ x,env.kindOf x=c.kind x
 len:m.length=c.names.length
 owlt:∀ i,ow.contains i=true->i < m.length
 cel:∀ x,env.kindOf x=some .cell->∃ a,env.cells.lookup x=some a
 var:∀ x i d,slotOf c.names x=some i->m[i]?=some (some d)->(c.kind x=some .local\/c.kind x=some .cell) ->
  ∃ v as,VarAt env h x v/\Rd H h v d as/\(ow.contains i=true->flat d=true/\∀ a ∈ as,a=own i)/\(ow.contains i=false->∀ a ∈ as,G a)
theorem VarAt.keeps(q:VarAt env h x v)(hk:∀ b o,h.get? b=some o->h'.get? b=some o):VarAt env h' x v:=
 q.imp (λ⟨a,mm,b,c⟩=>⟨a,mm,b.keeps hk,c⟩) λ⟨a,cc,b,c⟩=>⟨a,cc,b,c.keeps hk⟩
theorem EnvR.keeps(R:EnvR H c env ow own G h m)
 (hk:∀ b o,h.get? b=some o->h'.get? b=some o):EnvR H c env ow own G h' m where
 fn:=R.fn
 gl:=R.gl
 bu:=R.bu
 kd:=R.kd
 len:=R.len
 owlt:=R.owlt
 cel:=R.cel
 var:=λx i d h1 h2 h3=>(R.var x i d h1 h2 h3).imp λv q=>q.imp λas q=>⟨q.1.keeps hk,q.2.1.keeps hk,q.2.2⟩
noncomputable def Kp(s s':Shared):Prop:=PySem.Keeps s s'
theorem Kp.refl(s:Shared):Kp s s:=⟨s.heap,s.toks,rfl,λZ Z e=>e⟩
theorem Kp.trans(h:Kp a b)(k:Kp b c):Kp a c:=by
 obtain ⟨h1,t1,rfl,k1⟩:=h;obtain ⟨h2,t2,rfl,k2⟩:=k;exact ⟨h2,t2,rfl,λb o e=>k2 b o (k1 b o e)⟩
theorem Kp.get(h:Kp a b):∀ x o,a.heap.get? x=some o->b.heap.get? x=some o:=by
 refine byG λX_ g_=>?_;obtain ⟨h1,t1,rfl,k1⟩:=h;refine g_ ?_;exact k1
theorem Kp.none(h:Kp a b)(e:b.heap.get? x=none):a.heap.get? x=none:=by
 induction q:a.heap.get? x with
 | none=>rfl
 | some o=>exact nS ((h.get x o q).symm.trans e)
theorem Kp.toks(s:Shared)(t:Nat):Kp s { s with toks:=t }:=⟨s.heap,t,rfl,λZ Z e=>e⟩
theorem Kp.heap(s:Shared)(h:Heap)(hk:∀ b o,s.heap.get? b=some o->h.get? b=some o):Kp s { s with heap:=h }:=⟨h,s.toks,rfl,hk⟩
theorem Kp.push(s:Shared)(o:Obj):Kp s { s with heap:=s.heap.push o }:=⟨_,s.toks,rfl,λZ Z e=>Qi _ e⟩
noncomputable def ownA(own:Nat->Addr):Ex->Addr
 | .v i=>own i
 | _=>0
noncomputable def PostE(P:Pk)(ow:List Nat)(own:Nat->Addr)(G:Addr->Prop)(e':Ex)(d:D)(s:Shared)(v:Value)(s':Shared):Prop:=
 Kp s s'/\∃ as,Rd P.H s'.heap v d as/\(isOw ow e'=false->∀ a ∈ as,G a)/\(isOw ow e'=true->flat d=true) /\
  (frE e'=true->flat d=true->∀ a ∈ as,s.heap.get? a=none)/\(isOw ow e'=true->∀ a ∈ as,a=ownA own e')
noncomputable def Pk.SE(P:Pk)(r:Nat)(c:TC)(e:Expr)(e':Ex):Prop:=
 ∀ (A:Around) (env:Env) (s:Shared) (m:St) (ow:List Nat) (own:Nat->Addr) (G:Addr->Prop) (d:D),Room P.lp A r->P.GP s.heap ->
  EnvR P.H c env ow own G s.heap m->(∀ a,s.heap.get? a=none->G a)->okE ow e'=true->evE P.Φ P.Γ e' m=some d ->
  wpAny (model P.prog P.w) A (eval e env) (PostE P ow own G e' d s) (λZ Z=>False) s
noncomputable def Pk.ST(P:Pk)(r:Nat)(c:TC)(e:Expr)(e':Ex):Prop:=
 ∀ (A:Around) (env:Env) (s:Shared) (m:St) (ow:List Nat) (own:Nat->Addr) (G:Addr->Prop) (d:D) (b:Bool),Room P.lp A r->P.GP s.heap ->
  EnvR P.H c env ow own G s.heap m->(∀ a,s.heap.get? a=none->G a)->okE ow e'=true->evE P.Φ P.Γ e' m=some d->truth d=some b ->
  wpAny (model P.prog P.w) A (isTrue e env (eval e env)) (λb' s'=>b'=b/\Kp s s') (λZ Z=>False) s
noncomputable def Pk.FnOk(P:Pk)(r:Nat):Prop:=
 ∀ f fr,P.fr f=some fr->∀ (A:Around) (s:Shared) (vs:List Value) (ds:List D) (as:List Addr) (d:D),Room P.lp A r->P.GP s.heap->RdAll P.H s.heap vs ds as->P.Φ f ds=some d ->
  ∃ a o fd,P.mg f=some (.ref a)/\s.heap.get? a=some o/\o.data = .func fd/\wpAny (model P.prog P.w) A (call (.ref a) vs)
   (λv s'=>Kp s s'/\∃ bs,Rd P.H s'.heap v d bs/\(∀ x ∈ bs,s.heap.get? x=none\/x ∈ as)/\(fr=true->∀ x ∈ bs,s.heap.get? x=none)) (λZ Z=>False) s
structure OutX(P:Pk)(base:Heap)(outer:List Env)(s:Shared)(x:D)(v:Value)(s':Shared):Prop where
 ex:∃ cls n e C dx tk,x=xD cls n/\cls ∈ exN/\v = .ref e/\P.mg cls=some (.ref C)/\Hd base outer e C dx .none s'.heap/\s'.heap.Ns dx (atM (.int n tk))/\s.heap.get? e=none/\s.heap.get? dx=none
 up:s.heap.UpToSlots s'.heap
 sh:∃ h' t',s'={ s with heap:=h',toks:=t' }
noncomputable def Pk.FnX(P:Pk)(r:Nat):Prop:=
 ∀ f fr,P.fr f=some fr->∀ (A:Around) (s:Shared) (vs:List Value) (ds:List D) (as:List Addr) (x:D) (base:Heap) (outer:List Env),Room P.lp A r->P.GP s.heap->RdAll P.H s.heap vs ds as->P.Φ (exn f) ds=some x->PyProof.Rows.Below A base outer s.heap ->
  ∃ a o fd,P.mg f=some (.ref a)/\s.heap.get? a=some o/\o.data = .func fd/\wpAny (model P.prog P.w) A (call (.ref a) vs) (λZ Z=>False) (OutX P base outer s x) s
section
variable {P:Pk}{r:Nat}{c:TC}
theorem PostE.flat0(k:Kp s s')(rd:Rd P.H s'.heap v d as)(hn:noList d=true)(hi:isOw ow e'=false):PostE P ow own G e' d s v s':=by
 have e:=rd.noAddr hn;subst e;exact ⟨k,[],rd,λZ Z q=>((YJ q).elim),λq=>(by exact nF (hi.symm.trans q)),λZ Z Z q=>((YJ q).elim),λZ Z q=>((YJ q).elim)⟩
theorem da(hk:trK k=some d):P.SE r c (.Constant k kk pos) (.k d):=by
 intro A env s m ow own G d' hA hg R hG hok hev;simp only [x_k,Qc] at hev;subst hev;rw [eval_Constant];induction k<;>first | (cases hk;done) | obtain rfl:=Qv hk
 ·exact Qg (PostE.flat0 (Kp.refl s) .none rfl rfl)
 ·exact Qg (PostE.flat0 (Kp.refl s) (.bool _) rfl rfl)
 ·exact wpAny_mkInt (PostE.flat0 (Kp.toks s _) (.int _ _) rfl rfl)
 ·exact wpAny_mkText (PostE.flat0 (Kp.toks s _) (.str _ _ (QQ (Qp (Qz (Qz hok).2).1) (by decide)) (Qz (Qz hok).2).2) rfl rfl)
theorem fh{x:Str}(hx:x ≠ ("__debug__" : Str))(hk:c.kind x=some .local\/c.kind x=some .cell)(hs:slotOf c.names x=some i):P.SE r c (.Name x pos) (.v i):=by
 intro A env s m ow own G d hA hg R hG hok hev;have hm:m[i]?=some (some d):=by
  simp only [x_v] at hev;induction q:m[i]? with
  | none=>exact nN (q ▸ hev)
  | some y=>rw [q] at hev;simp only [bX] at hev;rw [hev]
 refine byG λX_ g_=>?_;obtain ⟨v,as,hv,rd,h1,h2⟩:=R.var x i d hs hm hk;refine g_ ?_;have post:PostE P ow own G (.v i) d s v s:=⟨Kp.refl s,as,rd,λq=>h2 q,λq=>(h1 q).1,λq=>(by exact nF q),λq=>(h1 q).2⟩
 refine wpAny_Name ?_ (by simpa using hx);rcases hv with ⟨hl,mm,hn,hv⟩ | ⟨hl,cc,hc,hv⟩
 ·exact wpAny_loadName_local R.fn hl hn hv post
 ·exact wpAny_loadName_cell R.fn hl hc hv post
theorem AY{x:Str}(hx:x ≠ ("__debug__" : Str))(hk:c.kind x=some .globalImplicit):P.SE r c (.Name x pos) (.gc x):=by
 intro A env s m ow own G d hA hg R hG hok hev;simp only [x_gc] at hev;refine byG λX_ g_=>?_;obtain ⟨hn,v,hv,rd⟩:=hg.gc x d hev;refine g_ ?_;exact YF R.fn ((R.kd x).trans hk) (Calls.loadGlobal_global (by exact R.gl ▸ hg.g) hv (PostE.flat0 (Kp.refl s) rd hn rfl)) (by simpa using hx)
end
section
variable {H:D->Int}{prog:Program}{w:World}
inductive KvR (H:D->Int):List (Str × Value)->List (D × D)->Prop
 | nil:KvR H [] []
 | cons {x:Str} {v:Value} {d:D} {l:List (Str × Value)} {r:List (D × D)}:x.length<=sizeLine->PyData.strOk x=true->isScalar d=true->(∀ h:Heap,Rd H h v d [])->KvR H l r->KvR H ((x,v)::l) ((.str x,d)::r)
theorem gf(x:Str):strK (.str x)=some x:=rfl
theorem Rd.scal{h:Heap}{v:Value}{d:D}{as:List Addr}(r:Rd H h v d as)(hs:isScalar d=true):as=[]/\∀ h':Heap,Rd H h' v d []:=by
 induction r using Rd.casesOn<;>first
  | (cases hs;done)
  | exact ⟨rfl,λo_=>.none⟩
  | exact ⟨rfl,λo_=>.bool _⟩
  | exact ⟨rfl,λo_=>.int _ _⟩
  | exact ⟨rfl,λo_=>.str _ _ (by assumption) (by assumption)⟩
theorem AZ(hH:∀ x:Str,H (.str x)=hashStr w x){h:Heap}:∀ (kvs:List (D × D)) (es:List DictEntry) (ks:List Str),RdKv H h es kvs->gR kvs=some ks->(kvs.all λp=>isScalar p.2)=true ->
 ∃ l,Pairs (strKind prog w) es l/\KvR H l kvs/\l.map (·.1)=ks/\∀ e ∈ es,∃ k,(strKind prog w).is k e.key=true/\e.hash=(strKind prog w).hash k:=by
 intro kvs;induction kvs with
 | nil=>
  intro es ks r hk _;cases r;obtain rfl:=Qv hk;exact ⟨[],.nil,.nil,rfl,λe he=>(YJ he).elim⟩
 | cons p kvs ih=>
  intro es ks r hk hs;obtain ⟨k,d⟩:=p;cases r with
  | @cons e es _ _ _ r1 r2 r3 r4=>
   refine aa hk λx e1 hk2=>?_;clear hk;obtain ⟨xs,e2,rfl⟩:=ad hk2;rw [List.all_cons,Qj] at hs;have hkx:k = .str x:=by cases k<;>first | (cases e1;done) | (obtain rfl:=Qv e1;rfl)
   subst hkx;obtain ⟨l,h1,h2,h3,h4⟩:=ih es xs r4 e2 hs.2;generalize hkey:e.key=kv at r1;cases r1 using Rd.strE with
   | mk t hz ho=>
    have his:(strKind prog w).is x e.key=true:=by rw [hkey];simp [strKind,Value.isStrOf]
    refine ⟨(x,e.val)::l,.cons his rfl h1,.cons hz ho hs.1 (r2.scal hs.1).2 h2,by rw [QX,h3],λe' he'=>?_⟩;rcases Qw he' with q | q
    ·subst q;exact ⟨x,his,by rw [r3,hH];rfl⟩
    ·exact h4 e' q
theorem wj(hH:∀ x:Str,H (.str x)=hashStr w x){h:Heap}:∀ {es:List DictEntry} {l:List (Str × Value)} {kvs:List (D × D)},Pairs (strKind prog w) es l->(∀ e ∈ es,∃ k,(strKind prog w).is k e.key=true/\e.hash=(strKind prog w).hash k)->KvR H l kvs->RdKv H h es kvs:=by
 intro es l kvs hp;induction hp generalizing kvs with
 | nil=>intro _ k;cases k;exact .nil
 | @cons e kv es l h1 h2 h3 ih=>
  intro hk k;obtain ⟨x,v⟩:=kv;cases k with
  | @cons _ _ d _ r hz ho hs rv kr=>
   obtain ⟨t,ht⟩:=Value.isStrOf_shape (show Value.isStrOf x e.key=true from h1);obtain ⟨k',hk1,hk2⟩:=hk e (.head _);have:k'=x:=Value.isStrOf_inj e.key k' x hk1 h1;clear hk1 hs h1 h3;subst this;refine .cons (by exact ht ▸ .str _ t hz ho) (by exact h2 ▸ rv h) (by rw [hk2,hH];rfl) (ih (λe' he'=>hk e' (.tail _ he')) kr)
theorem KvR.has{l:List (Str × Value)}{kvs:List (D × D)}(k:KvR H l kvs)(x:Str):(l.any λkv=>decide (kv.1=x))=dHas x kvs:=by
 induction k with
 | nil=>rfl
 | @cons y v d l r _ _ _ _ _ ih=>
  unfold dHas at ih ⊢;rw [Yk,Yk,ih];congr 1
theorem KvR.app{l m:List (Str × Value)}{kvs r:List (D × D)}(k:KvR H l kvs)(q:KvR H m r):KvR H (l++m) (kvs++r):=by
 induction k with
 | nil=>exact q
 | cons a b c d _ ih=>exact .cons a b c d ih
set_option tactic.hygienic true in
theorem KvR.put{l:List (Str × Value)}{kvs:List (D × D)}(k:KvR H l kvs){x:Str}{v:Value}{d:D}(hz:x.length<=sizeLine)(ho:PyData.strOk x=true)(hs:isScalar d=true)(rv:∀ h:Heap,Rd H h v d []):KvR H (stored l x v) (dPut x d kvs):=by
 unfold stored dPut;have hh:=k.has x;have hb:(l.any λkv=>decide (kv.1=x))=l.any (λkv=>kv.1=x):=rfl;rw [<- hh];split
 ·clear hh hb
  induction k with
  | nil=>exact .nil
  | @cons y u e l r a b c dd kk ih=>
   rw [QX,QX];have hi:KvR H (l.map λkv=>if kv.1=x then (kv.1,v) else kv) (r.map λp=>if strK p.1 == some x then (p.1,d) else p):=by
    clear ih;rename_i hany;clear hany;induction kk with
    | nil=>exact .nil
    | @cons y u e l r a b c dd kk ih=>
     rw [QX,QX]
     by_cases h:y=x
     ·simp only [h,gf,Zh,if_true];exact .cons (h ▸ a) (h ▸ b) hs rv ih
     ·have:(some y == some x)=false:=by simpa using h
      simp only [h,gf,this,if_false,QD];exact .cons a b c dd ih
   by_cases h:y=x
   ·simp only [h,gf,Zh,if_true];exact .cons (h ▸ a) (h ▸ b) hs rv hi
   ·have:(some y == some x)=false:=by simpa using h
    simp only [h,gf,this,if_false,QD];exact .cons a b c dd hi
 ·exact k.app (.cons hz ho hs rv .nil)
theorem KvR.len{l:List (Str × Value)}{kvs:List (D × D)}(k:KvR H l kvs):l.length=kvs.length:=by
 induction k with
 | nil=>rfl
 | cons _ _ _ _ _ ih=>simp [ih]
theorem oP(hH:∀ x:Str,H (.str x)=hashStr w x){h:Heap}{v:Value}{kvs:List (D × D)}{as:List Addr}(r:Rd H h v (.dict kvs) as)(ok:dictOk kvs=true):∃ a l,v = .ref a/\as=[a]/\a ≠ sysModules/\h.DictOf (strKind prog w) a l/\KvR H l kvs:=by
 cases r with
 | exc=>exact nF ok
 | @dict a es n _ h0 h1 h2=>
  unfold dictOk at ok;rw [Qj] at ok;induction hk:gR kvs with
  | none=>rw [hk] at ok;cases ok.1
  | some ks=>
   rw [hk] at ok;refine byG λX_ g_=>?_;obtain ⟨l,q1,q2,q3,q4⟩:=AZ (prog:=prog) hH kvs es.toList ks h2 hk ok.2;refine g_ ?_;exact ⟨a,l,rfl,rfl,h0,⟨_,es,n,h1,⟨rfl,rfl,rfl⟩,rfl,λe he=>q4 e (Array.mem_def.mp he),q1,by rw [q3];simpa using ok.1⟩,q2⟩
theorem lm(hH:∀ x:Str,H (.str x)=hashStr w x){h:Heap}{a:Addr}{l:List (Str × Value)}{kvs:List (D × D)}(hd:h.DictOf (strKind prog w) a l)(k:KvR H l kvs)(h0:a ≠ sysModules):∃ es n,h.get? a=some (dictObj es n)/\Rd H h (.ref a) (.dict kvs) [a]:=by
 refine byG λX_ g_=>?_;obtain ⟨⟨cls,di,data,sl⟩,es,ep,ho,⟨c1,c2,c3⟩,hdat,hk,hp,_⟩:=hd;refine g_ ?_;simp only at c1 c2 c3 hdat;subst c1 c2 c3 hdat;exact ⟨es,ep,ho,.dict h0 ho (wj hH hp (λe he=>hk e (Array.mem_def.mpr he)) k)⟩
theorem wk{l:List (Str × Value)}{kvs:List (D × D)}(k:KvR H l kvs):flat (.dict kvs)=true:=by
 show eh kvs=true;induction k with
 | nil=>rfl
 | @cons x v d l r _ _ c _ _ ih=>
  have:noList d=true:=by induction d using dc<;>first | rfl | exact nF c
  show (noList (.str x)&&noList d&&eh r)=true;rw [ih,this];rfl
theorem fi{l:List (Str × Value)}{kvs:List (D × D)}(k:KvR H l kvs)(x:Str):(valueAt l x).isSome=dHas x kvs:=by
 rw [<- k.has x];unfold valueAt;rw [Option.isSome_map];rw [ZZ,List.find?_isSome,Q2]
end
theorem aL(h:Heap):h.get? h.objs.size=none:=by
 induction q:h.get? h.objs.size with
 | none=>rfl
 | some o=>exact absurd (Q3 q) (YV _)
theorem db{α:Type}(xs:List α):∀ n,(repL xs n).length=n * xs.length
 | 0=>by simp [uv]
 | n+1=>by rw [iF,QW,db xs n,Nat.succ_mul,Nat.add_comm]
theorem oQ{α:Type}(a:Array α):∀ (n:Nat) (b:Array α),(List.replicate n a).foldl (·++·) b=b++(repL a.toList n).toArray:=by
 intro n;induction n with
 | zero=>
  intro b;rfl
 | succ n ih_=>
  intro b;rw [List.replicate_succ,Yu,ih_,iF,Array.append_assoc];congr 1
  apply Array.ext';simp
theorem iL{α:Type}(a:Array α)(n:Nat):(List.replicate n a).foldl (·++·) #[]=(repL a.toList n).toArray:=by rw [oQ];simp
theorem oR(x:Str)(n:Int):PySem.Txt.mul x n=strMul x n.toNat:=by
 unfold PySem.Txt.mul strMul
 by_cases h1:n < 1
 ·rw [Ql h1]
  have:n.toNat=0:=Int.toNat_eq_zero.mpr (Int.le_of_lt_add_one h1);exact this ▸ rfl
 ·rw [Qu h1]
  by_cases h2:n=1
  ·clear h1;subst h2
   have:(1:Int).toNat=1:=rfl;simp [uv,iF]
  ·by_cases h3:x.length=0
   ·have hx:x.cps = #[]:=by simpa [Str.length] using h3
    have e:∀ k,repL ([]:List Nat) k=[]:=λk=>by induction k with | zero=>rfl | succ k ih=>trivial
    obtain ⟨c⟩:=x;simp only at hx;subst hx;simp [Str.length,e]
   ·rw [Qu (by simp [h2,h3]),iL]
theorem iM{x y:Str}(hx:PyData.strOk x=true)(hy:PyData.strOk y=true):PyData.strOk (x++y)=true:=by
 unfold PyData.strOk at *;show (x.cps++y.cps).all _=true;rw [Array.all_append,hx,hy];rfl
theorem oU{x:Str}(hx:PyData.strOk x=true)(n:Nat):PyData.strOk (strMul x n)=true:=by
 unfold PyData.strOk strMul at *;simp only [List.all_toArray];rw [<- Array.all_toList] at hx;induction n with
 | zero=>rfl
 | succ n ih=>rw [iF,List.all_append,hx,ih];rfl
theorem g7(x:Str)(n:Nat):(strMul x n).length=n * x.length:=by
 unfold strMul Str.length;simp [db]
section
variable {H:D->Int}{h:Heap}
theorem RdAll.rep{vs:List Value}{ds:List D}{as:List Addr}(r:RdAll H h vs ds as):∀ n,∃ bs,RdAll H h (repL vs n) (repL ds n) bs/\∀ a ∈ bs,a ∈ as
 | 0=>⟨[],.nil,λZ q=>(YJ q).elim⟩
 | n+1=>let ⟨bs,q,k⟩:=RdAll.rep r n;⟨as++bs,r.append q,λa m=>(QY m).elim id (k a)⟩
end
section
variable {P:Pk}{r:Nat}{A:Around}{s:Shared}
noncomputable def PostV(P:Pk)(s:Shared)(U:Addr->Prop)(d:D)(v:Value)(s':Shared):Prop:=
 Kp s s'/\∃ cs,Rd P.H s'.heap v d cs/\(∀ a ∈ cs,s.heap.get? a=none\/U a)/\(flat d=true->∀ a ∈ cs,s.heap.get? a=none)
theorem PostV.flat0{U:Addr->Prop}{d:D}{v:Value}{s':Shared}{cs:List Addr}(k:Kp s s')(rd:Rd P.H s'.heap v d cs)(hn:noList d=true):PostV P s U d v s':=by
 have e:=rd.noAddr hn;subst e;exact ⟨k,[],rd,λZ q=>((YJ q).elim),λZ Z q=>((YJ q).elim)⟩
theorem PostV.newList{U:Addr->Prop}{vs:Array Value}{n:Nat}{xs:List D}{cs:List Addr}(hz:vs.size<=sizeLine)(rd:RdAll P.H s.heap vs.toList xs cs)(hU:∀ a ∈ cs,s.heap.get? a=none\/U a) :
 PostV P s U (.list xs) (.ref s.heap.objs.size) { s with heap:=s.heap.push (listObj vs n) }:=by
 refine ⟨Kp.push s _,s.heap.objs.size::cs,.list (QL _ rfl) hz (rd.keeps λb o e=>Qi _ e),λa q=>?_,λhf a q=>?_⟩
 ·rcases Qw q with rfl | q
  ·exact .inl (aL _)
  ·exact hU a q
 ·have e:=rd.noAddr (hf)
  clear hf hU rd hz;subst e;exact (Qx q) ▸ aL _
theorem PostV.newTuple{U:Addr->Prop}{vs:Array Value}{n:Nat}{xs:List D}{cs:List Addr}(hz:vs.size<=sizeLine)(rd:RdAll P.H s.heap vs.toList xs cs)(hU:∀ a ∈ cs,s.heap.get? a=none\/U a) :
 PostV P s U (.tuple xs) (.ref s.heap.objs.size) { s with heap:=s.heap.push (tupObj vs n) }:=by
 refine ⟨Kp.push s _,cs,.tuple (QL _ rfl) hz (rd.keeps λb o e=>Qi _ e),hU,λhf a q=>?_⟩;have e:=rd.noAddr hf;clear hf hU rd hz;subst e;exact (YJ q).elim
theorem addL{l b:Addr}{vs ws:Array Value}{n n2:Nat}{Q:Value->Shared->Prop}{E:Value->Shared->Prop}(ho:s.heap.get? l=some (listObj vs n))(ho2:s.heap.get? b=some (listObj ws n2))(hz:vs.size+ws.size<=sizeLine)
 (h:Q (.ref s.heap.objs.size) { s with heap:=s.heap.push (listObj (vs++ws) 0) }):wpAny (model P.prog P.w) A (binaryOp .Add (.ref l) (.ref b)) Q E s:=
 concat_meets ⟨_,ho,rfl⟩ ⟨_,ho2,rfl⟩ noFill_list_add seq_list_add PySem.F.slot_list_add PySem.F.entry_list_add (PySem.F.args_list_add_2 _ _) (PyProof.Rows.list_addW l b vs ws n n2 none none #[] #[] hz) ⟨ho,ho2,h⟩
theorem addT{l b:Addr}{vs ws:Array Value}{n n2:Nat}{Q:Value->Shared->Prop}{E:Value->Shared->Prop}(ho:s.heap.get? l=some (tupObj vs n))(ho2:s.heap.get? b=some (tupObj ws n2))(hz:vs.size+ws.size<=sizeLine)
 (h0:vs.isEmpty=true->Q (.ref b) s) (h1 : ¬vs.isEmpty=true->ws.isEmpty=true->Q (.ref l) s)
 (h2:Q (.ref s.heap.objs.size) { s with heap:=s.heap.push (tupObj (vs++ws) 0) }):wpAny (model P.prog P.w) A (binaryOp .Add (.ref l) (.ref b)) Q E s:=by
 by_cases hv:vs.isEmpty=true
 ·exact concat_meets ⟨_,ho,rfl⟩ ⟨_,ho2,rfl⟩ noFill_tuple_add seq_tuple_add Y5 YT (YO _ _)
   (PyProof.Rows.tuple_addW0 l b vs ws n n2 none none #[] #[] hv) ⟨ho,ho2,h0 hv⟩
 ·by_cases hw:ws.isEmpty=true
  ·exact concat_meets ⟨_,ho,rfl⟩ ⟨_,ho2,rfl⟩ noFill_tuple_add seq_tuple_add Y5 YT (YO _ _)
    (PyProof.Rows.tuple_addW1 l b vs ws n n2 none none #[] #[] hv hw) ⟨ho,ho2,h1 hv hw⟩
  ·exact concat_meets ⟨_,ho,rfl⟩ ⟨_,ho2,rfl⟩ noFill_tuple_add seq_tuple_add Y5 YT (YO _ _)
    (PyProof.Rows.tuple_addW2 l b vs ws n n2 none none #[] #[] hv hw hz) ⟨ho,ho2,h2⟩
theorem mulL{l:Addr}{items:Array Value}{k:Nat}{x:Int}{u:Tok}{Q:Value->Shared->Prop}{E:Value->Shared->Prop}
 (hl:s.heap.get? l=some (listObj items k)) (hlo : -(2 ^ 63:Int)<=x) (hhi:x < 2 ^ 63) (hsz:items.size * x.toNat<=2 ^ 24)
 (h:Q (.ref s.heap.objs.size) { s with heap:=s.heap.push (listObj (List.foldl (λx1 x2=>x1++x2) #[] (List.replicate (if items.isEmpty=true then 0 else x.toNat) items)) 0) }) :
 wpAny (model P.prog P.w) A (binaryOp .Mult (.ref l) (.int x u)) Q E s:=
 wpAny_binaryOp_repeat_ref (T := "list") (U := "int") (by decide) ⟨_,hl,rfl⟩ (λs'=>typeIs_int s' x u) noFill_list_mul F.fills_int_mul F.slot_int_rmul repeat_list F.slot_int_index.lookup
  (call_meets F.slot_int_rmul (typeIs_int s x u) F.entry_int_rmul (F.args_int_rmul_2 _ _) (int___rmul___int_list x u l items k)
   ⟨hl,rfl,⟨_,hl,rfl⟩,call_meets F.slot_list_mul ⟨_,hl,rfl⟩ F.entry_list_mul (F.args_list_mul_2 _ _)
    (AutoListH.list___mul___list_int_3 l items k x u (by simp [Builtin.List.listFitsIndex];lia) (by lia) (by simp [Builtin.List.listTooLong,sizeLine];(exact hsz)))
    ⟨hl,h⟩⟩)
theorem ba{x:D}{s:Str}(h:strK x=some s):x = .str s:=
 if q:x.ctorIdx=3 then PyData.str.elim (motive_1:=λx=>strK x=some s->x = .str s) x q (λi h=>Qf PyData.str (Qv h)) h else nomatch (Zi q).symm.trans h
theorem aY{x:D}{a:Int}(h:int1 x=some a):x = .int a:=
 if q:x.ctorIdx=2 then PyData.int.elim (motive_1:=λx=>int1 x=some a->x = .int a) x q (λi h=>Qf PyData.int (Qv h)) h else nomatch (Zi q).symm.trans h
theorem gg{x:D}{a:List D}(h:gT x=some a):x = .list a:=
 if q:x.ctorIdx=4 then PyData.list.elim (motive_1:=λx=>gT x=some a->x = .list a) x q (λi h=>Qf PyData.list (Qv h)) h else nomatch (Zi q).symm.trans h
theorem ln{x:D}{a:List (D × D)}(h:kvD x=some a):x = .dict a:=
 if q:x.ctorIdx=6 then PyData.dict.elim (motive_1:=λx=>kvD x=some a->x = .dict a) x q (λi h=>Qf PyData.dict (Qv h)) h else nomatch (Zi q).symm.trans h
theorem aA{α:Type}{l:List α}{x:α}(h:one1 l=some x):l=[x]:=by
 induction l using lc with
 | nil=>exact nN h
 | cons a l=>
  induction l using lc with
  | nil=>exact Qf (λz=>[z]) (Qv h)
  | cons=>exact nN h
theorem dG{x:D}{l:List D}(h:tupK x=some l):x = .tuple l:=
 if q:x.ctorIdx=5 then PyData.tuple.elim (motive_1:=λx=>tupK x=some l->x = .tuple l) x q (λi h=>Qf PyData.tuple (Qv h)) h else nomatch (Zi q).symm.trans h
theorem oV{x:D}{b:Bool}(h:bolK x=some b):x = .bool b:=
 if q:x.ctorIdx=1 then PyData.bool.elim (motive_1:=λx=>bolK x=some b->x = .bool b) x q (λi h=>Qf PyData.bool (Qv h)) h else nomatch (Zi q).symm.trans h
theorem mH{x:D}{a b:D}(h:vE x=some (a,b)):x = .tuple [a,b]:=by
 refine aa h λl e h=>?_;rw [dG e];clear e;induction l using lc with
 | nil=>exact nN h
 | cons p l=>
  induction l using lc with
  | nil=>exact nN h
  | cons q l=>
   induction l using lc with
   | nil=>obtain ⟨rfl,rfl⟩:=Prod.mk.inj (Qv h);rfl
   | cons=>exact nN h
theorem mI{x y:D}{p:Int × Int}(h:bL x y=some p):x = .int p.1/\y = .int p.2:=by
 refine aa h λa e1 h=>?_;obtain ⟨b,e2,rfl⟩:=ad h;exact ⟨aY e1,aY e2⟩
theorem lq{a b x y m n:Nat}(e1:a=x)(e2:b=y)(hs:x+y<=m)(hz:m<=n):a+b<=n:=by
 subst e1 e2;exact QQ hs hz
theorem absL{a:Int}{n:Nat}(h:a.natAbs<=n) : -(n:Int)<=a/\a<=n:=
 have q:(a.natAbs:Int)<=n:=QB.mpr h
 ⟨Int.neg_le_of_neg_le (Qt (Int.natAbs_neg a ▸ Xy) q),Qt Xy q⟩
theorem absB{a:Int}(h:a.natAbs < 2 ^ 64) : -2 ^ 64 < a/\a < 2 ^ 64:=
 have q:(a.natAbs:Int) < 2 ^ 64:=QZ h
 ⟨Int.neg_lt_of_neg_lt (QH (Int.natAbs_neg a ▸ Xy) q),QH Xy q⟩
theorem gh{a:Int}(h:smallI a=true):Builtin.Int.intBits a<=64:=by
 simp only [smallI,QE] at h;exact intBits_le_64 (absB (Qe h (by decide))).1 (absB (Qe h (by decide))).2
theorem oW{a b:Int}(h:mulOkI a b=true):IntMulOk a b:=by
 unfold mulOkI at h;rw [Ze] at h;rcases h with h | h
 ·exact .of_left (gh h)
 ·exact .of_right (gh h)
theorem bq{x y:Value}{dx dy:D}{as bs:List Addr}{H:D->Int}{h:Heap}{p:Int × Int}(rx:Rd H h x dx as)(ry:Rd H h y dy bs)(e:bL dx dy=some p):∃ t u,x = .int p.1 t/\y = .int p.2 u:=by
 obtain ⟨rfl,rfl⟩:=mI e;cases rx using Rd.intE with
 | mk t=>cases ry using Rd.intE with
  | mk u=>exact ⟨t,u,rfl,rfl⟩
set_option tactic.hygienic true in
theorem aE{p:Prop} [Decidable p] {α:Type} {a b:α} (h:(if p then some a else none)=some b):p/\a=b:=by
 split at h
 ·rename_i hp;obtain rfl:=Qv h;exact ⟨hp,rfl⟩
 ·exact nN h
theorem oX{motive:D->D->D->Prop}(hi:∀ a b,motive (.int a) (.int b) (.int (a+b)))(hs:∀ x y:Str,x.length+y.length<=2 ^ 20->motive (.str x) (.str y) (.str (x++y)))
 (hl:∀ xs ys:List D,xs.length+ys.length<=2 ^ 20->motive (.list xs) (.list ys) (.list (xs++ys))) (ht:∀ xs ys:List D,xs.length+ys.length<=2 ^ 14->motive (.tuple xs) (.tuple ys) (.tuple (xs++ys))) :
 ∀ {dx dy d:D},addD dx dy=some d->motive dx dy d:=by
 intro dx dy d he;induction dx using dc<;>first | (exact nN he;done) | skip
 all_goals (induction dy using dc<;>first | (cases he;done) | skip)
 ·obtain rfl:=Qv he;exact hi _ _
 ·obtain ⟨h,rfl⟩:=aE he;exact hs _ _ h
 ·obtain ⟨h,rfl⟩:=aE he;exact hl _ _ h
 ·obtain ⟨h,rfl⟩:=aE he;exact ht _ _ h
theorem wm{x y:Value}{dx dy d:D}{as bs:List Addr}(he:addD dx dy=some d)(rx:Rd P.H s.heap x dx as)(ry:Rd P.H s.heap y dy bs) :
 wpAny (model P.prog P.w) A (binaryOp .Add x y) (PostV P s (λa=>a ∈ inn dx as\/a ∈ inn dy bs) d) (λZ Z=>False) s:=by
 revert rx ry;refine oX (motive:=λdx dy d=>Rd P.H s.heap x dx as->Rd P.H s.heap y dy bs->wpAny (model P.prog P.w) A (binaryOp .Add x y) (PostV P s (λa=>a ∈ inn dx as\/a ∈ inn dy bs) d) (λZ Z=>False) s) ?_ ?_ ?_ ?_ he
 ·intro a b rx ry
  cases rx using Rd.intE;cases ry using Rd.intE
  exact PyProof.Rows.add_int (PostV.flat0 (Kp.toks s _) (.int _ _) rfl)
 ·intro x y hs rx ry
  cases rx using Rd.strE with
  | mk t hz1 ho1=>
   cases ry using Rd.strE with
   | mk u hz2 ho2=>
    exact PyProof.Rows.add_str (λt' tk=>PostV.flat0 (Kp.toks s _) (.str _ _ (Str.length_append _ _ ▸ (QQ hs (by decide))) (iM ho1 ho2)) rfl) (QQ hs (by decide))
 ·intro xs ys hs rx ry
  cases rx using Rd.listE with
  | mk h1 z1 r1=>
   cases ry using Rd.listE with
   | mk h2 z2 r2=>
    have e1:=r1.length;have e2:=r2.length;simp only [QJ] at e1 e2;have hz:(2:Nat) ^ 20<=sizeLine:=by decide
    refine addL h1 h2 (lq e1 e2 hs hz) ?_;exact PostV.newList (by exact Array.size_append ▸ lq e1 e2 hs hz) (by rw [Array.toList_append];exact r1.append r2) λa q=>.inr (QY q)
 ·intro xs ys hs rx ry
  cases rx using Rd.tupleE with
  | mk h1 z1 r1=>
   cases ry using Rd.tupleE with
   | mk h2 z2 r2=>
    have e1:=r1.length;have e2:=r2.length;simp only [QJ] at e1 e2;have hz:(2:Nat) ^ 14<=sizeLine:=by decide
    refine addT h1 h2 (lq e1 e2 hs hz) (λh0=>?_) (λZ h0=>?_) ?_
    ·have ev:_ = #[]:=YN.mp h0
     have ex:_=[]:=ZA.mp (by rw [<- e1,ev];rfl);subst ex
     exact ⟨Kp.refl s,_,.tuple h2 z2 r2,λa q=>.inr (.inr q),λhf a q=>by
      rw [r2.noAddr hf] at q;cases q⟩
    ·have ex:_=[]:=ZA.mp (by rw [<- e2,(YN.mp h0)];rfl)
     subst ex;rw [Xj]
     exact ⟨Kp.refl s,_,.tuple h1 z1 r1,λa q=>.inr (.inl q),λhf a q=>by
      rw [r1.noAddr hf] at q;cases q⟩
    ·exact PostV.newTuple (by exact Array.size_append ▸ lq e1 e2 hs hz) (by rw [Array.toList_append];exact r1.append r2) λa q=>.inr (QY q)
set_option tactic.hygienic true in
theorem oY{motive:D->D->D->Prop}(hi:∀ a b,mulOkI a b=true->motive (.int a) (.int b) (.int (a * b)))(hs:∀ (x:Str) (n:Int),x.length<=1000/\n<=1000/\-1000<=n->motive (.str x) (.int n) (.str (strMul x n.toNat)))
 (hl:∀ (xs:List D) (n:Int),xs.length<=1000/\n<=10000/\-10000<=n->motive (.list xs) (.int n) (.list (repL xs n.toNat)))
 : ∀ {dx dy d:D},mulD dx dy=some d->motive dx dy d:=by
 intro dx dy d he;induction dx using dc<;>first | (exact nN he;done) | skip
 all_goals (induction dy using dc<;>first | (exact nN he;done) | skip)
 ·obtain ⟨h,rfl⟩:=aE he;exact hi _ _ h
 ·obtain ⟨h,rfl⟩:=aE he;exact hs _ _ h
 ·obtain ⟨h,rfl⟩:=aE he;exact hl _ _ h
theorem wo(vs:Array Value)(n:Nat):(List.foldl (λx1 x2=>x1++x2) #[] (List.replicate (if vs.isEmpty=true then 0 else n) vs))=(repL vs.toList n).toArray:=by
 by_cases hv:vs.isEmpty=true
 ·rw [Ql hv]
  have ev:vs = #[]:=YN.mp hv;subst ev;have en:∀ k,repL ([]:List Value) k=[]:=λk=>by
   induction k with
   | zero=>rfl
   | succ k ih=>exact ih
  rw [en];rfl
 ·exact (Qu hv) ▸ iL vs _
theorem wp{x y:Value}{dx dy d:D}{as bs:List Addr}(he:mulD dx dy=some d)(rx:Rd P.H s.heap x dx as)(ry:Rd P.H s.heap y dy bs) :
 wpAny (model P.prog P.w) A (binaryOp .Mult x y) (PostV P s (λa=>a ∈ inn dx as\/a ∈ inn dy bs) d) (λZ Z=>False) s:=by
 revert rx ry;refine oY (motive:=λdx dy d=>Rd P.H s.heap x dx as->Rd P.H s.heap y dy bs->wpAny (model P.prog P.w) A (binaryOp .Mult x y) (PostV P s (λa=>a ∈ inn dx as\/a ∈ inn dy bs) d) (λZ Z=>False) s) (λa b hs rx ry=>?_) (λx n hs rx ry=>?_)
  (λxs n hs rx ry=>?_)
  he
 ·cases rx using Rd.intE;cases ry using Rd.intE
  exact PyProof.Rows.mul_int (PostV.flat0 (Kp.toks s _) (.int _ _) rfl) (oW hs)
 ·cases rx using Rd.strE with
  | mk t hz1 ho1=>
   cases ry using Rd.intE with
   | mk u=>
    have hl:x.length * n.toNat<=1000 * 1000:=Nat.mul_le_mul hs.1 (Zo.mpr hs.2.1);refine PySem.SB.mul ⟨?_,λh1 Z=>?_,λh1 Z=>?_⟩ λt' k=>?_
    ·simp only [Yo,Zg]
     exact ⟨ZB.mpr (Qt (by decide) hs.2.2),Yh.mpr (QH hs.2.1 (by decide))⟩
    ·have hn:0 < n:=Zf (by decide) (ZB.mp h1)
     have:=Int.le_ediv_of_mul_le hn (Qt (Int.mul_le_mul (QB.mpr hs.1) hs.2.1 (Y8 hn) (by decide)) (by decide:(1000 * 1000:Int)<=2 ^ 63 - 1));exact ZB.mpr this
    ·unfold Builtin.Str.tooLong
     exact Zk (Z4.mpr (QQ hl (by decide)))
    ·rw [oR]
     refine PostV.flat0 (Kp.toks s _) (.str _ _ ?_ (oU ho1 _)) rfl;rw [g7,Nat.mul_comm];exact QQ hl (by decide)
 ·cases rx using Rd.listE with
  | @mk l vs k as' h1 z1 r1=>
   cases ry using Rd.intE with
   | mk u=>
    have e1:=r1.length;simp only [QJ] at e1;have hz:vs.size * n.toNat<=1000 * 10000:=Nat.mul_le_mul (e1 ▸ hs.1) (Zo.mpr hs.2.1);obtain ⟨bs,rr,hb⟩:=r1.rep n.toNat;refine mulL h1 (Qt (by decide) hs.2.2) (QH hs.2.1 (by decide)) (QQ hz (by decide)) ?_;rw [wo];refine PostV.newList ?_ rr λa q=>.inr (.inl (hb a q));rw [Yc,db,QJ,Nat.mul_comm];exact QQ hz (by decide)
set_option tactic.hygienic true in
theorem bop{op:Operator}{x y:Value}{dx dy d:D}{as bs:List Addr}(rx:Rd P.H s.heap x dx as)(ry:Rd P.H s.heap y dy bs)(he:bY op dx dy=some d) :
 wpAny (model P.prog P.w) A (binaryOp op x y) (PostV P s (λa=>a ∈ inn dx as\/a ∈ inn dy bs) d) (λZ Z=>False) s:=by
 induction op with
 | Add=>exact wm he rx ry
 | Mult=>exact wp he rx ry
 | Sub=>
  obtain ⟨p,e0,rfl⟩:=ad (show (bL dx dy).map (λp=>PyData.int (p.1 - p.2))=some d from he);obtain ⟨t,u,rfl,rfl⟩:=bq rx ry e0;exact PyProof.Rows.sub_int (PostV.flat0 (Kp.toks s _) (.int _ _) rfl)
 | FloorDiv=>
  refine aa (show ((bL dx dy).bind λp=>if p.2 ≠ 0/\p.2.natAbs < 1073741824 then some (PyData.int (p.1.fdiv p.2)) else none)=some d from he) λp e0 he=>?_;obtain ⟨t,u,rfl,rfl⟩:=bq rx ry e0;obtain ⟨hs,rfl⟩:=aE he;exact PyProof.Rows.floordiv_int hs.1 (PostV.flat0 (Kp.toks s _) (.int _ _) rfl) (.inl (PyProof.noPylong_small hs.2))
 | Mod=>
  refine aa (show ((bL dx dy).bind λp=>if p.2 ≠ 0 then some (PyData.int (p.1.fmod p.2)) else none)=some d from he) λp e0 he=>?_;obtain ⟨t,u,rfl,rfl⟩:=bq rx ry e0;obtain ⟨hs,rfl⟩:=aE he;exact PyProof.Rows.mod_int hs (PostV.flat0 (Kp.toks s _) (.int _ _) rfl)
 | Pow=>
  refine aa (show ((bL dx dy).bind λp=>if 0<=p.2/\p.2<=1000/\p.1.natAbs<=1000 then some (PyData.int (p.1 ^ p.2.toNat)) else none)=some d from he) λp e0 he=>?_;obtain ⟨t,u,rfl,rfl⟩:=bq rx ry e0;obtain ⟨hs,rfl⟩:=aE he;refine PyProof.Rows.pow_int hs.1 ?_ (PostV.flat0 (Kp.toks s _) (.int _ _) rfl);exact Qt (Int.mul_le_mul (QB.mpr (intBits_le_64 (absB (Qh hs.2.2 (by decide))).1 (absB (Qh hs.2.2 (by decide))).2)) hs.2.1 hs.1 (by decide)) (by decide)
 | _=>exact nN he
end
inductive LtV (q:Bool):List (Value × Value)->Prop
 | nil:false=q->LtV q []
 | eq (i:Int) (t u:Tok) (r:List (Value × Value)):LtV q r->LtV q ((.int i t,.int i u)::r)
 | lt (i j:Int) (t u:Tok) (r:List (Value × Value)):i ≠ j->decide (i < j)=q->LtV q ((.int i t,.int j u)::r)
theorem yK(r1:RdAll H h vs xs as):∀ (ws:List Value) (ys:List D) (bs:List Addr),RdAll H h ws ys bs->ltInts xs ys=some q->LtV q (vs.zip ws):=by
 refine r1.ind (M:=λvs xs Z=>∀ (ws:List Value) (ys:List D) (bs:List Addr),RdAll H h ws ys bs->ltInts xs ys=some q->LtV q (vs.zip ws)) (λws ys bs r2 e=>?_) (λv vs d ds as1 as2 p1 t1 ih ws ys bs r2 e=>?_)
 ·induction r2 using RdAll.casesOn with
  | nil=>exact .nil (Qv e)
  | cons=>exact nN e
 ·induction r2 using RdAll.casesOn with
  | nil=>exact nN e
  | cons p2 t2=>
   obtain ⟨⟨i,j⟩,e1,hl⟩:=bind_some e;obtain ⟨t,u,rfl,rfl⟩:=bq p1 p2 e1
   by_cases hij:i=j
   ·clear p2 p1 e1 t1 r1;subst hij
    exact .eq i t u _ (ih _ _ _ t2 ((Ql rfl).symm.trans hl))
   ·obtain ⟨_,_,e⟩:=ad ((Qu hij).symm.trans hl)
    exact .lt i j t u _ hij e
section
variable {prog:Program}{w:World}{A:Around}{E:Value->Shared->Prop}{s:Shared}
theorem oZ:∀ {xs ys:List D} {q:Bool},ltInts xs ys=some q->xs.length=ys.length
 | [],[],_,_=>rfl
 | x::xs,y::ys,q,h=>by
  refine aa (show ((bL x y).bind λp=>if p.1=p.2 then ltInts xs ys else (ltInts xs ys).map λZ=>decide (p.1 < p.2))=some q from h) λp Z h=>?_;split at h
  ·exact Qf Nat.succ (oZ h)
  ·obtain ⟨_,h,_⟩:=ad h
   exact Qf Nat.succ (oZ h)
 | [],_::_,_,h=>by exact nN h
 | _::_,[],_,h=>by exact nN h
theorem r5(h:ltD dx dy=some q):(∃ xs ys,dx = .tuple xs/\dy = .tuple ys/\ltInts xs ys=some q)\/(bL dx dy).map (λp=>decide (p.1 < p.2))=some q:=by
 match dx,dy,h with
 | .tuple xs,.tuple ys,h=>exact .inl ⟨xs,ys,rfl,rfl,h⟩
 | .none,_,h=>exact .inr h
 | .bool _,_,h=>exact .inr h
 | .int _,_,h=>exact .inr h
 | .str _,_,h=>exact .inr h
 | .list _,_,h=>exact .inr h
 | .dict _,_,h=>exact .inr h
 | .tuple _,.none,h=>exact .inr h
 | .tuple _,.bool _,h=>exact .inr h
 | .tuple _,.int _,h=>exact .inr h
 | .tuple _,.str _,h=>exact .inr h
 | .tuple _,.list _,h=>exact .inr h
 | .tuple _,.dict _,h=>exact .inr h
theorem r6(ha:s.heap.get? a=some (tupObj vs n))(hb:s.heap.get? b=some (tupObj ws k))(ra:RdAll H s.heap vs.toList xs as)(rb:RdAll H s.heap ws.toList ys bs)(he:ltInts xs ys=some q)(hu:A.units < cLine)
 (h:∀ tk,Q (.bool q) { s with toks:=tk }):wpAny (model prog w) A (compareOp .Lt (.ref a) (.ref b)) Q E s:=by
 have l1:=ra.length;have l2:=rb.length;rw [QJ] at l1 l2;refine wpAny_richCompare_same_room (op:=.Lt) ⟨_,ha,rfl⟩ (⟨_,hb,rfl⟩) F.slot_tuple_lt (wpAny_call_entry F.slot_tuple_lt ⟨_,ha,rfl⟩ F.entry_tuple_lt ?_ (F.args_tuple_lt_2 _ _)) hu;show wpAny _ _ (isInstance (.ref b) (.type "tuple") >>= _) _ _ s;refine Qd (wpAny_isInstance (⟨_,hb,rfl⟩) isSubtype_tuple_tuple ?_);simp only [Yi,QD,if_false];refine Qd (XJ ha rfl ?_);refine Qd (XJ hb rfl ?_);refine Qd ?_;refine wpAny_forIn_list _ (λrest r s'=>r.1=none/\s'=s/\LtV q rest) _ (λx rest r s' hI=>?_) (λr s' hI=>?_) _ _ ⟨rfl,rfl,yK ra _ _ _ rb he⟩
 ·clear hu rb ra hb ha;obtain ⟨hr,rfl,hL⟩:=hI
  cases hL with
  | eq i t u _ hL=>
   refine Qd (wpAny_eqBool_int ?_);rw [show (i == i)=true from Zh i];exact Qg ⟨rfl,rfl,hL⟩
  | lt i j t u _ hij e=>
   subst e;refine Qd (wpAny_eqBool_int ?_);exact (show (i == j)=false from beq_eq_false_iff_ne.mpr hij) ▸ (Qd (wpAny_rule (Qd (PyProof.Rows.lt_int (Qd (Qg (Qg (Qg ⟨_,rfl,(by intro z;exact Value.noConfusion z),h _⟩))))))))
 ·clear hu rb ra hb ha;obtain ⟨hr,rfl,hL⟩:=hI
  cases hL with
  | nil e=>
   subst e;obtain ⟨r1,r2⟩:=r;subst hr;refine Qg ⟨.bool false,?_,(by intro z;exact Value.noConfusion z),h s'.toks⟩;show Fin.done (Flow.ret (.bool (decide (vs.size < ws.size))))=_;rw [l1,l2,(oZ he),Zk (YV _)]
end
theorem b6{l:List D}{p:D × List D}(h:hd1 l=some p):l=p.1::p.2:=by
 cases l<;>first | (cases h;done) | (obtain rfl:=Qv h;rfl)
set_option tactic.hygienic true in
theorem al{p:Prop} [Decidable p] {α:Type} {a:Option α} {b:α} (h:(if p then a else none)=some b):p/\a=some b:=by
 split at h
 ·rename_i hp;exact ⟨hp,h⟩
 ·exact nN h
theorem o4{d:D}{e:EnK}(h:unEn d=some e):d=enK e:=by
 refine aa h λl e0 h=>?_;refine aa h λa1 e1 h=>?_;refine aa h λx1 f1 h=>?_;refine aa h λa2 e2 h=>?_;refine aa h λx2 f2 h=>?_;refine aa h λa3 e3 h=>?_;refine aa h λx3 f3 h=>?_;refine aa h λa4 e4 h=>?_;refine aa h λx4 f4 h=>?_;refine aa h λa5 e5 h=>?_;refine aa h λx5 f5 h=>?_;obtain ⟨hn,rfl⟩:=aE h;rw [dG e0,b6 e1,b6 e2,b6 e3,b6 e4,b6 e5,ba f1,ba f2,aY f3,ba f4,oV f5,Q1.mp hn];rfl
theorem ej:∀ {l:List D} {es:List EnK},jS l=some es->l=es.map enK:=by
 intro l;induction l with
 | nil=>
  intro _ h;obtain rfl:=Qv h;rfl
 | cons d l ej=>
  intro es h;refine aa (show ((unEn d).bind λe=>(jS l).map λl=>e::l)=some es from h) λe e1 h=>?_;obtain ⟨r,e2,rfl⟩:=ad h;rw [o4 e1,ej e2];rfl
theorem eQ{d:D}{p:StK}(h:unK d=some p):d=stK p:=by
 refine aa h λl e0 h=>?_;refine aa h λa1 e1 h=>?_;refine aa h λx1 f1 h=>?_;refine aa h λa2 e2 h=>?_;refine aa h λl2 f2 h=>?_;refine aa h λes f3 h=>?_;obtain ⟨hn,rfl⟩:=aE h;rw [dG e0,b6 e1,b6 e2,aY f1,dG f2,ej f3,Q1.mp hn];rfl
set_option tactic.hygienic true in
theorem g8{d:D}(h:tru d=true):d = .bool true:=by
 induction d using dc<;>first | (cases h;done) | skip
 rename_i b;induction b<;>first | rfl | exact nF h
theorem cI:∀ {kvs:List (D × D)} {ks:List StK},keysT kvs=some ks->kvs=ks.map λk=>(stK k,.bool true):=by
 intro kvs;induction kvs with
 | nil=>
  intro _ h;obtain rfl:=Qv h;rfl
 | cons p r cI=>
  intro ks h;obtain ⟨ht,h⟩:=al (show (if tru p.2 then (unK p.1).bind λk=>(keysT r).map λks=>k::ks else none)=some ks from h);refine aa h λk e1 h=>?_;obtain ⟨l,e2,rfl⟩:=ad h;obtain ⟨p1,p2⟩:=p;rw [QX,<- cI e2,<- eQ e1,<- g8 ht]
theorem o6(p q:StK):eqT p q=true↔p=q:=by
 obtain ⟨p1,p2⟩:=p;obtain ⟨q1,q2⟩:=q;simp only [eqT,Qj,Q5,Prod.mk.injEq]
theorem dH(p:StK)(l:List StK):hasT p l=true↔p ∈ l:=by
 unfold hasT;rw [Q2];exact ⟨λ⟨q,h1,h2⟩=>(o6 q p).mp h2 ▸ h1,λh=>⟨p,h,(o6 p p).mpr rfl⟩⟩
theorem lr:∀ l:List StK,nodT l=true->l.Nodup
 | [],_=>ZL
 | p::l,h=>by
  rw [show nodT (p::l)=(!hasT p l&&nodT l) from rfl,Qj,QS] at h;exact Q8.mpr ⟨λq=>Bool.noConfusion (h.1.symm.trans ((dH p l).mpr q)),lr l h.2⟩
section
variable (prog:Program)(w:World)
noncomputable def HOk(A:Around)(s:Shared)(v:Value)(x:Int)(n:Nat):Prop:=∀ (tk:Nat) (E:Value->Shared->Prop) (Q:Int->Shared->Prop),Q x { s with toks:=tk+n }->wpAny (model prog w) A (pyHash v) Q E { s with toks:=tk }
noncomputable def HAll(A:Around)(s:Shared):List Value->List Int->Nat->Prop
 | [],[],n=>n=0
 | v::vs,x::xs,n=>∃ a b,n=a+b/\HOk prog w A s v x a/\HAll A s vs xs b
 | _,_,_=>False
variable {prog w}
theorem uD{A:Around}{s:Shared}{E:Value->Shared->Prop}:∀ {vs:List Value} {xs:List Int} {k:Nat} (b:Array Int) (tk:Nat) {Q:Array Int->Shared->Prop},HAll prog w A s vs xs k->(∀ b',b'.toList=b.toList++xs->Q b' { s with toks:=tk+k }) ->
 wpAny (model prog w) A (forIn vs b λx r=>do let h <- pyHash x;pure PUnit.unit;pure (ForInStep.yield (r.push h))) Q E { s with toks:=tk }
 | [],[],k,b,tk,Q,h,hQ=>by
  cases (show k=0 from h);exact Qg (hQ b (by simp))
 | v::vs,x::xs,k,b,tk,Q,h,hQ=>by
  obtain ⟨a,c,rfl,h1,h2⟩:=h;rw [Xz];refine Qd (Qd (h1 tk _ _ ?_));refine Qd (Qg (Qg ?_));exact uD (b.push x) (tk+a) h2 λb' hb=>by
   have:=hQ b' (by rw [hb];simp);rw [<- Nat.add_assoc] at this;exact this
 | [],_::_,_,_,_,_,h,_=>h.elim
 | _::_,[],_,_,_,_,h,_=>h.elim
theorem g9{A:Around}{s:Shared}{a:Addr}{vs:Array Value}{n k:Nat}{xs:List Int}(ho:s.heap.get? a=some (tupObj vs n))(hu:A.units < cLine)(h:HAll prog w A.in1 s vs.toList xs k):HOk prog w A s (.ref a) (reduceHash (Builtin.Tuple.tupleHashOf xs)) (k+1):=λtk E Q hQ=>by
 refine PySem.W.pyHash_slot (T := "tuple") ⟨_,ho,rfl⟩ F.slot_tuple_hash F.entry_tuple_hash (F.args_tuple_hash_1 _) (beq_builtin_none _) (.inr hu) ?_;show wpAny _ _ (Builtin.Tuple.tupleItemsOf (.ref a) >>= _) _ _ _;refine Qd (XJ ho rfl ?_);refine Qd ?_;rw [<- Array.forIn_toList];refine uD #[] tk h λb hb=>?_;show wpAny _ _ (retInt (Builtin.Tuple.tupleHashOf b.toList)) _ _ _;rw [hb];exact Qd (wpAny_mkInt (Qg ⟨_,_,rfl,hQ⟩))
theorem o7{A:Around}{s:Shared}(i:Int)(t:Tok):HOk prog w A s (.int i t) (hashInt i) 1:=λtk E Q hQ=>wpAny_pyHash_int hQ
theorem jY{A:Around}{s:Shared}(x:Str)(t:Tok):HOk prog w A s (.str x t) (hashStr w x) 1:=λtk E Q hQ=>wpAny_pyHash_str hQ
theorem r7{A:Around}{s:Shared}(b:Bool):HOk prog w A s (.bool b) (reduceHash (if b then 1 else 0)) 1:=λtk E Q hQ=>by
 refine PySem.W.pyHash_slot (T := "bool") rfl F.slot_bool_hash entry_int_hash (args_int_hash _) (beq_builtin_none _) (.inl rfl) ?_;induction b
 ·exact (show wpAny _ _ (do ret (<- mkInt 0)) _ _ _ from Qd (wpAny_mkInt (Qg ⟨_,_,rfl,hQ⟩)))
 ·exact (show wpAny _ _ (do ret (<- mkInt 1)) _ _ _ from Qd (wpAny_mkInt (Qg ⟨_,_,rfl,hQ⟩)))
variable {H:D->Int}
theorem Rd.boolE'{h:Heap}{b:Bool}{v:Value}{as:List Addr}(r:Rd H h v (.bool b) as):v = .bool b:=by cases r;rfl
theorem Rd.intE'{h:Heap}{i:Int}{v:Value}{as:List Addr}(r:Rd H h v (.int i) as):∃ t,v = .int i t:=by cases r;exact ⟨_,rfl⟩
theorem Rd.strE'{h:Heap}{x:Str}{v:Value}{as:List Addr}(r:Rd H h v (.str x) as):∃ t,v = .str x t:=by cases r;exact ⟨_,rfl⟩
theorem RdAll.consE{h:Heap}{vs:List Value}{d:D}{ds:List D}{as:List Addr}(r:RdAll H h vs (d::ds) as):∃ v vs' a b,vs=v::vs'/\Rd H h v d a/\RdAll H h vs' ds b:=by
 cases r with
 | cons p t=>exact ⟨_,_,_,_,rfl,p,t⟩
theorem RdAll.nilE{h:Heap}{vs:List Value}{as:List Addr}(r:RdAll H h vs [] as):vs=[]:=by cases r;rfl
theorem RdAll.c_el{h:Heap}{vs:List Value}{d:D}{ds:List D}{as:List Addr}{X:Prop}(r:RdAll H h vs (d::ds) as)(k:∀ v vs' a b,vs=v::vs'->as=a++b->Rd H h v d a->RdAll H h vs' ds b->X):X:=by
 cases r with
 | cons p q=>exact k _ _ _ _ rfl rfl p q
theorem RdAll.n_el{h:Heap}{vs:List Value}{as:List Addr}(r:RdAll H h vs [] as):vs=[]/\as=[]:=by
 cases r;exact ⟨rfl,rfl⟩
theorem cgL{α:Type}{a b:α}{l k:List α}(h:a=b)(q:l=k):a::l=b::k:=h ▸ q ▸ rfl
theorem ls{h:Heap}{v:Value}{e:EnK}{as:List Addr}(r:Rd H h v (enK e) as):∃ a vs n t1 t2 t3 t4,v = .ref a/\h.get? a=some (tupObj vs n)/\vs.toList=[.str e.1 t1,.str e.2.1 t2,.int e.2.2.1 t3,.str e.2.2.2.1 t4,.bool e.2.2.2.2]:=by
 cases r using Rd.tupleE with
 | mk ho _ ra=>
  refine ra.c_el λv1 l1 Z Z e1 Z p1 ra=>ra.c_el λv2 l2 Z Z e2 Z p2 ra=>ra.c_el λv3 l3 Z Z e3 Z p3 ra=>ra.c_el λv4 l4 Z Z e4 Z p4 ra=>ra.c_el λv5 l5 Z Z e5 Z p5 ra=>?_;exact p1.strE'.elim λt1 q1=>p2.strE'.elim λt2 q2=>p3.intE'.elim λt3 q3=>p4.strE'.elim λt4 q4=>⟨_,_,_,t1,t2,t3,t4,rfl,ho,e1.trans (cgL q1 (e2.trans (cgL q2 (e3.trans (cgL q3 (e4.trans (cgL q4 (e5.trans (cgL p5.boolE' ra.n_el.1)))))))))⟩
theorem cJ{h:Heap}{v:Value}{p:StK}{as:List Addr}(r:Rd H h v (stK p) as):∃ a vs n t b ws m bs,v = .ref a/\h.get? a=some (tupObj vs n)/\vs.toList=[.int p.1 t,.ref b]/\h.get? b=some (tupObj ws m)/\RdAll H h ws.toList (p.2.map enK) bs:=by
 cases r using Rd.tupleE with
 | mk ho _ ra=>
  refine ra.c_el λv1 l1 Z Z e1 Z p1 ra=>ra.c_el λv2 l2 Z Z e2 Z p2 ra=>p1.intE'.elim λt1 q1=>?_;cases p2 using Rd.tupleE with
  | mk ho2 _ ra2=>exact ⟨_,_,_,t1,_,_,_,_,rfl,ho,e1.trans (cgL q1 (e2.trans (cgL rfl ra.n_el.1))),ho2,ra2⟩
theorem wq{A:Around}{s:Shared}{v:Value}{e:EnK}{as:List Addr}(r:Rd H s.heap v (enK e) as)(hu:A.units < cLine):HOk prog w A s v (oz w e) 6:=by
 obtain ⟨a,vs,n,t1,t2,t3,t4,rfl,ho,ev⟩:=ls r;refine g9 (k:=5) ho hu ?_;rw [ev];exact ⟨1,4,rfl,jY _ _,1,3,rfl,jY _ _,1,2,rfl,o7 _ _,1,1,rfl,jY _ _,1,0,rfl,r7 _,rfl⟩
theorem o8{A:Around}{s:Shared}(hu:A.units < cLine):∀ (l:List EnK) (vs:List Value) (as:List Addr),RdAll H s.heap vs (l.map enK) as->HAll prog w A s vs (l.map (oz w)) (6 * l.length):=by
 intro l;induction l with
 | nil=>
  intro vs as r;cases r.nilE;rfl
 | cons e l ih_=>
  intro vs as r;refine byG λX_ g_=>?_;obtain ⟨_,_,_,_,rfl,p,r⟩:=r.consE;refine g_ ?_;exact ⟨6,6 * l.length,by rw [QV,Nat.mul_succ,Nat.add_comm],wq p hu,ih_ _ _ r⟩
theorem wt{A:Around}{s:Shared}{v:Value}{p:StK}{as:List Addr}(r:Rd H s.heap v (stK p) as)(hu:A.units+10 < cLine):HOk prog w A s v (cq w p) (6 * p.2.length+3):=by
 obtain ⟨a,vs,n,t,b,ws,m,bs,rfl,ho,ev,ho2,ra⟩:=cJ r;refine g9 (k:=6 * p.2.length+2) ho (by exact Qh (QI _ _) hu) ?_;rw [ev];refine ⟨1,6 * p.2.length+1,by exact (Nat.add_comm 1 _).symm,o7 _ _,6 * p.2.length+1,0,rfl,g9 ho2 ?_ (o8 ?_ p.2 _ _ ra),rfl⟩
 ·rw [Around.in1_units];exact Qh (ZQ (by decide) _) hu
 ·rw [Around.in1_units,Around.in1_units];exact Qh (ZQ (by decide:2<=10) A.units) hu
theorem yL(a b:EnK):PyData.eqv (enK a) (enK b)=decide (a=b):=by
 obtain ⟨a1,a2,a3,a4,a5⟩:=a;obtain ⟨b1,b2,b3,b4,b5⟩:=b;show (a1 == b1&&(a2 == b2&&(a3 == b3&&(a4 == b4&&(a5 == b5&&true)))))=_;rw [ZZ];simp only [Qj,Q5,QE,Prod.mk.injEq,and_true]
theorem o9:∀ a b:List EnK,PyData.eqvAll (a.map enK) (b.map enK)=decide (a=b)
 | [],[]=>rfl
 | [],_::_=>rfl
 | _::_,[]=>rfl
 | x::a,y::b=>by
  show (PyData.eqv (enK x) (enK y)&&PyData.eqvAll (a.map enK) (b.map enK))=_;rw [yL,o9 a b,ZZ];simp only [Qj,QE,List.cons.injEq]
theorem pa(a b:StK):PyData.eqv (stK a) (stK b)=decide (a=b):=by
 obtain ⟨a1,a2⟩:=a;obtain ⟨b1,b2⟩:=b;show (a1 == b1&&(PyData.eqvAll (a2.map enK) (b2.map enK)&&true))=_;rw [o9,ZZ];simp only [Qj,Q5,QE,Prod.mk.injEq,and_true]
theorem uE:∀ l:List EnK,av (l.map enK)=true
 | []=>rfl
 | _::l=>uE l
theorem uF:∀ l:List EnK,ap (l.map enK)=true
 | []=>rfl
 | _::l=>uF l
theorem uG:∀ l:List EnK,PyData.depthAll (l.map enK)<=1
 | []=>QF _
 | _::l=>XX.mpr ⟨QO _,uG l⟩
theorem jZ(p:StK):noDict (stK p)=true:=by
 show (av (p.2.map enK)&&true)=true;rw [uE];rfl
theorem r8(p:StK):noList (stK p)=true:=by
 show (ap (p.2.map enK)&&true)=true;rw [uF];rfl
theorem A0(p:StK):(stK p).depth<=3:=by
 have h:=uG p.2;show max 0 (max (PyData.depthAll (p.2.map enK)+1) 0)+1<=3;exact QT (XX.mpr ⟨QF _,XX.mpr ⟨QT h,QF _⟩⟩)
theorem wu{a b:StK}(h:stK a=stK b):a=b:=by
 have:=pa a b;rw [h,pa b b,Qn rfl] at this;exact Qp this.symm
noncomputable def QOk(A:Around)(s:Shared)(n:Nat)(v:Value):Prop:=∀ (E:Value->Shared->Prop) (Q:Bool->Shared->Prop),Q true s->wpAny (model prog w) A (eqIsQuiet n v) Q E s
theorem fj{A:Around}{s:Shared}{a:Addr}{vs:Array Value}{n k:Nat}(ho:s.heap.get? a=some (tupObj vs k))(h:∀ v ∈ vs.toList,QOk (prog:=prog) (w:=w) A s n v):QOk (prog:=prog) (w:=w) A s (n+1) (.ref a):=λE Q hQ=>by
 unfold eqIsQuiet;refine Qd (wpAny_specialOf (⟨_,ho,rfl⟩) F.slot_tuple_eq.lookup ?_);show wpAny _ _ (isInstance (.ref a) (.type "tuple") >>= _) _ _ s;refine Qd (wpAny_isInstance (⟨_,ho,rfl⟩) isSubtype_tuple_tuple ?_);simp only [Yi,QD,if_false];refine Qd (wpAny_seqItems ho rfl ?_);refine Qd ?_;show wpAny _ _ (forIn vs _ _) _ _ s;rw [<- Array.forIn_toList];refine wpAny_forIn_list _ (λrest r s'=>r.1=none/\s'=s/\∀ v ∈ rest,QOk (prog:=prog) (w:=w) A s n v) _ ?_ ?_ _ _ ⟨rfl,rfl,h⟩
 ·clear h ho;rintro v rest r s' ⟨hr,rfl,hall⟩
  refine Qd (hall v (.head _) _ _ ?_);simp only [Yi,QD,if_false];exact Qg ⟨rfl,rfl,λu hu'=>hall u (.tail _ hu')⟩
 ·clear h ho;rintro ⟨r1,r2⟩ s' ⟨hr,rfl,_⟩
  simp only at hr;subst hr;exact Qg hQ
theorem iN{A:Around}{s:Shared}{n:Nat}{v:Value}(h:carriedByValue v=true):QOk (prog:=prog) (w:=w) A s n v:=λE Q hQ=>by
 rw [eqIsQuiet_byValue _ h];exact Qg hQ
theorem r9{A:Around}{s:Shared}{v:Value}{p:StK}{as:List Addr}(r:Rd H s.heap v (stK p) as):QOk (prog:=prog) (w:=w) A s 8 v:=by
 refine byG λX_ g_=>?_;obtain ⟨a,vs,n,t,b,ws,m,bs,rfl,ho,ev,ho2,ra⟩:=cJ r;refine g_ ?_;refine fj ho λv hv=>?_;rw [ev] at hv;rcases Qw hv with rfl | hv
 ·exact iN rfl
 ·cases Qx hv
  refine fj ho2 λv hv=>?_;have:∀ (l:List EnK) (vs:List Value) (bs:List Addr),RdAll H s.heap vs (l.map enK) bs->∀ v ∈ vs,∃ e as,Rd H s.heap v (enK e) as:=by
   intro l;induction l with
   | nil=>intro vs bs r v hv;cases r.nilE;exact (YJ hv).elim
   | cons e l ih=>
    intro vs bs r v hv;refine byG λX_ g_=>?_;obtain ⟨_,_,_,_,rfl,p,r⟩:=r.consE;refine g_ ?_;rcases Qw hv with rfl | hv
    ·exact ⟨_,_,p⟩
    ·exact ih _ _ r v hv
  refine byG λX_ g_=>?_;obtain ⟨e,as,re⟩:=this _ _ _ ra v hv;obtain ⟨a,vs,n,t1,t2,t3,t4,rfl,ho,ev⟩:=ls re;refine g_ ?_;refine fj ho λv hv=>iN ?_;rw [ev] at hv;simp only [YW,YJ,or_false] at hv;rcases hv with rfl | rfl | rfl | rfl | rfl<;>rfl
variable (prog w H)
@[reducible] def stDec:DecidableEq StK:=λa b=>instDecidableEqProd a b
def eE:@HeapKind prog w StK stDec:=
 @HeapKind.mk prog w StK stDec (λh p a=>Rd H h (.ref a) (stK p) []) (cq w) (λp=>6 * p.2.length+3) (λA=>A.units+10 < cLine)
  (λ{h a x y} hx hy=>by
   obtain ⟨_,r1⟩:=hx.reads (jZ x);obtain ⟨_,r2⟩:=hy.reads (jZ y)
   exact wu (SeqAt.Reads.unique _ _ _ _ _ (hx.canLay (jZ x)) r1 r2))
  (λ{h h' k a d o es ep} x ho hd hs=>x.mono' λb ob e hb=>by
   have hne:b ≠ d:=by
    rintro rfl;rw [ho] at e;obtain rfl:=Qv e;clear ho;rcases hb with ⟨vs,n,rfl⟩ | hb
    ·cases hd
    ·exact (YJ hb).elim
   exact (hs.2 b hne).trans e)
  (λ{A E s k a Q} hu hk h=>wt hk hu s.toks E Q h)
  (λ{A E s x y a b Q} hu hx hy h=>by
   obtain ⟨_,r1⟩:=hx.reads (jZ x);obtain ⟨_,r2⟩:=hy.reads (jZ y)
   exact SeqAt.eqAt_reads _ _ A s _ _ _ _ r1 r2 (hx.canLay (jZ x)) (hy.canLay (jZ y)) (Qh (ZQ (QQ (Nat.min_le_left _ _) (QQ (A0 x) (by decide:3<=10))) _) hu) prog w E Q (by rw [pa];exact h))
  (λ{A E s k a Q} hk h=>r9 hk E Q h)
noncomputable def xsK(xs:List (StK × Addr × Value))(ks:List StK):Prop:=xs.map (·.1)=ks/\∀ x ∈ xs,x.2.2 = .bool true
variable {prog w H}
theorem yM{h:Heap}(hH2:∀ p:StK,H (stK p)=cq w p):∀ (ks:List StK) (es:List DictEntry),RdKv H h es (ks.map λk=>(stK k,.bool true))->∃ xs:List (StK × Addr × Value),es=xs.map (@entryOfKey prog w StK stDec (eE prog w H))/\(∀ x ∈ xs,Rd H h (.ref x.2.1) (stK x.1) [])/\xsK xs ks:=by
 intro ks;induction ks with
 | nil=>
  intro es r;cases r;exact ⟨[],rfl,(λx hx=>by exact (YJ hx).elim),rfl,(λx hx=>by exact (YJ hx).elim)⟩
 | cons k ks ih_=>
  intro es r;rw [QX] at r;cases r with
  | @cons e es _ _ _ r1 r2 r3 r4=>
   refine byG λX_ g_=>?_;obtain ⟨xs,h1,h2,h3,h4⟩:=ih_ es r4;obtain ⟨a,_,_,_,_,_,_,_,ek,_⟩:=cJ r1;refine g_ ?_;rw [ek] at r1;refine ⟨(k,a,.bool true)::xs,?_,λx hx=>?_,by rw [QX,h3],λx hx=>?_⟩
   ·rw [QX,<- h1]
    congr 1
    show e=⟨cq w k,.ref a,.bool true⟩
    rw [<- hH2,<- r3,<- ek,<- r2.boolE']
   ·rcases Qw hx with rfl | hx
    ·exact r1
    ·exact h2 x hx
   ·rcases Qw hx with rfl | hx
    ·rfl
    ·exact h4 x hx
theorem sd{h:Heap}(hH2:∀ p:StK,H (stK p)=cq w p):∀ (xs:List (StK × Addr × Value)),(∀ x ∈ xs,Rd H h (.ref x.2.1) (stK x.1) [])->(∀ x ∈ xs,x.2.2 = .bool true)->RdKv H h (xs.map (@entryOfKey prog w StK stDec (eE prog w H))) ((xs.map (·.1)).map λk=>(stK k,.bool true)):=by
 intro xs;induction xs with
 | nil=>
  intro _ _;exact .nil
 | cons x xs ih_=>
  intro h1 h2;rw [QX,QX,QX];refine .cons (h1 x (.head _)) ?_ (hH2 _).symm (ih_ (λy hy=>h1 y (.tail _ hy)) λy hy=>h2 y (.tail _ hy));show Rd H h x.2.2 _ _;rw [h2 x (.head _)];exact .bool _
theorem pb(hH2:∀ p:StK,H (stK p)=cq w p){h:Heap}{v:Value}{kvs:List (D × D)}{as:List Addr}{ks:List StK}(r:Rd H h v (.dict kvs) as)(hk:keysT kvs=some ks)(hn:nodT ks=true):∃ a xs,v = .ref a/\as=[a]/\a ≠ sysModules/\@Heap.DictOfH prog w StK stDec (eE prog w H) h a xs/\xsK xs ks:=by
 cases r with
 | exc=>exact nN hk
 | @dict a es n _ h0 h1 h2=>
  rw [cI hk] at h2;refine byG λX_ g_=>?_;obtain ⟨xs,e1,e2,e3⟩:=yM (prog:=prog) hH2 ks es.toList h2;refine g_ ?_;exact ⟨a,xs,rfl,rfl,h0,⟨_,es,n,h1,⟨rfl,rfl,rfl⟩,rfl,e1,e2,by rw [e3.1];exact lr _ hn⟩,e3⟩
theorem iO(hH2:∀ p:StK,H (stK p)=cq w p){h:Heap}{a:Addr}{xs:List (StK × Addr × Value)}{ks:List StK}(hd:@Heap.DictOfH prog w StK stDec (eE prog w H) h a xs)(hx:xsK xs ks)(h0:a ≠ sysModules):∃ es n,h.get? a=some (dictObj es n)/\Rd H h (.ref a) (.dict (ks.map λk=>(stK k,.bool true))) [a]:=by
 refine byG λX_ g_=>?_;obtain ⟨⟨cls,di,data,sl⟩,es,ep,ho,⟨c1,c2,c3⟩,hdat,he,hi,_⟩:=hd;refine g_ ?_;simp only at c1 c2 c3 hdat;subst c1 c2 c3 hdat;refine ⟨es,ep,ho,.dict h0 ho ?_⟩;rw [he,<- hx.1];exact sd hH2 xs hi hx.2
theorem fk{xs:List (StK × Addr × Value)}{ks:List StK}(hx:xsK xs ks){p:StK}:(@atKey StK stDec xs p).isSome=hasT p ks:=by
 unfold atKey;rw [Option.isSome_map,ZZ,List.find?_isSome,dH,<- hx.1,QG];exact ⟨λ⟨x,h1,h2⟩=>⟨x,h1,Qp h2⟩,λ⟨x,h1,h2⟩=>⟨x,h1,Qn h2⟩⟩
theorem gi{xs:List (StK × Addr × Value)}{ks:List StK}(hx:xsK xs ks){p:StK}{a:Addr}:xsK (@storedH StK stDec xs p a (.bool true)) (if hasT p ks then ks else ks++[p]):=by
 unfold storedH;rw [fk hx];split
 ·refine ⟨(@keys_map_putAt StK stDec xs p (.bool true)).trans hx.1,λx hm=>?_⟩
  obtain ⟨y,hy,rfl⟩:=QG.mp hm;unfold putAt;split
  ·rfl
  ·exact hx.2 y hy
 ·refine ⟨by rw [Qb,hx.1];rfl,λx hm=>?_⟩
  rcases QY hm with hm | hm
  ·exact hx.2 x hm
  ·rw [Qx hm]
theorem lu{ks:List StK}{kvs:List (D × D)}(hk:keysT kvs=some ks)(p:StK):dPutT p ks kvs=(if hasT p ks then ks else ks++[p]).map λk=>(stK k,PyData.bool true):=by
 unfold dPutT;rw [cI hk];split
 ·rfl
 ·rw [Qb];rfl
theorem uH:∀ ks:List StK,eh (ks.map λk=>(stK k,PyData.bool true))=true
 | []=>rfl
 | k::ks=>by
  show (noList (stK k)&&noList (.bool true)&&eh (ks.map λk=>(stK k,PyData.bool true)))=true;rw [r8,uH ks];rfl
end
theorem pc{vs:Array Value}{xs:List D}(h:vs.toList.length=xs.length):vs.isEmpty=xs.isEmpty:=by
 induction xs using lc with
 | nil=>
  have:vs = #[]:=by simpa using h
  exact Qf _ this
 | cons x xs=>
  have:vs.isEmpty=false:=by
   induction q:vs.isEmpty with
   | false=>rfl
   | true=>rw [YN.mp q] at h;simp at h
  exact this ▸ rfl
theorem uB(hd:d<=32)(h:u+200 < c):u+1+d < c:=Qh (QQ (Zd (Nat.add_assoc u 1 d)) (ZQ (QQ (ZQ hd 1) (by decide)) u)) h
section
variable {P:Pk}{r:Nat}{c:TC}{A:Around}{s:Shared}
theorem fo{v:Value}{d:D}{Q:Bool->Shared->Prop}{E:Value->Shared->Prop}{b:Bool}(rd:Rd P.H s.heap v d as)(hd:truth d=some b)(h:∀ tk,Q b { s with toks:=tk }) :
 wpAny (model P.prog P.w) A (truthy v) Q E s:=by
 have h':=h (s.toks+1+1);have hz:(sizeLine:Int) < 2 ^ 63:=by decide
 induction rd using Rd.casesOn with
 | none=>clear h';obtain rfl:=Qv hd;exact PyProof.Rows.truthy_none (h s.toks)
 | bool b=>clear h';obtain rfl:=Qv hd;exact ZS (h s.toks)
 | int i t=>clear h';obtain rfl:=Qv hd;exact PyProof.Rows.truthy_int (h s.toks)
 | str x t hs ho=>
  clear ho h';obtain rfl:=Qv hd;refine PySem.P.truthy_str (by exact Yh.mpr (QH (QB.mpr hs) hz)) ?_;have e:(((x.length:Nat):Int) != 0)=(x.length != 0):=by
   induction q:x.length using nc with
   | zero=>rfl
   | succ n=>simp;exact λh=>Nat.succ_ne_zero n (Int.ofNat.inj h)
  exact e ▸ h _
 | @list a vs n xs as h1 hs r1=>
  clear h';obtain rfl:=Qv hd;refine wpAny_truthy_list ⟨_,h1,rfl,_,rfl⟩ (by exact QH (QB.mpr hs) hz) ?_;exact (pc r1.length) ▸ h _
 | @tuple a vs n xs as h1 hs r1=>
  clear h';obtain rfl:=Qv hd;refine PyProof.Rows.truthy_tuple ⟨_,h1,rfl,_,rfl⟩ (by exact QH (QB.mpr hs) hz) ?_;exact (pc r1.length) ▸ h _
 | dict _ _=>exact nN hd
 | exc=>exact nN hd
theorem cA(h:isScalar d=true):noDict d=true/\d.depth=0:=by
 cases d<;>first | (cases h;done) | exact ⟨rfl,rfl⟩
set_option tactic.hygienic true in
theorem pd(h:pyEq a b=some q):noDict a=true/\noDict b=true/\min a.depth b.depth<=32/\q=a.eqv b:=by
 unfold pyEq at h;split at h
 ·rename_i hc
  obtain rfl:=Qv h;rw [Ze,Qj,Qj] at hc;rcases hc with ⟨h1,h2⟩ | ⟨h1,h2⟩
  ·have:=cA h1
   have:=cA h2;exact ⟨by simp_all,by simp_all,by simp_all,rfl⟩
  ·simp only [shp,Qj,QE] at h1 h2
   exact ⟨h1.1,h2.1,by exact QQ (Nat.min_le_left ..) h1.2,rfl⟩
 ·exact nN h
set_option tactic.hygienic true in
theorem lw(h:anyEq x xs=some q):av xs=true/\noDict x=true/\x.depth<=32/\q=xs.any λy=>y.eqv x:=by
 unfold anyEq at h;split at h
 ·rename_i hc
  obtain rfl:=Qv h;simp only [shp,Qj,QE] at hc;exact ⟨hc.1,hc.2.1,hc.2.2,rfl⟩
 ·exact nN h
theorem iP(h:subStrOne x y=some q):q = !(Builtin.Str.occurrences y x 0 y.length 1).isEmpty:=by
 unfold subStrOne at h;induction e:x.cps.toList using lc with
 | nil=>exact nN (e ▸ h)
 | cons c l=>
  rw [e] at h;induction l using lc with
  | nil=>
   obtain rfl:=Qv h;rw [show x=⟨#[c]⟩ from Qf Str.mk (Array.ext' e),StrLaws.found_one]
  | cons=>exact nN h
theorem lx(r:Rd H h x d as)(e:isN d=true):x = .none:=by
 have:d = .none:=by induction d using dc<;>first | rfl | exact nF e
 clear e;subst this;cases r;rfl
theorem uI(r:Rd H h x d as)(e:isN d=false):x ≠ .none:=by
 rintro rfl;have:d = .none:=by cases r;rfl
 clear r;subst this;exact nT e
theorem pe{motive:D->D->Bool->Prop}(hl:∀ x xs q,anyEq x xs=some q->motive x (.list xs) q)(ht:∀ x xs q,anyEq x xs=some q->motive x (.tuple xs) q)
 (hs:∀ x y q,subStrOne x y=some q->motive (.str x) (.str y) q)
 (hd:∀ x kvs,dictOk kvs=true->motive (.str x) (.dict kvs) (dHas x kvs))
 (hT:∀ p kvs ks,keysT kvs=some ks->nodT ks=true->motive (stK p) (.dict kvs) (hasT p ks))
 : ∀ {dx dy:D} {q:Bool},pyIn dx dy=some q->motive dx dy q:=by
 intro dx dy q he;induction dy using dc with
 | list xs=>exact hl dx xs q he
 | tuple xs=>exact ht dx xs q he
 | str y=>induction dx using dc<;>first | (exact nN he;done) | exact hs _ y q he
 | dict kvs=>
  replace he:dIn dx kvs=some q:=he;unfold dIn at he;induction hk:strK dx with
  | some x=>
   rw [hk] at he;obtain ⟨hok,rfl⟩:=aE he;have hx:=ba hk;subst hx;exact hd x kvs hok
  | none=>
   rw [hk] at he;refine aa he λp e1 he=>?_;refine aa he λks e2 he=>?_;obtain ⟨hn,rfl⟩:=aE he;exact (eQ e1) ▸ hT p kvs ks e2 hn
 | _=>exact nN he
noncomputable def InOk(P:Pk)(A:Around)(s:Shared)(x y:Value)(q:Bool):Prop:=
 (∀ {Q:Value->Shared->Prop} {E:Value->Shared->Prop},(∀ tk,Q (.bool q) { s with toks:=tk })->wpAny (model P.prog P.w) A (compareOp .In x y) Q E s)/\(∀ {Q:Value->Shared->Prop} {E:Value->Shared->Prop},(∀ tk,Q (.bool (!q)) { s with toks:=tk })->wpAny (model P.prog P.w) A (compareOp .NotIn x y) Q E s)
theorem uJ{dx dy:D}{q:Bool}(hH:∀ x:Str,P.H (.str x)=hashStr P.w x)
 (hH2:∀ p:StK,P.H (stK p)=cq P.w p)
 (hu:A.units+200 < cLine) (he:pyIn dx dy=some q) (rx:Rd P.H s.heap x dx as) (ry:Rd P.H s.heap y dy bs) :
 InOk P A s x y q:=by
 revert rx ry;refine pe (motive:=λdx dy q=>Rd P.H s.heap x dx as->Rd P.H s.heap y dy bs->InOk P A s x y q) (λdx xs q he rx ry=>?_) (λdx xs q he rx ry=>?_)
  (λx y q he rx ry=>?_)
  (λx' kvs hok rx ry=>?_)
  (λp kvs ks hk hn rx ry=>?_)
  he
 ·obtain ⟨h1,h2,h3,rfl⟩:=lw he
  obtain ⟨as',ra⟩:=rx.reads h2;obtain ⟨bs',rb⟩:=ry.reads h1;cases ry using Rd.listE with
  | mk _ _ r1=>exact ⟨λh=>SeqAt.in_list_reads rb ra (r1.canLay h1) (rx.canLay h2) (by exact uB (QQ (Z7 ..) h3) hu) (h s.toks),λh=>SeqAt.notIn_list_reads rb ra (r1.canLay h1) (rx.canLay h2) (by exact uB (QQ (Z7 ..) h3) hu) (h s.toks)⟩
 ·obtain ⟨h1,h2,h3,rfl⟩:=lw he
  obtain ⟨as',ra⟩:=rx.reads h2;obtain ⟨bs',rb⟩:=ry.reads h1;cases ry using Rd.tupleE with
  | mk _ _ r1=>exact ⟨λh=>SeqAt.in_tuple_reads rb ra (r1.canLay h1) (rx.canLay h2) (by exact uB (QQ (Z7 ..) h3) hu) (h s.toks),λh=>SeqAt.notIn_tuple_reads rb ra (r1.canLay h1) (rx.canLay h2) (by exact uB (QQ (Z7 ..) h3) hu) (h s.toks)⟩
 ·cases rx using Rd.strE;cases ry using Rd.strE
  exact ⟨λh=>PySem.P.in_str (by exact ((iP he)) ▸ h s.toks),λh=>PySem.P.notIn_str (by exact ((iP he)) ▸ h s.toks)⟩
 ·obtain ⟨a,l,rfl,rfl,h0,hd,hk⟩:=oP (prog:=P.prog) hH ry hok
  cases rx using Rd.strE with
  | mk t hz ho=>
   have hi:(strKind P.prog P.w).is x' (.str x' t)=true:=by simp [strKind,Value.isStrOf]
   exact ⟨λh=>wpAny_in_of (knd:=strKind P.prog P.w) (k:=x') hi (by simpa using h0) hd.mapOf (by rw [fi hk];exact h _),λh=>wpAny_notIn_of (knd:=strKind P.prog P.w) (k:=x') hi (by simpa using h0) hd.mapOf (by rw [fi hk];exact h _)⟩
 ·refine byG λX_ g_=>?_
  obtain ⟨a,xs,rfl,rfl,h0,hd,hx⟩:=pb (prog:=P.prog) hH2 ry hk hn;obtain ⟨b,_,_,_,_,_,_,_,rfl,_⟩:=cJ rx;refine g_ ?_;have has:as=[]:=rx.noAddr (r8 p);subst has;have hu1:A.in1.units+10 < cLine:=by rw [Around.in1_units];exact uB (by decide) hu
  exact ⟨λh=>@wpAny_in_heap P.prog P.w StK stDec (eE P.prog P.w P.H) A _ s a b p xs _ hu1 rx (by simpa using h0) hd (by exact (fk hx) ▸ h _),λh=>@PyProof.Rows.wpAny_notIn_heap P.prog P.w StK stDec (eE P.prog P.w P.H) a b A _ s p xs _ hu1 rx (by simpa using h0) hd (by exact (fk hx) ▸ h _)⟩
theorem cop(hHH:uC P)(hA:Room P.lp A r)(rx:Rd P.H s.heap x dx as)(ry:Rd P.H s.heap y dy bs)(he:br op dx dy=some q)
 (h':∀ tk,Q (.bool q) { s with toks:=tk }):wpAny (model P.prog P.w) A (compareOp op x y) Q E s:=by
 have hu:A.units+200 < cLine:=Qh (by exact QC (QI _ _) (by decide)) hA.units;induction op with
 | Eq=>
  refine byG λX_ g_=>?_;obtain ⟨h1,h2,h3,rfl⟩:=pd (show pyEq dx dy=some q from he);obtain ⟨as',ra⟩:=rx.reads h1;obtain ⟨bs',rb⟩:=ry.reads h2;refine g_ ?_;exact SeqAt.compareEq_reads ra rb (rx.canLay h1) (ry.canLay h2) (by exact Qh (ZQ (QQ h3 (by decide)) _) hu) (h' s.toks)
 | NotEq=>
  refine byG λX_ g_=>?_;obtain ⟨b,e0,rfl⟩:=ad (show (pyEq dx dy).map (!·)=some q from he);obtain ⟨h1,h2,h3,rfl⟩:=pd e0;obtain ⟨as',ra⟩:=rx.reads h1;obtain ⟨bs',rb⟩:=ry.reads h2;refine g_ ?_;exact SeqAt.compareNe_reads ra rb (rx.canLay h1) (ry.canLay h2) (by exact Qh (ZQ (QQ h3 (by decide)) _) hu) (h' s.toks)
 | Lt=>
  rcases r5 he with ⟨xs,ys,rfl,rfl,he⟩ | he
  ·cases rx using Rd.tupleE with
   | mk h1 z1 r1=>
    cases ry using Rd.tupleE with
    | mk h2 z2 r2=>exact r6 h1 h2 r1 r2 he (by exact Qh (QI _ _) hu) h'
  obtain ⟨p,e0,rfl⟩:=ad (show (bL dx dy).map (λp=>decide (p.1 < p.2))=some q from he);obtain ⟨t,u,rfl,rfl⟩:=bq rx ry e0;exact PyProof.Rows.lt_int (h' s.toks)
 | LtE=>
  obtain ⟨p,e0,rfl⟩:=ad (show (bL dx dy).map (λp=>decide (p.1<=p.2))=some q from he);obtain ⟨t,u,rfl,rfl⟩:=bq rx ry e0;exact PyProof.Rows.le_int (h' s.toks)
 | Gt=>
  obtain ⟨p,e0,rfl⟩:=ad (show (bL dx dy).map (λp=>decide (p.2 < p.1))=some q from he);obtain ⟨t,u,rfl,rfl⟩:=bq rx ry e0;exact PyProof.Rows.gt_int (h' s.toks)
 | GtE=>
  obtain ⟨p,e0,rfl⟩:=ad (show (bL dx dy).map (λp=>decide (p.2<=p.1))=some q from he);obtain ⟨t,u,rfl,rfl⟩:=bq rx ry e0;exact PyProof.Rows.ge_int (h' s.toks)
 | In=>exact (uJ hHH.1
  hHH.2.1
  hu (show pyIn dx dy=some q from he) rx ry).1 h'
 | NotIn=>
  refine byG λX_ g_=>?_;obtain ⟨b,e0,rfl⟩:=ad (show (pyIn dx dy).map (!·)=some q from he);refine g_ ?_
  exact (uJ hHH.1
  hHH.2.1
  hu e0 rx ry).2 h'
 | Is=>
  obtain ⟨hy,rfl⟩:=aE (show (if isN dy then some (isN dx) else none)=some q from he);have:=lx ry hy;subst this;induction hx:isN dx with
  | true=>rw [hx] at h';have:=lx rx hx;subst this;exact PyProof.Rows.is_none_gen (h' s.toks)
  | false=>rw [hx] at h';exact PyProof.Rows.is_none_ne (uI rx hx) (h' s.toks)
 | IsNot=>
  obtain ⟨hy,rfl⟩:=aE (show (if isN dy then some (!isN dx) else none)=some q from he);have:=lx ry hy;clear he hy hu ry hA hHH;subst this;induction hx:isN dx with
  | true=>rw [hx] at h';have:=lx rx hx;subst this;exact PyProof.Rows.isnot_none_gen (h' s.toks)
  | false=>rw [hx] at h';exact PyProof.Rows.isnot_none_ne (uI rx hx) (h' s.toks)
end
section
variable {P:Pk}{r:Nat}{c:TC}
structure Pre(P:Pk)(r:Nat)(c:TC)(A:Around)(env:Env)(s:Shared)(m:St)(ow:List Nat)(own:Nat->Addr)(G:Addr->Prop):Prop where
 room:Room P.lp A r
 gp:P.GP s.heap
 er:EnvR P.H c env ow own G s.heap m
 new:∀ a,s.heap.get? a=none->G a
theorem Pre.keeps(p:Pre P r c A env s m ow own G)(k:Kp s s'):Pre P r c A env s' m ow own G:=
 ⟨p.room,p.gp.keeps k.get,p.er.keeps k.get,λa e=>p.new a (k.none e)⟩
theorem SE.use(h:P.SE r c e e')(p:Pre P r c A env s m ow own G)(hok:okE ow e'=true)(hev:evE P.Φ P.Γ e' m=some d)
 (hq:∀ v s',PostE P ow own G e' d s v s'->Q v s'):wpAny (model P.prog P.w) A (eval e env) Q (λo_ Z=>False) s:=
 Qs (h A env s m ow own G d p.room p.gp p.er p.new hok hev) hq λo_ Z x=>x
theorem SE.us(h:P.SE r c e e')(p:Pre P r c A env s m ow own G)(hok:okE ow e'=true)(hev:evE P.Φ P.Γ e' m=some d)
 (hq:∀ v s',Kp s s'->∀ as,Rd P.H s'.heap v d as->(isOw ow e'=false->∀ a ∈ as,G a)->(isOw ow e'=true->flat d=true)->(frE e'=true->flat d=true->∀ a ∈ as,s.heap.get? a=none)->(isOw ow e'=true->∀ a ∈ as,a=ownA own e')->Q v s'):wpAny (model P.prog P.w) A (eval e env) Q (λo_ Z=>False) s:=
 SE.use h p hok hev λv s' q=>q.2.elim λas r=>hq v s' q.1 as r.1 r.2.1 r.2.2.1 r.2.2.2.1 r.2.2.2.2
theorem ST.use(h:P.ST r c e e')(p:Pre P r c A env s m ow own G)(hok:okE ow e'=true)(hev:evE P.Φ P.Γ e' m=some d)(ht:truth d=some b)
 (hq:∀ s',Kp s s'->Q b s'):wpAny (model P.prog P.w) A (isTrue e env (eval e env)) Q (λo_ Z=>False) s:=
 Qs (h A env s m ow own G d b p.room p.gp p.er p.new hok hev ht) (λb s' q=>by rw [q.1];exact hq s' q.2) λo_ Z x=>x
theorem two(ha:P.SE r c a a')(hb:P.SE r c b b'){own:Nat->Addr}{G:Addr->Prop}{dx dy:D}(p:Pre P r c A env s m ow own G)
 (ha1:okE ow a'=true) (hb1:okE ow b'=true) (ha2:evE P.Φ P.Γ a' m=some dx) (hb2:evE P.Φ P.Γ b' m=some dy) {Q:Value->Value->Shared->Prop}
 (h:∀ x y s2 as bs,Kp s s2->Rd P.H s2.heap x dx as->Rd P.H s2.heap y dy bs->(isOw ow a'=false->∀ i ∈ as,G i)->(isOw ow a'=true->flat dx=true) ->
  (isOw ow b'=false->∀ i ∈ bs,G i)->(isOw ow b'=true->flat dy=true)->Q x y s2) :
 wpAny (model P.prog P.w) A (eval a env) (λx s1=>wpAny (model P.prog P.w) A (eval b env) (λy s2=>Q x y s2) (λo_ Z=>False) s1) (λo_ Z=>False) s:=by
 refine SE.us ha p ha1 ha2 λx s1 k1 as rx g1 f1 Z Z=>?_;refine SE.us hb (p.keeps k1) hb1 hb2 λy s2 k2 bs ry g2 f2 Z Z=>?_;exact h x y s2 as bs (k1.trans k2) (rx.keeps k2.get) ry g1 f1 g2 f2
theorem PostV.toE(k:Kp s s2)(q:PostV P s2 U d v s')(hi:isOw ow e'=false)(hn:∀ a,s.heap.get? a=none->G a)(hU:∀ a,U a->G a):PostE P ow own G e' d s v s':=by
 refine byG λX_ g_=>?_;obtain ⟨k2,cs,rd,h1,h2⟩:=q;refine g_ ?_;refine ⟨k.trans k2,cs,rd,λo_ a m=>?_,λx=>(by rw [hi] at x;exact nF x),λo_ hf a m=>k.none (h2 hf a m),λx=>(by rw [hi] at x;exact nF x)⟩;exact (h1 a m).elim (λx=>hn a (k.none x)) (hU a)
theorem se(ha:P.SE r c l a)(hb:P.SE r c rr b):P.SE r c (.BinOp l op rr pos) (.bin op a b):=by
 intro A env s m ow own G d hA hg R hG hok hev;simp only [AS,Qj] at hok;simp only [yg] at hev;refine aa hev λdx e1 hev=>?_;refine aa hev λdy e2 hev=>?_;refine wpAny_BinOp (two ha hb (⟨hA,hg,R,hG⟩) hok.1 hok.2 e1 e2 λx y s2 as bs k rx ry g1 f1 g2 f2=>?_);refine Qs (bop rx ry hev) (λv s' q=>PostV.toE k q rfl hG λa u=>?_) λo_ Z x=>x;exact u.elim (rx.innG g1 f1 a) (ry.innG g2 f2 a)
theorem bA(h:isSet e=false):behindInMarks op e=false:=by
 cases e<;>first | rfl | exact nT h
theorem j4(hs:isSet rr=false)(ha:P.SE r c l a)(hb:P.SE r c rr b):P.SE r c (.Compare l [op] [rr] pos) (.cmp op a b):=by
 intro A env s m ow own G d hA hg R hG hok hev;have p:Pre P r c A env s m ow own G:=⟨hA,hg,R,hG⟩
 simp only [yH,Qj] at hok;simp only [vI] at hev;refine byG λX_ g_=>?_;refine aa hev λdx e1 hev=>?_;refine aa hev λdy e2 hev=>?_;obtain ⟨q,e3,rfl⟩:=ad hev;refine g_ ?_;exact wpAny_Compare1 (two ha hb p hok.1 hok.2 e1 e2 λx y s2 as bs k rx ry g1 f1 g2 f2=>cop hg.hs hA rx ry e3 (λtk=>PostE.flat0 (k.trans (Kp.toks s2 tk)) (.bool q) rfl rfl)) (bA hs)
theorem j6(hs:isSet rr=false)(ha:P.SE r c l a)(hb:P.SE r c rr b):P.ST r c (.Compare l [op] [rr] pos) (.cmp op a b):=by
 intro A env s m ow own G d bb hA hg R hG hok hev ht;have p:Pre P r c A env s m ow own G:=⟨hA,hg,R,hG⟩
 simp only [yH,Qj] at hok;simp only [vI] at hev;refine aa hev λdx e1 hev=>?_;refine aa hev λdy e2 hev=>?_;obtain ⟨q,e3,rfl⟩:=ad hev;refine wpAny_isTrue_Compare1 (two ha hb p hok.1 hok.2 e1 e2 λx y s2 as bs k rx ry g1 f1 g2 f2=>cop hg.hs hA rx ry e3 λtk=>?_) (bA hs);obtain rfl:=Qv ht;exact ZS ⟨rfl,k.trans (Kp.toks s2 tk)⟩
theorem sf(hb:P.SE r c r1 b)(hc:P.SE r c r2 c')(p:Pre P r c A env s m ow own G)(k1:okE ow b=true)(k2:okE ow c'=true)
 (rx:Rd P.H s.heap x dx as) (hev:((evE P.Φ P.Γ b m).bind λy=>(br o1 dx y).bind λr=>if r then (evE P.Φ P.Γ c' m).bind λz=>(br o2 y z).map PyData.bool else some (.bool false))=some (.bool q))
 (hq:∀ s',Kp s s'->Q (.bool q) s'):wpAny (model P.prog P.w) A (compareChain pos x [o1,o2] [eval r1 env,eval r2 env]) Q (λo_ Z=>False) s:=by
 refine aa hev λdy e1 hev=>?_;refine aa hev λb1 e2 hev=>?_;refine PyProof.Rows.chain_link (SE.us hb p k1 e1 λy s1 kp1 bs ry Z Z Z Z=>?_);refine cop p.gp.hs p.room (rx.keeps kp1.get) ry e2 λtk=>ZS ?_;clear e2 e1 rx k1 hb;induction b1 with
 | false=>
  obtain rfl:=PyData.bool.inj (Qv hev);exact hq _ (kp1.trans (Kp.toks s1 tk))
 | true=>
  refine aa hev λdz e3 hev=>?_;obtain ⟨b2,e4,hev⟩:=ad hev;obtain rfl:=PyData.bool.inj hev;refine PyProof.Rows.chain_last (SE.us hc (p.keeps (kp1.trans (Kp.toks s1 tk))) k2 e3 λz s2 kp3 cs rz Z Z Z Z=>?_);exact cop p.gp.hs p.room (ry.keeps ((Kp.toks s1 tk).trans kp3).get) rz e4 λtk2=>hq _ (((kp1.trans (Kp.toks s1 tk)).trans kp3).trans (Kp.toks s2 tk2))
theorem iQ(h:((evE P.Φ P.Γ b m).bind λy=>(br o1 dx y).bind λr=>if r then (evE P.Φ P.Γ c' m).bind λz=>(br o2 y z).map PyData.bool else some (.bool false))=some d):∃ q,d = .bool q:=by
 refine aa h λdy Z h=>?_;refine aa h λb1 Z h=>?_;induction b1 with
 | false=>obtain rfl:=Qv h;exact ⟨_,rfl⟩
 | true=>
  refine aa h λdz Z h=>?_;obtain ⟨b2,_,rfl⟩:=ad h;exact ⟨_,rfl⟩
theorem wv(hm:lastMarks [o1,o2] [r1,r2]=false)(ha:P.SE r c l a)(hb:P.SE r c r1 b)(hc:P.SE r c r2 c'):P.SE r c (.Compare l [o1,o2] [r1,r2] pos) (.cmp2 o1 o2 a b c'):=by
 intro A env s m ow own G d hA hg R hG hok hev;have p:Pre P r c A env s m ow own G:=⟨hA,hg,R,hG⟩
 replace hok:(okE ow a&&okE ow b&&okE ow c')=true:=hok;rw [Qj,Qj] at hok;rw [nZ] at hev;refine byG λX_ g_=>?_;refine aa hev λdx e1 hev=>?_;obtain ⟨q,rfl⟩:=iQ hev;refine g_ ?_;refine PyProof.Rows.Compare_chain (SE.us ha p hok.1.1 e1 λx s1 k1 as rx Z Z Z Z=>?_) hm;exact sf hb hc (p.keeps k1) hok.1.2 hok.2 rx hev λs' k=>PostE.flat0 (k1.trans k) (.bool q) rfl rfl
theorem ww(hm:lastMarks [o1,o2] [r1,r2]=false)(ha:P.SE r c l a)(hb:P.SE r c r1 b)(hc:P.SE r c r2 c'):P.ST r c (.Compare l [o1,o2] [r1,r2] pos) (.cmp2 o1 o2 a b c'):=by
 intro A env s m ow own G d bb hA hg R hG hok hev ht;have p:Pre P r c A env s m ow own G:=⟨hA,hg,R,hG⟩
 replace hok:(okE ow a&&okE ow b&&okE ow c')=true:=hok;rw [Qj,Qj] at hok;rw [nZ] at hev;refine aa hev λdx e1 hev=>?_;refine PyProof.Rows.isTrue_chain (SE.us ha p hok.1.1 e1 λx s1 k1 as rx Z Z Z Z=>?_) hm;refine aa hev λdy e1 hev=>?_;refine aa hev λb1 e2 hev=>?_;refine PyProof.Rows.test_link (SE.us hb (p.keeps k1) hok.1.2 e1 λy s1 kp1 bs ry Z Z Z Z=>?_);refine cop p.gp.hs p.room (rx.keeps kp1.get) ry e2 λtk=>ZS ?_;have kp2:=(k1.trans kp1).trans (Kp.toks s1 tk);induction b1 with
 | false=>
  obtain rfl:=Qv hev;obtain rfl:=Qv ht;exact ⟨rfl,kp2⟩
 | true=>
  refine byG λX_ g_=>?_;refine aa hev λdz e3 hev=>?_;obtain ⟨b2,e4,hev⟩:=ad hev;refine g_ ?_;subst hev;clear hev g_ e2 kp1 e1 rx k1 hG R hg hA hb ha hm;obtain rfl:=Qv ht;refine PyProof.Rows.test_last (SE.us hc (p.keeps kp2) hok.2 e3 λz s2 kp3 cs rz Z Z Z Z=>?_);exact cop p.gp.hs p.room (ry.keeps ((Kp.toks s1 tk).trans kp3).get) rz e4 λtk2=>ZS ⟨rfl,(kp2.trans kp3).trans (Kp.toks s2 tk2)⟩
theorem sg(h:P.SE r c e e')(hp:∀ env:Env,isTrue e env (eval e env)=(do let v <- eval e env;standAt e.pos;holding [v] (truthy v))):P.ST r c e e':=by
 intro A env s m ow own G d b hA hg R hG hok hev ht;refine PyProof.Rows.isTrue_plain (SE.us h (⟨hA,hg,R,hG⟩) hok hev λv s' k as rd Z Z Z Z=>?_) (hp env);exact fo rd ht λtk=>⟨rfl,k.trans (Kp.toks s' tk)⟩
end
inductive SEL (P:Pk) (r:Nat) (c:TC):List Expr->Exs->Prop
 | nil:SEL P r c [] .nil
 | cons {e:Expr} {e':Ex} {es:List Expr} {es':Exs}:isStar e=false->P.SE r c e e'->P.ST r c e e'->SEL P r c es es'->SEL P r c (e::es) (.cons e' es')
section
variable {P:Pk}{r:Nat}{c:TC}
theorem bU(h:okEs ow (.cons e es)=true):okE ow e=true/\okEs ow es=true:=Qz h
theorem fq(h:nmEs ow (.cons e es)=true):isOw ow e=false/\nmEs ow es=true:=by
 have:=Qz (show (!isOw ow e&&nmEs ow es)=true from h);exact ⟨(QS _).mp this.1,this.2⟩
theorem b7(h:SEL P r c es es'):∀ {A:Around} {env:Env} {s:Shared} {m:St} {ow:List Nat} {own:Nat->Addr} {G:Addr->Prop} {ds:List D},Pre P r c A env s m ow own G ->
 okEs ow es'=true->evEs P.Φ P.Γ es' m=some ds->∀ {Q:List Value->Shared->Prop},(∀ vs s' as,Kp s s'->RdAll P.H s'.heap vs ds as->(nmEs ow es'=true->∀ a ∈ as,G a)->Q vs s') ->
 wpAny (model P.prog P.w) A (spliced (backTo pos (starEach es env))) Q (λo_ Z=>False) s:=by
 induction h with
 | nil=>
  intro A env s m ow own G ds _ _ hev Q h;induction Qv (show some []=some ds from hev)
  exact Calls.spliced_nil (h [] s [] (Kp.refl s) .nil λo_ Z q=>((YJ q).elim))
 | @cons e e' es es' hs h1 _ h2 ih=>
  intro A env s m ow own G ds p hok hev Q h;refine byG λX_ g_=>?_;obtain ⟨hk1,hk2⟩:=bU hok;refine aa hev λd e1 hev=>?_;obtain ⟨dr,e2,rfl⟩:=ad hev;refine g_ ?_;refine Zv (SE.us h1 p hk1 e1 λv s1 k1 as rd g1 Z Z Z=>?_) (ak hs es env);refine ih (p.keeps k1) hk2 e2 λvs s2 bs k2 rs g2=>h (v::vs) s2 (as++bs) (k1.trans k2) (.cons (rd.keeps k2.get) rs) λhn a q=>?_;obtain ⟨n1,n2⟩:=fq hn;exact (QY q).elim (g1 n1 a) (g2 n2 a)
theorem fs(h:SEL P r c es es'):∀ {ds:List D},evEs Φ Γ es' m=some ds->ds.length=es.length:=by
 induction h with
 | nil=>intro ds h;induction Qv (show some []=some ds from h);rfl
 | cons _ _ _ h2 ih=>
  intro ds h;refine aa h λd Z h=>?_;obtain ⟨dr,e2,rfl⟩:=ad h;rw [QV,QV,ih e2]
theorem si(hl:es.length<=100)(h:SEL P r c es es'):P.SE r c (.Tuple es k pos) (.tup es'):=by
 intro A env s m ow own G d hA hg R hG hok hev;simp only [AQ,Qj] at hok;simp only [ye] at hev;obtain ⟨ds,e1,rfl⟩:=ad hev;refine PyProof.Rows.Tuple_ (b7 h (⟨hA,hg,R,hG⟩) hok.1 e1 λvs s' as k rs g=>?_);have hz:vs.length<=sizeLine:=by exact rs.length ▸ (fs h e1) ▸ (QQ hl (by decide))
 refine ZT ?_ (by show vs.toArray.size<=sizeLine;exact hz);exact PostV.toE k (PostV.newTuple (U:=G) (hz) (rs) λa q=>.inr (g hok.2 a q)) rfl hG λo_ u=>u
theorem wx(hl:es.length<=100)(h:SEL P r c es es'):P.SE r c (.List es pos) (.lst es'):=by
 intro A env s m ow own G d hA hg R hG hok hev;have p:Pre P r c A env s m ow own G:=⟨hA,hg,R,hG⟩
 simp only [AR,Qj] at hok;simp only [yf] at hev;obtain ⟨ds,e1,rfl⟩:=ad hev;refine PyProof.Rows.List_ (b7 h p hok.1 e1 λvs s' as k rs g=>?_);have hz:vs.length<=sizeLine:=by exact rs.length ▸ (fs h e1) ▸ (QQ hl (by decide))
 refine ZT ?_ (by show vs.toArray.size<=sizeLine;exact hz);exact PostV.toE k (PostV.newList (U:=G) (hz) (rs) λa q=>.inr (g hok.2 a q)) rfl hG λo_ u=>u
theorem sj(h:SEL P r c es es'):∀ {A:Around} {env:Env} {s:Shared} {m:St} {ow:List Nat} {own:Nat->Addr} {G:Addr->Prop} {d:D},Pre P r c A env s m ow own G ->
 okEs ow es'=true->nmEs ow es'=true->evB P.Φ P.Γ (op == .And) es' m=some d ->
 wpAny (model P.prog P.w) A (boolOp pos op (evalEach es env)) (λv s'=>Kp s s'/\∃ as,Rd P.H s'.heap v d as/\∀ a ∈ as,G a) (λo_ Z=>False) s:=by
 induction h with
 | nil=>intro A env s m ow own G d _ _ _ hev;cases (show none=some d from hev)
 | @cons e e' es es' hs h1 _ h2 ih=>
  intro A env s m ow own G d p hok hn hev;have hk2:=(bU hok).2;have n1:=(fq hn).1;have n2:=(fq hn).2;cases h2 with
  | nil=>
   show wpAny _ A (eval e env) _ _ s;refine SE.us h1 p ((bU hok).1) hev λv s1 k1 as rd g1 Z Z Z=>?_;exact ⟨k1,as,rd,g1 n1⟩
  | @cons f f' es es' hs2 h3 h4 h5=>
   refine aa hev λdx e1 hev=>?_;refine aa hev λb e2 hev=>?_
   show wpAny _ A (do
    let v <- eval e env
    standAt pos
    let t <- holding [v] (truthy v)
    match op,t with
    | .And,false | .Or,true=>pure v
    | _,_=>boolOp pos op (evalEach (f::es) env)) _ _ s
   refine Qd (SE.us h1 p ((bU hok).1) e1 λv s1 k1 as rd g1 Z Z Z=>?_);refine Qd (Yx (Qd (Zl (fo rd e2 λtk=>?_))));have k2:Kp s { s1 with toks:=tk }:=k1.trans (Kp.toks s1 tk)
   by_cases hb:b=(op == .And)
   ·rw [Ql hb] at hev
    subst hb;have:=Qs (Q':=λv s'=>Kp s s'/\∃ as,Rd P.H s'.heap v d as/\∀ a ∈ as,G a) (ih (p.keeps k2) hk2 n2 hev) (λv' s' q=>⟨k2.trans q.1,q.2⟩) λo_ Z x=>x;clear e2 Z k1 e1 ih n2 hk2 hn hok h5 h4 h3 hs2 p h1 hs;induction op<;>exact this
   ·rw [Qu hb] at hev
    obtain rfl:=Qv hev;clear hev Z k1 e2 e1 ih n2 hk2 hn hok h5 h4 h3 hs2 p h1 hs;induction op<;>induction b<;>first | exact Qg ⟨k2,as,rd,(g1 n1)⟩ | exact absurd rfl hb
theorem pg(h:SEL P r c vs es'):P.SE r c (.BoolOp op vs pos) (.bool (op == .And) es'):=by
 intro A env s m ow own G d hA hg R hG hok hev;simp only [uA,Qj] at hok;simp only [fc] at hev;rw [arm_eval_BoolOp];refine Qs (sj h (⟨hA,hg,R,hG⟩) hok.1 hok.2 hev) (λv s' q=>?_) λo_ Z x=>x;obtain ⟨k,as,rd,g⟩:=q;exact ⟨k,as,rd,λo_=>g,λq=>(by exact nF q),λq=>(by exact nF q),λq=>(by exact nF q)⟩
theorem mJ(h:SEL P r c es es'):∀ {A:Around} {env:Env} {s:Shared} {m:St} {ow:List Nat} {own:Nat->Addr} {G:Addr->Prop} {d:D} {b:Bool},Pre P r c A env s m ow own G ->
 okEs ow es'=true->evB P.Φ P.Γ (op == .And) es' m=some d->truth d=some b ->
 wpAny (model P.prog P.w) A (isTrue (.BoolOp op es pos) env whole) (λb' s'=>b'=b/\Kp s s') (λo_ Z=>False) s:=by
 induction h with
 | nil=>intro A env s m ow own G d b _ _ hev;cases (show none=some d from hev)
 | @cons e e' es es' hs _ h1 h2 ih=>
  intro A env s m ow own G d b p hok hev ht;have hk1:=(bU hok).1;have hk2:=(bU hok).2;clear hok hs;cases h2 with
  | nil=>
   induction op with
   | And=>
    refine PyProof.Rows.isTrue_and (ST.use h1 p hk1 hev ht λs' k=>?_);induction b with
    | true=>exact PyProof.Rows.isTrue_and_nil ⟨rfl,k⟩
    | false=>exact ⟨rfl,k⟩
   | Or=>
    refine PyProof.Rows.isTrue_or (ST.use h1 p hk1 hev ht λs' k=>?_);induction b with
    | true=>exact ⟨rfl,k⟩
    | false=>exact PyProof.Rows.isTrue_or_nil ⟨rfl,k⟩
  | @cons f f' es es' hs2 h3 h4 h5=>
   refine aa hev λdx e1 hev=>?_;refine aa hev λbx e2 hev=>?_;have rest:bx=(op == .And)->∀ s',Kp s s'->wpAny (model P.prog P.w) A (isTrue (.BoolOp op (f::es) pos) env whole) (λb' s''=>b'=b/\Kp s s'') (λo_ Z=>False) s':=λhb s' k=>by
    rw [Ql hb] at hev;exact Qs (ih (p.keeps k) hk2 hev ht) (λv' s' q=>⟨q.1,k.trans q.2⟩) λo_ Z x=>x
   have stop:bx ≠ (op == .And)->bx=b:=λhb=>by
    rw [Qu hb] at hev;obtain rfl:=Qv hev;exact Qv (e2.symm.trans ht)
   induction op with
   | And=>
    refine PyProof.Rows.isTrue_and (ST.use h1 p hk1 e1 e2 λs' k=>?_);induction bx with
    | true=>exact rest rfl s' k
    | false=>exact ⟨stop (by decide),k⟩
   | Or=>
    refine PyProof.Rows.isTrue_or (ST.use h1 p hk1 e1 e2 λs' k=>?_);induction bx with
    | true=>exact ⟨stop (by decide),k⟩
    | false=>exact rest rfl s' k
theorem ph(h:SEL P r c vs es'):P.ST r c (.BoolOp op vs pos) (.bool (op == .And) es'):=by
 intro A env s m ow own G d b hA hg R hG hok hev ht;simp only [uA,Qj] at hok;simp only [fc] at hev;exact mJ h ⟨hA,hg,R,hG⟩ hok.1 hev ht
theorem yN(h:P.SE r c x a):P.SE r c (.UnaryOp .Not x pos) (.not a):=by
 intro A env s m ow own G d hA hg R hG hok hev;simp only [yG] at hok;simp only [vH] at hev;refine byG λX_ g_=>?_;refine aa hev λdx e1 hev=>?_;obtain ⟨b,e2,rfl⟩:=ad hev;refine g_ ?_;refine wpAny_UnaryOp (SE.us h ⟨hA,hg,R,hG⟩ hok e1 λv s' k as rd Z Z Z Z=>?_);exact PyProof.Rows.not_of (fo rd e2 λtk=>PostE.flat0 (k.trans (Kp.toks s' tk)) (.bool _) rfl rfl)
theorem yO(h:P.ST r c x a):P.ST r c (.UnaryOp .Not x pos) (.not a):=by
 intro A env s m ow own G d b hA hg R hG hok hev ht;simp only [yG] at hok;simp only [vH] at hev;refine aa hev λdx e1 hev=>?_;obtain ⟨b',e2,rfl⟩:=ad hev;obtain rfl:=Qv ht;exact PyProof.Rows.isTrue_not (ST.use h ⟨hA,hg,R,hG⟩ hok e1 e2 λs' k=>⟨rfl,k⟩)
theorem yP(h:P.SE r c x a):P.SE r c (.UnaryOp .USub x pos) (.neg a):=by
 intro A env s m ow own G d hA hg R hG hok hev;simp only [AT] at hok;simp only [AE] at hev;refine aa hev λdx e1 hev=>?_;refine wpAny_UnaryOp (SE.us h ⟨hA,hg,R,hG⟩ hok e1 λv s' k as rd Z Z Z Z=>?_);obtain ⟨i,e2,rfl⟩:=ad hev;rw [aY e2] at rd;clear hev e2 Z e1 hok hG R hg hA h;cases rd using Rd.intE
 exact PyProof.Rows.neg_int (PostE.flat0 (k.trans (Kp.toks s' _)) (.int _ _) rfl rfl)
end
set_option tactic.hygienic true in
theorem ay(h:aF n i=some k):seqIndex? i n=some k/\k < n/\-(n:Int)<=i/\i < n:=by
 unfold aF at h;unfold seqIndex?;split at h
 ·split at h
  ·obtain rfl:=Qv h
   rename_i h1 h2;refine ⟨?_,(Z2 h1).mpr h2,Qt (Int.neg_nonpos_of_nonneg (Zq n)) h1,by exact h2⟩;have : ¬ i < 0:=ZB.mpr h1;simp only [this,if_false];rw [Ql (by simp;exact ⟨h1,h2⟩)]
  ·exact nN h
 ·split at h
  ·obtain rfl:=Qv h
   rename_i h1 h2;have this:=Yh.mp h1;have p:0<=i+(n:Int):=Int.add_left_neg (n:Int) ▸ Int.add_le_add_right h2 n;have q:i+(n:Int) < n:=Zf (Int.add_lt_add_right this n) (ZC (Int.zero_add _));refine ⟨?_,(Z2 p).mpr q,by exact h2,Zf this (Zq n)⟩;simp only [this,if_true];rw [Ql (by simp;exact ⟨p,q⟩)]
  ·exact nN h
theorem j7(h:aF n i=some k)(hi:0<=i):k=i.toNat:=by
 unfold aF at h;rw [Ql hi] at h
 by_cases q:i < (n:Int)
 ·rw [Ql q] at h;exact (Qv h).symm
 ·exact nN ((Qu q).symm.trans h)
theorem j8(h:aF n i=some k)(hi : ¬ 0<=i):k=(i+n).toNat:=by
 unfold aF at h;rw [Qu hi] at h
 by_cases q : -(n:Int)<=i
 ·rw [Ql q] at h;exact (Qv h).symm
 ·rw [Qu q] at h;exact nN h
theorem iR{k c:Nat}(h:PyData.strOk x=true)(e:x.cps[k]?=some c):PyData.strOk ⟨#[c]⟩=true:=by
 unfold PyData.strOk at *;rw [<- Array.all_toList,ZK] at h
 have:=h c (by
  obtain ⟨hk,rfl⟩:=Array.getElem?_eq_some_iff.mp e
  exact Array.mem_toList_iff.mpr (Array.getElem_mem hk))
 simpa using this
section
variable {P:Pk}{r:Nat}{c:TC}{A:Around}{s:Shared}
theorem pi(h:item x y=some d):(∃ xs i,x = .list xs/\y = .int i/\((aF xs.length i).bind λk=>xs[k]?)=some d)\/(∃ xs i,x = .tuple xs/\y = .int i/\((aF xs.length i).bind λk=>xs[k]?)=some d)\/∃ s i,x = .str s/\y = .int i/\((aF s.length i).bind λk=>(s.cps[k]?).map λc=>PyData.str ⟨#[c]⟩)=some d:=by
 cases x<;>first | (exact nN h;done) | (induction y using dc<;>first | (exact nN h;done) | exact .inl ⟨_,_,rfl,rfl,h⟩ | exact .inr (.inl ⟨_,_,rfl,rfl,h⟩) | exact .inr (.inr ⟨_,_,rfl,rfl,h⟩))
theorem szB(h:n<=sizeLine)(h3 : -(n:Int)<=i)(h4:i < n) : -2 ^ 63<=i/\i < 2 ^ 63:=
 have q:(n:Int) < 2 ^ 63:=QH (QB.mpr h) (by decide)
 ⟨Qt (Int.neg_le_neg (Y8 q)) h3,Yj h4 q⟩
theorem getI{dx dy d:D}(rx:Rd P.H s.heap x dx as)(ry:Rd P.H s.heap y dy bs)(he:item dx dy=some d){Q:Value->Shared->Prop}{E:Value->Shared->Prop}
 (h:∀ v tk cs,Rd P.H s.heap v d cs->(∀ a ∈ cs,a ∈ inn dx as)->Q v { s with toks:=tk }):wpAny (model P.prog P.w) A (getItem x y) Q E s:=by
 have hz:(sizeLine:Int) < 2 ^ 62:=by decide
 rcases pi he with ⟨xs,i,rfl,rfl,he⟩ | ⟨xs,i,rfl,rfl,he⟩ | ⟨x,i,rfl,rfl,he⟩
 ·refine aa he λk e1 e2=>?_
  have h1:=(ay e1).1;have h2:=(ay e1).2.1;have h3:=(ay e1).2.2.1;have h4:=(ay e1).2.2.2;cases rx using Rd.listE with
  | @mk a vs n as' ho hs ra=>
   cases ry using Rd.intE with
   | mk t=>
    obtain ⟨v,cs,ev,rv,hc⟩:=ra.get e2;have hl:=ra.length;simp only [QJ] at hl;have hv:vs[k]?=some v:=by exact (Zb) ▸ ev
    by_cases hi:0<=i
    ·have:=j7 e1 hi
     subst this;exact wpAny_getItem_list ⟨_,ho,rfl,_,rfl⟩ hi (szB (hl ▸ hs) h3 h4).2 hv (h v s.toks cs rv hc)
    ·have:=j8 e1 hi
     rw [<- hl] at this;subst this;exact wpAny_getItem_list_neg ⟨_,ho,rfl,_,rfl⟩ (Yh.mp hi) (by exact hl ▸ h3) (szB (hl ▸ hs) h3 h4).1 hv (h v s.toks cs rv hc)
 ·refine aa he λk e1 e2=>?_
  have h1:=(ay e1).1;have h2:=(ay e1).2.1;have h3:=(ay e1).2.2.1;have h4:=(ay e1).2.2.2;cases rx using Rd.tupleE with
  | @mk a vs n as' ho hs ra=>
   cases ry using Rd.intE with
   | mk t=>
    obtain ⟨v,cs,ev,rv,hc⟩:=ra.get e2;have hl:=ra.length;simp only [QJ] at hl;have hv:vs[k]?=some v:=by exact (Zb) ▸ ev
    exact PyProof.Rows.getItem_tuple ⟨_,ho,rfl,_,rfl⟩ (szB (hl ▸ hs) h3 h4).1 (szB (hl ▸ hs) h3 h4).2 (by exact hl ▸ h1) hv (h v s.toks cs rv hc)
 ·refine aa he λk e1 he=>?_
  obtain ⟨cp,e2,rfl⟩:=ad he;have h1:=(ay e1).1;have h2:=(ay e1).2.1;have h3:=(ay e1).2.2.1;have h4:=(ay e1).2.2.2;cases rx using Rd.strE with
  | mk t hs ho=>
   cases ry using Rd.intE with
   | mk u=>
    refine PySem.P.getItem_str (by simp only [Yo,Zg];exact ⟨ZB.mpr (szB hs h3 h4).1,Yh.mpr (szB hs h3 h4).2⟩) (by exact h1 ▸ e2) (h _ _ [] (.str _ _ (by show 1<=sizeLine;decide) (iR ho e2)) λZ q=>((YJ q).elim))
theorem iS(rx:Rd P.H s.heap x dx as)(he:item dx dy=some d):∃ T id,s.TypeIs x T/\typeLookup (.type T) "__getitem__" = pure (some (.builtin id)):=by
 induction rx using Rd.casesOn with
 | list ho _ _=>exact ⟨_,_,⟨_,ho,rfl⟩,slot_list_getitem.lookup⟩
 | tuple ho _ _=>exact ⟨_,_,⟨_,ho,rfl⟩,F.slot_tuple_getitem.lookup⟩
 | str x t=>exact ⟨_,_,typeIs_str s x t,F.slot_str_getitem.lookup⟩
 | _=>exact nN he
theorem iT{slice:Expr}(h:g5 slice=false)(o i:Value):subscripted slice false o i=operate [o,i] (getItem o i):=by
 cases slice<;>first | rfl | exact nT h
theorem yQ{v i:Expr}{a b:Ex}(hs:g5 i=false)(ha:P.SE r c v a)(hb:P.SE r c i b):P.SE r c (.Subscript v i pos) (.idx a b):=by
 intro A env s m ow own G d hA hg R hG hok hev;have p:Pre P r c A env s m ow own G:=⟨hA,hg,R,hG⟩
 simp only [AU,Qj] at hok;simp only [vJ] at hev;refine aa hev λdx e1 hev=>?_;refine aa hev λdy e2 hev=>?_;refine YU (two ha hb p hok.1 hok.2 e1 e2 λx y s2 as bs k rx ry g1 f1 g2 f2=>?_);refine byG λX_ g_=>?_;obtain ⟨T,id,hT,hl⟩:=iS rx hev;refine g_ ?_;refine Ye hT hl (getI rx ry hev λv tk cs rd hc=>?_) (iT hs x y);exact ⟨k.trans (Kp.toks s2 tk),cs,rd,λZ q m=>rx.innG g1 f1 q (hc q m),λq=>(by exact nF q),λq=>(by exact nF q),λq=>(by exact nF q)⟩
theorem dI(n:Nat){i:Int}(h:i < 0):(i+n).toNat=n - (-i).toNat:=by
 have e:(((-i).toNat:Nat):Int) = -i:=Zp (Int.neg_nonneg_of_nonpos (Y8 h));rw [show i+(n:Int)=n - (((-i).toNat:Nat):Int) by rw [e,Int.sub_neg,YX]];exact Int.toNat_sub ..
theorem adj1(n:Nat)(x:Int):(if x < 0 then max (x+n) 0 else min x n)=(((if x < 0 then n - (-x).toNat else min x.toNat n):Nat):Int):=by
 split
 ·rename_i h;exact (dI n h) ▸ ((Int.ofNat_toNat _).symm)
 ·rename_i h
  refine (Int.eq_ofNat_of_zero_le (ZB.mp h)).elim λk e=>?_;rw [e];show min (k:Int) n=((min k n:Nat):Int)
  by_cases q:k<=n
  ·rw [Yr q];exact Int.min_eq_left (QB.mpr q)
  ·have q:=Nat.le_of_not_le q
   rw [Nat.min_eq_right q];exact Int.min_eq_right (QB.mpr q)
theorem mK(n:Nat)(i:Int):bM n i=(if i < 0 then n - (-i).toNat else min i.toNat n):=by
 unfold bM;split
 ·rename_i h;exact dI n h
 ·rfl
theorem iU{α:Type}(xs:List α)(lo hi:Option Int):cut xs lo hi=(xs.drop (PySem.W.kms_lo lo xs.length)).take (PySem.W.kms_hi hi xs.length - PySem.W.kms_lo lo xs.length):=by
 unfold cut PySem.W.kms_lo PySem.W.kms_hi;induction lo<;>induction hi<;>simp only [Y9,mX,Y0,Zr,mK]
theorem sm(items:Array Value)(lo hi:Option Int):slicePick items lo hi none=(cut items.toList lo hi).toArray:=by
 rw [PySem.W.kms_pick_eq,iU];rfl
theorem RdAll.cut(ra:RdAll H h vs ds as)(lo hi:Option Int):∃ bs,RdAll H h (cut vs lo hi) (cut ds lo hi) bs/\∀ a ∈ bs,a ∈ as:=by
 rw [iU,iU,ra.length];refine byG λX_ g_=>?_;obtain ⟨b1,r1,q1⟩:=ra.drop (PySem.W.kms_lo lo ds.length);obtain ⟨b2,r2,q2⟩:=r1.take (PySem.W.kms_hi hi ds.length - PySem.W.kms_lo lo ds.length);refine g_ ?_;exact ⟨b2,r2,λa m=>q1 a (q2 a m)⟩
theorem j9{α:Type}(xs:List α)(lo hi:Option Int):(cut xs lo hi).length<=xs.length:=by
 unfold cut;simp only [ZE,List.length_drop];exact QQ (Z7 ..) (Y6 ..)
theorem pj(rd:Rd P.H s.heap v d as)(h:intO (some d)=some o):IsPart v o:=by
 induction rd using Rd.casesOn<;>first | (cases h;done) | (obtain rfl:=Qv h;exact .int _ _)
theorem mL(lo hi:Option Int)(n:Nat):Builtin.Slice.sliceAdjust lo hi 1 (n:Int)=(((PySem.W.kms_lo lo n:Nat):Int),((PySem.W.kms_hi hi n:Nat):Int)):=by
 have h1 : ¬ ((1:Int) < 0):=by decide
 unfold Builtin.Slice.sliceAdjust PySem.W.kms_lo PySem.W.kms_hi;simp only [h1,if_false];refine Prod.ext ?_ ?_
 ·induction lo with
  | none=>rfl
  | some x=>exact adj1 n x
 ·induction hi with
  | none=>rfl
  | some x=>exact adj1 n x
theorem eF(h:IsPart v o)(hq:Q o s):wpAny (model P.prog P.w) A (Builtin.Slice.slicePartIndex v) Q E s:=by
 induction h with
 | none=>exact PyProof.Rows.slicePart_none hq
 | int i t=>exact PyProof.Rows.slicePart_int hq
theorem ft{n:Nat}{Q:Int × Int × Nat->Shared->Prop}{E:Value->Shared->Prop}(hs:s.heap.IsSliceOf sl vl vu .none)(pl:IsPart vl lo)(pu:IsPart vu hi)
 (h:Q (((PySem.W.kms_lo lo n:Nat):Int),1,PySem.W.kms_hi hi n - PySem.W.kms_lo lo n) s) :
 wpAny (model P.prog P.w) A (Builtin.Slice.sliceApplied (.ref sl) (pure (n:Int))) Q E s:=by
 refine byG λX_ g_=>?_;obtain ⟨os,hos,hcs,hds⟩:=id hs;refine g_ ?_;unfold Builtin.Slice.sliceApplied Builtin.Slice.sliceFields;refine Qd (Qd (wpAny_field hos hds (x:=vl) rfl (Qd (wpAny_field hos hds (x:=vu) rfl (Qd (wpAny_field hos hds (x:=.none) rfl (Qg ?_)))))));refine Qd (PyProof.Rows.slicePart_none ?_);show wpAny _ _ (if ((1:Int) == 0)=true then _ else _) _ _ s;rw [Qu (by decide)];refine Qd (eF pl (Qd (eF pu (Qd (Qg ?_)))));show wpAny _ _ (match Builtin.Slice.sliceAdjust lo hi 1 (n:Int) with | (lo,hi)=>pure (lo,(1:Int),Builtin.Slice.slicePlaces lo hi 1)) _ _ s;rw [mL];show wpAny _ _ (pure (((PySem.W.kms_lo lo n:Nat):Int),(1:Int),Builtin.Slice.slicePlaces ((PySem.W.kms_lo lo n:Nat):Int) ((PySem.W.kms_hi hi n:Nat):Int) 1)) _ _ s;have e:Builtin.Slice.slicePlaces ((PySem.W.kms_lo lo n:Nat):Int) ((PySem.W.kms_hi hi n:Nat):Int) 1=PySem.W.kms_hi hi n - PySem.W.kms_lo lo n:=by
  unfold Builtin.Slice.slicePlaces;have h1:(1:Int) > 0:=by decide
  simp only [h1,if_true,Int.ediv_one];split
  ·rw [Int.sub_add_cancel];exact Int.toNat_sub ..
  ·rename_i h;exact (Nat.sub_eq_zero_of_le (QB.mp (ZB.mp h))).symm
 exact e ▸ Qg h
theorem pr{α:Type}(xs:List α)(lo hi:Option Int)(h1:PySem.W.kms_lo lo xs.length=0)(h2:PySem.W.kms_hi hi xs.length - PySem.W.kms_lo lo xs.length=xs.length):cut xs lo hi=xs:=by
 rw [iU,h2,h1];simp
theorem dg(ht:s.heap.get? t=some (tupObj items n))(hs:s.heap.IsSliceOf sl vl vu .none)(pl:IsPart vl lo)(pu:IsPart vu hi)
 (hsz:items.size<=sizeLine) (h0:cut items.toList lo hi=items.toList->Q (.ref t) s)
 (h:Q (.ref s.heap.objs.size) { s with heap:=s.heap.push (tupObj (cut items.toList lo hi).toArray 0) }):wpAny (model P.prog P.w) A (getItem (.ref t) (.ref sl)) Q E s:=by
 have htt:PyProof.Rows.IsTup s.heap t items:=⟨_,ht,rfl,_,rfl⟩
 have hcut:sizeOk (.seq (cut items.toList lo hi).toArray):=by
  show (cut items.toList lo hi).toArray.size<=sizeLine;exact Yc ▸ (QQ (j9 _ _ _) (hsz))
 obtain ⟨os,hos,hcs,hds⟩:=id hs;unfold getItem
 try with_reducible refine Zl ?_
 first | refine Qd (Qg ?_) | skip
 refine Qd (wpAny_sequenceKey htt.typeIs (by decide) ?_)
 refine Qd (wpAny_callSpecial?_slot (name:=("__getitem__":Str)) htt.typeIs PyProof.Rows.slot_tuple_getitem
  (wpAny_call_entry PyProof.Rows.slot_tuple_getitem htt.typeIs PyProof.Rows.entry_tuple_getitem ?_ (PyProof.Rows.args_tuple_getitem _ _)))
 show wpAny _ _ (Builtin.Tuple.tupleItemsOf (.ref t) >>= _) _ _ s;refine Qd (PyProof.Rows.tupleItemsOf_ htt ?_);refine Qd (wpAny_typeOf (⟨os,hos,hcs⟩) ?_);rw [Ql (by decide)];refine Qd (ft hs pl pu ?_);have pick:((List.range (PySem.W.kms_hi hi items.size - PySem.W.kms_lo lo items.size)).filterMap λ(k:Nat)=>items[(((PySem.W.kms_lo lo items.size:Nat):Int)+(k:Int) * 1).toNat]?).toArray=(cut items.toList lo hi).toArray:=by
  have e:(λ(k:Nat)=>items[(((PySem.W.kms_lo lo items.size:Nat):Int)+(k:Int) * 1).toNat]?)=λk=>items[PySem.W.kms_lo lo items.size+k]?:=by
   funext k
   have:(((PySem.W.kms_lo lo items.size:Nat):Int)+(k:Int) * 1).toNat=PySem.W.kms_lo lo items.size+k:=by rw [Int.mul_one];rfl
   rw [this]
  rw [e,iU,QJ];have:=pick_run items (PySem.W.kms_lo lo items.size) (PySem.W.kms_hi hi items.size - PySem.W.kms_lo lo items.size);rw [List.filterMap_map] at this;have e2:((λx=>items[x]?) ∘ λx=>PySem.W.kms_lo lo items.size+x)=λk=>items[PySem.W.kms_lo lo items.size+k]?:=rfl;rw [e2] at this;rw [this]
 show wpAny _ _ (if (((PySem.W.kms_lo lo items.size:Nat):Int) == 0&&(1:Int) == 1&&(PySem.W.kms_hi hi items.size - PySem.W.kms_lo lo items.size) == items.size)=true then _ else _) _ _ s
 by_cases hw:(((PySem.W.kms_lo lo items.size:Nat):Int) == 0&&(1:Int) == 1&&(PySem.W.kms_hi hi items.size - PySem.W.kms_lo lo items.size) == items.size)=true
 ·rw [Ql hw]
  have hw':PySem.W.kms_lo lo items.size=0/\PySem.W.kms_hi hi items.size - PySem.W.kms_lo lo items.size=items.size:=by
   simp only [Qj,Q5] at hw;exact ⟨Int.ofNat.inj hw.1.1,hw.2⟩
  have q:=h0 (pr _ _ _ (by exact QJ ▸ hw'.1) (by exact QJ ▸ hw'.2));have ex:∀ {Q':Bool->Shared->Prop} {E':Value->Shared->Prop} {A':Around},Q' true s->wpAny (model P.prog P.w) A' (Builtin.Tuple.tupleIsExact (.ref t)) Q' E' s:=λhq=>by
   unfold Builtin.Tuple.tupleIsExact;exact Qd (wpAny_typeOf htt.typeIs (Qg hq))
  refine Qd (ex ?_);rw [Ql rfl];refine Qd (wpAny_rule ?_)
  first
   | exact Qd (Qg (Qg ⟨_,rfl,Qg q⟩))
   | exact Qg ⟨_,rfl,Qg q⟩
 ·rw [Qu hw,pick]
  first
   | exact Qd (m:=Builtin.Tuple.tupleExact _) (ZT (Qg ⟨_,rfl,Qg h⟩) hcut)
   | exact Qd (m:=Builtin.Tuple.tupleExact _) (ZT (Qd (Qg (Qg ⟨_,rfl,Qg h⟩))) hcut)
   | exact Qd (Qd (m:=Builtin.Tuple.tupleExact _) (ZT (Qg (Qg ⟨_,rfl,Qg h⟩)) hcut))
   | exact Qd (Qd (m:=Builtin.Tuple.tupleExact _) (ZT (Qg ⟨_,rfl,Qg h⟩) hcut))
noncomputable def SEO(P:Pk)(r:Nat)(c:TC):Option Expr->Exo->Prop
 | none,.none=>True
 | some e,.some e'=>P.SE r c e e'
 | _,_=>False
theorem ly(h:SEO P r c o o')(p:Pre P r c A env s m ow own G)
 (hok:okO ow o'=true) (hev:evO P.Φ P.Γ o' m=some l) (hi:intO l=some i) (hq:∀ v s',Kp s s'->IsPart v i->Q v s') :
 wpAny (model P.prog P.w) A (evalPart o env) Q (λZ Z=>False) s:=by
 induction o with
 | none=>
  cases o' with
  | none=>
   simp only [vL,Qc] at hev;subst hev;obtain rfl:=Qv hi;rw [evalPart_none];exact Qg (hq _ s (Kp.refl s) .none)
  | some e'=>exact h.elim
 | some e=>
  cases o' with
  | none=>exact h.elim
  | some e'=>
   simp only [AP] at hok;simp only [jU] at hev;refine byG λX_ g_=>?_;obtain ⟨d,e1,rfl⟩:=ad hev;refine g_ ?_;rw [evalPart_some];refine SE.us h p hok e1 λv s' k as rd Z Z Z Z=>?_;exact hq v s' k (pj rd hi)
theorem A1(ha:P.SE r c v a)(hl:SEO P r c lo l)(hh:SEO P r c hi h):P.SE r c (.Subscript v (.Slice lo hi none p) pos) (.sl a l h):=by
 intro A env s m ow own G d hA hg R hG hok hev;have p:Pre P r c A env s m ow own G:=⟨hA,hg,R,hG⟩
 simp only [o_sl,Qj] at hok;simp only [x_sl] at hev;refine aa hev λdx e1 hev=>?_;refine aa hev λdl e2 hev=>?_;refine aa hev λdh e3 hev=>?_;refine aa hev λil e4 hev=>?_;refine aa hev λih e5 hev=>?_;refine YU (SE.us ha p hok.1.1 e1 λx s1 k1 as rx g1 f1 Z Z=>?_);refine wpAny_Slice (ly hl (p.keeps k1) hok.1.2 e2 e4 λvl s2 k2 pl=>ly hh ((p.keeps k1).keeps k2) hok.2 e3 e5 λvu s3 k3 pu=>?_);rw [evalPart_none];refine Qg ?_;have kp:Kp s { s3 with heap:=s3.heap.push { cls:=.type "slice",data:=.fields #[vl,vu,.none] } }:=((k1.trans k2).trans k3).trans (Kp.push s3 _);have rx':=(rx.keeps (k2.trans k3).get).keeps (Kp.push s3 { cls:=.type "slice",data:=.fields #[vl,vu,.none] }).get;have hsl:=Heap.IsSliceOf.new s3.heap vl vu .none;generalize hS:({ s3 with heap:=s3.heap.push { cls:=.type "slice",data:=.fields #[vl,vu,.none] } }:Shared)=S at *;have hheap:S.heap=s3.heap.push { cls:=.type "slice",data:=.fields #[vl,vu,.none] }:=by rw [<- hS]
 rw [<- hheap] at hsl;have fin:∀ {v:Value} {s':Shared},PostV P S (λa=>a ∈ inn dx as) d v s'->PostE P ow own G (.sl a l h) d s v s':=λq=>PostV.toE kp q rfl hG λb u=>rx.innG g1 f1 b u;clear hheap kp hS k3 k2 f1 g1 rx k1 e5 e4 e3 e2 e1 hok p hG R hg hA hh hl ha;induction rx' using Rd.casesOn with
 | @list b vs n _ as' ho hz ra=>
  obtain rfl:=Qv hev;refine Ye (T := "list") ⟨_,ho,rfl⟩ slot_list_getitem.lookup (ops:=[.ref s3.heap.objs.size,.ref b]) ?_ rfl;refine wpAny_getItem_list_slice ⟨_,ho,rfl,_,rfl⟩ hsl pl pu .none (by decide) ?_ hz;rw [sm];refine byG λX_ g_=>?_;obtain ⟨cs,rc,hc⟩:=ra.cut il ih;refine g_ ?_;refine fin (PostV.newList ?_ (rc) λa q=>.inr (hc a q));rw [Yc];exact QQ (j9 _ _ _) (hz)
 | @tuple b vs n _ as' ho hz ra=>
  obtain rfl:=Qv hev;obtain ⟨cs,rc,hc⟩:=ra.cut il ih;refine Ye (T := "tuple") ⟨_,ho,rfl⟩ F.slot_tuple_getitem.lookup (ops:=[.ref s3.heap.objs.size,.ref b]) ?_ rfl;refine dg ho hsl pl pu hz (λe=>?_) ?_
  ·rw [e] at rc
   exact fin ⟨Kp.refl S,cs,.tuple ho hz rc,λa q=>.inr (hc a q),λhf a q=>by
    rw [rc.noAddr hf] at q;cases q⟩
  ·refine fin (PostV.newTuple ?_ (rc) λa q=>.inr (hc a q))
   rw [Yc];exact QQ (j9 _ _ _) (hz)
 | _=>exact nN hev
end
end Mine
namespace Mine
open PySem PySem.MeetsSeq
section
theorem pw{β:Type}(f:Nat->β->Sem (ForInStep β))(I:Nat->β->Shared->Prop)(Q:β->Shared->Prop)
 (turn:∀ i b s,i < k->I i b s->wpAny M A (f i b) (λr s'=>match r with | .yield b'=>I (i+1) b' s' | .done b'=>Q b' s') E s)
 (fin:∀ b s,I k b s->Q b s) (b:β) (h:I 0 b s):wpAny M A (forIn [:k] b f) Q E s:=by
 rw [Std.Legacy.Range.forIn_eq_forIn_range'];simp only [Std.Legacy.Range.size,Nat.sub_zero,Nat.add_sub_cancel,Nat.div_one];refine wpAny_forIn_list _ (λrest b s'=>∃ i,i<=k/\rest=List.range' i (k - i)/\I i b s') _ ?_ ?_ _ _ ⟨0,QF _,by rfl,h⟩
 ·rintro y rest b s' ⟨i,hi,hr,hI⟩
  have hlt:i < k:=by
   rcases ZI hi with q | q
   ·exact q
   ·rw [q,Nat.sub_self] at hr;exact nM hr
  have e:k - i=(k - (i+1))+1:=by exact (Y1 (Nat.sub_pos_of_lt hlt)).symm
  rw [e,Y3] at hr
  injection hr with h1 h2
  subst h1;refine Qs (turn y b s' hlt hI) (λr s'' q=>?_) λZ Z x=>x;induction r with
  | yield b'=>exact ⟨y+1,hlt,h2,q⟩
  | done b'=>exact q
 ·rintro b s' ⟨i,hi,hr,hI⟩
  rcases ZI hi with q | q
  ·have e:k - i=(k - (i+1))+1:=by exact (Y1 (Nat.sub_pos_of_lt q)).symm
   rw [e,Y3] at hr;exact nL hr
  ·clear hr hi h turn;subst q;exact fin b s' hI
theorem kb(l:Addr)(items:Array Value)(n:Nat)(x:Value)(e:Value->Bool)(he:∀ y,y ∈ items->EqGives y x (e y))(j:Nat)(hj:j < items.size)(hit:e items[j]=true)(hno:∀ m (hm:m < items.size),m < j->e items[m]=false) :
 Meets (Builtin.«tuple.index» ⟨[.ref l,x],[]⟩)
  (λZ R s=>s.heap.get? l=some { cls:=.type "tuple",dict:=none,data:=.seq items n,slots:=#[] }/\R (.ok (.ret (.int j s.toks))) { s with toks:=s.toks+1 }):=
 .of_wp λprog w A R s h=>by
  obtain ⟨hp,g,d,tk,os⟩:=s;obtain ⟨hl,h⟩:=h
  wp_walk using wpAny_loadPart' hl,pw _ (λi b s'=>b.1=none/\s'=⟨hp,g,d,tk,os⟩/\i<=j) _
  case turn=>
   rintro i b s' hlt ⟨hb,rfl,hi⟩;rw [Nat.min_self] at hlt;rw [YK hlt];refine Qd (he _ (Array.getElem_mem hlt) prog w _ _ _ _ ?_);rcases ZI hi with hi | rfl
   ·rw [hno i hlt hi]
    wp_walk
    exact ⟨rfl,rfl,hi⟩
   ·rw [hit]
    wp_walk
    exact ⟨_,rfl,h⟩
  case fin=>
   rintro ⟨b1,b2⟩ s' ⟨hb,rfl,hi⟩;rw [Nat.min_self] at hi;exact absurd hi (Nat.not_le.mpr hj)
  case h=>exact ⟨rfl,rfl,QF _⟩
theorem so(r:RdAll H h vs xs as):∀ {l:List Str},nW xs=some l->vs.length=l.length/\∀ (i:Nat) (v:Value),vs[i]?=some v->∃ t,∃ hi:i < l.length,v = .str l[i] t:=
 r.ind (M:=λvs xs Z=>∀ {l:List Str},nW xs=some l->vs.length=l.length/\∀ (i:Nat) (v:Value),vs[i]?=some v->∃ t,∃ hi:i < l.length,v = .str l[i] t)
  (λ{l} h=>by obtain rfl:=Qv h;exact ⟨rfl,λi v h=>by cases h⟩)
  λv vs d ds as bs h1 h2 ih {l} h=>by
   refine aa (show ((strK d).bind λx=>(nW ds).map λxs=>x::xs)=some l from h) λx e1 h=>?_;obtain ⟨l',e2,rfl⟩:=ad h;have hd:=ba e1;clear h e1 h2 r;subst hd;cases h1 using Rd.strE with
   | mk t hz ho=>
    obtain ⟨i1,i2⟩:=ih e2;refine ⟨Qf Nat.succ i1,λi w hw=>?_⟩;induction i using nc with
    | zero=>obtain rfl:=Qv hw;exact ⟨t,Zm _,rfl⟩
    | succ i=>
     obtain ⟨u,hi,e⟩:=i2 i w hw;exact ⟨u,QU hi,e⟩
noncomputable def strE(x:Str):Value->Bool
 | .str a _=>a == x
 | _=>false
variable {P:Pk}{r:Nat}{c:TC}
theorem iW{H:D->Int}{h:Heap}{vs:Array Value}{xs:List D}{as:List Addr}(ra:RdAll H h vs.toList xs as){y:D}{d:D}(he:idxD xs y=some d):∃ (x:Str) (j:Nat) (hj:j < vs.size),y = .str x/\d = .int j/\(∀ u,∀ v ∈ vs,EqGives v (.str x u) (strE x v))/\strE x vs[j]=true/\(∀ m (hm:m < vs.size),m < j->strE x vs[m]=false)/\j < 1000:=by
 refine byG λX_ g_=>?_;refine aa he λx e1 he=>?_;refine aa he λl e2 he=>?_;obtain ⟨hl,he⟩:=al he;obtain ⟨j,e3,rfl⟩:=ad he;obtain ⟨h1,h2⟩:=so ra e2;rw [QJ] at h1;have hget:∀ (i:Nat) (hi:i < vs.size),∃ t,∃ hi':i < l.length,vs[i] = .str l[i] t:=λi hi=>h2 i _ (by rw [Zb,YK hi]);obtain ⟨hj,hjx,hjn⟩:=List.findIdx?_eq_some_iff_getElem.mp e3;refine g_ ?_;refine ⟨x,j,by rw [h1];exact hj,ba e1,rfl,λu v hv=>?_,?_,λm hm hmj=>?_,Qe hj hl⟩
 ·obtain ⟨i,hi,rfl⟩:=Array.getElem_of_mem hv
  obtain ⟨t,hi',e⟩:=hget i hi;rw [e];exact PyProof.Rows.eqGives_str _ _ _ _
 ·obtain ⟨t,_,e⟩:=hget j (by rw [h1];exact hj)
  rw [e];exact hjx
 ·obtain ⟨t,hi',e⟩:=hget m hm
  rw [e];have:=hjn m hmj;show (_ == x)=false
  simpa using this
theorem sp{o e:Expr}{a b:Ex}{apos pos:Pos}(hbase:∀ env:Env,attributeBase o "index" env (eval o env)=eval o env)(hl:(apos.endLine == pos.line)=true)(hs:isStar e=false)(ha:P.SE r c o a)(hb:P.SE r c e b):P.SE r c (.Call (.Attribute o "index" apos) [e] [] pos) (.index a b):=by
 intro A env s m ow own G d hA hg R hG hok hev;have p:Pre P r c A env s m ow own G:=⟨hA,hg,R,hG⟩
 replace hok:(okE ow a&&okE ow b)=true:=hok;rw [Qj] at hok;rw [n3] at hev;refine aa hev λdx e1 hev=>?_;refine aa hev λdy e2 hev=>?_;refine wpAny_Call_method1_late (hbase env) hl (by rw [ak hs];rfl) (SE.us ha p hok.1 e1 λx s1 k1 as rx Z Z Z Z=>?_);have hpost:∀ {s2:Shared} {tk:Nat} {i:Int} {t:Tok},Kp s1 s2->PostE P ow own G (.index a b) (.int i) s (.int i t) { s2 with toks:=tk }:=λk2=>PostE.flat0 ((k1.trans k2).trans (Kp.toks _ _)) (.int _ _) rfl rfl;clear e1 hG R hg hA ha hs hl hbase;induction dx using dc<;>first | (exact nN hev;done) | skip
 ·cases rx using Rd.listE with
  | @mk l vs n as' ho hz ra=>
   refine ⟨"list", "list.index",F.plainAttrs_list,F.slot_list_index,F.type_list_index,⟨_,ho,rfl⟩,λa e=>by obtain rfl:=Value.ref.inj e;exact ⟨_,ho,rfl⟩,PySem.P.index_list (SE.us hb (p.keeps k1) hok.2 e2 λy s2 k2 bs ry Z Z Z Z=>?_)⟩;refine byG λX_ g_=>?_;obtain ⟨x,j,hj,rfl,rfl,h1,h2,h3,h4⟩:=iW ra hev;refine g_ ?_;cases ry using Rd.strE with
   | mk u hz ho'=>exact ⟨vs,n,strE x,j,hj,k2.get _ _ ho,h1 u,by exact Yj (QZ h4) (by decide),h2,h3,hpost k2⟩
 ·cases rx using Rd.tupleE with
  | @mk l vs n as' ho hz ra=>
   refine ⟨"tuple", "tuple.index",F.plainAttrs_tuple,F.slot_tuple_index,F.type_tuple_index,⟨_,ho,rfl⟩,λa e=>by obtain rfl:=Value.ref.inj e;exact ⟨_,ho,rfl⟩,PySem.seqMethod1_meets F.slot_tuple_index F.entry_tuple_index (SE.us hb (p.keeps k1) hok.2 e2 λy s2 k2 bs ry Z Z Z Z=>?_)⟩;refine byG λX_ g_=>?_;obtain ⟨x,j,hj,rfl,rfl,h1,h2,h3,h4⟩:=iW ra hev;refine g_ ?_;cases ry using Rd.strE with
   | mk u hz ho'=>exact ⟨⟨_,k2.get _ _ ho,rfl⟩,F.args_tuple_index_2 _ _,_,kb l vs n _ (strE x) (h1 u) j hj h2 h3,k2.get _ _ ho,hpost k2⟩
end
end Mine
namespace Mine
open PySem
theorem cr(h:biNames.contains x=true):x ∈ biNames:=by simpa using h
section
variable {P:Pk}{r:Nat}{c:TC}
theorem eo{f:Str}(p:Pre P r c A env s m ow own G)(hk:c.kind f=some .globalImplicit)(hd:f ≠ ("__debug__" : Str))(hn:f ≠ "__name__")
 (hb:f ∈ biNames) (hv:bootBuiltins f=some v) (h:Q v s):wpAny (model P.prog P.w) A (eval (.Name f pos) env) Q E s:=
 YF p.er.fn ((p.er.kd f).trans hk)
  (Calls.loadGlobal_builtin (by exact p.er.gl ▸ p.gp.g) (p.gp.bi f hb) (by exact p.er.bu ▸ p.gp.b) ((p.gp.bb f hn).trans hv) h) (by simpa using hd)
theorem kc{f:Str}(p:Pre P r c A env s m ow own G)(hk:c.kind f=some .globalImplicit)(hd:f ≠ ("__debug__" : Str))(hn:f ≠ "__name__")
 (hb:f ∈ biNames) (hv:bootBuiltins f=some v) (hv2:(∃ id,v = .builtin id)\/∃ T,v = .type T) (hs:isStar x=false) (ha:P.SE r c x a) (hok:okE ow a=true) (hev:evE P.Φ P.Γ a m=some dx) 
 (h:∀ y s2 as,Kp s s2->Rd P.H s2.heap y dx as->(isOw ow a=false->∀ i ∈ as,G i)->(isOw ow a=true->flat dx=true)->wpAny (model P.prog P.w) A (call v [y]) Q (λZ Z=>False) s2) :
 wpAny (model P.prog P.w) A (eval (.Call (.Name f pf) [x] [] pos) env) Q (λZ Z=>False) s:=by
 refine ZH (eo p hk hd hn hb hv ?_);have args:wpAny (model P.prog P.w) A (spliced (backTo pos (starEach [x] env))) (λvs s₁=>wpAny (model P.prog P.w) A (call v vs) Q (λZ Z=>False) s₁) (λZ Z=>False) s:=by
  refine Zv (SE.us ha p hok hev λy s1 k as rd g f Z Z=>?_) (ak hs [] env);exact ZN (h y s1 as k rd g f)
 clear h hev hok ha hv hb hn hd hk p;rcases hv2 with ⟨id,rfl⟩ | ⟨T,rfl⟩
 ·exact PyProof.Rows.callWith_builtin1 args (ak hs [] env) rfl
 ·exact Z6 args (ak hs [] env) rfl
theorem yR(rd:Rd P.H s.heap y dx as)(he:b1 .len dx=some d)(h:∀ i t tk,d = .int i->Q (.int i t) { s with toks:=tk }) :
 wpAny (model P.prog P.w) A (call (.builtin "len") [y]) Q E s:=by
 have hz:(sizeLine:Int) < 2 ^ 62:=by decide
 replace he:lenD dx=some d:=he;induction rd using Rd.casesOn with
 | list ho hs ra=>
  obtain rfl:=Qv he;have hl:=ra.length;simp only [QJ] at hl;refine PyProof.Rows.len_list ⟨_,ho,rfl,_,rfl⟩ (by exact Yj (QH (QB.mpr hs) hz) (by decide)) (h _ _ _ (by rw [hl]))
 | tuple ho hs ra=>
  obtain rfl:=Qv he;have hl:=ra.length;simp only [QJ] at hl;refine PyProof.Rows.len_tuple ⟨_,ho,rfl,_,rfl⟩ (by exact Yj (QH (QB.mpr hs) hz) (by decide)) (h _ _ _ (by rw [hl]))
 | str x t hs ho=>
  obtain rfl:=Qv he;exact PySem.P.len_str (by exact Yh.mpr (Yj (QH (QB.mpr hs) hz) (by decide))) (h _ _ _ rfl)
 | _=>exact nN he
set_option tactic.hygienic true in
theorem mM:∀ {bs:List Bool},cT xs=some bs->xs=bs.map .bool:=by
 induction xs with
 | nil=>intro bs h;obtain rfl:=Qv h;rfl
 | cons x xs ih=>
  intro bs h;induction x using dc
  case bool b=>
   obtain ⟨r,e,rfl⟩:=ad (show (cT xs).map (λbs=>b::bs)=some bs from h);exact Qf _ (ih e)
  all_goals exact nN h
theorem RdAll.bools:∀ {bs:List Bool} {vs:List Value} {as:List Addr},RdAll H h vs (bs.map .bool) as->vs=bs.map .bool:=by
 intro bs;induction bs with
 | nil=>
  intro _ _ r;cases r;rfl
 | cons b bs ih_=>
  intro _ _ r;cases r with
  | cons h1 h2=>cases h1;exact Qf _ (ih_ h2)
theorem pz{bs:List Bool}:(List.range bs.length).all (λi=>bs.getD i true)=bs.all id:=by
 rw [ZZ,ZK,ZK];constructor
 ·intro h x hx
  refine byG λX_ g_=>?_;obtain ⟨i,hi,rfl⟩:=List.getElem_of_mem hx;refine g_ ?_;have:=h i (ZJ.mpr hi)
  simpa [Zn,hi] using this
 ·intro h i hi
  have hi:=ZJ.mp hi;have:=h (bs[i]) (Y4 hi)
  simpa [Zn,hi] using this
theorem pA{bs:List Bool}:(List.range bs.length).any (λi=>bs.getD i false)=bs.any id:=by
 rw [ZZ,Q2,Q2];constructor
 ·rintro ⟨i,hi,h⟩
  have hi:=ZJ.mp hi;exact ⟨bs[i],Y4 hi,by simpa [Zn,hi] using h⟩
 ·rintro ⟨x,hx,h⟩
  obtain ⟨i,hi,rfl⟩:=List.getElem_of_mem hx;exact ⟨i,ZJ.mpr hi,by simpa [Zn,hi] using h⟩
theorem uK(hA:A.handled=none)(rd:Rd P.H s.heap y (.list xs) as)(hb:cT xs=some bs) :
 ((∀ h' tk,(∀ b o,s.heap.get? b=some o->h'.get? b=some o)->Q (.bool (bs.all id)) { s with heap:=h',toks:=tk })->wpAny (model P.prog P.w) A (call (.builtin "all") [y]) Q E s) /\
 ((∀ h' tk,(∀ b o,s.heap.get? b=some o->h'.get? b=some o)->Q (.bool (bs.any id)) { s with heap:=h',toks:=tk })->wpAny (model P.prog P.w) A (call (.builtin "any") [y]) Q E s):=by
 have e:=mM hb;subst e;cases rd using Rd.listE with
 | @mk l vs n as' ho hs ra=>
  have hl:s.heap.IsList l vs:=⟨_,ho,rfl,_,rfl⟩
  have hsz:vs.size=bs.length:=by rw [<- QJ,ra.bools];simp
  have key:∀ i v,vs[i]?=some v->∃ b:Bool,bs[i]?=some b/\v=Value.bool b:=λi v hv=>by
   rw [<- Zb,ra.bools,Qy] at hv;obtain ⟨b,hb,e⟩:=QK hv;exact ⟨b,hb,e.symm⟩
  have W:=Walks.list (prog:=P.prog) (w:=P.w) (A:=A.in1) hA s.heap.objs.size l (QM (Q3 ho)) vs;have st:((s.heap.push { cls:=.type "list_iterator",data:=.fields #[.ref l,.int 0 0] }).IsListIter s.heap.objs.size l 0)/\((s.heap.push { cls:=.type "list_iterator",data:=.fields #[.ref l,.int 0 0] }).IsList l vs):=
   ⟨⟨_,QL _ rfl,rfl,rfl⟩,hl.at λo e=>Qi _ e⟩
  refine ⟨λh=>?_,λh=>?_⟩
  ·refine call_all_walk (wpAny_pyIter_list hl ⟨_,_,_,_,_,_,λi=>bs.getD i true,rfl,W,st,?_,?_⟩)
   ·intro i v s' Q' E' hv hq
    obtain ⟨b,hb,rfl⟩:=key i v hv;simp only [Zn,hb,Zr] at hq;exact ZS hq
   ·intro h' tk hk
    rw [hsz,pz];exact h h' tk λb o e=>hk b o (by simp;exact QM (Q3 e)) (Qi _ e)
  ·refine call_any_walk (wpAny_pyIter_list hl ⟨_,_,_,_,_,_,λi=>bs.getD i false,rfl,W,st,?_,?_⟩)
   ·intro i v s' Q' E' hv hq
    obtain ⟨b,hb,rfl⟩:=key i v hv;simp only [Zn,hb,Zr] at hq;exact ZS hq
   ·intro h' tk hk
    rw [hsz,pA];exact h h' tk λb o e=>hk b o (by simp;exact QM (Q3 e)) (Qi _ e)
theorem yS{f:Str}(hf:f = "len")(hk:c.kind f=some .globalImplicit)(hs:isStar x=false)(ha:P.SE r c x a):P.SE r c (.Call (.Name f pf) [x] [] pos) (.b1 .len a):=by
 intro A env s m ow own G d hA hg R hG hok hev;simp only [o_b1] at hok;simp only [x_b1] at hev;refine aa hev λdx e1 hev=>?_;subst hf;refine kc ⟨hA,hg,R,hG⟩ hk (by decide +kernel) (by decide +kernel) (cr (by decide +kernel)) boot_len (.inl ⟨_,rfl⟩) hs ha hok e1 λy s2 as k rd g f=>?_;exact yR rd hev λi t tk e=>by subst e;exact PostE.flat0 (k.trans (Kp.toks s2 tk)) (.int _ _) rfl rfl
theorem sq:bootBuiltins "all" = some (.builtin "all"):=by decide +kernel
theorem su:bootBuiltins "any" = some (.builtin "any"):=by decide +kernel
theorem pB:bootBuiltins "list" = some (.type "list"):=by decide +kernel
theorem mO:bootBuiltins "tuple" = some (.type "tuple"):=by decide +kernel
theorem sw:bootBuiltins "int" = some (.type "int"):=by decide +kernel
theorem lz:bootBuiltins "isinstance" = some (.builtin "isinstance"):=by decide +kernel
theorem mP:bootBuiltins "range" = some (.type "range"):=by decide +kernel
theorem fX:bootBuiltins "enumerate" = some (.type "enumerate"):=by decide +kernel
theorem yT{f:Str}(hlp:P.lp=true)(hf:f = "all")(hk:c.kind f=some .globalImplicit)(hs:isStar x=false)(ha:P.SE r c x a):P.SE r c (.Call (.Name f pf) [x] [] pos) (.b1 .all a):=by
 intro A env s m ow own G d hA hg R hG hok hev;simp only [o_b1] at hok;simp only [x_b1] at hev;refine aa hev λdx e1 hev=>?_;subst hf;refine kc ⟨hA,hg,R,hG⟩ hk (by decide +kernel) (by decide +kernel) (cr (by decide +kernel)) sq (.inl ⟨_,rfl⟩) hs ha hok e1 λy s2 as k rd g f=>?_;clear f g e1 hok hG R hg ha hs;induction dx using dc<;>first | (exact nN hev;done) | skip
 obtain ⟨bs,e2,rfl⟩:=ad hev;exact (uK (hA.hd hlp) rd e2).1 λh' tk hk=>PostE.flat0 (k.trans ⟨h',tk,rfl,hk⟩) (.bool _) rfl rfl
theorem yU{f:Str}(hlp:P.lp=true)(hf:f = "any")(hk:c.kind f=some .globalImplicit)(hs:isStar x=false)(ha:P.SE r c x a):P.SE r c (.Call (.Name f pf) [x] [] pos) (.b1 .any a):=by
 intro A env s m ow own G d hA hg R hG hok hev;simp only [o_b1] at hok;simp only [x_b1] at hev;refine aa hev λdx e1 hev=>?_;subst hf;refine kc ⟨hA,hg,R,hG⟩ hk (by decide +kernel) (by decide +kernel) (cr (by decide +kernel)) su (.inl ⟨_,rfl⟩) hs ha hok e1 λy s2 as k rd g f=>?_;clear f g e1 hok hG R hg ha hs;induction dx using dc<;>first | (exact nN hev;done) | skip
 obtain ⟨bs,e2,rfl⟩:=ad hev;exact (uK (hA.hd hlp) rd e2).2 λh' tk hk=>PostE.flat0 (k.trans ⟨h',tk,rfl,hk⟩) (.bool _) rfl rfl
theorem yV{f:Str}(hf:f = "int")(hk:c.kind f=some .globalImplicit)(hs:isStar x=false)(ha:P.SE r c x a):P.SE r c (.Call (.Name f pf) [x] [] pos) (.b1 .int a):=by
 intro A env s m ow own G d hA hg R hG hok hev;simp only [o_b1] at hok;simp only [x_b1] at hev;refine aa hev λdx e1 hev=>?_;subst hf;refine kc ⟨hA,hg,R,hG⟩ hk (by decide +kernel) (by decide +kernel) (cr (by decide +kernel)) sw (.inr ⟨_,rfl⟩) hs ha hok e1 λy s2 as k rd g f=>?_;clear f g hk e1 hok hG R hg hA ha hs;induction dx using dc<;>first | (cases hev;done) | skip
 replace hev:=Qv hev;subst hev;cases rd;exact call_int_bool (PostE.flat0 (k.trans (Kp.toks s2 _)) (.int _ _) rfl rfl)
theorem sA{f:Str}(hf:f = "tuple")(hk:c.kind f=some .globalImplicit)(hs:isStar x=false)(ha:P.SE r c x a):P.SE r c (.Call (.Name f pf) [x] [] pos) (.b1 .tuple a):=by
 intro A env s m ow own G d hA hg R hG hok hev;simp only [o_b1] at hok;simp only [x_b1] at hev;refine aa hev λdx e1 hev=>?_;subst hf;refine kc ⟨hA,hg,R,hG⟩ hk (by decide +kernel) (by decide +kernel) (cr (by decide +kernel)) mO (.inr ⟨_,rfl⟩) hs ha hok e1 λy s2 as k rd g f=>?_;clear hk e1 hok R hg hA ha hs;induction dx using dc<;>first | (cases hev;done) | skip
 replace hev:=Qv hev;subst hev;have rd0:=rd;cases rd using Rd.listE with
 | mk ho hz ra=>
  refine call_tuple_list ⟨_,ho,rfl,_,rfl⟩ (λh' hk'=>?_) hz;exact PostV.toE (k.trans (Kp.heap s2 h' hk')) (PostV.newTuple (U:=G) hz (ra.keeps hk') λb q=>.inr (rd0.innG g f b q)) rfl hG λZ u=>u
theorem wy{f:Str}(hf:f = "list")(hk:c.kind f=some .globalImplicit)(hs:isStar x=false)(ha:P.SE r c x a):P.SE r c (.Call (.Name f pf) [x] [] pos) (.b1 .list a):=by
 intro A env s m ow own G d hA hg R hG hok hev;simp only [o_b1] at hok;simp only [x_b1] at hev;refine aa hev λdx e1 hev=>?_;subst hf;refine kc ⟨hA,hg,R,hG⟩ hk (by decide +kernel) (by decide +kernel) (cr (by decide +kernel)) pB (.inr ⟨_,rfl⟩) hs ha hok e1 λy s2 as k rd g f=>?_;clear hk e1 hok R hg hA ha hs;induction dx using dc<;>first | (cases hev;done) | skip
 replace hev:=Qv hev;subst hev;have rd0:=rd;cases rd using Rd.listE with
 | mk ho hz ra=>
  refine call_list_seq _ (.inl rfl) ho rfl rfl (λh' c' hk' hn=>?_) hz;refine ⟨k.trans (Kp.heap s2 h' hk'),_,.list hn hz (ra.keeps hk'),λZ b q=>?_,λq=>(by exact nF q),λZ hf b q=>?_,λq=>(by exact nF q)⟩
  ·rcases Qw q with rfl | q
   ·exact hG _ (k.none (aL _))
   ·exact rd0.innG g f b q
  ·rw [ra.noAddr (show ap _=true from hf)] at q
   exact (Qx q) ▸ (k.none (aL _))
noncomputable def uL:Ty->String
 | .list => "list"
 | .tuple => "tuple"
 | .str => "str"
 | .int => "int"
 | .bool => "bool"
theorem yW(rd:Rd P.H s.heap y dx as)(t:Ty)(hd:isA dx t=some q)(h:∀ tk,Q (.bool q) { s with toks:=tk }) :
 wpAny (model P.prog P.w) A (call (.builtin "isinstance") [y,.type (uL t)]) Q E s:=by
 have h0:=h s.toks;have h1:=h (s.toks+1);induction rd using Rd.casesOn with
 | none=>cases t<;>cases hd<;>first | exact IsiPair.NoneType_list h1 | exact IsiPair.NoneType_tuple h1 | exact IsiPair.NoneType_str h1 | exact IsiPair.NoneType_int h1 | exact IsiPair.NoneType_bool h1
 | bool b=>cases t<;>cases hd<;>first | exact IsiPair.bool_list h1 | exact IsiPair.bool_tuple h1 | exact IsiPair.bool_str h1 | exact IsiPair.bool_int h0 | exact IsiPair.bool_bool h0
 | int i u=>cases t<;>cases hd<;>first | exact IsiPair.int_list h1 | exact IsiPair.int_tuple h1 | exact IsiPair.int_str h1 | exact IsiPair.int_int h0 | exact IsiPair.int_bool h1
 | str x u=>cases t<;>cases hd<;>first | exact IsiPair.str_list h1 | exact IsiPair.str_tuple h1 | exact IsiPair.str_str h0 | exact IsiPair.str_int h1 | exact IsiPair.str_bool h1
 | list ho _ _=>cases t<;>cases hd<;>first | exact IsiPair.list_list ho rfl h0 | exact IsiPair.list_tuple ho rfl h1 | exact IsiPair.list_str ho rfl h1 | exact IsiPair.list_int ho rfl h1 | exact IsiPair.list_bool ho rfl h1
 | tuple ho _ _=>cases t<;>cases hd<;>first | exact IsiPair.tuple_list ho rfl h1 | exact IsiPair.tuple_tuple ho rfl h0 | exact IsiPair.tuple_str ho rfl h1 | exact IsiPair.tuple_int ho rfl h1 | exact IsiPair.tuple_bool ho rfl h1
 | dict=>cases t<;>exact nN hd
 | exc=>cases t<;>exact nN hd
set_option tactic.hygienic true in
theorem pC{t:Str}(h:tyOf t=some ty):bootBuiltins t=some (.type (uL ty))/\t ∈ biNames/\t ≠ ("__debug__" : Str)/\t ≠ ("__name__" : Str):=by
 unfold tyOf at h
 repeat' (split at h)
 all_goals first
  | (rename_i e;cases h;have e:=Q4 e;subst e;exact ⟨by decide +kernel,cr (by decide +kernel),by decide +kernel,by decide +kernel⟩)
  | exact nN h
theorem yX{f:Str}(hf:f = "isinstance")(hk:c.kind f=some .globalImplicit)(ht:tyOf t=some ty)(hkt:c.kind t=some .globalImplicit)(hs:isStar x=false)(ha:P.SE r c x a) :
 P.SE r c (.Call (.Name f pf) [x,.Name t pt] [] pos) (.isi a ty):=by
 intro A env s m ow own G d hA hg R hG hok hev;have p:Pre P r c A env s m ow own G:=⟨hA,hg,R,hG⟩
 simp only [AV] at hok;simp only [AH] at hev;refine byG λX_ g_=>?_;refine aa hev λdx e1 hev=>?_;obtain ⟨q,e2,rfl⟩:=ad hev;subst hf;obtain ⟨b1,b2,b3,b4⟩:=pC ht;refine g_ ?_;refine ZH (eo p hk (by decide +kernel) (by decide +kernel) (cr (by decide +kernel)) lz ?_);refine PyProof.Rows.callWith_builtin1 ?_ (ak hs _ env) rfl;refine Zv (SE.us ha p hok e1 λy s1 k as rd Z Z Z Z=>?_) (ak hs _ env);refine Zv (eo (p.keeps k) hkt b3 b4 b2 b1 (ZN ?_)) rfl;exact yW rd ty e2 λtk=>PostE.flat0 (k.trans (Kp.toks s1 tk)) (.bool _) rfl rfl
theorem wA{f:Str}(hΦ:P.FnOk r)(hfr:P.fr f=some fr)(hk:c.kind f=some .globalImplicit)(hd:f ≠ ("__debug__" : Str))(hne:args ≠ [])(h:SEL P r c args es')
 (hdef:∃ q,P.defs f=some q):P.SE r c (.Call (.Name f pf) args [] pos) (.call fr f es'):=by
 intro A env s m ow own G d hA hg R hG hok hev;simp only [yI,Qj,Ze] at hok;simp only [uw] at hev;refine aa hev λds e1 hev2=>?_;clear hev;obtain ⟨q,hq⟩:=hdef;obtain ⟨fa,o,pm,code,doc,h1,h2,h3,_⟩:=hg.fn f q hq;refine ZH (YF R.fn ((R.kd f).trans hk) (Calls.loadGlobal_global (by exact R.gl ▸ hg.g) h1 ?_) (by simpa using hd));cases h with
 | nil=>exact absurd rfl hne
 | @cons e e' es es'' hs hse hst hr=>
  refine PyProof.Rows.callWith_def h3 ?_ (ak hs _ env);refine b7 (.cons hs hse hst hr) (⟨hA,hg,R,hG⟩) hok.1 e1 λvs s1 as k rs g=>?_;refine ⟨k.get _ _ h2,?_⟩;obtain ⟨fa',o',fd,g1,g2,g3,hw⟩:=hΦ f fr hfr A s1 vs ds as d hA (hg.keeps k.get) rs hev2;rw [h1] at g1;obtain rfl:=Value.ref.inj (Qv g1);refine Qs hw (λv s' q=>?_) λZ Z x=>x;obtain ⟨k2,bs,rd,u1,u2⟩:=q;refine ⟨k.trans k2,bs,rd,λZ b mb=>?_,λq=>(by exact nF q),λhf Z b mb=>k.none (u2 hf b mb),λq=>(by exact nF q)⟩;rcases hok.2 with hf | hn
  ·exact hG b (k.none (u2 hf b mb))
  ·rcases u1 b mb with u | u
   ·exact hG b (k.none u)
   ·exact g hn b u
end
theorem pD(h:xK d=some q):d = .dict [(.list [.str q.1],.int q.2)]:=by
 refine aa h λl h1 h=>aa h λp h2 h=>aa h λl2 h3 h=>aa h λc h4 h=>aa h λs h5 h=>?_;obtain ⟨n,h6,rfl⟩:=ad h;obtain ⟨x,y⟩:=p;rw [ln h1,aA h2,show x=_ from gg h3,show y=_ from aY h6,aA h4,ba h5]
structure RdX(H:D->Int)(h:Heap)(v:Value)(c:Str)(n:Int)(as:List Addr)(a dx C:Addr)(o:Obj)(vs:Array Value)(t:Tok):Prop where
 ve:v = .ref a
 ae:as=[a,dx]
 ho:h.get? a=some o
 hc:o.cls = .ref C
 hd:o.dict=some dx
 ht:o.data = .fields vs
 ns:h.Ns dx (atM (.int n t))
 hh:H (.list [.str c])=(C:Int)
 cm:c ∈ exN
theorem RdKv.key1(r:RdKv H h es kvs)(e:kvs=p::l):∃ w,Rd H h w p.1 []:=by
 cases r with
 | nil=>exact nL e
 | cons h1=>rw [<- (List.cons.inj e).1];exact ⟨_,h1⟩
theorem Rd.excG(r:Rd H h v d as)(e:d = .dict [(.list [.str c],.int n)]):∃ a dx C o vs t,RdX H h v c n as a dx C o vs t:=by
 induction r using Rd.casesOn with
 | @exc a dx C o vs _ _ t h1 h2 h3=>
  obtain ⟨rfl,rfl⟩:=Prod.mk.inj (Qv (Qf xK e));exact ⟨a,dx,C,o,vs,t,rfl,rfl,h1.1,h1.2.1,h1.2.2.1,h1.2.2.2,h2,h3.1,h3.2⟩
 | dict _ _ h2=>
  obtain ⟨w,z⟩:=h2.key1 (PyData.dict.inj e);exact (z.listE (motive:=λZ as Z=>as=[]->False) (λZ Z Z e=>nM e) rfl).elim
 | _=>exact PyData.noConfusion e
theorem Rd.excE(r:Rd H h v (.dict [(.list [.str c],.int n)]) as):∃ a dx C o vs t,RdX H h v c n as a dx C o vs t:=r.excG rfl
section
variable {P:Pk}{r:Nat}{c:TC}
theorem RdX.own(q:RdX P.H h v x n as a dx C o vs t)(g:P.GP h):∃ fI bm,P.mg x=some (.ref C)/\OwnX h C bm fI/\∀ y ∈ exN,∀ C',P.mg y=some (.ref C')->∃ bm',OwnX h C' bm' fI/\(Value.ref C::bm).contains (.ref C')=(x == y||y == "DeskError"):=by
 refine byG λX_ g_=>?_;obtain ⟨fI,_,hx⟩:=g.ex;obtain ⟨C0,bm,h1,h2,h3⟩:=hx x q.cm;refine g_ ?_;refine have e:=(g.hs.2.2 x q.cm C0 h1).symm.trans q.hh;?_;refine have e:C0=C:=Int.ofNat.inj e;?_;clear g q;subst e;refine ⟨fI,bm,h1,h2,λy hy C' hC=>?_⟩;refine byG λX_ g_=>?_;obtain ⟨C1,bm1,h4,h5,_⟩:=hx y hy;refine g_ ?_;rw [hC] at h4;obtain rfl:=Value.ref.inj (Qv h4);exact ⟨bm1,h5,h3 y hy C' hC⟩
theorem cB{x:Str}(p:Pre P r c A env s m ow own G)(hk:c.kind x=some .globalImplicit)(hd:x ≠ ("__debug__" : Str))(hv:P.mg x=some v)(hq:Q v s):wpAny (model P.prog P.w) A (eval (.Name x pos) env) Q E s:=
 YF p.er.fn ((p.er.kd x).trans hk) (Calls.loadGlobal_global (by rw [p.er.gl];exact p.gp.g) hv hq) (by simpa using hd)
theorem A2{x:Str}(hx:x ∈ exN)(hk:c.kind x=some .globalImplicit)(hd:x ≠ ("__debug__" : Str))(hs:isStar arg=false)(ha:P.SE r c arg a):P.SE r c (.Call (.Name x np) [arg] [] pos) (.mk x a):=by
 intro A env s m ow own G d hA hg R hG hok hev;refine have p:Pre P r c A env s m ow own G:=⟨hA,hg,R,hG⟩;?_;rw [x_mk] at hev;refine byG λX_ g_=>?_;refine aa hev λdx e1 hev=>?_;obtain ⟨n,e2,rfl⟩:=ad hev;refine have e2:=aY e2;?_;clear hev R;subst e2;obtain ⟨fI,hI,hxs⟩:=hg.ex;obtain ⟨C,bm,h1,h2,h3⟩:=hxs x hx;refine g_ ?_;refine oF (C:=C) (bm:=bm) (fI:=fI) F.excBase_ValueError (Qh (ZQ (QQ (by decide:1<=60) (Nat.le_add_left _ _)) _) (Nat.add_assoc .. ▸ hA.depth)) hs (cB p hk hd h1 ⟨rfl,?_⟩);refine SE.us ha p hok e1 λv s1 k as rd g1 g2 g3 g4=>⟨h2.keeps k.get,hI.keeps k.get,hg.nolimit.keeps k.get,λh' tk e dx m=>?_⟩
 cases rd using Rd.intE with
 | mk t=>
  refine have k2:Kp s { s1 with heap:=h',toks:=tk }:=k.trans ((Kp.heap s1 h' m.keeps).trans (Kp.toks _ tk));?_;obtain ⟨t0,ho⟩:=m.ob;refine ⟨k2,[e,dx],.exc ⟨ho,rfl,rfl,rfl⟩ m.ns ⟨hg.hs.2.2 x hx C h1,hx⟩,λo_ b hb=>?_,λq=>(by exact nF q),λo_ q=>(by exact nF q),λq=>(by exact nF q)⟩
  refine have:s1.heap.get? b=none:=(by
   rcases Qw hb with rfl | hb
   ·exact m.new
   ·exact (Qx hb) ▸ m.newd);?_
  exact hG b (k.none this)
theorem yY (he:∀ env:Env,eval (.Attribute o "at" pos) env=(do
 let v <- eval o env
 standAt pos.atName
 let r <- holding [v] (getAttr v "at" true)
 letTemporaryGo o v r
 pure r)) (ha:P.SE r c o a):P.SE r c (.Attribute o "at" pos) (.att a):=by
 intro A env s m ow own G d hA hg R hG hok hev;refine have p:Pre P r c A env s m ow own G:=⟨hA,hg,R,hG⟩;?_;rw [AF] at hev;refine aa hev λdx e1 hev=>?_;obtain ⟨q,e2,rfl⟩:=ad hev;refine have e2:=pD e2;?_;clear hev hG R hA;subst e2;refine PyProof.Rows.Attribute_any_ (SE.us ha p hok e1 λv s1 k as rd g1 g2 g3 g4=>?_) (he env);refine byG λX_ g_=>?_;obtain ⟨b,dx,C,ob,vs,t,z⟩:=rd.excE;obtain ⟨fI,bm,h1,h2,_⟩:=z.own (hg.keeps k.get);refine g_ ?_;rw [z.ve];obtain ⟨h,g,d,tk,os⟩:=s1;exact rW h2 z.ho z.hc z.hd z.ht z.ns (Ql rfl) (PostE.flat0 (k.trans (Kp.toks _ _)) (.int _ _) rfl rfl) rfl
theorem yZ{f:Str}{t:Str}(hf:f = "isinstance")(hk:c.kind f=some .globalImplicit)(ht:t ∈ exN\/t = "ValueError")(hkt:c.kind t=some .globalImplicit)(hdt:t ≠ ("__debug__" : Str))(hs:isStar x=false)(ha:P.SE r c x a) :
 P.SE r c (.Call (.Name f pf) [x,.Name t pt] [] pos) (.isc a t):=by
 intro A env s m ow own G d hA hg R hG hok hev;refine have p:Pre P r c A env s m ow own G:=⟨hA,hg,R,hG⟩;?_;rw [AG] at hev;refine aa hev λdx e1 hev=>?_;obtain ⟨q,e2,rfl⟩:=ad hev;refine have e2:=pD e2;?_;clear hev hG R hA;subst e2;subst hf;refine ZH (eo p hk (by decide +kernel) (by decide +kernel) (cr (by decide +kernel)) lz ?_);refine PyProof.Rows.callWith_builtin1 ?_ (ak hs _ env) rfl;refine Zv (SE.us ha p hok e1 λy s1 k as rd Z Z Z Z=>?_) (ak hs _ env);refine byG λX_ g_=>?_;obtain ⟨b,dx,C,ob,vs,tt,z⟩:=rd.excE;obtain ⟨fI,bm,h1,h2,h3⟩:=z.own (hg.keeps k.get);refine g_ ?_;have post:∀ tk bb,bb=cy q.1 t->PostE P ow own G (.isc a t) (.bool (cy q.1 t)) s (.bool bb) { s1 with toks:=tk }:=λtk bb e=>by rw [e];exact PostE.flat0 (k.trans (Kp.toks s1 tk)) (.bool _) rfl rfl
 rw [z.ve];rcases ht with ht | ht
 ·refine byG λX_ g_=>?_
  obtain ⟨fI',_,hxs⟩:=hg.ex;obtain ⟨C',_,h4,_⟩:=hxs t ht;obtain ⟨bm',h5,h6⟩:=h3 t ht C' h4;refine g_ ?_;refine Zv (cB (p.keeps k) hkt hdt h4 (ZN ?_)) rfl;obtain ⟨h,g,d,tk,os⟩:=s1;refine wg h2 h5 z.ho z.hc h6 λt'=>post t' _ ?_
  refine have:(t == "ValueError")=false:=(by
   have:exN.all (λt=>!(t == ("ValueError" : Str)))=true:=by decide +kernel
   simpa using ZK.mp this t ht);?_
  unfold cy;rw [this,Bool.or_false]
 ·subst ht
  refine Zv (eo (p.keeps k) hkt (by decide +kernel) (by decide +kernel) (cr (by decide +kernel)) (v:=.type "ValueError") (by decide +kernel) (ZN ?_)) rfl;obtain ⟨h,g,d,tk,os⟩:=s1;exact wi h2 z.ho z.hc (post tk _ (by unfold cy;simp))
end
noncomputable def sB(prog:Program)(w:World):Str ⊕ Int->Value->Bool
 | .inl x,v=>(strKind prog w).is x v
 | .inr n,v=>(intKind prog w).is n v
theorem dj(h:sB prog w (.inl x) v=true):∃ t,v = .str x t:=Value.isStrOf_shape h
theorem b8(h:sB prog w (.inr x) v=true):∃ t,v = .int x t:=Value.isInt_shape h
def mixKind(prog:Program)(w:World):KeyKind prog w (Str ⊕ Int) where
 is:=sB prog w
 hash:=λk=>match k with
  | .inl x=>hashStr w x
  | .inr n=>hashInt n
 inj:=λv a b ha hb=>by
  induction a with
  | inl x=>
   obtain ⟨t,rfl⟩:=dj ha;induction b with
   | inl y=>obtain ⟨u,q⟩:=dj hb;obtain ⟨rfl,rfl⟩:=Value.str.inj q;rfl
   | inr y=>obtain ⟨u,q⟩:=b8 hb;exact Value.noConfusion q
  | inr x=>
   obtain ⟨t,rfl⟩:=b8 ha;induction b with
   | inl y=>obtain ⟨u,q⟩:=dj hb;exact Value.noConfusion q
   | inr y=>obtain ⟨u,q⟩:=b8 hb;clear hb ha;obtain ⟨rfl,rfl⟩:=Value.int.inj q;rfl
 byValue:=λk v h=>by
  induction k with
  | inl x=>obtain ⟨t,rfl⟩:=dj h;rfl
  | inr x=>obtain ⟨t,rfl⟩:=b8 h;rfl
 pyHash:=λ{A E s k v Q} hv h=>by
  induction k with
  | inl x=>exact (strKind prog w).pyHash hv h
  | inr x=>exact (intKind prog w).pyHash hv h
 eqBool:=λ{A E s a b u v Q} hu hv h=>by
  induction a with
  | inl x=>
   obtain ⟨t,rfl⟩:=dj hu;induction b with
   | inl y=>obtain ⟨u,rfl⟩:=dj hv;exact (strKind prog w).eqBool (a:=x) (b:=y) hu hv (by simpa using h)
   | inr y=>obtain ⟨u,rfl⟩:=b8 hv;exact SeqAt.EqAt.str_int _ _ _ _ _ _ _ _ (h)
  | inr x=>
   obtain ⟨t,rfl⟩:=b8 hu;induction b with
   | inl y=>obtain ⟨u,rfl⟩:=dj hv;exact SeqAt.EqAt.int_str _ _ _ _ _ _ _ _ (h)
   | inr y=>obtain ⟨u,rfl⟩:=b8 hv;exact (intKind prog w).eqBool (a:=x) (b:=y) hu hv (by simpa using h)
 «strs»:=λk x t v h=>by
  induction k with
  | inl y=>exact (strKind prog w).«strs» y x t v h
  | inr y=>obtain ⟨u,q⟩:=b8 h;exact Value.noConfusion q
theorem y0{prog:Program}{w:World}{h:Heap}{a:Addr}{l:List (Str × Value)}(hd:h.DictOf (strKind prog w) a l):∃ f,h.MapOf (mixKind prog w) a f/\(∀ n,f (.inr n)=none)/\∀ x,f (.inl x)=valueAt l x:=by
 refine byG λX_ g_=>?_;obtain ⟨f,hf⟩:∃ f,f=valueAt l:=⟨_,rfl⟩
 obtain ⟨o,es,ep,ho,hc,hdat,hk,hv⟩:=hd.mapOf;refine g_ ?_;refine ⟨findBy (sB prog w) es,⟨o,es,ep,ho,hc,hdat,λe he=>?_,λo_=>rfl⟩,λn=>?_,λx=>hv x⟩
 ·obtain ⟨k,h1,h2⟩:=hk e he
  exact ⟨.inl k,h1,h2⟩
 ·unfold findBy
  rw [Option.map_eq_none_iff,Array.find?_eq_none];intro e he q;obtain ⟨k,h1,_⟩:=hk e he;obtain ⟨t,ht⟩:=b8 q;obtain ⟨u,hu⟩:=Value.isStrOf_shape (show Value.isStrOf k e.key=true from h1);rw [ht] at hu;exact Value.noConfusion hu
theorem KvR.fnd(k:KvR H l kvs)(x:Str):(dFnd x kvs=none/\valueAt l x=none)\/∃ v d,dFnd x kvs=some d/\valueAt l x=some v/\isScalar d=true/\∀ h:Heap,Rd H h v d []:=by
 induction k with
 | nil=>exact .inl ⟨rfl,rfl⟩
 | @cons y v d l r a b c dd kk ih=>
  unfold dFnd valueAt at ih ⊢;rw [List.find?_cons,List.find?_cons]
  by_cases h:y=x
  ·refine have e1:(strK (.str y) == some x)=true:=(by rw [gf,h];simp);?_
   refine have e2:decide (y=x)=true:=Qn h;?_;rw [e1,e2];exact .inr ⟨v,d,rfl,rfl,c,dd⟩
  ·refine have e1:(strK (.str y) == some x)=false:=(by rw [gf];simpa using h);?_
   refine have e2:decide (y=x)=false:=Zk h;?_;rw [e1,e2];exact ih
theorem ke(h:isScalar d=true):noList d=true:=by
 induction d using dc<;>first | rfl | exact nF h
section
variable {P:Pk}{r:Nat}{c:TC}
theorem y3{o e f:Expr}{a b g:Ex}{apos pos:Pos}(hbase:∀ env:Env,attributeBase o "get" env (eval o env)=eval o env)(hl:(apos.endLine == pos.line)=true)(hs:isStar e=false)(hs2:isStar f=false)(ha:P.SE r c o a)(hb:P.SE r c e b)(hf:P.SE r c f g):P.SE r c (.Call (.Attribute o "get" apos) [e,f] [] pos) (.get a b g):=by
 intro A env s m ow own G d hA hg R hG hok hev;refine have p:Pre P r c A env s m ow own G:=⟨hA,hg,R,hG⟩;?_;rw [AW,Qj,Qj] at hok;rw [yh] at hev;refine byG λX_ g_=>?_;refine aa hev λdx e1 hev=>?_;refine aa hev λdy e2 hev=>?_;refine aa hev λdz e3 hev=>?_;refine aa hev λkvs e4 hev=>?_;refine g_ ?_;refine have hc:=al hev;?_;refine have hck:=Qz hc.1;?_;refine have e4:=ln e4;?_;subst e4;refine wpAny_Call_method2_late (hbase env) hl (by rw [ak hs,ak hs2];rfl) (SE.us ha p hok.1.1 e1 λx s1 k1 as rx Z Z Z Z=>?_);refine byG λX_ g_=>?_;obtain ⟨l,kv,rfl,rfl,h0,hd,hk⟩:=oP (prog:=P.prog) hg.hs.1 rx hck.1;obtain ⟨fm,hm,hn,hi⟩:=y0 hd;refine g_ ?_;refine ⟨"dict", "dict.get",F.plainAttrs_dict,F.slot_dict_get,F.type_dict_get,hm.typeIs,hm.noDict,wpAny_dict_get2 (knd:=mixKind P.prog P.w) (by simpa using h0) (SE.us hb (p.keeps k1) hok.1.2 e2 λy s2 k2 bs ry Z Z Z Z=>SE.us hf (p.keeps (k1.trans k2)) hok.2 e3 λz s3 k3 cs rz Z Z Z Z=>?_)⟩
 refine have hm3:s3.heap.MapOf (mixKind P.prog P.w) l fm:=(by
  obtain ⟨o,es,ep,ho,r⟩:=hm
  exact ⟨o,es,ep,(k2.trans k3).get _ _ ho,r⟩);?_
 refine have k4:=(k1.trans k2).trans k3;?_;have rz2:=(rz.scal hck.2).2;induction hk1:strK dy with
 | some x=>
  rw [hk1] at hc;have:=ba hk1;subst this;cases ry using Rd.strE with
  | mk t hz ho=>
   refine ⟨.inl x,fm,strKind_is P.prog P.w x t,hm3,?_⟩;rw [hi];refine have e5:=Qv hc.2;?_;rcases hk.fnd x with ⟨q1,q2⟩ | ⟨v,d',q1,q2,q3,q4⟩
   ·rw [q2]
    rw [q1] at e5;rw [<- e5];exact PostE.flat0 (k4.trans (Kp.toks _ _)) (rz2 _) (ke hck.2) rfl
   ·rw [q2]
    rw [q1] at e5;rw [<- e5];exact PostE.flat0 (k4.trans (Kp.toks _ _)) (q4 _) (ke q3) rfl
 | none=>
  rw [hk1] at hc;clear hk1 Z rz k3 k2 hi hm hk hd h0 rx g_ k1 e4 hev e1 e3 e2 p hok hG R hg hA hf hb ha hs2 hs hl hbase;obtain ⟨n,e6,rfl⟩:=ad hc.2;have:=aY e6;subst this;cases ry using Rd.intE with
  | mk t=>
   refine ⟨.inr n,fm,intKind_is P.prog P.w n t,hm3,?_⟩;rw [hn];exact PostE.flat0 (k4.trans (Kp.toks _ _)) (rz2 _) (ke hck.2) rfl
end
section
variable {P:Pk}{r:Nat}{c:TC}
theorem hV(g:P.GP h):h.objs.size ≠ sysModules:=by
 obtain ⟨o,_,_,e,_⟩:=g.g;exact Nat.ne_of_gt (Qh (by decide) (Q3 e))
theorem iX(hG:∀ a,s.heap.get? a=none->G a)(kk:Kp { s with heap:=s.heap.push { cls:=.type "dict",data:=.dict #[] } } s2)(sb:Heap.SameBut s.heap.objs.size s2.heap h')(rd':Rd P.H h' (.ref s.heap.objs.size) (.dict kvs) [s.heap.objs.size])(hi:isOw ow e'=false) :
 PostE P ow own G e' (.dict kvs) s (.ref s.heap.objs.size) { s2 with heap:=h',toks:=tk }:=by
 have hnone:s.heap.get? s.heap.objs.size=none:=aL _;have k0:Kp s { s with heap:=s.heap.push { cls:=.type "dict",data:=.dict #[] } }:=Kp.heap s _ λb o e=>Qi _ e;have k3:Kp s { s2 with heap:=h',toks:=tk }:=by
  obtain ⟨h2,tk2,e2,hk2⟩:=k0.trans kk;clear k0 kk;subst e2;exact ⟨h',_,rfl,λb o e=>(sb.2 b (λq=>by subst q;exact nN (hnone.symm.trans e))).trans (hk2 b o e)⟩
 refine ⟨k3,_,rd',λZ b q=>?_,λq=>(by exact nF (hi.symm.trans q)),λZ Z b q=>?_,λq=>(by exact nF (hi.symm.trans q))⟩
 ·exact (Qx q) ▸ hG _ hnone
 ·exact (Qx q) ▸ hnone
theorem wB:P.SE r c (.Dict [] [] pos) (.dic .nil .nil):=by
 intro A env s m ow own G d hA hg R hG hok hev;induction Qv (show some (PyData.dict [])=some d from hev)
 rw [arm_eval_Dict];refine Qd (Yx ?_);show wpAny _ _ (subDict [] >>= λd=>pure (Value.ref d)) _ _ s;unfold subDict;refine Qd (Qd (wpAny_alloc (Qd (Zl ?_))));rw [Ql (by decide)];refine Qd (evalPairs_nil ?_);refine Zl (Qd (Qg (Qg (Qg (Qg ?_)))));exact iX (s2:={ s with heap:=s.heap.push { cls:=.type "dict",data:=.dict #[] } }) (tk:=s.toks) hG (Kp.refl _) (Heap.SameBut.refl _ _) (.dict (hV hg) (QL _ rfl) .nil) rfl
theorem mQ 
 (hshape:(evalEachOpt keys env).zip ((evalEach values env).map λv=>do let x <- v;standAt pos;pure x)=pairs.map λp=>(some p.1,p.2)) (h0:pairs ≠ []) (hlen:pairs.length < 17):eval (.Dict keys values pos) env=(do standAt pos;let d <- subDict pairs;pure (.ref d)):=by
 rw [arm_eval_Dict,hshape,dictDisplay_pairs pairs h0 hlen]
theorem mR:xsK (@storedH StK stDec [] q a (.bool true)) [q]:=gi (xs:=[]) (ks:=[]) ⟨rfl,λx hx=>by cases hx⟩
theorem wC(ha:P.SE r c k a)(hb:P.SE r c v b)(p:Pre P r c A env s m ow own G)(ok1:okE ow a=true)(ok2:okE ow b=true)(e3:evE P.Φ P.Γ a m=some (stK q))(e5:evE P.Φ P.Γ b m=some (.bool true)) :
 wpAny (model P.prog P.w) A (eval (.Dict [some k] [v] pos) env) (PostE P ow own G (.dic (.cons a .nil) (.cons b .nil)) (.dict [(stK q,.bool true)]) s) (λZ Z=>False) s:=by
 have k0:Kp s { s with heap:=s.heap.push { cls:=.type "dict",data:=.dict #[] } }:=Kp.heap s _ λb o e=>Qi _ e;rw [mQ (pairs:=[(eval k env,do let x <- eval v env;standAt pos;pure x)]) rfl (by simp) (by simp)];refine Qd (Yx (Qd ?_));unfold subDict;refine Qd (wpAny_alloc (Qd (Zl ?_)));rw [Ql (by simp)];refine Qd (evalPairs_cons (SE.us ha (p.keeps k0) ok1 e3 λkv s1 k1 bs1 rd1 Z Z Z Z=>?_));refine Qd (SE.us hb (p.keeps (k0.trans k1)) ok2 e5 λvv s2 k2 bs2 rd2 Z Z Z Z=>Qd (Yx (Qg (evalPairs_nil ?_))));have hv:=rd2.boolE';clear rd2 k0 e5 e3 ok2 ok1 hb ha;subst hv;have hcs:bs1=[]:=rd1.noAddr (r8 q);subst hcs;refine byG λX_ g_=>?_;obtain ⟨ka,_,_,_,_,_,_,_,rfl,_⟩:=cJ rd1;refine g_ ?_;refine Zl (Qd ?_);rw [Xz];refine Qd (Qd (@wpAny_dictSet_heap P.prog P.w StK stDec (eE P.prog P.w P.H) A _ s2 s.heap.objs.size ka [] q (.bool true) _ (by have:=p.room.units;show A.units+10 < cLine;lia) (rd1.keeps k2.get) ⟨_,#[],0,(k2.get _ _ (k1.get _ _ (QL _ rfl))),⟨rfl,rfl,rfl⟩,rfl,rfl,(λx hx=>by exact (YJ hx).elim),ZL⟩ (λh' hd' sb=>Qg ?_) (QF _)));simp only [List.forIn_nil];refine Qg (Qg (Qg (Qg ?_)));refine byG λX_ g_=>?_;obtain ⟨es,n,hg',rd'⟩:=iO (prog:=P.prog) p.gp.hs.2.1 hd' mR (hV p.gp);refine g_ ?_;exact iX (tk:=s2.toks+(6 * q.2.length+3)) p.new (k1.trans k2) sb rd' rfl
theorem y4(ha:P.SE r c k a)(hb:P.SE r c v b):P.SE r c (.Dict [some k] [v] pos) (.dic (.cons a .nil) (.cons b .nil)):=by
 intro A env s m ow own G d hA hg R hG hok hev;have p:Pre P r c A env s m ow own G:=⟨hA,hg,R,hG⟩
 rw [AX,Qj] at hok;have ok1:okE ow a=true:=by have:=hok.1;rw [show okEs ow (.cons a .nil)=(okE ow a&&true) from rfl,Bool.and_true] at this;exact this
 have ok2:okE ow b=true:=by have:=hok.2;rw [show okEs ow (.cons b .nil)=(okE ow b&&true) from rfl,Bool.and_true] at this;exact this
 rw [AI] at hev;refine aa hev λks e1 hev=>?_;refine aa hev λvs e2 hev=>?_;refine aa (show ((evE P.Φ P.Γ a m).bind λx=>(evEs P.Φ P.Γ .nil m).map λxs=>x::xs)=some ks from e1) λdk e3 e4=>?_;clear e1 hok R hA;obtain rfl:=Qv e4;refine aa (show ((evE P.Φ P.Γ b m).bind λx=>(evEs P.Φ P.Γ .nil m).map λxs=>x::xs)=some vs from e2) λdv e5 e6=>?_;obtain rfl:=Qv e6
 replace hev:(match strK dk with
  | some x=>if isScalar dv then some (PyData.dict [(.str x,dv)]) else none
  | none=>(unK dk).bind λp=>if tru dv then some (.dict [(stK p,.bool true)]) else none)=some d:=hev
 induction e7:strK dk with
 | none=>
  rw [e7] at hev;refine aa hev λq e8 hev=>?_;obtain ⟨ht,rfl⟩:=aE hev;rw [eQ e8] at e3;rw [g8 ht] at e5;exact wC ha hb p ok1 ok2 e3 e5
 | some x=>
 rw [e7] at hev;refine byG λX_ g_=>?_;obtain ⟨hsc,rfl⟩:=aE hev;refine g_ ?_;have hx:=ba e7;subst hx;refine wpAny_Dict_pairs (knd:=strKind P.prog P.w) (pairs:=[(eval k env,do let x <- eval v env;standAt pos;pure x)]) rfl (by simp) (by simp) ?_;have k0:Kp s { s with heap:=s.heap.push { cls:=.type "dict",data:=.dict #[] } }:=Kp.heap s _ λb o e=>Qi _ e;refine Qd (SE.us ha (p.keeps k0) ok1 e3 λkv s1 k1 bs1 rd1 Z Z Z Z=>?_);refine Qd (Zl (Qd (SE.us hb (p.keeps (k0.trans k1)) ok2 e5 λvv s2 k2 bs2 rd2 Z Z Z Z=>Qd (Yx (Qg ?_)))));refine Qd (Zl (Qg (Qg ?_)));cases rd1 using Rd.strE with
 | mk t hz ho=>
  refine ⟨[(x,vv)],⟨by simp [strKind,Value.isStrOf],rfl,trivial⟩,⟨_,#[],0,(k2.get _ _ (k1.get _ _ (QL _ rfl))),⟨rfl,rfl,rfl⟩,rfl,λe he=>by simp at he,.nil,ZL⟩,λh' hd' sb=>?_⟩;obtain ⟨es,n,hg',rd'⟩:=lm (prog:=P.prog) hg.hs.1 (show h'.DictOf (strKind P.prog P.w) s.heap.objs.size [(x,vv)] from hd') (.cons hz ho hsc (rd2.scal hsc).2 .nil) (hV hg);have k3:Kp s { s2 with heap:=h',toks:=s2.toks+1 }:=by
   obtain ⟨h2,tk2,e2,hk2⟩:=((k0.trans k1).trans k2)
   subst e2;exact ⟨h',_,rfl,λb o e=>(sb.2 b (λq=>by subst q;exact nN (((aL _)).symm.trans e))).trans (hk2 b o e)⟩
  refine ⟨k3,_,rd',λZ b q=>?_,λq=>(by exact nF q),λZ Z b q=>?_,λq=>(by exact nF q)⟩
  ·exact (Qx q) ▸ (hG _ (aL _))
  ·exact (Qx q) ▸ ((aL _))
end
noncomputable def iY(M:Model)(A:Around)(env:Env):List (Str × Value)->(Shared->Prop)->Shared->Prop
 | [],Q,s=>Q s
 | (x,v)::r,Q,s=>wpAny M A (storeName env x v) (λZ s'=>iY M A env r Q s') (λZ Z=>False) s
structure Turns(prog:Program)(w:World)(A:Around)(tgt:Expr)(xs:List Str)(I:Addr)(fp wr:List Addr)(n:Nat)(Pv:Nat->List Value->Prop)(St:Nat->Heap->Prop):Prop where
 sub:∀ b ∈ wr,b ∈ fp
 frame:∀ i h h',St i h->(∀ b ∈ fp,∀ o,h.get? b=some o->h'.get? b=some o)->St i h'
 item:∀ i (s:Shared) (env:Env) (Q:Shared->Prop),i < n->St i s.heap ->
  (∀ vals h' tk,Pv i vals->vals.length=xs.length->St (i+1) h'->(∀ b o,b ∉ wr->s.heap.get? b=some o->h'.get? b=some o)->iY (model prog w) A env (xs.zip vals) Q { s with heap:=h',toks:=tk }) ->
  wpAny (model prog w) A (pyNext (.ref I)) (λr s₁=>match r with
   | none=>False
   | some v=>wpAny (model prog w) A (letOwnedTupleGo tgt (.ref I) v) (λZ s₂=>wpAny (model prog w) A (assign tgt env v) (λZ s₃=>Q s₃) (λZ Z=>False) s₂) (λZ Z=>False) s₁) (λZ Z=>False) s
 done:∀ (s:Shared) (Q:Option Value->Shared->Prop),St n s.heap ->
  (∀ h' tk,(∀ b o,b ∉ wr->s.heap.get? b=some o->h'.get? b=some o)->Q none { s with heap:=h',toks:=tk })->wpAny (model prog w) A (pyNext (.ref I)) Q (λZ Z=>False) s
 self:∀ i (s:Shared) (Q:Value->Shared->Prop),St i s.heap->Q (.ref I) s->wpAny (model prog w) A (pyIter (.ref I)) Q (λZ Z=>False) s
theorem Turns.ofWalks{n:Nat}{Pv:Nat->Value->Prop}{St:Nat->Heap->Prop}(W:Walks prog w A I fp wr n Pv St)(x:Str)(px:Pos) :
 Turns prog w A (.Name x px) [x] I fp wr n (λi vals=>∃ v,vals=[v]/\Pv i v) St where
 sub:=W.sub
 frame:=W.frame
 item:=λi s env Q hi st h=>W.item i s _ _ hi st λv h' tk hP hst hk=>by
  show wpAny _ A (pure ()) _ _ _;refine Qg (Yw ?_);have:=h [v] h' tk ⟨v,rfl,hP⟩ rfl hst hk;exact this
 done:=λs Q st h=>W.done s Q _ st h
 self:=λi s Q st h=>W.self i s Q _ st h
theorem Turns.ofWalksU(hh:A.handled=none){n:Nat}{Pt:Nat->Array Value->Prop}{St:Nat->Heap->Prop}{Mid:Nat->Addr->Heap->Prop}(W:WalksU prog w A I fp wr n Pt St Mid)
 (h2:∀ i vals,Pt i vals->∃ a b,vals = #[a,b]) (x y:Str) (px py pt:Pos) (k:Nat) :
 Turns prog w A (.Tuple [.Name x px,.Name y py] k pt) [x,y] I fp wr n (λi vals=>Pt i vals.toArray) St where
 sub:=W.sub
 frame:=W.frame
 item:=λi s env Q hi st h=>W.item i s _ _ hi st λT vals h' tk hP hT hM hk=>by
  refine W.go _ k pt i T _ _ _ hM λh₂ hst₂ hk₂=>?_;refine byG λX_ g_=>?_;obtain ⟨a,b,rfl⟩:=h2 i vals hP;refine g_ ?_;refine wpAny_assign_Tuple hh (hT.at λo e=>hk₂ T o (W.apart i T h' hM) e) rfl rfl λh₃ hx₃=>?_;replace hx₃:Heap.ExtBut h₂.objs.size h₂ h₃:=hx₃;have up₃:∀ b o,h₂.get? b=some o->h₃.get? b=some o:=λb o x=>hx₃ b o (QM (Q3 x)) x;show wpAny _ A (do holding [b] (assign (.Name x px) env a);do holding [] (assign (.Name y py) env b);pure ()) _ _ _;refine Qd (Zl (Yw (Qs (h [a,b] h₃ tk hP rfl (W.frame _ _ _ hst₂ λc Z o e=>up₃ c o e) λc o hb e=>up₃ c o (hk₂ c o hb (hk c o hb e))) (λZ s' q=>?_) λZ Z z=>z)));exact Qd (Zl (Yw (Qs q (λZ s'' q'=>Qg q') λZ Z z=>z)))
 done:=λs Q st h=>W.done s Q _ st h
 self:=λi s Q st h=>W.self i s Q _ st h
noncomputable def itOw(ow:List Nat):It->List Ex
 | .plain e=>[e]
 | .range1 _=>[]
 | .enum e=>[e]
theorem y5(ow:List Nat)(e:Ex):itOw ow (It.plain e)=[e]:=rfl
structure ItOk(P:Pk)(A:Around)(tgt:Expr)(xs:List Str)(ow:List Nat)(own:Nat->Addr)(G:Addr->Prop)(m:St)(it':It)(items:List (List D))(s s₁ s₂:Shared)(I:Addr)(fp wr:List Addr)(Pv:Nat->List Value->Prop)(St:Nat->Heap->Prop):Prop where
 k1:Kp s s₁
 k2:Kp s₁ s₂
 T:Turns P.prog P.w A tgt xs I fp wr items.length Pv St
 st:St 0 s₂.heap
 wnew:∀ b ∈ wr,s₁.heap.get? b=none
 live:∀ i h,St i h->∀ b ∈ wr,∃ o,h.get? b=some o/\(cz it'=false->o.cls ≠ .type "tuple")/\(∀ vs n,o ≠ listObj vs n)/\(∀ es n,o.data ≠ .dict es n)/\∀ C,o.cls ≠ .ref C
 obj:∀ b ∈ fp,∃ o,s₂.heap.get? b=some o
 pin:∀ b ∈ fp,s₁.heap.get? b=none\/∃ o,s₁.heap.get? b=some o/\((∃ vs n,o=tupObj vs n)\/(G b/\∃ vs n,o=listObj vs n)\/∃ i,Ex.v i ∈ itOw ow it'/\ow.contains i=true/\b=own i/\∃ xs,m[i]?=some (some (.list xs)))
 vals:∀ i vs,i < items.length->Pv i vs->∃ ds as,items[i]?=some ds/\RdAll P.H s₁.heap vs ds as/\∀ a ∈ as,G a
noncomputable def Pk.SI(P:Pk)(r:Nat)(c:TC)(tgt:Expr)(xs:List Str)(e:Expr)(it':It):Prop:=
 ∀ (A:Around) (env:Env) (s:Shared) (m:St) (ow:List Nat) (own:Nat->Addr) (G:Addr->Prop) (items:List (List D)),Pre P r c A env s m ow own G->okIt ow it'=true->evIt P.Φ P.Γ it' m=some items ->
  wpAny (model P.prog P.w) A (eval e env) (λxv sx=>wpAny (model P.prog P.w) A (pyIter xv) (λitv s₂=>∃ s₁ I fp wr Pv St,itv = .ref I/\ItOk P A tgt xs ow own G m it' items s s₁ s₂ I fp wr Pv St) (λZ Z=>False) sx) (λZ Z=>False) s
theorem kf{i:Nat}{d:D}(h:xs[i]?=some d):(one xs)[i]?=some [d]:=by
 unfold one;rw [Qy,h];rfl
theorem hZ(xs:List D):(one xs).length=xs.length:=by simp [one]
theorem pE(h:isOw ow a=true):∃ i,a = .v i/\ow.contains i=true:=by
 cases a<;>first | exact ⟨_,rfl,h⟩ | exact nF h
section
variable {P:Pk}{r:Nat}{c:TC}
theorem dJ{H:D->Int}{h:Heap}{vs:Array Value}{xs:List D}{as:List Addr}{G:Addr->Prop}(ra:RdAll H h vs.toList xs as)(hG:∀ a ∈ as,G a){i:Nat}{l:List Value}(hp:∃ v,l=[v]/\vs[i]?=some v) :
 ∃ ds bs,(one xs)[i]?=some ds/\RdAll H h l ds bs/\∀ a ∈ bs,G a:=by
 refine byG λX_ g_=>?_;obtain ⟨v,rfl,hv⟩:=hp;rw [<- Zb] at hv;obtain ⟨d,bs,e,rd,q⟩:=ra.getV hv;refine g_ ?_;exact ⟨[d],bs,kf e,.one rd,λa m=>hG a (q a m)⟩
theorem evV(h:evE Φ Γ (.v i) m=some d):m[i]?=some (some d):=by
 simp only [x_v] at h;induction q:m[i]? with
 | none=>exact nN (q ▸ h)
 | some y=>rw [q] at h;simp only [bX] at h;rw [h]
theorem sC(hlp:P.lp=true){x:Str}{px:Pos}{e:Expr}{a:Ex}(ha:P.SE r c e a):P.SI r c (.Name x px) [x] e (.plain a):=by
 intro A env s m ow own G items p hok hev;simp only [yD] at hok;rw [gU] at hev;refine aa hev λdx e1 hev=>?_;obtain ⟨xs,e2,rfl⟩:=ad hev;refine SE.us ha p hok e1 λv s1 k as rd g f Z w=>?_;have hA:=p.room.hd hlp;have rd0:=rd;clear hev hok p ha hlp;induction rd using Rd.casesOn with
 | @list l vs n _ as' ho hz ra=>
  simp only [iG,Qc] at e2;subst e2;have hl:s1.heap.IsList l vs:=⟨_,ho,rfl,_,rfl⟩
  have hlen:=ra.length;simp only [QJ] at hlen;have W:=Turns.ofWalks (Walks.list (prog:=P.prog) (w:=P.w) (A:=A) hA s1.heap.objs.size l (QM (Q3 ho)) vs) x px;refine wpAny_pyIter_list hl ?_;rw [hlen,<- hZ] at W;refine ⟨s1,_,_,_,_,_,rfl,⟨k,Kp.push s1 _,W,⟨⟨_,QL _ rfl,rfl,rfl⟩,hl.at λo e=>Qi _ e⟩,?_,?_,?_,?_,?_⟩⟩
  ·intro b hb;exact (Qx hb) ▸ aL _
  ·rintro i h ⟨⟨o,ho,hc,hd⟩,_⟩ b hb
   exact (Qx hb) ▸ (⟨o,ho,λZ=>by rw [hc];decide,λvs n e=>(by rw [e] at hd;cases hd),λvs n e=>(by rw [e] at hd;cases hd),λC e=>(by rw [hc] at e;exact Value.noConfusion e)⟩)
  ·intro b hb
   rcases Qw hb with rfl | hb
   ·exact ⟨_,QL _ rfl⟩
   ·rw [Qx hb];exact ⟨_,Qi _ ho⟩
  ·intro b hb
   rcases Qw hb with rfl | hb
   ·exact .inl (aL _)
   ·rw [Qx hb]
    refine .inr ⟨_,ho,.inr ?_⟩;induction hi:isOw ow a with
    | false=>exact .inl ⟨g hi l (.head _),_,_,rfl⟩
    | true=>
     refine .inr ?_;refine byG λX_ g_=>?_;obtain ⟨i,rfl,hc⟩:=pE hi;refine g_ ?_;exact ⟨i,by simp [y5],hc,(w hi l (.head _)),_,evV e1⟩
  ·intro i l hi hp
   exact dJ ra (λb q=>rd0.innG g f b q) hp
 | @tuple l vs n _ as' ho hz ra=>
  simp only [iH,Qc] at e2;subst e2;have hl:s1.heap.IsTuple l vs:=⟨_,ho,rfl,_,rfl⟩
  have hne:l ≠ s1.heap.objs.size:=QM (Q3 ho);have hlen:=ra.length;simp only [QJ] at hlen;have W:=Turns.ofWalks (Walks.tuple (prog:=P.prog) (w:=P.w) (A:=A) hA s1.heap.objs.size l hne vs) x px;refine wpAny_pyIter_tuple hl ?_;rw [hlen,<- hZ] at W;refine ⟨s1,_,_,_,_,_,rfl,⟨k,Kp.push s1 _,W,⟨⟨_,QL _ rfl,rfl,rfl⟩,hl.at λo e=>Qi _ e⟩,?_,?_,?_,?_,?_⟩⟩
  ·intro b hb;exact (Qx hb) ▸ aL _
  ·rintro i h ⟨⟨o,ho,hc,hd⟩,_⟩ b hb
   exact (Qx hb) ▸ (⟨o,ho,λZ=>by rw [hc];decide,λvs n e=>(by rw [e] at hd;cases hd),λvs n e=>(by rw [e] at hd;cases hd),λC e=>(by rw [hc] at e;exact Value.noConfusion e)⟩)
  ·intro b hb
   rcases Qw hb with rfl | hb
   ·exact ⟨_,QL _ rfl⟩
   ·rw [Qx hb];exact ⟨_,Qi _ ho⟩
  ·intro b hb
   rcases Qw hb with rfl | hb
   ·exact .inl (aL _)
   ·exact (Qx hb) ▸ (.inr ⟨_,ho,.inl ⟨_,_,rfl⟩⟩)
  ·intro i l hi hp
   exact dJ ra (λb q=>rd0.innG g f b q) hp
 | str y t hz ho=>
  simp only [nY,Qc] at e2;subst e2;have fin:∀ (T:String),T ≠ "tuple" -> Turns P.prog P.w A (.Name x px) [x] s1.heap.objs.size [s1.heap.objs.size] [s1.heap.objs.size] y.cps.size (λi vals=>∃ v,vals=[v]/\SignAt y i v) (λi h=>h.IsStrIter s1.heap.objs.size T y t i) ->
   ∃ s₁ I fp wr Pv St,Value.ref s1.heap.objs.size = .ref I/\ItOk P A (.Name x px) [x] ow own G m (.plain a) (one (y.cps.toList.map λc=>.str ⟨#[c]⟩)) s s₁ { s1 with heap:=s1.heap.push { cls:=.type T,data:=.fields #[.str y t,.int 0 0] } } I fp wr Pv St:=λT hT W=>by
   have el:y.cps.size=(one (y.cps.toList.map λc=>PyData.str ⟨#[c]⟩)).length:=by rw [hZ,lX,QJ]
   rw [el] at W;refine ⟨s1,_,_,_,_,_,rfl,⟨k,Kp.push s1 _,W,⟨_,QL _ rfl,rfl,rfl⟩,?_,?_,?_,?_,?_⟩⟩
   ·intro b hb;exact (Qx hb) ▸ aL _
   ·rintro i h ⟨o,ho,hc,hd⟩ b hb
    exact (Qx hb) ▸ (⟨o,ho,λZ=>by rw [hc];simpa using hT,λvs n e=>(by rw [e] at hd;cases hd),λvs n e=>(by rw [e] at hd;cases hd),λC e=>(by rw [hc] at e;exact Value.noConfusion e)⟩)
   ·intro b hb;rw [Qx hb];exact ⟨_,QL _ rfl⟩
   ·intro b hb;exact (Qx hb) ▸ (.inl (aL _))
   ·rintro i l hi ⟨v,rfl,cp,u,hc,rfl⟩
    refine ⟨[.str ⟨#[cp]⟩],[],kf ?_,.one (.str _ _ (by show 1<=sizeLine;decide) (iR ho hc)),λZ q=>((YJ q).elim)⟩;rw [Qy,Zb,hc];rfl
  induction hc:y.cps.all (· < 128) with
  | false=>exact wpAny_pyIter_wide hc (fin _ (by decide) (Turns.ofWalks (Walks.strWide hA _ _ _) x px))
  | true=>exact wpAny_pyIter_ascii hc (fin _ (by decide) (Turns.ofWalks (Walks.strAscii hA _ _ _) x px))
 | none=>exact nN e2
 | bool b=>exact nN e2
 | int i t=>exact nN e2
 | dict=>exact nN e2
 | exc=>exact nN e2
theorem et:∀ (n:Nat) (a:Int),(cU a n).length=n:=by
 intro n;induction n with
 | zero=>
  intro _;exact rfl
 | succ n et=>
  intro a;simp [eO,et]
theorem gj:∀ (n:Nat) (a:Int) (i:Nat),i < n->(cU a n)[i]?=some (.int (a+i))
 | 0,_,_,h=>absurd h (ZY _)
 | n+1,a,0,_=>by simp [eO]
 | n+1,a,i+1,h=>by
  simp only [eO,gX];rw [gj n (a+1) i (by exact Q7 h)];congr 2;(rw [Int.add_assoc,YX 1];rfl)
theorem sD{own:Nat->Addr}{G:Addr->Prop}{a b:Int}(hA:A.handled=none)(k1:Kp s s1)(k2:Kp s1 s2)(hr:IsRange s2.heap ra a b 1 t u v)
 (hp:a.natAbs<=2 ^ 20) (hq:b.natAbs<=2 ^ 20) :
 wpAny (model P.prog P.w) A (pyIter (.ref ra)) (λitv s₂=>∃ s₁ I fp wr Pv St,itv = .ref I/\ItOk P A (.Name x px) [x] ow own G m it' (one (cU a (b - a).toNat)) s s₁ s₂ I fp wr Pv St) (λZ Z=>False) s2:=by
 refine wpAny_pyIter_range hr (small_one (by exact Qt (by decide) (absL hp).1) (by exact QH (absL hp).2 (by decide)) (by exact Qt (by decide) (absL hq).1) (by exact QH (absL hq).2 (by decide))) ?_;have hsz:Builtin.Range.rangeSize a b 1=((b - a).toNat:Int):=by
  rw [rangeSize_one];split<;>(first | exact (Zp (Int.sub_nonneg_of_le (Y8 ‹_›))).symm | exact (Qf Int.ofNat (Int.toNat_eq_zero.mpr (Int.sub_nonpos_of_le (ZB.mp ‹_›)))).symm)
 have W:=Turns.ofWalks (Walks.range (prog:=P.prog) (w:=P.w) (A:=A) hA s2.heap.objs.size a 1 (b - a).toNat) x px;have el:(b - a).toNat=(one (cU a (b - a).toNat)).length:=by rw [hZ,et]
 rw [el] at W;refine ⟨s2,_,_,_,_,_,rfl,⟨k1.trans k2,Kp.push s2 _,W,?_,?_,?_,?_,?_,?_⟩⟩
 ·show IsRangeIter _ _ _ _ _
  rw [hsz,<- el]
  simpa using QL _ rfl
 ·intro b hb;exact (Qx hb) ▸ aL _
 ·intro i h ho b hb
  exact (Qx hb) ▸ (⟨_,ho,λZ=>by simp,λvs n e=>(by have:=Qf Obj.data e;cases this),λvs n e=>(by cases e),λC e=>(by exact Value.noConfusion e)⟩)
 ·intro b hb;rw [Qx hb];exact ⟨_,QL _ rfl⟩
 ·intro b hb;exact (Qx hb) ▸ (.inl (aL _))
 ·rintro i l hi ⟨v,rfl,t,rfl⟩
  rw [<- el] at hi;refine ⟨[.int (a+i)],[],kf (gj _ _ _ hi),?_,λZ q=>((YJ q).elim)⟩;have e1:a+(i:Int) * 1=a+(i:Int):=by (rw [Int.mul_one])
  exact e1 ▸ (.one (.int _ _))
set_option tactic.hygienic true in
theorem pF{f:Str}(hlp:P.lp=true)(hf:f = "range")(hk:c.kind f=some .globalImplicit)(hs:isStar e=false)(ha:P.SE r c e a):P.SI r c (.Name x px) [x] (.Call (.Name f pf) [e] [] pos) (.range1 a):=by
 intro A env s m ow own G items p hok hev;simp only [yE] at hok;rw [iJ] at hev;refine aa hev λdx e1 hev=>?_;refine aa hev λn e2 hev=>?_;rw [aY e2] at e1;subst hf;refine kc p hk (by decide +kernel) (by decide +kernel) (cr (by decide +kernel)) mP (.inr ⟨_,rfl⟩) hs ha hok e1 λy s1 as k rd g f=>?_;have hn:=al hev;cases rd;refine call_range_1 ?_;exact (Qv hn.2) ▸ (show n.toNat=(n - 0).toNat by simp) ▸ (sD (P:=P) (p.room.hd hlp) (k.trans (Kp.toks s1 (s1.toks+1+1))) (Kp.push { s1 with toks:=s1.toks+1+1 } _) (IsRange.new s1.heap 0 n 1 s1.toks _ (s1.toks+1)) (by decide) hn.1)
end
noncomputable def closL(env:Env):List (Str × NameKind)->List (Str × Addr)->List (Str × Addr)
 | [],acc=>acc
 | (n,k)::r,acc=>closL env r (if k == .free then (n,(env.cells.lookup n).getD 0)::acc else acc)
theorem fu(env:Env)(x:List (Str × Addr))(n:Str)(k:NameKind)(r:List (Str × NameKind)):closL env ((n,k)::r) x=closL env r (if (k == NameKind.free)=true then (n,(List.lookup n env.cells).getD 0)::x else x):=rfl
set_option tactic.hygienic true in
theorem sE:∀ (names:List (Str × NameKind)) (acc:List (Str × Addr)),(∀ y ∈ names,y.2 = .free->∃ a,env.cells.lookup y.1=some a)->(∀ q ∈ acc,env.cells.lookup q.1=some q.2)->∀ q ∈ closL env names acc,env.cells.lookup q.1=some q.2:=by
 intro names;induction names with
 | nil=>
  intro _ _ h;exact h
 | cons p_ r ih_=>
  obtain ⟨n,k⟩:=p_;intro acc hn h;rw [fu];refine ih_ _ (λy hy=>hn y (.tail _ hy)) λq hq=>?_;split at hq
  ·rename_i hk
   rcases Qw hq with rfl | hq
   ·obtain ⟨a,ha⟩:=hn (n,k) (.head _) (Q4 hk)
    simp only at ha;simp [ha]
   ·exact h q hq
  ·exact h q hq
theorem pG:∀ (names:List (Str × NameKind)) (acc:List (Str × Addr)),∀ q ∈ acc,q ∈ closL env names acc:=by
 intro names;induction names with
 | nil=>
  intro _ _ h;exact h
 | cons p_ r ih_=>
  obtain ⟨n,k⟩:=p_;intro acc q h;rw [fu];refine ih_ _ q ?_;split
  ·exact .tail _ h
  ·exact h
theorem iZ:∀ (names:List (Str × NameKind)) (acc:List (Str × Addr)) (x:Str),(x,NameKind.free) ∈ names->∃ a,(x,a) ∈ closL env names acc
 | (n,k)::r,acc,x,h=>by
  rw [fu];rcases Qw h with e | h
  ·obtain ⟨rfl,rfl⟩:=Prod.mk.inj e
   exact ⟨_,pG r _ _ (by rw [Ql (by decide)];exact .head _)⟩
  ·exact iZ r _ x h
theorem eG{cs:List (Str × Addr)}{f:Str->Option Addr}:∀ {l:List (Str × Addr)},(∀ q ∈ l,f q.1=some q.2)->∀ x a,(x,a) ∈ l->l.lookup x=f x
 | (n,b)::r,h,x,a,hm=>by
  rw [ZX];induction hb:x == n with
  | true=>
   have e:=Q4 hb;subst e;exact (h _ (.head _)).symm
  | false=>
   rcases Qw hm with e | hm
   ·obtain ⟨rfl,rfl⟩:=Prod.mk.inj e;simp at hb
   ·exact eG (cs:=cs) (λq hq=>h q (.tail _ hq)) x a hm
theorem mT(h:∀ y ∈ scope.names,y.2 = .free->∃ a,env.cells.lookup y.1=some a):closureFor scope env=pure (closL env scope.names []):=by
 unfold closureFor;have key:∀ (names:List (Str × NameKind)) (acc:List (Str × Addr)),(∀ y ∈ names,y.2 = .free->∃ a,env.cells.lookup y.1=some a) ->
  (forIn names acc λ(x:Str × NameKind) (cs:List (Str × Addr))=>(if (x.2 == NameKind.free)=true then do let a <- cellOf env x.1;pure (ForInStep.yield ((x.1,a)::cs)) else pure (ForInStep.yield cs):Sem (ForInStep (List (Str × Addr)))))=pure (closL env names acc):=by
  intro names;induction names with
  | nil=>intro acc _;rfl
  | cons y r ih=>
   intro acc hn;obtain ⟨n,k⟩:=y;rw [Xz]
   by_cases hk:(k == NameKind.free)=true
   ·obtain ⟨a,ha⟩:=hn (n,k) (.head _) (Q4 hk)
    simp only at ha;have hc:cellOf env n=pure a:=by unfold cellOf;rw [ha]
    simp only [hk,if_true,hc];have:=ih ((n,a)::acc) λy hy=>hn y (.tail _ hy);rw [fu];rw [Ql hk,ha];exact this
   ·have hk':(k == NameKind.free)=false:=by simpa using hk
    simp only [hk'];have:=ih acc λy hy=>hn y (.tail _ hy);rw [fu];rw [Qu hk];exact this
 exact (Qf (λt:Sem (List (Str × Addr))=>t >>= λcs=>pure cs) (key scope.names [] h)).trans rfl
section
variable {prog:Program}{w:World}{A:Around}{R:Result->Shared->Prop}{s:Shared}
set_option tactic.hygienic true in
theorem i5(I:Nat->Shared->Prop)
 (turn:∀ n s,I n s->wpAny (model prog w) A (pyNext it) (λr s₁=>match r with
  | none=>R (.ok .next) s₁
  | some v=>wpAny (model prog w) A (letOwnedTupleGo target it v) (λZ s₁'=>wpAny (model prog w) A (assign target env v) (λZ s₂=>
   wpAny (model prog w) A (forIn ifs true λc r=>if r=true then do let ok <- isTrue c env (eval c env);pure (ForInStep.yield ok) else pure (ForInStep.yield r)) (λok s₃=>
    if ok=true then wpAny (model prog w) A (eval elt env) (λx s₄=>
     wpAny (model prog w) A (call (.builtin "list.append") [acc,x]) (λZ s₅=>∃ m,m < n/\I m s₅) (λZ Z=>False) s₄) (λZ Z=>False) s₃
    else ∃ m,m < n/\I m s₃) (λZ Z=>False) s₂) (λZ Z=>False) s₁') (λZ Z=>False) s₁) (λZ Z=>False) s)
 (n:Nat) (h:I n s) :
 codeAny (model prog w) A (.compLoop (.ListComp elt [⟨target,iter,ifs,0⟩] scope pos) 0 it acc env) R s:=by
 refine codeAny_loop rfl I (λn s hI=>?_) n h;show wpAny _ A ((compTurn (.ListComp elt [⟨target,iter,ifs,0⟩] scope pos) 0 it acc env).onRaise (λx=>do noteFrame x env;theTreesLotGoes x)) _ _ s;refine wpAny_noted ?_;rw [compTurn_list];refine Qd (Yx (Qd (Qs (turn n s hI) (λr s₁ h₁=>?_) λZ Z h'=>h'.elim)));induction r with
 | none=>exact Qg h₁
 | some v=>
  refine Qd (Qs h₁ (λZ s₁' h₁'=>?_) λZ Z h'=>h'.elim);refine Qd (Qs h₁' (λZ s₂ h₂=>Qd (Qs h₂ (λok s₃ h₃=>?_) λZ Z h'=>h'.elim)) λZ Z h'=>h'.elim);induction ok with
  | false=>exact Qg ⟨rfl,h₃⟩
  | true=>
   exact Qd (Qd (Qs h₃ (λx s₄ h₄=>Qd (Qs h₄ (λZ s₅ h₅=>Qg (Qg ⟨rfl,h₅⟩)) λZ Z h'=>h'.elim)) λZ Z h'=>h'.elim))
end
set_option tactic.hygienic true in
theorem aQ:∀ {names:List Str} {x:Str} {i:Nat},slotOf names x=some i->i < names.length/\names[i]?=some x:=by
 intro names;induction names with
 | nil=>
  intro _ _ h;simp [rL] at h
 | cons y r aQ=>
  intro x i h;rw [bZ] at h;induction q:slotOf r x with
  | some j=>
   rw [q] at h;obtain rfl:=Qv h;have:=aQ q;exact ⟨by simp;exact this.1,by simpa using this.2⟩
  | none=>
   rw [q] at h;simp only at h;split at h
   ·obtain rfl:=Qv h
    rename_i e;have e:=Q4 e;clear q aQ;subst e;exact ⟨by simp,rfl⟩
   ·exact nN h
theorem dK:∀ {names xs:List Str} {x:Str} {i:Nat},slotOf (names++xs) x=some i->(∃ j,slotOf xs x=some j/\i=names.length+j)\/(slotOf xs x=none/\slotOf names x=some i)
 | [],xs,x,i,h=>by
  simp only [List.nil_append] at h;exact .inl ⟨i,h,by simp⟩
 | y::r,xs,x,i,h=>by
  rw [ZG] at h;rw [bZ] at h;induction q:slotOf (r++xs) x with
  | some j=>
   rw [q] at h;obtain rfl:=Qv h;rcases dK q with ⟨k,h1,h2⟩ | ⟨h1,h2⟩
   ·exact .inl ⟨k,h1,by simp;exact (Qf Nat.succ h2).trans (Z9 _ _).symm⟩
   ·refine .inr ⟨h1,?_⟩
    rw [bZ];rw [h2]
  | none=>
   rw [q] at h;simp only at h;have n1:slotOf xs x=none/\slotOf r x=none:=by
    clear h;induction r with
    | nil=>exact ⟨by simpa using q,rfl⟩
    | cons z r ih=>
     rw [ZG] at q;rw [bZ] at q;induction q2:slotOf (r++xs) x with
     | some j=>rw [q2] at q;exact nS q
     | none=>
      rw [q2] at q;obtain ⟨i1,i2⟩:=ih q2;refine ⟨i1,?_⟩;rw [bZ];rw [i2];exact q
   refine .inr ⟨n1.1,?_⟩;rw [bZ];rw [n1.2];exact h
theorem fY(hf:env.scope.kind = .function)(hk:∀ x,env.kindOf x=kind x)(x:Str):(relabel scope env).names.lookup x=kindC scope kind x:=by
 unfold relabel kindC;simp only;generalize scope.names=names;induction names with
 | nil=>rfl
 | cons y r ih=>
  obtain ⟨n,k⟩:=y;rw [QX,ZX];simp only [hf,hk];induction hb:x == n with
  | true=>
   have e:=Q4 hb;subst e;simp only [ZX,Zh];induction k<;>simp only<;>first | rfl | skip
   all_goals (by_cases q:(kind x == some NameKind.cell)=true<;>simp [q])
  | false=>
   have:=ih;simp only [hf,hk] at this
   by_cases q:(k == NameKind.free&&true&&(kind n == some NameKind.cell))=true
   ·have q':(k == NameKind.free&&(ScopeKind.function == ScopeKind.function)&&(kind n == some NameKind.cell))=true:=q
    rw [Ql q'];simp only [ZX,hb];exact this
   ·have q' : ¬ (k == NameKind.free&&(ScopeKind.function == ScopeKind.function)&&(kind n == some NameKind.cell))=true:=q
    rw [Qu q'];simp only [ZX,hb];exact this
section
variable {P:Pk}{r:Nat}{c:TC}
structure CompOk(scope:Scope)(c:TC)(xs:List Str):Prop where
 kind:scope.kind = .function
 nocell:∀ y ∈ scope.names,y.2 ≠ .cell
 loc:∀ y ∈ scope.names,y.2 = .local->scope.names.lookup y.1=some .local
 free:∀ y ∈ scope.names,y.2 = .free->c.kind y.1=some .cell
 own:∀ y ∈ scope.names,y.2 = .local->y.1 ∈ xs\/y.1=(".0" : Str)
 tgt:∀ x ∈ xs,scope.names.lookup x=some .local
 dot:(".0" : Str) ∉ c.names++xs
theorem pH(h:li scope c.kind xs=true)(h1:c.names.contains (".0" : Str)=false)(h2:xs.contains (".0" : Str)=false):CompOk scope c xs:=by
 unfold li at h;simp only [Qj,ZK,Q5,Ze,bne_iff_ne,ne_eq,Xv] at h;obtain ⟨⟨⟨⟨⟨a1,a2⟩,a3⟩,a4⟩,a5⟩,a6⟩:=h;refine ⟨a1,a2,λy hy e=>(a3 y hy).resolve_left (λn=>n e),λy hy e=>(a4 y hy).resolve_left (λn=>n e),λy hy e=>?_,a6,?_⟩
 ·rcases a5 y hy with (q | q) | q
  ·exact absurd e q
  ·exact .inl q
  ·exact .inr q
 ·intro hm
  rcases QY hm with q | q
  ·have:c.names.contains (".0" : Str)=true:=Xv.mpr q
   exact nF (h1.symm.trans this)
  ·have:xs.contains (".0" : Str)=true:=Xv.mpr q
   exact nF (h2.symm.trans this)
theorem aT{α:Type}{x:Str}{k:α}:∀ {l:List (Str × α)},l.lookup x=some k->(x,k) ∈ l
 | (n,j)::r,h=>by
  rw [ZX] at h;induction hb:x == n with
  | true=>rw [hb] at h;obtain rfl:=Qv h;rw [Q4 hb];exact .head _
  | false=>rw [hb] at h;exact .tail _ (aT h)
set_option tactic.hygienic true in
theorem sF{scope:Scope}{xs:List Str}{env:Env}{m:St}{ow:List Nat}{own:Nat->Addr}{G:Addr->Prop}{h:Heap}{C:Addr}{mm:Str->Option Value}{vals:List Value}{ds:List D}{as:List Addr}(K:CompOk scope c xs)
 (R:EnvR P.H c env ow own G h m) (hn:h.Ns C mm) (hv:∀ j x v,xs[j]?=some x->vals[j]?=some v->slotOf xs x=some j->mm x=some v) (rd:RdAll P.H h vals ds as) (hl:vals.length=xs.length) (hg:∀ a ∈ as,G a) :
 EnvR P.H ⟨c.names++xs,kindC scope c.kind⟩ (compEnvC scope (closL env scope.names []) C env) ow own G h (m++ds.map some):=by
 have kd:∀ x,(compEnvC scope (closL env scope.names []) C env).kindOf x=kindC scope c.kind x:=λx=>fY R.fn R.kd x;have cells:∀ x,kindC scope c.kind x=some .cell->(closL env scope.names []).lookup x=env.cells.lookup x/\c.kind x=some .cell:=λx hx=>by
  unfold kindC at hx;induction hl:scope.names.lookup x with
  | none=>exact nN (hl ▸ hx)
  | some k=>
   rw [hl] at hx;induction k
   case free=>
    replace hx:(if c.kind x == some .cell then some NameKind.cell else some NameKind.free)=some .cell:=hx;split at hx
    ·rename_i q
     obtain ⟨a,ha⟩:=iZ (env:=env) scope.names [] x (aT hl);exact ⟨eG (cs:=[]) (f:=λz=>env.cells.lookup z) (sE scope.names [] (λy hy e=>R.cel y.1 ((R.kd y.1).trans (K.free y hy e))) (λZ q=>(YJ q).elim)) x a ha,by simpa using q⟩
    ·exact NameKind.noConfusion (Qv hx)
   case cell=>exact absurd (aT hl) λhm=>K.nocell _ hm rfl
   all_goals exact NameKind.noConfusion (Qv hx)
 refine ⟨K.kind,R.gl,R.bu,kd,?_,?_,?_,?_⟩
 ·simp only [QW,lX,R.len,<- rd.length,hl]
 ·intro i hi
  have:=R.owlt i hi;simp only [QW];exact Qe this (QI _ _)
 ·intro x hx
  obtain ⟨e1,e2⟩:=cells x ((kd x).symm.trans hx);obtain ⟨a,ha⟩:=R.cel x ((R.kd x).trans e2);exact ⟨a,e1.trans ha⟩
 ·intro x i d hs hm hk
  rcases dK hs with ⟨j,hj,rfl⟩ | ⟨hj,hi⟩
  ·obtain ⟨jl,jx⟩:=aQ hj
   have e:(m++ds.map some)[c.names.length+j]?=(ds.map some)[j]?:=by
    rw [<- R.len,ZW (by exact QI _ _)];congr 1;exact Nat.add_sub_cancel_left _ _
   rw [e,Qy] at hm;obtain ⟨d',hd',e'⟩:=QK hm;obtain rfl:=Qv e';refine byG λX_ g_=>?_;obtain ⟨v,bs,ev,rv,hb⟩:=rd.get hd';refine g_ ?_;have hkl:kindC scope c.kind x=some .local:=by unfold kindC;rw [(K.tgt x (Qa jx))]
   refine ⟨v,bs,.inl ⟨(kd x).trans hkl,mm,hn,hv j x v jx ev hj⟩,rv,λho=>?_,λZ a q=>hg a (hb a q)⟩;have:=R.owlt _ ho;rw [R.len] at this;exact absurd this (Z4.mpr (QI _ _))
  ·obtain ⟨il,ix⟩:=aQ hi
   rw [(Zx (by exact R.len ▸ il))] at hm;rcases hk with hk | hk
   ·exfalso
    have hloc:scope.names.lookup x=some .local:=by
     simp only [kindC] at hk;split at hk
     ·split at hk<;>exact NameKind.noConfusion (Qv hk)
     ·exact hk
    rcases K.own _ (aT hloc) rfl with q | q
    ·obtain ⟨j,hjx⟩:=Z1 q
     have:∀ (l:List Str) (j:Nat),l[j]?=some x->slotOf l x ≠ none:=by
      intro l;induction l with
      | nil=>intro j h;simp at h
      | cons y r ih=>
       intro j h;rw [bZ];induction q:slotOf r x with
       | some k=>simp
       | none=>
        induction j using nc with
        | zero=>simp at h;simp [h]
        | succ j=>exact absurd q (ih j (by simpa using h))
     exact this xs j hjx hj
    ·exact K.dot (by exact q ▸ (Q6 _ (Qa ix)))
   ·refine byG λX_ g_=>?_
    obtain ⟨e1,e2⟩:=cells x hk;obtain ⟨v,bs,hvar,rv,h1,h2⟩:=R.var x i d hi hm (.inr e2);refine g_ ?_;refine ⟨v,bs,?_,rv,h1,h2⟩;rcases hvar with ⟨q,_⟩ | ⟨_,cc,hc,hcell⟩
    ·rw [R.kd,e2] at q;exact NameKind.noConfusion (Qv q)
    ·exact .inr ⟨(kd x).trans hk,cc,e1.trans hc,hcell⟩
end
noncomputable def SIfs(P:Pk)(r:Nat)(c:TC):List Expr->Exo->Prop
 | [],.none=>True
 | [q],.some b=>P.ST r c q b
 | _,_=>False
theorem EnvR.strengthen(R:EnvR H c env ow own G h m)(hg:∀ a o,h.get? a=some o->G a->G' a):EnvR H c env ow own G' h m where
 fn:=R.fn
 gl:=R.gl
 bu:=R.bu
 kd:=R.kd
 len:=R.len
 owlt:=R.owlt
 cel:=R.cel
 var:=λx i d h1 h2 h3=>(R.var x i d h1 h2 h3).imp λv q=>q.imp λas q=>⟨q.1,q.2.1,q.2.2.1,λz y hy=>(q.2.1.old y hy).elim λo ho=>hg y o ho.1 (q.2.2.2 z y hy)⟩
theorem Rd.but(X:Addr->Prop)(rd:Rd H h v d as)(hk:∀ b o,¬ X b->h.get? b=some o->h'.get? b=some o)(hx:∀ b o,X b->h.get? b=some o->∀ vs n,o ≠ tupObj vs n)(ha:∀ a ∈ as,¬ X a):Rd H h' v d as:=
 rd.mono' λa o e q=>hk a o (λx=>q.elim (λ⟨vs,n,t⟩=>hx a o x e vs n t) λm=>ha a m x) e
theorem RdAll.but(X:Addr->Prop)(rd:RdAll H h v d as)(hk:∀ b o,¬ X b->h.get? b=some o->h'.get? b=some o)(hx:∀ b o,X b->h.get? b=some o->∀ vs n,o ≠ tupObj vs n)(ha:∀ a ∈ as,¬ X a):RdAll H h' v d as:=
 rd.mono' λa o e q=>hk a o (λx=>q.elim (λ⟨vs,n,t⟩=>hx a o x e vs n t) λm=>ha a m x) e
theorem bf{h:Heap}{C:Addr}{mm:Str->Option Value}(hn:h.Ns C mm):∀ o,h.get? C=some o->∀ vs n,o ≠ tupObj vs n:=by
 intro o e vs n q;obtain ⟨o',es,ep,e',d,_⟩:=hn;rw [e] at e';obtain rfl:=Qv e';rw [q] at d;cases d
theorem Rd.scalar(r:Rd H h v d as)(hs:isScalar d=true):as=[]/\Rd H h' v d []:=by
 induction r using Rd.casesOn<;>first
  | (cases hs;done)
  | exact ⟨rfl,.none⟩
  | exact ⟨rfl,.bool _⟩
  | exact ⟨rfl,.int _ _⟩
  | exact ⟨rfl,.str _ _ (by assumption) (by assumption)⟩
theorem RdAll.scalars(r:RdAll H h vs ds as)(hs:ds.all isScalar=true):as=[]/\RdAll H h' vs ds []:=
 r.ind (M:=λvs ds as=>ds.all isScalar=true->as=[]/\RdAll H h' vs ds []) (λo_=>⟨rfl,.nil⟩) (λv vs d ds as bs h1 h2 i hs=>by
  rw [List.all_cons,Qj] at hs;clear h2 r;obtain ⟨rfl,r2⟩:=i hs.2;obtain ⟨rfl,r1⟩:=h1.scalar (h':=h') hs.1
  exact ⟨rfl,.cons r1 r2⟩) hs
theorem pI(h:dE f c (vs::r)=some out) :
 ∃ b,c vs=some b/\((b=true/\∃ x o,f vs=some x/\dE f c r=some o/\out=x::o)\/(b=false/\dE f c r=some out)):=by
 simp only [nX] at h;refine aa h λb e h=>?_;induction b with
 | true=>
  simp only [if_true] at h;refine byG λX_ g_=>?_;refine aa h λx e1 h=>?_;obtain ⟨o,e2,rfl⟩:=ad h;refine g_ ?_;exact ⟨true,e,.inl ⟨rfl,x,o,e1,e2,rfl⟩⟩
 | false=>exact ⟨false,e,.inr ⟨rfl,by simpa using h⟩⟩
structure CInv(H:D->Int)(s₂:Shared)(len:Nat)(S:Nat->Heap->Prop)(C D0:Addr)(G':Addr->Prop)(ev:Nat->Option (List D))(out:List D)(wr:List Addr)(n:Nat)(s':Shared)(i:Nat)(h':Heap)(tk:Nat)(mm:Str->Option Value)(ys:Array Value)(o1 o2:List D)(as:List Addr):Prop where
 e:s'={ s₂ with heap:=h',toks:=tk }
 ni:n+i=len
 st:S i h'
 ns:h'.Ns C mm
 pl:h'.PlainList D0 ys
 sz:ys.size<=i
 rd:RdAll H h' ys.toList o1 as
 g:∀ a ∈ as,G' a
 ev:ev i=some o2
 out:out=o1++o2
 kp:∀ b o,b ∉ wr->s₂.heap.get? b=some o->h'.get? b=some o
section
variable {P:Pk}{r:Nat}{c:TC}
theorem pJ(hp:(cenv.scope.kind == .class||(cenv.scope.kind == .module&&cenv.locals != cenv.globals))=false) :
 ∀ {l:List (Str × Value)} {s:Shared} {mm:Str->Option Value} {Q:Shared->Prop},(∀ q ∈ l,cenv.kindOf q.1=some .local)->(l.map (·.1)).Nodup->s.heap.Ns cenv.locals mm ->
 (∀ h' tk mm',h'.Ns cenv.locals mm'->(∀ q ∈ l,mm' q.1=some q.2)->(∀ y,y ∉ l.map (·.1)->mm' y=mm y)->Heap.SameBut cenv.locals s.heap h'->Q { s with heap:=h',toks:=tk })->iY (model P.prog P.w) A cenv l Q s:=by
 intro l;induction l with
 | nil=>
  intro s mm Q _ _ hn h;exact h s.heap s.toks mm hn (λq x=>(YJ x).elim) (λo_ Z=>rfl) ⟨rfl,λo_ Z=>rfl⟩
 | cons p_ r ih_=>
  intro s mm Q hk hd hn h;obtain ⟨x,v⟩:=p_;show wpAny _ _ _ _ _ _;rw [QX,Q8] at hd;refine wpAny_storeName_local (hk _ (.head _)) hn (λh' hn' hs'=>?_) hp;refine ih_ (λq hq=>hk q (.tail _ hq)) hd.2 hn' λh'' tk mm' hn'' h1 h2 h3=>?_;refine h h'' tk mm' hn'' (λq hq=>?_) (λy hy=>?_) (hs'.trans h3)
  ·rcases Qw hq with rfl | hq
   ·rw [h2 _ hd.1];simp
   ·exact h1 q hq
  ·simp only [QX,YW,not_or] at hy
   rw [h2 y hy.2,Qu hy.1]
structure CompAt(s:Shared)(D0 C:Addr)(out:List D)(G:Addr->Prop)(P:Pk)(s':Shared):Prop where
 kp:Kp s s'
 dn:s.heap.get? D0=none
 cn:s.heap.get? C=none
 dc:D0 ≠ C
 ns:∃ mC,s'.heap.Ns C mC
 rd:∃ as,Rd P.H s'.heap (.ref D0) (.list out) (D0::as)/\∀ a ∈ as,G a/\a ≠ C/\a ≠ D0
theorem Kp.setHeap(k:Kp a b)(hk:∀ x o,a.heap.get? x=some o->h.get? x=some o):Kp a { b with heap:=h,toks:=t }:=by
 obtain ⟨h1,t1,rfl,_⟩:=k;exact ⟨h,t,rfl,hk⟩
theorem aI{h:Heap}{a:Addr}(ha:h.objs.size<=a):h.get? a=none:=by
 induction e:h.get? a with
 | none=>rfl
 | some o'=>exact absurd (Q3 e) (Z4.mpr ha)
set_option tactic.hygienic true in
theorem fn_scope{k:ScopeKind}(h:k = .function)(b:Bool):(k == .class||(k == .module&&b))=false:=by exact h ▸ rfl
theorem sG(hc:SIfs P r c ifs co)(p:Pre P r c A env s m ow own G)(ok3:okO ow co=true)(hb:evC P.Φ P.Γ co m=some b) :
 wpAny (model P.prog P.w) A (forIn ifs true λc r=>if r=true then do let ok <- isTrue c env (eval c env);pure (ForInStep.yield ok) else pure (ForInStep.yield r)) (λok s4=>ok=b/\Kp s s4) (λo_ Z=>False) s:=by
 match ifs,co,hc,hb,ok3 with
 | [],.none,_,hb,_=>
  simp only [n4,Qc] at hb;exact Qg ⟨hb,Kp.refl _⟩
 | [q],.some q',hc,hb,ok3=>
  simp only [n6] at hb;refine aa hb λdq e1 e2=>?_;rw [Xz];simp only [if_true];refine Qd (Qd ?_);refine ST.use hc p ok3 e1 e2 λs4 k4=>?_;exact Qg (Qg ⟨rfl,k4⟩)
 | [],.some _,hc,_,_=>exact hc.elim
 | [_],.none,hc,_,_=>exact hc.elim
 | _::_::_,_,hc,_,_=>exact hc.elim
theorem mU(h:n+i=l)(k:i < l):n - 1 < n/\n - 1+(i+1)=l:=by
 induction n using nc with
 | zero=>exact absurd ((Zc i).symm.trans h) (QM k)
 | succ n=>exact ⟨QA n,(Z9 n i).symm.trans h⟩
theorem mV{A:Around}{env:Env}{s s₁ s₂:Shared}{m:St}{ow:List Nat}{own:Nat->Addr}{G:Addr->Prop}{items:List (List D)}{elt tgt iter:Expr}{ifs:List Expr}{scope:Scope}{pos:Pos}{xs:List Str}{e':Ex}{it':It}{co:Exo}
 {I:Addr} {fp wr:List Addr} {Pv:Nat->List Value->Prop} {S:Nat->Heap->Prop} {out:List D} {RR:Value->Addr->Result->Shared->Prop} (p:Pre P r c A env s m ow own G) (K:CompOk scope c xs) (hnd:xs.Nodup)
 (O:ItOk P A tgt xs ow own G m it' items s s₁ s₂ I fp wr Pv S) (he:P.SE r ⟨c.names++xs,kindC scope c.kind⟩ elt e') (hc:SIfs P r ⟨c.names++xs,kindC scope c.kind⟩ ifs co)
 (ok1:okE ow e'=true) (ok2:nm ow e'=true) (ok3:okO ow co=true) (hsz:items.length<=sizeLine)
 (hev:dE (λvs=>evE P.Φ P.Γ e' (m++vs.map some)) (λvs=>evC P.Φ P.Γ co (m++vs.map some)) items=some out) (hz:cz it'=false\/out.all isScalar=true)
 (hRR:∀ D0 C s',CompAt s D0 C out G P s'->RR (.ref D0) C (.ok .next) s') :
 wpAny (model P.prog P.w) A (newList []) (λacc s₃=>wpAny (model P.prog P.w) A (newFunctionEnv scope env.globals (closL env scope.names []) [] env.qual none .none (some env)) (λcenv s₄=>
  codeAny (model P.prog P.w) A (.compStart (.ListComp elt [⟨tgt,iter,ifs,0⟩] scope pos) 0 (.ref I) acc { cenv with scope:=relabel scope env }) (RR acc cenv.locals) s₄) (λo_ Z=>False) s₃) (λo_ Z=>False) s₂:=by
 refine ZT (wpAny_newFunctionEnv K.nocell (by intro y hy;simp at hy) (λh₁ hns₁ hsb₁=>?_) K.kind);dsimp only at hns₁ hsb₁ ⊢;generalize hH2:s₂.heap.push { cls:=.type "list",dict:=none,data:=.seq ([]:List Value).toArray }=H2 at hns₁ hsb₁ ⊢;have hC:H2.objs.size=s₂.heap.objs.size+1:=by rw [<- hH2,Heap.size_push]
 generalize hD0:s₂.heap.objs.size=D0 at hC ⊢;generalize hCC:H2.objs.size=C at hC hns₁ hsb₁ ⊢;have hDC:D0 ≠ C:=by rw [hC];exact QM (QA _)
 have below:∀ b o,s₂.heap.get? b=some o->b ≠ C/\b ≠ D0:=λb o e=>by have:=Q3 e;rw [hD0] at this;exact ⟨by rw [hC];exact QM (Nat.lt_succ_of_lt this),QM this⟩
 have dfp:∀ b ∈ fp,b ≠ C/\b ≠ D0:=λb hb=>(O.obj b hb).elim λo ho=>below b o ho;have dwr:∀ b ∈ wr,b ≠ C/\b ≠ D0:=λb hb=>dfp b (O.T.sub b hb);have k12:=O.k1.trans O.k2;have old:∀ b o,s₂.heap.get? b=some o->h₁.get? b=some o:=λb o e=>hsb₁.extBut b o (below b o e).1 (Qi _ (hH2 ▸ Qi _ e));have hst₁:S 0 h₁:=O.T.frame _ _ _ O.st λb Z o e=>old b o e
 let G':Addr->Prop:=λa=>G a/\a ≠ D0/\a ≠ C/\a ∉ wr
 have wold:∀ b o,s₁.heap.get? b=some o->b ∉ wr:=λb o e hb=>by rw [O.wnew b hb] at e;exact nN e
 let Inv:Nat->Shared->Prop:=λn s'=>∃ i h' tk mm ys o1 o2 as,CInv P.H s₂ items.length S C D0 G' (λi=>dE (λvs=>evE P.Φ P.Γ e' (m++vs.map some)) (λvs=>evC P.Φ P.Γ co (m++vs.map some)) (items.drop i)) out wr n s' i h' tk mm ys o1 o2 as
 have loop:∀ s₃:Shared,s₃={ s₂ with heap:=h₁,toks:=s₂.toks+([]:List (Str × Value)).length } ->
  codeAny (model P.prog P.w) A (.compLoop (.ListComp elt [⟨tgt,iter,ifs,0⟩] scope pos) 0 (.ref I) (.ref D0) (compEnvC scope (closL env scope.names []) C env)) (RR (.ref D0) C) s₃:=by
  rintro s₃ rfl;refine i5 Inv (λn s' hI=>?_) items.length ⟨0,h₁,_,_,#[],[],out,[],rfl,rfl,hst₁,hns₁,(⟨_,hsb₁.extBut _ _ hDC (Qi _ (hH2 ▸ hD0 ▸ QL _ rfl))⟩),QO 0,.nil,(λo_ q=>nomatch q),hev,rfl,λb o Z e=>old b o e⟩;obtain ⟨i,h',tk,mm,ys,o1,o2,as,rfl,hni,hS,hns,hpl,hys,rd,hg,hev2,hout,hkp⟩:=hI;have walkRd:∀ h'':Heap,(∀ b o,b ∉ wr->h'.get? b=some o->h''.get? b=some o)->RdAll P.H h'' ys.toList o1 as:=λh'' hk=>by
   rcases hz with hz | hz
   ·refine rd.but (λb=>b ∈ wr) hk (λb o hb e vs n q=>?_) λa ha=>(hg a ha).2.2.2
    obtain ⟨o',e',h2,_⟩:=O.live i h' hS b hb;rw [e] at e';clear hsb₁ hns₁ hCC hH2 hev;obtain rfl:=Qv e';exact h2 hz (by rw [q])
   ·rw [hout,List.all_append,Qj] at hz
    obtain ⟨rfl,r2⟩:=rd.scalars (h':=h'') hz.1;exact r2
  have s2keep:∀ h'':Heap,(∀ b o,b ∉ wr->h'.get? b=some o->h''.get? b=some o)->∀ b o,b ∉ wr->s₂.heap.get? b=some o->h''.get? b=some o:=λh'' hk b o hb e=>hk b o hb (hkp b o hb e)
  by_cases hlt:i < items.length
  ·obtain ⟨ds,hds⟩:∃ ds,items[i]?=some ds:=⟨items[i],Qk hlt⟩
   rw [List.drop_eq_getElem_cons hlt] at hev2;have hds':items[i]=ds:=by rw [Qk hlt] at hds;exact Qv hds
   rw [hds'] at hev2;obtain ⟨b,hb,hrest⟩:=pI hev2
   have key:=O.T.item i { s₂ with heap:=h',toks:=tk } (compEnvC scope (closL env scope.names []) C env) (λs₃ => 
    wpAny (model P.prog P.w) A (forIn ifs true λc r=>if r=true then do let ok <- isTrue c (compEnvC scope (closL env scope.names []) C env) (eval c (compEnvC scope (closL env scope.names []) C env));pure (ForInStep.yield ok) else pure (ForInStep.yield r)) (λok s₃=>
     if ok=true then wpAny (model P.prog P.w) A (eval elt (compEnvC scope (closL env scope.names []) C env)) (λx s₄=>
      wpAny (model P.prog P.w) A (call (.builtin "list.append") [.ref D0,x]) (λo_ s₅=>∃ m,m < n/\Inv m s₅) (λo_ Z=>False) s₄) (λo_ Z=>False) s₃
     else ∃ m,m < n/\Inv m s₃) (λo_ Z=>False) s₃) hlt hS ?_
   ·refine Qs key (λrr s₁ q=>?_) λo_ Z z=>z
    induction rr with
    | none=>exact q.elim
    | some v=>exact q
   ·intro vals h2 tk2 hPv hlen hS2 hk2
    obtain ⟨ds2,vas,e2,rdv,hgv⟩:=O.vals i vals hlt hPv;rw [hds] at e2;obtain rfl:=Qv e2;have hlocal:∀ x ∈ xs,(compEnvC scope (closL env scope.names []) C env).kindOf x=some .local:=λx hx=>by
     show (relabel scope env).names.lookup x=_;exact lookup_relabel_local (K.tgt x hx)
    have hzip1:(xs.zip vals).map (·.1)=xs:=by
     exact List.map_fst_zip (Zd hlen.symm)
    have hns2:h2.Ns C mm:=hns.at' λo e=>hk2 C o (λhb=>(dwr C hb).1 rfl) e;refine pJ (mm:=mm) (fn_scope K.kind _) (λq hq=>hlocal q.1 ?_) (by rw [hzip1];exact hnd) hns2 λh3 tk3 mm3 hns3 hst3 Z hsb3=>?_
    ·have:q.1 ∈ (xs.zip vals).map (·.1):=YA hq
     rw [hzip1] at this;exact this
    replace hns3:h3.Ns C mm3:=hns3;replace hsb3:Heap.SameBut C h2 h3:=hsb3;have rd3:RdAll P.H h3 ys.toList o1 as:=(walkRd h2 λb o hb e=>hk2 b o hb e).but (λb=>b=C) (λb o hb e=>hsb3.extBut b o hb e) (λb o hb e=>bf hns2 o (hb ▸ e)) λa ha=>(hg a ha).2.2.1;have keep3:∀ b o,b ∉ wr->s₂.heap.get? b=some o->h3.get? b=some o:=λb o hb e=>hsb3.extBut b o (below b o e).1 (s2keep h2 (λb o hb e=>hk2 b o hb e) b o hb e);have keepS1:∀ b o,s₁.heap.get? b=some o->h3.get? b=some o:=λb o e=>keep3 b o (wold b o e) (O.k2.get b o e);have keepS:∀ b o,s.heap.get? b=some o->h3.get? b=some o:=λb o e=>keepS1 b o (O.k1.get b o e);have hS3:S (i+1) h3:=O.T.frame _ _ _ hS2 λb hb o e=>hsb3.extBut b o (dfp b hb).1 e;have hpl3:h3.PlainList D0 ys:=by
     obtain ⟨n0,e⟩:=hpl;exact ⟨n0,hsb3.extBut _ _ hDC (hk2 _ _ (λhb=>(dwr _ hb).2 rfl) e)⟩
    have er3:EnvR P.H ⟨c.names++xs,kindC scope c.kind⟩ (compEnvC scope (closL env scope.names []) C env) ow own G' h3 (m++ds.map some):=by
     refine sF K ((p.er.strengthen λa o e g=>⟨g,(below a o (k12.get a o e)).2,(below a o (k12.get a o e)).1,wold a o (O.k1.get a o e)⟩).keeps keepS) hns3 (vals:=vals) (λj x v ex ev Z=>?_) (rdv.keeps keepS1) hlen (λa ha=>?_)
     ·exact hst3 (x,v) (Qa (i:=j) (by rw [List.getElem?_zip_eq_some];exact ⟨ex,ev⟩))
     ·obtain ⟨o,ho,_⟩:=rdv.old a ha
      have:=below a o (O.k2.get a o ho);exact ⟨hgv a ha,this.2,this.1,wold a o ho⟩
    have pre3:Pre P r ⟨c.names++xs,kindC scope c.kind⟩ A (compEnvC scope (closL env scope.names []) C env) { s₂ with heap:=h3,toks:=tk3 } (m++ds.map some) ow own G':=by
     refine ⟨p.room,p.gp.keeps keepS,er3,λa ea=>⟨p.new a ?_,?_,?_,?_⟩⟩
     ·induction q:s.heap.get? a with
      | none=>rfl
      | some o=>rw [show h3.get? a=_ from keepS a o q] at ea;exact nS ea
     ·intro q;obtain ⟨n0,e⟩:=hpl3;rw [<- q,show h3.get? a=_ from ea] at e;exact nN e
     ·intro q;obtain ⟨o,_,_,e,_⟩:=hns3;rw [<- q,show h3.get? a=_ from ea] at e;exact nN e
     ·intro hb
      obtain ⟨o,e,_⟩:=O.live _ _ hS3 a hb;rw [show h3.get? _=_ from e] at ea;exact nS ea
    refine Qs (sG hc pre3 ok3 hb) (λok s4 q=>?_) λo_ Z z=>z;obtain ⟨rfl,k4⟩:=q;have up:∀ s5:Shared,Kp { s₂ with heap:=h3,toks:=tk3 } s5->∃ h5 tk5,s5={ s₂ with heap:=h5,toks:=tk5 }/\∀ b o,h3.get? b=some o->h5.get? b=some o:=λs5 k=>by
     obtain ⟨h5,tk5,rfl,k⟩:=k;exact ⟨h5,tk5,rfl,k⟩
    rcases hrest with ⟨rfl,x,o,e1,e2,rfl⟩ | ⟨rfl,e1⟩
    ·rw [Ql rfl]
     refine SE.us he (pre3.keeps k4) ok1 e1 λxv s5 k5 bs rx gx Z Z Z=>?_;have gx:=gx (by simpa [nm] using ok2);obtain ⟨h5,tk5,rfl,u5⟩:=up s5 (k4.trans k5);have pl5:h5.PlainList D0 ys:=hpl3.imp λn0 e=>u5 _ _ e;refine YS pl5 (λh6 pl6 sb6=>?_) (QQ hys (QQ (Qm hlt) hsz));replace sb6:Heap.SameBut D0 h5 h6:=sb6;have ntD:∀ b o,b=D0->h5.get? b=some o->∀ vs n,o ≠ tupObj vs n:=λb o hb e vs n q=>by
      obtain ⟨n0,e'⟩:=pl5;rw [hb,e'] at e;obtain rfl:=Qv e;exact absurd (Qf Obj.cls q) (by show ¬ (Value.type "list" = Value.type "tuple");decide)
     refine ⟨n - 1,(mU hni hlt).1,i+1,h6,tk5,mm3,ys.push xv,o1++[x],o,as++bs,rfl,(mU hni hlt).2,?_,?_,pl6,by simp;(exact hys),?_,?_,e2,by rw [hout];simp,?_⟩
     ·exact O.T.frame _ _ _ hS3 λb hb o e=>sb6.extBut b o (dfp b hb).2 (u5 b o e)
     ·exact (hns3.keeps u5).sameBut sb6 (Ne.symm hDC)
     ·rw [Array.toList_push]
      exact ((rd3.keeps u5).append (RdAll.one rx)).but (λb=>b=D0) (λb o hb e=>sb6.extBut b o hb e) ntD λa ha=>(QY ha).elim (λq=>(hg a q).2.1) λq=>(gx a q).2.1
     ·exact λa ha=>(QY ha).elim (hg a) (gx a)
     ·exact λb o hb e=>sb6.extBut b o (below b o e).2 (u5 b o (keep3 b o hb e))
    ·rw [Qu (by simp)]
     obtain ⟨h5,tk5,rfl,u5⟩:=up _ k4;exact ⟨n - 1,(mU hni hlt).1,i+1,h5,tk5,mm3,ys,o1,o2,as,rfl,(mU hni hlt).2,O.T.frame _ _ _ hS3 λb Z o e=>u5 b o e,hns3.keeps u5,hpl3.imp λn0 e=>u5 _ _ e,by exact Nat.le.step hys,rd3.keeps u5,hg,e1,hout,λb o hb e=>u5 b o (keep3 b o hb e)⟩
  ·have hi:i=items.length:=Nat.le_antisymm (hni ▸ Nat.le_add_left i n) (Z4.mp hlt)
   subst hi;refine O.T.done { s₂ with heap:=h',toks:=tk } _ hS λh2 tk2 hk2=>?_;simp only [List.drop_length,vF,Qc] at hev2;subst hev2;rw [Xj] at hout;subst hout;refine hRR D0 C _ ⟨?_,k12.none (aI (by rw [hD0];exact QO _)),k12.none (aI (by rw [hD0,hC];exact Zs _)),hDC,⟨mm,hns.at' λo e=>hk2 C o (λhb=>(dwr C hb).1 rfl) e⟩,as,?_,λa ha=>⟨(hg a ha).1,(hg a ha).2.2.1,(hg a ha).2.1⟩⟩
   ·exact O.k1.trans (O.k2.setHeap λb o e=>hk2 b o (wold b o e) (hkp b o (wold b o e) (O.k2.get b o e)))
   ·obtain ⟨n0,e⟩:=hpl
    exact .list (hk2 D0 _ (λhb=>(dwr D0 hb).2 rfl) e) (QQ hys hsz) (walkRd h2 λb o hb e=>hk2 b o hb e)
 exact codeAny_compStart_list (loop _ rfl) (Qs (O.T.self 0 _ (λv s'=>v = .ref I/\s'=_) hst₁ ⟨rfl,rfl⟩) (λv s' q=>by rw [q.1,q.2];exact loop _ rfl) λo_ Z z=>z.elim)
end
section
variable {P:Pk}{r:Nat}{c:TC}
theorem fv(h:isSet e=false):∀ x,foldedSetIterable e env x=pure x:=by
 intro x;cases e<;>first | rfl | exact nT h
theorem CompAt.sameC(q:CompAt s D0 C out G P s')(hs:Heap.SameBut C s'.heap h') :
 Kp s { s' with heap:=h' }/\∃ as,Rd P.H h' (.ref D0) (.list out) (D0::as)/\∀ a ∈ as,G a:=by
 obtain ⟨mC,hn⟩:=q.ns;obtain ⟨as,rd,ha⟩:=q.rd;refine ⟨q.kp.setHeap λx o e=>hs.extBut x o (by rintro rfl;exact nN (q.cn.symm.trans e)) (q.kp.get x o e),as,?_,λa m=>(ha a m).1⟩;refine rd.but (λb=>b=C) (λb o hb e=>hs.extBut b o hb e) (λb o hb e=>by clear rd hs;subst hb;exact bf hn o e) λa m=>?_;clear rd hn hs;rcases Qw m with rfl | m
 ·exact q.dc
 ·exact (ha a m).2.1
set_option tactic.hygienic true in
theorem lA 
 (hset:isSet iter=false) (hnd:xs.Nodup) (K:CompOk scope c xs) (hi:P.SI r c tgt xs iter it') (he:P.SE r ⟨c.names++xs,kindC scope c.kind⟩ elt e') (hc:SIfs P r ⟨c.names++xs,kindC scope c.kind⟩ ifs co)
 (p:Pre P r c A env s m ow own G) (hok:okE ow (.comp e' it' co)=true) (hev:evE P.Φ P.Γ (.comp e' it' co) m=some d)
 (h:∀ out D0 C s',d = .list out->CompAt s D0 C out G P s'->compPost (model P.prog P.w) A (λZ Z=>False) use Q (.ref D0) C (.ok .next) s') :
 wpAny (model P.prog P.w) A (comprehension (.ListComp elt [⟨tgt,iter,ifs,0⟩] scope pos) scope env pos' (newList []) false (eval iter env) use) Q (λZ Z=>False) s:=by
 simp only [yJ,Qj] at hok;refine byG λX_ g_=>?_;obtain ⟨⟨⟨ok1,ok2⟩,ok3⟩,ok4⟩:=hok;simp only [ux] at hev;refine aa hev λitems e1 hev=>?_;refine g_ ?_;split at hev
 case isFalse=>exact nN hev
 rename_i hsz;refine aa hev λout e2 hev=>?_;split at hev
 case isFalse=>exact nN hev
 rename_i hz;obtain rfl:=Qv hev;refine wpAny_comprehension_free rfl (fv hset) (mT λy hy q=>p.er.cel y.1 ((p.er.kd y.1).trans (K.free y hy q))) K.kind K.loc ?_;refine Qs (hi A env s m ow own G items p ok3 e1) (λxv sx q=>Qs q (λitv s₂ q2=>?_) λZ Z z=>z) λZ Z z=>z;refine byG λX_ g_=>?_;obtain ⟨s₁,I,fp,wr,Pv,S,rfl,O⟩:=q2;refine g_ ?_;refine mV p K hnd O he hc ok1 ok2 ok4 ?_ e2 ?_ λD0 C s' q=>h out D0 C s' rfl q
 ·simp only [bN,QE] at hsz
  exact QQ hsz (by decide)
 ·simpa using hz
theorem pK(hset:isSet iter=false)(hnd:xs.Nodup)(K:CompOk scope c xs)(hi:P.SI r c tgt xs iter it')
 (he:P.SE r ⟨c.names++xs,kindC scope c.kind⟩ elt e') (hc:SIfs P r ⟨c.names++xs,kindC scope c.kind⟩ ifs co):P.SE r c (.ListComp elt [⟨tgt,iter,ifs,0⟩] scope pos) (.comp e' it' co):=by
 intro A env s m ow own G d hA hg R hG hok hev;have p:Pre P r c A env s m ow own G:=⟨hA,hg,R,hG⟩
 rw [eval_ListComp];refine lA hset hnd K hi he hc p hok hev λout D0 C s' hd q=>?_;clear p hev hok R hg hA hc he hi K hnd hset;subst hd;obtain ⟨mC,hn⟩:=q.ns;refine ⟨mC,hn,λh' hs=>?_⟩;obtain ⟨k,as,rd,ha⟩:=q.sameC hs;refine ⟨k,D0::as,rd,λZ a ma=>?_,λz=>(by exact nF z),λZ hf a ma=>?_,λz=>(by exact nF z)⟩
 ·rcases Qw ma with rfl | ma
  ·exact hG _ q.dn
  ·exact ha a ma
 ·have:as=[]:=rd.inn_flat hf
  subst this;exact (Qx ma) ▸ q.dn
end
section
variable {P:Pk}{r:Nat}{c:TC}
theorem fw:∀ (xs:List D) (a:Nat),(enumL a xs).length=xs.length:=by
 intro xs;induction xs with
 | nil=>
  intro _;exact rfl
 | cons _ r fw=>
  intro a;simp [ei,fw]
theorem i6:∀ (xs:List D) (a i:Nat) (d:D),xs[i]?=some d->(enumL a xs)[i]?=some [.int ((a+i:Nat):Int),d]
 | _::_,a,0,_,h=>by simp at h;subst h;rfl
 | _::r,a,i+1,d,h=>by
  have:=i6 r (a+1) i d (h);simp only [ei,gX,this];congr 4;exact Z9 a i
theorem A3{Φ:Str->List D->Option D}{Γ:Str->Option D}{own:Nat->Addr}{G:Addr->Prop}{n:Nat}(hev:evE Φ Γ a m=some (.list xs))(hm:a ∈ itOw ow it')(g:isOw ow a=false->∀ b ∈ l::as,G b)(w:isOw ow a=true->∀ b ∈ l::as,b=ownA own a) :
 (G l/\∃ vs' n',listObj vs n=listObj vs' n')\/∃ i,Ex.v i ∈ itOw ow it'/\ow.contains i=true/\l=own i/\∃ xs,m[i]?=some (some (.list xs)):=by
 induction hi:isOw ow a with
 | false=>exact .inl ⟨g hi l (.head _),_,_,rfl⟩
 | true=>
  refine byG λX_ g_=>?_;clear g;obtain ⟨i,rfl,hc⟩:=pE hi;refine g_ ?_;exact .inr ⟨i,hm,hc,w hi l (.head _),_,evV hev⟩
set_option tactic.hygienic true in
theorem wD{k0:Nat}{f:Str}(hlp:P.lp=true)(hf:f = "enumerate")(hk:c.kind f=some .globalImplicit)(hs:isStar e=false)(ha:P.SE r c e a) :
 P.SI r c (.Tuple [.Name x px,.Name y py] k0 pt) [x,y] (.Call (.Name f pf) [e] [] pos) (.enum a):=by
 intro A env s m ow own G items p hok hev;simp only [yF] at hok;rw [oa] at hev;refine aa hev λdx e1 hev=>?_;obtain ⟨xs,e2,rfl⟩:=ad hev;rw [gg e2] at e1;subst hf;refine ZH (eo p hk (by decide +kernel) (by decide +kernel) (cr (by decide +kernel)) fX ?_);refine Z6 ?_ (ak hs _ env) rfl;refine Zv (SE.us ha p hok e1 λv s1 k1 as rd g fl fr1 w=>?_) (ak hs _ env);refine ZN ?_;clear fr1 hev e2 hok ha hs;cases rd using Rd.listE with
 | @mk l vs n as' ho hz ra=>
  refine call_enumerate_1 ho λh' he hit hsz hk=>?_;refine wpAny_pyIter_enum he ?_;refine have hlt:=Q3 ho;?_;refine have hlen:=ra.length;?_;simp only [QJ] at hlen;have W:=Turns.ofWalksU (P.prog |> λo_=>(p.room.hd hlp)) (WalksT.enumerate (prog:=P.prog) (w:=P.w) (A:=A) (p.room.hd hlp) (s1.heap.objs.size+1) s1.heap.objs.size l (Nat.succ_ne_self _) (QM (Nat.lt_succ_of_lt hlt)) (QM hlt) vs).toU
   (λi vals ⟨t,x,_,e⟩=>⟨_,_,e⟩) x y px py pt k0
  rw [hlen,<- fw xs 0] at W;refine ⟨s1,_,_,_,_,_,rfl,⟨k1,Kp.heap s1 h' hk,W,⟨⟨_,he⟩,hit,⟨_,(hk l _ ho),rfl,_,rfl⟩⟩,?_,?_,?_,?_,?_⟩⟩
  ·intro b hb
   rcases Qw hb with rfl | hb
   ·exact aI (Zs _)
   ·exact (Qx hb) ▸ (aI (QO _))
  ·rintro i h ⟨⟨old,he⟩,⟨o,ho,hc,hd⟩,_⟩ b hb
   rcases Qw hb with rfl | hb
   ·exact ⟨_,he,λo_=>by simp,λvs n e=>(by have:=Qf Obj.data e;cases this),λvs n e=>(by cases e),λC e=>(by exact Value.noConfusion e)⟩
   ·exact (Qx hb) ▸ (⟨o,ho,λo_=>by rw [hc];decide,λvs n e=>(by rw [e] at hd;cases hd),λvs n e=>(by rw [e] at hd;cases hd),λC e=>(by rw [hc] at e;exact Value.noConfusion e)⟩)
  ·intro b hb
   rcases Qw hb with rfl | hb
   ·exact ⟨_,he⟩
   ·rcases Qw hb with rfl | hb
    ·obtain ⟨o,e,_⟩:=hit;exact ⟨o,e⟩
    ·rw [Qx hb];exact ⟨_,(hk l _ ho)⟩
  ·intro b hb
   rcases Qw hb with rfl | hb
   ·exact .inl (aI (Zs _))
   ·rcases Qw hb with rfl | hb
    ·exact .inl (aI (QO _))
    ·exact (Qx hb) ▸ (.inr ⟨_,ho,.inr (A3 e1 (.head _) g w)⟩)
  ·rintro i l' hi ⟨t,x,hx,hv⟩
   refine have hv':l'=[.int i t,x]:=(by exact Qf Array.toList hv);?_;subst hv';refine byG λX_ g_=>?_;obtain ⟨d,bs,ed,rdx,hb⟩:=ra.getV (k:=i) (by simpa using hx);refine g_ ?_;refine ⟨_,[]++(bs++[]),i6 xs 0 i d ed,.cons ?_ (.cons rdx .nil),λb mb=>?_⟩
   ·simpa using Rd.int (H:=P.H) (h:=s1.heap) (i:Int) t
   ·exact ((Rd.list ho hz ra).innG (q:=isOw ow a) g fl) b (hb b (by simpa using mb))
end
section
variable {P:Pk}{r:Nat}
set_option tactic.hygienic true in
theorem fx(hf:∀ e e',f e=some e'->P.SE r c e e'/\P.ST r c e e'):∀ {es:List Expr} {es':Exs},trEs f es=some es'->SEL P r c es es':=by
 intro es;induction es with
 | nil=>
  intro es' h;simp only [yp,Qc] at h;subst h;exact .nil
 | cons e es ih_=>
  intro es' h;simp only [yq] at h;split at h
  ·exact nN h
  ·rename_i hs
   refine aa h λa e1 h=>?_;obtain ⟨b,e2,rfl⟩:=ad h;exact .cons (by simpa using hs) (hf _ _ e1).1 (hf _ _ e1).2 (ih_ e2)
theorem uM(hf:∀ e e',f e=some e'->P.SE r c e e'/\P.ST r c e e')(h:trO f o=some o'):SEO P r c o o':=by
 induction o with
 | none=>simp only [AK,Qc] at h;subst h;trivial
 | some e=>
  simp only [AL] at h;obtain ⟨a,e1,rfl⟩:=ad h;exact (hf _ _ e1).1
theorem aV{g:Str}(h:glob c g=true):c.kind g=some .globalImplicit/\g ≠ ("__debug__" : Str):=by
 unfold glob at h;rw [Qj,Qj] at h
 simpa using h.1
theorem kg(h:glob c g=true):g ≠ bang:=by
 unfold glob at h;rw [Qj] at h
 simpa using h.2
theorem sH{ff:Str->Option Bool}(hff:∀ g fr,ff g=some fr->P.fr g=some fr/\(g ≠ bang->∃ q,P.defs g=some q))(h:(ff bang).isNone=false):P.lp=true:=by
 induction q:ff bang with
 | none=>rw [q] at h;exact nT h
 | some b=>unfold Pk.lp;exact Qf _ ((hff _ _ q).1)
theorem bc{q:Bool}{α:Type}{a:Option α}{b:α}(h:(if q then none else a)=some b):q=false/\a=some b:=by
 induction q with
 | true=>exact nN h
 | false=>exact ⟨rfl,h⟩
theorem az(h:bR e=some x):∃ p,e = .Name x p:=
 eP (G:=λe=>∃ p,e = .Name x p) h (λo_ p h=>⟨p,Qv h ▸ rfl⟩) nN
theorem aR(h:callOf e=some (g,args)):∃ p q,e = .Call (.Name g p) args [] q:=by
 refine gZ (G:=λe=>∃ p q,e = .Call (.Name g p) args [] q) h (λfn as kws pos h=>?_) nN;have q:=al h;refine (QK q.2).elim λg' w=>(az w.1).elim λp z=>?_;rw [z,Q1.mp q.1,(Prod.mk.inj w.2).1,(Prod.mk.inj w.2).2];exact ⟨_,_,rfl⟩
theorem pL(h:slOf e=some q):∃ p,e = .Slice q.1 q.2 none p:=by
 refine rK (G:=λe=>∃ p,e = .Slice q.1 q.2 none p) h (λlo hi st pos h=>?_) nN;have w:=al h;exact (YG.mp w.1) ▸ (Qv w.2) ▸ (⟨_,rfl⟩)
set_option tactic.hygienic true in
theorem dL(h:g6 es=some xs):∃ x y p q,es=[.Name x p,.Name y q]/\xs=[x,y]/\x ≠ y:=by
 match es with
 | []=>exact nN h
 | [_]=>exact nN h
 | _::_::_::_=>exact nN h
 | [a,b]=>
  refine aa h λx e1 h1=>?_;refine aa h1 λy e2 h2=>?_;clear h h1;obtain ⟨p,rfl⟩:=az e1;obtain ⟨q,rfl⟩:=az e2;split at h2
  ·exact nN h2
  ·rename_i hne
   obtain rfl:=Qv h2;exact ⟨x,y,p,q,rfl,rfl,by simpa using hne⟩
theorem cV(h:cH t=some xs):(∃ x p,t = .Name x p/\xs=[x])\/∃ x y p q k o,t = .Tuple [.Name x p,.Name y q] k o/\xs=[x,y]/\x ≠ y:=
 eP (G:=λt=>(∃ x p,t = .Name x p/\xs=[x])\/∃ x y p q k o,t = .Tuple [.Name x p,.Name y q] k o/\xs=[x,y]/\x ≠ y) h (λx p h=>.inl ⟨x,p,rfl,(Qv h).symm⟩) λh=>
 gW (G:=λt=>(∃ x p,t = .Name x p/\xs=[x])\/∃ x y p q k o,t = .Tuple [.Name x p,.Name y q] k o/\xs=[x,y]/\x ≠ y) h (λes k o h=>.inr ((dL h).imp λx=>Exists.imp λy=>Exists.imp λp=>Exists.imp λq w=>⟨k,o,Qf (Expr.Tuple · k o) w.1,w.2⟩)) nN
theorem fZ(h:cH t=some xs):xs.Nodup:=by
 rcases cV h with ⟨x,p,_,rfl⟩ | ⟨x,y,p,q,k,o,_,rfl,hne⟩
 ·simp
 ·simp [hne]
set_option tactic.hygienic true in
theorem y6{ff:Str->Option Bool}(hff:∀ g fr,ff g=some fr->P.fr g=some fr/\(g ≠ bang->∃ q,P.defs g=some q)){c:TC}{f:Expr->Option Ex}(hf:∀ e e',f e=some e'->P.SE r c e e'/\P.ST r c e e'){t e:Expr}{xs:List Str}{it':It}(ht:cH t=some xs)(h:trIt ff f c xs e=some it'):P.SI r c t xs e it':=by
 have w0:=bc h;have hlp:=sH hff w0.1;replace h:=w0.2;clear w0 hff;rcases cV ht with ⟨x,p,rfl,rfl⟩ | ⟨x,y,p,q,k,o,rfl,rfl,hne⟩
 ·replace h:vZ f c e=some it':=h
  unfold vZ at h;cases hr:oo c e with
  | none=>
   rw [hr] at h;obtain ⟨a,e1,rfl⟩:=ad h;exact sC hlp (hf _ _ e1).1
  | some args=>
   rw [hr] at h;obtain ⟨⟨g,args'⟩,e0,hr2⟩:=bind_some hr;clear hr;split at hr2
   case isFalse=>exact nN hr2
   rename_i hg;simp only [Qc] at hr2;subst hr2;simp only [Qj,Q5] at hg;obtain ⟨p1,q1,rfl⟩:=aR e0;refine aa (show iK f args'=some it' from h) λx1 e2 h=>?_;rw [aA e2];split at h
   ·exact nN h
   ·rename_i hs
    obtain ⟨a,e1,rfl⟩:=ad h;exact pF hlp hg.2 (aV hg.1).1 (by simpa using hs) (hf _ _ e1).1
 ·refine aa (show yr f c e=some it' from h) λq e0 h2=>?_
  obtain ⟨p1,q1,rfl⟩:=aR (g:=q.1) (args:=q.2) e0;refine aa h2 λx1 e2 h=>?_;rw [aA e2];have hg:=(al h).1;simp only [Qj,Q5,QS] at hg;obtain ⟨a,e1,rfl⟩:=ad (al h).2;exact wD hlp hg.1.2 (aV hg.1.1).1 hg.2 (hf _ _ e1).1
theorem both(h:P.SE r c e e')(hp:∀ env:Env,isTrue e env (eval e env)=(do let v <- eval e env;standAt e.pos;holding [v] (truthy v))):P.SE r c e e'/\P.ST r c e e':=⟨h,sg h hp⟩
set_option tactic.hygienic true in
theorem cC(h:fg gcs c x=some e'):P.SE r c (.Name x p) e':=by
 unfold fg at h;split at h
 ·exact nN h
 ·rename_i hd
  have hd:x ≠ ("__debug__" : Str):=λq=>hd (Q5.mpr q);induction hk:c.kind x with
  | none=>exact nN (hk ▸ h)
  | some k=>
   rw [hk] at h;induction k<;>first
    | (exact nN h;done)
    | (obtain ⟨i,e1,rfl⟩:=ad h;exact fh hd (.inl hk) e1)
    | (obtain ⟨i,e1,rfl⟩:=ad h;exact fh hd (.inr hk) e1)
    | (obtain ⟨_,rfl⟩:=aE h;exact AY hd hk)
theorem mW{ff:Str->Option Bool}(hff:∀ g fr,ff g=some fr->P.fr g=some fr/\(g ≠ bang->∃ q,P.defs g=some q)){c:TC}{f:Expr->Option Ex}(hf:∀ e e',f e=some e'->P.SE r c e e'/\P.ST r c e e'){g:Str}{x:Expr}{p q:Pos}{e':Ex}(hg:c.kind g=some .globalImplicit)(h:trC1 ff f c g x=some e'):P.SE r c (.Call (.Name g p) [x] [] q) e':=by
 unfold trC1 at h;have w:=bc h;have hs:=w.1;refine aa w.2 λb e1 h=>?_;have w2:=bc h;clear h w;obtain ⟨a,e2,rfl⟩:=ad w2.2;have sa:=(hf _ _ e2).1;have hlp:isLp b=true->P.lp=true:=λq=>sH hff (by rw [q,Bool.true_and] at w2;exact w2.1);unfold b1Of at e1;split at e1
 ·rename_i q;obtain rfl:=Qv e1;exact yS (by simpa using q) hg hs sa
 split at e1
 ·rename_i q;obtain rfl:=Qv e1;exact yT (hlp rfl) (by simpa using q) hg hs sa
 split at e1
 ·rename_i q;obtain rfl:=Qv e1;exact yU (hlp rfl) (by simpa using q) hg hs sa
 split at e1
 ·rename_i q;obtain rfl:=Qv e1;exact wy (by simpa using q) hg hs sa
 split at e1
 ·rename_i q;obtain rfl:=Qv e1;exact sA (by simpa using q) hg hs sa
 split at e1
 ·rename_i q;obtain rfl:=Qv e1;exact yV (by simpa using q) hg hs sa
 ·exact nN e1
set_option tactic.hygienic true in
theorem i7{ff:Str->Option Bool}(hΦ:P.FnOk r)(hff:∀ g fr,ff g=some fr->P.fr g=some fr/\(g ≠ bang->∃ q,P.defs g=some q)){c:TC}{f:Expr->Option Ex}(hf:∀ e e',f e=some e'->P.SE r c e e'/\P.ST r c e e'){g:Str}{args:List Expr}{p q:Pos}{e':Ex}(h:lj ff f c g args=some e'):P.SE r c (.Call (.Name g p) args [] q) e':=by
 unfold lj at h;split at h
 ·exact nN h
 rename_i hg;have hg0:glob c g=true:=by simpa using hg
 have hg:=aV hg0;split at h
 ·rename_i hi
  induction args using lc with
  | nil=>exact nN h
  | cons a l_0=>
   induction l_0 using lc with
   | nil=>exact nN h
   | cons t l_1=>
    induction l_1 using lc with
    | nil=>
     obtain ⟨t',e0,h1⟩:=bind_some h;clear h;obtain ⟨pt,rfl⟩:=az e0;split at h1
     case isFalse=>exact nN h1
     ·rename_i ht
      simp only [Qj,QS] at ht;split at h1
      ·rename_i hx
       obtain ⟨b,e2,rfl⟩:=ad h1;refine yZ (by simpa using hi) hg.1 ?_ (aV ht.1).1 (aV ht.1).2 ht.2 (hf _ _ e2).1;rw [Ze] at hx;exact hx.imp (λq=>by simpa using q) λq=>Q4 q
      ·refine aa h1 λty e1 h=>?_
       clear h1;obtain ⟨b,e2,rfl⟩:=ad h;exact yX (by simpa using hi) hg.1 e1 (aV ht.1).1 ht.2 (hf _ _ e2).1
    | cons=>exact nN h
 split at h
 ·rename_i hx
  refine aa h λx e0 h=>?_;have w:=bc h;obtain ⟨a,e2,rfl⟩:=ad w.2;exact (aA e0) ▸ (A2 (by simpa using hx) hg.1 hg.2 w.1 (hf _ _ e2).1)
 ·induction hfr:ff g with
  | some fr=>
   rw [hfr] at h;simp only at h;split at h
   ·rename_i hl
    obtain ⟨es,e1,rfl⟩:=ad h;simp only [Qj,QS,List.isEmpty_eq_false_iff] at hl;exact wA hΦ (hff _ _ hfr).1 hg.1 hg.2 hl.2 (fx hf e1) ((hff _ _ hfr).2 (kg hg0))
   ·exact nN h
  | none=>
   rw [hfr] at h;induction args using lc with
   | nil=>exact nN h
   | cons x l_0=>
    induction l_0 using lc with
    | nil=>exact mW hff hf hg.1 h
    | cons=>exact nN h
theorem kh(hf:∀ e e',f e=some e'->P.SE r c e e'/\P.ST r c e e')(h:v7 f ifs=some b):SIfs P r c ifs b:=by
 match ifs,h with
 | [],h=>obtain rfl:=Qv h;trivial
 | [q],h=>
  obtain ⟨a,e1,rfl⟩:=ad h;exact (hf _ _ e1).2
 | _::_::_,h=>exact nN h
set_option tactic.hygienic true in
theorem eH(hff:∀ g fr,ff g=some fr->P.fr g=some fr/\(g ≠ bang->∃ q,P.defs g=some q))(hf:∀ c e e',fr c e=some e'->P.SE r c e e'/\P.ST r c e e')(h:oq ff fr c elt scope gens=some e') :
 ∃ tgt iter ifs xs a it b,gens=[⟨tgt,iter,ifs,0⟩]/\isSet iter=false/\xs.Nodup/\CompOk scope c xs/\P.SI r c tgt xs iter it/\P.SE r ⟨c.names++xs,kindC scope c.kind⟩ elt a/\SIfs P r ⟨c.names++xs,kindC scope c.kind⟩ ifs b/\e' = .comp a it b:=by
 match gens,h with
 | [],h=>exact nN h
 | _::_::_,h=>exact nN h
 | [⟨tgt,iter,ifs,as⟩],h=>
  replace h:(if as != 0||isSet iter||c.names.contains (".0" : Str) then none else (cH tgt).bind λxs=>
   if li scope c.kind xs&&!xs.contains (".0" : Str) then (trIt ff (fr c) c xs iter).bind λit=>(fr ⟨c.names++xs,kindC scope c.kind⟩ elt).bind λa=>
    (v7 (fr ⟨c.names++xs,kindC scope c.kind⟩) ifs).map λb=>Ex.comp a it b else none)=some e':=h
  split at h
  ·exact nN h
  ·rename_i hs
   simp only [Ze,not_or,Bool.not_eq_true,bne_eq_false_iff_eq] at hs;obtain ⟨⟨h0,h1⟩,h2⟩:=hs;subst h0;refine aa h λxs e1 h=>?_;split at h
   ·rename_i hc
    simp only [Qj,QS] at hc;refine byG λX_ g_=>?_;refine aa h λit e2 h=>?_;refine aa h λa e3 h=>?_;obtain ⟨b,e4,rfl⟩:=ad h;refine g_ ?_;exact ⟨tgt,iter,ifs,xs,a,it,b,rfl,h1,fZ e1,pH hc.1 h2 hc.2,y6 hff (hf c) e1 e2,(hf _ _ _ e3).1,kh (hf _) e4,rfl⟩
   ·exact nN h
theorem b9(h:ge e=some q):∃ p,e = .Attribute (.Name q.1 p) q.2.1 q.2.2:=
 lh (G:=λe=>∃ p,e = .Attribute (.Name q.1 p) q.2.1 q.2.2) h (λo nm apos h=>(QK h).elim λx w=>(az w.1).elim λp z=>⟨p,z ▸ w.2 ▸ rfl⟩) nN
set_option tactic.hygienic true in
theorem mY(h:rM fn args kws cpos=some q):∃ px apos,fn = .Attribute (.Name q.1 px) "index" apos/\args=[q.2]/\kws=[]/\isStar q.2=false/\(apos.endLine == cpos.line)=true:=by
 refine aa h λt e1 h=>?_;obtain ⟨p,rfl⟩:=b9 e1;obtain ⟨hc,h⟩:=al h;rw [Qj,Qj,Q5,Q1] at hc;obtain ⟨⟨h1,h2⟩,h3⟩:=hc;induction args using lc with
 | nil=>exact nN h
 | cons x l=>
  induction l using lc with
  | cons=>exact nN h
  | nil=>
   replace h:(if isStar x then none else some (t.1,x))=some q:=h;split at h
   ·exact nN h
   ·rename_i hx
    obtain rfl:=Qv h;exact ⟨p,t.2.2,by rw [h1],rfl,h2,by simpa using hx,h3⟩
set_option tactic.hygienic true in
theorem mZ{fn:Expr}{args:List Expr}{kws:List Keyword}{cpos:Pos}{q:Str × Expr × Expr}(h:rN fn args kws cpos=some q):∃ px apos,fn = .Attribute (.Name q.1 px) "get" apos/\args=[q.2.1,q.2.2]/\kws=[]/\isStar q.2.1=false/\isStar q.2.2=false/\(apos.endLine == cpos.line)=true:=by
 refine aa h λt e1 h=>?_;obtain ⟨p,rfl⟩:=b9 e1;obtain ⟨hc,h⟩:=al h;rw [Qj,Qj,Q5,Q1] at hc;obtain ⟨⟨h1,h2⟩,h3⟩:=hc;induction args using lc with
 | nil=>exact nN h
 | cons x l=>
  induction l using lc with
  | nil=>exact nN h
  | cons y l=>
   induction l using lc with
   | cons=>exact nN h
   | nil=>
    have w:=bc (show (if isStar x||isStar y then none else some (t.1,x,y))=some q from h);rw [Yo] at w;clear h e1;cases w.2;exact ⟨p,t.2.2,by rw [h1],rfl,h2,w.1.1,w.1.2,h3⟩
theorem ki{c:TC}{f:Expr->Option Ex}(ih:∀ e e',f e=some e'->P.SE r c e e'/\P.ST r c e e'){l:Expr}{ops:List CmpOp}{rs:List Expr}{e':Ex}{p:Pos}(h:yt f l ops rs=some e'):P.SE r c (.Compare l ops rs p) e'/\P.ST r c (.Compare l ops rs p) e':=by
 induction ops using lc with
 | nil=>exact nN h
 | cons o1 ops=>
  induction ops using lc with
  | nil=>
   induction rs using lc with
   | nil=>exact nN h
   | cons rr rs=>
    induction rs using lc with
    | cons=>exact nN h
    | nil=>
     replace h:(if isSet rr then none else (f l).bind λa=>(f rr).map λb=>Ex.cmp o1 a b)=some e':=h;have hs:=bc h;refine aa hs.2 λa e1 h=>?_;obtain ⟨b,e2,rfl⟩:=ad h;exact ⟨j4 hs.1 (ih _ _ e1).1 (ih _ _ e2).1,j6 hs.1 (ih _ _ e1).1 (ih _ _ e2).1⟩
  | cons o2 ops=>
   induction ops using lc with
   | cons=>exact nN h
   | nil=>
    induction rs using lc with
    | nil=>exact nN h
    | cons r1 rs=>
     induction rs using lc with
     | nil=>exact nN h
     | cons r2 rs=>
      induction rs using lc with
      | cons=>exact nN h
      | nil=>
       replace h:(if lastMarks [o1,o2] [r1,r2] then none else (f l).bind λa=>(f r1).bind λb=>(f r2).map λd=>Ex.cmp2 o1 o2 a b d)=some e':=h;have hs:=bc h;refine aa hs.2 λa e1 h=>?_;refine aa h λb e2 h=>?_;obtain ⟨d,e3,rfl⟩:=ad h;exact ⟨wv hs.1 (ih _ _ e1).1 (ih _ _ e2).1 (ih _ _ e3).1,ww hs.1 (ih _ _ e1).1 (ih _ _ e2).1 (ih _ _ e3).1⟩
theorem kj(ih:∀ e e',f e=some e'->P.SE r c e e'/\P.ST r c e e')(h:yu f ks vs=some e'):P.SE r c (.Dict ks vs p) e':=by
 induction ks using lc with
 | nil=>
  induction vs using lc with
  | nil=>exact Qv h ▸ wB
  | cons=>exact nN h
 | cons k ks=>
  induction ks using lc with
  | cons=>exact nN h
  | nil=>
   induction vs using lc with
   | nil=>exact nN h
   | cons v vs=>
    induction vs using lc with
    | cons=>exact nN h
    | nil=>
     induction k with
     | none=>exact nN h
     | some k=>
      refine aa (show ((f k).bind λa=>(f v).map λb=>Ex.dic (.cons a .nil) (.cons b .nil))=some e' from h) λa e1 h1=>?_;clear h;obtain ⟨b,e2,rfl⟩:=ad h1;exact y4 (ih _ _ e1).1 (ih _ _ e2).1
theorem kl{c:TC}{f:Expr->Option Ex}(ih:∀ e e',f e=some e'->P.SE r c e e'/\P.ST r c e e'){v i:Expr}{e':Ex}{p:Pos}(h:v8 f v i=some e'):P.SE r c (.Subscript v i p) e':=by
 unfold v8 at h;induction hq:slOf i with
 | some q=>
  rw [hq] at h;refine aa h λa e1 h=>?_;refine aa h λl e2 h=>?_;obtain ⟨b,e3,rfl⟩:=ad h;refine (pL hq).elim λpp z=>?_;exact z ▸ (A1 (ih _ _ e1).1 (uM ih e2) (uM ih e3))
 | none=>
  rw [hq] at h;have hs:=bc h;refine aa hs.2 λa e1 h=>?_;obtain ⟨b,e2,rfl⟩:=ad h;exact yQ hs.1 (ih _ _ e1).1 (ih _ _ e2).1
theorem m3(ih:∀ e',a=some e'->P.SE r c e e'/\P.ST r c e e')(h:trUn op a=some e'):P.SE r c (.UnaryOp op e p) e'/\P.ST r c (.UnaryOp op e p) e':=by
 induction op
 case USub=>
  obtain ⟨a,e1,rfl⟩:=ad (show a.map Ex.neg=some e' from h);exact both (yP (ih _ e1).1) (λo_=>rfl)
 case Not=>
  obtain ⟨a,e1,rfl⟩:=ad (show a.map Ex.not=some e' from h);exact ⟨yN (ih _ e1).1,yO (ih _ e1).2⟩
 all_goals exact nN h
theorem km(ff:Str->Option Bool)(gcs:Str->Bool)(hΦ:P.FnOk r)(hff:∀ g fr,ff g=some fr->P.fr g=some fr/\(g ≠ bang->∃ q,P.defs g=some q))(ih:∀ e e',f e=some e'->P.SE r c e e'/\P.ST r c e e') 
 (h:(match rM fn args kws p with
  | some q=>(fg gcs c q.1).bind λa=>(f q.2).map λb=>Ex.index a b
  | none=>match rN fn args kws p with
   | some q=>(fg gcs c q.1).bind λa=>(f q.2.1).bind λb=>(f q.2.2).map λd=>Ex.get a b d
   | none=>(callOf (.Call fn args kws p)).bind λq=>lj ff f c q.1 q.2)=some e'):P.SE r c (.Call fn args kws p) e':=by
 induction hq:rM fn args kws p with
 | some q=>
  rw [hq] at h;obtain ⟨px,apos,rfl,rfl,rfl,h1,h2⟩:=mY hq;refine aa h λa e1 h=>?_;obtain ⟨b,e2,rfl⟩:=ad h;exact sp (λo_=>rfl) h2 h1 (cC (gcs:=gcs) e1) (ih _ _ e2).1
 | none=>
  rw [hq] at h;induction hq2:rN fn args kws p with
  | some q=>
   simp only [hq2] at h;clear hq;obtain ⟨px,apos,rfl,rfl,rfl,h1,h1',h2⟩:=mZ hq2;refine aa h λa e1 h=>?_;refine aa h λb e2 h=>?_;obtain ⟨d,e3,rfl⟩:=ad h;exact y3 (λo_=>rfl) h2 h1 h1' (cC (gcs:=gcs) e1) (ih _ _ e2).1 (ih _ _ e3).1
  | none=>
  simp only [hq2] at h;refine aa h λq e0 h=>?_;refine (aR e0).elim λp1 z=>z.elim λq1 e1=>?_;exact e1 ▸ i7 hΦ hff ih h
theorem y7(h:isXE o=true)(pos:Pos)(env:Env):eval (.Attribute o "at" pos) env=(do
 let v <- eval o env
 standAt pos.atName
 let r <- holding [v] (getAttr v "at" true)
 letTemporaryGo o v r
 pure r):=by
 unfold isXE at h;rw [Ze] at h;rcases h with h | h
 ·obtain ⟨x,hx⟩:=YR.mp h
  obtain ⟨p,rfl⟩:=az hx;rfl
 ·induction q:callOf o with
  | none=>rw [q] at h;exact nF h
  | some u=>
   obtain ⟨g,as⟩:=u;rw [q] at h;induction as using lc with
   | nil=>exact nF h
   | cons a as=>
    obtain ⟨p1,q1,rfl⟩:=aR q;rfl
theorem m6(ff:Str->Option Bool)(gcs:Str->Bool)(hΦ:P.FnOk r)(hff:∀ g fr,ff g=some fr->P.fr g=some fr/\(g ≠ bang->∃ q,P.defs g=some q)){f:TC->Expr->Option Ex}(ih:∀ c e e',f c e=some e'->P.SE r c e e'/\P.ST r c e e')(c:TC)(e:Expr)(e':Ex)(h:trE1 ff gcs f c e=some e'):P.SE r c e e'/\P.ST r c e e':=by
 refine gV (G:=λe=>P.SE r c e e'/\P.ST r c e e') h (λk a b h=>?_) λh=>?_
 ·obtain ⟨d,e1,rfl⟩:=ad h
  exact both (da e1) (λo_=>rfl)
 refine eP (G:=λe=>P.SE r c e e'/\P.ST r c e e') h (λx p h=>both (cC (gcs:=gcs) h) (λo_=>rfl)) λh=>?_;refine gW (G:=λe=>P.SE r c e e'/\P.ST r c e e') h (λes a b h=>?_) λh=>?_
 ·have w:=al h
  obtain ⟨es,e1,rfl⟩:=ad w.2;exact both (si w.1 (fx (ih c) e1)) (λo_=>rfl)
 refine rC (G:=λe=>P.SE r c e e'/\P.ST r c e e') h (λes a h=>?_) λh=>?_
 ·have w:=al h
  obtain ⟨es,e1,rfl⟩:=ad w.2;exact both (wx w.1 (fx (ih c) e1)) (λo_=>rfl)
 refine rD (G:=λe=>P.SE r c e e'/\P.ST r c e e') h (λl op rr p h=>?_) λh=>?_
 ·refine aa (al h).2 λa e1 h=>?_
  obtain ⟨b,e2,rfl⟩:=ad h;exact both (se (ih c _ _ e1).1 (ih c _ _ e2).1) (λo_=>rfl)
 refine rE (G:=λe=>P.SE r c e e'/\P.ST r c e e') h (λop x p h=>m3 (ih c x) h) λh=>?_;refine lf (G:=λe=>P.SE r c e e'/\P.ST r c e e') h (λop vs p h=>?_) λh=>?_
 ·obtain ⟨es,e1,rfl⟩:=ad (bc h).2
  exact ⟨pg (fx (ih c) e1),ph (fx (ih c) e1)⟩
 refine gY (G:=λe=>P.SE r c e e'/\P.ST r c e e') h (λl ops rs p h=>ki (ih c) h) λh=>?_;refine lg (G:=λe=>P.SE r c e e'/\P.ST r c e e') h (λv i p h=>both (kl (ih c) h) (λo_=>rfl)) λh=>?_;refine gZ (G:=λe=>P.SE r c e e'/\P.ST r c e e') h (λfn args kws p h=>both (km ff gcs hΦ hff (ih c) h) (λo_=>rfl)) λh=>?_;refine rH (G:=λe=>P.SE r c e e'/\P.ST r c e e') h (λelt gens scope p h=>?_) λh=>?_
 ·refine byG λX_ g_=>?_
  obtain ⟨tgt,iter,ifs,xs,a,it,b,rfl,h1,h2,h3,h4,h5,h6,rfl⟩:=eH hff ih h;refine g_ ?_;exact both (pK h1 h2 h3 h4 h5 h6) (λo_=>rfl)
 refine lh (G:=λe=>P.SE r c e e'/\P.ST r c e e') h (λo nm p h=>?_) λh=>?_
 ·have w:=al h
  have hk:=Qz w.1;obtain ⟨a,e1,rfl⟩:=ad w.2;exact (Q4 hk.1) ▸ (both (yY (y7 hk.2 p) (ih c _ _ e1).1) (λo_=>rfl))
 exact rI (G:=λe=>P.SE r c e e'/\P.ST r c e e') h (λks vs p h=>both (kj (ih c) h) (λo_=>rfl)) nN
theorem aH(ff:Str->Option Bool)(gcs:Str->Bool)(hΦ:P.FnOk r)(hff:∀ g fr,ff g=some fr->P.fr g=some fr/\(g ≠ bang->∃ q,P.defs g=some q))(n:Nat) :
 ∀ (c:TC) (e:Expr) (e':Ex),trE ff gcs n c e=some e'->P.SE r c e e'/\P.ST r c e e':=by
 induction n with
 | zero=>intro c e e' h;exact nN h
 | succ n ih=>exact m6 ff gcs hΦ hff ih
end
structure Inv(P:Pk)(r:Nat)(c:TC)(A:Around)(env:Env)(ow:List Nat)(sc:Shared)(as:List Addr)(s:Shared)(m:St)(own:Nat->Addr)(G:Addr->Prop):Prop where
 room:Room P.lp A r
 gpc:P.GP sc.heap
 er:EnvR P.H c env ow own G s.heap m
 new:∀ a,s.heap.get? a=none->G a
 kp:Kp sc s
 gsub:∀ a,G a->a ∈ as\/sc.heap.get? a=none
 ns:∃ mm,s.heap.Ns env.locals mm
 cl:∀ x a,env.cells.lookup x=some a->∃ v,s.heap.IsCell a v
 inj:∀ x y a,env.cells.lookup x=some a->env.cells.lookup y=some a->x=y
 gL : ¬ G env.locals
 gC:∀ x a,env.cells.lookup x=some a->¬ G a
 nL:sc.heap.get? env.locals=none
 nC:∀ x a,env.cells.lookup x=some a->sc.heap.get? a=none
 oG:∀ i d,ow.contains i=true->m[i]?=some (some d)->noList d=false->¬ G (own i)/\sc.heap.get? (own i)=none/\own i ≠ env.locals/\(∀ x,env.cells.lookup x ≠ some (own i))/\∃ o,s.heap.get? (own i)=some o/\((∃ vs n,o=listObj vs n)\/∃ es n,o=dictObj es n)
 oD:∀ i j d d',i ≠ j->ow.contains i=true->ow.contains j=true->m[i]?=some (some d)->m[j]?=some (some d')->noList d=false->noList d'=false->own i ≠ own j
structure Stp(env:Env)(ow tch:List Nat)(wr:List Addr)(s:Shared)(m:St)(own:Nat->Addr)(G:Addr->Prop)(s':Shared)(m':St)(own':Nat->Addr)(G':Addr->Prop):Prop where
 live:∀ b,s'.heap.get? b=none->s.heap.get? b=none
 keep:∀ b o,b ∉ wr->s.heap.get? b=some o->b ≠ env.locals->(∀ x,env.cells.lookup x ≠ some b)->(∀ i d,i ∈ tch->ow.contains i=true->m[i]?=some (some d)->noList d=false->b ≠ own i)->s'.heap.get? b=some o
 keepG:∀ a o,s.heap.get? a=some o->G a->G' a
 ownS:∀ i d,ow.contains i=true->m'[i]?=some (some d)->noList d=false->(own' i=own i/\∃ d0,m[i]?=some (some d0)/\noList d0=false)\/s.heap.get? (own' i)=none
 same:∀ i,i ∉ tch->own' i=own i/\m'[i]?=m[i]?
theorem Stp.refl(env:Env)(ow tch:List Nat)(wr:List Addr)(s:Shared)(m:St)(own:Nat->Addr)(G:Addr->Prop):Stp env ow tch wr s m own G s m own G:=
 ⟨λZ h=>h,λZ Z Z h Z Z Z=>h,λZ Z Z h=>h,λi d Z h1 h2=>.inl ⟨rfl,d,h1,h2⟩,λZ Z=>⟨rfl,rfl⟩⟩
theorem Stp.weaken(h:Stp env ow tch wr s m own G s' m' own' G')(hs:∀ i ∈ tch,i ∈ tch')(hw:∀ i ∈ wr,i ∈ wr'):Stp env ow tch' wr' s m own G s' m' own' G':=
 ⟨h.live,λb o hb e h1 h2 h3=>h.keep b o (λq=>hb (hw b q)) e h1 h2 λi d hi=>h3 i d (hs i hi),h.keepG,h.ownS,λi hi=>h.same i λq=>hi (hs i q)⟩
theorem Stp.trans(h:Stp env ow t1 wr s m own G s' m' own' G')(k:Stp env ow t2 wr s' m' own' G' s'' m'' own'' G'') :
 Stp env ow (t1++t2) wr s m own G s'' m'' own'' G'' where
 live:=λb e=>h.live b (k.live b e)
 keep:=λb o hb e h1 h2 h3=>by
  refine k.keep b o hb (h.keep b o hb e h1 h2 λi d hi=>h3 i d (Q6 _ hi)) h1 h2 λi d hi ho hm hd=>?_;rcases h.ownS i d ho hm hd with ⟨q,d0,q1,q2⟩ | q
  ·exact q ▸ (h3 i d0 (Zy _ hi) ho q1 q2)
  ·clear h3 h2 h1 hb;rintro rfl;exact nS (e.symm.trans q)
 keepG:=λa o e g=>by
  induction q:s'.heap.get? a with
  | none=>exact nN ((h.live a q).symm.trans e)
  | some o'=>exact k.keepG a o' q (h.keepG a o e g)
 ownS:=λi d ho hm hd=>by
  rcases k.ownS i d ho hm hd with ⟨q,d0,q1,q2⟩ | q
  ·rcases h.ownS i d0 ho q1 q2 with ⟨p,d1,p1,p2⟩ | p
   ·exact .inl ⟨q.trans p,d1,p1,p2⟩
   ·exact .inr (by exact q ▸ p)
  ·exact .inr (h.live _ q)
 same:=λi hi=>by
  simp only [Ys,not_or] at hi;exact ⟨(k.same i hi.2).1.trans (h.same i hi.1).1,(k.same i hi.2).2.trans (h.same i hi.1).2⟩
theorem Stp.join(h:Stp env ow t1 wr s m own G s' m' own' G')(k:Stp env ow t2 wr s' m' own' G' s'' m'' own'' G'')(h1:∀ i ∈ t1,i ∈ t)(h2:∀ i ∈ t2,i ∈ t) :
 Stp env ow t wr s m own G s'' m'' own'' G'':=(h.trans k).weaken (λi hi=>(QY hi).elim (h1 i) (h2 i)) λZ q=>q
theorem Stp.kp(k:Kp s s')(tch:List Nat)(wr:List Addr):Stp env ow tch wr s m own G s' m own G:=
 ⟨λZ h=>k.none h,λb o Z h Z Z Z=>k.get b o h,λZ Z Z h=>h,λi d Z h1 h2=>.inl ⟨rfl,d,h1,h2⟩,λZ Z=>⟨rfl,rfl⟩⟩
noncomputable def isC:D->Bool
 | .list _=>true
 | .dict _=>true
 | _=>false
theorem uN(h:isC d=true):noList d=false:=by induction d using dc<;>first | rfl | exact nF h
theorem Rd.top(r:Rd H h w d as)(hc:isC d=true):∃ a,w = .ref a/\a ∈ as:=by
 induction r using Rd.casesOn<;>first | (cases hc;done) | exact ⟨_,rfl,.head _⟩
section
variable {P:Pk}{r:Nat}{c:TC}{A:Around}{env:Env}{ow:List Nat}{sc:Shared}{as:List Addr}
theorem Inv.pre(h:Inv P r c A env ow sc as s m own G):Pre P r c A env s m ow own G:=⟨h.room,h.gpc.keeps h.kp.get,h.er,h.new⟩
theorem Inv.keeps(h:Inv P r c A env ow sc as s m own G)(k:Kp s s'):Inv P r c A env ow sc as s' m own G where
 room:=h.room
 gpc:=h.gpc
 er:=h.er.keeps k.get
 new:=λa e=>h.new a (k.none e)
 kp:=h.kp.trans k
 gsub:=h.gsub
 ns:=h.ns.imp λmm q=>q.keeps k.get
 cl:=λx a e=>(h.cl x a e).imp λv q=>q.keeps k.get
 inj:=h.inj
 gL:=h.gL
 gC:=h.gC
 nL:=h.nL
 nC:=h.nC
 oG:=λi d h1 h2 h3=>(h.oG i d h1 h2 h3).imp id λq=>q.imp id λq=>q.imp id λq=>q.imp id λq=>q.imp λo q=>q.imp (k.get _ _) id
 oD:=h.oD
theorem m7(h:slotOf names x=some i)(k:slotOf names y=some i):x=y:=by
 have h2:=(aQ k).2;rw [((aQ h).2)] at h2;exact Qv h2
theorem ca{h:Heap}{C:Addr}{v:Option Value}(hn:h.IsCell C v):∀ o,h.get? C=some o->∀ vs n,o ≠ tupObj vs n:=by
 intro o e vs n q;obtain ⟨o',e',d⟩:=hn;rw [e] at e';obtain rfl:=Qv e';rw [q] at d;cases d
theorem fy(h:i < m.length):(setV m i d)[i]?=some (some d):=by
 simp [setV,h]
theorem aM(h:i ≠ j):(setV m i d)[j]?=m[j]?:=by
 simp [setV,h]
theorem cK{h:Heap}{L C:Addr}{mm:Str->Option Value}{v:Option Value}(hn:h.Ns L mm)(hc:h.IsCell C v):C ≠ L:=by
 rintro rfl;obtain ⟨o,es,ep,e,d,_⟩:=hn;obtain ⟨o',e',d'⟩:=hc;rw [e] at e';obtain rfl:=Qv e';rw [d] at d';cases d'
theorem pM{own:Nat->Addr}{G:Addr->Prop}(I:Inv P r c A env ow sc as s m own G)(hk:c.kind x=some .local\/c.kind x=some .cell){Q:Shared->Prop}
 (h:∀ h' tk z,(z=env.locals\/∃ y,env.cells.lookup y=some z)->Heap.SameBut z s.heap h'->(∃ o,h'.get? z=some o)->(∀ o,s.heap.get? z=some o->∀ vs n,o ≠ tupObj vs n)->VarAt env h' x v->(∀ y w,y ≠ x->VarAt env s.heap y w->VarAt env h' y w) ->
  (∃ mm,h'.Ns env.locals mm)->(∀ x a,env.cells.lookup x=some a->∃ v,h'.IsCell a v)->Q { s with heap:=h',toks:=tk }) :
 wpAny (model P.prog P.w) A (storeName env x v) (λZ s'=>Q s') (λZ Z=>False) s:=by
 obtain ⟨mm,hn⟩:=I.ns;rcases hk with hk | hk
 ·have hkx:env.kindOf x=some .local:=(I.er.kd x).trans hk
  refine wpAny_storeName_local hkx hn (λh' hn' hs=>?_) (by exact I.er.fn ▸ rfl);refine h h' _ env.locals (.inl rfl) hs ?_ (bf hn) (.inl ⟨hkx,_,hn',by simp⟩) (λy w hy q=>?_) ⟨_,hn'⟩ λy a e=>?_
  ·obtain ⟨o,_,_,e,_⟩:=hn';exact ⟨o,e⟩
  ·rcases q with ⟨q1,m2,q2,q3⟩ | ⟨q1,cc,q2,q3⟩
   ·refine .inl ⟨q1,_,hn',?_⟩
    rw [Qu hy];refine byG λX_ g_=>?_;obtain ⟨o,es,ep,e,dd,_,f⟩:=hn;obtain ⟨o',es',ep',e',dd',_,f'⟩:=q2;refine g_ ?_;rw [e] at e';obtain rfl:=Qv e';rw [dd] at dd';cases dd';exact (f y) ▸ (f' y) ▸ q3
   ·exact .inr ⟨q1,cc,q2,q3.sameBut hs (cK hn q3)⟩
  ·obtain ⟨w,q⟩:=I.cl y a e
   exact ⟨w,q.sameBut hs (cK hn q)⟩
 ·have hkx:env.kindOf x=some .cell:=(I.er.kd x).trans hk
  obtain ⟨cc,hc⟩:=I.er.cel x hkx;obtain ⟨v0,hv0⟩:=I.cl x cc hc;refine wpAny_storeName_cell I.er.fn hkx hc hv0 λh' hv hs=>?_;refine h h' s.toks cc (.inr ⟨x,hc⟩) hs ?_ (ca hv0) (.inr ⟨hkx,cc,hc,hv⟩) (λy w hy q=>?_) ⟨mm,hn.sameBut hs (Ne.symm (cK hn hv0))⟩ λy a e=>?_
  ·obtain ⟨o,e,_⟩:=hv;exact ⟨o,e⟩
  ·rcases q with ⟨q1,m2,q2,q3⟩ | ⟨q1,c2,q2,q3⟩
   ·exact .inl ⟨q1,m2,q2.sameBut hs (Ne.symm (cK hn hv0)),q3⟩
   ·refine .inr ⟨q1,c2,q2,q3.sameBut hs ?_⟩
    rintro rfl;exact hy (I.inj y x _ q2 hc)
  ·obtain ⟨w,q⟩:=I.cl y a e
   by_cases ha:a=cc
   ·clear e hv0 hc hkx hk hn h I;subst ha;exact ⟨_,hv⟩
   ·exact ⟨w,q.sameBut hs ha⟩
theorem cD(h:slotOf c.names x=some i)(I:Inv P r c A env ow sc as s m own G):i < m.length:=by
 rw [I.er.len];exact (aQ h).1
theorem dM{m:St}{i:Nat}{o:Option D}(h:i < m.length):(m.set i o)[i]?=some o:=Y7 h
theorem bV{m:St}{i j:Nat}{o:Option D}(h:i ≠ j):(m.set i o)[j]?=m[j]?:=List.getElem?_set_ne h
theorem lB(h:rd->as=[])(ha:a ∈ as) : ¬ rd:=λq=>by rw [h q] at ha;exact (YJ ha).elim
structure Sto(P:Pk)(env:Env)(ow:List Nat)(sc s:Shared)(m:St)(own own':Nat->Addr)(G:Addr->Prop)(i:Nat)(v:Value)(d:D)(bs:List Addr):Prop where
 rd:Rd P.H s.heap v d bs
 c1:ow.contains i=true->flat d=true/\∀ a ∈ bs,a=own' i
 c2:ow.contains i=false->∀ a ∈ bs,G a
 oG:ow.contains i=true->noList d=false->¬ G (own' i)/\sc.heap.get? (own' i)=none/\own' i ≠ env.locals/\∀ x,env.cells.lookup x ≠ some (own' i)
 oE:ow.contains i=true->noList d=false->own' i ∈ bs
 oD:ow.contains i=true->noList d=false->∀ j dd,j ≠ i->ow.contains j=true->m[j]?=some (some dd)->noList dd=false->own j ≠ own' i
theorem Inv.sto{s:Shared}{m:St}{own own':Nat->Addr}{G:Addr->Prop}{x:Str}{i:Nat}{v:Value}{o:Option D}(I:Inv P r c A env ow sc as s m own G)(hs:slotOf c.names x=some i)(hv:∀ d,o=some d->∃ bs,Sto P env ow sc s m own own' G i v d bs)(hown:∀ j,j ≠ i->own' j=own j)
 {h':Heap} {tk:Nat} {z:Addr} (hz:z=env.locals\/∃ y,env.cells.lookup y=some z) (hsb:Heap.SameBut z s.heap h') (hzo:∃ o,h'.get? z=some o) (hzt:∀ o,s.heap.get? z=some o->∀ vs n,o ≠ tupObj vs n) (hvx:VarAt env h' x v) (hvo:∀ y w,y ≠ x->VarAt env s.heap y w->VarAt env h' y w)
  (hns:∃ mm,h'.Ns env.locals mm) (hcl:∀ x a,env.cells.lookup x=some a->∃ v,h'.IsCell a v) :
 Inv P r c A env ow sc as { s with heap:=h',toks:=tk } (m.set i o) own' G/\(∀ b,h'.get? b=none->s.heap.get? b=none)/\(∀ b o,s.heap.get? b=some o->b ≠ env.locals->(∀ x,env.cells.lookup x ≠ some b)->h'.get? b=some o) /\
  ∀ {w:Value} {dd:D} {xs:List Addr},Rd P.H s.heap w dd xs->(∀ a ∈ xs,a ≠ env.locals/\∀ y,env.cells.lookup y ≠ some a)->Rd P.H h' w dd xs:=by
 have hlt:=cD hs I
 have keep:∀ b o,s.heap.get? b=some o->b ≠ env.locals->(∀ x,env.cells.lookup x ≠ some b)->h'.get? b=some o:=λb o e h1 h2=>hsb.extBut b o (by
  rintro rfl;rcases hz with q | ⟨y,q⟩
  ·exact h1 q
  ·exact h2 y q) e
 have live:∀ b,h'.get? b=none->s.heap.get? b=none:=λb e=>by
  by_cases hb:b=z
  ·subst hb;obtain ⟨o,q⟩:=hzo;exact nS (q.symm.trans e)
  ·exact (hsb.2 b hb) ▸ e
 have rdk:∀ {w:Value} {dd:D} {xs:List Addr},Rd P.H s.heap w dd xs->(∀ a ∈ xs,a ≠ env.locals/\∀ y,env.cells.lookup y ≠ some a)->Rd P.H h' w dd xs:=λq hx=>
  q.but (λb=>b=z) (λb o hb e=>hsb.extBut b o hb e) (λb o hb e=>by clear hzo hsb;subst hb;exact hzt o e) λa ha e=>by
   rcases hz with q | ⟨y,q⟩
   ·exact (hx a ha).1 (e.trans q)
   ·exact (hx a ha).2 y (e ▸ q)
 refine ⟨?_,live,keep,rdk⟩;refine ⟨I.room,I.gpc,⟨I.er.fn,I.er.gl,I.er.bu,I.er.kd,(List.length_set ..).trans I.er.len,λj hj=>YY (I.er.owlt j hj) (List.length_set ..).symm,I.er.cel,?_⟩,λa e=>I.new a (live a e),?_,I.gsub,hns,hcl,I.inj,I.gL,I.gC,I.nL,I.nC,?_,?_⟩
 ·intro y j dd hy hm hky
  by_cases hj:j=i
  ·subst hj
   have exy:=m7 hy hs;subst exy;rw [dM hlt] at hm;refine (hv dd (Qv hm)).elim λbs K=>⟨v,bs,hvx,rdk K.rd λa ha=>?_,K.c1,K.c2⟩
   induction ho:ow.contains j with
   | false=>exact ⟨λe=>I.gL (e ▸ (K.c2 ho a ha)),λy e=>I.gC y a e (K.c2 ho a ha)⟩
   | true=>
    exact ((K.c1 ho).2 a ha) ▸ ((K.oG ho (YM.mpr (lB K.rd.noAddr ha))).2.2)
  ·rw [bV (Ne.symm hj)] at hm
   refine byG λX_ g_=>?_;obtain ⟨w,xs,hv,rw',g1,g2⟩:=I.er.var y j dd hy hm hky;refine g_ ?_;refine ⟨w,xs,hvo y w (λe=>hj ?_) hv,rdk rw' λa ha=>?_,?_,g2⟩
   ·clear hky rdk live hcl hns hvo hvx hzt hzo hsb hz;subst e;rw [hy] at hs;exact Qv hs
   ·induction ho:ow.contains j with
    | false=>exact ⟨λe=>I.gL (e ▸ g2 ho a ha),λy e=>I.gC y a e (g2 ho a ha)⟩
    | true=>
     have hnl:noList dd=false:=YM.mpr (lB rw'.noAddr ha);exact ((g1 ho).2 a ha) ▸ (⟨(I.oG j dd ho hm hnl).2.2.1,(I.oG j dd ho hm hnl).2.2.2.1⟩)
   ·exact (hown j hj) ▸ g1
 ·exact I.kp.setHeap λb o e=>keep b o (I.kp.get b o e) (by rintro rfl;exact nN (I.nL.symm.trans e)) λy q=>by exact nN ((I.nC y b q).symm.trans e)
 ·intro j dd hj hm hnl
  by_cases hji:j=i
  ·subst hji
   rw [dM hlt] at hm;refine byG λX_ g_=>?_;obtain ⟨bs,K⟩:=hv dd (Qv hm);obtain ⟨q1,q2,q3,q4⟩:=K.oG hj hnl;obtain ⟨o,ho,q5⟩:=K.rd.oldF (K.c1 hj).1 _ (K.oE hj hnl);refine g_ ?_;exact ⟨q1,q2,q3,q4,o,keep _ o ho q3 q4,q5⟩
  ·rw [bV (Ne.symm hji)] at hm
   rw [hown j hji];refine byG λX_ g_=>?_;obtain ⟨q1,q2,q3,q4,o,ho,q5⟩:=I.oG j dd hj hm hnl;refine g_ ?_;exact ⟨q1,q2,q3,q4,o,keep _ o ho q3 q4,q5⟩
 ·intro j k dd dd' hjk hj hk hm hm' hn hn'
  by_cases hji:j=i
  ·subst hji
   rw [dM hlt] at hm;rw [bV (hjk)] at hm';exact (hown k (Ne.symm hjk)) ▸ ((hv dd (Qv hm)).elim λbs K=>Ne.symm (K.oD hj hn k dd' (Ne.symm hjk) hk hm' hn'))
  ·rw [bV (Ne.symm hji)] at hm
   rw [hown j hji]
   by_cases hki:k=i
   ·subst hki
    rw [dM hlt] at hm';exact (hv dd' (Qv hm')).elim λbs K=>K.oD hk hn' j dd hji hj hm hn
   ·rw [bV (Ne.symm hki)] at hm'
    exact (hown k hki) ▸ I.oD j k dd dd' hjk hj hk hm hm' hn hn'
theorem gk{own own':Nat->Addr}{G:Addr->Prop}{i:Nat}{d:D}(I:Inv P r c A env ow sc as s m own G)(hs:slotOf c.names x=some i)(hk:c.kind x=some .local\/c.kind x=some .cell)
 (rd:Rd P.H s.heap v d bs) (c1:ow.contains i=true->flat d=true/\∀ a ∈ bs,a=own' i) (c2:ow.contains i=false->∀ a ∈ bs,G a) (hown:∀ j,j ≠ i->own' j=own j)
 (oG:ow.contains i=true->noList d=false->¬ G (own' i)/\sc.heap.get? (own' i)=none/\own' i ≠ env.locals/\∀ x,env.cells.lookup x ≠ some (own' i))
 (oE:ow.contains i=true->noList d=false->own' i ∈ bs)
 (oD:ow.contains i=true->noList d=false->∀ j dd,j ≠ i->ow.contains j=true->m[j]?=some (some dd)->noList dd=false->own j ≠ own' i) {Q:Shared->Prop}
 (h:∀ h' tk,Inv P r c A env ow sc as { s with heap:=h',toks:=tk } (setV m i d) own' G->(∀ b,h'.get? b=none->s.heap.get? b=none)->(∀ b o,s.heap.get? b=some o->b ≠ env.locals->(∀ x,env.cells.lookup x ≠ some b)->h'.get? b=some o)->Q { s with heap:=h',toks:=tk }) :
 wpAny (model P.prog P.w) A (storeName env x v) (λZ s'=>Q s') (λZ Z=>False) s:=by
 refine pM I hk λh' tk z hz hsb hzo hzt hvx hvo hns hcl=>?_;have w:=I.sto (o:=some d) hs (λd' e=>⟨bs,Qv e ▸ ⟨rd,c1,c2,oG,oE,oD⟩⟩) hown (tk:=tk) hz hsb hzo hzt hvx hvo hns hcl;exact h h' tk w.1 w.2.1 w.2.2.1
theorem dm{own:Nat->Addr}{G:Addr->Prop}{i:Nat}{d:D}(I:Inv P r c A env ow sc as s m own G)(hs:slotOf c.names x=some i)(hk:c.kind x=some .local\/c.kind x=some .cell)
 (rd:Rd P.H s.heap v d bs) (ho:ow.contains i=false) (hg:∀ a ∈ bs,G a) {Q:Shared->Prop}
 (h:∀ h' tk,Inv P r c A env ow sc as { s with heap:=h',toks:=tk } (setV m i d) own G->Stp env ow [i] [] s m own G { s with heap:=h',toks:=tk } (setV m i d) own G->(∀ b o,s.heap.get? b=some o->b ≠ env.locals->(∀ x,env.cells.lookup x ≠ some b)->h'.get? b=some o)->Q { s with heap:=h',toks:=tk }) :
 wpAny (model P.prog P.w) A (storeName env x v) (λZ s'=>Q s') (λZ Z=>False) s:=by
 refine gk (own':=own) I hs hk rd (λq=>(by exact nF (ho.symm.trans q))) (λZ=>hg) (λZ Z=>rfl) (λq=>(by exact nF (ho.symm.trans q))) (λq=>(by exact nF (ho.symm.trans q))) (λq=>(by exact nF (ho.symm.trans q))) λh' tk I' live keep=>?_;refine h h' tk I' ⟨live,λb o Z e h1 h2 Z=>keep b o e h1 h2,λZ Z Z g=>g,λj dd hj hm hnl=>?_,λj hj=>⟨rfl,?_⟩⟩ keep
 ·have hji:i ≠ j:=by rintro rfl;exact nF (ho.symm.trans hj)
  rw [aM hji] at hm;exact .inl ⟨rfl,dd,hm,hnl⟩
 ·exact aM (by rintro rfl;exact hj (.head _))
theorem Inv.minus(I0:Inv P r c A env ow sc as s m own G)(k:Kp s s')(X:List Addr)(h1:∀ a ∈ X,s.heap.get? a=none)(h2:∀ a ∈ X,∃ o,s'.heap.get? a=some o):Inv P r c A env ow sc as s' m own (λa=>G a/\a ∉ X):=by
 have I:=I0.keeps k;have gone:∀ a o,s.heap.get? a=some o->a ∉ X:=λa o e q=>by exact nN ((h1 a q).symm.trans e)
 refine ⟨I.room,I.gpc,(I0.er.strengthen λa o e g=>⟨g,gone a o e⟩).keeps k.get,λa e=>⟨I.new a e,λq=>?_⟩,I.kp,λa q=>I.gsub a q.1,I.ns,I.cl,I.inj,λq=>I.gL q.1,λy a e q=>I.gC y a e q.1,I.nL,I.nC,λj dd h1 h2 h3=>?_,I.oD⟩
 ·obtain ⟨o,e'⟩:=h2 a q;exact nS (e'.symm.trans e)
 ·obtain ⟨q1,q2⟩:=I.oG j dd h1 h2 h3
  exact ⟨λq=>q1 q.1,q2⟩
theorem Inv.new_ne(I0:Inv P r c A env ow sc as s m own G)(h:s.heap.get? a=none):sc.heap.get? a=none/\a ≠ env.locals/\(∀ y,env.cells.lookup y ≠ some a)/\∀ j dd,ow.contains j=true->m[j]?=some (some dd)->noList dd=false->own j ≠ a:=by
 refine ⟨I0.kp.none h,?_,λy e=>?_,λj dd h1 h2 h3=>?_⟩
 ·rintro rfl
  obtain ⟨mm,o,_,_,e,_⟩:=I0.ns;exact nS (e.symm.trans h)
 ·obtain ⟨w,o,e',_⟩:=I0.cl y a e
  exact nS (e'.symm.trans h)
 ·obtain ⟨_,_,_,_,o,e,_⟩:=I0.oG j dd h1 h2 h3
  rintro rfl;exact nS (e.symm.trans h)
theorem Rd.flat_one(rd:Rd H h v d bs)(hf:flat d=true):∃ a0,(∀ a ∈ bs,a=a0)/\(noList d=false->a0 ∈ bs):=by
 cases rd with
 | @list a vs n xs as' h1 h2 h3=>
  have:as'=[]:=h3.noAddr (show ap _=true from hf);subst this;exact ⟨a,λb q=>Qx q,λZ=>.head _⟩
 | @tuple a vs n xs as' h1 h2 h3=>
  have:bs=[]:=h3.noAddr hf;clear h3 h2 h1;subst this;exact ⟨0,λZ q=>((YJ q).elim),λq=>(by exact nT ((show noList (.tuple xs)=true from hf).symm.trans q))⟩
 | @dict a _ _ _ _ _=>exact ⟨a,λb q=>Qx q,λZ=>.head _⟩
 | exc=>exact nF hf
 | none=>exact ⟨0,λZ q=>((YJ q).elim),λq=>(by exact nT q)⟩
 | bool=>exact ⟨0,λZ q=>((YJ q).elim),λq=>(by exact nT q)⟩
 | int=>exact ⟨0,λZ q=>((YJ q).elim),λq=>(by exact nT q)⟩
 | str=>exact ⟨0,λZ q=>((YJ q).elim),λq=>(by exact nT q)⟩
theorem i8{own:Nat->Addr}{G:Addr->Prop}{i:Nat}{d:D}(X:List Addr)(I0:Inv P r c A env ow sc as s0 m own G)(k:Kp s0 s)(hX:∀ a ∈ X,s0.heap.get? a=none)(hX2:∀ a ∈ X,∃ o,s.heap.get? a=some o)(hs:slotOf c.names x=some i)(hk:c.kind x=some .local\/c.kind x=some .cell)
 (rd:Rd P.H s.heap v d bs) (ho:ow.contains i=true) (hf:flat d=true) (hn:∀ a ∈ bs,s0.heap.get? a=none) {Q:Shared->Prop}
 (h:∀ h' tk own' G',Inv P r c A env ow sc as { s with heap:=h',toks:=tk } (setV m i d) own' G'->Stp env ow [i] [] s0 m own G { s with heap:=h',toks:=tk } (setV m i d) own' G'->(∀ a ∈ X,¬ G' a) ->
  (∀ j dd,ow.contains j=true->(setV m i d)[j]?=some (some dd)->noList dd=false->∀ a ∈ X,a ∉ bs->own' j ≠ a) ->
  (∀ b o,s.heap.get? b=some o->b ≠ env.locals->(∀ x,env.cells.lookup x ≠ some b)->h'.get? b=some o)->Q { s with heap:=h',toks:=tk }) :
 wpAny (model P.prog P.w) A (storeName env x v) (λZ s'=>Q s') (λZ Z=>False) s:=by
 refine byG λX_ g_=>?_;obtain ⟨a0,ha0,ha1⟩:=rd.flat_one hf;refine g_ ?_;have gone:∀ a o,s0.heap.get? a=some o->a ∉ X++bs:=λa o e q=>by
  rcases QY q with q | q
  ·exact nN ((hX a q).symm.trans e)
  ·exact nN ((hn a q).symm.trans e)
 have hlt:=cD hs I0;refine gk (own':=λj=>if j=i then a0 else own j) (I0.minus k (X++bs) (λa q=>(QY q).elim (hX a) (hn a)) λa q=>(QY q).elim (hX2 a) λq=>(rd.old a q).imp λo e=>e.1) hs hk rd (λZ=>⟨hf,λa q=>by simpa using ha0 a q⟩) (λq=>(by exact nT (ho.symm.trans q))) (λj hj=>Qu hj) (λZ hnl=>?_) (λZ hnl=>by simpa using ha1 hnl) (λZ hnl j dd hj hoj hm hnl'=>?_) λh' tk I' live keep=>?_
 ·simp only [if_true]
  exact ⟨λq=>q.2 (Zy _ (ha1 hnl)),(I0.new_ne (hn a0 (ha1 hnl))).1,(I0.new_ne (hn a0 (ha1 hnl))).2.1,(I0.new_ne (hn a0 (ha1 hnl))).2.2.1⟩
 ·simp only [if_true]
  exact (I0.new_ne (hn a0 (ha1 hnl))).2.2.2 j dd hoj hm hnl'
 ·refine h h' tk _ _ I' ⟨λb e=>k.none (live b e),λb o Z e h1 h2 Z=>keep b o (k.get b o e) h1 h2,λa o e g=>⟨g,gone a o e⟩,λj dd hj hm hnl=>?_,λj hj=>?_⟩ (λa ha q=>q.2 (Q6 _ ha)) (λj dd hj hm hnl a ha hab=>?_) keep
  ·by_cases hji:j=i
   ·clear keep live I' gone ha0 g_ h hf ho rd hk hs hX2 k;subst hji
    rw [fy hlt] at hm;cases hm;exact .inr (by simpa using hn _ (ha1 hnl))
   ·rw [aM (Ne.symm hji)] at hm
    exact .inl ⟨Qu hji,dd,hm,hnl⟩
  ·have hji:j ≠ i:=λe=>hj (by exact e ▸ .head _)
   exact ⟨Qu hji,aM (Ne.symm hji)⟩
  ·by_cases hji:j=i
   ·clear keep live I' gone ha0 g_ h hn hf ho rd hk hs hX2 k;subst hji
    rw [fy hlt] at hm;cases hm;simp only [if_true];rintro rfl;exact hab (ha1 hnl)
   ·rw [aM (Ne.symm hji)] at hm
    simp only [Qu hji];exact (I0.new_ne (hX a ha)).2.2.2 j dd hj hm hnl
theorem Inv.walk(I:Inv P r c A env ow sc as s m own G)(wr:List Addr)(hk:∀ b o,b ∉ wr->s.heap.get? b=some o->h'.get? b=some o)
 (w1:∀ b ∈ wr,sc.heap.get? b=none) (w2:∀ b ∈ wr,b ≠ env.locals/\∀ y,env.cells.lookup y ≠ some b) (w3:∀ b ∈ wr,∀ o,s.heap.get? b=some o->∀ vs n,o ≠ tupObj vs n)
 (w4:∀ b ∈ wr,(¬ G b/\∀ j dd,ow.contains j=true->m[j]?=some (some dd)->noList dd=false->own j ≠ b)\/∀ o,s.heap.get? b=some o->(∀ vs n,o ≠ listObj vs n)/\(∀ es n,o.data ≠ .dict es n)/\∀ C,o.cls ≠ .ref C) :
 Inv P r c A env ow sc as { s with heap:=h',toks:=tk } m own (λa=>G a\/a ∈ wr):=by
 obtain ⟨mm,hn⟩:=I.ns;have hL:env.locals ∉ wr:=λq=>(w2 _ q).1 rfl;have hC:∀ y a,env.cells.lookup y=some a->a ∉ wr:=λy a e q=>(w2 a q).2 y e;have hO:∀ i d,ow.contains i=true->m[i]?=some (some d)->noList d=false->own i ∉ wr:=λi d h1 h2 h3 q=>by
  obtain ⟨_,_,_,_,o,e,q5⟩:=I.oG i d h1 h2 h3;rcases w4 _ q with ⟨_,z⟩ | z
  ·exact z i d h1 h2 h3 rfl
  ·rcases q5 with ⟨vs,n,q5⟩ | ⟨vs,n,q5⟩
   ·exact (z o e).1 vs n q5
   ·exact (z o e).2.1 vs n (by rw [q5])
 refine ⟨I.room,I.gpc,⟨I.er.fn,I.er.gl,I.er.bu,I.er.kd,I.er.len,I.er.owlt,I.er.cel,λx i d h1 h2 h3=>?_⟩,λa e=>?_,?_,λa q=>q.elim (I.gsub a) (λq=>.inr (w1 a q)),⟨mm,hn.at' λo e=>hk _ o hL e⟩,λx a e=>?_,I.inj,λq=>q.elim I.gL hL,λx a e q=>q.elim (I.gC x a e) (hC x a e),I.nL,I.nC,λi d h1 h2 h3=>?_,I.oD⟩
 ·refine byG λX_ g_=>?_
  obtain ⟨v,xs,hv,rd,g1,g2⟩:=I.er.var x i d h1 h2 h3;refine g_ ?_;refine ⟨v,xs,?_,rd.but (λb=>b ∈ wr) hk (λb o hb e=>w3 b hb o e) λa ha q=>?_,g1,λz a ha=>.inl (g2 z a ha)⟩
  ·rcases hv with ⟨q1,m2,q2,q3⟩ | ⟨q1,c2,q2,q3⟩
   ·exact .inl ⟨q1,m2,q2.at' λo e=>hk _ o hL e,q3⟩
   ·refine .inr ⟨q1,c2,q2,?_⟩
    obtain ⟨o,e,dd⟩:=q3;exact ⟨o,hk _ o (hC _ _ q2) e,dd⟩
  ·induction ho:ow.contains i with
   | true=>
    have hnl:noList d=false:=by
     induction q:noList d with
     | false=>rfl
     | true=>rw [rd.noAddr q] at ha;exact (YJ ha).elim
    exact hO i d ho h2 hnl ((g1 ho).2 a ha ▸ q)
   | false=>
    rcases w4 a q with ⟨z,_⟩ | z
    ·exact z (g2 ho a ha)
    ·obtain ⟨o,e,q5⟩:=rd.old a ha
     rcases q5 with ⟨vs,n,q5⟩ | ⟨vs,n,q5⟩ | ⟨C,q5⟩
     ·exact (z o e).1 vs n q5
     ·exact (z o e).2.1 vs n q5
     ·exact (z o e).2.2 C q5
 ·by_cases hw:a ∈ wr
  ·exact .inr hw
  ·refine .inl (I.new a ?_)
   induction q:s.heap.get? a with
   | none=>rfl
   | some o=>exact nS ((show h'.get? a=_ from hk a o hw q).symm.trans e)
 ·exact I.kp.setHeap λb o e=>hk b o (λq=>by exact nN ((w1 b q).symm.trans e)) (I.kp.get b o e)
 ·obtain ⟨v,o,q,dd⟩:=I.cl x a e
  exact ⟨v,o,hk _ o (hC _ _ e) q,dd⟩
 ·refine byG λX_ g_=>?_
  obtain ⟨q1,q2,q3,q4,o,e,q5⟩:=I.oG i d h1 h2 h3;refine g_ ?_;exact ⟨λq=>q.elim q1 (hO i d h1 h2 h3),q2,q3,q4,o,hk _ o (hO i d h1 h2 h3) e,q5⟩
theorem kn(I:Inv P r c A env ow sc as s m own G)(hs:slotOf c.names x=some i)(hk:c.kind x=some .local\/c.kind x=some .cell)
 (ho:ow.contains i=true) (hm:m[i]?=some (some d0)) (hc0:isC d0=true) (sb:Heap.SameBut (own i) s.heap h') (hget:h'.get? (own i)=some o') (ho':(∃ vs n,o'=listObj vs n)\/∃ es n,o'=dictObj es n) (rd':Rd P.H h' (.ref (own i)) d' [own i]) (fl':flat d'=true) :
 Inv P r c A env ow sc as { s with heap:=h',toks:=tk } (setV m i d') own G/\Stp env ow [i] [] s m own G { s with heap:=h',toks:=tk } (setV m i d') own G:=by
 have hn0:=uN hc0;obtain ⟨oG1,oG2,oG3,oG4,o0,e0,oG5⟩:=I.oG i _ ho hm hn0;have nt:∀ b o,b=own i->s.heap.get? b=some o->∀ vs n,o ≠ tupObj vs n:=λb o hb e vs n q=>by
  subst hb;rw [e] at e0;obtain rfl:=Qv e0;rcases oG5 with ⟨vs',n',z⟩ | ⟨vs',n',z⟩
  ·rw [q] at z;exact absurd (Qf Obj.cls z) (by show ¬ (Value.type "tuple" = Value.type "list");decide)
  ·rw [q] at z;exact absurd (Qf Obj.cls z) (by show ¬ (Value.type "tuple" = Value.type "dict");decide)
 have keep:∀ b o,b ≠ own i->s.heap.get? b=some o->h'.get? b=some o:=λb o hb e=>sb.extBut b o hb e;have live:∀ b,h'.get? b=none->s.heap.get? b=none:=λb e=>by
  by_cases hb:b=own i
  ·subst hb;exact nS (hget.symm.trans e)
  ·exact (sb.2 b hb) ▸ e
 have vk:∀ y w,VarAt env s.heap y w->VarAt env h' y w:=λy w q=>by
  rcases q with ⟨q1,m2,q2,q3⟩ | ⟨q1,c2,q2,q3⟩
  ·exact .inl ⟨q1,m2,q2.at' λo e=>keep _ o (Ne.symm oG3) e,q3⟩
  ·obtain ⟨o,e,dd⟩:=q3
   exact .inr ⟨q1,c2,q2,o,keep _ o (λz=>oG4 y (z ▸ q2)) e,dd⟩
 obtain ⟨mm,hn⟩:=I.ns;refine ⟨⟨I.room,I.gpc,⟨I.er.fn,I.er.gl,I.er.bu,I.er.kd,?_,?_,I.er.cel,?_⟩,λa e=>I.new a (live a e),?_,I.gsub,⟨mm,hn.at' λo e=>keep _ o (Ne.symm oG3) e⟩,λy a e=>?_,I.inj,I.gL,I.gC,I.nL,I.nC,?_,?_⟩,⟨live,λb o Z e Z Z h3=>keep b o (h3 i _ (.head _) ho hm hn0) e,λZ Z Z g=>g,λj dd hj hm' hnl=>?_,λj hj=>⟨rfl,aM (by rintro rfl;exact hj (.head _))⟩⟩⟩
 ·simp [setV,I.er.len]
 ·intro j hj;have:=I.er.owlt j hj;simpa [setV] using this
 ·intro y j dd hy hm' hky
  by_cases hj:j=i
  ·clear hn live oG5 e0 sb;subst hj
   rw [fy (cD hs I)] at hm';cases hm';refine byG λX_ g_=>?_;obtain ⟨w,ws,hv,rd,g1,g2⟩:=I.er.var y j _ hy hm hky;obtain ⟨a,rfl,ha⟩:=rd.top hc0;refine g_ ?_;have ea:a=own j:=(g1 ho).2 a ha;subst ea;exact ⟨_,_,vk y _ hv,rd',λZ=>⟨fl',λa q=>Qx q⟩,λq=>(by exact nT (ho.symm.trans q))⟩
  ·rw [aM (Ne.symm hj)] at hm'
   refine byG λX_ g_=>?_;obtain ⟨w,ws,hv,rd,g1,g2⟩:=I.er.var y j dd hy hm' hky;refine g_ ?_;refine ⟨w,ws,vk y w hv,rd.but (λb=>b=own i) keep nt λa ha q=>?_,g1,g2⟩;subst q;induction hoj:ow.contains j with
   | false=>exact oG1 (g2 hoj _ ha)
   | true=>
    have hnl:noList dd=false:=by
     induction q:noList dd with
     | false=>rfl
     | true=>rw [rd.noAddr q] at ha;exact (YJ ha).elim
    exact I.oD j i dd _ hj hoj ho hm' hm hnl hn0 ((g1 hoj).2 _ ha).symm
 ·exact I.kp.setHeap λb o e=>keep b o (by rintro rfl;exact nN (oG2.symm.trans e)) (I.kp.get b o e)
 ·obtain ⟨v,o,q,dd⟩:=I.cl y a e
  exact ⟨v,o,keep _ o (λz=>oG4 y (z ▸ e)) q,dd⟩
 ·intro j dd hj hm' hnl
  by_cases hji:j=i
  ·clear hn vk live nt oG5 e0 fl' rd' sb hc0 hs;subst hji
   exact ⟨oG1,oG2,oG3,oG4,_,hget,ho'⟩
  ·rw [aM (Ne.symm hji)] at hm'
   refine byG λX_ g_=>?_;obtain ⟨q1,q2,q3,q4,o,e,q5⟩:=I.oG j dd hj hm' hnl;refine g_ ?_;exact ⟨q1,q2,q3,q4,o,keep _ o (I.oD j i dd _ hji hj ho hm' hm hnl hn0) e,q5⟩
 ·intro j k dd dd' hjk hj hk hm1 hm2 hn1 hn2
  have back:∀ l dl,(setV m i d')[l]?=some (some dl)->noList dl=false->∃ dl',m[l]?=some (some dl')/\noList dl'=false:=λl dl e q=>by
   by_cases hl:l=i
   ·subst hl;exact ⟨_,hm,hn0⟩
   ·rw [aM (Ne.symm hl)] at e;exact ⟨dl,e,q⟩
  obtain ⟨d1,e1,n1⟩:=back j dd hm1 hn1;obtain ⟨d2,e2,n2⟩:=back k dd' hm2 hn2;exact I.oD j k d1 d2 hjk hj hk e1 e2 n1 n2
 ·by_cases hji:j=i
  ·clear hj hn vk live keep nt oG5 e0 oG4 oG3 oG2 oG1 fl' rd' ho' hget sb hc0 ho hk hs I;subst hji;exact .inl ⟨rfl,_,hm,hn0⟩
  ·rw [aM (Ne.symm hji)] at hm';exact .inl ⟨rfl,dd,hm',hnl⟩
theorem y8(I:Inv P r c A env ow sc as s m own G)(ho:ow.contains i=true)(hm:m[i]?=some (some d0))(hc0:isC d0=true):∀ b o,b=own i->s.heap.get? b=some o->∀ vs n,o ≠ tupObj vs n:=λb o hb e vs n q=>by
 obtain ⟨_,_,_,_,o0,e0,oG5⟩:=I.oG i _ ho hm (uN hc0);subst hb;rw [e] at e0;obtain rfl:=Qv e0;rcases oG5 with ⟨vs',n',z⟩ | ⟨vs',n',z⟩
 ·rw [q] at z;exact absurd (Qf Obj.cls z) (by show ¬ (Value.type "tuple" = Value.type "list");decide)
 ·rw [q] at z;exact absurd (Qf Obj.cls z) (by show ¬ (Value.type "tuple" = Value.type "dict");decide)
theorem lC(I:Inv P r c A env ow sc as s m own G)(hs:slotOf c.names x=some i)(hk:c.kind x=some .local\/c.kind x=some .cell)
 (ho:ow.contains i=true) (hm:m[i]?=some (some (.list xs))) (sb:Heap.SameBut (own i) s.heap h') (hget:h'.get? (own i)=some (listObj vs n)) (hz:vs.size<=sizeLine) (ra:RdAll P.H s.heap vs.toList xs' []) (nl:ap xs'=true) :
 Inv P r c A env ow sc as { s with heap:=h',toks:=tk } (setV m i (.list xs')) own G/\Stp env ow [i] [] s m own G { s with heap:=h',toks:=tk } (setV m i (.list xs')) own G:=
 kn I hs hk ho hm rfl sb hget (.inl ⟨_,_,rfl⟩) (.list hget hz (ra.but (λb=>b=own i) (λb o hb e=>sb.extBut b o hb e) (y8 I ho hm rfl) λa q=>((YJ q).elim))) nl
end
mutual
noncomputable def tchS:Sm->List Nat
 | .asg i _=>[i]
 | .unp i j _=>[i,j]
 | .seti i _ _=>[i]
 | .app i _=>[i]
 | .pop i=>[i]
 | .rev i=>[i]
 | .ite _ t e=>tchSs t++tchSs e
 | .for1 i _ b=>[i]++tchSs b
 | .for2 i j _ b=>[i,j]++tchSs b
 | .wh _ b=>tchSs b
 | .ret _=>[]
 | .rse _ _=>[]
 | .exr _ _=>[]
 | .ifn _ _=>[]
 | .cor _ _ _ _=>[]
 | .cand _ _ _ _=>[]
 | .stuck=>[]
noncomputable def tchSs:Sms->List Nat
 | .nil=>[]
 | .cons s r=>tchS s++tchSs r
end
theorem pN(s:Sm)(r:Sms):tchSs (Sms.cons s r)=tchS s++tchSs r:=rfl
theorem uO(c:Ex)(t:Sms)(e:Sms):tchS (Sm.ite c t e)=tchSs t++tchSs e:=rfl
def gm(ow:List Nat)(it:It)(b:List Nat):Bool:=
 (itOw ow it).all λe=>match e with
  | .v j=>!b.contains j
  | _=>true
mutual
noncomputable def okS(ow:List Nat):Sm->Bool
 | .asg i e=>okE ow e&&(if ow.contains i then frE e else nm ow e)
 | .unp i j e=>okE ow e&&nm ow e&&!ow.contains i&&!ow.contains j
 | .seti i k e=>ow.contains i&&okE ow k&&okE ow e
 | .app i e=>ow.contains i&&okE ow e
 | .pop i=>ow.contains i
 | .rev i=>ow.contains i
 | .ite c t e=>okE ow c&&okSs ow t&&okSs ow e
 | .for1 i it b=>okIt ow it&&!ow.contains i&&okSs ow b&&gm ow it (tchSs b)
 | .for2 i j it b=>okIt ow it&&!ow.contains i&&!ow.contains j&&okSs ow b&&gm ow it (tchSs b)
 | .wh c b=>okE ow c&&okSs ow b
 | .ret e=>okE ow e
 | .rse _ e=>okE ow e
 | .exr _ es=>okEs ow es
 | .ifn _ es=>okEs ow es
 | .cor _ i j e=>!ow.contains i&&!ow.contains j&&okE ow e
 | .cand e _ i j=>!ow.contains i&&!ow.contains j&&okE ow e
 | .stuck=>true
noncomputable def okSs(ow:List Nat):Sms->Bool
 | .nil=>true
 | .cons s r=>okS ow s&&okSs ow r
end
mutual
noncomputable def catS:Sm->Bool
 | .cor _ _ _ _=>true
 | .cand _ _ _ _=>true
 | .ite _ t e=>catSs t||catSs e
 | .for1 _ _ b=>catSs b
 | .for2 _ _ _ b=>catSs b
 | .wh _ b=>catSs b
 | _=>false
noncomputable def catSs:Sms->Bool
 | .nil=>false
 | .cons s r=>catS s||catSs r
end
theorem or_l(z:p=true):(p||q)=true:=by rw [z];rfl
theorem or_r(z:q=true):(p||q)=true:=by rw [z,YD]
theorem y9(ow:List Nat)(i:Nat)(e:Ex):okS ow (.asg i e)=(okE ow e&&(if ow.contains i then frE e else nm ow e)):=rfl
theorem A4(ow:List Nat)(i j:Nat)(e:Ex):okS ow (.unp i j e)=(okE ow e&&nm ow e&&!ow.contains i&&!ow.contains j):=rfl
theorem za(ow:List Nat)(i:Nat)(k e:Ex):okS ow (.seti i k e)=(ow.contains i&&okE ow k&&okE ow e):=rfl
theorem A5(ow:List Nat)(i:Nat)(e:Ex):okS ow (.app i e)=(ow.contains i&&okE ow e):=rfl
theorem A6(ow:List Nat)(i:Nat):okS ow (.pop i)=ow.contains i:=rfl
theorem A7(ow:List Nat)(c:Ex)(t e:Sms):okS ow (.ite c t e)=(okE ow c&&okSs ow t&&okSs ow e):=rfl
theorem zb(ow:List Nat)(i:Nat)(it:It)(b:Sms):okS ow (.for1 i it b)=(okIt ow it&&!ow.contains i&&okSs ow b&&gm ow it (tchSs b)):=rfl
theorem zc(ow:List Nat)(i j:Nat)(it:It)(b:Sms):okS ow (.for2 i j it b)=(okIt ow it&&!ow.contains i&&!ow.contains j&&okSs ow b&&gm ow it (tchSs b)):=rfl
theorem k_wh(ow:List Nat)(c:Ex)(b:Sms):okS ow (.wh c b)=(okE ow c&&okSs ow b):=rfl
theorem A8(ow:List Nat)(e:Ex):okS ow (.ret e)=okE ow e:=rfl
theorem A9(ow:List Nat)(f:Str)(i j:Nat)(e:Ex):okS ow (.cor f i j e)=(!ow.contains i&&!ow.contains j&&okE ow e):=rfl
theorem zd(ow:List Nat)(f:Str)(i j:Nat)(e:Ex):okS ow (.cand e f i j)=(!ow.contains i&&!ow.contains j&&okE ow e):=rfl
theorem wE(ow:List Nat)(s:Sm)(r:Sms):okSs ow (.cons s r)=(okS ow s&&okSs ow r):=rfl
section
variable (P:Pk)(r:Nat)(c:TC)
set_option tactic.hygienic true in
noncomputable def PF(A:Around)(env:Env)(ow:List Nat)(sc:Shared)(as:List Addr)(fr:Bool)(tch:List Nat)(s:Shared)(m:St)(own:Nat->Addr)(G:Addr->Prop):Fl × St->Flow->Shared->Prop
 | (.next,m'),f,s'=>f = .next/\∃ own' G',Inv P r c A env ow sc as s' m' own' G'/\Stp env ow tch [] s m own G s' m' own' G'
 | (.ret d,_),f,s'=>∃ v,f = .ret v/\Kp sc s'/\(∃ mm,s'.heap.Ns env.locals mm)/\∃ bs,Rd P.H s'.heap v d bs/\(∀ x ∈ bs,sc.heap.get? x=none\/x ∈ as)/\(fr=true->∀ x ∈ bs,sc.heap.get? x=none)
 | (.exc _,_),_,_=>False
noncomputable def isX:Fl × St->Bool
 | (.exc _,_)=>true
 | _=>false
structure FrOk(A:Around)(env:Env)(sc:Shared)(base:Heap)(outer:List Env):Prop where
 fr:A.frames=some (env::outer)
 loc:env.frame=some env.locals
 st:base.StaysIn sc.heap
 ff:sc.heap.FunFrames base outer
noncomputable def TopF(A:Around)(env:Env):Prop:=A.frames=some [env]/\env.frame=some env.locals
structure InX(env:Env)(sc:Shared)(base:Heap)(outer:List Env)(x:D)(v:Value)(s':Shared):Prop where
 ex:∃ cls n e C dx tk,x=xD cls n/\cls ∈ exN/\v = .ref e/\P.mg cls=some (.ref C)/\base.get? e=none/\St3 s'.heap base e C dx env.locals/\s'.heap.Ns dx (atM (.int n tk))/\sc.heap.get? e=none/\sc.heap.get? dx=none/\dx ≠ env.locals
 st:base.StaysIn s'.heap
 ff:s'.heap.FunFrames base (env::outer)
 up:sc.heap.UpToSlots s'.heap
 ns:∃ mm,s'.heap.Ns env.locals mm
 sh:∃ h' t',s'={ sc with heap:=h',toks:=t' }
noncomputable def PX(env:Env)(sc:Shared)(base:Heap)(outer:List Env):Fl × St->Value->Shared->Prop
 | (.exc x,_),v,s'=>InX P env sc base outer x v s'
 | _,_,_=>False
noncomputable def SS0(ow:List Nat)(fr:Bool)(N:Nat)(st:Stmt)(st':Sm):Prop:=
 ∀ (A:Around) (env:Env) (sc:Shared) (as:List Addr) (s:Shared) (m:St) (own:Nat->Addr) (G:Addr->Prop) (res:Fl × St),Inv P r c A env ow sc as s m own G->okS ow st'=true->exS P.Φ P.Γ ow fr N st' m=some res ->
  wpAny (model P.prog P.w) A (exec st env) (PF P r c A env ow sc as fr (tchS st') s m own G res) (λo_ Z=>False) s
noncomputable def SS(ow:List Nat)(fr:Bool)(N:Nat)(st:Stmt)(st':Sm):Prop:=
 ∀ (A:Around) (env:Env) (sc:Shared) (as:List Addr) (s:Shared) (m:St) (own:Nat->Addr) (G:Addr->Prop) (res:Fl × St) (base:Heap) (outer:List Env),Inv P r c A env ow sc as s m own G->okS ow st'=true->exS P.Φ P.Γ ow fr N st' m=some res->(isX res=true->FrOk A env sc base outer)->(catS st'=true->TopF A env) ->
  wpAny (model P.prog P.w) A (exec st env) (PF P r c A env ow sc as fr (tchS st') s m own G res) (PX P env sc base outer res) s
noncomputable def SSs(ow:List Nat)(fr:Bool)(N:Nat)(st:List Stmt)(st':Sms):Prop:=
 ∀ (A:Around) (env:Env) (sc:Shared) (as:List Addr) (s:Shared) (m:St) (own:Nat->Addr) (G:Addr->Prop) (res:Fl × St) (base:Heap) (outer:List Env),Inv P r c A env ow sc as s m own G->okSs ow st'=true->exSs P.Φ P.Γ ow fr N st' m=some res->(isX res=true->FrOk A env sc base outer)->(catSs st'=true->TopF A env) ->
  wpAny (model P.prog P.w) A (execs st env) (PF P r c A env ow sc as fr (tchSs st') s m own G res) (PX P env sc base outer res) s
theorem SS.of0(h:SS0 P r c ow fr N st st'):SS P r c ow fr N st st':=λA env sc as s m own G res base outer I hok hev Z Z=>Qs (h A env sc as s m own G res I hok hev) (λo_ Z z=>z) λo_ Z z=>z.elim
end
section
variable {P:Pk}{r:Nat}{c:TC}{ow:List Nat}{fr:Bool}{N:Nat}
set_option tactic.hygienic true in
theorem PF.after(S1:Stp env ow t1 [] s m own G s1 m1 own1 G1)(h:PF P r c A env ow sc as fr t2 s1 m1 own1 G1 res f s')(h1:∀ i ∈ t1,i ∈ t)(h2:∀ i ∈ t2,i ∈ t):PF P r c A env ow sc as fr t s m own G res f s':=by
 obtain ⟨fl,m'⟩:=res;induction fl with
 | next=>
  refine byG λX_ g_=>?_;obtain ⟨h0,own',G',I,S⟩:=h;refine g_ ?_;exact ⟨h0,own',G',I,S1.join S h1 h2⟩
 | ret d=>exact h
 | exc d=>exact h
theorem pO:SSs P r c ow fr N [] .nil:=by
 intro A env sc as s m own G res base outer I hok hev Z Z;simp only [yo,Qc] at hev;subst hev;exact Yp ⟨rfl,own,G,I,Stp.refl ..⟩
set_option tactic.hygienic true in
theorem sI(h:SS P r c ow fr N st st')(hr:SSs P r c ow fr N rest rest'):SSs P r c ow fr N (st::rest) (.cons st' rest'):=by
 intro A env sc as s m own G res base outer I hok hev hx hc;simp only [wE,Qj] at hok;simp only [fe] at hev;induction q:exS P.Φ P.Γ ow fr N st' m with
 | none=>exact nN (q ▸ hev)
 | some r1=>
  rw [q] at hev;obtain ⟨fl,m1⟩:=r1;induction fl with
  | next=>
   refine Yg (Qs (h A env sc as s m own G _ base outer I hok.1 q nF λz=>hc (or_l z)) (λf s' hf=>?_) λo_ Z z=>z.elim);obtain ⟨rfl,own1,G1,I1,S1⟩:=hf;simp only at hev;refine Qs (hr A env sc as s' m1 own1 G1 res base outer I1 hok.2 hev hx λz=>hc (or_r z)) (λf2 s2 h2=>?_) λo_ Z z=>z;exact h2.after S1 (λi q=>by simp [pN,q]) λi q=>by simp [pN,q]
  | ret d=>
   refine Yg (Qs (h A env sc as s m own G _ base outer I hok.1 q nF λz=>hc (or_l z)) (λf s' hf=>?_) λo_ Z z=>z.elim);simp only [Qc] at hev;subst hev;obtain ⟨v,rfl,h2⟩:=hf;exact ⟨v,rfl,h2⟩
  | exc x=>
   simp only [Qc] at hev;subst hev;exact Yg (Qs (h A env sc as s m own G _ base outer I hok.1 q hx λz=>hc (or_l z)) (λf s' hf=>hf.elim) λo_ Z z=>z)
set_option tactic.hygienic true in
theorem ze(he:P.SE r c e e'):SS0 P r c ow fr N (.Return (some e) pos) (.ret e'):=by
 intro A env sc as s m own G res I hok hev;simp only [A8] at hok;simp only [yl] at hev;refine aa hev λd e1 hev=>?_;split at hev
 case isFalse=>exact nN hev
 rename_i hc;obtain rfl:=Qv hev;refine wpAny_Return_some (SE.us he I.pre hok e1 λv s' k bs rd g1 g2 g3 g4=>?_);have hOwn:isOw ow e'=true->∀ x ∈ bs,sc.heap.get? x=none:=λho x hx=>by
  clear g2 hev hok he;obtain ⟨i,rfl,hi⟩:=pE ho;have hnl:noList d=false:=by
   induction q:noList d with
   | false=>rfl
   | true=>rw [rd.noAddr q] at hx;exact (YJ hx).elim
  exact (g4 ho x hx) ▸ ((I.oG i d hi (evV e1) hnl).2.1)
 refine ⟨v,rfl,I.kp.trans k,I.ns.imp λmm z=>z.keeps k.get,bs,rd,λx hx=>?_,λhfr x hx=>?_⟩
 ·induction ho:isOw ow e' with
  | true=>exact .inl (hOwn ho x hx)
  | false=>exact (I.gsub x (g1 ho x hx)).symm
 ·subst hfr
  simp only [Yi,XQ,retOk,Ze,Qj] at hc;rcases hc with hc | ⟨ho | hf,hfl⟩
  ·rw [rd.noAddr hc] at hx;exact (YJ hx).elim
  ·exact hOwn ho x hx
  ·exact I.kp.none (g3 hf hfl x hx)
theorem Ba(ht:P.ST r c test q)(ha:SSs P r c ow fr N body a)(hb:SSs P r c ow fr N orelse b):SS P r c ow fr N (.If test body orelse pos) (.ite q a b):=by
 intro A env sc as s m own G res base outer I hok hev hx hc;simp only [A7,Qj] at hok;simp only [rB] at hev;refine aa hev λd e1 hev=>?_;refine aa hev λbb e2 hev=>?_;refine wpAny_If (Qs (ST.use (Q:=λb' s'=>b'=bb/\Kp s s') ht I.pre hok.1.1 e1 e2 λs' k=>⟨rfl,k⟩) (λb' s' z=>?_) λo_ Z z=>z.elim);clear e2 e1 ht;obtain ⟨rfl,k⟩:=z;induction b' with
 | true=>
  simp only [if_true] at hev ⊢;exact Qs (ha A env sc as s' m own G res base outer (I.keeps k) hok.1.2 hev hx λz=>hc (or_l z)) (λf s2 h2=>h2.after (Stp.kp k [] []) (λo_ q=>(YJ q).elim) λi q=>by simp [uO,q]) λo_ Z z=>z
 | false=>
  simp only [QD,if_false] at hev ⊢;exact Qs (hb A env sc as s' m own G res base outer (I.keeps k) hok.2 hev hx λz=>hc (or_r z)) (λf s2 h2=>h2.after (Stp.kp k [] []) (λo_ q=>(YJ q).elim) λi q=>by simp [uO,q]) λo_ Z z=>z
set_option tactic.hygienic true in
theorem uP(hs:slotOf c.names x=some i)(hk:c.kind x=some .local\/c.kind x=some .cell)(he:P.SE r c e e') 
 (I:Inv P r c A env ow sc as s m own G) (hok:okS ow (.asg i e')=true) (hev:exS P.Φ P.Γ ow fr N (.asg i e') m=some res) (hsw:swapsWith e (some (.Name x px)) pos.line env=pure false) :
 wpAny (model P.prog P.w) A (exec (.Assign [.Name x px] e pos) env) (PF P r c A env ow sc as fr [i] s m own G res) (λo_ Z=>False) s:=by
 simp only [y9,Qj] at hok;simp only [vM] at hev;refine aa hev λd e1 hev=>?_;split at hev
 case isFalse=>exact nN hev
 rename_i hc;obtain rfl:=Qv hev;refine wpAny_Assign_Name (SE.us he I.pre hok.1 e1 λv s' k bs rd g1 g2 g3 g4=>?_) hsw;induction ho:ow.contains i with
 | false=>
  rw [ho] at hok;refine dm (Q:=λs'=>PF P r c A env ow sc as fr [i] s m own G (.next,setV m i d) .next s') (I.keeps k) hs hk rd ho (g1 (by simpa [nm] using hok.2)) λh' tk I' S' Z=>⟨rfl,own,G,I',?_⟩
  exact (Stp.kp k [] []).join S' (λo_ q=>(YJ q).elim) λo_ q=>q
 | true=>
  rw [ho] at hok hc;simp only [Yi,XQ] at hc;refine i8 (Q:=λs'=>PF P r c A env ow sc as fr [i] s m own G (.next,setV m i d) .next s') [] I k (λo_ q=>(YJ q).elim) (λo_ q=>(YJ q).elim) hs hk rd ho hc (g3 (hok.2) hc) λh' tk own' G' I' S' Z Z Z=>⟨rfl,own',G',I',S'⟩
set_option tactic.hygienic true in
theorem zf{x:Str}(hx:x ≠ ("__debug__" : Str))(hl:(apos.endLine == cpos.line)=true)(hst:isStar e=false)(hs:slotOf c.names x=some i)(hk:c.kind x=some .local\/c.kind x=some .cell)(he:P.SE r c e e') :
 SS0 P r c ow fr N (.Expr (.Call (.Attribute (.Name x px) "append" apos) [e] [] cpos) pos) (.app i e'):=by
 intro A env sc as s m own G res I hok hev;simp only [A5,Qj] at hok;rw [yi] at hev;refine aa hev λcc e1 hev1=>?_;refine aa hev1 λd e2 hev2=>?_;clear hev hev1;induction cc using dc<;>simp only [reduceCtorEq] at hev2
 rename_i xs;split at hev2
 case isFalse=>exact nN hev2
 rename_i hc;simp only [Qj,bN,QE] at hc;obtain rfl:=Qv hev2;refine YE ?_ (by unfold interactive;exact I.er.fn ▸ rfl) rfl;refine wpAny_Call_append rfl (by rw [ak hst];rfl) hl (by rw [ak hst];rfl) ?_;refine SE.us (fh hx hk hs) I.pre rfl (d:=.list xs) (by trivial) λv s1 k1 as1 rd1 Z f1 Z w1=>?_;have hio:isOw ow (.v i)=true:=hok.1;cases rd1 using Rd.listE with
 | @mk a vs n as' ho hz ra=>
  have ea:a=own i:=w1 hio a (.head _);clear w1 hz hev2 hst hl hx;subst ea;have:as'=[]:=ra.noAddr (f1 hio);subst this;refine ⟨_,vs,rfl,⟨_,n,ho,rfl,rfl,rfl⟩,?_⟩;refine SE.us he (I.keeps k1).pre hok.2 e2 λy s2 k2 bs rd2 Z Z Z Z=>?_;have:bs=[]:=rd2.noAddr hc.1;subst this;have hlen:=ra.length;simp only [QJ] at hlen;refine YS (l:=own i) (items:=vs) ⟨n,k2.get _ _ ho⟩ (λh' pl sb=>?_) (by exact hlen ▸ (QQ hc.2 (by decide)));obtain ⟨n',e'⟩:=pl;have fl:ap (xs++[d])=true:=by
   have fl:ap xs=true:=by exact f1 hio
   have:∀ l:List D,ap l=true->noList d=true->ap (l++[d])=true:=by
    intro l;induction l with
    | nil=>intro _ h;simp [iE,aG,h]
    | cons z l ih=>intro h1 h2;rw [aG,Qj] at h1;rw [ZG,aG,Qj];exact ⟨h1.1,ih h1.2 h2⟩
   exact this xs fl hc.1
  obtain ⟨I3,S3⟩:=lC (tk:=s2.toks) (I.keeps (k1.trans k2)) hs hk hok.1 (evV (Φ:=P.Φ) (Γ:=P.Γ) (e1)) sb e' (by simp only [Array.size_push];exact hlen ▸ (QQ (QT hc.2) (by decide))) (xs':=xs++[d]) (by rw [Array.toList_push];exact (ra.keeps k2.get).append (RdAll.one rd2)) fl;exact ⟨rfl,own,G,I3,(Stp.kp (k1.trans k2) [] []).join S3 (λo_ q=>(YJ q).elim) λo_ q=>q⟩
end
section
variable {prog:Program}{w:World}{A:Around}{E:Value->Shared->Prop}{s:Shared}{env:Env}
theorem gn{o:Expr}{nm:Str}{id:String}{apos pos:Pos}{Q:Value->Shared->Prop}(slot:Slot "list" nm id)(hty:typeOf (.builtin id)=pure (.type "method_descriptor"))
 (hbase:attributeBase o nm env (eval o env)=eval o env) (hline:(apos.endLine == pos.line)=true)
 (h:wpAny (model prog w) A (eval o env) (λov s₁=>∃ D vs n,ov = .ref D/\s₁.heap.get? D=some (listObj vs n)/\wpAny (model prog w) A (callWith pos (.builtin id) [.ref D] [] []) Q E s₁) E s) :
 wpAny (model prog w) A (eval (.Call (.Attribute o nm apos) [] [] pos) env) Q E s:=by
 rw [arm_eval_Call,hbase];refine Qd (Qs h (λov s₁ h₁=>?_) λo_ Z e=>e);obtain ⟨D,vs,n,rfl,ho,hcall⟩:=h₁;refine Qd (Yx ?_);have hform:methodCallForm (([]:List Expr).length+([]:List Keyword).length) (backTo pos (starEach [] env)) (backToKw pos (keywordEach [] env))=true:=rfl;have hpos:methodCallPos true o env apos pos=pure pos:=by unfold methodCallPos;simp [hline]
 unfold methodCall;rw [hform];refine Qd (Zl (PyProof.Rows.getMethod_list_of slot hty (items:=vs) ⟨_,ho,rfl,_,rfl⟩ ?_ ?_))
 ·exact ⟨_,ho,rfl⟩
 ·exact Qd (wpAny_of_eq hpos hcall)
end
section
variable {P:Pk}{r:Nat}{c:TC}{ow:List Nat}{fr:Bool}{N:Nat}
theorem cu:∀ (l:List D),ap l=true->ap l.dropLast=true
 | [],_=>rfl
 | [x],_=>rfl
 | x::y::l,h=>by
  rw [aG,Qj] at h;show ap (x::(y::l).dropLast)=true;rw [aG,Qj];exact ⟨h.1,cu (y::l) h.2⟩
theorem dp:∀ (l m:List D),ap l=true->ap m=true->ap (l++m)=true:=by
 intro l;induction l with
 | nil=>
  intro _ _ h;exact h
 | cons x l dp=>
  intro m h k;rw [aG,Qj] at h;show ap (x::(l++m))=true;rw [aG,Qj];exact ⟨h.1,dp m h.2 k⟩
theorem kq(l:List D)(h:ap l=true):ap l.reverse=true:=by
 induction l with
 | nil=>rfl
 | cons x l ih=>
  rw [aG,Qj] at h;rw [Z0];exact dp _ _ (ih h.2) (by simp [iE,aG,h.1])
theorem fz:∀ (l:List D) (k:Nat) (d:D),ap l=true->noList d=true->ap (l.set k d)=true
 | [],_,_,_,_=>by rfl
 | x::l,0,d,h,hd=>by
  rw [aG,Qj] at h;simp [aG,h.2,hd]
 | x::l,k+1,d,h,hd=>by
  rw [aG,Qj] at h;simp [aG,h.1,fz l k d h.2 hd]
theorem lE{α:Type}:∀ (l:List α),l.eraseIdx (l.length - 1)=l.dropLast
 | []=>rfl
 | [x]=>rfl
 | x::y::l=>by
  show x::(y::l).eraseIdx l.length=x::(y::l).dropLast;exact Qf _ (lE (y::l))
set_option tactic.hygienic true in
theorem gq(vs:Array Value):(vs.eraseIdxIfInBounds (vs.size - 1)).toList=vs.toList.dropLast:=by
 unfold Array.eraseIdxIfInBounds;split
 ·rw [Array.toList_eraseIdx,<- QJ,lE]
 ·rename_i h
  have:vs = #[]:=by
   apply Array.eq_empty_of_size_eq_zero;exact Nat.eq_zero_of_not_pos λz=>h (Nat.sub_lt z Nat.one_pos)
  clear h;subst this;rfl
set_option tactic.hygienic true in
theorem zg{x:Str}{i:Nat}(hx:x ≠ ("__debug__" : Str))(hl:(apos.endLine == cpos.line)=true)(hs:slotOf c.names x=some i)(hk:c.kind x=some .local\/c.kind x=some .cell) :
 SS0 P r c ow fr N (.Expr (.Call (.Attribute (.Name x px) "pop" apos) [] [] cpos) pos) (.pop i):=by
 intro A env sc as s m own G res I hok hev;simp only [A6] at hok;rw [yj] at hev;refine aa hev λcc e1 hev1=>?_;clear hev;induction cc using dc<;>first | (exact nN hev1;done) | skip
 rename_i xs;replace hev1:(if xs.isEmpty then none else some (Fl.next,setV m i (.list xs.dropLast)))=some res:=hev1;split at hev1
 case isTrue=>exact nN hev1
 rename_i hne;obtain rfl:=Qv hev1;refine YE ?_ (by unfold interactive;rw [I.er.fn];rfl) rfl;refine gn F.slot_list_pop F.type_list_pop rfl hl ?_;refine SE.us (fh hx hk hs) I.pre rfl (d:=.list xs) (by trivial) λv s1 k1 as1 rd1 Z f1 Z w1=>?_;have hio:isOw ow (.v i)=true:=hok;cases rd1 using Rd.listE with
 | @mk a vs n as' ho hz ra=>
  have ea:a=own i:=w1 hio a (.head _);clear w1 hev1 hl hx;subst ea;have:as'=[]:=ra.noAddr (f1 hio);subst this;have hlen:=ra.length;simp only [QJ] at hlen;have hpos:0 < vs.size:=by
   rw [hlen];induction xs using lc with
   | nil=>simp at hne
   | cons=>simp
  refine ⟨_,vs,n,rfl,ho,?_⟩;obtain ⟨y,hy⟩:∃ y,vs[vs.size - 1]?=some y:=⟨vs[vs.size - 1],YK _⟩
  refine PySem.P.pop_list (n:=n) ho hy ?_ hz;obtain ⟨bs,ra2,hb⟩:=ra.dropLast;have:bs=[]:=List.eq_nil_iff_forall_not_mem.mpr λa q=>(nomatch hb a q)
  subst this;have hz2:(vs.eraseIdxIfInBounds (vs.size - 1)).size<=sizeLine:=by
   have:=Qf List.length (gq vs);simp only [QJ,List.length_dropLast] at this;exact QQ (Zd this) (QQ (Y6 _ _) hz)
  have ra3:RdAll P.H s1.heap (vs.eraseIdxIfInBounds (vs.size - 1)).toList xs.dropLast []:=by rw [gq];exact ra2
  obtain ⟨I3,S3⟩:=lC (tk:=s1.toks) (I.keeps k1) hs hk hok (evV (Φ:=P.Φ) (Γ:=P.Γ) (e1)) (Heap.SameBut.update _ _ _) (IsL.update ho (λys=>ys.eraseIdxIfInBounds (vs.size - 1))) (xs':=xs.dropLast) hz2 ra3 (cu xs (f1 hio));exact ⟨rfl,own,G,I3,(Stp.kp k1 [] []).join S3 (λo_ q=>nomatch q) λo_ q=>q⟩
set_option tactic.hygienic true in
theorem zh{x:Str}{i:Nat}(hx:x ≠ ("__debug__" : Str))(hl:(apos.endLine == cpos.line)=true)(hs:slotOf c.names x=some i)(hk:c.kind x=some .local\/c.kind x=some .cell) :
 SS0 P r c ow fr N (.Expr (.Call (.Attribute (.Name x px) "reverse" apos) [] [] cpos) pos) (.rev i):=by
 intro A env sc as s m own G res I hok hev;replace hok:ow.contains i=true:=hok;rw [yk] at hev;refine aa hev λcc e1 hev1=>?_;clear hev;induction cc using dc<;>first | (cases hev1;done) | skip
 rename_i xs;obtain rfl:=Qv hev1;have hm:m[i]?=some (some (.list xs)):=evV (Φ:=P.Φ) (Γ:=P.Γ) (by rw [x_v];exact e1);refine YE ?_ (by unfold interactive;rw [I.er.fn];rfl) rfl;refine gn F.slot_list_reverse F.type_list_reverse rfl hl ?_;refine SE.us (fh hx hk hs) I.pre rfl (d:=.list xs) (by rw [x_v,hm];rfl) λv s1 k1 as1 rd1 Z f1 Z w1=>?_;have hio:isOw ow (.v i)=true:=hok;cases rd1 using Rd.listE with
 | @mk a vs n as' ho hz ra=>
  have ea:a=own i:=w1 hio a (.head _);clear w1 hev1 e1 hl hx;subst ea;have:as'=[]:=ra.noAddr (f1 hio);subst this;refine ⟨_,vs,n,rfl,ho,?_⟩;refine PySem.P.reverse_list (n:=n) ho ?_ hz;refine byG λX_ g_=>?_;obtain ⟨bs,ra2,hb⟩:=ra.reverse;have:bs=[]:=List.eq_nil_iff_forall_not_mem.mpr λa q=>(nomatch hb a q)
  subst this;have ra3:RdAll P.H s1.heap vs.reverse.toList xs.reverse []:=by rw [Array.toList_reverse];exact ra2
  obtain ⟨I3,S3⟩:=lC (tk:=s1.toks) (I.keeps k1) hs hk hok hm (Heap.SameBut.update _ _ _) (IsL.update ho (λys=>ys.reverse)) (xs':=xs.reverse) (by rw [Array.size_reverse];exact hz) ra3 (kq xs (f1 hio));refine g_ ?_;exact ⟨rfl,own,G,I3,(Stp.kp k1 [] []).join S3 (λo_ q=>nomatch q) λo_ q=>q⟩
set_option tactic.hygienic true in
theorem wG{x:Str}(hx:x ≠ ("__debug__" : Str))(hs:slotOf c.names x=some i)(hk:c.kind x=some .local\/c.kind x=some .cell)(hi:P.SE r c ix ix')(he:P.SE r c e e')
 (hsw:∀ env:Env,swapsWith e (some (.Subscript (.Name x px) ix pp)) pos.line env=pure false):SS0 P r c ow fr N (.Assign [.Subscript (.Name x px) ix pp] e pos) (.seti i ix' e'):=by
 intro A env sc as s m own G res I hok hev;simp only [za,Qj] at hok;rw [iI] at hev;refine aa hev λd e1 hev1=>?_;refine aa hev1 λcc e2 hev2=>?_;refine aa hev2 λkk e3 hev3=>?_;clear hev hev1 hev2;split at hev3
 case isFalse=>exact nN hev3
 rename_i hnl;have e2':evE P.Φ P.Γ (.v i) m=some cc:=e2;have hm:m[i]?=some (some cc):=evV (Φ:=P.Φ) (Γ:=P.Γ) e2';have hio:isOw ow (.v i)=true:=hok.1.1;refine wpAny_Assign_Subscript ?_ (hsw env);refine SE.us he I.pre hok.2 e1 λv s1 k1 bs rd1 z1 z2 z3 z4=>?_;refine SE.us (fh hx hk hs) (I.keeps k1).pre rfl e2' λov s2 k2 as2 rd2 y1 f2 y2 w2=>?_;refine SE.us hi (I.keeps (k1.trans k2)).pre hok.1.2 e3 λiv s3 k3 cs rd3 x1 x2 x3 x4=>?_;clear e2 e2' e1 e3 z1 z2 z3 z4 y1 y2 x1 x2 x3 x4;induction cc using dc<;>first | (exact nN hev3;done) | skip
 all_goals (induction kk using dc<;>first | (exact nN hev3;done) | skip)
 case list.int xs n=>
  simp only at hev3;split at hev3
  case isFalse=>exact nN hev3
  rename_i hb;obtain rfl:=Qv hev3;have:bs=[]:=rd1.noAddr hnl;subst this;cases rd3 using Rd.intE with
  | mk t=>
   cases rd2 using Rd.listE with
   | @mk a vs n' as' ho hz ra=>
    have ea:a=own i:=w2 hio a (.head _);subst ea;have:as'=[]:=ra.noAddr (f2 hio);subst this;have hlen:=ra.length;simp only [QJ] at hlen;have hzz:(sizeLine:Int) < 2 ^ 62:=by decide
    refine PySem.W.ki_setAt (n:=n') (k3.get _ _ ho) hb.1 (by exact Yj hb.2 (Yj (QH (QB.mpr (hlen ▸ hz)) hzz) (by decide))) (by (exact hlen ▸ hb.2)) ?_;have rdv:Rd P.H s3.heap v d []:=rd1.keeps λb o q=>k3.get b o (k2.get b o q);obtain ⟨I3,S3⟩:=lC (tk:=s3.toks) (I.keeps (k1.trans (k2.trans k3))) hs hk hok.1.1 hm (Heap.SameBut.update _ _ _) (IsL.update (k3.get _ _ ho) (λys=>ys.setIfInBounds n.toNat v)) (xs':=xs.set n.toNat d) (by simp only [Array.size_setIfInBounds];exact hz) (by rw [Array.toList_setIfInBounds];exact RdAll.set rdv _ (ra.keeps k3.get) rfl) (fz xs _ d (f2 hio) hnl);exact ⟨rfl,own,G,I3,(Stp.kp (k1.trans (k2.trans k3)) [] []).join S3 (λo_ q=>(YJ q).elim) λo_ q=>q⟩
 case dict.str kvs sx=>
  simp only at hev3;split at hev3
  case isFalse=>exact nN hev3
  rename_i hb;obtain rfl:=Qv hev3;simp only [Qj,QE] at hb;cases rd3 using Rd.strE with
  | mk t hz ho=>
   obtain ⟨a,l,rfl,has,h0,hd,hkv⟩:=oP (prog:=P.prog) I.gpc.hs.1 rd2 hb.1.1;have ea:a=own i:=w2 hio a (by exact has ▸ .head _);subst ea;have hkv2:=hkv.put (x:=sx) (v:=v) (d:=d) hz ho hb.1.2 (rd1.scal hb.1.2).2;refine wpAny_setItem_pairs (knd:=strKind P.prog P.w) (k:=sx) (by simp [strKind,Value.isStrOf]) (hd.keep k3.get) (λh' hd' sb=>?_) (by exact hkv.len ▸ (QQ hb.2 (by decide)));refine byG λX_ g_=>?_;obtain ⟨es,n,hget,rd'⟩:=lm (prog:=P.prog) I.gpc.hs.1 hd' hkv2 h0;obtain ⟨I3,S3⟩:=kn (tk:=s3.toks+1) (I.keeps (k1.trans (k2.trans k3))) hs hk hok.1.1 hm rfl sb hget (.inr ⟨_,_,rfl⟩) rd' (wk hkv2);refine g_ ?_;exact ⟨rfl,own,G,I3,(Stp.kp (k1.trans (k2.trans k3)) [] []).join S3 (λo_ q=>(YJ q).elim) λo_ q=>q⟩
 case dict.tuple kvs l=>
  simp only at hev3;refine aa hev3 λp e4 hev3=>?_;refine aa hev3 λks e5 hev3=>?_;have hb:=(al hev3).1;have hev3:=(al hev3).2;obtain rfl:=Qv hev3;simp only [Qj,QE] at hb;rw [g8 hb.1.2] at rd1;have hv:=rd1.boolE';clear hev3 f2 rd1 hnl hsw he hi hx;subst hv;rw [eQ e4] at rd3;have hcs:cs=[]:=rd3.noAddr (r8 p);subst hcs;refine byG λX_ g_=>?_;obtain ⟨ka,_,_,_,_,_,_,_,rfl,_⟩:=cJ rd3;obtain ⟨a,xs,rfl,has,h0,hd,hkv⟩:=pb (prog:=P.prog) I.gpc.hs.2.1 (rd2.keeps k3.get) e5 hb.1.1;refine g_ ?_;have ea:a=own i:=w2 hio a (by exact has ▸ .head _);subst ea;have hu1:A.in1.units+10 < cLine:=by have:=I.room.units;rw [Around.in1_units];exact uB (by decide) (Qh (QC (QI _ _) (by decide)) this)
  have hlen:xs.length<=sizeLine:=by
   have:=Qf List.length hkv.1;rw [lX] at this;exact this ▸ (QQ hb.2 (by decide))
  refine @wpAny_setItem_heap P.prog P.w StK stDec (eE P.prog P.w P.H) A _ s3 (own i) ka p xs (.bool true) _ hu1 rd3 hd (λh' hd' sb=>?_) hlen;refine byG λX_ g_=>?_;obtain ⟨es,n,hget,rd'⟩:=iO (prog:=P.prog) I.gpc.hs.2.1 hd' (gi hkv) h0;rw [<- lu e5] at rd';obtain ⟨I3,S3⟩:=kn (tk:=s3.toks+(6 * p.2.length+3)) (I.keeps (k1.trans (k2.trans k3))) hs hk hok.1.1 hm rfl sb hget (.inr ⟨_,_,rfl⟩) rd' (by rw [lu e5];exact uH _);refine g_ ?_;exact ⟨rfl,own,G,I3,(Stp.kp (k1.trans (k2.trans k3)) [] []).join S3 (λo_ q=>(YJ q).elim) λo_ q=>q⟩
end
set_option tactic.hygienic true
section
variable {P:Pk}{r:Nat}{c:TC}{ow:List Nat}{fr:Bool}{N:Nat}
theorem kt(hset:isSet iter=false)(hnd:xs.Nodup)(K:CompOk scope c xs)(hi:P.SI r c tgt xs iter it')
 (he:P.SE r ⟨c.names++xs,kindC scope c.kind⟩ elt e') (hc:SIfs P r ⟨c.names++xs,kindC scope c.kind⟩ ifs co) (hs:slotOf c.names x=some i) (hk:c.kind x=some .local\/c.kind x=some .cell) 
 (I:Inv P r c A env ow sc as s m own G) (hok:okS ow (.asg i (.comp e' it' co))=true) (hev:exS P.Φ P.Γ ow fr N (.asg i (.comp e' it' co)) m=some res) (hsw:swapsWith (.ListComp elt [⟨tgt,iter,ifs,0⟩] scope cp) (some (.Name x px)) pos.line env=pure true) :
 wpAny (model P.prog P.w) A (exec (.Assign [.Name x px] (.ListComp elt [⟨tgt,iter,ifs,0⟩] scope cp) pos) env) (PF P r c A env ow sc as fr [i] s m own G res) (λZ Z=>False) s:=by
 simp only [y9,Qj] at hok;simp only [vM] at hev;refine aa hev λd e1 hev=>?_;split at hev
 case isFalse=>exact nN hev
 rename_i hcc;obtain rfl:=Qv hev;rw [exec_Assign_Name_used _ _ _ _ hsw];refine Qd (Yx (Qd ?_));show wpAny _ A (do let _ <- comprehension (.ListComp elt [⟨tgt,iter,ifs,0⟩] scope cp) scope env _ (newList []) false (eval iter env) (some (assign (.Name x px) env))) _ _ s;refine Qd (Qs (lA (Q:=λZ s'=>PF P r c A env ow sc as fr [i] s m own G (.next,setV m i d) .next s') hset hnd K hi he hc I.pre hok.1 e1 λout D0 C s' hd q=>?_) (λZ s' hq=>Qg (Qg hq)) λZ Z z=>z);clear hev e1 hok hsw hc he hi K hnd hset;subst hd;show wpAny _ A (assign (.Name x px) env (.ref D0)) _ _ _;refine Yw ?_;obtain ⟨mC,hn⟩:=q.ns;obtain ⟨bs,rd,hb⟩:=q.rd;have cN:=I.new_ne q.cn;have hCex:∃ o,s'.heap.get? C=some o:=let ⟨o,_,_,e,_⟩:=hn;⟨o,e⟩
 have last:∀ h' tk own' G',Inv P r c A env ow sc as { s' with heap:=h',toks:=tk } (setV m i (.list out)) own' G'->Stp env ow [i] [] s m own G { s' with heap:=h',toks:=tk } (setV m i (.list out)) own' G'->¬ G' C ->
  (∀ j dd,ow.contains j=true->(setV m i (.list out))[j]?=some (some dd)->noList dd=false->own' j ≠ C) ->
  (∀ b o,s'.heap.get? b=some o->b ≠ env.locals->(∀ x,env.cells.lookup x ≠ some b)->h'.get? b=some o) ->
  ∃ m',h'.Ns C m'/\∀ h'',Heap.SameBut C h' h''->PF P r c A env ow sc as fr [i] s m own G (.next,setV m i (.list out)) .next { ({ s' with heap:=h',toks:=tk }:Shared) with heap:=h'' }:=by
  intro h' tk own' G' I' S' hg ho keep;have hn':h'.Ns C mC:=hn.at' λo e=>keep C o e cN.2.1 cN.2.2.1;refine ⟨mC,hn',λh'' hs''=>⟨rfl,own',λa=>G' a\/a ∈ [C],?_,?_⟩⟩
  ·exact I'.walk [C] (λb o hb e=>hs''.extBut b o (by simpa using hb) e) (λb hb=>by exact (Qx hb) ▸ cN.1) (λb hb=>by exact (Qx hb) ▸ (⟨cN.2.1,cN.2.2.1⟩))
    (λb hb o e=>by rw [Qx hb] at e;exact bf hn' o e) (λb hb=>by exact (Qx hb) ▸ (.inl ⟨hg,ho⟩))
  ·refine ⟨λb e=>?_,λb o hb e h1 h2 h3=>hs''.extBut b o ?_ (S'.keep b o hb e h1 h2 h3),λa o e g=>.inl (S'.keepG a o e g),S'.ownS,S'.same⟩
   ·by_cases hb:b=C
    ·exact hb ▸ q.cn
    ·exact S'.live b (by exact (hs''.2 b hb) ▸ e)
   ·rintro rfl;exact nN (q.cn.symm.trans e)
 induction ho:ow.contains i with
 | false=>
  refine dm (Q:=λs2=>∃ m',s2.heap.Ns C m'/\∀ h',Heap.SameBut C s2.heap h'->PF P r c A env ow sc as fr [i] s m own G (.next,setV m i (.list out)) .next { s2 with heap:=h' }) (I.minus q.kp [C] (λa ha=>by exact (Qx ha) ▸ q.cn) (λa ha=>by exact (Qx ha) ▸ hCex)) hs hk rd ho (λa ha=>?_) λh' tk I' S' keep=>?_
  ·rcases Qw ha with rfl | ha
   ·exact ⟨I.new _ q.dn,by simpa using q.dc⟩
   ·exact ⟨(hb a ha).1,by simpa using (hb a ha).2.1⟩
  ·refine last h' tk own _ I' ?_ (λz=>z.2 (.head _)) (λj dd h1 h2 h3=>?_) keep
   ·have K0:Stp env ow [] [] s m own G s' m own (λa=>G a/\a ∉ [C]):=⟨λb e=>q.kp.none e,λb o Z e Z Z Z=>q.kp.get b o e,λa o e g=>⟨g,λz=>by rw [Qx z,q.cn] at e;cases e⟩,λi d Z h1 h2=>.inl ⟨rfl,d,h1,h2⟩,λZ Z=>⟨rfl,rfl⟩⟩
    exact K0.join S' (λZ z=>(YJ z).elim) λZ z=>z
   ·have hji:i ≠ j:=by rintro rfl;exact nF (ho.symm.trans h1)
    rw [aM hji] at h2;exact cN.2.2.2 j dd h1 h2 h3
 | true=>
  rw [ho] at hcc;simp only [Yi,XQ] at hcc;have:bs=[]:=rd.inn_flat hcc;subst this;refine i8 (Q:=λs2=>∃ m',s2.heap.Ns C m'/\∀ h',Heap.SameBut C s2.heap h'->PF P r c A env ow sc as fr [i] s m own G (.next,setV m i (.list out)) .next { s2 with heap:=h' }) [C] I q.kp (λa ha=>by exact (Qx ha) ▸ q.cn) (λa ha=>by exact (Qx ha) ▸ hCex)
   hs hk rd ho hcc (λa ha=>by exact (Qx ha) ▸ q.dn) λh' tk own' G' I' S' x1 x2 keep=>?_
  exact last h' tk own' G' I' S' (x1 C (.head _)) (λj dd h1 h2 h3=>x2 j dd h1 h2 h3 C (.head _) (by simpa using Ne.symm q.dc)) keep
end
set_option tactic.hygienic false
def setL(m:St):List (Nat × D)->St
 | []=>m
 | (i,d)::r=>setL (setV m i d) r
section
variable {P:Pk}{r:Nat}{c:TC}{ow:List Nat}{fr:Bool}{N:Nat}{A:Around}{env:Env}{sc:Shared}{as:List Addr}
theorem InX.back(F:FrOk A env sc base outer)(h:InX P env sc base outer x v s'):notedBy M A env (cameBackBy M A env (PX P env sc base outer (.exc x,m'))) v s':=by
 refine byG λX_ g_=>?_;obtain ⟨⟨cls,n,e,C,dx,tk,h1,h2,rfl,h4,h5,h6,h7,h9⟩,st,ff,up,⟨mm,hns⟩,h8,t8,rfl⟩:=h;refine g_ ?_;refine we F.fr F.loc ff st h5 h6 λha Ha ua=>?_;refine AO F.loc Ha λhb Hb ub=>?_;exact ⟨⟨cls,n,e,C,dx,tk,h1,h2,rfl,h4,h5,.inr (.inr Hb.tr),(ua.trans ub).ns h7,h9⟩,Hb.st,Hb.fr,up.trans (ua.trans ub),⟨mm,(ua.trans ub).ns hns⟩,hb,t8,rfl⟩
structure Slots(c:TC)(ow:List Nat)(xs:List Str)(sl:List Nat):Prop where
 len:sl.length=xs.length
 at':∀ (j:Nat) (x:Str) (i:Nat),xs[j]?=some x->sl[j]?=some i->slotOf c.names x=some i/\(c.kind x=some .local\/c.kind x=some .cell)/\ow.contains i=false
theorem Slots.tail(h:Slots c ow (x::xs) (i::sl)):Slots c ow xs sl:=
 ⟨by simpa using h.len,λj y k h1 h2=>h.at' (j+1) y k (h1) (h2)⟩
theorem dN:∀ {xs:List Str} {sl:List Nat} {vals:List Value} {ds:List D} {bs:List Addr} {s:Shared} {m:St} {own:Nat->Addr} {G:Addr->Prop} {Q:Shared->Prop},Slots c ow xs sl->Inv P r c A env ow sc as s m own G->vals.length=xs.length->RdAll P.H s.heap vals ds bs->(∀ a ∈ bs,G a) ->
 (∀ h' tk,Inv P r c A env ow sc as { s with heap:=h',toks:=tk } (setL m (sl.zip ds)) own G->Stp env ow sl [] s m own G { s with heap:=h',toks:=tk } (setL m (sl.zip ds)) own G->(∀ b o,s.heap.get? b=some o->b ≠ env.locals->(∀ x,env.cells.lookup x ≠ some b)->h'.get? b=some o)->Q { s with heap:=h',toks:=tk }) ->
 iY (model P.prog P.w) A env (xs.zip vals) Q s:=by
 intro xs;induction xs with
 | nil=>
  intro sl vals ds bs s m own G Q hS I hl rd hg h;have:sl=[]:=ZA.mp (hS.len);subst this;exact h s.heap s.toks I (Stp.refl ..) λo_ Z e Z Z=>e
 | cons x xs dN=>
  intro sl vals ds bs s m own G Q hS I hl rd hg h;induction sl using lc with
  | nil=>have:=hS.len;cases this
  | cons i sl=>
  induction vals using lc with
  | nil=>cases hl
  | cons v vals=>
  cases rd with
  | @cons _ _ d ds a1 a2 r1 r2=>
  obtain ⟨h1,h2,h3⟩:=hS.at' 0 x i rfl rfl;show wpAny _ A (storeName env x v) _ _ s;refine dm (Q:=λs'=>iY (model P.prog P.w) A env (xs.zip vals) Q s') I h1 h2 r1 h3 (λa ha=>hg a (Q6 _ ha)) λh' tk I' S' keep=>?_;have hg2:∀ a ∈ a2,G a:=λa ha=>hg a (Zy _ ha);have r2':RdAll P.H h' vals ds a2:=by
   refine r2.but (λb=>b=env.locals\/∃ y,env.cells.lookup y=some b) (λb o hb e=>keep b o e (λq=>hb (.inl q)) λy q=>hb (.inr ⟨y,q⟩)) (λb o hb e=>?_) λa ha hb=>?_
   ·rcases hb with rfl | ⟨y,q⟩
    ·obtain ⟨mm,hn⟩:=I.ns;exact bf hn o e
    ·obtain ⟨w,hc⟩:=I.cl y b q;exact ca hc o e
   ·rcases hb with rfl | ⟨y,q⟩
    ·exact I.gL (hg2 _ ha)
    ·exact I.gC y a q (hg2 a ha)
  refine dN hS.tail I' (by simpa using hl) r2' hg2 λh'' tk' I'' S'' keep'=>?_;exact h h'' tk' I'' (S'.join S'' (λi q=>by exact (Qx q) ▸ .head _) λi q=>.tail _ q) λb o e q1 q2=>keep' b o (keep b o e q1 q2) q1 q2
set_option tactic.hygienic true in
theorem pP(hx:isX res=true->FrOk A env sc base outer)(hc:catSs body'=true->TopF A env)(hset:isSet iter=false)(hS:Slots c ow xs sl)
 (hi:P.SI r c tgt xs iter it') (hb:SSs P r c ow fr N body body') (I:Inv P r c A env ow sc as s m own G) (ok1:okIt ow it'=true) (ok2:okSs ow body'=true) (ok3:gm ow it' (tchSs body')=true) (hz:cz it'=false)
 (ev:evIt P.Φ P.Γ it' m=some items) (evf:forL (λvs m=>if vs.length=sl.length then exSs P.Φ P.Γ ow fr N body' (setL m (sl.zip vs)) else none) items m=some res) :
 wpAny (model P.prog P.w) A (exec (.For tgt iter body [] pos) env) (PF P r c A env ow sc as fr (sl++tchSs body') s m own G res) (PX P env sc base outer res) s:=by
 refine wpAny_For ?_ (fv hset);refine Qs (hi A env s m ow own G items I.pre ok1 ev) (λxv sx q=>Qs q (λitv s₂ q2=>?_) λo_ Z z=>z.elim) λo_ Z z=>z.elim;obtain ⟨s₁,It,fp,wr,Pv,S,rfl,O⟩:=q2;have I1:=I.keeps O.k1;have wn:∀ b ∈ wr,_:=λb hb=>I1.new_ne (O.wnew b hb);have fpF:∀ b ∈ fp,b ≠ env.locals/\∀ y,env.cells.lookup y ≠ some b:=λb hb=>by
  rcases O.pin b hb with q | ⟨o,e,⟨vs,n,q⟩ | ⟨g,_⟩ | ⟨i,_,hi,rfl,xs,hm⟩⟩
  ·exact ⟨(I1.new_ne q).2.1,(I1.new_ne q).2.2.1⟩
  ·refine ⟨?_,λy z=>?_⟩
   ·rintro rfl;obtain ⟨mm,hn⟩:=I1.ns;exact bf hn o e vs n q
   ·obtain ⟨w,hc⟩:=I1.cl y b z;exact ca hc o e vs n q
  ·exact ⟨λz=>I.gL (z ▸ g),λy z=>I.gC y b z g⟩
  ·exact ⟨((I.oG i _ hi hm rfl).2.2.1),((I.oG i _ hi hm rfl).2.2.2.1)⟩
 have fpO:∀ b ∈ fp,∀ i d,i ∈ tchSs body'->ow.contains i=true->m[i]?=some (some d)->noList d=false->b ≠ own i:=λb hb i d hi ho hm hd=>by
  rcases O.pin b hb with q | ⟨o,e,⟨vs,n,q⟩ | ⟨g,_⟩ | ⟨j,hj,hoj,rfl,xs,hmj⟩⟩
  ·exact Ne.symm ((I1.new_ne q).2.2.2 i d ho hm hd)
  ·rintro rfl
   obtain ⟨_,_,_,_,o',e',q5⟩:=I1.oG i d ho hm hd;rw [e] at e';obtain rfl:=Qv e';rcases q5 with ⟨vs',n',z⟩ | ⟨vs',n',z⟩
   ·rw [q] at z;exact absurd (Qf Obj.cls z) (by show ¬ (Value.type "tuple" = Value.type "list");decide)
   ·rw [q] at z;exact absurd (Qf Obj.cls z) (by show ¬ (Value.type "tuple" = Value.type "dict");decide)
  ·rintro rfl;exact (I.oG i d ho hm hd).1 g
  ·refine I.oD j i _ d ?_ hoj ho hmj hm rfl hd
   rintro rfl;unfold gm at ok3;have:=ZK.mp ok3 _ hj;simp at this;exact this hi
 have walkI:∀ (s':Shared) (mk:St) (ownk:Nat->Addr) (Gk:Addr->Prop) (k:Nat) (h':Heap) (tk:Nat),S k s'.heap->Inv P r c A env ow sc as s' mk ownk Gk->(∀ b o,b ∉ wr->s'.heap.get? b=some o->h'.get? b=some o)->Inv P r c A env ow sc as { s' with heap:=h',toks:=tk } mk ownk (λa=>Gk a\/a ∈ wr):=
  λs' mk ownk Gk k h' tk hSk Ik hk=>Ik.walk wr hk (λb hb=>(wn b hb).1) (λb hb=>⟨(wn b hb).2.1,(wn b hb).2.2.1⟩)
   (λb hb o e vs n q=>by
    obtain ⟨o',e',h2,_⟩:=O.live k _ hSk b hb;rw [e] at e';obtain rfl:=Qv e'
    exact h2 hz (by rw [q]))
   (λb hb=>.inr λo e=>by
    obtain ⟨o',e',_,h3,h4⟩:=O.live k _ hSk b hb;rw [e] at e';obtain rfl:=Qv e'
    exact ⟨h3,h4⟩)
 let LI:Nat->Shared->Prop:=λn s'=>∃ k mk ownk Gk,n+k=items.length/\S k s'.heap/\Inv P r c A env ow sc as s' mk ownk Gk/\Stp env ow (sl++tchSs body') wr s₂ m own G s' mk ownk Gk /\
  forL (λvs m=>if vs.length=sl.length then exSs P.Φ P.Γ ow fr N body' (setL m (sl.zip vs)) else none) (items.drop k) mk=some res
 refine codeAny_forLoop_any LI (λn s' hLI=>?_) items.length ⟨0,m,own,G,by exact Eq.refl (items.length+0),O.st,(I1.keeps O.k2),Stp.refl ..,by exact evf⟩;obtain ⟨k,mk,ownk,Gk,hnk,hSk,Ik,Sk,hev⟩:=hLI
 by_cases hlt:k < items.length
 ·obtain ⟨ds,hds⟩:∃ ds,items[k]?=some ds:=⟨items[k],Qk hlt⟩
  rw [List.drop_eq_getElem_cons hlt] at hev;have hds':items[k]=ds:=by rw [Qk hlt] at hds;exact Qv hds
  rw [hds'] at hev;simp only [gd] at hev
  have key:=O.T.item k s' env (λs₃=>wpAny (model P.prog P.w) A (execs body env) (λf s₄=>match f with
   | .next | .cont=>∃ m,m < n/\LI m s₄
   | .brk=>PF P r c A env ow sc as fr (sl++tchSs body') s m own G res .next s₄
   | .ret v=>PF P r c A env ow sc as fr (sl++tchSs body') s m own G res (.ret v) s₄) (notedBy (model P.prog P.w) A env (cameBackBy (model P.prog P.w) A env (PX P env sc base outer res))) s₃) hlt hSk ?_
  ·refine Qs key (λrr s₃ q=>?_) λo_ Z z=>z.elim
   induction rr with
   | none=>exact q.elim
   | some v=>
    refine Qs q (λo_ s₄ q=>Qs q (λo_ s₅ q=>Qs q (λf s₆ q=>?_) λo_ Z z=>z) λo_ Z z=>z.elim) λo_ Z z=>z.elim;induction f<;>exact q
  ·intro vals h2 tk2 hPv hlen hS2 hk2
   obtain ⟨ds2,vas,e2,rdv,hgv⟩:=O.vals k vals hlt hPv;rw [hds] at e2;obtain rfl:=Qv e2;have Sw:Stp env ow [] wr s' mk ownk Gk { s' with heap:=h2,toks:=tk2 } mk ownk (λa=>Gk a\/a ∈ wr):=by
    refine ⟨λb e=>?_,λb o hb e Z Z Z=>hk2 b o hb e,λo_ Z Z g=>.inl g,λi d Z h1 h2=>.inl ⟨rfl,d,h1,h2⟩,λo_ Z=>⟨rfl,rfl⟩⟩
    by_cases hb:b ∈ wr
    ·obtain ⟨o,q,_⟩:=O.live _ _ hS2 b hb
     exact nS ((show h2.get? b=_ from q).symm.trans e)
    ·induction q:s'.heap.get? b with
     | none=>rfl
     | some o=>exact nS ((show h2.get? b=_ from hk2 b o hb q).symm.trans e)
   have rdv2:RdAll P.H h2 vals ds vas:=by
    refine rdv.mono' λa o e q=>?_;have nw:a ∉ wr:=λz=>by exact nN ((O.wnew a z).symm.trans e)
    refine hk2 a o nw (Sk.keep a o nw (O.k2.get a o e) ?_ ?_ λi d Z ho hm hd=>?_)
    ·rintro rfl
     rcases q with ⟨vs,n,q⟩ | q
     ·obtain ⟨mm,hn⟩:=I1.ns;exact bf hn o e vs n q
     ·exact I.gL (hgv _ q)
    ·intro y z
     rcases q with ⟨vs,n,q⟩ | q
     ·obtain ⟨w,hc⟩:=I1.cl y a z;exact ca hc o e vs n q
     ·exact I.gC y a z (hgv a q)
    ·rintro rfl
     obtain ⟨h1,_,_,_,o',e',q5⟩:=I1.oG i d ho hm hd;rcases q with ⟨vs,n,q⟩ | q
     ·rw [e] at e';obtain rfl:=Qv e'
      rcases q5 with ⟨vs',n',z⟩ | ⟨vs',n',z⟩
      ·rw [q] at z;exact absurd (Qf Obj.cls z) (by show ¬ (Value.type "tuple" = Value.type "list");decide)
      ·rw [q] at z;exact absurd (Qf Obj.cls z) (by show ¬ (Value.type "tuple" = Value.type "dict");decide)
     ·exact h1 (hgv _ q)
   have hgk:∀ a ∈ vas,Gk a\/a ∈ wr:=λa ha=>by
    obtain ⟨o,e,_⟩:=rdv.old a ha;exact .inl (Sk.keepG a o (O.k2.get a o e) (hgv a ha))
   refine dN hS (walkI s' mk ownk Gk k h2 tk2 hSk Ik hk2) hlen rdv2 hgk λh3 tk3 I3 S3 keep3=>?_;have S23:=(Sk.join Sw (λo_ q=>q) λo_ q=>(YJ q).elim).join (S3.weaken (λo_ q=>q) λo_ q=>(YJ q).elim) (t:=sl++tchSs body') (λo_ q=>q) (λo_ q=>Q6 _ q);have hlen2:ds.length=sl.length:=by rw [<- rdv2.length,hlen,hS.len]
   induction hbv:exSs P.Φ P.Γ ow fr N body' (setL mk (sl.zip ds)) with
   | none=>exact nN (hbv ▸ (Ql hlen2) ▸ hev)
   | some r1=>
    rw [Ql hlen2,hbv] at hev;obtain ⟨fl,m4⟩:=r1;induction fl with
    | exc d=>
     simp only [Qc] at hev;clear hlen2 S3 hgk rdv2 Sw rdv hgv hlen hPv hds' hds wn I1 evf ev hz ok3 ok1 I hS hset;subst hev;exact Qs (hb A env sc as _ _ ownk _ _ base outer I3 ok2 hbv hx hc) (λf s4 hf=>hf.elim) λv s4 z=>InX.back (hx rfl) z
    | ret d=>
     refine Qs (hb A env sc as _ _ ownk _ _ base outer I3 ok2 hbv nF hc) (λf s4 hf=>?_) λo_ Z z=>z.elim;simp only [Qc] at hev;clear hlen2 S3 hgk rdv2 Sw rdv hgv hlen hPv hds' hds wn I1 evf ev hz ok3 ok1 I hS hset hx;subst hev;obtain ⟨v,rfl,h2⟩:=hf;exact ⟨v,rfl,h2⟩
    | next=>
     refine Qs (hb A env sc as _ _ ownk _ _ base outer I3 ok2 hbv nF hc) (λf s4 hf=>?_) λo_ Z z=>z.elim;obtain ⟨rfl,own4,G4,I4,S4⟩:=hf;simp only at hev;refine ⟨n - 1,by exact (mU hnk hlt).1,k+1,m4,own4,G4,by exact (mU hnk hlt).2,?_,I4,S23.join (S4.weaken (λo_ q=>q) λo_ q=>(YJ q).elim) (λo_ q=>q) (λo_ q=>Zy _ q),hev⟩;refine O.T.frame _ _ _ (O.T.frame _ _ _ hS2 λb hb o e=>keep3 b o e (fpF b hb).1 (fpF b hb).2) λb hb' o e=>S4.keep b o (λq=>(YJ q).elim) e (fpF b hb').1 (fpF b hb').2 λi d hi ho hm hd=>?_;rcases S23.ownS i d ho hm hd with ⟨q,d0,q1,q2⟩ | q
     ·exact q ▸ fpO b hb' i d0 hi ho q1 q2
     ·rintro rfl
      obtain ⟨o2,e2⟩:=O.obj _ hb';exact nS (e2.symm.trans q)
 ·have hk:k=items.length:=by exact Nat.le_antisymm (hnk ▸ Nat.le_add_left k n) (Z4.mp hlt)
  subst hk;refine Qs (O.T.done s' (λrr s3=>rr=none/\PF P r c A env ow sc as fr (sl++tchSs body') s m own G res .next s3) hSk λh2 tk2 hk2=>⟨rfl,?_⟩) (λrr s3 q=>?_) λo_ Z z=>z.elim
  ·simp only [List.drop_length,yd,Qc] at hev
   clear hlt hnk fpO fpF wn I1 evf ev hz ok3 ok2 ok1 I hi hS hset hc hx;subst hev;refine ⟨rfl,ownk,_,(walkI s' mk ownk Gk _ h2 tk2 hSk Ik hk2),⟨λb e=>?_,λb o Z e h1 h2' h3=>?_,λa o e g=>.inl (Sk.keepG a o ((O.k1.trans O.k2).get a o e) g),λi d ho hm hd=>?_,Sk.same⟩⟩
   ·by_cases hb:b ∈ wr
    ·exact O.k1.none (O.wnew b hb)
    ·refine (O.k1.trans O.k2).none (Sk.live b ?_)
     induction q:s'.heap.get? b with
     | none=>rfl
     | some o=>exact nS ((show h2.get? b=_ from hk2 b o hb q).symm.trans e)
   ·have nw:b ∉ wr:=λz=>by exact nN ((O.k1.none (O.wnew b z)).symm.trans e)
    exact hk2 b o nw (Sk.keep b o nw ((O.k1.trans O.k2).get b o e) h1 h2' h3)
   ·rcases Sk.ownS i d ho hm hd with q | q
    ·exact .inl q
    ·exact .inr ((O.k1.trans O.k2).none q)
  ·obtain ⟨rfl,q⟩:=q
   exact Yp q
set_option tactic.hygienic true in
theorem eu(h:∀ vs m,f vs m=g vs m):∀ (items:List (List D)) (m:St),forL f items m=forL g items m
 | [],_=>rfl
 | vs::r,m=>by
  simp only [gd,h];induction g vs m with
  | none=>rfl
  | some q=>
   obtain ⟨fl,m'⟩:=q;induction fl with
   | next=>exact eu h r m'
   | ret d=>rfl
   | exc d=>rfl
set_option tactic.hygienic true in
theorem wH(hset:isSet iter=false)(hs:slotOf c.names x=some i)(hk:c.kind x=some .local\/c.kind x=some .cell)(hi:P.SI r c tgt [x] iter it')(hb:SSs P r c ow fr N body body') :
 SS P r c ow fr N (.For tgt iter body [] pos) (.for1 i it' body'):=by
 intro A env sc as s m own G res base outer I hok hev hx hc;simp only [zb,Qj,QS] at hok;rw [n7] at hev;refine byG λX_ g_=>?_;refine aa hev λitems e1 hev=>?_;refine g_ ?_;split at hev
 ·exact nN hev
 rename_i hz;refine pP (sl:=[i]) hx hc hset ⟨rfl,λj y k h1 h2=>?_⟩ hi hb I hok.1.1.1 hok.1.2 hok.2 (by simpa using hz) e1 ?_
 ·induction j using nc with
  | zero=>simp at h1 h2;subst h1;subst h2;exact ⟨hs,hk,hok.1.1.2⟩
  | succ j=>exact nN h1
 ·rw [<- hev]
  refine eu (λvs m=>?_) _ _
  match vs with
  | []=>rfl
  | [d]=>rfl
  | _::_::_=>rfl
set_option tactic.hygienic true in
theorem wI(hset:isSet iter=false)(hs:slotOf c.names x=some i)(hk:c.kind x=some .local\/c.kind x=some .cell)(hs2:slotOf c.names y=some j)(hk2:c.kind y=some .local\/c.kind y=some .cell)
 (hi:P.SI r c tgt [x,y] iter it') (hb:SSs P r c ow fr N body body'):SS P r c ow fr N (.For tgt iter body [] pos) (.for2 i j it' body'):=by
 intro A env sc as s m own G res base outer I hok hev hx hc;simp only [zc,Qj,QS] at hok;rw [n8] at hev;refine aa hev λitems e1 hev=>?_;split at hev
 ·exact nN hev
 rename_i hz;refine pP (sl:=[i,j]) hx hc hset ⟨rfl,λq y' k h1 h2=>?_⟩ hi hb I hok.1.1.1.1 hok.1.2 hok.2 (by simpa using hz) e1 ?_
 ·match q with
  | 0=>simp at h1 h2;subst h1;subst h2;exact ⟨hs,hk,hok.1.1.1.2⟩
  | 1=>simp at h1 h2;subst h1;subst h2;exact ⟨hs2,hk2,hok.1.1.2⟩
  | q+2=>exact nN h1
 ·rw [<- hev]
  refine eu (λvs m=>?_) _ _
  match vs with
  | []=>rfl
  | [d]=>rfl
  | [d,e]=>rfl
  | _::_::_::_=>rfl
set_option tactic.hygienic true in
theorem sJ(ht:P.ST r c test q)(hb:SSs P r c ow fr N body b):SS P r c ow fr N (.While test body [] pos) (.wh q b):=by
 intro A env sc as s m own G res base outer I hok hev hx hc;simp only [k_wh,Qj] at hok;simp only [e_wh] at hev;refine wpAny_While ?_
 let LI:Nat->Shared->Prop:=λn s'=>∃ mk ownk Gk,Inv P r c A env ow sc as s' mk ownk Gk/\Stp env ow (tchSs b) [] s m own G s' mk ownk Gk/\whL (λm=>(evE P.Φ P.Γ q m).bind truth) (λm=>exSs P.Φ P.Γ ow fr N b m) n mk=some res
 refine codeAny_whileLoop LI (λn s' hLI=>?_) N ⟨m,own,G,I,Stp.refl ..,hev⟩;obtain ⟨mk,ownk,Gk,Ik,Sk,hev⟩:=hLI;induction n using nc with
 | zero=>exact nN hev
 | succ n=>
  simp only [vG] at hev;induction hcq:(evE P.Φ P.Γ q mk).bind truth with
  | none=>exact nN (hcq ▸ hev)
  | some bb=>
   rw [hcq] at hev;refine aa hcq λd e1 e2=>?_;refine Qs (ST.use (Q:=λb' s2=>b'=bb/\Kp s' s2) ht Ik.pre hok.1 e1 e2 λs2 k=>⟨rfl,k⟩) (λb' s2 z=>?_) λo_ Z z=>z.elim;clear e2 e1 hcq hx I ht;obtain ⟨rfl,k⟩:=z;induction b' with
   | false=>
    simp only [Qc] at hev;subst hev;exact Yp ⟨rfl,ownk,Gk,Ik.keeps k,Sk.join (Stp.kp k [] []) (λo_ q=>q) λo_ q=>(YJ q).elim⟩
   | true=>
    simp only at hev;induction hbv:exSs P.Φ P.Γ ow fr N b mk with
    | none=>exact nN (hbv ▸ hev)
    | some r1=>
     rw [hbv] at hev;obtain ⟨fl,m4⟩:=r1;induction fl with
     | exc d=>exact nN hev
     | ret d=>
      refine Qs (hb A env sc as s2 mk ownk Gk _ base outer (Ik.keeps k) hok.2 hbv nF hc) (λf s3 hf=>?_) λo_ Z z=>z.elim;simp only [Qc] at hev;subst hev;obtain ⟨v,rfl,h2⟩:=hf;exact ⟨v,rfl,h2⟩
     | next=>
      refine Qs (hb A env sc as s2 mk ownk Gk _ base outer (Ik.keeps k) hok.2 hbv nF hc) (λf s3 hf=>?_) λo_ Z z=>z.elim;obtain ⟨rfl,own4,G4,I4,S4⟩:=hf;simp only at hev;exact ⟨n,QA n,m4,own4,G4,I4,(Sk.join (Stp.kp k [] []) (t:=tchSs b) (λo_ q=>q) λo_ q=>(YJ q).elim).join S4 (λo_ q=>q) (λo_ q=>q),hev⟩
end
set_option tactic.hygienic true
section
variable {P:Pk}{r:Nat}{c:TC}{ow:List Nat}{fr:Bool}{N:Nat}
theorem zi(hlp:P.lp=true){x y v:Str}{i j:Nat}{e':Ex}{px py pv pos tp:Pos}{tb:Nat}(hs:slotOf c.names x=some i)(hk:c.kind x=some .local\/c.kind x=some .cell)(hs2:slotOf c.names y=some j)(hk2:c.kind y=some .local\/c.kind y=some .cell)(he:P.SE r c (.Name v pv) e') :
 SS0 P r c ow fr N (.Assign [.Tuple [.Name x px,.Name y py] tb tp] (.Name v pv) pos) (.unp i j e'):=by
 intro A env sc as s m own G res I hok hev;simp only [A4,Qj,QS] at hok;rw [AJ] at hev;refine aa hev λd e1 hev1=>?_;clear hev;obtain ⟨⟨a,b⟩,e2,rfl⟩:=ad hev1;rw [mH e2] at e1;refine wpAny_Assign_stores (SE.us he I.pre hok.1.1.1 e1 λv s1 k1 bs rd g1 Z Z Z=>?_) rfl rfl;cases rd using Rd.tupleE with
 | @mk t vs n as' ho hz ra=>
  have hl2:=ra.length;obtain ⟨va,vb,hv⟩:∃ va vb,vs.toList=[va,vb]:=by
   match hq:vs.toList with
   | [va,vb]=>exact ⟨va,vb,rfl⟩
   | []=>rw [hq] at hl2;simp at hl2
   | [_]=>rw [hq] at hl2;simp at hl2
   | _::_::_::_=>rw [hq] at hl2;simp at hl2
  rw [hv] at ra;have hsz:vs.size=2:=by rw [<- QJ,hv];rfl
  show wpAny _ _ (assign (.Tuple [.Name x px,.Name y py] tb tp) env (.ref t)) _ _ _;refine wpAny_assign_Tuple (I.room.hd hlp) ⟨_,ho,rfl,_,rfl⟩ (by exact hsz ▸ rfl) rfl λh' ext=>?_;have k2:Kp s1 { s1 with heap:=h' }:=Kp.heap s1 h' λb o e=>ext b o (QM (Q3 e)) e;rw [hv]
  have st:=dN (P:=P) (r:=r) (c:=c) (A:=A) (env:=env) (ow:=ow) (sc:=sc) (as:=as) (xs:=[x,y]) (sl:=[i,j]) (vals:=[va,vb]) (Q:=λs'=>PF P r c A env ow sc as fr [i,j] s m own G (.next,setV (setV m i a) j b) .next s') ⟨rfl,λq y' k h1 h2=>by
   match q with
   | 0=>simp at h1 h2;subst h1;subst h2;exact ⟨hs,hk,hok.1.2⟩
   | 1=>simp at h1 h2;subst h1;subst h2;exact ⟨hs2,hk2,hok.2⟩
   | q+2=>simp at h1⟩ (I.keeps (k1.trans k2)) rfl (ra.keeps k2.get) (g1 (by simpa [nm] using hok.1.1.2)) (λh2 tk2 I3 S3 Z=>⟨rfl,own,G,I3,(Stp.kp (k1.trans k2) [] []).join S3 (λo_ q=>(YJ q).elim) λo_ q=>q⟩)
  refine PyProof.Rows.assignInOrder_cons (Yw (Qs st (λo_ s3 h3=>?_) λo_ Z z=>z));refine PyProof.Rows.assignInOrder_cons (Yw (Qs h3 (λo_ s4 h4=>?_) λo_ Z z=>z));exact PyProof.Rows.assignInOrder_nil h4
end
set_option tactic.hygienic false
section
variable {P:Pk}{r:Nat}{c:TC}{ow:List Nat}{fr:Bool}{N:Nat}{A:Around}{env:Env}{sc:Shared}{as:List Addr}{s:Shared}{m:St}{own:Nat->Addr}{G:Addr->Prop}{base:Heap}{outer:List Env}
theorem Inv.bas(I:Inv P r c A env ow sc as s m own G)(F:FrOk A env sc base outer):base.StaysIn s.heap:=λb o e=>I.kp.get b o (F.st b o e)
theorem Inv.newL(I:Inv P r c A env ow sc as s m own G)(F:FrOk A env sc base outer):base.get? env.locals=none:=by
 induction q:base.get? env.locals with
 | none=>rfl
 | some o=>have:=F.st _ _ q;exact nN (I.nL.symm.trans this)
theorem Inv.ffs(I:Inv P r c A env ow sc as s m own G)(F:FrOk A env sc base outer):s.heap.FunFrames base (env::outer):=by
 obtain ⟨mm,hn⟩:=I.ns;exact .cons (by rw [I.er.fn];decide) F.loc hn (I.newL F) (F.ff.of_keeps λb o e Z=>⟨o,I.kp.get b o e,rfl⟩)
theorem Inv.below(I:Inv P r c A env ow sc as s m own G)(F:FrOk A env sc base outer):PyProof.Rows.Below A base (env::outer) s.heap:=⟨F.fr,I.bas F,I.ffs F⟩
theorem pQ(hb:base.StaysIn h)(e:h.get? a=none):base.get? a=none:=by
 induction q:base.get? a with
 | none=>rfl
 | some o=>exact nS ((hb _ _ q).symm.trans e)
theorem Kp.sh(k:Kp s s')(h:Heap)(t:Nat):∃ h' t',({ s' with heap:=h,toks:=t }:Shared)={ s with heap:=h',toks:=t' }:=by
 obtain ⟨h1,t1,rfl,_⟩:=k;exact ⟨h,t,rfl⟩
theorem Inv.ne_new(I:Inv P r c A env ow sc as s m own G)(e:s.heap.get? a=none):a ≠ env.locals:=by
 rintro rfl;obtain ⟨_,o,_,_,q,_⟩:=I.ns;exact nS (q.symm.trans e)
theorem zj{x:Str}(hlp:P.lp=true)(hx:x ∈ exN)(hk:c.kind x=some .globalImplicit)(hd:x ≠ ("__debug__" : Str))(hst:isStar arg=false)(ha:P.SE r c arg a):SS P r c ow fr N (.Raise (some (.Call (.Name x np) [arg] [] cpos)) none pos) (.rse x a):=by
 intro A env sc as s m own G res base outer I hok hev hF _;rw [ym] at hev;refine byG λX_ g_=>?_;refine aa hev λd e1 hev=>?_;obtain ⟨n,e2,rfl⟩:=ad hev;refine have e2:=aY e2;?_;clear hev;subst e2;refine have F:=hF rfl;?_;obtain ⟨fI,hI,hxs⟩:=I.pre.gp.ex;obtain ⟨C,bm,h1,h2,h3⟩:=hxs x hx;refine g_ ?_;refine oH (C:=C) (bm:=bm) (fI:=fI) PySem.F.excBase_ValueError (I.room.hd hlp) (Qh (ZQ (QQ (by decide:1<=60) (Nat.le_add_left _ _)) _) (Nat.add_assoc .. ▸ I.room.depth)) hst (cB I.pre hk hd h1 ⟨rfl,Qs (SE.us (Q:=λv s₂=>OwnX s₂.heap C bm fI/\InitX s₂.heap fI/\s₂.heap.NoLimit/\∀ h' tk e dx,MadeX s₂.heap h' e C dx v->PX P env sc base outer (.exc (xD x n),m) (.ref e) { s₂ with heap:=h',toks:=tk }) ha I.pre hok e1 λv s1 k bs rd g1 g2 g3 g4=>⟨h2.keeps k.get,hI.keeps k.get,I.pre.gp.nolimit.keeps k.get,λh' tk e dx mm=>?_⟩) (λo_ Z z=>z) λo_ Z z=>z.elim⟩);cases rd using Rd.intE with
 | mk t=>
  refine have I1:=I.keeps k;?_;obtain ⟨t0,ho⟩:=mm.ob;refine ⟨⟨x,n,e,C,dx,t,rfl,hx,rfl,h1,pQ (I1.bas F) mm.new,.inl ⟨_,_,⟨ho,rfl,rfl,rfl⟩,rfl⟩,mm.ns,I1.kp.none mm.new,I1.kp.none mm.newd,I1.ne_new mm.newd⟩,λb o q=>mm.keeps b o (I1.bas F b o q),(I1.ffs F).of_keeps λb o q Z=>⟨o,mm.keeps b o q,rfl⟩,.of_keeps λb o q=>mm.keeps b o (I1.kp.get b o q),I1.ns.imp λo_ z=>z.keeps mm.keeps,I1.kp.sh h' tk⟩
theorem lF{f:Str}(hΦ:P.FnOk r)(hX:P.FnX r)(hfr:P.fr f=some fr')(hk:c.kind f=some .globalImplicit)(hd:f ≠ ("__debug__" : Str))(hne:args ≠ [])(h:SEL P r c args es')
 (hdef:∃ q,P.defs f=some q) (I:Inv P r c A env ow sc as s m own G) (hok:okEs ow es'=true) (e1:evEs P.Φ P.Γ es' m=some ds) 
 (hq:∀ d,P.Φ f ds=some d->∀ v s',Kp s s'->∀ bs,Rd P.H s'.heap v d bs->Q v s') (hn:P.Φ f ds=none->∃ x,P.Φ (exn f) ds=some x/\FrOk A env sc base outer/\∀ v s',InX P env sc base outer x v s'->E v s') :
 wpAny (model P.prog P.w) A (eval (.Call (.Name f pf) args [] cpos) env) Q E s:=by
 refine byG λX_ g_=>?_;obtain ⟨q,hq'⟩:=hdef;obtain ⟨fa,o,pm,code,doc,h1,h2,h3,_⟩:=I.pre.gp.fn f q hq';refine g_ ?_;refine ZH (cB I.pre hk hd h1 ?_);cases h with
 | nil=>exact absurd rfl hne
 | @cons e e' es es'' hs hse hst hr=>
  refine PyProof.Rows.callWith_def h3 ?_ (ak hs _ env);refine Qs (b7 (Q:=λvs s1=>s1.heap.get? fa=some o/\wpAny (model P.prog P.w) A (call (.ref fa) vs) Q E s1) (.cons hs hse hst hr) I.pre hok e1 λvs s1 as1 k rs g=>?_) (λo_ Z z=>z) λo_ Z z=>z.elim;refine ⟨k.get _ _ h2,?_⟩;refine have I1:=I.keeps k;?_;induction hv:P.Φ f ds with
  | some d=>
   refine byG λX_ g_=>?_;obtain ⟨fa',o',fd,g1,g2,g3,hw⟩:=hΦ f fr' hfr A s1 vs ds as1 d I.room I1.pre.gp rs hv;refine g_ ?_;rw [h1] at g1;obtain rfl:=Value.ref.inj (Qv g1);refine Qs hw (λv s' q=>?_) λo_ Z x=>x.elim;obtain ⟨k2,bs,rd,_⟩:=q;exact hq d hv v s' (k.trans k2) bs rd
  | none=>
   refine byG λX_ g_=>?_;obtain ⟨x,hxv,F,he⟩:=hn hv;obtain ⟨fa',o',fd,g1,g2,g3,hw⟩:=hX f fr' hfr A s1 vs ds as1 x base (env::outer) I.room I1.pre.gp rs hxv (I1.below F);refine g_ ?_;rw [h1] at g1;obtain rfl:=Value.ref.inj (Qv g1);refine Qs hw (λv s' q=>q.elim) λv s' q=>he v s' ?_;refine byG λX_ g_=>?_;obtain ⟨⟨cls,n,e,C,dx,tk,a1,a2,rfl,a4,H,a6,a7,a8⟩,up,h8,t8,rfl⟩:=q;refine g_ ?_;exact ⟨⟨cls,n,e,C,dx,tk,a1,a2,rfl,a4,H.new,.inr (.inl H.tr),a6,I1.kp.none a7,I1.kp.none a8,I1.ne_new a8⟩,H.st,H.fr,(Heap.UpToSlots.of_keeps I1.kp.get).trans up,I1.ns.imp λo_ z=>up.ns z,I1.kp.sh h8 t8⟩
theorem zk{f:Str}(hΦ:P.FnOk r)(hX:P.FnX r)(hfr:P.fr f=some fr')(hk:c.kind f=some .globalImplicit)(hd:f ≠ ("__debug__" : Str))(hne:args ≠ [])(h:SEL P r c args es')
 (hdef:∃ q,P.defs f=some q):SS P r c ow fr N (.Expr (.Call (.Name f pf) args [] cpos) pos) (.exr f es'):=by
 intro A env sc as s m own G res base outer I hok hev hF _;rw [n9] at hev;refine aa hev λds e1 hev2=>?_;refine YE ?_ (by unfold interactive;exact I.er.fn ▸ rfl) rfl;refine lF (base:=base) (outer:=outer) hΦ hX hfr hk hd hne h hdef I hok e1 (λd hv v s' k bs rd=>?_) λhv=>?_
 ·rw [hv] at hev2
  clear rd e1 hev hok hdef h hne hd hk hfr hX hΦ;obtain rfl:=Qv hev2;exact ⟨rfl,own,G,I.keeps k,Stp.kp k _ _⟩
 ·rw [hv] at hev2
  clear hv e1 a hev hok I hdef h hne hd hk hfr hX hΦ;obtain ⟨x,hxv,rfl⟩:=ad hev2;exact ⟨x,hxv,hF rfl,λv s' z=>z⟩
theorem zl{f:Str}(hΦ:P.FnOk r)(hX:P.FnX r)(hfr:P.fr f=some fr')(hk:c.kind f=some .globalImplicit)(hd:f ≠ ("__debug__" : Str))(hne:args ≠ [])(h:SEL P r c args es')
 (hdef:∃ q,P.defs f=some q) (hkn:trK k=some .none):SS P r c ow fr N (.If (.Compare (.Call (.Name f pf) args [] cpos) [.IsNot] [.Constant k kk np] pos) body [] ipos) (.ifn f es'):=by
 intro A env sc as s m own G res base outer I hok hev hF _;rw [vN] at hev;refine aa hev λds e1 hev2=>?_;refine wpAny_If (wpAny_isTrue_Compare1 ?_ (bA rfl));refine lF (base:=base) (outer:=outer) hΦ hX hfr hk hd hne h hdef I hok e1 (λd hv v s' k' bs rd=>?_) λhv=>?_
 ·rw [hv] at hev2
  refine have w:=al hev2;?_;induction d using dc<;>first | (cases w.1;done) | skip
  cases rd;clear e1 hev hok hdef h hne hd hk hfr hX hΦ;cases w.2;refine Qs (SE.us (Q:=λu s2=>u = .none/\Kp s' s2) (da (kk:=kk) (pos:=np) hkn) (I.keeps k').pre rfl (x_k _) λu s2 k2 as rd Z Z Z Z=>?_) (λu s2 z=>?_) λo_ Z z=>z.elim
  ·cases rd;exact ⟨rfl,k2⟩
  ·obtain ⟨rfl,k2⟩:=z
   refine Qs (cop (op:=.IsNot) (dx:=.none) (dy:=.none) (q:=false) I.pre.gp.hs I.room .none .none rfl (Q:=λu s3=>u = .bool false/\Kp s2 s3) (E:=λo_ Z=>False) λtk=>⟨rfl,Kp.toks s2 tk⟩) (λu s3 z=>?_) λo_ Z z=>z.elim;obtain ⟨rfl,k3⟩:=z;exact ZS (Yp ⟨rfl,own,G,I.keeps ((k'.trans k2).trans k3),Stp.kp ((k'.trans k2).trans k3) _ _⟩)
 ·rw [hv] at hev2
  clear hv e1 a hev hok I hkn hdef h hne hd hk hfr hX hΦ;obtain ⟨x,hxv,rfl⟩:=ad hev2;exact ⟨x,hxv,hF rfl,λv s' z=>z⟩
end
noncomputable def eras(h:Heap)(L:Addr):Heap:=h.update L λo=>{ o with data:=.freed }
theorem ew{h:Heap}{L b:Addr}(hb:b ≠ L):(eras h L).get? b=h.get? b:=Heap.get?_update_ne _ _ _ _ hb
theorem ia(h:Heap)(L:Addr):(eras h L).get? L=none:=by
 induction h with
 | mk objs l=>
  unfold eras Heap.update Heap.get?;simp only [Array.getElem?_modify,if_true];induction objs[L]? with
  | none=>rfl
  | some o=>rfl
noncomputable def Pk.CatOk(P:Pk)(r:Nat):Prop:=
 ∀ f ∈ catN,∀ (A:Around) (s:Shared) (v:Value) (d:D) (as:List Addr) (dd:D) (base:Heap) (outer:List Env),Room P.lp A r->P.GP s.heap->P.GP base->Rd P.H s.heap v d as->P.Φ f [d]=some dd->PyProof.Rows.Below A base outer s.heap ->
  ∃ a o fd,P.mg f=some (.ref a)/\s.heap.get? a=some o/\o.data = .func fd/\wpAny (model P.prog P.w) A (call (.ref a) [v])
   (λu s'=>base.StaysIn s'.heap/\s.heap.UpToSlots s'.heap/\(∃ h' t',s'={ s with heap:=h',toks:=t' })/\∃ bs,Rd P.H s'.heap u dd bs) (λo_ Z=>False) s
section
variable {P:Pk}{r:Nat}{c:TC}{ow:List Nat}{fr:Bool}{N:Nat}{A:Around}{env:Env}{sc:Shared}{as:List Addr}{s:Shared}{m:St}{own:Nat->Addr}{G:Addr->Prop}
theorem Inv.slots(I:Inv P r c A env ow sc as s m own G){h':Heap}{tk:Nat}(hk:∀ b o,b ≠ env.locals->s.heap.get? b=some o->h'.get? b=some o)(hu:s.heap.UpToSlots h') :
 Inv P r c A env ow sc as { s with heap:=h',toks:=tk } m own G/\Stp env ow [] [] s m own G { s with heap:=h',toks:=tk } m own G:=by
 obtain ⟨mm,hn⟩:=I.ns;have hC:∀ y a,env.cells.lookup y=some a->a ≠ env.locals:=λy a e q=>by
  obtain ⟨v,o,e1,d1⟩:=I.cl y a e;obtain ⟨o',es,ep,e2,d2,_⟩:=hn;rw [q,e2] at e1;obtain rfl:=Qv e1;rw [d2] at d1;cases d1
 have live:∀ a,h'.get? a=none->s.heap.get? a=none:=λa e=>by
  by_cases q:a=env.locals
  ·refine byG λX_ g_=>?_
   obtain ⟨o,es,ep,e1,d1,_⟩:=hn;obtain ⟨sl,z⟩:=hu _ o e1 (λvs q=>by rw [d1] at q;cases q);refine g_ ?_;exact nS (z ▸ q ▸ e)
  ·induction z:s.heap.get? a with
   | none=>rfl
   | some o=>exact nS ((hk a o q z).symm.trans e)
 refine have kp:Kp sc { s with heap:=h',toks:=tk }:=(I.kp.setHeap λb o e=>hk b o (λq=>by exact nN (I.nL ▸ q ▸ e)) (I.kp.get b o e));?_;refine ⟨⟨I.room,I.gpc,⟨I.er.fn,I.er.gl,I.er.bu,I.er.kd,I.er.len,I.er.owlt,I.er.cel,λx i d h1 h2 h3=>?_⟩,λa e=>I.new a (live a e),kp,I.gsub,⟨mm,hu.ns hn⟩,λx a e=>?_,I.inj,I.gL,I.gC,I.nL,I.nC,λi d h1 h2 h3=>?_,I.oD⟩,⟨live,λb o Z e h1 Z Z=>hk b o h1 e,λo_ Z Z g=>g,λi d Z h1 h2=>.inl ⟨rfl,d,h1,h2⟩,λo_ Z=>⟨rfl,rfl⟩⟩⟩
 ·refine byG λX_ g_=>?_
  obtain ⟨v,xs,hv,rd,g1,g2⟩:=I.er.var x i d h1 h2 h3;refine g_ ?_;refine ⟨v,xs,?_,rd.but (λb=>b=env.locals) hk (λb o hb e=>by rw [hb] at e;exact bf hn o e) λa ha q=>?_,g1,g2⟩
  ·rcases hv with ⟨q1,m2,q2,q3⟩ | ⟨q1,c2,q2,q3⟩
   ·exact .inl ⟨q1,m2,hu.ns q2,q3⟩
   ·refine .inr ⟨q1,c2,q2,?_⟩
    refine byG λX_ g_=>?_;obtain ⟨o,e,dd⟩:=q3;refine g_ ?_;exact ⟨o,hk _ o (hC _ _ q2) e,dd⟩
  ·induction ho:ow.contains i with
   | true=>
    refine have hnl:noList d=false:=(by
     induction q:noList d with
     | false=>rfl
     | true=>rw [rd.noAddr q] at ha;exact (YJ ha).elim);?_
    exact (I.oG i d ho h2 hnl).2.2.1 ((g1 ho).2 a ha ▸ q)
   | false=>exact I.gL (q ▸ g2 ho a ha)
 ·obtain ⟨v,o,q,dd⟩:=I.cl x a e
  exact ⟨v,o,hk _ o (hC _ _ e) q,dd⟩
 ·refine byG λX_ g_=>?_
  obtain ⟨q1,q2,q3,q4,o,e,q5⟩:=I.oG i d h1 h2 h3;refine g_ ?_;exact ⟨q1,q2,q3,q4,o,hk _ o q3 e,q5⟩
theorem Inv.alone(I:Inv P r c A env ow sc as s m own G)(T:TopF A env):PyProof.Rows.Below A (eras s.heap env.locals) [env] s.heap:=by
 obtain ⟨mm,hn⟩:=I.ns;refine ⟨T.1,λb o e=>?_,.cons (by rw [I.er.fn];decide) T.2 hn (ia _ _) trivial⟩
 by_cases q:b=env.locals
 ·rw [q,ia] at e;exact nN e
 ·rw [ew q] at e;exact e
theorem lG{f x y:Str}{i j:Nat}{pf px py cpos pos:Pos}{whole:Sem Value}{dx dd dy:D}{b:Bool}(hC:P.CatOk r)(hdef:∃ q,P.defs f=some q)(hf:f ∈ catN)(hk:c.kind f=some .globalImplicit)(hd:f ≠ ("__debug__" : Str))(T:TopF A env)(I:Inv P r c A env ow sc as s m own G)
 (sx:P.SE r c (.Name x px) (.v i)) (sy:P.SE r c (.Name y py) (.v j)) (hx:getV m i=some dx) (hd1:P.Φ f [dx]=some dd) (hy:getV m j=some dy) (hb:neD dd dy=some b) :
 wpAny (model P.prog P.w) A (isTrue (.Compare (.Call (.Name f pf) [.Name x px] [] cpos) [.NotEq] [.Name y py] pos) env whole) (λb' s'=>b'=b/\Inv P r c A env ow sc as s' m own G/\Stp env ow [] [] s m own G s' m own G) (λo_ Z=>False) s:=by
 refine wpAny_isTrue_Compare1 ?_ (bA rfl);refine byG λX_ g_=>?_;obtain ⟨q,hq⟩:=hdef;obtain ⟨fa,o,pm,code,doc,h1,h2,h3,_⟩:=I.pre.gp.fn f q hq;refine g_ ?_;refine ZH (cB I.pre hk hd h1 ?_);refine PyProof.Rows.callWith_def h3 ?_ (ak rfl _ env);refine Zv (SE.us sx I.pre rfl hx λv s1 k bs rd Z Z Z Z=>ZN ⟨k.get _ _ h2,?_⟩) (ak rfl _ env);refine have I1:=I.keeps k;?_;refine byG λX_ g_=>?_;obtain ⟨a',o',fd',g1,g2,g3,hw⟩:=hC f hf A s1 v dx bs dd (eras s1.heap env.locals) [env] I.room I1.pre.gp (I.gpc.keeps λb o e=>by rw [ew (λq=>by exact nN (I.nL ▸ q ▸ e))];exact I1.kp.get b o e) rd hd1 (I1.alone T);refine g_ ?_;rw [h1] at g1;obtain rfl:=Value.ref.inj (Qv g1);refine Qs hw (λu s2 z=>?_) λo_ Z z=>z;refine byG λX_ g_=>?_;obtain ⟨z1,z2,⟨h',t',rfl⟩,us,z4⟩:=z;refine g_ ?_;refine have J:=(I1.slots (h':=h') (tk:=t') (λb o hb e=>z1 b o ((ew hb).trans e)) z2);?_;refine SE.us sy J.1.pre rfl hy λw s3 k3 ws rw' Z Z Z Z=>?_;refine cop J.1.pre.gp.hs I.room (z4.keeps k3.get) rw' (show br .NotEq dd dy=some b from hb) λtk=>ZS ⟨rfl,(J.1.keeps k3).keeps (Kp.toks s3 tk),?_⟩;exact ((Stp.kp k [] []).join J.2 (t:=[]) (λo_ q=>q) λo_ q=>q).join (Stp.kp (k3.trans (Kp.toks s3 tk)) [] []) (t:=[]) (λo_ q=>q) λo_ q=>q
theorem fC{pos p:Pos}{k:Const}{kk:Nat}(hk:trK k=some (.bool false))(I:Inv P r c A env ow sc as s m own G){Q:Flow->Shared->Prop}{E:Value->Shared->Prop}(hq:∀ s',Kp s s'->Q (.ret (.bool false)) s'):wpAny (model P.prog P.w) A (execs [.Return (some (.Constant k kk p)) pos] env) Q E s:=by
 refine Yg (wpAny_Return_some ?_);refine Qs (SE.us (Q:=λv s'=>v = .bool false/\Kp s s') (da (kk:=kk) (pos:=p) hk) I.pre rfl (x_k _) λv s' k as rd Z Z Z Z=>?_) (λv s' z=>?_) λo_ Z z=>z.elim
 ·clear Z I hk;cases rd;exact ⟨rfl,k⟩
 ·obtain ⟨rfl,k⟩:=z
  exact hq s' k
theorem PF.fls{res:St}{s':Shared}{tch:List Nat}(I:Inv P r c A env ow sc as s m own G)(k:Kp s s'){s0:Shared}{m0:St}{own0:Nat->Addr}{G0:Addr->Prop}:PF P r c A env ow sc as fr tch s0 m0 own0 G0 (.ret (.bool false),res) (.ret (.bool false)) s':=
 ⟨_,rfl,I.kp.trans k,I.ns.imp λo_ z=>z.keeps k.get,[],.bool false,(λo_ z=>(YJ z).elim),λo_ Z z=>(YJ z).elim⟩
set_option tactic.hygienic true in
theorem zm{f x y:Str}{i j:Nat}{pf px py cpos pos bpos ipos rp kp:Pos}{kk:Nat}{k:Const}{e2:Expr}{e:Ex}(hC:P.CatOk r)(hdef:∃ q,P.defs f=some q)(hf:f ∈ catN)(hk:c.kind f=some .globalImplicit)(hd:f ≠ ("__debug__" : Str))
 (sx:P.SE r c (.Name x px) (.v i)) (sy:P.SE r c (.Name y py) (.v j)) (he:P.ST r c e2 e) (hkf:trK k=some (.bool false)) :
 SS P r c ow fr N (.If (.BoolOp .Or [.Compare (.Call (.Name f pf) [.Name x px] [] cpos) [.NotEq] [.Name y py] pos,e2] bpos) [.Return (some (.Constant k kk kp)) rp] [] ipos) (.cor f i j e):=by
 intro A env sc as s m own G res base outer I hok hev _ hT;rw [A9,Qj] at hok;rw [yn] at hev;refine aa hev λdx e1 hev=>?_;refine aa hev λdd e3 hev=>?_;refine aa hev λdy e4 hev=>?_;refine aa hev λb e5 hev=>?_;refine wpAny_If (PyProof.Rows.isTrue_or (Qs (lG hC hdef hf hk hd (hT rfl) I sx sy e1 e3 e4 e5) (λb' s1 z=>?_) λo_ Z z=>z.elim));obtain ⟨rfl,I1,S1⟩:=z;clear e5 e4 e3 e1 hT I sy sx hd hk hf hdef hC;induction b' with
 | true=>
  obtain rfl:=Qv hev;exact fC hkf I1 λs' k=>PF.fls I1 k
 | false=>
  refine aa (show ((evE P.Φ P.Γ e m).bind λz=>(truth z).map λb=>((if b then Fl.ret (.bool false) else Fl.next),m))=some res from hev) λdz e6 hev=>?_;obtain ⟨b,e7,rfl⟩:=ad hev;refine PyProof.Rows.isTrue_or (Qs (ST.use (Q:=λb' s2=>b'=b/\Kp s1 s2) he I1.pre hok.2 e6 e7 λs2 k=>⟨rfl,k⟩) (λb' s2 z=>?_) λo_ Z z=>z.elim);obtain ⟨rfl,k2⟩:=z;induction b' with
  | true=>exact fC hkf (I1.keeps k2) λs' k=>PF.fls (I1.keeps k2) k
  | false=>exact PyProof.Rows.isTrue_or_nil (Yp ⟨rfl,own,G,I1.keeps k2,S1.join (Stp.kp k2 [] []) (λo_ q=>q) λo_ q=>q⟩)
set_option tactic.hygienic true in
theorem wJ{f x y:Str}{i j:Nat}{pf px py cpos pos bpos ipos rp kp:Pos}{kk:Nat}{k:Const}{e2:Expr}{e:Ex}(hC:P.CatOk r)(hdef:∃ q,P.defs f=some q)(hf:f ∈ catN)(hk:c.kind f=some .globalImplicit)(hd:f ≠ ("__debug__" : Str))
 (sx:P.SE r c (.Name x px) (.v i)) (sy:P.SE r c (.Name y py) (.v j)) (he:P.ST r c e2 e) (hkf:trK k=some (.bool false)) :
 SS P r c ow fr N (.If (.BoolOp .And [e2,.Compare (.Call (.Name f pf) [.Name x px] [] cpos) [.NotEq] [.Name y py] pos] bpos) [.Return (some (.Constant k kk kp)) rp] [] ipos) (.cand e f i j):=by
 intro A env sc as s m own G res base outer I hok hev _ hT;rw [zd,Qj] at hok;rw [uy] at hev;refine aa hev λdz e6 hev=>?_;refine aa hev λb0 e7 hev=>?_;refine wpAny_If (PyProof.Rows.isTrue_and (Qs (ST.use (Q:=λb' s2=>b'=b0/\Kp s s2) he I.pre hok.2 e6 e7 λs2 k=>⟨rfl,k⟩) (λb' s1 z=>?_) λo_ Z z=>z.elim));clear e7 e6 hok he;obtain ⟨rfl,k1⟩:=z;refine have I1:=I.keeps k1;?_;induction b' with
 | false=>
  obtain rfl:=Qv hev;exact Yp ⟨rfl,own,G,I1,Stp.kp k1 _ _⟩
 | true=>
  refine aa (show ((getV m i).bind λx=>(P.Φ f [x]).bind λd=>(getV m j).bind λy=>(neD d y).map λb=>((if b then Fl.ret (.bool false) else Fl.next),m))=some res from hev) λdx e1 hev=>?_;refine aa hev λdd e3 hev=>?_;refine aa hev λdy e4 hev=>?_;obtain ⟨b,e5,rfl⟩:=ad hev;refine PyProof.Rows.isTrue_and (Qs (lG hC hdef hf hk hd (hT rfl) I1 sx sy e1 e3 e4 e5) (λb' s2 z=>?_) λo_ Z z=>z.elim);obtain ⟨rfl,I2,S2⟩:=z;induction b' with
  | true=>exact PyProof.Rows.isTrue_and_nil (fC hkf I2 λs' k=>PF.fls I2 k)
  | false=>exact Yp ⟨rfl,own,G,I2,(Stp.kp k1 [] []).join S2 (λo_ q=>q) λo_ q=>q⟩
end
set_option tactic.hygienic true
section
variable {P:Pk}{r:Nat}{c:TC}{ow:List Nat}{fr:Bool}{N:Nat}
theorem m8(ff:Str->Option Bool)(gcs:Str->Bool)(hΦ:P.FnOk r)(hff:∀ g fr,ff g=some fr->P.fr g=some fr/\(g ≠ bang->∃ q,P.defs g=some q)){n:Nat}{elt:Expr}{gens:List Comprehension}{scope:Scope}{pos:Pos}{e':Ex}(h:trE ff gcs n c (.ListComp elt gens scope pos)=some e') :
 ∃ tgt iter ifs xs a it b,gens=[⟨tgt,iter,ifs,0⟩]/\isSet iter=false/\xs.Nodup/\CompOk scope c xs/\P.SI r c tgt xs iter it/\P.SE r ⟨c.names++xs,kindC scope c.kind⟩ elt a/\SIfs P r ⟨c.names++xs,kindC scope c.kind⟩ ifs b/\e' = .comp a it b:=by
 induction n using nc with
 | zero=>exact nN h
 | succ n=>exact eH hff (λc=>aH ff gcs hΦ hff n c) (show oq ff (trE ff gcs n) c elt scope gens=some e' from h)
theorem wK{ff:Str->Option Bool}{gcs:Str->Bool}{n:Nat}{e:Expr}{e':Ex}(hc:isComp e=true)(h:trE ff gcs n c e=some e'):∃ a b c d,e = .ListComp a b c d:=by
 have w:=Qz hc
 by_cases q:e.ctorIdx=8
 ·exact Expr.ListComp.elim (motive_1:=λv=>∃ a b c d,v = .ListComp a b c d) e q λa b c d=>⟨a,b,c,d,rfl⟩
 ·by_cases q9:e.ctorIdx=9
  ·exact (Expr.SetComp.elim (motive_1:=λv=>trE ff gcs n c v=some e'->False) e q9 (λa b cc d h=>by induction n<;>exact nN h) h).elim
  ·exact (Expr.DictComp.elim (motive_1:=λv=>trE ff gcs n c v=some e'->False) e (Nat.le_antisymm (ZO w.2) (Yq (Yq (ZO w.1) (Ne.symm q)) (Ne.symm q9))) (λa b cc d e h=>by induction n<;>exact nN h) h).elim
theorem i9{value:Expr}{t:Expr}{l:Nat}{env:Env}(h:isComp value=false):swapsWith value (some t) l env=pure false:=by
 cases value<;>first | rfl | exact nT h
theorem ao{x:Str}{i:Nat}(h:varOf c x=some i):x ≠ ("__debug__" : Str)/\slotOf c.names x=some i/\(c.kind x=some .local\/c.kind x=some .cell):=by
 unfold varOf at h;split at h
 ·exact nN h
 ·rename_i hd
  have hd:x ≠ ("__debug__" : Str):=λq=>hd (Q5.mpr q);induction hk:c.kind x with
  | none=>exact nN (hk ▸ h)
  | some k=>rw [hk] at h;clear hk;induction k<;>first | (exact nN h;done) | exact ⟨hd,h,.inl rfl⟩ | exact ⟨hd,h,.inr rfl⟩
theorem pR(ff:Str->Option Bool)(gcs:Str->Bool)(hΦ:P.FnOk r)(hff:∀ g fr,ff g=some fr->P.fr g=some fr/\(g ≠ bang->∃ q,P.defs g=some q)){n:Nat}{x:Str}{i:Nat}{value:Expr}{e':Ex}{px pos:Pos}(hv:varOf c x=some i)(h:trE ff gcs n c value=some e') :
 SS0 P r c ow fr N (.Assign [.Name x px] value pos) (.asg i e'):=by
 have hs:=(ao hv).2.1;have hk:=(ao hv).2.2;intro A env sc as s m own G res I hok hev;induction hc:isComp value with
 | false=>exact uP hs hk (aH ff gcs hΦ hff n c _ _ h).1 I hok hev (i9 hc)
 | true=>
  refine byG λX_ g_=>?_;obtain ⟨elt,gens,scope,cp,rfl⟩:=wK hc h;clear hc hv;obtain ⟨tgt,iter,ifs,xs,a,it,b,rfl,h1,h2,h3,h4,h5,h6,rfl⟩:=m8 ff gcs hΦ hff h;obtain ⟨bb,hsw⟩:∃ bb,swapsWith (.ListComp elt [⟨tgt,iter,ifs,0⟩] scope cp) (some (.Name x px)) pos.line env=pure bb:=⟨_,rfl⟩
  refine g_ ?_;induction bb with
  | true=>exact kt h1 h2 h3 h4 h5 h6 hs hk I hok hev hsw
  | false=>exact uP hs hk (pK h1 h2 h3 h4 h5 h6) I hok hev hsw
theorem ja(ff:Str->Option Bool)(gcs:Str->Bool)(hΦ:P.FnOk r)(hff:∀ g fr,ff g=some fr->P.fr g=some fr/\(g ≠ bang->∃ q,P.defs g=some q)){x nm:Str}{px apos cpos pos:Pos}{args:List Expr}{st':Sm}(hp:(apos.endLine == cpos.line)=true)(h:ot (trE ff gcs 40 c) c x nm args=some st'):SS0 P r c ow fr N (.Expr (.Call (.Attribute (.Name x px) nm apos) args [] cpos) pos) st':=by
 unfold ot at h;refine aa h λi e1 hh=>?_;clear h;have h1:=(ao e1).1;have h2:=(ao e1).2.1;have h3:=(ao e1).2.2;split at hh
 ·rename_i hn
  have hn:=Q4 hn;subst hn;induction args using lc with
  | nil=>exact nN hh
  | cons a l_0=>
   induction l_0 using lc with
   | nil=>
    replace hh:(if isStar a then none else (trE ff gcs 40 c a).map λb=>Sm.app i b)=some st':=hh;split at hh
    ·exact nN hh
    ·rename_i hs
     obtain ⟨b,e2,rfl⟩:=ad hh;exact zf h1 hp (by simpa using hs) h2 h3 (aH ff gcs hΦ hff 40 c _ _ e2).1
   | cons=>exact nN hh
 ·split at hh
  ·rename_i hn
   have hn:=Q4 hn;subst hn;induction args using lc with
   | nil=>obtain rfl:=Qv hh;exact zg h1 hp h2 h3
   | cons=>exact nN hh
  ·split at hh
   ·rename_i hn
    have hn:=Q4 hn;subst hn;induction args using lc with
    | nil=>obtain rfl:=Qv hh;exact zh h1 hp h2 h3
    | cons=>exact nN hh
   ·exact nN hh
structure Hyp(P:Pk)(r:Nat)(ff:Str->Option Bool):Prop where
 ok:P.FnOk r
 ox:P.FnX r
 hf:∀ g fr,ff g=some fr->P.fr g=some fr/\(g ≠ bang->∃ q,P.defs g=some q)
 cat:(ff bang).isSome=true->P.CatOk r/\∀ f ∈ catN,∃ q,P.defs f=some q
theorem jb(ff:Str->Option Bool)(gcs:Str->Bool)(hY:Hyp P r ff){value:Expr}{pos:Pos}{st':Sm}(h:trX ff gcs c value=some st'):SS P r c ow fr N (.Expr value pos) st':=by
 refine gZ (G:=λvalue=>SS P r c ow fr N (.Expr value pos) st') h (λfn args kws cpos h=>?_) nN;induction hq:ge fn with
 | some q=>
  rw [hq] at h;have w:=al h;have hk:=Qz w.1;refine (b9 hq).elim λp z=>?_;exact z ▸ (Q1.mp hk.1) ▸ (SS.of0 _ _ _ (ja ff gcs hY.ok hY.hf hk.2 w.2))
 | none=>
  rw [hq] at h;refine aa h λq e0 h=>?_;have w:=al h;have hk:=w.1;rw [Qj,Qj,Qj] at hk;clear h hq;obtain ⟨es,e1,rfl⟩:=ad w.2;obtain ⟨fr',hfr⟩:=YR.mp hk.2;refine (aR e0).elim λp1 z=>z.elim λq1 e2=>?_;exact e2 ▸ (zk hY.ok hY.ox (hY.hf _ _ hfr).1 (aV hk.1.1.1).1 (aV hk.1.1.1).2 (by simpa using hk.1.2) (fx (aH ff gcs hY.ok hY.hf 40 c) e1) ((hY.hf _ _ hfr).2 (kg hk.1.1.1)))
theorem ku(ff:Str->Option Bool)(gcs:Str->Bool)(hΦ:P.FnOk r)(hff:∀ g fr,ff g=some fr->P.fr g=some fr/\(g ≠ bang->∃ q,P.defs g=some q)){t value:Expr}{pos:Pos}{st':Sm}(h:yv ff gcs c value t=some st'):SS0 P r c ow fr N (.Assign [t] value pos) st':=by
 refine eP (G:=λt=>SS0 P r c ow fr N (.Assign [t] value pos) st') h (λx p h=>?_) λh=>?_
 ·refine aa h λi e1 h=>?_
  obtain ⟨e,e2,rfl⟩:=ad h;exact pR ff gcs hΦ hff e1 e2
 refine lg (G:=λt=>SS0 P r c ow fr N (.Assign [t] value pos) st') h (λo ix p h=>?_) λh=>?_
 ·refine aa h λx e0 h=>?_
  have hs:=bc h;refine aa hs.2 λi e1 h=>?_;refine aa h λe e2 h=>?_;obtain ⟨k,e3,rfl⟩:=ad h;refine (az e0).elim λpx z=>?_;exact z ▸ (wG ((ao e1).1) ((ao e1).2.1) ((ao e1).2.2) (aH ff gcs hΦ hff 40 c _ _ e3).1 (aH ff gcs hΦ hff 40 c _ _ e2).1 λenv=>i9 (Yo.mp hs.1).2)
 refine gW (G:=λt=>SS0 P r c ow fr N (.Assign [t] value pos) st') h (λes tb tp h=>?_) nN;have w:=al h;refine aa w.2 λxs e0 h1=>?_;refine byG λX_ g_=>?_;obtain ⟨v,hv⟩:=YR.mp w.1;clear w h;obtain ⟨pv,rfl⟩:=az hv;obtain ⟨x,y,p,q,rfl,rfl,_⟩:=dL e0;have w0:=bc (show (if (ff bang).isNone then none else (varOf c x).bind λi=>(varOf c y).bind λj=>(trE ff gcs 40 c (.Name v pv)).map λe=>Sm.unp i j e)=some st' from h1);refine aa w0.2 λi e1 h2=>?_;refine aa h2 λj e2 h3=>?_;obtain ⟨e,e3,rfl⟩:=ad h3;refine g_ ?_;exact zi (sH hff w0.1) (ao e1).2.1 (ao e1).2.2 (ao e2).2.1 (ao e2).2.2 (aH ff gcs hΦ hff 40 c _ _ e3).1
theorem kx(ff:Str->Option Bool)(gcs:Str->Bool)(hΦ:P.FnOk r)(hff:∀ g fr,ff g=some fr->P.fr g=some fr/\(g ≠ bang->∃ q,P.defs g=some q)){tgt iter:Expr}{body:List Stmt}{b:Option Sms}{pos:Pos}{st':Sm}(hb:∀ b',b=some b'->SSs P r c ow fr N body b')(h:v9 ff (trE ff gcs 40 c) c tgt iter b=some st'):SS P r c ow fr N (.For tgt iter body [] pos) st':=by
 unfold v9 at h;split at h
 ·exact nN h
 ·rename_i hset
  refine aa h λxs e1 hh1=>?_;refine aa hh1 λit e2 hh2=>?_;obtain ⟨b',e3,h3⟩:=bind_some hh2;clear h hh1 hh2;have hi:=y6 hff (aH ff gcs hΦ hff 40 c) e1 e2;clear e1 e2;induction xs using lc with
  | nil=>have h:=h3;exact nN h
  | cons x l_0=>
   induction l_0 using lc with
   | nil=>
    obtain ⟨i,e4,rfl⟩:=ad (show ((varOf c x).map λi=>Sm.for1 i it b')=some st' from h3);have h3:=(ao e4).2.2;exact wH (by simpa using hset) ((ao e4).2.1) h3 hi (hb _ e3)
   | cons y l_1=>
    induction l_1 using lc with
    | nil=>
     refine byG λX_ g_=>?_;refine aa (show ((varOf c x).bind λi=>(varOf c y).map λj=>Sm.for2 i j it b')=some st' from h3) λi e4 h=>?_;obtain ⟨j,e5,rfl⟩:=ad h;refine g_ ?_;exact wI (by simpa using hset) ((ao e4).2.1) ((ao e4).2.2) ((ao e5).2.1) ((ao e5).2.2) hi (hb _ e3)
    | cons=>exact nN h3
theorem jc{α:Type}{l:List α}{x:α × α}(h:two1 l=some x):l=[x.1,x.2]:=by
 induction l using lc with
 | nil=>exact nN h
 | cons a l=>
  induction l using lc with
  | nil=>exact nN h
  | cons b l=>
   induction l using lc with
   | cons=>exact nN h
   | nil=>obtain rfl:=Qv h;rfl
theorem gr{ff:Str->Option Bool}{e:Expr}{q:Str × Nat × Nat}(h:ou ff c e=some q):∃ x y pf px py cpos pos,e = .Compare (.Call (.Name q.1 pf) [.Name x px] [] cpos) [.NotEq] [.Name y py] pos/\varOf c x=some q.2.1/\varOf c y=some q.2.2/\q.1 ∈ catN/\glob c q.1=true/\(ff bang).isSome=true:=by
 refine gY (G:=λe=>∃ x y pf px py cpos pos,e = .Compare (.Call (.Name q.1 pf) [.Name x px] [] cpos) [.NotEq] [.Name y py] pos/\varOf c x=some q.2.1/\varOf c y=some q.2.2/\q.1 ∈ catN/\glob c q.1=true/\(ff bang).isSome=true) h (λl ops rs pos h=>?_) nN;refine aa h λop e1 h=>?_;refine aa h λrr e2 h=>?_;refine aa h λu e3 h=>?_;refine aa h λa e4 h=>?_;refine aa h λx e5 h=>?_;refine aa h λi e6 h=>?_;refine aa h λy e7 h=>?_;refine aa h λj e8 h=>?_;have w:=al h;have hk:=w.1;rw [Qj,Qj,Qj] at hk;have w2:=Qv w.2;clear w h;subst w2;obtain ⟨px,rfl⟩:=az e5;obtain ⟨py,rfl⟩:=az e7;obtain ⟨pf,cpos,hc⟩:=aR (g:=u.1) (args:=u.2) e3;have ho:op = .NotEq:=Q4 hk.1.1.1;refine ⟨x,y,pf,px,py,cpos,pos,?_,e6,e8,by simpa using hk.1.1.2,hk.1.2,hk.2⟩;rw [hc,aA e1,aA e2,aA e4,ho]
theorem pS{ss:List Stmt}(h:retF ss=true):∃ k kk kp rp,ss=[.Return (some (.Constant k kk kp)) rp]/\trK k=some (.bool false):=by
 unfold retF at h;induction q:one1 ss with
 | none=>rw [q] at h;exact nF h
 | some st=>
  rw [q] at h;obtain ⟨b,hb⟩:=YR.mp (show Option.isSome _=true from h);rw [aA q];refine jW (G:=λst=>∃ k kk kp rp,[st]=[.Return (some (.Constant k kk kp)) rp]/\trK k=some (.bool false)) hb (λv rp h=>?_) nN;refine aa h λe e0 h=>?_;rw [e0];refine gV (G:=λe=>∃ k kk kp rp',[Stmt.Return (some e) rp]=[.Return (some (.Constant k kk kp)) rp']/\trK k=some (.bool false)) h (λk kk kp h=>?_) nN;refine aa h λd e1 h=>?_;have w:=(al h).1;rw [Qj] at w;have hd:d = .bool false:=by
   clear h e0 hb q;induction d using dc<;>first | (cases w.2;done) | skip
   rename_i bb;cases bb with
   | false=>rfl
   | true=>exact absurd w.1 (by decide)
  exact ⟨k,kk,kp,rp,rfl,e1.trans (Qf some hd)⟩
theorem ky(ff:Str->Option Bool)(gcs:Str->Bool)(hY:Hyp P r ff){test:Expr}{body orelse:List Stmt}{pos:Pos}{st':Sm}(h:wa ff gcs c test body orelse=some st'):SS P r c ow fr N (.If test body orelse pos) st':=by
 have w:=al h;have hk:=Qz w.1;obtain ⟨k,kk,kp,rp,hbody,hkf⟩:=pS hk.1;rw [hbody,Q1.mp hk.2];refine lf (G:=λtest=>SS P r c ow fr N (.If test [.Return (some (.Constant k kk kp)) rp] [] pos) st') w.2 (λop vs bpos h=>?_) nN;refine aa h λp e0 h=>?_;rw [jc e0];have sv:∀ {x:Str} {i:Nat} (px:Pos),varOf c x=some i->P.SE r c (.Name x px) (.v i):=λpx q=>fh (ao q).1 (ao q).2.2 (ao q).2.1;induction op with
 | Or=>
  refine aa (show ((ou ff c p.1).bind λq=>(trE ff gcs 40 c p.2).map λe=>Sm.cor q.1 q.2.1 q.2.2 e)=some st' from h) λq e1 h=>?_;clear e0 hbody hk w;obtain ⟨e,e2,rfl⟩:=ad h;obtain ⟨x,y,pf,px,py,cpos,cp,he,hx,hy,hc,hg,hb⟩:=gr e1;exact he ▸ (zm (hY.cat hb).1 ((hY.cat hb).2 _ hc) hc (aV hg).1 (aV hg).2 (sv px hx) (sv py hy) (aH ff gcs hY.ok hY.hf 40 c _ _ e2).2 hkf)
 | And=>
  refine aa (show ((ou ff c p.2).bind λq=>(trE ff gcs 40 c p.1).map λe=>Sm.cand e q.1 q.2.1 q.2.2)=some st' from h) λq e1 h=>?_;clear e0 hbody hk w;obtain ⟨e,e2,rfl⟩:=ad h;obtain ⟨x,y,pf,px,py,cpos,cp,he,hx,hy,hc,hg,hb⟩:=gr e1;exact he ▸ (wJ (hY.cat hb).1 ((hY.cat hb).2 _ hc) hc (aV hg).1 (aV hg).2 (sv px hx) (sv py hy) (aH ff gcs hY.ok hY.hf 40 c _ _ e2).2 hkf)
theorem kA(ff:Str->Option Bool)(gcs:Str->Bool)(hY:Hyp P r ff){e:Expr}{pos:Pos}{st':Sm}(h:yw ff gcs c e=some st'):SS P r c ow fr N (.Raise (some e) none pos) st':=by
 refine aa h λq e0 h=>?_;refine aa h λa e1 h=>?_;have w:=al h;have hk:=w.1;rw [Qj,Qj,Qj] at hk;clear h;obtain ⟨b,e2,rfl⟩:=ad w.2;refine (aR (g:=q.1) (args:=q.2) e0).elim λp1 z=>z.elim λq1 e3=>?_;exact e3 ▸ (aA e1) ▸ (zj (sH hY.hf (by cases z:ff bang with | none=>rw [z] at hk;cases hk.2 | some b=>rfl)) (by simpa using hk.1.1.1) (aV hk.1.1.2).1 (aV hk.1.1.2).2 (by simpa using hk.1.2) (aH ff gcs hY.ok hY.hf 40 c _ _ e2).1)
theorem pT(ff:Str->Option Bool)(gcs:Str->Bool)(hY:Hyp P r ff){g:List Stmt->Option Sms}(ih:∀ ss ss',g ss=some ss'->SSs P r c ow fr N ss ss'){st:Stmt}{st':Sm}(h:trS ff gcs g c st=some st'):SS P r c ow fr N st st':=by
 have he:=λ(e:Expr) (e':Ex)=>aH ff gcs hY.ok hY.hf 40 c e e';refine ol (G:=λst=>SS P r c ow fr N st st') h (λts value pos h=>?_) λh=>?_
 ·induction ts using lc with
  | nil=>exact nN h
  | cons t ts=>
   induction ts using lc with
   | nil=>exact SS.of0 _ _ _ (ku ff gcs hY.ok hY.hf h)
   | cons=>exact nN h
 refine om (G:=λst=>SS P r c ow fr N st st') h (λvalue pos h=>jb ff gcs hY h) λh=>?_;refine on (G:=λst=>SS P r c ow fr N st st') h (λtest body orelse pos h=>?_) λh=>?_
 ·induction hq:wa ff gcs c test body orelse with
  | some q=>
   rw [hq] at h;obtain rfl:=Qv h;exact ky ff gcs hY hq
  | none=>
  rw [hq] at h;refine aa h λq e1 h=>?_;refine aa h λa e2 h=>?_;obtain ⟨b,e3,rfl⟩:=ad h;exact Ba (he _ _ e1).2 (ih _ _ e2) (ih _ _ e3)
 refine vV (G:=λst=>SS P r c ow fr N st st') h (λtest body orelse pos h=>?_) λh=>?_
 ·have w:=al h
  rw [Q1.mp w.1];refine aa w.2 λq e1 h=>?_;obtain ⟨a,e2,rfl⟩:=ad h;exact sJ (he _ _ e1).2 (ih _ _ e2)
 refine vW (G:=λst=>SS P r c ow fr N st st') h (λtgt iter body orelse pos h=>?_) λh=>?_
 ·have w:=al h
  exact (Q1.mp w.1) ▸ (kx ff gcs hY.ok hY.hf (λb' e=>ih _ _ e) w.2)
 refine jW (G:=λst=>SS P r c ow fr N st st') h (λvalue pos h=>?_) λh=>?_
 ·refine aa h λv e0 h1=>?_
  obtain ⟨e,e1,rfl⟩:=ad h1;exact e0 ▸ (SS.of0 _ _ _ (ze (he _ _ e1).1))
 refine vX (G:=λst=>SS P r c ow fr N st st') h (λa b pos h=>?_) nN;have w:=al h;refine aa w.2 λe e0 h=>?_;exact e0 ▸ (YG.mp w.1) ▸ kA ff gcs hY h
theorem ey(ff:Str->Option Bool)(gcs:Str->Bool)(hY:Hyp P r ff)(n:Nat):∀ (ss:List Stmt) (ss':Sms),trSs ff gcs n c ss=some ss'->SSs P r c ow fr N ss ss':=by
 induction n with
 | zero=>
  intro ss ss' h;induction ss using lc with
  | nil=>exact Qv h ▸ pO
  | cons=>exact nN h
 | succ n ih=>
  intro ss ss' h;induction ss using lc with
  | nil=>exact Qv h ▸ pO
  | cons s ss=>
   refine aa (show ((trS ff gcs (trSs ff gcs n c) c s).bind λa=>(trSs ff gcs n c ss).map λb=>Sms.cons a b)=some ss' from h) λa e1 h=>?_;obtain ⟨b,e2,rfl⟩:=ad h;exact sI (pT ff gcs hY ih e1) (ih ss b e2)
theorem dO:∀ (names:List (Str × NameKind)) (n:Nat) (acc:List (Str × Addr)) (x:Str),((x,NameKind.cell) ∈ names\/∃ a,acc.lookup x=some a)->∃ a,(cellsFrom n names acc).lookup x=some a:=by
 intro names;induction names with
 | nil=>
  intro n acc x h;exact h.elim (λq=>(YJ q).elim) λq=>q
 | cons p_ rest ih_=>
  obtain ⟨y,k⟩:=p_;intro n acc x h;unfold cellsFrom
  by_cases hk:(k == .cell)=true
  ·rw [Ql hk]
   refine ih_ _ _ x ?_
   by_cases hy:x=y
   ·subst hy;exact .inr ⟨n,by simp⟩
   ·rcases h with h | ⟨a,h⟩
    ·rcases Qw h with e | h
     ·obtain ⟨rfl,rfl⟩:=Prod.mk.inj e;exact absurd rfl hy
     ·exact .inl h
    ·exact .inr ⟨a,by rw [ZX,beq_eq_false_iff_ne.mpr hy];exact h⟩
  ·rw [Qu hk]
   refine ih_ _ _ x ?_;rcases h with h | h
   ·rcases Qw h with e | h
    ·obtain ⟨rfl,rfl⟩:=Prod.mk.inj e;exact absurd rfl hk
    ·exact .inl h
   ·exact .inr h
theorem jd(kindOf:Str->Option NameKind):∀ (l:List (Str × Value)) (m:Str->Option Value) (x:Str),(l.map (·.1)).Nodup->kindOf x=some .local->bindL kindOf l m x=match l.lookup x with | some v=>some v | none=>m x
 | [],_,_,_,_=>rfl
 | (n,v)::rest,m,x,hn,hk=>by
  rw [QX,Q8] at hn;unfold bindL;rw [jd kindOf rest _ x hn.2 hk,ZX];induction hb:x == n with
  | true=>
   have e:=Q4 hb;subst e;have:rest.lookup x=none:=by
    induction q:rest.lookup x with
    | none=>rfl
    | some w=>exact absurd (YA (f:=(·.1)) (aT q)) hn.1
   rw [this];simp [hk]
  | false=>
   have hne:x ≠ n:=by simpa using hb
   induction q:rest.lookup x with
   | some w=>rfl
   | none=>
    simp only;split
    ·simp [hne]
    ·rfl
theorem je(kindOf:Str->Option NameKind):∀ (l:List (Str × Value)) (m:Str->Option Value) (x:Str),(l.map (·.1)).Nodup->kindOf x ≠ some .local->bindC kindOf l m x=match l.lookup x with | some v=>some v | none=>m x
 | [],_,_,_,_=>rfl
 | (n,v)::rest,m,x,hn,hk=>by
  rw [QX,Q8] at hn;unfold bindC;rw [je kindOf rest _ x hn.2 hk,ZX];induction hb:x == n with
  | true=>
   have e:=Q4 hb;subst e;have:rest.lookup x=none:=by
    induction q:rest.lookup x with
    | none=>rfl
    | some w=>exact absurd (YA (f:=(·.1)) (aT q)) hn.1
   rw [this];simp [hk]
  | false=>
   have hne:x ≠ n:=by simpa using hb
   induction q:rest.lookup x with
   | some w=>rfl
   | none=>
    simp only;split
    ·rfl
    ·simp [hne]
theorem cL:∀ {pn:List Str} {vs:List Value} {i:Nat} {x:Str} {v:Value},pn.Nodup->pn[i]?=some x->vs[i]?=some v->(pn.zip vs).lookup x=some v:=by
 intro pn;induction pn with
 | nil=>intro vs i x v _ h _;exact nN h
 | cons p pn ih=>
  intro vs i x v hn h1 h2;induction vs using lc with
  | nil=>exact nN h2
  | cons w vs=>
   induction i using nc with
   | zero=>
    obtain rfl:=Qv h1;obtain rfl:=Qv h2;rw [XV,ZX,Zh]
   | succ i=>
    rw [Q8] at hn;have q:x ≠ p:=λq=>hn.1 (q ▸ Qa h1);rw [XV,ZX,beq_eq_false_iff_ne.mpr q];exact ih hn.2 h1 h2
end
set_option tactic.hygienic false
structure FnSt(P:Pk)(f:Str)(q:FR)(n1 n2:Nat)(ow1:List Nat)(pn names:List Str):Prop where
 def':P.defs f=some q
 nd:names.Nodup
 pre:pn=names.take n1
 np:n1<=names.length
 ns:n2=names.length
 kinds:pn.all (λx=>q.scope.names.lookup x == some .local||q.scope.names.lookup x == some .cell)=true
 bind:∀ (vs:List Value) (pm cd doc:Value),vs.length=n1->bindArgs (Calls.docDef f q.params q.body q.scope pm cd doc) ⟨vs,[]⟩=pure (pn.zip vs)
 co:q.scope.isCoroutine=false
 gen:q.scope.isGenerator=false
 kind:q.scope.kind = .function
 ow:ow1.all (λi=>decide (n1<=i/\i < n2))=true
structure FnCk(P:Pk)(ff:Str->Option Bool)(gcs:Str->Bool)(f:Str)(q:FR)(fn:Fn)(pn names:List Str):Prop where
 st:FnSt P f q fn.np fn.ns fn.ow pn names
 tr:trSs ff gcs 60 ⟨names,λx=>q.scope.names.lookup x⟩ q.body=some fn.body
 ok:okSs fn.ow fn.body=true
theorem Room.deeper(h:Room b A (r+1))(env:Env):Room b (A.deeper env) r:=by
 refine ⟨h.hd,?_,?_⟩
 ·show A.depth+1+r+60 < _
  exact (XK A.depth 1 r) ▸ h.depth
 ·refine Qh (Zt ?_ 300) h.units
  show A.units+3+4 * r<=_;exact (XK A.units 3 (4 * r)) ▸ Zs _
theorem wL:∀ {names:List (Str × NameKind)},(names.all λp=>p.2 != .cell)=true->∀ n,cellsFrom n names []=[]:=by
 intro names;induction names with
 | nil=>intro _ n;rfl
 | cons p names ih=>
  intro h n;rw [List.all_cons,Qj] at h;have y:=p.1;have k:=p.2;unfold cellsFrom;exact (Qu (by simpa using h.1)).trans (ih h.2 n)
section
variable {P:Pk}{r:Nat}{N:Nat}
theorem fn_enter(K:FnSt P f q np ns ow pn names)(A:Around)(s:Shared)(vs:List Value)(ds:List D)(as:List Addr)(hA:Room P.lp A (r+1))(hg:P.GP s.heap)(ra:RdAll P.H s.heap vs ds as)(hnp:ds.length=np) :
 ∃ a o fd,P.mg f=some (.ref a)/\s.heap.get? a=some o/\o.data = .func fd/\∀ (R:Result->Shared->Prop),(∀ (env:Env) (s1:Shared),Inv P r ⟨names,λx=>q.scope.names.lookup x⟩ (A.deeper env) env ow s as s1 (ds.map some++List.replicate (ns - np) none) (λZ=>0) (λb=>b ∈ as\/s1.heap.get? b=none) ->
  env.frame=some env.locals->(∀ l,A.frames=some l->(A.deeper env).frames=some (env::l))->((q.scope.names.all λp=>p.2 != .cell)=true->env.cells=[]) ->
  wpAny (model P.prog P.w) (A.deeper env) (execs q.body env) (λfl s'=>R (.ok (.ret (match fl with | .ret v=>v | _=>.none))) s')
   (λe s'=>wpAny (model P.prog P.w) (A.deeper env) (leaving env e) (λZ s''=>R (.error e) s'') (λe' s''=>R (.error e') s'') s') s1) ->
  codeAny (model P.prog P.w) A (.call (.ref a) ⟨vs,[]⟩) R s:=by
 refine byG λX_ g_=>?_;obtain ⟨a,o,pm,code,doc,h1,h2,h3,h4⟩:=hg.fn f q K.def';refine g_ ?_;refine ⟨a,o,_,h1,h2,h3,λR hbody=>?_⟩;refine have hvl:vs.length=np:=(by rw [ra.length,hnp]);?_;refine have hpl:pn.length=np:=(by rw [K.pre,ZE,Yr K.np]);?_;refine have hpn:pn.Nodup:=(by exact K.pre ▸ (K.nd.sublist (List.take_sublist _ _)));?_;refine have hz1:(pn.zip vs).map (·.1)=pn:=List.map_fst_zip (Zd (hpl.trans hvl.symm));?_;have hkin:∀ x ∈ pn,q.scope.names.lookup x=some .local\/q.scope.names.lookup x=some .cell:=λx hx=>by
  have:=ZK.mp K.kinds x hx
  simpa using this
 have ge0:∀ {i:Nat} {dd:D},(ds.map some++List.replicate (ns - np) none)[i]?=some (some dd)->ds[i]?=some dd/\i < np:=λ{i dd} h=>by
  by_cases hi:i < ds.length
  ·rw [Zx (by simpa using hi),Qy] at h
   obtain ⟨x,e1,e2⟩:=QK h;obtain rfl:=Qv e2;exact ⟨e1,hnp ▸ hi⟩
  ·rw [ZW (by simp;(exact YZ hi))] at h
   have:=Qa h;simp at this
 refine have mlen:(ds.map some++List.replicate (ns - np) none).length=ns:=(by rw [QW,lX,Yv,hnp,Nat.add_sub_cancel' (K.ns ▸ K.np)]);?_;have owlo:∀ i,ow.contains i=true->np<=i/\i < ns:=λi h=>by
  have:=ZK.mp K.ow i (by simpa using h)
  simpa using this
 have hzip:∀ x ∈ pn.zip vs,x.1 ∈ pn:=λx hx=>by
  refine have:x.1 ∈ (pn.zip vs).map (·.1):=YA hx;?_;rw [hz1] at this;exact this
 refine have snone:∀ b,s.heap.objs.size<=b->s.heap.get? b=none:=λb hb=>aI hb;?_;refine PyProof.Rows.call_cells (Qh (QQ (QI _ _) (QI _ _)) hA.depth) h2 h3 hg.nolimit h4 (K.bind vs pm code doc hvl) (λx hx=>?_) (λh₁ tk F X=>hbody _ _ ?_ rfl (λl hl=>Around.frames_deeper hl) λhz=>wL hz _) K.co K.gen K.kind
 ·rcases hkin x.1 (hzip x hx) with z | z
  ·exact .inl z
  ·obtain ⟨c0,e⟩:=dO q.scope.names (s.heap.objs.size+1) [] x.1 (.inl (aT z))
   exact .inr ⟨z,by exact Qf _ e⟩
 ·refine have hcn:∀ x c0,(cellsFrom (s.heap.objs.size+1) q.scope.names []).lookup x=some c0->s.heap.get? c0=none:=λx c0 e=>snone c0 (Qm (X.above x c0 (mem_of_lookup e)));?_
  refine have hck:∀ x,q.scope.names.lookup x=some .cell->∃ c0,(cellsFrom (s.heap.objs.size+1) q.scope.names []).lookup x=some c0:=λx e=>dO _ _ _ x (.inl (aT e));?_;show Inv P r ⟨names,λx=>q.scope.names.lookup x⟩ (A.deeper (PyProof.Rows.envOfC f q.scope s.heap.objs.size a code)) (PyProof.Rows.envOfC f q.scope s.heap.objs.size a code) ow s as { s with heap:=h₁,toks:=tk } (ds.map some++List.replicate (ns - np) none) (λZ=>0) (λb=>b ∈ as\/h₁.get? b=none);refine ⟨hA.deeper _,hg,⟨K.kind,rfl,rfl,λZ=>rfl,?_,λi hi=>?_,λx hx=>hck x hx,λx i dd hs hm hk=>?_⟩,λb hb=>.inr hb,Kp.setHeap (Kp.refl s) F.keep,λb hb=>hb.imp id λhb=>?_,⟨_,F.ns⟩,λx c0 e=>⟨_,X.cell x c0 e⟩,λx y c0 e1 e2=>name_of_addr X.apart (mem_of_lookup e1) (mem_of_lookup e2),λhb=>?_,λx c0 e hb=>?_,snone _ (QO _),hcn,λi dd hi hm Z=>?_,λi j dd dd' Z hi Z hm Z Z Z=>?_⟩
  ·exact mlen.trans K.ns
  ·exact YY (owlo i hi).2 mlen.symm
  ·refine byG λX_ g_=>?_
   obtain ⟨e1,e2⟩:=ge0 hm;obtain ⟨hi,hx⟩:=aQ hs;refine have hpx:pn[i]?=some x:=(by rw [K.pre,List.getElem?_take,Ql e2];exact hx);?_;obtain ⟨v,bs,ev,rv,hb⟩:=ra.get e1;refine g_ ?_;refine ⟨v,bs,?_,rv.keeps F.keep,λz=>?_,λZ b hb'=>.inl (hb b hb')⟩
   ·rcases hk with hk | hk
    ·refine .inl ⟨hk,_,F.ns,?_⟩
     rw [jd (PyProof.Rows.envOfC f q.scope s.heap.objs.size a code).kindOf _ _ _ (by rw [hz1];exact hpn) hk,(cL hpn hpx ev)]
    ·obtain ⟨c0,e⟩:=hck x hk
     refine .inr ⟨hk,c0,e,?_⟩;have:=X.cell x c0 e;rw [je _ _ _ _ (by rw [hz1];exact hpn) (λz=>by rw [show (PyProof.Rows.envOfC f q.scope s.heap.objs.size a code).kindOf x=some .cell from hk] at z;exact NameKind.noConfusion (Qv z)),(cL hpn hpx ev)] at this;exact this
   ·exact absurd e2 (Z4.mpr (owlo i z).1)
  ·induction z:s.heap.get? b with
   | none=>rfl
   | some o'=>exact nS ((F.keep b o' z).symm.trans hb)
  ·rcases hb with hb | hb
   ·obtain ⟨o',e,_⟩:=ra.old _ hb
    exact nN ((show s.heap.get? (PyProof.Rows.envOfC f q.scope s.heap.objs.size a code).locals=none from snone _ (QO _)).symm.trans e)
   ·obtain ⟨o',_,_,e,_⟩:=F.ns
    exact nS ((show h₁.get? (PyProof.Rows.envOfC f q.scope s.heap.objs.size a code).locals=some o' from e).symm.trans hb)
  ·rcases hb with hb | hb
   ·obtain ⟨o',e',_⟩:=ra.old _ hb
    exact nN ((hcn x c0 e).symm.trans e')
   ·obtain ⟨o',e',_⟩:=X.cell x c0 e
    exact nS (e'.symm.trans hb)
  ·exact absurd (ge0 hm).2 (Z4.mpr (owlo i hi).1)
  ·exact absurd (ge0 hm).2 (Z4.mpr (owlo i hi).1)
set_option tactic.hygienic true in
theorem fn_sound(hY:Hyp P r ff)(K:FnCk P ff gcs f q fn pn names)
 (A:Around) (s:Shared) (vs:List Value) (ds:List D) (as:List Addr) (d:D) (hA:Room P.lp A (r+1)) (hg:P.GP s.heap) (ra:RdAll P.H s.heap vs ds as) (hev:runFn P.Φ P.Γ N fn ds=some d) (hc:catSs fn.body=true->A.frames=some []) :
 ∃ a o fd,P.mg f=some (.ref a)/\s.heap.get? a=some o/\o.data = .func fd/\wpAny (model P.prog P.w) A (call (.ref a) vs)
  (λv s'=>Kp s s'/\∃ bs,Rd P.H s'.heap v d bs/\(∀ x ∈ bs,s.heap.get? x=none\/x ∈ as)/\(fn.fr=true->∀ x ∈ bs,s.heap.get? x=none)) (λZ Z=>False) s:=by
 unfold runFn at hev;refine byG λX_ g_=>?_;obtain ⟨hnp,hev⟩:=al hev;obtain ⟨a,o,fd,h1,h2,h3,h4⟩:=fn_enter (r:=r) K.st A s vs ds as hA hg ra hnp;refine g_ ?_;refine ⟨a,o,fd,h1,h2,h3,wpAny_call (h4 _ λenv s1 I hf hfr Z=>?_)⟩;refine have body:=ey (P:=P) (r:=r) (c:=⟨names,λx=>q.scope.names.lookup x⟩) (ow:=fn.ow) (fr:=fn.fr) (N:=N) ff gcs hY 60 q.body fn.body K.tr;?_;induction hx:exSs P.Φ P.Γ fn.ow fn.fr N fn.body (ds.map some++List.replicate (fn.ns - fn.np) none) with
 | none=>exact nN (hx ▸ hev)
 | some res=>
  rw [hx] at hev;obtain ⟨fl',m'⟩:=res;refine have hT:catSs fn.body=true->TopF (A.deeper env) env:=λz=>⟨hfr [] (hc z),hf⟩;?_;induction fl' with
  | exc=>exact nN hev
  | next=>
   refine Qs (body _ _ _ _ _ _ _ _ _ s.heap [] I K.ok hx nF hT) (λfl s' hf=>?_) λZ Z z=>z.elim;obtain rfl:=Qv hev;obtain ⟨rfl,own',G',I',_⟩:=hf;exact ⟨I'.kp,[],.none,(λZ z=>(YJ z).elim),λZ Z z=>(YJ z).elim⟩
  | ret d'=>
   refine Qs (body _ _ _ _ _ _ _ _ _ s.heap [] I K.ok hx nF hT) (λfl s' hf=>?_) λZ Z z=>z.elim;obtain rfl:=Qv hev;refine byG λX_ g_=>?_;obtain ⟨v,rfl,k,_,bs,rd,u1,u2⟩:=hf;refine g_ ?_;exact ⟨k,bs,rd,u1,u2⟩
set_option tactic.hygienic true in
theorem fn_soundX(hY:Hyp P r ff)(K:FnCk P ff gcs f q fn pn names)
 (A:Around) (s:Shared) (vs:List Value) (ds:List D) (as:List Addr) (x:D) (base:Heap) (outer:List Env) (hA:Room P.lp A (r+1)) (hg:P.GP s.heap) (ra:RdAll P.H s.heap vs ds as) (hev:runX P.Φ P.Γ N fn ds=some x) (B:PyProof.Rows.Below A base outer s.heap) (hc:catSs fn.body=false) :
 ∃ a o fd,P.mg f=some (.ref a)/\s.heap.get? a=some o/\o.data = .func fd/\wpAny (model P.prog P.w) A (call (.ref a) vs) (λZ Z=>False) (OutX P base outer s x) s:=by
 unfold runX at hev;have hnp:=(al hev).1;have hev:=(al hev).2;obtain ⟨a,o,fd,h1,h2,h3,h4⟩:=fn_enter (r:=r) K.st A s vs ds as hA hg ra hnp;refine ⟨a,o,fd,h1,h2,h3,wpAny_call (h4 _ λenv s1 I hf hfr Z=>?_)⟩;refine have body:=ey (P:=P) (r:=r) (c:=⟨names,λx=>q.scope.names.lookup x⟩) (ow:=fn.ow) (fr:=fn.fr) (N:=N) ff gcs hY 60 q.body fn.body K.tr;?_;induction hx:exSs P.Φ P.Γ fn.ow fn.fr N fn.body (ds.map some++List.replicate (fn.ns - fn.np) none) with
 | none=>exact nN (hx ▸ hev)
 | some res=>
  rw [hx] at hev;obtain ⟨fl',m'⟩:=res;induction fl' with
  | next=>exact nN hev
  | ret=>exact nN hev
  | exc x'=>
   obtain rfl:=Qv hev;refine have F:FrOk (A.deeper env) env s base outer:=⟨hfr outer B.stack,hf,B.stays,B.frames⟩;?_;refine Qs (body _ _ _ _ _ _ _ _ _ base outer I K.ok hx (λZ=>F) λz=>by exact nF (hc.symm.trans z)) (λfl s' hf=>hf.elim) λv s' z=>?_;refine byG λX_ g_=>?_;obtain ⟨⟨cls,n,e,C,dx,tk,a1,a2,rfl,a4,a5,a6,a7,a8,a9,_⟩,st,ff',up,_,h8,t8,rfl⟩:=z;refine g_ ?_;refine yB F.fr F.loc ff' st a5 a6 λh' H u=>?_;exact ⟨⟨cls,n,e,C,dx,tk,a1,a2,rfl,a4,H,u.ns a7,a8,a9⟩,up.trans u,h',t8,rfl⟩
end
set_option tactic.hygienic true
section
variable {prog:Program}{w:World}{A:Around}{E:Value->Shared->Prop}{h:Heap}{g:Array GenState}{d:Drawn}{t:Nat}{os:OsState}{C fI e:Addr}{bm:List Value}{oe:Obj}
theorem kB{D:Addr}{Q:Bool->Shared->Prop}(O:OwnX h C bm fI)(OD:OwnX h D bmD fI)(he:h.get? e=some oe)(hc:oe.cls = .ref C)(hb:(Value.ref C::bm).contains (.ref D)=true)(hq:Q true ⟨h,g,d,t,os⟩) :
 wpAny M A (excMatches (.ref e) (.ref D)) Q E ⟨h,g,d,t,os⟩:=by
 refine byG λX_ g_=>?_;obtain ⟨nm,q,N,bs,sn,sub,ab,col,dd,k0,k1,k2,k3,k5,hC⟩:=O.obj;obtain ⟨nm',q',N',bs',sn',sub',ab',col',dd',k0',k1',k2',k3',k5',hD⟩:=OD.obj;refine g_ ?_;refine have f:=tc_notTuple;?_;unfold excMatches
 repeat (first | (with_reducible refine wpAny_loadPart_at he ?_;rw [hc]) | with_reducible refine wpAny_loadPart_at hD ?_ | (with_reducible refine bT OD ?_;rw [show bmV.contains (.type "BaseException")=true by decide]) | (with_reducible refine wpAny_isSubtype_exc hC ?_;rw [hb]) | wp_step)
 exact hq
theorem pU{t:Expr}{n:Str}{D:Addr}{Q:Flow->Shared->Prop}
 (h:wpAny (model prog w) (A.mark (some (.ref e))) (eval t env) (λc s₁=>c = .ref D/\(OwnX s₁.heap C bm fI/\OwnX s₁.heap D bmD fI/\(∃ oe,s₁.heap.get? e=some oe/\oe.cls = .ref C)/\(Value.ref C::bm).contains (.ref D)=true) /\
  wpAny (model prog w) (A.mark (some (.ref e))) (setFlight (.ref e) none) (λZ s₂=>
   wpAny (model prog w) (A.mark (some (.ref e))) (storeName env n (.ref e)) (λZ s₃=>
    wpAny (model prog w) (A.mark (some (.ref e))) (execs (b₀::suite) env)
     (λf s₄=>wpAny (model prog w) A (do bindName env n .none;unbindBehindTheSuite env n pos) (λZ s₅=>Q f s₅) E s₄)
     (λZ Z=>False) s₃) (λZ Z=>False) s₂) (λZ Z=>False) s₁) (λZ Z=>False) s) :
 wpAny (model prog w) A (handleBy (.ref e) env (.ExceptHandler (some t) (some n) (b₀::suite) pos::rest)) Q E s:=by
 refine wpAny_handleBy_cons (codeAny_handlers_test (Qs h (λc s₁ h₁=>?_) λZ Z y=>y.elim)) (by intro q;exact Value.noConfusion q);refine byG λX_ g_=>?_;obtain ⟨rfl,⟨O,OD,⟨oe,he,hcls⟩,hb⟩,hk⟩:=h₁;obtain ⟨hh,g,d,tk,os⟩:=s₁;refine g_ ?_;refine kB O OD he hcls hb (codeAny_handlers_suite_as ?_);exact Qs hk (λZ s₂ h₂=>Qs h₂ (λZ s₃ h₃=>Qs h₃ (λZ Z z=>z) λZ Z z=>z.elim) λZ Z z=>z.elim) λZ Z z=>z.elim
end
structure CatCk(P:Pk)(ff ff0:Str->Option Bool)(gcs:Str->Bool)(f:Str)(q:FR)(fn:CatFn)(pn names:List Str):Prop where
 st:FnSt P f q fn.np fn.ns [] pn names
 body:∃ tb tp np en b0 bs hp rv rp,q.body=[.Try [tb] [.ExceptHandler (some (.Name "DeskError" np)) (some en) (b0::bs) hp] [] [] tp,.Return (some rv) rp] /\
  (∀ (P:Pk) (r N:Nat),Hyp P r ff->SS P r ⟨names,λx=>q.scope.names.lookup x⟩ [] false N tb fn.tb)/\trSs ff0 gcs 60 ⟨names,λx=>q.scope.names.lookup x⟩ (b0::bs)=some fn.hb/\trE ff gcs 40 ⟨names,λx=>q.scope.names.lookup x⟩ rv=some fn.rv /\
  slotOf names en=some fn.i/\q.scope.names.lookup en=some .local
 dk:q.scope.names.lookup ("DeskError" : Str)=some .globalImplicit
 ok1:okS [] fn.tb=true
 ok2:okSs [] fn.hb=true
 ok3:okE [] fn.rv=true
 nc1:catS fn.tb=false
 nc2:catSs fn.hb=false
 ncl:(q.scope.names.all λp=>p.2 != .cell)=true
section
variable {P:Pk}{r:Nat}{N:Nat}
theorem wM(h1:slotOf names x=some i)(h2:slotOf names y=some i):x=y:=by
 refine have a:=(aQ h1).2;?_;rw [(aQ h2).2] at a;exact (Qv a).symm
set_option tactic.hygienic false in
theorem sK{ff ff0 fr0:Str->Option Bool}{gcs:Str->Bool}{Φ0:Str->List D->Option D}(hY0:Hyp { P with fr:=fr0,Φ:=Φ0 } r ff0)(hb0:fr0 bang=none)(K:CatCk P ff ff0 gcs f q fn pn names)
 {own:Nat->Addr} {G:Addr->Prop} {n:Int} {t:Nat} {dd:D} {mm:Str->Option Value}
 (hcl:(q.scope.names.all λp=>p.2 != .cell)=true->env.cells=[]) (I:Inv P r ⟨names,λx=>q.scope.names.lookup x⟩ A env [] s as s1 m own G) (F:FrOk A env s base outer) (hgb:P.GP base) (hcls:cls ∈ exN) (hC:P.mg cls=some (.ref C)) (Hc:Hd base (env::outer) e C dx .none hc) (hdx:hc.Ns dx (atM (.int n tk))) (hdl:dx ≠ env.locals) (hmc:hc.Ns env.locals mm) (hup:s.heap.UpToSlots hc)
 (hhb:trSs ff0 gcs 60 ⟨names,λx=>q.scope.names.lookup x⟩ (b0::bs)=some fn.hb) (hsl:slotOf names en=some fn.i) (hen:q.scope.names.lookup en=some .local)
 (hev:((exSs Φ0 P.Γ [] false N fn.hb ((List.replicate fn.ns none).set fn.i (some (xD cls n)))).bind λq=>match q.1 with | .ret d=>if noDict d then some d else none | _=>none)=some dd)
 (hnd:hd.Ns env.locals (λx=>if x=en then some (.ref e) else mm x)) (hsb:Heap.SameBut env.locals hc hd) {Q:Flow->Shared->Prop} {E:Value->Shared->Prop} (hQ:∀ v h' t',base.StaysIn h'->s.heap.UpToSlots h'->(∃ bs,Rd P.H h' v dd bs)->Q (.ret v) { s with heap:=h',toks:=t' }) :
 wpAny (model P.prog P.w) (A.mark (some (.ref e))) (execs (b0::bs) env) (λf s₄=>wpAny (model P.prog P.w) A (do bindName env en .none;unbindBehindTheSuite env en hp) (λZ s₅=>Q f s₅) E s₄) (λZ Z=>False) { s with heap:=hd,toks:=t }:=by
 refine have nl:base.get? env.locals=none:=I.newL F;?_;refine byG λX_ g_=>?_;obtain ⟨oe,vs,T,oT,ts,⟨he,hcl',hdd,hdt⟩,_⟩:=Hc.tr;obtain ⟨oL,es,ep,hL,hLd,hLr⟩:=hnd;refine g_ ?_;refine have hnd:hd.Ns env.locals (λx=>if x=en then some (.ref e) else mm x):=⟨oL,es,ep,hL,hLd,hLr⟩;?_;have hel:e ≠ env.locals:=λz=>by
  obtain ⟨o',es',ep',h1,h2,_⟩:=hmc;rw [z,h1] at he;obtain rfl:=Qv he;rw [hdt] at h2;cases h2
 refine have hcn:env.cells=[]:=hcl K.ncl;?_;have nocell:∀ {α:Prop} (x:Str) (a:Addr),env.cells.lookup x=some a->α:=λx a z=>by exact nN (hcn ▸ z)
 refine have gE:({ P with fr:=fr0,Φ:=Φ0 }:Pk).GP (eras hd env.locals):=(by
  have g:=hgb.keeps (h':=eras hd env.locals) λb o z=>by
   have hne:b ≠ env.locals:=λw=>by exact nN (nl ▸ w ▸ z)
   rw [ew hne,hsb.2 b hne];exact Hc.st b o z
  exact ⟨g.g,g.b,g.nolimit,g.fn,g.gc,g.bi,g.bb,g.hs,g.ex⟩);?_
 have ers:∀ b o,(eras hd env.locals).get? b=some o->hd.get? b=some o:=λb o z=>by
  by_cases w:b=env.locals
  ·rw [w,ia] at z;exact nN z
  ·rw [ew w] at z;exact z
 refine have m0l:((List.replicate fn.ns none).set fn.i (some (xD cls n)):St).length=names.length:=(by rw [List.length_set,Yv];exact K.st.ns);?_
 refine have I0:Inv { P with fr:=fr0,Φ:=Φ0 } r ⟨names,λx=>q.scope.names.lookup x⟩ (A.mark (some (.ref e))) env [] { s with heap:=eras hd env.locals,toks:=t } [e,dx] { s with heap:=hd,toks:=t } ((List.replicate fn.ns none).set fn.i (some (xD cls n))) (λZ=>0) (λb=>b ∈ [e,dx]\/hd.get? b=none):=(by
  refine ⟨⟨λz=>?_,I.room.depth,I.room.units⟩,gE,⟨I.er.fn,I.er.gl,I.er.bu,I.er.kd,m0l,(λi z=>nF z),I.er.cel,λx i d h1 h2 h3=>?_⟩,λb z=>.inr z,⟨hd,t,rfl,ers⟩,λb z=>z.imp id λz=>?_,⟨_,hnd⟩,λx a z=>nocell x a z,λx y a z=>nocell x a z,?_,λx a z=>nocell x a z,ia _ _,λx a z=>nocell x a z,(λi d z=>nF z),λi j d d' Z z=>nF z⟩
  ·have:(fr0 bang).isSome=true:=z
   rw [hb0] at this;exact nF this
  ·have hi:i=fn.i:=by
    by_cases w:i=fn.i
    ·exact w
    ·rw [List.getElem?_set_ne (Ne.symm w)] at h2
     have:=Qa h2;simp at this
   subst hi;have hxe:=wM h1 hsl;clear h1 h3 m0l gE nocell hcn hLr hLd hsl hmc F hcl hb0;subst hxe;have hlt:fn.i < ((List.replicate fn.ns none).set fn.i (some (xD cls n)):St).length:=(Qq h2).1;rw [Y7 (by rw [List.length_set] at hlt;exact hlt)] at h2;cases h2;refine ⟨.ref e,[e,dx],.inl ⟨(I.er.kd x).trans hen,_,hnd,Ql rfl⟩,?_,nF,λZ a ha=>.inl ha⟩;refine .exc (a:=e) (dx:=dx) (C:=C) (o:=oe) (vs:=vs) ⟨(hsb.2 e hel).trans he,hcl',hdd,hdt⟩ (hdx.sameBut hsb hdl) ⟨hgb.hs.2.2 cls hcls C hC,hcls⟩
  ·induction w:(eras hd env.locals).get? b with
   | none=>rfl
   | some o=>exact nS ((ers b o w).symm.trans z)
  ·rintro (z | z)
   ·rcases Qw z with w | w
    ·exact hel w.symm
    ·exact hdl (Qx w).symm
   ·exact nS (hL.symm.trans z));?_
 refine aa hev λres hx hev=>?_;obtain ⟨fl,m'⟩:=res;induction fl with
 | next=>exact nN hev
 | exc=>exact nN hev
 | ret d0=>
  obtain ⟨hnd0,hev⟩:=al (show (if noDict d0=true then some d0 else none)=some dd from hev);obtain rfl:=Qv hev;refine have body:=ey (P:={ P with fr:=fr0,Φ:=Φ0 }) (r:=r) (c:=⟨names,λx=>q.scope.names.lookup x⟩) (ow:=[]) (fr:=false) (N:=N) ff0 gcs hY0 60 (b0::bs) fn.hb hhb;?_;refine Qs (body _ _ _ _ _ _ _ _ _ base outer I0 K.ok2 hx nF λz=>by exact nF (K.nc2.symm.trans z)) (λfl s5 hf=>?_) λZ Z z=>z.elim;refine byG λX_ g_=>?_;obtain ⟨v,rfl,k5,⟨m5,n5⟩,bs5,rd,_,_⟩:=hf;refine g_ ?_;refine wpAny_nameGoes ((I.er.kd en).trans hen) n5 (by exact I.er.fn ▸ rfl) λh' m' hn' hs'=>?_;have kL:∀ b o,b ≠ env.locals->hc.get? b=some o->h'.get? b=some o:=λb o w z=>by
   rw [hs'.2 b w];refine k5.get b o ?_;show (eras hd env.locals).get? b=some o;rw [ew w,hsb.2 b w];exact z
  clear hn' g_ body hev hx I0 m0l ers gE nocell hcn hel hnd hLr hLd hL hdt hdd hcl' he right hsb hen hsl hhb hmc hdl hdx hC hcls hgb F hcl K hb0 hY0;obtain ⟨h5,t5,rfl,k5'⟩:=k5;refine hQ v h' _ (λb o z=>kL b o (λw=>by exact nN (nl ▸ w ▸ z)) (Hc.st b o z)) (λb o z hn=>?_) ⟨bs5,?_⟩
  ·obtain ⟨sl,w⟩:=hup b o z hn
   exact ⟨sl,kL b _ (λy=>by exact nN (I.nL ▸ y ▸ z)) w⟩
  ·obtain ⟨o5,es5,ep5,q1,q2,_⟩:=n5
   refine Rd.but (H:=P.H) (λb=>b=env.locals) rd (λb o w z=>(hs'.2 b w).trans z) (λb o w z vs' n' y=>?_) λa ha w=>?_
   ·subst w
    rw [q1] at z;obtain rfl:=Qv z;rw [y] at q2;cases q2
   ·obtain ⟨vs',n',y⟩:=Rd.oldL_both.1 rd hnd0 a ha
    subst w;rw [q1] at y;obtain rfl:=Qv y;cases q2
theorem pV{ff ff0 fr0:Str->Option Bool}{gcs:Str->Bool}{Φ0:Str->List D->Option D}(hY:Hyp P r ff)(hY0:Hyp { P with fr:=fr0,Φ:=Φ0 } r ff0)(hb0:fr0 bang=none){f:Str}(K:CatCk P ff ff0 gcs f q fn pn names)
 (A:Around) (s:Shared) (v:Value) (d:D) (as:List Addr) (dd:D) (base:Heap) (outer:List Env) (hA:Room P.lp A (r+1)) (hg:P.GP s.heap) (hgb:P.GP base) (rd:Rd P.H s.heap v d as) (hev:dF P.Φ Φ0 P.Γ N fn [d]=some dd) (B:PyProof.Rows.Below A base outer s.heap) :
 ∃ a o fd,P.mg f=some (.ref a)/\s.heap.get? a=some o/\o.data = .func fd/\wpAny (model P.prog P.w) A (call (.ref a) [v])
  (λu s'=>base.StaysIn s'.heap/\s.heap.UpToSlots s'.heap/\(∃ h' t',s'={ s with heap:=h',toks:=t' })/\∃ bs,Rd P.H s'.heap u dd bs) (λZ Z=>False) s:=by
 unfold dF at hev;refine byG λX_ g_=>?_;obtain ⟨hnp,hev⟩:=al hev;obtain ⟨tb,tp,np,en,b0,bs,hp,rv,rp,hbody,htb,hhb,hrv,hsl,hen⟩:=K.body;obtain ⟨a,o,fd,h1,h2,h3,h4⟩:=fn_enter (r:=r) K.st A s [v] [d] as hA hg (RdAll.one rd) hnp;refine g_ ?_;refine ⟨a,o,fd,h1,h2,h3,wpAny_call (h4 _ λenv s1 I hf hfr hcl=>?_)⟩;refine have F:FrOk (A.deeper env) env s base outer:=⟨hfr outer B.stack,hf,B.stays,B.frames⟩;?_;have hT:catS fn.tb=true->TopF (A.deeper env) env:=λz=>by exact nF (K.nc1.symm.trans z)
 rw [hbody];refine have st:=htb P r N hY;?_;induction hx:exS P.Φ P.Γ [] false N fn.tb ([d].map some++List.replicate (fn.ns - fn.np) none) with
 | none=>exact nN (hx ▸ hev)
 | some res=>
  rw [hx] at hev;obtain ⟨fl',m'⟩:=res;induction fl' with
  | ret=>exact nN hev
  | next=>
   refine Yg (wpAny_Try_except (Yg (Qs (st _ _ _ _ _ _ _ _ _ base outer I K.ok1 hx (λZ=>F) hT) (λfl s2 hf=>?_) λZ Z z=>z.elim)));obtain ⟨rfl,own',G',I',_⟩:=hf;refine Yp (Yp (Yg (wpAny_Return_some (Qs (SE.us (Q:=λu s3=>Kp s2 s3/\∃ bs,Rd P.H s3.heap u dd bs) (aH ff gcs hY.ok hY.hf 40 _ _ _ hrv).1 I'.pre K.ok3 hev λu s3 k bs rd Z Z Z Z=>⟨k,bs,rd⟩) (λu s3 z=>?_) λZ Z z=>z.elim))));refine have k:=I'.kp.trans z.1;?_;exact ⟨λb o e=>k.get b o (B.stays b o e),.of_keeps k.get,k.sh s3.heap s3.toks,z.2⟩
  | exc x=>
   refine Yg (wpAny_Try_except (Yg (Qs (st _ _ _ _ _ _ _ _ _ base outer I K.ok1 hx (λZ=>F) hT) (λfl s2 hf=>hf.elim) λv' s2 z=>?_)));refine byG λX_ g_=>?_;clear hx hT hfr hf h4 h3 h2 h1 hrv htb hbody hnp B rd hg hA hY;obtain ⟨⟨cls,n,e,C,dx,tk,rfl,hcls,rfl,hC,hen',hst3,hdx,hse,hsd,hdl⟩,hkb,hff,hup,⟨mm,hmm⟩,h8,t8,rfl⟩:=z;refine g_ ?_;refine we F.fr F.loc hff hkb hen' hst3 λha Ha ua=>?_;refine wc Ha λhb Hb ub=>?_;refine have g1:P.GP hb:=hgb.keeps Hb.st;?_;refine byG λX_ g_=>?_;obtain ⟨fI,hI,hxs⟩:=g1.ex;obtain ⟨C',bm,c1,c2,c3⟩:=hxs cls hcls;refine have hCC:C'=C:=(by rw [hC] at c1;obtain rfl:=Value.ref.inj (Qv c1);rfl);?_;subst hCC;obtain ⟨D,bmD,d1,d2,d3⟩:=hxs "DeskError" (by decide);refine g_ ?_
   refine have hcon:(Value.ref C'::bm).contains (.ref D)=true:=(by
    exact (c3 "DeskError" (by decide) D d1).trans (YD _));?_
   refine have hloc:env.kindOf en=some .local:=(I.er.kd en).trans hen;?_;refine have hpk:(env.scope.kind == .class||(env.scope.kind == .module&&env.locals != env.globals))=false:=(by exact I.er.fn ▸ rfl);?_;refine have ho:=Hb.tr;?_;refine byG λX_ g_=>?_;obtain ⟨oe,vs,T,oT,ts,⟨he,hcl',hdd,hdt⟩,_⟩:=ho;refine g_ ?_;refine pU (C:=C') (bm:=bm) (fI:=fI) (D:=D) (bmD:=bmD) ?_;refine YF I.er.fn ((I.er.kd _).trans K.dk) (Calls.loadGlobal_global (I.er.gl ▸ g1.g) d1 ⟨rfl,⟨c2,d2,⟨oe,he,hcl'⟩,hcon⟩,?_⟩) (by decide);refine wc Hb λhc Hc uc=>?_;refine have u3:=(ua.trans ub).trans uc;?_;refine wpAny_storeName_local hloc (u3.ns hmm) (λhd hnd hsb=>?_) hpk;exact sK hY0 hb0 K hcl I F hgb hcls hC Hc (u3.ns hdx) hdl (u3.ns hmm) (hup.trans u3) hhb hsl hen hev hnd hsb λv h' t' z1 z2 z3=>⟨z1,z2,⟨h',t',rfl⟩,z3⟩
end
set_option tactic.hygienic false
def mkΦ(Γ:Str->Option D)(N:Nat):List (Str × Fn)->Str->List D->Option D
 | []=>λZ Z=>none
 | (f,fn)::rest=>λg args=>if g == f then runFn (mkΦ Γ N rest) Γ N fn args else if g == exn f then runX (mkΦ Γ N rest) Γ N fn args else mkΦ Γ N rest g args
def mkC(Γ:Str->Option D)(N:Nat)(tbl tbl0:List (Str × Fn))(cats:List (Str × CatFn)):Str->List D->Option D:=λg args=>match cats.lookup g with
 | some c=>dF (mkΦ Γ N tbl) (mkΦ Γ N tbl0) Γ N c args
 | none=>mkΦ Γ N tbl g args
noncomputable def cM(p:Arguments):Bool:=p.posonlyargs.isEmpty&&p.vararg.isNone&&p.kwonlyargs.isEmpty&&p.kwarg.isNone&&p.defaults.isEmpty
noncomputable def wN(scope:Scope):List Str:=scope.names.filterMap λ(n,k)=>if k == .local||k == .cell then some n else none
noncomputable def jf:List Str->Bool
 | []=>true
 | x::r=>!r.contains x&&jf r
noncomputable def pnOf(q:FR):List Str:=q.params.args.map (·.arg)
def dP(q:FR):List Str:=pnOf q++(wN q.scope).filter (λx=>!(pnOf q).contains x)
def tcOf(q:FR):TC:=⟨dP q,λx=>q.scope.names.lookup x⟩
def eR(q:FR)(ow:List Nat):Bool:=
 cM q.params&&jf (dP q)&&(pnOf q).all (λx=>q.scope.names.lookup x == some .local||q.scope.names.lookup x == some .cell) &&
 !q.scope.isCoroutine&&!q.scope.isGenerator&&q.scope.kind == .function&&ow.all (λi=>decide ((pnOf q).length<=i/\i < (dP q).length))
def mkFn(ff:Str->Option Bool)(gcs:Str->Bool)(q:FR)(ow:List Nat)(fr:Bool):Option Fn:=
 (trSs ff gcs 60 (tcOf q) q.body).bind λbody=>
  if eR q ow&&okSs ow body then some ⟨(pnOf q).length,(dP q).length,ow,fr,body⟩ else none
def jg(defs:Str->Option FR)(ff:Str->Option Bool)(gcs:Str->Bool):List (Str × List Nat × Bool)->Option (List (Str × Fn))
 | []=>some []
 | (f,ow,fr)::rest=>(defs f).bind λq=>(mkFn ff gcs q ow fr).bind λfn=>(jg defs ff gcs rest).bind λt=>if ff f == some fr&&!catSs fn.body then some ((f,fn)::t) else none
def zn(q:FR)(t:Expr)(en:Str)(tb:Sm)(hb:Sms)(rv:Ex):Bool:=
 bR t == some ("DeskError" : Str)&&eR q []&&q.scope.names.lookup en == some .local&&q.scope.names.lookup ("DeskError" : Str) == some .globalImplicit &&
 okS [] tb&&okSs [] hb&&okE [] rv&&!catS tb&&!catSs hb&&q.scope.names.all λp=>p.2 != .cell
def wO(ff ff0:Str->Option Bool)(gcs:Str->Bool)(q:FR):Option CatFn:=
 (two1 q.body).bind λp=>onTr p.1 (λtbs hs oe fb Z=>onRe p.2 (λv Z=>(one1 tbs).bind λtb=>(one1 hs).bind λh=>(yy h).bind λt=>v.bind λrv=>
  if oe.isEmpty&&fb.isEmpty&&!t.2.2.isEmpty then
   (trTb ff gcs (tcOf q) tb).bind λtb'=>(trSs ff0 gcs 60 (tcOf q) t.2.2).bind λhb=>(trE ff gcs 40 (tcOf q) rv).bind λrv'=>(slotOf (dP q) t.2.1).bind λi=>
    if zn q t.1 t.2.1 tb' hb rv' then some ⟨(pnOf q).length,(dP q).length,i,tb',hb,rv'⟩ else none
  else none) none) none
def lH(defs:Str->Option FR)(ff ff0:Str->Option Bool)(gcs:Str->Bool):List Str->Option (List (Str × CatFn))
 | []=>some []
 | f::r=>(defs f).bind λq=>(wO ff ff0 gcs q).bind λc=>(lH defs ff ff0 gcs r).map λt=>(f,c)::t
noncomputable def ffOf(sgs:List (Str × List Nat × Bool)):Str->Option Bool:=λf=>(sgs.lookup f).map (·.2)
theorem Bb(Γ:Str->Option D)(N:Nat)(f:Str)(fn:Fn)(rest:List (Str × Fn))(g:Str)(args:List D):mkΦ Γ N ((f,fn)::rest) g args=if (g == f)=true then runFn (mkΦ Γ N rest) Γ N fn args else if (g == exn f)=true then runX (mkΦ Γ N rest) Γ N fn args else mkΦ Γ N rest g args:=rfl
noncomputable def Pk.with(P:Pk)(Φ:Str->List D->Option D):Pk:={ P with Φ:=Φ }
theorem GP.cv{P:Pk}{Φ Φ':Str->List D->Option D}{fr fr':Str->Option Bool}{h:Heap}(g:Pk.GP { P with fr:=fr,Φ:=Φ } h):Pk.GP { P with fr:=fr',Φ:=Φ' } h:=⟨g.g,g.b,g.nolimit,g.fn,g.gc,g.bi,g.bb,g.hs,g.ex⟩
theorem kC{P:Pk}{Φ Φ':Str->List D->Option D}{g:Str}{A:Around}{s:Shared}{vs:List Value}{x:D}{base:Heap}{outer:List Env}
 (h:∃ a o fd,(P.with Φ).mg g=some (.ref a)/\s.heap.get? a=some o/\o.data = .func fd/\wpAny (model (P.with Φ).prog (P.with Φ).w) A (call (.ref a) vs) (λZ Z=>False) (OutX (P.with Φ) base outer s x) s) :
 ∃ a o fd,(P.with Φ').mg g=some (.ref a)/\s.heap.get? a=some o/\o.data = .func fd/\wpAny (model (P.with Φ').prog (P.with Φ').w) A (call (.ref a) vs) (λZ Z=>False) (OutX (P.with Φ') base outer s x) s:=
 h.imp λa h=>h.imp λo h=>h.imp λfd h=>⟨h.1,h.2.1,h.2.2.1,Qs h.2.2.2 (λZ Z z=>z) λZ Z z=>⟨z.ex,z.up,z.sh⟩⟩
theorem Room.less(h:Room b A r)(hr:r'<=r):Room b A r':=⟨h.hd,Qh (Zt (ZQ hr _) _) h.depth,Qh (Zt (ZQ (Zj 4 hr) _) _) h.units⟩
theorem wP(h:exn f=exn g):f=g:=by
 refine have : #[33]++f.cps = #[33]++g.cps:=Qf Str.cps h;?_;refine have e:=Array.append_right_inj _ |>.mp this;?_
 clear this h;induction f;induction g;subst e;rfl
theorem pW(hf:f ∈ catN):f ≠ exn g:=λh=>by
 refine have e:f.cps[0]?=some 33:=(by
  rw [h]
  exact (Array.getElem?_append_left (by decide:0 < #[33].size)).trans rfl);?_
 unfold catN at hf;simp only [YW,YJ,or_false] at hf;clear h;rcases hf with rfl | rfl<;>exact absurd e (by decide)
structure NmOk(P:Pk):Prop where
 df:∀ g fr,P.fr g=some fr->g ≠ bang->∃ q,P.defs g=some q
 cd:∀ f ∈ catN,∃ q,P.defs f=some q
 xn:∀ g fr,P.fr g=some fr->P.fr (exn g)=none
 cn:∀ f ∈ catN,P.fr f=none
structure EnOk(P:Pk)(gcs:Str->Bool)(e:Str × Fn):Prop where
 ck:∃ q pn names,FnCk P P.fr gcs e.1 q e.2 pn names
 fr:P.fr e.1=some e.2.fr
 ct:catSs e.2.body=false
theorem uQ(H:NmOk P)(hf:f ∈ catN)(args:List D):∀ tbl:List (Str × Fn),(∀ e ∈ tbl,EnOk P gcs e)->mkΦ Γ N tbl f args=none:=by
 intro tbl;induction tbl with
 | nil=>intro _;rfl
 | cons p rest ih=>
  intro h;obtain ⟨g,fn⟩:=p;refine have h2:(f == exn g)=false:=beq_eq_false_iff_ne.mpr (pW hf);?_
  rw [Bb,(beq_eq_false_iff_ne.mpr λe=>by
   have:=(h (g,fn) (.head _)).fr
   exact nN ((H.cn f hf) ▸ e ▸ this)),h2]
  exact ih λe he=>h e (.tail _ he)
theorem kD(H:NmOk P)(hc:∀ e ∈ tbl,EnOk P gcs e)(h1:(P.with (mkΦ P.Γ N tbl)).FnOk r)(h2:(P.with (mkΦ P.Γ N tbl)).FnX r):Hyp (P.with (mkΦ P.Γ N tbl)) r P.fr:=by
 refine ⟨h1,h2,λg fr h=>⟨h,H.df g fr h⟩,λZ=>⟨λf hf A s v d as dd base outer Z Z Z Z hev=>?_,H.cd⟩⟩;refine have:mkΦ P.Γ N tbl f [d]=none:=uQ H hf _ tbl hc;?_;rw [show (P.with (mkΦ P.Γ N tbl)).Φ f [d]=mkΦ P.Γ N tbl f [d] from rfl,this] at hev;exact nN hev
theorem uR{P:Pk}{gcs:Str->Bool}{N:Nat}(H:NmOk P):∀ (tbl:List (Str × Fn)),(∀ e ∈ tbl,EnOk P gcs e)->(P.with (mkΦ P.Γ N tbl)).FnOk tbl.length/\(P.with (mkΦ P.Γ N tbl)).FnX tbl.length:=by
 intro tbl;induction tbl with
 | nil=>exact λZ=>⟨(λf fr Z A s vs ds as d Z Z Z h=>nN h),λf fr Z A s vs ds as d Z Z Z Z Z h=>nN h⟩
 | cons p rest ih=>
  intro hc;obtain ⟨f,fn⟩:=p;refine have hc':=λe he=>hc e (.tail _ he);?_;refine have ih:=ih hc';?_;refine have hY:=kD H hc' ih.1 ih.2;?_;obtain ⟨⟨q,pn,names,K⟩,hfr,hct⟩:=hc (f,fn) (.head _);refine have K':FnCk (P.with (mkΦ P.Γ N rest)) P.fr gcs f q fn pn names:=⟨⟨K.st.def',K.st.nd,K.st.pre,K.st.np,K.st.ns,K.st.kinds,K.st.bind,K.st.co,K.st.gen,K.st.kind,K.st.ow⟩,K.tr,K.ok⟩;?_;refine ⟨λg fr hg A s vs ds as d hA hgp ra hev=>?_,λg fr hg A s vs ds as x base outer hA hgp ra hev B=>?_⟩
  ·replace hev:(if (g == f)=true then runFn (mkΦ P.Γ N rest) P.Γ N fn ds else if (g == exn f)=true then runX (mkΦ P.Γ N rest) P.Γ N fn ds else mkΦ P.Γ N rest g ds)=some d:=hev
   refine have hgp':(P.with (mkΦ P.Γ N rest)).GP s.heap:=GP.cv (P:=P) hgp;?_;induction hb:g == f with
   | true=>
    rw [hb] at hev;refine have e:=Q4 hb;?_;clear K hc' hc;subst e;refine byG λX_ g_=>?_;obtain ⟨a,o,fd,h1,h2,h3,h4⟩:=fn_sound (N:=N) hY K' A s vs ds as d hA hgp' ra hev λz=>by exact nF (hct.symm.trans z)
    refine g_ ?_;refine have:fr=fn.fr:=Qv ((show P.fr g=some fr from hg).symm.trans hfr);?_;exact this ▸ (⟨a,o,fd,h1,h2,h3,h4⟩)
   | false=>
    have hx:(g == exn f)=false:=beq_eq_false_iff_ne.mpr λe=>by
     have:=H.xn f _ hfr;exact nS ((show P.fr g=some fr from hg) ▸ e ▸ this)
    rw [hb,hx] at hev;exact ih.1 g fr hg A s vs ds as d (hA.less (Zs _)) hgp' ra hev
  ·replace hev:(if (exn g == f)=true then runFn (mkΦ P.Γ N rest) P.Γ N fn ds else if (exn g == exn f)=true then runX (mkΦ P.Γ N rest) P.Γ N fn ds else mkΦ P.Γ N rest (exn g) ds)=some x:=hev
   refine have hgp':(P.with (mkΦ P.Γ N rest)).GP s.heap:=GP.cv (P:=P) hgp;?_;have hb:(exn g == f)=false:=beq_eq_false_iff_ne.mpr λe=>by
    have:=H.xn g _ hg;exact nS (hfr ▸ e ▸ this)
   rw [hb] at hev;induction hx:exn g == exn f with
   | true=>
    rw [hx] at hev;refine have e:=wP (Q4 hx);?_;clear hb hgp K hfr hc' hc H;subst e;exact kC <| fn_soundX (N:=N) hY K' A s vs ds as x base outer hA hgp' ra hev B hct
   | false=>
    rw [hx] at hev;exact kC <| ih.2 g fr hg A s vs ds as x base outer (hA.less (Zs _)) hgp' ra hev B
theorem wQ{P:Pk}{ff0:Str->Option Bool}{gcs:Str->Bool}{N:Nat}(H:NmOk P)(H0:NmOk { P with fr:=ff0 })(hb0:ff0 bang=none){tbl tbl0:List (Str × Fn)}(hc:∀ e ∈ tbl,EnOk P gcs e)(hc0:∀ e ∈ tbl0,EnOk { P with fr:=ff0 } gcs e)(hle:tbl0.length<=tbl.length){cats:List (Str × CatFn)}
 (hcats:∀ f c,cats.lookup f=some c->f ∈ catN/\∃ q pn names,CatCk P P.fr ff0 gcs f q c pn names):Hyp (P.with (mkC P.Γ N tbl tbl0 cats)) (tbl.length+1) P.fr:=by
 refine have T:=uR (N:=N) H tbl hc;?_;refine have T0:=uR (N:=N) H0 tbl0 hc0;?_;refine have hY:=kD H hc T.1 T.2;?_;refine have hY0:=kD H0 hc0 T0.1 T0.2;?_
 refine have hY0':Hyp ({ P.with (mkΦ P.Γ N tbl) with fr:=ff0,Φ:=mkΦ P.Γ N tbl0 }:Pk) tbl.length ff0:=(by
  refine ⟨λg fr hg A s vs ds as d hA=>hY0.ok g fr hg A s vs ds as d (hA.less hle),λg fr hg A s vs ds as x base outer hA=>hY0.ox g fr hg A s vs ds as x base outer (hA.less hle),hY0.hf,λz=>by rw [hb0] at z;cases z⟩);?_
 have no:∀ g fr,P.fr g=some fr->cats.lookup g=none:=λg fr hg=>by
  induction q:cats.lookup g with
  | none=>rfl
  | some c=>exact nN ((H.cn g (hcats g c q).1).symm.trans hg)
 have nox:∀ g,cats.lookup (exn g)=none:=λg=>by
  induction q:cats.lookup (exn g) with
  | none=>rfl
  | some c=>exact absurd rfl (pW (g:=g) (hcats _ c q).1)
 refine ⟨λg fr hg A s vs ds as d hA hgp ra hev=>?_,λg fr hg A s vs ds as x base outer hA hgp ra hev B=>?_,λg fr h=>⟨h,H.df g fr h⟩,λZ=>⟨λf hf A s v d as dd base outer hA hgp hgb rd hev B=>?_,H.cd⟩⟩
 ·replace hev:(match cats.lookup g with | some c=>dF (mkΦ P.Γ N tbl) (mkΦ P.Γ N tbl0) P.Γ N c ds | none=>mkΦ P.Γ N tbl g ds)=some d:=hev
  rw [no g fr hg] at hev;exact T.1 g fr hg A s vs ds as d (hA.less (Zs _)) (GP.cv (P:=P) hgp) ra hev
 ·replace hev:(match cats.lookup (exn g) with | some c=>dF (mkΦ P.Γ N tbl) (mkΦ P.Γ N tbl0) P.Γ N c ds | none=>mkΦ P.Γ N tbl (exn g) ds)=some x:=hev
  rw [nox g] at hev;exact kC <| T.2 g fr hg A s vs ds as x base outer (hA.less (Zs _)) (GP.cv (P:=P) hgp) ra hev B
 ·replace hev:(match cats.lookup f with | some c=>dF (mkΦ P.Γ N tbl) (mkΦ P.Γ N tbl0) P.Γ N c [d] | none=>mkΦ P.Γ N tbl f [d])=some dd:=hev
  induction q:cats.lookup f with
  | none=>exact nN ((uQ H hf _ tbl hc) ▸ q ▸ hev)
  | some c=>
   rw [q] at hev;refine byG λX_ g_=>?_;obtain ⟨_,q,pn,names,K⟩:=hcats f c q;refine g_ ?_;refine have K':CatCk (P.with (mkΦ P.Γ N tbl)) P.fr ff0 gcs f q c pn names:=⟨⟨K.st.def',K.st.nd,K.st.pre,K.st.np,K.st.ns,K.st.kinds,K.st.bind,K.st.co,K.st.gen,K.st.kind,K.st.ow⟩,K.body,K.dk,K.ok1,K.ok2,K.ok3,K.nc1,K.nc2,K.ncl⟩;?_;exact pV (N:=N) hY hY0' hb0 K' A s v d as dd base outer hA (GP.cv (P:=P) hgp) (GP.cv (P:=P) hgb) rd hev B
theorem dQ:∀ (pn:List Str) (vs:List Value),pn.Nodup->vs.length=pn.length->pn.filterMap (λn=>((pn.zip vs).lookup n).map (n,·))=pn.zip vs:=by
 intro pn vs hn hl
 refine have key:∀ (l:List Str) (ws:List Value),ws.length=l.length->(∀ (i:Nat) (x:Str) (v:Value),l[i]?=some x->ws[i]?=some v->(pn.zip vs).lookup x=some v)->l.filterMap (λn=>((pn.zip vs).lookup n).map (n,·))=l.zip ws:=(by
  intro l;induction l with
  | nil=>intro ws _ _;rfl
  | cons x l ih=>
   intro ws hw h;induction ws using lc with
   | nil=>cases hw
   | cons v ws=>
    rw [List.filterMap_cons,h 0 x v rfl rfl];simp only [mX,XV]
    rw [ih ws (by simpa using hw) λi y w h1 h2=>h (i+1) y w (h1) (h2)]);?_
 exact key pn vs hl λi x v h1 h2=>cL hn h1 h2
theorem lI{pn:List Str}{vs:List Value}(hn:pn.Nodup)(hl:vs.length=pn.length):(pn.take pn.length).filter (λn=>((pn.zip vs).lookup n).isNone)=[]:=by
 rw [Z8,List.filter_eq_nil_iff];intro x hx;obtain ⟨i,hi⟩:=Z1 hx;rw [cL hn hi (Qk (hl ▸ (Qq hi).1))];exact Qr
theorem wR{f:Str}{as:List Arg}{kw:List (Option Expr)}{body:List Stmt}{scope:Scope}{pm cd doc:Value}{vs:List Value}(hl:vs.length=(as.map λx:Arg=>x.arg).length)(hn:(as.map λx:Arg=>x.arg).Nodup) :
 bindArgs (Calls.docDef f ⟨[],as,none,[],kw,none,[]⟩ body scope pm cd doc) ⟨vs,[]⟩=pure ((as.map λx:Arg=>x.arg).zip vs):=by
 refine have hd:∀ n,List.drop n ((none:Option (Array Value)).getD #[]).toList=[]:=λo_=>List.drop_nil;?_;refine (Qu (c:=(decide (vs.length > (as.map λx:Arg=>x.arg).length)&&true)=true) ?_).trans ?_
 ·exact hl ▸ (Zk (YV _)) ▸ Qr
 refine (Qu ?_).trans ?_
 ·rw [hd]
  show ¬ (!(((as.map λx:Arg=>x.arg).take (as.map λx:Arg=>x.arg).length).filter λn=>(((as.map λx:Arg=>x.arg).zip vs).lookup n).isNone).isEmpty)=true;exact (lI hn hl) ▸ Qr
 rw [hd,List.zip_nil_right];refine have hz:(as.map (λx:Arg=>x.arg)++[]).filterMap (λn=>(((as.map λx:Arg=>x.arg).zip vs).lookup n).map (n,·))=(as.map λx:Arg=>x.arg).zip vs:=(by rw [Xj];exact dQ _ vs hn hl);?_;exact Qf Sem.pure hz
theorem jh(h:cM p=true):p=⟨[],p.args,none,[],p.kw_defaults,none,[]⟩:=by
 obtain ⟨po,as,va,ko,kw,kd,de⟩:=p;obtain ⟨h,h5⟩:=Qz h;obtain ⟨h,h4⟩:=Qz h;obtain ⟨h,h3⟩:=Qz h;obtain ⟨h1,h2⟩:=Qz h;rw [show po=[] from Q1.mp h1,show ko=[] from Q1.mp h3,show de=[] from Q1.mp h5,show va=none from YG.mp h2,show kd=none from YG.mp h4]
theorem m9{cd:Value}(h:cM params=true)(hl:vs.length=(params.args.map (·.arg)).length)(hn:(params.args.map (·.arg)).Nodup) :
 bindArgs (Calls.docDef f params body scope pm cd doc) ⟨vs,[]⟩=pure ((params.args.map (·.arg)).zip vs):=by
 exact (jh h) ▸ (wR hl hn)
theorem sL(x_1:Str)(r:List Str):jf (x_1::r)=(!r.contains x_1&&jf r):=rfl
theorem dR:∀ {l:List Str},jf l=true->l.Nodup:=by
 intro l;induction l with
 | nil=>
  intro _;exact .nil
 | cons x r dR=>
  intro h;simp only [sL,Qj,QS,List.contains_eq_mem,Zg] at h;exact Q8.mpr ⟨h.1,dR h.2⟩
theorem zo(hd:P.defs f=some q)(h:eR q ow=true):FnSt P f q (pnOf q).length (dP q).length ow (pnOf q) (dP q):=by
 unfold eR at h;simp only [Qj,QS,Q5] at h;refine byG λX_ g_=>?_;obtain ⟨⟨⟨⟨⟨⟨c1,c2⟩,c3⟩,c4⟩,c5⟩,c6⟩,c8⟩:=h;refine g_ ?_;refine ⟨hd,dR c2,?_,?_,rfl,c3,λvs pm cd doc hl=>m9 c1 hl ?_,c4,c5,c6,c8⟩
 ·simp [dP]
 ·simp [dP]
 ·exact (dR c2).sublist (List.sublist_append_left _ _)
theorem wT(defs:Str->Option FR)(ff:Str->Option Bool)(gcs:Str->Bool)(f:Str)(ow:List Nat)(fr:Bool)(rest:List (Str × List Nat × Bool)):jg defs ff gcs ((f,ow,fr)::rest)=(defs f).bind λ(q:FR)=>(mkFn ff gcs q ow fr).bind λ(fn:Fn)=>(jg defs ff gcs rest).bind λ(t:List (Str × Fn))=>if (ff f == some fr&&!catSs fn.body)=true then some ((f,fn)::t) else none:=rfl
theorem pX(hd:P.defs f=some q)(h:mkFn P.fr gcs q ow fr=some fn):fn.fr=fr/\FnCk P P.fr gcs f q fn (pnOf q) (dP q):=by
 unfold mkFn at h;refine aa h λbody e4 h=>?_;obtain ⟨hc,h⟩:=al h;obtain rfl:=Qv h;rw [Qj] at hc;exact ⟨rfl,zo hd hc.1,e4,hc.2⟩
theorem lJ:∀ (sgs:List (Str × List Nat × Bool)) (tbl:List (Str × Fn)),jg P.defs P.fr gcs sgs=some tbl->∀ e ∈ tbl,EnOk P gcs e:=by
 intro sgs;induction sgs with
 | nil=>intro tbl h e he;obtain rfl:=Qv h;exact (YJ he).elim
 | cons p_ rest ih_=>
  obtain ⟨f,ow,fr⟩:=p_;intro tbl h e he;rw [wT] at h;refine aa h λq e1 h=>?_;refine aa h λfn e2 h=>?_;refine aa h λt e3 h=>?_;obtain ⟨hc,h⟩:=al h;obtain rfl:=Qv h;rw [Qj] at hc;rcases Qw he with rfl | he
  ·refine have k:=pX e1 e2;?_
   exact ⟨⟨q,_,_,k.2⟩,by rw [k.1];exact Q4 hc.1,by simpa using hc.2⟩
  ·exact ih_ t e3 e he
theorem sM(h:oy r=true):∃ k kk kp,r = .Constant k kk kp/\trK k=some .none:=by
 obtain ⟨b,hb⟩:=YR.mp (show Option.isSome _=true from h);refine gV (G:=λr=>∃ k kk kp,r = .Constant k kk kp/\trK k=some .none) hb (λk kk kp h=>?_) nN;refine aa h λd e1 h=>?_;refine have w:=(al h).1;?_;refine have hd:d = .none:=(by clear h hb;induction d using dc<;>first | rfl | (exact nF w;done));?_;exact ⟨k,kk,kp,rfl,e1.trans (Qf some hd)⟩
theorem na(h:trTb ff gcs c st=some st')(hY:Hyp P r ff):SS P r c ow fr N st st':=by
 unfold trTb at h;induction hq:yx ff gcs c st with
 | none=>
  rw [hq] at h;exact om (G:=λst=>SS P r c ow fr N st st') h (λvalue pos h=>jb ff gcs hY h) nN
 | some q0=>
  rw [hq] at h;cases h;refine on (G:=λst=>SS P r c ow fr N st st') hq (λtest body orelse pos h=>?_) nN;obtain ⟨ho,h⟩:=al h;rw [Q1.mp ho];refine gY (G:=λtest=>SS P r c ow fr N (.If test body [] pos) st') h (λl ops rs cp h=>?_) nN;refine byG λX_ g_=>?_;refine aa h λop e0 h=>?_;refine aa h λrr e1 h=>?_;refine aa h λq e2 h=>?_;refine have w:=al h;?_;refine have hk:=w.1;?_;simp only [Qj] at hk;clear h ho hq;obtain ⟨es,e3,rfl⟩:=ad w.2;obtain ⟨fr',hfr⟩:=YR.mp hk.2;obtain ⟨k,kk,kp,rfl,hkn⟩:=sM hk.1.1.1.1.2;refine g_ ?_;refine (aR (g:=q.1) (args:=q.2) e2).elim λp1 z=>z.elim λq1 e4=>?_;rw [e4,aA e0,aA e1,show op = .IsNot from Q4 hk.1.1.1.1.1];exact zl hY.ok hY.ox (hY.hf _ _ hfr).1 (aV hk.1.1.1.2).1 (aV hk.1.1.1.2).2 (by simpa using hk.1.2) (fx (aH ff gcs hY.ok hY.hf 40 c) e3) ((hY.hf _ _ hfr).2 (kg hk.1.1.1.2)) hkn
theorem nf(e:yy h=some t):∃ pos,h = .ExceptHandler (some t.1) (some t.2.1) t.2.2 pos:=by
 obtain ⟨a,b,c,d⟩:=h;induction a with
 | none=>exact nN e
 | some a=>
  induction b with
  | none=>exact nN e
  | some b=>obtain rfl:=Qv e;exact ⟨d,rfl⟩
theorem sO(hd:P.defs f=some q)(h:wO P.fr ff0 gcs q=some c):CatCk P P.fr ff0 gcs f q c (pnOf q) (dP q):=by
 unfold wO at h;refine aa h λp e0 h=>?_;refine have hb:=jc e0;?_;obtain ⟨s1,s2⟩:=p;refine vY (G:=λs1=>q.body=[s1,s2]->CatCk P P.fr ff0 gcs f q c (pnOf q) (dP q)) h (λtbs hs oe fb tp h hb=>?_) nN hb;refine jW (G:=λs2=>q.body=[.Try tbs hs oe fb tp,s2]->CatCk P P.fr ff0 gcs f q c (pnOf q) (dP q)) h (λv rp h hb=>?_) nN hb;refine byG λX_ g_=>?_;refine aa h λtb e1 h=>?_;refine aa h λhh e2 h=>?_;refine aa h λt e3 h=>?_;refine aa h λrv e4 h=>?_;obtain ⟨hc,h⟩:=al h;refine aa h λtb' e5 h=>?_;refine aa h λhb' e6 h=>?_;refine aa h λrv' e7 h=>?_;refine aa h λi e8 h=>?_;obtain ⟨hk,h⟩:=al h;refine g_ ?_;obtain rfl:=Qv h;unfold zn at hk;simp only [Qj,QS,Q1] at hc hk;refine byG λX_ g_=>?_;obtain ⟨hp,e9⟩:=nf e3;obtain ⟨t1,en,bs⟩:=t;obtain ⟨np,hnp⟩:=az (Q4 hk.1.1.1.1.1.1.1.1.1);refine g_ ?_;replace hnp:t1 = .Name "DeskError" np:=hnp;clear h e3 g_ e0;induction bs using lc with
 | nil=>cases hc.2
 | cons b0 bs=>
  refine ⟨zo hd hk.1.1.1.1.1.1.1.1.2,⟨tb,tp,np,en,b0,bs,hp,rv,rp,?_,λP r N hY=>na e5 hY,e6,e7,e8,Q4 hk.1.1.1.1.1.1.1.2⟩,Q4 hk.1.1.1.1.1.1.2,hk.1.1.1.1.1.2,hk.1.1.1.1.2,hk.1.1.1.2,hk.1.1.2,hk.1.2,hk.2⟩;rw [hb,aA e1,aA e2,e9,hnp,hc.1.1,hc.1.2,e4]
theorem pY:∀ (l:List Str) (cats:List (Str × CatFn)),lH P.defs P.fr ff0 gcs l=some cats->∀ f c,cats.lookup f=some c->f ∈ l/\∃ q pn names,CatCk P P.fr ff0 gcs f q c pn names:=by
 intro l;induction l with
 | nil=>intro cats h f c e;obtain rfl:=Qv h;exact nN e
 | cons g l ih=>
  intro cats h f c e;refine byG λX_ g_=>?_;refine aa h λq e1 h=>?_;refine aa h λk e2 h=>?_;obtain ⟨t,e3,rfl⟩:=ad h;refine g_ ?_;rw [ZX] at e;induction hb:f == g with
  | true=>
   rw [hb] at e;clear h g_;obtain rfl:=Qv e;refine have hfg:=Q4 hb;?_;subst hfg;exact ⟨.head _,q,_,_,sO e1 e2⟩
  | false=>
   rw [hb] at e;exact ⟨.tail _ (ih t e3 f c e).1,(ih t e3 f c e).2⟩
noncomputable def ez(p:Program):Str->Option FR:=λf=>((PyProof.Rows.recsOf p).find? λd=>d.name == f).map λd=>⟨d.params,d.body,d.scope⟩
def ffB(sgs:List (Str × List Nat × Bool)):Str->Option Bool:=λf=>if f == bang then some false else ffOf sgs f
def nmB(defs:Str->Option FR)(ff:Str->Option Bool)(names:List Str):Bool:=names.all (λg=>(g == bang||(defs g).isSome)&&(ff (exn g)).isNone)&&catN.all λf=>(defs f).isSome&&(ff f).isNone
theorem zp(hm:∀ g fr,P.fr g=some fr->g ∈ names)(h:nmB P.defs P.fr names=true):NmOk P:=by
 unfold nmB at h;rw [Qj] at h;refine have h1:=λg hg=>Qz (ZK.mp h.1 g hg);?_;refine have h2:=λg hg=>Qz (ZK.mp h.2 g hg);?_;refine ⟨λg fr hg hb=>?_,λf hf=>YR.mp (h2 f hf).1,λg fr hg=>YG.mp (h1 g (hm g fr hg)).2,λf hf=>YG.mp (h2 f hf).2⟩;have:=(h1 g (hm g fr hg)).1;rw [beq_eq_false_iff_ne.mpr hb,XQ] at this;exact YR.mp this
theorem lK(h:ffOf sgs g=some fr):g ∈ sgs.map (·.1):=by
 obtain ⟨p,e,_⟩:=ad h;exact QG.mpr ⟨(g,p),aT e,rfl⟩
theorem wU(h:ffB sgs g=some fr):g ∈ bang::sgs.map (·.1):=by
 unfold ffB at h;induction hb:g == bang with
 | true=>exact (Q4 hb) ▸ .head _
 | false=>rw [hb] at h;exact .tail _ (lK h)
noncomputable def uT(p:Program)(loose:List Str):Bool:=
 biNames.all λx=>!startupNames.contains x&&!loose.contains x&&!((PyProof.Rows.recsOf p).map (·.name)).contains x&&!((PyProof.Rows.litsOf p).map (·.1)).contains x&&!((PyProof.Rows.clssOf p loose).map (·.name)).contains x
noncomputable def clsH(mg:Str->Option Value):D->Int
 | .list [.str x]=>match mg x with
  | some (.ref C)=>(C:Int)
  | _=>0
 | _=>0
def strH(w:World)(mg:Str->Option Value)(d:D):Int:=match strK d with
 | some x=>hashStr w x
 | none=>match unK d with
  | some p=>cq w p
  | none=>clsH mg d
theorem lL:∀ l:List EnK,jS (l.map enK)=some l
 | []=>rfl
 | e::l=>by
  show ((unEn (enK e)).bind λe=>(jS (l.map enK)).map λl=>e::l)=_;exact (lL l) ▸ rfl
theorem lM(p:StK):unK (stK p)=some p:=by
 show ((jS (p.2.map enK)).bind λes=>if ([]:List D).isEmpty then some (p.1,es) else none)=_;rw [lL];rfl
theorem wV(w:World)(mg:Str->Option Value):(∀ x:Str,strH w mg (.str x)=hashStr w x)/\(∀ p:StK,strH w mg (stK p)=cq w p)/\∀ x ∈ exN,∀ C,mg x=some (.ref C)->strH w mg (.list [.str x])=(C:Int):=⟨λo_=>rfl,λp=>by
 show (match unK (stK p) with | some p=>cq w p | none=>clsH mg (stK p))=_;rw [lM],λx Z C e=>by
 show (match mg x with | some (.ref C)=>(C:Int) | _=>0)=_
 rw [e]⟩
theorem law_run 
 (T:PyProof.Rows.Top p loose mean mg mb s.heap) (hbi:uT p loose=true) (e:jg (ez p) (ffB sgs) gcs sgs=some tbl) (e0:jg (ez p) (ffOf sgz) gcs sgz=some tbl0) (ec:lH (ez p) (ffB sgs) (ffOf sgz) gcs catN=some cats)
 (eq:ez p "law" = some q) (el:mkFn (ffB sgs) gcs q [] false=some fn) (hn1:nmB (ez p) (ffB sgs) (bang::sgs.map (·.1))=true) (hn0:nmB (ez p) (ffOf sgz) (sgz.map (·.1))=true) (hb0:ffOf sgz bang=none) (hle:tbl0.length<=tbl.length)
 (hΓ:∀ x d,Γ x=some d->noList d=true/\∃ v,mg x=some v/\Rd (strH w mg) s.heap v d []) (hcls:ClsOk mg s.heap)
 (hmg:mg "law" = some (.ref fa)) (hl:s.heap.get? l=some (listObj vs n)) (hz:vs.size<=sizeLine) (ra:RdAll (strH w mg) s.heap vs.toList xs []) (hn:tbl.length<=98)
 (hev:runFn (mkC Γ N tbl tbl0 cats) Γ N fn [.list xs]=some (.bool true)) (hQ:∀ s',Kp s s'->Q (.bool true) s'):wpAny (model prog w) callerA (call (.ref fa) [.ref l]) Q E s:=by
 let P:Pk:=⟨prog,w,strH w mg,mg,mb,mkC Γ N tbl tbl0 cats,Γ,ez p,ffB sgs⟩
 refine have gp:P.GP s.heap:=(by
  refine ⟨T.g,T.b,T.nolimit,λf r h=>?_,hΓ,λx hx=>?_,T.builtins,wV w mg,hcls⟩
  ·obtain ⟨d,e1,rfl⟩:=ad h
   have hnm:=List.find?_some e1;have:=T.fn d (YH e1);rw [Q4 hnm] at this;exact this
  ·have:=ZK.mp hbi x hx
   simp only [Qj,QS,List.contains_eq_mem,Zg] at this;obtain ⟨⟨⟨⟨h1,h2⟩,h3⟩,h4⟩,h5⟩:=this
   exact T.free x h1 h2 h3 h4 h5);?_
 refine have rm:Room P.lp callerA (tbl.length+1+1):=(by
  refine ⟨λZ=>rfl,?_,?_⟩
  ·show 1+claimMargin+(tbl.length+2)+60 < recursionLimit
   have:1+claimMargin+100+60 < recursionLimit:=by decide
   exact Qh (Zt (ZQ (Zt hn 2) _) 60) this
  ·show 4+4 * (tbl.length+2)+300 < cLine
   have:4+4 * 100+300 < cLine:=by decide
   exact Qh (Zt (ZQ (Zj 4 (Zt hn 2)) 4) 300) this);?_
 refine have H:NmOk P:=zp (λg fr h=>wU h) hn1;?_;refine have H0:NmOk { P with fr:=ffOf sgz }:=zp (λg fr h=>lK h) hn0;?_;refine have hY:=wQ (P:=P) (ff0:=ffOf sgz) (gcs:=gcs) (N:=N) H H0 hb0 (lJ (P:=P) sgs tbl e) (lJ (P:={ P with fr:=ffOf sgz }) sgz tbl0 e0) hle (pY (P:=P) catN cats ec);?_;refine have k:=pX (P:=P) (f := "law") eq el;?_;refine byG λX_ g_=>?_;obtain ⟨a,o,fd,h1,h2,h3,h4⟩:=fn_sound (P:=P) (N:=N) hY k.2 callerA s [.ref l] [.list xs] _ (.bool true) rm gp (RdAll.one (.list hl hz ra)) hev λZ=>rfl;refine g_ ?_
 refine have:a=fa:=(by
  have h1:mg "law" = some (.ref a):=h1
  rw [hmg] at h1;obtain rfl:=Value.ref.inj (Qv h1);rfl);?_
 clear h3 h2 h1 g_ hY H0 H rm gp hev hn ra hz hl hmg hcls hΓ hle hb0 hn0 hn1 el eq ec e0 e hbi T;subst this;refine Qs h4 (λv s' q=>?_) λo_ Z z=>z.elim;obtain ⟨k,bs,rd,_⟩:=q;cases rd;exact hQ s' k
theorem ng(h:typeLookup (.type "ValueError") n=pure y):lookupAlong bmV n=pure y:=by
 rw [typeLookup_eq,PySem.F.excBase_ValueError.mroIs] at h;exact h
theorem zq:lookupAlong bmV "__setattr__" = pure (some (.builtin "object.__setattr__")):=ng (by rw [typeLookup_type,builtinLookup_eq_fast];kernel_rfl)
theorem zr:lookupAlong bmV "at" = pure none:=ng (by rw [typeLookup_type,builtinLookup_eq_fast];kernel_rfl)
theorem zs:lookupAlong bmV "__getattribute__" = pure (some (.builtin "BaseException.__getattribute__")):=ng (by rw [typeLookup_type,builtinLookup_eq_fast];kernel_rfl)
theorem zt:lookupAlong bmV "__getattr__" = pure none:=ng (by rw [typeLookup_type,builtinLookup_eq_fast];kernel_rfl)
theorem zu:lookupAlong bmV "__class__" = pure (some (.builtin "object.__class__")):=ng (by rw [typeLookup_type,builtinLookup_eq_fast];kernel_rfl)
theorem uU(self:Value):refuseLoop self "__setattr__" bmV=pure ():=by
 unfold refuseLoop bmV
 kernel_rfl
theorem ji{nm q:Str}{C N:Addr}{hdct:Bool}{ab:Bool}{mN:Str->Option Value}{n:Str} 
 (hC:h.get? C=some (excClassObj nm q C N bs bm hdct sn sub ab col dd k0 k1 k2 k3 k5 "ValueError.__new__")) (hN:h.Ns N mN)
 (T:∀ (M:Model) (A:Around) (h':Heap) (g:Array GenState) (d:Drawn) (t:Nat) (os:OsState) (Q:Option Value->Shared->Prop) (E:Value->Shared->Prop),(∀ b o,h.get? b=some o->h'.get? b=some o)->Q y ⟨h',g,d,t,os⟩->wpAny M A (lookupAlong bm n) Q E ⟨h',g,d,t,os⟩)
 (hz:(match mN n with | some v=>some v | none=>y)=z):Lk h C n z:=by
 intro M A h' g d t os Q E hk hq;rw [typeLookup_eq];refine Qd (wpAny_mroOf_exc (hk _ _ hC) ?_);rw [lookupAlong_cons];refine Qd (wpAny_classOwn_exc (hk _ _ hC) (hN.keeps hk) ?_);induction hv:mN n with
 | some v=>rw [hv] at hz;subst hz;exact Qg hq
 | none=>rw [hv] at hz;subst hz;exact T M A h' g d t os Q E hk hq
noncomputable def q5:List Str:=["__setattr__", "at", "__getattribute__", "__getattr__", "__class__"]
noncomputable def sub6:List Str:=["NoRow", "NoBlock", "NoWord", "Narrow", "Taken", "NoEnd"]
def oneX(h:Heap)(x:Str)(up:List Value)(ini:Option Value):Bool:=match h.clsAt mainGlobals x with
 | some (C,o,cd)=>decide (o.cls = .type "type")&&(decide (cd.mro = .ref C::(up++bmV))&&((!cd.hasDel&&cd.hasDict)&&(decide (o.slots.size=6)&&(decide (o.slots[4]?=some (some (.builtin "ValueError.__new__")))&&(h.isNs cd.ns&&((q5.all λn=>(h.nsMap cd.ns n).isNone)&&decide (h.nsMap cd.ns "__init__" = ini)))))))
 | none=>false
theorem pZ(e:oneX h x up ini=true):∃ C N nm q bs sn sub ab col dd k0 k1 k2 k3 k5,h.nsMap mainGlobals x=some (.ref C)/\h.get? C=some (excClassObj nm q C N bs (up++bmV) true sn sub ab col dd k0 k1 k2 k3 k5 "ValueError.__new__")/\h.Ns N (h.nsMap N)/\(∀ n ∈ q5,h.nsMap N n=none)/\h.nsMap N "__init__" = ini:=by
 unfold oneX at e;induction hf:h.clsAt mainGlobals x with
 | none=>rw [hf] at e;exact nF e
 | some y=>
  refine byG λX_ g_=>?_;obtain ⟨C,o,cd⟩:=y;rw [hf] at e;obtain ⟨hn,ho,hd⟩:=Heap.clsAt_spec hf;obtain ⟨oc,dd,dt,sl⟩:=o;obtain ⟨nm,bs,mro,N,q,hdct,sn,sub,ab,col,hdel⟩:=cd;simp only [Qj,QE,QS] at e;obtain ⟨hcls,hmro,⟨hdl,hhd⟩,hsz,hmk,hns,hq,hin⟩:=e;obtain ⟨l⟩:=sl;clear hf;obtain ⟨k0,k1,k2,k3,k5,rfl⟩:=six_places (l:=l) (hsz) (by simpa using hmk);refine g_ ?_;obtain rfl:oc = .type "type" := hcls;obtain rfl:dt=_:=hd;obtain rfl:hdel=false:=hdl;obtain rfl:hdct=true:=hhd;subst hmro;exact ⟨C,N,nm,q,bs,sn,sub,ab,col,dd,k0,k1,k2,k3,k5,hn,ho,.of_isNs hns,λn hn=>YG.mp (ZK.mp hq n hn),hin⟩
noncomputable def uV(q:Str):Option Value->Bool
 | some (.str x _)=>x == q
 | _=>false
def fldB(q:Str):Data->Bool
 | .fields vs=>uV q vs[1]?
 | _=>false
def zv(h:Heap)(v:Value)(q:Str):Bool:=match v with
 | .ref c=>(h.get? c).any λo=>fldB q o.data
 | _=>false
set_option tactic.hygienic true in
theorem sP(e:zv h v q=true):h.CodeRec v q:=by
 induction v<;>first | (exact nF e;done) | skip
 rename_i c;replace e:((h.get? c).any λo=>fldB q o.data)=true:=e;induction ho:h.get? c with
 | none=>rw [ho] at e;exact nF e
 | some o=>
  rw [ho] at e;replace e:fldB q o.data=true:=e;induction hd:o.data<;>first | (rw [hd] at e;exact nF e;done) | skip
  rename_i vs;rw [hd] at e;replace e:uV q vs[1]?=true:=e;induction hv:vs[1]? with
  | none=>rw [hv] at e;exact nF e
  | some u=>
   rw [hv] at e;induction u<;>first | (exact nF e;done) | skip
   rename_i x t;refine have:x=q:=Q4 e;?_;clear e;subst this;exact ⟨c,o,vs,t,rfl,ho,hd,hv⟩
noncomputable def stO:FuncBody->List Stmt
 | .stmts l=>l
 | _=>[]
def Bc(b:FuncBody):Option Bool:=(one1 (stO b)).bind λst=>onAs st (λts v Z=>(one1 ts).bind λt=>(bR v).bind λy=>(ge t).bind λq=>if q.1 == ("self" : Str)&&(q.2.1 == ("at" : Str)&&y == ("at" : Str)) then some true else none) none
def zw(b:FuncBody):Bool:=(Bc b).isSome
noncomputable def isNV(v:Value):Bool:=decide (v = .none)
def fdB(h:Heap)(fd:FuncData):Bool:=zv h fd.code fd.qualname&&(zw fd.body&&(cM fd.params&&(decide (fd.params.args.map (·.arg)=[("self" : Str),("at" : Str)])&&((isNV fd.defaults&&isNV fd.kwdefaults)&&((fd.scope.names.all λx=>x.2 != .cell)&&((fd.scope.names.lookup ("self" : Str) == some .local&&fd.scope.names.lookup ("at" : Str) == some .local)&&(!fd.scope.isCoroutine&&(!fd.scope.isGenerator&&fd.scope.kind == .function))))))))
def funB(h:Heap):Data->Bool
 | .func fd=>fdB h fd
 | _=>false
def wW(h:Heap)(v:Value):Bool:=match v with
 | .ref f=>(h.get? f).any λo=>decide (o.cls = .type "function")&&funB h o.data
 | _=>false
theorem sQ(hp:fd.params=⟨[],as,none,[],kw,none,[]⟩)(hd:fd.defaults = .none)(hk:fd.kwdefaults = .none)(hl:vs.length=(as.map λx:Arg=>x.arg).length)(hn:(as.map λx:Arg=>x.arg).Nodup) :
 bindArgs fd ⟨vs,[]⟩=pure ((as.map λx:Arg=>x.arg).zip vs):=by
 obtain ⟨f1,f2,f3,f4,f5,f6,f7,f8,f9,f10,f11,f12,f13,f14,f15⟩:=fd;subst hp;subst hd;subst hk;refine have hdr:∀ n,List.drop n ((none:Option (Array Value)).getD #[]).toList=[]:=λo_=>List.drop_nil;?_;refine (Qu (c:=(decide (vs.length > (as.map λx:Arg=>x.arg).length)&&true)=true) ?_).trans ?_
 ·exact hl ▸ (Zk (YV _)) ▸ Qr
 refine (Qu ?_).trans ?_
 ·rw [hdr]
  show ¬ (!(((as.map λx:Arg=>x.arg).take (as.map λx:Arg=>x.arg).length).filter λn=>(((as.map λx:Arg=>x.arg).zip vs).lookup n).isNone).isEmpty)=true;exact (lI hn hl) ▸ Qr
 rw [hdr,List.zip_nil_right];refine have hz:(as.map (λx:Arg=>x.arg)++[]).filterMap (λn=>(((as.map λx:Arg=>x.arg).zip vs).lookup n).map (n,·))=(as.map λx:Arg=>x.arg).zip vs:=(by rw [Xj];exact dQ _ vs hn hl);?_;exact Qf Sem.pure hz
theorem sR(h:stO b=[x]):b = .stmts [x]:=by
 induction b with
 | stmts l=>exact Qf FuncBody.stmts h
 | _=>exact nL h
theorem sT(e:zw b=true):∃ p1 p2 p3 p4,b = .stmts [.Assign [.Attribute (.Name "self" p1) "at" p2] (.Name "at" p3) p4]:=by
 refine (YR.mp e).elim λr h=>aa h λst h1 h=>?_;rw [sR (aA h1)];refine ol (G:=λst=>∃ p1 p2 p3 p4,FuncBody.stmts [st] = .stmts [.Assign [.Attribute (.Name "self" p1) "at" p2] (.Name "at" p3) p4]) h (λts v p4 h=>aa h λt h2 h=>aa h λy h3 h=>aa h λq h4 h=>?_) nN;obtain ⟨p3,e3⟩:=az h3;obtain ⟨p1,e4⟩:=b9 h4;have c:=(al h).1;rw [Qj,Qj] at c;refine ⟨p1,q.2.2,p3,p4,?_⟩;rw [aA h2,e3,e4,Q4 c.1,Q4 c.2.1,Q4 c.2.2]
set_option tactic.hygienic true in
theorem sU(e:wW h v=true):∃ f,v = .ref f/\InitX h f:=by
 induction v<;>first | (exact nF e;done) | skip
 rename_i f;refine ⟨f,rfl,?_⟩;replace e:((h.get? f).any λo=>decide (o.cls = .type "function")&&funB h o.data)=true:=e;induction ho:h.get? f with
 | none=>rw [ho] at e;exact nF e
 | some o=>
  rw [ho] at e;replace e:(decide (o.cls = .type "function")&&funB h o.data)=true:=e;rw [Qj] at e;obtain ⟨e1,e2⟩:=e;induction hd:o.data<;>first | (rw [hd] at e2;exact nF e2;done) | skip
  rename_i fd;rw [hd] at e2;replace e2:fdB h fd=true:=e2;unfold fdB at e2;simp only [Qj,QS,Q5,QE] at e2;refine byG λX_ g_=>?_;obtain ⟨c1,c2,c3,c4,⟨c5,c6⟩,c7,⟨c8,c9⟩,c10,c11,c12⟩:=e2;obtain ⟨p1,p2,p3,p4,hb⟩:=sT c2;refine g_ ?_;refine ⟨⟨_,fd,p1,p2,p3,p4,ho,Qp e1,hd,sP c1,hb,λa b=>?_,λx hx=>by simpa using ZK.mp c7 x hx,c8,c9,c10,c11,c12⟩⟩;have:=sQ (vs:=[a,b]) (jh c3) (Qp c5) (Qp c6) (c4 ▸ rfl) (by rw [c4];decide);rw [c4] at this;exact this
def clsB(h:Heap):Bool:=match h.clsAt mainGlobals "DeskError" with
 | some (D,_,cd)=>match h.nsMap cd.ns "__init__" with
  | some v=>wW h v&&(oneX h "DeskError" [] (some v)&&(sub6.all (λx=>oneX h x [.ref D] none)&&decide ((exN.map λn=>h.nsMap mainGlobals n).Nodup)))
  | none=>false
 | none=>false
theorem sV{α β:Type}(f:α->β):∀ {l:List α},(l.map f).Nodup->∀ {x y:α},x ∈ l->y ∈ l->f x=f y->x=y:=by
 intro l;induction l with
 | nil=>intro _ x y hx;exact (YJ hx).elim
 | cons a l ih=>
  intro h x y hx hy e;rw [QX,Q8] at h;rcases Qw hx with q | q
  ·rcases Qw hy with q' | q'
   ·rw [q,q']
   ·exact absurd (QG.mpr ⟨y,q',by exact q ▸ e.symm⟩) h.1
  ·rcases Qw hy with q' | q'
   ·exact absurd (QG.mpr ⟨x,q,by exact q' ▸ e⟩) h.1
   ·exact ih h.2 q q' e
theorem lN(C:Addr):bmV.contains (.ref C)=false:=rfl
theorem cls_of(e:clsB h=true):ClsOk (h.nsMap mainGlobals) h:=by
 unfold clsB at e;induction hf:h.clsAt mainGlobals "DeskError" with
 | none=>rw [hf] at e;exact nF e
 | some y=>
  obtain ⟨D,o,cd⟩:=y;rw [hf] at e;replace e:(match h.nsMap cd.ns "__init__" with | some v=>wW h v&&(oneX h "DeskError" [] (some v)&&(sub6.all (λx=>oneX h x [.ref D] none)&&decide ((exN.map λn=>h.nsMap mainGlobals n).Nodup))) | none=>false)=true:=e;induction hv:h.nsMap cd.ns "__init__" with
  | none=>rw [hv] at e;exact nF e
  | some v=>
   rw [hv] at e;simp only [Qj,QE] at e;obtain ⟨e1,e2,e3,e4⟩:=e;refine have hDn:=(Heap.clsAt_spec hf).1;?_;obtain ⟨fI,rfl,hI⟩:=sU e1;obtain ⟨D',ND,nm,q,bs,sn,sub,ab,col,dd,k0,k1,k2,k3,k5,d1,d2,d3,d4,d5⟩:=pZ e2;refine have hDD:D'=D:=(by rw [hDn] at d1;obtain rfl:=Value.ref.inj (Qv d1);rfl);?_;clear e2 e1 hDn hf;subst hDD;refine have inj:∀ x ∈ exN,∀ y ∈ exN,∀ C,h.nsMap mainGlobals x=some (.ref C)->h.nsMap mainGlobals y=some (.ref C)->x=y:=λx hx y hy C a b=>sV _ e4 hx hy (a.trans b.symm);?_;have cn:∀ x ∈ exN,∀ C,h.nsMap mainGlobals x=some (.ref C)->∀ y ∈ exN,∀ C',h.nsMap mainGlobals y=some (.ref C')->(Value.ref C' == Value.ref C)=(x == y):=λx hx C a y hy C' b=>by
    by_cases w:x=y
    ·subst w
     rw [a] at b;obtain rfl:=Value.ref.inj (Qv b);rw [Zh,Zh]
    ·exact (beq_eq_false_iff_ne.mpr w) ▸ (beq_eq_false_iff_ne.mpr λz=>w (inj x hx y hy C a (by obtain rfl:=Value.ref.inj z;exact b)))
   refine have hDe:("DeskError" : Str) ∈ exN:=(by decide);?_;have base:∀ {n:Str} {y:Option Value},lookupAlong bmV n=pure y->∀ (M:Model) (A:Around) (h':Heap) (g:Array GenState) (d:Drawn) (t:Nat) (os:OsState) (Q:Option Value->Shared->Prop) (E:Value->Shared->Prop),(∀ b o,h.get? b=some o->h'.get? b=some o)->Q y ⟨h',g,d,t,os⟩->wpAny M A (lookupAlong ([]++bmV) n) Q E ⟨h',g,d,t,os⟩:=λhb M A h' g d t os Q E hk hq=>by
    show wpAny M A (lookupAlong bmV _) Q E _;exact hb ▸ Qg hq
   have up:∀ {n:Str} {y z:Option Value},lookupAlong bmV n=pure y->(match h.nsMap ND n with | some v=>some v | none=>y)=z->∀ (M:Model) (A:Around) (h':Heap) (g:Array GenState) (d:Drawn) (t:Nat) (os:OsState) (Q:Option Value->Shared->Prop) (E:Value->Shared->Prop),(∀ b o,h.get? b=some o->h'.get? b=some o)->Q z ⟨h',g,d,t,os⟩->wpAny M A (lookupAlong ([.ref D']++bmV) n) Q E ⟨h',g,d,t,os⟩:=λ{n y z} hb hz M A h' g d t os Q E hk hq=>by
    show wpAny M A (lookupAlong (.ref D'::bmV) _) Q E _;rw [lookupAlong_cons];refine Qd (wpAny_classOwn_exc (hk _ _ d2) (d3.keeps hk) ?_);induction hv:h.nsMap ND n with
    | some v=>rw [hv] at hz;subst hz;exact Qg hq
    | none=>rw [hv] at hz;subst hz;exact hb ▸ Qg hq
   refine have iV:lookupAlong bmV "__init__" = pure (some (.builtin "ValueError.__init__")):=(ng (by rw [typeLookup_type,builtinLookup_eq_fast];kernel_rfl));?_;refine have d6:∀ n ∈ q5,∀ y:Option Value,(match h.nsMap ND n with | some v=>some v | none=>y)=y:=(λn hn y=>by rw [d4 n hn]);?_;refine ⟨fI,hI,λx hx=>?_⟩
   by_cases hxd:x = "DeskError"
   ·subst hxd
    refine ⟨D',bmV,d1,⟨⟨nm,q,ND,bs,sn,sub,ab,col,dd,k0,k1,k2,k3,k5,d2⟩,λX=>rfl,uU,ji d2 d3 (base zq) (d6 _ (by decide) _),ji d2 d3 (base zr) (d6 _ (by decide) _),ji d2 d3 (base zs) (d6 _ (by decide) _),ji d2 d3 (base zt) (d6 _ (by decide) _),ji d2 d3 (base iV) (by rw [d5]),ji d2 d3 (base zu) (d6 _ (by decide) _)⟩,λy hy C' hC'=>?_⟩;rw [List.contains_cons,lN,Bool.or_false];rw [cn "DeskError" hDe D' d1 y hy C' hC']
    by_cases w:y = "DeskError"
    ·subst w;rfl
    ·rw [beq_eq_false_iff_ne.mpr w,Bool.or_false]
   ·refine have hx6:x ∈ sub6:=(by
     unfold exN at hx;unfold sub6;simp only [YW,YJ,or_false] at hx ⊢;rcases hx with q | q | q | q | q | q | q
     ·exact .inl q
     ·exact .inr (.inl q)
     ·exact .inr (.inr (.inl q))
     ·exact .inr (.inr (.inr (.inl q)))
     ·exact .inr (.inr (.inr (.inr (.inl q))))
     ·exact .inr (.inr (.inr (.inr (.inr q))))
     ·exact absurd q hxd);?_
    refine byG λX_ g_=>?_;obtain ⟨C,N,nm',q',bs',sn',sub',ab',col',dd',j0,j1,j2,j3,j5,c1,c2,c3,c4,c5⟩:=pZ (ZK.mp e3 x hx6);refine g_ ?_;refine have c6:∀ n ∈ q5,∀ y:Option Value,(match h.nsMap N n with | some v=>some v | none=>y)=y:=(λn hn y=>by rw [c4 n hn]);?_;refine have both:∀ {n:Str} {y:Option Value},n ∈ q5->lookupAlong bmV n=pure y->Lk h C n y:=λ{n y} hn hb=>ji c2 c3 (up hb (d6 n hn y)) (c6 n hn y);?_;refine ⟨C,.ref D'::bmV,c1,⟨⟨nm',q',N,bs',sn',sub',ab',col',dd',j0,j1,j2,j3,j5,c2⟩,λX=>rfl,λself=>(refuseLoop_ref self _ D' bmV).trans (uU self),both (by decide) zq,both (by decide) zr,both (by decide) zs,both (by decide) zt,ji c2 c3 (up iV (by rw [d5])) (by rw [c5]),both (by decide) zu⟩,λy hy C' hC'=>?_⟩;rw [List.contains_cons,List.contains_cons,lN,Bool.or_false];rw [cn x hx C c1 y hy C' hC',cn "DeskError" hDe D' d1 y hy C' hC'];congr 1
    by_cases w:y = "DeskError"
    ·subst w;rfl
    ·rw [beq_eq_false_iff_ne.mpr w,beq_eq_false_iff_ne.mpr (Ne.symm w)]
noncomputable def du:List Value->List Str->Bool
 | [],[]=>true
 | .str x _::vs,y::ys=>x == y&&du vs ys
 | _,_=>false
theorem any_some{α:Type}{o:Option α}{p:α->Bool}(h:o.any p=true):∃ x,o=some x/\p x=true:=by
 induction o with
 | none=>exact nF h
 | some x=>exact ⟨x,rfl,h⟩
noncomputable def refA:Value->Option Addr
 | .ref a=>some a
 | _=>none
noncomputable def tupO:Obj->Option (String × Array Value)
 | ⟨.type t,none,.seq vs _,⟨[]⟩⟩=>some (t,vs)
 | _=>none
theorem p0{v:Value}{a:Addr}(h:refA v=some a):v = .ref a:=by
 cases v<;>first | (cases h;done) | (obtain rfl:=Qv h;rfl)
def p6(h:Heap)(v:Value)(xs:List Str):Bool:=(refA v).any λa=>(h.get? a).any λo=>(tupO o).any λp=>p.1 == "tuple" && du p.2.toList xs
theorem gs{h:Heap}{v:Value}{xs:List Str}(e:p6 h v xs=true):∃ a o p,v = .ref a/\h.get? a=some o/\tupO o=some p/\p.1 = "tuple" /\ du p.2.toList xs=true:=by
 refine byG λX_ g_=>?_;obtain ⟨a,e1,e⟩:=any_some e;obtain ⟨o,e2,e⟩:=any_some e;obtain ⟨p,e3,e⟩:=any_some e;obtain ⟨e4,e5⟩:=Qz e;refine g_ ?_;exact ⟨a,o,p,p0 e1,e2,e3,Q4 e4,e5⟩
theorem p7{o:Obj}{p:String × Array Value}(h:tupO o=some p):∃ n,o=⟨.type p.1,none,.seq p.2 n,⟨[]⟩⟩:=by
 obtain ⟨c,d,t,⟨l⟩⟩:=o;induction c<;>first | (exact nN h;done) | skip
 induction d<;>first | (exact nN h;done) | skip
 induction t<;>first | (exact nN h;done) | skip
 induction l<;>first | (cases h;done) | skip
 obtain rfl:=Qv h;exact ⟨_,rfl⟩
set_option tactic.hygienic true in
theorem nh{H:D->Int}{h:Heap}{vs:List Value}:∀ {xs:List Str},du vs xs=true->(∀ x ∈ xs,x.length<=sizeLine/\PyData.strOk x=true)->RdAll H h vs (xs.map .str) []:=by
 induction vs with
 | nil=>intro xs e _;induction xs using lc with
  | nil=>exact .nil
  | cons=>exact nF e
 | cons v vs ih=>
  intro xs e ok;induction xs using lc with
  | nil=>induction v<;>exact nF e
  | cons y ys=>
   induction v<;>first | (exact nF e;done) | skip
   rename_i x t;obtain ⟨e1,e2⟩:=Qz (show (x == y&&du vs ys)=true from e);have q:=Q4 e1;clear e1 e;subst q;exact .cons (.str x t (ok x (.head _)).1 (ok x (.head _)).2) (ih e2 λz hz=>ok z (.tail _ hz))
theorem sW{H:D->Int}{h:Heap}{v:Value}{xs:List Str}(e:p6 h v xs=true)(hz:xs.length<=sizeLine)(ok:∀ x ∈ xs,x.length<=sizeLine/\PyData.strOk x=true):Rd H h v (.tuple (xs.map .str)) []:=by
 obtain ⟨a,o,p,rfl,ho,e3,e4,e5⟩:=gs e;obtain ⟨n,rfl⟩:=p7 e3;rw [e4] at ho;have ra:=nh (H:=H) (h:=h) e5 ok;refine .tuple ho ?_ ra;have:=ra.length;simp only [QJ,lX] at this;rw [this];exact hz
theorem kE{h h':Heap}{v:Value}{xs:List Str}(e:p6 h v xs=true)(hk:∀ b o,h.get? b=some o->h'.get? b=some o):p6 h' v xs=true:=by
 obtain ⟨a,o,p,rfl,ho,e3,e4,e5⟩:=gs e;show ((h'.get? a).any λo=>(tupO o).any λp=>p.1 == "tuple" && du p.2.toList xs)=true;rw [hk _ _ ho];show ((tupO o).any λp=>p.1 == "tuple" && du p.2.toList xs)=true;rw [e3];exact Z3.mpr ⟨Q5.mpr e4,e5⟩
inductive Con | t (xs:List Str) | s (x:Str) | i (n:Int)
noncomputable def Con.d:Con->D
 | .t xs=>.tuple (xs.map .str)
 | .s x=>.str x
 | .i n=>.int n
noncomputable def uW(x:Str):Value->Bool
 | .str y _=>y == x
 | _=>false
noncomputable def uX(n:Int):Value->Bool
 | .int m _=>m == n
 | _=>false
def p8(h:Heap)(v:Value):Con->Bool
 | .t xs=>p6 h v xs
 | .s x=>uW x v
 | .i n=>uX n v
noncomputable def lO(x:Str):Bool:=decide (x.length<=sizeLine)&&PyData.strOk x
def Con.fit:Con->Bool
 | .t xs=>decide (xs.length<=sizeLine)&&xs.all lO
 | .s x=>lO x
 | .i _=>true
set_option tactic.hygienic true in
theorem sY:∀ {k:Con},p8 h v k=true->k.fit=true->Rd H h v k.d []
 | .t xs,e,f=>by
  rw [show (Con.t xs).fit=(decide (xs.length<=sizeLine)&&xs.all lO) from rfl,Qj,QE] at f;exact sW e f.1 λx hx=>by
   have:=ZK.mp f.2 x hx;rw [lO,Qj,QE] at this;exact this
 | .s x,e,f=>by
  rw [show (Con.s x).fit=(decide (x.length<=sizeLine)&&PyData.strOk x) from rfl,Qj,QE] at f;replace e:uW x v=true:=e;induction v<;>first | (exact nF e;done) | skip
  rename_i y t;have:y=x:=Q4 (show (y == x)=true from e);subst this;exact .str _ _ f.1 f.2
 | .i n,e,_=>by
  replace e:uX n v=true:=e;induction v<;>first | (exact nF e;done) | skip
  rename_i y t;have:y=n:=Q4 (show (y == n)=true from e);clear e;subst this;exact .int _ _
theorem kF(hk:∀ b o,h.get? b=some o->h'.get? b=some o):∀ {k:Con},p8 h v k=true->p8 h' v k=true
 | .t _,e=>kE e hk
 | .s _,e=>e
 | .i _,e=>e
def consAt(lv:List (Str × Con))(s:Shared):Bool:=lv.all λq=>(s.heap.nsMap mainGlobals q.1).any λv=>p8 s.heap v q.2
noncomputable def ConsAre(lv:List (Str × Con))(mg:Str->Option Value)(h:Heap):Prop:=∀ q ∈ lv,∃ v,mg q.1=some v/\p8 h v q.2=true
theorem cons_of(s:Shared)(e:consAt lv s=true):ConsAre lv (s.heap.nsMap mainGlobals) s.heap:=by
 intro q hq;have:=ZK.mp e q hq;simp only [Option.any_eq_true] at this;exact this
theorem ConsAre.keeps(mg:Str->Option Value)(h h':Heap)(x:ConsAre lv mg h)(hk:∀ b o,h.get? b=some o->h'.get? b=some o):ConsAre lv mg h':=
 λq hq=>(x q hq).imp λv r=>⟨r.1,kF hk r.2⟩
def gcOf(lv:List (Str × Con)):Str->Option D:=λx=>(lv.lookup x).map Con.d
theorem p9{lv:List (Str × Con)}{x:Str}{k:Con}(e:lv.lookup x=some k):(x,k) ∈ lv:=by
 induction lv with
 | nil=>exact nN e
 | cons p lv ih=>
  rw [ZX] at e;induction hb:x == p.1 with
  | true=>
   rw [hb] at e;obtain rfl:=Qv e;rw [Q4 hb];exact .head _
  | false=>
   rw [hb] at e;exact .tail _ (ih e)
theorem gcOf_rd{lv:List (Str × Con)}(hf:(lv.all λq=>q.2.fit&&noList q.2.d)=true){mg:Str->Option Value}{h:Heap}(X:ConsAre lv mg h){H:D->Int}{x:Str}{d:D}(e:gcOf lv x=some d):noList d=true/\∃ v,mg x=some v/\Rd H h v d []:=by
 refine byG λX_ g_=>?_;obtain ⟨k,e1,rfl⟩:=ad e;have:=ZK.mp hf _ (p9 e1);rw [Qj] at this;obtain ⟨v,h1,h2⟩:=X _ (p9 e1);refine g_ ?_;exact ⟨this.2,v,h1,sY h2 this.1⟩
theorem eI(a b:String):(Str.ofString a=Str.ofString b)↔a=b:=by
 constructor
 ·intro h
  rw [Str.ofString_eq_toList,Str.ofString_eq_toList] at h;have h:=Qf (λx:Str=>x.cps.toList) h;simp only at h
  exact String.toList_inj.mp (by
   have inj:∀ (l m:List Char),l.map Char.toNat=m.map Char.toNat->l=m:=by
    intro l;induction l with
    | nil=>intro m h;induction m<;>simp_all
    | cons c l ih=>
     intro m h;induction m using lc with
     | nil=>exact nM h
     | cons d m=>
      simp only [QX,List.cons.injEq] at h;rw [ih m h.2];have:c=d:=Char.ext (UInt32.toNat_inj.mp h.1);rw [this]
   exact inj _ _ h)
 ·rintro rfl;rfl
theorem wX(a b:String):(Str.ofString a == Str.ofString b)=decide (a=b):=by
 rw [ZZ];simp [eI]
theorem kG{α:Type}{f:List D->Option D}{c:List D->Option Bool}(h:α->List D)(p:α->Bool)(g:α->D):∀ (es:List α),(∀ e ∈ es,c (h e)=some (p e))->(∀ e ∈ es,p e=true->f (h e)=some (g e)) ->
 dE f c (es.map h)=some ((es.filter p).map g):=by
 intro es;induction es with
 | nil=>
  intro _ _;exact rfl
 | cons e es ih_=>
  intro hc hf;have ih:=ih_ (λx hx=>hc x (.tail _ hx)) (λx hx=>hf x (.tail _ hx));simp only [QX,nX,hc e (.head _),bX];induction hp:p e with
  | true=>simp [hf e (.head _) hp,ih,hp]
  | false=>simp [ih,hp]
set_option tactic.hygienic true in
theorem lP{b:List D->St->Option (Fl × St)}(I:Nat->St->Prop):∀ (items:List (List D)) (k:Nat) (m:St),I k m->(∀ i vs m,items[i]?=some vs->I (k+i) m->∃ m',b vs m=some (.next,m')/\I (k+i+1) m')->∃ m',forL b items m=some (.next,m')/\I (k+items.length) m':=by
 intro items;induction items with
 | nil=>
  intro k m h _;exact ⟨m,rfl,h⟩
 | cons vs r ih_=>
  intro k m h hs;obtain ⟨m1,e1,h1⟩:=hs 0 vs m rfl h;obtain ⟨m2,e2,h2⟩:=ih_ (k+1) m1 h1 λi ws m hi hm=>by
   have:=hs (i+1) ws m (hi) (by exact (show k+(i+1)=k+1+i by exact (Z9 k i).symm) ▸ hm);rw [show k+(i+1)+1=k+1+i+1 by exact Qf Nat.succ (Z9 k i).symm] at this;exact this
  refine ⟨m2,?_,by exact QV ▸ (show k+(r.length+1)=k+1+r.length by exact (Z9 k r.length).symm) ▸ h2⟩;simp only [gd,e1];exact e2
theorem kH{α:Type}(h:α->D)(es:List α):one (es.map h)=es.map λe=>[h e]:=by
 simp [one]
section
variable {Φ:Str->List D->Option D}{Γ:Str->Option D}{m:St}{N:Nat}
theorem ev_v{i:Nat}{d:D}(h:m[i]?=some (some d)):evE Φ Γ (.v i) m=some d:=by rw [x_v,h];rfl
theorem ag{a b:Ex}{x y d:D}(h1:evE Φ Γ a m=some x)(h2:evE Φ Γ b m=some y)(h3:item x y=some d):evE Φ Γ (.idx a b) m=some d:=by rw [vJ,h1,h2];exact h3
theorem af{q:Bool}{f:Str}{es:Exs}{xs:List D}{d:D}(h1:evEs Φ Γ es m=some xs)(h2:Φ f xs=some d):evE Φ Γ (.call q f es) m=some d:=by rw [uw,h1];exact h2
theorem ai{op:CmpOp}{a b:Ex}{x y:D}{r:Bool}(h1:evE Φ Γ a m=some x)(h2:evE Φ Γ b m=some y)(h3:br op x y=some r):evE Φ Γ (.cmp op a b) m=some (.bool r):=by rw [vI,h1,h2,bX,bX,h3];rfl
theorem cw{a:Ex}{b:Bool}(h:evE Φ Γ a m=some (.bool b)):evE Φ Γ (.not a) m=some (.bool (!b)):=by rw [vH,h];rfl
theorem aK{f:B1}{a:Ex}{x d:D}(h:evE Φ Γ a m=some x)(h2:b1 f x=some d):evE Φ Γ (.b1 f a) m=some d:=by rw [x_b1,h];exact h2
theorem aj{op:Operator}{a b:Ex}{x y d:D}(h1:evE Φ Γ a m=some x)(h2:evE Φ Γ b m=some y)(h3:bY op x y=some d):evE Φ Γ (.bin op a b) m=some d:=by rw [yg,h1,h2];exact h3
theorem aJ{es:Exs}{xs:List D}(h:evEs Φ Γ es m=some xs):evE Φ Γ (.tup es) m=some (.tuple xs):=by rw [ye,h];rfl
theorem kJ{o1 o2:CmpOp}{a b c:Ex}{x y z:D}{r:Bool}(h1:evE Φ Γ a m=some x)(h2:evE Φ Γ b m=some y)(h3:br o1 x y=some true)(h4:evE Φ Γ c m=some z)(h5:br o2 y z=some r):evE Φ Γ (.cmp2 o1 o2 a b c) m=some (.bool r):=by
 rw [nZ,h1,h2,bX,bX,h3,bX,Ql rfl,h4,bX,h5];rfl
theorem x_or2'{e1 e2:Ex}(h1:evE Φ Γ e1 m=some (.bool true)):evE Φ Γ (.bool false (.cons e1 (.cons e2 .nil))) m=some (.bool true):=by
 rw [fc,jV,h1];rfl
theorem es0:evEs Φ Γ .nil m=some []:=rfl
theorem esC{e:Ex}{es:Exs}{x:D}{xs:List D}(h1:evE Φ Γ e m=some x)(h2:evEs Φ Γ es m=some xs):evEs Φ Γ (.cons e es) m=some (x::xs):=by rw [vK,h1,h2];rfl
theorem sZ{a b:Ex}{x y d:D}(h1:evE Φ Γ a m=some x)(h2:evE Φ Γ b m=some y)(h3:jT x y=some d):evE Φ Γ (.index a b) m=some d:=by rw [n3,h1,h2];exact h3
theorem bW{es:Exs}{xs:List D}(h:evEs Φ Γ es m=some xs):evE Φ Γ (.lst es) m=some (.list xs):=by rw [yf,h];rfl
theorem ev_c{c:Ex}{b:Bool}(h:evE Φ Γ c m=some (.bool b)):evC Φ Γ (.some c) m=some b:=by rw [n6,h];rfl
theorem lenL{α:Type}{f:α->D}(xs:List α):b1 .len (.list (xs.map f))=some (.int xs.length):=Qf (λn:Nat=>some (PyData.int n)) (Yt f)
end
section
variable {Φ:Str->List D->Option D}{Γ:Str->Option D}{m:St}{ow:List Nat}{fr:Bool}{N:Nat}
theorem aq{e e2:Ex}{es:Exs}{b c:Bool}(h1:evE Φ Γ e m=some (.bool b))(h2:b=true->evB Φ Γ true (.cons e2 es) m=some (.bool c)):evB Φ Γ true (.cons e (.cons e2 es)) m=some (.bool (b&&c)):=by
 rw [jV,h1];clear h1;induction b with
 | true=>simp only [bX,nV,if_true,h2 rfl,Bool.true_and]
 | false=>rfl
theorem bo{e e2:Ex}{es:Exs}{b c:Bool}(h1:evE Φ Γ e m=some (.bool b))(h2:b=false->evB Φ Γ false (.cons e2 es) m=some (.bool c)):evB Φ Γ false (.cons e (.cons e2 es)) m=some (.bool (b||c)):=by
 rw [jV,h1];clear h1;induction b with
 | false=>simp only [bX,nV,if_true,h2 rfl,XQ]
 | true=>rfl
theorem aS{e1 e2:Ex}{b c:Bool}(h1:evE Φ Γ e1 m=some (.bool b))(h2:evE Φ Γ e2 m=some (.bool c)):evE Φ Γ (.bool true (.cons e1 (.cons e2 .nil))) m=some (.bool (b&&c)):=by
 rw [fc];exact aq h1 λo_=>by rw [bQ];exact h2
theorem fE{e1 e2:Ex}{b c:Bool}(h1:evE Φ Γ e1 m=some (.bool b))(h2:evE Φ Γ e2 m=some (.bool c)):evE Φ Γ (.bool false (.cons e1 (.cons e2 .nil))) m=some (.bool (b||c)):=by
 rw [fc];exact bo h1 λo_=>by rw [bQ];exact h2
theorem lQ{e1 e2 e3:Ex}{b c d:Bool}(h1:evE Φ Γ e1 m=some (.bool b))(h2:evE Φ Γ e2 m=some (.bool c))(h3:evE Φ Γ e3 m=some (.bool d)):evE Φ Γ (.bool true (.cons e1 (.cons e2 (.cons e3 .nil)))) m=some (.bool (b&&(c&&d))):=by
 rw [fc];exact aq h1 λo_=>aq h2 λo_=>by rw [bQ];exact h3
theorem zx{e1 e2 e3:Ex}{b c d:Bool}(h1:evE Φ Γ e1 m=some (.bool b))(h2:evE Φ Γ e2 m=some (.bool c))(h3:evE Φ Γ e3 m=some (.bool d)):evE Φ Γ (.bool false (.cons e1 (.cons e2 (.cons e3 .nil)))) m=some (.bool (b||(c||d))):=by
 rw [fc];exact bo h1 λo_=>bo h2 λo_=>by rw [bQ];exact h3
set_option tactic.hygienic true in
theorem ib:exSs Φ Γ ow fr N .nil m=some (.next,m):=rfl
set_option tactic.hygienic true in
theorem aP{s:Sm}{r:Sms}{m':St}(h:exS Φ Γ ow fr N s m=some (.next,m')):exSs Φ Γ ow fr N (.cons s r) m=exSs Φ Γ ow fr N r m':=by rw [fe,h]
theorem eA{s:Sm}{r:Sms}{m':St}{d:D}(h:exS Φ Γ ow fr N s m=some (.ret d,m')):exSs Φ Γ ow fr N (.cons s r) m=some (.ret d,m'):=by rw [fe,h]
set_option tactic.hygienic true in
theorem s6{i:Nat}{e:Ex}{d:D}(h:evE Φ Γ e m=some d)(ho:(!ow.contains i||flat d)=true):exS Φ Γ ow fr N (.asg i e) m=some (.next,m.set i (some d)):=by rw [vM,h];exact Ql ho
set_option tactic.hygienic true in
theorem gu{i:Nat}{e:Ex}{d:D}(h:evE Φ Γ e m=some d)(ho:ow.contains i=false):exS Φ Γ ow fr N (.asg i e) m=some (.next,m.set i (some d)):=s6 h (by exact ho ▸ rfl)
theorem eJ{e:Ex}{d:D}(h:evE Φ Γ e m=some d)(ho:(!fr||retOk ow e d)=true):exS Φ Γ ow fr N (.ret e) m=some (.ret d,m):=by rw [yl,h];exact Ql ho
set_option tactic.hygienic true in
theorem y_no{c:Ex}{t:Sms}{d:D}(h:evE Φ Γ c m=some d)(hb:truth d=some false):exS Φ Γ ow fr N (.ite c t .nil) m=some (.next,m):=by rw [rB,h,bX,hb];rfl
theorem kK{c:Ex}{t e:Sms}{d:D}(h:evE Φ Γ c m=some d)(hb:truth d=some true):exS Φ Γ ow fr N (.ite c t e) m=exSs Φ Γ ow fr N t m:=by rw [rB,h,bX,hb];rfl
theorem jj{c:Ex}{t e:Sms}{d:D}(h:evE Φ Γ c m=some d)(hb:truth d=some false):exS Φ Γ ow fr N (.ite c t e) m=exSs Φ Γ ow fr N e m:=by rw [rB,h,bX,hb];rfl
set_option tactic.hygienic true in
theorem Bd{i:Nat}{e:Ex}{xs:List D}{d:D}(h0:m[i]?=some (some (.list xs)))(h:evE Φ Γ e m=some d)(hn:noList d=true)(hz:xs.length<=2 ^ 22):exS Φ Γ ow fr N (.app i e) m=some (.next,m.set i (some (.list (xs++[d])))):=by
 have hs:(noList d&&bN xs.length)=true:=by rw [hn,bN,Qn hz];rfl
 rw [yi,h0,h];exact Ql hs
theorem dA{α:Type}{elt:Ex}{it:It}{cond:Exo}(es:List α)(h:α->List D)(p:α->Bool)(g:α->D)(hi:evIt Φ Γ it m=some (es.map h))(hl:es.length<=2 ^ 22)(hz:cz it=false)
 (hc:∀ e ∈ es,evC Φ Γ cond (m++(h e).map some)=some (p e)) (hf:∀ e ∈ es,p e=true->evE Φ Γ elt (m++(h e).map some)=some (g e)):evE Φ Γ (.comp elt it cond) m=some (.list ((es.filter p).map g)):=by
 have hs:bN (es.map h).length=true:=by simp only [bN,lX,hl,decide_true]
 simp only [ux,hi,bX,hs,if_true,(kG (f:=λvs=>evE Φ Γ elt (m++vs.map some)) (c:=λvs=>evC Φ Γ cond (m++vs.map some)) h p g es hc hf),hz,Bool.not_false,Bool.true_or]
theorem bB{α:Type}{elt:Ex}{it:It}(es:List α)(h:α->List D)(g:α->D)(hi:evIt Φ Γ it m=some (es.map h))(hl:es.length<=2 ^ 22)(hz:cz it=false)
 (hf:∀ e ∈ es,evE Φ Γ elt (m++(h e).map some)=some (g e)):evE Φ Γ (.comp elt it .none) m=some (.list (es.map g)):=by
 have:=dA es h (λo_=>true) g hi hl hz (cond:=.none) (λe Z=>n4) (λe he Z=>hf e he);rw [this];have hflt:es.filter (λo_=>true)=es:=by simp
 rw [hflt]
theorem jk{α:Type}{e:Ex}{es:List α}{g:α->D}(h:evE Φ Γ e m=some (.tuple (es.map g))):evIt Φ Γ (.plain e) m=some (es.map λa=>[g a]):=by simp only [gU,h,bX,iH,mX,kH]
theorem bt{α:Type}{e:Ex}{es:List α}{g:α->D}(h:evE Φ Γ e m=some (.list (es.map g))):evIt Φ Γ (.plain e) m=some (es.map λa=>[g a]):=by simp only [gU,h,bX,iG,mX,kH]
theorem bC{e:Ex}{n:Int}(h:evE Φ Γ e m=some (.int n))(hn:n.natAbs<=2 ^ 20):evIt Φ Γ (.range1 e) m=some ((List.range n.toNat).map λ(i:Nat)=>[PyData.int i]):=by
 have key:∀ (k:Nat) (a:Nat),one (cU (a:Int) k)=(List.range' a k).map λ(i:Nat)=>[PyData.int i]:=by
  intro k;induction k with
  | zero=>intro a;rfl
  | succ k ih=>
   intro a;have:=ih (a+1);simp only [one,eO,QX,Y3] at this ⊢;rw [<- this];rfl
 rw [iJ,h];refine (Ql hn).trans ?_;have:=key n.toNat 0;exact Yl ▸ Qf some this
set_option tactic.hygienic true in
theorem uY{i:Nat}{it:It}{body:Sms}{items:List (List D)}(I:Nat->St->Prop)(hi:evIt Φ Γ it m=some items)(hz:cz it=false)(h0:I 0 m)
 (hs:∀ (k:Nat) (vs:List D) (m:St),items[k]?=some vs->I k m->∃ x m',vs=[x]/\exSs Φ Γ ow fr N body (m.set i (some x))=some (.next,m')/\I (k+1) m'):∃ m',exS Φ Γ ow fr N (.for1 i it body) m=some (.next,m')/\I items.length m':=by
 rw [n7,hi,bX,hz,Qu Qr];obtain ⟨m',e,h⟩:=lP (b:=λvs m=>match vs with | [x]=>exSs Φ Γ ow fr N body (setV m i x) | _=>none) I items 0 m h0 λk vs m hk hI=>by
  rw [Zc] at hI;obtain ⟨x,m',rfl,e,h⟩:=hs k vs m hk hI;exact ⟨m',e,by rw [Zc];exact h⟩
 rw [Zc] at h;exact ⟨m',e,h⟩
theorem fF{fn:Fn}{args:List D}{d:D}(m0:St){m':St}(hl:args.length=fn.np)(hm:args.map some++List.replicate (fn.ns - fn.np) none=m0)(h:exSs Φ Γ fn.ow fn.fr N fn.body m0=some (.ret d,m')):runFn Φ Γ N fn args=some d:=by
 simp only [runFn,hl,if_true,hm,h]
noncomputable def Rt(x:Option (Fl × St))(d:D):Prop:=∃ m',x=some (.ret d,m')
set_option tactic.hygienic true in
theorem bp{s:Sm}{r:Sms}{d:D}(m':St)(h:exS Φ Γ ow fr N s m=some (.next,m'))(k:Rt (exSs Φ Γ ow fr N r m') d):Rt (exSs Φ Γ ow fr N (.cons s r) m) d:=by exact (aP h) ▸ k
theorem ah{e:Ex}{r:Sms}{d:D}(h:evE Φ Γ e m=some d)(ho:(!fr||retOk ow e d)=true):Rt (exSs Φ Γ ow fr N (.cons (.ret e) r) m) d:=⟨m,eA (eJ h ho)⟩
theorem aB{c:Ex}{t e r:Sms}{x d:D}(h:evE Φ Γ c m=some x)(hb:truth x=some true)(k:Rt (exSs Φ Γ ow fr N t m) d):Rt (exSs Φ Γ ow fr N (.cons (.ite c t e) r) m) d:=by
 obtain ⟨m',k⟩:=k;exact ⟨m',eA ((kK h hb).trans k)⟩
theorem aW{c:Ex}{t r:Sms}{x d:D}(h:evE Φ Γ c m=some x)(hb:truth x=some false)(k:Rt (exSs Φ Γ ow fr N r m) d):Rt (exSs Φ Γ ow fr N (.cons (.ite c t .nil) r) m) d:=bp m (y_no h hb) k
noncomputable def Sms.tl:Sms->Sms
 | .nil=>.nil
 | .cons _ r=>r
def Sms.drp(n:Nat)(r:Sms):Sms:=Nat.repeat Sms.tl n r
theorem bg{r:Sms}{d:D}(n:Nat)(e:exSs Φ Γ ow fr N r m=exSs Φ Γ ow fr N (r.drp n) m)(k:Rt (exSs Φ Γ ow fr N (r.drp n) m) d):Rt (exSs Φ Γ ow fr N r m) d:=e ▸ k
theorem bh{c:Ex}{t r:Sms}{b:Bool}{p:Prop} [Decidable p] {α:Type} {f:α->D} {x y:α} (h:evE Φ Γ c m=some (.bool b)) (hp:b=true↔p) (k1:p->Rt (exSs Φ Γ ow fr N t m) (f x)) (k2 : ¬ p->Rt (exSs Φ Γ ow fr N r m) (f y)):Rt (exSs Φ Γ ow fr N (.cons (.ite c t .nil) r) m) (f (if p then x else y)):=
 if q:p then (Ql q).symm ▸ aB h (Qf some (hp.mpr q)) (k1 q) else (Qu q).symm ▸ aW h (Qf some (YM.mpr λz=>q (hp.mp z))) (k2 q)
theorem an{i:Nat}{e:Ex}{r:Sms}{d:D}(x:D)(h:evE Φ Γ e m=some x)(ho:ow.contains i=false)(k:Rt (exSs Φ Γ ow fr N r (m.set i (some x))) d):Rt (exSs Φ Γ ow fr N (.cons (.asg i e) r) m) d:=bp _ (gu h ho) k
theorem au{fn:Fn}{args:List D}{d:D}(m0:St)(hl:args.length=fn.np)(hm:args.map some++List.replicate (fn.ns - fn.np) none=m0)(h:Rt (exSs Φ Γ fn.ow fn.fr N fn.body m0) d):runFn Φ Γ N fn args=some d:=by
 obtain ⟨m',h⟩:=h;exact fF m0 hl hm h
theorem qa{i:Nat}{e:Ex}{r:Sms}{R:Option (Fl × St)}(x:D)(h:evE Φ Γ e m=some x)(ho:ow.contains i=false)(k:exSs Φ Γ ow fr N r (m.set i (some x))=R):exSs Φ Γ ow fr N (.cons (.asg i e) r) m=R:=(aP (gu h ho)).trans k
set_option tactic.hygienic true in
noncomputable def Go(x:Option (Fl × St))(Q:St->Prop):Prop:=∃ m',x=some (.next,m')/\Q m'
theorem Go.mono{x:Option (Fl × St)}{Q Q':St->Prop}(h:Go x Q)(k:∀ m,Q m->Q' m):Go x Q':=h.elim λm' q=>⟨m',q.1,k m' q.2⟩
theorem am{Q:St->Prop}(h:Q m):Go (exSs Φ Γ ow fr N .nil m) Q:=⟨m,ib,h⟩
theorem bD{s:Sm}{r:Sms}{Q' Q:St->Prop}(h:Go (exS Φ Γ ow fr N s m) Q')(k:∀ m',Q' m'->Go (exSs Φ Γ ow fr N r m') Q):Go (exSs Φ Γ ow fr N (.cons s r) m) Q:=by
 obtain ⟨m1,e1,q1⟩:=h;obtain ⟨m2,e2,q2⟩:=k m1 q1;exact ⟨m2,(aP e1).trans e2,q2⟩
theorem aU{i:Nat}{e:Ex}{r:Sms}{Q:St->Prop}(x:D)(h:evE Φ Γ e m=some x)(ho:ow.contains i=false)(k:Go (exSs Φ Γ ow fr N r (m.set i (some x))) Q):Go (exSs Φ Γ ow fr N (.cons (.asg i e) r) m) Q:=by
 obtain ⟨m2,e2,q2⟩:=k;exact ⟨m2,(aP (gu h ho)).trans e2,q2⟩
theorem kM{c:Ex}{t e:Sms}{d:D}{b:Bool}{Q:St->Prop}(h:evE Φ Γ c m=some d)(hb:truth d=some b)(ht:b=true->Go (exSs Φ Γ ow fr N t m) Q)(he:b=false->Go (exSs Φ Γ ow fr N e m) Q):Go (exS Φ Γ ow fr N (.ite c t e) m) Q:=by
 induction b with
 | true=>exact (kK h hb) ▸ ht rfl
 | false=>exact (jj h hb) ▸ he rfl
theorem bE{i:Nat}{e:Ex}{r:Sms}{xs:List D}{d:D}{Q:St->Prop}(h0:m[i]?=some (some (.list xs)))(h:evE Φ Γ e m=some d)(hn:noList d=true)(hz:xs.length<=2 ^ 22)(k:Go (exSs Φ Γ ow fr N r (m.set i (some (.list (xs++[d]))))) Q):Go (exSs Φ Γ ow fr N (.cons (.app i e) r) m) Q:=by
 obtain ⟨m2,e2,q2⟩:=k;exact ⟨m2,(aP (Bd h0 h hn hz)).trans e2,q2⟩
theorem cb{i:Nat}{it:It}{body:Sms}{items:List (List D)}(I:Nat->St->Prop)(hi:evIt Φ Γ it m=some items)(hz:cz it=false)(h0:I 0 m)
 (hs:∀ (k:Nat) (vs:List D) (m:St),items[k]?=some vs->I k m->∃ x,vs=[x]/\Go (exSs Φ Γ ow fr N body (m.set i (some x))) (I (k+1))):Go (exS Φ Γ ow fr N (.for1 i it body) m) (I items.length):=by
 obtain ⟨m',e,q⟩:=uY (ow:=ow) (fr:=fr) (N:=N) (i:=i) (body:=body) I hi hz h0 λk vs m hk hI=>by
  refine byG λX_ g_=>?_;obtain ⟨x,e,m',e2,q⟩:=hs k vs m hk hI;refine g_ ?_;exact ⟨x,m',e,e2,q⟩
 exact ⟨m',e,q⟩
theorem cx{c:Ex}{t:Sms}{b:Bool}{Q:St->Prop}(h:evE Φ Γ c m=some (.bool b))(ht:b=true->Go (exSs Φ Γ ow fr N t m) Q)(he:b=false->Q m):Go (exS Φ Γ ow fr N (.ite c t .nil) m) Q:=kM h rfl ht λq=>am (he q)
theorem ce{c:Ex}{t r:Sms}{Q:St->Prop}(h:evE Φ Γ c m=some (.bool false))(k:Go (exSs Φ Γ ow fr N r m) Q):Go (exSs Φ Γ ow fr N (.cons (.ite c t .nil) r) m) Q:=by
 rw [aP (y_no h rfl)];exact k
theorem dT{c:Ex}{t r:Sms}{Q:St->Prop}(m':St)(h:evE Φ Γ c m=some (.bool true))(ht:Go (exSs Φ Γ ow fr N t m) (· = m'))(k:Go (exSs Φ Γ ow fr N r m') Q):Go (exSs Φ Γ ow fr N (.cons (.ite c t .nil) r) m) Q:=bD (cx h (λZ=>ht) nT) λZ e=>e ▸ k
theorem fG{c:Ex}{t e:Sms}{b:Bool}{p:Prop} [Decidable p] {α:Type} {f:α->St->Prop} {x y:α} (h:evE Φ Γ c m=some (.bool b)) (hp:b=true↔p) (k1:p->Go (exSs Φ Γ ow fr N t m) (f x)) (k2 : ¬ p->Go (exSs Φ Γ ow fr N e m) (f y)):Go (exSs Φ Γ ow fr N (.cons (.ite c t e) .nil) m) (f (if p then x else y)):=
 bD (kM h rfl (λz=>Ql (hp.mp z) ▸ k1 (hp.mp z)) λz=>Qu (λq=>nT ((hp.mpr q).symm.trans z)) ▸ k2 λq=>nT ((hp.mpr q).symm.trans z)) λZ=>am
theorem bj{s:Sm}{r:Sms}{Q':St->Prop}{d:D}(h:Go (exS Φ Γ ow fr N s m) Q')(k:∀ m',Q' m'->Rt (exSs Φ Γ ow fr N r m') d):Rt (exSs Φ Γ ow fr N (.cons s r) m) d:=by
 obtain ⟨m1,e1,q1⟩:=h;obtain ⟨m2,e2⟩:=k m1 q1;exact ⟨m2,(aP e1).trans e2⟩
noncomputable def Rp(P:D->Prop)(X:Option (Fl × St)):Prop:=∃ d,P d/\Rt X d
theorem qb{P:D->Prop}{e:Ex}{r:Sms}{d:D}(hp:P d)(h:evE Φ Γ e m=some d)(ho:(!fr||retOk ow e d)=true):Rp P (exSs Φ Γ ow fr N (.cons (.ret e) r) m):=⟨d,hp,ah h ho⟩
theorem lR{P:D->Prop}{s:Sm}{r:Sms}{Q:St->Prop}(h:Go (exS Φ Γ ow fr N s m) Q)(k:∀ m',Q m'->Rp P (exSs Φ Γ ow fr N r m')):Rp P (exSs Φ Γ ow fr N (.cons s r) m):=h.elim λm1 q=>(k m1 q.2).imp λZ p=>⟨p.1,bp m1 q.1 p.2⟩
theorem qc{P:D->Prop}{i:Nat}{e:Ex}{r:Sms}(x:D)(h:evE Φ Γ e m=some x)(ho:(!ow.contains i||flat x)=true)(k:Rp P (exSs Φ Γ ow fr N r (m.set i (some x)))):Rp P (exSs Φ Γ ow fr N (.cons (.asg i e) r) m):=k.imp λZ p=>⟨p.1,bp _ (s6 h ho) p.2⟩
theorem zy{P:D->Prop}{c:Ex}{t r:Sms}{b:Bool}(h:evE Φ Γ c m=some (.bool b))(k1:b=true->Rp P (exSs Φ Γ ow fr N t m))(k2:b=false->Rp P (exSs Φ Γ ow fr N r m)):Rp P (exSs Φ Γ ow fr N (.cons (.ite c t .nil) r) m):=by
 induction b with
 | true=>exact (k1 rfl).imp λZ q=>⟨q.1,aB h rfl q.2⟩
 | false=>exact (k2 rfl).imp λZ q=>⟨q.1,aW h rfl q.2⟩
theorem uZ{P:D->Prop}{fn:Fn}{args:List D}(hl:args.length=fn.np)(h:Rp P (exSs Φ Γ fn.ow fn.fr N fn.body (args.map some++List.replicate (fn.ns - fn.np) none))):∃ d,P d/\runFn Φ Γ N fn args=some d:=h.imp λZ p=>⟨p.1,au _ hl rfl p.2⟩
end
theorem iteD{α:Type}{P:α->Prop}{p:Prop} [Decidable p] {a b:α} (h1:p->P a) (h2 : ¬ p->P b):P (if p then a else b):=if h:p then (Ql h).symm ▸ h1 h else (Qu h).symm ▸ h2 h
theorem iteP{α:Type}{P:α->Prop}{p:Prop} [Decidable p] {a b:α} (h1:P a) (h2:P b):P (if p then a else b):=iteD (λZ=>h1) λZ=>h2
theorem mC{α:Type}{P:α->Prop}{a:α}{l:List α}(h:P a)(k:∀ x ∈ l,P x):∀ x ∈ a::l,P x:=List.forall_mem_cons.mpr ⟨h,k⟩
theorem mN{α:Type}{P:α->Prop}:∀ x ∈ ([]:List α),P x:=λZ h=>(YJ h).elim
theorem gb{a b:Bool}{p q:Prop}(h1:a=true↔p)(h2:b=true↔q):(a&&b)=true↔p/\q:=Z3.trans (and_congr h1 h2)
theorem Be{b:Bool}:(!b)=true↔b=false:=by induction b<;>decide
theorem b_lt{a b:Int}:decide (a < b)=true↔a < b:=decide_eq_true_iff
theorem jm{a b:Nat}:decide ((a:Int) < b)=true↔a < b:=decide_eq_true_iff.trans Q0
theorem b_eq{a b:Int}:(a == b)=true↔a=b:=Q5
theorem eK:∀ l:List Str,av (l.map .str)=true
 | []=>rfl
 | _::l=>by rw [QX,dD,eK l];rfl
theorem wY(x:Str):shp (.str x)=true:=rfl
theorem lU(w:Str):∀ l:List Str,((l.map PyData.str).any λy=>y.eqv (.str w))=l.any λy=>y == w
 | []=>rfl
 | x::l=>by rw [QX,Yk,Yk,lU w l];rfl
theorem fH(w:Str)(l:List Str):pyIn (.str w) (.list (l.map .str))=some (l.any λy=>y == w):=by
 show anyEq (.str w) (l.map .str)=_;unfold anyEq;rw [eK,wY,lU];rfl
theorem s7(w:Str)(l:List Str):pyIn (.str w) (.tuple (l.map .str))=some (l.any λy=>y == w):=fH w l
theorem dU(b:Bool):truth (.bool b)=some b:=rfl
theorem Bf(x y:Str):br .Eq (.str x) (.str y)=some (x == y):=rfl
theorem v_gt(x y:Int):br .Gt (.int x) (.int y)=some (decide (y < x)):=rfl
theorem v_lt(x y:Int):br .Lt (.int x) (.int y)=some (decide (x < y)):=rfl
theorem s8(x y:Int):bY .Add (.int x) (.int y)=some (.int (x+y)):=rfl
theorem zz(x y:Int)(h:mulOkI x y=true):bY .Mult (.int x) (.int y)=some (.int (x * y)):=Ql h
theorem zA(x y:Int)(h:(smallI x||smallI y)=true):bY .Mult (.int x) (.int y)=some (.int (x * y)):=zz x y (by trivial)
theorem dW(x y:Int)(h:smallI x=true):bY .Mult (.int x) (.int y)=some (.int (x * y)):=zA x y (by rw [h];rfl)
theorem vc(x y:Int)(h:smallI y=true):bY .Mult (.int x) (.int y)=some (.int (x * y)):=zA x y (by rw [h];simp)
theorem zB(x y:Int)(h:y ≠ 0/\y.natAbs < 1073741824):bY .FloorDiv (.int x) (.int y)=some (.int (x.fdiv y)):=Ql h
theorem eN(x y:Int)(h:y ≠ 0):bY .Mod (.int x) (.int y)=some (.int (x.fmod y)):=Ql h
theorem zC:bY .Pow (.int 10) (.int 9)=some (.int 1000000000):=rfl
theorem zD(xs:List D):b1 .len (.tuple xs)=some (.int xs.length):=rfl
theorem vf(xs ys:List D)(h:xs.length+ys.length<=2 ^ 14):bY .Add (.tuple xs) (.tuple ys)=some (.tuple (xs++ys)):=Ql h
theorem vg(xs ys:List D)(h:xs.length+ys.length<=2 ^ 20):bY .Add (.list xs) (.list ys)=some (.list (xs++ys)):=Ql h
theorem zE(xs ys:Str)(h:xs.length+ys.length<=2 ^ 20):bY .Add (.str xs) (.str ys)=some (.str (xs++ys)):=Ql h
theorem catR{α:Type}{f:α->D}{xs ys:List α}(h:xs.length+ys.length<=2 ^ 20):bY .Add (.list (xs.map f)) (.list (ys.map f))=some (.list ((xs++ys).map f)):=by
 rw [vg _ _ (by rw [lX,lX];exact h),Qb]
theorem cW{n k:Nat}{vs:List D}(h:((List.range n).map λ(i:Nat)=>[PyData.int i])[k]?=some vs):vs=[.int k]/\k < n:=by
 rw [Qy] at h;refine (QK h).elim λi q=>(Qq q.1).elim λl e=>?_;rw [List.getElem_range] at e;rw [Qo] at l;exact ⟨q.2 ▸ e ▸ rfl,l⟩
theorem zG(xs:List D):b1 .any (.list xs)=(cT xs).map λbs=>.bool (bs.any id):=rfl
theorem zH(xs:List D):b1 .all (.list xs)=(cT xs).map λbs=>.bool (bs.all id):=rfl
theorem p_mk{xs:List D}{i:Int}{k:Nat}{d:D}(h:aF xs.length i=some k)(hd:xs[k]?=some d):item (.list xs) (.int i)=some d:=by
 show ((aF xs.length i).bind λk=>xs[k]?)=some d;exact h ▸ hd
theorem Bg{xs:List D}{i:Int}{k:Nat}{d:D}(h:aF xs.length i=some k)(hd:xs[k]?=some d):item (.tuple xs) (.int i)=some d:=by
 show ((aF xs.length i).bind λk=>xs[k]?)=some d;exact h ▸ hd
theorem aN{n:Nat}{i:Int}(h0:0<=i)(h:i < n):aF n i=some i.toNat:=by simp only [aF,h0,h,if_true]
def jn(g:Str):List (Str × Fn)->List (Str × Fn)
 | []=>[]
 | (f,fn)::r=>if g == f then (f,fn)::r else if g == exn f then [] else jn g r
theorem s9(g:Str)(f:Str)(fn:Fn)(rest:List (Str × Fn)):jn g ((f,fn)::rest)=if (g == f)=true then (f,fn)::rest else if (g == exn f)=true then [] else jn g rest:=rfl
theorem ax{Γ:Str->Option D}{N:Nat}{g:Str}{args:List D}:∀ {tbl:List (Str × Fn)} {fn:Fn} {rest:List (Str × Fn)},jn g tbl=(g,fn)::rest->mkΦ Γ N tbl g args=runFn (mkΦ Γ N rest) Γ N fn args:=by
 intro tbl;induction tbl with
 | nil=>
  intro _ _ h;exact nL h
 | cons p_ r ih_=>
  obtain ⟨f',fn'⟩:=p_;intro fn rest h;rw [s9] at h;show (if (g == f')=true then runFn (mkΦ Γ N r) Γ N fn' args else if (g == exn f')=true then runX (mkΦ Γ N r) Γ N fn' args else mkΦ Γ N r g args)=_;induction hb:g == f' with
  | true=>
   rw [Ql hb] at h;cases h;rfl
  | false=>
   rw [Qu (by exact hb ▸ Qr)] at h;rw [Qu Qr];induction hx:g == exn f' with
   | true=>exact nL ((Ql hx).symm.trans h)
   | false=>
    rw [Qu (by exact hx ▸ Qr)] at h;exact (Qu Qr) ▸ ih_ h
def qd(g:Str):List (Str × Fn)->List (Str × Fn)
 | []=>[]
 | (f,fn)::r=>if exn g == f then [] else if g == f then (f,fn)::r else if exn g == exn f then [] else qd g r
theorem wZ(g:Str)(f:Str)(fn:Fn)(rest:List (Str × Fn)):qd g ((f,fn)::rest)=if (exn g == f)=true then [] else if (g == f)=true then (f,fn)::rest else if (exn g == exn f)=true then [] else qd g rest:=rfl
theorem zI{Γ:Str->Option D}{N:Nat}{g:Str}{args:List D}:∀ {tbl:List (Str × Fn)} {fn:Fn} {rest:List (Str × Fn)},qd g tbl=(g,fn)::rest->mkΦ Γ N tbl (exn g) args=runX (mkΦ Γ N rest) Γ N fn args:=by
 intro tbl;induction tbl with
 | nil=>
  intro _ _ h;exact nL h
 | cons p_ r ih_=>
  obtain ⟨f',fn'⟩:=p_;intro fn rest h;rw [wZ] at h;show (if (exn g == f')=true then runFn (mkΦ Γ N r) Γ N fn' args else if (exn g == exn f')=true then runX (mkΦ Γ N r) Γ N fn' args else mkΦ Γ N r (exn g) args)=_;induction ha:exn g == f' with
  | true=>exact nL ((Ql ha).symm.trans h)
  | false=>
   rw [Qu (by exact ha ▸ Qr)] at h;rw [Qu Qr];induction hb:g == f' with
   | true=>
    rw [Ql hb] at h;clear ha;cases h;rw [Ql (Zh _)]
   | false=>
    rw [Qu (by exact hb ▸ Qr)] at h;induction hx:exn g == exn f' with
    | true=>exact nL ((Ql hx).symm.trans h)
    | false=>
     rw [Qu (by exact hx ▸ Qr)] at h;exact (Qu Qr) ▸ ih_ h
theorem fn_none{Φ:Str->List D->Option D}{Γ:Str->Option D}{N:Nat}{f:Fn}{args:List D}{x:D}(h:runX Φ Γ N f args=some x):runFn Φ Γ N f args=none:=by
 unfold runX at h;unfold runFn
 by_cases hn:args.length=f.np
 ·rw [Ql hn] at h ⊢
  induction q:exSs Φ Γ f.ow f.fr N f.body (args.map some++List.replicate (f.ns - f.np) none) with
  | none=>rfl
  | some r=>
   rw [q] at h;obtain ⟨fl,m⟩:=r;clear q;induction fl with
   | next=>exact nN h
   | ret=>exact nN h
   | exc=>rfl
 ·exact nN ((Qu hn).symm.trans h)
theorem nl_t(a:List D):noList (.tuple a)=ap a:=rfl
theorem nl_i(a:Int):noList (.int a)=true:=rfl
theorem nl_s(a:Str):noList (.str a)=true:=rfl
theorem ns_n:ap []=true:=rfl
theorem ns_c(x:D)(xs:List D):ap (x::xs)=(noList x&&ap xs):=rfl
theorem nd_l(a:List D):noDict (.list a)=av a:=rfl
theorem ds_c(x:D)(xs:List D):av (x::xs)=(noDict x&&av xs):=rfl
theorem fl_l(a:List D):flat (.list a)=ap a:=rfl
theorem zJ(xs:List D)(n:Int)(h:xs.length<=1000/\n<=10000/\-10000<=n):bY .Mult (.list xs) (.int n)=some (.list (repL xs n.toNat)):=Ql h
theorem qv_l(a b:List D):PyData.eqv (.list a) (.list b)=PyData.eqvAll a b:=rfl
theorem dp_i(a:Int):PyData.depth (.int a)=0:=rfl
theorem dp_l(a:List D):PyData.depth (.list a)=PyData.depthAll a+1:=rfl
theorem da_c(x:D)(xs:List D):PyData.depthAll (x::xs)=max (PyData.depth x) (PyData.depthAll xs):=rfl
theorem qe{fr:Bool}{ow:List Nat}{e:Ex}{xs:List D}(h:(isOw ow e||frE e)=true)(k:ap xs=true):(!fr||retOk ow e (.list xs))=true:=by
 have:flat (.list xs)=true:=k;unfold retOk;rw [h,this,XZ,YD,YD]
structure En where
 w:Str
 k:Str
 t:Int
 s:Str
 o:Bool
noncomputable def En.d(e:En):D:=.tuple [.str e.w,.str e.k,.int e.t,.str e.s,.bool e.o]
noncomputable def eL(es:List En)(w:Str):Bool:=es.any λe=>e.s == w&&e.o
theorem gv{α:Type}(f:α->Bool):∀ (l:List α),cT (l.map λa=>PyData.bool (f a))=some (l.map f):=by
 intro l;induction l with
 | nil=>
  exact rfl
 | cons a l ih_=>
  show ((cT (l.map λa=>PyData.bool (f a))).map λbs=>f a::bs)=_;exact Qf _ ih_
set_option tactic.hygienic true
abbrev kI (n:Int):Ex:=.k (.int n)
abbrev kS (x:Str):Ex:=.k (.str x)
abbrev xI (i:Nat) (n:Int):Ex:=.idx (.v i) (kI n)
abbrev e1 (a:Ex):Exs:=.cons a .nil
abbrev t1 (a:Sm):Sms:=.cons a .nil
abbrev e2 (a b:Ex):Exs:=.cons a (.cons b .nil)
abbrev t2 (a b:Sm):Sms:=.cons a (.cons b .nil)
abbrev e3 (a b c:Ex):Exs:=.cons a (.cons b (.cons c .nil))
abbrev t3 (a b c:Sm):Sms:=.cons a (.cons b (.cons c .nil))
abbrev e4 (a b c d:Ex):Exs:=.cons a (.cons b (.cons c (.cons d .nil)))
abbrev t4 (a b c d:Sm):Sms:=.cons a (.cons b (.cons c (.cons d .nil)))
abbrev e5 (a b c d e:Ex):Exs:=.cons a (.cons b (.cons c (.cons d (.cons e .nil))))
abbrev t5 (a b c d e:Sm):Sms:=.cons a (.cons b (.cons c (.cons d (.cons e .nil))))
abbrev e6 (a b c d e f:Ex):Exs:=.cons a (.cons b (.cons c (.cons d (.cons e (.cons f .nil)))))
abbrev t6 (a b c d e f:Sm):Sms:=.cons a (.cons b (.cons c (.cons d (.cons e (.cons f .nil)))))
noncomputable def fnlaw:Fn:=⟨1,7,[],false,(.cons (.asg 1 (.call false "_law_drawn" (e2 (.comp (.call false "_law_cell_at" (e2 (.v 0) (.v 7))) (.range1 (kI 21)) .none) (kI 7)))) (.cons (.asg 1 (.call false "_law_spoiled" (e3 (.v 1) (.v 0) (kI 21)))) (.cons (.ite (.cmp .Eq (.bin .Mod (.call false "_law_cell_at" (e2 (.v 0) (kI 25))) (kI 4)) (kI 1)) (t1 (.asg 1 (.call false "_law_spoiled" (e3 (.v 1) (.v 0) (kI 26))))) .nil) (.cons (.asg 2 (.b1 .list (.v 1))) (.cons (.asg 3 (.call false "_law_due" (e1 (.v 1)))) (t6 (.asg 4 (.tup (e2 (.comp (.cmp .Eq (xI 3 0) (.v 7)) (.plain (.lst (e6 (kS "row") (kS "block") (kS "word") (kS "narrow") (kS "taken") (kS "end")))) .none) (xI 3 1)))) (.cor "_law_caught" 2 4 (.not (.call false "_law_made" (e1 (.bin .Add (xI 3 1) (kI 2)))))) (.asg 5 (kI 1)) (.for1 6 (.plain (.v 1)) (t1 (.ite (.bool true (e2 (.cmp .Eq (xI 3 1) (.neg (kI 1))) (.cmp .Eq (xI 6 0) (kS "pick")))) (t1 (.asg 5 (.bin .Mult (.v 5) (.b1 .len (xI 6 2))))) .nil))) (.cand (.cmp .Lt (.v 5) (kI 41)) "_law_looked" 2 4) (.ret (.bool true (e2 (.cmp .Eq (.b1 .len (.v 2)) (.b1 .len (.v 1))) (.cmp .Eq (.v 2) (.v 1)))))))))))⟩
noncomputable def fn_law_made:Fn:=⟨1,3,[],false,(t3 (.for1 1 (.plain (.lst (e6 (.mk "NoRow" (.v 0)) (.mk "NoBlock" (.v 0)) (.mk "NoWord" (.v 0)) (.mk "Narrow" (.v 0)) (.mk "Taken" (.v 0)) (.mk "NoEnd" (.v 0))))) (t1 (.ite (.bool false (e3 (.not (.isc (.v 1) "DeskError")) (.cmp .NotEq (.att (.v 1)) (.v 0)) (.cmp .NotEq (.b1 .len (.comp (.v 3) (.plain (.call false "_law_kinds" (e1 (.v 1)))) (.some (.v 3)))) (kI 1)))) (t1 (.ret (.k (.bool false)))) .nil))) (.asg 2 (.call false "_law_kinds" (e1 (.mk "DeskError" (.v 0))))) (.ret (.bool true (e2 (.cmp .Eq (.att (.mk "DeskError" (.v 0))) (.v 0)) (.cmp .Eq (.b1 .len (.comp (.v 3) (.plain (.v 2)) (.some (.v 3)))) (kI 0))))))⟩
noncomputable def fn_law_spoiled:Fn:=⟨3,8,[],false,(.cons (.asg 3 (.bin .Mod (.call false "_law_cell_at" (e2 (.v 1) (.v 2))) (kI 8))) (.cons (.asg 4 (.bin .Mod (.call false "_law_cell_at" (e2 (.v 1) (.bin .Add (.v 2) (kI 1)))) (.bin .Add (.b1 .len (.v 0)) (kI 1)))) (.cons (.asg 5 (.call false "_law_cell_at" (e2 (.v 1) (.bin .Add (.v 2) (kI 2))))) (.cons (.ite (.cmp .Eq (.v 3) (kI 0)) (t1 (.ret (.v 0))) .nil) (t6 (.ite (.cmp .Eq (.v 3) (kI 1)) (t1 (.ret (.bin .Add (.sl (.v 0) .none (.some (.v 4))) (.sl (.v 0) (.some (.bin .Add (.v 4) (kI 1))) .none)))) .nil) (.asg 7 (.comp (.v 8) (.enum (.v 0)) (.some (.bool true (e2 (.call false "_law_is_row" (e1 (.v 9))) (.cmp .Eq (xI 9 0) (kS "pick"))))))) (.ite (.bool true (e2 (.cmp .Eq (.v 3) (kI 6)) (.cmp .Gt (.b1 .len (.v 7)) (kI 0)))) (t2 (.asg 6 (.idx (.v 7) (.bin .Mod (.v 4) (.b1 .len (.v 7))))) (.ret (.bin .Add (.bin .Add (.sl (.v 0) .none (.some (.bin .Add (.v 6) (kI 1)))) (.lst (e1 (.tup (e2 (.idx (.lst (e3 (kS "look") (kS "back") (kS "change"))) (.bin .Mod (.v 5) (kI 3))) (.idx (.idx (.v 0) (.v 6)) (kI 1))))))) (.sl (.v 0) (.some (.bin .Add (.v 6) (kI 1))) .none)))) .nil) (.ite (.cmp .Eq (.v 3) (kI 7)) (t1 (.ret (.bin .Add (.bin .Add (.sl (.v 0) .none (.some (.v 4))) (.lst (e2 (.tup (e1 (kS "again"))) (.tup (e1 (kS "either")))))) (.sl (.v 0) (.some (.v 4)) .none)))) .nil) (.ite (.cmp .Lt (.v 3) (kI 4)) (t1 (.ret (.bin .Add (.bin .Add (.sl (.v 0) .none (.some (.v 4))) (.lst (e1 (.call false "_law_odd" (e1 (.v 5)))))) (.sl (.v 0) (.some (.v 4)) .none)))) .nil) (.ret (.bin .Add (.bin .Add (.sl (.v 0) .none (.some (.v 4))) (.lst (e1 (.call false "_law_more" (e3 (.v 5) (.call false "_law_cell_at" (e2 (.v 1) (.bin .Add (.v 2) (kI 3)))) (.v 0)))))) (.sl (.v 0) (.some (.v 4)) .none))))))))⟩
noncomputable def fn_law_more:Fn:=⟨3,7,[],false,(.cons (.asg 3 (.bin .Add (.comp (xI 7 1) (.plain (.v 2)) (.some (.bool true (e2 (.call false "_law_is_row" (e1 (.v 7))) (.cmp .In (xI 7 0) (.lst (e2 (kS "lend") (kS "pick")))))))) (.lst (e2 (kS "zz") (kS "zzz"))))) (t6 (.asg 4 (.idx (.v 3) (.bin .Mod (.v 1) (.b1 .len (.v 3))))) (.asg 5 (.idx (.v 3) (.bin .Mod (.bin .FloorDiv (.v 1) (kI 3)) (.b1 .len (.v 3))))) (.asg 6 (.lst (e5 (.tup (e4 (kS "lend") (.v 4) (kS "write") (.v 5))) (.tup (e4 (kS "lend") (.v 4) (kS "read") (.v 5))) (.tup (e1 (kS "end"))) (.tup (e1 (kS "or"))) (.tup (e2 (kS "back") (.v 4)))))) (.asg 6 (.bin .Add (.v 6) (.lst (e3 (.tup (e2 (kS "look") (.v 4))) (.tup (e2 (kS "change") (.v 4))) (.tup (e4 (kS "lend") (.v 4) (kS "write") (.bin .Sub (.bin .Pow (kI 10) (kI 9)) (kI 1)))))))) (.asg 6 (.bin .Add (.v 6) (.lst (e2 (.tup (e4 (kS "lend") (kS "zzzz") (kS "write") (.v 4))) (.tup (e3 (kS "pick") (.v 4) (.tup (e2 (kI 0) (kI 0))))))))) (.ret (.idx (.v 6) (.bin .Mod (.v 0) (kI 10))))))⟩
noncomputable def fn_law_odd:Fn:=⟨1,2,[],false,(.cons (.asg 1 (.lst (e3 (.tup (e4 (kS "lend") (kS "abcdefghijklm") (kS "read") (kI 1))) (.tup (e4 (kS "lend") (kS "a") (kS "write") (.neg (kI 1)))) (.tup (e4 (kS "lend") (kS "a") (kS "read") (.bin .Pow (kI 10) (kI 9))))))) (.cons (.asg 1 (.bin .Add (.v 1) (.lst (.cons (.tup (e3 (kS "pick") (kS "a") (.tup (e6 (kI 1) (kI 2) (kI 3) (kI 4) (kI 5) (kI 6))))) (.cons (.k .none) (e6 (kI 5) (kS "end") (.lst (e1 (kS "end"))) (.tup .nil) (.tup (e2 (kS "end") (kI 1))) (.tup (e2 (kS "either") (kS "a"))))))))) (.cons (.asg 1 (.bin .Add (.v 1) (.lst (e5 (.tup (e1 (kS "stop"))) (.tup (e1 (.k (.bool true)))) (.tup (e1 (.k .none))) (.tup (e3 (kS "lend") (kS "a") (kS "read"))) (.tup (e4 (kS "lend") (kS "a") (kS "reads") (kI 1))))))) (.cons (.asg 1 (.bin .Add (.v 1) (.lst (e3 (.tup (e4 (kS "lend") (kS "aB") (kS "read") (kI 1))) (.tup (e4 (kS "lend") (kS "") (kS "read") (kI 1))) (.tup (e4 (kS "lend") (kS "a") (kS "read") (.k (.bool true)))))))) (.cons (.asg 1 (.bin .Add (.v 1) (.lst (e5 (.tup (e4 (kS "lend") (kS "a") (kS "read") (.k .none))) (.tup (e3 (kS "pick") (kS "a") (.tup .nil))) (.tup (e3 (kS "pick") (kS "a") (.lst (e1 (kI 1))))) (.tup (e2 (kS "or") (kI 1))) (.tup (e2 (kS "again") (kI 1))))))) (t6 (.asg 1 (.bin .Add (.v 1) (.lst (e4 (.tup (e3 (kS "pick") (kS "a") (.tup (e2 (kI 1) (.neg (kI 1)))))) (.tup (e1 (kS "look"))) (.tup (e2 (kS "look") (kI 5))) (.tup (e4 (kS "lend") (kS "a") (kS "read") (kS "aB"))))))) (.asg 1 (.bin .Add (.v 1) (.lst (e3 (.tup (e4 (kS "lend") (kS "a") (kS "write") (kS ""))) (.tup (e4 (kS "lend") (kS "a") (kS "read") (kS "abcdefghijklm"))) (.tup (e3 (kS "pick") (kS "a") (.tup (e2 (kI 0) (.k (.bool true)))))))))) (.asg 1 (.bin .Add (.v 1) (.lst (e4 (.tup (e3 (kS "pick") (kS "a") (.tup (e1 (.bin .Pow (kI 10) (kI 9)))))) (.tup (e3 (kS "pick") (kS "a") (.tup (e2 (kI 1) (kS "b"))))) (.tup (e3 (kS "pick") (kS "aB") (.tup (e1 (kI 1))))) (.tup (e2 (kS "back") (kS ""))))))) (.asg 1 (.bin .Add (.v 1) (.lst (e4 (.tup (e3 (kS "back") (kS "a") (kS "b"))) (.tup (e2 (kS "change") (kS "a b"))) (.tup (e4 (kS "lend") (kI 5) (kS "read") (kI 1))) (.tup (e1 (.lst (e1 (kS "end"))))))))) (.asg 1 (.bin .Add (.v 1) (.lst (e3 (.tup (e4 (kS "lend") (kS "a") (.lst (e1 (kS "read"))) (kI 1))) (.tup (e2 (kS "look") (.lst (e1 (kS "a"))))) (.tup (e4 (kS "lend") (kS "a") (kS "read") (.lst (e1 (kI 1))))))))) (.ret (.idx (.v 1) (.bin .Mod (.v 0) (kI 42))))))))))⟩
noncomputable def fn_law_due:Fn:=⟨1,6,[1,2],false,(t5 (.asg 1 (.lst .nil)) (.asg 2 (.lst .nil)) (.for2 3 4 (.enum (.v 0)) (t6 (.ite (.not (.call false "_law_is_row" (e1 (.v 4)))) (t1 (.ret (.tup (e2 (kS "row") (.v 3))))) .nil) (.ite (.bool false (e2 (.bool true (e2 (.cmp .Eq (xI 4 0) (kS "end")) (.cmp .Eq (.b1 .len (.v 1)) (kI 0)))) (.bool true (e2 (.cmp .Eq (xI 4 0) (kS "or")) (.bool false (e2 (.cmp .Eq (.b1 .len (.v 1)) (kI 0)) (.cmp .NotEq (.idx (.idx (.v 1) (.neg (kI 1))) (kI 0)) (kS "either")))))))) (t1 (.ret (.tup (e2 (kS "block") (.v 3))))) .nil) (.asg 5 (.call true "_law_due_words" (e2 (.v 4) (.v 1)))) (.ite (.cmp .NotEq (.v 5) (kS "")) (t1 (.ret (.tup (e2 (.v 5) (.v 3))))) .nil) (.ite (.cmp .In (xI 4 0) (.lst (e4 (kS "lend") (kS "pick") (kS "either") (kS "again")))) (t2 (.app 1 (.v 4)) (.app 2 (.v 3))) .nil) (.ite (.cmp .Eq (xI 4 0) (kS "end")) (t2 (.pop 1) (.pop 2)) .nil))) (.ite (.cmp .Gt (.b1 .len (.v 2)) (kI 0)) (t1 (.ret (.tup (e2 (kS "end") (.idx (.v 2) (.neg (kI 1))))))) .nil) (.ret (.tup (e2 (kS "") (.neg (kI 1))))))⟩
noncomputable def fn_law_due_words:Fn:=⟨2,5,[2],true,(.cons (.asg 2 (.dic .nil .nil)) (t6 (.for1 3 (.plain (.v 1)) (t2 (.ite (.cmp .Eq (xI 3 0) (kS "lend")) (t1 (.seti 2 (xI 3 1) (xI 3 2))) .nil) (.ite (.cmp .Eq (xI 3 0) (kS "pick")) (t1 (.seti 2 (xI 3 1) (kS "pick"))) .nil))) (.ite (.cmp .In (xI 0 0) (.lst (e3 (kS "back") (kS "look") (kS "change")))) (t3 (.asg 4 (.get (.v 2) (xI 0 1) (kS "pick"))) (.ite (.cmp .Eq (.v 4) (kS "pick")) (t1 (.ret (kS "word"))) .nil) (.ret (.idx (.lst (e2 (kS "") (kS "narrow"))) (.b1 .int (.bool true (e2 (.cmp .Eq (xI 0 0) (kS "change")) (.cmp .Eq (.v 4) (kS "read")))))))) .nil) (.ite (.bool true (e3 (.cmp .Eq (xI 0 0) (kS "lend")) (.isi (xI 0 3) .str) (.cmp .NotIn (xI 0 3) (.v 2)))) (t1 (.ret (kS "word"))) .nil) (.ite (.bool true (e2 (.cmp .In (xI 0 0) (.lst (e2 (kS "lend") (kS "pick")))) (.cmp .In (xI 0 1) (.v 2)))) (t1 (.ret (kS "taken"))) .nil) (.ite (.bool true (e3 (.cmp .Eq (xI 0 0) (kS "lend")) (.cmp .Eq (xI 0 2) (kS "write")) (.cmp .Eq (.get (.v 2) (xI 0 3) (kS "")) (kS "read")))) (t1 (.ret (kS "narrow"))) .nil) (.ret (kS ""))))⟩
noncomputable def fn_law_is_row:Fn:=⟨1,1,[],false,(.cons (.ite (.bool false (e3 (.not (.isi (.v 0) .tuple)) (.cmp .Lt (.b1 .len (.v 0)) (kI 1)) (.not (.isi (xI 0 0) .str)))) (t1 (.ret (.k (.bool false)))) .nil) (t6 (.ite (.cmp .In (xI 0 0) (.lst (e4 (kS "either") (kS "or") (kS "again") (kS "end")))) (t1 (.ret (.cmp .Eq (.b1 .len (.v 0)) (kI 1)))) .nil) (.ite (.bool false (e2 (.cmp .Lt (.b1 .len (.v 0)) (kI 2)) (.not (.call false "_law_is_word" (e1 (xI 0 1)))))) (t1 (.ret (.k (.bool false)))) .nil) (.ite (.cmp .In (xI 0 0) (.lst (e3 (kS "back") (kS "look") (kS "change")))) (t1 (.ret (.cmp .Eq (.b1 .len (.v 0)) (kI 2)))) .nil) (.ite (.bool true (e4 (.cmp .Eq (xI 0 0) (kS "lend")) (.cmp .Eq (.b1 .len (.v 0)) (kI 4)) (.isi (xI 0 2) .str) (.cmp .In (xI 0 2) (.lst (e2 (kS "read") (kS "write")))))) (t1 (.ret (.bool false (e2 (.call false "_law_is_word" (e1 (xI 0 3))) (.call false "_law_is_thing" (e1 (xI 0 3))))))) .nil) (.ite (.bool false (e5 (.cmp .NotEq (xI 0 0) (kS "pick")) (.cmp .NotEq (.b1 .len (.v 0)) (kI 3)) (.not (.isi (xI 0 2) .tuple)) (.cmp .Lt (.b1 .len (xI 0 2)) (kI 1)) (.cmp .Gt (.b1 .len (xI 0 2)) (kI 5)))) (t1 (.ret (.k (.bool false)))) .nil) (.ret (.b1 .all (.comp (.call false "_law_is_thing" (e1 (.v 1))) (.plain (xI 0 2)) .none)))))⟩
noncomputable def fn_law_is_thing:Fn:=⟨1,1,[],false,(t1 (.ret (.bool true (e4 (.isi (.v 0) .int) (.not (.isi (.v 0) .bool)) (.cmp .LtE (kI 0) (.v 0)) (.cmp .Lt (.v 0) (.bin .Pow (kI 10) (kI 9)))))))⟩
noncomputable def fn_law_is_word:Fn:=⟨1,1,[],false,(t2 (.ite (.bool false (e3 (.not (.isi (.v 0) .str)) (.cmp .Lt (.b1 .len (.v 0)) (kI 1)) (.cmp .Gt (.b1 .len (.v 0)) (kI 12)))) (t1 (.ret (.k (.bool false)))) .nil) (.ret (.b1 .all (.comp (.cmp .In (.v 1) (kS "abcdefghijklmnopqrstuvwxyz")) (.plain (.v 0)) .none))))⟩
noncomputable def fn_law_kinds:Fn:=⟨1,2,[],false,(t2 (.asg 1 (.lst (e4 (.isc (.v 0) "NoRow") (.isc (.v 0) "NoBlock") (.isc (.v 0) "NoWord") (.isc (.v 0) "Narrow")))) (.ret (.bin .Add (.v 1) (.lst (e2 (.isc (.v 0) "Taken") (.isc (.v 0) "NoEnd"))))))⟩
noncomputable def fn_law_whole:Fn:=⟨1,1,[],false,(t1 (.ret (.bool true (e2 (.isi (.v 0) .int) (.not (.isi (.v 0) .bool))))))⟩
noncomputable def fn_law_drawn:Fn:=⟨2,6,[],false,(.cons (.ite (.cmp .Gt (.b1 .len (.v 0)) (kI 63)) (t1 (.asg 1 (.bin .Add (.v 1) (kI 10)))) .nil) (.cons (.asg 2 (.bin .Mod (.call false "_law_cell_at" (e2 (.v 0) (kI 0))) (.v 1))) (t6 (.asg 3 (.bin .Mod (.call false "_law_cell_at" (e2 (.v 0) (kI 2))) (kI 8))) (.ite (.cmp .Gt (.v 3) (kI 3)) (t1 (.asg 2 (.bin .Mod (.v 2) (kI 6)))) .nil) (.asg 4 (.comp (.call false "_law_cell_at" (e2 (.v 0) (.bin .Add (kI 3) (.v 6)))) (.range1 (.bin .Mult (kI 3) (.v 2))) .none)) (.asg 5 (.call false "_law_sheet" (e4 (.v 4) (.call false "_law_draw" (e1 (.v 0))) (.idx (.lst (.cons (kI 12) (.cons (kI 12) (e6 (kI 5) (kI 10) (kI 12) (kI 12) (kI 10) (kI 12))))) (.v 3)) (.cmp .Gt (.v 3) (kI 3))))) (.ite (.bool true (e2 (.cmp .In (.v 3) (.lst (e2 (kI 1) (kI 6)))) (.cmp .Lt (.b1 .len (.v 5)) (kI 21)))) (t1 (.asg 5 (.bin .Add (.bin .Add (.bin .Add (.v 5) (.v 5)) (.v 5)) (.v 5)))) .nil) (.ret (.v 5)))))⟩
noncomputable def fn_law_sheet:Fn:=⟨4,10,[5],false,(t4 (.asg 4 (.lst .nil)) (.asg 5 (.lst .nil)) (.for1 6 (.range1 (.bin .FloorDiv (.b1 .len (.v 0)) (kI 3))) (t3 (.asg 8 (.comp (.v 10) (.plain (.v 5)) (.some (.cmp .In (xI 10 0) (.lst (e2 (kS "lend") (kS "pick"))))))) (.asg 9 (.idx (.v 0) (.bin .Mult (kI 3) (.v 6)))) (.ite (.bool true (e3 (.v 3) (.cmp .Eq (.bin .Mod (.v 9) (kI 2)) (kI 0)) (.cmp .Lt (.b1 .len (.v 8)) (kI 3)))) (t1 (.asg 4 (.bin .Add (.v 4) (.call false "_law_gadget" (e4 (.idx (.v 0) (.bin .Add (.bin .Mult (kI 3) (.v 6)) (kI 1))) (.idx (.v 0) (.bin .Add (.bin .Mult (kI 3) (.v 6)) (kI 2))) (.b1 .len (.v 8)) (.v 1)))))) (t4 (.asg 7 (.call true "_law_row" (e5 (.bin .Mod (.v 9) (.v 2)) (.idx (.v 0) (.bin .Add (.bin .Mult (kI 3) (.v 6)) (kI 1))) (.idx (.v 0) (.bin .Add (.bin .Mult (kI 3) (.v 6)) (kI 2))) (.v 5) (.v 1)))) (.asg 4 (.bin .Add (.v 4) (.lst (e1 (.v 7))))) (.ite (.cmp .In (xI 7 0) (.lst (e4 (kS "lend") (kS "pick") (kS "either") (kS "again")))) (t1 (.app 5 (.v 7))) .nil) (.ite (.cmp .Eq (xI 7 0) (kS "end")) (t1 (.pop 5)) .nil))))) (.ret (.bin .Add (.v 4) (.comp (.tup (e1 (kS "end"))) (.plain (.v 5)) .none))))⟩
noncomputable def fn_law_row:Fn:=⟨5,8,[],true,(.cons (.asg 5 (.comp (.v 8) (.plain (.v 3)) (.some (.cmp .In (xI 8 0) (.lst (e2 (kS "lend") (kS "pick"))))))) (.cons (.asg 6 (.comp (.v 8) (.plain (.v 5)) (.some (.cmp .Eq (xI 8 0) (kS "lend"))))) (.cons (.ite (.bool true (e2 (.cmp .Lt (.v 0) (kI 4)) (.cmp .Lt (.b1 .len (.v 6)) (kI 6)))) (t1 (.ret (.call false "_law_lend" (e4 (.v 1) (.v 2) (.v 5) (.v 4))))) .nil) (t6 (.ite (.bool true (e2 (.cmp .Eq (.v 0) (kI 4)) (.cmp .Lt (.bin .Sub (.b1 .len (.v 5)) (.b1 .len (.v 6))) (kI 3)))) (t2 (.asg 7 (.b1 .tuple (.comp (.call false "_law_thing" (e2 (.bin .Add (.v 2) (.bin .Mult (.v 8) (.bin .Add (kI 1) (.bin .Mod (.v 1) (kI 2))))) (xI 4 0))) (.range1 (.bin .Add (kI 1) (.bin .Mod (.v 1) (kI 5)))) .none))) (.ret (.tup (e3 (kS "pick") (.call false "_law_word" (e4 (.v 1) (.v 2) (.b1 .len (.v 5)) (.v 4))) (.v 7))))) .nil) (.ite (.bool true (e2 (.cmp .In (.v 0) (.lst (e2 (kI 5) (kI 6)))) (.cmp .Lt (.b1 .len (.v 3)) (kI 12)))) (t1 (.ret (.tup (e1 (.idx (.lst (e2 (kS "either") (kS "again"))) (.bin .Sub (.v 0) (kI 5))))))) .nil) (.ite (.bool true (e3 (.cmp .Eq (.v 0) (kI 7)) (.cmp .Gt (.b1 .len (.v 3)) (kI 0)) (.cmp .Eq (.idx (.idx (.v 3) (.neg (kI 1))) (kI 0)) (kS "either")))) (t1 (.ret (.tup (e1 (kS "or"))))) .nil) (.ite (.bool true (e2 (.cmp .Lt (.v 0) (kI 10)) (.cmp .Gt (.b1 .len (.v 6)) (kI 0)))) (t1 (.ret (.call false "_law_deed" (e3 (.v 1) (.v 2) (.v 6))))) .nil) (.ite (.cmp .Gt (.b1 .len (.v 3)) (kI 0)) (t1 (.ret (.tup (e1 (kS "end"))))) .nil) (.ret (.call false "_law_lend" (e4 (.v 1) (.v 2) (.v 5) (.v 4))))))))⟩
noncomputable def fn_law_deed:Fn:=⟨3,5,[],false,(t4 (.asg 3 (.idx (.v 2) (.bin .Mod (.v 1) (.b1 .len (.v 2))))) (.asg 4 (.idx (.lst (e3 (kS "look") (kS "back") (kS "change"))) (.bin .Mod (.v 0) (kI 3)))) (.ite (.bool true (e2 (.cmp .Eq (.v 4) (kS "change")) (.cmp .Eq (xI 3 2) (kS "read")))) (t1 (.asg 4 (kS "look"))) .nil) (.ret (.tup (e2 (.v 4) (xI 3 1)))))⟩
noncomputable def fn_law_lend:Fn:=⟨4,7,[],false,(t4 (.asg 4 (.idx (.lst (e2 (kS "read") (kS "write"))) (.bin .Mod (.v 0) (kI 2)))) (.asg 5 (.call false "_law_thing" (e2 (.v 1) (xI 3 0)))) (.ite (.bool true (e2 (.cmp .Eq (.bin .Mod (.bin .FloorDiv (.v 0) (kI 2)) (kI 2)) (kI 1)) (.cmp .Gt (.b1 .len (.v 2)) (kI 0)))) (t3 (.asg 6 (.idx (.v 2) (.bin .Mod (.v 1) (.b1 .len (.v 2))))) (.asg 5 (xI 6 1)) (.ite (.bool true (e2 (.cmp .Eq (xI 6 0) (kS "lend")) (.cmp .Eq (xI 6 2) (kS "read")))) (t1 (.asg 4 (kS "read"))) .nil)) .nil) (.ret (.tup (e4 (kS "lend") (.call false "_law_word" (e4 (.v 0) (.v 1) (.b1 .len (.v 2)) (.v 3))) (.v 4) (.v 5)))))⟩
noncomputable def fn_law_gadget:Fn:=⟨4,14,[],false,(.cons (.asg 4 (.call false "_law_hands" (e4 (.v 0) (.v 1) (.v 2) (.v 3)))) (.cons (.asg 5 (xI 4 0)) (.cons (.asg 6 (xI 4 1)) (.cons (.asg 7 (.call false "_law_thing" (e2 (.v 1) (xI 3 0)))) (.cons (.asg 8 (.bin .Mod (.bin .Add (.v 7) (kI 1)) (.bin .Pow (kI 10) (kI 9)))) (.cons (.asg 9 (.bin .Mod (.bin .Add (.v 7) (kI 2)) (.bin .Pow (kI 10) (kI 9)))) (.cons (.asg 10 (.idx (.lst (e2 (kS "read") (kS "write"))) (.bin .Mod (.bin .FloorDiv (.v 0) (kI 8)) (kI 2)))) (.cons (.asg 11 (.tup (e1 (kS "end")))) (.cons (.asg 12 (.bin .Mod (.v 0) (kI 8))) (.cons (.ite (.cmp .Lt (.v 12) (kI 4)) (t1 (.ret (.call false "_law_first_four" (e5 (.v 12) (.v 0) (.v 1) (.v 4) (.v 7))))) .nil) (t6 (.ite (.cmp .Eq (.v 12) (kI 4)) (t3 (.asg 13 (.lst (e1 (.tup (e3 (kS "pick") (xI 4 2) (.tup (e5 (.v 7) (.v 7) (.v 8) (.v 8) (.v 9)))))))) (.asg 13 (.bin .Add (.v 13) (.lst (e2 (.tup (e4 (kS "lend") (.v 5) (kS "write") (.idx (.lst (e3 (.v 7) (.v 8) (.v 9))) (.bin .Mod (.v 1) (kI 3))))) (.tup (e4 (kS "lend") (.v 6) (.v 10) (xI 4 2))))))) (.ret (.bin .Add (.v 13) (.lst (e3 (.v 11) (.v 11) (.v 11)))))) .nil) (.ite (.cmp .Eq (.v 12) (kI 5)) (t2 (.asg 13 (.lst (e4 (.tup (e4 (kS "lend") (.v 5) (kS "write") (.v 7))) (.tup (e4 (kS "lend") (.v 6) (kS "read") (.v 5))) (.tup (e1 (kS "either"))) (.tup (e2 (kS "back") (.idx (.lst (e2 (.v 5) (.v 6))) (.bin .Mod (.v 1) (kI 2)))))))) (.ret (.bin .Add (.v 13) (.lst (e6 (.tup (e1 (kS "or"))) (.tup (e2 (kS "look") (.v 6))) (.v 11) (.tup (e2 (kS "look") (.v 5))) (.v 11) (.v 11)))))) .nil) (.ite (.cmp .Eq (.v 12) (kI 6)) (t2 (.asg 13 (.lst (e2 (.tup (e4 (kS "lend") (.v 5) (.v 10) (.v 8))) (.tup (e4 (kS "lend") (.v 6) (.idx (.lst (e2 (kS "read") (kS "write"))) (.bin .Mod (.v 1) (kI 2))) (.v 7)))))) (.ret (.bin .Add (.v 13) (.lst (e5 (.tup (e4 (kS "lend") (xI 4 2) (kS "write") (.v 7))) (.tup (e2 (kS "look") (.v 6))) (.v 11) (.v 11) (.v 11)))))) .nil) (.ite (.cmp .Eq (.bin .Mod (.v 1) (kI 3)) (kI 0)) (t1 (.ret (.lst (e6 (.tup (e4 (kS "lend") (.v 5) (kS "write") (.v 7))) (.tup (e2 (kS "back") (.v 5))) (.tup (e4 (kS "lend") (.v 6) (.v 10) (.v 5))) (.tup (e2 (kS "look") (.v 6))) (.v 11) (.v 11))))) .nil) (.asg 13 (.lst (e4 (.tup (e3 (kS "pick") (xI 4 2) (.tup (e2 (.v 8) (.v 7))))) (.tup (e4 (kS "lend") (.v 5) (kS "write") (.v 7))) (.tup (e1 (kS "either"))) (.tup (e2 (kS "back") (.v 5)))))) (.ret (.bin .Add (.v 13) (.lst (.cons (.tup (e1 (kS "or"))) (e6 (.v 11) (.tup (e4 (kS "lend") (.v 6) (.v 10) (xI 4 2))) (.tup (e2 (kS "look") (.v 5))) (.v 11) (.v 11) (.v 11)))))))))))))))))⟩
noncomputable def fn_law_first_four:Fn:=⟨5,12,[],false,(.cons (.asg 5 (xI 3 0)) (.cons (.asg 6 (xI 3 1)) (.cons (.asg 7 (xI 3 2)) (.cons (.asg 8 (.idx (.lst (e2 (kS "read") (kS "write"))) (.bin .Mod (.bin .FloorDiv (.v 1) (kI 8)) (kI 2)))) (.cons (.asg 9 (.tup (e1 (kS "end")))) (t6 (.ite (.cmp .Eq (.v 0) (kI 0)) (t1 (.ret (.lst (e6 (.tup (e4 (kS "lend") (.v 5) (.v 8) (.v 4))) (.tup (e1 (kS "again"))) (.tup (e2 (kS "look") (.v 5))) (.tup (e2 (kS "back") (.v 5))) (.v 9) (.v 9))))) .nil) (.ite (.cmp .Eq (.v 0) (kI 1)) (t2 (.asg 10 (.lst (e6 (.tup (e4 (kS "lend") (.v 5) (.v 8) (.v 4))) (.tup (e1 (kS "either"))) (.tup (e2 (kS "back") (.v 5))) (.tup (e1 (kS "or"))) (.tup (e2 (kS "look") (.v 5))) (.v 9)))) (.ret (.bin .Add (.v 10) (.lst (e2 (.tup (e2 (kS "look") (.v 5))) (.v 9)))))) .nil) (.asg 11 (.tup (e4 (kS "lend") (.v 5) (kS "write") (.v 4)))) (.ite (.cmp .Eq (.v 0) (kI 2)) (t2 (.asg 10 (.lst (e3 (.v 11) (.tup (e4 (kS "lend") (.v 6) (kS "write") (.v 5))) (.tup (e4 (kS "lend") (.v 7) (.v 8) (.v 6)))))) (.ret (.bin .Add (.v 10) (.lst (e5 (.tup (e2 (kS "back") (.idx (.lst (e3 (.v 5) (.v 6) (.v 5))) (.bin .Mod (.v 2) (kI 3))))) (.tup (e2 (kS "look") (.idx (.lst (e3 (.v 7) (.v 7) (.v 6))) (.bin .Mod (.v 1) (kI 3))))) (.v 9) (.v 9) (.v 9)))))) .nil) (.asg 10 (.lst (e4 (.v 11) (.tup (e4 (kS "lend") (.v 6) (kS "read") (.v 5))) (.tup (e4 (kS "lend") (.v 7) (.idx (.lst (e2 (kS "read") (kS "write"))) (.bin .Mod (.v 2) (kI 2))) (.v 4))) (.tup (e1 (kS "again")))))) (.ret (.bin .Add (.v 10) (.lst (e5 (.tup (e2 (kS "back") (.v 6))) (.v 9) (.v 9) (.v 9) (.v 9)))))))))))⟩
noncomputable def fn_law_hands:Fn:=⟨4,5,[],false,(t2 (.asg 4 (.lst (e2 (.call false "_law_word" (e4 (.v 0) (.v 1) (.v 2) (.v 3))) (.call false "_law_word" (e4 (.v 1) (.v 0) (.bin .Add (.v 2) (kI 1)) (.v 3)))))) (.ret (.bin .Add (.v 4) (.lst (e1 (.call false "_law_word" (e4 (.v 0) (.v 0) (.bin .Add (.v 2) (kI 2)) (.v 3))))))))⟩
noncomputable def fn_law_thing:Fn:=⟨2,2,[],false,(t2 (.ite (.cmp .Eq (.bin .Mod (.v 0) (kI 8)) (kI 7)) (t1 (.ret (.bin .Mod (.bin .FloorDiv (.v 0) (kI 8)) (.bin .Pow (kI 10) (kI 9))))) .nil) (.ret (.bin .Mod (.bin .Add (.v 1) (.bin .Mod (.v 0) (kI 3))) (.bin .Pow (kI 10) (kI 9)))))⟩
noncomputable def fn_law_draw:Fn:=⟨1,4,[],false,(t4 (.asg 1 (.bin .Mult (.bin .Mod (.bin .FloorDiv (.call false "_law_cell_at" (e2 (.v 0) (kI 1))) (kI 2)) (.bin .Pow (kI 10) (kI 9))) (.bin .Mod (.call false "_law_cell_at" (e2 (.v 0) (kI 1))) (kI 2)))) (.asg 2 (.bin .FloorDiv (.call false "_law_cell_at" (e2 (.v 0) (kI 2))) (kI 8))) (.asg 3 (.bin .Add (kI 1) (.bin .Mod (.bin .FloorDiv (.v 2) (kI 4)) (kI 12)))) (.ret (.lst (e5 (.v 1) (.bin .Mod (.v 2) (kI 4)) (.v 3) (.bin .Mod (.call false "_law_cell_at" (e2 (.v 0) (kI 1))) (.v 3)) (.bin .Mod (.call false "_law_cell_at" (e2 (.v 0) (kI 0))) (kI 26))))))⟩
noncomputable def fn_law_word:Fn:=⟨4,8,[],false,(t6 (.asg 4 (kS "abcdefghijklmnopqrstuvwxyz")) (.asg 5 (.idx (.v 4) (.bin .Mod (.bin .Add (xI 3 4) (.bin .Mult (kI 5) (.v 2))) (kI 26)))) (.ite (.cmp .Eq (xI 3 1) (kI 0)) (t1 (.ret (.bin .Mult (.idx (.v 4) (.bin .Mod (xI 3 4) (kI 26))) (.bin .Add (.v 2) (kI 1))))) .nil) (.asg 6 (kS "")) (.for1 7 (.range1 (xI 3 2)) (t1 (.ite (.cmp .Eq (.v 7) (xI 3 3)) (t1 (.asg 6 (.bin .Add (.v 6) (.v 5)))) (t1 (.ite (.cmp .Eq (xI 3 1) (kI 1)) (t1 (.asg 6 (.bin .Add (.v 6) (.idx (.v 4) (.bin .Mod (.bin .Add (.v 0) (.bin .Mult (.v 7) (.v 1))) (kI 26)))))) (t1 (.asg 6 (.bin .Add (.v 6) (.idx (.v 4) (xI 3 2)))))))))) (.ret (.v 6)))⟩
noncomputable def fn_law_cell_at:Fn:=⟨2,2,[],false,(t2 (.ite (.cmp .Lt (.v 1) (.b1 .len (.v 0))) (t1 (.ret (.idx (.v 0) (.v 1)))) .nil) (.ret (kI 0)))⟩
noncomputable def fnlooked:Fn:=⟨1,7,[],false,(t6 (.exr "checked" (e1 (.v 0))) (.asg 1 (.call false "standings" (e1 (.v 0)))) (.asg 2 (.k .none)) (.for2 3 4 (.enum (.v 1)) (t2 (.asg 5 (.call false "fault" (e2 (.v 0) (xI 4 0)))) (.ite (.cmp .NotEq (.v 5) (kS "")) (t2 (.asg 6 (.tup (e3 (.idx (xI 4 0) (kI 0)) (.index (.gc "WORDS") (.v 5)) (.v 3)))) (.ite (.bool false (e2 (.cmp .Is (.v 2) (.k .none)) (.cmp .Lt (.v 6) (.v 2)))) (t1 (.asg 2 (.v 6))) .nil)) .nil))) (.ite (.cmp .Is (.v 2) (.k .none)) (t1 (.ret (.k .none))) .nil) (.ret (.tup (e3 (xI 2 0) (.idx (.gc "WORDS") (xI 2 1)) (.call false "choices_to" (e3 (.v 0) (.v 1) (xI 2 2)))))))⟩
noncomputable def fnchoices_to:Fn:=⟨3,5,[3],false,(t4 (.asg 3 (.lst .nil)) (.wh (.cmp .IsNot (.idx (.idx (.v 1) (.v 2)) (kI 1)) (.k .none)) (t3 (.asg 4 (.idx (.idx (.v 1) (.v 2)) (kI 1))) (.ite (.call false "chooses" (e1 (.idx (.v 0) (.idx (.idx (.idx (.v 1) (.v 4)) (kI 0)) (kI 0))))) (t1 (.app 3 (.idx (.idx (.v 1) (.v 2)) (kI 2)))) .nil) (.asg 2 (.v 4)))) (.rev 3) (.ret (.v 3)))⟩
noncomputable def fnstandings:Fn:=⟨1,9,[3,4],false,(.cons (.asg 1 (.call true "homes" (e1 (.v 0)))) (.cons (.asg 2 (.call true "ends" (e1 (.v 0)))) (t6 (.asg 3 (.lst .nil)) (.asg 4 (.dic .nil .nil)) (.ite (.cmp .Gt (.b1 .len (.v 0)) (kI 0)) (t2 (.app 3 (.tup (e3 (.tup (e2 (kI 0) (.tup .nil))) (.k .none) (kI 0)))) (.seti 4 (.tup (e2 (kI 0) (.tup .nil))) (.k (.bool true)))) .nil) (.asg 5 (kI 0)) (.wh (.cmp .Lt (.v 5) (.b1 .len (.v 3))) (t3 (.asg 6 (.idx (.idx (.v 3) (.v 5)) (kI 0))) (.for1 7 (.range1 (.call false "count_of" (e3 (.v 0) (.v 1) (xI 6 0)))) (t2 (.asg 8 (.call false "moved" (e5 (.v 0) (.v 1) (.v 2) (.v 6) (.v 7)))) (.ite (.bool true (e2 (.cmp .Lt (xI 8 0) (.b1 .len (.v 0))) (.cmp .NotIn (.v 8) (.v 4)))) (t2 (.seti 4 (.v 8) (.k (.bool true))) (.app 3 (.tup (e3 (.v 8) (.v 5) (.v 7))))) .nil))) (.asg 5 (.bin .Add (.v 5) (kI 1))))) (.ret (.v 3)))))⟩
noncomputable def fnchecked:Fn:=⟨1,4,[1],false,(t3 (.asg 1 (.lst .nil)) (.for2 2 3 (.enum (.v 0)) (t6 (.ite (.not (.call false "is_row" (e1 (.v 3)))) (t1 (.rse "NoRow" (.v 2))) .nil) (.exr "need_block" (e3 (.v 1) (.v 2) (.v 3))) (.ite (.cmp .In (xI 3 0) (.tup (e3 (kS "back") (kS "look") (kS "change")))) (t1 (.exr "need_hand" (e3 (.v 1) (.v 2) (.v 3)))) .nil) (.ite (.cmp .In (xI 3 0) (.tup (e2 (kS "lend") (kS "pick")))) (t1 (.exr "need_free" (e3 (.v 1) (.v 2) (.v 3)))) .nil) (.ite (.cmp .In (xI 3 0) (.gc "OPENERS")) (t1 (.app 1 (.call false "block_of" (e2 (.v 2) (.v 3))))) .nil) (.ite (.cmp .Eq (xI 3 0) (kS "end")) (t1 (.pop 1)) .nil))) (.ite (.cmp .NotEq (.v 1) (.lst .nil)) (t1 (.rse "NoEnd" (.idx (.idx (.v 1) (.neg (kI 1))) (kI 0)))) .nil))⟩
noncomputable def fnblock_of:Fn:=⟨2,2,[],false,(t3 (.ite (.cmp .Eq (xI 1 0) (kS "lend")) (t1 (.ret (.tup (e4 (.v 0) (kS "lend") (xI 1 1) (xI 1 2))))) .nil) (.ite (.cmp .Eq (xI 1 0) (kS "pick")) (t1 (.ret (.tup (e4 (.v 0) (kS "pick") (xI 1 1) (kS "pick"))))) .nil) (.ret (.tup (e4 (.v 0) (xI 1 0) (kS "") (kS "")))))⟩
noncomputable def fnneed_free:Fn:=⟨3,4,[],true,(t4 (.asg 3 (.k .none)) (.ite (.bool true (e2 (.cmp .Eq (xI 2 0) (kS "lend")) (.isi (xI 2 3) .str))) (t2 (.asg 3 (.call true "meaning" (e2 (.v 0) (xI 2 3)))) (.ite (.cmp .Is (.v 3) (.k .none)) (t1 (.rse "NoWord" (.v 1))) .nil)) .nil) (.ite (.cmp .IsNot (.call true "meaning" (e2 (.v 0) (xI 2 1))) (.k .none)) (t1 (.rse "Taken" (.v 1))) .nil) (.ite (.bool true (e3 (.cmp .Eq (xI 2 0) (kS "lend")) (.cmp .Eq (xI 2 2) (kS "write")) (.cmp .Eq (.v 3) (kS "read")))) (t1 (.rse "Narrow" (.v 1))) .nil))⟩
noncomputable def fnneed_hand:Fn:=⟨3,4,[],true,(t3 (.asg 3 (.call true "meaning" (e2 (.v 0) (xI 2 1)))) (.ite (.bool false (e2 (.cmp .Is (.v 3) (.k .none)) (.cmp .Eq (.v 3) (kS "pick")))) (t1 (.rse "NoWord" (.v 1))) .nil) (.ite (.bool true (e2 (.cmp .Eq (xI 2 0) (kS "change")) (.cmp .Eq (.v 3) (kS "read")))) (t1 (.rse "Narrow" (.v 1))) .nil))⟩
noncomputable def fnneed_block:Fn:=⟨3,3,[],true,(t2 (.ite (.bool true (e2 (.cmp .Eq (xI 2 0) (kS "end")) (.cmp .Eq (.v 0) (.lst .nil)))) (t1 (.rse "NoBlock" (.v 1))) .nil) (.ite (.bool true (e2 (.cmp .Eq (xI 2 0) (kS "or")) (.bool false (e2 (.cmp .Eq (.v 0) (.lst .nil)) (.cmp .NotEq (.idx (.idx (.v 0) (.neg (kI 1))) (kI 1)) (kS "either")))))) (t1 (.rse "NoBlock" (.v 1))) .nil))⟩
noncomputable def fnmeaning:Fn:=⟨2,3,[],true,(t2 (.for1 2 (.plain (.v 0)) (t1 (.ite (.cmp .Eq (xI 2 2) (.v 1)) (t1 (.ret (xI 2 3))) .nil))) (.ret (.k .none)))⟩
noncomputable def fnis_row:Fn:=⟨1,1,[],false,(t6 (.ite (.bool false (e3 (.not (.isi (.v 0) .tuple)) (.cmp .Eq (.b1 .len (.v 0)) (kI 0)) (.not (.isi (xI 0 0) .str)))) (t1 (.ret (.k (.bool false)))) .nil) (.ite (.cmp .Eq (xI 0 0) (kS "lend")) (t1 (.ret (.call false "is_lend" (e1 (.v 0))))) .nil) (.ite (.cmp .Eq (xI 0 0) (kS "pick")) (t1 (.ret (.bool true (e3 (.cmp .Eq (.b1 .len (.v 0)) (kI 3)) (.call false "is_word" (e1 (xI 0 1))) (.call false "is_choice" (e1 (xI 0 2))))))) .nil) (.ite (.cmp .In (xI 0 0) (.tup (e4 (kS "either") (kS "or") (kS "again") (kS "end")))) (t1 (.ret (.cmp .Eq (.b1 .len (.v 0)) (kI 1)))) .nil) (.ite (.cmp .In (xI 0 0) (.tup (e3 (kS "back") (kS "look") (kS "change")))) (t1 (.ret (.bool true (e2 (.cmp .Eq (.b1 .len (.v 0)) (kI 2)) (.call false "is_word" (e1 (xI 0 1))))))) .nil) (.ret (.k (.bool false))))⟩
noncomputable def fnis_lend:Fn:=⟨1,1,[],false,(t2 (.ite (.bool false (e3 (.cmp .NotEq (.b1 .len (.v 0)) (kI 4)) (.not (.call false "is_word" (e1 (xI 0 1)))) (.not (.isi (xI 0 2) .str)))) (t1 (.ret (.k (.bool false)))) .nil) (.ret (.bool true (e2 (.cmp .In (xI 0 2) (.tup (e2 (kS "read") (kS "write")))) (.bool false (e2 (.call false "is_thing" (e1 (xI 0 3))) (.call false "is_word" (e1 (xI 0 3)))))))))⟩
noncomputable def fnis_choice:Fn:=⟨1,1,[],false,(t2 (.ite (.bool false (e2 (.not (.isi (.v 0) .tuple)) (.not (.cmp2 .LtE .LtE (kI 1) (.b1 .len (.v 0)) (.gc "MOST_THINGS"))))) (t1 (.ret (.k (.bool false)))) .nil) (.ret (.b1 .all (.comp (.call false "is_thing" (e1 (.v 1))) (.plain (.v 0)) .none))))⟩
noncomputable def fnis_thing:Fn:=⟨1,1,[],false,(t1 (.ret (.bool true (e3 (.isi (.v 0) .int) (.not (.isi (.v 0) .bool)) (.cmp2 .LtE .LtE (kI 0) (.v 0) (.gc "MOST_THING"))))))⟩
noncomputable def fnis_word:Fn:=⟨1,1,[],false,(t2 (.ite (.bool false (e2 (.not (.isi (.v 0) .str)) (.not (.cmp2 .LtE .LtE (kI 1) (.b1 .len (.v 0)) (.gc "LONGEST"))))) (t1 (.ret (.k (.bool false)))) .nil) (.ret (.b1 .all (.comp (.cmp .In (.v 1) (.gc "LETTERS")) (.plain (.v 0)) .none))))⟩
noncomputable def fnfault:Fn:=⟨2,5,[],false,(.cons (.unp 2 3 (.v 1)) (t6 (.ite (.call false "beside" (e1 (.v 3))) (t1 (.ret (kS "beside"))) .nil) (.asg 4 (.call false "hand_used" (e2 (.idx (.v 0) (.v 2)) (.v 3)))) (.ite (.cmp .Is (.v 4) (.k .none)) (t1 (.ret (kS ""))) .nil) (.ite (.not (xI 4 4)) (t1 (.ret (kS "empty"))) .nil) (.ite (.bool true (e2 (.cmp .NotEq (.idx (.idx (.v 0) (.v 2)) (kI 0)) (kS "lend")) (.call false "is_asleep" (e2 (.v 3) (xI 4 0))))) (t1 (.ret (kS "asleep"))) .nil) (.ret (kS ""))))⟩
noncomputable def fnhand_used:Fn:=⟨2,3,[],false,(t3 (.ite (.cmp .In (xI 0 0) (.tup (e2 (kS "look") (kS "change")))) (t1 (.ret (.call false "entry_of" (e2 (.v 1) (xI 0 1))))) .nil) (.ite (.bool true (e2 (.cmp .Eq (xI 0 0) (kS "lend")) (.isi (xI 0 3) .str))) (t2 (.asg 2 (.call false "entry_of" (e2 (.v 1) (xI 0 3)))) (.ite (.cmp .NotEq (xI 2 1) (kS "pick")) (t1 (.ret (.v 2))) .nil)) .nil) (.ret (.k .none)))⟩
noncomputable def fnbeside:Fn:=⟨1,4,[],false,(t3 (.asg 1 (.call true "awake" (e1 (.v 0)))) (.for1 2 (.range1 (.b1 .len (.v 1))) (t1 (.for1 3 (.plain (.sl (.v 1) .none (.some (.v 2)))) (t1 (.ite (.bool true (e2 (.cmp .Eq (xI 3 2) (.idx (.idx (.v 1) (.v 2)) (kI 2))) (.cmp .In (kS "write") (.tup (e2 (xI 3 1) (.idx (.idx (.v 1) (.v 2)) (kI 1))))))) (t1 (.ret (.k (.bool true)))) .nil))))) (.ret (.k (.bool false))))⟩
noncomputable def fnawake:Fn:=⟨1,3,[1],true,(t3 (.asg 1 (.lst .nil)) (.for1 2 (.plain (.v 0)) (t1 (.ite (.bool true (e3 (.cmp .NotEq (xI 2 1) (kS "pick")) (xI 2 4) (.not (.call false "is_asleep" (e2 (.v 0) (xI 2 0)))))) (t1 (.app 1 (.v 2))) .nil))) (.ret (.v 1)))⟩
noncomputable def fnis_asleep:Fn:=⟨2,2,[],false,(t1 (.ret (.b1 .any (.comp (.bool true (e2 (.cmp .Eq (xI 2 3) (.v 1)) (xI 2 4))) (.plain (.v 0)) .none))))⟩
noncomputable def fnchooses:Fn:=⟨1,1,[],false,(t1 (.ret (.cmp .In (xI 0 0) (.tup (e3 (kS "pick") (kS "either") (kS "again"))))))⟩
noncomputable def fnmoved:Fn:=⟨5,9,[],false,(.cons (.unp 5 6 (.v 3)) (.cons (.asg 7 (.idx (.v 0) (.v 5))) (.cons (.asg 8 (.bin .Mod (.v 4) (.call false "count_of" (e3 (.v 0) (.v 1) (.v 5))))) (.cons (.ite (.cmp .Eq (xI 7 0) (kS "lend")) (t1 (.ret (.tup (e2 (.bin .Add (.v 5) (kI 1)) (.bin .Add (.v 6) (.tup (e1 (.call false "lent" (e2 (.v 7) (.v 6)))))))))) .nil) (.cons (.ite (.cmp .Eq (xI 7 0) (kS "pick")) (t1 (.ret (.tup (e2 (.bin .Add (.v 5) (kI 1)) (.bin .Add (.v 6) (.tup (e1 (.tup (e5 (xI 7 1) (kS "pick") (.idx (xI 7 2) (.v 8)) (kS "") (.k (.bool true))))))))))) .nil) (t6 (.ite (.cmp .Eq (xI 7 0) (kS "either")) (t1 (.ret (.tup (e2 (.idx (.call false "first_rows" (e3 (.v 0) (.v 1) (.v 5))) (.v 8)) (.v 6))))) .nil) (.ite (.cmp .Eq (xI 7 0) (kS "or")) (t1 (.ret (.tup (e2 (.idx (.v 2) (.idx (.v 1) (.v 5))) (.v 6))))) .nil) (.ite (.bool true (e2 (.cmp .Eq (xI 7 0) (kS "again")) (.cmp .Eq (.v 8) (kI 0)))) (t1 (.ret (.tup (e2 (.bin .Add (.idx (.v 2) (.v 5)) (kI 1)) (.v 6))))) .nil) (.ite (.cmp .Eq (xI 7 0) (kS "end")) (t1 (.ret (.call false "ended" (e3 (.v 0) (.v 1) (.v 3))))) .nil) (.ite (.cmp .Eq (xI 7 0) (kS "back")) (t1 (.ret (.tup (e2 (.bin .Add (.v 5) (kI 1)) (.call false "given_back" (e2 (.v 6) (xI 7 1))))))) .nil) (.ret (.tup (e2 (.bin .Add (.v 5) (kI 1)) (.v 6))))))))))⟩
noncomputable def fnended:Fn:=⟨3,6,[],false,(t5 (.unp 3 4 (.v 2)) (.asg 5 (.idx (.idx (.v 0) (.idx (.v 1) (.v 3))) (kI 0))) (.ite (.cmp .Eq (.v 5) (kS "again")) (t1 (.ret (.tup (e2 (.idx (.v 1) (.v 3)) (.v 4))))) .nil) (.ite (.cmp .Eq (.v 5) (kS "either")) (t1 (.ret (.tup (e2 (.bin .Add (.v 3) (kI 1)) (.v 4))))) .nil) (.ret (.tup (e2 (.bin .Add (.v 3) (kI 1)) (.sl (.v 4) .none (.some (.neg (kI 1))))))))⟩
noncomputable def fncount_of:Fn:=⟨3,3,[],false,(t4 (.ite (.cmp .Eq (.idx (.idx (.v 0) (.v 2)) (kI 0)) (kS "pick")) (t1 (.ret (.b1 .len (.idx (.idx (.v 0) (.v 2)) (kI 2))))) .nil) (.ite (.cmp .Eq (.idx (.idx (.v 0) (.v 2)) (kI 0)) (kS "either")) (t1 (.ret (.b1 .len (.call false "first_rows" (e3 (.v 0) (.v 1) (.v 2)))))) .nil) (.ite (.cmp .Eq (.idx (.idx (.v 0) (.v 2)) (kI 0)) (kS "again")) (t1 (.ret (kI 2))) .nil) (.ret (kI 1)))⟩
noncomputable def fngiven_back:Fn:=⟨2,5,[2,3],false,(t4 (.asg 2 (.dic (e1 (.v 1)) (e1 (.k (.bool true))))) (.asg 3 (.lst .nil)) (.for1 4 (.plain (.v 0)) (t1 (.ite (.bool false (e2 (.cmp .In (xI 4 0) (.v 2)) (.cmp .In (xI 4 3) (.v 2)))) (t2 (.seti 2 (xI 4 0) (.k (.bool true))) (.app 3 (.bin .Add (.sl (.v 4) .none (.some (kI 4))) (.tup (e1 (.k (.bool false))))))) (t1 (.app 3 (.v 4)))))) (.ret (.b1 .tuple (.v 3))))⟩
noncomputable def fnlent:Fn:=⟨2,3,[],false,(t4 (.ite (.isi (xI 0 3) .int) (t1 (.ret (.tup (e5 (xI 0 1) (xI 0 2) (xI 0 3) (kS "") (.k (.bool true)))))) .nil) (.asg 2 (.call false "entry_of" (e2 (.v 1) (xI 0 3)))) (.ite (.cmp .Eq (xI 2 1) (kS "pick")) (t1 (.ret (.tup (e5 (xI 0 1) (xI 0 2) (xI 2 2) (kS "") (.k (.bool true)))))) .nil) (.ret (.tup (e5 (xI 0 1) (xI 0 2) (xI 2 2) (xI 0 3) (xI 2 4)))))⟩
noncomputable def fnentry_of:Fn:=⟨2,3,[],false,(t2 (.for1 2 (.plain (.v 0)) (t1 (.ite (.cmp .Eq (xI 2 0) (.v 1)) (t1 (.ret (.v 2))) .nil))) (.ret (.k .none)))⟩
noncomputable def fnfirst_rows:Fn:=⟨3,5,[3],false,(t3 (.asg 3 (.lst (e1 (.bin .Add (.v 2) (kI 1))))) (.for1 4 (.range1 (.b1 .len (.v 0))) (t1 (.ite (.bool true (e2 (.cmp .Eq (.idx (.idx (.v 0) (.v 4)) (kI 0)) (kS "or")) (.cmp .Eq (.idx (.v 1) (.v 4)) (.v 2)))) (t1 (.app 3 (.bin .Add (.v 4) (kI 1)))) .nil))) (.ret (.v 3)))⟩
noncomputable def fnends:Fn:=⟨1,5,[2],true,(t4 (.asg 1 (.call true "homes" (e1 (.v 0)))) (.asg 2 (.bin .Mult (.lst (e1 (.neg (kI 1)))) (.b1 .len (.v 0)))) (.for2 3 4 (.enum (.v 0)) (t1 (.ite (.cmp .Eq (xI 4 0) (kS "end")) (t1 (.seti 2 (.idx (.v 1) (.v 3)) (.v 3))) .nil))) (.ret (.v 2)))⟩
noncomputable def fnhomes:Fn:=⟨1,5,[1,2],true,(t4 (.asg 1 (.lst .nil)) (.asg 2 (.lst .nil)) (.for2 3 4 (.enum (.v 0)) (t2 (.ite (.cmp .Eq (.v 1) (.lst .nil)) (t1 (.app 2 (.neg (kI 1)))) (t1 (.app 2 (.idx (.v 1) (.neg (kI 1)))))) (.ite (.cmp .In (xI 4 0) (.gc "OPENERS")) (t1 (.app 1 (.v 3))) (t1 (.ite (.cmp .Eq (xI 4 0) (kS "end")) (t1 (.pop 1)) .nil))))) (.ret (.v 2)))⟩
noncomputable def cf_law_caught:CatFn:=⟨1,2,1,(.ifn "checked" (e1 (.v 0))),(t2 (.ite (.bool true (e2 (.isc (.v 1) "ValueError") (.call false "_law_whole" (e1 (.att (.v 1)))))) (t1 (.ret (.tup (e2 (.call false "_law_kinds" (e1 (.v 1))) (.att (.v 1)))))) .nil) (.ret (.tup (e2 (.lst .nil) (kI 0))))),(.tup (e2 (.lst (e6 (.k (.bool false)) (.k (.bool false)) (.k (.bool false)) (.k (.bool false)) (.k (.bool false)) (.k (.bool false)))) (.neg (kI 1))))⟩
noncomputable def cf_law_looked:CatFn:=⟨1,2,1,(.exr "looked" (e1 (.v 0))),(t1 (.ret (.tup (e2 (.call false "_law_kinds" (e1 (.v 1))) (.att (.v 1)))))),(.tup (e2 (.lst (e6 (.k (.bool false)) (.k (.bool false)) (.k (.bool false)) (.k (.bool false)) (.k (.bool false)) (.k (.bool false)))) (.neg (kI 1))))⟩
noncomputable def sgs03:List (Str × List Nat × Bool):=[(("_law_made" : Str),([]:List Nat),false),(("_law_spoiled" : Str),([]:List Nat),false),(("_law_more" : Str),([]:List Nat),false),(("_law_odd" : Str),([]:List Nat),false),(("_law_due" : Str),([1,2]:List Nat),false),(("_law_due_words" : Str),([2]:List Nat),true),(("_law_is_row" : Str),([]:List Nat),false),(("_law_is_thing" : Str),([]:List Nat),false),(("_law_is_word" : Str),([]:List Nat),false),(("_law_kinds" : Str),([]:List Nat),false),(("_law_whole" : Str),([]:List Nat),false),(("_law_drawn" : Str),([]:List Nat),false),(("_law_sheet" : Str),([5]:List Nat),false),(("_law_row" : Str),([]:List Nat),true),(("_law_deed" : Str),([]:List Nat),false),(("_law_lend" : Str),([]:List Nat),false),(("_law_gadget" : Str),([]:List Nat),false),(("_law_first_four" : Str),([]:List Nat),false),(("_law_hands" : Str),([]:List Nat),false),(("_law_thing" : Str),([]:List Nat),false),(("_law_draw" : Str),([]:List Nat),false),(("_law_word" : Str),([]:List Nat),false),(("_law_cell_at" : Str),([]:List Nat),false),(("looked" : Str),([]:List Nat),false),(("choices_to" : Str),([3]:List Nat),false),(("standings" : Str),([3,4]:List Nat),false),(("checked" : Str),([1]:List Nat),false),(("block_of" : Str),([]:List Nat),false),(("need_free" : Str),([]:List Nat),true),(("need_hand" : Str),([]:List Nat),true),(("need_block" : Str),([]:List Nat),true),(("meaning" : Str),([]:List Nat),true),(("is_row" : Str),([]:List Nat),false),(("is_lend" : Str),([]:List Nat),false),(("is_choice" : Str),([]:List Nat),false),(("is_thing" : Str),([]:List Nat),false),(("is_word" : Str),([]:List Nat),false),(("fault" : Str),([]:List Nat),false),(("hand_used" : Str),([]:List Nat),false),(("beside" : Str),([]:List Nat),false),(("awake" : Str),([1]:List Nat),true),(("is_asleep" : Str),([]:List Nat),false),(("chooses" : Str),([]:List Nat),false),(("moved" : Str),([]:List Nat),false),(("ended" : Str),([]:List Nat),false),(("count_of" : Str),([]:List Nat),false),(("given_back" : Str),([2,3]:List Nat),false),(("lent" : Str),([]:List Nat),false),(("entry_of" : Str),([]:List Nat),false),(("first_rows" : Str),([3]:List Nat),false),(("ends" : Str),([2]:List Nat),true),(("homes" : Str),([1,2]:List Nat),true)]
noncomputable def sgz03:List (Str × List Nat × Bool):=[(("_law_kinds" : Str),([]:List Nat),false),(("_law_whole" : Str),([]:List Nat),false)]
noncomputable def gcs03:Str->Bool:=λx=>x == ("OPENERS" : Str)||x == ("LETTERS" : Str)||x == ("LONGEST" : Str)||x == ("MOST_THING" : Str)||x == ("MOST_THINGS" : Str)||x == ("WORDS" : Str)
def tbl03:List (Str × Fn):=[(("_law_made" : Str),fn_law_made),(("_law_spoiled" : Str),fn_law_spoiled),(("_law_more" : Str),fn_law_more),(("_law_odd" : Str),fn_law_odd),(("_law_due" : Str),fn_law_due),(("_law_due_words" : Str),fn_law_due_words),(("_law_is_row" : Str),fn_law_is_row),(("_law_is_thing" : Str),fn_law_is_thing),(("_law_is_word" : Str),fn_law_is_word),(("_law_kinds" : Str),fn_law_kinds),(("_law_whole" : Str),fn_law_whole),(("_law_drawn" : Str),fn_law_drawn),(("_law_sheet" : Str),fn_law_sheet),(("_law_row" : Str),fn_law_row),(("_law_deed" : Str),fn_law_deed),(("_law_lend" : Str),fn_law_lend),(("_law_gadget" : Str),fn_law_gadget),(("_law_first_four" : Str),fn_law_first_four),(("_law_hands" : Str),fn_law_hands),(("_law_thing" : Str),fn_law_thing),(("_law_draw" : Str),fn_law_draw),(("_law_word" : Str),fn_law_word),(("_law_cell_at" : Str),fn_law_cell_at),(("looked" : Str),fnlooked),(("choices_to" : Str),fnchoices_to),(("standings" : Str),fnstandings),(("checked" : Str),fnchecked),(("block_of" : Str),fnblock_of),(("need_free" : Str),fnneed_free),(("need_hand" : Str),fnneed_hand),(("need_block" : Str),fnneed_block),(("meaning" : Str),fnmeaning),(("is_row" : Str),fnis_row),(("is_lend" : Str),fnis_lend),(("is_choice" : Str),fnis_choice),(("is_thing" : Str),fnis_thing),(("is_word" : Str),fnis_word),(("fault" : Str),fnfault),(("hand_used" : Str),fnhand_used),(("beside" : Str),fnbeside),(("awake" : Str),fnawake),(("is_asleep" : Str),fnis_asleep),(("chooses" : Str),fnchooses),(("moved" : Str),fnmoved),(("ended" : Str),fnended),(("count_of" : Str),fncount_of),(("given_back" : Str),fngiven_back),(("lent" : Str),fnlent),(("entry_of" : Str),fnentry_of),(("first_rows" : Str),fnfirst_rows),(("ends" : Str),fnends),(("homes" : Str),fnhomes)]
def tbz03:List (Str × Fn):=[(("_law_kinds" : Str),fn_law_kinds),(("_law_whole" : Str),fn_law_whole)]
def cat03:List (Str × CatFn):=[(("_law_caught" : Str),cf_law_caught),(("_law_looked" : Str),cf_law_looked)]
set_option tactic.hygienic false
noncomputable def cellAt(ns:List Int)(k:Int):Int:=ns.getD k.toNat 0
theorem w9(Φ:Str->List D->Option D)(Γ:Str->Option D)(N:Nat)(ns:List Int)(k:Int)(hk:0<=k):runFn Φ Γ N fn_law_cell_at [.list (ns.map .int),.int k]=some (.int (cellAt ns k)):=by
 refine fF [some (.list (ns.map .int)),some (.int k)] rfl rfl (m':=[some (.list (ns.map .int)),some (.int k)]) ?_;dsimp only [fn_law_cell_at];refine have hc:evE Φ Γ (.cmp .Lt (.v 1) (.b1 .len (.v 0))) [some (.list (ns.map .int)),some (.int k)]=some (.bool (decide (k < ns.length))):=(by (exact ai rfl (aK rfl (lenL ns)) (v_lt k ↑ns.length)));?_
 by_cases h:k < ns.length
 ·refine eA (m':=[some (.list (ns.map .int)),some (.int k)]) ?_
  rw [kK hc (by rw [dU,Qn h])];refine eA (eJ ?_ rfl);refine have hlt:k.toNat < ns.length:=(by exact (Z2 hk).mpr h);?_;simp only [vJ,x_v,gN,gX,bX]
  exact p_mk (aN hk (by simpa using h)) (by
   rw [Qy,Qk hlt]
   simp [cellAt,List.getD,Qk hlt])
 ·refine (aP (m':=[some (.list (ns.map .int)),some (.int k)]) (y_no hc (by rw [dU,Zk h]))).trans ?_
  refine eA (eJ ?_ rfl)
  refine have:cellAt ns k=0:=(by
   unfold cellAt List.getD
   rw [ZP (by exact (Int.le_toNat hk).mpr (ZB.mp h))];rfl);?_
  rw [this];exact x_k _
structure Dr where
 b:Int
 y:Int
 z:Int
 c:Int
 t:Int
noncomputable def Dr.d(r:Dr):D:=.list [.int r.b,.int r.y,.int r.z,.int r.c,.int r.t]
def aZ(ns:List Int):Dr:=
 ⟨((cellAt ns 1).fdiv 2).fmod 1000000000 * (cellAt ns 1).fmod 2,((cellAt ns 2).fdiv 8).fmod 4,1+(((cellAt ns 2).fdiv 8).fdiv 4).fmod 12,(cellAt ns 1).fmod (1+(((cellAt ns 2).fdiv 8).fdiv 4).fmod 12),(cellAt ns 0).fmod 26⟩
structure Dr.Ok(r:Dr):Prop where
 z1:1<=r.z
 z2:r.z<=12
 c1:0<=r.c
 c2:r.c < r.z
 t1:0<=r.t
 t2:r.t < 26
 y1:0<=r.y
 y2:r.y < 4
 b1:0<=r.b
 b2:r.b < 1000000000
theorem ar(a:Int)(h:0 < b):0<=a.fmod b:=Int.fmod_nonneg_of_pos a h
theorem aw(a:Int)(h:0 < b):a.fmod b < b:=Int.fmod_lt_of_pos a h
theorem eS(h:0<=a)(h2:a < 1152921504606846976):smallI a=true:=Qn (Q0.mp ((Yn h).symm ▸ h2))
theorem jo(ns:List Int):(aZ ns).Ok:=by
 refine have h1:=(ar (((cellAt ns 2).fdiv 8).fdiv 4) (b:=12) (by decide));?_;refine have h2:=(aw (((cellAt ns 2).fdiv 8).fdiv 4) (b:=12) (by decide));?_;refine have hz:(0:Int) < 1+(((cellAt ns 2).fdiv 8).fdiv 4).fmod 12:=(by exact Zf (by decide) (QR h1));?_;refine have h11:=(ar (cellAt ns 1) (b:=2) (by decide));?_;refine have h12:=(aw (cellAt ns 1) (b:=2) (by decide));?_;refine have h13:(cellAt ns 1).fmod 2=0\/(cellAt ns 1).fmod 2=1:=(Int.lt_or_eq_of_le h11).elim (λh=>.inr (Int.le_antisymm (Int.lt_add_one_iff.mp h12) h)) (λh=>.inl h.symm);?_;refine ⟨QR h1,by show 1+_<=(12:Int);exact Qt (ZC (YX 1 _)) h2,(ar (cellAt ns 1) hz),(aw (cellAt ns 1) hz),(ar (cellAt ns 0) (b:=26) (by decide)),(aw (cellAt ns 0) (b:=26) (by decide)),(ar ((cellAt ns 2).fdiv 8) (b:=4) (by decide)),(aw ((cellAt ns 2).fdiv 8) (b:=4) (by decide)),?_,?_⟩
 ·show 0<=_ * _
  rcases h13 with h | h<;>rw [h]
  ·rw [Int.mul_zero];exact Int.le_refl 0
  ·rw [Int.mul_one];exact (ar ((cellAt ns 1).fdiv 2) (b:=1000000000) (by decide))
 ·show _ * _ < _
  rcases h13 with h | h<;>rw [h]
  ·rw [Int.mul_zero];decide
  ·rw [Int.mul_one];exact (aw ((cellAt ns 1).fdiv 2) (b:=1000000000) (by decide))
theorem xa(Φ:Str->List D->Option D)(Γ:Str->Option D)(N:Nat)(ns:List Int)(hc:∀ k:Int,0<=k->Φ "_law_cell_at" [.list (ns.map .int),.int k]=some (.int (cellAt ns k))):runFn Φ Γ N fn_law_draw [.list (ns.map .int)]=some (aZ ns).d:=by
 refine have h9:=(ar ((cellAt ns 1).fdiv 2) (b:=1000000000) (by decide));?_;refine have h10:=(aw ((cellAt ns 1).fdiv 2) (b:=1000000000) (by decide));?_;refine have h1:=(ar (((cellAt ns 2).fdiv 8).fdiv 4) (b:=12) (by decide));?_;refine have hz:(1:Int)+(((cellAt ns 2).fdiv 8).fdiv 4).fmod 12 ≠ 0:=(by exact YC (Zf (by decide) (QR h1)));?_;refine fF [some (.list (ns.map .int)),none,none,none] rfl rfl (m':=[some (.list (ns.map .int)),some (.int (aZ ns).b),some (.int ((cellAt ns 2).fdiv 8)),some (.int (aZ ns).z)]) ?_;dsimp only [fn_law_draw];refine (aP (m':=[some (.list (ns.map .int)),some (.int (aZ ns).b),none,none]) (gu (d:=.int (aZ ns).b) ?_ rfl)).trans ?_
 ·exact aj (aj (aj (af (esC rfl (esC rfl es0)) (hc 1 (by decide))) rfl rfl) zC rfl) (aj (af (esC rfl (esC rfl es0)) (hc 1 (by decide))) rfl rfl) (dW _ _ (eS h9 (Yj h10 (by decide))))
 refine (aP (m':=[some (.list (ns.map .int)),some (.int (aZ ns).b),some (.int ((cellAt ns 2).fdiv 8)),none]) (gu (d:=.int ((cellAt ns 2).fdiv 8)) ?_ rfl)).trans ?_
 ·exact aj (af (esC rfl (esC rfl es0)) (hc 2 (by decide))) rfl rfl
 refine (aP (m':=[some (.list (ns.map .int)),some (.int (aZ ns).b),some (.int ((cellAt ns 2).fdiv 8)),some (.int (aZ ns).z)]) (gu (d:=.int (aZ ns).z) ?_ rfl)).trans ?_
 ·exact rfl
 refine eA (eJ ?_ rfl);exact bW (esC rfl (esC rfl (esC rfl (esC (aj (af (esC rfl (esC rfl es0)) (hc 1 (by decide))) rfl (eN _ _ hz)) (esC (aj (af (esC rfl (esC rfl es0)) (hc 0 (by decide))) rfl rfl) es0)))))
theorem ta(Φ:Str->List D->Option D)(Γ:Str->Option D)(N:Nat)(c b:Int):runFn Φ Γ N fn_law_thing [.int c,.int b]=some (.int (if c.fmod 8=7 then (c.fdiv 8).fmod 1000000000 else (b+c.fmod 3).fmod 1000000000)):=by
 refine fF [some (.int c),some (.int b)] rfl rfl (m':=[some (.int c),some (.int b)]) ?_;dsimp only [fn_law_thing];refine have hc:evE Φ Γ (.cmp .Eq (.bin .Mod (.v 0) (.k (.int 8))) (.k (.int 7))) [some (.int c),some (.int b)]=some (.bool (c.fmod 8 == 7)):=(by (exact rfl));?_
 by_cases h:c.fmod 8=7
 ·refine eA (m':=[some (.int c),some (.int b)]) ?_
  rw [kK hc (by rw [dU];simp [h])];exact eA (eJ (Ql h ▸ rfl) rfl)
 ·refine (aP (m':=[some (.int c),some (.int b)]) (y_no hc (by rw [dU];simp [h]))).trans ?_
  exact eA (eJ (Qu h ▸ rfl) rfl)
noncomputable def sOf(l:List Nat):Str:=⟨l.toArray⟩
noncomputable def ltr(i:Int):Nat:=97+i.toNat
theorem tc(h0:0<=i)(h1:i < 26):item (.str "abcdefghijklmnopqrstuvwxyz") (.int i)=some (.str (sOf [ltr i])):=by
 refine have key:∀ k:Nat,k < 26->("abcdefghijklmnopqrstuvwxyz" : Str).cps[k]?=some (97+k):=(by decide +kernel);?_;refine have hl:("abcdefghijklmnopqrstuvwxyz" : Str).length=26:=(by decide +kernel);?_;show (aF (Str.length "abcdefghijklmnopqrstuvwxyz") i).bind _=_;rw [hl,aN h0 (by exact h1)];show (("abcdefghijklmnopqrstuvwxyz" : Str).cps[i.toNat]?).map _=_;rw [key i.toNat (by exact (Z2 h0).mpr h1)];rfl
def qf(one two deep:Int)(r:Dr):List Nat:=
 if r.y=0 then List.replicate (deep+1).toNat (ltr r.t)
 else (List.range r.z.toNat).map λ(k:Nat)=>if (k:Int)=r.c then ltr ((r.t+5 * deep).fmod 26) else if r.y=1 then ltr ((one+k * two).fmod 26) else ltr r.z
theorem xb(a b:List Nat):sOf a++sOf b=sOf (a++b):=by
 show (⟨a.toArray++b.toArray⟩:Str)=_;simp [sOf]
theorem kN(a:List Nat):(sOf a).length=a.length:=by
 show (a.toArray).size=_;rfl
theorem nj(c:Nat):∀ n,strMul (sOf [c]) n=sOf (List.replicate n c):=by
 intro n
 refine have:repL [c] n=List.replicate n c:=(by
  induction n with
  | zero=>rfl
  | succ n ih=>simp [iF,ih,List.replicate_succ]);?_
 simp [strMul,sOf,this]
def wS(one two deep:Int)(r:Dr)(f:Option D)(x:Option D):St:=[some (.int one),some (.int two),some (.int deep),some r.d,some (.str "abcdefghijklmnopqrstuvwxyz"),some (.str (sOf [ltr ((r.t+5 * deep).fmod 26)])),f,x]
def chW(one two deep:Int)(r:Dr)(k:Nat):Nat:=if (k:Int)=r.c then ltr ((r.t+5 * deep).fmod 26) else if r.y=1 then ltr ((one+k * two).fmod 26) else ltr r.z
def wF(one two deep:Int)(r:Dr)(k:Nat):Option D:=some (.str (sOf ((List.range k).map (chW one two deep r))))
theorem wAdd{one two deep:Int}{r:Dr}{k c:Nat}(hk:k < 12)(hc:chW one two deep r k=c):bY .Add (.str (sOf ((List.range k).map (chW one two deep r)))) (.str (sOf [c]))=wF one two deep r (k+1):=by
 refine (zE _ _ ?_).trans (Qf (λx=>some (PyData.str x)) ((xb _ _).trans (Qf sOf ?_)))
 ·rw [kN,kN,lX,Qo];exact QQ hk (by decide)
 ·rw [List.range_succ,Qb,<- hc];rfl
theorem wMul{deep:Int}(c:Nat)(hd:0<=deep)(hd2:deep < 900):bY .Mult (.str (sOf [c])) (.int (deep+1))=some (.str (sOf (List.replicate (deep+1).toNat c))):=nj c _ ▸ Ql ⟨(by decide:1<=1000),Qt (Int.add_le_add_right (Y8 hd2) 1) (by decide),Qt (by decide) (Int.le_add_one hd)⟩
theorem xc{a b:Int}(h:a=b):truth (.bool (a == b))=some true:=Qf some (Q5.mpr h)
theorem lV{a b:Int}(h : ¬ a=b):truth (.bool (a == b))=some false:=Qf some (beq_eq_false_iff_ne.mpr h)
theorem xd(Φ:Str->List D->Option D)(Γ:Str->Option D)(N:Nat)(one two deep:Int)(r:Dr)(ok:r.Ok)(hd:0<=deep)(hd2:deep < 900) :
 runFn Φ Γ N fn_law_word [.int one,.int two,.int deep,r.d]=some (.str (sOf (qf one two deep r))):=by
 refine au [some (.int one),some (.int two),some (.int deep),some r.d,none,none,none,none] rfl rfl ?_;refine an (.str "abcdefghijklmnopqrstuvwxyz") (x_k _) rfl (an (.str (sOf [ltr ((r.t+5 * deep).fmod 26)])) (ag rfl (aj (aj rfl (aj rfl rfl (dW 5 deep (by decide))) (s8 r.t (5 * deep))) rfl rfl) (tc (ar (r.t+5 * deep) (b:=26) (by decide)) (aw (r.t+5 * deep) (b:=26) (by decide)))) rfl ?_)
 by_cases hy:r.y=0
 ·refine aB (x:=.bool (r.y == 0)) rfl (xc hy) (ah ?_ rfl)
  refine (aj (ag rfl (aj rfl rfl rfl) (tc (ar r.t (b:=26) (by decide)) (aw r.t (b:=26) (by decide)))) rfl (wMul _ hd hd2)).trans ?_;rw [ZM _ (by decide),Int.emod_eq_of_lt ok.t1 ok.t2,qf,Ql hy]
 ·refine aW (x:=.bool (r.y == 0)) rfl (lV hy) (an (.str (sOf [])) (x_k _) rfl ?_)
  refine (uY (λk m=>∃ x,m=wS one two deep r (wF one two deep r k) x)
   (bC (n:=r.z) rfl (QB.mp (Qt (ZC (Yn (Qt (by decide) ok.z1))) (Qt ok.z2 (by decide))))) rfl ⟨none,rfl⟩ λk vs m hk hI=>?_).elim λm' h=>bp m' h.1 (ah ?_ rfl)
  ·obtain ⟨x,rfl⟩:=hI
   refine ⟨_,wS one two deep r (wF one two deep r (k+1)) (some (.int k)),(cW hk).1,?_,_,rfl⟩;replace hk:k < 12:=Qe (cW hk).2 (Zo.mpr ok.z2)
   by_cases h1:(k:Int)=r.c
   ·exact (aP ((kK (d:=.bool ((k:Int) == r.c)) rfl (xc h1)).trans (qa _ (aj rfl rfl (wAdd hk (Ql h1))) rfl ib))).trans ib
   ·by_cases h2:r.y=1
    ·exact (aP ((jj (d:=.bool ((k:Int) == r.c)) rfl (lV h1)).trans ((aP ((kK (d:=.bool (r.y == 1)) rfl (xc h2)).trans (qa _ (aj rfl (ag rfl (aj (aj rfl (aj rfl rfl (dW k two (eS (Zq k) (Yj (QZ hk) (by decide))))) (s8 one (k * two))) rfl rfl) (tc (ar (one+k * two) (b:=26) (by decide)) (aw (one+k * two) (b:=26) (by decide)))) (wAdd hk ((Qu h1).trans (Ql h2)))) rfl ib))).trans ib))).trans ib
    ·exact (aP ((jj (d:=.bool ((k:Int) == r.c)) rfl (lV h1)).trans ((aP ((jj (d:=.bool (r.y == 1)) rfl (lV h2)).trans (qa _ (aj rfl (ag (y:=.int r.z) rfl rfl (tc (Qt (by decide) ok.z1) (QH ok.z2 (by decide)))) (wAdd hk ((Qu h1).trans (Qu h2)))) rfl ib))).trans ib))).trans ib
  ·obtain ⟨e1,x,rfl⟩:=h
   rw [qf,Qu hy];show wF one two deep r _=_;rw [lX,Qo];rfl
inductive Src
 | th (i:Int)
 | hd (w:Str)
set_option genCtorIdx true
inductive Verb | look | back | change
 deriving DecidableEq
set_option genCtorIdx false
inductive Row
 | lend (w:Str) (wr:Bool) (s:Src)
 | pick (w:Str) (ts:List Int)
 | either
 | again
 | orr
 | fin
 | deed (v:Verb) (w:Str)
noncomputable def Src.d:Src->D
 | .th i=>.int i
 | .hd w=>.str w
noncomputable def kindS(b:Bool):Str:=if b then "write" else "read"
noncomputable def Verb.s:Verb->Str
 | .look => "look"
 | .back => "back"
 | .change => "change"
noncomputable def Row.tag:Row->Str
 | .lend .. => "lend"
 | .pick .. => "pick"
 | .either => "either"
 | .again => "again"
 | .orr => "or"
 | .fin => "end"
 | .deed v _=>v.s
def Row.d:Row->D
 | .lend w b s=>.tuple [.str "lend",.str w,.str (kindS b),s.d]
 | .pick w ts=>.tuple [.str "pick",.str w,.tuple (ts.map .int)]
 | .either=>.tuple [.str "either"]
 | .again=>.tuple [.str "again"]
 | .orr=>.tuple [.str "or"]
 | .fin=>.tuple [.str "end"]
 | .deed v w=>.tuple [.str v.s,.str w]
noncomputable def Row.word:Row->Str
 | .lend w _ _=>w
 | .pick w _=>w
 | .deed _ w=>w
 | _ => ""
noncomputable def Row.wr:Row->Bool
 | .lend _ b _=>b
 | _=>false
noncomputable def Row.isLend:Row->Bool
 | .lend ..=>true
 | _=>false
noncomputable def Row.isNamed:Row->Bool
 | .lend ..=>true
 | .pick ..=>true
 | _=>false
noncomputable def Row.isOpen:Row->Bool
 | .lend ..=>true
 | .pick ..=>true
 | .either=>true
 | .again=>true
 | _=>false
noncomputable def Row.isFin:Row->Bool
 | .fin=>true
 | _=>false
noncomputable def Row.isOr:Row->Bool
 | .orr=>true
 | _=>false
noncomputable def Row.isEither:Row->Bool
 | .either=>true
 | _=>false
theorem Row.i0(r:Row):item r.d (.int 0)=some (.str r.tag):=by induction r<;>rfl
theorem nk(s:Src):noList s.d=true:=by induction s<;>rfl
theorem bl:∀ l:List Int,ap (l.map .int)=true
 | []=>rfl
 | _::l=>by rw [QX,ns_c,bl l];rfl
theorem cF:∀ l:List Int,av (l.map .int)=true
 | []=>rfl
 | _::l=>by rw [QX,ds_c,cF l];rfl
theorem Row.noList(r:Row):Mine.noList r.d=true:=by
 induction r<;>simp only [Row.d,nl_t,nl_s,ns_n,ns_c,nk,bl,XZ]
set_option tactic.hygienic true in
theorem qg(r:Row):(["lend", "pick"].any λy=>Str.ofString y == r.tag)=r.isNamed:=by
 induction r<;>first | rfl | (rename_i v w;induction v<;>rfl)
set_option tactic.hygienic true in
theorem td(r:Row):(["lend", "pick", "either", "again"].any λy=>Str.ofString y == r.tag)=r.isOpen:=by
 induction r<;>first | rfl | (rename_i v w;induction v<;>rfl)
set_option tactic.hygienic true in
theorem ic(r:Row):(r.tag == ("lend":Str))=r.isLend:=by
 induction r<;>first | rfl | (rename_i v w;induction v<;>rfl)
set_option tactic.hygienic true in
theorem dB(r:Row):(r.tag == ("end":Str))=r.isFin:=by
 induction r<;>first | rfl | (rename_i v w;induction v<;>rfl)
set_option tactic.hygienic true in
theorem qh(r:Row):(r.tag == ("or":Str))=r.isOr:=by
 induction r<;>first | rfl | (rename_i v w;induction v<;>rfl)
set_option tactic.hygienic true in
theorem cO(r:Row):(r.tag == ("either":Str))=r.isEither:=by
 induction r<;>first | rfl | (rename_i v w;induction v<;>rfl)
theorem ie(r:Row):pyIn (.str r.tag) (.list [.str "lend",.str "pick"])=some r.isNamed:=by
 rw [<- qg];exact fH r.tag (["lend", "pick"].map Str.ofString)
theorem kO(r:Row):pyIn (.str r.tag) (.list [.str "lend",.str "pick",.str "either",.str "again"])=some r.isOpen:=by
 rw [<- td];exact fH r.tag (["lend", "pick", "either", "again"].map Str.ofString)
theorem lW(r:Row):pyIn (.str r.tag) (.tuple [.str "lend",.str "pick",.str "either",.str "again"])=some r.isOpen:=kO r
theorem jp(b:Bool):(kindS b == ("read":Str)) = !b:=by induction b<;>simp [kindS,wX]
theorem Row.i1{r:Row}(h:r.isNamed=true):item r.d (.int 1)=some (.str r.word):=by induction r<;>first | rfl | exact nF h
theorem Row.i2{r:Row}(h:r.isLend=true):item r.d (.int 2)=some (.str (kindS r.wr)):=by induction r<;>first | rfl | exact nF h
theorem gw{r:Row}(h:r.isLend=true):r.isNamed=true:=by induction r<;>first | rfl | exact nF h
noncomputable def thingOf(c b:Int):Int:=if c.fmod 8=7 then (c.fdiv 8).fmod 1000000000 else (b+c.fmod 3).fmod 1000000000
def wordOf(one two:Int)(deep:Nat)(r:Dr):Str:=sOf (qf one two deep r)
def bG(one two:Int)(named:List Row)(r:Dr):Row:=
 if (one.fdiv 2).fmod 2=1 then
  match named[(two.fmod named.length).toNat]? with
  | some h=>.lend (wordOf one two named.length r) (if h.isLend&&!h.wr then false else decide (one.fmod 2=1)) (.hd h.word)
  | none=>.lend (wordOf one two named.length r) (decide (one.fmod 2=1)) (.th (thingOf two r.b))
 else .lend (wordOf one two named.length r) (decide (one.fmod 2=1)) (.th (thingOf two r.b))
noncomputable def gy(one:Int)(wr:Bool):Verb:=if one.fmod 3=0 then .look else if one.fmod 3=1 then .back else if wr then .change else .look
def dX(one two:Int)(hands:List Row):Row:=
 match hands[(two.fmod hands.length).toNat]? with
 | some h=>.deed (gy one h.wr) h.word
 | none=>.fin
def rowOf(way one two:Int)(opened:List Row)(r:Dr):Row:=
 if way < 4/\((opened.filter Row.isNamed).filter Row.isLend).length < 6 then bG one two (opened.filter Row.isNamed) r
 else if way=4/\((opened.filter Row.isNamed).length:Int) - ((opened.filter Row.isNamed).filter Row.isLend).length < 3 then
  .pick (wordOf one two (opened.filter Row.isNamed).length r) ((List.range (1+one.fmod 5).toNat).map λ(k:Nat)=>thingOf (two+(k:Int) * (1+one.fmod 2)) r.b)
 else if (way=5\/way=6)/\opened.length < 12 then (if way=5 then .either else .again)
 else if way=7/\(opened.getLast?.any Row.isEither)=true then .orr
 else if way < 10/\0 < ((opened.filter Row.isNamed).filter Row.isLend).length then dX one two ((opened.filter Row.isNamed).filter Row.isLend)
 else if 0 < opened.length then .fin
 else bG one two (opened.filter Row.isNamed) r
theorem zK{n:Nat}(a:Int)(h:0 < n):∃ k:Nat,a.fmod n=k/\k < n:=(Int.eq_ofNat_of_zero_le (ar a (QZ h))).imp λk e=>⟨e,Q0.mp (e ▸ aw a (QZ h))⟩
theorem zL(a:Int):a.fmod 2=0\/a.fmod 2=1:=(zK (n:=2) a (by decide)).elim λk h=>(h.1 ▸ (by decide:∀ k:Nat,k < 2->(k:Int)=0\/(k:Int)=1) k h.2:a.fmod (2:Nat)=0\/a.fmod (2:Nat)=1)
theorem xe(a:Int):a.fmod 3=0\/a.fmod 3=1\/a.fmod 3=2:=(zK (n:=3) a (by decide)).elim λk h=>(h.1 ▸ (by decide:∀ k:Nat,k < 3->(k:Int)=0\/(k:Int)=1\/(k:Int)=2) k h.2:a.fmod (3:Nat)=0\/a.fmod (3:Nat)=1\/a.fmod (3:Nat)=2)
theorem qi{l:List Row}(x:Int)(h:0 < l.length):∃ r,l[(x.fmod l.length).toNat]?=some r/\r ∈ l/\item (.list (l.map Row.d)) (.int (x.fmod l.length))=some r.d:=by
 have f2:=aw x (b:=(l.length:Int)) (by exact QZ h);have hlt:(x.fmod l.length).toNat < l.length:=by exact (Z2 (ar x (QZ h))).mpr f2
 refine ⟨l[(x.fmod l.length).toNat],Qk hlt,Y4 hlt,?_⟩;exact p_mk (k:=(x.fmod l.length).toNat) (aN (ar x (b:=(l.length:Int)) (by exact QZ h)) (by simpa using f2)) (by rw [Qy,Qk hlt];rfl)
theorem qj(a:Int):item (.list [.str "read",.str "write"]) (.int (a.fmod 2))=some (.str (kindS (decide (a.fmod 2=1)))):=by
 rcases zL a with h | h<;>rw [h]<;>rfl
theorem Dr.i0(r:Dr):item r.d (.int 0)=some (.int r.b):=rfl
theorem qk{one two:Int}(h1:(one.fdiv 2).fmod 2=1)(e:named[(two.fmod named.length).toNat]?=some h):bG one two named r = .lend (wordOf one two named.length r) (if h.isLend&&!h.wr then false else decide (one.fmod 2=1)) (.hd h.word):=by
 unfold bG;rw [Ql h1,e]
theorem qm{one two:Int}(h:((one.fdiv 2).fmod 2 == 1&&decide ((0:Int) < named.length))=false):bG one two named r = .lend (wordOf one two named.length r) (decide (one.fmod 2=1)) (.th (thingOf two r.b)):=by
 unfold bG
 by_cases h1:(one.fdiv 2).fmod 2=1
 ·rw [Ql h1]
  induction named using lc with
  | nil=>rfl
  | cons a l=>rw [h1,show decide ((0:Int) < (((a::l).length:Nat):Int))=true from Qn (QZ (Zm _))] at h;exact nT h
 ·exact Qu h1
theorem xf(Φ:Str->List D->Option D)(Γ:Str->Option D)(N:Nat)(r:Dr)(ok:r.Ok)(ht:∀ c b:Int,Φ "_law_thing" [.int c,.int b]=some (.int (thingOf c b)))
 (hw:∀ (one two:Int) (deep:Nat),deep < 900->Φ "_law_word" [.int one,.int two,.int deep,r.d]=some (.str (wordOf one two deep r)))
 (one two:Int) (named:List Row) (hn:∀ x ∈ named,x.isNamed=true) (hl:named.length < 900) :
 runFn Φ Γ N fn_law_lend [.int one,.int two,.list (named.map Row.d),r.d]=some (bG one two named r).d:=by
 refine au [some (.int one),some (.int two),some (.list (named.map Row.d)),some r.d,none,none,none] rfl rfl ?_;dsimp only [fn_law_lend];refine an (.str (kindS (decide (one.fmod 2=1)))) (ag (bW (esC rfl (esC rfl es0))) (aj rfl rfl rfl) (qj ((λb=>(one,b)) 2).fst)) rfl ?_;refine an (.int (thingOf two r.b)) (af (esC rfl (esC (ag rfl rfl (Dr.i0 r)) es0)) (ht two r.b)) rfl ?_;induction hb:(one.fdiv 2).fmod 2 == 1&&decide ((0:Int) < named.length) with
 | true=>
  refine have b2:=Qz hb;?_;refine have h2:0 < named.length:=Q0.mp (Qp b2.2);?_;refine byG λX_ g_=>?_;obtain ⟨h,e1,e2,e3⟩:=qi (l:=named) two h2;refine g_ ?_;rw [qk (Q4 b2.1) e1];refine bj (Q':=λm=>m=[some (.int one),some (.int two),some (.list (named.map Row.d)),some r.d,some (.str (kindS (if h.isLend&&!h.wr then false else decide (one.fmod 2=1)))),some (.str h.word),some h.d]) (kM (aS rfl (ai (aK rfl (lenL named)) rfl (v_gt (↑named.length) 0))) (Qf some hb) (λZ=>?_) nT) ?_
  ·refine aU h.d (ag rfl (aj rfl (aK rfl (lenL named)) (eN two _ (YC (QZ h2)))) e3) rfl ?_
   refine aU (.str h.word) (ag rfl rfl (Row.i1 (hn h e2))) rfl ?_;refine bD (kM (d:=.bool (h.isLend&&!h.wr)) (aq (ai (ag rfl rfl (Row.i0 h)) rfl (Qf some (ic h))) λhL=>ai (ag rfl rfl (Row.i2 hL)) rfl (Qf some (jp h.wr))) rfl (λq=>?_) λq=>?_) λm e=>am e
   ·exact aU (.str "read") (x_k _) rfl (am (by rw [q];rfl))
   ·exact am (by rw [q];rfl)
  ·rintro _ rfl
   exact ah (aJ (esC rfl (esC (af (esC rfl (esC rfl (esC (aK rfl (lenL named)) (esC rfl es0)))) (hw one two named.length hl)) (esC rfl (esC rfl es0))))) rfl
 | false=>
  rw [qm hb];exact aW (aS rfl (ai (aK rfl (lenL named)) rfl (v_gt (↑named.length) 0))) (Qf some hb) (ah (aJ (esC rfl (esC (af (esC rfl (esC rfl (esC (aK rfl (lenL named)) (esC rfl es0)))) (hw one two named.length hl)) (esC rfl (esC rfl es0))))) rfl)
theorem te(one:Int)(wr:Bool):∃ v0:Verb,item (.list [.str "look",.str "back",.str "change"]) (.int (one.fmod 3))=some (.str v0.s)/\(if (v0.s == ("change":Str))&&!wr then Verb.look else v0)=gy one wr:=by
 rcases xe one with q | q | q
 ·exact ⟨.look,q ▸ rfl,(Ql q).symm⟩
 ·exact ⟨.back,q ▸ rfl,by unfold gy;rw [q];rfl⟩
 ·exact ⟨.change,q ▸ rfl,by unfold gy;rw [q];induction wr<;>rfl⟩
theorem xg(Φ:Str->List D->Option D)(Γ:Str->Option D)(N:Nat)(one two:Int)(hands:List Row)(hn:∀ x ∈ hands,x.isLend=true)(hl:0 < hands.length) :
 runFn Φ Γ N fn_law_deed [.int one,.int two,.list (hands.map Row.d)]=some (dX one two hands).d:=by
 refine (qi (l:=hands) two hl).elim λh e=>(te one h.wr).elim λv0 k=>?_;have hL:=hn h e.2.1;have ed:dX one two hands = .deed (gy one h.wr) h.word:=by unfold dX;rw [e.1]
 rw [ed]
 exact au [some (.int one),some (.int two),some (.list (hands.map Row.d)),none,none] rfl rfl (an h.d (ag rfl (aj rfl (aK rfl (lenL hands)) (eN _ _ (YC (QZ hl)))) e.2.2) rfl (an (.str v0.s) (ag rfl (aj rfl rfl rfl) k.1) rfl
  (bj (Q':=(· = [some (.int one),some (.int two),some (.list (hands.map Row.d)),some h.d,some (.str (gy one h.wr).s)])) (cx (aS rfl (ai (ag rfl rfl (Row.i2 hL)) rfl (Qf some (jp h.wr)))) (λq=>aU (.str "look") (x_k _) rfl (am (k.2 ▸ Ql q ▸ rfl))) λq=>k.2 ▸ Qu (YM.mp q) ▸ rfl) λm z=>z ▸ ah (aJ (esC rfl (esC (ag rfl rfl (Row.i1 (gw hL))) es0))) rfl)))
theorem fJ(xs:List D):item (.list xs) (.int (-1))=xs.getLast?:=by
 rw [List.getLast?_eq_getElem?];induction xs using lc with
 | nil=>rfl
 | cons x xs=>
  refine have:aF (x::xs).length (-1)=some ((x::xs).length - 1):=(by
   simp only [aF];rw [Qu (by decide),Ql (by simp only [QV];(exact QZ (Zm xs.length)))];congr 1
   simp only [QV];exact dI (xs.length+1) (by decide));?_
  show (aF (x::xs).length (-1)).bind _=_;rw [this];rfl
theorem lY(w:Int):∀ l:List Int,((l.map PyData.int).any λy=>y.eqv (.int w))=l.any λy=>y == w
 | []=>rfl
 | x::l=>by rw [QX,Yk,Yk,lY w l];rfl
theorem xh(x:Int):shp (.int x)=true:=rfl
theorem qn(w:Int)(l:List Int):pyIn (.int w) (.list (l.map .int))=some (l.any λy=>y == w):=by
 show anyEq (.int w) (l.map .int)=_;unfold anyEq;rw [cF,xh,lY];rfl
section
variable (Φ:Str->List D->Option D)(Γ:Str->Option D)(N:Nat)
def rS(way one two:Int)(opened named hands:List Row)(r:Dr)(x:Option D):St:=[some (.int way),some (.int one),some (.int two),some (.list (opened.map Row.d)),some r.d,some (.list (named.map Row.d)),some (.list (hands.map Row.d)),x]
def rowO(way one two:Int)(opened named hands:List Row)(r:Dr):Row:=
 if way < 4/\hands.length < 6 then bG one two named r
 else if way=4/\(named.length:Int) - hands.length < 3 then .pick (wordOf one two named.length r) ((List.range (1+one.fmod 5).toNat).map λ(k:Nat)=>thingOf (two+(k:Int) * (1+one.fmod 2)) r.b)
 else if (way=5\/way=6)/\opened.length < 12 then (if way=5 then .either else .again)
 else if way=7/\(opened.getLast?.any Row.isEither)=true then .orr
 else if way < 10/\0 < hands.length then dX one two hands
 else if 0 < opened.length then .fin
 else bG one two named r
theorem tf(e:Ex)(x:Row):(!true||retOk [] e x.d)=true:=(Qf (·||_) x.noList:(noList x.d||_)=(true||_))
theorem or2{a b way:Int}:([a,b].any λy:Int=>y == way)=true↔way=a\/way=b:=by
 rw [Yk,Yk,List.any_nil,Bool.or_false,Ze,Q5,Q5];exact or_congr eq_comm eq_comm
theorem zM{way:Int}{opened:List Row}:((way == 7)&&(decide ((0:Int) < opened.length)&&opened.getLast?.any Row.isEither))=true↔way=7/\opened.getLast?.any Row.isEither=true:=gb b_eq (Z3.trans ⟨λh=>h.2,λh=>⟨by
 induction opened using lc with
 | nil=>exact nF h
 | cons x l=>exact Qn (QZ (Zm l.length)),h⟩⟩)
theorem zN(r:Dr)(ok:r.Ok)(ht:∀ c b:Int,Φ "_law_thing" [.int c,.int b]=some (.int (thingOf c b)))
 (hw:∀ (one two:Int) (deep:Nat),deep < 900->Φ "_law_word" [.int one,.int two,.int deep,r.d]=some (.str (wordOf one two deep r)))
 (hlend:∀ (one two:Int) (named:List Row),(∀ x ∈ named,x.isNamed=true)->named.length < 900->Φ "_law_lend" [.int one,.int two,.list (named.map Row.d),r.d]=some (bG one two named r).d)
 (hdeed:∀ (one two:Int) (hands:List Row),(∀ x ∈ hands,x.isLend=true)->0 < hands.length->Φ "_law_deed" [.int one,.int two,.list (hands.map Row.d)]=some (dX one two hands).d)
 (way one two:Int) (opened:List Row) (hl:opened.length < 900) :
 runFn Φ Γ N fn_law_row [.int way,.int one,.int two,.list (opened.map Row.d),r.d]=some (rowOf way one two opened r).d:=by
 refine au [some (.int way),some (.int one),some (.int two),some (.list (opened.map Row.d)),some r.d,none,none,none] rfl rfl ?_;refine have hNl:(opened.filter Row.isNamed).length < 900:=Qh (Zz _ _) hl;?_;refine an (.list ((opened.filter Row.isNamed).map Row.d)) (dA opened (λe=>[e.d]) Row.isNamed Row.d (bt rfl) (Qm (Qe hl (by decide))) rfl (λe Z=>ev_c (ai (ag rfl rfl (Row.i0 e)) rfl (ie e))) λe Z Z=>rfl) rfl
  (an (.list (((opened.filter Row.isNamed).filter Row.isLend).map Row.d)) (dA (opened.filter Row.isNamed) (λe=>[e.d]) Row.isLend Row.d (bt rfl) (Qm (Qe hNl (by decide))) rfl (λe Z=>ev_c (ai (ag rfl rfl (Row.i0 e)) rfl (Qf some (ic e)))) λe Z Z=>rfl) rfl ?_)
 refine (?_:∀ named hands,(∀ x ∈ named,x.isNamed=true)->named.length < 900->(∀ x ∈ hands,x.isLend=true)->Rt (exSs Φ Γ [] true N fn_law_row.body.tl.tl (rS way one two opened named hands r none)) (rowO way one two opened named hands r).d) (opened.filter Row.isNamed) ((opened.filter Row.isNamed).filter Row.isLend) (λx h=>(Q9.mp h).2) hNl λx h=>(Q9.mp h).2;intro named hands hN hNl hH;refine bh (f:=Row.d) (aS rfl (ai (aK rfl (lenL hands)) rfl rfl)) (gb b_lt jm) (λZ=>ah (af (esC rfl (esC rfl (esC rfl (esC rfl es0)))) (hlend one two named hN hNl)) (tf _ _)) λZ=>?_;refine bh (f:=Row.d) (aS rfl (ai (aj (aK rfl (lenL named)) (aK rfl (lenL hands)) rfl) rfl rfl)) (gb b_eq b_lt) (λZ=>?_) λZ=>?_
 ·refine have f1:=ar one (b:=5) (by decide);?_
  refine have f2:=Qt (ZC (YX 1 _)) (aw one (b:=5) (by decide));?_;refine an (.tuple (((List.range (1+one.fmod 5).toNat).map λ(k:Nat)=>thingOf (two+(k:Int) * (1+one.fmod 2)) r.b).map .int)) (aK (bB (List.range (1+one.fmod 5).toNat) (λ(i:Nat)=>[PyData.int i]) (λk=>.int (thingOf (two+(k:Int) * (1+one.fmod 2)) r.b)) (bC (n:=1+one.fmod 5) rfl (QB.mp (Qt (ZC (Yn (Qt (by decide) (QR f1)))) (Qt f2 (by decide))))) (by rw [Qo];exact QQ (Zo.mpr f2) (by decide)) rfl λk Z=>?_) (Qf (λl=>some (PyData.tuple l)) Yz.symm)) rfl (ah (aJ (esC rfl (esC (af (esC rfl (esC rfl (esC (aK rfl (lenL named)) (esC rfl es0)))) (hw one two named.length hNl)) (esC rfl es0)))) (tf _ (.pick _ _)));exact af (esC (aj rfl (aj rfl rfl (vc _ (1+one.fmod 2) (eS (Qt (by decide) (QR (ar one (b:=2) (by decide)))) (QH (Qt (ZC (YX 1 _)) (aw one (b:=2) (by decide))) (by decide))))) rfl) (esC rfl es0)) (ht _ _)
 refine bh (f:=Row.d) (aS (ai rfl rfl (qn way [5,6])) (ai (aK rfl (lenL opened)) rfl rfl)) (gb or2 jm) (λh=>h.1.elim (λq=>?_) λq=>?_) λZ=>?_
 ·subst q;exact ah rfl rfl
 ·subst q;exact ah rfl rfl
 refine bh (f:=Row.d) (aq rfl λo_=>aq (ai (aK rfl (lenL opened)) rfl rfl) λq=>?_) zM (λZ=>ah rfl rfl) λZ=>?_
 ·refine (bQ ..).trans ?_
  induction hlast:opened.getLast? with
  | none=>obtain rfl:=List.getLast?_eq_none_iff.mp hlast;exact nF q
  | some x=>exact ai (ag (ag rfl rfl ((fJ _).trans (by rw [List.getLast?_map,hlast];rfl))) rfl (Row.i0 x)) rfl (Qf some (cO x))
 exact bh (f:=Row.d) (aS rfl (ai (aK rfl (lenL hands)) rfl rfl)) (gb b_lt jm) (λh=>ah (af (esC rfl (esC rfl (esC rfl es0))) (hdeed one two hands hH h.2)) (tf _ _)) λZ=>
  bh (f:=Row.d) (ai (aK rfl (lenL opened)) rfl rfl) jm (λZ=>ah rfl rfl) λZ=>ah (af (esC rfl (esC rfl (esC rfl (esC rfl es0)))) (hlend one two named hN hNl)) (tf _ _)
end
noncomputable def three{α:Type}(x:Int)(a b c:α):α:=if x.fmod 3=0 then a else if x.fmod 3=1 then b else c
noncomputable def kd(x:Int):Bool:=decide (x.fmod 2=1)
def ig(way one two:Int)(a b c:Str)(th:Int):List Row:=
 if way=0 then [.lend a (kd (one.fdiv 8)) (.th th),.again,.deed .look a,.deed .back a,.fin,.fin]
 else if way=1 then [.lend a (kd (one.fdiv 8)) (.th th),.either,.deed .back a,.orr,.deed .look a,.fin,.deed .look a,.fin]
 else if way=2 then [.lend a true (.th th),.lend b true (.hd a),.lend c (kd (one.fdiv 8)) (.hd b),.deed .back (three two a b a),.deed .look (three one c c b),.fin,.fin,.fin]
 else [.lend a true (.th th),.lend b false (.hd a),.lend c (kd two) (.th th),.again,.deed .back b,.fin,.fin,.fin,.fin]
def gad(one two:Int)(a b c:Str)(th:Int):List Row:=
 if one.fmod 8 < 4 then ig (one.fmod 8) one two a b c th
 else if one.fmod 8=4 then [.pick c [th,th,(th+1).fmod 1000000000,(th+1).fmod 1000000000,(th+2).fmod 1000000000],.lend a true (.th (three two th ((th+1).fmod 1000000000) ((th+2).fmod 1000000000))),.lend b (kd (one.fdiv 8)) (.hd c),.fin,.fin,.fin]
 else if one.fmod 8=5 then [.lend a true (.th th),.lend b false (.hd a),.either,.deed .back (if kd two then b else a),.orr,.deed .look b,.fin,.deed .look a,.fin,.fin]
 else if one.fmod 8=6 then [.lend a (kd (one.fdiv 8)) (.th ((th+1).fmod 1000000000)),.lend b (kd two) (.th th),.lend c true (.th th),.deed .look b,.fin,.fin,.fin]
 else if two.fmod 3=0 then [.lend a true (.th th),.deed .back a,.lend b (kd (one.fdiv 8)) (.hd a),.deed .look b,.fin,.fin]
 else [.pick c [(th+1).fmod 1000000000,th],.lend a true (.th th),.either,.deed .back a,.orr,.fin,.lend b (kd (one.fdiv 8)) (.hd c),.deed .look a,.fin,.fin,.fin]
def dY(one two:Int)(deep:Nat)(r:Dr):List Row:=gad one two (wordOf one two deep r) (wordOf two one (deep+1) r) (wordOf one one (deep+2) r) (thingOf two r.b)
theorem qo(x:Int)(a b c:Str):item (.list [.str a,.str b,.str c]) (.int (x.fmod 3))=some (.str (three x a b c)):=by
 rcases xe x with h | h | h<;>simp only [three,h]<;>rfl
theorem xi(x:Int)(a b c:Int):item (.list [.int a,.int b,.int c]) (.int (x.fmod 3))=some (.int (three x a b c)):=by
 rcases xe x with h | h | h<;>simp only [three,h]<;>rfl
theorem Bh(x:Int)(a b:Str):item (.list [.str a,.str b]) (.int (x.fmod 2))=some (.str (if kd x then b else a)):=by
 rcases zL x with h | h<;>simp only [kd,h]<;>rfl
theorem tg(x:Int):item (.list [.str "read",.str "write"]) (.int (x.fmod 2))=some (.str (kindS (kd x))):=qj x
section
variable (Φ:Str->List D->Option D)(Γ:Str->Option D)(N:Nat)
theorem ti(r:Dr)(hw:∀ (one two:Int) (deep:Nat),deep < 900->Φ "_law_word" [.int one,.int two,.int deep,r.d]=some (.str (wordOf one two deep r)))(one two:Int)(deep:Nat)(hd:deep < 800) :
 runFn Φ Γ N fn_law_hands [.int one,.int two,.int deep,r.d]=some (.list [.str (wordOf one two deep r),.str (wordOf two one (deep+1) r),.str (wordOf one one (deep+2) r)]):=by
 refine have c1:((deep:Int)+1)=((deep+1:Nat):Int):=(by exact rfl);?_;refine have c2:((deep:Int)+2)=((deep+2:Nat):Int):=(by exact rfl);?_;refine au [some (.int one),some (.int two),some (.int deep),some r.d,none] rfl rfl ?_;dsimp only [fn_law_hands];refine an (.list [.str (wordOf one two deep r),.str (wordOf two one (deep+1) r)]) ?_ rfl ?_
 ·exact bW (esC (af (esC rfl (esC rfl (esC rfl (esC rfl es0)))) (hw one two deep (by exact Za hd (by decide)))) (esC (af (esC rfl (esC rfl (esC (aj rfl rfl (s8 (↑deep) 1)) (esC rfl es0)))) (hw two one (deep+1) (by exact Qe (QU hd) (by decide)))) es0))
 refine ah ?_ rfl;exact aj rfl (bW (esC (af (esC rfl (esC rfl (esC (aj rfl rfl (s8 (↑deep) 2)) (esC rfl es0)))) (hw one one (deep+2) (by exact Qe (QU (QU hd)) (by decide)))) es0)) rfl
def lD(l:List Row):D:=.list (l.map Row.d)
def fdS(way one two:Int)(a b c:Str)(th:Int)(x y:Option D):St:=[some (.int way),some (.int one),some (.int two),some (.list [.str a,.str b,.str c]),some (.int th),some (.str a),some (.str b),some (.str c),some (.str (kindS (kd (one.fdiv 8)))),some (.tuple [.str "end"]),x,y]
theorem tj(way one two:Int)(a b c:Str)(th:Int)(h0:0<=way)(h4:way < 4) :
 runFn Φ Γ N fn_law_first_four [.int way,.int one,.int two,.list [.str a,.str b,.str c],.int th]=some (.list ((ig way one two a b c th).map Row.d)):=by
 refine au [some (.int way),some (.int one),some (.int two),some (.list [.str a,.str b,.str c]),some (.int th),none,none,none,none,none,none,none] rfl rfl (an (.str a) rfl rfl (an (.str b) rfl rfl (an (.str c) rfl rfl (an (.str (kindS (kd (one.fdiv 8)))) (ag rfl (aj (aj rfl rfl rfl) rfl rfl) (tg (one.fdiv 8))) rfl (an (.tuple [.str "end"]) rfl rfl (?_:Rt (exSs Φ Γ [] false N _ (fdS way one two a b c th none none)) (lD (ig way one two a b c th))))))));exact bh (f:=lD) rfl b_eq (λZ=>ah rfl rfl) λZ=>bh (f:=lD) rfl b_eq (λZ=>an _ rfl rfl (ah rfl rfl)) λZ=>an (Row.lend a true (.th th)).d rfl rfl (bh (f:=lD) rfl b_eq (λZ=>an _ rfl rfl (ah (aj rfl (bW (esC (aJ (esC rfl (esC (ag rfl rfl (qo two a b a)) es0))) (esC (aJ (esC rfl (esC (ag rfl rfl (qo one c c b)) es0))) rfl))) rfl) rfl)) λZ=>an _ (bW (esC rfl (esC rfl (esC (aJ (esC rfl (esC rfl (esC (ag rfl rfl (tg two)) rfl)))) rfl)))) rfl (ah rfl rfl))
def gdS(one two:Int)(deep:Nat)(r:Dr)(a b c:Str)(th:Int)(x:Option D):St:=[some (.int one),some (.int two),some (.int deep),some r.d,some (.list [.str a,.str b,.str c]),some (.str a),some (.str b),some (.int th),some (.int ((th+1).fmod 1000000000)),some (.int ((th+2).fmod 1000000000)),some (.str (kindS (kd (one.fdiv 8)))),some (.tuple [.str "end"]),some (.int (one.fmod 8)),x]
theorem qp(r:Dr)(ht:∀ c b:Int,Φ "_law_thing" [.int c,.int b]=some (.int (thingOf c b)))
 (hh:∀ (one two:Int) (deep:Nat),deep < 800->Φ "_law_hands" [.int one,.int two,.int deep,r.d]=some (.list [.str (wordOf one two deep r),.str (wordOf two one (deep+1) r),.str (wordOf one one (deep+2) r)]))
 (hf:∀ (way one two:Int) (a b c:Str) (th:Int),0<=way->way < 4->Φ "_law_first_four" [.int way,.int one,.int two,.list [.str a,.str b,.str c],.int th]=some (.list ((ig way one two a b c th).map Row.d)))
 (one two:Int) (deep:Nat) (hd:deep < 800) :
 runFn Φ Γ N fn_law_gadget [.int one,.int two,.int deep,r.d]=some (.list ((dY one two deep r).map Row.d)):=by
 refine have e1:=hh one two deep hd;?_;unfold dY;generalize wordOf one two deep r=a at e1 ⊢;generalize wordOf two one (deep+1) r=b at e1 ⊢;generalize wordOf one one (deep+2) r=c at e1 ⊢;refine have e2:=ht two r.b;?_;generalize thingOf two r.b=th at e2 ⊢;refine au [some (.int one),some (.int two),some (.int deep),some r.d,none,none,none,none,none,none,none,none,none,none] rfl rfl (an (.list [.str a,.str b,.str c]) (af (esC rfl (esC rfl (esC rfl (esC rfl es0)))) e1) rfl (an (.str a) rfl rfl (an (.str b) rfl rfl (an (.int th) (af (esC rfl (esC (ag rfl rfl (Dr.i0 r)) es0)) e2) rfl (an (.int ((th+1).fmod 1000000000)) rfl rfl (an (.int ((th+2).fmod 1000000000)) rfl rfl (an (.str (kindS (kd (one.fdiv 8)))) (ag rfl (aj (aj rfl rfl rfl) rfl rfl) (tg (one.fdiv 8))) rfl (an (.tuple [.str "end"]) rfl rfl (an (.int (one.fmod 8)) rfl rfl (?_:Rt (exSs Φ Γ [] false N _ (gdS one two deep r a b c th none)) (lD (gad one two a b c th))))))))))));exact bh (f:=lD) rfl b_lt (λh=>ah (af (esC rfl (esC rfl (esC rfl (esC rfl (esC rfl es0))))) (hf _ one two a b c th (ar one (by decide)) h)) rfl) λZ=>bh (f:=lD) rfl b_eq (λZ=>an _ rfl rfl (an _ (aj rfl (bW (esC (aJ (esC rfl (esC rfl (esC rfl (esC (ag rfl rfl (xi two th _ _)) es0))))) (esC rfl es0))) rfl) rfl (ah rfl rfl))) λZ=>
  bh (f:=lD) rfl b_eq (λZ=>an _ (bW (esC rfl (esC rfl (esC rfl (esC (aJ (esC rfl (esC (ag rfl rfl (Bh two a b)) es0))) es0))))) rfl (ah rfl rfl)) λZ=>
  bh (f:=lD) rfl b_eq (λZ=>an _ (bW (esC rfl (esC (aJ (esC rfl (esC rfl (esC (ag rfl rfl (tg two)) (esC rfl es0))))) es0))) rfl (ah rfl rfl)) λZ=>
  bh (f:=lD) rfl b_eq (λZ=>ah rfl rfl) λZ=>an _ rfl rfl (ah rfl rfl)
end
section
variable {Φ:Str->List D->Option D}{Γ:Str->Option D}{m:St}{ow:List Nat}{fr:Bool}{N:Nat}
set_option tactic.hygienic true in
theorem Bi(h0:m[i]?=some (some (.list xs)))(hn:xs.isEmpty=false):exS Φ Γ ow fr N (.pop i) m=some (.next,m.set i (some (.list xs.dropLast))):=by
 rw [yj,h0];exact Qu (by rw [hn];exact Qr)
theorem jq(h0:m[i]?=some (some (.list xs)))(hn:xs.isEmpty=false)(k:Go (exSs Φ Γ ow fr N r (m.set i (some (.list xs.dropLast)))) Q):Go (exSs Φ Γ ow fr N (.cons (.pop i) r) m) Q:=by
 refine byG λX_ g_=>?_;obtain ⟨m2,e2,q2⟩:=k;refine g_ ?_;exact ⟨m2,(aP (Bi h0 hn)).trans e2,q2⟩
set_option tactic.hygienic true in
theorem zO(h0:m[i]?=some (some (.list xs)))(h1:evE Φ Γ e m=some d)(h2:evE Φ Γ ix m=some (.int n))(hn:noList d=true)(hz:0<=n/\n < xs.length):exS Φ Γ ow fr N (.seti i ix e) m=some (.next,m.set i (some (.list (xs.set n.toNat d)))):=by
 rw [iI,h1,h0,bX,bX,bX,h2,bX,Ql hn];exact Ql hz
theorem xj(h0:m[i]?=some (some (.list xs)))(h1:evE Φ Γ e m=some d)(h2:evE Φ Γ ix m=some (.int n))(hn:noList d=true)(hz:0<=n/\n < xs.length)(k:Go (exSs Φ Γ ow fr N r (m.set i (some (.list (xs.set n.toNat d))))) Q):Go (exSs Φ Γ ow fr N (.cons (.seti i ix e) r) m) Q:=by
 obtain ⟨m2,e2,q2⟩:=k;exact ⟨m2,(aP (zO h0 h1 h2 hn hz)).trans e2,q2⟩
theorem bv(x:D)(h:evE Φ Γ e m=some x)(ho:flat x=true)(k:Rt (exSs Φ Γ ow fr N r (m.set i (some x))) d):Rt (exSs Φ Γ ow fr N (.cons (.asg i e) r) m) d:=bp _ (s6 h (by rw [ho];simp)) k
end
def sheetStep(odd:Bool)(most:Int)(r:Dr)(way one two:Int)(s:List Row × List Row):List Row × List Row:=
 if odd=true/\way.fmod 2=0/\(s.2.filter Row.isNamed).length < 3 then (s.1++dY one two (s.2.filter Row.isNamed).length r,s.2)
 else (s.1++[rowOf (way.fmod most) one two s.2 r],if (rowOf (way.fmod most) one two s.2 r).isOpen then s.2++[rowOf (way.fmod most) one two s.2 r] else if (rowOf (way.fmod most) one two s.2 r).isFin then s.2.dropLast else s.2)
def sheetAt(odd:Bool)(most:Int)(r:Dr)(c:Nat->Int):Nat->List Row × List Row
 | 0=>([],[])
 | k+1=>sheetStep odd most r (c (3 * k)) (c (3 * k+1)) (c (3 * k+2)) (sheetAt odd most r c k)
theorem fK(odd:Bool)(most:Int)(r:Dr)(c:Nat->Int)(n:Nat):sheetAt odd most r c (n+1)=sheetStep odd most r (c (3 * n)) (c (3 * n+1)) (c (3 * n+2)) (sheetAt odd most r c n):=rfl
def eB(odd:Bool)(most:Int)(r:Dr)(c:Nat->Int)(n:Nat):List Row:=(sheetAt odd most r c n).1++(sheetAt odd most r c n).2.map λo_=>.fin
theorem cf(one two:Int)(named:List Row)(r:Dr):(bG one two named r).isLend=true:=by
 unfold bG;split
 ·split<;>rfl
 ·rfl
theorem jr{r:Row}(h:r.isLend=true):r.isOpen=true/\r.isFin=false:=by induction r<;>first | exact ⟨rfl,rfl⟩ | exact nF h
theorem tm(one two:Int)(hands:List Row):(dX one two hands).isOpen=false:=by
 unfold dX;split<;>rfl
theorem qq(way one two:Int)(opened:List Row)(r:Dr):(rowOf way one two opened r).isFin=true->opened.isEmpty=false:=
 let P:Row->Prop:=λy=>y.isFin=true->opened.isEmpty=false
 iteD (P:=P) (λZ z=>nT (z.symm.trans (jr (cf ..)).2)) λZ=>iteD (P:=P) (λZ z=>nF z) λZ=>iteD (P:=P) (λZ=>iteP (P:=P) nF nF) λZ=>iteD (P:=P) (λZ z=>nF z) λZ=>iteD (P:=P) (λp Z=>List.isEmpty_eq_false_iff.mpr λe=>YV 0 (e ▸ p.2:0 < ((([]:List Row).filter Row.isNamed).filter Row.isLend).length)) λZ=>iteD (P:=P) (λh Z=>List.isEmpty_eq_false_iff.mpr (List.length_pos_iff.mp h)) λZ z=>nT (z.symm.trans (jr (cf ..)).2)
theorem qr(one two:Int)(a b c:Str)(th:Int):(gad one two a b c th).length<=11:=
 let P:List Row->Prop:=λl=>l.length<=11
 iteP (P:=P) (iteP (P:=P) (ZO rfl) (iteP (P:=P) (ZO rfl) (iteP (P:=P) (ZO rfl) (ZO rfl)))) (iteP (P:=P) (ZO rfl) (iteP (P:=P) (ZO rfl) (iteP (P:=P) (ZO rfl) (iteP (P:=P) (ZO rfl) (ZO rfl)))))
theorem bn(odd:Bool)(most:Int)(r:Dr)(c:Nat->Int):∀ k,(sheetAt odd most r c k).1.length<=11 * k/\(sheetAt odd most r c k).2.length<=k
 | 0=>⟨QO _,QO _⟩
 | k+1=>by
  refine have h1:=(bn odd most r c k).1;?_;refine have h2:=(bn odd most r c k).2;?_;simp only [fK,sheetStep];split
  ·have:=qr (c (3 * k+1)) (c (3 * k+2)) (wordOf (c (3 * k+1)) (c (3 * k+2)) ((sheetAt odd most r c k).2.filter Row.isNamed).length r) (wordOf (c (3 * k+2)) (c (3 * k+1)) (((sheetAt odd most r c k).2.filter Row.isNamed).length+1) r) (wordOf (c (3 * k+1)) (c (3 * k+1)) (((sheetAt odd most r c k).2.filter Row.isNamed).length+2) r) (thingOf (c (3 * k+2)) r.b)
   refine ⟨?_,Yy h2⟩;rw [QW];unfold dY;exact QC h1 this
  ·refine ⟨by simp only [QW,QV,QP];exact QC h1 (by decide),?_⟩
   repeat' split
   ·simp only [QW,QV,QP];(exact Nat.lt_succ_of_le h2)
   ·simp only [List.length_dropLast];exact QQ (Y6 _ _) (Yy h2)
   ·exact Yy h2
section
variable (Φ:Str->List D->Option D)(Γ:Str->Option D)(N:Nat)
theorem ii(c:Nat->Int)(n i:Nat)(h:i < n):item (.list ((List.range n).map λi=>.int (c i))) (.int i)=some (.int (c i)):=by
 refine p_mk (k:=i) ?_ ?_
 ·have:=aN (n:=n) (i:=(i:Int)) (by exact QB.mpr (QF i)) (by exact QZ h)
  simpa using this
 ·rw [Qy,YB h];rfl
noncomputable def cellsD(c:Nat->Int)(n:Nat):D:=.list ((List.range (3 * n)).map λi=>.int (c i))
def shS(cells:D)(r:Dr)(most:Int)(odd:Bool)(s:List Row × List Row)(x:Option D × Option D × Option D × Option D):St:=[some cells,some r.d,some (.int most),some (.bool odd),some (.list (s.1.map Row.d)),some (.list (s.2.map Row.d)),x.1,x.2.1,x.2.2.1,x.2.2.2]
noncomputable def ShI(cells:D)(r:Dr)(most:Int)(odd:Bool)(s:List Row × List Row)(m:St):Prop:=∃ x,m=shS cells r most odd s x
theorem zP{l:List D}(h:l=s2.map Row.d):(shS cells r most odd (s1,s3) x).set 5 (some (.list l))=shS cells r most odd (s1,s2) x:=h ▸ rfl
theorem ij{r:Row}(h:r.isOpen=true):r.isFin=false:=by induction r<;>first | rfl | exact nF h
theorem tn(r:Dr)
 (hg:∀ (one two:Int) (deep:Nat),deep < 800->Φ "_law_gadget" [.int one,.int two,.int deep,r.d]=some (.list ((dY one two deep r).map Row.d)))
 (hrow:∀ (way one two:Int) (opened:List Row),opened.length < 900->Φ "_law_row" [.int way,.int one,.int two,.list (opened.map Row.d),r.d]=some (rowOf way one two opened r).d)
 (odd:Bool) (most:Int) (hm:most ≠ 0) (c:Nat->Int) (n:Nat) (hn:n<=100) :
 runFn Φ Γ N fn_law_sheet [.list ((List.range (3 * n)).map λi=>.int (c i)),r.d,.int most,.bool odd]=some (.list ((eB odd most r c n).map Row.d)):=by
 refine au [some (cellsD c n),some r.d,some (.int most),some (.bool odd),none,none,none,none,none,none] rfl rfl (an (.list []) rfl rfl (bv (.list []) rfl rfl (bj (Q':=ShI (cellsD c n) r most odd (sheetAt odd most r c n)) ?_ ?_)))
 ·refine (cb (λk=>ShI (cellsD c n) r most odd (sheetAt odd most r c k)) (bC (n:=n) (aj (aK rfl (lenL _)) rfl (by rw [Qo];exact (zB _ 3 (by decide)).trans (Qf (λz=>some (PyData.int z)) ((Int.fdiv_eq_ediv_of_nonneg _ (by decide)).trans (Int.mul_ediv_cancel_left (n:Int) (by decide:(3:Int) ≠ 0)))))) (QQ hn (by decide):n<=2 ^ 20)) rfl ⟨(none,none,none,none),rfl⟩ λk vs m hk hI=>⟨_,(cW hk).1,?_⟩).mono λm hI=>?_
  ·replace hk:=(cW hk).2
   obtain ⟨x,rfl⟩:=hI;have l1:(sheetAt odd most r c k).1.length<=1100:=QQ (bn odd most r c k).1 (Zj 11 (QQ (Qm hk) hn));have l2:(sheetAt odd most r c k).2.length<=100:=QQ (bn odd most r c k).2 (QQ (Qm hk) hn);have b2:3 * k+2 < 3 * n:=Qe (QA _) (Zj 3 hk);have g0:=ii c (3 * n) (3 * k) (Nat.lt_of_succ_lt (Nat.lt_of_succ_lt b2));have g1:=ii c (3 * n) (3 * k+1) (Nat.lt_of_succ_lt b2);have g2:=ii c (3 * n) (3 * k+2) b2;rw [fK];generalize sheetAt odd most r c k=s at l1 l2 ⊢;generalize c (3 * k)=way at g0 ⊢;generalize c (3 * k+1)=one at g1 ⊢;generalize c (3 * k+2)=two at g2 ⊢
   change item (cellsD c n) _=_ at g0
   change item (cellsD c n) _=_ at g1
   change item (cellsD c n) _=_ at g2
   generalize cellsD c n=cells at g0 g1 g2 ⊢;refine aU (.list ((s.2.filter Row.isNamed).map Row.d)) (dA s.2 (λe=>[e.d]) Row.isNamed Row.d (bt rfl) (QQ l2 (by decide)) rfl (λe Z=>ev_c (ai (ag rfl rfl (Row.i0 e)) rfl (ie e))) λe Z Z=>rfl) rfl
    (aU (.int way) (ag rfl (aj rfl rfl (dW 3 k (by decide))) g0) rfl
    (fG (f:=ShI cells r most odd) (lQ rfl rfl (ai (aK rfl (lenL _)) rfl rfl)) (gb Iff.rfl (gb b_eq jm)) (λZ=>aU _ (aj rfl (af (esC (ag rfl (aj (aj rfl rfl (dW 3 k (by decide))) rfl rfl) g1) (esC (ag rfl (aj (aj rfl rfl (dW 3 k (by decide))) rfl rfl) g2) (esC (aK rfl (lenL _)) (esC rfl es0)))) (hg one two _ (Qh (Zz _ _) (Qh l2 (by decide))))) (catR (QQ (QC l1 (qr ..)) (by decide)))) rfl (am ⟨(some (.int k),x.2.1,some (.list ((s.2.filter Row.isNamed).map Row.d)),some (.int way)),rfl⟩)) λZ=>?_))
   have hrw:=hrow (way.fmod most) one two s.2 (Qh l2 (by decide));have hfin:=qq (way.fmod most) one two s.2 r;generalize rowOf (way.fmod most) one two s.2 r=y at hrw hfin ⊢;refine aU y.d (af (esC (aj rfl rfl (eN way most hm)) (esC (ag rfl (aj (aj rfl rfl (dW 3 k (by decide))) rfl rfl) g1) (esC (ag rfl (aj (aj rfl rfl (dW 3 k (by decide))) rfl rfl) g2) (esC rfl (esC rfl es0))))) hrw) rfl
    (aU (.list ((s.1++[y]).map Row.d)) (aj rfl rfl (catR (ys:=[y]) (QQ (Zt l1 1) (by decide)))) rfl ?_)
   refine (?_:Go (exSs Φ Γ [5] false N _ (shS cells r most odd (s.1++[y],s.2) (some (.int k),some y.d,some (.list ((s.2.filter Row.isNamed).map Row.d)),some (.int way)))) _);have c1:=kO y;refine have c2:br .Eq (.str y.tag) (.str "end")=some y.isFin:=Qf some (dB y);?_;induction ho:y.isOpen with
   | true=>
    rw [ho] at c1;rw [ij ho] at c2;exact dT _ (ai (ag rfl rfl (Row.i0 y)) rfl c1) (bE rfl rfl y.noList (by rw [lX];exact QQ l2 (by decide)) (am rfl)) (ce (ai (ag rfl rfl (Row.i0 y)) rfl c2) (am ⟨_,zP (@Qb _ _ Row.d s.2 [y]).symm⟩))
   | false=>
    rw [ho] at c1;refine ce (ai (ag rfl rfl (Row.i0 y)) rfl c1) ?_;induction hf:y.isFin with
    | true=>
     rw [hf] at c2;exact dT _ (ai (ag rfl rfl (Row.i0 y)) rfl c2) (jq rfl (List.isEmpty_map.trans (hfin hf)) (am rfl)) (am ⟨_,zP Zu.symm⟩)
    | false=>
     rw [hf] at c2;exact ce (ai (ag rfl rfl (Row.i0 y)) rfl c2) (am ⟨_,rfl⟩)
  ·rw [lX,Qo] at hI;exact hI
 ·intro m h
  obtain ⟨x,rfl⟩:=h;exact ah (aj rfl (bB (sheetAt odd most r c n).2 (λe=>[e.d]) (λo_=>Row.fin.d) (bt rfl) (QQ (bn odd most r c n).2 (QQ hn (by decide))) rfl λe Z=>rfl) (@List.map_map _ _ _ Row.d (λZ:Row=>Row.fin) _ ▸ catR (by rw [lX];exact QQ (QC (bn odd most r c n).1 (bn odd most r c n).2) (QQ (QC (Zj 11 hn) hn) (by decide))))) rfl
end
noncomputable def js(way:Int):Int:=if way=2 then 5 else if way=3\/way=6 then 10 else 12
def manyOf(ns:List Int)(most:Int):Nat:=(if 3 < (cellAt ns 2).fmod 8 then ((cellAt ns 0).fmod most).fmod 6 else (cellAt ns 0).fmod most).toNat
def onceOf(ns:List Int)(most:Int):List Row:=eB (decide (3 < (cellAt ns 2).fmod 8)) (js ((cellAt ns 2).fmod 8)) (aZ ns) (λi=>cellAt ns (3+i)) (manyOf ns most)
def drawnOf(ns:List Int)(most:Int):List Row:=
 if ((cellAt ns 2).fmod 8=1\/(cellAt ns 2).fmod 8=6)/\(onceOf ns most).length < 21 then onceOf ns most++onceOf ns most++onceOf ns most++onceOf ns most else onceOf ns most
theorem xk(w:Int)(h0:0<=w)(h1:w < 8):item (.list [.int 12,.int 12,.int 5,.int 10,.int 12,.int 12,.int 10,.int 12]) (.int w)=some (.int (js w)):=by
 obtain ⟨n,rfl⟩:=Int.eq_ofNat_of_zero_le h0;have h:n < 8:=Q0.mp h1;rcases n with _ | _ | _ | _ | _ | _ | _ | _ | n<;>first | rfl | exact absurd h (Z4.mpr (Nat.le_add_left 8 n))
theorem xl(w:Int):js w ≠ 0:=iteP (P:=λn:Int=>n ≠ 0) (by decide) (iteP (P:=λn:Int=>n ≠ 0) (by decide) (by decide))
theorem qs(ns:List Int)(most:Int)(h0:0 < most):manyOf ns most < most.toNat:=by
 have h1:=ar (cellAt ns 0) h0;have h2:=aw (cellAt ns 0) h0;have h3:=ar ((cellAt ns 0).fmod most) (b:=6) (by decide);have h4:=aw ((cellAt ns 0).fmod most) (b:=6) (by decide);have h5:((cellAt ns 0).fmod most).fmod 6<=(cellAt ns 0).fmod most:=by
  rw [ZM _ (by decide)];exact (Int.eq_ofNat_of_zero_le h1).elim λn e=>e ▸ QB.mpr (Nat.mod_le n 6)
 unfold manyOf;split<;>exact (Int.toNat_lt_toNat h0).mpr (by first | exact QH h5 h2 | exact h2)
theorem fL(odd:Bool)(most:Int)(r:Dr)(c:Nat->Int)(n:Nat):(eB odd most r c n).length<=12 * n:=by
 obtain ⟨h1,h2⟩:=bn odd most r c n;simp only [eB,QW,lX];exact QQ (QC h1 h2) (Zd (Nat.succ_mul 11 n).symm)
def clD(ns:List Int)(n:Nat):D:=.list ((List.range (3 * n)).map λ(i:Nat)=>.int (cellAt ns (3+i)))
theorem xm{ns:List Int}{most:Int}(h:((cellAt ns 2).fmod 8=1\/(cellAt ns 2).fmod 8=6)/\(onceOf ns most).length < 21):drawnOf ns most=onceOf ns most++onceOf ns most++onceOf ns most++onceOf ns most:=Ql h
theorem xo{ns:List Int}{most:Int}(h : ¬ (((cellAt ns 2).fmod 8=1\/(cellAt ns 2).fmod 8=6)/\(onceOf ns most).length < 21)):drawnOf ns most=onceOf ns most:=Qu h
def drS(ns:List Int)(most n:Int)(c r:Option D):St:=[some (.list (ns.map .int)),some (.int most),some (.int n),some (.int ((cellAt ns 2).fmod 8)),c,r]
theorem to(Φ:Str->List D->Option D)(Γ:Str->Option D)(N:Nat)(ns:List Int)(hns:ns.length<=63)(most:Int)(h0:0 < most)(h1:most<=100)
 (hc:∀ k:Int,0<=k->Φ "_law_cell_at" [.list (ns.map .int),.int k]=some (.int (cellAt ns k))) (hd:Φ "_law_draw" [.list (ns.map .int)]=some (aZ ns).d)
 (hs:∀ (odd:Bool) (most:Int) (_:most ≠ 0) (c:Nat->Int) (n:Nat) (_:n<=100),Φ "_law_sheet" [.list ((List.range (3 * n)).map λi=>.int (c i)),(aZ ns).d,.int most,.bool odd]=some (.list ((eB odd most (aZ ns) c n).map Row.d))) :
 runFn Φ Γ N fn_law_drawn [.list (ns.map .int),.int most]=some (.list ((drawnOf ns most).map Row.d)):=by
 have ml:=qs ns most h0;have m100:manyOf ns most<=100:=Qm (Qe ml (Zo.mpr h1));have hmany:(if 3 < (cellAt ns 2).fmod 8 then ((cellAt ns 0).fmod most).fmod 6 else (cellAt ns 0).fmod most)=(manyOf ns most:Int):=(Zp (iteP (P:=λn:Int=>0<=n) (ar _ (by decide)) (ar _ h0))).symm;refine au [some (.list (ns.map .int)),some (.int most),none,none,none,none] rfl rfl (aW (ai (aK rfl (lenL ns)) rfl rfl) (Qf some (Zk (ZB.mpr (QB.mpr hns)))) (an (.int ((cellAt ns 0).fmod most)) (aj (af (esC rfl (esC rfl es0)) (hc 0 (by decide))) rfl (eN _ most (YC h0))) rfl (an (.int ((cellAt ns 2).fmod 8)) (aj (af (esC rfl (esC rfl es0)) (hc 2 (by decide))) rfl rfl) rfl (bj (Q':=(· = drS ns most (manyOf ns most) none none)) (cx rfl (λq=>aU (.int (((cellAt ns 0).fmod most).fmod 6)) rfl rfl (am (Qf (λn=>drS ns most n none none) ((Ql (Qp q)).symm.trans hmany)))) λq=>Qf (λn=>drS ns most n none none) ((Qu (of_decide_eq_false q)).symm.trans hmany)) λm e=>?_))));subst e;have hlen:(onceOf ns most).length<=1200:=QQ (fL ..) (Zj 12 m100);refine an (clD ns (manyOf ns most)) (bB (List.range (3 * manyOf ns most)) (λ(i:Nat)=>[PyData.int i]) (λi=>.int (cellAt ns (3+i))) (bC (n:=((3 * manyOf ns most:Nat):Int)) (aj rfl rfl (dW 3 _ (by decide))) (QQ (Zj 3 m100) (by decide):3 * manyOf ns most<=2 ^ 20)) (by rw [Qo];exact QQ (Zj 3 m100) (by decide)) rfl λk Z=>af (esC rfl (esC rfl es0)) (hc (3+k) (Zq (3+k)))) rfl
  (an (.list ((onceOf ns most).map Row.d)) (af (esC rfl (esC (af (esC rfl es0) hd) (esC (ag rfl rfl (xk ((cellAt ns 2).fmod 8) (ar (cellAt ns 2) (b:=8) (by decide)) (aw (cellAt ns 2) (b:=8) (by decide)))) (esC rfl es0)))) (hs (decide (3 < (cellAt ns 2).fmod 8)) (js ((cellAt ns 2).fmod 8)) (xl _) (λi=>cellAt ns (3+i)) (manyOf ns most) m100)) rfl
  (bj (Q':=λm=>∃ c,m=drS ns most (manyOf ns most) c (some (.list ((drawnOf ns most).map Row.d)))) (cx (aS (ai rfl rfl (qn ((cellAt ns 2).fmod 8) [1,6])) (ai (aK rfl (lenL _)) rfl rfl)) (λq=>?_) λq=>⟨some _,Qf (λl:List Row=>drS ns most (manyOf ns most) (some (clD ns (manyOf ns most))) (some (.list (l.map Row.d)))) (xo λp=>nT (((gb or2 jm).mpr p).symm.trans q)).symm⟩) λm h=>h.elim λc e=>e ▸ ah rfl rfl))
 exact aU _ (aj (aj (aj rfl rfl (catR (QQ (QC hlen hlen) (by decide)))) rfl (catR (by rw [QW];exact QQ (QC (QC hlen hlen) hlen) (by decide)))) rfl (catR (by rw [QW,QW];exact QQ (QC (QC (QC hlen hlen) hlen) hlen) (by decide)))) rfl (am ⟨some _,Qf (λl:List Row=>drS ns most (manyOf ns most) (some (clD ns (manyOf ns most))) (some (.list (l.map Row.d)))) (xm ((gb or2 jm).mp q)).symm⟩)
noncomputable def nest:List Row->Nat->Option Nat
 | [],d=>some d
 | r::rs,d=>if r.isOpen then nest rs (d+1) else if r.isFin then (match d with | 0=>none | d+1=>nest rs d) else nest rs d
theorem zQ(x:Nat):nest [] x=some x:=rfl
theorem lZ(r:Row)(rs:List Row)(d:Nat):nest (r::rs) d=if r.isOpen then nest rs (d+1) else if r.isFin then (match d with | 0=>none | d+1=>nest rs d) else nest rs d:=rfl
theorem cg:∀ (a b:List Row) (d:Nat),nest (a++b) d=(nest a d).bind (nest b):=by
 intro a;induction a with
 | nil=>
  intro b d;exact rfl
 | cons r a cg=>
  intro b d;simp only [ZG,lZ];split
  ·exact cg b _
  ·split
   ·induction d using nc with
    | zero=>rfl
    | succ d=>exact cg b d
   ·exact cg b d
noncomputable def stp(x:Row)(at':Nat)(st:List Nat):List Nat:=if x.isOpen then at'::st else if x.isFin then st.tail else st
def stk(rows:List Row):Nat->List Nat
 | 0=>[]
 | k+1=>match rows[k]? with
  | some r=>stp r k (stk rows k)
  | none=>stk rows k
theorem kP(rows:List Row)(n:Nat):stk rows (n+1)=match rows[n]? with | some r=>stp r n (stk rows n) | none=>stk rows n:=rfl
noncomputable def topI:List Nat->Int
 | []=>-1
 | x::_=>x
theorem vh  : topI [] = -1:=rfl
theorem jt(x_1:Nat)(tail:List Nat):topI (x_1::tail) = ↑x_1:=rfl
def home(rows:List Row)(k:Nat):Int:=topI (stk rows k)
def aX(rows:List Row):List Int:=(List.range rows.length).map (home rows)
noncomputable def isAt(rows:List Row)(p:Row->Bool)(k:Nat):Bool:=(rows[k]?).any p
theorem bH(h:rows[k]?=some r):stk rows (k+1)=stp r k (stk rows k):=by simp only [kP,h]
structure Nested(rows:List Row):Prop where
 ok:∀ k r,rows[k]?=some r->r.isFin=true->stk rows k ≠ []
 bal:stk rows rows.length=[]
set_option tactic.hygienic true in
theorem qt(h:nest rows 0=some 0):Nested rows:=by
 have key:∀ k,k<=rows.length->nest (rows.take k) 0=some (stk rows k).length:=by
  intro k;induction k with
  | zero=>intro _;rfl
  | succ k ih=>
   intro hk;have hr:rows[k]?=some rows[k]:=Qk (by exact hk);have ht:rows.take (k+1)=rows.take k++[rows[k]]:=by rw [ZU,hr];rfl
   have hs:(nest (rows.take (k+1)) 0).bind (nest (rows.drop (k+1)))=some 0:=by rw [<- cg,List.take_append_drop];exact h
   rw [ht,cg,(ih (by exact Qm hk)),bH hr] at *;simp only [bX,zQ,lZ,stp] at hs ⊢;split
   ·simp
   ·rename_i ho
    simp only [ho,QD,if_false] at hs;split
    ·rename_i hf
     simp only [hf,if_true] at hs;induction hst:stk rows k using lc with
     | nil=>rw [hst] at hs;simp at hs
     | cons=>simp
    ·rfl
 constructor
 ·intro k r hr hf hst
  have hk:k < rows.length:=(Qq hr).1;have h1:=key k (by exact Qm hk);have h2:=key (k+1) (by exact hk);have ht:rows.take (k+1)=rows.take k++[r]:=by rw [ZU,hr];rfl
  rw [ht,cg,h1,hst] at h2;have ho:r.isOpen=false:=by clear ht h1 hk hst hr;induction r<;>first | rfl | exact nF hf
  simp [lZ,ho,hf] at h2
 ·have:=key rows.length (QO _)
  rw [Z8,h] at this;exact ZA.mp (Qv this).symm
theorem fM(rows:List Row):∀ k,∀ j ∈ stk rows k,j < k
 | 0,j,h=>(YJ h).elim
 | k+1,j,h=>by
  simp only [kP] at h;split at h
  ·unfold stp at h
   split at h
   ·rcases Qw h with q | q
    ·exact q ▸ QA _
    ·have:=fM rows k j q;(exact Nat.le.step this)
   ·split at h
    ·have:=fM rows k j (YQ h);(exact Nat.le.step this)
    ·have:=fM rows k j h;(exact Nat.le.step this)
  ·have:=fM rows k j h;(exact Nat.le.step this)
set_option tactic.hygienic true in
theorem ch(rows:List Row):∀ k,∀ j ∈ stk rows k,isAt rows Row.isOpen j=true
 | 0,j,h=>(YJ h).elim
 | k+1,j,h=>by
  simp only [kP] at h;split at h
  ·rename_i r hr
   unfold stp at h;split at h
   ·rename_i ho
    rcases Qw h with q | q
    ·subst q;simp [isAt,hr,ho]
    ·exact ch rows k j q
   ·split at h
    ·exact ch rows k j (YQ h)
    ·exact ch rows k j h
  ·exact ch rows k j h
theorem bw(rows:List Row):∀ k,(stk rows k).Nodup
 | 0=>ZL
 | k+1=>by
  simp only [kP];split
  ·unfold stp
   split
   ·exact Q8.mpr ⟨λh=>absurd (fM rows k k h) (YV _),(bw rows k)⟩
   ·split
    ·exact (bw rows k).sublist (List.tail_sublist _)
    ·exact (bw rows k)
  ·exact (bw rows k)
theorem dZ(rows:List Row)(hj:j < k)(h:j ∉ stk rows k):∀ i,j ∉ stk rows (k+i)
 | 0=>h
 | i+1=>by
  rw [show k+(i+1)=(k+i)+1 by exact Eq.refl (k+(i+1))];simp only [kP];split
  ·unfold stp
   split
   ·intro q
    rcases Qw q with q | q
    ·exact absurd hj (Z4.mpr (q ▸ QI k i))
    ·exact (dZ rows hj h i) q
   ·split
    ·exact λq=>(dZ rows hj h i) (YQ q)
    ·exact (dZ rows hj h i)
  ·exact (dZ rows hj h i)
theorem ci{k j:Nat}(h:home rows k=(j:Int)):j ∈ stk rows k:=by
 unfold home at h;induction q:stk rows k using lc with
 | nil=>rw [q] at h;simp only [vh] at h;exact (nomatch (h:Int.negSucc 0=Int.ofNat j))
 | cons x l=>rw [q] at h;simp only [jt,Xx] at h;exact h ▸ (.head _)
theorem fN{k j:Nat}(h:home rows k=(j:Int)):j < k:=fM rows k j (ci h)
theorem qu(rows:List Row)(k:Nat):home rows k = -1\/∃ j:Nat,home rows k=j/\j < k:=by
 induction q:stk rows k using lc with
 | nil=>exact .inl (by simp only [home,q,vh])
 | cons x l=>exact .inr ⟨x,by simp only [home,q,jt],fM rows k x (by exact q ▸ .head _)⟩
theorem tq{j k k':Nat}(h:isAt rows Row.isFin k=true)(e:home rows k=(j:Int))(e':home rows k'=(j:Int))(hk:k < k'):False:=by
 have hm:=ci e;obtain ⟨r,hr,hf⟩:∃ r,rows[k]?=some r/\r.isFin=true:=by
  unfold isAt at h;induction q:rows[k]? with
  | none=>rw [q] at h;simp at h
  | some r=>rw [q] at h;exact ⟨r,rfl,by simpa using h⟩
 have ho:r.isOpen=false:=by induction r<;>first | rfl | exact nF hf
 have hs:stk rows (k+1)=(stk rows k).tail:=by rw [bH hr];simp [stp,ho,hf]
 have:=dZ rows (j:=j) (k:=k+1) (by have:=fN e;(exact Nat.le.step this)) (by
  rw [hs];have nd:=bw rows k;unfold home at e;induction q:stk rows k using lc with
  | nil=>rw [q] at hm;exact (YJ hm).elim
  | cons x l=>
   rw [q] at e nd;simp only [jt,Xx] at e;subst e
   exact (Q8.mp nd).1) (k' - (k+1))
 rw [show k+1+(k' - (k+1))=k' by grind] at this;exact this (ci e')
def endAt(rows:List Row)(j:Nat):Nat->Int
 | 0=>-1
 | k+1=>if isAt rows Row.isFin k=true/\home rows k=(j:Int) then k else endAt rows j k
theorem kQ(rows:List Row)(j:Nat)(n:Nat):endAt rows j (n+1)=if isAt rows Row.isFin n=true/\home rows n = ↑j then ↑n else endAt rows j n:=rfl
def endL(rows:List Row):List Int:=(List.range rows.length).map λj=>endAt rows j rows.length
set_option tactic.hygienic true in
theorem l6{j k:Nat}(h:isAt rows Row.isFin k=true)(e:home rows k=(j:Int)):∀ n,k < n->endAt rows j n=k
 | 0,q=>by exact absurd q (ZY k)
 | n+1,q=>by
  simp only [kQ];split
  ·rename_i h2
   by_cases hk:k=n
   ·rw [hk]
   ·exact (tq h e h2.2 (by exact Yq (Q7 q) hk)).elim
  ·rename_i h2
   have:k ≠ n:=by rintro rfl;exact h2 ⟨h,e⟩
   exact l6 h e n (by exact Yq (Q7 q) this)
def startL(rows:List Row)(j:Nat):List Int:=((j:Int)+1)::((List.range rows.length).filter λk=>isAt rows Row.isOr k&&home rows k == (j:Int)).map λ(k:Nat)=>(k:Int)+1
section
variable {Φ:Str->List D->Option D}{Γ:Str->Option D}{m:St}{ow:List Nat}{fr:Bool}{N:Nat}
theorem kR(I:Nat->St->Prop)(hi:evIt Φ Γ it m=some items)(hz:cz it=false)(h0:I 0 m)
 (hs:∀ (k:Nat) (vs:List D) (m:St),items[k]?=some vs->I k m->∃ x y,vs=[x,y]/\Go (exSs Φ Γ ow fr N body ((m.set i (some x)).set j (some y))) (I (k+1))):Go (exS Φ Γ ow fr N (.for2 i j it body) m) (I items.length):=by
 rw [n8,hi,bX,hz,Qu Qr];obtain ⟨m',e,h⟩:=lP (b:=λvs m=>match vs with | [x,y]=>exSs Φ Γ ow fr N body (setV (setV m i x) j y) | _=>none) I items 0 m h0 λk vs m hk hI=>by
  rw [Zc] at hI;obtain ⟨x,y,rfl,m',e,h⟩:=hs k vs m hk hI;exact ⟨m',e,by rw [Zc];exact h⟩
 rw [Zc] at h;exact ⟨m',e,h⟩
theorem ik:∀ (xs:List D) (a k:Nat),(enumL a xs)[k]?=(xs[k]?).map λx=>[.int ((a+k:Nat):Int),x]
 | [],_,_=>by rfl
 | x::xs,a,0=>by rfl
 | x::xs,a,k+1=>by
  simp only [ei,gX];rw [ik xs (a+1) k,show a+1+k=a+(k+1) by exact Z9 a k]
theorem eT:∀ (xs:List D) (a:Nat),(enumL a xs).length=xs.length:=by
 intro xs;induction xs with
 | nil=>
  intro _;exact rfl
 | cons _ xs eT=>
  intro a;simp only [ei,QV,eT]
theorem fO(h:evE Φ Γ e m=some (.list xs)):evIt Φ Γ (.enum e) m=some (enumL 0 xs):=by rw [oa,h];rfl
theorem fP:∀ (items:List (List D)) (p:Nat->Bool) (f:Nat->D) (m:St),I m->(∀ (k:Nat) (vs:List D) (m:St),items[k]?=some vs->I m->(p k=true->Rt (b vs m) (f k))/\(p k=false->Go (b vs m) I)) ->
 (∃ k,k < items.length/\p k=true/\(∀ j,j < k->p j=false)/\Rt (forL b items m) (f k))\/((∀ k,k < items.length->p k=false)/\Go (forL b items m) I):=by
 intro items;induction items with
 | nil=>
  intro p f m h0 _;exact .inr ⟨λk h=>by simp at h,m,rfl,h0⟩
 | cons vs items fP=>
  intro p f m h0 hs;induction hp:p 0 with
  | true=>
   obtain ⟨m',e⟩:=((hs 0 vs m rfl h0).1) hp;exact .inl ⟨0,by simp,hp,λj hj=>by exact absurd hj (ZY j),m',by simp only [gd,e]⟩
  | false=>
   refine byG λX_ g_=>?_;obtain ⟨m',e,hI⟩:=((hs 0 vs m rfl h0).2) hp;refine g_ ?_;rcases fP (λk=>p (k+1)) (λk=>f (k+1)) m' hI (λk vs m hk hI=>hs (k+1) vs m (hk) hI) with ⟨k,h1,h2,h3,h4⟩ | ⟨h1,h2⟩
   ·refine .inl ⟨k+1,by simpa using h1,h2,λj hj=>?_,?_⟩
    ·induction j using nc with
     | zero=>exact hp
     | succ j=>exact h3 j (by exact Q7 hj)
    ·simp only [gd,e];exact h4
   ·refine .inr ⟨λk hk=>?_,?_⟩
    ·induction k using nc with
     | zero=>exact hp
     | succ k=>exact h1 k (by simpa using hk)
    ·simp only [gd,e];exact h2
theorem ju(I:St->Prop)(p:Nat->Bool)(f:Nat->D)(hi:evIt Φ Γ it m=some items)(hz:cz it=false)(h0:I m)
 (hs:∀ (k:Nat) (vs:List D) (m:St),items[k]?=some vs->I m->∃ x,vs=[x]/\(p k=true->Rt (exSs Φ Γ ow fr N body (m.set i (some x))) (f k))/\(p k=false->Go (exSs Φ Γ ow fr N body (m.set i (some x))) I)) :
 (∃ k,k < items.length/\p k=true/\(∀ j,j < k->p j=false)/\Rt (exS Φ Γ ow fr N (.for1 i it body) m) (f k))\/((∀ k,k < items.length->p k=false)/\Go (exS Φ Γ ow fr N (.for1 i it body) m) I):=by
 have hex:exS Φ Γ ow fr N (.for1 i it body) m=forL (λvs m=>match vs with | [x]=>exSs Φ Γ ow fr N body (setV m i x) | _=>none) items m:=by
  rw [n7,hi,bX,hz,Qu Qr]<;>rfl
 rw [hex];exact fP items p f m h0 λk vs m hk hI=>by
  obtain ⟨x,rfl,h1,h2⟩:=hs k vs m hk hI;exact ⟨h1,h2⟩
theorem kT(I:St->Prop)(p:Nat->Bool)(f:Nat->D)(hi:evIt Φ Γ it m=some items)(hz:cz it=false)(h0:I m)
 (hs:∀ (k:Nat) (vs:List D) (m:St),items[k]?=some vs->I m->∃ x,vs=[x]/\(p k=true->Rt (exSs Φ Γ ow fr N body (m.set i (some x))) (f k))/\(p k=false->Go (exSs Φ Γ ow fr N body (m.set i (some x))) I))
 (hno:(∀ k,k < items.length->p k=false)->∀ m,I m->Rt (exSs Φ Γ ow fr N r m) d) (hyes:∀ k,k < items.length->p k=true->(∀ j,j < k->p j=false)->f k=d):Rt (exSs Φ Γ ow fr N (.cons (.for1 i it body) r) m) d:=by
 rcases ju I p f hi hz h0 hs with ⟨k,h1,h2,h3,h4⟩ | ⟨h1,m',h2,h3⟩
 ·rw [<- hyes k h1 h2 h3];exact h4.elim λm' e=>⟨m',eA e⟩
 ·exact bp m' h2 (hno h1 m' h3)
end
theorem nn(l:List Int):(PyData.list (l.map .int)).depth<=32:=by
 have:PyData.depthAll (l.map .int)<=1:=by
  induction l with
  | nil=>decide
  | cons e l ih=>simp [da_c,dp_i];(exact ih)
 simp [dp_l];exact QQ this (by decide)
theorem tu(l:List Int):shp (.list (l.map .int))=true:=by simp [shp,nd_l,cF,nn]
theorem tv(l:List Int):pyEq (.list (l.map .int)) (.list [])=some l.isEmpty:=by
 have h:shp (.list [])=true:=rfl;simp only [pyEq,tu,h,XZ,YD,if_true,qv_l];induction l<;>rfl
theorem kU(rows:List Row):∀ k,(stk rows k).length<=k
 | 0=>QO _
 | k+1=>by
  have ih:=kU rows k;simp only [kP];split
  ·unfold stp
   split
   ·simpa using ih
   ·split
    ·simp only [List.length_tail];exact QQ (Y6 _ _) (Yy ih)
    ·(exact Nat.le.step ih)
  ·(exact Nat.le.step ih)
noncomputable def opT:D:=.tuple [.str "lend",.str "pick",.str "either",.str "again"]
noncomputable def stI(l:List Nat):List Int:=l.reverse.map λ(n:Nat)=>(n:Int)
theorem l7(k:Nat)(l:List Nat):stI (k::l)=stI l++[(k:Int)]:=by simp [stI]
theorem tw(x:Nat)(l:List Nat):(stI (x::l)).getLast?=some (x:Int):=by simp [stI]
theorem tx(l:List Nat):(stI l).dropLast=stI l.tail:=by
 induction l using lc with
 | nil=>rfl
 | cons x l=>rw [l7,Ym];rfl
theorem fQ(l:List Nat):(stI l).isEmpty=l.isEmpty:=by induction l<;>simp [stI]
theorem vi{rows:List Row}{k:Nat}{vs:List D}(h:(enumL 0 (rows.map Row.d))[k]?=some vs):∃ x,rows[k]?=some x/\vs=[.int (k:Int),x.d]:=by
 rw [ik,Qy] at h;induction q:rows[k]? with
 | none=>rw [q] at h;simp at h
 | some x=>rw [q] at h;simp at h;exact ⟨x,rfl,h.symm⟩
theorem bO{α:Type}(f:Nat->α)(k:Nat):(List.range (k+1)).map f=(List.range k).map f++[f k]:=by rw [List.range_succ,Qb];rfl
theorem qv(l:List Int):flat (.list (l.map .int))=true:=by simp only [fl_l,bl]
theorem bI{rows:List Row}{k:Nat}{x:Row}(h:rows[k]?=some x):item (.list (rows.map Row.d)) (.int (k:Int))=some x.d:=by
 have hk:k < rows.length:=(Qq h).1;exact p_mk (k:=k) (by have:=aN (n:=rows.length) (i:=(k:Int)) (by exact QB.mpr (QF k)) (by exact QZ hk);simpa using this) (by rw [Qy,h];rfl)
theorem cP{l:List Int}{k:Nat}{x:Int}(h:l[k]?=some x):item (.list (l.map .int)) (.int (k:Int))=some (.int x):=by
 have hk:k < l.length:=(Qq h).1;exact p_mk (k:=k) (by have:=aN (n:=l.length) (i:=(k:Int)) (by exact QB.mpr (QF k)) (by exact QZ hk);simpa using this) (by rw [Qy,h];rfl)
theorem d7(h:k < rows.length):(aX rows)[k]?=some (home rows k):=by
 unfold aX;rw [Qy,YB h];rfl
theorem bd(h:rows[k]?=some x)(p:Row->Bool):isAt rows p k=p x:=by simp [isAt,h]
section
variable (Φ:Str->List D->Option D)(Γ:Str->Option D)(N:Nat)
theorem xp(l:List Nat)(h:l.isEmpty=false):item (.list ((stI l).map .int)) (.int (-1))=some (.int (topI l)):=by
 induction l using lc with
 | nil=>exact nT h
 | cons x l=>rw [fJ,List.getLast?_map,tw];rfl
end
section
variable (Φ:Str->List D->Option D)(Γ:Str->Option D)(N:Nat)
theorem qw(p:Nat->Bool)(a k:Nat):(List.range' a (k+1)).filter p=(List.range' a k).filter p++(if p (a+k) then [a+k] else []):=by
 rw [List.range'_concat,Zw];simp only [Nat.one_mul];rw [ZF,List.filter_nil]
theorem tz(p:Nat->Bool)(a k:Nat):((List.range' a k).filter p).length<=k:=QQ (Zz _ _) (by simp)
end
theorem map_range_set{n p:Nat}{f:Nat->Int}{x:Int}:(((List.range n).map f).map PyData.int).set p (.int x)=((List.range n).map λj=>if j=p then x else f j).map .int:=by
 refine List.ext_getElem? λi=>?_;rw [List.getElem?_set,lX,lX,Qo,Qy,Qy,Qy,Qy]
 by_cases hp:i < n
 ·rw [YB hp]
  by_cases hi:p=i
  ·rw [Ql hi,Ql (hi ▸ hp)];exact Qf (λz=>some (PyData.int z)) (Ql hi.symm).symm
  ·rw [Qu hi];exact Qf (λz=>some (PyData.int z)) (Qu λq=>hi q.symm).symm
 ·rw [ZP (by rw [Qo];exact YZ hp)]
  by_cases hi:p=i
  ·rw [Ql hi,Qu (hi ▸ hp)];rfl
  ·exact Qu hi
def hS(rows:List Row)(s l:List Int)(x:Option D × Option D):St:=[some (.list (rows.map Row.d)),some (.list (s.map .int)),some (.list (l.map .int)),x.1,x.2]
theorem hS_1{rows:List Row}{s s' l:List Int}{x:Option D × Option D}{q:List D}(h:s'.map .int=q):(hS rows s l x).set 1 (some (.list q))=hS rows s' l x:=h ▸ rfl
theorem hS_2{rows:List Row}{s l l':List Int}{x:Option D × Option D}{q:List D}(h:l'.map .int=q):(hS rows s l x).set 2 (some (.list q))=hS rows s l' x:=h ▸ rfl
theorem im{l:List Int}(h:l.length<=5000):(l.map PyData.int).length<=2 ^ 22:=by rw [lX];exact QQ h (by decide)
section
variable (Φ:Str->List D->Option D)(Γ:Str->Option D)(N:Nat)
theorem tA(hΓ:Γ "OPENERS" = some opT)(rows:List Row)(hl:rows.length<=5000)(hn:∀ k r,rows[k]?=some r->r.isFin=true->stk rows k ≠ []) :
 runFn Φ Γ N fnhomes [.list (rows.map Row.d)]=some (.list ((aX rows).map .int)):=by
 refine au [some (.list (rows.map Row.d)),none,none,none,none] rfl rfl (bv (.list []) rfl rfl (bv (.list []) rfl rfl (bj (kR (λk m=>k<=rows.length/\∃ x,m=hS rows (stI (stk rows k)) ((List.range k).map (home rows)) x) (fO (xs:=rows.map Row.d) rfl) rfl ⟨QF _,(none,none),rfl⟩ λk vs m hk hI=>?_) λm h=>?_)))
 ·obtain ⟨hkl,y,rfl⟩:=hI
  obtain ⟨x,hx,rfl⟩:=vi hk;have lk:=(Qq hx).1;have hfl:((List.range k).map (home rows)).length<=5000:=by rw [lX,Qo];exact QQ hkl hl
  refine ⟨_,_,rfl,(?_:Go (exSs Φ Γ _ _ N _ (hS rows (stI (stk rows k)) ((List.range k).map (home rows)) (some (.int k),some x.d))) _)⟩;refine bD (Q':=(· = hS rows (stI (stk rows k)) ((List.range (k+1)).map (home rows)) (some (.int k),some x.d))) (kM (ai rfl rfl (tv _)) rfl (λq=>bE (d:=.int (-1)) rfl rfl rfl (im hfl) (am (hS_2 ?_))) λq=>bE (d:=.int (home rows k)) rfl (ag rfl rfl (xp _ ((fQ _).symm.trans q))) rfl (im hfl) (am (hS_2 ?_))) λm e=>?_
  ·rw [bO,Qb,show home rows k = -1 from Qf topI (Q1.mp ((fQ _).symm.trans q))];rfl
  ·rw [bO,Qb];rfl
  subst e;rw [bH hx];refine fG (f:=λs m=>k+1<=rows.length/\∃ x,m=hS rows (stI s) ((List.range (k+1)).map (home rows)) x) (ai (ag rfl rfl (Row.i0 x)) hΓ (lW x)) Iff.rfl (λq=>bE rfl rfl rfl (im ?_) (am ⟨lk,_,hS_1 ?_⟩)) λq=>fG (f:=λs m=>k+1<=rows.length/\∃ x,m=hS rows (stI s) ((List.range (k+1)).map (home rows)) x) (ai (ag rfl rfl (Row.i0 x)) rfl (Qf some (dB x))) Iff.rfl (λq2=>jq rfl ?_ (am ⟨lk,_,hS_1 ?_⟩)) λZ=>am ⟨lk,_,rfl⟩
  ·unfold stI;rw [lX,Z5];exact QQ (kU rows k) (QQ hkl hl)
  ·rw [l7,Qb];rfl
  ·rw [List.isEmpty_map,fQ];exact YM.mpr λz=>hn k x hx q2 (Q1.mp z)
  ·rw [<- tx,Zu]
 ·obtain ⟨_,x,rfl⟩:=h
  rw [eT,lX];exact ah rfl (qe rfl (bl _))
theorem tB(rows:List Row)(n:Nat):repL [PyData.int (-1)] n=((List.range n).map λj=>endAt rows j 0).map .int:=by
 have hc:∀ n,repL [PyData.int (-1)] (n+1)=repL [PyData.int (-1)] n++[.int (-1)]:=by
  intro n;induction n with
  | zero=>rfl
  | succ n ih=>exact Qf (PyData.int (-1)::·) ih
 induction n with
 | zero=>rfl
 | succ n ih=>rw [hc,ih,bO,Qb];rfl
theorem xq(rows:List Row)(hl:rows.length<=5000)(hn:∀ k r,rows[k]?=some r->r.isFin=true->stk rows k ≠ [])(hh:Φ "homes" [.list (rows.map Row.d)]=some (.list ((aX rows).map .int))) :
 runFn Φ Γ N fnends [.list (rows.map Row.d)]=some (.list ((endL rows).map .int)):=by
 refine au [some (.list (rows.map Row.d)),none,none,none,none] rfl rfl (an (.list ((aX rows).map .int)) (af (esC rfl es0) hh) rfl (bv (.list (((List.range rows.length).map λj=>endAt rows j 0).map .int)) (aj rfl (aK rfl (lenL rows)) ((zJ _ _ ⟨by decide,QB.mpr (QQ hl (by decide)),Zq (rows.length+10000)⟩).trans (Qf (λl=>some (PyData.list l)) (tB rows rows.length)))) (qv _) (bj (kR (λk m=>k<=rows.length/\∃ x,m=hS rows (aX rows) ((List.range rows.length).map λj=>endAt rows j k) x) (fO (xs:=rows.map Row.d) rfl) rfl ⟨QF _,(none,none),rfl⟩ λk vs m hk hI=>?_) λm h=>?_)))
 ·obtain ⟨hkl,y,rfl⟩:=hI
  obtain ⟨x,hx,rfl⟩:=vi hk;have lk:=(Qq hx).1;refine ⟨_,_,rfl,(?_:Go (exSs Φ Γ _ _ N _ (hS rows (aX rows) ((List.range rows.length).map λj=>endAt rows j k) (some (.int k),some x.d))) _)⟩;refine bD (cx (ai (ag rfl rfl (Row.i0 x)) rfl (Qf some (dB x))) (λq=>?_) λq=>⟨lk,_,Qf (λf=>hS rows (aX rows) ((List.range rows.length).map f) _) (funext λi=>?_)⟩) λm e=>am e
  ·obtain ⟨j,hj,hjk⟩:=(qu rows k).resolve_left λh=>by
    unfold home at h;induction q3:stk rows k using lc with
    | nil=>exact hn k x hx q q3
    | cons y l=>rw [q3] at h;exact (nomatch (h:Int.ofNat y=Int.negSucc 0))
   refine xj (n:=(j:Int)) rfl rfl (hj ▸ ag rfl rfl (cP (d7 lk))) rfl ⟨Zq j,by rw [lX,lX,Qo];exact QZ (Qe hjk hkl)⟩ (am ⟨lk,_,hS_2 (map_range_set.trans (Qf (λf=>((List.range rows.length).map f).map PyData.int) (funext λi=>?_))).symm⟩);rw [kQ,bd hx,q,hj,QN]
   by_cases hij:i=j
   ·rw [Ql hij,Ql ⟨rfl,hij ▸ rfl⟩]
   ·rw [Qu hij,Qu λh=>hij (Int.ofNat.inj h.2).symm]
  ·rw [kQ,bd hx,q,Qu λh=>nF h.1]
 ·obtain ⟨_,x,rfl⟩:=h
  rw [eT,lX];exact ah rfl (qe rfl (bl _))
def orL(rows:List Row)(j k:Nat):List Int:=((j:Int)+1)::((List.range' 0 k).filter λk=>isAt rows Row.isOr k&&home rows k == (j:Int)).map λ(k:Nat)=>(k:Int)+1
def rwS(rows:List Row)(j:Nat)(l:List Int)(x:Option D):St:=[some (.list (rows.map Row.d)),some (.list ((aX rows).map .int)),some (.int (j:Int)),some (.list (l.map .int)),x]
theorem Bj{rows:List Row}{j:Nat}{l l':List Int}{x:Option D}{q:List D}(h:l'.map .int=q):(rwS rows j l x).set 3 (some (.list q))=rwS rows j l' x:=h ▸ rfl
theorem tC(rows:List Row)(j k:Nat)(h:rows[k]?=some x):orL rows j (k+1)=if (x.isOr&&home rows k == (j:Int))=true then orL rows j k++[(k:Int)+1] else orL rows j k:=by
 unfold orL;rw [qw,Zc,bd h,Qb];split
 ·rfl
 ·exact Qf (_::·) (Xj _)
theorem io(rows:List Row)(hl:rows.length<=5000)(j:Nat) :
 runFn Φ Γ N fnfirst_rows [.list (rows.map Row.d),.list ((aX rows).map .int),.int (j:Int)]=some (.list ((startL rows j).map .int)):=by
 refine au [some (.list (rows.map Row.d)),some (.list ((aX rows).map .int)),some (.int (j:Int)),none,none] rfl rfl (bv (.list [.int ((j:Int)+1)]) rfl rfl (bj (cb (λk m=>∃ x,m=rwS rows j (orL rows j k) x) (bC (n:=(rows.length:Int)) (aK rfl (lenL rows)) (QQ hl (by decide):rows.length<=2 ^ 20)) rfl ⟨none,rfl⟩ λk vs m hk hI=>⟨_,(cW hk).1,?_⟩) λm h=>?_))
 ·obtain ⟨x,rfl⟩:=hI
  have hi:=(cW hk).2;have hx:=Qk hi;rw [tC rows j k hx];refine fG (f:=λl m=>∃ x,m=rwS rows j l x) (aS (ai (ag (ag rfl rfl (bI hx)) rfl (Row.i0 _)) rfl (Qf some (qh _))) (ai (ag rfl rfl (cP (d7 hi))) rfl rfl)) Iff.rfl (λZ=>bE rfl rfl rfl (by rw [lX,orL,QV,lX];exact QQ (QT (tz ..)) (QQ hi (QQ hl (by decide)))) (am ⟨_,Bj Qb⟩)) λZ=>am ⟨_,rfl⟩
 ·obtain ⟨x,rfl⟩:=h
  rw [lX,Qo,startL,Yl];exact ah rfl rfl
end
noncomputable def push(r:Row)(os:List Row):List Row:=if r.isOpen then r::os else if r.isFin then os.tail else os
noncomputable def fresh(os:List Row)(w:Str):Prop:=w ≠ ("":Str) /\ ∀ x ∈ os,x.isNamed=true->x.word ≠ w
noncomputable def V(os:List Row):Row->Prop
 | .lend w wr s=>fresh os w/\(match s with
  | .th _=>True
  | .hd u=>∃ x ∈ os,x.isNamed=true/\x.word=u/\(x.isLend=true->x.wr=false->wr=false))
 | .pick w ts=>fresh os w/\ts ≠ []/\ts.length<=5
 | .either=>True
 | .again=>True
 | .orr=>os.head?.any Row.isEither=true
 | .fin=>os ≠ []
 | .deed v w=>∃ x ∈ os,x.isLend=true/\x.word=w/\(v = .change->x.wr=true)
noncomputable def WfR:List Row->List Row->Prop
 | _,[]=>True
 | os,r::rs=>V os r/\WfR (push r os) rs
def after:List Row->List Row->List Row
 | os,[]=>os
 | os,r::rs=>after (push r os) rs
theorem jv:∀ (os a b:List Row),after os (a++b)=after (after os a) b
 | _,[],_=>rfl
 | os,r::a,b=>jv (push r os) a b
def ost(rows:List Row)(k:Nat):List Row:=(stk rows k).map λj=>rows.getD j .fin
theorem fR(rows:List Row):∀ k,k<=rows.length->ost rows k=after [] (rows.take k)
 | 0,_=>rfl
 | k+1,h=>by
  have ht:rows.take (k+1)=rows.take k++[rows[k]]:=by rw [ZU,(Qk (by exact h))];rfl
  rw [ht,jv,<- (fR rows k (by exact Qm h))];show ost rows (k+1)=push rows[k] (ost rows k);unfold ost push;rw [bH (Qk (by exact h)),stp];split
  ·simp [List.getD,(Qk (by exact h))]
  ·split
   ·rw [List.map_tail]
   ·rfl
theorem zR:∀ (rows os:List Row),WfR os rows->∀ k r,rows[k]?=some r->V (after os (rows.take k)) r
 | [],_,_,k,r,h=>by simp at h
 | x::rows,os,w,0,r,h=>by simp at h;subst h;exact w.1
 | x::rows,os,w,k+1,r,h=>zR rows (push x os) w.2 k r (by simpa using h)
theorem jw(w:WfR [] rows)(h:rows[k]?=some r):V (ost rows k) r:=by
 exact (fR rows k (by exact Qm ((Qq h).1))) ▸ (zR rows [] w k r h)
set_option tactic.hygienic true in
theorem cG(rows:List Row):∀ k j,j ∈ stk rows k->∃ pre,stk rows k=pre++j::stk rows j
 | 0,j,h=>(YJ h).elim
 | k+1,j,h=>by
  induction hr:rows[k]? with
  | some r=>
   rw [bH hr] at h ⊢;unfold stp at h ⊢;split at h
   ·rename_i ho
    rw [Ql ho];rcases Qw h with q | q
    ·subst q;exact ⟨[],rfl⟩
    ·obtain ⟨pre,e⟩:=cG rows k j q
     exact ⟨k::pre,by exact Qf _ e⟩
   ·rename_i ho
    rw [Qu ho];split at h
    ·rename_i hf
     rw [Ql hf];obtain ⟨pre,e⟩:=cG rows k j (YQ h);induction pre using lc with
     | nil=>
      exfalso
      rw [e] at h;have nd:=bw rows k;rw [e] at nd;exact (Q8.mp nd).1 h
     | cons p pre=>exact ⟨pre,by exact Qf _ e⟩
    ·rename_i hf
     exact (Qu hf) ▸ cG rows k j h
  | none=>
   have he:stk rows (k+1)=stk rows k:=by simp only [kP,hr]
   rw [he] at h ⊢;exact cG rows k j h
theorem tE{k j:Nat}(h:home rows k=(j:Int)):stk rows k=j::stk rows j:=by
 obtain ⟨pre,e⟩:=cG rows k j (ci h);induction pre using lc with
 | nil=>exact e
 | cons p pre=>
  exfalso
  unfold home at h;rw [e] at h;simp only [ZG,jt,Xx] at h;subst h;have nd:=bw rows k;rw [e] at nd;exact (Q8.mp nd).1 (by simp)
set_option tactic.hygienic true in
theorem nq(hb:Nested rows)(hj:isAt rows Row.isOpen j=true):∃ k,k < rows.length/\isAt rows Row.isFin k=true/\home rows k=(j:Int):=by
 obtain ⟨r,hr,ho⟩:∃ r,rows[j]?=some r/\r.isOpen=true:=by
  unfold isAt at hj;induction q:rows[j]? with
  | none=>rw [q] at hj;simp at hj
  | some r=>rw [q] at hj;exact ⟨r,rfl,by simpa using hj⟩
 have hjl:j < rows.length:=(Qq hr).1;have hin:j ∈ stk rows (j+1):=by rw [bH hr,stp,Ql ho];exact .head _
 have main:∀ d k,k+d=rows.length->j ∈ stk rows k->∃ k,k < rows.length/\isAt rows Row.isFin k=true/\home rows k=(j:Int):=by
  intro d;induction d with
  | zero=>
   intro k hk h;rw [show k=rows.length by exact hk,hb.bal] at h;exact (YJ h).elim
  | succ d ih=>
   intro k hk h
   by_cases h2:j ∈ stk rows (k+1)
   ·exact ih (k+1) (by exact (Z9 k d).trans hk) h2
   ·rw [bH (Qk (by exact YY (Y2 (Zm d)) hk)),stp] at h2
    split at h2
    ·exact absurd (List.mem_cons_of_mem _ h) h2
    ·split at h2
     ·rename_i hf
      refine ⟨k,by exact YY (Y2 (Zm d)) hk,by rw [bd (Qk (by exact YY (Y2 (Zm d)) hk))];exact hf,?_⟩;unfold home;induction q:stk rows k using lc with
      | nil=>rw [q] at h;exact (YJ h).elim
      | cons x l=>
       rw [q] at h h2;rcases Qw h with e | e
       ·rw [e];rfl
       ·exact absurd e h2
     ·exact absurd h h2
 exact main (rows.length - (j+1)) (j+1) (by grind) hin
theorem d8(hb:Nested rows)(hj:isAt rows Row.isOpen j=true):∃ k:Nat,endAt rows j rows.length=k/\k < rows.length/\j < k/\isAt rows Row.isFin k=true/\home rows k=(j:Int):=by
 obtain ⟨k,h1,h2,h3⟩:=nq hb hj;exact ⟨k,l6 h2 h3 _ h1,h1,fN h3,h2,h3⟩
theorem En.idx3(e:En):item e.d (.int 3)=some (.str e.s):=rfl
theorem En.idx4(e:En):item e.d (.int 4)=some (.bool e.o):=rfl
theorem zS(x y:Str):br .Eq (.str x) (.str y)=some (x == y):=rfl
theorem gt_int(x y:Int):br .Gt (.int x) (.int y)=some (decide (y < x)):=rfl
theorem jy(Φ:Str->List D->Option D)(Γ:Str->Option D)(N:Nat)(es:List En)(w:Str)(hl:es.length<=1000):runFn Φ Γ N fnis_asleep [.tuple (es.map En.d),.str w]=some (.bool (eL es w)):=by
 refine fF [some (.tuple (es.map En.d)),some (.str w)] rfl rfl (m':=[some (.tuple (es.map En.d)),some (.str w)]) ?_;refine eA (eJ ?_ rfl);rw [x_b1,bB es (λe=>[e.d]) (λe=>.bool (e.s == w&&e.o)) (jk (rfl)) (by exact QQ hl (by decide)) rfl λe Z=>?_]
 ·simp only [bX,zG,gv,mX,List.any_map,eL]
  rfl
 ·exact aS (ai (ag rfl rfl (En.idx3 e)) rfl (zS e.s w)) (ag rfl rfl (En.idx4 e))
def awk(es:List En):List En:=es.filter λe=>!(e.k == ("pick":Str))&&(e.o&&!eL es e.w)
theorem gz:∀ l:List En,ap (l.map En.d)=true:=by
 intro l;induction l with
 | nil=>rfl
 | cons e l ih=>trivial
theorem qx{l:List En}{k:Nat}{vs:List D}(h:(l.map λe=>[e.d])[k]?=some vs):∃ x,l[k]?=some x/\vs=[x.d]:=by
 rw [Qy] at h;obtain ⟨e,he,rfl⟩:=QK h;exact ⟨e,he,rfl⟩
def wkS(es l:List En)(x:Option D):St:=[some (.tuple (es.map En.d)),some (.list (l.map En.d)),x]
theorem Bk{es l l':List En}{x:Option D}{q:List D}(h:l'.map En.d=q):(wkS es l x).set 1 (some (.list q))=wkS es l' x:=h ▸ rfl
theorem qy{α:Type}{l:List α}{k:Nat}{e:α}(p:α->Bool)(h:l[k]?=some e):(l.take (k+1)).filter p=if p e=true then (l.take k).filter p++[e] else (l.take k).filter p:=by
 rw [ZU,h];show ((l.take k)++[e]).filter p=_;rw [Zw,ZF];split
 ·rfl
 ·exact Xj _
theorem tF(Φ:Str->List D->Option D)(Γ:Str->Option D)(N:Nat)(h:∀ es w,es.length<=1000->Φ "is_asleep" [.tuple (es.map En.d),.str w]=some (.bool (eL es w)))(es:List En)(hl:es.length<=1000):runFn Φ Γ N fnawake [.tuple (es.map En.d)]=some (.list ((awk es).map En.d)):=by
 refine au [some (.tuple (es.map En.d)),none,none] rfl rfl (bv (.list []) rfl rfl (bj (cb (λk m=>∃ x,m=wkS es ((es.take k).filter λe=>!(e.k == ("pick":Str))&&(e.o&&!eL es e.w)) x) (jk (es:=es) (g:=En.d) rfl) rfl ⟨none,rfl⟩ λk vs m hk hI=>?_) λm q=>?_))
 ·obtain ⟨x,rfl⟩:=hI
  obtain ⟨e,he,rfl⟩:=qx hk;refine ⟨_,rfl,?_⟩;rw [qy _ he];exact fG (f:=λl m=>∃ x,m=wkS es l x) (lQ rfl rfl (cw (af (esC rfl (esC rfl es0)) (h es e.w hl)))) Iff.rfl (λZ=>bE rfl rfl rfl (by rw [lX];exact QQ (Zz _ _) (QQ (List.length_take_le' _ _) (QQ hl (by decide)))) (am ⟨_,Bk Qb⟩)) λZ=>am ⟨_,rfl⟩
 ·obtain ⟨x,rfl⟩:=q
  rw [lX,Z8];exact ah rfl (qe rfl (gz _))
section
variable {Φ:Str->List D->Option D}{Γ:Str->Option D}{m:St}{ow:List Nat}{fr:Bool}{N:Nat}
theorem xr(h:Rt (exS Φ Γ ow fr N s m) d):Rt (exSs Φ Γ ow fr N (.cons s r) m) d:=h.elim λm' e=>⟨m',eA e⟩
theorem tG{n:Nat}{p:Nat->Bool}{f:Nat->D}{I:St->Prop}{d:D}(h:(∃ k,k < n/\p k=true/\(∀ j,j < k->p j=false)/\Rt (exS Φ Γ ow fr N s m) (f k))\/((∀ k,k < n->p k=false)/\Go (exS Φ Γ ow fr N s m) I))(hf:∀ k,f k=d) :
 (((List.range n).any p=true)->Rt (exSs Φ Γ ow fr N (.cons s .nil) m) d)/\(((List.range n).any p=false)->Go (exSs Φ Γ ow fr N (.cons s .nil) m) I):=by
 rcases h with ⟨k,h1,h2,_,h4⟩ | ⟨h1,h2⟩
 ·refine ⟨λo_=>xr (((hf k)).symm ▸ h4),λq=>?_⟩
  have:=Yd.mp q k (ZJ.mpr h1);rw [h2] at this;exact absurd rfl this
 ·refine ⟨λq=>?_,λo_=>bD h2 λm q=>am q⟩
  obtain ⟨k,hk,q⟩:=Q2.mp q;exact nF ((h1 k (ZJ.mp hk)).symm.trans q)
end
noncomputable def Row.kindS(x:Row):Str:=if x.isLend then Mine.kindS x.wr else "pick"
noncomputable def aC(held:List En)(w:Str):Option En:=held.find? λe=>e.w == w
noncomputable def En.sk(e:En):En:=⟨e.w,e.k,e.t,e.s,true⟩
def skE(h:List En)(w:Str)(wr:Bool):Src->En
 | .th i=>⟨w,Mine.kindS wr,i, "",true⟩
 | .hd u=>((aC h u).map λe=>(⟨w,Mine.kindS wr,e.t,if e.k == ("pick":Str) then "" else e.w,true⟩:En)).getD ⟨w, "",0, "",true⟩
def skR(h:List En):Row->List (List En)
 | .lend w wr s=>[h++[skE h w wr s]]
 | .pick w ts=>ts.map λt=>h++[⟨w, "pick",t, "",true⟩]
 | _=>[]
def skL:List Row->List (List En)
 | []=>[[]]
 | r::os=>(skL os).flatMap λh=>skR h r
theorem tH(q:l ∈ skR h r):l.dropLast=h:=by
 induction r with
 | lend w wr s=>rw [Qx q,Ym]
 | pick w ts=>
  obtain ⟨t,_,rfl⟩:=QG.mp q;exact Ym
 | _=>exact (YJ q).elim
theorem nr(h:List En)(u:Str):aC (h.map En.sk) u=(aC h u).map En.sk:=by
 unfold aC;exact (List.find?_map) ▸ rfl
structure HeldOk(os:List Row)(held:List En):Prop where
 mt:held.map (λe=>(e.w,e.k))=((os.filter Row.isNamed).map λx=>(x.word,x.kindS)).reverse
 pk:∀ e ∈ held,e.k=("pick":Str) -> e.o=true/\e.s=("":Str)
 nd:(held.map (·.w)).Nodup
 ne:∀ e ∈ held,e.w ≠ ("":Str)
 sk:held.map En.sk ∈ skL (os.filter Row.isNamed)
theorem HeldOk.mem{os:List Row}{held:List En}(H:HeldOk os held){x:Row}(hx:x ∈ os)(hn:x.isNamed=true):∃ e ∈ held,e.w=x.word/\e.k=x.kindS:=by
 have:(x.word,x.kindS) ∈ held.map λe=>(e.w,e.k):=by
  rw [H.mt,ZD];exact QG.mpr ⟨x,Q9.mpr ⟨hx,hn⟩,rfl⟩
 obtain ⟨e,he,q⟩:=QG.mp this;simp only [Prod.mk.injEq] at q;exact ⟨e,he,q.1,q.2⟩
theorem eU:∀ {held:List En},(held.map (·.w)).Nodup->∀ {e e':En},e ∈ held->e' ∈ held->e.w=e'.w->e=e':=by
 intro held;induction held with
 | nil=>
  intro _ _ _ h _ _;exact (YJ h).elim
 | cons x l eU=>
  intro nd e e' h h' q;rw [QX,Q8] at nd;rcases Qw h with h1 | h1
  ·rcases Qw h' with h2 | h2
   ·rw [h1,h2]
   ·clear h;subst h1;exact (nd.1 (QG.mpr ⟨e',h2,q.symm⟩)).elim
  ·rcases Qw h' with h2 | h2
   ·clear h' h;subst h2;exact (nd.1 (QG.mpr ⟨e,h1,q⟩)).elim
   ·exact eU nd.2 h1 h2 q
noncomputable def enO:Option En->D
 | some e=>e.d
 | none=>.none
theorem cj(nd:(held.map (·.w)).Nodup)(he:e ∈ held):aC held e.w=some e:=by
 unfold aC;induction q:held.find? λx=>x.w == e.w with
 | none=>
  have:=Yb.mp q e he;simp at this
 | some x=>
  rw [eU nd (YH q) he (by simpa using (List.find?_some q))]
theorem gF(b:Bool):kindS b ≠ ("pick":Str) := by
 induction b<;>(intro h;have:=(eI _ _).mp h;exact absurd this (by decide))
noncomputable def xt(a b:En):Bool:=(a.t == b.t)&&((a.k == ("write":Str))||(b.k == ("write":Str)))
def jz(hs:List En)(i j:Nat):Bool:=(hs[i]?).any λh=>(hs[j]?).any λo=>xt o h
def ip(held:List En):Bool:=(List.range (awk held).length).any λi=>(List.range i).any λj=>jz (awk held) i j
def cQ(row:Row)(held:List En):Option En:=
 match row with
 | .deed v w=>if v = .back then none else aC held w
 | .lend _ _ (.hd u)=>(aC held u).bind λe=>if e.k == ("pick":Str) then none else some e
 | _=>none
def fT(row:Row)(held:List En):Str:=
 if ip held then "beside" else match cQ row held with
  | none => ""
  | some e=>if !e.o then "empty" else if !row.isLend&&eL held e.w then "asleep" else ""
noncomputable def Row.looks:Row->Bool
 | .deed v _=>!(v == .back)
 | _=>false
theorem gG{α:Type}{p:α->Bool}:∀ {l:List α} {k:Nat},(l[k]?).any p=true->(∀ j,j < k->(l[j]?).any p=false)->l.find? p=l[k]?:=by
 intro l;induction l with
 | nil=>intro k h _;exact nF h
 | cons x l ih=>
  intro k h hf;induction k using nc with
  | zero=>
   replace h:p x=true:=h;rw [List.find?_cons,h];rfl
  | succ k=>
   refine have h0:p x=false:=hf 0 (Zm k);?_;rw [List.find?_cons,h0];exact ih h λj hj=>hf (j+1) (QU hj)
theorem jA{α:Type}{p:α->Bool}{l:List α}(h:∀ k,k < l.length->(l[k]?).any p=false):l.find? p=none:=by
 rw [Yb];intro x hx q;obtain ⟨k,hk⟩:=Z1 hx;have:=h k (Qq hk).1;rw [hk] at this;simp [q] at this
theorem zU(w a b:Str):pyIn (.str w) (.list [.str a,.str b])=some (a == w||b == w):=by
 have:=fH w [a,b]
 simpa using this
theorem qz(w a b:Str):pyIn (.str w) (.tuple [.str a,.str b])=some (a == w||b == w):=zU w a b
theorem l8(l:List D)(n:Nat)(h:n<=l.length):cut l none (some (n:Int))=l.take n:=by
 refine have hc:bM l.length (n:Int)=n:=(by
  unfold bM
  rw [Qu (by exact ZB.mpr (Zq n)),QN];exact Yr h);?_
 simp only [cut,Y9,Y0,mX,Zr,hc,List.drop_zero,Nat.sub_zero]
theorem vj{l:List En}{k:Nat}{x:En}(h:l[k]?=some x):item (.list (l.map En.d)) (.int (k:Int))=some x.d:=by
 exact p_mk (k:=k) (by have:=aN (n:=l.length) (i:=(k:Int)) (by exact QB.mpr (QF k)) (by exact QZ ((Qq h).1));simpa using this) (by rw [Qy,h];rfl)
section
variable {Φ:Str->List D->Option D}{Γ:Str->Option D}{m:St}{ow:List Nat}{fr:Bool}{N:Nat}
theorem xu{a:Ex}{lo hi:Exo}{xs:List D}{l h:Option Int}(h1:evE Φ Γ a m=some (.list xs))(h2:(evO Φ Γ lo m).bind intO=some l)(h3:(evO Φ Γ hi m).bind intO=some h):evE Φ Γ (.sl a lo hi) m=some (.list (cut xs l h)):=by
 refine byG λX_ g_=>?_;obtain ⟨o1,e1,f1⟩:=bind_some h2;obtain ⟨o2,e2,f2⟩:=bind_some h3;refine g_ ?_;rw [x_sl,h1,e1,e2,bX,bX,bX,f1,f2];rfl
theorem any1(I:St->Prop)(p:Nat->Bool)(hi:evIt Φ Γ it m=some items)(hz:cz it=false)(hlen:items.length=n)(h0:I m)
 (hs:∀ (k:Nat) (vs:List D) (m:St),items[k]?=some vs->I m->∃ x,vs=[x]/\(p k=true->Rt (exSs Φ Γ ow fr N body (m.set i (some x))) d)/\(p k=false->Go (exSs Φ Γ ow fr N body (m.set i (some x))) I)) (hJ:∀ m,I m->J m) :
 (((List.range n).any p=true)->Rt (exSs Φ Γ ow fr N (.cons (.for1 i it body) .nil) m) d)/\(((List.range n).any p=false)->Go (exSs Φ Γ ow fr N (.cons (.for1 i it body) .nil) m) J):=by
 refine have h:=ju (ow:=ow) (fr:=fr) (N:=N) (body:=body) I p (λo_=>d) hi hz h0 hs;?_;rw [hlen] at h;obtain ⟨h1,h2⟩:=tG h λo_=>rfl;exact ⟨h1,λq=>(h2 q).mono hJ⟩
end
section
variable (Φ:Str->List D->Option D)(Γ:Str->Option D)(N:Nat)
theorem kW(held:List En)(w:Str):runFn Φ Γ N fnentry_of [.tuple (held.map En.d),.str w]=some (enO (aC held w)):=by
 refine au [some (.tuple (held.map En.d)),some (.str w),none] rfl rfl ?_;dsimp only [fnentry_of];refine kT (λm=>∃ x,m=[some (.tuple (held.map En.d)),some (.str w),x]) (λk=>(held[k]?).any λe=>e.w == w) (λk=>enO held[k]?) (jk (es:=held) (g:=En.d) (rfl)) rfl ⟨none,rfl⟩ (λk vs m hk hI=>?_) (λhno m hI=>?_) (λk hk hp hf=>?_)
 ·obtain ⟨x,rfl⟩:=hI
  rw [Qy] at hk;obtain ⟨e,he,rfl⟩:=QK hk;refine ⟨_,rfl,λq=>?_,λq=>?_⟩
  ·rw [he] at q ⊢
   exact aB (x:=.bool (e.w == w)) (rfl) (by rw [dU];simpa using q) (ah rfl rfl)
  ·rw [he] at q
   exact bD (kM (Q:=λm=>∃ x,m=[some (.tuple (held.map En.d)),some (.str w),x]) (d:=.bool (e.w == w)) (rfl) (dU _) (λq'=>by simp only [Xq] at q;exact nF (q.symm.trans q')) (λo_=>am ⟨_,rfl⟩)) λm e=>am e
 ·obtain ⟨x,rfl⟩:=hI
  refine ah ?_ rfl;unfold aC;exact (jA λk hk=>hno k (by simpa using hk)) ▸ rfl
 ·exact (gG hp hf) ▸ rfl
theorem qA(h1:hs[i]?=some h)(h2:hs[j]?=some o):jz hs i j=xt o h:=by simp [jz,h1,h2]
def bdS(held hs:List En)(x:Option D × Option D):St:=[some (.tuple (held.map En.d)),some (.list (hs.map En.d)),x.1,x.2]
theorem qB(hA:∀ es:List En,es.length<=1000->Φ "awake" [.tuple (es.map En.d)]=some (.list ((awk es).map En.d)))(held:List En)(hl:held.length<=1000):runFn Φ Γ N fnbeside [.tuple (held.map En.d)]=some (.bool (ip held)):=by
 refine au [some (.tuple (held.map En.d)),none,none,none] rfl rfl (an (.list ((awk held).map En.d)) (af (esC rfl es0) (hA held hl)) rfl ?_);refine have hbl:(awk held).length<=1000:=QQ (Zz _ _) hl;?_;unfold ip;generalize awk held=hs at hbl ⊢;refine kT (λm=>∃ x,m=bdS held hs x) (λi=>(List.range i).any λj=>jz hs i j) (λo_=>.bool true) (bC (n:=(hs.length:Int)) (aK rfl (lenL hs)) (QQ hbl (by decide):hs.length<=2 ^ 20)) rfl ⟨(none,none),rfl⟩ (λi vs m hk hI=>?_) (λhno m hI=>?_) (λk hk hp Z=>?_)
 ·obtain ⟨x,rfl⟩:=hI
  have hi:=(cW hk).2;have hh:=Qk hi;refine ⟨_,(cW hk).1,any1 (λm=>∃ y,m=bdS held hs (some (.int i),y)) (λj=>jz hs i j) (bt (g:=En.d) ((xu rfl rfl rfl).trans (Qf (λl=>some (PyData.list l)) ((l8 _ _ (by rw [lX];exact Qm hi)).trans Xw.symm)))) rfl (by rw [lX,ZE];exact Yr (Qm hi)) ⟨x.2,rfl⟩ (λj vs m hj hI=>?_) λm hI=>hI.elim λy e=>⟨_,e⟩⟩;obtain ⟨y,rfl⟩:=hI;rw [Qy,List.getElem?_take] at hj;obtain ⟨o,ho,rfl⟩:=QK hj;split at ho
  case isFalse=>exact nN ho
  rw [qA hh ho];have hc:evE Φ Γ (.bool true (e2 (.cmp .Eq (xI 3 2) (.idx (.idx (.v 1) (.v 2)) (kI 2))) (.cmp .In (kS "write") (.tup (e2 (xI 3 1) (.idx (.idx (.v 1) (.v 2)) (kI 1))))))) (bdS held hs (some (.int i),some o.d))=some (.bool (xt o hs[i])):=aS (ai rfl (ag (ag rfl rfl (vj hh)) rfl rfl) rfl) (ai rfl (aJ (esC rfl (esC (ag (ag rfl rfl (vj hh)) rfl rfl) es0))) (qz ("write":Str) o.k hs[i].k));exact ⟨_,rfl,λq=>aB hc (Qf _ q) (ah rfl rfl),λq=>ce (q ▸ hc) (am ⟨some o.d,rfl⟩)⟩
 ·obtain ⟨x,rfl⟩:=hI
  rw [lX,Qo] at hno;exact ah (Qf (λb=>some (PyData.bool b)) (Yd.mpr λk hk=>YM.mp (hno k (ZJ.mp hk))).symm) rfl
 ·rw [lX,Qo] at hk
  exact Qf PyData.bool (Q2.mpr ⟨k,ZJ.mpr hk,hp⟩).symm
theorem jB(hE:∀ (held:List En) (w:Str),Φ "entry_of" [.tuple (held.map En.d),.str w]=some (enO (aC held w)))(row:Row)(held:List En)(hv:∀ w q u,row = .lend w q (.hd u)->(aC held u).isSome=true) :
 runFn Φ Γ N fnhand_used [row.d,.tuple (held.map En.d)]=some (enO (cQ row held)):=by
 refine au [some row.d,some (.tuple (held.map En.d)),none] rfl rfl ?_;induction row with
 | deed v w=>
  induction v with
  | back=>exact bg 2 rfl (ah rfl rfl)
  | look=>exact aB rfl rfl (ah (af (esC rfl (esC rfl es0)) (hE held w)) rfl)
  | change=>exact aB rfl rfl (ah (af (esC rfl (esC rfl es0)) (hE held w)) rfl)
 | lend w q s=>
  induction s with
  | th i=>exact bg 2 rfl (ah rfl rfl)
  | hd u=>
   obtain ⟨e,he⟩:=YR.mp (hv w q u rfl);have hu:cQ (.lend w q (.hd u)) held=if e.k == ("pick":Str) then none else some e:=by
    show (aC held u).bind _=_;rw [he];rfl
   have hE:=(hE held u).trans (Qf (λo=>some (enO o)) he);rw [hu];refine bg 1 rfl ?_;induction hp:(e.k == ("pick":Str)) with
   | true=>exact bj (Q':=λZ=>True) (cx (b:=true) rfl (λZ=>aU e.d (af (esC rfl (esC rfl es0)) hE) rfl (ce (ai rfl rfl (Qf (λb=>some (!b)) hp)) (am trivial))) nT) λm Z=>ah rfl rfl
   | false=>exact aB (x:=.bool true) rfl rfl (an e.d (af (esC rfl (esC rfl es0)) hE) rfl (aB (x:=.bool true) (ai rfl rfl (Qf (λb=>some (!b)) hp)) rfl (ah rfl rfl)))
 | _=>exact bg 2 rfl (ah rfl rfl)
theorem tI(hB:∀ held:List En,held.length<=1000->Φ "beside" [.tuple (held.map En.d)]=some (.bool (ip held)))
 (hU:∀ (row:Row) (held:List En),(∀ w q u,row = .lend w q (.hd u)->(aC held u).isSome=true)->Φ "hand_used" [row.d,.tuple (held.map En.d)]=some (enO (cQ row held)))
 (hS:∀ (es:List En) (w:Str),es.length<=1000->Φ "is_asleep" [.tuple (es.map En.d),.str w]=some (.bool (eL es w)))
 (rows:List Row) (k:Nat) (row:Row) (hr:rows[k]?=some row) (held:List En) (hl:held.length<=1000) (hv:∀ w q u,row = .lend w q (.hd u)->(aC held u).isSome=true) :
 runFn Φ Γ N fnfault [.list (rows.map Row.d),.tuple [.int (k:Int),.tuple (held.map En.d)]]=some (.str (fT row held)):=by
 refine au [some (.list (rows.map Row.d)),some (.tuple [.int (k:Int),.tuple (held.map En.d)]),none,none,none] rfl rfl (bp [some (.list (rows.map Row.d)),some (.tuple [.int (k:Int),.tuple (held.map En.d)]),some (.int (k:Int)),some (.tuple (held.map En.d)),none] rfl (bh (f:=PyData.str) (af (esC rfl es0) (hB held hl)) Iff.rfl (λZ=>ah rfl rfl) λZ=>an (enO (cQ row held)) (af (esC (ag rfl rfl (bI hr)) (esC rfl es0)) (hU row held hv)) rfl ?_));induction cQ row held with
 | none=>exact aB (x:=.bool true) rfl rfl (ah rfl rfl)
 | some e=>exact aW (x:=.bool false) rfl rfl (bh (f:=PyData.str) rfl Iff.rfl (λZ=>ah rfl rfl) λZ=>bh (f:=PyData.str) (aS (ai (ag (ag rfl rfl (bI hr)) rfl (Row.i0 row)) rfl (Qf (λb=>some (!b)) (ic row))) (af (esC rfl (esC rfl es0)) (hS held e.w hl))) Iff.rfl (λZ=>ah rfl rfl) λZ=>ah rfl rfl)
end
section
variable (Φ:Str->List D->Option D)(Γ:Str->Option D)(N:Nat)
end
noncomputable def hitB(g:List Str)(e:En):Bool:=(g.any λy=>y == e.w)||(g.any λy=>y == e.s)
noncomputable def En.gone(e:En):En:=⟨e.w,e.k,e.t,e.s,false⟩
def bStep(s:List Str × List En)(e:En):List Str × List En:=if hitB s.1 e then (s.1++[e.w],s.2++[e.gone]) else (s.1,s.2++[e])
def backR:List Str->List En->List En
 | _,[]=>[]
 | g,e::es=>if hitB g e then e.gone::backR (g++[e.w]) es else e::backR g es
theorem qC(x:List Str):backR x []=[]:=rfl
theorem iq(x:List Str)(e:En)(es:List En):backR x (e::es)=if hitB x e=true then e.gone::backR (x++[e.w]) es else e::backR x es:=rfl
theorem d9:∀ (l:List En) (g:List Str) (acc:List En),(l.foldl bStep (g,acc)).2=acc++backR g l:=by
 intro l;induction l with
 | nil=>
  intro g acc;simp [qC]
 | cons e l d9=>
  intro g acc;simp only [Yu,bStep,iq];split
  ·rw [d9];simp
  ·rw [d9];simp
theorem ir:∀ (l:List En) (s:List Str × List En),(l.foldl bStep s).1.length<=s.1.length+l.length/\(l.foldl bStep s).2.length=s.2.length+l.length:=by
 intro l;induction l with
 | nil=>
  intro s;exact ⟨QO _,rfl⟩
 | cons e l ir=>
  intro s;obtain ⟨h1,h2⟩:=ir (bStep s e);simp only [Yu,QV];unfold bStep at h1 h2 ⊢;split at h1<;>simp_all<;>lia
theorem ee:∀ (l:List En) (g:List Str),(backR g l).map (λe=>(e.w,e.k))=l.map λe=>(e.w,e.k):=by
 intro l;induction l with
 | nil=>
  intro _;exact rfl
 | cons e l ee=>
  intro g;rw [iq];split
  ·simp only [QX,ee];rfl
  ·simp only [QX,ee]
theorem xw:∀ (l:List En) (g:List Str),(backR g l).map En.sk=l.map En.sk:=by
 intro l;induction l with
 | nil=>intro _;rfl
 | cons e l ih=>
  intro g;rw [iq];split
  ·rw [QX,QX,ih];rfl
  ·rw [QX,QX,ih]
theorem gH(l:List En)(g:List Str):(backR g l).map (·.w)=l.map (·.w):=by
 have:=Qf (List.map Prod.fst) (ee l g)
 simpa [Yz,Function.comp_def] using this
set_option tactic.hygienic true in
theorem ef:∀ (l:List En) (g:List Str),(∀ e ∈ l,e.k=("pick":Str) -> e.s=("":Str) /\ e.w ∉ g)->("":Str) ∉ g->(l.map (·.w)).Nodup->(∀ e ∈ l,e.w ≠ ("":Str))->∀ e' ∈ backR g l,e'.k=("pick":Str) -> e' ∈ l:=by
 intro l;induction l with
 | nil=>
  intro g _ _ _ _ e' h _;simp [qC] at h
 | cons e l ef=>
  intro g hp h0 nd ne e' h hk;rw [QX,Q8] at nd;rw [iq] at h;split at h
  ·rename_i hh
   rcases Qw h with q | q
   ·subst q;exact absurd hk (λq=>by
     obtain ⟨q1,q2⟩:=hp e (.head _) q;unfold hitB at hh;rw [Ze,Q2,Q2] at hh;rcases hh with ⟨y,hy,q3⟩ | ⟨y,hy,q3⟩
     ·rw [Q5] at q3;subst q3;exact q2 hy
     ·rw [Q5] at q3;subst q3;rw [q1] at hy;exact h0 hy)
   ·refine .tail _ (ef (g++[e.w]) (λf hf hfk=>?_) ?_ nd.2 (λf hf=>ne f (.tail _ hf)) e' q hk)
    ·refine ⟨((hp f (.tail _ hf) hfk).1),λz=>?_⟩
     rcases QY z with z | z
     ·exact ((hp f (.tail _ hf) hfk).2) z
     ·rw [ZV] at z
      exact nd.1 (QG.mpr ⟨f,hf,z⟩)
    ·intro z
     rcases QY z with z | z
     ·exact h0 z
     ·rw [ZV] at z
      exact ne e (.head _) z.symm
  ·rcases Qw h with q | q
   ·clear h;subst q;exact .head _
   ·exact .tail _ (ef g (λf hf=>hp f (.tail _ hf)) h0 nd.2 (λf hf=>ne f (.tail _ hf)) e' q hk)
theorem HeldOk.back{os:List Row}{held:List En}(H:HeldOk os held){e:En}(he:e ∈ held)(hk:e.k ≠ ("pick":Str)):HeldOk os (backR [e.w] held):=by
 refine ⟨by rw [ee];exact H.mt,?_,by rw [gH];exact H.nd,?_,by rw [xw];exact H.sk⟩
 ·intro f hf hfk
  exact H.pk f (ef held [e.w] (λx hx hxk=>⟨(H.pk x hx hxk).2,λz=>by
   rw [ZV] at z;have:=eU H.nd hx he z;subst this
   exact hk hxk⟩) (λz=>by rw [ZV] at z;exact H.ne e he z.symm) H.nd H.ne f hf hfk) hfk
 ·intro f hf
  have:f.w ∈ (backR [e.w] held).map (·.w):=QG.mpr ⟨f,hf,rfl⟩;rw [gH] at this;obtain ⟨x,hx,q⟩:=QG.mp this;exact q ▸ H.ne x hx
def gI(held:List En)(w:Str)(wr:Bool):Src->List En
 | .th i=>held++[⟨w,kindS wr,i, "",true⟩]
 | .hd u=>match aC held u with
  | some e=>held++[⟨w,kindS wr,e.t,if e.k == ("pick":Str) then "" else e.w,e.o⟩]
  | none=>held
section
variable (Φ:Str->List D->Option D)(Γ:Str->Option D)(N:Nat)
end
noncomputable def Row.isAgain:Row->Bool
 | .again=>true
 | _=>false
def bJ(rows:List Row)(k:Nat)(row:Row)(held:List En)(c:Int):Nat × List En:=
 match row with
 | .lend w q s=>(k+1,gI held w q s)
 | .pick w ts=>(k+1,held++[⟨w, "pick",ts.getD (c.fmod ts.length).toNat 0, "",true⟩])
 | .deed v w=>(k+1,if v = .back then backR [w] held else held)
 | .either=>(((startL rows k).getD (c.fmod (startL rows k).length).toNat 0).toNat,held)
 | .orr=>((endAt rows (home rows k).toNat rows.length).toNat,held)
 | .again=>if c.fmod 2=0 then ((endAt rows k rows.length).toNat+1,held) else (k+1,held)
 | .fin=>if isAt rows Row.isAgain (home rows k).toNat then ((home rows k).toNat,held) else if isAt rows Row.isEither (home rows k).toNat then (k+1,held) else (k+1,held.dropLast)
theorem tJ(rows:List Row)(k:Nat)(held:List En)(c:Int)(w:Str)(q:Bool)(s:Src):bJ rows k (Row.lend w q s) held c=(k+1,gI held w q s):=rfl
theorem tK(rows:List Row)(k:Nat)(held:List En)(c:Int)(w:Str)(ts:List Int):bJ rows k (Row.pick w ts) held c=(k+1,held++[(⟨w, "pick",ts.getD (c.fmod ts.length).toNat 0, "",true⟩:En)]):=rfl
theorem l9(rows:List Row)(k:Nat)(held:List En)(c:Int):bJ rows k Row.either held c=(((startL rows k).getD (c.fmod ↑(startL rows k).length).toNat 0).toNat,held):=rfl
theorem mc(rows:List Row)(k:Nat)(held:List En)(c:Int):bJ rows k Row.orr held c=((endAt rows (home rows k).toNat rows.length).toNat,held):=rfl
theorem md(rows:List Row)(k:Nat)(held:List En)(c:Int):bJ rows k Row.again held c=if c.fmod 2=0 then ((endAt rows k rows.length).toNat+1,held) else (k+1,held):=rfl
theorem me(rows:List Row)(k:Nat)(held:List En)(c:Int):bJ rows k Row.fin held c=if isAt rows Row.isAgain (home rows k).toNat=true then ((home rows k).toNat,held) else if isAt rows Row.isEither (home rows k).toNat=true then (k+1,held) else (k+1,held.dropLast):=rfl
theorem HeldOk.congr{os os':List Row}{held:List En}(H:HeldOk os held)(h:os'.filter Row.isNamed=os.filter Row.isNamed):HeldOk os' held:=⟨by rw [h];exact H.mt,H.pk,H.nd,H.ne,by exact h ▸ H.sk⟩
theorem HeldOk.mem'{os:List Row}{held:List En}(H:HeldOk os held){e:En}(he:e ∈ held):∃ x ∈ os,x.isNamed=true/\x.word=e.w/\x.kindS=e.k:=by
 refine have:(e.w,e.k) ∈ held.map λe=>(e.w,e.k):=QG.mpr ⟨e,he,rfl⟩;?_;rw [H.mt,ZD] at this;obtain ⟨x,hx,q⟩:=QG.mp this;rw [Q9] at hx;simp only [Prod.mk.injEq] at q;exact ⟨x,hx.1,hx.2,q.1,q.2⟩
theorem HeldOk.push{os:List Row}{held:List En}(H:HeldOk os held){row:Row}(hn:row.isNamed=true){e:En}(h1:e.w=row.word)(h2:e.k=row.kindS)(h3:e.k=("pick":Str) -> e.o=true/\e.s=("":Str))(hf:fresh os row.word)(h4:held.map En.sk++[e.sk] ∈ skR (held.map En.sk) row):HeldOk (row::os) (held++[e]):=by
 refine ⟨?_,?_,?_,?_,?_⟩
 ·refine have hrw:(row::os).filter Row.isNamed=row::os.filter Row.isNamed:=(by rw [ZF,Ql hn]);?_
  rw [hrw,Qb,H.mt];simp [h1,h2]
 ·intro x hx hk
  rcases QY hx with q | q
  ·exact H.pk x q hk
  ·rw [ZV] at q;clear h2;subst q;exact h3 hk
 ·rw [Qb,YI]
  refine ⟨H.nd,by simp,λa ha b hb q=>?_⟩;rw [QX,List.map_nil,ZV] at hb;obtain ⟨x,hx,rfl⟩:=QG.mp ha;obtain ⟨y,hy,hyn,hyw,_⟩:=H.mem' hx;exact hf.2 y hy hyn (by rw [hyw,q,hb,h1])
 ·intro x hx
  rcases QY hx with q | q
  ·exact H.ne x q
  ·rw [ZV] at q;clear hx h3 h2;subst q;exact h1 ▸ hf.1
 ·rw [ZF,Ql hn,Qb]
  exact List.mem_flatMap.mpr ⟨_,H.sk,h4⟩
theorem HeldOk.pop{os:List Row}{held:List En}{row:Row}(H:HeldOk (row::os) held)(hn:row.isNamed=true):HeldOk os held.dropLast:=by
 refine ⟨?_,λe he=>H.pk e ((ZR held).subset he),H.nd.sublist ((ZR held).map _),λe he=>H.ne e ((ZR held).subset he),?_⟩
 rotate_left
 ·have:=H.sk
  rw [ZF,Ql hn] at this;obtain ⟨h,h1,h2⟩:=List.mem_flatMap.mp this;exact Zu ▸ (tH h2) ▸ h1
 have:=Qf List.dropLast H.mt;rw [ZF,Ql hn,QX,Z0,Ym] at this;rw [<- this,Zu]
theorem iu(h:rows[k]?=some r):ost rows (k+1)=push r (ost rows k):=by
 unfold ost;rw [bH h,stp];unfold push;split
 ·simp [List.getD,h]
 ·split
  ·rw [List.map_tail]
  ·rfl
theorem cR{k j:Nat}(h:home rows k=(j:Int)):ost rows k=rows.getD j .fin::ost rows j:=by
 unfold ost;exact Qf _ (tE h)
theorem kX(h:k<=rows.length):(ost rows k).length<=rows.length:=by
 unfold ost;rw [lX];exact QQ (kU rows k) h
theorem HeldOk.len{os:List Row}{held:List En}(H:HeldOk os held):held.length<=os.length:=by
 have:=Qf List.length H.mt;simp only [lX,Z5] at this;exact this ▸ Zz _ _
theorem eV(h:ost rows k ≠ []):∃ j:Nat,home rows k=(j:Int):=by
 rcases qu rows k with q | ⟨j,q,_⟩
 ·exfalso
  unfold home at q;induction hs:stk rows k using lc with
  | nil=>exact h (by unfold ost;exact Qf _ hs)
  | cons x l=>rw [hs] at q;simp only [jt] at q;exact (nomatch (q:Int.ofNat x=Int.negSucc 0))
 ·exact ⟨j,q⟩
theorem be{rows:List Row}{j:Nat}(hj:j < rows.length):rows[j]?=some (rows.getD j .fin):=by
 rw [Qk hj];simp [List.getD,Qk hj]
theorem fU{k i:Nat}{x:Int}(h:(startL rows k)[i]?=some x):x=(k:Int)+1\/∃ j:Nat,x=(j:Int)+1/\j < rows.length/\isAt rows Row.isOr j=true/\home rows j=(k:Int):=by
 unfold startL at h;induction i using nc with
 | zero=>simp at h;exact .inl h.symm
 | succ i=>
  rw [gX,Qy] at h;obtain ⟨j,hj,rfl⟩:=QK h;have:=Qa hj;rw [Q9,ZJ,Qj,Q5] at this;exact .inr ⟨j,rfl,this.1,this.2.1,this.2.2⟩
theorem mf(rows:List Row)(k:Nat)(c:Int):∃ x,(startL rows k)[(c.fmod (startL rows k).length).toNat]?=some x/\item (.list ((startL rows k).map .int)) (.int (c.fmod (startL rows k).length))=some (.int x):=by
 refine have hp:0 < (startL rows k).length:=(by simp [startL]);?_;refine have f2:=(aw c (b:=((startL rows k).length:Int)) (by exact QZ hp));?_;refine have hlt:(c.fmod (startL rows k).length).toNat < (startL rows k).length:=(by exact (Z2 (ar c (QZ hp))).mpr f2);?_;refine ⟨_,Qk hlt,?_⟩;exact p_mk (k:=(c.fmod (startL rows k).length).toNat) (aN (ar c (b:=((startL rows k).length:Int)) (by exact QZ hp)) (by simpa using f2)) (by rw [Qy,Qk hlt];rfl)
theorem bz{row:Row}{os:List Row}(h:row.isNamed=false):(row::os).filter Row.isNamed=os.filter Row.isNamed:=by rw [ZF,h];rfl
noncomputable def HO(rows:List Row)(p:Nat × List En):Prop:=HeldOk (ost rows p.1) p.2
theorem xx{rows:List Row}(nd:Nested rows)(wf:WfR [] rows){k:Nat}{row:Row}(hr:rows[k]?=some row){held:List En}(H:HeldOk (ost rows k) held)(c:Int):HO rows (bJ rows k row held c):=by
 have hk:k < rows.length:=(Qq hr).1;have hv:=jw wf hr;have hs:=iu hr;induction row with
 | lend w q s=>
  have hp:∀ (t:Int) (sr:Str) (o:Bool),(⟨w,kindS q,t,sr,true⟩:En)=skE (held.map En.sk) w q s->HO rows (k+1,held++[⟨w,kindS q,t,sr,o⟩]):=λt sr o z=>(hs ▸ H.push rfl rfl rfl (λz=>absurd z (gF q)) hv.1 (ZV.mpr (z ▸ rfl)):HeldOk (ost rows (k+1)) _)
  induction s with
  | th i=>exact hp _ _ _ rfl
  | hd u=>
   obtain ⟨_,x,hx,hn,hu,_⟩:=hv;obtain ⟨e,he,hw,_⟩:=H.mem hx hn;have this:aC held u=some e:=hu ▸ hw ▸ cj H.nd he;refine (?_:HO rows (k+1,gI held w q (.hd u)));rw [gI,this];exact hp _ _ _ (by show _=((aC (held.map En.sk) u).map _).getD _;rw [nr,this];rfl)
 | pick w ts=>
  have hp:0 < ts.length:=List.length_pos_iff.mpr hv.2.1;have hlt:(c.fmod ts.length).toNat < ts.length:=(Z2 (ar c (QZ hp))).mpr (aw c (QZ hp));refine (?_:HeldOk (ost rows (k+1)) _);rw [hs];refine H.push rfl rfl rfl (λo_=>⟨rfl,rfl⟩) hv.1 (QG.mpr ⟨_,?_,rfl⟩);exact (Zn) ▸ (Qk hlt) ▸ Y4 hlt
 | deed v w=>
  refine (?_:HeldOk (ost rows (k+1)) (if v = .back then backR [w] held else held));rw [hs];split
  ·obtain ⟨x,hx,hl,hu,_⟩:=hv
   obtain ⟨e,he,hw,hkk⟩:=H.mem hx (gw hl);exact hu ▸ hw ▸ H.back he (by rw [hkk];unfold Row.kindS;exact (Ql hl) ▸ gF _)
  ·exact H
 | either=>
  obtain ⟨x,e1,_⟩:=mf rows k c;rw [l9,List.getD,e1];clear wf;rcases fU e1 with rfl | ⟨j,rfl,hj,ho,hh⟩
  ·exact (hs ▸ H.congr (bz rfl):HeldOk (ost rows (k+1)) held)
  ·have ho:(rows.getD j .fin).isOr=true:=(bd (be hj) Row.isOr) ▸ ho
   have hpush:push (rows.getD j .fin) (ost rows j)=ost rows j:=by
    generalize rows.getD j .fin=y at ho ⊢;induction y<;>first | rfl | exact nF ho
   refine (?_:HeldOk (ost rows (j+1)) held);rw [iu (be hj),hpush,cR hh,show rows.getD k .fin = .either by rw [List.getD,hr];rfl];exact H.congr (bz rfl)
 | again=>
  rw [md];split
  ·obtain ⟨e,he,hel,hke,hfe,hhe⟩:=d8 nd (j:=k) (by rw [bd hr];rfl)
   rw [he];have hf:(rows.getD e .fin).isFin=true:=(bd (be hel) Row.isFin) ▸ hfe;have hpush:∀ os,push (rows.getD e .fin) os=os.tail:=λos=>by
    generalize rows.getD e .fin=y at hf ⊢;induction y<;>first | rfl | exact nF hf
   refine (?_:HeldOk (ost rows (e+1)) held);rw [iu (be hel),hpush,cR hhe];exact H
  ·exact (hs ▸ H.congr (bz rfl):HeldOk (ost rows (k+1)) held)
 | orr=>
  obtain ⟨j,hj⟩:=eV λq=>nF (q ▸ hv:([]:List Row).head?.any Row.isEither=true);obtain ⟨e,he,hel,hje,hfe,hhe⟩:=d8 nd (ch rows k j (ci hj));rw [mc,hj,QN,he];exact ((cR hhe) ▸ (cR hj) ▸ H:HeldOk (ost rows e) held)
 | fin=>
  obtain ⟨j,hj⟩:=eV (show ost rows k ≠ [] from hv);have hrj:=be (rows:=rows) (j:=j) (Za (fN hj) hk);have hoj:=ch rows k j (ci hj);have hs':ost rows (k+1)=ost rows j:=by rw [hs,cR hj];rfl
  rw [cR hj] at H;rw [me,hj,QN,bd hrj,bd hrj];rw [bd hrj] at hoj;generalize rows.getD j .fin=y at H hoj;induction y with
  | again=>exact (H.congr (bz rfl).symm:HeldOk (ost rows j) held)
  | either=>exact (hs' ▸ H.congr (bz rfl).symm:HeldOk (ost rows (k+1)) held)
  | lend=>exact (hs' ▸ H.pop rfl:HeldOk (ost rows (k+1)) held.dropLast)
  | pick=>exact (hs' ▸ H.pop rfl:HeldOk (ost rows (k+1)) held.dropLast)
  | _=>exact nF hoj
def stD(p:Nat × List En):D:=.tuple [.int (p.1:Int),.tuple (p.2.map En.d)]
set_option tactic.hygienic true in
theorem qD(r:Row):(r.tag == ("again":Str))=r.isAgain:=by
 induction r<;>first | rfl | (rename_i v w;induction v<;>rfl)
noncomputable def Row.chooses:Row->Bool
 | .pick ..=>true
 | .either=>true
 | .again=>true
 | _=>false
set_option tactic.hygienic true in
theorem kY(r:Row):(["pick", "either", "again"].any λy=>Str.ofString y == r.tag)=r.chooses:=by
 induction r<;>first | rfl | (rename_i v w;induction v<;>rfl)
theorem nu(r:Row):pyIn (.str r.tag) (.list [.str "pick",.str "either",.str "again"])=some r.chooses:=by
 rw [<- kY];exact fH r.tag (["pick", "either", "again"].map Str.ofString)
theorem tL(l:List D):cut l none (some (-1))=l.dropLast:=by
 have hc:bM l.length (-1)=l.length - 1:=by unfold bM;rw [Ql (by decide)];exact dI l.length (by decide)
 simp only [cut,Y9,Y0,mX,Zr,hc,List.drop_zero,Nat.sub_zero];rw [Xk]
section
variable {Φ:Str->List D->Option D}{Γ:Str->Option D}{m:St}{ow:List Nat}{fr:Bool}{N:Nat}
theorem zV(I:Nat->St->Prop)(hs:∀ n m,I n m->∃ b,(evE Φ Γ c m).bind truth=some b/\(b=false->Q m)/\(b=true->Go (exSs Φ Γ ow fr N body m) (λm'=>∃ n',n' < n/\I n' m')))(n:Nat)(m:St)(hn:n < N)(h:I n m):Go (exS Φ Γ ow fr N (.wh c body) m) Q:=by
 have main:∀ (f n:Nat) (m:St),n < f->I n m->Go (whL (λm=>(evE Φ Γ c m).bind truth) (λm=>exSs Φ Γ ow fr N body m) f m) Q:=by
  intro f;induction f with
  | zero=>intro n m h _;exact absurd h (ZY n)
  | succ f ih=>
   intro n m hf h;obtain ⟨b,h1,h2,h3⟩:=hs n m h;induction b with
   | false=>exact ⟨m,by simp only [vG,h1],h2 rfl⟩
   | true=>
    refine byG λX_ g_=>?_;obtain ⟨m1,e1,n',hn',hI⟩:=h3 rfl;obtain ⟨m2,e2,hQ⟩:=ih n' m1 (by exact Qe hn' (Q7 hf)) hI;refine g_ ?_;exact ⟨m2,by simp only [vG,h1,e1];exact e2,hQ⟩
 have:=main N n m hn h;have hex:exS Φ Γ ow fr N (.wh c body) m=whL (λm=>(evE Φ Γ c m).bind truth) (λm=>exSs Φ Γ ow fr N body m) N m:=by rfl
 rw [hex];exact this
end
section
variable (Φ:Str->List D->Option D)(Γ:Str->Option D)(N:Nat)
theorem qE(p:Nat × List En):noList (stD p)=true:=by simp [stD,nl_t,nl_i,ns_n,ns_c,gz]
noncomputable def StOk(rows:List Row)(p:Nat × List En):Prop:=p.1 < rows.length/\HeldOk (ost rows p.1) p.2
end
noncomputable def WordOk(w:Str):Prop:=1<=w.length/\w.length<=12/\∀ c ∈ w.cps.toList,97<=c/\c < 123
noncomputable def ThOk(i:Int):Prop:=0<=i/\i<=999999999
noncomputable def Src.Ok:Src->Prop
 | .th i=>ThOk i
 | .hd u=>WordOk u
noncomputable def Row.Ok:Row->Prop
 | .lend w _ s=>WordOk w/\s.Ok
 | .pick w ts=>WordOk w/\1<=ts.length/\ts.length<=5/\∀ t ∈ ts,ThOk t
 | .deed _ w=>WordOk w
 | _=>True
theorem Row.Ok.word{r:Row}(h:r.Ok)(hn:r.isNamed=true):WordOk r.word:=by
 induction r<;>first | exact h.1 | exact nF hn
theorem mh(a:Int):ThOk (a.fmod 1000000000):=by
 have h1:=ar a (b:=1000000000) (by decide);have h2:=aw a (b:=1000000000) (by decide);exact ⟨h1,by exact Int.le_of_lt_add_one h2⟩
theorem eW(c b:Int):ThOk (thingOf c b):=by
 unfold thingOf;split
 ·exact mh _
 ·exact mh _
theorem mi{i:Int}(h0:0<=i)(h1:i < 26):97<=ltr i/\ltr i < 123:=by unfold ltr;exact ⟨QI _ _,Nat.add_lt_add_left ((Z2 h0).mpr h1) 97⟩
theorem dC{r:Dr}(ok:r.Ok)(one two:Int){deep:Nat}(hd:deep < 12):WordOk (wordOf one two deep r):=by
 have z1:=ok.z1;have z2:=ok.z2;unfold wordOf WordOk;rw [kN];unfold qf;split
 ·refine ⟨by rw [Yv];(exact Nat.succ_le_of_lt (Zm deep)),by rw [Yv];(exact hd),λc hc=>?_⟩
  have:=List.eq_of_mem_replicate (show c ∈ List.replicate _ _ from hc);exact this ▸ mi ok.t1 ok.t2
 ·refine ⟨by rw [lX,Qo];exact (Int.le_toNat (Qt (by decide) z1)).mpr z1,by rw [lX,Qo];exact Zo.mpr z2,λc hc=>?_⟩
  obtain ⟨k,_,rfl⟩:=QG.mp (show c ∈ List.map _ _ from hc);split
  ·exact (λa=>mi (ar a (by decide)) (aw a (by decide))) _
  ·split
   ·exact (λa=>mi (ar a (by decide)) (aw a (by decide))) _
   ·exact mi (by exact Qt (by decide) z1) (by exact QH z2 (by decide))
set_option tactic.hygienic true in
theorem qF{r:Dr}(ok:r.Ok)(one two:Int){named:List Row}(hn:∀ x ∈ named,x.Ok/\x.isNamed=true)(hl:named.length < 12):(bG one two named r).Ok:=by
 unfold bG;split
 ·split
  ·rename_i h e
   exact ⟨(dC ok one two hl),((hn _ (Qa e)).1).word ((hn _ (Qa e)).2)⟩
  ·exact ⟨(dC ok one two hl),eW _ _⟩
 ·exact ⟨(dC ok one two hl),eW _ _⟩
theorem zW{r:Dr}(ok:r.Ok)(way one two:Int){opened:List Row}(hn:∀ x ∈ opened,x.Ok)(hll:(opened.filter Row.isNamed).length < 12):(rowOf way one two opened r).Ok:=by
 have hnm:∀ x ∈ opened.filter Row.isNamed,x.Ok/\x.isNamed=true:=λx hx=>⟨hn x (Q9.mp hx).1,(Q9.mp hx).2⟩
 refine iteP (qF ok one two hnm hll) (iteP ⟨dC ok one two hll,?_,?_,λt ht=>?_⟩ (iteP (iteP ⟨⟩ ⟨⟩) (iteP ⟨⟩ (iteP ?_ (iteP ⟨⟩ (qF ok one two hnm hll))))))
 ·rw [lX,Qo];exact (Int.le_toNat (Qt (by decide) (QR (ar one (by decide))))).mpr (QR (ar one (by decide)))
 ·rw [lX,Qo];exact Zo.mpr (Qt (ZC (YX 1 _)) (aw one (by decide)))
 ·obtain ⟨k,_,rfl⟩:=QG.mp ht
  exact eW _ _
 ·unfold dX
  split
  ·rename_i h
   exact (hnm _ (Q9.mp (Qa h)).1).1.word (hnm _ (Q9.mp (Qa h)).1).2
  ·trivial
theorem zX(one two th:Int){a b c:Str}(ha:WordOk a)(hb:WordOk b)(hc:WordOk c)(ht:ThOk th):∀ x ∈ gad one two a b c th,x.Ok:=
 let P:List Row->Prop:=λl=>∀ x ∈ l,x.Ok
 have m1:=mh (th+1);have m2:=mh (th+2);have f2:P [.fin,.fin]:=mC ⟨⟩ (mC ⟨⟩ mN);have f3:P [.fin,.fin,.fin]:=mC ⟨⟩ f2
 iteP (P:=P) (iteP (P:=P) (mC ⟨ha,ht⟩ (mC ⟨⟩ (mC ha (mC ha f2)))) (iteP (P:=P) (mC ⟨ha,ht⟩ (mC ⟨⟩ (mC ha (mC ⟨⟩ (mC ha (mC ⟨⟩ (mC ha (mC ⟨⟩ mN)))))))) (iteP (P:=P) (mC ⟨ha,ht⟩ (mC ⟨hb,ha⟩ (mC ⟨hc,hb⟩ (mC (iteP ha (iteP hb ha):WordOk (three two a b a)) (mC (iteP hc (iteP hc hb):WordOk (three one c c b)) f3))))) (mC ⟨ha,ht⟩ (mC ⟨hb,ha⟩ (mC ⟨hc,ht⟩ (mC ⟨⟩ (mC hb (mC ⟨⟩ f3)))))))))
 (iteP (P:=P) (mC ⟨hc,ZO rfl,ZO rfl,mC ht (mC ht (mC m1 (mC m1 (mC m2 mN))))⟩ (mC ⟨ha,(iteP ht (iteP m1 m2):ThOk (three two th _ _))⟩ (mC ⟨hb,hc⟩ f3)))
 (iteP (P:=P) (mC ⟨ha,ht⟩ (mC ⟨hb,ha⟩ (mC ⟨⟩ (mC (iteP hb ha:WordOk (if kd two then b else a)) (mC ⟨⟩ (mC hb (mC ⟨⟩ (mC ha f2))))))))
 (iteP (P:=P) (mC ⟨ha,m1⟩ (mC ⟨hb,ht⟩ (mC ⟨hc,ht⟩ (mC hb f3))))
 (iteP (P:=P) (mC ⟨ha,ht⟩ (mC ha (mC ⟨hb,ha⟩ (mC hb f2)))) (mC ⟨hc,ZO rfl,ZO rfl,mC m1 (mC ht mN)⟩ (mC ⟨ha,ht⟩ (mC ⟨⟩ (mC ha (mC ⟨⟩ (mC ⟨⟩ (mC ⟨hb,hc⟩ (mC ha f3))))))))))))
noncomputable def Row.isPk:Row->Bool
 | .pick ..=>true
 | _=>false
theorem cnt2(l:List Row):((l.filter Row.isNamed).filter Row.isLend).length=(l.filter Row.isLend).length/\(l.filter Row.isNamed).length=(l.filter Row.isLend).length+(l.filter Row.isPk).length:=by
 induction l with
 | nil=>exact ⟨rfl,rfl⟩
 | cons r l ih=>
  induction r with
  | lend=>exact ⟨Qf (· + 1) ih.1,(Qf (· + 1) ih.2).trans (Z9 _ _).symm⟩
  | pick=>exact ⟨ih.1,Qf (· + 1) ih.2⟩
  | _=>exact ih
noncomputable def Few(l:List Row):Prop:=(l.filter Row.isLend).length<=6/\(l.filter Row.isPk).length<=3
theorem Few.named{l:List Row}(h:Few l):(l.filter Row.isNamed).length < 12:=by
 have:=(cnt2 l).2;have h1:=h.1;have h2:=h.2;exact Qh (QQ (Zd this) (QC h1 h2)) (by decide)
theorem Few.drop{l:List Row}(h:Few l):Few l.dropLast:=⟨QQ ((ZR l).filter _).length_le h.1,QQ ((ZR l).filter _).length_le h.2⟩
theorem Few.lend{l:List Row}(h:Few l)(h6:(l.filter Row.isLend).length < 6){r:Row}(hr:r.isLend=true):Few (l++[r]):=by
 induction r<;>first | cases hr | skip
 exact ⟨by rw [Zw,QW];exact h6,by rw [Zw,QW];exact h.2⟩
theorem Few.pick{l:List Row}(h:Few l)(h3:(l.filter Row.isPk).length < 3){w:Str}{ts:List Int}:Few (l++[.pick w ts]):=⟨by rw [Zw,QW];exact h.1,by rw [Zw,QW];exact h3⟩
theorem Few.oth{l:List Row}(h:Few l){r:Row}(h1:r.isNamed=false):Few (l++[r]):=by
 induction r<;>first | exact nT h1 | exact ⟨by rw [Zw,QW];exact h.1,by rw [Zw,QW];exact h.2⟩
theorem xy{r:Dr}(way one two:Int){opened:List Row}(h:Few opened):(rowOf way one two opened r).isOpen=true->Few (opened++[rowOf way one two opened r]):=by
 have c1:=(cnt2 opened).1;have c2:=(cnt2 opened).2
 let P:Row->Prop:=λy=>y.isOpen=true->Few (opened++[y])
 refine iteD (P:=P) (λp Z=>h.lend (c1 ▸ p.2) (cf ..)) λZ=>iteD (P:=P) (λp Z=>h.pick ?_) λZ=>iteD (P:=P) (λZ=>iteP (P:=P) (λZ=>h.oth rfl) λZ=>h.oth rfl) λZ=>iteD (P:=P) (λZ z=>nF z) λZ=>iteD (P:=P) (λZ z=>nT (z.symm.trans (tm ..))) λZ=>iteD (P:=P) (λZ z=>nF z) λp Z=>h.lend (Qh (Zz _ _) (Qh (YZ p) (by decide))) (cf ..);have:=p.2;rw [c1,c2,Int.natCast_add,YX,Int.add_sub_cancel] at this;exact Q0.mp this
set_option tactic.hygienic true in
theorem iw{r:Dr}(ok:r.Ok)(odd:Bool)(most:Int)(c:Nat->Int)(k:Nat):(∀ x ∈ (sheetAt odd most r c k).1,x.Ok)/\(∀ x ∈ (sheetAt odd most r c k).2,x.Ok)/\Few (sheetAt odd most r c k).2:=by
 induction k with
 | zero=>exact ⟨(λx hx=>by exact (YJ hx).elim),(λx hx=>by exact (YJ hx).elim),QF _,QF _⟩
 | succ k ih=>
  show (∀ x ∈ (sheetStep odd most r (c (3 * k)) (c (3 * k+1)) (c (3 * k+2)) (sheetAt odd most r c k)).1,x.Ok)/\(∀ x ∈ (sheetStep odd most r (c (3 * k)) (c (3 * k+1)) (c (3 * k+2)) (sheetAt odd most r c k)).2,x.Ok)/\Few (sheetStep odd most r (c (3 * k)) (c (3 * k+1)) (c (3 * k+2)) (sheetAt odd most r c k)).2;generalize sheetAt odd most r c k=s at ih;unfold sheetStep;split
  ·rename_i h
   have h3:=h.2.2;refine ⟨λx hx=>?_,ih.2⟩;rcases QY hx with q | q
   ·exact ih.1 x q
   ·exact zX _ _ _ (dC ok _ _ (by exact Za h3 (by decide))) (dC ok _ _ (by exact Qe (QU h3) (by decide))) (dC ok _ _ (by exact Qe (QU (QU h3)) (by decide))) (eW _ _) x q
  ·have hr:=zW ok ((c (3 * k)).fmod most) (c (3 * k+1)) (c (3 * k+2)) ih.2.1 ih.2.2.named
   have hf:=xy (r:=r) ((c (3 * k)).fmod most) (c (3 * k+1)) (c (3 * k+2)) ih.2.2;generalize rowOf ((c (3 * k)).fmod most) (c (3 * k+1)) (c (3 * k+2)) s.2 r=x at hr hf;refine ⟨λy hy=>(QY hy).elim (ih.1 y) λq=>Qx q ▸ hr,?_⟩;induction ho:x.isOpen with
   | true=>exact ⟨λy hy=>(QY hy).elim (ih.2.1 y) λq=>Qx q ▸ hr,hf ho⟩
   | false=>
    induction hi:x.isFin with
    | true=>exact ⟨λy hy=>ih.2.1 y ((ZR _).subset hy),ih.2.2.drop⟩
    | false=>exact ih.2
theorem tM(ns:List Int)(most:Int):∀ x ∈ drawnOf ns most,x.Ok:=by
 have h1:∀ x ∈ onceOf ns most,x.Ok:=λx hx=>by
  rcases QY (show x ∈ _++_ from hx) with q | q
  ·exact (iw (jo ns) _ _ _ _).1 x q
  ·obtain ⟨_,_,rfl⟩:=QG.mp q
   trivial
 intro x hx;unfold drawnOf at hx;split at hx
 ·simp only [Ys] at hx
  rcases hx with ((q | q) | q) | q<;>exact h1 x q
 ·exact h1 x hx
inductive Any | row (r:Row) | odd (d:D)
noncomputable def Any.d:Any->D
 | .row r=>r.d
 | .odd d=>d
noncomputable def oddL:List D:=[.tuple [.str "lend",.str "abcdefghijklm",.str "read",.int 1],.tuple [.str "lend",.str "a",.str "write",.int (-1)],.tuple [.str "lend",.str "a",.str "read",.int 1000000000],
 .tuple [.str "pick",.str "a",.tuple [.int 1,.int 2,.int 3,.int 4,.int 5,.int 6]],.none,.int 5,.str "end",.list [.str "end"],.tuple [],.tuple [.str "end",.int 1],.tuple [.str "either",.str "a"],
 .tuple [.str "stop"],.tuple [.bool true],.tuple [.none],.tuple [.str "lend",.str "a",.str "read"],.tuple [.str "lend",.str "a",.str "reads",.int 1],
 .tuple [.str "lend",.str "aB",.str "read",.int 1],.tuple [.str "lend",.str "",.str "read",.int 1],.tuple [.str "lend",.str "a",.str "read",.bool true],
 .tuple [.str "lend",.str "a",.str "read",.none],.tuple [.str "pick",.str "a",.tuple []],.tuple [.str "pick",.str "a",.list [.int 1]],.tuple [.str "or",.int 1],.tuple [.str "again",.int 1],
 .tuple [.str "pick",.str "a",.tuple [.int 1,.int (-1)]],.tuple [.str "look"],.tuple [.str "look",.int 5],.tuple [.str "lend",.str "a",.str "read",.str "aB"],
 .tuple [.str "lend",.str "a",.str "write",.str ""],.tuple [.str "lend",.str "a",.str "read",.str "abcdefghijklm"],.tuple [.str "pick",.str "a",.tuple [.int 0,.bool true]],
 .tuple [.str "pick",.str "a",.tuple [.int 1000000000]],.tuple [.str "pick",.str "a",.tuple [.int 1,.str "b"]],.tuple [.str "pick",.str "aB",.tuple [.int 1]],.tuple [.str "back",.str ""],
 .tuple [.str "back",.str "a",.str "b"],.tuple [.str "change",.str "a b"],.tuple [.str "lend",.int 5,.str "read",.int 1],.tuple [.list [.str "end"]],
 .tuple [.str "lend",.str "a",.list [.str "read"],.int 1],.tuple [.str "look",.list [.str "a"]],.tuple [.str "lend",.str "a",.str "read",.list [.int 1]]]
noncomputable def Any.Ok:Any->Prop
 | .row r=>r.Ok
 | .odd d=>d ∈ oddL
noncomputable def Any.isR:Any->Bool
 | .row _=>true
 | .odd _=>false
noncomputable def isFd:D->Bool
 | .bool b=>!b
 | _=>false
def isF(x:Option D):Bool:=x.any isFd
theorem zY{x:Option D}(h:isF x=true):x=some (.bool false):=by
 induction x with
 | none=>exact nF h
 | some d=>
  induction d using dc with
  | bool b=>induction b with
   | true=>exact nF h
   | false=>rfl
  | _=>exact nF h
structure Gok(Γ:Str->Option D):Prop where
 op:Γ "OPENERS" = some opT
 letters:Γ "LETTERS" = some (.str "abcdefghijklmnopqrstuvwxyz")
 longest:Γ "LONGEST" = some (.int 12)
 thing:Γ "MOST_THING" = some (.int 999999999)
 things:Γ "MOST_THINGS" = some (.int 5)
 words:Γ "WORDS" = some (.tuple [.str "beside",.str "empty",.str "asleep"])
 odd:oddL.all (λd=>isF (runFn (mkΦ Γ 4000000 (tbl03.drop 33)) Γ 4000000 fnis_row [d]))=true
 oddl:oddL.all (λd=>isF (runFn (mkΦ Γ 4000000 (tbl03.drop 7)) Γ 4000000 fn_law_is_row [d]))=true
theorem vm{F:D->Option D}(ho:oddL.all (λd=>isF (F d))=true)(hr:∀ r:Row,r.Ok->F r.d=some (.bool true))(a:Any)(h:a.Ok):F a.d=some (.bool a.isR):=by
 induction a with
 | row r=>exact hr r h
 | odd d=>exact zY (ZK.mp ho d h)
noncomputable def letB(c:Nat):Bool:=decide (c ∈ ("abcdefghijklmnopqrstuvwxyz":Str).cps.toList)
theorem zZ{c:Nat}(h1:97<=c)(h2:c < 123):letB c=true:=by
 refine have key:∀ k:Nat,k < 26->letB (97+k)=true:=(by decide +kernel);?_;have:=key (c - 97) (Nat.sub_lt_left_of_lt_add h1 h2);rw [Nat.add_sub_cancel' h1] at this;exact this
theorem nv{a b:Bool}(h1:a=false)(h2:b=false):(a||b)=false:=by rw [h1,h2];rfl
theorem le_t{a b:Nat}(h:a<=b):some (decide ((a:Int)<=(b:Int)))=some true:=Qf some (Qn (QB.mpr h))
theorem lt_f{a b:Nat}(h:b<=a):decide ((a:Int) < (b:Int))=false:=Zk (ZB.mpr (QB.mpr h))
section
variable {Φ:Str->List D->Option D}{Γ:Str->Option D}{N:Nat}
theorem z5{α:Type}{f:α->Bool}{xs:List α}(h:∀ x ∈ xs,f x=true):b1 .all (.list (xs.map λx=>.bool (f x)))=some (.bool true):=by
 rw [zH,gv,mX,List.all_map];exact Qf (λb=>some (PyData.bool b)) (ZK.mpr h)
theorem gJ{lt:Ex}{w:Str}(h:WordOk w)(hl:∀ c:Nat,evE Φ Γ (.cmp .In (.v 1) lt) [some (.str w),some (.str ⟨#[c]⟩)]=some (.bool (letB c))):evE Φ Γ (.b1 .all (.comp (.cmp .In (.v 1) lt) (.plain (.v 0)) .none)) [some (.str w)]=some (.bool true):=
 aK (bB w.cps.toList (λc=>[.str ⟨#[c]⟩]) (λc=>.bool (letB c)) (Qf some (kH (λc=>PyData.str ⟨#[c]⟩) w.cps.toList)) (QQ h.2.1 (by decide)) rfl λc Z=>hl c) (z5 λc hc=>zZ (h.2.2 c hc).1 (h.2.2 c hc).2)
theorem jC{f:Str}{m:St}{e:Ex}{ts:List Int}(hT:∀ i,ThOk i->Φ f [.int i]=some (.bool true))(he:evE Φ Γ e m=some (.tuple (ts.map .int)))(h5:ts.length<=5)(hk:∀ t ∈ ts,ThOk t)(hv:∀ d,(m++[some d])[m.length]?=some (some d)):evE Φ Γ (.b1 .all (.comp (.call false f (.cons (.v m.length) .nil)) (.plain e) .none)) m=some (.bool true):=
 aK (bB ts (λx=>[.int x]) (λZ=>.bool true) (jk he) (QQ h5 (by decide)) rfl λx hx=>af (esC (ev_v (hv _)) es0) (hT x (hk x hx))) (z5 (f:=λZ=>true) λZ Z=>rfl)
theorem ny(G:Gok Γ){w:Str}(h:WordOk w):runFn Φ Γ N fnis_word [.str w]=some (.bool true):=
 au [some (.str w)] rfl rfl (aW (fE rfl (cw (kJ rfl rfl (le_t h.1) G.longest (le_t h.2.1)))) rfl (ah (gJ h λc=>ai rfl G.letters rfl) rfl))
theorem tN{w:Str}(h:WordOk w):runFn Φ Γ N fn_law_is_word [.str w]=some (.bool true):=
 au [some (.str w)] rfl rfl (aW (zx rfl rfl rfl) (Qf some (nv rfl (nv (lt_f h.1) (lt_f h.2.1)))) (ah (gJ h λc=>rfl) rfl))
theorem kZ(G:Gok Γ){i:Int}(h:ThOk i):runFn Φ Γ N fnis_thing [.int i]=some (.bool true):=
 au [some (.int i)] rfl rfl (ah (lQ (b:=true) (c:=true) rfl rfl (kJ rfl rfl (Qf some (Qn h.1)) G.thing (Qf some (Qn h.2)))) rfl)
theorem qG{i:Int}(h:ThOk i):runFn Φ Γ N fn_law_is_thing [.int i]=some (.bool true):=
 au [some (.int i)] rfl rfl (ah (aq (b:=true) (c:=true) rfl λZ=>aq (b:=true) (c:=true) rfl λZ=>aq (b:=true) (c:=true) (ai rfl rfl (Qf some (Qn h.1))) λZ=>(bQ ..).trans (ai rfl rfl (Qf some (Qn (Int.lt_add_one_iff.mpr h.2))))) rfl)
theorem jD(G:Gok Γ)(hT:∀ i,ThOk i->Φ "is_thing" [.int i]=some (.bool true)){ts:List Int}(h1:1<=ts.length)(h5:ts.length<=5)(hk:∀ t ∈ ts,ThOk t):runFn Φ Γ N fnis_choice [.tuple (ts.map .int)]=some (.bool true):=
 au [some (.tuple (ts.map .int))] rfl rfl (aW (fE rfl (cw (kJ rfl (aK rfl (Qf (λn:Nat=>some (PyData.int n)) (Yt _))) (le_t h1) G.things (le_t h5)))) rfl (ah (jC (m:=[some (.tuple (ts.map .int))]) hT rfl h5 hk λZ=>rfl) rfl))
theorem nz(hT:∀ i,ThOk i->Φ "is_thing" [.int i]=some (.bool true))(hS:∀ u,Φ "is_thing" [.str u]=some (.bool false))(hW:∀ w,WordOk w->Φ "is_word" [.str w]=some (.bool true)){w:Str}{q:Bool}{s:Src}(h:(Row.lend w q s).Ok):runFn Φ Γ N fnis_lend [(Row.lend w q s).d]=some (.bool true):=by
 refine au [some (Row.lend w q s).d] rfl rfl (aW (zx rfl (cw (b:=true) (af (esC rfl es0) (hW w h.1))) rfl) rfl (ah (aS (b:=true) (c:=true) (ai (x:=.str (kindS q)) rfl rfl (by induction q<;>rfl)) ?_) rfl));induction s with
 | th i=>exact x_or2' (af (esC rfl es0) (hT i h.2))
 | hd u=>exact fE (b:=false) (af (esC rfl es0) (hS u)) (af (esC rfl es0) (hW u h.2))
theorem qH(hL:∀ w q s,(Row.lend w q s).Ok->Φ "is_lend" [(Row.lend w q s).d]=some (.bool true))(hC:∀ ts:List Int,1<=ts.length->ts.length<=5->(∀ t ∈ ts,ThOk t)->Φ "is_choice" [.tuple (ts.map .int)]=some (.bool true))(hW:∀ w,WordOk w->Φ "is_word" [.str w]=some (.bool true))(r:Row)(h:r.Ok):runFn Φ Γ N fnis_row [r.d]=some (.bool true):=by
 induction r with
 | lend w q s=>exact au [some (Row.lend w q s).d] rfl rfl (bg 1 rfl (aB rfl rfl (ah (af (esC rfl es0) (hL w q s h)) rfl)))
 | pick w ts=>exact au [some (Row.pick w ts).d] rfl rfl (bg 2 rfl (aB rfl rfl (ah (lQ (b:=true) rfl (af (esC rfl es0) (hW w h.1)) (af (esC rfl es0) (hC ts h.2.1 h.2.2.1 h.2.2.2))) rfl)))
 | deed v w=>induction v<;>exact au [some (Row.deed _ w).d] rfl rfl (bg 4 rfl (aB rfl rfl (ah (aS (b:=true) rfl (af (esC rfl es0) (hW w h))) rfl)))
 | _=>rfl
theorem xz(hT:∀ i,ThOk i->Φ "_law_is_thing" [.int i]=some (.bool true))(hI:∀ i,Φ "_law_is_word" [.int i]=some (.bool false))(hW:∀ w,WordOk w->Φ "_law_is_word" [.str w]=some (.bool true))(r:Row)(h:r.Ok):runFn Φ Γ N fn_law_is_row [r.d]=some (.bool true):=by
 induction r with
 | lend w q s=>
  refine au [some (Row.lend w q s).d] rfl rfl (bg 2 rfl (aW (fE rfl (cw (b:=true) (af (esC rfl es0) (hW w h.1)))) rfl (bg 1 rfl (aB (aq (b:=true) (c:=true) rfl λZ=>aq (b:=true) (c:=true) rfl λZ=>aq (b:=true) (c:=true) rfl λZ=>(bQ ..).trans (ai (x:=.str (kindS q)) rfl rfl (by induction q<;>rfl))) rfl (ah ?_ rfl)))));induction s with
  | th i=>exact fE (b:=false) (af (esC rfl es0) (hI i)) (af (esC rfl es0) (hT i h.2))
  | hd u=>exact x_or2' (af (esC rfl es0) (hW u h.2))
 | pick w ts=>
  have hl:=@List.length_map _ _ ts PyData.int;exact au [some (Row.pick w ts).d] rfl rfl (bg 2 rfl (aW (fE rfl (cw (b:=true) (af (esC rfl es0) (hW w h.1)))) rfl (bg 2 rfl (aW (bo rfl λZ=>bo rfl λZ=>bo rfl λZ=>bo rfl λZ=>rfl) (Qf some (nv rfl (nv rfl (nv rfl (nv (lt_f (hl.symm ▸ h.2.1)) (lt_f (hl.symm ▸ h.2.2.1))))))) (ah (jC (m:=[some (Row.pick w ts).d]) hT rfl h.2.2.1 h.2.2.2 λZ=>rfl) rfl)))))
 | deed v w=>exact au [some (Row.deed v w).d] rfl rfl (bg 1 rfl (aW (x:=.bool false) (by induction v<;>rfl) rfl (aW (fE rfl (cw (b:=true) (af (esC rfl es0) (hW w h)))) rfl (aB (x:=.bool true) (by induction v<;>rfl) rfl (ah rfl rfl)))))
 | _=>rfl
end
def vn(d:D):Bool:=noDict d&&(decide (d.depth<=3)&&d.eqv d)
theorem xA:oddL.all vn=true:=by decide +kernel
theorem k6:∀ ts:List Int,av (ts.map PyData.int)=true:=by
 intro ts;induction ts with
 | nil=>rfl
 | cons t l ih=>exact ih
theorem nA:∀ ts:List Int,PyData.depthAll (ts.map PyData.int)=0:=by
 intro ts;induction ts with
 | nil=>rfl
 | cons t l ih=>show max 0 _=0;exact Qf _ ih
theorem tO:∀ ts:List Int,PyData.eqvAll (ts.map PyData.int) (ts.map PyData.int)=true:=by
 intro ts;induction ts with
 | nil=>rfl
 | cons t l ih=>show ((t == t)&&PyData.eqvAll (l.map PyData.int) (l.map PyData.int))=true;rw [ih,Zh];rfl
theorem nB(x:Str):PyData.eqv (.str x) (.str x)=true:=Zh (a:=x)
theorem xB(r:Row):noDict r.d=true/\r.d.depth<=3/\r.d.eqv r.d=true:=by
 induction r with
 | lend w q s=>
  refine ⟨by induction s<;>rfl,by induction s<;>exact (by decide:(1:Nat)<=3),?_⟩;show (true&&(PyData.eqv (.str w) (.str w)&&(PyData.eqv (.str (kindS q)) (.str (kindS q))&&(PyData.eqv s.d s.d&&true))))=true;rw [nB,nB,show PyData.eqv s.d s.d=true by induction s with | th i=>exact Zh i | hd u=>exact nB u];rfl
 | pick w ts=>
  refine ⟨?_,?_,?_⟩
  ·show (av (ts.map PyData.int)&&true)=true
   rw [k6];rfl
  ·show (max 0 (max 0 (max (PyData.depthAll (ts.map PyData.int)+1) 0)))+1<=3
   rw [nA];decide
  ·show (true&&(PyData.eqv (.str w) (.str w)&&(PyData.eqvAll (ts.map PyData.int) (ts.map PyData.int)&&true)))=true
   rw [nB,tO];rfl
 | deed v w=>exact ⟨by induction v<;>rfl,by induction v<;>exact (by decide:(1:Nat)<=3),by show (PyData.eqv (.str v.s) (.str v.s)&&(PyData.eqv (.str w) (.str w)&&true))=true;rw [nB,nB];rfl⟩
 | _=>exact ⟨rfl,(by decide:(1:Nat)<=3),rfl⟩
theorem xC{a:Any}(h:a.Ok):noDict a.d=true/\a.d.depth<=3/\a.d.eqv a.d=true:=by
 induction a with
 | row r=>exact xB r
 | odd d=>
  have:=ZK.mp xA d h;unfold vn at this;rw [Qj,Qj,QE] at this;exact this
theorem tP{l:List Any}(h:∀ a ∈ l,a.Ok):av (l.map Any.d)=true/\PyData.depthAll (l.map Any.d)<=3/\PyData.eqvAll (l.map Any.d) (l.map Any.d)=true:=by
 induction l with
 | nil=>exact ⟨rfl,QF _,rfl⟩
 | cons a l ih=>
  refine have i:=ih λx hx=>h x (.tail _ hx);?_;refine have f:=xC (h a (.head _));?_;refine ⟨?_,XX.mpr ⟨f.2.1,i.2.1⟩,?_⟩
  ·show (noDict a.d&&av (l.map Any.d))=true
   rw [f.1,i.1];rfl
  ·show (PyData.eqv a.d a.d&&PyData.eqvAll (l.map Any.d) (l.map Any.d))=true
   rw [f.2.2,i.2.2];rfl
theorem xE{l:List Any}(h:∀ a ∈ l,a.Ok):pyEq (.list (l.map Any.d)) (.list (l.map Any.d))=some true:=by
 refine have f:=tP h;?_
 refine have h1:shp (.list (l.map Any.d))=true:=(by
  unfold shp
  rw [nd_l,f.1,dp_l,Qn (QT (QQ f.2.1 (by decide:3<=31)))];rfl);?_
 unfold pyEq;rw [h1,XZ true,YD,Ql rfl,qv_l,f.2.2]
theorem z6(Φ:Str->List D->Option D)(Γ:Str->Option D)(N:Nat)(c:Int):∃ d ∈ oddL,runFn Φ Γ N fn_law_odd [.int c]=some d:=by
 refine have h0:=(ar c (b:=42) (by decide));?_;refine have h1:=(aw c (b:=42) (by decide));?_;refine have hk:(c.fmod 42).toNat < oddL.length:=(Z2 h0).mpr h1;?_;refine ⟨oddL[(c.fmod 42).toNat],Y4 hk,?_⟩;refine au [some (.int c),none] rfl rfl ?_;dsimp only [fn_law_odd]
 iterate 10 refine an (.list _) rfl rfl ?_
 exact ah (ag (x:=.list oddL) (y:=.int (c.fmod 42)) rfl (aj rfl rfl (eN c 42 (by decide))) (p_mk (aN h0 (show c.fmod 42 < ((42:Nat):Int) from h1)) (Qk hk))) rfl
set_option tactic.hygienic true in
theorem qI(r:Row):pyIn (.str r.tag) (.tuple [.str "lend",.str "pick"])=some r.isNamed:=by
 rw [qz];induction r<;>first | rfl | (rename_i v w;induction v<;>rfl)
noncomputable def Row.isDeed:Row->Bool
 | .deed ..=>true
 | _=>false
set_option tactic.hygienic true in
theorem tQ(r:Row):pyIn (.str r.tag) (.tuple [.str "back",.str "look",.str "change"])=some r.isDeed:=by
 refine have:pyIn (.str r.tag) (.tuple (["back", "look", "change"].map λs=>.str (Str.ofString s)))=_:=s7 r.tag (["back", "look", "change"].map Str.ofString);?_;refine this.trans ?_;clear this;induction r<;>first | rfl | (rename_i v w;induction v<;>rfl)
theorem aO(h:WordOk w):w ≠ ("":Str) := λe=>by
 have:=h.1;rw [e] at this;exact absurd this (by decide)
noncomputable def Row.bk:Row->Str
 | .lend _ q _=>Mine.kindS q
 | .pick .. => "pick"
 | _ => ""
noncomputable def blkD(j:Nat)(r:Row):D:=.tuple [.int (j:Int),.str r.tag,.str r.word,.str r.bk]
def blD(p:Nat × Row):D:=blkD p.1 p.2
noncomputable def aD(ps:List (Nat × Row))(w:Str):Option Str:=(ps.find? λp=>p.2.word == w).map λp=>p.2.bk
noncomputable def optS:Option Str->D
 | some x=>.str x
 | none=>.none
theorem k7(o:Option Str):noList (optS o)=true:=by induction o<;>rfl
theorem bK(h:noList d=true):(!fr||retOk ow e d)=true:=by
 unfold retOk;rw [h,Bool.true_or,YD]
section
variable (Φ:Str->List D->Option D)(Γ:Str->Option D)(N:Nat)
theorem nD(ps:List (Nat × Row))(w:Str):runFn Φ Γ N fnmeaning [.list (ps.map blD),.str w]=some (optS (aD ps w)):=by
 refine au [some (.list (ps.map blD)),some (.str w),none] rfl rfl ?_;dsimp only [fnmeaning];refine kT (λm=>∃ x,m=[some (.list (ps.map blD)),some (.str w),x]) (λk=>(ps[k]?).any λp=>p.2.word == w) (λk=>optS ((ps[k]?).map λp=>p.2.bk)) (bt (es:=ps) (g:=blD) rfl) rfl ⟨none,rfl⟩ (λk vs m hk hI=>?_) (λhno m hI=>?_) (λk hk hp hf=>?_)
 ·obtain ⟨x,rfl⟩:=hI
  rw [Qy] at hk;obtain ⟨e,he,rfl⟩:=QK hk;refine ⟨_,rfl,λq=>?_,λq=>?_⟩
  ·rw [he] at q ⊢
   exact aB (x:=.bool (e.2.word == w)) rfl (by rw [dU];exact Qf some q) (ah rfl (bK rfl))
  ·rw [he] at q
   exact bD (kM (Q:=λm=>∃ x,m=[some (.list (ps.map blD)),some (.str w),x]) (d:=.bool (e.2.word == w)) rfl (dU _) (λq'=>by simp only [Xq] at q;exact nF (q.symm.trans q')) (λo_=>am ⟨_,rfl⟩)) λm e=>am e
 ·obtain ⟨x,rfl⟩:=hI
  refine ah ?_ (bK (k7 _));unfold aD;exact (jA λk hk=>hno k (by simpa using hk)) ▸ rfl
 ·exact (gG hp hf) ▸ rfl
end
theorem jE(ps:List (Nat × Row)):pyEq (.list (ps.map blD)) (.list [])=some ps.isEmpty:=by
 have hd:∀ l:List (Nat × Row),av (l.map blD)=true:=λl=>by
  induction l with
  | nil=>rfl
  | cons p l ih=>exact ih
 have hp:∀ l:List (Nat × Row),PyData.depthAll (l.map blD)<=1:=λl=>by
  induction l with
  | nil=>exact QF _
  | cons p l ih=>exact XX.mpr ⟨QO _,ih⟩
 refine have h1:shp (.list (ps.map blD))=true:=(by
  have:=hp ps;unfold shp
  rw [nd_l,hd,dp_l,Qn (show PyData.depthAll (ps.map blD)+1<=32 by exact QT (QQ this (by decide)))];rfl);?_
 refine have h2:shp (.list [])=true:=rfl;?_;unfold pyEq;rw [h1,h2,XZ,YD,Ql rfl];clear h2 h1 hp hd;induction ps<;>rfl
noncomputable def stF(p:Bool × D):Fl:=if p.1 then .ret p.2 else .exc p.2
noncomputable def Oc(x:Option (Fl × St))(o:Option (Bool × D))(Q:St->Prop):Prop:=o.elim (Go x Q) λp=>∃ m',x=some (stF p,m')
noncomputable def Say(Φ:Str->List D->Option D)(f:Str)(xs:List D)(o:Option D):Prop:=o.elim (Φ f xs=some .none) λe=>Φ f xs=none/\Φ (exn f) xs=some e
section
variable {Φ:Str->List D->Option D}{Γ:Str->Option D}{m:St}{ow:List Nat}{fr:Bool}{N:Nat}
theorem cX(h:Oc (exS Φ Γ ow fr N s m) o1 Q')(k:o1=none->∀ m',Q' m'->Oc (exSs Φ Γ ow fr N r m') o2 Q):Oc (exSs Φ Γ ow fr N (.cons s r) m) (o1.or o2) Q:=by
 induction o1 with
 | none=>
  obtain ⟨m1,e1,q1⟩:=h;have:=k rfl m1 q1;rw [<- aP e1] at this;exact this
 | some p=>
  obtain ⟨m',e⟩:=h;refine ⟨m',?_⟩;obtain ⟨b,d⟩:=p;clear k;induction b<;>(rw [fe,e];rfl)
theorem gK(h:Q m):Oc (exSs Φ Γ ow fr N .nil m) none Q:=am h
theorem qJ(h:evE Φ Γ c m=some (.bool b))(ht:b=true->Oc (exSs Φ Γ ow fr N t m) o Q)(he:b=false->Q m):Oc (exS Φ Γ ow fr N (.ite c t .nil) m) (if b then o else none) Q:=by
 induction b with
 | true=>exact (kK h rfl) ▸ ht rfl
 | false=>exact (jj h rfl) ▸ (am (he rfl))
theorem cY(h:evE Φ Γ e m=some (.int n)):Oc (exSs Φ Γ ow fr N (.cons (.rse cls e) r) m) (some (false,xD cls n)) Q:=by
 refine ⟨m,?_⟩;rw [fe,ym,h];rfl
theorem jF(h:evE Φ Γ e m=some d)(ho:(!fr||retOk ow e d)=true):Oc (exSs Φ Γ ow fr N (.cons (.ret e) r) m) (some (true,d)) Q:=⟨m,eA (eJ h ho)⟩
theorem eM(x:D)(h:evE Φ Γ e m=some x)(ho:(!ow.contains i||flat x)=true)(k:Oc (exSs Φ Γ ow fr N r (m.set i (some x))) o Q):Oc (exSs Φ Γ ow fr N (.cons (.asg i e) r) m) o Q:=by
 exact (aP (s6 h ho)) ▸ k
theorem eg{p:Bool × D}(h:evE Φ Γ c m=some (.bool b))(ht:b=true->Oc (exSs Φ Γ ow fr N t m) (some p) Q)(k:b=false->Oc (exSs Φ Γ ow fr N r m) o Q):Oc (exSs Φ Γ ow fr N (.cons (.ite c t .nil) r) m) ((if b then some p else none).or o) Q:=
 cX (Q':=λm'=>m'=m/\b=false) (qJ h ht λq=>⟨rfl,q⟩) λZ Z e=>e.1 ▸ k e.2
theorem qK(h:evE Φ Γ c m=some (.bool false))(k:Oc (exSs Φ Γ ow fr N r m) o Q):Oc (exSs Φ Γ ow fr N (.cons (.ite c t .nil) r) m) o Q:=by
 rw [aP (y_no h rfl)];exact k
theorem jG{p:Bool × D}(h:evE Φ Γ c m=some (.bool true))(k:Oc (exSs Φ Γ ow fr N t m) (some p) Q):Oc (exSs Φ Γ ow fr N (.cons (.ite c t .nil) r) m) (some p) Q:=eg (o:=none) h (λZ=>k) nT
theorem mj(h:evEs Φ Γ es m=some xs)(k:Say Φ f xs o):Oc (exS Φ Γ ow fr N (.exr f es) m) (o.map λe=>(false,e)) (λm'=>m'=m):=by
 induction o with
 | none=>exact ⟨m,by rw [n9,h,bX,show Φ f xs=some .none from k],rfl⟩
 | some e=>exact ⟨m,by rw [n9,h,bX,k.1,k.2];rfl⟩
theorem qL(h:evEs Φ Γ es m=some xs)(k:Say Φ f xs o)(hq:Q m):Oc (exSs Φ Γ ow fr N (.cons (.exr f es) .nil) m) (o.map λe=>(false,e)) Q:=by
 have:=cX (o2:=none) (Q:=Q) (r:=.nil) (mj (ow:=ow) (fr:=fr) (N:=N) h k) λZ m' e=>gK (e ▸ hq);rw [Option.or_none] at this;exact this
theorem xF(m0:St)(hl:args.length=fn.np)(hm:args.map some++List.replicate (fn.ns - fn.np) none=m0)(h:Oc (exSs Φ Γ fn.ow fn.fr N fn.body m0) none Q):runFn Φ Γ N fn args=some .none:=by
 obtain ⟨m',h,_⟩:=h;unfold runFn;rw [Ql hl,hm,h]
theorem xG(m0:St)(hl:args.length=fn.np)(hm:args.map some++List.replicate (fn.ns - fn.np) none=m0)(h:Oc (exSs Φ Γ fn.ow fn.fr N fn.body m0) (some (true,d)) Q):runFn Φ Γ N fn args=some d:=by
 obtain ⟨m',h⟩:=h;unfold runFn;rw [Ql hl,hm,h];rfl
theorem iy(m0:St)(hl:args.length=fn.np)(hm:args.map some++List.replicate (fn.ns - fn.np) none=m0)(h:Oc (exSs Φ Γ fn.ow fn.fr N fn.body m0) (some (false,d)) Q):runX Φ Γ N fn args=some d:=by
 obtain ⟨m',h⟩:=h;unfold runX;rw [Ql hl,hm,h];rfl
theorem mn(m0:St)(h1:jn g tbl=(g,fn)::rest)(h2:qd g tbl=(g,fn)::rest)(hl:args.length=fn.np)(hm:args.map some++List.replicate (fn.ns - fn.np) none=m0)(h:Oc (exSs (mkΦ Γ N rest) Γ fn.ow fn.fr N fn.body m0) (o.map λe=>(false,e)) Q):Say (mkΦ Γ N tbl) g args o:=by
 induction o with
 | none=>exact (ax h1).trans (xF m0 hl hm h)
 | some e=>exact ⟨(ax h1).trans (fn_none (iy m0 hl hm h)),(zI h2).trans (iy m0 hl hm h)⟩
end
set_option genCtorIdx true
inductive Fa | row | block | word | narrow | taken | fin
set_option genCtorIdx false
noncomputable def Fa.cls:Fa->Str
 | .row => "NoRow"
 | .block => "NoBlock"
 | .word => "NoWord"
 | .narrow => "Narrow"
 | .taken => "Taken"
 | .fin => "NoEnd"
noncomputable def Fa.wd:Fa->Str
 | .row => "row"
 | .block => "block"
 | .word => "word"
 | .narrow => "narrow"
 | .taken => "taken"
 | .fin => "end"
def Fa.x(j:Int)(f:Fa):D:=xD f.cls j
noncomputable def isEi(p:Nat × Row):Bool:=p.2.isEither
def vdB(ps:List (Nat × Row)):Row->Option Fa
 | .fin=>if ps.isEmpty then some .block else none
 | .orr=>if ps.isEmpty||!(ps.getLast?.any isEi) then some .block else none
 | _=>none
noncomputable def vdHk(v:Verb):Option Str->Option Fa
 | none=>some .word
 | some k=>if k == ("pick":Str) then some .word else if (v == .change)&&(k == ("read":Str)) then some .narrow else none
def vdH(ps:List (Nat × Row)):Row->Option Fa
 | .deed v w=>vdHk v (aD ps w)
 | _=>none
def vdT(ps:List (Nat × Row))(w:Str)(o:Option Fa):Option Fa:=if (aD ps w).isSome then some .taken else o
def vdFk(ps:List (Nat × Row))(w:Str)(wr:Bool):Option Str->Option Fa
 | none=>some .word
 | some k=>vdT ps w (if wr&&(k == ("read":Str)) then some .narrow else none)
def vdS(ps:List (Nat × Row))(w:Str)(wr:Bool):Src->Option Fa
 | .hd u=>vdFk ps w wr (aD ps u)
 | .th _=>vdT ps w none
def vdF(ps:List (Nat × Row)):Row->Option Fa
 | .lend w wr s=>vdS ps w wr s
 | .pick w _=>vdT ps w none
 | _=>none
theorem xH(h:aD ps w=none):vdH ps (.deed v w)=some .word:=by show vdHk v (aD ps w)=_;exact Qf _ h
theorem xJ(h:aD ps w=some k):vdH ps (.deed v w)=if k == ("pick":Str) then some .word else if (v == .change)&&(k == ("read":Str)) then some .narrow else none:=by show vdHk v (aD ps w)=_;exact Qf _ h
theorem tR(h:aD ps u=none):vdF ps (.lend w q (.hd u))=some .word:=by show vdFk ps w q (aD ps u)=_;exact Qf _ h
theorem tS(h:aD ps u=some k):vdF ps (.lend w q (.hd u))=vdT ps w (if q&&(k == ("read":Str)) then some .narrow else none):=by show vdFk ps w q (aD ps u)=_;exact Qf _ h
def vdR(ps:List (Nat × Row))(r:Row):Option Fa:=(vdB ps r).or ((vdH ps r).or (vdF ps r))
section
variable (Φ:Str->List D->Option D)(Γ:Str->Option D)(N:Nat)
theorem mo{ps:List (Nat × Row)}(h:ps.isEmpty=false):∃ p,ps.getLast?=some p/\item (.list (ps.map blD)) (.int (-1))=some (blD p):=by
 induction q:ps.getLast? with
 | none=>rw [List.getLast?_eq_none_iff.mp q] at h;exact nT h
 | some p=>exact ⟨p,rfl,by rw [fJ,List.getLast?_map,q];rfl⟩
theorem iz(ps:List (Nat × Row))(r:Row)(j:Int):Oc (exSs Φ Γ fnneed_block.ow fnneed_block.fr N fnneed_block.body [some (.list (ps.map blD)),some (.int j),some r.d]) (((vdB ps r).map (Fa.x j)).map λe=>(false,e)) (λZ=>True):=by
 refine have he:evE Φ Γ (.cmp .Eq (.v 0) (.lst .nil)) [some (.list (ps.map blD)),some (.int j),some r.d]=some (.bool ps.isEmpty):=ai rfl rfl (jE ps);?_
 refine have key:(((vdB ps r).map (Fa.x j)).map λe=>(false,e))=(if r.isFin&&ps.isEmpty then some (false,xD "NoBlock" j) else none).or ((if r.isOr&&(ps.isEmpty||!(ps.getLast?.any isEi)) then some (false,xD "NoBlock" j) else none).or none):=(by
  rw [Option.or_none];induction r with
  | fin=>unfold vdB;induction ps.isEmpty<;>rfl
  | orr=>unfold vdB;induction ps.isEmpty<;>(induction ps.getLast?.any isEi<;>rfl)
  | _=>rfl);?_
 rw [key];refine eg (aq (ai (ag rfl rfl (Row.i0 r)) rfl (Qf some (dB r))) λZ=>he) (λZ=>cY rfl) λZ=>?_;refine eg (aq (ai (ag rfl rfl (Row.i0 r)) rfl (Qf some (qh r))) λZ=>bo he λz=>?_) (λZ=>cY rfl) λZ=>gK trivial;obtain ⟨p,h1,h2⟩:=mo z;rw [h1];refine ai (x:=.str p.2.tag) (y:=.str "either") (ag (ag rfl rfl h2) rfl rfl) rfl ?_;exact Qf (λb=>some (!b)) (cO p.2)
theorem jH(hM:∀ (ps:List (Nat × Row)) (w:Str),Φ "meaning" [.list (ps.map blD),.str w]=some (optS (aD ps w)))(ps:List (Nat × Row))(v:Verb)(w:Str)(j:Int):Oc (exSs Φ Γ fnneed_hand.ow fnneed_hand.fr N fnneed_hand.body [some (.list (ps.map blD)),some (.int j),some (Row.deed v w).d,none]) (((vdH ps (.deed v w)).map (Fa.x j)).map λe=>(false,e)) (λZ=>True):=by
 refine have hm:=hM ps w;?_;dsimp only [fnneed_hand];refine eM (optS (aD ps w)) (af (esC rfl (esC rfl es0)) hm) rfl ?_;induction hq:aD ps w with
 | none=>
  exact (xH hq) ▸ (jG (bo (b:=true) (c:=true) rfl nT) (cY rfl))
 | some k=>
  refine have key:(((if k == ("pick":Str) then some Fa.word else if (v == .change)&&(k == ("read":Str)) then some .narrow else none).map (Fa.x j)).map λe=>(false,e))=(if false||(k == ("pick":Str)) then some (false,xD "NoWord" j) else none).or ((if (v == .change)&&(k == ("read":Str)) then some (false,xD "Narrow" j) else none).or none):=(by
   rw [Option.or_none,XQ]
   induction k == ("pick":Str) <;> (induction (v == .change)&&(k == ("read":Str))<;>rfl));?_
  exact (xJ hq) ▸ key ▸ (eg (fE rfl rfl) (λZ=>cY rfl) λZ=>eg (aq (b:=v == .change) (by clear key hq hm hM;induction v<;>rfl) λZ=>rfl) (λZ=>cY rfl) λZ=>gK trivial)
theorem fV{ps:List (Nat × Row)}{r:Row}{j:Int}{src:D}{b:Bool}(hm:Φ "meaning" [.list (ps.map blD),.str r.word]=some (optS (aD ps r.word)))(h1:item r.d (.int 1)=some (.str r.word))
 (h2:evE Φ Γ (.bool true (.cons (.cmp .Eq (.idx (.v 2) (.k (.int 0))) (.k (.str "lend"))) (.cons (.cmp .Eq (.idx (.v 2) (.k (.int 2))) (.k (.str "write"))) (.cons (.cmp .Eq (.v 3) (.k (.str "read"))) .nil)))) [some (.list (ps.map blD)),some (.int j),some r.d,some src]=some (.bool b)) :
 Oc (exSs Φ Γ [] true N (fnneed_free.body.tl.tl) [some (.list (ps.map blD)),some (.int j),some r.d,some src]) (((vdT ps r.word (if b then some .narrow else none)).map (Fa.x j)).map λe=>(false,e)) (λZ=>True):=by
 refine have key:(((vdT ps r.word (if b then some .narrow else none)).map (Fa.x j)).map λe=>(false,e))=(if (aD ps r.word).isSome then some (false,xD "Taken" j) else none).or ((if b then some (false,xD "Narrow" j) else none).or none):=(by
  unfold vdT;rw [Option.or_none]
  induction (aD ps r.word).isSome<;>(induction b<;>rfl));?_
 exact key ▸ (eg (ai (af (esC rfl (esC (ag rfl rfl h1) es0)) hm) rfl (by induction aD ps r.word<;>rfl)) (λZ=>cY rfl) λZ=>eg h2 (λZ=>cY rfl) λZ=>gK trivial)
theorem jI(hM:∀ (ps:List (Nat × Row)) (w:Str),Φ "meaning" [.list (ps.map blD),.str w]=some (optS (aD ps w)))(ps:List (Nat × Row)){r:Row}(hn:r.isNamed=true)(j:Int):Oc (exSs Φ Γ fnneed_free.ow fnneed_free.fr N fnneed_free.body [some (.list (ps.map blD)),some (.int j),some r.d,none]) (((vdF ps r).map (Fa.x j)).map λe=>(false,e)) (λZ=>True):=by
 refine eM .none rfl rfl ?_;induction r with
 | pick w ts=>exact qK rfl (fV Φ Γ N (r:=Row.pick w ts) (b:=false) (hM ps w) rfl rfl)
 | lend w q s=>
  induction s with
  | th i=>exact qK rfl (fV Φ Γ N (r:=Row.lend w q (.th i)) (b:=false) (hM ps w) rfl (by induction q<;>rfl))
  | hd u=>
   refine have hm:=hM ps u;?_;induction hq:aD ps u with
   | none=>
    rw [hq] at hm;exact (tR hq) ▸ (jG rfl (eM .none (af (esC rfl (esC rfl es0)) hm) rfl (jG rfl (cY rfl))))
   | some k=>
    rw [hq] at hm;rw [tS hq];refine cX (o1:=none) (Q':=λm=>m=[some (.list (ps.map blD)),some (.int j),some (Row.lend w q (.hd u)).d,some (.str k)]) (qJ (b:=true) (o:=none) rfl (λZ=>eM (.str k) (af (esC rfl (esC rfl es0)) hm) rfl (qK rfl (gK rfl))) nT) λZ m e=>e ▸ fV Φ Γ N (r:=Row.lend w q (.hd u)) (b:=q&&(k == ("read":Str))) (hM ps w) rfl ?_;exact aq (b:=true) rfl λZ=>aq (b:=q) (by clear e hq hm hM;induction q<;>rfl) λZ=>rfl
 | _=>exact nF hn
theorem k8(h:r.isOpen=true)(j:Nat):runFn Φ Γ N fnblock_of [.int (j:Int),r.d]=some (blkD j r):=by
 refine au [some (.int (j:Int)),some r.d] rfl rfl ?_;dsimp only [fnblock_of];induction r with
 | lend w q s=>exact aB (x:=.bool true) rfl rfl (ah rfl rfl)
 | pick w ts=>exact aW (x:=.bool false) rfl rfl (aB (x:=.bool true) rfl rfl (ah rfl rfl))
 | either=>exact aW (x:=.bool false) rfl rfl (aW (x:=.bool false) rfl rfl (ah rfl rfl))
 | again=>exact aW (x:=.bool false) rfl rfl (aW (x:=.bool false) rfl rfl (ah rfl rfl))
 | _=>exact nF h
end
def vd(ps:List (Nat × Row)):Any->Option Fa
 | .odd _=>some .row
 | .row r=>vdR ps r
noncomputable def nxR(k:Nat)(ps:List (Nat × Row))(r:Row):List (Nat × Row):=if r.isOpen then ps++[(k,r)] else if r.isFin then ps.dropLast else ps
def nx(k:Nat)(ps:List (Nat × Row)):Any->List (Nat × Row)
 | .odd _=>ps
 | .row r=>nxR k ps r
def runV:List Any->Nat->List (Nat × Row)->Option (Fa × Nat) × List (Nat × Row)
 | [],_,ps=>(none,ps)
 | a::l,k,ps=>(vd ps a).elim (runV l (k+1) (nx k ps a)) λf=>(some (f,k),ps)
theorem vo(a:Any)(l:List Any)(k:Nat)(ps:List (Nat × Row)):runV (a::l) k ps=(vd ps a).elim (runV l (k+1) (nx k ps a)) λf=>(some (f,k),ps):=rfl
noncomputable def endV(ps:List (Nat × Row)):Option (Fa × Nat):=ps.getLast?.map λp=>(Fa.fin,p.1)
def verd(l:List Any):Option (Fa × Nat):=(runV l 0 []).1.or (endV (runV l 0 []).2)
theorem vp(k:Nat)(ps:List (Nat × Row))(a:Any)(h:ps.length<=k):(nx k ps a).length<=k+1:=by
 induction a with
 | odd=>exact Yy h
 | row r=>
  show (nxR k ps r).length<=_;unfold nxR;split
  ·rw [QW];exact QT h
  ·split
   ·rw [List.length_dropLast];exact QQ (Y6 _ _) (Yy h)
   ·exact Yy h
section
variable {Φ:Str->List D->Option D}{Γ:Str->Option D}{m:St}{ow:List Nat}{fr:Bool}{N:Nat}
theorem z7(F:Fa->Nat->Bool × D)(S:Nat->List (Nat × Row)->St->Prop) 
 (hb:∀ (k:Nat) (ps:List (Nat × Row)) (a:Any) (m:St),k < n->a.Ok->S k ps m->Oc (b [.int (k:Int),a.d] m) ((vd ps a).map λf=>F f k) (S (k+1) (nx k ps a))) :
 ∀ (l:List Any) (k:Nat) (ps:List (Nat × Row)) (m:St),k+l.length=n->(∀ a ∈ l,a.Ok)->S k ps m->Oc (forL b (enumL k (l.map Any.d)) m) ((runV l k ps).1.map λp=>F p.1 p.2) (S n (runV l k ps).2):=by
 intro l;induction l with
 | nil=>
  intro k ps m e ok h;rw [QP,Nat.add_zero] at e;exact ⟨m,rfl,e ▸ h⟩
 | cons a l ih=>
  intro k ps m e ok h;rw [QV] at e;refine have e1:k+1+l.length=n:=(by rw [<- e,Nat.add_assoc,Nat.add_comm 1]);?_;refine have s:=hb k ps a m (e1 ▸ Qe (QA k) (QI _ _)) (ok a (.head _)) h;?_;rw [vo];rw [QX,ei];induction hv:vd ps a with
  | none=>
   rw [hv] at s;obtain ⟨m1,e1',q1⟩:=s;have:=ih (k+1) (nx k ps a) m1 e1 (λx hx=>ok x (.tail _ hx)) q1;show Oc (match b [.int (k:Int),a.d] m with | some (.next,m')=>forL b (enumL (k+1) (l.map Any.d)) m' | some (.ret d,m')=>some (.ret d,m') | some (.exc d,m')=>some (.exc d,m') | none=>none) _ _;exact e1' ▸ this
  | some f=>
   rw [hv] at s;obtain ⟨m1,e1'⟩:=s;replace e1':b [.int (k:Int),a.d] m=some (stF (F f k),m1):=e1';refine ⟨m1,?_⟩;show (match b [.int (k:Int),a.d] m with | some (.next,m')=>forL b (enumL (k+1) (l.map Any.d)) m' | some (.ret d,m')=>some (.ret d,m') | some (.exc d,m')=>some (.exc d,m') | none=>none)=_;rw [e1'];show _=some (stF (F f k),m1);generalize F f k=p;obtain ⟨c,d⟩:=p;induction c<;>rfl
theorem qM(F:Fa->Nat->Bool × D)(S:Nat->List (Nat × Row)->St->Prop)(ok:∀ a ∈ l,a.Ok)(hi:evE Φ Γ e m=some (.list (l.map Any.d)))(h0:S 0 [] m)
 (hb:∀ (k:Nat) (ps:List (Nat × Row)) (a:Any) (m:St),k < l.length->a.Ok->S k ps m->Oc (exSs Φ Γ ow fr N body ((m.set i (some (.int (k:Int)))).set j (some a.d))) ((vd ps a).map λf=>F f k) (S (k+1) (nx k ps a))) :
 Oc (exS Φ Γ ow fr N (.for2 i j (.enum e) body) m) ((runV l 0 []).1.map λp=>F p.1 p.2) (S l.length (runV l 0 []).2):=by
 rw [n8,fO hi,bX];exact z7 (b:=λvs m=>match vs with | [x,y]=>exSs Φ Γ ow fr N body (setV (setV m i x) j y) | _=>none) F S hb l 0 [] m (Zc _) ok h0
theorem z8{o2:Option (Bool × D)}(h:evEs Φ Γ es m=some xs)(k:Say Φ f xs o)(k2:(o.map λe=>(false,e))=none->Oc (exSs Φ Γ ow fr N r m) o2 Q):Oc (exSs Φ Γ ow fr N (.cons (.exr f es) r) m) ((o.map λe=>(false,e)).or o2) Q:=cX (mj h k) λnb Z e=>e ▸ k2 nb
theorem vq{o2:Option (Bool × D)}(h:evE Φ Γ c m=some (.bool b))(ht:b=true->Oc (exSs Φ Γ ow fr N t m) o (· = m))(k:Oc (exSs Φ Γ ow fr N r m) o2 Q):Oc (exSs Φ Γ ow fr N (.cons (.ite c t .nil) r) m) ((if b then o else none).or o2) Q:=cX (Q':=(· = m)) (qJ h ht λZ=>rfl) λZ Z e=>e ▸ k
end
theorem qN(ps:List (Nat × Row))(h:r.isDeed=false):vdH ps r=none:=by induction r<;>first | rfl | exact nT h
theorem nE(ps:List (Nat × Row))(h:r.isNamed=false):vdF ps r=none:=by induction r<;>first | rfl | exact nT h
theorem z9(b:Bool)(o:Option Fa)(j:Int)(h:b=false->o=none):(if b then (o.map (Fa.x j)).map λe=>(false,e) else none)=((o.map (Fa.x j)).map λe=>(false,e):Option (Bool × D)):=by
 induction b with
 | true=>rfl
 | false=>exact (h rfl) ▸ rfl
theorem xL(ps:List (Nat × Row))(r:Row)(j:Int):((vdR ps r).map λf=>(false,Fa.x j f))=(((vdB ps r).map (Fa.x j)).map λe=>(false,e)).or ((((vdH ps r).map (Fa.x j)).map λe=>(false,e)).or (((vdF ps r).map (Fa.x j)).map λe=>(false,e)):Option (Bool × D)):=by
 unfold vdR;induction vdB ps r<;>(induction vdH ps r<;>(induction vdF ps r<;>rfl))
def ckS(l:List Any)(ps:List (Nat × Row))(x:Option D × Option D):St:=[some (.list (l.map Any.d)),some (.list (ps.map blD)),x.1,x.2]
theorem Aa{ps ps' ps'':List (Nat × Row)}{x:Option D × Option D}{l1:List D}(e:ps''=ps')(h:ps'.map blD=l1):(ckS l ps x).set 1 (some (.list l1))=ckS l ps'' x:=e ▸ h ▸ rfl
section
variable (Φ:Str->List D->Option D)(Γ:Str->Option D)(N:Nat)
theorem nG(G:Gok Γ)(hl:l.length<=1000)(ok:∀ a ∈ l,a.Ok)
 (hrow:∀ a:Any,a.Ok->Φ "is_row" [a.d]=some (.bool a.isR))
 (hnb:∀ (ps:List (Nat × Row)) (r:Row) (j:Int),Say Φ "need_block" [.list (ps.map blD),.int j,r.d] ((vdB ps r).map (Fa.x j)))
 (hnh:∀ (ps:List (Nat × Row)) (v:Verb) (w:Str) (j:Int),Say Φ "need_hand" [.list (ps.map blD),.int j,(Row.deed v w).d] ((vdH ps (.deed v w)).map (Fa.x j)))
 (hnf:∀ (ps:List (Nat × Row)) (r:Row),r.isNamed=true->∀ j:Int,Say Φ "need_free" [.list (ps.map blD),.int j,r.d] ((vdF ps r).map (Fa.x j)))
 (hbo:∀ {r:Row},r.isOpen=true->∀ j:Nat,Φ "block_of" [.int (j:Int),r.d]=some (blkD j r)) :
 Oc (exSs Φ Γ fnchecked.ow fnchecked.fr N fnchecked.body [some (.list (l.map Any.d)),none,none,none]) (((verd l).map λp=>Fa.x p.2 p.1).map λe=>(false,e)) (λZ=>True):=by
 refine have key:(((verd l).map λp=>Fa.x p.2 p.1).map λe=>(false,e))=((runV l 0 []).1.map λp=>(false,Fa.x p.2 p.1)).or ((if !(runV l 0 []).2.isEmpty then (endV (runV l 0 []).2).map λp=>(false,Fa.x p.2 p.1) else none).or none):=(by
  unfold verd;rw [Option.or_none];induction (runV l 0 []).1 with
  | some p=>rfl
  | none=>
   induction (runV l 0 []).2 using lc with
   | nil=>rfl
   | cons p q=>rw [Option.none_or];induction endV (p::q)<;>rfl);?_
 rw [key];refine eM (.list []) rfl rfl (cX (qM (F:=λf k=>(false,Fa.x k f)) (S:=λk ps m=>ps.length<=k/\∃ x,m=ckS l ps x) ok rfl ⟨QO _,(none,none),rfl⟩ λk ps a m hk ha hS=>?_) ?_)
 ·obtain ⟨hp,x,rfl⟩:=hS
  have hr:=hrow a ha;induction a with
  | odd d=>exact jG (cw (b:=false) (af (esC rfl es0) hr)) (cY rfl)
  | row r=>
   refine (?_:Oc (exSs Φ Γ _ _ N _ (ckS l ps (some (.int k),some r.d))) ((vdR ps r).map λf=>(false,Fa.x k f)) _);rw [xL,<- z9 r.isDeed (vdH ps r) k (qN ps),<- z9 r.isNamed (vdF ps r) k (nE ps),<- Option.or_none (o:=if r.isNamed then _ else none)];refine qK (cw (b:=true) (af (esC rfl es0) hr)) (z8 (esC rfl (esC rfl (esC rfl es0))) (hnb ps r k) λnb=>vq (ai (ag rfl rfl (Row.i0 r)) rfl (tQ r)) (λq=>?_) (vq (ai (ag rfl rfl (Row.i0 r)) rfl (qI r)) (λq=>qL (esC rfl (esC rfl (esC rfl es0))) (hnf ps r q k) rfl) ?_))
   ·clear hr ha key hnf hnb hrow ok;induction r with
    | deed v w=>exact qL (esC rfl (esC rfl (esC rfl es0))) (hnh ps v w k) rfl
    | _=>exact nF q
   refine (?_:Go (exSs Φ Γ _ _ N _ (ckS l ps (some (.int k),some r.d))) λm=>(nxR k ps r).length<=k+1/\∃ x,m=ckS l (nxR k ps r) x);have G2:(nxR k ps r).length<=k+1:=vp k ps (.row r) hp;have c1:=lW r;have c2:=Qf some (dB r);induction ho:r.isOpen with
   | true=>
    rw [ho] at c1;rw [ij ho] at c2;exact dT _ (ai (ag rfl rfl (Row.i0 r)) G.op c1) (bE rfl (af (esC rfl (esC rfl es0)) (hbo ho k)) rfl (by rw [lX];exact QQ hp (QQ (Qm hk) (QQ hl (by decide)))) (am rfl)) (ce (ai (ag rfl rfl (Row.i0 r)) rfl c2) (am ⟨G2,_,Aa (Ql ho:nxR k ps r=_) Qb⟩))
   | false=>
    rw [ho] at c1;refine ce (ai (ag rfl rfl (Row.i0 r)) G.op c1) ?_;induction hf:r.isFin with
    | true=>
     rw [hf] at c2;refine dT _ (ai (ag rfl rfl (Row.i0 r)) rfl c2) (jq rfl ?_ (am rfl)) (am ⟨G2,_,Aa ((Qu (YM.mp ho)).trans (Ql hf):nxR k ps r=_) Zu⟩);obtain rfl:r = .fin:=by clear c1 hr ha hk key hbo hnf hnh hnb hrow ok hl G;induction r<;>first | rfl | exact nF hf
     induction ps using lc with
     | nil=>exact nS nb
     | cons=>rfl
    | false=>
     rw [hf] at c2;exact ce (ai (ag rfl rfl (Row.i0 r)) rfl c2) (am ⟨G2,_,Qf (λz=>ckS l z _) ((Qu (YM.mp ho)).trans (Qu (YM.mp hf)):nxR k ps r=_).symm⟩)
 ·rintro _ _ ⟨hp,x,rfl⟩
  refine cX (qJ (Q:=λZ=>True) (ai rfl rfl (show (pyEq _ _).map (!·)=some (!(runV l 0 []).2.isEmpty) by rw [jE];rfl)) (λz=>?_) λZ=>trivial) λZ m e=>gK e;obtain ⟨p,h1,h2⟩:=mo (by rw [QS] at z;exact z);unfold endV;exact h1 ▸ (cY (ag (ag rfl rfl h2) rfl rfl))
end
noncomputable def kdP(p:Nat × Row):D × D:=(.str p.2.word,.str p.2.bk)
noncomputable def isNm(p:Nat × Row):Bool:=p.2.isNamed
def kds(ps:List (Nat × Row)):List (D × D):=(ps.filter isNm).map kdP
def wds(ps:List (Nat × Row)):List Str:=(ps.filter isNm).map λp=>p.2.word
structure Gd(ps:List (Nat × Row)):Prop where
 op:∀ p ∈ ps,p.2.isOpen=true
 ok:∀ p ∈ ps,p.2.Ok
 nd:(wds ps).Nodup
theorem jJ{r:Row}(h:r.isOpen=true)(hn:r.isNamed=false):r.word=("":Str) := by cases r<;>first | rfl | (cases hn;done) | (exact nF h;done)
theorem iA(hop:∀ p ∈ ps,p.2.isOpen=true)(hw:w ≠ ("":Str)):dFnd w (kds ps)=(aD ps w).map PyData.str/\(wds ps).any (λy=>y == w)=(aD ps w).isSome/\dHas w (kds ps)=(aD ps w).isSome:=by
 induction ps with
 | nil=>exact ⟨rfl,rfl,rfl⟩
 | cons p ps ih=>
  have i1:=(ih λq hq=>hop q (.tail _ hq)).1;have i2:=(ih λq hq=>hop q (.tail _ hq)).2.1;have i3:=(ih λq hq=>hop q (.tail _ hq)).2.2;induction hn:isNm p with
  | false=>
   refine have e:(p.2.word == w)=false:=beq_eq_false_iff_ne.mpr λe=>hw (e ▸ jJ (hop p (.head _)) hn);?_;refine have h1:aD (p::ps) w=aD ps w:=(by unfold aD;rw [List.find?_cons,e]);?_;refine have h2:kds (p::ps)=kds ps:=(by unfold kds;rw [ZF,hn];rfl);?_;refine have h3:wds (p::ps)=wds ps:=(by unfold wds;rw [ZF,hn];rfl);?_;exact h1 ▸ h2 ▸ h3 ▸ (⟨i1,i2,i3⟩)
  | true=>
   refine have h2:kds (p::ps)=kdP p::kds ps:=(by unfold kds;rw [ZF,hn];rfl);?_;refine have h3:wds (p::ps)=p.2.word::wds ps:=(by unfold wds;rw [ZF,hn];rfl);?_;rw [h2,h3];induction e:p.2.word == w with
   | true=>
    refine have h1:aD (p::ps) w=some p.2.bk:=(by unfold aD;rw [List.find?_cons,e];rfl);?_;refine have hk:(strK (kdP p).1 == some w)=true:=e;?_;rw [h1];refine ⟨?_,?_,?_⟩
    ·unfold dFnd;rw [List.find?_cons,hk];rfl
    ·rw [Yk,e];rfl
    ·unfold dHas;rw [Yk,hk];rfl
   | false=>
    refine have h1:aD (p::ps) w=aD ps w:=(by unfold aD;rw [List.find?_cons,e]);?_;refine have hk:(strK (kdP p).1 == some w)=false:=e;?_;rw [h1];refine ⟨?_,?_,?_⟩
    ·unfold dFnd;rw [List.find?_cons,hk];exact i1
    ·rw [Yk,e];exact i2
    ·unfold dHas;rw [Yk,hk];exact i3
theorem tT(l:List (Nat × Row)):gR (l.map kdP)=some (l.map λp=>p.2.word):=by
 induction l with
 | nil=>rfl
 | cons p l ih=>show ((gR (l.map kdP)).map λxs=>p.2.word::xs)=_;rw [ih];rfl
theorem mq(h:(wds ps).Nodup):dictOk (kds ps)=true:=by
 unfold dictOk;refine have h1:gR (kds ps)=some (wds ps):=tT _;?_;rw [h1,Xq,Qn h,Bool.true_and,ZK];intro x hx;obtain ⟨p,_,rfl⟩:=QG.mp hx;rfl
theorem jK(G:Gd ps)(hw:w ≠ ("":Str)):pyIn (.str w) (.dict (kds ps))=some (aD ps w).isSome:=by
 show (if dictOk (kds ps) then some (dHas w (kds ps)) else none)=_;rw [Ql (mq G.nd),(iA G.op hw).2.2]
theorem qO(G:Gd ps)(hw:w ≠ ("":Str))(z:Str):dGet (.dict (kds ps)) (.str w) (.str z)=some (.str ((aD ps w).getD z)):=by
 show (if dictOk (kds ps)&&true then some ((dFnd w (kds ps)).getD (.str z)) else none)=_;rw [mq G.nd,XZ,Ql rfl,(iA G.op hw).1];induction aD ps w<;>rfl
section
variable {Φ:Str->List D->Option D}{Γ:Str->Option D}{m:St}{ow:List Nat}{fr:Bool}{N:Nat}
theorem vr(hm:m[i]?=some (some (.dict kvs)))(he:evE Φ Γ e m=some (.str x))(hx:evE Φ Γ ix m=some (.str s))(hok:dictOk kvs=true)(hl:kvs.length<=2 ^ 20)(hn:dHas s kvs=false)(k:Go (exSs Φ Γ ow fr N r (m.set i (some (.dict (kvs++[(.str s,.str x)]))))) Q):Go (exSs Φ Γ ow fr N (.cons (.seti i ix e) r) m) Q:=by
 obtain ⟨m2,e2,q2⟩:=k;refine ⟨m2,(aP ?_).trans e2,q2⟩;rw [iI,he,hm,hx];show (if dictOk kvs&&true&&decide (kvs.length<=2 ^ 20) then some (Fl.next,setV m i (.dict (dPut s (.str x) kvs))) else none)=_;rw [hok,Qn hl,Ql (show (true&&true&&true)=true from rfl)];unfold dPut;rw [hn];rfl
theorem qP(h1:evE Φ Γ a m=some x)(h2:evE Φ Γ k m=some y)(h3:evE Φ Γ d m=some z)(h4:dGet x y z=some v):evE Φ Γ (.get a k d) m=some v:=by rw [yh,h1,h2,h3];exact h4
end
noncomputable def wdO:Option Fa->Str
 | none => ""
 | some f=>f.wd
theorem mr(h:(wds ps).Nodup)(hj:ps[j]?=some p)(hn:isNm p=true):kds (ps.take (j+1))=kds (ps.take j)++[kdP p]/\dHas p.2.word (kds (ps.take j))=false/\dictOk (kds (ps.take j))=true:=by
 refine have ht:ps.take (j+1)=ps.take j++[p]:=(by rw [ZU,hj];rfl);?_
 refine have hs:ps=ps.take j++p::ps.drop (j+1):=(by
  have hlt:=(Qq hj).1;have:=(Qq hj).2
  rw [<- this,List.getElem_cons_drop,List.take_append_drop]);?_
 refine have hw:wds ps=wds (ps.take j)++(p.2.word::wds (ps.drop (j+1))):=(by
  conv=>lhs;rw [hs]
  unfold wds
  rw [Zw,Qb,ZF,hn];rfl);?_
 rw [hw,YI] at h;refine ⟨by unfold kds;rw [ht,Zw,Qb,ZF,hn];rfl,?_,mq h.1⟩;induction q:dHas p.2.word (kds (ps.take j)) with
 | false=>rfl
 | true=>
  unfold dHas kds at q;rw [List.any_map] at q;obtain ⟨x,hx,e⟩:=Q2.mp q;refine have e:x.2.word=p.2.word:=Q4 (show (x.2.word == p.2.word)=true from e);?_;exact absurd e (h.2.2 _ (QG.mpr ⟨x,hx,rfl⟩) _ (.head _))
theorem jL{ps:List (Nat × Row)}{j:Nat}{p:Nat × Row}(hj:ps[j]?=some p)(hn:isNm p=false):kds (ps.take (j+1))=kds (ps.take j):=by
 refine have ht:ps.take (j+1)=ps.take j++[p]:=(by rw [ZU,hj];rfl);?_;unfold kds;rw [ht,Zw,Qb,ZF,hn];exact Xj _
theorem xM(ps:List (Nat × Row)):(kds ps).length<=ps.length:=by
 unfold kds;rw [lX];exact Zz _ _
def uS(r:Row)(ps:List (Nat × Row))(kd:List (D × D))(x y:Option D):St:=[some r.d,some (.list (ps.map λp=>p.2.d)),some (.dict kd),x,y]
section
variable (Φ:Str->List D->Option D)(Γ:Str->Option D)(N:Nat)
set_option tactic.hygienic true in
theorem jM{ps:List (Nat × Row)}(G:Gd ps)(hl:ps.length<=1000){r:Row}(ok:r.Ok):runFn Φ Γ N fn_law_due_words [r.d,.list (ps.map λp=>p.2.d)]=some (.str (wdO ((vdH ps r).or (vdF ps r)))):=by
 refine au [some r.d,some (.list (ps.map λp=>p.2.d)),none,none,none] rfl rfl (bv (.dict []) rfl rfl (bj (Q':=λm=>∃ x,m=uS r ps (kds ps) x none) ((cb (λj m=>∃ x,m=uS r ps (kds (ps.take j)) x none) (bt (g:=λp:Nat × Row=>p.2.d) rfl) rfl ⟨none,rfl⟩ λj vs m hj hI=>?_).mono λm h=>by rw [lX,Z8] at h;exact h) ?_))
 ·obtain ⟨x,rfl⟩:=hI
  rw [Qy] at hj;obtain ⟨p,hp,rfl⟩:=QK hj;refine ⟨_,rfl,?_⟩;refine have hlen:(kds (ps.take j)).length<=2 ^ 20:=QQ (xM _) (QQ (List.length_take_le' _ _) (QQ hl (by decide)));?_;refine have hop:=G.op p (Qa hp);?_;obtain ⟨i,y⟩:=p;refine (?_:Go (exSs Φ Γ [2] true N _ (uS r ps (kds (ps.take j)) (some y.d) none)) λm=>∃ x,m=uS r ps (kds (ps.take (j+1))) x none);clear hj hl;induction y with
  | lend w q s=>
   have t:=mr G.nd hp rfl;exact dT _ rfl (vr rfl rfl rfl t.2.2 hlen t.2.1 (am rfl)) (ce rfl (am ⟨_,Qf (λz=>uS r ps z _ none) t.1.symm⟩))
  | pick w ts=>
   have t:=mr G.nd hp rfl;exact ce rfl (dT _ rfl (vr rfl rfl rfl t.2.2 hlen t.2.1 (am rfl)) (am ⟨_,Qf (λz=>uS r ps z _ none) t.1.symm⟩))
  | either=>exact ce rfl (ce rfl (am ⟨_,Qf (λz=>uS r ps z _ none) (jL hp rfl).symm⟩))
  | again=>exact ce rfl (ce rfl (am ⟨_,Qf (λz=>uS r ps z _ none) (jL hp rfl).symm⟩))
  | _=>exact nF hop
 ·rintro _ ⟨x,rfl⟩
  induction r with
  | deed v w=>
   refine aB (x:=.bool true) (by induction v<;>rfl) rfl (an (.str ((aD ps w).getD "pick")) (qP rfl rfl rfl (qO G (aO ok) "pick")) rfl ?_);induction hq:aD ps w with
   | none=>exact (xH hq) ▸ (aB (x:=.bool true) rfl rfl (ah rfl (bK rfl)))
   | some k=>
    rw [xJ hq,show vdF ps (.deed v w)=none from rfl,Option.or_none];refine bh (f:=λo=>.str (wdO o)) rfl Iff.rfl (λZ=>ah rfl (bK rfl)) λZ=>ah (ag rfl (aK (aq (b:=v == .change) (c:=k == ("read":Str)) (by induction v<;>rfl) λZ=>rfl) rfl) ?_) (bK rfl);induction (v == .change)&&(k == ("read":Str))<;>rfl
  | lend w q s=>
   induction s with
   | th i=>
    refine bg 2 rfl (bh (f:=λo=>.str (wdO o)) (aS rfl (ai rfl rfl (jK G (aO ok.1)))) Iff.rfl (λZ=>ah rfl (bK rfl)) λZ=>aW (x:=.bool (true&&(q&&false))) (aq rfl λZ=>aq (c:=false) (by induction q<;>rfl) λZ=>(bQ ..).trans (ai (x:=.str "") (y:=.str "read") (qP rfl rfl rfl ?_) rfl rfl)) (by induction q<;>rfl) (ah rfl (bK rfl)));exact Qf (λb:Bool=>if b&&true then _ else none) (mq G.nd)
   | hd u=>
    refine bg 1 rfl ?_;induction hq:aD ps u with
    | none=>exact (tR hq) ▸ (aB (aq rfl λZ=>aq rfl λZ=>(bQ ..).trans (ai rfl rfl (Qf (Option.map (!·)) (jK G (aO ok.2))))) (hq ▸ rfl) (ah rfl (bK rfl)))
    | some k=>
     rw [tS hq];exact aW (aq rfl λZ=>aq rfl λZ=>(bQ ..).trans (ai rfl rfl (Qf (Option.map (!·)) (jK G (aO ok.2))))) (hq ▸ rfl) (bh (f:=λo=>.str (wdO o)) (aS rfl (ai rfl rfl (jK G (aO ok.1)))) Iff.rfl (λZ=>ah rfl (bK rfl)) λZ=>bh (f:=λo=>.str (wdO o)) (aq (b:=true) rfl λZ=>aq (b:=q) (by induction q<;>rfl) λZ=>(bQ ..).trans (ai (x:=.str k) (y:=.str "read") (qP (y:=.str u) rfl rfl rfl (by rw [qO G (aO ok.2),hq];rfl)) rfl rfl)) Iff.rfl (λZ=>ah rfl (bK rfl)) λZ=>ah rfl (bK rfl))
  | pick w ts=>exact bg 2 rfl (bh (f:=λo=>.str (wdO o)) (aS rfl (ai rfl rfl (jK G (aO ok.1)))) Iff.rfl (λZ=>ah rfl (bK rfl)) λZ=>bg 1 rfl (ah rfl (bK rfl)))
  | _=>exact bg 4 rfl (ah rfl (bK rfl))
end
theorem tU(h:vdT ps w o=none):(aD ps w).isSome=false/\o=none:=by
 unfold vdT at h;induction q:(aD ps w).isSome with
 | true=>rw [q] at h;exact nS h
 | false=>rw [q] at h;exact ⟨rfl,h⟩
theorem k9(hn:r.isNamed=true)(h:vdF ps r=none):(aD ps r.word).isSome=false:=by
 induction r with
 | lend w q s=>
  induction s with
  | th i=>exact (tU h).1
  | hd u=>
   induction hq:aD ps u with
   | none=>exact nS ((tR hq).symm.trans h)
   | some k=>rw [tS hq] at h;exact (tU h).1
 | pick w ts=>exact (tU h).1
 | _=>exact nF hn
theorem Ab(h:vdR ps r=none):vdB ps r=none/\vdH ps r=none/\vdF ps r=none:=by
 unfold vdR at h;induction a:vdB ps r with
 | some=>exact nS (a ▸ h)
 | none=>
  rw [a] at h;induction b:vdH ps r with
  | some=>exact nS (b ▸ h)
  | none=>rw [b] at h;exact ⟨rfl,rfl,h⟩
theorem Gd.nx(G:Gd ps)(ok:a.Ok)(h:vd ps a=none):Gd (nx k ps a):=by
 induction a with
 | odd=>exact nS h
 | row r=>
  show Gd (nxR k ps r);unfold nxR;induction ho:r.isOpen with
  | true=>
   refine ⟨λp hp=>(QY hp).elim (G.op p) λq=>?_,λp hp=>(QY hp).elim (G.ok p) λq=>?_,?_⟩
   ·exact (Qx q) ▸ ho
   ·exact (Qx q) ▸ ok
   ·show (wds (ps++[(k,r)])).Nodup
    refine have e:wds (ps++[(k,r)])=wds ps++wds [(k,r)]:=(by unfold wds;rw [Zw,Qb]);?_;rw [e];induction hn:isNm (k,r) with
    | false=>
     refine have:wds [(k,r)]=[]:=(by unfold wds;rw [ZF,hn];rfl);?_;rw [this,Xj];exact G.nd
    | true=>
     refine have:wds [(k,r)]=[r.word]:=(by unfold wds;rw [ZF,hn];rfl);?_;rw [this,YI];refine ⟨G.nd,Q8.mpr ⟨YJ,ZL⟩,λx hx y hy q=>?_⟩;refine have hw:r.word ≠ ("":Str) := aO (Row.Ok.word ok hn);?_;have:=(iA G.op hw).2.1;rw [k9 hn (Ab h).2.2] at this;refine Yd.mp this x hx ?_;exact q ▸ (Qx hy) ▸ (Zh _)
  | false=>
   induction r.isFin with
   | false=>exact G
   | true=>
    refine have hs:=ZR ps;?_;exact ⟨λp hp=>G.op p (hs.subset hp),λp hp=>G.ok p (hs.subset hp),G.nd.sublist ((hs.filter _).map _)⟩
noncomputable def fD(f:Fa)(k:Nat):Bool × D:=(true,.tuple [.str f.wd,.int (k:Int)])
noncomputable def dueD:Option (Fa × Nat)->D
 | none=>.tuple [.str "",.int (-1)]
 | some p=>.tuple [.str p.1.wd,.int (p.2:Int)]
theorem Bl(f:Fa):(f.wd == ("":Str))=false:=by induction f<;>rfl
theorem qQ(ps:List (Nat × Row))(r:Row):vdB ps r=if (r.isFin&&ps.isEmpty)||(r.isOr&&(ps.isEmpty||!(ps.getLast?.any isEi))) then some .block else none:=by
 induction r with
 | fin=>unfold vdB;induction ps.isEmpty<;>rfl
 | orr=>unfold vdB;induction ps.isEmpty<;>(induction ps.getLast?.any isEi<;>rfl)
 | _=>rfl
theorem Ac{α:Type}(xs:List α)(f:α->D):br .Eq (.int ((xs.map f).length:Int)) (.int 0)=some xs.isEmpty:=by
 induction xs using lc with
 | nil=>rfl
 | cons a l=>exact Qf some (beq_eq_false_iff_ne.mpr λh=>nomatch (Int.ofNat.inj h:(l.map f).length+1=0))
noncomputable def dS(R:D)(ps:List (Nat × Row))(x:Option D × Option D × Option D):St:=[some R,some (.list (ps.map λp=>p.2.d)),some (.list (ps.map λp=>.int (p.1:Int))),x.1,x.2.1,x.2.2]
theorem Ad(e:ps''=ps')(h1:ps'.map (λp=>p.2.d)=l1)(h2:ps'.map (λp=>.int (p.1:Int))=l2):((dS R ps x).set 1 (some (.list l1))).set 2 (some (.list l2))=dS R ps'' x:=e ▸ h1 ▸ h2 ▸ rfl
section
variable (Φ:Str->List D->Option D)(Γ:Str->Option D)(N:Nat)
set_option tactic.hygienic true in
theorem Ae(hl:l.length<=1000)(ok:∀ a ∈ l,a.Ok)(hrow:∀ a:Any,a.Ok->Φ "_law_is_row" [a.d]=some (.bool a.isR))
 (hdw:∀ ps:List (Nat × Row),Gd ps->ps.length<=1000->∀ r:Row,r.Ok->Φ "_law_due_words" [r.d,.list (ps.map λp=>p.2.d)]=some (.str (wdO ((vdH ps r).or (vdF ps r))))) :
 runFn Φ Γ N fn_law_due [.list (l.map Any.d)]=some (dueD (verd l)):=by
 refine xG (Q:=λZ=>True) [some (.list (l.map Any.d)),none,none,none,none,none] rfl rfl ?_;generalize hR:PyData.list (l.map Any.d)=R
 refine have key:some (true,dueD (verd l))=((runV l 0 []).1.map λp=>fD p.1 p.2).or ((if !(runV l 0 []).2.isEmpty then (endV (runV l 0 []).2).map λp=>fD p.1 p.2 else none).or (some (true,.tuple [.str "",.int (-1)]))):=(by
  unfold verd;induction (runV l 0 []).1 with
  | some p=>rfl
  | none=>
   induction (runV l 0 []).2 using lc with
   | nil=>rfl
   | cons p q=>
    have:∃ x,endV (p::q)=some x:=by unfold endV;exact (List.getLast?_cons) ▸ (⟨_,rfl⟩)
    obtain ⟨x,hx⟩:=this
    exact hx ▸ rfl);?_
 rw [key];refine eM (.list []) rfl rfl (eM (.list []) rfl rfl ?_);refine cX (qM (F:=fD) (S:=λk ps m=>ps.length<=k/\Gd ps/\∃ x,m=dS R ps x) ok (hR ▸ rfl) ⟨QO _,⟨(λZ z=>(YJ z).elim),(λZ z=>(YJ z).elim),ZL⟩,(none,none,none),rfl⟩ λk ps a m hk ha hS=>?_) ?_
 ·obtain ⟨hp,G,x,rfl⟩:=hS
  have hr:=hrow a ha;induction a with
  | odd d=>exact jG (cw (b:=false) (af (esC rfl es0) hr)) (jF rfl rfl)
  | row r=>
   refine have hp1:ps.length<=1000:=QQ hp (QQ (Qm hk) hl);?_;have dw:=hdw ps G hp1 r ha
   refine have e2:((vdR ps r).map λf=>fD f k)=(if (r.isFin&&ps.isEmpty)||(r.isOr&&(ps.isEmpty||!(ps.getLast?.any isEi))) then some (fD .block k) else none).or ((if !(wdO ((vdH ps r).or (vdF ps r)) == ("":Str)) then some (true,.tuple [.str (wdO ((vdH ps r).or (vdF ps r))),.int (k:Int)]) else none).or none):=(by
    unfold vdR;rw [qQ,Option.or_none];induction (r.isFin&&ps.isEmpty)||(r.isOr&&(ps.isEmpty||!(ps.getLast?.any isEi))) with
    | true=>rfl
    | false=>
     induction (vdH ps r).or (vdF ps r) with
     | none=>rfl
     | some f=>exact (Ql (Qf (!·) (Bl f))).symm);?_
   refine (?_:Oc (exSs Φ Γ [1,2] false N _ (dS R ps (some (.int k),some r.d,x.2.2))) ((vdR ps r).map λf=>fD f k) _);rw [e2];refine qK (cw (b:=true) (af (esC rfl es0) hr)) (eg (fE (aq (ai (ag rfl rfl (Row.i0 r)) rfl (Qf some (dB r))) λZ=>ai rfl rfl (Ac ps _)) (aq (ai (ag rfl rfl (Row.i0 r)) rfl (Qf some (qh r))) λZ=>(bQ ..).trans (bo (ai rfl rfl (Ac ps _)) λz=>?_))) (λZ=>jF rfl rfl) λhb=>eM (.str (wdO ((vdH ps r).or (vdF ps r)))) (af (esC rfl (esC rfl es0)) dw) rfl (eg rfl (λZ=>jF rfl rfl) λhc=>?_))
   ·induction q:ps.getLast? with
    | none=>rw [List.getLast?_eq_none_iff.mp q] at z;exact nT z
    | some p=>exact ai (x:=.str p.2.tag) (y:=.str "either") (ag (ag rfl rfl (by rw [fJ,List.getLast?_map,q];rfl)) rfl (Row.i0 p.2)) rfl (Qf (λb=>some (!b)) (cO p.2))
   refine have hvn:vdR ps r=none:=(Option.map_eq_none_iff.mp (e2.trans (by rw [hb,hc];rfl)));?_;refine have G2:((nxR k ps r).length<=k+1)/\Gd (nxR k ps r):=⟨vp k ps (.row r) hp,Gd.nx (k:=k) G (a:=.row r) ha hvn⟩;?_;generalize wdO ((vdH ps r).or (vdF ps r))=y;refine (?_:Go (exSs Φ Γ [1,2] false N _ (dS R ps (some (.int k),some r.d,some (.str y)))) λm=>(nxR k ps r).length<=k+1/\Gd (nxR k ps r)/\∃ x,m=dS R (nxR k ps r) x);have lim:∀ {β:Type} (f:Nat × Row->β),(ps.map f).length<=2 ^ 22:=λf=>by rw [lX];exact QQ hp1 (by decide)
   have c1:=kO r;have c2:=Qf some (dB r);induction ho:r.isOpen with
   | true=>
    rw [ho] at c1;rw [ij ho] at c2;exact dT _ (ai (ag rfl rfl (Row.i0 r)) rfl c1) (bE rfl rfl r.noList (lim _) (bE rfl rfl rfl (lim _) (am rfl))) (ce (ai (ag rfl rfl (Row.i0 r)) rfl c2) (am ⟨G2.1,G2.2,_,Ad (Ql ho:nxR k ps r=_) Qb Qb⟩))
   | false=>
    rw [ho] at c1;refine ce (ai (ag rfl rfl (Row.i0 r)) rfl c1) ?_;induction hf:r.isFin with
    | true=>
     rw [hf] at c2;have hne:∀ {β:Type} (f:Nat × Row->β),(ps.map f).isEmpty=false:=λf=>by
      clear c1 lim hc hb e2 dw hp1 hr ha hk key hR hdw hrow ok hl;induction ps using lc with
      | nil=>rw [vdR,qQ,hf] at hvn;exact nS hvn
      | cons=>rfl
     exact dT _ (ai (ag rfl rfl (Row.i0 r)) rfl c2) (jq rfl (hne _) (jq rfl (hne _) (am rfl))) (am ⟨G2.1,G2.2,_,Ad ((Qu (YM.mp ho)).trans (Ql hf):nxR k ps r=_) Zu Zu⟩)
    | false=>
     rw [hf] at c2;exact ce (ai (ag rfl rfl (Row.i0 r)) rfl c2) (am ⟨G2.1,G2.2,_,Qf (λz=>dS R z _) ((Qu (YM.mp ho)).trans (Qu (YM.mp hf)):nxR k ps r=_).symm⟩)
 ·rintro _ _ ⟨hp,G,x,rfl⟩
  refine cX (qJ (Q:=λZ=>True) (ai rfl rfl (show some (decide ((0:Int) < (((runV l 0 []).2.map λp=>PyData.int (p.1:Int)).length:Int)))=some (!(runV l 0 []).2.isEmpty) by
   induction (runV l 0 []).2 using lc with
   | nil=>rfl
   | cons p q=>exact Qf some (Qn (QZ (Zm _))))) (λz=>?_) λZ=>trivial) λZ m Z=>jF rfl rfl
  unfold endV;induction q:(runV l 0 []).2.getLast? with
  | none=>rw [List.getLast?_eq_none_iff.mp q] at z;exact nF z
  | some p=>exact jF (aJ (esC rfl (esC (ag rfl rfl (by rw [fJ,List.getLast?_map,q];rfl)) es0))) rfl
end
noncomputable def osOf(ps:List (Nat × Row)):List Row:=(ps.map (·.2)).reverse
theorem mem_os:x ∈ osOf ps↔∃ p ∈ ps,p.2=x:=by
 unfold osOf;rw [ZD,QG]
theorem jN(G:Gd ps)(h:aD ps u=some k)(hu:u ≠ ("":Str)):∃ x ∈ osOf ps,x.isNamed=true/\x.word=u/\x.bk=k:=by
 obtain ⟨p,e,rfl⟩:=QK h;refine have hm:=YH e;?_;refine have hw:p.2.word=u:=Q4 (show (p.2.word == u)=true from List.find?_some (p:=λq:Nat × Row=>q.2.word == u) e);?_;refine ⟨p.2,mem_os.mpr ⟨p,hm,rfl⟩,?_,hw,rfl⟩;induction q:p.2.isNamed with
 | true=>rfl
 | false=>exact absurd (hw.symm.trans (jJ (G.op p hm) q)) hu
theorem gM(h:(aD ps w).isSome=false)(hw:w ≠ ("":Str)):fresh (osOf ps) w:=by
 refine ⟨hw,λx hx hn e=>?_⟩;clear hn hw;obtain ⟨p,hp,rfl⟩:=mem_os.mp hx
 refine have:ps.find? (λq=>q.2.word == w)=none:=(by
  unfold aD at h;induction q:ps.find? (λq=>q.2.word == w) with
  | none=>rfl
  | some=>rw [q] at h;exact nT h);?_
 exact Yb.mp this p hp (e ▸ (Zh _))
theorem V_of(G:Gd ps)(ok:r.Ok)(h:vdR ps r=none):V (osOf ps) r:=by
 obtain ⟨hb,hh,hf⟩:=Ab h;clear h;induction r with
 | lend w q s=>
  refine ⟨gM (k9 rfl hf) (aO ok.1),?_⟩;induction s with
  | th i=>trivial
  | hd u=>
   induction hq:aD ps u with
   | none=>rw [tR hq] at hf;exact nS hf
   | some k=>
    rw [tS hq] at hf;refine have hz:=(tU hf).2;?_;obtain ⟨x,h1,h2,h3,h4⟩:=jN G hq (aO ok.2);refine ⟨x,h1,h2,h3,λhl hw=>?_⟩;induction x with
    | lend w' q' s'=>
     replace hw:q'=false:=hw;subst hw;replace h4:("read":Str) = k:=h4;subst h4;induction q with
     | false=>rfl
     | true=>exact nS hz
    | _=>exact nF hl
 | pick w ts=>exact ⟨gM (k9 rfl hf) (aO ok.1),List.length_pos_iff.mp ok.2.1,ok.2.2.1⟩
 | either=>trivial
 | again=>trivial
 | orr=>
  show (osOf ps).head?.any Row.isEither=true;rw [qQ] at hb;unfold osOf;rw [List.head?_reverse,List.getLast?_map];induction q:ps.getLast? with
  | none=>rw [q,List.getLast?_eq_none_iff.mp q] at hb;exact nS hb
  | some p=>
   rw [q] at hb;induction z:isEi p with
   | true=>exact z
   | false=>
    rw [Xq,z] at hb;generalize ps.isEmpty=b at hb;induction b<;>exact nS hb
 | fin=>
  show osOf ps ≠ [];induction ps using lc with
  | nil=>exact nS hb
  | cons p q=>exact λe=>nomatch List.reverse_eq_nil_iff.mp e
 | deed v w=>
  induction hq:aD ps w with
  | none=>rw [xH hq] at hh;exact nS hh
  | some k=>
   rw [xJ hq] at hh;obtain ⟨x,h1,h2,h3,h4⟩:=jN G hq (aO ok);induction x with
   | lend w' q' s'=>
    refine ⟨_,h1,rfl,h3,λhv=>?_⟩;subst hv;induction q' with
    | true=>rfl
    | false=>
     replace h4:("read":Str) = k:=h4;subst h4;exact nS hh
   | pick w' ts'=>
    replace h4:("pick":Str) = k:=h4;subst h4;exact nS hh
   | _=>exact nF h2
theorem xN(k:Nat)(ps:List (Nat × Row))(r:Row):push r (osOf ps)=osOf (nxR k ps r):=by
 unfold push nxR osOf;induction r.isOpen with
 | true=>rw [Ql rfl,Ql rfl,Qb,List.reverse_append];rfl
 | false=>
  induction r.isFin with
  | true=>rw [Qu Qr,Ql rfl,Qu Qr,Ql rfl,Zu];exact (List.tail_reverse).symm ▸ rfl
  | false=>rfl
theorem xO:∀ (l:List Any) (k:Nat) (ps:List (Nat × Row)),Gd ps->(∀ a ∈ l,a.Ok)->(runV l k ps).1=none->(runV l k ps).2=[]->∃ rs:List Row,l=rs.map Any.row/\WfR (osOf ps) rs/\nest rs ps.length=some 0:=by
 intro l;induction l with
 | nil=>
  intro k ps G ok h1 h2;replace h2:ps=[]:=h2;subst h2;exact ⟨[],rfl,trivial,rfl⟩
 | cons a l ih=>
  intro k ps G ok h1 h2;rw [vo] at h1 h2;induction hv:vd ps a with
  | some f=>exact nS (hv ▸ h1)
  | none=>
   rw [hv] at h1 h2;refine have ha:=ok a (.head _);?_;obtain ⟨rs,e1,e2,e3⟩:=ih (k+1) (nx k ps a) (G.nx ha hv) (λx hx=>ok x (.tail _ hx)) h1 h2;clear h2 h1 ok ih;induction a with
   | odd=>exact nS hv
   | row r=>
    refine ⟨r::rs,by exact Qf _ e1,⟨V_of G ha hv,by rw [xN k];exact e2⟩,?_⟩;rw [lZ];replace e3:nest rs (nxR k ps r).length=some 0:=e3;unfold nxR at e3;induction ho:r.isOpen with
    | true=>rw [ho,Ql rfl,QW] at e3;exact (Ql rfl).trans e3
    | false=>
     rw [ho] at e3;induction hf:r.isFin with
     | false=>rw [hf] at e3;exact e3
     | true=>
      rw [hf,Qu Qr,Ql rfl,List.length_dropLast] at e3;rw [Qu Qr,Ql rfl];refine have hr:r = .fin:=(by induction r<;>first | rfl | exact nF hf);?_;subst hr;induction ps using lc with
      | nil=>exact nS hv
      | cons p q=>exact e3
theorem fine(ok:∀ a ∈ l,a.Ok)(h:verd l=none):∃ rs:List Row,l=rs.map Any.row/\WfR [] rs/\Nested rs:=by
 unfold verd at h;induction h1:(runV l 0 []).1 with
 | some=>exact nS (h1 ▸ h)
 | none=>
  rw [h1,Option.none_or] at h;obtain ⟨rs,e1,e2,e3⟩:=xO l 0 [] ⟨(λZ z=>(YJ z).elim),(λZ z=>(YJ z).elim),ZL⟩ ok h1 (List.getLast?_eq_none_iff.mp (Option.map_eq_none_iff.mp h));exact ⟨rs,e1,e2,qt e3⟩
noncomputable def opA:Any->List Bool->List Bool
 | .row r,st=>if r.isOpen then r.isLend::st else if r.isFin then st.tail else st
 | .odd _,st=>st
def rA(l:List Any)(st:List Bool):List Bool:=l.foldl (λst a=>opA a st) st
noncomputable def hc:List Bool->Nat
 | []=>0
 | b::l=>b.toNat+hc l
def mx:List Any->List Bool->Nat
 | [],st=>hc st
 | a::l,st=>max (hc st) (mx l (opA a st))
theorem jO(a b:List Any)(st:List Bool):rA (a++b) st=rA b (rA a st):=List.foldl_append
theorem Bm(l:List Any)(st:List Bool):hc st<=mx l st:=by
 induction l using lc with
 | nil=>exact QO _
 | cons a l=>exact Nat.le_max_left _ _
theorem gO{n:Nat}{a b:List Any}:∀ {st:List Bool},mx a st<=n->mx b (rA a st)<=n->mx (a++b) st<=n:=by
 induction a with
 | nil=>intro st _ h;exact h
 | cons x a ih=>intro st h k;exact XX.mpr ⟨(XX.mp h).1,ih (XX.mp h).2 k⟩
theorem qR(l:List Any):∀ (k:Nat) (st:List Bool),hc (rA (l.take k) st)<=mx l st:=by
 induction l with
 | nil=>intro k st;rw [List.take_nil];exact QO _
 | cons a l ih=>
  intro k st;induction k using nc with
  | zero=>exact Nat.le_max_left _ _
  | succ k=>exact QQ (ih k (opA a st)) (Nat.le_max_right _ _)
noncomputable def Rel1(s t:List Bool):Prop:=(List.Sublist s t/\t.length<=s.length+1)\/(List.Sublist t s/\s.length<=t.length+1)
theorem ms{s t:List Bool}(h:List.Sublist s t):hc t+s.length<=hc s+t.length/\hc s<=hc t:=by
 induction h with
 | slnil=>exact ⟨QO _,QO _⟩
 | @cons l1 l2 b h ih=>
  refine ⟨?_,QQ ih.2 (Nat.le_add_left _ _)⟩;show b.toNat+hc l2+l1.length<=hc l1+(l2.length+1);refine have:b.toNat<=1:=(by induction b<;>decide);?_;rw [Nat.add_assoc,Nat.add_comm,<- Nat.add_assoc];exact QC ih.1 this
 | @cons_cons l1 l2 b h ih=>
  refine ⟨?_,ZQ ih.2 _⟩;show b.toNat+hc l2+(l1.length+1)<=b.toNat+hc l1+(l2.length+1);rw [Nat.add_assoc,Nat.add_assoc,<- Nat.add_assoc (hc l2),<- Nat.add_assoc (hc l1)];exact ZQ (QT ih.1) _
theorem Rel1.hc{s t:List Bool}(h:Rel1 s t):hc t<=hc s+1:=by
 rcases h with ⟨h,k⟩ | ⟨h,k⟩
 ·have:=(ms h).1
  exact Nat.le_of_add_le_add_right (b:=s.length) (QQ this (by rw [Nat.add_assoc,Nat.add_comm 1];exact ZQ k _))
 ·exact Yy (ms h).2
theorem Rel1.symm{s t:List Bool}(h:Rel1 s t):Rel1 t s:=Or.symm h
theorem mu{s t:List Bool}(h:List.Sublist s t)(k:t.length<=s.length+1):List.Sublist s.tail t.tail/\t.tail.length<=s.tail.length+1:=by
 refine ⟨?_,?_⟩
 ·induction h with
  | slnil=>exact .slnil
  | cons b h=>exact (List.tail_sublist _).trans h
  | cons_cons b h=>exact h
 ·rw [List.length_tail,List.length_tail]
  exact QQ (Nat.sub_le_sub_right k 1) (by rw [Nat.add_sub_cancel];exact Nat.le_add_of_sub_le (QO _))
theorem Rel1.op{s t:List Bool}(h:Rel1 s t)(a:Any):Rel1 (opA a s) (opA a t):=by
 induction a with
 | odd=>exact h
 | row r=>
  show Rel1 (if r.isOpen then r.isLend::s else if r.isFin then s.tail else s) (if r.isOpen then r.isLend::t else if r.isFin then t.tail else t);induction r.isOpen with
  | true=>exact h.imp (λq=>⟨q.1.cons_cons _,QT q.2⟩) λq=>⟨q.1.cons_cons _,QT q.2⟩
  | false=>
   induction r.isFin with
   | true=>exact h.imp (λq=>mu q.1 q.2) λq=>mu q.1 q.2
   | false=>exact h
theorem Rel1.self(a:Any)(st:List Bool):Rel1 st (opA a st):=by
 refine have rf:Rel1 st st:=.inl ⟨List.Sublist.refl _,Zs _⟩;?_;induction a with
 | odd=>exact rf
 | row r=>
  show Rel1 st (if r.isOpen then r.isLend::st else if r.isFin then st.tail else st);induction r.isOpen with
  | true=>exact .inl ⟨(List.Sublist.refl _).cons _,QO _⟩
  | false=>
   induction r.isFin with
   | true=>exact .inr ⟨List.tail_sublist _,by show st.length<=st.tail.length+1;rw [List.length_tail];exact Nat.le_add_of_sub_le (QO _)⟩
   | false=>exact rf
theorem vt(l:List Any):∀ {s t:List Bool},Rel1 s t->mx l t<=mx l s+1:=by
 induction l with
 | nil=>intro s t h;exact h.hc
 | cons a l ih=>intro s t h;exact XX.mpr ⟨QQ h.hc (QT (Nat.le_max_left _ _)),QQ (ih (h.op a)) (QT (Nat.le_max_right _ _))⟩
theorem qS(A:List Any)(x:Any)(B:List Any):∀ st:List Bool,mx (A++x::B) st<=mx (A++B) st+1:=by
 induction A with
 | nil=>intro st;exact XX.mpr ⟨Yy (Bm B st),vt B (Rel1.self x st)⟩
 | cons a A ih=>intro st;exact XX.mpr ⟨Yy (Nat.le_max_left _ _),QQ (ih _) (QT (Nat.le_max_right _ _))⟩
theorem Af(A:List Any)(x:Any)(B:List Any):∀ st:List Bool,mx (A++B) st<=mx (A++x::B) st+1:=by
 induction A with
 | nil=>intro st;exact QQ (vt B (Rel1.self x st).symm) (QT (Nat.le_max_right _ _))
 | cons a A ih=>intro st;exact XX.mpr ⟨Yy (Nat.le_max_left _ _),QQ (ih _) (QT (Nat.le_max_right _ _))⟩
noncomputable def rws(l:List Row):List Any:=l.map Any.row
theorem eC(a b:List Row):rws (a++b)=rws a++rws b:=Qb
def nl(l:List Row):Nat:=hc (l.map Row.isLend)
theorem Bn(r:Row)(st:List Bool):hc (opA (.row r) st)<=hc st+r.isLend.toNat:=by
 show hc (if r.isOpen then r.isLend::st else if r.isFin then st.tail else st)<=_;induction r.isOpen with
 | true=>exact Zd (Nat.add_comm _ _)
 | false=>
  induction r.isFin with
  | true=>exact QQ (ms (List.tail_sublist _)).2 (QI _ _)
  | false=>exact QI _ _
theorem Bo(l:List Row):∀ st:List Bool,mx (rws l) st<=hc st+nl l:=by
 induction l with
 | nil=>intro st;exact QO _
 | cons r l ih=>
  intro st;refine XX.mpr ⟨QI _ _,QQ (ih _) ?_⟩;show _<=hc st+(r.isLend.toNat+nl l);rw [<- Nat.add_assoc];exact Zt (Bn r st) _
theorem Ag(one two:Int)(a b c:Str)(th:Int):nl (gad one two a b c th)<=3:=
 let P:List Row->Prop:=λl=>nl l<=3
 iteP (P:=P) (iteP (P:=P) (ZO rfl) (iteP (P:=P) (ZO rfl) (iteP (P:=P) (ZO rfl) (ZO rfl)))) (iteP (P:=P) (ZO rfl) (iteP (P:=P) (ZO rfl) (iteP (P:=P) (ZO rfl) (iteP (P:=P) (ZO rfl) (ZO rfl)))))
theorem Ah(one two:Int)(a b c:Str)(th:Int)(st:List Bool):rA (rws (gad one two a b c th)) st=st:=
 let P:List Row->Prop:=λl=>rA (rws l) st=st
 iteP (P:=P) (iteP (P:=P) rfl (iteP (P:=P) rfl (iteP (P:=P) rfl rfl))) (iteP (P:=P) rfl (iteP (P:=P) rfl (iteP (P:=P) rfl (iteP (P:=P) rfl rfl))))
theorem xP(l:List Row):hc (l.map Row.isLend)=(l.filter Row.isLend).length:=by
 induction l with
 | nil=>rfl
 | cons r l ih=>
  show r.isLend.toNat+hc (l.map Row.isLend)=_;rw [ih,ZF];induction r.isLend with
  | true=>exact Nat.add_comm _ _
  | false=>exact Zc _
theorem Ai(a b:List Bool):hc (a++b)=hc a+hc b:=by
 induction a with
 | nil=>exact (Zc _).symm
 | cons x a ih=>show x.toNat+hc (a++b)=x.toNat+hc a+hc b;rw [ih,Nat.add_assoc]
theorem qT(l:List Row):hc ((l.map Row.isLend).reverse)=(l.filter Row.isLend).length:=by
 rw [<- xP];induction l with
 | nil=>rfl
 | cons r l ih=>
  rw [QX,Z0,Ai,ih];exact Nat.add_comm _ _
theorem vw{r:Dr}(ok:r.Ok)(odd:Bool)(most:Int)(c:Nat->Int):∀ k,mx (rws (sheetAt odd most r c k).1) []<=6/\rA (rws (sheetAt odd most r c k).1) []=((sheetAt odd most r c k).2.map Row.isLend).reverse
 | 0=>⟨QF _,rfl⟩
 | k+1=>by
  refine have ih:=vw ok odd most c k;?_;refine have f0:=(iw ok odd most c k).2.2;?_;refine have f1:=(iw ok odd most c (k+1)).2.2;?_;refine have e:=fK odd most r c k;?_;generalize sheetAt odd most r c (k+1)=s' at e f1 ⊢;generalize sheetAt odd most r c k=s at ih e f0;unfold sheetStep at e;split at e
  ·rename_i h
   subst e;show mx (rws (s.1++_)) []<=6/\rA (rws (s.1++_)) []=_;rw [eC,jO,ih.2];refine ⟨gO ih.1 ?_,Ah ..⟩;rw [ih.2];refine QQ (Bo _ _) (QQ (QC ?_ (Ag ..)) (by decide:2+3<=6));rw [qT];exact QQ (by rw [(cnt2 s.2).2];exact QI _ _) (Q7 h.2.2)
  ·subst e
   generalize rowOf ((c (3 * k)).fmod most) (c (3 * k+1)) (c (3 * k+2)) s.2 r=x at f1 ⊢;show mx (rws (s.1++[x])) []<=6/\rA (rws (s.1++[x])) []=_;rw [eC,jO,ih.2]
   refine have hop:rA (rws [x]) ((s.2.map Row.isLend).reverse)=(((if x.isOpen then s.2++[x] else if x.isFin then s.2.dropLast else s.2).map Row.isLend).reverse):=(by
    show (if x.isOpen then x.isLend::(s.2.map Row.isLend).reverse else if x.isFin then (s.2.map Row.isLend).reverse.tail else (s.2.map Row.isLend).reverse)=_;induction x.isOpen with
    | true=>rw [Ql rfl,Ql rfl,Qb,List.reverse_append];rfl
    | false=>
     induction x.isFin with
     | true=>rw [Qu Qr,Ql rfl,Qu Qr,Ql rfl,Zu];exact (List.tail_reverse).symm ▸ rfl
     | false=>rfl);?_
   refine ⟨gO ih.1 ?_,hop⟩;rw [ih.2];refine XX.mpr ⟨by rw [qT];exact f0.1,?_⟩;show hc (rA (rws [x]) ((s.2.map Row.isLend).reverse))<=6;rw [hop,qT];exact f1.1
theorem xQ(l:List Row):∀ st:List Bool,mx (rws (l.map λZ=>Row.fin)) st<=hc st/\rA (rws (l.map λZ=>Row.fin)) st=st.drop l.length:=by
 induction l with
 | nil=>intro st;exact ⟨QO _,rfl⟩
 | cons r l ih=>
  intro st;refine ⟨XX.mpr ⟨QO _,QQ (ih st.tail).1 (ms (List.tail_sublist _)).2⟩,?_⟩;show rA (rws (l.map λZ=>Row.fin)) st.tail=_;rw [(ih st.tail).2,List.drop_tail];rfl
theorem xR(ns:List Int)(most:Int):mx (rws (onceOf ns most)) []<=6/\rA (rws (onceOf ns most)) []=[]:=by
 unfold onceOf eB;refine have h:=vw (jo ns) (decide (3 < (cellAt ns 2).fmod 8)) (js ((cellAt ns 2).fmod 8)) (λi=>cellAt ns (3+i)) (manyOf ns most);?_;generalize sheetAt _ _ _ _ _=s at h ⊢;refine have f:=xQ s.2 ((s.2.map Row.isLend).reverse);?_;rw [eC];refine ⟨gO h.1 (by rw [h.2];exact QQ f.1 (by rw [<- h.2,<- Z8 (l:=rws s.1)];exact QQ (qR _ _ _) h.1)),?_⟩;rw [jO,h.2,f.2];exact List.drop_eq_nil_of_le (by rw [Z5,lX];exact QO _)
theorem tV(ns:List Int)(most:Int):mx (rws (drawnOf ns most)) []<=6:=by
 refine have h:=xR ns most;?_;unfold drawnOf;split
 ·rw [eC,eC,eC]
  refine have r2:rA (rws (onceOf ns most)++rws (onceOf ns most)) []=[]:=(by rw [jO,h.2,h.2]);?_;refine have r3:rA (rws (onceOf ns most)++rws (onceOf ns most)++rws (onceOf ns most)) []=[]:=(by rw [jO,r2,h.2]);?_;exact gO (gO (gO h.1 (by rw [h.2];exact h.1)) (by rw [r2];exact h.1)) (by rw [r3];exact h.1)
 ·exact h.1
theorem qU(ns:List Int):(drawnOf ns 7).length<=80:=by
 refine have hm:=(qs ns 7 (by decide));?_;refine have h3:(onceOf ns 7).length<=12 * manyOf ns 7:=fL ..;?_;refine have l72:(onceOf ns 7).length<=72:=QQ h3 (Zj 12 (Q7 hm));?_;unfold drawnOf;split
 ·rename_i h
  have:=Q7 h.2;simp only [QW];exact QC (QC (QC this this) this) this
 ·exact QQ l72 (by decide)
def entL(held:List En)(w:Str)(wr:Bool):Src->En
 | .th i=>⟨w,kindS wr,i, "",true⟩
 | .hd u=>match aC held u with
  | some e=>⟨w,kindS wr,e.t,if e.k == ("pick":Str) then "" else e.w,e.o⟩
  | none=>⟨w,kindS wr,0, "",true⟩
noncomputable def gKv(g:List Str):List (D × D):=g.map λx=>(.str x,.bool true)
theorem vx:∀ g:List Str,gR (gKv g)=some g
 | []=>rfl
 | x::g=>by show ((some x).bind λx=>(gR (gKv g)).map λxs=>x::xs)=_;rw [vx g];rfl
theorem ok_g(h:g.Nodup):dictOk (gKv g)=true:=by
 unfold dictOk;rw [vx,Qj];refine ⟨by simpa using h,?_⟩;exact ZK.mpr λx hx=>by obtain ⟨e,_,rfl⟩:=QG.mp hx;rfl
theorem Aj(g:List Str)(x:Str):dHas x (gKv g)=g.any λy=>y == x:=by
 unfold dHas gKv;rw [List.any_map];congr 1
theorem Bp(g:List Str)(x:Str):dPut x (.bool true) (gKv g)=gKv (if g.any λy=>y == x then g else g++[x]):=by
 unfold dPut;rw [Aj];split
 ·unfold gKv
  rw [Yz];refine List.map_congr_left λy Z=>?_;simp only [Function.comp];split<;>rfl
 ·simp [gKv]
noncomputable def gPut(g:List Str)(x:Str):List Str:=if g.any λy=>y == x then g else g++[x]
set_option tactic.hygienic true in
theorem tW(g:List Str)(x y:Str):y ∈ gPut g x↔y ∈ g\/y=x:=by
 unfold gPut;split
 ·rename_i h
  rw [Q2] at h;obtain ⟨z,hz,q⟩:=h;rw [Q5] at q;subst q;exact ⟨.inl,λh=>h.elim id λe=>e ▸ hz⟩
 ·simp
set_option tactic.hygienic true in
theorem nH(h:g.Nodup)(x:Str):(gPut g x).Nodup:=by
 unfold gPut;split
 ·exact h
 ·rename_i hn
  rw [YI];refine ⟨h,by simp,λa ha b hb q=>hn ?_⟩;rw [ZV] at hb;rw [Q2];exact ⟨a,ha,by rw [q,hb];simp⟩
theorem iB(g:List Str)(x:Str):(g.any λy=>y == x)=decide (x ∈ g):=by
 rw [ZZ,Q2,QE];exact ⟨λ⟨y,hy,q⟩=>by rw [Q5] at q;exact q ▸ hy,λh=>⟨x,h,by simp⟩⟩
theorem tX(h:∀ y,y ∈ g↔y ∈ g')(e:En):hitB g e=hitB g' e:=by
 unfold hitB;rw [iB,iB,iB,iB];simp only [h]
section
variable (Φ:Str->List D->Option D)(Γ:Str->Option D)(N:Nat)
def gvS(held:List En)(w:Str)(g:List Str)(acc:List En)(x:Option D):St:=[some (.tuple (held.map En.d)),some (.str w),some (.dict (gKv g)),some (.list (acc.map En.d)),x]
noncomputable def GI(held:List En)(w:Str)(k:Nat)(s:List Str × List En)(m:St):Prop:=∃ g x,g.Nodup/\g.length<=k+1/\(∀ y,y ∈ g↔y ∈ s.1)/\m=gvS held w g s.2 x
theorem Ak{l:List D}(h:acc'.map En.d=l):(gvS held w g acc x).set 3 (some (.list l))=gvS held w g acc' x:=h ▸ rfl
theorem tY(g:List Str)(x:Str):(gPut g x).length<=g.length+1:=by
 unfold gPut;split
 ·exact Zs _
 ·rw [QW];exact QO _
theorem in_g(h:g.Nodup)(x:Str):pyIn (.str x) (.dict (gKv g))=some (g.any λy=>y == x):=(Ql (ok_g h)).trans (Qf some (Aj g x))
theorem tZ(held:List En)(hl:held.length<=1000)(w:Str):runFn Φ Γ N fngiven_back [.tuple (held.map En.d),.str w]=some (.tuple ((backR [w] held).map En.d)):=by
 refine au [some (.tuple (held.map En.d)),some (.str w),none,none,none] rfl rfl (bv (.dict (gKv [w])) rfl rfl (bv (.list []) rfl rfl (bj (cb (λk=>GI held w k ((held.take k).foldl bStep ([w],[]))) (jk (es:=held) (g:=En.d) rfl) rfl ⟨[w],none,Q8.mpr ⟨YJ,ZL⟩,QO _,λy=>Iff.rfl,rfl⟩ λk vs m hk hI=>?_) ?_)))
 ·obtain ⟨g,x,hnd,hgl,hmem,rfl⟩:=hI
  obtain ⟨e,he,rfl⟩:=qx hk;have hkl:=QQ (Qq he).1 hl;have la:((held.take k).foldl bStep ([w],[])).2.length<=2 ^ 22:=QQ (Zd ((ir (held.take k) ([w],[])).2.trans (Zc _))) (QQ (List.length_take_le' _ _) (QQ hl (by decide)));refine ⟨_,rfl,?_⟩;rw [ZU,he,List.foldl_append];generalize (held.take k).foldl bStep ([w],[])=s at la hmem ⊢;refine (?_:Go (exSs Φ Γ [2,3] false N _ (gvS held w g s.2 (some e.d))) (GI held w (k+1) (bStep s e)));refine fG (f:=GI held w (k+1)) (fE (ai rfl rfl (in_g hnd e.w)) (ai rfl rfl (in_g hnd e.s))) ((Qf (· = true) (tX hmem e)).to_iff) (λq=>bD (Q':=(· = gvS held w (gPut g e.w) s.2 (some e.d))) ⟨_,?_,rfl⟩ λm q=>q ▸ bE rfl rfl rfl (by rw [lX];exact la) (am ⟨gPut g e.w,_,nH hnd _,QQ (tY ..) (QT hgl),λy=>?_,Ak Qb⟩)) λq=>bE rfl rfl rfl (by rw [lX];exact la) (am ⟨g,_,hnd,Nat.le.step hgl,hmem,Ak Qb⟩)
  ·refine (iI ..).trans ((?_:(if dictOk (gKv g)&&isScalar (.bool true)&&decide ((gKv g).length<=2 ^ 20) then some (Fl.next,setV _ 2 (.dict (dPut e.w (.bool true) (gKv g)))) else none)=_))
   rw [ok_g hnd,Bp,show (gKv g).length=g.length from Yt _,Qn (QQ hgl (QQ hkl (by decide)))];rfl
  ·rw [tW,Ys,ZV,hmem]
 ·rintro _ ⟨g,x,_,_,_,rfl⟩
  rw [lX,Z8,d9];exact ah rfl rfl
theorem nI{os:List Row}{held:List En}(H:HeldOk os held){w:Str}{wr:Bool}{s:Src}(v:V os (.lend w wr s)):gI held w wr s=held++[entL held w wr s]:=by
 induction s with
 | th i=>rfl
 | hd u=>
  obtain ⟨_,x,hx,hn,hu,_⟩:=v;obtain ⟨e,he,hw,_⟩:=H.mem hx hn;refine have:aC held u=some e:=(by rw [<- hu,<- hw];exact cj H.nd he);?_;simp only [gI,entL,this]
theorem t7(hE:∀ (held:List En) (w:Str),Φ "entry_of" [.tuple (held.map En.d),.str w]=some (enO (aC held w))){os:List Row}{held:List En}(H:HeldOk os held){w:Str}{wr:Bool}{s:Src}(v:V os (.lend w wr s)) :
 runFn Φ Γ N fnlent [(Row.lend w wr s).d,.tuple (held.map En.d)]=some (entL held w wr s).d:=by
 refine au [some (Row.lend w wr s).d,some (.tuple (held.map En.d)),none] rfl rfl ?_;induction s with
 | th i=>exact aB (x:=.bool true) rfl rfl (ah rfl rfl)
 | hd u=>
  obtain ⟨_,x,hx,hn,hu,_⟩:=v;obtain ⟨e,he,hw,_⟩:=H.mem hx hn;refine have hen:aC held u=some e:=((hw.trans hu) ▸ cj H.nd he);?_;refine have hent:entL held w wr (.hd u)=⟨w,kindS wr,e.t,if e.k == ("pick":Str) then "" else e.w,e.o⟩:=(by rw [entL,hen]);?_;rw [hent];exact aW (x:=.bool false) rfl rfl (an e.d (af (esC rfl (esC rfl es0)) ((hE held u).trans (Qf (λo=>some (enO o)) hen))) rfl (bh (f:=λy=>En.d ⟨w,kindS wr,e.t,y,e.o⟩) rfl Iff.rfl (λhp=>ah ((H.pk e he (Q5.mp hp)).1 ▸ rfl) rfl) λZ=>ah ((hw.trans hu) ▸ rfl) rfl))
def bP(rows:List Row)(k:Nat):Row->Int
 | .pick _ ts=>ts.length
 | .either=>(startL rows k).length
 | .again=>2
 | _=>1
theorem t9(rows:List Row)(hf:∀ j:Nat,Φ "first_rows" [.list (rows.map Row.d),.list ((aX rows).map .int),.int (j:Int)]=some (.list ((startL rows j).map .int)))(k:Nat)(row:Row)(hr:rows[k]?=some row) :
 runFn Φ Γ N fncount_of [.list (rows.map Row.d),.list ((aX rows).map .int),.int (k:Int)]=some (.int (bP rows k row)):=by
 refine au [some (.list (rows.map Row.d)),some (.list ((aX rows).map .int)),some (.int (k:Int))] rfl rfl ?_;have hc:∀ t:Str,evE Φ Γ (.cmp .Eq (.idx (.idx (.v 0) (.v 2)) (.k (.int 0))) (.k (.str t))) [some (.list (rows.map Row.d)),some (.list ((aX rows).map .int)),some (.int (k:Int))]=some (.bool (row.tag == t)):=λt=>ai (ag (ag rfl rfl (bI hr)) rfl (Row.i0 row)) rfl (Bf row.tag t);induction row with
 | pick w ts=>exact aB (hc _) rfl (ah (aK (ag (ag rfl rfl (bI hr)) rfl rfl) (lenL ts)) rfl)
 | either=>exact aW (hc _) rfl (aB (hc _) rfl (ah (aK (af (esC rfl (esC rfl (esC rfl es0))) (hf k)) (lenL (startL rows k))) rfl))
 | again=>exact aW (hc _) rfl (aW (hc _) rfl (aB (hc _) rfl (ah rfl rfl)))
 | deed v w=>clear hr hf;induction v<;>exact aW (hc _) rfl (aW (hc _) rfl (aW (hc _) rfl (ah rfl rfl)))
 | _=>exact aW (hc _) rfl (aW (hc _) rfl (aW (hc _) rfl (ah rfl rfl)))
end
theorem mv(h:j < rows.length):(endL rows)[j]?=some (endAt rows j rows.length):=by
 unfold endL;rw [Qy,YB h];rfl
section
variable (Φ:Str->List D->Option D)(Γ:Str->Option D)(N:Nat)
theorem stD_dl{k:Nat}{held:List En}:stD (k+1,held.dropLast) = .tuple [.int (k+1:Int),.tuple (cut (held.map En.d) none (some (-1)))]:=by rw [tL,<- Zu];rfl
theorem qV{k:Nat}{held:List En}{e:En}:stD (k+1,held++[e]) = .tuple [.int (k+1:Int),.tuple (held.map En.d++[e.d])]:=by unfold stD;rw [Qb];rfl
theorem ud(rows:List Row)(wf:WfR [] rows)(k:Nat)(hr:rows[k]?=some .fin)(held:List En)(c:Int) :
 runFn Φ Γ N fnended [.list (rows.map Row.d),.list ((aX rows).map .int),stD (k,held)]=some (stD (bJ rows k .fin held c)):=by
 refine have hk:k < rows.length:=(Qq hr).1;?_;refine (eV (show ost rows k ≠ [] from jw wf hr)).elim λj hj=>?_;refine have hrj:=be (rows:=rows) (j:=j) (Za (fN hj) hk);?_;refine have hh:item (.list ((aX rows).map .int)) (.int k)=some (.int j):=hj ▸ cP (d7 hk);?_;refine au [some (.list (rows.map Row.d)),some (.list ((aX rows).map .int)),some (stD (k,held)),none,none,none] rfl rfl (bp [some (.list (rows.map Row.d)),some (.list ((aX rows).map .int)),some (stD (k,held)),some (.int (k:Int)),some (.tuple (held.map En.d)),none] rfl (an (.str _) (ag (ag rfl (ag rfl rfl hh) (bI hrj)) rfl (Row.i0 _)) rfl ?_));rw [me,hj,QN,bd hrj,bd hrj];exact bh (f:=stD) rfl (qD _ ▸ Iff.rfl) (λZ=>ah (aJ (esC (ag rfl rfl hh) (esC rfl es0))) rfl) λZ=>bh (f:=stD) rfl (cO _ ▸ Iff.rfl) (λZ=>ah rfl rfl) λZ=>ah (stD_dl.symm ▸ rfl) rfl
def mS(rows:List Row)(k:Nat)(held:List En)(c:Int)(row:Row)(way:Int):St:=[some (.list (rows.map Row.d)),some (.list ((aX rows).map .int)),some (.list ((endL rows).map .int)),some (stD (k,held)),some (.int c),some (.int (k:Int)),some (.tuple (held.map En.d)),some row.d,some (.int way)]
theorem ue(rows:List Row)(hl:rows.length<=1000)(nd:Nested rows)(wf:WfR [] rows)
 (hcount:∀ (k:Nat) (row:Row),rows[k]?=some row->Φ "count_of" [.list (rows.map Row.d),.list ((aX rows).map .int),.int (k:Int)]=some (.int (bP rows k row)))
 (hlent:∀ (os:List Row) (held:List En),HeldOk os held->∀ (w:Str) (wr:Bool) (s:Src),V os (.lend w wr s)->Φ "lent" [(Row.lend w wr s).d,.tuple (held.map En.d)]=some (entL held w wr s).d)
 (hfirst:∀ j:Nat,Φ "first_rows" [.list (rows.map Row.d),.list ((aX rows).map .int),.int (j:Int)]=some (.list ((startL rows j).map .int)))
 (hgiven:∀ (held:List En),held.length<=1000->∀ w:Str,Φ "given_back" [.tuple (held.map En.d),.str w]=some (.tuple ((backR [w] held).map En.d)))
 (hend:∀ (k:Nat),rows[k]?=some .fin->∀ (held:List En) (c:Int),Φ "ended" [.list (rows.map Row.d),.list ((aX rows).map .int),stD (k,held)]=some (stD (bJ rows k .fin held c)))
 (k:Nat) (row:Row) (hr:rows[k]?=some row) (held:List En) (H:HeldOk (ost rows k) held) (c:Int) :
 runFn Φ Γ N fnmoved [.list (rows.map Row.d),.list ((aX rows).map .int),.list ((endL rows).map .int),stD (k,held),.int c]=some (stD (bJ rows k row held c)):=by
 refine have hk:k < rows.length:=(Qq hr).1;?_;refine have hcat:(held.map En.d).length+1<=2 ^ 14:=Yt En.d ▸ QQ (QT (QQ H.len (QQ (kX (Qm hk)) hl))) (by decide);?_;refine have hv:=jw wf hr;?_;refine au [some (.list (rows.map Row.d)),some (.list ((aX rows).map .int)),some (.list ((endL rows).map .int)),some (stD (k,held)),some (.int c),none,none,none,none] rfl rfl (bp [some (.list (rows.map Row.d)),some (.list ((aX rows).map .int)),some (.list ((endL rows).map .int)),some (stD (k,held)),some (.int c),some (.int (k:Int)),some (.tuple (held.map En.d)),none,none] rfl (an row.d (ag rfl rfl (bI hr)) rfl (an (.int (c.fmod (bP rows k row))) (aj rfl (af (esC rfl (esC rfl (esC rfl es0))) (hcount k row hr)) (eN c (bP rows k row) ?_)) rfl (?_:Rt (exSs Φ Γ [] false N (fnmoved.body.drp 3) (mS rows k held c row (c.fmod (bP rows k row)))) _))))
 ·induction row with
  | pick w ts=>exact λh=>hv.2.1 (ZA.mp (Int.ofNat.inj h))
  | either=>exact λh=>nomatch (Int.ofNat.inj h:(startL rows k).length=0)
  | again=>exact (by decide:(2:Int) ≠ 0)
  | _=>exact (by decide:(1:Int) ≠ 0)
 induction row with
 | lend w q s=>exact tJ .. ▸ nI H hv ▸ qV ▸ aB rfl rfl (ah (aJ (esC rfl (esC (aj rfl (aJ (esC (af (esC rfl (esC rfl es0)) (hlent (ost rows k) held H w q s hv)) es0)) (vf _ _ hcat)) es0))) rfl)
 | pick w ts=>
  refine have hne:0 < ts.length:=List.length_pos_iff.mpr hv.2.1;?_;refine have f2:=aw c (b:=(ts.length:Int)) (QZ hne);?_;refine have f1:=ar c (b:=(ts.length:Int)) (QZ hne);?_;refine have hit:item (.tuple (ts.map .int)) (.int (c.fmod ts.length))=some (.int (ts.getD (c.fmod ts.length).toNat 0)):=Bg (aN f1 (Yt PyData.int ▸ f2)) (Qy ▸ (by rw [List.getD,Qk ((Z2 f1).mpr f2)];rfl));?_;exact tK .. ▸ qV ▸ bg 1 rfl (aB rfl rfl (ah (aJ (esC rfl (esC (aj rfl (aJ (esC (aJ (esC rfl (esC rfl (esC (ag rfl rfl hit) (esC rfl (esC rfl es0)))))) es0)) (vf _ _ hcat)) es0))) rfl))
 | either=>
  refine (mf rows k c).elim λx e=>?_
  refine have hso:stD (bJ rows k .either held c) = .tuple [.int x,.tuple (held.map En.d)]:=(by
   rw [l9,List.getD,e.1]
   rcases fU e.1 with q | ⟨j,q,_⟩<;>(rw [q];rfl));?_
  exact hso ▸ bg 2 rfl (aB rfl rfl (ah (aJ (esC (ag (af (esC rfl (esC rfl (esC rfl es0))) (hfirst k)) rfl e.2) (esC rfl es0))) rfl))
 | orr=>
  refine (eV λq=>nF (q ▸ hv:([]:List Row).head?.any Row.isEither=true)).elim λj hj=>?_;refine (d8 nd (ch rows k j (ci hj))).elim λe q=>?_;refine have hso:stD (bJ rows k .orr held c) = .tuple [.int (endAt rows j rows.length),.tuple (held.map En.d)]:=(by rw [mc,hj,QN,q.1];rfl);?_;exact hso ▸ bg 3 rfl (aB rfl rfl (ah (aJ (esC (ag rfl (ag rfl rfl (cP (d7 hk))) (hj ▸ cP (mv (Za (fN hj) hk)))) (esC rfl es0))) rfl))
 | again=>
  refine (d8 nd (j:=k) (bd hr _ ▸ rfl)).elim λe q=>?_;refine md .. ▸ bg 4 rfl (bh (f:=stD) (aS rfl rfl) (b_eq:(true&&_)=true↔_) (λZ=>ah ?_ rfl) λZ=>bg 2 rfl (ah rfl rfl));exact (aJ (esC (aj (ag rfl rfl (cP (mv hk))) rfl rfl) (esC rfl es0))).trans (q.1 ▸ rfl)
 | fin=>exact bg 5 rfl (aB rfl rfl (ah (af (esC rfl (esC rfl (esC rfl es0))) (hend k hr held c)) rfl))
 | deed v w=>
  clear hv hr hcat hend hfirst hlent hcount wf nd;induction v with
  | back=>exact bg 6 rfl (aB rfl rfl (ah (aJ (esC rfl (esC (af (esC rfl (esC rfl es0)) (hgiven held (QQ H.len (QQ (kX (Qm hk)) hl)) w)) es0))) rfl))
  | look=>exact bg 7 rfl (ah rfl rfl)
  | change=>exact bg 7 rfl (ah rfl rfl)
end
noncomputable def enc(p:Nat × List En):StK:=((p.1:Int),p.2.map λe=>(e.w,e.k,e.t,e.s,e.o))
theorem qW(p:Nat × List En):stD p=stK (enc p):=by
 unfold stD stK enc;rw [Yz];rfl
theorem xS(h:enc p=enc q):p=q:=by
 obtain ⟨a,l⟩:=p;obtain ⟨b,r⟩:=q;have e1:a=b:=Int.ofNat.inj (Qf Prod.fst h)
 have e2:l=r:=(List.map_inj_right λx y (q:(x.w,x.k,x.t,x.s,x.o)=(y.w,y.k,y.t,y.s,y.o))=>by
  obtain ⟨_,_,_,_,_⟩:=x;obtain ⟨_,_,_,_,_⟩:=y;simp only [Prod.mk.injEq] at q;obtain ⟨rfl,rfl,rfl,rfl,rfl⟩:=q
  rfl).mp (Qf Prod.snd h)
 rw [e1,e2]
def seenD(l:List (Nat × List En)):List (D × D):=(l.map enc).map λk=>(stK k,PyData.bool true)
theorem iC:∀ ks:List StK,keysT (ks.map λk=>(stK k,PyData.bool true))=some ks
 | []=>rfl
 | k::ks=>by
  show (if tru (.bool true) then (unK (stK k)).bind λk=>(keysT (ks.map λk=>(stK k,PyData.bool true))).map λks=>k::ks else none)=_;rw [lM,iC ks];rfl
theorem mem_enc{p:Nat × List En}{l:List (Nat × List En)}:enc p ∈ l.map enc↔p ∈ l:=by
 exact QG.trans (⟨λ⟨q,h1,h2⟩=>xS h2 ▸ h1,λh=>⟨p,h,rfl⟩⟩)
theorem eX:∀ {l:List (Nat × List En)},l.Nodup->nodT (l.map enc)=true:=by
 intro l;induction l with
 | nil=>
  intro _;exact rfl
 | cons p l eX=>
  intro h;rw [Q8] at h;show (!hasT (enc p) (l.map enc)&&nodT (l.map enc))=true;have:hasT (enc p) (l.map enc)=false:=by
   induction q:hasT (enc p) (l.map enc) with
   | false=>rfl
   | true=>exact absurd (mem_enc.mp ((dH _ _).mp q)) h.1
  rw [this,eX h.2];rfl
def uf(l:List (Nat × List En))(p:Nat × List En):Bool:=hasT (enc p) (l.map enc)
theorem seenB_iff{l:List (Nat × List En)}{p:Nat × List En}:uf l p=true↔p ∈ l:=(dH _ _).trans mem_enc
theorem lb(h:l.Nodup)(p:Nat × List En):br .NotIn (stD p) (.dict (seenD l))=some (!uf l p):=by
 have h1:dIn (stD p) (seenD l)=some (uf l p):=by
  show ((unK (stD p)).bind λp=>(keysT (seenD l)).bind λks=>if nodT ks then some (hasT p ks) else none)=_;unfold seenD;rw [qW,lM,iC,bX,bX,Ql (eX h)];rfl
 show (dIn (stD p) (seenD l)).map (!·)=_;exact Qf _ h1
section
variable {Φ:Str->List D->Option D}{Γ:Str->Option D}{m:St}{ow:List Nat}{fr:Bool}{N:Nat}
set_option tactic.hygienic true in
theorem qX{i:Nat}{ix:Ex}{r:Sms}{l:List (Nat × List En)}{p:Nat × List En}{Q:St->Prop}(hm:m[i]?=some (some (.dict (seenD l))))(hx:evE Φ Γ ix m=some (stD p))(hn:l.Nodup)(hl:l.length<=2 ^ 22)(hp:p ∉ l)(k:Go (exSs Φ Γ ow fr N r (m.set i (some (.dict (seenD (l++[p])))))) Q):Go (exSs Φ Γ ow fr N (.cons (.seti i ix (.k (.bool true))) r) m) Q:=by
 obtain ⟨m2,e2,q2⟩:=k;refine ⟨m2,(aP ?_).trans e2,q2⟩;rw [iI,x_k,bX,hm,hx];show (if noList (.bool true) then ((unK (stD p)).bind λq=>(keysT (seenD l)).bind λks=>if nodT ks&&tru (.bool true)&&decide (ks.length<=2 ^ 22) then some (Fl.next,setV m i (.dict (dPutT q ks (seenD l)))) else none) else none)=_;have hk:keysT (seenD l)=some (l.map enc):=iC _;have hlen:(l.map enc).length<=2 ^ 22:=by rw [lX];exact hl
 rw [Ql (show noList (.bool true)=true from rfl),qW,lM,hk,bX,bX,eX hn,Qn hlen,Ql (show (true&&tru (.bool true)&&true)=true from rfl)];have hh:hasT (enc p) (l.map enc)=false:=by
  induction q:hasT (enc p) (l.map enc) with
  | false=>rfl
  | true=>exact absurd (mem_enc.mp ((dH _ _).mp q)) hp
 unfold dPutT;rw [hh];show some (Fl.next,m.set i (some (.dict (seenD l++[(stK (enc p),.bool true)]))))=_;unfold seenD;rw [Qb,Qb];rfl
end
abbrev Tri:=(Nat × List En) × Option Nat × Nat
noncomputable def optI:Option Nat->D
 | some j=>.int (j:Int)
 | none=>.none
def tD(x:Tri):D:=.tuple [stD x.1,optI x.2.1,.int (x.2.2:Int)]
def sucOf(rows:List Row)(p:Nat × List En)(c:Nat):Nat × List En:=bJ rows p.1 (rows.getD p.1 .fin) p.2 (c:Int)
def adT(rows:List Row)(k:Nat)(p:Nat × List En)(F:List Tri)(c:Nat):List Tri:=
 if (sucOf rows p c).1 < rows.length/\uf (F.map (·.1)) (sucOf rows p c)=false then F++[(sucOf rows p c,some k,c)] else F
def procT(rows:List Row)(k:Nat)(p:Nat × List En)(F:List Tri)(n:Nat):List Tri:=(List.range n).foldl (adT rows k p) F
theorem gP(rows:List Row)(k:Nat)(p:Nat × List En)(F:List Tri)(n:Nat):procT rows k p F (n+1)=adT rows k p (procT rows k p F n) n:=by
 unfold procT;rw [List.range_succ,List.foldl_append];rfl
def xT(rows:List Row)(p:Nat × List En):Nat:=(bP rows p.1 (rows.getD p.1 .fin)).toNat
def B(rows:List Row):Nat->List Tri
 | 0=>if rows.isEmpty then [] else [((0,[]),none,0)]
 | k+1=>match (B rows k)[k]? with
  | some x=>procT rows k x.1 (B rows k) (xT rows x.1)
  | none=>B rows k
theorem B_1(rows:List Row):B rows 0=if rows.isEmpty=true then [] else [((0,[]),none,0)]:=rfl
theorem B_2(rows:List Row)(n:Nat):B rows (n+1)=match (B rows n)[n]? with | some x=>procT rows n x.fst (B rows n) (xT rows x.fst) | none=>B rows n:=rfl
structure BOk(rows:List Row)(k:Nat)(F:List Tri):Prop where
 st:∀ x ∈ F,StOk rows x.1
 nd:(F.map (·.1)).Nodup
 up:∀ j x,F[j]?=some x->∀ a,x.2.1=some a->a < j/\a<=k
set_option tactic.hygienic true in
theorem Al(nd:Nested rows)(wf:WfR [] rows)(hp:StOk rows p)(h:BOk rows k F)(hk:k < F.length)(c:Nat):BOk rows k (adT rows k p F c)/\k < (adT rows k p F c).length/\(adT rows k p F c).length<=F.length+1:=by
 unfold adT;split
 ·rename_i hc
  refine ⟨⟨λx hx=>?_,?_,λj x hx a ha=>?_⟩,by rw [QW];exact Qe hk (QI _ _),by exact QW ▸ QO _⟩
  ·rcases QY hx with q | q
   ·exact h.st x q
   ·exact (Qx q) ▸ (⟨hc.1,xx nd wf (be hp.1) hp.2 (c:Int)⟩)
  ·rw [Qb,YI]
   refine ⟨h.nd,by simp,λa ha b hb e=>?_⟩;rw [QX,List.map_nil,ZV] at hb;subst e;rw [hb] at ha;rw [seenB_iff.mpr ha] at hc;cases hc.2
  ·rcases Nat.lt_or_ge j F.length with q | q
   ·rw [Zx q] at hx
    exact h.up j x hx a ha
   ·rw [ZW q] at hx
    have hj:j - F.length=0:=by
     have:=(Qq hx).1;simp only [QV,QP] at this;exact Nat.lt_one_iff.mp this
    rw [hj] at hx;obtain rfl:=Qv hx;obtain rfl:=Qv ha;exact ⟨Qe hk q,QO k⟩
 ·exact ⟨h,hk,Zs _⟩
theorem qY(nd:Nested rows)(wf:WfR [] rows)(hp:StOk rows p)(h:BOk rows k F)(hk:k < F.length):∀ n,BOk rows k (procT rows k p F n)/\k < (procT rows k p F n).length/\(procT rows k p F n).length<=F.length+n:=by
 intro n;induction n with
 | zero=>exact ⟨h,hk,QO _⟩
 | succ n ih=>
  rw [gP];refine byG λX_ g_=>?_;obtain ⟨i1,i2,i3⟩:=ih;obtain ⟨j1,j2,j3⟩:=Al nd wf hp i1 i2 n;refine g_ ?_;exact ⟨j1,j2,by exact QQ j3 (QT i3)⟩
theorem BOk.mono(h:BOk rows k F)(hk:k<=k'):BOk rows k' F:=⟨h.st,h.nd,λj x hx a ha=>⟨(h.up j x hx a ha).1,QQ (h.up j x hx a ha).2 hk⟩⟩
theorem Am{rows:List Row}(wf:WfR [] rows)(hl:rows.length<=1000){p:Nat × List En}(hp:p.1 < rows.length):0<=bP rows p.1 (rows.getD p.1 .fin)/\bP rows p.1 (rows.getD p.1 .fin)<=1001:=by
 have v:=jw wf (be hp);generalize rows.getD p.1 .fin=r at v;have hs:(startL rows p.1).length<=1001:=by
  unfold startL;rw [QV,lX];have:=Zz (λj=>isAt rows Row.isOr j&&home rows j == (p.1:Int)) (List.range rows.length);rw [Qo] at this;lia
 induction r with
 | pick w ts=>exact ⟨Zq _,by have:=v.2.2;show (ts.length:Int)<=1001;exact QB.mpr (QQ this (by decide))⟩
 | either=>exact ⟨Zq _,by show ((startL rows p.1).length:Int)<=1001;(exact QZ hs)⟩
 | again=>exact ⟨(by decide:(0:Int)<=2),(by decide:(2:Int)<=1001)⟩
 | _=>exact ⟨(by decide:(0:Int)<=1),(by decide:(1:Int)<=1001)⟩
set_option tactic.hygienic true in
theorem B_ok(nd:Nested rows)(wf:WfR [] rows):∀ k,BOk rows k (B rows k)
 | 0=>by
  rw [B_1];split
  ·exact ⟨(λx hx=>by exact (YJ hx).elim),ZL,(λj x hx=>by exact nN hx)⟩
  ·rename_i hne
   refine ⟨λx hx=>?_,by simp,λj x hx a ha=>?_⟩
   ·rw [Qx hx]
    refine ⟨?_,⟨rfl,λe h=>((YJ h).elim),ZL,λe h=>((YJ h).elim),ZV.mpr rfl⟩⟩;induction rows using lc with
    | nil=>exact absurd rfl hne
    | cons=>exact Zm _
   ·induction j using nc with
    | zero=>obtain rfl:=Qv hx;exact nN ha
    | succ j=>exact nN hx
 | k+1=>by
  rw [B_2];split
  ·rename_i x hx
   exact (qY nd wf ((B_ok nd wf k).st x (Qa hx)) (B_ok nd wf k) ((Qq hx).1) _).1.mono (Zs _)
  ·exact (B_ok nd wf k).mono (Zs _)
noncomputable def widR:Row->Nat
 | .pick _ ts=>ts.length
 | _=>1
def mulW:List Row->Nat
 | []=>1
 | r::l=>widR r * mulW l
theorem eY{α β:Type}(f:α->List β)(w:Nat)(l:List α)(h:∀ x ∈ l,(f x).length<=w):(l.flatMap f).length<=l.length * w:=by
 induction l with
 | nil=>exact QF _
 | cons a l ih=>
  rw [List.flatMap_cons,QW,QV,Nat.succ_mul,Nat.add_comm];exact QC (ih λx hx=>h x (.tail _ hx)) (h a (.head _))
theorem xU(l:List Row):(skL l).length<=mulW l:=by
 induction l with
 | nil=>exact QO _
 | cons r l ih=>
  refine QQ (eY _ (widR r) _ λh Z=>?_) (by rw [Nat.mul_comm];exact Zj _ ih);induction r with
  | lend w q s=>exact QO _
  | pick w ts=>exact Zd (Yt _)
  | _=>exact QF _
noncomputable def flR(h:List Bool)(b:Bool):List (List Bool):=if b then [h++[true],h++[false]] else [h++[true]]
def flL:List Bool->List (List Bool)
 | []=>[[]]
 | b::l=>(flL l).flatMap λh=>flR h b
theorem xV(l:List Bool):(flL l).length<=2 ^ hc l:=by
 induction l with
 | nil=>exact QO _
 | cons b l ih=>
  refine QQ (eY _ (2 ^ b.toNat) _ λh Z=>by induction b<;>exact QO _) ?_;show _<=2 ^ (b.toNat+hc l);rw [Nat.pow_add,Nat.mul_comm];exact Zj _ ih
theorem An(ns:List Row):∀ held:List En,held.map (λe=>(e.w,e.k))=(ns.map λx=>(x.word,x.kindS)).reverse->(∀ e ∈ held,e.k=("pick":Str) -> e.o=true)->held.map (·.o) ∈ flL (ns.map Row.isLend):=by
 induction ns with
 | nil=>
  intro held h _;exact (List.map_eq_nil_iff.mp h) ▸ ZV.mpr rfl
 | cons r ns ih=>
  intro held h hp;rw [QX,Z0] at h;obtain ⟨l1,l2,rfl,h1,h2⟩:=List.map_eq_append_iff.mp h;clear h;obtain ⟨e,rfl,he⟩:=List.map_eq_singleton_iff.mp h2;rw [Qb];refine List.mem_flatMap.mpr ⟨_,ih l1 h1 λx hx=>hp x (Q6 _ hx),?_⟩;unfold flR;induction hl:r.isLend with
  | true=>
   induction ho:e.o with
   | true=>rw [Ql rfl,QX,ho];exact .head _
   | false=>rw [Ql rfl,QX,ho];exact .tail _ (.head _)
  | false=>
   refine have hk:e.k=("pick":Str) := (by
    have:e.k=r.kindS:=Qf Prod.snd he
    rw [this];unfold Row.kindS;exact hl ▸ rfl);?_
   rw [Qu Qr,QX,hp e (Zy _ (.head _)) hk];exact .head _
noncomputable def En.put(s:En)(b:Bool):En:=⟨s.w,s.k,s.t,s.s,b⟩
theorem Ao(l:List En):List.zipWith En.put (l.map En.sk) (l.map (·.o))=l:=by
 induction l with
 | nil=>rfl
 | cons e l ih=>show _::List.zipWith En.put (l.map En.sk) (l.map (·.o))=_;exact Qf _ ih
def comb(os:List Row):List (List En):=(skL (os.filter Row.isNamed)).flatMap λs=>(flL ((os.filter Row.isNamed).map Row.isLend)).map λf=>List.zipWith En.put s f
theorem ug{os:List Row}{held:List En}(H:HeldOk os held):held ∈ comb os:=
 List.mem_flatMap.mpr ⟨_,H.sk,QG.mpr ⟨_,An _ held H.mt λe he hk=>(H.pk e he hk).1,Ao held⟩⟩
theorem nJ(l:List Row):mulW (l.filter Row.isNamed)=mulW l:=by
 induction l with
 | nil=>rfl
 | cons r l ih=>
  rw [ZF];induction r with
  | lend=>show 1 * mulW _=1 * mulW l;rw [ih]
  | pick w ts=>show ts.length * mulW _=ts.length * mulW l;rw [ih]
  | _=>show mulW _=1 * mulW l;rw [Nat.one_mul];exact ih
theorem uh(l:List Row):hc ((l.filter Row.isNamed).map Row.isLend)=hc (l.map Row.isLend):=by
 induction l with
 | nil=>rfl
 | cons r l ih=>
  rw [ZF];induction r with
  | lend=>show 1+hc _=1+hc _;rw [ih]
  | pick=>show 0+hc _=0+hc _;rw [ih]
  | _=>show hc _=0+hc _;rw [Zc];exact ih
theorem ui(os:List Row):(comb os).length<=mulW os * 2 ^ hc (os.map Row.isLend):=by
 refine QQ (eY _ (2 ^ hc (os.map Row.isLend)) _ λs Z=>?_) (Nat.mul_le_mul_right _ (by exact (nJ os) ▸ xU _));rw [lX,<- uh os];exact xV _
theorem xW(h:r.Ok):1<=widR r:=by
 induction r with
 | pick w ts=>exact h.2.1
 | _=>exact QO _
theorem nK(rs:List Row):∀ os:List Row,(∀ r ∈ rs,1<=widR r)->(∀ r ∈ os,1<=widR r)->mulW (after os rs)<=mulW os * mulW rs:=by
 induction rs with
 | nil=>intro os _ _;exact Zd (Nat.mul_one _).symm
 | cons r rs ih=>
  intro os h k;refine have hr:=h r (.head _);?_
  refine have key:mulW (push r os)<=mulW os * widR r/\∀ x ∈ push r os,1<=widR x:=(by
   unfold push;induction r.isOpen with
   | true=>exact ⟨Zd (Nat.mul_comm _ _),λx hx=>(Qw hx).elim (λe=>e ▸ hr) (k x)⟩
   | false=>
    induction r.isFin with
    | true=>
     refine ⟨QQ ?_ (Nat.le_mul_of_pos_right _ hr),λx hx=>k x (YQ hx)⟩;induction os using lc with
     | nil=>exact QO _
     | cons y os=>exact Nat.le_mul_of_pos_left _ (k y (.head _))
    | false=>exact ⟨Nat.le_mul_of_pos_right _ hr,k⟩);?_
  refine QQ (ih (push r os) (λx hx=>h x (.tail _ hx)) key.2) ?_;show _<=mulW os * (widR r * mulW rs);rw [<- Nat.mul_assoc];exact Nat.mul_le_mul_right _ key.1
theorem uj(l:List Row)(h:∀ r ∈ l,1<=widR r):1<=mulW l:=by
 induction l with
 | nil=>exact QO _
 | cons r l ih=>exact Nat.mul_le_mul (h r (.head _)) (ih λx hx=>h x (.tail _ hx))
theorem qZ(l:List Row)(h:∀ r ∈ l,1<=widR r):∀ k,mulW (l.take k)<=mulW l:=by
 induction l with
 | nil=>intro k;rw [List.take_nil];exact QO _
 | cons r l ih=>
  intro k;induction k using nc with
  | zero=>exact uj _ h
  | succ k=>exact Zj _ (ih (λx hx=>h x (.tail _ hx)) k)
theorem nO(rs:List Row):∀ os:List Row,(after os rs).map Row.isLend=rA (rws rs) (os.map Row.isLend):=by
 induction rs with
 | nil=>intro os;rfl
 | cons r rs ih=>
  intro os
  refine have:(push r os).map Row.isLend=opA (.row r) (os.map Row.isLend):=(by
   show _=if r.isOpen then r.isLend::os.map Row.isLend else if r.isFin then (os.map Row.isLend).tail else os.map Row.isLend
   unfold push;induction r.isOpen with
   | true=>rfl
   | false=>
    induction r.isFin with
    | true=>exact List.map_tail ..
    | false=>rfl);?_
  show (after (push r os) rs).map Row.isLend=rA (rws rs) (opA (.row r) (os.map Row.isLend));rw [ih,this]
theorem uk{α:Type}:∀ {l u:List α},l.Nodup->(∀ x ∈ l,x ∈ u)->l.length<=u.length:=by
 intro l;induction l with
 | nil=>intro u _ _;exact QF _
 | cons a l ih=>
  intro u h k;rw [Q8] at h;obtain ⟨s,t,rfl⟩:=List.append_of_mem (k a (.head _));have:=ih (u:=s++t) h.2 λx hx=>by
   have:=k x (.tail _ hx);rw [Ys,YW] at this;rw [Ys];clear k ih;rcases this with q | rfl | q
   ·exact .inl q
   ·exact absurd hx h.1
   ·exact .inr q
  rw [QW] at this;rw [QW,QV,QV];exact QT this
noncomputable def mostB:Nat:=84 * (40 * 2 ^ 10)
theorem Bq(nd:Nested rows)(wf:WfR [] rows)(ok:∀ r ∈ rows,r.Ok)(hl:rows.length<=84)(hm:mulW rows<=40)(hx:mx (rws rows) []<=10)(k:Nat):(B rows k).length<=mostB:=by
 refine have b:=B_ok nd wf k;?_;rw [<- Yt (f:=(·.1)) (as:=B rows k)];refine QQ (uk (u:=(List.range rows.length).flatMap λj=>(comb (ost rows j)).map λh=>(j,h)) b.nd λp hp=>?_) (QQ (eY _ (40 * 2 ^ 10) _ λj hj=>?_) (Qo ▸ (Nat.mul_le_mul_right _ hl)))
 ·obtain ⟨x,hx,rfl⟩:=QG.mp hp
  refine have st:=b.st x hx;?_;exact List.mem_flatMap.mpr ⟨x.1.1,ZJ.mpr st.1,QG.mpr ⟨x.1.2,ug st.2,rfl⟩⟩
 ·rw [lX]
  refine have hj:=Qm (ZJ.mp hj);?_;refine have hw:∀ r ∈ rows,1<=widR r:=λr hr=>xW (ok r hr);?_;refine have e:=fR rows j hj;?_;refine QQ (ui _) (Nat.mul_le_mul ?_ (Nat.pow_le_pow_right (by decide) ?_))
  ·rw [e]
   refine QQ (nK _ [] (λr hr=>hw r (List.mem_of_mem_take hr)) λZ z=>(YJ z).elim) ?_;show 1 * _<=40;rw [Nat.one_mul];exact QQ (qZ rows hw j) hm
  ·rw [e,nO]
   have:=qR (rws rows) j [];unfold rws at this ⊢;rw [<- Xw] at this;exact QQ this hx
structure Stop(rows:List Row)(K:Nat):Prop where
 le:K<=mostB
 go:∀ k,k < K->k < (B rows k).length
 fin:(B rows K).length<=K
theorem xX(h:∀ k,(B rows k).length<=mostB):∃ K,Stop rows K:=by
 refine have key:∀ n,(∃ K,K<=n/\(∀ k,k < K->k < (B rows k).length)/\(B rows K).length<=K)\/∀ k,k<=n->k < (B rows k).length:=(by
  intro n;induction n with
  | zero=>
   rcases Nat.lt_or_ge 0 (B rows 0).length with q | q
   ·exact .inr λk hk=>by exact (Nat.le_zero.mp hk) ▸ q
   ·exact .inl ⟨0,QO _,(λk hk=>nomatch hk),q⟩
  | succ n ih=>
   rcases ih with ⟨K,h1,h2⟩ | ih
   ·exact .inl ⟨K,Yy h1,h2⟩
   ·rcases Nat.lt_or_ge (n+1) (B rows (n+1)).length with q | q
    ·exact .inr λk hk=>(ZI hk).elim (λz=>ih k (Q7 z)) λz=>z ▸ q
    ·exact .inl ⟨n+1,QO _,λk hk=>ih k (Q7 hk),q⟩);?_
 rcases key mostB with ⟨K,h1,h2,h3⟩ | q
 ·exact ⟨K,h1,h2,h3⟩
 ·exact absurd (q mostB (QO _)) (Z4.mpr (h mostB))
theorem B_at(h:k < (B rows k).length):∃ x,(B rows k)[k]?=some x/\B rows (k+1)=procT rows k x.1 (B rows k) (xT rows x.1):=by
 refine ⟨_,Qk h,?_⟩
 conv=>lhs;rw [B_2]
 rw [Qk h]
theorem rg(x:Tri):noList (tD x)=true:=by
 show (noList (stD x.1)&&(noList (optI x.2.1)&&true))=true;rw [qE];induction x.2.1<;>rfl
theorem eD{l:List Tri}{k:Nat}{x:Tri}(h:l[k]?=some x):item (.list (l.map tD)) (.int (k:Int))=some (tD x):=by
 exact p_mk (k:=k) ((aN (Zq _) (by rw [lX];exact QZ ((Qq h).1)))) (by rw [Qy,h];rfl)
def bS(rows:List Row)(F:List Tri)(v:Option D)(x:Option D × Option D × Option D):St:=[some (.list (rows.map Row.d)),some (.list ((aX rows).map .int)),some (.list ((endL rows).map .int)),some (.list (F.map tD)),some (.dict (seenD (F.map (·.1)))),v,x.1,x.2.1,x.2.2]
theorem Ap(h1:l=F'.map tD)(h2:l'=seenD (F'.map (·.1))):((bS rows F v x).set 4 (some (.dict l'))).set 3 (some (.list l))=bS rows F' v x:=h1 ▸ h2 ▸ rfl
section
variable (Φ:Str->List D->Option D)(Γ:Str->Option D)(N:Nat)
set_option tactic.hygienic true in
theorem jP{rows:List Row}(hl:rows.length<=1000)(nd:Nested rows)(wf:WfR [] rows)(hN:mostB < N)(hBl:∀ k,(B rows k).length<=mostB)
 (hhome:Φ "homes" [.list (rows.map Row.d)]=some (.list ((aX rows).map .int))) (hend:Φ "ends" [.list (rows.map Row.d)]=some (.list ((endL rows).map .int)))
 (hcount:∀ (k:Nat) (row:Row),rows[k]?=some row->Φ "count_of" [.list (rows.map Row.d),.list ((aX rows).map .int),.int (k:Int)]=some (.int (bP rows k row)))
 (hmoved:∀ (k:Nat) (row:Row) (_:rows[k]?=some row) (held:List En) (_:HeldOk (ost rows k) held) (c:Int),Φ "moved" [.list (rows.map Row.d),.list ((aX rows).map .int),.list ((endL rows).map .int),stD (k,held),.int c]=some (stD (bJ rows k row held c)))
 {K:Nat} (hK:Stop rows K):runFn Φ Γ N fnstandings [.list (rows.map Row.d)]=some (.list ((B rows K).map tD)):=by
 refine au [some (.list (rows.map Row.d)),none,none,none,none,none,none,none,none] rfl rfl (an _ (af (esC rfl es0) hhome) rfl (an _ (af (esC rfl es0) hend) rfl (bv (.list []) rfl rfl (bv (.dict []) rfl rfl (bj (Q':=(· = bS rows (B rows 0) none (none,none,none))) (cx (ai (aK rfl (lenL rows)) rfl rfl) (λz=>?_) λz=>?_) ?_)))))
 ·have h0:B rows 0=[((0,[]),none,0)]:=Qu λq=>by
   rw [Q1.mp q] at z;exact nF z
  rw [h0];exact bE (xs:=[]) (d:=tD ((0,[]),none,0)) rfl rfl rfl (QF _) (qX (l:=[]) (p:=(0,[])) rfl rfl ZL (QF _) YJ (am rfl))
 ·exact Qf (λF=>bS rows F none (none,none,none)) (Ql (Q1.mpr (ZA.mp (Nat.eq_zero_of_not_pos λq=>of_decide_eq_false z (QZ q)))):B rows 0=[]).symm
 rintro _ rfl;refine an (.int 0) rfl rfl (bj (Q':=λm=>∃ x,m=bS rows (B rows K) (some (.int K)) x) (zV (λn m=>∃ k,n=K - k/\k<=K/\∃ x,m=bS rows (B rows k) (some (.int k)) x) (λn m hI=>?_) K _ (Qh hK.le hN) ⟨0,rfl,QF _,_,rfl⟩) λm h=>h.elim λx e=>e ▸ ah rfl rfl);obtain ⟨k,rfl,hkK,x,rfl⟩:=hI;refine ⟨_,Qf (·.bind truth) (ai rfl (aK rfl (lenL (B rows k))) rfl),λq=>?_,λq=>?_⟩
 ·obtain rfl:=(ZI hkK).resolve_left λh=>of_decide_eq_false q (QZ (hK.go k h))
  exact ⟨_,rfl⟩
 replace q:k < (B rows k).length:=Q0.mp (Qp q);have hkK2:k < K:=(ZI hkK).resolve_right λh=>absurd q (Z4.mpr (h ▸ hK.fin));obtain ⟨x',hx,hB⟩:=B_at q;have hst:=(B_ok nd wf k).st x' (Qa hx);have hcnt:=Am wf hl hst.1;refine aU (stD x'.1) (ag (ag rfl rfl (eD hx)) rfl rfl) rfl (bD (cb (λc m=>∃ y,m=bS rows (procT rows k x'.1 (B rows k) c) (some (.int k)) (some (stD x'.1),y)) (bC (af (esC rfl (esC rfl (esC rfl es0))) (hcount x'.1.1 _ (be hst.1))) (QB.mp (Qt (ZC (Yn hcnt.1)) (Qt hcnt.2 (by decide))))) rfl ⟨x.2,rfl⟩ λc vs m hc hI=>⟨_,(cW hc).1,?_⟩) λm h=>h.elim λy e=>?_)
 ·obtain ⟨y,rfl⟩:=hI
  have hp:=qY nd wf hst (B_ok nd wf k) q c;have hnd:=hp.1.nd;have hpl:(procT rows k x'.1 (B rows k) c).length<=2 ^ 22:=QQ hp.2.2 (QQ (QC (hBl k) (Qm (Qe (cW hc).2 (Zo.mpr hcnt.2)))) (by decide));rw [gP];generalize procT rows k x'.1 (B rows k) c=F at hnd hpl ⊢;refine aU (stD (sucOf rows x'.1 c)) (af (esC rfl (esC rfl (esC rfl (esC rfl (esC rfl es0))))) (hmoved x'.1.1 _ (be hst.1) x'.1.2 hst.2 (c:Int))) rfl ?_;unfold adT;generalize sucOf rows x'.1 c=p;refine (?_:Go (exSs Φ Γ [3,4] false N _ (bS rows F (some (.int k)) (some (stD x'.1),some (.int c),some (stD p)))) _);refine fG (f:=λF m=>∃ y,m=bS rows F (some (.int k)) (some (stD x'.1),y)) (aS (ai rfl (aK rfl (lenL rows)) rfl) (ai rfl rfl (lb hnd p))) (gb jm Be) (λz=>?_) λz=>am ⟨(some (.int c),some (stD p)),rfl⟩;exact qX (l:=F.map (·.1)) (p:=p) rfl rfl hnd (by rw [lX];exact hpl) (λh=>nT ((seenB_iff.mpr h).symm.trans z.2)) (bE (xs:=F.map tD) (d:=tD (p,some k,c)) rfl rfl (rg _) (by rw [lX];exact hpl) (am ⟨(some (.int c),some (stD p)),Ap (F:=F) (@Qb _ _ _ F [(p,some k,c)]).symm (Qf seenD (@Qb _ _ _ F [(p,some k,c)]).symm)⟩))
 ·rw [lX,Qo] at e
  clear h hcnt hst hx q hkK hK hmoved hcount hend hhome hBl hN wf nd hl;subst e;exact aU (.int ((k+1:Nat):Int)) rfl rfl (am ⟨K - (k+1),Nat.sub_lt_sub_left hkK2 (QA k),k+1,rfl,hkK2,(some (stD x'.1),y),hB ▸ rfl⟩)
end
section
variable {Φ:Str->List D->Option D}{Γ:Str->Option D}{m:St}{ow:List Nat}{fr:Bool}{N:Nat}
set_option tactic.hygienic true in
theorem Br(h:m[i]?=some (some (.list xs))):exS Φ Γ ow fr N (.rev i) m=some (.next,m.set i (some (.list xs.reverse))):=by rw [yk,h];rfl
end
def cS(rows:List Row)(F:List Tri)(x:Option D)(l:List Nat)(y:Option D):St:=[some (.list (rows.map Row.d)),some (.list (F.map tD)),x,some (.list (l.map λ(n:Nat)=>.int (n:Int))),y]
theorem cS_3{rows:List Row}{F:List Tri}{x y:Option D}{l l':List Nat}{q:List D}(h:l'.map (λ(n:Nat)=>PyData.int (n:Int))=q):(cS rows F x l y).set 3 (some (.list q))=cS rows F x l' y:=h ▸ rfl
section
variable (Φ:Str->List D->Option D)(Γ:Str->Option D)(N:Nat)
theorem iD(ok:BOk rows k0 F)(hF:F.length<=mostB)(hN:mostB < N)(hch:∀ r:Row,Φ "chooses" [r.d]=some (.bool r.chooses))(k:Nat)(hk:k < F.length):∃ l:List Nat,l.length<=mostB/\runFn Φ Γ N fnchoices_to [.list (rows.map Row.d),.list (F.map tD),.int (k:Int)]=some (.list (l.map λ(n:Nat)=>.int (n:Int))):=by
 refine (uZ (P:=λd=>∃ l:List Nat,l.length<=mostB/\d = .list (l.map λ(n:Nat)=>.int (n:Int))) rfl (qc (.list []) rfl rfl (lR (Q:=λm=>∃ x l y,l.length<=mostB/\m=cS rows F x l y) (zV (λn m=>∃ l y,n < F.length/\l.length+n<=mostB/\m=cS rows F (some (.int n)) l y) (λn m hI=>?_) k _ (Qe hk (QQ hF (Qm hN))) ⟨[],none,hk,QQ (Zd (Zc k)) (QQ (Qm hk) hF),rfl⟩) λm h=>?_))).elim λd h=>h.1.elim λl q=>⟨l,q.1,q.2 ▸ h.2⟩
 ·obtain ⟨l,y,hn,hll,rfl⟩:=hI
  have hx:=Qk hn;generalize F[n]=x at hx;induction ha:x.2.1 with
  | none=>exact ⟨false,Qf (·.bind truth) (ai (x:=optI x.2.1) (y:=.none) (ag (ag rfl rfl (eD hx)) rfl rfl) rfl (ha ▸ rfl)),λZ=>⟨_,l,_,QQ (QI _ _) hll,rfl⟩,nF⟩
  | some a=>
   have han:=(ok.up n x hx a ha).1;have haF:a < F.length:=Za han hn;have hy:=Qk haF;generalize F[a]=y' at hy;have i1:item (tD x) (.int 1)=some (.int a):=Qf (λo=>some (optI o)) ha;refine ⟨true,Qf (·.bind truth) (ai (x:=.int (a:Int)) (y:=.none) (ag (ag rfl rfl (eD hx)) rfl i1) rfl rfl),nT,λZ=>?_⟩;refine aU (.int (a:Int)) (ag (ag rfl rfl (eD hx)) rfl i1) rfl (bD (cx (Q:=λm=>∃ l':List Nat,l'.length<=l.length+1/\m=cS rows F (some (.int n)) l' (some (.int a))) (af (esC (ag rfl (ag (ag (ag rfl rfl (eD hy)) rfl rfl) rfl rfl) (bI (be (ok.st y' (Qa hy)).1))) es0) (hch _)) (λZ=>bE (d:=.int (x.2.2:Int)) rfl (ag (ag rfl rfl (eD hx)) rfl rfl) rfl (by rw [lX];exact QQ (QQ (QI _ _) hll) (by decide)) (am ⟨l++[x.2.2],by rw [QW];exact QO _,cS_3 Qb⟩)) λZ=>⟨l,Zs _,rfl⟩) λm h=>h.elim λl' q=>?_);exact q.2 ▸ aU (.int (a:Int)) rfl rfl (am ⟨a,han,l',_,haF,QQ (Zt q.1 a) (QQ (Zd (XK _ 1 a)) (QQ (ZQ han _) hll)),rfl⟩)
 ·obtain ⟨x,l,y,hll,rfl⟩:=h
  exact lR (Q:=(· = cS rows F x l.reverse y)) ⟨_,Br rfl,cS_3 List.map_reverse⟩ λm e=>e ▸ qb ⟨l.reverse,by rw [Z5];exact hll,rfl⟩ rfl rfl
end
noncomputable def idxW(w:Str):Nat:=if w == ("beside":Str) then 0 else if w == ("empty":Str) then 1 else 2
noncomputable def isFault(w:Str):Prop:=w=("beside":Str) \/ w=("empty":Str) \/ w=("asleep":Str)
theorem ld(row:Row)(held:List En):fT row held=("":Str) \/ isFault (fT row held):=by
 unfold fT isFault
 repeat' split
 all_goals simp
theorem isFault.ne(h:isFault w):(w == ("":Str))=false:=by rcases h with rfl | rfl | rfl<;>rfl
theorem isFault.idx(h:isFault w):idxD [.str "beside",.str "empty",.str "asleep"] (.str w)=some (.int (idxW w:Int)):=by rcases h with rfl | rfl | rfl<;>rfl
def fOf(rows:List Row)(p:Nat × List En):Str:=fT (rows.getD p.1 .fin) p.2
theorem xY:∀ (xs ys:List Int),xs.length=ys.length->∃ b,ltInts (xs.map .int) (ys.map .int)=some b:=by
 intro xs;induction xs with
 | nil=>
  intro ys h;induction ys using lc with
  | nil=>exact ⟨false,rfl⟩
  | cons=>cases h
 | cons x xs ih=>
  intro ys h;induction ys using lc with
  | nil=>cases h
  | cons y ys=>
   obtain ⟨b,e⟩:=ih ys (Nat.succ.inj h);show ∃ b,(if x=y then ltInts (xs.map .int) (ys.map .int) else (ltInts (xs.map .int) (ys.map .int)).map λo_=>decide (x < y))=some b;rw [e];split
   ·exact ⟨_,rfl⟩
   ·exact ⟨_,rfl⟩
theorem ul{α:Type}{g:α->D}{l:List α}{k:Nat}{vs:List D}(h:(enumL 0 (l.map g))[k]?=some vs):∃ x,l[k]?=some x/\vs=[.int (k:Int),g x]:=by
 rw [ik,Qy] at h;induction q:l[k]? with
 | none=>rw [q] at h;exact nN h
 | some x=>rw [q] at h;rw [Zc] at h;exact ⟨x,rfl,(Qv h).symm⟩
theorem isFault.item(h:isFault w):item (.tuple [.str "beside",.str "empty",.str "asleep"]) (.int (idxW w:Int))=some (.str w):=by rcases h with rfl | rfl | rfl<;>rfl
def nP(rows:List Row)(x:Tri)(i:Nat):D:=.tuple [.int (x.1.1:Int),.int (idxW (fOf rows x.1):Int),.int (i:Int)]
noncomputable def BestAt(rows:List Row)(F:List Tri)(d:D):Prop:=d = .none\/∃ (i:Nat) (x:Tri),F[i]?=some x/\isFault (fOf rows x.1)/\d=nP rows x i
def oS(rows:List Row)(F:List Tri)(d:D)(x:Option D × Option D × Option D × Option D):St:=[some (.list (rows.map Row.d)),some (.list (F.map tD)),some d,x.1,x.2.1,x.2.2.1,x.2.2.2]
noncomputable def OI(rows:List Row)(F:List Tri)(m:St):Prop:=∃ d x,BestAt rows F d/\m=oS rows F d x
section
variable (Φ:Str->List D->Option D)(Γ:Str->Option D)(N:Nat)
theorem rh(G:Gok Γ){rows:List Row}{F:List Tri}(hch:Say Φ "checked" [.list (rows.map Row.d)] none)
 (hst:Φ "standings" [.list (rows.map Row.d)]=some (.list (F.map tD)))
 (hfa:∀ x ∈ F,Φ "fault" [.list (rows.map Row.d),stD x.1]=some (.str (fOf rows x.1)))
 (hto:∀ k,k < F.length->∃ l:List Nat,l.length<=mostB/\Φ "choices_to" [.list (rows.map Row.d),.list (F.map tD),.int (k:Int)]=some (.list (l.map λ(n:Nat)=>.int (n:Int)))) :
 ∃ d,runFn Φ Γ N fnlooked [.list (rows.map Row.d)]=some d:=by
 refine (uZ (P:=λZ=>True) rfl (lR (mj (o:=none) (esC rfl es0) hch) λm e=>e ▸ qc (.list (F.map tD)) (af (esC rfl es0) hst) rfl (qc .none rfl rfl (lR (Q:=OI rows F) (kR (λZ=>OI rows F) (fO (xs:=F.map tD) rfl) rfl ⟨.none,(none,none,none,none),.inl rfl,rfl⟩ λk vs m hk hI=>?_) λm h=>?_)))).imp λZ h=>h.2
 ·obtain ⟨d,y,hb,rfl⟩:=hI
  obtain ⟨x,hx,rfl⟩:=ul hk;refine ⟨_,_,rfl,aU (.str (fOf rows x.1)) (af (esC rfl (esC rfl es0)) (hfa x (Qa hx))) rfl ?_⟩;refine (?_:Go (exSs Φ Γ [] false N _ (oS rows F d (some (.int k),some (tD x),some (.str (fOf rows x.1)),y.2.2.2))) _);refine bD (cx rfl (λz=>?_) λZ=>⟨d,_,hb,rfl⟩) λm e=>am e;have hw:isFault (fOf rows x.1):=(ld (rows.getD x.1.1 .fin) x.1.2).resolve_left λhw=>by
   rw [show fOf rows x.1=("":Str) from hw] at z;exact nF z
  refine aU (nP rows x k) (aJ (esC rfl (esC (sZ (x:=.tuple [.str "beside",.str "empty",.str "asleep"]) G.words rfl hw.idx) (esC rfl es0)))) rfl ?_;refine (?_:∃ b,evE Φ Γ (.bool false (e2 (.cmp .Is (.v 2) (.k .none)) (.cmp .Lt (.v 6) (.v 2)))) (oS rows F d (some (.int k),some (tD x),some (.str (fOf rows x.1)),some (nP rows x k)))=some (.bool b)).elim λb c=>bD (cx c (λZ=>aU (nP rows x k) rfl rfl (am ⟨_,(some (.int k),some (tD x),some (.str (fOf rows x.1)),some (nP rows x k)),(.inr ⟨k,x,hx,hw,rfl⟩),rfl⟩)) λZ=>⟨_,(some (.int k),some (tD x),some (.str (fOf rows x.1)),some (nP rows x k)),hb,rfl⟩) λm e=>am e;rcases hb with rfl | ⟨i,y,_,_,rfl⟩
  ·exact ⟨true,x_or2' rfl⟩
  ·exact (xY [(x.1.1:Int),(idxW (fOf rows x.1):Int),(k:Int)] [(y.1.1:Int),(idxW (fOf rows y.1):Int),(i:Int)] rfl).elim λb q=>⟨false||b,fE rfl (ai rfl rfl q)⟩
 ·obtain ⟨d,x,hb,rfl⟩:=h
  rcases hb with rfl | ⟨i,y,hy,hf,rfl⟩
  ·exact zy (b:=true) rfl (λZ=>qb trivial rfl rfl) nT
  ·exact zy (b:=false) rfl nF λZ=>(hto i (Qq hy).1).elim λl h=>qb trivial (aJ (esC rfl (esC (ag G.words rfl hf.item) (esC (af (esC rfl (esC rfl (esC rfl es0))) h.2) es0)))) rfl
end
theorem um(l:List D)(n:Nat):cut l (some (n:Int)) none=l.drop n:=by
 refine have hc:bM l.length (n:Int)=min n l.length:=(by
  unfold bM
  rw [Qu (ZB.mpr (Zq n)),QN]);?_
 simp only [cut,Y9,Y0,mX,Zr,hc];rcases Nat.le_total n l.length with h | h
 ·rw [Yr h];exact List.take_of_length_le (by rw [List.length_drop];exact QO _)
 ·rw [Nat.min_eq_right h,List.drop_eq_nil_of_le (QO l.length),List.drop_eq_nil_of_le h];exact List.take_nil
section
variable {Φ:Str->List D->Option D}{Γ:Str->Option D}{m:St}
end
noncomputable def Aq:Any->Bool
 | .row r=>r.isNamed
 | .odd _=>false
noncomputable def Ar:Any->Bool
 | .row r=>r.isPk
 | .odd _=>false
noncomputable def As:Any->Str
 | .row r=>r.word
 | .odd _ => ""
theorem vy(r:Row):(r.tag == ("pick":Str))=r.isPk:=by
 induction r with
 | deed v w=>induction v<;>rfl
 | _=>rfl
theorem ri{r:Row}(h:r.isNamed=true):item r.d (.int 1)=some (.str r.word):=by induction r<;>first | rfl | exact nF h
theorem wz2:WordOk "zz" := ⟨by decide,by decide,by decide⟩
theorem wz3:WordOk "zzz" := ⟨by decide,by decide,by decide⟩
theorem wz4:WordOk "zzzz" := ⟨by decide,by decide,by decide⟩
def namesA(l:List Any):List Str:=(l.filter Aq).map As++([("zz":Str),("zzz":Str)]:List Str)
theorem mw(ok:∀ a ∈ l,a.Ok):∀ w ∈ namesA l,WordOk w:=by
 intro w hw;rcases QY hw with q | q
 ·clear hw;obtain ⟨a,ha,rfl⟩:=QG.mp q
  obtain ⟨h1,h2⟩:=Q9.mp ha;induction a with
  | odd=>exact nF h2
  | row r=>exact Row.Ok.word (ok _ h1) h2
 ·clear hw ok;rcases Qw q with rfl | q
  ·exact wz2
  ·exact (Qx q) ▸ wz3
theorem fW{α:Type}(g:α->D)(xs:List α)(hp:0 < xs.length)(i:Int):∃ x ∈ xs,item (.list (xs.map g)) (.int (i.fmod xs.length))=some (g x):=by
 refine have h0:=ar i (b:=(xs.length:Int)) (QZ hp);?_;refine have h1:=aw i (b:=(xs.length:Int)) (QZ hp);?_;refine have hk:(i.fmod xs.length).toNat < xs.length:=(Z2 h0).mpr h1;?_;exact ⟨xs[(i.fmod xs.length).toNat],Y4 hk,p_mk (aN h0 (by rw [lX];exact h1)) (by rw [Qy,Qk hk];rfl)⟩
noncomputable def moreL(a b:Str):List Row:=[.lend a true (.hd b),.lend a false (.hd b),.fin,.orr,.deed .back a,.deed .look a,.deed .change a,.lend a true (.th 999999999),.lend "zzzz" true (.hd a),.pick a [0,0]]
theorem xZ(ha:WordOk a)(hb:WordOk b):∀ r ∈ moreL a b,r.Ok:=by
 intro r hr;simp only [moreL,YW,YJ,or_false] at hr;rcases hr with rfl | rfl | rfl | rfl | rfl | rfl | rfl | rfl | rfl | rfl
 ·exact ⟨ha,hb⟩
 ·exact ⟨ha,hb⟩
 ·trivial
 ·trivial
 ·exact ha
 ·exact ha
 ·exact ha
 ·exact ⟨ha,by decide,by decide⟩
 ·exact ⟨wz4,ha⟩
 ·exact ⟨ha,by decide,by decide,λt ht=>(Qw ht).elim (λq=>q ▸ ⟨by decide,by decide⟩) λq=>Qx q ▸ ⟨by decide,by decide⟩⟩
section
variable (Φ:Str->List D->Option D)(Γ:Str->Option D)(N:Nat)
set_option tactic.hygienic true in
theorem x0{l:List Any}(hl:l.length<=1000)(ok:∀ a ∈ l,a.Ok)(hrow:∀ a:Any,a.Ok->Φ "_law_is_row" [a.d]=some (.bool a.isR))(c o:Int):∃ r:Row,r.Ok/\runFn Φ Γ N fn_law_more [.int c,.int o,.list (l.map Any.d)]=some r.d:=by
 refine have hp:0 < (namesA l).length:=(by unfold namesA;exact QW ▸ (Qe (by decide:0 < 2) (Nat.le_add_left _ _)));?_;refine have hne:((namesA l).length:Int) ≠ 0:=λh=>Nat.ne_of_gt hp (Int.ofNat.inj h);?_;refine byG λX_ g_=>?_;obtain ⟨a,ha,ea⟩:=fW PyData.str (namesA l) hp o;obtain ⟨b,hb,eb⟩:=fW PyData.str (namesA l) hp (o.fdiv 3);obtain ⟨r,hr,er⟩:=fW Row.d (moreL a b) (by decide:0 < 10) c;refine g_ ?_;refine ⟨r,xZ (mw ok a ha) (mw ok b hb) r hr,au [some (.int c),some (.int o),some (.list (l.map Any.d)),none,none,none,none] rfl rfl ?_⟩;dsimp only [fn_law_more];generalize hR:PyData.list (l.map Any.d)=R;refine have hlen:b1 .len (.list ((namesA l).map .str))=some (.int (namesA l).length):=lenL _;?_;refine an (.list ((namesA l).map .str)) (aj (y:=.list [.str "zz",.str "zzz"]) (dA l (λx=>[x.d]) Aq (λx=>.str (As x)) (bt (by exact hR ▸ rfl)) (QQ hl (by decide)) rfl (λx hx=>?_) λx hx hn=>?_) rfl ?_) rfl ?_
 ·have h:=hrow x (ok x hx)
  induction x with
  | odd d=>exact ev_c (aq (b:=false) (c:=false) (af (esC rfl es0) h) nF)
  | row y=>exact ev_c (aq (b:=true) (af (esC rfl es0) h) λZ=>ai (ag rfl rfl (Row.i0 y)) (bW (esC rfl (esC rfl es0))) (ie y))
 ·induction x with
  | odd d=>exact nF hn
  | row y=>exact ag rfl rfl (ri hn)
 ·refine (vg _ _ ?_).trans ?_
  ·rw [lX];exact QQ (QC (QQ (Zz _ _) hl) (QO _)) (by decide:1000+2<=2 ^ 20)
  ·unfold namesA
   rw [Qb,Yz];rfl
 simp only [sX,sN];refine an (.str a) (ag rfl (aj rfl (aK rfl hlen) (eN o _ hne)) ea) rfl (an (.str b) (ag rfl (aj (aj rfl rfl (zB o 3 (by decide))) (aK rfl hlen) (eN _ _ hne)) eb) rfl ?_)
 iterate 3 refine an (.list _) rfl rfl ?_
 exact ah (ag (x:=.list ((moreL a b).map Row.d)) rfl (aj rfl rfl (eN c 10 (by decide))) er) rfl
structure Spl(l l':List Any):Prop where
 ok:∀ a ∈ l',a.Ok
 len:l'.length<=l.length+2
 mx:mx l' []<=mx l [] + 2
theorem Spl.ins(ok:∀ a ∈ l,a.Ok)(p:Nat)(hx:x.Ok):Spl l (l.take p++[x]++l.drop p):=by
 refine ⟨λa ha=>?_,?_,?_⟩
 ·rw [YL,Ys,Ys,ZV] at ha
  rcases ha with q | rfl | q
  ·exact ok a (List.mem_of_mem_take q)
  ·exact hx
  ·exact ok a (List.mem_of_mem_drop q)
 ·have:=Qf List.length (List.take_append_drop p l)
  rw [QW] at this;rw [QW,QW,<- this,List.length_singleton,XK];exact Zs _
 ·have:=qS (l.take p) x (l.drop p) []
  rw [List.take_append_drop] at this;rw [YL];exact Yy this
theorem Spl.two(ok:∀ a ∈ l,a.Ok)(p:Nat):Spl l (l.take p++[.row .again,.row .either]++l.drop p):=by
 refine ⟨λa ha=>?_,?_,?_⟩
 ·rw [YL,Ys,Ys] at ha
  rcases ha with q | q | q
  ·exact ok a (List.mem_of_mem_take q)
  ·rcases Qw q with rfl | q
   ·trivial
   ·rw [Qx q];trivial
  ·exact ok a (List.mem_of_mem_drop q)
 ·have:=Qf List.length (List.take_append_drop p l)
  rw [QW] at this;rw [QW,QW,<- this,XK];exact QO _
 ·refine have h1:=qS (l.take p) (.row .again) ([.row .either]++l.drop p) [];?_
  refine have h2:=qS (l.take p) (.row .either) (l.drop p) [];?_;rw [List.take_append_drop] at h2;rw [YL];exact QQ h1 (QT h2)
theorem Spl.del(ok:∀ a ∈ l,a.Ok)(p:Nat):Spl l (l.take p++l.drop (p+1)):=by
 refine ⟨λa ha=>(QY ha).elim (λq=>ok a (List.mem_of_mem_take q)) λq=>ok a (List.mem_of_mem_drop q),?_,?_⟩
 ·have:=Qf List.length (List.take_append_drop p l)
  rw [QW] at this;rw [QW,<- this,List.length_drop,List.length_drop,Nat.add_assoc];exact ZQ (QQ (Nat.sub_le_sub_left (Zs p) _) (QI _ _)) _
 ·rcases Nat.lt_or_ge p l.length with h | h
  ·have:=Af (l.take p) l[p] (l.drop (p+1)) []
   rw [List.getElem_cons_drop,List.take_append_drop] at this;exact Yy this
  ·rw [List.take_of_length_le h,List.drop_eq_nil_of_le (Yy h),Xj]
   exact QI _ _
theorem x6(c:Int):∃ v:Verb,item (.list [.str "look",.str "back",.str "change"]) (.int (c.fmod 3))=some (.str v.s):=by
 obtain ⟨v,_,h⟩:=fW (λv:Verb=>PyData.str v.s) [.look,.back,.change] (by decide:0 < 3) c;exact ⟨v,h⟩
noncomputable def Rs(l:List Any)(X:Option (Fl × St)):Prop:=∃ l',Spl l l'/\Rt X (.list (l'.map Any.d))
def sS(l:List Any)(ns:List Int)(f w p c:Int)(x y:Option D):St:=[some (.list (l.map Any.d)),some (.list (ns.map .int)),some (.int f),some (.int w),some (.int p),some (.int c),x,y]
def nQ(l:List Any):List Nat:=((l.zipIdx).filter λq=>Ar q.1).map (·.2)
theorem x7(l:List Any):∀ n,enumL n (l.map Any.d)=(l.zipIdx n).map λq=>[.int (q.2:Int),q.1.d]:=by
 induction l with
 | nil=>intro n;rfl
 | cons a l ih=>intro n;rw [QX,ei,ih];rfl
theorem At(h:k ∈ nQ l):∃ r:Row,r.isPk=true/\l[k]?=some (.row r):=by
 obtain ⟨⟨x,i⟩,hq,rfl⟩:=QG.mp h;have h:=Q9.mp hq;clear hq;induction x with
 | odd=>exact nF h.2
 | row r=>exact ⟨r,h.2,List.mem_zipIdx_iff_getElem?.mp h.1⟩
section
variable {Φ:Str->List D->Option D}{Γ:Str->Option D}{m:St}{N:Nat}
theorem gQ(hs:Spl l l')(h:evE Φ Γ e m=some (.list (l'.map Any.d))):Rs l (exSs Φ Γ [] false N (.cons (.ret e) r) m):=⟨l',hs,ah h rfl⟩
theorem jQ(x:D)(h:evE Φ Γ e m=some x)(k:Rs l (exSs Φ Γ [] false N r (m.set i (some x)))):Rs l (exSs Φ Γ [] false N (.cons (.asg i e) r) m):=k.imp λZ q=>⟨q.1,an x h rfl q.2⟩
theorem rj(h:evE Φ Γ c m=some (.bool b))(k1:b=true->Rs l (exSs Φ Γ [] false N t m))(k2:b=false->Rs l (exSs Φ Γ [] false N r m)):Rs l (exSs Φ Γ [] false N (.cons (.ite c t .nil) r) m):=by
 induction b with
 | true=>exact (k1 rfl).imp λZ q=>⟨q.1,aB h rfl q.2⟩
 | false=>exact (k2 rfl).imp λZ q=>⟨q.1,aW h rfl q.2⟩
theorem rk{l:List Any}(hn:n<=l.length)(h0:evE Φ Γ (.v 0) m=some (.list (l.map Any.d)))(h:evE Φ Γ e m=some (.int (n:Int))):evE Φ Γ (.sl (.v 0) .none (.some e)) m=some (.list ((l.take n).map Any.d)):=by
 rw [Xw,<- l8 _ n (by rw [lX];exact hn)];exact xu h0 rfl (by rw [jU,h];rfl)
theorem rl{l:List Any}(n:Nat)(h0:evE Φ Γ (.v 0) m=some (.list (l.map Any.d)))(h:evE Φ Γ e m=some (.int (n:Int))):evE Φ Γ (.sl (.v 0) (.some e) .none) m=some (.list ((l.drop n).map Any.d)):=by
 rw [List.map_drop,<- um];exact xu h0 (by rw [jU,h];rfl) rfl
theorem my{l xs:List Any}{ea eb:Ex}(hl:l.length<=900)(hn:n<=l.length)(h0:evE Φ Γ (.v 0) m=some (.list (l.map Any.d)))(h4:evE Φ Γ ea m=some (.int (n:Int)))(h5:evE Φ Γ eb m=some (.int (n:Int)))(hx:xs.length<=2)(he:evE Φ Γ e m=some (.list (xs.map Any.d))):evE Φ Γ (.bin .Add (.bin .Add (.sl (.v 0) .none (.some ea)) e) (.sl (.v 0) (.some eb) .none)) m=some (.list ((l.take n++xs++l.drop n).map Any.d)):=
 aj (aj (rk hn h0 h4) he (catR (QQ (QC (QQ (List.length_take_le' _ _) hl) hx) (by decide)))) (rl n h0 h5) (catR (by rw [QW,List.length_drop];exact QQ (QC (QC (QQ (List.length_take_le' _ _) hl) hx) (QQ (Y6 _ _) hl)) (by decide)))
end
theorem nR(hl:l.length<=900)(ok:∀ a ∈ l,a.Ok)(hc:∀ k:Int,0<=k->Φ "_law_cell_at" [.list (ns.map .int),.int k]=some (.int (cellAt ns k)))
 (hrow:∀ a:Any,a.Ok->Φ "_law_is_row" [a.d]=some (.bool a.isR)) (hodd:∀ c:Int,∃ d ∈ oddL,Φ "_law_odd" [.int c]=some d) (hmore:∀ c o:Int,∃ r:Row,r.Ok/\Φ "_law_more" [.int c,.int o,.list (l.map Any.d)]=some r.d) (f:Nat) :
 ∃ l',Spl l l'/\runFn Φ Γ N fn_law_spoiled [.list (l.map Any.d),.list (ns.map .int),.int (f:Int)]=some (.list (l'.map Any.d)):=by
 refine (?_:Rs l (exSs Φ Γ [] false N fn_law_spoiled.body [some (.list (l.map Any.d)),some (.list (ns.map .int)),some (.int (f:Int)),none,none,none,none,none])).imp λl' h=>⟨h.1,au _ rfl rfl h.2⟩
 refine (Int.eq_ofNat_of_zero_le (ar (cellAt ns (f+1)) (b:=((l.length+1:Nat):Int)) (QZ (Zm _)))).elim λp hp=>?_;have hpl:p<=l.length:=Q7 (Q0.mp (hp ▸ aw (cellAt ns (f+1)) (b:=((l.length+1:Nat):Int)) (QZ (Zm _))));refine jQ _ (aj (af (esC rfl (esC rfl es0)) (hc f (Zq _))) rfl rfl) (jQ (.int p) (aj (af (esC rfl (esC rfl es0)) (hc (f+1) (Zq (f+1)))) (y:=.int ((l.length+1:Nat):Int)) (aj (aK rfl (lenL l)) rfl rfl) (hp ▸ eN _ _ (λz=>nomatch (Int.ofNat.inj z:l.length+1=0)))) (jQ _ (af (esC rfl (esC rfl es0)) (hc (f+2) (Zq (f+2)))) ?_));refine (?_:Rs l (exSs Φ Γ [] false N (fn_law_spoiled.body.drp 3) (sS l ns f ((cellAt ns f).fmod 8) p (cellAt ns (f+2)) none none)));generalize (cellAt ns f).fmod 8=w;generalize cellAt ns (f+2)=c;refine rj rfl (λZ=>gQ ⟨ok,QI _ _,QI _ _⟩ rfl) λZ=>rj rfl (λZ=>gQ (Spl.del ok p) (aj (rk hpl rfl rfl) (rl (p+1) rfl rfl) (catR (by rw [List.length_drop];exact QQ (QC (QQ (List.length_take_le' _ _) hl) (QQ (Y6 _ _) hl)) (by decide))))) λZ=>jQ (.list ((nQ l).map λ(k:Nat)=>.int (k:Int))) ?_ ?_
 ·rw [nQ,Yz]
  refine dA (l.zipIdx) (λq=>[.int (q.2:Int),q.1.d]) (λq=>Ar q.1) (λq=>.int (q.2:Int)) ((fO (xs:=l.map Any.d) rfl).trans (Qf some (x7 l 0))) (by rw [List.length_zipIdx];exact QQ hl (by decide)) rfl (λq hq=>?_) λq Z Z=>rfl;obtain ⟨x,i⟩:=q;have h:=hrow x (ok x (Qa (List.mem_zipIdx_iff_getElem?.mp hq)));clear hq hp hrow;induction x with
  | odd d=>exact ev_c (aq (b:=false) (c:=false) (af (esC rfl es0) h) nF)
  | row y=>exact ev_c (aq (b:=true) (af (esC rfl es0) h) λZ=>ai (ag rfl rfl (Row.i0 y)) rfl (Qf some (vy y)))
 refine rj (aS rfl (ai (aK rfl (lenL (nQ l))) rfl rfl)) (λh6=>?_) λZ=>rj rfl (λZ=>gQ (Spl.two ok p) (my hl hpl rfl rfl rfl (by decide:2<=2) rfl)) λZ=>rj rfl (λZ=>(hodd c).elim λd h=>gQ (Spl.ins ok p (x:=.odd d) h.1) (my hl hpl rfl rfl rfl (by decide:1<=2) (bW (esC (af (esC rfl es0) h.2) es0)))) λZ=>(hmore c (cellAt ns (f+3))).elim λr h=>gQ (Spl.ins ok p (x:=.row r) h.1) (my hl hpl rfl rfl rfl (by decide:1<=2) (bW (esC (af (esC rfl (esC (af (esC rfl (esC rfl es0)) (hc (f+3) (Zq (f+3)))) (esC rfl es0))) h.2) es0)));have hpos:0 < (nQ l).length:=Q0.mp (Qp (Qz h6).2);refine (fW (λ(k:Nat)=>PyData.int (k:Int)) (nQ l) hpos p).elim λk hk=>(At hk.1).elim λr hr=>(x6 c).elim λv ev=>?_;have hkl:=(Qq hr.2).1;have hrn:r.isNamed=true:=by induction r<;>first | rfl | exact nF hr.1
 exact jQ (.int (k:Int)) (ag rfl (aj rfl (aK rfl (lenL _)) (eN _ _ λz=>Nat.ne_of_gt hpos (Int.ofNat.inj z))) hk.2) (gQ (Spl.ins ok (k+1) (x:=.row (.deed v r.word)) (Row.Ok.word (ok _ (Qa hr.2)) hrn)) (my (n:=k+1) hl hkl rfl rfl rfl (by decide:1<=2) (bW (esC (aJ (esC (ag rfl rfl ev) (esC (ag (ag rfl rfl (p_mk (k:=k) (aN (Zq _) (by rw [lX];exact QZ hkl)) (by rw [Qy,hr.2];rfl))) rfl (ri hrn)) es0))) es0))))
end
noncomputable def kn6:List Str:=[("NoRow":Str),("NoBlock":Str),("NoWord":Str),("Narrow":Str),("Taken":Str),("NoEnd":Str)]
def cZ(c:Str):List Bool:=kn6.map (cy c)
def dueH:Option (Fa × Nat)->D
 | none=>.tuple [.list [.bool false,.bool false,.bool false,.bool false,.bool false,.bool false],.int (-1)]
 | some p=>.tuple [.list ((cZ p.1.cls).map .bool),.int (p.2:Int)]
theorem mz(Φ:Str->List D->Option D)(Γ:Str->Option D)(N:Nat)(c:Str)(n:Int):runFn Φ Γ N fn_law_kinds [xD c n]=some (.list ((cZ c).map .bool)):=rfl
theorem un(Φ:Str->List D->Option D)(Γ:Str->Option D)(N:Nat)(n:Int):runFn Φ Γ N fn_law_whole [.int n]=some (.bool true):=rfl
theorem vz(o:Option (Fa × Nat)):neD (dueH o) (dueH o)=some false:=by
 have key:∀ (bs:List Bool) (n:Int),neD (.tuple [.list (bs.map .bool),.int n]) (.tuple [.list (bs.map .bool),.int n])=some false:=λbs n=>by
  refine have hb:av (bs.map PyData.bool)=true/\PyData.depthAll (bs.map PyData.bool)=0/\PyData.eqvAll (bs.map PyData.bool) (bs.map PyData.bool)=true:=(by
   induction bs with
   | nil=>exact ⟨rfl,rfl,rfl⟩
   | cons b bs ih=>
    refine ⟨ih.1,?_,?_⟩
    ·show max 0 _=0;exact Qf _ ih.2.1
    ·show (PyData.eqv (.bool b) (.bool b)&&_)=true;rw [ih.2.2];induction b<;>rfl);?_
  refine have hs:shp (.tuple [.list (bs.map .bool),.int n])=true:=(by
   show (((av (bs.map PyData.bool))&&true)&&decide ((max (PyData.depthAll (bs.map PyData.bool)+1) 0)+1<=32))=true
   rw [hb.1,hb.2.1];rfl);?_
  refine have he:PyData.eqv (.tuple [.list (bs.map .bool),.int n]) (.tuple [.list (bs.map .bool),.int n])=true:=(by
   show (PyData.eqvAll (bs.map PyData.bool) (bs.map PyData.bool)&&((n == n)&&true))=true
   rw [hb.2.2,Zh];rfl);?_
  unfold neD pyEq;rw [hs,XZ true,YD,Ql rfl,he];rfl
 induction o with
 | none=>exact key [false,false,false,false,false,false] (-1)
 | some p=>exact key _ _
section
variable (Φ Φ0:Str->List D->Option D)(Γ:Str->Option D)(N:Nat)
theorem uo(h:c ∈ kn6):((cZ c).filter id).length=1:=by
 unfold kn6 at h;simp only [YW,YJ,or_false] at h;rcases h with rfl | rfl | rfl | rfl | rfl | rfl<;>decide
theorem mB{m:St}{e:Ex}{bs:List Bool}(h:evE Φ Γ e m=some (.list (bs.map .bool)))(hl:bs.length<=100)(hv:∀ d,(m++[some d])[m.length]?=some (some d)):evE Φ Γ (.b1 .len (.comp (.v m.length) (.plain e) (.some (.v m.length)))) m=some (.int ((bs.filter id).length:Int)):=
 aK (dA bs (λb=>[.bool b]) id (λb=>.bool b) (bt h) (QQ hl (by decide)) rfl (λb Z=>ev_c (ev_v (hv _))) λb Z Z=>ev_v (hv _)) (lenL _)
set_option tactic.hygienic true in
theorem x8(hk:∀ (c:Str) (n:Int),Φ "_law_kinds" [xD c n]=some (.list ((cZ c).map .bool)))(n:Int):runFn Φ Γ N fn_law_made [.int n]=some (.bool true):=by
 refine au [some (.int n),none,none] rfl rfl ?_;dsimp only [fn_law_made];refine bj (Q':=λm=>∃ x,m=[some (.int n),x,none]) ?_ ?_
 ·refine cb (items:=kn6.map λc=>[xD c n]) (λZ m=>∃ x,m=[some (.int n),x,none]) rfl rfl ⟨none,rfl⟩ λk vs m hk' hI=>?_
  obtain ⟨x,rfl⟩:=hI;rw [Qy] at hk';obtain ⟨c,hc,rfl⟩:=QK hk';refine have hc:=Qa hc;?_;refine ⟨_,rfl,?_⟩;simp only [sX,sN];refine bD (cx (b:=false) (Q:=λm=>∃ x,m=[some (.int n),x,none]) ?_ nF λZ=>⟨_,rfl⟩) λm e=>am e;refine bo (b:=false) ?_ λZ=>bo (b:=false) (ai (x:=.int n) (y:=.int n) rfl rfl (Qf (λb=>some (!b)) (Zh n))) λZ=>?_
  ·show some (PyData.bool (!cy c "DeskError"))=_
   unfold cy;rw [show ((("DeskError":Str) == ("DeskError":Str))=true) from rfl,YD];rfl
  ·exact ai (mB Φ Γ (m:=[some (.int n),some (xD c n),none]) (af (esC rfl es0) (hk c n)) (by unfold cZ;rw [lX];decide) λZ=>rfl) rfl (Qf (λ(k:Nat)=>some (!((k:Int) == 1))) (uo hc))
 ·rintro _ ⟨x,rfl⟩
  refine an (.list ((cZ "DeskError").map .bool)) (af (esC rfl es0) (hk "DeskError" n)) rfl (ah (d:=.bool (true&&true)) (aS (ai (x:=.int n) (y:=.int n) rfl rfl (Qf some (Zh n))) ?_) rfl);exact ai (mB Φ Γ (m:=[some (.int n),x,some (.list ((cZ "DeskError").map .bool))]) rfl (by decide) λZ=>rfl) rfl rfl
theorem rn(hc:Say Φ "checked" [R] (o.map λp=>Fa.x p.2 p.1))(hk:∀ (c:Str) (n:Int),Φ0 "_law_kinds" [xD c n]=some (.list ((cZ c).map .bool)))(hw:∀ n:Int,Φ0 "_law_whole" [.int n]=some (.bool true)) :
 dF Φ Φ0 Γ N cf_law_caught [R]=some (dueH o):=by
 induction o with
 | none=>
  refine have e:exS Φ Γ [] false N cf_law_caught.tb [some R,none]=some (.next,[some R,none]):=(by
   show exS Φ Γ [] false N (.ifn "checked" (.cons (.v 0) .nil)) [some R,none]=_
   rw [vN,esC rfl es0,bX,show Φ "checked" [R]=some .none from hc];rfl);?_
  show (match exS Φ Γ [] false N cf_law_caught.tb [some R,none] with | some (.next,m)=>evE Φ Γ cf_law_caught.rv m | some (.exc x,_)=>(exSs Φ0 Γ [] false N cf_law_caught.hb ((List.replicate 2 none).set 1 (some x))).bind λq=>(match q.1 with | .ret d=>if noDict d then some d else none | _=>none) | _=>none)=_;exact e ▸ rfl
 | some p=>
  refine have e:exS Φ Γ [] false N cf_law_caught.tb [some R,none]=some (.exc (Fa.x p.2 p.1),[some R,none]):=(by
   show exS Φ Γ [] false N (.ifn "checked" (.cons (.v 0) .nil)) [some R,none]=_
   rw [vN,esC rfl es0,bX,hc.1,hc.2];rfl);?_
  show (match exS Φ Γ [] false N cf_law_caught.tb [some R,none] with | some (.next,m)=>evE Φ Γ cf_law_caught.rv m | some (.exc x,_)=>(exSs Φ0 Γ [] false N cf_law_caught.hb ((List.replicate 2 none).set 1 (some x))).bind λq=>(match q.1 with | .ret d=>if noDict d then some d else none | _=>none) | _=>none)=_;rw [e]
  refine have r:Rt (exSs Φ0 Γ [] false N cf_law_caught.hb [none,some (Fa.x p.2 p.1)]) (dueH (some p)):=(by
   refine aB (x:=.bool (true&&true)) (aS ?_ (af (esC rfl es0) (hw p.2))) rfl (ah (aJ (esC (af (esC rfl es0) (hk p.1.cls p.2)) (esC rfl es0))) rfl);show some (PyData.bool (cy p.1.cls "ValueError"))=_;unfold cy
   rw [show ((("ValueError":Str) == ("ValueError":Str))=true) from rfl,YD]);?_
  obtain ⟨m',r⟩:=r;show (exSs Φ0 Γ [] false N cf_law_caught.hb [none,some (Fa.x p.2 p.1)]).bind _=_;exact r ▸ rfl
theorem uq(h0:o=none->∃ d,Φ "looked" [R]=some d)(h1:∀ p,o=some p->Φ "looked" [R]=none/\Φ (exn "looked") [R]=some (Fa.x p.2 p.1))(hk:∀ (c:Str) (n:Int),Φ0 "_law_kinds" [xD c n]=some (.list ((cZ c).map .bool))) :
 dF Φ Φ0 Γ N cf_law_looked [R]=some (dueH o):=by
 show (match exS Φ Γ [] false N cf_law_looked.tb [some R,none] with | some (.next,m)=>evE Φ Γ cf_law_looked.rv m | some (.exc x,_)=>(exSs Φ0 Γ [] false N cf_law_looked.hb ((List.replicate 2 none).set 1 (some x))).bind λq=>(match q.1 with | .ret d=>if noDict d then some d else none | _=>none) | _=>none)=_;induction o with
 | none=>
  obtain ⟨d,hd⟩:=h0 rfl
  refine have e:exS Φ Γ [] false N cf_law_looked.tb [some R,none]=some (.next,[some R,none]):=(by
   show exS Φ Γ [] false N (.exr "looked" (.cons (.v 0) .nil)) [some R,none]=_
   rw [n9,esC rfl es0,bX,hd]);?_
  exact e ▸ rfl
 | some p=>
  refine have hc:=h1 p rfl;?_
  refine have e:exS Φ Γ [] false N cf_law_looked.tb [some R,none]=some (.exc (Fa.x p.2 p.1),[some R,none]):=(by
   show exS Φ Γ [] false N (.exr "looked" (.cons (.v 0) .nil)) [some R,none]=_
   rw [n9,esC rfl es0,bX,hc.1,hc.2];rfl);?_
  rw [e];obtain ⟨m',r⟩:Rt (exSs Φ0 Γ [] false N cf_law_looked.hb [none,some (Fa.x p.2 p.1)]) (dueH (some p)):=ah (aJ (esC (af (esC rfl es0) (hk p.1.cls p.2)) (esC rfl es0))) rfl;show (exSs Φ0 Γ [] false N cf_law_looked.hb [none,some (Fa.x p.2 p.1)]).bind _=_;exact r ▸ rfl
theorem mD(hc:Say Φ "checked" [R] (some x)):runX Φ Γ N fnlooked [R]=some x:=
 iy (Q:=λZ=>True) [some R,none,none,none,none,none,none] rfl rfl (cX (o1:=some (false,x)) (o2:=none) (mj (o:=some x) (esC rfl es0) hc) nS)
theorem Au(h1:getV m i=some x)(h2:Φ f [x]=some d)(h3:getV m j=some y)(h4:neD d y=some false)(h5:evE Φ Γ e m=some (.bool false))(k:Rt (exSs Φ Γ ow fr N r m) q):Rt (exSs Φ Γ ow fr N (.cons (.cor f i j e) r) m) q:=by
 refine bp m ?_ k;rw [yn,h1,bX,h2,bX,h3,bX,h4,bX,Qu Qr,h5];rfl
theorem x9(h5:evE Φ Γ e m=some (.bool b))(h1:getV m i=some x)(h2:b=true->Φ f [x]=some y)(h3:getV m j=some y)(h4:neD y y=some false)(k:Rt (exSs Φ Γ ow fr N r m) q):Rt (exSs Φ Γ ow fr N (.cons (.cand e f i j) r) m) q:=by
 refine bp m ?_ k;rw [uy,h5,bX,dU,bX];clear k h5;induction b with
 | false=>rfl
 | true=>rw [Ql rfl,h1,bX,h2 rfl,bX,h3,bX,h4];rfl
theorem ur(o:Option (Fa × Nat))(hm:m[3]?=some (some (dueD o)))(hv:∀ d,(m++[some d])[3]?=some (some (dueD o))/\(m++[some d])[7]?=some (some d)):evE Φ Γ (.tup (.cons (.comp (.cmp .Eq (.idx (.v 3) (.k (.int 0))) (.v 7)) (.plain (.lst (.cons (.k (.str "row")) (.cons (.k (.str "block")) (.cons (.k (.str "word")) (.cons (.k (.str "narrow")) (.cons (.k (.str "taken")) (.cons (.k (.str "end")) .nil)))))))) .none) (.cons (.idx (.v 3) (.k (.int 1))) .nil))) m=some (dueH o):=by
 refine have i0:item (dueD o) (.int 0)=some (.str (wdO (o.map (·.1)))):=(by induction o<;>rfl);?_;refine have i1:item (dueD o) (.int 1)=some (.int (o.elim (-1) λp=>(p.2:Int))):=(by induction o<;>rfl);?_
 refine (aJ (esC (
  bB [("row":Str),("block":Str),("word":Str),("narrow":Str),("taken":Str),("end":Str)] (λw=>[.str w]) (λw=>.bool (wdO (o.map (·.1)) == w)) rfl (by decide) rfl λw Z=>ai (ag (ev_v (hv _).1) rfl i0) (ev_v (hv _).2) rfl) (esC (ag (ev_v hm) rfl i1) es0))).trans ?_
 clear i1 i0 hv hm;induction o with
 | none=>rfl
 | some p=>
  obtain ⟨f,k⟩:=p;induction f<;>rfl
end
theorem ro{l:List Any}(ok:∀ a ∈ l,a.Ok){rs:List Row}(e:l=rs.map Any.row):∀ r ∈ rs,r.Ok:=λr hr=>ok (.row r) (e ▸ QG.mpr ⟨r,hr,rfl⟩)
theorem rq(l:List Row)(r:Row):mulW (l++[r])=mulW l * widR r:=by
 induction l with
 | nil=>exact (Nat.mul_one _).trans (Nat.one_mul _).symm
 | cons x l ih=>show widR x * mulW (l++[r])=widR x * mulW l * widR r;rw [ih,Nat.mul_assoc]
def csOf(ns:List Int):List Int:=(List.range 21).map λ(i:Nat)=>cellAt ns (i:Int)
def lS(ns:List Int)(L:List Any)(n:Nat)(x:Option D):St:=[some (.list (ns.map .int)),some (.list (L.map Any.d)),some (.list (L.map Any.d)),some (dueD (verd L)),some (dueH (verd L)),some (.int n),x]
section
variable (Φ:Str->List D->Option D)(Γ:Str->Option D)(N:Nat)
set_option tactic.hygienic true in
theorem Av(ns:List Int)(hcell:∀ k:Int,0<=k->Φ "_law_cell_at" [.list (ns.map .int),.int k]=some (.int (cellAt ns k)))
 (hdrawn:∀ cs:List Int,cs.length<=63->Φ "_law_drawn" [.list (cs.map .int),.int 7]=some (.list ((drawnOf cs 7).map Row.d)))
 (hsp:∀ (l:List Any) (f:Nat),l.length<=900->(∀ a ∈ l,a.Ok)->∃ l',Spl l l'/\Φ "_law_spoiled" [.list (l.map Any.d),.list (ns.map .int),.int (f:Int)]=some (.list (l'.map Any.d)))
 (hdue:∀ l:List Any,l.length<=1000->(∀ a ∈ l,a.Ok)->Φ "_law_due" [.list (l.map Any.d)]=some (dueD (verd l)))
 (hcat:∀ l:List Any,l.length<=1000->(∀ a ∈ l,a.Ok)->Φ "_law_caught" [.list (l.map Any.d)]=some (dueH (verd l)))
 (hmade:∀ n:Int,Φ "_law_made" [.int n]=some (.bool true))
 (hlook:∀ l:List Any,l.length<=84->(∀ a ∈ l,a.Ok)->mx l []<=10->(verd l=none->∀ rs:List Row,l=rs.map Any.row->mulW rs<=40)->Φ "_law_looked" [.list (l.map Any.d)]=some (dueH (verd l))) :
 runFn Φ Γ N fnlaw [.list (ns.map .int)]=some (.bool true):=by
 refine au [some (.list (ns.map .int)),none,none,none,none,none,none] rfl rfl ?_;have o0:∀ a ∈ rws (drawnOf (csOf ns) 7),a.Ok:=λa ha=>(QG.mp ha).elim λr q=>q.2 ▸ tM (csOf ns) 7 r q.1;have l0:(rws (drawnOf (csOf ns) 7)).length<=80:=by unfold rws;rw [lX];exact qU (csOf ns)
 refine an (.list ((rws (drawnOf (csOf ns) 7)).map Any.d)) (af (esC ((bB (List.range 21) (λ(i:Nat)=>[.int (i:Int)]) (λ(i:Nat)=>.int (cellAt ns (i:Int))) (bC (n:=21) rfl (by decide)) (by decide) rfl λi Z=>af (esC rfl (esC rfl es0)) (hcell i (Zq _))).trans (Qf (λl=>some (PyData.list l)) (Yz).symm)) (esC rfl es0)) ((hdrawn (csOf ns) (show ((List.range 21).map _).length<=63 by rw [lX];decide)).trans (Qf (λl=>some (PyData.list l)) (by unfold rws;rw [Yz];rfl)))) rfl ?_;refine (hsp _ 21 (QQ l0 (by decide)) o0).elim λL1 h1=>?_;have l1:L1.length<=82:=QQ h1.1.len (Zt l0 2);have m1:mx L1 []<=8:=QQ h1.1.mx (Zt (tV (csOf ns) 7) 2);refine an (.list (L1.map Any.d)) (af (esC rfl (esC rfl (esC rfl es0))) h1.2) rfl (bj (Q':=λm=>∃ L:List Any,L.length<=84/\(∀ a ∈ L,a.Ok)/\mx L []<=10/\m=[some (.list (ns.map .int)),some (.list (L.map Any.d)),none,none,none,none,none]) (cx (ai (aj (af (esC rfl (esC rfl es0)) (hcell 25 (by decide))) rfl rfl) rfl rfl) (λZ=>?_) λZ=>⟨L1,QQ l1 (by decide),h1.1.ok,QQ m1 (by decide),rfl⟩) ?_)
 ·exact (hsp L1 26 (QQ l1 (by decide)) h1.1.ok).elim λL2 h2=>aU (.list (L2.map Any.d)) (af (esC rfl (esC rfl (esC rfl es0))) h2.2) rfl (am ⟨L2,QQ h2.1.len (Zt l1 2),h2.1.ok,QQ h2.1.mx (Zt m1 2),rfl⟩)
 rintro _ ⟨L,hl,ok,hmx,rfl⟩;clear l0 o0 l1 m1 h1 L1 hsp hdrawn;have hl1000:L.length<=1000:=QQ hl (by decide);have i1:item (dueD (verd L)) (.int 1)=some (.int ((verd L).elim (-1) λp=>(p.2:Int))):=by induction verd L<;>rfl
 refine an (.list (L.map Any.d)) rfl rfl (an (dueD (verd L)) (af (esC rfl es0) (hdue L hl1000 ok)) rfl (an (dueH (verd L)) (ur Φ Γ (verd L) rfl λd=>⟨rfl,rfl⟩) rfl (Au Φ Γ N rfl (hcat L hl1000 ok) rfl (vz _) (cw (b:=true) (af (esC (aj (ag rfl rfl i1) rfl rfl) es0) (hmade _))) (an (.int 1) rfl rfl (bj (Q':=λm=>∃ (n:Nat) (x:Option D),(n < 41->verd L=none->∀ rs:List Row,L=rs.map Any.row->mulW rs<=40)/\m=lS ns L n x) ?_ ?_)))))
 ·refine (?_:Go (exS Φ Γ [] false N _ (lS ns L 1 none)) _)
  induction hv:verd L with
  | some p=>
   refine Go.mono (cb (λZ m=>∃ x,m=lS ns L 1 x) (bt rfl) rfl ⟨none,rfl⟩ λk vs m hk hI=>?_) λm h=>h.elim λx e=>⟨1,x,(λZ z=>nS z),e⟩
   obtain ⟨x,rfl⟩:=hI;rw [Qy] at hk;exact (QK hk).elim λa q=>⟨a.d,q.2.symm,ce (aq (b:=false) (c:=false) (ai (ag rfl rfl i1) rfl (hv ▸ Qf some (beq_eq_false_iff_ne.mpr λz=>nomatch z))) nF) (am ⟨_,rfl⟩)⟩
  | none=>
   refine (fine ok hv).elim λrs h=>?_;refine Go.mono (cb (λk m=>∃ x,m=lS ns L (mulW (rs.take k)) x) (bt rfl) rfl ⟨none,rfl⟩ λk vs m hk hI=>?_) λm q=>q.elim λx e=>⟨mulW rs,x,λz Z rs' e'=>?_,?_⟩
   ·obtain ⟨x,rfl⟩:=hI
    rw [Qy] at hk;obtain ⟨a,ha,rfl⟩:=QK hk;rw [h.1,Qy] at ha;clear hk i1 hl1000 hmade hcat hdue hcell;obtain ⟨r,hr,rfl⟩:=QK ha;have hok:=ro ok h.1 r (Qa hr);have ht:mulW (rs.take (k+1))=mulW (rs.take k) * widR r:=by rw [ZU,hr,<- rq];rfl
    refine ⟨_,rfl,?_⟩;rw [ht];refine (?_:Go (exSs Φ Γ [] false N _ (lS ns L (mulW (rs.take k)) (some r.d))) _);have c1:item (dueD (verd L)) (.int 1)=some (.int (-1)):=hv ▸ rfl;induction hp:r.isPk with
    | false=>
     refine have:widR r=1:=(by induction r<;>first | rfl | exact nT hp);?_;exact ce (aq (b:=true) (c:=false) (ai (ag rfl rfl c1) rfl rfl) λZ=>(bQ ..).trans (ai (ag rfl rfl (Row.i0 r)) rfl (Qf some ((vy r).trans hp)))) (am ⟨_,Qf (λn=>lS ns L n _) (this.symm ▸ (Nat.mul_one _).symm)⟩)
    | true=>
     induction r with
     | pick w ts=>exact dT _ (aq (b:=true) (c:=true) (ai (ag rfl rfl c1) rfl rfl) λZ=>rfl) (aU (.int ((mulW (rs.take k) * ts.length:Nat):Int)) (aj rfl (aK rfl (by rw [zD,lX])) (vc _ _ (eS (Zq _) (QH (QB.mpr hok.2.2.1) (by decide))))) rfl (am rfl)) (am ⟨_,rfl⟩)
     | _=>exact nF hp
   ·exact ((List.map_inj_right λa b (z:Any.row a=Any.row b)=>by cases z;rfl).mp (e'.symm.trans h.1):rs'=rs) ▸ Q7 z
   ·rw [e,lX,h.1,lX,Z8]
 rintro _ ⟨n,x,hn,rfl⟩;exact x9 Φ Γ N (b:=decide ((n:Int) < 41)) rfl rfl (λz=>hlook L hl ok hmx (hn (Q0.mp (Qp z)))) rfl (vz _) (ah (d:=.bool (true&&true)) (aS (ai (aK rfl (lenL L)) (aK rfl (lenL L)) (Qf some (Zh (L.length:Int)))) (ai rfl rfl (xE ok))) rfl)
end
theorem ut{os:List Row}{held:List En}(H:HeldOk os held){row:Row}(v:V os row):∀ w q u,row = .lend w q (.hd u)->(aC held u).isSome=true:=by
 rintro w q u rfl;refine byG λX_ g_=>?_;obtain ⟨_,x,hx,hn,hu,_⟩:=v;obtain ⟨e,he,hw,_⟩:=H.mem hx hn;refine g_ ?_;rw [<- hu,<- hw,cj H.nd he];rfl
theorem nU(Φ:Str->List D->Option D)(Γ:Str->Option D)(N:Nat)(r:Row):runFn Φ Γ N fnchooses [r.d]=some (.bool r.chooses):=by
 refine au [some r.d] rfl rfl ?_;exact ah (ai (ag rfl rfl (Row.i0 r)) rfl (nu r)) rfl
theorem jR(h:cats.lookup g=none):mkC Γ N tbl tbl0 cats g args=mkΦ Γ N tbl g args:=by
 unfold mkC;rw [h]
theorem vA(h:cats.lookup g=some c):mkC Γ N tbl tbl0 cats g args=dF (mkΦ Γ N tbl) (mkΦ Γ N tbl0) Γ N c args:=by
 unfold mkC;rw [h]
theorem mE(G:Gok Γ):∀ n:Nat,n=0\/n=2\/n=12\/n=21->∀ (ns:List Int) (k:Int),0<=k->mkΦ Γ 4000000 (tbl03.drop n) "_law_cell_at" [.list (ns.map .int),.int k]=some (.int (cellAt ns k)):=λn hn ns k hk=>by
 rcases hn with h | h | h | h<;>subst h<;>(exact (ax (fn:=fn_law_cell_at) (rest:=tbl03.drop 23) (by rfl)).trans (w9 _ _ _ ns k hk))
theorem ya(G:Gok Γ)(ns:List Int)(h:ns.length<=63):mkΦ Γ 4000000 (tbl03.drop 0) "_law_drawn" [.list (ns.map .int),.int 7]=some (.list ((drawnOf ns 7).map Row.d)):=by
 rw [(ax (fn:=fn_law_drawn) (rest:=tbl03.drop 12) (by rfl))];refine to _ _ _ ns h 7 (by decide) (by decide) (mE G 12 (.inr (.inr (.inl rfl))) ns) ?_ ?_
 ·exact (ax (fn:=fn_law_draw) (rest:=tbl03.drop 21) (by rfl)).trans (xa _ _ _ ns (mE G 21 (.inr (.inr (.inr rfl))) ns))
 ·intro odd most hm c n hn
  rw [(ax (fn:=fn_law_sheet) (rest:=tbl03.drop 13) (by rfl))];have hw:∀ (k:Nat),k=14\/k=16\/k=19->∀ (one two:Int) (deep:Nat),deep < 900->mkΦ Γ 4000000 (tbl03.drop k) "_law_word" [.int one,.int two,.int deep,(aZ ns).d]=some (.str (wordOf one two deep (aZ ns))):=λk hk one two deep hd=>by
   rcases hk with h | h | h<;>subst h<;>(exact (ax (fn:=fn_law_word) (rest:=tbl03.drop 22) (by rfl)).trans (xd _ _ _ one two deep _ (jo ns) (by exact QB.mpr (QF deep)) (by exact QZ hd)))
  have ht:∀ (k:Nat),k=14\/k=16\/k=17->∀ c b:Int,mkΦ Γ 4000000 (tbl03.drop k) "_law_thing" [.int c,.int b]=some (.int (thingOf c b)):=λk hk c b=>by
   rcases hk with h | h | h<;>subst h<;>(exact (ax (fn:=fn_law_thing) (rest:=tbl03.drop 20) (by rfl)).trans (ta _ _ _ c b))
  refine tn _ _ _ (aZ ns) ?_ ?_ odd most hm c n hn
  ·intro one two deep hd
   rw [(ax (fn:=fn_law_gadget) (rest:=tbl03.drop 17) (by rfl))];refine qp _ _ _ (aZ ns) (ht 17 (.inr (.inr rfl))) ?_ ?_ one two deep hd
   ·intro one two deep hd
    exact (ax (fn:=fn_law_hands) (rest:=tbl03.drop 19) (by rfl)).trans (ti _ _ _ (aZ ns) (hw 19 (.inr (.inr rfl))) one two deep hd)
   ·intro way one two a b c th h0 h4
    exact (ax (fn:=fn_law_first_four) (rest:=tbl03.drop 18) (by rfl)).trans (tj _ _ _ way one two a b c th h0 h4)
  ·intro way one two opened hl
   rw [(ax (fn:=fn_law_row) (rest:=tbl03.drop 14) (by rfl))];refine zN _ _ _ (aZ ns) (jo ns) (ht 14 (.inl rfl)) (hw 14 (.inl rfl)) ?_ ?_ way one two opened hl
   ·intro one two named hn hl
    exact (ax (fn:=fn_law_lend) (rest:=tbl03.drop 16) (by rfl)).trans (xf _ _ _ (aZ ns) (jo ns) (ht 16 (.inr (.inl rfl))) (hw 16 (.inr (.inl rfl))) one two named hn hl)
   ·intro one two hands hn hl
    exact (ax (fn:=fn_law_deed) (rest:=tbl03.drop 15) (by rfl)).trans (xg _ _ _ one two hands hn hl)
theorem rt(G:Gok Γ):∀ n:Nat,n=2\/n=3\/n=5->∀ a:Any,a.Ok->mkΦ Γ 4000000 (tbl03.drop n) "_law_is_row" [a.d]=some (.bool a.isR):=λn hn a ha=>by
 have h:=vm G.oddl (xz (λi hi=>(ax (fn:=fn_law_is_thing) (rest:=tbl03.drop 8) (by rfl)).trans (qG hi)) (λi=>(ax (fn:=fn_law_is_word) (rest:=tbl03.drop 9) (by rfl)).trans rfl) λw hw=>(ax (fn:=fn_law_is_word) (rest:=tbl03.drop 9) (by rfl)).trans (tN hw)) a ha;rcases hn with rfl | rfl | rfl<;>exact (ax (fn:=fn_law_is_row) (rest:=tbl03.drop 7) (by rfl)).trans h
theorem vB(G:Gok Γ)(n:Nat)(hn:n=33\/n=34)(w:Str)(hw:WordOk w):mkΦ Γ 4000000 (tbl03.drop n) "is_word" [.str w]=some (.bool true):=by
 rcases hn with rfl | rfl<;>exact (ax (fn:=fnis_word) (rest:=tbl03.drop 37) (by rfl)).trans (ny G hw)
theorem ru(G:Gok Γ)(n:Nat)(hn:n=34\/n=35)(i:Int)(h:ThOk i):mkΦ Γ 4000000 (tbl03.drop n) "is_thing" [.int i]=some (.bool true):=by
 rcases hn with rfl | rfl<;>exact (ax (fn:=fnis_thing) (rest:=tbl03.drop 36) (by rfl)).trans (kZ G h)
theorem vC(G:Gok Γ):∀ n:Nat,n=29\/n=30->∀ (ps:List (Nat × Row)) (w:Str),mkΦ Γ 4000000 (tbl03.drop n) "meaning" [.list (ps.map blD),.str w]=some (optS (aD ps w)):=λn hn ps w=>by
 rcases hn with h | h<;>subst h<;>(exact (ax (fn:=fnmeaning) (rest:=tbl03.drop 32) (by rfl)).trans (nD _ _ _ ps w))
theorem Bs(G:Gok Γ)(a:Any)(ha:a.Ok):mkΦ Γ 4000000 (tbl03.drop 27) "is_row" [a.d]=some (.bool a.isR):=
 (ax (fn:=fnis_row) (rest:=tbl03.drop 33) (by rfl)).trans (vm G.odd (qH (λw q s h=>(ax (fn:=fnis_lend) (rest:=tbl03.drop 34) (by rfl)).trans (nz (ru G 34 (.inl rfl)) (λu=>(ax (fn:=fnis_thing) (rest:=tbl03.drop 36) (by rfl)).trans rfl) (vB G 34 (.inr rfl)) h)) (λts h1 h5 hk=>(ax (fn:=fnis_choice) (rest:=tbl03.drop 35) (by rfl)).trans (jD G (ru G 35 (.inr rfl)) h1 h5 hk)) (vB G 33 (.inl rfl))) a ha)
theorem Aw(G:Gok Γ)(hl:l.length<=1000)(ok:∀ a ∈ l,a.Ok):∀ n:Nat,n=0\/n=24->Say (mkΦ Γ 4000000 (tbl03.drop n)) "checked" [.list (l.map Any.d)] ((verd l).map λp=>Fa.x p.2 p.1):=λn hn=>by
 rcases hn with h | h<;>subst h<;>(exact mn (rest:=tbl03.drop 27) (fn:=fnchecked) [some (.list (l.map Any.d)),none,none,none] (by rfl) (by rfl) rfl rfl (nG _ _ _ G hl ok (Bs G) (λps r j=>mn (rest:=tbl03.drop 31) (fn:=fnneed_block) [some (.list (ps.map blD)),some (.int j),some r.d] (by rfl) (by rfl) rfl rfl (iz _ _ _ ps r j)) (λps v w j=>mn (rest:=tbl03.drop 30) (fn:=fnneed_hand) [some (.list (ps.map blD)),some (.int j),some (Row.deed v w).d,none] (by rfl) (by rfl) rfl rfl (jH _ _ _ (vC G 30 (.inr rfl)) ps v w j)) (λps r hr j=>mn (rest:=tbl03.drop 29) (fn:=fnneed_free) [some (.list (ps.map blD)),some (.int j),some r.d,none] (by rfl) (by rfl) rfl rfl (jI _ _ _ (vC G 29 (.inl rfl)) ps hr j)) λhr j=>(ax (fn:=fnblock_of) (rest:=tbl03.drop 28) (by rfl)).trans (k8 _ _ _ hr j)))
theorem uu(G:Gok Γ)(dl84:rows.length<=84)(nd:Nested rows)(wf:WfR [] rows)(rok:∀ r ∈ rows,r.Ok)(hm:mulW rows<=40)(hx:mx (rws rows) []<=10)(hck:Say (mkΦ Γ 4000000 (tbl03.drop 24)) "checked" [.list (rows.map Row.d)] none):∃ d,mkΦ Γ 4000000 (tbl03.drop 0) "looked" [.list (rows.map Row.d)]=some d:=by
 have dl:rows.length<=1000:=QQ dl84 (by decide);have dl5:rows.length<=5000:=QQ dl (by decide);have hB:=Bq nd wf rok dl84 hm hx;obtain ⟨K,hK⟩:=xX hB;have h1000:∀ p,StOk rows p->p.2.length<=1000:=λp hp=>QQ hp.2.len (QQ (kX (Qm hp.1)) dl);have hhomes:∀ n:Nat,n=26\/n=51->mkΦ Γ 4000000 (tbl03.drop n) "homes" [.list (rows.map Row.d)]=some (.list ((aX rows).map .int)):=λn hn  => by
  rcases hn with h | h<;>subst h<;>(exact (ax (fn:=fnhomes) (rest:=[]) (by rfl)).trans (tA _ _ _ G.op rows dl5 nd.ok))
 have hfirst:∀ n:Nat,n=44\/n=46->∀ j:Nat,mkΦ Γ 4000000 (tbl03.drop n) "first_rows" [.list (rows.map Row.d),.list ((aX rows).map .int),.int (j:Int)]=some (.list ((startL rows j).map .int)):=λn hn j=>by
  rcases hn with h | h<;>subst h<;>(exact (ax (fn:=fnfirst_rows) (rest:=tbl03.drop 50) (by rfl)).trans (io _ _ _ rows dl5 j))
 have hcount:∀ n:Nat,n=26\/n=44->∀ (k:Nat) (row:Row),rows[k]?=some row->mkΦ Γ 4000000 (tbl03.drop n) "count_of" [.list (rows.map Row.d),.list ((aX rows).map .int),.int (k:Int)]=some (.int (bP rows k row)):=λn hn k row hr=>by
  rcases hn with h | h<;>subst h<;>(exact (ax (fn:=fncount_of) (rest:=tbl03.drop 46) (by rfl)).trans (t9 _ _ _ rows (hfirst 46 (.inr rfl)) k row hr))
 have hasl:∀ n:Nat,n=38\/n=41->∀ (es:List En) (w:Str),es.length<=1000->mkΦ Γ 4000000 (tbl03.drop n) "is_asleep" [.tuple (es.map En.d),.str w]=some (.bool (eL es w)):=λn hn es w hl=>by
  rcases hn with h | h<;>subst h<;>(exact (ax (fn:=fnis_asleep) (rest:=tbl03.drop 42) (by rfl)).trans (jy _ _ _ es w hl))
 have hent:∀ n:Nat,n=39\/n=48->∀ (held:List En) (w:Str),mkΦ Γ 4000000 (tbl03.drop n) "entry_of" [.tuple (held.map En.d),.str w]=some (enO (aC held w)):=λn hn held w=>by
  rcases hn with h | h<;>subst h<;>(exact (ax (fn:=fnentry_of) (rest:=tbl03.drop 49) (by rfl)).trans (kW _ _ _ held w))
 refine (rh _ Γ 4000000 G (F:=B rows K) hck ?_ (λx hx=>?_) λk hk=>?_).imp λd h=>(ax (fn:=fnlooked) (rest:=tbl03.drop 24) (by rfl)).trans h
 ·rw [(ax (fn:=fnstandings) (rest:=tbl03.drop 26) (by rfl))]
  refine jP _ _ _ dl nd wf (by decide) hB (hhomes 26 (.inl rfl)) ?_ (hcount 26 (.inl rfl)) (λk row hr held H c=>?_) hK
  ·exact (ax (fn:=fnends) (rest:=tbl03.drop 51) (by rfl)).trans (xq _ _ _ rows dl5 nd.ok (hhomes 51 (.inr rfl)))
  ·rw [(ax (fn:=fnmoved) (rest:=tbl03.drop 44) (by rfl))]
   refine ue _ _ _ rows dl nd wf (hcount 44 (.inr rfl)) (λos held H w wr s v=>?_) (hfirst 44 (.inl rfl)) (λheld hl w=>?_) (λk hr held c=>?_) k row hr held H c
   ·exact (ax (fn:=fnlent) (rest:=tbl03.drop 48) (by rfl)).trans (t7 _ _ _ (hent 48 (.inr rfl)) H v)
   ·exact (ax (fn:=fngiven_back) (rest:=tbl03.drop 47) (by rfl)).trans (tZ _ _ _ held hl w)
   ·exact (ax (fn:=fnended) (rest:=tbl03.drop 45) (by rfl)).trans (ud _ _ _ rows wf k hr held c)
 ·rw [(ax (fn:=fnfault) (rest:=tbl03.drop 38) (by rfl))]
  have st:=(B_ok nd wf K).st x hx;refine tI _ _ _ (λheld hl=>?_) (λrow held hv=>?_) (hasl 38 (.inl rfl)) rows x.1.1 _ (be st.1) x.1.2 (h1000 _ st) (ut st.2 (jw wf (be st.1)))
  ·rw [(ax (fn:=fnbeside) (rest:=tbl03.drop 40) (by rfl))]
   refine qB _ _ _ (λes he=>?_) held hl;exact (ax (fn:=fnawake) (rest:=tbl03.drop 41) (by rfl)).trans (tF _ _ _ (hasl 41 (.inr rfl)) es he)
  ·exact (ax (fn:=fnhand_used) (rest:=tbl03.drop 39) (by rfl)).trans (jB _ _ _ (hent 39 (.inl rfl)) row held hv)
 ·rw [(ax (fn:=fnchoices_to) (rest:=tbl03.drop 25) (by rfl))]
  exact iD _ Γ 4000000 (B_ok nd wf K) (hB K) (by decide) (λr=>(ax (fn:=fnchooses) (rest:=tbl03.drop 43) (by rfl)).trans (nU _ _ _ r)) k hk
theorem plain03(G:Gok Γ)(ns:List Int):runFn (mkC Γ 4000000 tbl03 tbz03 cat03) Γ 4000000 fnlaw [.list (ns.map .int)]=some (.bool true):=by
 have kz:∀ (c:Str) (n:Int),mkΦ Γ 4000000 tbz03 "_law_kinds" [xD c n]=some (.list ((cZ c).map .bool)):=λc n=>(ax (fn:=fn_law_kinds) (rest:=tbz03.drop 1) (by rfl)).trans (mz _ _ _ c n);have wz:∀ n:Int,mkΦ Γ 4000000 tbz03 "_law_whole" [.int n]=some (.bool true):=λn=>(ax (fn:=fn_law_whole) (rest:=[]) (by rfl)).trans (un _ _ _ n);refine Av _ _ _ ns (λk hk=>(jR (by rfl)).trans (mE G 0 (.inl rfl) ns k hk)) (λcs h=>(jR (by rfl)).trans (ya G cs h)) (λl f hl ok=>?_) (λl hl ok=>?_) (λl hl ok=>?_) (λn=>?_) λl hl ok hx hm=>?_
 ·have hl1:l.length<=1000:=QQ hl (by decide)
  refine (nR (mkΦ Γ 4000000 (tbl03.drop 2)) Γ 4000000 (ns:=ns) hl ok (mE G 2 (.inr (.inl rfl)) ns) (rt G 2 (.inl rfl)) (λc=>(z6 (mkΦ Γ 4000000 (tbl03.drop 4)) Γ 4000000 c).imp λd h=>⟨h.1,(ax (fn:=fn_law_odd) (rest:=tbl03.drop 4) (by rfl)).trans h.2⟩) (λc o=>(x0 (mkΦ Γ 4000000 (tbl03.drop 3)) Γ 4000000 hl1 ok (rt G 3 (.inr (.inl rfl))) c o).imp λr h=>⟨h.1,(ax (fn:=fn_law_more) (rest:=tbl03.drop 3) (by rfl)).trans h.2⟩) f).imp λl' h=>⟨h.1,(jR (by rfl)).trans ((ax (fn:=fn_law_spoiled) (rest:=tbl03.drop 2) (by rfl)).trans h.2)⟩
 ·exact (jR (by rfl)).trans ((ax (fn:=fn_law_due) (rest:=tbl03.drop 5) (by rfl)).trans (Ae _ _ _ hl ok (rt G 5 (.inr (.inr rfl))) λps g hp r hr=>(ax (fn:=fn_law_due_words) (rest:=tbl03.drop 6) (by rfl)).trans (jM _ _ _ g hp hr)))
 ·exact (vA (c:=cf_law_caught) (by rfl)).trans (rn _ _ _ _ (Aw G hl ok 0 (.inl rfl)) kz wz)
 ·exact (jR (by rfl)).trans ((ax (fn:=fn_law_made) (rest:=tbl03.drop 1) (by rfl)).trans (x8 _ _ _ (λc n=>(ax (fn:=fn_law_kinds) (rest:=tbl03.drop 10) (by rfl)).trans (mz _ _ _ c n)) n))
 ·have hl1:l.length<=1000:=QQ hl (by decide)
  have ck:=Aw G hl1 ok 24 (.inr rfl);refine (vA (c:=cf_law_looked) (by rfl)).trans (uq _ _ _ _ (λhv=>?_) (λp hv=>?_) kz)
  ·obtain ⟨rs,e,wf,nd⟩:=fine ok hv
   have em:l.map Any.d=rs.map Row.d:=by rw [e,Yz];rfl
   rw [hv,em] at ck;exact em ▸ (uu G (by rw [e,lX] at hl;exact hl) nd wf (ro ok e) (hm hv rs e) (by rw [e] at hx;exact hx) ck)
  ·rw [hv] at ck
   exact ⟨(ax (fn:=fnlooked) (rest:=tbl03.drop 24) (by rfl)).trans (fn_none (mD _ _ _ ck)),(zI (fn:=fnlooked) (rest:=tbl03.drop 24) (by rfl)).trans (mD _ _ _ ck)⟩
end Mine
set_option tactic.hygienic true
namespace Mine
open PySem PySem.W PyProof.Rows
noncomputable def lv03:List (Str × Con):=[("OPENERS",.t ["lend", "pick", "either", "again"]),("LETTERS",.s "abcdefghijklmnopqrstuvwxyz"),("LONGEST",.i 12),("MOST_THING",.i 999999999),("MOST_THINGS",.i 5),("WORDS",.t ["beside", "empty", "asleep"])]
set_option maxHeartbeats 8000000
theorem tbl03_ok:jg (ez view03) (ffB sgs03) gcs03 sgs03=some tbl03:=by kernel_rfl
theorem tbz03_ok:jg (ez view03) (ffOf sgz03) gcs03 sgz03=some tbz03:=by kernel_rfl
theorem cat03_ok:lH (ez view03) (ffB sgs03) (ffOf sgz03) gcs03 catN=some cat03:=by kernel_rfl
theorem law03_ok:((ez view03 "law").bind λq=>mkFn (ffB sgs03) gcs03 q [] false)=some fnlaw:=by kernel_rfl
theorem nm03:nmB (ez view03) (ffB sgs03) (bang::sgs03.map (·.1))=true:=by decide +kernel
theorem nz03:nmB (ez view03) (ffOf sgz03) (sgz03.map (·.1))=true:=by decide +kernel
theorem bi03:uT view03 (looseW view03 [])=true:=by decide +kernel
theorem fit03:(lv03.all λq=>q.2.fit&&noList q.2.d)=true:=by decide +kernel
theorem Ax(w:World):(λos=>((staticsOk (importedModules pq.main.body) (boot_heap w.params) (hF w.params)&&namesBound pq (hF w.params)&&gensDone (st0 os (hF w.params) 855)&&laidKept (boot_heap w.params) (hF w.params)),openSeen view03 [] (importedModules pq.main.body) (λs=>(Mine.consAt Mine.lv03 s&&Mine.clsB s.heap)&&recOk (RowW.records (OpenRow.toRowW PySem.Challenge.rw_uf020040_03.row)) s) true (st0 os (hF w.params) 855),Hook.obs Hook.none (st0 os (hF w.params) 855)))=λZ=>(true,openGood view03 [],Hook.val Hook.none w):=by kernel_rfl
theorem left03:LeftO (OpenRow.toRowW PySem.Challenge.rw_uf020040_03.row).prog view03 [] (λs=>(Mine.consAt Mine.lv03 s&&Mine.clsB s.heap)&&recOk (RowW.records (OpenRow.toRowW PySem.Challenge.rw_uf020040_03.row)) s) (Hook.obs Hook.none) (Hook.val Hook.none) 7000:=LeftO.of_pieces (p:=pq) AA Az runH rfl Ax
theorem ints_rd{H:D->Int}{h:Heap}{P:Params}:∀ {vs:List Value} {ns:List Int},WellAll P h vs (ofPys (ns.map PyData.int))->RdAll H h vs (ns.map .int) []
 | _,[],q=>by cases q;exact .nil
 | _,n::ns,q=>by
  cases q with
  | cons a b=>cases a;exact .cons (.int _ _) (ints_rd b)
theorem gok03:Gok (gcOf lv03):=⟨by rfl,by rfl,by rfl,by rfl,by rfl,by rfl,by decide +kernel,by decide +kernel⟩
noncomputable def XP03(mg:Str->Option Value)(h:Heap):Prop:=ConsAre lv03 mg h/\ClsOk mg h
theorem XP03.keeps(mg:Str->Option Value)(h h':Heap)(x:XP03 mg h)(hk:∀ b o,h.get? b=some o->h'.get? b=some o):XP03 mg h':=⟨ConsAre.keeps mg h h' x.1 hk,x.2.keeps hk⟩
end Mine
open PySem PySem.W PyProof.Rows
set_option maxRecDepth 100000 in
set_option maxHeartbeats 8000000 in
theorem PySem.Challenge.cw_uf020040_03_holds : PySem.Challenge.rw_uf020040_03.Holds := by
 refine holds_law Mine.said03 λsaid=>?_;refine holds_open (q:=Mine.view03) (loose:=[]) (Xt:=(λs=>(Mine.consAt Mine.lv03 s&&Mine.clsB s.heap)&&recOk (RowW.records (OpenRow.toRowW PySem.Challenge.rw_uf020040_03.row)) s)) (XP:=Mine.XP03) (Yf:=Hook.obs Hook.none) (Ya:=Hook.val Hook.none) (YP:=Hook.says Hook.none) (N:=7000) Mine.left03 (Hook.of Hook.none) (Hook.keeps Hook.none) (λs e=>⟨Mine.cons_of s (Bool.and_eq_true_iff.mp (Bool.and_eq_true_iff.mp e).1).1,Mine.cls_of (Bool.and_eq_true_iff.mp (Bool.and_eq_true_iff.mp e).1).2⟩) Mine.XP03.keeps (by rfl) (by rfl) (by rfl) (λs e=>recFacts_of (Bool.and_eq_true_iff.mp e).2) (by rfl) (by assumption) (by decide +kernel) ⟨rfl,rfl,rfl,rfl,rfl,by decide +kernel⟩ ?hw ?hc
 case hw=>w_witness2
 intro w s₀ s₁ mg mb G Y fa o pm cd doc dV kV ho hd hcd hD hmg hg args vals as hpre hlay hrd hwl hlo;have X:=G.X;refine Ground.open G ?_;intro T B D TE TW
 wrow_args hpre hlay hrd hwl hlo
 rename_i ns q1 q2 q3 q4 q5 q6 q7 l vs q8 hL ra wl r0 hI hr hc1 hc2;have hlen:ns.length<=63:=by omega
 clear hd hcd hD ho;cases wl with
 | list hget hall=>
  obtain ⟨ql,hq,hm⟩:=Mine.bind_some Mine.law03_ok;refine Mine.law_run (xs:=ns.map .int) (sgs:=Mine.sgs03) (sgz:=Mine.sgz03) (tbl:=Mine.tbl03) (tbl0:=Mine.tbz03) (cats:=Mine.cat03) (gcs:=Mine.gcs03) (Γ:=Mine.gcOf Mine.lv03) (N:=4000000) T Mine.bi03 Mine.tbl03_ok Mine.tbz03_ok Mine.cat03_ok hq hm Mine.nm03 Mine.nz03 (by rfl) (by decide) (λx d h=>Mine.gcOf_rd Mine.fit03 X.1 h) X.2 hmg hget ?_ (Mine.ints_rd hall) (by decide) (Mine.plain03 Mine.gok03 ns) λs' k=>?_
  ·have:=(Mine.ints_rd (H:=Mine.strH w mg) hall).length
   simp only [(List.length_map)] at this;rw [List.size_toArray,this];exact Nat.le_trans hlen (by decide)
  ·obtain ⟨h',tk,rfl,hk⟩:=k
   refine GoodW.toG ⟨.inl ⟨.bool true,.bool true,[],rfl,λZ=>rfl,.bool true,?_,λZ=>⟨.nil,λZ z=>nomatch z⟩⟩,hk,rfl,hg⟩
   first | rfl | kernel_rfl

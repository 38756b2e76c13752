import PyProof.Rows.All
import Wide.All
import OpenK.AllK
import Wide.FinOn
import KE.KSliceW
import KE.KRevIter
import KE.KItem
import KE.KDictList
import PyProof.Rows.SumAny
import PyProof.DictDisplay
import PyProof.DictStraight
import Wide.Seal
import PyProof.TupleKey
import PyProof.Rows.TupTab
import PyProof.DictRoadsH
import PyProof.DictKinds
import PyProof.MeetsSeq2
import PySem.Challenge.RW_uf020040_07
set_option Elab.async false
set_option linter.all false
set_option genSizeOf false
set_option bootstrap.genMatcherCode false
set_option genInjectivity false
set_option autoImplicit false
set_option tactic.hygienic true
noncomputable section
namespace Mine
theorem Qq{α : Type _}{l : List α}{i : Nat}{a : α}(h : l[i]? = some a) : ∃ h : i < l.length, l[i] = a := List.getElem?_eq_some_iff.mp h
theorem Qz{x y : Bool}(h : (x && y) = true) : x = true /\ y = true := Bool.and_eq_true_iff.mp h
theorem Qj(a b : Bool) : ((a && b) = true) = (a = true /\ b = true) := Bool.and_eq_true a b
theorem Qx{α : Type _}{a b : α}(h : a ∈ [b]) : a = b := List.mem_singleton.mp h
theorem Qk{α : Type _}{l : List α}{i : Nat}(h : i < l.length) : l[i]? = some l[i] := List.getElem?_eq_getElem h
theorem Qv{α : Type _}{a b : α}(h : some a = some b) : a = b := Option.some.inj h
theorem Qw{α : Type _}{a b : α}{l : List α}(h : a ∈ b :: l) : a = b \/ a ∈ l := List.mem_cons.mp h
theorem Qy{α β : Type _}{f : α -> β}{l : List α}{i : Nat} : (l.map f)[i]? = (l[i]?).map f := List.getElem?_map
theorem QQ{n m k : Nat}(h : n <= m)(q : m <= k) : n <= k := Nat.le_trans h q
theorem QZ{n m : Nat}(h : n < m) : (n : Int) < m := Int.ofNat_lt.mpr h
theorem QJ{α : Type _}{xs : Array α} : xs.toList.length = xs.size := Array.length_toList
theorem QX{α β : Type _}{f : α -> β}{a : α}{l : List α} : (a :: l).map f = f a :: l.map f := rfl
theorem QK{α β : Type _}{f : α -> β}{o : Option α}{b : β}(h : o.map f = some b) : ∃ a, o = some a /\ f a = b := Option.map_eq_some_iff.mp h
theorem QV{α : Type _}{a : α}{l : List α} : (a :: l).length = l.length + 1 := rfl
theorem QW{α : Type _}{l k : List α} : (l ++ k).length = l.length + k.length := List.length_append
theorem QY{α : Type _}{a : α}{l k : List α}(h : a ∈ l ++ k) : a ∈ l \/ a ∈ k := List.mem_append.mp h
theorem Qa{α : Type _}{l : List α}{i : Nat}{a : α}(h : l[i]? = some a) : a ∈ l := List.mem_of_getElem? h
theorem Qb{α β : Type _}{f : α -> β}{l k : List α} : (l ++ k).map f = l.map f ++ k.map f := List.map_append
theorem Qc{α : Type _}(a b : α) : (some a = some b) = (a = b) := Option.some.injEq a b
abbrev Qd:=@PySem.wpAny_bind
abbrev Qe:=@Nat.lt_of_lt_of_le
abbrev Qf:=@congrArg
abbrev Qg:=@PySem.wpAny_pure
abbrev Qh:=@Nat.lt_of_le_of_lt
abbrev Qi:=@PySem.Heap.get?_push_of_some
abbrev Ql:=@if_pos
abbrev Qm:=@Nat.le_of_lt
abbrev Qn:=@decide_eq_true
abbrev Qo:=@List.length_range
abbrev Qp:=@of_decide_eq_true
abbrev Qr:=@Bool.false_ne_true
abbrev Qs:=@PySem.wpAny_mono
abbrev Qt:=@Int.le_trans
abbrev Qu:=@if_neg
abbrev QA:=@Nat.lt_succ_self
abbrev QB:=@Int.ofNat_le
abbrev QC:=@Nat.add_le_add
abbrev QD:=@Bool.false_eq_true
abbrev QE:=@decide_eq_true_eq
abbrev QF:=@Nat.zero_le
abbrev QG:=@List.mem_map
abbrev QH:=@Int.lt_of_le_of_lt
abbrev QI:=@Nat.le_add_right
abbrev QL:=@PySem.Heap.get?_push_size
abbrev QM:=@Nat.ne_of_lt
abbrev QN:=@Int.toNat_natCast
abbrev QO:=@Nat.le_refl
abbrev QP:=@List.length_nil
abbrev QR:=@Int.le_add_of_nonneg_right
abbrev QS:=@Bool.not_eq_true'
abbrev QT:=@Nat.succ_le_succ
abbrev QU:=@Nat.succ_lt_succ
abbrev Q0:=@Int.ofNat_lt
abbrev Q1:=@List.isEmpty_iff
abbrev Q2:=@List.any_eq_true
abbrev Q3:=@PySem.Heap.lt_size
abbrev Q4:=@eq_of_beq
abbrev Q5:=@beq_iff_eq
abbrev Q6:=@List.mem_append_left
abbrev Q7:=@Nat.le_of_lt_succ
abbrev Q8:=@List.nodup_cons
abbrev Q9:=@List.mem_filter
abbrev Zq:=@Int.natCast_nonneg
abbrev Zz:=@List.length_filter_le
abbrev Zj:=@Nat.mul_le_mul_left
abbrev Zx:=@List.getElem?_append_left
abbrev Zk:=@decide_eq_false
abbrev Zv:=@PyProof.Rows.args_cons
abbrev Zw:=@List.filter_append
abbrev Zy:=@List.mem_append_right
abbrev ZQ:=@Nat.add_le_add_left
abbrev ZZ:=@Bool.eq_iff_iff
abbrev ZJ:=@List.mem_range
abbrev ZX:=@List.lookup_cons
abbrev ZK:=@List.all_eq_true
abbrev ZV:=@List.mem_singleton
abbrev ZW:=@List.getElem?_append_right
abbrev ZY:=@Nat.not_lt_zero
abbrev Za:=@Nat.lt_trans
abbrev Zb:=@Array.getElem?_toList
abbrev Zc:=@Nat.zero_add
abbrev Zd:=@Nat.le_of_eq
abbrev Ze:=@Bool.or_eq_true
abbrev Zf:=@Int.lt_of_lt_of_le
abbrev Zg:=@decide_eq_false_iff_not
abbrev Zh:=@beq_self_eq_true
abbrev Zi:=@dif_neg
abbrev Zl:=@PySem.wpAny_holding
abbrev Zm:=@Nat.succ_pos
abbrev Zn:=@List.getD_eq_getElem?_getD
abbrev Zo:=@Int.toNat_le
abbrev Zp:=@Int.toNat_of_nonneg
abbrev Zr:=@Option.getD_some
abbrev Zs:=@Nat.le_succ
abbrev Zt:=@Nat.add_le_add_right
abbrev Zu:=@List.map_dropLast
abbrev ZA:=@List.length_eq_zero_iff
abbrev ZB:=@Int.not_lt
abbrev ZC:=@List.map_nil
abbrev ZD:=@Int.le_of_eq
abbrev ZE:=@List.mem_reverse
abbrev ZF:=@List.length_take
abbrev ZG:=@List.filter_cons
abbrev ZH:=@List.cons_append
abbrev ZI:=@PyProof.Rows.Call_
abbrev ZL:=@Nat.lt_or_eq_of_le
abbrev ZM:=@List.nodup_nil
abbrev ZN:=@List.getElem_range
abbrev ZO:=@Int.fmod_eq_emod_of_nonneg
abbrev ZP:=@PyProof.Rows.args_nil
abbrev ZR:=@Nat.le_of_ble_eq_true
abbrev ZS:=@List.getElem?_eq_none
abbrev ZT:=@List.dropLast_sublist
abbrev ZU:=@PySem.wpAny_truthy_bool
abbrev Z0:=@PySem.wpAny_newObj_type
abbrev Z1:=@List.take_add_one
abbrev Z2:=@List.reverse_cons
abbrev Z4:=@List.getElem?_of_mem
abbrev Z5:=@Int.toNat_lt
abbrev Z6:=@Bool.and_eq_true_iff
abbrev Z7:=@Nat.not_lt
abbrev Z8:=@List.length_reverse
abbrev Z9:=@PySem.Pv.callWith_type1
abbrev Yq:=@Nat.min_le_right
abbrev Yz:=@List.take_length
abbrev Yj:=@Nat.succ_add
abbrev Yx:=@Nat.lt_of_le_of_ne
abbrev Yk:=@List.map_map
abbrev Yv:=@List.length_range'
abbrev Yw:=@Int.lt_trans
abbrev Yy:=@PySem.wpAny_standAt
abbrev YQ:=@List.any_cons
abbrev YZ:=@List.length_replicate
abbrev YJ:=@PySem.wpAny_assign_Name
abbrev YX:=@Nat.le_succ_of_le
abbrev YK:=@List.mem_of_mem_tail
abbrev YV:=@Nat.le_of_not_lt
abbrev YW:=@List.not_mem_nil
abbrev YY:=@List.cons_ne_nil
abbrev Yb:=@Int.add_comm
abbrev Yc:=@Array.getElem?_eq_getElem
abbrev Yd:=@Nat.lt_irrefl
abbrev Ye:=@List.mem_cons
abbrev Yg:=@PySem.wpAny_ite_split
abbrev Yh:=@Nat.lt_of_lt_of_eq
abbrev Yi:=@List.find?_eq_none
abbrev Yl:=@Nat.lt_succ_of_lt
abbrev Ym:=@List.size_toArray
abbrev Yn:=@List.any_eq_false
abbrev Yo:=@PyProof.Rows.tail_any
abbrev Yp:=@PySem.wpAny_execs_cons
abbrev Yr:=@Int.not_le
abbrev Ys:=@Bool.not_true
abbrev Yt:=@List.range_eq_range'
abbrev Yu:=@List.dropLast_concat
abbrev YA:=@Int.natAbs_of_nonneg
abbrev YB:=@Bool.or_eq_false_iff
abbrev YC:=@PySem.wpAny_execs_nil
abbrev YD:=@Nat.min_eq_left
abbrev YE:=@List.nil_append
abbrev YF:=@List.mem_append
abbrev YG:=@List.length_map
abbrev YH:=@List.foldl_cons
abbrev YI:=@Nat.add_lt_add_left
abbrev YL:=@Nat.add_left_cancel
abbrev YM:=@List.mem_map_of_mem
abbrev YN:=@List.length_take_le
abbrev YO:=@List.getElem?_range
abbrev YR:=@Int.ne_of_gt
abbrev YS:=@Bool.or_true
abbrev YT:=@PySem.wpAny_Expr_any
abbrev YU:=@PySem.Calls.Name_function_global
abbrev Y0:=@Option.isNone_iff_eq_none
abbrev Y1:=@List.mem_of_find?_eq_some
abbrev Y2:=@Nat.lt_succ_of_le
abbrev Y3:=@List.nodup_append
abbrev Y4:=@List.append_assoc
abbrev Y5:=@Int.toNat_eq_zero
abbrev Y6:=@Bool.eq_false_iff
abbrev Y7:=@Array.isEmpty_iff
abbrev Y8:=@PySem.F.args_tuple_add_2
abbrev Y9:=@Option.isSome_iff_exists
abbrev Xq:=@PySem.wpAny_list_append_plain
abbrev Xz:=@PySem.F.entry_tuple_add
abbrev Xj:=@PyProof.Rows.Subscript_
abbrev Xx:=@Option.getD_none
abbrev Xk:=@Nat.succ_pred_eq_of_pos
abbrev Xv:=@Nat.lt_add_of_pos_right
abbrev Xw:=@List.range'_succ
abbrev Xy:=@List.getElem_mem
abbrev XQ:=@PySem.F.slot_tuple_add
abbrev XZ:=@Nat.sub_le
abbrev XJ:=@List.getElem?_set_self
abbrev XX:=@Int.le_of_lt
abbrev XK:=@Option.map_none
abbrev XV:=@Option.any_some
abbrev XW:=@Nat.min_le_left
abbrev XY:=@List.forIn_cons
abbrev Xa:=@List.append_nil
abbrev Xb:=@Int.natCast_inj
abbrev Xc:=@Bool.decide_and
abbrev Xd:=@Nat.add_lt_of_lt_sub'
abbrev Xe:=@List.dropLast_eq_take
abbrev Xf:=@List.contains_iff_mem
abbrev Xg:=@Bool.and_false
abbrev Xh:=@List.map_take
abbrev Xi:=@Int.le_natAbs
abbrev Xl:=@Bool.false_or
abbrev Xm:=@Bool.and_true
abbrev Xn:=@Bool.and_self
abbrev Xo:=@PySem.wpAny_tupleItemsOf
abbrev Xp:=@Nat.max_le
abbrev Xr:=@Nat.add_right_comm
abbrev Xs:=@List.zip_cons_cons
abbrev Xu:=@List.getElem?_take
theorem gX{α:Type _}{a:α}{l:List α}{i:Nat}:(a::l)[i+1]?=l[i]?:=rfl
theorem gN{α:Type _}{a:α}{l:List α}:(a::l)[0]?=some a:=rfl
theorem bX{α β:Type _}(a:α)(f:α->Option β):(some a).bind f=f a:=rfl
theorem mX{α β:Type _}(a:α)(f:α->β):(some a).map f=some (f a):=rfl
theorem sX{α:Type _}{a b:α}{l:List α}{i:Nat}:(a::l).set (i+1) b=a::l.set i b:=rfl
theorem sN{α:Type _}{a b:α}{l:List α}:(a::l).set 0 b=b::l:=rfl
theorem lX{α β:Type _}{l:List α}(f:α->β):(l.map f).length=l.length:=YG f
open PySem PySem.W PyProof.Rows
noncomputable def uZ:Stmt->Bool
 | .Assign [.Name x _] _ _=>x != ("__name__" : Str)
 | _=>true
noncomputable def view07:Program:={ PySem.Challenge.pw_uf020040_07 with main:={ PySem.Challenge.pw_uf020040_07.main with body:=PySem.Challenge.pw_uf020040_07.main.body.filter uZ } }
set_option maxRecDepth 100000
set_option maxHeartbeats 8000000
theorem said07:OpenLaw.wellSaid PySem.Challenge.rw_uf020040_07=true:=by
 delta OpenLaw.wellSaid OpenRow.wellSaid OpenRow.partSaid looksOpen
 repeat' with_reducible refine look_both ?_ ?_
 all_goals decide +kernel
end Mine
namespace Mine
open PySem PySem.W PyProof.Rows
noncomputable abbrev pq:Program:=PySem.Challenge.pw_uf020040_07
noncomputable def stA(k:Nat):Stmt:=(pq.main.body[k]?).getD (.Pass default)
noncomputable def fdOf:Stmt->Arguments × List Stmt × Scope
 | .FunctionDef _ a b _ _ _ c _ _ _=>(a,b,c)
 | _=>default
noncomputable def clOf:Stmt->List Stmt
 | .ClassDef _ _ _ b _ _ _ _ _ _ _=>b
 | _=>[]
noncomputable def fA(k:Nat):Arguments:=(fdOf (stA k)).1
noncomputable def fB(k:Nat):List Stmt:=(fdOf (stA k)).2.1
noncomputable def fS(k:Nat):Scope:=(fdOf (stA k)).2.2
noncomputable def gD(k j:Nat):Arguments × List Stmt × Scope:=fdOf (((clOf (stA k))[j]?).getD (.Pass default))
noncomputable def gA(k j:Nat):Arguments:=(gD k j).1
noncomputable def gB(k j:Nat):List Stmt:=(gD k j).2.1
noncomputable def gS(k j:Nat):Scope:=(gD k j).2.2
noncomputable def Y(o:Obj)(l r:BT):BT:=.node o l r
noncomputable def lT(o:Obj):BT:=Y o .nil .nil
noncomputable def z0:Value:=.int 0 0
noncomputable def zT:Obj:={ cls:=.type "tuple",data:=.seq #[] }
noncomputable def zF:Obj:={ cls:=.none,data:=.fields #[] }
noncomputable def tp(a:Array Value):Obj:={ cls:=.type "tuple",data:=.seq a }
noncomputable def kv(P:Params)(x:Str)(t:Nat)(v:Value):DictEntry:={ hash:=PyData.keyHash P x,key:=.str x t,val:=v }
noncomputable def fn0(x:Str)(k:Nat):Obj:={ cls:=.none,data:=.func { name:=x,qualname:=x,params:=fA k,body:=.stmts (fB k),scope:=fS k,globals:=0,closure:=[],defaults:=.none,kwdefaults:=.none } }
noncomputable def fn1(x:Str)(k:Nat)(y:Str)(t c:Nat):Obj:={ cls:=.type "function",data:=.func { name:=x,qualname:=x,params:=fA k,body:=.stmts (fB k),scope:=fS k,globals:=3,closure:=[],defaults:=.none,kwdefaults:=.none,pyModule:=.str y t,code:=.ref c } }
noncomputable def cd(x:Str)(t1 t2 t3 l:Nat)(n:Value)(a b c d e t4 t5:Nat):Obj:={ cls:=.type "code",data:=.fields #[.str x t1,.str x t2,.str "/claim/cut.py" t3,.int l 0,n,z0,z0,.int 3 0,.ref a,.bool true,.int 181 0,.ref b,.none,.ref c,.ref d,.ref e,.int t4 0,.int l 0,.str "/claim/cut.py" t5] }
def k0(P:Params):DictEntry:=kv P "__doc__" 166 .none
def k1(P:Params):DictEntry:=kv P "__package__" 167 .none
def k2(P:Params):DictEntry:=kv P "__loader__" 168 (.builtin "__main__.__loader__#opaque")
def k3(P:Params):DictEntry:=kv P "__spec__" 169 .none
def k4(P:Params):DictEntry:=kv P "__annotations__" 170 (.ref 6)
def k5(P:Params):DictEntry:=kv P "__builtins__" 171 (.ref 4)
def k6(P:Params):DictEntry:=kv P "__file__" 173 (.str "/claim/cut.py" 172)
def k7(P:Params):DictEntry:=kv P "__cached__" 174 .none
def k8(P:Params):DictEntry:=kv P "OPENERS" 193 (.ref 15)
def k9(P:Params):DictEntry:=kv P "homes" 204 (.ref 22)
def k10(P:Params):DictEntry:=kv P "ends" 215 (.ref 29)
def k11(P:Params):DictEntry:=kv P "first_rows" 226 (.ref 36)
def k12(P:Params):DictEntry:=kv P "entry_of" 237 (.ref 43)
def k13(P:Params):DictEntry:=kv P "lent" 246 (.ref 50)
def k14(P:Params):DictEntry:=kv P "given_back" 257 (.ref 57)
def k15(P:Params):DictEntry:=kv P "count_of" 266 (.ref 64)
def k16(P:Params):DictEntry:=kv P "ended" 278 (.ref 71)
def k17(P:Params):DictEntry:=kv P "moved" 293 (.ref 78)
def k18(P:Params):DictEntry:=kv P "chooses" 300 (.ref 85)
def k19(P:Params):DictEntry:=kv P "is_asleep" 308 (.ref 90)
def k20(P:Params):DictEntry:=kv P "awake" 317 (.ref 97)
def k21(P:Params):DictEntry:=kv P "beside" 327 (.ref 104)
def k22(P:Params):DictEntry:=kv P "hand_used" 336 (.ref 111)
def k23(P:Params):DictEntry:=kv P "fault" 347 (.ref 118)
def k24(P:Params):DictEntry:=kv P "DeskError" 376 (.ref 135)
def k25(P:Params):DictEntry:=kv P "NoRow" 392 (.ref 148)
def k26(P:Params):DictEntry:=kv P "NoBlock" 408 (.ref 160)
def k27(P:Params):DictEntry:=kv P "NoWord" 424 (.ref 172)
def k28(P:Params):DictEntry:=kv P "Taken" 440 (.ref 184)
def k29(P:Params):DictEntry:=kv P "Narrow" 456 (.ref 196)
def k30(P:Params):DictEntry:=kv P "NoEnd" 472 (.ref 208)
def k31(P:Params):DictEntry:=kv P "LETTERS" 476 (.str "abcdefghijklmnopqrstuvwxyz" 475)
def k32(P:Params):DictEntry:=kv P "LONGEST" 478 (.int 12 477)
def o3(P:Params):Obj:={ cls:=.type "dict",data:=.dict #[kv P "__name__" 165 (.str "__main__" 164),k0 P,k1 P,k2 P,k3 P,k4 P,k5 P,k6 P,k7 P] 9 }
def o13:Obj:={ cls:=.type "code",data:=.fields #[.str "<module>" 182,.str "<module>" 183,.str "/claim/cut.py" 184,.int 1 0,z0,z0,z0,z0,.ref 11,.bool false,.int 181 0,.ref 12,.none,.none,.none,.none,.int 185 0,.int 1 0,.str "/claim/cut.py" 186] }
noncomputable def o14:Obj:={ cls:=.type "frame",slots:=#[some (.ref 13),some (.ref 3),some (.ref 3),none,some (.str "__main__" 164),none,some (.ref 0)] }
def o15(P:Params):Obj:={ cls:=.type "dict",data:=.dict #[kv P "__name__" 165 (.str "borrowdesk.errors" 348),k0 P,k1 P,k2 P,k3 P,k4 P,k5 P,k6 P,k7 P,k8 P,k9 P,k10 P,k11 P,k12 P,k13 P,k14 P,k15 P,k16 P,k17 P,k18 P,k19 P,k20 P,k21 P,k22 P,k23 P,k24 P,k25 P] 27 }
def o16:Obj:={ cls:=.none,data:=.fields #[.int 3 0,z0,.ref 21,.int 16 0,z0,.ref 28,.int 23 0,z0,.ref 35,.int 30 0,z0,.ref 42,.int 35 0,z0,.ref 49,.int 42 0,z0,.ref 56,.int 52 0,z0,.ref 63,.int 60 0,z0,.ref 70,.int 68 0,z0,.ref 77,.int 87 0,z0,.ref 84,.int 90 0,z0,.ref 89,.int 92 0,z0,.ref 96,.int 98 0,z0,.ref 103,.int 105 0,z0,.ref 110,.int 113 0,z0,.ref 117,.int 126 0,z0,.ref 124,.int 130 0,z0,.ref 144] }
def o17:Obj:=tp #[.str "lend" 189,.str "pick" 190,.str "either" 191,.str "again" 192]
def o20:Obj:=tp #[.str "rows" 197,.str "stack" 198,.str "found" 199,.str "at" 200,.str "row" 201]
def o22:Obj:=fn0 "homes" 2
def o23:Obj:=cd "homes" 194 195 196 3 (.int 1 0) 16 17 18 19 20 202 203
def o24:Obj:=fn1 "homes" 2 "borrowdesk.blocks" 187 21
def o27:Obj:=tp #[.str "rows" 208,.str "home" 209,.str "found" 210,.str "at" 211,.str "row" 212]
def o29:Obj:=fn0 "ends" 3
def o30:Obj:=cd "ends" 205 206 207 16 (.int 1 0) 23 24 25 26 27 213 214
def o31:Obj:=fn1 "ends" 3 "borrowdesk.blocks" 187 28
def o34:Obj:=tp #[.str "rows" 219,.str "home" 220,.str "at" 221,.str "found" 222,.str "number" 223]
def o36:Obj:=fn0 "first_rows" 4
def o37:Obj:=cd "first_rows" 216 217 218 23 (.int 3 0) 30 31 32 33 34 224 225
def o38:Obj:=fn1 "first_rows" 4 "borrowdesk.blocks" 187 35
def o41:Obj:=tp #[.str "held" 232,.str "word" 233,.str "entry" 234]
def o43:Obj:=fn0 "entry_of" 6
def o44:Obj:=cd "entry_of" 229 230 231 30 (.int 2 0) 37 38 39 40 41 235 236
def o45:Obj:=fn1 "entry_of" 6 "borrowdesk.runs" 227 42
def o48:Obj:=tp #[.str "row" 241,.str "held" 242,.str "source" 243]
def o50:Obj:=fn0 "lent" 7
def o51:Obj:=cd "lent" 238 239 240 35 (.int 2 0) 44 45 46 47 48 244 245
def o52:Obj:=fn1 "lent" 7 "borrowdesk.runs" 227 49
def o55:Obj:=tp #[.str "held" 250,.str "hand" 251,.str "gone" 252,.str "found" 253,.str "entry" 254]
def o57:Obj:=fn0 "given_back" 8
def o58:Obj:=cd "given_back" 247 248 249 42 (.int 2 0) 51 52 53 54 55 255 256
def o59:Obj:=fn1 "given_back" 8 "borrowdesk.runs" 227 56
def o62:Obj:=tp #[.str "rows" 261,.str "home" 262,.str "at" 263]
def o64:Obj:=fn0 "count_of" 9
def o65:Obj:=cd "count_of" 258 259 260 52 (.int 3 0) 58 59 60 61 62 264 265
def o66:Obj:=fn1 "count_of" 9 "borrowdesk.runs" 227 63
def o69:Obj:=tp #[.str "rows" 270,.str "home" 271,.str "standing" 272,.str "at" 273,.str "held" 274,.str "kind" 275]
def o71:Obj:=fn0 "ended" 10
def o72:Obj:=cd "ended" 267 268 269 60 (.int 3 0) 65 66 67 68 69 276 277
def o73:Obj:=fn1 "ended" 10 "borrowdesk.runs" 227 70
def o76:Obj:=tp #[.str "rows" 282,.str "home" 283,.str "last" 284,.str "standing" 285,.str "choice" 286,.str "at" 287,.str "held" 288,.str "row" 289,.str "way" 290]
def o78:Obj:=fn0 "moved" 11
def o79:Obj:=cd "moved" 279 280 281 68 (.int 5 0) 72 73 74 75 76 291 292
def o80:Obj:=fn1 "moved" 11 "borrowdesk.runs" 227 77
def o83:Obj:=tp #[.str "row" 297]
def o85:Obj:=fn0 "chooses" 12
def o86:Obj:=cd "chooses" 294 295 296 87 (.int 1 0) 79 80 81 82 83 298 299
def o87:Obj:=fn1 "chooses" 12 "borrowdesk.runs" 227 84
def o90:Obj:=fn0 "is_asleep" 14
def o91:Obj:={ cls:=.type "code",data:=.fields #[.str "is_asleep" 303,.str "is_asleep" 304,.str "/claim/cut.py" 305,.int 90 0,.int 2 0,z0,z0,.int 3 0,.ref 86,.bool true,.int 181 0,.ref 87,.none,.none,.none,.ref 88,.int 306 0,.int 90 0,.str "/claim/cut.py" 307] }
def o92:Obj:=fn1 "is_asleep" 14 "borrowdesk.faults" 301 89
def o95:Obj:=tp #[.str "held" 312,.str "found" 313,.str "entry" 314]
def o97:Obj:=fn0 "awake" 15
def o98:Obj:=cd "awake" 309 310 311 92 (.int 1 0) 91 92 93 94 95 315 316
def o99:Obj:=fn1 "awake" 15 "borrowdesk.faults" 301 96
def o102:Obj:=tp #[.str "held" 321,.str "hands" 322,.str "at" 323,.str "other" 324]
def o104:Obj:=fn0 "beside" 16
def o105:Obj:=cd "beside" 318 319 320 98 (.int 1 0) 98 99 100 101 102 325 326
def o106:Obj:=fn1 "beside" 16 "borrowdesk.faults" 301 103
def o109:Obj:=tp #[.str "row" 331,.str "held" 332,.str "source" 333]
def o111:Obj:=fn0 "hand_used" 17
def o112:Obj:=cd "hand_used" 328 329 330 105 (.int 2 0) 105 106 107 108 109 334 335
def o113:Obj:=fn1 "hand_used" 17 "borrowdesk.faults" 301 110
def o116:Obj:=tp #[.str "rows" 340,.str "standing" 341,.str "at" 342,.str "held" 343,.str "entry" 344]
def o118:Obj:=fn0 "fault" 18
def o119:Obj:=cd "fault" 337 338 339 113 (.int 2 0) 112 113 114 115 116 345 346
def o120:Obj:=fn1 "fault" 18 "borrowdesk.faults" 301 117
def o121:Obj:=tp #[.type "ValueError"]
noncomputable def o122:Obj:={ cls:=.type "builtin_function_or_method",data:=.fields #[.builtin "type.__prepare__",.type "type"] }
def o123(P:Params):Obj:={ cls:=.type "dict",data:=.dict #[kv P "__module__" 357 (.str "borrowdesk.errors" 348),kv P "__qualname__" 359 (.str "DeskError" 358),kv P "__firstlineno__" 361 (.int 126 360),kv P "__init__" 369 (.ref 132),kv P "__static_attributes__" 371 (.ref 133)] 5 }
noncomputable def o125:Obj:={ cls:=.none,data:=.fields #[.int 128 0,.int 4 0,.ref 131] }
def o126:Obj:={ cls:=.type "code",data:=.fields #[.str "DeskError" 352,.str "DeskError" 353,.str "/claim/cut.py" 354,.int 126 0,z0,z0,z0,z0,.ref 122,.bool false,.int 181 0,.ref 123,.none,.none,.none,.none,.int 355 0,.int 126 0,.str "/claim/cut.py" 356] }
noncomputable def o127:Obj:={ cls:=.type "frame",slots:=#[some (.ref 124),some (.ref 3),some (.ref 121),none,some (.str "borrowdesk.errors" 348),none,some (.ref 0)] }
def o130:Obj:=tp #[.str "self" 365,.str "at" 366]
noncomputable def o132:Obj:={ cls:=.none,data:=.func { name := "__init__",qualname := "DeskError.__init__",params:=gA 20 0,body:=.stmts (gB 20 0),scope:=gS 20 0,globals:=0,closure:=[],defaults:=.none,kwdefaults:=.none } }
def o133:Obj:={ cls:=.type "code",data:=.fields #[.str "__init__" 362,.str "DeskError.__init__" 363,.str "/claim/cut.py" 364,.int 128 0,.int 2 0,z0,z0,.int 3 0,.ref 126,.bool true,.int 181 0,.ref 127,.none,.ref 128,.ref 129,.ref 130,.int 367 0,.int 128 0,.str "/claim/cut.py" 368] }
noncomputable def o134:Obj:={ cls:=.type "function",data:=.func { name := "__init__",qualname := "DeskError.__init__",params:=gA 20 0,body:=.stmts (gB 20 0),scope:=gS 20 0,globals:=3,closure:=[],defaults:=.none,kwdefaults:=.none,pyModule:=.str "borrowdesk.errors" 348,code:=.ref 131 } }
def o135:Obj:=tp #[.str "at" 370]
def o136(P:Params):Obj:={ cls:=.type "dict",data:=.dict #[kv P "__module__" 357 (.str "borrowdesk.errors" 348),kv P "__firstlineno__" 361 (.int 126 360),kv P "__init__" 369 (.ref 132),kv P "__static_attributes__" 371 (.ref 133),kv P "__weakref__" 373 (.ref 136),kv P "__doc__" 374 .none] 3 }
noncomputable def o137:Obj:={ cls:=.type "type",data:=.cls { name := "DeskError",bases:=[.type "ValueError"],mro:=[.ref 135,.type "ValueError",.type "Exception",.type "BaseException",.type "object"],ns:=134,qualname := "DeskError",subclasses:=[.ref 148] },slots:=#[some (.ref 119),none,some (.str "DeskError" 350),some (.str "DeskError" 358),some (.builtin "ValueError.__new__"),some (.bool true)] }
noncomputable def o138:Obj:={ cls:=.type "getset_descriptor",data:=.fields #[.str "__weakref__" 372,.ref 135,.builtin "ExceptionGroup.__weakref__",.none] }
noncomputable def o139:Obj:={ cls:=.type "super",data:=.fields #[.ref 135,.ref 135,.ref 135] }
noncomputable def o140:Obj:={ cls:=.type "builtin_function_or_method",data:=.fields #[.builtin "object.__init_subclass__",.ref 135] }
def o141:Obj:=tp #[.ref 135]
noncomputable def o142:Obj:={ cls:=.type "builtin_function_or_method",data:=.fields #[.builtin "type.__prepare__",.type "type"] }
def o143(P:Params):Obj:={ cls:=.type "dict",data:=.dict #[kv P "__module__" 384 (.str "borrowdesk.errors" 348),kv P "__qualname__" 386 (.str "NoRow" 385),kv P "__firstlineno__" 388 (.int 130 387),kv P "__static_attributes__" 389 (.ref 146)] 4 }
def o146:Obj:={ cls:=.type "code",data:=.fields #[.str "NoRow" 379,.str "NoRow" 380,.str "/claim/cut.py" 381,.int 130 0,z0,z0,z0,z0,.ref 142,.bool false,.int 181 0,.ref 143,.none,.none,.none,.none,.int 382 0,.int 130 0,.str "/claim/cut.py" 383] }
noncomputable def o147:Obj:={ cls:=.type "frame",slots:=#[some (.ref 144),some (.ref 3),some (.ref 141),none,some (.str "borrowdesk.errors" 348),none,some (.ref 0)] }
def o149(P:Params):Obj:={ cls:=.type "dict",data:=.dict #[kv P "__module__" 384 (.str "borrowdesk.errors" 348),kv P "__firstlineno__" 388 (.int 130 387),kv P "__static_attributes__" 389 (.ref 146),kv P "__doc__" 390 .none] 2 }
noncomputable def o150:Obj:={ cls:=.type "type",data:=.cls { name := "NoRow",bases:=[.ref 135],mro:=[.ref 148,.ref 135,.type "ValueError",.type "Exception",.type "BaseException",.type "object"],ns:=147,qualname := "NoRow" },slots:=#[some (.ref 139),none,some (.str "NoRow" 377),some (.str "NoRow" 385),some (.builtin "ValueError.__new__"),some (.bool true)] }
noncomputable def o151:Obj:={ cls:=.type "super",data:=.fields #[.ref 148,.ref 148,.ref 148] }
noncomputable def o152:Obj:={ cls:=.type "builtin_function_or_method",data:=.fields #[.builtin "object.__init_subclass__",.ref 148] }
def o153(P:Params):Obj:={ cls:=.type "dict",data:=.dict #[kv P "__name__" 165 (.str "borrowdesk.forms" 473),k0 P,k1 P,k2 P,k3 P,k4 P,k5 P,k6 P,k7 P,k8 P,k9 P,k10 P,k11 P,k12 P,k13 P,k14 P,k15 P,k16 P,k17 P,k18 P,k19 P,k20 P,k21 P,k22 P,k23 P,k24 P,k25 P,k26 P,k27 P,k28 P,k29 P,k30 P,k31 P,k32 P] 34 }
def o154:Obj:={ cls:=.none,data:=.fields #[.int 3 0,z0,.ref 21,.int 16 0,z0,.ref 28,.int 23 0,z0,.ref 35,.int 30 0,z0,.ref 42,.int 35 0,z0,.ref 49,.int 42 0,z0,.ref 56,.int 52 0,z0,.ref 63,.int 60 0,z0,.ref 70,.int 68 0,z0,.ref 77,.int 87 0,z0,.ref 84,.int 90 0,z0,.ref 89,.int 92 0,z0,.ref 96,.int 98 0,z0,.ref 103,.int 105 0,z0,.ref 110,.int 113 0,z0,.ref 117,.int 126 0,z0,.ref 124,.int 130 0,z0,.ref 144,.int 132 0,z0,.ref 156,.int 134 0,z0,.ref 168,.int 136 0,z0,.ref 180,.int 138 0,z0,.ref 192,.int 140 0,z0,.ref 204] }
noncomputable def o155:Obj:={ cls:=.type "type",data:=.cls { name := "DeskError",bases:=[.type "ValueError"],mro:=[.ref 135,.type "ValueError",.type "Exception",.type "BaseException",.type "object"],ns:=134,qualname := "DeskError",subclasses:=[.ref 148,.ref 160,.ref 172,.ref 184,.ref 196,.ref 208] },slots:=#[some (.ref 119),none,some (.str "DeskError" 350),some (.str "DeskError" 358),some (.builtin "ValueError.__new__"),some (.bool true)] }
def o156:Obj:=tp #[.ref 135]
noncomputable def o157:Obj:={ cls:=.type "builtin_function_or_method",data:=.fields #[.builtin "type.__prepare__",.type "type"] }
def o158(P:Params):Obj:={ cls:=.type "dict",data:=.dict #[kv P "__module__" 400 (.str "borrowdesk.errors" 348),kv P "__qualname__" 402 (.str "NoBlock" 401),kv P "__firstlineno__" 404 (.int 132 403),kv P "__static_attributes__" 405 (.ref 158)] 4 }
def o161:Obj:={ cls:=.type "code",data:=.fields #[.str "NoBlock" 395,.str "NoBlock" 396,.str "/claim/cut.py" 397,.int 132 0,z0,z0,z0,z0,.ref 154,.bool false,.int 181 0,.ref 155,.none,.none,.none,.none,.int 398 0,.int 132 0,.str "/claim/cut.py" 399] }
noncomputable def o162:Obj:={ cls:=.type "frame",slots:=#[some (.ref 156),some (.ref 3),some (.ref 153),none,some (.str "borrowdesk.errors" 348),none,some (.ref 0)] }
def o164(P:Params):Obj:={ cls:=.type "dict",data:=.dict #[kv P "__module__" 400 (.str "borrowdesk.errors" 348),kv P "__firstlineno__" 404 (.int 132 403),kv P "__static_attributes__" 405 (.ref 158),kv P "__doc__" 406 .none] 2 }
noncomputable def o165:Obj:={ cls:=.type "type",data:=.cls { name := "NoBlock",bases:=[.ref 135],mro:=[.ref 160,.ref 135,.type "ValueError",.type "Exception",.type "BaseException",.type "object"],ns:=159,qualname := "NoBlock" },slots:=#[some (.ref 151),none,some (.str "NoBlock" 393),some (.str "NoBlock" 401),some (.builtin "ValueError.__new__"),some (.bool true)] }
noncomputable def o166:Obj:={ cls:=.type "super",data:=.fields #[.ref 160,.ref 160,.ref 160] }
noncomputable def o167:Obj:={ cls:=.type "builtin_function_or_method",data:=.fields #[.builtin "object.__init_subclass__",.ref 160] }
def o168:Obj:=tp #[.ref 135]
noncomputable def o169:Obj:={ cls:=.type "builtin_function_or_method",data:=.fields #[.builtin "type.__prepare__",.type "type"] }
def o170(P:Params):Obj:={ cls:=.type "dict",data:=.dict #[kv P "__module__" 416 (.str "borrowdesk.errors" 348),kv P "__qualname__" 418 (.str "NoWord" 417),kv P "__firstlineno__" 420 (.int 134 419),kv P "__static_attributes__" 421 (.ref 170)] 4 }
def o173:Obj:={ cls:=.type "code",data:=.fields #[.str "NoWord" 411,.str "NoWord" 412,.str "/claim/cut.py" 413,.int 134 0,z0,z0,z0,z0,.ref 166,.bool false,.int 181 0,.ref 167,.none,.none,.none,.none,.int 414 0,.int 134 0,.str "/claim/cut.py" 415] }
noncomputable def o174:Obj:={ cls:=.type "frame",slots:=#[some (.ref 168),some (.ref 3),some (.ref 165),none,some (.str "borrowdesk.errors" 348),none,some (.ref 0)] }
def o176(P:Params):Obj:={ cls:=.type "dict",data:=.dict #[kv P "__module__" 416 (.str "borrowdesk.errors" 348),kv P "__firstlineno__" 420 (.int 134 419),kv P "__static_attributes__" 421 (.ref 170),kv P "__doc__" 422 .none] 2 }
noncomputable def o177:Obj:={ cls:=.type "type",data:=.cls { name := "NoWord",bases:=[.ref 135],mro:=[.ref 172,.ref 135,.type "ValueError",.type "Exception",.type "BaseException",.type "object"],ns:=171,qualname := "NoWord" },slots:=#[some (.ref 163),none,some (.str "NoWord" 409),some (.str "NoWord" 417),some (.builtin "ValueError.__new__"),some (.bool true)] }
noncomputable def o178:Obj:={ cls:=.type "super",data:=.fields #[.ref 172,.ref 172,.ref 172] }
noncomputable def o179:Obj:={ cls:=.type "builtin_function_or_method",data:=.fields #[.builtin "object.__init_subclass__",.ref 172] }
def o180:Obj:=tp #[.ref 135]
noncomputable def o181:Obj:={ cls:=.type "builtin_function_or_method",data:=.fields #[.builtin "type.__prepare__",.type "type"] }
def o182(P:Params):Obj:={ cls:=.type "dict",data:=.dict #[kv P "__module__" 432 (.str "borrowdesk.errors" 348),kv P "__qualname__" 434 (.str "Taken" 433),kv P "__firstlineno__" 436 (.int 136 435),kv P "__static_attributes__" 437 (.ref 182)] 4 }
def o185:Obj:={ cls:=.type "code",data:=.fields #[.str "Taken" 427,.str "Taken" 428,.str "/claim/cut.py" 429,.int 136 0,z0,z0,z0,z0,.ref 178,.bool false,.int 181 0,.ref 179,.none,.none,.none,.none,.int 430 0,.int 136 0,.str "/claim/cut.py" 431] }
noncomputable def o186:Obj:={ cls:=.type "frame",slots:=#[some (.ref 180),some (.ref 3),some (.ref 177),none,some (.str "borrowdesk.errors" 348),none,some (.ref 0)] }
def o188(P:Params):Obj:={ cls:=.type "dict",data:=.dict #[kv P "__module__" 432 (.str "borrowdesk.errors" 348),kv P "__firstlineno__" 436 (.int 136 435),kv P "__static_attributes__" 437 (.ref 182),kv P "__doc__" 438 .none] 2 }
noncomputable def o189:Obj:={ cls:=.type "type",data:=.cls { name := "Taken",bases:=[.ref 135],mro:=[.ref 184,.ref 135,.type "ValueError",.type "Exception",.type "BaseException",.type "object"],ns:=183,qualname := "Taken" },slots:=#[some (.ref 175),none,some (.str "Taken" 425),some (.str "Taken" 433),some (.builtin "ValueError.__new__"),some (.bool true)] }
noncomputable def o190:Obj:={ cls:=.type "super",data:=.fields #[.ref 184,.ref 184,.ref 184] }
noncomputable def o191:Obj:={ cls:=.type "builtin_function_or_method",data:=.fields #[.builtin "object.__init_subclass__",.ref 184] }
def o192:Obj:=tp #[.ref 135]
noncomputable def o193:Obj:={ cls:=.type "builtin_function_or_method",data:=.fields #[.builtin "type.__prepare__",.type "type"] }
def o194(P:Params):Obj:={ cls:=.type "dict",data:=.dict #[kv P "__module__" 448 (.str "borrowdesk.errors" 348),kv P "__qualname__" 450 (.str "Narrow" 449),kv P "__firstlineno__" 452 (.int 138 451),kv P "__static_attributes__" 453 (.ref 194)] 4 }
def o197:Obj:={ cls:=.type "code",data:=.fields #[.str "Narrow" 443,.str "Narrow" 444,.str "/claim/cut.py" 445,.int 138 0,z0,z0,z0,z0,.ref 190,.bool false,.int 181 0,.ref 191,.none,.none,.none,.none,.int 446 0,.int 138 0,.str "/claim/cut.py" 447] }
noncomputable def o198:Obj:={ cls:=.type "frame",slots:=#[some (.ref 192),some (.ref 3),some (.ref 189),none,some (.str "borrowdesk.errors" 348),none,some (.ref 0)] }
def o200(P:Params):Obj:={ cls:=.type "dict",data:=.dict #[kv P "__module__" 448 (.str "borrowdesk.errors" 348),kv P "__firstlineno__" 452 (.int 138 451),kv P "__static_attributes__" 453 (.ref 194),kv P "__doc__" 454 .none] 2 }
noncomputable def o201:Obj:={ cls:=.type "type",data:=.cls { name := "Narrow",bases:=[.ref 135],mro:=[.ref 196,.ref 135,.type "ValueError",.type "Exception",.type "BaseException",.type "object"],ns:=195,qualname := "Narrow" },slots:=#[some (.ref 187),none,some (.str "Narrow" 441),some (.str "Narrow" 449),some (.builtin "ValueError.__new__"),some (.bool true)] }
noncomputable def o202:Obj:={ cls:=.type "super",data:=.fields #[.ref 196,.ref 196,.ref 196] }
noncomputable def o203:Obj:={ cls:=.type "builtin_function_or_method",data:=.fields #[.builtin "object.__init_subclass__",.ref 196] }
def o204:Obj:=tp #[.ref 135]
noncomputable def o205:Obj:={ cls:=.type "builtin_function_or_method",data:=.fields #[.builtin "type.__prepare__",.type "type"] }
def o206(P:Params):Obj:={ cls:=.type "dict",data:=.dict #[kv P "__module__" 464 (.str "borrowdesk.errors" 348),kv P "__qualname__" 466 (.str "NoEnd" 465),kv P "__firstlineno__" 468 (.int 140 467),kv P "__static_attributes__" 469 (.ref 206)] 4 }
def o209:Obj:={ cls:=.type "code",data:=.fields #[.str "NoEnd" 459,.str "NoEnd" 460,.str "/claim/cut.py" 461,.int 140 0,z0,z0,z0,z0,.ref 202,.bool false,.int 181 0,.ref 203,.none,.none,.none,.none,.int 462 0,.int 140 0,.str "/claim/cut.py" 463] }
noncomputable def o210:Obj:={ cls:=.type "frame",slots:=#[some (.ref 204),some (.ref 3),some (.ref 201),none,some (.str "borrowdesk.errors" 348),none,some (.ref 0)] }
def o212(P:Params):Obj:={ cls:=.type "dict",data:=.dict #[kv P "__module__" 464 (.str "borrowdesk.errors" 348),kv P "__firstlineno__" 468 (.int 140 467),kv P "__static_attributes__" 469 (.ref 206),kv P "__doc__" 470 .none] 2 }
noncomputable def o213:Obj:={ cls:=.type "type",data:=.cls { name := "NoEnd",bases:=[.ref 135],mro:=[.ref 208,.ref 135,.type "ValueError",.type "Exception",.type "BaseException",.type "object"],ns:=207,qualname := "NoEnd" },slots:=#[some (.ref 199),none,some (.str "NoEnd" 457),some (.str "NoEnd" 465),some (.builtin "ValueError.__new__"),some (.bool true)] }
noncomputable def o214:Obj:={ cls:=.type "super",data:=.fields #[.ref 208,.ref 208,.ref 208] }
noncomputable def o215:Obj:={ cls:=.type "builtin_function_or_method",data:=.fields #[.builtin "object.__init_subclass__",.ref 208] }
def o216(P:Params):Obj:={ cls:=.type "dict",data:=.dict #[kv P "__name__" 165 (.str "law_uf020040_07" 617),k0 P,k1 P,k2 P,k3 P,k4 P,k5 P,k6 P,k7 P,k8 P,k9 P,k10 P,k11 P,k12 P,k13 P,k14 P,k15 P,k16 P,k17 P,k18 P,k19 P,k20 P,k21 P,k22 P,k23 P,k24 P,k25 P,k26 P,k27 P,k28 P,k29 P,k30 P,k31 P,k32 P,kv P "MOST_THING" 480 (.int 999999999 479),kv P "MOST_THINGS" 482 (.int 5 481),kv P "is_word" 488 (.ref 215),kv P "is_thing" 495 (.ref 222),kv P "is_choice" 501 (.ref 227),kv P "is_lend" 508 (.ref 234),kv P "is_row" 515 (.ref 241),kv P "meaning" 524 (.ref 248),kv P "need_block" 533 (.ref 255),kv P "need_hand" 543 (.ref 262),kv P "need_free" 553 (.ref 269),kv P "block_of" 561 (.ref 276),kv P "checked" 571 (.ref 283),kv P "WORDS" 577 (.ref 284),kv P "standings" 592 (.ref 291),kv P "choices_to" 603 (.ref 298),kv P "looked" 616 (.ref 305),kv P "_law_cell_at" 626 (.ref 312),kv P "_law_word" 640 (.ref 319),kv P "_law_draw" 650 (.ref 326),kv P "_law_thing" 658 (.ref 333),kv P "_law_lend" 671 (.ref 340),kv P "_law_deed" 682 (.ref 347),kv P "_law_row" 688 (.ref 352),kv P "_law_hands" 699 (.ref 359),kv P "_law_first_four" 717 (.ref 366),kv P "_law_gadget" 737 (.ref 373),kv P "_law_sheet" 743 (.ref 378),kv P "_law_drawn" 749 (.ref 383),kv P "_law_homes" 760 (.ref 390),kv P "_law_last" 770 (.ref 397),kv P "_law_starts" 781 (.ref 404),kv P "_law_lent" 793 (.ref 411),kv P "_law_back" 804 (.ref 418),kv P "_law_step" 819 (.ref 425)] 69 }
def o217:Obj:={ cls:=.none,data:=.fields #[.int 3 0,z0,.ref 21,.int 16 0,z0,.ref 28,.int 23 0,z0,.ref 35,.int 30 0,z0,.ref 42,.int 35 0,z0,.ref 49,.int 42 0,z0,.ref 56,.int 52 0,z0,.ref 63,.int 60 0,z0,.ref 70,.int 68 0,z0,.ref 77,.int 87 0,z0,.ref 84,.int 90 0,z0,.ref 89,.int 92 0,z0,.ref 96,.int 98 0,z0,.ref 103,.int 105 0,z0,.ref 110,.int 113 0,z0,.ref 117,.int 126 0,z0,.ref 124,.int 130 0,z0,.ref 144,.int 132 0,z0,.ref 156,.int 134 0,z0,.ref 168,.int 136 0,z0,.ref 180,.int 138 0,z0,.ref 192,.int 140 0,z0,.ref 204,.int 147 0,z0,.ref 214,.int 151 0,z0,.ref 221,.int 153 0,z0,.ref 226,.int 157 0,z0,.ref 233,.int 161 0,z0,.ref 240,.int 173 0,z0,.ref 247,.int 178 0,z0,.ref 254,.int 183 0,z0,.ref 261,.int 189 0,z0,.ref 268,.int 199 0,z0,.ref 275,.int 205 0,z0,.ref 282,.int 223 0,z0,.ref 290,.int 241 0,z0,.ref 297,.int 250 0,z0,.ref 304,.int 264 0,z0,.ref 311,.int 268 0,z0,.ref 318,.int 282 0,z0,.ref 325,.int 287 0,z0,.ref 332,.int 291 0,z0,.ref 339,.int 300 0,z0,.ref 346,.int 306 0,z0,.ref 351,.int 323 0,z0,.ref 358,.int 326 0,z0,.ref 365,.int 343 0,z0,.ref 372,.int 369 0,z0,.ref 377,.int 385 0,z0,.ref 382,.int 397 0,z0,.ref 389,.int 407 0,z0,.ref 396,.int 412 0,z0,.ref 403,.int 418 0,z0,.ref 410,.int 429 0,z0,.ref 417,.int 438 0,z0,.ref 424] }
def o220:Obj:=fn0 "is_word" 32
def o221:Obj:={ cls:=.type "code",data:=.fields #[.str "is_word" 483,.str "is_word" 484,.str "/claim/cut.py" 485,.int 147 0,.int 1 0,z0,z0,.int 3 0,.ref 211,.bool true,.int 181 0,.ref 212,.none,.none,.none,.ref 213,.int 486 0,.int 147 0,.str "/claim/cut.py" 487] }
def o222:Obj:=fn1 "is_word" 32 "borrowdesk.forms" 473 214
def o225:Obj:=tp #[.str "thing" 492]
def o227:Obj:=fn0 "is_thing" 33
def o228:Obj:=cd "is_thing" 489 490 491 151 (.int 1 0) 216 217 218 219 220 493 494
def o229:Obj:=fn1 "is_thing" 33 "borrowdesk.forms" 473 221
def o232:Obj:=fn0 "is_choice" 34
def o233:Obj:={ cls:=.type "code",data:=.fields #[.str "is_choice" 496,.str "is_choice" 497,.str "/claim/cut.py" 498,.int 153 0,.int 1 0,z0,z0,.int 3 0,.ref 223,.bool true,.int 181 0,.ref 224,.none,.none,.none,.ref 225,.int 499 0,.int 153 0,.str "/claim/cut.py" 500] }
def o234:Obj:=fn1 "is_choice" 34 "borrowdesk.forms" 473 226
def o237:Obj:=tp #[.str "row" 505]
def o239:Obj:=fn0 "is_lend" 35
def o240:Obj:=cd "is_lend" 502 503 504 157 (.int 1 0) 228 229 230 231 232 506 507
def o241:Obj:=fn1 "is_lend" 35 "borrowdesk.forms" 473 233
def o244:Obj:=tp #[.str "row" 512]
def o246:Obj:=fn0 "is_row" 36
def o247:Obj:=cd "is_row" 509 510 511 161 (.int 1 0) 235 236 237 238 239 513 514
def o248:Obj:=fn1 "is_row" 36 "borrowdesk.forms" 473 240
def o251:Obj:=tp #[.str "stack" 519,.str "word" 520,.str "block" 521]
def o253:Obj:=fn0 "meaning" 37
def o254:Obj:=cd "meaning" 516 517 518 173 (.int 2 0) 242 243 244 245 246 522 523
def o255:Obj:=fn1 "meaning" 37 "borrowdesk.forms" 473 247
def o258:Obj:=tp #[.str "stack" 528,.str "at" 529,.str "row" 530]
def o260:Obj:=fn0 "need_block" 38
def o261:Obj:=cd "need_block" 525 526 527 178 (.int 3 0) 249 250 251 252 253 531 532
def o262:Obj:=fn1 "need_block" 38 "borrowdesk.forms" 473 254
def o265:Obj:=tp #[.str "stack" 537,.str "at" 538,.str "row" 539,.str "kind" 540]
def o267:Obj:=fn0 "need_hand" 39
def o268:Obj:=cd "need_hand" 534 535 536 183 (.int 3 0) 256 257 258 259 260 541 542
def o269:Obj:=fn1 "need_hand" 39 "borrowdesk.forms" 473 261
def o272:Obj:=tp #[.str "stack" 547,.str "at" 548,.str "row" 549,.str "source" 550]
def o274:Obj:=fn0 "need_free" 40
def o275:Obj:=cd "need_free" 544 545 546 189 (.int 3 0) 263 264 265 266 267 551 552
def o276:Obj:=fn1 "need_free" 40 "borrowdesk.forms" 473 268
def o279:Obj:=tp #[.str "at" 557,.str "row" 558]
def o281:Obj:=fn0 "block_of" 41
def o282:Obj:=cd "block_of" 554 555 556 199 (.int 2 0) 270 271 272 273 274 559 560
def o283:Obj:=fn1 "block_of" 41 "borrowdesk.forms" 473 275
def o286:Obj:=tp #[.str "rows" 565,.str "stack" 566,.str "at" 567,.str "row" 568]
def o288:Obj:=fn0 "checked" 42
def o289:Obj:=cd "checked" 562 563 564 205 (.int 1 0) 277 278 279 280 281 569 570
def o290:Obj:=fn1 "checked" 42 "borrowdesk.forms" 473 282
def o291:Obj:=tp #[.str "beside" 574,.str "empty" 575,.str "asleep" 576]
def o294:Obj:=tp #[.str "rows" 581,.str "home" 582,.str "last" 583,.str "found" 584,.str "seen" 585,.str "k" 586,.str "standing" 587,.str "choice" 588,.str "following" 589]
def o296:Obj:=fn0 "standings" 45
def o297:Obj:=cd "standings" 578 579 580 223 (.int 1 0) 285 286 287 288 289 590 591
def o298:Obj:=fn1 "standings" 45 "borrowdesk.looking" 572 290
def o301:Obj:=tp #[.str "rows" 596,.str "found" 597,.str "k" 598,.str "choices" 599,.str "ahead" 600]
def o303:Obj:=fn0 "choices_to" 46
def o304:Obj:=cd "choices_to" 593 594 595 241 (.int 3 0) 292 293 294 295 296 601 602
def o305:Obj:=fn1 "choices_to" 46 "borrowdesk.looking" 572 297
def o308:Obj:=tp #[.str "rows" 607,.str "found" 608,.str "best" 609,.str "k" 610,.str "part" 611,.str "word" 612,.str "rank" 613]
def o310:Obj:=fn0 "looked" 47
def o311:Obj:=cd "looked" 604 605 606 250 (.int 1 0) 299 300 301 302 303 614 615
def o312:Obj:=fn1 "looked" 47 "borrowdesk.looking" 572 304
def o315:Obj:=tp #[.str "_law_script" 622,.str "_law_k" 623]
def o317:Obj:=fn0 "_law_cell_at" 49
def o318:Obj:=cd "_law_cell_at" 619 620 621 264 (.int 2 0) 306 307 308 309 310 624 625
def o319:Obj:=fn1 "_law_cell_at" 49 "law_uf020040_07" 617 311
def o322:Obj:=tp #[.str "_law_one" 630,.str "_law_two" 631,.str "_law_deep" 632,.str "_law_draw_here" 633,.str "_law_letters" 634,.str "_law_sign" 635,.str "_law_found" 636,.str "_law_k" 637]
def o324:Obj:=fn0 "_law_word" 50
def o325:Obj:=cd "_law_word" 627 628 629 268 (.int 4 0) 313 314 315 316 317 638 639
def o326:Obj:=fn1 "_law_word" 50 "law_uf020040_07" 617 318
def o329:Obj:=tp #[.str "_law_script" 644,.str "_law_base" 645,.str "_law_style" 646,.str "_law_size" 647]
def o331:Obj:=fn0 "_law_draw" 51
def o332:Obj:=cd "_law_draw" 641 642 643 282 (.int 1 0) 320 321 322 323 324 648 649
def o333:Obj:=fn1 "_law_draw" 51 "law_uf020040_07" 617 325
def o336:Obj:=tp #[.str "_law_cell" 654,.str "_law_base" 655]
def o338:Obj:=fn0 "_law_thing" 52
def o339:Obj:=cd "_law_thing" 651 652 653 287 (.int 2 0) 327 328 329 330 331 656 657
def o340:Obj:=fn1 "_law_thing" 52 "law_uf020040_07" 617 332
def o343:Obj:=tp #[.str "_law_one" 662,.str "_law_two" 663,.str "_law_named" 664,.str "_law_draw_here" 665,.str "_law_kind" 666,.str "_law_source" 667,.str "_law_holder" 668]
def o345:Obj:=fn0 "_law_lend" 53
def o346:Obj:=cd "_law_lend" 659 660 661 291 (.int 4 0) 334 335 336 337 338 669 670
def o347:Obj:=fn1 "_law_lend" 53 "law_uf020040_07" 617 339
def o350:Obj:=tp #[.str "_law_one" 675,.str "_law_two" 676,.str "_law_hands_here" 677,.str "_law_hand" 678,.str "_law_word_here" 679]
def o352:Obj:=fn0 "_law_deed" 54
def o353:Obj:=cd "_law_deed" 672 673 674 300 (.int 3 0) 341 342 343 344 345 680 681
def o354:Obj:=fn1 "_law_deed" 54 "law_uf020040_07" 617 346
def o357:Obj:=fn0 "_law_row" 55
def o358:Obj:={ cls:=.type "code",data:=.fields #[.str "_law_row" 683,.str "_law_row" 684,.str "/claim/cut.py" 685,.int 306 0,.int 5 0,z0,z0,.int 3 0,.ref 348,.bool true,.int 181 0,.ref 349,.none,.none,.none,.ref 350,.int 686 0,.int 306 0,.str "/claim/cut.py" 687] }
def o359:Obj:=fn1 "_law_row" 55 "law_uf020040_07" 617 351
def o362:Obj:=tp #[.str "_law_one" 692,.str "_law_two" 693,.str "_law_deep" 694,.str "_law_draw_here" 695,.str "_law_found" 696]
def o364:Obj:=fn0 "_law_hands" 56
def o365:Obj:=cd "_law_hands" 689 690 691 323 (.int 4 0) 353 354 355 356 357 697 698
def o366:Obj:=fn1 "_law_hands" 56 "law_uf020040_07" 617 358
def o369:Obj:=tp #[.str "_law_way" 703,.str "_law_one" 704,.str "_law_two" 705,.str "_law_names" 706,.str "_law_thing_here" 707,.str "_law_a" 708,.str "_law_b" 709,.str "_law_c" 710,.str "_law_kind" 711,.str "_law_end" 712,.str "_law_rows" 713,.str "_law_first" 714]
def o371:Obj:=fn0 "_law_first_four" 57
def o372:Obj:=cd "_law_first_four" 700 701 702 326 (.int 5 0) 360 361 362 363 364 715 716
def o373:Obj:=fn1 "_law_first_four" 57 "law_uf020040_07" 617 365
def o376:Obj:=tp #[.str "_law_one" 721,.str "_law_two" 722,.str "_law_deep" 723,.str "_law_draw_here" 724,.str "_law_names" 725,.str "_law_a" 726,.str "_law_b" 727,.str "_law_thing_here" 728,.str "_law_far" 729,.str "_law_last_here" 730,.str "_law_kind" 731,.str "_law_end" 732,.str "_law_way" 733,.str "_law_rows" 734]
def o378:Obj:=fn0 "_law_gadget" 58
def o379:Obj:=cd "_law_gadget" 718 719 720 343 (.int 4 0) 367 368 369 370 371 735 736
def o380:Obj:=fn1 "_law_gadget" 58 "law_uf020040_07" 617 372
def o383:Obj:=fn0 "_law_sheet" 59
def o384:Obj:={ cls:=.type "code",data:=.fields #[.str "_law_sheet" 738,.str "_law_sheet" 739,.str "/claim/cut.py" 740,.int 369 0,.int 4 0,z0,z0,.int 3 0,.ref 374,.bool true,.int 181 0,.ref 375,.none,.none,.none,.ref 376,.int 741 0,.int 369 0,.str "/claim/cut.py" 742] }
def o385:Obj:=fn1 "_law_sheet" 59 "law_uf020040_07" 617 377
def o388:Obj:=fn0 "_law_drawn" 60
def o389:Obj:={ cls:=.type "code",data:=.fields #[.str "_law_drawn" 744,.str "_law_drawn" 745,.str "/claim/cut.py" 746,.int 385 0,.int 2 0,z0,z0,.int 3 0,.ref 379,.bool true,.int 181 0,.ref 380,.none,.none,.none,.ref 381,.int 747 0,.int 385 0,.str "/claim/cut.py" 748] }
def o390:Obj:=fn1 "_law_drawn" 60 "law_uf020040_07" 617 382
def o393:Obj:=tp #[.str "_law_rows" 753,.str "_law_found" 754,.str "_law_opened" 755,.str "_law_at" 756,.str "_law_row_here" 757]
def o395:Obj:=fn0 "_law_homes" 61
def o396:Obj:=cd "_law_homes" 750 751 752 397 (.int 1 0) 384 385 386 387 388 758 759
def o397:Obj:=fn1 "_law_homes" 61 "law_uf020040_07" 617 389
def o400:Obj:=tp #[.str "_law_rows" 764,.str "_law_home" 765,.str "_law_at" 766,.str "_law_place" 767]
def o402:Obj:=fn0 "_law_last" 62
def o403:Obj:=cd "_law_last" 761 762 763 407 (.int 3 0) 391 392 393 394 395 768 769
def o404:Obj:=fn1 "_law_last" 62 "law_uf020040_07" 617 396
def o407:Obj:=tp #[.str "_law_rows" 774,.str "_law_home" 775,.str "_law_at" 776,.str "_law_found" 777,.str "_law_place" 778]
def o409:Obj:=fn0 "_law_starts" 63
def o410:Obj:=cd "_law_starts" 771 772 773 412 (.int 3 0) 398 399 400 401 402 779 780
def o411:Obj:=fn1 "_law_starts" 63 "law_uf020040_07" 617 403
def o414:Obj:=tp #[.str "_law_held" 785,.str "_law_row_here" 786,.str "_law_thing_here" 787,.str "_law_source" 788,.str "_law_out" 789,.str "_law_one" 790]
def o416:Obj:=fn0 "_law_lent" 64
def o417:Obj:=cd "_law_lent" 782 783 784 418 (.int 2 0) 405 406 407 408 409 791 792
def o418:Obj:=fn1 "_law_lent" 64 "law_uf020040_07" 617 410
def o421:Obj:=tp #[.str "_law_held" 797,.str "_law_word_here" 798,.str "_law_gone" 799,.str "_law_found" 800,.str "_law_one" 801]
def o423:Obj:=fn0 "_law_back" 65
def o424:Obj:=cd "_law_back" 794 795 796 429 (.int 2 0) 412 413 414 415 416 802 803
def o425:Obj:=fn1 "_law_back" 65 "law_uf020040_07" 617 417
def o428:Obj:=tp #[.str "_law_rows" 808,.str "_law_home" 809,.str "_law_standing" 810,.str "_law_choice" 811,.str "_law_at" 812,.str "_law_held" 813,.str "_law_word_here" 814,.str "_law_things" 815,.str "_law_starts_here" 816]
def o430:Obj:=fn0 "_law_step" 66
def o431:Obj:=cd "_law_step" 805 806 807 438 (.int 4 0) 419 420 421 422 423 817 818
def o432:Obj:=fn1 "_law_step" 66 "law_uf020040_07" 617 424
def o433(P:Params):Obj:={ cls:=.type "dict",data:=.dict #[kv P "__name__" 165 (.str "law_uf020040_07" 617),k0 P,k1 P,k2 P,k3 P,k4 P,k5 P,k6 P,k7 P,k8 P,k9 P,k10 P,k11 P,k12 P,k13 P,k14 P,k15 P,k16 P,k17 P,k18 P,k19 P,k20 P,k21 P,k22 P,k23 P,k24 P,k25 P,k26 P,k27 P,k28 P,k29 P,k30 P,k31 P,k32 P,kv P "MOST_THING" 480 (.int 999999999 479),kv P "MOST_THINGS" 482 (.int 5 481),kv P "is_word" 488 (.ref 215),kv P "is_thing" 495 (.ref 222),kv P "is_choice" 501 (.ref 227),kv P "is_lend" 508 (.ref 234),kv P "is_row" 515 (.ref 241),kv P "meaning" 524 (.ref 248),kv P "need_block" 533 (.ref 255),kv P "need_hand" 543 (.ref 262),kv P "need_free" 553 (.ref 269),kv P "block_of" 561 (.ref 276),kv P "checked" 571 (.ref 283),kv P "WORDS" 577 (.ref 284),kv P "standings" 592 (.ref 291),kv P "choices_to" 603 (.ref 298),kv P "looked" 616 (.ref 305),kv P "_law_cell_at" 626 (.ref 312),kv P "_law_word" 640 (.ref 319),kv P "_law_draw" 650 (.ref 326),kv P "_law_thing" 658 (.ref 333),kv P "_law_lend" 671 (.ref 340),kv P "_law_deed" 682 (.ref 347),kv P "_law_row" 688 (.ref 352),kv P "_law_hands" 699 (.ref 359),kv P "_law_first_four" 717 (.ref 366),kv P "_law_gadget" 737 (.ref 373),kv P "_law_sheet" 743 (.ref 378),kv P "_law_drawn" 749 (.ref 383),kv P "_law_homes" 760 (.ref 390),kv P "_law_last" 770 (.ref 397),kv P "_law_starts" 781 (.ref 404),kv P "_law_lent" 793 (.ref 411),kv P "_law_back" 804 (.ref 418),kv P "_law_step" 819 (.ref 425),kv P "_law_run" 832 (.ref 432),kv P "_law_awake" 838 (.ref 437),kv P "_law_fault" 844 (.ref 442),kv P "_law_whole" 851 (.ref 449),kv P "_law_told" 857 (.ref 454),kv P "_law_rows_alike" 863 (.ref 459),kv P "_law_choices" 869 (.ref 464),kv P "_law_long" 879 (.ref 471),kv P "_law_some_ways" 888 (.ref 478),kv P "_law_few" 903 (.ref 485),kv P "law" 909 (.ref 490)] 80 }
def o434:Obj:={ cls:=.none,data:=.fields #[.int 3 0,z0,.ref 21,.int 16 0,z0,.ref 28,.int 23 0,z0,.ref 35,.int 30 0,z0,.ref 42,.int 35 0,z0,.ref 49,.int 42 0,z0,.ref 56,.int 52 0,z0,.ref 63,.int 60 0,z0,.ref 70,.int 68 0,z0,.ref 77,.int 87 0,z0,.ref 84,.int 90 0,z0,.ref 89,.int 92 0,z0,.ref 96,.int 98 0,z0,.ref 103,.int 105 0,z0,.ref 110,.int 113 0,z0,.ref 117,.int 126 0,z0,.ref 124,.int 130 0,z0,.ref 144,.int 132 0,z0,.ref 156,.int 134 0,z0,.ref 168,.int 136 0,z0,.ref 180,.int 138 0,z0,.ref 192,.int 140 0,z0,.ref 204,.int 147 0,z0,.ref 214,.int 151 0,z0,.ref 221,.int 153 0,z0,.ref 226,.int 157 0,z0,.ref 233,.int 161 0,z0,.ref 240,.int 173 0,z0,.ref 247,.int 178 0,z0,.ref 254,.int 183 0,z0,.ref 261,.int 189 0,z0,.ref 268,.int 199 0,z0,.ref 275,.int 205 0,z0,.ref 282,.int 223 0,z0,.ref 290,.int 241 0,z0,.ref 297,.int 250 0,z0,.ref 304,.int 264 0,z0,.ref 311,.int 268 0,z0,.ref 318,.int 282 0,z0,.ref 325,.int 287 0,z0,.ref 332,.int 291 0,z0,.ref 339,.int 300 0,z0,.ref 346,.int 306 0,z0,.ref 351,.int 323 0,z0,.ref 358,.int 326 0,z0,.ref 365,.int 343 0,z0,.ref 372,.int 369 0,z0,.ref 377,.int 385 0,z0,.ref 382,.int 397 0,z0,.ref 389,.int 407 0,z0,.ref 396,.int 412 0,z0,.ref 403,.int 418 0,z0,.ref 410,.int 429 0,z0,.ref 417,.int 438 0,z0,.ref 424,.int 461 0,z0,.ref 431,.int 475 0,z0,.ref 436,.int 479 0,z0,.ref 441,.int 496 0,z0,.ref 448,.int 498 0,z0,.ref 453,.int 504 0,z0,.ref 458,.int 508 0,z0,.ref 463,.int 510 0,z0,.ref 470,.int 517 0,z0,.ref 477,.int 523 0,z0,.ref 484,.int 539 0,z0,.ref 489] }
def o437:Obj:=tp #[.str "_law_rows" 823,.str "_law_choices_here" 824,.str "_law_home" 825,.str "_law_found" 826,.str "_law_standing" 827,.str "_law_taken" 828,.str "_law_choice" 829]
def o439:Obj:=fn0 "_law_run" 67
def o440:Obj:=cd "_law_run" 820 821 822 461 (.int 2 0) 426 427 428 429 430 830 831
def o441:Obj:=fn1 "_law_run" 67 "law_uf020040_07" 617 431
def o444:Obj:=fn0 "_law_awake" 68
def o445:Obj:={ cls:=.type "code",data:=.fields #[.str "_law_awake" 833,.str "_law_awake" 834,.str "/claim/cut.py" 835,.int 475 0,.int 1 0,z0,z0,.int 3 0,.ref 433,.bool true,.int 181 0,.ref 434,.none,.none,.none,.ref 435,.int 836 0,.int 475 0,.str "/claim/cut.py" 837] }
def o446:Obj:=fn1 "_law_awake" 68 "law_uf020040_07" 617 436
def o449:Obj:=fn0 "_law_fault" 69
def o450:Obj:={ cls:=.type "code",data:=.fields #[.str "_law_fault" 839,.str "_law_fault" 840,.str "/claim/cut.py" 841,.int 479 0,.int 2 0,z0,z0,.int 3 0,.ref 438,.bool true,.int 181 0,.ref 439,.none,.none,.none,.ref 440,.int 842 0,.int 479 0,.str "/claim/cut.py" 843] }
def o451:Obj:=fn1 "_law_fault" 69 "law_uf020040_07" 617 441
def o454:Obj:=tp #[.str "_law_found" 848]
def o456:Obj:=fn0 "_law_whole" 70
def o457:Obj:=cd "_law_whole" 845 846 847 496 (.int 1 0) 443 444 445 446 447 849 850
def o458:Obj:=fn1 "_law_whole" 70 "law_uf020040_07" 617 448
def o461:Obj:=fn0 "_law_told" 71
def o462:Obj:={ cls:=.type "code",data:=.fields #[.str "_law_told" 852,.str "_law_told" 853,.str "/claim/cut.py" 854,.int 498 0,.int 1 0,z0,z0,.int 3 0,.ref 450,.bool true,.int 181 0,.ref 451,.none,.none,.none,.ref 452,.int 855 0,.int 498 0,.str "/claim/cut.py" 856] }
def o463:Obj:=fn1 "_law_told" 71 "law_uf020040_07" 617 453
def o466:Obj:=fn0 "_law_rows_alike" 72
def o467:Obj:={ cls:=.type "code",data:=.fields #[.str "_law_rows_alike" 858,.str "_law_rows_alike" 859,.str "/claim/cut.py" 860,.int 504 0,.int 2 0,z0,z0,.int 3 0,.ref 455,.bool true,.int 181 0,.ref 456,.none,.none,.none,.ref 457,.int 861 0,.int 504 0,.str "/claim/cut.py" 862] }
def o468:Obj:=fn1 "_law_rows_alike" 72 "law_uf020040_07" 617 458
def o471:Obj:=fn0 "_law_choices" 73
def o472:Obj:={ cls:=.type "code",data:=.fields #[.str "_law_choices" 864,.str "_law_choices" 865,.str "/claim/cut.py" 866,.int 508 0,.int 1 0,z0,z0,.int 3 0,.ref 460,.bool true,.int 181 0,.ref 461,.none,.none,.none,.ref 462,.int 867 0,.int 508 0,.str "/claim/cut.py" 868] }
def o473:Obj:=fn1 "_law_choices" 73 "law_uf020040_07" 617 463
def o476:Obj:=tp #[.str "_law_script" 873,.str "_law_rows" 874,.str "_law_some" 875,.str "_law_k" 876]
def o478:Obj:=fn0 "_law_long" 74
def o479:Obj:=cd "_law_long" 870 871 872 510 (.int 2 0) 465 466 467 468 469 877 878
def o480:Obj:=fn1 "_law_long" 74 "law_uf020040_07" 617 470
def o483:Obj:=tp #[.str "_law_rows" 883,.str "_law_home" 884,.str "_law_at" 885]
def o485:Obj:=fn0 "_law_some_ways" 75
def o486:Obj:=cd "_law_some_ways" 880 881 882 517 (.int 3 0) 472 473 474 475 476 886 887
def o487:Obj:=fn1 "_law_some_ways" 75 "law_uf020040_07" 617 477
def o490:Obj:=tp #[.str "_law_rows" 892,.str "_law_most" 893,.str "_law_home" 894,.str "_law_queue" 895,.str "_law_seen" 896,.str "_law_place" 897,.str "_law_standing" 898,.str "_law_choice" 899,.str "_law_other" 900]
def o492:Obj:=fn0 "_law_few" 76
def o493:Obj:=cd "_law_few" 889 890 891 523 (.int 2 0) 479 480 481 482 483 901 902
def o494:Obj:=fn1 "_law_few" 76 "law_uf020040_07" 617 484
def o497:Obj:=fn0 "law" 77
def o498:Obj:={ cls:=.type "code",data:=.fields #[.str "law" 904,.str "law" 905,.str "/claim/cut.py" 906,.int 539 0,.int 1 0,z0,z0,.int 3 0,.ref 486,.bool true,.int 181 0,.ref 487,.none,.none,.none,.ref 488,.int 907 0,.int 539 0,.str "/claim/cut.py" 908] }
def o499:Obj:=fn1 "law" 77 "law_uf020040_07" 617 489
noncomputable def envH:Env:={ scope:=pq.main.scope,locals:=mainNs,globals:=mainNs,cells:=[],code:=.ref 13,frame:=some 14 }
noncomputable abbrev cE:Code:=.body (behindTheImports pq) envH
noncomputable abbrev bF:List Frame:=[topFrame ⟨0,0,0,0⟩]
noncomputable abbrev anH:Option Value:=some (.ref 6)
noncomputable def hA(P:Params):Heap:=⟨⟨[(boot_o_0 P),(boot_o_1 P),(boot_o_2 P),(o3 P),(boot_o_4 P),(boot_o_5 P),(boot_o_6 P),(boot_o_7 P),(boot_o_8 P),(boot_o_9 P),(boot_o_10 P),zT,zF,o13,o14]⟩,{}⟩
noncomputable def hF(P:Params):Heap:=⟨⟨[(boot_o_0 P),(boot_o_1 P),(boot_o_2 P),(o433 P),(boot_o_4 P),(boot_o_5 P),(boot_o_6 P),(boot_o_7 P),(boot_o_8 P),(boot_o_9 P),(boot_o_10 P),zT,o434,o13,o14,o17,zT,zF,o20,zT,o22,o23,o24,zT,zF,o27,zT,o29,o30,o31,zT,zF,o34,zT,o36,o37,o38,zT,zF,o41,zT,o43,o44,o45,zT,zF,o48,zT,o50,o51,o52,zT,zF,o55,zT,o57,o58,o59,zT,zF,o62,zT,o64,o65,o66,zT,zF,o69,zT,o71,o72,o73,zT,zF,o76,zT,o78,o79,o80,zT,zF,o83,zT,o85,o86,o87,zT,zF,o90,o91,o92,zT,zF,o95,zT,o97,o98,o99,zT,zF,o102,zT,o104,o105,o106,zT,zF,o109,zT,o111,o112,o113,zT,zF,o116,zT,o118,o119,o120,o121,o122,(o123 P),zT,o125,o126,o127,zT,zF,o130,zT,o132,o133,o134,o135,(o136 P),o155,o138,o139,o140,o141,o142,(o143 P),zT,zF,o146,o147,zT,(o149 P),o150,o151,o152,o156,o157,(o158 P),zT,zF,o161,o162,zT,(o164 P),o165,o166,o167,o168,o169,(o170 P),zT,zF,o173,o174,zT,(o176 P),o177,o178,o179,o180,o181,(o182 P),zT,zF,o185,o186,zT,(o188 P),o189,o190,o191,o192,o193,(o194 P),zT,zF,o197,o198,zT,(o200 P),o201,o202,o203,o204,o205,(o206 P),zT,zF,o209,o210,zT,(o212 P),o213,o214,o215,zT,zF,o220,o221,o222,zT,zF,o225,zT,o227,o228,o229,zT,zF,o232,o233,o234,zT,zF,o237,zT,o239,o240,o241,zT,zF,o244,zT,o246,o247,o248,zT,zF,o251,zT,o253,o254,o255,zT,zF,o258,zT,o260,o261,o262,zT,zF,o265,zT,o267,o268,o269,zT,zF,o272,zT,o274,o275,o276,zT,zF,o279,zT,o281,o282,o283,zT,zF,o286,zT,o288,o289,o290,o291,zT,zF,o294,zT,o296,o297,o298,zT,zF,o301,zT,o303,o304,o305,zT,zF,o308,zT,o310,o311,o312,zT,zF,o315,zT,o317,o318,o319,zT,zF,o322,zT,o324,o325,o326,zT,zF,o329,zT,o331,o332,o333,zT,zF,o336,zT,o338,o339,o340,zT,zF,o343,zT,o345,o346,o347,zT,zF,o350,zT,o352,o353,o354,zT,zF,o357,o358,o359,zT,zF,o362,zT,o364,o365,o366,zT,zF,o369,zT,o371,o372,o373,zT,zF,o376,zT,o378,o379,o380,zT,zF,o383,o384,o385,zT,zF,o388,o389,o390,zT,zF,o393,zT,o395,o396,o397,zT,zF,o400,zT,o402,o403,o404,zT,zF,o407,zT,o409,o410,o411,zT,zF,o414,zT,o416,o417,o418,zT,zF,o421,zT,o423,o424,o425,zT,zF,o428,zT,o430,o431,o432,zT,zF,o437,zT,o439,o440,o441,zT,zF,o444,o445,o446,zT,zF,o449,o450,o451,zT,zF,o454,zT,o456,o457,o458,zT,zF,o461,o462,o463,zT,zF,o466,o467,o468,zT,zF,o471,o472,o473,zT,zF,o476,zT,o478,o479,o480,zT,zF,o483,zT,o485,o486,o487,zT,zF,o490,zT,o492,o493,o494,zT,zF,o497,o498,o499]⟩,{}⟩
noncomputable def st0(os:OsState)(h:Heap)(t:Nat):Shared:=⟨h,⟨[]⟩,{},t,os⟩
def tr0(P:Params):BT:=(Y (boot_o_0 P) (Y (boot_o_1 P) (Y (o3 P) (lT (boot_o_7 P)) (lT zT)) (Y (boot_o_5 P) (lT (boot_o_9 P)) (lT o13))) (Y (boot_o_2 P) (Y (boot_o_4 P) (lT (boot_o_8 P)) (lT zF)) (Y (boot_o_6 P) (lT (boot_o_10 P)) (lT o14))))
noncomputable def sT0(w:World)(os:OsState):SharedT:=⟨tr0 w.params,15,{},⟨[]⟩,{},187,os⟩
def tr1(P:Params):BT:=(Y (boot_o_0 P) (Y (boot_o_1 P) (Y (o15 P) (Y (boot_o_7 P) (Y o17 (Y zF (Y o65 (lT zF) .nil) (lT o97)) (Y zT (Y zT (lT zF) .nil) (lT o113))) (Y zT (Y o41 (Y o73 (lT o137) .nil) (lT o105)) (Y o57 (lT zF) (lT o121)))) (Y zT (Y zT (Y o37 (Y o69 (lT o133) .nil) (lT zF)) (Y zT (Y o85 (lT (o149 P)) .nil) (lT zT))) (Y o29 (Y o45 (Y zT (lT o141) .nil) (lT o109)) (Y zF (lT zT) (lT o125))))) (Y (boot_o_5 P) (Y (boot_o_9 P) (Y zF (Y zT (Y zT (lT zT) .nil) (lT o99)) (Y o51 (Y o83 (lT o147) .nil) (lT zF))) (Y o27 (Y o43 (Y zF (lT o139) .nil) (lT zT)) (Y o59 (lT o91) (lT (o123 P))))) (Y o13 (Y o23 (Y zT (Y o71 (lT o135) .nil) (lT zT)) (Y o55 (Y o87 (lT o151) .nil) (lT o119))) (Y o31 (Y zF (Y o79 (lT (o143 P)) .nil) (lT o111)) (Y zT (lT o95) (lT o127)))))) (Y (boot_o_2 P) (Y (boot_o_4 P) (Y (boot_o_8 P) (Y zT (Y o34 (Y o66 (lT o130) .nil) (lT o98)) (Y o50 (Y zF (lT o146) .nil) (lT zT))) (Y zF (Y zT (Y zT (lT o138) .nil) (lT o106)) (Y o58 (lT o90) (lT o122)))) (Y o16 (Y o22 (Y o38 (Y zT (lT o134) .nil) (lT o102)) (Y zF (Y o86 (lT o150) .nil) (lT o118))) (Y o30 (Y zT (Y o78 (lT o142) .nil) (lT zT)) (Y o62 (lT zF) (lT o126))))) (Y (boot_o_6 P) (Y (boot_o_10 P) (Y o20 (Y o36 (Y zF (lT o132) .nil) (lT zT)) (Y o52 (Y zT (lT zT) .nil) (lT o116))) (Y zT (Y o44 (Y o76 (lT o140) .nil) (lT zF)) (Y zT (lT o92) (lT zT)))) (Y o14 (Y o24 (Y zF (Y o72 (lT (o136 P)) .nil) (lT o104)) (Y zT (Y zT (lT o152) .nil) (lT o120))) (Y zT (Y o48 (Y o80 (lT zT) .nil) (lT o112)) (Y o64 (lT zT) (lT zT)))))))
noncomputable def sT1(w:World)(os:OsState):SharedT:=⟨tr1 w.params,151,{},⟨[]⟩,{},393,os⟩
def tr2(P:Params):BT:=(Y (boot_o_0 P) (Y (boot_o_1 P) (Y (o153 P) (Y (boot_o_7 P) (Y o17 (Y zF (Y o65 (lT zF) (lT zF)) (Y o97 (lT (o164 P)) .nil)) (Y zT (Y zT (lT zF) (lT (o212 P))) (Y o113 (lT o180) .nil))) (Y zT (Y o41 (Y o73 (lT o155) (lT o204)) (Y o105 (lT zF) .nil)) (Y o57 (Y zF (lT o156) .nil) (Y o121 (lT (o188 P)) .nil)))) (Y zT (Y zT (Y o37 (Y o69 (lT o133) (lT (o200 P))) (Y zF (lT o168) .nil)) (Y zT (Y o85 (lT (o149 P)) .nil) (Y zT (lT zF) .nil))) (Y o29 (Y o45 (Y zT (lT o141) (lT zF)) (Y o109 (lT (o176 P)) .nil)) (Y zF (Y zT (lT zF) .nil) (Y o125 (lT o192) .nil))))) (Y (boot_o_5 P) (Y (boot_o_9 P) (Y zF (Y zT (Y zT (lT zT) (lT o198)) (Y o99 (lT o166) .nil)) (Y o51 (Y o83 (lT o147) (lT o214)) (Y zF (lT (o182 P)) .nil))) (Y o27 (Y o43 (Y zF (lT o139) (lT (o206 P))) (Y zT (lT o174) .nil)) (Y o59 (Y o91 (lT (o158 P)) .nil) (Y (o123 P) (lT o190) .nil)))) (Y o13 (Y o23 (Y zT (Y o71 (lT o135) (lT o202)) (Y zT (lT (o170 P)) .nil)) (Y o55 (Y o87 (lT o151) .nil) (Y o119 (lT o186) .nil))) (Y o31 (Y zF (Y o79 (lT (o143 P)) (lT o210)) (Y o111 (lT o178) .nil)) (Y zT (Y o95 (lT o162) .nil) (Y o127 (lT (o194 P)) .nil)))))) (Y (boot_o_2 P) (Y (boot_o_4 P) (Y (boot_o_8 P) (Y zT (Y o34 (Y o66 (lT o130) (lT o197)) (Y o98 (lT o165) .nil)) (Y o50 (Y zF (lT o146) (lT o213)) (Y zT (lT o181) .nil))) (Y zF (Y zT (Y zT (lT o138) (lT o205)) (Y o106 (lT o173) .nil)) (Y o58 (Y o90 (lT o157) .nil) (Y o122 (lT o189) .nil)))) (Y o154 (Y o22 (Y o38 (Y zT (lT o134) (lT o201)) (Y o102 (lT o169) .nil)) (Y zF (Y o86 (lT o150) .nil) (Y o118 (lT o185) .nil))) (Y o30 (Y zT (Y o78 (lT o142) (lT o209)) (Y zT (lT o177) .nil)) (Y o62 (Y zF (lT o161) .nil) (Y o126 (lT o193) .nil))))) (Y (boot_o_6 P) (Y (boot_o_10 P) (Y o20 (Y o36 (Y zF (lT o132) (lT zT)) (Y zT (lT o167) .nil)) (Y o52 (Y zT (lT zT) (lT o215)) (Y o116 (lT zT) .nil))) (Y zT (Y o44 (Y o76 (lT o140) (lT zT)) (Y zF (lT zT) .nil)) (Y zT (Y o92 (lT zT) .nil) (Y zT (lT o191) .nil)))) (Y o14 (Y o24 (Y zF (Y o72 (lT (o136 P)) (lT o203)) (Y o104 (lT zT) .nil)) (Y zT (Y zT (lT o152) .nil) (Y o120 (lT zT) .nil))) (Y zT (Y o48 (Y o80 (lT zT) (lT zT)) (Y o112 (lT o179) .nil)) (Y o64 (Y zT (lT zT) .nil) (Y zT (lT zT) .nil)))))))
noncomputable def sT2(w:World)(os:OsState):SharedT:=⟨tr2 w.params,211,{},⟨[]⟩,{},479,os⟩
def tr3(P:Params):BT:=(Y (boot_o_0 P) (Y (boot_o_1 P) (Y (o216 P) (Y (boot_o_7 P) (Y o17 (Y zF (Y o65 (Y zF (lT o262) (lT o390)) (Y zF (lT o326) .nil)) (Y o97 (Y (o164 P) (lT o294) (lT zT)) (Y zT (lT o358) .nil))) (Y zT (Y zT (Y zF (lT zF) (lT zF)) (Y (o212 P) (lT zF) .nil)) (Y o113 (Y o180 (lT o310) .nil) (Y o246 (lT zT) .nil)))) (Y zT (Y o41 (Y o73 (Y o155 (lT zT) (lT zT)) (Y o204 (lT zT) .nil)) (Y o105 (Y zF (lT zT) (lT o430)) (Y zT (lT o366) .nil))) (Y o57 (Y zF (Y o156 (lT o286) (lT o414)) (Y o222 (lT o350) .nil)) (Y o121 (Y (o188 P) (lT o318) .nil) (Y o254 (lT zF) .nil))))) (Y zT (Y zT (Y o37 (Y o69 (Y o133 (lT zT) (lT zT)) (Y (o200 P) (lT zT) .nil)) (Y zF (Y o168 (lT o298) (lT zT)) (Y o234 (lT o362) .nil))) (Y zT (Y o85 (Y (o149 P) (lT o282) (lT o410)) (Y zT (lT o346) .nil)) (Y zT (Y zF (lT zF) .nil) (Y zF (lT o378) .nil)))) (Y o29 (Y o45 (Y zT (Y o141 (lT o274) (lT o402)) (Y zF (lT o338) .nil)) (Y o109 (Y (o176 P) (lT zT) .nil) (Y zT (lT zT) .nil))) (Y zF (Y zT (Y zF (lT o290) (lT o418)) (Y zT (lT o354) .nil)) (Y o125 (Y o192 (lT o322) .nil) (Y o258 (lT zT) .nil)))))) (Y (boot_o_5 P) (Y (boot_o_9 P) (Y zF (Y zT (Y zT (Y zT (lT zF) (lT zF)) (Y o198 (lT zF) .nil)) (Y o99 (Y o166 (lT o296) (lT o424)) (Y o232 (lT zT) .nil))) (Y o51 (Y o83 (Y o147 (lT zT) (lT zT)) (Y o214 (lT zT) .nil)) (Y zF (Y (o182 P) (lT o312) .nil) (Y o248 (lT o376) .nil)))) (Y o27 (Y o43 (Y zF (Y o139 (lT o272) (lT o400)) (Y (o206 P) (lT o336) .nil)) (Y zT (Y o174 (lT o304) (lT o432)) (Y o240 (lT zF) .nil))) (Y o59 (Y o91 (Y (o158 P) (lT o288) (lT o416)) (Y zF (lT o352) .nil)) (Y (o123 P) (Y o190 (lT zT) .nil) (Y zT (lT o384) .nil))))) (Y o13 (Y o23 (Y zT (Y o71 (Y o135 (lT o268) (lT o396)) (Y o202 (lT o332) .nil)) (Y zT (Y (o170 P) (lT zF) (lT o428)) (Y zF (lT o364) .nil))) (Y o55 (Y o87 (Y o151 (lT zT) (lT zT)) (Y o220 (lT zT) .nil)) (Y o119 (Y o186 (lT zT) .nil) (Y zT (lT o380) .nil)))) (Y o31 (Y zF (Y o79 (Y (o143 P) (lT o276) (lT o404)) (Y o210 (lT o340) .nil)) (Y o111 (Y o178 (lT o308) .nil) (Y o244 (lT o372) .nil))) (Y zT (Y o95 (Y o162 (lT zT) (lT zF)) (Y o228 (lT zF) .nil)) (Y o127 (Y (o194 P) (lT o324) .nil) (Y o260 (lT o388) .nil))))))) (Y (boot_o_2 P) (Y (boot_o_4 P) (Y (boot_o_8 P) (Y zT (Y o34 (Y o66 (Y o130 (lT zT) (lT zT)) (Y o197 (lT zT) .nil)) (Y o98 (Y o165 (lT zT) (lT o423)) (Y zF (lT o359) .nil))) (Y o50 (Y zF (Y o146 (lT o279) (lT o407)) (Y o213 (lT o343) .nil)) (Y zT (Y o181 (lT o311) .nil) (Y o247 (lT zF) .nil)))) (Y zF (Y zT (Y zT (Y o138 (lT zF) (lT zF)) (Y o205 (lT zF) .nil)) (Y o106 (Y o173 (lT o303) (lT o431)) (Y o239 (lT zT) .nil))) (Y o58 (Y o90 (Y o157 (lT zT) (lT zT)) (Y zT (lT zT) .nil)) (Y o122 (Y o189 (lT o319) .nil) (Y o255 (lT o383) .nil))))) (Y o217 (Y o22 (Y o38 (Y zT (Y o134 (lT o267) (lT o395)) (Y o201 (lT o331) .nil)) (Y o102 (Y o169 (lT zT) (lT zF)) (Y zT (lT zT) .nil))) (Y zF (Y o86 (Y o150 (lT o283) (lT o411)) (Y zF (lT o347) .nil)) (Y o118 (Y o185 (lT o315) .nil) (Y o251 (lT o379) .nil)))) (Y o30 (Y zT (Y o78 (Y o142 (lT o275) (lT o403)) (Y o209 (lT o339) .nil)) (Y zT (Y o177 (lT zF) .nil) (Y zF (lT o371) .nil))) (Y o62 (Y zF (Y o161 (lT o291) (lT zT)) (Y o227 (lT zT) .nil)) (Y o126 (Y o193 (lT zT) .nil) (Y zT (lT zF) .nil)))))) (Y (boot_o_6 P) (Y (boot_o_10 P) (Y o20 (Y o36 (Y zF (Y o132 (lT o265) (lT o393)) (Y zT (lT o329) .nil)) (Y zT (Y o167 (lT o297) (lT o425)) (Y o233 (lT zF) .nil))) (Y o52 (Y zT (Y zT (lT o281) (lT o409)) (Y o215 (lT o345) .nil)) (Y o116 (Y zT (lT zT) .nil) (Y zT (lT zT) .nil)))) (Y zT (Y o44 (Y o76 (Y o140 (lT zT) (lT zT)) (Y zT (lT zT) .nil)) (Y zF (Y zT (lT o305) .nil) (Y o241 (lT o369) .nil))) (Y zT (Y o92 (Y zT (lT o289) (lT o417)) (Y o225 (lT o353) .nil)) (Y zT (Y o191 (lT zF) .nil) (Y zF (lT o385) .nil))))) (Y o14 (Y o24 (Y zF (Y o72 (Y (o136 P) (lT o269) (lT o397)) (Y o203 (lT o333) .nil)) (Y o104 (Y zT (lT o301) (lT zT)) (Y o237 (lT o365) .nil))) (Y zT (Y zT (Y o152 (lT zF) (lT zF)) (Y o221 (lT zF) .nil)) (Y o120 (Y zT (lT o317) .nil) (Y o253 (lT zT) .nil)))) (Y zT (Y o48 (Y o80 (Y zT (lT zT) (lT zT)) (Y zT (lT zT) .nil)) (Y o112 (Y o179 (lT zT) .nil) (Y zT (lT o373) .nil))) (Y o64 (Y zT (Y zT (lT zF) (lT o421)) (Y o229 (lT o357) .nil)) (Y zT (Y zT (lT o325) .nil) (Y o261 (lT o389) .nil))))))))
noncomputable def sT3(w:World)(os:OsState):SharedT:=⟨tr3 w.params,426,{},⟨[]⟩,{},820,os⟩
def tr4(P:Params):BT:=(Y (boot_o_0 P) (Y (boot_o_1 P) (Y (o433 P) (Y (boot_o_7 P) (Y o17 (Y zF (Y o65 (Y zF (lT o262) (lT o390)) (Y zF (lT o326) (lT o456))) (Y o97 (Y (o164 P) (lT o294) (lT zT)) (Y zT (lT o358) (lT zT)))) (Y zT (Y zT (Y zF (lT zF) (lT zF)) (Y (o212 P) (lT zF) (lT o472))) (Y o113 (Y o180 (lT o310) (lT o440)) (Y o246 (lT zT) .nil)))) (Y zT (Y o41 (Y o73 (Y o155 (lT zT) (lT zT)) (Y o204 (lT zT) (lT zT))) (Y o105 (Y zF (lT zT) (lT o430)) (Y zT (lT o366) (lT zF)))) (Y o57 (Y zF (Y o156 (lT o286) (lT o414)) (Y o222 (lT o350) (lT o480))) (Y o121 (Y (o188 P) (lT o318) (lT zF)) (Y o254 (lT zF) .nil))))) (Y zT (Y zT (Y o37 (Y o69 (Y o133 (lT zT) (lT zT)) (Y (o200 P) (lT zT) (lT zF))) (Y zF (Y o168 (lT o298) (lT zT)) (Y o234 (lT o362) (lT o492)))) (Y zT (Y o85 (Y (o149 P) (lT o282) (lT o410)) (Y zT (lT o346) (lT o476))) (Y zT (Y zF (lT zF) (lT o444)) (Y zF (lT o378) .nil)))) (Y o29 (Y o45 (Y zT (Y o141 (lT o274) (lT o402)) (Y zF (lT o338) (lT o468))) (Y o109 (Y (o176 P) (lT zT) (lT zF)) (Y zT (lT zT) .nil))) (Y zF (Y zT (Y zF (lT o290) (lT o418)) (Y zT (lT o354) (lT zT))) (Y o125 (Y o192 (lT o322) (lT zT)) (Y o258 (lT zT) .nil)))))) (Y (boot_o_5 P) (Y (boot_o_9 P) (Y zF (Y zT (Y zT (Y zT (lT zF) (lT zF)) (Y o198 (lT zF) (lT o458))) (Y o99 (Y o166 (lT o296) (lT o424)) (Y o232 (lT zT) (lT o490)))) (Y o51 (Y o83 (Y o147 (lT zT) (lT zT)) (Y o214 (lT zT) (lT zT))) (Y zF (Y (o182 P) (lT o312) (lT zT)) (Y o248 (lT o376) .nil)))) (Y o27 (Y o43 (Y zF (Y o139 (lT o272) (lT o400)) (Y (o206 P) (lT o336) (lT o466))) (Y zT (Y o174 (lT o304) (lT o432)) (Y o240 (lT zF) (lT o498)))) (Y o59 (Y o91 (Y (o158 P) (lT o288) (lT o416)) (Y zF (lT o352) (lT zF))) (Y (o123 P) (Y o190 (lT zT) (lT o450)) (Y zT (lT o384) .nil))))) (Y o13 (Y o23 (Y zT (Y o71 (Y o135 (lT o268) (lT o396)) (Y o202 (lT o332) (lT o462))) (Y zT (Y (o170 P) (lT zF) (lT o428)) (Y zF (lT o364) (lT o494)))) (Y o55 (Y o87 (Y o151 (lT zT) (lT zT)) (Y o220 (lT zT) (lT o478))) (Y o119 (Y o186 (lT zT) (lT o446)) (Y zT (lT o380) .nil)))) (Y o31 (Y zF (Y o79 (Y (o143 P) (lT o276) (lT o404)) (Y o210 (lT o340) (lT zF))) (Y o111 (Y o178 (lT o308) (lT zT)) (Y o244 (lT o372) .nil))) (Y zT (Y o95 (Y o162 (lT zT) (lT zF)) (Y o228 (lT zF) (lT o486))) (Y o127 (Y (o194 P) (lT o324) (lT o454)) (Y o260 (lT o388) .nil))))))) (Y (boot_o_2 P) (Y (boot_o_4 P) (Y (boot_o_8 P) (Y zT (Y o34 (Y o66 (Y o130 (lT zT) (lT zT)) (Y o197 (lT zT) (lT o457))) (Y o98 (Y o165 (lT zT) (lT o423)) (Y zF (lT o359) (lT zF)))) (Y o50 (Y zF (Y o146 (lT o279) (lT o407)) (Y o213 (lT o343) (lT o473))) (Y zT (Y o181 (lT o311) (lT o441)) (Y o247 (lT zF) .nil)))) (Y zF (Y zT (Y zT (Y o138 (lT zF) (lT zF)) (Y o205 (lT zF) (lT zF))) (Y o106 (Y o173 (lT o303) (lT o431)) (Y o239 (lT zT) (lT o497)))) (Y o58 (Y o90 (Y o157 (lT zT) (lT zT)) (Y zT (lT zT) (lT zT))) (Y o122 (Y o189 (lT o319) (lT o449)) (Y o255 (lT o383) .nil))))) (Y o434 (Y o22 (Y o38 (Y zT (Y o134 (lT o267) (lT o395)) (Y o201 (lT o331) (lT o461))) (Y o102 (Y o169 (lT zT) (lT zF)) (Y zT (lT zT) (lT o493)))) (Y zF (Y o86 (Y o150 (lT o283) (lT o411)) (Y zF (lT o347) (lT zT))) (Y o118 (Y o185 (lT o315) (lT o445)) (Y o251 (lT o379) .nil)))) (Y o30 (Y zT (Y o78 (Y o142 (lT o275) (lT o403)) (Y o209 (lT o339) (lT zT))) (Y zT (Y o177 (lT zF) (lT o437)) (Y zF (lT o371) .nil))) (Y o62 (Y zF (Y o161 (lT o291) (lT zT)) (Y o227 (lT zT) (lT o485))) (Y o126 (Y o193 (lT zT) (lT zF)) (Y zT (lT zF) .nil)))))) (Y (boot_o_6 P) (Y (boot_o_10 P) (Y o20 (Y o36 (Y zF (Y o132 (lT o265) (lT o393)) (Y zT (lT o329) (lT zT))) (Y zT (Y o167 (lT o297) (lT o425)) (Y o233 (lT zF) (lT zT)))) (Y o52 (Y zT (Y zT (lT o281) (lT o409)) (Y o215 (lT o345) (lT zF))) (Y o116 (Y zT (lT zT) (lT zF)) (Y zT (lT zT) .nil)))) (Y zT (Y o44 (Y o76 (Y o140 (lT zT) (lT zT)) (Y zT (lT zT) (lT o467))) (Y zF (Y zT (lT o305) (lT zT)) (Y o241 (lT o369) (lT o499)))) (Y zT (Y o92 (Y zT (lT o289) (lT o417)) (Y o225 (lT o353) (lT o483))) (Y zT (Y o191 (lT zF) (lT o451)) (Y zF (lT o385) .nil))))) (Y o14 (Y o24 (Y zF (Y o72 (Y (o136 P) (lT o269) (lT o397)) (Y o203 (lT o333) (lT o463))) (Y o104 (Y zT (lT o301) (lT zT)) (Y o237 (lT o365) (lT zT)))) (Y zT (Y zT (Y o152 (lT zF) (lT zF)) (Y o221 (lT zF) (lT o479))) (Y o120 (Y zT (lT o317) (lT zT)) (Y o253 (lT zT) .nil)))) (Y zT (Y o48 (Y o80 (Y zT (lT zT) (lT zT)) (Y zT (lT zT) (lT o471))) (Y o112 (Y o179 (lT zT) (lT o439)) (Y zT (lT o373) .nil))) (Y o64 (Y zT (Y zT (lT zF) (lT o421)) (Y o229 (lT o357) (lT o487))) (Y zT (Y zT (lT o325) (lT zT)) (Y o261 (lT o389) .nil))))))))
noncomputable def sT4(w:World)(os:OsState):SharedT:=⟨tr4 w.params,491,{},⟨[]⟩,{},910,os⟩
noncomputable def ls1:List Stmt:=((behindTheImports pq).drop 0).take 22
noncomputable def ls2:List Stmt:=((behindTheImports pq).drop 22).take 8
noncomputable def ls3:List Stmt:=((behindTheImports pq).drop 30).take 37
noncomputable def ls4:List Stmt:=((behindTheImports pq).drop 67).take 11
set_option maxRecDepth 100000
set_option maxHeartbeats 8000000
theorem preH(w:World)(os:OsState):topGo treeTable pq w 11 anH 12 ⟨boot_heap w.params,⟨[]⟩,boot_drawn,boot_toks,os⟩ (topStub pq)=some (st0 os (hA w.params) 187,⟨denote treeTable cE,cE,⟨0,0,0,0⟩,bF⟩):=by kernel_rfl
theorem u0(w:World)(os:OsState):segRun treeTable pq w 11 anH 1 1 (st0 os (hA w.params) 187) (blockOf (behindTheImports pq) envH cE ⟨0,0,0,0⟩ bF)=some (.next,(sT0 w os).abs,cE,⟨0,0,0,0⟩):=by kernel_rfl
theorem gH1(w:World)(os:OsState):segRunT treeTable pq w 11 anH 1 960 (sT0 w os) (piecesOf ls1 envH cE ⟨0,0,0,0⟩ bF)=some (.next,sT1 w os,cE,⟨130,0,131,8⟩):=by kernel_rfl
theorem gH2(w:World)(os:OsState):segRunT treeTable pq w 11 anH 1 1093 (sT1 w os) (piecesOf ls2 envH cE ⟨130,0,131,8⟩ bF)=some (.next,sT2 w os,cE,⟨144,0,144,7⟩):=by kernel_rfl
theorem gH3(w:World)(os:OsState):segRunT treeTable pq w 11 anH 1 1073 (sT2 w os) (piecesOf ls3 envH cE ⟨144,0,144,7⟩ bF)=some (.next,sT3 w os,cE,⟨438,0,460,35⟩):=by kernel_rfl
theorem gH4(w:World)(os:OsState):segRunT treeTable pq w 11 anH 1 321 (sT3 w os) (piecesOf ls4 envH cE ⟨438,0,460,35⟩ bF)=some (.next,sT4 w os,cE,⟨539,0,565,15⟩):=by kernel_rfl
theorem finH(w:World)(os:OsState):topRun treeTable pq w 11 anH 2 (sT4 w os).abs ⟨doneF .next,cE,⟨539,0,565,15⟩,bF⟩=some (st0 os (hF w.params) 910):=by kernel_rfl
theorem wY:behindTheImports pq=ls1++(ls2++(ls3++(ls4++[]))):=by kernel_rfl
theorem runH(w:World)(os:OsState):topRun treeTable pq w 11 anH (12+(1+(960+(1093+(1073+(321+2)))))) ⟨boot_heap w.params,⟨[]⟩,boot_drawn,boot_toks,os⟩ (topStub pq)=some (st0 os (hF w.params) 910):=by
 refine go_top (preH w os) (piece_block (u0 w os) ?_);rw [show restOf (behindTheImports pq) envH cE ⟨0,0,0,0⟩ bF=restOf (ls1++(ls2++(ls3++(ls4++[])))) envH cE ⟨0,0,0,0⟩ bF from Qf (λb=>restOf b envH cE ⟨0,0,0,0⟩ bF) wY];exact (piece_app (segRun_of (gH1 w os)) (piece_app (segRun_of (gH2 w os)) (piece_app (segRun_of (gH3 w os)) (piece_app (segRun_of (gH4 w os)) (finH w os)))))
theorem wZ(w:World):((boot_heap w.params).isNs mainGlobals&&(Array.mk ([]:List GenState)).size == 0,(boot_heap w.params).objs.size,(boot_heap w.params).nsMap mainGlobals "__annotations__")=(true,11,anH):=by kernel_rfl
theorem w0:∀ w:World,(fencedOpening treeTable pq w 7000).map (λs=>(s.heap,s.gens,s.drawn,s.toks))=some (boot_heap w.params,Array.mk [],boot_drawn,boot_toks):=boot_open (by kernel_rfl) rfl (λs=>by kernel_rfl)
end Mine
set_option tactic.hygienic true
namespace Mine
open PySem
theorem byG{G:Prop}(h:∀ X:Prop,(G->X)->X):G:=h G id
abbrev D:=PyData
abbrev St:=List (Option D)
inductive Ty | list | tuple | str | int | bool
 deriving DecidableEq
inductive B1 | len | all | any | sum | list | tuple | int | listrev
 deriving DecidableEq
mutual
inductive Ex
 | k (d:D)
 | v (i:Nat)
 | gc (x:Str)
 | tup (es:Exs)
 | lst (es:Exs)
 | dic (ks vs:Exs)
 | bin (op:Operator) (a b:Ex)
 | neg (a:Ex)
 | not (a:Ex)
 | bool (isAnd:Bool) (es:Exs)
 | cmp (op:CmpOp) (a b:Ex)
 | cmp2 (o1 o2:CmpOp) (a b c:Ex)
 | idx (a i:Ex)
 | sl (a:Ex) (lo hi:Exo)
 | call (fr:Bool) (f:Str) (args:Exs)
 | b1 (f:B1) (a:Ex)
 | isi (a:Ex) (t:Ty)
 | index (a b:Ex)
 | comp (elt:Ex) (it:It) (cond:Exo)
inductive Exs
 | nil
 | cons (e:Ex) (es:Exs)
inductive Exo
 | none
 | some (e:Ex)
inductive It
 | plain (e:Ex)
 | range1 (e:Ex)
 | range2 (a b:Ex)
 | enum (e:Ex)
 | zip (a b:Ex)
end
set_option genCtorIdx false
inductive Fl
 | next
 | ret (d:D)
mutual
inductive Sm
 | asg (i:Nat) (e:Ex)
 | unp (i j:Nat) (e:Ex)
 | seti (i:Nat) (ix e:Ex)
 | app (i:Nat) (e:Ex)
 | pop (i:Nat)
 | rev (i:Nat)
 | ite (c:Ex) (t e:Sms)
 | for1 (i:Nat) (it:It) (body:Sms)
 | for2 (i j:Nat) (it:It) (body:Sms)
 | wh (c:Ex) (body:Sms)
 | ret (e:Ex)
 | ex (e:Ex)
 | tap (i j:Nat) (g:Str) (c1:Ex) (t1:Sms) (c2:Ex) (b:Sms)
 | stuck
inductive Sms
 | nil
 | cons (s:Sm) (r:Sms)
end
mutual
noncomputable def noList:D->Bool
 | .list _=>false
 | .dict _=>false
 | .tuple xs=>an xs
 | _=>true
noncomputable def an:List D->Bool
 | []=>true
 | x::xs=>noList x&&an xs
end
theorem iX  : an []=true:=rfl
theorem aQ(x_1:D)(xs:List D):an (x_1::xs)=(noList x_1&&an xs):=rfl
noncomputable def eL:List (D × D)->Bool
 | []=>true
 | (a,b)::r=>noList a&&noList b&&eL r
noncomputable def flat:D->Bool
 | .list xs=>an xs
 | .dict kvs=>eL kvs
 | d=>noList d
noncomputable def truth:D->Option Bool
 | .none=>some false
 | .bool b=>some b
 | .int i=>some (i != 0)
 | .str x=>some (x.length != 0)
 | .list xs=>some (!xs.isEmpty)
 | .tuple xs=>some (!xs.isEmpty)
 | .dict _=>none
theorem fJ(b:Bool):truth (PyData.bool b)=some b:=rfl
noncomputable def cT:List D->Option (List Bool)
 | []=>some []
 | .bool b::xs=>(cT xs).map λbs=>b::bs
 | _=>none
noncomputable def isScalar:D->Bool
 | .list _ | .tuple _ | .dict _=>false
 | _=>true
mutual
noncomputable def cf:D->Bool
 | .dict _=>false
 | .list xs=>aX xs
 | .tuple xs=>aX xs
 | _=>true
noncomputable def aX:List D->Bool
 | []=>true
 | x::xs=>cf x&&aX xs
end
theorem iY(x_1:D)(xs:List D):aX (x_1::xs)=(cf x_1&&aX xs):=rfl
noncomputable def shp(d:D):Bool:=cf d&&decide (d.depth<=32)
noncomputable def smallI(a:Int):Bool:=decide (a.natAbs < 2 ^ 60)
noncomputable def pyEq(a b:D):Option Bool:=
 if (isScalar a&&isScalar b)||(shp a&&shp b) then some (a.eqv b) else none
noncomputable def repL{α:Type}(xs:List α):Nat->List α
 | 0=>[]
 | n+1=>xs++repL xs n
theorem so{α:Type}(xs:List α):repL xs 0=[]:=rfl
theorem gH{α:Type}(xs:List α)(n:Nat):repL xs (n+1)=xs++repL xs n:=rfl
noncomputable def strMul(x:Str)(n:Nat):Str:=⟨(repL x.cps.toList n).toArray⟩
noncomputable def addD:D->D->Option D
 | .int a,.int b=>some (.int (a+b))
 | .str x,.str y=>if x.length+y.length<=2 ^ 20 then some (.str (x++y)) else none
 | .list xs,.list ys=>if xs.length+ys.length<=2 ^ 20 then some (.list (xs++ys)) else none
 | .tuple xs,.tuple ys=>if xs.length+ys.length<=2 ^ 14 then some (.tuple (xs++ys)) else none
 | _,_=>none
noncomputable def mulOkI(a b:Int):Bool:=smallI a||smallI b
noncomputable def mulD:D->D->Option D
 | .int a,.int b=>if mulOkI a b then some (.int (a * b)) else none
 | .str x,.int n=>if x.length<=1000/\n<=1000/\-1000<=n then some (.str (strMul x n.toNat)) else none
 | .list xs,.int n=>if xs.length<=1000/\n<=10000/\-10000<=n then some (.list (repL xs n.toNat)) else none
 | _,_=>none
noncomputable def int1(x:D):Option Int:=if h:x.ctorIdx=2 then PySem.PyData.int.elim (motive_1:=λ_=>Option Int) x h some else none
noncomputable def bV(x y:D):Option (Int × Int):=(int1 x).bind λa=>(int1 y).map λb=>(a,b)
noncomputable def cz:Operator->D->D->Option D
 | .Add,x,y=>addD x y
 | .Mult,x,y=>mulD x y
 | .Sub,x,y=>(bV x y).map λp=>.int (p.1 - p.2)
 | .FloorDiv,x,y=>(bV x y).bind λp=>if p.2 ≠ 0/\p.2.natAbs < 1073741824 then some (.int (p.1.fdiv p.2)) else none
 | .Mod,x,y=>(bV x y).bind λp=>if p.2 ≠ 0 then some (.int (p.1.fmod p.2)) else none
 | .Pow,x,y=>(bV x y).bind λp=>if 0<=p.2/\p.2<=1000/\p.1.natAbs<=1000 then some (.int (p.1 ^ p.2.toNat)) else none
 | _,_,_=>none
noncomputable def aL(n:Nat)(i:Int):Option Nat:=
 if 0<=i then (if i < n then some i.toNat else none)
 else if -(n:Int)<=i then some (i+n).toNat else none
noncomputable def item:D->D->Option D
 | .list xs,.int i=>(aL xs.length i).bind λk=>xs[k]?
 | .tuple xs,.int i=>(aL xs.length i).bind λk=>xs[k]?
 | .str x,.int i=>(aL x.length i).bind λk=>(x.cps[k]?).map λc=>.str ⟨#[c]⟩
 | _,_=>none
noncomputable def cm(n:Nat)(i:Int):Nat:=
 if i < 0 then (i+n).toNat else min i.toNat n
noncomputable def cut{α:Type}(xs:List α)(lo hi:Option Int):List α:=
 let a:=(lo.map (cm xs.length)).getD 0
 let b:=(hi.map (cm xs.length)).getD xs.length
 (xs.drop a).take (b - a)
noncomputable def intO:Option D->Option (Option Int)
 | .none=>some .none
 | .some (.int i)=>some (.some i)
 | .some _=>.none
noncomputable def slice:D->Option Int->Option Int->Option D
 | .list xs,lo,hi=>some (.list (cut xs lo hi))
 | .tuple xs,lo,hi=>some (.tuple (cut xs lo hi))
 | _,_,_=>none
noncomputable def anyEq(x:D)(xs:List D):Option Bool:=
 if aX xs&&shp x then some (xs.any λy=>y.eqv x) else none
noncomputable def subStrOne(x y:Str):Option Bool:=
 match x.cps.toList with
 | [c]=>some (decide (c ∈ y.cps.toList))
 | _=>none
noncomputable def strK(x:D):Option Str:=if h:x.ctorIdx=3 then PySem.PyData.str.elim (motive_1:=λ_=>Option Str) x h some else none
abbrev EnK:=Str × Str × Int × Str × Bool
abbrev StK:=Int × List EnK
noncomputable def enK(e:EnK):D:=.tuple [.str e.1,.str e.2.1,.int e.2.2.1,.str e.2.2.2.1,.bool e.2.2.2.2]
noncomputable def stK(p:StK):D:=.tuple [.int p.1,.tuple (p.2.map enK)]
noncomputable def tupK(x:D):Option (List D):=if h:x.ctorIdx=5 then PySem.PyData.tuple.elim (motive_1:=λ_=>Option (List D)) x h some else none
noncomputable def bolK(x:D):Option Bool:=if h:x.ctorIdx=1 then PySem.PyData.bool.elim (motive_1:=λ_=>Option Bool) x h some else none
noncomputable def hd1:List D->Option (D × List D)
 | x::r=>some (x,r)
 | []=>none
noncomputable def unEn(d:D):Option EnK:=(tupK d).bind λl=>(hd1 l).bind λa=>(strK a.1).bind λx1=>(hd1 a.2).bind λa=>(strK a.1).bind λx2=>(hd1 a.2).bind λa=>(int1 a.1).bind λx3=>(hd1 a.2).bind λa=>(strK a.1).bind λx4=>(hd1 a.2).bind λa=>(bolK a.1).bind λx5=>
 if a.2.isEmpty then some (x1,x2,x3,x4,x5) else none
noncomputable def j0:List D->Option (List EnK)
 | []=>some []
 | d::r=>(unEn d).bind λe=>(j0 r).map λl=>e::l
noncomputable def unK(d:D):Option StK:=(tupK d).bind λl=>(hd1 l).bind λa=>(int1 a.1).bind λk=>(hd1 a.2).bind λa=>(tupK a.1).bind λl=>(j0 l).bind λes=>if a.2.isEmpty then some (k,es) else none
noncomputable def tru:D->Bool
 | .bool b=>b
 | _=>false
noncomputable def keysT:List (D × D)->Option (List StK)
 | []=>some []
 | p::r=>if tru p.2 then (unK p.1).bind λk=>(keysT r).map λks=>k::ks else none
noncomputable def eqT(p q:StK):Bool:=p.1 == q.1&&p.2 == q.2
noncomputable def hasT(p:StK)(l:List StK):Bool:=l.any λq=>eqT q p
noncomputable def nodT:List StK->Bool
 | []=>true
 | p::r=>!hasT p r&&nodT r
noncomputable def dPutT(p:StK)(ks:List StK)(kvs:List (D × D)):List (D × D):=if hasT p ks then kvs else kvs++[(stK p,.bool true)]
noncomputable def mh:List (D × D)->Option (List Str)
 | []=>some []
 | p::r=>(strK p.1).bind λx=>(mh r).map λxs=>x::xs
noncomputable def dictOk(kvs:List (D × D)):Bool:=(mh kvs).any (λks=>decide ks.Nodup)&&kvs.all λp=>isScalar p.2
noncomputable def dHas(x:Str)(kvs:List (D × D)):Bool:=kvs.any λp=>strK p.1 == some x
noncomputable def dPut(x:Str)(v:D)(kvs:List (D × D)):List (D × D):=if dHas x kvs then kvs.map (λp=>if strK p.1 == some x then (p.1,v) else p) else kvs++[(.str x,v)]
noncomputable def dic1:List D->List D->Option D
 | [],[]=>some (.dict [])
 | [k],[v]=>match strK k with
  | some x=>if isScalar v then some (.dict [(.str x,v)]) else none
  | none=>(unK k).bind λp=>if tru v then some (.dict [(stK p,.bool true)]) else none
 | _,_=>none
noncomputable def dIn(x:D)(kvs:List (D × D)):Option Bool:=match strK x with
 | some s=>if dictOk kvs then some (dHas s kvs) else none
 | none=>(unK x).bind λp=>(keysT kvs).bind λks=>if nodT ks then some (hasT p ks) else none
noncomputable def xH(k:D):Bool:=noList k&&shp k
noncomputable def pyIn(x:D):D->Option Bool
 | .list xs=>anyEq x xs
 | .tuple xs=>anyEq x xs
 | .str y=>match x with
  | .str z=>subStrOne z y
  | _=>none
 | .dict kvs=>dIn x kvs
 | _=>none
noncomputable def bC:List D->List D->Option Bool
 | [],[]=>some false
 | x::xs,y::ys=>(bV x y).bind λp=>if p.1=p.2 then bC xs ys else (bC xs ys).map λ_=>decide (p.1 < p.2)
 | _,_=>none
noncomputable def ltD:D->D->Option Bool
 | .tuple xs,.tuple ys=>bC xs ys
 | a,b=>(bV a b).map λp=>decide (p.1 < p.2)
noncomputable def isN:D->Bool
 | .none=>true
 | _=>false
noncomputable def bl:CmpOp->D->D->Option Bool
 | .Eq,a,b=>pyEq a b
 | .NotEq,a,b=>(pyEq a b).map (!·)
 | .Lt,a,b=>ltD a b
 | .LtE,a,b=>(bV a b).map λp=>decide (p.1<=p.2)
 | .Gt,a,b=>(bV a b).map λp=>decide (p.2 < p.1)
 | .GtE,a,b=>(bV a b).map λp=>decide (p.2<=p.1)
 | .In,a,b=>pyIn a b
 | .NotIn,a,b=>(pyIn a b).map (!·)
 | .Is,a,b=>if isN b then some (isN a) else none
 | .IsNot,a,b=>if isN b then some (!isN a) else none
noncomputable def isA:D->Ty->Option Bool
 | .dict _,_=>none
 | .list _,.list=>some true
 | .tuple _,.tuple=>some true
 | .str _,.str=>some true
 | .int _,.int=>some true
 | .bool _,.int=>some true
 | .bool _,.bool=>some true
 | _,_=>some false
noncomputable def sumI:List D->Int->Option Int
 | [],a=>some a
 | .int i::r,a=>sumI r (a+i)
 | _,_=>none
noncomputable def lenD:D->Option D
 | .list xs=>some (.int xs.length)
 | .tuple xs=>some (.int xs.length)
 | .str x=>some (.int x.length)
 | _=>none
noncomputable def dI(x:D):Option (List D):=if h:x.ctorIdx=4 then PySem.PyData.list.elim (motive_1:=λ_=>Option (List D)) x h some else none
noncomputable def w5:List D->Option (D × D)
 | [a,b]=>some (a,b)
 | _=>none
noncomputable def tf(x:D):Option (D × D):=(tupK x).bind w5
noncomputable def w7(x:D):Option Bool:=bolK x
noncomputable def b1:B1->D->Option D
 | .len,x=>lenD x
 | .all,x=>(dI x).bind λxs=>(cT xs).map λbs=>.bool (bs.all id)
 | .any,x=>(dI x).bind λxs=>(cT xs).map λbs=>.bool (bs.any id)
 | .sum,x=>(dI x).bind λxs=>(sumI xs 0).map .int
 | .list,x=>(dI x).map .list
 | .tuple,x=>(dI x).map .tuple
 | .int,x=>(w7 x).map λb=>.int (if b then 1 else 0)
 | .listrev,x=>(dI x).map λxs=>.list xs.reverse
noncomputable def nq:List D->Option (List Str)
 | []=>some []
 | d::r=>(strK d).bind λx=>(nq r).map λxs=>x::xs
noncomputable def idxD(xs:List D)(x:D):Option D:=(strK x).bind λs=>(nq xs).bind λl=>if l.length<=1000 then (l.findIdx? (· == s)).map λ(n:Nat)=>PyData.int (n:Int) else none
noncomputable def j4:D->D->Option D
 | .list xs,x=>idxD xs x
 | .tuple xs,x=>idxD xs x
 | _,_=>none
noncomputable def cg(a:Int):Nat->List D
 | 0=>[]
 | n+1=>.int a::cg (a+1) n
theorem d8(a:Int)(n:Nat):cg a (n+1)=PyData.int a::cg (a+1) n:=rfl
noncomputable def cR(a:Nat):List D->List (List D)
 | []=>[]
 | x::r=>[.int a,x]::cR (a+1) r
theorem hV(a:Nat)(x_1:D)(xs:List D):cR a (x_1::xs)=[PyData.int ↑a,x_1]::cR (a+1) xs:=rfl
noncomputable def zipL:List D->List D->List (List D)
 | x::xs,y::ys=>[x,y]::zipL xs ys
 | _,_=>[]
theorem u3(x y:D)(xs ys:List D):zipL (x::xs) (y::ys)=[x,y]::zipL xs ys:=rfl
noncomputable def one(xs:List D):List (List D):=xs.map λx=>[x]
noncomputable def dM(f:List D->Option D)(c:List D->Option Bool):List (List D)->Option (List D)
 | []=>some []
 | vs::r=>(c vs).bind λb=>if b then (f vs).bind λx=>(dM f c r).map λxs=>x::xs else dM f c r
theorem tg(f:List D->Option D)(c:List D->Option Bool):dM f c []=some []:=rfl
theorem nr(f:List D->Option D)(c:List D->Option Bool)(vs:List D)(r:List (List D)):dM f c (vs::r)=(c vs).bind λ(b:Bool)=>if b=true then (f vs).bind λ(x:D)=>Option.map (λ(xs:List D)=>x::xs) (dM f c r) else dM f c r:=rfl
noncomputable def forL(b:List D->St->Option (Fl × St)):List (List D)->St->Option (Fl × St)
 | [],m=>some (.next,m)
 | vs::r,m=>match b vs m with
  | some (.next,m')=>forL b r m'
  | some (.ret d,m')=>some (.ret d,m')
  | none=>none
theorem u4(b:List D->St->Option (Fl × St))(x:St):forL b [] x=some (Fl.next,x):=rfl
theorem gI(b:List D->St->Option (Fl × St))(x:St)(vs:List D)(r:List (List D)):forL b (vs::r) x=match b vs x with | some (Fl.next,m')=>forL b r m' | some (Fl.ret d,m')=>some (Fl.ret d,m') | none=>none:=rfl
noncomputable def whL(c:St->Option Bool)(b:St->Option (Fl × St)):Nat->St->Option (Fl × St)
 | 0,_=>none
 | n+1,m=>match c m with
  | some true=>(match b m with
   | some (.next,m')=>whL c b n m'
   | some (.ret d,m')=>some (.ret d,m')
   | none=>none)
  | some false=>some (.next,m)
  | none=>none
theorem mi(c:St->Option Bool)(b:St->Option (Fl × St))(x:St)(n:Nat):whL c b (n+1) x=match c x with | some true=>(match b x with | some (Fl.next,m')=>whL c b n m' | some (Fl.ret d,m')=>some (Fl.ret d,m') | none=>none) | some false=>some (Fl.next,x) | none=>none:=rfl
noncomputable def bL:Nat->Bool:=λn=>decide (n<=2 ^ 20)
noncomputable def fK:D->Option (List D)
 | .list xs=>some xs
 | .tuple xs=>some xs
 | .str x=>some (x.cps.toList.map λc=>.str ⟨#[c]⟩)
 | _=>none
theorem iZ(xs:List PyData):fK (PyData.list xs)=some xs:=rfl
theorem i5(xs:List PyData):fK (PyData.tuple xs)=some xs:=rfl
theorem nu(x_1:Str):fK (PyData.str x_1)=some (List.map (λ(c:Nat)=>PyData.str { cps:=#[c] }) x_1.cps.toList):=rfl
noncomputable def cA:It->Bool
 | .zip _ _=>true
 | _=>false
section
variable (Φ:Str->List D->Option D)(Γ:Str->Option D)
mutual
noncomputable def evE:Ex->St->Option D
 | .k d,_=>some d
 | .v i,m=>(m[i]?).bind λx=>x
 | .gc x,_=>Γ x
 | .tup es,m=>(evEs es m).map .tuple
 | .lst es,m=>(evEs es m).map .list
 | .dic a b,m=>(evEs a m).bind λks=>(evEs b m).bind λvs=>dic1 ks vs
 | .bin op a b,m=>(evE a m).bind λx=>(evE b m).bind λy=>cz op x y
 | .neg a,m=>(evE a m).bind λx=>(int1 x).map λi=>.int (-i)
 | .not a,m=>(evE a m).bind λx=>(truth x).map λb=>.bool (!b)
 | .bool isAnd es,m=>evB isAnd es m
 | .cmp op a b,m=>(evE a m).bind λx=>(evE b m).bind λy=>(bl op x y).map .bool
 | .cmp2 o1 o2 a b c,m=>(evE a m).bind λx=>(evE b m).bind λy=>(bl o1 x y).bind λr=>
  if r then (evE c m).bind λz=>(bl o2 y z).map .bool else some (.bool false)
 | .idx a i,m=>(evE a m).bind λx=>(evE i m).bind λy=>item x y
 | .sl a lo hi,m=>(evE a m).bind λx=>(evO lo m).bind λl=>(evO hi m).bind λh=>(intO l).bind λl=>(intO h).bind λh=>slice x l h
 | .call _ f args,m=>(evEs args m).bind λxs=>Φ f xs
 | .b1 f a,m=>(evE a m).bind λx=>b1 f x
 | .isi a t,m=>(evE a m).bind λx=>(isA x t).map .bool
 | .index a b,m=>(evE a m).bind λx=>(evE b m).bind λy=>j4 x y
 | .comp elt it cond,m=>(evIt it m).bind λitems=>if bL items.length then
  (dM (λvs=>evE elt (m++vs.map some)) (λvs=>evC cond (m++vs.map some)) items).bind λxs=>if !cA it||xs.all isScalar then some (.list xs) else none else none
noncomputable def evEs:Exs->St->Option (List D)
 | .nil,_=>some []
 | .cons e es,m=>(evE e m).bind λx=>(evEs es m).map λxs=>x::xs
noncomputable def evO:Exo->St->Option (Option D)
 | .none,_=>some .none
 | .some e,m=>(evE e m).map .some
noncomputable def evC:Exo->St->Option Bool
 | .none,_=>some true
 | .some e,m=>(evE e m).bind truth
noncomputable def evB(isAnd:Bool):Exs->St->Option D
 | .nil,_=>none
 | .cons e .nil,m=>evE e m
 | .cons e es,m=>(evE e m).bind λx=>(truth x).bind λb=>if b=isAnd then evB isAnd es m else some x
noncomputable def evIt:It->St->Option (List (List D))
 | .plain e,m=>(evE e m).bind λx=>(fK x).map one
 | .range1 e,m=>(evE e m).bind λx=>(int1 x).bind λn=>if n.natAbs<=2 ^ 20 then some (one (cg 0 n.toNat)) else none
 | .range2 a b,m=>(evE a m).bind λx=>(evE b m).bind λy=>(bV x y).bind λp=>if p.1.natAbs<=2 ^ 20/\p.2.natAbs<=2 ^ 20 then some (one (cg p.1 (p.2 - p.1).toNat)) else none
 | .enum e,m=>(evE e m).bind λx=>(dI x).map (cR 0)
 | .zip a b,m=>(evE a m).bind λx=>(evE b m).bind λy=>(dI x).bind λxs=>(dI y).map λys=>zipL xs ys
end
noncomputable def isOw(ow:List Nat):Ex->Bool
 | .v i=>ow.contains i
 | _=>false
noncomputable def frE:Ex->Bool
 | .v _ | .gc _ | .idx .. | .bool ..=>false
 | .call fr _ _=>fr
 | _=>true
noncomputable def retOk(ow:List Nat)(e:Ex)(x:D):Bool:=noList x||((isOw ow e||frE e)&&flat x)
noncomputable def setV(m:St)(i:Nat)(d:D):St:=m.set i (some d)
noncomputable def hdI(l:List D):Bool:=l.head?.all λx=>(int1 x).isSome
noncomputable def tapD(x d:D):Option D:=(dI x).bind λxs=>(hd1 xs).bind λp=>(tupK p.1).bind λ_=>(tupK d).bind λl=>(hd1 l).bind λa=>(hd1 a.2).bind λb=>(hd1 b.2).bind λe=>(dI e.1).bind λys=>
 if an xs&&noList a.1&&noList b.1&&an ys&&hdI ys&&e.2.isEmpty&&decide (ys.length<=2 ^ 20) then some (.tuple [a.1,b.1,.list (ys++[.int 1])]) else none
noncomputable def retV(q:Fl × St):Option (Fl × St):=match q.1 with
 | .ret _=>some q
 | .next=>none
mutual
noncomputable def exS(ow:List Nat)(fr:Bool)(N:Nat):Sm->St->Option (Fl × St)
 | .asg i e,m=>(evE Φ Γ e m).bind λx=>if !ow.contains i||flat x then some (.next,setV m i x) else none
 | .unp i j e,m=>(evE Φ Γ e m).bind λx=>(tf x).map λp=>(.next,setV (setV m i p.1) j p.2)
 | .seti i ix e,m=>(evE Φ Γ e m).bind λx=>((m[i]?).bind λc=>c).bind λc=>(evE Φ Γ ix m).bind λk=>
  if noList x then (match c,k with
   | .list xs,.int n=>if 0<=n/\n < xs.length then some (.next,setV m i (.list (xs.set n.toNat x))) else none
   | .dict kvs,.str s=>if dictOk kvs&&isScalar x&&decide (kvs.length<=2 ^ 20) then some (.next,setV m i (.dict (dPut s x kvs))) else none
   | .dict kvs,.tuple l=>(unK (.tuple l)).bind λp=>(keysT kvs).bind λks=>if nodT ks&&tru x&&decide (ks.length<=2 ^ 20) then some (.next,setV m i (.dict (dPutT p ks kvs))) else none
   | _,_=>none) else none
 | .app i e,m=>((m[i]?).bind λc=>c).bind λc=>(evE Φ Γ e m).bind λx=>match c with
  | .list xs=>if noList x&&bL xs.length then some (.next,setV m i (.list (xs++[x]))) else none
  | _=>none
 | .pop i,m=>((m[i]?).bind λc=>c).bind λc=>match c with
  | .list xs=>if xs.isEmpty then none else some (.next,setV m i (.list xs.dropLast))
  | _=>none
 | .rev i,m=>((m[i]?).bind λc=>c).bind λc=>match c with
  | .list xs=>some (.next,setV m i (.list xs.reverse))
  | _=>none
 | .ite c t e,m=>(evE Φ Γ c m).bind λx=>(truth x).bind λb=>if b then exSs ow fr N t m else exSs ow fr N e m
 | .for1 i it body,m=>(evIt Φ Γ it m).bind λitems=>if cA it then none else forL (λvs m=>match vs with
  | [x]=>exSs ow fr N body (setV m i x)
  | _=>none) items m
 | .for2 i j it body,m=>(evIt Φ Γ it m).bind λitems=>if cA it then none else forL (λvs m=>match vs with
  | [x,y]=>exSs ow fr N body (setV (setV m i x) j y)
  | _=>none) items m
 | .wh c body,m=>whL (λm=>(evE Φ Γ c m).bind truth) (λm=>exSs ow fr N body m) N m
 | .ret e,m=>(evE Φ Γ e m).bind λx=>if !fr||retOk ow e x then some (.ret x,m) else none
 | .ex e,m=>(evE Φ Γ e m).map λ_=>(.next,m)
 | .tap i j g c1 t1 c2 b,m=>((m[j]?).bind λx=>x).bind λx=>(Φ g [x]).bind λd=>(evE Φ Γ c1 (setV m i d)).bind λy=>(truth y).bind λb1=>if b1 then (exSs ow fr N t1 (setV m i d)).bind retV else (evE Φ Γ c2 (setV m i d)).bind λz=>(truth z).bind λb2=>if b2 then (tapD x d).bind λd'=>exSs ow fr N b (setV m i d') else some (.next,setV m i d)
 | .stuck,_=>none
noncomputable def exSs(ow:List Nat)(fr:Bool)(N:Nat):Sms->St->Option (Fl × St)
 | .nil,m=>some (.next,m)
 | .cons s r,m=>match exS ow fr N s m with
  | some (.next,m')=>exSs ow fr N r m'
  | some (.ret d,m')=>some (.ret d,m')
  | none=>none
end
end
structure Fn where
 np:Nat
 ns:Nat
 ow:List Nat
 fr:Bool
 body:Sms
noncomputable def runFn(Φ:Str->List D->Option D)(Γ:Str->Option D)(N:Nat)(f:Fn)(args:List D):Option D:=
 if args.length=f.np then match exSs Φ Γ f.ow f.fr N f.body (args.map some++List.replicate (f.ns - f.np) none) with
  | some (.ret d,_)=>some d
  | some (.next,_)=>some .none
  | none=>none
 else none
section
variable {Φ:Str->List D->Option D}{Γ:Str->Option D}{m:St}{ow:List Nat}{fr:Bool}{N:Nat}
theorem x_k(d:D):evE Φ Γ (.k d) m=some d:=rfl
theorem x_v(i:Nat):evE Φ Γ (.v i) m=(m[i]?).bind λx=>x:=rfl
theorem x_gc(x:Str):evE Φ Γ (.gc x) m=Γ x:=rfl
theorem cB(es:Exs):evE Φ Γ (.tup es) m=(evEs Φ Γ es m).map .tuple:=rfl
theorem hY(es:Exs):evE Φ Γ (.lst es) m=(evEs Φ Γ es m).map .list:=rfl
theorem bh(op:Operator)(a b:Ex):evE Φ Γ (.bin op a b) m=(evE Φ Γ a m).bind λx=>(evE Φ Γ b m).bind λy=>cz op x y:=rfl
theorem u6(a:Ex):evE Φ Γ (.neg a) m=(evE Φ Γ a m).bind λx=>(int1 x).map λi=>.int (-i):=rfl
theorem p7(a:Ex):evE Φ Γ (.not a) m=(evE Φ Γ a m).bind λx=>(truth x).map λb=>.bool (!b):=rfl
theorem cr(q:Bool)(es:Exs):evE Φ Γ (.bool q es) m=evB Φ Γ q es m:=rfl
theorem dN(op:CmpOp)(a b:Ex):evE Φ Γ (.cmp op a b) m=(evE Φ Γ a m).bind λx=>(evE Φ Γ b m).bind λy=>(bl op x y).map .bool:=rfl
theorem nv(o1 o2:CmpOp)(a b c:Ex):evE Φ Γ (.cmp2 o1 o2 a b c) m=(evE Φ Γ a m).bind λx=>(evE Φ Γ b m).bind λy=>(bl o1 x y).bind λr=>if r then (evE Φ Γ c m).bind λz=>(bl o2 y z).map .bool else some (.bool false):=rfl
theorem nx(a b:Ex):evE Φ Γ (.index a b) m=(evE Φ Γ a m).bind λx=>(evE Φ Γ b m).bind λy=>j4 x y:=rfl
theorem bj(a b:Ex):evE Φ Γ (.idx a b) m=(evE Φ Γ a m).bind λx=>(evE Φ Γ b m).bind λy=>item x y:=rfl
theorem x_sl(a:Ex)(l h:Exo):evE Φ Γ (.sl a l h) m=(evE Φ Γ a m).bind λx=>(evO Φ Γ l m).bind λl=>(evO Φ Γ h m).bind λh=>(intO l).bind λl=>(intO h).bind λh=>slice x l h:=rfl
theorem bg(q:Bool)(f:Str)(es:Exs):evE Φ Γ (.call q f es) m=(evEs Φ Γ es m).bind λxs=>Φ f xs:=rfl
theorem x_b1(f:B1)(a:Ex):evE Φ Γ (.b1 f a) m=(evE Φ Γ a m).bind λx=>b1 f x:=rfl
theorem ti(a:Ex)(t:Ty):evE Φ Γ (.isi a t) m=(evE Φ Γ a m).bind λx=>(isA x t).map .bool:=rfl
theorem aH:evEs Φ Γ .nil m=some []:=rfl
theorem ax(e:Ex)(es:Exs):evEs Φ Γ (.cons e es) m=(evE Φ Γ e m).bind λx=>(evEs Φ Γ es m).map λxs=>x::xs:=rfl
theorem fL:evO Φ Γ .none m=some .none:=rfl
theorem fM(e:Ex):evO Φ Γ (.some e) m=(evE Φ Γ e m).map .some:=rfl
theorem j5:evC Φ Γ .none m=some true:=rfl
theorem j6(e:Ex):evC Φ Γ (.some e) m=(evE Φ Γ e m).bind truth:=rfl
theorem eZ(q:Bool)(e:Ex):evB Φ Γ q (.cons e .nil) m=evE Φ Γ e m:=rfl
theorem eM(q:Bool)(e e2:Ex)(es:Exs):evB Φ Γ q (.cons e (.cons e2 es)) m=(evE Φ Γ e m).bind λx=>(truth x).bind λb=>if b=q then evB Φ Γ q (.cons e2 es) m else some x:=rfl
theorem w8(a b:Exs):evE Φ Γ (.dic a b) m=(evEs Φ Γ a m).bind λks=>(evEs Φ Γ b m).bind λvs=>dic1 ks vs:=rfl
theorem ny(elt:Ex)(it:It)(cond:Exo):evE Φ Γ (.comp elt it cond) m=(evIt Φ Γ it m).bind λitems=>if bL items.length then
 (dM (λvs=>evE Φ Γ elt (m++vs.map some)) (λvs=>evC Φ Γ cond (m++vs.map some)) items).bind λxs=>if !cA it||xs.all isScalar then some (.list xs) else none else none:=rfl
theorem tj(i:Nat)(e:Ex):exS Φ Γ ow fr N (.asg i e) m=(evE Φ Γ e m).bind λx=>if !ow.contains i||flat x then some (.next,setV m i x) else none:=rfl
theorem w9(i j:Nat)(e:Ex):exS Φ Γ ow fr N (.unp i j e) m=(evE Φ Γ e m).bind λx=>(tf x).map λp=>(.next,setV (setV m i p.1) j p.2):=rfl
theorem li(i:Nat)(ix e:Ex):exS Φ Γ ow fr N (.seti i ix e) m=(evE Φ Γ e m).bind λx=>((m[i]?).bind λc=>c).bind λc=>(evE Φ Γ ix m).bind λk=>
 if noList x then (match c,k with
  | .list xs,.int n=>if 0<=n/\n < xs.length then some (.next,setV m i (.list (xs.set n.toNat x))) else none
  | .dict kvs,.str s=>if dictOk kvs&&isScalar x&&decide (kvs.length<=2 ^ 20) then some (.next,setV m i (.dict (dPut s x kvs))) else none
  | .dict kvs,.tuple l=>(unK (.tuple l)).bind λp=>(keysT kvs).bind λks=>if nodT ks&&tru x&&decide (ks.length<=2 ^ 20) then some (.next,setV m i (.dict (dPutT p ks kvs))) else none
  | _,_=>none) else none:=rfl
theorem u7(i:Nat)(e:Ex):exS Φ Γ ow fr N (.app i e) m=((m[i]?).bind λc=>c).bind λc=>(evE Φ Γ e m).bind λx=>match c with
 | .list xs=>if noList x&&bL xs.length then some (.next,setV m i (.list (xs++[x]))) else none
 | _=>none:=rfl
theorem u8(i:Nat):exS Φ Γ ow fr N (.pop i) m=((m[i]?).bind λc=>c).bind λc=>match c with
 | .list xs=>if xs.isEmpty then none else some (.next,setV m i (.list xs.dropLast))
 | _=>none:=rfl
theorem u9(i:Nat):exS Φ Γ ow fr N (.rev i) m=((m[i]?).bind λc=>c).bind λc=>match c with
 | .list xs=>some (.next,setV m i (.list xs.reverse))
 | _=>none:=rfl
theorem nz(c:Ex)(t e:Sms):exS Φ Γ ow fr N (.ite c t e) m=(evE Φ Γ c m).bind λx=>(truth x).bind λb=>if b then exSs Φ Γ ow fr N t m else exSs Φ Γ ow fr N e m:=rfl
theorem nA(i:Nat)(it:It)(body:Sms):exS Φ Γ ow fr N (.for1 i it body) m=(evIt Φ Γ it m).bind λitems=>if cA it then none else forL (λvs m=>match vs with
 | [x]=>exSs Φ Γ ow fr N body (setV m i x)
 | _=>none) items m:=rfl
theorem nB(i j:Nat)(it:It)(body:Sms):exS Φ Γ ow fr N (.for2 i j it body) m=(evIt Φ Γ it m).bind λitems=>if cA it then none else forL (λvs m=>match vs with
 | [x,y]=>exSs Φ Γ ow fr N body (setV (setV m i x) j y)
 | _=>none) items m:=rfl
theorem e_wh(c:Ex)(body:Sms):exS Φ Γ ow fr N (.wh c body) m=whL (λm=>(evE Φ Γ c m).bind truth) (λm=>exSs Φ Γ ow fr N body m) N m:=rfl
theorem vc(e:Ex):exS Φ Γ ow fr N (.ret e) m=(evE Φ Γ e m).bind λx=>if !fr||retOk ow e x then some (.ret x,m) else none:=rfl
theorem e_ex(e:Ex):exS Φ Γ ow fr N (.ex e) m=(evE Φ Γ e m).map λ_=>(.next,m):=rfl
theorem tl(i j:Nat)(g:Str)(c1:Ex)(t1:Sms)(c2:Ex)(b:Sms):exS Φ Γ ow fr N (.tap i j g c1 t1 c2 b) m=((m[j]?).bind λx=>x).bind λx=>(Φ g [x]).bind λd=>(evE Φ Γ c1 (setV m i d)).bind λy=>(truth y).bind λb1=>if b1 then (exSs Φ Γ ow fr N t1 (setV m i d)).bind retV else (evE Φ Γ c2 (setV m i d)).bind λz=>(truth z).bind λb2=>if b2 then (tapD x d).bind λd'=>exSs Φ Γ ow fr N b (setV m i d') else some (.next,setV m i d):=rfl
theorem tm:exS Φ Γ ow fr N .stuck m=none:=rfl
theorem vd:exSs Φ Γ ow fr N .nil m=some (.next,m):=rfl
theorem hZ(s:Sm)(r:Sms):exSs Φ Γ ow fr N (.cons s r) m=match exS Φ Γ ow fr N s m with
 | some (.next,m')=>exSs Φ Γ ow fr N r m'
 | some (.ret d,m')=>some (.ret d,m')
 | none=>none:=rfl
theorem ib(e:Ex):evIt Φ Γ (.plain e) m=(evE Φ Γ e m).bind λx=>(fK x).map one:=rfl
theorem i6(e:Ex):evIt Φ Γ (.range1 e) m=(evE Φ Γ e m).bind λx=>(int1 x).bind λn=>if n.natAbs<=2 ^ 20 then some (one (cg 0 n.toNat)) else none:=rfl
theorem i7(a b:Ex):evIt Φ Γ (.range2 a b) m=(evE Φ Γ a m).bind λx=>(evE Φ Γ b m).bind λy=>(bV x y).bind λp=>if p.1.natAbs<=2 ^ 20/\p.2.natAbs<=2 ^ 20 then some (one (cg p.1 (p.2 - p.1).toNat)) else none:=rfl
theorem nD(e:Ex):evIt Φ Γ (.enum e) m=(evE Φ Γ e m).bind λx=>(dI x).map (cR 0):=rfl
theorem ve(a b:Ex):evIt Φ Γ (.zip a b) m=(evE Φ Γ a m).bind λx=>(evE Φ Γ b m).bind λy=>(dI x).bind λxs=>(dI y).map λys=>zipL xs ys:=rfl
end
end Mine
set_option tactic.hygienic false
namespace Mine
open PySem
theorem ct{α β:Type}{x:Option α}{f:α->Option β}{y:β}(h:x.bind f=some y):∃ a,x=some a/\f a=some y:=by
 cases x with
 | none=>cases h
 | some a=>exact ⟨a,rfl,h⟩
theorem aa{α β:Type}{x:Option α}{f:α->Option β}{y:β}{G:Prop}(h:x.bind f=some y)(k:∀ a,x=some a->f a=some y->G):G:=
 (ct h).elim λa r=>k a r.1 r.2
theorem ae{α β:Type}{x:Option α}{f:α->β}{y:β}(h:x.map f=some y):∃ a,x=some a/\f a=y:=by
 cases x with
 | none=>cases h
 | some a=>exact ⟨a,rfl,Qv h⟩
noncomputable abbrev listObj (vs:Array Value) (n:Nat):Obj:={ cls:=.type "list",data:=.seq vs n }
noncomputable abbrev tupObj (vs:Array Value) (n:Nat):Obj:={ cls:=.type "tuple",data:=.seq vs n }
noncomputable abbrev dictObj (es:Array DictEntry) (n:Nat):Obj:={ cls:=.type "dict",data:=.dict es n }
mutual
inductive Rd (H:D->Int) (h:Heap):Value->D->List Addr->Prop
 | none:Rd H h .none .none []
 | bool (b:Bool):Rd H h (.bool b) (.bool b) []
 | int (i:Int) (t:Tok):Rd H h (.int i t) (.int i) []
 | str (x:Str) (t:Tok) (hz:x.length<=sizeLine) (ho:PyData.strOk x=true):Rd H h (.str x t) (.str x) []
 | list {a:Addr} {vs:Array Value} {n:Nat} {xs:List D} {as:List Addr}:h.get? a=some (listObj vs n)->vs.size<=sizeLine->RdAll H h vs.toList xs as->Rd H h (.ref a) (.list xs) (a::as)
 | tuple {a:Addr} {vs:Array Value} {n:Nat} {xs:List D} {as:List Addr}:h.get? a=some (tupObj vs n)->vs.size<=sizeLine->RdAll H h vs.toList xs as->Rd H h (.ref a) (.tuple xs) as
 | dict {a:Addr} {es:Array DictEntry} {n:Nat} {kvs:List (D × D)}:a ≠ sysModules->h.get? a=some (dictObj es n)->RdKv H h es.toList kvs->Rd H h (.ref a) (.dict kvs) [a]
inductive RdAll (H:D->Int) (h:Heap):List Value->List D->List Addr->Prop
 | nil:RdAll H h [] [] []
 | cons {v:Value} {vs:List Value} {d:D} {ds:List D} {as bs:List Addr}:Rd H h v d as->RdAll H h vs ds bs->RdAll H h (v::vs) (d::ds) (as++bs)
inductive RdKv (H:D->Int) (h:Heap):List DictEntry->List (D × D)->Prop
 | nil:RdKv H h [] []
 | cons {e:DictEntry} {es:List DictEntry} {k v:D} {kvs:List (D × D)}:Rd H h e.key k []->Rd H h e.val v []->e.hash=H k->RdKv H h es kvs->RdKv H h (e::es) ((k,v)::kvs)
end
section
variable {H:D->Int}
theorem Rd.mono_both{h h':Heap}:(∀ {v:Value} {d:D} {as:List Addr},Rd H h v d as->(∀ a o,h.get? a=some o->((∃ vs n,o=tupObj vs n)\/a ∈ as)->h'.get? a=some o)->Rd H h' v d as) /\
 (∀ {vs:List Value} {ds:List D} {as:List Addr},RdAll H h vs ds as->(∀ a o,h.get? a=some o->((∃ vs n,o=tupObj vs n)\/a ∈ as)->h'.get? a=some o)->RdAll H h' vs ds as):=by
 let M1:∀ (v:Value) (d:D) (as:List Addr),Rd H h v d as->Prop:=λv d as o_=>(∀ a o,h.get? a=some o->((∃ vs n,o=tupObj vs n)\/a ∈ as)->h'.get? a=some o)->Rd H h' v d as
 let M2:∀ (vs:List Value) (ds:List D) (as:List Addr),RdAll H h vs ds as->Prop:=λvs ds as o_=>(∀ a o,h.get? a=some o->((∃ vs n,o=tupObj vs n)\/a ∈ as)->h'.get? a=some o)->RdAll H h' vs ds as
 let M3:∀ (es:List DictEntry) (kvs:List (D × D)),RdKv H h es kvs->Prop:=λes kvs o_=>(∀ a o,h.get? a=some o->(∃ vs n,o=tupObj vs n)->h'.get? a=some o)->RdKv H h' es kvs
 have c5:∀ {a:Addr} {vs:Array Value} {n:Nat} {xs:List D} {as:List Addr} (h1:h.get? a=some (listObj vs n)) (hz:vs.size<=sizeLine) (h2:RdAll H h vs.toList xs as),M2 _ _ _ h2->M1 (.ref a) (.list xs) (a::as) (.list h1 hz h2):=λh1 hz o_ ih hk=>.list (hk _ _ h1 (.inr (.head _))) hz (ih λa o e q=>hk a o e (q.imp id λq=>.tail _ q));have c6:∀ {a:Addr} {vs:Array Value} {n:Nat} {xs:List D} {as:List Addr} (h1:h.get? a=some (tupObj vs n)) (hz:vs.size<=sizeLine) (h2:RdAll H h vs.toList xs as),M2 _ _ _ h2->M1 (.ref a) (.tuple xs) as (.tuple h1 hz h2):=λh1 hz o_ ih hk=>.tuple (hk _ _ h1 (.inl ⟨_,_,rfl⟩)) hz (ih hk);have c7:∀ {a:Addr} {es:Array DictEntry} {n:Nat} {kvs:List (D × D)} (h0:a ≠ sysModules) (h1:h.get? a=some (dictObj es n)) (h2:RdKv H h es.toList kvs),M3 _ _ h2->M1 (.ref a) (.dict kvs) [a] (.dict h0 h1 h2):=λh0 h1 o_ ih hk=>.dict h0 (hk _ _ h1 (.inr (.head _))) (ih λa o e q=>hk a o e (.inl q));have c9:∀ {v:Value} {vs:List Value} {d:D} {ds:List D} {as bs:List Addr} (h1:Rd H h v d as) (h2:RdAll H h vs ds bs),M1 _ _ _ h1->M2 _ _ _ h2->M2 (v::vs) (d::ds) (as++bs) (.cons h1 h2):=λo_ o_ i1 i2 hk=>.cons (i1 λa o e q=>hk a o e (q.imp id λq=>Q6 _ q)) (i2 λa o e q=>hk a o e (q.imp id λq=>Zy _ q));have c11:∀ {e:DictEntry} {es:List DictEntry} {k v:D} {kvs:List (D × D)} (h1:Rd H h e.key k []) (h2:Rd H h e.val v []) (h3:e.hash=H k) (h4:RdKv H h es kvs),M1 _ _ _ h1->M1 _ _ _ h2->M3 _ _ h4->M3 (e::es) ((k,v)::kvs) (.cons h1 h2 h3 h4):=λo_ o_ h3 o_ i1 i2 i4 hk=>.cons (i1 λa o e q=>q.elim (hk a o e) λq=>nomatch q) (i2 λa o e q=>q.elim (hk a o e) λq=>nomatch q) h3 (i4 hk);exact ⟨λr=>Rd.rec (motive_1:=M1) (motive_2:=M2) (motive_3:=M3) (λo_=>.none) (λb o_=>.bool b) (λi t o_=>.int i t) (λx t hz ho o_=>.str x t hz ho) c5 c6 c7 (λo_=>.nil) c9 (λo_=>.nil) c11 r,
  λr=>RdAll.rec (motive_1:=M1) (motive_2:=M2) (motive_3:=M3) (λo_=>.none) (λb o_=>.bool b) (λi t o_=>.int i t) (λx t hz ho o_=>.str x t hz ho) c5 c6 c7 (λo_=>.nil) c9 (λo_=>.nil) c11 r⟩
theorem Rd.mono'{h h':Heap}{v:Value}{d:D}{as:List Addr}(r:Rd H h v d as)(hk:∀ a o,h.get? a=some o->((∃ vs n,o=tupObj vs n)\/a ∈ as)->h'.get? a=some o):Rd H h' v d as:=Rd.mono_both.1 r hk
theorem RdAll.mono'{h h':Heap}{v:List Value}{d:List D}{as:List Addr}(r:RdAll H h v d as)(hk:∀ a o,h.get? a=some o->((∃ vs n,o=tupObj vs n)\/a ∈ as)->h'.get? a=some o):RdAll H h' v d as:=Rd.mono_both.2 r hk
theorem Rd.mono{h h':Heap}{v:Value}{d:D}{as:List Addr}(r:Rd H h v d as)(hk:∀ a o,h.get? a=some o->(o.cls = .type "tuple" \/ a ∈ as)->h'.get? a=some o):Rd H h' v d as:=
 r.mono' λa o e q=>hk a o e (q.imp (λ⟨_,_,x⟩=>by rw [x]) id)
theorem RdAll.mono{h h':Heap}{v:List Value}{d:List D}{as:List Addr}(r:RdAll H h v d as)(hk:∀ a o,h.get? a=some o->(o.cls = .type "tuple" \/ a ∈ as)->h'.get? a=some o):RdAll H h' v d as:=
 r.mono' λa o e q=>hk a o e (q.imp (λ⟨_,_,x⟩=>by rw [x]) id)
theorem Rd.keeps{h h':Heap}{v:Value}{d:D}{as:List Addr}(r:Rd H h v d as)(hk:∀ b o,h.get? b=some o->h'.get? b=some o):Rd H h' v d as:=r.mono λa o e o_=>hk a o e
theorem RdAll.keeps{h h':Heap}{v:List Value}{d:List D}{as:List Addr}(r:RdAll H h v d as)(hk:∀ b o,h.get? b=some o->h'.get? b=some o):RdAll H h' v d as:=r.mono λa o e o_=>hk a o e
theorem RdAll.ind{h:Heap}{M:List Value->List D->List Addr->Prop}(n:M [] [] [])(c:∀ (v:Value) (vs:List Value) (d:D) (ds:List D) (as bs:List Addr),Rd H h v d as->RdAll H h vs ds bs->M vs ds bs->M (v::vs) (d::ds) (as++bs)){vs:List Value}{ds:List D}{as:List Addr}(r:RdAll H h vs ds as):M vs ds as:=
 RdAll.rec (motive_1:=λo_ o_ o_ o_=>True) (motive_2:=λvs ds as o_=>M vs ds as) (motive_3:=λo_ o_ o_=>True) trivial (λo_=>trivial) (λo_ o_=>trivial) (λo_ o_ o_ o_=>trivial) (λo_ o_ o_ o_=>trivial) (λo_ o_ o_ o_=>trivial) (λo_ o_ o_ o_=>trivial) n (λh1 h2 o_ i=>c _ _ _ _ _ _ h1 h2 i) trivial (λo_ o_ o_ o_ o_ o_ o_=>trivial) r
theorem RdAll.length{h:Heap}{vs:List Value}{ds:List D}{as:List Addr}(r:RdAll H h vs ds as):vs.length=ds.length:=
 r.ind (M:=λvs ds o_=>vs.length=ds.length) rfl λo_ o_ o_ o_ o_ o_ o_ o_ i=>Qf Nat.succ i
theorem Rd.old_both{h:Heap}:(∀ {v:Value} {d:D} {as:List Addr},Rd H h v d as->∀ a ∈ as,∃ o,h.get? a=some o/\((∃ vs n,o=listObj vs n)\/∃ es n,o=dictObj es n)) /\
 (∀ {vs:List Value} {ds:List D} {as:List Addr},RdAll H h vs ds as->∀ a ∈ as,∃ o,h.get? a=some o/\((∃ vs n,o=listObj vs n)\/∃ es n,o=dictObj es n)):=by
 let M1:∀ (v:Value) (d:D) (as:List Addr),Rd H h v d as->Prop:=λo_ o_ as o_=>∀ a ∈ as,∃ o,h.get? a=some o/\((∃ vs n,o=listObj vs n)\/∃ es n,o=dictObj es n)
 let M2:∀ (vs:List Value) (ds:List D) (as:List Addr),RdAll H h vs ds as->Prop:=λo_ o_ as o_=>∀ a ∈ as,∃ o,h.get? a=some o/\((∃ vs n,o=listObj vs n)\/∃ es n,o=dictObj es n)
 let M3:∀ (es:List DictEntry) (kvs:List (D × D)),RdKv H h es kvs->Prop:=λo_ o_ o_=>True
 have c5:∀ {a:Addr} {vs:Array Value} {n:Nat} {xs:List D} {as:List Addr} (h1:h.get? a=some (listObj vs n)) (hz:vs.size<=sizeLine) (h2:RdAll H h vs.toList xs as),M2 _ _ _ h2->M1 (.ref a) (.list xs) (a::as) (.list h1 hz h2):=λh1 o_ o_ ih b q=>(Qw q).elim (λe=>⟨_,e ▸ h1,.inl ⟨_,_,rfl⟩⟩) (ih b);have c7:∀ {a:Addr} {es:Array DictEntry} {n:Nat} {kvs:List (D × D)} (h0:a ≠ sysModules) (h1:h.get? a=some (dictObj es n)) (h2:RdKv H h es.toList kvs),M3 _ _ h2->M1 (.ref a) (.dict kvs) [a] (.dict h0 h1 h2):=λo_ h1 o_ o_ b q=>⟨_,(Qx q) ▸ h1,.inr ⟨_,_,rfl⟩⟩
 have c9:∀ {v:Value} {vs:List Value} {d:D} {ds:List D} {as bs:List Addr} (h1:Rd H h v d as) (h2:RdAll H h vs ds bs),M1 _ _ _ h1->M2 _ _ _ h2->M2 (v::vs) (d::ds) (as++bs) (.cons h1 h2):=λo_ o_ i1 i2 b q=>(QY q).elim (i1 b) (i2 b);exact ⟨λr=>Rd.rec (motive_1:=M1) (motive_2:=M2) (motive_3:=M3) (λo_ q=>nomatch q) (λo_ o_ q=>nomatch q) (λo_ o_ o_ q=>nomatch q) (λo_ o_ o_ o_ o_ q=>nomatch q) c5 (λo_ o_ o_ ih=>ih) c7 (λo_ q=>nomatch q) c9 trivial (λo_ o_ o_ o_ o_ o_ o_=>trivial) r,
  λr=>RdAll.rec (motive_1:=M1) (motive_2:=M2) (motive_3:=M3) (λo_ q=>nomatch q) (λo_ o_ q=>nomatch q) (λo_ o_ o_ q=>nomatch q) (λo_ o_ o_ o_ o_ q=>nomatch q) c5 (λo_ o_ o_ ih=>ih) c7 (λo_ q=>nomatch q) c9 trivial (λo_ o_ o_ o_ o_ o_ o_=>trivial) r⟩
theorem Rd.old{h:Heap}{v:Value}{d:D}{as:List Addr}(r:Rd H h v d as):∀ a ∈ as,∃ o,h.get? a=some o/\((∃ vs n,o=listObj vs n)\/∃ es n,o=dictObj es n):=Rd.old_both.1 r
theorem RdAll.old{h:Heap}{v:List Value}{d:List D}{as:List Addr}(r:RdAll H h v d as):∀ a ∈ as,∃ o,h.get? a=some o/\((∃ vs n,o=listObj vs n)\/∃ es n,o=dictObj es n):=Rd.old_both.2 r
theorem Rd.noAddr_both{h:Heap}:(∀ {v:Value} {d:D} {as:List Addr},Rd H h v d as->noList d=true->as=[])/\(∀ {vs:List Value} {ds:List D} {as:List Addr},RdAll H h vs ds as->an ds=true->as=[]):=by
 let M1:∀ (v:Value) (d:D) (as:List Addr),Rd H h v d as->Prop:=λo_ d as o_=>noList d=true->as=[]
 let M2:∀ (vs:List Value) (ds:List D) (as:List Addr),RdAll H h vs ds as->Prop:=λo_ ds as o_=>an ds=true->as=[]
 let M3:∀ (es:List DictEntry) (kvs:List (D × D)),RdKv H h es kvs->Prop:=λo_ o_ o_=>True
 have c9:∀ {v:Value} {vs:List Value} {d:D} {ds:List D} {as bs:List Addr} (h1:Rd H h v d as) (h2:RdAll H h vs ds bs),M1 _ _ _ h1->M2 _ _ _ h2->M2 (v::vs) (d::ds) (as++bs) (.cons h1 h2):=λo_ o_ i1 i2 q=>by
  rw [aQ,Qj] at q;rw [i1 q.1,i2 q.2];rfl
 exact ⟨λr=>Rd.rec (motive_1:=M1) (motive_2:=M2) (motive_3:=M3) (λo_=>rfl) (λo_ o_=>rfl) (λo_ o_ o_=>rfl) (λo_ o_ o_ o_ o_=>rfl) (λo_ o_ o_ o_ q=>by cases q) (λo_ o_ o_ ih q=>ih (q)) (λo_ o_ o_ o_ q=>by cases q) (λo_=>rfl) c9 trivial (λo_ o_ o_ o_ o_ o_ o_=>trivial) r,
  λr=>RdAll.rec (motive_1:=M1) (motive_2:=M2) (motive_3:=M3) (λo_=>rfl) (λo_ o_=>rfl) (λo_ o_ o_=>rfl) (λo_ o_ o_ o_ o_=>rfl) (λo_ o_ o_ o_ q=>by cases q) (λo_ o_ o_ ih q=>ih (q)) (λo_ o_ o_ o_ q=>by cases q) (λo_=>rfl) c9 trivial (λo_ o_ o_ o_ o_ o_ o_=>trivial) r⟩
theorem Rd.noAddr{h:Heap}{v:Value}{d:D}{as:List Addr}(r:Rd H h v d as)(hn:noList d=true):as=[]:=Rd.noAddr_both.1 r hn
theorem RdAll.noAddr{h:Heap}{v:List Value}{d:List D}{as:List Addr}(r:RdAll H h v d as)(hn:an d=true):as=[]:=Rd.noAddr_both.2 r hn
theorem Rd.reads_both{h:Heap}:(∀ {v:Value} {d:D} {as:List Addr},Rd H h v d as->∃ bs,Reads h v d bs)/\(∀ {vs:List Value} {ds:List D} {as:List Addr},RdAll H h vs ds as->∃ bs,ReadsAll h vs ds bs):=by
 let M1:∀ (v:Value) (d:D) (as:List Addr),Rd H h v d as->Prop:=λv d o_ o_=>∃ bs,Reads h v d bs
 let M2:∀ (vs:List Value) (ds:List D) (as:List Addr),RdAll H h vs ds as->Prop:=λvs ds o_ o_=>∃ bs,ReadsAll h vs ds bs
 let M3:∀ (es:List DictEntry) (kvs:List (D × D)),RdKv H h es kvs->Prop:=λes kvs o_=>∃ bs cs,ReadsAll h (es.map (·.key)) (kvs.map (·.1)) bs/\ReadsAll h (es.map (·.val)) (kvs.map (·.2)) cs
 have c5:∀ {a:Addr} {vs:Array Value} {n:Nat} {xs:List D} {as:List Addr} (h1:h.get? a=some (listObj vs n)) (hz:vs.size<=sizeLine) (h2:RdAll H h vs.toList xs as),M2 _ _ _ h2->M1 (.ref a) (.list xs) (a::as) (.list h1 hz h2):=λh1 o_ o_ ih=>ih.elim λo_ r=>⟨_,.list h1 rfl rfl r⟩
 have c6:∀ {a:Addr} {vs:Array Value} {n:Nat} {xs:List D} {as:List Addr} (h1:h.get? a=some (tupObj vs n)) (hz:vs.size<=sizeLine) (h2:RdAll H h vs.toList xs as),M2 _ _ _ h2->M1 (.ref a) (.tuple xs) as (.tuple h1 hz h2):=λh1 o_ o_ ih=>ih.elim λo_ r=>⟨_,.tuple h1 rfl rfl r⟩
 have c7:∀ {a:Addr} {es:Array DictEntry} {n:Nat} {kvs:List (D × D)} (h0:a ≠ sysModules) (h1:h.get? a=some (dictObj es n)) (h2:RdKv H h es.toList kvs),M3 _ _ h2->M1 (.ref a) (.dict kvs) [a] (.dict h0 h1 h2):=λo_ h1 o_ ih=>ih.elim λo_ ih=>ih.elim λo_ q=>⟨_,.dict h1 rfl rfl q.1 q.2⟩
 have c9:∀ {v:Value} {vs:List Value} {d:D} {ds:List D} {as bs:List Addr} (h1:Rd H h v d as) (h2:RdAll H h vs ds bs),M1 _ _ _ h1->M2 _ _ _ h2->M2 (v::vs) (d::ds) (as++bs) (.cons h1 h2):=λo_ o_ i1 i2=>i1.elim λo_ r=>i2.elim λo_ q=>⟨_,.cons r q⟩
 have c11:∀ {e:DictEntry} {es:List DictEntry} {k v:D} {kvs:List (D × D)} (h1:Rd H h e.key k []) (h2:Rd H h e.val v []) (h3:e.hash=H k) (h4:RdKv H h es kvs),M1 _ _ _ h1->M1 _ _ _ h2->M3 _ _ h4->M3 (e::es) ((k,v)::kvs) (.cons h1 h2 h3 h4):=λo_ o_ o_ o_ i1 i2 i4=>i1.elim λo_ r=>i2.elim λo_ q=>i4.elim λo_ i4=>i4.elim λo_ p=>⟨_,_,.cons r p.1,.cons q p.2⟩
 exact ⟨λr=>Rd.rec (motive_1:=M1) (motive_2:=M2) (motive_3:=M3) ⟨_,.none⟩ (λb=>⟨_,.bool b⟩) (λi t=>⟨_,.int i t⟩) (λx t o_ o_=>⟨_,.str x t⟩) c5 c6 c7 ⟨_,.nil⟩ c9 ⟨_,_,.nil,.nil⟩ c11 r,
  λr=>RdAll.rec (motive_1:=M1) (motive_2:=M2) (motive_3:=M3) ⟨_,.none⟩ (λb=>⟨_,.bool b⟩) (λi t=>⟨_,.int i t⟩) (λx t o_ o_=>⟨_,.str x t⟩) c5 c6 c7 ⟨_,.nil⟩ c9 ⟨_,_,.nil,.nil⟩ c11 r⟩
theorem Rd.reads{h:Heap}{v:Value}{d:D}{as:List Addr}(r:Rd H h v d as):∃ bs,Reads h v d bs:=Rd.reads_both.1 r
theorem Rd.canLay_both{h:Heap}:(∀ {v:Value} {d:D} {as:List Addr},Rd H h v d as->cf d=true->d.canLay0=true)/\(∀ {vs:List Value} {ds:List D} {as:List Addr},RdAll H h vs ds as->aX ds=true->PyData.canLayAll0 ds=true):=by
 let M1:∀ (v:Value) (d:D) (as:List Addr),Rd H h v d as->Prop:=λo_ d o_ o_=>cf d=true->d.canLay0=true
 let M2:∀ (vs:List Value) (ds:List D) (as:List Addr),RdAll H h vs ds as->Prop:=λo_ ds o_ o_=>aX ds=true->PyData.canLayAll0 ds=true
 let M3:∀ (es:List DictEntry) (kvs:List (D × D)),RdKv H h es kvs->Prop:=λo_ o_ o_=>True
 have c4:∀ (x:Str) (t:Tok) (hz:x.length<=sizeLine) (ho:PyData.strOk x=true),M1 (.str x t) (.str x) [] (.str x t hz ho):=λx o_ o_ ho o_=>by exact ho
 have c5:∀ {a:Addr} {vs:Array Value} {n:Nat} {xs:List D} {as:List Addr} (h1:h.get? a=some (listObj vs n)) (hz:vs.size<=sizeLine) (h2:RdAll H h vs.toList xs as),M2 _ _ _ h2->M1 (.ref a) (.list xs) (a::as) (.list h1 hz h2):=λo_ o_ o_ ih q=>by simp only [PyData.canLay0];exact ih (q)
 have c6:∀ {a:Addr} {vs:Array Value} {n:Nat} {xs:List D} {as:List Addr} (h1:h.get? a=some (tupObj vs n)) (hz:vs.size<=sizeLine) (h2:RdAll H h vs.toList xs as),M2 _ _ _ h2->M1 (.ref a) (.tuple xs) as (.tuple h1 hz h2):=λo_ o_ o_ ih q=>by simp only [PyData.canLay0];exact ih (q)
 have c9:∀ {v:Value} {vs:List Value} {d:D} {ds:List D} {as bs:List Addr} (h1:Rd H h v d as) (h2:RdAll H h vs ds bs),M1 _ _ _ h1->M2 _ _ _ h2->M2 (v::vs) (d::ds) (as++bs) (.cons h1 h2):=λo_ o_ i1 i2 q=>by
  rw [iY,Qj] at q;rw [PyData.canLayAll0,i1 q.1,i2 q.2];rfl
 exact ⟨λr=>Rd.rec (motive_1:=M1) (motive_2:=M2) (motive_3:=M3) (λo_=>rfl) (λo_ o_=>rfl) (λo_ o_ o_=>rfl) c4 c5 c6 (λo_ o_ o_ o_ q=>by cases q) (λo_=>rfl) c9 trivial (λo_ o_ o_ o_ o_ o_ o_=>trivial) r,
  λr=>RdAll.rec (motive_1:=M1) (motive_2:=M2) (motive_3:=M3) (λo_=>rfl) (λo_ o_=>rfl) (λo_ o_ o_=>rfl) c4 c5 c6 (λo_ o_ o_ o_ q=>by cases q) (λo_=>rfl) c9 trivial (λo_ o_ o_ o_ o_ o_ o_=>trivial) r⟩
theorem Rd.canLay{h:Heap}{v:Value}{d:D}{as:List Addr}(r:Rd H h v d as)(hn:cf d=true):d.canLay0=true:=Rd.canLay_both.1 r hn
theorem RdAll.canLay{h:Heap}{v:List Value}{d:List D}{as:List Addr}(r:RdAll H h v d as)(hn:aX d=true):PyData.canLayAll0 d=true:=Rd.canLay_both.2 r hn
noncomputable def inn:D->List Addr->List Addr
 | .list _,as=>as.tail
 | .dict _,_=>[]
 | _,as=>as
theorem tn{d:D}{as:List Addr}:∀ a ∈ inn d as,a ∈ as:=by
 intro a h;cases d<;>first | exact h | exact YK h | cases h
theorem Rd.inn_flat{h:Heap}{v:Value}{d:D}{as:List Addr}(r:Rd H h v d as)(hf:flat d=true):inn d as=[]:=by
 cases r with
 | list h1 h2 h3=>exact h3.noAddr (hf)
 | tuple h1 h2 h3=>exact h3.noAddr hf
 | dict=>rfl
 | _=>rfl
theorem Rd.innG{h:Heap}{v:Value}{d:D}{as:List Addr}{G:Addr->Prop}{q:Bool}(r:Rd H h v d as)(h1:q=false->∀ a ∈ as,G a)(h2:q=true->flat d=true):∀ a ∈ inn d as,G a:=by
 intro a m;cases q with
 | false=>exact h1 rfl a (tn a m)
 | true=>rw [r.inn_flat (h2 rfl)] at m;cases m
theorem RdAll.append{h:Heap}{vs ws:List Value}{ds es:List D}{as bs:List Addr}(r:RdAll H h vs ds as)(k:RdAll H h ws es bs):RdAll H h (vs++ws) (ds++es) (as++bs):=
 r.ind (M:=λvs ds as=>RdAll H h (vs++ws) (ds++es) (as++bs)) k λo_ o_ o_ o_ o_ o_ h1 o_ i=>by rw [Y4];exact .cons h1 i
theorem RdAll.get{h:Heap}{vs:List Value}{ds:List D}{as:List Addr}(r:RdAll H h vs ds as){k:Nat}{d:D}(e:ds[k]?=some d):∃ v bs,vs[k]?=some v/\Rd H h v d bs/\∀ a ∈ bs,a ∈ as:=
 r.ind (M:=λvs ds as=>∀ (k:Nat) (d:D),ds[k]?=some d->∃ v bs,vs[k]?=some v/\Rd H h v d bs/\∀ a ∈ bs,a ∈ as) (λk d e=>by cases e) (λv vs d0 ds as bs h1 h2 i k d e=>by
  cases k with
  | zero=>cases e;exact ⟨v,as,rfl,h1,λo_ q=>Q6 _ q⟩
  | succ k=>
   refine byG λX_ g_=>?_;obtain ⟨w,cs,e1,r,q⟩:=i k d e;refine g_ ?_;exact ⟨w,cs,e1,r,λa m=>Zy _ (q a m)⟩) k d e
theorem RdAll.getV{h:Heap}{vs:List Value}{ds:List D}{as:List Addr}(r:RdAll H h vs ds as){k:Nat}{v:Value}(e:vs[k]?=some v):∃ d bs,ds[k]?=some d/\Rd H h v d bs/\∀ a ∈ bs,a ∈ as:=by
 have hk:k < ds.length:=by rw [<- r.length];exact (Qq e).1
 refine byG λX_ g_=>?_;obtain ⟨w,bs,e1,r1,q⟩:=r.get (Qk hk);refine g_ ?_;rw [e] at e1;cases e1;exact ⟨_,bs,Qk hk,r1,q⟩
theorem RdAll.drop{h:Heap}{vs:List Value}{ds:List D}{as:List Addr}(k:Nat)(r:RdAll H h vs ds as):∃ bs,RdAll H h (vs.drop k) (ds.drop k) bs/\∀ a ∈ bs,a ∈ as:=
 r.ind (M:=λvs ds as=>∀ k:Nat,∃ bs,RdAll H h (vs.drop k) (ds.drop k) bs/\∀ a ∈ bs,a ∈ as) (λk=>⟨[],by rw [List.drop_nil,List.drop_nil];exact .nil,λo_ q=>q⟩) (λv vs d ds as bs h1 h2 i k=>by
  cases k with
  | zero=>exact ⟨_,.cons h1 h2,λo_ q=>q⟩
  | succ k=>obtain ⟨cs,r,q⟩:=i k;exact ⟨cs,r,λa m=>Zy _ (q a m)⟩) k
theorem RdAll.take{h:Heap}{vs:List Value}{ds:List D}{as:List Addr}(k:Nat)(r:RdAll H h vs ds as):∃ bs,RdAll H h (vs.take k) (ds.take k) bs/\∀ a ∈ bs,a ∈ as:=
 r.ind (M:=λvs ds as=>∀ k:Nat,∃ bs,RdAll H h (vs.take k) (ds.take k) bs/\∀ a ∈ bs,a ∈ as) (λk=>⟨[],by rw [List.take_nil,List.take_nil];exact .nil,λo_ q=>q⟩) (λv vs d ds as bs h1 h2 i k=>by
  cases k with
  | zero=>exact ⟨[],.nil,λo_ q=>nomatch q⟩
  | succ k=>
   obtain ⟨cs,r,q⟩:=i k;exact ⟨_,.cons h1 r,λa m=>(QY m).elim (λm=>Q6 _ m) λm=>Zy _ (q a m)⟩) k
theorem RdAll.one{h:Heap}{v:Value}{d:D}{as:List Addr}(r:Rd H h v d as):RdAll H h [v] [d] as:=by simpa using RdAll.cons r .nil
theorem RdAll.reverse{h:Heap}{vs:List Value}{ds:List D}{as:List Addr}(r:RdAll H h vs ds as):∃ bs,RdAll H h vs.reverse ds.reverse bs/\∀ a ∈ bs,a ∈ as:=
 r.ind (M:=λvs ds as=>∃ bs,RdAll H h vs.reverse ds.reverse bs/\∀ a ∈ bs,a ∈ as) ⟨[],.nil,λo_ q=>q⟩ λv vs d ds as bs h1 h2 i=>by
  obtain ⟨cs,r,q⟩:=i;rw [Z2,Z2];refine ⟨_,r.append (RdAll.one h1),λa m=>?_⟩;rcases QY m with m | m
  ·exact Zy _ (q a m)
  ·exact Q6 _ m
theorem RdAll.set{h:Heap}{v:Value}{d:D}(r:Rd H h v d []){vs:List Value}{ds:List D}{as:List Addr}(k:Nat)(ra:RdAll H h vs ds as)(e:as=[]):RdAll H h (vs.set k v) (ds.set k d) []:=
 ra.ind (M:=λvs ds as=>∀ k:Nat,as=[]->RdAll H h (vs.set k v) (ds.set k d) []) (λk o_=>by rw [List.set_nil,List.set_nil];exact .nil) (λv0 vs d0 ds as bs h1 h2 i k e=>by
  obtain ⟨e1,e2⟩:=List.append_eq_nil_iff.mp e;subst e1;subst e2;cases k with
  | zero=>exact .cons r h2
  | succ k=>exact .cons h1 (i k rfl)) k e
theorem RdAll.dropLast{h:Heap}{vs:List Value}{ds:List D}{as:List Addr}(r:RdAll H h vs ds as):∃ bs,RdAll H h vs.dropLast ds.dropLast bs/\∀ a ∈ bs,a ∈ as:=by
 rw [Xe,Xe,r.length];exact r.take _
theorem Rd.listE{h:Heap}{xs:List D}{motive:(v:Value)->(as:List Addr)->Rd H h v (.list xs) as->Prop}(mk:∀ {a:Addr} {vs:Array Value} {n:Nat} {as:List Addr} (h1:h.get? a=some (listObj vs n)) (h2:vs.size<=sizeLine) (h3:RdAll H h vs.toList xs as),motive (.ref a) (a::as) (.list h1 h2 h3)){v:Value}{as:List Addr}(rd:Rd H h v (.list xs) as):motive v as rd:=by
 cases rd with
 | list h1 h2 h3=>exact mk h1 h2 h3
theorem Rd.tupleE{h:Heap}{xs:List D}{motive:(v:Value)->(as:List Addr)->Rd H h v (.tuple xs) as->Prop}(mk:∀ {a:Addr} {vs:Array Value} {n:Nat} {as:List Addr} (h1:h.get? a=some (tupObj vs n)) (h2:vs.size<=sizeLine) (h3:RdAll H h vs.toList xs as),motive (.ref a) as (.tuple h1 h2 h3)){v:Value}{as:List Addr}(rd:Rd H h v (.tuple xs) as):motive v as rd:=by
 cases rd with
 | tuple h1 h2 h3=>exact mk h1 h2 h3
theorem Rd.intE{h:Heap}{i:Int}{motive:(v:Value)->(as:List Addr)->Rd H h v (.int i) as->Prop}(mk:∀ t:Tok,motive (.int i t) [] (.int i t)){v:Value}{as:List Addr}(rd:Rd H h v (.int i) as):motive v as rd:=by
 cases rd with
 | int _ t=>exact mk t
theorem Rd.strE{h:Heap}{x:Str}{motive:(v:Value)->(as:List Addr)->Rd H h v (.str x) as->Prop}(mk:∀ (t:Tok) (hz:x.length<=sizeLine) (ho:PyData.strOk x=true),motive (.str x t) [] (.str x t hz ho)){v:Value}{as:List Addr}(rd:Rd H h v (.str x) as):motive v as rd:=by
 cases rd with
 | str _ t hz ho=>exact mk t hz ho
end
end Mine
set_option tactic.hygienic false
namespace Mine
open PySem
section
variable {α:Type}{x:α}{d:Option α}
noncomputable def p8(e:PySem.Expr)(k:Const->Nat->Pos->Option α)(d:Option α):Option α:=if h:e.ctorIdx=19 then PySem.Expr.Constant.elim (motive_1:=λ_=>Option α) e h k else d
theorem lj{k:Const->Nat->Pos->Option α}{e:PySem.Expr}{G:PySem.Expr->Prop}(h:p8 e k d=some x)(g:∀ a b c,k a b c=some x->G (.Constant a b c))(g2:d=some x->G e):G e:=
 if q:e.ctorIdx=19 then PySem.Expr.Constant.elim (motive_1:=λe=>p8 e k d=some x->G e) e q g h else g2 ((Zi q).symm.trans h)
noncomputable def mj(e:PySem.Expr)(k:Str->Pos->Option α)(d:Option α):Option α:=if h:e.ctorIdx=23 then PySem.Expr.Name.elim (motive_1:=λ_=>Option α) e h k else d
theorem fy{k:Str->Pos->Option α}{e:PySem.Expr}{G:PySem.Expr->Prop}(h:mj e k d=some x)(g:∀ a b,k a b=some x->G (.Name a b))(g2:d=some x->G e):G e:=
 if q:e.ctorIdx=23 then PySem.Expr.Name.elim (motive_1:=λe=>mj e k d=some x->G e) e q g h else g2 ((Zi q).symm.trans h)
noncomputable def nE(e:PySem.Expr)(k:List PySem.Expr->Nat->Pos->Option α)(d:Option α):Option α:=if h:e.ctorIdx=25 then PySem.Expr.Tuple.elim (motive_1:=λ_=>Option α) e h k else d
theorem ic{k:List PySem.Expr->Nat->Pos->Option α}{e:PySem.Expr}{G:PySem.Expr->Prop}(h:nE e k d=some x)(g:∀ a b c,k a b c=some x->G (.Tuple a b c))(g2:d=some x->G e):G e:=
 if q:e.ctorIdx=25 then PySem.Expr.Tuple.elim (motive_1:=λe=>nE e k d=some x->G e) e q g h else g2 ((Zi q).symm.trans h)
noncomputable def to(e:PySem.Expr)(k:List PySem.Expr->Pos->Option α)(d:Option α):Option α:=if h:e.ctorIdx=24 then PySem.Expr.List.elim (motive_1:=λ_=>Option α) e h k else d
theorem p9{k:List PySem.Expr->Pos->Option α}{e:PySem.Expr}{G:PySem.Expr->Prop}(h:to e k d=some x)(g:∀ a b,k a b=some x->G (.List a b))(g2:d=some x->G e):G e:=
 if q:e.ctorIdx=24 then PySem.Expr.List.elim (motive_1:=λe=>to e k d=some x->G e) e q g h else g2 ((Zi q).symm.trans h)
noncomputable def tq(e:PySem.Expr)(k:PySem.Expr->Operator->PySem.Expr->Pos->Option α)(d:Option α):Option α:=if h:e.ctorIdx=2 then PySem.Expr.BinOp.elim (motive_1:=λ_=>Option α) e h k else d
theorem qa{k:PySem.Expr->Operator->PySem.Expr->Pos->Option α}{e:PySem.Expr}{G:PySem.Expr->Prop}(h:tq e k d=some x)(g:∀ a b c d,k a b c d=some x->G (.BinOp a b c d))(g2:d=some x->G e):G e:=
 if q:e.ctorIdx=2 then PySem.Expr.BinOp.elim (motive_1:=λe=>tq e k d=some x->G e) e q g h else g2 ((Zi q).symm.trans h)
noncomputable def tt(e:PySem.Expr)(k:UnaryOp->PySem.Expr->Pos->Option α)(d:Option α):Option α:=if h:e.ctorIdx=3 then PySem.Expr.UnaryOp.elim (motive_1:=λ_=>Option α) e h k else d
theorem qb{k:UnaryOp->PySem.Expr->Pos->Option α}{e:PySem.Expr}{G:PySem.Expr->Prop}(h:tt e k d=some x)(g:∀ a b c,k a b c=some x->G (.UnaryOp a b c))(g2:d=some x->G e):G e:=
 if q:e.ctorIdx=3 then PySem.Expr.UnaryOp.elim (motive_1:=λe=>tt e k d=some x->G e) e q g h else g2 ((Zi q).symm.trans h)
noncomputable def tu(e:PySem.Expr)(k:BoolOp->List PySem.Expr->Pos->Option α)(d:Option α):Option α:=if h:e.ctorIdx=0 then PySem.Expr.BoolOp.elim (motive_1:=λ_=>Option α) e h k else d
theorem qc{k:BoolOp->List PySem.Expr->Pos->Option α}{e:PySem.Expr}{G:PySem.Expr->Prop}(h:tu e k d=some x)(g:∀ a b c,k a b c=some x->G (.BoolOp a b c))(g2:d=some x->G e):G e:=
 if q:e.ctorIdx=0 then PySem.Expr.BoolOp.elim (motive_1:=λe=>tu e k d=some x->G e) e q g h else g2 ((Zi q).symm.trans h)
noncomputable def tv(e:PySem.Expr)(k:PySem.Expr->List CmpOp->List PySem.Expr->Pos->Option α)(d:Option α):Option α:=if h:e.ctorIdx=15 then PySem.Expr.Compare.elim (motive_1:=λ_=>Option α) e h k else d
theorem qd{k:PySem.Expr->List CmpOp->List PySem.Expr->Pos->Option α}{e:PySem.Expr}{G:PySem.Expr->Prop}(h:tv e k d=some x)(g:∀ a b c d,k a b c d=some x->G (.Compare a b c d))(g2:d=some x->G e):G e:=
 if q:e.ctorIdx=15 then PySem.Expr.Compare.elim (motive_1:=λe=>tv e k d=some x->G e) e q g h else g2 ((Zi q).symm.trans h)
noncomputable def nF(e:PySem.Expr)(k:PySem.Expr->PySem.Expr->Pos->Option α)(d:Option α):Option α:=if h:e.ctorIdx=21 then PySem.Expr.Subscript.elim (motive_1:=λ_=>Option α) e h k else d
theorem ig{k:PySem.Expr->PySem.Expr->Pos->Option α}{e:PySem.Expr}{G:PySem.Expr->Prop}(h:nF e k d=some x)(g:∀ a b c,k a b c=some x->G (.Subscript a b c))(g2:d=some x->G e):G e:=
 if q:e.ctorIdx=21 then PySem.Expr.Subscript.elim (motive_1:=λe=>nF e k d=some x->G e) e q g h else g2 ((Zi q).symm.trans h)
noncomputable def mn(e:PySem.Expr)(k:PySem.Expr->List PySem.Expr->List Keyword->Pos->Option α)(d:Option α):Option α:=if h:e.ctorIdx=16 then PySem.Expr.Call.elim (motive_1:=λ_=>Option α) e h k else d
theorem fz{k:PySem.Expr->List PySem.Expr->List Keyword->Pos->Option α}{e:PySem.Expr}{G:PySem.Expr->Prop}(h:mn e k d=some x)(g:∀ a b c d,k a b c d=some x->G (.Call a b c d))(g2:d=some x->G e):G e:=
 if q:e.ctorIdx=16 then PySem.Expr.Call.elim (motive_1:=λe=>mn e k d=some x->G e) e q g h else g2 ((Zi q).symm.trans h)
noncomputable def tw(e:PySem.Expr)(k:PySem.Expr->List Comprehension->Scope->Pos->Option α)(d:Option α):Option α:=if h:e.ctorIdx=8 then PySem.Expr.ListComp.elim (motive_1:=λ_=>Option α) e h k else d
theorem qf{k:PySem.Expr->List Comprehension->Scope->Pos->Option α}{e:PySem.Expr}{G:PySem.Expr->Prop}(h:tw e k d=some x)(g:∀ a b c d,k a b c d=some x->G (.ListComp a b c d))(g2:d=some x->G e):G e:=
 if q:e.ctorIdx=8 then PySem.Expr.ListComp.elim (motive_1:=λe=>tw e k d=some x->G e) e q g h else g2 ((Zi q).symm.trans h)
noncomputable def tx(e:PySem.Expr)(k:List (Option PySem.Expr)->List PySem.Expr->Pos->Option α)(d:Option α):Option α:=if h:e.ctorIdx=6 then PySem.Expr.Dict.elim (motive_1:=λ_=>Option α) e h k else d
theorem qg{k:List (Option PySem.Expr)->List PySem.Expr->Pos->Option α}{e:PySem.Expr}{G:PySem.Expr->Prop}(h:tx e k d=some x)(g:∀ a b c,k a b c=some x->G (.Dict a b c))(g2:d=some x->G e):G e:=
 if q:e.ctorIdx=6 then PySem.Expr.Dict.elim (motive_1:=λe=>tx e k d=some x->G e) e q g h else g2 ((Zi q).symm.trans h)
noncomputable def qh(e:PySem.Expr)(k:PySem.Expr->Str->Pos->Option α)(d:Option α):Option α:=if h:e.ctorIdx=20 then PySem.Expr.Attribute.elim (motive_1:=λ_=>Option α) e h k else d
theorem lk{k:PySem.Expr->Str->Pos->Option α}{e:PySem.Expr}{G:PySem.Expr->Prop}(h:qh e k d=some x)(g:∀ a b c,k a b c=some x->G (.Attribute a b c))(g2:d=some x->G e):G e:=
 if q:e.ctorIdx=20 then PySem.Expr.Attribute.elim (motive_1:=λe=>qh e k d=some x->G e) e q g h else g2 ((Zi q).symm.trans h)
noncomputable def tz(e:PySem.Expr)(k:Option PySem.Expr->Option PySem.Expr->Option PySem.Expr->Pos->Option α)(d:Option α):Option α:=if h:e.ctorIdx=26 then PySem.Expr.Slice.elim (motive_1:=λ_=>Option α) e h k else d
theorem qi{k:Option PySem.Expr->Option PySem.Expr->Option PySem.Expr->Pos->Option α}{e:PySem.Expr}{G:PySem.Expr->Prop}(h:tz e k d=some x)(g:∀ a b c d,k a b c d=some x->G (.Slice a b c d))(g2:d=some x->G e):G e:=
 if q:e.ctorIdx=26 then PySem.Expr.Slice.elim (motive_1:=λe=>tz e k d=some x->G e) e q g h else g2 ((Zi q).symm.trans h)
noncomputable def onAs(e:PySem.Stmt)(k:List PySem.Expr->PySem.Expr->Pos->Option α)(d:Option α):Option α:=if h:e.ctorIdx=5 then PySem.Stmt.Assign.elim (motive_2:=λ_=>Option α) e h k else d
theorem nG{k:List PySem.Expr->PySem.Expr->Pos->Option α}{e:PySem.Stmt}{G:PySem.Stmt->Prop}(h:onAs e k d=some x)(g:∀ a b c,k a b c=some x->G (.Assign a b c))(g2:d=some x->G e):G e:=
 if q:e.ctorIdx=5 then PySem.Stmt.Assign.elim (motive_2:=λe=>onAs e k d=some x->G e) e q g h else g2 ((Zi q).symm.trans h)
noncomputable def onEx(e:PySem.Stmt)(k:PySem.Expr->Pos->Option α)(d:Option α):Option α:=if h:e.ctorIdx=24 then PySem.Stmt.Expr.elim (motive_2:=λ_=>Option α) e h k else d
theorem nH{k:PySem.Expr->Pos->Option α}{e:PySem.Stmt}{G:PySem.Stmt->Prop}(h:onEx e k d=some x)(g:∀ a b,k a b=some x->G (.Expr a b))(g2:d=some x->G e):G e:=
 if q:e.ctorIdx=24 then PySem.Stmt.Expr.elim (motive_2:=λe=>onEx e k d=some x->G e) e q g h else g2 ((Zi q).symm.trans h)
noncomputable def onIf(e:PySem.Stmt)(k:PySem.Expr->List PySem.Stmt->List PySem.Stmt->Pos->Option α)(d:Option α):Option α:=if h:e.ctorIdx=12 then PySem.Stmt.If.elim (motive_2:=λ_=>Option α) e h k else d
theorem j7{k:PySem.Expr->List PySem.Stmt->List PySem.Stmt->Pos->Option α}{e:PySem.Stmt}{G:PySem.Stmt->Prop}(h:onIf e k d=some x)(g:∀ a b c d,k a b c d=some x->G (.If a b c d))(g2:d=some x->G e):G e:=
 if q:e.ctorIdx=12 then PySem.Stmt.If.elim (motive_2:=λe=>onIf e k d=some x->G e) e q g h else g2 ((Zi q).symm.trans h)
noncomputable def onWh(e:PySem.Stmt)(k:PySem.Expr->List PySem.Stmt->List PySem.Stmt->Pos->Option α)(d:Option α):Option α:=if h:e.ctorIdx=11 then PySem.Stmt.While.elim (motive_2:=λ_=>Option α) e h k else d
theorem tA{k:PySem.Expr->List PySem.Stmt->List PySem.Stmt->Pos->Option α}{e:PySem.Stmt}{G:PySem.Stmt->Prop}(h:onWh e k d=some x)(g:∀ a b c d,k a b c d=some x->G (.While a b c d))(g2:d=some x->G e):G e:=
 if q:e.ctorIdx=11 then PySem.Stmt.While.elim (motive_2:=λe=>onWh e k d=some x->G e) e q g h else g2 ((Zi q).symm.trans h)
noncomputable def onFo(e:PySem.Stmt)(k:PySem.Expr->PySem.Expr->List PySem.Stmt->List PySem.Stmt->Pos->Option α)(d:Option α):Option α:=if h:e.ctorIdx=9 then PySem.Stmt.For.elim (motive_2:=λ_=>Option α) e h k else d
theorem tB{k:PySem.Expr->PySem.Expr->List PySem.Stmt->List PySem.Stmt->Pos->Option α}{e:PySem.Stmt}{G:PySem.Stmt->Prop}(h:onFo e k d=some x)(g:∀ a b c d e,k a b c d e=some x->G (.For a b c d e))(g2:d=some x->G e):G e:=
 if q:e.ctorIdx=9 then PySem.Stmt.For.elim (motive_2:=λe=>onFo e k d=some x->G e) e q g h else g2 ((Zi q).symm.trans h)
noncomputable def onRe(e:PySem.Stmt)(k:Option PySem.Expr->Pos->Option α)(d:Option α):Option α:=if h:e.ctorIdx=3 then PySem.Stmt.Return.elim (motive_2:=λ_=>Option α) e h k else d
theorem tC{k:Option PySem.Expr->Pos->Option α}{e:PySem.Stmt}{G:PySem.Stmt->Prop}(h:onRe e k d=some x)(g:∀ a b,k a b=some x->G (.Return a b))(g2:d=some x->G e):G e:=
 if q:e.ctorIdx=3 then PySem.Stmt.Return.elim (motive_2:=λe=>onRe e k d=some x->G e) e q g h else g2 ((Zi q).symm.trans h)
noncomputable def onRa(e:PySem.Stmt)(k:Option PySem.Expr->Option PySem.Expr->Pos->Option α)(d:Option α):Option α:=if h:e.ctorIdx=16 then PySem.Stmt.Raise.elim (motive_2:=λ_=>Option α) e h k else d
theorem tE{k:Option PySem.Expr->Option PySem.Expr->Pos->Option α}{e:PySem.Stmt}{G:PySem.Stmt->Prop}(h:onRa e k d=some x)(g:∀ a b c,k a b c=some x->G (.Raise a b c))(g2:d=some x->G e):G e:=
 if q:e.ctorIdx=16 then PySem.Stmt.Raise.elim (motive_2:=λe=>onRa e k d=some x->G e) e q g h else g2 ((Zi q).symm.trans h)
end
structure TC where
 names:List Str
 kind:Str->Option NameKind
noncomputable def slotOf:List Str->Str->Option Nat
 | [],_=>none
 | y::r,x=>match slotOf r x with
  | some i=>some (i+1)
  | none=>if y == x then some 0 else none
theorem qj(x:Str):slotOf [] x=none:=rfl
theorem cC(x:Str)(y:Str)(r:List Str):slotOf (y::r) x=match slotOf r x with | some i=>some (i+1) | none=>if (y == x)=true then some 0 else none:=rfl
noncomputable def kindC(scope:Scope)(kind:Str->Option NameKind)(x:Str):Option NameKind:=
 match scope.names.lookup x with
 | some .free=>if kind x == some .cell then some .cell else some .free
 | k=>k
noncomputable def tyOf(x:Str):Option Ty:=
 if x == ("list" : Str) then some .list else if x == ("tuple" : Str) then some .tuple else if x == ("str" : Str) then some .str
 else if x == ("int" : Str) then some .int else if x == ("bool" : Str) then some .bool else none
noncomputable def b1Of(x:Str):Option B1:=
 if x == ("len" : Str) then some .len
 else if x == ("all" : Str) then some .all
 else if x == ("any" : Str) then some .any
 else if x == ("list" : Str) then some .list else if x == ("tuple" : Str) then some .tuple
 else if x == ("int" : Str) then some .int
 else none
noncomputable def okOp:Operator->Bool
 | .Add | .Sub | .Mult | .FloorDiv | .Mod | .Pow=>true
 | _=>false
noncomputable def ll(scope:Scope)(kind:Str->Option NameKind)(xs:List Str):Bool:=
 scope.kind == .function&&scope.names.all (λy=>y.2 != .cell) &&
 scope.names.all (λy=>y.2 != .local||scope.names.lookup y.1 == some .local) &&
 scope.names.all (λy=>y.2 != .free||kind y.1 == some .cell) &&
 scope.names.all (λy=>y.2 != .local||xs.contains y.1||y.1 == (".0" : Str)) &&
 xs.all λx=>scope.names.lookup x == some .local
noncomputable def isSet(e:PySem.Expr):Bool:=Nat.beq e.ctorIdx 7
noncomputable def isStar(e:PySem.Expr):Bool:=Nat.beq e.ctorIdx 22
noncomputable def cU(e:PySem.Expr):Bool:=Nat.beq e.ctorIdx 26
noncomputable def cK(e:PySem.Expr):Option Str:=mj e (λx _=>some x) none
noncomputable def lm(e:PySem.Expr):Option (Str × Str × Pos):=qh e (λo nm apos=>(cK o).map λx=>(x,nm,apos)) none
noncomputable def fN(e:PySem.Expr):Option (Str × List PySem.Expr):=mn e (λfn args kws _=>if kws.isEmpty then (cK fn).map λg=>(g,args) else none) none
noncomputable def slOf(e:PySem.Expr):Option (Option PySem.Expr × Option PySem.Expr):=tz e (λlo hi st _=>if st.isNone then some (lo,hi) else none) none
noncomputable def qk(fn:PySem.Expr)(args:List PySem.Expr)(kws:List Keyword)(cpos:Pos):Option (Str × PySem.Expr):=
 (lm fn).bind λq=>if q.2.1 == ("index" : Str)&&kws.isEmpty&&q.2.2.endLine == cpos.line then (match args with
  | [x]=>if isStar x then none else some (q.1,x)
  | _=>none) else none
section
variable (ff:Str->Option Bool)(gcs:Str->Bool)
noncomputable def glob(c:TC)(x:Str):Bool:=c.kind x == some .globalImplicit&&x != ("__debug__" : Str)
noncomputable def i8(c:TC)(x:Str):Option Ex:=
 if x == ("__debug__" : Str) then none else
 match c.kind x with
 | some .local=>(slotOf c.names x).map .v
 | some .cell=>(slotOf c.names x).map .v
 | some .globalImplicit=>if gcs x then some (.gc x) else none
 | _=>none
noncomputable def trEs(f:PySem.Expr->Option Ex):List PySem.Expr->Option Exs
 | []=>some .nil
 | e::r=>if isStar e then none else (f e).bind λa=>(trEs f r).map λb=>.cons a b
theorem vf(f:Expr->Option Ex):trEs f []=some Exs.nil:=rfl
theorem vg(f:Expr->Option Ex)(e:Expr)(r:List Expr):trEs f (e::r)=if isStar e=true then none else (f e).bind λ(a:Ex)=>Option.map (λ(b:Exs)=>Exs.cons a b) (trEs f r):=rfl
noncomputable def trO(f:PySem.Expr->Option Ex):Option PySem.Expr->Option Exo
 | none=>some .none
 | some e=>(f e).map .some
theorem xa(f:Expr->Option Ex):trO f none=some Exo.none:=rfl
theorem xb(f:Expr->Option Ex)(e:Expr):trO f (some e)=Option.map Exo.some (f e):=rfl
noncomputable def i9(f:PySem.Expr->Option Ex):List PySem.Expr->Option It
 | [x]=>if isStar x then none else (f x).map .range1
 | [x,y]=>if isStar x||isStar y then none else (f x).bind λa=>(f y).map λb=>.range2 a b
 | _=>none
noncomputable def nI(c:TC)(e:PySem.Expr):Option (List PySem.Expr):=(fN e).bind λq=>if glob c q.1&&q.1 == ("range" : Str) then some q.2 else none
noncomputable def tF(f:PySem.Expr->Option Ex)(c:TC)(e:PySem.Expr):Option It:=
 match nI c e with
 | some args=>i9 f args
 | none=>(f e).map .plain
noncomputable def tG(f:PySem.Expr->Option Ex)(c:TC)(g:Str):List PySem.Expr->Option It
 | [x]=>if glob c g&&g == ("enumerate" : Str)&&!isStar x then (f x).map .enum else none
 | [x,y]=>if glob c g&&g == ("zip" : Str)&&!isStar x&&!isStar y then (f x).bind λa=>(f y).map λb=>.zip a b else none
 | _=>none
noncomputable def vh(f:PySem.Expr->Option Ex)(c:TC)(e:PySem.Expr):Option It:=(fN e).bind λq=>tG f c q.1 q.2
noncomputable def trIt(f:PySem.Expr->Option Ex)(c:TC)(xs:List Str)(e:PySem.Expr):Option It:=
 match xs with
 | [_]=>tF f c e
 | [_,_]=>vh f c e
 | _=>none
noncomputable def vi:List PySem.Expr->Option PySem.Expr
 | [y]=>if isStar y then none else some y
 | _=>none
noncomputable def nJ(c:TC)(x:PySem.Expr):Option PySem.Expr:=(fN x).bind λq=>if q.1 == ("reversed" : Str)&&glob c q.1 then vi q.2 else none
noncomputable def trC1(f:PySem.Expr->Option Ex)(c:TC)(g:Str)(x:PySem.Expr):Option Ex:=
 if isStar x then none else match (if g == ("list" : Str) then nJ c x else none) with
 | some y=>(f y).map λa=>.b1 .listrev a
 | none=>(b1Of g).bind λb=>(f x).map λa=>.b1 b a
noncomputable def xc(f:PySem.Expr->Option Ex)(c:TC):List PySem.Expr->Option Ex
 | [a,t]=>(cK t).bind λt=>if glob c t&&!isStar a then (tyOf t).bind λty=>(f a).map λb=>.isi b ty else none
 | _=>none
noncomputable def ln(f:PySem.Expr->Option Ex)(c:TC)(g:Str)(args:List PySem.Expr):Option Ex:=
 if !glob c g then none else
 if g == ("isinstance" : Str) then xc f c args else
 match ff g with
 | some fr=>if args.length<=20&&!args.isEmpty then (trEs f args).map λes=>.call fr g es else none
 | none=>match args with
  | [x]=>trC1 f c g x
  | _=>none
noncomputable def ii:List PySem.Expr->Option (List Str)
 | [a,b]=>(cK a).bind λx=>(cK b).bind λy=>if x == y then none else some [x,y]
 | _=>none
noncomputable def dt(e:PySem.Expr):Option (List Str):=mj e (λx _=>some [x]) (nE e (λes _ _=>ii es) none)
noncomputable def tH(f:PySem.Expr->Option Ex):List PySem.Expr->Option Exo
 | []=>some .none
 | [q]=>(f q).map .some
 | _=>none
noncomputable def trK:Const->Option D
 | .none=>some .none
 | .bool b=>some (.bool b)
 | .int i=>some (.int i)
 | .str x=>some (.str x)
 | _=>none
noncomputable def trUn:UnaryOp->Option Ex->Option Ex
 | .USub,a=>a.map .neg
 | .Not,a=>a.map .not
 | _,_=>none
noncomputable def vj(f:PySem.Expr->Option Ex)(l:PySem.Expr):List CmpOp->List PySem.Expr->Option Ex
 | [op],[r]=>if isSet r then none else (f l).bind λa=>(f r).map λb=>.cmp op a b
 | [o1,o2],[r1,r2]=>if lastMarks [o1,o2] [r1,r2] then none else (f l).bind λa=>(f r1).bind λb=>(f r2).map λc=>.cmp2 o1 o2 a b c
 | _,_=>none
noncomputable def tI(f:PySem.Expr->Option Ex)(v i:PySem.Expr):Option Ex:=
 match slOf i with
 | some q=>(f v).bind λa=>(trO f q.1).bind λl=>(trO f q.2).map λh=>.sl a l h
 | none=>if cU i then none else (f v).bind λa=>(f i).map λb=>.idx a b
noncomputable def nK(fr:TC->PySem.Expr->Option Ex)(c:TC)(elt:PySem.Expr)(scope:Scope):List Comprehension->Option Ex
 | [g]=>if g.is_async != 0||isSet g.iter||c.names.contains (".0" : Str) then none else (dt g.target).bind λxs=>
  if ll scope c.kind xs&&!xs.contains (".0" : Str) then (trIt (fr c) c xs g.iter).bind λit=>(fr ⟨c.names++xs,kindC scope c.kind⟩ elt).bind λa=>
   (tH (fr ⟨c.names++xs,kindC scope c.kind⟩) g.ifs).map λb=>.comp a it b else none
 | _=>none
noncomputable def vm(f:PySem.Expr->Option Ex):List (Option PySem.Expr)->List PySem.Expr->Option Ex
 | [],[]=>some (.dic .nil .nil)
 | [k],[v]=>k.bind λk=>(f k).bind λa=>(f v).map λb=>.dic (.cons a .nil) (.cons b .nil)
 | _,_=>none
noncomputable def trE1(f:TC->PySem.Expr->Option Ex)(c:TC)(e:PySem.Expr):Option Ex:=
 p8 e (λk _ _=>(trK k).map .k) <|
 mj e (λx _=>i8 gcs c x) <|
 nE e (λes _ _=>if es.length<=100 then (trEs (f c) es).map .tup else none) <|
 to e (λes _=>if es.length<=100 then (trEs (f c) es).map .lst else none) <|
 tq e (λl op r _=>if okOp op then (f c l).bind λa=>(f c r).map λb=>.bin op a b else none) <|
 tt e (λop x _=>trUn op (f c x)) <|
 tu e (λop vs _=>if vs.isEmpty then none else (trEs (f c) vs).map λes=>.bool (op == .And) es) <|
 tv e (λl ops rs _=>vj (f c) l ops rs) <|
 nF e (λv i _=>tI (f c) v i) <|
 mn e (λfn args kws cpos=>match qk fn args kws cpos with
  | some q=>(i8 gcs c q.1).bind λa=>(f c q.2).map λb=>.index a b
  | none=>(fN (.Call fn args kws cpos)).bind λq=>ln ff (f c) c q.1 q.2) <|
 tw e (λelt gens scope _=>nK f c elt scope gens) <|
 tx e (λks vs _=>vm (f c) ks vs) none
noncomputable def trE:Nat->TC->PySem.Expr->Option Ex
 | 0,_,_=>none
 | n+1,c,e=>trE1 ff gcs (trE n) c e
noncomputable def varOf(c:TC)(x:Str):Option Nat:=
 if x == ("__debug__" : Str) then none else
 match c.kind x with
 | some .local=>slotOf c.names x
 | some .cell=>slotOf c.names x
 | _=>none
noncomputable def nM(f:PySem.Expr->Option Ex)(c:TC)(x:Str)(nm:Str)(args:List PySem.Expr):Option Sm:=
 (varOf c x).bind λi=>
  if nm == ("append" : Str) then (match args with
   | [a]=>if isStar a then none else (f a).map λb=>.app i b
   | _=>none)
  else if nm == ("pop" : Str) then (match args with
   | []=>some (.pop i)
   | _=>none)
  else if nm == ("reverse" : Str) then (match args with
   | []=>some (.rev i)
   | _=>none)
  else none
noncomputable def isComp(e:PySem.Expr):Bool:=Nat.ble 8 e.ctorIdx&&Nat.ble e.ctorIdx 10
noncomputable def xe(c:TC)(value:PySem.Expr):List Str->Option Sm
 | [x,y]=>(varOf c x).bind λi=>(varOf c y).bind λj=>(trE ff gcs 40 c value).map λe=>.unp i j e
 | _=>none
noncomputable def vn(c:TC)(value t:PySem.Expr):Option Sm:=
 mj t (λx _=>(varOf c x).bind λi=>(trE ff gcs 40 c value).map λe=>.asg i e) <|
 nF t (λo ix _=>(cK o).bind λx=>if cU ix||isComp value then none else (varOf c x).bind λi=>(trE ff gcs 40 c value).bind λe=>(trE ff gcs 40 c ix).map λk=>.seti i k e) <|
 nE t (λes _ _=>if (cK value).isSome then (ii es).bind λxs=>xe ff gcs c value xs else none) none
noncomputable def trX(c:TC)(value:PySem.Expr):Option Sm:=
 mn value (λfn args kws cpos=>match lm fn with
  | some q=>if kws.isEmpty&&q.2.2.endLine == cpos.line then nM (trE ff gcs 40 c) c q.1 q.2.1 args else none
  | none=>if (cK fn).isSome then (trE ff gcs 40 c (.Call fn args kws cpos)).map .ex else none) none
noncomputable def tJ(f:PySem.Expr->Option Ex)(c:TC)(tgt iter:PySem.Expr)(b:Option Sms):Option Sm:=
 if isSet iter then none else (dt tgt).bind λxs=>(trIt f c xs iter).bind λit=>b.bind λb=>(match xs with
  | [x]=>(varOf c x).map λi=>.for1 i it b
  | [x,y]=>(varOf c x).bind λi=>(varOf c y).map λj=>.for2 i j it b
  | _=>none)
noncomputable def trA1(c:TC)(value:PySem.Expr):List PySem.Expr->Option Sm
 | [t]=>vn ff gcs c value t
 | _=>none
noncomputable def trS(g:List PySem.Stmt->Option Sms)(c:TC)(st:PySem.Stmt):Option Sm:=
 onAs st (λts value _=>trA1 ff gcs c value ts) <|
 onEx st (λvalue _=>trX ff gcs c value) <|
 onIf st (λtest body orelse _=>(trE ff gcs 40 c test).bind λq=>(g body).bind λa=>(g orelse).map λb=>.ite q a b) <|
 onWh st (λtest body orelse _=>if orelse.isEmpty then (trE ff gcs 40 c test).bind λq=>(g body).map λa=>.wh q a else none) <|
 onFo st (λtgt iter body orelse _=>if orelse.isEmpty then tJ (trE ff gcs 40 c) c tgt iter (g body) else none) <|
 onRe st (λvalue _=>value.bind λv=>(trE ff gcs 40 c v).map .ret) <|
 onRa st (λ_ _ _=>some .stuck) none
noncomputable def one1{α:Type}:List α->Option α
 | [x]=>some x
 | _=>none
noncomputable def cInt(e:PySem.Expr):Option Int:=p8 e (λk _ _=>(trK k).bind int1) none
noncomputable def tapA(x:Str)(st:PySem.Stmt):Option Bool:=
 onEx st (λvalue _=>mn value (λfn args kws cpos=>qh fn (λo nm apos=>nF o (λv ix _=>(cK v).bind λx'=>(cInt ix).bind λn=>(one1 args).bind λa=>(cInt a).bind λk=>
  if x' == x&&n == 2&&k == 1&&nm == ("append" : Str)&&kws.isEmpty&&apos.endLine == cpos.line then some true else none) none) none) none) none
noncomputable def hdS:List PySem.Stmt->Option (PySem.Stmt × List PySem.Stmt)
 | s::r=>some (s,r)
 | []=>none
noncomputable def vo(g:List PySem.Stmt->Option Sms)(c:TC)(s1 s2 s3:PySem.Stmt):Option Sm:=
 onAs s1 (λts value _=>(one1 ts).bind λt=>(cK t).bind λx=>(varOf c x).bind λi=>(fN value).bind λq=>(one1 q.2).bind λa=>(cK a).bind λy=>(varOf c y).bind λj=>(ff q.1).bind λ_=>if glob c q.1 then
  onIf s2 (λt1 b1 o1 _=>if o1.isEmpty then (trE ff gcs 40 c t1).bind λc1=>(g b1).bind λk1=>
   onIf s3 (λt2 b2 o2 _=>if o2.isEmpty then (hdS b2).bind λp=>(tapA x p.1).bind λ_=>(trE ff gcs 40 c t2).bind λc2=>(g p.2).map λk2=>.tap i j q.1 c1 k1 c2 k2 else none) none else none) none else none) none
noncomputable def nN(g:List PySem.Stmt->Option Sms)(c:TC)(s1:PySem.Stmt)(r:List PySem.Stmt):Option (Sm × List PySem.Stmt):=
 (hdS r).bind λp=>(hdS p.2).bind λq=>(vo ff gcs g c s1 p.1 q.1).map λa=>(a,q.2)
noncomputable def trSs:Nat->TC->List PySem.Stmt->Option Sms
 | _,_,[]=>some .nil
 | 0,_,_=>none
 | n+1,c,s::r=>match nN ff gcs (trSs n c) c s r with
  | some q=>(trSs n c q.2).map λb=>.cons q.1 b
  | none=>(trS ff gcs (trSs n c) c s).bind λa=>(trSs n c r).map λb=>.cons a b
end
end Mine
set_option tactic.hygienic true
namespace Mine
open PySem
noncomputable def nO(w:World)(e:EnK):Int:=reduceHash (Builtin.Tuple.tupleHashOf [hashStr w e.1,hashStr w e.2.1,hashInt e.2.2.1,hashStr w e.2.2.2.1,reduceHash (if e.2.2.2.2 then 1 else 0)])
noncomputable def cL(w:World)(p:StK):Int:=reduceHash (Builtin.Tuple.tupleHashOf [hashInt p.1,reduceHash (Builtin.Tuple.tupleHashOf (p.2.map (nO w)))])
end Mine
set_option tactic.hygienic false
namespace Mine
open PySem
noncomputable def nm(ow:List Nat)(e:Ex):Bool:=!isOw ow e
noncomputable def nmEs(ow:List Nat):Exs->Bool
 | .nil=>true
 | .cons e es=>nm ow e&&nmEs ow es
noncomputable def sp:D->Bool
 | .str x=>decide (x.length<=1000)&&PyData.strOk x
 | _=>true
mutual
noncomputable def okE(ow:List Nat):Ex->Bool
 | .k d=>noList d&&sp d
 | .v _=>true
 | .gc _=>true
 | .tup es=>okEs ow es&&nmEs ow es
 | .lst es=>okEs ow es&&nmEs ow es
 | .dic a b=>okEs ow a&&okEs ow b
 | .bin _ a b=>okE ow a&&okE ow b
 | .neg a=>okE ow a
 | .not a=>okE ow a
 | .bool _ es=>okEs ow es&&nmEs ow es
 | .cmp _ a b=>okE ow a&&okE ow b
 | .cmp2 _ _ a b c=>okE ow a&&okE ow b&&okE ow c
 | .idx a b=>okE ow a&&okE ow b
 | .sl a l h=>okE ow a&&okO ow l&&okO ow h
 | .call fr _ es=>okEs ow es&&(fr||nmEs ow es)
 | .b1 _ a=>okE ow a
 | .isi a _=>okE ow a
 | .index a b=>okE ow a&&okE ow b
 | .comp e it c=>okE ow e&&nm ow e&&okIt ow it&&okO ow c
noncomputable def okEs(ow:List Nat):Exs->Bool
 | .nil=>true
 | .cons e es=>okE ow e&&okEs ow es
noncomputable def okO(ow:List Nat):Exo->Bool
 | .none=>true
 | .some e=>okE ow e
noncomputable def okIt(ow:List Nat):It->Bool
 | .plain e=>okE ow e
 | .range1 e=>okE ow e
 | .range2 a b=>okE ow a&&okE ow b
 | .enum e=>okE ow e
 | .zip a b=>okE ow a&&okE ow b
end
theorem xf(ow:List Nat)(e:Ex):okO ow (Exo.some e)=okE ow e:=rfl
theorem vp(ow:List Nat)(e:Ex):okIt ow (It.plain e)=okE ow e:=rfl
theorem vq(ow:List Nat)(e:Ex):okIt ow (It.range1 e)=okE ow e:=rfl
theorem vr(ow:List Nat)(a:Ex)(b:Ex):okIt ow (It.range2 a b)=(okE ow a&&okE ow b):=rfl
theorem vt(ow:List Nat)(e:Ex):okIt ow (It.enum e)=okE ow e:=rfl
theorem vw(ow:List Nat)(a b:Ex):okIt ow (.zip a b)=(okE ow a&&okE ow b):=rfl
theorem o_k(ow:List Nat)(d:D):okE ow (.k d)=(noList d&&sp d):=rfl
theorem vx(ow:List Nat)(es:Exs):okE ow (.tup es)=(okEs ow es&&nmEs ow es):=rfl
theorem vy(ow:List Nat)(es:Exs):okE ow (.lst es)=(okEs ow es&&nmEs ow es):=rfl
theorem vz(ow:List Nat)(op:Operator)(a b:Ex):okE ow (.bin op a b)=(okE ow a&&okE ow b):=rfl
theorem vA(ow:List Nat)(a:Ex):okE ow (.neg a)=okE ow a:=rfl
theorem tK(ow:List Nat)(a:Ex):okE ow (.not a)=okE ow a:=rfl
theorem nP(ow:List Nat)(q:Bool)(es:Exs):okE ow (.bool q es)=(okEs ow es&&nmEs ow es):=rfl
theorem tL(ow:List Nat)(op:CmpOp)(a b:Ex):okE ow (.cmp op a b)=(okE ow a&&okE ow b):=rfl
theorem vB(ow:List Nat)(a b:Ex):okE ow (.idx a b)=(okE ow a&&okE ow b):=rfl
theorem o_sl(ow:List Nat)(a:Ex)(l h:Exo):okE ow (.sl a l h)=(okE ow a&&okO ow l&&okO ow h):=rfl
theorem sq(ow:List Nat)(fr:Bool)(f:Str)(es:Exs):okE ow (.call fr f es)=(okEs ow es&&(fr||nmEs ow es)):=rfl
theorem o_b1(ow:List Nat)(f:B1)(a:Ex):okE ow (.b1 f a)=okE ow a:=rfl
theorem vC(ow:List Nat)(a:Ex)(t:Ty):okE ow (.isi a t)=okE ow a:=rfl
theorem xg(ow:List Nat)(a b:Exs):okE ow (.dic a b)=(okEs ow a&&okEs ow b):=rfl
theorem su(ow:List Nat)(e:Ex)(it:It)(c:Exo):okE ow (.comp e it c)=(okE ow e&&nm ow e&&okIt ow it&&okO ow c):=rfl
structure FR where
 params:Arguments
 body:List Stmt
 scope:Scope
noncomputable def biNames:List Str:=["len", "all", "any", "sum", "list", "tuple", "int", "isinstance", "str", "bool", "reversed", "range", "enumerate", "zip"]
structure Pk where
 prog:Program
 w:World
 H:D->Int
 mg:Str->Option Value
 mb:Str->Option Value
 Φ:Str->List D->Option D
 Γ:Str->Option D
 defs:Str->Option FR
 fr:Str->Option Bool
noncomputable def nQ(P:Pk):Prop:=(∀ x:Str,P.H (.str x)=hashStr P.w x)/\∀ p:StK,P.H (stK p)=cL P.w p
structure Pk.GP(P:Pk)(h:Heap):Prop where
 g:h.Ns mainGlobals P.mg
 b:h.Ns builtinsNs P.mb
 nolimit:h.NoLimit
 fn:∀ f r,P.defs f=some r->∃ a o pm code doc,P.mg f=some (.ref a)/\h.get? a=some o/\o.data = .func (Calls.docDef f r.params r.body r.scope pm code doc)/\h.CodeRec code f
 gc:∀ x d,P.Γ x=some d->noList d=true/\∃ v,P.mg x=some v/\Rd P.H h v d []
 bi:∀ x ∈ biNames,P.mg x=none
 bb:∀ x:Str,x ≠ "__name__" -> P.mb x=bootBuiltins x
 hs:nQ P
theorem Pk.GP.keeps{P:Pk}{h h':Heap}(g:P.GP h)(hk:∀ b o,h.get? b=some o->h'.get? b=some o):P.GP h' where
 g:=g.g.keeps hk
 b:=g.b.keeps hk
 nolimit:=g.nolimit.keeps hk
 fn:=λf r e=>by obtain ⟨a,o,pm,code,doc,h1,h2,h3,h4⟩:=g.fn f r e;exact ⟨a,o,pm,code,doc,h1,hk _ _ h2,h3,h4.keeps hk⟩
 gc:=λx d e=>⟨(g.gc x d e).1,(g.gc x d e).2.imp λv h=>⟨h.1,h.2.keeps hk⟩⟩
 bi:=g.bi
 bb:=g.bb
 hs:=g.hs
structure Room(A:Around)(r:Nat):Prop where
 hd:A.handled=none
 depth:A.depth+r+60 < recursionLimit
 units:A.units+4 * r+300 < cLine
noncomputable def VarAt(env:Env)(h:Heap)(x:Str)(v:Value):Prop:=
 (env.kindOf x=some .local/\∃ mm,h.Ns env.locals mm/\mm x=some v)\/(env.kindOf x=some .cell/\∃ c,env.cells.lookup x=some c/\h.IsCell c (some v))
structure EnvR(H:D->Int)(c:TC)(env:Env)(ow:List Nat)(own:Nat->Addr)(G:Addr->Prop)(h:Heap)(m:St):Prop where
 fn:env.scope.kind = .function
 gl:env.globals=mainGlobals
 bu:env.builtins=builtinsNs
 kd:∀ x,env.kindOf x=c.kind x
 len:m.length=c.names.length
 owlt:∀ i,ow.contains i=true->i < m.length
 cel:∀ x,env.kindOf x=some .cell->∃ a,env.cells.lookup x=some a
 var:∀ x i d,slotOf c.names x=some i->m[i]?=some (some d)->(c.kind x=some .local\/c.kind x=some .cell) ->
  ∃ v as,VarAt env h x v/\Rd H h v d as/\(ow.contains i=true->flat d=true/\∀ a ∈ as,a=own i)/\(ow.contains i=false->∀ a ∈ as,G a)
theorem VarAt.keeps{env:Env}{h h':Heap}{x:Str}{v:Value}(q:VarAt env h x v)(hk:∀ b o,h.get? b=some o->h'.get? b=some o):VarAt env h' x v:=
 q.imp (λ⟨a,mm,b,c⟩=>⟨a,mm,b.keeps hk,c⟩) λ⟨a,cc,b,c⟩=>⟨a,cc,b,c.keeps hk⟩
theorem EnvR.keeps{H:D->Int}{c:TC}{env:Env}{ow:List Nat}{own:Nat->Addr}{G:Addr->Prop}{h h':Heap}{m:St}(R:EnvR H c env ow own G h m)
 (hk:∀ b o,h.get? b=some o->h'.get? b=some o):EnvR H c env ow own G h' m where
 fn:=R.fn
 gl:=R.gl
 bu:=R.bu
 kd:=R.kd
 len:=R.len
 owlt:=R.owlt
 cel:=R.cel
 var:=λx i d h1 h2 h3=>(R.var x i d h1 h2 h3).imp λv q=>q.imp λas q=>⟨q.1.keeps hk,q.2.1.keeps hk,q.2.2⟩
noncomputable def Kp(s s':Shared):Prop:=PySem.Keeps s s'
theorem Kp.refl(s:Shared):Kp s s:=⟨s.heap,s.toks,rfl,λ_ _ e=>e⟩
theorem Kp.trans{a b c:Shared}(h:Kp a b)(k:Kp b c):Kp a c:=by
 obtain ⟨h1,t1,rfl,k1⟩:=h;obtain ⟨h2,t2,rfl,k2⟩:=k;exact ⟨h2,t2,rfl,λb o e=>k2 b o (k1 b o e)⟩
theorem Kp.get{a b:Shared}(h:Kp a b):∀ x o,a.heap.get? x=some o->b.heap.get? x=some o:=by
 refine byG λX_ g_=>?_;obtain ⟨h1,t1,rfl,k1⟩:=h;refine g_ ?_;exact k1
theorem Kp.none{a b:Shared}(h:Kp a b){x:Addr}(e:b.heap.get? x=none):a.heap.get? x=none:=by
 cases q:a.heap.get? x with
 | none=>rfl
 | some o=>rw [h.get x o q] at e;cases e
theorem Kp.toks(s:Shared)(t:Nat):Kp s { s with toks:=t }:=⟨s.heap,t,rfl,λ_ _ e=>e⟩
theorem Kp.heap(s:Shared)(h:Heap)(hk:∀ b o,s.heap.get? b=some o->h.get? b=some o):Kp s { s with heap:=h }:=⟨h,s.toks,rfl,hk⟩
theorem Kp.push(s:Shared)(o:Obj):Kp s { s with heap:=s.heap.push o }:=⟨_,s.toks,rfl,λ_ _ e=>Qi _ e⟩
noncomputable def ownA(own:Nat->Addr):Ex->Addr
 | .v i=>own i
 | _=>0
noncomputable def PostE(P:Pk)(ow:List Nat)(own:Nat->Addr)(G:Addr->Prop)(e':Ex)(d:D)(s:Shared)(v:Value)(s':Shared):Prop:=
 Kp s s'/\∃ as,Rd P.H s'.heap v d as/\(isOw ow e'=false->∀ a ∈ as,G a)/\(isOw ow e'=true->flat d=true) /\
  (frE e'=true->flat d=true->∀ a ∈ as,s.heap.get? a=none)/\(isOw ow e'=true->∀ a ∈ as,a=ownA own e')
noncomputable def Pk.SE(P:Pk)(r:Nat)(c:TC)(e:PySem.Expr)(e':Ex):Prop:=
 ∀ (A:Around) (env:Env) (s:Shared) (m:St) (ow:List Nat) (own:Nat->Addr) (G:Addr->Prop) (d:D),Room A r->P.GP s.heap ->
  EnvR P.H c env ow own G s.heap m->(∀ a,s.heap.get? a=none->G a)->okE ow e'=true->evE P.Φ P.Γ e' m=some d ->
  wpAny (model P.prog P.w) A (eval e env) (PostE P ow own G e' d s) (λ_ _=>False) s
noncomputable def Pk.ST(P:Pk)(r:Nat)(c:TC)(e:PySem.Expr)(e':Ex):Prop:=
 ∀ (A:Around) (env:Env) (s:Shared) (m:St) (ow:List Nat) (own:Nat->Addr) (G:Addr->Prop) (d:D) (b:Bool),Room A r->P.GP s.heap ->
  EnvR P.H c env ow own G s.heap m->(∀ a,s.heap.get? a=none->G a)->okE ow e'=true->evE P.Φ P.Γ e' m=some d->truth d=some b ->
  wpAny (model P.prog P.w) A (isTrue e env (eval e env)) (λb' s'=>b'=b/\Kp s s') (λ_ _=>False) s
noncomputable def Pk.FnOk(P:Pk)(r:Nat):Prop:=
 ∀ f fr,P.fr f=some fr->∀ (A:Around) (s:Shared) (vs:List Value) (ds:List D) (as:List Addr) (d:D),Room A r->P.GP s.heap->RdAll P.H s.heap vs ds as->P.Φ f ds=some d ->
  ∃ a o fd,P.mg f=some (.ref a)/\s.heap.get? a=some o/\o.data = .func fd/\wpAny (model P.prog P.w) A (call (.ref a) vs)
   (λv s'=>Kp s s'/\∃ bs,Rd P.H s'.heap v d bs/\(∀ x ∈ bs,s.heap.get? x=none\/x ∈ as)/\(fr=true->∀ x ∈ bs,s.heap.get? x=none)) (λ_ _=>False) s
section
variable {P:Pk}{r:Nat}{c:TC}
theorem PostE.flat0{ow:List Nat}{own:Nat->Addr}{G:Addr->Prop}{e':Ex}{d:D}{s s':Shared}{v:Value}{as:List Addr}(k:Kp s s')(rd:Rd P.H s'.heap v d as)(hn:noList d=true)(hi:isOw ow e'=false):PostE P ow own G e' d s v s':=by
 have e:=rd.noAddr hn;subst e;exact ⟨k,[],rd,λ_ _ q=>(nomatch q),λq=>(by rw [hi] at q;cases q),λ_ _ _ q=>(nomatch q),λ_ _ q=>(nomatch q)⟩
theorem fO{k:Const}{kk:Nat}{pos:Pos}{d:D}(hk:trK k=some d):P.SE r c (.Constant k kk pos) (.k d):=by
 intro A env s m ow own G d' hA hg R hG hok hev;simp only [x_k,Qc] at hev;subst hev;rw [eval_Constant];cases k<;>first | (cases hk;done) | cases hk
 ·exact Qg (PostE.flat0 (Kp.refl s) .none rfl rfl)
 ·exact Qg (PostE.flat0 (Kp.refl s) (.bool _) rfl rfl)
 ·exact wpAny_mkInt (PostE.flat0 (Kp.toks s _) (.int _ _) rfl rfl)
 ·exact wpAny_mkText (PostE.flat0 (Kp.toks s _) (.str _ _ (QQ (Qp (Qz (Qz hok).2).1) (by decide)) (Qz (Qz hok).2).2) rfl rfl)
theorem fP{x:Str}{pos:Pos}{i:Nat}(hx:x ≠ ("__debug__" : Str))(hk:c.kind x=some .local\/c.kind x=some .cell)(hs:slotOf c.names x=some i):P.SE r c (.Name x pos) (.v i):=by
 intro A env s m ow own G d hA hg R hG hok hev;have hm:m[i]?=some (some d):=by
  simp only [x_v] at hev;cases q:m[i]? with
  | none=>rw [q] at hev;cases hev
  | some y=>rw [q] at hev;simp only [bX] at hev;rw [hev]
 refine byG λX_ g_=>?_;obtain ⟨v,as,hv,rd,h1,h2⟩:=R.var x i d hs hm hk;refine g_ ?_;have post:PostE P ow own G (.v i) d s v s:=⟨Kp.refl s,as,rd,λq=>h2 q,λq=>(h1 q).1,λq=>(by cases q),λq=>(h1 q).2⟩
 refine wpAny_Name ?_ (by simpa using hx);rcases hv with ⟨hl,mm,hn,hv⟩ | ⟨hl,cc,hc,hv⟩
 ·exact wpAny_loadName_local R.fn hl hn hv post
 ·exact wpAny_loadName_cell R.fn hl hc hv post
theorem xh{x:Str}{pos:Pos}(hx:x ≠ ("__debug__" : Str))(hk:c.kind x=some .globalImplicit):P.SE r c (.Name x pos) (.gc x):=by
 intro A env s m ow own G d hA hg R hG hok hev;simp only [x_gc] at hev;refine byG λX_ g_=>?_;obtain ⟨hn,v,hv,rd⟩:=hg.gc x d hev;refine g_ ?_;exact YU R.fn ((R.kd x).trans hk) (Calls.loadGlobal_global (by rw [R.gl];exact hg.g) hv (PostE.flat0 (Kp.refl s) rd hn rfl)) (by simpa using hx)
end
end Mine
set_option tactic.hygienic false
namespace Mine
open PySem
section
variable {H:D->Int}{prog:Program}{w:World}
inductive KvR (H:D->Int):List (Str × Value)->List (D × D)->Prop
 | nil:KvR H [] []
 | cons {x:Str} {v:Value} {d:D} {l:List (Str × Value)} {r:List (D × D)}:x.length<=sizeLine->PyData.strOk x=true->isScalar d=true->(∀ h:Heap,Rd H h v d [])->KvR H l r->KvR H ((x,v)::l) ((.str x,d)::r)
theorem lp(x:Str):strK (.str x)=some x:=rfl
theorem Rd.scal{h:Heap}{v:Value}{d:D}{as:List Addr}(r:Rd H h v d as)(hs:isScalar d=true):as=[]/\∀ h':Heap,Rd H h' v d []:=by
 cases r<;>first
  | (cases hs;done)
  | exact ⟨rfl,λo_=>.none⟩
  | exact ⟨rfl,λo_=>.bool _⟩
  | exact ⟨rfl,λo_=>.int _ _⟩
  | exact ⟨rfl,λo_=>.str _ _ (by assumption) (by assumption)⟩
theorem xi(hH:∀ x:Str,H (.str x)=hashStr w x){h:Heap}:∀ (kvs:List (D × D)) (es:List DictEntry) (ks:List Str),RdKv H h es kvs->mh kvs=some ks->(kvs.all λp=>isScalar p.2)=true ->
 ∃ l,Pairs (strKind prog w) es l/\KvR H l kvs/\l.map (·.1)=ks/\∀ e ∈ es,∃ k,(strKind prog w).is k e.key=true/\e.hash=(strKind prog w).hash k:=by
 intro kvs;induction kvs with
 | nil=>
  intro es ks r hk _;cases r;cases hk;exact ⟨[],.nil,.nil,rfl,λe he=>nomatch he⟩
 | cons p kvs ih=>
  intro es ks r hk hs;obtain ⟨k,d⟩:=p;cases r with
  | @cons e es _ _ _ r1 r2 r3 r4=>
   refine aa hk λx e1 hk2=>?_;obtain ⟨xs,e2,rfl⟩:=ae hk2;rw [List.all_cons,Qj] at hs;have hkx:k = .str x:=by cases k<;>first | (cases e1;done) | (cases e1;rfl)
   subst hkx;obtain ⟨l,h1,h2,h3,h4⟩:=ih es xs r4 e2 hs.2;generalize hkey:e.key=kv at r1;cases r1 using Rd.strE with
   | mk t hz ho=>
    have his:(strKind prog w).is x e.key=true:=by rw [hkey];simp [strKind,Value.isStrOf]
    refine ⟨(x,e.val)::l,.cons his rfl h1,.cons hz ho hs.1 (r2.scal hs.1).2 h2,by rw [QX,h3],λe' he'=>?_⟩;rcases Qw he' with q | q
    ·subst q;exact ⟨x,his,by rw [r3,hH];rfl⟩
    ·exact h4 e' q
theorem tM(hH:∀ x:Str,H (.str x)=hashStr w x){h:Heap}:∀ {es:List DictEntry} {l:List (Str × Value)} {kvs:List (D × D)},Pairs (strKind prog w) es l->(∀ e ∈ es,∃ k,(strKind prog w).is k e.key=true/\e.hash=(strKind prog w).hash k)->KvR H l kvs->RdKv H h es kvs:=by
 intro es l kvs hp;induction hp generalizing kvs with
 | nil=>intro _ k;cases k;exact .nil
 | @cons e kv es l h1 h2 h3 ih=>
  intro hk k;obtain ⟨x,v⟩:=kv;cases k with
  | @cons _ _ d _ r hz ho hs rv kr=>
   obtain ⟨t,ht⟩:=Value.isStrOf_shape (show Value.isStrOf x e.key=true from h1);obtain ⟨k',hk1,hk2⟩:=hk e (.head _);have:k'=x:=Value.isStrOf_inj e.key k' x hk1 h1;subst this;refine .cons (by rw [ht];exact .str _ t hz ho) (by rw [h2];exact rv h) (by rw [hk2,hH];rfl) (ih (λe' he'=>hk e' (.tail _ he')) kr)
theorem KvR.has{l:List (Str × Value)}{kvs:List (D × D)}(k:KvR H l kvs)(x:Str):(l.any λkv=>decide (kv.1=x))=dHas x kvs:=by
 induction k with
 | nil=>rfl
 | @cons y v d l r _ _ _ _ _ ih=>
  unfold dHas at ih ⊢;rw [YQ,YQ,ih];congr 1
theorem KvR.app{l m:List (Str × Value)}{kvs r:List (D × D)}(k:KvR H l kvs)(q:KvR H m r):KvR H (l++m) (kvs++r):=by
 induction k with
 | nil=>exact q
 | cons a b c d _ ih=>exact .cons a b c d ih
set_option tactic.hygienic true in
theorem KvR.put{l:List (Str × Value)}{kvs:List (D × D)}(k:KvR H l kvs){x:Str}{v:Value}{d:D}(hz:x.length<=sizeLine)(ho:PyData.strOk x=true)(hs:isScalar d=true)(rv:∀ h:Heap,Rd H h v d []):KvR H (stored l x v) (dPut x d kvs):=by
 unfold stored dPut;have hh:=k.has x;have hb:(l.any λkv=>decide (kv.1=x))=l.any (λkv=>kv.1=x):=rfl;rw [<- hh];split
 ·clear hh hb
  induction k with
  | nil=>exact .nil
  | @cons y u e l r a b c dd kk ih=>
   rw [QX,QX];have hi:KvR H (l.map λkv=>if kv.1=x then (kv.1,v) else kv) (r.map λp=>if strK p.1 == some x then (p.1,d) else p):=by
    clear ih;rename_i hany;clear hany;induction kk with
    | nil=>exact .nil
    | @cons y u e l r a b c dd kk ih=>
     rw [QX,QX]
     by_cases h:y=x
     ·simp only [h,lp,Zh,if_true];exact .cons (h ▸ a) (h ▸ b) hs rv ih
     ·have:(some y == some x)=false:=by simpa using h
      simp only [h,lp,this,if_false,QD];exact .cons a b c dd ih
   by_cases h:y=x
   ·simp only [h,lp,Zh,if_true];exact .cons (h ▸ a) (h ▸ b) hs rv hi
   ·have:(some y == some x)=false:=by simpa using h
    simp only [h,lp,this,if_false,QD];exact .cons a b c dd hi
 ·exact k.app (.cons hz ho hs rv .nil)
theorem KvR.len{l:List (Str × Value)}{kvs:List (D × D)}(k:KvR H l kvs):l.length=kvs.length:=by
 induction k with
 | nil=>rfl
 | cons _ _ _ _ _ ih=>simp [ih]
theorem sv(hH:∀ x:Str,H (.str x)=hashStr w x){h:Heap}{v:Value}{kvs:List (D × D)}{as:List Addr}(r:Rd H h v (.dict kvs) as)(ok:dictOk kvs=true):∃ a l,v = .ref a/\as=[a]/\a ≠ sysModules/\h.DictOf (strKind prog w) a l/\KvR H l kvs:=by
 cases r with
 | @dict a es n _ h0 h1 h2=>
  unfold dictOk at ok;rw [Qj] at ok;cases hk:mh kvs with
  | none=>rw [hk] at ok;cases ok.1
  | some ks=>
   rw [hk] at ok;refine byG λX_ g_=>?_;obtain ⟨l,q1,q2,q3,q4⟩:=xi (prog:=prog) hH kvs es.toList ks h2 hk ok.2;refine g_ ?_;exact ⟨a,l,rfl,rfl,h0,⟨_,es,n,h1,⟨rfl,rfl,rfl⟩,rfl,λe he=>q4 e (Array.mem_def.mp he),q1,by rw [q3];simpa using ok.1⟩,q2⟩
theorem lq(hH:∀ x:Str,H (.str x)=hashStr w x){h:Heap}{a:Addr}{l:List (Str × Value)}{kvs:List (D × D)}(hd:h.DictOf (strKind prog w) a l)(k:KvR H l kvs)(h0:a ≠ sysModules):∃ es n,h.get? a=some (dictObj es n)/\Rd H h (.ref a) (.dict kvs) [a]:=by
 refine byG λX_ g_=>?_;obtain ⟨⟨cls,di,data,sl⟩,es,ep,ho,⟨c1,c2,c3⟩,hdat,hk,hp,_⟩:=hd;refine g_ ?_;simp only at c1 c2 c3 hdat;subst c1 c2 c3 hdat;exact ⟨es,ep,ho,.dict h0 ho (tM hH hp (λe he=>hk e (Array.mem_def.mpr he)) k)⟩
theorem tN{l:List (Str × Value)}{kvs:List (D × D)}(k:KvR H l kvs):flat (.dict kvs)=true:=by
 show eL kvs=true;induction k with
 | nil=>rfl
 | @cons x v d l r _ _ c _ _ ih=>
  have:noList d=true:=by cases d<;>first | rfl | cases c
  show (noList (.str x)&&noList d&&eL r)=true;rw [ih,this];rfl
theorem fQ{l:List (Str × Value)}{kvs:List (D × D)}(k:KvR H l kvs)(x:Str):(valueAt l x).isSome=dHas x kvs:=by
 rw [<- k.has x];unfold valueAt;rw [Option.isSome_map];rw [ZZ,List.find?_isSome,Q2]
end
end Mine
set_option tactic.hygienic false
namespace Mine
open PySem
theorem aU(h:Heap):h.get? h.objs.size=none:=by
 cases q:h.get? h.objs.size with
 | none=>rfl
 | some o=>exact absurd (Q3 q) (Yd _)
theorem dO{α:Type}(xs:List α):∀ n,(repL xs n).length=n * xs.length
 | 0=>by simp [so]
 | n+1=>by rw [gH,QW,dO xs n,Nat.succ_mul,Nat.add_comm]
theorem nR{α:Type}(a:Array α):∀ (n:Nat) (b:Array α),(List.replicate n a).foldl (·++·) b=b++(repL a.toList n).toArray:=by
 intro n;induction n with
 | zero=>
  intro b;rfl
 | succ n ih_=>
  intro b;rw [List.replicate_succ,YH,ih_,gH,Array.append_assoc];congr 1
  apply Array.ext';simp
theorem ja{α:Type}(a:Array α)(n:Nat):(List.replicate n a).foldl (·++·) #[]=(repL a.toList n).toArray:=by rw [nR];simp
theorem nS(x:Str)(n:Int):PySem.Txt.mul x n=strMul x n.toNat:=by
 unfold PySem.Txt.mul strMul
 by_cases h1:n < 1
 ·rw [Ql h1]
  have:n.toNat=0:=Y5.mpr (Int.le_of_lt_add_one h1);rw [this];rfl
 ·rw [Qu h1]
  by_cases h2:n=1
  ·subst h2
   have:(1:Int).toNat=1:=rfl;simp [so,gH]
  ·by_cases h3:x.length=0
   ·have hx:x.cps = #[]:=by simpa [Str.length] using h3
    have e:∀ k,repL ([]:List Nat) k=[]:=λk=>by induction k with | zero=>rfl | succ k ih=>trivial
    obtain ⟨c⟩:=x;simp only at hx;subst hx;simp [Str.length,e]
   ·rw [Qu (by simp [h2,h3]),ja]
theorem jb{x y:Str}(hx:PyData.strOk x=true)(hy:PyData.strOk y=true):PyData.strOk (x++y)=true:=by
 unfold PyData.strOk at *;show (x.cps++y.cps).all _=true;rw [Array.all_append,hx,hy];rfl
theorem nT{x:Str}(hx:PyData.strOk x=true)(n:Nat):PyData.strOk (strMul x n)=true:=by
 unfold PyData.strOk strMul at *;simp only [List.all_toArray];rw [<- Array.all_toList] at hx;induction n with
 | zero=>rfl
 | succ n ih=>rw [gH,List.all_append,hx,ih];rfl
theorem ij(x:Str)(n:Nat):(strMul x n).length=n * x.length:=by
 unfold strMul Str.length;simp [dO]
section
variable {H:D->Int}{h:Heap}
theorem RdAll.rep{vs:List Value}{ds:List D}{as:List Addr}(r:RdAll H h vs ds as):∀ n,∃ bs,RdAll H h (repL vs n) (repL ds n) bs/\∀ a ∈ bs,a ∈ as
 | 0=>⟨[],.nil,λ_ q=>nomatch q⟩
 | n+1=>let ⟨bs,q,k⟩:=RdAll.rep r n;⟨as++bs,r.append q,λa m=>(QY m).elim id (k a)⟩
end
section
variable {P:Pk}{r:Nat}{A:Around}{s:Shared}
noncomputable def PostV(P:Pk)(s:Shared)(U:Addr->Prop)(d:D)(v:Value)(s':Shared):Prop:=
 Kp s s'/\∃ cs,Rd P.H s'.heap v d cs/\(∀ a ∈ cs,s.heap.get? a=none\/U a)/\(flat d=true->∀ a ∈ cs,s.heap.get? a=none)
theorem PostV.flat0{U:Addr->Prop}{d:D}{v:Value}{s':Shared}{cs:List Addr}(k:Kp s s')(rd:Rd P.H s'.heap v d cs)(hn:noList d=true):PostV P s U d v s':=by
 have e:=rd.noAddr hn;subst e;exact ⟨k,[],rd,λ_ q=>(nomatch q),λ_ _ q=>(nomatch q)⟩
theorem PostV.newList{U:Addr->Prop}{vs:Array Value}{n:Nat}{xs:List D}{cs:List Addr}(hz:vs.size<=sizeLine)(rd:RdAll P.H s.heap vs.toList xs cs)(hU:∀ a ∈ cs,s.heap.get? a=none\/U a) :
 PostV P s U (.list xs) (.ref s.heap.objs.size) { s with heap:=s.heap.push (listObj vs n) }:=by
 refine ⟨Kp.push s _,s.heap.objs.size::cs,.list (QL _ rfl) hz (rd.keeps λb o e=>Qi _ e),λa q=>?_,λhf a q=>?_⟩
 ·rcases Qw q with rfl | q
  ·exact .inl (aU _)
  ·exact hU a q
 ·have e:=rd.noAddr (hf)
  subst e;rw [Qx q];exact aU _
theorem PostV.newTuple{U:Addr->Prop}{vs:Array Value}{n:Nat}{xs:List D}{cs:List Addr}(hz:vs.size<=sizeLine)(rd:RdAll P.H s.heap vs.toList xs cs)(hU:∀ a ∈ cs,s.heap.get? a=none\/U a) :
 PostV P s U (.tuple xs) (.ref s.heap.objs.size) { s with heap:=s.heap.push (tupObj vs n) }:=by
 refine ⟨Kp.push s _,cs,.tuple (QL _ rfl) hz (rd.keeps λb o e=>Qi _ e),hU,λhf a q=>?_⟩;have e:=rd.noAddr hf;subst e;cases q
theorem addL{l b:Addr}{vs ws:Array Value}{n n2:Nat}{Q:Value->Shared->Prop}{E:Value->Shared->Prop}(ho:s.heap.get? l=some (listObj vs n))(ho2:s.heap.get? b=some (listObj ws n2))(hz:vs.size+ws.size<=sizeLine)
 (h:Q (.ref s.heap.objs.size) { s with heap:=s.heap.push (listObj (vs++ws) 0) }):wpAny (model P.prog P.w) A (binaryOp .Add (.ref l) (.ref b)) Q E s:=
 concat_meets ⟨_,ho,rfl⟩ ⟨_,ho2,rfl⟩ noFill_list_add seq_list_add PySem.F.slot_list_add PySem.F.entry_list_add (PySem.F.args_list_add_2 _ _) (PyProof.Rows.list_addW l b vs ws n n2 none none #[] #[] hz) ⟨ho,ho2,h⟩
theorem addT{l b:Addr}{vs ws:Array Value}{n n2:Nat}{Q:Value->Shared->Prop}{E:Value->Shared->Prop}(ho:s.heap.get? l=some (tupObj vs n))(ho2:s.heap.get? b=some (tupObj ws n2))(hz:vs.size+ws.size<=sizeLine)
 (h0:vs.isEmpty=true->Q (.ref b) s) (h1 : ¬vs.isEmpty=true->ws.isEmpty=true->Q (.ref l) s)
 (h2:Q (.ref s.heap.objs.size) { s with heap:=s.heap.push (tupObj (vs++ws) 0) }):wpAny (model P.prog P.w) A (binaryOp .Add (.ref l) (.ref b)) Q E s:=by
 by_cases hv:vs.isEmpty=true
 ·exact concat_meets ⟨_,ho,rfl⟩ ⟨_,ho2,rfl⟩ noFill_tuple_add seq_tuple_add XQ Xz (Y8 _ _)
   (PyProof.Rows.tuple_addW0 l b vs ws n n2 none none #[] #[] hv) ⟨ho,ho2,h0 hv⟩
 ·by_cases hw:ws.isEmpty=true
  ·exact concat_meets ⟨_,ho,rfl⟩ ⟨_,ho2,rfl⟩ noFill_tuple_add seq_tuple_add XQ Xz (Y8 _ _)
    (PyProof.Rows.tuple_addW1 l b vs ws n n2 none none #[] #[] hv hw) ⟨ho,ho2,h1 hv hw⟩
  ·exact concat_meets ⟨_,ho,rfl⟩ ⟨_,ho2,rfl⟩ noFill_tuple_add seq_tuple_add XQ Xz (Y8 _ _)
    (PyProof.Rows.tuple_addW2 l b vs ws n n2 none none #[] #[] hv hw hz) ⟨ho,ho2,h2⟩
theorem mulL{l:Addr}{items:Array Value}{k:Nat}{x:Int}{u:Tok}{Q:Value->Shared->Prop}{E:Value->Shared->Prop}
 (hl:s.heap.get? l=some (listObj items k)) (hlo : -(2 ^ 63:Int)<=x) (hhi:x < 2 ^ 63) (hsz:items.size * x.toNat<=2 ^ 24)
 (h:Q (.ref s.heap.objs.size) { s with heap:=s.heap.push (listObj (List.foldl (λx1 x2=>x1++x2) #[] (List.replicate (if items.isEmpty=true then 0 else x.toNat) items)) 0) }) :
 wpAny (model P.prog P.w) A (binaryOp .Mult (.ref l) (.int x u)) Q E s:=
 wpAny_binaryOp_repeat_ref (T := "list") (U := "int") (by decide) ⟨_,hl,rfl⟩ (λs'=>typeIs_int s' x u) noFill_list_mul F.fills_int_mul F.slot_int_rmul repeat_list F.slot_int_index.lookup
  (call_meets F.slot_int_rmul (typeIs_int s x u) F.entry_int_rmul (F.args_int_rmul_2 _ _) (int___rmul___int_list x u l items k)
   ⟨hl,rfl,⟨_,hl,rfl⟩,call_meets F.slot_list_mul ⟨_,hl,rfl⟩ F.entry_list_mul (F.args_list_mul_2 _ _)
    (AutoListH.list___mul___list_int_3 l items k x u (by simp [Builtin.List.listFitsIndex];lia) (by lia) (by simp [Builtin.List.listTooLong,sizeLine];(exact hsz)))
    ⟨hl,h⟩⟩)
theorem bW{x:D}{s:Str}(h:strK x=some s):x = .str s:=
 if q:x.ctorIdx=3 then PySem.PyData.str.elim (motive_1:=λx=>strK x=some s->x = .str s) x q (λi h=>Qf PyData.str (Qv h)) h else nomatch (Zi q).symm.trans h
theorem bD{x:D}{a:Int}(h:int1 x=some a):x = .int a:=
 if q:x.ctorIdx=2 then PySem.PyData.int.elim (motive_1:=λx=>int1 x=some a->x = .int a) x q (λi h=>Qf PyData.int (Qv h)) h else nomatch (Zi q).symm.trans h
theorem cu{x:D}{a:List D}(h:dI x=some a):x = .list a:=
 if q:x.ctorIdx=4 then PySem.PyData.list.elim (motive_1:=λx=>dI x=some a->x = .list a) x q (λi h=>Qf PyData.list (Qv h)) h else nomatch (Zi q).symm.trans h
theorem cv{x:D}{l:List D}(h:tupK x=some l):x = .tuple l:=
 if q:x.ctorIdx=5 then PySem.PyData.tuple.elim (motive_1:=λx=>tupK x=some l->x = .tuple l) x q (λi h=>Qf PyData.tuple (Qv h)) h else nomatch (Zi q).symm.trans h
theorem nU{x:D}{b:Bool}(h:bolK x=some b):x = .bool b:=
 if q:x.ctorIdx=1 then PySem.PyData.bool.elim (motive_1:=λx=>bolK x=some b->x = .bool b) x q (λi h=>Qf PyData.bool (Qv h)) h else nomatch (Zi q).symm.trans h
theorem mo{x:D}{a b:D}(h:tf x=some (a,b)):x = .tuple [a,b]:=by
 refine aa h λl e h=>?_;rw [cv e];cases l with
 | nil=>cases h
 | cons p l=>
  cases l with
  | nil=>cases h
  | cons q l=>
   cases l with
   | nil=>cases h;rfl
   | cons=>cases h
theorem eN{x y:D}{p:Int × Int}(h:bV x y=some p):x = .int p.1/\y = .int p.2:=by
 refine aa h λa e1 h=>?_;obtain ⟨b,e2,rfl⟩:=ae h;exact ⟨bD e1,bD e2⟩
theorem lr{a b x y m n:Nat}(e1:a=x)(e2:b=y)(hs:x+y<=m)(hz:m<=n):a+b<=n:=by
 subst e1 e2;exact QQ hs hz
theorem absL{a:Int}{n:Nat}(h:a.natAbs<=n) : -(n:Int)<=a/\a<=n:=
 have q:(a.natAbs:Int)<=n:=QB.mpr h
 ⟨Int.neg_le_of_neg_le (Qt (Int.natAbs_neg a ▸ Xi) q),Qt Xi q⟩
theorem absB{a:Int}(h:a.natAbs < 2 ^ 64) : -2 ^ 64 < a/\a < 2 ^ 64:=
 have q:(a.natAbs:Int) < 2 ^ 64:=QZ h
 ⟨Int.neg_lt_of_neg_lt (QH (Int.natAbs_neg a ▸ Xi) q),QH Xi q⟩
theorem gJ{a:Int}(h:smallI a=true):Builtin.Int.intBits a<=64:=by
 simp only [smallI,QE] at h;exact intBits_le_64 (absB (Qe h (by decide))).1 (absB (Qe h (by decide))).2
theorem nV{a b:Int}(h:mulOkI a b=true):IntMulOk a b:=by
 unfold mulOkI at h;rw [Ze] at h;rcases h with h | h
 ·exact .of_left (gJ h)
 ·exact .of_right (gJ h)
theorem bP{x y:Value}{dx dy:D}{as bs:List Addr}{H:D->Int}{h:Heap}{p:Int × Int}(rx:Rd H h x dx as)(ry:Rd H h y dy bs)(e:bV dx dy=some p):∃ t u,x = .int p.1 t/\y = .int p.2 u:=by
 obtain ⟨rfl,rfl⟩:=eN e;cases rx using Rd.intE with
 | mk t=>cases ry using Rd.intE with
  | mk u=>exact ⟨t,u,rfl,rfl⟩
set_option tactic.hygienic true in
theorem aM{p:Prop} [Decidable p] {α:Type} {a b:α} (h:(if p then some a else none)=some b):p/\a=b:=by
 split at h
 ·rename_i hp;cases h;exact ⟨hp,rfl⟩
 ·cases h
theorem nW{motive:D->D->D->Prop}(hi:∀ a b,motive (.int a) (.int b) (.int (a+b)))(hs:∀ x y:Str,x.length+y.length<=2 ^ 20->motive (.str x) (.str y) (.str (x++y)))
 (hl:∀ xs ys:List D,xs.length+ys.length<=2 ^ 20->motive (.list xs) (.list ys) (.list (xs++ys))) (ht:∀ xs ys:List D,xs.length+ys.length<=2 ^ 14->motive (.tuple xs) (.tuple ys) (.tuple (xs++ys))) :
 ∀ {dx dy d:D},addD dx dy=some d->motive dx dy d:=by
 intro dx dy d he;cases dx<;>first | (cases he;done) | skip
 all_goals (cases dy<;>first | (cases he;done) | skip)
 ·cases he;exact hi _ _
 ·obtain ⟨h,rfl⟩:=aM he;exact hs _ _ h
 ·obtain ⟨h,rfl⟩:=aM he;exact hl _ _ h
 ·obtain ⟨h,rfl⟩:=aM he;exact ht _ _ h
theorem tO{x y:Value}{dx dy d:D}{as bs:List Addr}(he:addD dx dy=some d)(rx:Rd P.H s.heap x dx as)(ry:Rd P.H s.heap y dy bs) :
 wpAny (model P.prog P.w) A (binaryOp .Add x y) (PostV P s (λa=>a ∈ inn dx as\/a ∈ inn dy bs) d) (λ_ _=>False) s:=by
 revert rx ry;refine nW (motive:=λdx dy d=>Rd P.H s.heap x dx as->Rd P.H s.heap y dy bs->wpAny (model P.prog P.w) A (binaryOp .Add x y) (PostV P s (λa=>a ∈ inn dx as\/a ∈ inn dy bs) d) (λ_ _=>False) s) ?_ ?_ ?_ ?_ he
 ·intro a b rx ry
  cases rx using Rd.intE;cases ry using Rd.intE
  exact PyProof.Rows.add_int (PostV.flat0 (Kp.toks s _) (.int _ _) rfl)
 ·intro x y hs rx ry
  cases rx using Rd.strE with
  | mk t hz1 ho1=>
   cases ry using Rd.strE with
   | mk u hz2 ho2=>
    exact PyProof.Rows.add_str (λt' tk=>PostV.flat0 (Kp.toks s _) (.str _ _ (Str.length_append _ _ ▸ (QQ hs (by decide))) (jb ho1 ho2)) rfl) (QQ hs (by decide))
 ·intro xs ys hs rx ry
  cases rx using Rd.listE with
  | mk h1 z1 r1=>
   cases ry using Rd.listE with
   | mk h2 z2 r2=>
    have e1:=r1.length;have e2:=r2.length;simp only [QJ] at e1 e2;have hz:(2:Nat) ^ 20<=sizeLine:=by decide
    refine addL h1 h2 (lr e1 e2 hs hz) ?_;exact PostV.newList (by rw [Array.size_append];exact lr e1 e2 hs hz) (by rw [Array.toList_append];exact r1.append r2) λa q=>.inr (QY q)
 ·intro xs ys hs rx ry
  cases rx using Rd.tupleE with
  | mk h1 z1 r1=>
   cases ry using Rd.tupleE with
   | mk h2 z2 r2=>
    have e1:=r1.length;have e2:=r2.length;simp only [QJ] at e1 e2;have hz:(2:Nat) ^ 14<=sizeLine:=by decide
    refine addT h1 h2 (lr e1 e2 hs hz) (λh0=>?_) (λ_ h0=>?_) ?_
    ·have ev:_ = #[]:=Y7.mp h0
     have ex:_=[]:=ZA.mp (by rw [<- e1,ev];rfl);subst ex;exact ⟨Kp.refl s,_,.tuple h2 z2 r2,λa q=>.inr (.inr q),λhf a q=>by
      rw [r2.noAddr hf] at q;cases q⟩
    ·have ex:_=[]:=ZA.mp (by rw [<- e2,(Y7.mp h0)];rfl)
     subst ex;rw [Xa];exact ⟨Kp.refl s,_,.tuple h1 z1 r1,λa q=>.inr (.inl q),λhf a q=>by
      rw [r1.noAddr hf] at q;cases q⟩
    ·exact PostV.newTuple (by rw [Array.size_append];exact lr e1 e2 hs hz) (by rw [Array.toList_append];exact r1.append r2) λa q=>.inr (QY q)
set_option tactic.hygienic true in
theorem nX{motive:D->D->D->Prop}(hi:∀ a b,mulOkI a b=true->motive (.int a) (.int b) (.int (a * b)))(hs:∀ (x:Str) (n:Int),x.length<=1000/\n<=1000/\-1000<=n->motive (.str x) (.int n) (.str (strMul x n.toNat)))
 (hl:∀ (xs:List D) (n:Int),xs.length<=1000/\n<=10000/\-10000<=n->motive (.list xs) (.int n) (.list (repL xs n.toNat)))
 : ∀ {dx dy d:D},mulD dx dy=some d->motive dx dy d:=by
 intro dx dy d he;cases dx<;>first | (cases he;done) | skip
 all_goals (cases dy<;>first | (cases he;done) | skip)
 ·obtain ⟨h,rfl⟩:=aM he;exact hi _ _ h
 ·obtain ⟨h,rfl⟩:=aM he;exact hs _ _ h
 ·obtain ⟨h,rfl⟩:=aM he;exact hl _ _ h
theorem tP(vs:Array Value)(n:Nat):(List.foldl (λx1 x2=>x1++x2) #[] (List.replicate (if vs.isEmpty=true then 0 else n) vs))=(repL vs.toList n).toArray:=by
 by_cases hv:vs.isEmpty=true
 ·rw [Ql hv]
  have ev:vs = #[]:=Y7.mp hv;subst ev;have en:∀ k,repL ([]:List Value) k=[]:=λk=>by
   induction k with
   | zero=>rfl
   | succ k ih=>exact ih
  rw [en];rfl
 ·rw [Qu hv];exact ja vs _
theorem tQ{x y:Value}{dx dy d:D}{as bs:List Addr}(he:mulD dx dy=some d)(rx:Rd P.H s.heap x dx as)(ry:Rd P.H s.heap y dy bs) :
 wpAny (model P.prog P.w) A (binaryOp .Mult x y) (PostV P s (λa=>a ∈ inn dx as\/a ∈ inn dy bs) d) (λ_ _=>False) s:=by
 revert rx ry;refine nX (motive:=λdx dy d=>Rd P.H s.heap x dx as->Rd P.H s.heap y dy bs->wpAny (model P.prog P.w) A (binaryOp .Mult x y) (PostV P s (λa=>a ∈ inn dx as\/a ∈ inn dy bs) d) (λ_ _=>False) s) (λa b hs rx ry=>?_) (λx n hs rx ry=>?_)
  (λxs n hs rx ry=>?_)
  he
 ·cases rx using Rd.intE;cases ry using Rd.intE
  exact PyProof.Rows.mul_int (PostV.flat0 (Kp.toks s _) (.int _ _) rfl) (nV hs)
 ·cases rx using Rd.strE with
  | mk t hz1 ho1=>
   cases ry using Rd.intE with
   | mk u=>
    have hl:x.length * n.toNat<=1000 * 1000:=Nat.mul_le_mul hs.1 (Zo.mpr hs.2.1);refine PySem.SB.mul ⟨?_,λh1 _=>?_,λh1 _=>?_⟩ λt' k=>?_
    ·simp only [YB,Zg]
     exact ⟨ZB.mpr (Qt (by decide) hs.2.2),Yr.mpr (QH hs.2.1 (by decide))⟩
    ·have hn:0 < n:=Zf (by decide) (ZB.mp h1)
     have:=Int.le_ediv_of_mul_le hn (Qt (Int.mul_le_mul (QB.mpr hs.1) hs.2.1 (XX hn) (by decide)) (by decide:(1000 * 1000:Int)<=2 ^ 63 - 1));exact ZB.mpr this
    ·unfold Builtin.Str.tooLong
     exact Zk (Z7.mpr (QQ hl (by decide)))
    ·rw [nS]
     refine PostV.flat0 (Kp.toks s _) (.str _ _ ?_ (nT ho1 _)) rfl;rw [ij,Nat.mul_comm];exact QQ hl (by decide)
 ·cases rx using Rd.listE with
  | @mk l vs k as' h1 z1 r1=>
   cases ry using Rd.intE with
   | mk u=>
    have e1:=r1.length;simp only [QJ] at e1;have hz:vs.size * n.toNat<=1000 * 10000:=Nat.mul_le_mul (e1 ▸ hs.1) (Zo.mpr hs.2.1);obtain ⟨bs,rr,hb⟩:=r1.rep n.toNat;refine mulL h1 (Qt (by decide) hs.2.2) (QH hs.2.1 (by decide)) (QQ hz (by decide)) ?_;rw [tP];refine PostV.newList ?_ rr λa q=>.inr (.inl (hb a q));rw [Ym,dO,QJ,Nat.mul_comm];exact QQ hz (by decide)
set_option tactic.hygienic true in
theorem bop{op:Operator}{x y:Value}{dx dy d:D}{as bs:List Addr}(rx:Rd P.H s.heap x dx as)(ry:Rd P.H s.heap y dy bs)(he:cz op dx dy=some d) :
 wpAny (model P.prog P.w) A (binaryOp op x y) (PostV P s (λa=>a ∈ inn dx as\/a ∈ inn dy bs) d) (λ_ _=>False) s:=by
 cases op with
 | Add=>exact tO he rx ry
 | Mult=>exact tQ he rx ry
 | Sub=>
  obtain ⟨p,e0,rfl⟩:=ae (show (bV dx dy).map (λp=>PyData.int (p.1 - p.2))=some d from he);obtain ⟨t,u,rfl,rfl⟩:=bP rx ry e0;exact PyProof.Rows.sub_int (PostV.flat0 (Kp.toks s _) (.int _ _) rfl)
 | FloorDiv=>
  refine aa (show ((bV dx dy).bind λp=>if p.2 ≠ 0/\p.2.natAbs < 1073741824 then some (PyData.int (p.1.fdiv p.2)) else none)=some d from he) λp e0 he=>?_;obtain ⟨t,u,rfl,rfl⟩:=bP rx ry e0;obtain ⟨hs,rfl⟩:=aM he;exact PyProof.Rows.floordiv_int hs.1 (PostV.flat0 (Kp.toks s _) (.int _ _) rfl) (.inl (PyProof.noPylong_small hs.2))
 | Mod=>
  refine aa (show ((bV dx dy).bind λp=>if p.2 ≠ 0 then some (PyData.int (p.1.fmod p.2)) else none)=some d from he) λp e0 he=>?_;obtain ⟨t,u,rfl,rfl⟩:=bP rx ry e0;obtain ⟨hs,rfl⟩:=aM he;exact PyProof.Rows.mod_int hs (PostV.flat0 (Kp.toks s _) (.int _ _) rfl)
 | Pow=>
  refine aa (show ((bV dx dy).bind λp=>if 0<=p.2/\p.2<=1000/\p.1.natAbs<=1000 then some (PyData.int (p.1 ^ p.2.toNat)) else none)=some d from he) λp e0 he=>?_;obtain ⟨t,u,rfl,rfl⟩:=bP rx ry e0;obtain ⟨hs,rfl⟩:=aM he;refine PyProof.Rows.pow_int hs.1 ?_ (PostV.flat0 (Kp.toks s _) (.int _ _) rfl);exact Qt (Int.mul_le_mul (QB.mpr (intBits_le_64 (absB (Qh hs.2.2 (by decide))).1 (absB (Qh hs.2.2 (by decide))).2)) hs.2.1 hs.1 (by decide)) (by decide)
 | _=>cases he
end
end Mine
set_option tactic.hygienic false
namespace Mine
open PySem
inductive LtV (q:Bool):List (Value × Value)->Prop
 | nil:false=q->LtV q []
 | eq (i:Int) (t u:Tok) (r:List (Value × Value)):LtV q r->LtV q ((.int i t,.int i u)::r)
 | lt (i j:Int) (t u:Tok) (r:List (Value × Value)):i ≠ j->decide (i < j)=q->LtV q ((.int i t,.int j u)::r)
theorem vD{H:D->Int}{h:Heap}{q:Bool}{vs:List Value}{xs:List D}{as:List Addr}(r1:RdAll H h vs xs as):∀ (ws:List Value) (ys:List D) (bs:List Addr),RdAll H h ws ys bs->bC xs ys=some q->LtV q (vs.zip ws):=by
 refine r1.ind (M:=λvs xs o_=>∀ (ws:List Value) (ys:List D) (bs:List Addr),RdAll H h ws ys bs->bC xs ys=some q->LtV q (vs.zip ws)) (λws ys bs r2 e=>?_) (λv vs d ds as1 as2 p1 t1 ih ws ys bs r2 e=>?_)
 ·cases r2 with
  | nil=>exact .nil (Qv e)
  | cons=>cases e
 ·cases r2 with
  | nil=>cases e
  | cons p2 t2=>
   obtain ⟨⟨i,j⟩,e1,hl⟩:=ct e;obtain ⟨t,u,rfl,rfl⟩:=bP p1 p2 e1
   by_cases hij:i=j
   ·subst hij
    exact .eq i t u _ (ih _ _ _ t2 ((Ql rfl).symm.trans hl))
   ·obtain ⟨_,_,e⟩:=ae ((Qu hij).symm.trans hl)
    exact .lt i j t u _ hij e
section
variable {prog:Program}{w:World}{A:Around}{E:Value->Shared->Prop}{s:Shared}
theorem nY:∀ {xs ys:List D} {q:Bool},bC xs ys=some q->xs.length=ys.length
 | [],[],_,_=>rfl
 | x::xs,y::ys,q,h=>by
  refine aa (show ((bV x y).bind λp=>if p.1=p.2 then bC xs ys else (bC xs ys).map λ_=>decide (p.1 < p.2))=some q from h) λp _ h=>?_;split at h
  ·exact Qf Nat.succ (nY h)
  ·obtain ⟨_,h,_⟩:=ae h
   exact Qf Nat.succ (nY h)
 | [],_::_,_,h=>by cases h
 | _::_,[],_,h=>by cases h
theorem ql{dx dy:D}{q:Bool}(h:ltD dx dy=some q):(∃ xs ys,dx = .tuple xs/\dy = .tuple ys/\bC xs ys=some q)\/(bV dx dy).map (λp=>decide (p.1 < p.2))=some q:=by
 match dx,dy,h with
 | .tuple xs,.tuple ys,h=>exact .inl ⟨xs,ys,rfl,rfl,h⟩
 | .none,_,h=>exact .inr h
 | .bool _,_,h=>exact .inr h
 | .int _,_,h=>exact .inr h
 | .str _,_,h=>exact .inr h
 | .list _,_,h=>exact .inr h
 | .dict _,_,h=>exact .inr h
 | .tuple _,.none,h=>exact .inr h
 | .tuple _,.bool _,h=>exact .inr h
 | .tuple _,.int _,h=>exact .inr h
 | .tuple _,.str _,h=>exact .inr h
 | .tuple _,.list _,h=>exact .inr h
 | .tuple _,.dict _,h=>exact .inr h
theorem qm{a b:Addr}{vs ws:Array Value}{n k:Nat}{H:D->Int}{xs ys:List D}{as bs:List Addr}{q:Bool}(ha:s.heap.get? a=some (tupObj vs n))(hb:s.heap.get? b=some (tupObj ws k))(ra:RdAll H s.heap vs.toList xs as)(rb:RdAll H s.heap ws.toList ys bs)(he:bC xs ys=some q)(hu:A.units < cLine)
 {Q:Value->Shared->Prop} (h:∀ tk,Q (.bool q) { s with toks:=tk }):wpAny (model prog w) A (compareOp .Lt (.ref a) (.ref b)) Q E s:=by
 have l1:=ra.length;have l2:=rb.length;rw [QJ] at l1 l2;refine wpAny_richCompare_same_room (op:=.Lt) ⟨_,ha,rfl⟩ (⟨_,hb,rfl⟩) F.slot_tuple_lt (wpAny_call_entry F.slot_tuple_lt ⟨_,ha,rfl⟩ F.entry_tuple_lt ?_ (F.args_tuple_lt_2 _ _)) hu;show wpAny _ _ (isInstance (.ref b) (.type "tuple") >>= _) _ _ s;refine Qd (wpAny_isInstance (⟨_,hb,rfl⟩) isSubtype_tuple_tuple ?_);simp only [Ys,QD,if_false];refine Qd (Xo ha rfl ?_);refine Qd (Xo hb rfl ?_);refine Qd ?_;refine wpAny_forIn_list _ (λrest r s'=>r.1=none/\s'=s/\LtV q rest) _ (λx rest r s' hI=>?_) (λr s' hI=>?_) _ _ ⟨rfl,rfl,vD ra _ _ _ rb he⟩
 ·obtain ⟨hr,rfl,hL⟩:=hI
  cases hL with
  | eq i t u _ hL=>
   refine Qd (wpAny_eqBool_int ?_);rw [show (i == i)=true from Zh i];exact Qg ⟨rfl,rfl,hL⟩
  | lt i j t u _ hij e=>
   subst e;refine Qd (wpAny_eqBool_int ?_);rw [show (i == j)=false from beq_eq_false_iff_ne.mpr hij];exact Qd (wpAny_rule (Qd (PyProof.Rows.lt_int (Qd (Qg (Qg (Qg ⟨_,rfl,(by intro z;cases z),h _⟩)))))))
 ·obtain ⟨hr,rfl,hL⟩:=hI
  cases hL with
  | nil e=>
   subst e;obtain ⟨r1,r2⟩:=r;cases hr;refine Qg ⟨.bool false,?_,(by intro z;cases z),h s'.toks⟩;show Fin.done (Flow.ret (.bool (decide (vs.size < ws.size))))=_;rw [l1,l2,(nY he),Zk (Yd _)]
end
end Mine
set_option tactic.hygienic false
namespace Mine
open PySem
theorem bq{l:List D}{p:D × List D}(h:hd1 l=some p):l=p.1::p.2:=by
 cases l<;>first | (cases h;done) | (cases h;rfl)
set_option tactic.hygienic true in
theorem ay{p:Prop} [Decidable p] {α:Type} {a:Option α} {b:α} (h:(if p then a else none)=some b):p/\a=some b:=by
 split at h
 ·rename_i hp;exact ⟨hp,h⟩
 ·cases h
theorem nZ{d:D}{e:EnK}(h:unEn d=some e):d=enK e:=by
 refine aa h λl e0 h=>?_;refine aa h λa1 e1 h=>?_;refine aa h λx1 f1 h=>?_;refine aa h λa2 e2 h=>?_;refine aa h λx2 f2 h=>?_;refine aa h λa3 e3 h=>?_;refine aa h λx3 f3 h=>?_;refine aa h λa4 e4 h=>?_;refine aa h λx4 f4 h=>?_;refine aa h λa5 e5 h=>?_;refine aa h λx5 f5 h=>?_;obtain ⟨hn,rfl⟩:=aM h;rw [cv e0,bq e1,bq e2,bq e3,bq e4,bq e5,bW f1,bW f2,bD f3,bW f4,nU f5,Q1.mp hn];rfl
theorem eO:∀ {l:List D} {es:List EnK},j0 l=some es->l=es.map enK:=by
 intro l;induction l with
 | nil=>
  intro _ h;cases h;rfl
 | cons d l eO=>
  intro es h;refine aa (show ((unEn d).bind λe=>(j0 l).map λl=>e::l)=some es from h) λe e1 h=>?_;obtain ⟨r,e2,rfl⟩:=ae h;rw [nZ e1,eO e2];rfl
theorem fC{d:D}{p:StK}(h:unK d=some p):d=stK p:=by
 refine aa h λl e0 h=>?_;refine aa h λa1 e1 h=>?_;refine aa h λx1 f1 h=>?_;refine aa h λa2 e2 h=>?_;refine aa h λl2 f2 h=>?_;refine aa h λes f3 h=>?_;obtain ⟨hn,rfl⟩:=aM h;rw [cv e0,bq e1,bq e2,bD f1,cv f2,eO f3,Q1.mp hn];rfl
set_option tactic.hygienic true in
theorem ik{d:D}(h:tru d=true):d = .bool true:=by
 cases d<;>first | (cases h;done) | skip
 rename_i b;cases b<;>first | rfl | cases h
theorem du:∀ {kvs:List (D × D)} {ks:List StK},keysT kvs=some ks->kvs=ks.map λk=>(stK k,.bool true):=by
 intro kvs;induction kvs with
 | nil=>
  intro _ h;cases h;rfl
 | cons p r du=>
  intro ks h;obtain ⟨ht,h⟩:=ay (show (if tru p.2 then (unK p.1).bind λk=>(keysT r).map λks=>k::ks else none)=some ks from h);refine aa h λk e1 h=>?_;obtain ⟨l,e2,rfl⟩:=ae h;obtain ⟨p1,p2⟩:=p;rw [QX,<- du e2,<- fC e1,<- ik ht]
theorem n5(p q:StK):eqT p q=true↔p=q:=by
 obtain ⟨p1,p2⟩:=p;obtain ⟨q1,q2⟩:=q;simp only [eqT,Qj,Q5,Prod.mk.injEq]
theorem d9(p:StK)(l:List StK):hasT p l=true↔p ∈ l:=by
 unfold hasT;rw [Q2];exact ⟨λ⟨q,h1,h2⟩=>(n5 q p).mp h2 ▸ h1,λh=>⟨p,h,(n5 p p).mpr rfl⟩⟩
theorem ls:∀ l:List StK,nodT l=true->l.Nodup
 | [],_=>ZM
 | p::l,h=>by
  rw [show nodT (p::l)=(!hasT p l&&nodT l) from rfl,Qj,QS] at h;exact Q8.mpr ⟨λq=>Bool.noConfusion (h.1.symm.trans ((d9 p l).mpr q)),ls l h.2⟩
section
variable (prog:Program)(w:World)
noncomputable def HOk(A:Around)(s:Shared)(v:Value)(x:Int)(n:Nat):Prop:=∀ (tk:Nat) (E:Value->Shared->Prop) (Q:Int->Shared->Prop),Q x { s with toks:=tk+n }->wpAny (model prog w) A (pyHash v) Q E { s with toks:=tk }
noncomputable def HAll(A:Around)(s:Shared):List Value->List Int->Nat->Prop
 | [],[],n=>n=0
 | v::vs,x::xs,n=>∃ a b,n=a+b/\HOk prog w A s v x a/\HAll A s vs xs b
 | _,_,_=>False
variable {prog w}
theorem sw{A:Around}{s:Shared}{E:Value->Shared->Prop}:∀ {vs:List Value} {xs:List Int} {k:Nat} (b:Array Int) (tk:Nat) {Q:Array Int->Shared->Prop},HAll prog w A s vs xs k->(∀ b',b'.toList=b.toList++xs->Q b' { s with toks:=tk+k }) ->
 wpAny (model prog w) A (forIn vs b λx r=>do let h <- pyHash x;pure PUnit.unit;pure (ForInStep.yield (r.push h))) Q E { s with toks:=tk }
 | [],[],k,b,tk,Q,h,hQ=>by
  cases (show k=0 from h);exact Qg (hQ b (by simp))
 | v::vs,x::xs,k,b,tk,Q,h,hQ=>by
  obtain ⟨a,c,rfl,h1,h2⟩:=h;rw [XY];refine Qd (Qd (h1 tk _ _ ?_));refine Qd (Qg (Qg ?_));exact sw (b.push x) (tk+a) h2 λb' hb=>by
   have:=hQ b' (by rw [hb];simp);rw [<- Nat.add_assoc] at this;exact this
 | [],_::_,_,_,_,_,h,_=>h.elim
 | _::_,[],_,_,_,_,h,_=>h.elim
theorem im{A:Around}{s:Shared}{a:Addr}{vs:Array Value}{n k:Nat}{xs:List Int}(ho:s.heap.get? a=some (tupObj vs n))(hu:A.units < cLine)(h:HAll prog w A.in1 s vs.toList xs k):HOk prog w A s (.ref a) (reduceHash (Builtin.Tuple.tupleHashOf xs)) (k+1):=λtk E Q hQ=>by
 refine PySem.W.pyHash_slot (T := "tuple") ⟨_,ho,rfl⟩ F.slot_tuple_hash F.entry_tuple_hash (F.args_tuple_hash_1 _) (beq_builtin_none _) (.inr hu) ?_;show wpAny _ _ (Builtin.Tuple.tupleItemsOf (.ref a) >>= _) _ _ _;refine Qd (Xo ho rfl ?_);refine Qd ?_;rw [<- Array.forIn_toList];refine sw #[] tk h λb hb=>?_;show wpAny _ _ (retInt (Builtin.Tuple.tupleHashOf b.toList)) _ _ _;rw [hb];exact Qd (wpAny_mkInt (Qg ⟨_,_,rfl,hQ⟩))
theorem n6{A:Around}{s:Shared}(i:Int)(t:Tok):HOk prog w A s (.int i t) (hashInt i) 1:=λtk E Q hQ=>wpAny_pyHash_int hQ
theorem j8{A:Around}{s:Shared}(x:Str)(t:Tok):HOk prog w A s (.str x t) (hashStr w x) 1:=λtk E Q hQ=>wpAny_pyHash_str hQ
theorem qn{A:Around}{s:Shared}(b:Bool):HOk prog w A s (.bool b) (reduceHash (if b then 1 else 0)) 1:=λtk E Q hQ=>by
 refine PySem.W.pyHash_slot (T := "bool") rfl F.slot_bool_hash entry_int_hash (args_int_hash _) (beq_builtin_none _) (.inl rfl) ?_;cases b
 ·exact (show wpAny _ _ (do ret (<- mkInt 0)) _ _ _ from Qd (wpAny_mkInt (Qg ⟨_,_,rfl,hQ⟩)))
 ·exact (show wpAny _ _ (do ret (<- mkInt 1)) _ _ _ from Qd (wpAny_mkInt (Qg ⟨_,_,rfl,hQ⟩)))
variable {H:D->Int}
theorem Rd.boolE'{h:Heap}{b:Bool}{v:Value}{as:List Addr}(r:Rd H h v (.bool b) as):v = .bool b:=by cases r;rfl
theorem Rd.intE'{h:Heap}{i:Int}{v:Value}{as:List Addr}(r:Rd H h v (.int i) as):∃ t,v = .int i t:=by cases r;exact ⟨_,rfl⟩
theorem Rd.strE'{h:Heap}{x:Str}{v:Value}{as:List Addr}(r:Rd H h v (.str x) as):∃ t,v = .str x t:=by cases r;exact ⟨_,rfl⟩
theorem RdAll.consE{h:Heap}{vs:List Value}{d:D}{ds:List D}{as:List Addr}(r:RdAll H h vs (d::ds) as):∃ v vs' a b,vs=v::vs'/\Rd H h v d a/\RdAll H h vs' ds b:=by
 cases r with
 | cons p t=>exact ⟨_,_,_,_,rfl,p,t⟩
theorem RdAll.nilE{h:Heap}{vs:List Value}{as:List Addr}(r:RdAll H h vs [] as):vs=[]:=by cases r;rfl
theorem RdAll.c_el{h:Heap}{vs:List Value}{d:D}{ds:List D}{as:List Addr}{X:Prop}(r:RdAll H h vs (d::ds) as)(k:∀ v vs' a b,vs=v::vs'->as=a++b->Rd H h v d a->RdAll H h vs' ds b->X):X:=by
 cases r with
 | cons p q=>exact k _ _ _ _ rfl rfl p q
theorem RdAll.n_el{h:Heap}{vs:List Value}{as:List Addr}(r:RdAll H h vs [] as):vs=[]/\as=[]:=by
 cases r;exact ⟨rfl,rfl⟩
theorem cgL{α:Type}{a b:α}{l k:List α}(h:a=b)(q:l=k):a::l=b::k:=h ▸ q ▸ rfl
theorem lu{h:Heap}{v:Value}{e:EnK}{as:List Addr}(r:Rd H h v (enK e) as):∃ a vs n t1 t2 t3 t4,v = .ref a/\h.get? a=some (tupObj vs n)/\vs.toList=[.str e.1 t1,.str e.2.1 t2,.int e.2.2.1 t3,.str e.2.2.2.1 t4,.bool e.2.2.2.2]:=by
 cases r using Rd.tupleE with
 | mk ho _ ra=>
  refine ra.c_el λv1 l1 _ _ e1 _ p1 ra=>ra.c_el λv2 l2 _ _ e2 _ p2 ra=>ra.c_el λv3 l3 _ _ e3 _ p3 ra=>ra.c_el λv4 l4 _ _ e4 _ p4 ra=>ra.c_el λv5 l5 _ _ e5 _ p5 ra=>?_;exact p1.strE'.elim λt1 q1=>p2.strE'.elim λt2 q2=>p3.intE'.elim λt3 q3=>p4.strE'.elim λt4 q4=>⟨_,_,_,t1,t2,t3,t4,rfl,ho,e1.trans (cgL q1 (e2.trans (cgL q2 (e3.trans (cgL q3 (e4.trans (cgL q4 (e5.trans (cgL p5.boolE' ra.n_el.1)))))))))⟩
theorem dw{h:Heap}{v:Value}{p:StK}{as:List Addr}(r:Rd H h v (stK p) as):∃ a vs n t b ws m bs,v = .ref a/\h.get? a=some (tupObj vs n)/\vs.toList=[.int p.1 t,.ref b]/\h.get? b=some (tupObj ws m)/\RdAll H h ws.toList (p.2.map enK) bs:=by
 cases r using Rd.tupleE with
 | mk ho _ ra=>
  refine ra.c_el λv1 l1 _ _ e1 _ p1 ra=>ra.c_el λv2 l2 _ _ e2 _ p2 ra=>p1.intE'.elim λt1 q1=>?_;cases p2 using Rd.tupleE with
  | mk ho2 _ ra2=>exact ⟨_,_,_,t1,_,_,_,_,rfl,ho,e1.trans (cgL q1 (e2.trans (cgL rfl ra.n_el.1))),ho2,ra2⟩
theorem tR{A:Around}{s:Shared}{v:Value}{e:EnK}{as:List Addr}(r:Rd H s.heap v (enK e) as)(hu:A.units < cLine):HOk prog w A s v (nO w e) 6:=by
 obtain ⟨a,vs,n,t1,t2,t3,t4,rfl,ho,ev⟩:=lu r;refine im (k:=5) ho hu ?_;rw [ev];exact ⟨1,4,rfl,j8 _ _,1,3,rfl,j8 _ _,1,2,rfl,n6 _ _,1,1,rfl,j8 _ _,1,0,rfl,qn _,rfl⟩
theorem n7{A:Around}{s:Shared}(hu:A.units < cLine):∀ (l:List EnK) (vs:List Value) (as:List Addr),RdAll H s.heap vs (l.map enK) as->HAll prog w A s vs (l.map (nO w)) (6 * l.length):=by
 intro l;induction l with
 | nil=>
  intro vs as r;cases r.nilE;rfl
 | cons e l ih_=>
  intro vs as r;refine byG λX_ g_=>?_;obtain ⟨_,_,_,_,rfl,p,r⟩:=r.consE;refine g_ ?_;exact ⟨6,6 * l.length,by rw [QV,Nat.mul_succ,Nat.add_comm],tR p hu,ih_ _ _ r⟩
theorem tS{A:Around}{s:Shared}{v:Value}{p:StK}{as:List Addr}(r:Rd H s.heap v (stK p) as)(hu:A.units+10 < cLine):HOk prog w A s v (cL w p) (6 * p.2.length+3):=by
 obtain ⟨a,vs,n,t,b,ws,m,bs,rfl,ho,ev,ho2,ra⟩:=dw r;refine im (k:=6 * p.2.length+2) ho (by exact Qh (QI _ _) hu) ?_;rw [ev];refine ⟨1,6 * p.2.length+1,by exact (Nat.add_comm 1 _).symm,n6 _ _,6 * p.2.length+1,0,rfl,im ho2 ?_ (n7 ?_ p.2 _ _ ra),rfl⟩
 ·rw [Around.in1_units];exact Qh (ZQ (by decide) _) hu
 ·rw [Around.in1_units,Around.in1_units];exact Qh (ZQ (by decide:2<=10) A.units) hu
theorem vE(a b:EnK):PyData.eqv (enK a) (enK b)=decide (a=b):=by
 obtain ⟨a1,a2,a3,a4,a5⟩:=a;obtain ⟨b1,b2,b3,b4,b5⟩:=b;show (a1 == b1&&(a2 == b2&&(a3 == b3&&(a4 == b4&&(a5 == b5&&true)))))=_;rw [ZZ];simp only [Qj,Q5,QE,Prod.mk.injEq,and_true]
theorem n9:∀ a b:List EnK,PyData.eqvAll (a.map enK) (b.map enK)=decide (a=b)
 | [],[]=>rfl
 | [],_::_=>rfl
 | _::_,[]=>rfl
 | x::a,y::b=>by
  show (PyData.eqv (enK x) (enK y)&&PyData.eqvAll (a.map enK) (b.map enK))=_;rw [vE,n9 a b,ZZ];simp only [Qj,QE,List.cons.injEq]
theorem oa(a b:StK):PyData.eqv (stK a) (stK b)=decide (a=b):=by
 obtain ⟨a1,a2⟩:=a;obtain ⟨b1,b2⟩:=b;show (a1 == b1&&(PyData.eqvAll (a2.map enK) (b2.map enK)&&true))=_;rw [n9,ZZ];simp only [Qj,Q5,QE,Prod.mk.injEq,and_true]
theorem sA:∀ l:List EnK,aX (l.map enK)=true
 | []=>rfl
 | _::l=>sA l
theorem sB:∀ l:List EnK,an (l.map enK)=true
 | []=>rfl
 | _::l=>sB l
theorem sC:∀ l:List EnK,PyData.depthAll (l.map enK)<=1
 | []=>QF _
 | _::l=>Xp.mpr ⟨QO _,sC l⟩
theorem tT(p:StK):cf (stK p)=true:=by
 show (aX (p.2.map enK)&&true)=true;rw [sA];rfl
theorem qo(p:StK):noList (stK p)=true:=by
 show (an (p.2.map enK)&&true)=true;rw [sB];rfl
theorem xj(p:StK):(stK p).depth<=3:=by
 have h:=sC p.2;show max 0 (max (PyData.depthAll (p.2.map enK)+1) 0)+1<=3;exact QT (Xp.mpr ⟨QF _,Xp.mpr ⟨QT h,QF _⟩⟩)
theorem tU{a b:StK}(h:stK a=stK b):a=b:=by
 have:=oa a b;rw [h,oa b b,Qn rfl] at this;exact Qp this.symm
noncomputable def QOk(A:Around)(s:Shared)(n:Nat)(v:Value):Prop:=∀ (E:Value->Shared->Prop) (Q:Bool->Shared->Prop),Q true s->wpAny (model prog w) A (eqIsQuiet n v) Q E s
theorem fR{A:Around}{s:Shared}{a:Addr}{vs:Array Value}{n k:Nat}(ho:s.heap.get? a=some (tupObj vs k))(h:∀ v ∈ vs.toList,QOk (prog:=prog) (w:=w) A s n v):QOk (prog:=prog) (w:=w) A s (n+1) (.ref a):=λE Q hQ=>by
 unfold eqIsQuiet;refine Qd (wpAny_specialOf (⟨_,ho,rfl⟩) F.slot_tuple_eq.lookup ?_);show wpAny _ _ (isInstance (.ref a) (.type "tuple") >>= _) _ _ s;refine Qd (wpAny_isInstance (⟨_,ho,rfl⟩) isSubtype_tuple_tuple ?_);simp only [Ys,QD,if_false];refine Qd (wpAny_seqItems ho rfl ?_);refine Qd ?_;show wpAny _ _ (forIn vs _ _) _ _ s;rw [<- Array.forIn_toList];refine wpAny_forIn_list _ (λrest r s'=>r.1=none/\s'=s/\∀ v ∈ rest,QOk (prog:=prog) (w:=w) A s n v) _ ?_ ?_ _ _ ⟨rfl,rfl,h⟩
 ·rintro v rest r s' ⟨hr,rfl,hall⟩
  refine Qd (hall v (.head _) _ _ ?_);simp only [Ys,QD,if_false];exact Qg ⟨rfl,rfl,λu hu'=>hall u (.tail _ hu')⟩
 ·rintro ⟨r1,r2⟩ s' ⟨hr,rfl,_⟩
  simp only at hr;subst hr;exact Qg hQ
theorem jc{A:Around}{s:Shared}{n:Nat}{v:Value}(h:carriedByValue v=true):QOk (prog:=prog) (w:=w) A s n v:=λE Q hQ=>by
 rw [eqIsQuiet_byValue _ h];exact Qg hQ
theorem qp{A:Around}{s:Shared}{v:Value}{p:StK}{as:List Addr}(r:Rd H s.heap v (stK p) as):QOk (prog:=prog) (w:=w) A s 8 v:=by
 refine byG λX_ g_=>?_;obtain ⟨a,vs,n,t,b,ws,m,bs,rfl,ho,ev,ho2,ra⟩:=dw r;refine g_ ?_;refine fR ho λv hv=>?_;rw [ev] at hv;rcases Qw hv with rfl | hv
 ·exact jc rfl
 ·cases Qx hv
  refine fR ho2 λv hv=>?_;have:∀ (l:List EnK) (vs:List Value) (bs:List Addr),RdAll H s.heap vs (l.map enK) bs->∀ v ∈ vs,∃ e as,Rd H s.heap v (enK e) as:=by
   intro l;induction l with
   | nil=>intro vs bs r v hv;cases r.nilE;cases hv
   | cons e l ih=>
    intro vs bs r v hv;refine byG λX_ g_=>?_;obtain ⟨_,_,_,_,rfl,p,r⟩:=r.consE;refine g_ ?_;rcases Qw hv with rfl | hv
    ·exact ⟨_,_,p⟩
    ·exact ih _ _ r v hv
  refine byG λX_ g_=>?_;obtain ⟨e,as,re⟩:=this _ _ _ ra v hv;obtain ⟨a,vs,n,t1,t2,t3,t4,rfl,ho,ev⟩:=lu re;refine g_ ?_;refine fR ho λv hv=>jc ?_;rw [ev] at hv;simp only [Ye,YW,or_false] at hv;rcases hv with rfl | rfl | rfl | rfl | rfl<;>rfl
variable (prog w H)
@[reducible] def stDec:DecidableEq StK:=λa b=>instDecidableEqProd a b
noncomputable def e9:@HeapKind prog w StK stDec:=
 @HeapKind.mk prog w StK stDec (λh p a=>Rd H h (.ref a) (stK p) []) (cL w) (λp=>6 * p.2.length+3) (λA=>A.units+10 < cLine)
  (λ{h a x y} hx hy=>by
   obtain ⟨_,r1⟩:=hx.reads;obtain ⟨_,r2⟩:=hy.reads;exact tU (SeqAt.Reads.unique _ _ _ _ _ (hx.canLay (tT x)) r1 r2))
  (λ{h h' k a d o es ep} x ho hd hs=>x.mono' λb ob e hb=>by
   have hne:b ≠ d:=by
    rintro rfl;rw [ho] at e;cases e;rcases hb with ⟨vs,n,rfl⟩ | hb
    ·cases hd
    ·cases hb
   exact (hs.2 b hne).trans e)
  (λ{A E s k a Q} hu hk h=>tS hk hu s.toks E Q h)
  (λ{A E s x y a b Q} hu hx hy h=>by
   obtain ⟨_,r1⟩:=hx.reads;obtain ⟨_,r2⟩:=hy.reads;exact SeqAt.eqAt_reads _ _ A s _ _ _ _ r1 r2 (hx.canLay (tT x)) (hy.canLay (tT y)) (Qh (ZQ (QQ (XW _ _) (QQ (xj x) (by decide:3<=10))) _) hu) prog w E Q (by rw [oa];exact h))
  (λ{A E s k a Q} hk h=>qp hk E Q h)
noncomputable def xsK(xs:List (StK × Addr × Value))(ks:List StK):Prop:=xs.map (·.1)=ks/\∀ x ∈ xs,x.2.2 = .bool true
variable {prog w H}
theorem vF{h:Heap}(hH2:∀ p:StK,H (stK p)=cL w p):∀ (ks:List StK) (es:List DictEntry),RdKv H h es (ks.map λk=>(stK k,.bool true))->∃ xs:List (StK × Addr × Value),es=xs.map (@entryOfKey prog w StK stDec (e9 prog w H))/\(∀ x ∈ xs,Rd H h (.ref x.2.1) (stK x.1) [])/\xsK xs ks:=by
 intro ks;induction ks with
 | nil=>
  intro es r;cases r;exact ⟨[],rfl,(λx hx=>by cases hx),rfl,(λx hx=>by cases hx)⟩
 | cons k ks ih_=>
  intro es r;rw [QX] at r;cases r with
  | @cons e es _ _ _ r1 r2 r3 r4=>
   refine byG λX_ g_=>?_;obtain ⟨xs,h1,h2,h3,h4⟩:=ih_ es r4;obtain ⟨a,_,_,_,_,_,_,_,ek,_⟩:=dw r1;refine g_ ?_;rw [ek] at r1;refine ⟨(k,a,.bool true)::xs,?_,λx hx=>?_,by rw [QX,h3],λx hx=>?_⟩
   ·rw [QX,<- h1]
    congr 1
    show e=⟨cL w k,.ref a,.bool true⟩
    rw [<- hH2,<- r3,<- ek,<- r2.boolE']
   ·rcases Qw hx with rfl | hx
    ·exact r1
    ·exact h2 x hx
   ·rcases Qw hx with rfl | hx
    ·rfl
    ·exact h4 x hx
theorem qq{h:Heap}(hH2:∀ p:StK,H (stK p)=cL w p):∀ (xs:List (StK × Addr × Value)),(∀ x ∈ xs,Rd H h (.ref x.2.1) (stK x.1) [])->(∀ x ∈ xs,x.2.2 = .bool true)->RdKv H h (xs.map (@entryOfKey prog w StK stDec (e9 prog w H))) ((xs.map (·.1)).map λk=>(stK k,.bool true)):=by
 intro xs;induction xs with
 | nil=>
  intro _ _;exact .nil
 | cons x xs ih_=>
  intro h1 h2;rw [QX,QX,QX];refine .cons (h1 x (.head _)) ?_ (hH2 _).symm (ih_ (λy hy=>h1 y (.tail _ hy)) λy hy=>h2 y (.tail _ hy));show Rd H h x.2.2 _ _;rw [h2 x (.head _)];exact .bool _
theorem oc(hH2:∀ p:StK,H (stK p)=cL w p){h:Heap}{v:Value}{kvs:List (D × D)}{as:List Addr}{ks:List StK}(r:Rd H h v (.dict kvs) as)(hk:keysT kvs=some ks)(hn:nodT ks=true):∃ a xs,v = .ref a/\as=[a]/\a ≠ sysModules/\@Heap.DictOfH prog w StK stDec (e9 prog w H) h a xs/\xsK xs ks:=by
 rw [du hk] at r;cases r with
 | @dict a es n _ h0 h1 h2=>
  refine byG λX_ g_=>?_;obtain ⟨xs,e1,e2,e3⟩:=vF (prog:=prog) hH2 ks es.toList h2;refine g_ ?_;exact ⟨a,xs,rfl,rfl,h0,⟨_,es,n,h1,⟨rfl,rfl,rfl⟩,rfl,e1,e2,by rw [e3.1];exact ls _ hn⟩,e3⟩
theorem jd(hH2:∀ p:StK,H (stK p)=cL w p){h:Heap}{a:Addr}{xs:List (StK × Addr × Value)}{ks:List StK}(hd:@Heap.DictOfH prog w StK stDec (e9 prog w H) h a xs)(hx:xsK xs ks)(h0:a ≠ sysModules):∃ es n,h.get? a=some (dictObj es n)/\Rd H h (.ref a) (.dict (ks.map λk=>(stK k,.bool true))) [a]:=by
 refine byG λX_ g_=>?_;obtain ⟨⟨cls,di,data,sl⟩,es,ep,ho,⟨c1,c2,c3⟩,hdat,he,hi,_⟩:=hd;refine g_ ?_;simp only at c1 c2 c3 hdat;subst c1 c2 c3 hdat;refine ⟨es,ep,ho,.dict h0 ho ?_⟩;rw [he,<- hx.1];exact qq hH2 xs hi hx.2
theorem fT{xs:List (StK × Addr × Value)}{ks:List StK}(hx:xsK xs ks){p:StK}:(@atKey StK stDec xs p).isSome=hasT p ks:=by
 unfold atKey;rw [Option.isSome_map,ZZ,List.find?_isSome,d9,<- hx.1,QG];exact ⟨λ⟨x,h1,h2⟩=>⟨x,h1,Qp h2⟩,λ⟨x,h1,h2⟩=>⟨x,h1,Qn h2⟩⟩
theorem gK{xs:List (StK × Addr × Value)}{ks:List StK}(hx:xsK xs ks){p:StK}{a:Addr}:xsK (@storedH StK stDec xs p a (.bool true)) (if hasT p ks then ks else ks++[p]):=by
 unfold storedH;rw [fT hx];split
 ·refine ⟨(@keys_map_putAt StK stDec xs p (.bool true)).trans hx.1,λx hm=>?_⟩
  obtain ⟨y,hy,rfl⟩:=QG.mp hm;unfold putAt;split
  ·rfl
  ·exact hx.2 y hy
 ·refine ⟨by rw [Qb,hx.1];rfl,λx hm=>?_⟩
  rcases QY hm with hm | hm
  ·exact hx.2 x hm
  ·rw [Qx hm]
theorem lw{ks:List StK}{kvs:List (D × D)}(hk:keysT kvs=some ks)(p:StK):dPutT p ks kvs=(if hasT p ks then ks else ks++[p]).map λk=>(stK k,PyData.bool true):=by
 unfold dPutT;rw [du hk];split
 ·rfl
 ·rw [Qb];rfl
theorem sD:∀ ks:List StK,eL (ks.map λk=>(stK k,PyData.bool true))=true
 | []=>rfl
 | k::ks=>by
  show (noList (stK k)&&noList (.bool true)&&eL (ks.map λk=>(stK k,PyData.bool true)))=true;rw [qo,sD ks];rfl
end
end Mine
set_option tactic.hygienic false
namespace Mine
open PySem
theorem od{vs:Array Value}{xs:List D}(h:vs.toList.length=xs.length):vs.isEmpty=xs.isEmpty:=by
 cases xs with
 | nil=>
  have:vs = #[]:=by simpa using h
  rw [this];rfl
 | cons x xs=>
  have:vs.isEmpty=false:=by
   cases q:vs.isEmpty with
   | false=>rfl
   | true=>rw [Y7.mp q] at h;simp at h
  rw [this];rfl
theorem uB{u d c:Nat}(hd:d<=32)(h:u+200 < c):u+1+d < c:=Qh (QQ (Zd (Nat.add_assoc u 1 d)) (ZQ (QQ (ZQ hd 1) (by decide)) u)) h
section
variable {P:Pk}{r:Nat}{c:TC}{A:Around}{s:Shared}
theorem fU{v:Value}{d:D}{as:List Addr}{Q:Bool->Shared->Prop}{E:Value->Shared->Prop}{b:Bool}(rd:Rd P.H s.heap v d as)(hd:truth d=some b)(h:∀ tk,Q b { s with toks:=tk }) :
 wpAny (model P.prog P.w) A (truthy v) Q E s:=by
 have h':=h (s.toks+1+1);have hz:(sizeLine:Int) < 2 ^ 63:=by decide
 cases rd with
 | none=>cases hd;exact PyProof.Rows.truthy_none (h s.toks)
 | bool b=>cases hd;exact ZU (h s.toks)
 | int i t=>cases hd;exact PyProof.Rows.truthy_int (h s.toks)
 | str x t hs ho=>
  cases hd;refine PySem.P.truthy_str (by exact Yr.mpr (QH (QB.mpr hs) hz)) ?_;have e:(((x.length:Nat):Int) != 0)=(x.length != 0):=by
   cases q:x.length with
   | zero=>rfl
   | succ n=>simp;exact λh=>Nat.succ_ne_zero n (Int.ofNat.inj h)
  rw [e];exact h _
 | @list a vs n xs as h1 hs r1=>
  cases hd;refine wpAny_truthy_list ⟨_,h1,rfl,_,rfl⟩ (by exact QH (QB.mpr hs) hz) ?_;rw [od r1.length];exact h _
 | @tuple a vs n xs as h1 hs r1=>
  cases hd;refine PyProof.Rows.truthy_tuple ⟨_,h1,rfl,_,rfl⟩ (by exact QH (QB.mpr hs) hz) ?_;rw [od r1.length];exact h _
 | dict _ _=>cases hd
theorem cV{d:D}(h:isScalar d=true):cf d=true/\d.depth=0:=by
 cases d<;>first | (cases h;done) | exact ⟨rfl,rfl⟩
set_option tactic.hygienic true in
theorem oe{a b:D}{q:Bool}(h:pyEq a b=some q):cf a=true/\cf b=true/\min a.depth b.depth<=32/\q=a.eqv b:=by
 unfold pyEq at h;split at h
 ·rename_i hc
  cases h;rw [Ze,Qj,Qj] at hc;rcases hc with ⟨h1,h2⟩ | ⟨h1,h2⟩
  ·have:=cV h1
   have:=cV h2;exact ⟨by simp_all,by simp_all,by simp_all,rfl⟩
  ·simp only [shp,Qj,QE] at h1 h2
   exact ⟨h1.1,h2.1,by exact QQ (XW ..) h1.2,rfl⟩
 ·cases h
set_option tactic.hygienic true in
theorem lx{x:D}{xs:List D}{q:Bool}(h:anyEq x xs=some q):aX xs=true/\cf x=true/\x.depth<=32/\q=xs.any λy=>y.eqv x:=by
 unfold anyEq at h;split at h
 ·rename_i hc
  cases h;simp only [shp,Qj,QE] at hc;exact ⟨hc.1,hc.2.1,hc.2.2,rfl⟩
 ·cases h
theorem je{x y:Str}{q:Bool}(h:subStrOne x y=some q):q = !(Builtin.Str.occurrences y x 0 y.length 1).isEmpty:=by
 unfold subStrOne at h;cases e:x.cps.toList with
 | nil=>rw [e] at h;cases h
 | cons c l=>
  rw [e] at h;cases l with
  | nil=>
   cases h;rw [show x=⟨#[c]⟩ from Qf Str.mk (Array.ext' e),StrLaws.found_one]
  | cons=>cases h
theorem ly{x:Value}{d:D}{as:List Addr}{H:D->Int}{h:Heap}(r:Rd H h x d as)(e:isN d=true):x = .none:=by
 have:d = .none:=by cases d<;>first | rfl | cases e
 subst this;cases r;rfl
theorem sE{x:Value}{d:D}{as:List Addr}{H:D->Int}{h:Heap}(r:Rd H h x d as)(e:isN d=false):x ≠ .none:=by
 rintro rfl;have:d = .none:=by cases r;rfl
 subst this;cases e
theorem og{motive:D->D->Bool->Prop}(hl:∀ x xs q,anyEq x xs=some q->motive x (.list xs) q)(ht:∀ x xs q,anyEq x xs=some q->motive x (.tuple xs) q)
 (hs:∀ x y q,subStrOne x y=some q->motive (.str x) (.str y) q)
 (hd:∀ x kvs,dictOk kvs=true->motive (.str x) (.dict kvs) (dHas x kvs))
 (hT:∀ p kvs ks,keysT kvs=some ks->nodT ks=true->motive (stK p) (.dict kvs) (hasT p ks))
 : ∀ {dx dy:D} {q:Bool},pyIn dx dy=some q->motive dx dy q:=by
 intro dx dy q he;cases dy with
 | list xs=>exact hl dx xs q he
 | tuple xs=>exact ht dx xs q he
 | str y=>cases dx<;>first | (cases he;done) | exact hs _ y q he
 | dict kvs=>
  replace he:dIn dx kvs=some q:=he;unfold dIn at he;cases hk:strK dx with
  | some x=>
   rw [hk] at he;obtain ⟨hok,rfl⟩:=aM he;have hx:=bW hk;subst hx;exact hd x kvs hok
  | none=>
   rw [hk] at he;refine aa he λp e1 he=>?_;refine aa he λks e2 he=>?_;obtain ⟨hn,rfl⟩:=aM he;rw [fC e1];exact hT p kvs ks e2 hn
 | _=>cases he
noncomputable def InOk(P:Pk)(A:Around)(s:Shared)(x y:Value)(q:Bool):Prop:=
 (∀ {Q:Value->Shared->Prop} {E:Value->Shared->Prop},(∀ tk,Q (.bool q) { s with toks:=tk })->wpAny (model P.prog P.w) A (compareOp .In x y) Q E s)/\(∀ {Q:Value->Shared->Prop} {E:Value->Shared->Prop},(∀ tk,Q (.bool (!q)) { s with toks:=tk })->wpAny (model P.prog P.w) A (compareOp .NotIn x y) Q E s)
theorem sF{x y:Value}{dx dy:D}{q:Bool}{as bs:List Addr}(hH:∀ x:Str,P.H (.str x)=hashStr P.w x)
 (hH2:∀ p:StK,P.H (stK p)=cL P.w p)
 (hu:A.units+200 < cLine) (he:pyIn dx dy=some q) (rx:Rd P.H s.heap x dx as) (ry:Rd P.H s.heap y dy bs) :
 InOk P A s x y q:=by
 obtain ⟨as',ra⟩:=rx.reads;obtain ⟨bs',rb⟩:=ry.reads;revert rx ry ra rb;refine og (motive:=λdx dy q=>Rd P.H s.heap x dx as->Rd P.H s.heap y dy bs->Reads s.heap x dx as'->Reads s.heap y dy bs'->InOk P A s x y q) (λdx xs q he rx ry ra rb=>?_) (λdx xs q he rx ry ra rb=>?_)
  (λx y q he rx ry o_ o_=>?_)
  (λx' kvs hok rx ry o_ o_=>?_)
  (λp kvs ks hk hn rx ry o_ o_=>?_)
  he
 ·obtain ⟨h1,h2,h3,rfl⟩:=lx he
  cases ry using Rd.listE with
  | mk _ _ r1=>exact ⟨λh=>SeqAt.in_list_reads rb ra (r1.canLay h1) (rx.canLay h2) (by exact uB (QQ (Yq ..) h3) hu) (h s.toks),λh=>SeqAt.notIn_list_reads rb ra (r1.canLay h1) (rx.canLay h2) (by exact uB (QQ (Yq ..) h3) hu) (h s.toks)⟩
 ·obtain ⟨h1,h2,h3,rfl⟩:=lx he
  cases ry using Rd.tupleE with
  | mk _ _ r1=>exact ⟨λh=>SeqAt.in_tuple_reads rb ra (r1.canLay h1) (rx.canLay h2) (by exact uB (QQ (Yq ..) h3) hu) (h s.toks),λh=>SeqAt.notIn_tuple_reads rb ra (r1.canLay h1) (rx.canLay h2) (by exact uB (QQ (Yq ..) h3) hu) (h s.toks)⟩
 ·cases rx using Rd.strE;cases ry using Rd.strE
  exact ⟨λh=>PySem.P.in_str (by rw [<- (je he)];exact h s.toks),λh=>PySem.P.notIn_str (by rw [<- (je he)];exact h s.toks)⟩
 ·obtain ⟨a,l,rfl,rfl,h0,hd,hk⟩:=sv (prog:=P.prog) hH ry hok
  cases rx using Rd.strE with
  | mk t hz ho=>
   have hi:(strKind P.prog P.w).is x' (.str x' t)=true:=by simp [strKind,Value.isStrOf]
   exact ⟨λh=>wpAny_in_of (knd:=strKind P.prog P.w) (k:=x') hi (by simpa using h0) hd.mapOf (by rw [fQ hk];exact h _),λh=>wpAny_notIn_of (knd:=strKind P.prog P.w) (k:=x') hi (by simpa using h0) hd.mapOf (by rw [fQ hk];exact h _)⟩
 ·refine byG λX_ g_=>?_
  obtain ⟨a,xs,rfl,rfl,h0,hd,hx⟩:=oc (prog:=P.prog) hH2 ry hk hn;obtain ⟨b,_,_,_,_,_,_,_,rfl,_⟩:=dw rx;refine g_ ?_;have has:as=[]:=rx.noAddr (qo p);subst has;have hu1:A.in1.units+10 < cLine:=by rw [Around.in1_units];exact uB (by decide) hu
  exact ⟨λh=>@wpAny_in_heap P.prog P.w StK stDec (e9 P.prog P.w P.H) A _ s a b p xs _ hu1 rx (by simpa using h0) hd (by rw [fT hx];exact h _),λh=>@PyProof.Rows.wpAny_notIn_heap P.prog P.w StK stDec (e9 P.prog P.w P.H) a b A _ s p xs _ hu1 rx (by simpa using h0) hd (by rw [fT hx];exact h _)⟩
theorem cop{op:CmpOp}{x y:Value}{dx dy:D}{q:Bool}{as bs:List Addr}{Q:Value->Shared->Prop}{E:Value->Shared->Prop}(hHH:nQ P)(hA:Room A r)(rx:Rd P.H s.heap x dx as)(ry:Rd P.H s.heap y dy bs)(he:bl op dx dy=some q)
 (h':∀ tk,Q (.bool q) { s with toks:=tk }):wpAny (model P.prog P.w) A (compareOp op x y) Q E s:=by
 have hu:A.units+200 < cLine:=Qh (by exact QC (QI _ _) (by decide)) hA.units;cases op with
 | Eq=>
  refine byG λX_ g_=>?_;obtain ⟨h1,h2,h3,rfl⟩:=oe (show pyEq dx dy=some q from he);obtain ⟨as',ra⟩:=rx.reads;obtain ⟨bs',rb⟩:=ry.reads;refine g_ ?_;exact SeqAt.compareEq_reads ra rb (rx.canLay h1) (ry.canLay h2) (by exact Qh (ZQ (QQ h3 (by decide)) _) hu) (h' s.toks)
 | NotEq=>
  refine byG λX_ g_=>?_;obtain ⟨b,e0,rfl⟩:=ae (show (pyEq dx dy).map (!·)=some q from he);obtain ⟨h1,h2,h3,rfl⟩:=oe e0;obtain ⟨as',ra⟩:=rx.reads;obtain ⟨bs',rb⟩:=ry.reads;refine g_ ?_;exact SeqAt.compareNe_reads ra rb (rx.canLay h1) (ry.canLay h2) (by exact Qh (ZQ (QQ h3 (by decide)) _) hu) (h' s.toks)
 | Lt=>
  rcases ql he with ⟨xs,ys,rfl,rfl,he⟩ | he
  ·cases rx using Rd.tupleE with
   | mk h1 z1 r1=>
    cases ry using Rd.tupleE with
    | mk h2 z2 r2=>exact qm h1 h2 r1 r2 he (by exact Qh (QI _ _) hu) h'
  obtain ⟨p,e0,rfl⟩:=ae (show (bV dx dy).map (λp=>decide (p.1 < p.2))=some q from he);obtain ⟨t,u,rfl,rfl⟩:=bP rx ry e0;exact PyProof.Rows.lt_int (h' s.toks)
 | LtE=>
  obtain ⟨p,e0,rfl⟩:=ae (show (bV dx dy).map (λp=>decide (p.1<=p.2))=some q from he);obtain ⟨t,u,rfl,rfl⟩:=bP rx ry e0;exact PyProof.Rows.le_int (h' s.toks)
 | Gt=>
  obtain ⟨p,e0,rfl⟩:=ae (show (bV dx dy).map (λp=>decide (p.2 < p.1))=some q from he);obtain ⟨t,u,rfl,rfl⟩:=bP rx ry e0;exact PyProof.Rows.gt_int (h' s.toks)
 | GtE=>
  obtain ⟨p,e0,rfl⟩:=ae (show (bV dx dy).map (λp=>decide (p.2<=p.1))=some q from he);obtain ⟨t,u,rfl,rfl⟩:=bP rx ry e0;exact PyProof.Rows.ge_int (h' s.toks)
 | In=>exact (sF hHH.1
  hHH.2
  hu (show pyIn dx dy=some q from he) rx ry).1 h'
 | NotIn=>
  refine byG λX_ g_=>?_;obtain ⟨b,e0,rfl⟩:=ae (show (pyIn dx dy).map (!·)=some q from he);refine g_ ?_;exact (sF hHH.1
  hHH.2
  hu e0 rx ry).2 h'
 | Is=>
  obtain ⟨hy,rfl⟩:=aM (show (if isN dy then some (isN dx) else none)=some q from he);have:=ly ry hy;subst this;cases hx:isN dx with
  | true=>rw [hx] at h';have:=ly rx hx;subst this;exact PyProof.Rows.is_none_gen (h' s.toks)
  | false=>rw [hx] at h';exact PyProof.Rows.is_none_ne (sE rx hx) (h' s.toks)
 | IsNot=>
  obtain ⟨hy,rfl⟩:=aM (show (if isN dy then some (!isN dx) else none)=some q from he);have:=ly ry hy;subst this;cases hx:isN dx with
  | true=>rw [hx] at h';have:=ly rx hx;subst this;exact PyProof.Rows.isnot_none_gen (h' s.toks)
  | false=>rw [hx] at h';exact PyProof.Rows.isnot_none_ne (sE rx hx) (h' s.toks)
end
end Mine
set_option tactic.hygienic false
namespace Mine
open PySem
section
variable {P:Pk}{r:Nat}{c:TC}
structure Pre(P:Pk)(r:Nat)(c:TC)(A:Around)(env:Env)(s:Shared)(m:St)(ow:List Nat)(own:Nat->Addr)(G:Addr->Prop):Prop where
 room:Room A r
 gp:P.GP s.heap
 er:EnvR P.H c env ow own G s.heap m
 new:∀ a,s.heap.get? a=none->G a
theorem Pre.keeps{A:Around}{env:Env}{s s':Shared}{m:St}{ow:List Nat}{own:Nat->Addr}{G:Addr->Prop}(p:Pre P r c A env s m ow own G)(k:Kp s s'):Pre P r c A env s' m ow own G:=
 ⟨p.room,p.gp.keeps k.get,p.er.keeps k.get,λa e=>p.new a (k.none e)⟩
theorem SE.use{e:PySem.Expr}{e':Ex}(h:P.SE r c e e'){A:Around}{env:Env}{s:Shared}{m:St}{ow:List Nat}{own:Nat->Addr}{G:Addr->Prop}{d:D}(p:Pre P r c A env s m ow own G)(hok:okE ow e'=true)(hev:evE P.Φ P.Γ e' m=some d)
 {Q:Value->Shared->Prop} (hq:∀ v s',PostE P ow own G e' d s v s'->Q v s'):wpAny (model P.prog P.w) A (eval e env) Q (λo_ o_=>False) s:=
 Qs (h A env s m ow own G d p.room p.gp p.er p.new hok hev) hq λo_ o_ x=>x
theorem SE.us{e:PySem.Expr}{e':Ex}(h:P.SE r c e e'){A:Around}{env:Env}{s:Shared}{m:St}{ow:List Nat}{own:Nat->Addr}{G:Addr->Prop}{d:D}(p:Pre P r c A env s m ow own G)(hok:okE ow e'=true)(hev:evE P.Φ P.Γ e' m=some d)
 {Q:Value->Shared->Prop} (hq:∀ v s',Kp s s'->∀ as,Rd P.H s'.heap v d as->(isOw ow e'=false->∀ a ∈ as,G a)->(isOw ow e'=true->flat d=true)->(frE e'=true->flat d=true->∀ a ∈ as,s.heap.get? a=none)->(isOw ow e'=true->∀ a ∈ as,a=ownA own e')->Q v s'):wpAny (model P.prog P.w) A (eval e env) Q (λo_ o_=>False) s:=
 SE.use h p hok hev λv s' q=>q.2.elim λas r=>hq v s' q.1 as r.1 r.2.1 r.2.2.1 r.2.2.2.1 r.2.2.2.2
theorem ST.use{e:PySem.Expr}{e':Ex}(h:P.ST r c e e'){A:Around}{env:Env}{s:Shared}{m:St}{ow:List Nat}{own:Nat->Addr}{G:Addr->Prop}{d:D}(p:Pre P r c A env s m ow own G)(hok:okE ow e'=true){b:Bool}(hev:evE P.Φ P.Γ e' m=some d)(ht:truth d=some b)
 {Q:Bool->Shared->Prop} (hq:∀ s',Kp s s'->Q b s'):wpAny (model P.prog P.w) A (isTrue e env (eval e env)) Q (λo_ o_=>False) s:=
 Qs (h A env s m ow own G d b p.room p.gp p.er p.new hok hev ht) (λb s' q=>by rw [q.1];exact hq s' q.2) λo_ o_ x=>x
theorem two{a b:PySem.Expr}{a' b':Ex}(ha:P.SE r c a a')(hb:P.SE r c b b'){A:Around}{env:Env}{s:Shared}{m:St}{ow:List Nat}{own:Nat->Addr}{G:Addr->Prop}{dx dy:D}(p:Pre P r c A env s m ow own G)
 (ha1:okE ow a'=true) (hb1:okE ow b'=true) (ha2:evE P.Φ P.Γ a' m=some dx) (hb2:evE P.Φ P.Γ b' m=some dy) {Q:Value->Value->Shared->Prop}
 (h:∀ x y s2 as bs,Kp s s2->Rd P.H s2.heap x dx as->Rd P.H s2.heap y dy bs->(isOw ow a'=false->∀ i ∈ as,G i)->(isOw ow a'=true->flat dx=true) ->
  (isOw ow b'=false->∀ i ∈ bs,G i)->(isOw ow b'=true->flat dy=true)->Q x y s2) :
 wpAny (model P.prog P.w) A (eval a env) (λx s1=>wpAny (model P.prog P.w) A (eval b env) (λy s2=>Q x y s2) (λo_ o_=>False) s1) (λo_ o_=>False) s:=by
 refine SE.us ha p ha1 ha2 λx s1 k1 as rx g1 f1 o_ o_=>?_;refine SE.us hb (p.keeps k1) hb1 hb2 λy s2 k2 bs ry g2 f2 o_ o_=>?_;exact h x y s2 as bs (k1.trans k2) (rx.keeps k2.get) ry g1 f1 g2 f2
theorem PostV.toE{ow:List Nat}{own:Nat->Addr}{G:Addr->Prop}{e':Ex}{d:D}{s s2 s':Shared}{v:Value}{U:Addr->Prop}(k:Kp s s2)(q:PostV P s2 U d v s')(hi:isOw ow e'=false)(hn:∀ a,s.heap.get? a=none->G a)(hU:∀ a,U a->G a):PostE P ow own G e' d s v s':=by
 refine byG λX_ g_=>?_;obtain ⟨k2,cs,rd,h1,h2⟩:=q;refine g_ ?_;refine ⟨k.trans k2,cs,rd,λo_ a m=>?_,λx=>(by rw [hi] at x;cases x),λo_ hf a m=>k.none (h2 hf a m),λx=>(by rw [hi] at x;cases x)⟩;exact (h1 a m).elim (λx=>hn a (k.none x)) (hU a)
theorem qr{l rr:PySem.Expr}{a b:Ex}{op:Operator}{pos:Pos}(ha:P.SE r c l a)(hb:P.SE r c rr b):P.SE r c (.BinOp l op rr pos) (.bin op a b):=by
 intro A env s m ow own G d hA hg R hG hok hev;simp only [vz,Qj] at hok;simp only [bh] at hev;refine aa hev λdx e1 hev=>?_;refine aa hev λdy e2 hev=>?_;refine wpAny_BinOp (two ha hb (⟨hA,hg,R,hG⟩) hok.1 hok.2 e1 e2 λx y s2 as bs k rx ry g1 f1 g2 f2=>?_);refine Qs (bop rx ry hev) (λv s' q=>PostV.toE k q rfl hG λa u=>?_) λo_ o_ x=>x;exact u.elim (rx.innG g1 f1 a) (ry.innG g2 f2 a)
theorem fe{op:CmpOp}{e:PySem.Expr}(h:isSet e=false):behindInMarks op e=false:=by
 cases e<;>first | rfl | cases h
theorem j9{l rr:PySem.Expr}{a b:Ex}{op:CmpOp}{pos:Pos}(hs:isSet rr=false)(ha:P.SE r c l a)(hb:P.SE r c rr b):P.SE r c (.Compare l [op] [rr] pos) (.cmp op a b):=by
 intro A env s m ow own G d hA hg R hG hok hev;have p:Pre P r c A env s m ow own G:=⟨hA,hg,R,hG⟩
 simp only [tL,Qj] at hok;simp only [dN] at hev;refine byG λX_ g_=>?_;refine aa hev λdx e1 hev=>?_;refine aa hev λdy e2 hev=>?_;obtain ⟨q,e3,rfl⟩:=ae hev;refine g_ ?_;exact wpAny_Compare1 (two ha hb p hok.1 hok.2 e1 e2 λx y s2 as bs k rx ry g1 f1 g2 f2=>cop hg.hs hA rx ry e3 (λtk=>PostE.flat0 (k.trans (Kp.toks s2 tk)) (.bool q) rfl rfl)) (fe hs)
theorem kb{l rr:PySem.Expr}{a b:Ex}{op:CmpOp}{pos:Pos}(hs:isSet rr=false)(ha:P.SE r c l a)(hb:P.SE r c rr b):P.ST r c (.Compare l [op] [rr] pos) (.cmp op a b):=by
 intro A env s m ow own G d bb hA hg R hG hok hev ht;have p:Pre P r c A env s m ow own G:=⟨hA,hg,R,hG⟩
 simp only [tL,Qj] at hok;simp only [dN] at hev;refine aa hev λdx e1 hev=>?_;refine aa hev λdy e2 hev=>?_;obtain ⟨q,e3,rfl⟩:=ae hev;refine wpAny_isTrue_Compare1 (two ha hb p hok.1 hok.2 e1 e2 λx y s2 as bs k rx ry g1 f1 g2 f2=>cop hg.hs hA rx ry e3 λtk=>?_) (fe hs);cases ht;exact ZU ⟨rfl,k.trans (Kp.toks s2 tk)⟩
theorem qs{o1 o2:CmpOp}{r1 r2:PySem.Expr}{b c':Ex}{pos:Pos}(hb:P.SE r c r1 b)(hc:P.SE r c r2 c'){A:Around}{env:Env}{s:Shared}{m:St}{ow:List Nat}{own:Nat->Addr}{G:Addr->Prop}(p:Pre P r c A env s m ow own G)(k1:okE ow b=true)(k2:okE ow c'=true)
 {x:Value} {dx:D} {as:List Addr} (rx:Rd P.H s.heap x dx as) {q:Bool} (hev:((evE P.Φ P.Γ b m).bind λy=>(bl o1 dx y).bind λr=>if r then (evE P.Φ P.Γ c' m).bind λz=>(bl o2 y z).map PyData.bool else some (.bool false))=some (.bool q))
 {Q:Value->Shared->Prop} (hq:∀ s',Kp s s'->Q (.bool q) s'):wpAny (model P.prog P.w) A (compareChain pos x [o1,o2] [eval r1 env,eval r2 env]) Q (λo_ o_=>False) s:=by
 refine aa hev λdy e1 hev=>?_;refine aa hev λb1 e2 hev=>?_;refine PyProof.Rows.chain_link (SE.us hb p k1 e1 λy s1 kp1 bs ry o_ o_ o_ o_=>?_);refine cop p.gp.hs p.room (rx.keeps kp1.get) ry e2 λtk=>ZU ?_;cases b1 with
 | false=>
  cases hev;exact hq _ (kp1.trans (Kp.toks s1 tk))
 | true=>
  refine aa hev λdz e3 hev=>?_;obtain ⟨b2,e4,hev⟩:=ae hev;cases hev;refine PyProof.Rows.chain_last (SE.us hc (p.keeps (kp1.trans (Kp.toks s1 tk))) k2 e3 λz s2 kp3 cs rz o_ o_ o_ o_=>?_);exact cop p.gp.hs p.room (ry.keeps ((Kp.toks s1 tk).trans kp3).get) rz e4 λtk2=>hq _ (((kp1.trans (Kp.toks s1 tk)).trans kp3).trans (Kp.toks s2 tk2))
theorem jf{o1 o2:CmpOp}{b c':Ex}{m:St}{dx d:D}(h:((evE P.Φ P.Γ b m).bind λy=>(bl o1 dx y).bind λr=>if r then (evE P.Φ P.Γ c' m).bind λz=>(bl o2 y z).map PyData.bool else some (.bool false))=some d):∃ q,d = .bool q:=by
 refine aa h λdy o_ h=>?_;refine aa h λb1 o_ h=>?_;cases b1 with
 | false=>cases h;exact ⟨_,rfl⟩
 | true=>
  refine aa h λdz o_ h=>?_;obtain ⟨b2,_,rfl⟩:=ae h;exact ⟨_,rfl⟩
theorem tV{l r1 r2:PySem.Expr}{a b c':Ex}{o1 o2:CmpOp}{pos:Pos}(hm:lastMarks [o1,o2] [r1,r2]=false)(ha:P.SE r c l a)(hb:P.SE r c r1 b)(hc:P.SE r c r2 c'):P.SE r c (.Compare l [o1,o2] [r1,r2] pos) (.cmp2 o1 o2 a b c'):=by
 intro A env s m ow own G d hA hg R hG hok hev;have p:Pre P r c A env s m ow own G:=⟨hA,hg,R,hG⟩
 replace hok:(okE ow a&&okE ow b&&okE ow c')=true:=hok;rw [Qj,Qj] at hok;rw [nv] at hev;refine byG λX_ g_=>?_;refine aa hev λdx e1 hev=>?_;obtain ⟨q,rfl⟩:=jf hev;refine g_ ?_;refine PyProof.Rows.Compare_chain (SE.us ha p hok.1.1 e1 λx s1 k1 as rx o_ o_ o_ o_=>?_) hm;exact qs hb hc (p.keeps k1) hok.1.2 hok.2 rx hev λs' k=>PostE.flat0 (k1.trans k) (.bool q) rfl rfl
theorem tW{l r1 r2:PySem.Expr}{a b c':Ex}{o1 o2:CmpOp}{pos:Pos}(hm:lastMarks [o1,o2] [r1,r2]=false)(ha:P.SE r c l a)(hb:P.SE r c r1 b)(hc:P.SE r c r2 c'):P.ST r c (.Compare l [o1,o2] [r1,r2] pos) (.cmp2 o1 o2 a b c'):=by
 intro A env s m ow own G d bb hA hg R hG hok hev ht;have p:Pre P r c A env s m ow own G:=⟨hA,hg,R,hG⟩
 replace hok:(okE ow a&&okE ow b&&okE ow c')=true:=hok;rw [Qj,Qj] at hok;rw [nv] at hev;refine aa hev λdx e1 hev=>?_;refine PyProof.Rows.isTrue_chain (SE.us ha p hok.1.1 e1 λx s1 k1 as rx o_ o_ o_ o_=>?_) hm;refine aa hev λdy e1 hev=>?_;refine aa hev λb1 e2 hev=>?_;refine PyProof.Rows.test_link (SE.us hb (p.keeps k1) hok.1.2 e1 λy s1 kp1 bs ry o_ o_ o_ o_=>?_);refine cop p.gp.hs p.room (rx.keeps kp1.get) ry e2 λtk=>ZU ?_;have kp2:=(k1.trans kp1).trans (Kp.toks s1 tk);cases b1 with
 | false=>
  cases hev;cases ht;exact ⟨rfl,kp2⟩
 | true=>
  refine byG λX_ g_=>?_;refine aa hev λdz e3 hev=>?_;obtain ⟨b2,e4,hev⟩:=ae hev;refine g_ ?_;cases hev;cases ht;refine PyProof.Rows.test_last (SE.us hc (p.keeps kp2) hok.2 e3 λz s2 kp3 cs rz o_ o_ o_ o_=>?_);exact cop p.gp.hs p.room (ry.keeps ((Kp.toks s1 tk).trans kp3).get) rz e4 λtk2=>ZU ⟨rfl,(kp2.trans kp3).trans (Kp.toks s2 tk2)⟩
theorem qu{e:PySem.Expr}{e':Ex}(h:P.SE r c e e')(hp:∀ env:Env,isTrue e env (eval e env)=(do let v <- eval e env;standAt e.pos;holding [v] (truthy v))):P.ST r c e e':=by
 intro A env s m ow own G d b hA hg R hG hok hev ht;refine PyProof.Rows.isTrue_plain (SE.us h (⟨hA,hg,R,hG⟩) hok hev λv s' k as rd o_ o_ o_ o_=>?_) (hp env);exact fU rd ht λtk=>⟨rfl,k.trans (Kp.toks s' tk)⟩
end
end Mine
set_option tactic.hygienic false
namespace Mine
open PySem
inductive SEL (P:Pk) (r:Nat) (c:TC):List PySem.Expr->Exs->Prop
 | nil:SEL P r c [] .nil
 | cons {e:PySem.Expr} {e':Ex} {es:List PySem.Expr} {es':Exs}:isStar e=false->P.SE r c e e'->P.ST r c e e'->SEL P r c es es'->SEL P r c (e::es) (.cons e' es')
theorem ak{e:PySem.Expr}(h:isStar e=false)(es:List PySem.Expr)(env:Env):starEach (e::es) env=(false,eval e env)::starEach es env:=by
 cases e<;>first | rfl | cases h
section
variable {P:Pk}{r:Nat}{c:TC}
theorem cw{ow:List Nat}{e:Ex}{es:Exs}(h:okEs ow (.cons e es)=true):okE ow e=true/\okEs ow es=true:=Qz h
theorem fV{ow:List Nat}{e:Ex}{es:Exs}(h:nmEs ow (.cons e es)=true):isOw ow e=false/\nmEs ow es=true:=by
 have:=Qz (show (!isOw ow e&&nmEs ow es)=true from h);exact ⟨(QS _).mp this.1,this.2⟩
theorem dP{pos:Pos}{es:List PySem.Expr}{es':Exs}(h:SEL P r c es es'):∀ {A:Around} {env:Env} {s:Shared} {m:St} {ow:List Nat} {own:Nat->Addr} {G:Addr->Prop} {ds:List D},Pre P r c A env s m ow own G ->
 okEs ow es'=true->evEs P.Φ P.Γ es' m=some ds->∀ {Q:List Value->Shared->Prop},(∀ vs s' as,Kp s s'->RdAll P.H s'.heap vs ds as->(nmEs ow es'=true->∀ a ∈ as,G a)->Q vs s') ->
 wpAny (model P.prog P.w) A (spliced (backTo pos (starEach es env))) Q (λo_ o_=>False) s:=by
 induction h with
 | nil=>
  intro A env s m ow own G ds _ _ hev Q h;cases Qv (show some []=some ds from hev);exact Calls.spliced_nil (h [] s [] (Kp.refl s) .nil λo_ o_ q=>(nomatch q))
 | @cons e e' es es' hs h1 _ h2 ih=>
  intro A env s m ow own G ds p hok hev Q h;refine byG λX_ g_=>?_;obtain ⟨hk1,hk2⟩:=cw hok;refine aa hev λd e1 hev=>?_;obtain ⟨dr,e2,rfl⟩:=ae hev;refine g_ ?_;refine Zv (SE.us h1 p hk1 e1 λv s1 k1 as rd g1 o_ o_ o_=>?_) (ak hs es env);refine ih (p.keeps k1) hk2 e2 λvs s2 bs k2 rs g2=>h (v::vs) s2 (as++bs) (k1.trans k2) (.cons (rd.keeps k2.get) rs) λhn a q=>?_;obtain ⟨n1,n2⟩:=fV hn;exact (QY q).elim (g1 n1 a) (g2 n2 a)
theorem fW{Φ:Str->List D->Option D}{Γ:Str->Option D}{m:St}{es':Exs}{es:List PySem.Expr}(h:SEL P r c es es'):∀ {ds:List D},evEs Φ Γ es' m=some ds->ds.length=es.length:=by
 induction h with
 | nil=>intro ds h;cases Qv (show some []=some ds from h);rfl
 | cons _ _ _ h2 ih=>
  intro ds h;refine aa h λd o_ h=>?_;obtain ⟨dr,e2,rfl⟩:=ae h;rw [QV,QV,ih e2]
theorem qv{es:List PySem.Expr}{es':Exs}{k:Nat}{pos:Pos}(hl:es.length<=100)(h:SEL P r c es es'):P.SE r c (.Tuple es k pos) (.tup es'):=by
 intro A env s m ow own G d hA hg R hG hok hev;simp only [vx,Qj] at hok;simp only [cB] at hev;obtain ⟨ds,e1,rfl⟩:=ae hev;refine PyProof.Rows.Tuple_ (dP h (⟨hA,hg,R,hG⟩) hok.1 e1 λvs s' as k rs g=>?_);have hz:vs.length<=sizeLine:=by rw [rs.length,fW h e1];exact QQ hl (by decide)
 refine Z0 ?_ (by show vs.toArray.size<=sizeLine;exact hz);exact PostV.toE k (PostV.newTuple (U:=G) (hz) (rs) λa q=>.inr (g hok.2 a q)) rfl hG λo_ u=>u
theorem tX{es:List PySem.Expr}{es':Exs}{pos:Pos}(hl:es.length<=100)(h:SEL P r c es es'):P.SE r c (.List es pos) (.lst es'):=by
 intro A env s m ow own G d hA hg R hG hok hev;have p:Pre P r c A env s m ow own G:=⟨hA,hg,R,hG⟩
 simp only [vy,Qj] at hok;simp only [hY] at hev;obtain ⟨ds,e1,rfl⟩:=ae hev;refine PyProof.Rows.List_ (dP h p hok.1 e1 λvs s' as k rs g=>?_);have hz:vs.length<=sizeLine:=by rw [rs.length,fW h e1];exact QQ hl (by decide)
 refine Z0 ?_ (by show vs.toArray.size<=sizeLine;exact hz);exact PostV.toE k (PostV.newList (U:=G) (hz) (rs) λa q=>.inr (g hok.2 a q)) rfl hG λo_ u=>u
theorem qw{op:PySem.BoolOp}{pos:Pos}{es:List PySem.Expr}{es':Exs}(h:SEL P r c es es'):∀ {A:Around} {env:Env} {s:Shared} {m:St} {ow:List Nat} {own:Nat->Addr} {G:Addr->Prop} {d:D},Pre P r c A env s m ow own G ->
 okEs ow es'=true->nmEs ow es'=true->evB P.Φ P.Γ (op == .And) es' m=some d ->
 wpAny (model P.prog P.w) A (boolOp pos op (evalEach es env)) (λv s'=>Kp s s'/\∃ as,Rd P.H s'.heap v d as/\∀ a ∈ as,G a) (λo_ o_=>False) s:=by
 induction h with
 | nil=>intro A env s m ow own G d _ _ _ hev;cases (show none=some d from hev)
 | @cons e e' es es' hs h1 _ h2 ih=>
  intro A env s m ow own G d p hok hn hev;have hk2:=(cw hok).2;have n1:=(fV hn).1;have n2:=(fV hn).2;cases h2 with
  | nil=>
   show wpAny _ A (eval e env) _ _ s;refine SE.us h1 p ((cw hok).1) hev λv s1 k1 as rd g1 o_ o_ o_=>?_;exact ⟨k1,as,rd,g1 n1⟩
  | @cons f f' es es' hs2 h3 h4 h5=>
   refine aa hev λdx e1 hev=>?_;refine aa hev λb e2 hev=>?_;show wpAny _ A (do
    let v <- eval e env
    standAt pos
    let t <- holding [v] (truthy v)
    match op,t with
    | .And,false | .Or,true=>pure v
    | _,_=>boolOp pos op (evalEach (f::es) env)) _ _ s
   refine Qd (SE.us h1 p ((cw hok).1) e1 λv s1 k1 as rd g1 o_ o_ o_=>?_);refine Qd (Yy (Qd (Zl (fU rd e2 λtk=>?_))));have k2:Kp s { s1 with toks:=tk }:=k1.trans (Kp.toks s1 tk)
   by_cases hb:b=(op == .And)
   ·rw [Ql hb] at hev
    subst hb;have:=Qs (Q':=λv s'=>Kp s s'/\∃ as,Rd P.H s'.heap v d as/\∀ a ∈ as,G a) (ih (p.keeps k2) hk2 n2 hev) (λv' s' q=>⟨k2.trans q.1,q.2⟩) λo_ o_ x=>x;cases op<;>exact this
   ·rw [Qu hb] at hev
    cases hev;cases op<;>cases b<;>first | exact Qg ⟨k2,as,rd,(g1 n1)⟩ | exact absurd rfl hb
theorem oh{op:PySem.BoolOp}{vs:List PySem.Expr}{es':Exs}{pos:Pos}(h:SEL P r c vs es'):P.SE r c (.BoolOp op vs pos) (.bool (op == .And) es'):=by
 intro A env s m ow own G d hA hg R hG hok hev;simp only [nP,Qj] at hok;simp only [cr] at hev;rw [arm_eval_BoolOp];refine Qs (qw h (⟨hA,hg,R,hG⟩) hok.1 hok.2 hev) (λv s' q=>?_) λo_ o_ x=>x;obtain ⟨k,as,rd,g⟩:=q;exact ⟨k,as,rd,λo_=>g,λq=>(by cases q),λq=>(by cases q),λq=>(by cases q)⟩
theorem mq{op:PySem.BoolOp}{pos:Pos}{whole:Sem Value}{es:List PySem.Expr}{es':Exs}(h:SEL P r c es es'):∀ {A:Around} {env:Env} {s:Shared} {m:St} {ow:List Nat} {own:Nat->Addr} {G:Addr->Prop} {d:D} {b:Bool},Pre P r c A env s m ow own G ->
 okEs ow es'=true->evB P.Φ P.Γ (op == .And) es' m=some d->truth d=some b ->
 wpAny (model P.prog P.w) A (isTrue (.BoolOp op es pos) env whole) (λb' s'=>b'=b/\Kp s s') (λo_ o_=>False) s:=by
 induction h with
 | nil=>intro A env s m ow own G d b _ _ hev;cases (show none=some d from hev)
 | @cons e e' es es' hs _ h1 h2 ih=>
  intro A env s m ow own G d b p hok hev ht;have hk1:=(cw hok).1;have hk2:=(cw hok).2;cases h2 with
  | nil=>
   cases op with
   | And=>
    refine PyProof.Rows.isTrue_and (ST.use h1 p hk1 hev ht λs' k=>?_);cases b with
    | true=>exact PyProof.Rows.isTrue_and_nil ⟨rfl,k⟩
    | false=>exact ⟨rfl,k⟩
   | Or=>
    refine PyProof.Rows.isTrue_or (ST.use h1 p hk1 hev ht λs' k=>?_);cases b with
    | true=>exact ⟨rfl,k⟩
    | false=>exact PyProof.Rows.isTrue_or_nil ⟨rfl,k⟩
  | @cons f f' es es' hs2 h3 h4 h5=>
   refine aa hev λdx e1 hev=>?_;refine aa hev λbx e2 hev=>?_;have rest:bx=(op == .And)->∀ s',Kp s s'->wpAny (model P.prog P.w) A (isTrue (.BoolOp op (f::es) pos) env whole) (λb' s''=>b'=b/\Kp s s'') (λo_ o_=>False) s':=λhb s' k=>by
    rw [Ql hb] at hev;exact Qs (ih (p.keeps k) hk2 hev ht) (λv' s' q=>⟨q.1,k.trans q.2⟩) λo_ o_ x=>x
   have stop:bx ≠ (op == .And)->bx=b:=λhb=>by
    rw [Qu hb] at hev;cases hev;exact Qv (e2.symm.trans ht)
   cases op with
   | And=>
    refine PyProof.Rows.isTrue_and (ST.use h1 p hk1 e1 e2 λs' k=>?_);cases bx with
    | true=>exact rest rfl s' k
    | false=>exact ⟨stop (by decide),k⟩
   | Or=>
    refine PyProof.Rows.isTrue_or (ST.use h1 p hk1 e1 e2 λs' k=>?_);cases bx with
    | true=>exact ⟨stop (by decide),k⟩
    | false=>exact rest rfl s' k
theorem ol{op:PySem.BoolOp}{vs:List PySem.Expr}{es':Exs}{pos:Pos}(h:SEL P r c vs es'):P.ST r c (.BoolOp op vs pos) (.bool (op == .And) es'):=by
 intro A env s m ow own G d b hA hg R hG hok hev ht;simp only [nP,Qj] at hok;simp only [cr] at hev;exact mq h ⟨hA,hg,R,hG⟩ hok.1 hev ht
theorem vG{x:PySem.Expr}{a:Ex}{pos:Pos}(h:P.SE r c x a):P.SE r c (.UnaryOp .Not x pos) (.not a):=by
 intro A env s m ow own G d hA hg R hG hok hev;simp only [tK] at hok;simp only [p7] at hev;refine byG λX_ g_=>?_;refine aa hev λdx e1 hev=>?_;obtain ⟨b,e2,rfl⟩:=ae hev;refine g_ ?_;refine wpAny_UnaryOp (SE.us h ⟨hA,hg,R,hG⟩ hok e1 λv s' k as rd o_ o_ o_ o_=>?_);exact PyProof.Rows.not_of (fU rd e2 λtk=>PostE.flat0 (k.trans (Kp.toks s' tk)) (.bool _) rfl rfl)
theorem vH{x:PySem.Expr}{a:Ex}{pos:Pos}(h:P.ST r c x a):P.ST r c (.UnaryOp .Not x pos) (.not a):=by
 intro A env s m ow own G d b hA hg R hG hok hev ht;simp only [tK] at hok;simp only [p7] at hev;refine aa hev λdx e1 hev=>?_;obtain ⟨b',e2,rfl⟩:=ae hev;cases ht;exact PyProof.Rows.isTrue_not (ST.use h ⟨hA,hg,R,hG⟩ hok e1 e2 λs' k=>⟨rfl,k⟩)
theorem vI{x:PySem.Expr}{a:Ex}{pos:Pos}(h:P.SE r c x a):P.SE r c (.UnaryOp .USub x pos) (.neg a):=by
 intro A env s m ow own G d hA hg R hG hok hev;simp only [vA] at hok;simp only [u6] at hev;refine aa hev λdx e1 hev=>?_;refine wpAny_UnaryOp (SE.us h ⟨hA,hg,R,hG⟩ hok e1 λv s' k as rd o_ o_ o_ o_=>?_);obtain ⟨i,e2,rfl⟩:=ae hev;rw [bD e2] at rd;cases rd using Rd.intE
 exact PyProof.Rows.neg_int (PostE.flat0 (k.trans (Kp.toks s' _)) (.int _ _) rfl rfl)
end
end Mine
set_option tactic.hygienic false
namespace Mine
open PySem
set_option tactic.hygienic true in
theorem aG{n k:Nat}{i:Int}(h:aL n i=some k):seqIndex? i n=some k/\k < n/\-(n:Int)<=i/\i < n:=by
 unfold aL at h;unfold seqIndex?;split at h
 ·split at h
  ·cases h
   rename_i h1 h2;refine ⟨?_,(Z5 h1).mpr h2,Qt (Int.neg_nonpos_of_nonneg (Zq n)) h1,by exact h2⟩;have : ¬ i < 0:=ZB.mpr h1;simp only [this,if_false];rw [Ql (by simp;exact ⟨h1,h2⟩)]
  ·cases h
 ·split at h
  ·cases h
   rename_i h1 h2;have this:=Yr.mp h1;have p:0<=i+(n:Int):=Int.add_left_neg (n:Int) ▸ Int.add_le_add_right h2 n;have q:i+(n:Int) < n:=Zf (Int.add_lt_add_right this n) (ZD (Int.zero_add _));refine ⟨?_,(Z5 p).mpr q,by exact h2,Zf this (Zq n)⟩;simp only [this,if_true];rw [Ql (by simp;exact ⟨p,q⟩)]
  ·cases h
theorem kc{n k:Nat}{i:Int}(h:aL n i=some k)(hi:0<=i):k=i.toNat:=by
 unfold aL at h;rw [Ql hi] at h
 by_cases q:i < (n:Int)
 ·rw [Ql q] at h;exact (Qv h).symm
 ·rw [Qu q] at h;cases h
theorem ke{n k:Nat}{i:Int}(h:aL n i=some k)(hi : ¬ 0<=i):k=(i+n).toNat:=by
 unfold aL at h;rw [Qu hi] at h
 by_cases q : -(n:Int)<=i
 ·rw [Ql q] at h;exact (Qv h).symm
 ·rw [Qu q] at h;cases h
theorem jg{x:Str}{k c:Nat}(h:PyData.strOk x=true)(e:x.cps[k]?=some c):PyData.strOk ⟨#[c]⟩=true:=by
 unfold PyData.strOk at *;rw [<- Array.all_toList,ZK] at h;have:=h c (by
  obtain ⟨hk,rfl⟩:=Array.getElem?_eq_some_iff.mp e;exact Array.mem_toList_iff.mpr (Array.getElem_mem hk))
 simpa using this
section
variable {P:Pk}{r:Nat}{c:TC}{A:Around}{s:Shared}
theorem om{x y d:D}(h:item x y=some d):(∃ xs i,x = .list xs/\y = .int i/\((aL xs.length i).bind λk=>xs[k]?)=some d)\/(∃ xs i,x = .tuple xs/\y = .int i/\((aL xs.length i).bind λk=>xs[k]?)=some d)\/∃ s i,x = .str s/\y = .int i/\((aL s.length i).bind λk=>(s.cps[k]?).map λc=>PyData.str ⟨#[c]⟩)=some d:=by
 cases x<;>first | (cases h;done) | (cases y<;>first | (cases h;done) | exact .inl ⟨_,_,rfl,rfl,h⟩ | exact .inr (.inl ⟨_,_,rfl,rfl,h⟩) | exact .inr (.inr ⟨_,_,rfl,rfl,h⟩))
theorem szB{n:Nat}{i:Int}(h:n<=sizeLine)(h3 : -(n:Int)<=i)(h4:i < n) : -2 ^ 63<=i/\i < 2 ^ 63:=
 have q:(n:Int) < 2 ^ 63:=QH (QB.mpr h) (by decide)
 ⟨Qt (Int.neg_le_neg (XX q)) h3,Yw h4 q⟩
theorem getI{x y:Value}{dx dy d:D}{as bs:List Addr}(rx:Rd P.H s.heap x dx as)(ry:Rd P.H s.heap y dy bs)(he:item dx dy=some d){Q:Value->Shared->Prop}{E:Value->Shared->Prop}
 (h:∀ v tk cs,Rd P.H s.heap v d cs->(∀ a ∈ cs,a ∈ inn dx as)->Q v { s with toks:=tk }):wpAny (model P.prog P.w) A (getItem x y) Q E s:=by
 have hz:(sizeLine:Int) < 2 ^ 62:=by decide
 rcases om he with ⟨xs,i,rfl,rfl,he⟩ | ⟨xs,i,rfl,rfl,he⟩ | ⟨x,i,rfl,rfl,he⟩
 ·refine aa he λk e1 e2=>?_
  have h1:=(aG e1).1;have h2:=(aG e1).2.1;have h3:=(aG e1).2.2.1;have h4:=(aG e1).2.2.2;cases rx using Rd.listE with
  | @mk a vs n as' ho hs ra=>
   cases ry using Rd.intE with
   | mk t=>
    obtain ⟨v,cs,ev,rv,hc⟩:=ra.get e2;have hl:=ra.length;simp only [QJ] at hl;have hv:vs[k]?=some v:=by rw [<- Zb];exact ev
    by_cases hi:0<=i
    ·have:=kc e1 hi
     subst this;exact wpAny_getItem_list ⟨_,ho,rfl,_,rfl⟩ hi (szB (hl ▸ hs) h3 h4).2 hv (h v s.toks cs rv hc)
    ·have:=ke e1 hi
     rw [<- hl] at this;subst this;exact wpAny_getItem_list_neg ⟨_,ho,rfl,_,rfl⟩ (Yr.mp hi) (by rw [hl];exact h3) (szB (hl ▸ hs) h3 h4).1 hv (h v s.toks cs rv hc)
 ·refine aa he λk e1 e2=>?_
  have h1:=(aG e1).1;have h2:=(aG e1).2.1;have h3:=(aG e1).2.2.1;have h4:=(aG e1).2.2.2;cases rx using Rd.tupleE with
  | @mk a vs n as' ho hs ra=>
   cases ry using Rd.intE with
   | mk t=>
    obtain ⟨v,cs,ev,rv,hc⟩:=ra.get e2;have hl:=ra.length;simp only [QJ] at hl;have hv:vs[k]?=some v:=by rw [<- Zb];exact ev
    exact PyProof.Rows.getItem_tuple ⟨_,ho,rfl,_,rfl⟩ (szB (hl ▸ hs) h3 h4).1 (szB (hl ▸ hs) h3 h4).2 (by rw [hl];exact h1) hv (h v s.toks cs rv hc)
 ·refine aa he λk e1 he=>?_
  obtain ⟨cp,e2,rfl⟩:=ae he;have h1:=(aG e1).1;have h2:=(aG e1).2.1;have h3:=(aG e1).2.2.1;have h4:=(aG e1).2.2.2;cases rx using Rd.strE with
  | mk t hs ho=>
   cases ry using Rd.intE with
   | mk u=>
    refine PySem.P.getItem_str (by simp only [YB,Zg];exact ⟨ZB.mpr (szB hs h3 h4).1,Yr.mpr (szB hs h3 h4).2⟩) (by rw [h1];exact e2) (h _ _ [] (.str _ _ (by show 1<=sizeLine;decide) (jg ho e2)) λ_ q=>(nomatch q))
theorem fg{x:Value}{dx dy d:D}{as:List Addr}(rx:Rd P.H s.heap x dx as)(he:item dx dy=some d):∃ T id,s.TypeIs x T/\typeLookup (.type T) "__getitem__" = pure (some (.builtin id)):=by
 cases rx with
 | list ho _ _=>exact ⟨_,_,⟨_,ho,rfl⟩,slot_list_getitem.lookup⟩
 | tuple ho _ _=>exact ⟨_,_,⟨_,ho,rfl⟩,F.slot_tuple_getitem.lookup⟩
 | str x t=>exact ⟨_,_,typeIs_str s x t,F.slot_str_getitem.lookup⟩
 | _=>cases he
theorem fh{slice:PySem.Expr}(h:cU slice=false)(o i:Value):subscripted slice false o i=operate [o,i] (getItem o i):=by
 cases slice<;>first | rfl | cases h
theorem vJ{v i:PySem.Expr}{a b:Ex}{pos:Pos}(hs:cU i=false)(ha:P.SE r c v a)(hb:P.SE r c i b):P.SE r c (.Subscript v i pos) (.idx a b):=by
 intro A env s m ow own G d hA hg R hG hok hev;have p:Pre P r c A env s m ow own G:=⟨hA,hg,R,hG⟩
 simp only [vB,Qj] at hok;simp only [bj] at hev;refine aa hev λdx e1 hev=>?_;refine aa hev λdy e2 hev=>?_;refine Xj (two ha hb p hok.1 hok.2 e1 e2 λx y s2 as bs k rx ry g1 f1 g2 f2=>?_);refine byG λX_ g_=>?_;obtain ⟨T,id,hT,hl⟩:=fg rx hev;refine g_ ?_;refine Yo hT hl (getI rx ry hev λv tk cs rd hc=>?_) (fh hs x y);exact ⟨k.trans (Kp.toks s2 tk),cs,rd,λ_ q m=>rx.innG g1 f1 q (hc q m),λq=>(by cases q),λq=>(by cases q),λq=>(by cases q)⟩
theorem cW(n:Nat){i:Int}(h:i < 0):(i+n).toNat=n - (-i).toNat:=by
 have e:(((-i).toNat:Nat):Int) = -i:=Zp (Int.neg_nonneg_of_nonpos (XX h));rw [show i+(n:Int)=n - (((-i).toNat:Nat):Int) by rw [e,Int.sub_neg,Yb]];exact Int.toNat_sub ..
theorem adj1(n:Nat)(x:Int):(if x < 0 then max (x+n) 0 else min x n)=(((if x < 0 then n - (-x).toNat else min x.toNat n):Nat):Int):=by
 split
 ·rename_i h;rw [<- cW n h];exact (Int.ofNat_toNat _).symm
 ·rename_i h
  refine (Int.eq_ofNat_of_zero_le (ZB.mp h)).elim λk e=>?_;rw [e];show min (k:Int) n=((min k n:Nat):Int)
  by_cases q:k<=n
  ·rw [YD q];exact Int.min_eq_left (QB.mpr q)
  ·have q:=Nat.le_of_not_le q
   rw [Nat.min_eq_right q];exact Int.min_eq_right (QB.mpr q)
theorem mr(n:Nat)(i:Int):cm n i=(if i < 0 then n - (-i).toNat else min i.toNat n):=by
 unfold cm;split
 ·rename_i h;exact cW n h
 ·rfl
theorem jh{α:Type}(xs:List α)(lo hi:Option Int):cut xs lo hi=(xs.drop (PySem.W.kms_lo lo xs.length)).take (PySem.W.kms_hi hi xs.length - PySem.W.kms_lo lo xs.length):=by
 unfold cut PySem.W.kms_lo PySem.W.kms_hi;cases lo<;>cases hi<;>simp only [XK,mX,Xx,Zr,mr]
theorem qx(items:Array Value)(lo hi:Option Int):slicePick items lo hi none=(cut items.toList lo hi).toArray:=by
 rw [PySem.W.kms_pick_eq,jh];rfl
theorem RdAll.cut{H:D->Int}{h:Heap}{vs:List Value}{ds:List D}{as:List Addr}(ra:RdAll H h vs ds as)(lo hi:Option Int):∃ bs,RdAll H h (cut vs lo hi) (cut ds lo hi) bs/\∀ a ∈ bs,a ∈ as:=by
 rw [jh,jh,ra.length];refine byG λX_ g_=>?_;obtain ⟨b1,r1,q1⟩:=ra.drop (PySem.W.kms_lo lo ds.length);obtain ⟨b2,r2,q2⟩:=r1.take (PySem.W.kms_hi hi ds.length - PySem.W.kms_lo lo ds.length);refine g_ ?_;exact ⟨b2,r2,λa m=>q1 a (q2 a m)⟩
theorem kg{α:Type}(xs:List α)(lo hi:Option Int):(cut xs lo hi).length<=xs.length:=by
 unfold cut;simp only [ZF,List.length_drop];exact QQ (Yq ..) (XZ ..)
theorem on{v:Value}{d:D}{as:List Addr}{o:Option Int}(rd:Rd P.H s.heap v d as)(h:intO (some d)=some o):IsPart v o:=by
 cases rd<;>first | (cases h;done) | (cases h;exact .int _ _)
theorem ms(lo hi:Option Int)(n:Nat):Builtin.Slice.sliceAdjust lo hi 1 (n:Int)=(((PySem.W.kms_lo lo n:Nat):Int),((PySem.W.kms_hi hi n:Nat):Int)):=by
 have h1 : ¬ ((1:Int) < 0):=by decide
 unfold Builtin.Slice.sliceAdjust PySem.W.kms_lo PySem.W.kms_hi;simp only [h1,if_false];refine Prod.ext ?_ ?_
 ·cases lo with
  | none=>rfl
  | some x=>exact adj1 n x
 ·cases hi with
  | none=>rfl
  | some x=>exact adj1 n x
theorem fi{v:Value}{o:Option Int}(h:IsPart v o){Q:Option Int->Shared->Prop}{E:Value->Shared->Prop}(hq:Q o s):wpAny (model P.prog P.w) A (Builtin.Slice.slicePartIndex v) Q E s:=by
 cases h with
 | none=>exact PyProof.Rows.slicePart_none hq
 | int i t=>exact PyProof.Rows.slicePart_int hq
theorem fX{sl:Addr}{vl vu:Value}{lo hi:Option Int}{n:Nat}{Q:Int × Int × Nat->Shared->Prop}{E:Value->Shared->Prop}(hs:s.heap.IsSliceOf sl vl vu .none)(pl:IsPart vl lo)(pu:IsPart vu hi)
 (h:Q (((PySem.W.kms_lo lo n:Nat):Int),1,PySem.W.kms_hi hi n - PySem.W.kms_lo lo n) s) :
 wpAny (model P.prog P.w) A (Builtin.Slice.sliceApplied (.ref sl) (pure (n:Int))) Q E s:=by
 refine byG λX_ g_=>?_;obtain ⟨os,hos,hcs,hds⟩:=id hs;refine g_ ?_;unfold Builtin.Slice.sliceApplied Builtin.Slice.sliceFields;refine Qd (Qd (wpAny_field hos hds (x:=vl) rfl (Qd (wpAny_field hos hds (x:=vu) rfl (Qd (wpAny_field hos hds (x:=.none) rfl (Qg ?_)))))));refine Qd (PyProof.Rows.slicePart_none ?_);show wpAny _ _ (if ((1:Int) == 0)=true then _ else _) _ _ s;rw [Qu (by decide)];refine Qd (fi pl (Qd (fi pu (Qd (Qg ?_)))));show wpAny _ _ (match Builtin.Slice.sliceAdjust lo hi 1 (n:Int) with | (lo,hi)=>pure (lo,(1:Int),Builtin.Slice.slicePlaces lo hi 1)) _ _ s;rw [ms];show wpAny _ _ (pure (((PySem.W.kms_lo lo n:Nat):Int),(1:Int),Builtin.Slice.slicePlaces ((PySem.W.kms_lo lo n:Nat):Int) ((PySem.W.kms_hi hi n:Nat):Int) 1)) _ _ s;have e:Builtin.Slice.slicePlaces ((PySem.W.kms_lo lo n:Nat):Int) ((PySem.W.kms_hi hi n:Nat):Int) 1=PySem.W.kms_hi hi n - PySem.W.kms_lo lo n:=by
  unfold Builtin.Slice.slicePlaces;have h1:(1:Int) > 0:=by decide
  simp only [h1,if_true,Int.ediv_one];split
  ·rw [Int.sub_add_cancel];exact Int.toNat_sub ..
  ·rename_i h;exact (Nat.sub_eq_zero_of_le (QB.mp (ZB.mp h))).symm
 rw [e];exact Qg h
theorem oo{α:Type}(xs:List α)(lo hi:Option Int)(h1:PySem.W.kms_lo lo xs.length=0)(h2:PySem.W.kms_hi hi xs.length - PySem.W.kms_lo lo xs.length=xs.length):cut xs lo hi=xs:=by
 rw [jh,h2,h1];simp
theorem dQ{t sl:Addr}{items:Array Value}{n:Nat}{vl vu:Value}{lo hi:Option Int}{Q:Value->Shared->Prop}{E:Value->Shared->Prop}(ht:s.heap.get? t=some (tupObj items n))(hs:s.heap.IsSliceOf sl vl vu .none)(pl:IsPart vl lo)(pu:IsPart vu hi)
 (hsz:items.size<=sizeLine) (h0:cut items.toList lo hi=items.toList->Q (.ref t) s)
 (h:Q (.ref s.heap.objs.size) { s with heap:=s.heap.push (tupObj (cut items.toList lo hi).toArray 0) }):wpAny (model P.prog P.w) A (getItem (.ref t) (.ref sl)) Q E s:=by
 have htt:PyProof.Rows.IsTup s.heap t items:=⟨_,ht,rfl,_,rfl⟩
 have hcut:sizeOk (.seq (cut items.toList lo hi).toArray):=by
  show (cut items.toList lo hi).toArray.size<=sizeLine;rw [Ym];exact QQ (kg _ _ _) (hsz)
 obtain ⟨os,hos,hcs,hds⟩:=id hs;unfold getItem
 try with_reducible refine Zl ?_
 first | refine Qd (Qg ?_) | skip
 refine Qd (wpAny_sequenceKey htt.typeIs (by decide) ?_);refine Qd (wpAny_callSpecial?_slot (name:=Str.ofString "__getitem__") htt.typeIs PyProof.Rows.slot_tuple_getitem
  (wpAny_call_entry PyProof.Rows.slot_tuple_getitem htt.typeIs PyProof.Rows.entry_tuple_getitem ?_ (PyProof.Rows.args_tuple_getitem _ _)))
 show wpAny _ _ (Builtin.Tuple.tupleItemsOf (.ref t) >>= _) _ _ s;refine Qd (PyProof.Rows.tupleItemsOf_ htt ?_);refine Qd (wpAny_typeOf (⟨os,hos,hcs⟩) ?_);rw [Ql (by decide)];refine Qd (fX hs pl pu ?_);have pick:((List.range (PySem.W.kms_hi hi items.size - PySem.W.kms_lo lo items.size)).filterMap λ(k:Nat)=>items[(((PySem.W.kms_lo lo items.size:Nat):Int)+(k:Int) * 1).toNat]?).toArray=(cut items.toList lo hi).toArray:=by
  have e:(λ(k:Nat)=>items[(((PySem.W.kms_lo lo items.size:Nat):Int)+(k:Int) * 1).toNat]?)=λk=>items[PySem.W.kms_lo lo items.size+k]?:=by
   funext k
   have:(((PySem.W.kms_lo lo items.size:Nat):Int)+(k:Int) * 1).toNat=PySem.W.kms_lo lo items.size+k:=by rw [Int.mul_one];rfl
   rw [this]
  rw [e,jh,QJ];have:=pick_run items (PySem.W.kms_lo lo items.size) (PySem.W.kms_hi hi items.size - PySem.W.kms_lo lo items.size);rw [List.filterMap_map] at this;have e2:((λx=>items[x]?) ∘ λx=>PySem.W.kms_lo lo items.size+x)=λk=>items[PySem.W.kms_lo lo items.size+k]?:=rfl;rw [e2] at this;rw [this]
 show wpAny _ _ (if (((PySem.W.kms_lo lo items.size:Nat):Int) == 0&&(1:Int) == 1&&(PySem.W.kms_hi hi items.size - PySem.W.kms_lo lo items.size) == items.size)=true then _ else _) _ _ s
 by_cases hw:(((PySem.W.kms_lo lo items.size:Nat):Int) == 0&&(1:Int) == 1&&(PySem.W.kms_hi hi items.size - PySem.W.kms_lo lo items.size) == items.size)=true
 ·rw [Ql hw]
  have hw':PySem.W.kms_lo lo items.size=0/\PySem.W.kms_hi hi items.size - PySem.W.kms_lo lo items.size=items.size:=by
   simp only [Qj,Q5] at hw;exact ⟨Int.ofNat.inj hw.1.1,hw.2⟩
  have q:=h0 (oo _ _ _ (by rw [QJ];exact hw'.1) (by rw [QJ];exact hw'.2));have ex:∀ {Q':Bool->Shared->Prop} {E':Value->Shared->Prop} {A':Around},Q' true s->wpAny (model P.prog P.w) A' (Builtin.Tuple.tupleIsExact (.ref t)) Q' E' s:=λhq=>by
   unfold Builtin.Tuple.tupleIsExact;exact Qd (wpAny_typeOf htt.typeIs (Qg hq))
  refine Qd (ex ?_);rw [Ql rfl];refine Qd (wpAny_rule ?_)
  first
   | exact Qd (Qg (Qg ⟨_,rfl,Qg q⟩))
   | exact Qg ⟨_,rfl,Qg q⟩
 ·rw [Qu hw,pick]
  first
   | exact Qd (m:=Builtin.Tuple.tupleExact _) (Z0 (Qg ⟨_,rfl,Qg h⟩) hcut)
   | exact Qd (m:=Builtin.Tuple.tupleExact _) (Z0 (Qd (Qg (Qg ⟨_,rfl,Qg h⟩))) hcut)
   | exact Qd (Qd (m:=Builtin.Tuple.tupleExact _) (Z0 (Qg (Qg ⟨_,rfl,Qg h⟩)) hcut))
   | exact Qd (Qd (m:=Builtin.Tuple.tupleExact _) (Z0 (Qg ⟨_,rfl,Qg h⟩) hcut))
noncomputable def SEO(P:Pk)(r:Nat)(c:TC):Option PySem.Expr->Exo->Prop
 | none,.none=>True
 | some e,.some e'=>P.SE r c e e'
 | _,_=>False
theorem lz{o:Option PySem.Expr}{o':Exo}(h:SEO P r c o o'){A:Around}{env:Env}{s:Shared}{m:St}{ow:List Nat}{own:Nat->Addr}{G:Addr->Prop}{l:Option D}{i:Option Int}(p:Pre P r c A env s m ow own G)
 (hok:okO ow o'=true) (hev:evO P.Φ P.Γ o' m=some l) (hi:intO l=some i) {Q:Value->Shared->Prop} (hq:∀ v s',Kp s s'->IsPart v i->Q v s') :
 wpAny (model P.prog P.w) A (evalPart o env) Q (λ_ _=>False) s:=by
 cases o with
 | none=>
  cases o' with
  | none=>
   simp only [fL,Qc] at hev;subst hev;cases hi;rw [evalPart_none];exact Qg (hq _ s (Kp.refl s) .none)
  | some e'=>exact h.elim
 | some e=>
  cases o' with
  | none=>exact h.elim
  | some e'=>
   simp only [xf] at hok;simp only [fM] at hev;refine byG λX_ g_=>?_;obtain ⟨d,e1,rfl⟩:=ae hev;refine g_ ?_;rw [evalPart_some];refine SE.us h p hok e1 λv s' k as rd _ _ _ _=>?_;exact hq v s' k (on rd hi)
theorem xk{v:PySem.Expr}{lo hi:Option PySem.Expr}{a:Ex}{l h:Exo}{p pos:Pos}(ha:P.SE r c v a)(hl:SEO P r c lo l)(hh:SEO P r c hi h):P.SE r c (.Subscript v (.Slice lo hi none p) pos) (.sl a l h):=by
 intro A env s m ow own G d hA hg R hG hok hev;have p:Pre P r c A env s m ow own G:=⟨hA,hg,R,hG⟩
 simp only [o_sl,Qj] at hok;simp only [x_sl] at hev;refine aa hev λdx e1 hev=>?_;refine aa hev λdl e2 hev=>?_;refine aa hev λdh e3 hev=>?_;refine aa hev λil e4 hev=>?_;refine aa hev λih e5 hev=>?_;refine Xj (SE.us ha p hok.1.1 e1 λx s1 k1 as rx g1 f1 _ _=>?_);refine wpAny_Slice (lz hl (p.keeps k1) hok.1.2 e2 e4 λvl s2 k2 pl=>lz hh ((p.keeps k1).keeps k2) hok.2 e3 e5 λvu s3 k3 pu=>?_);rw [evalPart_none];refine Qg ?_;have kp:Kp s { s3 with heap:=s3.heap.push { cls:=.type "slice",data:=.fields #[vl,vu,.none] } }:=((k1.trans k2).trans k3).trans (Kp.push s3 _);have rx':=(rx.keeps (k2.trans k3).get).keeps (Kp.push s3 { cls:=.type "slice",data:=.fields #[vl,vu,.none] }).get;have hsl:=Heap.IsSliceOf.new s3.heap vl vu .none;generalize hS:({ s3 with heap:=s3.heap.push { cls:=.type "slice",data:=.fields #[vl,vu,.none] } }:Shared)=S at *;have hheap:S.heap=s3.heap.push { cls:=.type "slice",data:=.fields #[vl,vu,.none] }:=by rw [<- hS]
 rw [<- hheap] at hsl;have fin:∀ {v:Value} {s':Shared},PostV P S (λa=>a ∈ inn dx as) d v s'->PostE P ow own G (.sl a l h) d s v s':=λq=>PostV.toE kp q rfl hG λb u=>rx.innG g1 f1 b u;cases rx' with
 | @list b vs n _ as' ho hz ra=>
  cases hev;refine Yo (T := "list") ⟨_,ho,rfl⟩ slot_list_getitem.lookup (ops:=[.ref s3.heap.objs.size,.ref b]) ?_ rfl;refine wpAny_getItem_list_slice ⟨_,ho,rfl,_,rfl⟩ hsl pl pu .none (by decide) ?_ hz;rw [qx];refine byG λX_ g_=>?_;obtain ⟨cs,rc,hc⟩:=ra.cut il ih;refine g_ ?_;refine fin (PostV.newList ?_ (rc) λa q=>.inr (hc a q));rw [Ym];exact QQ (kg _ _ _) (hz)
 | @tuple b vs n _ as' ho hz ra=>
  cases hev;obtain ⟨cs,rc,hc⟩:=ra.cut il ih;refine Yo (T := "tuple") ⟨_,ho,rfl⟩ F.slot_tuple_getitem.lookup (ops:=[.ref s3.heap.objs.size,.ref b]) ?_ rfl;refine dQ ho hsl pl pu hz (λe=>?_) ?_
  ·rw [e] at rc
   exact fin ⟨Kp.refl S,cs,.tuple ho hz rc,λa q=>.inr (hc a q),λhf a q=>by
    rw [rc.noAddr hf] at q;cases q⟩
  ·refine fin (PostV.newTuple ?_ (rc) λa q=>.inr (hc a q))
   rw [Ym];exact QQ (kg _ _ _) (hz)
 | _=>cases hev
end
end Mine
set_option tactic.hygienic false
namespace Mine
open PySem PySem.MeetsSeq
section
theorem oq{M:Model}{A:Around}{E:Value->Shared->Prop}{s:Shared}{β:Type}{k:Nat}(f:Nat->β->Sem (ForInStep β))(I:Nat->β->Shared->Prop)(Q:β->Shared->Prop)
 (turn:∀ i b s,i < k->I i b s->wpAny M A (f i b) (λr s'=>match r with | .yield b'=>I (i+1) b' s' | .done b'=>Q b' s') E s)
 (fin:∀ b s,I k b s->Q b s) (b:β) (h:I 0 b s):wpAny M A (forIn [:k] b f) Q E s:=by
 rw [Std.Legacy.Range.forIn_eq_forIn_range'];simp only [Std.Legacy.Range.size,Nat.sub_zero,Nat.add_sub_cancel,Nat.div_one];refine wpAny_forIn_list _ (λrest b s'=>∃ i,i<=k/\rest=List.range' i (k - i)/\I i b s') _ ?_ ?_ _ _ ⟨0,QF _,by rfl,h⟩
 ·rintro y rest b s' ⟨i,hi,hr,hI⟩
  have hlt:i < k:=by
   rcases ZL hi with q | q
   ·exact q
   ·rw [q,Nat.sub_self] at hr;cases hr
  have e:k - i=(k - (i+1))+1:=by exact (Xk (Nat.sub_pos_of_lt hlt)).symm
  rw [e,Xw] at hr
  injection hr with h1 h2
  subst h1;refine Qs (turn y b s' hlt hI) (λr s'' q=>?_) λ_ _ x=>x;cases r with
  | yield b'=>exact ⟨y+1,hlt,h2,q⟩
  | done b'=>exact q
 ·rintro b s' ⟨i,hi,hr,hI⟩
  rcases ZL hi with q | q
  ·have e:k - i=(k - (i+1))+1:=by exact (Xk (Nat.sub_pos_of_lt q)).symm
   rw [e,Xw] at hr;cases hr
  ·subst q;exact fin b s' hI
theorem kh(l:Addr)(items:Array Value)(n:Nat)(x:Value)(e:Value->Bool)(he:∀ y,y ∈ items->EqGives y x (e y))(j:Nat)(hj:j < items.size)(hit:e items[j]=true)(hno:∀ m (hm:m < items.size),m < j->e items[m]=false) :
 Meets (Builtin.«tuple.index» ⟨[.ref l,x],[]⟩)
  (λ_ R s=>s.heap.get? l=some { cls:=.type "tuple",dict:=none,data:=.seq items n,slots:=#[] }/\R (.ok (.ret (.int j s.toks))) { s with toks:=s.toks+1 }):=
 .of_wp λprog w A R s h=>by
  obtain ⟨hp,g,d,tk,os⟩:=s;obtain ⟨hl,h⟩:=h
  wp_walk using wpAny_loadPart' hl,oq _ (λi b s'=>b.1=none/\s'=⟨hp,g,d,tk,os⟩/\i<=j) _
  case turn=>
   rintro i b s' hlt ⟨hb,rfl,hi⟩;rw [Nat.min_self] at hlt;rw [Yc hlt];refine Qd (he _ (Array.getElem_mem hlt) prog w _ _ _ _ ?_);rcases ZL hi with hi | rfl
   ·rw [hno i hlt hi]
    wp_walk
    exact ⟨rfl,rfl,hi⟩
   ·rw [hit]
    wp_walk
    exact ⟨_,rfl,h⟩
  case fin=>
   rintro ⟨b1,b2⟩ s' ⟨hb,rfl,hi⟩;rw [Nat.min_self] at hi;exact absurd hi (Nat.not_le.mpr hj)
  case h=>exact ⟨rfl,rfl,QF _⟩
theorem qy{H:D->Int}{h:Heap}{vs:List Value}{xs:List D}{as:List Addr}(r:RdAll H h vs xs as):∀ {l:List Str},nq xs=some l->vs.length=l.length/\∀ (i:Nat) (v:Value),vs[i]?=some v->∃ t,∃ hi:i < l.length,v = .str l[i] t:=
 r.ind (M:=λvs xs _=>∀ {l:List Str},nq xs=some l->vs.length=l.length/\∀ (i:Nat) (v:Value),vs[i]?=some v->∃ t,∃ hi:i < l.length,v = .str l[i] t)
  (λ{l} h=>by cases h;exact ⟨rfl,λi v h=>by cases h⟩)
  λv vs d ds as bs h1 h2 ih {l} h=>by
   refine aa (show ((strK d).bind λx=>(nq ds).map λxs=>x::xs)=some l from h) λx e1 h=>?_;obtain ⟨l',e2,rfl⟩:=ae h;have hd:=bW e1;subst hd;cases h1 using Rd.strE with
   | mk t hz ho=>
    obtain ⟨i1,i2⟩:=ih e2;refine ⟨Qf Nat.succ i1,λi w hw=>?_⟩;cases i with
    | zero=>cases hw;exact ⟨t,Zm _,rfl⟩
    | succ i=>
     obtain ⟨u,hi,e⟩:=i2 i w hw;exact ⟨u,QU hi,e⟩
noncomputable def strE(x:Str):Value->Bool
 | .str a _=>a == x
 | _=>false
variable {P:Pk}{r:Nat}{c:TC}
theorem ji{H:D->Int}{h:Heap}{vs:Array Value}{xs:List D}{as:List Addr}(ra:RdAll H h vs.toList xs as){y:D}{d:D}(he:idxD xs y=some d):∃ (x:Str) (j:Nat) (hj:j < vs.size),y = .str x/\d = .int j/\(∀ u,∀ v ∈ vs,EqGives v (.str x u) (strE x v))/\strE x vs[j]=true/\(∀ m (hm:m < vs.size),m < j->strE x vs[m]=false)/\j < 1000:=by
 refine byG λX_ g_=>?_;refine aa he λx e1 he=>?_;refine aa he λl e2 he=>?_;obtain ⟨hl,he⟩:=ay he;obtain ⟨j,e3,rfl⟩:=ae he;obtain ⟨h1,h2⟩:=qy ra e2;rw [QJ] at h1;have hget:∀ (i:Nat) (hi:i < vs.size),∃ t,∃ hi':i < l.length,vs[i] = .str l[i] t:=λi hi=>h2 i _ (by rw [Zb,Yc hi]);obtain ⟨hj,hjx,hjn⟩:=List.findIdx?_eq_some_iff_getElem.mp e3;refine g_ ?_;refine ⟨x,j,by rw [h1];exact hj,bW e1,rfl,λu v hv=>?_,?_,λm hm hmj=>?_,Qe hj hl⟩
 ·obtain ⟨i,hi,rfl⟩:=Array.getElem_of_mem hv
  obtain ⟨t,hi',e⟩:=hget i hi;rw [e];exact PyProof.Rows.eqGives_str _ _ _ _
 ·obtain ⟨t,_,e⟩:=hget j (by rw [h1];exact hj)
  rw [e];exact hjx
 ·obtain ⟨t,hi',e⟩:=hget m hm
  rw [e];have:=hjn m hmj;show (_ == x)=false
  simpa using this
theorem qz{o e:PySem.Expr}{a b:Ex}{apos pos:Pos}(hbase:∀ env:Env,attributeBase o "index" env (eval o env)=eval o env)(hl:(apos.endLine == pos.line)=true)(hs:isStar e=false)(ha:P.SE r c o a)(hb:P.SE r c e b):P.SE r c (.Call (.Attribute o "index" apos) [e] [] pos) (.index a b):=by
 intro A env s m ow own G d hA hg R hG hok hev;have p:Pre P r c A env s m ow own G:=⟨hA,hg,R,hG⟩
 replace hok:(okE ow a&&okE ow b)=true:=hok;rw [Qj] at hok;rw [nx] at hev;refine aa hev λdx e1 hev=>?_;refine aa hev λdy e2 hev=>?_;refine wpAny_Call_method1_late (hbase env) hl (by rw [ak hs];rfl) (SE.us ha p hok.1 e1 λx s1 k1 as rx _ _ _ _=>?_);have hpost:∀ {s2:Shared} {tk:Nat} {i:Int} {t:Tok},Kp s1 s2->PostE P ow own G (.index a b) (.int i) s (.int i t) { s2 with toks:=tk }:=λk2=>PostE.flat0 ((k1.trans k2).trans (Kp.toks _ _)) (.int _ _) rfl rfl;cases dx<;>first | (cases hev;done) | skip
 ·cases rx using Rd.listE with
  | @mk l vs n as' ho hz ra=>
   refine ⟨"list", "list.index",F.plainAttrs_list,F.slot_list_index,F.type_list_index,⟨_,ho,rfl⟩,λa e=>by cases e;exact ⟨_,ho,rfl⟩,PySem.P.index_list (SE.us hb (p.keeps k1) hok.2 e2 λy s2 k2 bs ry _ _ _ _=>?_)⟩;refine byG λX_ g_=>?_;obtain ⟨x,j,hj,rfl,rfl,h1,h2,h3,h4⟩:=ji ra hev;refine g_ ?_;cases ry using Rd.strE with
   | mk u hz ho'=>exact ⟨vs,n,strE x,j,hj,k2.get _ _ ho,h1 u,by exact Yw (QZ h4) (by decide),h2,h3,hpost k2⟩
 ·cases rx using Rd.tupleE with
  | @mk l vs n as' ho hz ra=>
   refine ⟨"tuple", "tuple.index",F.plainAttrs_tuple,F.slot_tuple_index,F.type_tuple_index,⟨_,ho,rfl⟩,λa e=>by cases e;exact ⟨_,ho,rfl⟩,PySem.seqMethod1_meets F.slot_tuple_index F.entry_tuple_index (SE.us hb (p.keeps k1) hok.2 e2 λy s2 k2 bs ry _ _ _ _=>?_)⟩;refine byG λX_ g_=>?_;obtain ⟨x,j,hj,rfl,rfl,h1,h2,h3,h4⟩:=ji ra hev;refine g_ ?_;cases ry using Rd.strE with
   | mk u hz ho'=>exact ⟨⟨_,k2.get _ _ ho,rfl⟩,F.args_tuple_index_2 _ _,_,kh l vs n _ (strE x) (h1 u) j hj h2 h3,k2.get _ _ ho,hpost k2⟩
end
end Mine
set_option tactic.hygienic false
namespace Mine
open PySem
theorem ci{x:Str}(h:biNames.contains x=true):x ∈ biNames:=by simpa using h
section
variable {P:Pk}{r:Nat}{c:TC}
theorem dR{f:Str}{pos:Pos}{v:Value}{A:Around}{env:Env}{s:Shared}{m:St}{ow:List Nat}{own:Nat->Addr}{G:Addr->Prop}(p:Pre P r c A env s m ow own G)(hk:c.kind f=some .globalImplicit)(hd:f ≠ ("__debug__" : Str))(hn:f ≠ "__name__")
 (hb:f ∈ biNames) (hv:bootBuiltins f=some v) {Q:Value->Shared->Prop} {E:Value->Shared->Prop} (h:Q v s):wpAny (model P.prog P.w) A (eval (.Name f pos) env) Q E s:=
 YU p.er.fn ((p.er.kd f).trans hk)
  (Calls.loadGlobal_builtin (by rw [p.er.gl];exact p.gp.g) (p.gp.bi f hb) (by rw [p.er.bu];exact p.gp.b) ((p.gp.bb f hn).trans hv) h) (by simpa using hd)
theorem jj{f:Str}{pf pos:Pos}{v:Value}{x:PySem.Expr}{a:Ex}{A:Around}{env:Env}{s:Shared}{m:St}{ow:List Nat}{own:Nat->Addr}{G:Addr->Prop}{dx:D}(p:Pre P r c A env s m ow own G)(hk:c.kind f=some .globalImplicit)(hd:f ≠ ("__debug__" : Str))(hn:f ≠ "__name__")
 (hb:f ∈ biNames) (hv:bootBuiltins f=some v) (hv2:(∃ id,v = .builtin id)\/∃ T,v = .type T) (hs:isStar x=false) (ha:P.SE r c x a) (hok:okE ow a=true) (hev:evE P.Φ P.Γ a m=some dx) {Q:Value->Shared->Prop}
 (h:∀ y s2 as,Kp s s2->Rd P.H s2.heap y dx as->(isOw ow a=false->∀ i ∈ as,G i)->(isOw ow a=true->flat dx=true)->wpAny (model P.prog P.w) A (call v [y]) Q (λ_ _=>False) s2) :
 wpAny (model P.prog P.w) A (eval (.Call (.Name f pf) [x] [] pos) env) Q (λ_ _=>False) s:=by
 refine ZI (dR p hk hd hn hb hv ?_);have args:wpAny (model P.prog P.w) A (spliced (backTo pos (starEach [x] env))) (λvs s₁=>wpAny (model P.prog P.w) A (call v vs) Q (λ_ _=>False) s₁) (λ_ _=>False) s:=by
  refine Zv (SE.us ha p hok hev λy s1 k as rd g f _ _=>?_) (ak hs [] env);exact ZP (h y s1 as k rd g f)
 rcases hv2 with ⟨id,rfl⟩ | ⟨T,rfl⟩
 ·exact PyProof.Rows.callWith_builtin1 args (ak hs [] env) rfl
 ·exact Z9 args (ak hs [] env) rfl
theorem vK{A:Around}{s:Shared}{y:Value}{dx d:D}{as:List Addr}(rd:Rd P.H s.heap y dx as)(he:b1 .len dx=some d){Q:Value->Shared->Prop}{E:Value->Shared->Prop}(h:∀ i t tk,d = .int i->Q (.int i t) { s with toks:=tk }) :
 wpAny (model P.prog P.w) A (call (.builtin "len") [y]) Q E s:=by
 have hz:(sizeLine:Int) < 2 ^ 62:=by decide
 replace he:lenD dx=some d:=he;cases rd with
 | list ho hs ra=>
  cases he;have hl:=ra.length;simp only [QJ] at hl;refine PyProof.Rows.len_list ⟨_,ho,rfl,_,rfl⟩ (by exact Yw (QH (QB.mpr hs) hz) (by decide)) (h _ _ _ (by rw [hl]))
 | tuple ho hs ra=>
  cases he;have hl:=ra.length;simp only [QJ] at hl;refine PyProof.Rows.len_tuple ⟨_,ho,rfl,_,rfl⟩ (by exact Yw (QH (QB.mpr hs) hz) (by decide)) (h _ _ _ (by rw [hl]))
 | str x t hs ho=>
  cases he;exact PySem.P.len_str (by exact Yr.mpr (Yw (QH (QB.mpr hs) hz) (by decide))) (h _ _ _ rfl)
 | _=>cases he
set_option tactic.hygienic true in
theorem mv{xs:List D}:∀ {bs:List Bool},cT xs=some bs->xs=bs.map .bool:=by
 induction xs with
 | nil=>intro bs h;cases h;rfl
 | cons x xs ih=>
  intro bs h;cases x
  case bool b=>
   obtain ⟨r,e,rfl⟩:=ae (show (cT xs).map (λbs=>b::bs)=some bs from h);rw [ih e];rfl
  all_goals cases h
theorem RdAll.bools{H:D->Int}{h:Heap}:∀ {bs:List Bool} {vs:List Value} {as:List Addr},RdAll H h vs (bs.map .bool) as->vs=bs.map .bool:=by
 intro bs;induction bs with
 | nil=>
  intro _ _ r;cases r;rfl
 | cons b bs ih_=>
  intro _ _ r;cases r with
  | cons h1 h2=>cases h1;rw [ih_ h2];rfl
theorem or{bs:List Bool}:(List.range bs.length).all (λi=>bs.getD i true)=bs.all id:=by
 rw [ZZ,ZK,ZK];constructor
 ·intro h x hx
  refine byG λX_ g_=>?_;obtain ⟨i,hi,rfl⟩:=List.getElem_of_mem hx;refine g_ ?_;have:=h i (ZJ.mpr hi)
  simpa [Zn,hi] using this
 ·intro h i hi
  have hi:=ZJ.mp hi;have:=h (bs[i]) (Xy hi)
  simpa [Zn,hi] using this
theorem ot{bs:List Bool}:(List.range bs.length).any (λi=>bs.getD i false)=bs.any id:=by
 rw [ZZ,Q2,Q2];constructor
 ·rintro ⟨i,hi,h⟩
  have hi:=ZJ.mp hi;exact ⟨bs[i],Xy hi,by simpa [Zn,hi] using h⟩
 ·rintro ⟨x,hx,h⟩
  obtain ⟨i,hi,rfl⟩:=List.getElem_of_mem hx;exact ⟨i,ZJ.mpr hi,by simpa [Zn,hi] using h⟩
theorem sG{A:Around}{s:Shared}{y:Value}{xs:List D}{as:List Addr}{bs:List Bool}(hA:A.handled=none)(rd:Rd P.H s.heap y (.list xs) as)(hb:cT xs=some bs){Q:Value->Shared->Prop}{E:Value->Shared->Prop} :
 ((∀ h' tk,(∀ b o,s.heap.get? b=some o->h'.get? b=some o)->Q (.bool (bs.all id)) { s with heap:=h',toks:=tk })->wpAny (model P.prog P.w) A (call (.builtin "all") [y]) Q E s) /\
 ((∀ h' tk,(∀ b o,s.heap.get? b=some o->h'.get? b=some o)->Q (.bool (bs.any id)) { s with heap:=h',toks:=tk })->wpAny (model P.prog P.w) A (call (.builtin "any") [y]) Q E s):=by
 have e:=mv hb;subst e;cases rd using Rd.listE with
 | @mk l vs n as' ho hs ra=>
  have hl:s.heap.IsList l vs:=⟨_,ho,rfl,_,rfl⟩
  have hsz:vs.size=bs.length:=by rw [<- QJ,ra.bools];simp
  have key:∀ i v,vs[i]?=some v->∃ b:Bool,bs[i]?=some b/\v=Value.bool b:=λi v hv=>by
   rw [<- Zb,ra.bools,Qy] at hv;obtain ⟨b,hb,e⟩:=QK hv;exact ⟨b,hb,e.symm⟩
  have W:=Walks.list (prog:=P.prog) (w:=P.w) (A:=A.in1) hA s.heap.objs.size l (QM (Q3 ho)) vs;have st:((s.heap.push { cls:=.type "list_iterator",data:=.fields #[.ref l,.int 0 0] }).IsListIter s.heap.objs.size l 0)/\((s.heap.push { cls:=.type "list_iterator",data:=.fields #[.ref l,.int 0 0] }).IsList l vs):=
   ⟨⟨_,QL _ rfl,rfl,rfl⟩,hl.at λo e=>Qi _ e⟩
  refine ⟨λh=>?_,λh=>?_⟩
  ·refine call_all_walk (wpAny_pyIter_list hl ⟨_,_,_,_,_,_,λi=>bs.getD i true,rfl,W,st,?_,?_⟩)
   ·intro i v s' Q' E' hv hq
    obtain ⟨b,hb,rfl⟩:=key i v hv;simp only [Zn,hb,Zr] at hq;exact ZU hq
   ·intro h' tk hk
    rw [hsz,or];exact h h' tk λb o e=>hk b o (by simp;exact QM (Q3 e)) (Qi _ e)
  ·refine call_any_walk (wpAny_pyIter_list hl ⟨_,_,_,_,_,_,λi=>bs.getD i false,rfl,W,st,?_,?_⟩)
   ·intro i v s' Q' E' hv hq
    obtain ⟨b,hb,rfl⟩:=key i v hv;simp only [Zn,hb,Zr] at hq;exact ZU hq
   ·intro h' tk hk
    rw [hsz,ot];exact h h' tk λb o e=>hk b o (by simp;exact QM (Q3 e)) (Qi _ e)
theorem vL{f:Str}{pf pos:Pos}{x:PySem.Expr}{a:Ex}(hf:f = "len")(hk:c.kind f=some .globalImplicit)(hs:isStar x=false)(ha:P.SE r c x a):P.SE r c (.Call (.Name f pf) [x] [] pos) (.b1 .len a):=by
 intro A env s m ow own G d hA hg R hG hok hev;simp only [o_b1] at hok;simp only [x_b1] at hev;refine aa hev λdx e1 hev=>?_;subst hf;refine jj ⟨hA,hg,R,hG⟩ hk (by decide +kernel) (by decide +kernel) (ci (by decide +kernel)) boot_len (.inl ⟨_,rfl⟩) hs ha hok e1 λy s2 as k rd g f=>?_;exact vK rd hev λi t tk e=>by subst e;exact PostE.flat0 (k.trans (Kp.toks s2 tk)) (.int _ _) rfl rfl
theorem qA:bootBuiltins "all" = some (.builtin "all"):=by decide +kernel
theorem qB:bootBuiltins "any" = some (.builtin "any"):=by decide +kernel
theorem jk:bootBuiltins "list" = some (.type "list"):=by decide +kernel
theorem mw:bootBuiltins "tuple" = some (.type "tuple"):=by decide +kernel
theorem qC:bootBuiltins "int" = some (.type "int"):=by decide +kernel
theorem qD:bootBuiltins "isinstance" = some (.builtin "isinstance"):=by decide +kernel
theorem gM:bootBuiltins "range" = some (.type "range"):=by decide +kernel
theorem io:bootBuiltins "reversed" = some (.type "reversed"):=by decide +kernel
theorem qE:bootBuiltins "zip" = some (.type "zip"):=by decide +kernel
theorem gz:bootBuiltins "enumerate" = some (.type "enumerate"):=by decide +kernel
theorem vM{f:Str}{pf pos:Pos}{x:PySem.Expr}{a:Ex}(hf:f = "all")(hk:c.kind f=some .globalImplicit)(hs:isStar x=false)(ha:P.SE r c x a):P.SE r c (.Call (.Name f pf) [x] [] pos) (.b1 .all a):=by
 intro A env s m ow own G d hA hg R hG hok hev;simp only [o_b1] at hok;simp only [x_b1] at hev;refine aa hev λdx e1 hev=>?_;subst hf;refine jj ⟨hA,hg,R,hG⟩ hk (by decide +kernel) (by decide +kernel) (ci (by decide +kernel)) qA (.inl ⟨_,rfl⟩) hs ha hok e1 λy s2 as k rd g f=>?_;cases dx<;>first | (cases hev;done) | skip
 obtain ⟨bs,e2,rfl⟩:=ae hev;exact (sG hA.hd rd e2).1 λh' tk hk=>PostE.flat0 (k.trans ⟨h',tk,rfl,hk⟩) (.bool _) rfl rfl
theorem vN{f:Str}{pf pos:Pos}{x:PySem.Expr}{a:Ex}(hf:f = "any")(hk:c.kind f=some .globalImplicit)(hs:isStar x=false)(ha:P.SE r c x a):P.SE r c (.Call (.Name f pf) [x] [] pos) (.b1 .any a):=by
 intro A env s m ow own G d hA hg R hG hok hev;simp only [o_b1] at hok;simp only [x_b1] at hev;refine aa hev λdx e1 hev=>?_;subst hf;refine jj ⟨hA,hg,R,hG⟩ hk (by decide +kernel) (by decide +kernel) (ci (by decide +kernel)) qB (.inl ⟨_,rfl⟩) hs ha hok e1 λy s2 as k rd g f=>?_;cases dx<;>first | (cases hev;done) | skip
 obtain ⟨bs,e2,rfl⟩:=ae hev;exact (sG hA.hd rd e2).2 λh' tk hk=>PostE.flat0 (k.trans ⟨h',tk,rfl,hk⟩) (.bool _) rfl rfl
theorem vO{f:Str}{pf pos:Pos}{x:PySem.Expr}{a:Ex}(hf:f = "int")(hk:c.kind f=some .globalImplicit)(hs:isStar x=false)(ha:P.SE r c x a):P.SE r c (.Call (.Name f pf) [x] [] pos) (.b1 .int a):=by
 intro A env s m ow own G d hA hg R hG hok hev;simp only [o_b1] at hok;simp only [x_b1] at hev;refine aa hev λdx e1 hev=>?_;subst hf;refine jj ⟨hA,hg,R,hG⟩ hk (by decide +kernel) (by decide +kernel) (ci (by decide +kernel)) qC (.inr ⟨_,rfl⟩) hs ha hok e1 λy s2 as k rd g f=>?_;cases dx<;>first | (cases hev;done) | skip
 replace hev:=Qv hev;subst hev;cases rd;exact call_int_bool (PostE.flat0 (k.trans (Kp.toks s2 _)) (.int _ _) rfl rfl)
theorem qF{f:Str}{pf pos:Pos}{x:PySem.Expr}{a:Ex}(hf:f = "tuple")(hk:c.kind f=some .globalImplicit)(hs:isStar x=false)(ha:P.SE r c x a):P.SE r c (.Call (.Name f pf) [x] [] pos) (.b1 .tuple a):=by
 intro A env s m ow own G d hA hg R hG hok hev;simp only [o_b1] at hok;simp only [x_b1] at hev;refine aa hev λdx e1 hev=>?_;subst hf;refine jj ⟨hA,hg,R,hG⟩ hk (by decide +kernel) (by decide +kernel) (ci (by decide +kernel)) mw (.inr ⟨_,rfl⟩) hs ha hok e1 λy s2 as k rd g f=>?_;cases dx<;>first | (cases hev;done) | skip
 replace hev:=Qv hev;subst hev;have rd0:=rd;cases rd using Rd.listE with
 | mk ho hz ra=>
  refine call_tuple_list ⟨_,ho,rfl,_,rfl⟩ (λh' hk'=>?_) hz;exact PostV.toE (k.trans (Kp.heap s2 h' hk')) (PostV.newTuple (U:=G) hz (ra.keeps hk') λb q=>.inr (rd0.innG g f b q)) rfl hG λ_ u=>u
theorem tY{f:Str}{pf pos:Pos}{x:PySem.Expr}{a:Ex}(hf:f = "list")(hk:c.kind f=some .globalImplicit)(hs:isStar x=false)(ha:P.SE r c x a):P.SE r c (.Call (.Name f pf) [x] [] pos) (.b1 .list a):=by
 intro A env s m ow own G d hA hg R hG hok hev;simp only [o_b1] at hok;simp only [x_b1] at hev;refine aa hev λdx e1 hev=>?_;subst hf;refine jj ⟨hA,hg,R,hG⟩ hk (by decide +kernel) (by decide +kernel) (ci (by decide +kernel)) jk (.inr ⟨_,rfl⟩) hs ha hok e1 λy s2 as k rd g f=>?_;cases dx<;>first | (cases hev;done) | skip
 replace hev:=Qv hev;subst hev;have rd0:=rd;cases rd using Rd.listE with
 | mk ho hz ra=>
  refine call_list_seq _ (.inl rfl) ho rfl rfl (λh' c' hk' hn=>?_) hz;refine ⟨k.trans (Kp.heap s2 h' hk'),_,.list hn hz (ra.keeps hk'),λ_ b q=>?_,λq=>(by cases q),λ_ hf b q=>?_,λq=>(by cases q)⟩
  ·rcases Qw q with rfl | q
   ·exact hG _ (k.none (aU _))
   ·exact rd0.innG g f b q
  ·rw [ra.noAddr (show an _=true from hf)] at q
   rw [Qx q];exact k.none (aU _)
noncomputable def sH:Ty->String
 | .list => "list"
 | .tuple => "tuple"
 | .str => "str"
 | .int => "int"
 | .bool => "bool"
theorem vP{A:Around}{s:Shared}{y:Value}{dx:D}{as:List Addr}{q:Bool}(rd:Rd P.H s.heap y dx as)(t:Ty)(hd:isA dx t=some q){Q:Value->Shared->Prop}{E:Value->Shared->Prop}(h:∀ tk,Q (.bool q) { s with toks:=tk }) :
 wpAny (model P.prog P.w) A (call (.builtin "isinstance") [y,.type (sH t)]) Q E s:=by
 have h0:=h s.toks;have h1:=h (s.toks+1);cases rd with
 | none=>cases t<;>cases hd<;>first | exact IsiPair.NoneType_list h1 | exact IsiPair.NoneType_tuple h1 | exact IsiPair.NoneType_str h1 | exact IsiPair.NoneType_int h1 | exact IsiPair.NoneType_bool h1
 | bool b=>cases t<;>cases hd<;>first | exact IsiPair.bool_list h1 | exact IsiPair.bool_tuple h1 | exact IsiPair.bool_str h1 | exact IsiPair.bool_int h0 | exact IsiPair.bool_bool h0
 | int i u=>cases t<;>cases hd<;>first | exact IsiPair.int_list h1 | exact IsiPair.int_tuple h1 | exact IsiPair.int_str h1 | exact IsiPair.int_int h0 | exact IsiPair.int_bool h1
 | str x u=>cases t<;>cases hd<;>first | exact IsiPair.str_list h1 | exact IsiPair.str_tuple h1 | exact IsiPair.str_str h0 | exact IsiPair.str_int h1 | exact IsiPair.str_bool h1
 | list ho _ _=>cases t<;>cases hd<;>first | exact IsiPair.list_list ho rfl h0 | exact IsiPair.list_tuple ho rfl h1 | exact IsiPair.list_str ho rfl h1 | exact IsiPair.list_int ho rfl h1 | exact IsiPair.list_bool ho rfl h1
 | tuple ho _ _=>cases t<;>cases hd<;>first | exact IsiPair.tuple_list ho rfl h1 | exact IsiPair.tuple_tuple ho rfl h0 | exact IsiPair.tuple_str ho rfl h1 | exact IsiPair.tuple_int ho rfl h1 | exact IsiPair.tuple_bool ho rfl h1
 | dict=>cases t<;>cases hd
set_option tactic.hygienic true in
theorem ou{t:Str}{ty:Ty}(h:tyOf t=some ty):bootBuiltins t=some (.type (sH ty))/\t ∈ biNames/\t ≠ ("__debug__" : Str)/\t ≠ ("__name__" : Str):=by
 unfold tyOf at h
 repeat' (split at h)
 all_goals first
  | (rename_i e;cases h;have e:=Q4 e;subst e;exact ⟨by decide +kernel,ci (by decide +kernel),by decide +kernel,by decide +kernel⟩)
  | cases h
theorem vQ{f t:Str}{pf pt pos:Pos}{x:PySem.Expr}{a:Ex}{ty:Ty}(hf:f = "isinstance")(hk:c.kind f=some .globalImplicit)(ht:tyOf t=some ty)(hkt:c.kind t=some .globalImplicit)(hs:isStar x=false)(ha:P.SE r c x a) :
 P.SE r c (.Call (.Name f pf) [x,.Name t pt] [] pos) (.isi a ty):=by
 intro A env s m ow own G d hA hg R hG hok hev;have p:Pre P r c A env s m ow own G:=⟨hA,hg,R,hG⟩
 simp only [vC] at hok;simp only [ti] at hev;refine byG λX_ g_=>?_;refine aa hev λdx e1 hev=>?_;obtain ⟨q,e2,rfl⟩:=ae hev;subst hf;obtain ⟨b1,b2,b3,b4⟩:=ou ht;refine g_ ?_;refine ZI (dR p hk (by decide +kernel) (by decide +kernel) (ci (by decide +kernel)) qD ?_);refine PyProof.Rows.callWith_builtin1 ?_ (ak hs _ env) rfl;refine Zv (SE.us ha p hok e1 λy s1 k as rd _ _ _ _=>?_) (ak hs _ env);refine Zv (dR (p.keeps k) hkt b3 b4 b2 b1 (ZP ?_)) rfl;exact vP rd ty e2 λtk=>PostE.flat0 (k.trans (Kp.toks s1 tk)) (.bool _) rfl rfl
theorem ox{f:Str}{pf pos:Pos}{args:List PySem.Expr}{es':Exs}{fr:Bool}(hΦ:P.FnOk r)(hfr:P.fr f=some fr)(hk:c.kind f=some .globalImplicit)(hd:f ≠ ("__debug__" : Str))(hne:args ≠ [])(h:SEL P r c args es')
 (hdef:∃ q,P.defs f=some q):P.SE r c (.Call (.Name f pf) args [] pos) (.call fr f es'):=by
 intro A env s m ow own G d hA hg R hG hok hev;simp only [sq,Qj,Ze] at hok;simp only [bg] at hev;refine aa hev λds e1 hev2=>?_;clear hev;obtain ⟨q,hq⟩:=hdef;obtain ⟨fa,o,pm,code,doc,h1,h2,h3,_⟩:=hg.fn f q hq;refine ZI (YU R.fn ((R.kd f).trans hk) (Calls.loadGlobal_global (by rw [R.gl];exact hg.g) h1 ?_) (by simpa using hd));cases h with
 | nil=>exact absurd rfl hne
 | @cons e e' es es'' hs hse hst hr=>
  refine PyProof.Rows.callWith_def h3 ?_ (ak hs _ env);refine dP (.cons hs hse hst hr) (⟨hA,hg,R,hG⟩) hok.1 e1 λvs s1 as k rs g=>?_;refine ⟨k.get _ _ h2,?_⟩;obtain ⟨fa',o',fd,g1,g2,g3,hw⟩:=hΦ f fr hfr A s1 vs ds as d hA (hg.keeps k.get) rs hev2;rw [h1] at g1;cases g1;refine Qs hw (λv s' q=>?_) λ_ _ x=>x;obtain ⟨k2,bs,rd,u1,u2⟩:=q;refine ⟨k.trans k2,bs,rd,λ_ b mb=>?_,λq=>(by cases q),λhf _ b mb=>k.none (u2 hf b mb),λq=>(by cases q)⟩;rcases hok.2 with hf | hn
  ·exact hG b (k.none (u2 hf b mb))
  ·rcases u1 b mb with u | u
   ·exact hG b (k.none u)
   ·exact g hn b u
end
theorem tZ:typeLookup (.type "list_reverseiterator") "__len__" = pure none:=by rw [typeLookup_type,builtinLookup_eq_fast];kernel_rfl
theorem qG:typeLookup (.type "list_reverseiterator") "__length_hint__" = pure (some (.builtin "list_reverseiterator.__length_hint__")):=by rw [typeLookup_type,builtinLookup_eq_fast];kernel_rfl
section
variable {prog:Program}{w:World}{A:Around}{E:Value->Shared->Prop}{s:Shared}{I l:Addr}{items:Array Value}
theorem qH{Q:Bool->Shared->Prop}(hT:s.TypeIs (.ref I) "list_reverseiterator")(h:Q false s):wpAny (model prog w) A (Builtin.List.listLengthHint (.ref I)) Q E s:=by
 unfold Builtin.List.listLengthHint;refine Qd (wpAny_specialOf hT tZ ?_);refine Yg (λhab=>absurd hab (by decide)) (λ_=>?_);refine Yg (λhab=>absurd hab (by decide)) (λ_=>?_);refine Qd (wpAny_specialOf hT qG ?_);generalize hid:("list_reverseiterator.__length_hint__" : String)=id0
 wp_delta
 rw [show splitId id0=some ("list_reverseiterator", "__length_hint__") from by subst hid;decide +kernel];subst hid;refine Qd (wpAny_isInstance (T := "list_reverseiterator") (b:=true) hT (by rw [isSubtype_type];kernel_rfl) ?_);refine Yg (λhab=>absurd hab (by decide)) (λ_=>?_);refine Yg (λ_=>?_) (λhab=>absurd (by decide +kernel) hab);refine Yg (λhab=>absurd hab (by decide +kernel)) (λ_=>?_);exact Qg h
theorem mx{R:Result->Shared->Prop}(hh:A.handled=none)(hI:s.heap.IsRevIter I l ((items.size:Int) - 1))(hl:s.heap.IsList l items)(hne:l ≠ I)(S:Addr)(hSI:S ≠ I)(hSl:S ≠ l)(c₀:Nat)(hS:s.heap.get? S=some { cls:=.type "list",data:=.seq #[] c₀ })
 (hR:∀ h' tk acc' c',(∀ b o,b ≠ S->b ≠ I->s.heap.get? b=some o->h'.get? b=some o)->h'.get? S=some { cls:=.type "list",dict:=none,data:=.seq acc' c',slots:=#[] }->ItemsOf (λi v=>items[items.size - 1 - i]?=some v) acc' items.size->R (.ok (.ret .none)) { s with heap:=h',toks:=tk }) (hn:items.size<=sizeLine) :
 wpAny (model prog w) A.in1 (Builtin.List.listExtendWith (.ref S) (.ref I) .none)
  (λfin s'=>match fin with | .done f=>R (.ok f) s' | .again c'=>c'.quiet=true/\codeAny (model prog w) A c' R s') (λe s'=>R (.error e) s') s:=by
 have W:=Walks.listRev (prog:=prog) (w:=w) (A:=A.in1) hh I l hne items;have hSf:S ∉ [I,l]:=by simp only [Ye,YW,or_false,not_or];exact ⟨hSI,hSl⟩
 have key:codeAny (model prog w) A (.builtin "list.extend.loop" ⟨[.ref S,.ref I,.none],[]⟩) R s:=by
  refine codeAny_extend_loopS W.toS hn S hSf .none items.size 0 s #[] c₀ rfl (QF _) ⟨QF _,by simpa using hI,hl⟩ hS (ItemsOf.nil _) λs' acc' c' hm hS' hacc=>?_;rw [Moved.eq_with hm];refine hR s'.heap s'.toks acc' c' (λb o hb hbI e=>hm.heap b o (λhmem=>?_) e) hS' hacc;rcases Qw hmem with e' | hmem
  ·exact hb e'
  ·exact hbI (Qx hmem)
 unfold Builtin.List.listExtendWith;refine Qd (wpAny_typeOf (T := "list_reverseiterator") hI.typeIs ?_);have h1:Builtin.List.listSameRef (.ref S) (.ref I)=false:=by simp [Builtin.List.listSameRef,hSI]
 have h2:(Value.type "list_reverseiterator" == Value.type "list")=false:=by decide
 have h3:(Value.type "list_reverseiterator" == Value.type "tuple")=false:=by decide
 simp only [h1,h2,h3,Bool.or_false,QD,if_false];refine Qd (wpAny_pyIter_revIter hI ?_);refine Qd (Zl (qH hI.typeIs ?_));refine Yg (λhab=>absurd hab (by decide +kernel)) (λ_=>?_);exact Qg ⟨plainId_quiet PySem.F.plain_extend_loop _,key⟩
theorem ip{Q:Value->Shared->Prop}(hh:A.handled=none)(hI:s.heap.IsRevIter I l ((items.size:Int) - 1))(hl:s.heap.IsList l items)(hne:l ≠ I)(hn:items.size<=sizeLine)
 (hQ:∀ h' tk acc' c',(∀ b o,b ≠ I->s.heap.get? b=some o->h'.get? b=some o)->h'.get? s.heap.objs.size=some { cls:=.type "list",dict:=none,data:=.seq acc' c',slots:=#[] }->ItemsOf (λi v=>items[items.size - 1 - i]?=some v) acc' items.size->Q (.ref s.heap.objs.size) { s with heap:=h',toks:=tk }) :
 wpAny (model prog w) A (call (.type "list") [.ref I]) Q E s:=by
 refine callType_codes (Q₁:=λobj s₁=>obj = .ref s.heap.objs.size/\s₁={ s with heap:=s.heap.push { cls:=.type "list",data:=.seq #[] } }) PySem.F.called_list (PySem.F.typeCall_list_1 _) PySem.F.entry_list_init
  (code_list_new _ ⟨rfl,rfl⟩) λobj s₁ h₁=>?_
 obtain ⟨rfl,rfl⟩:=h₁;have hS:(s.heap.push { cls:=.type "list",data:=.seq #[] }).get? s.heap.objs.size=some { cls:=.type "list",data:=.seq #[] }:=QL _ rfl;have hIlt:I < s.heap.objs.size:=by obtain ⟨o,ho,_⟩:=hI;exact Q3 ho
 have hllt:l < s.heap.objs.size:=by obtain ⟨o,ho,_⟩:=hl;exact Q3 ho
 have hI':(s.heap.push { cls:=.type "list",data:=.seq #[] }).IsRevIter I l ((items.size:Int) - 1):=hI.at λo e=>Qi _ e;have hl':(s.heap.push { cls:=.type "list",data:=.seq #[] }).IsList l items:=hl.at λo e=>Qi _ e;refine ⟨⟨_,hS,rfl⟩,PySem.F.args_list_init_2 _ _,?_⟩;show wpAny _ _ (do let old <- Builtin.List.listItems (.ref s.heap.objs.size);Builtin.List.listUpdate (.ref s.heap.objs.size) (λ_=>#[]);letGo old.toList.reverse;Builtin.List.listExtendWith (.ref s.heap.objs.size) (.ref I) .none) _ _ _;refine Qd ?_;unfold Builtin.List.listItems;refine Qd (wpAny_seqItems hS rfl (Qg ?_));show wpAny _ _ (updateSeq s.heap.objs.size (λ_=>#[]) >>= λ_=>letGo (#[]:Array Value).toList.reverse >>= λ_=>Builtin.List.listExtendWith (.ref s.heap.objs.size) (.ref I) .none) _ _ _;refine Qd (wpAny_updateSeq hS rfl ?_);have hS₂:=Heap.get?_update_self (Obj.mapSeq (λ_=>(#[]:Array Value))) hS rfl;have oth:∀ b o,b ≠ s.heap.objs.size->(s.heap.push { cls:=.type "list",data:=.seq #[] }).get? b=some o->((s.heap.push { cls:=.type "list",data:=.seq #[] }).update s.heap.objs.size (Obj.mapSeq (λ_=>(#[]:Array Value)))).get? b=some o:=
  λb o hb e=>(Heap.get?_update_other _ _ (Ne.symm hb)).trans e
 refine Qd (wpAny_letGo ?_);refine mx (A:=A.in1) hh (hI'.at λo e=>oth I o (QM hIlt) e) (hl'.at λo e=>oth l o (QM hllt) e) hne s.heap.objs.size (Nat.ne_of_gt hIlt) (Nat.ne_of_gt hllt) _ hS₂ (λh' tk acc' c' hk hS' hacc=>?_) hn;exact ⟨rfl,hQ h' tk acc' c' (λb o hb e=>hk b o (QM (Q3 e)) hb (oth b o (QM (Q3 e)) (Qi _ e))) hS' hacc⟩
end
theorem oy{items acc:Array Value}(h:ItemsOf (λi v=>items[items.size - 1 - i]?=some v) acc items.size):acc.toList=items.toList.reverse:=by
 apply List.ext_getElem?;intro i
 by_cases hi:i < items.size
 ·have hia:i < acc.size:=by rw [h.1];exact hi
  have h1:acc[i]?=some acc[i]:=Yc hia;have h2:=h.2 i _ h1;rw [List.getElem?_reverse (by simpa using hi),Zb,QJ,Zb,h1,h2]
 ·rw [ZS (by rw [QJ,h.1];omega),ZS (by rw [Z8,QJ];omega)]
section
variable {P:Pk}{r:Nat}{c:TC}
theorem my{f g:Str}{pf pg p2 pos:Pos}{x:PySem.Expr}{a:Ex}(hf:f = "list")(hg:g = "reversed")(hk:c.kind f=some .globalImplicit)(hk2:c.kind g=some .globalImplicit)(hs:isStar x=false)(ha:P.SE r c x a):P.SE r c (.Call (.Name f pf) [.Call (.Name g pg) [x] [] p2] [] pos) (.b1 .listrev a):=by
 intro A env s m ow own G d hA hg' R hG hok hev;have p:Pre P r c A env s m ow own G:=⟨hA,hg',R,hG⟩
 simp only [o_k,vx,vy,vz,vA,tK,nP,tL,vB,o_sl,sq,o_b1,vC,su] at hok;simp only [x_k,x_v,x_gc,cB,hY,bh,u6,p7,cr,dN,bj,x_sl,bg,x_b1,ti,ny] at hev;refine aa hev λdx e1 hev=>?_;subst hf;subst hg;refine ZI (dR p hk (by decide +kernel) (by decide +kernel) (ci (by decide +kernel)) jk ?_);refine Z9 ?_ (ak rfl [] env) rfl;refine Zv ?_ (ak rfl [] env);refine jj p hk2 (by decide +kernel) (by decide +kernel) (ci (by decide +kernel)) io (.inr ⟨_,rfl⟩) hs ha hok e1 λy s2 as k rd g f=>?_;cases dx<;>first | (cases hev;done) | skip
 replace hev:=Qv hev;subst hev;have rd0:=rd;cases rd using Rd.listE with
 | @mk l vs n as' ho hz ra=>
  have hl:s2.heap.IsList l vs:=⟨_,ho,rfl,_,rfl⟩
  have hlt:l < s2.heap.objs.size:=Q3 ho;refine call_reversed_list hl (ZP ?_);refine ip (l:=l) (items:=vs) hA.hd ⟨_,QL _ rfl,rfl,rfl⟩ (hl.at λo e=>Qi _ e) (QM hlt) hz λh' tk acc' c' hkeep hget hacc=>?_;have hk3:∀ b o,s2.heap.get? b=some o->h'.get? b=some o:=λb o e=>hkeep b o (QM (Q3 e)) (Qi _ e);have k3:Kp s2 { s2 with heap:=h',toks:=tk }:=⟨h',tk,rfl,hk3⟩
  obtain ⟨bs,rr,hb⟩:=ra.reverse;have hnew:s2.heap.get? (s2.heap.push (revObj l ((vs.size:Int) - 1))).objs.size=none:=by
   cases hq:s2.heap.get? (s2.heap.push (revObj l ((vs.size:Int) - 1))).objs.size with
   | none=>rfl
   | some o=>
    have:=Q3 hq;have h2:=Q3 (Qi (revObj l ((vs.size:Int) - 1)) hq);exact absurd h2 (Yd _)
  have hsz:acc'.size<=sizeLine:=by rw [hacc.1];exact hz
  refine ⟨k.trans k3,_,.list hget hsz (by rw [oy hacc];exact rr.keeps hk3),λ_ b q=>?_,λq=>(by cases q),λ_ hf b q=>?_,λq=>(by cases q)⟩
  ·rcases Qw q with rfl | q
   ·exact hG _ (k.none hnew)
   ·exact rd0.innG g f b (hb b q)
  ·rw [rr.noAddr (by simpa [flat] using hf)] at q
   rw [Qx q];exact k.none hnew
end
end Mine
set_option tactic.hygienic false
namespace Mine
open PySem
section
variable {P:Pk}{r:Nat}{c:TC}
theorem iq{h:Heap}(g:P.GP h):h.objs.size ≠ sysModules:=by
 obtain ⟨o,_,_,e,_⟩:=g.g;exact Nat.ne_of_gt (Qh (by decide) (Q3 e))
theorem jm{s s2:Shared}{h':Heap}{tk:Nat}{ow:List Nat}{own:Nat->Addr}{G:Addr->Prop}{e':Ex}{kvs:List (D × D)}(hG:∀ a,s.heap.get? a=none->G a)(kk:Kp { s with heap:=s.heap.push { cls:=.type "dict",data:=.dict #[] } } s2)(sb:Heap.SameBut s.heap.objs.size s2.heap h')(rd':Rd P.H h' (.ref s.heap.objs.size) (.dict kvs) [s.heap.objs.size])(hi:isOw ow e'=false) :
 PostE P ow own G e' (.dict kvs) s (.ref s.heap.objs.size) { s2 with heap:=h',toks:=tk }:=by
 have hnone:s.heap.get? s.heap.objs.size=none:=aU _;have k0:Kp s { s with heap:=s.heap.push { cls:=.type "dict",data:=.dict #[] } }:=Kp.heap s _ λb o e=>Qi _ e;have k3:Kp s { s2 with heap:=h',toks:=tk }:=by
  obtain ⟨h2,tk2,e2,hk2⟩:=k0.trans kk;subst e2;exact ⟨h',_,rfl,λb o e=>(sb.2 b (λq=>by subst q;rw [hnone] at e;cases e)).trans (hk2 b o e)⟩
 refine ⟨k3,_,rd',λ_ b q=>?_,λq=>(by rw [hi] at q;cases q),λ_ _ b q=>?_,λq=>(by rw [hi] at q;cases q)⟩
 ·rw [Qx q];exact hG _ hnone
 ·rw [Qx q];exact hnone
theorem t0{pos:Pos}:P.SE r c (.Dict [] [] pos) (.dic .nil .nil):=by
 intro A env s m ow own G d hA hg R hG hok hev;cases Qv (show some (PyData.dict [])=some d from hev);rw [arm_eval_Dict];refine Qd (Yy ?_);show wpAny _ _ (subDict [] >>= λd=>pure (Value.ref d)) _ _ s;unfold subDict;refine Qd (Qd (wpAny_alloc (Qd (Zl ?_))));rw [Ql (by decide)];refine Qd (evalPairs_nil ?_);refine Zl (Qd (Qg (Qg (Qg (Qg ?_)))));exact jm (s2:={ s with heap:=s.heap.push { cls:=.type "dict",data:=.dict #[] } }) (tk:=s.toks) hG (Kp.refl _) (Heap.SameBut.refl _ _) (.dict (iq hg) (QL _ rfl) .nil) rfl
theorem mz{env:Env}{keys:List (Option PySem.Expr)}{values:List PySem.Expr}{pos:Pos}{pairs:List (Sem Value × Sem Value)}
 (hshape:(evalEachOpt keys env).zip ((evalEach values env).map λv=>do let x <- v;standAt pos;pure x)=pairs.map λp=>(some p.1,p.2)) (h0:pairs ≠ []) (hlen:pairs.length < 17):eval (.Dict keys values pos) env=(do standAt pos;let d <- subDict pairs;pure (.ref d)):=by
 rw [arm_eval_Dict,hshape,dictDisplay_pairs pairs h0 hlen]
theorem mA{q:StK}{a:Addr}:xsK (@storedH StK stDec [] q a (.bool true)) [q]:=gK (xs:=[]) (ks:=[]) ⟨rfl,λx hx=>by cases hx⟩
theorem t6{k v:PySem.Expr}{a b:Ex}{pos:Pos}(ha:P.SE r c k a)(hb:P.SE r c v b){A:Around}{env:Env}{s:Shared}{m:St}{ow:List Nat}{own:Nat->Addr}{G:Addr->Prop}{q:StK}(p:Pre P r c A env s m ow own G)(ok1:okE ow a=true)(ok2:okE ow b=true)(e3:evE P.Φ P.Γ a m=some (stK q))(e5:evE P.Φ P.Γ b m=some (.bool true)) :
 wpAny (model P.prog P.w) A (eval (.Dict [some k] [v] pos) env) (PostE P ow own G (.dic (.cons a .nil) (.cons b .nil)) (.dict [(stK q,.bool true)]) s) (λ_ _=>False) s:=by
 have k0:Kp s { s with heap:=s.heap.push { cls:=.type "dict",data:=.dict #[] } }:=Kp.heap s _ λb o e=>Qi _ e;rw [mz (pairs:=[(eval k env,do let x <- eval v env;standAt pos;pure x)]) rfl (by simp) (by simp)];refine Qd (Yy (Qd ?_));unfold subDict;refine Qd (wpAny_alloc (Qd (Zl ?_)));rw [Ql (by simp)];refine Qd (evalPairs_cons (SE.us ha (p.keeps k0) ok1 e3 λkv s1 k1 bs1 rd1 _ _ _ _=>?_));refine Qd (SE.us hb (p.keeps (k0.trans k1)) ok2 e5 λvv s2 k2 bs2 rd2 _ _ _ _=>Qd (Yy (Qg (evalPairs_nil ?_))));have hv:=rd2.boolE';subst hv;have hcs:bs1=[]:=rd1.noAddr (qo q);subst hcs;refine byG λX_ g_=>?_;obtain ⟨ka,_,_,_,_,_,_,_,rfl,_⟩:=dw rd1;refine g_ ?_;refine Zl (Qd ?_);rw [XY];refine Qd (Qd (@wpAny_dictSet_heap P.prog P.w StK stDec (e9 P.prog P.w P.H) A _ s2 s.heap.objs.size ka [] q (.bool true) _ (by have:=p.room.units;show A.units+10 < cLine;lia) (rd1.keeps k2.get) ⟨_,#[],0,(k2.get _ _ (k1.get _ _ (QL _ rfl))),⟨rfl,rfl,rfl⟩,rfl,rfl,(λx hx=>by cases hx),ZM⟩ (λh' hd' sb=>Qg ?_) (QF _)));simp only [List.forIn_nil];refine Qg (Qg (Qg (Qg ?_)));refine byG λX_ g_=>?_;obtain ⟨es,n,hg',rd'⟩:=jd (prog:=P.prog) p.gp.hs.2 hd' mA (iq p.gp);refine g_ ?_;exact jm (tk:=s2.toks+(6 * q.2.length+3)) p.new (k1.trans k2) sb rd' rfl
theorem vR{k v:PySem.Expr}{a b:Ex}{pos:Pos}(ha:P.SE r c k a)(hb:P.SE r c v b):P.SE r c (.Dict [some k] [v] pos) (.dic (.cons a .nil) (.cons b .nil)):=by
 intro A env s m ow own G d hA hg R hG hok hev;have p:Pre P r c A env s m ow own G:=⟨hA,hg,R,hG⟩
 rw [xg,Qj] at hok;have ok1:okE ow a=true:=by have:=hok.1;rw [show okEs ow (.cons a .nil)=(okE ow a&&true) from rfl,Xm] at this;exact this
 have ok2:okE ow b=true:=by have:=hok.2;rw [show okEs ow (.cons b .nil)=(okE ow b&&true) from rfl,Xm] at this;exact this
 rw [w8] at hev;refine aa hev λks e1 hev=>?_;refine aa hev λvs e2 hev=>?_;refine aa (show ((evE P.Φ P.Γ a m).bind λx=>(evEs P.Φ P.Γ .nil m).map λxs=>x::xs)=some ks from e1) λdk e3 e4=>?_;cases e4;refine aa (show ((evE P.Φ P.Γ b m).bind λx=>(evEs P.Φ P.Γ .nil m).map λxs=>x::xs)=some vs from e2) λdv e5 e6=>?_;cases e6;replace hev:(match strK dk with
  | some x=>if isScalar dv then some (PyData.dict [(.str x,dv)]) else none
  | none=>(unK dk).bind λp=>if tru dv then some (.dict [(stK p,.bool true)]) else none)=some d:=hev
 cases e7:strK dk with
 | none=>
  rw [e7] at hev;refine aa hev λq e8 hev=>?_;obtain ⟨ht,rfl⟩:=aM hev;rw [fC e8] at e3;rw [ik ht] at e5;exact t6 ha hb p ok1 ok2 e3 e5
 | some x=>
 rw [e7] at hev;refine byG λX_ g_=>?_;obtain ⟨hsc,rfl⟩:=aM hev;refine g_ ?_;have hx:=bW e7;subst hx;refine wpAny_Dict_pairs (knd:=strKind P.prog P.w) (pairs:=[(eval k env,do let x <- eval v env;standAt pos;pure x)]) rfl (by simp) (by simp) ?_;have k0:Kp s { s with heap:=s.heap.push { cls:=.type "dict",data:=.dict #[] } }:=Kp.heap s _ λb o e=>Qi _ e;refine Qd (SE.us ha (p.keeps k0) ok1 e3 λkv s1 k1 bs1 rd1 _ _ _ _=>?_);refine Qd (Zl (Qd (SE.us hb (p.keeps (k0.trans k1)) ok2 e5 λvv s2 k2 bs2 rd2 _ _ _ _=>Qd (Yy (Qg ?_)))));refine Qd (Zl (Qg (Qg ?_)));cases rd1 using Rd.strE with
 | mk t hz ho=>
  refine ⟨[(x,vv)],⟨by simp [strKind,Value.isStrOf],rfl,trivial⟩,⟨_,#[],0,(k2.get _ _ (k1.get _ _ (QL _ rfl))),⟨rfl,rfl,rfl⟩,rfl,λe he=>by simp at he,.nil,ZM⟩,λh' hd' sb=>?_⟩;obtain ⟨es,n,hg',rd'⟩:=lq (prog:=P.prog) hg.hs.1 (show h'.DictOf (strKind P.prog P.w) s.heap.objs.size [(x,vv)] from hd') (.cons hz ho hsc (rd2.scal hsc).2 .nil) (iq hg);have k3:Kp s { s2 with heap:=h',toks:=s2.toks+1 }:=by
   obtain ⟨h2,tk2,e2,hk2⟩:=((k0.trans k1).trans k2)
   subst e2;exact ⟨h',_,rfl,λb o e=>(sb.2 b (λq=>by subst q;rw [(aU _)] at e;cases e)).trans (hk2 b o e)⟩
  refine ⟨k3,_,rd',λ_ b q=>?_,λq=>(by cases q),λ_ _ b q=>?_,λq=>(by cases q)⟩
  ·rw [Qx q];exact hG _ (aU _)
  ·rw [Qx q];exact (aU _)
end
end Mine
set_option tactic.hygienic false
namespace Mine
open PySem
noncomputable def jn(M:Model)(A:Around)(env:Env):List (Str × Value)->(Shared->Prop)->Shared->Prop
 | [],Q,s=>Q s
 | (x,v)::r,Q,s=>wpAny M A (storeName env x v) (λ_ s'=>jn M A env r Q s') (λ_ _=>False) s
structure Turns(prog:Program)(w:World)(A:Around)(tgt:PySem.Expr)(xs:List Str)(I:Addr)(fp wr:List Addr)(n:Nat)(Pv:Nat->List Value->Prop)(St:Nat->Heap->Prop):Prop where
 sub:∀ b ∈ wr,b ∈ fp
 frame:∀ i h h',St i h->(∀ b ∈ fp,∀ o,h.get? b=some o->h'.get? b=some o)->St i h'
 item:∀ i (s:Shared) (env:Env) (Q:Shared->Prop),i < n->St i s.heap ->
  (∀ vals h' tk,Pv i vals->vals.length=xs.length->St (i+1) h'->(∀ b o,b ∉ wr->s.heap.get? b=some o->h'.get? b=some o)->jn (model prog w) A env (xs.zip vals) Q { s with heap:=h',toks:=tk }) ->
  wpAny (model prog w) A (pyNext (.ref I)) (λr s₁=>match r with
   | none=>False
   | some v=>wpAny (model prog w) A (letOwnedTupleGo tgt (.ref I) v) (λ_ s₂=>wpAny (model prog w) A (assign tgt env v) (λ_ s₃=>Q s₃) (λ_ _=>False) s₂) (λ_ _=>False) s₁) (λ_ _=>False) s
 done:∀ (s:Shared) (Q:Option Value->Shared->Prop),St n s.heap ->
  (∀ h' tk,(∀ b o,b ∉ wr->s.heap.get? b=some o->h'.get? b=some o)->Q none { s with heap:=h',toks:=tk })->wpAny (model prog w) A (pyNext (.ref I)) Q (λ_ _=>False) s
 self:∀ i (s:Shared) (Q:Value->Shared->Prop),St i s.heap->Q (.ref I) s->wpAny (model prog w) A (pyIter (.ref I)) Q (λ_ _=>False) s
theorem Turns.ofWalks{prog:Program}{w:World}{A:Around}{I:Addr}{fp wr:List Addr}{n:Nat}{Pv:Nat->Value->Prop}{St:Nat->Heap->Prop}(W:Walks prog w A I fp wr n Pv St)(x:Str)(px:Pos) :
 Turns prog w A (.Name x px) [x] I fp wr n (λi vals=>∃ v,vals=[v]/\Pv i v) St where
 sub:=W.sub
 frame:=W.frame
 item:=λi s env Q hi st h=>W.item i s _ _ hi st λv h' tk hP hst hk=>by
  show wpAny _ A (pure ()) _ _ _;refine Qg (YJ ?_);have:=h [v] h' tk ⟨v,rfl,hP⟩ rfl hst hk;exact this
 done:=λs Q st h=>W.done s Q _ st h
 self:=λi s Q st h=>W.self i s Q _ st h
theorem Turns.ofWalksU{prog:Program}{w:World}{A:Around}(hh:A.handled=none){I:Addr}{fp wr:List Addr}{n:Nat}{Pt:Nat->Array Value->Prop}{St:Nat->Heap->Prop}{Mid:Nat->Addr->Heap->Prop}(W:WalksU prog w A I fp wr n Pt St Mid)
 (h2:∀ i vals,Pt i vals->∃ a b,vals = #[a,b]) (x y:Str) (px py pt:Pos) (k:Nat) :
 Turns prog w A (.Tuple [.Name x px,.Name y py] k pt) [x,y] I fp wr n (λi vals=>Pt i vals.toArray) St where
 sub:=W.sub
 frame:=W.frame
 item:=λi s env Q hi st h=>W.item i s _ _ hi st λT vals h' tk hP hT hM hk=>by
  refine W.go _ k pt i T _ _ _ hM λh₂ hst₂ hk₂=>?_;refine byG λX_ g_=>?_;obtain ⟨a,b,rfl⟩:=h2 i vals hP;refine g_ ?_;refine wpAny_assign_Tuple hh (hT.at λo e=>hk₂ T o (W.apart i T h' hM) e) rfl rfl λh₃ hx₃=>?_;replace hx₃:Heap.ExtBut h₂.objs.size h₂ h₃:=hx₃;have up₃:∀ b o,h₂.get? b=some o->h₃.get? b=some o:=λb o x=>hx₃ b o (QM (Q3 x)) x;show wpAny _ A (do holding [b] (assign (.Name x px) env a);do holding [] (assign (.Name y py) env b);pure ()) _ _ _;refine Qd (Zl (YJ (Qs (h [a,b] h₃ tk hP rfl (W.frame _ _ _ hst₂ λc _ o e=>up₃ c o e) λc o hb e=>up₃ c o (hk₂ c o hb (hk c o hb e))) (λ_ s' q=>?_) λ_ _ z=>z)));exact Qd (Zl (YJ (Qs q (λ_ s'' q'=>Qg q') λ_ _ z=>z)))
 done:=λs Q st h=>W.done s Q _ st h
 self:=λi s Q st h=>W.self i s Q _ st h
noncomputable def itOw(ow:List Nat):It->List Ex
 | .plain e=>[e]
 | .range1 _=>[]
 | .range2 _ _=>[]
 | .enum e=>[e]
 | .zip a b=>[a,b]
theorem vS(ow:List Nat)(e:Ex):itOw ow (It.plain e)=[e]:=rfl
structure ItOk(P:Pk)(A:Around)(tgt:PySem.Expr)(xs:List Str)(ow:List Nat)(own:Nat->Addr)(G:Addr->Prop)(m:St)(it':It)(items:List (List D))(s s₁ s₂:Shared)(I:Addr)(fp wr:List Addr)(Pv:Nat->List Value->Prop)(St:Nat->Heap->Prop):Prop where
 k1:Kp s s₁
 k2:Kp s₁ s₂
 T:Turns P.prog P.w A tgt xs I fp wr items.length Pv St
 st:St 0 s₂.heap
 wnew:∀ b ∈ wr,s₁.heap.get? b=none
 live:∀ i h,St i h->∀ b ∈ wr,∃ o,h.get? b=some o/\(cA it'=false->o.cls ≠ .type "tuple")/\(∀ vs n,o ≠ listObj vs n)/\∀ es n,o ≠ dictObj es n
 obj:∀ b ∈ fp,∃ o,s₂.heap.get? b=some o
 pin:∀ b ∈ fp,s₁.heap.get? b=none\/∃ o,s₁.heap.get? b=some o/\((∃ vs n,o=tupObj vs n)\/(G b/\∃ vs n,o=listObj vs n)\/∃ i,Ex.v i ∈ itOw ow it'/\ow.contains i=true/\b=own i/\∃ xs,m[i]?=some (some (.list xs)))
 vals:∀ i vs,i < items.length->Pv i vs->∃ ds as,items[i]?=some ds/\RdAll P.H s₁.heap vs ds as/\∀ a ∈ as,G a
noncomputable def Pk.SI(P:Pk)(r:Nat)(c:TC)(tgt:PySem.Expr)(xs:List Str)(e:PySem.Expr)(it':It):Prop:=
 ∀ (A:Around) (env:Env) (s:Shared) (m:St) (ow:List Nat) (own:Nat->Addr) (G:Addr->Prop) (items:List (List D)),Pre P r c A env s m ow own G->okIt ow it'=true->evIt P.Φ P.Γ it' m=some items ->
  wpAny (model P.prog P.w) A (eval e env) (λxv sx=>wpAny (model P.prog P.w) A (pyIter xv) (λitv s₂=>∃ s₁ I fp wr Pv St,itv = .ref I/\ItOk P A tgt xs ow own G m it' items s s₁ s₂ I fp wr Pv St) (λ_ _=>False) sx) (λ_ _=>False) s
end Mine
set_option tactic.hygienic false
namespace Mine
open PySem
theorem ki{xs:List D}{i:Nat}{d:D}(h:xs[i]?=some d):(one xs)[i]?=some [d]:=by
 unfold one;rw [Qy,h];rfl
theorem ir(xs:List D):(one xs).length=xs.length:=by simp [one]
theorem oz{ow:List Nat}{a:Ex}(h:isOw ow a=true):∃ i,a = .v i/\ow.contains i=true:=by
 cases a<;>first | exact ⟨_,rfl,h⟩ | cases h
section
variable {P:Pk}{r:Nat}{c:TC}
theorem eb{H:D->Int}{h:Heap}{vs:Array Value}{xs:List D}{as:List Addr}{G:Addr->Prop}(ra:RdAll H h vs.toList xs as)(hG:∀ a ∈ as,G a){i:Nat}{l:List Value}(hp:∃ v,l=[v]/\vs[i]?=some v) :
 ∃ ds bs,(one xs)[i]?=some ds/\RdAll H h l ds bs/\∀ a ∈ bs,G a:=by
 refine byG λX_ g_=>?_;obtain ⟨v,rfl,hv⟩:=hp;rw [<- Zb] at hv;obtain ⟨d,bs,e,rd,q⟩:=ra.getV hv;refine g_ ?_;exact ⟨[d],bs,ki e,.one rd,λa m=>hG a (q a m)⟩
theorem evV{Φ:Str->List D->Option D}{Γ:Str->Option D}{i:Nat}{m:St}{d:D}(h:evE Φ Γ (.v i) m=some d):m[i]?=some (some d):=by
 simp only [x_v] at h;cases q:m[i]? with
 | none=>rw [q] at h;cases h
 | some y=>rw [q] at h;simp only [bX] at h;rw [h]
theorem qI{x:Str}{px:Pos}{e:PySem.Expr}{a:Ex}(ha:P.SE r c e a):P.SI r c (.Name x px) [x] e (.plain a):=by
 intro A env s m ow own G items p hok hev;simp only [vp] at hok;rw [ib] at hev;refine aa hev λdx e1 hev=>?_;obtain ⟨xs,e2,rfl⟩:=ae hev;refine SE.us ha p hok e1 λv s1 k as rd g f _ w=>?_;have hA:=p.room.hd;have rd0:=rd;cases rd with
 | @list l vs n _ as' ho hz ra=>
  simp only [iZ,Qc] at e2;subst e2;have hl:s1.heap.IsList l vs:=⟨_,ho,rfl,_,rfl⟩
  have hlen:=ra.length;simp only [QJ] at hlen;have W:=Turns.ofWalks (Walks.list (prog:=P.prog) (w:=P.w) (A:=A) hA s1.heap.objs.size l (QM (Q3 ho)) vs) x px;refine wpAny_pyIter_list hl ?_;rw [hlen,<- ir] at W;refine ⟨s1,_,_,_,_,_,rfl,⟨k,Kp.push s1 _,W,⟨⟨_,QL _ rfl,rfl,rfl⟩,hl.at λo e=>Qi _ e⟩,?_,?_,?_,?_,?_⟩⟩
  ·intro b hb;rw [Qx hb];exact aU _
  ·rintro i h ⟨⟨o,ho,hc,hd⟩,_⟩ b hb
   rw [Qx hb];exact ⟨o,ho,λ_=>by rw [hc];decide,λvs n e=>(by rw [e] at hd;cases hd),λvs n e=>(by rw [e] at hd;cases hd)⟩
  ·intro b hb
   rcases Qw hb with rfl | hb
   ·exact ⟨_,QL _ rfl⟩
   ·rw [Qx hb];exact ⟨_,Qi _ ho⟩
  ·intro b hb
   rcases Qw hb with rfl | hb
   ·exact .inl (aU _)
   ·rw [Qx hb]
    refine .inr ⟨_,ho,.inr ?_⟩;cases hi:isOw ow a with
    | false=>exact .inl ⟨g hi l (.head _),_,_,rfl⟩
    | true=>
     refine .inr ?_;refine byG λX_ g_=>?_;obtain ⟨i,rfl,hc⟩:=oz hi;refine g_ ?_;exact ⟨i,by simp [vS],hc,(w hi l (.head _)),_,evV e1⟩
  ·intro i l hi hp
   exact eb ra (λb q=>rd0.innG g f b q) hp
 | @tuple l vs n _ as' ho hz ra=>
  simp only [i5,Qc] at e2;subst e2;have hl:s1.heap.IsTuple l vs:=⟨_,ho,rfl,_,rfl⟩
  have hne:l ≠ s1.heap.objs.size:=QM (Q3 ho);have hlen:=ra.length;simp only [QJ] at hlen;have W:=Turns.ofWalks (Walks.tuple (prog:=P.prog) (w:=P.w) (A:=A) hA s1.heap.objs.size l hne vs) x px;refine wpAny_pyIter_tuple hl ?_;rw [hlen,<- ir] at W;refine ⟨s1,_,_,_,_,_,rfl,⟨k,Kp.push s1 _,W,⟨⟨_,QL _ rfl,rfl,rfl⟩,hl.at λo e=>Qi _ e⟩,?_,?_,?_,?_,?_⟩⟩
  ·intro b hb;rw [Qx hb];exact aU _
  ·rintro i h ⟨⟨o,ho,hc,hd⟩,_⟩ b hb
   rw [Qx hb];exact ⟨o,ho,λ_=>by rw [hc];decide,λvs n e=>(by rw [e] at hd;cases hd),λvs n e=>(by rw [e] at hd;cases hd)⟩
  ·intro b hb
   rcases Qw hb with rfl | hb
   ·exact ⟨_,QL _ rfl⟩
   ·rw [Qx hb];exact ⟨_,Qi _ ho⟩
  ·intro b hb
   rcases Qw hb with rfl | hb
   ·exact .inl (aU _)
   ·rw [Qx hb]
    exact .inr ⟨_,ho,.inl ⟨_,_,rfl⟩⟩
  ·intro i l hi hp
   exact eb ra (λb q=>rd0.innG g f b q) hp
 | str y t hz ho=>
  simp only [nu,Qc] at e2;subst e2;have fin:∀ (T:String),T ≠ "tuple" -> Turns P.prog P.w A (.Name x px) [x] s1.heap.objs.size [s1.heap.objs.size] [s1.heap.objs.size] y.cps.size (λi vals=>∃ v,vals=[v]/\SignAt y i v) (λi h=>h.IsStrIter s1.heap.objs.size T y t i) ->
   ∃ s₁ I fp wr Pv St,Value.ref s1.heap.objs.size = .ref I/\ItOk P A (.Name x px) [x] ow own G m (.plain a) (one (y.cps.toList.map λc=>.str ⟨#[c]⟩)) s s₁ { s1 with heap:=s1.heap.push { cls:=.type T,data:=.fields #[.str y t,.int 0 0] } } I fp wr Pv St:=λT hT W=>by
   have el:y.cps.size=(one (y.cps.toList.map λc=>PyData.str ⟨#[c]⟩)).length:=by rw [ir,lX,QJ]
   rw [el] at W;refine ⟨s1,_,_,_,_,_,rfl,⟨k,Kp.push s1 _,W,⟨_,QL _ rfl,rfl,rfl⟩,?_,?_,?_,?_,?_⟩⟩
   ·intro b hb;rw [Qx hb];exact aU _
   ·rintro i h ⟨o,ho,hc,hd⟩ b hb
    rw [Qx hb];exact ⟨o,ho,λ_=>by rw [hc];simpa using hT,λvs n e=>(by rw [e] at hd;cases hd),λvs n e=>(by rw [e] at hd;cases hd)⟩
   ·intro b hb;rw [Qx hb];exact ⟨_,QL _ rfl⟩
   ·intro b hb;rw [Qx hb];exact .inl (aU _)
   ·rintro i l hi ⟨v,rfl,cp,u,hc,rfl⟩
    refine ⟨[.str ⟨#[cp]⟩],[],ki ?_,.one (.str _ _ (by show 1<=sizeLine;decide) (jg ho hc)),λ_ q=>(nomatch q)⟩;rw [Qy,Zb,hc];rfl
  cases hc:y.cps.all (· < 128) with
  | false=>exact wpAny_pyIter_wide hc (fin _ (by decide) (Turns.ofWalks (Walks.strWide hA _ _ _) x px))
  | true=>exact wpAny_pyIter_ascii hc (fin _ (by decide) (Turns.ofWalks (Walks.strAscii hA _ _ _) x px))
 | none=>cases e2
 | bool b=>cases e2
 | int i t=>cases e2
 | dict=>cases e2
theorem eP:∀ (n:Nat) (a:Int),(cg a n).length=n:=by
 intro n;induction n with
 | zero=>
  intro _;exact rfl
 | succ n eP=>
  intro a;simp [d8,eP]
theorem gO:∀ (n:Nat) (a:Int) (i:Nat),i < n->(cg a n)[i]?=some (.int (a+i))
 | 0,_,_,h=>absurd h (ZY _)
 | n+1,a,0,_=>by simp [d8]
 | n+1,a,i+1,h=>by
  simp only [d8,gX];rw [gO n (a+1) i (by exact Q7 h)];congr 2;(rw [Int.add_assoc,Yb 1];rfl)
theorem lA{A:Around}{x:Str}{px:Pos}{m:St}{ow:List Nat}{own:Nat->Addr}{G:Addr->Prop}{it':It}{s s1 s2:Shared}{ra:Addr}{a b:Int}{t u v:Tok}(hA:A.handled=none)(k1:Kp s s1)(k2:Kp s1 s2)(hr:IsRange s2.heap ra a b 1 t u v)
 (hp:a.natAbs<=2 ^ 20) (hq:b.natAbs<=2 ^ 20) :
 wpAny (model P.prog P.w) A (pyIter (.ref ra)) (λitv s₂=>∃ s₁ I fp wr Pv St,itv = .ref I/\ItOk P A (.Name x px) [x] ow own G m it' (one (cg a (b - a).toNat)) s s₁ s₂ I fp wr Pv St) (λ_ _=>False) s2:=by
 refine wpAny_pyIter_range hr (small_one (by exact Qt (by decide) (absL hp).1) (by exact QH (absL hp).2 (by decide)) (by exact Qt (by decide) (absL hq).1) (by exact QH (absL hq).2 (by decide))) ?_;have hsz:Builtin.Range.rangeSize a b 1=((b - a).toNat:Int):=by
  rw [rangeSize_one];split<;>(first | exact (Zp (Int.sub_nonneg_of_le (XX ‹_›))).symm | exact (Qf Int.ofNat (Y5.mpr (Int.sub_nonpos_of_le (ZB.mp ‹_›)))).symm)
 have W:=Turns.ofWalks (Walks.range (prog:=P.prog) (w:=P.w) (A:=A) hA s2.heap.objs.size a 1 (b - a).toNat) x px;have el:(b - a).toNat=(one (cg a (b - a).toNat)).length:=by rw [ir,eP]
 rw [el] at W;refine ⟨s2,_,_,_,_,_,rfl,⟨k1.trans k2,Kp.push s2 _,W,?_,?_,?_,?_,?_,?_⟩⟩
 ·show IsRangeIter _ _ _ _ _
  rw [hsz,<- el]
  simpa using QL _ rfl
 ·intro b hb;rw [Qx hb];exact aU _
 ·intro i h ho b hb
  rw [Qx hb];exact ⟨_,ho,λ_=>by simp,λvs n e=>(by have:=Qf Obj.data e;cases this),λvs n e=>(by have:=Qf Obj.data e;cases this)⟩
 ·intro b hb;rw [Qx hb];exact ⟨_,QL _ rfl⟩
 ·intro b hb;rw [Qx hb];exact .inl (aU _)
 ·rintro i l hi ⟨v,rfl,t,rfl⟩
  rw [<- el] at hi;refine ⟨[.int (a+i)],[],ki (gO _ _ _ hi),?_,λ_ q=>(nomatch q)⟩;have e1:a+(i:Int) * 1=a+(i:Int):=by (rw [Int.mul_one])
  rw [e1];exact .one (.int _ _)
set_option tactic.hygienic true in
theorem oA{f x:Str}{pf px pos:Pos}{e:PySem.Expr}{a:Ex}(hf:f = "range")(hk:c.kind f=some .globalImplicit)(hs:isStar e=false)(ha:P.SE r c e a):P.SI r c (.Name x px) [x] (.Call (.Name f pf) [e] [] pos) (.range1 a):=by
 intro A env s m ow own G items p hok hev;simp only [vq] at hok;rw [i6] at hev;refine aa hev λdx e1 hev=>?_;refine aa hev λn e2 hev=>?_;rw [bD e2] at e1;subst hf;refine jj p hk (by decide +kernel) (by decide +kernel) (ci (by decide +kernel)) gM (.inr ⟨_,rfl⟩) hs ha hok e1 λy s1 as k rd g f=>?_;have hn:=ay hev;cases rd;refine call_range_1 ?_;rw [<- Qv hn.2,show n.toNat=(n - 0).toNat by simp];exact lA (P:=P) p.room.hd (k.trans (Kp.toks s1 (s1.toks+1+1))) (Kp.push { s1 with toks:=s1.toks+1+1 } _) (IsRange.new s1.heap 0 n 1 s1.toks _ (s1.toks+1)) (by decide) hn.1
set_option tactic.hygienic true in
theorem oB{f x:Str}{pf px pos:Pos}{e e2:PySem.Expr}{a b:Ex}(hf:f = "range")(hk:c.kind f=some .globalImplicit)(hs:isStar e=false)(hs2:isStar e2=false)(ha:P.SE r c e a)(hb:P.SE r c e2 b):P.SI r c (.Name x px) [x] (.Call (.Name f pf) [e,e2] [] pos) (.range2 a b):=by
 intro A env s m ow own G items p hok hev;simp only [vr,Qj] at hok;rw [i7] at hev;refine aa hev λdx e1 hev=>?_;refine aa hev λdy e3 hev=>?_;refine aa hev λq e4 hev=>?_;rw [(eN e4).1] at e1;rw [(eN e4).2] at e3;subst hf;refine ZI (dR p hk (by decide +kernel) (by decide +kernel) (ci (by decide +kernel)) gM ?_);refine Z9 ?_ (ak hs _ env) (by rw [ak hs2];rfl);refine Zv (SE.us ha p hok.1 e1 λy s1 k1 as rd1 _ _ _ _=>?_) (ak hs _ env);refine Zv (SE.us hb (p.keeps k1) hok.2 e3 λz s2 k2 bs rd2 _ _ _ _=>?_) (ak hs2 _ env);refine ZP ?_;have hn:=ay hev;cases rd1;cases rd2;refine call_range_2 ?_;rw [<- Qv hn.2];exact lA (P:=P) p.room.hd ((k1.trans k2).trans (Kp.toks s2 (s2.toks+1))) (Kp.push { s2 with toks:=s2.toks+1 } _) (IsRange.new s2.heap _ _ 1 _ _ s2.toks) hn.1.1 hn.1.2
end
end Mine
set_option tactic.hygienic false
namespace Mine
open PySem
noncomputable def closL(env:Env):List (Str × NameKind)->List (Str × Addr)->List (Str × Addr)
 | [],acc=>acc
 | (n,k)::r,acc=>closL env r (if k == .free then (n,(env.cells.lookup n).getD 0)::acc else acc)
theorem fY(env:Env)(x:List (Str × Addr))(n:Str)(k:NameKind)(r:List (Str × NameKind)):closL env ((n,k)::r) x=closL env r (if (k == NameKind.free)=true then (n,(List.lookup n env.cells).getD 0)::x else x):=rfl
set_option tactic.hygienic true in
theorem qJ{env:Env}:∀ (names:List (Str × NameKind)) (acc:List (Str × Addr)),(∀ y ∈ names,y.2 = .free->∃ a,env.cells.lookup y.1=some a)->(∀ q ∈ acc,env.cells.lookup q.1=some q.2)->∀ q ∈ closL env names acc,env.cells.lookup q.1=some q.2:=by
 intro names;induction names with
 | nil=>
  intro _ _ h;exact h
 | cons p_ r ih_=>
  obtain ⟨n,k⟩:=p_;intro acc hn h;rw [fY];refine ih_ _ (λy hy=>hn y (.tail _ hy)) λq hq=>?_;split at hq
  ·rename_i hk
   rcases Qw hq with rfl | hq
   ·obtain ⟨a,ha⟩:=hn (n,k) (.head _) (Q4 hk)
    simp only at ha;simp [ha]
   ·exact h q hq
  ·exact h q hq
theorem oC{env:Env}:∀ (names:List (Str × NameKind)) (acc:List (Str × Addr)),∀ q ∈ acc,q ∈ closL env names acc:=by
 intro names;induction names with
 | nil=>
  intro _ _ h;exact h
 | cons p_ r ih_=>
  obtain ⟨n,k⟩:=p_;intro acc q h;rw [fY];refine ih_ _ q ?_;split
  ·exact .tail _ h
  ·exact h
theorem jo{env:Env}:∀ (names:List (Str × NameKind)) (acc:List (Str × Addr)) (x:Str),(x,NameKind.free) ∈ names->∃ a,(x,a) ∈ closL env names acc
 | (n,k)::r,acc,x,h=>by
  rw [fY];rcases Qw h with e | h
  ·cases e
   exact ⟨_,oC r _ _ (by rw [Ql (by decide)];exact .head _)⟩
  ·exact jo r _ x h
theorem fj{cs:List (Str × Addr)}{f:Str->Option Addr}:∀ {l:List (Str × Addr)},(∀ q ∈ l,f q.1=some q.2)->∀ x a,(x,a) ∈ l->l.lookup x=f x
 | (n,b)::r,h,x,a,hm=>by
  rw [ZX];cases hb:x == n with
  | true=>
   have e:=Q4 hb;subst e;exact (h _ (.head _)).symm
  | false=>
   rcases Qw hm with e | hm
   ·cases e;simp at hb
   ·exact fj (cs:=cs) (λq hq=>h q (.tail _ hq)) x a hm
theorem mB{scope:Scope}{env:Env}(h:∀ y ∈ scope.names,y.2 = .free->∃ a,env.cells.lookup y.1=some a):closureFor scope env=pure (closL env scope.names []):=by
 unfold closureFor;have key:∀ (names:List (Str × NameKind)) (acc:List (Str × Addr)),(∀ y ∈ names,y.2 = .free->∃ a,env.cells.lookup y.1=some a) ->
  (forIn names acc λ(x:Str × NameKind) (cs:List (Str × Addr))=>(if (x.2 == NameKind.free)=true then do let a <- cellOf env x.1;pure (ForInStep.yield ((x.1,a)::cs)) else pure (ForInStep.yield cs):Sem (ForInStep (List (Str × Addr)))))=pure (closL env names acc):=by
  intro names;induction names with
  | nil=>intro acc _;rfl
  | cons y r ih=>
   intro acc hn;obtain ⟨n,k⟩:=y;rw [XY]
   by_cases hk:(k == NameKind.free)=true
   ·obtain ⟨a,ha⟩:=hn (n,k) (.head _) (Q4 hk)
    simp only at ha;have hc:cellOf env n=pure a:=by unfold cellOf;rw [ha]
    simp only [hk,if_true,hc];have:=ih ((n,a)::acc) λy hy=>hn y (.tail _ hy);rw [fY];rw [Ql hk,ha];exact this
   ·have hk':(k == NameKind.free)=false:=by simpa using hk
    simp only [hk'];have:=ih acc λy hy=>hn y (.tail _ hy);rw [fY];rw [Qu hk];exact this
 exact (Qf (λt:Sem (List (Str × Addr))=>t >>= λcs=>pure cs) (key scope.names [] h)).trans rfl
section
variable {prog:Program}{w:World}{A:Around}{R:Result->Shared->Prop}{s:Shared}
set_option tactic.hygienic true in
theorem jp{elt target iter:PySem.Expr}{ifs:List PySem.Expr}{scope:Scope}{pos:Pos}{it acc:Value}{env:Env}(I:Nat->Shared->Prop)
 (turn:∀ n s,I n s->wpAny (model prog w) A (pyNext it) (λr s₁=>match r with
  | none=>R (.ok .next) s₁
  | some v=>wpAny (model prog w) A (letOwnedTupleGo target it v) (λ_ s₁'=>wpAny (model prog w) A (assign target env v) (λ_ s₂=>
   wpAny (model prog w) A (forIn ifs true λc r=>if r=true then do let ok <- isTrue c env (eval c env);pure (ForInStep.yield ok) else pure (ForInStep.yield r)) (λok s₃=>
    if ok=true then wpAny (model prog w) A (eval elt env) (λx s₄=>
     wpAny (model prog w) A (call (.builtin "list.append") [acc,x]) (λ_ s₅=>∃ m,m < n/\I m s₅) (λ_ _=>False) s₄) (λ_ _=>False) s₃
    else ∃ m,m < n/\I m s₃) (λ_ _=>False) s₂) (λ_ _=>False) s₁') (λ_ _=>False) s₁) (λ_ _=>False) s)
 (n:Nat) (h:I n s) :
 codeAny (model prog w) A (.compLoop (.ListComp elt [⟨target,iter,ifs,0⟩] scope pos) 0 it acc env) R s:=by
 refine codeAny_loop rfl I (λn s hI=>?_) n h;show wpAny _ A ((compTurn (.ListComp elt [⟨target,iter,ifs,0⟩] scope pos) 0 it acc env).onRaise (λx=>do noteFrame x env;theTreesLotGoes x)) _ _ s;refine wpAny_noted ?_;rw [compTurn_list];refine Qd (Yy (Qd (Qs (turn n s hI) (λr s₁ h₁=>?_) λ_ _ h'=>h'.elim)));cases r with
 | none=>exact Qg h₁
 | some v=>
  refine Qd (Qs h₁ (λ_ s₁' h₁'=>?_) λ_ _ h'=>h'.elim);refine Qd (Qs h₁' (λ_ s₂ h₂=>Qd (Qs h₂ (λok s₃ h₃=>?_) λ_ _ h'=>h'.elim)) λ_ _ h'=>h'.elim);cases ok with
  | false=>exact Qg ⟨rfl,h₃⟩
  | true=>
   exact Qd (Qd (Qs h₃ (λx s₄ h₄=>Qd (Qs h₄ (λ_ s₅ h₅=>Qg (Qg ⟨rfl,h₅⟩)) λ_ _ h'=>h'.elim)) λ_ _ h'=>h'.elim))
end
end Mine
set_option tactic.hygienic false
namespace Mine
open PySem
set_option tactic.hygienic true in
theorem bE:∀ {names:List Str} {x:Str} {i:Nat},slotOf names x=some i->i < names.length/\names[i]?=some x:=by
 intro names;induction names with
 | nil=>
  intro _ _ h;simp [qj] at h
 | cons y r bE=>
  intro x i h;rw [cC] at h;cases q:slotOf r x with
  | some j=>
   rw [q] at h;cases h;have:=bE q;exact ⟨by simp;exact this.1,by simpa using this.2⟩
  | none=>
   rw [q] at h;simp only at h;split at h
   ·cases h
    rename_i e;have e:=Q4 e;subst e;exact ⟨by simp,rfl⟩
   ·cases h
theorem ec:∀ {names xs:List Str} {x:Str} {i:Nat},slotOf (names++xs) x=some i->(∃ j,slotOf xs x=some j/\i=names.length+j)\/(slotOf xs x=none/\slotOf names x=some i)
 | [],xs,x,i,h=>by
  simp only [YE] at h;exact .inl ⟨i,h,by simp⟩
 | y::r,xs,x,i,h=>by
  rw [ZH] at h;rw [cC] at h;cases q:slotOf (r++xs) x with
  | some j=>
   rw [q] at h;cases h;rcases ec q with ⟨k,h1,h2⟩ | ⟨h1,h2⟩
   ·exact .inl ⟨k,h1,by simp;exact (Qf Nat.succ h2).trans (Yj _ _).symm⟩
   ·refine .inr ⟨h1,?_⟩
    rw [cC];rw [h2]
  | none=>
   rw [q] at h;simp only at h;have n1:slotOf xs x=none/\slotOf r x=none:=by
    clear h;induction r with
    | nil=>exact ⟨by simpa using q,rfl⟩
    | cons z r ih=>
     rw [ZH] at q;rw [cC] at q;cases q2:slotOf (r++xs) x with
     | some j=>rw [q2] at q;cases q
     | none=>
      rw [q2] at q;obtain ⟨i1,i2⟩:=ih q2;refine ⟨i1,?_⟩;rw [cC];rw [i2];exact q
   refine .inr ⟨n1.1,?_⟩;rw [cC];rw [n1.2];exact h
theorem gE{scope:Scope}{env:Env}{kind:Str->Option NameKind}(hf:env.scope.kind = .function)(hk:∀ x,env.kindOf x=kind x)(x:Str):(relabel scope env).names.lookup x=kindC scope kind x:=by
 unfold relabel kindC;simp only;generalize scope.names=names;induction names with
 | nil=>rfl
 | cons y r ih=>
  obtain ⟨n,k⟩:=y;rw [QX,ZX];simp only [hf,hk];cases hb:x == n with
  | true=>
   have e:=Q4 hb;subst e;simp only [ZX,Zh];cases k<;>simp only<;>first | rfl | skip
   all_goals (by_cases q:(kind x == some NameKind.cell)=true<;>simp [q])
  | false=>
   have:=ih;simp only [hf,hk] at this
   by_cases q:(k == NameKind.free&&true&&(kind n == some NameKind.cell))=true
   ·have q':(k == NameKind.free&&(ScopeKind.function == ScopeKind.function)&&(kind n == some NameKind.cell))=true:=q
    rw [Ql q'];simp only [ZX,hb];exact this
   ·have q' : ¬ (k == NameKind.free&&(ScopeKind.function == ScopeKind.function)&&(kind n == some NameKind.cell))=true:=q
    rw [Qu q'];simp only [ZX,hb];exact this
section
variable {P:Pk}{r:Nat}{c:TC}
structure CompOk(scope:Scope)(c:TC)(xs:List Str):Prop where
 kind:scope.kind = .function
 nocell:∀ y ∈ scope.names,y.2 ≠ .cell
 loc:∀ y ∈ scope.names,y.2 = .local->scope.names.lookup y.1=some .local
 free:∀ y ∈ scope.names,y.2 = .free->c.kind y.1=some .cell
 own:∀ y ∈ scope.names,y.2 = .local->y.1 ∈ xs\/y.1=(".0" : Str)
 tgt:∀ x ∈ xs,scope.names.lookup x=some .local
 dot:(".0" : Str) ∉ c.names++xs
theorem oF{scope:Scope}{xs:List Str}(h:ll scope c.kind xs=true)(h1:c.names.contains (".0" : Str)=false)(h2:xs.contains (".0" : Str)=false):CompOk scope c xs:=by
 unfold ll at h;simp only [Qj,ZK,Q5,Ze,bne_iff_ne,ne_eq,Xf] at h;obtain ⟨⟨⟨⟨⟨a1,a2⟩,a3⟩,a4⟩,a5⟩,a6⟩:=h;refine ⟨a1,a2,λy hy e=>(a3 y hy).resolve_left (λn=>n e),λy hy e=>(a4 y hy).resolve_left (λn=>n e),λy hy e=>?_,a6,?_⟩
 ·rcases a5 y hy with (q | q) | q
  ·exact absurd e q
  ·exact .inl q
  ·exact .inr q
 ·intro hm
  rcases QY hm with q | q
  ·have:c.names.contains (".0" : Str)=true:=Xf.mpr q
   rw [h1] at this;cases this
  ·have:xs.contains (".0" : Str)=true:=Xf.mpr q
   rw [h2] at this;cases this
theorem bp{α:Type}{x:Str}{k:α}:∀ {l:List (Str × α)},l.lookup x=some k->(x,k) ∈ l
 | (n,j)::r,h=>by
  rw [ZX] at h;cases hb:x == n with
  | true=>rw [hb] at h;cases h;rw [Q4 hb];exact .head _
  | false=>rw [hb] at h;exact .tail _ (bp h)
set_option tactic.hygienic true in
theorem qK{scope:Scope}{xs:List Str}{env:Env}{m:St}{ow:List Nat}{own:Nat->Addr}{G:Addr->Prop}{h:Heap}{C:Addr}{mm:Str->Option Value}{vals:List Value}{ds:List D}{as:List Addr}(K:CompOk scope c xs)
 (R:EnvR P.H c env ow own G h m) (hn:h.Ns C mm) (hv:∀ j x v,xs[j]?=some x->vals[j]?=some v->slotOf xs x=some j->mm x=some v) (rd:RdAll P.H h vals ds as) (hl:vals.length=xs.length) (hg:∀ a ∈ as,G a) :
 EnvR P.H ⟨c.names++xs,kindC scope c.kind⟩ (compEnvC scope (closL env scope.names []) C env) ow own G h (m++ds.map some):=by
 have kd:∀ x,(compEnvC scope (closL env scope.names []) C env).kindOf x=kindC scope c.kind x:=λx=>gE R.fn R.kd x;have cells:∀ x,kindC scope c.kind x=some .cell->(closL env scope.names []).lookup x=env.cells.lookup x/\c.kind x=some .cell:=λx hx=>by
  unfold kindC at hx;cases hl:scope.names.lookup x with
  | none=>rw [hl] at hx;cases hx
  | some k=>
   rw [hl] at hx;cases k
   case free=>
    replace hx:(if c.kind x == some .cell then some NameKind.cell else some NameKind.free)=some .cell:=hx;split at hx
    ·rename_i q
     obtain ⟨a,ha⟩:=jo (env:=env) scope.names [] x (bp hl);exact ⟨fj (cs:=[]) (f:=λz=>env.cells.lookup z) (qJ scope.names [] (λy hy e=>R.cel y.1 ((R.kd y.1).trans (K.free y hy e))) (λ_ q=>nomatch q)) x a ha,by simpa using q⟩
    ·cases hx
   case cell=>exact absurd (bp hl) λhm=>K.nocell _ hm rfl
   all_goals cases hx
 refine ⟨K.kind,R.gl,R.bu,kd,?_,?_,?_,?_⟩
 ·simp only [QW,lX,R.len,<- rd.length,hl]
 ·intro i hi
  have:=R.owlt i hi;simp only [QW];exact Qe this (QI _ _)
 ·intro x hx
  obtain ⟨e1,e2⟩:=cells x ((kd x).symm.trans hx);obtain ⟨a,ha⟩:=R.cel x ((R.kd x).trans e2);exact ⟨a,e1.trans ha⟩
 ·intro x i d hs hm hk
  rcases ec hs with ⟨j,hj,rfl⟩ | ⟨hj,hi⟩
  ·obtain ⟨jl,jx⟩:=bE hj
   have e:(m++ds.map some)[c.names.length+j]?=(ds.map some)[j]?:=by
    rw [<- R.len,ZW (by exact QI _ _)];congr 1;exact Nat.add_sub_cancel_left _ _
   rw [e,Qy] at hm;obtain ⟨d',hd',e'⟩:=QK hm;cases e';refine byG λX_ g_=>?_;obtain ⟨v,bs,ev,rv,hb⟩:=rd.get hd';refine g_ ?_;have hkl:kindC scope c.kind x=some .local:=by unfold kindC;rw [(K.tgt x (Qa jx))]
   refine ⟨v,bs,.inl ⟨(kd x).trans hkl,mm,hn,hv j x v jx ev hj⟩,rv,λho=>?_,λ_ a q=>hg a (hb a q)⟩;have:=R.owlt _ ho;rw [R.len] at this;exact absurd this (Z7.mpr (QI _ _))
  ·obtain ⟨il,ix⟩:=bE hi
   rw [(Zx (by rw [R.len];exact il))] at hm;rcases hk with hk | hk
   ·exfalso
    have hloc:scope.names.lookup x=some .local:=by
     simp only [kindC] at hk;split at hk
     ·split at hk<;>cases hk
     ·exact hk
    rcases K.own _ (bp hloc) rfl with q | q
    ·obtain ⟨j,hjx⟩:=Z4 q
     have:∀ (l:List Str) (j:Nat),l[j]?=some x->slotOf l x ≠ none:=by
      intro l;induction l with
      | nil=>intro j h;simp at h
      | cons y r ih=>
       intro j h;rw [cC];cases q:slotOf r x with
       | some k=>simp
       | none=>
        cases j with
        | zero=>simp at h;simp [h]
        | succ j=>exact absurd q (ih j (by simpa using h))
     exact this xs j hjx hj
    ·exact K.dot (by rw [<- q];exact Q6 _ (Qa ix))
   ·refine byG λX_ g_=>?_
    obtain ⟨e1,e2⟩:=cells x hk;obtain ⟨v,bs,hvar,rv,h1,h2⟩:=R.var x i d hi hm (.inr e2);refine g_ ?_;refine ⟨v,bs,?_,rv,h1,h2⟩;rcases hvar with ⟨q,_⟩ | ⟨_,cc,hc,hcell⟩
    ·rw [R.kd,e2] at q;cases q
    ·exact .inr ⟨(kd x).trans hk,cc,e1.trans hc,hcell⟩
end
end Mine
set_option tactic.hygienic false
namespace Mine
open PySem
noncomputable def SIfs(P:Pk)(r:Nat)(c:TC):List PySem.Expr->Exo->Prop
 | [],.none=>True
 | [q],.some b=>P.ST r c q b
 | _,_=>False
theorem EnvR.strengthen{H:D->Int}{c:TC}{env:Env}{ow:List Nat}{own:Nat->Addr}{G G':Addr->Prop}{h:Heap}{m:St}(R:EnvR H c env ow own G h m)(hg:∀ a o,h.get? a=some o->G a->G' a):EnvR H c env ow own G' h m where
 fn:=R.fn
 gl:=R.gl
 bu:=R.bu
 kd:=R.kd
 len:=R.len
 owlt:=R.owlt
 cel:=R.cel
 var:=λx i d h1 h2 h3=>(R.var x i d h1 h2 h3).imp λv q=>q.imp λas q=>⟨q.1,q.2.1,q.2.2.1,λz y hy=>(q.2.1.old y hy).elim λo ho=>hg y o ho.1 (q.2.2.2 z y hy)⟩
theorem Rd.but{H:D->Int}{h h':Heap}{v:Value}{d:D}{as:List Addr}(X:Addr->Prop)(rd:Rd H h v d as)(hk:∀ b o,¬ X b->h.get? b=some o->h'.get? b=some o)(hx:∀ b o,X b->h.get? b=some o->∀ vs n,o ≠ tupObj vs n)(ha:∀ a ∈ as,¬ X a):Rd H h' v d as:=
 rd.mono' λa o e q=>hk a o (λx=>q.elim (λ⟨vs,n,t⟩=>hx a o x e vs n t) λm=>ha a m x) e
theorem RdAll.but{H:D->Int}{h h':Heap}{v:List Value}{d:List D}{as:List Addr}(X:Addr->Prop)(rd:RdAll H h v d as)(hk:∀ b o,¬ X b->h.get? b=some o->h'.get? b=some o)(hx:∀ b o,X b->h.get? b=some o->∀ vs n,o ≠ tupObj vs n)(ha:∀ a ∈ as,¬ X a):RdAll H h' v d as:=
 rd.mono' λa o e q=>hk a o (λx=>q.elim (λ⟨vs,n,t⟩=>hx a o x e vs n t) λm=>ha a m x) e
theorem bG{h:Heap}{C:Addr}{mm:Str->Option Value}(hn:h.Ns C mm):∀ o,h.get? C=some o->∀ vs n,o ≠ tupObj vs n:=by
 intro o e vs n q;obtain ⟨o',es,ep,e',d,_⟩:=hn;rw [e] at e';cases e';rw [q] at d;cases d
theorem Rd.scalar{H:D->Int}{h h':Heap}{v:Value}{d:D}{as:List Addr}(r:Rd H h v d as)(hs:isScalar d=true):as=[]/\Rd H h' v d []:=by
 cases r<;>first
  | (cases hs;done)
  | exact ⟨rfl,.none⟩
  | exact ⟨rfl,.bool _⟩
  | exact ⟨rfl,.int _ _⟩
  | exact ⟨rfl,.str _ _ (by assumption) (by assumption)⟩
theorem RdAll.scalars{H:D->Int}{h h':Heap}{vs:List Value}{ds:List D}{as:List Addr}(r:RdAll H h vs ds as)(hs:ds.all isScalar=true):as=[]/\RdAll H h' vs ds []:=
 r.ind (M:=λvs ds as=>ds.all isScalar=true->as=[]/\RdAll H h' vs ds []) (λo_=>⟨rfl,.nil⟩) (λv vs d ds as bs h1 h2 i hs=>by
  rw [List.all_cons,Qj] at hs;obtain ⟨rfl,r2⟩:=i hs.2;obtain ⟨rfl,r1⟩:=h1.scalar (h':=h') hs.1;exact ⟨rfl,.cons r1 r2⟩) hs
theorem oH{f:List D->Option D}{c:List D->Option Bool}{vs:List D}{r:List (List D)}{out:List D}(h:dM f c (vs::r)=some out) :
 ∃ b,c vs=some b/\((b=true/\∃ x o,f vs=some x/\dM f c r=some o/\out=x::o)\/(b=false/\dM f c r=some out)):=by
 simp only [nr] at h;refine aa h λb e h=>?_;cases b with
 | true=>
  simp only [if_true] at h;refine byG λX_ g_=>?_;refine aa h λx e1 h=>?_;obtain ⟨o,e2,rfl⟩:=ae h;refine g_ ?_;exact ⟨true,e,.inl ⟨rfl,x,o,e1,e2,rfl⟩⟩
 | false=>exact ⟨false,e,.inr ⟨rfl,by simpa using h⟩⟩
structure CInv(H:D->Int)(s₂:Shared)(len:Nat)(S:Nat->Heap->Prop)(C D0:Addr)(G':Addr->Prop)(ev:Nat->Option (List D))(out:List D)(wr:List Addr)(n:Nat)(s':Shared)(i:Nat)(h':Heap)(tk:Nat)(mm:Str->Option Value)(ys:Array Value)(o1 o2:List D)(as:List Addr):Prop where
 e:s'={ s₂ with heap:=h',toks:=tk }
 ni:n+i=len
 st:S i h'
 ns:h'.Ns C mm
 pl:h'.PlainList D0 ys
 sz:ys.size<=i
 rd:RdAll H h' ys.toList o1 as
 g:∀ a ∈ as,G' a
 ev:ev i=some o2
 out:out=o1++o2
 kp:∀ b o,b ∉ wr->s₂.heap.get? b=some o->h'.get? b=some o
section
variable {P:Pk}{r:Nat}{c:TC}
theorem oI{A:Around}{cenv:Env}(hp:(cenv.scope.kind == .class||(cenv.scope.kind == .module&&cenv.locals != cenv.globals))=false) :
 ∀ {l:List (Str × Value)} {s:Shared} {mm:Str->Option Value} {Q:Shared->Prop},(∀ q ∈ l,cenv.kindOf q.1=some .local)->(l.map (·.1)).Nodup->s.heap.Ns cenv.locals mm ->
 (∀ h' tk mm',h'.Ns cenv.locals mm'->(∀ q ∈ l,mm' q.1=some q.2)->(∀ y,y ∉ l.map (·.1)->mm' y=mm y)->Heap.SameBut cenv.locals s.heap h'->Q { s with heap:=h',toks:=tk })->jn (model P.prog P.w) A cenv l Q s:=by
 intro l;induction l with
 | nil=>
  intro s mm Q _ _ hn h;exact h s.heap s.toks mm hn (λq x=>nomatch x) (λo_ o_=>rfl) ⟨rfl,λo_ o_=>rfl⟩
 | cons p_ r ih_=>
  intro s mm Q hk hd hn h;obtain ⟨x,v⟩:=p_;show wpAny _ _ _ _ _ _;rw [QX,Q8] at hd;refine wpAny_storeName_local (hk _ (.head _)) hn (λh' hn' hs'=>?_) hp;refine ih_ (λq hq=>hk q (.tail _ hq)) hd.2 hn' λh'' tk mm' hn'' h1 h2 h3=>?_;refine h h'' tk mm' hn'' (λq hq=>?_) (λy hy=>?_) (hs'.trans h3)
  ·rcases Qw hq with rfl | hq
   ·rw [h2 _ hd.1];simp
   ·exact h1 q hq
  ·simp only [QX,Ye,not_or] at hy
   rw [h2 y hy.2,Qu hy.1]
structure CompAt(s:Shared)(D0 C:Addr)(out:List D)(G:Addr->Prop)(P:Pk)(s':Shared):Prop where
 kp:Kp s s'
 dn:s.heap.get? D0=none
 cn:s.heap.get? C=none
 dc:D0 ≠ C
 ns:∃ mC,s'.heap.Ns C mC
 rd:∃ as,Rd P.H s'.heap (.ref D0) (.list out) (D0::as)/\∀ a ∈ as,G a/\a ≠ C/\a ≠ D0
theorem Kp.setHeap{a b:Shared}{h:Heap}{t:Nat}(k:Kp a b)(hk:∀ x o,a.heap.get? x=some o->h.get? x=some o):Kp a { b with heap:=h,toks:=t }:=by
 obtain ⟨h1,t1,rfl,_⟩:=k;exact ⟨h,t,rfl,hk⟩
theorem aJ{h:Heap}{a:Addr}(ha:h.objs.size<=a):h.get? a=none:=by
 cases e:h.get? a with
 | none=>rfl
 | some o'=>exact absurd (Q3 e) (Z7.mpr ha)
set_option tactic.hygienic true in
theorem fn_scope{k:ScopeKind}(h:k = .function)(b:Bool):(k == .class||(k == .module&&b))=false:=by rw [h];rfl
theorem qL{A:Around}{env:Env}{s:Shared}{m:St}{ow:List Nat}{own:Nat->Addr}{G:Addr->Prop}{ifs:List PySem.Expr}{co:Exo}{b:Bool}(hc:SIfs P r c ifs co)(p:Pre P r c A env s m ow own G)(ok3:okO ow co=true)(hb:evC P.Φ P.Γ co m=some b) :
 wpAny (model P.prog P.w) A (forIn ifs true λc r=>if r=true then do let ok <- isTrue c env (eval c env);pure (ForInStep.yield ok) else pure (ForInStep.yield r)) (λok s4=>ok=b/\Kp s s4) (λo_ o_=>False) s:=by
 match ifs,co,hc,hb,ok3 with
 | [],.none,_,hb,_=>
  simp only [j5,Qc] at hb;exact Qg ⟨hb,Kp.refl _⟩
 | [q],.some q',hc,hb,ok3=>
  simp only [j6] at hb;refine aa hb λdq e1 e2=>?_;rw [XY];simp only [if_true];refine Qd (Qd ?_);refine ST.use hc p ok3 e1 e2 λs4 k4=>?_;exact Qg (Qg ⟨rfl,k4⟩)
 | [],.some _,hc,_,_=>exact hc.elim
 | [_],.none,hc,_,_=>exact hc.elim
 | _::_::_,_,hc,_,_=>exact hc.elim
theorem mD{n i l:Nat}(h:n+i=l)(k:i < l):n - 1 < n/\n - 1+(i+1)=l:=by
 cases n with
 | zero=>exact absurd ((Zc i).symm.trans h) (QM k)
 | succ n=>exact ⟨QA n,(Yj n i).symm.trans h⟩
theorem mE{A:Around}{env:Env}{s s₁ s₂:Shared}{m:St}{ow:List Nat}{own:Nat->Addr}{G:Addr->Prop}{items:List (List D)}{elt tgt iter:PySem.Expr}{ifs:List PySem.Expr}{scope:Scope}{pos:Pos}{xs:List Str}{e':Ex}{it':It}{co:Exo}
 {I:Addr} {fp wr:List Addr} {Pv:Nat->List Value->Prop} {S:Nat->Heap->Prop} {out:List D} {RR:Value->Addr->Result->Shared->Prop} (p:Pre P r c A env s m ow own G) (K:CompOk scope c xs) (hnd:xs.Nodup)
 (O:ItOk P A tgt xs ow own G m it' items s s₁ s₂ I fp wr Pv S) (he:P.SE r ⟨c.names++xs,kindC scope c.kind⟩ elt e') (hc:SIfs P r ⟨c.names++xs,kindC scope c.kind⟩ ifs co)
 (ok1:okE ow e'=true) (ok2:nm ow e'=true) (ok3:okO ow co=true) (hsz:items.length<=sizeLine)
 (hev:dM (λvs=>evE P.Φ P.Γ e' (m++vs.map some)) (λvs=>evC P.Φ P.Γ co (m++vs.map some)) items=some out) (hz:cA it'=false\/out.all isScalar=true)
 (hRR:∀ D0 C s',CompAt s D0 C out G P s'->RR (.ref D0) C (.ok .next) s') :
 wpAny (model P.prog P.w) A (newList []) (λacc s₃=>wpAny (model P.prog P.w) A (newFunctionEnv scope env.globals (closL env scope.names []) [] env.qual none .none (some env)) (λcenv s₄=>
  codeAny (model P.prog P.w) A (.compStart (.ListComp elt [⟨tgt,iter,ifs,0⟩] scope pos) 0 (.ref I) acc { cenv with scope:=relabel scope env }) (RR acc cenv.locals) s₄) (λo_ o_=>False) s₃) (λo_ o_=>False) s₂:=by
 refine Z0 (wpAny_newFunctionEnv K.nocell (by intro y hy;simp at hy) (λh₁ hns₁ hsb₁=>?_) K.kind);dsimp only at hns₁ hsb₁ ⊢;generalize hH2:s₂.heap.push { cls:=.type "list",dict:=none,data:=.seq ([]:List Value).toArray }=H2 at hns₁ hsb₁ ⊢;have hC:H2.objs.size=s₂.heap.objs.size+1:=by rw [<- hH2,Heap.size_push]
 generalize hD0:s₂.heap.objs.size=D0 at hC ⊢;generalize hCC:H2.objs.size=C at hC hns₁ hsb₁ ⊢;have hDC:D0 ≠ C:=by rw [hC];exact QM (QA _)
 have below:∀ b o,s₂.heap.get? b=some o->b ≠ C/\b ≠ D0:=λb o e=>by have:=Q3 e;rw [hD0] at this;exact ⟨by rw [hC];exact QM (Yl this),QM this⟩
 have dfp:∀ b ∈ fp,b ≠ C/\b ≠ D0:=λb hb=>(O.obj b hb).elim λo ho=>below b o ho;have dwr:∀ b ∈ wr,b ≠ C/\b ≠ D0:=λb hb=>dfp b (O.T.sub b hb);have k12:=O.k1.trans O.k2;have old:∀ b o,s₂.heap.get? b=some o->h₁.get? b=some o:=λb o e=>hsb₁.extBut b o (below b o e).1 (Qi _ (hH2 ▸ Qi _ e));have hst₁:S 0 h₁:=O.T.frame _ _ _ O.st λb o_ o e=>old b o e
 let G':Addr->Prop:=λa=>G a/\a ≠ D0/\a ≠ C/\a ∉ wr
 have wold:∀ b o,s₁.heap.get? b=some o->b ∉ wr:=λb o e hb=>by rw [O.wnew b hb] at e;cases e
 let Inv:Nat->Shared->Prop:=λn s'=>∃ i h' tk mm ys o1 o2 as,CInv P.H s₂ items.length S C D0 G' (λi=>dM (λvs=>evE P.Φ P.Γ e' (m++vs.map some)) (λvs=>evC P.Φ P.Γ co (m++vs.map some)) (items.drop i)) out wr n s' i h' tk mm ys o1 o2 as
 have loop:∀ s₃:Shared,s₃={ s₂ with heap:=h₁,toks:=s₂.toks+([]:List (Str × Value)).length } ->
  codeAny (model P.prog P.w) A (.compLoop (.ListComp elt [⟨tgt,iter,ifs,0⟩] scope pos) 0 (.ref I) (.ref D0) (compEnvC scope (closL env scope.names []) C env)) (RR (.ref D0) C) s₃:=by
  rintro s₃ rfl;refine jp Inv (λn s' hI=>?_) items.length ⟨0,h₁,_,_,#[],[],out,[],rfl,rfl,hst₁,hns₁,(⟨_,hsb₁.extBut _ _ hDC (Qi _ (hH2 ▸ hD0 ▸ QL _ rfl))⟩),QO 0,.nil,(λo_ q=>nomatch q),hev,rfl,λb o o_ e=>old b o e⟩;obtain ⟨i,h',tk,mm,ys,o1,o2,as,rfl,hni,hS,hns,hpl,hys,rd,hg,hev2,hout,hkp⟩:=hI;have walkRd:∀ h'':Heap,(∀ b o,b ∉ wr->h'.get? b=some o->h''.get? b=some o)->RdAll P.H h'' ys.toList o1 as:=λh'' hk=>by
   rcases hz with hz | hz
   ·refine rd.but (λb=>b ∈ wr) hk (λb o hb e vs n q=>?_) λa ha=>(hg a ha).2.2.2
    obtain ⟨o',e',h2,_⟩:=O.live i h' hS b hb;rw [e] at e';cases e';exact h2 hz (by rw [q])
   ·rw [hout,List.all_append,Qj] at hz
    obtain ⟨rfl,r2⟩:=rd.scalars (h':=h'') hz.1;exact r2
  have s2keep:∀ h'':Heap,(∀ b o,b ∉ wr->h'.get? b=some o->h''.get? b=some o)->∀ b o,b ∉ wr->s₂.heap.get? b=some o->h''.get? b=some o:=λh'' hk b o hb e=>hk b o hb (hkp b o hb e)
  by_cases hlt:i < items.length
  ·obtain ⟨ds,hds⟩:∃ ds,items[i]?=some ds:=⟨items[i],Qk hlt⟩
   rw [List.drop_eq_getElem_cons hlt] at hev2;have hds':items[i]=ds:=by rw [Qk hlt] at hds;exact Qv hds
   rw [hds'] at hev2;obtain ⟨b,hb,hrest⟩:=oH hev2;have key:=O.T.item i { s₂ with heap:=h',toks:=tk } (compEnvC scope (closL env scope.names []) C env) (λs₃ => 
    wpAny (model P.prog P.w) A (forIn ifs true λc r=>if r=true then do let ok <- isTrue c (compEnvC scope (closL env scope.names []) C env) (eval c (compEnvC scope (closL env scope.names []) C env));pure (ForInStep.yield ok) else pure (ForInStep.yield r)) (λok s₃=>
     if ok=true then wpAny (model P.prog P.w) A (eval elt (compEnvC scope (closL env scope.names []) C env)) (λx s₄=>
      wpAny (model P.prog P.w) A (call (.builtin "list.append") [.ref D0,x]) (λo_ s₅=>∃ m,m < n/\Inv m s₅) (λo_ o_=>False) s₄) (λo_ o_=>False) s₃
     else ∃ m,m < n/\Inv m s₃) (λo_ o_=>False) s₃) hlt hS ?_
   ·refine Qs key (λrr s₁ q=>?_) λo_ o_ z=>z
    cases rr with
    | none=>exact q.elim
    | some v=>exact q
   ·intro vals h2 tk2 hPv hlen hS2 hk2
    obtain ⟨ds2,vas,e2,rdv,hgv⟩:=O.vals i vals hlt hPv;rw [hds] at e2;cases e2;have hlocal:∀ x ∈ xs,(compEnvC scope (closL env scope.names []) C env).kindOf x=some .local:=λx hx=>by
     show (relabel scope env).names.lookup x=_;exact lookup_relabel_local (K.tgt x hx)
    have hzip1:(xs.zip vals).map (·.1)=xs:=by
     exact List.map_fst_zip (Zd hlen.symm)
    have hns2:h2.Ns C mm:=hns.at' λo e=>hk2 C o (λhb=>(dwr C hb).1 rfl) e;refine oI (mm:=mm) (fn_scope K.kind _) (λq hq=>hlocal q.1 ?_) (by rw [hzip1];exact hnd) hns2 λh3 tk3 mm3 hns3 hst3 o_ hsb3=>?_
    ·have:q.1 ∈ (xs.zip vals).map (·.1):=YM hq
     rw [hzip1] at this;exact this
    replace hns3:h3.Ns C mm3:=hns3;replace hsb3:Heap.SameBut C h2 h3:=hsb3;have rd3:RdAll P.H h3 ys.toList o1 as:=(walkRd h2 λb o hb e=>hk2 b o hb e).but (λb=>b=C) (λb o hb e=>hsb3.extBut b o hb e) (λb o hb e=>bG hns2 o (hb ▸ e)) λa ha=>(hg a ha).2.2.1;have keep3:∀ b o,b ∉ wr->s₂.heap.get? b=some o->h3.get? b=some o:=λb o hb e=>hsb3.extBut b o (below b o e).1 (s2keep h2 (λb o hb e=>hk2 b o hb e) b o hb e);have keepS1:∀ b o,s₁.heap.get? b=some o->h3.get? b=some o:=λb o e=>keep3 b o (wold b o e) (O.k2.get b o e);have keepS:∀ b o,s.heap.get? b=some o->h3.get? b=some o:=λb o e=>keepS1 b o (O.k1.get b o e);have hS3:S (i+1) h3:=O.T.frame _ _ _ hS2 λb hb o e=>hsb3.extBut b o (dfp b hb).1 e;have hpl3:h3.PlainList D0 ys:=by
     obtain ⟨n0,e⟩:=hpl;exact ⟨n0,hsb3.extBut _ _ hDC (hk2 _ _ (λhb=>(dwr _ hb).2 rfl) e)⟩
    have er3:EnvR P.H ⟨c.names++xs,kindC scope c.kind⟩ (compEnvC scope (closL env scope.names []) C env) ow own G' h3 (m++ds.map some):=by
     refine qK K ((p.er.strengthen λa o e g=>⟨g,(below a o (k12.get a o e)).2,(below a o (k12.get a o e)).1,wold a o (O.k1.get a o e)⟩).keeps keepS) hns3 (vals:=vals) (λj x v ex ev o_=>?_) (rdv.keeps keepS1) hlen (λa ha=>?_)
     ·exact hst3 (x,v) (Qa (i:=j) (by rw [List.getElem?_zip_eq_some];exact ⟨ex,ev⟩))
     ·obtain ⟨o,ho,_⟩:=rdv.old a ha
      have:=below a o (O.k2.get a o ho);exact ⟨hgv a ha,this.2,this.1,wold a o ho⟩
    have pre3:Pre P r ⟨c.names++xs,kindC scope c.kind⟩ A (compEnvC scope (closL env scope.names []) C env) { s₂ with heap:=h3,toks:=tk3 } (m++ds.map some) ow own G':=by
     refine ⟨p.room,p.gp.keeps keepS,er3,λa ea=>⟨p.new a ?_,?_,?_,?_⟩⟩
     ·cases q:s.heap.get? a with
      | none=>rfl
      | some o=>rw [show h3.get? a=_ from keepS a o q] at ea;cases ea
     ·intro q;obtain ⟨n0,e⟩:=hpl3;rw [<- q,show h3.get? a=_ from ea] at e;cases e
     ·intro q;obtain ⟨o,_,_,e,_⟩:=hns3;rw [<- q,show h3.get? a=_ from ea] at e;cases e
     ·intro hb
      obtain ⟨o,e,_⟩:=O.live _ _ hS3 a hb;rw [show h3.get? _=_ from e] at ea;cases ea
    refine Qs (qL hc pre3 ok3 hb) (λok s4 q=>?_) λo_ o_ z=>z;obtain ⟨rfl,k4⟩:=q;have up:∀ s5:Shared,Kp { s₂ with heap:=h3,toks:=tk3 } s5->∃ h5 tk5,s5={ s₂ with heap:=h5,toks:=tk5 }/\∀ b o,h3.get? b=some o->h5.get? b=some o:=λs5 k=>by
     obtain ⟨h5,tk5,rfl,k⟩:=k;exact ⟨h5,tk5,rfl,k⟩
    rcases hrest with ⟨rfl,x,o,e1,e2,rfl⟩ | ⟨rfl,e1⟩
    ·rw [Ql rfl]
     refine SE.us he (pre3.keeps k4) ok1 e1 λxv s5 k5 bs rx gx o_ o_ o_=>?_;have gx:=gx (by simpa [nm] using ok2);obtain ⟨h5,tk5,rfl,u5⟩:=up s5 (k4.trans k5);have pl5:h5.PlainList D0 ys:=hpl3.imp λn0 e=>u5 _ _ e;refine Xq pl5 (λh6 pl6 sb6=>?_) (QQ hys (QQ (Qm hlt) hsz));replace sb6:Heap.SameBut D0 h5 h6:=sb6;have ntD:∀ b o,b=D0->h5.get? b=some o->∀ vs n,o ≠ tupObj vs n:=λb o hb e vs n q=>by
      obtain ⟨n0,e'⟩:=pl5;rw [hb,e'] at e;cases e;exact absurd (Qf Obj.cls q) (by show ¬ (Value.type "list" = Value.type "tuple");decide)
     refine ⟨n - 1,(mD hni hlt).1,i+1,h6,tk5,mm3,ys.push xv,o1++[x],o,as++bs,rfl,(mD hni hlt).2,?_,?_,pl6,by simp;(exact hys),?_,?_,e2,by rw [hout];simp,?_⟩
     ·exact O.T.frame _ _ _ hS3 λb hb o e=>sb6.extBut b o (dfp b hb).2 (u5 b o e)
     ·exact (hns3.keeps u5).sameBut sb6 (Ne.symm hDC)
     ·rw [Array.toList_push]
      exact ((rd3.keeps u5).append (RdAll.one rx)).but (λb=>b=D0) (λb o hb e=>sb6.extBut b o hb e) ntD λa ha=>(QY ha).elim (λq=>(hg a q).2.1) λq=>(gx a q).2.1
     ·exact λa ha=>(QY ha).elim (hg a) (gx a)
     ·exact λb o hb e=>sb6.extBut b o (below b o e).2 (u5 b o (keep3 b o hb e))
    ·rw [Qu (by simp)]
     obtain ⟨h5,tk5,rfl,u5⟩:=up _ k4;exact ⟨n - 1,(mD hni hlt).1,i+1,h5,tk5,mm3,ys,o1,o2,as,rfl,(mD hni hlt).2,O.T.frame _ _ _ hS3 λb o_ o e=>u5 b o e,hns3.keeps u5,hpl3.imp λn0 e=>u5 _ _ e,by exact Nat.le.step hys,rd3.keeps u5,hg,e1,hout,λb o hb e=>u5 b o (keep3 b o hb e)⟩
  ·have hi:i=items.length:=Nat.le_antisymm (hni ▸ Nat.le_add_left i n) (Z7.mp hlt)
   subst hi;refine O.T.done { s₂ with heap:=h',toks:=tk } _ hS λh2 tk2 hk2=>?_;simp only [List.drop_length,tg,Qc] at hev2;subst hev2;rw [Xa] at hout;subst hout;refine hRR D0 C _ ⟨?_,k12.none (aJ (by rw [hD0];exact QO _)),k12.none (aJ (by rw [hD0,hC];exact Zs _)),hDC,⟨mm,hns.at' λo e=>hk2 C o (λhb=>(dwr C hb).1 rfl) e⟩,as,?_,λa ha=>⟨(hg a ha).1,(hg a ha).2.2.1,(hg a ha).2.1⟩⟩
   ·exact O.k1.trans (O.k2.setHeap λb o e=>hk2 b o (wold b o e) (hkp b o (wold b o e) (O.k2.get b o e)))
   ·obtain ⟨n0,e⟩:=hpl
    exact .list (hk2 D0 _ (λhb=>(dwr D0 hb).2 rfl) e) (QQ hys hsz) (walkRd h2 λb o hb e=>hk2 b o hb e)
 exact codeAny_compStart_list (loop _ rfl) (Qs (O.T.self 0 _ (λv s'=>v = .ref I/\s'=_) hst₁ ⟨rfl,rfl⟩) (λv s' q=>by rw [q.1,q.2];exact loop _ rfl) λo_ o_ z=>z.elim)
end
end Mine
set_option tactic.hygienic false
namespace Mine
open PySem
section
variable {P:Pk}{r:Nat}{c:TC}
theorem fZ{e:PySem.Expr}{env:Env}(h:isSet e=false):∀ x,foldedSetIterable e env x=pure x:=by
 intro x;cases e<;>first | rfl | cases h
theorem CompAt.sameC{s:Shared}{D0 C:Addr}{out:List D}{G:Addr->Prop}{s':Shared}(q:CompAt s D0 C out G P s'){h':Heap}(hs:Heap.SameBut C s'.heap h') :
 Kp s { s' with heap:=h' }/\∃ as,Rd P.H h' (.ref D0) (.list out) (D0::as)/\∀ a ∈ as,G a:=by
 obtain ⟨mC,hn⟩:=q.ns;obtain ⟨as,rd,ha⟩:=q.rd;refine ⟨q.kp.setHeap λx o e=>hs.extBut x o (by rintro rfl;rw [q.cn] at e;cases e) (q.kp.get x o e),as,?_,λa m=>(ha a m).1⟩;refine rd.but (λb=>b=C) (λb o hb e=>hs.extBut b o hb e) (λb o hb e=>by subst hb;exact bG hn o e) λa m=>?_;rcases Qw m with rfl | m
 ·exact q.dc
 ·exact (ha a m).2.1
set_option tactic.hygienic true in
theorem lB{A:Around}{env:Env}{s:Shared}{m:St}{ow:List Nat}{own:Nat->Addr}{G:Addr->Prop}{elt tgt iter:PySem.Expr}{ifs:List PySem.Expr}{scope:Scope}{pos pos':Pos}{xs:List Str}{e':Ex}{it':It}{co:Exo}{d:D}{use:Option (Value->Sem Unit)}{Q:Value->Shared->Prop}
 (hset:isSet iter=false) (hnd:xs.Nodup) (K:CompOk scope c xs) (hi:P.SI r c tgt xs iter it') (he:P.SE r ⟨c.names++xs,kindC scope c.kind⟩ elt e') (hc:SIfs P r ⟨c.names++xs,kindC scope c.kind⟩ ifs co)
 (p:Pre P r c A env s m ow own G) (hok:okE ow (.comp e' it' co)=true) (hev:evE P.Φ P.Γ (.comp e' it' co) m=some d)
 (h:∀ out D0 C s',d = .list out->CompAt s D0 C out G P s'->compPost (model P.prog P.w) A (λ_ _=>False) use Q (.ref D0) C (.ok .next) s') :
 wpAny (model P.prog P.w) A (comprehension (.ListComp elt [⟨tgt,iter,ifs,0⟩] scope pos) scope env pos' (newList []) false (eval iter env) use) Q (λ_ _=>False) s:=by
 simp only [su,Qj] at hok;refine byG λX_ g_=>?_;obtain ⟨⟨⟨ok1,ok2⟩,ok3⟩,ok4⟩:=hok;simp only [ny] at hev;refine aa hev λitems e1 hev=>?_;refine g_ ?_;split at hev
 case isFalse=>cases hev
 rename_i hsz;refine aa hev λout e2 hev=>?_;split at hev
 case isFalse=>cases hev
 rename_i hz;cases hev;refine wpAny_comprehension_free rfl (fZ hset) (mB λy hy q=>p.er.cel y.1 ((p.er.kd y.1).trans (K.free y hy q))) K.kind K.loc ?_;refine Qs (hi A env s m ow own G items p ok3 e1) (λxv sx q=>Qs q (λitv s₂ q2=>?_) λ_ _ z=>z) λ_ _ z=>z;refine byG λX_ g_=>?_;obtain ⟨s₁,I,fp,wr,Pv,S,rfl,O⟩:=q2;refine g_ ?_;refine mE p K hnd O he hc ok1 ok2 ok4 ?_ e2 ?_ λD0 C s' q=>h out D0 C s' rfl q
 ·simp only [bL,QE] at hsz
  exact QQ hsz (by decide)
 ·simpa using hz
theorem oJ{elt tgt iter:PySem.Expr}{ifs:List PySem.Expr}{scope:Scope}{pos:Pos}{xs:List Str}{e':Ex}{it':It}{co:Exo}(hset:isSet iter=false)(hnd:xs.Nodup)(K:CompOk scope c xs)(hi:P.SI r c tgt xs iter it')
 (he:P.SE r ⟨c.names++xs,kindC scope c.kind⟩ elt e') (hc:SIfs P r ⟨c.names++xs,kindC scope c.kind⟩ ifs co):P.SE r c (.ListComp elt [⟨tgt,iter,ifs,0⟩] scope pos) (.comp e' it' co):=by
 intro A env s m ow own G d hA hg R hG hok hev;have p:Pre P r c A env s m ow own G:=⟨hA,hg,R,hG⟩
 rw [eval_ListComp];refine lB hset hnd K hi he hc p hok hev λout D0 C s' hd q=>?_;subst hd;obtain ⟨mC,hn⟩:=q.ns;refine ⟨mC,hn,λh' hs=>?_⟩;obtain ⟨k,as,rd,ha⟩:=q.sameC hs;refine ⟨k,D0::as,rd,λ_ a ma=>?_,λz=>(by cases z),λ_ hf a ma=>?_,λz=>(by cases z)⟩
 ·rcases Qw ma with rfl | ma
  ·exact hG _ q.dn
  ·exact ha a ma
 ·have:as=[]:=rd.inn_flat hf
  subst this;rw [Qx ma];exact q.dn
end
end Mine
set_option tactic.hygienic false
namespace Mine
open PySem
section
variable {P:Pk}{r:Nat}{c:TC}
theorem f6:∀ (xs:List D) (a:Nat),(cR a xs).length=xs.length:=by
 intro xs;induction xs with
 | nil=>
  intro _;exact rfl
 | cons _ r f6=>
  intro a;simp [hV,f6]
theorem jq:∀ (xs:List D) (a i:Nat) (d:D),xs[i]?=some d->(cR a xs)[i]?=some [.int ((a+i:Nat):Int),d]
 | _::_,a,0,_,h=>by simp at h;subst h;rfl
 | _::r,a,i+1,d,h=>by
  have:=jq r (a+1) i d (h);simp only [hV,gX,this];congr 4;exact Yj a i
theorem al_n{Q:Addr->Prop}:∀ b ∈ ([]:List Addr),Q b:=λ_ h=>nomatch h
theorem al_c{Q:Addr->Prop}{a:Addr}{l:List Addr}(h:Q a)(k:∀ b ∈ l,Q b):∀ b ∈ a::l,Q b:=List.forall_mem_cons.mpr ⟨h,k⟩
theorem qM(xs:List D):∀ ys:List D,(zipL xs ys).length=min xs.length ys.length:=by
 induction xs with
 | nil=>intro ys;exact (Nat.zero_min _).symm
 | cons x xs ih=>
  intro ys;cases ys with
  | nil=>rfl
  | cons y ys=>rw [u3,QV,ih,QV,QV,Nat.succ_min_succ]
theorem qN(xs:List D):∀ (ys:List D) (i:Nat) (d e:D),xs[i]?=some d->ys[i]?=some e->(zipL xs ys)[i]?=some [d,e]:=by
 induction xs with
 | nil=>intro ys i d e h;cases h
 | cons x xs ih=>
  intro ys i d e h k;cases ys with
  | nil=>cases k
  | cons y ys=>
   cases i with
   | zero=>cases h;cases k;rfl
   | succ i=>exact ih ys i d e h k
theorem t7{Φ:Str->List D->Option D}{Γ:Str->Option D}{m:St}{xs:List D}{ow:List Nat}{own:Nat->Addr}{G:Addr->Prop}{it':It}{a:Ex}{l:Addr}{vs:Array Value}{n:Nat}{as:List Addr}(hev:evE Φ Γ a m=some (.list xs))(hm:a ∈ itOw ow it')(g:isOw ow a=false->∀ b ∈ l::as,G b)(w:isOw ow a=true->∀ b ∈ l::as,b=ownA own a) :
 (G l/\∃ vs' n',listObj vs n=listObj vs' n')\/∃ i,Ex.v i ∈ itOw ow it'/\ow.contains i=true/\l=own i/\∃ xs,m[i]?=some (some (.list xs)):=by
 cases hi:isOw ow a with
 | false=>exact .inl ⟨g hi l (.head _),_,_,rfl⟩
 | true=>
  refine byG λX_ g_=>?_;obtain ⟨i,rfl,hc⟩:=oz hi;refine g_ ?_;exact .inr ⟨i,hm,hc,w hi l (.head _),_,evV hev⟩
set_option tactic.hygienic true in
theorem t8{f x y:Str}{pf px py pt pos:Pos}{k0:Nat}{e:PySem.Expr}{a:Ex}(hf:f = "enumerate")(hk:c.kind f=some .globalImplicit)(hs:isStar e=false)(ha:P.SE r c e a) :
 P.SI r c (.Tuple [.Name x px,.Name y py] k0 pt) [x,y] (.Call (.Name f pf) [e] [] pos) (.enum a):=by
 intro A env s m ow own G items p hok hev;simp only [vt] at hok;rw [nD] at hev;refine aa hev λdx e1 hev=>?_;obtain ⟨xs,e2,rfl⟩:=ae hev;rw [cu e2] at e1;subst hf;refine ZI (dR p hk (by decide +kernel) (by decide +kernel) (ci (by decide +kernel)) gz ?_);refine Z9 ?_ (ak hs _ env) rfl;refine Zv (SE.us ha p hok e1 λv s1 k1 as rd g fl fr1 w=>?_) (ak hs _ env);refine ZP ?_;cases rd using Rd.listE with
 | @mk l vs n as' ho hz ra=>
  refine call_enumerate_1 ho λh' he hit hsz hk=>?_;refine wpAny_pyIter_enum he ?_;refine have hlt:=Q3 ho;?_;refine have hlen:=ra.length;?_;simp only [QJ] at hlen;have W:=Turns.ofWalksU (P.prog |> λo_=>p.room.hd) (WalksT.enumerate (prog:=P.prog) (w:=P.w) (A:=A) p.room.hd (s1.heap.objs.size+1) s1.heap.objs.size l (Nat.succ_ne_self _) (QM (Yl hlt)) (QM hlt) vs).toU
   (λi vals ⟨t,x,_,e⟩=>⟨_,_,e⟩) x y px py pt k0
  rw [hlen,<- f6 xs 0] at W;refine ⟨s1,_,_,_,_,_,rfl,⟨k1,Kp.heap s1 h' hk,W,⟨⟨_,he⟩,hit,⟨_,(hk l _ ho),rfl,_,rfl⟩⟩,?_,?_,?_,?_,?_⟩⟩
  ·intro b hb
   rcases Qw hb with rfl | hb
   ·exact aJ (Zs _)
   ·exact (Qx hb) ▸ (aJ (QO _))
  ·rintro i h ⟨⟨old,he⟩,⟨o,ho,hc,hd⟩,_⟩ b hb
   rcases Qw hb with rfl | hb
   ·exact ⟨_,he,λo_=>by simp,λvs n e=>(by have:=Qf Obj.data e;cases this),λvs n e=>(by have:=Qf Obj.data e;cases this)⟩
   ·exact (Qx hb) ▸ (⟨o,ho,λo_=>by rw [hc];decide,λvs n e=>(by rw [e] at hd;cases hd),λvs n e=>(by rw [e] at hd;cases hd)⟩)
  ·intro b hb
   rcases Qw hb with rfl | hb
   ·exact ⟨_,he⟩
   ·rcases Qw hb with rfl | hb
    ·obtain ⟨o,e,_⟩:=hit;exact ⟨o,e⟩
    ·rw [Qx hb];exact ⟨_,(hk l _ ho)⟩
  ·intro b hb
   rcases Qw hb with rfl | hb
   ·exact .inl (aJ (Zs _))
   ·rcases Qw hb with rfl | hb
    ·exact .inl (aJ (QO _))
    ·exact (Qx hb) ▸ (.inr ⟨_,ho,.inr (t7 e1 (.head _) g w)⟩)
  ·rintro i l' hi ⟨t,x,hx,hv⟩
   refine have hv':l'=[.int i t,x]:=(by exact Qf Array.toList hv);?_;subst hv';refine byG λX_ g_=>?_;obtain ⟨d,bs,ed,rdx,hb⟩:=ra.getV (k:=i) (by simpa using hx);refine g_ ?_;refine ⟨_,[]++(bs++[]),jq xs 0 i d ed,.cons ?_ (.cons rdx .nil),λb mb=>?_⟩
   ·simpa using Rd.int (H:=P.H) (h:=s1.heap) (i:Int) t
   ·exact ((Rd.list ho hz ra).innG (q:=isOw ow a) g fl) b (hb b (by simpa using mb))
set_option tactic.hygienic true in
theorem vT{f x y:Str}{pf px py pt pos:Pos}{k0:Nat}{e1 e2:PySem.Expr}{a1 a2:Ex}(hf:f = "zip")(hk:c.kind f=some .globalImplicit)(hs1:isStar e1=false)(hs2:isStar e2=false)(ha1:P.SE r c e1 a1)(ha2:P.SE r c e2 a2) :
 P.SI r c (.Tuple [.Name x px,.Name y py] k0 pt) [x,y] (.Call (.Name f pf) [e1,e2] [] pos) (.zip a1 a2):=by
 intro A env s m ow own G items p hok hev;simp only [vw,Qj] at hok;rw [ve] at hev;refine aa hev λdx ev1 hev=>?_;refine aa hev λdy ev2 hev=>?_;refine aa hev λxs e3 hev=>?_;obtain ⟨ys,e4,rfl⟩:=ae hev;rw [cu e3] at ev1;rw [cu e4] at ev2;subst hf;refine ZI (dR p hk (by decide +kernel) (by decide +kernel) (ci (by decide +kernel)) qE ?_);refine Z9 ?_ (ak hs1 _ env) (by rw [ak hs2];rfl);refine Zv (SE.us ha1 p hok.1 ev1 λv s1 k1 as rd1 g1 f1 fr1 w1=>?_) (ak hs1 _ env);refine Zv (SE.us ha2 (p.keeps k1) hok.2 ev2 λv2 s2 k2 bs rd2 g2 f2 fr2 w2=>?_) (ak hs2 _ env);refine ZP ?_;refine have rd1':=rd1.keeps k2.get;?_;cases rd1' with
 | @list l1 vs1 n1 _ as1 ho1 hz1 ra1=>
 cases rd2 using Rd.listE with
 | @mk l2 vs2 n2 as2 ho2 hz2 ra2=>
  refine call_zip_2 (xs:=vs1) (ys:=vs2) ⟨_,ho1,rfl,_,rfl⟩ ⟨_,ho2,rfl,_,rfl⟩ λh' hz hTI hTO h1 h2 hsz hk=>?_;refine wpAny_pyIter_zip hz ?_;refine have lt1:=Q3 ho1;?_;refine have lt2:=Q3 ho2;?_;refine have len1:=ra1.length;?_;refine have len2:=ra2.length;?_;simp only [QJ] at len1 len2;generalize hN:s2.heap.objs.size=N at *;refine have nn:∀ k,s2.heap.get? (N+k)=none:=(λk=>aJ (by rw [hN];exact QI _ _));?_;refine have ap:ZipApart (N+4) (N+2) (N+3) N (N+1) l1 l2:=(by
   constructor<;>first | exact QM (Qe lt1 (QI _ _)) | exact QM (Qe lt2 (QI _ _)) | exact QM lt1 | exact QM lt2 | exact (λe=>absurd (YL (n:=N) e) (by decide)) | exact (λe=>absurd (YL (n:=N) (m:=0) e) (by decide)) | exact (λe=>absurd (YL (n:=N) (k:=0) e) (by decide)));?_
  have W:=Turns.ofWalksU p.room.hd (WalksT.zip2 (prog:=P.prog) (w:=P.w) (A:=A) p.room.hd _ _ _ _ _ _ _ ap vs1 vs2).toU
   (λi vals ⟨x,y,_,_,e⟩=>⟨_,_,e⟩) x y px py pt k0
  rw [len1,len2,<- qM xs ys] at W;refine have hl1:h'.get? l1=some (listObj vs1 n1):=hk _ _ ho1;?_;refine have hl2:h'.get? l2=some (listObj vs2 n2):=hk _ _ ho2;?_;refine ⟨s2,_,_,_,_,_,rfl,⟨k1.trans k2,Kp.heap s2 h' hk,W,⟨hz,hTI,⟨_,_,hTO⟩,h1,h2,⟨_,hl1,rfl,_,rfl⟩,⟨_,hl2,rfl,_,rfl⟩⟩,?_,?_,?_,?_,?_⟩⟩
  ·exact al_c (nn 4) (al_c (nn 3) (al_c (nn 0) (al_c (nn 1) al_n)))
  ·rintro i h ⟨hz,_,⟨a,b,hTO⟩,⟨o1,ho1,hc1,hd1⟩,⟨o2,ho2,hc2,hd2⟩,_⟩
   refine have nd:∀ {o:Obj} {x:Data},o.data=x->(∀ vs n,x ≠ .seq vs n)->(∀ es n,x ≠ (dictObj es n).data)->(∀ vs n,o ≠ listObj vs n)/\∀ es n,o ≠ dictObj es n:=λhd h1 h2=>⟨λvs n e=>h1 vs n (hd.symm.trans (Qf Obj.data e)),λvs n e=>h2 vs n (hd.symm.trans (Qf Obj.data e))⟩;?_;refine al_c ⟨_,hz,λ_=>by simp,(nd rfl (λ_ _ e=>nomatch e) λ_ _ e=>nomatch e)⟩ (al_c ⟨_,hTO,λq=>(nomatch q),λvs n e=>absurd (Qf Obj.cls e) (by show ¬ (Value.type "tuple" = Value.type "list");decide),λvs n e=>absurd (Qf Obj.cls e) (by show ¬ (Value.type "tuple" = Value.type "dict");decide)⟩ (al_c ⟨_,ho1,λ_=>by rw [hc1];simp,nd hd1 (λ_ _ e=>nomatch e) λ_ _ e=>nomatch e⟩ (al_c ⟨_,ho2,λ_=>by rw [hc2];simp,nd hd2 (λ_ _ e=>nomatch e) λ_ _ e=>nomatch e⟩ al_n)))
  ·exact al_c ⟨_,hz⟩ (al_c ⟨_,hTI⟩ (al_c ⟨_,hTO⟩ (al_c (h1.imp λo e=>e.1) (al_c (h2.imp λo e=>e.1) (al_c ⟨_,hl1⟩ (al_c ⟨_,hl2⟩ al_n))))))
  ·exact al_c (.inl (nn 4)) (al_c (.inl (nn 2)) (al_c (.inl (nn 3)) (al_c (.inl (nn 0)) (al_c (.inl (nn 1)) (al_c (.inr ⟨_,ho1,.inr (t7 ev1 (.head _) g1 w1)⟩) (al_c (.inr ⟨_,ho2,.inr (t7 ev2 (.tail _ (.head _)) g2 w2)⟩) al_n))))))
  ·rintro i l' hi ⟨x,y,hx,hy,hv⟩
   refine have hv':l'=[x,y]:=(by simpa using Qf Array.toList hv);?_;subst hv';refine byG λX_ g_=>?_;obtain ⟨d1,bs1,ed1,rdx,hb1⟩:=ra1.getV (k:=i) (by simpa using hx);obtain ⟨d2,bs2,ed2,rdy,hb2⟩:=ra2.getV (k:=i) (by simpa using hy);refine g_ ?_;refine ⟨_,bs1++(bs2++[]),qN xs ys i d1 d2 ed1 ed2,.cons rdx (.cons rdy .nil),λb mb=>?_⟩;refine have in1:=(Rd.list ho1 hz1 ra1).innG (q:=isOw ow a1) g1 f1;?_;refine have in2:=(Rd.list ho2 hz2 ra2).innG (q:=isOw ow a2) g2 f2;?_;rcases QY mb with mb | mb
   ·exact in1 b (hb1 b mb)
   ·exact in2 b (hb2 b (by simpa using mb))
end
end Mine
set_option tactic.hygienic false
namespace Mine
open PySem
section
variable {P:Pk}{r:Nat}
set_option tactic.hygienic true in
theorem jr{c:TC}{f:PySem.Expr->Option Ex}(hf:∀ e e',f e=some e'->P.SE r c e e'/\P.ST r c e e'):∀ {es:List PySem.Expr} {es':Exs},trEs f es=some es'->SEL P r c es es':=by
 intro es;induction es with
 | nil=>
  intro es' h;simp only [vf,Qc] at h;subst h;exact .nil
 | cons e es ih_=>
  intro es' h;simp only [vg] at h;split at h
  ·cases h
  ·rename_i hs
   refine aa h λa e1 h=>?_;obtain ⟨b,e2,rfl⟩:=ae h;exact .cons (by simpa using hs) (hf _ _ e1).1 (hf _ _ e1).2 (ih_ e2)
theorem sI{c:TC}{f:PySem.Expr->Option Ex}(hf:∀ e e',f e=some e'->P.SE r c e e'/\P.ST r c e e'){o:Option PySem.Expr}{o':Exo}(h:trO f o=some o'):SEO P r c o o':=by
 cases o with
 | none=>simp only [xa,Qc] at h;subst h;trivial
 | some e=>
  simp only [xb] at h;obtain ⟨a,e1,rfl⟩:=ae h;exact (hf _ _ e1).1
theorem cD{c:TC}{g:Str}(h:glob c g=true):c.kind g=some .globalImplicit/\g ≠ ("__debug__" : Str):=by
 unfold glob at h
 simpa using h
theorem dA{q:Bool}{α:Type}{a:Option α}{b:α}(h:(if q then none else a)=some b):q=false/\a=some b:=by
 cases q with
 | true=>cases h
 | false=>exact ⟨rfl,h⟩
theorem aR{e:PySem.Expr}{x:Str}(h:cK e=some x):∃ p,e = .Name x p:=
 fy (G:=λe=>∃ p,e = .Name x p) h (λo_ p h=>⟨p,Qv h ▸ rfl⟩) λh=>nomatch h
theorem bY{e:PySem.Expr}{g:Str}{args:List PySem.Expr}(h:fN e=some (g,args)):∃ p q,e = .Call (.Name g p) args [] q:=by
 refine fz (G:=λe=>∃ p q,e = .Call (.Name g p) args [] q) h (λfn as kws pos h=>?_) λh=>nomatch h;have q:=ay h;refine (QK q.2).elim λg' w=>(aR w.1).elim λp z=>?_;rw [z,Q1.mp q.1,(Prod.mk.inj w.2).1,(Prod.mk.inj w.2).2];exact ⟨_,_,rfl⟩
theorem oK{e:PySem.Expr}{q:Option PySem.Expr × Option PySem.Expr}(h:slOf e=some q):∃ p,e = .Slice q.1 q.2 none p:=by
 refine qi (G:=λe=>∃ p,e = .Slice q.1 q.2 none p) h (λlo hi st pos h=>?_) λh=>nomatch h;have w:=ay h;rw [Y0.mp w.1,<- Qv w.2];exact ⟨_,rfl⟩
set_option tactic.hygienic true in
theorem ee{es:List PySem.Expr}{xs:List Str}(h:ii es=some xs):∃ x y p q,es=[.Name x p,.Name y q]/\xs=[x,y]/\x ≠ y:=by
 match es with
 | []=>cases h
 | [_]=>cases h
 | _::_::_::_=>cases h
 | [a,b]=>
  refine aa h λx e1 h1=>?_;refine aa h1 λy e2 h2=>?_;clear h h1;obtain ⟨p,rfl⟩:=aR e1;obtain ⟨q,rfl⟩:=aR e2;split at h2
  ·cases h2
  ·rename_i hne
   cases h2;exact ⟨x,y,p,q,rfl,rfl,by simpa using hne⟩
theorem dJ{t:PySem.Expr}{xs:List Str}(h:dt t=some xs):(∃ x p,t = .Name x p/\xs=[x])\/∃ x y p q k o,t = .Tuple [.Name x p,.Name y q] k o/\xs=[x,y]/\x ≠ y:=
 fy (G:=λt=>(∃ x p,t = .Name x p/\xs=[x])\/∃ x y p q k o,t = .Tuple [.Name x p,.Name y q] k o/\xs=[x,y]/\x ≠ y) h (λx p h=>.inl ⟨x,p,rfl,(Qv h).symm⟩) λh=>
 ic (G:=λt=>(∃ x p,t = .Name x p/\xs=[x])\/∃ x y p q k o,t = .Tuple [.Name x p,.Name y q] k o/\xs=[x,y]/\x ≠ y) h (λes k o h=>.inr ((ee h).imp λx=>Exists.imp λy=>Exists.imp λp=>Exists.imp λq w=>⟨k,o,Qf (PySem.Expr.Tuple · k o) w.1,w.2⟩)) λh=>nomatch h
theorem gF{t:PySem.Expr}{xs:List Str}(h:dt t=some xs):xs.Nodup:=by
 rcases dJ h with ⟨x,p,_,rfl⟩ | ⟨x,y,p,q,k,o,_,rfl,hne⟩
 ·simp
 ·simp [hne]
set_option tactic.hygienic true in
theorem vU{c:TC}{f:PySem.Expr->Option Ex}(hf:∀ e e',f e=some e'->P.SE r c e e'/\P.ST r c e e'){t e:PySem.Expr}{xs:List Str}{it':It}(ht:dt t=some xs)(h:trIt f c xs e=some it'):P.SI r c t xs e it':=by
 rcases dJ ht with ⟨x,p,rfl,rfl⟩ | ⟨x,y,p,q,k,o,rfl,rfl,hne⟩
 ·replace h:tF f c e=some it':=h
  unfold tF at h;cases hr:nI c e with
  | none=>
   rw [hr] at h;obtain ⟨a,e1,rfl⟩:=ae h;exact qI (hf _ _ e1).1
  | some args=>
   rw [hr] at h;obtain ⟨⟨g,args'⟩,e0,hr2⟩:=ct hr;clear hr;split at hr2
   case isFalse=>cases hr2
   rename_i hg;simp only [Qc] at hr2;subst hr2;simp only [Qj,Q5] at hg;obtain ⟨p1,q1,rfl⟩:=bY e0;replace h:i9 f args'=some it':=h;cases args' with
   | nil=>cases h
   | cons x1 l_0=>
    cases l_0 with
    | nil=>
     replace h:(if isStar x1 then none else (f x1).map It.range1)=some it':=h;split at h
     ·cases h
     ·rename_i hs
      obtain ⟨a,e1,rfl⟩:=ae h;exact oA hg.2 (cD hg.1).1 (by simpa using hs) (hf _ _ e1).1
    | cons y1 l_1=>
     cases l_1 with
     | nil=>
      replace h:(if isStar x1||isStar y1 then none else (f x1).bind λa=>(f y1).map λb=>It.range2 a b)=some it':=h;split at h
      ·cases h
      ·rename_i hs
       simp only [Ze,not_or,Bool.not_eq_true] at hs;refine aa h λa e1 h=>?_;obtain ⟨b,e2,rfl⟩:=ae h;exact oB hg.2 (cD hg.1).1 hs.1 hs.2 (hf _ _ e1).1 (hf _ _ e2).1
     | cons=>cases h
 ·replace h:vh f c e=some it':=h
  obtain ⟨⟨g,args⟩,e0,h⟩:=ct h;obtain ⟨p1,q1,rfl⟩:=bY e0;cases args with
  | nil=>cases h
  | cons x1 l_0=>
   cases l_0 with
   | nil=>
    replace h:(if glob c g&&g == ("enumerate" : Str)&&!isStar x1 then (f x1).map It.enum else none)=some it':=h;split at h
    ·rename_i hg
     simp only [Qj,Q5,QS] at hg;obtain ⟨a,e1,rfl⟩:=ae h;exact t8 hg.1.2 (cD hg.1.1).1 hg.2 (hf _ _ e1).1
    ·cases h
   | cons y1 l_1=>
    cases l_1 with
    | nil=>
     have w:=ay (show (if (glob c g&&g == ("zip" : Str)&&!isStar x1&&!isStar y1)=true then (f x1).bind λa=>(f y1).map λb=>It.zip a b else none)=some it' from h);have hg:=w.1;simp only [Qj,Q5,QS] at hg;refine aa w.2 λa e1 h=>?_;obtain ⟨b,e2,rfl⟩:=ae h;exact vT hg.1.1.2 (cD hg.1.1.1).1 hg.1.2 hg.2 (hf _ _ e1).1 (hf _ _ e2).1
    | cons=>cases h
theorem both{c:TC}{e:PySem.Expr}{e':Ex}(h:P.SE r c e e')(hp:∀ env:Env,isTrue e env (eval e env)=(do let v <- eval e env;standAt e.pos;holding [v] (truthy v))):P.SE r c e e'/\P.ST r c e e':=⟨h,qu h hp⟩
set_option tactic.hygienic true in
theorem fk{gcs:Str->Bool}{c:TC}{x:Str}{p:Pos}{e':Ex}(h:i8 gcs c x=some e'):P.SE r c (.Name x p) e':=by
 unfold i8 at h;split at h
 ·cases h
 ·rename_i hd
  have hd:x ≠ ("__debug__" : Str):=λq=>hd (Q5.mpr q);cases hk:c.kind x with
  | none=>rw [hk] at h;cases h
  | some k=>
   rw [hk] at h;cases k<;>first
    | (cases h;done)
    | (obtain ⟨i,e1,rfl⟩:=ae h;exact fP hd (.inl hk) e1)
    | (obtain ⟨i,e1,rfl⟩:=ae h;exact fP hd (.inr hk) e1)
    | (obtain ⟨_,rfl⟩:=aM h;exact xh hd hk)
set_option tactic.hygienic true in
theorem kj{c:TC}{x y:PySem.Expr}(h:nJ c x=some y):∃ p q,x = .Call (.Name "reversed" p) [y] [] q/\c.kind ("reversed" : Str)=some .globalImplicit/\isStar y=false:=by
 refine aa h λu e0 h=>?_;have w:=ay h;have hg:=Qz w.1;refine (bY e0).elim λp z=>z.elim λq z=>?_;have e:u.1 = "reversed" := Q4 hg.1;have w2:=w.2;rw [e] at z hg;revert z w2;generalize u.2=as;intro z w2;cases as with
 | nil=>cases w2
 | cons a as=>
  cases as with
  | cons=>cases w2
  | nil=>
   have v:=dA w2;exact ⟨p,q,by rw [z,Qv v.2],(cD hg.2).1,Qv v.2 ▸ v.1⟩
theorem mF{c:TC}{f:PySem.Expr->Option Ex}(hf:∀ e e',f e=some e'->P.SE r c e e'/\P.ST r c e e'){g:Str}{x:PySem.Expr}{p q:Pos}{e':Ex}(hg:c.kind g=some .globalImplicit)(h:trC1 f c g x=some e'):P.SE r c (.Call (.Name g p) [x] [] q) e':=by
 unfold trC1 at h;split at h
 ·cases h
 ·rename_i hs
  have hs:=Y6.mpr hs;cases hq:(if g == ("list" : Str) then nJ c x else none) with
  | some y=>
   rw [hq] at h;obtain ⟨a,e2,rfl⟩:=ae h;have v:=ay hq;obtain ⟨p1,q1,rfl,h1,h2⟩:=kj v.2;exact my (Q4 v.1) rfl hg h1 h2 (hf _ _ e2).1
  | none=>
  rw [hq] at h;refine aa h λb e1 h=>?_;obtain ⟨a,e2,rfl⟩:=ae h;have sa:=(hf _ _ e2).1;unfold b1Of at e1;split at e1
  ·rename_i q;cases e1;exact vL (by simpa using q) hg hs sa
  split at e1
  ·rename_i q;cases e1;exact vM (by simpa using q) hg hs sa
  split at e1
  ·rename_i q;cases e1;exact vN (by simpa using q) hg hs sa
  split at e1
  ·rename_i q;cases e1;exact tY (by simpa using q) hg hs sa
  split at e1
  ·rename_i q;cases e1;exact qF (by simpa using q) hg hs sa
  split at e1
  ·rename_i q;cases e1;exact vO (by simpa using q) hg hs sa
  ·cases e1
set_option tactic.hygienic true in
theorem js{ff:Str->Option Bool}(hΦ:P.FnOk r)(hff:∀ g fr,ff g=some fr->P.fr g=some fr/\∃ q,P.defs g=some q){c:TC}{f:PySem.Expr->Option Ex}(hf:∀ e e',f e=some e'->P.SE r c e e'/\P.ST r c e e'){g:Str}{args:List PySem.Expr}{p q:Pos}{e':Ex}(h:ln ff f c g args=some e'):P.SE r c (.Call (.Name g p) args [] q) e':=by
 unfold ln at h;split at h
 ·cases h
 rename_i hg;have hg:=cD (by simpa using hg);split at h
 ·rename_i hi
  cases args with
  | nil=>cases h
  | cons a l_0=>
   cases l_0 with
   | nil=>cases h
   | cons t l_1=>
    cases l_1 with
    | nil=>
     obtain ⟨t',e0,h1⟩:=ct h;clear h;obtain ⟨pt,rfl⟩:=aR e0;split at h1
     case isFalse=>cases h1
     ·rename_i ht
      simp only [Qj,QS] at ht;refine aa h1 λty e1 h=>?_;obtain ⟨b,e2,rfl⟩:=ae h;exact vQ (by simpa using hi) hg.1 e1 (cD ht.1).1 ht.2 (hf _ _ e2).1
    | cons=>cases h
 ·cases hfr:ff g with
  | some fr=>
   rw [hfr] at h;simp only at h;split at h
   ·rename_i hl
    obtain ⟨es,e1,rfl⟩:=ae h;simp only [Qj,QS,List.isEmpty_eq_false_iff] at hl;exact ox hΦ (hff _ _ hfr).1 hg.1 hg.2 hl.2 (jr hf e1) (hff _ _ hfr).2
   ·cases h
  | none=>
   rw [hfr] at h;cases args with
   | nil=>cases h
   | cons x l_0=>
    cases l_0 with
    | nil=>exact mF hf hg.1 h
    | cons=>cases h
theorem kl{c:TC}{f:PySem.Expr->Option Ex}(hf:∀ e e',f e=some e'->P.SE r c e e'/\P.ST r c e e'){ifs:List PySem.Expr}{b:Exo}(h:tH f ifs=some b):SIfs P r c ifs b:=by
 match ifs,h with
 | [],h=>cases h;trivial
 | [q],h=>
  obtain ⟨a,e1,rfl⟩:=ae h;exact (hf _ _ e1).2
 | _::_::_,h=>cases h
set_option tactic.hygienic true in
theorem fm{fr:TC->PySem.Expr->Option Ex}(hf:∀ c e e',fr c e=some e'->P.SE r c e e'/\P.ST r c e e'){c:TC}{elt:PySem.Expr}{scope:Scope}{gens:List Comprehension}{e':Ex}(h:nK fr c elt scope gens=some e') :
 ∃ tgt iter ifs xs a it b,gens=[⟨tgt,iter,ifs,0⟩]/\isSet iter=false/\xs.Nodup/\CompOk scope c xs/\P.SI r c tgt xs iter it/\P.SE r ⟨c.names++xs,kindC scope c.kind⟩ elt a/\SIfs P r ⟨c.names++xs,kindC scope c.kind⟩ ifs b/\e' = .comp a it b:=by
 match gens,h with
 | [],h=>cases h
 | _::_::_,h=>cases h
 | [⟨tgt,iter,ifs,as⟩],h=>
  replace h:(if as != 0||isSet iter||c.names.contains (".0" : Str) then none else (dt tgt).bind λxs=>
   if ll scope c.kind xs&&!xs.contains (".0" : Str) then (trIt (fr c) c xs iter).bind λit=>(fr ⟨c.names++xs,kindC scope c.kind⟩ elt).bind λa=>
    (tH (fr ⟨c.names++xs,kindC scope c.kind⟩) ifs).map λb=>Ex.comp a it b else none)=some e':=h
  split at h
  ·cases h
  ·rename_i hs
   simp only [Ze,not_or,Bool.not_eq_true,bne_eq_false_iff_eq] at hs;obtain ⟨⟨h0,h1⟩,h2⟩:=hs;subst h0;refine aa h λxs e1 h=>?_;split at h
   ·rename_i hc
    simp only [Qj,QS] at hc;refine byG λX_ g_=>?_;refine aa h λit e2 h=>?_;refine aa h λa e3 h=>?_;obtain ⟨b,e4,rfl⟩:=ae h;refine g_ ?_;exact ⟨tgt,iter,ifs,xs,a,it,b,rfl,h1,gF e1,oF hc.1 h2 hc.2,vU (hf c) e1 e2,(hf _ _ _ e3).1,kl (hf _) e4,rfl⟩
   ·cases h
theorem f7{e:PySem.Expr}{q:Str × Str × Pos}(h:lm e=some q):∃ p,e = .Attribute (.Name q.1 p) q.2.1 q.2.2:=
 lk (G:=λe=>∃ p,e = .Attribute (.Name q.1 p) q.2.1 q.2.2) h (λo nm apos h=>(QK h).elim λx w=>(aR w.1).elim λp z=>⟨p,z ▸ w.2 ▸ rfl⟩) λh=>nomatch h
set_option tactic.hygienic true in
theorem mG{fn:PySem.Expr}{args:List PySem.Expr}{kws:List Keyword}{cpos:Pos}{q:Str × PySem.Expr}(h:qk fn args kws cpos=some q):∃ px apos,fn = .Attribute (.Name q.1 px) "index" apos/\args=[q.2]/\kws=[]/\isStar q.2=false/\(apos.endLine == cpos.line)=true:=by
 refine aa h λt e1 h=>?_;obtain ⟨p,rfl⟩:=f7 e1;obtain ⟨hc,h⟩:=ay h;rw [Qj,Qj,Q5,Q1] at hc;obtain ⟨⟨h1,h2⟩,h3⟩:=hc;cases args with
 | nil=>cases h
 | cons x l=>
  cases l with
  | cons=>cases h
  | nil=>
   replace h:(if isStar x then none else some (t.1,x))=some q:=h;split at h
   ·cases h
   ·rename_i hx
    cases h;exact ⟨p,t.2.2,by rw [h1],rfl,h2,by simpa using hx,h3⟩
theorem km{c:TC}{f:PySem.Expr->Option Ex}(ih:∀ e e',f e=some e'->P.SE r c e e'/\P.ST r c e e'){l:PySem.Expr}{ops:List CmpOp}{rs:List PySem.Expr}{e':Ex}{p:Pos}(h:vj f l ops rs=some e'):P.SE r c (.Compare l ops rs p) e'/\P.ST r c (.Compare l ops rs p) e':=by
 cases ops with
 | nil=>cases h
 | cons o1 ops=>
  cases ops with
  | nil=>
   cases rs with
   | nil=>cases h
   | cons rr rs=>
    cases rs with
    | cons=>cases h
    | nil=>
     replace h:(if isSet rr then none else (f l).bind λa=>(f rr).map λb=>Ex.cmp o1 a b)=some e':=h;have hs:=dA h;refine aa hs.2 λa e1 h=>?_;obtain ⟨b,e2,rfl⟩:=ae h;exact ⟨j9 hs.1 (ih _ _ e1).1 (ih _ _ e2).1,kb hs.1 (ih _ _ e1).1 (ih _ _ e2).1⟩
  | cons o2 ops=>
   cases ops with
   | cons=>cases h
   | nil=>
    cases rs with
    | nil=>cases h
    | cons r1 rs=>
     cases rs with
     | nil=>cases h
     | cons r2 rs=>
      cases rs with
      | cons=>cases h
      | nil=>
       replace h:(if lastMarks [o1,o2] [r1,r2] then none else (f l).bind λa=>(f r1).bind λb=>(f r2).map λd=>Ex.cmp2 o1 o2 a b d)=some e':=h;have hs:=dA h;refine aa hs.2 λa e1 h=>?_;refine aa h λb e2 h=>?_;obtain ⟨d,e3,rfl⟩:=ae h;exact ⟨tV hs.1 (ih _ _ e1).1 (ih _ _ e2).1 (ih _ _ e3).1,tW hs.1 (ih _ _ e1).1 (ih _ _ e2).1 (ih _ _ e3).1⟩
theorem kn{c:TC}{f:PySem.Expr->Option Ex}(ih:∀ e e',f e=some e'->P.SE r c e e'/\P.ST r c e e'){ks:List (Option PySem.Expr)}{vs:List PySem.Expr}{e':Ex}{p:Pos}(h:vm f ks vs=some e'):P.SE r c (.Dict ks vs p) e':=by
 cases ks with
 | nil=>
  cases vs with
  | nil=>exact Qv h ▸ t0
  | cons=>cases h
 | cons k ks=>
  cases ks with
  | cons=>cases h
  | nil=>
   cases vs with
   | nil=>cases h
   | cons v vs=>
    cases vs with
    | cons=>cases h
    | nil=>
     cases k with
     | none=>cases h
     | some k=>
      refine aa (show ((f k).bind λa=>(f v).map λb=>Ex.dic (.cons a .nil) (.cons b .nil))=some e' from h) λa e1 h1=>?_;obtain ⟨b,e2,rfl⟩:=ae h1;exact vR (ih _ _ e1).1 (ih _ _ e2).1
theorem kq{c:TC}{f:PySem.Expr->Option Ex}(ih:∀ e e',f e=some e'->P.SE r c e e'/\P.ST r c e e'){v i:PySem.Expr}{e':Ex}{p:Pos}(h:tI f v i=some e'):P.SE r c (.Subscript v i p) e':=by
 unfold tI at h;cases hq:slOf i with
 | some q=>
  rw [hq] at h;refine aa h λa e1 h=>?_;refine aa h λl e2 h=>?_;obtain ⟨b,e3,rfl⟩:=ae h;refine (oK hq).elim λpp z=>?_;rw [z];exact xk (ih _ _ e1).1 (sI ih e2) (sI ih e3)
 | none=>
  rw [hq] at h;have hs:=dA h;refine aa hs.2 λa e1 h=>?_;obtain ⟨b,e2,rfl⟩:=ae h;exact vJ hs.1 (ih _ _ e1).1 (ih _ _ e2).1
theorem mH{c:TC}{e:PySem.Expr}{a:Option Ex}(ih:∀ e',a=some e'->P.SE r c e e'/\P.ST r c e e'){op:UnaryOp}{e':Ex}{p:Pos}(h:trUn op a=some e'):P.SE r c (.UnaryOp op e p) e'/\P.ST r c (.UnaryOp op e p) e':=by
 cases op
 case USub=>
  obtain ⟨a,e1,rfl⟩:=ae (show a.map Ex.neg=some e' from h);exact both (vI (ih _ e1).1) (λo_=>rfl)
 case Not=>
  obtain ⟨a,e1,rfl⟩:=ae (show a.map Ex.not=some e' from h);exact ⟨vG (ih _ e1).1,vH (ih _ e1).2⟩
 all_goals cases h
theorem kt{c:TC}(ff:Str->Option Bool)(gcs:Str->Bool)(hΦ:P.FnOk r)(hff:∀ g fr,ff g=some fr->P.fr g=some fr/\∃ q,P.defs g=some q){f:PySem.Expr->Option Ex}(ih:∀ e e',f e=some e'->P.SE r c e e'/\P.ST r c e e'){fn:PySem.Expr}{args:List PySem.Expr}{kws:List Keyword}{p:Pos}{e':Ex}
 (h:(match qk fn args kws p with
  | some q=>(i8 gcs c q.1).bind λa=>(f q.2).map λb=>Ex.index a b
  | none=>(fN (.Call fn args kws p)).bind λq=>ln ff f c q.1 q.2)=some e'):P.SE r c (.Call fn args kws p) e':=by
 cases hq:qk fn args kws p with
 | some q=>
  rw [hq] at h;obtain ⟨px,apos,rfl,rfl,rfl,h1,h2⟩:=mG hq;refine aa h λa e1 h=>?_;obtain ⟨b,e2,rfl⟩:=ae h;exact qz (λo_=>rfl) h2 h1 (fk (gcs:=gcs) e1) (ih _ _ e2).1
 | none=>
  rw [hq] at h;refine aa h λq e0 h=>?_;refine (bY e0).elim λp1 z=>z.elim λq1 e1=>?_;rw [e1];exact js hΦ hff ih h
theorem mI(ff:Str->Option Bool)(gcs:Str->Bool)(hΦ:P.FnOk r)(hff:∀ g fr,ff g=some fr->P.fr g=some fr/\∃ q,P.defs g=some q){f:TC->PySem.Expr->Option Ex}(ih:∀ c e e',f c e=some e'->P.SE r c e e'/\P.ST r c e e')(c:TC)(e:PySem.Expr)(e':Ex)(h:trE1 ff gcs f c e=some e'):P.SE r c e e'/\P.ST r c e e':=by
 refine lj (G:=λe=>P.SE r c e e'/\P.ST r c e e') h (λk a b h=>?_) λh=>?_
 ·obtain ⟨d,e1,rfl⟩:=ae h
  exact both (fO e1) (λo_=>rfl)
 refine fy (G:=λe=>P.SE r c e e'/\P.ST r c e e') h (λx p h=>both (fk (gcs:=gcs) h) (λo_=>rfl)) λh=>?_;refine ic (G:=λe=>P.SE r c e e'/\P.ST r c e e') h (λes a b h=>?_) λh=>?_
 ·have w:=ay h
  obtain ⟨es,e1,rfl⟩:=ae w.2;exact both (qv w.1 (jr (ih c) e1)) (λo_=>rfl)
 refine p9 (G:=λe=>P.SE r c e e'/\P.ST r c e e') h (λes a h=>?_) λh=>?_
 ·have w:=ay h
  obtain ⟨es,e1,rfl⟩:=ae w.2;exact both (tX w.1 (jr (ih c) e1)) (λo_=>rfl)
 refine qa (G:=λe=>P.SE r c e e'/\P.ST r c e e') h (λl op rr p h=>?_) λh=>?_
 ·refine aa (ay h).2 λa e1 h=>?_
  obtain ⟨b,e2,rfl⟩:=ae h;exact both (qr (ih c _ _ e1).1 (ih c _ _ e2).1) (λo_=>rfl)
 refine qb (G:=λe=>P.SE r c e e'/\P.ST r c e e') h (λop x p h=>mH (ih c x) h) λh=>?_;refine qc (G:=λe=>P.SE r c e e'/\P.ST r c e e') h (λop vs p h=>?_) λh=>?_
 ·obtain ⟨es,e1,rfl⟩:=ae (dA h).2
  exact ⟨oh (jr (ih c) e1),ol (jr (ih c) e1)⟩
 refine qd (G:=λe=>P.SE r c e e'/\P.ST r c e e') h (λl ops rs p h=>km (ih c) h) λh=>?_;refine ig (G:=λe=>P.SE r c e e'/\P.ST r c e e') h (λv i p h=>both (kq (ih c) h) (λo_=>rfl)) λh=>?_;refine fz (G:=λe=>P.SE r c e e'/\P.ST r c e e') h (λfn args kws p h=>both (kt ff gcs hΦ hff (ih c) h) (λo_=>rfl)) λh=>?_;refine qf (G:=λe=>P.SE r c e e'/\P.ST r c e e') h (λelt gens scope p h=>?_) λh=>?_
 ·refine byG λX_ g_=>?_
  obtain ⟨tgt,iter,ifs,xs,a,it,b,rfl,h1,h2,h3,h4,h5,h6,rfl⟩:=fm ih h;refine g_ ?_;exact both (oJ h1 h2 h3 h4 h5 h6) (λo_=>rfl)
 exact qg (G:=λe=>P.SE r c e e'/\P.ST r c e e') h (λks vs p h=>both (kn (ih c) h) (λo_=>rfl)) λh=>nomatch h
theorem ba(ff:Str->Option Bool)(gcs:Str->Bool)(hΦ:P.FnOk r)(hff:∀ g fr,ff g=some fr->P.fr g=some fr/\∃ q,P.defs g=some q)(n:Nat) :
 ∀ (c:TC) (e:PySem.Expr) (e':Ex),trE ff gcs n c e=some e'->P.SE r c e e'/\P.ST r c e e':=by
 induction n with
 | zero=>intro c e e' h;cases h
 | succ n ih=>exact mI ff gcs hΦ hff ih
end
end Mine
set_option tactic.hygienic false
namespace Mine
open PySem
structure Inv(P:Pk)(r:Nat)(c:TC)(A:Around)(env:Env)(ow:List Nat)(sc:Shared)(as:List Addr)(s:Shared)(m:St)(own:Nat->Addr)(G:Addr->Prop):Prop where
 room:Room A r
 gpc:P.GP sc.heap
 er:EnvR P.H c env ow own G s.heap m
 new:∀ a,s.heap.get? a=none->G a
 kp:Kp sc s
 gsub:∀ a,G a->a ∈ as\/sc.heap.get? a=none
 ns:∃ mm,s.heap.Ns env.locals mm
 cl:∀ x a,env.cells.lookup x=some a->∃ v,s.heap.IsCell a v
 inj:∀ x y a,env.cells.lookup x=some a->env.cells.lookup y=some a->x=y
 gL : ¬ G env.locals
 gC:∀ x a,env.cells.lookup x=some a->¬ G a
 nL:sc.heap.get? env.locals=none
 nC:∀ x a,env.cells.lookup x=some a->sc.heap.get? a=none
 oG:∀ i d,ow.contains i=true->m[i]?=some (some d)->noList d=false->¬ G (own i)/\sc.heap.get? (own i)=none/\own i ≠ env.locals/\(∀ x,env.cells.lookup x ≠ some (own i))/\∃ o,s.heap.get? (own i)=some o/\((∃ vs n,o=listObj vs n)\/∃ es n,o=dictObj es n)
 oD:∀ i j d d',i ≠ j->ow.contains i=true->ow.contains j=true->m[i]?=some (some d)->m[j]?=some (some d')->noList d=false->noList d'=false->own i ≠ own j
structure Stp(env:Env)(ow tch:List Nat)(wr:List Addr)(s:Shared)(m:St)(own:Nat->Addr)(G:Addr->Prop)(s':Shared)(m':St)(own':Nat->Addr)(G':Addr->Prop):Prop where
 live:∀ b,s'.heap.get? b=none->s.heap.get? b=none
 keep:∀ b o,b ∉ wr->s.heap.get? b=some o->b ≠ env.locals->(∀ x,env.cells.lookup x ≠ some b)->(∀ i d,i ∈ tch->ow.contains i=true->m[i]?=some (some d)->noList d=false->b ≠ own i)->s'.heap.get? b=some o
 keepG:∀ a o,s.heap.get? a=some o->G a->G' a
 ownS:∀ i d,ow.contains i=true->m'[i]?=some (some d)->noList d=false->(own' i=own i/\∃ d0,m[i]?=some (some d0)/\noList d0=false)\/s.heap.get? (own' i)=none
 same:∀ i,i ∉ tch->own' i=own i/\m'[i]?=m[i]?
theorem Stp.refl(env:Env)(ow tch:List Nat)(wr:List Addr)(s:Shared)(m:St)(own:Nat->Addr)(G:Addr->Prop):Stp env ow tch wr s m own G s m own G:=
 ⟨λ_ h=>h,λ_ _ _ h _ _ _=>h,λ_ _ _ h=>h,λi d _ h1 h2=>.inl ⟨rfl,d,h1,h2⟩,λ_ _=>⟨rfl,rfl⟩⟩
theorem Stp.weaken{env:Env}{ow tch tch':List Nat}{wr wr':List Addr}{s s':Shared}{m m':St}{own own':Nat->Addr}{G G':Addr->Prop}(h:Stp env ow tch wr s m own G s' m' own' G')(hs:∀ i ∈ tch,i ∈ tch')(hw:∀ i ∈ wr,i ∈ wr'):Stp env ow tch' wr' s m own G s' m' own' G':=
 ⟨h.live,λb o hb e h1 h2 h3=>h.keep b o (λq=>hb (hw b q)) e h1 h2 λi d hi=>h3 i d (hs i hi),h.keepG,h.ownS,λi hi=>h.same i λq=>hi (hs i q)⟩
theorem Stp.trans{env:Env}{ow t1 t2:List Nat}{wr:List Addr}{s s' s'':Shared}{m m' m'':St}{own own' own'':Nat->Addr}{G G' G'':Addr->Prop}(h:Stp env ow t1 wr s m own G s' m' own' G')(k:Stp env ow t2 wr s' m' own' G' s'' m'' own'' G'') :
 Stp env ow (t1++t2) wr s m own G s'' m'' own'' G'' where
 live:=λb e=>h.live b (k.live b e)
 keep:=λb o hb e h1 h2 h3=>by
  refine k.keep b o hb (h.keep b o hb e h1 h2 λi d hi=>h3 i d (Q6 _ hi)) h1 h2 λi d hi ho hm hd=>?_;rcases h.ownS i d ho hm hd with ⟨q,d0,q1,q2⟩ | q
  ·rw [q];exact h3 i d0 (Zy _ hi) ho q1 q2
  ·rintro rfl;rw [e] at q;cases q
 keepG:=λa o e g=>by
  cases q:s'.heap.get? a with
  | none=>rw [h.live a q] at e;cases e
  | some o'=>exact k.keepG a o' q (h.keepG a o e g)
 ownS:=λi d ho hm hd=>by
  rcases k.ownS i d ho hm hd with ⟨q,d0,q1,q2⟩ | q
  ·rcases h.ownS i d0 ho q1 q2 with ⟨p,d1,p1,p2⟩ | p
   ·exact .inl ⟨q.trans p,d1,p1,p2⟩
   ·exact .inr (by rw [q];exact p)
  ·exact .inr (h.live _ q)
 same:=λi hi=>by
  simp only [YF,not_or] at hi;exact ⟨(k.same i hi.2).1.trans (h.same i hi.1).1,(k.same i hi.2).2.trans (h.same i hi.1).2⟩
theorem Stp.join{env:Env}{ow t1 t2 t:List Nat}{wr:List Addr}{s s' s'':Shared}{m m' m'':St}{own own' own'':Nat->Addr}{G G' G'':Addr->Prop}(h:Stp env ow t1 wr s m own G s' m' own' G')(k:Stp env ow t2 wr s' m' own' G' s'' m'' own'' G'')(h1:∀ i ∈ t1,i ∈ t)(h2:∀ i ∈ t2,i ∈ t) :
 Stp env ow t wr s m own G s'' m'' own'' G'':=(h.trans k).weaken (λi hi=>(QY hi).elim (h1 i) (h2 i)) λ_ q=>q
theorem Stp.kp{env:Env}{ow:List Nat}{s s':Shared}{m:St}{own:Nat->Addr}{G:Addr->Prop}(k:Kp s s')(tch:List Nat)(wr:List Addr):Stp env ow tch wr s m own G s' m own G:=
 ⟨λ_ h=>k.none h,λb o _ h _ _ _=>k.get b o h,λ_ _ _ h=>h,λi d _ h1 h2=>.inl ⟨rfl,d,h1,h2⟩,λ_ _=>⟨rfl,rfl⟩⟩
noncomputable def isC:D->Bool
 | .list _=>true
 | .dict _=>true
 | _=>false
theorem sJ{d:D}(h:isC d=true):noList d=false:=by cases d<;>first | rfl | cases h
theorem Rd.top{H:D->Int}{h:Heap}{w:Value}{d:D}{as:List Addr}(r:Rd H h w d as)(hc:isC d=true):∃ a,w = .ref a/\a ∈ as:=by
 cases r<;>first | (cases hc;done) | exact ⟨_,rfl,.head _⟩
section
variable {P:Pk}{r:Nat}{c:TC}{A:Around}{env:Env}{ow:List Nat}{sc:Shared}{as:List Addr}
theorem Inv.pre{s:Shared}{m:St}{own:Nat->Addr}{G:Addr->Prop}(h:Inv P r c A env ow sc as s m own G):Pre P r c A env s m ow own G:=⟨h.room,h.gpc.keeps h.kp.get,h.er,h.new⟩
theorem Inv.keeps{s s':Shared}{m:St}{own:Nat->Addr}{G:Addr->Prop}(h:Inv P r c A env ow sc as s m own G)(k:Kp s s'):Inv P r c A env ow sc as s' m own G where
 room:=h.room
 gpc:=h.gpc
 er:=h.er.keeps k.get
 new:=λa e=>h.new a (k.none e)
 kp:=h.kp.trans k
 gsub:=h.gsub
 ns:=h.ns.imp λmm q=>q.keeps k.get
 cl:=λx a e=>(h.cl x a e).imp λv q=>q.keeps k.get
 inj:=h.inj
 gL:=h.gL
 gC:=h.gC
 nL:=h.nL
 nC:=h.nC
 oG:=λi d h1 h2 h3=>(h.oG i d h1 h2 h3).imp id λq=>q.imp id λq=>q.imp id λq=>q.imp id λq=>q.imp λo q=>q.imp (k.get _ _) id
 oD:=h.oD
theorem mJ{names:List Str}{x y:Str}{i:Nat}(h:slotOf names x=some i)(k:slotOf names y=some i):x=y:=by
 have h2:=(bE k).2;rw [((bE h).2)] at h2;exact Qv h2
theorem cF{h:Heap}{C:Addr}{v:Option Value}(hn:h.IsCell C v):∀ o,h.get? C=some o->∀ vs n,o ≠ tupObj vs n:=by
 intro o e vs n q;obtain ⟨o',e',d⟩:=hn;rw [e] at e';cases e';rw [q] at d;cases d
theorem f8{m:St}{i:Nat}{d:D}(h:i < m.length):(setV m i d)[i]?=some (some d):=by
 simp [setV,h]
theorem aK{m:St}{i j:Nat}{d:D}(h:i ≠ j):(setV m i d)[j]?=m[j]?:=by
 simp [setV,h]
theorem dB{h:Heap}{L C:Addr}{mm:Str->Option Value}{v:Option Value}(hn:h.Ns L mm)(hc:h.IsCell C v):C ≠ L:=by
 rintro rfl;obtain ⟨o,es,ep,e,d,_⟩:=hn;obtain ⟨o',e',d'⟩:=hc;rw [e] at e';cases e';rw [d] at d';cases d'
theorem jt{s:Shared}{m:St}{own:Nat->Addr}{G:Addr->Prop}{x:Str}{v:Value}(I:Inv P r c A env ow sc as s m own G)(hk:c.kind x=some .local\/c.kind x=some .cell){Q:Shared->Prop}
 (h:∀ h' tk z,(z=env.locals\/∃ y,env.cells.lookup y=some z)->Heap.SameBut z s.heap h'->(∃ o,h'.get? z=some o)->(∀ o,s.heap.get? z=some o->∀ vs n,o ≠ tupObj vs n)->VarAt env h' x v->(∀ y w,y ≠ x->VarAt env s.heap y w->VarAt env h' y w) ->
  (∃ mm,h'.Ns env.locals mm)->(∀ x a,env.cells.lookup x=some a->∃ v,h'.IsCell a v)->Q { s with heap:=h',toks:=tk }) :
 wpAny (model P.prog P.w) A (storeName env x v) (λ_ s'=>Q s') (λ_ _=>False) s:=by
 obtain ⟨mm,hn⟩:=I.ns;rcases hk with hk | hk
 ·have hkx:env.kindOf x=some .local:=(I.er.kd x).trans hk
  refine wpAny_storeName_local hkx hn (λh' hn' hs=>?_) (by rw [I.er.fn];rfl);refine h h' _ env.locals (.inl rfl) hs ?_ (bG hn) (.inl ⟨hkx,_,hn',by simp⟩) (λy w hy q=>?_) ⟨_,hn'⟩ λy a e=>?_
  ·obtain ⟨o,_,_,e,_⟩:=hn';exact ⟨o,e⟩
  ·rcases q with ⟨q1,m2,q2,q3⟩ | ⟨q1,cc,q2,q3⟩
   ·refine .inl ⟨q1,_,hn',?_⟩
    rw [Qu hy];refine byG λX_ g_=>?_;obtain ⟨o,es,ep,e,dd,_,f⟩:=hn;obtain ⟨o',es',ep',e',dd',_,f'⟩:=q2;refine g_ ?_;rw [e] at e';cases e';rw [dd] at dd';cases dd';rw [<- f y,f' y];exact q3
   ·exact .inr ⟨q1,cc,q2,q3.sameBut hs (dB hn q3)⟩
  ·obtain ⟨w,q⟩:=I.cl y a e
   exact ⟨w,q.sameBut hs (dB hn q)⟩
 ·have hkx:env.kindOf x=some .cell:=(I.er.kd x).trans hk
  obtain ⟨cc,hc⟩:=I.er.cel x hkx;obtain ⟨v0,hv0⟩:=I.cl x cc hc;refine wpAny_storeName_cell I.er.fn hkx hc hv0 λh' hv hs=>?_;refine h h' s.toks cc (.inr ⟨x,hc⟩) hs ?_ (cF hv0) (.inr ⟨hkx,cc,hc,hv⟩) (λy w hy q=>?_) ⟨mm,hn.sameBut hs (Ne.symm (dB hn hv0))⟩ λy a e=>?_
  ·obtain ⟨o,e,_⟩:=hv;exact ⟨o,e⟩
  ·rcases q with ⟨q1,m2,q2,q3⟩ | ⟨q1,c2,q2,q3⟩
   ·exact .inl ⟨q1,m2,q2.sameBut hs (Ne.symm (dB hn hv0)),q3⟩
   ·refine .inr ⟨q1,c2,q2,q3.sameBut hs ?_⟩
    rintro rfl;exact hy (I.inj y x _ q2 hc)
  ·obtain ⟨w,q⟩:=I.cl y a e
   by_cases ha:a=cc
   ·subst ha;exact ⟨_,hv⟩
   ·exact ⟨w,q.sameBut hs ha⟩
theorem cX{x:Str}{i:Nat}(h:slotOf c.names x=some i){s:Shared}{m:St}{own:Nat->Addr}{G:Addr->Prop}(I:Inv P r c A env ow sc as s m own G):i < m.length:=by
 rw [I.er.len];exact (bE h).1
theorem ef{m:St}{i:Nat}{o:Option D}(h:i < m.length):(m.set i o)[i]?=some o:=XJ h
theorem bU{m:St}{i j:Nat}{o:Option D}(h:i ≠ j):(m.set i o)[j]?=m[j]?:=List.getElem?_set_ne h
theorem lC{rd:Prop}{as:List Addr}{a:Addr}(h:rd->as=[])(ha:a ∈ as) : ¬ rd:=λq=>by rw [h q] at ha;cases ha
structure Sto(P:Pk)(env:Env)(ow:List Nat)(sc s:Shared)(m:St)(own own':Nat->Addr)(G:Addr->Prop)(i:Nat)(v:Value)(d:D)(bs:List Addr):Prop where
 rd:Rd P.H s.heap v d bs
 c1:ow.contains i=true->flat d=true/\∀ a ∈ bs,a=own' i
 c2:ow.contains i=false->∀ a ∈ bs,G a
 oG:ow.contains i=true->noList d=false->¬ G (own' i)/\sc.heap.get? (own' i)=none/\own' i ≠ env.locals/\∀ x,env.cells.lookup x ≠ some (own' i)
 oE:ow.contains i=true->noList d=false->own' i ∈ bs
 oD:ow.contains i=true->noList d=false->∀ j dd,j ≠ i->ow.contains j=true->m[j]?=some (some dd)->noList dd=false->own j ≠ own' i
theorem Inv.sto{s:Shared}{m:St}{own own':Nat->Addr}{G:Addr->Prop}{x:Str}{i:Nat}{v:Value}{o:Option D}(I:Inv P r c A env ow sc as s m own G)(hs:slotOf c.names x=some i)(hv:∀ d,o=some d->∃ bs,Sto P env ow sc s m own own' G i v d bs)(hown:∀ j,j ≠ i->own' j=own j)
 {h':Heap} {tk:Nat} {z:Addr} (hz:z=env.locals\/∃ y,env.cells.lookup y=some z) (hsb:Heap.SameBut z s.heap h') (hzo:∃ o,h'.get? z=some o) (hzt:∀ o,s.heap.get? z=some o->∀ vs n,o ≠ tupObj vs n) (hvx:VarAt env h' x v) (hvo:∀ y w,y ≠ x->VarAt env s.heap y w->VarAt env h' y w)
  (hns:∃ mm,h'.Ns env.locals mm) (hcl:∀ x a,env.cells.lookup x=some a->∃ v,h'.IsCell a v) :
 Inv P r c A env ow sc as { s with heap:=h',toks:=tk } (m.set i o) own' G/\(∀ b,h'.get? b=none->s.heap.get? b=none)/\(∀ b o,s.heap.get? b=some o->b ≠ env.locals->(∀ x,env.cells.lookup x ≠ some b)->h'.get? b=some o) /\
  ∀ {w:Value} {dd:D} {xs:List Addr},Rd P.H s.heap w dd xs->(∀ a ∈ xs,a ≠ env.locals/\∀ y,env.cells.lookup y ≠ some a)->Rd P.H h' w dd xs:=by
 have hlt:=cX hs I;have keep:∀ b o,s.heap.get? b=some o->b ≠ env.locals->(∀ x,env.cells.lookup x ≠ some b)->h'.get? b=some o:=λb o e h1 h2=>hsb.extBut b o (by
  rintro rfl;rcases hz with q | ⟨y,q⟩
  ·exact h1 q
  ·exact h2 y q) e
 have live:∀ b,h'.get? b=none->s.heap.get? b=none:=λb e=>by
  by_cases hb:b=z
  ·subst hb;obtain ⟨o,q⟩:=hzo;rw [q] at e;cases e
  ·rw [<- hsb.2 b hb];exact e
 have rdk:∀ {w:Value} {dd:D} {xs:List Addr},Rd P.H s.heap w dd xs->(∀ a ∈ xs,a ≠ env.locals/\∀ y,env.cells.lookup y ≠ some a)->Rd P.H h' w dd xs:=λq hx=>
  q.but (λb=>b=z) (λb o hb e=>hsb.extBut b o hb e) (λb o hb e=>by subst hb;exact hzt o e) λa ha e=>by
   rcases hz with q | ⟨y,q⟩
   ·exact (hx a ha).1 (e.trans q)
   ·exact (hx a ha).2 y (e ▸ q)
 refine ⟨?_,live,keep,rdk⟩;refine ⟨I.room,I.gpc,⟨I.er.fn,I.er.gl,I.er.bu,I.er.kd,(List.length_set ..).trans I.er.len,λj hj=>Yh (I.er.owlt j hj) (List.length_set ..).symm,I.er.cel,?_⟩,λa e=>I.new a (live a e),?_,I.gsub,hns,hcl,I.inj,I.gL,I.gC,I.nL,I.nC,?_,?_⟩
 ·intro y j dd hy hm hky
  by_cases hj:j=i
  ·subst hj
   have exy:=mJ hy hs;subst exy;rw [ef hlt] at hm;refine (hv dd (Qv hm)).elim λbs K=>⟨v,bs,hvx,rdk K.rd λa ha=>?_,K.c1,K.c2⟩
   cases ho:ow.contains j with
   | false=>exact ⟨λe=>I.gL (e ▸ (K.c2 ho a ha)),λy e=>I.gC y a e (K.c2 ho a ha)⟩
   | true=>
    rw [(K.c1 ho).2 a ha];exact (K.oG ho (Y6.mpr (lC K.rd.noAddr ha))).2.2
  ·rw [bU (Ne.symm hj)] at hm
   refine byG λX_ g_=>?_;obtain ⟨w,xs,hv,rw',g1,g2⟩:=I.er.var y j dd hy hm hky;refine g_ ?_;refine ⟨w,xs,hvo y w (λe=>hj ?_) hv,rdk rw' λa ha=>?_,?_,g2⟩
   ·subst e;rw [hy] at hs;exact Qv hs
   ·cases ho:ow.contains j with
    | false=>exact ⟨λe=>I.gL (e ▸ g2 ho a ha),λy e=>I.gC y a e (g2 ho a ha)⟩
    | true=>
     have hnl:noList dd=false:=Y6.mpr (lC rw'.noAddr ha);rw [(g1 ho).2 a ha];exact ⟨(I.oG j dd ho hm hnl).2.2.1,(I.oG j dd ho hm hnl).2.2.2.1⟩
   ·rw [hown j hj];exact g1
 ·exact I.kp.setHeap λb o e=>keep b o (I.kp.get b o e) (by rintro rfl;rw [I.nL] at e;cases e) λy q=>by rw [I.nC y b q] at e;cases e
 ·intro j dd hj hm hnl
  by_cases hji:j=i
  ·subst hji
   rw [ef hlt] at hm;refine byG λX_ g_=>?_;obtain ⟨bs,K⟩:=hv dd (Qv hm);obtain ⟨q1,q2,q3,q4⟩:=K.oG hj hnl;obtain ⟨o,ho,q5⟩:=K.rd.old _ (K.oE hj hnl);refine g_ ?_;exact ⟨q1,q2,q3,q4,o,keep _ o ho q3 q4,q5⟩
  ·rw [bU (Ne.symm hji)] at hm
   rw [hown j hji];refine byG λX_ g_=>?_;obtain ⟨q1,q2,q3,q4,o,ho,q5⟩:=I.oG j dd hj hm hnl;refine g_ ?_;exact ⟨q1,q2,q3,q4,o,keep _ o ho q3 q4,q5⟩
 ·intro j k dd dd' hjk hj hk hm hm' hn hn'
  by_cases hji:j=i
  ·subst hji
   rw [ef hlt] at hm;rw [bU (hjk)] at hm';rw [hown k (Ne.symm hjk)];exact (hv dd (Qv hm)).elim λbs K=>Ne.symm (K.oD hj hn k dd' (Ne.symm hjk) hk hm' hn')
  ·rw [bU (Ne.symm hji)] at hm
   rw [hown j hji]
   by_cases hki:k=i
   ·subst hki
    rw [ef hlt] at hm';exact (hv dd' (Qv hm')).elim λbs K=>K.oD hk hn' j dd hji hj hm hn
   ·rw [bU (Ne.symm hki)] at hm'
    rw [hown k hki];exact I.oD j k dd dd' hjk hj hk hm hm' hn hn'
theorem gP{s:Shared}{m:St}{own own':Nat->Addr}{G:Addr->Prop}{x:Str}{i:Nat}{v:Value}{d:D}{bs:List Addr}(I:Inv P r c A env ow sc as s m own G)(hs:slotOf c.names x=some i)(hk:c.kind x=some .local\/c.kind x=some .cell)
 (rd:Rd P.H s.heap v d bs) (c1:ow.contains i=true->flat d=true/\∀ a ∈ bs,a=own' i) (c2:ow.contains i=false->∀ a ∈ bs,G a) (hown:∀ j,j ≠ i->own' j=own j)
 (oG:ow.contains i=true->noList d=false->¬ G (own' i)/\sc.heap.get? (own' i)=none/\own' i ≠ env.locals/\∀ x,env.cells.lookup x ≠ some (own' i))
 (oE:ow.contains i=true->noList d=false->own' i ∈ bs)
 (oD:ow.contains i=true->noList d=false->∀ j dd,j ≠ i->ow.contains j=true->m[j]?=some (some dd)->noList dd=false->own j ≠ own' i) {Q:Shared->Prop}
 (h:∀ h' tk,Inv P r c A env ow sc as { s with heap:=h',toks:=tk } (setV m i d) own' G->(∀ b,h'.get? b=none->s.heap.get? b=none)->(∀ b o,s.heap.get? b=some o->b ≠ env.locals->(∀ x,env.cells.lookup x ≠ some b)->h'.get? b=some o)->Q { s with heap:=h',toks:=tk }) :
 wpAny (model P.prog P.w) A (storeName env x v) (λ_ s'=>Q s') (λ_ _=>False) s:=by
 refine jt I hk λh' tk z hz hsb hzo hzt hvx hvo hns hcl=>?_;have w:=I.sto (o:=some d) hs (λd' e=>⟨bs,Qv e ▸ ⟨rd,c1,c2,oG,oE,oD⟩⟩) hown (tk:=tk) hz hsb hzo hzt hvx hvo hns hcl;exact h h' tk w.1 w.2.1 w.2.2.1
theorem dS{s:Shared}{m:St}{own:Nat->Addr}{G:Addr->Prop}{x:Str}{i:Nat}{v:Value}{d:D}{bs:List Addr}(I:Inv P r c A env ow sc as s m own G)(hs:slotOf c.names x=some i)(hk:c.kind x=some .local\/c.kind x=some .cell)
 (rd:Rd P.H s.heap v d bs) (ho:ow.contains i=false) (hg:∀ a ∈ bs,G a) {Q:Shared->Prop}
 (h:∀ h' tk,Inv P r c A env ow sc as { s with heap:=h',toks:=tk } (setV m i d) own G->Stp env ow [i] [] s m own G { s with heap:=h',toks:=tk } (setV m i d) own G->(∀ b o,s.heap.get? b=some o->b ≠ env.locals->(∀ x,env.cells.lookup x ≠ some b)->h'.get? b=some o)->Q { s with heap:=h',toks:=tk }) :
 wpAny (model P.prog P.w) A (storeName env x v) (λ_ s'=>Q s') (λ_ _=>False) s:=by
 refine gP (own':=own) I hs hk rd (λq=>(by rw [ho] at q;cases q)) (λ_=>hg) (λ_ _=>rfl) (λq=>(by rw [ho] at q;cases q)) (λq=>(by rw [ho] at q;cases q)) (λq=>(by rw [ho] at q;cases q)) λh' tk I' live keep=>?_;refine h h' tk I' ⟨live,λb o _ e h1 h2 _=>keep b o e h1 h2,λ_ _ _ g=>g,λj dd hj hm hnl=>?_,λj hj=>⟨rfl,?_⟩⟩ keep
 ·have hji:i ≠ j:=by rintro rfl;rw [ho] at hj;cases hj
  rw [aK hji] at hm;exact .inl ⟨rfl,dd,hm,hnl⟩
 ·exact aK (by rintro rfl;exact hj (.head _))
theorem Inv.minus{s s':Shared}{m:St}{own:Nat->Addr}{G:Addr->Prop}(I0:Inv P r c A env ow sc as s m own G)(k:Kp s s')(X:List Addr)(h1:∀ a ∈ X,s.heap.get? a=none)(h2:∀ a ∈ X,∃ o,s'.heap.get? a=some o):Inv P r c A env ow sc as s' m own (λa=>G a/\a ∉ X):=by
 have I:=I0.keeps k;have gone:∀ a o,s.heap.get? a=some o->a ∉ X:=λa o e q=>by rw [h1 a q] at e;cases e
 refine ⟨I.room,I.gpc,(I0.er.strengthen λa o e g=>⟨g,gone a o e⟩).keeps k.get,λa e=>⟨I.new a e,λq=>?_⟩,I.kp,λa q=>I.gsub a q.1,I.ns,I.cl,I.inj,λq=>I.gL q.1,λy a e q=>I.gC y a e q.1,I.nL,I.nC,λj dd h1 h2 h3=>?_,I.oD⟩
 ·obtain ⟨o,e'⟩:=h2 a q;rw [e'] at e;cases e
 ·obtain ⟨q1,q2⟩:=I.oG j dd h1 h2 h3
  exact ⟨λq=>q1 q.1,q2⟩
theorem Inv.new_ne{s:Shared}{m:St}{own:Nat->Addr}{G:Addr->Prop}(I0:Inv P r c A env ow sc as s m own G){a:Addr}(h:s.heap.get? a=none):sc.heap.get? a=none/\a ≠ env.locals/\(∀ y,env.cells.lookup y ≠ some a)/\∀ j dd,ow.contains j=true->m[j]?=some (some dd)->noList dd=false->own j ≠ a:=by
 refine ⟨I0.kp.none h,?_,λy e=>?_,λj dd h1 h2 h3=>?_⟩
 ·rintro rfl
  obtain ⟨mm,o,_,_,e,_⟩:=I0.ns;rw [e] at h;cases h
 ·obtain ⟨w,o,e',_⟩:=I0.cl y a e
  rw [e'] at h;cases h
 ·obtain ⟨_,_,_,_,o,e,_⟩:=I0.oG j dd h1 h2 h3
  rintro rfl;rw [e] at h;cases h
theorem Rd.flat_one{H:D->Int}{h:Heap}{v:Value}{d:D}{bs:List Addr}(rd:Rd H h v d bs)(hf:flat d=true):∃ a0,(∀ a ∈ bs,a=a0)/\(noList d=false->a0 ∈ bs):=by
 cases rd with
 | @list a vs n xs as' h1 h2 h3=>
  have:as'=[]:=h3.noAddr (show an _=true from hf);subst this;exact ⟨a,λb q=>Qx q,λ_=>.head _⟩
 | @tuple a vs n xs as' h1 h2 h3=>
  have:bs=[]:=h3.noAddr hf;subst this;exact ⟨0,λ_ q=>(nomatch q),λq=>(by rw [show noList (.tuple xs)=true from hf] at q;cases q)⟩
 | @dict a _ _ _ _ _=>exact ⟨a,λb q=>Qx q,λ_=>.head _⟩
 | none=>exact ⟨0,λ_ q=>(nomatch q),λq=>(by cases q)⟩
 | bool=>exact ⟨0,λ_ q=>(nomatch q),λq=>(by cases q)⟩
 | int=>exact ⟨0,λ_ q=>(nomatch q),λq=>(by cases q)⟩
 | str=>exact ⟨0,λ_ q=>(nomatch q),λq=>(by cases q)⟩
theorem ju{s0 s:Shared}{m:St}{own:Nat->Addr}{G:Addr->Prop}{x:Str}{i:Nat}{v:Value}{d:D}{bs:List Addr}(X:List Addr)(I0:Inv P r c A env ow sc as s0 m own G)(k:Kp s0 s)(hX:∀ a ∈ X,s0.heap.get? a=none)(hX2:∀ a ∈ X,∃ o,s.heap.get? a=some o)(hs:slotOf c.names x=some i)(hk:c.kind x=some .local\/c.kind x=some .cell)
 (rd:Rd P.H s.heap v d bs) (ho:ow.contains i=true) (hf:flat d=true) (hn:∀ a ∈ bs,s0.heap.get? a=none) {Q:Shared->Prop}
 (h:∀ h' tk own' G',Inv P r c A env ow sc as { s with heap:=h',toks:=tk } (setV m i d) own' G'->Stp env ow [i] [] s0 m own G { s with heap:=h',toks:=tk } (setV m i d) own' G'->(∀ a ∈ X,¬ G' a) ->
  (∀ j dd,ow.contains j=true->(setV m i d)[j]?=some (some dd)->noList dd=false->∀ a ∈ X,a ∉ bs->own' j ≠ a) ->
  (∀ b o,s.heap.get? b=some o->b ≠ env.locals->(∀ x,env.cells.lookup x ≠ some b)->h'.get? b=some o)->Q { s with heap:=h',toks:=tk }) :
 wpAny (model P.prog P.w) A (storeName env x v) (λ_ s'=>Q s') (λ_ _=>False) s:=by
 refine byG λX_ g_=>?_;obtain ⟨a0,ha0,ha1⟩:=rd.flat_one hf;refine g_ ?_;have gone:∀ a o,s0.heap.get? a=some o->a ∉ X++bs:=λa o e q=>by
  rcases QY q with q | q
  ·rw [hX a q] at e;cases e
  ·rw [hn a q] at e;cases e
 have hlt:=cX hs I0;refine gP (own':=λj=>if j=i then a0 else own j) (I0.minus k (X++bs) (λa q=>(QY q).elim (hX a) (hn a)) λa q=>(QY q).elim (hX2 a) λq=>(rd.old a q).imp λo e=>e.1) hs hk rd (λ_=>⟨hf,λa q=>by simpa using ha0 a q⟩) (λq=>(by rw [ho] at q;cases q)) (λj hj=>Qu hj) (λ_ hnl=>?_) (λ_ hnl=>by simpa using ha1 hnl) (λ_ hnl j dd hj hoj hm hnl'=>?_) λh' tk I' live keep=>?_
 ·simp only [if_true]
  exact ⟨λq=>q.2 (Zy _ (ha1 hnl)),(I0.new_ne (hn a0 (ha1 hnl))).1,(I0.new_ne (hn a0 (ha1 hnl))).2.1,(I0.new_ne (hn a0 (ha1 hnl))).2.2.1⟩
 ·simp only [if_true]
  exact (I0.new_ne (hn a0 (ha1 hnl))).2.2.2 j dd hoj hm hnl'
 ·refine h h' tk _ _ I' ⟨λb e=>k.none (live b e),λb o _ e h1 h2 _=>keep b o (k.get b o e) h1 h2,λa o e g=>⟨g,gone a o e⟩,λj dd hj hm hnl=>?_,λj hj=>?_⟩ (λa ha q=>q.2 (Q6 _ ha)) (λj dd hj hm hnl a ha hab=>?_) keep
  ·by_cases hji:j=i
   ·subst hji
    rw [f8 hlt] at hm;cases hm;exact .inr (by simpa using hn _ (ha1 hnl))
   ·rw [aK (Ne.symm hji)] at hm
    exact .inl ⟨Qu hji,dd,hm,hnl⟩
  ·have hji:j ≠ i:=λe=>hj (by rw [e];exact .head _)
   exact ⟨Qu hji,aK (Ne.symm hji)⟩
  ·by_cases hji:j=i
   ·subst hji
    rw [f8 hlt] at hm;cases hm;simp only [if_true];rintro rfl;exact hab (ha1 hnl)
   ·rw [aK (Ne.symm hji)] at hm
    simp only [Qu hji];exact (I0.new_ne (hX a ha)).2.2.2 j dd hj hm hnl
theorem Inv.walk{s:Shared}{m:St}{own:Nat->Addr}{G:Addr->Prop}{h':Heap}{tk:Nat}(I:Inv P r c A env ow sc as s m own G)(wr:List Addr)(hk:∀ b o,b ∉ wr->s.heap.get? b=some o->h'.get? b=some o)
 (w1:∀ b ∈ wr,sc.heap.get? b=none) (w2:∀ b ∈ wr,b ≠ env.locals/\∀ y,env.cells.lookup y ≠ some b) (w3:∀ b ∈ wr,∀ o,s.heap.get? b=some o->∀ vs n,o ≠ tupObj vs n)
 (w4:∀ b ∈ wr,(¬ G b/\∀ j dd,ow.contains j=true->m[j]?=some (some dd)->noList dd=false->own j ≠ b)\/∀ o,s.heap.get? b=some o->(∀ vs n,o ≠ listObj vs n)/\∀ es n,o ≠ dictObj es n) :
 Inv P r c A env ow sc as { s with heap:=h',toks:=tk } m own (λa=>G a\/a ∈ wr):=by
 obtain ⟨mm,hn⟩:=I.ns;have hL:env.locals ∉ wr:=λq=>(w2 _ q).1 rfl;have hC:∀ y a,env.cells.lookup y=some a->a ∉ wr:=λy a e q=>(w2 a q).2 y e;have hO:∀ i d,ow.contains i=true->m[i]?=some (some d)->noList d=false->own i ∉ wr:=λi d h1 h2 h3 q=>by
  obtain ⟨_,_,_,_,o,e,q5⟩:=I.oG i d h1 h2 h3;rcases w4 _ q with ⟨_,z⟩ | z
  ·exact z i d h1 h2 h3 rfl
  ·rcases q5 with ⟨vs,n,q5⟩ | ⟨vs,n,q5⟩
   ·exact (z o e).1 vs n q5
   ·exact (z o e).2 vs n q5
 refine ⟨I.room,I.gpc,⟨I.er.fn,I.er.gl,I.er.bu,I.er.kd,I.er.len,I.er.owlt,I.er.cel,λx i d h1 h2 h3=>?_⟩,λa e=>?_,?_,λa q=>q.elim (I.gsub a) (λq=>.inr (w1 a q)),⟨mm,hn.at' λo e=>hk _ o hL e⟩,λx a e=>?_,I.inj,λq=>q.elim I.gL hL,λx a e q=>q.elim (I.gC x a e) (hC x a e),I.nL,I.nC,λi d h1 h2 h3=>?_,I.oD⟩
 ·refine byG λX_ g_=>?_
  obtain ⟨v,xs,hv,rd,g1,g2⟩:=I.er.var x i d h1 h2 h3;refine g_ ?_;refine ⟨v,xs,?_,rd.but (λb=>b ∈ wr) hk (λb o hb e=>w3 b hb o e) λa ha q=>?_,g1,λz a ha=>.inl (g2 z a ha)⟩
  ·rcases hv with ⟨q1,m2,q2,q3⟩ | ⟨q1,c2,q2,q3⟩
   ·exact .inl ⟨q1,m2,q2.at' λo e=>hk _ o hL e,q3⟩
   ·refine .inr ⟨q1,c2,q2,?_⟩
    obtain ⟨o,e,dd⟩:=q3;exact ⟨o,hk _ o (hC _ _ q2) e,dd⟩
  ·cases ho:ow.contains i with
   | true=>
    have hnl:noList d=false:=by
     cases q:noList d with
     | false=>rfl
     | true=>rw [rd.noAddr q] at ha;cases ha
    exact hO i d ho h2 hnl ((g1 ho).2 a ha ▸ q)
   | false=>
    rcases w4 a q with ⟨z,_⟩ | z
    ·exact z (g2 ho a ha)
    ·obtain ⟨o,e,q5⟩:=rd.old a ha
     rcases q5 with ⟨vs,n,q5⟩ | ⟨vs,n,q5⟩
     ·exact (z o e).1 vs n q5
     ·exact (z o e).2 vs n q5
 ·by_cases hw:a ∈ wr
  ·exact .inr hw
  ·refine .inl (I.new a ?_)
   cases q:s.heap.get? a with
   | none=>rfl
   | some o=>rw [show h'.get? a=_ from hk a o hw q] at e;cases e
 ·exact I.kp.setHeap λb o e=>hk b o (λq=>by rw [w1 b q] at e;cases e) (I.kp.get b o e)
 ·obtain ⟨v,o,q,dd⟩:=I.cl x a e
  exact ⟨v,o,hk _ o (hC _ _ e) q,dd⟩
 ·refine byG λX_ g_=>?_
  obtain ⟨q1,q2,q3,q4,o,e,q5⟩:=I.oG i d h1 h2 h3;refine g_ ?_;exact ⟨λq=>q.elim q1 (hO i d h1 h2 h3),q2,q3,q4,o,hk _ o (hO i d h1 h2 h3) e,q5⟩
theorem ku{s:Shared}{m:St}{own:Nat->Addr}{G:Addr->Prop}{x:Str}{i:Nat}{d0 d':D}{h':Heap}{tk:Nat}{o':Obj}(I:Inv P r c A env ow sc as s m own G)(hs:slotOf c.names x=some i)(hk:c.kind x=some .local\/c.kind x=some .cell)
 (ho:ow.contains i=true) (hm:m[i]?=some (some d0)) (hc0:isC d0=true) (sb:Heap.SameBut (own i) s.heap h') (hget:h'.get? (own i)=some o') (ho':(∃ vs n,o'=listObj vs n)\/∃ es n,o'=dictObj es n) (rd':Rd P.H h' (.ref (own i)) d' [own i]) (fl':flat d'=true) :
 Inv P r c A env ow sc as { s with heap:=h',toks:=tk } (setV m i d') own G/\Stp env ow [i] [] s m own G { s with heap:=h',toks:=tk } (setV m i d') own G:=by
 have hn0:=sJ hc0;obtain ⟨oG1,oG2,oG3,oG4,o0,e0,oG5⟩:=I.oG i _ ho hm hn0;have nt:∀ b o,b=own i->s.heap.get? b=some o->∀ vs n,o ≠ tupObj vs n:=λb o hb e vs n q=>by
  subst hb;rw [e] at e0;cases e0;rcases oG5 with ⟨vs',n',z⟩ | ⟨vs',n',z⟩
  ·rw [q] at z;exact absurd (Qf Obj.cls z) (by show ¬ (Value.type "tuple" = Value.type "list");decide)
  ·rw [q] at z;exact absurd (Qf Obj.cls z) (by show ¬ (Value.type "tuple" = Value.type "dict");decide)
 have keep:∀ b o,b ≠ own i->s.heap.get? b=some o->h'.get? b=some o:=λb o hb e=>sb.extBut b o hb e;have live:∀ b,h'.get? b=none->s.heap.get? b=none:=λb e=>by
  by_cases hb:b=own i
  ·subst hb;rw [hget] at e;cases e
  ·rw [<- sb.2 b hb];exact e
 have vk:∀ y w,VarAt env s.heap y w->VarAt env h' y w:=λy w q=>by
  rcases q with ⟨q1,m2,q2,q3⟩ | ⟨q1,c2,q2,q3⟩
  ·exact .inl ⟨q1,m2,q2.at' λo e=>keep _ o (Ne.symm oG3) e,q3⟩
  ·obtain ⟨o,e,dd⟩:=q3
   exact .inr ⟨q1,c2,q2,o,keep _ o (λz=>oG4 y (z ▸ q2)) e,dd⟩
 obtain ⟨mm,hn⟩:=I.ns;refine ⟨⟨I.room,I.gpc,⟨I.er.fn,I.er.gl,I.er.bu,I.er.kd,?_,?_,I.er.cel,?_⟩,λa e=>I.new a (live a e),?_,I.gsub,⟨mm,hn.at' λo e=>keep _ o (Ne.symm oG3) e⟩,λy a e=>?_,I.inj,I.gL,I.gC,I.nL,I.nC,?_,?_⟩,⟨live,λb o _ e _ _ h3=>keep b o (h3 i _ (.head _) ho hm hn0) e,λ_ _ _ g=>g,λj dd hj hm' hnl=>?_,λj hj=>⟨rfl,aK (by rintro rfl;exact hj (.head _))⟩⟩⟩
 ·simp [setV,I.er.len]
 ·intro j hj;have:=I.er.owlt j hj;simpa [setV] using this
 ·intro y j dd hy hm' hky
  by_cases hj:j=i
  ·subst hj
   rw [f8 (cX hs I)] at hm';cases hm';refine byG λX_ g_=>?_;obtain ⟨w,ws,hv,rd,g1,g2⟩:=I.er.var y j _ hy hm hky;obtain ⟨a,rfl,ha⟩:=rd.top hc0;refine g_ ?_;have ea:a=own j:=(g1 ho).2 a ha;subst ea;exact ⟨_,_,vk y _ hv,rd',λ_=>⟨fl',λa q=>Qx q⟩,λq=>(by rw [ho] at q;cases q)⟩
  ·rw [aK (Ne.symm hj)] at hm'
   refine byG λX_ g_=>?_;obtain ⟨w,ws,hv,rd,g1,g2⟩:=I.er.var y j dd hy hm' hky;refine g_ ?_;refine ⟨w,ws,vk y w hv,rd.but (λb=>b=own i) keep nt λa ha q=>?_,g1,g2⟩;subst q;cases hoj:ow.contains j with
   | false=>exact oG1 (g2 hoj _ ha)
   | true=>
    have hnl:noList dd=false:=by
     cases q:noList dd with
     | false=>rfl
     | true=>rw [rd.noAddr q] at ha;cases ha
    exact I.oD j i dd _ hj hoj ho hm' hm hnl hn0 ((g1 hoj).2 _ ha).symm
 ·exact I.kp.setHeap λb o e=>keep b o (by rintro rfl;rw [oG2] at e;cases e) (I.kp.get b o e)
 ·obtain ⟨v,o,q,dd⟩:=I.cl y a e
  exact ⟨v,o,keep _ o (λz=>oG4 y (z ▸ e)) q,dd⟩
 ·intro j dd hj hm' hnl
  by_cases hji:j=i
  ·subst hji
   exact ⟨oG1,oG2,oG3,oG4,_,hget,ho'⟩
  ·rw [aK (Ne.symm hji)] at hm'
   refine byG λX_ g_=>?_;obtain ⟨q1,q2,q3,q4,o,e,q5⟩:=I.oG j dd hj hm' hnl;refine g_ ?_;exact ⟨q1,q2,q3,q4,o,keep _ o (I.oD j i dd _ hji hj ho hm' hm hnl hn0) e,q5⟩
 ·intro j k dd dd' hjk hj hk hm1 hm2 hn1 hn2
  have back:∀ l dl,(setV m i d')[l]?=some (some dl)->noList dl=false->∃ dl',m[l]?=some (some dl')/\noList dl'=false:=λl dl e q=>by
   by_cases hl:l=i
   ·subst hl;exact ⟨_,hm,hn0⟩
   ·rw [aK (Ne.symm hl)] at e;exact ⟨dl,e,q⟩
  obtain ⟨d1,e1,n1⟩:=back j dd hm1 hn1;obtain ⟨d2,e2,n2⟩:=back k dd' hm2 hn2;exact I.oD j k d1 d2 hjk hj hk e1 e2 n1 n2
 ·by_cases hji:j=i
  ·subst hji;exact .inl ⟨rfl,_,hm,hn0⟩
  ·rw [aK (Ne.symm hji)] at hm';exact .inl ⟨rfl,dd,hm',hnl⟩
theorem vV{s:Shared}{m:St}{own:Nat->Addr}{G:Addr->Prop}{i:Nat}{d0:D}(I:Inv P r c A env ow sc as s m own G)(ho:ow.contains i=true)(hm:m[i]?=some (some d0))(hc0:isC d0=true):∀ b o,b=own i->s.heap.get? b=some o->∀ vs n,o ≠ tupObj vs n:=λb o hb e vs n q=>by
 obtain ⟨_,_,_,_,o0,e0,oG5⟩:=I.oG i _ ho hm (sJ hc0);subst hb;rw [e] at e0;cases e0;rcases oG5 with ⟨vs',n',z⟩ | ⟨vs',n',z⟩
 ·rw [q] at z;exact absurd (Qf Obj.cls z) (by show ¬ (Value.type "tuple" = Value.type "list");decide)
 ·rw [q] at z;exact absurd (Qf Obj.cls z) (by show ¬ (Value.type "tuple" = Value.type "dict");decide)
theorem lD{s:Shared}{m:St}{own:Nat->Addr}{G:Addr->Prop}{x:Str}{i:Nat}{xs xs':List D}{h':Heap}{tk:Nat}{vs:Array Value}{n:Nat}(I:Inv P r c A env ow sc as s m own G)(hs:slotOf c.names x=some i)(hk:c.kind x=some .local\/c.kind x=some .cell)
 (ho:ow.contains i=true) (hm:m[i]?=some (some (.list xs))) (sb:Heap.SameBut (own i) s.heap h') (hget:h'.get? (own i)=some (listObj vs n)) (hz:vs.size<=sizeLine) (ra:RdAll P.H s.heap vs.toList xs' []) (nl:an xs'=true) :
 Inv P r c A env ow sc as { s with heap:=h',toks:=tk } (setV m i (.list xs')) own G/\Stp env ow [i] [] s m own G { s with heap:=h',toks:=tk } (setV m i (.list xs')) own G:=
 ku I hs hk ho hm rfl sb hget (.inl ⟨_,_,rfl⟩) (.list hget hz (ra.but (λb=>b=own i) (λb o hb e=>sb.extBut b o hb e) (vV I ho hm rfl) λa q=>(nomatch q))) nl
end
end Mine
set_option tactic.hygienic false
namespace Mine
open PySem
mutual
noncomputable def tchS:Sm->List Nat
 | .asg i _=>[i]
 | .unp i j _=>[i,j]
 | .seti i _ _=>[i]
 | .app i _=>[i]
 | .pop i=>[i]
 | .rev i=>[i]
 | .ite _ t e=>tchSs t++tchSs e
 | .for1 i _ b=>[i]++tchSs b
 | .for2 i j _ b=>[i,j]++tchSs b
 | .wh _ b=>tchSs b
 | .ret _=>[]
 | .ex _=>[]
 | .tap i _ _ _ _ _ b=>[i]++tchSs b
 | .stuck=>[]
noncomputable def tchSs:Sms->List Nat
 | .nil=>[]
 | .cons s r=>tchS s++tchSs r
end
theorem oL(s:Sm)(r:Sms):tchSs (Sms.cons s r)=tchS s++tchSs r:=rfl
theorem sK(c:Ex)(t:Sms)(e:Sms):tchS (Sm.ite c t e)=tchSs t++tchSs e:=rfl
noncomputable def gQ(ow:List Nat)(it:It)(b:List Nat):Bool:=
 (itOw ow it).all λe=>match e with
  | .v j=>!b.contains j
  | _=>true
mutual
noncomputable def okS(ow:List Nat):Sm->Bool
 | .asg i e=>okE ow e&&(if ow.contains i then frE e else nm ow e)
 | .unp i j e=>okE ow e&&nm ow e&&!ow.contains i&&!ow.contains j
 | .seti i k e=>ow.contains i&&okE ow k&&okE ow e
 | .app i e=>ow.contains i&&okE ow e
 | .pop i=>ow.contains i
 | .rev i=>ow.contains i
 | .ite c t e=>okE ow c&&okSs ow t&&okSs ow e
 | .for1 i it b=>okIt ow it&&!ow.contains i&&okSs ow b&&gQ ow it (tchSs b)
 | .for2 i j it b=>okIt ow it&&!ow.contains i&&!ow.contains j&&okSs ow b&&gQ ow it (tchSs b)
 | .wh c b=>okE ow c&&okSs ow b
 | .ret e=>okE ow e
 | .ex e=>okE ow e
 | .tap i j _ c1 t1 c2 b=>!ow.contains i&&!ow.contains j&&okE ow c1&&okSs ow t1&&okE ow c2&&okSs ow b
 | .stuck=>true
noncomputable def okSs(ow:List Nat):Sms->Bool
 | .nil=>true
 | .cons s r=>okS ow s&&okSs ow r
end
theorem vW(ow:List Nat)(i:Nat)(e:Ex):okS ow (.asg i e)=(okE ow e&&(if ow.contains i then frE e else nm ow e)):=rfl
theorem xl(ow:List Nat)(i j:Nat)(e:Ex):okS ow (.unp i j e)=(okE ow e&&nm ow e&&!ow.contains i&&!ow.contains j):=rfl
theorem vX(ow:List Nat)(i:Nat)(k e:Ex):okS ow (.seti i k e)=(ow.contains i&&okE ow k&&okE ow e):=rfl
theorem xm(ow:List Nat)(i:Nat)(e:Ex):okS ow (.app i e)=(ow.contains i&&okE ow e):=rfl
theorem xn(ow:List Nat)(i:Nat):okS ow (.pop i)=ow.contains i:=rfl
theorem xo(ow:List Nat)(c:Ex)(t e:Sms):okS ow (.ite c t e)=(okE ow c&&okSs ow t&&okSs ow e):=rfl
theorem vY(ow:List Nat)(i:Nat)(it:It)(b:Sms):okS ow (.for1 i it b)=(okIt ow it&&!ow.contains i&&okSs ow b&&gQ ow it (tchSs b)):=rfl
theorem vZ(ow:List Nat)(i j:Nat)(it:It)(b:Sms):okS ow (.for2 i j it b)=(okIt ow it&&!ow.contains i&&!ow.contains j&&okSs ow b&&gQ ow it (tchSs b)):=rfl
theorem k_wh(ow:List Nat)(c:Ex)(b:Sms):okS ow (.wh c b)=(okE ow c&&okSs ow b):=rfl
theorem xp(ow:List Nat)(e:Ex):okS ow (.ret e)=okE ow e:=rfl
theorem k_ex(ow:List Nat)(e:Ex):okS ow (.ex e)=okE ow e:=rfl
theorem xI(ow:List Nat)(i j:Nat)(g:Str)(c1:Ex)(t1:Sms)(c2:Ex)(b:Sms):okS ow (.tap i j g c1 t1 c2 b)=(!ow.contains i&&!ow.contains j&&okE ow c1&&okSs ow t1&&okE ow c2&&okSs ow b):=rfl
theorem t9(ow:List Nat)(s:Sm)(r:Sms):okSs ow (.cons s r)=(okS ow s&&okSs ow r):=rfl
section
variable (P:Pk)(r:Nat)(c:TC)
set_option tactic.hygienic true in
noncomputable def PF(A:Around)(env:Env)(ow:List Nat)(sc:Shared)(as:List Addr)(fr:Bool)(tch:List Nat)(s:Shared)(m:St)(own:Nat->Addr)(G:Addr->Prop):Fl × St->Flow->Shared->Prop
 | (.next,m'),f,s'=>f = .next/\∃ own' G',Inv P r c A env ow sc as s' m' own' G'/\Stp env ow tch [] s m own G s' m' own' G'
 | (.ret d,_),f,s'=>∃ v,f = .ret v/\Kp sc s'/\∃ bs,Rd P.H s'.heap v d bs/\(∀ x ∈ bs,sc.heap.get? x=none\/x ∈ as)/\(fr=true->∀ x ∈ bs,sc.heap.get? x=none)
noncomputable def SS(ow:List Nat)(fr:Bool)(N:Nat)(st:PySem.Stmt)(st':Sm):Prop:=
 ∀ (A:Around) (env:Env) (sc:Shared) (as:List Addr) (s:Shared) (m:St) (own:Nat->Addr) (G:Addr->Prop) (res:Fl × St),Inv P r c A env ow sc as s m own G->okS ow st'=true->exS P.Φ P.Γ ow fr N st' m=some res ->
  wpAny (model P.prog P.w) A (exec st env) (PF P r c A env ow sc as fr (tchS st') s m own G res) (λo_ o_=>False) s
noncomputable def SSs(ow:List Nat)(fr:Bool)(N:Nat)(st:List PySem.Stmt)(st':Sms):Prop:=
 ∀ (A:Around) (env:Env) (sc:Shared) (as:List Addr) (s:Shared) (m:St) (own:Nat->Addr) (G:Addr->Prop) (res:Fl × St),Inv P r c A env ow sc as s m own G->okSs ow st'=true->exSs P.Φ P.Γ ow fr N st' m=some res ->
  wpAny (model P.prog P.w) A (execs st env) (PF P r c A env ow sc as fr (tchSs st') s m own G res) (λo_ o_=>False) s
end
section
variable {P:Pk}{r:Nat}{c:TC}{ow:List Nat}{fr:Bool}{N:Nat}
set_option tactic.hygienic true in
theorem PF.after{A:Around}{env:Env}{sc:Shared}{as:List Addr}{t1 t2 t:List Nat}{s s1:Shared}{m m1:St}{own own1:Nat->Addr}{G G1:Addr->Prop}{res:Fl × St}{f:Flow}{s':Shared}(S1:Stp env ow t1 [] s m own G s1 m1 own1 G1)(h:PF P r c A env ow sc as fr t2 s1 m1 own1 G1 res f s')(h1:∀ i ∈ t1,i ∈ t)(h2:∀ i ∈ t2,i ∈ t):PF P r c A env ow sc as fr t s m own G res f s':=by
 obtain ⟨fl,m'⟩:=res;cases fl with
 | next=>
  refine byG λX_ g_=>?_;obtain ⟨h0,own',G',I,S⟩:=h;refine g_ ?_;exact ⟨h0,own',G',I,S1.join S h1 h2⟩
 | ret d=>exact h
theorem oM:SSs P r c ow fr N [] .nil:=by
 intro A env sc as s m own G res I hok hev;simp only [vd,Qc] at hev;subst hev;exact YC ⟨rfl,own,G,I,Stp.refl ..⟩
set_option tactic.hygienic true in
theorem qO{st:PySem.Stmt}{rest:List PySem.Stmt}{st':Sm}{rest':Sms}(h:SS P r c ow fr N st st')(hr:SSs P r c ow fr N rest rest'):SSs P r c ow fr N (st::rest) (.cons st' rest'):=by
 intro A env sc as s m own G res I hok hev;simp only [t9,Qj] at hok;simp only [hZ] at hev;cases q:exS P.Φ P.Γ ow fr N st' m with
 | none=>rw [q] at hev;cases hev
 | some r1=>
  rw [q] at hev;refine Yp (Qs (h A env sc as s m own G r1 I hok.1 q) (λf s' hf=>?_) λo_ o_ z=>z);obtain ⟨fl,m1⟩:=r1;cases fl with
  | next=>
   obtain ⟨rfl,own1,G1,I1,S1⟩:=hf;simp only at hev;refine Qs (hr A env sc as s' m1 own1 G1 res I1 hok.2 hev) (λf2 s2 h2=>?_) λo_ o_ z=>z;exact h2.after S1 (λi q=>by simp [oL,q]) λi q=>by simp [oL,q]
  | ret d=>
   simp only [Qc] at hev;subst hev;obtain ⟨v,rfl,h2⟩:=hf;exact ⟨v,rfl,h2⟩
set_option tactic.hygienic true in
theorem v6{e:PySem.Expr}{e':Ex}{pos:Pos}(he:P.SE r c e e'):SS P r c ow fr N (.Return (some e) pos) (.ret e'):=by
 intro A env sc as s m own G res I hok hev;simp only [xp] at hok;simp only [vc] at hev;refine aa hev λd e1 hev=>?_;split at hev
 case isFalse=>cases hev
 rename_i hc;cases hev;refine wpAny_Return_some (SE.us he I.pre hok e1 λv s' k bs rd g1 g2 g3 g4=>?_);have hOwn:isOw ow e'=true->∀ x ∈ bs,sc.heap.get? x=none:=λho x hx=>by
  obtain ⟨i,rfl,hi⟩:=oz ho;have hnl:noList d=false:=by
   cases q:noList d with
   | false=>rfl
   | true=>rw [rd.noAddr q] at hx;cases hx
  rw [g4 ho x hx];exact (I.oG i d hi (evV e1) hnl).2.1
 refine ⟨v,rfl,I.kp.trans k,bs,rd,λx hx=>?_,λhfr x hx=>?_⟩
 ·cases ho:isOw ow e' with
  | true=>exact .inl (hOwn ho x hx)
  | false=>exact (I.gsub x (g1 ho x hx)).symm
 ·subst hfr
  simp only [Ys,Xl,retOk,Ze,Qj] at hc;rcases hc with hc | ⟨ho | hf,hfl⟩
  ·rw [rd.noAddr hc] at hx;cases hx
  ·exact hOwn ho x hx
  ·exact I.kp.none (g3 hf hfl x hx)
theorem xq{e:PySem.Expr}{e':Ex}{pos:Pos}(he:P.SE r c e e')(hsw:∀ env:Env,swapsWith e none pos.line env=pure false):SS P r c ow fr N (.Expr e pos) (.ex e'):=by
 intro A env sc as s m own G res I hok hev;simp only [k_ex] at hok;simp only [e_ex] at hev;obtain ⟨d,e1,rfl⟩:=ae hev;refine YT (SE.use he I.pre hok e1 λv s' q=>?_) (by unfold interactive;rw [I.er.fn];rfl) (hsw env);exact ⟨rfl,own,G,I.keeps q.1,Stp.kp q.1 _ _⟩
theorem xr{test:PySem.Expr}{body orelse:List PySem.Stmt}{q:Ex}{a b:Sms}{pos:Pos}(ht:P.ST r c test q)(ha:SSs P r c ow fr N body a)(hb:SSs P r c ow fr N orelse b):SS P r c ow fr N (.If test body orelse pos) (.ite q a b):=by
 intro A env sc as s m own G res I hok hev;simp only [xo,Qj] at hok;simp only [nz] at hev;refine aa hev λd e1 hev=>?_;refine aa hev λbb e2 hev=>?_;refine wpAny_If (ST.use ht I.pre hok.1.1 e1 e2 λs' k=>?_);cases bb with
 | true=>
  simp only [if_true] at hev ⊢;exact Qs (ha A env sc as s' m own G res (I.keeps k) hok.1.2 hev) (λf s2 h2=>h2.after (Stp.kp k [] []) (λo_ q=>nomatch q) λi q=>by simp [sK,q]) λo_ o_ z=>z
 | false=>
  simp only [QD,if_false] at hev ⊢;exact Qs (hb A env sc as s' m own G res (I.keeps k) hok.2 hev) (λf s2 h2=>h2.after (Stp.kp k [] []) (λo_ q=>nomatch q) λi q=>by simp [sK,q]) λo_ o_ z=>z
set_option tactic.hygienic true in
theorem sL{x:Str}{i:Nat}{e:PySem.Expr}{e':Ex}{px pos:Pos}(hs:slotOf c.names x=some i)(hk:c.kind x=some .local\/c.kind x=some .cell)(he:P.SE r c e e'){A:Around}{env:Env}{sc:Shared}{as:List Addr}{s:Shared}{m:St}{own:Nat->Addr}{G:Addr->Prop}{res:Fl × St}
 (I:Inv P r c A env ow sc as s m own G) (hok:okS ow (.asg i e')=true) (hev:exS P.Φ P.Γ ow fr N (.asg i e') m=some res) (hsw:swapsWith e (some (.Name x px)) pos.line env=pure false) :
 wpAny (model P.prog P.w) A (exec (.Assign [.Name x px] e pos) env) (PF P r c A env ow sc as fr [i] s m own G res) (λo_ o_=>False) s:=by
 simp only [vW,Qj] at hok;simp only [tj] at hev;refine aa hev λd e1 hev=>?_;split at hev
 case isFalse=>cases hev
 rename_i hc;cases hev;refine wpAny_Assign_Name (SE.us he I.pre hok.1 e1 λv s' k bs rd g1 g2 g3 g4=>?_) hsw;cases ho:ow.contains i with
 | false=>
  rw [ho] at hok;refine dS (Q:=λs'=>PF P r c A env ow sc as fr [i] s m own G (.next,setV m i d) .next s') (I.keeps k) hs hk rd ho (g1 (by simpa [nm] using hok.2)) λh' tk I' S' o_=>⟨rfl,own,G,I',?_⟩
  exact (Stp.kp k [] []).join S' (λo_ q=>nomatch q) λo_ q=>q
 | true=>
  rw [ho] at hok hc;simp only [Ys,Xl] at hc;refine ju (Q:=λs'=>PF P r c A env ow sc as fr [i] s m own G (.next,setV m i d) .next s') [] I k (λo_ q=>nomatch q) (λo_ q=>nomatch q) hs hk rd ho hc (g3 (hok.2) hc) λh' tk own' G' I' S' o_ o_ o_=>⟨rfl,own',G',I',S'⟩
set_option tactic.hygienic true in
theorem v7{x:Str}{i:Nat}{e:PySem.Expr}{e':Ex}{px apos cpos pos:Pos}(hx:x ≠ ("__debug__" : Str))(hl:(apos.endLine == cpos.line)=true)(hst:isStar e=false)(hs:slotOf c.names x=some i)(hk:c.kind x=some .local\/c.kind x=some .cell)(he:P.SE r c e e') :
 SS P r c ow fr N (.Expr (.Call (.Attribute (.Name x px) "append" apos) [e] [] cpos) pos) (.app i e'):=by
 intro A env sc as s m own G res I hok hev;simp only [xm,Qj] at hok;rw [u7] at hev;refine aa hev λcc e1 hev1=>?_;refine aa hev1 λd e2 hev2=>?_;clear hev hev1;cases cc<;>simp only [reduceCtorEq] at hev2
 rename_i xs;split at hev2
 case isFalse=>cases hev2
 rename_i hc;simp only [Qj,bL,QE] at hc;cases hev2;refine YT ?_ (by unfold interactive;rw [I.er.fn];rfl) rfl;refine wpAny_Call_append rfl (by rw [ak hst];rfl) hl (by rw [ak hst];rfl) ?_;refine SE.us (fP hx hk hs) I.pre rfl (d:=.list xs) (by trivial) λv s1 k1 as1 rd1 o_ f1 o_ w1=>?_;have hio:isOw ow (.v i)=true:=hok.1;cases rd1 using Rd.listE with
 | @mk a vs n as' ho hz ra=>
  have ea:a=own i:=w1 hio a (.head _);subst ea;have:as'=[]:=ra.noAddr (f1 hio);subst this;refine ⟨_,vs,rfl,⟨_,n,ho,rfl,rfl,rfl⟩,?_⟩;refine SE.us he (I.keeps k1).pre hok.2 e2 λy s2 k2 bs rd2 o_ o_ o_ o_=>?_;have:bs=[]:=rd2.noAddr hc.1;subst this;have hlen:=ra.length;simp only [QJ] at hlen;refine Xq (l:=own i) (items:=vs) ⟨n,k2.get _ _ ho⟩ (λh' pl sb=>?_) (by rw [hlen];exact QQ hc.2 (by decide));obtain ⟨n',e'⟩:=pl;have fl:an (xs++[d])=true:=by
   have fl:an xs=true:=by exact f1 hio
   have:∀ l:List D,an l=true->noList d=true->an (l++[d])=true:=by
    intro l;induction l with
    | nil=>intro _ h;simp [iX,aQ,h]
    | cons z l ih=>intro h1 h2;rw [aQ,Qj] at h1;rw [ZH,aQ,Qj];exact ⟨h1.1,ih h1.2 h2⟩
   exact this xs fl hc.1
  obtain ⟨I3,S3⟩:=lD (tk:=s2.toks) (I.keeps (k1.trans k2)) hs hk hok.1 (evV (Φ:=P.Φ) (Γ:=P.Γ) (e1)) sb e' (by simp only [Array.size_push];rw [hlen];exact QQ (QT hc.2) (by decide)) (xs':=xs++[d]) (by rw [Array.toList_push];exact (ra.keeps k2.get).append (RdAll.one rd2)) fl;exact ⟨rfl,own,G,I3,(Stp.kp (k1.trans k2) [] []).join S3 (λo_ q=>nomatch q) λo_ q=>q⟩
end
end Mine
set_option tactic.hygienic false
namespace Mine
open PySem
noncomputable def onl(m:St)(j:Nat)(x:D):St:=(m.map λ_=>none).set j (some x)
theorem v8{m:St}{j i:Nat}{x d:D}(hj:j < m.length)(h:(onl m j x)[i]?=some (some d)):i=j/\d=x:=by
 unfold onl at h
 by_cases q:j=i
 ·subst q
  rw [XJ (by rw [lX];exact hj)] at h;exact ⟨rfl,(Qv (Qv h)).symm⟩
 ·rw [List.getElem?_set_ne q,Qy] at h
  cases z:m[i]? with
  | none=>rw [z] at h;cases h
  | some y=>rw [z] at h;cases h
theorem EnvR.only{H:D->Int}{c:TC}{env:Env}{ow:List Nat}{own:Nat->Addr}{G:Addr->Prop}{h:Heap}{m:St}(R:EnvR H c env ow own G h m){j:Nat}{x:D}(hj:ow.contains j=false)(hm:m[j]?=some (some x)) :
 EnvR H c env [] own (λa=>(G a/\∃ v as,Rd H h v x as/\a ∈ as)\/h.get? a=none) h (onl m j x):=
 ⟨R.fn,R.gl,R.bu,R.kd,((List.length_set ..).trans (YG _)).trans R.len,(λi q=>nomatch q),R.cel,λy i d hy hmi hky=>by
  have e:=v8 (Qq hm).1 hmi;rw [e.1] at hy;rw [e.2];exact (R.var y j x hy hm hky).imp λv q=>q.imp λas q=>⟨q.1,q.2.1,(λz=>nomatch z),λ_ a ha=>.inl ⟨q.2.2.2 hj a ha,v,as,q.2.1,ha⟩⟩⟩
structure Tld(xd d d':D)(p q:D)(ys:List D):Prop where
 e1:d = .tuple [p,q,.list ys]
 e2:d' = .tuple [p,q,.list (ys++[.int 1])]
 hp:noList p=true
 hq:noList q=true
 hy:an ys=true
 hi:hdI ys=true
 hz:ys.length<=2 ^ 20
 xs:∃ u l,xd = .list (.tuple u::l)/\an (.tuple u::l)=true
theorem jv{xd d d':D}(h:tapD xd d=some d'):∃ p q ys,Tld xd d d' p q ys:=by
 refine aa h λxs e1 h=>?_;refine aa h λa e2 h=>?_;refine aa h λu e3 h=>?_;refine aa h λl e4 h=>?_;refine aa h λb e5 h=>?_;refine aa h λf e6 h=>?_;refine aa h λg e7 h=>?_;refine aa h λys e8 h=>?_;have w:=ay h;have c:=w.1;rw [Qj,Qj,Qj,Qj,Qj,Qj] at c;have ex:xs = .tuple u::a.2:=by rw [bq e2,cv e3]
 refine ⟨b.1,f.1,ys,⟨?_,(Qv w.2).symm,c.1.1.1.1.1.2,c.1.1.1.1.2,c.1.1.1.2,c.1.1.2,Qp c.2,u,a.2,?_,ex ▸ c.1.1.1.1.1.1⟩⟩
 ·rw [cv e4,bq e5,bq e6,bq e7,cu e8,Q1.mp c.1.2]
 ·rw [cu e1,ex]
section
variable {H:D->Int}{h:Heap}
structure TldAt(H:D->Int)(h:Heap)(v:Value)(p q:D)(ys:List D)(bs:List Addr)(ta:Addr)(vs:Array Value)(n:Nat)(v0 v1:Value)(a:Addr)(us:Array Value)(k:Nat):Prop where
 v:v = .ref ta
 ht:h.get? ta=some (tupObj vs n)
 hz:vs.size<=sizeLine
 vs:vs.toList=[v0,v1,.ref a]
 r0:Rd H h v0 p []
 r1:Rd H h v1 q []
 hl:h.get? a=some (listObj us k)
 hu:us.size<=sizeLine
 ra:RdAll H h us.toList ys []
 bs:bs=[a]
theorem Rd.told{v:Value}{p q:D}{ys:List D}{bs:List Addr}(rd:Rd H h v (.tuple [p,q,.list ys]) bs)(hp:noList p=true)(hq:noList q=true)(hy:an ys=true):∃ ta vs n v0 v1 a us k,TldAt H h v p q ys bs ta vs n v0 v1 a us k:=by
 cases rd using Rd.tupleE with
 | @mk ta vs n as h1 h2 h3=>
  refine h3.c_el λv0 l0 a0 b0 e0 f0 r0 h3=>h3.c_el λv1 l1 a1 b1 e1 f1 r1 h3=>h3.c_el λv2 l2 a2 b2 e2 f2 r2 h3=>?_;have z0:=r0.noAddr hp;have z1:=r1.noAddr hq;rw [z0] at r0;rw [z1] at r1;cases r2 using Rd.listE with
  | @mk a us k as2 h4 h5 h6=>
   have z2:=h6.noAddr hy;exact ⟨ta,vs,n,v0,v1,a,us,k,rfl,h1,h2,e0.trans (Qf _ (e1.trans (Qf _ (e2.trans (Qf _ h3.n_el.1))))),r0,r1,h4,h5,z2 ▸ h6,by rw [f0,z0,f1,z1,f2,h3.n_el.2,z2];rfl⟩
theorem ua{w:Value}{y:D}{u:List D}{as bs:List Addr}(h1:Rd H h w (.tuple u) as)(h2:Rd H h w y bs)(hy:(int1 y).isSome=true):False:=by
 refine (Y9.mp hy).elim λi e=>?_;rw [bD e] at h2;cases h1 using Rd.tupleE with
 | mk=>exact h2.intE'.elim λt e=>nomatch e
theorem v9{L:List Value}{u:List D}{l ys:List D}{as bs:List Addr}(h1:RdAll H h L (.tuple u::l) as)(h2:RdAll H h L ys bs)(hi:hdI ys=true):False:=
 h1.c_el λv0 l0 a0 b0 e0 f0 r0 h3=>by
  cases ys with
  | nil=>exact nomatch h2.n_el.1.symm.trans e0
  | cons y ys=>exact h2.c_el λv1 l1 a1 b1 e1 f1 r1 h4=>ua (List.cons.inj (e0.symm.trans e1) |>.1 ▸ r0) r1 hi
theorem ub{h0:Heap}{v v':Value}{xd d d' p q:D}{ys:List D}{as bs:List Addr}{b:Addr}(T:Tld xd d d' p q ys)(r0:Rd H h0 v' xd as)(hk:∀ b o,h0.get? b=some o->h.get? b=some o)(rd:Rd H h v d bs)(hb:b ∈ bs):b ∉ as:=by
 intro ha;refine byG λX_ g_=>?_;obtain ⟨u,l,e,hx⟩:=T.xs;rw [e] at r0;rw [T.e1] at rd;obtain ⟨ta,vs,n,v0,v1,a,us,k,Z⟩:=rd.told T.hp T.hq T.hy;refine g_ ?_;rw [Z.bs] at hb;cases r0 using Rd.listE with
 | @mk a' vs' n' as' h1 h2 h3=>
  have:=h3.noAddr hx;subst this;have e1:=Qx ha;have e2:=Qx hb;rw [<- e1,e2] at h1;have e3:=(hk _ _ h1).symm.trans Z.hl;have e4:vs'=us:=(Data.seq.inj (Qf Obj.data (Qv e3))).1;subst e4;exact v9 (h3.keeps hk) Z.ra T.hi
theorem wa{h':Heap}{v y:Value}{p q:D}{ys:List D}{bs:List Addr}{ta a:Addr}{vs us:Array Value}{n k n':Nat}{v0 v1:Value}(Z:TldAt H h v p q ys bs ta vs n v0 v1 a us k)(sb:Heap.SameBut a h h')(e:h'.get? a=some (listObj (us.push y) n'))(hy:Rd H h y (.int 1) [])(hz:us.size+1<=sizeLine):Rd H h' v (.tuple [p,q,.list (ys++[.int 1])]) [a]:=by
 have nt:∀ b o,b=a->h.get? b=some o->∀ vs n,o ≠ tupObj vs n:=λb o hb e' vs n q=>by
  rw [hb,Z.hl] at e';exact absurd (Qf Obj.cls ((Qv e').trans q)) (by show ¬ (Value.type "list" = Value.type "tuple");decide)
 have up:∀ {w:Value} {dd:D},Rd H h w dd []->Rd H h' w dd []:=λr=>r.but (λb=>b=a) (λb o hb e=>sb.extBut b o hb e) nt λa q=>nomatch q;have hta:ta ≠ a:=λq=>nt ta _ q Z.ht _ _ rfl;rw [Z.v];refine .tuple (sb.extBut _ _ hta Z.ht) Z.hz ?_;rw [Z.vs];refine .cons (as:=[]) (up Z.r0) (.cons (as:=[]) (up Z.r1) (.cons (as:=[a]) (bs:=[]) (.list e (by rw [Array.size_push];exact hz) ?_) .nil));rw [Array.toList_push];exact RdAll.append (as:=[]) (bs:=[]) (Z.ra.but (λb=>b=a) (λb o hb e=>sb.extBut b o hb e) nt λa q=>nomatch q) (RdAll.one (up hy))
end
section
variable {P:Pk}{r:Nat}{c:TC}{ow:List Nat}{fr:Bool}{N:Nat}
theorem VarAt.but{env:Env}{h h':Heap}{x:Str}{v:Value}{a:Addr}(q:VarAt env h x v)(sb:Heap.SameBut a h h')(h1:a ≠ env.locals)(h2:∀ y,env.cells.lookup y ≠ some a):VarAt env h' x v:=
 q.imp (λ⟨e,mm,b,c⟩=>⟨e,mm,b.at' λo e=>sb.extBut _ o (Ne.symm h1) e,c⟩) λ⟨e,cc,b,c⟩=>⟨e,cc,b,c.sameBut sb λz=>h2 x (z ▸ b)⟩
theorem uc{A:Around}{env:Env}{s:Shared}{x:Str}{pos:Pos}{v:Value}{Q:Value->Shared->Prop}{E:Value->Shared->Prop}(hx:x ≠ ("__debug__" : Str))(hf:env.scope.kind = .function)(hv:VarAt env s.heap x v)(h:Q v s):wpAny (model P.prog P.w) A (eval (.Name x pos) env) Q E s:=by
 refine wpAny_Name ?_ (by simpa using hx);rcases hv with ⟨hl,mm,hn,hv⟩ | ⟨hl,cc,hc,hv⟩
 ·exact wpAny_loadName_local hf hl hn hv h
 ·exact wpAny_loadName_cell hf hl hc hv h
theorem wb{A:Around}{env:Env}{sc:Shared}{as:List Addr}{s:Shared}{m:St}{own:Nat->Addr}{G:Addr->Prop}{x:Str}{i:Nat}{v:Value}{xd d d' p q:D}{ys:List D}{bs:List Addr}{px pp apos cpos p3:Pos}{ix a1:PySem.Expr}{Q:Flow->Shared->Prop}
 (hx:x ≠ ("__debug__" : Str)) (hs:slotOf c.names x=some i) (hi:P.SE r c ix (.k (.int 2))) (hsl:cU ix=false) (ha:P.SE r c a1 (.k (.int 1))) (hst:isStar a1=false) (hl:(apos.endLine == cpos.line)=true) (hoi:ow.contains i=false)
 (I:Inv P r c A env ow sc as s (m.set i none) own (λa=>G a/\a ∉ bs)) (T:Tld xd d d' p q ys) (rd:Rd P.H s.heap v d bs) (hv:VarAt env s.heap x v) (hn:∀ a ∈ bs,sc.heap.get? a=none/\a ≠ env.locals/\(∀ y,env.cells.lookup y ≠ some a)/\∀ j dd,ow.contains j=true->(m.set i none)[j]?=some (some dd)->noList dd=false->own j ≠ a)
 (h:∀ s',Inv P r c A env ow sc as s' (setV m i d') own (λa=>(G a/\a ∉ bs)\/a ∈ bs)->(∀ b,s'.heap.get? b=none->s.heap.get? b=none)->(∀ b o,b ∉ bs->s.heap.get? b=some o->s'.heap.get? b=some o)->Q .next s') :
 wpAny (model P.prog P.w) A (exec (.Expr (.Call (.Attribute (.Subscript (.Name x px) ix pp) "append" apos) [a1] [] cpos) p3) env) Q (λ_ _=>False) s:=by
 rw [T.e1] at rd;refine YT ?_ (by unfold interactive;rw [I.er.fn];rfl) rfl;refine wpAny_Call_append rfl (by rw [ak hst];rfl) hl (by rw [ak hst];rfl) ?_;refine Xj (uc hx I.er.fn hv ?_);refine SE.us hi I.pre rfl rfl λy s1 k1 cs ry _ _ _ _=>?_;have rd1:=rd.keeps k1.get;refine byG λX_ g_=>?_;obtain ⟨ta,vs,n,v0,v1,a,us,k,Z⟩:=rd1.told T.hp T.hq T.hy;obtain ⟨T',id,hT,hlk⟩:=fg rd1 (show item (.tuple [p,q,.list ys]) (.int 2)=some (.list ys) from rfl);refine g_ ?_;refine Yo hT hlk (getI rd1 ry rfl λv2 tk cs2 rd2 hc=>?_) (fh hsl v y);have hmem:a ∈ bs:=Z.bs ▸ .head _;have N:=hn a hmem;cases rd2 using Rd.listE with
 | @mk a2 us2 n2 as2 h1 h2 h3=>
  have ea:a2=a:=Qx (Z.bs ▸ (hc a2 (.head _):a2 ∈ bs));subst ea;have k2:Kp s { s1 with toks:=tk }:=k1.trans (Kp.toks s1 tk);refine ⟨_,us2,rfl,⟨_,n2,h1,rfl,rfl,rfl⟩,?_⟩;refine SE.us ha (I.keeps k2).pre rfl rfl λw s3 k3 cs3 rd3 _ _ _ _=>?_;have:cs3=[]:=rd3.noAddr rfl;subst this;have e4:us2=us:=(Data.seq.inj (Qf Obj.data (Qv (h1.symm.trans Z.hl)))).1;subst e4;have hsz:us2.size<=2 ^ 20:=by rw [<- QJ,Z.ra.length];exact T.hz
  have k4:Kp s s3:=k2.trans k3;refine Xq (l:=a2) (items:=us2) ⟨n2,k3.get _ _ h1⟩ (λh' pl sb=>?_) (QQ hsz (by decide));obtain ⟨n',e'⟩:=pl;have I3:=(I.keeps k4).walk (h':=h') (tk:=s3.toks) bs (λb o hb e=>sb.extBut b o (λq=>hb (q ▸ hmem)) e) (λb hb=>(hn b hb).1) (λb hb=>⟨(hn b hb).2.1,(hn b hb).2.2.1⟩) (λb hb o e vs n q=>by
   rw [Z.bs] at hb;rw [Qx hb,k3.get _ _ h1] at e;exact absurd (Qf Obj.cls ((Qv e).trans q)) (by show ¬ (Value.type "list" = Value.type "tuple");decide)) λb hb=>.inl ⟨λq=>q.2 hb,(hn b hb).2.2.2⟩
  have Z3:TldAt P.H s3.heap v p q ys bs ta vs n v0 v1 a2 us2 n2:=⟨Z.v,k3.get _ _ Z.ht,Z.hz,Z.vs,Z.r0.keeps k3.get,Z.r1.keeps k3.get,k3.get _ _ h1,Z.hu,Z.ra.keeps k3.get,Z.bs⟩
  have hv3:=(hv.keeps k4.get).but sb N.2.1 N.2.2.1;have rd4:=wa Z3 sb e' rd3 (QQ (QT hsz) (by decide));have w:=I3.sto (x:=x) (v:=v) (o:=some d') (own':=own) hs (λdd e=>⟨[a2],(Qv e).symm ▸ T.e2 ▸ ⟨rd4,λq=>absurd q (hoi ▸ Qr),λ_ b hb=>.inr (Z.bs ▸ hb),λq=>absurd q (hoi ▸ Qr),λq=>absurd q (hoi ▸ Qr),λq=>absurd q (hoi ▸ Qr)⟩⟩) (λ_ _=>rfl) (h':=h') (tk:=s3.toks) (z:=env.locals) (.inl rfl) ⟨rfl,λ_ _=>rfl⟩ (I3.ns.elim λmm q=>q.elim λo q=>q.elim λ_ q=>q.elim λ_ q=>⟨o,q.1⟩) (I3.ns.elim λmm q=>bG q) hv3 (λ_ _ _ q=>q) I3.ns I3.cl;have w1:=w.1;rw [List.set_set] at w1;refine h _ w1 (λb e=>k4.none ?_) λb o hb e=>sb.extBut b o (λq=>hb (q ▸ hmem)) (k4.get b o e)
  by_cases q:b=a2
  ·rw [q,e'] at e;cases e
  ·rw [<- sb.2 b q];exact e
theorem gR{a b:Bool}{X:Prop}(h:(a&&b)=true)(k:a=true->b=true->X):X:=k (Qz h).1 (Qz h).2
theorem wc{a:Bool}(h:(!a)=true):a=false:=QS a ▸ h
noncomputable def aftS(f:St->Option (Fl × St))(q:Fl × St):Option (Fl × St):=match q.1 with
 | .next=>f q.2
 | .ret d=>some (.ret d,q.2)
theorem xt{Φ:Str->List D->Option D}{Γ:Str->Option D}{s:Sm}{rs:Sms}{m:St}{res:Fl × St}{X:Prop}(h:exSs Φ Γ ow fr N (.cons s rs) m=some res)(k:∀ r1,exS Φ Γ ow fr N s m=some r1->aftS (exSs Φ Γ ow fr N rs) r1=some res->X):X:=by
 rw [hZ] at h;cases q:exS Φ Γ ow fr N s m with
 | none=>rw [q] at h;cases h
 | some r1=>
  rw [q] at h;refine k r1 q ?_;obtain ⟨fl,m1⟩:=r1;cases fl with
  | next=>exact h
  | ret d=>exact h
theorem PF.go{A:Around}{env:Env}{sc:Shared}{as:List Addr}{t t2:List Nat}{s s1:Shared}{m m0:St}{own own1:Nat->Addr}{G G1:Addr->Prop}{r1 res:Fl × St}{f:Flow}{rest:List PySem.Stmt}{rest':Sms}(hr:SSs P r c ow fr N rest rest')(okr:okSs ow rest'=true)(hres:aftS (exSs P.Φ P.Γ ow fr N rest') r1=some res){s2:Shared}
 (S:Stp env ow t [] s m own G s1 m0 own1 G1) (h:PF P r c A env ow sc as fr t2 s1 m0 own1 G1 r1 f s2) (h1:∀ i ∈ t2,i ∈ t) (h2:∀ i ∈ tchSs rest',i ∈ t) :
 match (generalizing:=false) f with
 | .next=>wpAny (model P.prog P.w) A (execs rest env) (PF P r c A env ow sc as fr t s m own G res) (λ_ _=>False) s2
 | f=>PF P r c A env ow sc as fr t s m own G res f s2:=by
 obtain ⟨fl,m1⟩:=r1;cases fl with
 | next=>
  refine byG λX_ g_=>?_;obtain ⟨e,own7,G7,I7,S7⟩:=h;refine g_ ?_;rw [e];exact Qs (hr A env sc as s2 m1 own7 G7 res I7 okr hres) (λf s8 h8=>h8.after (S.join S7 (λ_ q=>q) h1) (λ_ q=>q) h2) λ_ _ z=>z
 | ret d=>exact h.elim λv' w=>by rw [w.1,<- Qv hres];exact ⟨v',rfl,w.2⟩
theorem wd{Φ:Str->List D->Option D}{Γ:Str->Option D}{i j:Nat}{g:Str}{c1 c2:Ex}{t1 b:Sms}{m:St}{r1:Fl × St}{X:Prop}(h:exS Φ Γ ow fr N (.tap i j g c1 t1 c2 b) m=some r1)
 (k:∀ xd d y b1,m[j]?=some (some xd)->Φ g [xd]=some d->evE Φ Γ c1 (setV m i d)=some y->truth y=some b1->(b1=true->exSs Φ Γ ow fr N t1 (setV m i d)=some r1/\retV r1=some r1) ->
  (b1=false->∃ z b2,evE Φ Γ c2 (setV m i d)=some z/\truth z=some b2/\(b2=false->r1=(.next,setV m i d))/\(b2=true->∃ d',tapD xd d=some d'/\exSs Φ Γ ow fr N b (setV m i d')=some r1))->X):X:=by
 rw [tl] at h;refine aa h λxd e0 h=>aa h λd e1 h=>aa h λy e2 h=>aa h λb1 e3 h=>?_;refine k xd d y b1 (evV (Φ:=Φ) (Γ:=Γ) e0) e1 e2 e3 (λq=>?_) λq=>?_
 ·rw [Ql q] at h
  refine aa h λrr e4 h=>?_;obtain ⟨fl,m'⟩:=rr;cases fl with
  | next=>cases h
  | ret d=>rw [<- Qv h];exact ⟨e4,rfl⟩
 ·rw [Qu (q ▸ Qr)] at h
  refine aa h λz e4 h=>aa h λb2 e5 h=>⟨z,b2,e4,e5,λq=>?_,λq=>?_⟩
  ·rw [Qu (q ▸ Qr)] at h;exact (Qv h).symm
  ·rw [Ql q] at h
   exact aa h λd' e6 h=>⟨d',e6,h⟩
theorem ud{x g:Str}{i j:Nat}{fr':Bool}{value t1 t2 ix a1:PySem.Expr}{px pos p1 p2 p3 px2 pp apos cpos:Pos}{b1 b2 rest:List PySem.Stmt}{c1 c2:Ex}{u1 u2 rest':Sms}
 (hx:x ≠ ("__debug__" : Str)) (hs:slotOf c.names x=some i) (hk:c.kind x=some .local\/c.kind x=some .cell) (hv:P.SE r c value (.call fr' g (.cons (.v j) .nil))) (hsw:∀ env:Env,swapsWith value (some (.Name x px)) pos.line env=pure false)
 (h1:P.ST r c t1 c1) (hb1:SSs P r c ow fr N b1 u1) (h2:P.ST r c t2 c2) (hi:P.SE r c ix (.k (.int 2))) (hsl:cU ix=false) (ha:P.SE r c a1 (.k (.int 1))) (hst:isStar a1=false) (hl:(apos.endLine == cpos.line)=true)
 (hb2:SSs P r c ow fr N b2 u2) (hr:SSs P r c ow fr N rest rest') :
 SSs P r c ow fr N (.Assign [.Name x px] value pos::.If t1 b1 [] p1::.If t2 (.Expr (.Call (.Attribute (.Subscript (.Name x px2) ix pp) "append" apos) [a1] [] cpos) p3::b2) [] p2::rest) (.cons (.tap i j g c1 u1 c2 u2) rest'):=by
 intro A env sc as s m own G res I hok hev;refine gR hok λhok okr=>gR hok λhok okb=>gR hok λhok ok2=>gR hok λhok okt=>gR hok λhok ok1=>gR hok λoi oj=>?_;refine xt hev λr1 q hres=>?_;refine wd q λxd d y bb1 hm e1 e2 e3 qt qe=>?_;clear hok hev q;have oi:=wc oi;refine Yp (wpAny_Assign_Name ?_ (hsw env));refine SE.us (m:=onl m j xd) (ow:=[]) (own:=own) hv ⟨I.room,I.pre.gp,I.er.only (wc oj) hm,λa e=>.inr e⟩ (by cases fr'<;>rfl) (d:=d) ?_ λv s1 k1 bs rd g1 _ _ _=>?_
 ·show ((((onl m j xd)[j]?).bind λx=>x).bind λx=>some [x]).bind (P.Φ g)=_
  rw [show (onl m j xd)[j]?=some (some xd) from XJ (by rw [lX];exact (Qq hm).1)];exact e1
 have gs:=g1 rfl;clear g1 e1 hm;have gG:∀ a ∈ bs,G a:=λa q=>(gs a q).elim (λz=>z.1) (I.new a);have hX:∃ X:List Addr,(∀ a ∈ X,s.heap.get? a=none)/\(∀ a ∈ X,∃ o,s1.heap.get? a=some o)/\∀ d',tapD xd d=some d'->X=bs:=by
  cases z:tapD xd d with
  | none=>exact ⟨[],(λ_ q=>nomatch q),(λ_ q=>nomatch q),λ_ q=>nomatch q⟩
  | some d'=>exact (jv z).elim λp q=>q.elim λq w=>w.elim λys T=>⟨bs,λa ha=>(gs a ha).elim (λw=>w.2.elim λv' w=>w.elim λas' w=>absurd w.2 (ub T w.1 k1.get rd ha)) id,λa ha=>(rd.old a ha).imp λo w=>w.1,λ_ _=>rfl⟩
 clear gs;refine hX.elim λX hX=>?_;refine jt (Q:=λs2=>wpAny (model P.prog P.w) A (execs (.If t1 b1 [] p1::.If t2 (.Expr (.Call (.Attribute (.Subscript (.Name x px2) ix pp) "append" apos) [a1] [] cpos) p3::b2) [] p2::rest) env) (PF P r c A env ow sc as fr (tchSs (.cons (.tap i j g c1 u1 c2 u2) rest')) s m own G res) (λ_ _=>False) s2) (I.keeps k1) hk λh' tk z hz hsb hzo hzt hvx hvo hns hcl=>?_;have no:∀ {p:Prop},ow.contains i=true->p:=λq=>absurd q (oi ▸ Qr);have W1:=(I.keeps k1).sto (o:=some d) (own':=own) hs (λdd e=>⟨bs,(Qv e) ▸ ⟨rd,no,λ_=>gG,no,no,no⟩⟩) (λ_ _=>rfl) (tk:=tk) hz hsb hzo hzt hvx hvo hns hcl;have W2:=((I.minus k1 X hX.1 hX.2.1).sto (o:=none) (v:=v) (own':=own) hs (λ_ e=>nomatch e) (λ_ _=>rfl) (tk:=tk) hz hsb hzo hzt hvx hvo hns hcl).1;have rd1:Rd P.H h' v d bs:=W1.2.2.2 rd λa ha=>⟨λe=>I.gL (e ▸ gG a ha),λy e=>I.gC y a e (gG a ha)⟩
 clear gG rd hz hsb hzo hzt hvo hns hcl;have tin:∀ k:Nat,(k ∈ [i]\/k ∈ tchSs u2->k ∈ tchSs (.cons (.tap i j g c1 u1 c2 u2) rest'))/\(k ∈ tchSs rest'->k ∈ tchSs (.cons (.tap i j g c1 u1 c2 u2) rest')):=λk=>⟨λq=>Q6 _ (YF.mpr q),λq=>Zy _ q⟩
 have S0:∀ (s':Shared) (dd:D) (G':Addr->Prop),(∀ b,s'.heap.get? b=none->h'.get? b=none)->(∀ b o,s.heap.get? b=some o->h'.get? b=some o->s'.heap.get? b=some o)->(∀ a o,s.heap.get? a=some o->G a->G' a)->Stp env ow (tchSs (.cons (.tap i j g c1 u1 c2 u2) rest')) [] s m own G s' (setV m i dd) own G':=λs' dd G' a1 a2 a3=>
  ⟨λb e=>k1.none (W1.2.1 b (a1 b e)),λb o _ e h1 h2 _=>a2 b o e (W1.2.2.1 b o (k1.get b o e) h1 h2),a3,λk dk hk hmk hnl=>.inl ⟨rfl,dk,(aK (d:=dd) (m:=m) (i:=i) (j:=k) λe=>no (e ▸ hk)).symm.trans hmk,hnl⟩,λk hk=>⟨rfl,aK λe=>hk ((tin k).1 (.inl (e ▸ .head _)))⟩⟩
 refine Yp (wpAny_If (ST.use h1 W1.1.pre ok1 e2 e3 λs3 k3=>?_));cases bb1 with
 | true=>
  refine Qs (hb1 A env sc as s3 (setV m i d) own G r1 (W1.1.keeps k3) okt (qt rfl).1) (λf s4 h4=>?_) λ_ _ z=>z;obtain ⟨fl,m1⟩:=r1;cases fl with
  | next=>exact nomatch (qt rfl).2
  | ret dd=>exact h4.elim λv' w=>by rw [w.1,<- Qv hres];exact ⟨v',rfl,w.2⟩
 | false=>
  refine YC ?_;refine (qe rfl).elim λy2 w=>w.elim λbb2 w=>?_;refine Yp (wpAny_If (ST.use h2 (W1.1.keeps k3).pre ok2 w.1 w.2.1 λs4 k4=>?_));have k5:Kp { s1 with heap:=h',toks:=tk } s4:=k3.trans k4;cases bb2 with
  | false=>
   rw [w.2.2.1 rfl] at hres;refine YC ?_;exact Qs (hr A env sc as s4 (setV m i d) own G res (W1.1.keeps k5) okr hres) (λf s5 h5=>h5.after (S0 s4 d G (λb e=>k5.none e) (λb o _ e=>k5.get b o e) λ_ _ _ g=>g) (λ_ q=>q) λk=>(tin k).2) λ_ _ z=>z
  | true=>
   refine (w.2.2.2 rfl).elim λd' w6=>?_;have eX:=hX.2.2 d' w6.1;refine (jv w6.1).elim λp w=>w.elim λq' w=>w.elim λys T=>?_;rw [<- eX] at rd1;refine Yp (wb hx hs hi hsl ha hst hl oi (W2.keeps k5) T (rd1.keeps k5.get) (VarAt.keeps hvx k5.get) (λa hm'=>?_) λs6 I6 live6 keep6=>?_)
   ·have w:=I.new_ne (hX.1 a hm')
    exact ⟨w.1,w.2.1,w.2.2.1,λk dd hk hmk=>w.2.2.2 k dd hk ((bU (o:=none) (m:=m) (i:=i) (j:=k) λe=>no (e ▸ hk)).symm.trans hmk)⟩
   ·refine Qs (hb2 A env sc as s6 (setV m i d') own _ r1 I6 okb w6.2) (λf s7 h7=>?_) λ_ _ z=>z
    have gone:∀ {b:Addr} {o:Obj},s.heap.get? b=some o->b ∉ X:=λe hb=>nomatch (hX.1 _ hb).symm.trans e;exact h7.go hr okr hres (S0 s6 d' _ (λb e=>k5.none (live6 b e)) (λb o e e'=>keep6 b o (gone e) (k5.get b o e')) λa o e g=>.inl ⟨g,gone e⟩) (λk q=>(tin k).1 (.inr q)) λk=>(tin k).2
end
end Mine
set_option tactic.hygienic false
namespace Mine
open PySem
section
variable {prog:Program}{w:World}{A:Around}{E:Value->Shared->Prop}{s:Shared}{env:Env}
theorem gT{o:PySem.Expr}{nm:Str}{id:String}{apos pos:Pos}{Q:Value->Shared->Prop}(slot:Slot "list" nm id)(hty:typeOf (.builtin id)=pure (.type "method_descriptor"))
 (hbase:attributeBase o nm env (eval o env)=eval o env) (hline:(apos.endLine == pos.line)=true)
 (h:wpAny (model prog w) A (eval o env) (λov s₁=>∃ D vs n,ov = .ref D/\s₁.heap.get? D=some (listObj vs n)/\wpAny (model prog w) A (callWith pos (.builtin id) [.ref D] [] []) Q E s₁) E s) :
 wpAny (model prog w) A (eval (.Call (.Attribute o nm apos) [] [] pos) env) Q E s:=by
 rw [arm_eval_Call,hbase];refine Qd (Qs h (λov s₁ h₁=>?_) λo_ o_ e=>e);obtain ⟨D,vs,n,rfl,ho,hcall⟩:=h₁;refine Qd (Yy ?_);have hform:methodCallForm (([]:List PySem.Expr).length+([]:List Keyword).length) (backTo pos (starEach [] env)) (backToKw pos (keywordEach [] env))=true:=rfl;have hpos:methodCallPos true o env apos pos=pure pos:=by unfold methodCallPos;simp [hline]
 unfold methodCall;rw [hform];refine Qd (Zl (PyProof.Rows.getMethod_list_of slot hty (items:=vs) ⟨_,ho,rfl,_,rfl⟩ ?_ ?_))
 ·exact ⟨_,ho,rfl⟩
 ·exact Qd (wpAny_of_eq hpos hcall)
end
section
variable {P:Pk}{r:Nat}{c:TC}{ow:List Nat}{fr:Bool}{N:Nat}
theorem cM:∀ (l:List D),an l=true->an l.dropLast=true
 | [],_=>rfl
 | [x],_=>rfl
 | x::y::l,h=>by
  rw [aQ,Qj] at h;show an (x::(y::l).dropLast)=true;rw [aQ,Qj];exact ⟨h.1,cM (y::l) h.2⟩
theorem dT:∀ (l m:List D),an l=true->an m=true->an (l++m)=true:=by
 intro l;induction l with
 | nil=>
  intro _ _ h;exact h
 | cons x l dT=>
  intro m h k;rw [aQ,Qj] at h;show an (x::(l++m))=true;rw [aQ,Qj];exact ⟨h.1,dT m h.2 k⟩
theorem kx(l:List D)(h:an l=true):an l.reverse=true:=by
 induction l with
 | nil=>rfl
 | cons x l ih=>
  rw [aQ,Qj] at h;rw [Z2];exact dT _ _ (ih h.2) (by simp [iX,aQ,h.1])
theorem f9:∀ (l:List D) (k:Nat) (d:D),an l=true->noList d=true->an (l.set k d)=true
 | [],_,_,_,_=>by rfl
 | x::l,0,d,h,hd=>by
  rw [aQ,Qj] at h;simp [aQ,h.2,hd]
 | x::l,k+1,d,h,hd=>by
  rw [aQ,Qj] at h;simp [aQ,h.1,f9 l k d h.2 hd]
theorem lE{α:Type}:∀ (l:List α),l.eraseIdx (l.length - 1)=l.dropLast
 | []=>rfl
 | [x]=>rfl
 | x::y::l=>by
  show x::(y::l).eraseIdx l.length=x::(y::l).dropLast;exact Qf _ (lE (y::l))
set_option tactic.hygienic true in
theorem gU(vs:Array Value):(vs.eraseIdxIfInBounds (vs.size - 1)).toList=vs.toList.dropLast:=by
 unfold Array.eraseIdxIfInBounds;split
 ·rw [Array.toList_eraseIdx,<- QJ,lE]
 ·rename_i h
  have:vs = #[]:=by
   apply Array.eq_empty_of_size_eq_zero;exact Nat.eq_zero_of_not_pos λz=>h (Nat.sub_lt z Nat.one_pos)
  subst this;rfl
set_option tactic.hygienic true in
theorem we{x:Str}{i:Nat}{px apos cpos pos:Pos}(hx:x ≠ ("__debug__" : Str))(hl:(apos.endLine == cpos.line)=true)(hs:slotOf c.names x=some i)(hk:c.kind x=some .local\/c.kind x=some .cell) :
 SS P r c ow fr N (.Expr (.Call (.Attribute (.Name x px) "pop" apos) [] [] cpos) pos) (.pop i):=by
 intro A env sc as s m own G res I hok hev;simp only [xn] at hok;rw [u8] at hev;refine aa hev λcc e1 hev1=>?_;clear hev;cases cc<;>first | (cases hev1;done) | skip
 rename_i xs;replace hev1:(if xs.isEmpty then none else some (Fl.next,setV m i (.list xs.dropLast)))=some res:=hev1;split at hev1
 case isTrue=>cases hev1
 rename_i hne;cases hev1;refine YT ?_ (by unfold interactive;rw [I.er.fn];rfl) rfl;refine gT F.slot_list_pop F.type_list_pop rfl hl ?_;refine SE.us (fP hx hk hs) I.pre rfl (d:=.list xs) (by trivial) λv s1 k1 as1 rd1 o_ f1 o_ w1=>?_;have hio:isOw ow (.v i)=true:=hok;cases rd1 using Rd.listE with
 | @mk a vs n as' ho hz ra=>
  have ea:a=own i:=w1 hio a (.head _);subst ea;have:as'=[]:=ra.noAddr (f1 hio);subst this;have hlen:=ra.length;simp only [QJ] at hlen;have hpos:0 < vs.size:=by
   rw [hlen];cases xs with
   | nil=>simp at hne
   | cons=>simp
  refine ⟨_,vs,n,rfl,ho,?_⟩;obtain ⟨y,hy⟩:∃ y,vs[vs.size - 1]?=some y:=⟨vs[vs.size - 1],Yc _⟩
  refine PySem.P.pop_list (n:=n) ho hy ?_ hz;obtain ⟨bs,ra2,hb⟩:=ra.dropLast;have:bs=[]:=List.eq_nil_iff_forall_not_mem.mpr λa q=>(nomatch hb a q)
  subst this;have hz2:(vs.eraseIdxIfInBounds (vs.size - 1)).size<=sizeLine:=by
   have:=Qf List.length (gU vs);simp only [QJ,List.length_dropLast] at this;exact QQ (Zd this) (QQ (XZ _ _) hz)
  have ra3:RdAll P.H s1.heap (vs.eraseIdxIfInBounds (vs.size - 1)).toList xs.dropLast []:=by rw [gU];exact ra2
  obtain ⟨I3,S3⟩:=lD (tk:=s1.toks) (I.keeps k1) hs hk hok (evV (Φ:=P.Φ) (Γ:=P.Γ) (e1)) (Heap.SameBut.update _ _ _) (IsL.update ho (λys=>ys.eraseIdxIfInBounds (vs.size - 1))) (xs':=xs.dropLast) hz2 ra3 (cM xs (f1 hio));exact ⟨rfl,own,G,I3,(Stp.kp k1 [] []).join S3 (λo_ q=>nomatch q) λo_ q=>q⟩
set_option tactic.hygienic true in
theorem wg{x:Str}{i:Nat}{px apos cpos pos:Pos}(hx:x ≠ ("__debug__" : Str))(hl:(apos.endLine == cpos.line)=true)(hs:slotOf c.names x=some i)(hk:c.kind x=some .local\/c.kind x=some .cell) :
 SS P r c ow fr N (.Expr (.Call (.Attribute (.Name x px) "reverse" apos) [] [] cpos) pos) (.rev i):=by
 intro A env sc as s m own G res I hok hev;replace hok:ow.contains i=true:=hok;rw [u9] at hev;refine aa hev λcc e1 hev1=>?_;clear hev;cases cc<;>first | (cases hev1;done) | skip
 rename_i xs;cases hev1;have hm:m[i]?=some (some (.list xs)):=evV (Φ:=P.Φ) (Γ:=P.Γ) (by rw [x_v];exact e1);refine YT ?_ (by unfold interactive;rw [I.er.fn];rfl) rfl;refine gT F.slot_list_reverse F.type_list_reverse rfl hl ?_;refine SE.us (fP hx hk hs) I.pre rfl (d:=.list xs) (by rw [x_v,hm];rfl) λv s1 k1 as1 rd1 o_ f1 o_ w1=>?_;have hio:isOw ow (.v i)=true:=hok;cases rd1 using Rd.listE with
 | @mk a vs n as' ho hz ra=>
  have ea:a=own i:=w1 hio a (.head _);subst ea;have:as'=[]:=ra.noAddr (f1 hio);subst this;refine ⟨_,vs,n,rfl,ho,?_⟩;refine PySem.P.reverse_list (n:=n) ho ?_ hz;refine byG λX_ g_=>?_;obtain ⟨bs,ra2,hb⟩:=ra.reverse;have:bs=[]:=List.eq_nil_iff_forall_not_mem.mpr λa q=>(nomatch hb a q)
  subst this;have ra3:RdAll P.H s1.heap vs.reverse.toList xs.reverse []:=by rw [Array.toList_reverse];exact ra2
  obtain ⟨I3,S3⟩:=lD (tk:=s1.toks) (I.keeps k1) hs hk hok hm (Heap.SameBut.update _ _ _) (IsL.update ho (λys=>ys.reverse)) (xs':=xs.reverse) (by rw [Array.size_reverse];exact hz) ra3 (kx xs (f1 hio));refine g_ ?_;exact ⟨rfl,own,G,I3,(Stp.kp k1 [] []).join S3 (λo_ q=>nomatch q) λo_ q=>q⟩
set_option tactic.hygienic true in
theorem ue{x:Str}{i:Nat}{ix e:PySem.Expr}{ix' e':Ex}{px pp pos:Pos}(hx:x ≠ ("__debug__" : Str))(hs:slotOf c.names x=some i)(hk:c.kind x=some .local\/c.kind x=some .cell)(hi:P.SE r c ix ix')(he:P.SE r c e e')
 (hsw:∀ env:Env,swapsWith e (some (.Subscript (.Name x px) ix pp)) pos.line env=pure false):SS P r c ow fr N (.Assign [.Subscript (.Name x px) ix pp] e pos) (.seti i ix' e'):=by
 intro A env sc as s m own G res I hok hev;simp only [vX,Qj] at hok;rw [li] at hev;refine aa hev λd e1 hev1=>?_;refine aa hev1 λcc e2 hev2=>?_;refine aa hev2 λkk e3 hev3=>?_;clear hev hev1 hev2;split at hev3
 case isFalse=>cases hev3
 rename_i hnl;have e2':evE P.Φ P.Γ (.v i) m=some cc:=e2;have hm:m[i]?=some (some cc):=evV (Φ:=P.Φ) (Γ:=P.Γ) e2';have hio:isOw ow (.v i)=true:=hok.1.1;refine wpAny_Assign_Subscript ?_ (hsw env);refine SE.us he I.pre hok.2 e1 λv s1 k1 bs rd1 z1 z2 z3 z4=>?_;refine SE.us (fP hx hk hs) (I.keeps k1).pre rfl e2' λov s2 k2 as2 rd2 y1 f2 y2 w2=>?_;refine SE.us hi (I.keeps (k1.trans k2)).pre hok.1.2 e3 λiv s3 k3 cs rd3 x1 x2 x3 x4=>?_;clear e2 e2' e1 e3 z1 z2 z3 z4 y1 y2 x1 x2 x3 x4;cases cc<;>first | (cases hev3;done) | skip
 all_goals (cases kk<;>first | (cases hev3;done) | skip)
 case list.int xs n=>
  simp only at hev3;split at hev3
  case isFalse=>cases hev3
  rename_i hb;cases hev3;have:bs=[]:=rd1.noAddr hnl;subst this;cases rd3 using Rd.intE with
  | mk t=>
   cases rd2 using Rd.listE with
   | @mk a vs n' as' ho hz ra=>
    have ea:a=own i:=w2 hio a (.head _);subst ea;have:as'=[]:=ra.noAddr (f2 hio);subst this;have hlen:=ra.length;simp only [QJ] at hlen;have hzz:(sizeLine:Int) < 2 ^ 62:=by decide
    refine PySem.W.ki_setAt (n:=n') (k3.get _ _ ho) hb.1 (by exact Yw hb.2 (Yw (QH (QB.mpr (hlen ▸ hz)) hzz) (by decide))) (by (rw [hlen];exact hb.2)) ?_;have rdv:Rd P.H s3.heap v d []:=rd1.keeps λb o q=>k3.get b o (k2.get b o q);obtain ⟨I3,S3⟩:=lD (tk:=s3.toks) (I.keeps (k1.trans (k2.trans k3))) hs hk hok.1.1 hm (Heap.SameBut.update _ _ _) (IsL.update (k3.get _ _ ho) (λys=>ys.setIfInBounds n.toNat v)) (xs':=xs.set n.toNat d) (by simp only [Array.size_setIfInBounds];exact hz) (by rw [Array.toList_setIfInBounds];exact RdAll.set rdv _ (ra.keeps k3.get) rfl) (f9 xs _ d (f2 hio) hnl);exact ⟨rfl,own,G,I3,(Stp.kp (k1.trans (k2.trans k3)) [] []).join S3 (λo_ q=>nomatch q) λo_ q=>q⟩
 case dict.str kvs sx=>
  simp only at hev3;split at hev3
  case isFalse=>cases hev3
  rename_i hb;cases hev3;simp only [Qj,QE] at hb;cases rd3 using Rd.strE with
  | mk t hz ho=>
   obtain ⟨a,l,rfl,has,h0,hd,hkv⟩:=sv (prog:=P.prog) I.gpc.hs.1 rd2 hb.1.1;have ea:a=own i:=w2 hio a (by rw [has];exact .head _);subst ea;have hkv2:=hkv.put (x:=sx) (v:=v) (d:=d) hz ho hb.1.2 (rd1.scal hb.1.2).2;refine wpAny_setItem_pairs (knd:=strKind P.prog P.w) (k:=sx) (by simp [strKind,Value.isStrOf]) (hd.keep k3.get) (λh' hd' sb=>?_) (by rw [hkv.len];exact QQ hb.2 (by decide));refine byG λX_ g_=>?_;obtain ⟨es,n,hget,rd'⟩:=lq (prog:=P.prog) I.gpc.hs.1 hd' hkv2 h0;obtain ⟨I3,S3⟩:=ku (tk:=s3.toks+1) (I.keeps (k1.trans (k2.trans k3))) hs hk hok.1.1 hm rfl sb hget (.inr ⟨_,_,rfl⟩) rd' (tN hkv2);refine g_ ?_;exact ⟨rfl,own,G,I3,(Stp.kp (k1.trans (k2.trans k3)) [] []).join S3 (λo_ q=>nomatch q) λo_ q=>q⟩
 case dict.tuple kvs l=>
  simp only at hev3;refine aa hev3 λp e4 hev3=>?_;refine aa hev3 λks e5 hev3=>?_;have hb:=(ay hev3).1;have hev3:=(ay hev3).2;cases hev3;simp only [Qj,QE] at hb;rw [ik hb.1.2] at rd1;have hv:=rd1.boolE';subst hv;rw [fC e4] at rd3;have hcs:cs=[]:=rd3.noAddr (qo p);subst hcs;refine byG λX_ g_=>?_;obtain ⟨ka,_,_,_,_,_,_,_,rfl,_⟩:=dw rd3;obtain ⟨a,xs,rfl,has,h0,hd,hkv⟩:=oc (prog:=P.prog) I.gpc.hs.2 (rd2.keeps k3.get) e5 hb.1.1;refine g_ ?_;have ea:a=own i:=w2 hio a (by rw [has];exact .head _);subst ea;have hu1:A.in1.units+10 < cLine:=by have:=I.room.units;rw [Around.in1_units];exact uB (by decide) (Qh (QC (QI _ _) (by decide)) this)
  have hlen:xs.length<=sizeLine:=by
   have:=Qf List.length hkv.1;rw [lX] at this;rw [this];exact QQ hb.2 (by decide)
  refine @wpAny_setItem_heap P.prog P.w StK stDec (e9 P.prog P.w P.H) A _ s3 (own i) ka p xs (.bool true) _ hu1 rd3 hd (λh' hd' sb=>?_) hlen;refine byG λX_ g_=>?_;obtain ⟨es,n,hget,rd'⟩:=jd (prog:=P.prog) I.gpc.hs.2 hd' (gK hkv) h0;rw [<- lw e5] at rd';obtain ⟨I3,S3⟩:=ku (tk:=s3.toks+(6 * p.2.length+3)) (I.keeps (k1.trans (k2.trans k3))) hs hk hok.1.1 hm rfl sb hget (.inr ⟨_,_,rfl⟩) rd' (by rw [lw e5];exact sD _);refine g_ ?_;exact ⟨rfl,own,G,I3,(Stp.kp (k1.trans (k2.trans k3)) [] []).join S3 (λo_ q=>nomatch q) λo_ q=>q⟩
end
end Mine
set_option tactic.hygienic true
namespace Mine
open PySem
section
variable {P:Pk}{r:Nat}{c:TC}{ow:List Nat}{fr:Bool}{N:Nat}
theorem ky{x:Str}{i:Nat}{elt tgt iter:PySem.Expr}{ifs:List PySem.Expr}{scope:Scope}{xs:List Str}{e':Ex}{it':It}{co:Exo}{px cp pos:Pos}(hset:isSet iter=false)(hnd:xs.Nodup)(K:CompOk scope c xs)(hi:P.SI r c tgt xs iter it')
 (he:P.SE r ⟨c.names++xs,kindC scope c.kind⟩ elt e') (hc:SIfs P r ⟨c.names++xs,kindC scope c.kind⟩ ifs co) (hs:slotOf c.names x=some i) (hk:c.kind x=some .local\/c.kind x=some .cell) {A:Around} {env:Env} {sc:Shared} {as:List Addr} {s:Shared} {m:St} {own:Nat->Addr} {G:Addr->Prop} {res:Fl × St}
 (I:Inv P r c A env ow sc as s m own G) (hok:okS ow (.asg i (.comp e' it' co))=true) (hev:exS P.Φ P.Γ ow fr N (.asg i (.comp e' it' co)) m=some res) (hsw:swapsWith (.ListComp elt [⟨tgt,iter,ifs,0⟩] scope cp) (some (.Name x px)) pos.line env=pure true) :
 wpAny (model P.prog P.w) A (exec (.Assign [.Name x px] (.ListComp elt [⟨tgt,iter,ifs,0⟩] scope cp) pos) env) (PF P r c A env ow sc as fr [i] s m own G res) (λ_ _=>False) s:=by
 simp only [vW,Qj] at hok;simp only [tj] at hev;refine aa hev λd e1 hev=>?_;split at hev
 case isFalse=>cases hev
 rename_i hcc;cases hev;rw [exec_Assign_Name_used _ _ _ _ hsw];refine Qd (Yy (Qd ?_));show wpAny _ A (do let _ <- comprehension (.ListComp elt [⟨tgt,iter,ifs,0⟩] scope cp) scope env _ (newList []) false (eval iter env) (some (assign (.Name x px) env))) _ _ s;refine Qd (Qs (lB (Q:=λ_ s'=>PF P r c A env ow sc as fr [i] s m own G (.next,setV m i d) .next s') hset hnd K hi he hc I.pre hok.1 e1 λout D0 C s' hd q=>?_) (λ_ s' hq=>Qg (Qg hq)) λ_ _ z=>z);subst hd;show wpAny _ A (assign (.Name x px) env (.ref D0)) _ _ _;refine YJ ?_;obtain ⟨mC,hn⟩:=q.ns;obtain ⟨bs,rd,hb⟩:=q.rd;have cN:=I.new_ne q.cn;have hCex:∃ o,s'.heap.get? C=some o:=let ⟨o,_,_,e,_⟩:=hn;⟨o,e⟩
 have last:∀ h' tk own' G',Inv P r c A env ow sc as { s' with heap:=h',toks:=tk } (setV m i (.list out)) own' G'->Stp env ow [i] [] s m own G { s' with heap:=h',toks:=tk } (setV m i (.list out)) own' G'->¬ G' C ->
  (∀ j dd,ow.contains j=true->(setV m i (.list out))[j]?=some (some dd)->noList dd=false->own' j ≠ C) ->
  (∀ b o,s'.heap.get? b=some o->b ≠ env.locals->(∀ x,env.cells.lookup x ≠ some b)->h'.get? b=some o) ->
  ∃ m',h'.Ns C m'/\∀ h'',Heap.SameBut C h' h''->PF P r c A env ow sc as fr [i] s m own G (.next,setV m i (.list out)) .next { ({ s' with heap:=h',toks:=tk }:Shared) with heap:=h'' }:=by
  intro h' tk own' G' I' S' hg ho keep;have hn':h'.Ns C mC:=hn.at' λo e=>keep C o e cN.2.1 cN.2.2.1;refine ⟨mC,hn',λh'' hs''=>⟨rfl,own',λa=>G' a\/a ∈ [C],?_,?_⟩⟩
  ·exact I'.walk [C] (λb o hb e=>hs''.extBut b o (by simpa using hb) e) (λb hb=>by rw [Qx hb];exact cN.1) (λb hb=>by rw [Qx hb];exact ⟨cN.2.1,cN.2.2.1⟩)
    (λb hb o e=>by rw [Qx hb] at e;exact bG hn' o e) (λb hb=>by rw [Qx hb];exact .inl ⟨hg,ho⟩)
  ·refine ⟨λb e=>?_,λb o hb e h1 h2 h3=>hs''.extBut b o ?_ (S'.keep b o hb e h1 h2 h3),λa o e g=>.inl (S'.keepG a o e g),S'.ownS,S'.same⟩
   ·by_cases hb:b=C
    ·rw [hb];exact q.cn
    ·exact S'.live b (by rw [<- hs''.2 b hb];exact e)
   ·rintro rfl;rw [q.cn] at e;cases e
 cases ho:ow.contains i with
 | false=>
  refine dS (Q:=λs2=>∃ m',s2.heap.Ns C m'/\∀ h',Heap.SameBut C s2.heap h'->PF P r c A env ow sc as fr [i] s m own G (.next,setV m i (.list out)) .next { s2 with heap:=h' }) (I.minus q.kp [C] (λa ha=>by rw [Qx ha];exact q.cn) (λa ha=>by rw [Qx ha];exact hCex)) hs hk rd ho (λa ha=>?_) λh' tk I' S' keep=>?_
  ·rcases Qw ha with rfl | ha
   ·exact ⟨I.new _ q.dn,by simpa using q.dc⟩
   ·exact ⟨(hb a ha).1,by simpa using (hb a ha).2.1⟩
  ·refine last h' tk own _ I' ?_ (λz=>z.2 (.head _)) (λj dd h1 h2 h3=>?_) keep
   ·have K0:Stp env ow [] [] s m own G s' m own (λa=>G a/\a ∉ [C]):=⟨λb e=>q.kp.none e,λb o _ e _ _ _=>q.kp.get b o e,λa o e g=>⟨g,λz=>by rw [Qx z,q.cn] at e;cases e⟩,λi d _ h1 h2=>.inl ⟨rfl,d,h1,h2⟩,λ_ _=>⟨rfl,rfl⟩⟩
    exact K0.join S' (λ_ z=>nomatch z) λ_ z=>z
   ·have hji:i ≠ j:=by rintro rfl;rw [ho] at h1;cases h1
    rw [aK hji] at h2;exact cN.2.2.2 j dd h1 h2 h3
 | true=>
  rw [ho] at hcc;simp only [Ys,Xl] at hcc;have:bs=[]:=rd.inn_flat hcc;subst this;refine ju (Q:=λs2=>∃ m',s2.heap.Ns C m'/\∀ h',Heap.SameBut C s2.heap h'->PF P r c A env ow sc as fr [i] s m own G (.next,setV m i (.list out)) .next { s2 with heap:=h' }) [C] I q.kp (λa ha=>by rw [Qx ha];exact q.cn) (λa ha=>by rw [Qx ha];exact hCex)
   hs hk rd ho hcc (λa ha=>by rw [Qx ha];exact q.dn) λh' tk own' G' I' S' x1 x2 keep=>?_
  exact last h' tk own' G' I' S' (x1 C (.head _)) (λj dd h1 h2 h3=>x2 j dd h1 h2 h3 C (.head _) (by simpa using Ne.symm q.dc)) keep
end
end Mine
set_option tactic.hygienic false
namespace Mine
open PySem
noncomputable def setL(m:St):List (Nat × D)->St
 | []=>m
 | (i,d)::r=>setL (setV m i d) r
section
variable {P:Pk}{r:Nat}{c:TC}{ow:List Nat}{fr:Bool}{N:Nat}{A:Around}{env:Env}{sc:Shared}{as:List Addr}
structure Slots(c:TC)(ow:List Nat)(xs:List Str)(sl:List Nat):Prop where
 len:sl.length=xs.length
 at':∀ (j:Nat) (x:Str) (i:Nat),xs[j]?=some x->sl[j]?=some i->slotOf c.names x=some i/\(c.kind x=some .local\/c.kind x=some .cell)/\ow.contains i=false
theorem Slots.tail{x:Str}{xs:List Str}{i:Nat}{sl:List Nat}(h:Slots c ow (x::xs) (i::sl)):Slots c ow xs sl:=
 ⟨by simpa using h.len,λj y k h1 h2=>h.at' (j+1) y k (h1) (h2)⟩
theorem eg:∀ {xs:List Str} {sl:List Nat} {vals:List Value} {ds:List D} {bs:List Addr} {s:Shared} {m:St} {own:Nat->Addr} {G:Addr->Prop} {Q:Shared->Prop},Slots c ow xs sl->Inv P r c A env ow sc as s m own G->vals.length=xs.length->RdAll P.H s.heap vals ds bs->(∀ a ∈ bs,G a) ->
 (∀ h' tk,Inv P r c A env ow sc as { s with heap:=h',toks:=tk } (setL m (sl.zip ds)) own G->Stp env ow sl [] s m own G { s with heap:=h',toks:=tk } (setL m (sl.zip ds)) own G->(∀ b o,s.heap.get? b=some o->b ≠ env.locals->(∀ x,env.cells.lookup x ≠ some b)->h'.get? b=some o)->Q { s with heap:=h',toks:=tk }) ->
 jn (model P.prog P.w) A env (xs.zip vals) Q s:=by
 intro xs;induction xs with
 | nil=>
  intro sl vals ds bs s m own G Q hS I hl rd hg h;have:sl=[]:=ZA.mp (hS.len);subst this;exact h s.heap s.toks I (Stp.refl ..) λo_ o_ e o_ o_=>e
 | cons x xs eg=>
  intro sl vals ds bs s m own G Q hS I hl rd hg h;cases sl with
  | nil=>have:=hS.len;cases this
  | cons i sl=>
  cases vals with
  | nil=>cases hl
  | cons v vals=>
  cases rd with
  | @cons _ _ d ds a1 a2 r1 r2=>
  obtain ⟨h1,h2,h3⟩:=hS.at' 0 x i rfl rfl;show wpAny _ A (storeName env x v) _ _ s;refine dS (Q:=λs'=>jn (model P.prog P.w) A env (xs.zip vals) Q s') I h1 h2 r1 h3 (λa ha=>hg a (Q6 _ ha)) λh' tk I' S' keep=>?_;have hg2:∀ a ∈ a2,G a:=λa ha=>hg a (Zy _ ha);have r2':RdAll P.H h' vals ds a2:=by
   refine r2.but (λb=>b=env.locals\/∃ y,env.cells.lookup y=some b) (λb o hb e=>keep b o e (λq=>hb (.inl q)) λy q=>hb (.inr ⟨y,q⟩)) (λb o hb e=>?_) λa ha hb=>?_
   ·rcases hb with rfl | ⟨y,q⟩
    ·obtain ⟨mm,hn⟩:=I.ns;exact bG hn o e
    ·obtain ⟨w,hc⟩:=I.cl y b q;exact cF hc o e
   ·rcases hb with rfl | ⟨y,q⟩
    ·exact I.gL (hg2 _ ha)
    ·exact I.gC y a q (hg2 a ha)
  refine eg hS.tail I' (by simpa using hl) r2' hg2 λh'' tk' I'' S'' keep'=>?_;exact h h'' tk' I'' (S'.join S'' (λi q=>by rw [Qx q];exact .head _) λi q=>.tail _ q) λb o e q1 q2=>keep' b o (keep b o e q1 q2) q1 q2
set_option tactic.hygienic true in
theorem oN{tgt iter:PySem.Expr}{body:List PySem.Stmt}{pos:Pos}{xs:List Str}{sl:List Nat}{it':It}{body':Sms}{items:List (List D)}{s:Shared}{m:St}{own:Nat->Addr}{G:Addr->Prop}{res:Fl × St}(hset:isSet iter=false)(hS:Slots c ow xs sl)
 (hi:P.SI r c tgt xs iter it') (hb:SSs P r c ow fr N body body') (I:Inv P r c A env ow sc as s m own G) (ok1:okIt ow it'=true) (ok2:okSs ow body'=true) (ok3:gQ ow it' (tchSs body')=true) (hz:cA it'=false)
 (ev:evIt P.Φ P.Γ it' m=some items) (evf:forL (λvs m=>if vs.length=sl.length then exSs P.Φ P.Γ ow fr N body' (setL m (sl.zip vs)) else none) items m=some res) :
 wpAny (model P.prog P.w) A (exec (.For tgt iter body [] pos) env) (PF P r c A env ow sc as fr (sl++tchSs body') s m own G res) (λo_ o_=>False) s:=by
 refine wpAny_For ?_ (fZ hset);refine Qs (hi A env s m ow own G items I.pre ok1 ev) (λxv sx q=>Qs q (λitv s₂ q2=>?_) λo_ o_ z=>z) λo_ o_ z=>z;obtain ⟨s₁,It,fp,wr,Pv,S,rfl,O⟩:=q2;have I1:=I.keeps O.k1;have wn:∀ b ∈ wr,_:=λb hb=>I1.new_ne (O.wnew b hb);have fpF:∀ b ∈ fp,b ≠ env.locals/\∀ y,env.cells.lookup y ≠ some b:=λb hb=>by
  rcases O.pin b hb with q | ⟨o,e,⟨vs,n,q⟩ | ⟨g,_⟩ | ⟨i,_,hi,rfl,xs,hm⟩⟩
  ·exact ⟨(I1.new_ne q).2.1,(I1.new_ne q).2.2.1⟩
  ·refine ⟨?_,λy z=>?_⟩
   ·rintro rfl;obtain ⟨mm,hn⟩:=I1.ns;exact bG hn o e vs n q
   ·obtain ⟨w,hc⟩:=I1.cl y b z;exact cF hc o e vs n q
  ·exact ⟨λz=>I.gL (z ▸ g),λy z=>I.gC y b z g⟩
  ·exact ⟨((I.oG i _ hi hm rfl).2.2.1),((I.oG i _ hi hm rfl).2.2.2.1)⟩
 have fpO:∀ b ∈ fp,∀ i d,i ∈ tchSs body'->ow.contains i=true->m[i]?=some (some d)->noList d=false->b ≠ own i:=λb hb i d hi ho hm hd=>by
  rcases O.pin b hb with q | ⟨o,e,⟨vs,n,q⟩ | ⟨g,_⟩ | ⟨j,hj,hoj,rfl,xs,hmj⟩⟩
  ·exact Ne.symm ((I1.new_ne q).2.2.2 i d ho hm hd)
  ·rintro rfl
   obtain ⟨_,_,_,_,o',e',q5⟩:=I1.oG i d ho hm hd;rw [e] at e';cases e';rcases q5 with ⟨vs',n',z⟩ | ⟨vs',n',z⟩
   ·rw [q] at z;exact absurd (Qf Obj.cls z) (by show ¬ (Value.type "tuple" = Value.type "list");decide)
   ·rw [q] at z;exact absurd (Qf Obj.cls z) (by show ¬ (Value.type "tuple" = Value.type "dict");decide)
  ·rintro rfl;exact (I.oG i d ho hm hd).1 g
  ·refine I.oD j i _ d ?_ hoj ho hmj hm rfl hd
   rintro rfl;unfold gQ at ok3;have:=ZK.mp ok3 _ hj;simp at this;exact this hi
 have walkI:∀ (s':Shared) (mk:St) (ownk:Nat->Addr) (Gk:Addr->Prop) (k:Nat) (h':Heap) (tk:Nat),S k s'.heap->Inv P r c A env ow sc as s' mk ownk Gk->(∀ b o,b ∉ wr->s'.heap.get? b=some o->h'.get? b=some o)->Inv P r c A env ow sc as { s' with heap:=h',toks:=tk } mk ownk (λa=>Gk a\/a ∈ wr):=
  λs' mk ownk Gk k h' tk hSk Ik hk=>Ik.walk wr hk (λb hb=>(wn b hb).1) (λb hb=>⟨(wn b hb).2.1,(wn b hb).2.2.1⟩)
   (λb hb o e vs n q=>by
    obtain ⟨o',e',h2,_⟩:=O.live k _ hSk b hb;rw [e] at e';cases e';exact h2 hz (by rw [q]))
   (λb hb=>.inr λo e=>by
    obtain ⟨o',e',_,h3,h4⟩:=O.live k _ hSk b hb;rw [e] at e';cases e';exact ⟨h3,h4⟩)
 let LI:Nat->Shared->Prop:=λn s'=>∃ k mk ownk Gk,n+k=items.length/\S k s'.heap/\Inv P r c A env ow sc as s' mk ownk Gk/\Stp env ow (sl++tchSs body') wr s₂ m own G s' mk ownk Gk /\
  forL (λvs m=>if vs.length=sl.length then exSs P.Φ P.Γ ow fr N body' (setL m (sl.zip vs)) else none) (items.drop k) mk=some res
 refine codeAny_forLoop_any LI (λn s' hLI=>?_) items.length ⟨0,m,own,G,by exact Eq.refl (items.length+0),O.st,(I1.keeps O.k2),Stp.refl ..,by exact evf⟩;obtain ⟨k,mk,ownk,Gk,hnk,hSk,Ik,Sk,hev⟩:=hLI
 by_cases hlt:k < items.length
 ·obtain ⟨ds,hds⟩:∃ ds,items[k]?=some ds:=⟨items[k],Qk hlt⟩
  rw [List.drop_eq_getElem_cons hlt] at hev;have hds':items[k]=ds:=by rw [Qk hlt] at hds;exact Qv hds
  rw [hds'] at hev;simp only [gI] at hev;have key:=O.T.item k s' env (λs₃=>wpAny (model P.prog P.w) A (execs body env) (λf s₄=>match f with
   | .next | .cont=>∃ m,m < n/\LI m s₄
   | .brk=>PF P r c A env ow sc as fr (sl++tchSs body') s m own G res .next s₄
   | .ret v=>PF P r c A env ow sc as fr (sl++tchSs body') s m own G res (.ret v) s₄) (λo_ o_=>False) s₃) hlt hSk ?_
  ·refine Qs key (λrr s₃ q=>?_) λo_ o_ z=>z.elim
   cases rr with
   | none=>exact q.elim
   | some v=>
    refine Qs q (λo_ s₄ q=>Qs q (λo_ s₅ q=>Qs q (λf s₆ q=>?_) λo_ o_ z=>z.elim) λo_ o_ z=>z.elim) λo_ o_ z=>z.elim;cases f<;>exact q
  ·intro vals h2 tk2 hPv hlen hS2 hk2
   obtain ⟨ds2,vas,e2,rdv,hgv⟩:=O.vals k vals hlt hPv;rw [hds] at e2;cases e2;have Sw:Stp env ow [] wr s' mk ownk Gk { s' with heap:=h2,toks:=tk2 } mk ownk (λa=>Gk a\/a ∈ wr):=by
    refine ⟨λb e=>?_,λb o hb e o_ o_ o_=>hk2 b o hb e,λo_ o_ o_ g=>.inl g,λi d o_ h1 h2=>.inl ⟨rfl,d,h1,h2⟩,λo_ o_=>⟨rfl,rfl⟩⟩
    by_cases hb:b ∈ wr
    ·obtain ⟨o,q,_⟩:=O.live _ _ hS2 b hb
     rw [show h2.get? b=_ from q] at e;cases e
    ·cases q:s'.heap.get? b with
     | none=>rfl
     | some o=>rw [show h2.get? b=_ from hk2 b o hb q] at e;cases e
   have rdv2:RdAll P.H h2 vals ds vas:=by
    refine rdv.mono' λa o e q=>?_;have nw:a ∉ wr:=λz=>by rw [O.wnew a z] at e;cases e
    refine hk2 a o nw (Sk.keep a o nw (O.k2.get a o e) ?_ ?_ λi d o_ ho hm hd=>?_)
    ·rintro rfl
     rcases q with ⟨vs,n,q⟩ | q
     ·obtain ⟨mm,hn⟩:=I1.ns;exact bG hn o e vs n q
     ·exact I.gL (hgv _ q)
    ·intro y z
     rcases q with ⟨vs,n,q⟩ | q
     ·obtain ⟨w,hc⟩:=I1.cl y a z;exact cF hc o e vs n q
     ·exact I.gC y a z (hgv a q)
    ·rintro rfl
     obtain ⟨h1,_,_,_,o',e',q5⟩:=I1.oG i d ho hm hd;rcases q with ⟨vs,n,q⟩ | q
     ·rw [e] at e';cases e'
      rcases q5 with ⟨vs',n',z⟩ | ⟨vs',n',z⟩
      ·rw [q] at z;exact absurd (Qf Obj.cls z) (by show ¬ (Value.type "tuple" = Value.type "list");decide)
      ·rw [q] at z;exact absurd (Qf Obj.cls z) (by show ¬ (Value.type "tuple" = Value.type "dict");decide)
     ·exact h1 (hgv _ q)
   have hgk:∀ a ∈ vas,Gk a\/a ∈ wr:=λa ha=>by
    obtain ⟨o,e,_⟩:=rdv.old a ha;exact .inl (Sk.keepG a o (O.k2.get a o e) (hgv a ha))
   refine eg hS (walkI s' mk ownk Gk k h2 tk2 hSk Ik hk2) hlen rdv2 hgk λh3 tk3 I3 S3 keep3=>?_;have S23:=(Sk.join Sw (λo_ q=>q) λo_ q=>nomatch q).join (S3.weaken (λo_ q=>q) λo_ q=>nomatch q) (t:=sl++tchSs body') (λo_ q=>q) (λo_ q=>Q6 _ q);have hlen2:ds.length=sl.length:=by rw [<- rdv2.length,hlen,hS.len]
   cases hbv:exSs P.Φ P.Γ ow fr N body' (setL mk (sl.zip ds)) with
   | none=>rw [Ql hlen2,hbv] at hev;cases hev
   | some r1=>
    rw [Ql hlen2,hbv] at hev;refine Qs (hb A env sc as _ _ ownk _ r1 I3 ok2 hbv) (λf s4 hf=>?_) λo_ o_ z=>z;obtain ⟨fl,m4⟩:=r1;cases fl with
    | ret d=>
     simp only [Qc] at hev;subst hev;obtain ⟨v,rfl,h2⟩:=hf;exact ⟨v,rfl,h2⟩
    | next=>
     obtain ⟨rfl,own4,G4,I4,S4⟩:=hf;simp only at hev;refine ⟨n - 1,by exact (mD hnk hlt).1,k+1,m4,own4,G4,by exact (mD hnk hlt).2,?_,I4,S23.join (S4.weaken (λo_ q=>q) λo_ q=>nomatch q) (λo_ q=>q) (λo_ q=>Zy _ q),hev⟩;refine O.T.frame _ _ _ (O.T.frame _ _ _ hS2 λb hb o e=>keep3 b o e (fpF b hb).1 (fpF b hb).2) λb hb' o e=>S4.keep b o (λq=>nomatch q) e (fpF b hb').1 (fpF b hb').2 λi d hi ho hm hd=>?_;rcases S23.ownS i d ho hm hd with ⟨q,d0,q1,q2⟩ | q
     ·rw [q];exact fpO b hb' i d0 hi ho q1 q2
     ·rintro rfl
      obtain ⟨o2,e2⟩:=O.obj _ hb';rw [e2] at q;cases q
 ·have hk:k=items.length:=by exact Nat.le_antisymm (hnk ▸ Nat.le_add_left k n) (Z7.mp hlt)
  subst hk;refine Qs (O.T.done s' (λrr s3=>rr=none/\PF P r c A env ow sc as fr (sl++tchSs body') s m own G res .next s3) hSk λh2 tk2 hk2=>⟨rfl,?_⟩) (λrr s3 q=>?_) λo_ o_ z=>z.elim
  ·simp only [List.drop_length,u4,Qc] at hev
   subst hev;refine ⟨rfl,ownk,_,(walkI s' mk ownk Gk _ h2 tk2 hSk Ik hk2),⟨λb e=>?_,λb o o_ e h1 h2' h3=>?_,λa o e g=>.inl (Sk.keepG a o ((O.k1.trans O.k2).get a o e) g),λi d ho hm hd=>?_,Sk.same⟩⟩
   ·by_cases hb:b ∈ wr
    ·exact O.k1.none (O.wnew b hb)
    ·refine (O.k1.trans O.k2).none (Sk.live b ?_)
     cases q:s'.heap.get? b with
     | none=>rfl
     | some o=>rw [show h2.get? b=_ from hk2 b o hb q] at e;cases e
   ·have nw:b ∉ wr:=λz=>by rw [O.k1.none (O.wnew b z)] at e;cases e
    exact hk2 b o nw (Sk.keep b o nw ((O.k1.trans O.k2).get b o e) h1 h2' h3)
   ·rcases Sk.ownS i d ho hm hd with q | q
    ·exact .inl q
    ·exact .inr ((O.k1.trans O.k2).none q)
  ·obtain ⟨rfl,q⟩:=q
   exact YC q
set_option tactic.hygienic true in
theorem eQ{f g:List D->St->Option (Fl × St)}(h:∀ vs m,f vs m=g vs m):∀ (items:List (List D)) (m:St),forL f items m=forL g items m
 | [],_=>rfl
 | vs::r,m=>by
  simp only [gI,h];cases g vs m with
  | none=>rfl
  | some q=>
   obtain ⟨fl,m'⟩:=q;cases fl with
   | next=>exact eQ h r m'
   | ret d=>rfl
set_option tactic.hygienic true in
theorem uf{tgt iter:PySem.Expr}{body:List PySem.Stmt}{pos:Pos}{x:Str}{i:Nat}{it':It}{body':Sms}(hset:isSet iter=false)(hs:slotOf c.names x=some i)(hk:c.kind x=some .local\/c.kind x=some .cell)(hi:P.SI r c tgt [x] iter it')(hb:SSs P r c ow fr N body body') :
 SS P r c ow fr N (.For tgt iter body [] pos) (.for1 i it' body'):=by
 intro A env sc as s m own G res I hok hev;simp only [vY,Qj,QS] at hok;rw [nA] at hev;refine byG λX_ g_=>?_;refine aa hev λitems e1 hev=>?_;refine g_ ?_;split at hev
 ·cases hev
 rename_i hz;refine oN (sl:=[i]) hset ⟨rfl,λj y k h1 h2=>?_⟩ hi hb I hok.1.1.1 hok.1.2 hok.2 (by simpa using hz) e1 ?_
 ·cases j with
  | zero=>simp at h1 h2;subst h1;subst h2;exact ⟨hs,hk,hok.1.1.2⟩
  | succ j=>cases h1
 ·rw [<- hev]
  refine eQ (λvs m=>?_) _ _
  match vs with
  | []=>rfl
  | [d]=>rfl
  | _::_::_=>rfl
set_option tactic.hygienic true in
theorem ug{tgt iter:PySem.Expr}{body:List PySem.Stmt}{pos:Pos}{x y:Str}{i j:Nat}{it':It}{body':Sms}(hset:isSet iter=false)(hs:slotOf c.names x=some i)(hk:c.kind x=some .local\/c.kind x=some .cell)(hs2:slotOf c.names y=some j)(hk2:c.kind y=some .local\/c.kind y=some .cell)
 (hi:P.SI r c tgt [x,y] iter it') (hb:SSs P r c ow fr N body body'):SS P r c ow fr N (.For tgt iter body [] pos) (.for2 i j it' body'):=by
 intro A env sc as s m own G res I hok hev;simp only [vZ,Qj,QS] at hok;rw [nB] at hev;refine aa hev λitems e1 hev=>?_;split at hev
 ·cases hev
 rename_i hz;refine oN (sl:=[i,j]) hset ⟨rfl,λq y' k h1 h2=>?_⟩ hi hb I hok.1.1.1.1 hok.1.2 hok.2 (by simpa using hz) e1 ?_
 ·match q with
  | 0=>simp at h1 h2;subst h1;subst h2;exact ⟨hs,hk,hok.1.1.1.2⟩
  | 1=>simp at h1 h2;subst h1;subst h2;exact ⟨hs2,hk2,hok.1.1.2⟩
  | q+2=>cases h1
 ·rw [<- hev]
  refine eQ (λvs m=>?_) _ _
  match vs with
  | []=>rfl
  | [d]=>rfl
  | [d,e]=>rfl
  | _::_::_::_=>rfl
set_option tactic.hygienic true in
theorem qP{test:PySem.Expr}{body:List PySem.Stmt}{pos:Pos}{q:Ex}{b:Sms}(ht:P.ST r c test q)(hb:SSs P r c ow fr N body b):SS P r c ow fr N (.While test body [] pos) (.wh q b):=by
 intro A env sc as s m own G res I hok hev;simp only [k_wh,Qj] at hok;simp only [e_wh] at hev;refine wpAny_While ?_
 let LI:Nat->Shared->Prop:=λn s'=>∃ mk ownk Gk,Inv P r c A env ow sc as s' mk ownk Gk/\Stp env ow (tchSs b) [] s m own G s' mk ownk Gk/\whL (λm=>(evE P.Φ P.Γ q m).bind truth) (λm=>exSs P.Φ P.Γ ow fr N b m) n mk=some res
 refine codeAny_whileLoop LI (λn s' hLI=>?_) N ⟨m,own,G,I,Stp.refl ..,hev⟩;obtain ⟨mk,ownk,Gk,Ik,Sk,hev⟩:=hLI;cases n with
 | zero=>cases hev
 | succ n=>
  simp only [mi] at hev;cases hc:(evE P.Φ P.Γ q mk).bind truth with
  | none=>rw [hc] at hev;cases hev
  | some bb=>
   rw [hc] at hev;refine aa hc λd e1 e2=>?_;refine Qs (ST.use (Q:=λb' s2=>b'=bb/\Kp s' s2) ht Ik.pre hok.1 e1 e2 λs2 k=>⟨rfl,k⟩) (λb' s2 z=>?_) λo_ o_ z=>z.elim;obtain ⟨rfl,k⟩:=z;cases b' with
   | false=>
    simp only [Qc] at hev;subst hev;exact YC ⟨rfl,ownk,Gk,Ik.keeps k,Sk.join (Stp.kp k [] []) (λo_ q=>q) λo_ q=>nomatch q⟩
   | true=>
    simp only at hev;cases hbv:exSs P.Φ P.Γ ow fr N b mk with
    | none=>rw [hbv] at hev;cases hev
    | some r1=>
     rw [hbv] at hev;refine Qs (hb A env sc as s2 mk ownk Gk r1 (Ik.keeps k) hok.2 hbv) (λf s3 hf=>?_) λo_ o_ z=>z.elim;obtain ⟨fl,m4⟩:=r1;cases fl with
     | ret d=>
      simp only [Qc] at hev;subst hev;obtain ⟨v,rfl,h2⟩:=hf;exact ⟨v,rfl,h2⟩
     | next=>
      obtain ⟨rfl,own4,G4,I4,S4⟩:=hf;simp only at hev;exact ⟨n,QA n,m4,own4,G4,I4,(Sk.join (Stp.kp k [] []) (t:=tchSs b) (λo_ q=>q) λo_ q=>nomatch q).join S4 (λo_ q=>q) (λo_ q=>q),hev⟩
end
end Mine
set_option tactic.hygienic true
namespace Mine
open PySem
section
variable {P:Pk}{r:Nat}{c:TC}{ow:List Nat}{fr:Bool}{N:Nat}
theorem wi{x y v:Str}{i j:Nat}{e':Ex}{px py pv pos tp:Pos}{tb:Nat}(hs:slotOf c.names x=some i)(hk:c.kind x=some .local\/c.kind x=some .cell)(hs2:slotOf c.names y=some j)(hk2:c.kind y=some .local\/c.kind y=some .cell)(he:P.SE r c (.Name v pv) e') :
 SS P r c ow fr N (.Assign [.Tuple [.Name x px,.Name y py] tb tp] (.Name v pv) pos) (.unp i j e'):=by
 intro A env sc as s m own G res I hok hev;simp only [xl,Qj,QS] at hok;rw [w9] at hev;refine aa hev λd e1 hev1=>?_;clear hev;obtain ⟨⟨a,b⟩,e2,rfl⟩:=ae hev1;rw [mo e2] at e1;refine wpAny_Assign_stores (SE.us he I.pre hok.1.1.1 e1 λv s1 k1 bs rd g1 o_ o_ o_=>?_) rfl rfl;cases rd using Rd.tupleE with
 | @mk t vs n as' ho hz ra=>
  have hl2:=ra.length;obtain ⟨va,vb,hv⟩:∃ va vb,vs.toList=[va,vb]:=by
   match hq:vs.toList with
   | [va,vb]=>exact ⟨va,vb,rfl⟩
   | []=>rw [hq] at hl2;simp at hl2
   | [_]=>rw [hq] at hl2;simp at hl2
   | _::_::_::_=>rw [hq] at hl2;simp at hl2
  rw [hv] at ra;have hsz:vs.size=2:=by rw [<- QJ,hv];rfl
  show wpAny _ _ (assign (.Tuple [.Name x px,.Name y py] tb tp) env (.ref t)) _ _ _;refine wpAny_assign_Tuple I.room.hd ⟨_,ho,rfl,_,rfl⟩ (by rw [hsz];rfl) rfl λh' ext=>?_;have k2:Kp s1 { s1 with heap:=h' }:=Kp.heap s1 h' λb o e=>ext b o (QM (Q3 e)) e;rw [hv];have st:=eg (P:=P) (r:=r) (c:=c) (A:=A) (env:=env) (ow:=ow) (sc:=sc) (as:=as) (xs:=[x,y]) (sl:=[i,j]) (vals:=[va,vb]) (Q:=λs'=>PF P r c A env ow sc as fr [i,j] s m own G (.next,setV (setV m i a) j b) .next s') ⟨rfl,λq y' k h1 h2=>by
   match q with
   | 0=>simp at h1 h2;subst h1;subst h2;exact ⟨hs,hk,hok.1.2⟩
   | 1=>simp at h1 h2;subst h1;subst h2;exact ⟨hs2,hk2,hok.2⟩
   | q+2=>simp at h1⟩ (I.keeps (k1.trans k2)) rfl (ra.keeps k2.get) (g1 (by simpa [nm] using hok.1.1.2)) (λh2 tk2 I3 S3 o_=>⟨rfl,own,G,I3,(Stp.kp (k1.trans k2) [] []).join S3 (λo_ q=>nomatch q) λo_ q=>q⟩)
  refine PyProof.Rows.assignInOrder_cons (YJ (Qs st (λo_ s3 h3=>?_) λo_ o_ z=>z));refine PyProof.Rows.assignInOrder_cons (YJ (Qs h3 (λo_ s4 h4=>?_) λo_ o_ z=>z));exact PyProof.Rows.assignInOrder_nil h4
end
end Mine
set_option tactic.hygienic true
namespace Mine
open PySem
section
variable {P:Pk}{r:Nat}{c:TC}{ow:List Nat}{fr:Bool}{N:Nat}
theorem mK(ff:Str->Option Bool)(gcs:Str->Bool)(hΦ:P.FnOk r)(hff:∀ g fr,ff g=some fr->P.fr g=some fr/\∃ q,P.defs g=some q){n:Nat}{elt:PySem.Expr}{gens:List Comprehension}{scope:Scope}{pos:Pos}{e':Ex}(h:trE ff gcs n c (.ListComp elt gens scope pos)=some e') :
 ∃ tgt iter ifs xs a it b,gens=[⟨tgt,iter,ifs,0⟩]/\isSet iter=false/\xs.Nodup/\CompOk scope c xs/\P.SI r c tgt xs iter it/\P.SE r ⟨c.names++xs,kindC scope c.kind⟩ elt a/\SIfs P r ⟨c.names++xs,kindC scope c.kind⟩ ifs b/\e' = .comp a it b:=by
 cases n with
 | zero=>cases h
 | succ n=>exact fm (λc=>ba ff gcs hΦ hff n c) (show nK (trE ff gcs n) c elt scope gens=some e' from h)
theorem uh{ff:Str->Option Bool}{gcs:Str->Bool}{n:Nat}{e:PySem.Expr}{e':Ex}(hc:isComp e=true)(h:trE ff gcs n c e=some e'):∃ a b c d,e = .ListComp a b c d:=by
 have w:=Qz hc
 by_cases q:e.ctorIdx=8
 ·exact PySem.Expr.ListComp.elim (motive_1:=λv=>∃ a b c d,v = .ListComp a b c d) e q λa b c d=>⟨a,b,c,d,rfl⟩
 ·by_cases q9:e.ctorIdx=9
  ·exact (PySem.Expr.SetComp.elim (motive_1:=λv=>trE ff gcs n c v=some e'->False) e q9 (λa b cc d h=>by cases n<;>cases h) h).elim
  ·exact (PySem.Expr.DictComp.elim (motive_1:=λv=>trE ff gcs n c v=some e'->False) e (Nat.le_antisymm (ZR w.2) (Yx (Yx (ZR w.1) (Ne.symm q)) (Ne.symm q9))) (λa b cc d e h=>by cases n<;>cases h) h).elim
theorem jw{value:PySem.Expr}{t:PySem.Expr}{l:Nat}{env:Env}(h:isComp value=false):swapsWith value (some t) l env=pure false:=by
 cases value<;>first | rfl | cases h
theorem aq{x:Str}{i:Nat}(h:varOf c x=some i):x ≠ ("__debug__" : Str)/\slotOf c.names x=some i/\(c.kind x=some .local\/c.kind x=some .cell):=by
 unfold varOf at h;split at h
 ·cases h
 ·rename_i hd
  have hd:x ≠ ("__debug__" : Str):=λq=>hd (Q5.mpr q);cases hk:c.kind x with
  | none=>rw [hk] at h;cases h
  | some k=>rw [hk] at h;cases k<;>first | (cases h;done) | exact ⟨hd,h,.inl rfl⟩ | exact ⟨hd,h,.inr rfl⟩
theorem oO(ff:Str->Option Bool)(gcs:Str->Bool)(hΦ:P.FnOk r)(hff:∀ g fr,ff g=some fr->P.fr g=some fr/\∃ q,P.defs g=some q){n:Nat}{x:Str}{i:Nat}{value:PySem.Expr}{e':Ex}{px pos:Pos}(hv:varOf c x=some i)(h:trE ff gcs n c value=some e') :
 SS P r c ow fr N (.Assign [.Name x px] value pos) (.asg i e'):=by
 have hs:=(aq hv).2.1;have hk:=(aq hv).2.2;intro A env sc as s m own G res I hok hev;cases hc:isComp value with
 | false=>exact sL hs hk (ba ff gcs hΦ hff n c _ _ h).1 I hok hev (jw hc)
 | true=>
  refine byG λX_ g_=>?_;obtain ⟨elt,gens,scope,cp,rfl⟩:=uh hc h;obtain ⟨tgt,iter,ifs,xs,a,it,b,rfl,h1,h2,h3,h4,h5,h6,rfl⟩:=mK ff gcs hΦ hff h;obtain ⟨bb,hsw⟩:∃ bb,swapsWith (.ListComp elt [⟨tgt,iter,ifs,0⟩] scope cp) (some (.Name x px)) pos.line env=pure bb:=⟨_,rfl⟩
  refine g_ ?_;cases bb with
  | true=>exact ky h1 h2 h3 h4 h5 h6 hs hk I hok hev hsw
  | false=>exact sL hs hk (oJ h1 h2 h3 h4 h5 h6) I hok hev hsw
theorem qQ{st:PySem.Stmt}:SS P r c ow fr N st .stuck:=by
 intro A env sc as s m own G res I hok hev;simp [tm] at hev
theorem jy(ff:Str->Option Bool)(gcs:Str->Bool)(hΦ:P.FnOk r)(hff:∀ g fr,ff g=some fr->P.fr g=some fr/\∃ q,P.defs g=some q){x nm:Str}{px apos cpos pos:Pos}{args:List PySem.Expr}{st':Sm}(hp:(apos.endLine == cpos.line)=true)(h:nM (trE ff gcs 40 c) c x nm args=some st'):SS P r c ow fr N (.Expr (.Call (.Attribute (.Name x px) nm apos) args [] cpos) pos) st':=by
 unfold nM at h;refine aa h λi e1 hh=>?_;clear h;have h1:=(aq e1).1;have h2:=(aq e1).2.1;have h3:=(aq e1).2.2;split at hh
 ·rename_i hn
  have hn:=Q4 hn;subst hn;cases args with
  | nil=>cases hh
  | cons a l_0=>
   cases l_0 with
   | nil=>
    replace hh:(if isStar a then none else (trE ff gcs 40 c a).map λb=>Sm.app i b)=some st':=hh;split at hh
    ·cases hh
    ·rename_i hs
     obtain ⟨b,e2,rfl⟩:=ae hh;exact v7 h1 hp (by simpa using hs) h2 h3 (ba ff gcs hΦ hff 40 c _ _ e2).1
   | cons=>cases hh
 ·split at hh
  ·rename_i hn
   have hn:=Q4 hn;subst hn;cases args with
   | nil=>cases hh;exact we h1 hp h2 h3
   | cons=>cases hh
  ·split at hh
   ·rename_i hn
    have hn:=Q4 hn;subst hn;cases args with
    | nil=>cases hh;exact wg h1 hp h2 h3
    | cons=>cases hh
   ·cases hh
theorem oP(ff:Str->Option Bool)(gcs:Str->Bool)(hΦ:P.FnOk r)(hff:∀ g fr,ff g=some fr->P.fr g=some fr/\∃ q,P.defs g=some q){value:PySem.Expr}{pos:Pos}{st':Sm}(h:trX ff gcs c value=some st'):SS P r c ow fr N (.Expr value pos) st':=by
 refine fz (G:=λvalue=>SS P r c ow fr N (.Expr value pos) st') h (λfn args kws cpos h=>?_) λh=>nomatch h;cases hq:lm fn with
 | some q=>
  rw [hq] at h;have w:=ay h;have hk:=Qz w.1;refine (f7 hq).elim λp z=>?_;rw [z,Q1.mp hk.1];exact jy ff gcs hΦ hff hk.2 w.2
 | none=>
  rw [hq] at h;obtain ⟨e,e1,rfl⟩:=ae (ay h).2;exact xq (ba ff gcs hΦ hff 40 c _ _ e1).1 λ_=>rfl
theorem kz(ff:Str->Option Bool)(gcs:Str->Bool)(hΦ:P.FnOk r)(hff:∀ g fr,ff g=some fr->P.fr g=some fr/\∃ q,P.defs g=some q){t value:PySem.Expr}{pos:Pos}{st':Sm}(h:vn ff gcs c value t=some st'):SS P r c ow fr N (.Assign [t] value pos) st':=by
 refine fy (G:=λt=>SS P r c ow fr N (.Assign [t] value pos) st') h (λx p h=>?_) λh=>?_
 ·refine aa h λi e1 h=>?_
  obtain ⟨e,e2,rfl⟩:=ae h;exact oO ff gcs hΦ hff e1 e2
 refine ig (G:=λt=>SS P r c ow fr N (.Assign [t] value pos) st') h (λo ix p h=>?_) λh=>?_
 ·refine aa h λx e0 h=>?_
  have hs:=dA h;refine aa hs.2 λi e1 h=>?_;refine aa h λe e2 h=>?_;obtain ⟨k,e3,rfl⟩:=ae h;refine (aR e0).elim λpx z=>?_;rw [z];exact ue ((aq e1).1) ((aq e1).2.1) ((aq e1).2.2) (ba ff gcs hΦ hff 40 c _ _ e3).1 (ba ff gcs hΦ hff 40 c _ _ e2).1 λenv=>jw (YB.mp hs.1).2
 refine ic (G:=λt=>SS P r c ow fr N (.Assign [t] value pos) st') h (λes tb tp h=>?_) λh=>nomatch h;have w:=ay h;refine aa w.2 λxs e0 h1=>?_;refine byG λX_ g_=>?_;obtain ⟨v,hv⟩:=Y9.mp w.1;obtain ⟨pv,rfl⟩:=aR hv;obtain ⟨x,y,p,q,rfl,rfl,_⟩:=ee e0;refine aa (show ((varOf c x).bind λi=>(varOf c y).bind λj=>(trE ff gcs 40 c (.Name v pv)).map λe=>Sm.unp i j e)=some st' from h1) λi e1 h2=>?_;refine aa h2 λj e2 h3=>?_;obtain ⟨e,e3,rfl⟩:=ae h3;refine g_ ?_;exact wi (aq e1).2.1 (aq e1).2.2 (aq e2).2.1 (aq e2).2.2 (ba ff gcs hΦ hff 40 c _ _ e3).1
theorem kA(ff:Str->Option Bool)(gcs:Str->Bool)(hΦ:P.FnOk r)(hff:∀ g fr,ff g=some fr->P.fr g=some fr/\∃ q,P.defs g=some q){tgt iter:PySem.Expr}{body:List PySem.Stmt}{b:Option Sms}{pos:Pos}{st':Sm}(hb:∀ b',b=some b'->SSs P r c ow fr N body b')(h:tJ (trE ff gcs 40 c) c tgt iter b=some st'):SS P r c ow fr N (.For tgt iter body [] pos) st':=by
 unfold tJ at h;split at h
 ·cases h
 ·rename_i hset
  refine aa h λxs e1 hh1=>?_;refine aa hh1 λit e2 hh2=>?_;obtain ⟨b',e3,h3⟩:=ct hh2;clear h hh1 hh2;have hi:=vU (ba ff gcs hΦ hff 40 c) e1 e2;clear e1 e2;cases xs with
  | nil=>have h:=h3;cases h
  | cons x l_0=>
   cases l_0 with
   | nil=>
    obtain ⟨i,e4,rfl⟩:=ae (show ((varOf c x).map λi=>Sm.for1 i it b')=some st' from h3);have h3:=(aq e4).2.2;exact uf (by simpa using hset) ((aq e4).2.1) h3 hi (hb _ e3)
   | cons y l_1=>
    cases l_1 with
    | nil=>
     refine byG λX_ g_=>?_;refine aa (show ((varOf c x).bind λi=>(varOf c y).map λj=>Sm.for2 i j it b')=some st' from h3) λi e4 h=>?_;obtain ⟨j,e5,rfl⟩:=ae h;refine g_ ?_;exact ug (by simpa using hset) ((aq e4).2.1) ((aq e4).2.2) ((aq e5).2.1) ((aq e5).2.2) hi (hb _ e3)
    | cons=>cases h3
theorem oQ(ff:Str->Option Bool)(gcs:Str->Bool)(hΦ:P.FnOk r)(hff:∀ g fr,ff g=some fr->P.fr g=some fr/\∃ q,P.defs g=some q){g:List PySem.Stmt->Option Sms}(ih:∀ ss ss',g ss=some ss'->SSs P r c ow fr N ss ss'){st:PySem.Stmt}{st':Sm}(h:trS ff gcs g c st=some st'):SS P r c ow fr N st st':=by
 have he:=λ(e:PySem.Expr) (e':Ex)=>ba ff gcs hΦ hff 40 c e e';refine nG (G:=λst=>SS P r c ow fr N st st') h (λts value pos h=>?_) λh=>?_
 ·cases ts with
  | nil=>cases h
  | cons t ts=>
   cases ts with
   | nil=>exact kz ff gcs hΦ hff h
   | cons=>cases h
 refine nH (G:=λst=>SS P r c ow fr N st st') h (λvalue pos h=>oP ff gcs hΦ hff h) λh=>?_;refine j7 (G:=λst=>SS P r c ow fr N st st') h (λtest body orelse pos h=>?_) λh=>?_
 ·refine aa h λq e1 h=>?_
  refine aa h λa e2 h=>?_;obtain ⟨b,e3,rfl⟩:=ae h;exact xr (he _ _ e1).2 (ih _ _ e2) (ih _ _ e3)
 refine tA (G:=λst=>SS P r c ow fr N st st') h (λtest body orelse pos h=>?_) λh=>?_
 ·have w:=ay h
  rw [Q1.mp w.1];refine aa w.2 λq e1 h=>?_;obtain ⟨a,e2,rfl⟩:=ae h;exact qP (he _ _ e1).2 (ih _ _ e2)
 refine tB (G:=λst=>SS P r c ow fr N st st') h (λtgt iter body orelse pos h=>?_) λh=>?_
 ·have w:=ay h
  rw [Q1.mp w.1];exact kA ff gcs hΦ hff (λb' e=>ih _ _ e) w.2
 refine tC (G:=λst=>SS P r c ow fr N st st') h (λvalue pos h=>?_) λh=>?_
 ·refine aa h λv e0 h1=>?_
  obtain ⟨e,e1,rfl⟩:=ae h1;rw [e0];exact v6 (he _ _ e1).1
 exact tE (G:=λst=>SS P r c ow fr N st st') h (λa b pos h=>Qv h ▸ qQ) λh=>nomatch h
theorem ga{α:Type}{l:List α}{x:α}(h:one1 l=some x):l=[x]:=by
 cases l with
 | nil=>cases h
 | cons a l=>
  cases l with
  | nil=>exact Qf (λz=>[z]) (Qv h)
  | cons=>cases h
theorem iu{l:List PySem.Stmt}{q:PySem.Stmt × List PySem.Stmt}(h:hdS l=some q):l=q.1::q.2:=by
 cases l with
 | nil=>cases h
 | cons a l=>rw [<- Qv h]
theorem eh{e:PySem.Expr}{n:Int}(h:cInt e=some n):cU e=false/\isStar e=false/\∀ (r:Nat) (c:TC),P.SE r c e (.k (.int n)):=
 lj (G:=λe=>cU e=false/\isStar e=false/\∀ (r:Nat) (c:TC),P.SE r c e (.k (.int n))) h (λk kk p h=>⟨rfl,rfl,λr c=>aa h λd e1 h=>fO (bD h ▸ e1)⟩) λh=>nomatch h
theorem oR{x:Str}{st:PySem.Stmt}{b:Bool}(h:tapA x st=some b):∃ px ix pp apos a1 cpos p3,st = .Expr (.Call (.Attribute (.Subscript (.Name x px) ix pp) "append" apos) [a1] [] cpos) p3/\cInt ix=some 2/\cInt a1=some 1/\(apos.endLine == cpos.line)=true:=by
 refine nH (G:=λst=>∃ px ix pp apos a1 cpos p3,st = .Expr (.Call (.Attribute (.Subscript (.Name x px) ix pp) "append" apos) [a1] [] cpos) p3/\cInt ix=some 2/\cInt a1=some 1/\(apos.endLine == cpos.line)=true) h (λvalue p3 h=>?_) λh=>nomatch h;refine fz (G:=λvalue=>∃ px ix pp apos a1 cpos p4,PySem.Stmt.Expr value p3 = .Expr (.Call (.Attribute (.Subscript (.Name x px) ix pp) "append" apos) [a1] [] cpos) p4/\cInt ix=some 2/\cInt a1=some 1/\(apos.endLine == cpos.line)=true) h (λfn args kws cpos h=>?_) λh=>nomatch h;refine lk (G:=λfn=>∃ px ix pp apos a1 cpos2 p4,PySem.Stmt.Expr (.Call fn args kws cpos) p3 = .Expr (.Call (.Attribute (.Subscript (.Name x px) ix pp) "append" apos) [a1] [] cpos2) p4/\cInt ix=some 2/\cInt a1=some 1/\(apos.endLine == cpos2.line)=true) h (λo nm apos h=>?_) λh=>nomatch h;refine ig (G:=λo=>∃ px ix pp apos2 a1 cpos2 p4,PySem.Stmt.Expr (.Call (.Attribute o nm apos) args kws cpos) p3 = .Expr (.Call (.Attribute (.Subscript (.Name x px) ix pp) "append" apos2) [a1] [] cpos2) p4/\cInt ix=some 2/\cInt a1=some 1/\(apos2.endLine == cpos2.line)=true) h (λv ix pp h=>?_) λh=>nomatch h;refine aa h λx' e1 h=>?_;refine aa h λn e2 h=>?_;refine aa h λa e3 h=>?_;refine aa h λk e4 h=>?_;have w:=(ay h).1;rw [Qj,Qj,Qj,Qj,Qj] at w;refine (aR e1).elim λpx z=>?_;rw [z,Q4 w.1.1.1.1.1,Q4 w.1.1.2,ga e3,Q1.mp w.1.2];exact ⟨_,_,_,_,_,_,_,rfl,e2.trans (Qf some (Q4 w.1.1.1.1.2)),e4.trans (Qf some (Q4 w.1.1.1.2)),w.2⟩
theorem kB(ff:Str->Option Bool)(gcs:Str->Bool)(hΦ:P.FnOk r)(hff:∀ g fr,ff g=some fr->P.fr g=some fr/\∃ q,P.defs g=some q){g:List PySem.Stmt->Option Sms}(ih:∀ ss ss',g ss=some ss'->SSs P r c ow fr N ss ss'){s1 s2 s3:PySem.Stmt}{st':Sm}(h:vo ff gcs g c s1 s2 s3=some st'){rest:List PySem.Stmt}{rest':Sms}(hr:SSs P r c ow fr N rest rest'):SSs P r c ow fr N (s1::s2::s3::rest) (.cons st' rest'):=by
 refine nG (G:=λs1=>SSs P r c ow fr N (s1::s2::s3::rest) (.cons st' rest')) h (λts value pos h=>?_) λh=>nomatch h;refine aa h λt e1 h=>?_;refine aa h λx e2 h=>?_;refine aa h λi e3 h=>?_;refine aa h λq e4 h=>?_;refine aa h λa e5 h=>?_;refine aa h λy e6 h=>?_;refine aa h λj e7 h=>?_;refine aa h λfr' e8 h=>?_;have w:=ay h;refine j7 (G:=λs2=>SSs P r c ow fr N (.Assign ts value pos::s2::s3::rest) (.cons st' rest')) w.2 (λt1 b1 o1 p1 h=>?_) λh=>nomatch h;have w1:=ay h;refine aa w1.2 λc1 f1 h=>?_;refine aa h λk1 f2 h=>?_;refine j7 (G:=λs3=>SSs P r c ow fr N (.Assign ts value pos::.If t1 b1 o1 p1::s3::rest) (.cons st' rest')) h (λt2 b2 o2 p2 h=>?_) λh=>nomatch h;have w2:=ay h;refine aa w2.2 λp g1 h=>?_;refine aa h λu g2 h=>?_;refine aa h λc2 g3 h=>?_;refine byG λX_ g_=>?_;obtain ⟨k2,g4,rfl⟩:=ae h;obtain ⟨px,hpx⟩:=aR e2;obtain ⟨py,hpy⟩:=aR e6;obtain ⟨pf,pq,hcall⟩:=bY e4;obtain ⟨px2,ix,pp,apos,a1,cpos,p3,hst,hi,ha,hl⟩:=oR g2;refine g_ ?_;rw [ga e1,hpx,hcall,ga e5,hpy,Q1.mp w1.1,Q1.mp w2.1,iu g1,hst];have sy:P.SE r c (.Name y py) (.v j):=fP (aq e7).1 (aq e7).2.2 (aq e7).2.1;exact ud (aq e3).1 (aq e3).2.1 (aq e3).2.2 (ox hΦ (hff _ _ e8).1 (cD w.1).1 (cD w.1).2 (YY _ _) (.cons rfl sy (both sy λ_=>rfl).2 .nil) (hff _ _ e8).2) (λ_=>rfl)
  (ba ff gcs hΦ hff 40 c _ _ f1).2 (ih _ _ f2) (ba ff gcs hΦ hff 40 c _ _ g3).2 ((eh hi).2.2 r c) (eh (P:=P) hi).1 ((eh ha).2.2 r c) (eh (P:=P) ha).2.1 hl (ih _ _ g4) hr
theorem mL(ff:Str->Option Bool)(gcs:Str->Bool)(hΦ:P.FnOk r)(hff:∀ g fr,ff g=some fr->P.fr g=some fr/\∃ q,P.defs g=some q)(n:Nat):∀ (ss:List PySem.Stmt) (ss':Sms),trSs ff gcs n c ss=some ss'->SSs P r c ow fr N ss ss':=by
 induction n with
 | zero=>
  intro ss ss' h;cases ss with
  | nil=>exact Qv h ▸ oM
  | cons=>cases h
 | succ n ih=>
  intro ss ss' h;cases ss with
  | nil=>exact Qv h ▸ oM
  | cons s ss=>
   have h:(match nN ff gcs (trSs ff gcs n c) c s ss with
    | some q=>(trSs ff gcs n c q.2).map λb=>Sms.cons q.1 b
    | none=>(trS ff gcs (trSs ff gcs n c) c s).bind λa=>(trSs ff gcs n c ss).map λb=>Sms.cons a b)=some ss':=h
   cases hq:nN ff gcs (trSs ff gcs n c) c s ss with
   | none=>
    rw [hq] at h;refine aa h λa e1 h=>?_;obtain ⟨b,e2,rfl⟩:=ae h;exact qO (oQ ff gcs hΦ hff ih e1) (ih ss b e2)
   | some q=>
    rw [hq] at h;obtain ⟨b,e2,rfl⟩:=ae h;refine aa hq λu f1 hq=>?_;refine aa hq λv f2 hq=>?_;obtain ⟨a,f3,e⟩:=ae hq;rw [<- e] at e2 ⊢;rw [iu f1,iu f2];exact kB ff gcs hΦ hff ih f3 (ih _ _ e2)
theorem ei:∀ (names:List (Str × NameKind)) (n:Nat) (acc:List (Str × Addr)) (x:Str),((x,NameKind.cell) ∈ names\/∃ a,acc.lookup x=some a)->∃ a,(cellsFrom n names acc).lookup x=some a:=by
 intro names;induction names with
 | nil=>
  intro n acc x h;exact h.elim (λq=>nomatch q) λq=>q
 | cons p_ rest ih_=>
  obtain ⟨y,k⟩:=p_;intro n acc x h;unfold cellsFrom
  by_cases hk:(k == .cell)=true
  ·rw [Ql hk]
   refine ih_ _ _ x ?_
   by_cases hy:x=y
   ·subst hy;exact .inr ⟨n,by simp⟩
   ·rcases h with h | ⟨a,h⟩
    ·rcases Qw h with e | h
     ·cases e;exact absurd rfl hy
     ·exact .inl h
    ·exact .inr ⟨a,by rw [ZX,beq_eq_false_iff_ne.mpr hy];exact h⟩
  ·rw [Qu hk]
   refine ih_ _ _ x ?_;rcases h with h | h
   ·rcases Qw h with e | h
    ·cases e;exact absurd rfl hk
    ·exact .inl h
   ·exact .inr h
theorem jz(kindOf:Str->Option NameKind):∀ (l:List (Str × Value)) (m:Str->Option Value) (x:Str),(l.map (·.1)).Nodup->kindOf x=some .local->bindL kindOf l m x=match l.lookup x with | some v=>some v | none=>m x
 | [],_,_,_,_=>rfl
 | (n,v)::rest,m,x,hn,hk=>by
  rw [QX,Q8] at hn;unfold bindL;rw [jz kindOf rest _ x hn.2 hk,ZX];cases hb:x == n with
  | true=>
   have e:=Q4 hb;subst e;have:rest.lookup x=none:=by
    cases q:rest.lookup x with
    | none=>rfl
    | some w=>exact absurd (YM (f:=(·.1)) (bp q)) hn.1
   rw [this];simp [hk]
  | false=>
   have hne:x ≠ n:=by simpa using hb
   cases q:rest.lookup x with
   | some w=>rfl
   | none=>
    simp only;split
    ·simp [hne]
    ·rfl
theorem jA(kindOf:Str->Option NameKind):∀ (l:List (Str × Value)) (m:Str->Option Value) (x:Str),(l.map (·.1)).Nodup->kindOf x ≠ some .local->bindC kindOf l m x=match l.lookup x with | some v=>some v | none=>m x
 | [],_,_,_,_=>rfl
 | (n,v)::rest,m,x,hn,hk=>by
  rw [QX,Q8] at hn;unfold bindC;rw [jA kindOf rest _ x hn.2 hk,ZX];cases hb:x == n with
  | true=>
   have e:=Q4 hb;subst e;have:rest.lookup x=none:=by
    cases q:rest.lookup x with
    | none=>rfl
    | some w=>exact absurd (YM (f:=(·.1)) (bp q)) hn.1
   rw [this];simp [hk]
  | false=>
   have hne:x ≠ n:=by simpa using hb
   cases q:rest.lookup x with
   | some w=>rfl
   | none=>
    simp only;split
    ·rfl
    ·simp [hne]
theorem dC:∀ {pn:List Str} {vs:List Value} {i:Nat} {x:Str} {v:Value},pn.Nodup->pn[i]?=some x->vs[i]?=some v->(pn.zip vs).lookup x=some v:=by
 intro pn;induction pn with
 | nil=>intro vs i x v _ h _;cases h
 | cons p pn ih=>
  intro vs i x v hn h1 h2;cases vs with
  | nil=>cases h2
  | cons w vs=>
   cases i with
   | zero=>
    cases h1;cases h2;rw [Xs,ZX,Zh]
   | succ i=>
    rw [Q8] at hn;have q:x ≠ p:=λq=>hn.1 (q ▸ Qa h1);rw [Xs,ZX,beq_eq_false_iff_ne.mpr q];exact ih hn.2 h1 h2
structure FnCk(P:Pk)(ff:Str->Option Bool)(gcs:Str->Bool)(f:Str)(q:FR)(fn:Fn)(pn:List Str)(names:List Str):Prop where
 def':P.defs f=some q
 frs:P.fr f=some fn.fr
 nd:names.Nodup
 pre:pn=names.take fn.np
 np:fn.np<=names.length
 ns:fn.ns=names.length
 kinds:pn.all (λx=>q.scope.names.lookup x == some .local||q.scope.names.lookup x == some .cell)=true
 bind:∀ (vs:List Value) (pm cd doc:Value),vs.length=fn.np->bindArgs (Calls.docDef f q.params q.body q.scope pm cd doc) ⟨vs,[]⟩=pure (pn.zip vs)
 co:q.scope.isCoroutine=false
 gen:q.scope.isGenerator=false
 kind:q.scope.kind = .function
 tr:trSs ff gcs 60 ⟨names,λx=>q.scope.names.lookup x⟩ q.body=some fn.body
 ok:okSs fn.ow fn.body=true
 ow:fn.ow.all (λi=>decide (fn.np<=i/\i < fn.ns))=true
theorem Room.deeper{A:Around}{r:Nat}(h:Room A (r+1))(env:Env):Room (A.deeper env) r:=by
 refine ⟨h.hd,?_,?_⟩
 ·show A.depth+1+r+60 < _
  rw [Xr A.depth 1 r];exact h.depth
 ·refine Qh (Zt ?_ 300) h.units
  show A.units+3+4 * r<=_;rw [Xr A.units 3 (4 * r)];exact Zs _
theorem fn_sound{ff:Str->Option Bool}{gcs:Str->Bool}(hΦ:P.FnOk r)(hff:∀ g fr,ff g=some fr->P.fr g=some fr/\∃ q,P.defs g=some q){f:Str}{q:FR}{fn:Fn}{pn names:List Str}(K:FnCk P ff gcs f q fn pn names)
 (A:Around) (s:Shared) (vs:List Value) (ds:List D) (as:List Addr) (d:D) (hA:Room A (r+1)) (hg:P.GP s.heap) (ra:RdAll P.H s.heap vs ds as) (hev:runFn P.Φ P.Γ N fn ds=some d) :
 ∃ a o fd,P.mg f=some (.ref a)/\s.heap.get? a=some o/\o.data = .func fd/\wpAny (model P.prog P.w) A (call (.ref a) vs)
  (λv s'=>Kp s s'/\∃ bs,Rd P.H s'.heap v d bs/\(∀ x ∈ bs,s.heap.get? x=none\/x ∈ as)/\(fn.fr=true->∀ x ∈ bs,s.heap.get? x=none)) (λ_ _=>False) s:=by
 refine byG λX_ g_=>?_;obtain ⟨a,o,pm,code,doc,h1,h2,h3,h4⟩:=hg.fn f q K.def';refine g_ ?_;refine ⟨a,o,_,h1,h2,h3,?_⟩;unfold runFn at hev;split at hev
 case isFalse=>cases hev
 rename_i hnp;have hvl:vs.length=fn.np:=by rw [ra.length,hnp]
 have hpl:pn.length=fn.np:=by rw [K.pre,ZF,YD K.np]
 have hpn:pn.Nodup:=by rw [K.pre];exact K.nd.sublist (List.take_sublist _ _)
 have hz1:(pn.zip vs).map (·.1)=pn:=List.map_fst_zip (Zd (hpl.trans hvl.symm));have hkin:∀ x ∈ pn,q.scope.names.lookup x=some .local\/q.scope.names.lookup x=some .cell:=λx hx=>by
  have:=ZK.mp K.kinds x hx
  simpa using this
 have ge0:∀ {i:Nat} {dd:D},(ds.map some++List.replicate (fn.ns - fn.np) none)[i]?=some (some dd)->ds[i]?=some dd/\i < fn.np:=λ{i dd} h=>by
  by_cases hi:i < ds.length
  ·rw [Zx (by simpa using hi),Qy] at h
   obtain ⟨x,e1,e2⟩:=QK h;cases e2;exact ⟨e1,hnp ▸ hi⟩
  ·rw [ZW (by simp;(exact YV hi))] at h
   have:=Qa h;simp at this
 have mlen:(ds.map some++List.replicate (fn.ns - fn.np) none).length=fn.ns:=by rw [QW,lX,YZ,hnp,Nat.add_sub_cancel' (K.ns ▸ K.np)]
 have owlo:∀ i,fn.ow.contains i=true->fn.np<=i/\i < fn.ns:=λi h=>by
  have:=ZK.mp K.ow i (by simpa using h)
  simpa using this
 have hzip:∀ x ∈ pn.zip vs,x.1 ∈ pn:=λx hx=>by
  have:x.1 ∈ (pn.zip vs).map (·.1):=YM hx;rw [hz1] at this;exact this
 have snone:∀ b,s.heap.objs.size<=b->s.heap.get? b=none:=λb hb=>aJ hb;refine wpAny_call (PyProof.Rows.call_cells_ret (Qh (QQ (QI _ _) (QI _ _)) hA.depth) h2 h3 hg.nolimit h4 (K.bind vs pm code doc hvl) (λx hx=>?_) (λh₁ tk F X=>?_) K.co K.gen K.kind)
 ·rcases hkin x.1 (hzip x hx) with z | z
  ·exact .inl z
  ·obtain ⟨c0,e⟩:=ei q.scope.names (s.heap.objs.size+1) [] x.1 (.inl (bp z))
   exact .inr ⟨z,by rw [e];rfl⟩
 ·have hcn:∀ x c0,(cellsFrom (s.heap.objs.size+1) q.scope.names []).lookup x=some c0->s.heap.get? c0=none:=λx c0 e=>snone c0 (Qm (X.above x c0 (mem_of_lookup e)))
  have hck:∀ x,q.scope.names.lookup x=some .cell->∃ c0,(cellsFrom (s.heap.objs.size+1) q.scope.names []).lookup x=some c0:=λx e=>ei _ _ _ x (.inl (bp e));have I:Inv P r ⟨names,λx=>q.scope.names.lookup x⟩ (A.deeper (PyProof.Rows.envOfC f q.scope s.heap.objs.size a code)) (PyProof.Rows.envOfC f q.scope s.heap.objs.size a code) fn.ow s as { s with heap:=h₁,toks:=tk } (ds.map some++List.replicate (fn.ns - fn.np) none) (λ_=>0) (λb=>b ∈ as\/h₁.get? b=none):=by
   refine ⟨hA.deeper _,hg,⟨K.kind,rfl,rfl,λ_=>rfl,?_,λi hi=>?_,λx hx=>hck x hx,λx i dd hs hm hk=>?_⟩,λb hb=>.inr hb,Kp.setHeap (Kp.refl s) F.keep,λb hb=>hb.imp id λhb=>?_,⟨_,F.ns⟩,λx c0 e=>⟨_,X.cell x c0 e⟩,λx y c0 e1 e2=>name_of_addr X.apart (mem_of_lookup e1) (mem_of_lookup e2),λhb=>?_,λx c0 e hb=>?_,snone _ (QO _),hcn,λi dd hi hm _=>?_,λi j dd dd' _ hi _ hm _ _ _=>?_⟩
   ·exact mlen.trans K.ns
   ·exact Yh (owlo i hi).2 mlen.symm
   ·refine byG λX_ g_=>?_
    obtain ⟨e1,e2⟩:=ge0 hm;obtain ⟨hi,hx⟩:=bE hs;have hpx:pn[i]?=some x:=by rw [K.pre,Xu,Ql e2];exact hx
    obtain ⟨v,bs,ev,rv,hb⟩:=ra.get e1;refine g_ ?_;refine ⟨v,bs,?_,rv.keeps F.keep,λz=>?_,λ_ b hb'=>.inl (hb b hb')⟩
    ·rcases hk with hk | hk
     ·refine .inl ⟨hk,_,F.ns,?_⟩
      rw [jz (PyProof.Rows.envOfC f q.scope s.heap.objs.size a code).kindOf _ _ _ (by rw [hz1];exact hpn) hk,(dC hpn hpx ev)]
     ·obtain ⟨c0,e⟩:=hck x hk
      refine .inr ⟨hk,c0,e,?_⟩;have:=X.cell x c0 e;rw [jA _ _ _ _ (by rw [hz1];exact hpn) (λz=>by rw [show (PyProof.Rows.envOfC f q.scope s.heap.objs.size a code).kindOf x=some .cell from hk] at z;cases z),(dC hpn hpx ev)] at this;exact this
    ·exact absurd e2 (Z7.mpr (owlo i z).1)
   ·cases z:s.heap.get? b with
    | none=>rfl
    | some o'=>rw [F.keep b o' z] at hb;cases hb
   ·rcases hb with hb | hb
    ·obtain ⟨o',e,_⟩:=ra.old _ hb
     rw [show s.heap.get? (PyProof.Rows.envOfC f q.scope s.heap.objs.size a code).locals=none from snone _ (QO _)] at e;cases e
    ·obtain ⟨o',_,_,e,_⟩:=F.ns
     rw [show h₁.get? (PyProof.Rows.envOfC f q.scope s.heap.objs.size a code).locals=some o' from e] at hb;cases hb
   ·rcases hb with hb | hb
    ·obtain ⟨o',e',_⟩:=ra.old _ hb
     rw [hcn x c0 e] at e';cases e'
    ·obtain ⟨o',e',_⟩:=X.cell x c0 e
     rw [e'] at hb;cases hb
   ·exact absurd (ge0 hm).2 (Z7.mpr (owlo i hi).1)
   ·exact absurd (ge0 hm).2 (Z7.mpr (owlo i hi).1)
  have body:=mL (P:=P) (r:=r) (c:=⟨names,λx=>q.scope.names.lookup x⟩) (ow:=fn.ow) (fr:=fn.fr) (N:=N) ff gcs hΦ hff 60 q.body fn.body K.tr;cases hx:exSs P.Φ P.Γ fn.ow fn.fr N fn.body (ds.map some++List.replicate (fn.ns - fn.np) none) with
  | none=>rw [hx] at hev;cases hev
  | some res=>
   rw [hx] at hev;refine Qs (body _ _ _ _ _ _ _ _ res I K.ok hx) (λfl s' hf=>?_) λ_ _ z=>z;obtain ⟨fl',m'⟩:=res;cases fl' with
   | next=>
    simp only [Qc] at hev;subst hev;obtain ⟨rfl,own',G',I',_⟩:=hf;exact ⟨I'.kp,[],.none,(λ_ z=>nomatch z),λ_ _ z=>nomatch z⟩
   | ret d'=>
    simp only [Qc] at hev;subst hev;refine byG λX_ g_=>?_;obtain ⟨v,rfl,k,bs,rd,u1,u2⟩:=hf;refine g_ ?_;exact ⟨k,bs,rd,u1,u2⟩
end
end Mine
set_option tactic.hygienic false
namespace Mine
open PySem
noncomputable def mkΦ(Γ:Str->Option D)(N:Nat):List (Str × Fn)->Str->List D->Option D
 | []=>λ_ _=>none
 | (f,fn)::rest=>λg args=>if g == f then runFn (mkΦ Γ N rest) Γ N fn args else mkΦ Γ N rest g args
theorem xu(Γ:Str->Option D)(N:Nat):mkΦ Γ N []=λ(x:Str) (x_1:List D)=>none:=rfl
theorem wj(Γ:Str->Option D)(N:Nat)(f:Str)(fn:Fn)(rest:List (Str × Fn)):mkΦ Γ N ((f,fn)::rest)=λ(g:Str) (args:List D)=>if (g == f)=true then runFn (mkΦ Γ N rest) Γ N fn args else mkΦ Γ N rest g args:=rfl
noncomputable def Pk.with(P:Pk)(Φ:Str->List D->Option D):Pk:={ P with Φ:=Φ }
theorem Room.less{A:Around}{r r':Nat}(h:Room A r)(hr:r'<=r):Room A r':=⟨h.hd,by have:=h.depth;lia,by have:=h.units;lia⟩
theorem wk{P:Pk}{gcs:Str->Bool}{N:Nat}(hd:∀ g fr,P.fr g=some fr->∃ q,P.defs g=some q) :
 ∀ (tbl:List (Str × Fn)),(∀ e ∈ tbl,∃ q pn names,FnCk P P.fr gcs e.1 q e.2 pn names)->(P.with (mkΦ P.Γ N tbl)).FnOk tbl.length:=by
 intro tbl;induction tbl with
 | nil=>
  intro _;intro f fr _ A s vs ds as d _ _ _ h;simp [Pk.with,xu] at h
 | cons p_ rest ih_=>
  intro hc;obtain ⟨f,fn⟩:=p_;have ih:=ih_ λe he=>hc e (.tail _ he);intro g fr hg A s vs ds as d hA hgp ra hev;obtain ⟨q,pn,names,K⟩:=hc (f,fn) (.head _);have hgp':(P.with (mkΦ P.Γ N rest)).GP s.heap:=⟨hgp.g,hgp.b,hgp.nolimit,hgp.fn,hgp.gc,hgp.bi,hgp.bb,hgp.hs⟩
  simp only [Pk.with,wj] at hev
  by_cases hb:(g == f)=true
  ·rw [Ql hb] at hev
   have e:=Q4 hb;subst e;have K':FnCk (P.with (mkΦ P.Γ N rest)) P.fr gcs g q fn pn names:=⟨K.def',K.frs,K.nd,K.pre,K.np,K.ns,K.kinds,K.bind,K.co,K.gen,K.kind,K.tr,K.ok,K.ow⟩
   refine byG λX_ g_=>?_;obtain ⟨a,o,fd,h1,h2,h3,h4⟩:=fn_sound (N:=N) ih (λg fr h=>⟨h,hd g fr h⟩) K' A s vs ds as d hA hgp' ra hev;refine g_ ?_;refine ⟨a,o,fd,h1,h2,h3,?_⟩;have:fr=fn.fr:=by
    have:=K.frs;rw [show P.fr g=some fr from hg] at this;exact Qv this
   rw [this];exact h4
  ·rw [Qu hb] at hev
   exact ih g fr hg A s vs ds as d (hA.less (Zs _)) hgp' ra hev
end Mine
set_option tactic.hygienic false
namespace Mine
open PySem
noncomputable def eR(p:Arguments):Bool:=p.posonlyargs.isEmpty&&p.vararg.isNone&&p.kwonlyargs.isEmpty&&p.kwarg.isNone&&p.defaults.isEmpty
theorem iw:∀ (pn:List Str) (vs:List Value),pn.Nodup->vs.length=pn.length->pn.filterMap (λn=>((pn.zip vs).lookup n).map (n,·))=pn.zip vs:=by
 intro pn vs hn hl;have key:∀ (l:List Str) (ws:List Value),ws.length=l.length->(∀ (i:Nat) (x:Str) (v:Value),l[i]?=some x->ws[i]?=some v->(pn.zip vs).lookup x=some v)->l.filterMap (λn=>((pn.zip vs).lookup n).map (n,·))=l.zip ws:=by
  intro l;induction l with
  | nil=>intro ws _ _;rfl
  | cons x l ih=>
   intro ws hw h;cases ws with
   | nil=>cases hw
   | cons v ws=>
    rw [List.filterMap_cons,h 0 x v rfl rfl];simp only [mX,Xs];rw [ih ws (by simpa using hw) λi y w h1 h2=>h (i+1) y w (h1) (h2)]
 exact key pn vs hl λi x v h1 h2=>dC hn h1 h2
theorem qR{pn:List Str}{vs:List Value}(hn:pn.Nodup)(hl:vs.length=pn.length):(pn.take pn.length).filter (λn=>((pn.zip vs).lookup n).isNone)=[]:=by
 rw [Yz,List.filter_eq_nil_iff];intro x hx;obtain ⟨i,hi⟩:=Z4 hx;rw [dC hn hi (Qk (hl ▸ (Qq hi).1))];exact Qr
theorem ui{f:Str}{as:List Arg}{kw:List (Option Expr)}{body:List Stmt}{scope:Scope}{pm cd doc:Value}{vs:List Value}(hl:vs.length=(as.map λx:Arg=>x.arg).length)(hn:(as.map λx:Arg=>x.arg).Nodup) :
 bindArgs (Calls.docDef f ⟨[],as,none,[],kw,none,[]⟩ body scope pm cd doc) ⟨vs,[]⟩=pure ((as.map λx:Arg=>x.arg).zip vs):=by
 have hd:∀ n,List.drop n ((none:Option (Array Value)).getD #[]).toList=[]:=λo_=>List.drop_nil;refine (Qu (c:=(decide (vs.length > (as.map λx:Arg=>x.arg).length)&&true)=true) ?_).trans ?_
 ·rw [hl,Zk (Yd _)];exact Qr
 refine (Qu ?_).trans ?_
 ·rw [hd]
  show ¬ (!(((as.map λx:Arg=>x.arg).take (as.map λx:Arg=>x.arg).length).filter λn=>(((as.map λx:Arg=>x.arg).zip vs).lookup n).isNone).isEmpty)=true;rw [qR hn hl];exact Qr
 rw [hd,List.zip_nil_right];have hz:(as.map (λx:Arg=>x.arg)++[]).filterMap (λn=>(((as.map λx:Arg=>x.arg).zip vs).lookup n).map (n,·))=(as.map λx:Arg=>x.arg).zip vs:=by rw [Xa];exact iw _ vs hn hl
 exact Qf Sem.pure hz
theorem oS{p:Arguments}(h:eR p=true):p=⟨[],p.args,none,[],p.kw_defaults,none,[]⟩:=by
 obtain ⟨po,as,va,ko,kw,kd,de⟩:=p;obtain ⟨h,h5⟩:=Qz h;obtain ⟨h,h4⟩:=Qz h;obtain ⟨h,h3⟩:=Qz h;obtain ⟨h1,h2⟩:=Qz h;rw [show po=[] from Q1.mp h1,show ko=[] from Q1.mp h3,show de=[] from Q1.mp h5,show va=none from Y0.mp h2,show kd=none from Y0.mp h4]
theorem mM{f:Str}{params:Arguments}{body:List Stmt}{scope:Scope}{pm cd doc:Value}{vs:List Value}(h:eR params=true)(hl:vs.length=(params.args.map (·.arg)).length)(hn:(params.args.map (·.arg)).Nodup) :
 bindArgs (Calls.docDef f params body scope pm cd doc) ⟨vs,[]⟩=pure ((params.args.map (·.arg)).zip vs):=by
 rw [oS h];exact ui hl hn
noncomputable def uj(scope:Scope):List Str:=scope.names.filterMap λ(n,k)=>if k == .local||k == .cell then some n else none
noncomputable def jB:List Str->Bool
 | []=>true
 | x::r=>!r.contains x&&jB r
theorem qS(x_1:Str)(r:List Str):jB (x_1::r)=(!r.contains x_1&&jB r):=rfl
theorem ej:∀ {l:List Str},jB l=true->l.Nodup:=by
 intro l;induction l with
 | nil=>
  intro _;exact .nil
 | cons x r ej=>
  intro h;simp only [qS,Qj,QS,List.contains_eq_mem,Zg] at h;exact Q8.mpr ⟨h.1,ej h.2⟩
noncomputable def pnOf(q:FR):List Str:=q.params.args.map (·.arg)
noncomputable def kC(q:FR):List Str:=pnOf q++(uj q.scope).filter (λx=>!(pnOf q).contains x)
noncomputable def fnChecks(q:FR)(ow:List Nat)(body:Sms):Bool:=
 eR q.params&&jB (kC q)&&(pnOf q).all (λx=>q.scope.names.lookup x == some .local||q.scope.names.lookup x == some .cell) &&
 !q.scope.isCoroutine&&!q.scope.isGenerator&&q.scope.kind == .function&&okSs ow body&&ow.all (λi=>decide ((pnOf q).length<=i/\i < (kC q).length))
noncomputable def mkFn(ff:Str->Option Bool)(gcs:Str->Bool)(q:FR)(ow:List Nat)(fr:Bool):Option Fn:=
 (trSs ff gcs 60 ⟨kC q,λx=>q.scope.names.lookup x⟩ q.body).bind λbody=>
  if fnChecks q ow body then some ⟨(pnOf q).length,(kC q).length,ow,fr,body⟩ else none
noncomputable def jC(defs:Str->Option FR)(ff:Str->Option Bool)(gcs:Str->Bool):List (Str × List Nat × Bool)->Option (List (Str × Fn))
 | []=>some []
 | (f,ow,fr)::rest=>(defs f).bind λq=>(mkFn ff gcs q ow fr).bind λfn=>(jC defs ff gcs rest).bind λt=>if ff f == some fr then some ((f,fn)::t) else none
theorem uk(defs:Str->Option FR)(ff:Str->Option Bool)(gcs:Str->Bool):jC defs ff gcs []=some []:=rfl
theorem oT(defs:Str->Option FR)(ff:Str->Option Bool)(gcs:Str->Bool)(f:Str)(ow:List Nat)(fr:Bool)(rest:List (Str × List Nat × Bool)):jC defs ff gcs ((f,ow,fr)::rest)=(defs f).bind λ(q:FR)=>(mkFn ff gcs q ow fr).bind λ(fn:Fn)=>(jC defs ff gcs rest).bind λ(t:List (Str × Fn))=>if (ff f == some fr)=true then some ((f,fn)::t) else none:=rfl
set_option tactic.hygienic true in
theorem qT{P:Pk}{gcs:Str->Bool}:∀ (sgs:List (Str × List Nat × Bool)) (tbl:List (Str × Fn)),jC P.defs P.fr gcs sgs=some tbl->∀ e ∈ tbl,∃ q pn names,FnCk P P.fr gcs e.1 q e.2 pn names:=by
 intro sgs;induction sgs with
 | nil=>
  intro tbl h e he;simp only [uk,Qc] at h;subst h;cases he
 | cons p_ rest ih_=>
  obtain ⟨f,ow,fr⟩:=p_;intro tbl h e he;simp only [oT] at h;refine aa h λq e1 h=>?_;refine aa h λfn e2 h=>?_;refine aa h λt e3 h=>?_;split at h
  case isFalse=>cases h
  rename_i hff;cases h;rcases Qw he with rfl | he
  ·unfold mkFn at e2
   refine aa e2 λbody e4 e2=>?_;split at e2
   case isFalse=>cases e2
   rename_i hck;cases e2;unfold fnChecks at hck;simp only [Qj,QS,Q5] at hck;refine byG λX_ g_=>?_;obtain ⟨⟨⟨⟨⟨⟨⟨c1,c2⟩,c3⟩,c4⟩,c5⟩,c6⟩,c7⟩,c8⟩:=hck;refine g_ ?_;refine ⟨q,pnOf q,kC q,⟨e1,by simpa using hff,(ej c2),?_,?_,rfl,c3,λvs pm cd doc hl=>mM c1 hl ?_,c4,c5,c6,e4,c7,c8⟩⟩
   ·simp [kC]
   ·simp [kC]
   ·exact (ej c2).sublist (List.sublist_append_left _ _)
  ·exact ih_ t e3 e he
noncomputable def defsP(p:Program):Str->Option FR:=λf=>((PyProof.Rows.recsOf p).find? λd=>d.name == f).map λd=>⟨d.params,d.body,d.scope⟩
noncomputable def ffOf(sgs:List (Str × List Nat × Bool)):Str->Option Bool:=λf=>(sgs.lookup f).map (·.2)
noncomputable def sM(p:Program)(loose:List Str):Bool:=
 biNames.all λx=>!startupNames.contains x&&!loose.contains x&&!((PyProof.Rows.recsOf p).map (·.name)).contains x&&!((PyProof.Rows.litsOf p).map (·.1)).contains x&&!((PyProof.Rows.clssOf p loose).map (·.name)).contains x
theorem gb{sgs:List (Str × List Nat × Bool)}{p:Program}{gcs:Str->Bool}{ff:Str->Option Bool}:∀ {sgs:List (Str × List Nat × Bool)} {tbl:List (Str × Fn)},jC (defsP p) ff gcs sgs=some tbl->∀ g fr,ffOf sgs g=some fr->∃ q,defsP p g=some q
 | [],_,_,g,fr,h=>by cases h
 | (f,ow,fr')::rest,tbl,h,g,fr,hg=>by
  simp only [oT] at h;refine aa h λq e1 h=>?_;refine aa h λfn e2 h=>?_;refine aa h λt e3 h=>?_;unfold ffOf at hg;rw [ZX] at hg;cases hb:g == f with
  | true=>rw [Q4 hb];exact ⟨q,e1⟩
  | false=>
   rw [hb] at hg;exact gb (sgs:=sgs) e3 g fr hg
noncomputable def strH(w:World)(d:D):Int:=match strK d with
 | some x=>hashStr w x
 | none=>match unK d with
  | some p=>cL w p
  | none=>0
theorem lF:∀ l:List EnK,j0 (l.map enK)=some l
 | []=>rfl
 | e::l=>by
  show ((unEn (enK e)).bind λe=>(j0 (l.map enK)).map λl=>e::l)=_;rw [lF l];rfl
theorem lG(p:StK):unK (stK p)=some p:=by
 show ((j0 (p.2.map enK)).bind λes=>if ([]:List D).isEmpty then some (p.1,es) else none)=_;rw [lF];rfl
theorem strH_ok(w:World):(∀ x:Str,strH w (.str x)=hashStr w x)/\∀ p:StK,strH w (stK p)=cL w p:=⟨λo_=>rfl,λp=>by
 show (match unK (stK p) with | some p=>cL w p | none=>0)=_;rw [lG]⟩
theorem law_run{p:Program}{loose:List Str}{mean:ExcName->Option Value}{mg mb:Str->Option Value}{prog:Program}{w:World}{s:Shared}{fa l:Addr}{vs:Array Value}{n:Nat}{xs:List D}{sgs:List (Str × List Nat × Bool)}{tbl:List (Str × Fn)}{gcs:Str->Bool}{Γ:Str->Option D}{N:Nat}{H:D->Int}
 (T:PyProof.Rows.Top p loose mean mg mb s.heap) (hbi:sM p loose=true) (e:jC (defsP p) (ffOf sgs) gcs sgs=some tbl) (hH:nQ ⟨prog,w,H,mg,mb,mkΦ Γ N tbl,Γ,defsP p,ffOf sgs⟩) (hΓ:∀ x d,Γ x=some d->noList d=true/\∃ v,mg x=some v/\Rd H s.heap v d [])
 (hmg:mg "law" = some (.ref fa)) (hl:s.heap.get? l=some (listObj vs n)) (hz:vs.size<=sizeLine) (ra:RdAll H s.heap vs.toList xs []) (hfr:∃ b,ffOf sgs "law" = some b) (hn:tbl.length<=100)
 (hev:mkΦ Γ N tbl "law" [.list xs]=some (.bool true)) {Q E:Value->Shared->Prop} (hQ:∀ s',Kp s s'->Q (.bool true) s'):wpAny (model prog w) callerA (call (.ref fa) [.ref l]) Q E s:=by
 let P:Pk:=⟨prog,w,H,mg,mb,mkΦ Γ N tbl,Γ,defsP p,ffOf sgs⟩
 have gp:P.GP s.heap:=by
  refine ⟨T.g,T.b,T.nolimit,λf r h=>?_,hΓ,λx hx=>?_,T.builtins,hH⟩
  ·obtain ⟨d,e1,rfl⟩:=ae h
   have hnm:=List.find?_some e1;have:=T.fn d (Y1 e1);rw [Q4 hnm] at this;exact this
  ·have:=ZK.mp hbi x hx
   simp only [Qj,QS,List.contains_eq_mem,Zg] at this;obtain ⟨⟨⟨⟨h1,h2⟩,h3⟩,h4⟩,h5⟩:=this;exact T.free x h1 h2 h3 h4 h5
 obtain ⟨b,hb⟩:=hfr;have rm:Room callerA tbl.length:=by
  refine ⟨rfl,?_,?_⟩
  ·show 1+claimMargin+tbl.length+60 < recursionLimit
   have:1+claimMargin+100+60 < recursionLimit:=by decide
   exact Qh (Zt (ZQ hn _) 60) this
  ·show 4+4 * tbl.length+300 < cLine
   have:4+4 * 100+300 < cLine:=by decide
   exact Qh (Zt (ZQ (Zj 4 hn) 4) 300) this
 refine byG λX_ g_=>?_;obtain ⟨a,o,fd,h1,h2,h3,h4⟩:=(wk (P:=P) (gcs:=gcs) (N:=N) (λg fr h=>gb (sgs:=sgs) e g fr h) tbl (qT sgs tbl e)) "law" b hb callerA s [.ref l] [.list xs] _ (.bool true) rm gp (RdAll.one (.list hl hz ra)) hev;refine g_ ?_;have:a=fa:=by
  have h1:mg "law" = some (.ref a):=h1;rw [hmg] at h1;cases h1;rfl
 subst this;refine Qs h4 (λv s' q=>?_) λo_ o_ z=>z.elim;obtain ⟨k,bs,rd,_⟩:=q;cases rd;exact hQ s' k
end Mine
set_option tactic.hygienic false
namespace Mine
open PySem
noncomputable def dU:List Value->List Str->Bool
 | [],[]=>true
 | .str x _::vs,y::ys=>x == y&&dU vs ys
 | _,_=>false
theorem any_some{α:Type}{o:Option α}{p:α->Bool}(h:o.any p=true):∃ x,o=some x/\p x=true:=by
 cases o with
 | none=>cases h
 | some x=>exact ⟨x,rfl,h⟩
noncomputable def refA:Value->Option Addr
 | .ref a=>some a
 | _=>none
noncomputable def tupO:Obj->Option (String × Array Value)
 | ⟨.type t,none,.seq vs _,⟨[]⟩⟩=>some (t,vs)
 | _=>none
theorem oU{v:Value}{a:Addr}(h:refA v=some a):v = .ref a:=by
 cases v<;>first | (cases h;done) | (cases h;rfl)
noncomputable def kD(h:Heap)(v:Value)(xs:List Str):Bool:=(refA v).any λa=>(h.get? a).any λo=>(tupO o).any λp=>p.1 == "tuple" && dU p.2.toList xs
theorem gV{h:Heap}{v:Value}{xs:List Str}(e:kD h v xs=true):∃ a o p,v = .ref a/\h.get? a=some o/\tupO o=some p/\p.1 = "tuple" /\ dU p.2.toList xs=true:=by
 refine byG λX_ g_=>?_;obtain ⟨a,e1,e⟩:=any_some e;obtain ⟨o,e2,e⟩:=any_some e;obtain ⟨p,e3,e⟩:=any_some e;obtain ⟨e4,e5⟩:=Qz e;refine g_ ?_;exact ⟨a,o,p,oU e1,e2,e3,Q4 e4,e5⟩
theorem oV{o:Obj}{p:String × Array Value}(h:tupO o=some p):∃ n,o=⟨.type p.1,none,.seq p.2 n,⟨[]⟩⟩:=by
 obtain ⟨c,d,t,⟨l⟩⟩:=o;cases c<;>first | (cases h;done) | skip
 cases d<;>first | (cases h;done) | skip
 cases t<;>first | (cases h;done) | skip
 cases l<;>first | (cases h;done) | skip
 cases h;exact ⟨_,rfl⟩
set_option tactic.hygienic true in
theorem mN{H:D->Int}{h:Heap}{vs:List Value}:∀ {xs:List Str},dU vs xs=true->(∀ x ∈ xs,x.length<=sizeLine/\PyData.strOk x=true)->RdAll H h vs (xs.map .str) []:=by
 induction vs with
 | nil=>intro xs e _;cases xs with
  | nil=>exact .nil
  | cons=>cases e
 | cons v vs ih=>
  intro xs e ok;cases xs with
  | nil=>cases v<;>cases e
  | cons y ys=>
   cases v<;>first | (cases e;done) | skip
   rename_i x t;obtain ⟨e1,e2⟩:=Qz (show (x == y&&dU vs ys)=true from e);have q:=Q4 e1;subst q;exact .cons (.str x t (ok x (.head _)).1 (ok x (.head _)).2) (ih e2 λz hz=>ok z (.tail _ hz))
theorem qU{H:D->Int}{h:Heap}{v:Value}{xs:List Str}(e:kD h v xs=true)(hz:xs.length<=sizeLine)(ok:∀ x ∈ xs,x.length<=sizeLine/\PyData.strOk x=true):Rd H h v (.tuple (xs.map .str)) []:=by
 obtain ⟨a,o,p,rfl,ho,e3,e4,e5⟩:=gV e;obtain ⟨n,rfl⟩:=oV e3;rw [e4] at ho;have ra:=mN (H:=H) (h:=h) e5 ok;refine .tuple ho ?_ ra;have:=ra.length;simp only [QJ,lX] at this;rw [this];exact hz
theorem kE{h h':Heap}{v:Value}{xs:List Str}(e:kD h v xs=true)(hk:∀ b o,h.get? b=some o->h'.get? b=some o):kD h' v xs=true:=by
 obtain ⟨a,o,p,rfl,ho,e3,e4,e5⟩:=gV e;show ((h'.get? a).any λo=>(tupO o).any λp=>p.1 == "tuple" && dU p.2.toList xs)=true;rw [hk _ _ ho];show ((tupO o).any λp=>p.1 == "tuple" && dU p.2.toList xs)=true;rw [e3];exact Z6.mpr ⟨Q5.mpr e4,e5⟩
noncomputable def xF(lv:List (Str × List Str))(s:Shared):Bool:=lv.all λq=>(s.heap.nsMap mainGlobals q.1).any λv=>kD s.heap v q.2
noncomputable def xw(lv:List (Str × List Str))(mg:Str->Option Value)(h:Heap):Prop:=∀ q ∈ lv,∃ v,mg q.1=some v/\kD h v q.2=true
end Mine
set_option tactic.hygienic false
namespace Mine
open PySem
inductive Con | t (xs:List Str) | s (x:Str) | i (n:Int)
noncomputable def Con.d:Con->D
 | .t xs=>.tuple (xs.map .str)
 | .s x=>.str x
 | .i n=>.int n
noncomputable def sO(x:Str):Value->Bool
 | .str y _=>y == x
 | _=>false
noncomputable def sP(n:Int):Value->Bool
 | .int m _=>m == n
 | _=>false
noncomputable def oW(h:Heap)(v:Value):Con->Bool
 | .t xs=>kD h v xs
 | .s x=>sO x v
 | .i n=>sP n v
noncomputable def lH(x:Str):Bool:=decide (x.length<=sizeLine)&&PyData.strOk x
noncomputable def Con.fit:Con->Bool
 | .t xs=>decide (xs.length<=sizeLine)&&xs.all lH
 | .s x=>lH x
 | .i _=>true
set_option tactic.hygienic true in
theorem qV{H:D->Int}{h:Heap}{v:Value}:∀ {k:Con},oW h v k=true->k.fit=true->Rd H h v k.d []
 | .t xs,e,f=>by
  rw [show (Con.t xs).fit=(decide (xs.length<=sizeLine)&&xs.all lH) from rfl,Qj,QE] at f;exact qU e f.1 λx hx=>by
   have:=ZK.mp f.2 x hx;rw [lH,Qj,QE] at this;exact this
 | .s x,e,f=>by
  rw [show (Con.s x).fit=(decide (x.length<=sizeLine)&&PyData.strOk x) from rfl,Qj,QE] at f;replace e:sO x v=true:=e;cases v<;>first | (cases e;done) | skip
  rename_i y t;have:y=x:=Q4 (show (y == x)=true from e);subst this;exact .str _ _ f.1 f.2
 | .i n,e,_=>by
  replace e:sP n v=true:=e;cases v<;>first | (cases e;done) | skip
  rename_i y t;have:y=n:=Q4 (show (y == n)=true from e);subst this;exact .int _ _
theorem kF{h h':Heap}{v:Value}(hk:∀ b o,h.get? b=some o->h'.get? b=some o):∀ {k:Con},oW h v k=true->oW h' v k=true
 | .t _,e=>kE e hk
 | .s _,e=>e
 | .i _,e=>e
noncomputable def consAt(lv:List (Str × Con))(s:Shared):Bool:=lv.all λq=>(s.heap.nsMap mainGlobals q.1).any λv=>oW s.heap v q.2
noncomputable def ConsAre(lv:List (Str × Con))(mg:Str->Option Value)(h:Heap):Prop:=∀ q ∈ lv,∃ v,mg q.1=some v/\oW h v q.2=true
theorem cons_of{lv:List (Str × Con)}(s:Shared)(e:consAt lv s=true):ConsAre lv (s.heap.nsMap mainGlobals) s.heap:=by
 intro q hq;have:=ZK.mp e q hq;simp only [Option.any_eq_true] at this;exact this
theorem ConsAre.keeps{lv:List (Str × Con)}(mg:Str->Option Value)(h h':Heap)(x:ConsAre lv mg h)(hk:∀ b o,h.get? b=some o->h'.get? b=some o):ConsAre lv mg h':=
 λq hq=>(x q hq).imp λv r=>⟨r.1,kF hk r.2⟩
noncomputable def gcOf(lv:List (Str × Con)):Str->Option D:=λx=>(lv.lookup x).map Con.d
theorem oX{lv:List (Str × Con)}{x:Str}{k:Con}(e:lv.lookup x=some k):(x,k) ∈ lv:=by
 induction lv with
 | nil=>cases e
 | cons p lv ih=>
  rw [ZX] at e;cases hb:x == p.1 with
  | true=>
   rw [hb] at e;cases e;rw [Q4 hb];exact .head _
  | false=>
   rw [hb] at e;exact .tail _ (ih e)
theorem gcOf_rd{lv:List (Str × Con)}(hf:(lv.all λq=>q.2.fit&&noList q.2.d)=true){mg:Str->Option Value}{h:Heap}(X:ConsAre lv mg h){H:D->Int}{x:Str}{d:D}(e:gcOf lv x=some d):noList d=true/\∃ v,mg x=some v/\Rd H h v d []:=by
 refine byG λX_ g_=>?_;obtain ⟨k,e1,rfl⟩:=ae e;have:=ZK.mp hf _ (oX e1);rw [Qj] at this;obtain ⟨v,h1,h2⟩:=X _ (oX e1);refine g_ ?_;exact ⟨this.2,v,h1,qV h2 this.1⟩
end Mine
set_option tactic.hygienic false
namespace Mine
open PySem
theorem fo(a b:String):(Str.ofString a=Str.ofString b)↔a=b:=by
 constructor
 ·intro h
  rw [Str.ofString_eq_toList,Str.ofString_eq_toList] at h;have h:=Qf (λx:Str=>x.cps.toList) h;simp only at h;exact String.toList_inj.mp (by
   have inj:∀ (l m:List Char),l.map Char.toNat=m.map Char.toNat->l=m:=by
    intro l;induction l with
    | nil=>intro m h;cases m<;>simp_all
    | cons c l ih=>
     intro m h;cases m with
     | nil=>cases h
     | cons d m=>
      simp only [QX,List.cons.injEq] at h;rw [ih m h.2];have:c=d:=Char.ext (UInt32.toNat_inj.mp h.1);rw [this]
   exact inj _ _ h)
 ·rintro rfl;rfl
theorem kG(a b:String):(Str.ofString a == Str.ofString b)=decide (a=b):=by
 rw [ZZ];simp [fo]
theorem gd{α:Type}{f:List D->Option D}{c:List D->Option Bool}(h:α->List D)(p:α->Bool)(g:α->D):∀ (es:List α),(∀ e ∈ es,c (h e)=some (p e))->(∀ e ∈ es,p e=true->f (h e)=some (g e)) ->
 dM f c (es.map h)=some ((es.filter p).map g):=by
 intro es;induction es with
 | nil=>
  intro _ _;exact rfl
 | cons e es ih_=>
  intro hc hf;have ih:=ih_ (λx hx=>hc x (.tail _ hx)) (λx hx=>hf x (.tail _ hx));simp only [QX,nr,hc e (.head _),bX];cases hp:p e with
  | true=>simp [hf e (.head _) hp,ih,hp]
  | false=>simp [ih,hp]
set_option tactic.hygienic true in
theorem lI{b:List D->St->Option (Fl × St)}(I:Nat->St->Prop):∀ (items:List (List D)) (k:Nat) (m:St),I k m->(∀ i vs m,items[i]?=some vs->I (k+i) m->∃ m',b vs m=some (.next,m')/\I (k+i+1) m')->∃ m',forL b items m=some (.next,m')/\I (k+items.length) m':=by
 intro items;induction items with
 | nil=>
  intro k m h _;exact ⟨m,rfl,h⟩
 | cons vs r ih_=>
  intro k m h hs;obtain ⟨m1,e1,h1⟩:=hs 0 vs m rfl h;obtain ⟨m2,e2,h2⟩:=ih_ (k+1) m1 h1 λi ws m hi hm=>by
   have:=hs (i+1) ws m (hi) (by rw [show k+(i+1)=k+1+i by exact (Yj k i).symm];exact hm);rw [show k+(i+1)+1=k+1+i+1 by exact Qf Nat.succ (Yj k i).symm] at this;exact this
  refine ⟨m2,?_,by rw [QV,show k+(r.length+1)=k+1+r.length by exact (Yj k r.length).symm];exact h2⟩;simp only [gI,e1];exact e2
theorem ex1{α τ:Type}{f:α->τ}{m:τ}{P:τ->Prop}(h:∃ a,m=f a)(k:∀ a,P (f a)):P m:=h.elim λa q=>q ▸ k a
theorem al1{α τ:Type}{f:α->τ}{P:τ->Prop}(k:∀ a,P (f a))(m:τ)(h:∃ a,m=f a):P m:=ex1 h k
theorem ex2{α β τ:Type}{f:α->β->τ}{m:τ}{P:τ->Prop}(h:∃ a b,m=f a b)(k:∀ a b,P (f a b)):P m:=h.elim λa h=>h.elim λb q=>q ▸ k a b
theorem al2{α β τ:Type}{f:α->β->τ}{P:τ->Prop}(k:∀ a b,P (f a b))(m:τ)(h:∃ a b,m=f a b):P m:=ex2 h k
theorem ex4{α β γ δ τ:Type}{f:α->β->γ->δ->τ}{m:τ}{P:τ->Prop}(h:∃ a b c d,m=f a b c d)(k:∀ a b c d,P (f a b c d)):P m:=h.elim λa h=>h.elim λb h=>h.elim λc h=>h.elim λd q=>q ▸ k a b c d
theorem al4{α β γ δ τ:Type}{f:α->β->γ->δ->τ}{P:τ->Prop}(k:∀ a b c d,P (f a b c d))(m:τ)(h:∃ a b c d,m=f a b c d):P m:=ex4 h k
theorem ex5{α β γ δ ε τ:Type}{f:α->β->γ->δ->ε->τ}{m:τ}{P:τ->Prop}(h:∃ a b c d e,m=f a b c d e)(k:∀ a b c d e,P (f a b c d e)):P m:=h.elim λa h=>h.elim λb h=>h.elim λc h=>h.elim λd h=>h.elim λe q=>q ▸ k a b c d e
theorem al5{α β γ δ ε τ:Type}{f:α->β->γ->δ->ε->τ}{P:τ->Prop}(k:∀ a b c d e,P (f a b c d e))(m:τ)(h:∃ a b c d e,m=f a b c d e):P m:=ex5 h k
theorem kH{α:Type}(h:α->D)(es:List α):one (es.map h)=es.map λe=>[h e]:=by
 simp [one]
section
variable {Φ:Str->List D->Option D}{Γ:Str->Option D}{m:St}{N:Nat}
theorem ev_v{i:Nat}{d:D}(h:m[i]?=some (some d)):evE Φ Γ (.v i) m=some d:=by rw [x_v,h];rfl
theorem ad{a b:Ex}{x y d:D}(h1:evE Φ Γ a m=some x)(h2:evE Φ Γ b m=some y)(h3:item x y=some d):evE Φ Γ (.idx a b) m=some d:=by rw [bj,h1,h2];exact h3
theorem ai{q:Bool}{f:Str}{es:Exs}{xs:List D}{d:D}(h1:evEs Φ Γ es m=some xs)(h2:Φ f xs=some d):evE Φ Γ (.call q f es) m=some d:=by rw [bg,h1];exact h2
theorem aj{op:CmpOp}{a b:Ex}{x y:D}{r:Bool}(h1:evE Φ Γ a m=some x)(h2:evE Φ Γ b m=some y)(h3:bl op x y=some r):evE Φ Γ (.cmp op a b) m=some (.bool r):=by rw [dN,h1,h2,bX,bX,h3];rfl
theorem cO{a:Ex}{b:Bool}(h:evE Φ Γ a m=some (.bool b)):evE Φ Γ (.not a) m=some (.bool (!b)):=by rw [p7,h];rfl
theorem aT{f:B1}{a:Ex}{x d:D}(h:evE Φ Γ a m=some x)(h2:b1 f x=some d):evE Φ Γ (.b1 f a) m=some d:=by rw [x_b1,h];exact h2
theorem aA{op:Operator}{a b:Ex}{x y d:D}(h1:evE Φ Γ a m=some x)(h2:evE Φ Γ b m=some y)(h3:cz op x y=some d):evE Φ Γ (.bin op a b) m=some d:=by rw [bh,h1,h2];exact h3
theorem a9{es:Exs}{xs:List D}(h:evEs Φ Γ es m=some xs):evE Φ Γ (.tup es) m=some (.tuple xs):=by rw [cB,h];rfl
theorem kI{o1 o2:CmpOp}{a b c:Ex}{x y z:D}{r:Bool}(h1:evE Φ Γ a m=some x)(h2:evE Φ Γ b m=some y)(h3:bl o1 x y=some true)(h4:evE Φ Γ c m=some z)(h5:bl o2 y z=some r):evE Φ Γ (.cmp2 o1 o2 a b c) m=some (.bool r):=by
 rw [nv,h1,h2,bX,bX,h3,bX,Ql rfl,h4,bX,h5];rfl
theorem x_or2'{e1 e2:Ex}(h1:evE Φ Γ e1 m=some (.bool true)):evE Φ Γ (.bool false (.cons e1 (.cons e2 .nil))) m=some (.bool true):=by
 rw [cr,eM,h1];rfl
theorem es0:evEs Φ Γ .nil m=some []:=rfl
theorem esC{e:Ex}{es:Exs}{x:D}{xs:List D}(h1:evE Φ Γ e m=some x)(h2:evEs Φ Γ es m=some xs):evEs Φ Γ (.cons e es) m=some (x::xs):=by rw [ax,h1,h2];rfl
theorem iy{a b:Ex}{x y d:D}(h1:evE Φ Γ a m=some x)(h2:evE Φ Γ b m=some y)(h3:j4 x y=some d):evE Φ Γ (.index a b) m=some d:=by rw [nx,h1,h2];exact h3
theorem aV{es:Exs}{xs:List D}(h:evEs Φ Γ es m=some xs):evE Φ Γ (.lst es) m=some (.list xs):=by rw [hY,h];rfl
theorem ev_c{c:Ex}{b:Bool}(h:evE Φ Γ c m=some (.bool b)):evC Φ Γ (.some c) m=some b:=by rw [j6,h];rfl
theorem lenL{α:Type}{f:α->D}(xs:List α):b1 .len (.list (xs.map f))=some (.int xs.length):=Qf (λn:Nat=>some (PyData.int n)) (YG f)
end
section
variable {Φ:Str->List D->Option D}{Γ:Str->Option D}{m:St}{ow:List Nat}{fr:Bool}{N:Nat}
theorem ge{e e2:Ex}{es:Exs}{b c:Bool}(h1:evE Φ Γ e m=some (.bool b))(h2:b=true->evB Φ Γ true (.cons e2 es) m=some (.bool c)):evB Φ Γ true (.cons e (.cons e2 es)) m=some (.bool (b&&c)):=by
 rw [eM,h1];cases b with
 | true=>simp only [bX,fJ,if_true,h2 rfl,Bool.true_and]
 | false=>rfl
theorem eS{e e2:Ex}{es:Exs}{b c:Bool}(h1:evE Φ Γ e m=some (.bool b))(h2:b=false->evB Φ Γ false (.cons e2 es) m=some (.bool c)):evB Φ Γ false (.cons e (.cons e2 es)) m=some (.bool (b||c)):=by
 rw [eM,h1];cases b with
 | false=>simp only [bX,fJ,if_true,h2 rfl,Xl]
 | true=>rfl
theorem aF{e1 e2:Ex}{b c:Bool}(h1:evE Φ Γ e1 m=some (.bool b))(h2:evE Φ Γ e2 m=some (.bool c)):evE Φ Γ (.bool true (.cons e1 (.cons e2 .nil))) m=some (.bool (b&&c)):=by
 rw [cr];exact ge h1 λo_=>by rw [eZ];exact h2
theorem eT{e1 e2:Ex}{b c:Bool}(h1:evE Φ Γ e1 m=some (.bool b))(h2:evE Φ Γ e2 m=some (.bool c)):evE Φ Γ (.bool false (.cons e1 (.cons e2 .nil))) m=some (.bool (b||c)):=by
 rw [cr];exact eS h1 λo_=>by rw [eZ];exact h2
theorem gW{e1 e2 e3:Ex}{b c d:Bool}(h1:evE Φ Γ e1 m=some (.bool b))(h2:evE Φ Γ e2 m=some (.bool c))(h3:evE Φ Γ e3 m=some (.bool d)):evE Φ Γ (.bool true (.cons e1 (.cons e2 (.cons e3 .nil)))) m=some (.bool (b&&(c&&d))):=by
 rw [cr];exact ge h1 λo_=>ge h2 λo_=>by rw [eZ];exact h3
theorem ul{e1 e2 e3:Ex}{b c d:Bool}(h1:evE Φ Γ e1 m=some (.bool b))(h2:evE Φ Γ e2 m=some (.bool c))(h3:evE Φ Γ e3 m=some (.bool d)):evE Φ Γ (.bool false (.cons e1 (.cons e2 (.cons e3 .nil)))) m=some (.bool (b||(c||d))):=by
 rw [cr];exact eS h1 λo_=>eS h2 λo_=>by rw [eZ];exact h3
set_option tactic.hygienic true in
theorem fx:exSs Φ Γ ow fr N .nil m=some (.next,m):=rfl
set_option tactic.hygienic true in
theorem aS{s:Sm}{r:Sms}{m':St}(h:exS Φ Γ ow fr N s m=some (.next,m')):exSs Φ Γ ow fr N (.cons s r) m=exSs Φ Γ ow fr N r m':=by rw [hZ,h]
theorem dW{s:Sm}{r:Sms}{m':St}{d:D}(h:exS Φ Γ ow fr N s m=some (.ret d,m')):exSs Φ Γ ow fr N (.cons s r) m=some (.ret d,m'):=by rw [hZ,h]
set_option tactic.hygienic true in
theorem qW{i:Nat}{e:Ex}{d:D}(h:evE Φ Γ e m=some d)(ho:(!ow.contains i||flat d)=true):exS Φ Γ ow fr N (.asg i e) m=some (.next,m.set i (some d)):=by rw [tj,h];exact Ql ho
set_option tactic.hygienic true in
theorem em{i:Nat}{e:Ex}{d:D}(h:evE Φ Γ e m=some d)(ho:ow.contains i=false):exS Φ Γ ow fr N (.asg i e) m=some (.next,m.set i (some d)):=qW h (by rw [ho];rfl)
theorem eo{e:Ex}{d:D}(h:evE Φ Γ e m=some d)(ho:(!fr||retOk ow e d)=true):exS Φ Γ ow fr N (.ret e) m=some (.ret d,m):=by rw [vc,h];exact Ql ho
theorem y_if{c:Ex}{t e:Sms}{d:D}{b:Bool}(h:evE Φ Γ c m=some d)(hb:truth d=some b):exS Φ Γ ow fr N (.ite c t e) m=if b then exSs Φ Γ ow fr N t m else exSs Φ Γ ow fr N e m:=by rw [nz,h,bX,hb];rfl
set_option tactic.hygienic true in
theorem y_no{c:Ex}{t:Sms}{d:D}(h:evE Φ Γ c m=some d)(hb:truth d=some false):exS Φ Γ ow fr N (.ite c t .nil) m=some (.next,m):=by rw [nz,h,bX,hb];rfl
theorem mO{c:Ex}{t e:Sms}{d:D}(h:evE Φ Γ c m=some d)(hb:truth d=some true):exS Φ Γ ow fr N (.ite c t e) m=exSs Φ Γ ow fr N t m:=by rw [nz,h,bX,hb];rfl
theorem lJ{c:Ex}{t e:Sms}{d:D}(h:evE Φ Γ c m=some d)(hb:truth d=some false):exS Φ Γ ow fr N (.ite c t e) m=exSs Φ Γ ow fr N e m:=by rw [nz,h,bX,hb];rfl
set_option tactic.hygienic true in
theorem wm{i:Nat}{e:Ex}{xs:List D}{d:D}(h0:m[i]?=some (some (.list xs)))(h:evE Φ Γ e m=some d)(hn:noList d=true)(hz:xs.length<=2 ^ 20):exS Φ Γ ow fr N (.app i e) m=some (.next,m.set i (some (.list (xs++[d])))):=by
 have hs:(noList d&&bL xs.length)=true:=by rw [hn,bL,Qn hz];rfl
 rw [u7,h0,h];exact Ql hs
theorem dX{α:Type}{elt:Ex}{it:It}{cond:Exo}(es:List α)(h:α->List D)(p:α->Bool)(g:α->D)(hi:evIt Φ Γ it m=some (es.map h))(hl:es.length<=2 ^ 20)(hz:cA it=false)
 (hc:∀ e ∈ es,evC Φ Γ cond (m++(h e).map some)=some (p e)) (hf:∀ e ∈ es,p e=true->evE Φ Γ elt (m++(h e).map some)=some (g e)):evE Φ Γ (.comp elt it cond) m=some (.list ((es.filter p).map g)):=by
 have hs:bL (es.map h).length=true:=by simp only [bL,lX,hl,decide_true]
 simp only [ny,hi,bX,hs,if_true,(gd (f:=λvs=>evE Φ Γ elt (m++vs.map some)) (c:=λvs=>evC Φ Γ cond (m++vs.map some)) h p g es hc hf),hz,Bool.not_false,Bool.true_or]
theorem bz{α:Type}{elt:Ex}{it:It}(es:List α)(h:α->List D)(g:α->D)(hi:evIt Φ Γ it m=some (es.map h))(hl:es.length<=2 ^ 20)(hz:cA it=false)
 (hf:∀ e ∈ es,evE Φ Γ elt (m++(h e).map some)=some (g e)):evE Φ Γ (.comp elt it .none) m=some (.list (es.map g)):=by
 have:=dX es h (λo_=>true) g hi hl hz (cond:=.none) (λe o_=>j5) (λe he o_=>hf e he);rw [this];have hflt:es.filter (λo_=>true)=es:=by simp
 rw [hflt]
theorem cY{α:Type}{e:Ex}{es:List α}{g:α->D}(h:evE Φ Γ e m=some (.tuple (es.map g))):evIt Φ Γ (.plain e) m=some (es.map λa=>[g a]):=by simp only [ib,h,bX,i5,mX,kH]
theorem bt{α:Type}{e:Ex}{es:List α}{g:α->D}(h:evE Φ Γ e m=some (.list (es.map g))):evIt Φ Γ (.plain e) m=some (es.map λa=>[g a]):=by simp only [ib,h,bX,iZ,mX,kH]
theorem bA{e:Ex}{n:Int}(h:evE Φ Γ e m=some (.int n))(hn:n.natAbs<=2 ^ 20):evIt Φ Γ (.range1 e) m=some ((List.range n.toNat).map λ(i:Nat)=>[PyData.int i]):=by
 have key:∀ (k:Nat) (a:Nat),one (cg (a:Int) k)=(List.range' a k).map λ(i:Nat)=>[PyData.int i]:=by
  intro k;induction k with
  | zero=>intro a;rfl
  | succ k ih=>
   intro a;have:=ih (a+1);simp only [one,d8,QX,Xw] at this ⊢;rw [<- this];rfl
 rw [i6,h];refine (Ql hn).trans ?_;have:=key n.toNat 0;rw [Yt];exact Qf some this
set_option tactic.hygienic true in
theorem oY{i:Nat}{it:It}{body:Sms}{items:List (List D)}(I:Nat->St->Prop)(hi:evIt Φ Γ it m=some items)(hz:cA it=false)(h0:I 0 m)
 (hs:∀ (k:Nat) (vs:List D) (m:St),items[k]?=some vs->I k m->∃ x m',vs=[x]/\exSs Φ Γ ow fr N body (m.set i (some x))=some (.next,m')/\I (k+1) m'):∃ m',exS Φ Γ ow fr N (.for1 i it body) m=some (.next,m')/\I items.length m':=by
 rw [nA,hi,bX,hz,Qu Qr];obtain ⟨m',e,h⟩:=lI (b:=λvs m=>match vs with | [x]=>exSs Φ Γ ow fr N body (setV m i x) | _=>none) I items 0 m h0 λk vs m hk hI=>by
  rw [Zc] at hI;obtain ⟨x,m',rfl,e,h⟩:=hs k vs m hk hI;exact ⟨m',e,by rw [Zc];exact h⟩
 rw [Zc] at h;exact ⟨m',e,h⟩
theorem dY{fn:Fn}{args:List D}{d:D}(m0:St){m':St}(hl:args.length=fn.np)(hm:args.map some++List.replicate (fn.ns - fn.np) none=m0)(h:exSs Φ Γ fn.ow fn.fr N fn.body m0=some (.ret d,m')):runFn Φ Γ N fn args=some d:=by
 simp only [runFn,hl,if_true,hm,h]
noncomputable def Rt(x:Option (Fl × St))(d:D):Prop:=∃ m',x=some (.ret d,m')
set_option tactic.hygienic true in
theorem bv{s:Sm}{r:Sms}{d:D}(m':St)(h:exS Φ Γ ow fr N s m=some (.next,m'))(k:Rt (exSs Φ Γ ow fr N r m') d):Rt (exSs Φ Γ ow fr N (.cons s r) m) d:=by rw [aS h];exact k
theorem af{e:Ex}{r:Sms}{d:D}(h:evE Φ Γ e m=some d)(ho:(!fr||retOk ow e d)=true):Rt (exSs Φ Γ ow fr N (.cons (.ret e) r) m) d:=⟨m,dW (eo h ho)⟩
theorem ao{c:Ex}{t e r:Sms}{x d:D}(h:evE Φ Γ c m=some x)(hb:truth x=some true)(k:Rt (exSs Φ Γ ow fr N t m) d):Rt (exSs Φ Γ ow fr N (.cons (.ite c t e) r) m) d:=by
 obtain ⟨m',k⟩:=k;exact ⟨m',dW ((mO h hb).trans k)⟩
theorem ag{c:Ex}{t r:Sms}{x d:D}(h:evE Φ Γ c m=some x)(hb:truth x=some false)(k:Rt (exSs Φ Γ ow fr N r m) d):Rt (exSs Φ Γ ow fr N (.cons (.ite c t .nil) r) m) d:=bv m (y_no h hb) k
theorem al{i:Nat}{e:Ex}{r:Sms}{d:D}(x:D)(h:evE Φ Γ e m=some x)(ho:ow.contains i=false)(k:Rt (exSs Φ Γ ow fr N r (m.set i (some x))) d):Rt (exSs Φ Γ ow fr N (.cons (.asg i e) r) m) d:=bv _ (em h ho) k
theorem av{fn:Fn}{args:List D}{d:D}(m0:St)(hl:args.length=fn.np)(hm:args.map some++List.replicate (fn.ns - fn.np) none=m0)(h:Rt (exSs Φ Γ fn.ow fn.fr N fn.body m0) d):runFn Φ Γ N fn args=some d:=by
 obtain ⟨m',h⟩:=h;exact dY m0 hl hm h
theorem oZ{i:Nat}{e:Ex}{r:Sms}{R:Option (Fl × St)}(x:D)(h:evE Φ Γ e m=some x)(ho:ow.contains i=false)(k:exSs Φ Γ ow fr N r (m.set i (some x))=R):exSs Φ Γ ow fr N (.cons (.asg i e) r) m=R:=(aS (em h ho)).trans k
set_option tactic.hygienic true in
noncomputable def Go(x:Option (Fl × St))(Q:St->Prop):Prop:=∃ m',x=some (.next,m')/\Q m'
theorem Go.mono{x:Option (Fl × St)}{Q Q':St->Prop}(h:Go x Q)(k:∀ m,Q m->Q' m):Go x Q':=h.elim λm' q=>⟨m',q.1,k m' q.2⟩
theorem ah{Q:St->Prop}(h:Q m):Go (exSs Φ Γ ow fr N .nil m) Q:=⟨m,fx,h⟩
theorem ar{s:Sm}{r:Sms}{Q' Q:St->Prop}(h:Go (exS Φ Γ ow fr N s m) Q')(k:∀ m',Q' m'->Go (exSs Φ Γ ow fr N r m') Q):Go (exSs Φ Γ ow fr N (.cons s r) m) Q:=by
 obtain ⟨m1,e1,q1⟩:=h;obtain ⟨m2,e2,q2⟩:=k m1 q1;exact ⟨m2,(aS e1).trans e2,q2⟩
theorem aw{i:Nat}{e:Ex}{r:Sms}{Q:St->Prop}(x:D)(h:evE Φ Γ e m=some x)(ho:ow.contains i=false)(k:Go (exSs Φ Γ ow fr N r (m.set i (some x))) Q):Go (exSs Φ Γ ow fr N (.cons (.asg i e) r) m) Q:=by
 obtain ⟨m2,e2,q2⟩:=k;exact ⟨m2,(aS (em h ho)).trans e2,q2⟩
theorem aO{c:Ex}{t e:Sms}{d:D}{b:Bool}{Q:St->Prop}(h:evE Φ Γ c m=some d)(hb:truth d=some b)(ht:b=true->Go (exSs Φ Γ ow fr N t m) Q)(he:b=false->Go (exSs Φ Γ ow fr N e m) Q):Go (exS Φ Γ ow fr N (.ite c t e) m) Q:=by
 cases b with
 | true=>rw [mO h hb];exact ht rfl
 | false=>rw [lJ h hb];exact he rfl
theorem bH{i:Nat}{e:Ex}{r:Sms}{xs:List D}{d:D}{Q:St->Prop}(h0:m[i]?=some (some (.list xs)))(h:evE Φ Γ e m=some d)(hn:noList d=true)(hz:xs.length<=2 ^ 20)(k:Go (exSs Φ Γ ow fr N r (m.set i (some (.list (xs++[d]))))) Q):Go (exSs Φ Γ ow fr N (.cons (.app i e) r) m) Q:=by
 obtain ⟨m2,e2,q2⟩:=k;exact ⟨m2,(aS (wm h0 h hn hz)).trans e2,q2⟩
theorem bM{i:Nat}{it:It}{body:Sms}{items:List (List D)}(I:Nat->St->Prop)(hi:evIt Φ Γ it m=some items)(hz:cA it=false)(h0:I 0 m)
 (hs:∀ (k:Nat) (vs:List D) (m:St),items[k]?=some vs->I k m->∃ x,vs=[x]/\Go (exSs Φ Γ ow fr N body (m.set i (some x))) (I (k+1))):Go (exS Φ Γ ow fr N (.for1 i it body) m) (I items.length):=by
 obtain ⟨m',e,q⟩:=oY (ow:=ow) (fr:=fr) (N:=N) (i:=i) (body:=body) I hi hz h0 λk vs m hk hI=>by
  refine byG λX_ g_=>?_;obtain ⟨x,e,m',e2,q⟩:=hs k vs m hk hI;refine g_ ?_;exact ⟨x,m',e,e2,q⟩
 exact ⟨m',e,q⟩
theorem aN{s:Sm}{r:Sms}{Q':St->Prop}{d:D}(h:Go (exS Φ Γ ow fr N s m) Q')(k:∀ m',Q' m'->Rt (exSs Φ Γ ow fr N r m') d):Rt (exSs Φ Γ ow fr N (.cons s r) m) d:=by
 obtain ⟨m1,e1,q1⟩:=h;obtain ⟨m2,e2⟩:=k m1 q1;exact ⟨m2,(aS e1).trans e2⟩
end
theorem fq:∀ l:List Str,aX (l.map .str)=true
 | []=>rfl
 | _::l=>by rw [QX,iY,fq l];rfl
theorem um(x:Str):shp (.str x)=true:=rfl
theorem lK(w:Str):∀ l:List Str,((l.map PyData.str).any λy=>y.eqv (.str w))=l.any λy=>y == w
 | []=>rfl
 | x::l=>by rw [QX,YQ,YQ,lK w l];rfl
theorem cq(w:Str)(l:List Str):pyIn (.str w) (.list (l.map .str))=some (l.any λy=>y == w):=by
 show anyEq (.str w) (l.map .str)=_;unfold anyEq;rw [fq,um,lK];rfl
theorem qX(w:Str)(l:List Str):pyIn (.str w) (.tuple (l.map .str))=some (l.any λy=>y == w):=cq w l
theorem v_in(x y:D):bl .In x y=pyIn x y:=rfl
theorem wo(x y:D):bl .NotIn x y=(pyIn x y).map (!·):=rfl
theorem am(b:Bool):truth (.bool b)=some b:=rfl
theorem kJ(x y:Str):bl .Eq (.str x) (.str y)=some (x == y):=rfl
theorem wp(x y:Str):bl .NotEq (.str x) (.str y)=some (!(x == y)):=rfl
theorem qY(x y:Int):bl .Eq (.int x) (.int y)=some (x == y):=rfl
theorem v_gt(x y:Int):bl .Gt (.int x) (.int y)=some (decide (y < x)):=rfl
theorem v_lt(x y:Int):bl .Lt (.int x) (.int y)=some (decide (x < y)):=rfl
theorem cS(x y:Int):cz .Add (.int x) (.int y)=some (.int (x+y)):=rfl
theorem xx(x y:Int):cz .Sub (.int x) (.int y)=some (.int (x - y)):=rfl
theorem wq(x y:Int)(h:mulOkI x y=true):cz .Mult (.int x) (.int y)=some (.int (x * y)):=Ql h
theorem wt(x y:Int)(h:(smallI x||smallI y)=true):cz .Mult (.int x) (.int y)=some (.int (x * y)):=wq x y (by trivial)
theorem ft(x y:Int)(h:smallI x=true):cz .Mult (.int x) (.int y)=some (.int (x * y)):=wt x y (by rw [h];rfl)
theorem wu(x y:Int)(h:smallI y=true):cz .Mult (.int x) (.int y)=some (.int (x * y)):=wt x y (by rw [h];simp)
theorem o4(x y:Int)(h:y ≠ 0/\y.natAbs < 1073741824):cz .FloorDiv (.int x) (.int y)=some (.int (x.fdiv y)):=Ql h
theorem bw(x y:Int)(h:y ≠ 0):cz .Mod (.int x) (.int y)=some (.int (x.fmod y)):=Ql h
theorem o5:cz .Pow (.int 10) (.int 9)=some (.int 1000000000):=rfl
theorem cZ(xs:List D):b1 .len (.list xs)=some (.int xs.length):=rfl
theorem o6(xs:List D):b1 .len (.tuple xs)=some (.int xs.length):=rfl
theorem gY(xs ys:List D)(h:xs.length+ys.length<=2 ^ 14):cz .Add (.tuple xs) (.tuple ys)=some (.tuple (xs++ys)):=Ql h
theorem fu(xs ys:List D)(h:xs.length+ys.length<=2 ^ 20):cz .Add (.list xs) (.list ys)=some (.list (xs++ys)):=Ql h
theorem wv(xs ys:Str)(h:xs.length+ys.length<=2 ^ 20):cz .Add (.str xs) (.str ys)=some (.str (xs++ys)):=Ql h
theorem ww(xs:List D):b1 .any (.list xs)=(cT xs).map λbs=>.bool (bs.any id):=rfl
theorem o7(xs:List D):b1 .all (.list xs)=(cT xs).map λbs=>.bool (bs.all id):=rfl
theorem p_mk{xs:List D}{i:Int}{k:Nat}{d:D}(h:aL xs.length i=some k)(hd:xs[k]?=some d):item (.list xs) (.int i)=some d:=by
 show ((aL xs.length i).bind λk=>xs[k]?)=some d;rw [h];exact hd
theorem wx{xs:List D}{i:Int}{k:Nat}{d:D}(h:aL xs.length i=some k)(hd:xs[k]?=some d):item (.tuple xs) (.int i)=some d:=by
 show ((aL xs.length i).bind λk=>xs[k]?)=some d;rw [h];exact hd
theorem a7{n:Nat}{i:Int}(h0:0<=i)(h:i < n):aL n i=some i.toNat:=by simp only [aL,h0,h,if_true]
noncomputable def lL(g:Str):List (Str × Fn)->List (Str × Fn)
 | []=>[]
 | (f,fn)::r=>if g == f then (f,fn)::r else lL g r
theorem qZ(g:Str)(f:Str)(fn:Fn)(rest:List (Str × Fn)):lL g ((f,fn)::rest)=if (g == f)=true then (f,fn)::rest else lL g rest:=rfl
theorem aB{Γ:Str->Option D}{N:Nat}{g:Str}{args:List D}:∀ {tbl:List (Str × Fn)} {fn:Fn} {rest:List (Str × Fn)},lL g tbl=(g,fn)::rest->mkΦ Γ N tbl g args=runFn (mkΦ Γ N rest) Γ N fn args:=by
 intro tbl;induction tbl with
 | nil=>
  intro _ _ h;cases h
 | cons p_ r ih_=>
  obtain ⟨f',fn'⟩:=p_;intro fn rest h;simp only [qZ] at h;simp only [wj];cases hb:g == f' with
  | true=>
   rw [Ql hb] at h;cases h;rfl
  | false=>
   rw [Qu (by simp [hb])] at h;simp only [QD,if_false];exact ih_ h
theorem gZ{Φ:Str->List D->Option D}{Γ:Str->Option D}{m:St}(i:Int):evE Φ Γ (.neg (.k (.int i))) m=some (.int (-i)):=rfl
theorem io_n:intO none=some none:=rfl
theorem io_i(i:Int):intO (some (.int i))=some (some i):=rfl
theorem wy(xs:List D)(lo hi:Option Int):slice (.list xs) lo hi=some (.list (cut xs lo hi)):=rfl
theorem wz(xs:List D)(lo hi:Option Int):slice (.tuple xs) lo hi=some (.tuple (cut xs lo hi)):=rfl
theorem nl_t(a:List D):noList (.tuple a)=an a:=rfl
theorem nl_i(a:Int):noList (.int a)=true:=rfl
theorem nl_s(a:Str):noList (.str a)=true:=rfl
theorem ns_n:an []=true:=rfl
theorem ns_c(x:D)(xs:List D):an (x::xs)=(noList x&&an xs):=rfl
theorem nd_l(a:List D):cf (.list a)=aX a:=rfl
theorem ds_c(x:D)(xs:List D):aX (x::xs)=(cf x&&aX xs):=rfl
theorem fl_l(a:List D):flat (.list a)=an a:=rfl
theorem v_eq(x y:D):bl .Eq x y=pyEq x y:=rfl
theorem wA(xs:List D)(n:Int)(h:xs.length<=1000/\n<=10000/\-10000<=n):cz .Mult (.list xs) (.int n)=some (.list (repL xs n.toNat)):=Ql h
theorem qv_l(a b:List D):PyData.eqv (.list a) (.list b)=PyData.eqvAll a b:=rfl
theorem dp_i(a:Int):PyData.depth (.int a)=0:=rfl
theorem dp_l(a:List D):PyData.depth (.list a)=PyData.depthAll a+1:=rfl
theorem da_c(x:D)(xs:List D):PyData.depthAll (x::xs)=max (PyData.depth x) (PyData.depthAll xs):=rfl
theorem o8{fr:Bool}{ow:List Nat}{e:Ex}{xs:List D}(h:(isOw ow e||frE e)=true)(k:an xs=true):(!fr||retOk ow e (.list xs))=true:=by
 have:flat (.list xs)=true:=k;unfold retOk;rw [h,this,Xn,YS,YS]
structure En where
 w:Str
 k:Str
 t:Int
 s:Str
 o:Bool
noncomputable def En.d(e:En):D:=.tuple [.str e.w,.str e.k,.int e.t,.str e.s,.bool e.o]
noncomputable def asleep(es:List En)(w:Str):Bool:=es.any λe=>e.s == w&&e.o
theorem dD{α:Type}(f:α->Bool):∀ (l:List α),cT (l.map λa=>PyData.bool (f a))=some (l.map f):=by
 intro l;induction l with
 | nil=>
  exact rfl
 | cons a l ih_=>
  show ((cT (l.map λa=>PyData.bool (f a))).map λbs=>f a::bs)=_;rw [ih_];rfl
end Mine
set_option tactic.hygienic true
namespace Mine
open PySem
noncomputable def fnlaw:Fn:=⟨1,11,[],false,(.cons (.asg 1 (.call false "_law_long" (.cons (.v 0) (.cons (.call false "_law_drawn" (.cons (.v 0) (.cons (.k (.int 14)) .nil))) .nil)))) (.cons (.asg 2 (.call false "_law_choices" (.cons (.v 0) .nil))) (.cons (.ite (.not (.call false "_law_few" (.cons (.v 1) (.cons (.k (.int 400)) .nil)))) (.cons (.ret (.k (.bool true))) .nil) .nil) (.cons (.asg 3 (.b1 .list (.v 1))) (.cons (.tap 4 3 "looked" (.bool false (.cons (.not (.call false "_law_rows_alike" (.cons (.v 3) (.cons (.v 1) .nil)))) (.cons (.bool true (.cons (.cmp .IsNot (.v 4) (.k (.none))) (.cons (.not (.call false "_law_told" (.cons (.v 4) .nil))) .nil))) .nil))) (.cons (.ret (.k (.bool false))) .nil) (.cmp .IsNot (.v 4) (.k (.none))) (.cons (.asg 5 (.call false "looked" (.cons (.v 3) .nil))) (.cons (.ite (.bool false (.cons (.cmp .Is (.v 5) (.k (.none))) (.cons (.not (.call false "_law_told" (.cons (.v 5) .nil))) (.cons (.cmp .NotEq (.idx (.v 5) (.k (.int 0))) (.idx (.v 4) (.k (.int 0)))) (.cons (.cmp .NotEq (.idx (.v 5) (.k (.int 1))) (.idx (.v 4) (.k (.int 1)))) .nil))))) (.cons (.ret (.k (.bool false))) .nil) .nil) .nil))) (.cons (.asg 6 (.lst (.cons (.k (.str "beside")) (.cons (.k (.str "empty")) (.cons (.k (.str "asleep")) .nil))))) (.cons (.for1 7 (.range1 (.idx (.lst (.cons (.k (.int 5)) (.cons (.k (.int 1)) .nil))) (.b1 .int (.cmp .Gt (.b1 .len (.v 1)) (.k (.int 30)))))) (.cons (.asg 8 (.v 2)) (.cons (.ite (.cmp .Gt (.v 7) (.k (.int 0))) (.cons (.asg 8 (.bin .Add (.comp (.bin .Add (.v 11) (.v 7)) (.plain (.sl (.v 2) .none (.some (.k (.int 4))))) .none) (.lst (.cons (.v 7) .nil)))) .nil) .nil) (.cons (.for1 9 (.plain (.call false "_law_run" (.cons (.v 1) (.cons (.v 8) .nil)))) (.cons (.asg 10 (.call false "_law_fault" (.cons (.idx (.v 1) (.idx (.v 9) (.k (.int 0)))) (.cons (.idx (.v 9) (.k (.int 1))) .nil)))) (.cons (.ite (.cmp .NotEq (.v 10) (.k (.str ""))) (.cons (.ite (.bool false (.cons (.cmp .Is (.v 4) (.k (.none))) (.cons (.cmp .Lt (.idx (.v 9) (.k (.int 0))) (.idx (.v 4) (.k (.int 0)))) .nil))) (.cons (.ret (.k (.bool false))) .nil) .nil) (.cons (.ite (.bool true (.cons (.cmp .Eq (.idx (.v 9) (.k (.int 0))) (.idx (.v 4) (.k (.int 0)))) (.cons (.cmp .Lt (.index (.v 6) (.v 10)) (.index (.v 6) (.idx (.v 4) (.k (.int 1))))) .nil))) (.cons (.ret (.k (.bool false))) .nil) .nil) .nil)) .nil) .nil))) .nil)))) (.cons (.ret (.k (.bool true))) .nil))))))))⟩
noncomputable def fn_law_rows_alike:Fn:=⟨2,2,[],false,(.cons (.ite (.bool false (.cons (.not (.isi (.v 0) .list)) (.cons (.cmp .NotEq (.b1 .len (.v 0)) (.b1 .len (.v 1))) .nil))) (.cons (.ret (.k (.bool false))) .nil) .nil) (.cons (.ret (.b1 .all (.comp (.bool true (.cons (.isi (.v 2) .tuple) (.cons (.cmp .Eq (.v 2) (.v 3)) .nil))) (.zip (.v 0) (.v 1)) .none))) .nil))⟩
noncomputable def fn_law_choices:Fn:=⟨1,1,[],false,(.cons (.ret (.comp (.bin .Mod (.v 1) (.k (.int 60))) (.plain (.sl (.b1 .listrev (.v 0)) .none (.some (.k (.int 20))))) .none)) .nil)⟩
noncomputable def fn_law_told:Fn:=⟨1,1,[],false,(.cons (.ite (.bool false (.cons (.not (.isi (.v 0) .tuple)) (.cons (.cmp .NotEq (.b1 .len (.v 0)) (.k (.int 3))) (.cons (.not (.call false "_law_whole" (.cons (.idx (.v 0) (.k (.int 0))) .nil))) .nil)))) (.cons (.ret (.k (.bool false))) .nil) .nil) (.cons (.ite (.bool false (.cons (.not (.isi (.idx (.v 0) (.k (.int 1))) .str)) (.cons (.cmp .NotIn (.idx (.v 0) (.k (.int 1))) (.lst (.cons (.k (.str "beside")) (.cons (.k (.str "empty")) (.cons (.k (.str "asleep")) .nil))))) (.cons (.not (.isi (.idx (.v 0) (.k (.int 2))) .list)) .nil)))) (.cons (.ret (.k (.bool false))) .nil) .nil) (.cons (.ret (.b1 .all (.comp (.bool true (.cons (.call false "_law_whole" (.cons (.v 1) .nil)) (.cons (.cmp .GtE (.v 1) (.k (.int 0))) .nil))) (.plain (.idx (.v 0) (.k (.int 2)))) .none))) .nil)))⟩
noncomputable def fn_law_long:Fn:=⟨2,4,[],false,(.cons (.ite (.bool false (.cons (.cmp .NotEq (.bin .Mod (.call false "_law_cell_at" (.cons (.v 0) (.cons (.k (.int 1)) .nil))) (.k (.int 16))) (.k (.int 5))) (.cons (.cmp .Gt (.b1 .len (.v 1)) (.k (.int 62))) .nil))) (.cons (.ret (.v 1)) .nil) .nil) (.cons (.asg 2 (.lst .nil)) (.cons (.for1 3 (.range1 (.bin .Add (.k (.int 45)) (.bin .Mod (.call false "_law_cell_at" (.cons (.v 0) (.cons (.k (.int 2)) .nil))) (.k (.int 25))))) (.cons (.asg 2 (.bin .Add (.v 2) (.lst (.cons (.tup (.cons (.k (.str "lend")) (.cons (.k (.str "ahead")) (.cons (.k (.str "read")) (.cons (.v 3) .nil))))) (.cons (.tup (.cons (.k (.str "end")) .nil)) .nil))))) .nil)) (.cons (.ret (.bin .Add (.v 2) (.v 1))) .nil))))⟩
noncomputable def fn_law_few:Fn:=⟨2,9,[3,4],false,(.cons (.asg 2 (.call false "_law_homes" (.cons (.v 0) .nil))) (.cons (.asg 3 (.lst (.cons (.tup (.cons (.k (.int 0)) (.cons (.tup .nil) .nil))) .nil))) (.cons (.asg 4 (.dic (.cons (.tup (.cons (.k (.int 0)) (.cons (.tup .nil) .nil))) .nil) (.cons (.k (.bool true)) .nil))) (.cons (.asg 5 (.k (.int 0))) (.cons (.wh (.bool true (.cons (.cmp .Lt (.v 5) (.b1 .len (.v 3))) (.cons (.cmp .Gt (.b1 .len (.v 0)) (.k (.int 0))) .nil))) (.cons (.ite (.cmp .Gt (.b1 .len (.v 3)) (.v 1)) (.cons (.ret (.k (.bool false))) .nil) .nil) (.cons (.asg 6 (.idx (.v 3) (.v 5))) (.cons (.for1 7 (.range1 (.call false "_law_some_ways" (.cons (.v 0) (.cons (.v 2) (.cons (.idx (.v 6) (.k (.int 0))) .nil))))) (.cons (.asg 8 (.call false "_law_step" (.cons (.v 0) (.cons (.v 2) (.cons (.v 6) (.cons (.v 7) .nil)))))) (.cons (.ite (.bool true (.cons (.cmp .Lt (.idx (.v 8) (.k (.int 0))) (.b1 .len (.v 0))) (.cons (.cmp .NotIn (.v 8) (.v 4)) .nil))) (.cons (.seti 4 (.v 8) (.k (.bool true))) (.cons (.app 3 (.v 8)) .nil)) .nil) .nil))) (.cons (.asg 5 (.bin .Add (.v 5) (.k (.int 1)))) .nil))))) (.cons (.ret (.k (.bool true))) .nil))))))⟩
noncomputable def fn_law_some_ways:Fn:=⟨3,3,[],false,(.cons (.ite (.cmp .Eq (.idx (.idx (.v 0) (.v 2)) (.k (.int 0))) (.k (.str "pick"))) (.cons (.ret (.b1 .len (.idx (.idx (.v 0) (.v 2)) (.k (.int 2))))) .nil) .nil) (.cons (.ite (.cmp .Eq (.idx (.idx (.v 0) (.v 2)) (.k (.int 0))) (.k (.str "either"))) (.cons (.ret (.b1 .len (.call false "_law_starts" (.cons (.v 0) (.cons (.v 1) (.cons (.v 2) .nil)))))) .nil) .nil) (.cons (.ret (.idx (.lst (.cons (.k (.int 1)) (.cons (.k (.int 2)) .nil))) (.b1 .int (.cmp .Eq (.idx (.idx (.v 0) (.v 2)) (.k (.int 0))) (.k (.str "again")))))) .nil)))⟩
noncomputable def fn_law_run:Fn:=⟨2,7,[3],false,(.cons (.asg 2 (.call false "_law_homes" (.cons (.v 0) .nil))) (.cons (.asg 3 (.lst .nil)) (.cons (.asg 4 (.tup (.cons (.k (.int 0)) (.cons (.tup .nil) .nil)))) (.cons (.asg 5 (.k (.int 0))) (.cons (.wh (.cmp .Lt (.idx (.v 4) (.k (.int 0))) (.b1 .len (.v 0))) (.cons (.app 3 (.v 4)) (.cons (.asg 6 (.k (.int 0))) (.cons (.ite (.cmp .In (.idx (.idx (.v 0) (.idx (.v 4) (.k (.int 0)))) (.k (.int 0))) (.lst (.cons (.k (.str "pick")) (.cons (.k (.str "either")) (.cons (.k (.str "again")) .nil))))) (.cons (.ite (.cmp .Lt (.v 5) (.b1 .len (.v 1))) (.cons (.asg 6 (.idx (.v 1) (.v 5))) .nil) .nil) (.cons (.asg 5 (.bin .Add (.v 5) (.k (.int 1)))) .nil)) .nil) (.cons (.asg 4 (.call false "_law_step" (.cons (.v 0) (.cons (.v 2) (.cons (.v 4) (.cons (.v 6) .nil)))))) .nil))))) (.cons (.ret (.v 3)) .nil))))))⟩
noncomputable def fn_law_fault:Fn:=⟨2,7,[],false,(.cons (.asg 2 (.call false "_law_awake" (.cons (.v 1) .nil))) (.cons (.for2 3 4 (.enum (.v 2)) (.cons (.for1 5 (.plain (.sl (.v 2) .none (.some (.v 3)))) (.cons (.ite (.bool true (.cons (.cmp .Eq (.idx (.v 4) (.k (.int 2))) (.idx (.v 5) (.k (.int 2)))) (.cons (.cmp .In (.k (.str "write")) (.lst (.cons (.idx (.v 4) (.k (.int 1))) (.cons (.idx (.v 5) (.k (.int 1))) .nil)))) .nil))) (.cons (.ret (.k (.str "beside"))) .nil) .nil) .nil)) .nil)) (.cons (.asg 6 (.k (.str ""))) (.cons (.ite (.cmp .In (.idx (.v 0) (.k (.int 0))) (.lst (.cons (.k (.str "look")) (.cons (.k (.str "change")) .nil)))) (.cons (.asg 6 (.idx (.v 0) (.k (.int 1)))) .nil) .nil) (.cons (.ite (.bool true (.cons (.cmp .Eq (.idx (.v 0) (.k (.int 0))) (.k (.str "lend"))) (.cons (.isi (.idx (.v 0) (.k (.int 3))) .str) .nil))) (.cons (.asg 6 (.idx (.v 0) (.k (.int 3)))) .nil) .nil) (.cons (.for1 4 (.plain (.v 1)) (.cons (.ite (.bool true (.cons (.cmp .Eq (.idx (.v 4) (.k (.int 0))) (.v 6)) (.cons (.not (.idx (.v 4) (.k (.int 4)))) .nil))) (.cons (.ret (.k (.str "empty"))) .nil) .nil) .nil)) (.cons (.ite (.bool true (.cons (.cmp .In (.idx (.v 0) (.k (.int 0))) (.lst (.cons (.k (.str "look")) (.cons (.k (.str "change")) .nil)))) (.cons (.cmp .NotIn (.v 6) (.comp (.idx (.v 7) (.k (.int 0))) (.plain (.v 2)) .none)) .nil))) (.cons (.ret (.k (.str "asleep"))) .nil) .nil) (.cons (.ret (.k (.str ""))) .nil))))))))⟩
noncomputable def fn_law_awake:Fn:=⟨1,3,[],false,(.cons (.asg 1 (.comp (.idx (.v 3) (.k (.int 3))) (.plain (.v 0)) (.some (.idx (.v 3) (.k (.int 4)))))) (.cons (.asg 2 (.comp (.v 3) (.plain (.v 0)) (.some (.bool true (.cons (.cmp .NotEq (.idx (.v 3) (.k (.int 1))) (.k (.str "pick"))) (.cons (.idx (.v 3) (.k (.int 4))) .nil)))))) (.cons (.ret (.comp (.v 3) (.plain (.v 2)) (.some (.cmp .NotIn (.idx (.v 3) (.k (.int 0))) (.v 1))))) .nil)))⟩
noncomputable def fn_law_whole:Fn:=⟨1,1,[],false,(.cons (.ret (.bool true (.cons (.isi (.v 0) .int) (.cons (.not (.isi (.v 0) .bool)) .nil)))) .nil)⟩
noncomputable def fn_law_step:Fn:=⟨4,9,[],false,(.cons (.asg 4 (.idx (.v 2) (.k (.int 0)))) (.cons (.asg 5 (.idx (.v 2) (.k (.int 1)))) (.cons (.asg 6 (.idx (.idx (.v 0) (.v 4)) (.k (.int 0)))) (.cons (.ite (.cmp .Eq (.v 6) (.k (.str "lend"))) (.cons (.asg 5 (.call false "_law_lent" (.cons (.v 5) (.cons (.idx (.v 0) (.v 4)) .nil)))) .nil) .nil) (.cons (.ite (.cmp .Eq (.v 6) (.k (.str "pick"))) (.cons (.asg 7 (.idx (.idx (.v 0) (.v 4)) (.k (.int 2)))) (.cons (.asg 5 (.bin .Add (.v 5) (.tup (.cons (.tup (.cons (.idx (.idx (.v 0) (.v 4)) (.k (.int 1))) (.cons (.k (.str "pick")) (.cons (.idx (.v 7) (.bin .Mod (.v 3) (.b1 .len (.v 7)))) (.cons (.k (.str "")) (.cons (.k (.bool true)) .nil)))))) .nil)))) .nil)) .nil) (.cons (.ite (.cmp .Eq (.v 6) (.k (.str "back"))) (.cons (.asg 5 (.call false "_law_back" (.cons (.v 5) (.cons (.idx (.idx (.v 0) (.v 4)) (.k (.int 1))) .nil)))) .nil) .nil) (.cons (.ite (.cmp .Eq (.v 6) (.k (.str "either"))) (.cons (.asg 8 (.call false "_law_starts" (.cons (.v 0) (.cons (.v 1) (.cons (.v 4) .nil))))) (.cons (.ret (.tup (.cons (.idx (.v 8) (.bin .Mod (.v 3) (.b1 .len (.v 8)))) (.cons (.v 5) .nil)))) .nil)) .nil) (.cons (.ite (.cmp .Eq (.v 6) (.k (.str "or"))) (.cons (.ret (.tup (.cons (.call false "_law_last" (.cons (.v 0) (.cons (.v 1) (.cons (.idx (.v 1) (.v 4)) .nil)))) (.cons (.v 5) .nil)))) .nil) .nil) (.cons (.ite (.bool true (.cons (.cmp .Eq (.v 6) (.k (.str "again"))) (.cons (.cmp .Eq (.bin .Mod (.v 3) (.k (.int 2))) (.k (.int 0))) .nil))) (.cons (.ret (.tup (.cons (.bin .Add (.call false "_law_last" (.cons (.v 0) (.cons (.v 1) (.cons (.v 4) .nil)))) (.k (.int 1))) (.cons (.v 5) .nil)))) .nil) .nil) (.cons (.ite (.bool true (.cons (.cmp .Eq (.v 6) (.k (.str "end"))) (.cons (.cmp .Eq (.idx (.idx (.v 0) (.idx (.v 1) (.v 4))) (.k (.int 0))) (.k (.str "again"))) .nil))) (.cons (.ret (.tup (.cons (.idx (.v 1) (.v 4)) (.cons (.v 5) .nil)))) .nil) .nil) (.cons (.ite (.bool true (.cons (.cmp .Eq (.v 6) (.k (.str "end"))) (.cons (.cmp .NotEq (.idx (.idx (.v 0) (.idx (.v 1) (.v 4))) (.k (.int 0))) (.k (.str "either"))) .nil))) (.cons (.asg 5 (.sl (.v 5) .none (.some (.neg (.k (.int 1)))))) .nil) .nil) (.cons (.ret (.tup (.cons (.bin .Add (.v 4) (.k (.int 1))) (.cons (.v 5) .nil)))) .nil))))))))))))⟩
noncomputable def fn_law_back:Fn:=⟨2,5,[2],false,(.cons (.asg 2 (.lst (.cons (.v 1) .nil))) (.cons (.asg 3 (.tup .nil)) (.cons (.for1 4 (.plain (.v 0)) (.cons (.ite (.bool false (.cons (.cmp .In (.idx (.v 4) (.k (.int 0))) (.v 2)) (.cons (.cmp .In (.idx (.v 4) (.k (.int 3))) (.v 2)) .nil))) (.cons (.app 2 (.idx (.v 4) (.k (.int 0)))) (.cons (.asg 4 (.bin .Add (.sl (.v 4) .none (.some (.k (.int 4)))) (.tup (.cons (.k (.bool false)) .nil)))) .nil)) .nil) (.cons (.asg 3 (.bin .Add (.v 3) (.tup (.cons (.v 4) .nil)))) .nil))) (.cons (.ret (.v 3)) .nil))))⟩
noncomputable def fn_law_lent:Fn:=⟨2,6,[],false,(.cons (.asg 2 (.idx (.v 1) (.k (.int 3)))) (.cons (.asg 3 (.k (.str ""))) (.cons (.asg 4 (.k (.bool true))) (.cons (.for1 5 (.plain (.v 0)) (.cons (.ite (.cmp .Eq (.idx (.v 5) (.k (.int 0))) (.idx (.v 1) (.k (.int 3)))) (.cons (.asg 2 (.idx (.v 5) (.k (.int 2)))) (.cons (.asg 4 (.idx (.v 5) (.k (.int 4)))) (.cons (.ite (.cmp .NotEq (.idx (.v 5) (.k (.int 1))) (.k (.str "pick"))) (.cons (.asg 3 (.idx (.v 5) (.k (.int 0)))) .nil) .nil) .nil))) .nil) .nil)) (.cons (.ret (.bin .Add (.v 0) (.tup (.cons (.tup (.cons (.idx (.v 1) (.k (.int 1))) (.cons (.idx (.v 1) (.k (.int 2))) (.cons (.v 2) (.cons (.v 3) (.cons (.v 4) .nil)))))) .nil)))) .nil)))))⟩
noncomputable def fn_law_starts:Fn:=⟨3,5,[3],false,(.cons (.asg 3 (.lst (.cons (.bin .Add (.v 2) (.k (.int 1))) .nil))) (.cons (.for1 4 (.range2 (.bin .Add (.v 2) (.k (.int 1))) (.b1 .len (.v 0))) (.cons (.ite (.bool true (.cons (.cmp .Eq (.idx (.v 1) (.v 4)) (.v 2)) (.cons (.cmp .Eq (.idx (.idx (.v 0) (.v 4)) (.k (.int 0))) (.k (.str "or"))) .nil))) (.cons (.app 3 (.bin .Add (.v 4) (.k (.int 1)))) .nil) .nil) .nil)) (.cons (.ret (.v 3)) .nil)))⟩
noncomputable def fn_law_last:Fn:=⟨3,4,[],false,(.cons (.for1 3 (.range2 (.bin .Add (.v 2) (.k (.int 1))) (.b1 .len (.v 0))) (.cons (.ite (.bool true (.cons (.cmp .Eq (.idx (.v 1) (.v 3)) (.v 2)) (.cons (.cmp .Eq (.idx (.idx (.v 0) (.v 3)) (.k (.int 0))) (.k (.str "end"))) .nil))) (.cons (.ret (.v 3)) .nil) .nil) .nil)) (.cons (.ret (.neg (.k (.int 1)))) .nil))⟩
noncomputable def fn_law_homes:Fn:=⟨1,5,[1,2],false,(.cons (.asg 1 (.lst .nil)) (.cons (.asg 2 (.lst (.cons (.neg (.k (.int 1))) .nil))) (.cons (.for2 3 4 (.enum (.v 0)) (.cons (.app 1 (.idx (.v 2) (.neg (.k (.int 1))))) (.cons (.ite (.cmp .In (.idx (.v 4) (.k (.int 0))) (.lst (.cons (.k (.str "lend")) (.cons (.k (.str "pick")) (.cons (.k (.str "either")) (.cons (.k (.str "again")) .nil)))))) (.cons (.app 2 (.v 3)) .nil) .nil) (.cons (.ite (.cmp .Eq (.idx (.v 4) (.k (.int 0))) (.k (.str "end"))) (.cons (.pop 2) .nil) .nil) .nil)))) (.cons (.ret (.v 1)) .nil))))⟩
noncomputable def fn_law_drawn:Fn:=⟨2,6,[],false,(.cons (.ite (.cmp .Gt (.b1 .len (.v 0)) (.k (.int 63))) (.cons (.asg 1 (.bin .Add (.v 1) (.k (.int 10)))) .nil) .nil) (.cons (.asg 2 (.bin .Mod (.call false "_law_cell_at" (.cons (.v 0) (.cons (.k (.int 0)) .nil))) (.v 1))) (.cons (.asg 3 (.bin .Mod (.call false "_law_cell_at" (.cons (.v 0) (.cons (.k (.int 2)) .nil))) (.k (.int 8)))) (.cons (.ite (.cmp .Gt (.v 3) (.k (.int 3))) (.cons (.asg 2 (.bin .Mod (.v 2) (.k (.int 6)))) .nil) .nil) (.cons (.asg 4 (.comp (.call false "_law_cell_at" (.cons (.v 0) (.cons (.bin .Add (.k (.int 3)) (.v 6)) .nil))) (.range1 (.bin .Mult (.k (.int 3)) (.v 2))) .none)) (.cons (.asg 5 (.call false "_law_sheet" (.cons (.v 4) (.cons (.call false "_law_draw" (.cons (.v 0) .nil)) (.cons (.idx (.lst (.cons (.k (.int 12)) (.cons (.k (.int 12)) (.cons (.k (.int 5)) (.cons (.k (.int 10)) (.cons (.k (.int 12)) (.cons (.k (.int 12)) (.cons (.k (.int 10)) (.cons (.k (.int 12)) .nil))))))))) (.v 3)) (.cons (.cmp .Gt (.v 3) (.k (.int 3))) .nil)))))) (.cons (.ite (.bool true (.cons (.cmp .In (.v 3) (.lst (.cons (.k (.int 1)) (.cons (.k (.int 6)) .nil)))) (.cons (.cmp .Lt (.b1 .len (.v 5)) (.k (.int 21))) .nil))) (.cons (.asg 5 (.bin .Add (.bin .Add (.bin .Add (.v 5) (.v 5)) (.v 5)) (.v 5))) .nil) .nil) (.cons (.ret (.v 5)) .nil))))))))⟩
noncomputable def fn_law_sheet:Fn:=⟨4,10,[5],false,(.cons (.asg 4 (.lst .nil)) (.cons (.asg 5 (.lst .nil)) (.cons (.for1 6 (.range1 (.bin .FloorDiv (.b1 .len (.v 0)) (.k (.int 3)))) (.cons (.asg 8 (.comp (.v 10) (.plain (.v 5)) (.some (.cmp .In (.idx (.v 10) (.k (.int 0))) (.lst (.cons (.k (.str "lend")) (.cons (.k (.str "pick")) .nil))))))) (.cons (.asg 9 (.idx (.v 0) (.bin .Mult (.k (.int 3)) (.v 6)))) (.cons (.ite (.bool true (.cons (.v 3) (.cons (.cmp .Eq (.bin .Mod (.v 9) (.k (.int 2))) (.k (.int 0))) (.cons (.cmp .Lt (.b1 .len (.v 8)) (.k (.int 3))) .nil)))) (.cons (.asg 4 (.bin .Add (.v 4) (.call false "_law_gadget" (.cons (.idx (.v 0) (.bin .Add (.bin .Mult (.k (.int 3)) (.v 6)) (.k (.int 1)))) (.cons (.idx (.v 0) (.bin .Add (.bin .Mult (.k (.int 3)) (.v 6)) (.k (.int 2)))) (.cons (.b1 .len (.v 8)) (.cons (.v 1) .nil))))))) .nil) (.cons (.asg 7 (.call true "_law_row" (.cons (.bin .Mod (.v 9) (.v 2)) (.cons (.idx (.v 0) (.bin .Add (.bin .Mult (.k (.int 3)) (.v 6)) (.k (.int 1)))) (.cons (.idx (.v 0) (.bin .Add (.bin .Mult (.k (.int 3)) (.v 6)) (.k (.int 2)))) (.cons (.v 5) (.cons (.v 1) .nil))))))) (.cons (.asg 4 (.bin .Add (.v 4) (.lst (.cons (.v 7) .nil)))) (.cons (.ite (.cmp .In (.idx (.v 7) (.k (.int 0))) (.lst (.cons (.k (.str "lend")) (.cons (.k (.str "pick")) (.cons (.k (.str "either")) (.cons (.k (.str "again")) .nil)))))) (.cons (.app 5 (.v 7)) .nil) .nil) (.cons (.ite (.cmp .Eq (.idx (.v 7) (.k (.int 0))) (.k (.str "end"))) (.cons (.pop 5) .nil) .nil) .nil))))) .nil)))) (.cons (.ret (.bin .Add (.v 4) (.comp (.tup (.cons (.k (.str "end")) .nil)) (.plain (.v 5)) .none))) .nil))))⟩
noncomputable def fn_law_row:Fn:=⟨5,8,[],true,(.cons (.asg 5 (.comp (.v 8) (.plain (.v 3)) (.some (.cmp .In (.idx (.v 8) (.k (.int 0))) (.lst (.cons (.k (.str "lend")) (.cons (.k (.str "pick")) .nil))))))) (.cons (.asg 6 (.comp (.v 8) (.plain (.v 5)) (.some (.cmp .Eq (.idx (.v 8) (.k (.int 0))) (.k (.str "lend")))))) (.cons (.ite (.bool true (.cons (.cmp .Lt (.v 0) (.k (.int 4))) (.cons (.cmp .Lt (.b1 .len (.v 6)) (.k (.int 6))) .nil))) (.cons (.ret (.call false "_law_lend" (.cons (.v 1) (.cons (.v 2) (.cons (.v 5) (.cons (.v 4) .nil)))))) .nil) .nil) (.cons (.ite (.bool true (.cons (.cmp .Eq (.v 0) (.k (.int 4))) (.cons (.cmp .Lt (.bin .Sub (.b1 .len (.v 5)) (.b1 .len (.v 6))) (.k (.int 3))) .nil))) (.cons (.asg 7 (.b1 .tuple (.comp (.call false "_law_thing" (.cons (.bin .Add (.v 2) (.bin .Mult (.v 8) (.bin .Add (.k (.int 1)) (.bin .Mod (.v 1) (.k (.int 2)))))) (.cons (.idx (.v 4) (.k (.int 0))) .nil))) (.range1 (.bin .Add (.k (.int 1)) (.bin .Mod (.v 1) (.k (.int 5))))) .none))) (.cons (.ret (.tup (.cons (.k (.str "pick")) (.cons (.call false "_law_word" (.cons (.v 1) (.cons (.v 2) (.cons (.b1 .len (.v 5)) (.cons (.v 4) .nil))))) (.cons (.v 7) .nil))))) .nil)) .nil) (.cons (.ite (.bool true (.cons (.cmp .In (.v 0) (.lst (.cons (.k (.int 5)) (.cons (.k (.int 6)) .nil)))) (.cons (.cmp .Lt (.b1 .len (.v 3)) (.k (.int 12))) .nil))) (.cons (.ret (.tup (.cons (.idx (.lst (.cons (.k (.str "either")) (.cons (.k (.str "again")) .nil))) (.bin .Sub (.v 0) (.k (.int 5)))) .nil))) .nil) .nil) (.cons (.ite (.bool true (.cons (.cmp .Eq (.v 0) (.k (.int 7))) (.cons (.cmp .Gt (.b1 .len (.v 3)) (.k (.int 0))) (.cons (.cmp .Eq (.idx (.idx (.v 3) (.neg (.k (.int 1)))) (.k (.int 0))) (.k (.str "either"))) .nil)))) (.cons (.ret (.tup (.cons (.k (.str "or")) .nil))) .nil) .nil) (.cons (.ite (.bool true (.cons (.cmp .Lt (.v 0) (.k (.int 10))) (.cons (.cmp .Gt (.b1 .len (.v 6)) (.k (.int 0))) .nil))) (.cons (.ret (.call false "_law_deed" (.cons (.v 1) (.cons (.v 2) (.cons (.v 6) .nil))))) .nil) .nil) (.cons (.ite (.cmp .Gt (.b1 .len (.v 3)) (.k (.int 0))) (.cons (.ret (.tup (.cons (.k (.str "end")) .nil))) .nil) .nil) (.cons (.ret (.call false "_law_lend" (.cons (.v 1) (.cons (.v 2) (.cons (.v 5) (.cons (.v 4) .nil)))))) .nil)))))))))⟩
noncomputable def fn_law_deed:Fn:=⟨3,5,[],false,(.cons (.asg 3 (.idx (.v 2) (.bin .Mod (.v 1) (.b1 .len (.v 2))))) (.cons (.asg 4 (.idx (.lst (.cons (.k (.str "look")) (.cons (.k (.str "back")) (.cons (.k (.str "change")) .nil)))) (.bin .Mod (.v 0) (.k (.int 3))))) (.cons (.ite (.bool true (.cons (.cmp .Eq (.v 4) (.k (.str "change"))) (.cons (.cmp .Eq (.idx (.v 3) (.k (.int 2))) (.k (.str "read"))) .nil))) (.cons (.asg 4 (.k (.str "look"))) .nil) .nil) (.cons (.ret (.tup (.cons (.v 4) (.cons (.idx (.v 3) (.k (.int 1))) .nil)))) .nil))))⟩
noncomputable def fn_law_lend:Fn:=⟨4,7,[],false,(.cons (.asg 4 (.idx (.lst (.cons (.k (.str "read")) (.cons (.k (.str "write")) .nil))) (.bin .Mod (.v 0) (.k (.int 2))))) (.cons (.asg 5 (.call false "_law_thing" (.cons (.v 1) (.cons (.idx (.v 3) (.k (.int 0))) .nil)))) (.cons (.ite (.bool true (.cons (.cmp .Eq (.bin .Mod (.bin .FloorDiv (.v 0) (.k (.int 2))) (.k (.int 2))) (.k (.int 1))) (.cons (.cmp .Gt (.b1 .len (.v 2)) (.k (.int 0))) .nil))) (.cons (.asg 6 (.idx (.v 2) (.bin .Mod (.v 1) (.b1 .len (.v 2))))) (.cons (.asg 5 (.idx (.v 6) (.k (.int 1)))) (.cons (.ite (.bool true (.cons (.cmp .Eq (.idx (.v 6) (.k (.int 0))) (.k (.str "lend"))) (.cons (.cmp .Eq (.idx (.v 6) (.k (.int 2))) (.k (.str "read"))) .nil))) (.cons (.asg 4 (.k (.str "read"))) .nil) .nil) .nil))) .nil) (.cons (.ret (.tup (.cons (.k (.str "lend")) (.cons (.call false "_law_word" (.cons (.v 0) (.cons (.v 1) (.cons (.b1 .len (.v 2)) (.cons (.v 3) .nil))))) (.cons (.v 4) (.cons (.v 5) .nil)))))) .nil))))⟩
noncomputable def fn_law_gadget:Fn:=⟨4,14,[],false,(.cons (.asg 4 (.call false "_law_hands" (.cons (.v 0) (.cons (.v 1) (.cons (.v 2) (.cons (.v 3) .nil)))))) (.cons (.asg 5 (.idx (.v 4) (.k (.int 0)))) (.cons (.asg 6 (.idx (.v 4) (.k (.int 1)))) (.cons (.asg 7 (.call false "_law_thing" (.cons (.v 1) (.cons (.idx (.v 3) (.k (.int 0))) .nil)))) (.cons (.asg 8 (.bin .Mod (.bin .Add (.v 7) (.k (.int 1))) (.bin .Pow (.k (.int 10)) (.k (.int 9))))) (.cons (.asg 9 (.bin .Mod (.bin .Add (.v 7) (.k (.int 2))) (.bin .Pow (.k (.int 10)) (.k (.int 9))))) (.cons (.asg 10 (.idx (.lst (.cons (.k (.str "read")) (.cons (.k (.str "write")) .nil))) (.bin .Mod (.bin .FloorDiv (.v 0) (.k (.int 8))) (.k (.int 2))))) (.cons (.asg 11 (.tup (.cons (.k (.str "end")) .nil))) (.cons (.asg 12 (.bin .Mod (.v 0) (.k (.int 8)))) (.cons (.ite (.cmp .Lt (.v 12) (.k (.int 4))) (.cons (.ret (.call false "_law_first_four" (.cons (.v 12) (.cons (.v 0) (.cons (.v 1) (.cons (.v 4) (.cons (.v 7) .nil))))))) .nil) .nil) (.cons (.ite (.cmp .Eq (.v 12) (.k (.int 4))) (.cons (.asg 13 (.lst (.cons (.tup (.cons (.k (.str "pick")) (.cons (.idx (.v 4) (.k (.int 2))) (.cons (.tup (.cons (.v 7) (.cons (.v 7) (.cons (.v 8) (.cons (.v 8) (.cons (.v 9) .nil)))))) .nil)))) .nil))) (.cons (.asg 13 (.bin .Add (.v 13) (.lst (.cons (.tup (.cons (.k (.str "lend")) (.cons (.v 5) (.cons (.k (.str "write")) (.cons (.idx (.lst (.cons (.v 7) (.cons (.v 8) (.cons (.v 9) .nil)))) (.bin .Mod (.v 1) (.k (.int 3)))) .nil))))) (.cons (.tup (.cons (.k (.str "lend")) (.cons (.v 6) (.cons (.v 10) (.cons (.idx (.v 4) (.k (.int 2))) .nil))))) .nil))))) (.cons (.ret (.bin .Add (.v 13) (.lst (.cons (.v 11) (.cons (.v 11) (.cons (.v 11) .nil)))))) .nil))) .nil) (.cons (.ite (.cmp .Eq (.v 12) (.k (.int 5))) (.cons (.asg 13 (.lst (.cons (.tup (.cons (.k (.str "lend")) (.cons (.v 5) (.cons (.k (.str "write")) (.cons (.v 7) .nil))))) (.cons (.tup (.cons (.k (.str "lend")) (.cons (.v 6) (.cons (.k (.str "read")) (.cons (.v 5) .nil))))) (.cons (.tup (.cons (.k (.str "either")) .nil)) (.cons (.tup (.cons (.k (.str "back")) (.cons (.idx (.lst (.cons (.v 5) (.cons (.v 6) .nil))) (.bin .Mod (.v 1) (.k (.int 2)))) .nil))) .nil)))))) (.cons (.ret (.bin .Add (.v 13) (.lst (.cons (.tup (.cons (.k (.str "or")) .nil)) (.cons (.tup (.cons (.k (.str "look")) (.cons (.v 6) .nil))) (.cons (.v 11) (.cons (.tup (.cons (.k (.str "look")) (.cons (.v 5) .nil))) (.cons (.v 11) (.cons (.v 11) .nil))))))))) .nil)) .nil) (.cons (.ite (.cmp .Eq (.v 12) (.k (.int 6))) (.cons (.asg 13 (.lst (.cons (.tup (.cons (.k (.str "lend")) (.cons (.v 5) (.cons (.v 10) (.cons (.v 8) .nil))))) (.cons (.tup (.cons (.k (.str "lend")) (.cons (.v 6) (.cons (.idx (.lst (.cons (.k (.str "read")) (.cons (.k (.str "write")) .nil))) (.bin .Mod (.v 1) (.k (.int 2)))) (.cons (.v 7) .nil))))) .nil)))) (.cons (.ret (.bin .Add (.v 13) (.lst (.cons (.tup (.cons (.k (.str "lend")) (.cons (.idx (.v 4) (.k (.int 2))) (.cons (.k (.str "write")) (.cons (.v 7) .nil))))) (.cons (.tup (.cons (.k (.str "look")) (.cons (.v 6) .nil))) (.cons (.v 11) (.cons (.v 11) (.cons (.v 11) .nil)))))))) .nil)) .nil) (.cons (.ite (.cmp .Eq (.bin .Mod (.v 1) (.k (.int 3))) (.k (.int 0))) (.cons (.ret (.lst (.cons (.tup (.cons (.k (.str "lend")) (.cons (.v 5) (.cons (.k (.str "write")) (.cons (.v 7) .nil))))) (.cons (.tup (.cons (.k (.str "back")) (.cons (.v 5) .nil))) (.cons (.tup (.cons (.k (.str "lend")) (.cons (.v 6) (.cons (.v 10) (.cons (.v 5) .nil))))) (.cons (.tup (.cons (.k (.str "look")) (.cons (.v 6) .nil))) (.cons (.v 11) (.cons (.v 11) .nil)))))))) .nil) .nil) (.cons (.asg 13 (.lst (.cons (.tup (.cons (.k (.str "pick")) (.cons (.idx (.v 4) (.k (.int 2))) (.cons (.tup (.cons (.v 8) (.cons (.v 7) .nil))) .nil)))) (.cons (.tup (.cons (.k (.str "lend")) (.cons (.v 5) (.cons (.k (.str "write")) (.cons (.v 7) .nil))))) (.cons (.tup (.cons (.k (.str "either")) .nil)) (.cons (.tup (.cons (.k (.str "back")) (.cons (.v 5) .nil))) .nil)))))) (.cons (.ret (.bin .Add (.v 13) (.lst (.cons (.tup (.cons (.k (.str "or")) .nil)) (.cons (.v 11) (.cons (.tup (.cons (.k (.str "lend")) (.cons (.v 6) (.cons (.v 10) (.cons (.idx (.v 4) (.k (.int 2))) .nil))))) (.cons (.tup (.cons (.k (.str "look")) (.cons (.v 5) .nil))) (.cons (.v 11) (.cons (.v 11) (.cons (.v 11) .nil)))))))))) .nil))))))))))))))))⟩
noncomputable def fn_law_first_four:Fn:=⟨5,12,[],false,(.cons (.asg 5 (.idx (.v 3) (.k (.int 0)))) (.cons (.asg 6 (.idx (.v 3) (.k (.int 1)))) (.cons (.asg 7 (.idx (.v 3) (.k (.int 2)))) (.cons (.asg 8 (.idx (.lst (.cons (.k (.str "read")) (.cons (.k (.str "write")) .nil))) (.bin .Mod (.bin .FloorDiv (.v 1) (.k (.int 8))) (.k (.int 2))))) (.cons (.asg 9 (.tup (.cons (.k (.str "end")) .nil))) (.cons (.ite (.cmp .Eq (.v 0) (.k (.int 0))) (.cons (.ret (.lst (.cons (.tup (.cons (.k (.str "lend")) (.cons (.v 5) (.cons (.v 8) (.cons (.v 4) .nil))))) (.cons (.tup (.cons (.k (.str "again")) .nil)) (.cons (.tup (.cons (.k (.str "look")) (.cons (.v 5) .nil))) (.cons (.tup (.cons (.k (.str "back")) (.cons (.v 5) .nil))) (.cons (.v 9) (.cons (.v 9) .nil)))))))) .nil) .nil) (.cons (.ite (.cmp .Eq (.v 0) (.k (.int 1))) (.cons (.asg 10 (.lst (.cons (.tup (.cons (.k (.str "lend")) (.cons (.v 5) (.cons (.v 8) (.cons (.v 4) .nil))))) (.cons (.tup (.cons (.k (.str "either")) .nil)) (.cons (.tup (.cons (.k (.str "back")) (.cons (.v 5) .nil))) (.cons (.tup (.cons (.k (.str "or")) .nil)) (.cons (.tup (.cons (.k (.str "look")) (.cons (.v 5) .nil))) (.cons (.v 9) .nil)))))))) (.cons (.ret (.bin .Add (.v 10) (.lst (.cons (.tup (.cons (.k (.str "look")) (.cons (.v 5) .nil))) (.cons (.v 9) .nil))))) .nil)) .nil) (.cons (.asg 11 (.tup (.cons (.k (.str "lend")) (.cons (.v 5) (.cons (.k (.str "write")) (.cons (.v 4) .nil)))))) (.cons (.ite (.cmp .Eq (.v 0) (.k (.int 2))) (.cons (.asg 10 (.lst (.cons (.v 11) (.cons (.tup (.cons (.k (.str "lend")) (.cons (.v 6) (.cons (.k (.str "write")) (.cons (.v 5) .nil))))) (.cons (.tup (.cons (.k (.str "lend")) (.cons (.v 7) (.cons (.v 8) (.cons (.v 6) .nil))))) .nil))))) (.cons (.ret (.bin .Add (.v 10) (.lst (.cons (.tup (.cons (.k (.str "back")) (.cons (.idx (.lst (.cons (.v 5) (.cons (.v 6) (.cons (.v 5) .nil)))) (.bin .Mod (.v 2) (.k (.int 3)))) .nil))) (.cons (.tup (.cons (.k (.str "look")) (.cons (.idx (.lst (.cons (.v 7) (.cons (.v 7) (.cons (.v 6) .nil)))) (.bin .Mod (.v 1) (.k (.int 3)))) .nil))) (.cons (.v 9) (.cons (.v 9) (.cons (.v 9) .nil)))))))) .nil)) .nil) (.cons (.asg 10 (.lst (.cons (.v 11) (.cons (.tup (.cons (.k (.str "lend")) (.cons (.v 6) (.cons (.k (.str "read")) (.cons (.v 5) .nil))))) (.cons (.tup (.cons (.k (.str "lend")) (.cons (.v 7) (.cons (.idx (.lst (.cons (.k (.str "read")) (.cons (.k (.str "write")) .nil))) (.bin .Mod (.v 2) (.k (.int 2)))) (.cons (.v 4) .nil))))) (.cons (.tup (.cons (.k (.str "again")) .nil)) .nil)))))) (.cons (.ret (.bin .Add (.v 10) (.lst (.cons (.tup (.cons (.k (.str "back")) (.cons (.v 6) .nil))) (.cons (.v 9) (.cons (.v 9) (.cons (.v 9) (.cons (.v 9) .nil)))))))) .nil)))))))))))⟩
noncomputable def fn_law_hands:Fn:=⟨4,5,[],false,(.cons (.asg 4 (.lst (.cons (.call false "_law_word" (.cons (.v 0) (.cons (.v 1) (.cons (.v 2) (.cons (.v 3) .nil))))) (.cons (.call false "_law_word" (.cons (.v 1) (.cons (.v 0) (.cons (.bin .Add (.v 2) (.k (.int 1))) (.cons (.v 3) .nil))))) .nil)))) (.cons (.ret (.bin .Add (.v 4) (.lst (.cons (.call false "_law_word" (.cons (.v 0) (.cons (.v 0) (.cons (.bin .Add (.v 2) (.k (.int 2))) (.cons (.v 3) .nil))))) .nil)))) .nil))⟩
noncomputable def fn_law_thing:Fn:=⟨2,2,[],false,(.cons (.ite (.cmp .Eq (.bin .Mod (.v 0) (.k (.int 8))) (.k (.int 7))) (.cons (.ret (.bin .Mod (.bin .FloorDiv (.v 0) (.k (.int 8))) (.bin .Pow (.k (.int 10)) (.k (.int 9))))) .nil) .nil) (.cons (.ret (.bin .Mod (.bin .Add (.v 1) (.bin .Mod (.v 0) (.k (.int 3)))) (.bin .Pow (.k (.int 10)) (.k (.int 9))))) .nil))⟩
noncomputable def fn_law_draw:Fn:=⟨1,4,[],false,(.cons (.asg 1 (.bin .Mult (.bin .Mod (.bin .FloorDiv (.call false "_law_cell_at" (.cons (.v 0) (.cons (.k (.int 1)) .nil))) (.k (.int 2))) (.bin .Pow (.k (.int 10)) (.k (.int 9)))) (.bin .Mod (.call false "_law_cell_at" (.cons (.v 0) (.cons (.k (.int 1)) .nil))) (.k (.int 2))))) (.cons (.asg 2 (.bin .FloorDiv (.call false "_law_cell_at" (.cons (.v 0) (.cons (.k (.int 2)) .nil))) (.k (.int 8)))) (.cons (.asg 3 (.bin .Add (.k (.int 1)) (.bin .Mod (.bin .FloorDiv (.v 2) (.k (.int 4))) (.k (.int 12))))) (.cons (.ret (.lst (.cons (.v 1) (.cons (.bin .Mod (.v 2) (.k (.int 4))) (.cons (.v 3) (.cons (.bin .Mod (.call false "_law_cell_at" (.cons (.v 0) (.cons (.k (.int 1)) .nil))) (.v 3)) (.cons (.bin .Mod (.call false "_law_cell_at" (.cons (.v 0) (.cons (.k (.int 0)) .nil))) (.k (.int 26))) .nil))))))) .nil))))⟩
noncomputable def fn_law_word:Fn:=⟨4,8,[],false,(.cons (.asg 4 (.k (.str "abcdefghijklmnopqrstuvwxyz"))) (.cons (.asg 5 (.idx (.v 4) (.bin .Mod (.bin .Add (.idx (.v 3) (.k (.int 4))) (.bin .Mult (.k (.int 5)) (.v 2))) (.k (.int 26))))) (.cons (.ite (.cmp .Eq (.idx (.v 3) (.k (.int 1))) (.k (.int 0))) (.cons (.ret (.bin .Mult (.idx (.v 4) (.bin .Mod (.idx (.v 3) (.k (.int 4))) (.k (.int 26)))) (.bin .Add (.v 2) (.k (.int 1))))) .nil) .nil) (.cons (.asg 6 (.k (.str ""))) (.cons (.for1 7 (.range1 (.idx (.v 3) (.k (.int 2)))) (.cons (.ite (.cmp .Eq (.v 7) (.idx (.v 3) (.k (.int 3)))) (.cons (.asg 6 (.bin .Add (.v 6) (.v 5))) .nil) (.cons (.ite (.cmp .Eq (.idx (.v 3) (.k (.int 1))) (.k (.int 1))) (.cons (.asg 6 (.bin .Add (.v 6) (.idx (.v 4) (.bin .Mod (.bin .Add (.v 0) (.bin .Mult (.v 7) (.v 1))) (.k (.int 26)))))) .nil) (.cons (.asg 6 (.bin .Add (.v 6) (.idx (.v 4) (.idx (.v 3) (.k (.int 2)))))) .nil)) .nil)) .nil)) (.cons (.ret (.v 6)) .nil))))))⟩
noncomputable def fn_law_cell_at:Fn:=⟨2,2,[],false,(.cons (.ite (.cmp .Lt (.v 1) (.b1 .len (.v 0))) (.cons (.ret (.idx (.v 0) (.v 1))) .nil) .nil) (.cons (.ret (.k (.int 0))) .nil))⟩
noncomputable def fnlooked:Fn:=⟨1,7,[],false,(.cons (.ex (.call false "checked" (.cons (.v 0) .nil))) (.cons (.asg 1 (.call false "standings" (.cons (.v 0) .nil))) (.cons (.asg 2 (.k (.none))) (.cons (.for2 3 4 (.enum (.v 1)) (.cons (.asg 5 (.call false "fault" (.cons (.v 0) (.cons (.idx (.v 4) (.k (.int 0))) .nil)))) (.cons (.ite (.cmp .NotEq (.v 5) (.k (.str ""))) (.cons (.asg 6 (.tup (.cons (.idx (.idx (.v 4) (.k (.int 0))) (.k (.int 0))) (.cons (.index (.gc "WORDS") (.v 5)) (.cons (.v 3) .nil))))) (.cons (.ite (.bool false (.cons (.cmp .Is (.v 2) (.k (.none))) (.cons (.cmp .Lt (.v 6) (.v 2)) .nil))) (.cons (.asg 2 (.v 6)) .nil) .nil) .nil)) .nil) .nil))) (.cons (.ite (.cmp .Is (.v 2) (.k (.none))) (.cons (.ret (.k (.none))) .nil) .nil) (.cons (.ret (.tup (.cons (.idx (.v 2) (.k (.int 0))) (.cons (.idx (.gc "WORDS") (.idx (.v 2) (.k (.int 1)))) (.cons (.call false "choices_to" (.cons (.v 0) (.cons (.v 1) (.cons (.idx (.v 2) (.k (.int 2))) .nil)))) .nil))))) .nil))))))⟩
noncomputable def fnchoices_to:Fn:=⟨3,5,[3],false,(.cons (.asg 3 (.lst .nil)) (.cons (.wh (.cmp .IsNot (.idx (.idx (.v 1) (.v 2)) (.k (.int 1))) (.k (.none))) (.cons (.asg 4 (.idx (.idx (.v 1) (.v 2)) (.k (.int 1)))) (.cons (.ite (.call false "chooses" (.cons (.idx (.v 0) (.idx (.idx (.idx (.v 1) (.v 4)) (.k (.int 0))) (.k (.int 0)))) .nil)) (.cons (.app 3 (.idx (.idx (.v 1) (.v 2)) (.k (.int 2)))) .nil) .nil) (.cons (.asg 2 (.v 4)) .nil)))) (.cons (.rev 3) (.cons (.ret (.v 3)) .nil))))⟩
noncomputable def fnstandings:Fn:=⟨1,9,[3,4],false,(.cons (.asg 1 (.call true "homes" (.cons (.v 0) .nil))) (.cons (.asg 2 (.call true "ends" (.cons (.v 0) .nil))) (.cons (.asg 3 (.lst .nil)) (.cons (.asg 4 (.dic .nil .nil)) (.cons (.ite (.cmp .Gt (.b1 .len (.v 0)) (.k (.int 0))) (.cons (.app 3 (.tup (.cons (.tup (.cons (.k (.int 0)) (.cons (.tup .nil) .nil))) (.cons (.k (.none)) (.cons (.k (.int 0)) .nil))))) (.cons (.seti 4 (.tup (.cons (.k (.int 0)) (.cons (.tup .nil) .nil))) (.k (.bool true))) .nil)) .nil) (.cons (.asg 5 (.k (.int 0))) (.cons (.wh (.cmp .Lt (.v 5) (.b1 .len (.v 3))) (.cons (.asg 6 (.idx (.idx (.v 3) (.v 5)) (.k (.int 0)))) (.cons (.for1 7 (.range1 (.call false "count_of" (.cons (.v 0) (.cons (.v 1) (.cons (.idx (.v 6) (.k (.int 0))) .nil))))) (.cons (.asg 8 (.call false "moved" (.cons (.v 0) (.cons (.v 1) (.cons (.v 2) (.cons (.v 6) (.cons (.v 7) .nil))))))) (.cons (.ite (.bool true (.cons (.cmp .Lt (.idx (.v 8) (.k (.int 0))) (.b1 .len (.v 0))) (.cons (.cmp .NotIn (.v 8) (.v 4)) .nil))) (.cons (.seti 4 (.v 8) (.k (.bool true))) (.cons (.app 3 (.tup (.cons (.v 8) (.cons (.v 5) (.cons (.v 7) .nil))))) .nil)) .nil) .nil))) (.cons (.asg 5 (.bin .Add (.v 5) (.k (.int 1)))) .nil)))) (.cons (.ret (.v 3)) .nil))))))))⟩
noncomputable def fnchecked:Fn:=⟨1,4,[1],false,(.cons (.asg 1 (.lst .nil)) (.cons (.for2 2 3 (.enum (.v 0)) (.cons (.ite (.not (.call false "is_row" (.cons (.v 3) .nil))) (.cons .stuck .nil) .nil) (.cons (.ex (.call true "need_block" (.cons (.v 1) (.cons (.v 2) (.cons (.v 3) .nil))))) (.cons (.ite (.cmp .In (.idx (.v 3) (.k (.int 0))) (.tup (.cons (.k (.str "back")) (.cons (.k (.str "look")) (.cons (.k (.str "change")) .nil))))) (.cons (.ex (.call true "need_hand" (.cons (.v 1) (.cons (.v 2) (.cons (.v 3) .nil))))) .nil) .nil) (.cons (.ite (.cmp .In (.idx (.v 3) (.k (.int 0))) (.tup (.cons (.k (.str "lend")) (.cons (.k (.str "pick")) .nil)))) (.cons (.ex (.call true "need_free" (.cons (.v 1) (.cons (.v 2) (.cons (.v 3) .nil))))) .nil) .nil) (.cons (.ite (.cmp .In (.idx (.v 3) (.k (.int 0))) (.gc "OPENERS")) (.cons (.app 1 (.call false "block_of" (.cons (.v 2) (.cons (.v 3) .nil)))) .nil) .nil) (.cons (.ite (.cmp .Eq (.idx (.v 3) (.k (.int 0))) (.k (.str "end"))) (.cons (.pop 1) .nil) .nil) .nil))))))) (.cons (.ite (.cmp .NotEq (.v 1) (.lst .nil)) (.cons .stuck .nil) .nil) .nil)))⟩
noncomputable def fnblock_of:Fn:=⟨2,2,[],false,(.cons (.ite (.cmp .Eq (.idx (.v 1) (.k (.int 0))) (.k (.str "lend"))) (.cons (.ret (.tup (.cons (.v 0) (.cons (.k (.str "lend")) (.cons (.idx (.v 1) (.k (.int 1))) (.cons (.idx (.v 1) (.k (.int 2))) .nil)))))) .nil) .nil) (.cons (.ite (.cmp .Eq (.idx (.v 1) (.k (.int 0))) (.k (.str "pick"))) (.cons (.ret (.tup (.cons (.v 0) (.cons (.k (.str "pick")) (.cons (.idx (.v 1) (.k (.int 1))) (.cons (.k (.str "pick")) .nil)))))) .nil) .nil) (.cons (.ret (.tup (.cons (.v 0) (.cons (.idx (.v 1) (.k (.int 0))) (.cons (.k (.str "")) (.cons (.k (.str "")) .nil)))))) .nil)))⟩
noncomputable def fnneed_free:Fn:=⟨3,4,[],true,(.cons (.asg 3 (.k (.none))) (.cons (.ite (.bool true (.cons (.cmp .Eq (.idx (.v 2) (.k (.int 0))) (.k (.str "lend"))) (.cons (.isi (.idx (.v 2) (.k (.int 3))) .str) .nil))) (.cons (.asg 3 (.call true "meaning" (.cons (.v 0) (.cons (.idx (.v 2) (.k (.int 3))) .nil)))) (.cons (.ite (.cmp .Is (.v 3) (.k (.none))) (.cons .stuck .nil) .nil) .nil)) .nil) (.cons (.ite (.cmp .IsNot (.call true "meaning" (.cons (.v 0) (.cons (.idx (.v 2) (.k (.int 1))) .nil))) (.k (.none))) (.cons .stuck .nil) .nil) (.cons (.ite (.bool true (.cons (.cmp .Eq (.idx (.v 2) (.k (.int 0))) (.k (.str "lend"))) (.cons (.cmp .Eq (.idx (.v 2) (.k (.int 2))) (.k (.str "write"))) (.cons (.cmp .Eq (.v 3) (.k (.str "read"))) .nil)))) (.cons .stuck .nil) .nil) .nil))))⟩
noncomputable def fnneed_hand:Fn:=⟨3,4,[],true,(.cons (.asg 3 (.call true "meaning" (.cons (.v 0) (.cons (.idx (.v 2) (.k (.int 1))) .nil)))) (.cons (.ite (.bool false (.cons (.cmp .Is (.v 3) (.k (.none))) (.cons (.cmp .Eq (.v 3) (.k (.str "pick"))) .nil))) (.cons .stuck .nil) .nil) (.cons (.ite (.bool true (.cons (.cmp .Eq (.idx (.v 2) (.k (.int 0))) (.k (.str "change"))) (.cons (.cmp .Eq (.v 3) (.k (.str "read"))) .nil))) (.cons .stuck .nil) .nil) .nil)))⟩
noncomputable def fnneed_block:Fn:=⟨3,3,[],true,(.cons (.ite (.bool true (.cons (.cmp .Eq (.idx (.v 2) (.k (.int 0))) (.k (.str "end"))) (.cons (.cmp .Eq (.v 0) (.lst .nil)) .nil))) (.cons .stuck .nil) .nil) (.cons (.ite (.bool true (.cons (.cmp .Eq (.idx (.v 2) (.k (.int 0))) (.k (.str "or"))) (.cons (.bool false (.cons (.cmp .Eq (.v 0) (.lst .nil)) (.cons (.cmp .NotEq (.idx (.idx (.v 0) (.neg (.k (.int 1)))) (.k (.int 1))) (.k (.str "either"))) .nil))) .nil))) (.cons .stuck .nil) .nil) .nil))⟩
noncomputable def fnmeaning:Fn:=⟨2,3,[],true,(.cons (.for1 2 (.plain (.v 0)) (.cons (.ite (.cmp .Eq (.idx (.v 2) (.k (.int 2))) (.v 1)) (.cons (.ret (.idx (.v 2) (.k (.int 3)))) .nil) .nil) .nil)) (.cons (.ret (.k (.none))) .nil))⟩
noncomputable def fnis_row:Fn:=⟨1,1,[],false,(.cons (.ite (.bool false (.cons (.not (.isi (.v 0) .tuple)) (.cons (.cmp .Eq (.b1 .len (.v 0)) (.k (.int 0))) (.cons (.not (.isi (.idx (.v 0) (.k (.int 0))) .str)) .nil)))) (.cons (.ret (.k (.bool false))) .nil) .nil) (.cons (.ite (.cmp .Eq (.idx (.v 0) (.k (.int 0))) (.k (.str "lend"))) (.cons (.ret (.call false "is_lend" (.cons (.v 0) .nil))) .nil) .nil) (.cons (.ite (.cmp .Eq (.idx (.v 0) (.k (.int 0))) (.k (.str "pick"))) (.cons (.ret (.bool true (.cons (.cmp .Eq (.b1 .len (.v 0)) (.k (.int 3))) (.cons (.call false "is_word" (.cons (.idx (.v 0) (.k (.int 1))) .nil)) (.cons (.call false "is_choice" (.cons (.idx (.v 0) (.k (.int 2))) .nil)) .nil))))) .nil) .nil) (.cons (.ite (.cmp .In (.idx (.v 0) (.k (.int 0))) (.tup (.cons (.k (.str "either")) (.cons (.k (.str "or")) (.cons (.k (.str "again")) (.cons (.k (.str "end")) .nil)))))) (.cons (.ret (.cmp .Eq (.b1 .len (.v 0)) (.k (.int 1)))) .nil) .nil) (.cons (.ite (.cmp .In (.idx (.v 0) (.k (.int 0))) (.tup (.cons (.k (.str "back")) (.cons (.k (.str "look")) (.cons (.k (.str "change")) .nil))))) (.cons (.ret (.bool true (.cons (.cmp .Eq (.b1 .len (.v 0)) (.k (.int 2))) (.cons (.call false "is_word" (.cons (.idx (.v 0) (.k (.int 1))) .nil)) .nil)))) .nil) .nil) (.cons (.ret (.k (.bool false))) .nil))))))⟩
noncomputable def fnis_lend:Fn:=⟨1,1,[],false,(.cons (.ite (.bool false (.cons (.cmp .NotEq (.b1 .len (.v 0)) (.k (.int 4))) (.cons (.not (.call false "is_word" (.cons (.idx (.v 0) (.k (.int 1))) .nil))) (.cons (.not (.isi (.idx (.v 0) (.k (.int 2))) .str)) .nil)))) (.cons (.ret (.k (.bool false))) .nil) .nil) (.cons (.ret (.bool true (.cons (.cmp .In (.idx (.v 0) (.k (.int 2))) (.tup (.cons (.k (.str "read")) (.cons (.k (.str "write")) .nil)))) (.cons (.bool false (.cons (.call false "is_thing" (.cons (.idx (.v 0) (.k (.int 3))) .nil)) (.cons (.call false "is_word" (.cons (.idx (.v 0) (.k (.int 3))) .nil)) .nil))) .nil)))) .nil))⟩
noncomputable def fnis_choice:Fn:=⟨1,1,[],false,(.cons (.ite (.bool false (.cons (.not (.isi (.v 0) .tuple)) (.cons (.not (.cmp2 .LtE .LtE (.k (.int 1)) (.b1 .len (.v 0)) (.gc "MOST_THINGS"))) .nil))) (.cons (.ret (.k (.bool false))) .nil) .nil) (.cons (.ret (.b1 .all (.comp (.call false "is_thing" (.cons (.v 1) .nil)) (.plain (.v 0)) .none))) .nil))⟩
noncomputable def fnis_thing:Fn:=⟨1,1,[],false,(.cons (.ret (.bool true (.cons (.isi (.v 0) .int) (.cons (.not (.isi (.v 0) .bool)) (.cons (.cmp2 .LtE .LtE (.k (.int 0)) (.v 0) (.gc "MOST_THING")) .nil))))) .nil)⟩
noncomputable def fnis_word:Fn:=⟨1,1,[],false,(.cons (.ite (.bool false (.cons (.not (.isi (.v 0) .str)) (.cons (.not (.cmp2 .LtE .LtE (.k (.int 1)) (.b1 .len (.v 0)) (.gc "LONGEST"))) .nil))) (.cons (.ret (.k (.bool false))) .nil) .nil) (.cons (.ret (.b1 .all (.comp (.cmp .In (.v 1) (.gc "LETTERS")) (.plain (.v 0)) .none))) .nil))⟩
noncomputable def fnfault:Fn:=⟨2,5,[],false,(.cons (.unp 2 3 (.v 1)) (.cons (.ite (.call false "beside" (.cons (.v 3) .nil)) (.cons (.ret (.k (.str "beside"))) .nil) .nil) (.cons (.asg 4 (.call false "hand_used" (.cons (.idx (.v 0) (.v 2)) (.cons (.v 3) .nil)))) (.cons (.ite (.cmp .Is (.v 4) (.k (.none))) (.cons (.ret (.k (.str ""))) .nil) .nil) (.cons (.ite (.not (.idx (.v 4) (.k (.int 4)))) (.cons (.ret (.k (.str "empty"))) .nil) .nil) (.cons (.ite (.bool true (.cons (.cmp .NotEq (.idx (.idx (.v 0) (.v 2)) (.k (.int 0))) (.k (.str "lend"))) (.cons (.call false "is_asleep" (.cons (.v 3) (.cons (.idx (.v 4) (.k (.int 0))) .nil))) .nil))) (.cons (.ret (.k (.str "asleep"))) .nil) .nil) (.cons (.ret (.k (.str ""))) .nil)))))))⟩
noncomputable def fnhand_used:Fn:=⟨2,3,[],false,(.cons (.ite (.cmp .In (.idx (.v 0) (.k (.int 0))) (.tup (.cons (.k (.str "look")) (.cons (.k (.str "change")) .nil)))) (.cons (.ret (.call false "entry_of" (.cons (.v 1) (.cons (.idx (.v 0) (.k (.int 1))) .nil)))) .nil) .nil) (.cons (.ite (.bool true (.cons (.cmp .Eq (.idx (.v 0) (.k (.int 0))) (.k (.str "lend"))) (.cons (.isi (.idx (.v 0) (.k (.int 3))) .str) .nil))) (.cons (.asg 2 (.call false "entry_of" (.cons (.v 1) (.cons (.idx (.v 0) (.k (.int 3))) .nil)))) (.cons (.ite (.cmp .NotEq (.idx (.v 2) (.k (.int 1))) (.k (.str "pick"))) (.cons (.ret (.v 2)) .nil) .nil) .nil)) .nil) (.cons (.ret (.k (.none))) .nil)))⟩
noncomputable def fnbeside:Fn:=⟨1,4,[],false,(.cons (.asg 1 (.call true "awake" (.cons (.v 0) .nil))) (.cons (.for1 2 (.range1 (.b1 .len (.v 1))) (.cons (.for1 3 (.plain (.sl (.v 1) .none (.some (.v 2)))) (.cons (.ite (.bool true (.cons (.cmp .Eq (.idx (.v 3) (.k (.int 2))) (.idx (.idx (.v 1) (.v 2)) (.k (.int 2)))) (.cons (.cmp .In (.k (.str "write")) (.tup (.cons (.idx (.v 3) (.k (.int 1))) (.cons (.idx (.idx (.v 1) (.v 2)) (.k (.int 1))) .nil)))) .nil))) (.cons (.ret (.k (.bool true))) .nil) .nil) .nil)) .nil)) (.cons (.ret (.k (.bool false))) .nil)))⟩
noncomputable def fnawake:Fn:=⟨1,3,[1],true,(.cons (.asg 1 (.lst .nil)) (.cons (.for1 2 (.plain (.v 0)) (.cons (.ite (.bool true (.cons (.cmp .NotEq (.idx (.v 2) (.k (.int 1))) (.k (.str "pick"))) (.cons (.idx (.v 2) (.k (.int 4))) (.cons (.not (.call false "is_asleep" (.cons (.v 0) (.cons (.idx (.v 2) (.k (.int 0))) .nil)))) .nil)))) (.cons (.app 1 (.v 2)) .nil) .nil) .nil)) (.cons (.ret (.v 1)) .nil)))⟩
noncomputable def fnis_asleep:Fn:=⟨2,2,[],false,(.cons (.ret (.b1 .any (.comp (.bool true (.cons (.cmp .Eq (.idx (.v 2) (.k (.int 3))) (.v 1)) (.cons (.idx (.v 2) (.k (.int 4))) .nil))) (.plain (.v 0)) .none))) .nil)⟩
noncomputable def fnchooses:Fn:=⟨1,1,[],false,(.cons (.ret (.cmp .In (.idx (.v 0) (.k (.int 0))) (.tup (.cons (.k (.str "pick")) (.cons (.k (.str "either")) (.cons (.k (.str "again")) .nil)))))) .nil)⟩
noncomputable def fnmoved:Fn:=⟨5,9,[],false,(.cons (.unp 5 6 (.v 3)) (.cons (.asg 7 (.idx (.v 0) (.v 5))) (.cons (.asg 8 (.bin .Mod (.v 4) (.call false "count_of" (.cons (.v 0) (.cons (.v 1) (.cons (.v 5) .nil)))))) (.cons (.ite (.cmp .Eq (.idx (.v 7) (.k (.int 0))) (.k (.str "lend"))) (.cons (.ret (.tup (.cons (.bin .Add (.v 5) (.k (.int 1))) (.cons (.bin .Add (.v 6) (.tup (.cons (.call false "lent" (.cons (.v 7) (.cons (.v 6) .nil))) .nil))) .nil)))) .nil) .nil) (.cons (.ite (.cmp .Eq (.idx (.v 7) (.k (.int 0))) (.k (.str "pick"))) (.cons (.ret (.tup (.cons (.bin .Add (.v 5) (.k (.int 1))) (.cons (.bin .Add (.v 6) (.tup (.cons (.tup (.cons (.idx (.v 7) (.k (.int 1))) (.cons (.k (.str "pick")) (.cons (.idx (.idx (.v 7) (.k (.int 2))) (.v 8)) (.cons (.k (.str "")) (.cons (.k (.bool true)) .nil)))))) .nil))) .nil)))) .nil) .nil) (.cons (.ite (.cmp .Eq (.idx (.v 7) (.k (.int 0))) (.k (.str "either"))) (.cons (.ret (.tup (.cons (.idx (.call false "first_rows" (.cons (.v 0) (.cons (.v 1) (.cons (.v 5) .nil)))) (.v 8)) (.cons (.v 6) .nil)))) .nil) .nil) (.cons (.ite (.cmp .Eq (.idx (.v 7) (.k (.int 0))) (.k (.str "or"))) (.cons (.ret (.tup (.cons (.idx (.v 2) (.idx (.v 1) (.v 5))) (.cons (.v 6) .nil)))) .nil) .nil) (.cons (.ite (.bool true (.cons (.cmp .Eq (.idx (.v 7) (.k (.int 0))) (.k (.str "again"))) (.cons (.cmp .Eq (.v 8) (.k (.int 0))) .nil))) (.cons (.ret (.tup (.cons (.bin .Add (.idx (.v 2) (.v 5)) (.k (.int 1))) (.cons (.v 6) .nil)))) .nil) .nil) (.cons (.ite (.cmp .Eq (.idx (.v 7) (.k (.int 0))) (.k (.str "end"))) (.cons (.ret (.call false "ended" (.cons (.v 0) (.cons (.v 1) (.cons (.v 3) .nil))))) .nil) .nil) (.cons (.ite (.cmp .Eq (.idx (.v 7) (.k (.int 0))) (.k (.str "back"))) (.cons (.ret (.tup (.cons (.bin .Add (.v 5) (.k (.int 1))) (.cons (.call false "given_back" (.cons (.v 6) (.cons (.idx (.v 7) (.k (.int 1))) .nil))) .nil)))) .nil) .nil) (.cons (.ret (.tup (.cons (.bin .Add (.v 5) (.k (.int 1))) (.cons (.v 6) .nil)))) .nil)))))))))))⟩
noncomputable def fnended:Fn:=⟨3,6,[],false,(.cons (.unp 3 4 (.v 2)) (.cons (.asg 5 (.idx (.idx (.v 0) (.idx (.v 1) (.v 3))) (.k (.int 0)))) (.cons (.ite (.cmp .Eq (.v 5) (.k (.str "again"))) (.cons (.ret (.tup (.cons (.idx (.v 1) (.v 3)) (.cons (.v 4) .nil)))) .nil) .nil) (.cons (.ite (.cmp .Eq (.v 5) (.k (.str "either"))) (.cons (.ret (.tup (.cons (.bin .Add (.v 3) (.k (.int 1))) (.cons (.v 4) .nil)))) .nil) .nil) (.cons (.ret (.tup (.cons (.bin .Add (.v 3) (.k (.int 1))) (.cons (.sl (.v 4) .none (.some (.neg (.k (.int 1))))) .nil)))) .nil)))))⟩
noncomputable def fncount_of:Fn:=⟨3,3,[],false,(.cons (.ite (.cmp .Eq (.idx (.idx (.v 0) (.v 2)) (.k (.int 0))) (.k (.str "pick"))) (.cons (.ret (.b1 .len (.idx (.idx (.v 0) (.v 2)) (.k (.int 2))))) .nil) .nil) (.cons (.ite (.cmp .Eq (.idx (.idx (.v 0) (.v 2)) (.k (.int 0))) (.k (.str "either"))) (.cons (.ret (.b1 .len (.call false "first_rows" (.cons (.v 0) (.cons (.v 1) (.cons (.v 2) .nil)))))) .nil) .nil) (.cons (.ite (.cmp .Eq (.idx (.idx (.v 0) (.v 2)) (.k (.int 0))) (.k (.str "again"))) (.cons (.ret (.k (.int 2))) .nil) .nil) (.cons (.ret (.k (.int 1))) .nil))))⟩
noncomputable def fngiven_back:Fn:=⟨2,5,[2,3],false,(.cons (.asg 2 (.dic (.cons (.v 1) .nil) (.cons (.k (.bool true)) .nil))) (.cons (.asg 3 (.lst .nil)) (.cons (.for1 4 (.plain (.v 0)) (.cons (.ite (.bool false (.cons (.cmp .In (.idx (.v 4) (.k (.int 0))) (.v 2)) (.cons (.cmp .In (.idx (.v 4) (.k (.int 3))) (.v 2)) .nil))) (.cons (.seti 2 (.idx (.v 4) (.k (.int 0))) (.k (.bool true))) (.cons (.app 3 (.bin .Add (.sl (.v 4) .none (.some (.k (.int 4)))) (.tup (.cons (.k (.bool false)) .nil)))) .nil)) (.cons (.app 3 (.v 4)) .nil)) .nil)) (.cons (.ret (.b1 .tuple (.v 3))) .nil))))⟩
noncomputable def fnlent:Fn:=⟨2,3,[],false,(.cons (.ite (.isi (.idx (.v 0) (.k (.int 3))) .int) (.cons (.ret (.tup (.cons (.idx (.v 0) (.k (.int 1))) (.cons (.idx (.v 0) (.k (.int 2))) (.cons (.idx (.v 0) (.k (.int 3))) (.cons (.k (.str "")) (.cons (.k (.bool true)) .nil))))))) .nil) .nil) (.cons (.asg 2 (.call false "entry_of" (.cons (.v 1) (.cons (.idx (.v 0) (.k (.int 3))) .nil)))) (.cons (.ite (.cmp .Eq (.idx (.v 2) (.k (.int 1))) (.k (.str "pick"))) (.cons (.ret (.tup (.cons (.idx (.v 0) (.k (.int 1))) (.cons (.idx (.v 0) (.k (.int 2))) (.cons (.idx (.v 2) (.k (.int 2))) (.cons (.k (.str "")) (.cons (.k (.bool true)) .nil))))))) .nil) .nil) (.cons (.ret (.tup (.cons (.idx (.v 0) (.k (.int 1))) (.cons (.idx (.v 0) (.k (.int 2))) (.cons (.idx (.v 2) (.k (.int 2))) (.cons (.idx (.v 0) (.k (.int 3))) (.cons (.idx (.v 2) (.k (.int 4))) .nil))))))) .nil))))⟩
noncomputable def fnentry_of:Fn:=⟨2,3,[],false,(.cons (.for1 2 (.plain (.v 0)) (.cons (.ite (.cmp .Eq (.idx (.v 2) (.k (.int 0))) (.v 1)) (.cons (.ret (.v 2)) .nil) .nil) .nil)) (.cons (.ret (.k (.none))) .nil))⟩
noncomputable def fnfirst_rows:Fn:=⟨3,5,[3],false,(.cons (.asg 3 (.lst (.cons (.bin .Add (.v 2) (.k (.int 1))) .nil))) (.cons (.for1 4 (.range1 (.b1 .len (.v 0))) (.cons (.ite (.bool true (.cons (.cmp .Eq (.idx (.idx (.v 0) (.v 4)) (.k (.int 0))) (.k (.str "or"))) (.cons (.cmp .Eq (.idx (.v 1) (.v 4)) (.v 2)) .nil))) (.cons (.app 3 (.bin .Add (.v 4) (.k (.int 1)))) .nil) .nil) .nil)) (.cons (.ret (.v 3)) .nil)))⟩
noncomputable def fnends:Fn:=⟨1,5,[2],true,(.cons (.asg 1 (.call true "homes" (.cons (.v 0) .nil))) (.cons (.asg 2 (.bin .Mult (.lst (.cons (.neg (.k (.int 1))) .nil)) (.b1 .len (.v 0)))) (.cons (.for2 3 4 (.enum (.v 0)) (.cons (.ite (.cmp .Eq (.idx (.v 4) (.k (.int 0))) (.k (.str "end"))) (.cons (.seti 2 (.idx (.v 1) (.v 3)) (.v 3)) .nil) .nil) .nil)) (.cons (.ret (.v 2)) .nil))))⟩
noncomputable def fnhomes:Fn:=⟨1,5,[1,2],true,(.cons (.asg 1 (.lst .nil)) (.cons (.asg 2 (.lst .nil)) (.cons (.for2 3 4 (.enum (.v 0)) (.cons (.ite (.cmp .Eq (.v 1) (.lst .nil)) (.cons (.app 2 (.neg (.k (.int 1)))) .nil) (.cons (.app 2 (.idx (.v 1) (.neg (.k (.int 1))))) .nil)) (.cons (.ite (.cmp .In (.idx (.v 4) (.k (.int 0))) (.gc "OPENERS")) (.cons (.app 1 (.v 3)) .nil) (.cons (.ite (.cmp .Eq (.idx (.v 4) (.k (.int 0))) (.k (.str "end"))) (.cons (.pop 1) .nil) .nil) .nil)) .nil))) (.cons (.ret (.v 2)) .nil))))⟩
noncomputable def sgs07:List (Str × List Nat × Bool):=[(("law" : Str),([]:List Nat),false),(("_law_rows_alike" : Str),([]:List Nat),false),(("_law_choices" : Str),([]:List Nat),false),(("_law_told" : Str),([]:List Nat),false),(("_law_long" : Str),([]:List Nat),false),(("_law_few" : Str),([3,4]:List Nat),false),(("_law_some_ways" : Str),([]:List Nat),false),(("_law_run" : Str),([3]:List Nat),false),(("_law_fault" : Str),([]:List Nat),false),(("_law_awake" : Str),([]:List Nat),false),(("_law_whole" : Str),([]:List Nat),false),(("_law_step" : Str),([]:List Nat),false),(("_law_back" : Str),([2]:List Nat),false),(("_law_lent" : Str),([]:List Nat),false),(("_law_starts" : Str),([3]:List Nat),false),(("_law_last" : Str),([]:List Nat),false),(("_law_homes" : Str),([1,2]:List Nat),false),(("_law_drawn" : Str),([]:List Nat),false),(("_law_sheet" : Str),([5]:List Nat),false),(("_law_row" : Str),([]:List Nat),true),(("_law_deed" : Str),([]:List Nat),false),(("_law_lend" : Str),([]:List Nat),false),(("_law_gadget" : Str),([]:List Nat),false),(("_law_first_four" : Str),([]:List Nat),false),(("_law_hands" : Str),([]:List Nat),false),(("_law_thing" : Str),([]:List Nat),false),(("_law_draw" : Str),([]:List Nat),false),(("_law_word" : Str),([]:List Nat),false),(("_law_cell_at" : Str),([]:List Nat),false),(("looked" : Str),([]:List Nat),false),(("choices_to" : Str),([3]:List Nat),false),(("standings" : Str),([3,4]:List Nat),false),(("checked" : Str),([1]:List Nat),false),(("block_of" : Str),([]:List Nat),false),(("need_free" : Str),([]:List Nat),true),(("need_hand" : Str),([]:List Nat),true),(("need_block" : Str),([]:List Nat),true),(("meaning" : Str),([]:List Nat),true),(("is_row" : Str),([]:List Nat),false),(("is_lend" : Str),([]:List Nat),false),(("is_choice" : Str),([]:List Nat),false),(("is_thing" : Str),([]:List Nat),false),(("is_word" : Str),([]:List Nat),false),(("fault" : Str),([]:List Nat),false),(("hand_used" : Str),([]:List Nat),false),(("beside" : Str),([]:List Nat),false),(("awake" : Str),([1]:List Nat),true),(("is_asleep" : Str),([]:List Nat),false),(("chooses" : Str),([]:List Nat),false),(("moved" : Str),([]:List Nat),false),(("ended" : Str),([]:List Nat),false),(("count_of" : Str),([]:List Nat),false),(("given_back" : Str),([2,3]:List Nat),false),(("lent" : Str),([]:List Nat),false),(("entry_of" : Str),([]:List Nat),false),(("first_rows" : Str),([3]:List Nat),false),(("ends" : Str),([2]:List Nat),true),(("homes" : Str),([1,2]:List Nat),true)]
noncomputable def gcs07:Str->Bool:=λx=>x == ("OPENERS" : Str)||x == ("LETTERS" : Str)||x == ("LONGEST" : Str)||x == ("MOST_THING" : Str)||x == ("MOST_THINGS" : Str)||x == ("WORDS" : Str)
noncomputable def tbl07:List (Str × Fn):=[(("law" : Str),fnlaw),(("_law_rows_alike" : Str),fn_law_rows_alike),(("_law_choices" : Str),fn_law_choices),(("_law_told" : Str),fn_law_told),(("_law_long" : Str),fn_law_long),(("_law_few" : Str),fn_law_few),(("_law_some_ways" : Str),fn_law_some_ways),(("_law_run" : Str),fn_law_run),(("_law_fault" : Str),fn_law_fault),(("_law_awake" : Str),fn_law_awake),(("_law_whole" : Str),fn_law_whole),(("_law_step" : Str),fn_law_step),(("_law_back" : Str),fn_law_back),(("_law_lent" : Str),fn_law_lent),(("_law_starts" : Str),fn_law_starts),(("_law_last" : Str),fn_law_last),(("_law_homes" : Str),fn_law_homes),(("_law_drawn" : Str),fn_law_drawn),(("_law_sheet" : Str),fn_law_sheet),(("_law_row" : Str),fn_law_row),(("_law_deed" : Str),fn_law_deed),(("_law_lend" : Str),fn_law_lend),(("_law_gadget" : Str),fn_law_gadget),(("_law_first_four" : Str),fn_law_first_four),(("_law_hands" : Str),fn_law_hands),(("_law_thing" : Str),fn_law_thing),(("_law_draw" : Str),fn_law_draw),(("_law_word" : Str),fn_law_word),(("_law_cell_at" : Str),fn_law_cell_at),(("looked" : Str),fnlooked),(("choices_to" : Str),fnchoices_to),(("standings" : Str),fnstandings),(("checked" : Str),fnchecked),(("block_of" : Str),fnblock_of),(("need_free" : Str),fnneed_free),(("need_hand" : Str),fnneed_hand),(("need_block" : Str),fnneed_block),(("meaning" : Str),fnmeaning),(("is_row" : Str),fnis_row),(("is_lend" : Str),fnis_lend),(("is_choice" : Str),fnis_choice),(("is_thing" : Str),fnis_thing),(("is_word" : Str),fnis_word),(("fault" : Str),fnfault),(("hand_used" : Str),fnhand_used),(("beside" : Str),fnbeside),(("awake" : Str),fnawake),(("is_asleep" : Str),fnis_asleep),(("chooses" : Str),fnchooses),(("moved" : Str),fnmoved),(("ended" : Str),fnended),(("count_of" : Str),fncount_of),(("given_back" : Str),fngiven_back),(("lent" : Str),fnlent),(("entry_of" : Str),fnentry_of),(("first_rows" : Str),fnfirst_rows),(("ends" : Str),fnends),(("homes" : Str),fnhomes)]
end Mine
set_option tactic.hygienic false
namespace Mine
open PySem
noncomputable def cellAt(ns:List Int)(k:Int):Int:=ns.getD k.toNat 0
theorem un(Φ:Str->List D->Option D)(Γ:Str->Option D)(N:Nat)(ns:List Int)(k:Int)(hk:0<=k):runFn Φ Γ N fn_law_cell_at [.list (ns.map .int),.int k]=some (.int (cellAt ns k)):=by
 refine dY [some (.list (ns.map .int)),some (.int k)] rfl rfl (m':=[some (.list (ns.map .int)),some (.int k)]) ?_;dsimp only [fn_law_cell_at];have hc:evE Φ Γ (.cmp .Lt (.v 1) (.b1 .len (.v 0))) [some (.list (ns.map .int)),some (.int k)]=some (.bool (decide (k < ns.length))):=by (exact aj rfl (aT rfl (lenL ns)) (v_lt k ↑ns.length))
 by_cases h:k < ns.length
 ·refine dW (m':=[some (.list (ns.map .int)),some (.int k)]) ?_
  rw [mO hc (by rw [am,Qn h])];refine dW (eo ?_ rfl);have hlt:k.toNat < ns.length:=by exact (Z5 hk).mpr h
  simp only [bj,x_v,gN,gX,bX];exact p_mk (a7 hk (by simpa using h)) (by
   rw [Qy,Qk hlt];simp [cellAt,List.getD,Qk hlt])
 ·refine (aS (m':=[some (.list (ns.map .int)),some (.int k)]) (y_no hc (by rw [am,Zk h]))).trans ?_
  refine dW (eo ?_ rfl);have:cellAt ns k=0:=by
   unfold cellAt List.getD;rw [ZS (by exact (Int.le_toNat hk).mpr (ZB.mp h))];rfl
  rw [this];exact x_k _
structure Dr where
 b:Int
 y:Int
 z:Int
 c:Int
 t:Int
noncomputable def Dr.d(r:Dr):D:=.list [.int r.b,.int r.y,.int r.z,.int r.c,.int r.t]
noncomputable def a8(ns:List Int):Dr:=
 ⟨((cellAt ns 1).fdiv 2).fmod 1000000000 * (cellAt ns 1).fmod 2,((cellAt ns 2).fdiv 8).fmod 4,1+(((cellAt ns 2).fdiv 8).fdiv 4).fmod 12,(cellAt ns 1).fmod (1+(((cellAt ns 2).fdiv 8).fdiv 4).fmod 12),(cellAt ns 0).fmod 26⟩
structure Dr.Ok(r:Dr):Prop where
 z1:1<=r.z
 z2:r.z<=12
 c1:0<=r.c
 c2:r.c < r.z
 t1:0<=r.t
 t2:r.t < 26
 y1:0<=r.y
 y2:r.y < 4
 b1:0<=r.b
 b2:r.b < 1000000000
theorem au(a:Int){b:Int}(h:0 < b):0<=a.fmod b:=Int.fmod_nonneg_of_pos a h
theorem aC(a:Int){b:Int}(h:0 < b):a.fmod b < b:=Int.fmod_lt_of_pos a h
theorem iz{a:Int}(h : -1152921504606846976 < a)(h2:a < 1152921504606846976):smallI a=true:=by
 unfold smallI;have:a.natAbs < 2 ^ 60:=by omega
 simp only [this,decide_true]
theorem g5(ns:List Int):(a8 ns).Ok:=by
 have h1:=au (((cellAt ns 2).fdiv 8).fdiv 4) (b:=12) (by decide);have h2:=aC (((cellAt ns 2).fdiv 8).fdiv 4) (b:=12) (by decide);have hz:(0:Int) < 1+(((cellAt ns 2).fdiv 8).fdiv 4).fmod 12:=by exact Zf (by decide) (QR h1)
 have h11:=au (cellAt ns 1) (b:=2) (by decide);have h12:=aC (cellAt ns 1) (b:=2) (by decide);have h13:(cellAt ns 1).fmod 2=0\/(cellAt ns 1).fmod 2=1:=by lia
 refine ⟨QR h1,by show 1+_<=(12:Int);exact Qt (ZD (Yb 1 _)) h2,(au (cellAt ns 1) hz),(aC (cellAt ns 1) hz),(au (cellAt ns 0) (b:=26) (by decide)),(aC (cellAt ns 0) (b:=26) (by decide)),(au ((cellAt ns 2).fdiv 8) (b:=4) (by decide)),(aC ((cellAt ns 2).fdiv 8) (b:=4) (by decide)),?_,?_⟩
 ·show 0<=_ * _
  rcases h13 with h | h<;>rw [h]
  ·rw [Int.mul_zero];exact Int.le_refl 0
  ·rw [Int.mul_one];exact (au ((cellAt ns 1).fdiv 2) (b:=1000000000) (by decide))
 ·show _ * _ < _
  rcases h13 with h | h<;>rw [h]
  ·rw [Int.mul_zero];decide
  ·rw [Int.mul_one];exact (aC ((cellAt ns 1).fdiv 2) (b:=1000000000) (by decide))
theorem uo(Φ:Str->List D->Option D)(Γ:Str->Option D)(N:Nat)(ns:List Int)(hc:∀ k:Int,0<=k->Φ "_law_cell_at" [.list (ns.map .int),.int k]=some (.int (cellAt ns k))):runFn Φ Γ N fn_law_draw [.list (ns.map .int)]=some (a8 ns).d:=by
 have h9:=au ((cellAt ns 1).fdiv 2) (b:=1000000000) (by decide);have h10:=aC ((cellAt ns 1).fdiv 2) (b:=1000000000) (by decide);have h1:=au (((cellAt ns 2).fdiv 8).fdiv 4) (b:=12) (by decide);have hz:(1:Int)+(((cellAt ns 2).fdiv 8).fdiv 4).fmod 12 ≠ 0:=by exact YR (Zf (by decide) (QR h1))
 refine dY [some (.list (ns.map .int)),none,none,none] rfl rfl (m':=[some (.list (ns.map .int)),some (.int (a8 ns).b),some (.int ((cellAt ns 2).fdiv 8)),some (.int (a8 ns).z)]) ?_;dsimp only [fn_law_draw];refine (aS (m':=[some (.list (ns.map .int)),some (.int (a8 ns).b),none,none]) (em (d:=.int (a8 ns).b) ?_ rfl)).trans ?_
 ·simp [x_k,x_v,bh,bg,aH,ax,o5,(hc 1 (by decide)),o4,bw,ft,(iz (a:=((cellAt ns 1).fdiv 2).fmod 1000000000) (by exact Zf (by decide) h9) (by exact Yw h10 (by decide))),a8]
 refine (aS (m':=[some (.list (ns.map .int)),some (.int (a8 ns).b),some (.int ((cellAt ns 2).fdiv 8)),none]) (em (d:=.int ((cellAt ns 2).fdiv 8)) ?_ rfl)).trans ?_
 ·exact aA (ai (esC rfl (esC rfl es0)) (hc 2 (by decide))) rfl rfl
 refine (aS (m':=[some (.list (ns.map .int)),some (.int (a8 ns).b),some (.int ((cellAt ns 2).fdiv 8)),some (.int (a8 ns).z)]) (em (d:=.int (a8 ns).z) ?_ rfl)).trans ?_
 ·exact rfl
 refine dW (eo ?_ rfl);simp [x_k,x_v,hY,bh,bg,aH,ax,(hc 0 (by decide)),(hc 1 (by decide)),bw,a8,Dr.d,hz]
theorem q0(Φ:Str->List D->Option D)(Γ:Str->Option D)(N:Nat)(c b:Int):runFn Φ Γ N fn_law_thing [.int c,.int b]=some (.int (if c.fmod 8=7 then (c.fdiv 8).fmod 1000000000 else (b+c.fmod 3).fmod 1000000000)):=by
 refine dY [some (.int c),some (.int b)] rfl rfl (m':=[some (.int c),some (.int b)]) ?_;dsimp only [fn_law_thing];have hc:evE Φ Γ (.cmp .Eq (.bin .Mod (.v 0) (.k (.int 8))) (.k (.int 7))) [some (.int c),some (.int b)]=some (.bool (c.fmod 8 == 7)):=by (exact rfl)
 by_cases h:c.fmod 8=7
 ·refine dW (m':=[some (.int c),some (.int b)]) ?_
  rw [mO hc (by rw [am];simp [h])];refine dW (eo ?_ rfl);simp [x_k,x_v,bh,o5,bw,o4,h]
 ·refine (aS (m':=[some (.int c),some (.int b)]) (y_no hc (by rw [am];simp [h]))).trans ?_
  refine dW (eo ?_ rfl);simp [x_k,x_v,bh,cS,o5,bw,h]
noncomputable def sOf(l:List Nat):Str:=⟨l.toArray⟩
noncomputable def ltr(i:Int):Nat:=97+i.toNat
theorem rf{i:Int}(h0:0<=i)(h1:i < 26):item (.str "abcdefghijklmnopqrstuvwxyz") (.int i)=some (.str (sOf [ltr i])):=by
 have key:∀ k:Nat,k < 26->("abcdefghijklmnopqrstuvwxyz" : Str).cps[k]?=some (97+k):=by decide +kernel
 have hl:("abcdefghijklmnopqrstuvwxyz" : Str).length=26:=by decide +kernel
 show (aL (Str.length "abcdefghijklmnopqrstuvwxyz") i).bind _=_;rw [hl,a7 h0 (by exact h1)];show (("abcdefghijklmnopqrstuvwxyz" : Str).cps[i.toNat]?).map _=_;rw [key i.toNat (by exact (Z5 h0).mpr h1)];rfl
noncomputable def jD(one two deep:Int)(r:Dr):List Nat:=
 if r.y=0 then List.replicate (deep+1).toNat (ltr r.t)
 else (List.range r.z.toNat).map λ(k:Nat)=>if (k:Int)=r.c then ltr ((r.t+5 * deep).fmod 26) else if r.y=1 then ltr ((one+k * two).fmod 26) else ltr r.z
theorem uq(a b:List Nat):sOf a++sOf b=sOf (a++b):=by
 show (⟨a.toArray++b.toArray⟩:Str)=_;simp [sOf]
theorem iA(a:List Nat):(sOf a).length=a.length:=by
 show (a.toArray).size=_;rfl
theorem mP(c:Nat):∀ n,strMul (sOf [c]) n=sOf (List.replicate n c):=by
 intro n;have:repL [c] n=List.replicate n c:=by
  induction n with
  | zero=>rfl
  | succ n ih=>simp [gH,ih,List.replicate_succ]
 simp [strMul,sOf,this]
theorem ur(Φ:Str->List D->Option D)(Γ:Str->Option D)(N:Nat)(one two deep:Int)(r:Dr)(ok:r.Ok)(hd:0<=deep)(hd2:deep < 900) :
 runFn Φ Γ N fn_law_word [.int one,.int two,.int deep,r.d]=some (.str (sOf (jD one two deep r))):=by
 have i0:∀ r:Dr,item r.d (.int 0)=some (.int r.b):=λo_=>rfl;have i1:item r.d (.int 1)=some (.int r.y):=rfl;have i2:item r.d (.int 2)=some (.int r.z):=rfl;have i3:item r.d (.int 3)=some (.int r.c):=rfl;have i4:item r.d (.int 4)=some (.int r.t):=rfl;have ht:r.t.fmod 26=r.t:=by rw [ZO _ (by decide)];exact Int.emod_eq_of_lt ok.t1 ok.t2
 refine av [some (.int one),some (.int two),some (.int deep),some r.d,none,none,none,none] rfl rfl ?_;dsimp only [fn_law_word];refine al (.str "abcdefghijklmnopqrstuvwxyz") (x_k _) rfl ?_;refine al (.str (sOf [ltr ((r.t+5 * deep).fmod 26)])) ?_ rfl ?_
 ·exact ad rfl (aA (aA (ad rfl rfl i4) (aA rfl rfl (ft 5 deep (by decide))) (cS r.t (5 * deep))) rfl rfl) (rf (au (r.t+5 * deep) (b:=26) (by decide)) (aC (r.t+5 * deep) (b:=26) (by decide)))
 have hc0:evE Φ Γ (.cmp .Eq (.idx (.v 3) (.k (.int 1))) (.k (.int 0))) [some (.int one),some (.int two),some (.int deep),some r.d,some (.str "abcdefghijklmnopqrstuvwxyz"),some (.str (sOf [ltr ((r.t+5 * deep).fmod 26)])),none,none]=some (.bool (r.y == 0)):=by
  exact rfl
 by_cases hy:r.y=0
 ·refine ao hc0 (by rw [am];simp [hy]) (af ?_ rfl)
  have hb:cz .Mult (.str (sOf [ltr r.t])) (.int (deep+1))=some (.str (strMul (sOf [ltr r.t]) (deep+1).toNat)):=by
   have hl:=iA [ltr r.t];simp only [QV,QP] at hl;exact Ql ⟨by rw [hl];decide,by exact Qt (Int.add_le_add_right (XX hd2) 1) (by decide),by exact Qt (by decide) (Int.le_add_one hd)⟩
  simp [x_k,x_v,bh,bj,cS,i4,bw,ht,rf ok.t1 ok.t2,hb,mP,jD,hy]
 ·refine ag hc0 (by rw [am];simp [hy]) ?_
  refine al (.str (sOf [])) (x_k _) rfl ?_;simp only [sX,sN];have hzz:evE Φ Γ (.idx (.v 3) (.k (.int 2))) [some (.int one),some (.int two),some (.int deep),some r.d,some (.str "abcdefghijklmnopqrstuvwxyz"),some (.str (sOf [ltr ((r.t+5 * deep).fmod 26)])),some (.str (sOf [])),none]=some (.int r.z):=by
   exact rfl
  have z1:=ok.z1;have z2:=ok.z2
  let ch:Nat->Nat:=λk=>if (k:Int)=r.c then ltr ((r.t+5 * deep).fmod 26) else if r.y=1 then ltr ((one+k * two).fmod 26) else ltr r.z
  obtain ⟨m',e1,x,rfl⟩:=oY (Φ:=Φ) (Γ:=Γ) (ow:=[]) (fr:=false) (N:=N) (i:=7) (it:=.range1 (.idx (.v 3) (.k (.int 2))))
   (body:=(.cons (.ite (.cmp .Eq (.v 7) (.idx (.v 3) (.k (.int 3)))) (.cons (.asg 6 (.bin .Add (.v 6) (.v 5))) .nil) (.cons (.ite (.cmp .Eq (.idx (.v 3) (.k (.int 1))) (.k (.int 1))) (.cons (.asg 6 (.bin .Add (.v 6) (.idx (.v 4) (.bin .Mod (.bin .Add (.v 0) (.bin .Mult (.v 7) (.v 1))) (.k (.int 26)))))) .nil) (.cons (.asg 6 (.bin .Add (.v 6) (.idx (.v 4) (.idx (.v 3) (.k (.int 2)))))) .nil)) .nil)) .nil))
   (λk m=>∃ x,m=[some (.int one),some (.int two),some (.int deep),some r.d,some (.str "abcdefghijklmnopqrstuvwxyz"),some (.str (sOf [ltr ((r.t+5 * deep).fmod 26)])),some (.str (sOf ((List.range k).map ch))),x])
   (bA hzz (by exact QB.mp (Qt (ZD (YA (Qt (by decide) z1))) (Qt z2 (by decide))))) rfl ⟨none,rfl⟩ (λk vs m hk hI=>by
    obtain ⟨x,rfl⟩:=hI;rw [Qy] at hk;obtain ⟨i,hi,rfl⟩:=QK hk;obtain ⟨hi1,hi2⟩:=Qq hi;simp only [Qo] at hi1;simp only [ZN] at hi2;subst hi2;refine ⟨_,[some (.int one),some (.int two),some (.int deep),some r.d,some (.str "abcdefghijklmnopqrstuvwxyz"),some (.str (sOf [ltr ((r.t+5 * deep).fmod 26)])),some (.str (sOf ((List.range (k+1)).map ch))),some (.int k)],rfl,?_,_,rfl⟩;simp only [sX,sN];have add:∀ c:Nat,ch k=c->cz .Add (.str (sOf ((List.range k).map ch))) (.str (sOf [c]))=some (.str (sOf ((List.range (k+1)).map ch))):=λc hc=>by
     rw [wv _ _ (by rw [iA,iA];simp;exact QQ (Qm (Qe hi1 (Zo.mpr z2))) (by decide)),uq,List.range_succ,Qb];simp [hc]
    have hA:evE Φ Γ (.cmp .Eq (.v 7) (.idx (.v 3) (.k (.int 3)))) [some (.int one),some (.int two),some (.int deep),some r.d,some (.str "abcdefghijklmnopqrstuvwxyz"),some (.str (sOf [ltr ((r.t+5 * deep).fmod 26)])),some (.str (sOf ((List.range k).map ch))),some (.int k)]=some (.bool ((k:Int) == r.c)):=by (exact rfl)
    have hB:evE Φ Γ (.cmp .Eq (.idx (.v 3) (.k (.int 1))) (.k (.int 1))) [some (.int one),some (.int two),some (.int deep),some r.d,some (.str "abcdefghijklmnopqrstuvwxyz"),some (.str (sOf [ltr ((r.t+5 * deep).fmod 26)])),some (.str (sOf ((List.range k).map ch))),some (.int k)]=some (.bool (r.y == 1)):=by (exact rfl)
    by_cases h1:(k:Int)=r.c
    ·refine (aS (m':=_) ((mO hA (by rw [am];simp [h1])).trans (oZ (.str (sOf ((List.range (k+1)).map ch))) ?_ rfl fx))).trans fx
     simp only [bh,x_v,gX,gN,bX];exact add _ (by simp [ch,h1])
    ·by_cases h2:r.y=1
     ·refine (aS (m':=_) ((lJ hA (by rw [am];simp [h1])).trans ((aS (m':=_) ((mO hB (by rw [am];simp [h2])).trans (oZ (.str (sOf ((List.range (k+1)).map ch))) ?_ rfl fx))).trans fx))).trans fx
      simp only [bh,bj,x_v,x_k,gX,gN,bX,(ft (k:Int) two (iz (by exact Zq (k+1152921504606846975)) (by exact Yw (QZ (Qe hi1 (Zo.mpr z2))) (by decide)))),cS,bw _ 26 (by decide),rf (au (one+k * two) (b:=26) (by decide)) (aC (one+k * two) (b:=26) (by decide))];exact add _ (by simp [ch,h1,h2])
     ·refine (aS (m':=_) ((lJ hA (by rw [am];simp [h1])).trans ((aS (m':=_) ((lJ hB (by rw [am];simp [h2])).trans (oZ (.str (sOf ((List.range (k+1)).map ch))) ?_ rfl fx))).trans fx))).trans fx
      simp only [bh,bj,x_v,x_k,gX,gN,bX,i2,rf (i:=r.z) (by exact Qt (by decide) z1) (by exact QH z2 (by decide))];exact add _ (by simp [ch,h1,h2]))
  refine bv _ e1 (af ?_ rfl);simp only [x_v,gX,gN,bX,lX,Qo];simp [jD,hy,ch]
end Mine
set_option tactic.hygienic false
namespace Mine
open PySem
inductive Src
 | th (i:Int)
 | hd (w:Str)
set_option genCtorIdx true
inductive Verb | look | back | change
 deriving DecidableEq
set_option genCtorIdx false
inductive Row
 | lend (w:Str) (wr:Bool) (s:Src)
 | pick (w:Str) (ts:List Int)
 | either
 | again
 | orr
 | fin
 | deed (v:Verb) (w:Str)
noncomputable def Src.d:Src->D
 | .th i=>.int i
 | .hd w=>.str w
noncomputable def kindS(b:Bool):Str:=if b then "write" else "read"
noncomputable def Verb.s:Verb->Str
 | .look => "look"
 | .back => "back"
 | .change => "change"
noncomputable def Row.tag:Row->Str
 | .lend .. => "lend"
 | .pick .. => "pick"
 | .either => "either"
 | .again => "again"
 | .orr => "or"
 | .fin => "end"
 | .deed v _=>v.s
noncomputable def Row.d:Row->D
 | .lend w b s=>.tuple [.str "lend",.str w,.str (kindS b),s.d]
 | .pick w ts=>.tuple [.str "pick",.str w,.tuple (ts.map .int)]
 | .either=>.tuple [.str "either"]
 | .again=>.tuple [.str "again"]
 | .orr=>.tuple [.str "or"]
 | .fin=>.tuple [.str "end"]
 | .deed v w=>.tuple [.str v.s,.str w]
noncomputable def Row.word:Row->Str
 | .lend w _ _=>w
 | .pick w _=>w
 | .deed _ w=>w
 | _ => ""
noncomputable def Row.wr:Row->Bool
 | .lend _ b _=>b
 | _=>false
noncomputable def Row.isLend:Row->Bool
 | .lend ..=>true
 | _=>false
noncomputable def Row.isNamed:Row->Bool
 | .lend ..=>true
 | .pick ..=>true
 | _=>false
noncomputable def Row.isOpen:Row->Bool
 | .lend ..=>true
 | .pick ..=>true
 | .either=>true
 | .again=>true
 | _=>false
noncomputable def Row.isFin:Row->Bool
 | .fin=>true
 | _=>false
noncomputable def Row.isOr:Row->Bool
 | .orr=>true
 | _=>false
noncomputable def Row.isEither:Row->Bool
 | .either=>true
 | _=>false
theorem Row.i0(r:Row):item r.d (.int 0)=some (.str r.tag):=by cases r<;>rfl
theorem mQ(s:Src):noList s.d=true:=by cases s<;>rfl
theorem bI:∀ l:List Int,an (l.map .int)=true
 | []=>rfl
 | _::l=>by rw [QX,ns_c,bI l];rfl
theorem da:∀ l:List Int,aX (l.map .int)=true
 | []=>rfl
 | _::l=>by rw [QX,ds_c,da l];rfl
theorem Row.noList(r:Row):Mine.noList r.d=true:=by
 cases r<;>simp only [Row.d,nl_t,nl_s,ns_n,ns_c,mQ,bI,Xn]
set_option tactic.hygienic true in
theorem o9(r:Row):(["lend", "pick"].any λy=>Str.ofString y == r.tag)=r.isNamed:=by
 cases r<;>first | rfl | (rename_i v w;cases v<;>rfl)
set_option tactic.hygienic true in
theorem rg(r:Row):(["lend", "pick", "either", "again"].any λy=>Str.ofString y == r.tag)=r.isOpen:=by
 cases r<;>first | rfl | (rename_i v w;cases v<;>rfl)
set_option tactic.hygienic true in
theorem et(r:Row):(r.tag == Str.ofString "lend")=r.isLend:=by
 cases r<;>first | rfl | (rename_i v w;cases v<;>rfl)
set_option tactic.hygienic true in
theorem eU(r:Row):(r.tag == Str.ofString "end")=r.isFin:=by
 cases r<;>first | rfl | (rename_i v w;cases v<;>rfl)
set_option tactic.hygienic true in
theorem sQ(r:Row):(r.tag == Str.ofString "or")=r.isOr:=by
 cases r<;>first | rfl | (rename_i v w;cases v<;>rfl)
set_option tactic.hygienic true in
theorem eV(r:Row):(r.tag == Str.ofString "either")=r.isEither:=by
 cases r<;>first | rfl | (rename_i v w;cases v<;>rfl)
theorem lM(r:Row):pyIn (.str r.tag) (.list [.str "lend",.str "pick"])=some r.isNamed:=by
 rw [<- o9];exact cq r.tag (["lend", "pick"].map Str.ofString)
theorem kK(r:Row):pyIn (.str r.tag) (.list [.str "lend",.str "pick",.str "either",.str "again"])=some r.isOpen:=by
 rw [<- rg];exact cq r.tag (["lend", "pick", "either", "again"].map Str.ofString)
theorem lN(r:Row):pyIn (.str r.tag) (.tuple [.str "lend",.str "pick",.str "either",.str "again"])=some r.isOpen:=kK r
theorem jE(b:Bool):(kindS b == Str.ofString "read") = !b:=by cases b<;>simp [kindS,kG]
theorem Row.i1{r:Row}(h:r.isNamed=true):item r.d (.int 1)=some (.str r.word):=by cases r<;>first | rfl | cases h
theorem Row.i2{r:Row}(h:r.isLend=true):item r.d (.int 2)=some (.str (kindS r.wr)):=by cases r<;>first | rfl | cases h
theorem dE{r:Row}(h:r.isLend=true):r.isNamed=true:=by cases r<;>first | rfl | cases h
noncomputable def thingOf(c b:Int):Int:=if c.fmod 8=7 then (c.fdiv 8).fmod 1000000000 else (b+c.fmod 3).fmod 1000000000
noncomputable def wordOf(one two:Int)(deep:Nat)(r:Dr):Str:=sOf (jD one two deep r)
noncomputable def bJ(one two:Int)(named:List Row)(r:Dr):Row:=
 if (one.fdiv 2).fmod 2=1 then
  match named[(two.fmod named.length).toNat]? with
  | some h=>.lend (wordOf one two named.length r) (if h.isLend&&!h.wr then false else decide (one.fmod 2=1)) (.hd h.word)
  | none=>.lend (wordOf one two named.length r) (decide (one.fmod 2=1)) (.th (thingOf two r.b))
 else .lend (wordOf one two named.length r) (decide (one.fmod 2=1)) (.th (thingOf two r.b))
noncomputable def fv(one:Int)(wr:Bool):Verb:=if one.fmod 3=0 then .look else if one.fmod 3=1 then .back else if wr then .change else .look
noncomputable def dK(one two:Int)(hands:List Row):Row:=
 match hands[(two.fmod hands.length).toNat]? with
 | some h=>.deed (fv one h.wr) h.word
 | none=>.fin
noncomputable def rowOf(way one two:Int)(opened:List Row)(r:Dr):Row:=
 if way < 4/\((opened.filter Row.isNamed).filter Row.isLend).length < 6 then bJ one two (opened.filter Row.isNamed) r
 else if way=4/\((opened.filter Row.isNamed).length:Int) - ((opened.filter Row.isNamed).filter Row.isLend).length < 3 then
  .pick (wordOf one two (opened.filter Row.isNamed).length r) ((List.range (1+one.fmod 5).toNat).map λ(k:Nat)=>thingOf (two+(k:Int) * (1+one.fmod 2)) r.b)
 else if (way=5\/way=6)/\opened.length < 12 then (if way=5 then .either else .again)
 else if way=7/\(opened.getLast?.any Row.isEither)=true then .orr
 else if way < 10/\0 < ((opened.filter Row.isNamed).filter Row.isLend).length then dK one two ((opened.filter Row.isNamed).filter Row.isLend)
 else if 0 < opened.length then .fin
 else bJ one two (opened.filter Row.isNamed) r
theorem wB(a:Int):a.fmod 2=0\/a.fmod 2=1:=by
 have h1:=au a (b:=2) (by decide);have h2:=aC a (b:=2) (by decide);lia
theorem ut(a:Int):a.fmod 3=0\/a.fmod 3=1\/a.fmod 3=2:=by
 have h1:=au a (b:=3) (by decide);have h2:=aC a (b:=3) (by decide);lia
theorem kL{l:List Row}(x:Int)(h:0 < l.length):∃ r,l[(x.fmod l.length).toNat]?=some r/\r ∈ l/\item (.list (l.map Row.d)) (.int (x.fmod l.length))=some r.d:=by
 have f2:=aC x (b:=(l.length:Int)) (by exact QZ h);have hlt:(x.fmod l.length).toNat < l.length:=by exact (Z5 (au x (QZ h))).mpr f2
 refine ⟨l[(x.fmod l.length).toNat],Qk hlt,Xy hlt,?_⟩;exact p_mk (k:=(x.fmod l.length).toNat) (a7 (au x (b:=(l.length:Int)) (by exact QZ h)) (by simpa using f2)) (by rw [Qy,Qk hlt];rfl)
theorem pa(a:Int):item (.list [.str "read",.str "write"]) (.int (a.fmod 2))=some (.str (kindS (decide (a.fmod 2=1)))):=by
 rcases wB a with h | h<;>rw [h]<;>rfl
theorem Dr.i0(r:Dr):item r.d (.int 0)=some (.int r.b):=rfl
theorem uu(Φ:Str->List D->Option D)(Γ:Str->Option D)(N:Nat)(r:Dr)(ok:r.Ok)(ht:∀ c b:Int,Φ "_law_thing" [.int c,.int b]=some (.int (thingOf c b)))
 (hw:∀ (one two:Int) (deep:Nat),deep < 900->Φ "_law_word" [.int one,.int two,.int deep,r.d]=some (.str (wordOf one two deep r)))
 (one two:Int) (named:List Row) (hn:∀ x ∈ named,x.isNamed=true) (hl:named.length < 900) :
 runFn Φ Γ N fn_law_lend [.int one,.int two,.list (named.map Row.d),r.d]=some (bJ one two named r).d:=by
 refine av [some (.int one),some (.int two),some (.list (named.map Row.d)),some r.d,none,none,none] rfl rfl ?_;dsimp only [fn_law_lend];refine al (.str (kindS (decide (one.fmod 2=1)))) (ad (aV (esC rfl (esC rfl es0))) (aA rfl rfl rfl) (pa ((λb=>(one,b)) 2).fst)) rfl ?_;refine al (.int (thingOf two r.b)) (ai (esC rfl (esC (ad rfl rfl (Dr.i0 r)) es0)) (ht two r.b)) rfl ?_;simp only [sX,sN];have hc:evE Φ Γ (.bool true (.cons (.cmp .Eq (.bin .Mod (.bin .FloorDiv (.v 0) (.k (.int 2))) (.k (.int 2))) (.k (.int 1))) (.cons (.cmp .Gt (.b1 .len (.v 2)) (.k (.int 0))) .nil))) [some (.int one),some (.int two),some (.list (named.map Row.d)),some r.d,some (.str (kindS (decide (one.fmod 2=1)))),some (.int (thingOf two r.b)),none]=some (.bool (((one.fdiv 2).fmod 2 == 1)&&decide ((0:Int) < named.length))):=
  aF (rfl) (aj (aT rfl (lenL named)) rfl (v_gt (↑named.length) 0))
 by_cases h1:(one.fdiv 2).fmod 2=1
 ·by_cases h2:0 < named.length
  ·obtain ⟨h,e1,e2,e3⟩:=kL (l:=named) two h2
   refine aN (Q':=λm=>m=[some (.int one),some (.int two),some (.list (named.map Row.d)),some r.d,some (.str (kindS (if h.isLend&&!h.wr then false else decide (one.fmod 2=1)))),some (.str h.word),some h.d]) (aO hc (am _) (λ_=>?_) (λq=>?_)) ?_
   ·refine aw h.d ?_ rfl ?_
    ·simp only [bj,x_v,bh,x_b1,gX,gN,bX,cZ,lX,bw _ (named.length:Int) (by exact YR (QZ h2)),e3]
    refine aw (.str h.word) (ad rfl rfl (Row.i1 (hn h e2))) rfl ?_;simp only [sX,sN];cases hL:h.isLend with
    | true=>
     have hcc:evE Φ Γ (.bool true (.cons (.cmp .Eq (.idx (.v 6) (.k (.int 0))) (.k (.str "lend"))) (.cons (.cmp .Eq (.idx (.v 6) (.k (.int 2))) (.k (.str "read"))) .nil))) [some (.int one),some (.int two),some (.list (named.map Row.d)),some r.d,some (.str (kindS (decide (one.fmod 2=1)))),some (.str h.word),some h.d]=some (.bool (true&&!h.wr)):=
      aF (by simp [x_k,x_v,dN,bj,kJ,Row.i0,et,hL]) (aj (ad rfl rfl (Row.i2 hL)) rfl (Qf some (jE h.wr)))
     refine ar (aO (Q:=λm=>m=[some (.int one),some (.int two),some (.list (named.map Row.d)),some r.d,some (.str (kindS (if true&&!h.wr then false else decide (one.fmod 2=1)))),some (.str h.word),some h.d]) hcc (am _) (λq=>?_) (λq=>?_)) λm e=>ah e
     ·exact aw (.str "read") (x_k _) rfl (ah (by rw [q];rfl))
     ·exact ah (by rw [q];rfl)
    | false=>
     have hcc:evE Φ Γ (.bool true (.cons (.cmp .Eq (.idx (.v 6) (.k (.int 0))) (.k (.str "lend"))) (.cons (.cmp .Eq (.idx (.v 6) (.k (.int 2))) (.k (.str "read"))) .nil))) [some (.int one),some (.int two),some (.list (named.map Row.d)),some r.d,some (.str (kindS (decide (one.fmod 2=1)))),some (.str h.word),some h.d]=some (.bool false):=by
      simp [x_k,x_v,cr,dN,bj,eZ,eM,am,kJ,Row.i0,et,hL]
     exact ar (aO (Q:=λm=>m=[some (.int one),some (.int two),some (.list (named.map Row.d)),some r.d,some (.str (kindS (if false&&!h.wr then false else decide (one.fmod 2=1)))),some (.str h.word),some h.d]) hcc (am _) (λq=>by cases q) (λq=>ah rfl)) λm e=>ah e
   ·rw [h1,Qn (by exact QZ h2)] at q;exact absurd q (by decide)
   ·rintro _ rfl
    refine af ?_ rfl;simp [x_k,x_v,cB,bg,x_b1,aH,ax,cZ,hw one two named.length hl,bJ,h1,e1,Row.d,Src.d]
  ·refine ag hc (by rw [am,Zk (by exact λq=>h2 (Q0.mp q)),Xg]) (af ?_ rfl)
   have h0:named=[]:=by cases named with | nil=>rfl | cons=>simp at h2
   subst h0;have:=hw one two 0 (by decide);simp at this;simp [x_k,x_v,cB,bg,x_b1,aH,ax,cZ,this,bJ,h1,Row.d,Src.d]
 ·refine ag hc (by rw [am];simp [h1]) (af ?_ rfl)
  simp [x_k,x_v,cB,bg,x_b1,aH,ax,cZ,hw one two named.length hl,bJ,h1,Row.d,Src.d]
theorem uv(Φ:Str->List D->Option D)(Γ:Str->Option D)(N:Nat)(one two:Int)(hands:List Row)(hn:∀ x ∈ hands,x.isLend=true)(hl:0 < hands.length) :
 runFn Φ Γ N fn_law_deed [.int one,.int two,.list (hands.map Row.d)]=some (dK one two hands).d:=by
 refine byG λX_ g_=>?_;obtain ⟨h,e1,e2,e3⟩:=kL (l:=hands) two hl;refine g_ ?_;have hL:=hn h e2;have hh:=dE hL;refine av [some (.int one),some (.int two),some (.list (hands.map Row.d)),none,none] rfl rfl ?_;dsimp only [fn_law_deed];refine al h.d ?_ rfl ?_
 ·simp only [bj,x_v,bh,x_b1,gX,gN,bX,cZ,lX,bw _ (hands.length:Int) (by exact YR (QZ hl)),e3]
 have key:∃ v0:Verb,item (.list [.str "look",.str "back",.str "change"]) (.int (one.fmod 3))=some (.str v0.s)/\(if (v0.s == Str.ofString "change")&&!h.wr then Verb.look else v0)=fv one h.wr:=by
  rcases ut one with q | q | q
  ·exact ⟨.look,by rw [q];rfl,by simp [fv,q,Verb.s,kG]⟩
  ·exact ⟨.back,by rw [q];rfl,by simp [fv,q,Verb.s,kG]⟩
  ·exact ⟨.change,by rw [q];rfl,by cases hw:h.wr<;>simp [fv,q,Verb.s]⟩
 obtain ⟨v0,k1,k2⟩:=key;refine al (.str v0.s) (ad (aV (esC rfl (esC rfl (esC rfl es0)))) (aA rfl rfl rfl) k1) rfl ?_;refine aN (Q':=λm=>m=[some (.int one),some (.int two),some (.list (hands.map Row.d)),some h.d,some (.str (fv one h.wr).s)]) (aO (d:=.bool ((v0.s == Str.ofString "change")&&!h.wr)) (aF (rfl) (aj (ad rfl rfl (Row.i2 hL)) rfl (Qf some (jE h.wr)))) (am _) (λq=>?_) (λq=>?_)) ?_
 ·rw [Ql q] at k2
  rw [<- k2];exact aw (.str "look") (x_k _) rfl (ah rfl)
 ·rw [Qu (by rw [q];simp)] at k2
  rw [<- k2];exact ah rfl
 ·rintro _ rfl
  refine af ?_ rfl;have e:dK one two hands = .deed (fv one h.wr) h.word:=by simp only [dK,e1]
  rw [e];exact a9 (esC rfl (esC (ad rfl rfl (Row.i1 hh)) es0))
end Mine
set_option tactic.hygienic false
namespace Mine
open PySem
theorem kM(xs:List D):item (.list xs) (.int (-1))=xs.getLast?:=by
 rw [List.getLast?_eq_getElem?];cases xs with
 | nil=>rfl
 | cons x xs=>
  have:aL (x::xs).length (-1)=some ((x::xs).length - 1):=by
   simp only [aL];rw [Qu (by decide),Ql (by simp only [QV];(exact QZ (Zm xs.length)))];congr 1
   simp only [QV];exact cW (xs.length+1) (by decide)
  show (aL (x::xs).length (-1)).bind _=_;rw [this];rfl
theorem lO(w:Int):∀ l:List Int,((l.map PyData.int).any λy=>y.eqv (.int w))=l.any λy=>y == w
 | []=>rfl
 | x::l=>by rw [QX,YQ,YQ,lO w l];rfl
theorem uw(x:Int):shp (.int x)=true:=rfl
theorem pb(w:Int)(l:List Int):pyIn (.int w) (.list (l.map .int))=some (l.any λy=>y == w):=by
 show anyEq (.int w) (l.map .int)=_;unfold anyEq;rw [da,uw,lO];rfl
section
variable (Φ:Str->List D->Option D)(Γ:Str->Option D)(N:Nat)
set_option tactic.hygienic true in
theorem wC(r:Dr)(ok:r.Ok)(ht:∀ c b:Int,Φ "_law_thing" [.int c,.int b]=some (.int (thingOf c b)))
 (hw:∀ (one two:Int) (deep:Nat),deep < 900->Φ "_law_word" [.int one,.int two,.int deep,r.d]=some (.str (wordOf one two deep r)))
 (hlend:∀ (one two:Int) (named:List Row),(∀ x ∈ named,x.isNamed=true)->named.length < 900->Φ "_law_lend" [.int one,.int two,.list (named.map Row.d),r.d]=some (bJ one two named r).d)
 (hdeed:∀ (one two:Int) (hands:List Row),(∀ x ∈ hands,x.isLend=true)->0 < hands.length->Φ "_law_deed" [.int one,.int two,.list (hands.map Row.d)]=some (dK one two hands).d)
 (way one two:Int) (opened:List Row) (hl:opened.length < 900) :
 runFn Φ Γ N fn_law_row [.int way,.int one,.int two,.list (opened.map Row.d),r.d]=some (rowOf way one two opened r).d:=by
 refine av [some (.int way),some (.int one),some (.int two),some (.list (opened.map Row.d)),some r.d,none,none,none] rfl rfl ?_;dsimp only [fn_law_row];refine al (.list ((opened.filter Row.isNamed).map Row.d)) (dX opened (λe=>[e.d]) Row.isNamed Row.d (bt (rfl)) (Qm (Qe hl (by decide))) rfl (λe o_=>?_) (λe o_ o_=>?_)) rfl ?_
 ·exact ev_c (aj (ad rfl rfl (Row.i0 e)) (aV (esC rfl (esC rfl es0))) (lM e))
 ·exact rfl
 have hN:∀ x ∈ opened.filter Row.isNamed,x.isNamed=true:=λx h=>(Q9.mp h).2;have hNl:(opened.filter Row.isNamed).length < 900:=Qh (Zz _ _) hl;generalize hnm:opened.filter Row.isNamed=named at hN hNl ⊢;refine al (.list ((named.filter Row.isLend).map Row.d)) (dX named (λe=>[e.d]) Row.isLend Row.d (bt (rfl)) (Qm (Qe hNl (by decide))) rfl (λe o_=>?_) (λe o_ o_=>?_)) rfl ?_
 ·exact ev_c (aj (ad rfl rfl (Row.i0 e)) rfl (Qf some (et e)))
 ·exact rfl
 simp only [sX,sN];have hH:∀ x ∈ named.filter Row.isLend,x.isLend=true:=λx h=>(Q9.mp h).2;generalize hhd:named.filter Row.isLend=hands at hH ⊢;have er:rowOf way one two opened r=if way < 4/\hands.length < 6 then bJ one two named r
  else if way=4/\(named.length:Int) - hands.length < 3 then .pick (wordOf one two named.length r) ((List.range (1+one.fmod 5).toNat).map λ(k:Nat)=>thingOf (two+(k:Int) * (1+one.fmod 2)) r.b)
  else if (way=5\/way=6)/\opened.length < 12 then (if way=5 then .either else .again)
  else if way=7/\(opened.getLast?.any Row.isEither)=true then .orr
  else if way < 10/\0 < hands.length then dK one two hands
  else if 0 < opened.length then .fin
  else bJ one two named r:=by
  unfold rowOf;rw [hnm,hhd]
 rw [er];have nl:∀ (e:Ex) (x:Row),(!true||retOk [] e x.d)=true:=λe x=>by simp [retOk,Row.noList]
 have c1:evE Φ Γ (.bool true (.cons (.cmp .Lt (.v 0) (.k (.int 4))) (.cons (.cmp .Lt (.b1 .len (.v 6)) (.k (.int 6))) .nil))) [some (.int way),some (.int one),some (.int two),some (.list (opened.map Row.d)),some r.d,some (.list (named.map Row.d)),some (.list (hands.map Row.d)),none]=some (.bool (decide (way < 4)&&decide ((hands.length:Int) < 6))):=
  aF (rfl) (aj (aT rfl (lenL hands)) rfl (v_lt (↑hands.length) 6))
 by_cases h1:way < 4/\hands.length < 6
 ·rw [Ql h1]
  refine ao c1 (by rw [am,Qn h1.1,Qn (show (hands.length:Int) < 6 from QZ h1.2)];rfl) (af ?_ (nl _ _));simp only [x_v,bg,aH,ax,gX,gN,bX,mX];exact (hlend one two named hN hNl)
 rw [Qu h1];refine ag c1 (by rw [am,<- Xc,Zk λq=>h1 ⟨q.1,Q0.mp q.2⟩]) ?_;have c2:evE Φ Γ (.bool true (.cons (.cmp .Eq (.v 0) (.k (.int 4))) (.cons (.cmp .Lt (.bin .Sub (.b1 .len (.v 5)) (.b1 .len (.v 6))) (.k (.int 3))) .nil))) [some (.int way),some (.int one),some (.int two),some (.list (opened.map Row.d)),some r.d,some (.list (named.map Row.d)),some (.list (hands.map Row.d)),none]=some (.bool ((way == 4)&&decide ((named.length:Int) - hands.length < 3))):=
  aF (rfl) (aj (aA (aT rfl (lenL named)) (aT rfl (lenL hands)) (xx ↑named.length ↑hands.length)) rfl (v_lt (↑named.length - ↑hands.length) 3))
 by_cases h2:way=4/\(named.length:Int) - hands.length < 3
 ·rw [Ql h2]
  refine ao c2 (by rw [am,h2.1,Qn h2.2];rfl) ?_;have f1:=au one (b:=5) (by decide);have f2:=aC one (b:=5) (by decide);have g1:=au one (b:=2) (by decide);have g2:=aC one (b:=2) (by decide);have hcomp:∀ m:St,m.length=8->m[1]?=some (some (.int one))->m[2]?=some (some (.int two))->m[4]?=some (some r.d)->evE Φ Γ (.comp (.call false "_law_thing" (.cons (.bin .Add (.v 2) (.bin .Mult (.v 8) (.bin .Add (.k (.int 1)) (.bin .Mod (.v 1) (.k (.int 2)))))) (.cons (.idx (.v 4) (.k (.int 0))) .nil))) (.range1 (.bin .Add (.k (.int 1)) (.bin .Mod (.v 1) (.k (.int 5))))) .none) m=some (.list ((List.range (1+one.fmod 5).toNat).map λ(k:Nat)=>.int (thingOf (two+(k:Int) * (1+one.fmod 2)) r.b))):=by
   intro m hm m1 m2 m4;refine bz (List.range (1+one.fmod 5).toNat) (λ(i:Nat)=>[PyData.int i]) _ (bA (n:=1+one.fmod 5) ?_ (by exact QB.mp (Qt (ZD (YA (Qt (by decide) (QR f1)))) (Qt (Qt (ZD (Yb 1 _)) f2) (by decide))))) (by rw [Qo];exact QQ (Zo.mpr (Qt (ZD (Yb 1 _)) f2)) (by decide)) rfl λk o_=>?_
   ·simp only [x_k,x_v,bh,cS,m1,bX,bw _ 5 (by decide)]
   ·have n1:(m++[some (PyData.int k)])[1]?=some (some (.int one)):=by rw [Zx (by rw [hm];decide)];exact m1
    have n2:(m++[some (PyData.int k)])[2]?=some (some (.int two)):=by rw [Zx (by rw [hm];decide)];exact m2
    have n4:(m++[some (PyData.int k)])[4]?=some (some r.d):=by rw [Zx (by rw [hm];decide)];exact m4
    have n8:(m++[some (PyData.int k)])[8]?=some (some (.int k)):=by rw [ZW (by rw [hm];exact QO 8),hm];rfl
    simp only [QX,ZC,x_k,x_v,bh,bj,bg,aH,ax,cS,n1,n2,n4,n8,bX,bw _ 2 (by decide),wu _ (1+one.fmod 2) (iz (by exact Zf (by decide) (QR g1)) (by exact QH (Qt (ZD (Yb 1 _)) g2) (by decide))),Dr.i0,mX,ht]
  refine al (.tuple (((List.range (1+one.fmod 5).toNat).map λ(k:Nat)=>thingOf (two+(k:Int) * (1+one.fmod 2)) r.b).map .int)) ?_ rfl ?_
  ·rw [x_b1,hcomp _ rfl rfl rfl rfl,Yk];rfl
  refine af ?_ (nl _ _);exact a9 (esC rfl (esC (ai (esC rfl (esC rfl (esC (aT rfl (lenL named)) (esC rfl es0)))) (hw one two named.length hNl)) (esC rfl es0)))
 rw [Qu h2];refine ag c2 (by rw [am,show (way == 4)=decide (way=4) from rfl,<- Xc,Zk h2]) ?_;have c3:evE Φ Γ (.bool true (.cons (.cmp .In (.v 0) (.lst (.cons (.k (.int 5)) (.cons (.k (.int 6)) .nil)))) (.cons (.cmp .Lt (.b1 .len (.v 3)) (.k (.int 12))) .nil))) [some (.int way),some (.int one),some (.int two),some (.list (opened.map Row.d)),some r.d,some (.list (named.map Row.d)),some (.list (hands.map Row.d)),none]=some (.bool (decide (way=5\/way=6)&&decide ((opened.length:Int) < 12))):=by
  refine aF ?_ (aj (aT rfl (lenL opened)) rfl (v_lt (↑opened.length) 12));have:=pb way [5,6];simp only [QX,ZC] at this;simp only [x_k,x_v,hY,dN,aH,ax,v_in,gN,bX,mX,this];congr 2
  rw [ZZ];simp only [YQ,List.any_nil,Bool.or_false,Ze,Q5,QE];exact or_congr eq_comm eq_comm
 by_cases h3:(way=5\/way=6)/\opened.length < 12
 ·rw [Ql h3]
  refine ao c3 (by rw [am,Qn h3.1,Qn (show (opened.length:Int) < 12 from QZ h3.2)];rfl) (af ?_ (nl _ _));rcases h3.1 with q | q
  ·subst q;rfl
  ·subst q;rfl
 rw [Qu h3];refine ag c3 (by rw [am,<- Xc,Zk λq=>h3 ⟨q.1,Q0.mp q.2⟩]) ?_;have c4:evE Φ Γ (.bool true (.cons (.cmp .Eq (.v 0) (.k (.int 7))) (.cons (.cmp .Gt (.b1 .len (.v 3)) (.k (.int 0))) (.cons (.cmp .Eq (.idx (.idx (.v 3) (.neg (.k (.int 1)))) (.k (.int 0))) (.k (.str "either"))) .nil)))) [some (.int way),some (.int one),some (.int two),some (.list (opened.map Row.d)),some r.d,some (.list (named.map Row.d)),some (.list (hands.map Row.d)),none]=some (.bool ((way == 7)&&(decide ((0:Int) < opened.length)&&opened.getLast?.any Row.isEither))):=by
  rw [cr];refine ge (rfl) λo_=>ge (aj (aT rfl (lenL opened)) rfl (v_gt (↑opened.length) 0)) λq=>?_;cases hlast:opened.getLast? with
  | none=>
   rw [List.getLast?_eq_none_iff] at hlast;subst hlast;simp at q
  | some x=>
   simp only [x_k,x_v,gZ,dN,bj,eZ,gX,gN,bX,kM,List.getLast?_map,hlast,mX,Row.i0,kJ,eV,XV]
 by_cases h4:way=7/\(opened.getLast?.any Row.isEither)=true
 ·rw [Ql h4]
  refine ao c4 ?_ (af rfl (nl _ .orr));have:(0:Int) < opened.length:=by
   cases opened with
   | nil=>simp at h4
   | cons=>simp only [QV];((expose_names;exact QZ (Zm tail.length)))
  rw [am,h4.1,h4.2,Qn this];rfl
 rw [Qu h4];refine ag c4 ?_ ?_
 ·rw [am]
  congr 1
  rw [Y6];intro q;simp only [Qj,Q5] at q;exact h4 ⟨q.1,q.2.2⟩
 have c5:evE Φ Γ (.bool true (.cons (.cmp .Lt (.v 0) (.k (.int 10))) (.cons (.cmp .Gt (.b1 .len (.v 6)) (.k (.int 0))) .nil))) [some (.int way),some (.int one),some (.int two),some (.list (opened.map Row.d)),some r.d,some (.list (named.map Row.d)),some (.list (hands.map Row.d)),none]=some (.bool (decide (way < 10)&&decide ((0:Int) < hands.length))):=
  aF (rfl) (aj (aT rfl (lenL hands)) rfl (v_gt (↑hands.length) 0))
 by_cases h5:way < 10/\0 < hands.length
 ·rw [Ql h5]
  refine ao c5 (by rw [am,Qn h5.1,Qn (show (0:Int) < hands.length from QZ h5.2)];rfl) (af ?_ (nl _ _));simp only [x_v,bg,aH,ax,gX,gN,bX,mX];exact hdeed one two hands hH h5.2
 rw [Qu h5];refine ag c5 (by rw [am,<- Xc,Zk λq=>h5 ⟨q.1,Q0.mp q.2⟩]) ?_;have c6:evE Φ Γ (.cmp .Gt (.b1 .len (.v 3)) (.k (.int 0))) [some (.int way),some (.int one),some (.int two),some (.list (opened.map Row.d)),some r.d,some (.list (named.map Row.d)),some (.list (hands.map Row.d)),none]=some (.bool (decide ((0:Int) < opened.length))):=by
  exact aj (aT rfl (lenL opened)) rfl (v_gt (↑opened.length) 0)
 by_cases h6:0 < opened.length
 ·rw [Ql h6]
  exact ao c6 (by rw [am,Qn (show (0:Int) < opened.length from QZ h6)]) (af rfl (nl _ .fin))
 rw [Qu h6];refine ag c6 (by rw [am,Zk λq:(0:Int) < opened.length=>h6 (Q0.mp q)]) (af ?_ (nl _ _));simp only [x_v,bg,aH,ax,gX,gN,bX,mX];exact (hlend one two named hN hNl)
end
end Mine
set_option tactic.hygienic false
namespace Mine
open PySem
noncomputable def three{α:Type}(x:Int)(a b c:α):α:=if x.fmod 3=0 then a else if x.fmod 3=1 then b else c
noncomputable def kd(x:Int):Bool:=decide (x.fmod 2=1)
noncomputable def cG(way one two:Int)(a b c:Str)(th:Int):List Row:=
 if way=0 then [.lend a (kd (one.fdiv 8)) (.th th),.again,.deed .look a,.deed .back a,.fin,.fin]
 else if way=1 then [.lend a (kd (one.fdiv 8)) (.th th),.either,.deed .back a,.orr,.deed .look a,.fin,.deed .look a,.fin]
 else if way=2 then [.lend a true (.th th),.lend b true (.hd a),.lend c (kd (one.fdiv 8)) (.hd b),.deed .back (three two a b a),.deed .look (three one c c b),.fin,.fin,.fin]
 else [.lend a true (.th th),.lend b false (.hd a),.lend c (kd two) (.th th),.again,.deed .back b,.fin,.fin,.fin,.fin]
noncomputable def gad(one two:Int)(a b c:Str)(th:Int):List Row:=
 if one.fmod 8 < 4 then cG (one.fmod 8) one two a b c th
 else if one.fmod 8=4 then [.pick c [th,th,(th+1).fmod 1000000000,(th+1).fmod 1000000000,(th+2).fmod 1000000000],.lend a true (.th (three two th ((th+1).fmod 1000000000) ((th+2).fmod 1000000000))),.lend b (kd (one.fdiv 8)) (.hd c),.fin,.fin,.fin]
 else if one.fmod 8=5 then [.lend a true (.th th),.lend b false (.hd a),.either,.deed .back (if kd two then b else a),.orr,.deed .look b,.fin,.deed .look a,.fin,.fin]
 else if one.fmod 8=6 then [.lend a (kd (one.fdiv 8)) (.th ((th+1).fmod 1000000000)),.lend b (kd two) (.th th),.lend c true (.th th),.deed .look b,.fin,.fin,.fin]
 else if two.fmod 3=0 then [.lend a true (.th th),.deed .back a,.lend b (kd (one.fdiv 8)) (.hd a),.deed .look b,.fin,.fin]
 else [.pick c [(th+1).fmod 1000000000,th],.lend a true (.th th),.either,.deed .back a,.orr,.fin,.lend b (kd (one.fdiv 8)) (.hd c),.deed .look a,.fin,.fin,.fin]
noncomputable def cH(one two:Int)(deep:Nat)(r:Dr):List Row:=gad one two (wordOf one two deep r) (wordOf two one (deep+1) r) (wordOf one one (deep+2) r) (thingOf two r.b)
theorem pc(x:Int)(a b c:Str):item (.list [.str a,.str b,.str c]) (.int (x.fmod 3))=some (.str (three x a b c)):=by
 rcases ut x with h | h | h<;>simp only [three,h]<;>rfl
theorem ux(x:Int)(a b c:Int):item (.list [.int a,.int b,.int c]) (.int (x.fmod 3))=some (.int (three x a b c)):=by
 rcases ut x with h | h | h<;>simp only [three,h]<;>rfl
theorem xy(x:Int)(a b:Str):item (.list [.str a,.str b]) (.int (x.fmod 2))=some (.str (if kd x then b else a)):=by
 rcases wB x with h | h<;>simp only [kd,h]<;>rfl
theorem rh(x:Int):item (.list [.str "read",.str "write"]) (.int (x.fmod 2))=some (.str (kindS (kd x))):=pa x
section
variable (Φ:Str->List D->Option D)(Γ:Str->Option D)(N:Nat)
theorem ri(r:Dr)(hw:∀ (one two:Int) (deep:Nat),deep < 900->Φ "_law_word" [.int one,.int two,.int deep,r.d]=some (.str (wordOf one two deep r)))(one two:Int)(deep:Nat)(hd:deep < 800) :
 runFn Φ Γ N fn_law_hands [.int one,.int two,.int deep,r.d]=some (.list [.str (wordOf one two deep r),.str (wordOf two one (deep+1) r),.str (wordOf one one (deep+2) r)]):=by
 have c1:((deep:Int)+1)=((deep+1:Nat):Int):=by exact rfl
 have c2:((deep:Int)+2)=((deep+2:Nat):Int):=by exact rfl
 refine av [some (.int one),some (.int two),some (.int deep),some r.d,none] rfl rfl ?_;dsimp only [fn_law_hands];refine al (.list [.str (wordOf one two deep r),.str (wordOf two one (deep+1) r)]) ?_ rfl ?_
 ·exact aV (esC (ai (esC rfl (esC rfl (esC rfl (esC rfl es0)))) (hw one two deep (by exact Za hd (by decide)))) (esC (ai (esC rfl (esC rfl (esC (aA rfl rfl (cS (↑deep) 1)) (esC rfl es0)))) (hw two one (deep+1) (by exact Qe (QU hd) (by decide)))) es0))
 refine af ?_ rfl;exact aA rfl (aV (esC (ai (esC rfl (esC rfl (esC (aA rfl rfl (cS (↑deep) 2)) (esC rfl es0)))) (hw one one (deep+2) (by exact Qe (QU (QU hd)) (by decide)))) es0)) rfl
theorem rj(way one two:Int)(a b c:Str)(th:Int)(h0:0<=way)(h4:way < 4) :
 runFn Φ Γ N fn_law_first_four [.int way,.int one,.int two,.list [.str a,.str b,.str c],.int th]=some (.list ((cG way one two a b c th).map Row.d)):=by
 refine av [some (.int way),some (.int one),some (.int two),some (.list [.str a,.str b,.str c]),some (.int th),none,none,none,none,none,none,none] rfl rfl ?_;dsimp only [fn_law_first_four];refine al (.str a) rfl rfl (al (.str b) rfl rfl (al (.str c) rfl rfl (al (.str (kindS (kd (one.fdiv 8)))) ?_ rfl (al (.tuple [.str "end"]) rfl rfl ?_))))
 ·exact ad (aV (esC rfl (esC rfl es0))) (aA (aA rfl rfl (o4 one 8 (Qp (id (Eq.refl true))))) rfl (bw (one.fdiv 8) 2 (Qp (id (Eq.refl true))))) (rh (one.fdiv 8))
 simp only [sX,sN];have hcase:way=0\/way=1\/way=2\/way=3:=by lia
 rcases hcase with h | h | h | h
 ·subst h
  exact ao (x:=.bool true) rfl rfl (af rfl rfl)
 ·subst h
  refine ag (x:=.bool false) rfl rfl (ao (x:=.bool true) rfl rfl (al (.list (([.lend a (kd (one.fdiv 8)) (.th th),.either,.deed .back a,.orr,.deed .look a,.fin]:List Row).map Row.d)) rfl rfl ?_));exact af rfl rfl
 ·subst h
  refine ag (x:=.bool false) rfl rfl (ag (x:=.bool false) rfl rfl (al (Row.lend a true (.th th)).d rfl rfl (ao (x:=.bool true) rfl rfl ?_)));refine al (.list (([.lend a true (.th th),.lend b true (.hd a),.lend c (kd (one.fdiv 8)) (.hd b)]:List Row).map Row.d)) rfl rfl ?_;refine af ?_ rfl;exact aA rfl (aV (esC (a9 (esC rfl (esC (ad (aV (esC rfl (esC rfl (esC rfl es0)))) (aA rfl rfl (bw two 3 (Qp (id (Eq.refl true))))) (pc two a b a)) es0))) (esC (a9 (esC rfl (esC (ad (aV (esC rfl (esC rfl (esC rfl es0)))) (aA rfl rfl (bw one 3 (Qp (id (Eq.refl true))))) (pc one c c b)) es0))) (esC rfl (esC rfl (esC rfl es0)))))) rfl
 ·subst h
  refine ag (x:=.bool false) rfl rfl (ag (x:=.bool false) rfl rfl (al (Row.lend a true (.th th)).d rfl rfl (ag (x:=.bool false) rfl rfl ?_)));refine al (.list (([.lend a true (.th th),.lend b false (.hd a),.lend c (kd two) (.th th),.again]:List Row).map Row.d)) ?_ rfl ?_
  ·exact aV (esC rfl (esC (a9 (esC rfl (esC rfl (esC rfl (esC rfl es0))))) (esC (a9 (esC rfl (esC rfl (esC (ad (aV (esC rfl (esC rfl es0))) (aA rfl rfl (bw two 2 (Qp (id (Eq.refl true))))) (rh two)) (esC rfl es0))))) (esC (a9 (esC rfl es0)) es0))))
  exact af rfl rfl
theorem pd(r:Dr)(ht:∀ c b:Int,Φ "_law_thing" [.int c,.int b]=some (.int (thingOf c b)))
 (hh:∀ (one two:Int) (deep:Nat),deep < 800->Φ "_law_hands" [.int one,.int two,.int deep,r.d]=some (.list [.str (wordOf one two deep r),.str (wordOf two one (deep+1) r),.str (wordOf one one (deep+2) r)]))
 (hf:∀ (way one two:Int) (a b c:Str) (th:Int),0<=way->way < 4->Φ "_law_first_four" [.int way,.int one,.int two,.list [.str a,.str b,.str c],.int th]=some (.list ((cG way one two a b c th).map Row.d)))
 (one two:Int) (deep:Nat) (hd:deep < 800) :
 runFn Φ Γ N fn_law_gadget [.int one,.int two,.int deep,r.d]=some (.list ((cH one two deep r).map Row.d)):=by
 have e1:=hh one two deep hd;unfold cH;generalize wordOf one two deep r=a at e1 ⊢;generalize wordOf two one (deep+1) r=b at e1 ⊢;generalize wordOf one one (deep+2) r=c at e1 ⊢;have e2:=ht two r.b;generalize thingOf two r.b=th at e2 ⊢;refine av [some (.int one),some (.int two),some (.int deep),some r.d,none,none,none,none,none,none,none,none,none,none] rfl rfl ?_;dsimp only [fn_law_gadget];refine al (.list [.str a,.str b,.str c]) (ai (esC rfl (esC rfl (esC rfl (esC rfl es0)))) e1) rfl ?_;refine al (.str a) rfl rfl (al (.str b) rfl rfl (al (.int th) ?_ rfl (al (.int ((th+1).fmod 1000000000)) ?_ rfl (al (.int ((th+2).fmod 1000000000)) ?_ rfl (al (.str (kindS (kd (one.fdiv 8)))) ?_ rfl (al (.tuple [.str "end"]) rfl rfl (al (.int (one.fmod 8)) ?_ rfl ?_)))))))
 ·exact ai (esC rfl (esC (ad rfl rfl (Dr.i0 r)) es0)) e2
 ·exact rfl
 ·exact rfl
 ·exact ad (aV (esC rfl (esC rfl es0))) (aA (aA rfl rfl (o4 one 8 (Qp (id (Eq.refl true))))) rfl (bw (one.fdiv 8) 2 (Qp (id (Eq.refl true))))) (rh (one.fdiv 8))
 ·exact rfl
 simp only [sX,sN];have f1:=au one (b:=8) (by decide);have f2:=aC one (b:=8) (by decide);unfold gad;generalize one.fmod 8=way at f1 f2 ⊢;generalize (th+1).fmod 1000000000=far;generalize (th+2).fmod 1000000000=last
 by_cases h4:way < 4
 ·rw [Ql h4]
  refine ao (x:=.bool (decide (way < 4))) (rfl) (by rw [am,Qn h4]) (af ?_ rfl);simp only [x_v,bg,aH,ax,gX,gN,bX,mX];exact hf way one two a b c th f1 h4
 rw [Qu h4];refine ag (x:=.bool (decide (way < 4))) (rfl) (by rw [am,Zk h4]) ?_;have hcase:way=4\/way=5\/way=6\/way=7:=by lia
 rcases hcase with h | h | h | h
 ·subst h
  refine ao (x:=.bool true) rfl rfl (al (.list (([.pick c [th,th,far,far,last]]:List Row).map Row.d)) rfl rfl (al (.list (([.pick c [th,th,far,far,last],.lend a true (.th (three two th far last)),.lend b (kd (one.fdiv 8)) (.hd c)]:List Row).map Row.d)) ?_ rfl ?_))
  ·exact aA rfl (aV (esC (a9 (esC rfl (esC rfl (esC rfl (esC (ad (aV (esC rfl (esC rfl (esC rfl es0)))) (aA rfl rfl (bw two 3 (Qp (id (Eq.refl true))))) (ux two th far last)) es0))))) (esC (a9 (esC rfl (esC rfl (esC rfl (esC (ad rfl rfl rfl) es0))))) es0))) rfl
  exact af rfl rfl
 ·subst h
  refine ag (x:=.bool false) rfl rfl (ao (x:=.bool true) rfl rfl (al (.list (([.lend a true (.th th),.lend b false (.hd a),.either,.deed .back (if kd two then b else a)]:List Row).map Row.d)) ?_ rfl ?_))
  ·exact aV (esC (a9 (esC rfl (esC rfl (esC rfl (esC rfl es0))))) (esC (a9 (esC rfl (esC rfl (esC rfl (esC rfl es0))))) (esC (a9 (esC rfl es0)) (esC (a9 (esC rfl (esC (ad (aV (esC rfl (esC rfl es0))) (aA rfl rfl (bw two 2 (Qp (id (Eq.refl true))))) (xy two a b)) es0))) es0))))
  exact af rfl rfl
 ·subst h
  refine ag (x:=.bool false) rfl rfl (ag (x:=.bool false) rfl rfl (ao (x:=.bool true) rfl rfl (al (.list (([.lend a (kd (one.fdiv 8)) (.th far),.lend b (kd two) (.th th)]:List Row).map Row.d)) ?_ rfl ?_)))
  ·exact aV (esC (a9 (esC rfl (esC rfl (esC rfl (esC rfl es0))))) (esC (a9 (esC rfl (esC rfl (esC (ad (aV (esC rfl (esC rfl es0))) (aA rfl rfl (bw two 2 (Qp (id (Eq.refl true))))) (rh two)) (esC rfl es0))))) es0))
  exact af rfl rfl
 ·subst h
  refine ag (x:=.bool false) rfl rfl (ag (x:=.bool false) rfl rfl (ag (x:=.bool false) rfl rfl ?_));have hc:evE Φ Γ (.cmp .Eq (.bin .Mod (.v 1) (.k (.int 3))) (.k (.int 0))) [some (.int one),some (.int two),some (.int deep),some r.d,some (.list [.str a,.str b,.str c]),some (.str a),some (.str b),some (.int th),some (.int far),some (.int last),some (.str (kindS (kd (one.fdiv 8)))),some (.tuple [.str "end"]),some (.int 7),none]=some (.bool (two.fmod 3 == 0)):=by
   exact rfl
  by_cases h3:two.fmod 3=0
  ·refine ao hc (by rw [am,h3];rfl) (af ?_ rfl)
   rw [Qu (by decide),Qu (by decide),Qu (by decide),Ql h3];rfl
  ·refine ag hc (by rw [am];simp [h3]) ?_
   refine al (.list (([.pick c [far,th],.lend a true (.th th),.either,.deed .back a]:List Row).map Row.d)) rfl rfl ?_;refine af ?_ rfl;rw [Qu (by decide),Qu (by decide),Qu (by decide),Qu h3];rfl
end
end Mine
set_option tactic.hygienic false
namespace Mine
open PySem
section
variable {Φ:Str->List D->Option D}{Γ:Str->Option D}{m:St}{ow:List Nat}{fr:Bool}{N:Nat}
set_option tactic.hygienic true in
theorem xz{i:Nat}{xs:List D}(h0:m[i]?=some (some (.list xs)))(hn:xs.isEmpty=false):exS Φ Γ ow fr N (.pop i) m=some (.next,m.set i (some (.list xs.dropLast))):=by
 rw [u8,h0];exact Qu (by rw [hn];exact Qr)
theorem lP{i:Nat}{r:Sms}{xs:List D}{Q:St->Prop}(h0:m[i]?=some (some (.list xs)))(hn:xs.isEmpty=false)(k:Go (exSs Φ Γ ow fr N r (m.set i (some (.list xs.dropLast)))) Q):Go (exSs Φ Γ ow fr N (.cons (.pop i) r) m) Q:=by
 obtain ⟨m2,e2,q2⟩:=k;exact ⟨m2,(aS (xz h0 hn)).trans e2,q2⟩
set_option tactic.hygienic true in
theorem wD{i:Nat}{ix e:Ex}{xs:List D}{n:Int}{d:D}(h0:m[i]?=some (some (.list xs)))(h1:evE Φ Γ e m=some d)(h2:evE Φ Γ ix m=some (.int n))(hn:noList d=true)(hz:0<=n/\n < xs.length):exS Φ Γ ow fr N (.seti i ix e) m=some (.next,m.set i (some (.list (xs.set n.toNat d)))):=by
 rw [li,h1,h0,bX,bX,bX,h2,bX,Ql hn];exact Ql hz
theorem uy{i:Nat}{ix e:Ex}{r:Sms}{xs:List D}{n:Int}{d:D}{Q:St->Prop}(h0:m[i]?=some (some (.list xs)))(h1:evE Φ Γ e m=some d)(h2:evE Φ Γ ix m=some (.int n))(hn:noList d=true)(hz:0<=n/\n < xs.length)(k:Go (exSs Φ Γ ow fr N r (m.set i (some (.list (xs.set n.toNat d))))) Q):Go (exSs Φ Γ ow fr N (.cons (.seti i ix e) r) m) Q:=by
 obtain ⟨m2,e2,q2⟩:=k;exact ⟨m2,(aS (wD h0 h1 h2 hn hz)).trans e2,q2⟩
theorem bd{i:Nat}{e:Ex}{r:Sms}{d:D}(x:D)(h:evE Φ Γ e m=some x)(ho:flat x=true)(k:Rt (exSs Φ Γ ow fr N r (m.set i (some x))) d):Rt (exSs Φ Γ ow fr N (.cons (.asg i e) r) m) d:=bv _ (qW h (by rw [ho];simp)) k
end
noncomputable def sheetStep(odd:Bool)(most:Int)(r:Dr)(way one two:Int)(s:List Row × List Row):List Row × List Row:=
 if odd=true/\way.fmod 2=0/\(s.2.filter Row.isNamed).length < 3 then (s.1++cH one two (s.2.filter Row.isNamed).length r,s.2)
 else (s.1++[rowOf (way.fmod most) one two s.2 r],if (rowOf (way.fmod most) one two s.2 r).isOpen then s.2++[rowOf (way.fmod most) one two s.2 r] else if (rowOf (way.fmod most) one two s.2 r).isFin then s.2.dropLast else s.2)
noncomputable def sheetAt(odd:Bool)(most:Int)(r:Dr)(c:Nat->Int):Nat->List Row × List Row
 | 0=>([],[])
 | k+1=>sheetStep odd most r (c (3 * k)) (c (3 * k+1)) (c (3 * k+2)) (sheetAt odd most r c k)
theorem pe(odd:Bool)(most:Int)(r:Dr)(c:Nat->Int):sheetAt odd most r c 0=([],[]):=rfl
theorem eu(odd:Bool)(most:Int)(r:Dr)(c:Nat->Int)(n:Nat):sheetAt odd most r c (n+1)=sheetStep odd most r (c (3 * n)) (c (3 * n+1)) (c (3 * n+2)) (sheetAt odd most r c n):=rfl
noncomputable def cI(odd:Bool)(most:Int)(r:Dr)(c:Nat->Int)(n:Nat):List Row:=(sheetAt odd most r c n).1++(sheetAt odd most r c n).2.map λo_=>.fin
theorem dZ(one two:Int)(named:List Row)(r:Dr):(bJ one two named r).isLend=true:=by
 unfold bJ;split
 ·split<;>rfl
 ·rfl
theorem ph{r:Row}(h:r.isLend=true):r.isOpen=true/\r.isFin=false:=by cases r<;>first | exact ⟨rfl,rfl⟩ | cases h
theorem jF(way one two:Int)(opened:List Row)(r:Dr)(h:(rowOf way one two opened r).isFin=true):opened.isEmpty=false:=by
 cases opened with
 | cons=>rfl
 | nil=>
  exfalso
  revert h;unfold rowOf;simp only [List.filter_nil,QP,List.getLast?_nil,Option.any_none,QD,and_false,if_false,Yd]
  repeat' split
  all_goals first
   | (rw [(ph (dZ _ _ _ _)).2];exact Qr)
   | exact Qr
theorem kN(way one two:Int)(a b c:Str)(th:Int):(cG way one two a b c th).length<=11:=by
 unfold cG
 repeat' split
 all_goals simp
theorem pi(one two:Int)(a b c:Str)(th:Int):(gad one two a b c th).length<=11:=by
 unfold gad;split
 ·exact kN ..
 ·repeat' split
  all_goals simp
theorem bZ(odd:Bool)(most:Int)(r:Dr)(c:Nat->Int):∀ k,(sheetAt odd most r c k).1.length<=11 * k/\(sheetAt odd most r c k).2.length<=k
 | 0=>⟨QO _,QO _⟩
 | k+1=>by
  have h1:=(bZ odd most r c k).1;have h2:=(bZ odd most r c k).2;simp only [eu,sheetStep];split
  ·have:=pi (c (3 * k+1)) (c (3 * k+2)) (wordOf (c (3 * k+1)) (c (3 * k+2)) ((sheetAt odd most r c k).2.filter Row.isNamed).length r) (wordOf (c (3 * k+2)) (c (3 * k+1)) (((sheetAt odd most r c k).2.filter Row.isNamed).length+1) r) (wordOf (c (3 * k+1)) (c (3 * k+1)) (((sheetAt odd most r c k).2.filter Row.isNamed).length+2) r) (thingOf (c (3 * k+2)) r.b)
   refine ⟨?_,YX h2⟩;rw [QW];unfold cH;exact QC h1 this
  ·refine ⟨by simp only [QW,QV,QP];exact QC h1 (by decide),?_⟩
   repeat' split
   ·simp only [QW,QV,QP];(exact Y2 h2)
   ·simp only [List.length_dropLast];exact QQ (XZ _ _) (YX h2)
   ·exact YX h2
section
variable (Φ:Str->List D->Option D)(Γ:Str->Option D)(N:Nat)
theorem iB(c:Nat->Int)(n i:Nat)(h:i < n):item (.list ((List.range n).map λi=>.int (c i))) (.int i)=some (.int (c i)):=by
 refine p_mk (k:=i) ?_ ?_
 ·have:=a7 (n:=n) (i:=(i:Int)) (by exact QB.mpr (QF i)) (by exact QZ h)
  simpa using this
 ·rw [Qy,YO h];rfl
theorem rk(r:Dr)
 (hg:∀ (one two:Int) (deep:Nat),deep < 800->Φ "_law_gadget" [.int one,.int two,.int deep,r.d]=some (.list ((cH one two deep r).map Row.d)))
 (hrow:∀ (way one two:Int) (opened:List Row),opened.length < 900->Φ "_law_row" [.int way,.int one,.int two,.list (opened.map Row.d),r.d]=some (rowOf way one two opened r).d)
 (odd:Bool) (most:Int) (hm:most ≠ 0) (c:Nat->Int) (n:Nat) (hn:n<=100) :
 runFn Φ Γ N fn_law_sheet [.list ((List.range (3 * n)).map λi=>.int (c i)),r.d,.int most,.bool odd]=some (.list ((cI odd most r c n).map Row.d)):=by
 refine av [some (.list ((List.range (3 * n)).map λi=>.int (c i))),some r.d,some (.int most),some (.bool odd),none,none,none,none,none,none] rfl rfl ?_;dsimp only [fn_law_sheet];refine al (.list []) rfl rfl (bd (.list []) rfl rfl ?_);have hrange:∀ m:St,m[0]?=some (some (.list ((List.range (3 * n)).map λi=>.int (c i))))->evE Φ Γ (.bin .FloorDiv (.b1 .len (.v 0)) (.k (.int 3))) m=some (.int n):=by
  intro m h;simp only [x_k,x_v,bh,x_b1,h,bX,cZ,lX,Qo,o4 _ 3 (by decide)];congr 2
  rw [Int.fdiv_eq_ediv_of_nonneg _ (by decide)];exact Int.mul_ediv_cancel_left (n:Int) (by decide:(3:Int) ≠ 0)
 refine aN (Q':=λm=>∃ x6 x7 x8 x9,m=[some (.list ((List.range (3 * n)).map λi=>.int (c i))),some r.d,some (.int most),some (.bool odd),some (.list ((sheetAt odd most r c n).1.map Row.d)),some (.list ((sheetAt odd most r c n).2.map Row.d)),x6,x7,x8,x9]) ?_ ?_
 ·refine (bM (λk m=>∃ x6 x7 x8 x9,m=[some (.list ((List.range (3 * n)).map λi=>.int (c i))),some r.d,some (.int most),some (.bool odd),some (.list ((sheetAt odd most r c k).1.map Row.d)),some (.list ((sheetAt odd most r c k).2.map Row.d)),x6,x7,x8,x9])
   (bA (hrange _ rfl) (by exact (QQ hn (by decide):n<=2 ^ 20))) rfl ⟨none,none,none,none,rfl⟩ (λk vs m hk hI=>?_)).mono λm hI=>?_
  ·refine byG λX_ g_=>?_
   obtain ⟨x6,x7,x8,x9,rfl⟩:=hI;rw [Qy] at hk;obtain ⟨i,hi,rfl⟩:=QK hk;obtain ⟨hi1,hi2⟩:=Qq hi;refine g_ ?_;simp only [Qo] at hi1;simp only [ZN] at hi2;subst hi2;refine ⟨_,rfl,?_⟩;simp only [sX,sN];obtain ⟨l1,l2⟩:=bZ odd most r c k;replace l1:(sheetAt odd most r c k).1.length<=1100:=by exact QQ l1 (Zj 11 (QQ (Qm hi1) hn))
   replace l2:(sheetAt odd most r c k).2.length<=100:=by exact QQ l2 (QQ (Qm hi1) hn)
   simp only [eu];generalize sheetAt odd most r c k=s at l1 l2 ⊢;obtain ⟨rows,opened⟩:=s;simp only at l1 l2 ⊢;have b2:3 * k+2 < 3 * n:=by exact Qe (QA _) (Zj 3 hi1)
   have g0:=iB c (3 * n) (3 * k) (Nat.lt_of_succ_lt (Nat.lt_of_succ_lt b2));have g1:=iB c (3 * n) (3 * k+1) (Nat.lt_of_succ_lt b2);have g2:=iB c (3 * n) (3 * k+2) b2;have k0:(3:Int) * (k:Int)=((3 * k:Nat):Int):=rfl;have k1:((3 * k:Nat):Int)+1=((3 * k+1:Nat):Int):=rfl;have k2:((3 * k:Nat):Int)+2=((3 * k+2:Nat):Int):=rfl;generalize c (3 * k)=way at g0 ⊢;generalize c (3 * k+1)=one at g1 ⊢;generalize c (3 * k+2)=two at g2 ⊢;generalize (PyData.list ((List.range (3 * n)).map λi=>.int (c i)))=cells at g0 g1 g2 ⊢;refine aw (.list ((opened.filter Row.isNamed).map Row.d)) (dX opened (λe=>[e.d]) Row.isNamed Row.d (bt (rfl)) (QQ l2 (by decide)) rfl (λe o_=>?_) (λe o_ o_=>?_)) rfl ?_
   ·exact ev_c (aj (ad rfl rfl (Row.i0 e)) (aV (esC rfl (esC rfl es0))) (lM e))
   ·exact rfl
   refine aw (.int way) ?_ rfl ?_
   ·exact ad rfl (aA rfl rfl (ft 3 (↑k) (Qp (id (Eq.refl true))))) g0
   simp only [sX,sN];refine ar (aO (Q:=λm=>∃ x6 x7 x8 x9,m=[some cells,some r.d,some (.int most),some (.bool odd),some (.list ((sheetStep odd most r way one two (rows,opened)).1.map Row.d)),some (.list ((sheetStep odd most r way one two (rows,opened)).2.map Row.d)),x6,x7,x8,x9]) (d:=.bool (odd&&((way.fmod 2 == 0)&&decide (((opened.filter Row.isNamed).length:Int) < 3)))) ?_ (am _) (λq=>?_) (λq=>?_)) λm e=>ah e
   ·exact gW (rfl) (rfl) (aj (aT rfl (lenL (List.filter Row.isNamed opened))) rfl (v_lt (↑(List.filter Row.isNamed opened).length) 3))
   ·simp only [Qj,Q5,QE] at q
    have hs:sheetStep odd most r way one two (rows,opened)=(rows++cH one two (opened.filter Row.isNamed).length r,opened):=Ql ⟨q.1,q.2.1,Q0.mp q.2.2⟩;rw [hs];refine aw (.list ((rows++cH one two (opened.filter Row.isNamed).length r).map Row.d)) ?_ rfl (ah ⟨_,_,_,_,rfl⟩);simp only [x_k,x_v,bh,bj,bg,x_b1,aH,ax,gX,gN,bX,mX,ft 3 (k:Int) (by decide),k0,cS,k1,k2,g1,g2,cZ,lX,hg one two _ (Qh (Zz _ _) (Qh l2 (by decide)))];rw [fu _ _ (by rw [lX,lX];exact QQ (QC l1 (pi one two (wordOf one two (opened.filter Row.isNamed).length r) (wordOf two one ((opened.filter Row.isNamed).length+1) r) (wordOf one one ((opened.filter Row.isNamed).length+2) r) (thingOf two r.b))) (by decide)),Qb]
   ·have hs:sheetStep odd most r way one two (rows,opened)=(rows++[rowOf (way.fmod most) one two opened r],if (rowOf (way.fmod most) one two opened r).isOpen then opened++[rowOf (way.fmod most) one two opened r] else if (rowOf (way.fmod most) one two opened r).isFin then opened.dropLast else opened):=Qu (by
     rintro ⟨q1,q2,q3⟩;simp only at q3;rw [q1,q2,Qn (show ((opened.filter Row.isNamed).length:Int) < 3 from QZ q3)] at q;exact absurd q (by decide))
    rw [hs];have hrw:=hrow (way.fmod most) one two opened (Qh l2 (by decide));have hfin:=jF (way.fmod most) one two opened r;generalize rowOf (way.fmod most) one two opened r=x at hrw hfin ⊢;refine aw x.d ?_ rfl ?_
    ·exact ai (esC (aA rfl rfl (bw way most hm)) (esC (ad rfl (aA (aA rfl rfl (ft 3 (↑k) (Qp (id (Eq.refl true))))) rfl (cS (3 * ↑k) 1)) g1) (esC (ad rfl (aA (aA rfl rfl (ft 3 (↑k) (Qp (id (Eq.refl true))))) rfl (cS (3 * ↑k) 2)) g2) (esC rfl (esC rfl es0))))) hrw
    simp only [sX,sN];refine aw (.list ((rows++[x]).map Row.d)) ?_ rfl ?_
    ·simp only [x_v,hY,bh,aH,ax,gX,gN,bX,mX]
     rw [fu _ _ (by rw [lX];exact QQ (Zt l1 1) (by decide)),Qb];rfl
    simp only [sX,sN];refine ar (aO (Q:=λm=>m=[some cells,some r.d,some (.int most),some (.bool odd),some (.list ((rows++[x]).map Row.d)),some (.list ((if x.isOpen then opened++[x] else opened).map Row.d)),some (.int k),some x.d,some (.list ((opened.filter Row.isNamed).map Row.d)),some (.int way)]) (d:=.bool x.isOpen) ?_ (am _) (λq=>?_) (λq=>?_)) ?_
    ·exact aj (ad rfl rfl (Row.i0 x)) (aV (esC rfl (esC rfl (esC rfl (esC rfl es0))))) (kK x)
    ·refine bH (xs:=opened.map Row.d) (d:=x.d) rfl (rfl) x.noList (by rw [lX];exact QQ l2 (by decide)) (ah ?_)
     rw [Ql q];simp
    ·exact ah (by rw [Qu (by rw [q];decide)])
    rintro _ rfl;refine ar (aO (Q:=λm=>m=[some cells,some r.d,some (.int most),some (.bool odd),some (.list ((rows++[x]).map Row.d)),some (.list ((if x.isOpen then opened++[x] else if x.isFin then opened.dropLast else opened).map Row.d)),some (.int k),some x.d,some (.list ((opened.filter Row.isNamed).map Row.d)),some (.int way)]) (d:=.bool x.isFin) ?_ (am _) (λq=>?_) (λq=>?_)) ?_
    ·exact aj (ad rfl rfl (Row.i0 x)) rfl (Qf some (eU x))
    ·have ho:x.isOpen=false:=by cases x<;>first | rfl | cases q
     rw [ho];simp only [QD,if_false];refine lP (xs:=opened.map Row.d) rfl ?_ (ah ?_)
     ·have:=hfin q
      cases opened with
      | nil=>cases this
      | cons=>rfl
     ·rw [Ql q];simp [Zu]
    ·exact ah (by rw [q];rfl)
    rintro _ rfl;exact ah ⟨_,_,_,_,rfl⟩
  ·simpa using hI
 ·refine al4 λx6 x7 x8 x9=>?_
  have l1:=(bZ odd most r c n).1;have l2:=(bZ odd most r c n).2;refine af ?_ rfl;rw [bh,(bz (Φ:=Φ) (Γ:=Γ) (m:=[some (.list ((List.range (3 * n)).map λi=>.int (c i))),some r.d,some (.int most),some (.bool odd),some (.list ((sheetAt odd most r c n).1.map Row.d)),some (.list ((sheetAt odd most r c n).2.map Row.d)),x6,x7,x8,x9]) (elt:=.tup (.cons (.k (.str "end")) .nil)) (it:=.plain (.v 5)) (sheetAt odd most r c n).2 (λe=>[e.d]) (λo_=>Row.fin.d) (bt (rfl)) (by exact QQ l2 (QQ hn (by decide))) rfl (λe o_=>rfl))];simp only [x_v,gX,gN,bX];rw [fu _ _ (by simp only [lX];exact QQ (QC l1 l2) (QQ (QC (Zj 11 hn) hn) (by decide)))];simp [cI]
end
end Mine
set_option tactic.hygienic false
namespace Mine
open PySem
noncomputable def ew(way:Int):Int:=if way=2 then 5 else if way=3\/way=6 then 10 else 12
noncomputable def manyOf(ns:List Int)(most:Int):Nat:=(if 3 < (cellAt ns 2).fmod 8 then ((cellAt ns 0).fmod most).fmod 6 else (cellAt ns 0).fmod most).toNat
noncomputable def onceOf(ns:List Int)(most:Int):List Row:=cI (decide (3 < (cellAt ns 2).fmod 8)) (ew ((cellAt ns 2).fmod 8)) (a8 ns) (λi=>cellAt ns (3+i)) (manyOf ns most)
noncomputable def drawnOf(ns:List Int)(most:Int):List Row:=
 if ((cellAt ns 2).fmod 8=1\/(cellAt ns 2).fmod 8=6)/\(onceOf ns most).length < 21 then onceOf ns most++onceOf ns most++onceOf ns most++onceOf ns most else onceOf ns most
theorem uz(w:Int)(h0:0<=w)(h1:w < 8):item (.list [.int 12,.int 12,.int 5,.int 10,.int 12,.int 12,.int 10,.int 12]) (.int w)=some (.int (ew w)):=by
 obtain ⟨n,rfl⟩:=Int.eq_ofNat_of_zero_le h0;have h:n < 8:=Q0.mp h1;rcases n with _ | _ | _ | _ | _ | _ | _ | _ | n<;>first | rfl | exact absurd h (Z7.mpr (Nat.le_add_left 8 n))
theorem uA(w:Int):ew w ≠ 0:=by
 unfold ew
 repeat' split
 all_goals decide
theorem kO(ns:List Int)(most:Int)(h0:0 < most):manyOf ns most < most.toNat:=by
 have h1:=au (cellAt ns 0) h0;have h2:=aC (cellAt ns 0) h0;have h3:=au ((cellAt ns 0).fmod most) (b:=6) (by decide);have h4:=aC ((cellAt ns 0).fmod most) (b:=6) (by decide);have h5:((cellAt ns 0).fmod most).fmod 6<=(cellAt ns 0).fmod most:=by
  rw [ZO _ (by decide)];lia
 unfold manyOf;split<;>exact (Int.toNat_lt_toNat h0).mpr (by first | exact QH h5 h2 | exact h2)
theorem gf(odd:Bool)(most:Int)(r:Dr)(c:Nat->Int)(n:Nat):(cI odd most r c n).length<=12 * n:=by
 obtain ⟨h1,h2⟩:=bZ odd most r c n;simp only [cI,QW,lX];exact QQ (QC h1 h2) (Zd (Nat.succ_mul 11 n).symm)
theorem rl(Φ:Str->List D->Option D)(Γ:Str->Option D)(N:Nat)(ns:List Int)(hns:ns.length<=63)(most:Int)(h0:0 < most)(h1:most<=100)
 (hc:∀ k:Int,0<=k->Φ "_law_cell_at" [.list (ns.map .int),.int k]=some (.int (cellAt ns k))) (hd:Φ "_law_draw" [.list (ns.map .int)]=some (a8 ns).d)
 (hs:∀ (odd:Bool) (most:Int) (_:most ≠ 0) (c:Nat->Int) (n:Nat) (_:n<=100),Φ "_law_sheet" [.list ((List.range (3 * n)).map λi=>.int (c i)),(a8 ns).d,.int most,.bool odd]=some (.list ((cI odd most (a8 ns) c n).map Row.d))) :
 runFn Φ Γ N fn_law_drawn [.list (ns.map .int),.int most]=some (.list ((drawnOf ns most).map Row.d)):=by
 have ml:=kO ns most h0;have m100:manyOf ns most<=100:=Qm (Qe ml (Zo.mpr h1));refine av [some (.list (ns.map .int)),some (.int most),none,none,none,none] rfl rfl ?_;dsimp only [fn_law_drawn];refine ag (x:=.bool (decide ((63:Int) < ns.length))) (aj (aT rfl (lenL ns)) rfl (v_gt (↑ns.length) 63)) (by rw [am,Zk (by exact ZB.mpr (QB.mpr hns))]) ?_;refine al (.int ((cellAt ns 0).fmod most)) (by simp only [x_k,x_v,bh,bg,aH,ax,gX,gN,bX,mX,(hc 0 (by decide)),bw _ most (by exact YR h0)]) rfl ?_;refine al (.int ((cellAt ns 2).fmod 8)) (aA (ai (esC rfl (esC rfl es0)) (hc 2 (by decide))) rfl (bw (cellAt ns 2) 8 (Qp (id (Eq.refl true))))) rfl ?_;simp only [sX,sN];have n1:=au (cellAt ns 0) h0;have n3:=au ((cellAt ns 0).fmod most) (b:=6) (by decide);have hmany:(if 3 < (cellAt ns 2).fmod 8 then ((cellAt ns 0).fmod most).fmod 6 else (cellAt ns 0).fmod most)=(manyOf ns most:Int):=by
  unfold manyOf;rw [Zp];split<;>(first | exact n3 | exact n1)
 refine aN (Q':=λm=>m=[some (.list (ns.map .int)),some (.int most),some (.int (manyOf ns most)),some (.int ((cellAt ns 2).fmod 8)),none,none]) (aO (d:=.bool (decide (3 < (cellAt ns 2).fmod 8))) (rfl) (am _) (λq=>?_) (λq=>?_)) ?_
 ·rw [Ql (Qp q)] at hmany
  rw [<- hmany];exact aw (.int (((cellAt ns 0).fmod most).fmod 6)) (rfl) rfl (ah rfl)
 ·rw [Qu (of_decide_eq_false q)] at hmany
  exact (hmany).symm ▸ (ah rfl)
 rintro _ rfl;refine al (.list ((List.range (3 * manyOf ns most)).map λ(i:Nat)=>.int (cellAt ns (3+i)))) ?_ rfl ?_
 ·refine bz (List.range (3 * manyOf ns most)) (λ(i:Nat)=>[PyData.int i]) (λi=>.int (cellAt ns (3+i))) ?_ (by rw [Qo];exact QQ (Zj 3 m100) (by decide)) rfl λk _=>?_
  ·have:=bA (Φ:=Φ) (Γ:=Γ) (m:=[some (.list (ns.map .int)),some (.int most),some (.int (manyOf ns most)),some (.int ((cellAt ns 2).fmod 8)),none,none]) (e:=.bin .Mult (.k (.int 3)) (.v 2)) (n:=((3 * manyOf ns most:Nat):Int)) (by
    simp only [x_k,x_v,bh,gX,gN,bX,ft 3 _ (by decide)];congr 2) (by exact (QQ (Zj 3 m100) (by decide):3 * manyOf ns most<=2 ^ 20))
   rw [QN] at this;exact this
  ·have:=hc (3+k) (by exact QB.mpr (QF (3+k)))
   exact ai (esC rfl (esC (aA rfl rfl (cS 3 ↑k)) es0)) this
 refine al (.list ((onceOf ns most).map Row.d)) ?_ rfl ?_
 ·exact ai (esC rfl (esC (ai (esC rfl es0) hd) (esC (ad (aV (esC rfl (esC rfl (esC rfl (esC rfl (esC rfl (esC rfl (esC rfl (esC rfl es0))))))))) rfl (uz ((cellAt ns 2).fmod 8) (au (cellAt ns 2) (b:=8) (by decide)) (aC (cellAt ns 2) (b:=8) (by decide)))) (esC (aj rfl rfl (v_gt ((cellAt ns 2).fmod 8) 3)) es0)))) (hs (decide (3 < (cellAt ns 2).fmod 8)) (ew ((cellAt ns 2).fmod 8)) (uA _) (λi=>cellAt ns (3+i)) (manyOf ns most) (by exact m100))
 simp only [sX,sN];have hlen:(onceOf ns most).length<=1200:=QQ (gf ..) (by exact Zj 12 m100);have hdr:drawnOf ns most=if ((cellAt ns 2).fmod 8=1\/(cellAt ns 2).fmod 8=6)/\(onceOf ns most).length < 21 then onceOf ns most++onceOf ns most++onceOf ns most++onceOf ns most else onceOf ns most:=rfl
 rw [hdr];generalize onceOf ns most=rows at hlen ⊢;generalize (PyData.list ((List.range (3 * manyOf ns most)).map λ(i:Nat)=>.int (cellAt ns (3+i))))=cells;generalize (cellAt ns 2).fmod 8=way;refine aN (Q':=λm=>m=[some (.list (ns.map .int)),some (.int most),some (.int (manyOf ns most)),some (.int way),some cells,some (.list ((if (way=1\/way=6)/\rows.length < 21 then rows++rows++rows++rows else rows).map Row.d))]) (aO (d:=.bool (decide (way=1\/way=6)&&decide ((rows.length:Int) < 21))) ?_ (am _) (λq=>?_) (λq=>?_)) ?_
 ·refine aF ?_ (aj (aT rfl (lenL rows)) rfl (v_lt (↑rows.length) 21))
  have:=pb way [1,6];simp only [QX,ZC] at this;simp only [x_k,x_v,hY,dN,aH,ax,v_in,gX,gN,bX,mX,this];congr 2
  rw [ZZ];simp only [YQ,List.any_nil,Bool.or_false,Ze,Q5,QE];exact or_congr eq_comm eq_comm
 ·simp only [Qj,QE] at q
  rw [Ql ⟨q.1,by exact Q0.mp q.2⟩];refine aw (.list ((rows++rows++rows++rows).map Row.d)) ?_ rfl (ah rfl);simp only [x_v,bh,gX,gN,bX];rw [fu _ _ (by simp only [lX];exact QQ (QC hlen hlen) (by decide)),bX,fu _ _ (by simp only [lX,QW];exact QQ (QC (QC hlen hlen) hlen) (by decide)),bX,fu _ _ (by simp only [lX,QW];exact QQ (QC (QC (QC hlen hlen) hlen) hlen) (by decide))];simp only [Qb]
 ·rw [Qu (by
   rintro ⟨q1,q2⟩;rw [Qn q1,Qn (by exact QZ q2)] at q;exact absurd q (by decide))]
  exact ah rfl
 rintro _ rfl;exact af rfl rfl
end Mine
set_option tactic.hygienic false
namespace Mine
open PySem
noncomputable def nest:List Row->Nat->Option Nat
 | [],d=>some d
 | r::rs,d=>if r.isOpen then nest rs (d+1) else if r.isFin then (match d with | 0=>none | d+1=>nest rs d) else nest rs d
theorem sR(x:Nat):nest [] x=some x:=rfl
theorem lQ(r:Row)(rs:List Row)(d:Nat):nest (r::rs) d=if r.isOpen then nest rs (d+1) else if r.isFin then (match d with | 0=>none | d+1=>nest rs d) else nest rs d:=rfl
theorem aY:∀ (a b:List Row) (d:Nat),nest (a++b) d=(nest a d).bind (nest b):=by
 intro a;induction a with
 | nil=>
  intro b d;exact rfl
 | cons r a aY=>
  intro b d;simp only [ZH,lQ];split
  ·exact aY b _
  ·split
   ·cases d with
    | zero=>rfl
    | succ d=>exact aY b d
   ·exact aY b d
theorem gg:∀ (n:List Row),nest (n.map λ_=>Row.fin) n.length=some 0:=by
 intro n;induction n with
 | nil=>
  exact rfl
 | cons _ n gg=>
  exact gg
theorem mR(way one two:Int)(a b c:Str)(th:Int)(d:Nat):nest (cG way one two a b c th) d=some d:=by
 unfold cG
 repeat' split
 all_goals rfl
theorem rn(one two:Int)(a b c:Str)(th:Int)(d:Nat):nest (gad one two a b c th) d=some d:=by
 unfold gad;split
 ·exact mR ..
 ·repeat' split
  all_goals rfl
set_option tactic.hygienic true in
theorem db(odd:Bool)(most:Int)(r:Dr)(c:Nat->Int):∀ k,nest (sheetAt odd most r c k).1 0=some (sheetAt odd most r c k).2.length
 | 0=>rfl
 | k+1=>by
  simp only [eu,sheetStep];split
  ·rw [aY,(db odd most r c k)];exact rn ..
  ·have hf:=jF ((c (3 * k)).fmod most) (c (3 * k+1)) (c (3 * k+2)) (sheetAt odd most r c k).2 r
   generalize rowOf ((c (3 * k)).fmod most) (c (3 * k+1)) (c (3 * k+2)) (sheetAt odd most r c k).2 r=x at hf ⊢;simp only [aY,(db odd most r c k),bX,sR,lQ];split
   ·simp
   ·split
    ·rename_i h
     have:=hf h;generalize (sheetAt odd most r c k).2=l at this ⊢;cases l with
     | nil=>cases this
     | cons=>simp
    ·rfl
theorem mS(odd:Bool)(most:Int)(r:Dr)(c:Nat->Int)(n:Nat):nest (cI odd most r c n) 0=some 0:=by
 unfold cI;rw [aY,db];exact gg _
theorem mT(ns:List Int)(most:Int):nest (drawnOf ns most) 0=some 0:=by
 have h:nest (onceOf ns most) 0=some 0:=mS ..;unfold drawnOf;split
 ·rw [aY,aY,aY,h];simp [h]
 ·exact h
noncomputable def stp(x:Row)(at':Nat)(st:List Nat):List Nat:=if x.isOpen then at'::st else if x.isFin then st.tail else st
noncomputable def stk(rows:List Row):Nat->List Nat
 | 0=>[]
 | k+1=>match rows[k]? with
  | some r=>stp r k (stk rows k)
  | none=>stk rows k
theorem kP(rows:List Row)(n:Nat):stk rows (n+1)=match rows[n]? with | some r=>stp r n (stk rows n) | none=>stk rows n:=rfl
noncomputable def topI:List Nat->Int
 | []=>-1
 | x::_=>x
theorem sS  : topI [] = -1:=rfl
theorem g6(x_1:Nat)(tail:List Nat):topI (x_1::tail) = ↑x_1:=rfl
noncomputable def home(rows:List Row)(k:Nat):Int:=topI (stk rows k)
noncomputable def homeL(rows:List Row):List Int:=(List.range rows.length).map (home rows)
noncomputable def isAt(rows:List Row)(p:Row->Bool)(k:Nat):Bool:=(rows[k]?).any p
theorem bf{rows:List Row}{k:Nat}{r:Row}(h:rows[k]?=some r):stk rows (k+1)=stp r k (stk rows k):=by simp only [kP,h]
structure Nested(rows:List Row):Prop where
 ok:∀ k r,rows[k]?=some r->r.isFin=true->stk rows k ≠ []
 bal:stk rows rows.length=[]
set_option tactic.hygienic true in
theorem pj{rows:List Row}(h:nest rows 0=some 0):Nested rows:=by
 have key:∀ k,k<=rows.length->nest (rows.take k) 0=some (stk rows k).length:=by
  intro k;induction k with
  | zero=>intro _;rfl
  | succ k ih=>
   intro hk;have hr:rows[k]?=some rows[k]:=Qk (by exact hk);have ht:rows.take (k+1)=rows.take k++[rows[k]]:=by rw [Z1,hr];rfl
   have hs:(nest (rows.take (k+1)) 0).bind (nest (rows.drop (k+1)))=some 0:=by rw [<- aY,List.take_append_drop];exact h
   rw [ht,aY,(ih (by exact Qm hk)),bf hr] at *;simp only [bX,sR,lQ,stp] at hs ⊢;split
   ·simp
   ·rename_i ho
    simp only [ho,QD,if_false] at hs;split
    ·rename_i hf
     simp only [hf,if_true] at hs;cases hst:stk rows k with
     | nil=>rw [hst] at hs;simp at hs
     | cons=>simp
    ·rfl
 constructor
 ·intro k r hr hf hst
  have hk:k < rows.length:=(Qq hr).1;have h1:=key k (by exact Qm hk);have h2:=key (k+1) (by exact hk);have ht:rows.take (k+1)=rows.take k++[r]:=by rw [Z1,hr];rfl
  rw [ht,aY,h1,hst] at h2;have ho:r.isOpen=false:=by cases r<;>first | rfl | cases hf
  simp [lQ,ho,hf] at h2
 ·have:=key rows.length (QO _)
  rw [Yz,h] at this;exact ZA.mp (Qv this).symm
theorem fw(rows:List Row):∀ k,∀ j ∈ stk rows k,j < k
 | 0,j,h=>nomatch h
 | k+1,j,h=>by
  simp only [kP] at h;split at h
  ·unfold stp at h
   split at h
   ·rcases Qw h with q | q
    ·exact q ▸ QA _
    ·have:=fw rows k j q;(exact Nat.le.step this)
   ·split at h
    ·have:=fw rows k j (YK h);(exact Nat.le.step this)
    ·have:=fw rows k j h;(exact Nat.le.step this)
  ·have:=fw rows k j h;(exact Nat.le.step this)
set_option tactic.hygienic true in
theorem bQ(rows:List Row):∀ k,∀ j ∈ stk rows k,isAt rows Row.isOpen j=true
 | 0,j,h=>nomatch h
 | k+1,j,h=>by
  simp only [kP] at h;split at h
  ·rename_i r hr
   unfold stp at h;split at h
   ·rename_i ho
    rcases Qw h with q | q
    ·subst q;simp [isAt,hr,ho]
    ·exact bQ rows k j q
   ·split at h
    ·exact bQ rows k j (YK h)
    ·exact bQ rows k j h
  ·exact bQ rows k j h
theorem b6(rows:List Row):∀ k,(stk rows k).Nodup
 | 0=>ZM
 | k+1=>by
  simp only [kP];split
  ·unfold stp
   split
   ·exact Q8.mpr ⟨λh=>absurd (fw rows k k h) (Yd _),(b6 rows k)⟩
   ·split
    ·exact (b6 rows k).sublist (List.tail_sublist _)
    ·exact (b6 rows k)
  ·exact (b6 rows k)
theorem ez(rows:List Row){j k:Nat}(hj:j < k)(h:j ∉ stk rows k):∀ i,j ∉ stk rows (k+i)
 | 0=>h
 | i+1=>by
  rw [show k+(i+1)=(k+i)+1 by exact Eq.refl (k+(i+1))];simp only [kP];split
  ·unfold stp
   split
   ·intro q
    rcases Qw q with q | q
    ·exact absurd hj (Z7.mpr (q ▸ QI k i))
    ·exact (ez rows hj h i) q
   ·split
    ·exact λq=>(ez rows hj h i) (YK q)
    ·exact (ez rows hj h i)
  ·exact (ez rows hj h i)
theorem cj{rows:List Row}{k j:Nat}(h:home rows k=(j:Int)):j ∈ stk rows k:=by
 unfold home at h;cases q:stk rows k with
 | nil=>rw [q] at h;simp only [sS] at h;exact (nomatch (h:Int.negSucc 0=Int.ofNat j))
 | cons x l=>rw [q] at h;simp only [g6,Xb] at h;exact h ▸ (.head _)
theorem b7{rows:List Row}{k j:Nat}(h:home rows k=(j:Int)):j < k:=fw rows k j (cj h)
theorem pr(rows:List Row)(k:Nat):home rows k = -1\/∃ j:Nat,home rows k=j/\j < k:=by
 cases q:stk rows k with
 | nil=>exact .inl (by simp only [home,q,sS])
 | cons x l=>exact .inr ⟨x,by simp only [home,q,g6],fw rows k x (by rw [q];exact .head _)⟩
theorem lR{rows:List Row}{j k k':Nat}(h:isAt rows Row.isFin k=true)(e:home rows k=(j:Int))(e':home rows k'=(j:Int))(hk:k < k'):False:=by
 have hm:=cj e;obtain ⟨r,hr,hf⟩:∃ r,rows[k]?=some r/\r.isFin=true:=by
  unfold isAt at h;cases q:rows[k]? with
  | none=>rw [q] at h;simp at h
  | some r=>rw [q] at h;exact ⟨r,rfl,by simpa using h⟩
 have ho:r.isOpen=false:=by cases r<;>first | rfl | cases hf
 have hs:stk rows (k+1)=(stk rows k).tail:=by rw [bf hr];simp [stp,ho,hf]
 have:=ez rows (j:=j) (k:=k+1) (by have:=b7 e;(exact Nat.le.step this)) (by
  rw [hs];have nd:=b6 rows k;unfold home at e;cases q:stk rows k with
  | nil=>rw [q] at hm;cases hm
  | cons x l=>
   rw [q] at e nd;simp only [g6,Xb] at e;subst e;exact (Q8.mp nd).1) (k' - (k+1))
 rw [show k+1+(k' - (k+1))=k' by grind] at this;exact this (cj e')
noncomputable def endAt(rows:List Row)(j:Nat):Nat->Int
 | 0=>-1
 | k+1=>if isAt rows Row.isFin k=true/\home rows k=(j:Int) then k else endAt rows j k
theorem iC(rows:List Row)(j:Nat)(n:Nat):endAt rows j (n+1)=if isAt rows Row.isFin n=true/\home rows n = ↑j then ↑n else endAt rows j n:=rfl
noncomputable def endL(rows:List Row):List Int:=(List.range rows.length).map λj=>endAt rows j rows.length
set_option tactic.hygienic true in
theorem fD{rows:List Row}{j k:Nat}(h:isAt rows Row.isFin k=true)(e:home rows k=(j:Int)):∀ n,k < n->endAt rows j n=k
 | 0,q=>by exact absurd q (ZY k)
 | n+1,q=>by
  simp only [iC];split
  ·rename_i h2
   by_cases hk:k=n
   ·rw [hk]
   ·exact (lR h e h2.2 (by exact Yx (Q7 q) hk)).elim
  ·rename_i h2
   have:k ≠ n:=by rintro rfl;exact h2 ⟨h,e⟩
   exact fD h e n (by exact Yx (Q7 q) this)
theorem lS{rows:List Row}{j:Nat}:∀ n,(∀ k,k < n->¬ (isAt rows Row.isFin k=true/\home rows k=(j:Int)))->endAt rows j n = -1
 | 0,_=>rfl
 | n+1,h=>by
  simp only [iC];exact (Qu (h n (by exact Nat.succ_le_of_lt (QA n)))).trans (lS n λk hk=>h k (by exact Nat.le.step hk))
noncomputable def xG(rows:List Row)(j:Nat):Int:=
 match (List.range' (j+1) (rows.length - (j+1))).find? λk=>home rows k == (j:Int)&&isAt rows Row.isFin k with
 | some k=>k
 | none=>-1
noncomputable def startL(rows:List Row)(j:Nat):List Int:=((j:Int)+1)::((List.range rows.length).filter λk=>isAt rows Row.isOr k&&home rows k == (j:Int)).map λ(k:Nat)=>(k:Int)+1
noncomputable def kQ(rows:List Row)(j:Nat):List Int:=((j:Int)+1)::((List.range' (j+1) (rows.length - (j+1))).filter λk=>home rows k == (j:Int)&&isAt rows Row.isOr k).map λ(k:Nat)=>(k:Int)+1
theorem pw(rows:List Row)(j:Nat)(hj:j < rows.length):kQ rows j=startL rows j:=by
 unfold startL kQ;congr 2
 have:List.range rows.length=List.range (j+1)++List.range' (j+1) (rows.length - (j+1)):=by
  have h:=List.range'_append_1 (s:=0) (m:=j+1) (n:=rows.length - (j+1));rw [Zc,show j+1+(rows.length - (j+1))=rows.length by grind] at h;rw [Yt,Yt,h]
 rw [this,Zw];have h1:(List.range (j+1)).filter (λk=>isAt rows Row.isOr k&&home rows k == (j:Int))=[]:=by
  rw [List.filter_eq_nil_iff];intro k hk q;simp only [Qj,Q5] at q;have:=b7 q.2;rw [ZJ] at hk;exact absurd this (Z7.mpr (Q7 hk))
 rw [h1,YE];congr 1
 funext k
 rw [Bool.and_comm]
end Mine
set_option tactic.hygienic false
namespace Mine
open PySem
section
variable {Φ:Str->List D->Option D}{Γ:Str->Option D}{m:St}{ow:List Nat}{fr:Bool}{N:Nat}
theorem gh{i j:Nat}{it:It}{body:Sms}{items:List (List D)}(I:Nat->St->Prop)(hi:evIt Φ Γ it m=some items)(hz:cA it=false)(h0:I 0 m)
 (hs:∀ (k:Nat) (vs:List D) (m:St),items[k]?=some vs->I k m->∃ x y,vs=[x,y]/\Go (exSs Φ Γ ow fr N body ((m.set i (some x)).set j (some y))) (I (k+1))):Go (exS Φ Γ ow fr N (.for2 i j it body) m) (I items.length):=by
 rw [nB,hi,bX,hz,Qu Qr];obtain ⟨m',e,h⟩:=lI (b:=λvs m=>match vs with | [x,y]=>exSs Φ Γ ow fr N body (setV (setV m i x) j y) | _=>none) I items 0 m h0 λk vs m hk hI=>by
  rw [Zc] at hI;obtain ⟨x,y,rfl,m',e,h⟩:=hs k vs m hk hI;exact ⟨m',e,by rw [Zc];exact h⟩
 rw [Zc] at h;exact ⟨m',e,h⟩
theorem fE:∀ (xs:List D) (a k:Nat),(cR a xs)[k]?=(xs[k]?).map λx=>[.int ((a+k:Nat):Int),x]
 | [],_,_=>by rfl
 | x::xs,a,0=>by rfl
 | x::xs,a,k+1=>by
  simp only [hV,gX];rw [fE xs (a+1) k,show a+1+k=a+(k+1) by exact Yj a k]
theorem bR:∀ (xs:List D) (a:Nat),(cR a xs).length=xs.length:=by
 intro xs;induction xs with
 | nil=>
  intro _;exact rfl
 | cons _ xs bR=>
  intro a;simp only [hV,QV,bR]
theorem eW{e:Ex}{xs:List D}(h:evE Φ Γ e m=some (.list xs)):evIt Φ Γ (.enum e) m=some (cR 0 xs):=by rw [nD,h];rfl
theorem jG{a b:Ex}{p q:Nat}(h1:evE Φ Γ a m=some (.int p))(h2:evE Φ Γ b m=some (.int q))(hp:p<=2 ^ 20)(hq:q<=2 ^ 20):evIt Φ Γ (.range2 a b) m=some ((List.range' p (q - p)).map λ(i:Nat)=>[PyData.int i]):=by
 have key:∀ (k:Nat) (a:Nat),one (cg (a:Int) k)=(List.range' a k).map λ(i:Nat)=>[PyData.int i]:=by
  intro k;induction k with
  | zero=>intro a;rfl
  | succ k ih=>
   intro a;have:=ih (a+1);simp only [one,d8,QX,Xw] at this ⊢;rw [<- this];rfl
 rw [i7,h1,h2];show (if (p:Int).natAbs<=2 ^ 20/\(q:Int).natAbs<=2 ^ 20 then some (one (cg (p:Int) ((q:Int) - p).toNat)) else none)=_;rw [Ql ⟨by exact hp,by exact hq⟩];have:=key (q - p) p;rw [show ((q:Int) - (p:Int)).toNat=q - p by exact Int.toNat_sub ..];exact Qf some this
theorem eA{b:List D->St->Option (Fl × St)}{I:St->Prop}:∀ (items:List (List D)) (p:Nat->Bool) (f:Nat->D) (m:St),I m->(∀ (k:Nat) (vs:List D) (m:St),items[k]?=some vs->I m->(p k=true->Rt (b vs m) (f k))/\(p k=false->Go (b vs m) I)) ->
 (∃ k,k < items.length/\p k=true/\(∀ j,j < k->p j=false)/\Rt (forL b items m) (f k))\/((∀ k,k < items.length->p k=false)/\Go (forL b items m) I):=by
 intro items;induction items with
 | nil=>
  intro p f m h0 _;exact .inr ⟨λk h=>by simp at h,m,rfl,h0⟩
 | cons vs items eA=>
  intro p f m h0 hs;cases hp:p 0 with
  | true=>
   obtain ⟨m',e⟩:=((hs 0 vs m rfl h0).1) hp;exact .inl ⟨0,by simp,hp,λj hj=>by exact absurd hj (ZY j),m',by simp only [gI,e]⟩
  | false=>
   refine byG λX_ g_=>?_;obtain ⟨m',e,hI⟩:=((hs 0 vs m rfl h0).2) hp;refine g_ ?_;rcases eA (λk=>p (k+1)) (λk=>f (k+1)) m' hI (λk vs m hk hI=>hs (k+1) vs m (hk) hI) with ⟨k,h1,h2,h3,h4⟩ | ⟨h1,h2⟩
   ·refine .inl ⟨k+1,by simpa using h1,h2,λj hj=>?_,?_⟩
    ·cases j with
     | zero=>exact hp
     | succ j=>exact h3 j (by exact Q7 hj)
    ·simp only [gI,e];exact h4
   ·refine .inr ⟨λk hk=>?_,?_⟩
    ·cases k with
     | zero=>exact hp
     | succ k=>exact h1 k (by simpa using hk)
    ·simp only [gI,e];exact h2
theorem jH{i:Nat}{it:It}{body:Sms}{items:List (List D)}(I:St->Prop)(p:Nat->Bool)(f:Nat->D)(hi:evIt Φ Γ it m=some items)(hz:cA it=false)(h0:I m)
 (hs:∀ (k:Nat) (vs:List D) (m:St),items[k]?=some vs->I m->∃ x,vs=[x]/\(p k=true->Rt (exSs Φ Γ ow fr N body (m.set i (some x))) (f k))/\(p k=false->Go (exSs Φ Γ ow fr N body (m.set i (some x))) I)) :
 (∃ k,k < items.length/\p k=true/\(∀ j,j < k->p j=false)/\Rt (exS Φ Γ ow fr N (.for1 i it body) m) (f k))\/((∀ k,k < items.length->p k=false)/\Go (exS Φ Γ ow fr N (.for1 i it body) m) I):=by
 have hex:exS Φ Γ ow fr N (.for1 i it body) m=forL (λvs m=>match vs with | [x]=>exSs Φ Γ ow fr N body (setV m i x) | _=>none) items m:=by
  rw [nA,hi,bX,hz,Qu Qr]<;>rfl
 rw [hex];exact eA items p f m h0 λk vs m hk hI=>by
  obtain ⟨x,rfl,h1,h2⟩:=hs k vs m hk hI;exact ⟨h1,h2⟩
theorem gi{i:Nat}{it:It}{body r:Sms}{items:List (List D)}{d:D}(I:St->Prop)(p:Nat->Bool)(f:Nat->D)(hi:evIt Φ Γ it m=some items)(hz:cA it=false)(h0:I m)
 (hs:∀ (k:Nat) (vs:List D) (m:St),items[k]?=some vs->I m->∃ x,vs=[x]/\(p k=true->Rt (exSs Φ Γ ow fr N body (m.set i (some x))) (f k))/\(p k=false->Go (exSs Φ Γ ow fr N body (m.set i (some x))) I))
 (hno:(∀ k,k < items.length->p k=false)->∀ m,I m->Rt (exSs Φ Γ ow fr N r m) d) (hyes:∀ k,k < items.length->p k=true->(∀ j,j < k->p j=false)->f k=d):Rt (exSs Φ Γ ow fr N (.cons (.for1 i it body) r) m) d:=by
 rcases jH I p f hi hz h0 hs with ⟨k,h1,h2,h3,h4⟩ | ⟨h1,m',h2,h3⟩
 ·rw [<- hyes k h1 h2 h3];exact h4.elim λm' e=>⟨m',dW e⟩
 ·exact bv m' h2 (hno h1 m' h3)
end
theorem mU(l:List Int):(PyData.list (l.map .int)).depth<=32:=by
 have:PyData.depthAll (l.map .int)<=1:=by
  induction l with
  | nil=>decide
  | cons e l ih=>simp [da_c,dp_i];(exact ih)
 simp [dp_l];exact QQ this (by decide)
theorem ro(l:List Int):shp (.list (l.map .int))=true:=by simp [shp,nd_l,da,mU]
theorem rp(l:List Int):pyEq (.list (l.map .int)) (.list [])=some l.isEmpty:=by
 have h:shp (.list [])=true:=rfl;simp only [pyEq,ro,h,Xn,YS,if_true,qv_l];cases l<;>rfl
end Mine
set_option tactic.hygienic false
namespace Mine
open PySem
theorem gj(rows:List Row):∀ k,(stk rows k).length<=k
 | 0=>QO _
 | k+1=>by
  have ih:=gj rows k;simp only [kP];split
  ·unfold stp
   split
   ·simpa using ih
   ·split
    ·simp only [List.length_tail];exact QQ (XZ _ _) (YX ih)
    ·(exact Nat.le.step ih)
  ·(exact Nat.le.step ih)
noncomputable def opT:D:=.tuple [.str "lend",.str "pick",.str "either",.str "again"]
noncomputable def stI(l:List Nat):List Int:=l.reverse.map λ(n:Nat)=>(n:Int)
theorem eB(k:Nat)(l:List Nat):stI (k::l)=stI l++[(k:Int)]:=by simp [stI]
theorem rq(x:Nat)(l:List Nat):(stI (x::l)).getLast?=some (x:Int):=by simp [stI]
theorem rt(l:List Nat):(stI l).dropLast=stI l.tail:=by
 cases l with
 | nil=>rfl
 | cons x l=>rw [eB,Yu];rfl
theorem jI(l:List Nat):(stI l).isEmpty=l.isEmpty:=by cases l<;>simp [stI]
theorem lU{rows:List Row}{k:Nat}{vs:List D}(h:(cR 0 (rows.map Row.d))[k]?=some vs):∃ x,rows[k]?=some x/\vs=[.int (k:Int),x.d]:=by
 rw [fE,Qy] at h;cases q:rows[k]? with
 | none=>rw [q] at h;simp at h
 | some x=>rw [q] at h;simp at h;exact ⟨x,rfl,h.symm⟩
theorem bB{α:Type}(f:Nat->α)(k:Nat):(List.range (k+1)).map f=(List.range k).map f++[f k]:=by rw [List.range_succ,Qb];rfl
theorem pz(l:List Int):flat (.list (l.map .int))=true:=by simp only [fl_l,bI]
theorem aZ{rows:List Row}{k:Nat}{x:Row}(h:rows[k]?=some x):item (.list (rows.map Row.d)) (.int (k:Int))=some x.d:=by
 have hk:k < rows.length:=(Qq h).1;exact p_mk (k:=k) (by have:=a7 (n:=rows.length) (i:=(k:Int)) (by exact QB.mpr (QF k)) (by exact QZ hk);simpa using this) (by rw [Qy,h];rfl)
theorem bS{l:List Int}{k:Nat}{x:Int}(h:l[k]?=some x):item (.list (l.map .int)) (.int (k:Int))=some (.int x):=by
 have hk:k < l.length:=(Qq h).1;exact p_mk (k:=k) (by have:=a7 (n:=l.length) (i:=(k:Int)) (by exact QB.mpr (QF k)) (by exact QZ hk);simpa using this) (by rw [Qy,h];rfl)
theorem b8{rows:List Row}{k:Nat}(h:k < rows.length):(homeL rows)[k]?=some (home rows k):=by
 unfold homeL;rw [Qy,YO h];rfl
theorem aI{rows:List Row}{k:Nat}{x:Row}(h:rows[k]?=some x)(p:Row->Bool):isAt rows p k=p x:=by simp [isAt,h]
section
variable (Φ:Str->List D->Option D)(Γ:Str->Option D)(N:Nat)
theorem uC(l:List Nat)(h:l.isEmpty=false):item (.list ((stI l).map .int)) (.int (-1))=some (.int (topI l)):=by
 cases l with
 | nil=>cases h
 | cons x l=>rw [kM,List.getLast?_map,rq];rfl
theorem pA(rows:List Row)(hl:rows.length<=5000)(hn:∀ k r,rows[k]?=some r->r.isFin=true->stk rows k ≠ []) :
 runFn Φ Γ N fn_law_homes [.list (rows.map Row.d)]=some (.list ((homeL rows).map .int)):=by
 refine av [some (.list (rows.map Row.d)),none,none,none,none] rfl rfl ?_;dsimp only [fn_law_homes];refine bd (.list []) rfl rfl (bd (.list ([-1].map .int)) rfl rfl ?_);refine aN (gh (items:=cR 0 (rows.map Row.d)) (λk m=>∃ x3 x4,k<=rows.length/\m=[some (.list (rows.map Row.d)),some (.list (((List.range k).map (home rows)).map .int)),some (.list ((-1::stI (stk rows k)).map .int)),x3,x4]) (eW (rfl)) rfl ⟨none,none,QF _,rfl⟩ (λk vs m hk hI=>?_)) ?_
 ·obtain ⟨x3,x4,hkl,rfl⟩:=hI
  obtain ⟨x,hx,rfl⟩:=lU hk;refine ⟨_,_,rfl,?_⟩;simp only [sX,sN];have hfl:((List.range k).map (home rows)).length<=5000:=by simp only [lX,Qo];exact QQ hkl hl
  have hsl:(stI (stk rows k)).length<=5000:=by
   have h2:=gj rows k;simp only [stI,lX,Z8];exact QQ h2 (QQ hkl hl)
  refine bH (xs:=((List.range k).map (home rows)).map .int) (d:=.int (home rows k)) rfl ?_ rfl (by rw [lX];exact QQ hfl (by decide)) ?_
  ·simp only [x_v,gZ,bj,gX,gN,bX]
   exact (by
    unfold home;cases stk rows k with
    | nil=>rfl
    | cons y l=>rw [kM,List.getLast?_map,eB,<- ZH,List.getLast?_concat];rfl)
  have e1:((List.range k).map (home rows)).map PyData.int++[.int (home rows k)]=((List.range (k+1)).map (home rows)).map .int:=by rw [bB];simp
  rw [e1];simp only [sX,sN];refine ar (aO (Q:=λm=>m=[some (.list (rows.map Row.d)),some (.list (((List.range (k+1)).map (home rows)).map .int)),some (.list ((-1::stI (if x.isOpen then k::stk rows k else stk rows k)).map .int)),some (.int (k:Int)),some x.d]) (d:=.bool x.isOpen) ?_ (am _) (λq=>?_) (λq=>?_)) ?_
  ·exact aj (ad rfl rfl (Row.i0 x)) (aV (esC rfl (esC rfl (esC rfl (esC rfl es0))))) (kK x)
  ·refine bH (xs:=(-1::stI (stk rows k)).map .int) (d:=.int (k:Int)) rfl rfl rfl (by rw [lX,QV];exact QQ (QT hsl) (by decide)) (ah ?_)
   rw [Ql q,eB];simp
  ·exact ah (by rw [q];rfl)
  rintro _ rfl;refine ar (aO (Q:=λm=>m=[some (.list (rows.map Row.d)),some (.list (((List.range (k+1)).map (home rows)).map .int)),some (.list ((-1::stI (stk rows (k+1))).map .int)),some (.int (k:Int)),some x.d]) (d:=.bool x.isFin) ?_ (am _) (λq2=>?_) (λq2=>?_)) λm e=>ah ⟨_,_,by exact ((Qq hx).1),e⟩
  ·exact aj (ad rfl rfl (Row.i0 x)) rfl (Qf some (eU x))
  ·have q:x.isOpen=false:=by cases x<;>first | rfl | cases q2
   rw [q];refine lP (xs:=(-1::stI (stk rows k)).map .int) rfl rfl (ah ?_);have:=hn k x hx q2;rw [bf hx,stp,q,q2,<- Zu];cases q3:stk rows k with
   | nil=>exact absurd q3 this
   | cons y l=>rw [eB,<- ZH,Yu];rfl
  ·refine ah ?_
   rw [bf hx,stp,q2];cases x.isOpen<;>rfl
 ·rintro _ ⟨x3,x4,_,rfl⟩
  rw [bR,lX];exact af rfl rfl
end
end Mine
set_option tactic.hygienic false
namespace Mine
open PySem
section
variable (Φ:Str->List D->Option D)(Γ:Str->Option D)(N:Nat)
theorem gk(p:Nat->Bool)(a k:Nat):(List.range' a (k+1)).filter p=(List.range' a k).filter p++(if p (a+k) then [a+k] else []):=by
 rw [List.range'_concat,Zw];simp only [Nat.one_mul];rw [ZG,List.filter_nil]
theorem lV(p:Nat->Bool)(a k:Nat):((List.range' a k).filter p).length<=k:=QQ (Zz _ _) (by simp)
theorem pB(rows:List Row)(hl:rows.length<=5000)(j:Nat)(hj:j < rows.length) :
 runFn Φ Γ N fn_law_starts [.list (rows.map Row.d),.list ((homeL rows).map .int),.int (j:Int)]=some (.list ((startL rows j).map .int)):=by
 rw [<- pw rows j hj];refine av [some (.list (rows.map Row.d)),some (.list ((homeL rows).map .int)),some (.int (j:Int)),none,none] rfl rfl ?_;dsimp only [fn_law_starts];refine bd (.list [.int ((j:Int)+1)]) rfl rfl ?_;refine aN (bM (λk m=>∃ x4,m=[some (.list (rows.map Row.d)),some (.list ((homeL rows).map .int)),some (.int (j:Int)),some (.list ((((j:Int)+1)::((List.range' (j+1) k).filter λk=>home rows k == (j:Int)&&isAt rows Row.isOr k).map λ(k:Nat)=>(k:Int)+1).map .int)),x4]) (jG (p:=j+1) (q:=rows.length) (rfl) (aT rfl (lenL rows)) (by exact QQ hj (QQ hl (by decide))) (by exact QQ hl (by decide))) rfl ⟨none,rfl⟩ (λk vs m hk hI=>?_)) ?_
 ·obtain ⟨x4,rfl⟩:=hI
  rw [Qy] at hk;obtain ⟨i,hi,rfl⟩:=QK hk;obtain ⟨hi1,hi2⟩:=Qq hi;simp only [Yv] at hi1;simp only [List.getElem_range',Nat.one_mul] at hi2;have hlt:j+1+k < rows.length:=by exact Xd hi1
  obtain ⟨x,hx⟩:∃ x,rows[j+1+k]?=some x:=⟨rows[j+1+k],Qk hlt⟩
  subst hi2;refine ⟨_,rfl,?_⟩;simp only [sX,sN];have hfl:=lV (λk=>home rows k == (j:Int)&&isAt rows Row.isOr k) (j+1) k;refine ar (aO (Q:=λm=>m=[some (.list (rows.map Row.d)),some (.list ((homeL rows).map .int)),some (.int (j:Int)),some (.list ((((j:Int)+1)::((List.range' (j+1) (k+1)).filter λk=>home rows k == (j:Int)&&isAt rows Row.isOr k).map λ(k:Nat)=>(k:Int)+1).map .int)),some (.int ((j+1+k:Nat):Int))]) (d:=.bool (home rows (j+1+k) == (j:Int)&&x.isOr)) ?_ (am _) (λq=>?_) (λq=>?_)) λm e=>ah ⟨_,e⟩
  ·refine aF ?_ ?_
   ·exact aj (ad rfl rfl (bS (b8 hlt))) rfl (qY (home rows (j+1+k)) ↑j)
   ·exact aj (ad (ad rfl rfl (aZ hx)) rfl (Row.i0 x)) rfl (Qf some (sQ x))
  ·refine bH (d:=.int (((j+1+k:Nat):Int)+1)) rfl rfl rfl (by simp only [lX,QV];exact QQ (QT hfl) (QQ hi1 (QQ (XZ _ _) (QQ hl (by decide))))) (ah ?_)
   rw [(gk (λk=>home rows k == (j:Int)&&isAt rows Row.isOr k) (j+1) k),aI hx,Ql q];simp
  ·refine ah ?_
   rw [(gk (λk=>home rows k == (j:Int)&&isAt rows Row.isOr k) (j+1) k),aI hx,q];simp
 ·refine al1 λx4=>?_
  refine af ?_ rfl;simp only [x_v,gX,gN,bX,lX,Yv,kQ]
theorem uD(rows:List Row)(hl:rows.length<=5000)(j:Nat)(hj:j < rows.length) :
 runFn Φ Γ N fn_law_last [.list (rows.map Row.d),.list ((homeL rows).map .int),.int (j:Int)]=some (.int (endAt rows j rows.length)):=by
 refine av [some (.list (rows.map Row.d)),some (.list ((homeL rows).map .int)),some (.int (j:Int)),none] rfl rfl ?_;dsimp only [fn_law_last];refine gi (λm=>∃ x3,m=[some (.list (rows.map Row.d)),some (.list ((homeL rows).map .int)),some (.int (j:Int)),x3]) (λk=>home rows (j+1+k) == (j:Int)&&isAt rows Row.isFin (j+1+k)) (λk=>.int ((j+1+k:Nat):Int)) (jG (p:=j+1) (q:=rows.length) (rfl) (aT rfl (lenL rows)) (by exact QQ hj (QQ hl (by decide))) (by exact QQ hl (by decide))) rfl ⟨none,rfl⟩ (λk vs m hk hI=>?_) (λhno m hI=>?_) (λk hk hp o_=>?_)
 ·obtain ⟨x3,rfl⟩:=hI
  rw [Qy] at hk;obtain ⟨i,hi,rfl⟩:=QK hk;obtain ⟨hi1,hi2⟩:=Qq hi;simp only [Yv] at hi1;simp only [List.getElem_range',Nat.one_mul] at hi2;have hlt:j+1+k < rows.length:=by exact Xd hi1
  obtain ⟨x,hx⟩:∃ x,rows[j+1+k]?=some x:=⟨rows[j+1+k],Qk hlt⟩
  subst hi2;have hc:evE Φ Γ (.bool true (.cons (.cmp .Eq (.idx (.v 1) (.v 3)) (.v 2)) (.cons (.cmp .Eq (.idx (.idx (.v 0) (.v 3)) (.k (.int 0))) (.k (.str "end"))) .nil))) [some (.list (rows.map Row.d)),some (.list ((homeL rows).map .int)),some (.int (j:Int)),some (.int ((j+1+k:Nat):Int))]=some (.bool (home rows (j+1+k) == (j:Int)&&x.isFin)):=by
   refine aF ?_ ?_
   ·exact aj (ad rfl rfl (bS (b8 hlt))) rfl (qY (home rows (j+1+k)) ↑j)
   ·exact aj (ad (ad rfl rfl (aZ hx)) rfl (Row.i0 x)) rfl (Qf some (eU x))
  rw [aI hx];refine ⟨_,rfl,λq=>?_,λq=>?_⟩
  ·exact ao hc (Qf _ q) (af rfl rfl)
  ·exact ar (aO (Q:=λm=>m=_) hc (am _) (λq'=>by rw [q] at q';cases q') (λo_=>ah rfl)) λm e=>ah ⟨_,e⟩
 ·obtain ⟨x3,rfl⟩:=hI
  refine af ?_ rfl;rw [lS]
  ·rfl
  ·intro k hk ⟨q1,q2⟩
   have:=b7 q2;have:=hno (k - (j+1)) (by simp only [lX,Yv];exact Nat.sub_lt_sub_right this hk);rw [show j+1+(k - (j+1))=k by grind,q1,q2] at this;simp at this
 ·simp only [Qj,Q5] at hp
  simp only [lX,Yv] at hk;rw [fD hp.2 hp.1 rows.length (by exact Xd hk)]
end
end Mine
set_option tactic.hygienic false
namespace Mine
open PySem
theorem iD{f:Nat->Int}{n p:Nat}{x:Int}:(((List.range n).map f).map PyData.int).set p (.int x)=((List.range n).map λj=>if j=p then x else f j).map .int:=by
 apply List.ext_getElem?;intro i;rw [List.getElem?_set];simp only [Qy,lX,Qo]
 by_cases hi:p=i
 ·subst hi
  by_cases hp:p < n
  ·simp [hp]
  ·simp [hp]
 ·have:i ≠ p:=λh=>hi h.symm
  by_cases hp:i < n
  ·simp [hi,hp,this]
  ·simp [hi,hp]
section
variable (Φ:Str->List D->Option D)(Γ:Str->Option D)(N:Nat)
theorem ru(hΓ:Γ "OPENERS" = some opT)(rows:List Row)(hl:rows.length<=5000)(hn:∀ k r,rows[k]?=some r->r.isFin=true->stk rows k ≠ []) :
 runFn Φ Γ N fnhomes [.list (rows.map Row.d)]=some (.list ((homeL rows).map .int)):=by
 refine av [some (.list (rows.map Row.d)),none,none,none,none] rfl rfl ?_;dsimp only [fnhomes];refine bd (.list []) rfl rfl (bd (.list []) rfl rfl ?_);refine aN (gh (items:=cR 0 (rows.map Row.d)) (λk m=>∃ x3 x4,k<=rows.length/\m=[some (.list (rows.map Row.d)),some (.list ((stI (stk rows k)).map .int)),some (.list (((List.range k).map (home rows)).map .int)),x3,x4]) (eW (rfl)) rfl ⟨none,none,QF _,rfl⟩ (λk vs m hk hI=>?_)) ?_
 ·obtain ⟨x3,x4,hkl,rfl⟩:=hI
  obtain ⟨x,hx,rfl⟩:=lU hk;refine ⟨_,_,rfl,?_⟩;simp only [sX,sN];have hfl:((List.range k).map (home rows)).length<=5000:=by simp only [lX,Qo];exact QQ hkl hl
  have hsl:(stI (stk rows k)).length<=5000:=by
   have h2:=gj rows k;simp only [stI,lX,Z8];exact QQ h2 (QQ hkl hl)
  refine ar (aO (Q:=λm=>m=[some (.list (rows.map Row.d)),some (.list ((stI (stk rows k)).map .int)),some (.list (((List.range (k+1)).map (home rows)).map .int)),some (.int (k:Int)),some x.d]) (d:=.bool (stk rows k).isEmpty) ?_ (am _) (λq=>?_) (λq=>?_)) ?_
  ·simp only [x_v,hY,dN,aH,gX,gN,bX,mX,v_eq,rp,jI]
  ·refine bH (xs:=((List.range k).map (home rows)).map .int) (d:=.int (-1)) rfl rfl rfl (by rw [lX];exact QQ hfl (by decide)) (ah ?_)
   rw [bB];have:home rows k = -1:=by unfold home;rw [Q1.mp q];rfl
   simp [this]
  ·refine bH (xs:=((List.range k).map (home rows)).map .int) (d:=.int (home rows k)) rfl ?_ rfl (by rw [lX];exact QQ hfl (by decide)) (ah ?_)
   ·simp only [x_v,gZ,bj,gX,gN,bX]
    exact uC _ q
   ·rw [bB];simp
  rintro _ rfl;refine ar (aO (Q:=λm=>m=[some (.list (rows.map Row.d)),some (.list ((stI (stk rows (k+1))).map .int)),some (.list (((List.range (k+1)).map (home rows)).map .int)),some (.int (k:Int)),some x.d]) (d:=.bool x.isOpen) ?_ (am _) (λq=>?_) (λq=>?_)) λm e=>ah ⟨_,_,by exact ((Qq hx).1),e⟩
  ·exact aj (ad rfl rfl (Row.i0 x)) hΓ (lN x)
  ·refine bH (xs:=(stI (stk rows k)).map .int) (d:=.int (k:Int)) rfl rfl rfl (by rw [lX];exact QQ hsl (by decide)) (ah ?_)
   rw [bf hx,stp,Ql q,eB];simp
  ·refine ar (aO (Q:=λm=>m=[some (.list (rows.map Row.d)),some (.list ((stI (stk rows (k+1))).map .int)),some (.list (((List.range (k+1)).map (home rows)).map .int)),some (.int (k:Int)),some x.d]) (d:=.bool x.isFin) ?_ (am _) (λq2=>?_) (λq2=>?_)) λm e=>ah e
   ·exact aj (ad rfl rfl (Row.i0 x)) rfl (Qf some (eU x))
   ·refine lP (xs:=(stI (stk rows k)).map .int) rfl ?_ (ah ?_)
    ·have:=hn k x hx q2
     rw [List.isEmpty_map,jI];cases q3:stk rows k with
     | nil=>exact absurd q3 this
     | cons=>rfl
    ·rw [bf hx,stp,q,q2,<- Zu,rt];rfl
   ·refine ah ?_
    rw [bf hx,stp,q,q2];rfl
 ·rintro _ ⟨x3,x4,_,rfl⟩
  rw [bR,lX];refine af rfl ?_;exact o8 rfl (bI _)
theorem uE(rows:List Row)(hl:rows.length<=5000)(hn:∀ k r,rows[k]?=some r->r.isFin=true->stk rows k ≠ [])(hh:Φ "homes" [.list (rows.map Row.d)]=some (.list ((homeL rows).map .int))) :
 runFn Φ Γ N fnends [.list (rows.map Row.d)]=some (.list ((endL rows).map .int)):=by
 refine av [some (.list (rows.map Row.d)),none,none,none,none] rfl rfl ?_;dsimp only [fnends];refine al (.list ((homeL rows).map .int)) (ai (esC rfl es0) hh) rfl ?_;have hrep:repL [PyData.int (-1)] rows.length=((List.range rows.length).map λj=>endAt rows j 0).map .int:=by
  have:∀ n,repL [PyData.int (-1)] n=((List.range n).map λj=>endAt rows j 0).map .int:=by
   intro n;induction n with
   | zero=>rfl
   | succ n ih=>
    have hc:∀ n,repL [PyData.int (-1)] (n+1)=repL [PyData.int (-1)] n++[.int (-1)]:=by
     intro n;induction n with
     | zero=>rfl
     | succ n ih=>rw [gH,ih,<- Y4,show [PyData.int (-1)]++repL [PyData.int (-1)] n=repL [PyData.int (-1)] (n+1) from rfl,ih]
    rw [hc,ih,bB,Qb];rfl
  exact this _
 refine bd (.list (((List.range rows.length).map λj=>endAt rows j 0).map .int)) ?_ (pz _) ?_
 ·simp only [x_v,hY,bh,gZ,x_b1,aH,ax,cZ,sX,sN,gN,bX,mX,lX]
  rw [wA _ _ ⟨by decide,by exact QB.mpr (QQ hl (by decide)),by exact Zq (rows.length+10000)⟩,QN,hrep]
 refine aN (gh (items:=cR 0 (rows.map Row.d)) (λk m=>∃ x3 x4,k<=rows.length/\m=[some (.list (rows.map Row.d)),some (.list ((homeL rows).map .int)),some (.list (((List.range rows.length).map λj=>endAt rows j k).map .int)),x3,x4]) (eW (rfl)) rfl ⟨none,none,QF _,rfl⟩ (λk vs m hk hI=>?_)) ?_
 ·obtain ⟨x3,x4,hkl,rfl⟩:=hI
  obtain ⟨x,hx,rfl⟩:=lU hk;refine ⟨_,_,rfl,?_⟩;simp only [sX,sN];refine ar (aO (Q:=λm=>m=[some (.list (rows.map Row.d)),some (.list ((homeL rows).map .int)),some (.list (((List.range rows.length).map λj=>endAt rows j (k+1)).map .int)),some (.int (k:Int)),some x.d]) (d:=.bool x.isFin) ?_ (am _) (λq=>?_) (λq=>?_)) λm e=>ah ⟨_,_,by exact ((Qq hx).1),e⟩
  ·exact aj (ad rfl rfl (Row.i0 x)) rfl (Qf some (eU x))
  ·obtain ⟨j,hj,hjk⟩:∃ j:Nat,home rows k=j/\j < k:=by
    rcases pr rows k with h | h
    ·have:=hn k x hx q
     unfold home at h;cases q3:stk rows k with
     | nil=>exact absurd q3 this
     | cons y l=>rw [q3] at h;simp only [g6] at h;exact (nomatch (h:Int.ofNat y=Int.negSucc 0))
    ·exact h
   refine uy (xs:=((List.range rows.length).map λj=>endAt rows j k).map .int) (n:=(j:Int)) (d:=.int (k:Int)) rfl rfl ?_ rfl ⟨by exact QB.mpr (QF j),by simp only [lX,Qo];exact QZ (Qe hjk hkl)⟩ (ah ?_)
   ·simp only [x_v,bj,gX,gN,bX]
    rw [<- hj];exact bS (b8 ((Qq hx).1))
   ·have hfun:(λi=>if i=j then (k:Int) else endAt rows i k)=λi=>endAt rows i (k+1):=by
     funext i
     simp only [iC,aI hx,q,hj,true_and,Xb]
     by_cases hij:i=j
     ·subst hij;rfl
     ·rw [Qu hij,Qu (λh=>hij h.symm)]
    rw [QN,iD,hfun];rfl
  ·have hfun:(λi=>endAt rows i k)=λi=>endAt rows i (k+1):=by
    funext i
    simp only [iC,aI hx,q,QD,false_and,if_false]
   exact hfun ▸ (ah rfl)
 ·rintro _ ⟨x3,x4,_,rfl⟩
  rw [bR,lX];refine af rfl ?_;exact o8 rfl (bI _)
theorem iE(rows:List Row)(hl:rows.length<=5000)(j:Nat) :
 runFn Φ Γ N fnfirst_rows [.list (rows.map Row.d),.list ((homeL rows).map .int),.int (j:Int)]=some (.list ((startL rows j).map .int)):=by
 refine av [some (.list (rows.map Row.d)),some (.list ((homeL rows).map .int)),some (.int (j:Int)),none,none] rfl rfl ?_;dsimp only [fnfirst_rows];refine bd (.list [.int ((j:Int)+1)]) rfl rfl ?_;refine aN (bM (λk m=>∃ x4,k<=rows.length/\m=[some (.list (rows.map Row.d)),some (.list ((homeL rows).map .int)),some (.int (j:Int)),some (.list ((((j:Int)+1)::((List.range' 0 k).filter λk=>isAt rows Row.isOr k&&home rows k == (j:Int)).map λ(k:Nat)=>(k:Int)+1).map .int)),x4]) (bA (n:=(rows.length:Int)) (aT rfl (lenL rows)) (by exact (QQ hl (by decide):rows.length<=2 ^ 20))) rfl ⟨none,QF _,rfl⟩ (λk vs m hk hI=>?_)) ?_
 ·obtain ⟨x4,hkl,rfl⟩:=hI
  rw [Qy] at hk;obtain ⟨i,hi,rfl⟩:=QK hk;obtain ⟨hi1,hi2⟩:=Qq hi;simp only [Qo,QN] at hi1;simp only [ZN] at hi2;subst hi2;obtain ⟨x,hx⟩:∃ x,rows[k]?=some x:=⟨rows[k],Qk hi1⟩
  refine ⟨_,rfl,?_⟩;simp only [sX,sN];have hfl:=lV (λk=>isAt rows Row.isOr k&&home rows k == (j:Int)) 0 k;have hsn:=gk (λk=>isAt rows Row.isOr k&&home rows k == (j:Int)) 0 k;rw [Zc] at hsn;refine ar (aO (Q:=λm=>m=[some (.list (rows.map Row.d)),some (.list ((homeL rows).map .int)),some (.int (j:Int)),some (.list ((((j:Int)+1)::((List.range' 0 (k+1)).filter λk=>isAt rows Row.isOr k&&home rows k == (j:Int)).map λ(k:Nat)=>(k:Int)+1).map .int)),some (.int (k:Int))]) (d:=.bool (x.isOr&&home rows k == (j:Int))) ?_ (am _) (λq=>?_) (λq=>?_)) λm e=>ah ⟨_,by exact hi1,e⟩
  ·refine aF ?_ ?_
   ·exact aj (ad (ad rfl rfl (aZ hx)) rfl (Row.i0 x)) rfl (Qf some (sQ x))
   ·exact aj (ad rfl rfl (bS (b8 hi1))) rfl (qY (home rows k) ↑j)
  ·refine bH (d:=.int ((k:Int)+1)) rfl rfl rfl (by simp only [lX,QV];exact QQ (QT hfl) (QQ hi1 (QQ hl (by decide)))) (ah ?_)
   rw [hsn,aI hx,Ql q];simp
  ·refine ah ?_
   rw [hsn,aI hx,q];simp
 ·rintro _ ⟨x4,_,rfl⟩
  refine af ?_ rfl;simp only [x_v,gX,gN,bX,lX,Yv,QN,startL,Yt]
end
end Mine
set_option tactic.hygienic false
namespace Mine
open PySem
noncomputable def push(r:Row)(os:List Row):List Row:=if r.isOpen then r::os else if r.isFin then os.tail else os
noncomputable def d3(os:List Row)(w:Str):Prop:=w ≠ Str.ofString "" /\ ∀ x ∈ os,x.isNamed=true->x.word ≠ w
noncomputable def V(os:List Row):Row->Prop
 | .lend w wr s=>d3 os w/\(match s with
  | .th _=>True
  | .hd u=>∃ x ∈ os,x.isNamed=true/\x.word=u/\(x.isLend=true->x.wr=false->wr=false))
 | .pick w ts=>d3 os w/\ts ≠ []/\ts.length<=5
 | .either=>True
 | .again=>True
 | .orr=>os.head?.any Row.isEither=true
 | .fin=>os ≠ []
 | .deed v w=>∃ x ∈ os,x.isLend=true/\x.word=w/\(v = .change->x.wr=true)
theorem V_7(os:List Row):V os Row.fin=(os ≠ []):=rfl
noncomputable def WfR:List Row->List Row->Prop
 | _,[]=>True
 | os,r::rs=>V os r/\WfR (push r os) rs
noncomputable def after:List Row->List Row->List Row
 | os,[]=>os
 | os,r::rs=>after (push r os) rs
theorem br:∀ (os a b:List Row),after os (a++b)=after (after os a) b
 | _,[],_=>rfl
 | os,r::a,b=>br (push r os) a b
theorem eC:∀ (os a b:List Row),WfR os a->WfR (after os a) b->WfR os (a++b)
 | _,[],_,_,h=>h
 | os,r::a,b,h,k=>⟨h.1,eC (push r os) a b h.2 k⟩
noncomputable def eD(r:Dr)(w:Str)(p:Nat):Prop:=∃ a b:Int,w=wordOf a b p r
theorem pC{a b:List Nat}(h:sOf a=sOf b):a=b:=by
 unfold sOf at h;have:=Qf (λx:Str=>x.cps.toList) h
 simpa using this
theorem uF{a b:Int}(h1:0<=a)(h2:0<=b)(h:ltr a=ltr b):a=b:=by unfold ltr at h;exact (Zp h1).symm.trans ((Qf Int.ofNat (YL h)).trans (Zp h2))
theorem iF{r:Dr}(ok:r.Ok){w:Str}{p q:Nat}(hp:eD r w p)(hq:eD r w q)(p26:p < 26)(q26:q < 26):p=q:=by
 obtain ⟨a,b,rfl⟩:=hp;obtain ⟨a',b',h⟩:=hq;have h:=pC h;unfold jD at h;split at h
 ·have:=Qf List.length h
  simp only [YZ] at this;exact Nat.succ.inj (this:p+1=q+1)
 ·have c1:=ok.c1
  have c2:=ok.c2;have t1:=ok.t1;have t2:=ok.t2;have hc:=Qf (λl=>l[r.c.toNat]?) h;simp only [Qy] at hc;rw [YO (by exact (Int.toNat_lt_toNat (QH c1 c2)).mpr c2)] at hc;simp only [mX,Qc] at hc;rw [Ql (by exact Zp c1),Ql (by exact Zp c1)] at hc;have:=uF (au _ (by decide)) (au _ (by decide)) hc;rw [ZO _ (by decide),ZO _ (by decide)] at this;lia
theorem wE{r:Dr}(ok:r.Ok){w:Str}{p:Nat}(hp:eD r w p):w ≠ Str.ofString "" := by
 obtain ⟨a,b,rfl⟩:=hp;intro h;have h:jD a b p r=[]:=pC h;unfold jD at h;split at h
 ·have:=Qf List.length h
  simp only [YZ,QP] at this;exact Nat.succ_ne_zero p this
 ·have:=Qf List.length h
  simp only [lX,Qo,QP] at this;exact Yr.mpr (Zf (by decide) ok.z1) (Y5.mp this)
theorem jJ(one two:Int)(named:List Row)(r:Dr):(bJ one two named r).word=wordOf one two named.length r:=by
 unfold bJ;split
 ·split<;>rfl
 ·rfl
noncomputable def Nums(r:Dr)(opened:List Row):Prop:=∀ i x,(opened.filter Row.isNamed)[i]?=some x->eD r x.word i
theorem eE{r:Dr}(ok:r.Ok){opened:List Row}(hn:Nums r opened)(hl:(opened.filter Row.isNamed).length<=23){w:Str}{p:Nat}(hp:eD r w p)(h1:(opened.filter Row.isNamed).length<=p)(h2:p < 26):d3 opened.reverse w:=by
 refine ⟨wE ok hp,λx hx hxn e=>?_⟩;obtain ⟨i,hi⟩:=Z4 (Q9.mpr ⟨ZE.mp hx,hxn⟩);have hil:i < (opened.filter Row.isNamed).length:=(Qq hi).1;have:=iF ok (hn i x hi) (e ▸ hp) (by exact Qe hil (QQ hl (by decide))) h2;exact Yd _ (this ▸ Qe hil h1)
set_option tactic.hygienic true in
theorem lW{r:Dr}(ok:r.Ok)(one two:Int)(opened:List Row)(hn:Nums r opened)(hl:(opened.filter Row.isNamed).length<=23):V opened.reverse (bJ one two (opened.filter Row.isNamed) r):=by
 have hf:d3 opened.reverse (wordOf one two (opened.filter Row.isNamed).length r):=eE ok hn hl ⟨one,two,rfl⟩ (QO _) (by exact Qh hl (by decide));unfold bJ;split
 ·split
  ·rename_i h hh
   have hm:=Qa hh;rw [Q9] at hm;refine ⟨hf,h,ZE.mpr hm.1,hm.2,rfl,λq1 q2=>?_⟩;rw [q1,q2];rfl
  ·exact ⟨hf,trivial⟩
 ·exact ⟨hf,trivial⟩
set_option tactic.hygienic true in
theorem uG{r:Dr}(ok:r.Ok)(way one two:Int)(opened:List Row)(hn:Nums r opened)(hl:(opened.filter Row.isNamed).length<=23):V opened.reverse (rowOf way one two opened r):=by
 unfold rowOf;split
 ·exact lW ok one two opened hn hl
 split
 ·have f1:=au one (b:=5) (by decide)
  have f2:=aC one (b:=5) (by decide);refine ⟨eE ok hn hl ⟨one,two,rfl⟩ (QO _) (by exact Qh hl (by decide)),λh=>?_,?_⟩
  ·have:=Qf List.length h
   simp only [lX,Qo,QP] at this;exact Yr.mpr (Zf (by decide:(0:Int) < 1) (QR f1)) (Y5.mp this)
  ·simp only [lX,Qo];exact Zo.mpr (Qt (ZD (Yb 1 _)) f2)
 split
 ·split<;>trivial
 split
 ·rename_i h
  show opened.reverse.head?.any Row.isEither=true;rw [List.head?_reverse];exact h.2
 split
 ·rename_i h
  unfold dK;obtain ⟨x,e1,e2,_⟩:=kL (l:=(opened.filter Row.isNamed).filter Row.isLend) two h.2;rw [e1];rw [Q9,Q9] at e2;refine ⟨x,ZE.mpr e2.1.1,e2.2,rfl,λq=>?_⟩;revert q;unfold fv;cases x.wr<;>(repeat' split)<;>simp_all
 split
 ·rename_i h
  show opened.reverse ≠ [];intro q;rw [List.reverse_eq_nil_iff] at q;rw [q] at h;simp at h
 ·exact lW ok one two opened hn hl
theorem pD{r:Dr}(way one two:Int)(opened:List Row)(h:(rowOf way one two opened r).isNamed=true):eD r (rowOf way one two opened r).word (opened.filter Row.isNamed).length:=by
 revert h;unfold rowOf;split
 ·intro _;rw [jJ];exact ⟨_,_,rfl⟩
 split
 ·intro _;exact ⟨_,_,rfl⟩
 split
 ·split<;>(intro h;cases h)
 split
 ·intro h;cases h
 split
 ·unfold dK;split<;>(intro h;cases h)
 split
 ·intro h;cases h
 ·intro _;rw [jJ];exact ⟨_,_,rfl⟩
theorem az{os:List Row}{x:Row}{w:Str}(h:d3 os w)(hx:x.word ≠ w):d3 (x::os) w:=⟨h.1,λy hy hn=>(Qw hy).elim (λe=>e ▸ hx) λz=>h.2 y z hn⟩
theorem bN{os:List Row}{w:Str}{q:Bool}{i:Int}(h:d3 os w):V os (.lend w q (.th i)):=⟨h,trivial⟩
theorem d4{os:List Row}{w u:Str}{q:Bool}(h:d3 os w)(x:Row)(hx:x ∈ os)(hn:x.isNamed=true)(hu:x.word=u)(hr:x.isLend=true->x.wr=false->q=false):V os (.lend w q (.hd u)):=⟨h,x,hx,hn,hu,hr⟩
theorem bm{os:List Row}{v:Verb}{w:Str}(x:Row)(hx:x ∈ os)(hl:x.isLend=true)(hu:x.word=w)(hv:v ≠ .change):V os (.deed v w):=⟨x,hx,hl,hu,λe=>absurd e hv⟩
theorem bK{o:Row}{os:List Row}:V (o::os) .fin:=YY _ _
theorem wF{os:List Row}{a b c:Str}(one two th:Int)(fa:d3 os a)(fb:d3 os b)(fc:d3 os c)(ab:a ≠ b)(ac:a ≠ c)(bc:b ≠ c):WfR os (gad one two a b c th)/\after os (gad one two a b c th)=os:=by
 have m0:∀ (x:Row) (l:List Row),x ∈ x::l:=λx l=>.head l;have m1:∀ (x y:Row) (l:List Row),x ∈ y::x::l:=λx y l=>.tail y (.head l);have m2:∀ (x y z:Row) (l:List Row),x ∈ y::z::x::l:=λx y z l=>.tail y (.tail z (.head l));have nl:Verb.look ≠ .change:=λh=>nomatch h;have nb:Verb.back ≠ .change:=λh=>nomatch h;unfold gad cG;split
 ·split
  ·exact ⟨⟨bN fa,trivial,bm _ (m1 _ _ _) rfl rfl nl,bm _ (m1 _ _ _) rfl rfl nb,bK,bK,trivial⟩,rfl⟩
  split
  ·exact ⟨⟨bN fa,trivial,bm _ (m1 _ _ _) rfl rfl nb,rfl,bm _ (m1 _ _ _) rfl rfl nl,bK,bm _ (m0 _ _) rfl rfl nl,bK,trivial⟩,rfl⟩
  split
  ·have d1:∀ q:Bool,V [.lend c q (.hd b),.lend b true (.hd a),.lend a true (.th th)] (.deed .back (three two a b a))->V ([.lend c q (.hd b),.lend b true (.hd a),.lend a true (.th th)]++os) (.deed .back (three two a b a)):=λq h=>by
    obtain ⟨x,hx,r⟩:=h;exact ⟨x,Q6 _ hx,r⟩
   have d2:∀ q:Bool,V [.lend c q (.hd b),.lend b true (.hd a),.lend a true (.th th)] (.deed .look (three one c c b))->V ([.lend c q (.hd b),.lend b true (.hd a),.lend a true (.th th)]++os) (.deed .look (three one c c b)):=λq h=>by
    obtain ⟨x,hx,r⟩:=h;exact ⟨x,Q6 _ hx,r⟩
   refine ⟨⟨bN fa,d4 (az fb ab) _ (m0 _ _) rfl rfl (λo_ h=>nomatch h),d4 (az (az fc ac) bc) _ (m0 _ _) rfl rfl (λo_ h=>nomatch h),d1 _ ?_,d2 _ ?_,bK,bK,bK,trivial⟩,rfl⟩
   ·unfold three
    split
    ·exact bm _ (m2 _ _ _ _) rfl rfl nb
    split
    ·exact bm _ (m1 _ _ _) rfl rfl nb
    ·exact bm _ (m2 _ _ _ _) rfl rfl nb
   ·unfold three
    split
    ·exact bm _ (m0 _ _) rfl rfl nl
    split
    ·exact bm _ (m0 _ _) rfl rfl nl
    ·exact bm _ (m1 _ _ _) rfl rfl nl
  ·exact ⟨⟨bN fa,d4 (az fb ab) _ (m0 _ _) rfl rfl (λo_ h=>nomatch h),bN (az (az fc ac) bc),trivial,bm _ (m2 _ _ _ _) rfl rfl nb,bK,bK,bK,bK,trivial⟩,rfl⟩
 split
 ·exact ⟨⟨⟨fc,YY _ _,QO 5⟩,bN (az fa ac.symm),d4 (az (az fb bc.symm) ab) _ (m1 _ _ _) rfl rfl (λh=>nomatch h),bK,bK,bK,trivial⟩,rfl⟩
 split
 ·refine ⟨⟨bN fa,d4 (az fb ab) _ (m0 _ _) rfl rfl (λo_ h=>nomatch h),trivial,?_,rfl,bm _ (m1 _ _ _) rfl rfl nl,bK,bm _ (m1 _ _ _) rfl rfl nl,bK,bK,trivial⟩,rfl⟩
  cases kd two with
  | true=>exact bm _ (m1 _ _ _) rfl rfl nb
  | false=>exact bm _ (m2 _ _ _ _) rfl rfl nb
 split
 ·exact ⟨⟨bN fa,bN (az fb ab),bN (az (az fc ac) bc),bm _ (m1 _ _ _) rfl rfl nl,bK,bK,bK,trivial⟩,rfl⟩
 split
 ·exact ⟨⟨bN fa,bm _ (m0 _ _) rfl rfl nb,d4 (az fb ab) _ (m0 _ _) rfl rfl (λo_ h=>nomatch h),bm _ (m0 _ _) rfl rfl nl,bK,bK,trivial⟩,rfl⟩
 ·exact ⟨⟨⟨fc,YY _ _,QI 2 3⟩,bN (az fa ac.symm),trivial,bm _ (m1 _ _ _) rfl rfl nb,rfl,bK,d4 (az (az fb bc.symm) ab) _ (m1 _ _ _) rfl rfl (λh=>nomatch h),bm _ (m1 _ _ _) rfl rfl nl,bK,bK,bK,trivial⟩,rfl⟩
end Mine
set_option tactic.hygienic false
namespace Mine
open PySem
set_option tactic.hygienic true in
theorem cx{r:Dr}(ok:r.Ok)(odd:Bool)(most:Int)(c:Nat->Int):∀ k,k<=23->WfR [] (sheetAt odd most r c k).1/\after [] (sheetAt odd most r c k).1=(sheetAt odd most r c k).2.reverse/\Nums r (sheetAt odd most r c k).2
 | 0,_=>⟨trivial,rfl,λi x h=>by simp [pe] at h⟩
 | k+1,hk=>by
  have h1:=(cx ok odd most c k (by exact Qm hk)).1;have h2:=(cx ok odd most c k (by exact Qm hk)).2.1;have h3:=(cx ok odd most c k (by exact Qm hk)).2.2;have hlen:=(bZ odd most r c k).2;have hnl:((sheetAt odd most r c k).2.filter Row.isNamed).length<=23:=QQ (Zz _ _) (by exact QQ hlen (QQ (Zs k) hk));simp only [eu,sheetStep];split
  ·rename_i hq
   have hd:=hq.2.2;have na:eD r (wordOf (c (3 * k+1)) (c (3 * k+2)) ((sheetAt odd most r c k).2.filter Row.isNamed).length r) ((sheetAt odd most r c k).2.filter Row.isNamed).length:=⟨_,_,rfl⟩
   have nb:eD r (wordOf (c (3 * k+2)) (c (3 * k+1)) (((sheetAt odd most r c k).2.filter Row.isNamed).length+1) r) (((sheetAt odd most r c k).2.filter Row.isNamed).length+1):=⟨_,_,rfl⟩
   have nc:eD r (wordOf (c (3 * k+1)) (c (3 * k+1)) (((sheetAt odd most r c k).2.filter Row.isNamed).length+2) r) (((sheetAt odd most r c k).2.filter Row.isNamed).length+2):=⟨_,_,rfl⟩
   have g:=wF (c (3 * k+1)) (c (3 * k+2)) (thingOf (c (3 * k+2)) r.b) (eE ok h3 hnl na (by exact Q7 (QA (List.filter Row.isNamed (sheetAt odd most r c k).snd).length)) (by exact Za hd (by decide))) (eE ok h3 hnl nb (by exact Qm (QA (List.filter Row.isNamed (sheetAt odd most r c k).snd).length)) (by exact Qe (QU hd) (by decide))) (eE ok h3 hnl nc (by exact Qm (Zs (List.filter Row.isNamed (sheetAt odd most r c k).snd).length.succ)) (by exact Qe (QU (QU hd)) (by decide)))
    (λe=>by have:=iF ok na (e ▸ nb) (by exact Za hd (by decide)) (by exact Qe (QU hd) (by decide));exact absurd this (QM (QA _))) (λe=>by have:=iF ok na (e ▸ nc) (by exact Za hd (by decide)) (by exact Qe (QU (QU hd)) (by decide));exact absurd this (QM (Yl (QA _)))) (λe=>by have:=iF ok nb (e ▸ nc) (by exact Qe (QU hd) (by decide)) (by exact Qe (QU (QU hd)) (by decide));exact absurd this (QM (QA _)))
   refine ⟨eC _ _ _ h1 (by rw [h2];exact g.1),?_,h3⟩;rw [br,h2];exact g.2
  ·have hv:=uG ok ((c (3 * k)).fmod most) (c (3 * k+1)) (c (3 * k+2)) (sheetAt odd most r c k).2 h3 hnl
   have hnum:=pD (r:=r) ((c (3 * k)).fmod most) (c (3 * k+1)) (c (3 * k+2)) (sheetAt odd most r c k).2;generalize rowOf ((c (3 * k)).fmod most) (c (3 * k+1)) (c (3 * k+2)) (sheetAt odd most r c k).2 r=x at hv hnum ⊢;generalize (sheetAt odd most r c k).2=opened at h2 h3 hv hnum ⊢;refine ⟨eC _ _ _ h1 (by rw [h2];exact ⟨hv,trivial⟩),?_,?_⟩
   ·rw [br,h2]
    show push x opened.reverse=_;unfold push;split
    ·simp
    ·split
     ·rw [List.tail_reverse]
     ·rfl
   ·split
    ·intro i y hy
     rw [Zw] at hy
     by_cases hi:i < (opened.filter Row.isNamed).length
     ·rw [Zx hi] at hy
      exact h3 i y hy
     ·rw [ZW (by exact YV hi)] at hy
      cases hx:x.isNamed with
      | false=>rw [ZG,hx] at hy;simp at hy
      | true=>
       rw [ZG,hx] at hy;simp only [if_true,List.filter_nil] at hy;have:i - (opened.filter Row.isNamed).length=0:=by
        rcases Nat.eq_zero_or_pos (i - (opened.filter Row.isNamed).length) with q | q
        ·exact q
        ·rw [ZS (by simp;(exact q))] at hy;cases hy
       rw [this] at hy;simp only [gN,Qc] at hy;subst hy;exact (show i=(opened.filter Row.isNamed).length by grind) ▸ (hnum hx)
    ·split
     ·intro i y hy
      refine h3 i y ?_;cases hl:opened.getLast? with
      | none=>
       rw [List.getLast?_eq_none_iff] at hl;rw [hl] at hy;simp at hy
      | some z=>
       have ho:opened.dropLast++[z]=opened:=by
        have:=List.getLast?_eq_some_iff.mp hl;obtain ⟨ys,rfl⟩:=this;simp
       rw [<- ho,Zw];exact (Zx ((Qq hy).1)).trans hy
     ·exact h3
theorem kR:∀ (l os:List Row),os.length=l.length->WfR os (l.map λo_=>Row.fin)/\after os (l.map λo_=>Row.fin)=[]:=by
 intro l;induction l with
 | nil=>
  intro os h;exact ⟨trivial,by show os=[];simpa using h⟩
 | cons _ l kR=>
  intro os h;cases os with
  | nil=>simp at h
  | cons o os=>
   obtain ⟨h1,h2⟩:=kR os (by simpa using h);exact ⟨⟨(by simp [V_7]),h1⟩,h2⟩
theorem uH(ns:List Int)(most:Int)(h0:0 < most)(h24:most<=24):WfR [] (onceOf ns most)/\after [] (onceOf ns most)=[]:=by
 have hm:=kO ns most h0;have h2:=(cx (g5 ns) (decide (3 < (cellAt ns 2).fmod 8)) (ew ((cellAt ns 2).fmod 8)) (λi=>cellAt ns (3+i)) (manyOf ns most) (by exact Q7 (Qe hm (Zo.mpr h24)))).2.1;unfold onceOf cI;obtain ⟨h3,h4⟩:=kR (sheetAt (decide (3 < (cellAt ns 2).fmod 8)) (ew ((cellAt ns 2).fmod 8)) (a8 ns) (λi=>cellAt ns (3+i)) (manyOf ns most)).2 (sheetAt (decide (3 < (cellAt ns 2).fmod 8)) (ew ((cellAt ns 2).fmod 8)) (a8 ns) (λi=>cellAt ns (3+i)) (manyOf ns most)).2.reverse (by simp);exact ⟨eC _ _ _ ((cx (g5 ns) (decide (3 < (cellAt ns 2).fmod 8)) (ew ((cellAt ns 2).fmod 8)) (λi=>cellAt ns (3+i)) (manyOf ns most) (by exact Q7 (Qe hm (Zo.mpr h24)))).1) (by rw [h2];exact h3),by rw [br,h2];exact h4⟩
theorem rA(ns:List Int)(most:Int)(h0:0 < most)(h24:most<=24):WfR [] (drawnOf ns most):=by
 obtain ⟨h1,h2⟩:=uH ns most h0 h24;unfold drawnOf;split
 ·exact eC _ _ _ (eC _ _ _ (eC _ _ _ h1 (by rw [h2];exact h1)) (by rw [br,h2,h2];exact h1)) (by rw [br,br,h2,h2,h2];exact h1)
 ·exact h1
noncomputable def ost(rows:List Row)(k:Nat):List Row:=(stk rows k).map λj=>rows.getD j .fin
theorem jK(rows:List Row):∀ k,k<=rows.length->ost rows k=after [] (rows.take k)
 | 0,_=>rfl
 | k+1,h=>by
  have ht:rows.take (k+1)=rows.take k++[rows[k]]:=by rw [Z1,(Qk (by exact h))];rfl
  rw [ht,br,<- (jK rows k (by exact Qm h))];show ost rows (k+1)=push rows[k] (ost rows k);unfold ost push;rw [bf (Qk (by exact h)),stp];split
  ·simp [List.getD,(Qk (by exact h))]
  ·split
   ·rw [List.map_tail]
   ·rfl
theorem wG:∀ (rows os:List Row),WfR os rows->∀ k r,rows[k]?=some r->V (after os (rows.take k)) r
 | [],_,_,k,r,h=>by simp at h
 | x::rows,os,w,0,r,h=>by simp at h;subst h;exact w.1
 | x::rows,os,w,k+1,r,h=>wG rows (push x os) w.2 k r (by simpa using h)
theorem cP{rows:List Row}(w:WfR [] rows){k:Nat}{r:Row}(h:rows[k]?=some r):V (ost rows k) r:=by
 rw [jK rows k (by exact Qm ((Qq h).1))];exact wG rows [] w k r h
set_option tactic.hygienic true in
theorem df(rows:List Row):∀ k j,j ∈ stk rows k->∃ pre,stk rows k=pre++j::stk rows j
 | 0,j,h=>nomatch h
 | k+1,j,h=>by
  cases hr:rows[k]? with
  | some r=>
   rw [bf hr] at h ⊢;unfold stp at h ⊢;split at h
   ·rename_i ho
    rw [Ql ho];rcases Qw h with q | q
    ·subst q;exact ⟨[],rfl⟩
    ·obtain ⟨pre,e⟩:=df rows k j q
     exact ⟨k::pre,by rw [e];rfl⟩
   ·rename_i ho
    rw [Qu ho];split at h
    ·rename_i hf
     rw [Ql hf];obtain ⟨pre,e⟩:=df rows k j (YK h);cases pre with
     | nil=>
      exfalso
      rw [e] at h;have nd:=b6 rows k;rw [e] at nd;exact (Q8.mp nd).1 h
     | cons p pre=>exact ⟨pre,by rw [e];rfl⟩
    ·rename_i hf
     rw [Qu hf];exact df rows k j h
  | none=>
   have he:stk rows (k+1)=stk rows k:=by simp only [kP,hr]
   rw [he] at h ⊢;exact df rows k j h
theorem rB{rows:List Row}{k j:Nat}(h:home rows k=(j:Int)):stk rows k=j::stk rows j:=by
 obtain ⟨pre,e⟩:=df rows k j (cj h);cases pre with
 | nil=>exact e
 | cons p pre=>
  exfalso
  unfold home at h;rw [e] at h;simp only [ZH,g6,Xb] at h;subst h;have nd:=b6 rows k;rw [e] at nd;exact (Q8.mp nd).1 (by simp)
set_option tactic.hygienic true in
theorem mV{rows:List Row}(hb:Nested rows){j:Nat}(hj:isAt rows Row.isOpen j=true):∃ k,k < rows.length/\isAt rows Row.isFin k=true/\home rows k=(j:Int):=by
 obtain ⟨r,hr,ho⟩:∃ r,rows[j]?=some r/\r.isOpen=true:=by
  unfold isAt at hj;cases q:rows[j]? with
  | none=>rw [q] at hj;simp at hj
  | some r=>rw [q] at hj;exact ⟨r,rfl,by simpa using hj⟩
 have hjl:j < rows.length:=(Qq hr).1;have hin:j ∈ stk rows (j+1):=by rw [bf hr,stp,Ql ho];exact .head _
 have main:∀ d k,k+d=rows.length->j ∈ stk rows k->∃ k,k < rows.length/\isAt rows Row.isFin k=true/\home rows k=(j:Int):=by
  intro d;induction d with
  | zero=>
   intro k hk h;rw [show k=rows.length by exact hk,hb.bal] at h;cases h
  | succ d ih=>
   intro k hk h
   by_cases h2:j ∈ stk rows (k+1)
   ·exact ih (k+1) (by exact (Yj k d).trans hk) h2
   ·rw [bf (Qk (by exact Yh (Xv (Zm d)) hk)),stp] at h2
    split at h2
    ·exact absurd (List.mem_cons_of_mem _ h) h2
    ·split at h2
     ·rename_i hf
      refine ⟨k,by exact Yh (Xv (Zm d)) hk,by rw [aI (Qk (by exact Yh (Xv (Zm d)) hk))];exact hf,?_⟩;unfold home;cases q:stk rows k with
      | nil=>rw [q] at h;cases h
      | cons x l=>
       rw [q] at h h2;rcases Qw h with e | e
       ·rw [e];rfl
       ·exact absurd e h2
     ·exact absurd h h2
 exact main (rows.length - (j+1)) (j+1) (by grind) hin
theorem b9{rows:List Row}(hb:Nested rows){j:Nat}(hj:isAt rows Row.isOpen j=true):∃ k:Nat,endAt rows j rows.length=k/\k < rows.length/\j < k/\isAt rows Row.isFin k=true/\home rows k=(j:Int):=by
 obtain ⟨k,h1,h2,h3⟩:=mV hb hj;exact ⟨k,fD h2 h3 _ h1,h1,b7 h3,h2,h3⟩
end Mine
set_option tactic.hygienic false
namespace Mine
open PySem
theorem En.idx0(e:En):item e.d (.int 0)=some (.str e.w):=rfl
theorem En.idx1(e:En):item e.d (.int 1)=some (.str e.k):=rfl
theorem En.idx2(e:En):item e.d (.int 2)=some (.int e.t):=rfl
theorem En.idx3(e:En):item e.d (.int 3)=some (.str e.s):=rfl
theorem En.idx4(e:En):item e.d (.int 4)=some (.bool e.o):=rfl
theorem wH(x y:Str):bl .Eq (.str x) (.str y)=some (x == y):=rfl
theorem jL(x y:Str):bl .NotEq (.str x) (.str y)=some (!(x == y)):=rfl
theorem wI(x y:Int):bl .Eq (.int x) (.int y)=some (x == y):=rfl
theorem gt_int(x y:Int):bl .Gt (.int x) (.int y)=some (decide (y < x)):=rfl
theorem jM(Φ:Str->List D->Option D)(Γ:Str->Option D)(N:Nat)(es:List En)(w:Str)(hl:es.length<=1000):runFn Φ Γ N fnis_asleep [.tuple (es.map En.d),.str w]=some (.bool (asleep es w)):=by
 refine dY [some (.tuple (es.map En.d)),some (.str w)] rfl rfl (m':=[some (.tuple (es.map En.d)),some (.str w)]) ?_;refine dW (eo ?_ rfl);rw [x_b1,bz es (λe=>[e.d]) (λe=>.bool (e.s == w&&e.o)) (cY (rfl)) (by exact QQ hl (by decide)) rfl λe o_=>?_]
 ·simp only [bX,ww,dD,mX,List.any_map,asleep]
  rfl
 ·exact aF (aj (ad rfl rfl (En.idx3 e)) rfl (wH e.s w)) (ad rfl rfl (En.idx4 e))
noncomputable def awk(es:List En):List En:=es.filter λe=>!(e.k == Str.ofString "pick")&&(e.o&&!asleep es e.w)
theorem rC(Φ:Str->List D->Option D)(Γ:Str->Option D)(N:Nat)(h:∀ es w,es.length<=1000->Φ "is_asleep" [.tuple (es.map En.d),.str w]=some (.bool (asleep es w)))(es:List En)(hl:es.length<=1000):runFn Φ Γ N fnawake [.tuple (es.map En.d)]=some (.list ((awk es).map En.d)):=by
 obtain ⟨m',e1,e2⟩:=oY (Φ:=Φ) (Γ:=Γ) (ow:=[1]) (fr:=true) (N:=N) (i:=2) (it:=.plain (.v 0)) (m:=[some (.tuple (es.map En.d)),some (.list []),none])
  (body:=(.cons (.ite (.bool true (.cons (.cmp .NotEq (.idx (.v 2) (.k (.int 1))) (.k (.str "pick"))) (.cons (.idx (.v 2) (.k (.int 4))) (.cons (.not (.call false "is_asleep" (.cons (.v 0) (.cons (.idx (.v 2) (.k (.int 0))) .nil)))) .nil)))) (.cons (.app 1 (.v 2)) .nil) .nil) .nil))
  (λk m=>∃ x,m=[some (.tuple (es.map En.d)),some (.list (((es.take k).filter λe=>!(e.k == Str.ofString "pick")&&(e.o&&!asleep es e.w)).map En.d)),x]) (cY (es:=es) (g:=En.d) (rfl)) rfl ⟨none,by rfl⟩ (λk vs m hk hI=>by
   obtain ⟨x,rfl⟩:=hI;rw [Qy] at hk;obtain ⟨e,he,rfl⟩:=QK hk;have hkl:k < es.length:=(Qq he).1;have htk:es.take (k+1)=es.take k++[e]:=by rw [Z1,he];rfl
   refine ⟨e.d,[some (.tuple (es.map En.d)),some (.list (((es.take (k+1)).filter λe=>!(e.k == Str.ofString "pick")&&(e.o&&!asleep es e.w)).map En.d)),some e.d],rfl,?_,_,rfl⟩;simp only [sX,sN];rw [aS (m':=[some (.tuple (es.map En.d)),some (.list (((es.take (k+1)).filter λe=>!(e.k == Str.ofString "pick")&&(e.o&&!asleep es e.w)).map En.d)),some e.d])]
   ·exact fx
   ·rw [y_if (by
     exact gW (aj (ad rfl rfl (En.idx1 e)) rfl (jL e.k (Str.ofString "pick"))) (ad rfl rfl (En.idx4 e)) (cO (ai (esC rfl (esC (ad rfl rfl (En.idx0 e)) es0)) (h es e.w hl)))) rfl]
    cases hp:(!(e.k == Str.ofString "pick")&&(e.o&&!asleep es e.w)) with
    | true=>
     simp only [if_true];rw [aS (wm rfl (d:=e.d) (rfl) rfl (by
      rw [lX];have:=Zz (λe:En=>!(e.k == Str.ofString "pick")&&(e.o&&!asleep es e.w)) (es.take k);have:=YN k es;lia)),fx]
     simp [htk,hp]
    | false=>
     simp only [QD,if_false];rw [fx];simp [htk,hp])
 obtain ⟨x,rfl⟩:=e2;refine dY [some (.tuple (es.map En.d)),none,none] rfl rfl (m':=[some (.tuple (es.map En.d)),some (.list ((awk es).map En.d)),x]) ?_;refine (aS (m':=[some (.tuple (es.map En.d)),some (.list []),none]) (qW (d:=.list []) (rfl) rfl)).trans ?_;refine (aS e1).trans ?_;have hlen:(es.map λa:En=>[a.d]).length=es.length:=by simp
 rw [hlen,Yz];refine dW (eo (d:=.list ((awk es).map En.d)) (rfl) ?_);have nl:∀ l:List En,an (l.map En.d)=true:=by
  intro l;induction l with
  | nil=>rfl
  | cons e l ih=>trivial
 exact o8 rfl (nl _)
theorem mW:∀ l:List En,an (l.map En.d)=true:=by
 intro l;induction l with
 | nil=>rfl
 | cons e l ih=>trivial
noncomputable def lawk(es:List En):List En:=(es.filter λe=>!(e.k == Str.ofString "pick")&&e.o).filter λe=>!(((es.filter λe=>e.o).map λe=>e.s).any λy=>y == e.w)
theorem uI(Φ:Str->List D->Option D)(Γ:Str->Option D)(N:Nat)(es:List En)(hl:es.length<=1000):runFn Φ Γ N fn_law_awake [.tuple (es.map En.d)]=some (.list ((lawk es).map En.d)):=by
 refine dY [some (.tuple (es.map En.d)),none,none] rfl rfl (m':=[some (.tuple (es.map En.d)),some (.list ((es.filter λe=>e.o).map λe=>.str e.s)),some (.list ((es.filter λe=>!(e.k == Str.ofString "pick")&&e.o).map En.d))]) ?_;refine (aS (m':=[some (.tuple (es.map En.d)),some (.list ((es.filter λe=>e.o).map λe=>.str e.s)),none]) (em (dX es (λe=>[e.d]) (λe=>e.o) (λe=>.str e.s) (cY (rfl)) (by exact QQ hl (by decide)) rfl (λe o_=>?_) (λe o_ o_=>?_)) rfl)).trans ?_
 ·exact rfl
 ·exact rfl
 refine (aS (m':=[some (.tuple (es.map En.d)),some (.list ((es.filter λe=>e.o).map λe=>.str e.s)),some (.list ((es.filter λe=>!(e.k == Str.ofString "pick")&&e.o).map En.d))]) (em (dX es (λe=>[e.d]) (λe=>!(e.k == Str.ofString "pick")&&e.o) En.d (cY (rfl)) (by exact QQ hl (by decide)) rfl (λe o_=>?_) (λe o_ o_=>?_)) rfl)).trans ?_
 ·exact ev_c (aF (aj (ad rfl rfl (En.idx1 e)) rfl (jL e.k (Str.ofString "pick"))) (ad rfl rfl (En.idx4 e)))
 ·exact rfl
 refine dW (eo (dX (es.filter λe=>!(e.k == Str.ofString "pick")&&e.o) (λe=>[e.d]) (λe=>!(((es.filter λe=>e.o).map λe=>e.s).any λy=>y == e.w)) En.d (bt (rfl)) ?_ rfl (λe o_=>?_) (λe o_ o_=>?_)) rfl)
 ·have:=Zz (λe:En=>!(e.k == Str.ofString "pick")&&e.o) es
  exact QQ this (QQ hl (by decide))
 ·have hmm:((es.filter λe=>e.o).map λe=>PyData.str e.s)=(((es.filter λe=>e.o).map λe=>e.s).map PyData.str):=by rw [Yk];rfl
  rw [hmm];simp only [x_k,x_v,dN,bj,j6,ZH,YE,QX,ZC,gX,gN,bX,En.idx0,wo,cq,mX,am]
 ·exact rfl
theorem rD(es:List En):awk es=lawk es:=by
 unfold awk lawk asleep;rw [List.filter_filter];congr 1
 funext e
 simp only [List.any_map,List.any_filter,Function.comp_def];have:(es.any λx=>x.o&&x.s == e.w)=es.any λx=>x.s == e.w&&x.o:=by congr 1;funext x;rw [Bool.and_comm]
 rw [this];cases (!e.k == Str.ofString "pick")<;>cases e.o<;>cases (es.any λx=>x.s == e.w&&x.o)<;>rfl
end Mine
set_option tactic.hygienic false
namespace Mine
open PySem
section
variable {Φ:Str->List D->Option D}{Γ:Str->Option D}{m:St}{ow:List Nat}{fr:Bool}{N:Nat}
theorem pE{i j:Nat}{it:It}{body:Sms}{items:List (List D)}(I:St->Prop)(p:Nat->Bool)(f:Nat->D)(hi:evIt Φ Γ it m=some items)(hz:cA it=false)(h0:I m)
 (hs:∀ (k:Nat) (vs:List D) (m:St),items[k]?=some vs->I m->∃ x y,vs=[x,y]/\(p k=true->Rt (exSs Φ Γ ow fr N body ((m.set i (some x)).set j (some y))) (f k))/\(p k=false->Go (exSs Φ Γ ow fr N body ((m.set i (some x)).set j (some y))) I)) :
 (∃ k,k < items.length/\p k=true/\(∀ j,j < k->p j=false)/\Rt (exS Φ Γ ow fr N (.for2 i j it body) m) (f k))\/((∀ k,k < items.length->p k=false)/\Go (exS Φ Γ ow fr N (.for2 i j it body) m) I):=by
 have hex:exS Φ Γ ow fr N (.for2 i j it body) m=forL (λvs m=>match vs with | [x,y]=>exSs Φ Γ ow fr N body (setV (setV m i x) j y) | _=>none) items m:=by
  rw [nB,hi,bX,hz,Qu Qr]<;>rfl
 rw [hex];exact eA items p f m h0 λk vs m hk hI=>by
  obtain ⟨x,y,rfl,h1,h2⟩:=hs k vs m hk hI;exact ⟨h1,h2⟩
theorem pF{s:Sm}{r:Sms}{d:D}(h:Rt (exS Φ Γ ow fr N s m) d):Rt (exSs Φ Γ ow fr N (.cons s r) m) d:=h.elim λm' e=>⟨m',dW e⟩
theorem rE{s:Sm}{n:Nat}{p:Nat->Bool}{f:Nat->D}{I:St->Prop}{d:D}(h:(∃ k,k < n/\p k=true/\(∀ j,j < k->p j=false)/\Rt (exS Φ Γ ow fr N s m) (f k))\/((∀ k,k < n->p k=false)/\Go (exS Φ Γ ow fr N s m) I))(hf:∀ k,f k=d) :
 (((List.range n).any p=true)->Rt (exSs Φ Γ ow fr N (.cons s .nil) m) d)/\(((List.range n).any p=false)->Go (exSs Φ Γ ow fr N (.cons s .nil) m) I):=by
 rcases h with ⟨k,h1,h2,_,h4⟩ | ⟨h1,h2⟩
 ·refine ⟨λo_=>pF (((hf k)).symm ▸ h4),λq=>?_⟩
  have:=Yn.mp q k (ZJ.mpr h1);rw [h2] at this;exact absurd rfl this
 ·refine ⟨λq=>?_,λo_=>ar h2 λm q=>ah q⟩
  obtain ⟨k,hk,q⟩:=Q2.mp q;rw [h1 k (ZJ.mp hk)] at q;cases q
end
noncomputable def Row.kindS(x:Row):Str:=if x.isLend then Mine.kindS x.wr else "pick"
structure HeldOk(os:List Row)(held:List En):Prop where
 mt:held.map (λe=>(e.w,e.k))=((os.filter Row.isNamed).map λx=>(x.word,x.kindS)).reverse
 pk:∀ e ∈ held,e.k=Str.ofString "pick" -> e.o=true/\e.s=Str.ofString ""
 nd:(held.map (·.w)).Nodup
 ne:∀ e ∈ held,e.w ≠ Str.ofString ""
theorem HeldOk.mem{os:List Row}{held:List En}(H:HeldOk os held){x:Row}(hx:x ∈ os)(hn:x.isNamed=true):∃ e ∈ held,e.w=x.word/\e.k=x.kindS:=by
 have:(x.word,x.kindS) ∈ held.map λe=>(e.w,e.k):=by
  rw [H.mt,ZE];exact QG.mpr ⟨x,Q9.mpr ⟨hx,hn⟩,rfl⟩
 obtain ⟨e,he,q⟩:=QG.mp this;simp only [Prod.mk.injEq] at q;exact ⟨e,he,q.1,q.2⟩
theorem eF:∀ {held:List En},(held.map (·.w)).Nodup->∀ {e e':En},e ∈ held->e' ∈ held->e.w=e'.w->e=e':=by
 intro held;induction held with
 | nil=>
  intro _ _ _ h _ _;exact nomatch h
 | cons x l eF=>
  intro nd e e' h h' q;rw [QX,Q8] at nd;rcases Qw h with h1 | h1
  ·rcases Qw h' with h2 | h2
   ·rw [h1,h2]
   ·subst h1;exact (nd.1 (QG.mpr ⟨e',h2,q.symm⟩)).elim
  ·rcases Qw h' with h2 | h2
   ·subst h2;exact (nd.1 (QG.mpr ⟨e,h1,q⟩)).elim
   ·exact eF nd.2 h1 h2 q
noncomputable def aP(held:List En)(w:Str):Option En:=held.find? λe=>e.w == w
noncomputable def enO:Option En->D
 | some e=>e.d
 | none=>.none
theorem be{held:List En}(nd:(held.map (·.w)).Nodup){e:En}(he:e ∈ held):aP held e.w=some e:=by
 unfold aP;cases q:held.find? λx=>x.w == e.w with
 | none=>
  have:=Yi.mp q e he;simp at this
 | some x=>
  rw [eF nd (Y1 q) he (by simpa using (List.find?_some q))]
theorem pG{held:List En}(nd:(held.map (·.w)).Nodup){e:En}(he:e ∈ held)(p:En->Bool):(held.any λx=>x.w == e.w&&p x)=p e:=by
 rw [ZZ,Q2];constructor
 ·rintro ⟨x,hx,q⟩
  simp only [Qj,Q5] at q;rw [<- eF nd hx he q.1];exact q.2
 ·intro q
  exact ⟨e,he,by simp [q]⟩
theorem eY(b:Bool):kindS b ≠ Str.ofString "pick" := by
 cases b<;>(intro h;have:=(fo _ _).mp h;exact absurd this (by decide))
noncomputable def iG(a b:En):Bool:=(a.t == b.t)&&((a.k == Str.ofString "write")||(b.k == Str.ofString "write"))
theorem mY(a b:En):iG a b=iG b a:=by
 unfold iG;rw [Bool.or_comm];congr 1
 rw [ZZ,Q5,Q5];exact eq_comm
noncomputable def dL(hs:List En)(i j:Nat):Bool:=(hs[i]?).any λh=>(hs[j]?).any λo=>iG o h
noncomputable def dg(held:List En):Bool:=(List.range (awk held).length).any λi=>(List.range i).any λj=>dL (awk held) i j
noncomputable def bT(row:Row)(held:List En):Option En:=
 match row with
 | .deed v w=>if v = .back then none else aP held w
 | .lend _ _ (.hd u)=>(aP held u).bind λe=>if e.k == Str.ofString "pick" then none else some e
 | _=>none
noncomputable def dj(row:Row)(held:List En):Str:=
 if dg held then "beside" else match bT row held with
  | none => ""
  | some e=>if !e.o then "empty" else if !row.isLend&&asleep held e.w then "asleep" else ""
noncomputable def handOf:Row->Str
 | .deed v w=>if v = .back then "" else w
 | .lend _ _ (.hd u)=>u
 | _ => ""
noncomputable def Row.looks:Row->Bool
 | .deed v _=>!(v == .back)
 | _=>false
noncomputable def eG(row:Row)(held:List En):Str:=
 if dg held then "beside" else if held.any (λe=>e.w == handOf row&&!e.o) then "empty" else if row.looks&&!((awk held).any λe=>e.w == handOf row) then "asleep" else ""
theorem rF{os:List Row}{held:List En}(H:HeldOk os held){row:Row}(v:V os row):eG row held=dj row held:=by
 have none_case:held.any (λe=>e.w == Str.ofString "" && !e.o)=false:=by
  rw [Yn];intro e he;simp [H.ne e he]
 have nc:∀ a b:Str,(if held.any (λe=>e.w == Str.ofString "" && !e.o)=true then a else b)=b:=λa b=>Qu (by rw [none_case];exact Qr);unfold eG dj;split
 ·rfl
 ·cases row with
  | lend w wr s=>
   cases s with
   | th i=>exact (nc _ _).trans rfl
   | hd u=>
    refine byG λX_ g_=>?_;obtain ⟨_,x,hx,hn,hu,_⟩:=v;obtain ⟨e,he,hw,hk⟩:=H.mem hx hn;refine g_ ?_;have hwu:e.w=u:=hw.trans hu;subst hwu
    change (if held.any (λx=>x.w == e.w&&!x.o)=true then _ else _)=_
    rw [pG H.nd he (λe=>!e.o),show bT (.lend w wr (.hd e.w)) held=(aP held e.w).bind (λe=>if e.k == Str.ofString "pick" then none else some e) from rfl,be H.nd he,bX]
    by_cases hp:e.k=Str.ofString "pick"
    ·rw [(H.pk e he hp).1,hp];rfl
    ·have:(e.k == Str.ofString "pick")=false:=by simpa using hp
     rw [this];rfl
  | deed vb w=>
   refine byG λX_ g_=>?_;obtain ⟨x,hx,hl,hu,_⟩:=v;obtain ⟨e,he,hw,hk⟩:=H.mem hx (dE hl);refine g_ ?_;have hwu:e.w=w:=hw.trans hu;subst hwu
   by_cases hb:vb = .back
   ·subst hb
    exact (nc _ _).trans rfl
   ·have hkp:(e.k == Str.ofString "pick")=false:=by
     rw [hk];unfold Row.kindS;rw [Ql hl];simpa using eY _
    have haw:((awk held).any λx=>x.w == e.w)=(e.o&&!asleep held e.w):=by
     unfold awk;rw [List.any_filter];have:=pG H.nd he λx=>!(x.k == Str.ofString "pick")&&(x.o&&!asleep held x.w);rw [hkp] at this;simp only [Bool.not_false,Bool.true_and] at this;rw [<- this];congr 1
     funext z
     rw [Bool.and_comm]
    rw [show handOf (.deed vb e.w)=e.w from Qu hb,show bT (.deed vb e.w) held=aP held e.w from Qu hb,be H.nd he,pG H.nd he (λe=>!e.o),haw,show Row.looks (.deed vb e.w)=true from Qf (!·) (by simpa using hb:(vb == Verb.back)=false)]
    change _=if (!e.o)=true then Str.ofString "empty" else if (true&&asleep held e.w)=true then Str.ofString "asleep" else Str.ofString ""
    cases e.o<;>cases asleep held e.w<;>rfl
  | _=>exact (nc _ _).trans rfl
end Mine
set_option tactic.hygienic false
namespace Mine
open PySem
theorem g7{α:Type}{p:α->Bool}:∀ {l:List α} {k:Nat},(l[k]?).any p=true->(∀ j,j < k->(l[j]?).any p=false)->l.find? p=l[k]?:=by
 intro l;induction l with
 | nil=>intro k h _;cases h
 | cons x l ih=>
  intro k h hf;cases k with
  | zero=>
   replace h:p x=true:=h;rw [List.find?_cons,h];rfl
  | succ k=>
   have h0:p x=false:=hf 0 (Zm k);rw [List.find?_cons,h0];exact ih h λj hj=>hf (j+1) (QU hj)
theorem jN{α:Type}{p:α->Bool}{l:List α}(h:∀ k,k < l.length->(l[k]?).any p=false):l.find? p=none:=by
 rw [Yi];intro x hx q;obtain ⟨k,hk⟩:=Z4 hx;have:=h k (Qq hk).1;rw [hk] at this;simp [q] at this
set_option tactic.hygienic true in
theorem rG(r:Row):(["look", "change"].any λy=>Str.ofString y == r.tag)=r.looks:=by
 cases r<;>first | rfl | (rename_i v w;cases v<;>rfl)
theorem iH(r:Row):pyIn (.str r.tag) (.list [.str "look",.str "change"])=some r.looks:=by
 rw [<- rG];exact cq r.tag (["look", "change"].map Str.ofString)
theorem pH(r:Row):pyIn (.str r.tag) (.tuple [.str "look",.str "change"])=some r.looks:=iH r
theorem sT(w a b:Str):pyIn (.str w) (.list [.str a,.str b])=some (a == w||b == w):=by
 have:=cq w [a,b]
 simpa using this
theorem pI(w a b:Str):pyIn (.str w) (.tuple [.str a,.str b])=some (a == w||b == w):=sT w a b
theorem iI(l:List D)(n:Nat)(h:n<=l.length):cut l none (some (n:Int))=l.take n:=by
 have hc:cm l.length (n:Int)=n:=by
  unfold cm;rw [Qu (by exact ZB.mpr (Zq n)),QN];exact YD h
 simp only [cut,XK,Xx,mX,Zr,hc,List.drop_zero,Nat.sub_zero]
theorem sU{l:List En}{k:Nat}{x:En}(h:l[k]?=some x):item (.list (l.map En.d)) (.int (k:Int))=some x.d:=by
 exact p_mk (k:=k) (by have:=a7 (n:=l.length) (i:=(k:Int)) (by exact QB.mpr (QF k)) (by exact QZ ((Qq h).1));simpa using this) (by rw [Qy,h];rfl)
section
variable {Φ:Str->List D->Option D}{Γ:Str->Option D}{m:St}{ow:List Nat}{fr:Bool}{N:Nat}
theorem rH{i j:Nat}{it:It}{body r:Sms}{items:List (List D)}{d:D}(I:St->Prop)(p:Nat->Bool)(f:Nat->D)(hi:evIt Φ Γ it m=some items)(hz:cA it=false)(h0:I m)
 (hs:∀ (k:Nat) (vs:List D) (m:St),items[k]?=some vs->I m->∃ x y,vs=[x,y]/\(p k=true->Rt (exSs Φ Γ ow fr N body ((m.set i (some x)).set j (some y))) (f k))/\(p k=false->Go (exSs Φ Γ ow fr N body ((m.set i (some x)).set j (some y))) I))
 (hno:(∀ k,k < items.length->p k=false)->∀ m,I m->Rt (exSs Φ Γ ow fr N r m) d) (hyes:∀ k,k < items.length->p k=true->(∀ j,j < k->p j=false)->f k=d):Rt (exSs Φ Γ ow fr N (.cons (.for2 i j it body) r) m) d:=by
 rcases pE (ow:=ow) (fr:=fr) (N:=N) (body:=body) I p f hi hz h0 hs with ⟨k,h1,h2,h3,h4⟩ | ⟨h1,h2⟩
 ·exact ((hyes k h1 h2 h3)).symm ▸ (pF h4)
 ·exact aN h2 (hno h1)
theorem any1{i n:Nat}{it:It}{body:Sms}{items:List (List D)}{d:D}{J:St->Prop}(I:St->Prop)(p:Nat->Bool)(hi:evIt Φ Γ it m=some items)(hz:cA it=false)(hlen:items.length=n)(h0:I m)
 (hs:∀ (k:Nat) (vs:List D) (m:St),items[k]?=some vs->I m->∃ x,vs=[x]/\(p k=true->Rt (exSs Φ Γ ow fr N body (m.set i (some x))) d)/\(p k=false->Go (exSs Φ Γ ow fr N body (m.set i (some x))) I)) (hJ:∀ m,I m->J m) :
 (((List.range n).any p=true)->Rt (exSs Φ Γ ow fr N (.cons (.for1 i it body) .nil) m) d)/\(((List.range n).any p=false)->Go (exSs Φ Γ ow fr N (.cons (.for1 i it body) .nil) m) J):=by
 have h:=jH (ow:=ow) (fr:=fr) (N:=N) (body:=body) I p (λo_=>d) hi hz h0 hs;rw [hlen] at h;obtain ⟨h1,h2⟩:=rE h λo_=>rfl;exact ⟨h1,λq=>(h2 q).mono hJ⟩
end
section
variable (Φ:Str->List D->Option D)(Γ:Str->Option D)(N:Nat)
theorem kS(held:List En)(w:Str):runFn Φ Γ N fnentry_of [.tuple (held.map En.d),.str w]=some (enO (aP held w)):=by
 refine av [some (.tuple (held.map En.d)),some (.str w),none] rfl rfl ?_;dsimp only [fnentry_of];refine gi (λm=>∃ x,m=[some (.tuple (held.map En.d)),some (.str w),x]) (λk=>(held[k]?).any λe=>e.w == w) (λk=>enO held[k]?) (cY (es:=held) (g:=En.d) (rfl)) rfl ⟨none,rfl⟩ (λk vs m hk hI=>?_) (λhno m hI=>?_) (λk hk hp hf=>?_)
 ·obtain ⟨x,rfl⟩:=hI
  rw [Qy] at hk;obtain ⟨e,he,rfl⟩:=QK hk;refine ⟨_,rfl,λq=>?_,λq=>?_⟩
  ·rw [he] at q ⊢
   exact ao (x:=.bool (e.w == w)) (rfl) (by rw [am];simpa using q) (af rfl rfl)
  ·rw [he] at q
   exact ar (aO (Q:=λm=>∃ x,m=[some (.tuple (held.map En.d)),some (.str w),x]) (d:=.bool (e.w == w)) (rfl) (am _) (λq'=>by simp only [XV] at q;rw [q] at q';cases q') (λo_=>ah ⟨_,rfl⟩)) λm e=>ah e
 ·obtain ⟨x,rfl⟩:=hI
  refine af ?_ rfl;unfold aP;rw [jN λk hk=>hno k (by simpa using hk)];rfl
 ·rw [<- g7 hp hf];rfl
theorem jO{hs:List En}{i j:Nat}{h o:En}(h1:hs[i]?=some h)(h2:hs[j]?=some o):dL hs i j=iG o h:=by simp [dL,h1,h2]
theorem pJ(hA:∀ es:List En,es.length<=1000->Φ "awake" [.tuple (es.map En.d)]=some (.list ((awk es).map En.d)))(held:List En)(hl:held.length<=1000):runFn Φ Γ N fnbeside [.tuple (held.map En.d)]=some (.bool (dg held)):=by
 refine av [some (.tuple (held.map En.d)),none,none,none] rfl rfl ?_;dsimp only [fnbeside];refine al (.list ((awk held).map En.d)) (ai (esC rfl es0) (hA held hl)) rfl ?_;have hbl:(awk held).length<=1000:=QQ (Zz _ _) hl;unfold dg;generalize awk held=hs at hbl ⊢;refine gi (λm=>∃ x2 x3,m=[some (.tuple (held.map En.d)),some (.list (hs.map En.d)),x2,x3]) (λi=>(List.range i).any λj=>dL hs i j) (λo_=>.bool true) (bA (n:=(hs.length:Int)) (aT rfl (lenL hs)) (by exact (QQ hbl (by decide):hs.length<=2 ^ 20))) rfl ⟨none,none,rfl⟩ (λi vs m hk hI=>?_) (λhno m hI=>?_) (λk hk hp o_=>?_)
 ·obtain ⟨x2,x3,rfl⟩:=hI
  rw [Qy] at hk;obtain ⟨i',hi,rfl⟩:=QK hk;obtain ⟨hi1,hi2⟩:=Qq hi;simp only [Qo,QN] at hi1;simp only [ZN] at hi2;subst hi2;obtain ⟨h,hh⟩:∃ h,hs[i]?=some h:=⟨hs[i],Qk hi1⟩
  refine ⟨_,rfl,?_⟩;have hit:evIt Φ Γ (.plain (.sl (.v 1) .none (.some (.v 2)))) [some (.tuple (held.map En.d)),some (.list (hs.map En.d)),some (.int (i:Int)),x3]=some ((hs.take i).map λe=>[e.d]):=by
   refine bt (g:=En.d) ?_;simp only [x_v,x_sl,fL,fM,gX,gN,bX,mX,io_n,io_i,wy];rw [iI _ _ (by rw [lX];(exact Qm hi1)),Xh]
  have hlen:((hs.take i).map λe=>[e.d]).length=i:=by simp only [lX,ZF];exact YD (Qm hi1)
  refine any1 (λm=>∃ x3,m=[some (.tuple (held.map En.d)),some (.list (hs.map En.d)),some (.int (i:Int)),x3]) (λj=>dL hs i j) hit rfl hlen ⟨_,rfl⟩ (λj vs m hj hI=>?_) (λm hI=>hI.elim λx3 e=>⟨_,_,e⟩);obtain ⟨x3,rfl⟩:=hI;rw [Qy,Xu] at hj;obtain ⟨o,ho,rfl⟩:=QK hj;split at ho
  case isFalse=>cases ho
  rw [jO hh ho];have hc:evE Φ Γ (.bool true (.cons (.cmp .Eq (.idx (.v 3) (.k (.int 2))) (.idx (.idx (.v 1) (.v 2)) (.k (.int 2)))) (.cons (.cmp .In (.k (.str "write")) (.tup (.cons (.idx (.v 3) (.k (.int 1))) (.cons (.idx (.idx (.v 1) (.v 2)) (.k (.int 1))) .nil)))) .nil))) [some (.tuple (held.map En.d)),some (.list (hs.map En.d)),some (.int (i:Int)),some o.d]=some (.bool (iG o h)):=by
   unfold iG;refine aF ?_ ?_
   ·exact aj (ad rfl rfl (En.idx2 o)) (ad (ad rfl rfl (sU hh)) rfl (En.idx2 h)) (qY o.t h.t)
   ·exact aj rfl (a9 (esC (ad rfl rfl (En.idx1 o)) (esC (ad (ad rfl rfl (sU hh)) rfl (En.idx1 h)) es0))) (pI (Str.ofString "write") o.k h.k)
  refine ⟨_,rfl,λq=>?_,λq=>?_⟩
  ·exact ao hc (Qf _ q) (af rfl rfl)
  ·exact ar (aO (Q:=λm=>∃ x3,m=[some (.tuple (held.map En.d)),some (.list (hs.map En.d)),some (.int (i:Int)),x3]) hc (am _) (λq'=>by rw [q] at q';cases q') (λo_=>ah ⟨_,rfl⟩)) λm e=>ah e
 ·obtain ⟨x2,x3,rfl⟩:=hI
  refine af ?_ rfl;have:((List.range hs.length).any λi=>(List.range i).any λj=>dL hs i j)=false:=by
   rw [Yn];intro k hk;have:=hno k (by simpa using hk);exact this ▸ Qr
  rw [this];rfl
 ·simp only [lX,Qo,QN] at hk
  have:((List.range hs.length).any λi=>(List.range i).any λj=>dL hs i j)=true:=Q2.mpr ⟨k,ZJ.mpr hk,hp⟩;rw [this]
theorem jP(hE:∀ (held:List En) (w:Str),Φ "entry_of" [.tuple (held.map En.d),.str w]=some (enO (aP held w)))(row:Row)(held:List En)(hv:∀ w q u,row = .lend w q (.hd u)->(aP held u).isSome=true) :
 runFn Φ Γ N fnhand_used [row.d,.tuple (held.map En.d)]=some (enO (bT row held)):=by
 refine av [some row.d,some (.tuple (held.map En.d)),none] rfl rfl ?_;dsimp only [fnhand_used];have c1:evE Φ Γ (.cmp .In (.idx (.v 0) (.k (.int 0))) (.tup (.cons (.k (.str "look")) (.cons (.k (.str "change")) .nil)))) [some row.d,some (.tuple (held.map En.d)),none]=some (.bool row.looks):=by
  exact aj (ad rfl rfl (Row.i0 row)) (a9 (esC rfl (esC rfl es0))) (pH row)
 have c2:row.isLend=false->evE Φ Γ (.bool true (.cons (.cmp .Eq (.idx (.v 0) (.k (.int 0))) (.k (.str "lend"))) (.cons (.isi (.idx (.v 0) (.k (.int 3))) .str) .nil))) [some row.d,some (.tuple (held.map En.d)),none]=some (.bool false):=λhl=>by
  simp only [x_k,x_v,cr,dN,bj,ti,eZ,eM,gN,bX,mX,Row.i0,kJ,et,hl,am,QD,if_false]
 cases row with
 | deed v w=>
  by_cases hb:v = .back
  ·subst hb
   refine ag c1 rfl (ag (c2 rfl) rfl (af rfl rfl))
  ·have hlk:(Row.deed v w).looks=true:=by cases v<;>first | rfl | exact absurd rfl hb
   refine ao c1 (Qf _ hlk) (af ?_ rfl);have hi:item (Row.deed v w).d (.int 1)=some (.str w):=rfl;simp only [x_k,x_v,bj,bg,aH,ax,gX,gN,bX,mX,hi,hE,show bT (.deed v w) held=aP held w from Qu hb]
 | lend w q s=>
  cases s with
  | th i=>exact ag c1 rfl (ag (x:=.bool false) rfl rfl (af rfl rfl))
  | hd u=>
   obtain ⟨e,he⟩:=Y9.mp (hv w q u rfl);have hi:item (Row.lend w q (.hd u)).d (.int 3)=some (.str u):=rfl;refine ag c1 rfl ?_;have hu:bT (.lend w q (.hd u)) held=if e.k == Str.ofString "pick" then none else some e:=by
    show (aP held u).bind _=_;rw [he];rfl
   rw [hu];have hcall:evE Φ Γ (.call false "entry_of" (.cons (.v 1) (.cons (.idx (.v 0) (.k (.int 3))) .nil))) [some (Row.lend w q (.hd u)).d,some (.tuple (held.map En.d)),none]=some e.d:=by
    simp only [x_k,x_v,bj,bg,aH,ax,gX,gN,bX,mX,hi,hE,he,enO]
   have hne:evE Φ Γ (.cmp .NotEq (.idx (.v 2) (.k (.int 1))) (.k (.str "pick"))) [some (Row.lend w q (.hd u)).d,some (.tuple (held.map En.d)),some e.d]=some (.bool (!(e.k == Str.ofString "pick"))):=by
    exact rfl
   cases hp:(e.k == Str.ofString "pick") with
   | true=>
    rw [hp] at hne;refine aN (Q':=λm=>True) (aO (d:=.bool true) rfl rfl (λo_=>aw e.d hcall rfl (ar (aO (Q:=λo_=>True) hne rfl (λz=>by cases z) (λo_=>ah trivial)) λm o_=>ah trivial)) (λz=>by cases z)) ?_;exact λm o_=>af rfl rfl
   | false=>
    rw [hp] at hne;exact ao (x:=.bool true) rfl rfl (al e.d hcall rfl (ao hne rfl (af rfl rfl)))
 | pick w ts=>exact ag c1 rfl (ag (c2 rfl) rfl (af rfl rfl))
 | either=>exact ag c1 rfl (ag (c2 rfl) rfl (af rfl rfl))
 | again=>exact ag c1 rfl (ag (c2 rfl) rfl (af rfl rfl))
 | orr=>exact ag c1 rfl (ag (c2 rfl) rfl (af rfl rfl))
 | fin=>exact ag c1 rfl (ag (c2 rfl) rfl (af rfl rfl))
theorem rI(hB:∀ held:List En,held.length<=1000->Φ "beside" [.tuple (held.map En.d)]=some (.bool (dg held)))
 (hU:∀ (row:Row) (held:List En),(∀ w q u,row = .lend w q (.hd u)->(aP held u).isSome=true)->Φ "hand_used" [row.d,.tuple (held.map En.d)]=some (enO (bT row held)))
 (hS:∀ (es:List En) (w:Str),es.length<=1000->Φ "is_asleep" [.tuple (es.map En.d),.str w]=some (.bool (asleep es w)))
 (rows:List Row) (k:Nat) (row:Row) (hr:rows[k]?=some row) (held:List En) (hl:held.length<=1000) (hv:∀ w q u,row = .lend w q (.hd u)->(aP held u).isSome=true) :
 runFn Φ Γ N fnfault [.list (rows.map Row.d),.tuple [.int (k:Int),.tuple (held.map En.d)]]=some (.str (dj row held)):=by
 refine av [some (.list (rows.map Row.d)),some (.tuple [.int (k:Int),.tuple (held.map En.d)]),none,none,none] rfl rfl ?_;dsimp only [fnfault];refine bv [some (.list (rows.map Row.d)),some (.tuple [.int (k:Int),.tuple (held.map En.d)]),some (.int (k:Int)),some (.tuple (held.map En.d)),none] rfl ?_;have cb:evE Φ Γ (.call false "beside" (.cons (.v 3) .nil)) [some (.list (rows.map Row.d)),some (.tuple [.int (k:Int),.tuple (held.map En.d)]),some (.int (k:Int)),some (.tuple (held.map En.d)),none]=some (.bool (dg held)):=by
  exact ai (esC rfl es0) (hB held hl)
 unfold dj;cases hb:dg held with
 | true=>
  rw [hb] at cb;exact ao cb rfl (af rfl rfl)
 | false=>
  rw [hb] at cb;refine ag cb rfl ?_;simp only [QD,if_false];refine al (enO (bT row held)) (ai (esC (ad rfl rfl (aZ hr)) (esC rfl es0)) (hU row held hv)) rfl ?_;simp only [sX,sN];cases hu:bT row held with
  | none=>exact ao (x:=.bool true) rfl rfl (af rfl rfl)
  | some e=>
   simp only [enO];refine ag (x:=.bool false) rfl rfl ?_;have co:evE Φ Γ (.not (.idx (.v 4) (.k (.int 4)))) [some (.list (rows.map Row.d)),some (.tuple [.int (k:Int),.tuple (held.map En.d)]),some (.int (k:Int)),some (.tuple (held.map En.d)),some e.d]=some (.bool (!e.o)):=by
    exact rfl
   cases hoo:e.o with
   | false=>
    rw [hoo] at co;exact ao co rfl (af rfl rfl)
   | true=>
    rw [hoo] at co;refine ag co rfl ?_;have ca:evE Φ Γ (.bool true (.cons (.cmp .NotEq (.idx (.idx (.v 0) (.v 2)) (.k (.int 0))) (.k (.str "lend"))) (.cons (.call false "is_asleep" (.cons (.v 3) (.cons (.idx (.v 4) (.k (.int 0))) .nil))) .nil))) [some (.list (rows.map Row.d)),some (.tuple [.int (k:Int),.tuple (held.map En.d)]),some (.int (k:Int)),some (.tuple (held.map En.d)),some e.d]=some (.bool (!row.isLend&&asleep held e.w)):=by
     refine aF ?_ ?_
     ·simp only [x_k,x_v,dN,bj,gX,gN,bX,mX,aZ hr,Row.i0,wp,et]
     ·exact ai (esC rfl (esC (ad rfl rfl (En.idx0 e)) es0)) (hS held e.w hl)
    cases hz:(!row.isLend&&asleep held e.w) with
    | true=>
     rw [hz] at ca;exact ao ca rfl (af rfl rfl)
    | false=>
     rw [hz] at ca;exact ag ca rfl (af rfl rfl)
end
end Mine
set_option tactic.hygienic false
namespace Mine
open PySem
theorem rJ{l:List En}{k:Nat}{vs:List D}(h:(cR 0 (l.map En.d))[k]?=some vs):∃ x,l[k]?=some x/\vs=[.int (k:Int),x.d]:=by
 rw [fE,Qy] at h;cases q:l[k]? with
 | none=>rw [q] at h;simp at h
 | some x=>rw [q] at h;simp at h;exact ⟨x,rfl,h.symm⟩
theorem gm{l:List En}{k:Nat}{vs:List D}(h:(l.map λe=>[e.d])[k]?=some vs):∃ x,l[k]?=some x/\vs=[x.d]:=by
 rw [Qy] at h;obtain ⟨e,he,rfl⟩:=QK h;exact ⟨e,he,rfl⟩
theorem pK{α:Type}(l:List α)(p:α->Bool):((List.range l.length).any λk=>(l[k]?).any p)=l.any p:=by
 rw [ZZ,Q2,Q2];constructor
 ·rintro ⟨k,hk,q⟩
  rw [ZJ] at hk;rw [Qk hk] at q;exact ⟨_,Xy hk,by simpa using q⟩
 ·rintro ⟨x,hx,q⟩
  obtain ⟨k,hk⟩:=Z4 hx;exact ⟨k,ZJ.mpr (Qq hk).1,by rw [hk];simpa using q⟩
section
variable (Φ:Str->List D->Option D)(Γ:Str->Option D)(N:Nat)
theorem pL(hA:∀ es:List En,es.length<=1000->Φ "_law_awake" [.tuple (es.map En.d)]=some (.list ((awk es).map En.d)))(row:Row)(held:List En)(hl:held.length<=1000) :
 runFn Φ Γ N fn_law_fault [row.d,.tuple (held.map En.d)]=some (.str (eG row held)):=by
 refine av [some row.d,some (.tuple (held.map En.d)),none,none,none,none,none] rfl rfl ?_;dsimp only [fn_law_fault];refine al (.list ((awk held).map En.d)) (ai (esC rfl es0) (hA held hl)) rfl ?_;have hbl:(awk held).length<=1000:=QQ (Zz _ _) hl;unfold eG dg;generalize awk held=hs at hbl ⊢;refine rH (λm=>∃ x3 x4 x5,m=[some row.d,some (.tuple (held.map En.d)),some (.list (hs.map En.d)),x3,x4,x5,none]) (λi=>(List.range i).any λj=>dL hs i j) (λo_=>.str "beside") (eW (xs:=hs.map En.d) (rfl)) rfl ⟨none,none,none,rfl⟩ (λi vs m hk hI=>?_) (λhno m hI=>?_) (λk hk hp o_=>?_)
 ·obtain ⟨x3,x4,x5,rfl⟩:=hI
  obtain ⟨h,hh,rfl⟩:=rJ hk;have hi1:i < hs.length:=(Qq hh).1;refine ⟨_,_,rfl,?_⟩;have hit:evIt Φ Γ (.plain (.sl (.v 2) .none (.some (.v 3)))) [some row.d,some (.tuple (held.map En.d)),some (.list (hs.map En.d)),some (.int (i:Int)),some h.d,x5,none]=some ((hs.take i).map λe=>[e.d]):=by
   refine bt (g:=En.d) ?_;simp only [x_v,x_sl,fL,fM,gX,gN,bX,mX,io_n,io_i,wy];rw [iI _ _ (by rw [lX];(exact Qm hi1)),Xh]
  have hlen:((hs.take i).map λe=>[e.d]).length=i:=by simp only [lX,ZF];exact YD (Qm hi1)
  refine any1 (λm=>∃ x5,m=[some row.d,some (.tuple (held.map En.d)),some (.list (hs.map En.d)),some (.int (i:Int)),some h.d,x5,none]) (λj=>dL hs i j) hit rfl hlen ⟨_,rfl⟩ (λj vs m hj hI=>?_) (λm hI=>hI.elim λx5 e=>⟨_,_,_,e⟩);obtain ⟨x5,rfl⟩:=hI;rw [Qy,Xu] at hj;obtain ⟨o,ho,rfl⟩:=QK hj;split at ho
  case isFalse=>cases ho
  rw [jO hh ho,mY];have hc:evE Φ Γ (.bool true (.cons (.cmp .Eq (.idx (.v 4) (.k (.int 2))) (.idx (.v 5) (.k (.int 2)))) (.cons (.cmp .In (.k (.str "write")) (.lst (.cons (.idx (.v 4) (.k (.int 1))) (.cons (.idx (.v 5) (.k (.int 1))) .nil)))) .nil))) [some row.d,some (.tuple (held.map En.d)),some (.list (hs.map En.d)),some (.int (i:Int)),some h.d,some o.d,none]=some (.bool (iG h o)):=by
   unfold iG;refine aF ?_ ?_
   ·exact rfl
   ·exact aj rfl (aV (esC (ad rfl rfl (En.idx1 h)) (esC (ad rfl rfl (En.idx1 o)) es0))) (sT (Str.ofString "write") h.k o.k)
  refine ⟨_,rfl,λq=>?_,λq=>?_⟩
  ·exact ao hc (Qf _ q) (af rfl rfl)
  ·exact ar (aO (Q:=λm=>∃ x5,m=[some row.d,some (.tuple (held.map En.d)),some (.list (hs.map En.d)),some (.int (i:Int)),some h.d,x5,none]) hc (am _) (λq'=>by rw [q] at q';cases q') (λo_=>ah ⟨_,rfl⟩)) λm e=>ah e
 ·obtain ⟨x3,x4,x5,rfl⟩:=hI
  have hb:((List.range hs.length).any λi=>(List.range i).any λj=>dL hs i j)=false:=by
   rw [Yn];intro k hk;have:=hno k (by rw [bR,lX];exact ZJ.mp hk);rw [this];exact Qr
  rw [hb];simp only [QD,if_false];refine al (.str "") rfl rfl ?_;refine aN (Q':=λm=>m=[some row.d,some (.tuple (held.map En.d)),some (.list (hs.map En.d)),x3,x4,x5,some (.str (if row.looks then handOf row else ""))]) (aO (d:=.bool row.looks) (aj (ad rfl rfl (Row.i0 row)) (aV (esC rfl (esC rfl es0))) (iH row)) (am _) (λq=>?_) (λq=>?_)) ?_
  ·have:item row.d (.int 1)=some (.str (handOf row))/\row.looks=true:=by
    refine ⟨?_,q⟩;cases row with
    | deed v w=>cases v<;>first | rfl | cases q
    | _=>cases q
   rw [q];exact aw (.str (handOf row)) (ad rfl rfl this.left) rfl (ah rfl)
  ·exact ah (q ▸ rfl)
  rintro _ rfl;refine aN (Q':=λm=>m=[some row.d,some (.tuple (held.map En.d)),some (.list (hs.map En.d)),x3,x4,x5,some (.str (handOf row))]) ?_ ?_
  ·cases row with
   | lend w q s=>
    cases s with
    | th i=>exact aO (d:=.bool false) rfl rfl (λz=>by cases z) (λo_=>ah rfl)
    | hd u=>exact aO (d:=.bool true) rfl rfl (λo_=>aw (.str u) rfl rfl (ah rfl)) (λz=>by cases z)
   | deed v w=>cases v<;>exact aO (d:=.bool false) rfl rfl (λz=>by cases z) (λo_=>ah rfl)
   | pick w ts=>exact aO (d:=.bool false) rfl rfl (λz=>by cases z) (λo_=>ah rfl)
   | either=>exact aO (d:=.bool false) rfl rfl (λz=>by cases z) (λo_=>ah rfl)
   | again=>exact aO (d:=.bool false) rfl rfl (λz=>by cases z) (λo_=>ah rfl)
   | orr=>exact aO (d:=.bool false) rfl rfl (λz=>by cases z) (λo_=>ah rfl)
   | fin=>exact aO (d:=.bool false) rfl rfl (λz=>by cases z) (λo_=>ah rfl)
  rintro _ rfl;generalize handOf row=hand;refine gi (λm=>∃ x4,m=[some row.d,some (.tuple (held.map En.d)),some (.list (hs.map En.d)),x3,x4,x5,some (.str hand)]) (λk=>(held[k]?).any λe=>e.w == hand&&!e.o) (λo_=>.str "empty") (cY (es:=held) (g:=En.d) (rfl)) rfl ⟨_,rfl⟩ (λk vs m hk hI=>?_) (λhno m hI=>?_) (λk hk hp o_=>?_)
  ·obtain ⟨x4,rfl⟩:=hI
   obtain ⟨e,he,rfl⟩:=gm hk;refine ⟨_,rfl,?_⟩;simp only [he,XV,sX,sN];have hc:evE Φ Γ (.bool true (.cons (.cmp .Eq (.idx (.v 4) (.k (.int 0))) (.v 6)) (.cons (.not (.idx (.v 4) (.k (.int 4)))) .nil))) [some row.d,some (.tuple (held.map En.d)),some (.list (hs.map En.d)),x3,some e.d,x5,some (.str hand)]=some (.bool (e.w == hand&&!e.o)):=by
    refine aF ?_ ?_
    ·exact rfl
    ·exact rfl
   refine ⟨λq=>?_,λq=>?_⟩
   ·exact ao hc (Qf _ q) (af rfl rfl)
   ·exact ar (aO (Q:=λm=>∃ x4,m=[some row.d,some (.tuple (held.map En.d)),some (.list (hs.map En.d)),x3,x4,x5,some (.str hand)]) hc (am _) (λq'=>by rw [q] at q';cases q') (λo_=>ah ⟨_,rfl⟩)) λm e=>ah e
  ·obtain ⟨x4,rfl⟩:=hI
   have he:held.any (λe=>e.w == hand&&!e.o)=false:=by
    rw [<- pK,Yn];intro k hk;have:=hno k (by rw [lX];exact ZJ.mp hk);exact this ▸ Qr
   rw [he];simp only [QD,if_false];have hcomp:evE Φ Γ (.comp (.idx (.v 7) (.k (.int 0))) (.plain (.v 2)) .none) [some row.d,some (.tuple (held.map En.d)),some (.list (hs.map En.d)),x3,x4,x5,some (.str hand)]=some (.list ((hs.map (·.w)).map .str)):=by
    rw [Yk];exact bz hs (λe=>[e.d]) (λe=>.str e.w) (bt (rfl)) (by exact QQ hbl (by decide)) rfl λe o_=>by (exact rfl)
   have hc:evE Φ Γ (.bool true (.cons (.cmp .In (.idx (.v 0) (.k (.int 0))) (.lst (.cons (.k (.str "look")) (.cons (.k (.str "change")) .nil)))) (.cons (.cmp .NotIn (.v 6) (.comp (.idx (.v 7) (.k (.int 0))) (.plain (.v 2)) .none)) .nil))) [some row.d,some (.tuple (held.map En.d)),some (.list (hs.map En.d)),x3,x4,x5,some (.str hand)]=some (.bool (row.looks&&!(hs.any λe=>e.w == hand))):=by
    refine aF ?_ ?_
    ·exact aj (ad rfl rfl (Row.i0 row)) (aV (esC rfl (esC rfl es0))) (iH row)
    ·rw [dN,hcomp]
     simp only [x_v,gX,gN,bX,wo,cq,mX,List.any_map];rfl
   cases hz:(row.looks&&!(hs.any λe=>e.w == hand)) with
   | true=>
    rw [hz] at hc;exact ao hc rfl (af rfl rfl)
   | false=>
    rw [hz] at hc;exact ag hc rfl (af rfl rfl)
  ·have:held.any (λe=>e.w == hand&&!e.o)=true:=by
    rw [<- pK];exact Q2.mpr ⟨k,ZJ.mpr (by simpa using hk),hp⟩
   rw [this];rfl
 ·rw [(Q2.mpr ⟨k,ZJ.mpr (by rw [bR,lX] at hk;exact hk),hp⟩)];rfl
end
end Mine
set_option tactic.hygienic false
namespace Mine
open PySem
noncomputable def hitB(g:List Str)(e:En):Bool:=(g.any λy=>y == e.w)||(g.any λy=>y == e.s)
noncomputable def En.gone(e:En):En:=⟨e.w,e.k,e.t,e.s,false⟩
noncomputable def bStep(s:List Str × List En)(e:En):List Str × List En:=if hitB s.1 e then (s.1++[e.w],s.2++[e.gone]) else (s.1,s.2++[e])
noncomputable def backR:List Str->List En->List En
 | _,[]=>[]
 | g,e::es=>if hitB g e then e.gone::backR (g++[e.w]) es else e::backR g es
theorem pM(x:List Str):backR x []=[]:=rfl
theorem kT(x:List Str)(e:En)(es:List En):backR x (e::es)=if hitB x e=true then e.gone::backR (x++[e.w]) es else e::backR x es:=rfl
theorem dm:∀ (l:List En) (g:List Str) (acc:List En),(l.foldl bStep (g,acc)).2=acc++backR g l:=by
 intro l;induction l with
 | nil=>
  intro g acc;simp [pM]
 | cons e l dm=>
  intro g acc;simp only [YH,bStep,kT];split
  ·rw [dm];simp
  ·rw [dm];simp
theorem eH:∀ (l:List En) (s:List Str × List En),(l.foldl bStep s).1.length<=s.1.length+l.length/\(l.foldl bStep s).2.length=s.2.length+l.length:=by
 intro l;induction l with
 | nil=>
  intro s;exact ⟨QO _,rfl⟩
 | cons e l eH=>
  intro s;obtain ⟨h1,h2⟩:=eH (bStep s e);simp only [YH,QV];unfold bStep at h1 h2 ⊢;split at h1<;>simp_all<;>lia
theorem eI:∀ (l:List En) (g:List Str),(backR g l).map (λe=>(e.w,e.k))=l.map λe=>(e.w,e.k):=by
 intro l;induction l with
 | nil=>
  intro _;exact rfl
 | cons e l eI=>
  intro g;rw [kT];split
  ·simp only [QX,eI];rfl
  ·simp only [QX,eI]
theorem g8(l:List En)(g:List Str):(backR g l).map (·.w)=l.map (·.w):=by
 have:=Qf (List.map Prod.fst) (eI l g)
 simpa [Yk,Function.comp_def] using this
set_option tactic.hygienic true in
theorem eJ:∀ (l:List En) (g:List Str),(∀ e ∈ l,e.k=Str.ofString "pick" -> e.s=Str.ofString "" /\ e.w ∉ g)->Str.ofString "" ∉ g->(l.map (·.w)).Nodup->(∀ e ∈ l,e.w ≠ Str.ofString "")->∀ e' ∈ backR g l,e'.k=Str.ofString "pick" -> e' ∈ l:=by
 intro l;induction l with
 | nil=>
  intro g _ _ _ _ e' h _;simp [pM] at h
 | cons e l eJ=>
  intro g hp h0 nd ne e' h hk;rw [QX,Q8] at nd;rw [kT] at h;split at h
  ·rename_i hh
   rcases Qw h with q | q
   ·subst q;exact absurd hk (λq=>by
     obtain ⟨q1,q2⟩:=hp e (.head _) q;unfold hitB at hh;rw [Ze,Q2,Q2] at hh;rcases hh with ⟨y,hy,q3⟩ | ⟨y,hy,q3⟩
     ·rw [Q5] at q3;subst q3;exact q2 hy
     ·rw [Q5] at q3;subst q3;rw [q1] at hy;exact h0 hy)
   ·refine .tail _ (eJ (g++[e.w]) (λf hf hfk=>?_) ?_ nd.2 (λf hf=>ne f (.tail _ hf)) e' q hk)
    ·refine ⟨((hp f (.tail _ hf) hfk).1),λz=>?_⟩
     rcases QY z with z | z
     ·exact ((hp f (.tail _ hf) hfk).2) z
     ·rw [ZV] at z
      exact nd.1 (QG.mpr ⟨f,hf,z⟩)
    ·intro z
     rcases QY z with z | z
     ·exact h0 z
     ·rw [ZV] at z
      exact ne e (.head _) z.symm
  ·rcases Qw h with q | q
   ·subst q;exact .head _
   ·exact .tail _ (eJ g (λf hf=>hp f (.tail _ hf)) h0 nd.2 (λf hf=>ne f (.tail _ hf)) e' q hk)
theorem HeldOk.back{os:List Row}{held:List En}(H:HeldOk os held){e:En}(he:e ∈ held)(hk:e.k ≠ Str.ofString "pick"):HeldOk os (backR [e.w] held):=by
 refine ⟨by rw [eI];exact H.mt,?_,by rw [g8];exact H.nd,?_⟩
 ·intro f hf hfk
  exact H.pk f (eJ held [e.w] (λx hx hxk=>⟨(H.pk x hx hxk).2,λz=>by
   rw [ZV] at z;have:=eF H.nd hx he z;subst this;exact hk hxk⟩) (λz=>by rw [ZV] at z;exact H.ne e he z.symm) H.nd H.ne f hf hfk) hfk
 ·intro f hf
  have:f.w ∈ (backR [e.w] held).map (·.w):=QG.mpr ⟨f,hf,rfl⟩;rw [g8] at this;obtain ⟨x,hx,q⟩:=QG.mp this;rw [<- q];exact H.ne x hx
noncomputable def cQ(held:List En)(w:Str)(wr:Bool):Src->List En
 | .th i=>held++[⟨w,kindS wr,i, "",true⟩]
 | .hd u=>match aP held u with
  | some e=>held++[⟨w,kindS wr,e.t,if e.k == Str.ofString "pick" then "" else e.w,e.o⟩]
  | none=>held
section
variable (Φ:Str->List D->Option D)(Γ:Str->Option D)(N:Nat)
theorem uJ(held:List En)(hl:held.length<=1000)(w:Str):runFn Φ Γ N fn_law_back [.tuple (held.map En.d),.str w]=some (.tuple ((backR [w] held).map En.d)):=by
 refine av [some (.tuple (held.map En.d)),some (.str w),none,none,none] rfl rfl ?_;dsimp only [fn_law_back];refine bd (.list ([w].map .str)) rfl rfl (al (.tuple []) rfl rfl ?_);refine aN (bM (λk m=>∃ x4,m=[some (.tuple (held.map En.d)),some (.str w),some (.list (((held.take k).foldl bStep ([w],[])).1.map .str)),some (.tuple (((held.take k).foldl bStep ([w],[])).2.map En.d)),x4]) (cY (es:=held) (g:=En.d) (rfl)) rfl ⟨none,rfl⟩ (λk vs m hk hI=>?_)) ?_
 ·obtain ⟨x4,rfl⟩:=hI
  obtain ⟨e,he,rfl⟩:=gm hk;have hkl:k < held.length:=(Qq he).1;refine ⟨_,rfl,?_⟩;have ht:held.take (k+1)=held.take k++[e]:=by rw [Z1,he];rfl
  have l1:=(eH (held.take k) ([w],[])).1;have l2:=(eH (held.take k) ([w],[])).2;have lt:(held.take k).length<=1000:=by rw [ZF];exact QQ (Yq ..) hl
  rw [ht,List.foldl_append];simp only [YH,List.foldl_nil,sX,sN];generalize (held.take k).foldl bStep ([w],[])=s at l1 l2 ⊢;obtain ⟨g,acc⟩:=s;simp only [QV,QP] at l1 l2 ⊢;refine ar (aO (Q:=λm=>m=[some (.tuple (held.map En.d)),some (.str w),some (.list ((bStep (g,acc) e).1.map .str)),some (.tuple (acc.map En.d)),some (if hitB g e then e.gone else e).d]) (d:=.bool (hitB g e)) ?_ (am _) (λq=>?_) (λq=>?_)) ?_
  ·refine eT ?_ ?_
   ·exact aj (ad rfl rfl (En.idx0 e)) rfl (cq e.w g)
   ·exact aj (ad rfl rfl (En.idx3 e)) rfl (cq e.s g)
  ·refine bH (d:=.str e.w) rfl (rfl) rfl (by rw [lX];exact QQ l1 (QQ (ZQ lt _) (by decide))) ?_
   refine aw e.gone.d rfl rfl (ah ?_);simp only [bStep,q,if_true,Qb,QX,ZC];rfl
  ·refine ah ?_
   simp only [bStep,q,QD,if_false]
  rintro _ rfl;refine aw (.tuple ((bStep (g,acc) e).2.map En.d)) ?_ rfl (ah ⟨_,rfl⟩);simp only [x_v,cB,bh,aH,ax,gX,gN,bX,mX];rw [gY _ _ (by simp only [lX,QV,QP];exact QQ (QT (QQ (Zd (l2.trans (Zc _))) lt)) (by decide))];unfold bStep;split<;>simp
 ·refine al1 λx4=>?_
  refine af ?_ rfl;have:=dm held [w] [];simp only [YE] at this;simp only [x_v,gX,gN,bX,lX,Yz,this]
theorem xA(a:Str)(i:Int):bl .Eq (.str a) (.int i)=some false:=rfl
theorem uK(held:List En)(hl:held.length<=1000)(nd:(held.map (·.w)).Nodup)(w:Str)(wr:Bool)(s:Src)(hs:∀ u,s = .hd u->∃ e ∈ held,e.w=u) :
 runFn Φ Γ N fn_law_lent [.tuple (held.map En.d),(Row.lend w wr s).d]=some (.tuple ((cQ held w wr s).map En.d)):=by
 have i3:item (Row.lend w wr s).d (.int 3)=some s.d:=rfl;have i1:item (Row.lend w wr s).d (.int 1)=some (.str w):=rfl;have i2:item (Row.lend w wr s).d (.int 2)=some (.str (kindS wr)):=rfl;refine av [some (.tuple (held.map En.d)),some (Row.lend w wr s).d,none,none,none,none] rfl rfl ?_;dsimp only [fn_law_lent];refine al s.d (rfl) rfl (al (.str "") rfl rfl (al (.bool true) rfl rfl ?_));simp only [sX,sN];generalize hrow:(Row.lend w wr s).d=row at i1 i2 i3 ⊢;cases s with
 | th i=>
  refine aN (bM (λk m=>∃ x5,m=[some (.tuple (held.map En.d)),some row,some (.int i),some (.str ""),some (.bool true),x5]) (cY (es:=held) (g:=En.d) (rfl)) rfl ⟨none,rfl⟩ (λk vs m hk hI=>?_)) ?_
  ·obtain ⟨x5,rfl⟩:=hI
   obtain ⟨e,he,rfl⟩:=gm hk;refine ⟨_,rfl,?_⟩;refine ar (aO (Q:=λm=>∃ x5,m=[some (.tuple (held.map En.d)),some row,some (.int i),some (.str ""),some (.bool true),x5]) (d:=.bool false) ?_ (am _) (λq=>by cases q) (λo_=>ah ⟨_,rfl⟩)) λm e=>ah e;exact aj (ad rfl rfl (En.idx0 e)) (ad rfl rfl i3) (xA e.w i)
  ·refine al1 λx5=>?_
   refine af ?_ rfl;simp only [x_k,x_v,cB,bh,bj,aH,ax,gX,gN,bX,mX,i1,i2];rw [gY _ _ (by simp only [lX,QV,QP];exact QQ (QT hl) (by decide))];simp [cQ,En.d]
 | hd u=>
  obtain ⟨e0,he0,hw0⟩:=hs u rfl;subst hw0
  let T:Option En->D:=λo=>match o with | some e=>.int e.t | none=>.str e0.w
  let S:Option En->Str:=λo=>match o with | some e=>if e.k == Str.ofString "pick" then Str.ofString "" else e.w | none=>Str.ofString ""
  let O:Option En->Bool:=λo=>match o with | some e=>e.o | none=>true
  refine aN (bM (λk m=>∃ x5,m=[some (.tuple (held.map En.d)),some row,some (T ((held.take k).find? λx=>x.w == e0.w)),some (.str (S ((held.take k).find? λx=>x.w == e0.w))),some (.bool (O ((held.take k).find? λx=>x.w == e0.w))),x5]) (cY (es:=held) (g:=En.d) (rfl)) rfl ⟨none,rfl⟩ (λk vs m hk hI=>?_)) ?_
  ·obtain ⟨x5,rfl⟩:=hI
   obtain ⟨e,he,rfl⟩:=gm hk;have hkl:k < held.length:=(Qq he).1;refine ⟨_,rfl,?_⟩;have ht:held.take (k+1)=held.take k++[e]:=by rw [Z1,he];rfl
   rw [ht,List.find?_append];simp only [sX,sN];have hc:evE Φ Γ (.cmp .Eq (.idx (.v 5) (.k (.int 0))) (.idx (.v 1) (.k (.int 3)))) [some (.tuple (held.map En.d)),some row,some (T ((held.take k).find? λx=>x.w == e0.w)),some (.str (S ((held.take k).find? λx=>x.w == e0.w))),some (.bool (O ((held.take k).find? λx=>x.w == e0.w))),some e.d]=some (.bool (e.w == e0.w)):=by
    exact aj (ad rfl rfl (En.idx0 e)) (ad rfl rfl i3) (kJ e.w e0.w)
   cases hq:(e.w == e0.w) with
   | false=>
    rw [hq] at hc;have h1:([e].find? λx=>x.w == e0.w)=none:=by simp [hq]
    exact h1 ▸ Option.or_none ▸ (ar (aO (Q:=λm=>∃ x5,m=[some (.tuple (held.map En.d)),some row,some (T ((held.take k).find? λx=>x.w == e0.w)),some (.str (S ((held.take k).find? λx=>x.w == e0.w))),some (.bool (O ((held.take k).find? λx=>x.w == e0.w))),x5]) hc (am _) (λq=>by cases q) (λo_=>ah ⟨_,rfl⟩)) λm e=>ah e)
   | true=>
    rw [hq] at hc;have h1:([e].find? λx=>x.w == e0.w)=some e:=by simp [hq]
    have h2:((held.take k).find? λx=>x.w == e0.w)=none:=by
     rw [Yi];intro x hx z;have hx2:x.w=e.w:=by rw [Q5] at z hq;rw [z,hq]
     have nd2:=nd;rw [<- List.take_append_drop (k+1) held,ht,Y4,Qb,Y3] at nd2;exact nd2.2.2 x.w (QG.mpr ⟨x,hx,rfl⟩) e.w (QG.mpr ⟨e,by simp,rfl⟩) hx2
    rw [h1,h2,Option.none_or];refine ar (aO (Q:=λm=>∃ x5,m=[some (.tuple (held.map En.d)),some row,some (T (some e)),some (.str (S (some e))),some (.bool (O (some e))),x5]) (by rw [h2] at hc;exact hc) (am _) (λo_=>?_) (λq=>by cases q)) λm e=>ah e;refine aw (.int e.t) (rfl) rfl (aw (.bool e.o) (rfl) rfl ?_);simp only [sX,sN];refine ar (aO (Q:=λm=>∃ x5,m=[some (.tuple (held.map En.d)),some row,some (T (some e)),some (.str (S (some e))),some (.bool (O (some e))),x5]) (d:=.bool (!(e.k == Str.ofString "pick"))) (rfl) (am _) (λq=>?_) (λq=>?_)) λm e=>ah e
    ·have q2:(e.k == Str.ofString "pick")=false:=by simpa using q
     refine aw (.str e.w) (rfl) rfl (ah ⟨some e.d,?_⟩);simp only [T,S,O,q2];rfl
    ·have q2:(e.k == Str.ofString "pick")=true:=by simpa using q
     refine ah ⟨some e.d,?_⟩;simp only [T,S,O,q2];rfl
  ·refine al1 λx5=>?_
   have hf2:(held.find? λx=>x.w == e0.w)=some e0:=(be nd he0)
   refine af ?_ rfl;simp only [x_k,x_v,cB,bh,bj,aH,ax,lX,Yz,hf2,gX,gN,bX,mX,i1,i2,T,S,O];rw [gY _ _ (by simp only [lX,QV,QP];exact QQ (QT hl) (by decide))];simp [cQ,(be nd he0),En.d]
end
end Mine
set_option tactic.hygienic false
namespace Mine
open PySem
noncomputable def Row.isAgain:Row->Bool
 | .again=>true
 | _=>false
noncomputable def aE(rows:List Row)(k:Nat)(row:Row)(held:List En)(c:Int):Nat × List En:=
 match row with
 | .lend w q s=>(k+1,cQ held w q s)
 | .pick w ts=>(k+1,held++[⟨w, "pick",ts.getD (c.fmod ts.length).toNat 0, "",true⟩])
 | .deed v w=>(k+1,if v = .back then backR [w] held else held)
 | .either=>(((startL rows k).getD (c.fmod (startL rows k).length).toNat 0).toNat,held)
 | .orr=>((endAt rows (home rows k).toNat rows.length).toNat,held)
 | .again=>if c.fmod 2=0 then ((endAt rows k rows.length).toNat+1,held) else (k+1,held)
 | .fin=>if isAt rows Row.isAgain (home rows k).toNat then ((home rows k).toNat,held) else if isAt rows Row.isEither (home rows k).toNat then (k+1,held) else (k+1,held.dropLast)
theorem rK(rows:List Row)(k:Nat)(held:List En)(c:Int)(w:Str)(q:Bool)(s:Src):aE rows k (Row.lend w q s) held c=(k+1,cQ held w q s):=rfl
theorem iJ(rows:List Row)(k:Nat)(held:List En)(c:Int)(w:Str)(ts:List Int):aE rows k (Row.pick w ts) held c=(k+1,held++[(⟨w, "pick",ts.getD (c.fmod ts.length).toNat 0, "",true⟩:En)]):=rfl
theorem rL(rows:List Row)(k:Nat)(held:List En)(c:Int)(v:Verb)(w:Str):aE rows k (Row.deed v w) held c=(k+1,if v=Verb.back then backR [w] held else held):=rfl
theorem eK(rows:List Row)(k:Nat)(held:List En)(c:Int):aE rows k Row.either held c=(((startL rows k).getD (c.fmod ↑(startL rows k).length).toNat 0).toNat,held):=rfl
theorem iK(rows:List Row)(k:Nat)(held:List En)(c:Int):aE rows k Row.orr held c=((endAt rows (home rows k).toNat rows.length).toNat,held):=rfl
theorem cJ(rows:List Row)(k:Nat)(held:List En)(c:Int):aE rows k Row.again held c=if c.fmod 2=0 then ((endAt rows k rows.length).toNat+1,held) else (k+1,held):=rfl
theorem iL(rows:List Row)(k:Nat)(held:List En)(c:Int):aE rows k Row.fin held c=if isAt rows Row.isAgain (home rows k).toNat=true then ((home rows k).toNat,held) else if isAt rows Row.isEither (home rows k).toNat=true then (k+1,held) else (k+1,held.dropLast):=rfl
theorem HeldOk.congr{os os':List Row}{held:List En}(H:HeldOk os held)(h:os'.filter Row.isNamed=os.filter Row.isNamed):HeldOk os' held:=⟨by rw [h];exact H.mt,H.pk,H.nd,H.ne⟩
theorem HeldOk.mem'{os:List Row}{held:List En}(H:HeldOk os held){e:En}(he:e ∈ held):∃ x ∈ os,x.isNamed=true/\x.word=e.w/\x.kindS=e.k:=by
 have:(e.w,e.k) ∈ held.map λe=>(e.w,e.k):=QG.mpr ⟨e,he,rfl⟩;rw [H.mt,ZE] at this;obtain ⟨x,hx,q⟩:=QG.mp this;rw [Q9] at hx;simp only [Prod.mk.injEq] at q;exact ⟨x,hx.1,hx.2,q.1,q.2⟩
theorem HeldOk.push{os:List Row}{held:List En}(H:HeldOk os held){row:Row}(hn:row.isNamed=true){e:En}(h1:e.w=row.word)(h2:e.k=row.kindS)(h3:e.k=Str.ofString "pick" -> e.o=true/\e.s=Str.ofString "")(hf:d3 os row.word):HeldOk (row::os) (held++[e]):=by
 refine ⟨?_,?_,?_,?_⟩
 ·have hrw:(row::os).filter Row.isNamed=row::os.filter Row.isNamed:=by rw [ZG,Ql hn]
  rw [hrw,Qb,H.mt];simp [h1,h2]
 ·intro x hx hk
  rcases QY hx with q | q
  ·exact H.pk x q hk
  ·rw [ZV] at q;subst q;exact h3 hk
 ·rw [Qb,Y3]
  refine ⟨H.nd,by simp,λa ha b hb q=>?_⟩;rw [QX,ZC,ZV] at hb;obtain ⟨x,hx,rfl⟩:=QG.mp ha;obtain ⟨y,hy,hyn,hyw,_⟩:=H.mem' hx;exact hf.2 y hy hyn (by rw [hyw,q,hb,h1])
 ·intro x hx
  rcases QY hx with q | q
  ·exact H.ne x q
  ·rw [ZV] at q;subst q;rw [h1];exact hf.1
theorem HeldOk.pop{os:List Row}{held:List En}{row:Row}(H:HeldOk (row::os) held)(hn:row.isNamed=true):HeldOk os held.dropLast:=by
 refine ⟨?_,λe he=>H.pk e ((ZT held).subset he),H.nd.sublist ((ZT held).map _),λe he=>H.ne e ((ZT held).subset he)⟩;have:=Qf List.dropLast H.mt;rw [ZG,Ql hn,QX,Z2,Yu] at this;rw [<- this,Zu]
theorem fF{rows:List Row}{k:Nat}{r:Row}(h:rows[k]?=some r):ost rows (k+1)=push r (ost rows k):=by
 unfold ost;rw [bf h,stp];unfold push;split
 ·simp [List.getD,h]
 ·split
  ·rw [List.map_tail]
  ·rfl
theorem dF{rows:List Row}{k j:Nat}(h:home rows k=(j:Int)):ost rows k=rows.getD j .fin::ost rows j:=by
 unfold ost;rw [rB h];rfl
theorem kU{rows:List Row}{k:Nat}(h:k<=rows.length):(ost rows k).length<=rows.length:=by
 unfold ost;rw [lX];exact QQ (gj rows k) h
theorem HeldOk.len{os:List Row}{held:List En}(H:HeldOk os held):held.length<=os.length:=by
 have:=Qf List.length H.mt;simp only [lX,Z8] at this;rw [this];exact Zz _ _
theorem dG{rows:List Row}{k:Nat}(h:ost rows k ≠ []):∃ j:Nat,home rows k=(j:Int):=by
 rcases pr rows k with q | ⟨j,q,_⟩
 ·exfalso
  unfold home at q;cases hs:stk rows k with
  | nil=>exact h (by unfold ost;rw [hs];rfl)
  | cons x l=>rw [hs] at q;simp only [g6] at q;exact (nomatch (q:Int.ofNat x=Int.negSucc 0))
 ·exact ⟨j,q⟩
theorem aD{rows:List Row}{j:Nat}(hj:j < rows.length):rows[j]?=some (rows.getD j .fin):=by
 rw [Qk hj];simp [List.getD,Qk hj]
structure Goes(rows:List Row)(k:Nat)(row:Row)(c:Int)(k':Nat):Prop where
 le:k'<=rows.length
 way:(row.isAgain=false/\k < k')\/(row.isAgain=false/\isAt rows Row.isAgain k'=true/\endAt rows k' rows.length=(k:Int))\/(row.isAgain=true/\((k'=k+1/\c.fmod 2 ≠ 0)\/∃ e:Nat,endAt rows k rows.length=(e:Int)/\k'=e+1))
theorem d5{rows:List Row}{k i:Nat}{x:Int}(h:(startL rows k)[i]?=some x):x=(k:Int)+1\/∃ j:Nat,x=(j:Int)+1/\j < rows.length/\isAt rows Row.isOr j=true/\home rows j=(k:Int):=by
 unfold startL at h;cases i with
 | zero=>simp at h;exact .inl h.symm
 | succ i=>
  rw [gX,Qy] at h;obtain ⟨j,hj,rfl⟩:=QK h;have:=Qa hj;rw [Q9,ZJ,Qj,Q5] at this;exact .inr ⟨j,rfl,this.1,this.2.1,this.2.2⟩
theorem iM(rows:List Row)(k:Nat)(c:Int):∃ x,(startL rows k)[(c.fmod (startL rows k).length).toNat]?=some x/\item (.list ((startL rows k).map .int)) (.int (c.fmod (startL rows k).length))=some (.int x):=by
 have hp:0 < (startL rows k).length:=by simp [startL]
 have f2:=aC c (b:=((startL rows k).length:Int)) (by exact QZ hp);have hlt:(c.fmod (startL rows k).length).toNat < (startL rows k).length:=by exact (Z5 (au c (QZ hp))).mpr f2
 refine ⟨_,Qk hlt,?_⟩;exact p_mk (k:=(c.fmod (startL rows k).length).toNat) (a7 (au c (b:=((startL rows k).length:Int)) (by exact QZ hp)) (by simpa using f2)) (by rw [Qy,Qk hlt];rfl)
theorem ce{row:Row}{os:List Row}(h:row.isNamed=false):(row::os).filter Row.isNamed=os.filter Row.isNamed:=by rw [ZG,h];rfl
set_option tactic.hygienic true in
theorem kW{rows:List Row}(nd:Nested rows)(wf:WfR [] rows){k:Nat}{row:Row}(hr:rows[k]?=some row){held:List En}(H:HeldOk (ost rows k) held)(c:Int) :
 Goes rows k row c (aE rows k row held c).1/\HeldOk (ost rows (aE rows k row held c).1) (aE rows k row held c).2:=by
 have hk:k < rows.length:=(Qq hr).1;have hv:=cP wf hr;have hs:=fF hr;cases row with
 | lend w q s=>
  refine ⟨⟨hk,.inl ⟨rfl,QA k⟩⟩,?_⟩;show HeldOk (ost rows (k+1)) (cQ held w q s);rw [hs];show HeldOk (Row.lend w q s::ost rows k) _;have hp:∀ (t:Int) (sr:Str) (o:Bool),HeldOk (Row.lend w q s::ost rows k) (held++[⟨w,kindS q,t,sr,o⟩]):=λt sr o=>H.push rfl rfl rfl (λz=>absurd z (eY q)) hv.1;cases s with
  | th i=>exact hp _ _ _
  | hd u=>
   refine byG λX_ g_=>?_;obtain ⟨_,x,hx,hn,hu,_⟩:=hv;obtain ⟨e,he,hw,_⟩:=H.mem hx hn;refine g_ ?_;have:aP held u=some e:=by rw [<- hu,<- hw];exact be H.nd he
   simp only [cQ,this];exact hp _ _ _
 | pick w ts=>
  refine ⟨⟨hk,.inl ⟨rfl,QA k⟩⟩,?_⟩;show HeldOk (ost rows (k+1)) _;rw [hs];exact H.push rfl rfl rfl (λo_=>⟨rfl,rfl⟩) hv.1
 | deed v w=>
  refine ⟨⟨hk,.inl ⟨rfl,QA k⟩⟩,?_⟩;show HeldOk (ost rows (k+1)) (if v = .back then backR [w] held else held);rw [hs];show HeldOk (ost rows k) _;split
  ·refine byG λX_ g_=>?_
   obtain ⟨x,hx,hl,hu,_⟩:=hv;obtain ⟨e,he,hw,hkk⟩:=H.mem hx (dE hl);refine g_ ?_;have:=H.back he (by rw [hkk];unfold Row.kindS;rw [Ql hl];exact eY _);rw [hw,hu] at this;exact this
  ·exact H
 | either=>
  refine byG λX_ g_=>?_;obtain ⟨x,e1,_⟩:=iM rows k c;refine g_ ?_;have hst:(aE rows k .either held c)=(x.toNat,held):=by simp only [eK,List.getD,e1,Zr]
  rw [hst];rcases d5 e1 with q | ⟨j,q,hj,ho,hh⟩
  ·subst q
   rw [show ((k:Int)+1).toNat=k+1 by exact rfl];refine ⟨⟨hk,.inl ⟨rfl,QA k⟩⟩,?_⟩;show HeldOk (ost rows (k+1)) held;rw [hs];exact H.congr (ce rfl)
  ·subst q
   rw [show ((j:Int)+1).toNat=j+1 by exact rfl];refine ⟨⟨hj,.inl ⟨rfl,by exact Nat.le.step (b7 hh)⟩⟩,?_⟩;show HeldOk (ost rows (j+1)) held;have:(rows.getD j .fin).isOr=true:=by rw [<- aI (aD hj) Row.isOr];exact ho
   have hpush:push (rows.getD j .fin) (ost rows j)=ost rows j:=by
    generalize rows.getD j .fin=y at this ⊢;cases y<;>first | rfl | cases this
   rw [fF (aD hj),hpush,dF hh];have hg:rows.getD k .fin = .either:=by simp [List.getD,hr]
   exact hg ▸ (H.congr (ce rfl))
 | again=>
  obtain ⟨e,he,hel,hke,hfe,hhe⟩:=b9 nd (j:=k) (by rw [aI hr];rfl);simp only [cJ];split
  ·rw [he,QN]
   refine ⟨⟨hel,.inr (.inr ⟨rfl,.inr ⟨e,he,rfl⟩⟩)⟩,?_⟩;show HeldOk (ost rows (e+1)) held;have hf:(rows.getD e .fin).isFin=true:=by rw [<- aI (aD hel) Row.isFin];exact hfe
   have hpush:∀ os,push (rows.getD e .fin) os=os.tail:=λos=>by
    generalize rows.getD e .fin=y at hf ⊢;cases y<;>first | rfl | cases hf
   rw [fF (aD hel),hpush,dF hhe];exact H
  ·rename_i hc
   refine ⟨⟨hk,.inr (.inr ⟨rfl,.inl ⟨rfl,hc⟩⟩)⟩,?_⟩;show HeldOk (ost rows (k+1)) held;rw [hs];exact H.congr (ce rfl)
 | orr=>
  have hne:ost rows k ≠ []:=by
   intro q;have hv:(ost rows k).head?.any Row.isEither=true:=hv;rw [q] at hv;cases hv
  refine byG λX_ g_=>?_;obtain ⟨j,hj⟩:=dG hne;have hjk:=b7 hj;have hoj:=bQ rows k j (cj hj);obtain ⟨e,he,hel,hje,hfe,hhe⟩:=b9 nd hoj;refine g_ ?_;have hke:k < e:=by
   rcases Nat.lt_trichotomy k e with q | q | q
   ·exact q
   ·subst q
    rw [aI hr] at hfe;cases hfe
   ·exact (lR hfe hhe hj q).elim
  have hst:(aE rows k .orr held c)=(e,held):=by simp only [iK,hj,QN,he]
  rw [hst];refine ⟨⟨Qm hel,.inl ⟨rfl,hke⟩⟩,?_⟩;show HeldOk (ost rows e) held;rw [dF hhe,<- dF hj];exact H
 | fin=>
  obtain ⟨j,hj⟩:=dG (show ost rows k ≠ [] from hv);have hjk:=b7 hj;have hrj:=aD (rows:=rows) (j:=j) (by exact Za hjk hk);rw [dF hj] at H;have hs':ost rows (k+1)=ost rows j:=by rw [hs,dF hj];rfl
  simp only [iL,hj,QN];split
  ·rename_i ha
   refine ⟨⟨by exact Qm (Za hjk hk),.inr (.inl ⟨rfl,ha,(fD (by rw [aI hr];rfl) hj _ hk)⟩)⟩,?_⟩;show HeldOk (ost rows j) held;rw [aI hrj] at ha;refine H.congr (ce ?_).symm;generalize rows.getD j .fin=y at ha;cases y<;>first | rfl | cases ha
  ·rename_i ha
   split
   ·rename_i hei
    refine ⟨⟨hk,.inl ⟨rfl,QA k⟩⟩,?_⟩;show HeldOk (ost rows (k+1)) held;rw [hs'];rw [aI hrj] at hei;refine H.congr (ce ?_).symm;generalize rows.getD j .fin=y at hei;cases y<;>first | rfl | cases hei
   ·rename_i hei
    refine ⟨⟨hk,.inl ⟨rfl,QA k⟩⟩,?_⟩;show HeldOk (ost rows (k+1)) held.dropLast;rw [hs'];refine H.pop ?_;have hoj:=bQ rows k j (cj hj);rw [aI hrj] at ha hei hoj;generalize rows.getD j .fin=y at ha hei hoj;cases y<;>first | rfl | (exact absurd rfl ha) | (exact absurd rfl hei) | cases hoj
noncomputable def mu(rows:List Row)(t k:Nat):Nat:=
 if isAt rows Row.isAgain k=true then (if t < 20 then (20 - t) * (2 * rows.length+4) - 1 else 2 * (rows.length - (endAt rows k rows.length).toNat) - 1)
 else (20 - t) * (2 * rows.length+4)+2 * (rows.length - k)
end Mine
set_option tactic.hygienic false
namespace Mine
open PySem
noncomputable def stD(p:Nat × List En):D:=.tuple [.int (p.1:Int),.tuple (p.2.map En.d)]
set_option tactic.hygienic true in
theorem jQ(r:Row):(r.tag == Str.ofString "again")=r.isAgain:=by
 cases r<;>first | rfl | (rename_i v w;cases v<;>rfl)
noncomputable def Row.chooses:Row->Bool
 | .pick ..=>true
 | .either=>true
 | .again=>true
 | _=>false
set_option tactic.hygienic true in
theorem kX(r:Row):(["pick", "either", "again"].any λy=>Str.ofString y == r.tag)=r.chooses:=by
 cases r<;>first | rfl | (rename_i v w;cases v<;>rfl)
theorem g9(r:Row):pyIn (.str r.tag) (.list [.str "pick",.str "either",.str "again"])=some r.chooses:=by
 rw [<- kX];exact cq r.tag (["pick", "either", "again"].map Str.ofString)
theorem lY(l:List D):cut l none (some (-1))=l.dropLast:=by
 have hc:cm l.length (-1)=l.length - 1:=by unfold cm;rw [Ql (by decide)];exact cW l.length (by decide)
 simp only [cut,XK,Xx,mX,Zr,hc,List.drop_zero,Nat.sub_zero];rw [Xe]
section
variable {Φ:Str->List D->Option D}{Γ:Str->Option D}{m:St}{ow:List Nat}{fr:Bool}{N:Nat}
theorem rM{c:Ex}{body:Sms}{Q:St->Prop}(I:Nat->St->Prop)(hs:∀ n m,I n m->∃ b,(evE Φ Γ c m).bind truth=some b/\(b=false->Q m)/\(b=true->Go (exSs Φ Γ ow fr N body m) (λm'=>∃ n',n' < n/\I n' m')))(n:Nat)(m:St)(hn:n < N)(h:I n m):Go (exS Φ Γ ow fr N (.wh c body) m) Q:=by
 have main:∀ (f n:Nat) (m:St),n < f->I n m->Go (whL (λm=>(evE Φ Γ c m).bind truth) (λm=>exSs Φ Γ ow fr N body m) f m) Q:=by
  intro f;induction f with
  | zero=>intro n m h _;exact absurd h (ZY n)
  | succ f ih=>
   intro n m hf h;obtain ⟨b,h1,h2,h3⟩:=hs n m h;cases b with
   | false=>exact ⟨m,by simp only [mi,h1],h2 rfl⟩
   | true=>
    refine byG λX_ g_=>?_;obtain ⟨m1,e1,n',hn',hI⟩:=h3 rfl;obtain ⟨m2,e2,hQ⟩:=ih n' m1 (by exact Qe hn' (Q7 hf)) hI;refine g_ ?_;exact ⟨m2,by simp only [mi,h1,e1];exact e2,hQ⟩
 have:=main N n m hn h;have hex:exS Φ Γ ow fr N (.wh c body) m=whL (λm=>(evE Φ Γ c m).bind truth) (λm=>exSs Φ Γ ow fr N body m) N m:=by rfl
 rw [hex];exact this
end
section
variable (Φ:Str->List D->Option D)(Γ:Str->Option D)(N:Nat)
theorem uL(rows:List Row)(hl:rows.length<=1000)(nd:Nested rows)(wf:WfR [] rows)
 (hlent:∀ (held:List En),held.length<=1000->(held.map (·.w)).Nodup->∀ (w:Str) (wr:Bool) (s:Src),(∀ u,s = .hd u->∃ e ∈ held,e.w=u)->Φ "_law_lent" [.tuple (held.map En.d),(Row.lend w wr s).d]=some (.tuple ((cQ held w wr s).map En.d)))
 (hback:∀ (held:List En),held.length<=1000->∀ w:Str,Φ "_law_back" [.tuple (held.map En.d),.str w]=some (.tuple ((backR [w] held).map En.d)))
 (hstart:∀ (j:Nat),j < rows.length->Φ "_law_starts" [.list (rows.map Row.d),.list ((homeL rows).map .int),.int (j:Int)]=some (.list ((startL rows j).map .int)))
 (hlast:∀ (j:Nat),j < rows.length->Φ "_law_last" [.list (rows.map Row.d),.list ((homeL rows).map .int),.int (j:Int)]=some (.int (endAt rows j rows.length)))
 (k:Nat) (row:Row) (hr:rows[k]?=some row) (held:List En) (H:HeldOk (ost rows k) held) (c:Int) :
 runFn Φ Γ N fn_law_step [.list (rows.map Row.d),.list ((homeL rows).map .int),stD (k,held),.int c]=some (stD (aE rows k row held c)):=by
 have hk:k < rows.length:=(Qq hr).1;have hhl:held.length<=1000:=QQ H.len (QQ (kU (Qm hk)) hl);have hv:=cP wf hr;have i0:item (stD (k,held)) (.int 0)=some (.int (k:Int)):=rfl;have i1:item (stD (k,held)) (.int 1)=some (.tuple (held.map En.d)):=rfl;have hg:=aZ hr;have hh:=bS (b8 hk);refine av [some (.list (rows.map Row.d)),some (.list ((homeL rows).map .int)),some (stD (k,held)),some (.int c),none,none,none,none,none] rfl rfl ?_;dsimp only [fn_law_step];generalize hst:stD (k,held)=st at i0 i1 ⊢;refine al (.int (k:Int)) (ad rfl rfl i0) rfl (al (.tuple (held.map En.d)) (ad rfl rfl i1) rfl (al (.str row.tag) (ad (ad rfl rfl hg) rfl (Row.i0 row)) rfl ?_));simp only [sX,sN];generalize hR:PyData.list (rows.map Row.d)=R at *;generalize hHm:PyData.list ((homeL rows).map .int)=Hm at *;cases row with
 | lend w q s=>
  refine aN (Q':=λm=>m=[some R,some Hm,some st,some (.int c),some (.int (k:Int)),some (.tuple ((cQ held w q s).map En.d)),some (.str (Row.lend w q s).tag),none,none]) (aO (d:=.bool true) rfl rfl (λo_=>aw (.tuple ((cQ held w q s).map En.d)) (ai (esC rfl (esC (ad rfl rfl hg) es0)) (hlent held hhl H.nd w q s (λu hu=>by
   subst hu;refine byG λX_ g_=>?_;obtain ⟨_,x,hx,hn,hu,_⟩:=hv;obtain ⟨e,he,hw,_⟩:=H.mem hx hn;refine g_ ?_;exact ⟨e,he,hw.trans hu⟩))) rfl (ah rfl)) (λz=>by cases z)) ?_
  rintro _ rfl;exact ag (x:=.bool false) rfl rfl (ag (x:=.bool false) rfl rfl (ag (x:=.bool false) rfl rfl (ag (x:=.bool false) rfl rfl (ag (x:=.bool false) rfl rfl (ag (x:=.bool false) rfl rfl (ag (x:=.bool false) rfl rfl (af rfl rfl)))))))
 | pick w ts=>
  have hne:0 < ts.length:=by
   cases ts with
   | nil=>exact absurd rfl hv.2.1
   | cons=>simp
  have f2:=aC c (b:=(ts.length:Int)) (by exact QZ hne);have hlt:(c.fmod ts.length).toNat < ts.length:=by exact (Z5 (au c (QZ hne))).mpr f2
  have hit:item (.tuple (ts.map .int)) (.int (c.fmod ts.length))=some (.int (ts.getD (c.fmod ts.length).toNat 0)):=
   wx (k:=(c.fmod ts.length).toNat) (a7 (au c (b:=(ts.length:Int)) (by exact QZ hne)) (by simpa using f2)) (by rw [Qy,Qk hlt];simp [List.getD,Qk hlt])
  have j1:item (Row.pick w ts).d (.int 1)=some (.str w):=rfl;refine ag (x:=.bool false) rfl rfl ?_;refine aN (Q':=λm=>∃ x7,m=[some R,some Hm,some st,some (.int c),some (.int (k:Int)),some (.tuple ((held++[⟨w, "pick",ts.getD (c.fmod ts.length).toNat 0, "",true⟩]:List En).map En.d)),some (.str (Row.pick w ts).tag),x7,none]) (aO (d:=.bool true) rfl rfl (λo_=>?_) (λz=>by cases z)) ?_
  ·refine aw (.tuple (ts.map .int)) (ad (ad rfl rfl hg) rfl rfl) rfl ?_
   simp only [sX,sN];refine aw (.tuple ((held++[⟨w, "pick",ts.getD (c.fmod ts.length).toNat 0, "",true⟩]:List En).map En.d)) ?_ rfl (ah ⟨_,rfl⟩);simp only [x_k,x_v,cB,bh,bj,x_b1,aH,ax,o6,lX,gX,gN,bX,mX,hg,j1,bw _ (ts.length:Int) (by exact YR (QZ hne)),hit];rw [gY _ _ (by simp only [lX,QV,QP];exact QQ (QT hhl) (by decide))];simp [En.d]
  refine al1 λx7=>?_;exact ag (x:=.bool false) rfl rfl (ag (x:=.bool false) rfl rfl (ag (x:=.bool false) rfl rfl (ag (x:=.bool false) rfl rfl (ag (x:=.bool false) rfl rfl (ag (x:=.bool false) rfl rfl (af rfl rfl))))))
 | deed v w=>
  by_cases hb:v = .back
  ·subst hb
   refine ag (x:=.bool false) rfl rfl (ag (x:=.bool false) rfl rfl ?_);refine aN (Q':=λm=>m=[some R,some Hm,some st,some (.int c),some (.int (k:Int)),some (.tuple ((backR [w] held).map En.d)),some (.str (Row.deed .back w).tag),none,none]) (aO (d:=.bool true) rfl rfl (λo_=>aw (.tuple ((backR [w] held).map En.d)) (ai (esC rfl (esC (ad (ad rfl rfl hg) rfl rfl) es0)) (hback held hhl w)) rfl (ah rfl)) (λz=>by cases z)) ?_;rintro _ rfl;exact ag (x:=.bool false) rfl rfl (ag (x:=.bool false) rfl rfl (ag (x:=.bool false) rfl rfl (ag (x:=.bool false) rfl rfl (ag (x:=.bool false) rfl rfl (af rfl rfl)))))
  ·have hso:aE rows k (.deed v w) held c=(k+1,held):=by simp only [rL,Qu hb]
   rw [hso];cases v with
   | back=>exact absurd rfl hb
   | look=>exact ag (x:=.bool false) rfl rfl (ag (x:=.bool false) rfl rfl (ag (x:=.bool false) rfl rfl (ag (x:=.bool false) rfl rfl (ag (x:=.bool false) rfl rfl (ag (x:=.bool false) rfl rfl (ag (x:=.bool false) rfl rfl (ag (x:=.bool false) rfl rfl (af rfl rfl))))))))
   | change=>exact ag (x:=.bool false) rfl rfl (ag (x:=.bool false) rfl rfl (ag (x:=.bool false) rfl rfl (ag (x:=.bool false) rfl rfl (ag (x:=.bool false) rfl rfl (ag (x:=.bool false) rfl rfl (ag (x:=.bool false) rfl rfl (ag (x:=.bool false) rfl rfl (af rfl rfl))))))))
 | either=>
  obtain ⟨x,e1,e2⟩:=iM rows k c;have hp:0 < (startL rows k).length:=by simp [startL]
  have hx:(x.toNat:Int)=x:=by
   rcases d5 e1 with q | ⟨j,q,_⟩<;>(rw [q];rfl)
  refine ag (x:=.bool false) rfl rfl (ag (x:=.bool false) rfl rfl (ag (x:=.bool false) rfl rfl ?_));refine ao (x:=.bool true) rfl rfl (al (.list ((startL rows k).map .int)) (ai (esC rfl (esC rfl (esC rfl es0))) (hstart k hk)) rfl ?_);simp only [sX,sN];refine af ?_ rfl;have hso:aE rows k .either held c=(x.toNat,held):=by simp only [eK,List.getD,e1,Zr]
  rw [hso];simp only [x_v,cB,bh,bj,x_b1,aH,ax,cZ,lX,gX,gN,bX,mX,bw _ ((startL rows k).length:Int) (by exact YR (QZ hp)),e2,stD,hx]
 | orr=>
  have hne:ost rows k ≠ []:=by
   intro q;have hv:(ost rows k).head?.any Row.isEither=true:=hv;rw [q] at hv;cases hv
  refine byG λX_ g_=>?_;obtain ⟨j,hj⟩:=dG hne;have hjk:=b7 hj;obtain ⟨e,he,hel,hje,hfe,hhe⟩:=b9 nd (bQ rows k j (cj hj));refine g_ ?_;rw [hj] at hh;refine ag (x:=.bool false) rfl rfl (ag (x:=.bool false) rfl rfl (ag (x:=.bool false) rfl rfl (ag (x:=.bool false) rfl rfl ?_)));refine ao (x:=.bool true) rfl rfl (af ?_ rfl);have hso:aE rows k .orr held c=(e,held):=by simp only [iK,hj,QN,he]
  rw [hso];simp only [x_v,cB,bj,bg,aH,ax,gX,gN,bX,mX,hh,hlast j (by exact Za hje hel),he,stD]
 | again=>
  obtain ⟨e,he,hel,hke,hfe,hhe⟩:=b9 nd (j:=k) (by rw [aI hr];rfl);refine ag (x:=.bool false) rfl rfl (ag (x:=.bool false) rfl rfl (ag (x:=.bool false) rfl rfl (ag (x:=.bool false) rfl rfl (ag (x:=.bool false) rfl rfl ?_))));have hc:evE Φ Γ (.bool true (.cons (.cmp .Eq (.v 6) (.k (.str "again"))) (.cons (.cmp .Eq (.bin .Mod (.v 3) (.k (.int 2))) (.k (.int 0))) .nil))) [some R,some Hm,some st,some (.int c),some (.int (k:Int)),some (.tuple (held.map En.d)),some (.str Row.again.tag),none,none]=some (.bool (true&&(c.fmod 2 == 0))):=by
   refine aF rfl ?_;exact rfl
  by_cases h2:c.fmod 2=0
  ·have hso:aE rows k .again held c=(e+1,held):=by simp only [cJ,Ql h2,he,QN]
   rw [hso];refine ao hc (by rw [h2];rfl) (af ?_ rfl);simp only [x_k,x_v,cB,bh,bg,aH,ax,cS,gX,gN,bX,mX,hlast k hk,he];rfl
  ·have hso:aE rows k .again held c=(k+1,held):=by simp only [cJ,Qu h2]
   rw [hso];refine ag hc (by rw [am];simp [h2]) ?_;exact ag (x:=.bool false) rfl rfl (ag (x:=.bool false) rfl rfl (af rfl rfl))
 | fin=>
  obtain ⟨j,hj⟩:=dG (show ost rows k ≠ [] from hv);have hjk:=b7 hj;have hgj:=aZ (aD (rows:=rows) (j:=j) (by exact Za hjk hk));rw [hR] at hgj;rw [hj] at hh;have ia:=aI (aD (rows:=rows) (j:=j) (by exact Za hjk hk)) Row.isAgain;have ie:=aI (aD (rows:=rows) (j:=j) (by exact Za hjk hk)) Row.isEither;generalize rows.getD j .fin=y at hgj ia ie;refine ag (x:=.bool false) rfl rfl (ag (x:=.bool false) rfl rfl (ag (x:=.bool false) rfl rfl (ag (x:=.bool false) rfl rfl (ag (x:=.bool false) rfl rfl (ag (x:=.bool false) rfl rfl ?_)))));have hc1:evE Φ Γ (.bool true (.cons (.cmp .Eq (.v 6) (.k (.str "end"))) (.cons (.cmp .Eq (.idx (.idx (.v 0) (.idx (.v 1) (.v 4))) (.k (.int 0))) (.k (.str "again"))) .nil))) [some R,some Hm,some st,some (.int c),some (.int (k:Int)),some (.tuple (held.map En.d)),some (.str Row.fin.tag),none,none]=some (.bool (true&&y.isAgain)):=by
   refine aF rfl ?_;exact aj (ad (ad rfl (ad rfl rfl hh) hgj) rfl (Row.i0 y)) rfl (Qf some (jQ y))
  have hc2:evE Φ Γ (.bool true (.cons (.cmp .Eq (.v 6) (.k (.str "end"))) (.cons (.cmp .NotEq (.idx (.idx (.v 0) (.idx (.v 1) (.v 4))) (.k (.int 0))) (.k (.str "either"))) .nil))) [some R,some Hm,some st,some (.int c),some (.int (k:Int)),some (.tuple (held.map En.d)),some (.str Row.fin.tag),none,none]=some (.bool (true&&!y.isEither)):=by
   refine aF rfl ?_;simp only [x_k,x_v,dN,bj,gX,gN,bX,mX,hh,hgj,Row.i0,wp,eV]
  have hso:aE rows k .fin held c=if y.isAgain then (j,held) else if y.isEither then (k+1,held) else (k+1,held.dropLast):=by
   simp only [iL,hj,QN,ia,ie]
  rw [hso];cases hya:y.isAgain with
  | true=>
   rw [hya] at hc1;refine ao hc1 rfl (af ?_ rfl);exact a9 (esC (ad rfl rfl hh) (esC rfl es0))
  | false=>
   rw [hya] at hc1;refine ag hc1 rfl ?_;cases hye:y.isEither with
   | true=>
    rw [hye] at hc2;exact ag hc2 rfl (af rfl rfl)
   | false=>
    rw [hye] at hc2;refine aN (Q':=λm=>m=[some R,some Hm,some st,some (.int c),some (.int (k:Int)),some (.tuple (held.dropLast.map En.d)),some (.str Row.fin.tag),none,none]) (aO hc2 rfl (λo_=>aw (.tuple (held.dropLast.map En.d)) ?_ rfl (ah rfl)) (λz=>by cases z)) ?_
    ·simp only [x_v,gZ,x_sl,fL,fM,gX,gN,bX,mX,io_n,io_i,wz]
     rw [lY,Zu]
    rintro _ rfl;exact af rfl rfl
theorem gn(p:Nat × List En):noList (stD p)=true:=by simp [stD,nl_t,nl_i,ns_n,ns_c,mW]
noncomputable def StOk(rows:List Row)(p:Nat × List En):Prop:=p.1 < rows.length/\HeldOk (ost rows p.1) p.2
end
end Mine
set_option tactic.hygienic false
namespace Mine
open PySem
noncomputable def bn(w:Str):Prop:=1<=w.length/\w.length<=12/\∀ c ∈ w.cps.toList,97<=c/\c < 123
noncomputable def ThOk(i:Int):Prop:=0<=i/\i<=999999999
noncomputable def Src.Ok:Src->Prop
 | .th i=>ThOk i
 | .hd u=>bn u
noncomputable def Row.Ok:Row->Prop
 | .lend w _ s=>bn w/\s.Ok
 | .pick w ts=>bn w/\1<=ts.length/\ts.length<=5/\∀ t ∈ ts,ThOk t
 | .deed _ w=>bn w
 | _=>True
theorem Row.Ok.word{r:Row}(h:r.Ok)(hn:r.isNamed=true):bn r.word:=by
 cases r<;>first | exact h.1 | cases hn
theorem lZ(a:Int):ThOk (a.fmod 1000000000):=by
 have h1:=au a (b:=1000000000) (by decide);have h2:=aC a (b:=1000000000) (by decide);exact ⟨h1,by exact Int.le_of_lt_add_one h2⟩
theorem fG(c b:Int):ThOk (thingOf c b):=by
 unfold thingOf;split
 ·exact lZ _
 ·exact lZ _
theorem l6{i:Int}(h0:0<=i)(h1:i < 26):97<=ltr i/\ltr i < 123:=by unfold ltr;exact ⟨QI _ _,YI ((Z5 h0).mpr h1) 97⟩
theorem d6{r:Dr}(ok:r.Ok)(one two:Int){deep:Nat}(hd:deep < 12):bn (wordOf one two deep r):=by
 have z1:=ok.z1;have z2:=ok.z2;unfold wordOf bn;rw [iA];unfold jD;split
 ·refine ⟨by rw [YZ];(exact Nat.succ_le_of_lt (Zm deep)),by rw [YZ];(exact hd),λc hc=>?_⟩
  have:=List.eq_of_mem_replicate (show c ∈ List.replicate _ _ from hc);rw [this];exact l6 ok.t1 ok.t2
 ·refine ⟨by rw [lX,Qo];exact (Int.le_toNat (Qt (by decide) z1)).mpr z1,by rw [lX,Qo];exact Zo.mpr z2,λc hc=>?_⟩
  obtain ⟨k,_,rfl⟩:=QG.mp (show c ∈ List.map _ _ from hc);split
  ·exact (λa=>l6 (au a (by decide)) (aC a (by decide))) _
  ·split
   ·exact (λa=>l6 (au a (by decide)) (aC a (by decide))) _
   ·exact l6 (by exact Qt (by decide) z1) (by exact QH z2 (by decide))
set_option tactic.hygienic true in
theorem pN{r:Dr}(ok:r.Ok)(one two:Int){named:List Row}(hn:∀ x ∈ named,x.Ok/\x.isNamed=true)(hl:named.length < 12):(bJ one two named r).Ok:=by
 unfold bJ;split
 ·split
  ·rename_i h e
   exact ⟨(d6 ok one two hl),((hn _ (Qa e)).1).word ((hn _ (Qa e)).2)⟩
  ·exact ⟨(d6 ok one two hl),fG _ _⟩
 ·exact ⟨(d6 ok one two hl),fG _ _⟩
set_option tactic.hygienic true in
theorem wJ{r:Dr}(ok:r.Ok)(way one two:Int){opened:List Row}(hn:∀ x ∈ opened,x.Ok)(hll:(opened.filter Row.isNamed).length < 12):(rowOf way one two opened r).Ok:=by
 have hnm:∀ x ∈ opened.filter Row.isNamed,x.Ok/\x.isNamed=true:=λx hx=>⟨hn x (Q9.mp hx).1,(Q9.mp hx).2⟩
 unfold rowOf;split
 ·exact (pN ok one two hnm hll)
 split
 ·have f1:=au one (b:=5) (by decide)
  have f2:=aC one (b:=5) (by decide);refine ⟨d6 ok one two hll,by rw [lX,Qo];exact (Int.le_toNat (Qt (by decide) (QR f1))).mpr (QR f1),by rw [lX,Qo];exact Zo.mpr (Qt (ZD (Yb 1 _)) f2),λt ht=>?_⟩;obtain ⟨k,_,rfl⟩:=QG.mp ht;exact fG _ _
 split
 ·split<;>trivial
 split
 ·trivial
 split
 ·unfold dK
  split
  ·rename_i h e
   exact (hnm _ (Q9.mp (Qa e)).1).1.word (hnm _ (Q9.mp (Qa e)).1).2
  ·trivial
 split
 ·trivial
 ·exact (pN ok one two hnm hll)
theorem wK(one two th:Int){a b c:Str}(ha:bn a)(hb:bn b)(hc:bn c)(ht:ThOk th):∀ x ∈ gad one two a b c th,x.Ok:=by
 have h3:∀ (x:Int) (u v w:Str),bn u->bn v->bn w->bn (three x u v w):=λx u v w h1 h2 h3=>by
  unfold three;split
  ·exact h1
  ·split
   ·exact h2
   ·exact h3
 have h3i:∀ (x:Int) (u v w:Int),ThOk u->ThOk v->ThOk w->ThOk (three x u v w):=λx u v w h1 h2 h3=>by
  unfold three;split
  ·exact h1
  ·split
   ·exact h2
   ·exact h3
 have m1:=lZ (th+1);have m2:=lZ (th+2);have hif:bn (if kd two=true then b else a):=by split<;>assumption
 have hts:∀ t ∈ [th,th,(th+1).fmod 1000000000,(th+1).fmod 1000000000,(th+2).fmod 1000000000],ThOk t:=λt h=>by
  simp only [Ye,YW,or_false] at h;rcases h with rfl | rfl | rfl | rfl | rfl<;>assumption
 have p1:(Row.pick c [th,th,(th+1).fmod 1000000000,(th+1).fmod 1000000000,(th+2).fmod 1000000000]).Ok:=⟨hc,ZR rfl,ZR rfl,hts⟩
 have p2:(Row.pick c [(th+1).fmod 1000000000,th]).Ok:=⟨hc,ZR rfl,ZR rfl,(λt h=>by
  simp only [Ye,YW,or_false] at h;rcases h with rfl | rfl<;>assumption)⟩
 have e1:=h3 two a b a ha hb ha;have e2:=h3 one c c b hc hc hb;have e3:=h3i two th _ _ ht m1 m2;intro x hx;unfold gad cG at hx;have L:∀ (w:Str) (q:Bool) (s:Src),bn w->s.Ok->(Row.lend w q s).Ok:=λw q s h1 h2=>⟨h1,h2⟩
 repeat' split at hx
 all_goals
  simp only [Ye,YW,or_false] at hx
  repeat' rcases hx with rfl | hx
  all_goals first | trivial | assumption | (subst hx;first | trivial | assumption | exact L _ _ _ (by assumption) (by assumption)) | exact L _ _ _ (by assumption) (by assumption)
noncomputable def Row.isPk:Row->Bool
 | .pick ..=>true
 | _=>false
theorem cnt2(l:List Row):((l.filter Row.isNamed).filter Row.isLend).length=(l.filter Row.isLend).length/\(l.filter Row.isNamed).length=(l.filter Row.isLend).length+(l.filter Row.isPk).length:=by
 induction l with
 | nil=>exact ⟨rfl,rfl⟩
 | cons r l ih=>
  cases r with
  | lend=>exact ⟨Qf (· + 1) ih.1,(Qf (· + 1) ih.2).trans (Yj _ _).symm⟩
  | pick=>exact ⟨ih.1,Qf (· + 1) ih.2⟩
  | _=>exact ih
noncomputable def Few(l:List Row):Prop:=(l.filter Row.isLend).length<=6/\(l.filter Row.isPk).length<=3
theorem Few.named{l:List Row}(h:Few l):(l.filter Row.isNamed).length < 12:=by
 have:=(cnt2 l).2;have h1:=h.1;have h2:=h.2;exact Qh (QQ (Zd this) (QC h1 h2)) (by decide)
theorem Few.drop{l:List Row}(h:Few l):Few l.dropLast:=⟨QQ ((ZT l).filter _).length_le h.1,QQ ((ZT l).filter _).length_le h.2⟩
theorem Few.lend{l:List Row}(h:Few l)(h6:(l.filter Row.isLend).length < 6){r:Row}(hr:r.isLend=true):Few (l++[r]):=by
 cases r<;>first | cases hr | skip
 exact ⟨by rw [Zw,QW];exact h6,by rw [Zw,QW];exact h.2⟩
theorem Few.pick{l:List Row}(h:Few l)(h3:(l.filter Row.isPk).length < 3){w:Str}{ts:List Int}:Few (l++[.pick w ts]):=⟨by rw [Zw,QW];exact h.1,by rw [Zw,QW];exact h3⟩
theorem uM{r:Dr}(way one two:Int){opened:List Row}(h:Few opened)(ho:(rowOf way one two opened r).isOpen=true):Few (opened++[rowOf way one two opened r]):=by
 have c1:=(cnt2 opened).1;have c2:=(cnt2 opened).2;have he:Few (opened++[.either])/\Few (opened++[.again]):=⟨⟨by rw [Zw,QW];exact h.1,by rw [Zw,QW];exact h.2⟩,⟨by rw [Zw,QW];exact h.1,by rw [Zw,QW];exact h.2⟩⟩
 unfold rowOf at ho ⊢
 by_cases p1:way < 4/\((opened.filter Row.isNamed).filter Row.isLend).length < 6
 ·rw [Ql p1];exact h.lend (c1 ▸ p1.2) (dZ ..)
 rw [Qu p1] at ho ⊢
 by_cases p2:way=4/\((opened.filter Row.isNamed).length:Int) - ((opened.filter Row.isNamed).filter Row.isLend).length < 3
 ·rw [Ql p2];exact h.pick (by have:=p2.2;lia)
 rw [Qu p2] at ho ⊢
 by_cases p3:(way=5\/way=6)/\opened.length < 12
 ·rw [Ql p3];split
  ·exact he.1
  ·exact he.2
 rw [Qu p3] at ho ⊢
 by_cases p4:way=7/\(opened.getLast?.any Row.isEither)=true
 ·rw [Ql p4] at ho;cases ho
 rw [Qu p4] at ho ⊢
 by_cases p5:way < 10/\0 < ((opened.filter Row.isNamed).filter Row.isLend).length
 ·rw [Ql p5] at ho
  unfold dK at ho;split at ho<;>cases ho
 rw [Qu p5] at ho ⊢
 by_cases p6:0 < opened.length
 ·rw [Ql p6] at ho;cases ho
 rw [Qu p6];exact h.lend (Qh (Zz _ _) (Qh (YV p6) (by decide))) (dZ ..)
set_option tactic.hygienic true in
theorem rN{r:Dr}(ok:r.Ok)(odd:Bool)(most:Int)(c:Nat->Int)(k:Nat):(∀ x ∈ (sheetAt odd most r c k).1,x.Ok)/\(∀ x ∈ (sheetAt odd most r c k).2,x.Ok)/\Few (sheetAt odd most r c k).2:=by
 induction k with
 | zero=>exact ⟨(λx hx=>by cases hx),(λx hx=>by cases hx),QF _,QF _⟩
 | succ k ih=>
  show (∀ x ∈ (sheetStep odd most r (c (3 * k)) (c (3 * k+1)) (c (3 * k+2)) (sheetAt odd most r c k)).1,x.Ok)/\(∀ x ∈ (sheetStep odd most r (c (3 * k)) (c (3 * k+1)) (c (3 * k+2)) (sheetAt odd most r c k)).2,x.Ok)/\Few (sheetStep odd most r (c (3 * k)) (c (3 * k+1)) (c (3 * k+2)) (sheetAt odd most r c k)).2;generalize sheetAt odd most r c k=s at ih;unfold sheetStep;split
  ·rename_i h
   have h3:=h.2.2;refine ⟨λx hx=>?_,ih.2⟩;rcases QY hx with q | q
   ·exact ih.1 x q
   ·exact wK _ _ _ (d6 ok _ _ (by exact Za h3 (by decide))) (d6 ok _ _ (by exact Qe (QU h3) (by decide))) (d6 ok _ _ (by exact Qe (QU (QU h3)) (by decide))) (fG _ _) x q
  ·have hr:=wJ ok ((c (3 * k)).fmod most) (c (3 * k+1)) (c (3 * k+2)) ih.2.1 ih.2.2.named
   have hf:=uM (r:=r) ((c (3 * k)).fmod most) (c (3 * k+1)) (c (3 * k+2)) ih.2.2;generalize rowOf ((c (3 * k)).fmod most) (c (3 * k+1)) (c (3 * k+2)) s.2 r=x at hr hf;refine ⟨λy hy=>(QY hy).elim (ih.1 y) λq=>Qx q ▸ hr,?_⟩;cases ho:x.isOpen with
   | true=>exact ⟨λy hy=>(QY hy).elim (ih.2.1 y) λq=>Qx q ▸ hr,hf ho⟩
   | false=>
    cases hi:x.isFin with
    | true=>exact ⟨λy hy=>ih.2.1 y ((ZT _).subset hy),ih.2.2.drop⟩
    | false=>exact ih.2
theorem rO(ns:List Int)(most:Int):∀ x ∈ drawnOf ns most,x.Ok:=by
 have h1:∀ x ∈ onceOf ns most,x.Ok:=λx hx=>by
  rcases QY (show x ∈ _++_ from hx) with q | q
  ·exact (rN (g5 ns) _ _ _ _).1 x q
  ·obtain ⟨_,_,rfl⟩:=QG.mp q
   trivial
 intro x hx;unfold drawnOf at hx;split at hx
 ·simp only [YF] at hx
  rcases hx with ((q | q) | q) | q<;>exact h1 x q
 ·exact h1 x hx
end Mine
set_option tactic.hygienic false
namespace Mine
open PySem
structure Gok(Γ:Str->Option D):Prop where
 op:Γ "OPENERS" = some opT
 letters:Γ "LETTERS" = some (.str "abcdefghijklmnopqrstuvwxyz")
 longest:Γ "LONGEST" = some (.int 12)
 thing:Γ "MOST_THING" = some (.int 999999999)
 things:Γ "MOST_THINGS" = some (.int 5)
 words:Γ "WORDS" = some (.tuple [.str "beside",.str "empty",.str "asleep"])
theorem mZ{c:Nat}(h1:97<=c)(h2:c < 123):pyIn (.str ⟨#[c]⟩) (.str "abcdefghijklmnopqrstuvwxyz")=some true:=by
 have key:∀ k:Nat,k < 26->subStrOne ⟨#[97+k]⟩ "abcdefghijklmnopqrstuvwxyz" = some true:=by decide +kernel
 have:=key (c - 97) (by exact Nat.sub_lt_left_of_lt_add h1 h2);rw [show 97+(c - 97)=c by exact Nat.add_sub_cancel' h1] at this;exact this
section
variable (Φ:Str->List D->Option D){Γ:Str->Option D}(G:Gok Γ)(N:Nat)
include G
theorem kY{i:Int}(h:ThOk i):runFn Φ Γ N fnis_thing [.int i]=some (.bool true):=by
 refine av [some (.int i)] rfl rfl (af (gW (b:=true) (c:=true) (d:=true) rfl rfl ?_) rfl);exact kI rfl rfl (Qf some (Qn h.1)) G.thing (Qf some (Qn h.2))
theorem m3{w:Str}(h:bn w):runFn Φ Γ N fnis_word [.str w]=some (.bool true):=by
 obtain ⟨h1,h2,h3⟩:=h;refine av [some (.str w)] rfl rfl (ag (x:=.bool (false||false)) (eT rfl (cO (b:=true) (kI rfl rfl (Qf some (Qn (show (1:Int)<=(w.length:Int) by exact QZ h1))) G.longest (Qf some (Qn (show (w.length:Int)<=12 by exact QB.mpr h2)))))) rfl (af ?_ rfl));refine aT (
  bz w.cps.toList (λc=>[.str ⟨#[c]⟩]) (λo_=>.bool true) (by
   show some (one (w.cps.toList.map λc=>PyData.str ⟨#[c]⟩))=_;rw [kH]) (by have:w.cps.toList.length=w.length:=rfl;exact (QQ h2 (by decide):w.length<=2 ^ 20)) rfl λc hc=>aj rfl G.letters (mZ (h3 c hc).1 (h3 c hc).2)) ?_
 rw [o7,dD (λo_=>true)];simp
theorem jR(hT:∀ i:Int,ThOk i->Φ "is_thing" [.int i]=some (.bool true)){ts:List Int}(h1:1<=ts.length)(h2:ts.length<=5)(h3:∀ t ∈ ts,ThOk t):runFn Φ Γ N fnis_choice [.tuple (ts.map .int)]=some (.bool true):=by
 have hlen:b1 .len (.tuple (ts.map .int))=some (.int ts.length):=by rw [o6,lX]
 refine av [some (.tuple (ts.map .int))] rfl rfl (ag (x:=.bool (false||false)) (eT rfl (cO (b:=true) (kI rfl (aT rfl hlen) (Qf some (Qn (show (1:Int)<=(ts.length:Int) by exact QZ h1))) G.things (Qf some (Qn (show (ts.length:Int)<=5 by exact QB.mpr h2)))))) rfl (af ?_ rfl));refine aT (
  bz ts (λt=>[.int t]) (λo_=>.bool true) (cY rfl) (by exact QQ h2 (by decide)) rfl λt ht=>ai (esC rfl es0) (hT t (h3 t ht))) ?_
 rw [o7,dD (λo_=>true)];simp
omit G
theorem m5(hT:∀ i:Int,ThOk i->Φ "is_thing" [.int i]=some (.bool true))(hTs:∀ w:Str,Φ "is_thing" [.str w]=some (.bool false))(hW:∀ w:Str,bn w->Φ "is_word" [.str w]=some (.bool true)){w:Str}{q:Bool}{s:Src}(h:(Row.lend w q s).Ok):runFn Φ Γ N fnis_lend [(Row.lend w q s).d]=some (.bool true):=by
 refine av [some (Row.lend w q s).d] rfl rfl (ag (x:=.bool (false||(false||false))) (ul rfl (cO (b:=true) (ai (esC rfl es0) (hW w h.1))) rfl) rfl (af (aF (b:=true) (c:=true) (by cases q<;>rfl) ?_) rfl));cases s with
 | th i=>exact x_or2' (ai (esC rfl es0) (hT i h.2))
 | hd u=>exact eT (b:=false) (c:=true) (ai (esC rfl es0) (hTs u)) (ai (esC rfl es0) (hW u h.2))
theorem pO(hL:∀ w q s,(Row.lend w q s).Ok->Φ "is_lend" [(Row.lend w q s).d]=some (.bool true))(hC:∀ ts:List Int,1<=ts.length->ts.length<=5->(∀ t ∈ ts,ThOk t)->Φ "is_choice" [.tuple (ts.map .int)]=some (.bool true))(hW:∀ w:Str,bn w->Φ "is_word" [.str w]=some (.bool true)){r:Row}(h:r.Ok):runFn Φ Γ N fnis_row [r.d]=some (.bool true):=by
 refine av [some r.d] rfl rfl ?_;dsimp only [fnis_row];cases r with
 | lend w q s=>exact ag (x:=.bool false) rfl rfl (ao (x:=.bool true) rfl rfl (af (ai (esC rfl es0) (hL w q s h)) rfl))
 | pick w ts=>exact ag (x:=.bool false) rfl rfl (ag (x:=.bool false) rfl rfl (ao (x:=.bool true) rfl rfl (af (gW (b:=true) (c:=true) (d:=true) rfl (ai (esC rfl es0) (hW w h.1)) (ai (esC rfl es0) (hC ts h.2.1 h.2.2.1 h.2.2.2))) rfl)))
 | deed v w=>cases v<;>exact ag (x:=.bool false) rfl rfl (ag (x:=.bool false) rfl rfl (ag (x:=.bool false) rfl rfl (ag (x:=.bool false) rfl rfl (ao (x:=.bool true) rfl rfl (af (aF (b:=true) (c:=true) rfl (ai (esC rfl es0) (hW w h))) rfl)))))
 | either=>exact ag (x:=.bool false) rfl rfl (ag (x:=.bool false) rfl rfl (ag (x:=.bool false) rfl rfl (ao (x:=.bool true) rfl rfl (af rfl rfl))))
 | again=>exact ag (x:=.bool false) rfl rfl (ag (x:=.bool false) rfl rfl (ag (x:=.bool false) rfl rfl (ao (x:=.bool true) rfl rfl (af rfl rfl))))
 | orr=>exact ag (x:=.bool false) rfl rfl (ag (x:=.bool false) rfl rfl (ag (x:=.bool false) rfl rfl (ao (x:=.bool true) rfl rfl (af rfl rfl))))
 | fin=>exact ag (x:=.bool false) rfl rfl (ag (x:=.bool false) rfl rfl (ag (x:=.bool false) rfl rfl (ao (x:=.bool true) rfl rfl (af rfl rfl))))
theorem jS(w:Str):runFn Φ Γ N fnis_thing [.str w]=some (.bool false):=by
 refine av [some (.str w)] rfl rfl (af ?_ rfl);rfl
end
end Mine
set_option tactic.hygienic false
namespace Mine
open PySem
noncomputable def Nd(os:List Row):Prop:=((os.filter Row.isNamed).map Row.word).Nodup
set_option tactic.hygienic true in
theorem uN{os:List Row}{r:Row}(h:Nd os)(hf:r.isNamed=true->d3 os r.word):Nd (r::os):=by
 unfold Nd;rw [ZG];split
 ·rename_i hn
  rw [QX,Q8];refine ⟨λhm=>?_,h⟩;obtain ⟨x,hx,e⟩:=QG.mp hm;rw [Q9] at hx;exact (hf hn).2 x hx.1 hx.2 e
 ·exact h
theorem uO{os:List Row}(h:Nd os):Nd os.tail:=by
 cases os with
 | nil=>exact h
 | cons x os=>
  unfold Nd at h;rw [ZG] at h;split at h
  ·rw [QX,Q8] at h;exact h.2
  ·exact h
theorem pP{os:List Row}{r:Row}(v:V os r)(h:r.isNamed=true):d3 os r.word:=by
 cases r<;>first | exact v.1 | cases h
theorem wL{rows:List Row}(wf:WfR [] rows):∀ k,k<=rows.length->Nd (ost rows k):=by
 intro k;induction k with
 | zero=>intro _;exact ZM
 | succ k ih=>
  intro hk;rw [fF (aD (rows:=rows) (j:=k) (by exact hk))];unfold push;split
  ·exact uN (ih (by exact Qm hk)) (pP (cP wf (aD (rows:=rows) (j:=k) (by exact hk))))
  ·split
   ·exact uO (ih (by exact Qm hk))
   ·exact (ih (by exact Qm hk))
theorem rP{l:List Row}(h:(l.map Row.word).Nodup){x y:Row}(hx:x ∈ l)(hy:y ∈ l)(e:x.word=y.word):x=y:=by
 induction l with
 | nil=>cases hx
 | cons z l ih=>
  rw [QX,Q8] at h;rcases Qw hx with ex | hx2
  ·rcases Qw hy with ey | hy2
   ·rw [ex,ey]
   ·exact absurd (show z.word ∈ l.map Row.word from QG.mpr ⟨y,hy2,by rw [<- e,ex]⟩) h.1
  ·rcases Qw hy with ey | hy2
   ·exact absurd (show z.word ∈ l.map Row.word from QG.mpr ⟨x,hx2,by rw [e,ey]⟩) h.1
   ·exact ih h.2 hx2 hy2
noncomputable def Row.bk:Row->Str
 | .lend _ q _=>Mine.kindS q
 | .pick .. => "pick"
 | _ => ""
noncomputable def blkD(j:Nat)(r:Row):D:=.tuple [.int (j:Int),.str r.tag,.str r.word,.str r.bk]
noncomputable def blD(p:Nat × Row):D:=blkD p.1 p.2
noncomputable def blk(rows:List Row)(k:Nat):List (Nat × Row):=(stk rows k).reverse.map λj=>(j,rows.getD j .fin)
theorem rQ(rows:List Row)(k:Nat):(blk rows k).map (·.2)=(ost rows k).reverse:=by
 unfold blk ost;rw [Yk,<- List.map_reverse];rfl
theorem pQ(rows:List Row)(k:Nat):(blk rows k).length=(stk rows k).length:=by
 unfold blk;rw [lX,Z8]
noncomputable def iN(ps:List (Nat × Row))(w:Str):Option Str:=(ps.find? λp=>p.2.word == w).map λp=>p.2.bk
noncomputable def optS:Option Str->D
 | some x=>.str x
 | none=>.none
theorem kZ(o:Option Str):noList (optS o)=true:=by cases o<;>rfl
theorem sV{fr:Bool}{ow:List Nat}{e:Ex}{d:D}(h:noList d=true):(!fr||retOk ow e d)=true:=by
 unfold retOk;rw [h,Bool.true_or,YS]
structure Opn(ps:List (Nat × Row))(os:List Row):Prop where
 rows:ps.map (·.2)=os.reverse
 op:∀ x ∈ os,x.isOpen=true
 nd:Nd os
theorem Opn.some{ps:List (Nat × Row)}{os:List Row}(O:Opn ps os){x:Row}(hx:x ∈ os)(hn:x.isNamed=true)(hw:x.word ≠ Str.ofString ""):iN ps x.word=some x.bk:=by
 unfold iN;have hm:x ∈ ps.map (·.2):=by rw [O.rows];exact ZE.mpr hx
 obtain ⟨p,hp,rfl⟩:=QG.mp hm;cases hf:ps.find? λq=>q.2.word == p.2.word with
 | none=>exact absurd (Yi.mp hf p hp) (by simp)
 | some q=>
  have h2:=Q4 (show (q.2.word == p.2.word)=true from List.find?_some (p:=λq:Nat × Row=>q.2.word == p.2.word) hf);have hq:q.2 ∈ os:=by
   have:q.2 ∈ ps.map (·.2):=QG.mpr ⟨q,(Y1 hf),rfl⟩;rw [O.rows] at this;exact ZE.mp this
  have:=rP O.nd (Q9.mpr ⟨hq,(by
   have ho:=O.op _ hq;cases hc:q.2 with
   | lend=>rfl
   | pick=>rfl
   | either=>rw [hc] at h2;exact absurd h2.symm hw
   | again=>rw [hc] at h2;exact absurd h2.symm hw
   | orr=>rw [hc] at ho;cases ho
   | fin=>rw [hc] at ho;cases ho
   | deed=>rw [hc] at ho;cases ho)⟩) (Q9.mpr ⟨hx,hn⟩) h2
  rw [mX,this]
theorem Opn.none{ps:List (Nat × Row)}{os:List Row}(O:Opn ps os){w:Str}(hf:d3 os w):iN ps w=none:=by
 unfold iN;have:ps.find? (λq=>q.2.word == w)=Option.none:=Yi.mpr λq hq he=>by
  have hm:q.2 ∈ os:=by
   have:q.2 ∈ ps.map (·.2):=QG.mpr ⟨q,hq,rfl⟩;rw [O.rows] at this;exact ZE.mp this
  have ho:=O.op _ hm;cases hc:q.2.isNamed with
  | true=>exact hf.2 _ hm hc (Q4 he)
  | false=>
   refine hf.1 ((Q4 he).symm.trans ?_);cases hq2:q.2 with
   | lend=>rw [hq2] at hc;cases hc
   | pick=>rw [hq2] at hc;cases hc
   | either=>rfl
   | again=>rfl
   | orr=>rw [hq2] at ho;cases ho
   | fin=>rw [hq2] at ho;cases ho
   | deed=>rw [hq2] at ho;cases ho
 rw [this];rfl
theorem wM{rows:List Row}(wf:WfR [] rows){k:Nat}(hk:k<=rows.length):Opn (blk rows k) (ost rows k):=by
 refine ⟨rQ rows k,λx hx=>?_,wL wf k hk⟩;obtain ⟨j,hj,rfl⟩:=QG.mp hx;have h1:=bQ rows k j hj;have h2:=fw rows k j hj;rw [aI (aD (rows:=rows) (j:=j) (by exact Qe h2 hk))] at h1;exact h1
theorem uP{x:Row}(h:x.isLend=true):x.bk=kindS x.wr:=by cases x<;>first | rfl | cases h
section
variable (Φ:Str->List D->Option D)(Γ:Str->Option D)(N:Nat)
theorem m6(ps:List (Nat × Row))(w:Str):runFn Φ Γ N fnmeaning [.list (ps.map blD),.str w]=some (optS (iN ps w)):=by
 refine av [some (.list (ps.map blD)),some (.str w),none] rfl rfl ?_;dsimp only [fnmeaning];refine gi (λm=>∃ x,m=[some (.list (ps.map blD)),some (.str w),x]) (λk=>(ps[k]?).any λp=>p.2.word == w) (λk=>optS ((ps[k]?).map λp=>p.2.bk)) (bt (es:=ps) (g:=blD) rfl) rfl ⟨none,rfl⟩ (λk vs m hk hI=>?_) (λhno m hI=>?_) (λk hk hp hf=>?_)
 ·obtain ⟨x,rfl⟩:=hI
  rw [Qy] at hk;obtain ⟨e,he,rfl⟩:=QK hk;refine ⟨_,rfl,λq=>?_,λq=>?_⟩
  ·rw [he] at q ⊢
   exact ao (x:=.bool (e.2.word == w)) rfl (by rw [am];exact Qf some q) (af rfl (sV rfl))
  ·rw [he] at q
   exact ar (aO (Q:=λm=>∃ x,m=[some (.list (ps.map blD)),some (.str w),x]) (d:=.bool (e.2.word == w)) rfl (am _) (λq'=>by simp only [XV] at q;rw [q] at q';cases q') (λo_=>ah ⟨_,rfl⟩)) λm e=>ah e
 ·obtain ⟨x,rfl⟩:=hI
  refine af ?_ (sV (kZ _));unfold iN;rw [jN λk hk=>hno k (by simpa using hk)];rfl
 ·rw [<- g7 hp hf];rfl
set_option tactic.hygienic true in
noncomputable def Nn(x:Option (Fl × St)):Prop:=∃ m',x=some (.next,m')
variable {Φ Γ N}
theorem ck{m:St}{ow:List Nat}{fr:Bool}:Nn (exSs Φ Γ ow fr N .nil m):=⟨m,rfl⟩
theorem bO{m:St}{ow:List Nat}{fr:Bool}{c:Ex}{t r:Sms}{x:D}(h:evE Φ Γ c m=some x)(hb:truth x=some false)(k:Nn (exSs Φ Γ ow fr N r m)):Nn (exSs Φ Γ ow fr N (.cons (.ite c t .nil) r) m):=by
 obtain ⟨m',k⟩:=k;exact ⟨m',(aS (y_no h hb)).trans k⟩
theorem sW{m:St}{ow:List Nat}{fr:Bool}{i:Nat}{e:Ex}{r:Sms}(x:D)(h:evE Φ Γ e m=some x)(ho:ow.contains i=false)(k:Nn (exSs Φ Γ ow fr N r (m.set i (some x)))):Nn (exSs Φ Γ ow fr N (.cons (.asg i e) r) m):=by
 obtain ⟨m',k⟩:=k;exact ⟨m',(aS (em h ho)).trans k⟩
theorem jT{m:St}{ow:List Nat}{fr:Bool}{s:Sm}{r:Sms}{Q:St->Prop}(h:Go (exS Φ Γ ow fr N s m) Q)(k:∀ m',Q m'->Nn (exSs Φ Γ ow fr N r m')):Nn (exSs Φ Γ ow fr N (.cons s r) m):=by
 obtain ⟨m1,e1,q1⟩:=h;obtain ⟨m2,e2⟩:=k m1 q1;exact ⟨m2,(aS e1).trans e2⟩
theorem l7{fn:Fn}{args:List D}(m0:St)(hl:args.length=fn.np)(hm:args.map some++List.replicate (fn.ns - fn.np) none=m0)(h:Nn (exSs Φ Γ fn.ow fn.fr N fn.body m0)):runFn Φ Γ N fn args=some .none:=by
 obtain ⟨m',h⟩:=h;unfold runFn;rw [Ql hl,hm,h]
theorem pR(ps:List (Nat × Row)):pyEq (.list (ps.map blD)) (.list [])=some ps.isEmpty:=by
 have hd:∀ l:List (Nat × Row),aX (l.map blD)=true:=λl=>by
  induction l with
  | nil=>rfl
  | cons p l ih=>exact ih
 have hp:∀ l:List (Nat × Row),PyData.depthAll (l.map blD)<=1:=λl=>by
  induction l with
  | nil=>exact QF _
  | cons p l ih=>exact Xp.mpr ⟨QO _,ih⟩
 have h1:shp (.list (ps.map blD))=true:=by
  have:=hp ps;unfold shp;rw [nd_l,hd,dp_l,Qn (show PyData.depthAll (ps.map blD)+1<=32 by exact QT (QQ this (by decide)))];rfl
 have h2:shp (.list [])=true:=rfl;unfold pyEq;rw [h1,h2,Xn,YS,Ql rfl];cases ps<;>rfl
variable (Φ Γ N)
theorem iO{ps:List (Nat × Row)}{os:List Row}(O:Opn ps os){r:Row}(v:V os r)(j:Int):runFn Φ Γ N fnneed_block [.list (ps.map blD),.int j,r.d]=some .none:=by
 have hne:os ≠ []->ps.isEmpty=false:=λh=>by
  cases ps with
  | nil=>
   have:=O.rows;rw [ZC] at this;exact absurd (List.reverse_eq_nil_iff.mp this.symm) h
  | cons=>rfl
 have he:∀ m:St,m[0]?=some (some (.list (ps.map blD)))->evE Φ Γ (.cmp .Eq (.v 0) (.lst .nil)) m=some (.bool ps.isEmpty):=λm h=>aj (ev_v h) rfl (pR ps);refine l7 [some (.list (ps.map blD)),some (.int j),some r.d] rfl rfl ?_;dsimp only [fnneed_block];cases r with
 | fin=>
  refine bO (x:=.bool (true&&ps.isEmpty)) (aF rfl (he _ rfl)) (Qf _ (hne v)) (bO (x:=.bool false) rfl rfl ck)
 | orr=>
  refine bO (x:=.bool false) rfl rfl ?_;obtain ⟨x,os',rfl⟩:∃ x os',os=x::os':=by
   cases os with
   | nil=>cases (show false=true from v)
   | cons x l=>exact ⟨x,l,rfl⟩
  have hx:x.isEither=true:=v;have hxe:x = .either:=by cases x<;>first | rfl | cases hx
  subst hxe;obtain ⟨ps',p,rfl⟩:∃ ps' p,ps=ps'++[p]:=by
   rcases List.eq_nil_or_concat ps with h | ⟨l,p,h⟩
   ·have:=hne (YY _ _)
    rw [h] at this;cases this
   ·exact ⟨l,p,by rw [h,List.concat_eq_append]⟩
  have hp:p.2 = .either:=by
   have:=O.rows;rw [Qb,Z2] at this;exact (List.cons.inj (List.append_inj' this rfl).2).1
  refine bO (x:=.bool (true&&(false||false))) (aF rfl (eT ?_ ?_)) rfl ck
  ·have:=he [some (.list ((ps'++[p]).map blD)),some (.int j),some Row.orr.d] rfl
   rw [show (ps'++[p]).isEmpty=false by simp] at this;exact this
  ·refine aj (x:=.str p.2.tag) (y:=.str "either") (ad (ad rfl rfl (by
    refine p_mk (k:=ps'.length) ?_ (by rw [Qb,ZW (Zd (YG _)),lX,Nat.sub_self];rfl);rw [lX,QW];unfold aL;rw [Qu (by decide),Ql (by simp only [QV,QP];(exact QZ (Zm ps'.length)))];congr 1
    simp only [QV,QP];exact cW (ps'.length+1) (by decide))) rfl rfl) rfl ?_
   rw [hp];rfl
 | lend w q s=>exact bO (x:=.bool false) rfl rfl (bO (x:=.bool false) rfl rfl ck)
 | pick w ts=>exact bO (x:=.bool false) rfl rfl (bO (x:=.bool false) rfl rfl ck)
 | either=>exact bO (x:=.bool false) rfl rfl (bO (x:=.bool false) rfl rfl ck)
 | again=>exact bO (x:=.bool false) rfl rfl (bO (x:=.bool false) rfl rfl ck)
 | deed vb w=>cases vb<;>exact bO (x:=.bool false) rfl rfl (bO (x:=.bool false) rfl rfl ck)
theorem iP(q:Bool):(kindS q == Str.ofString "pick")=false:=by cases q<;>rfl
theorem jU(hM:∀ (ps:List (Nat × Row)) (w:Str),Φ "meaning" [.list (ps.map blD),.str w]=some (optS (iN ps w))){ps:List (Nat × Row)}{os:List Row}(O:Opn ps os){v:Verb}{w:Str}(hw:w ≠ Str.ofString "")(hv:V os (.deed v w))(j:Int):runFn Φ Γ N fnneed_hand [.list (ps.map blD),.int j,(Row.deed v w).d]=some .none:=by
 obtain ⟨x,hx,hl,hxw,hch⟩:=hv;have hmn:=O.some hx (dE hl) (by rw [hxw];exact hw);rw [hxw,uP hl] at hmn;have hm:=hM ps w;rw [hmn] at hm;refine l7 [some (.list (ps.map blD)),some (.int j),some (Row.deed v w).d,none] rfl rfl ?_;dsimp only [fnneed_hand];refine sW (.str (kindS x.wr)) (ai (esC rfl (esC rfl es0)) hm) rfl ?_;refine bO (x:=.bool (false||false)) (eT rfl (aj rfl rfl (Qf some (iP _)))) rfl ?_;cases v with
 | look=>exact bO (x:=.bool false) rfl rfl ck
 | back=>exact bO (x:=.bool false) rfl rfl ck
 | change=>
  rw [hch rfl];exact bO (x:=.bool false) rfl rfl ck
end
end Mine
set_option tactic.hygienic false
namespace Mine
open PySem
set_option tactic.hygienic true in
theorem pS(r:Row):pyIn (.str r.tag) (.tuple [.str "lend",.str "pick"])=some r.isNamed:=by
 rw [pI];cases r<;>first | rfl | (rename_i v w;cases v<;>rfl)
noncomputable def Row.isDeed:Row->Bool
 | .deed ..=>true
 | _=>false
set_option tactic.hygienic true in
theorem rR(r:Row):pyIn (.str r.tag) (.tuple [.str "back",.str "look",.str "change"])=some r.isDeed:=by
 have:pyIn (.str r.tag) (.tuple (["back", "look", "change"].map λs=>.str (Str.ofString s)))=_:=qX r.tag (["back", "look", "change"].map Str.ofString);refine this.trans ?_;cases r<;>first | rfl | (rename_i v w;cases v<;>rfl)
theorem jV{w:Str}(h:bn w):w ≠ Str.ofString "" := λe=>by
 have:=h.1;rw [e] at this;exact absurd this (by decide)
section
variable {Φ:Str->List D->Option D}{Γ:Str->Option D}{m:St}{ow:List Nat}{fr:Bool}{N:Nat}
theorem rS{e:Ex}{d:D}(h:evE Φ Γ e m=some d):Go (exS Φ Γ ow fr N (.ex e) m) (λm'=>m'=m):=⟨m,by rw [e_ex,h];rfl,rfl⟩
theorem aW{c:Ex}{t:Sms}{b:Bool}{Q:St->Prop}(h:evE Φ Γ c m=some (.bool b))(ht:b=true->Go (exSs Φ Γ ow fr N t m) Q)(he:b=false->Q m):Go (exS Φ Γ ow fr N (.ite c t .nil) m) Q:=aO h rfl ht λq=>ah (he q)
end
section
variable (Φ:Str->List D->Option D)(Γ:Str->Option D)(N:Nat)
theorem jW(hM:∀ (ps:List (Nat × Row)) (w:Str),Φ "meaning" [.list (ps.map blD),.str w]=some (optS (iN ps w))){ps:List (Nat × Row)}{os:List Row}(O:Opn ps os){r:Row}(hn:r.isNamed=true)(v:V os r)(ok:r.Ok)(j:Int):runFn Φ Γ N fnneed_free [.list (ps.map blD),.int j,r.d]=some .none:=by
 have hm1:=hM ps r.word;rw [O.none (pP v hn)] at hm1;refine l7 [some (.list (ps.map blD)),some (.int j),some r.d,none] rfl rfl ?_;dsimp only [fnneed_free];refine sW .none rfl rfl ?_;simp only [sX,sN];cases r with
 | pick w ts=>exact jT (aW (b:=false) (Q:=λm=>m=[some (.list (ps.map blD)),some (.int j),some (Row.pick w ts).d,some .none]) rfl (λq=>by cases q) λo_=>rfl) (by
  rintro _ rfl;exact bO (x:=.bool false) (aj (ai (esC rfl (esC rfl es0)) hm1) rfl rfl) rfl (bO (x:=.bool false) rfl rfl ck))
 | lend w q s=>
  cases s with
  | th i=>
   refine jT (aW (b:=false) (Q:=λm=>m=[some (.list (ps.map blD)),some (.int j),some (Row.lend w q (.th i)).d,some .none]) rfl (λq=>by cases q) λo_=>rfl) ?_;rintro _ rfl;refine bO (x:=.bool false) (aj (ai (esC rfl (esC rfl es0)) hm1) rfl rfl) rfl (bO (x:=.bool (true&&((kindS q == Str.ofString "write")&&false))) (gW rfl rfl rfl) ?_ ck);rw [Xg];rfl
  | hd u=>
   refine byG λX_ g_=>?_;obtain ⟨_,x,hx,hxn,hxu,hr⟩:=v;refine g_ ?_;have hne:=jV ok.2;have hm2:=hM ps u;rw [<- hxu,O.some hx hxn (hxu ▸ hne),hxu] at hm2;refine jT (aW (b:=true) (Q:=λm=>m=[some (.list (ps.map blD)),some (.int j),some (Row.lend w q (.hd u)).d,some (.str x.bk)]) rfl (λo_=>?_) λz=>by cases z) ?_
   ·refine aw (.str x.bk) (ai (esC rfl (esC rfl es0)) hm2) rfl ?_
    simp only [sX,sN];exact ar (aW (b:=false) (Q:=λm=>m=[some (.list (ps.map blD)),some (.int j),some (Row.lend w q (.hd u)).d,some (.str x.bk)]) rfl (λq=>by cases q) λo_=>rfl) λm e=>ah e
   rintro _ rfl;refine bO (x:=.bool false) (aj (ai (esC rfl (esC rfl es0)) hm1) rfl rfl) rfl (bO (x:=.bool (true&&((kindS q == Str.ofString "write")&&(x.bk == Str.ofString "read")))) (gW rfl rfl rfl) ?_ ck);have:((kindS q == Str.ofString "write")&&(x.bk == Str.ofString "read"))=false:=by
    cases x with
    | lend w' q' s'=>
     cases q' with
     | false=>rw [hr rfl rfl];rfl
     | true=>exact Xg _
    | pick w' ts=>exact Xg _
    | either=>cases hxn
    | again=>cases hxn
    | orr=>cases hxn
    | fin=>cases hxn
    | deed=>cases hxn
   rw [this];rfl
 | either=>cases hn
 | again=>cases hn
 | orr=>cases hn
 | fin=>cases hn
 | deed=>cases hn
theorem lb{r:Row}(h:r.isOpen=true)(j:Nat):runFn Φ Γ N fnblock_of [.int (j:Int),r.d]=some (blkD j r):=by
 refine av [some (.int (j:Int)),some r.d] rfl rfl ?_;dsimp only [fnblock_of];cases r with
 | lend w q s=>exact ao (x:=.bool true) rfl rfl (af rfl rfl)
 | pick w ts=>exact ag (x:=.bool false) rfl rfl (ao (x:=.bool true) rfl rfl (af rfl rfl))
 | either=>exact ag (x:=.bool false) rfl rfl (ag (x:=.bool false) rfl rfl (af rfl rfl))
 | again=>exact ag (x:=.bool false) rfl rfl (ag (x:=.bool false) rfl rfl (af rfl rfl))
 | orr=>cases h
 | fin=>cases h
 | deed=>cases h
theorem rT{rows:List Row}{k:Nat}{r:Row}(h:rows[k]?=some r):blk rows (k+1)=if r.isOpen then blk rows k++[(k,r)] else if r.isFin then (blk rows k).dropLast else blk rows k:=by
 unfold blk;rw [bf h,stp];split
 ·rw [Z2,Qb,QX,ZC,List.getD,h];rfl
 ·split
  ·rw [<- Zu]
   congr 1
   cases stk rows k with
   | nil=>rfl
   | cons x l=>rw [List.tail_cons,Z2,Yu]
  ·rfl
theorem m7(G:Gok Γ){rows:List Row}(hl:rows.length<=1000)(nd:Nested rows)(wf:WfR [] rows)(ok:∀ x ∈ rows,x.Ok)
 (hrow:∀ r:Row,r.Ok->Φ "is_row" [r.d]=some (.bool true))
 (hnb:∀ {ps:List (Nat × Row)} {os:List Row},Opn ps os->∀ {r:Row},V os r->∀ j:Int,Φ "need_block" [.list (ps.map blD),.int j,r.d]=some .none)
 (hnh:∀ {ps:List (Nat × Row)} {os:List Row},Opn ps os->∀ {v:Verb} {w:Str},w ≠ Str.ofString "" -> V os (.deed v w)->∀ j:Int,Φ "need_hand" [.list (ps.map blD),.int j,(Row.deed v w).d]=some .none)
 (hnf:∀ {ps:List (Nat × Row)} {os:List Row},Opn ps os->∀ {r:Row},r.isNamed=true->V os r->r.Ok->∀ j:Int,Φ "need_free" [.list (ps.map blD),.int j,r.d]=some .none)
 (hbo:∀ {r:Row},r.isOpen=true->∀ j:Nat,Φ "block_of" [.int (j:Int),r.d]=some (blkD j r)) :
 runFn Φ Γ N fnchecked [.list (rows.map Row.d)]=some .none:=by
 refine l7 [some (.list (rows.map Row.d)),none,none,none] rfl rfl ?_;dsimp only [fnchecked];refine jT (Q:=λm=>m=[some (.list (rows.map Row.d)),some (.list []),none,none]) ⟨_,qW (d:=.list []) rfl rfl,rfl⟩ ?_;rintro _ rfl;refine jT (gh (items:=cR 0 (rows.map Row.d)) (λk m=>∃ x2 x3,k<=rows.length/\m=[some (.list (rows.map Row.d)),some (.list ((blk rows k).map blD)),x2,x3]) (eW rfl) rfl ⟨none,none,QF _,rfl⟩ (λk vs m hk hI=>?_)) ?_
 ·obtain ⟨x2,x3,hkl,rfl⟩:=hI
  obtain ⟨x,hx,rfl⟩:=lU hk;have hox:=ok x (Qa hx);have O:=wM wf (Qm ((Qq hx).1));have hbs:=rT hx;have hbl:(blk rows k).length<=1000:=by rw [pQ];exact QQ (gj rows k) (by exact QQ hkl hl)
  have hne:x.isFin=true->((blk rows k).map blD).isEmpty=false:=λq=>by
   have h2:=pQ rows k;cases hb:blk rows k with
   | nil=>rw [hb] at h2;exact absurd (ZA.mp h2.symm) (nd.ok k x hx q)
   | cons=>rfl
  refine ⟨_,_,rfl,?_⟩;simp only [sX,sN];generalize hS:blk rows (k+1)=bs at hbs ⊢;generalize blk rows k=ps at O hbs hbl hne ⊢;refine ar (aW (b:=false) (Q:=λm=>m=[some (.list (rows.map Row.d)),some (.list (ps.map blD)),some (.int (k:Int)),some x.d]) (cO (b:=true) (ai (esC rfl es0) (hrow x hox))) (λq=>by cases q) λo_=>rfl) λm e=>(λe h=>e ▸ h) e ?_;refine ar (rS (ai (esC rfl (esC rfl (esC rfl es0))) (hnb O (cP wf hx) _))) λm e=>(λe h=>e ▸ h) e ?_;refine ar (aW (b:=x.isDeed) (Q:=λm=>m=[some (.list (rows.map Row.d)),some (.list (ps.map blD)),some (.int (k:Int)),some x.d]) (aj (ad rfl rfl (Row.i0 x)) rfl (rR x)) (λq=>?_) λo_=>rfl) λm e=>(λe h=>e ▸ h) e ?_
  ·cases x with
   | deed v w=>exact ar (rS (ai (esC rfl (esC rfl (esC rfl es0))) (hnh O (jV hox) (cP wf hx) _))) λm e=>e ▸ ah rfl
   | _=>cases q
  refine ar (aW (b:=x.isNamed) (Q:=λm=>m=[some (.list (rows.map Row.d)),some (.list (ps.map blD)),some (.int (k:Int)),some x.d]) (aj (ad rfl rfl (Row.i0 x)) rfl (pS x)) (λq=>?_) λo_=>rfl) λm e=>(λe h=>e ▸ h) e ?_
  ·exact ar (rS (ai (esC rfl (esC rfl (esC rfl es0))) (hnf O q (cP wf hx) hox _))) λm e=>e ▸ ah rfl
  refine ar (aW (b:=x.isOpen) (Q:=λm=>m=[some (.list (rows.map Row.d)),some (.list ((if x.isOpen then ps++[(k,x)] else ps).map blD)),some (.int (k:Int)),some x.d]) (aj (ad rfl rfl (Row.i0 x)) G.op (lN x)) (λq=>?_) λq=>by rw [q];rfl) ?_
  ·rw [Ql q]
   refine bH (xs:=ps.map blD) (d:=blkD k x) rfl (ai (esC rfl (esC rfl es0)) (hbo q k)) rfl (by rw [lX];exact QQ hbl (by decide)) (ah ?_);rw [Qb];rfl
  rintro _ rfl;refine ar (aW (b:=x.isFin) (Q:=λm=>m=[some (.list (rows.map Row.d)),some (.list (bs.map blD)),some (.int (k:Int)),some x.d]) (aj (x:=.str x.tag) (y:=.str "end") (ad rfl rfl (Row.i0 x)) rfl (Qf some (eU x))) (λq=>?_) λq=>?_) λm e=>e ▸ ah ⟨_,_,by exact ((Qq hx).1),rfl⟩
  ·have hno:x.isOpen=false:=by cases x<;>first | rfl | cases q
   rw [hno,q] at hbs;rw [hno,hbs];refine lP (xs:=ps.map blD) rfl (hne q) (ah ?_);simp only [sX,sN,QD,if_false,if_true,Zu]
  ·rw [hbs,q]
   cases x.isOpen<;>rfl
 ·rintro _ ⟨x2,x3,_,rfl⟩
  have hb:blk rows rows.length=[]:=by
   unfold blk;rw [nd.bal];rfl
  rw [bR,lX,hb];exact bO (x:=.bool false) rfl rfl ck
end
end Mine
set_option tactic.hygienic false
namespace Mine
open PySem
noncomputable def entL(held:List En)(w:Str)(wr:Bool):Src->En
 | .th i=>⟨w,kindS wr,i, "",true⟩
 | .hd u=>match aP held u with
  | some e=>⟨w,kindS wr,e.t,if e.k == Str.ofString "pick" then "" else e.w,e.o⟩
  | none=>⟨w,kindS wr,0, "",true⟩
noncomputable def gKv(g:List Str):List (D × D):=g.map λx=>(.str x,.bool true)
theorem sY:∀ g:List Str,mh (gKv g)=some g
 | []=>rfl
 | x::g=>by show ((some x).bind λx=>(mh (gKv g)).map λxs=>x::xs)=_;rw [sY g];rfl
theorem ok_g{g:List Str}(h:g.Nodup):dictOk (gKv g)=true:=by
 unfold dictOk;rw [sY,Qj];refine ⟨by simpa using h,?_⟩;exact ZK.mpr λx hx=>by obtain ⟨e,_,rfl⟩:=QG.mp hx;rfl
theorem wN(g:List Str)(x:Str):dHas x (gKv g)=g.any λy=>y == x:=by
 unfold dHas gKv;rw [List.any_map];congr 1
theorem xB(g:List Str)(x:Str):dPut x (.bool true) (gKv g)=gKv (if g.any λy=>y == x then g else g++[x]):=by
 unfold dPut;rw [wN];split
 ·unfold gKv
  rw [Yk];refine List.map_congr_left λy o_=>?_;simp only [Function.comp];split<;>rfl
 ·simp [gKv]
noncomputable def gPut(g:List Str)(x:Str):List Str:=if g.any λy=>y == x then g else g++[x]
set_option tactic.hygienic true in
theorem rU(g:List Str)(x y:Str):y ∈ gPut g x↔y ∈ g\/y=x:=by
 unfold gPut;split
 ·rename_i h
  rw [Q2] at h;obtain ⟨z,hz,q⟩:=h;rw [Q5] at q;subst q;exact ⟨.inl,λh=>h.elim id λe=>e ▸ hz⟩
 ·simp
set_option tactic.hygienic true in
theorem m8{g:List Str}(h:g.Nodup)(x:Str):(gPut g x).Nodup:=by
 unfold gPut;split
 ·exact h
 ·rename_i hn
  rw [Y3];refine ⟨h,by simp,λa ha b hb q=>hn ?_⟩;rw [ZV] at hb;rw [Q2];exact ⟨a,ha,by rw [q,hb];simp⟩
theorem iQ(g:List Str)(x:Str):(g.any λy=>y == x)=decide (x ∈ g):=by
 rw [ZZ,Q2,QE];exact ⟨λ⟨y,hy,q⟩=>by rw [Q5] at q;exact q ▸ hy,λh=>⟨x,h,by simp⟩⟩
theorem l8{g g':List Str}(h:∀ y,y ∈ g↔y ∈ g')(e:En):hitB g e=hitB g' e:=by
 unfold hitB;rw [iQ,iQ,iQ,iQ];simp only [h]
section
variable (Φ:Str->List D->Option D)(Γ:Str->Option D)(N:Nat)
set_option tactic.hygienic true in
theorem rV(held:List En)(hl:held.length<=1000)(w:Str):runFn Φ Γ N fngiven_back [.tuple (held.map En.d),.str w]=some (.tuple ((backR [w] held).map En.d)):=by
 refine av [some (.tuple (held.map En.d)),some (.str w),none,none,none] rfl rfl ?_;dsimp only [fngiven_back];refine bd (.dict (gKv [w])) rfl rfl (bd (.list []) rfl rfl ?_);refine aN (bM (λk m=>∃ (g:List Str) (x4:Option D),g.Nodup/\g.length<=k+1/\(∀ y,y ∈ g↔y ∈ ((held.take k).foldl bStep ([w],[])).1)/\m=[some (.tuple (held.map En.d)),some (.str w),some (.dict (gKv g)),some (.list (((held.take k).foldl bStep ([w],[])).2.map En.d)),x4]) (cY (es:=held) (g:=En.d) (rfl)) rfl ⟨[w],none,by simp,QO _,λy=>Iff.rfl,rfl⟩ (λk vs m hk hI=>?_)) ?_
 ·refine byG λX_ g_=>?_
  obtain ⟨g,x4,hnd,hgl,hmem,rfl⟩:=hI;obtain ⟨e,he,rfl⟩:=gm hk;refine g_ ?_;have hkl:k < held.length:=(Qq he).1;refine ⟨_,rfl,?_⟩;have ht:held.take (k+1)=held.take k++[e]:=by rw [Z1,he];rfl
  obtain ⟨l1,l2⟩:=eH (held.take k) ([w],[]);have lt:(held.take k).length<=1000:=by rw [ZF];exact QQ (Yq ..) hl
  rw [ht,List.foldl_append];simp only [YH,List.foldl_nil,sX,sN];generalize (held.take k).foldl bStep ([w],[])=s at l1 l2 hmem ⊢;obtain ⟨g0,acc⟩:=s;simp only [QV,QP] at l1 l2 hmem ⊢;have hin:∀ x:Str,pyIn (.str x) (.dict (gKv g))=some (g.any λy=>y == x):=λx=>by
   show (if dictOk (gKv g) then (strK (.str x)).map λs=>dHas s (gKv g) else none)=_;exact (Ql (ok_g hnd)).trans (Qf some (wN g x))
  have hkv:(gKv g).length<=2 ^ 20:=by unfold gKv;rw [lX];exact QQ hgl (QQ hkl (QQ hl (by decide)))
  refine ar (aO (Q:=λm=>∃ (g:List Str) (x4:Option D),g.Nodup/\g.length<=k+1+1/\(∀ y,y ∈ g↔y ∈ (bStep (g0,acc) e).1)/\m=[some (.tuple (held.map En.d)),some (.str w),some (.dict (gKv g)),some (.list ((bStep (g0,acc) e).2.map En.d)),x4]) (d:=.bool (hitB g e)) ?_ (am _) (λq=>?_) (λq=>?_)) λm h=>ah h
  ·refine eT ?_ ?_
   ·exact aj (ad rfl rfl (En.idx0 e)) rfl (hin e.w)
   ·exact aj (ad rfl rfl (En.idx3 e)) rfl (hin e.s)
  ·have hq:hitB g0 e=true:=by rw [<- l8 hmem e];exact q
   have hb:bStep (g0,acc) e=(g0++[e.w],acc++[e.gone]):=by simp only [bStep,hq,if_true]
   rw [hb];refine ar (Q':=λm=>m=[some (.tuple (held.map En.d)),some (.str w),some (.dict (gKv (gPut g e.w))),some (.list (acc.map En.d)),some e.d]) ⟨_,(by
    rw [li,ad (x:=e.d) rfl rfl (En.idx0 e)];show (if dictOk (gKv g)&&isScalar (.bool true)&&decide ((gKv g).length<=2 ^ 20) then some (Fl.next,setV _ 2 (.dict (dPut e.w (.bool true) (gKv g)))) else none)=_;rw [ok_g hnd,Qn hkv,xB];rfl),rfl⟩ ?_
   rintro _ rfl;refine bH (d:=e.gone.d) rfl rfl rfl (by rw [lX];exact QQ (Zd (l2.trans (Zc _))) (QQ lt (by decide))) (ah ⟨gPut g e.w,some e.d,m8 hnd _,?_,λy=>?_,?_⟩)
   ·unfold gPut;split
    ·(exact Nat.le.step hgl)
    ·rw [QW];simp only [QV,QP];(exact Y2 hgl)
   ·rw [rU,YF,ZV,hmem]
   ·simp only [Qb,QX,ZC];rfl
  ·have hq:hitB g0 e=false:=by rw [<- l8 hmem e];exact q
   have hb:bStep (g0,acc) e=(g0,acc++[e]):=by simp only [bStep,hq,QD,if_false]
   rw [hb];refine bH (d:=e.d) rfl rfl rfl (by rw [lX];exact QQ (Zd (l2.trans (Zc _))) (QQ lt (by decide))) (ah ⟨g,some e.d,hnd,by exact Nat.le.step hgl,hmem,?_⟩);simp only [Qb,QX,ZC];rfl
 ·rintro _ ⟨g,x4,_,_,_,rfl⟩
  refine af ?_ rfl;have:=dm held [w] [];simp only [YE] at this;simp only [x_b1,x_v,gX,gN,bX,lX,Yz,this];rfl
theorem m9{os:List Row}{held:List En}(H:HeldOk os held){w:Str}{wr:Bool}{s:Src}(v:V os (.lend w wr s)):cQ held w wr s=held++[entL held w wr s]:=by
 cases s with
 | th i=>rfl
 | hd u=>
  obtain ⟨_,x,hx,hn,hu,_⟩:=v;obtain ⟨e,he,hw,_⟩:=H.mem hx hn;have:aP held u=some e:=by rw [<- hu,<- hw];exact be H.nd he
  simp only [cQ,entL,this]
theorem rW(hE:∀ (held:List En) (w:Str),Φ "entry_of" [.tuple (held.map En.d),.str w]=some (enO (aP held w))){os:List Row}{held:List En}(H:HeldOk os held){w:Str}{wr:Bool}{s:Src}(v:V os (.lend w wr s)) :
 runFn Φ Γ N fnlent [(Row.lend w wr s).d,.tuple (held.map En.d)]=some (entL held w wr s).d:=by
 refine av [some (Row.lend w wr s).d,some (.tuple (held.map En.d)),none] rfl rfl ?_;dsimp only [fnlent];cases s with
 | th i=>exact ao (x:=.bool true) rfl rfl (af rfl rfl)
 | hd u=>
  obtain ⟨_,x,hx,hn,hu,_⟩:=v;obtain ⟨e,he,hw,_⟩:=H.mem hx hn;have hen:aP held u=some e:=by rw [<- (hw.trans hu)];exact be H.nd he
  have hi:item (Row.lend w wr (.hd u)).d (.int 3)=some (.str u):=rfl;have hent:entL held w wr (.hd u)=⟨w,kindS wr,e.t,if e.k == Str.ofString "pick" then "" else e.w,e.o⟩:=by simp only [entL,hen]
  rw [hent];refine ag (x:=.bool false) rfl rfl (al e.d (by simp only [x_k,x_v,bj,bg,aH,ax,gX,gN,bX,mX,hi,hE,hen,enO]) rfl ?_);have hc:evE Φ Γ (.cmp .Eq (.idx (.v 2) (.k (.int 1))) (.k (.str "pick"))) [some (Row.lend w wr (.hd u)).d,some (.tuple (held.map En.d)),some e.d]=some (.bool (e.k == Str.ofString "pick")):=by
   exact rfl
  cases hp:(e.k == Str.ofString "pick") with
  | true=>
   rw [hp] at hc;refine ao hc rfl (af ?_ rfl);rw [((H.pk e he (by simpa using hp)).1)];rfl
  | false=>
   rw [hp] at hc;refine ag hc rfl (af ?_ rfl);rw [(hw.trans hu)];rfl
noncomputable def bo(rows:List Row)(k:Nat):Row->Int
 | .pick _ ts=>ts.length
 | .either=>(startL rows k).length
 | .again=>2
 | _=>1
theorem rX(rows:List Row)(hf:∀ j:Nat,Φ "first_rows" [.list (rows.map Row.d),.list ((homeL rows).map .int),.int (j:Int)]=some (.list ((startL rows j).map .int)))(k:Nat)(row:Row)(hr:rows[k]?=some row) :
 runFn Φ Γ N fncount_of [.list (rows.map Row.d),.list ((homeL rows).map .int),.int (k:Int)]=some (.int (bo rows k row)):=by
 refine av [some (.list (rows.map Row.d)),some (.list ((homeL rows).map .int)),some (.int (k:Int))] rfl rfl ?_;dsimp only [fncount_of];have hc:∀ t:Str,evE Φ Γ (.cmp .Eq (.idx (.idx (.v 0) (.v 2)) (.k (.int 0))) (.k (.str t))) [some (.list (rows.map Row.d)),some (.list ((homeL rows).map .int)),some (.int (k:Int))]=some (.bool (row.tag == t)):=λt=>by
  exact aj (ad (ad rfl rfl (aZ hr)) rfl (Row.i0 row)) rfl (kJ row.tag t)
 cases row with
 | pick w ts=>
  refine ao (hc _) rfl (af ?_ rfl);exact aT (ad (ad rfl rfl (aZ hr)) rfl rfl) (lenL ts)
 | either=>
  refine ag (hc _) rfl (ao (hc _) rfl (af ?_ rfl));exact aT (ai (esC rfl (esC rfl (esC rfl es0))) (hf k)) (lenL (startL rows k))
 | again=>exact ag (hc _) rfl (ag (hc _) rfl (ao (hc _) rfl (af rfl rfl)))
 | lend w q s=>exact ag (hc _) rfl (ag (hc _) rfl (ag (hc _) rfl (af rfl rfl)))
 | orr=>exact ag (hc _) rfl (ag (hc _) rfl (ag (hc _) rfl (af rfl rfl)))
 | fin=>exact ag (hc _) rfl (ag (hc _) rfl (ag (hc _) rfl (af rfl rfl)))
 | deed v w=>cases v<;>exact ag (hc _) rfl (ag (hc _) rfl (ag (hc _) rfl (af rfl rfl)))
end
end Mine
set_option tactic.hygienic false
namespace Mine
open PySem
theorem rY{rows:List Row}{j:Nat}(h:j < rows.length):(endL rows)[j]?=some (endAt rows j rows.length):=by
 unfold endL;rw [Qy,YO h];rfl
section
variable (Φ:Str->List D->Option D)(Γ:Str->Option D)(N:Nat)
theorem rZ(rows:List Row)(wf:WfR [] rows)(k:Nat)(hr:rows[k]?=some .fin)(held:List En)(c:Int) :
 runFn Φ Γ N fnended [.list (rows.map Row.d),.list ((homeL rows).map .int),stD (k,held)]=some (stD (aE rows k .fin held c)):=by
 have hk:k < rows.length:=(Qq hr).1;have hh:=bS (b8 hk);obtain ⟨j,hj⟩:=dG (show ost rows k ≠ [] from cP wf hr);have hjk:=b7 hj;have hrj:=aD (rows:=rows) (j:=j) (by exact Za hjk hk);have hgj:=aZ hrj;rw [hj] at hh;have ia:=aI hrj Row.isAgain;have ie:=aI hrj Row.isEither;generalize rows.getD j .fin=y at hgj ia ie;refine av [some (.list (rows.map Row.d)),some (.list ((homeL rows).map .int)),some (stD (k,held)),none,none,none] rfl rfl ?_;dsimp only [fnended];refine bv [some (.list (rows.map Row.d)),some (.list ((homeL rows).map .int)),some (stD (k,held)),some (.int (k:Int)),some (.tuple (held.map En.d)),none] rfl ?_;refine al (.str y.tag) (ad (ad rfl (ad rfl rfl hh) hgj) rfl (Row.i0 y)) rfl ?_;simp only [sX,sN];have hso:aE rows k .fin held c=if y.isAgain then (j,held) else if y.isEither then (k+1,held) else (k+1,held.dropLast):=by
  simp only [iL,hj,QN,ia,ie]
 rw [hso];have hc:∀ t:Str,evE Φ Γ (.cmp .Eq (.v 5) (.k (.str t))) [some (.list (rows.map Row.d)),some (.list ((homeL rows).map .int)),some (stD (k,held)),some (.int (k:Int)),some (.tuple (held.map En.d)),some (.str y.tag)]=some (.bool (y.tag == t)):=λt=>by
  exact rfl
 have h1:=hc (Str.ofString "again");have h2:=hc (Str.ofString "either");rw [jQ] at h1;rw [eV] at h2;cases hya:y.isAgain with
 | true=>
  rw [hya] at h1;refine ao h1 rfl (af ?_ rfl);exact a9 (esC (ad rfl rfl hh) (esC rfl es0))
 | false=>
  rw [hya] at h1;refine ag h1 rfl ?_;cases hye:y.isEither with
  | true=>
   rw [hye] at h2;exact ao h2 rfl (af rfl rfl)
  | false=>
   rw [hye] at h2;refine ag h2 rfl (af ?_ rfl);simp only [x_k,x_v,cB,bh,gZ,x_sl,aH,ax,fL,fM,cS,gX,gN,bX,mX,io_n,io_i,wz];rw [lY,<- Zu];rfl
theorem r5(rows:List Row)(hl:rows.length<=1000)(nd:Nested rows)(wf:WfR [] rows)
 (hcount:∀ (k:Nat) (row:Row),rows[k]?=some row->Φ "count_of" [.list (rows.map Row.d),.list ((homeL rows).map .int),.int (k:Int)]=some (.int (bo rows k row)))
 (hlent:∀ (os:List Row) (held:List En),HeldOk os held->∀ (w:Str) (wr:Bool) (s:Src),V os (.lend w wr s)->Φ "lent" [(Row.lend w wr s).d,.tuple (held.map En.d)]=some (entL held w wr s).d)
 (hfirst:∀ j:Nat,Φ "first_rows" [.list (rows.map Row.d),.list ((homeL rows).map .int),.int (j:Int)]=some (.list ((startL rows j).map .int)))
 (hgiven:∀ (held:List En),held.length<=1000->∀ w:Str,Φ "given_back" [.tuple (held.map En.d),.str w]=some (.tuple ((backR [w] held).map En.d)))
 (hend:∀ (k:Nat),rows[k]?=some .fin->∀ (held:List En) (c:Int),Φ "ended" [.list (rows.map Row.d),.list ((homeL rows).map .int),stD (k,held)]=some (stD (aE rows k .fin held c)))
 (k:Nat) (row:Row) (hr:rows[k]?=some row) (held:List En) (H:HeldOk (ost rows k) held) (c:Int) :
 runFn Φ Γ N fnmoved [.list (rows.map Row.d),.list ((homeL rows).map .int),.list ((endL rows).map .int),stD (k,held),.int c]=some (stD (aE rows k row held c)):=by
 have hk:k < rows.length:=(Qq hr).1;have hhl:held.length<=1000:=QQ H.len (QQ (kU (Qm hk)) hl);have hv:=cP wf hr;have hh:=bS (b8 hk);have hee:=hend k;refine av [some (.list (rows.map Row.d)),some (.list ((homeL rows).map .int)),some (.list ((endL rows).map .int)),some (stD (k,held)),some (.int c),none,none,none,none] rfl rfl ?_;dsimp only [fnmoved];refine bv [some (.list (rows.map Row.d)),some (.list ((homeL rows).map .int)),some (.list ((endL rows).map .int)),some (stD (k,held)),some (.int c),some (.int (k:Int)),some (.tuple (held.map En.d)),none,none] rfl ?_;refine al row.d (ad rfl rfl (aZ hr)) rfl ?_;refine al (.int (c.fmod (bo rows k row))) (aA rfl (ai (esC rfl (esC rfl (esC rfl es0))) (hcount k row hr)) (bw c (bo rows k row) (by
  cases row with
  | pick w ts=>
   intro h;exact hv.2.1 (ZA.mp (Int.ofNat.inj h))
  | either=>show ((startL rows k).length:Int) ≠ 0;simp [startL];lia
  | again=>exact (by decide:(2:Int) ≠ 0)
  | _=>exact (by decide:(1:Int) ≠ 0)))) rfl ?_
 simp only [sX,sN];have hL:∀ j:Nat,j < rows.length->item (.list ((endL rows).map .int)) (.int (j:Int))=some (.int (endAt rows j rows.length)):=λj hj=>bS (rY hj);generalize hst:stD (k,held)=st at hee ⊢;generalize hLm:PyData.list ((endL rows).map .int)=Lm at hL ⊢;generalize hR:PyData.list (rows.map Row.d)=R at *;generalize hHm:PyData.list ((homeL rows).map .int)=Hm at *;generalize hway:c.fmod (bo rows k row)=way;have hc:∀ t:Str,evE Φ Γ (.cmp .Eq (.idx (.v 7) (.k (.int 0))) (.k (.str t))) [some R,some Hm,some Lm,some st,some (.int c),some (.int (k:Int)),some (.tuple (held.map En.d)),some row.d,some (.int way)]=some (.bool (row.tag == t)):=λt=>by
  exact aj (ad rfl rfl (Row.i0 row)) rfl (kJ row.tag t)
 have ha:(row.tag == Str.ofString "again")=false->evE Φ Γ (.bool true (.cons (.cmp .Eq (.idx (.v 7) (.k (.int 0))) (.k (.str "again"))) (.cons (.cmp .Eq (.v 8) (.k (.int 0))) .nil))) [some R,some Hm,some Lm,some st,some (.int c),some (.int (k:Int)),some (.tuple (held.map En.d)),some row.d,some (.int way)]=some (.bool false):=λh=>by
  have:=hc (Str.ofString "again");rw [h] at this;rw [cr,eM,this];rfl
 cases row with
 | lend w q s=>
  refine ao (hc _) rfl (af ?_ rfl);have:=hlent (ost rows k) held H w q s hv;simp only [x_k,x_v,cB,bh,bg,aH,ax,cS,gX,gN,bX,mX,this];rw [gY _ _ (by simp only [lX,QV,QP];exact QQ (QT hhl) (by decide))];have hso:aE rows k (.lend w q s) held c=(k+1,held++[entL held w q s]):=by simp only [rK,m9 H hv]
  rw [hso];simp [stD]
 | pick w ts=>
  have hne:0 < ts.length:=by
   cases ts with
   | nil=>exact absurd rfl hv.2.1
   | cons=>simp
  have hway':c.fmod ts.length=way:=hway;have f2:=aC c (b:=(ts.length:Int)) (by exact QZ hne);have hlt:(c.fmod ts.length).toNat < ts.length:=by exact (Z5 (au c (QZ hne))).mpr f2
  have hit:item (.tuple (ts.map .int)) (.int way)=some (.int (ts.getD (c.fmod ts.length).toNat 0)):=by
   rw [<- hway'];exact wx (k:=(c.fmod ts.length).toNat) (a7 (au c (b:=(ts.length:Int)) (by exact QZ hne)) (by simpa using f2)) (by rw [Qy,Qk hlt];simp [List.getD,Qk hlt])
  have j2:item (Row.pick w ts).d (.int 2)=some (.tuple (ts.map .int)):=rfl;have j1:item (Row.pick w ts).d (.int 1)=some (.str w):=rfl;refine ag (hc _) rfl (ao (hc _) rfl (af ?_ rfl));simp only [x_k,x_v,cB,bh,bj,aH,ax,cS,gX,gN,bX,mX,j1,j2,hit];rw [gY _ _ (by simp only [lX,QV,QP];exact QQ (QT hhl) (by decide))];simp [stD,iJ,En.d]
 | either=>
  obtain ⟨x,e1,e2⟩:=iM rows k c;have hway':c.fmod (startL rows k).length=way:=hway;rw [hway'] at e2;have hx:(x.toNat:Int)=x:=by
   rcases d5 e1 with q | ⟨j,q,_⟩<;>(rw [q];rfl)
  refine ag (hc _) rfl (ag (hc _) rfl (ao (hc _) rfl (af ?_ rfl)));have hso:aE rows k .either held c=(x.toNat,held):=by simp only [eK,List.getD,e1,Zr]
  rw [hso];simp only [x_v,cB,bj,bg,aH,ax,gX,gN,bX,mX,hfirst,e2,stD,hx]
 | orr=>
  obtain ⟨j,hj⟩:=dG (by
   intro q;have hv:(ost rows k).head?.any Row.isEither=true:=hv;rw [q] at hv;cases hv)
  have hjk:=b7 hj;obtain ⟨e,he,hel,hje,hfe,hhe⟩:=b9 nd (bQ rows k j (cj hj));rw [hj] at hh;refine ag (hc _) rfl (ag (hc _) rfl (ag (hc _) rfl (ao (hc _) rfl (af ?_ rfl))));have hso:aE rows k .orr held c=(e,held):=by simp only [iK,hj,QN,he]
  rw [hso];simp only [x_v,cB,bj,aH,ax,gX,gN,bX,mX,hh,hL j (by exact Za hje hel),he,stD]
 | again=>
  refine byG λX_ g_=>?_;obtain ⟨e,he,hel,hke,hfe,hhe⟩:=b9 nd (j:=k) (by rw [aI hr];rfl);refine g_ ?_;have hway':c.fmod 2=way:=hway;have hcc:evE Φ Γ (.bool true (.cons (.cmp .Eq (.idx (.v 7) (.k (.int 0))) (.k (.str "again"))) (.cons (.cmp .Eq (.v 8) (.k (.int 0))) .nil))) [some R,some Hm,some Lm,some st,some (.int c),some (.int (k:Int)),some (.tuple (held.map En.d)),some Row.again.d,some (.int way)]=some (.bool (true&&(way == 0))):=aF (hc _) (rfl);refine ag (hc _) rfl (ag (hc _) rfl (ag (hc _) rfl (ag (hc _) rfl ?_)))
  by_cases h2:way=0
  ·have hso:aE rows k .again held c=(e+1,held):=by simp only [cJ,hway',Ql h2,he,QN]
   rw [hso];refine ao hcc (by rw [h2];rfl) (af ?_ rfl);simp only [x_k,x_v,cB,bh,bj,aH,ax,cS,gX,gN,bX,mX,hL k hk,he];rfl
  ·have hso:aE rows k .again held c=(k+1,held):=by simp only [cJ,hway',Qu h2]
   rw [hso];exact ag hcc (by rw [am];simp [h2]) (ag (hc _) rfl (ag (hc _) rfl (af rfl rfl)))
 | fin=>
  refine ag (hc _) rfl (ag (hc _) rfl (ag (hc _) rfl (ag (hc _) rfl (ag (ha rfl) rfl (ao (hc _) rfl (af ?_ rfl))))));have:=hee hr held c;rw [hst] at this;exact ai (esC rfl (esC rfl (esC rfl es0))) this
 | deed v w=>
  cases v with
  | back=>
   refine ag (hc _) rfl (ag (hc _) rfl (ag (hc _) rfl (ag (hc _) rfl (ag (ha rfl) rfl (ag (hc _) rfl (ao (hc _) rfl (af ?_ rfl)))))));exact a9 (esC (aA rfl rfl (cS (↑k) 1)) (esC (ai (esC rfl (esC (ad rfl rfl rfl) es0)) (hgiven held hhl w)) es0))
  | look=>exact ag (hc _) rfl (ag (hc _) rfl (ag (hc _) rfl (ag (hc _) rfl (ag (ha rfl) rfl (ag (hc _) rfl (ag (hc _) rfl (af rfl rfl)))))))
  | change=>exact ag (hc _) rfl (ag (hc _) rfl (ag (hc _) rfl (ag (hc _) rfl (ag (ha rfl) rfl (ag (hc _) rfl (ag (hc _) rfl (af rfl rfl)))))))
end
end Mine
set_option tactic.hygienic false
namespace Mine
open PySem
noncomputable def enc(p:Nat × List En):StK:=((p.1:Int),p.2.map λe=>(e.w,e.k,e.t,e.s,e.o))
theorem pT(p:Nat × List En):stD p=stK (enc p):=by
 unfold stD stK enc;rw [Yk];rfl
theorem uQ{p q:Nat × List En}(h:enc p=enc q):p=q:=by
 obtain ⟨a,l⟩:=p;obtain ⟨b,r⟩:=q;have e1:a=b:=Int.ofNat.inj (Qf Prod.fst h);have e2:l=r:=(List.map_inj_right λx y (q:(x.w,x.k,x.t,x.s,x.o)=(y.w,y.k,y.t,y.s,y.o))=>by
  obtain ⟨_,_,_,_,_⟩:=x;obtain ⟨_,_,_,_,_⟩:=y;simp only [Prod.mk.injEq] at q;obtain ⟨rfl,rfl,rfl,rfl,rfl⟩:=q;rfl).mp (Qf Prod.snd h)
 rw [e1,e2]
noncomputable def seenD(l:List (Nat × List En)):List (D × D):=(l.map enc).map λk=>(stK k,PyData.bool true)
theorem iR:∀ ks:List StK,keysT (ks.map λk=>(stK k,PyData.bool true))=some ks
 | []=>rfl
 | k::ks=>by
  show (if tru (.bool true) then (unK (stK k)).bind λk=>(keysT (ks.map λk=>(stK k,PyData.bool true))).map λks=>k::ks else none)=_;rw [lG,iR ks];rfl
theorem mem_enc{p:Nat × List En}{l:List (Nat × List En)}:enc p ∈ l.map enc↔p ∈ l:=by
 exact QG.trans (⟨λ⟨q,h1,h2⟩=>uQ h2 ▸ h1,λh=>⟨p,h,rfl⟩⟩)
theorem fH:∀ {l:List (Nat × List En)},l.Nodup->nodT (l.map enc)=true:=by
 intro l;induction l with
 | nil=>
  intro _;exact rfl
 | cons p l fH=>
  intro h;rw [Q8] at h;show (!hasT (enc p) (l.map enc)&&nodT (l.map enc))=true;have:hasT (enc p) (l.map enc)=false:=by
   cases q:hasT (enc p) (l.map enc) with
   | false=>rfl
   | true=>exact absurd (mem_enc.mp ((d9 _ _).mp q)) h.1
  rw [this,fH h.2];rfl
noncomputable def d7(l:List (Nat × List En))(p:Nat × List En):Bool:=hasT (enc p) (l.map enc)
theorem seenB_iff{l:List (Nat × List En)}{p:Nat × List En}:d7 l p=true↔p ∈ l:=(d9 _ _).trans mem_enc
theorem gq{l:List (Nat × List En)}(h:l.Nodup)(p:Nat × List En):bl .NotIn (stD p) (.dict (seenD l))=some (!d7 l p):=by
 have h1:dIn (stD p) (seenD l)=some (d7 l p):=by
  show ((unK (stD p)).bind λp=>(keysT (seenD l)).bind λks=>if nodT ks then some (hasT p ks) else none)=_;unfold seenD;rw [pT,lG,iR,bX,bX,Ql (fH h)];rfl
 show (dIn (stD p) (seenD l)).map (!·)=_;rw [h1];rfl
section
variable {Φ:Str->List D->Option D}{Γ:Str->Option D}{m:St}{ow:List Nat}{fr:Bool}{N:Nat}
set_option tactic.hygienic true in
theorem lc{i:Nat}{ix:Ex}{r:Sms}{l:List (Nat × List En)}{p:Nat × List En}{Q:St->Prop}(hm:m[i]?=some (some (.dict (seenD l))))(hx:evE Φ Γ ix m=some (stD p))(hn:l.Nodup)(hl:l.length<=2000)(hp:p ∉ l)(k:Go (exSs Φ Γ ow fr N r (m.set i (some (.dict (seenD (l++[p])))))) Q):Go (exSs Φ Γ ow fr N (.cons (.seti i ix (.k (.bool true))) r) m) Q:=by
 obtain ⟨m2,e2,q2⟩:=k;refine ⟨m2,(aS ?_).trans e2,q2⟩;rw [li,x_k,bX,hm,hx];show (if noList (.bool true) then ((unK (stD p)).bind λq=>(keysT (seenD l)).bind λks=>if nodT ks&&tru (.bool true)&&decide (ks.length<=2 ^ 20) then some (Fl.next,setV m i (.dict (dPutT q ks (seenD l)))) else none) else none)=_;have hk:keysT (seenD l)=some (l.map enc):=iR _;have hlen:(l.map enc).length<=2 ^ 20:=by rw [lX];exact QQ hl (by decide)
 rw [Ql (show noList (.bool true)=true from rfl),pT,lG,hk,bX,bX,fH hn,Qn hlen,Ql (show (true&&tru (.bool true)&&true)=true from rfl)];have hh:hasT (enc p) (l.map enc)=false:=by
  cases q:hasT (enc p) (l.map enc) with
  | false=>rfl
  | true=>exact absurd (mem_enc.mp ((d9 _ _).mp q)) hp
 unfold dPutT;rw [hh];show some (Fl.next,m.set i (some (.dict (seenD l++[(stK (enc p),.bool true)]))))=_;unfold seenD;rw [Qb,Qb];rfl
end
abbrev Tri:=(Nat × List En) × Option Nat × Nat
noncomputable def optI:Option Nat->D
 | some j=>.int (j:Int)
 | none=>.none
noncomputable def tD(x:Tri):D:=.tuple [stD x.1,optI x.2.1,.int (x.2.2:Int)]
noncomputable def sucOf(rows:List Row)(p:Nat × List En)(c:Nat):Nat × List En:=aE rows p.1 (rows.getD p.1 .fin) p.2 (c:Int)
noncomputable def adT(rows:List Row)(k:Nat)(p:Nat × List En)(F:List Tri)(c:Nat):List Tri:=
 if (sucOf rows p c).1 < rows.length/\d7 (F.map (·.1)) (sucOf rows p c)=false then F++[(sucOf rows p c,some k,c)] else F
noncomputable def procT(rows:List Row)(k:Nat)(p:Nat × List En)(F:List Tri)(n:Nat):List Tri:=(List.range n).foldl (adT rows k p) F
theorem cy(rows:List Row)(k:Nat)(p:Nat × List En)(F:List Tri)(n:Nat):procT rows k p F (n+1)=adT rows k p (procT rows k p F n) n:=by
 unfold procT;rw [List.range_succ,List.foldl_append];rfl
noncomputable def ld(rows:List Row)(p:Nat × List En):Nat:=(bo rows p.1 (rows.getD p.1 .fin)).toNat
noncomputable def B(rows:List Row):Nat->List Tri
 | 0=>if rows.isEmpty then [] else [((0,[]),none,0)]
 | k+1=>match (B rows k)[k]? with
  | some x=>procT rows k x.1 (B rows k) (ld rows x.1)
  | none=>B rows k
theorem B_1(rows:List Row):B rows 0=if rows.isEmpty=true then [] else [((0,[]),none,0)]:=rfl
theorem B_2(rows:List Row)(n:Nat):B rows (n+1)=match (B rows n)[n]? with | some x=>procT rows n x.fst (B rows n) (ld rows x.fst) | none=>B rows n:=rfl
structure BOk(rows:List Row)(k:Nat)(F:List Tri):Prop where
 st:∀ x ∈ F,StOk rows x.1
 nd:(F.map (·.1)).Nodup
 up:∀ j x,F[j]?=some x->∀ a,x.2.1=some a->a < j/\a<=k
set_option tactic.hygienic true in
theorem wO{rows:List Row}(nd:Nested rows)(wf:WfR [] rows){k:Nat}{p:Nat × List En}(hp:StOk rows p){F:List Tri}(h:BOk rows k F)(hk:k < F.length)(c:Nat):BOk rows k (adT rows k p F c)/\k < (adT rows k p F c).length/\(adT rows k p F c).length<=F.length+1:=by
 unfold adT;split
 ·rename_i hc
  refine ⟨⟨λx hx=>?_,?_,λj x hx a ha=>?_⟩,by rw [QW];exact Qe hk (QI _ _),by rw [QW];exact QO _⟩
  ·rcases QY hx with q | q
   ·exact h.st x q
   ·rw [Qx q];exact ⟨hc.1,((kW nd wf (aD hp.1) hp.2 (c:Int)).2)⟩
  ·rw [Qb,Y3]
   refine ⟨h.nd,by simp,λa ha b hb e=>?_⟩;rw [QX,ZC,ZV] at hb;subst e;rw [hb] at ha;rw [seenB_iff.mpr ha] at hc;cases hc.2
  ·rcases Nat.lt_or_ge j F.length with q | q
   ·rw [Zx q] at hx
    exact h.up j x hx a ha
   ·rw [ZW q] at hx
    have hj:j - F.length=0:=by
     have:=(Qq hx).1;simp only [QV,QP] at this;exact Nat.lt_one_iff.mp this
    rw [hj] at hx;cases hx;cases ha;exact ⟨Qe hk q,QO k⟩
 ·exact ⟨h,hk,Zs _⟩
theorem gr{rows:List Row}(nd:Nested rows)(wf:WfR [] rows){k:Nat}{p:Nat × List En}(hp:StOk rows p){F:List Tri}(h:BOk rows k F)(hk:k < F.length):∀ n,BOk rows k (procT rows k p F n)/\k < (procT rows k p F n).length/\(procT rows k p F n).length<=F.length+n:=by
 intro n;induction n with
 | zero=>exact ⟨h,hk,QO _⟩
 | succ n ih=>
  rw [cy];refine byG λX_ g_=>?_;obtain ⟨i1,i2,i3⟩:=ih;obtain ⟨j1,j2,j3⟩:=wO nd wf hp i1 i2 n;refine g_ ?_;exact ⟨j1,j2,by exact QQ j3 (QT i3)⟩
theorem BOk.mono{rows:List Row}{k k':Nat}{F:List Tri}(h:BOk rows k F)(hk:k<=k'):BOk rows k' F:=⟨h.st,h.nd,λj x hx a ha=>⟨(h.up j x hx a ha).1,QQ (h.up j x hx a ha).2 hk⟩⟩
theorem sZ{rows:List Row}(wf:WfR [] rows)(hl:rows.length<=1000){p:Nat × List En}(hp:p.1 < rows.length):0<=bo rows p.1 (rows.getD p.1 .fin)/\bo rows p.1 (rows.getD p.1 .fin)<=1001:=by
 have v:=cP wf (aD hp);generalize rows.getD p.1 .fin=r at v;have hs:(startL rows p.1).length<=1001:=by
  unfold startL;rw [QV,lX];have:=Zz (λj=>isAt rows Row.isOr j&&home rows j == (p.1:Int)) (List.range rows.length);rw [Qo] at this;lia
 cases r with
 | pick w ts=>exact ⟨Zq _,by have:=v.2.2;show (ts.length:Int)<=1001;exact QB.mpr (QQ this (by decide))⟩
 | either=>exact ⟨Zq _,by show ((startL rows p.1).length:Int)<=1001;(exact QZ hs)⟩
 | again=>exact ⟨(by decide:(0:Int)<=2),(by decide:(2:Int)<=1001)⟩
 | _=>exact ⟨(by decide:(0:Int)<=1),(by decide:(1:Int)<=1001)⟩
set_option tactic.hygienic true in
theorem B_ok{rows:List Row}(nd:Nested rows)(wf:WfR [] rows):∀ k,BOk rows k (B rows k)
 | 0=>by
  rw [B_1];split
  ·exact ⟨(λx hx=>by cases hx),ZM,(λj x hx=>by cases hx)⟩
  ·rename_i hne
   refine ⟨λx hx=>?_,by simp,λj x hx a ha=>?_⟩
   ·rw [Qx hx]
    refine ⟨?_,⟨rfl,λe h=>(nomatch h),ZM,λe h=>(nomatch h)⟩⟩;cases rows with
    | nil=>exact absurd rfl hne
    | cons=>exact Zm _
   ·cases j with
    | zero=>cases hx;cases ha
    | succ j=>cases hx
 | k+1=>by
  rw [B_2];split
  ·rename_i x hx
   exact (gr nd wf ((B_ok nd wf k).st x (Qa hx)) (B_ok nd wf k) ((Qq hx).1) _).1.mono (Zs _)
  ·exact (B_ok nd wf k).mono (Zs _)
end Mine
set_option tactic.hygienic false
namespace Mine
open PySem
noncomputable def nxT(rows:List Row)(t k:Nat):Nat:=if (rows.getD k .fin).chooses then t+1 else t
noncomputable def nxC(rows:List Row)(cs:List Int)(t k:Nat):Int:=if (rows.getD k .fin).chooses then cs.getD t 0 else 0
noncomputable def nxS(rows:List Row)(cs:List Int)(t k:Nat)(held:List En):Nat × List En:=aE rows k (rows.getD k .fin) held (nxC rows cs t k)
noncomputable def Runs(rows:List Row)(cs:List Int):List (Nat × List En)->Nat->Nat->List En->Prop
 | [],_,k,_=>k=rows.length
 | p::l,t,k,held=>p=(k,held)/\k < rows.length/\HeldOk (ost rows k) held/\Runs rows cs l (nxT rows t k) (nxS rows cs t k held).1 (nxS rows cs t k held).2
noncomputable def kf(rows:List Row)(k:Nat):Nat:=if isAt rows Row.isAgain k=true then (endAt rows k rows.length).toNat+((endAt rows k rows.length).toNat+1) else k+k
noncomputable def mu0(rows:List Row)(k:Nat):Nat:=rows.length+rows.length - kf rows k
theorem nf{rows:List Row}{k:Nat}(h:isAt rows Row.isAgain k=true):isAt rows Row.isOpen k=true:=by
 unfold isAt at h ⊢;cases q:rows[k]? with
 | none=>rw [q] at h;cases h
 | some r=>
  rw [q] at h;cases r<;>first | rfl | cases h
theorem iS{rows:List Row}(nd:Nested rows){k:Nat}(h:isAt rows Row.isAgain k=true):∃ e:Nat,endAt rows k rows.length=(e:Int)/\k < e/\e < rows.length/\kf rows k=e+(e+1):=
 (b9 nd (nf h)).imp λe w=>⟨w.1,w.2.2.1,w.2.1,by unfold kf;rw [Ql h,w.1,QN]⟩
theorem iT{rows:List Row}{k:Nat}(h:isAt rows Row.isAgain k=false):kf rows k=k+k:=Qu (h ▸ Qr)
theorem wP{rows:List Row}(nd:Nested rows)(k:Nat):k+k<=kf rows k:=by
 cases q:isAt rows Row.isAgain k with
 | false=>exact Zd (iT q).symm
 | true=>exact (iS nd q).elim λe w=>QQ (QC (Qm w.2.1) (YX (Qm w.2.1))) (Zd w.2.2.2.symm)
theorem r6{rows:List Row}(nd:Nested rows){k k':Nat}{row:Row}{c:Int}(hr:rows[k]?=some row)(g:Goes rows k row c k'):mu0 rows k' < mu0 rows k\/row.isAgain=true/\c.fmod 2 ≠ 0:=by
 have hk:k < rows.length:=(Qq hr).1;have hiso:=aI hr Row.isAgain;have fall:∀ x,kf rows k=x->x < rows.length+rows.length->x < kf rows k'->mu0 rows k' < mu0 rows k\/row.isAgain=true/\c.fmod 2 ≠ 0:=λx e h1 h2=>.inl (Nat.sub_lt_sub_left (e ▸ h1) (e ▸ h2));rcases g.way with ⟨h1,h2⟩ | ⟨h1,h2,h3⟩ | ⟨h1,h2⟩
 ·exact fall _ (iT (hiso.trans h1)) (Nat.add_lt_add hk hk) (Qe (Nat.add_lt_add h2 h2) (wP nd k'))
 ·exact fall _ (iT (hiso.trans h1)) (Nat.add_lt_add hk hk) ((iS nd h2).elim λe w=>by rw [w.2.2.2,<- Int.ofNat.inj (h3.symm.trans w.1)];exact QA _)
 ·rcases h2 with ⟨_,q⟩ | ⟨e2,q1,q2⟩
  ·exact .inr ⟨h1,q⟩
  ·refine (iS nd (hiso.trans h1)).elim λe w=>fall _ w.2.2.2 (Qe (Nat.add_lt_add_right (QA e) (e+1)) (QC w.2.2.1 w.2.2.1)) ?_
   rw [q2,<- Int.ofNat.inj (w.1.symm.trans q1)];exact Qe (Nat.add_lt_add_right (QA e) (e+1)) (wP nd (e+1))
theorem s9(rows:List Row)(k:Nat):mu0 rows k<=rows.length+rows.length:=XZ _ _
noncomputable def lft(rows:List Row)(cs:List Int)(t k:Nat):Nat:=(cs.length - t) * (rows.length+rows.length+1)+mu0 rows k
theorem l9{rows:List Row}(nd:Nested rows){cs:List Int}{t k k':Nat}(hk:k < rows.length)(g:Goes rows k (rows.getD k .fin) (nxC rows cs t k) k'):lft rows cs (nxT rows t k) k' < lft rows cs t k:=by
 have hT:t<=nxT rows t k:=by
  unfold nxT;split
  ·exact Zs _
  ·exact QO _
 rcases r6 nd (aD hk) g with h | ⟨h,q⟩
 ·exact Nat.add_lt_add_of_le_of_lt (Nat.mul_le_mul_right _ (Nat.sub_le_sub_left hT _)) h
 ·have hc:(rows.getD k .fin).chooses=true:=by
   cases hr:rows.getD k .fin<;>first | rfl | (rw [hr] at h;cases h)
  have ht:t < cs.length:=by
   refine Nat.lt_of_not_le λht=>q ?_;unfold nxC;rw [Ql hc,List.getD,ZS ht];rfl
  unfold lft nxT;rw [Ql hc];rw [show cs.length - t=cs.length - (t+1)+1 from (Xk (Nat.sub_pos_of_lt ht)).symm,Nat.succ_mul];exact Qe (YI (Y2 (s9 rows k')) _) (QI _ _)
theorem uR{rows:List Row}(nd:Nested rows)(wf:WfR [] rows){cs:List Int}(n:Nat):∀ (t k:Nat) (held:List En),k<=rows.length->HeldOk (ost rows k) held->lft rows cs t k<=n->∃ l,Runs rows cs l t k held/\l.length<=n:=by
 induction n with
 | zero=>
  intro t k held hk H hm
  by_cases hkl:k=rows.length
  ·exact ⟨[],hkl,QO _⟩
  ·have hkl:=Yx hk hkl
   exact absurd (Qe (l9 nd hkl (kW nd wf (aD hkl) H (nxC rows cs t k)).1) hm) (ZY _)
 | succ n ih=>
  intro t k held hk H hm
  by_cases hkl:k=rows.length
  ·exact ⟨[],hkl,QF _⟩
  ·have hkl:=Yx hk hkl
   have g:=kW nd wf (aD hkl) H (nxC rows cs t k);exact (ih (nxT rows t k) _ _ g.1.le g.2 (Q7 (Qe (l9 nd hkl g.1) hm))).elim λl h=>⟨(k,held)::l,⟨rfl,hkl,H,h.1⟩,QT h.2⟩
theorem r7{rows:List Row}{cs:List Int}{l:List (Nat × List En)}:∀ {t k:Nat} {held:List En},Runs rows cs l t k held->∀ p ∈ l,StOk rows p:=by
 induction l with
 | nil=>intro t k held _ p hp;cases hp
 | cons q l ih=>
  intro t k held h p hp;rcases Qw hp with e | hp
  ·rw [e,h.1];exact ⟨h.2.1,h.2.2.1⟩
  ·exact ih h.2.2.2 p hp
theorem pU{rows:List Row}{cs:List Int}{t k:Nat}{held:List En}{l:List (Nat × List En)}(R:Runs rows cs l t k held)(h:k < rows.length):∃ l',l=(k,held)::l'/\HeldOk (ost rows k) held/\Runs rows cs l' (nxT rows t k) (nxS rows cs t k held).1 (nxS rows cs t k held).2:=by
 cases l with
 | nil=>exact absurd R (QM h)
 | cons p l=>exact ⟨l,by rw [R.1],R.2.2⟩
theorem mc{rows:List Row}{cs:List Int}{t k:Nat}{held:List En}{l:List (Nat × List En)}(R:Runs rows cs l t k held)(h : ¬ k < rows.length):l=[]:=by
 cases l with
 | nil=>rfl
 | cons p l=>exact absurd R.2.1 h
section
variable (Φ:Str->List D->Option D)(Γ:Str->Option D)(N:Nat)
theorem wQ(rows:List Row)(hN:90000<=N)
 (hhome:Φ "_law_homes" [.list (rows.map Row.d)]=some (.list ((homeL rows).map .int)))
 (hstep:∀ (k:Nat) (row:Row) (_:rows[k]?=some row) (held:List En) (_:HeldOk (ost rows k) held) (c:Int),Φ "_law_step" [.list (rows.map Row.d),.list ((homeL rows).map .int),stD (k,held),.int c]=some (stD (aE rows k row held c)))
 (cs:List Int) (fs:List (Nat × List En)) (hfl:fs.length<=80000) (R:Runs rows cs fs 0 0 []):runFn Φ Γ N fn_law_run [.list (rows.map Row.d),.list (cs.map .int)]=some (.list (fs.map stD)):=by
 refine av [some (.list (rows.map Row.d)),some (.list (cs.map .int)),none,none,none,none,none] rfl rfl ?_;dsimp only [fn_law_run];refine al (.list ((homeL rows).map .int)) (ai (esC rfl es0) hhome) rfl ?_;refine bd (.list []) rfl rfl (al (stD (0,[])) rfl rfl (al (.int 0) rfl rfl ?_));simp only [sX,sN];have hlenR:b1 .len (.list (rows.map Row.d))=some (.int rows.length):=by rw [cZ,lX]
 have hlenC:b1 .len (.list (cs.map .int))=some (.int cs.length):=by rw [cZ,lX]
 have hrow:=λ(k:Nat) (h:k < rows.length)=>aZ (aD h);generalize PyData.list (rows.map Row.d)=Rw at *;generalize PyData.list ((homeL rows).map .int)=Hm at *;refine aN (Q':=λm=>∃ x4 x5 x6,m=[some Rw,some (.list (cs.map .int)),some Hm,some (.list (fs.map stD)),x4,x5,x6]) (rM (λn m=>∃ (t k:Nat) (held:List En) (old l:List (Nat × List En)) (x6:Option D),Runs rows cs l t k held/\l.length=n/\old++l=fs/\m=[some Rw,some (.list (cs.map .int)),some Hm,some (.list (old.map stD)),some (stD (k,held)),some (.int (t:Int)),x6]) (λn m hI=>?_) fs.length _ (by exact Qh hfl (Qe (by decide) hN)) ⟨0,0,[],[],fs,none,R,rfl,rfl,rfl⟩) ?_
 ·obtain ⟨t,k,held,old,l,x6,R,hn,hfs,rfl⟩:=hI
  refine ⟨decide ((k:Int) < rows.length),?_,λq=>?_,λq=>?_⟩
  ·rw [aj (ad rfl rfl rfl) (aT rfl hlenR) rfl];rfl
  ·rw [mc R (λh=>of_decide_eq_false q (QZ h)),Xa] at hfs
   rw [hfs];exact ⟨_,_,_,rfl⟩
  ·have hkl:k < rows.length:=Q0.mp (Qp q)
   obtain ⟨l',rfl,H,R'⟩:=pU R hkl;have hol:old.length<=80000:=by rw [<- hfs,QW] at hfl;exact QQ (QI _ _) hfl
   refine bH (xs:=old.map stD) (d:=stD (k,held)) rfl rfl (gn _) (by rw [lX];exact QQ hol (by decide)) ?_;refine aw (.int 0) rfl rfl ?_;simp only [sX,sN];rw [show old.map stD++[stD (k,held)]=(old++[(k,held)]).map stD by rw [Qb];rfl];refine ar (aW (b:=(rows.getD k .fin).chooses) (Q:=λm=>m=[some Rw,some (.list (cs.map .int)),some Hm,some (.list ((old++[(k,held)]).map stD)),some (stD (k,held)),some (.int (nxT rows t k:Int)),some (.int (nxC rows cs t k))]) (aj (ad (ad rfl (ad rfl rfl rfl) (hrow k hkl)) rfl (Row.i0 _)) rfl (g9 _)) (λq=>?_) λq=>?_) ?_
   ·unfold nxT nxC
    rw [Ql q,Ql q];refine ar (aW (b:=decide ((t:Int) < cs.length)) (Q:=λm=>m=[some Rw,some (.list (cs.map .int)),some Hm,some (.list ((old++[(k,held)]).map stD)),some (stD (k,held)),some (.int (t:Int)),some (.int (cs.getD t 0))]) (aj rfl (aT rfl hlenC) rfl) (λq2=>?_) λq2=>?_) ?_
    ·refine aw (.int (cs.getD t 0)) (ad rfl rfl (bS ?_)) rfl (ah rfl)
     have:=Q0.mp (Qp q2);rw [Qk this,List.getD,Qk this];rfl
    ·rw [show cs.getD t 0=0 by rw [List.getD,ZS (YV λh=>of_decide_eq_false q2 (QZ h))];rfl]
    ·rintro _ rfl
     exact aw (.int ((t+1:Nat):Int)) rfl rfl (ah rfl)
   ·unfold nxT nxC
    rw [q];rfl
   ·rintro _ rfl
    refine aw (stD (nxS rows cs t k held)) (ai (esC rfl (esC rfl (esC rfl (esC rfl es0)))) (hstep k _ (aD hkl) held H (nxC rows cs t k))) rfl (ah ⟨l'.length,?_,_,_,_,old++[(k,held)],l',_,R',rfl,?_,rfl⟩)
    ·rw [<- hn];exact QA _
    ·rw [Y4];exact hfs
 ·rintro _ ⟨x4,x5,x6,rfl⟩
  exact af rfl rfl
end
end Mine
set_option tactic.hygienic false
namespace Mine
open PySem
noncomputable def aheadL:Nat->List Row
 | 0=>[]
 | n+1=>aheadL n++[.lend "ahead" false (.th n),.fin]
noncomputable def longOf(ns:List Int)(rows:List Row):List Row:=if (cellAt ns 1).fmod 16 ≠ 5\/62 < rows.length then rows else aheadL (45+(cellAt ns 2).fmod 25).toNat++rows
theorem gt(n:Nat):(aheadL n).length=2 * n:=by
 induction n with
 | zero=>rfl
 | succ n ih=>
  show (aheadL n++_).length=_;rw [QW,ih];rfl
theorem ng(n:Nat):nest (aheadL n) 0=some 0:=by
 induction n with
 | zero=>rfl
 | succ n ih=>
  show nest (aheadL n++_) 0=_;rw [aY,ih];rfl
theorem md(n:Nat):WfR [] (aheadL n)/\after [] (aheadL n)=[]:=by
 induction n with
 | zero=>exact ⟨trivial,rfl⟩
 | succ n ih=>
  refine ⟨eC _ _ _ ih.1 ?_,?_⟩
  ·rw [ih.2]
   exact ⟨⟨⟨by decide +kernel,λx hx=>nomatch hx⟩,trivial⟩,YY _ _,trivial⟩
  ·show after [] (aheadL n++_)=_
   rw [br,ih.2];rfl
theorem r8(n:Nat)(hn:n<=100):∀ x ∈ aheadL n,x.Ok:=by
 induction n with
 | zero=>intro x hx;cases hx
 | succ n ih=>
  intro x hx;rcases QY (show x ∈ aheadL n++_ from hx) with q | q
  ·exact ih (Nat.le_of_succ_le hn) x q
  ·rcases Qw q with e | q
   ·rw [e];exact ⟨⟨by decide +kernel,by decide +kernel,by decide +kernel⟩,Zq _,by exact QB.mpr (QQ (Zs n) (QQ hn (by decide)))⟩
   ·rw [Qx q];trivial
theorem tc(ns:List Int):45<=(45+(cellAt ns 2).fmod 25).toNat/\(45+(cellAt ns 2).fmod 25).toNat < 70:=by
 have h1:=au (cellAt ns 2) (b:=25) (by decide);have h2:=aC (cellAt ns 2) (b:=25) (by decide);exact ⟨(Int.le_toNat (Qt (by decide) (QR h1))).mpr (QR h1),(Z5 (Qt (by decide) (QR h1))).mpr (Int.add_lt_add_left h2 45)⟩
theorem r9(ns:List Int){rows:List Row}(hl:rows.length<=800)(hn:nest rows 0=some 0)(wf:WfR [] rows)(ok:∀ x ∈ rows,x.Ok):(longOf ns rows).length<=1000/\nest (longOf ns rows) 0=some 0/\WfR [] (longOf ns rows)/\∀ x ∈ longOf ns rows,x.Ok:=by
 have hn2:=(tc ns).2;unfold longOf;split
 ·exact ⟨by exact QQ hl (by decide),hn,wf,ok⟩
 ·refine ⟨by rw [QW,gt];exact QQ (QC (Zj 2 (Qm hn2)) hl) (by decide),by rw [aY,ng];exact hn,eC _ _ _ (md _).1 (by rw [(md _).2];exact wf),λx hx=>(QY hx).elim (r8 _ (by exact Qm (Za hn2 (by decide))) x) (ok x)⟩
section
variable (Φ:Str->List D->Option D)(Γ:Str->Option D)(N:Nat)
theorem uS(ns:List Int){rows:List Row}(hl:rows.length<=800)(hc:∀ k:Int,0<=k->Φ "_law_cell_at" [.list (ns.map .int),.int k]=some (.int (cellAt ns k))) :
 runFn Φ Γ N fn_law_long [.list (ns.map .int),.list (rows.map Row.d)]=some (.list ((longOf ns rows).map Row.d)):=by
 refine av [some (.list (ns.map .int)),some (.list (rows.map Row.d)),none,none] rfl rfl ?_;dsimp only [fn_law_long];have hn:=tc ns;have hlenR:b1 .len (.list (rows.map Row.d))=some (.int rows.length):=by rw [cZ,lX]
 have c1:evE Φ Γ (.cmp .NotEq (.bin .Mod (.call false "_law_cell_at" (.cons (.v 0) (.cons (.k (.int 1)) .nil))) (.k (.int 16))) (.k (.int 5))) [some (.list (ns.map .int)),some (.list (rows.map Row.d)),none,none]=some (.bool (!((cellAt ns 1).fmod 16 == 5))):=aj (aA (ai (esC rfl (esC rfl es0)) (hc 1 (by decide))) rfl (bw _ 16 (by decide))) rfl rfl;have c2:evE Φ Γ (.cmp .Gt (.b1 .len (.v 1)) (.k (.int 62))) [some (.list (ns.map .int)),some (.list (rows.map Row.d)),none,none]=some (.bool (decide ((62:Int) < rows.length))):=aj (aT rfl hlenR) rfl (v_gt (rows.length:Int) 62);have cc:=eT c1 c2;unfold longOf
 by_cases q:(cellAt ns 1).fmod 16 ≠ 5\/62 < rows.length
 ·rw [Ql q]
  refine ao cc ?_ (af rfl rfl);rw [am,Qc,Ze,QS,beq_eq_false_iff_ne,QE];exact q.imp id λh=>QZ h
 ·rw [Qu q]
  refine ag cc ?_ ?_
  ·rw [am,Qc,YB,Bool.not_eq_false',Q5,Zg]
   exact ⟨Classical.not_not.mp λh=>q (.inl h),λh=>q (.inr (Q0.mp h))⟩
  refine al (.list []) rfl rfl ?_;refine aN (bM (λj m=>∃ x3,m=[some (.list (ns.map .int)),some (.list (rows.map Row.d)),some (.list ((aheadL j).map Row.d)),x3]) (bA (n:=45+(cellAt ns 2).fmod 25) (aA rfl (aA (ai (esC rfl (esC rfl es0)) (hc 2 (by decide))) rfl (bw _ 25 (by decide))) rfl) (by lia)) rfl ⟨_,rfl⟩ (λk vs m hk hI=>?_)) ?_
  ·obtain ⟨x3,rfl⟩:=hI
   rw [Qy] at hk;obtain ⟨i,hi,rfl⟩:=QK hk;have h1:=(Qq hi).1;have h2:=(Qq hi).2;rw [Qo] at h1;rw [ZN] at h2;subst h2;refine ⟨_,rfl,?_⟩;refine aw (.list ((aheadL (k+1)).map Row.d)) (aA rfl (aV (esC (a9 (esC rfl (esC rfl (esC rfl (esC rfl es0))))) (esC (a9 (esC rfl es0)) es0))) ?_) rfl (ah ⟨_,rfl⟩);rw [fu _ _ (by rw [lX,gt];show 2 * k+2<=_;exact QQ (Zj 2 (QQ h1 (Qm hn.2))) (by decide))];show _=some (PyData.list ((aheadL k++_).map Row.d));rw [Qb];rfl
  ·rintro _ ⟨x3,rfl⟩
   rw [lX,Qo];generalize (45+(cellAt ns 2).fmod 25).toNat=n at hn;rw [Qb];have hz:((aheadL n).map Row.d).length+(rows.map Row.d).length<=2 ^ 20:=by
    rw [lX,lX,gt];exact QQ (QC (Zj 2 (Qm hn.2)) hl) (by decide)
   exact af (aA rfl rfl (fu _ _ hz)) rfl
end
end Mine
set_option tactic.hygienic false
namespace Mine
open PySem
structure Stop(rows:List Row)(K:Nat):Prop where
 le:K<=401
 go:∀ k,k < K->k < (B rows k).length/\(B rows k).length < 401
 fin:(B rows K).length<=K\/401<=(B rows K).length
theorem B_at{rows:List Row}{k:Nat}(h:k < (B rows k).length):∃ x,(B rows k)[k]?=some x/\B rows (k+1)=procT rows k x.1 (B rows k) (ld rows x.1):=by
 refine ⟨_,Qk h,?_⟩
 conv=>lhs;rw [B_2]
 rw [Qk h]
theorem pV(rows:List Row)(k:Nat)(p:Nat × List En)(F:List Tri)(c:Nat):(adT rows k p F c).map (·.1)=if decide ((sucOf rows p c).1 < rows.length)&&!d7 (F.map (·.1)) (sucOf rows p c) then F.map (·.1)++[sucOf rows p c] else F.map (·.1):=by
 unfold adT
 by_cases h1:(sucOf rows p c).1 < rows.length
 ·cases h2:d7 (F.map (·.1)) (sucOf rows p c) with
  | false=>rw [Ql ⟨h1,rfl⟩,Qn h1,Qb];rfl
  | true=>rw [Qu (λq=>by cases q.2),Qn h1];rfl
 ·rw [Qu (λq=>h1 q.1),Zk h1];rfl
theorem wR{l:List (Nat × List En)}{k:Nat}{p:Nat × List En}(h:l[k]?=some p):item (.list (l.map stD)) (.int (k:Int))=some (stD p):=by
 exact p_mk (k:=k) ((a7 (Zq _) (by rw [lX];exact QZ ((Qq h).1)))) (by rw [Qy,h];rfl)
section
variable {Φ:Str->List D->Option D}{Γ:Str->Option D}{m:St}{ow:List Nat}{fr:Bool}{N:Nat}
theorem xC{c:Ex}{body:Sms}{Q:St->Prop}{d:D}(I:Nat->St->Prop)(hs:∀ n m,I n m->∃ b,(evE Φ Γ c m).bind truth=some b/\(b=false->Q m)/\(b=true->Rt (exSs Φ Γ ow fr N body m) d\/Go (exSs Φ Γ ow fr N body m) (λm'=>∃ n',n' < n/\I n' m')))(n:Nat)(m:St)(hn:n < N)(h:I n m):Rt (exS Φ Γ ow fr N (.wh c body) m) d\/Go (exS Φ Γ ow fr N (.wh c body) m) Q:=by
 have main:∀ (f n:Nat) (m:St),n < f->I n m->Rt (whL (λm=>(evE Φ Γ c m).bind truth) (λm=>exSs Φ Γ ow fr N body m) f m) d\/Go (whL (λm=>(evE Φ Γ c m).bind truth) (λm=>exSs Φ Γ ow fr N body m) f m) Q:=by
  intro f;induction f with
  | zero=>intro n m h _;exact absurd h (ZY _)
  | succ f ih=>
   intro n m hf h;obtain ⟨b,h1,h2,h3⟩:=hs n m h;cases b with
   | false=>exact .inr ⟨m,by simp only [mi,h1],h2 rfl⟩
   | true=>
    rcases h3 rfl with ⟨m1,e1⟩ | ⟨m1,e1,n',hn',hI⟩
    ·exact .inl ⟨m1,by simp only [mi,h1,e1]⟩
    ·have hw:whL (λm=>(evE Φ Γ c m).bind truth) (λm=>exSs Φ Γ ow fr N body m) (f+1) m=whL (λm=>(evE Φ Γ c m).bind truth) (λm=>exSs Φ Γ ow fr N body m) f m1:=by simp only [mi,h1,e1]
     rw [hw];exact ih n' m1 (by exact Qe hn' (Q7 hf)) hI
 exact main N n m hn h
end
section
variable (Φ:Str->List D->Option D)(Γ:Str->Option D)(N:Nat)
theorem lf(rows:List Row)(hf:∀ j:Nat,j < rows.length->Φ "_law_starts" [.list (rows.map Row.d),.list ((homeL rows).map .int),.int (j:Int)]=some (.list ((startL rows j).map .int)))(k:Nat)(row:Row)(hr:rows[k]?=some row) :
 runFn Φ Γ N fn_law_some_ways [.list (rows.map Row.d),.list ((homeL rows).map .int),.int (k:Int)]=some (.int (bo rows k row)):=by
 have hg:=aZ hr;refine av [some (.list (rows.map Row.d)),some (.list ((homeL rows).map .int)),some (.int (k:Int))] rfl rfl ?_;dsimp only [fn_law_some_ways];generalize PyData.list (rows.map Row.d)=R at hg hf ⊢;have hc:∀ t:Str,evE Φ Γ (.cmp .Eq (.idx (.idx (.v 0) (.v 2)) (.k (.int 0))) (.k (.str t))) [some R,some (.list ((homeL rows).map .int)),some (.int (k:Int))]=some (.bool (row.tag == t)):=λt=>aj (ad (ad rfl rfl hg) rfl (Row.i0 row)) rfl rfl;have hlast:∀ b:Bool,(row.tag == Str.ofString "again")=b->evE Φ Γ (.idx (.lst (.cons (.k (.int 1)) (.cons (.k (.int 2)) .nil))) (.b1 .int (.cmp .Eq (.idx (.idx (.v 0) (.v 2)) (.k (.int 0))) (.k (.str "again"))))) [some R,some (.list ((homeL rows).map .int)),some (.int (k:Int))]=some (.int (if b then 2 else 1)):=λb hb=>by
  have:=hc (Str.ofString "again");rw [hb] at this;cases b<;>exact ad rfl (aT this rfl) rfl
 cases row with
 | pick w ts=>exact ao (hc _) rfl (af (aT (ad (ad rfl rfl hg) rfl rfl) (by rw [o6,lX];rfl)) rfl)
 | either=>exact ag (hc _) rfl (ao (hc _) rfl (af (aT (ai (esC rfl (esC rfl (esC rfl es0))) (hf k ((Qq hr).1))) (by rw [cZ,lX];rfl)) rfl))
 | again=>exact ag (hc _) rfl (ag (hc _) rfl (af (hlast true rfl) rfl))
 | lend w q s=>exact ag (hc _) rfl (ag (hc _) rfl (af (hlast false rfl) rfl))
 | orr=>exact ag (hc _) rfl (ag (hc _) rfl (af (hlast false rfl) rfl))
 | fin=>exact ag (hc _) rfl (ag (hc _) rfl (af (hlast false rfl) rfl))
 | deed v w=>cases v<;>exact ag (hc _) rfl (ag (hc _) rfl (af (hlast false rfl) rfl))
theorem wS{rows:List Row}(hl:rows.length<=1000)(nd:Nested rows)(wf:WfR [] rows)(hN:3000<=N)
 (hhome:Φ "_law_homes" [.list (rows.map Row.d)]=some (.list ((homeL rows).map .int)))
 (hmany:∀ (k:Nat) (row:Row),rows[k]?=some row->Φ "_law_some_ways" [.list (rows.map Row.d),.list ((homeL rows).map .int),.int (k:Int)]=some (.int (bo rows k row)))
 (hstep:∀ (k:Nat) (row:Row) (_:rows[k]?=some row) (held:List En) (_:HeldOk (ost rows k) held) (c:Int),Φ "_law_step" [.list (rows.map Row.d),.list ((homeL rows).map .int),stD (k,held),.int c]=some (stD (aE rows k row held c))) :
 runFn Φ Γ N fn_law_few [.list (rows.map Row.d),.int 400]=some (.bool false)\/∃ K,Stop rows K/\(B rows K).length<=K/\runFn Φ Γ N fn_law_few [.list (rows.map Row.d),.int 400]=some (.bool true):=by
 have hlenR:b1 .len (.list (rows.map Row.d))=some (.int rows.length):=by rw [cZ,lX]
 generalize PyData.list ((homeL rows).map .int)=Hm at *;have upto:∀ d:D,(∀ m:St,m=[some (.list (rows.map Row.d)),some (.int 400),some Hm,some (.list [stD (0,[])]),some (.dict (seenD [(0,[])])),some (.int 0),none,none,none]->Rt (exSs Φ Γ fn_law_few.ow fn_law_few.fr N (match fn_law_few.body with | .cons _ (.cons _ (.cons _ (.cons _ s)))=>s | _=>.nil) m) d)->runFn Φ Γ N fn_law_few [.list (rows.map Row.d),.int 400]=some d:=λd h=>by
  refine av [some (.list (rows.map Row.d)),some (.int 400),none,none,none,none,none,none,none] rfl rfl ?_;dsimp only [fn_law_few] at h ⊢;refine al Hm (ai (esC rfl es0) hhome) rfl (bd (.list [stD (0,[])]) rfl rfl (bd (.dict (seenD [(0,[])])) rfl rfl (al (.int 0) rfl rfl (h _ rfl))))
 generalize PyData.list (rows.map Row.d)=Rw at *;dsimp only [fn_law_few] at upto;cases hne:rows.isEmpty with
 | true=>
  have hz:rows.length=0:=Qf _ (Q1.mp hne);have hB:B rows 0=[]:=by rw [B_1,hne];rfl
  refine .inr ⟨0,⟨QF _,(λk h=>absurd h (ZY _)),.inl (by rw [hB];exact QO _)⟩,by rw [hB];exact QO _,upto _ λm hm=>?_⟩;refine aN (Q':=λ_=>True) (rM (λ_ m'=>m'=m) (λn m' e=>⟨false,?_,λ_=>trivial,λz=>nomatch z⟩) 0 m (by exact Qe (by decide) hN) rfl) λm' _=>af rfl rfl;rw [e,hm,aF (b:=true) (c:=false) rfl (aj (aT rfl hlenR) rfl (by rw [hz];rfl))];rfl
 | false=>
  have hB:B rows 0=[((0,[]),none,0)]:=by rw [B_1,hne];rfl
  have hpos:decide ((0:Int) < (rows.length:Int))=true:=by
   cases rows with
   | nil=>cases hne
   | cons=>exact Qn (QZ (Zm _))
  have loop:=xC (Φ:=Φ) (Γ:=Γ) (N:=N) (ow:=fn_law_few.ow) (fr:=fn_law_few.fr) (c:=(match fn_law_few.body with | .cons _ (.cons _ (.cons _ (.cons _ (.cons (.wh c _) _))))=>c | _=>.v 0)) (body:=(match fn_law_few.body with | .cons _ (.cons _ (.cons _ (.cons _ (.cons (.wh _ b) _))))=>b | _=>.nil)) (d:=.bool false)
   (Q:=λm=>∃ K,Stop rows K/\(B rows K).length<=K)
   (λn m=>∃ k,n=401 - k/\k<=401/\(∀ j,j < k->j < (B rows j).length/\(B rows j).length < 401)/\∃ x6 x7 x8,m=[some Rw,some (.int 400),some Hm,some (.list (((B rows k).map (·.1)).map stD)),some (.dict (seenD ((B rows k).map (·.1)))),some (.int (k:Int)),x6,x7,x8]) (λn m hI=>?_) 401 [some Rw,some (.int 400),some Hm,some (.list [stD (0,[])]),some (.dict (seenD [(0,[])])),some (.int 0),none,none,none] (by exact Qe (by decide) hN) ⟨0,rfl,QF _,(λj hj=>absurd hj (ZY _)),none,none,none,by rw [hB];rfl⟩
  ·dsimp only [fn_law_few] at loop
   rcases loop with ⟨m1,e1⟩ | ⟨m1,e1,K,hK,hle⟩
   ·exact .inl (upto _ λm hm=>⟨m1,dW (by rw [hm];exact e1)⟩)
   ·exact .inr ⟨K,hK,hle,upto _ λm hm=>bv m1 (by rw [hm];exact e1) (af rfl rfl)⟩
  ·dsimp only [fn_law_few]
   obtain ⟨k,rfl,hk4,hgo,x5,x6,x7,rfl⟩:=hI;have hlen:b1 .len (.list (((B rows k).map (·.1)).map stD))=some (.int (B rows k).length):=by rw [cZ,lX,lX]
   refine ⟨decide ((k:Int) < ((B rows k).length:Int))&&decide ((0:Int) < (rows.length:Int)),?_,λq=>?_,λq=>?_⟩
   ·rw [aF (aj rfl (aT rfl hlen) rfl) (aj (aT rfl hlenR) rfl rfl)];rfl
   ·rw [hpos,Xm,Zg] at q
    have hle:(B rows k).length<=k:=YV λh=>q (QZ h);exact ⟨k,⟨hk4,hgo,.inl hle⟩,hle⟩
   ·rw [hpos,Xm,QE] at q
    cases h4:decide ((400:Int) < ((B rows k).length:Int)) with
    | true=>exact .inl (ao (x:=.bool true) (by rw [aj (aT rfl hlen) rfl (gt_int _ _),h4]) rfl (af rfl rfl))
    | false=>
    have h400:=of_decide_eq_false h4;refine .inr (ar (Q':=λm=>m=[some Rw,some (.int 400),some Hm,some (.list (((B rows k).map (·.1)).map stD)),some (.dict (seenD ((B rows k).map (·.1)))),some (.int (k:Int)),x5,x6,x7]) (aW (b:=false) (by rw [aj (aT rfl hlen) rfl (gt_int _ _),h4]) (λz=>nomatch z) λ_=>rfl) ?_);rintro _ rfl;have hk:k < (B rows k).length:=Q0.mp q;have b4:(B rows k).length<=400:=QB.mp (ZB.mp h400);have b401:=YX b4;obtain ⟨x,hx,hB⟩:=B_at hk;have hst:=(B_ok nd wf k).st x (Qa hx);have hcnt:=sZ wf hl hst.1;refine aw (stD x.1) (ad rfl rfl (wR (by rw [Qy,hx];rfl))) rfl ?_;have hcn:(bo rows x.1.1 (rows.getD x.1.1 .fin)).toNat=ld rows x.1:=rfl;refine ar (bM (λc m=>∃ x6 x7,m=[some Rw,some (.int 400),some Hm,some (.list (((procT rows k x.1 (B rows k) c).map (·.1)).map stD)),some (.dict (seenD ((procT rows k x.1 (B rows k) c).map (·.1)))),some (.int (k:Int)),some (stD x.1),x6,x7]) (bA (ai (esC rfl (esC rfl (esC (ad rfl rfl rfl) es0))) (hmany x.1.1 _ (aD hst.1))) (by exact QB.mp (Qt (ZD (YA hcnt.1)) (Qt hcnt.2 (by decide))))) rfl ⟨_,_,rfl⟩ (λc vs m hc hI=>?_)) ?_
    ·obtain ⟨x6,x7,rfl⟩:=hI
     rw [Qy] at hc;obtain ⟨i,hi,rfl⟩:=QK hc;obtain ⟨hi1,hi2⟩:=Qq hi;rw [Qo] at hi1;rw [ZN] at hi2;subst hi2;refine ⟨_,rfl,?_⟩;have plen:=(gr nd wf hst (B_ok nd wf k) hk c).2.2;rw [cy,pV];have hnd:=((gr nd wf hst (B_ok nd wf k) hk c).1).nd;have hpl:((procT rows k x.1 (B rows k) c).map (·.1)).length<=1500:=by rw [lX];exact QQ plen (QQ (QC b4 (Qm (Qe hi1 (Zo.mpr hcnt.2)))) (by decide))
     generalize (procT rows k x.1 (B rows k) c).map (·.1)=l at hnd hpl ⊢;refine aw (stD (sucOf rows x.1 c)) (ai (esC rfl (esC rfl (esC rfl (esC rfl es0)))) (hstep x.1.1 _ (aD hst.1) x.1.2 hst.2 (c:Int))) rfl ?_;simp only [sX,sN];generalize sucOf rows x.1 c=q at *;refine ar (aW (b:=decide ((q.1:Int) < (rows.length:Int))&&!d7 l q) (Q:=λm=>∃ x6 x7,m=[some Rw,some (.int 400),some Hm,some (.list ((if decide (q.1 < rows.length)&&!d7 l q then l++[q] else l).map stD)),some (.dict (seenD (if decide (q.1 < rows.length)&&!d7 l q then l++[q] else l))),some (.int (k:Int)),some (stD x.1),x6,x7]) (aF (aj (ad rfl rfl rfl) (aT rfl hlenR) rfl) (aj rfl rfl (gq hnd q))) (λz=>?_) λz=>?_) λm e=>ah e
     ·have z':(decide (q.1 < rows.length)&&!d7 l q)=true:=by
       rw [<- z];congr 1;exact decide_eq_decide.mpr Q0.symm
      rw [z'];rw [Qj,QS] at z;have hnm:q ∉ l:=λh=>by rw [seenB_iff.mpr h] at z;cases z.2
      refine lc (l:=l) (p:=q) rfl rfl hnd (by exact QQ hpl (by decide)) hnm ?_;simp only [sX,sN,if_true];refine bH (xs:=l.map stD) (d:=stD q) rfl rfl (gn _) (by rw [lX];exact QQ hpl (by decide)) (ah ⟨some (.int (c:Int)),some (stD q),?_⟩);simp only [sX,sN,Qb];rfl
     ·have z':(decide (q.1 < rows.length)&&!d7 l q)=false:=by
       rw [<- z];congr 1;exact decide_eq_decide.mpr Q0.symm
      exact z' ▸ (⟨_,_,rfl⟩)
    ·refine al2 λx6 x7=>?_
     rw [lX,Qo,hcn,<- hB];refine aw (.int ((k+1:Nat):Int)) rfl rfl (ah ?_);exact ⟨401 - (k+1),by exact Nat.sub_lt_sub_left (Qe hk b401) (QA k),k+1,rfl,by exact QQ hk b401,λj hj=>(ZL (Q7 hj)).elim (hgo j) λe=>e ▸ ⟨hk,(by exact Y2 (QB.mp (ZB.mp h400)))⟩,_,_,_,rfl⟩
end
end Mine
set_option tactic.hygienic false
namespace Mine
open PySem
theorem pW(x:Tri):noList (tD x)=true:=by
 show (noList (stD x.1)&&(noList (optI x.2.1)&&true))=true;rw [gn];cases x.2.1<;>rfl
theorem gu{l:List Tri}{k:Nat}{x:Tri}(h:l[k]?=some x):item (.list (l.map tD)) (.int (k:Int))=some (tD x):=by
 exact p_mk (k:=k) ((a7 (Zq _) (by rw [lX];exact QZ ((Qq h).1)))) (by rw [Qy,h];rfl)
section
variable (Φ:Str->List D->Option D)(Γ:Str->Option D)(N:Nat)
set_option tactic.hygienic true in
theorem jX{rows:List Row}(hl:rows.length<=1000)(nd:Nested rows)(wf:WfR [] rows)(hN:3000<=N)
 (hhome:Φ "homes" [.list (rows.map Row.d)]=some (.list ((homeL rows).map .int))) (hend:Φ "ends" [.list (rows.map Row.d)]=some (.list ((endL rows).map .int)))
 (hcount:∀ (k:Nat) (row:Row),rows[k]?=some row->Φ "count_of" [.list (rows.map Row.d),.list ((homeL rows).map .int),.int (k:Int)]=some (.int (bo rows k row)))
 (hmoved:∀ (k:Nat) (row:Row) (_:rows[k]?=some row) (held:List En) (_:HeldOk (ost rows k) held) (c:Int),Φ "moved" [.list (rows.map Row.d),.list ((homeL rows).map .int),.list ((endL rows).map .int),stD (k,held),.int c]=some (stD (aE rows k row held c)))
 {K:Nat} (hK:Stop rows K) (hfin:(B rows K).length<=K):runFn Φ Γ N fnstandings [.list (rows.map Row.d)]=some (.list ((B rows K).map tD)):=by
 refine av [some (.list (rows.map Row.d)),none,none,none,none,none,none,none,none] rfl rfl ?_;dsimp only [fnstandings];generalize hHm:PyData.list ((homeL rows).map .int)=Hm at *;generalize hEm:PyData.list ((endL rows).map .int)=Em at *;have hlenR:b1 .len (.list (rows.map Row.d))=some (.int rows.length):=by rw [cZ,lX]
 generalize hRw:PyData.list (rows.map Row.d)=Rw at *;refine al Hm (ai (esC rfl es0) hhome) rfl ?_;refine al Em (ai (esC rfl es0) hend) rfl (bd (.list []) rfl rfl (bd (.dict []) rfl rfl ?_));simp only [sX,sN];have hB0:B rows 0=if rows.isEmpty then [] else [((0,[]),none,0)]:=rfl
 refine aN (Q':=λm=>m=[some Rw,some Hm,some Em,some (.list ((B rows 0).map tD)),some (.dict (seenD ((B rows 0).map (·.1)))),none,none,none,none]) (aW (b:=decide ((0:Int) < (rows.length:Int))) (aj (aT rfl hlenR) rfl rfl) (λz=>?_) λz=>?_) ?_
 ·have z:=Qp z
  have hne:rows.isEmpty=false:=by
   cases rows with
   | nil=>cases z
   | cons=>rfl
  rw [hB0,hne];refine bH (xs:=[]) (d:=tD ((0,[]),none,0)) rfl rfl rfl (QF _) ?_;exact lc (l:=[]) (p:=(0,[])) rfl rfl ZM (QF _) (YW) (ah rfl)
 ·have z:=of_decide_eq_false z
  have hne:rows.isEmpty=true:=by
   cases rows with
   | nil=>rfl
   | cons=>exact absurd (by rw [QV];((expose_names;exact QZ (Zm tail.length)))) z
  rw [hB0,hne];rfl
 rintro _ rfl;refine al (.int 0) rfl rfl ?_;refine aN (Q':=λm=>∃ x4 x5 x6 x7 x8,m=[some Rw,some Hm,some Em,some (.list ((B rows K).map tD)),x4,x5,x6,x7,x8]) (rM (λn m=>∃ k,n=K - k/\k<=K/\∃ x6 x7 x8,m=[some Rw,some Hm,some Em,some (.list ((B rows k).map tD)),some (.dict (seenD ((B rows k).map (·.1)))),some (.int (k:Int)),x6,x7,x8]) (λn m hI=>?_) K _ (by have:=hK.le;exact Qh this (Qe (by decide) hN)) ⟨0,rfl,QF _,none,none,none,rfl⟩) ?_
 ·obtain ⟨k,rfl,hkK,x6,x7,x8,rfl⟩:=hI
  refine ⟨decide ((k:Int) < ((B rows k).length:Int)),?_,λq=>?_,λq=>?_⟩
  ·rw [aj rfl (aT rfl (by rw [cZ,lX])) rfl];rfl
  ·have q:=of_decide_eq_false q
   have:k=K:=by
    rcases ZL hkK with h | h
    ·exact absurd (QZ (hK.go k h).1) q
    ·exact h
   subst this;exact ⟨_,_,_,_,_,rfl⟩
  ·have hk:k < (B rows k).length:=Q0.mp (Qp q)
   have hkK2:k < K:=by
    rcases ZL hkK with h | h
    ·exact h
    ·subst h;exact absurd hk (Z7.mpr hfin)
   obtain ⟨x,hx,hB⟩:=B_at hk;have hst:=(B_ok nd wf k).st x (Qa hx);have hcnt:=sZ wf hl hst.1;have h401:=(hK.go k hkK2).2;refine aw (stD x.1) (ad (ad rfl rfl (gu hx)) rfl rfl) rfl ?_;refine ar (bM (λc m=>∃ x7 x8,m=[some Rw,some Hm,some Em,some (.list ((procT rows k x.1 (B rows k) c).map tD)),some (.dict (seenD ((procT rows k x.1 (B rows k) c).map (·.1)))),some (.int (k:Int)),some (stD x.1),x7,x8]) (bA (ai (esC rfl (esC rfl (esC (ad rfl rfl rfl) es0))) (hcount x.1.1 _ (aD hst.1))) (by exact QB.mp (Qt (ZD (YA hcnt.1)) (Qt hcnt.2 (by decide))))) rfl ⟨_,_,rfl⟩ (λc vs m hc hI=>?_)) ?_
   ·obtain ⟨x7,x8,rfl⟩:=hI
    rw [Qy] at hc;obtain ⟨i,hi,rfl⟩:=QK hc;obtain ⟨hi1,hi2⟩:=Qq hi;rw [Qo] at hi1;rw [ZN] at hi2;subst hi2;refine ⟨_,rfl,?_⟩;have plen:=(gr nd wf hst (B_ok nd wf k) hk c).2.2;rw [cy];have hnd:=((gr nd wf hst (B_ok nd wf k) hk c).1).nd;have hpl:(procT rows k x.1 (B rows k) c).length<=1500:=by exact QQ plen (QQ (QC (Qm h401) (Qm (Qe hi1 (Zo.mpr hcnt.2)))) (by decide))
    generalize procT rows k x.1 (B rows k) c=F at hnd hpl ⊢;refine aw (stD (sucOf rows x.1 c)) (ai (esC rfl (esC rfl (esC rfl (esC rfl (esC rfl es0))))) (hmoved x.1.1 _ (aD hst.1) x.1.2 hst.2 (c:Int))) rfl ?_;simp only [sX,sN];unfold adT;generalize sucOf rows x.1 c=q at *;refine ar (aW (b:=decide ((q.1:Int) < (rows.length:Int))&&!d7 (F.map (·.1)) q) (Q:=λm=>∃ x7 x8,m=[some Rw,some Hm,some Em,some (.list ((if q.1 < rows.length/\d7 (F.map (·.1)) q=false then F++[(q,some k,c)] else F).map tD)),some (.dict (seenD ((if q.1 < rows.length/\d7 (F.map (·.1)) q=false then F++[(q,some k,c)] else F).map (·.1)))),some (.int (k:Int)),some (stD x.1),x7,x8]) (aF (aj (ad rfl rfl rfl) (aT rfl hlenR) rfl) (aj rfl rfl (gq hnd q))) (λz=>?_) λz=>?_) λm e=>ah e
    ·rw [Qj,QS,QE] at z
     have hnm:q ∉ F.map (·.1):=λh=>by rw [seenB_iff.mpr h] at z;cases z.2
     rw [Ql ⟨Q0.mp z.1,z.2⟩];refine lc (l:=F.map (·.1)) (p:=q) rfl rfl hnd (by rw [lX];exact QQ hpl (by decide)) hnm ?_;refine bH (xs:=F.map tD) (d:=tD (q,some k,c)) rfl rfl (pW _) (by rw [lX];exact QQ hpl (by decide)) (ah ⟨some (.int (c:Int)),some (stD q),?_⟩);simp only [sX,sN,Qb];rfl
    ·rw [Bool.and_eq_false_iff,Bool.not_eq_false',Zg] at z
     rw [Qu (λh=>z.elim (λz=>z (QZ h.1)) λz=>by rw [z] at h;cases h.2)];exact ⟨_,_,rfl⟩
   ·refine al2 λx7 x8=>?_
    rw [lX,Qo,show (bo rows x.1.1 (rows.getD x.1.1 .fin)).toNat=ld rows x.1 from rfl,<- hB];refine aw (.int ((k+1:Nat):Int)) rfl rfl (ah ?_);exact ⟨K - (k+1),by grind,k+1,rfl,hkK2,_,_,_,rfl⟩
 ·refine al5 λx4 x5 x6 x7 x8=>?_
  exact af rfl rfl
end
end Mine
set_option tactic.hygienic false
namespace Mine
open PySem
section
variable {Φ:Str->List D->Option D}{Γ:Str->Option D}{m:St}{ow:List Nat}{fr:Bool}{N:Nat}
set_option tactic.hygienic true in
theorem xD{i:Nat}{xs:List D}(h:m[i]?=some (some (.list xs))):exS Φ Γ ow fr N (.rev i) m=some (.next,m.set i (some (.list xs.reverse))):=by rw [u9,h];rfl
end
section
variable (Φ:Str->List D->Option D)(Γ:Str->Option D)(N:Nat)
theorem iU{rows:List Row}{k0:Nat}{F:List Tri}(ok:BOk rows k0 F)(hF:F.length<=2000)(hN:3000<=N)(hch:∀ r:Row,Φ "chooses" [r.d]=some (.bool r.chooses))(k:Nat)(hk:k < F.length):∃ l:List Nat,l.length<=2000/\runFn Φ Γ N fnchoices_to [.list (rows.map Row.d),.list (F.map tD),.int (k:Int)]=some (.list (l.map λ(n:Nat)=>.int (n:Int))):=by
 suffices hs:∃ l:List Nat,l.length<=2000/\Rt (exSs Φ Γ fnchoices_to.ow fnchoices_to.fr N fnchoices_to.body [some (.list (rows.map Row.d)),some (.list (F.map tD)),some (.int (k:Int)),none,none]) (.list (l.map λ(n:Nat)=>.int (n:Int))) by
  obtain ⟨l,h1,h2⟩:=hs;exact ⟨l,h1,av _ rfl rfl h2⟩
 have loop:Go (exS Φ Γ fnchoices_to.ow fnchoices_to.fr N (match fnchoices_to.body with | .cons _ (.cons s _)=>s | _=>.stuck) [some (.list (rows.map Row.d)),some (.list (F.map tD)),some (.int (k:Int)),some (.list []),none]) (λm=>∃ (l:List Nat) (x2 x4:Option D),l.length<=2000/\m=[some (.list (rows.map Row.d)),some (.list (F.map tD)),x2,some (.list (l.map λ(n:Nat)=>.int (n:Int))),x4]):=by
  dsimp only [fnchoices_to];refine rM (λn m=>∃ (l:List Nat) (x4:Option D),n < F.length/\l.length+n<=2000/\m=[some (.list (rows.map Row.d)),some (.list (F.map tD)),some (.int (n:Int)),some (.list (l.map λ(n:Nat)=>.int (n:Int))),x4]) (λn m hI=>?_) k _ (by exact Qe hk (QQ hF (QQ (by decide) hN))) ⟨[],none,hk,by rw [QP];exact QQ (Zd (Zc k)) (QQ (Qm hk) hF),rfl⟩;refine byG λX_ g_=>?_;obtain ⟨l,x4,hn,hll,rfl⟩:=hI;refine g_ ?_;have hx:=Qk hn;generalize F[n]=x at hx;have hst:=ok.st x (Qa hx);cases ha:x.2.1 with
  | none=>
   refine ⟨false,?_,λo_=>⟨l,_,_,by exact QQ (QI _ _) hll,rfl⟩,(λz=>by cases z)⟩;rw [aj (x:=optI x.2.1) (y:=.none) (ad (ad rfl rfl (gu hx)) rfl rfl) rfl (by rw [ha];rfl)];rfl
  | some a=>
   have han:=(ok.up n x hx a ha).1;have haF:a < F.length:=Za han hn;have hy:=Qk haF;generalize F[a]=y at hy;have e1:∀ m:St,m[1]?=some (some (.list (F.map tD)))->m[2]?=some (some (.int (n:Int)))->evE Φ Γ (.idx (.idx (.v 1) (.v 2)) (.k (.int 1))) m=some (.int (a:Int)):=λm h1 h2=>by
    rw [ad (ad (ev_v h1) (ev_v h2) (gu hx)) rfl (show item (tD x) (.int 1)=some (optI x.2.1) from rfl),ha];rfl
   refine ⟨true,?_,(λz=>by cases z),λo_=>?_⟩
   ·rw [aj (x:=.int (a:Int)) (y:=.none) (e1 _ rfl rfl) rfl rfl];rfl
   ·refine aw (.int (a:Int)) (e1 _ rfl rfl) rfl ?_
    refine ar (aW (b:=(rows.getD y.1.1 .fin).chooses) (Q:=λm=>∃ l':List Nat,l'.length<=l.length+1/\m=[some (.list (rows.map Row.d)),some (.list (F.map tD)),some (.int (n:Int)),some (.list (l'.map λ(n:Nat)=>.int (n:Int))),some (.int (a:Int))]) (ai (esC (ad rfl (ad (ad (ad rfl rfl (gu hy)) rfl rfl) rfl rfl) (aZ (aD (ok.st y (Qa hy)).1))) es0) (hch _)) (λo_=>?_) λo_=>⟨l,Zs _,rfl⟩) ?_
    ·refine bH (xs:=l.map λ(n:Nat)=>.int (n:Int)) (d:=.int (x.2.2:Int)) rfl (ad (ad rfl rfl (gu hx)) rfl rfl) rfl (by rw [lX];exact QQ (QQ (QI _ _) hll) (by decide)) (ah ⟨l++[x.2.2],by rw [QW];exact QO _,?_⟩)
     rw [Qb];rfl
    ·rintro _ ⟨l',hl',rfl⟩
     refine aw (.int (a:Int)) rfl rfl (ah ⟨a,han,l',_,haF,by exact QQ (Zt hl' a) (QQ (Zd (Xr _ 1 a)) (QQ (ZQ han _) hll)),rfl⟩)
 refine byG λX_ g_=>?_;obtain ⟨m',e1,l,x2,x4,hll,rfl⟩:=loop;refine g_ ?_;refine ⟨l.reverse,by rw [Z8];exact hll,?_⟩;dsimp only [fnchoices_to] at e1 ⊢;refine bd (.list []) rfl rfl (bv _ e1 (bv _ (xD rfl) (af ?_ rfl)));rw [List.map_reverse];rfl
end
noncomputable def idxW(w:Str):Nat:=if w == Str.ofString "beside" then 0 else if w == Str.ofString "empty" then 1 else 2
noncomputable def isFault(w:Str):Prop:=w=Str.ofString "beside" \/ w=Str.ofString "empty" \/ w=Str.ofString "asleep"
theorem gv(row:Row)(held:List En):dj row held=Str.ofString "" \/ isFault (dj row held):=by
 unfold dj isFault
 repeat' split
 all_goals simp
theorem isFault.ne{w:Str}(h:isFault w):(w == Str.ofString "")=false:=by rcases h with rfl | rfl | rfl<;>rfl
theorem isFault.idx{w:Str}(h:isFault w):idxD [.str "beside",.str "empty",.str "asleep"] (.str w)=some (.int (idxW w:Int)):=by rcases h with rfl | rfl | rfl<;>rfl
theorem lg(w:Str):idxW w < 3:=by
 unfold idxW
 repeat' split
 all_goals decide
noncomputable def fOf(rows:List Row)(p:Nat × List En):Str:=dj (rows.getD p.1 .fin) p.2
noncomputable def lt2(a b:Nat × Nat):Bool:=if a.1=b.1 then decide (a.2 < b.2) else decide (a.1 < b.1)
set_option tactic.hygienic true in
theorem xE(a b:Nat × Nat){k j:Nat}(hj:j < k):bC [.int (a.1:Int),.int (a.2:Int),.int (k:Int)] [.int (b.1:Int),.int (b.2:Int),.int (j:Int)]=some (lt2 a b):=by
 have h3:bC [.int (k:Int)] [.int (j:Int)]=some false:=by
  show (if (k:Int)=(j:Int) then some false else some (decide ((k:Int) < (j:Int))))=_;split
  ·rfl
  ·rw [Zk (by exact λq=>Nat.lt_asymm hj (Q0.mp q))]
 have h2:bC [.int (a.2:Int),.int (k:Int)] [.int (b.2:Int),.int (j:Int)]=some (decide (a.2 < b.2)):=by
  show (if (a.2:Int)=(b.2:Int) then bC [.int (k:Int)] [.int (j:Int)] else (bC [.int (k:Int)] [.int (j:Int)]).map λo_=>decide ((a.2:Int) < (b.2:Int)))=_;rw [h3];split
  ·rename_i h
   rw [Zk (by exact λq=>QM q (Int.ofNat.inj h))]
  ·exact Qf some (decide_eq_decide.mpr Q0)
 show (if (a.1:Int)=(b.1:Int) then bC [.int (a.2:Int),.int (k:Int)] [.int (b.2:Int),.int (j:Int)] else (bC [.int (a.2:Int),.int (k:Int)] [.int (b.2:Int),.int (j:Int)]).map λo_=>decide ((a.1:Int) < (b.1:Int)))=_;rw [h2];unfold lt2;split
 ·rename_i h
  rw [Ql (Int.ofNat.inj h)]
 ·rename_i h
  rw [Qu (λq=>h (Qf _ q))];exact Qf some (decide_eq_decide.mpr Q0)
end Mine
set_option tactic.hygienic false
namespace Mine
open PySem
theorem me{rows:List Row}{k:Nat}{p:Nat × List En}{F:List Tri}{c j:Nat}{x:Tri}(h:F[j]?=some x):(adT rows k p F c)[j]?=some x:=by
 unfold adT;split
 ·exact (Zx (Qq h).1).trans h
 ·exact h
theorem nh{rows:List Row}{k:Nat}{p:Nat × List En}{F:List Tri}{j:Nat}{x:Tri}(h:F[j]?=some x)(n:Nat):(procT rows k p F n)[j]?=some x:=by
 induction n with
 | zero=>exact h
 | succ n ih=>rw [cy];exact me ih
theorem uT{rows:List Row}{k:Nat}{j:Nat}{x:Tri}(h:(B rows k)[j]?=some x):(B rows (k+1))[j]?=some x:=by
 rw [B_2];cases hq:(B rows k)[k]? with
 | none=>exact h
 | some y=>exact nh h _
theorem B_keeps'{rows:List Row}{k k':Nat}(hk:k<=k'){j:Nat}{x:Tri}(h:(B rows k)[j]?=some x):(B rows k')[j]?=some x:=by
 induction hk with
 | refl=>exact h
 | step _ ih=>exact uT ih
theorem sd{rows:List Row}{k:Nat}{p:Nat × List En}{F:List Tri}{c:Nat}(hc:(sucOf rows p c).1 < rows.length)(n:Nat)(hn:c < n):∃ (j:Nat) (y:Tri),(procT rows k p F n)[j]?=some y/\y.1=sucOf rows p c:=by
 induction n with
 | zero=>exact absurd hn (ZY _)
 | succ n ih=>
  rw [cy];rcases ZL (Q7 hn) with q | q
  ·exact (ih q).imp λj=>Exists.imp λy h=>⟨me h.1,h.2⟩
  ·subst q
   unfold adT
   by_cases hs:d7 ((procT rows k p F c).map (·.1)) (sucOf rows p c)=false
   ·rw [Ql ⟨hc,hs⟩]
    exact ⟨(procT rows k p F c).length,(sucOf rows p c,some k,c),by rw [ZW (QO _),Nat.sub_self];rfl,rfl⟩
   ·rw [Qu λh=>hs h.2]
    obtain ⟨y,hy,e⟩:=QG.mp (seenB_iff.mp (by simpa using hs));obtain ⟨j,hj⟩:=Z4 hy;exact ⟨j,y,hj,e⟩
noncomputable def InB(rows:List Row)(K:Nat)(p:Nat × List En):Prop:=∃ (j:Nat) (x:Tri),(B rows K)[j]?=some x/\x.1=p
theorem se{rows:List Row}{K:Nat}(hK:Stop rows K)(hle:(B rows K).length<=K){p:Nat × List En}(hp:InB rows K p){c:Nat}(hc:c < ld rows p)(hs:(sucOf rows p c).1 < rows.length):InB rows K (sucOf rows p c):=by
 obtain ⟨j,x,hx,rfl⟩:=hp;refine have hj:j < K:=Qe (Qq hx).1 hle;?_;obtain ⟨y,hy,hB⟩:=B_at (hK.go j hj).1;refine have e:y=x:=Qv ((B_keeps' (Qm hj) hy).symm.trans hx);?_;subst e;obtain ⟨i,z,hz,he⟩:=sd (rows:=rows) (k:=j) (F:=B rows j) hs (ld rows y.1) hc;rw [<- hB] at hz;exact ⟨i,z,B_keeps' hj hz,he⟩
theorem dH{c:Int}{n:Nat}(h:0 < n):(((c.fmod (n:Int)).toNat:Nat):Int)=c.fmod n/\(c.fmod (n:Int)).toNat < n:=
 have e:=Zp (au c (b:=(n:Int)) (QZ h))
 ⟨e,Q0.mp (e.symm ▸ aC c (b:=(n:Int)) (QZ h))⟩
theorem gw{c:Int}{n:Nat}(h:0 < n):(c.fmod (n:Int)).fmod n=c.fmod n:=by
 refine have h1:=au c (b:=(n:Int)) (QZ h);?_;refine have h2:=aC c (b:=(n:Int)) (QZ h);?_;rw [ZO _ (Zq n),Int.emod_eq_of_lt h1 h2]
theorem sf{rows:List Row}{os:List Row}{k:Nat}{row:Row}(v:V os row)(held:List En)(c:Int):∃ i:Nat,i < (bo rows k row).toNat/\aE rows k row held c=aE rows k row held (i:Int):=by
 cases row with
 | pick w ts=>
  refine have h0:0 < ts.length:=List.length_pos_iff.mpr v.2.1;?_;refine ⟨_,(dH (c:=c) h0).2,?_⟩;rw [(dH h0).1,iJ,iJ,gw h0]
 | either=>
  refine have h0:0 < (startL rows k).length:=Zm _;?_;refine ⟨_,(dH (c:=c) h0).2,?_⟩;rw [(dH h0).1,eK,eK,gw h0]
 | again=>
  refine ⟨_,(dH (c:=c) (n:=2) (by decide)).2,?_⟩;rw [(dH (n:=2) (by decide)).1,cJ,cJ];rw [show (c.fmod ((2:Nat):Int)).fmod 2=c.fmod 2 from gw (n:=2) (by decide)]
 | _=>exact ⟨0,Nat.zero_lt_one,rfl⟩
theorem uU{rows:List Row}(wf:WfR [] rows){K:Nat}(hK:Stop rows K)(hle:(B rows K).length<=K){cs:List Int}{fs:List (Nat × List En)}:∀ {t k:Nat} {held:List En},Runs rows cs fs t k held->InB rows K (k,held)->∀ p ∈ fs,InB rows K p:=by
 induction fs with
 | nil=>intro t k held R h p hp;cases hp
 | cons q fs ih=>
  intro t k held R h p hp;rcases Qw hp with e | hp
  ·rw [e,R.1];exact h
  ·refine have hn:InB rows K (nxS rows cs t k held)\/fs=[]:=(by
    by_cases hl:(nxS rows cs t k held).1 < rows.length
    ·left
     obtain ⟨i,hi,e⟩:=sf (rows:=rows) (k:=k) (cP wf (aD R.2.1)) held (nxC rows cs t k);have:nxS rows cs t k held=sucOf rows (k,held) i:=e;rw [this] at hl ⊢;exact se hK hle h hi hl
    ·exact .inr (mc R.2.2.2 hl));?_
   rcases hn with hn | hn
   ·exact ih R.2.2.2 hn p hp
   ·rw [hn] at hp;cases hp
theorem sg{rows:List Row}(h:rows.isEmpty=false)(K:Nat):InB rows K (0,[]):=⟨0,((0,[]),none,0),B_keeps' (QF K) (by rw [B_1,h];rfl),rfl⟩
end Mine
set_option tactic.hygienic false
namespace Mine
open PySem
theorem sh{α:Type}{g:α->D}{l:List α}{k:Nat}{vs:List D}(h:(cR 0 (l.map g))[k]?=some vs):∃ x,l[k]?=some x/\vs=[.int (k:Int),g x]:=by
 rw [fE,Qy] at h;cases q:l[k]? with
 | none=>rw [q] at h;cases h
 | some x=>rw [q] at h;rw [Zc] at h;exact ⟨x,rfl,(Qv h).symm⟩
theorem isFault.item{w:Str}(h:isFault w):item (.tuple [.str "beside",.str "empty",.str "asleep"]) (.int (idxW w:Int))=some (.str w):=by rcases h with rfl | rfl | rfl<;>rfl
theorem isFault.notIn{w:Str}(h:isFault w):bl .NotIn (.str w) (.list [.str "beside",.str "empty",.str "asleep"])=some false:=by rcases h with rfl | rfl | rfl<;>rfl
noncomputable def uV(rows:List Row)(x:Tri)(i:Nat):D:=.tuple [.int (x.1.1:Int),.int (idxW (fOf rows x.1):Int),.int (i:Int)]
noncomputable def keyF(rows:List Row)(p:Nat × List En):Nat:=3 * p.1+idxW (fOf rows p)
theorem pX{a b x y:Nat}(hx:x < 3)(h:a < b):3 * a+x < 3 * b+y:=Qe (Qe (YI hx (3 * a)) (Zj 3 h)) (QI _ _)
theorem wT(rows:List Row)(p q:Nat × List En):lt2 (p.1,idxW (fOf rows p)) (q.1,idxW (fOf rows q))=decide (keyF rows p < keyF rows q):=by
 unfold lt2 keyF;split
 ·rename_i h
  rw [show p.1=q.1 from h];exact decide_eq_decide.mpr (Nat.add_lt_add_iff_left).symm
 ·rename_i h
  refine decide_eq_decide.mpr ⟨pX (lg _),λz=>?_⟩;exact (Nat.lt_or_gt_of_ne h).resolve_right λq=>Nat.lt_asymm z (pX (lg _) q)
noncomputable def Least(rows:List Row)(F:List Tri)(n:Nat)(q:Nat × List En):Prop:=∀ (i:Nat) (y:Tri),i < n->F[i]?=some y->isFault (fOf rows y.1)->keyF rows q<=keyF rows y.1
noncomputable def BestAt(rows:List Row)(F:List Tri)(j:Nat)(d:D):Prop:=(d = .none/\∀ (i:Nat) (y:Tri),i < j->F[i]?=some y->¬ isFault (fOf rows y.1))\/∃ (i:Nat) (x:Tri),i < j/\F[i]?=some x/\isFault (fOf rows x.1)/\Least rows F j x.1/\d=uV rows x i
theorem Least.up{rows:List Row}{F:List Tri}{j:Nat}{q:Nat × List En}(h:Least rows F j q){x:Tri}(hx:F[j]?=some x)(hk:isFault (fOf rows x.1)->keyF rows q<=keyF rows x.1):Least rows F (j+1) q:=λi y hi hy hf=>by
 rcases Nat.lt_succ_iff_lt_or_eq.mp hi with h1 | h1
 ·exact h i y h1 hy hf
 ·rw [h1,hx] at hy
  rw [<- Qv hy] at hf ⊢;exact hk hf
theorem BestAt.up{rows:List Row}{F:List Tri}{j:Nat}{d:D}{x:Tri}(h:BestAt rows F j d)(hx:F[j]?=some x)(hn : ¬ isFault (fOf rows x.1)):BestAt rows F (j+1) d:=
 h.imp (λh=>⟨h.1,λi y hi hy=>by
  rcases Nat.lt_succ_iff_lt_or_eq.mp hi with h1 | h1
  ·exact h.2 i y h1 hy
  ·rw [h1,hx] at hy
   exact Qv hy ▸ hn⟩) λh=>h.imp λi h=>h.imp λz h=>⟨Yl h.1,h.2.1,h.2.2.1,h.2.2.2.1.up hx λq=>absurd q hn,h.2.2.2.2⟩
noncomputable def iV(a:Nat)(w:Str)(l:List Nat):D:=.tuple [.int (a:Int),.str w,.list (l.map λ(n:Nat)=>.int (n:Int))]
section
variable (Φ:Str->List D->Option D)(Γ:Str->Option D)(N:Nat)
theorem pY(G:Gok Γ){rows:List Row}{F:List Tri}
 (hch:Φ "checked" [.list (rows.map Row.d)]=some .none)
 (hst:Φ "standings" [.list (rows.map Row.d)]=some (.list (F.map tD)))
 (hfa:∀ x ∈ F,Φ "fault" [.list (rows.map Row.d),stD x.1]=some (.str (fOf rows x.1)))
 (hto:∀ k,k < F.length->∃ l:List Nat,l.length<=2000/\Φ "choices_to" [.list (rows.map Row.d),.list (F.map tD),.int (k:Int)]=some (.list (l.map λ(n:Nat)=>.int (n:Int)))) :
 runFn Φ Γ N fnlooked [.list (rows.map Row.d)]=some .none/\(∀ (i:Nat) (y:Tri),i < F.length->F[i]?=some y->¬ isFault (fOf rows y.1))\/∃ (x:Tri) (l:List Nat),x ∈ F/\isFault (fOf rows x.1)/\l.length<=2000/\Least rows F F.length x.1/\runFn Φ Γ N fnlooked [.list (rows.map Row.d)]=some (iV x.1.1 (fOf rows x.1) l):=by
 refine have loop:Go (exS Φ Γ fnlooked.ow fnlooked.fr N (match fnlooked.body with | .cons _ (.cons _ (.cons _ (.cons s _)))=>s | _=>.stuck) [some (.list (rows.map Row.d)),some (.list (F.map tD)),some .none,none,none,none,none]) (λm=>∃ (d:D) (x3 x4 x5 x6:Option D),BestAt rows F F.length d/\m=[some (.list (rows.map Row.d)),some (.list (F.map tD)),some d,x3,x4,x5,x6]):=(by
  dsimp only [fnlooked];have h:=gh (Φ:=Φ) (Γ:=Γ) (N:=N) (ow:=[]) (fr:=false) (m:=[some (.list (rows.map Row.d)),some (.list (F.map tD)),some .none,none,none,none,none]) (i:=3) (j:=4) (it:=.enum (.v 1)) (items:=cR 0 (F.map tD))
   (body:=(match fnlooked.body with | .cons _ (.cons _ (.cons _ (.cons (.for2 _ _ _ b) _)))=>b | _=>.nil))
   (λj m=>∃ (d:D) (x3 x4 x5 x6:Option D),BestAt rows F j d/\m=[some (.list (rows.map Row.d)),some (.list (F.map tD)),some d,x3,x4,x5,x6]) (eW rfl) rfl ⟨_,_,_,_,_,.inl ⟨rfl,λi y hi=>absurd hi (ZY i)⟩,rfl⟩ (λk vs m hk hI=>?_)
  ·rw [bR,lX] at h
   exact h
  ·obtain ⟨d,x3,x4,x5,x6,hb,rfl⟩:=hI
   obtain ⟨x,hx,rfl⟩:=sh hk;refine ⟨_,_,rfl,?_⟩;dsimp only [fnlooked];refine aw (.str (fOf rows x.1)) (ai (esC rfl (esC (ad rfl rfl rfl) es0)) (hfa x (Qa hx))) rfl ?_;simp only [sX,sN];rcases gv (rows.getD x.1.1 .fin) x.1.2 with hw | hw
   ·have hw:fOf rows x.1=Str.ofString "" := hw
    rw [hw];refine ar (Q':=λm=>m=[some (.list (rows.map Row.d)),some (.list (F.map tD)),some d,some (.int (k:Int)),some (tD x),some (.str (Str.ofString "")),x6]) (aW (b:=false) rfl (λz=>by cases z) λo_=>rfl) ?_;rintro _ rfl;exact ah ⟨d,_,_,_,_,hb.up hx (λq=>Bool.noConfusion (q.ne.symm.trans (by rw [hw]))),rfl⟩
   ·have hw:isFault (fOf rows x.1):=hw
    refine ar (Q':=λm=>∃ (d:D) (x6:Option D),BestAt rows F (k+1) d/\m=[some (.list (rows.map Row.d)),some (.list (F.map tD)),some d,some (.int (k:Int)),some (tD x),some (.str (fOf rows x.1)),x6]) (aW (b:=true) (by rw [aj rfl rfl (jL _ _),hw.ne];rfl) (λo_=>?_) λz=>by cases z) ?_
    ·refine aw (uV rows x k) (a9 (esC (ad (ad rfl rfl rfl) rfl rfl) (esC (iy (x:=.tuple [.str "beside",.str "empty",.str "asleep"]) (by rw [x_gc];exact G.words) rfl hw.idx) (esC rfl es0)))) rfl ?_
     simp only [sX,sN];refine ar (Q':=λm=>∃ d,BestAt rows F (k+1) d/\m=[some (.list (rows.map Row.d)),some (.list (F.map tD)),some d,some (.int (k:Int)),some (tD x),some (.str (fOf rows x.1)),some (uV rows x k)]) ?_ λm h=>h.elim λd h=>ah ⟨d,_,h.1,h.2⟩;rcases hb with ⟨rfl,hno⟩ | ⟨i,y,hi,hy,hf,hlt,rfl⟩
     ·exact aW (b:=true) (x_or2' rfl) (λo_=>aw _ rfl rfl (ah ⟨_,.inr ⟨k,x,QA _,hx,hw,Least.up (λi y hi hy hf=>absurd hf (hno i y hi hy)) hx λo_=>QO _,rfl⟩,rfl⟩)) λz=>by cases z
     ·refine aW (b:=false||decide (keyF rows x.1 < keyF rows y.1)) (eT rfl (aj rfl rfl ((xE (x.1.1,idxW (fOf rows x.1)) (y.1.1,idxW (fOf rows y.1)) hi).trans (Qf some (wT rows x.1 y.1))))) (λq=>aw _ rfl rfl (ah ⟨_,.inr ⟨k,x,QA _,hx,hw,Least.up (λi z hi hz hf=>QQ (Qm (Qp q)) (hlt i z hi hz hf)) hx λo_=>QO _,rfl⟩,rfl⟩)) λq=>⟨_,.inr ⟨i,y,Yl hi,hy,hf,hlt.up hx λo_=>YV (of_decide_eq_false q),rfl⟩,rfl⟩
    ·rintro _ ⟨d',x6',hb',rfl⟩
     exact ah ⟨d',_,_,_,_,hb',rfl⟩);?_
 refine byG λX_ g_=>?_;obtain ⟨m',e1,d,x3,x4,x5,x6,hb,rfl⟩:=loop;refine g_ ?_;dsimp only [fnlooked] at e1;have main:∀ r:D,Rt (exSs Φ Γ fnlooked.ow fnlooked.fr N (match fnlooked.body with | .cons _ (.cons _ (.cons _ (.cons _ s)))=>s | _=>.nil) [some (.list (rows.map Row.d)),some (.list (F.map tD)),some d,x3,x4,x5,x6]) r->runFn Φ Γ N fnlooked [.list (rows.map Row.d)]=some r:=λr hr=>by
  refine av [some (.list (rows.map Row.d)),none,none,none,none,none,none] rfl rfl ?_;dsimp only [fnlooked] at hr ⊢;refine aN (rS (ai (esC rfl es0) hch)) ?_;rintro _ rfl;exact al (.list (F.map tD)) (ai (esC rfl es0) hst) rfl (al .none rfl rfl (bv _ e1 hr))
 rcases hb with ⟨rfl,hno⟩ | ⟨i,y,hi,hy,hf,hlt,rfl⟩
 ·exact .inl ⟨main _ (ao (x:=.bool true) rfl rfl (af rfl rfl)),hno⟩
 ·obtain ⟨l,hll,hl⟩:=hto i hi
  refine .inr ⟨y,l,Qa hy,hf,hll,hlt,main _ ?_⟩;exact ag (x:=.bool false) rfl rfl (af (a9 (esC (ad rfl rfl rfl) (esC (ad (by rw [x_gc];exact G.words) (ad rfl rfl rfl) hf.item) (esC (ai (esC rfl (esC rfl (esC (ad rfl rfl rfl) es0))) hl) es0)))) rfl)
end
end Mine
set_option tactic.hygienic false
namespace Mine
open PySem
structure Slf(d:D)(n:Nat):Prop where
 nd:cf d=true
 dp:d.depth<=n
 eq:PyData.eqv d d=true
structure Slfs(l:List D)(n:Nat):Prop where
 nd:aX l=true
 dp:PyData.depthAll l<=n
 eq:PyData.eqvAll l l=true
theorem pZ(n:Nat):Slfs [] n:=⟨rfl,QF n,rfl⟩
theorem gy{x:D}{l:List D}{n:Nat}(h:Slf x n)(k:Slfs l n):Slfs (x::l) n:=⟨Z6.mpr ⟨h.nd,k.nd⟩,Xp.mpr ⟨h.dp,k.dp⟩,Z6.mpr ⟨h.eq,k.eq⟩⟩
theorem p0{l:List D}{n:Nat}(h:Slfs l n):Slf (.tuple l) (n+1):=⟨h.nd,QT h.dp,h.eq⟩
theorem iW(x:Str)(n:Nat):Slf (.str x) n:=⟨rfl,QF n,Zh x⟩
theorem wU(x:Int)(n:Nat):Slf (.int x) n:=⟨rfl,QF n,Zh x⟩
theorem wV(l:List Int):Slfs (l.map .int) 0:=by
 induction l with
 | nil=>exact pZ 0
 | cons x l ih=>exact gy (wU x 0) ih
theorem uW(s:Src):Slf s.d 1:=by
 cases s with
 | th i=>exact wU i 1
 | hd w=>exact iW w 1
theorem Row.slf(r:Row):Slf r.d 2:=by
 cases r with
 | lend w b s=>exact p0 (gy (iW ..) (gy (iW ..) (gy (iW ..) (gy (uW s) (pZ 1)))))
 | pick w ts=>exact p0 (gy (iW ..) (gy (iW ..) (gy (p0 (wV ts)) (pZ 1))))
 | deed v w=>exact p0 (gy (iW ..) (gy (iW ..) (pZ 1)))
 | _=>exact p0 (gy (iW ..) (pZ 1))
theorem Row.eqSelf(r:Row):bl .Eq r.d r.d=some true:=by
 refine have h:=r.slf;?_;refine have hs:shp r.d=true:=(Z6.mpr ⟨h.nd,Qn (QQ h.dp (by decide))⟩);?_;show (if (isScalar r.d&&isScalar r.d)||(shp r.d&&shp r.d) then some (PyData.eqv r.d r.d) else none)=_;rw [hs,h.eq];exact Ql (YS _)
theorem jY(l:List Row):zipL (l.map Row.d) (l.map Row.d)=l.map λr=>[r.d,r.d]:=by
 induction l with
 | nil=>rfl
 | cons r l ih=>exact Qf _ ih
theorem mf(l:List D)(n:Nat):cut l none (some (n:Int))=l.take n:=by
 by_cases h:n<=l.length
 ·exact iI l n h
 ·refine have hc:cm l.length (n:Int)=l.length:=(by
   unfold cm;rw [Qu (by exact ZB.mpr (Zq n)),QN]
   grind);?_
  simp only [cut,XK,Xx,mX,Zr,hc,List.drop_zero,Nat.sub_zero];rw [Yz,List.take_of_length_le (by grind)]
theorem lh{α:Type}(l:List α):cT (l.map λo_=>PyData.bool true)=some (l.map λo_=>true):=dD (λo_=>true) l
theorem si{α:Type}(l:List α):(l.map λo_=>true).all id=true:=by simp
section
variable (Φ:Str->List D->Option D)(Γ:Str->Option D)(N:Nat)
theorem td{α:Type}{e:Ex}{m:St}(l:List α)(h:evE Φ Γ e m=some (.list (l.map λo_=>.bool true))):evE Φ Γ (.b1 .all e) m=some (.bool true):=by
 rw [x_b1,h];simp only [bX,o7,lh,mX,si]
theorem sj(l:List Row)(hl:l.length<=6000):runFn Φ Γ N fn_law_rows_alike [.list (l.map Row.d),.list (l.map Row.d)]=some (.bool true):=by
 refine av [some (.list (l.map Row.d)),some (.list (l.map Row.d))] rfl rfl ?_;dsimp only [fn_law_rows_alike];refine have hl0:evE Φ Γ (.cmp .NotEq (.b1 .len (.v 0)) (.b1 .len (.v 1))) [some (.list (l.map Row.d)),some (.list (l.map Row.d))]=some (.bool (!((l.length:Int) == (l.length:Int)))):=aj (aT rfl (lenL l)) (aT rfl (lenL l)) rfl;?_;rw [Zh] at hl0;refine ag (x:=.bool false) (eT (b:=false) rfl hl0) rfl (af (td Φ Γ l ?_) rfl);refine have hs:bL (l.map λr=>[r.d,r.d]).length=true:=(Qn (by rw [lX];exact QQ hl (by decide)));?_;refine (Ql ((Qf (λz:List (List D)=>bL z.length) (jY l)).trans hs)).trans ?_;refine (Qf (λo:Option (List D)=>o.bind _) ((Qf (dM _ _) (jY l)).trans (gd (f:=λvs=>evE Φ Γ (.bool true (.cons (.isi (.v 2) .tuple) (.cons (.cmp .Eq (.v 2) (.v 3)) .nil))) ([some (.list (l.map Row.d)),some (.list (l.map Row.d))]++vs.map some)) (c:=λvs=>evC Φ Γ .none ([some (.list (l.map Row.d)),some (.list (l.map Row.d))]++vs.map some)) (λr:Row=>[r.d,r.d]) (λo_=>true) (λo_=>.bool true) l (λe o_=>j5) (λe o_ o_=>by
  refine aF (b:=true) (c:=true) ?_ (aj rfl rfl e.eqSelf);cases e<;>rfl)))).trans ?_
 exact (List.filter_eq_self.mpr λo_ o_=>rfl) ▸ (Ql (ZK.mpr λx hx=>(QG.mp hx).elim λe h=>h.2 ▸ rfl))
theorem nj(ns:List Int):∃ cs:List Int,cs.length<=20/\runFn Φ Γ N fn_law_choices [.list (ns.map .int)]=some (.list (cs.map .int)):=by
 refine ⟨(ns.reverse.take 20).map λx=>x.fmod 60,?_,?_⟩
 ·rw [lX];exact YN ..
 refine av [some (.list (ns.map .int))] rfl rfl (af ?_ rfl);rw [Yk];refine bz (ns.reverse.take 20) (λx=>[.int x]) (λx=>.int (x.fmod 60)) (bt (g:=PyData.int) ?_) (QQ (YN ..) (by decide)) rfl λx o_=>aA rfl rfl (bw x 60 (by decide));show some (PyData.list (cut (ns.map PyData.int).reverse none (some ((20:Nat):Int))))=_;rw [mf,<- List.map_reverse,Xh]
end
end Mine
set_option tactic.hygienic false
namespace Mine
open PySem
section
variable {Φ:Str->List D->Option D}{Γ:Str->Option D}{m:St}{ow:List Nat}{fr:Bool}{N:Nat}
theorem wW{i j:Nat}{g:Str}{c1 c2:Ex}{t1 b r:Sms}{x d d' dd:D}{Q:St->Prop}(hx:m[j]?=some (some x))(hg:Φ g [x]=some d)(h1:evE Φ Γ c1 (m.set i (some d))=some (.bool false))(h2:evE Φ Γ c2 (m.set i (some d))=some (.bool true))(h3:tapD x d=some d')
 (hb:Go (exSs Φ Γ ow fr N b (m.set i (some d'))) Q) (k:∀ m',Q m'->Rt (exSs Φ Γ ow fr N r m') dd):Rt (exSs Φ Γ ow fr N (.cons (.tap i j g c1 t1 c2 b) r) m) dd:=by
 refine aN ?_ k;refine hb.elim λm1 w=>⟨m1,?_,w.2⟩
 rw [tl,hx,bX,bX,hg];unfold setV;rw [bX,h1,bX,fJ,bX,Qu Qr,h2,bX,fJ,bX,Ql rfl,h3];exact w.1
theorem uX{i j:Nat}{g:Str}{c1 c2:Ex}{t1 b r:Sms}{x d dd:D}(hx:m[j]?=some (some x))(hg:Φ g [x]=some d)(h1:evE Φ Γ c1 (m.set i (some d))=some (.bool false))(h2:evE Φ Γ c2 (m.set i (some d))=some (.bool false))
 (k:Rt (exSs Φ Γ ow fr N r (m.set i (some d))) dd):Rt (exSs Φ Γ ow fr N (.cons (.tap i j g c1 t1 c2 b) r) m) dd:=by
 refine bv _ ?_ k;rw [tl,hx,bX,bX,hg];unfold setV;rw [bX,h1,bX,fJ,bX,Qu Qr,h2];rfl
end
theorem jZ(l:List Row):an (l.map Row.d)=true:=by
 induction l with
 | nil=>rfl
 | cons r l ih=>exact Z6.mpr ⟨r.noList,ih⟩
theorem sk{rows:List Row}{k:Nat}(hk:k < rows.length)(a:Nat)(w:Str)(l:List Nat)(hl:l.length<=2000):tapD (.list (rows.map Row.d)) (iV a w l)=some (.tuple [.int (a:Int),.str w,.list ((l.map λ(n:Nat)=>.int (n:Int))++[.int 1])]):=by
 cases rows with
 | nil=>exact absurd hk (ZY k)
 | cons r rows=>
  refine have ht:∃ l0,tupK r.d=some l0:=(by cases r<;>exact ⟨_,rfl⟩);?_;obtain ⟨l0,ht⟩:=ht;refine have h1:an (l.map λ(n:Nat)=>PyData.int (n:Int))=true:=(by
   induction l with
   | nil=>rfl
   | cons n l ih=>exact ih (Nat.le_of_succ_le hl));?_
  refine have h2:hdI (l.map λ(n:Nat)=>PyData.int (n:Int))=true:=(by cases l<;>rfl);?_;show ((tupK r.d).bind λ_=>_)=_;rw [ht];refine Ql ?_;show (an ((r::rows).map Row.d)&&true&&true&&an (l.map λ(n:Nat)=>PyData.int (n:Int))&&hdI (l.map λ(n:Nat)=>PyData.int (n:Int))&&true&&decide ((l.map λ(n:Nat)=>PyData.int (n:Int)).length<=2 ^ 20))=true;rw [jZ,h1,h2,Qn (by rw [lX];exact QQ hl (by decide))];rfl
section
variable (Φ:Str->List D->Option D)(Γ:Str->Option D)(N:Nat)
theorem sp_whole'(i:Int):runFn Φ Γ N fn_law_whole [.int i]=some (.bool true):=by
 refine av [some (.int i)] rfl rfl ?_;exact af rfl rfl
theorem uY(hw:∀ i:Int,Φ "_law_whole" [.int i]=some (.bool true))(a:Nat){w:Str}(hf:isFault w)(l:List Nat)(hl:l.length<=2000):runFn Φ Γ N fn_law_told [iV a w l]=some (.bool true):=by
 refine av [some (iV a w l)] rfl rfl ?_;dsimp only [fn_law_told];refine ag (x:=.bool (false||(false||false))) (ul rfl rfl (cO (b:=true) (ai (esC (ad rfl rfl rfl) es0) (hw _)))) rfl ?_;refine ag (x:=.bool (false||(false||false))) (ul rfl (aj (ad rfl rfl rfl) rfl hf.notIn) rfl) rfl ?_;refine af (td Φ Γ l (bz l (λn=>[.int (n:Int)]) (λo_=>.bool true) (bt (ad rfl rfl rfl)) (QQ hl (by decide)) rfl λn o_=>?_)) rfl;refine aF (b:=true) (c:=true) (ai (esC rfl es0) (hw _)) (aj (x:=.int (n:Int)) (y:=.int 0) rfl rfl ?_);exact Qf some (Qn (Zq n))
noncomputable def Pass(rows:List Row)(T:D)(p:Nat × List En):Prop:=fOf rows p=Str.ofString "" \/ isFault (fOf rows p)/\∃ (x:Nat × List En) (l:List D),T = .tuple [.int (x.1:Int),.str (fOf rows x),.list l]/\isFault (fOf rows x)/\keyF rows x<=keyF rows p
noncomputable def fI(rows:List Row)(T:D):Prop:=∀ cs:List Int,cs.length<=20->∃ fs:List (Nat × List En),Φ "_law_run" [.list (rows.map Row.d),.list (cs.map .int)]=some (.list (fs.map stD))/\∀ p ∈ fs,p.1 < rows.length/\Φ "_law_fault" [(rows.getD p.1 .fin).d,.tuple (p.2.map En.d)]=some (.str (fOf rows p))/\Pass rows T p
noncomputable def st7(n R C T:D)(x5 x6 x7 x8 x9 x10:Option D):St:=[some n,some R,some C,some R,some T,x5,x6,x7,x8,x9,x10]
theorem te{rows:List Row}{cs:List Int}(hcs:cs.length<=20)(n T:D)(x5:Option D)(hr:fI Φ rows T) :
 Rt (exSs Φ Γ [] false N (match fnlaw.body with | .cons _ (.cons _ (.cons _ (.cons _ (.cons _ r))))=>r | _=>.nil) (st7 n (.list (rows.map Row.d)) (.list (cs.map .int)) T x5 none none none none none)) (.bool true):=by
 dsimp only [fnlaw];refine have hlenR:=lenL (f:=Row.d) rows;?_;refine have hrow:=λ(k:Nat) (h:k < rows.length)=>aZ (aD h);?_;unfold fI at hr;generalize PyData.list (rows.map Row.d)=R at *;refine al (.list [.str "beside",.str "empty",.str "asleep"]) rfl rfl ?_;refine have hn:∃ b:Nat,b<=5/\evE Φ Γ (.idx (.lst (.cons (.k (.int 5)) (.cons (.k (.int 1)) .nil))) (.b1 .int (.cmp .Gt (.b1 .len (.v 1)) (.k (.int 30))))) (st7 n R (.list (cs.map .int)) T x5 (some (.list [.str "beside",.str "empty",.str "asleep"])) none none none none)=some (.int (b:Int)):=(by
  have h:=λ(b:Bool) (q:decide ((30:Int) < rows.length)=b)=>aT (Φ:=Φ) (Γ:=Γ) (f:=.int) (aj (op:=.Gt) (m:=st7 n R (.list (cs.map .int)) T x5 (some (.list [.str "beside",.str "empty",.str "asleep"])) none none none none) (a:=.b1 .len (.v 1)) (b:=.k (.int 30)) (aT rfl hlenR) rfl (Qf some q)) (d:=.int (if b then 1 else 0)) rfl;cases q:decide ((30:Int) < rows.length) with
  | true=>exact ⟨1,by decide,ad rfl (h _ q) rfl⟩
  | false=>exact ⟨5,by decide,ad rfl (h _ q) rfl⟩);?_
 obtain ⟨b,hb,hn⟩:=hn;refine aN (bM (λo_ m=>∃ x7 x8 x9 x10,m=st7 n R (.list (cs.map .int)) T x5 (some (.list [.str "beside",.str "empty",.str "asleep"])) x7 x8 x9 x10) (bA hn (by lia)) rfl ⟨_,_,_,_,rfl⟩ λk vs m hv hI=>?_) ?_
 ·obtain ⟨x7,x8,x9,x10,rfl⟩:=hI
  obtain ⟨j,_,rfl⟩:=QG.mp (Qa hv);refine ⟨_,rfl,?_⟩;refine aw (.list (cs.map .int)) rfl rfl ?_;refine ar (aW (b:=decide ((0:Int) < (j:Int))) (Q:=λm=>∃ cs':List Int,cs'.length<=20/\m=st7 n R (.list (cs.map .int)) T x5 (some (.list [.str "beside",.str "empty",.str "asleep"])) (some (.int (j:Int))) (some (.list (cs'.map .int))) x9 x10) (aj rfl rfl rfl) (λq=>aw (.list (((cs.take 4).map (λc=>c+(j:Int))++[(j:Int)]).map .int)) ?_ rfl (ah ⟨_,?_,rfl⟩)) λq=>⟨cs,hcs,rfl⟩) ?_
  ·refine aA (x:=.list ((cs.take 4).map λc=>.int (c+(j:Int)))) (y:=.list [.int (j:Int)]) (bz (cs.take 4) (λc=>[.int c]) (λc=>.int (c+(j:Int))) (bt (g:=PyData.int) ?_) (QQ (YN ..) (by decide)) rfl λc o_=>rfl) rfl ?_
   ·show some (PyData.list (cut (cs.map PyData.int) none (some ((4:Nat):Int))))=_
    rw [mf,Xh]
   ·refine (Ql ?_).trans ?_
    ·rw [lX,ZF]
     exact QQ (Zt (XW ..) 1) (by decide)
    ·rw [Qb,Yk];rfl
  ·rw [QW,lX,ZF]
   exact QQ (Zt (XW ..) 1) (by decide)
  ·rintro _ ⟨cs',hcs',rfl⟩
   obtain ⟨fs,hrun,hfs⟩:=hr cs' hcs';refine ar (bM (λo_ m=>∃ x9 x10,m=st7 n R (.list (cs.map .int)) T x5 (some (.list [.str "beside",.str "empty",.str "asleep"])) (some (.int (j:Int))) (some (.list (cs'.map .int))) x9 x10) (bt (ai (esC rfl (esC rfl es0)) hrun)) rfl ⟨_,_,rfl⟩ λk vs m hv hI=>?_) λm h=>ah (h.elim λx9 h=>h.elim λx10 h=>⟨_,_,_,_,h⟩);obtain ⟨x9,x10,rfl⟩:=hI;obtain ⟨p,hp,rfl⟩:=QG.mp (Qa hv);obtain ⟨h1,h2,h3⟩:=hfs p hp;refine ⟨_,rfl,?_⟩;refine aw (.str (fOf rows p)) (ai (esC (ad rfl (ad rfl rfl rfl) (hrow _ h1)) (esC (ad rfl rfl rfl) es0)) h2) rfl ?_;refine ar (Q':=λm=>m=st7 n R (.list (cs.map .int)) T x5 (some (.list [.str "beside",.str "empty",.str "asleep"])) (some (.int (j:Int))) (some (.list (cs'.map .int))) (some (stD p)) (some (.str (fOf rows p)))) ?_ λm h=>ah ⟨_,_,h⟩;rcases h3 with h3 | ⟨hf,x,l,rfl,hx,hk⟩
   ·exact aW (b:=false) (by rw [h3];rfl) (λz=>nomatch z) λo_=>rfl
   ·unfold keyF at hk
    refine aW (b:=true) (aj rfl rfl (by rw [jL,hf.ne];rfl)) (λo_=>?_) λz=>nomatch z;refine ar (aW (b:=false||decide ((p.1:Int) < (x.1:Int))) (eT rfl (aj (ad rfl rfl rfl) (ad rfl rfl rfl) rfl)) (λq=>absurd hk (Nat.not_le_of_lt (pX (lg _) (Q0.mp (Qp (show decide ((p.1:Int) < (x.1:Int))=true from q)))))) λo_=>rfl) ?_;rintro _ rfl;refine ar (aW (b:=(p.1:Int) == (x.1:Int)&&decide ((idxW (fOf rows p):Int) < (idxW (fOf rows x):Int))) (aF (aj (ad rfl rfl rfl) (ad rfl rfl rfl) (wI _ _)) (aj (iy rfl rfl hf.idx) (iy rfl (ad rfl rfl rfl) hx.idx) rfl)) (λq=>?_) λo_=>rfl) λm h=>ah h.symm;refine have q:=Qz q;?_;exact absurd hk (Nat.not_le_of_lt (Int.ofNat.inj (Q4 q.1) ▸ YI (Q0.mp (Qp q.2)) (3 * p.1)))
 ·rintro _ ⟨_,_,_,_,rfl⟩
  exact af rfl rfl
theorem sm(ns cs:List Int)(hcs:cs.length<=20){rows0 rows:List Row}
 (hd:Φ "_law_drawn" [.list (ns.map .int),.int 14]=some (.list (rows0.map Row.d)))
 (hlong:Φ "_law_long" [.list (ns.map .int),.list (rows0.map Row.d)]=some (.list (rows.map Row.d)))
 (hch:Φ "_law_choices" [.list (ns.map .int)]=some (.list (cs.map .int)))
 (hal:Φ "_law_rows_alike" [.list (rows.map Row.d),.list (rows.map Row.d)]=some (.bool true))
 (hfew:Φ "_law_few" [.list (rows.map Row.d),.int 400]=some (.bool false)\/(Φ "_law_few" [.list (rows.map Row.d),.int 400]=some (.bool true)/\((Φ "looked" [.list (rows.map Row.d)]=some .none/\fI Φ rows .none) \/
  ∃ (x:Nat × List En) (l:List Nat),x.1 < rows.length/\l.length<=2000/\Φ "looked" [.list (rows.map Row.d)]=some (iV x.1 (fOf rows x) l)/\Φ "_law_told" [iV x.1 (fOf rows x) l]=some (.bool true)/\∀ l:List D,fI Φ rows (.tuple [.int (x.1:Int),.str (fOf rows x),.list l])))) :
 runFn Φ Γ N fnlaw [.list (ns.map .int)]=some (.bool true):=by
 refine av [some (.list (ns.map .int)),none,none,none,none,none,none,none,none,none,none] rfl rfl ?_;dsimp only [fnlaw];refine al (.list (rows.map Row.d)) (ai (esC rfl (esC (ai (esC rfl (esC rfl es0)) hd) es0)) hlong) rfl ?_;refine al (.list (cs.map .int)) (ai (esC rfl es0) hch) rfl ?_;rcases hfew with h | ⟨h,hk⟩
 ·exact ao (x:=.bool true) (cO (b:=false) (ai (esC rfl (esC rfl es0)) h)) rfl (af rfl rfl)
 refine ag (x:=.bool false) (cO (b:=true) (ai (esC rfl (esC rfl es0)) h)) rfl ?_;refine al (.list (rows.map Row.d)) (aT (x:=.list (rows.map Row.d)) rfl rfl) rfl ?_;rcases hk with ⟨hk,hr⟩ | ⟨x,l,hx,hl,hk,ht,hr⟩
 ·exact uX rfl hk (eT (b:=false) (cO (b:=true) (ai (esC rfl (esC rfl es0)) hal)) rfl) rfl (te Φ Γ N hcs (.list (ns.map .int)) .none none hr)
 ·refine wW (Q:=λm=>m=st7 (.list (ns.map .int)) (.list (rows.map Row.d)) (.list (cs.map .int)) (.tuple [.int (x.1:Int),.str (fOf rows x),.list ((l.map λ(n:Nat)=>.int (n:Int))++[.int 1])]) (some (iV x.1 (fOf rows x) l)) none none none none none) rfl hk (eT (b:=false) (cO (b:=true) (ai (esC rfl (esC rfl es0)) hal)) (aF (b:=true) (c:=false) rfl (cO (b:=true) (ai (esC rfl es0) ht)))) rfl (sk hx _ _ l hl) ?_ ?_
  ·refine aw (iV x.1 (fOf rows x) l) (ai (esC rfl es0) hk) rfl ?_
   refine ar (aW (b:=false||(false||(false||false))) ?_ (λz=>nomatch z) λo_=>rfl) λm h=>ah h.symm;rw [cr];refine eS rfl λo_=>eS (cO (b:=true) (ai (esC rfl es0) ht)) λo_=>eS (b:=false) (aj (ad rfl rfl rfl) (ad rfl rfl rfl) (?_:bl .NotEq (.int (x.1:Int)) (.int (x.1:Int))=some false)) λo_=>(eZ ..).trans (aj (ad rfl rfl rfl) (ad rfl rfl rfl) (?_:bl .NotEq (.str (fOf rows x)) (.str (fOf rows x))=some false))
   ·show some (!((x.1:Int) == (x.1:Int)))=_
    rw [Zh];rfl
   ·rw [jL,Zh];rfl
  ·rintro _ rfl
   exact te Φ Γ N hcs _ _ _ (hr _)
end
end Mine
set_option tactic.hygienic false
namespace Mine
open PySem
theorem sn{os:List Row}{held:List En}(H:HeldOk os held){row:Row}(v:V os row):∀ w q u,row = .lend w q (.hd u)->(aP held u).isSome=true:=by
 rintro w q u rfl;refine byG λX_ g_=>?_;obtain ⟨_,x,hx,hn,hu,_⟩:=v;obtain ⟨e,he,hw,_⟩:=H.mem hx hn;refine g_ ?_;rw [<- hu,<- hw,be H.nd he];rfl
theorem nk(Φ:Str->List D->Option D)(Γ:Str->Option D)(N:Nat)(r:Row):runFn Φ Γ N fnchooses [r.d]=some (.bool r.chooses):=by
 refine av [some r.d] rfl rfl ?_;exact af (aj (ad rfl rfl (Row.i0 r)) rfl (g9 r)) rfl
theorem plain07{Γ:Str->Option D}(G:Gok Γ)(ns:List Int)(h:ns.length<=63):mkΦ Γ 100000 tbl07 "law" [.list (ns.map .int)]=some (.bool true):=by
 rw [aB (fn:=fnlaw) (rest:=tbl07.drop 1) (by rfl)];have dl0:(drawnOf ns 14).length<=800:=by
  have hm:=kO ns 14 (by decide);have h3:(onceOf ns 14).length<=12 * manyOf ns 14:=gf ..;have l156:=QQ h3 (Zj 12 (Q7 hm));unfold drawnOf;split
  ·simp only [QW];exact QQ (QC (QC (QC l156 l156) l156) l156) (by decide)
  ·exact QQ l156 (by decide)
 have la:=r9 ns dl0 (mT ns 14) (rA ns 14 (by decide) (by decide)) (rO ns 14);have hcell:∀ n:Nat,n=18\/n=27\/n=5->∀ k:Int,0<=k->mkΦ Γ 100000 (tbl07.drop n) "_law_cell_at" [.list (ns.map .int),.int k]=some (.int (cellAt ns k)):=λn hn k hk=>by
  rcases hn with h | h | h<;>subst h<;>(exact (aB (fn:=fn_law_cell_at) (rest:=tbl07.drop 29) (by rfl)).trans (un _ _ _ ns k hk))
 have hdrawn:mkΦ Γ 100000 (tbl07.drop 1) "_law_drawn" [.list (ns.map .int),.int 14]=some (.list ((drawnOf ns 14).map Row.d)):=by
  rw [aB (fn:=fn_law_drawn) (rest:=tbl07.drop 18) (by rfl)];refine rl _ _ _ ns h 14 (by decide) (by decide) (hcell 18 (.inl rfl)) ?_ ?_
  ·exact (aB (fn:=fn_law_draw) (rest:=tbl07.drop 27) (by rfl)).trans (uo _ _ _ ns (hcell 27 (.inr (.inl rfl))))
  ·intro odd most hm c n hn
   rw [aB (fn:=fn_law_sheet) (rest:=tbl07.drop 19) (by rfl)];have hw:∀ (k:Nat),k=20\/k=22\/k=25->∀ (one two:Int) (deep:Nat),deep < 900->mkΦ Γ 100000 (tbl07.drop k) "_law_word" [.int one,.int two,.int deep,(a8 ns).d]=some (.str (wordOf one two deep (a8 ns))):=λk hk one two deep hd=>by
    rcases hk with h | h | h<;>subst h<;>(exact (aB (fn:=fn_law_word) (rest:=tbl07.drop 28) (by rfl)).trans (ur _ _ _ one two deep _ (g5 ns) (by exact QB.mpr (QF deep)) (by exact QZ hd)))
   have ht:∀ (k:Nat),k=20\/k=22\/k=23->∀ c b:Int,mkΦ Γ 100000 (tbl07.drop k) "_law_thing" [.int c,.int b]=some (.int (thingOf c b)):=λk hk c b=>by
    rcases hk with h | h | h<;>subst h<;>(exact (aB (fn:=fn_law_thing) (rest:=tbl07.drop 26) (by rfl)).trans (q0 _ _ _ c b))
   refine rk _ _ _ (a8 ns) ?_ ?_ odd most hm c n hn
   ·intro one two deep hd
    rw [aB (fn:=fn_law_gadget) (rest:=tbl07.drop 23) (by rfl)];refine pd _ _ _ (a8 ns) (ht 23 (.inr (.inr rfl))) ?_ ?_ one two deep hd
    ·intro one two deep hd
     exact (aB (fn:=fn_law_hands) (rest:=tbl07.drop 25) (by rfl)).trans (ri _ _ _ (a8 ns) (hw 25 (.inr (.inr rfl))) one two deep hd)
    ·intro way one two a b c th h0 h4
     exact (aB (fn:=fn_law_first_four) (rest:=tbl07.drop 24) (by rfl)).trans (rj _ _ _ way one two a b c th h0 h4)
   ·intro way one two opened hl
    rw [aB (fn:=fn_law_row) (rest:=tbl07.drop 20) (by rfl)];refine wC _ _ _ (a8 ns) (g5 ns) (ht 20 (.inl rfl)) (hw 20 (.inl rfl)) ?_ ?_ way one two opened hl
    ·intro one two named hn hl
     exact (aB (fn:=fn_law_lend) (rest:=tbl07.drop 22) (by rfl)).trans (uu _ _ _ (a8 ns) (g5 ns) (ht 22 (.inr (.inl rfl))) (hw 22 (.inr (.inl rfl))) one two named hn hl)
    ·intro one two hands hn hl
     exact (aB (fn:=fn_law_deed) (rest:=tbl07.drop 21) (by rfl)).trans (uv _ _ _ one two hands hn hl)
 have hlong:mkΦ Γ 100000 (tbl07.drop 1) "_law_long" [.list (ns.map .int),.list ((drawnOf ns 14).map Row.d)]=some (.list ((longOf ns (drawnOf ns 14)).map Row.d)):=
  (aB (fn:=fn_law_long) (rest:=tbl07.drop 5) (by rfl)).trans (uS _ _ _ ns dl0 (hcell 5 (.inr (.inr rfl))))
 generalize drawnOf ns 14=rows0 at hdrawn hlong la;generalize longOf ns rows0=rows at hlong la;have dl:=la.1;have nd:=pj la.2.1;have wf:=la.2.2.1;have rok:=la.2.2.2;have dl5:rows.length<=5000:=QQ dl (by decide);have hstarts:∀ n:Nat,n=12\/n=7->∀ j:Nat,j < rows.length->mkΦ Γ 100000 (tbl07.drop n) "_law_starts" [.list (rows.map Row.d),.list ((homeL rows).map .int),.int (j:Int)]=some (.list ((startL rows j).map .int)):=λn hn j hj=>by
  rcases hn with h | h<;>subst h<;>(exact (aB (fn:=fn_law_starts) (rest:=tbl07.drop 15) (by rfl)).trans (pB _ _ _ rows dl5 j hj))
 have hhomes:∀ n:Nat,n=32\/n=57->mkΦ Γ 100000 (tbl07.drop n) "homes" [.list (rows.map Row.d)]=some (.list ((homeL rows).map .int)):=λn hn=>by
  rcases hn with h | h<;>subst h<;>(exact (aB (fn:=fnhomes) (rest:=[]) (by rfl)).trans (ru _ _ _ G.op rows dl5 nd.ok))
 have hfirst:∀ n:Nat,n=50\/n=52->∀ j:Nat,mkΦ Γ 100000 (tbl07.drop n) "first_rows" [.list (rows.map Row.d),.list ((homeL rows).map .int),.int (j:Int)]=some (.list ((startL rows j).map .int)):=λn hn j=>by
  rcases hn with h | h<;>subst h<;>(exact (aB (fn:=fnfirst_rows) (rest:=tbl07.drop 56) (by rfl)).trans (iE _ _ _ rows dl5 j))
 have hcount:∀ n:Nat,n=32\/n=50->∀ (k:Nat) (row:Row),rows[k]?=some row->mkΦ Γ 100000 (tbl07.drop n) "count_of" [.list (rows.map Row.d),.list ((homeL rows).map .int),.int (k:Int)]=some (.int (bo rows k row)):=λn hn k row hr=>by
  rcases hn with h | h<;>subst h<;>(exact (aB (fn:=fncount_of) (rest:=tbl07.drop 52) (by rfl)).trans (rX _ _ _ rows (hfirst 52 (.inr rfl)) k row hr))
 have hasl:∀ n:Nat,n=44\/n=47->∀ (es:List En) (w:Str),es.length<=1000->mkΦ Γ 100000 (tbl07.drop n) "is_asleep" [.tuple (es.map En.d),.str w]=some (.bool (asleep es w)):=λn hn es w hl=>by
  rcases hn with h | h<;>subst h<;>(exact (aB (fn:=fnis_asleep) (rest:=tbl07.drop 48) (by rfl)).trans (jM _ _ _ es w hl))
 have hent:∀ n:Nat,n=45\/n=54->∀ (held:List En) (w:Str),mkΦ Γ 100000 (tbl07.drop n) "entry_of" [.tuple (held.map En.d),.str w]=some (enO (aP held w)):=λn hn held w=>by
  rcases hn with h | h<;>subst h<;>(exact (aB (fn:=fnentry_of) (rest:=tbl07.drop 55) (by rfl)).trans (kS _ _ _ held w))
 have hlhomes:∀ n:Nat,n=6\/n=8->mkΦ Γ 100000 (tbl07.drop n) "_law_homes" [.list (rows.map Row.d)]=some (.list ((homeL rows).map .int)):=λn hn=>by
  rcases hn with h | h<;>subst h<;>(exact (aB (fn:=fn_law_homes) (rest:=tbl07.drop 17) (by rfl)).trans (pA _ _ _ rows dl5 nd.ok))
 have hlstep:∀ n:Nat,n=6\/n=8->∀ (k:Nat) (row:Row) (_:rows[k]?=some row) (held:List En) (_:HeldOk (ost rows k) held) (c:Int),mkΦ Γ 100000 (tbl07.drop n) "_law_step" [.list (rows.map Row.d),.list ((homeL rows).map .int),stD (k,held),.int c]=some (stD (aE rows k row held c)):=λn hn k row hr held H c=>by
  have e:mkΦ Γ 100000 (tbl07.drop n) "_law_step" [.list (rows.map Row.d),.list ((homeL rows).map .int),stD (k,held),.int c]=runFn (mkΦ Γ 100000 (tbl07.drop 12)) Γ 100000 fn_law_step [.list (rows.map Row.d),.list ((homeL rows).map .int),stD (k,held),.int c]:=by
   rcases hn with h | h<;>subst h<;>(exact aB (fn:=fn_law_step) (rest:=tbl07.drop 12) (by rfl))
  rw [e];refine uL _ _ _ rows dl nd wf (λheld hl ndh w wr s hs=>?_) (λheld hl w=>?_) (hstarts 12 (.inl rfl)) (λj hj=>?_) k row hr held H c
  ·exact (aB (fn:=fn_law_lent) (rest:=tbl07.drop 14) (by rfl)).trans (uK _ _ _ held hl ndh w wr s hs)
  ·exact (aB (fn:=fn_law_back) (rest:=tbl07.drop 13) (by rfl)).trans (uJ _ _ _ held hl w)
  ·exact (aB (fn:=fn_law_last) (rest:=tbl07.drop 16) (by rfl)).trans (uD _ _ _ rows dl5 j hj)
 have hfew:mkΦ Γ 100000 (tbl07.drop 1) "_law_few" [.list (rows.map Row.d),.int 400]=some (.bool false)\/∃ K,Stop rows K/\(B rows K).length<=K/\mkΦ Γ 100000 (tbl07.drop 1) "_law_few" [.list (rows.map Row.d),.int 400]=some (.bool true):=by
  rw [aB (fn:=fn_law_few) (rest:=tbl07.drop 6) (by rfl)];refine wS _ _ _ dl nd wf (by decide) (hlhomes 6 (.inl rfl)) (λk row hr=>?_) (hlstep 6 (.inl rfl));exact (aB (fn:=fn_law_some_ways) (rest:=tbl07.drop 7) (by rfl)).trans (lf _ _ _ rows (hstarts 7 (.inr rfl)) k row hr)
 have h1000:∀ p,StOk rows p->p.2.length<=1000:=λp hp=>QQ hp.2.len (QQ (kU (Qm hp.1)) dl);refine (nj (mkΦ Γ 100000 (tbl07.drop 3)) Γ 100000 ns).elim λcs hcs=>?_;refine sm _ _ _ ns cs hcs.1 hdrawn hlong ?_ ?_ (hfew.imp id λhq=>?_)
 ·exact (aB (fn:=fn_law_choices) (rest:=tbl07.drop 3) (by rfl)).trans hcs.2
 ·exact (aB (fn:=fn_law_rows_alike) (rest:=tbl07.drop 2) (by rfl)).trans (sj _ _ _ rows (QQ dl (by decide)))
 obtain ⟨K,hK,hle,hfew⟩:=hq;have hle4:=hK.le;refine ⟨hfew,?_⟩;have hrun:∀ (cs:List Int) (T:D),cs.length<=20->(∀ (i:Nat) (y:Tri),i < (B rows K).length->(B rows K)[i]?=some y->Pass rows T y.1)->∃ fs:List (Nat × List En),mkΦ Γ 100000 (tbl07.drop 1) "_law_run" [.list (rows.map Row.d),.list (cs.map .int)]=some (.list (fs.map stD))/\∀ p ∈ fs,p.1 < rows.length/\mkΦ Γ 100000 (tbl07.drop 1) "_law_fault" [(rows.getD p.1 .fin).d,.tuple (p.2.map En.d)]=some (.str (fOf rows p))/\Pass rows T p:=λcs T hcs hT=>by
  refine (uR nd wf (cs:=cs) (20 * (1000+1000+1)+(1000+1000)) 0 0 [] (QF _) ⟨rfl,λe h=>(nomatch h),ZM,λe h=>(nomatch h)⟩ ?_).elim λfs R=>?_
  ·exact QC (Nat.mul_le_mul hcs (QT (QC dl dl))) (QQ (s9 rows 0) (QC dl dl))
  refine ⟨fs,(aB (fn:=fn_law_run) (rest:=tbl07.drop 8) (by rfl)).trans (wQ _ Γ 100000 rows (by decide) (hlhomes 8 (.inr rfl)) (hlstep 8 (.inr rfl)) cs fs (QQ R.2 (by decide)) R.1),λp hp=>?_⟩;have hs:=r7 R.1 p hp;refine ⟨hs.1,?_,?_⟩
  ·rw [aB (fn:=fn_law_fault) (rest:=tbl07.drop 9) (by rfl)]
   rw [show fOf rows p=eG (rows.getD p.1 .fin) p.2 from (rF hs.2 (cP wf (aD hs.1))).symm];refine pL _ _ _ (λes he=>?_) _ _ (h1000 p hs);rw [aB (fn:=fn_law_awake) (rest:=tbl07.drop 10) (by rfl)];rw [rD];exact uI _ _ _ es he
  ·have hb:rows.isEmpty=false:=by cases rows with
    | nil=>exact absurd hs.1 (ZY _)
    | cons=>rfl
   obtain ⟨j,y,hy,e⟩:=uU wf hK hle R.1 (sg hb K) p hp;exact e ▸ hT j y (Qq hy).1 hy
 have hlk:(mkΦ Γ 100000 (tbl07.drop 1) "looked" [.list (rows.map Row.d)]=some .none/\∀ (i:Nat) (y:Tri),i < (B rows K).length->(B rows K)[i]?=some y->¬ isFault (fOf rows y.1))\/∃ (x:Tri) (l:List Nat),x ∈ B rows K/\isFault (fOf rows x.1)/\l.length<=2000/\Least rows (B rows K) (B rows K).length x.1/\mkΦ Γ 100000 (tbl07.drop 1) "looked" [.list (rows.map Row.d)]=some (iV x.1.1 (fOf rows x.1) l):=by
  rw [aB (fn:=fnlooked) (rest:=tbl07.drop 30) (by rfl)];refine pY _ _ _ G (F:=B rows K) ?_ ?_ (λx hx=>?_) (λk hk=>?_)
  ·rw [aB (fn:=fnchecked) (rest:=tbl07.drop 33) (by rfl)]
   have hthing:∀ n:Nat,n=40\/n=41->∀ i:Int,ThOk i->mkΦ Γ 100000 (tbl07.drop n) "is_thing" [.int i]=some (.bool true):=λn hn i hi=>by
    rcases hn with h | h<;>subst h<;>(exact (aB (fn:=fnis_thing) (rest:=tbl07.drop 42) (by rfl)).trans (kY _ G _ hi))
   have hword:∀ n:Nat,n=40\/n=39->∀ w:Str,bn w->mkΦ Γ 100000 (tbl07.drop n) "is_word" [.str w]=some (.bool true):=λn hn w hw=>by
    rcases hn with h | h<;>subst h<;>(exact (aB (fn:=fnis_word) (rest:=tbl07.drop 43) (by rfl)).trans (m3 _ G _ hw))
   have hmean:∀ n:Nat,n=35\/n=36->∀ (ps:List (Nat × Row)) (w:Str),mkΦ Γ 100000 (tbl07.drop n) "meaning" [.list (ps.map blD),.str w]=some (optS (iN ps w)):=λn hn ps w=>by
    rcases hn with h | h<;>subst h<;>(exact (aB (fn:=fnmeaning) (rest:=tbl07.drop 38) (by rfl)).trans (m6 _ _ _ ps w))
   refine m7 _ _ _ G dl nd wf rok (λr hr=>?_) (λO r v j=>?_) (λO v w hw hv j=>?_) (λO r hn v ok j=>?_) (λhr j=>?_)
   ·rw [aB (fn:=fnis_row) (rest:=tbl07.drop 39) (by rfl)]
    refine pO _ _ (λw q s hs=>?_) (λts h1 h2 h3=>?_) (hword 39 (.inr rfl)) hr
    ·rw [aB (fn:=fnis_lend) (rest:=tbl07.drop 40) (by rfl)]
     refine m5 _ _ (hthing 40 (.inl rfl)) (λw=>?_) (hword 40 (.inl rfl)) hs;exact (aB (fn:=fnis_thing) (rest:=tbl07.drop 42) (by rfl)).trans (jS _ _ w)
    ·exact (aB (fn:=fnis_choice) (rest:=tbl07.drop 41) (by rfl)).trans (jR _ G _ (hthing 41 (.inr rfl)) h1 h2 h3)
   ·exact (aB (fn:=fnneed_block) (rest:=tbl07.drop 37) (by rfl)).trans (iO _ _ _ O v j)
   ·exact (aB (fn:=fnneed_hand) (rest:=tbl07.drop 36) (by rfl)).trans (jU _ _ _ (hmean 36 (.inr rfl)) O hw hv j)
   ·exact (aB (fn:=fnneed_free) (rest:=tbl07.drop 35) (by rfl)).trans (jW _ _ _ (hmean 35 (.inl rfl)) O hn v ok j)
   ·exact (aB (fn:=fnblock_of) (rest:=tbl07.drop 34) (by rfl)).trans (lb _ _ _ hr j)
  ·rw [aB (fn:=fnstandings) (rest:=tbl07.drop 32) (by rfl)]
   refine jX _ _ _ dl nd wf (by decide) (hhomes 32 (.inl rfl)) ?_ (hcount 32 (.inl rfl)) (λk row hr held H c=>?_) hK hle
   ·exact (aB (fn:=fnends) (rest:=tbl07.drop 57) (by rfl)).trans (uE _ _ _ rows dl5 nd.ok (hhomes 57 (.inr rfl)))
   ·rw [aB (fn:=fnmoved) (rest:=tbl07.drop 50) (by rfl)]
    refine r5 _ _ _ rows dl nd wf (hcount 50 (.inr rfl)) (λos held H w wr s v=>?_) (hfirst 50 (.inl rfl)) (λheld hl w=>?_) (λk hr held c=>?_) k row hr held H c
    ·exact (aB (fn:=fnlent) (rest:=tbl07.drop 54) (by rfl)).trans (rW _ _ _ (hent 54 (.inr rfl)) H v)
    ·exact (aB (fn:=fngiven_back) (rest:=tbl07.drop 53) (by rfl)).trans (rV _ _ _ held hl w)
    ·exact (aB (fn:=fnended) (rest:=tbl07.drop 51) (by rfl)).trans (rZ _ _ _ rows wf k hr held c)
  ·rw [aB (fn:=fnfault) (rest:=tbl07.drop 44) (by rfl)]
   refine rI _ _ _ (λheld hl=>?_) (λrow held hv=>?_) (hasl 44 (.inl rfl)) rows x.1.1 _ (aD ((B_ok nd wf K).st x hx).1) x.1.2 (h1000 _ ((B_ok nd wf K).st x hx)) (sn ((B_ok nd wf K).st x hx).2 (cP wf (aD ((B_ok nd wf K).st x hx).1)))
   ·rw [aB (fn:=fnbeside) (rest:=tbl07.drop 46) (by rfl)]
    refine pJ _ _ _ (λes he=>?_) held hl;exact (aB (fn:=fnawake) (rest:=tbl07.drop 47) (by rfl)).trans (rC _ _ _ (hasl 47 (.inr rfl)) es he)
   ·exact (aB (fn:=fnhand_used) (rest:=tbl07.drop 45) (by rfl)).trans (jP _ _ _ (hent 45 (.inl rfl)) row held hv)
  ·rw [aB (fn:=fnchoices_to) (rest:=tbl07.drop 31) (by rfl)]
   exact iU _ Γ 100000 (B_ok nd wf K) (by exact QQ hle (QQ hle4 (by decide))) (by decide) (λr=>(aB (fn:=fnchooses) (rest:=tbl07.drop 49) (by rfl)).trans (nk _ _ _ r)) k hk
 have pass:∀ (T:D) (y:Tri),(isFault (fOf rows y.1)->Pass rows T y.1)->Pass rows T y.1:=λT y h=>(gv (rows.getD y.1.1 .fin) y.1.2).elim .inl h;refine hlk.imp (λhq=>⟨hq.1,λcs hcs=>hrun cs _ hcs λi y hi hy=>pass _ y λhf=>absurd hf (hq.2 i y hi hy)⟩) λhq=>?_;obtain ⟨x,l,hm,hx,hll,hls,hlk⟩:=hq;refine ⟨x.1,l,((B_ok nd wf K).st x hm).1,hll,hlk,?_,λl cs hcs=>hrun cs _ hcs λi y hi hy=>pass _ y λhf=>.inr ⟨hf,x.1,l,rfl,hx,hls i y hi hy hf⟩⟩
 ·rw [aB (fn:=fn_law_told) (rest:=tbl07.drop 4) (by rfl)]
  refine uY _ _ _ (λi=>?_) x.1.1 hx l hll;exact (aB (fn:=fn_law_whole) (rest:=tbl07.drop 11) (by rfl)).trans (sp_whole' _ _ _ i)
end Mine
set_option tactic.hygienic true
namespace Mine
open PySem PySem.W PyProof.Rows
noncomputable def lv07:List (Str × Con):=[("OPENERS",.t ["lend", "pick", "either", "again"]),("LETTERS",.s "abcdefghijklmnopqrstuvwxyz"),("LONGEST",.i 12),("MOST_THING",.i 999999999),("MOST_THINGS",.i 5),("WORDS",.t ["beside", "empty", "asleep"])]
set_option maxRecDepth 100000
set_option maxHeartbeats 8000000
theorem tbl07_ok:jC (defsP view07) (ffOf sgs07) gcs07 sgs07=some tbl07:=by kernel_rfl
theorem bi07:sM view07 (looseW view07 [])=true:=by decide +kernel
theorem fit07:(lv07.all λq=>q.2.fit&&noList q.2.d)=true:=by decide +kernel
theorem wX(w:World):(λos=>((staticsOk (importedModules pq.main.body) (boot_heap w.params) (hF w.params)&&namesBound pq (hF w.params)&&gensDone (st0 os (hF w.params) 910)&&laidKept (boot_heap w.params) (hF w.params)),openSeen view07 [] (importedModules pq.main.body) (λs=>Mine.consAt Mine.lv07 s&&recOk (RowW.records (OpenRow.toRowW PySem.Challenge.rw_uf020040_07.row)) s) true (st0 os (hF w.params) 910),Hook.obs Hook.none (st0 os (hF w.params) 910)))=λ_=>(true,openGood view07 [],Hook.val Hook.none w):=by kernel_rfl
theorem left07:LeftO (OpenRow.toRowW PySem.Challenge.rw_uf020040_07.row).prog view07 [] (λs=>Mine.consAt Mine.lv07 s&&recOk (RowW.records (OpenRow.toRowW PySem.Challenge.rw_uf020040_07.row)) s) (Hook.obs Hook.none) (Hook.val Hook.none) 7000:=LeftO.of_pieces (p:=pq) w0 wZ runH rfl wX
end Mine
set_option tactic.hygienic true
namespace Mine
open PySem PySem.W PyProof.Rows
theorem ints_rd{H:D->Int}{h:Heap}{P:Params}:∀ {vs:List Value} {ns:List Int},WellAll P h vs (ofPys (ns.map PyData.int))->RdAll H h vs (ns.map .int) []
 | _,[],q=>by cases q;exact .nil
 | _,n::ns,q=>by
  cases q with
  | cons a b=>cases a;exact .cons (.int _ _) (ints_rd b)
theorem gok07:Gok (gcOf lv07):=⟨by rfl,by rfl,by rfl,by rfl,by rfl,by rfl⟩
end Mine
open PySem PySem.W PyProof.Rows
set_option maxRecDepth 100000 in
set_option maxHeartbeats 8000000 in
theorem PySem.Challenge.cw_uf020040_07_holds : PySem.Challenge.rw_uf020040_07.Holds := by
 refine holds_law Mine.said07 λsaid=>?_;refine holds_open (q:=Mine.view07) (loose:=[]) (Xt:=(λs=>Mine.consAt Mine.lv07 s&&recOk (RowW.records (OpenRow.toRowW PySem.Challenge.rw_uf020040_07.row)) s)) (XP:=Mine.ConsAre Mine.lv07) (Yf:=Hook.obs Hook.none) (Ya:=Hook.val Hook.none) (YP:=Hook.says Hook.none) (N:=7000) Mine.left07 (Hook.of Hook.none) (Hook.keeps Hook.none) (λs e=>Mine.cons_of s (Bool.and_eq_true_iff.mp e).1) Mine.ConsAre.keeps (by rfl) (by rfl) (by rfl) (λs e=>recFacts_of (Bool.and_eq_true_iff.mp e).2) (by rfl) (by assumption) (by decide +kernel) ⟨rfl,rfl,rfl,rfl,rfl,by decide +kernel⟩ ?hw ?hc
 case hw=>w_witness2
 intro w s₀ s₁ mg mb G Y fa o pm cd doc dV kV ho hd hcd hD hmg hg args vals as hpre hlay hrd hwl hlo;have X:=G.X;refine Ground.open G ?_;intro T B D TE TW
 wrow_args hpre hlay hrd hwl hlo
 rename_i ns q1 q2 q3 q4 q5 q6 q7 l vs q8 hL ra wl r0 hI hr hc1 hc2;have hlen:ns.length<=63:=by omega
 clear hd hcd hD ho;cases wl with
 | list hget hall=>
  refine Mine.law_run (H:=Mine.strH w) (xs:=ns.map .int) (sgs:=Mine.sgs07) (tbl:=Mine.tbl07) (gcs:=Mine.gcs07) (Γ:=Mine.gcOf Mine.lv07) (N:=100000) T Mine.bi07 Mine.tbl07_ok (Mine.strH_ok w) (λx d h=>Mine.gcOf_rd Mine.fit07 X h) hmg hget ?_ (Mine.ints_rd hall) ⟨false,by decide +kernel⟩ (by decide) (Mine.plain07 Mine.gok07 ns hlen) λs' k=>?_
  ·have:=(Mine.ints_rd (H:=Mine.strH w) hall).length
   simp only [(List.length_map)] at this;rw [List.size_toArray,this];exact Nat.le_trans hlen (by decide)
  ·obtain ⟨h',tk,rfl,hk⟩:=k
   refine GoodW.toG ⟨.inl ⟨.bool true,.bool true,[],rfl,λ_=>rfl,.bool true,?_,λ_=>⟨.nil,λ_ z=>nomatch z⟩⟩,hk,rfl,hg⟩
   first | rfl | kernel_rfl

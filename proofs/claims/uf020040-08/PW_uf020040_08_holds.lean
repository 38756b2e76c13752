import PyProof.Rows.All
import Wide.All
import OpenK.AllK
import Wide.FinOn
import KE.KSliceW
import KE.KRevIter
import KE.KItem
import KE.KDictList
import PyProof.Rows.SumAny
import PyProof.DictDisplay
import PyProof.DictStraight
import Wide.Seal
import PyProof.TupleKey
import PyProof.Rows.TupTab
import PyProof.DictRoadsH
import PyProof.DictKinds
import PyProof.MeetsSeq2
import PySem.Challenge.RW_uf020040_08
set_option Elab.async false
set_option linter.all false
set_option genSizeOf false
set_option bootstrap.genMatcherCode false
set_option genInjectivity false
set_option autoImplicit false
set_option tactic.hygienic true
noncomputable section
namespace Mine
theorem gX {α:Type _} {a:α} {l:List α} {i:Nat}:(a::l)[i+1]?=l[i]?:=rfl
theorem gN {α:Type _} {a:α} {l:List α}:(a::l)[0]?=some a:=rfl
theorem bX {α β:Type _} (a:α) (f:α→Option β):(some a).bind f=f a:=rfl
theorem mX {α β:Type _} (a:α) (f:α→β):(some a).map f=some (f a):=rfl
theorem sX {α:Type _} {a b:α} {l:List α} {i:Nat}:(a::l).set (i+1) b=a::l.set i b:=rfl
theorem sN {α:Type _} {a b:α} {l:List α}:(a::l).set 0 b=b::l:=rfl
theorem lX {α β:Type _} {l:List α} (f:α→β):(l.map f).length=l.length:=List.length_map f
open PySem PySem.W PyProof.Rows
noncomputable def tt:Stmt→Bool
 | .Assign [.Name x _] _ _=>x != ("__name__" : Str)
 | _=>true
noncomputable def view08:Program:={ PySem.Challenge.pw_uf020040_08 with main:={ PySem.Challenge.pw_uf020040_08.main with body:=PySem.Challenge.pw_uf020040_08.main.body.filter tt } }
set_option maxRecDepth 100000
set_option maxHeartbeats 8000000
theorem said08:OpenLaw.wellSaid PySem.Challenge.rw_uf020040_08=true:=by
 delta OpenLaw.wellSaid OpenRow.wellSaid OpenRow.partSaid looksOpen
 repeat' with_reducible refine look_both ?_ ?_
 all_goals decide +kernel
end Mine
namespace Mine
open PySem PySem.W PyProof.Rows
noncomputable abbrev pq:Program:=PySem.Challenge.pw_uf020040_08
noncomputable def stA (k:Nat):Stmt:=(pq.main.body[k]?).getD (.Pass default)
noncomputable def fdOf:Stmt→Arguments × List Stmt × Scope
 | .FunctionDef _ a b _ _ _ c _ _ _=>(a,b,c)
 | _=>default
noncomputable def clOf:Stmt→List Stmt
 | .ClassDef _ _ _ b _ _ _ _ _ _ _=>b
 | _=>[]
noncomputable def fA (k:Nat):Arguments:=(fdOf (stA k)).1
noncomputable def fB (k:Nat):List Stmt:=(fdOf (stA k)).2.1
noncomputable def fS (k:Nat):Scope:=(fdOf (stA k)).2.2
noncomputable def gD (k j:Nat):Arguments × List Stmt × Scope:=fdOf (((clOf (stA k))[j]?).getD (.Pass default))
noncomputable def gA (k j:Nat):Arguments:=(gD k j).1
noncomputable def gB (k j:Nat):List Stmt:=(gD k j).2.1
noncomputable def gS (k j:Nat):Scope:=(gD k j).2.2
noncomputable def Y (o:Obj) (l r:BT):BT:=.node o l r
noncomputable def lT (o:Obj):BT:=Y o .nil .nil
noncomputable def z0:Value:=.int 0 0
noncomputable def zT:Obj:={ cls:=.type "tuple",data:=.seq #[] }
noncomputable def zF:Obj:={ cls:=.none,data:=.fields #[] }
noncomputable def tp (a:Array Value):Obj:={ cls:=.type "tuple",data:=.seq a }
noncomputable def kv (P:Params) (x:Str) (t:Nat) (v:Value):DictEntry:={ hash:=PyData.keyHash P x,key:=.str x t,val:=v }
noncomputable def fn0 (x:Str) (k:Nat):Obj:={ cls:=.none,data:=.func { name:=x,qualname:=x,params:=fA k,body:=.stmts (fB k),scope:=fS k,globals:=0,closure:=[],defaults:=.none,kwdefaults:=.none } }
noncomputable def fn1 (x:Str) (k:Nat) (y:Str) (t c:Nat):Obj:={ cls:=.type "function",data:=.func { name:=x,qualname:=x,params:=fA k,body:=.stmts (fB k),scope:=fS k,globals:=3,closure:=[],defaults:=.none,kwdefaults:=.none,pyModule:=.str y t,code:=.ref c } }
noncomputable def cd (x:Str) (t1 t2 t3 l:Nat) (n:Value) (a b c d e t4 t5:Nat):Obj:={ cls:=.type "code",data:=.fields #[.str x t1,.str x t2,.str "/claim/cut.py" t3,.int l 0,n,z0,z0,.int 3 0,.ref a,.bool true,.int 181 0,.ref b,.none,.ref c,.ref d,.ref e,.int t4 0,.int l 0,.str "/claim/cut.py" t5] }
def k0 (P:Params):DictEntry:=kv P "__doc__" 166 .none
def k1 (P:Params):DictEntry:=kv P "__package__" 167 .none
def k2 (P:Params):DictEntry:=kv P "__loader__" 168 (.builtin "__main__.__loader__#opaque")
def k3 (P:Params):DictEntry:=kv P "__spec__" 169 .none
def k4 (P:Params):DictEntry:=kv P "__annotations__" 170 (.ref 6)
def k5 (P:Params):DictEntry:=kv P "__builtins__" 171 (.ref 4)
def k6 (P:Params):DictEntry:=kv P "__file__" 173 (.str "/claim/cut.py" 172)
def k7 (P:Params):DictEntry:=kv P "__cached__" 174 .none
def k8 (P:Params):DictEntry:=kv P "OPENERS" 193 (.ref 15)
def k9 (P:Params):DictEntry:=kv P "homes" 204 (.ref 22)
def k10 (P:Params):DictEntry:=kv P "ends" 215 (.ref 29)
def k11 (P:Params):DictEntry:=kv P "first_rows" 226 (.ref 36)
def k12 (P:Params):DictEntry:=kv P "entry_of" 237 (.ref 43)
def k13 (P:Params):DictEntry:=kv P "lent" 246 (.ref 50)
def k14 (P:Params):DictEntry:=kv P "given_back" 257 (.ref 57)
def k15 (P:Params):DictEntry:=kv P "count_of" 266 (.ref 64)
def k16 (P:Params):DictEntry:=kv P "ended" 278 (.ref 71)
def k17 (P:Params):DictEntry:=kv P "moved" 293 (.ref 78)
def k18 (P:Params):DictEntry:=kv P "chooses" 300 (.ref 85)
def k19 (P:Params):DictEntry:=kv P "is_asleep" 308 (.ref 90)
def k20 (P:Params):DictEntry:=kv P "awake" 317 (.ref 97)
def k21 (P:Params):DictEntry:=kv P "beside" 327 (.ref 104)
def k22 (P:Params):DictEntry:=kv P "hand_used" 336 (.ref 111)
def k23 (P:Params):DictEntry:=kv P "fault" 347 (.ref 118)
def k24 (P:Params):DictEntry:=kv P "DeskError" 376 (.ref 135)
def k25 (P:Params):DictEntry:=kv P "NoRow" 392 (.ref 148)
def k26 (P:Params):DictEntry:=kv P "NoBlock" 408 (.ref 160)
def k27 (P:Params):DictEntry:=kv P "NoWord" 424 (.ref 172)
def k28 (P:Params):DictEntry:=kv P "Taken" 440 (.ref 184)
def k29 (P:Params):DictEntry:=kv P "Narrow" 456 (.ref 196)
def k30 (P:Params):DictEntry:=kv P "NoEnd" 472 (.ref 208)
def k31 (P:Params):DictEntry:=kv P "LETTERS" 476 (.str "abcdefghijklmnopqrstuvwxyz" 475)
def k32 (P:Params):DictEntry:=kv P "LONGEST" 478 (.int 12 477)
def o3 (P:Params):Obj:={ cls:=.type "dict",data:=.dict #[kv P "__name__" 165 (.str "__main__" 164),k0 P,k1 P,k2 P,k3 P,k4 P,k5 P,k6 P,k7 P] 9 }
def o13:Obj:={ cls:=.type "code",data:=.fields #[.str "<module>" 182,.str "<module>" 183,.str "/claim/cut.py" 184,.int 1 0,z0,z0,z0,z0,.ref 11,.bool false,.int 181 0,.ref 12,.none,.none,.none,.none,.int 185 0,.int 1 0,.str "/claim/cut.py" 186] }
noncomputable def o14:Obj:={ cls:=.type "frame",slots:=#[some (.ref 13),some (.ref 3),some (.ref 3),none,some (.str "__main__" 164),none,some (.ref 0)] }
def o15 (P:Params):Obj:={ cls:=.type "dict",data:=.dict #[kv P "__name__" 165 (.str "borrowdesk.errors" 348),k0 P,k1 P,k2 P,k3 P,k4 P,k5 P,k6 P,k7 P,k8 P,k9 P,k10 P,k11 P,k12 P,k13 P,k14 P,k15 P,k16 P,k17 P,k18 P,k19 P,k20 P,k21 P,k22 P,k23 P,k24 P,k25 P] 27 }
def o16:Obj:={ cls:=.none,data:=.fields #[.int 3 0,z0,.ref 21,.int 16 0,z0,.ref 28,.int 23 0,z0,.ref 35,.int 30 0,z0,.ref 42,.int 35 0,z0,.ref 49,.int 42 0,z0,.ref 56,.int 52 0,z0,.ref 63,.int 60 0,z0,.ref 70,.int 68 0,z0,.ref 77,.int 87 0,z0,.ref 84,.int 90 0,z0,.ref 89,.int 92 0,z0,.ref 96,.int 98 0,z0,.ref 103,.int 105 0,z0,.ref 110,.int 113 0,z0,.ref 117,.int 126 0,z0,.ref 124,.int 130 0,z0,.ref 144] }
def o17:Obj:=tp #[.str "lend" 189,.str "pick" 190,.str "either" 191,.str "again" 192]
def o20:Obj:=tp #[.str "rows" 197,.str "stack" 198,.str "found" 199,.str "at" 200,.str "row" 201]
def o22:Obj:=fn0 "homes" 2
def o23:Obj:=cd "homes" 194 195 196 3 (.int 1 0) 16 17 18 19 20 202 203
def o24:Obj:=fn1 "homes" 2 "borrowdesk.blocks" 187 21
def o27:Obj:=tp #[.str "rows" 208,.str "home" 209,.str "found" 210,.str "at" 211,.str "row" 212]
def o29:Obj:=fn0 "ends" 3
def o30:Obj:=cd "ends" 205 206 207 16 (.int 1 0) 23 24 25 26 27 213 214
def o31:Obj:=fn1 "ends" 3 "borrowdesk.blocks" 187 28
def o34:Obj:=tp #[.str "rows" 219,.str "home" 220,.str "at" 221,.str "found" 222,.str "number" 223]
def o36:Obj:=fn0 "first_rows" 4
def o37:Obj:=cd "first_rows" 216 217 218 23 (.int 3 0) 30 31 32 33 34 224 225
def o38:Obj:=fn1 "first_rows" 4 "borrowdesk.blocks" 187 35
def o41:Obj:=tp #[.str "held" 232,.str "word" 233,.str "entry" 234]
def o43:Obj:=fn0 "entry_of" 6
def o44:Obj:=cd "entry_of" 229 230 231 30 (.int 2 0) 37 38 39 40 41 235 236
def o45:Obj:=fn1 "entry_of" 6 "borrowdesk.runs" 227 42
def o48:Obj:=tp #[.str "row" 241,.str "held" 242,.str "source" 243]
def o50:Obj:=fn0 "lent" 7
def o51:Obj:=cd "lent" 238 239 240 35 (.int 2 0) 44 45 46 47 48 244 245
def o52:Obj:=fn1 "lent" 7 "borrowdesk.runs" 227 49
def o55:Obj:=tp #[.str "held" 250,.str "hand" 251,.str "gone" 252,.str "found" 253,.str "entry" 254]
def o57:Obj:=fn0 "given_back" 8
def o58:Obj:=cd "given_back" 247 248 249 42 (.int 2 0) 51 52 53 54 55 255 256
def o59:Obj:=fn1 "given_back" 8 "borrowdesk.runs" 227 56
def o62:Obj:=tp #[.str "rows" 261,.str "home" 262,.str "at" 263]
def o64:Obj:=fn0 "count_of" 9
def o65:Obj:=cd "count_of" 258 259 260 52 (.int 3 0) 58 59 60 61 62 264 265
def o66:Obj:=fn1 "count_of" 9 "borrowdesk.runs" 227 63
def o69:Obj:=tp #[.str "rows" 270,.str "home" 271,.str "standing" 272,.str "at" 273,.str "held" 274,.str "kind" 275]
def o71:Obj:=fn0 "ended" 10
def o72:Obj:=cd "ended" 267 268 269 60 (.int 3 0) 65 66 67 68 69 276 277
def o73:Obj:=fn1 "ended" 10 "borrowdesk.runs" 227 70
def o76:Obj:=tp #[.str "rows" 282,.str "home" 283,.str "last" 284,.str "standing" 285,.str "choice" 286,.str "at" 287,.str "held" 288,.str "row" 289,.str "way" 290]
def o78:Obj:=fn0 "moved" 11
def o79:Obj:=cd "moved" 279 280 281 68 (.int 5 0) 72 73 74 75 76 291 292
def o80:Obj:=fn1 "moved" 11 "borrowdesk.runs" 227 77
def o83:Obj:=tp #[.str "row" 297]
def o85:Obj:=fn0 "chooses" 12
def o86:Obj:=cd "chooses" 294 295 296 87 (.int 1 0) 79 80 81 82 83 298 299
def o87:Obj:=fn1 "chooses" 12 "borrowdesk.runs" 227 84
def o90:Obj:=fn0 "is_asleep" 14
def o91:Obj:={ cls:=.type "code",data:=.fields #[.str "is_asleep" 303,.str "is_asleep" 304,.str "/claim/cut.py" 305,.int 90 0,.int 2 0,z0,z0,.int 3 0,.ref 86,.bool true,.int 181 0,.ref 87,.none,.none,.none,.ref 88,.int 306 0,.int 90 0,.str "/claim/cut.py" 307] }
def o92:Obj:=fn1 "is_asleep" 14 "borrowdesk.faults" 301 89
def o95:Obj:=tp #[.str "held" 312,.str "found" 313,.str "entry" 314]
def o97:Obj:=fn0 "awake" 15
def o98:Obj:=cd "awake" 309 310 311 92 (.int 1 0) 91 92 93 94 95 315 316
def o99:Obj:=fn1 "awake" 15 "borrowdesk.faults" 301 96
def o102:Obj:=tp #[.str "held" 321,.str "hands" 322,.str "at" 323,.str "other" 324]
def o104:Obj:=fn0 "beside" 16
def o105:Obj:=cd "beside" 318 319 320 98 (.int 1 0) 98 99 100 101 102 325 326
def o106:Obj:=fn1 "beside" 16 "borrowdesk.faults" 301 103
def o109:Obj:=tp #[.str "row" 331,.str "held" 332,.str "source" 333]
def o111:Obj:=fn0 "hand_used" 17
def o112:Obj:=cd "hand_used" 328 329 330 105 (.int 2 0) 105 106 107 108 109 334 335
def o113:Obj:=fn1 "hand_used" 17 "borrowdesk.faults" 301 110
def o116:Obj:=tp #[.str "rows" 340,.str "standing" 341,.str "at" 342,.str "held" 343,.str "entry" 344]
def o118:Obj:=fn0 "fault" 18
def o119:Obj:=cd "fault" 337 338 339 113 (.int 2 0) 112 113 114 115 116 345 346
def o120:Obj:=fn1 "fault" 18 "borrowdesk.faults" 301 117
def o121:Obj:=tp #[.type "ValueError"]
noncomputable def o122:Obj:={ cls:=.type "builtin_function_or_method",data:=.fields #[.builtin "type.__prepare__",.type "type"] }
def o123 (P:Params):Obj:={ cls:=.type "dict",data:=.dict #[kv P "__module__" 357 (.str "borrowdesk.errors" 348),kv P "__qualname__" 359 (.str "DeskError" 358),kv P "__firstlineno__" 361 (.int 126 360),kv P "__init__" 369 (.ref 132),kv P "__static_attributes__" 371 (.ref 133)] 5 }
noncomputable def o125:Obj:={ cls:=.none,data:=.fields #[.int 128 0,.int 4 0,.ref 131] }
def o126:Obj:={ cls:=.type "code",data:=.fields #[.str "DeskError" 352,.str "DeskError" 353,.str "/claim/cut.py" 354,.int 126 0,z0,z0,z0,z0,.ref 122,.bool false,.int 181 0,.ref 123,.none,.none,.none,.none,.int 355 0,.int 126 0,.str "/claim/cut.py" 356] }
noncomputable def o127:Obj:={ cls:=.type "frame",slots:=#[some (.ref 124),some (.ref 3),some (.ref 121),none,some (.str "borrowdesk.errors" 348),none,some (.ref 0)] }
def o130:Obj:=tp #[.str "self" 365,.str "at" 366]
noncomputable def o132:Obj:={ cls:=.none,data:=.func { name := "__init__",qualname := "DeskError.__init__",params:=gA 20 0,body:=.stmts (gB 20 0),scope:=gS 20 0,globals:=0,closure:=[],defaults:=.none,kwdefaults:=.none } }
def o133:Obj:={ cls:=.type "code",data:=.fields #[.str "__init__" 362,.str "DeskError.__init__" 363,.str "/claim/cut.py" 364,.int 128 0,.int 2 0,z0,z0,.int 3 0,.ref 126,.bool true,.int 181 0,.ref 127,.none,.ref 128,.ref 129,.ref 130,.int 367 0,.int 128 0,.str "/claim/cut.py" 368] }
noncomputable def o134:Obj:={ cls:=.type "function",data:=.func { name := "__init__",qualname := "DeskError.__init__",params:=gA 20 0,body:=.stmts (gB 20 0),scope:=gS 20 0,globals:=3,closure:=[],defaults:=.none,kwdefaults:=.none,pyModule:=.str "borrowdesk.errors" 348,code:=.ref 131 } }
def o135:Obj:=tp #[.str "at" 370]
def o136 (P:Params):Obj:={ cls:=.type "dict",data:=.dict #[kv P "__module__" 357 (.str "borrowdesk.errors" 348),kv P "__firstlineno__" 361 (.int 126 360),kv P "__init__" 369 (.ref 132),kv P "__static_attributes__" 371 (.ref 133),kv P "__weakref__" 373 (.ref 136),kv P "__doc__" 374 .none] 3 }
noncomputable def o137:Obj:={ cls:=.type "type",data:=.cls { name := "DeskError",bases:=[.type "ValueError"],mro:=[.ref 135,.type "ValueError",.type "Exception",.type "BaseException",.type "object"],ns:=134,qualname := "DeskError",subclasses:=[.ref 148] },slots:=#[some (.ref 119),none,some (.str "DeskError" 350),some (.str "DeskError" 358),some (.builtin "ValueError.__new__"),some (.bool true)] }
noncomputable def o138:Obj:={ cls:=.type "getset_descriptor",data:=.fields #[.str "__weakref__" 372,.ref 135,.builtin "ExceptionGroup.__weakref__",.none] }
noncomputable def o139:Obj:={ cls:=.type "super",data:=.fields #[.ref 135,.ref 135,.ref 135] }
noncomputable def o140:Obj:={ cls:=.type "builtin_function_or_method",data:=.fields #[.builtin "object.__init_subclass__",.ref 135] }
def o141:Obj:=tp #[.ref 135]
noncomputable def o142:Obj:={ cls:=.type "builtin_function_or_method",data:=.fields #[.builtin "type.__prepare__",.type "type"] }
def o143 (P:Params):Obj:={ cls:=.type "dict",data:=.dict #[kv P "__module__" 384 (.str "borrowdesk.errors" 348),kv P "__qualname__" 386 (.str "NoRow" 385),kv P "__firstlineno__" 388 (.int 130 387),kv P "__static_attributes__" 389 (.ref 146)] 4 }
def o146:Obj:={ cls:=.type "code",data:=.fields #[.str "NoRow" 379,.str "NoRow" 380,.str "/claim/cut.py" 381,.int 130 0,z0,z0,z0,z0,.ref 142,.bool false,.int 181 0,.ref 143,.none,.none,.none,.none,.int 382 0,.int 130 0,.str "/claim/cut.py" 383] }
noncomputable def o147:Obj:={ cls:=.type "frame",slots:=#[some (.ref 144),some (.ref 3),some (.ref 141),none,some (.str "borrowdesk.errors" 348),none,some (.ref 0)] }
def o149 (P:Params):Obj:={ cls:=.type "dict",data:=.dict #[kv P "__module__" 384 (.str "borrowdesk.errors" 348),kv P "__firstlineno__" 388 (.int 130 387),kv P "__static_attributes__" 389 (.ref 146),kv P "__doc__" 390 .none] 2 }
noncomputable def o150:Obj:={ cls:=.type "type",data:=.cls { name := "NoRow",bases:=[.ref 135],mro:=[.ref 148,.ref 135,.type "ValueError",.type "Exception",.type "BaseException",.type "object"],ns:=147,qualname := "NoRow" },slots:=#[some (.ref 139),none,some (.str "NoRow" 377),some (.str "NoRow" 385),some (.builtin "ValueError.__new__"),some (.bool true)] }
noncomputable def o151:Obj:={ cls:=.type "super",data:=.fields #[.ref 148,.ref 148,.ref 148] }
noncomputable def o152:Obj:={ cls:=.type "builtin_function_or_method",data:=.fields #[.builtin "object.__init_subclass__",.ref 148] }
def o153 (P:Params):Obj:={ cls:=.type "dict",data:=.dict #[kv P "__name__" 165 (.str "borrowdesk.forms" 473),k0 P,k1 P,k2 P,k3 P,k4 P,k5 P,k6 P,k7 P,k8 P,k9 P,k10 P,k11 P,k12 P,k13 P,k14 P,k15 P,k16 P,k17 P,k18 P,k19 P,k20 P,k21 P,k22 P,k23 P,k24 P,k25 P,k26 P,k27 P,k28 P,k29 P,k30 P,k31 P,k32 P] 34 }
def o154:Obj:={ cls:=.none,data:=.fields #[.int 3 0,z0,.ref 21,.int 16 0,z0,.ref 28,.int 23 0,z0,.ref 35,.int 30 0,z0,.ref 42,.int 35 0,z0,.ref 49,.int 42 0,z0,.ref 56,.int 52 0,z0,.ref 63,.int 60 0,z0,.ref 70,.int 68 0,z0,.ref 77,.int 87 0,z0,.ref 84,.int 90 0,z0,.ref 89,.int 92 0,z0,.ref 96,.int 98 0,z0,.ref 103,.int 105 0,z0,.ref 110,.int 113 0,z0,.ref 117,.int 126 0,z0,.ref 124,.int 130 0,z0,.ref 144,.int 132 0,z0,.ref 156,.int 134 0,z0,.ref 168,.int 136 0,z0,.ref 180,.int 138 0,z0,.ref 192,.int 140 0,z0,.ref 204] }
noncomputable def o155:Obj:={ cls:=.type "type",data:=.cls { name := "DeskError",bases:=[.type "ValueError"],mro:=[.ref 135,.type "ValueError",.type "Exception",.type "BaseException",.type "object"],ns:=134,qualname := "DeskError",subclasses:=[.ref 148,.ref 160,.ref 172,.ref 184,.ref 196,.ref 208] },slots:=#[some (.ref 119),none,some (.str "DeskError" 350),some (.str "DeskError" 358),some (.builtin "ValueError.__new__"),some (.bool true)] }
def o156:Obj:=tp #[.ref 135]
noncomputable def o157:Obj:={ cls:=.type "builtin_function_or_method",data:=.fields #[.builtin "type.__prepare__",.type "type"] }
def o158 (P:Params):Obj:={ cls:=.type "dict",data:=.dict #[kv P "__module__" 400 (.str "borrowdesk.errors" 348),kv P "__qualname__" 402 (.str "NoBlock" 401),kv P "__firstlineno__" 404 (.int 132 403),kv P "__static_attributes__" 405 (.ref 158)] 4 }
def o161:Obj:={ cls:=.type "code",data:=.fields #[.str "NoBlock" 395,.str "NoBlock" 396,.str "/claim/cut.py" 397,.int 132 0,z0,z0,z0,z0,.ref 154,.bool false,.int 181 0,.ref 155,.none,.none,.none,.none,.int 398 0,.int 132 0,.str "/claim/cut.py" 399] }
noncomputable def o162:Obj:={ cls:=.type "frame",slots:=#[some (.ref 156),some (.ref 3),some (.ref 153),none,some (.str "borrowdesk.errors" 348),none,some (.ref 0)] }
def o164 (P:Params):Obj:={ cls:=.type "dict",data:=.dict #[kv P "__module__" 400 (.str "borrowdesk.errors" 348),kv P "__firstlineno__" 404 (.int 132 403),kv P "__static_attributes__" 405 (.ref 158),kv P "__doc__" 406 .none] 2 }
noncomputable def o165:Obj:={ cls:=.type "type",data:=.cls { name := "NoBlock",bases:=[.ref 135],mro:=[.ref 160,.ref 135,.type "ValueError",.type "Exception",.type "BaseException",.type "object"],ns:=159,qualname := "NoBlock" },slots:=#[some (.ref 151),none,some (.str "NoBlock" 393),some (.str "NoBlock" 401),some (.builtin "ValueError.__new__"),some (.bool true)] }
noncomputable def o166:Obj:={ cls:=.type "super",data:=.fields #[.ref 160,.ref 160,.ref 160] }
noncomputable def o167:Obj:={ cls:=.type "builtin_function_or_method",data:=.fields #[.builtin "object.__init_subclass__",.ref 160] }
def o168:Obj:=tp #[.ref 135]
noncomputable def o169:Obj:={ cls:=.type "builtin_function_or_method",data:=.fields #[.builtin "type.__prepare__",.type "type"] }
def o170 (P:Params):Obj:={ cls:=.type "dict",data:=.dict #[kv P "__module__" 416 (.str "borrowdesk.errors" 348),kv P "__qualname__" 418 (.str "NoWord" 417),kv P "__firstlineno__" 420 (.int 134 419),kv P "__static_attributes__" 421 (.ref 170)] 4 }
def o173:Obj:={ cls:=.type "code",data:=.fields #[.str "NoWord" 411,.str "NoWord" 412,.str "/claim/cut.py" 413,.int 134 0,z0,z0,z0,z0,.ref 166,.bool false,.int 181 0,.ref 167,.none,.none,.none,.none,.int 414 0,.int 134 0,.str "/claim/cut.py" 415] }
noncomputable def o174:Obj:={ cls:=.type "frame",slots:=#[some (.ref 168),some (.ref 3),some (.ref 165),none,some (.str "borrowdesk.errors" 348),none,some (.ref 0)] }
def o176 (P:Params):Obj:={ cls:=.type "dict",data:=.dict #[kv P "__module__" 416 (.str "borrowdesk.errors" 348),kv P "__firstlineno__" 420 (.int 134 419),kv P "__static_attributes__" 421 (.ref 170),kv P "__doc__" 422 .none] 2 }
noncomputable def o177:Obj:={ cls:=.type "type",data:=.cls { name := "NoWord",bases:=[.ref 135],mro:=[.ref 172,.ref 135,.type "ValueError",.type "Exception",.type "BaseException",.type "object"],ns:=171,qualname := "NoWord" },slots:=#[some (.ref 163),none,some (.str "NoWord" 409),some (.str "NoWord" 417),some (.builtin "ValueError.__new__"),some (.bool true)] }
noncomputable def o178:Obj:={ cls:=.type "super",data:=.fields #[.ref 172,.ref 172,.ref 172] }
noncomputable def o179:Obj:={ cls:=.type "builtin_function_or_method",data:=.fields #[.builtin "object.__init_subclass__",.ref 172] }
def o180:Obj:=tp #[.ref 135]
noncomputable def o181:Obj:={ cls:=.type "builtin_function_or_method",data:=.fields #[.builtin "type.__prepare__",.type "type"] }
def o182 (P:Params):Obj:={ cls:=.type "dict",data:=.dict #[kv P "__module__" 432 (.str "borrowdesk.errors" 348),kv P "__qualname__" 434 (.str "Taken" 433),kv P "__firstlineno__" 436 (.int 136 435),kv P "__static_attributes__" 437 (.ref 182)] 4 }
def o185:Obj:={ cls:=.type "code",data:=.fields #[.str "Taken" 427,.str "Taken" 428,.str "/claim/cut.py" 429,.int 136 0,z0,z0,z0,z0,.ref 178,.bool false,.int 181 0,.ref 179,.none,.none,.none,.none,.int 430 0,.int 136 0,.str "/claim/cut.py" 431] }
noncomputable def o186:Obj:={ cls:=.type "frame",slots:=#[some (.ref 180),some (.ref 3),some (.ref 177),none,some (.str "borrowdesk.errors" 348),none,some (.ref 0)] }
def o188 (P:Params):Obj:={ cls:=.type "dict",data:=.dict #[kv P "__module__" 432 (.str "borrowdesk.errors" 348),kv P "__firstlineno__" 436 (.int 136 435),kv P "__static_attributes__" 437 (.ref 182),kv P "__doc__" 438 .none] 2 }
noncomputable def o189:Obj:={ cls:=.type "type",data:=.cls { name := "Taken",bases:=[.ref 135],mro:=[.ref 184,.ref 135,.type "ValueError",.type "Exception",.type "BaseException",.type "object"],ns:=183,qualname := "Taken" },slots:=#[some (.ref 175),none,some (.str "Taken" 425),some (.str "Taken" 433),some (.builtin "ValueError.__new__"),some (.bool true)] }
noncomputable def o190:Obj:={ cls:=.type "super",data:=.fields #[.ref 184,.ref 184,.ref 184] }
noncomputable def o191:Obj:={ cls:=.type "builtin_function_or_method",data:=.fields #[.builtin "object.__init_subclass__",.ref 184] }
def o192:Obj:=tp #[.ref 135]
noncomputable def o193:Obj:={ cls:=.type "builtin_function_or_method",data:=.fields #[.builtin "type.__prepare__",.type "type"] }
def o194 (P:Params):Obj:={ cls:=.type "dict",data:=.dict #[kv P "__module__" 448 (.str "borrowdesk.errors" 348),kv P "__qualname__" 450 (.str "Narrow" 449),kv P "__firstlineno__" 452 (.int 138 451),kv P "__static_attributes__" 453 (.ref 194)] 4 }
def o197:Obj:={ cls:=.type "code",data:=.fields #[.str "Narrow" 443,.str "Narrow" 444,.str "/claim/cut.py" 445,.int 138 0,z0,z0,z0,z0,.ref 190,.bool false,.int 181 0,.ref 191,.none,.none,.none,.none,.int 446 0,.int 138 0,.str "/claim/cut.py" 447] }
noncomputable def o198:Obj:={ cls:=.type "frame",slots:=#[some (.ref 192),some (.ref 3),some (.ref 189),none,some (.str "borrowdesk.errors" 348),none,some (.ref 0)] }
def o200 (P:Params):Obj:={ cls:=.type "dict",data:=.dict #[kv P "__module__" 448 (.str "borrowdesk.errors" 348),kv P "__firstlineno__" 452 (.int 138 451),kv P "__static_attributes__" 453 (.ref 194),kv P "__doc__" 454 .none] 2 }
noncomputable def o201:Obj:={ cls:=.type "type",data:=.cls { name := "Narrow",bases:=[.ref 135],mro:=[.ref 196,.ref 135,.type "ValueError",.type "Exception",.type "BaseException",.type "object"],ns:=195,qualname := "Narrow" },slots:=#[some (.ref 187),none,some (.str "Narrow" 441),some (.str "Narrow" 449),some (.builtin "ValueError.__new__"),some (.bool true)] }
noncomputable def o202:Obj:={ cls:=.type "super",data:=.fields #[.ref 196,.ref 196,.ref 196] }
noncomputable def o203:Obj:={ cls:=.type "builtin_function_or_method",data:=.fields #[.builtin "object.__init_subclass__",.ref 196] }
def o204:Obj:=tp #[.ref 135]
noncomputable def o205:Obj:={ cls:=.type "builtin_function_or_method",data:=.fields #[.builtin "type.__prepare__",.type "type"] }
def o206 (P:Params):Obj:={ cls:=.type "dict",data:=.dict #[kv P "__module__" 464 (.str "borrowdesk.errors" 348),kv P "__qualname__" 466 (.str "NoEnd" 465),kv P "__firstlineno__" 468 (.int 140 467),kv P "__static_attributes__" 469 (.ref 206)] 4 }
def o209:Obj:={ cls:=.type "code",data:=.fields #[.str "NoEnd" 459,.str "NoEnd" 460,.str "/claim/cut.py" 461,.int 140 0,z0,z0,z0,z0,.ref 202,.bool false,.int 181 0,.ref 203,.none,.none,.none,.none,.int 462 0,.int 140 0,.str "/claim/cut.py" 463] }
noncomputable def o210:Obj:={ cls:=.type "frame",slots:=#[some (.ref 204),some (.ref 3),some (.ref 201),none,some (.str "borrowdesk.errors" 348),none,some (.ref 0)] }
def o212 (P:Params):Obj:={ cls:=.type "dict",data:=.dict #[kv P "__module__" 464 (.str "borrowdesk.errors" 348),kv P "__firstlineno__" 468 (.int 140 467),kv P "__static_attributes__" 469 (.ref 206),kv P "__doc__" 470 .none] 2 }
noncomputable def o213:Obj:={ cls:=.type "type",data:=.cls { name := "NoEnd",bases:=[.ref 135],mro:=[.ref 208,.ref 135,.type "ValueError",.type "Exception",.type "BaseException",.type "object"],ns:=207,qualname := "NoEnd" },slots:=#[some (.ref 199),none,some (.str "NoEnd" 457),some (.str "NoEnd" 465),some (.builtin "ValueError.__new__"),some (.bool true)] }
noncomputable def o214:Obj:={ cls:=.type "super",data:=.fields #[.ref 208,.ref 208,.ref 208] }
noncomputable def o215:Obj:={ cls:=.type "builtin_function_or_method",data:=.fields #[.builtin "object.__init_subclass__",.ref 208] }
def o216 (P:Params):Obj:={ cls:=.type "dict",data:=.dict #[kv P "__name__" 165 (.str "law_uf020040_08" 617),k0 P,k1 P,k2 P,k3 P,k4 P,k5 P,k6 P,k7 P,k8 P,k9 P,k10 P,k11 P,k12 P,k13 P,k14 P,k15 P,k16 P,k17 P,k18 P,k19 P,k20 P,k21 P,k22 P,k23 P,k24 P,k25 P,k26 P,k27 P,k28 P,k29 P,k30 P,k31 P,k32 P,kv P "MOST_THING" 480 (.int 999999999 479),kv P "MOST_THINGS" 482 (.int 5 481),kv P "is_word" 488 (.ref 215),kv P "is_thing" 495 (.ref 222),kv P "is_choice" 501 (.ref 227),kv P "is_lend" 508 (.ref 234),kv P "is_row" 515 (.ref 241),kv P "meaning" 524 (.ref 248),kv P "need_block" 533 (.ref 255),kv P "need_hand" 543 (.ref 262),kv P "need_free" 553 (.ref 269),kv P "block_of" 561 (.ref 276),kv P "checked" 571 (.ref 283),kv P "WORDS" 577 (.ref 284),kv P "standings" 592 (.ref 291),kv P "choices_to" 603 (.ref 298),kv P "looked" 616 (.ref 305),kv P "_law_cell_at" 626 (.ref 312),kv P "_law_word" 640 (.ref 319),kv P "_law_draw" 650 (.ref 326),kv P "_law_thing" 658 (.ref 333),kv P "_law_lend" 671 (.ref 340),kv P "_law_deed" 682 (.ref 347),kv P "_law_row" 688 (.ref 352),kv P "_law_hands" 699 (.ref 359),kv P "_law_first_four" 717 (.ref 366),kv P "_law_gadget" 737 (.ref 373),kv P "_law_sheet" 743 (.ref 378),kv P "_law_drawn" 749 (.ref 383),kv P "_law_homes" 760 (.ref 390),kv P "_law_last" 770 (.ref 397),kv P "_law_starts" 781 (.ref 404),kv P "_law_lent" 793 (.ref 411),kv P "_law_back" 804 (.ref 418),kv P "_law_step" 819 (.ref 425)] 69 }
def o217:Obj:={ cls:=.none,data:=.fields #[.int 3 0,z0,.ref 21,.int 16 0,z0,.ref 28,.int 23 0,z0,.ref 35,.int 30 0,z0,.ref 42,.int 35 0,z0,.ref 49,.int 42 0,z0,.ref 56,.int 52 0,z0,.ref 63,.int 60 0,z0,.ref 70,.int 68 0,z0,.ref 77,.int 87 0,z0,.ref 84,.int 90 0,z0,.ref 89,.int 92 0,z0,.ref 96,.int 98 0,z0,.ref 103,.int 105 0,z0,.ref 110,.int 113 0,z0,.ref 117,.int 126 0,z0,.ref 124,.int 130 0,z0,.ref 144,.int 132 0,z0,.ref 156,.int 134 0,z0,.ref 168,.int 136 0,z0,.ref 180,.int 138 0,z0,.ref 192,.int 140 0,z0,.ref 204,.int 147 0,z0,.ref 214,.int 151 0,z0,.ref 221,.int 153 0,z0,.ref 226,.int 157 0,z0,.ref 233,.int 161 0,z0,.ref 240,.int 173 0,z0,.ref 247,.int 178 0,z0,.ref 254,.int 183 0,z0,.ref 261,.int 189 0,z0,.ref 268,.int 199 0,z0,.ref 275,.int 205 0,z0,.ref 282,.int 223 0,z0,.ref 290,.int 241 0,z0,.ref 297,.int 250 0,z0,.ref 304,.int 264 0,z0,.ref 311,.int 268 0,z0,.ref 318,.int 282 0,z0,.ref 325,.int 287 0,z0,.ref 332,.int 291 0,z0,.ref 339,.int 300 0,z0,.ref 346,.int 306 0,z0,.ref 351,.int 323 0,z0,.ref 358,.int 326 0,z0,.ref 365,.int 343 0,z0,.ref 372,.int 369 0,z0,.ref 377,.int 385 0,z0,.ref 382,.int 397 0,z0,.ref 389,.int 407 0,z0,.ref 396,.int 412 0,z0,.ref 403,.int 418 0,z0,.ref 410,.int 429 0,z0,.ref 417,.int 438 0,z0,.ref 424] }
def o220:Obj:=fn0 "is_word" 32
def o221:Obj:={ cls:=.type "code",data:=.fields #[.str "is_word" 483,.str "is_word" 484,.str "/claim/cut.py" 485,.int 147 0,.int 1 0,z0,z0,.int 3 0,.ref 211,.bool true,.int 181 0,.ref 212,.none,.none,.none,.ref 213,.int 486 0,.int 147 0,.str "/claim/cut.py" 487] }
def o222:Obj:=fn1 "is_word" 32 "borrowdesk.forms" 473 214
def o225:Obj:=tp #[.str "thing" 492]
def o227:Obj:=fn0 "is_thing" 33
def o228:Obj:=cd "is_thing" 489 490 491 151 (.int 1 0) 216 217 218 219 220 493 494
def o229:Obj:=fn1 "is_thing" 33 "borrowdesk.forms" 473 221
def o232:Obj:=fn0 "is_choice" 34
def o233:Obj:={ cls:=.type "code",data:=.fields #[.str "is_choice" 496,.str "is_choice" 497,.str "/claim/cut.py" 498,.int 153 0,.int 1 0,z0,z0,.int 3 0,.ref 223,.bool true,.int 181 0,.ref 224,.none,.none,.none,.ref 225,.int 499 0,.int 153 0,.str "/claim/cut.py" 500] }
def o234:Obj:=fn1 "is_choice" 34 "borrowdesk.forms" 473 226
def o237:Obj:=tp #[.str "row" 505]
def o239:Obj:=fn0 "is_lend" 35
def o240:Obj:=cd "is_lend" 502 503 504 157 (.int 1 0) 228 229 230 231 232 506 507
def o241:Obj:=fn1 "is_lend" 35 "borrowdesk.forms" 473 233
def o244:Obj:=tp #[.str "row" 512]
def o246:Obj:=fn0 "is_row" 36
def o247:Obj:=cd "is_row" 509 510 511 161 (.int 1 0) 235 236 237 238 239 513 514
def o248:Obj:=fn1 "is_row" 36 "borrowdesk.forms" 473 240
def o251:Obj:=tp #[.str "stack" 519,.str "word" 520,.str "block" 521]
def o253:Obj:=fn0 "meaning" 37
def o254:Obj:=cd "meaning" 516 517 518 173 (.int 2 0) 242 243 244 245 246 522 523
def o255:Obj:=fn1 "meaning" 37 "borrowdesk.forms" 473 247
def o258:Obj:=tp #[.str "stack" 528,.str "at" 529,.str "row" 530]
def o260:Obj:=fn0 "need_block" 38
def o261:Obj:=cd "need_block" 525 526 527 178 (.int 3 0) 249 250 251 252 253 531 532
def o262:Obj:=fn1 "need_block" 38 "borrowdesk.forms" 473 254
def o265:Obj:=tp #[.str "stack" 537,.str "at" 538,.str "row" 539,.str "kind" 540]
def o267:Obj:=fn0 "need_hand" 39
def o268:Obj:=cd "need_hand" 534 535 536 183 (.int 3 0) 256 257 258 259 260 541 542
def o269:Obj:=fn1 "need_hand" 39 "borrowdesk.forms" 473 261
def o272:Obj:=tp #[.str "stack" 547,.str "at" 548,.str "row" 549,.str "source" 550]
def o274:Obj:=fn0 "need_free" 40
def o275:Obj:=cd "need_free" 544 545 546 189 (.int 3 0) 263 264 265 266 267 551 552
def o276:Obj:=fn1 "need_free" 40 "borrowdesk.forms" 473 268
def o279:Obj:=tp #[.str "at" 557,.str "row" 558]
def o281:Obj:=fn0 "block_of" 41
def o282:Obj:=cd "block_of" 554 555 556 199 (.int 2 0) 270 271 272 273 274 559 560
def o283:Obj:=fn1 "block_of" 41 "borrowdesk.forms" 473 275
def o286:Obj:=tp #[.str "rows" 565,.str "stack" 566,.str "at" 567,.str "row" 568]
def o288:Obj:=fn0 "checked" 42
def o289:Obj:=cd "checked" 562 563 564 205 (.int 1 0) 277 278 279 280 281 569 570
def o290:Obj:=fn1 "checked" 42 "borrowdesk.forms" 473 282
def o291:Obj:=tp #[.str "beside" 574,.str "empty" 575,.str "asleep" 576]
def o294:Obj:=tp #[.str "rows" 581,.str "home" 582,.str "last" 583,.str "found" 584,.str "seen" 585,.str "k" 586,.str "standing" 587,.str "choice" 588,.str "following" 589]
def o296:Obj:=fn0 "standings" 45
def o297:Obj:=cd "standings" 578 579 580 223 (.int 1 0) 285 286 287 288 289 590 591
def o298:Obj:=fn1 "standings" 45 "borrowdesk.looking" 572 290
def o301:Obj:=tp #[.str "rows" 596,.str "found" 597,.str "k" 598,.str "choices" 599,.str "ahead" 600]
def o303:Obj:=fn0 "choices_to" 46
def o304:Obj:=cd "choices_to" 593 594 595 241 (.int 3 0) 292 293 294 295 296 601 602
def o305:Obj:=fn1 "choices_to" 46 "borrowdesk.looking" 572 297
def o308:Obj:=tp #[.str "rows" 607,.str "found" 608,.str "best" 609,.str "k" 610,.str "part" 611,.str "word" 612,.str "rank" 613]
def o310:Obj:=fn0 "looked" 47
def o311:Obj:=cd "looked" 604 605 606 250 (.int 1 0) 299 300 301 302 303 614 615
def o312:Obj:=fn1 "looked" 47 "borrowdesk.looking" 572 304
def o315:Obj:=tp #[.str "_law_script" 622,.str "_law_k" 623]
def o317:Obj:=fn0 "_law_cell_at" 49
def o318:Obj:=cd "_law_cell_at" 619 620 621 264 (.int 2 0) 306 307 308 309 310 624 625
def o319:Obj:=fn1 "_law_cell_at" 49 "law_uf020040_08" 617 311
def o322:Obj:=tp #[.str "_law_one" 630,.str "_law_two" 631,.str "_law_deep" 632,.str "_law_draw_here" 633,.str "_law_letters" 634,.str "_law_sign" 635,.str "_law_found" 636,.str "_law_k" 637]
def o324:Obj:=fn0 "_law_word" 50
def o325:Obj:=cd "_law_word" 627 628 629 268 (.int 4 0) 313 314 315 316 317 638 639
def o326:Obj:=fn1 "_law_word" 50 "law_uf020040_08" 617 318
def o329:Obj:=tp #[.str "_law_script" 644,.str "_law_base" 645,.str "_law_style" 646,.str "_law_size" 647]
def o331:Obj:=fn0 "_law_draw" 51
def o332:Obj:=cd "_law_draw" 641 642 643 282 (.int 1 0) 320 321 322 323 324 648 649
def o333:Obj:=fn1 "_law_draw" 51 "law_uf020040_08" 617 325
def o336:Obj:=tp #[.str "_law_cell" 654,.str "_law_base" 655]
def o338:Obj:=fn0 "_law_thing" 52
def o339:Obj:=cd "_law_thing" 651 652 653 287 (.int 2 0) 327 328 329 330 331 656 657
def o340:Obj:=fn1 "_law_thing" 52 "law_uf020040_08" 617 332
def o343:Obj:=tp #[.str "_law_one" 662,.str "_law_two" 663,.str "_law_named" 664,.str "_law_draw_here" 665,.str "_law_kind" 666,.str "_law_source" 667,.str "_law_holder" 668]
def o345:Obj:=fn0 "_law_lend" 53
def o346:Obj:=cd "_law_lend" 659 660 661 291 (.int 4 0) 334 335 336 337 338 669 670
def o347:Obj:=fn1 "_law_lend" 53 "law_uf020040_08" 617 339
def o350:Obj:=tp #[.str "_law_one" 675,.str "_law_two" 676,.str "_law_hands_here" 677,.str "_law_hand" 678,.str "_law_word_here" 679]
def o352:Obj:=fn0 "_law_deed" 54
def o353:Obj:=cd "_law_deed" 672 673 674 300 (.int 3 0) 341 342 343 344 345 680 681
def o354:Obj:=fn1 "_law_deed" 54 "law_uf020040_08" 617 346
def o357:Obj:=fn0 "_law_row" 55
def o358:Obj:={ cls:=.type "code",data:=.fields #[.str "_law_row" 683,.str "_law_row" 684,.str "/claim/cut.py" 685,.int 306 0,.int 5 0,z0,z0,.int 3 0,.ref 348,.bool true,.int 181 0,.ref 349,.none,.none,.none,.ref 350,.int 686 0,.int 306 0,.str "/claim/cut.py" 687] }
def o359:Obj:=fn1 "_law_row" 55 "law_uf020040_08" 617 351
def o362:Obj:=tp #[.str "_law_one" 692,.str "_law_two" 693,.str "_law_deep" 694,.str "_law_draw_here" 695,.str "_law_found" 696]
def o364:Obj:=fn0 "_law_hands" 56
def o365:Obj:=cd "_law_hands" 689 690 691 323 (.int 4 0) 353 354 355 356 357 697 698
def o366:Obj:=fn1 "_law_hands" 56 "law_uf020040_08" 617 358
def o369:Obj:=tp #[.str "_law_way" 703,.str "_law_one" 704,.str "_law_two" 705,.str "_law_names" 706,.str "_law_thing_here" 707,.str "_law_a" 708,.str "_law_b" 709,.str "_law_c" 710,.str "_law_kind" 711,.str "_law_end" 712,.str "_law_rows" 713,.str "_law_first" 714]
def o371:Obj:=fn0 "_law_first_four" 57
def o372:Obj:=cd "_law_first_four" 700 701 702 326 (.int 5 0) 360 361 362 363 364 715 716
def o373:Obj:=fn1 "_law_first_four" 57 "law_uf020040_08" 617 365
def o376:Obj:=tp #[.str "_law_one" 721,.str "_law_two" 722,.str "_law_deep" 723,.str "_law_draw_here" 724,.str "_law_names" 725,.str "_law_a" 726,.str "_law_b" 727,.str "_law_thing_here" 728,.str "_law_far" 729,.str "_law_last_here" 730,.str "_law_kind" 731,.str "_law_end" 732,.str "_law_way" 733,.str "_law_rows" 734]
def o378:Obj:=fn0 "_law_gadget" 58
def o379:Obj:=cd "_law_gadget" 718 719 720 343 (.int 4 0) 367 368 369 370 371 735 736
def o380:Obj:=fn1 "_law_gadget" 58 "law_uf020040_08" 617 372
def o383:Obj:=fn0 "_law_sheet" 59
def o384:Obj:={ cls:=.type "code",data:=.fields #[.str "_law_sheet" 738,.str "_law_sheet" 739,.str "/claim/cut.py" 740,.int 369 0,.int 4 0,z0,z0,.int 3 0,.ref 374,.bool true,.int 181 0,.ref 375,.none,.none,.none,.ref 376,.int 741 0,.int 369 0,.str "/claim/cut.py" 742] }
def o385:Obj:=fn1 "_law_sheet" 59 "law_uf020040_08" 617 377
def o388:Obj:=fn0 "_law_drawn" 60
def o389:Obj:={ cls:=.type "code",data:=.fields #[.str "_law_drawn" 744,.str "_law_drawn" 745,.str "/claim/cut.py" 746,.int 385 0,.int 2 0,z0,z0,.int 3 0,.ref 379,.bool true,.int 181 0,.ref 380,.none,.none,.none,.ref 381,.int 747 0,.int 385 0,.str "/claim/cut.py" 748] }
def o390:Obj:=fn1 "_law_drawn" 60 "law_uf020040_08" 617 382
def o393:Obj:=tp #[.str "_law_rows" 753,.str "_law_found" 754,.str "_law_opened" 755,.str "_law_at" 756,.str "_law_row_here" 757]
def o395:Obj:=fn0 "_law_homes" 61
def o396:Obj:=cd "_law_homes" 750 751 752 397 (.int 1 0) 384 385 386 387 388 758 759
def o397:Obj:=fn1 "_law_homes" 61 "law_uf020040_08" 617 389
def o400:Obj:=tp #[.str "_law_rows" 764,.str "_law_home" 765,.str "_law_at" 766,.str "_law_place" 767]
def o402:Obj:=fn0 "_law_last" 62
def o403:Obj:=cd "_law_last" 761 762 763 407 (.int 3 0) 391 392 393 394 395 768 769
def o404:Obj:=fn1 "_law_last" 62 "law_uf020040_08" 617 396
def o407:Obj:=tp #[.str "_law_rows" 774,.str "_law_home" 775,.str "_law_at" 776,.str "_law_found" 777,.str "_law_place" 778]
def o409:Obj:=fn0 "_law_starts" 63
def o410:Obj:=cd "_law_starts" 771 772 773 412 (.int 3 0) 398 399 400 401 402 779 780
def o411:Obj:=fn1 "_law_starts" 63 "law_uf020040_08" 617 403
def o414:Obj:=tp #[.str "_law_held" 785,.str "_law_row_here" 786,.str "_law_thing_here" 787,.str "_law_source" 788,.str "_law_out" 789,.str "_law_one" 790]
def o416:Obj:=fn0 "_law_lent" 64
def o417:Obj:=cd "_law_lent" 782 783 784 418 (.int 2 0) 405 406 407 408 409 791 792
def o418:Obj:=fn1 "_law_lent" 64 "law_uf020040_08" 617 410
def o421:Obj:=tp #[.str "_law_held" 797,.str "_law_word_here" 798,.str "_law_gone" 799,.str "_law_found" 800,.str "_law_one" 801]
def o423:Obj:=fn0 "_law_back" 65
def o424:Obj:=cd "_law_back" 794 795 796 429 (.int 2 0) 412 413 414 415 416 802 803
def o425:Obj:=fn1 "_law_back" 65 "law_uf020040_08" 617 417
def o428:Obj:=tp #[.str "_law_rows" 808,.str "_law_home" 809,.str "_law_standing" 810,.str "_law_choice" 811,.str "_law_at" 812,.str "_law_held" 813,.str "_law_word_here" 814,.str "_law_things" 815,.str "_law_starts_here" 816]
def o430:Obj:=fn0 "_law_step" 66
def o431:Obj:=cd "_law_step" 805 806 807 438 (.int 4 0) 419 420 421 422 423 817 818
def o432:Obj:=fn1 "_law_step" 66 "law_uf020040_08" 617 424
def o433 (P:Params):Obj:={ cls:=.type "dict",data:=.dict #[kv P "__name__" 165 (.str "law_uf020040_08" 617),k0 P,k1 P,k2 P,k3 P,k4 P,k5 P,k6 P,k7 P,k8 P,k9 P,k10 P,k11 P,k12 P,k13 P,k14 P,k15 P,k16 P,k17 P,k18 P,k19 P,k20 P,k21 P,k22 P,k23 P,k24 P,k25 P,k26 P,k27 P,k28 P,k29 P,k30 P,k31 P,k32 P,kv P "MOST_THING" 480 (.int 999999999 479),kv P "MOST_THINGS" 482 (.int 5 481),kv P "is_word" 488 (.ref 215),kv P "is_thing" 495 (.ref 222),kv P "is_choice" 501 (.ref 227),kv P "is_lend" 508 (.ref 234),kv P "is_row" 515 (.ref 241),kv P "meaning" 524 (.ref 248),kv P "need_block" 533 (.ref 255),kv P "need_hand" 543 (.ref 262),kv P "need_free" 553 (.ref 269),kv P "block_of" 561 (.ref 276),kv P "checked" 571 (.ref 283),kv P "WORDS" 577 (.ref 284),kv P "standings" 592 (.ref 291),kv P "choices_to" 603 (.ref 298),kv P "looked" 616 (.ref 305),kv P "_law_cell_at" 626 (.ref 312),kv P "_law_word" 640 (.ref 319),kv P "_law_draw" 650 (.ref 326),kv P "_law_thing" 658 (.ref 333),kv P "_law_lend" 671 (.ref 340),kv P "_law_deed" 682 (.ref 347),kv P "_law_row" 688 (.ref 352),kv P "_law_hands" 699 (.ref 359),kv P "_law_first_four" 717 (.ref 366),kv P "_law_gadget" 737 (.ref 373),kv P "_law_sheet" 743 (.ref 378),kv P "_law_drawn" 749 (.ref 383),kv P "_law_homes" 760 (.ref 390),kv P "_law_last" 770 (.ref 397),kv P "_law_starts" 781 (.ref 404),kv P "_law_lent" 793 (.ref 411),kv P "_law_back" 804 (.ref 418),kv P "_law_step" 819 (.ref 425),kv P "_law_run" 832 (.ref 432),kv P "_law_awake" 838 (.ref 437),kv P "_law_fault" 844 (.ref 442),kv P "_law_whole" 851 (.ref 449),kv P "_law_told" 857 (.ref 454),kv P "_law_long" 867 (.ref 461),kv P "_law_some_ways" 876 (.ref 468),kv P "_law_few" 891 (.ref 475),kv P "law" 901 (.ref 482)] 78 }
def o434:Obj:={ cls:=.none,data:=.fields #[.int 3 0,z0,.ref 21,.int 16 0,z0,.ref 28,.int 23 0,z0,.ref 35,.int 30 0,z0,.ref 42,.int 35 0,z0,.ref 49,.int 42 0,z0,.ref 56,.int 52 0,z0,.ref 63,.int 60 0,z0,.ref 70,.int 68 0,z0,.ref 77,.int 87 0,z0,.ref 84,.int 90 0,z0,.ref 89,.int 92 0,z0,.ref 96,.int 98 0,z0,.ref 103,.int 105 0,z0,.ref 110,.int 113 0,z0,.ref 117,.int 126 0,z0,.ref 124,.int 130 0,z0,.ref 144,.int 132 0,z0,.ref 156,.int 134 0,z0,.ref 168,.int 136 0,z0,.ref 180,.int 138 0,z0,.ref 192,.int 140 0,z0,.ref 204,.int 147 0,z0,.ref 214,.int 151 0,z0,.ref 221,.int 153 0,z0,.ref 226,.int 157 0,z0,.ref 233,.int 161 0,z0,.ref 240,.int 173 0,z0,.ref 247,.int 178 0,z0,.ref 254,.int 183 0,z0,.ref 261,.int 189 0,z0,.ref 268,.int 199 0,z0,.ref 275,.int 205 0,z0,.ref 282,.int 223 0,z0,.ref 290,.int 241 0,z0,.ref 297,.int 250 0,z0,.ref 304,.int 264 0,z0,.ref 311,.int 268 0,z0,.ref 318,.int 282 0,z0,.ref 325,.int 287 0,z0,.ref 332,.int 291 0,z0,.ref 339,.int 300 0,z0,.ref 346,.int 306 0,z0,.ref 351,.int 323 0,z0,.ref 358,.int 326 0,z0,.ref 365,.int 343 0,z0,.ref 372,.int 369 0,z0,.ref 377,.int 385 0,z0,.ref 382,.int 397 0,z0,.ref 389,.int 407 0,z0,.ref 396,.int 412 0,z0,.ref 403,.int 418 0,z0,.ref 410,.int 429 0,z0,.ref 417,.int 438 0,z0,.ref 424,.int 461 0,z0,.ref 431,.int 475 0,z0,.ref 436,.int 479 0,z0,.ref 441,.int 496 0,z0,.ref 448,.int 498 0,z0,.ref 453,.int 504 0,z0,.ref 460,.int 511 0,z0,.ref 467,.int 517 0,z0,.ref 474,.int 533 0,z0,.ref 481] }
def o437:Obj:=tp #[.str "_law_rows" 823,.str "_law_choices" 824,.str "_law_home" 825,.str "_law_found" 826,.str "_law_standing" 827,.str "_law_taken" 828,.str "_law_choice" 829]
def o439:Obj:=fn0 "_law_run" 67
def o440:Obj:=cd "_law_run" 820 821 822 461 (.int 2 0) 426 427 428 429 430 830 831
def o441:Obj:=fn1 "_law_run" 67 "law_uf020040_08" 617 431
def o444:Obj:=fn0 "_law_awake" 68
def o445:Obj:={ cls:=.type "code",data:=.fields #[.str "_law_awake" 833,.str "_law_awake" 834,.str "/claim/cut.py" 835,.int 475 0,.int 1 0,z0,z0,.int 3 0,.ref 433,.bool true,.int 181 0,.ref 434,.none,.none,.none,.ref 435,.int 836 0,.int 475 0,.str "/claim/cut.py" 837] }
def o446:Obj:=fn1 "_law_awake" 68 "law_uf020040_08" 617 436
def o449:Obj:=fn0 "_law_fault" 69
def o450:Obj:={ cls:=.type "code",data:=.fields #[.str "_law_fault" 839,.str "_law_fault" 840,.str "/claim/cut.py" 841,.int 479 0,.int 2 0,z0,z0,.int 3 0,.ref 438,.bool true,.int 181 0,.ref 439,.none,.none,.none,.ref 440,.int 842 0,.int 479 0,.str "/claim/cut.py" 843] }
def o451:Obj:=fn1 "_law_fault" 69 "law_uf020040_08" 617 441
def o454:Obj:=tp #[.str "_law_found" 848]
def o456:Obj:=fn0 "_law_whole" 70
def o457:Obj:=cd "_law_whole" 845 846 847 496 (.int 1 0) 443 444 445 446 447 849 850
def o458:Obj:=fn1 "_law_whole" 70 "law_uf020040_08" 617 448
def o461:Obj:=fn0 "_law_told" 71
def o462:Obj:={ cls:=.type "code",data:=.fields #[.str "_law_told" 852,.str "_law_told" 853,.str "/claim/cut.py" 854,.int 498 0,.int 1 0,z0,z0,.int 3 0,.ref 450,.bool true,.int 181 0,.ref 451,.none,.none,.none,.ref 452,.int 855 0,.int 498 0,.str "/claim/cut.py" 856] }
def o463:Obj:=fn1 "_law_told" 71 "law_uf020040_08" 617 453
def o466:Obj:=tp #[.str "_law_script" 861,.str "_law_rows" 862,.str "_law_some" 863,.str "_law_k" 864]
def o468:Obj:=fn0 "_law_long" 72
def o469:Obj:=cd "_law_long" 858 859 860 504 (.int 2 0) 455 456 457 458 459 865 866
def o470:Obj:=fn1 "_law_long" 72 "law_uf020040_08" 617 460
def o473:Obj:=tp #[.str "_law_rows" 871,.str "_law_home" 872,.str "_law_at" 873]
def o475:Obj:=fn0 "_law_some_ways" 73
def o476:Obj:=cd "_law_some_ways" 868 869 870 511 (.int 3 0) 462 463 464 465 466 874 875
def o477:Obj:=fn1 "_law_some_ways" 73 "law_uf020040_08" 617 467
def o480:Obj:=tp #[.str "_law_rows" 880,.str "_law_most" 881,.str "_law_home" 882,.str "_law_queue" 883,.str "_law_seen" 884,.str "_law_place" 885,.str "_law_standing" 886,.str "_law_choice" 887,.str "_law_other" 888]
def o482:Obj:=fn0 "_law_few" 74
def o483:Obj:=cd "_law_few" 877 878 879 517 (.int 2 0) 469 470 471 472 473 889 890
def o484:Obj:=fn1 "_law_few" 74 "law_uf020040_08" 617 474
def o487:Obj:=tp #[.str "_law_script" 895,.str "_law_rows" 896,.str "_law_told_here" 897,.str "_law_standing" 898]
def o489:Obj:=fn0 "law" 75
def o490:Obj:=cd "law" 892 893 894 533 (.int 1 0) 476 477 478 479 480 899 900
def o491:Obj:=fn1 "law" 75 "law_uf020040_08" 617 481
noncomputable def envH:Env:={ scope:=pq.main.scope,locals:=mainNs,globals:=mainNs,cells:=[],code:=.ref 13,frame:=some 14 }
noncomputable abbrev cE:Code:=.body (behindTheImports pq) envH
noncomputable abbrev bF:List Frame:=[topFrame ⟨0,0,0,0⟩]
noncomputable abbrev anH:Option Value:=some (.ref 6)
noncomputable def hA (P:Params):Heap:=⟨⟨[(boot_o_0 P),(boot_o_1 P),(boot_o_2 P),(o3 P),(boot_o_4 P),(boot_o_5 P),(boot_o_6 P),(boot_o_7 P),(boot_o_8 P),(boot_o_9 P),(boot_o_10 P),zT,zF,o13,o14]⟩,{}⟩
noncomputable def hF (P:Params):Heap:=⟨⟨[(boot_o_0 P),(boot_o_1 P),(boot_o_2 P),(o433 P),(boot_o_4 P),(boot_o_5 P),(boot_o_6 P),(boot_o_7 P),(boot_o_8 P),(boot_o_9 P),(boot_o_10 P),zT,o434,o13,o14,o17,zT,zF,o20,zT,o22,o23,o24,zT,zF,o27,zT,o29,o30,o31,zT,zF,o34,zT,o36,o37,o38,zT,zF,o41,zT,o43,o44,o45,zT,zF,o48,zT,o50,o51,o52,zT,zF,o55,zT,o57,o58,o59,zT,zF,o62,zT,o64,o65,o66,zT,zF,o69,zT,o71,o72,o73,zT,zF,o76,zT,o78,o79,o80,zT,zF,o83,zT,o85,o86,o87,zT,zF,o90,o91,o92,zT,zF,o95,zT,o97,o98,o99,zT,zF,o102,zT,o104,o105,o106,zT,zF,o109,zT,o111,o112,o113,zT,zF,o116,zT,o118,o119,o120,o121,o122,(o123 P),zT,o125,o126,o127,zT,zF,o130,zT,o132,o133,o134,o135,(o136 P),o155,o138,o139,o140,o141,o142,(o143 P),zT,zF,o146,o147,zT,(o149 P),o150,o151,o152,o156,o157,(o158 P),zT,zF,o161,o162,zT,(o164 P),o165,o166,o167,o168,o169,(o170 P),zT,zF,o173,o174,zT,(o176 P),o177,o178,o179,o180,o181,(o182 P),zT,zF,o185,o186,zT,(o188 P),o189,o190,o191,o192,o193,(o194 P),zT,zF,o197,o198,zT,(o200 P),o201,o202,o203,o204,o205,(o206 P),zT,zF,o209,o210,zT,(o212 P),o213,o214,o215,zT,zF,o220,o221,o222,zT,zF,o225,zT,o227,o228,o229,zT,zF,o232,o233,o234,zT,zF,o237,zT,o239,o240,o241,zT,zF,o244,zT,o246,o247,o248,zT,zF,o251,zT,o253,o254,o255,zT,zF,o258,zT,o260,o261,o262,zT,zF,o265,zT,o267,o268,o269,zT,zF,o272,zT,o274,o275,o276,zT,zF,o279,zT,o281,o282,o283,zT,zF,o286,zT,o288,o289,o290,o291,zT,zF,o294,zT,o296,o297,o298,zT,zF,o301,zT,o303,o304,o305,zT,zF,o308,zT,o310,o311,o312,zT,zF,o315,zT,o317,o318,o319,zT,zF,o322,zT,o324,o325,o326,zT,zF,o329,zT,o331,o332,o333,zT,zF,o336,zT,o338,o339,o340,zT,zF,o343,zT,o345,o346,o347,zT,zF,o350,zT,o352,o353,o354,zT,zF,o357,o358,o359,zT,zF,o362,zT,o364,o365,o366,zT,zF,o369,zT,o371,o372,o373,zT,zF,o376,zT,o378,o379,o380,zT,zF,o383,o384,o385,zT,zF,o388,o389,o390,zT,zF,o393,zT,o395,o396,o397,zT,zF,o400,zT,o402,o403,o404,zT,zF,o407,zT,o409,o410,o411,zT,zF,o414,zT,o416,o417,o418,zT,zF,o421,zT,o423,o424,o425,zT,zF,o428,zT,o430,o431,o432,zT,zF,o437,zT,o439,o440,o441,zT,zF,o444,o445,o446,zT,zF,o449,o450,o451,zT,zF,o454,zT,o456,o457,o458,zT,zF,o461,o462,o463,zT,zF,o466,zT,o468,o469,o470,zT,zF,o473,zT,o475,o476,o477,zT,zF,o480,zT,o482,o483,o484,zT,zF,o487,zT,o489,o490,o491]⟩,{}⟩
noncomputable def st0 (os:OsState) (h:Heap) (t:Nat):Shared:=⟨h,⟨[]⟩,{},t,os⟩
def tr0 (P:Params):BT:=(Y (boot_o_0 P) (Y (boot_o_1 P) (Y (o3 P) (lT (boot_o_7 P)) (lT zT)) (Y (boot_o_5 P) (lT (boot_o_9 P)) (lT o13))) (Y (boot_o_2 P) (Y (boot_o_4 P) (lT (boot_o_8 P)) (lT zF)) (Y (boot_o_6 P) (lT (boot_o_10 P)) (lT o14))))
noncomputable def sT0 (w:World) (os:OsState):SharedT:=⟨tr0 w.params,15,{},⟨[]⟩,{},187,os⟩
def tr1 (P:Params):BT:=(Y (boot_o_0 P) (Y (boot_o_1 P) (Y (o15 P) (Y (boot_o_7 P) (Y o17 (Y zF (Y o65 (lT zF) .nil) (lT o97)) (Y zT (Y zT (lT zF) .nil) (lT o113))) (Y zT (Y o41 (Y o73 (lT o137) .nil) (lT o105)) (Y o57 (lT zF) (lT o121)))) (Y zT (Y zT (Y o37 (Y o69 (lT o133) .nil) (lT zF)) (Y zT (Y o85 (lT (o149 P)) .nil) (lT zT))) (Y o29 (Y o45 (Y zT (lT o141) .nil) (lT o109)) (Y zF (lT zT) (lT o125))))) (Y (boot_o_5 P) (Y (boot_o_9 P) (Y zF (Y zT (Y zT (lT zT) .nil) (lT o99)) (Y o51 (Y o83 (lT o147) .nil) (lT zF))) (Y o27 (Y o43 (Y zF (lT o139) .nil) (lT zT)) (Y o59 (lT o91) (lT (o123 P))))) (Y o13 (Y o23 (Y zT (Y o71 (lT o135) .nil) (lT zT)) (Y o55 (Y o87 (lT o151) .nil) (lT o119))) (Y o31 (Y zF (Y o79 (lT (o143 P)) .nil) (lT o111)) (Y zT (lT o95) (lT o127)))))) (Y (boot_o_2 P) (Y (boot_o_4 P) (Y (boot_o_8 P) (Y zT (Y o34 (Y o66 (lT o130) .nil) (lT o98)) (Y o50 (Y zF (lT o146) .nil) (lT zT))) (Y zF (Y zT (Y zT (lT o138) .nil) (lT o106)) (Y o58 (lT o90) (lT o122)))) (Y o16 (Y o22 (Y o38 (Y zT (lT o134) .nil) (lT o102)) (Y zF (Y o86 (lT o150) .nil) (lT o118))) (Y o30 (Y zT (Y o78 (lT o142) .nil) (lT zT)) (Y o62 (lT zF) (lT o126))))) (Y (boot_o_6 P) (Y (boot_o_10 P) (Y o20 (Y o36 (Y zF (lT o132) .nil) (lT zT)) (Y o52 (Y zT (lT zT) .nil) (lT o116))) (Y zT (Y o44 (Y o76 (lT o140) .nil) (lT zF)) (Y zT (lT o92) (lT zT)))) (Y o14 (Y o24 (Y zF (Y o72 (lT (o136 P)) .nil) (lT o104)) (Y zT (Y zT (lT o152) .nil) (lT o120))) (Y zT (Y o48 (Y o80 (lT zT) .nil) (lT o112)) (Y o64 (lT zT) (lT zT)))))))
noncomputable def sT1 (w:World) (os:OsState):SharedT:=⟨tr1 w.params,151,{},⟨[]⟩,{},393,os⟩
def tr2 (P:Params):BT:=(Y (boot_o_0 P) (Y (boot_o_1 P) (Y (o153 P) (Y (boot_o_7 P) (Y o17 (Y zF (Y o65 (lT zF) (lT zF)) (Y o97 (lT (o164 P)) .nil)) (Y zT (Y zT (lT zF) (lT (o212 P))) (Y o113 (lT o180) .nil))) (Y zT (Y o41 (Y o73 (lT o155) (lT o204)) (Y o105 (lT zF) .nil)) (Y o57 (Y zF (lT o156) .nil) (Y o121 (lT (o188 P)) .nil)))) (Y zT (Y zT (Y o37 (Y o69 (lT o133) (lT (o200 P))) (Y zF (lT o168) .nil)) (Y zT (Y o85 (lT (o149 P)) .nil) (Y zT (lT zF) .nil))) (Y o29 (Y o45 (Y zT (lT o141) (lT zF)) (Y o109 (lT (o176 P)) .nil)) (Y zF (Y zT (lT zF) .nil) (Y o125 (lT o192) .nil))))) (Y (boot_o_5 P) (Y (boot_o_9 P) (Y zF (Y zT (Y zT (lT zT) (lT o198)) (Y o99 (lT o166) .nil)) (Y o51 (Y o83 (lT o147) (lT o214)) (Y zF (lT (o182 P)) .nil))) (Y o27 (Y o43 (Y zF (lT o139) (lT (o206 P))) (Y zT (lT o174) .nil)) (Y o59 (Y o91 (lT (o158 P)) .nil) (Y (o123 P) (lT o190) .nil)))) (Y o13 (Y o23 (Y zT (Y o71 (lT o135) (lT o202)) (Y zT (lT (o170 P)) .nil)) (Y o55 (Y o87 (lT o151) .nil) (Y o119 (lT o186) .nil))) (Y o31 (Y zF (Y o79 (lT (o143 P)) (lT o210)) (Y o111 (lT o178) .nil)) (Y zT (Y o95 (lT o162) .nil) (Y o127 (lT (o194 P)) .nil)))))) (Y (boot_o_2 P) (Y (boot_o_4 P) (Y (boot_o_8 P) (Y zT (Y o34 (Y o66 (lT o130) (lT o197)) (Y o98 (lT o165) .nil)) (Y o50 (Y zF (lT o146) (lT o213)) (Y zT (lT o181) .nil))) (Y zF (Y zT (Y zT (lT o138) (lT o205)) (Y o106 (lT o173) .nil)) (Y o58 (Y o90 (lT o157) .nil) (Y o122 (lT o189) .nil)))) (Y o154 (Y o22 (Y o38 (Y zT (lT o134) (lT o201)) (Y o102 (lT o169) .nil)) (Y zF (Y o86 (lT o150) .nil) (Y o118 (lT o185) .nil))) (Y o30 (Y zT (Y o78 (lT o142) (lT o209)) (Y zT (lT o177) .nil)) (Y o62 (Y zF (lT o161) .nil) (Y o126 (lT o193) .nil))))) (Y (boot_o_6 P) (Y (boot_o_10 P) (Y o20 (Y o36 (Y zF (lT o132) (lT zT)) (Y zT (lT o167) .nil)) (Y o52 (Y zT (lT zT) (lT o215)) (Y o116 (lT zT) .nil))) (Y zT (Y o44 (Y o76 (lT o140) (lT zT)) (Y zF (lT zT) .nil)) (Y zT (Y o92 (lT zT) .nil) (Y zT (lT o191) .nil)))) (Y o14 (Y o24 (Y zF (Y o72 (lT (o136 P)) (lT o203)) (Y o104 (lT zT) .nil)) (Y zT (Y zT (lT o152) .nil) (Y o120 (lT zT) .nil))) (Y zT (Y o48 (Y o80 (lT zT) (lT zT)) (Y o112 (lT o179) .nil)) (Y o64 (Y zT (lT zT) .nil) (Y zT (lT zT) .nil)))))))
noncomputable def sT2 (w:World) (os:OsState):SharedT:=⟨tr2 w.params,211,{},⟨[]⟩,{},479,os⟩
def u0:BT:=Y o105 (Y zF (lT zT) (lT o430)) (Y zT (lT o366) .nil)
def u1:BT:=Y zF (Y o168 (lT o298) (lT zT)) (Y o234 (lT o362) .nil)
def u2:BT:=Y zT (Y o174 (lT o304) (lT o432)) (Y o240 (lT zF) .nil)
def u3 (P:Params):BT:=Y zT (Y (o170 P) (lT zF) (lT o428)) (Y zF (lT o364) .nil)
def u4:BT:=Y o106 (Y o173 (lT o303) (lT o431)) (Y o239 (lT zT) .nil)
def u5:BT:=Y o102 (Y o169 (lT zT) (lT zF)) (Y zT (lT zT) .nil)
def u6:BT:=Y o104 (Y zT (lT o301) (lT zT)) (Y o237 (lT o365) .nil)
def tr3 (P:Params):BT:=(Y (boot_o_0 P) (Y (boot_o_1 P) (Y (o216 P) (Y (boot_o_7 P) (Y o17 (Y zF (Y o65 (Y zF (lT o262) (lT o390)) (Y zF (lT o326) .nil)) (Y o97 (Y (o164 P) (lT o294) (lT zT)) (Y zT (lT o358) .nil))) (Y zT (Y zT (Y zF (lT zF) (lT zF)) (Y (o212 P) (lT zF) .nil)) (Y o113 (Y o180 (lT o310) .nil) (Y o246 (lT zT) .nil)))) (Y zT (Y o41 (Y o73 (Y o155 (lT zT) (lT zT)) (Y o204 (lT zT) .nil)) u0) (Y o57 (Y zF (Y o156 (lT o286) (lT o414)) (Y o222 (lT o350) .nil)) (Y o121 (Y (o188 P) (lT o318) .nil) (Y o254 (lT zF) .nil))))) (Y zT (Y zT (Y o37 (Y o69 (Y o133 (lT zT) (lT zT)) (Y (o200 P) (lT zT) .nil)) u1) (Y zT (Y o85 (Y (o149 P) (lT o282) (lT o410)) (Y zT (lT o346) .nil)) (Y zT (Y zF (lT zF) .nil) (Y zF (lT o378) .nil)))) (Y o29 (Y o45 (Y zT (Y o141 (lT o274) (lT o402)) (Y zF (lT o338) .nil)) (Y o109 (Y (o176 P) (lT zT) .nil) (Y zT (lT zT) .nil))) (Y zF (Y zT (Y zF (lT o290) (lT o418)) (Y zT (lT o354) .nil)) (Y o125 (Y o192 (lT o322) .nil) (Y o258 (lT zT) .nil)))))) (Y (boot_o_5 P) (Y (boot_o_9 P) (Y zF (Y zT (Y zT (Y zT (lT zF) (lT zF)) (Y o198 (lT zF) .nil)) (Y o99 (Y o166 (lT o296) (lT o424)) (Y o232 (lT zT) .nil))) (Y o51 (Y o83 (Y o147 (lT zT) (lT zT)) (Y o214 (lT zT) .nil)) (Y zF (Y (o182 P) (lT o312) .nil) (Y o248 (lT o376) .nil)))) (Y o27 (Y o43 (Y zF (Y o139 (lT o272) (lT o400)) (Y (o206 P) (lT o336) .nil)) u2) (Y o59 (Y o91 (Y (o158 P) (lT o288) (lT o416)) (Y zF (lT o352) .nil)) (Y (o123 P) (Y o190 (lT zT) .nil) (Y zT (lT o384) .nil))))) (Y o13 (Y o23 (Y zT (Y o71 (Y o135 (lT o268) (lT o396)) (Y o202 (lT o332) .nil)) (u3 P)) (Y o55 (Y o87 (Y o151 (lT zT) (lT zT)) (Y o220 (lT zT) .nil)) (Y o119 (Y o186 (lT zT) .nil) (Y zT (lT o380) .nil)))) (Y o31 (Y zF (Y o79 (Y (o143 P) (lT o276) (lT o404)) (Y o210 (lT o340) .nil)) (Y o111 (Y o178 (lT o308) .nil) (Y o244 (lT o372) .nil))) (Y zT (Y o95 (Y o162 (lT zT) (lT zF)) (Y o228 (lT zF) .nil)) (Y o127 (Y (o194 P) (lT o324) .nil) (Y o260 (lT o388) .nil))))))) (Y (boot_o_2 P) (Y (boot_o_4 P) (Y (boot_o_8 P) (Y zT (Y o34 (Y o66 (Y o130 (lT zT) (lT zT)) (Y o197 (lT zT) .nil)) (Y o98 (Y o165 (lT zT) (lT o423)) (Y zF (lT o359) .nil))) (Y o50 (Y zF (Y o146 (lT o279) (lT o407)) (Y o213 (lT o343) .nil)) (Y zT (Y o181 (lT o311) .nil) (Y o247 (lT zF) .nil)))) (Y zF (Y zT (Y zT (Y o138 (lT zF) (lT zF)) (Y o205 (lT zF) .nil)) u4) (Y o58 (Y o90 (Y o157 (lT zT) (lT zT)) (Y zT (lT zT) .nil)) (Y o122 (Y o189 (lT o319) .nil) (Y o255 (lT o383) .nil))))) (Y o217 (Y o22 (Y o38 (Y zT (Y o134 (lT o267) (lT o395)) (Y o201 (lT o331) .nil)) u5) (Y zF (Y o86 (Y o150 (lT o283) (lT o411)) (Y zF (lT o347) .nil)) (Y o118 (Y o185 (lT o315) .nil) (Y o251 (lT o379) .nil)))) (Y o30 (Y zT (Y o78 (Y o142 (lT o275) (lT o403)) (Y o209 (lT o339) .nil)) (Y zT (Y o177 (lT zF) .nil) (Y zF (lT o371) .nil))) (Y o62 (Y zF (Y o161 (lT o291) (lT zT)) (Y o227 (lT zT) .nil)) (Y o126 (Y o193 (lT zT) .nil) (Y zT (lT zF) .nil)))))) (Y (boot_o_6 P) (Y (boot_o_10 P) (Y o20 (Y o36 (Y zF (Y o132 (lT o265) (lT o393)) (Y zT (lT o329) .nil)) (Y zT (Y o167 (lT o297) (lT o425)) (Y o233 (lT zF) .nil))) (Y o52 (Y zT (Y zT (lT o281) (lT o409)) (Y o215 (lT o345) .nil)) (Y o116 (Y zT (lT zT) .nil) (Y zT (lT zT) .nil)))) (Y zT (Y o44 (Y o76 (Y o140 (lT zT) (lT zT)) (Y zT (lT zT) .nil)) (Y zF (Y zT (lT o305) .nil) (Y o241 (lT o369) .nil))) (Y zT (Y o92 (Y zT (lT o289) (lT o417)) (Y o225 (lT o353) .nil)) (Y zT (Y o191 (lT zF) .nil) (Y zF (lT o385) .nil))))) (Y o14 (Y o24 (Y zF (Y o72 (Y (o136 P) (lT o269) (lT o397)) (Y o203 (lT o333) .nil)) u6) (Y zT (Y zT (Y o152 (lT zF) (lT zF)) (Y o221 (lT zF) .nil)) (Y o120 (Y zT (lT o317) .nil) (Y o253 (lT zT) .nil)))) (Y zT (Y o48 (Y o80 (Y zT (lT zT) (lT zT)) (Y zT (lT zT) .nil)) (Y o112 (Y o179 (lT zT) .nil) (Y zT (lT o373) .nil))) (Y o64 (Y zT (Y zT (lT zF) (lT o421)) (Y o229 (lT o357) .nil)) (Y zT (Y zT (lT o325) .nil) (Y o261 (lT o389) .nil))))))))
noncomputable def sT3 (w:World) (os:OsState):SharedT:=⟨tr3 w.params,426,{},⟨[]⟩,{},820,os⟩
def tr4 (P:Params):BT:=(Y (boot_o_0 P) (Y (boot_o_1 P) (Y (o433 P) (Y (boot_o_7 P) (Y o17 (Y zF (Y o65 (Y zF (lT o262) (lT o390)) (Y zF (lT o326) (lT o456))) (Y o97 (Y (o164 P) (lT o294) (lT zT)) (Y zT (lT o358) (lT zT)))) (Y zT (Y zT (Y zF (lT zF) (lT zF)) (Y (o212 P) (lT zF) (lT zF))) (Y o113 (Y o180 (lT o310) (lT o440)) (Y o246 (lT zT) .nil)))) (Y zT (Y o41 (Y o73 (Y o155 (lT zT) (lT zT)) (Y o204 (lT zT) (lT zT))) u0) (Y o57 (Y zF (Y o156 (lT o286) (lT o414)) (Y o222 (lT o350) (lT o480))) (Y o121 (Y (o188 P) (lT o318) (lT zF)) (Y o254 (lT zF) .nil))))) (Y zT (Y zT (Y o37 (Y o69 (Y o133 (lT zT) (lT zT)) (Y (o200 P) (lT zT) (lT zF))) u1) (Y zT (Y o85 (Y (o149 P) (lT o282) (lT o410)) (Y zT (lT o346) (lT o476))) (Y zT (Y zF (lT zF) (lT o444)) (Y zF (lT o378) .nil)))) (Y o29 (Y o45 (Y zT (Y o141 (lT o274) (lT o402)) (Y zF (lT o338) (lT o468))) (Y o109 (Y (o176 P) (lT zT) (lT zF)) (Y zT (lT zT) .nil))) (Y zF (Y zT (Y zF (lT o290) (lT o418)) (Y zT (lT o354) (lT o484))) (Y o125 (Y o192 (lT o322) (lT zT)) (Y o258 (lT zT) .nil)))))) (Y (boot_o_5 P) (Y (boot_o_9 P) (Y zF (Y zT (Y zT (Y zT (lT zF) (lT zF)) (Y o198 (lT zF) (lT o458))) (Y o99 (Y o166 (lT o296) (lT o424)) (Y o232 (lT zT) (lT o490)))) (Y o51 (Y o83 (Y o147 (lT zT) (lT zT)) (Y o214 (lT zT) (lT zT))) (Y zF (Y (o182 P) (lT o312) (lT zT)) (Y o248 (lT o376) .nil)))) (Y o27 (Y o43 (Y zF (Y o139 (lT o272) (lT o400)) (Y (o206 P) (lT o336) (lT o466))) u2) (Y o59 (Y o91 (Y (o158 P) (lT o288) (lT o416)) (Y zF (lT o352) (lT o482))) (Y (o123 P) (Y o190 (lT zT) (lT o450)) (Y zT (lT o384) .nil))))) (Y o13 (Y o23 (Y zT (Y o71 (Y o135 (lT o268) (lT o396)) (Y o202 (lT o332) (lT o462))) (u3 P)) (Y o55 (Y o87 (Y o151 (lT zT) (lT zT)) (Y o220 (lT zT) (lT zT))) (Y o119 (Y o186 (lT zT) (lT o446)) (Y zT (lT o380) .nil)))) (Y o31 (Y zF (Y o79 (Y (o143 P) (lT o276) (lT o404)) (Y o210 (lT o340) (lT o470))) (Y o111 (Y o178 (lT o308) (lT zT)) (Y o244 (lT o372) .nil))) (Y zT (Y o95 (Y o162 (lT zT) (lT zF)) (Y o228 (lT zF) (lT zF))) (Y o127 (Y (o194 P) (lT o324) (lT o454)) (Y o260 (lT o388) .nil))))))) (Y (boot_o_2 P) (Y (boot_o_4 P) (Y (boot_o_8 P) (Y zT (Y o34 (Y o66 (Y o130 (lT zT) (lT zT)) (Y o197 (lT zT) (lT o457))) (Y o98 (Y o165 (lT zT) (lT o423)) (Y zF (lT o359) (lT o489)))) (Y o50 (Y zF (Y o146 (lT o279) (lT o407)) (Y o213 (lT o343) (lT o473))) (Y zT (Y o181 (lT o311) (lT o441)) (Y o247 (lT zF) .nil)))) (Y zF (Y zT (Y zT (Y o138 (lT zF) (lT zF)) (Y o205 (lT zF) (lT zF))) u4) (Y o58 (Y o90 (Y o157 (lT zT) (lT zT)) (Y zT (lT zT) (lT zT))) (Y o122 (Y o189 (lT o319) (lT o449)) (Y o255 (lT o383) .nil))))) (Y o434 (Y o22 (Y o38 (Y zT (Y o134 (lT o267) (lT o395)) (Y o201 (lT o331) (lT o461))) u5) (Y zF (Y o86 (Y o150 (lT o283) (lT o411)) (Y zF (lT o347) (lT o477))) (Y o118 (Y o185 (lT o315) (lT o445)) (Y o251 (lT o379) .nil)))) (Y o30 (Y zT (Y o78 (Y o142 (lT o275) (lT o403)) (Y o209 (lT o339) (lT o469))) (Y zT (Y o177 (lT zF) (lT o437)) (Y zF (lT o371) .nil))) (Y o62 (Y zF (Y o161 (lT o291) (lT zT)) (Y o227 (lT zT) (lT zT))) (Y o126 (Y o193 (lT zT) (lT zF)) (Y zT (lT zF) .nil)))))) (Y (boot_o_6 P) (Y (boot_o_10 P) (Y o20 (Y o36 (Y zF (Y o132 (lT o265) (lT o393)) (Y zT (lT o329) (lT zT))) (Y zT (Y o167 (lT o297) (lT o425)) (Y o233 (lT zF) (lT o491)))) (Y o52 (Y zT (Y zT (lT o281) (lT o409)) (Y o215 (lT o345) (lT o475))) (Y o116 (Y zT (lT zT) (lT zF)) (Y zT (lT zT) .nil)))) (Y zT (Y o44 (Y o76 (Y o140 (lT zT) (lT zT)) (Y zT (lT zT) (lT zT))) (Y zF (Y zT (lT o305) (lT zT)) (Y o241 (lT o369) .nil))) (Y zT (Y o92 (Y zT (lT o289) (lT o417)) (Y o225 (lT o353) (lT o483))) (Y zT (Y o191 (lT zF) (lT o451)) (Y zF (lT o385) .nil))))) (Y o14 (Y o24 (Y zF (Y o72 (Y (o136 P) (lT o269) (lT o397)) (Y o203 (lT o333) (lT o463))) u6) (Y zT (Y zT (Y o152 (lT zF) (lT zF)) (Y o221 (lT zF) (lT zF))) (Y o120 (Y zT (lT o317) (lT zT)) (Y o253 (lT zT) .nil)))) (Y zT (Y o48 (Y o80 (Y zT (lT zT) (lT zT)) (Y zT (lT zT) (lT zT))) (Y o112 (Y o179 (lT zT) (lT o439)) (Y zT (lT o373) .nil))) (Y o64 (Y zT (Y zT (lT zF) (lT o421)) (Y o229 (lT o357) (lT o487))) (Y zT (Y zT (lT o325) (lT zT)) (Y o261 (lT o389) .nil))))))))
noncomputable def sT4 (w:World) (os:OsState):SharedT:=⟨tr4 w.params,483,{},⟨[]⟩,{},902,os⟩
noncomputable def ls1:List Stmt:=((behindTheImports pq).drop 0).take 22
noncomputable def ls2:List Stmt:=((behindTheImports pq).drop 22).take 8
noncomputable def ls3:List Stmt:=((behindTheImports pq).drop 30).take 37
noncomputable def ls4:List Stmt:=((behindTheImports pq).drop 67).take 9
set_option maxRecDepth 100000
set_option maxHeartbeats 8000000
theorem preH (w:World) (os:OsState):topGo treeTable pq w 11 anH 12 ⟨boot_heap w.params,⟨[]⟩,boot_drawn,boot_toks,os⟩ (topStub pq)=some (st0 os (hA w.params) 187,⟨denote treeTable cE,cE,⟨0,0,0,0⟩,bF⟩):=by kernel_rfl
theorem tu (w:World) (os:OsState):segRun treeTable pq w 11 anH 1 1 (st0 os (hA w.params) 187) (blockOf (behindTheImports pq) envH cE ⟨0,0,0,0⟩ bF)=some (.next,(sT0 w os).abs,cE,⟨0,0,0,0⟩):=by kernel_rfl
theorem gH1 (w:World) (os:OsState):segRunT treeTable pq w 11 anH 1 960 (sT0 w os) (piecesOf ls1 envH cE ⟨0,0,0,0⟩ bF)=some (.next,sT1 w os,cE,⟨130,0,131,8⟩):=by kernel_rfl
theorem gH2 (w:World) (os:OsState):segRunT treeTable pq w 11 anH 1 1093 (sT1 w os) (piecesOf ls2 envH cE ⟨130,0,131,8⟩ bF)=some (.next,sT2 w os,cE,⟨144,0,144,7⟩):=by kernel_rfl
theorem gH3 (w:World) (os:OsState):segRunT treeTable pq w 11 anH 1 1073 (sT2 w os) (piecesOf ls3 envH cE ⟨144,0,144,7⟩ bF)=some (.next,sT3 w os,cE,⟨438,0,460,35⟩):=by kernel_rfl
theorem gH4 (w:World) (os:OsState):segRunT treeTable pq w 11 anH 1 275 (sT3 w os) (piecesOf ls4 envH cE ⟨438,0,460,35⟩ bF)=some (.next,sT4 w os,cE,⟨533,0,545,16⟩):=by kernel_rfl
theorem finH (w:World) (os:OsState):topRun treeTable pq w 11 anH 2 (sT4 w os).abs ⟨doneF .next,cE,⟨533,0,545,16⟩,bF⟩=some (st0 os (hF w.params) 902):=by kernel_rfl
theorem uZ:behindTheImports pq=ls1++(ls2++(ls3++(ls4++[]))):=by kernel_rfl
theorem runH (w:World) (os:OsState):topRun treeTable pq w 11 anH (12+(1+(960+(1093+(1073+(275+2)))))) ⟨boot_heap w.params,⟨[]⟩,boot_drawn,boot_toks,os⟩ (topStub pq)=some (st0 os (hF w.params) 902):=by
 refine go_top (preH w os) (piece_block (tu w os) ?_)
 rw [show restOf (behindTheImports pq) envH cE ⟨0,0,0,0⟩ bF=restOf (ls1++(ls2++(ls3++(ls4++[])))) envH cE ⟨0,0,0,0⟩ bF from congrArg (fun b=>restOf b envH cE ⟨0,0,0,0⟩ bF) uZ]
 exact (piece_app (segRun_of (gH1 w os)) (piece_app (segRun_of (gH2 w os)) (piece_app (segRun_of (gH3 w os)) (piece_app (segRun_of (gH4 w os)) (finH w os)))))
theorem u7 (w:World):((boot_heap w.params).isNs mainGlobals&&(Array.mk ([]:List GenState)).size == 0,(boot_heap w.params).objs.size,(boot_heap w.params).nsMap mainGlobals "__annotations__")=(true,11,anH):=by kernel_rfl
theorem u8:∀ w:World,(fencedOpening treeTable pq w 7000).map (fun s=>(s.heap,s.gens,s.drawn,s.toks))=some (boot_heap w.params,Array.mk [],boot_drawn,boot_toks):=boot_open (by kernel_rfl) rfl (fun s=>by kernel_rfl)
end Mine
set_option tactic.hygienic true
namespace Mine
open PySem
theorem byG {G:Prop} (h:∀ X:Prop,(G→X)→X):G:=h G id
abbrev D:=PyData
abbrev St:=List (Option D)
inductive Ty | list | tuple | str | int | bool
 deriving DecidableEq
inductive B1 | len | all | any | sum | list | tuple | int | listrev
 deriving DecidableEq
mutual
inductive Ex
 | k (d:D)
 | v (i:Nat)
 | gc (x:Str)
 | tup (es:Exs)
 | lst (es:Exs)
 | dic (ks vs:Exs)
 | bin (op:Operator) (a b:Ex)
 | neg (a:Ex)
 | not (a:Ex)
 | bool (isAnd:Bool) (es:Exs)
 | cmp (op:CmpOp) (a b:Ex)
 | cmp2 (o1 o2:CmpOp) (a b c:Ex)
 | idx (a i:Ex)
 | sl (a:Ex) (lo hi:Exo)
 | call (fr:Bool) (f:Str) (args:Exs)
 | b1 (f:B1) (a:Ex)
 | isi (a:Ex) (t:Ty)
 | index (a b:Ex)
 | comp (elt:Ex) (it:It) (cond:Exo)
inductive Exs
 | nil
 | cons (e:Ex) (es:Exs)
inductive Exo
 | none
 | some (e:Ex)
inductive It
 | plain (e:Ex)
 | range1 (e:Ex)
 | range2 (a b:Ex)
 | enum (e:Ex)
 | zip (a b:Ex)
end
set_option genCtorIdx false
inductive Fl
 | next
 | ret (d:D)
mutual
inductive Sm
 | asg (i:Nat) (e:Ex)
 | unp (i j:Nat) (e:Ex)
 | seti (i:Nat) (ix e:Ex)
 | app (i:Nat) (e:Ex)
 | pop (i:Nat)
 | rev (i:Nat)
 | ite (c:Ex) (t e:Sms)
 | for1 (i:Nat) (it:It) (body:Sms)
 | for2 (i j:Nat) (it:It) (body:Sms)
 | wh (c:Ex) (body:Sms)
 | ret (e:Ex)
 | ex (e:Ex)
 | stuck
inductive Sms
 | nil
 | cons (s:Sm) (r:Sms)
end
mutual
noncomputable def noList:D→Bool
 | .list _=>false
 | .dict _=>false
 | .tuple xs=>ao xs
 | _=>true
noncomputable def ao:List D→Bool
 | []=>true
 | x::xs=>noList x&&ao xs
end
theorem ic  : ao []=true:=rfl
theorem aM (x_1:D) (xs:List D):ao (x_1::xs)=(noList x_1&&ao xs):=rfl
noncomputable def eA:List (D × D)→Bool
 | []=>true
 | (a,b)::r=>noList a&&noList b&&eA r
noncomputable def flat:D→Bool
 | .list xs=>ao xs
 | .dict kvs=>eA kvs
 | d=>noList d
noncomputable def truth:D→Option Bool
 | .none=>some false
 | .bool b=>some b
 | .int i=>some (i != 0)
 | .str x=>some (x.length != 0)
 | .list xs=>some (!xs.isEmpty)
 | .tuple xs=>some (!xs.isEmpty)
 | .dict _=>none
theorem mc (b:Bool):truth (PyData.bool b)=some b:=rfl
noncomputable def cD:List D→Option (List Bool)
 | []=>some []
 | .bool b::xs=>(cD xs).map fun bs=>b::bs
 | _=>none
noncomputable def isScalar:D→Bool
 | .list _ | .tuple _ | .dict _=>false
 | _=>true
mutual
noncomputable def ce:D→Bool
 | .dict _=>false
 | .list xs=>aY xs
 | .tuple xs=>aY xs
 | _=>true
noncomputable def aY:List D→Bool
 | []=>true
 | x::xs=>ce x&&aY xs
end
theorem ig (x_1:D) (xs:List D):aY (x_1::xs)=(ce x_1&&aY xs):=rfl
noncomputable def shp (d:D):Bool:=ce d&&decide (d.depth≤32)
noncomputable def smallI (a:Int):Bool:=decide (a.natAbs < 2 ^ 60)
noncomputable def pyEq (a b:D):Option Bool:=
 if (isScalar a&&isScalar b)||(shp a&&shp b) then some (a.eqv b) else none
noncomputable def repL {α:Type} (xs:List α):Nat→List α
 | 0=>[]
 | n+1=>xs++repL xs n
theorem qJ {α:Type} (xs:List α):repL xs 0=[]:=rfl
theorem f7 {α:Type} (xs:List α) (n:Nat):repL xs (n+1)=xs++repL xs n:=rfl
noncomputable def strMul (x:Str) (n:Nat):Str:=⟨(repL x.cps.toList n).toArray⟩
noncomputable def addD:D→D→Option D
 | .int a,.int b=>some (.int (a+b))
 | .str x,.str y=>if x.length+y.length≤2 ^ 20 then some (.str (x++y)) else none
 | .list xs,.list ys=>if xs.length+ys.length≤2 ^ 20 then some (.list (xs++ys)) else none
 | .tuple xs,.tuple ys=>if xs.length+ys.length≤2 ^ 14 then some (.tuple (xs++ys)) else none
 | _,_=>none
noncomputable def mulOkI (a b:Int):Bool:=smallI a||smallI b
noncomputable def mulD:D→D→Option D
 | .int a,.int b=>if mulOkI a b then some (.int (a * b)) else none
 | .str x,.int n=>if x.length≤1000∧n≤1000∧-1000≤n then some (.str (strMul x n.toNat)) else none
 | .list xs,.int n=>if xs.length≤1000∧n≤10000∧-10000≤n then some (.list (repL xs n.toNat)) else none
 | _,_=>none
noncomputable def int1 (x:D):Option Int:=if h:x.ctorIdx=2 then PySem.PyData.int.elim (motive_1:=fun _=>Option Int) x h some else none
noncomputable def bM (x y:D):Option (Int × Int):=(int1 x).bind fun a=>(int1 y).map fun b=>(a,b)
noncomputable def ck:Operator→D→D→Option D
 | .Add,x,y=>addD x y
 | .Mult,x,y=>mulD x y
 | .Sub,x,y=>(bM x y).map fun p=>.int (p.1 - p.2)
 | .FloorDiv,x,y=>(bM x y).bind fun p=>if p.2 ≠ 0∧p.2.natAbs < 1073741824 then some (.int (p.1.fdiv p.2)) else none
 | .Mod,x,y=>(bM x y).bind fun p=>if p.2 ≠ 0 then some (.int (p.1.fmod p.2)) else none
 | .Pow,x,y=>(bM x y).bind fun p=>if 0≤p.2∧p.2≤1000∧p.1.natAbs≤1000 then some (.int (p.1 ^ p.2.toNat)) else none
 | _,_,_=>none
noncomputable def aI (n:Nat) (i:Int):Option Nat:=
 if 0≤i then (if i < n then some i.toNat else none)
 else if -(n:Int)≤i then some (i+n).toNat else none
noncomputable def item:D→D→Option D
 | .list xs,.int i=>(aI xs.length i).bind fun k=>xs[k]?
 | .tuple xs,.int i=>(aI xs.length i).bind fun k=>xs[k]?
 | .str x,.int i=>(aI x.length i).bind fun k=>(x.cps[k]?).map fun c=>.str ⟨#[c]⟩
 | _,_=>none
noncomputable def cF (n:Nat) (i:Int):Nat:=
 if i < 0 then (i+n).toNat else min i.toNat n
noncomputable def cut {α:Type} (xs:List α) (lo hi:Option Int):List α:=
 let a:=(lo.map (cF xs.length)).getD 0
 let b:=(hi.map (cF xs.length)).getD xs.length
 (xs.drop a).take (b - a)
noncomputable def intO:Option D→Option (Option Int)
 | .none=>some .none
 | .some (.int i)=>some (.some i)
 | .some _=>.none
noncomputable def slice:D→Option Int→Option Int→Option D
 | .list xs,lo,hi=>some (.list (cut xs lo hi))
 | .tuple xs,lo,hi=>some (.tuple (cut xs lo hi))
 | _,_,_=>none
noncomputable def anyEq (x:D) (xs:List D):Option Bool:=
 if aY xs&&shp x then some (xs.any fun y=>y.eqv x) else none
noncomputable def subStrOne (x y:Str):Option Bool:=
 match x.cps.toList with
 | [c]=>some (decide (c ∈ y.cps.toList))
 | _=>none
noncomputable def strK (x:D):Option Str:=if h:x.ctorIdx=3 then PySem.PyData.str.elim (motive_1:=fun _=>Option Str) x h some else none
abbrev EnK:=Str × Str × Int × Str × Bool
abbrev StK:=Int × List EnK
noncomputable def enK (e:EnK):D:=.tuple [.str e.1,.str e.2.1,.int e.2.2.1,.str e.2.2.2.1,.bool e.2.2.2.2]
noncomputable def stK (p:StK):D:=.tuple [.int p.1,.tuple (p.2.map enK)]
noncomputable def tupK (x:D):Option (List D):=if h:x.ctorIdx=5 then PySem.PyData.tuple.elim (motive_1:=fun _=>Option (List D)) x h some else none
noncomputable def bolK (x:D):Option Bool:=if h:x.ctorIdx=1 then PySem.PyData.bool.elim (motive_1:=fun _=>Option Bool) x h some else none
noncomputable def hd1:List D→Option (D × List D)
 | x::r=>some (x,r)
 | []=>none
noncomputable def unEn (d:D):Option EnK:=(tupK d).bind fun l=>(hd1 l).bind fun a=>(strK a.1).bind fun x1=>(hd1 a.2).bind fun a=>(strK a.1).bind fun x2=>(hd1 a.2).bind fun a=>(int1 a.1).bind fun x3=>(hd1 a.2).bind fun a=>(strK a.1).bind fun x4=>(hd1 a.2).bind fun a=>(bolK a.1).bind fun x5=>
 if a.2.isEmpty then some (x1,x2,x3,x4,x5) else none
noncomputable def jn:List D→Option (List EnK)
 | []=>some []
 | d::r=>(unEn d).bind fun e=>(jn r).map fun l=>e::l
noncomputable def unK (d:D):Option StK:=(tupK d).bind fun l=>(hd1 l).bind fun a=>(int1 a.1).bind fun k=>(hd1 a.2).bind fun a=>(tupK a.1).bind fun l=>(jn l).bind fun es=>if a.2.isEmpty then some (k,es) else none
noncomputable def tru:D→Bool
 | .bool b=>b
 | _=>false
noncomputable def keysT:List (D × D)→Option (List StK)
 | []=>some []
 | p::r=>if tru p.2 then (unK p.1).bind fun k=>(keysT r).map fun ks=>k::ks else none
noncomputable def eqT (p q:StK):Bool:=p.1 == q.1&&p.2 == q.2
noncomputable def hasT (p:StK) (l:List StK):Bool:=l.any fun q=>eqT q p
noncomputable def nodT:List StK→Bool
 | []=>true
 | p::r=>!hasT p r&&nodT r
noncomputable def dPutT (p:StK) (ks:List StK) (kvs:List (D × D)):List (D × D):=if hasT p ks then kvs else kvs++[(stK p,.bool true)]
noncomputable def lm:List (D × D)→Option (List Str)
 | []=>some []
 | p::r=>(strK p.1).bind fun x=>(lm r).map fun xs=>x::xs
noncomputable def dictOk (kvs:List (D × D)):Bool:=(lm kvs).any (fun ks=>decide ks.Nodup)&&kvs.all fun p=>isScalar p.2
noncomputable def dHas (x:Str) (kvs:List (D × D)):Bool:=kvs.any fun p=>strK p.1 == some x
noncomputable def dPut (x:Str) (v:D) (kvs:List (D × D)):List (D × D):=if dHas x kvs then kvs.map (fun p=>if strK p.1 == some x then (p.1,v) else p) else kvs++[(.str x,v)]
noncomputable def dic1:List D→List D→Option D
 | [],[]=>some (.dict [])
 | [k],[v]=>match strK k with
  | some x=>if isScalar v then some (.dict [(.str x,v)]) else none
  | none=>(unK k).bind fun p=>if tru v then some (.dict [(stK p,.bool true)]) else none
 | _,_=>none
noncomputable def dIn (x:D) (kvs:List (D × D)):Option Bool:=match strK x with
 | some s=>if dictOk kvs then some (dHas s kvs) else none
 | none=>(unK x).bind fun p=>(keysT kvs).bind fun ks=>if nodT ks then some (hasT p ks) else none
noncomputable def vY (k:D):Bool:=noList k&&shp k
noncomputable def pyIn (x:D):D→Option Bool
 | .list xs=>anyEq x xs
 | .tuple xs=>anyEq x xs
 | .str y=>match x with
  | .str z=>subStrOne z y
  | _=>none
 | .dict kvs=>dIn x kvs
 | _=>none
noncomputable def br:List D→List D→Option Bool
 | [],[]=>some false
 | x::xs,y::ys=>(bM x y).bind fun p=>if p.1=p.2 then br xs ys else (br xs ys).map fun _=>decide (p.1 < p.2)
 | _,_=>none
noncomputable def ltD:D→D→Option Bool
 | .tuple xs,.tuple ys=>br xs ys
 | a,b=>(bM a b).map fun p=>decide (p.1 < p.2)
noncomputable def isN:D→Bool
 | .none=>true
 | _=>false
noncomputable def bm:CmpOp→D→D→Option Bool
 | .Eq,a,b=>pyEq a b
 | .NotEq,a,b=>(pyEq a b).map (!·)
 | .Lt,a,b=>ltD a b
 | .LtE,a,b=>(bM a b).map fun p=>decide (p.1≤p.2)
 | .Gt,a,b=>(bM a b).map fun p=>decide (p.2 < p.1)
 | .GtE,a,b=>(bM a b).map fun p=>decide (p.2≤p.1)
 | .In,a,b=>pyIn a b
 | .NotIn,a,b=>(pyIn a b).map (!·)
 | .Is,a,b=>if isN b then some (isN a) else none
 | .IsNot,a,b=>if isN b then some (!isN a) else none
noncomputable def isA:D→Ty→Option Bool
 | .dict _,_=>none
 | .list _,.list=>some true
 | .tuple _,.tuple=>some true
 | .str _,.str=>some true
 | .int _,.int=>some true
 | .bool _,.int=>some true
 | .bool _,.bool=>some true
 | _,_=>some false
noncomputable def sumI:List D→Int→Option Int
 | [],a=>some a
 | .int i::r,a=>sumI r (a+i)
 | _,_=>none
noncomputable def lenD:D→Option D
 | .list xs=>some (.int xs.length)
 | .tuple xs=>some (.int xs.length)
 | .str x=>some (.int x.length)
 | _=>none
noncomputable def fX (x:D):Option (List D):=if h:x.ctorIdx=4 then PySem.PyData.list.elim (motive_1:=fun _=>Option (List D)) x h some else none
noncomputable def u9:List D→Option (D × D)
 | [a,b]=>some (a,b)
 | _=>none
noncomputable def rA (x:D):Option (D × D):=(tupK x).bind u9
noncomputable def vc (x:D):Option Bool:=bolK x
noncomputable def b1:B1→D→Option D
 | .len,x=>lenD x
 | .all,x=>(fX x).bind fun xs=>(cD xs).map fun bs=>.bool (bs.all id)
 | .any,x=>(fX x).bind fun xs=>(cD xs).map fun bs=>.bool (bs.any id)
 | .sum,x=>(fX x).bind fun xs=>(sumI xs 0).map .int
 | .list,x=>(fX x).map .list
 | .tuple,x=>(fX x).map .tuple
 | .int,x=>(vc x).map fun b=>.int (if b then 1 else 0)
 | .listrev,x=>(fX x).map fun xs=>.list xs.reverse
noncomputable def md:List D→Option (List Str)
 | []=>some []
 | d::r=>(strK d).bind fun x=>(md r).map fun xs=>x::xs
noncomputable def idxD (xs:List D) (x:D):Option D:=(strK x).bind fun s=>(md xs).bind fun l=>if l.length≤1000 then (l.findIdx? (· == s)).map fun (n:Nat)=>PyData.int (n:Int) else none
noncomputable def jo:D→D→Option D
 | .list xs,x=>idxD xs x
 | .tuple xs,x=>idxD xs x
 | _,_=>none
noncomputable def bY (a:Int):Nat→List D
 | 0=>[]
 | n+1=>.int a::bY (a+1) n
theorem dN (a:Int) (n:Nat):bY a (n+1)=PyData.int a::bY (a+1) n:=rfl
noncomputable def cA (a:Nat):List D→List (List D)
 | []=>[]
 | x::r=>[.int a,x]::cA (a+1) r
theorem gv (a:Nat) (x_1:D) (xs:List D):cA a (x_1::xs)=[PyData.int ↑a,x_1]::cA (a+1) xs:=rfl
noncomputable def one (xs:List D):List (List D):=xs.map fun x=>[x]
noncomputable def dO (f:List D→Option D) (c:List D→Option Bool):List (List D)→Option (List D)
 | []=>some []
 | vs::r=>(c vs).bind fun b=>if b then (f vs).bind fun x=>(dO f c r).map fun xs=>x::xs else dO f c r
theorem rB (f:List D→Option D) (c:List D→Option Bool):dO f c []=some []:=rfl
theorem me (f:List D→Option D) (c:List D→Option Bool) (vs:List D) (r:List (List D)):dO f c (vs::r)=(c vs).bind fun (b:Bool)=>if b=true then (f vs).bind fun (x:D)=>Option.map (fun (xs:List D)=>x::xs) (dO f c r) else dO f c r:=rfl
noncomputable def forL (b:List D→St→Option (Fl × St)):List (List D)→St→Option (Fl × St)
 | [],m=>some (.next,m)
 | vs::r,m=>match b vs m with
  | some (.next,m')=>forL b r m'
  | some (.ret d,m')=>some (.ret d,m')
  | none=>none
theorem tv (b:List D→St→Option (Fl × St)) (x:St):forL b [] x=some (Fl.next,x):=rfl
theorem f8 (b:List D→St→Option (Fl × St)) (x:St) (vs:List D) (r:List (List D)):forL b (vs::r) x=match b vs x with | some (Fl.next,m')=>forL b r m' | some (Fl.ret d,m')=>some (Fl.ret d,m') | none=>none:=rfl
noncomputable def whL (c:St→Option Bool) (b:St→Option (Fl × St)):Nat→St→Option (Fl × St)
 | 0,_=>none
 | n+1,m=>match c m with
  | some true=>(match b m with
   | some (.next,m')=>whL c b n m'
   | some (.ret d,m')=>some (.ret d,m')
   | none=>none)
  | some false=>some (.next,m)
  | none=>none
theorem ln (c:St→Option Bool) (b:St→Option (Fl × St)) (x:St) (n:Nat):whL c b (n+1) x=match c x with | some true=>(match b x with | some (Fl.next,m')=>whL c b n m' | some (Fl.ret d,m')=>some (Fl.ret d,m') | none=>none) | some false=>some (Fl.next,x) | none=>none:=rfl
noncomputable def b7:Nat→Bool:=fun n=>decide (n≤2 ^ 20)
noncomputable def fk:D→Option (List D)
 | .list xs=>some xs
 | .tuple xs=>some xs
 | .str x=>some (x.cps.toList.map fun c=>.str ⟨#[c]⟩)
 | _=>none
theorem ii (xs:List PyData):fk (PyData.list xs)=some xs:=rfl
theorem ij (xs:List PyData):fk (PyData.tuple xs)=some xs:=rfl
theorem mf (x_1:Str):fk (PyData.str x_1)=some (List.map (fun (c:Nat)=>PyData.str { cps:=#[c] }) x_1.cps.toList):=rfl
noncomputable def cm:It→Bool
 | .zip _ _=>true
 | _=>false
section
variable (Φ:Str→List D→Option D) (Γ:Str→Option D)
mutual
noncomputable def evE:Ex→St→Option D
 | .k d,_=>some d
 | .v i,m=>(m[i]?).bind fun x=>x
 | .gc x,_=>Γ x
 | .tup es,m=>(evEs es m).map .tuple
 | .lst es,m=>(evEs es m).map .list
 | .dic a b,m=>(evEs a m).bind fun ks=>(evEs b m).bind fun vs=>dic1 ks vs
 | .bin op a b,m=>(evE a m).bind fun x=>(evE b m).bind fun y=>ck op x y
 | .neg a,m=>(evE a m).bind fun x=>(int1 x).map fun i=>.int (-i)
 | .not a,m=>(evE a m).bind fun x=>(truth x).map fun b=>.bool (!b)
 | .bool isAnd es,m=>evB isAnd es m
 | .cmp op a b,m=>(evE a m).bind fun x=>(evE b m).bind fun y=>(bm op x y).map .bool
 | .cmp2 o1 o2 a b c,m=>(evE a m).bind fun x=>(evE b m).bind fun y=>(bm o1 x y).bind fun r=>
  if r then (evE c m).bind fun z=>(bm o2 y z).map .bool else some (.bool false)
 | .idx a i,m=>(evE a m).bind fun x=>(evE i m).bind fun y=>item x y
 | .sl a lo hi,m=>(evE a m).bind fun x=>(evO lo m).bind fun l=>(evO hi m).bind fun h=>(intO l).bind fun l=>(intO h).bind fun h=>slice x l h
 | .call _ f args,m=>(evEs args m).bind fun xs=>Φ f xs
 | .b1 f a,m=>(evE a m).bind fun x=>b1 f x
 | .isi a t,m=>(evE a m).bind fun x=>(isA x t).map .bool
 | .index a b,m=>(evE a m).bind fun x=>(evE b m).bind fun y=>jo x y
 | .comp elt it cond,m=>(evIt it m).bind fun items=>if b7 items.length then
  (dO (fun vs=>evE elt (m++vs.map some)) (fun vs=>evC cond (m++vs.map some)) items).bind fun xs=>if !cm it||xs.all isScalar then some (.list xs) else none else none
noncomputable def evEs:Exs→St→Option (List D)
 | .nil,_=>some []
 | .cons e es,m=>(evE e m).bind fun x=>(evEs es m).map fun xs=>x::xs
noncomputable def evO:Exo→St→Option (Option D)
 | .none,_=>some .none
 | .some e,m=>(evE e m).map .some
noncomputable def evC:Exo→St→Option Bool
 | .none,_=>some true
 | .some e,m=>(evE e m).bind truth
noncomputable def evB (isAnd:Bool):Exs→St→Option D
 | .nil,_=>none
 | .cons e .nil,m=>evE e m
 | .cons e es,m=>(evE e m).bind fun x=>(truth x).bind fun b=>if b=isAnd then evB isAnd es m else some x
noncomputable def evIt:It→St→Option (List (List D))
 | .plain e,m=>(evE e m).bind fun x=>(fk x).map one
 | .range1 e,m=>(evE e m).bind fun x=>(int1 x).bind fun n=>if n.natAbs≤2 ^ 20 then some (one (bY 0 n.toNat)) else none
 | .range2 a b,m=>(evE a m).bind fun x=>(evE b m).bind fun y=>(bM x y).bind fun p=>if p.1.natAbs≤2 ^ 20∧p.2.natAbs≤2 ^ 20 then some (one (bY p.1 (p.2 - p.1).toNat)) else none
 | .enum e,m=>(evE e m).bind fun x=>(fX x).map (cA 0)
 | .zip _ _,_=>none
end
noncomputable def isOw (ow:List Nat):Ex→Bool
 | .v i=>ow.contains i
 | _=>false
noncomputable def frE:Ex→Bool
 | .v _ | .gc _ | .idx .. | .bool ..=>false
 | .call fr _ _=>fr
 | _=>true
noncomputable def retOk (ow:List Nat) (e:Ex) (x:D):Bool:=noList x||((isOw ow e||frE e)&&flat x)
noncomputable def setV (m:St) (i:Nat) (d:D):St:=m.set i (some d)
mutual
noncomputable def exS (ow:List Nat) (fr:Bool) (N:Nat):Sm→St→Option (Fl × St)
 | .asg i e,m=>(evE Φ Γ e m).bind fun x=>if !ow.contains i||flat x then some (.next,setV m i x) else none
 | .unp i j e,m=>(evE Φ Γ e m).bind fun x=>(rA x).map fun p=>(.next,setV (setV m i p.1) j p.2)
 | .seti i ix e,m=>(evE Φ Γ e m).bind fun x=>((m[i]?).bind fun c=>c).bind fun c=>(evE Φ Γ ix m).bind fun k=>
  if noList x then (match c,k with
   | .list xs,.int n=>if 0≤n∧n < xs.length then some (.next,setV m i (.list (xs.set n.toNat x))) else none
   | .dict kvs,.str s=>if dictOk kvs&&isScalar x&&decide (kvs.length≤2 ^ 20) then some (.next,setV m i (.dict (dPut s x kvs))) else none
   | .dict kvs,.tuple l=>(unK (.tuple l)).bind fun p=>(keysT kvs).bind fun ks=>if nodT ks&&tru x&&decide (ks.length≤2 ^ 20) then some (.next,setV m i (.dict (dPutT p ks kvs))) else none
   | _,_=>none) else none
 | .app i e,m=>((m[i]?).bind fun c=>c).bind fun c=>(evE Φ Γ e m).bind fun x=>match c with
  | .list xs=>if noList x&&b7 xs.length then some (.next,setV m i (.list (xs++[x]))) else none
  | _=>none
 | .pop i,m=>((m[i]?).bind fun c=>c).bind fun c=>match c with
  | .list xs=>if xs.isEmpty then none else some (.next,setV m i (.list xs.dropLast))
  | _=>none
 | .rev i,m=>((m[i]?).bind fun c=>c).bind fun c=>match c with
  | .list xs=>some (.next,setV m i (.list xs.reverse))
  | _=>none
 | .ite c t e,m=>(evE Φ Γ c m).bind fun x=>(truth x).bind fun b=>if b then exSs ow fr N t m else exSs ow fr N e m
 | .for1 i it body,m=>(evIt Φ Γ it m).bind fun items=>if cm it then none else forL (fun vs m=>match vs with
  | [x]=>exSs ow fr N body (setV m i x)
  | _=>none) items m
 | .for2 i j it body,m=>(evIt Φ Γ it m).bind fun items=>if cm it then none else forL (fun vs m=>match vs with
  | [x,y]=>exSs ow fr N body (setV (setV m i x) j y)
  | _=>none) items m
 | .wh c body,m=>whL (fun m=>(evE Φ Γ c m).bind truth) (fun m=>exSs ow fr N body m) N m
 | .ret e,m=>(evE Φ Γ e m).bind fun x=>if !fr||retOk ow e x then some (.ret x,m) else none
 | .ex e,m=>(evE Φ Γ e m).map fun _=>(.next,m)
 | .stuck,_=>none
noncomputable def exSs (ow:List Nat) (fr:Bool) (N:Nat):Sms→St→Option (Fl × St)
 | .nil,m=>some (.next,m)
 | .cons s r,m=>match exS ow fr N s m with
  | some (.next,m')=>exSs ow fr N r m'
  | some (.ret d,m')=>some (.ret d,m')
  | none=>none
end
end
structure Fn where
 np:Nat
 ns:Nat
 ow:List Nat
 fr:Bool
 body:Sms
noncomputable def runFn (Φ:Str→List D→Option D) (Γ:Str→Option D) (N:Nat) (f:Fn) (args:List D):Option D:=
 if args.length=f.np then match exSs Φ Γ f.ow f.fr N f.body (args.map some++List.replicate (f.ns - f.np) none) with
  | some (.ret d,_)=>some d
  | some (.next,_)=>some .none
  | none=>none
 else none
section
variable {Φ:Str→List D→Option D} {Γ:Str→Option D} {m:St} {ow:List Nat} {fr:Bool} {N:Nat}
theorem x_k (d:D):evE Φ Γ (.k d) m=some d:=rfl
theorem x_v (i:Nat):evE Φ Γ (.v i) m=(m[i]?).bind fun x=>x:=rfl
theorem x_gc (x:Str):evE Φ Γ (.gc x) m=Γ x:=rfl
theorem cB (es:Exs):evE Φ Γ (.tup es) m=(evEs Φ Γ es m).map .tuple:=rfl
theorem ik (es:Exs):evE Φ Γ (.lst es) m=(evEs Φ Γ es m).map .list:=rfl
theorem ba (op:Operator) (a b:Ex):evE Φ Γ (.bin op a b) m=(evE Φ Γ a m).bind fun x=>(evE Φ Γ b m).bind fun y=>ck op x y:=rfl
theorem vd (a:Ex):evE Φ Γ (.neg a) m=(evE Φ Γ a m).bind fun x=>(int1 x).map fun i=>.int (-i):=rfl
theorem rC (a:Ex):evE Φ Γ (.not a) m=(evE Φ Γ a m).bind fun x=>(truth x).map fun b=>.bool (!b):=rfl
theorem cG (q:Bool) (es:Exs):evE Φ Γ (.bool q es) m=evB Φ Γ q es m:=rfl
theorem dP (op:CmpOp) (a b:Ex):evE Φ Γ (.cmp op a b) m=(evE Φ Γ a m).bind fun x=>(evE Φ Γ b m).bind fun y=>(bm op x y).map .bool:=rfl
theorem mh (o1 o2:CmpOp) (a b c:Ex):evE Φ Γ (.cmp2 o1 o2 a b c) m=(evE Φ Γ a m).bind fun x=>(evE Φ Γ b m).bind fun y=>(bm o1 x y).bind fun r=>if r then (evE Φ Γ c m).bind fun z=>(bm o2 y z).map .bool else some (.bool false):=rfl
theorem mi (a b:Ex):evE Φ Γ (.index a b) m=(evE Φ Γ a m).bind fun x=>(evE Φ Γ b m).bind fun y=>jo x y:=rfl
theorem bd (a b:Ex):evE Φ Γ (.idx a b) m=(evE Φ Γ a m).bind fun x=>(evE Φ Γ b m).bind fun y=>item x y:=rfl
theorem x_sl (a:Ex) (l h:Exo):evE Φ Γ (.sl a l h) m=(evE Φ Γ a m).bind fun x=>(evO Φ Γ l m).bind fun l=>(evO Φ Γ h m).bind fun h=>(intO l).bind fun l=>(intO h).bind fun h=>slice x l h:=rfl
theorem be (q:Bool) (f:Str) (es:Exs):evE Φ Γ (.call q f es) m=(evEs Φ Γ es m).bind fun xs=>Φ f xs:=rfl
theorem x_b1 (f:B1) (a:Ex):evE Φ Γ (.b1 f a) m=(evE Φ Γ a m).bind fun x=>b1 f x:=rfl
theorem tw (a:Ex) (t:Ty):evE Φ Γ (.isi a t) m=(evE Φ Γ a m).bind fun x=>(isA x t).map .bool:=rfl
theorem aF:evEs Φ Γ .nil m=some []:=rfl
theorem ar (e:Ex) (es:Exs):evEs Φ Γ (.cons e es) m=(evE Φ Γ e m).bind fun x=>(evEs Φ Γ es m).map fun xs=>x::xs:=rfl
theorem fm:evO Φ Γ .none m=some .none:=rfl
theorem fo (e:Ex):evO Φ Γ (.some e) m=(evE Φ Γ e m).map .some:=rfl
theorem mj:evC Φ Γ .none m=some true:=rfl
theorem jp (e:Ex):evC Φ Γ (.some e) m=(evE Φ Γ e m).bind truth:=rfl
theorem fq (q:Bool) (e:Ex):evB Φ Γ q (.cons e .nil) m=evE Φ Γ e m:=rfl
theorem eB (q:Bool) (e e2:Ex) (es:Exs):evB Φ Γ q (.cons e (.cons e2 es)) m=(evE Φ Γ e m).bind fun x=>(truth x).bind fun b=>if b=q then evB Φ Γ q (.cons e2 es) m else some x:=rfl
theorem ve (a b:Exs):evE Φ Γ (.dic a b) m=(evEs Φ Γ a m).bind fun ks=>(evEs Φ Γ b m).bind fun vs=>dic1 ks vs:=rfl
theorem qK (elt:Ex) (it:It) (cond:Exo):evE Φ Γ (.comp elt it cond) m=(evIt Φ Γ it m).bind fun items=>if b7 items.length then
 (dO (fun vs=>evE Φ Γ elt (m++vs.map some)) (fun vs=>evC Φ Γ cond (m++vs.map some)) items).bind fun xs=>if !cm it||xs.all isScalar then some (.list xs) else none else none:=rfl
theorem rD (i:Nat) (e:Ex):exS Φ Γ ow fr N (.asg i e) m=(evE Φ Γ e m).bind fun x=>if !ow.contains i||flat x then some (.next,setV m i x) else none:=rfl
theorem vf (i j:Nat) (e:Ex):exS Φ Γ ow fr N (.unp i j e) m=(evE Φ Γ e m).bind fun x=>(rA x).map fun p=>(.next,setV (setV m i p.1) j p.2):=rfl
theorem km (i:Nat) (ix e:Ex):exS Φ Γ ow fr N (.seti i ix e) m=(evE Φ Γ e m).bind fun x=>((m[i]?).bind fun c=>c).bind fun c=>(evE Φ Γ ix m).bind fun k=>
 if noList x then (match c,k with
  | .list xs,.int n=>if 0≤n∧n < xs.length then some (.next,setV m i (.list (xs.set n.toNat x))) else none
  | .dict kvs,.str s=>if dictOk kvs&&isScalar x&&decide (kvs.length≤2 ^ 20) then some (.next,setV m i (.dict (dPut s x kvs))) else none
  | .dict kvs,.tuple l=>(unK (.tuple l)).bind fun p=>(keysT kvs).bind fun ks=>if nodT ks&&tru x&&decide (ks.length≤2 ^ 20) then some (.next,setV m i (.dict (dPutT p ks kvs))) else none
  | _,_=>none) else none:=rfl
theorem tx (i:Nat) (e:Ex):exS Φ Γ ow fr N (.app i e) m=((m[i]?).bind fun c=>c).bind fun c=>(evE Φ Γ e m).bind fun x=>match c with
 | .list xs=>if noList x&&b7 xs.length then some (.next,setV m i (.list (xs++[x]))) else none
 | _=>none:=rfl
theorem tz (i:Nat):exS Φ Γ ow fr N (.pop i) m=((m[i]?).bind fun c=>c).bind fun c=>match c with
 | .list xs=>if xs.isEmpty then none else some (.next,setV m i (.list xs.dropLast))
 | _=>none:=rfl
theorem tA (i:Nat):exS Φ Γ ow fr N (.rev i) m=((m[i]?).bind fun c=>c).bind fun c=>match c with
 | .list xs=>some (.next,setV m i (.list xs.reverse))
 | _=>none:=rfl
theorem mn (c:Ex) (t e:Sms):exS Φ Γ ow fr N (.ite c t e) m=(evE Φ Γ c m).bind fun x=>(truth x).bind fun b=>if b then exSs Φ Γ ow fr N t m else exSs Φ Γ ow fr N e m:=rfl
theorem mo (i:Nat) (it:It) (body:Sms):exS Φ Γ ow fr N (.for1 i it body) m=(evIt Φ Γ it m).bind fun items=>if cm it then none else forL (fun vs m=>match vs with
 | [x]=>exSs Φ Γ ow fr N body (setV m i x)
 | _=>none) items m:=rfl
theorem mq (i j:Nat) (it:It) (body:Sms):exS Φ Γ ow fr N (.for2 i j it body) m=(evIt Φ Γ it m).bind fun items=>if cm it then none else forL (fun vs m=>match vs with
 | [x,y]=>exSs Φ Γ ow fr N body (setV (setV m i x) j y)
 | _=>none) items m:=rfl
theorem e_wh (c:Ex) (body:Sms):exS Φ Γ ow fr N (.wh c body) m=whL (fun m=>(evE Φ Γ c m).bind truth) (fun m=>exSs Φ Γ ow fr N body m) N m:=rfl
theorem tB (e:Ex):exS Φ Γ ow fr N (.ret e) m=(evE Φ Γ e m).bind fun x=>if !fr||retOk ow e x then some (.ret x,m) else none:=rfl
theorem e_ex (e:Ex):exS Φ Γ ow fr N (.ex e) m=(evE Φ Γ e m).map fun _=>(.next,m):=rfl
theorem rE:exS Φ Γ ow fr N .stuck m=none:=rfl
theorem tC:exSs Φ Γ ow fr N .nil m=some (.next,m):=rfl
theorem jq (s:Sm) (r:Sms):exSs Φ Γ ow fr N (.cons s r) m=match exS Φ Γ ow fr N s m with
 | some (.next,m')=>exSs Φ Γ ow fr N r m'
 | some (.ret d,m')=>some (.ret d,m')
 | none=>none:=rfl
theorem gw (e:Ex):evIt Φ Γ (.plain e) m=(evE Φ Γ e m).bind fun x=>(fk x).map one:=rfl
theorem im (e:Ex):evIt Φ Γ (.range1 e) m=(evE Φ Γ e m).bind fun x=>(int1 x).bind fun n=>if n.natAbs≤2 ^ 20 then some (one (bY 0 n.toNat)) else none:=rfl
theorem io (a b:Ex):evIt Φ Γ (.range2 a b) m=(evE Φ Γ a m).bind fun x=>(evE Φ Γ b m).bind fun y=>(bM x y).bind fun p=>if p.1.natAbs≤2 ^ 20∧p.2.natAbs≤2 ^ 20 then some (one (bY p.1 (p.2 - p.1).toNat)) else none:=rfl
theorem mr (e:Ex):evIt Φ Γ (.enum e) m=(evE Φ Γ e m).bind fun x=>(fX x).map (cA 0):=rfl
end
end Mine
set_option tactic.hygienic false
namespace Mine
open PySem
theorem cf {α β:Type} {x:Option α} {f:α→Option β} {y:β} (h:x.bind f=some y):∃ a,x=some a∧f a=some y:=by
 cases x with
 | none=>cases h
 | some a=>exact ⟨a,rfl,h⟩
theorem aa {α β:Type} {x:Option α} {f:α→Option β} {y:β} {G:Prop} (h:x.bind f=some y) (k:∀ a,x=some a→f a=some y→G):G:=
 (cf h).elim fun a r=>k a r.1 r.2
theorem ag {α β:Type} {x:Option α} {f:α→β} {y:β} (h:x.map f=some y):∃ a,x=some a∧f a=y:=by
 cases x with
 | none=>cases h
 | some a=>exact ⟨a,rfl,Option.some.inj h⟩
noncomputable abbrev listObj (vs:Array Value) (n:Nat):Obj:={ cls:=.type "list",data:=.seq vs n }
noncomputable abbrev tupObj (vs:Array Value) (n:Nat):Obj:={ cls:=.type "tuple",data:=.seq vs n }
noncomputable abbrev dictObj (es:Array DictEntry) (n:Nat):Obj:={ cls:=.type "dict",data:=.dict es n }
mutual
inductive Rd (H:D→Int) (h:Heap):Value→D→List Addr→Prop
 | none:Rd H h .none .none []
 | bool (b:Bool):Rd H h (.bool b) (.bool b) []
 | int (i:Int) (t:Tok):Rd H h (.int i t) (.int i) []
 | str (x:Str) (t:Tok) (hz:x.length≤sizeLine) (ho:PyData.strOk x=true):Rd H h (.str x t) (.str x) []
 | list {a:Addr} {vs:Array Value} {n:Nat} {xs:List D} {as:List Addr}:h.get? a=some (listObj vs n)→vs.size≤sizeLine→RdAll H h vs.toList xs as→Rd H h (.ref a) (.list xs) (a::as)
 | tuple {a:Addr} {vs:Array Value} {n:Nat} {xs:List D} {as:List Addr}:h.get? a=some (tupObj vs n)→vs.size≤sizeLine→RdAll H h vs.toList xs as→Rd H h (.ref a) (.tuple xs) as
 | dict {a:Addr} {es:Array DictEntry} {n:Nat} {kvs:List (D × D)}:a ≠ sysModules→h.get? a=some (dictObj es n)→RdKv H h es.toList kvs→Rd H h (.ref a) (.dict kvs) [a]
inductive RdAll (H:D→Int) (h:Heap):List Value→List D→List Addr→Prop
 | nil:RdAll H h [] [] []
 | cons {v:Value} {vs:List Value} {d:D} {ds:List D} {as bs:List Addr}:Rd H h v d as→RdAll H h vs ds bs→RdAll H h (v::vs) (d::ds) (as++bs)
inductive RdKv (H:D→Int) (h:Heap):List DictEntry→List (D × D)→Prop
 | nil:RdKv H h [] []
 | cons {e:DictEntry} {es:List DictEntry} {k v:D} {kvs:List (D × D)}:Rd H h e.key k []→Rd H h e.val v []→e.hash=H k→RdKv H h es kvs→RdKv H h (e::es) ((k,v)::kvs)
end
section
variable {H:D→Int}
theorem Rd.mono_both {h h':Heap}:(∀ {v:Value} {d:D} {as:List Addr},Rd H h v d as→(∀ a o,h.get? a=some o→((∃ vs n,o=tupObj vs n)∨a ∈ as)→h'.get? a=some o)→Rd H h' v d as) ∧
 (∀ {vs:List Value} {ds:List D} {as:List Addr},RdAll H h vs ds as→(∀ a o,h.get? a=some o→((∃ vs n,o=tupObj vs n)∨a ∈ as)→h'.get? a=some o)→RdAll H h' vs ds as):=by
 let M1:∀ (v:Value) (d:D) (as:List Addr),Rd H h v d as→Prop:=fun v d as o_=>(∀ a o,h.get? a=some o→((∃ vs n,o=tupObj vs n)∨a ∈ as)→h'.get? a=some o)→Rd H h' v d as
 let M2:∀ (vs:List Value) (ds:List D) (as:List Addr),RdAll H h vs ds as→Prop:=fun vs ds as o_=>(∀ a o,h.get? a=some o→((∃ vs n,o=tupObj vs n)∨a ∈ as)→h'.get? a=some o)→RdAll H h' vs ds as
 let M3:∀ (es:List DictEntry) (kvs:List (D × D)),RdKv H h es kvs→Prop:=fun es kvs o_=>(∀ a o,h.get? a=some o→(∃ vs n,o=tupObj vs n)→h'.get? a=some o)→RdKv H h' es kvs
 have c5:∀ {a:Addr} {vs:Array Value} {n:Nat} {xs:List D} {as:List Addr} (h1:h.get? a=some (listObj vs n)) (hz:vs.size≤sizeLine) (h2:RdAll H h vs.toList xs as),M2 _ _ _ h2→M1 (.ref a) (.list xs) (a::as) (.list h1 hz h2):=fun h1 hz o_ ih hk=>.list (hk _ _ h1 (.inr (.head _))) hz (ih fun a o e q=>hk a o e (q.imp id fun q=>.tail _ q))
 have c6:∀ {a:Addr} {vs:Array Value} {n:Nat} {xs:List D} {as:List Addr} (h1:h.get? a=some (tupObj vs n)) (hz:vs.size≤sizeLine) (h2:RdAll H h vs.toList xs as),M2 _ _ _ h2→M1 (.ref a) (.tuple xs) as (.tuple h1 hz h2):=fun h1 hz o_ ih hk=>.tuple (hk _ _ h1 (.inl ⟨_,_,rfl⟩)) hz (ih hk)
 have c7:∀ {a:Addr} {es:Array DictEntry} {n:Nat} {kvs:List (D × D)} (h0:a ≠ sysModules) (h1:h.get? a=some (dictObj es n)) (h2:RdKv H h es.toList kvs),M3 _ _ h2→M1 (.ref a) (.dict kvs) [a] (.dict h0 h1 h2):=fun h0 h1 o_ ih hk=>.dict h0 (hk _ _ h1 (.inr (.head _))) (ih fun a o e q=>hk a o e (.inl q))
 have c9:∀ {v:Value} {vs:List Value} {d:D} {ds:List D} {as bs:List Addr} (h1:Rd H h v d as) (h2:RdAll H h vs ds bs),M1 _ _ _ h1→M2 _ _ _ h2→M2 (v::vs) (d::ds) (as++bs) (.cons h1 h2):=fun o_ o_ i1 i2 hk=>.cons (i1 fun a o e q=>hk a o e (q.imp id fun q=>List.mem_append_left _ q)) (i2 fun a o e q=>hk a o e (q.imp id fun q=>List.mem_append_right _ q))
 have c11:∀ {e:DictEntry} {es:List DictEntry} {k v:D} {kvs:List (D × D)} (h1:Rd H h e.key k []) (h2:Rd H h e.val v []) (h3:e.hash=H k) (h4:RdKv H h es kvs),M1 _ _ _ h1→M1 _ _ _ h2→M3 _ _ h4→M3 (e::es) ((k,v)::kvs) (.cons h1 h2 h3 h4):=fun o_ o_ h3 o_ i1 i2 i4 hk=>.cons (i1 fun a o e q=>q.elim (hk a o e) fun q=>nomatch q) (i2 fun a o e q=>q.elim (hk a o e) fun q=>nomatch q) h3 (i4 hk)
 exact ⟨fun r=>Rd.rec (motive_1:=M1) (motive_2:=M2) (motive_3:=M3) (fun o_=>.none) (fun b o_=>.bool b) (fun i t o_=>.int i t) (fun x t hz ho o_=>.str x t hz ho) c5 c6 c7 (fun o_=>.nil) c9 (fun o_=>.nil) c11 r,
  fun r=>RdAll.rec (motive_1:=M1) (motive_2:=M2) (motive_3:=M3) (fun o_=>.none) (fun b o_=>.bool b) (fun i t o_=>.int i t) (fun x t hz ho o_=>.str x t hz ho) c5 c6 c7 (fun o_=>.nil) c9 (fun o_=>.nil) c11 r⟩
theorem Rd.mono' {h h':Heap} {v:Value} {d:D} {as:List Addr} (r:Rd H h v d as) (hk:∀ a o,h.get? a=some o→((∃ vs n,o=tupObj vs n)∨a ∈ as)→h'.get? a=some o):Rd H h' v d as:=Rd.mono_both.1 r hk
theorem RdAll.mono' {h h':Heap} {v:List Value} {d:List D} {as:List Addr} (r:RdAll H h v d as) (hk:∀ a o,h.get? a=some o→((∃ vs n,o=tupObj vs n)∨a ∈ as)→h'.get? a=some o):RdAll H h' v d as:=Rd.mono_both.2 r hk
theorem Rd.mono {h h':Heap} {v:Value} {d:D} {as:List Addr} (r:Rd H h v d as) (hk:∀ a o,h.get? a=some o→(o.cls = .type "tuple" ∨ a ∈ as)→h'.get? a=some o):Rd H h' v d as:=
 r.mono' fun a o e q=>hk a o e (q.imp (fun ⟨_,_,x⟩=>by rw [x]) id)
theorem RdAll.mono {h h':Heap} {v:List Value} {d:List D} {as:List Addr} (r:RdAll H h v d as) (hk:∀ a o,h.get? a=some o→(o.cls = .type "tuple" ∨ a ∈ as)→h'.get? a=some o):RdAll H h' v d as:=
 r.mono' fun a o e q=>hk a o e (q.imp (fun ⟨_,_,x⟩=>by rw [x]) id)
theorem Rd.keeps {h h':Heap} {v:Value} {d:D} {as:List Addr} (r:Rd H h v d as) (hk:∀ b o,h.get? b=some o→h'.get? b=some o):Rd H h' v d as:=r.mono fun a o e o_=>hk a o e
theorem RdAll.keeps {h h':Heap} {v:List Value} {d:List D} {as:List Addr} (r:RdAll H h v d as) (hk:∀ b o,h.get? b=some o→h'.get? b=some o):RdAll H h' v d as:=r.mono fun a o e o_=>hk a o e
theorem RdAll.ind {h:Heap} {M:List Value→List D→List Addr→Prop} (n:M [] [] []) (c:∀ (v:Value) (vs:List Value) (d:D) (ds:List D) (as bs:List Addr),Rd H h v d as→RdAll H h vs ds bs→M vs ds bs→M (v::vs) (d::ds) (as++bs)) {vs:List Value} {ds:List D} {as:List Addr} (r:RdAll H h vs ds as):M vs ds as:=
 RdAll.rec (motive_1:=fun o_ o_ o_ o_=>True) (motive_2:=fun vs ds as o_=>M vs ds as) (motive_3:=fun o_ o_ o_=>True) trivial (fun o_=>trivial) (fun o_ o_=>trivial) (fun o_ o_ o_ o_=>trivial) (fun o_ o_ o_ o_=>trivial) (fun o_ o_ o_ o_=>trivial) (fun o_ o_ o_ o_=>trivial) n (fun h1 h2 o_ i=>c _ _ _ _ _ _ h1 h2 i) trivial (fun o_ o_ o_ o_ o_ o_ o_=>trivial) r
theorem RdAll.length {h:Heap} {vs:List Value} {ds:List D} {as:List Addr} (r:RdAll H h vs ds as):vs.length=ds.length:=
 r.ind (M:=fun vs ds o_=>vs.length=ds.length) rfl fun o_ o_ o_ o_ o_ o_ o_ o_ i=>congrArg Nat.succ i
theorem Rd.old_both {h:Heap}:(∀ {v:Value} {d:D} {as:List Addr},Rd H h v d as→∀ a ∈ as,∃ o,h.get? a=some o∧((∃ vs n,o=listObj vs n)∨∃ es n,o=dictObj es n)) ∧
 (∀ {vs:List Value} {ds:List D} {as:List Addr},RdAll H h vs ds as→∀ a ∈ as,∃ o,h.get? a=some o∧((∃ vs n,o=listObj vs n)∨∃ es n,o=dictObj es n)):=by
 let M1:∀ (v:Value) (d:D) (as:List Addr),Rd H h v d as→Prop:=fun o_ o_ as o_=>∀ a ∈ as,∃ o,h.get? a=some o∧((∃ vs n,o=listObj vs n)∨∃ es n,o=dictObj es n)
 let M2:∀ (vs:List Value) (ds:List D) (as:List Addr),RdAll H h vs ds as→Prop:=fun o_ o_ as o_=>∀ a ∈ as,∃ o,h.get? a=some o∧((∃ vs n,o=listObj vs n)∨∃ es n,o=dictObj es n)
 let M3:∀ (es:List DictEntry) (kvs:List (D × D)),RdKv H h es kvs→Prop:=fun o_ o_ o_=>True
 have c5:∀ {a:Addr} {vs:Array Value} {n:Nat} {xs:List D} {as:List Addr} (h1:h.get? a=some (listObj vs n)) (hz:vs.size≤sizeLine) (h2:RdAll H h vs.toList xs as),M2 _ _ _ h2→M1 (.ref a) (.list xs) (a::as) (.list h1 hz h2):=fun h1 o_ o_ ih b q=>(List.mem_cons.mp q).elim (fun e=>⟨_,e ▸ h1,.inl ⟨_,_,rfl⟩⟩) (ih b)
 have c7:∀ {a:Addr} {es:Array DictEntry} {n:Nat} {kvs:List (D × D)} (h0:a ≠ sysModules) (h1:h.get? a=some (dictObj es n)) (h2:RdKv H h es.toList kvs),M3 _ _ h2→M1 (.ref a) (.dict kvs) [a] (.dict h0 h1 h2):=fun o_ h1 o_ o_ b q=>⟨_,(List.mem_singleton.mp q) ▸ h1,.inr ⟨_,_,rfl⟩⟩
 have c9:∀ {v:Value} {vs:List Value} {d:D} {ds:List D} {as bs:List Addr} (h1:Rd H h v d as) (h2:RdAll H h vs ds bs),M1 _ _ _ h1→M2 _ _ _ h2→M2 (v::vs) (d::ds) (as++bs) (.cons h1 h2):=fun o_ o_ i1 i2 b q=>(List.mem_append.mp q).elim (i1 b) (i2 b)
 exact ⟨fun r=>Rd.rec (motive_1:=M1) (motive_2:=M2) (motive_3:=M3) (fun o_ q=>nomatch q) (fun o_ o_ q=>nomatch q) (fun o_ o_ o_ q=>nomatch q) (fun o_ o_ o_ o_ o_ q=>nomatch q) c5 (fun o_ o_ o_ ih=>ih) c7 (fun o_ q=>nomatch q) c9 trivial (fun o_ o_ o_ o_ o_ o_ o_=>trivial) r,
  fun r=>RdAll.rec (motive_1:=M1) (motive_2:=M2) (motive_3:=M3) (fun o_ q=>nomatch q) (fun o_ o_ q=>nomatch q) (fun o_ o_ o_ q=>nomatch q) (fun o_ o_ o_ o_ o_ q=>nomatch q) c5 (fun o_ o_ o_ ih=>ih) c7 (fun o_ q=>nomatch q) c9 trivial (fun o_ o_ o_ o_ o_ o_ o_=>trivial) r⟩
theorem Rd.old {h:Heap} {v:Value} {d:D} {as:List Addr} (r:Rd H h v d as):∀ a ∈ as,∃ o,h.get? a=some o∧((∃ vs n,o=listObj vs n)∨∃ es n,o=dictObj es n):=Rd.old_both.1 r
theorem RdAll.old {h:Heap} {v:List Value} {d:List D} {as:List Addr} (r:RdAll H h v d as):∀ a ∈ as,∃ o,h.get? a=some o∧((∃ vs n,o=listObj vs n)∨∃ es n,o=dictObj es n):=Rd.old_both.2 r
theorem Rd.noAddr_both {h:Heap}:(∀ {v:Value} {d:D} {as:List Addr},Rd H h v d as→noList d=true→as=[])∧(∀ {vs:List Value} {ds:List D} {as:List Addr},RdAll H h vs ds as→ao ds=true→as=[]):=by
 let M1:∀ (v:Value) (d:D) (as:List Addr),Rd H h v d as→Prop:=fun o_ d as o_=>noList d=true→as=[]
 let M2:∀ (vs:List Value) (ds:List D) (as:List Addr),RdAll H h vs ds as→Prop:=fun o_ ds as o_=>ao ds=true→as=[]
 let M3:∀ (es:List DictEntry) (kvs:List (D × D)),RdKv H h es kvs→Prop:=fun o_ o_ o_=>True
 have c9:∀ {v:Value} {vs:List Value} {d:D} {ds:List D} {as bs:List Addr} (h1:Rd H h v d as) (h2:RdAll H h vs ds bs),M1 _ _ _ h1→M2 _ _ _ h2→M2 (v::vs) (d::ds) (as++bs) (.cons h1 h2):=fun o_ o_ i1 i2 q=>by
  rw [aM,Bool.and_eq_true] at q
  rw [i1 q.1,i2 q.2];rfl
 exact ⟨fun r=>Rd.rec (motive_1:=M1) (motive_2:=M2) (motive_3:=M3) (fun o_=>rfl) (fun o_ o_=>rfl) (fun o_ o_ o_=>rfl) (fun o_ o_ o_ o_ o_=>rfl) (fun o_ o_ o_ o_ q=>by cases q) (fun o_ o_ o_ ih q=>ih (q)) (fun o_ o_ o_ o_ q=>by cases q) (fun o_=>rfl) c9 trivial (fun o_ o_ o_ o_ o_ o_ o_=>trivial) r,
  fun r=>RdAll.rec (motive_1:=M1) (motive_2:=M2) (motive_3:=M3) (fun o_=>rfl) (fun o_ o_=>rfl) (fun o_ o_ o_=>rfl) (fun o_ o_ o_ o_ o_=>rfl) (fun o_ o_ o_ o_ q=>by cases q) (fun o_ o_ o_ ih q=>ih (q)) (fun o_ o_ o_ o_ q=>by cases q) (fun o_=>rfl) c9 trivial (fun o_ o_ o_ o_ o_ o_ o_=>trivial) r⟩
theorem Rd.noAddr {h:Heap} {v:Value} {d:D} {as:List Addr} (r:Rd H h v d as) (hn:noList d=true):as=[]:=Rd.noAddr_both.1 r hn
theorem RdAll.noAddr {h:Heap} {v:List Value} {d:List D} {as:List Addr} (r:RdAll H h v d as) (hn:ao d=true):as=[]:=Rd.noAddr_both.2 r hn
theorem Rd.reads_both {h:Heap}:(∀ {v:Value} {d:D} {as:List Addr},Rd H h v d as→∃ bs,Reads h v d bs)∧(∀ {vs:List Value} {ds:List D} {as:List Addr},RdAll H h vs ds as→∃ bs,ReadsAll h vs ds bs):=by
 let M1:∀ (v:Value) (d:D) (as:List Addr),Rd H h v d as→Prop:=fun v d o_ o_=>∃ bs,Reads h v d bs
 let M2:∀ (vs:List Value) (ds:List D) (as:List Addr),RdAll H h vs ds as→Prop:=fun vs ds o_ o_=>∃ bs,ReadsAll h vs ds bs
 let M3:∀ (es:List DictEntry) (kvs:List (D × D)),RdKv H h es kvs→Prop:=fun es kvs o_=>∃ bs cs,ReadsAll h (es.map (·.key)) (kvs.map (·.1)) bs∧ReadsAll h (es.map (·.val)) (kvs.map (·.2)) cs
 have c5:∀ {a:Addr} {vs:Array Value} {n:Nat} {xs:List D} {as:List Addr} (h1:h.get? a=some (listObj vs n)) (hz:vs.size≤sizeLine) (h2:RdAll H h vs.toList xs as),M2 _ _ _ h2→M1 (.ref a) (.list xs) (a::as) (.list h1 hz h2):=fun h1 o_ o_ ih=>ih.elim fun o_ r=>⟨_,.list h1 rfl rfl r⟩
 have c6:∀ {a:Addr} {vs:Array Value} {n:Nat} {xs:List D} {as:List Addr} (h1:h.get? a=some (tupObj vs n)) (hz:vs.size≤sizeLine) (h2:RdAll H h vs.toList xs as),M2 _ _ _ h2→M1 (.ref a) (.tuple xs) as (.tuple h1 hz h2):=fun h1 o_ o_ ih=>ih.elim fun o_ r=>⟨_,.tuple h1 rfl rfl r⟩
 have c7:∀ {a:Addr} {es:Array DictEntry} {n:Nat} {kvs:List (D × D)} (h0:a ≠ sysModules) (h1:h.get? a=some (dictObj es n)) (h2:RdKv H h es.toList kvs),M3 _ _ h2→M1 (.ref a) (.dict kvs) [a] (.dict h0 h1 h2):=fun o_ h1 o_ ih=>ih.elim fun o_ ih=>ih.elim fun o_ q=>⟨_,.dict h1 rfl rfl q.1 q.2⟩
 have c9:∀ {v:Value} {vs:List Value} {d:D} {ds:List D} {as bs:List Addr} (h1:Rd H h v d as) (h2:RdAll H h vs ds bs),M1 _ _ _ h1→M2 _ _ _ h2→M2 (v::vs) (d::ds) (as++bs) (.cons h1 h2):=fun o_ o_ i1 i2=>i1.elim fun o_ r=>i2.elim fun o_ q=>⟨_,.cons r q⟩
 have c11:∀ {e:DictEntry} {es:List DictEntry} {k v:D} {kvs:List (D × D)} (h1:Rd H h e.key k []) (h2:Rd H h e.val v []) (h3:e.hash=H k) (h4:RdKv H h es kvs),M1 _ _ _ h1→M1 _ _ _ h2→M3 _ _ h4→M3 (e::es) ((k,v)::kvs) (.cons h1 h2 h3 h4):=fun o_ o_ o_ o_ i1 i2 i4=>i1.elim fun o_ r=>i2.elim fun o_ q=>i4.elim fun o_ i4=>i4.elim fun o_ p=>⟨_,_,.cons r p.1,.cons q p.2⟩
 exact ⟨fun r=>Rd.rec (motive_1:=M1) (motive_2:=M2) (motive_3:=M3) ⟨_,.none⟩ (fun b=>⟨_,.bool b⟩) (fun i t=>⟨_,.int i t⟩) (fun x t o_ o_=>⟨_,.str x t⟩) c5 c6 c7 ⟨_,.nil⟩ c9 ⟨_,_,.nil,.nil⟩ c11 r,
  fun r=>RdAll.rec (motive_1:=M1) (motive_2:=M2) (motive_3:=M3) ⟨_,.none⟩ (fun b=>⟨_,.bool b⟩) (fun i t=>⟨_,.int i t⟩) (fun x t o_ o_=>⟨_,.str x t⟩) c5 c6 c7 ⟨_,.nil⟩ c9 ⟨_,_,.nil,.nil⟩ c11 r⟩
theorem Rd.reads {h:Heap} {v:Value} {d:D} {as:List Addr} (r:Rd H h v d as):∃ bs,Reads h v d bs:=Rd.reads_both.1 r
theorem Rd.canLay_both {h:Heap}:(∀ {v:Value} {d:D} {as:List Addr},Rd H h v d as→ce d=true→d.canLay0=true)∧(∀ {vs:List Value} {ds:List D} {as:List Addr},RdAll H h vs ds as→aY ds=true→PyData.canLayAll0 ds=true):=by
 let M1:∀ (v:Value) (d:D) (as:List Addr),Rd H h v d as→Prop:=fun o_ d o_ o_=>ce d=true→d.canLay0=true
 let M2:∀ (vs:List Value) (ds:List D) (as:List Addr),RdAll H h vs ds as→Prop:=fun o_ ds o_ o_=>aY ds=true→PyData.canLayAll0 ds=true
 let M3:∀ (es:List DictEntry) (kvs:List (D × D)),RdKv H h es kvs→Prop:=fun o_ o_ o_=>True
 have c4:∀ (x:Str) (t:Tok) (hz:x.length≤sizeLine) (ho:PyData.strOk x=true),M1 (.str x t) (.str x) [] (.str x t hz ho):=fun x o_ o_ ho o_=>by exact ho
 have c5:∀ {a:Addr} {vs:Array Value} {n:Nat} {xs:List D} {as:List Addr} (h1:h.get? a=some (listObj vs n)) (hz:vs.size≤sizeLine) (h2:RdAll H h vs.toList xs as),M2 _ _ _ h2→M1 (.ref a) (.list xs) (a::as) (.list h1 hz h2):=fun o_ o_ o_ ih q=>by simp only [PyData.canLay0];exact ih (q)
 have c6:∀ {a:Addr} {vs:Array Value} {n:Nat} {xs:List D} {as:List Addr} (h1:h.get? a=some (tupObj vs n)) (hz:vs.size≤sizeLine) (h2:RdAll H h vs.toList xs as),M2 _ _ _ h2→M1 (.ref a) (.tuple xs) as (.tuple h1 hz h2):=fun o_ o_ o_ ih q=>by simp only [PyData.canLay0];exact ih (q)
 have c9:∀ {v:Value} {vs:List Value} {d:D} {ds:List D} {as bs:List Addr} (h1:Rd H h v d as) (h2:RdAll H h vs ds bs),M1 _ _ _ h1→M2 _ _ _ h2→M2 (v::vs) (d::ds) (as++bs) (.cons h1 h2):=fun o_ o_ i1 i2 q=>by
  rw [ig,Bool.and_eq_true] at q
  rw [PyData.canLayAll0,i1 q.1,i2 q.2];rfl
 exact ⟨fun r=>Rd.rec (motive_1:=M1) (motive_2:=M2) (motive_3:=M3) (fun o_=>rfl) (fun o_ o_=>rfl) (fun o_ o_ o_=>rfl) c4 c5 c6 (fun o_ o_ o_ o_ q=>by cases q) (fun o_=>rfl) c9 trivial (fun o_ o_ o_ o_ o_ o_ o_=>trivial) r,
  fun r=>RdAll.rec (motive_1:=M1) (motive_2:=M2) (motive_3:=M3) (fun o_=>rfl) (fun o_ o_=>rfl) (fun o_ o_ o_=>rfl) c4 c5 c6 (fun o_ o_ o_ o_ q=>by cases q) (fun o_=>rfl) c9 trivial (fun o_ o_ o_ o_ o_ o_ o_=>trivial) r⟩
theorem Rd.canLay {h:Heap} {v:Value} {d:D} {as:List Addr} (r:Rd H h v d as) (hn:ce d=true):d.canLay0=true:=Rd.canLay_both.1 r hn
theorem RdAll.canLay {h:Heap} {v:List Value} {d:List D} {as:List Addr} (r:RdAll H h v d as) (hn:aY d=true):PyData.canLayAll0 d=true:=Rd.canLay_both.2 r hn
noncomputable def inn:D→List Addr→List Addr
 | .list _,as=>as.tail
 | .dict _,_=>[]
 | _,as=>as
theorem rF {d:D} {as:List Addr}:∀ a ∈ inn d as,a ∈ as:=by
 intro a h
 cases d<;>first | exact h | exact List.mem_of_mem_tail h | cases h
theorem Rd.inn_flat {h:Heap} {v:Value} {d:D} {as:List Addr} (r:Rd H h v d as) (hf:flat d=true):inn d as=[]:=by
 cases r with
 | list h1 h2 h3=>exact h3.noAddr (hf)
 | tuple h1 h2 h3=>exact h3.noAddr hf
 | dict=>rfl
 | _=>rfl
theorem Rd.innG {h:Heap} {v:Value} {d:D} {as:List Addr} {G:Addr→Prop} {q:Bool} (r:Rd H h v d as) (h1:q=false→∀ a ∈ as,G a) (h2:q=true→flat d=true):∀ a ∈ inn d as,G a:=by
 intro a m
 cases q with
 | false=>exact h1 rfl a (rF a m)
 | true=>rw [r.inn_flat (h2 rfl)] at m;cases m
theorem RdAll.append {h:Heap} {vs ws:List Value} {ds es:List D} {as bs:List Addr} (r:RdAll H h vs ds as) (k:RdAll H h ws es bs):RdAll H h (vs++ws) (ds++es) (as++bs):=
 r.ind (M:=fun vs ds as=>RdAll H h (vs++ws) (ds++es) (as++bs)) k fun o_ o_ o_ o_ o_ o_ h1 o_ i=>by rw [List.append_assoc];exact .cons h1 i
theorem RdAll.get {h:Heap} {vs:List Value} {ds:List D} {as:List Addr} (r:RdAll H h vs ds as) {k:Nat} {d:D} (e:ds[k]?=some d):∃ v bs,vs[k]?=some v∧Rd H h v d bs∧∀ a ∈ bs,a ∈ as:=
 r.ind (M:=fun vs ds as=>∀ (k:Nat) (d:D),ds[k]?=some d→∃ v bs,vs[k]?=some v∧Rd H h v d bs∧∀ a ∈ bs,a ∈ as) (fun k d e=>by cases e) (fun v vs d0 ds as bs h1 h2 i k d e=>by
  cases k with
  | zero=>cases e;exact ⟨v,as,rfl,h1,fun o_ q=>List.mem_append_left _ q⟩
  | succ k=>
   refine byG fun X_ g_=>?_
   obtain ⟨w,cs,e1,r,q⟩:=i k d e
   refine g_ ?_
   exact ⟨w,cs,e1,r,fun a m=>List.mem_append_right _ (q a m)⟩) k d e
theorem RdAll.getV {h:Heap} {vs:List Value} {ds:List D} {as:List Addr} (r:RdAll H h vs ds as) {k:Nat} {v:Value} (e:vs[k]?=some v):∃ d bs,ds[k]?=some d∧Rd H h v d bs∧∀ a ∈ bs,a ∈ as:=by
 have hk:k < ds.length:=by rw [← r.length];exact (List.getElem?_eq_some_iff.mp e).1
 refine byG fun X_ g_=>?_
 obtain ⟨w,bs,e1,r1,q⟩:=r.get (List.getElem?_eq_getElem hk)
 refine g_ ?_
 rw [e] at e1
 cases e1
 exact ⟨_,bs,List.getElem?_eq_getElem hk,r1,q⟩
theorem RdAll.drop {h:Heap} {vs:List Value} {ds:List D} {as:List Addr} (k:Nat) (r:RdAll H h vs ds as):∃ bs,RdAll H h (vs.drop k) (ds.drop k) bs∧∀ a ∈ bs,a ∈ as:=
 r.ind (M:=fun vs ds as=>∀ k:Nat,∃ bs,RdAll H h (vs.drop k) (ds.drop k) bs∧∀ a ∈ bs,a ∈ as) (fun k=>⟨[],by rw [List.drop_nil,List.drop_nil];exact .nil,fun o_ q=>q⟩) (fun v vs d ds as bs h1 h2 i k=>by
  cases k with
  | zero=>exact ⟨_,.cons h1 h2,fun o_ q=>q⟩
  | succ k=>obtain ⟨cs,r,q⟩:=i k;exact ⟨cs,r,fun a m=>List.mem_append_right _ (q a m)⟩) k
theorem RdAll.take {h:Heap} {vs:List Value} {ds:List D} {as:List Addr} (k:Nat) (r:RdAll H h vs ds as):∃ bs,RdAll H h (vs.take k) (ds.take k) bs∧∀ a ∈ bs,a ∈ as:=
 r.ind (M:=fun vs ds as=>∀ k:Nat,∃ bs,RdAll H h (vs.take k) (ds.take k) bs∧∀ a ∈ bs,a ∈ as) (fun k=>⟨[],by rw [List.take_nil,List.take_nil];exact .nil,fun o_ q=>q⟩) (fun v vs d ds as bs h1 h2 i k=>by
  cases k with
  | zero=>exact ⟨[],.nil,fun o_ q=>nomatch q⟩
  | succ k=>
   obtain ⟨cs,r,q⟩:=i k
   exact ⟨_,.cons h1 r,fun a m=>(List.mem_append.mp m).elim (fun m=>List.mem_append_left _ m) fun m=>List.mem_append_right _ (q a m)⟩) k
theorem RdAll.one {h:Heap} {v:Value} {d:D} {as:List Addr} (r:Rd H h v d as):RdAll H h [v] [d] as:=by simpa using RdAll.cons r .nil
theorem RdAll.reverse {h:Heap} {vs:List Value} {ds:List D} {as:List Addr} (r:RdAll H h vs ds as):∃ bs,RdAll H h vs.reverse ds.reverse bs∧∀ a ∈ bs,a ∈ as:=
 r.ind (M:=fun vs ds as=>∃ bs,RdAll H h vs.reverse ds.reverse bs∧∀ a ∈ bs,a ∈ as) ⟨[],.nil,fun o_ q=>q⟩ fun v vs d ds as bs h1 h2 i=>by
  obtain ⟨cs,r,q⟩:=i
  rw [List.reverse_cons,List.reverse_cons]
  refine ⟨_,r.append (RdAll.one h1),fun a m=>?_⟩
  rcases List.mem_append.mp m with m | m
  ·exact List.mem_append_right _ (q a m)
  ·exact List.mem_append_left _ m
theorem RdAll.set {h:Heap} {v:Value} {d:D} (r:Rd H h v d []) {vs:List Value} {ds:List D} {as:List Addr} (k:Nat) (ra:RdAll H h vs ds as) (e:as=[]):RdAll H h (vs.set k v) (ds.set k d) []:=
 ra.ind (M:=fun vs ds as=>∀ k:Nat,as=[]→RdAll H h (vs.set k v) (ds.set k d) []) (fun k o_=>by rw [List.set_nil,List.set_nil];exact .nil) (fun v0 vs d0 ds as bs h1 h2 i k e=>by
  obtain ⟨e1,e2⟩:=List.append_eq_nil_iff.mp e
  subst e1
  subst e2
  cases k with
  | zero=>exact .cons r h2
  | succ k=>exact .cons h1 (i k rfl)) k e
theorem RdAll.dropLast {h:Heap} {vs:List Value} {ds:List D} {as:List Addr} (r:RdAll H h vs ds as):∃ bs,RdAll H h vs.dropLast ds.dropLast bs∧∀ a ∈ bs,a ∈ as:=by
 rw [List.dropLast_eq_take,List.dropLast_eq_take,r.length]
 exact r.take _
theorem Rd.listE {h:Heap} {xs:List D} {motive:(v:Value)→(as:List Addr)→Rd H h v (.list xs) as→Prop} (mk:∀ {a:Addr} {vs:Array Value} {n:Nat} {as:List Addr} (h1:h.get? a=some (listObj vs n)) (h2:vs.size≤sizeLine) (h3:RdAll H h vs.toList xs as),motive (.ref a) (a::as) (.list h1 h2 h3)) {v:Value} {as:List Addr} (rd:Rd H h v (.list xs) as):motive v as rd:=by
 cases rd with
 | list h1 h2 h3=>exact mk h1 h2 h3
theorem Rd.tupleE {h:Heap} {xs:List D} {motive:(v:Value)→(as:List Addr)→Rd H h v (.tuple xs) as→Prop} (mk:∀ {a:Addr} {vs:Array Value} {n:Nat} {as:List Addr} (h1:h.get? a=some (tupObj vs n)) (h2:vs.size≤sizeLine) (h3:RdAll H h vs.toList xs as),motive (.ref a) as (.tuple h1 h2 h3)) {v:Value} {as:List Addr} (rd:Rd H h v (.tuple xs) as):motive v as rd:=by
 cases rd with
 | tuple h1 h2 h3=>exact mk h1 h2 h3
theorem Rd.intE {h:Heap} {i:Int} {motive:(v:Value)→(as:List Addr)→Rd H h v (.int i) as→Prop} (mk:∀ t:Tok,motive (.int i t) [] (.int i t)) {v:Value} {as:List Addr} (rd:Rd H h v (.int i) as):motive v as rd:=by
 cases rd with
 | int _ t=>exact mk t
theorem Rd.strE {h:Heap} {x:Str} {motive:(v:Value)→(as:List Addr)→Rd H h v (.str x) as→Prop} (mk:∀ (t:Tok) (hz:x.length≤sizeLine) (ho:PyData.strOk x=true),motive (.str x t) [] (.str x t hz ho)) {v:Value} {as:List Addr} (rd:Rd H h v (.str x) as):motive v as rd:=by
 cases rd with
 | str _ t hz ho=>exact mk t hz ho
end
end Mine
set_option tactic.hygienic false
namespace Mine
open PySem
section
variable {α:Type} {x:α} {d:Option α}
noncomputable def rG (e:PySem.Expr) (k:Const→Nat→Pos→Option α) (d:Option α):Option α:=if h:e.ctorIdx=19 then PySem.Expr.Constant.elim (motive_1:=fun _=>Option α) e h k else d
theorem oH {k:Const→Nat→Pos→Option α} {e:PySem.Expr} {G:PySem.Expr→Prop} (h:rG e k d=some x) (g:∀ a b c,k a b c=some x→G (.Constant a b c)) (g2:d=some x→G e):G e:=
 if q:e.ctorIdx=19 then PySem.Expr.Constant.elim (motive_1:=fun e=>rG e k d=some x→G e) e q g h else g2 ((dif_neg q).symm.trans h)
noncomputable def lp (e:PySem.Expr) (k:Str→Pos→Option α) (d:Option α):Option α:=if h:e.ctorIdx=23 then PySem.Expr.Name.elim (motive_1:=fun _=>Option α) e h k else d
theorem eZ {k:Str→Pos→Option α} {e:PySem.Expr} {G:PySem.Expr→Prop} (h:lp e k d=some x) (g:∀ a b,k a b=some x→G (.Name a b)) (g2:d=some x→G e):G e:=
 if q:e.ctorIdx=23 then PySem.Expr.Name.elim (motive_1:=fun e=>lp e k d=some x→G e) e q g h else g2 ((dif_neg q).symm.trans h)
noncomputable def ms (e:PySem.Expr) (k:List PySem.Expr→Nat→Pos→Option α) (d:Option α):Option α:=if h:e.ctorIdx=25 then PySem.Expr.Tuple.elim (motive_1:=fun _=>Option α) e h k else d
theorem gy {k:List PySem.Expr→Nat→Pos→Option α} {e:PySem.Expr} {G:PySem.Expr→Prop} (h:ms e k d=some x) (g:∀ a b c,k a b c=some x→G (.Tuple a b c)) (g2:d=some x→G e):G e:=
 if q:e.ctorIdx=25 then PySem.Expr.Tuple.elim (motive_1:=fun e=>ms e k d=some x→G e) e q g h else g2 ((dif_neg q).symm.trans h)
noncomputable def rH (e:PySem.Expr) (k:List PySem.Expr→Pos→Option α) (d:Option α):Option α:=if h:e.ctorIdx=24 then PySem.Expr.List.elim (motive_1:=fun _=>Option α) e h k else d
theorem oI {k:List PySem.Expr→Pos→Option α} {e:PySem.Expr} {G:PySem.Expr→Prop} (h:rH e k d=some x) (g:∀ a b,k a b=some x→G (.List a b)) (g2:d=some x→G e):G e:=
 if q:e.ctorIdx=24 then PySem.Expr.List.elim (motive_1:=fun e=>rH e k d=some x→G e) e q g h else g2 ((dif_neg q).symm.trans h)
noncomputable def rI (e:PySem.Expr) (k:PySem.Expr→Operator→PySem.Expr→Pos→Option α) (d:Option α):Option α:=if h:e.ctorIdx=2 then PySem.Expr.BinOp.elim (motive_1:=fun _=>Option α) e h k else d
theorem oJ {k:PySem.Expr→Operator→PySem.Expr→Pos→Option α} {e:PySem.Expr} {G:PySem.Expr→Prop} (h:rI e k d=some x) (g:∀ a b c d,k a b c d=some x→G (.BinOp a b c d)) (g2:d=some x→G e):G e:=
 if q:e.ctorIdx=2 then PySem.Expr.BinOp.elim (motive_1:=fun e=>rI e k d=some x→G e) e q g h else g2 ((dif_neg q).symm.trans h)
noncomputable def rJ (e:PySem.Expr) (k:UnaryOp→PySem.Expr→Pos→Option α) (d:Option α):Option α:=if h:e.ctorIdx=3 then PySem.Expr.UnaryOp.elim (motive_1:=fun _=>Option α) e h k else d
theorem oK {k:UnaryOp→PySem.Expr→Pos→Option α} {e:PySem.Expr} {G:PySem.Expr→Prop} (h:rJ e k d=some x) (g:∀ a b c,k a b c=some x→G (.UnaryOp a b c)) (g2:d=some x→G e):G e:=
 if q:e.ctorIdx=3 then PySem.Expr.UnaryOp.elim (motive_1:=fun e=>rJ e k d=some x→G e) e q g h else g2 ((dif_neg q).symm.trans h)
noncomputable def rK (e:PySem.Expr) (k:BoolOp→List PySem.Expr→Pos→Option α) (d:Option α):Option α:=if h:e.ctorIdx=0 then PySem.Expr.BoolOp.elim (motive_1:=fun _=>Option α) e h k else d
theorem oL {k:BoolOp→List PySem.Expr→Pos→Option α} {e:PySem.Expr} {G:PySem.Expr→Prop} (h:rK e k d=some x) (g:∀ a b c,k a b c=some x→G (.BoolOp a b c)) (g2:d=some x→G e):G e:=
 if q:e.ctorIdx=0 then PySem.Expr.BoolOp.elim (motive_1:=fun e=>rK e k d=some x→G e) e q g h else g2 ((dif_neg q).symm.trans h)
noncomputable def rL (e:PySem.Expr) (k:PySem.Expr→List CmpOp→List PySem.Expr→Pos→Option α) (d:Option α):Option α:=if h:e.ctorIdx=15 then PySem.Expr.Compare.elim (motive_1:=fun _=>Option α) e h k else d
theorem oM {k:PySem.Expr→List CmpOp→List PySem.Expr→Pos→Option α} {e:PySem.Expr} {G:PySem.Expr→Prop} (h:rL e k d=some x) (g:∀ a b c d,k a b c d=some x→G (.Compare a b c d)) (g2:d=some x→G e):G e:=
 if q:e.ctorIdx=15 then PySem.Expr.Compare.elim (motive_1:=fun e=>rL e k d=some x→G e) e q g h else g2 ((dif_neg q).symm.trans h)
noncomputable def oN (e:PySem.Expr) (k:PySem.Expr→PySem.Expr→Pos→Option α) (d:Option α):Option α:=if h:e.ctorIdx=21 then PySem.Expr.Subscript.elim (motive_1:=fun _=>Option α) e h k else d
theorem kn {k:PySem.Expr→PySem.Expr→Pos→Option α} {e:PySem.Expr} {G:PySem.Expr→Prop} (h:oN e k d=some x) (g:∀ a b c,k a b c=some x→G (.Subscript a b c)) (g2:d=some x→G e):G e:=
 if q:e.ctorIdx=21 then PySem.Expr.Subscript.elim (motive_1:=fun e=>oN e k d=some x→G e) e q g h else g2 ((dif_neg q).symm.trans h)
noncomputable def mv (e:PySem.Expr) (k:PySem.Expr→List PySem.Expr→List Keyword→Pos→Option α) (d:Option α):Option α:=if h:e.ctorIdx=16 then PySem.Expr.Call.elim (motive_1:=fun _=>Option α) e h k else d
theorem gz {k:PySem.Expr→List PySem.Expr→List Keyword→Pos→Option α} {e:PySem.Expr} {G:PySem.Expr→Prop} (h:mv e k d=some x) (g:∀ a b c d,k a b c d=some x→G (.Call a b c d)) (g2:d=some x→G e):G e:=
 if q:e.ctorIdx=16 then PySem.Expr.Call.elim (motive_1:=fun e=>mv e k d=some x→G e) e q g h else g2 ((dif_neg q).symm.trans h)
noncomputable def rM (e:PySem.Expr) (k:PySem.Expr→List Comprehension→Scope→Pos→Option α) (d:Option α):Option α:=if h:e.ctorIdx=8 then PySem.Expr.ListComp.elim (motive_1:=fun _=>Option α) e h k else d
theorem oO {k:PySem.Expr→List Comprehension→Scope→Pos→Option α} {e:PySem.Expr} {G:PySem.Expr→Prop} (h:rM e k d=some x) (g:∀ a b c d,k a b c d=some x→G (.ListComp a b c d)) (g2:d=some x→G e):G e:=
 if q:e.ctorIdx=8 then PySem.Expr.ListComp.elim (motive_1:=fun e=>rM e k d=some x→G e) e q g h else g2 ((dif_neg q).symm.trans h)
noncomputable def rN (e:PySem.Expr) (k:List (Option PySem.Expr)→List PySem.Expr→Pos→Option α) (d:Option α):Option α:=if h:e.ctorIdx=6 then PySem.Expr.Dict.elim (motive_1:=fun _=>Option α) e h k else d
theorem oP {k:List (Option PySem.Expr)→List PySem.Expr→Pos→Option α} {e:PySem.Expr} {G:PySem.Expr→Prop} (h:rN e k d=some x) (g:∀ a b c,k a b c=some x→G (.Dict a b c)) (g2:d=some x→G e):G e:=
 if q:e.ctorIdx=6 then PySem.Expr.Dict.elim (motive_1:=fun e=>rN e k d=some x→G e) e q g h else g2 ((dif_neg q).symm.trans h)
noncomputable def rO (e:PySem.Expr) (k:PySem.Expr→Str→Pos→Option α) (d:Option α):Option α:=if h:e.ctorIdx=20 then PySem.Expr.Attribute.elim (motive_1:=fun _=>Option α) e h k else d
theorem oQ {k:PySem.Expr→Str→Pos→Option α} {e:PySem.Expr} {G:PySem.Expr→Prop} (h:rO e k d=some x) (g:∀ a b c,k a b c=some x→G (.Attribute a b c)) (g2:d=some x→G e):G e:=
 if q:e.ctorIdx=20 then PySem.Expr.Attribute.elim (motive_1:=fun e=>rO e k d=some x→G e) e q g h else g2 ((dif_neg q).symm.trans h)
noncomputable def rP (e:PySem.Expr) (k:Option PySem.Expr→Option PySem.Expr→Option PySem.Expr→Pos→Option α) (d:Option α):Option α:=if h:e.ctorIdx=26 then PySem.Expr.Slice.elim (motive_1:=fun _=>Option α) e h k else d
theorem oR {k:Option PySem.Expr→Option PySem.Expr→Option PySem.Expr→Pos→Option α} {e:PySem.Expr} {G:PySem.Expr→Prop} (h:rP e k d=some x) (g:∀ a b c d,k a b c d=some x→G (.Slice a b c d)) (g2:d=some x→G e):G e:=
 if q:e.ctorIdx=26 then PySem.Expr.Slice.elim (motive_1:=fun e=>rP e k d=some x→G e) e q g h else g2 ((dif_neg q).symm.trans h)
noncomputable def onAs (e:PySem.Stmt) (k:List PySem.Expr→PySem.Expr→Pos→Option α) (d:Option α):Option α:=if h:e.ctorIdx=5 then PySem.Stmt.Assign.elim (motive_2:=fun _=>Option α) e h k else d
theorem rQ {k:List PySem.Expr→PySem.Expr→Pos→Option α} {e:PySem.Stmt} {G:PySem.Stmt→Prop} (h:onAs e k d=some x) (g:∀ a b c,k a b c=some x→G (.Assign a b c)) (g2:d=some x→G e):G e:=
 if q:e.ctorIdx=5 then PySem.Stmt.Assign.elim (motive_2:=fun e=>onAs e k d=some x→G e) e q g h else g2 ((dif_neg q).symm.trans h)
noncomputable def onEx (e:PySem.Stmt) (k:PySem.Expr→Pos→Option α) (d:Option α):Option α:=if h:e.ctorIdx=24 then PySem.Stmt.Expr.elim (motive_2:=fun _=>Option α) e h k else d
theorem rR {k:PySem.Expr→Pos→Option α} {e:PySem.Stmt} {G:PySem.Stmt→Prop} (h:onEx e k d=some x) (g:∀ a b,k a b=some x→G (.Expr a b)) (g2:d=some x→G e):G e:=
 if q:e.ctorIdx=24 then PySem.Stmt.Expr.elim (motive_2:=fun e=>onEx e k d=some x→G e) e q g h else g2 ((dif_neg q).symm.trans h)
noncomputable def onIf (e:PySem.Stmt) (k:PySem.Expr→List PySem.Stmt→List PySem.Stmt→Pos→Option α) (d:Option α):Option α:=if h:e.ctorIdx=12 then PySem.Stmt.If.elim (motive_2:=fun _=>Option α) e h k else d
theorem rS {k:PySem.Expr→List PySem.Stmt→List PySem.Stmt→Pos→Option α} {e:PySem.Stmt} {G:PySem.Stmt→Prop} (h:onIf e k d=some x) (g:∀ a b c d,k a b c d=some x→G (.If a b c d)) (g2:d=some x→G e):G e:=
 if q:e.ctorIdx=12 then PySem.Stmt.If.elim (motive_2:=fun e=>onIf e k d=some x→G e) e q g h else g2 ((dif_neg q).symm.trans h)
noncomputable def onWh (e:PySem.Stmt) (k:PySem.Expr→List PySem.Stmt→List PySem.Stmt→Pos→Option α) (d:Option α):Option α:=if h:e.ctorIdx=11 then PySem.Stmt.While.elim (motive_2:=fun _=>Option α) e h k else d
theorem rT {k:PySem.Expr→List PySem.Stmt→List PySem.Stmt→Pos→Option α} {e:PySem.Stmt} {G:PySem.Stmt→Prop} (h:onWh e k d=some x) (g:∀ a b c d,k a b c d=some x→G (.While a b c d)) (g2:d=some x→G e):G e:=
 if q:e.ctorIdx=11 then PySem.Stmt.While.elim (motive_2:=fun e=>onWh e k d=some x→G e) e q g h else g2 ((dif_neg q).symm.trans h)
noncomputable def onFo (e:PySem.Stmt) (k:PySem.Expr→PySem.Expr→List PySem.Stmt→List PySem.Stmt→Pos→Option α) (d:Option α):Option α:=if h:e.ctorIdx=9 then PySem.Stmt.For.elim (motive_2:=fun _=>Option α) e h k else d
theorem rU {k:PySem.Expr→PySem.Expr→List PySem.Stmt→List PySem.Stmt→Pos→Option α} {e:PySem.Stmt} {G:PySem.Stmt→Prop} (h:onFo e k d=some x) (g:∀ a b c d e,k a b c d e=some x→G (.For a b c d e)) (g2:d=some x→G e):G e:=
 if q:e.ctorIdx=9 then PySem.Stmt.For.elim (motive_2:=fun e=>onFo e k d=some x→G e) e q g h else g2 ((dif_neg q).symm.trans h)
noncomputable def onRe (e:PySem.Stmt) (k:Option PySem.Expr→Pos→Option α) (d:Option α):Option α:=if h:e.ctorIdx=3 then PySem.Stmt.Return.elim (motive_2:=fun _=>Option α) e h k else d
theorem rV {k:Option PySem.Expr→Pos→Option α} {e:PySem.Stmt} {G:PySem.Stmt→Prop} (h:onRe e k d=some x) (g:∀ a b,k a b=some x→G (.Return a b)) (g2:d=some x→G e):G e:=
 if q:e.ctorIdx=3 then PySem.Stmt.Return.elim (motive_2:=fun e=>onRe e k d=some x→G e) e q g h else g2 ((dif_neg q).symm.trans h)
noncomputable def onRa (e:PySem.Stmt) (k:Option PySem.Expr→Option PySem.Expr→Pos→Option α) (d:Option α):Option α:=if h:e.ctorIdx=16 then PySem.Stmt.Raise.elim (motive_2:=fun _=>Option α) e h k else d
theorem rW {k:Option PySem.Expr→Option PySem.Expr→Pos→Option α} {e:PySem.Stmt} {G:PySem.Stmt→Prop} (h:onRa e k d=some x) (g:∀ a b c,k a b c=some x→G (.Raise a b c)) (g2:d=some x→G e):G e:=
 if q:e.ctorIdx=16 then PySem.Stmt.Raise.elim (motive_2:=fun e=>onRa e k d=some x→G e) e q g h else g2 ((dif_neg q).symm.trans h)
end
structure TC where
 names:List Str
 kind:Str→Option NameKind
noncomputable def slotOf:List Str→Str→Option Nat
 | [],_=>none
 | y::r,x=>match slotOf r x with
  | some i=>some (i+1)
  | none=>if y == x then some 0 else none
theorem oS (x:Str):slotOf [] x=none:=rfl
theorem cq (x:Str) (y:Str) (r:List Str):slotOf (y::r) x=match slotOf r x with | some i=>some (i+1) | none=>if (y == x)=true then some 0 else none:=rfl
noncomputable def kindC (scope:Scope) (kind:Str→Option NameKind) (x:Str):Option NameKind:=
 match scope.names.lookup x with
 | some .free=>if kind x == some .cell then some .cell else some .free
 | k=>k
noncomputable def tyOf (x:Str):Option Ty:=
 if x == ("list" : Str) then some .list else if x == ("tuple" : Str) then some .tuple else if x == ("str" : Str) then some .str
 else if x == ("int" : Str) then some .int else if x == ("bool" : Str) then some .bool else none
noncomputable def b1Of (x:Str):Option B1:=
 if x == ("len" : Str) then some .len
 else if x == ("all" : Str) then some .all
 else if x == ("any" : Str) then some .any
 else if x == ("list" : Str) then some .list else if x == ("tuple" : Str) then some .tuple
 else if x == ("int" : Str) then some .int
 else none
noncomputable def okOp:Operator→Bool
 | .Add | .Sub | .Mult | .FloorDiv | .Mod | .Pow=>true
 | _=>false
noncomputable def kq (scope:Scope) (kind:Str→Option NameKind) (xs:List Str):Bool:=
 scope.kind == .function&&scope.names.all (fun y=>y.2 != .cell) &&
 scope.names.all (fun y=>y.2 != .local||scope.names.lookup y.1 == some .local) &&
 scope.names.all (fun y=>y.2 != .free||kind y.1 == some .cell) &&
 scope.names.all (fun y=>y.2 != .local||xs.contains y.1||y.1 == (".0" : Str)) &&
 xs.all fun x=>scope.names.lookup x == some .local
noncomputable def isSet (e:PySem.Expr):Bool:=Nat.beq e.ctorIdx 7
noncomputable def isStar (e:PySem.Expr):Bool:=Nat.beq e.ctorIdx 22
noncomputable def gE (e:PySem.Expr):Bool:=Nat.beq e.ctorIdx 26
noncomputable def dQ (e:PySem.Expr):Option Str:=lp e (fun x _=>some x) none
noncomputable def kt (e:PySem.Expr):Option (Str × Str × Pos):=rO e (fun o nm apos=>(dQ o).map fun x=>(x,nm,apos)) none
noncomputable def ip (e:PySem.Expr):Option (Str × List PySem.Expr):=mv e (fun fn args kws _=>if kws.isEmpty then (dQ fn).map fun g=>(g,args) else none) none
noncomputable def slOf (e:PySem.Expr):Option (Option PySem.Expr × Option PySem.Expr):=rP e (fun lo hi st _=>if st.isNone then some (lo,hi) else none) none
noncomputable def oT (fn:PySem.Expr) (args:List PySem.Expr) (kws:List Keyword) (cpos:Pos):Option (Str × PySem.Expr):=
 (kt fn).bind fun q=>if q.2.1 == ("index" : Str)&&kws.isEmpty&&q.2.2.endLine == cpos.line then (match args with
  | [x]=>if isStar x then none else some (q.1,x)
  | _=>none) else none
section
variable (ff:Str→Option Bool) (gcs:Str→Bool)
noncomputable def glob (c:TC) (x:Str):Bool:=c.kind x == some .globalImplicit&&x != ("__debug__" : Str)
noncomputable def iq (c:TC) (x:Str):Option Ex:=
 if x == ("__debug__" : Str) then none else
 match c.kind x with
 | some .local=>(slotOf c.names x).map .v
 | some .cell=>(slotOf c.names x).map .v
 | some .globalImplicit=>if gcs x then some (.gc x) else none
 | _=>none
noncomputable def trEs (f:PySem.Expr→Option Ex):List PySem.Expr→Option Exs
 | []=>some .nil
 | e::r=>if isStar e then none else (f e).bind fun a=>(trEs f r).map fun b=>.cons a b
theorem tE (f:Expr→Option Ex):trEs f []=some Exs.nil:=rfl
theorem tF (f:Expr→Option Ex) (e:Expr) (r:List Expr):trEs f (e::r)=if isStar e=true then none else (f e).bind fun (a:Ex)=>Option.map (fun (b:Exs)=>Exs.cons a b) (trEs f r):=rfl
noncomputable def trO (f:PySem.Expr→Option Ex):Option PySem.Expr→Option Exo
 | none=>some .none
 | some e=>(f e).map .some
theorem vg (f:Expr→Option Ex):trO f none=some Exo.none:=rfl
theorem vh (f:Expr→Option Ex) (e:Expr):trO f (some e)=Option.map Exo.some (f e):=rfl
noncomputable def ir (f:PySem.Expr→Option Ex):List PySem.Expr→Option It
 | [x]=>if isStar x then none else (f x).map .range1
 | [x,y]=>if isStar x||isStar y then none else (f x).bind fun a=>(f y).map fun b=>.range2 a b
 | _=>none
noncomputable def mw (c:TC) (e:PySem.Expr):Option (List PySem.Expr):=(ip e).bind fun q=>if glob c q.1&&q.1 == ("range" : Str) then some q.2 else none
noncomputable def rX (f:PySem.Expr→Option Ex) (c:TC) (e:PySem.Expr):Option It:=
 match mw c e with
 | some args=>ir f args
 | none=>(f e).map .plain
noncomputable def rY (f:PySem.Expr→Option Ex) (c:TC) (g:Str):List PySem.Expr→Option It
 | [x]=>if glob c g&&g == ("enumerate" : Str)&&!isStar x then (f x).map .enum else none
 | _=>none
noncomputable def tG (f:PySem.Expr→Option Ex) (c:TC) (e:PySem.Expr):Option It:=(ip e).bind fun q=>rY f c q.1 q.2
noncomputable def trIt (f:PySem.Expr→Option Ex) (c:TC) (xs:List Str) (e:PySem.Expr):Option It:=
 match xs with
 | [_]=>rX f c e
 | [_,_]=>tG f c e
 | _=>none
noncomputable def trC1 (f:PySem.Expr→Option Ex) (c:TC) (g:Str) (x:PySem.Expr):Option Ex:=
 if isStar x then none else (b1Of g).bind fun b=>(f x).map fun a=>.b1 b a
noncomputable def vi (f:PySem.Expr→Option Ex) (c:TC):List PySem.Expr→Option Ex
 | [a,t]=>(dQ t).bind fun t=>if glob c t&&!isStar a then (tyOf t).bind fun ty=>(f a).map fun b=>.isi b ty else none
 | _=>none
noncomputable def ku (f:PySem.Expr→Option Ex) (c:TC) (g:Str) (args:List PySem.Expr):Option Ex:=
 if !glob c g then none else
 if g == ("isinstance" : Str) then vi f c args else
 match ff g with
 | some fr=>if args.length≤20&&!args.isEmpty then (trEs f args).map fun es=>.call fr g es else none
 | none=>match args with
  | [x]=>trC1 f c g x
  | _=>none
noncomputable def gF:List PySem.Expr→Option (List Str)
 | [a,b]=>(dQ a).bind fun x=>(dQ b).bind fun y=>if x == y then none else some [x,y]
 | _=>none
noncomputable def cU (e:PySem.Expr):Option (List Str):=lp e (fun x _=>some [x]) (ms e (fun es _ _=>gF es) none)
noncomputable def rZ (f:PySem.Expr→Option Ex):List PySem.Expr→Option Exo
 | []=>some .none
 | [q]=>(f q).map .some
 | _=>none
noncomputable def trK:Const→Option D
 | .none=>some .none
 | .bool b=>some (.bool b)
 | .int i=>some (.int i)
 | .str x=>some (.str x)
 | _=>none
noncomputable def trUn:UnaryOp→Option Ex→Option Ex
 | .USub,a=>a.map .neg
 | .Not,a=>a.map .not
 | _,_=>none
noncomputable def tH (f:PySem.Expr→Option Ex) (l:PySem.Expr):List CmpOp→List PySem.Expr→Option Ex
 | [op],[r]=>if isSet r then none else (f l).bind fun a=>(f r).map fun b=>.cmp op a b
 | [o1,o2],[r1,r2]=>if lastMarks [o1,o2] [r1,r2] then none else (f l).bind fun a=>(f r1).bind fun b=>(f r2).map fun c=>.cmp2 o1 o2 a b c
 | _,_=>none
noncomputable def r5 (f:PySem.Expr→Option Ex) (v i:PySem.Expr):Option Ex:=
 match slOf i with
 | some q=>(f v).bind fun a=>(trO f q.1).bind fun l=>(trO f q.2).map fun h=>.sl a l h
 | none=>if gE i then none else (f v).bind fun a=>(f i).map fun b=>.idx a b
noncomputable def mx (fr:TC→PySem.Expr→Option Ex) (c:TC) (elt:PySem.Expr) (scope:Scope):List Comprehension→Option Ex
 | [g]=>if g.is_async != 0||isSet g.iter||c.names.contains (".0" : Str) then none else (cU g.target).bind fun xs=>
  if kq scope c.kind xs&&!xs.contains (".0" : Str) then (trIt (fr c) c xs g.iter).bind fun it=>(fr ⟨c.names++xs,kindC scope c.kind⟩ elt).bind fun a=>
   (rZ (fr ⟨c.names++xs,kindC scope c.kind⟩) g.ifs).map fun b=>.comp a it b else none
 | _=>none
noncomputable def tI (f:PySem.Expr→Option Ex):List (Option PySem.Expr)→List PySem.Expr→Option Ex
 | [],[]=>some (.dic .nil .nil)
 | [k],[v]=>k.bind fun k=>(f k).bind fun a=>(f v).map fun b=>.dic (.cons a .nil) (.cons b .nil)
 | _,_=>none
noncomputable def trE1 (f:TC→PySem.Expr→Option Ex) (c:TC) (e:PySem.Expr):Option Ex:=
 rG e (fun k _ _=>(trK k).map .k) <|
 lp e (fun x _=>iq gcs c x) <|
 ms e (fun es _ _=>if es.length≤100 then (trEs (f c) es).map .tup else none) <|
 rH e (fun es _=>if es.length≤100 then (trEs (f c) es).map .lst else none) <|
 rI e (fun l op r _=>if okOp op then (f c l).bind fun a=>(f c r).map fun b=>.bin op a b else none) <|
 rJ e (fun op x _=>trUn op (f c x)) <|
 rK e (fun op vs _=>if vs.isEmpty then none else (trEs (f c) vs).map fun es=>.bool (op == .And) es) <|
 rL e (fun l ops rs _=>tH (f c) l ops rs) <|
 oN e (fun v i _=>r5 (f c) v i) <|
 mv e (fun fn args kws cpos=>match oT fn args kws cpos with
  | some q=>(iq gcs c q.1).bind fun a=>(f c q.2).map fun b=>.index a b
  | none=>(ip (.Call fn args kws cpos)).bind fun q=>ku ff (f c) c q.1 q.2) <|
 rM e (fun elt gens scope _=>mx f c elt scope gens) <|
 rN e (fun ks vs _=>tI (f c) ks vs) none
noncomputable def trE:Nat→TC→PySem.Expr→Option Ex
 | 0,_,_=>none
 | n+1,c,e=>trE1 ff gcs (trE n) c e
noncomputable def varOf (c:TC) (x:Str):Option Nat:=
 if x == ("__debug__" : Str) then none else
 match c.kind x with
 | some .local=>slotOf c.names x
 | some .cell=>slotOf c.names x
 | _=>none
noncomputable def my (f:PySem.Expr→Option Ex) (c:TC) (x:Str) (nm:Str) (args:List PySem.Expr):Option Sm:=
 (varOf c x).bind fun i=>
  if nm == ("append" : Str) then (match args with
   | [a]=>if isStar a then none else (f a).map fun b=>.app i b
   | _=>none)
  else if nm == ("pop" : Str) then (match args with
   | []=>some (.pop i)
   | _=>none)
  else if nm == ("reverse" : Str) then (match args with
   | []=>some (.rev i)
   | _=>none)
  else none
noncomputable def isComp (e:PySem.Expr):Bool:=Nat.ble 8 e.ctorIdx&&Nat.ble e.ctorIdx 10
noncomputable def vj (c:TC) (value:PySem.Expr):List Str→Option Sm
 | [x,y]=>(varOf c x).bind fun i=>(varOf c y).bind fun j=>(trE ff gcs 40 c value).map fun e=>.unp i j e
 | _=>none
noncomputable def tJ (c:TC) (value t:PySem.Expr):Option Sm:=
 lp t (fun x _=>(varOf c x).bind fun i=>(trE ff gcs 40 c value).map fun e=>.asg i e) <|
 oN t (fun o ix _=>(dQ o).bind fun x=>if gE ix||isComp value then none else (varOf c x).bind fun i=>(trE ff gcs 40 c value).bind fun e=>(trE ff gcs 40 c ix).map fun k=>.seti i k e) <|
 ms t (fun es _ _=>if (dQ value).isSome then (gF es).bind fun xs=>vj ff gcs c value xs else none) none
noncomputable def trX (c:TC) (value:PySem.Expr):Option Sm:=
 mv value (fun fn args kws cpos=>match kt fn with
  | some q=>if kws.isEmpty&&q.2.2.endLine == cpos.line then my (trE ff gcs 40 c) c q.1 q.2.1 args else none
  | none=>if (dQ fn).isSome then (trE ff gcs 40 c (.Call fn args kws cpos)).map .ex else none) none
noncomputable def r6 (f:PySem.Expr→Option Ex) (c:TC) (tgt iter:PySem.Expr) (b:Option Sms):Option Sm:=
 if isSet iter then none else (cU tgt).bind fun xs=>(trIt f c xs iter).bind fun it=>b.bind fun b=>(match xs with
  | [x]=>(varOf c x).map fun i=>.for1 i it b
  | [x,y]=>(varOf c x).bind fun i=>(varOf c y).map fun j=>.for2 i j it b
  | _=>none)
noncomputable def trA1 (c:TC) (value:PySem.Expr):List PySem.Expr→Option Sm
 | [t]=>tJ ff gcs c value t
 | _=>none
noncomputable def trS (g:List PySem.Stmt→Option Sms) (c:TC) (st:PySem.Stmt):Option Sm:=
 onAs st (fun ts value _=>trA1 ff gcs c value ts) <|
 onEx st (fun value _=>trX ff gcs c value) <|
 onIf st (fun test body orelse _=>(trE ff gcs 40 c test).bind fun q=>(g body).bind fun a=>(g orelse).map fun b=>.ite q a b) <|
 onWh st (fun test body orelse _=>if orelse.isEmpty then (trE ff gcs 40 c test).bind fun q=>(g body).map fun a=>.wh q a else none) <|
 onFo st (fun tgt iter body orelse _=>if orelse.isEmpty then r6 (trE ff gcs 40 c) c tgt iter (g body) else none) <|
 onRe st (fun value _=>value.bind fun v=>(trE ff gcs 40 c v).map .ret) <|
 onRa st (fun _ _ _=>some .stuck) none
noncomputable def trSs:Nat→TC→List PySem.Stmt→Option Sms
 | _,_,[]=>some .nil
 | 0,_,_=>none
 | n+1,c,s::r=>(trS ff gcs (trSs n c) c s).bind fun a=>(trSs n c r).map fun b=>.cons a b
end
end Mine
set_option tactic.hygienic true
namespace Mine
open PySem
noncomputable def mz (w:World) (e:EnK):Int:=reduceHash (Builtin.Tuple.tupleHashOf [hashStr w e.1,hashStr w e.2.1,hashInt e.2.2.1,hashStr w e.2.2.2.1,reduceHash (if e.2.2.2.2 then 1 else 0)])
noncomputable def cx (w:World) (p:StK):Int:=reduceHash (Builtin.Tuple.tupleHashOf [hashInt p.1,reduceHash (Builtin.Tuple.tupleHashOf (p.2.map (mz w)))])
end Mine
set_option tactic.hygienic false
namespace Mine
open PySem
noncomputable def nm (ow:List Nat) (e:Ex):Bool:=!isOw ow e
noncomputable def nmEs (ow:List Nat):Exs→Bool
 | .nil=>true
 | .cons e es=>nm ow e&&nmEs ow es
noncomputable def tK:D→Bool
 | .str x=>decide (x.length≤1000)&&PyData.strOk x
 | _=>true
mutual
noncomputable def okE (ow:List Nat):Ex→Bool
 | .k d=>noList d&&tK d
 | .v _=>true
 | .gc _=>true
 | .tup es=>okEs ow es&&nmEs ow es
 | .lst es=>okEs ow es&&nmEs ow es
 | .dic a b=>okEs ow a&&okEs ow b
 | .bin _ a b=>okE ow a&&okE ow b
 | .neg a=>okE ow a
 | .not a=>okE ow a
 | .bool _ es=>okEs ow es&&nmEs ow es
 | .cmp _ a b=>okE ow a&&okE ow b
 | .cmp2 _ _ a b c=>okE ow a&&okE ow b&&okE ow c
 | .idx a b=>okE ow a&&okE ow b
 | .sl a l h=>okE ow a&&okO ow l&&okO ow h
 | .call fr _ es=>okEs ow es&&(fr||nmEs ow es)
 | .b1 _ a=>okE ow a
 | .isi a _=>okE ow a
 | .index a b=>okE ow a&&okE ow b
 | .comp e it c=>okE ow e&&nm ow e&&okIt ow it&&okO ow c
noncomputable def okEs (ow:List Nat):Exs→Bool
 | .nil=>true
 | .cons e es=>okE ow e&&okEs ow es
noncomputable def okO (ow:List Nat):Exo→Bool
 | .none=>true
 | .some e=>okE ow e
noncomputable def okIt (ow:List Nat):It→Bool
 | .plain e=>okE ow e
 | .range1 e=>okE ow e
 | .range2 a b=>okE ow a&&okE ow b
 | .enum e=>okE ow e
 | .zip a b=>okE ow a&&okE ow b
end
theorem vm (ow:List Nat) (e:Ex):okO ow (Exo.some e)=okE ow e:=rfl
theorem tL (ow:List Nat) (e:Ex):okIt ow (It.plain e)=okE ow e:=rfl
theorem tM (ow:List Nat) (e:Ex):okIt ow (It.range1 e)=okE ow e:=rfl
theorem tN (ow:List Nat) (a:Ex) (b:Ex):okIt ow (It.range2 a b)=(okE ow a&&okE ow b):=rfl
theorem tO (ow:List Nat) (e:Ex):okIt ow (It.enum e)=okE ow e:=rfl
theorem vn (ow:List Nat) (es:Exs):okE ow (.tup es)=(okEs ow es&&nmEs ow es):=rfl
theorem vo (ow:List Nat) (es:Exs):okE ow (.lst es)=(okEs ow es&&nmEs ow es):=rfl
theorem vp (ow:List Nat) (op:Operator) (a b:Ex):okE ow (.bin op a b)=(okE ow a&&okE ow b):=rfl
theorem vq (ow:List Nat) (a:Ex):okE ow (.neg a)=okE ow a:=rfl
theorem tP (ow:List Nat) (a:Ex):okE ow (.not a)=okE ow a:=rfl
theorem qL (ow:List Nat) (q:Bool) (es:Exs):okE ow (.bool q es)=(okEs ow es&&nmEs ow es):=rfl
theorem tQ (ow:List Nat) (op:CmpOp) (a b:Ex):okE ow (.cmp op a b)=(okE ow a&&okE ow b):=rfl
theorem vr (ow:List Nat) (a b:Ex):okE ow (.idx a b)=(okE ow a&&okE ow b):=rfl
theorem o_sl (ow:List Nat) (a:Ex) (l h:Exo):okE ow (.sl a l h)=(okE ow a&&okO ow l&&okO ow h):=rfl
theorem tR (ow:List Nat) (fr:Bool) (f:Str) (es:Exs):okE ow (.call fr f es)=(okEs ow es&&(fr||nmEs ow es)):=rfl
theorem o_b1 (ow:List Nat) (f:B1) (a:Ex):okE ow (.b1 f a)=okE ow a:=rfl
theorem vt (ow:List Nat) (a:Ex) (t:Ty):okE ow (.isi a t)=okE ow a:=rfl
theorem vw (ow:List Nat) (a b:Exs):okE ow (.dic a b)=(okEs ow a&&okEs ow b):=rfl
theorem tS (ow:List Nat) (e:Ex) (it:It) (c:Exo):okE ow (.comp e it c)=(okE ow e&&nm ow e&&okIt ow it&&okO ow c):=rfl
structure FR where
 params:Arguments
 body:List Stmt
 scope:Scope
noncomputable def biNames:List Str:=["len", "all", "any", "sum", "list", "tuple", "int", "isinstance", "str", "bool", "reversed", "range", "enumerate", "zip"]
structure Pk where
 prog:Program
 w:World
 H:D→Int
 mg:Str→Option Value
 mb:Str→Option Value
 Φ:Str→List D→Option D
 Γ:Str→Option D
 defs:Str→Option FR
 fr:Str→Option Bool
noncomputable def mA (P:Pk):Prop:=(∀ x:Str,P.H (.str x)=hashStr P.w x)∧∀ p:StK,P.H (stK p)=cx P.w p
structure Pk.GP (P:Pk) (h:Heap):Prop where
 g:h.Ns mainGlobals P.mg
 b:h.Ns builtinsNs P.mb
 nolimit:h.NoLimit
 fn:∀ f r,P.defs f=some r→∃ a o pm code doc,P.mg f=some (.ref a)∧h.get? a=some o∧o.data = .func (Calls.docDef f r.params r.body r.scope pm code doc)∧h.CodeRec code f
 gc:∀ x d,P.Γ x=some d→noList d=true∧∃ v,P.mg x=some v∧Rd P.H h v d []
 bi:∀ x ∈ biNames,P.mg x=none
 bb:∀ x:Str,x ≠ "__name__" → P.mb x=bootBuiltins x
 hs:mA P
theorem Pk.GP.keeps {P:Pk} {h h':Heap} (g:P.GP h) (hk:∀ b o,h.get? b=some o→h'.get? b=some o):P.GP h' where
 g:=g.g.keeps hk
 b:=g.b.keeps hk
 nolimit:=g.nolimit.keeps hk
 fn:=fun f r e=>by obtain ⟨a,o,pm,code,doc,h1,h2,h3,h4⟩:=g.fn f r e;exact ⟨a,o,pm,code,doc,h1,hk _ _ h2,h3,h4.keeps hk⟩
 gc:=fun x d e=>⟨(g.gc x d e).1,(g.gc x d e).2.imp fun v h=>⟨h.1,h.2.keeps hk⟩⟩
 bi:=g.bi
 bb:=g.bb
 hs:=g.hs
structure Room (A:Around) (r:Nat):Prop where
 hd:A.handled=none
 depth:A.depth+r+60 < recursionLimit
 units:A.units+4 * r+300 < cLine
noncomputable def VarAt (env:Env) (h:Heap) (x:Str) (v:Value):Prop:=
 (env.kindOf x=some .local∧∃ mm,h.Ns env.locals mm∧mm x=some v)∨(env.kindOf x=some .cell∧∃ c,env.cells.lookup x=some c∧h.IsCell c (some v))
structure EnvR (H:D→Int) (c:TC) (env:Env) (ow:List Nat) (own:Nat→Addr) (G:Addr→Prop) (h:Heap) (m:St):Prop where
 fn:env.scope.kind = .function
 gl:env.globals=mainGlobals
 bu:env.builtins=builtinsNs
 kd:∀ x,env.kindOf x=c.kind x
 len:m.length=c.names.length
 owlt:∀ i,ow.contains i=true→i < m.length
 cel:∀ x,env.kindOf x=some .cell→∃ a,env.cells.lookup x=some a
 var:∀ x i d,slotOf c.names x=some i→m[i]?=some (some d)→(c.kind x=some .local∨c.kind x=some .cell) →
  ∃ v as,VarAt env h x v∧Rd H h v d as∧(ow.contains i=true→flat d=true∧∀ a ∈ as,a=own i)∧(ow.contains i=false→∀ a ∈ as,G a)
theorem VarAt.keeps {env:Env} {h h':Heap} {x:Str} {v:Value} (q:VarAt env h x v) (hk:∀ b o,h.get? b=some o→h'.get? b=some o):VarAt env h' x v:=
 q.imp (fun ⟨a,mm,b,c⟩=>⟨a,mm,b.keeps hk,c⟩) fun ⟨a,cc,b,c⟩=>⟨a,cc,b,c.keeps hk⟩
theorem EnvR.keeps {H:D→Int} {c:TC} {env:Env} {ow:List Nat} {own:Nat→Addr} {G:Addr→Prop} {h h':Heap} {m:St} (R:EnvR H c env ow own G h m)
 (hk:∀ b o,h.get? b=some o→h'.get? b=some o):EnvR H c env ow own G h' m where
 fn:=R.fn
 gl:=R.gl
 bu:=R.bu
 kd:=R.kd
 len:=R.len
 owlt:=R.owlt
 cel:=R.cel
 var:=fun x i d h1 h2 h3=>(R.var x i d h1 h2 h3).imp fun v q=>q.imp fun as q=>⟨q.1.keeps hk,q.2.1.keeps hk,q.2.2⟩
noncomputable def Kp (s s':Shared):Prop:=PySem.Keeps s s'
theorem Kp.refl (s:Shared):Kp s s:=⟨s.heap,s.toks,rfl,fun _ _ e=>e⟩
theorem Kp.trans {a b c:Shared} (h:Kp a b) (k:Kp b c):Kp a c:=by
 obtain ⟨h1,t1,rfl,k1⟩:=h
 obtain ⟨h2,t2,rfl,k2⟩:=k
 exact ⟨h2,t2,rfl,fun b o e=>k2 b o (k1 b o e)⟩
theorem Kp.get {a b:Shared} (h:Kp a b):∀ x o,a.heap.get? x=some o→b.heap.get? x=some o:=by
 refine byG fun X_ g_=>?_
 obtain ⟨h1,t1,rfl,k1⟩:=h
 refine g_ ?_
 exact k1
theorem Kp.none {a b:Shared} (h:Kp a b) {x:Addr} (e:b.heap.get? x=none):a.heap.get? x=none:=by
 cases q:a.heap.get? x with
 | none=>rfl
 | some o=>rw [h.get x o q] at e;cases e
theorem Kp.toks (s:Shared) (t:Nat):Kp s { s with toks:=t }:=⟨s.heap,t,rfl,fun _ _ e=>e⟩
theorem Kp.heap (s:Shared) (h:Heap) (hk:∀ b o,s.heap.get? b=some o→h.get? b=some o):Kp s { s with heap:=h }:=⟨h,s.toks,rfl,hk⟩
theorem Kp.push (s:Shared) (o:Obj):Kp s { s with heap:=s.heap.push o }:=⟨_,s.toks,rfl,fun _ _ e=>Heap.get?_push_of_some _ e⟩
noncomputable def ownA (own:Nat→Addr):Ex→Addr
 | .v i=>own i
 | _=>0
noncomputable def PostE (P:Pk) (ow:List Nat) (own:Nat→Addr) (G:Addr→Prop) (e':Ex) (d:D) (s:Shared) (v:Value) (s':Shared):Prop:=
 Kp s s'∧∃ as,Rd P.H s'.heap v d as∧(isOw ow e'=false→∀ a ∈ as,G a)∧(isOw ow e'=true→flat d=true) ∧
  (frE e'=true→flat d=true→∀ a ∈ as,s.heap.get? a=none)∧(isOw ow e'=true→∀ a ∈ as,a=ownA own e')
noncomputable def Pk.SE (P:Pk) (r:Nat) (c:TC) (e:PySem.Expr) (e':Ex):Prop:=
 ∀ (A:Around) (env:Env) (s:Shared) (m:St) (ow:List Nat) (own:Nat→Addr) (G:Addr→Prop) (d:D),Room A r→P.GP s.heap →
  EnvR P.H c env ow own G s.heap m→(∀ a,s.heap.get? a=none→G a)→okE ow e'=true→evE P.Φ P.Γ e' m=some d →
  wpAny (model P.prog P.w) A (eval e env) (PostE P ow own G e' d s) (fun _ _=>False) s
noncomputable def Pk.ST (P:Pk) (r:Nat) (c:TC) (e:PySem.Expr) (e':Ex):Prop:=
 ∀ (A:Around) (env:Env) (s:Shared) (m:St) (ow:List Nat) (own:Nat→Addr) (G:Addr→Prop) (d:D) (b:Bool),Room A r→P.GP s.heap →
  EnvR P.H c env ow own G s.heap m→(∀ a,s.heap.get? a=none→G a)→okE ow e'=true→evE P.Φ P.Γ e' m=some d→truth d=some b →
  wpAny (model P.prog P.w) A (isTrue e env (eval e env)) (fun b' s'=>b'=b∧Kp s s') (fun _ _=>False) s
noncomputable def Pk.FnOk (P:Pk) (r:Nat):Prop:=
 ∀ f fr,P.fr f=some fr→∀ (A:Around) (s:Shared) (vs:List Value) (ds:List D) (as:List Addr) (d:D),Room A r→P.GP s.heap→RdAll P.H s.heap vs ds as→P.Φ f ds=some d →
  ∃ a o fd,P.mg f=some (.ref a)∧s.heap.get? a=some o∧o.data = .func fd∧wpAny (model P.prog P.w) A (call (.ref a) vs)
   (fun v s'=>Kp s s'∧∃ bs,Rd P.H s'.heap v d bs∧(∀ x ∈ bs,s.heap.get? x=none∨x ∈ as)∧(fr=true→∀ x ∈ bs,s.heap.get? x=none)) (fun _ _=>False) s
section
variable {P:Pk} {r:Nat} {c:TC}
theorem PostE.flat0 {ow:List Nat} {own:Nat→Addr} {G:Addr→Prop} {e':Ex} {d:D} {s s':Shared} {v:Value} {as:List Addr} (k:Kp s s') (rd:Rd P.H s'.heap v d as) (hn:noList d=true) (hi:isOw ow e'=false):PostE P ow own G e' d s v s':=by
 have e:=rd.noAddr hn
 subst e
 exact ⟨k,[],rd,fun _ _ q=>(nomatch q),fun q=>(by rw [hi] at q;cases q),fun _ _ _ q=>(nomatch q),fun _ _ q=>(nomatch q)⟩
theorem jr {k:Const} {kk:Nat} {pos:Pos} {d:D} (hk:trK k=some d):P.SE r c (.Constant k kk pos) (.k d):=by
 intro A env s m ow own G d' hA hg R hG hok hev
 simp only [x_k,Option.some.injEq] at hev
 subst hev
 rw [eval_Constant]
 cases k<;>first | (cases hk;done) | cases hk
 ·exact wpAny_pure (PostE.flat0 (Kp.refl s) .none rfl rfl)
 ·exact wpAny_pure (PostE.flat0 (Kp.refl s) (.bool _) rfl rfl)
 ·exact wpAny_mkInt (PostE.flat0 (Kp.toks s _) (.int _ _) rfl rfl)
 ·exact wpAny_mkText (PostE.flat0 (Kp.toks s _) (.str _ _ (Nat.le_trans (of_decide_eq_true (Bool.and_eq_true_iff.mp (Bool.and_eq_true_iff.mp hok).2).1) (by decide)) (Bool.and_eq_true_iff.mp (Bool.and_eq_true_iff.mp hok).2).2) rfl rfl)
theorem f9 {x:Str} {pos:Pos} {i:Nat} (hx:x ≠ ("__debug__" : Str)) (hk:c.kind x=some .local∨c.kind x=some .cell) (hs:slotOf c.names x=some i):P.SE r c (.Name x pos) (.v i):=by
 intro A env s m ow own G d hA hg R hG hok hev
 have hm:m[i]?=some (some d):=by
  simp only [x_v] at hev
  cases q:m[i]? with
  | none=>rw [q] at hev;cases hev
  | some y=>rw [q] at hev;simp only [bX] at hev;rw [hev]
 refine byG fun X_ g_=>?_
 obtain ⟨v,as,hv,rd,h1,h2⟩:=R.var x i d hs hm hk
 refine g_ ?_
 have post:PostE P ow own G (.v i) d s v s:=⟨Kp.refl s,as,rd,fun q=>h2 q,fun q=>(h1 q).1,fun q=>(by cases q),fun q=>(h1 q).2⟩
 refine wpAny_Name ?_ (by simpa using hx)
 rcases hv with ⟨hl,mm,hn,hv⟩ | ⟨hl,cc,hc,hv⟩
 ·exact wpAny_loadName_local R.fn hl hn hv post
 ·exact wpAny_loadName_cell R.fn hl hc hv post
theorem vx {x:Str} {pos:Pos} (hx:x ≠ ("__debug__" : Str)) (hk:c.kind x=some .globalImplicit):P.SE r c (.Name x pos) (.gc x):=by
 intro A env s m ow own G d hA hg R hG hok hev
 simp only [x_gc] at hev
 refine byG fun X_ g_=>?_
 obtain ⟨hn,v,hv,rd⟩:=hg.gc x d hev
 refine g_ ?_
 exact Calls.Name_function_global R.fn ((R.kd x).trans hk) (Calls.loadGlobal_global (by rw [R.gl];exact hg.g) hv (PostE.flat0 (Kp.refl s) rd hn rfl)) (by simpa using hx)
end
end Mine
set_option tactic.hygienic false
namespace Mine
open PySem
section
variable {H:D→Int} {prog:Program} {w:World}
inductive KvR (H:D→Int):List (Str × Value)→List (D × D)→Prop
 | nil:KvR H [] []
 | cons {x:Str} {v:Value} {d:D} {l:List (Str × Value)} {r:List (D × D)}:x.length≤sizeLine→PyData.strOk x=true→isScalar d=true→(∀ h:Heap,Rd H h v d [])→KvR H l r→KvR H ((x,v)::l) ((.str x,d)::r)
theorem kx (x:Str):strK (.str x)=some x:=rfl
theorem Rd.scal {h:Heap} {v:Value} {d:D} {as:List Addr} (r:Rd H h v d as) (hs:isScalar d=true):as=[]∧∀ h':Heap,Rd H h' v d []:=by
 cases r<;>first
  | (cases hs;done)
  | exact ⟨rfl,fun o_=>.none⟩
  | exact ⟨rfl,fun o_=>.bool _⟩
  | exact ⟨rfl,fun o_=>.int _ _⟩
  | exact ⟨rfl,fun o_=>.str _ _ (by assumption) (by assumption)⟩
theorem vy (hH:∀ x:Str,H (.str x)=hashStr w x) {h:Heap}:∀ (kvs:List (D × D)) (es:List DictEntry) (ks:List Str),RdKv H h es kvs→lm kvs=some ks→(kvs.all fun p=>isScalar p.2)=true →
 ∃ l,Pairs (strKind prog w) es l∧KvR H l kvs∧l.map (·.1)=ks∧∀ e ∈ es,∃ k,(strKind prog w).is k e.key=true∧e.hash=(strKind prog w).hash k:=by
 intro kvs
 induction kvs with
 | nil=>
  intro es ks r hk _
  cases r
  cases hk
  exact ⟨[],.nil,.nil,rfl,fun e he=>nomatch he⟩
 | cons p kvs ih=>
  intro es ks r hk hs
  obtain ⟨k,d⟩:=p
  cases r with
  | @cons e es _ _ _ r1 r2 r3 r4=>
   refine aa hk fun x e1 hk2=>?_
   obtain ⟨xs,e2,rfl⟩:=ag hk2
   rw [List.all_cons,Bool.and_eq_true] at hs
   have hkx:k = .str x:=by cases k<;>first | (cases e1;done) | (cases e1;rfl)
   subst hkx
   obtain ⟨l,h1,h2,h3,h4⟩:=ih es xs r4 e2 hs.2
   generalize hkey:e.key=kv at r1
   cases r1 using Rd.strE with
   | mk t hz ho=>
    have his:(strKind prog w).is x e.key=true:=by rw [hkey];simp [strKind,Value.isStrOf]
    refine ⟨(x,e.val)::l,.cons his rfl h1,.cons hz ho hs.1 (r2.scal hs.1).2 h2,by rw [List.map_cons,h3],fun e' he'=>?_⟩
    rcases List.mem_cons.mp he' with q | q
    ·subst q;exact ⟨x,his,by rw [r3,hH];rfl⟩
    ·exact h4 e' q
theorem r7 (hH:∀ x:Str,H (.str x)=hashStr w x) {h:Heap}:∀ {es:List DictEntry} {l:List (Str × Value)} {kvs:List (D × D)},Pairs (strKind prog w) es l→(∀ e ∈ es,∃ k,(strKind prog w).is k e.key=true∧e.hash=(strKind prog w).hash k)→KvR H l kvs→RdKv H h es kvs:=by
 intro es l kvs hp
 induction hp generalizing kvs with
 | nil=>intro _ k;cases k;exact .nil
 | @cons e kv es l h1 h2 h3 ih=>
  intro hk k
  obtain ⟨x,v⟩:=kv
  cases k with
  | @cons _ _ d _ r hz ho hs rv kr=>
   obtain ⟨t,ht⟩:=Value.isStrOf_shape (show Value.isStrOf x e.key=true from h1)
   obtain ⟨k',hk1,hk2⟩:=hk e (.head _)
   have:k'=x:=Value.isStrOf_inj e.key k' x hk1 h1
   subst this
   refine .cons (by rw [ht];exact .str _ t hz ho) (by rw [h2];exact rv h) (by rw [hk2,hH];rfl) (ih (fun e' he'=>hk e' (.tail _ he')) kr)
theorem KvR.has {l:List (Str × Value)} {kvs:List (D × D)} (k:KvR H l kvs) (x:Str):(l.any fun kv=>decide (kv.1=x))=dHas x kvs:=by
 induction k with
 | nil=>rfl
 | @cons y v d l r _ _ _ _ _ ih=>
  unfold dHas at ih ⊢
  rw [List.any_cons,List.any_cons,ih]
  congr 1
theorem KvR.app {l m:List (Str × Value)} {kvs r:List (D × D)} (k:KvR H l kvs) (q:KvR H m r):KvR H (l++m) (kvs++r):=by
 induction k with
 | nil=>exact q
 | cons a b c d _ ih=>exact .cons a b c d ih
set_option tactic.hygienic true in
theorem KvR.put {l:List (Str × Value)} {kvs:List (D × D)} (k:KvR H l kvs) {x:Str} {v:Value} {d:D} (hz:x.length≤sizeLine) (ho:PyData.strOk x=true) (hs:isScalar d=true) (rv:∀ h:Heap,Rd H h v d []):KvR H (stored l x v) (dPut x d kvs):=by
 unfold stored dPut
 have hh:=k.has x
 have hb:(l.any fun kv=>decide (kv.1=x))=l.any (fun kv=>kv.1=x):=rfl
 rw [← hh]
 split
 ·clear hh hb
  induction k with
  | nil=>exact .nil
  | @cons y u e l r a b c dd kk ih=>
   rw [List.map_cons,List.map_cons]
   have hi:KvR H (l.map fun kv=>if kv.1=x then (kv.1,v) else kv) (r.map fun p=>if strK p.1 == some x then (p.1,d) else p):=by
    clear ih
    rename_i hany
    clear hany
    induction kk with
    | nil=>exact .nil
    | @cons y u e l r a b c dd kk ih=>
     rw [List.map_cons,List.map_cons]
     by_cases h:y=x
     ·simp only [h,kx,beq_self_eq_true,if_true];exact .cons (h ▸ a) (h ▸ b) hs rv ih
     ·have:(some y == some x)=false:=by simpa using h
      simp only [h,kx,this,if_false,Bool.false_eq_true];exact .cons a b c dd ih
   by_cases h:y=x
   ·simp only [h,kx,beq_self_eq_true,if_true];exact .cons (h ▸ a) (h ▸ b) hs rv hi
   ·have:(some y == some x)=false:=by simpa using h
    simp only [h,kx,this,if_false,Bool.false_eq_true];exact .cons a b c dd hi
 ·exact k.app (.cons hz ho hs rv .nil)
theorem KvR.len {l:List (Str × Value)} {kvs:List (D × D)} (k:KvR H l kvs):l.length=kvs.length:=by
 induction k with
 | nil=>rfl
 | cons _ _ _ _ _ ih=>simp [ih]
theorem qM (hH:∀ x:Str,H (.str x)=hashStr w x) {h:Heap} {v:Value} {kvs:List (D × D)} {as:List Addr} (r:Rd H h v (.dict kvs) as) (ok:dictOk kvs=true):∃ a l,v = .ref a∧as=[a]∧a ≠ sysModules∧h.DictOf (strKind prog w) a l∧KvR H l kvs:=by
 cases r with
 | @dict a es n _ h0 h1 h2=>
  unfold dictOk at ok
  rw [Bool.and_eq_true] at ok
  cases hk:lm kvs with
  | none=>rw [hk] at ok;cases ok.1
  | some ks=>
   rw [hk] at ok
   refine byG fun X_ g_=>?_
   obtain ⟨l,q1,q2,q3,q4⟩:=vy (prog:=prog) hH kvs es.toList ks h2 hk ok.2
   refine g_ ?_
   exact ⟨a,l,rfl,rfl,h0,⟨_,es,n,h1,⟨rfl,rfl,rfl⟩,rfl,fun e he=>q4 e (Array.mem_def.mp he),q1,by rw [q3];simpa using ok.1⟩,q2⟩
theorem ky (hH:∀ x:Str,H (.str x)=hashStr w x) {h:Heap} {a:Addr} {l:List (Str × Value)} {kvs:List (D × D)} (hd:h.DictOf (strKind prog w) a l) (k:KvR H l kvs) (h0:a ≠ sysModules):∃ es n,h.get? a=some (dictObj es n)∧Rd H h (.ref a) (.dict kvs) [a]:=by
 refine byG fun X_ g_=>?_
 obtain ⟨⟨cls,di,data,sl⟩,es,ep,ho,⟨c1,c2,c3⟩,hdat,hk,hp,_⟩:=hd
 refine g_ ?_
 simp only at c1 c2 c3 hdat
 subst c1 c2 c3 hdat
 exact ⟨es,ep,ho,.dict h0 ho (r7 hH hp (fun e he=>hk e (Array.mem_def.mpr he)) k)⟩
theorem r8 {l:List (Str × Value)} {kvs:List (D × D)} (k:KvR H l kvs):flat (.dict kvs)=true:=by
 show eA kvs=true
 induction k with
 | nil=>rfl
 | @cons x v d l r _ _ c _ _ ih=>
  have:noList d=true:=by cases d<;>first | rfl | cases c
  show (noList (.str x)&&noList d&&eA r)=true
  rw [ih,this];rfl
theorem ft {l:List (Str × Value)} {kvs:List (D × D)} (k:KvR H l kvs) (x:Str):(valueAt l x).isSome=dHas x kvs:=by
 rw [← k.has x]
 unfold valueAt
 rw [Option.isSome_map]
 rw [Bool.eq_iff_iff,List.find?_isSome,List.any_eq_true]
end
end Mine
set_option tactic.hygienic false
namespace Mine
open PySem
theorem aR (h:Heap):h.get? h.objs.size=none:=by
 cases q:h.get? h.objs.size with
 | none=>rfl
 | some o=>exact absurd (Heap.lt_size q) (Nat.lt_irrefl _)
theorem dt {α:Type} (xs:List α):∀ n,(repL xs n).length=n * xs.length
 | 0=>by simp [qJ]
 | n+1=>by rw [f7,List.length_append,dt xs n,Nat.succ_mul,Nat.add_comm]
theorem mB {α:Type} (a:Array α):∀ (n:Nat) (b:Array α),(List.replicate n a).foldl (·++·) b=b++(repL a.toList n).toArray:=by
 intro n
 induction n with
 | zero=>
  intro b
  rfl
 | succ n ih_=>
  intro b
  rw [List.replicate_succ,List.foldl_cons,ih_,f7,Array.append_assoc]
  congr 1
  apply Array.ext'
  simp
theorem iu {α:Type} (a:Array α) (n:Nat):(List.replicate n a).foldl (·++·) #[]=(repL a.toList n).toArray:=by rw [mB];simp
theorem mD (x:Str) (n:Int):PySem.Txt.mul x n=strMul x n.toNat:=by
 unfold PySem.Txt.mul strMul
 by_cases h1:n < 1
 ·rw [if_pos h1]
  have:n.toNat=0:=by lia
  rw [this];rfl
 ·rw [if_neg h1]
  by_cases h2:n=1
  ·subst h2
   have:(1:Int).toNat=1:=rfl
   simp [qJ,f7]
  ·by_cases h3:x.length=0
   ·have hx:x.cps = #[]:=by simpa [Str.length] using h3
    have e:∀ k,repL ([]:List Nat) k=[]:=fun k=>by induction k with | zero=>rfl | succ k ih=>trivial
    obtain ⟨c⟩:=x
    simp only at hx
    subst hx
    simp [Str.length,e]
   ·rw [if_neg (by simp [h2,h3]),iu]
theorem iw {x y:Str} (hx:PyData.strOk x=true) (hy:PyData.strOk y=true):PyData.strOk (x++y)=true:=by
 unfold PyData.strOk at *
 show (x.cps++y.cps).all _=true
 rw [Array.all_append,hx,hy];rfl
theorem mE {x:Str} (hx:PyData.strOk x=true) (n:Nat):PyData.strOk (strMul x n)=true:=by
 unfold PyData.strOk strMul at *
 simp only [List.all_toArray]
 rw [← Array.all_toList] at hx
 induction n with
 | zero=>rfl
 | succ n ih=>rw [f7,List.all_append,hx,ih];rfl
theorem gG (x:Str) (n:Nat):(strMul x n).length=n * x.length:=by
 unfold strMul Str.length
 simp [dt]
section
variable {H:D→Int} {h:Heap}
theorem RdAll.rep {vs:List Value} {ds:List D} {as:List Addr} (r:RdAll H h vs ds as):∀ n,∃ bs,RdAll H h (repL vs n) (repL ds n) bs∧∀ a ∈ bs,a ∈ as
 | 0=>⟨[],.nil,fun _ q=>nomatch q⟩
 | n+1=>let ⟨bs,q,k⟩:=RdAll.rep r n;⟨as++bs,r.append q,fun a m=>(List.mem_append.mp m).elim id (k a)⟩
end
section
variable {P:Pk} {r:Nat} {A:Around} {s:Shared}
noncomputable def PostV (P:Pk) (s:Shared) (U:Addr→Prop) (d:D) (v:Value) (s':Shared):Prop:=
 Kp s s'∧∃ cs,Rd P.H s'.heap v d cs∧(∀ a ∈ cs,s.heap.get? a=none∨U a)∧(flat d=true→∀ a ∈ cs,s.heap.get? a=none)
theorem PostV.flat0 {U:Addr→Prop} {d:D} {v:Value} {s':Shared} {cs:List Addr} (k:Kp s s') (rd:Rd P.H s'.heap v d cs) (hn:noList d=true):PostV P s U d v s':=by
 have e:=rd.noAddr hn
 subst e
 exact ⟨k,[],rd,fun _ q=>(nomatch q),fun _ _ q=>(nomatch q)⟩
theorem PostV.newList {U:Addr→Prop} {vs:Array Value} {n:Nat} {xs:List D} {cs:List Addr} (hz:vs.size≤sizeLine) (rd:RdAll P.H s.heap vs.toList xs cs) (hU:∀ a ∈ cs,s.heap.get? a=none∨U a) :
 PostV P s U (.list xs) (.ref s.heap.objs.size) { s with heap:=s.heap.push (listObj vs n) }:=by
 refine ⟨Kp.push s _,s.heap.objs.size::cs,.list (Heap.get?_push_size _ rfl) hz (rd.keeps fun b o e=>Heap.get?_push_of_some _ e),fun a q=>?_,fun hf a q=>?_⟩
 ·rcases List.mem_cons.mp q with rfl | q
  ·exact .inl (aR _)
  ·exact hU a q
 ·have e:=rd.noAddr (hf)
  subst e
  rw [List.mem_singleton.mp q];exact aR _
theorem PostV.newTuple {U:Addr→Prop} {vs:Array Value} {n:Nat} {xs:List D} {cs:List Addr} (hz:vs.size≤sizeLine) (rd:RdAll P.H s.heap vs.toList xs cs) (hU:∀ a ∈ cs,s.heap.get? a=none∨U a) :
 PostV P s U (.tuple xs) (.ref s.heap.objs.size) { s with heap:=s.heap.push (tupObj vs n) }:=by
 refine ⟨Kp.push s _,cs,.tuple (Heap.get?_push_size _ rfl) hz (rd.keeps fun b o e=>Heap.get?_push_of_some _ e),hU,fun hf a q=>?_⟩
 have e:=rd.noAddr hf
 subst e
 cases q
theorem addL {l b:Addr} {vs ws:Array Value} {n n2:Nat} {Q:Value→Shared→Prop} {E:Value→Shared→Prop} (ho:s.heap.get? l=some (listObj vs n)) (ho2:s.heap.get? b=some (listObj ws n2)) (hz:vs.size+ws.size≤sizeLine)
 (h:Q (.ref s.heap.objs.size) { s with heap:=s.heap.push (listObj (vs++ws) 0) }):wpAny (model P.prog P.w) A (binaryOp .Add (.ref l) (.ref b)) Q E s:=
 concat_meets ⟨_,ho,rfl⟩ ⟨_,ho2,rfl⟩ noFill_list_add seq_list_add PySem.F.slot_list_add PySem.F.entry_list_add (PySem.F.args_list_add_2 _ _) (PyProof.Rows.list_addW l b vs ws n n2 none none #[] #[] hz) ⟨ho,ho2,h⟩
theorem addT {l b:Addr} {vs ws:Array Value} {n n2:Nat} {Q:Value→Shared→Prop} {E:Value→Shared→Prop} (ho:s.heap.get? l=some (tupObj vs n)) (ho2:s.heap.get? b=some (tupObj ws n2)) (hz:vs.size+ws.size≤sizeLine)
 (h0:vs.isEmpty=true→Q (.ref b) s) (h1 : ¬vs.isEmpty=true→ws.isEmpty=true→Q (.ref l) s)
 (h2:Q (.ref s.heap.objs.size) { s with heap:=s.heap.push (tupObj (vs++ws) 0) }):wpAny (model P.prog P.w) A (binaryOp .Add (.ref l) (.ref b)) Q E s:=by
 by_cases hv:vs.isEmpty=true
 ·exact concat_meets ⟨_,ho,rfl⟩ ⟨_,ho2,rfl⟩ noFill_tuple_add seq_tuple_add PySem.F.slot_tuple_add PySem.F.entry_tuple_add (PySem.F.args_tuple_add_2 _ _)
   (PyProof.Rows.tuple_addW0 l b vs ws n n2 none none #[] #[] hv) ⟨ho,ho2,h0 hv⟩
 ·by_cases hw:ws.isEmpty=true
  ·exact concat_meets ⟨_,ho,rfl⟩ ⟨_,ho2,rfl⟩ noFill_tuple_add seq_tuple_add PySem.F.slot_tuple_add PySem.F.entry_tuple_add (PySem.F.args_tuple_add_2 _ _)
    (PyProof.Rows.tuple_addW1 l b vs ws n n2 none none #[] #[] hv hw) ⟨ho,ho2,h1 hv hw⟩
  ·exact concat_meets ⟨_,ho,rfl⟩ ⟨_,ho2,rfl⟩ noFill_tuple_add seq_tuple_add PySem.F.slot_tuple_add PySem.F.entry_tuple_add (PySem.F.args_tuple_add_2 _ _)
    (PyProof.Rows.tuple_addW2 l b vs ws n n2 none none #[] #[] hv hw hz) ⟨ho,ho2,h2⟩
theorem mulL {l:Addr} {items:Array Value} {k:Nat} {x:Int} {u:Tok} {Q:Value→Shared→Prop} {E:Value→Shared→Prop}
 (hl:s.heap.get? l=some (listObj items k)) (hlo : -(2 ^ 63:Int)≤x) (hhi:x < 2 ^ 63) (hsz:items.size * x.toNat≤2 ^ 24)
 (h:Q (.ref s.heap.objs.size) { s with heap:=s.heap.push (listObj (List.foldl (fun x1 x2=>x1++x2) #[] (List.replicate (if items.isEmpty=true then 0 else x.toNat) items)) 0) }) :
 wpAny (model P.prog P.w) A (binaryOp .Mult (.ref l) (.int x u)) Q E s:=
 wpAny_binaryOp_repeat_ref (T := "list") (U := "int") (by decide) ⟨_,hl,rfl⟩ (fun s'=>typeIs_int s' x u) noFill_list_mul F.fills_int_mul F.slot_int_rmul repeat_list F.slot_int_index.lookup
  (call_meets F.slot_int_rmul (typeIs_int s x u) F.entry_int_rmul (F.args_int_rmul_2 _ _) (int___rmul___int_list x u l items k)
   ⟨hl,rfl,⟨_,hl,rfl⟩,call_meets F.slot_list_mul ⟨_,hl,rfl⟩ F.entry_list_mul (F.args_list_mul_2 _ _)
    (AutoListH.list___mul___list_int_3 l items k x u (by simp [Builtin.List.listFitsIndex];lia) (by lia) (by simp [Builtin.List.listTooLong,sizeLine];(exact hsz)))
    ⟨hl,h⟩⟩)
theorem bN {x:D} {s:Str} (h:strK x=some s):x = .str s:=
 if q:x.ctorIdx=3 then PySem.PyData.str.elim (motive_1:=fun x=>strK x=some s→x = .str s) x q (fun i h=>congrArg PyData.str (Option.some.inj h)) h else nomatch (dif_neg q).symm.trans h
theorem cg {x:D} {a:Int} (h:int1 x=some a):x = .int a:=
 if q:x.ctorIdx=2 then PySem.PyData.int.elim (motive_1:=fun x=>int1 x=some a→x = .int a) x q (fun i h=>congrArg PyData.int (Option.some.inj h)) h else nomatch (dif_neg q).symm.trans h
theorem lq {x:D} {a:List D} (h:fX x=some a):x = .list a:=
 if q:x.ctorIdx=4 then PySem.PyData.list.elim (motive_1:=fun x=>fX x=some a→x = .list a) x q (fun i h=>congrArg PyData.list (Option.some.inj h)) h else nomatch (dif_neg q).symm.trans h
theorem dR {x:D} {l:List D} (h:tupK x=some l):x = .tuple l:=
 if q:x.ctorIdx=5 then PySem.PyData.tuple.elim (motive_1:=fun x=>tupK x=some l→x = .tuple l) x q (fun i h=>congrArg PyData.tuple (Option.some.inj h)) h else nomatch (dif_neg q).symm.trans h
theorem mF {x:D} {b:Bool} (h:bolK x=some b):x = .bool b:=
 if q:x.ctorIdx=1 then PySem.PyData.bool.elim (motive_1:=fun x=>bolK x=some b→x = .bool b) x q (fun i h=>congrArg PyData.bool (Option.some.inj h)) h else nomatch (dif_neg q).symm.trans h
theorem lr {x:D} {a b:D} (h:rA x=some (a,b)):x = .tuple [a,b]:=by
 refine aa h fun l e h=>?_
 rw [dR e]
 cases l with
 | nil=>cases h
 | cons p l=>
  cases l with
  | nil=>cases h
  | cons q l=>
   cases l with
   | nil=>cases h;rfl
   | cons=>cases h
theorem eC {x y:D} {p:Int × Int} (h:bM x y=some p):x = .int p.1∧y = .int p.2:=by
 refine aa h fun a e1 h=>?_
 obtain ⟨b,e2,rfl⟩:=ag h
 exact ⟨cg e1,cg e2⟩
theorem kz {a b x y m n:Nat} (e1:a=x) (e2:b=y) (hs:x+y≤m) (hz:m≤n):a+b≤n:=by
 subst e1 e2;exact Nat.le_trans hs hz
theorem ga {a:Int} (h:smallI a=true):Builtin.Int.intBits a≤64:=by
 simp only [smallI,decide_eq_true_eq] at h
 exact intBits_le_64 (by lia) (by lia)
theorem mG {a b:Int} (h:mulOkI a b=true):IntMulOk a b:=by
 unfold mulOkI at h
 rw [Bool.or_eq_true] at h
 rcases h with h | h
 ·exact .of_left (ga h)
 ·exact .of_right (ga h)
theorem bG {x y:Value} {dx dy:D} {as bs:List Addr} {H:D→Int} {h:Heap} {p:Int × Int} (rx:Rd H h x dx as) (ry:Rd H h y dy bs) (e:bM dx dy=some p):∃ t u,x = .int p.1 t∧y = .int p.2 u:=by
 obtain ⟨rfl,rfl⟩:=eC e
 cases rx using Rd.intE with
 | mk t=>cases ry using Rd.intE with
  | mk u=>exact ⟨t,u,rfl,rfl⟩
set_option tactic.hygienic true in
theorem aJ {p:Prop} [Decidable p] {α:Type} {a b:α} (h:(if p then some a else none)=some b):p∧a=b:=by
 split at h
 ·rename_i hp;cases h;exact ⟨hp,rfl⟩
 ·cases h
theorem mH {motive:D→D→D→Prop} (hi:∀ a b,motive (.int a) (.int b) (.int (a+b))) (hs:∀ x y:Str,x.length+y.length≤2 ^ 20→motive (.str x) (.str y) (.str (x++y)))
 (hl:∀ xs ys:List D,xs.length+ys.length≤2 ^ 20→motive (.list xs) (.list ys) (.list (xs++ys))) (ht:∀ xs ys:List D,xs.length+ys.length≤2 ^ 14→motive (.tuple xs) (.tuple ys) (.tuple (xs++ys))) :
 ∀ {dx dy d:D},addD dx dy=some d→motive dx dy d:=by
 intro dx dy d he
 cases dx<;>first | (cases he;done) | skip
 all_goals (cases dy<;>first | (cases he;done) | skip)
 ·cases he;exact hi _ _
 ·obtain ⟨h,rfl⟩:=aJ he;exact hs _ _ h
 ·obtain ⟨h,rfl⟩:=aJ he;exact hl _ _ h
 ·obtain ⟨h,rfl⟩:=aJ he;exact ht _ _ h
theorem r9 {x y:Value} {dx dy d:D} {as bs:List Addr} (he:addD dx dy=some d) (rx:Rd P.H s.heap x dx as) (ry:Rd P.H s.heap y dy bs) :
 wpAny (model P.prog P.w) A (binaryOp .Add x y) (PostV P s (fun a=>a ∈ inn dx as∨a ∈ inn dy bs) d) (fun _ _=>False) s:=by
 revert rx ry
 refine mH (motive:=fun dx dy d=>Rd P.H s.heap x dx as→Rd P.H s.heap y dy bs→wpAny (model P.prog P.w) A (binaryOp .Add x y) (PostV P s (fun a=>a ∈ inn dx as∨a ∈ inn dy bs) d) (fun _ _=>False) s) ?_ ?_ ?_ ?_ he
 ·intro a b rx ry
  cases rx using Rd.intE;cases ry using Rd.intE
  exact PyProof.Rows.add_int (PostV.flat0 (Kp.toks s _) (.int _ _) rfl)
 ·intro x y hs rx ry
  cases rx using Rd.strE with
  | mk t hz1 ho1=>
   cases ry using Rd.strE with
   | mk u hz2 ho2=>
    exact PyProof.Rows.add_str (fun t' tk=>PostV.flat0 (Kp.toks s _) (.str _ _ (Str.length_append _ _ ▸ (Nat.le_trans hs (by decide))) (iw ho1 ho2)) rfl) (Nat.le_trans hs (by decide))
 ·intro xs ys hs rx ry
  cases rx using Rd.listE with
  | mk h1 z1 r1=>
   cases ry using Rd.listE with
   | mk h2 z2 r2=>
    have e1:=r1.length
    have e2:=r2.length
    simp only [Array.length_toList] at e1 e2
    have hz:(2:Nat) ^ 20≤sizeLine:=by decide
    refine addL h1 h2 (kz e1 e2 hs hz) ?_
    exact PostV.newList (by rw [Array.size_append];exact kz e1 e2 hs hz) (by rw [Array.toList_append];exact r1.append r2) fun a q=>.inr (List.mem_append.mp q)
 ·intro xs ys hs rx ry
  cases rx using Rd.tupleE with
  | mk h1 z1 r1=>
   cases ry using Rd.tupleE with
   | mk h2 z2 r2=>
    have e1:=r1.length
    have e2:=r2.length
    simp only [Array.length_toList] at e1 e2
    have hz:(2:Nat) ^ 14≤sizeLine:=by decide
    refine addT h1 h2 (kz e1 e2 hs hz) (fun h0=>?_) (fun _ h0=>?_) ?_
    ·have ev:_ = #[]:=Array.isEmpty_iff.mp h0
     have ex:_=[]:=List.length_eq_zero_iff.mp (by rw [← e1,ev];rfl)
     subst ex
     exact ⟨Kp.refl s,_,.tuple h2 z2 r2,fun a q=>.inr (.inr q),fun hf a q=>by
      rw [r2.noAddr hf] at q;cases q⟩
    ·have ex:_=[]:=List.length_eq_zero_iff.mp (by rw [← e2,(Array.isEmpty_iff.mp h0)];rfl)
     subst ex
     rw [List.append_nil]
     exact ⟨Kp.refl s,_,.tuple h1 z1 r1,fun a q=>.inr (.inl q),fun hf a q=>by
      rw [r1.noAddr hf] at q;cases q⟩
    ·exact PostV.newTuple (by rw [Array.size_append];exact kz e1 e2 hs hz) (by rw [Array.toList_append];exact r1.append r2) fun a q=>.inr (List.mem_append.mp q)
set_option tactic.hygienic true in
theorem mI {motive:D→D→D→Prop} (hi:∀ a b,mulOkI a b=true→motive (.int a) (.int b) (.int (a * b))) (hs:∀ (x:Str) (n:Int),x.length≤1000∧n≤1000∧-1000≤n→motive (.str x) (.int n) (.str (strMul x n.toNat)))
 (hl:∀ (xs:List D) (n:Int),xs.length≤1000∧n≤10000∧-10000≤n→motive (.list xs) (.int n) (.list (repL xs n.toNat)))
 : ∀ {dx dy d:D},mulD dx dy=some d→motive dx dy d:=by
 intro dx dy d he
 cases dx<;>first | (cases he;done) | skip
 all_goals (cases dy<;>first | (cases he;done) | skip)
 ·obtain ⟨h,rfl⟩:=aJ he;exact hi _ _ h
 ·obtain ⟨h,rfl⟩:=aJ he;exact hs _ _ h
 ·obtain ⟨h,rfl⟩:=aJ he;exact hl _ _ h
theorem sd (vs:Array Value) (n:Nat):(List.foldl (fun x1 x2=>x1++x2) #[] (List.replicate (if vs.isEmpty=true then 0 else n) vs))=(repL vs.toList n).toArray:=by
 by_cases hv:vs.isEmpty=true
 ·rw [if_pos hv]
  have ev:vs = #[]:=Array.isEmpty_iff.mp hv
  subst ev
  have en:∀ k,repL ([]:List Value) k=[]:=fun k=>by
   induction k with
   | zero=>rfl
   | succ k ih=>exact ih
  rw [en];rfl
 ·rw [if_neg hv];exact iu vs _
theorem se {x y:Value} {dx dy d:D} {as bs:List Addr} (he:mulD dx dy=some d) (rx:Rd P.H s.heap x dx as) (ry:Rd P.H s.heap y dy bs) :
 wpAny (model P.prog P.w) A (binaryOp .Mult x y) (PostV P s (fun a=>a ∈ inn dx as∨a ∈ inn dy bs) d) (fun _ _=>False) s:=by
 revert rx ry
 refine mI (motive:=fun dx dy d=>Rd P.H s.heap x dx as→Rd P.H s.heap y dy bs→wpAny (model P.prog P.w) A (binaryOp .Mult x y) (PostV P s (fun a=>a ∈ inn dx as∨a ∈ inn dy bs) d) (fun _ _=>False) s) (fun a b hs rx ry=>?_) (fun x n hs rx ry=>?_)
  (fun xs n hs rx ry=>?_)
  he
 ·cases rx using Rd.intE;cases ry using Rd.intE
  exact PyProof.Rows.mul_int (PostV.flat0 (Kp.toks s _) (.int _ _) rfl) (mG hs)
 ·cases rx using Rd.strE with
  | mk t hz1 ho1=>
   cases ry using Rd.intE with
   | mk u=>
    have hl:x.length * n.toNat≤1000 * 1000:=Nat.mul_le_mul hs.1 (Int.toNat_le.mpr hs.2.1)
    refine PySem.SB.mul ⟨?_,fun h1 _=>?_,fun h1 _=>?_⟩ fun t' k=>?_
    ·simp only [Bool.or_eq_false_iff,decide_eq_false_iff_not]
     lia
    ·have hn:0 < n:=by lia
     have:=Int.le_ediv_of_mul_le hn (Int.le_trans (Int.mul_le_mul (Int.ofNat_le.mpr hs.1) hs.2.1 (Int.le_of_lt hn) (by decide)) (by decide:(1000 * 1000:Int)≤2 ^ 63 - 1))
     lia
    ·unfold Builtin.Str.tooLong
     exact decide_eq_false (Nat.not_lt.mpr (Nat.le_trans hl (by decide)))
    ·rw [mD]
     refine PostV.flat0 (Kp.toks s _) (.str _ _ ?_ (mE ho1 _)) rfl
     rw [gG,Nat.mul_comm]
     exact Nat.le_trans hl (by decide)
 ·cases rx using Rd.listE with
  | @mk l vs k as' h1 z1 r1=>
   cases ry using Rd.intE with
   | mk u=>
    have e1:=r1.length
    simp only [Array.length_toList] at e1
    have hz:vs.size * n.toNat≤1000 * 10000:=Nat.mul_le_mul (e1 ▸ hs.1) (Int.toNat_le.mpr hs.2.1)
    obtain ⟨bs,rr,hb⟩:=r1.rep n.toNat
    refine mulL h1 (by lia) (by lia) (Nat.le_trans hz (by decide)) ?_
    rw [sd]
    refine PostV.newList ?_ rr fun a q=>.inr (.inl (hb a q))
    rw [List.size_toArray,dt,Array.length_toList,Nat.mul_comm]
    exact Nat.le_trans hz (by decide)
set_option tactic.hygienic true in
theorem bop {op:Operator} {x y:Value} {dx dy d:D} {as bs:List Addr} (rx:Rd P.H s.heap x dx as) (ry:Rd P.H s.heap y dy bs) (he:ck op dx dy=some d) :
 wpAny (model P.prog P.w) A (binaryOp op x y) (PostV P s (fun a=>a ∈ inn dx as∨a ∈ inn dy bs) d) (fun _ _=>False) s:=by
 cases op with
 | Add=>exact r9 he rx ry
 | Mult=>exact se he rx ry
 | Sub=>
  obtain ⟨p,e0,rfl⟩:=ag (show (bM dx dy).map (fun p=>PyData.int (p.1 - p.2))=some d from he)
  obtain ⟨t,u,rfl,rfl⟩:=bG rx ry e0
  exact PyProof.Rows.sub_int (PostV.flat0 (Kp.toks s _) (.int _ _) rfl)
 | FloorDiv=>
  refine aa (show ((bM dx dy).bind fun p=>if p.2 ≠ 0∧p.2.natAbs < 1073741824 then some (PyData.int (p.1.fdiv p.2)) else none)=some d from he) fun p e0 he=>?_
  obtain ⟨t,u,rfl,rfl⟩:=bG rx ry e0
  obtain ⟨hs,rfl⟩:=aJ he
  exact PyProof.Rows.floordiv_int hs.1 (PostV.flat0 (Kp.toks s _) (.int _ _) rfl) (.inl (PyProof.noPylong_small hs.2))
 | Mod=>
  refine aa (show ((bM dx dy).bind fun p=>if p.2 ≠ 0 then some (PyData.int (p.1.fmod p.2)) else none)=some d from he) fun p e0 he=>?_
  obtain ⟨t,u,rfl,rfl⟩:=bG rx ry e0
  obtain ⟨hs,rfl⟩:=aJ he
  exact PyProof.Rows.mod_int hs (PostV.flat0 (Kp.toks s _) (.int _ _) rfl)
 | Pow=>
  refine aa (show ((bM dx dy).bind fun p=>if 0≤p.2∧p.2≤1000∧p.1.natAbs≤1000 then some (PyData.int (p.1 ^ p.2.toNat)) else none)=some d from he) fun p e0 he=>?_
  obtain ⟨t,u,rfl,rfl⟩:=bG rx ry e0
  obtain ⟨hs,rfl⟩:=aJ he
  refine PyProof.Rows.pow_int hs.1 ?_ (PostV.flat0 (Kp.toks s _) (.int _ _) rfl)
  exact Int.le_trans (Int.mul_le_mul (Int.ofNat_le.mpr (intBits_le_64 (by lia) (by lia))) hs.2.1 hs.1 (by decide)) (by decide)
 | _=>cases he
end
end Mine
set_option tactic.hygienic false
namespace Mine
open PySem
inductive LtV (q:Bool):List (Value × Value)→Prop
 | nil:false=q→LtV q []
 | eq (i:Int) (t u:Tok) (r:List (Value × Value)):LtV q r→LtV q ((.int i t,.int i u)::r)
 | lt (i j:Int) (t u:Tok) (r:List (Value × Value)):i ≠ j→decide (i < j)=q→LtV q ((.int i t,.int j u)::r)
theorem tT {H:D→Int} {h:Heap} {q:Bool} {vs:List Value} {xs:List D} {as:List Addr} (r1:RdAll H h vs xs as):∀ (ws:List Value) (ys:List D) (bs:List Addr),RdAll H h ws ys bs→br xs ys=some q→LtV q (vs.zip ws):=by
 refine r1.ind (M:=fun vs xs o_=>∀ (ws:List Value) (ys:List D) (bs:List Addr),RdAll H h ws ys bs→br xs ys=some q→LtV q (vs.zip ws)) (fun ws ys bs r2 e=>?_) (fun v vs d ds as1 as2 p1 t1 ih ws ys bs r2 e=>?_)
 ·cases r2 with
  | nil=>exact .nil (Option.some.inj e)
  | cons=>cases e
 ·cases r2 with
  | nil=>cases e
  | cons p2 t2=>
   obtain ⟨⟨i,j⟩,e1,hl⟩:=cf e
   obtain ⟨t,u,rfl,rfl⟩:=bG p1 p2 e1
   by_cases hij:i=j
   ·subst hij
    exact .eq i t u _ (ih _ _ _ t2 ((if_pos rfl).symm.trans hl))
   ·obtain ⟨_,_,e⟩:=ag ((if_neg hij).symm.trans hl)
    exact .lt i j t u _ hij e
section
variable {prog:Program} {w:World} {A:Around} {E:Value→Shared→Prop} {s:Shared}
theorem mJ:∀ {xs ys:List D} {q:Bool},br xs ys=some q→xs.length=ys.length
 | [],[],_,_=>rfl
 | x::xs,y::ys,q,h=>by
  refine aa (show ((bM x y).bind fun p=>if p.1=p.2 then br xs ys else (br xs ys).map fun _=>decide (p.1 < p.2))=some q from h) fun p _ h=>?_
  split at h
  ·exact congrArg Nat.succ (mJ h)
  ·obtain ⟨_,h,_⟩:=ag h
   exact congrArg Nat.succ (mJ h)
 | [],_::_,_,h=>by cases h
 | _::_,[],_,h=>by cases h
theorem oU {dx dy:D} {q:Bool} (h:ltD dx dy=some q):(∃ xs ys,dx = .tuple xs∧dy = .tuple ys∧br xs ys=some q)∨(bM dx dy).map (fun p=>decide (p.1 < p.2))=some q:=by
 match dx,dy,h with
 | .tuple xs,.tuple ys,h=>exact .inl ⟨xs,ys,rfl,rfl,h⟩
 | .none,_,h=>exact .inr h
 | .bool _,_,h=>exact .inr h
 | .int _,_,h=>exact .inr h
 | .str _,_,h=>exact .inr h
 | .list _,_,h=>exact .inr h
 | .dict _,_,h=>exact .inr h
 | .tuple _,.none,h=>exact .inr h
 | .tuple _,.bool _,h=>exact .inr h
 | .tuple _,.int _,h=>exact .inr h
 | .tuple _,.str _,h=>exact .inr h
 | .tuple _,.list _,h=>exact .inr h
 | .tuple _,.dict _,h=>exact .inr h
theorem oV {a b:Addr} {vs ws:Array Value} {n k:Nat} {H:D→Int} {xs ys:List D} {as bs:List Addr} {q:Bool} (ha:s.heap.get? a=some (tupObj vs n)) (hb:s.heap.get? b=some (tupObj ws k)) (ra:RdAll H s.heap vs.toList xs as) (rb:RdAll H s.heap ws.toList ys bs) (he:br xs ys=some q) (hu:A.units < cLine)
 {Q:Value→Shared→Prop} (h:∀ tk,Q (.bool q) { s with toks:=tk }):wpAny (model prog w) A (compareOp .Lt (.ref a) (.ref b)) Q E s:=by
 have l1:=ra.length
 have l2:=rb.length
 rw [Array.length_toList] at l1 l2
 refine wpAny_richCompare_same_room (op:=.Lt) ⟨_,ha,rfl⟩ (⟨_,hb,rfl⟩) F.slot_tuple_lt (wpAny_call_entry F.slot_tuple_lt ⟨_,ha,rfl⟩ F.entry_tuple_lt ?_ (F.args_tuple_lt_2 _ _)) hu
 show wpAny _ _ (isInstance (.ref b) (.type "tuple") >>= _) _ _ s
 refine wpAny_bind (wpAny_isInstance (⟨_,hb,rfl⟩) isSubtype_tuple_tuple ?_)
 simp only [Bool.not_true,Bool.false_eq_true,if_false]
 refine wpAny_bind (wpAny_tupleItemsOf ha rfl ?_)
 refine wpAny_bind (wpAny_tupleItemsOf hb rfl ?_)
 refine wpAny_bind ?_
 refine wpAny_forIn_list _ (fun rest r s'=>r.1=none∧s'=s∧LtV q rest) _ (fun x rest r s' hI=>?_) (fun r s' hI=>?_) _ _ ⟨rfl,rfl,tT ra _ _ _ rb he⟩
 ·obtain ⟨hr,rfl,hL⟩:=hI
  cases hL with
  | eq i t u _ hL=>
   refine wpAny_bind (wpAny_eqBool_int ?_)
   rw [show (i == i)=true from beq_self_eq_true i]
   exact wpAny_pure ⟨rfl,rfl,hL⟩
  | lt i j t u _ hij e=>
   subst e
   refine wpAny_bind (wpAny_eqBool_int ?_)
   rw [show (i == j)=false from beq_eq_false_iff_ne.mpr hij]
   exact wpAny_bind (wpAny_rule (wpAny_bind (PyProof.Rows.lt_int (wpAny_bind (wpAny_pure (wpAny_pure (wpAny_pure ⟨_,rfl,(by intro z;cases z),h _⟩)))))))
 ·obtain ⟨hr,rfl,hL⟩:=hI
  cases hL with
  | nil e=>
   subst e
   obtain ⟨r1,r2⟩:=r
   cases hr
   refine wpAny_pure ⟨.bool false,?_,(by intro z;cases z),h s'.toks⟩
   show Fin.done (Flow.ret (.bool (decide (vs.size < ws.size))))=_
   rw [l1,l2,(mJ he),decide_eq_false (Nat.lt_irrefl _)]
end
end Mine
set_option tactic.hygienic false
namespace Mine
open PySem
theorem cr {l:List D} {p:D × List D} (h:hd1 l=some p):l=p.1::p.2:=by
 cases l<;>first | (cases h;done) | (cases h;rfl)
set_option tactic.hygienic true in
theorem aN {p:Prop} [Decidable p] {α:Type} {a:Option α} {b:α} (h:(if p then a else none)=some b):p∧a=some b:=by
 split at h
 ·rename_i hp;exact ⟨hp,h⟩
 ·cases h
theorem mK {d:D} {e:EnK} (h:unEn d=some e):d=enK e:=by
 refine aa h fun l e0 h=>?_
 refine aa h fun a1 e1 h=>?_
 refine aa h fun x1 f1 h=>?_
 refine aa h fun a2 e2 h=>?_
 refine aa h fun x2 f2 h=>?_
 refine aa h fun a3 e3 h=>?_
 refine aa h fun x3 f3 h=>?_
 refine aa h fun a4 e4 h=>?_
 refine aa h fun x4 f4 h=>?_
 refine aa h fun a5 e5 h=>?_
 refine aa h fun x5 f5 h=>?_
 obtain ⟨hn,rfl⟩:=aJ h
 rw [dR e0,cr e1,cr e2,cr e3,cr e4,cr e5,bN f1,bN f2,cg f3,bN f4,mF f5,List.isEmpty_iff.mp hn]
 rfl
theorem eD:∀ {l:List D} {es:List EnK},jn l=some es→l=es.map enK:=by
 intro l
 induction l with
 | nil=>
  intro _ h
  cases h;rfl
 | cons d l eD=>
  intro es h
  refine aa (show ((unEn d).bind fun e=>(jn l).map fun l=>e::l)=some es from h) fun e e1 h=>?_
  obtain ⟨r,e2,rfl⟩:=ag h
  rw [mK e1,eD e2];rfl
theorem e9 {d:D} {p:StK} (h:unK d=some p):d=stK p:=by
 refine aa h fun l e0 h=>?_
 refine aa h fun a1 e1 h=>?_
 refine aa h fun x1 f1 h=>?_
 refine aa h fun a2 e2 h=>?_
 refine aa h fun l2 f2 h=>?_
 refine aa h fun es f3 h=>?_
 obtain ⟨hn,rfl⟩:=aJ h
 rw [dR e0,cr e1,cr e2,cg f1,dR f2,eD f3,List.isEmpty_iff.mp hn]
 rfl
set_option tactic.hygienic true in
theorem gH {d:D} (h:tru d=true):d = .bool true:=by
 cases d<;>first | (cases h;done) | skip
 rename_i b
 cases b<;>first | rfl | cases h
theorem cV:∀ {kvs:List (D × D)} {ks:List StK},keysT kvs=some ks→kvs=ks.map fun k=>(stK k,.bool true):=by
 intro kvs
 induction kvs with
 | nil=>
  intro _ h
  cases h;rfl
 | cons p r cV=>
  intro ks h
  obtain ⟨ht,h⟩:=aN (show (if tru p.2 then (unK p.1).bind fun k=>(keysT r).map fun ks=>k::ks else none)=some ks from h)
  refine aa h fun k e1 h=>?_
  obtain ⟨l,e2,rfl⟩:=ag h
  obtain ⟨p1,p2⟩:=p
  rw [List.map_cons,← cV e2,← e9 e1,← gH ht]
theorem mL (p q:StK):eqT p q=true↔p=q:=by
 obtain ⟨p1,p2⟩:=p
 obtain ⟨q1,q2⟩:=q
 simp only [eqT,Bool.and_eq_true,beq_iff_eq,Prod.mk.injEq]
theorem dS (p:StK) (l:List StK):hasT p l=true↔p ∈ l:=by
 unfold hasT
 rw [List.any_eq_true]
 exact ⟨fun ⟨q,h1,h2⟩=>(mL q p).mp h2 ▸ h1,fun h=>⟨p,h,(mL p p).mpr rfl⟩⟩
theorem kA:∀ l:List StK,nodT l=true→l.Nodup
 | [],_=>List.nodup_nil
 | p::l,h=>by
  rw [show nodT (p::l)=(!hasT p l&&nodT l) from rfl,Bool.and_eq_true,Bool.not_eq_true'] at h
  exact List.nodup_cons.mpr ⟨fun q=>Bool.noConfusion (h.1.symm.trans ((dS p l).mpr q)),kA l h.2⟩
section
variable (prog:Program) (w:World)
noncomputable def HOk (A:Around) (s:Shared) (v:Value) (x:Int) (n:Nat):Prop:=∀ (tk:Nat) (E:Value→Shared→Prop) (Q:Int→Shared→Prop),Q x { s with toks:=tk+n }→wpAny (model prog w) A (pyHash v) Q E { s with toks:=tk }
noncomputable def HAll (A:Around) (s:Shared):List Value→List Int→Nat→Prop
 | [],[],n=>n=0
 | v::vs,x::xs,n=>∃ a b,n=a+b∧HOk prog w A s v x a∧HAll A s vs xs b
 | _,_,_=>False
variable {prog w}
theorem qN {A:Around} {s:Shared} {E:Value→Shared→Prop}:∀ {vs:List Value} {xs:List Int} {k:Nat} (b:Array Int) (tk:Nat) {Q:Array Int→Shared→Prop},HAll prog w A s vs xs k→(∀ b',b'.toList=b.toList++xs→Q b' { s with toks:=tk+k }) →
 wpAny (model prog w) A (forIn vs b fun x r=>do let h ← pyHash x;pure PUnit.unit;pure (ForInStep.yield (r.push h))) Q E { s with toks:=tk }
 | [],[],k,b,tk,Q,h,hQ=>by
  cases (show k=0 from h)
  exact wpAny_pure (hQ b (by simp))
 | v::vs,x::xs,k,b,tk,Q,h,hQ=>by
  obtain ⟨a,c,rfl,h1,h2⟩:=h
  rw [List.forIn_cons]
  refine wpAny_bind (wpAny_bind (h1 tk _ _ ?_))
  refine wpAny_bind (wpAny_pure (wpAny_pure ?_))
  exact qN (b.push x) (tk+a) h2 fun b' hb=>by
   have:=hQ b' (by rw [hb];simp)
   rw [← Nat.add_assoc] at this
   exact this
 | [],_::_,_,_,_,_,h,_=>h.elim
 | _::_,[],_,_,_,_,h,_=>h.elim
theorem gI {A:Around} {s:Shared} {a:Addr} {vs:Array Value} {n k:Nat} {xs:List Int} (ho:s.heap.get? a=some (tupObj vs n)) (hu:A.units < cLine) (h:HAll prog w A.in1 s vs.toList xs k):HOk prog w A s (.ref a) (reduceHash (Builtin.Tuple.tupleHashOf xs)) (k+1):=fun tk E Q hQ=>by
 refine PySem.W.pyHash_slot (T := "tuple") ⟨_,ho,rfl⟩ F.slot_tuple_hash F.entry_tuple_hash (F.args_tuple_hash_1 _) (beq_builtin_none _) (.inr hu) ?_
 show wpAny _ _ (Builtin.Tuple.tupleItemsOf (.ref a) >>= _) _ _ _
 refine wpAny_bind (wpAny_tupleItemsOf ho rfl ?_)
 refine wpAny_bind ?_
 rw [← Array.forIn_toList]
 refine qN #[] tk h fun b hb=>?_
 show wpAny _ _ (retInt (Builtin.Tuple.tupleHashOf b.toList)) _ _ _
 rw [hb]
 exact wpAny_bind (wpAny_mkInt (wpAny_pure ⟨_,_,rfl,hQ⟩))
theorem mM {A:Around} {s:Shared} (i:Int) (t:Tok):HOk prog w A s (.int i t) (hashInt i) 1:=fun tk E Q hQ=>wpAny_pyHash_int hQ
theorem js {A:Around} {s:Shared} (x:Str) (t:Tok):HOk prog w A s (.str x t) (hashStr w x) 1:=fun tk E Q hQ=>wpAny_pyHash_str hQ
theorem oW {A:Around} {s:Shared} (b:Bool):HOk prog w A s (.bool b) (reduceHash (if b then 1 else 0)) 1:=fun tk E Q hQ=>by
 refine PySem.W.pyHash_slot (T := "bool") rfl F.slot_bool_hash entry_int_hash (args_int_hash _) (beq_builtin_none _) (.inl rfl) ?_
 cases b
 ·exact (show wpAny _ _ (do ret (← mkInt 0)) _ _ _ from wpAny_bind (wpAny_mkInt (wpAny_pure ⟨_,_,rfl,hQ⟩)))
 ·exact (show wpAny _ _ (do ret (← mkInt 1)) _ _ _ from wpAny_bind (wpAny_mkInt (wpAny_pure ⟨_,_,rfl,hQ⟩)))
variable {H:D→Int}
theorem Rd.boolE' {h:Heap} {b:Bool} {v:Value} {as:List Addr} (r:Rd H h v (.bool b) as):v = .bool b:=by cases r;rfl
theorem Rd.intE' {h:Heap} {i:Int} {v:Value} {as:List Addr} (r:Rd H h v (.int i) as):∃ t,v = .int i t:=by cases r;exact ⟨_,rfl⟩
theorem Rd.strE' {h:Heap} {x:Str} {v:Value} {as:List Addr} (r:Rd H h v (.str x) as):∃ t,v = .str x t:=by cases r;exact ⟨_,rfl⟩
theorem RdAll.consE {h:Heap} {vs:List Value} {d:D} {ds:List D} {as:List Addr} (r:RdAll H h vs (d::ds) as):∃ v vs' a b,vs=v::vs'∧Rd H h v d a∧RdAll H h vs' ds b:=by
 cases r with
 | cons p t=>exact ⟨_,_,_,_,rfl,p,t⟩
theorem RdAll.nilE {h:Heap} {vs:List Value} {as:List Addr} (r:RdAll H h vs [] as):vs=[]:=by cases r;rfl
theorem kB {h:Heap} {v:Value} {e:EnK} {as:List Addr} (r:Rd H h v (enK e) as):∃ a vs n t1 t2 t3 t4,v = .ref a∧h.get? a=some (tupObj vs n)∧vs.toList=[.str e.1 t1,.str e.2.1 t2,.int e.2.2.1 t3,.str e.2.2.2.1 t4,.bool e.2.2.2.2]:=by
 cases r using Rd.tupleE with
 | mk ho _ ra=>
  refine byG fun X_ g_=>?_
  obtain ⟨_,_,_,_,e1,p1,ra⟩:=ra.consE
  obtain ⟨_,_,_,_,rfl,p2,ra⟩:=ra.consE
  obtain ⟨_,_,_,_,rfl,p3,ra⟩:=ra.consE
  obtain ⟨_,_,_,_,rfl,p4,ra⟩:=ra.consE
  obtain ⟨_,_,_,_,rfl,p5,ra⟩:=ra.consE
  refine g_ ?_
  cases ra.nilE
  refine byG fun X_ g_=>?_
  obtain ⟨t1,rfl⟩:=p1.strE'
  obtain ⟨t2,rfl⟩:=p2.strE'
  obtain ⟨t3,rfl⟩:=p3.intE'
  obtain ⟨t4,rfl⟩:=p4.strE'
  refine g_ ?_
  cases p5.boolE'
  exact ⟨_,_,_,_,_,_,_,rfl,ho,e1⟩
theorem cW {h:Heap} {v:Value} {p:StK} {as:List Addr} (r:Rd H h v (stK p) as):∃ a vs n t b ws m bs,v = .ref a∧h.get? a=some (tupObj vs n)∧vs.toList=[.int p.1 t,.ref b]∧h.get? b=some (tupObj ws m)∧RdAll H h ws.toList (p.2.map enK) bs:=by
 cases r using Rd.tupleE with
 | mk ho _ ra=>
  refine byG fun X_ g_=>?_
  obtain ⟨_,_,_,_,e1,p1,ra⟩:=ra.consE
  obtain ⟨_,_,_,_,rfl,p2,ra⟩:=ra.consE
  refine g_ ?_
  cases ra.nilE
  obtain ⟨t1,rfl⟩:=p1.intE'
  cases p2 using Rd.tupleE with
  | mk ho2 _ ra2=>exact ⟨_,_,_,_,_,_,_,_,rfl,ho,e1,ho2,ra2⟩
theorem sf {A:Around} {s:Shared} {v:Value} {e:EnK} {as:List Addr} (r:Rd H s.heap v (enK e) as) (hu:A.units < cLine):HOk prog w A s v (mz w e) 6:=by
 obtain ⟨a,vs,n,t1,t2,t3,t4,rfl,ho,ev⟩:=kB r
 refine gI (k:=5) ho hu ?_
 rw [ev]
 exact ⟨1,4,rfl,js _ _,1,3,rfl,js _ _,1,2,rfl,mM _ _,1,1,rfl,js _ _,1,0,rfl,oW _,rfl⟩
theorem mN {A:Around} {s:Shared} (hu:A.units < cLine):∀ (l:List EnK) (vs:List Value) (as:List Addr),RdAll H s.heap vs (l.map enK) as→HAll prog w A s vs (l.map (mz w)) (6 * l.length):=by
 intro l
 induction l with
 | nil=>
  intro vs as r
  cases r.nilE;rfl
 | cons e l ih_=>
  intro vs as r
  refine byG fun X_ g_=>?_
  obtain ⟨_,_,_,_,rfl,p,r⟩:=r.consE
  refine g_ ?_
  exact ⟨6,6 * l.length,by rw [List.length_cons,Nat.mul_succ,Nat.add_comm],sf p hu,ih_ _ _ r⟩
theorem sg {A:Around} {s:Shared} {v:Value} {p:StK} {as:List Addr} (r:Rd H s.heap v (stK p) as) (hu:A.units+10 < cLine):HOk prog w A s v (cx w p) (6 * p.2.length+3):=by
 obtain ⟨a,vs,n,t,b,ws,m,bs,rfl,ho,ev,ho2,ra⟩:=cW r
 refine gI (k:=6 * p.2.length+2) ho (by lia) ?_
 rw [ev]
 refine ⟨1,6 * p.2.length+1,by lia,mM _ _,6 * p.2.length+1,0,rfl,gI ho2 ?_ (mN ?_ p.2 _ _ ra),rfl⟩
 ·rw [Around.in1_units];lia
 ·rw [Around.in1_units,Around.in1_units];lia
theorem tU (a b:EnK):PyData.eqv (enK a) (enK b)=decide (a=b):=by
 obtain ⟨a1,a2,a3,a4,a5⟩:=a
 obtain ⟨b1,b2,b3,b4,b5⟩:=b
 show (a1 == b1&&(a2 == b2&&(a3 == b3&&(a4 == b4&&(a5 == b5&&true)))))=_
 rw [Bool.eq_iff_iff]
 simp only [Bool.and_eq_true,beq_iff_eq,decide_eq_true_eq,Prod.mk.injEq,and_true]
theorem mO:∀ a b:List EnK,PyData.eqvAll (a.map enK) (b.map enK)=decide (a=b)
 | [],[]=>rfl
 | [],_::_=>rfl
 | _::_,[]=>rfl
 | x::a,y::b=>by
  show (PyData.eqv (enK x) (enK y)&&PyData.eqvAll (a.map enK) (b.map enK))=_
  rw [tU,mO a b,Bool.eq_iff_iff]
  simp only [Bool.and_eq_true,decide_eq_true_eq,List.cons.injEq]
theorem mP (a b:StK):PyData.eqv (stK a) (stK b)=decide (a=b):=by
 obtain ⟨a1,a2⟩:=a
 obtain ⟨b1,b2⟩:=b
 show (a1 == b1&&(PyData.eqvAll (a2.map enK) (b2.map enK)&&true))=_
 rw [mO,Bool.eq_iff_iff]
 simp only [Bool.and_eq_true,beq_iff_eq,decide_eq_true_eq,Prod.mk.injEq,and_true]
theorem qO:∀ l:List EnK,aY (l.map enK)=true
 | []=>rfl
 | _::l=>qO l
theorem qP:∀ l:List EnK,ao (l.map enK)=true
 | []=>rfl
 | _::l=>qP l
theorem qQ:∀ l:List EnK,PyData.depthAll (l.map enK)≤1
 | []=>Nat.zero_le _
 | _::l=>Nat.max_le.mpr ⟨Nat.le_refl _,qQ l⟩
theorem sh (p:StK):ce (stK p)=true:=by
 show (aY (p.2.map enK)&&true)=true
 rw [qO];rfl
theorem oX (p:StK):noList (stK p)=true:=by
 show (ao (p.2.map enK)&&true)=true
 rw [qP];rfl
theorem vz (p:StK):(stK p).depth≤3:=by
 have h:=qQ p.2
 show max 0 (max (PyData.depthAll (p.2.map enK)+1) 0)+1≤3
 lia
theorem si {a b:StK} (h:stK a=stK b):a=b:=by
 have:=mP a b
 rw [h,mP b b,decide_eq_true rfl] at this
 exact of_decide_eq_true this.symm
noncomputable def QOk (A:Around) (s:Shared) (n:Nat) (v:Value):Prop:=∀ (E:Value→Shared→Prop) (Q:Bool→Shared→Prop),Q true s→wpAny (model prog w) A (eqIsQuiet n v) Q E s
theorem fu {A:Around} {s:Shared} {a:Addr} {vs:Array Value} {n k:Nat} (ho:s.heap.get? a=some (tupObj vs k)) (h:∀ v ∈ vs.toList,QOk (prog:=prog) (w:=w) A s n v):QOk (prog:=prog) (w:=w) A s (n+1) (.ref a):=fun E Q hQ=>by
 unfold eqIsQuiet
 refine wpAny_bind (wpAny_specialOf (⟨_,ho,rfl⟩) F.slot_tuple_eq.lookup ?_)
 show wpAny _ _ (isInstance (.ref a) (.type "tuple") >>= _) _ _ s
 refine wpAny_bind (wpAny_isInstance (⟨_,ho,rfl⟩) isSubtype_tuple_tuple ?_)
 simp only [Bool.not_true,Bool.false_eq_true,if_false]
 refine wpAny_bind (wpAny_seqItems ho rfl ?_)
 refine wpAny_bind ?_
 show wpAny _ _ (forIn vs _ _) _ _ s
 rw [← Array.forIn_toList]
 refine wpAny_forIn_list _ (fun rest r s'=>r.1=none∧s'=s∧∀ v ∈ rest,QOk (prog:=prog) (w:=w) A s n v) _ ?_ ?_ _ _ ⟨rfl,rfl,h⟩
 ·rintro v rest r s' ⟨hr,rfl,hall⟩
  refine wpAny_bind (hall v (.head _) _ _ ?_)
  simp only [Bool.not_true,Bool.false_eq_true,if_false]
  exact wpAny_pure ⟨rfl,rfl,fun u hu'=>hall u (.tail _ hu')⟩
 ·rintro ⟨r1,r2⟩ s' ⟨hr,rfl,_⟩
  simp only at hr
  subst hr
  exact wpAny_pure hQ
theorem iy {A:Around} {s:Shared} {n:Nat} {v:Value} (h:carriedByValue v=true):QOk (prog:=prog) (w:=w) A s n v:=fun E Q hQ=>by
 rw [eqIsQuiet_byValue _ h];exact wpAny_pure hQ
theorem oY {A:Around} {s:Shared} {v:Value} {p:StK} {as:List Addr} (r:Rd H s.heap v (stK p) as):QOk (prog:=prog) (w:=w) A s 8 v:=by
 refine byG fun X_ g_=>?_
 obtain ⟨a,vs,n,t,b,ws,m,bs,rfl,ho,ev,ho2,ra⟩:=cW r
 refine g_ ?_
 refine fu ho fun v hv=>?_
 rw [ev] at hv
 rcases List.mem_cons.mp hv with rfl | hv
 ·exact iy rfl
 ·cases List.mem_singleton.mp hv
  refine fu ho2 fun v hv=>?_
  have:∀ (l:List EnK) (vs:List Value) (bs:List Addr),RdAll H s.heap vs (l.map enK) bs→∀ v ∈ vs,∃ e as,Rd H s.heap v (enK e) as:=by
   intro l
   induction l with
   | nil=>intro vs bs r v hv;cases r.nilE;cases hv
   | cons e l ih=>
    intro vs bs r v hv
    refine byG fun X_ g_=>?_
    obtain ⟨_,_,_,_,rfl,p,r⟩:=r.consE
    refine g_ ?_
    rcases List.mem_cons.mp hv with rfl | hv
    ·exact ⟨_,_,p⟩
    ·exact ih _ _ r v hv
  refine byG fun X_ g_=>?_
  obtain ⟨e,as,re⟩:=this _ _ _ ra v hv
  obtain ⟨a,vs,n,t1,t2,t3,t4,rfl,ho,ev⟩:=kB re
  refine g_ ?_
  refine fu ho fun v hv=>iy ?_
  rw [ev] at hv
  simp only [List.mem_cons,List.not_mem_nil,or_false] at hv
  rcases hv with rfl | rfl | rfl | rfl | rfl<;>rfl
variable (prog w H)
@[reducible] def stDec:DecidableEq StK:=fun a b=>instDecidableEqProd a b
noncomputable def eM:@HeapKind prog w StK stDec:=
 @HeapKind.mk prog w StK stDec (fun h p a=>Rd H h (.ref a) (stK p) []) (cx w) (fun p=>6 * p.2.length+3) (fun A=>A.units+10 < cLine)
  (fun {h a x y} hx hy=>by
   obtain ⟨_,r1⟩:=hx.reads
   obtain ⟨_,r2⟩:=hy.reads
   exact si (SeqAt.Reads.unique _ _ _ _ _ (hx.canLay (sh x)) r1 r2))
  (fun {h h' k a d o es ep} x ho hd hs=>x.mono' fun b ob e hb=>by
   have hne:b ≠ d:=by
    rintro rfl
    rw [ho] at e
    cases e
    rcases hb with ⟨vs,n,rfl⟩ | hb
    ·cases hd
    ·cases hb
   exact (hs.2 b hne).trans e)
  (fun {A E s k a Q} hu hk h=>sg hk hu s.toks E Q h)
  (fun {A E s x y a b Q} hu hx hy h=>by
   obtain ⟨_,r1⟩:=hx.reads
   obtain ⟨_,r2⟩:=hy.reads
   exact SeqAt.eqAt_reads _ _ A s _ _ _ _ r1 r2 (hx.canLay (sh x)) (hy.canLay (sh y)) (Nat.lt_of_le_of_lt (Nat.add_le_add_left (Nat.le_trans (Nat.min_le_left _ _) (Nat.le_trans (vz x) (by decide:3≤10))) _) hu) prog w E Q (by rw [mP];exact h))
  (fun {A E s k a Q} hk h=>oY hk E Q h)
noncomputable def xsK (xs:List (StK × Addr × Value)) (ks:List StK):Prop:=xs.map (·.1)=ks∧∀ x ∈ xs,x.2.2 = .bool true
variable {prog w H}
theorem tV {h:Heap} (hH2:∀ p:StK,H (stK p)=cx w p):∀ (ks:List StK) (es:List DictEntry),RdKv H h es (ks.map fun k=>(stK k,.bool true))→∃ xs:List (StK × Addr × Value),es=xs.map (@entryOfKey prog w StK stDec (eM prog w H))∧(∀ x ∈ xs,Rd H h (.ref x.2.1) (stK x.1) [])∧xsK xs ks:=by
 intro ks
 induction ks with
 | nil=>
  intro es r
  cases r;exact ⟨[],rfl,(fun x hx=>by cases hx),rfl,(fun x hx=>by cases hx)⟩
 | cons k ks ih_=>
  intro es r
  rw [List.map_cons] at r
  cases r with
  | @cons e es _ _ _ r1 r2 r3 r4=>
   refine byG fun X_ g_=>?_
   obtain ⟨xs,h1,h2,h3,h4⟩:=ih_ es r4
   obtain ⟨a,_,_,_,_,_,_,_,ek,_⟩:=cW r1
   refine g_ ?_
   rw [ek] at r1
   refine ⟨(k,a,.bool true)::xs,?_,fun x hx=>?_,by rw [List.map_cons,h3],fun x hx=>?_⟩
   ·rw [List.map_cons,← h1]
    congr 1
    show e=⟨cx w k,.ref a,.bool true⟩
    rw [← hH2,← r3,← ek,← r2.boolE']
   ·rcases List.mem_cons.mp hx with rfl | hx
    ·exact r1
    ·exact h2 x hx
   ·rcases List.mem_cons.mp hx with rfl | hx
    ·rfl
    ·exact h4 x hx
theorem oZ {h:Heap} (hH2:∀ p:StK,H (stK p)=cx w p):∀ (xs:List (StK × Addr × Value)),(∀ x ∈ xs,Rd H h (.ref x.2.1) (stK x.1) [])→(∀ x ∈ xs,x.2.2 = .bool true)→RdKv H h (xs.map (@entryOfKey prog w StK stDec (eM prog w H))) ((xs.map (·.1)).map fun k=>(stK k,.bool true)):=by
 intro xs
 induction xs with
 | nil=>
  intro _ _
  exact .nil
 | cons x xs ih_=>
  intro h1 h2
  rw [List.map_cons,List.map_cons,List.map_cons]
  refine .cons (h1 x (.head _)) ?_ (hH2 _).symm (ih_ (fun y hy=>h1 y (.tail _ hy)) fun y hy=>h2 y (.tail _ hy))
  show Rd H h x.2.2 _ _
  rw [h2 x (.head _)]
  exact .bool _
theorem mQ (hH2:∀ p:StK,H (stK p)=cx w p) {h:Heap} {v:Value} {kvs:List (D × D)} {as:List Addr} {ks:List StK} (r:Rd H h v (.dict kvs) as) (hk:keysT kvs=some ks) (hn:nodT ks=true):∃ a xs,v = .ref a∧as=[a]∧a ≠ sysModules∧@Heap.DictOfH prog w StK stDec (eM prog w H) h a xs∧xsK xs ks:=by
 rw [cV hk] at r
 cases r with
 | @dict a es n _ h0 h1 h2=>
  refine byG fun X_ g_=>?_
  obtain ⟨xs,e1,e2,e3⟩:=tV (prog:=prog) hH2 ks es.toList h2
  refine g_ ?_
  exact ⟨a,xs,rfl,rfl,h0,⟨_,es,n,h1,⟨rfl,rfl,rfl⟩,rfl,e1,e2,by rw [e3.1];exact kA _ hn⟩,e3⟩
theorem iz (hH2:∀ p:StK,H (stK p)=cx w p) {h:Heap} {a:Addr} {xs:List (StK × Addr × Value)} {ks:List StK} (hd:@Heap.DictOfH prog w StK stDec (eM prog w H) h a xs) (hx:xsK xs ks) (h0:a ≠ sysModules):∃ es n,h.get? a=some (dictObj es n)∧Rd H h (.ref a) (.dict (ks.map fun k=>(stK k,.bool true))) [a]:=by
 refine byG fun X_ g_=>?_
 obtain ⟨⟨cls,di,data,sl⟩,es,ep,ho,⟨c1,c2,c3⟩,hdat,he,hi,_⟩:=hd
 refine g_ ?_
 simp only at c1 c2 c3 hdat
 subst c1 c2 c3 hdat
 refine ⟨es,ep,ho,.dict h0 ho ?_⟩
 rw [he,← hx.1]
 exact oZ hH2 xs hi hx.2
theorem fv {xs:List (StK × Addr × Value)} {ks:List StK} (hx:xsK xs ks) {p:StK}:(@atKey StK stDec xs p).isSome=hasT p ks:=by
 unfold atKey
 rw [Option.isSome_map,Bool.eq_iff_iff,List.find?_isSome,dS,← hx.1,List.mem_map]
 exact ⟨fun ⟨x,h1,h2⟩=>⟨x,h1,of_decide_eq_true h2⟩,fun ⟨x,h1,h2⟩=>⟨x,h1,decide_eq_true h2⟩⟩
theorem gb {xs:List (StK × Addr × Value)} {ks:List StK} (hx:xsK xs ks) {p:StK} {a:Addr}:xsK (@storedH StK stDec xs p a (.bool true)) (if hasT p ks then ks else ks++[p]):=by
 unfold storedH
 rw [fv hx]
 split
 ·refine ⟨(@keys_map_putAt StK stDec xs p (.bool true)).trans hx.1,fun x hm=>?_⟩
  obtain ⟨y,hy,rfl⟩:=List.mem_map.mp hm
  unfold putAt
  split
  ·rfl
  ·exact hx.2 y hy
 ·refine ⟨by rw [List.map_append,hx.1];rfl,fun x hm=>?_⟩
  rcases List.mem_append.mp hm with hm | hm
  ·exact hx.2 x hm
  ·rw [List.mem_singleton.mp hm]
theorem kC {ks:List StK} {kvs:List (D × D)} (hk:keysT kvs=some ks) (p:StK):dPutT p ks kvs=(if hasT p ks then ks else ks++[p]).map fun k=>(stK k,PyData.bool true):=by
 unfold dPutT
 rw [cV hk]
 split
 ·rfl
 ·rw [List.map_append];rfl
theorem qR:∀ ks:List StK,eA (ks.map fun k=>(stK k,PyData.bool true))=true
 | []=>rfl
 | k::ks=>by
  show (noList (stK k)&&noList (.bool true)&&eA (ks.map fun k=>(stK k,PyData.bool true)))=true
  rw [oX,qR ks];rfl
end
end Mine
set_option tactic.hygienic false
namespace Mine
open PySem
theorem mR {vs:Array Value} {xs:List D} (h:vs.toList.length=xs.length):vs.isEmpty=xs.isEmpty:=by
 cases xs with
 | nil=>
  have:vs = #[]:=by simpa using h
  rw [this];rfl
 | cons x xs=>
  have:vs.isEmpty=false:=by
   cases q:vs.isEmpty with
   | false=>rfl
   | true=>rw [Array.isEmpty_iff.mp q] at h;simp at h
  rw [this];rfl
section
variable {P:Pk} {r:Nat} {c:TC} {A:Around} {s:Shared}
theorem fw {v:Value} {d:D} {as:List Addr} {Q:Bool→Shared→Prop} {E:Value→Shared→Prop} {b:Bool} (rd:Rd P.H s.heap v d as) (hd:truth d=some b) (h:∀ tk,Q b { s with toks:=tk }) :
 wpAny (model P.prog P.w) A (truthy v) Q E s:=by
 have h':=h (s.toks+1+1)
 have hz:(sizeLine:Int) < 2 ^ 63:=by decide
 cases rd with
 | none=>cases hd;exact PyProof.Rows.truthy_none (h s.toks)
 | bool b=>cases hd;exact wpAny_truthy_bool (h s.toks)
 | int i t=>cases hd;exact PyProof.Rows.truthy_int (h s.toks)
 | str x t hs ho=>
  cases hd
  refine PySem.P.truthy_str (by lia) ?_
  have e:(((x.length:Nat):Int) != 0)=(x.length != 0):=by
   cases q:x.length with
   | zero=>rfl
   | succ n=>simp;lia
  rw [e];exact h _
 | @list a vs n xs as h1 hs r1=>
  cases hd
  refine wpAny_truthy_list ⟨_,h1,rfl,_,rfl⟩ (by lia) ?_
  rw [mR r1.length];exact h _
 | @tuple a vs n xs as h1 hs r1=>
  cases hd
  refine PyProof.Rows.truthy_tuple ⟨_,h1,rfl,_,rfl⟩ (by lia) ?_
  rw [mR r1.length];exact h _
 | dict _ _=>cases hd
theorem cH {d:D} (h:isScalar d=true):ce d=true∧d.depth=0:=by
 cases d<;>first | (cases h;done) | exact ⟨rfl,rfl⟩
set_option tactic.hygienic true in
theorem mS {a b:D} {q:Bool} (h:pyEq a b=some q):ce a=true∧ce b=true∧min a.depth b.depth≤32∧q=a.eqv b:=by
 unfold pyEq at h
 split at h
 ·rename_i hc
  cases h
  rw [Bool.or_eq_true,Bool.and_eq_true,Bool.and_eq_true] at hc
  rcases hc with ⟨h1,h2⟩ | ⟨h1,h2⟩
  ·have:=cH h1
   have:=cH h2
   exact ⟨by simp_all,by simp_all,by simp_all,rfl⟩
  ·simp only [shp,Bool.and_eq_true,decide_eq_true_eq] at h1 h2
   exact ⟨h1.1,h2.1,by lia,rfl⟩
 ·cases h
set_option tactic.hygienic true in
theorem kD {x:D} {xs:List D} {q:Bool} (h:anyEq x xs=some q):aY xs=true∧ce x=true∧x.depth≤32∧q=xs.any fun y=>y.eqv x:=by
 unfold anyEq at h
 split at h
 ·rename_i hc
  cases h
  simp only [shp,Bool.and_eq_true,decide_eq_true_eq] at hc
  exact ⟨hc.1,hc.2.1,hc.2.2,rfl⟩
 ·cases h
theorem iA {x y:Str} {q:Bool} (h:subStrOne x y=some q):q = !(Builtin.Str.occurrences y x 0 y.length 1).isEmpty:=by
 unfold subStrOne at h
 cases e:x.cps.toList with
 | nil=>rw [e] at h;cases h
 | cons c l=>
  rw [e] at h
  cases l with
  | nil=>
   cases h
   rw [show x=⟨#[c]⟩ from congrArg Str.mk (Array.ext' e),StrLaws.found_one]
  | cons=>cases h
theorem kE {x:Value} {d:D} {as:List Addr} {H:D→Int} {h:Heap} (r:Rd H h x d as) (e:isN d=true):x = .none:=by
 have:d = .none:=by cases d<;>first | rfl | cases e
 subst this
 cases r;rfl
theorem qS {x:Value} {d:D} {as:List Addr} {H:D→Int} {h:Heap} (r:Rd H h x d as) (e:isN d=false):x ≠ .none:=by
 rintro rfl
 have:d = .none:=by cases r;rfl
 subst this
 cases e
theorem mT {motive:D→D→Bool→Prop} (hl:∀ x xs q,anyEq x xs=some q→motive x (.list xs) q) (ht:∀ x xs q,anyEq x xs=some q→motive x (.tuple xs) q)
 (hs:∀ x y q,subStrOne x y=some q→motive (.str x) (.str y) q)
 (hd:∀ x kvs,dictOk kvs=true→motive (.str x) (.dict kvs) (dHas x kvs))
 (hT:∀ p kvs ks,keysT kvs=some ks→nodT ks=true→motive (stK p) (.dict kvs) (hasT p ks))
 : ∀ {dx dy:D} {q:Bool},pyIn dx dy=some q→motive dx dy q:=by
 intro dx dy q he
 cases dy with
 | list xs=>exact hl dx xs q he
 | tuple xs=>exact ht dx xs q he
 | str y=>cases dx<;>first | (cases he;done) | exact hs _ y q he
 | dict kvs=>
  replace he:dIn dx kvs=some q:=he
  unfold dIn at he
  cases hk:strK dx with
  | some x=>
   rw [hk] at he
   obtain ⟨hok,rfl⟩:=aJ he
   have hx:=bN hk
   subst hx
   exact hd x kvs hok
  | none=>
   rw [hk] at he
   refine aa he fun p e1 he=>?_
   refine aa he fun ks e2 he=>?_
   obtain ⟨hn,rfl⟩:=aJ he
   rw [e9 e1]
   exact hT p kvs ks e2 hn
 | _=>cases he
noncomputable def InOk (P:Pk) (A:Around) (s:Shared) (x y:Value) (q:Bool):Prop:=
 (∀ {Q:Value→Shared→Prop} {E:Value→Shared→Prop},(∀ tk,Q (.bool q) { s with toks:=tk })→wpAny (model P.prog P.w) A (compareOp .In x y) Q E s)∧(∀ {Q:Value→Shared→Prop} {E:Value→Shared→Prop},(∀ tk,Q (.bool (!q)) { s with toks:=tk })→wpAny (model P.prog P.w) A (compareOp .NotIn x y) Q E s)
theorem qT {x y:Value} {dx dy:D} {q:Bool} {as bs:List Addr} (hH:∀ x:Str,P.H (.str x)=hashStr P.w x)
 (hH2:∀ p:StK,P.H (stK p)=cx P.w p)
 (hu:A.units+200 < cLine) (he:pyIn dx dy=some q) (rx:Rd P.H s.heap x dx as) (ry:Rd P.H s.heap y dy bs) :
 InOk P A s x y q:=by
 obtain ⟨as',ra⟩:=rx.reads
 obtain ⟨bs',rb⟩:=ry.reads
 revert rx ry ra rb
 refine mT (motive:=fun dx dy q=>Rd P.H s.heap x dx as→Rd P.H s.heap y dy bs→Reads s.heap x dx as'→Reads s.heap y dy bs'→InOk P A s x y q) (fun dx xs q he rx ry ra rb=>?_) (fun dx xs q he rx ry ra rb=>?_)
  (fun x y q he rx ry o_ o_=>?_)
  (fun x' kvs hok rx ry o_ o_=>?_)
  (fun p kvs ks hk hn rx ry o_ o_=>?_)
  he
 ·obtain ⟨h1,h2,h3,rfl⟩:=kD he
  cases ry using Rd.listE with
  | mk _ _ r1=>exact ⟨fun h=>SeqAt.in_list_reads rb ra (r1.canLay h1) (rx.canLay h2) (by lia) (h s.toks),fun h=>SeqAt.notIn_list_reads rb ra (r1.canLay h1) (rx.canLay h2) (by lia) (h s.toks)⟩
 ·obtain ⟨h1,h2,h3,rfl⟩:=kD he
  cases ry using Rd.tupleE with
  | mk _ _ r1=>exact ⟨fun h=>SeqAt.in_tuple_reads rb ra (r1.canLay h1) (rx.canLay h2) (by lia) (h s.toks),fun h=>SeqAt.notIn_tuple_reads rb ra (r1.canLay h1) (rx.canLay h2) (by lia) (h s.toks)⟩
 ·cases rx using Rd.strE;cases ry using Rd.strE
  exact ⟨fun h=>PySem.P.in_str (by rw [← (iA he)];exact h s.toks),fun h=>PySem.P.notIn_str (by rw [← (iA he)];exact h s.toks)⟩
 ·obtain ⟨a,l,rfl,rfl,h0,hd,hk⟩:=qM (prog:=P.prog) hH ry hok
  cases rx using Rd.strE with
  | mk t hz ho=>
   have hi:(strKind P.prog P.w).is x' (.str x' t)=true:=by simp [strKind,Value.isStrOf]
   exact ⟨fun h=>wpAny_in_of (knd:=strKind P.prog P.w) (k:=x') hi (by simpa using h0) hd.mapOf (by rw [ft hk];exact h _),fun h=>wpAny_notIn_of (knd:=strKind P.prog P.w) (k:=x') hi (by simpa using h0) hd.mapOf (by rw [ft hk];exact h _)⟩
 ·refine byG fun X_ g_=>?_
  obtain ⟨a,xs,rfl,rfl,h0,hd,hx⟩:=mQ (prog:=P.prog) hH2 ry hk hn
  obtain ⟨b,_,_,_,_,_,_,_,rfl,_⟩:=cW rx
  refine g_ ?_
  have has:as=[]:=rx.noAddr (oX p)
  subst has
  have hu1:A.in1.units+10 < cLine:=by rw [Around.in1_units];lia
  exact ⟨fun h=>@wpAny_in_heap P.prog P.w StK stDec (eM P.prog P.w P.H) A _ s a b p xs _ hu1 rx (by simpa using h0) hd (by rw [fv hx];exact h _),fun h=>@PyProof.Rows.wpAny_notIn_heap P.prog P.w StK stDec (eM P.prog P.w P.H) a b A _ s p xs _ hu1 rx (by simpa using h0) hd (by rw [fv hx];exact h _)⟩
theorem cop {op:CmpOp} {x y:Value} {dx dy:D} {q:Bool} {as bs:List Addr} {Q:Value→Shared→Prop} {E:Value→Shared→Prop} (hHH:mA P) (hA:Room A r) (rx:Rd P.H s.heap x dx as) (ry:Rd P.H s.heap y dy bs) (he:bm op dx dy=some q)
 (h':∀ tk,Q (.bool q) { s with toks:=tk }):wpAny (model P.prog P.w) A (compareOp op x y) Q E s:=by
 have hu:A.units+200 < cLine:=Nat.lt_of_le_of_lt (by lia) hA.units
 cases op with
 | Eq=>
  refine byG fun X_ g_=>?_
  obtain ⟨h1,h2,h3,rfl⟩:=mS (show pyEq dx dy=some q from he)
  obtain ⟨as',ra⟩:=rx.reads
  obtain ⟨bs',rb⟩:=ry.reads
  refine g_ ?_
  exact SeqAt.compareEq_reads ra rb (rx.canLay h1) (ry.canLay h2) (by lia) (h' s.toks)
 | NotEq=>
  refine byG fun X_ g_=>?_
  obtain ⟨b,e0,rfl⟩:=ag (show (pyEq dx dy).map (!·)=some q from he)
  obtain ⟨h1,h2,h3,rfl⟩:=mS e0
  obtain ⟨as',ra⟩:=rx.reads
  obtain ⟨bs',rb⟩:=ry.reads
  refine g_ ?_
  exact SeqAt.compareNe_reads ra rb (rx.canLay h1) (ry.canLay h2) (by lia) (h' s.toks)
 | Lt=>
  rcases oU he with ⟨xs,ys,rfl,rfl,he⟩ | he
  ·cases rx using Rd.tupleE with
   | mk h1 z1 r1=>
    cases ry using Rd.tupleE with
    | mk h2 z2 r2=>exact oV h1 h2 r1 r2 he (by lia) h'
  obtain ⟨p,e0,rfl⟩:=ag (show (bM dx dy).map (fun p=>decide (p.1 < p.2))=some q from he)
  obtain ⟨t,u,rfl,rfl⟩:=bG rx ry e0
  exact PyProof.Rows.lt_int (h' s.toks)
 | LtE=>
  obtain ⟨p,e0,rfl⟩:=ag (show (bM dx dy).map (fun p=>decide (p.1≤p.2))=some q from he)
  obtain ⟨t,u,rfl,rfl⟩:=bG rx ry e0
  exact PyProof.Rows.le_int (h' s.toks)
 | Gt=>
  obtain ⟨p,e0,rfl⟩:=ag (show (bM dx dy).map (fun p=>decide (p.2 < p.1))=some q from he)
  obtain ⟨t,u,rfl,rfl⟩:=bG rx ry e0
  exact PyProof.Rows.gt_int (h' s.toks)
 | GtE=>
  obtain ⟨p,e0,rfl⟩:=ag (show (bM dx dy).map (fun p=>decide (p.2≤p.1))=some q from he)
  obtain ⟨t,u,rfl,rfl⟩:=bG rx ry e0
  exact PyProof.Rows.ge_int (h' s.toks)
 | In=>exact (qT hHH.1
  hHH.2
  hu (show pyIn dx dy=some q from he) rx ry).1 h'
 | NotIn=>
  refine byG fun X_ g_=>?_
  obtain ⟨b,e0,rfl⟩:=ag (show (pyIn dx dy).map (!·)=some q from he)
  refine g_ ?_
  exact (qT hHH.1
  hHH.2
  hu e0 rx ry).2 h'
 | Is=>
  obtain ⟨hy,rfl⟩:=aJ (show (if isN dy then some (isN dx) else none)=some q from he)
  have:=kE ry hy
  subst this
  cases hx:isN dx with
  | true=>rw [hx] at h';have:=kE rx hx;subst this;exact PyProof.Rows.is_none_gen (h' s.toks)
  | false=>rw [hx] at h';exact PyProof.Rows.is_none_ne (qS rx hx) (h' s.toks)
 | IsNot=>
  obtain ⟨hy,rfl⟩:=aJ (show (if isN dy then some (!isN dx) else none)=some q from he)
  have:=kE ry hy
  subst this
  cases hx:isN dx with
  | true=>rw [hx] at h';have:=kE rx hx;subst this;exact PyProof.Rows.isnot_none_gen (h' s.toks)
  | false=>rw [hx] at h';exact PyProof.Rows.isnot_none_ne (qS rx hx) (h' s.toks)
end
end Mine
set_option tactic.hygienic false
namespace Mine
open PySem
section
variable {P:Pk} {r:Nat} {c:TC}
structure Pre (P:Pk) (r:Nat) (c:TC) (A:Around) (env:Env) (s:Shared) (m:St) (ow:List Nat) (own:Nat→Addr) (G:Addr→Prop):Prop where
 room:Room A r
 gp:P.GP s.heap
 er:EnvR P.H c env ow own G s.heap m
 new:∀ a,s.heap.get? a=none→G a
theorem Pre.keeps {A:Around} {env:Env} {s s':Shared} {m:St} {ow:List Nat} {own:Nat→Addr} {G:Addr→Prop} (p:Pre P r c A env s m ow own G) (k:Kp s s'):Pre P r c A env s' m ow own G:=
 ⟨p.room,p.gp.keeps k.get,p.er.keeps k.get,fun a e=>p.new a (k.none e)⟩
theorem SE.use {e:PySem.Expr} {e':Ex} (h:P.SE r c e e') {A:Around} {env:Env} {s:Shared} {m:St} {ow:List Nat} {own:Nat→Addr} {G:Addr→Prop} {d:D} (p:Pre P r c A env s m ow own G) (hok:okE ow e'=true) (hev:evE P.Φ P.Γ e' m=some d)
 {Q:Value→Shared→Prop} (hq:∀ v s',PostE P ow own G e' d s v s'→Q v s'):wpAny (model P.prog P.w) A (eval e env) Q (fun o_ o_=>False) s:=
 wpAny_mono (h A env s m ow own G d p.room p.gp p.er p.new hok hev) hq fun o_ o_ x=>x
theorem SE.us {e:PySem.Expr} {e':Ex} (h:P.SE r c e e') {A:Around} {env:Env} {s:Shared} {m:St} {ow:List Nat} {own:Nat→Addr} {G:Addr→Prop} {d:D} (p:Pre P r c A env s m ow own G) (hok:okE ow e'=true) (hev:evE P.Φ P.Γ e' m=some d)
 {Q:Value→Shared→Prop} (hq:∀ v s',Kp s s'→∀ as,Rd P.H s'.heap v d as→(isOw ow e'=false→∀ a ∈ as,G a)→(isOw ow e'=true→flat d=true)→(frE e'=true→flat d=true→∀ a ∈ as,s.heap.get? a=none)→(isOw ow e'=true→∀ a ∈ as,a=ownA own e')→Q v s'):wpAny (model P.prog P.w) A (eval e env) Q (fun o_ o_=>False) s:=
 SE.use h p hok hev fun v s' q=>q.2.elim fun as r=>hq v s' q.1 as r.1 r.2.1 r.2.2.1 r.2.2.2.1 r.2.2.2.2
theorem ST.use {e:PySem.Expr} {e':Ex} (h:P.ST r c e e') {A:Around} {env:Env} {s:Shared} {m:St} {ow:List Nat} {own:Nat→Addr} {G:Addr→Prop} {d:D} (p:Pre P r c A env s m ow own G) (hok:okE ow e'=true) {b:Bool} (hev:evE P.Φ P.Γ e' m=some d) (ht:truth d=some b)
 {Q:Bool→Shared→Prop} (hq:∀ s',Kp s s'→Q b s'):wpAny (model P.prog P.w) A (isTrue e env (eval e env)) Q (fun o_ o_=>False) s:=
 wpAny_mono (h A env s m ow own G d b p.room p.gp p.er p.new hok hev ht) (fun b s' q=>by rw [q.1];exact hq s' q.2) fun o_ o_ x=>x
theorem two {a b:PySem.Expr} {a' b':Ex} (ha:P.SE r c a a') (hb:P.SE r c b b') {A:Around} {env:Env} {s:Shared} {m:St} {ow:List Nat} {own:Nat→Addr} {G:Addr→Prop} {dx dy:D} (p:Pre P r c A env s m ow own G)
 (ha1:okE ow a'=true) (hb1:okE ow b'=true) (ha2:evE P.Φ P.Γ a' m=some dx) (hb2:evE P.Φ P.Γ b' m=some dy) {Q:Value→Value→Shared→Prop}
 (h:∀ x y s2 as bs,Kp s s2→Rd P.H s2.heap x dx as→Rd P.H s2.heap y dy bs→(isOw ow a'=false→∀ i ∈ as,G i)→(isOw ow a'=true→flat dx=true) →
  (isOw ow b'=false→∀ i ∈ bs,G i)→(isOw ow b'=true→flat dy=true)→Q x y s2) :
 wpAny (model P.prog P.w) A (eval a env) (fun x s1=>wpAny (model P.prog P.w) A (eval b env) (fun y s2=>Q x y s2) (fun o_ o_=>False) s1) (fun o_ o_=>False) s:=by
 refine SE.us ha p ha1 ha2 fun x s1 k1 as rx g1 f1 o_ o_=>?_
 refine SE.us hb (p.keeps k1) hb1 hb2 fun y s2 k2 bs ry g2 f2 o_ o_=>?_
 exact h x y s2 as bs (k1.trans k2) (rx.keeps k2.get) ry g1 f1 g2 f2
theorem PostV.toE {ow:List Nat} {own:Nat→Addr} {G:Addr→Prop} {e':Ex} {d:D} {s s2 s':Shared} {v:Value} {U:Addr→Prop} (k:Kp s s2) (q:PostV P s2 U d v s') (hi:isOw ow e'=false) (hn:∀ a,s.heap.get? a=none→G a) (hU:∀ a,U a→G a):PostE P ow own G e' d s v s':=by
 refine byG fun X_ g_=>?_
 obtain ⟨k2,cs,rd,h1,h2⟩:=q
 refine g_ ?_
 refine ⟨k.trans k2,cs,rd,fun o_ a m=>?_,fun x=>(by rw [hi] at x;cases x),fun o_ hf a m=>k.none (h2 hf a m),fun x=>(by rw [hi] at x;cases x)⟩
 exact (h1 a m).elim (fun x=>hn a (k.none x)) (hU a)
theorem o4 {l rr:PySem.Expr} {a b:Ex} {op:Operator} {pos:Pos} (ha:P.SE r c l a) (hb:P.SE r c rr b):P.SE r c (.BinOp l op rr pos) (.bin op a b):=by
 intro A env s m ow own G d hA hg R hG hok hev
 simp only [vp,Bool.and_eq_true] at hok
 simp only [ba] at hev
 refine aa hev fun dx e1 hev=>?_
 refine aa hev fun dy e2 hev=>?_
 refine wpAny_BinOp (two ha hb (⟨hA,hg,R,hG⟩) hok.1 hok.2 e1 e2 fun x y s2 as bs k rx ry g1 f1 g2 f2=>?_)
 refine wpAny_mono (bop rx ry hev) (fun v s' q=>PostV.toE k q rfl hG fun a u=>?_) fun o_ o_ x=>x
 exact u.elim (rx.innG g1 f1 a) (ry.innG g2 f2 a)
theorem eN {op:CmpOp} {e:PySem.Expr} (h:isSet e=false):behindInMarks op e=false:=by
 cases e<;>first | rfl | cases h
theorem jt {l rr:PySem.Expr} {a b:Ex} {op:CmpOp} {pos:Pos} (hs:isSet rr=false) (ha:P.SE r c l a) (hb:P.SE r c rr b):P.SE r c (.Compare l [op] [rr] pos) (.cmp op a b):=by
 intro A env s m ow own G d hA hg R hG hok hev
 have p:Pre P r c A env s m ow own G:=⟨hA,hg,R,hG⟩
 simp only [tQ,Bool.and_eq_true] at hok
 simp only [dP] at hev
 refine byG fun X_ g_=>?_
 refine aa hev fun dx e1 hev=>?_
 refine aa hev fun dy e2 hev=>?_
 obtain ⟨q,e3,rfl⟩:=ag hev
 refine g_ ?_
 exact wpAny_Compare1 (two ha hb p hok.1 hok.2 e1 e2 fun x y s2 as bs k rx ry g1 f1 g2 f2=>cop hg.hs hA rx ry e3 (fun tk=>PostE.flat0 (k.trans (Kp.toks s2 tk)) (.bool q) rfl rfl)) (eN hs)
theorem ju {l rr:PySem.Expr} {a b:Ex} {op:CmpOp} {pos:Pos} (hs:isSet rr=false) (ha:P.SE r c l a) (hb:P.SE r c rr b):P.ST r c (.Compare l [op] [rr] pos) (.cmp op a b):=by
 intro A env s m ow own G d bb hA hg R hG hok hev ht
 have p:Pre P r c A env s m ow own G:=⟨hA,hg,R,hG⟩
 simp only [tQ,Bool.and_eq_true] at hok
 simp only [dP] at hev
 refine aa hev fun dx e1 hev=>?_
 refine aa hev fun dy e2 hev=>?_
 obtain ⟨q,e3,rfl⟩:=ag hev
 refine wpAny_isTrue_Compare1 (two ha hb p hok.1 hok.2 e1 e2 fun x y s2 as bs k rx ry g1 f1 g2 f2=>cop hg.hs hA rx ry e3 fun tk=>?_) (eN hs)
 cases ht
 exact wpAny_truthy_bool ⟨rfl,k.trans (Kp.toks s2 tk)⟩
theorem o5 {o1 o2:CmpOp} {r1 r2:PySem.Expr} {b c':Ex} {pos:Pos} (hb:P.SE r c r1 b) (hc:P.SE r c r2 c') {A:Around} {env:Env} {s:Shared} {m:St} {ow:List Nat} {own:Nat→Addr} {G:Addr→Prop} (p:Pre P r c A env s m ow own G) (k1:okE ow b=true) (k2:okE ow c'=true)
 {x:Value} {dx:D} {as:List Addr} (rx:Rd P.H s.heap x dx as) {q:Bool} (hev:((evE P.Φ P.Γ b m).bind fun y=>(bm o1 dx y).bind fun r=>if r then (evE P.Φ P.Γ c' m).bind fun z=>(bm o2 y z).map PyData.bool else some (.bool false))=some (.bool q))
 {Q:Value→Shared→Prop} (hq:∀ s',Kp s s'→Q (.bool q) s'):wpAny (model P.prog P.w) A (compareChain pos x [o1,o2] [eval r1 env,eval r2 env]) Q (fun o_ o_=>False) s:=by
 refine aa hev fun dy e1 hev=>?_
 refine aa hev fun b1 e2 hev=>?_
 refine PyProof.Rows.chain_link (SE.us hb p k1 e1 fun y s1 kp1 bs ry o_ o_ o_ o_=>?_)
 refine cop p.gp.hs p.room (rx.keeps kp1.get) ry e2 fun tk=>wpAny_truthy_bool ?_
 cases b1 with
 | false=>
  cases hev
  exact hq _ (kp1.trans (Kp.toks s1 tk))
 | true=>
  refine aa hev fun dz e3 hev=>?_
  obtain ⟨b2,e4,hev⟩:=ag hev
  cases hev
  refine PyProof.Rows.chain_last (SE.us hc (p.keeps (kp1.trans (Kp.toks s1 tk))) k2 e3 fun z s2 kp3 cs rz o_ o_ o_ o_=>?_)
  exact cop p.gp.hs p.room (ry.keeps ((Kp.toks s1 tk).trans kp3).get) rz e4 fun tk2=>hq _ (((kp1.trans (Kp.toks s1 tk)).trans kp3).trans (Kp.toks s2 tk2))
theorem iB {o1 o2:CmpOp} {b c':Ex} {m:St} {dx d:D} (h:((evE P.Φ P.Γ b m).bind fun y=>(bm o1 dx y).bind fun r=>if r then (evE P.Φ P.Γ c' m).bind fun z=>(bm o2 y z).map PyData.bool else some (.bool false))=some d):∃ q,d = .bool q:=by
 refine aa h fun dy o_ h=>?_
 refine aa h fun b1 o_ h=>?_
 cases b1 with
 | false=>cases h;exact ⟨_,rfl⟩
 | true=>
  refine aa h fun dz o_ h=>?_
  obtain ⟨b2,_,rfl⟩:=ag h
  exact ⟨_,rfl⟩
theorem sj {l r1 r2:PySem.Expr} {a b c':Ex} {o1 o2:CmpOp} {pos:Pos} (hm:lastMarks [o1,o2] [r1,r2]=false) (ha:P.SE r c l a) (hb:P.SE r c r1 b) (hc:P.SE r c r2 c'):P.SE r c (.Compare l [o1,o2] [r1,r2] pos) (.cmp2 o1 o2 a b c'):=by
 intro A env s m ow own G d hA hg R hG hok hev
 have p:Pre P r c A env s m ow own G:=⟨hA,hg,R,hG⟩
 replace hok:(okE ow a&&okE ow b&&okE ow c')=true:=hok
 rw [Bool.and_eq_true,Bool.and_eq_true] at hok
 rw [mh] at hev
 refine byG fun X_ g_=>?_
 refine aa hev fun dx e1 hev=>?_
 obtain ⟨q,rfl⟩:=iB hev
 refine g_ ?_
 refine PyProof.Rows.Compare_chain (SE.us ha p hok.1.1 e1 fun x s1 k1 as rx o_ o_ o_ o_=>?_) hm
 exact o5 hb hc (p.keeps k1) hok.1.2 hok.2 rx hev fun s' k=>PostE.flat0 (k1.trans k) (.bool q) rfl rfl
theorem sk {l r1 r2:PySem.Expr} {a b c':Ex} {o1 o2:CmpOp} {pos:Pos} (hm:lastMarks [o1,o2] [r1,r2]=false) (ha:P.SE r c l a) (hb:P.SE r c r1 b) (hc:P.SE r c r2 c'):P.ST r c (.Compare l [o1,o2] [r1,r2] pos) (.cmp2 o1 o2 a b c'):=by
 intro A env s m ow own G d bb hA hg R hG hok hev ht
 have p:Pre P r c A env s m ow own G:=⟨hA,hg,R,hG⟩
 replace hok:(okE ow a&&okE ow b&&okE ow c')=true:=hok
 rw [Bool.and_eq_true,Bool.and_eq_true] at hok
 rw [mh] at hev
 refine aa hev fun dx e1 hev=>?_
 refine PyProof.Rows.isTrue_chain (SE.us ha p hok.1.1 e1 fun x s1 k1 as rx o_ o_ o_ o_=>?_) hm
 refine aa hev fun dy e1 hev=>?_
 refine aa hev fun b1 e2 hev=>?_
 refine PyProof.Rows.test_link (SE.us hb (p.keeps k1) hok.1.2 e1 fun y s1 kp1 bs ry o_ o_ o_ o_=>?_)
 refine cop p.gp.hs p.room (rx.keeps kp1.get) ry e2 fun tk=>wpAny_truthy_bool ?_
 have kp2:=(k1.trans kp1).trans (Kp.toks s1 tk)
 cases b1 with
 | false=>
  cases hev
  cases ht
  exact ⟨rfl,kp2⟩
 | true=>
  refine byG fun X_ g_=>?_
  refine aa hev fun dz e3 hev=>?_
  obtain ⟨b2,e4,hev⟩:=ag hev
  refine g_ ?_
  cases hev
  cases ht
  refine PyProof.Rows.test_last (SE.us hc (p.keeps kp2) hok.2 e3 fun z s2 kp3 cs rz o_ o_ o_ o_=>?_)
  exact cop p.gp.hs p.room (ry.keeps ((Kp.toks s1 tk).trans kp3).get) rz e4 fun tk2=>wpAny_truthy_bool ⟨rfl,(kp2.trans kp3).trans (Kp.toks s2 tk2)⟩
theorem o6 {e:PySem.Expr} {e':Ex} (h:P.SE r c e e') (hp:∀ env:Env,isTrue e env (eval e env)=(do let v ← eval e env;standAt e.pos;holding [v] (truthy v))):P.ST r c e e':=by
 intro A env s m ow own G d b hA hg R hG hok hev ht
 refine PyProof.Rows.isTrue_plain (SE.us h (⟨hA,hg,R,hG⟩) hok hev fun v s' k as rd o_ o_ o_ o_=>?_) (hp env)
 exact fw rd ht fun tk=>⟨rfl,k.trans (Kp.toks s' tk)⟩
end
end Mine
set_option tactic.hygienic false
namespace Mine
open PySem
inductive SEL (P:Pk) (r:Nat) (c:TC):List PySem.Expr→Exs→Prop
 | nil:SEL P r c [] .nil
 | cons {e:PySem.Expr} {e':Ex} {es:List PySem.Expr} {es':Exs}:isStar e=false→P.SE r c e e'→P.ST r c e e'→SEL P r c es es'→SEL P r c (e::es) (.cons e' es')
theorem an {e:PySem.Expr} (h:isStar e=false) (es:List PySem.Expr) (env:Env):starEach (e::es) env=(false,eval e env)::starEach es env:=by
 cases e<;>first | rfl | cases h
section
variable {P:Pk} {r:Nat} {c:TC}
theorem ci {ow:List Nat} {e:Ex} {es:Exs} (h:okEs ow (.cons e es)=true):okE ow e=true∧okEs ow es=true:=Bool.and_eq_true_iff.mp h
theorem fx {ow:List Nat} {e:Ex} {es:Exs} (h:nmEs ow (.cons e es)=true):isOw ow e=false∧nmEs ow es=true:=by
 have:=Bool.and_eq_true_iff.mp (show (!isOw ow e&&nmEs ow es)=true from h)
 exact ⟨(Bool.not_eq_true' _).mp this.1,this.2⟩
theorem du {pos:Pos} {es:List PySem.Expr} {es':Exs} (h:SEL P r c es es'):∀ {A:Around} {env:Env} {s:Shared} {m:St} {ow:List Nat} {own:Nat→Addr} {G:Addr→Prop} {ds:List D},Pre P r c A env s m ow own G →
 okEs ow es'=true→evEs P.Φ P.Γ es' m=some ds→∀ {Q:List Value→Shared→Prop},(∀ vs s' as,Kp s s'→RdAll P.H s'.heap vs ds as→(nmEs ow es'=true→∀ a ∈ as,G a)→Q vs s') →
 wpAny (model P.prog P.w) A (spliced (backTo pos (starEach es env))) Q (fun o_ o_=>False) s:=by
 induction h with
 | nil=>
  intro A env s m ow own G ds _ _ hev Q h
  cases Option.some.inj (show some []=some ds from hev)
  exact Calls.spliced_nil (h [] s [] (Kp.refl s) .nil fun o_ o_ q=>(nomatch q))
 | @cons e e' es es' hs h1 _ h2 ih=>
  intro A env s m ow own G ds p hok hev Q h
  refine byG fun X_ g_=>?_
  obtain ⟨hk1,hk2⟩:=ci hok
  refine aa hev fun d e1 hev=>?_
  obtain ⟨dr,e2,rfl⟩:=ag hev
  refine g_ ?_
  refine PyProof.Rows.args_cons (SE.us h1 p hk1 e1 fun v s1 k1 as rd g1 o_ o_ o_=>?_) (an hs es env)
  refine ih (p.keeps k1) hk2 e2 fun vs s2 bs k2 rs g2=>h (v::vs) s2 (as++bs) (k1.trans k2) (.cons (rd.keeps k2.get) rs) fun hn a q=>?_
  obtain ⟨n1,n2⟩:=fx hn
  exact (List.mem_append.mp q).elim (g1 n1 a) (g2 n2 a)
theorem fy {Φ:Str→List D→Option D} {Γ:Str→Option D} {m:St} {es':Exs} {es:List PySem.Expr} (h:SEL P r c es es'):∀ {ds:List D},evEs Φ Γ es' m=some ds→ds.length=es.length:=by
 induction h with
 | nil=>intro ds h;cases Option.some.inj (show some []=some ds from h);rfl
 | cons _ _ _ h2 ih=>
  intro ds h
  refine aa h fun d o_ h=>?_
  obtain ⟨dr,e2,rfl⟩:=ag h
  rw [List.length_cons,List.length_cons,ih e2]
theorem o7 {es:List PySem.Expr} {es':Exs} {k:Nat} {pos:Pos} (hl:es.length≤100) (h:SEL P r c es es'):P.SE r c (.Tuple es k pos) (.tup es'):=by
 intro A env s m ow own G d hA hg R hG hok hev
 simp only [vn,Bool.and_eq_true] at hok
 simp only [cB] at hev
 obtain ⟨ds,e1,rfl⟩:=ag hev
 refine PyProof.Rows.Tuple_ (du h (⟨hA,hg,R,hG⟩) hok.1 e1 fun vs s' as k rs g=>?_)
 have hz:vs.length≤sizeLine:=by rw [rs.length,fy h e1];exact Nat.le_trans hl (by decide)
 refine wpAny_newObj_type ?_ (by show vs.toArray.size≤sizeLine;exact hz)
 exact PostV.toE k (PostV.newTuple (U:=G) (hz) (rs) fun a q=>.inr (g hok.2 a q)) rfl hG fun o_ u=>u
theorem sm {es:List PySem.Expr} {es':Exs} {pos:Pos} (hl:es.length≤100) (h:SEL P r c es es'):P.SE r c (.List es pos) (.lst es'):=by
 intro A env s m ow own G d hA hg R hG hok hev
 have p:Pre P r c A env s m ow own G:=⟨hA,hg,R,hG⟩
 simp only [vo,Bool.and_eq_true] at hok
 simp only [ik] at hev
 obtain ⟨ds,e1,rfl⟩:=ag hev
 refine PyProof.Rows.List_ (du h p hok.1 e1 fun vs s' as k rs g=>?_)
 have hz:vs.length≤sizeLine:=by rw [rs.length,fy h e1];exact Nat.le_trans hl (by decide)
 refine wpAny_newObj_type ?_ (by show vs.toArray.size≤sizeLine;exact hz)
 exact PostV.toE k (PostV.newList (U:=G) (hz) (rs) fun a q=>.inr (g hok.2 a q)) rfl hG fun o_ u=>u
theorem o8 {op:PySem.BoolOp} {pos:Pos} {es:List PySem.Expr} {es':Exs} (h:SEL P r c es es'):∀ {A:Around} {env:Env} {s:Shared} {m:St} {ow:List Nat} {own:Nat→Addr} {G:Addr→Prop} {d:D},Pre P r c A env s m ow own G →
 okEs ow es'=true→nmEs ow es'=true→evB P.Φ P.Γ (op == .And) es' m=some d →
 wpAny (model P.prog P.w) A (boolOp pos op (evalEach es env)) (fun v s'=>Kp s s'∧∃ as,Rd P.H s'.heap v d as∧∀ a ∈ as,G a) (fun o_ o_=>False) s:=by
 induction h with
 | nil=>intro A env s m ow own G d _ _ _ hev;cases (show none=some d from hev)
 | @cons e e' es es' hs h1 _ h2 ih=>
  intro A env s m ow own G d p hok hn hev
  have hk2:=(ci hok).2
  have n1:=(fx hn).1;have n2:=(fx hn).2
  cases h2 with
  | nil=>
   show wpAny _ A (eval e env) _ _ s
   refine SE.us h1 p ((ci hok).1) hev fun v s1 k1 as rd g1 o_ o_ o_=>?_
   exact ⟨k1,as,rd,g1 n1⟩
  | @cons f f' es es' hs2 h3 h4 h5=>
   refine aa hev fun dx e1 hev=>?_
   refine aa hev fun b e2 hev=>?_
   show wpAny _ A (do
    let v ← eval e env
    standAt pos
    let t ← holding [v] (truthy v)
    match op,t with
    | .And,false | .Or,true=>pure v
    | _,_=>boolOp pos op (evalEach (f::es) env)) _ _ s
   refine wpAny_bind (SE.us h1 p ((ci hok).1) e1 fun v s1 k1 as rd g1 o_ o_ o_=>?_)
   refine wpAny_bind (wpAny_standAt (wpAny_bind (wpAny_holding (fw rd e2 fun tk=>?_))))
   have k2:Kp s { s1 with toks:=tk }:=k1.trans (Kp.toks s1 tk)
   by_cases hb:b=(op == .And)
   ·rw [if_pos hb] at hev
    subst hb
    have:=wpAny_mono (Q':=fun v s'=>Kp s s'∧∃ as,Rd P.H s'.heap v d as∧∀ a ∈ as,G a) (ih (p.keeps k2) hk2 n2 hev) (fun v' s' q=>⟨k2.trans q.1,q.2⟩) fun o_ o_ x=>x
    cases op<;>exact this
   ·rw [if_neg hb] at hev
    cases hev
    cases op<;>cases b<;>first | exact wpAny_pure ⟨k2,as,rd,(g1 n1)⟩ | exact absurd rfl hb
theorem mU {op:PySem.BoolOp} {vs:List PySem.Expr} {es':Exs} {pos:Pos} (h:SEL P r c vs es'):P.SE r c (.BoolOp op vs pos) (.bool (op == .And) es'):=by
 intro A env s m ow own G d hA hg R hG hok hev
 simp only [qL,Bool.and_eq_true] at hok
 simp only [cG] at hev
 rw [arm_eval_BoolOp]
 refine wpAny_mono (o8 h (⟨hA,hg,R,hG⟩) hok.1 hok.2 hev) (fun v s' q=>?_) fun o_ o_ x=>x
 obtain ⟨k,as,rd,g⟩:=q
 exact ⟨k,as,rd,fun o_=>g,fun q=>(by cases q),fun q=>(by cases q),fun q=>(by cases q)⟩
theorem ls {op:PySem.BoolOp} {pos:Pos} {whole:Sem Value} {es:List PySem.Expr} {es':Exs} (h:SEL P r c es es'):∀ {A:Around} {env:Env} {s:Shared} {m:St} {ow:List Nat} {own:Nat→Addr} {G:Addr→Prop} {d:D} {b:Bool},Pre P r c A env s m ow own G →
 okEs ow es'=true→evB P.Φ P.Γ (op == .And) es' m=some d→truth d=some b →
 wpAny (model P.prog P.w) A (isTrue (.BoolOp op es pos) env whole) (fun b' s'=>b'=b∧Kp s s') (fun o_ o_=>False) s:=by
 induction h with
 | nil=>intro A env s m ow own G d b _ _ hev;cases (show none=some d from hev)
 | @cons e e' es es' hs _ h1 h2 ih=>
  intro A env s m ow own G d b p hok hev ht
  have hk1:=(ci hok).1;have hk2:=(ci hok).2
  cases h2 with
  | nil=>
   cases op with
   | And=>
    refine PyProof.Rows.isTrue_and (ST.use h1 p hk1 hev ht fun s' k=>?_)
    cases b with
    | true=>exact PyProof.Rows.isTrue_and_nil ⟨rfl,k⟩
    | false=>exact ⟨rfl,k⟩
   | Or=>
    refine PyProof.Rows.isTrue_or (ST.use h1 p hk1 hev ht fun s' k=>?_)
    cases b with
    | true=>exact ⟨rfl,k⟩
    | false=>exact PyProof.Rows.isTrue_or_nil ⟨rfl,k⟩
  | @cons f f' es es' hs2 h3 h4 h5=>
   refine aa hev fun dx e1 hev=>?_
   refine aa hev fun bx e2 hev=>?_
   have rest:bx=(op == .And)→∀ s',Kp s s'→wpAny (model P.prog P.w) A (isTrue (.BoolOp op (f::es) pos) env whole) (fun b' s''=>b'=b∧Kp s s'') (fun o_ o_=>False) s':=fun hb s' k=>by
    rw [if_pos hb] at hev
    exact wpAny_mono (ih (p.keeps k) hk2 hev ht) (fun v' s' q=>⟨q.1,k.trans q.2⟩) fun o_ o_ x=>x
   have stop:bx ≠ (op == .And)→bx=b:=fun hb=>by
    rw [if_neg hb] at hev
    cases hev
    exact Option.some.inj (e2.symm.trans ht)
   cases op with
   | And=>
    refine PyProof.Rows.isTrue_and (ST.use h1 p hk1 e1 e2 fun s' k=>?_)
    cases bx with
    | true=>exact rest rfl s' k
    | false=>exact ⟨stop (by decide),k⟩
   | Or=>
    refine PyProof.Rows.isTrue_or (ST.use h1 p hk1 e1 e2 fun s' k=>?_)
    cases bx with
    | true=>exact ⟨stop (by decide),k⟩
    | false=>exact rest rfl s' k
theorem mV {op:PySem.BoolOp} {vs:List PySem.Expr} {es':Exs} {pos:Pos} (h:SEL P r c vs es'):P.ST r c (.BoolOp op vs pos) (.bool (op == .And) es'):=by
 intro A env s m ow own G d b hA hg R hG hok hev ht
 simp only [qL,Bool.and_eq_true] at hok
 simp only [cG] at hev
 exact ls h ⟨hA,hg,R,hG⟩ hok.1 hev ht
theorem tW {x:PySem.Expr} {a:Ex} {pos:Pos} (h:P.SE r c x a):P.SE r c (.UnaryOp .Not x pos) (.not a):=by
 intro A env s m ow own G d hA hg R hG hok hev
 simp only [tP] at hok
 simp only [rC] at hev
 refine byG fun X_ g_=>?_
 refine aa hev fun dx e1 hev=>?_
 obtain ⟨b,e2,rfl⟩:=ag hev
 refine g_ ?_
 refine wpAny_UnaryOp (SE.us h ⟨hA,hg,R,hG⟩ hok e1 fun v s' k as rd o_ o_ o_ o_=>?_)
 exact PyProof.Rows.not_of (fw rd e2 fun tk=>PostE.flat0 (k.trans (Kp.toks s' tk)) (.bool _) rfl rfl)
theorem tX {x:PySem.Expr} {a:Ex} {pos:Pos} (h:P.ST r c x a):P.ST r c (.UnaryOp .Not x pos) (.not a):=by
 intro A env s m ow own G d b hA hg R hG hok hev ht
 simp only [tP] at hok
 simp only [rC] at hev
 refine aa hev fun dx e1 hev=>?_
 obtain ⟨b',e2,rfl⟩:=ag hev
 cases ht
 exact PyProof.Rows.isTrue_not (ST.use h ⟨hA,hg,R,hG⟩ hok e1 e2 fun s' k=>⟨rfl,k⟩)
theorem tY {x:PySem.Expr} {a:Ex} {pos:Pos} (h:P.SE r c x a):P.SE r c (.UnaryOp .USub x pos) (.neg a):=by
 intro A env s m ow own G d hA hg R hG hok hev
 simp only [vq] at hok
 simp only [vd] at hev
 refine aa hev fun dx e1 hev=>?_
 refine wpAny_UnaryOp (SE.us h ⟨hA,hg,R,hG⟩ hok e1 fun v s' k as rd o_ o_ o_ o_=>?_)
 obtain ⟨i,e2,rfl⟩:=ag hev
 rw [cg e2] at rd
 cases rd using Rd.intE
 exact PyProof.Rows.neg_int (PostE.flat0 (k.trans (Kp.toks s' _)) (.int _ _) rfl rfl)
end
end Mine
set_option tactic.hygienic false
namespace Mine
open PySem
set_option tactic.hygienic true in
theorem aE {n k:Nat} {i:Int} (h:aI n i=some k):seqIndex? i n=some k∧k < n∧-(n:Int)≤i∧i < n:=by
 unfold aI at h
 unfold seqIndex?
 split at h
 ·split at h
  ·cases h
   rename_i h1 h2
   refine ⟨?_,by lia,by lia,by exact h2⟩
   have : ¬ i < 0:=by lia
   simp only [this,if_false]
   rw [if_pos (by simp;lia)]
  ·cases h
 ·split at h
  ·cases h
   rename_i h1 h2
   refine ⟨?_,by lia,by exact h2,by lia⟩
   have:i < 0:=by lia
   simp only [this,if_true]
   rw [if_pos (by simp;lia)]
  ·cases h
theorem jv {n k:Nat} {i:Int} (h:aI n i=some k) (hi:0≤i):k=i.toNat:=by
 unfold aI at h
 rw [if_pos hi] at h
 by_cases q:i < (n:Int)
 ·rw [if_pos q] at h;exact (Option.some.inj h).symm
 ·rw [if_neg q] at h;cases h
theorem jw {n k:Nat} {i:Int} (h:aI n i=some k) (hi : ¬ 0≤i):k=(i+n).toNat:=by
 unfold aI at h
 rw [if_neg hi] at h
 by_cases q : -(n:Int)≤i
 ·rw [if_pos q] at h;exact (Option.some.inj h).symm
 ·rw [if_neg q] at h;cases h
theorem iC {x:Str} {k c:Nat} (h:PyData.strOk x=true) (e:x.cps[k]?=some c):PyData.strOk ⟨#[c]⟩=true:=by
 unfold PyData.strOk at *
 rw [← Array.all_toList,List.all_eq_true] at h
 have:=h c (by
  obtain ⟨hk,rfl⟩:=Array.getElem?_eq_some_iff.mp e
  exact Array.mem_toList_iff.mpr (Array.getElem_mem hk))
 simpa using this
section
variable {P:Pk} {r:Nat} {c:TC} {A:Around} {s:Shared}
theorem mW {x y d:D} (h:item x y=some d):(∃ xs i,x = .list xs∧y = .int i∧((aI xs.length i).bind fun k=>xs[k]?)=some d)∨(∃ xs i,x = .tuple xs∧y = .int i∧((aI xs.length i).bind fun k=>xs[k]?)=some d)∨∃ s i,x = .str s∧y = .int i∧((aI s.length i).bind fun k=>(s.cps[k]?).map fun c=>PyData.str ⟨#[c]⟩)=some d:=by
 cases x<;>first | (cases h;done) | (cases y<;>first | (cases h;done) | exact .inl ⟨_,_,rfl,rfl,h⟩ | exact .inr (.inl ⟨_,_,rfl,rfl,h⟩) | exact .inr (.inr ⟨_,_,rfl,rfl,h⟩))
theorem getI {x y:Value} {dx dy d:D} {as bs:List Addr} (rx:Rd P.H s.heap x dx as) (ry:Rd P.H s.heap y dy bs) (he:item dx dy=some d) {Q:Value→Shared→Prop} {E:Value→Shared→Prop}
 (h:∀ v tk cs,Rd P.H s.heap v d cs→(∀ a ∈ cs,a ∈ inn dx as)→Q v { s with toks:=tk }):wpAny (model P.prog P.w) A (getItem x y) Q E s:=by
 have hz:(sizeLine:Int) < 2 ^ 62:=by decide
 rcases mW he with ⟨xs,i,rfl,rfl,he⟩ | ⟨xs,i,rfl,rfl,he⟩ | ⟨x,i,rfl,rfl,he⟩
 ·refine aa he fun k e1 e2=>?_
  have h1:=(aE e1).1;have h2:=(aE e1).2.1;have h3:=(aE e1).2.2.1;have h4:=(aE e1).2.2.2
  cases rx using Rd.listE with
  | @mk a vs n as' ho hs ra=>
   cases ry using Rd.intE with
   | mk t=>
    obtain ⟨v,cs,ev,rv,hc⟩:=ra.get e2
    have hl:=ra.length
    simp only [Array.length_toList] at hl
    have hv:vs[k]?=some v:=by rw [← Array.getElem?_toList];exact ev
    by_cases hi:0≤i
    ·have:=jv e1 hi
     subst this
     exact wpAny_getItem_list ⟨_,ho,rfl,_,rfl⟩ hi (by lia) hv (h v s.toks cs rv hc)
    ·have:=jw e1 hi
     rw [← hl] at this
     subst this
     exact wpAny_getItem_list_neg ⟨_,ho,rfl,_,rfl⟩ (by lia) (by lia) (by lia) hv (h v s.toks cs rv hc)
 ·refine aa he fun k e1 e2=>?_
  have h1:=(aE e1).1;have h2:=(aE e1).2.1;have h3:=(aE e1).2.2.1;have h4:=(aE e1).2.2.2
  cases rx using Rd.tupleE with
  | @mk a vs n as' ho hs ra=>
   cases ry using Rd.intE with
   | mk t=>
    obtain ⟨v,cs,ev,rv,hc⟩:=ra.get e2
    have hl:=ra.length
    simp only [Array.length_toList] at hl
    have hv:vs[k]?=some v:=by rw [← Array.getElem?_toList];exact ev
    exact PyProof.Rows.getItem_tuple ⟨_,ho,rfl,_,rfl⟩ (by lia) (by lia) (by rw [hl];exact h1) hv (h v s.toks cs rv hc)
 ·refine aa he fun k e1 he=>?_
  obtain ⟨cp,e2,rfl⟩:=ag he
  have h1:=(aE e1).1;have h2:=(aE e1).2.1;have h3:=(aE e1).2.2.1;have h4:=(aE e1).2.2.2
  cases rx using Rd.strE with
  | mk t hs ho=>
   cases ry using Rd.intE with
   | mk u=>
    refine PySem.P.getItem_str (by simp only [Bool.or_eq_false_iff,decide_eq_false_iff_not];lia) (by rw [h1];exact e2) (h _ _ [] (.str _ _ (by show 1≤sizeLine;decide) (iC ho e2)) fun _ q=>(nomatch q))
theorem iD {x:Value} {dx dy d:D} {as:List Addr} (rx:Rd P.H s.heap x dx as) (he:item dx dy=some d):∃ T id,s.TypeIs x T∧typeLookup (.type T) "__getitem__" = pure (some (.builtin id)):=by
 cases rx with
 | list ho _ _=>exact ⟨_,_,⟨_,ho,rfl⟩,slot_list_getitem.lookup⟩
 | tuple ho _ _=>exact ⟨_,_,⟨_,ho,rfl⟩,F.slot_tuple_getitem.lookup⟩
 | str x t=>exact ⟨_,_,typeIs_str s x t,F.slot_str_getitem.lookup⟩
 | _=>cases he
theorem iE {slice:PySem.Expr} (h:gE slice=false) (o i:Value):subscripted slice false o i=operate [o,i] (getItem o i):=by
 cases slice<;>first | rfl | cases h
theorem tZ {v i:PySem.Expr} {a b:Ex} {pos:Pos} (hs:gE i=false) (ha:P.SE r c v a) (hb:P.SE r c i b):P.SE r c (.Subscript v i pos) (.idx a b):=by
 intro A env s m ow own G d hA hg R hG hok hev
 have p:Pre P r c A env s m ow own G:=⟨hA,hg,R,hG⟩
 simp only [vr,Bool.and_eq_true] at hok
 simp only [bd] at hev
 refine aa hev fun dx e1 hev=>?_
 refine aa hev fun dy e2 hev=>?_
 refine PyProof.Rows.Subscript_ (two ha hb p hok.1 hok.2 e1 e2 fun x y s2 as bs k rx ry g1 f1 g2 f2=>?_)
 refine byG fun X_ g_=>?_
 obtain ⟨T,id,hT,hl⟩:=iD rx hev
 refine g_ ?_
 refine PyProof.Rows.tail_any hT hl (getI rx ry hev fun v tk cs rd hc=>?_) (iE hs x y)
 exact ⟨k.trans (Kp.toks s2 tk),cs,rd,fun _ q m=>rx.innG g1 f1 q (hc q m),fun q=>(by cases q),fun q=>(by cases q),fun q=>(by cases q)⟩
theorem lu (n:Nat) (i:Int):cF n i=(if i < 0 then n - (-i).toNat else min i.toNat n):=by
 unfold cF
 split<;>lia
theorem iF {α:Type} (xs:List α) (lo hi:Option Int):cut xs lo hi=(xs.drop (PySem.W.kms_lo lo xs.length)).take (PySem.W.kms_hi hi xs.length - PySem.W.kms_lo lo xs.length):=by
 unfold cut PySem.W.kms_lo PySem.W.kms_hi
 cases lo<;>cases hi<;>simp only [Option.map_none,mX,Option.getD_none,Option.getD_some,lu]
theorem o9 (items:Array Value) (lo hi:Option Int):slicePick items lo hi none=(cut items.toList lo hi).toArray:=by
 rw [PySem.W.kms_pick_eq,iF];rfl
theorem RdAll.cut {H:D→Int} {h:Heap} {vs:List Value} {ds:List D} {as:List Addr} (ra:RdAll H h vs ds as) (lo hi:Option Int):∃ bs,RdAll H h (cut vs lo hi) (cut ds lo hi) bs∧∀ a ∈ bs,a ∈ as:=by
 rw [iF,iF,ra.length]
 refine byG fun X_ g_=>?_
 obtain ⟨b1,r1,q1⟩:=ra.drop (PySem.W.kms_lo lo ds.length)
 obtain ⟨b2,r2,q2⟩:=r1.take (PySem.W.kms_hi hi ds.length - PySem.W.kms_lo lo ds.length)
 refine g_ ?_
 exact ⟨b2,r2,fun a m=>q1 a (q2 a m)⟩
theorem jy {α:Type} (xs:List α) (lo hi:Option Int):(cut xs lo hi).length≤xs.length:=by
 unfold cut
 simp only [List.length_take,List.length_drop]
 lia
theorem mY {v:Value} {d:D} {as:List Addr} {o:Option Int} (rd:Rd P.H s.heap v d as) (h:intO (some d)=some o):IsPart v o:=by
 cases rd<;>first | (cases h;done) | (cases h;exact .int _ _)
theorem lw (lo hi:Option Int) (n:Nat):Builtin.Slice.sliceAdjust lo hi 1 (n:Int)=(((PySem.W.kms_lo lo n:Nat):Int),((PySem.W.kms_hi hi n:Nat):Int)):=by
 have h1 : ¬ ((1:Int) < 0):=by decide
 unfold Builtin.Slice.sliceAdjust PySem.W.kms_lo PySem.W.kms_hi
 simp only [h1,if_false]
 refine Prod.ext ?_ ?_
 ·cases lo with
  | none=>rfl
  | some x=>simp only;split<;>lia
 ·cases hi with
  | none=>rfl
  | some x=>simp only;split<;>lia
theorem eO {v:Value} {o:Option Int} (h:IsPart v o) {Q:Option Int→Shared→Prop} {E:Value→Shared→Prop} (hq:Q o s):wpAny (model P.prog P.w) A (Builtin.Slice.slicePartIndex v) Q E s:=by
 cases h with
 | none=>exact PyProof.Rows.slicePart_none hq
 | int i t=>exact PyProof.Rows.slicePart_int hq
theorem fz {sl:Addr} {vl vu:Value} {lo hi:Option Int} {n:Nat} {Q:Int × Int × Nat→Shared→Prop} {E:Value→Shared→Prop} (hs:s.heap.IsSliceOf sl vl vu .none) (pl:IsPart vl lo) (pu:IsPart vu hi)
 (h:Q (((PySem.W.kms_lo lo n:Nat):Int),1,PySem.W.kms_hi hi n - PySem.W.kms_lo lo n) s) :
 wpAny (model P.prog P.w) A (Builtin.Slice.sliceApplied (.ref sl) (pure (n:Int))) Q E s:=by
 refine byG fun X_ g_=>?_
 obtain ⟨os,hos,hcs,hds⟩:=id hs
 refine g_ ?_
 unfold Builtin.Slice.sliceApplied Builtin.Slice.sliceFields
 refine wpAny_bind (wpAny_bind (wpAny_field hos hds (x:=vl) rfl (wpAny_bind (wpAny_field hos hds (x:=vu) rfl (wpAny_bind (wpAny_field hos hds (x:=.none) rfl (wpAny_pure ?_)))))))
 refine wpAny_bind (PyProof.Rows.slicePart_none ?_)
 show wpAny _ _ (if ((1:Int) == 0)=true then _ else _) _ _ s
 rw [if_neg (by decide)]
 refine wpAny_bind (eO pl (wpAny_bind (eO pu (wpAny_bind (wpAny_pure ?_)))))
 show wpAny _ _ (match Builtin.Slice.sliceAdjust lo hi 1 (n:Int) with | (lo,hi)=>pure (lo,(1:Int),Builtin.Slice.slicePlaces lo hi 1)) _ _ s
 rw [lw]
 show wpAny _ _ (pure (((PySem.W.kms_lo lo n:Nat):Int),(1:Int),Builtin.Slice.slicePlaces ((PySem.W.kms_lo lo n:Nat):Int) ((PySem.W.kms_hi hi n:Nat):Int) 1)) _ _ s
 have e:Builtin.Slice.slicePlaces ((PySem.W.kms_lo lo n:Nat):Int) ((PySem.W.kms_hi hi n:Nat):Int) 1=PySem.W.kms_hi hi n - PySem.W.kms_lo lo n:=by
  unfold Builtin.Slice.slicePlaces
  have h1:(1:Int) > 0:=by decide
  simp only [h1,if_true,Int.ediv_one]
  split<;>lia
 rw [e]
 exact wpAny_pure h
theorem mZ {α:Type} (xs:List α) (lo hi:Option Int) (h1:PySem.W.kms_lo lo xs.length=0) (h2:PySem.W.kms_hi hi xs.length - PySem.W.kms_lo lo xs.length=xs.length):cut xs lo hi=xs:=by
 rw [iF,h2,h1];simp
theorem dw {t sl:Addr} {items:Array Value} {n:Nat} {vl vu:Value} {lo hi:Option Int} {Q:Value→Shared→Prop} {E:Value→Shared→Prop} (ht:s.heap.get? t=some (tupObj items n)) (hs:s.heap.IsSliceOf sl vl vu .none) (pl:IsPart vl lo) (pu:IsPart vu hi)
 (hsz:items.size≤sizeLine) (h0:cut items.toList lo hi=items.toList→Q (.ref t) s)
 (h:Q (.ref s.heap.objs.size) { s with heap:=s.heap.push (tupObj (cut items.toList lo hi).toArray 0) }):wpAny (model P.prog P.w) A (getItem (.ref t) (.ref sl)) Q E s:=by
 have htt:PyProof.Rows.IsTup s.heap t items:=⟨_,ht,rfl,_,rfl⟩
 have hcut:sizeOk (.seq (cut items.toList lo hi).toArray):=by
  show (cut items.toList lo hi).toArray.size≤sizeLine
  rw [List.size_toArray]
  exact Nat.le_trans (jy _ _ _) (hsz)
 obtain ⟨os,hos,hcs,hds⟩:=id hs
 unfold getItem
 try with_reducible refine wpAny_holding ?_
 first | refine wpAny_bind (wpAny_pure ?_) | skip
 refine wpAny_bind (wpAny_sequenceKey htt.typeIs (by decide) ?_)
 refine wpAny_bind (wpAny_callSpecial?_slot (name:=Str.ofString "__getitem__") htt.typeIs PyProof.Rows.slot_tuple_getitem
  (wpAny_call_entry PyProof.Rows.slot_tuple_getitem htt.typeIs PyProof.Rows.entry_tuple_getitem ?_ (PyProof.Rows.args_tuple_getitem _ _)))
 show wpAny _ _ (Builtin.Tuple.tupleItemsOf (.ref t) >>= _) _ _ s
 refine wpAny_bind (PyProof.Rows.tupleItemsOf_ htt ?_)
 refine wpAny_bind (wpAny_typeOf (⟨os,hos,hcs⟩) ?_)
 rw [if_pos (by decide)]
 refine wpAny_bind (fz hs pl pu ?_)
 have pick:((List.range (PySem.W.kms_hi hi items.size - PySem.W.kms_lo lo items.size)).filterMap fun (k:Nat)=>items[(((PySem.W.kms_lo lo items.size:Nat):Int)+(k:Int) * 1).toNat]?).toArray=(cut items.toList lo hi).toArray:=by
  have e:(fun (k:Nat)=>items[(((PySem.W.kms_lo lo items.size:Nat):Int)+(k:Int) * 1).toNat]?)=fun k=>items[PySem.W.kms_lo lo items.size+k]?:=by
   funext k
   have:(((PySem.W.kms_lo lo items.size:Nat):Int)+(k:Int) * 1).toNat=PySem.W.kms_lo lo items.size+k:=by lia
   rw [this]
  rw [e,iF,Array.length_toList]
  have:=pick_run items (PySem.W.kms_lo lo items.size) (PySem.W.kms_hi hi items.size - PySem.W.kms_lo lo items.size)
  rw [List.filterMap_map] at this
  have e2:((fun x=>items[x]?) ∘ fun x=>PySem.W.kms_lo lo items.size+x)=fun k=>items[PySem.W.kms_lo lo items.size+k]?:=rfl
  rw [e2] at this
  rw [this]
 show wpAny _ _ (if (((PySem.W.kms_lo lo items.size:Nat):Int) == 0&&(1:Int) == 1&&(PySem.W.kms_hi hi items.size - PySem.W.kms_lo lo items.size) == items.size)=true then _ else _) _ _ s
 by_cases hw:(((PySem.W.kms_lo lo items.size:Nat):Int) == 0&&(1:Int) == 1&&(PySem.W.kms_hi hi items.size - PySem.W.kms_lo lo items.size) == items.size)=true
 ·rw [if_pos hw]
  have hw':PySem.W.kms_lo lo items.size=0∧PySem.W.kms_hi hi items.size - PySem.W.kms_lo lo items.size=items.size:=by
   simp only [Bool.and_eq_true,beq_iff_eq] at hw
   exact ⟨by lia,hw.2⟩
  have q:=h0 (mZ _ _ _ (by rw [Array.length_toList];exact hw'.1) (by rw [Array.length_toList];exact hw'.2))
  have ex:∀ {Q':Bool→Shared→Prop} {E':Value→Shared→Prop} {A':Around},Q' true s→wpAny (model P.prog P.w) A' (Builtin.Tuple.tupleIsExact (.ref t)) Q' E' s:=fun hq=>by
   unfold Builtin.Tuple.tupleIsExact
   exact wpAny_bind (wpAny_typeOf htt.typeIs (wpAny_pure hq))
  refine wpAny_bind (ex ?_)
  rw [if_pos rfl]
  refine wpAny_bind (wpAny_rule ?_)
  first
   | exact wpAny_bind (wpAny_pure (wpAny_pure ⟨_,rfl,wpAny_pure q⟩))
   | exact wpAny_pure ⟨_,rfl,wpAny_pure q⟩
 ·rw [if_neg hw,pick]
  first
   | exact wpAny_bind (m:=Builtin.Tuple.tupleExact _) (wpAny_newObj_type (wpAny_pure ⟨_,rfl,wpAny_pure h⟩) hcut)
   | exact wpAny_bind (m:=Builtin.Tuple.tupleExact _) (wpAny_newObj_type (wpAny_bind (wpAny_pure (wpAny_pure ⟨_,rfl,wpAny_pure h⟩))) hcut)
   | exact wpAny_bind (wpAny_bind (m:=Builtin.Tuple.tupleExact _) (wpAny_newObj_type (wpAny_pure (wpAny_pure ⟨_,rfl,wpAny_pure h⟩)) hcut))
   | exact wpAny_bind (wpAny_bind (m:=Builtin.Tuple.tupleExact _) (wpAny_newObj_type (wpAny_pure ⟨_,rfl,wpAny_pure h⟩) hcut))
noncomputable def SEO (P:Pk) (r:Nat) (c:TC):Option PySem.Expr→Exo→Prop
 | none,.none=>True
 | some e,.some e'=>P.SE r c e e'
 | _,_=>False
theorem kF {o:Option PySem.Expr} {o':Exo} (h:SEO P r c o o') {A:Around} {env:Env} {s:Shared} {m:St} {ow:List Nat} {own:Nat→Addr} {G:Addr→Prop} {l:Option D} {i:Option Int} (p:Pre P r c A env s m ow own G)
 (hok:okO ow o'=true) (hev:evO P.Φ P.Γ o' m=some l) (hi:intO l=some i) {Q:Value→Shared→Prop} (hq:∀ v s',Kp s s'→IsPart v i→Q v s') :
 wpAny (model P.prog P.w) A (evalPart o env) Q (fun _ _=>False) s:=by
 cases o with
 | none=>
  cases o' with
  | none=>
   simp only [fm,Option.some.injEq] at hev
   subst hev
   cases hi
   rw [evalPart_none]
   exact wpAny_pure (hq _ s (Kp.refl s) .none)
  | some e'=>exact h.elim
 | some e=>
  cases o' with
  | none=>exact h.elim
  | some e'=>
   simp only [vm] at hok
   simp only [fo] at hev
   refine byG fun X_ g_=>?_
   obtain ⟨d,e1,rfl⟩:=ag hev
   refine g_ ?_
   rw [evalPart_some]
   refine SE.us h p hok e1 fun v s' k as rd _ _ _ _=>?_
   exact hq v s' k (mY rd hi)
theorem vA {v:PySem.Expr} {lo hi:Option PySem.Expr} {a:Ex} {l h:Exo} {p pos:Pos} (ha:P.SE r c v a) (hl:SEO P r c lo l) (hh:SEO P r c hi h):P.SE r c (.Subscript v (.Slice lo hi none p) pos) (.sl a l h):=by
 intro A env s m ow own G d hA hg R hG hok hev
 have p:Pre P r c A env s m ow own G:=⟨hA,hg,R,hG⟩
 simp only [o_sl,Bool.and_eq_true] at hok
 simp only [x_sl] at hev
 refine aa hev fun dx e1 hev=>?_
 refine aa hev fun dl e2 hev=>?_
 refine aa hev fun dh e3 hev=>?_
 refine aa hev fun il e4 hev=>?_
 refine aa hev fun ih e5 hev=>?_
 refine PyProof.Rows.Subscript_ (SE.us ha p hok.1.1 e1 fun x s1 k1 as rx g1 f1 _ _=>?_)
 refine wpAny_Slice (kF hl (p.keeps k1) hok.1.2 e2 e4 fun vl s2 k2 pl=>kF hh ((p.keeps k1).keeps k2) hok.2 e3 e5 fun vu s3 k3 pu=>?_)
 rw [evalPart_none]
 refine wpAny_pure ?_
 have kp:Kp s { s3 with heap:=s3.heap.push { cls:=.type "slice",data:=.fields #[vl,vu,.none] } }:=((k1.trans k2).trans k3).trans (Kp.push s3 _)
 have rx':=(rx.keeps (k2.trans k3).get).keeps (Kp.push s3 { cls:=.type "slice",data:=.fields #[vl,vu,.none] }).get
 have hsl:=Heap.IsSliceOf.new s3.heap vl vu .none
 generalize hS:({ s3 with heap:=s3.heap.push { cls:=.type "slice",data:=.fields #[vl,vu,.none] } }:Shared)=S at *
 have hheap:S.heap=s3.heap.push { cls:=.type "slice",data:=.fields #[vl,vu,.none] }:=by rw [← hS]
 rw [← hheap] at hsl
 have fin:∀ {v:Value} {s':Shared},PostV P S (fun a=>a ∈ inn dx as) d v s'→PostE P ow own G (.sl a l h) d s v s':=fun q=>PostV.toE kp q rfl hG fun b u=>rx.innG g1 f1 b u
 cases rx' with
 | @list b vs n _ as' ho hz ra=>
  cases hev
  refine PyProof.Rows.tail_any (T := "list") ⟨_,ho,rfl⟩ slot_list_getitem.lookup (ops:=[.ref s3.heap.objs.size,.ref b]) ?_ rfl
  refine wpAny_getItem_list_slice ⟨_,ho,rfl,_,rfl⟩ hsl pl pu .none (by decide) ?_ hz
  rw [o9]
  refine byG fun X_ g_=>?_
  obtain ⟨cs,rc,hc⟩:=ra.cut il ih
  refine g_ ?_
  refine fin (PostV.newList ?_ (rc) fun a q=>.inr (hc a q))
  rw [List.size_toArray]
  exact Nat.le_trans (jy _ _ _) (hz)
 | @tuple b vs n _ as' ho hz ra=>
  cases hev
  obtain ⟨cs,rc,hc⟩:=ra.cut il ih
  refine PyProof.Rows.tail_any (T := "tuple") ⟨_,ho,rfl⟩ F.slot_tuple_getitem.lookup (ops:=[.ref s3.heap.objs.size,.ref b]) ?_ rfl
  refine dw ho hsl pl pu hz (fun e=>?_) ?_
  ·rw [e] at rc
   exact fin ⟨Kp.refl S,cs,.tuple ho hz rc,fun a q=>.inr (hc a q),fun hf a q=>by
    rw [rc.noAddr hf] at q;cases q⟩
  ·refine fin (PostV.newTuple ?_ (rc) fun a q=>.inr (hc a q))
   rw [List.size_toArray]
   exact Nat.le_trans (jy _ _ _) (hz)
 | _=>cases hev
end
end Mine
set_option tactic.hygienic false
namespace Mine
open PySem PySem.MeetsSeq
section
theorem m3 {M:Model} {A:Around} {E:Value→Shared→Prop} {s:Shared} {β:Type} {k:Nat} (f:Nat→β→Sem (ForInStep β)) (I:Nat→β→Shared→Prop) (Q:β→Shared→Prop)
 (turn:∀ i b s,i < k→I i b s→wpAny M A (f i b) (fun r s'=>match r with | .yield b'=>I (i+1) b' s' | .done b'=>Q b' s') E s)
 (fin:∀ b s,I k b s→Q b s) (b:β) (h:I 0 b s):wpAny M A (forIn [:k] b f) Q E s:=by
 rw [Std.Legacy.Range.forIn_eq_forIn_range']
 simp only [Std.Legacy.Range.size,Nat.sub_zero,Nat.add_sub_cancel,Nat.div_one]
 refine wpAny_forIn_list _ (fun rest b s'=>∃ i,i≤k∧rest=List.range' i (k - i)∧I i b s') _ ?_ ?_ _ _ ⟨0,Nat.zero_le _,by rfl,h⟩
 ·rintro y rest b s' ⟨i,hi,hr,hI⟩
  have hlt:i < k:=by
   rcases Nat.lt_or_eq_of_le hi with q | q
   ·exact q
   ·rw [q,Nat.sub_self] at hr;cases hr
  have e:k - i=(k - (i+1))+1:=by lia
  rw [e,List.range'_succ] at hr
  injection hr with h1 h2
  subst h1
  refine wpAny_mono (turn y b s' hlt hI) (fun r s'' q=>?_) fun _ _ x=>x
  cases r with
  | yield b'=>exact ⟨y+1,hlt,h2,q⟩
  | done b'=>exact q
 ·rintro b s' ⟨i,hi,hr,hI⟩
  rcases Nat.lt_or_eq_of_le hi with q | q
  ·have e:k - i=(k - (i+1))+1:=by lia
   rw [e,List.range'_succ] at hr
   cases hr
  ·subst q;exact fin b s' hI
theorem jz (l:Addr) (items:Array Value) (n:Nat) (x:Value) (e:Value→Bool) (he:∀ y,y ∈ items→EqGives y x (e y)) (j:Nat) (hj:j < items.size) (hit:e items[j]=true) (hno:∀ m (hm:m < items.size),m < j→e items[m]=false) :
 Meets (Builtin.«tuple.index» ⟨[.ref l,x],[]⟩)
  (fun _ R s=>s.heap.get? l=some { cls:=.type "tuple",dict:=none,data:=.seq items n,slots:=#[] }∧R (.ok (.ret (.int j s.toks))) { s with toks:=s.toks+1 }):=
 .of_wp fun prog w A R s h=>by
  obtain ⟨hp,g,d,tk,os⟩:=s;obtain ⟨hl,h⟩:=h
  wp_walk using wpAny_loadPart' hl,m3 _ (fun i b s'=>b.1=none∧s'=⟨hp,g,d,tk,os⟩∧i≤j) _
  case turn=>
   rintro i b s' hlt ⟨hb,rfl,hi⟩
   rw [Nat.min_self] at hlt
   rw [Array.getElem?_eq_getElem hlt]
   refine wpAny_bind (he _ (Array.getElem_mem hlt) prog w _ _ _ _ ?_)
   rcases Nat.lt_or_eq_of_le hi with hi | rfl
   ·rw [hno i hlt hi]
    wp_walk
    exact ⟨rfl,rfl,hi⟩
   ·rw [hit]
    wp_walk
    exact ⟨_,rfl,h⟩
  case fin=>
   rintro ⟨b1,b2⟩ s' ⟨hb,rfl,hi⟩
   rw [Nat.min_self] at hi
   exact absurd hi (Nat.not_le.mpr hj)
  case h=>exact ⟨rfl,rfl,Nat.zero_le _⟩
theorem pb {H:D→Int} {h:Heap} {vs:List Value} {xs:List D} {as:List Addr} (r:RdAll H h vs xs as):∀ {l:List Str},md xs=some l→vs.length=l.length∧∀ (i:Nat) (v:Value),vs[i]?=some v→∃ t,∃ hi:i < l.length,v = .str l[i] t:=
 r.ind (M:=fun vs xs _=>∀ {l:List Str},md xs=some l→vs.length=l.length∧∀ (i:Nat) (v:Value),vs[i]?=some v→∃ t,∃ hi:i < l.length,v = .str l[i] t)
  (fun {l} h=>by cases h;exact ⟨rfl,fun i v h=>by cases h⟩)
  fun v vs d ds as bs h1 h2 ih {l} h=>by
   refine aa (show ((strK d).bind fun x=>(md ds).map fun xs=>x::xs)=some l from h) fun x e1 h=>?_
   obtain ⟨l',e2,rfl⟩:=ag h
   have hd:=bN e1
   subst hd
   cases h1 using Rd.strE with
   | mk t hz ho=>
    obtain ⟨i1,i2⟩:=ih e2
    refine ⟨congrArg Nat.succ i1,fun i w hw=>?_⟩
    cases i with
    | zero=>cases hw;exact ⟨t,Nat.succ_pos _,rfl⟩
    | succ i=>
     obtain ⟨u,hi,e⟩:=i2 i w hw
     exact ⟨u,Nat.succ_lt_succ hi,e⟩
noncomputable def strE (x:Str):Value→Bool
 | .str a _=>a == x
 | _=>false
variable {P:Pk} {r:Nat} {c:TC}
theorem iG {H:D→Int} {h:Heap} {vs:Array Value} {xs:List D} {as:List Addr} (ra:RdAll H h vs.toList xs as) {y:D} {d:D} (he:idxD xs y=some d):∃ (x:Str) (j:Nat) (hj:j < vs.size),y = .str x∧d = .int j∧(∀ u,∀ v ∈ vs,EqGives v (.str x u) (strE x v))∧strE x vs[j]=true∧(∀ m (hm:m < vs.size),m < j→strE x vs[m]=false)∧j < 1000:=by
 refine byG fun X_ g_=>?_
 refine aa he fun x e1 he=>?_
 refine aa he fun l e2 he=>?_
 obtain ⟨hl,he⟩:=aN he
 obtain ⟨j,e3,rfl⟩:=ag he
 obtain ⟨h1,h2⟩:=pb ra e2
 rw [Array.length_toList] at h1
 have hget:∀ (i:Nat) (hi:i < vs.size),∃ t,∃ hi':i < l.length,vs[i] = .str l[i] t:=fun i hi=>h2 i _ (by rw [Array.getElem?_toList,Array.getElem?_eq_getElem hi])
 obtain ⟨hj,hjx,hjn⟩:=List.findIdx?_eq_some_iff_getElem.mp e3
 refine g_ ?_
 refine ⟨x,j,by rw [h1];exact hj,bN e1,rfl,fun u v hv=>?_,?_,fun m hm hmj=>?_,Nat.lt_of_lt_of_le hj hl⟩
 ·obtain ⟨i,hi,rfl⟩:=Array.getElem_of_mem hv
  obtain ⟨t,hi',e⟩:=hget i hi
  rw [e]
  exact PyProof.Rows.eqGives_str _ _ _ _
 ·obtain ⟨t,_,e⟩:=hget j (by rw [h1];exact hj)
  rw [e];exact hjx
 ·obtain ⟨t,hi',e⟩:=hget m hm
  rw [e]
  have:=hjn m hmj
  show (_ == x)=false
  simpa using this
theorem pc {o e:PySem.Expr} {a b:Ex} {apos pos:Pos} (hbase:∀ env:Env,attributeBase o "index" env (eval o env)=eval o env) (hl:(apos.endLine == pos.line)=true) (hs:isStar e=false) (ha:P.SE r c o a) (hb:P.SE r c e b):P.SE r c (.Call (.Attribute o "index" apos) [e] [] pos) (.index a b):=by
 intro A env s m ow own G d hA hg R hG hok hev
 have p:Pre P r c A env s m ow own G:=⟨hA,hg,R,hG⟩
 replace hok:(okE ow a&&okE ow b)=true:=hok
 rw [Bool.and_eq_true] at hok
 rw [mi] at hev
 refine aa hev fun dx e1 hev=>?_
 refine aa hev fun dy e2 hev=>?_
 refine wpAny_Call_method1_late (hbase env) hl (by rw [an hs];rfl) (SE.us ha p hok.1 e1 fun x s1 k1 as rx _ _ _ _=>?_)
 have hpost:∀ {s2:Shared} {tk:Nat} {i:Int} {t:Tok},Kp s1 s2→PostE P ow own G (.index a b) (.int i) s (.int i t) { s2 with toks:=tk }:=fun k2=>PostE.flat0 ((k1.trans k2).trans (Kp.toks _ _)) (.int _ _) rfl rfl
 cases dx<;>first | (cases hev;done) | skip
 ·cases rx using Rd.listE with
  | @mk l vs n as' ho hz ra=>
   refine ⟨"list", "list.index",F.plainAttrs_list,F.slot_list_index,F.type_list_index,⟨_,ho,rfl⟩,fun a e=>by cases e;exact ⟨_,ho,rfl⟩,PySem.P.index_list (SE.us hb (p.keeps k1) hok.2 e2 fun y s2 k2 bs ry _ _ _ _=>?_)⟩
   refine byG fun X_ g_=>?_
   obtain ⟨x,j,hj,rfl,rfl,h1,h2,h3,h4⟩:=iG ra hev
   refine g_ ?_
   cases ry using Rd.strE with
   | mk u hz ho'=>exact ⟨vs,n,strE x,j,hj,k2.get _ _ ho,h1 u,by lia,h2,h3,hpost k2⟩
 ·cases rx using Rd.tupleE with
  | @mk l vs n as' ho hz ra=>
   refine ⟨"tuple", "tuple.index",F.plainAttrs_tuple,F.slot_tuple_index,F.type_tuple_index,⟨_,ho,rfl⟩,fun a e=>by cases e;exact ⟨_,ho,rfl⟩,PySem.seqMethod1_meets F.slot_tuple_index F.entry_tuple_index (SE.us hb (p.keeps k1) hok.2 e2 fun y s2 k2 bs ry _ _ _ _=>?_)⟩
   refine byG fun X_ g_=>?_
   obtain ⟨x,j,hj,rfl,rfl,h1,h2,h3,h4⟩:=iG ra hev
   refine g_ ?_
   cases ry using Rd.strE with
   | mk u hz ho'=>exact ⟨⟨_,k2.get _ _ ho,rfl⟩,F.args_tuple_index_2 _ _,_,jz l vs n _ (strE x) (h1 u) j hj h2 h3,k2.get _ _ ho,hpost k2⟩
end
end Mine
set_option tactic.hygienic false
namespace Mine
open PySem
theorem cI {x:Str} (h:biNames.contains x=true):x ∈ biNames:=by simpa using h
section
variable {P:Pk} {r:Nat} {c:TC}
theorem fC {f:Str} {pos:Pos} {v:Value} {A:Around} {env:Env} {s:Shared} {m:St} {ow:List Nat} {own:Nat→Addr} {G:Addr→Prop} (p:Pre P r c A env s m ow own G) (hk:c.kind f=some .globalImplicit) (hd:f ≠ ("__debug__" : Str)) (hn:f ≠ "__name__")
 (hb:f ∈ biNames) (hv:bootBuiltins f=some v) {Q:Value→Shared→Prop} {E:Value→Shared→Prop} (h:Q v s):wpAny (model P.prog P.w) A (eval (.Name f pos) env) Q E s:=
 Calls.Name_function_global p.er.fn ((p.er.kd f).trans hk)
  (Calls.loadGlobal_builtin (by rw [p.er.gl];exact p.gp.g) (p.gp.bi f hb) (by rw [p.er.bu];exact p.gp.b) ((p.gp.bb f hn).trans hv) h) (by simpa using hd)
theorem jA {f:Str} {pf pos:Pos} {v:Value} {x:PySem.Expr} {a:Ex} {A:Around} {env:Env} {s:Shared} {m:St} {ow:List Nat} {own:Nat→Addr} {G:Addr→Prop} {dx:D} (p:Pre P r c A env s m ow own G) (hk:c.kind f=some .globalImplicit) (hd:f ≠ ("__debug__" : Str)) (hn:f ≠ "__name__")
 (hb:f ∈ biNames) (hv:bootBuiltins f=some v) (hv2:(∃ id,v = .builtin id)∨∃ T,v = .type T) (hs:isStar x=false) (ha:P.SE r c x a) (hok:okE ow a=true) (hev:evE P.Φ P.Γ a m=some dx) {Q:Value→Shared→Prop}
 (h:∀ y s2 as,Kp s s2→Rd P.H s2.heap y dx as→(isOw ow a=false→∀ i ∈ as,G i)→(isOw ow a=true→flat dx=true)→wpAny (model P.prog P.w) A (call v [y]) Q (fun _ _=>False) s2) :
 wpAny (model P.prog P.w) A (eval (.Call (.Name f pf) [x] [] pos) env) Q (fun _ _=>False) s:=by
 refine PyProof.Rows.Call_ (fC p hk hd hn hb hv ?_)
 have args:wpAny (model P.prog P.w) A (spliced (backTo pos (starEach [x] env))) (fun vs s₁=>wpAny (model P.prog P.w) A (call v vs) Q (fun _ _=>False) s₁) (fun _ _=>False) s:=by
  refine PyProof.Rows.args_cons (SE.us ha p hok hev fun y s1 k as rd g f _ _=>?_) (an hs [] env)
  exact PyProof.Rows.args_nil (h y s1 as k rd g f)
 rcases hv2 with ⟨id,rfl⟩ | ⟨T,rfl⟩
 ·exact PyProof.Rows.callWith_builtin1 args (an hs [] env) rfl
 ·exact PySem.Pv.callWith_type1 args (an hs [] env) rfl
theorem t0 {A:Around} {s:Shared} {y:Value} {dx d:D} {as:List Addr} (rd:Rd P.H s.heap y dx as) (he:b1 .len dx=some d) {Q:Value→Shared→Prop} {E:Value→Shared→Prop} (h:∀ i t tk,d = .int i→Q (.int i t) { s with toks:=tk }) :
 wpAny (model P.prog P.w) A (call (.builtin "len") [y]) Q E s:=by
 have hz:(sizeLine:Int) < 2 ^ 62:=by decide
 replace he:lenD dx=some d:=he
 cases rd with
 | list ho hs ra=>
  cases he
  have hl:=ra.length
  simp only [Array.length_toList] at hl
  refine PyProof.Rows.len_list ⟨_,ho,rfl,_,rfl⟩ (by lia) (h _ _ _ (by rw [hl]))
 | tuple ho hs ra=>
  cases he
  have hl:=ra.length
  simp only [Array.length_toList] at hl
  refine PyProof.Rows.len_tuple ⟨_,ho,rfl,_,rfl⟩ (by lia) (h _ _ _ (by rw [hl]))
 | str x t hs ho=>
  cases he
  exact PySem.P.len_str (by lia) (h _ _ _ rfl)
 | _=>cases he
set_option tactic.hygienic true in
theorem lx {xs:List D}:∀ {bs:List Bool},cD xs=some bs→xs=bs.map .bool:=by
 induction xs with
 | nil=>intro bs h;cases h;rfl
 | cons x xs ih=>
  intro bs h
  cases x
  case bool b=>
   obtain ⟨r,e,rfl⟩:=ag (show (cD xs).map (fun bs=>b::bs)=some bs from h)
   rw [ih e];rfl
  all_goals cases h
theorem RdAll.bools {H:D→Int} {h:Heap}:∀ {bs:List Bool} {vs:List Value} {as:List Addr},RdAll H h vs (bs.map .bool) as→vs=bs.map .bool:=by
 intro bs
 induction bs with
 | nil=>
  intro _ _ r
  cases r;rfl
 | cons b bs ih_=>
  intro _ _ r
  cases r with
  | cons h1 h2=>cases h1;rw [ih_ h2];rfl
theorem m5 {bs:List Bool}:(List.range bs.length).all (fun i=>bs.getD i true)=bs.all id:=by
 rw [Bool.eq_iff_iff,List.all_eq_true,List.all_eq_true]
 constructor
 ·intro h x hx
  refine byG fun X_ g_=>?_
  obtain ⟨i,hi,rfl⟩:=List.getElem_of_mem hx
  refine g_ ?_
  have:=h i (List.mem_range.mpr hi)
  simpa [List.getD_eq_getElem?_getD,hi] using this
 ·intro h i hi
  have hi:=List.mem_range.mp hi
  have:=h (bs[i]) (List.getElem_mem hi)
  simpa [List.getD_eq_getElem?_getD,hi] using this
theorem m6 {bs:List Bool}:(List.range bs.length).any (fun i=>bs.getD i false)=bs.any id:=by
 rw [Bool.eq_iff_iff,List.any_eq_true,List.any_eq_true]
 constructor
 ·rintro ⟨i,hi,h⟩
  have hi:=List.mem_range.mp hi
  exact ⟨bs[i],List.getElem_mem hi,by simpa [List.getD_eq_getElem?_getD,hi] using h⟩
 ·rintro ⟨x,hx,h⟩
  obtain ⟨i,hi,rfl⟩:=List.getElem_of_mem hx
  exact ⟨i,List.mem_range.mpr hi,by simpa [List.getD_eq_getElem?_getD,hi] using h⟩
theorem qU {A:Around} {s:Shared} {y:Value} {xs:List D} {as:List Addr} {bs:List Bool} (hA:A.handled=none) (rd:Rd P.H s.heap y (.list xs) as) (hb:cD xs=some bs) {Q:Value→Shared→Prop} {E:Value→Shared→Prop} :
 ((∀ h' tk,(∀ b o,s.heap.get? b=some o→h'.get? b=some o)→Q (.bool (bs.all id)) { s with heap:=h',toks:=tk })→wpAny (model P.prog P.w) A (call (.builtin "all") [y]) Q E s) ∧
 ((∀ h' tk,(∀ b o,s.heap.get? b=some o→h'.get? b=some o)→Q (.bool (bs.any id)) { s with heap:=h',toks:=tk })→wpAny (model P.prog P.w) A (call (.builtin "any") [y]) Q E s):=by
 have e:=lx hb
 subst e
 cases rd using Rd.listE with
 | @mk l vs n as' ho hs ra=>
  have hl:s.heap.IsList l vs:=⟨_,ho,rfl,_,rfl⟩
  have hsz:vs.size=bs.length:=by rw [← Array.length_toList,ra.bools];simp
  have key:∀ i v,vs[i]?=some v→∃ b:Bool,bs[i]?=some b∧v=Value.bool b:=fun i v hv=>by
   rw [← Array.getElem?_toList,ra.bools,List.getElem?_map] at hv
   obtain ⟨b,hb,e⟩:=Option.map_eq_some_iff.mp hv
   exact ⟨b,hb,e.symm⟩
  have W:=Walks.list (prog:=P.prog) (w:=P.w) (A:=A.in1) hA s.heap.objs.size l (Nat.ne_of_lt (Heap.lt_size ho)) vs
  have st:((s.heap.push { cls:=.type "list_iterator",data:=.fields #[.ref l,.int 0 0] }).IsListIter s.heap.objs.size l 0)∧((s.heap.push { cls:=.type "list_iterator",data:=.fields #[.ref l,.int 0 0] }).IsList l vs):=
   ⟨⟨_,Heap.get?_push_size _ rfl,rfl,rfl⟩,hl.at fun o e=>Heap.get?_push_of_some _ e⟩
  refine ⟨fun h=>?_,fun h=>?_⟩
  ·refine call_all_walk (wpAny_pyIter_list hl ⟨_,_,_,_,_,_,fun i=>bs.getD i true,rfl,W,st,?_,?_⟩)
   ·intro i v s' Q' E' hv hq
    obtain ⟨b,hb,rfl⟩:=key i v hv
    simp only [List.getD_eq_getElem?_getD,hb,Option.getD_some] at hq
    exact wpAny_truthy_bool hq
   ·intro h' tk hk
    rw [hsz,m5]
    exact h h' tk fun b o e=>hk b o (by simp;exact Nat.ne_of_lt (Heap.lt_size e)) (Heap.get?_push_of_some _ e)
  ·refine call_any_walk (wpAny_pyIter_list hl ⟨_,_,_,_,_,_,fun i=>bs.getD i false,rfl,W,st,?_,?_⟩)
   ·intro i v s' Q' E' hv hq
    obtain ⟨b,hb,rfl⟩:=key i v hv
    simp only [List.getD_eq_getElem?_getD,hb,Option.getD_some] at hq
    exact wpAny_truthy_bool hq
   ·intro h' tk hk
    rw [hsz,m6]
    exact h h' tk fun b o e=>hk b o (by simp;exact Nat.ne_of_lt (Heap.lt_size e)) (Heap.get?_push_of_some _ e)
theorem t6 {f:Str} {pf pos:Pos} {x:PySem.Expr} {a:Ex} (hf:f = "len") (hk:c.kind f=some .globalImplicit) (hs:isStar x=false) (ha:P.SE r c x a):P.SE r c (.Call (.Name f pf) [x] [] pos) (.b1 .len a):=by
 intro A env s m ow own G d hA hg R hG hok hev
 simp only [o_b1] at hok
 simp only [x_b1] at hev
 refine aa hev fun dx e1 hev=>?_
 subst hf
 refine jA ⟨hA,hg,R,hG⟩ hk (by decide +kernel) (by decide +kernel) (cI (by decide +kernel)) boot_len (.inl ⟨_,rfl⟩) hs ha hok e1 fun y s2 as k rd g f=>?_
 exact t0 rd hev fun i t tk e=>by subst e;exact PostE.flat0 (k.trans (Kp.toks s2 tk)) (.int _ _) rfl rfl
theorem pd:bootBuiltins "all" = some (.builtin "all"):=by decide +kernel
theorem pe:bootBuiltins "any" = some (.builtin "any"):=by decide +kernel
theorem m7:bootBuiltins "list" = some (.type "list"):=by decide +kernel
theorem ly:bootBuiltins "tuple" = some (.type "tuple"):=by decide +kernel
theorem pg:bootBuiltins "int" = some (.type "int"):=by decide +kernel
theorem ph:bootBuiltins "isinstance" = some (.builtin "isinstance"):=by decide +kernel
theorem gd:bootBuiltins "range" = some (.type "range"):=by decide +kernel
theorem fY:bootBuiltins "enumerate" = some (.type "enumerate"):=by decide +kernel
theorem t7 {f:Str} {pf pos:Pos} {x:PySem.Expr} {a:Ex} (hf:f = "all") (hk:c.kind f=some .globalImplicit) (hs:isStar x=false) (ha:P.SE r c x a):P.SE r c (.Call (.Name f pf) [x] [] pos) (.b1 .all a):=by
 intro A env s m ow own G d hA hg R hG hok hev
 simp only [o_b1] at hok
 simp only [x_b1] at hev
 refine aa hev fun dx e1 hev=>?_
 subst hf
 refine jA ⟨hA,hg,R,hG⟩ hk (by decide +kernel) (by decide +kernel) (cI (by decide +kernel)) pd (.inl ⟨_,rfl⟩) hs ha hok e1 fun y s2 as k rd g f=>?_
 cases dx<;>first | (cases hev;done) | skip
 obtain ⟨bs,e2,rfl⟩:=ag hev
 exact (qU hA.hd rd e2).1 fun h' tk hk=>PostE.flat0 (k.trans ⟨h',tk,rfl,hk⟩) (.bool _) rfl rfl
theorem t8 {f:Str} {pf pos:Pos} {x:PySem.Expr} {a:Ex} (hf:f = "any") (hk:c.kind f=some .globalImplicit) (hs:isStar x=false) (ha:P.SE r c x a):P.SE r c (.Call (.Name f pf) [x] [] pos) (.b1 .any a):=by
 intro A env s m ow own G d hA hg R hG hok hev
 simp only [o_b1] at hok
 simp only [x_b1] at hev
 refine aa hev fun dx e1 hev=>?_
 subst hf
 refine jA ⟨hA,hg,R,hG⟩ hk (by decide +kernel) (by decide +kernel) (cI (by decide +kernel)) pe (.inl ⟨_,rfl⟩) hs ha hok e1 fun y s2 as k rd g f=>?_
 cases dx<;>first | (cases hev;done) | skip
 obtain ⟨bs,e2,rfl⟩:=ag hev
 exact (qU hA.hd rd e2).2 fun h' tk hk=>PostE.flat0 (k.trans ⟨h',tk,rfl,hk⟩) (.bool _) rfl rfl
theorem t9 {f:Str} {pf pos:Pos} {x:PySem.Expr} {a:Ex} (hf:f = "int") (hk:c.kind f=some .globalImplicit) (hs:isStar x=false) (ha:P.SE r c x a):P.SE r c (.Call (.Name f pf) [x] [] pos) (.b1 .int a):=by
 intro A env s m ow own G d hA hg R hG hok hev
 simp only [o_b1] at hok
 simp only [x_b1] at hev
 refine aa hev fun dx e1 hev=>?_
 subst hf
 refine jA ⟨hA,hg,R,hG⟩ hk (by decide +kernel) (by decide +kernel) (cI (by decide +kernel)) pg (.inr ⟨_,rfl⟩) hs ha hok e1 fun y s2 as k rd g f=>?_
 cases dx<;>first | (cases hev;done) | skip
 replace hev:=Option.some.inj hev
 subst hev
 cases rd
 exact call_int_bool (PostE.flat0 (k.trans (Kp.toks s2 _)) (.int _ _) rfl rfl)
theorem pi {f:Str} {pf pos:Pos} {x:PySem.Expr} {a:Ex} (hf:f = "tuple") (hk:c.kind f=some .globalImplicit) (hs:isStar x=false) (ha:P.SE r c x a):P.SE r c (.Call (.Name f pf) [x] [] pos) (.b1 .tuple a):=by
 intro A env s m ow own G d hA hg R hG hok hev
 simp only [o_b1] at hok
 simp only [x_b1] at hev
 refine aa hev fun dx e1 hev=>?_
 subst hf
 refine jA ⟨hA,hg,R,hG⟩ hk (by decide +kernel) (by decide +kernel) (cI (by decide +kernel)) ly (.inr ⟨_,rfl⟩) hs ha hok e1 fun y s2 as k rd g f=>?_
 cases dx<;>first | (cases hev;done) | skip
 replace hev:=Option.some.inj hev
 subst hev
 have rd0:=rd
 cases rd using Rd.listE with
 | mk ho hz ra=>
  refine call_tuple_list ⟨_,ho,rfl,_,rfl⟩ (fun h' hk'=>?_) hz
  exact PostV.toE (k.trans (Kp.heap s2 h' hk')) (PostV.newTuple (U:=G) hz (ra.keeps hk') fun b q=>.inr (rd0.innG g f b q)) rfl hG fun _ u=>u
theorem sn {f:Str} {pf pos:Pos} {x:PySem.Expr} {a:Ex} (hf:f = "list") (hk:c.kind f=some .globalImplicit) (hs:isStar x=false) (ha:P.SE r c x a):P.SE r c (.Call (.Name f pf) [x] [] pos) (.b1 .list a):=by
 intro A env s m ow own G d hA hg R hG hok hev
 simp only [o_b1] at hok
 simp only [x_b1] at hev
 refine aa hev fun dx e1 hev=>?_
 subst hf
 refine jA ⟨hA,hg,R,hG⟩ hk (by decide +kernel) (by decide +kernel) (cI (by decide +kernel)) m7 (.inr ⟨_,rfl⟩) hs ha hok e1 fun y s2 as k rd g f=>?_
 cases dx<;>first | (cases hev;done) | skip
 replace hev:=Option.some.inj hev
 subst hev
 have rd0:=rd
 cases rd using Rd.listE with
 | mk ho hz ra=>
  refine call_list_seq _ (.inl rfl) ho rfl rfl (fun h' c' hk' hn=>?_) hz
  refine ⟨k.trans (Kp.heap s2 h' hk'),_,.list hn hz (ra.keeps hk'),fun _ b q=>?_,fun q=>(by cases q),fun _ hf b q=>?_,fun q=>(by cases q)⟩
  ·rcases List.mem_cons.mp q with rfl | q
   ·exact hG _ (k.none (aR _))
   ·exact rd0.innG g f b q
  ·rw [ra.noAddr (show ao _=true from hf)] at q
   rw [List.mem_singleton.mp q]
   exact k.none (aR _)
noncomputable def qV:Ty→String
 | .list => "list"
 | .tuple => "tuple"
 | .str => "str"
 | .int => "int"
 | .bool => "bool"
theorem ua {A:Around} {s:Shared} {y:Value} {dx:D} {as:List Addr} {q:Bool} (rd:Rd P.H s.heap y dx as) (t:Ty) (hd:isA dx t=some q) {Q:Value→Shared→Prop} {E:Value→Shared→Prop} (h:∀ tk,Q (.bool q) { s with toks:=tk }) :
 wpAny (model P.prog P.w) A (call (.builtin "isinstance") [y,.type (qV t)]) Q E s:=by
 have h0:=h s.toks
 have h1:=h (s.toks+1)
 cases rd with
 | none=>cases t<;>cases hd<;>first | exact IsiPair.NoneType_list h1 | exact IsiPair.NoneType_tuple h1 | exact IsiPair.NoneType_str h1 | exact IsiPair.NoneType_int h1 | exact IsiPair.NoneType_bool h1
 | bool b=>cases t<;>cases hd<;>first | exact IsiPair.bool_list h1 | exact IsiPair.bool_tuple h1 | exact IsiPair.bool_str h1 | exact IsiPair.bool_int h0 | exact IsiPair.bool_bool h0
 | int i u=>cases t<;>cases hd<;>first | exact IsiPair.int_list h1 | exact IsiPair.int_tuple h1 | exact IsiPair.int_str h1 | exact IsiPair.int_int h0 | exact IsiPair.int_bool h1
 | str x u=>cases t<;>cases hd<;>first | exact IsiPair.str_list h1 | exact IsiPair.str_tuple h1 | exact IsiPair.str_str h0 | exact IsiPair.str_int h1 | exact IsiPair.str_bool h1
 | list ho _ _=>cases t<;>cases hd<;>first | exact IsiPair.list_list ho rfl h0 | exact IsiPair.list_tuple ho rfl h1 | exact IsiPair.list_str ho rfl h1 | exact IsiPair.list_int ho rfl h1 | exact IsiPair.list_bool ho rfl h1
 | tuple ho _ _=>cases t<;>cases hd<;>first | exact IsiPair.tuple_list ho rfl h1 | exact IsiPair.tuple_tuple ho rfl h0 | exact IsiPair.tuple_str ho rfl h1 | exact IsiPair.tuple_int ho rfl h1 | exact IsiPair.tuple_bool ho rfl h1
 | dict=>cases t<;>cases hd
set_option tactic.hygienic true in
theorem m8 {t:Str} {ty:Ty} (h:tyOf t=some ty):bootBuiltins t=some (.type (qV ty))∧t ∈ biNames∧t ≠ ("__debug__" : Str)∧t ≠ ("__name__" : Str):=by
 unfold tyOf at h
 repeat' (split at h)
 all_goals first
  | (rename_i e;cases h;have e:=eq_of_beq e;subst e;exact ⟨by decide +kernel,cI (by decide +kernel),by decide +kernel,by decide +kernel⟩)
  | cases h
theorem ub {f t:Str} {pf pt pos:Pos} {x:PySem.Expr} {a:Ex} {ty:Ty} (hf:f = "isinstance") (hk:c.kind f=some .globalImplicit) (ht:tyOf t=some ty) (hkt:c.kind t=some .globalImplicit) (hs:isStar x=false) (ha:P.SE r c x a) :
 P.SE r c (.Call (.Name f pf) [x,.Name t pt] [] pos) (.isi a ty):=by
 intro A env s m ow own G d hA hg R hG hok hev
 have p:Pre P r c A env s m ow own G:=⟨hA,hg,R,hG⟩
 simp only [vt] at hok
 simp only [tw] at hev
 refine byG fun X_ g_=>?_
 refine aa hev fun dx e1 hev=>?_
 obtain ⟨q,e2,rfl⟩:=ag hev
 subst hf
 obtain ⟨b1,b2,b3,b4⟩:=m8 ht
 refine g_ ?_
 refine PyProof.Rows.Call_ (fC p hk (by decide +kernel) (by decide +kernel) (cI (by decide +kernel)) ph ?_)
 refine PyProof.Rows.callWith_builtin1 ?_ (an hs _ env) rfl
 refine PyProof.Rows.args_cons (SE.us ha p hok e1 fun y s1 k as rd _ _ _ _=>?_) (an hs _ env)
 refine PyProof.Rows.args_cons (fC (p.keeps k) hkt b3 b4 b2 b1 (PyProof.Rows.args_nil ?_)) rfl
 exact ua rd ty e2 fun tk=>PostE.flat0 (k.trans (Kp.toks s1 tk)) (.bool _) rfl rfl
theorem so {f:Str} {pf pos:Pos} {args:List PySem.Expr} {es':Exs} {fr:Bool} (hΦ:P.FnOk r) (hfr:P.fr f=some fr) (hk:c.kind f=some .globalImplicit) (hd:f ≠ ("__debug__" : Str)) (hne:args ≠ []) (h:SEL P r c args es')
 (hdef:∃ q,P.defs f=some q):P.SE r c (.Call (.Name f pf) args [] pos) (.call fr f es'):=by
 intro A env s m ow own G d hA hg R hG hok hev
 simp only [tR,Bool.and_eq_true,Bool.or_eq_true] at hok
 simp only [be] at hev
 refine aa hev fun ds e1 hev2=>?_
 clear hev
 obtain ⟨q,hq⟩:=hdef
 obtain ⟨fa,o,pm,code,doc,h1,h2,h3,_⟩:=hg.fn f q hq
 refine PyProof.Rows.Call_ (Calls.Name_function_global R.fn ((R.kd f).trans hk) (Calls.loadGlobal_global (by rw [R.gl];exact hg.g) h1 ?_) (by simpa using hd))
 cases h with
 | nil=>exact absurd rfl hne
 | @cons e e' es es'' hs hse hst hr=>
  refine PyProof.Rows.callWith_def h3 ?_ (an hs _ env)
  refine du (.cons hs hse hst hr) (⟨hA,hg,R,hG⟩) hok.1 e1 fun vs s1 as k rs g=>?_
  refine ⟨k.get _ _ h2,?_⟩
  obtain ⟨fa',o',fd,g1,g2,g3,hw⟩:=hΦ f fr hfr A s1 vs ds as d hA (hg.keeps k.get) rs hev2
  rw [h1] at g1
  cases g1
  refine wpAny_mono hw (fun v s' q=>?_) fun _ _ x=>x
  obtain ⟨k2,bs,rd,u1,u2⟩:=q
  refine ⟨k.trans k2,bs,rd,fun _ b mb=>?_,fun q=>(by cases q),fun hf _ b mb=>k.none (u2 hf b mb),fun q=>(by cases q)⟩
  rcases hok.2 with hf | hn
  ·exact hG b (k.none (u2 hf b mb))
  ·rcases u1 b mb with u | u
   ·exact hG b (k.none u)
   ·exact g hn b u
end
end Mine
set_option tactic.hygienic false
namespace Mine
open PySem
section
variable {P:Pk} {r:Nat} {c:TC}
theorem gJ {h:Heap} (g:P.GP h):h.objs.size ≠ sysModules:=by
 obtain ⟨o,_,_,e,_⟩:=g.g
 exact Nat.ne_of_gt (Nat.lt_of_le_of_lt (by decide) (Heap.lt_size e))
theorem iH {s s2:Shared} {h':Heap} {tk:Nat} {ow:List Nat} {own:Nat→Addr} {G:Addr→Prop} {e':Ex} {kvs:List (D × D)} (hG:∀ a,s.heap.get? a=none→G a) (kk:Kp { s with heap:=s.heap.push { cls:=.type "dict",data:=.dict #[] } } s2) (sb:Heap.SameBut s.heap.objs.size s2.heap h') (rd':Rd P.H h' (.ref s.heap.objs.size) (.dict kvs) [s.heap.objs.size]) (hi:isOw ow e'=false) :
 PostE P ow own G e' (.dict kvs) s (.ref s.heap.objs.size) { s2 with heap:=h',toks:=tk }:=by
 have hnone:s.heap.get? s.heap.objs.size=none:=aR _
 have k0:Kp s { s with heap:=s.heap.push { cls:=.type "dict",data:=.dict #[] } }:=Kp.heap s _ fun b o e=>Heap.get?_push_of_some _ e
 have k3:Kp s { s2 with heap:=h',toks:=tk }:=by
  obtain ⟨h2,tk2,e2,hk2⟩:=k0.trans kk
  subst e2
  exact ⟨h',_,rfl,fun b o e=>(sb.2 b (fun q=>by subst q;rw [hnone] at e;cases e)).trans (hk2 b o e)⟩
 refine ⟨k3,_,rd',fun _ b q=>?_,fun q=>(by rw [hi] at q;cases q),fun _ _ b q=>?_,fun q=>(by rw [hi] at q;cases q)⟩
 ·rw [List.mem_singleton.mp q];exact hG _ hnone
 ·rw [List.mem_singleton.mp q];exact hnone
theorem sp {pos:Pos}:P.SE r c (.Dict [] [] pos) (.dic .nil .nil):=by
 intro A env s m ow own G d hA hg R hG hok hev
 cases Option.some.inj (show some (PyData.dict [])=some d from hev)
 rw [arm_eval_Dict]
 refine wpAny_bind (wpAny_standAt ?_)
 show wpAny _ _ (subDict [] >>= fun d=>pure (Value.ref d)) _ _ s
 unfold subDict
 refine wpAny_bind (wpAny_bind (wpAny_alloc (wpAny_bind (wpAny_holding ?_))))
 rw [if_pos (by decide)]
 refine wpAny_bind (evalPairs_nil ?_)
 refine wpAny_holding (wpAny_bind (wpAny_pure (wpAny_pure (wpAny_pure (wpAny_pure ?_)))))
 exact iH (s2:={ s with heap:=s.heap.push { cls:=.type "dict",data:=.dict #[] } }) (tk:=s.toks) hG (Kp.refl _) (Heap.SameBut.refl _ _) (.dict (gJ hg) (Heap.get?_push_size _ rfl) .nil) rfl
theorem lz {env:Env} {keys:List (Option PySem.Expr)} {values:List PySem.Expr} {pos:Pos} {pairs:List (Sem Value × Sem Value)}
 (hshape:(evalEachOpt keys env).zip ((evalEach values env).map fun v=>do let x ← v;standAt pos;pure x)=pairs.map fun p=>(some p.1,p.2)) (h0:pairs ≠ []) (hlen:pairs.length < 17):eval (.Dict keys values pos) env=(do standAt pos;let d ← subDict pairs;pure (.ref d)):=by
 rw [arm_eval_Dict,hshape,dictDisplay_pairs pairs h0 hlen]
theorem lA {q:StK} {a:Addr}:xsK (@storedH StK stDec [] q a (.bool true)) [q]:=gb (xs:=[]) (ks:=[]) ⟨rfl,fun x hx=>by cases hx⟩
theorem sq {k v:PySem.Expr} {a b:Ex} {pos:Pos} (ha:P.SE r c k a) (hb:P.SE r c v b) {A:Around} {env:Env} {s:Shared} {m:St} {ow:List Nat} {own:Nat→Addr} {G:Addr→Prop} {q:StK} (p:Pre P r c A env s m ow own G) (ok1:okE ow a=true) (ok2:okE ow b=true) (e3:evE P.Φ P.Γ a m=some (stK q)) (e5:evE P.Φ P.Γ b m=some (.bool true)) :
 wpAny (model P.prog P.w) A (eval (.Dict [some k] [v] pos) env) (PostE P ow own G (.dic (.cons a .nil) (.cons b .nil)) (.dict [(stK q,.bool true)]) s) (fun _ _=>False) s:=by
 have k0:Kp s { s with heap:=s.heap.push { cls:=.type "dict",data:=.dict #[] } }:=Kp.heap s _ fun b o e=>Heap.get?_push_of_some _ e
 rw [lz (pairs:=[(eval k env,do let x ← eval v env;standAt pos;pure x)]) rfl (by simp) (by simp)]
 refine wpAny_bind (wpAny_standAt (wpAny_bind ?_))
 unfold subDict
 refine wpAny_bind (wpAny_alloc (wpAny_bind (wpAny_holding ?_)))
 rw [if_pos (by simp)]
 refine wpAny_bind (evalPairs_cons (SE.us ha (p.keeps k0) ok1 e3 fun kv s1 k1 bs1 rd1 _ _ _ _=>?_))
 refine wpAny_bind (SE.us hb (p.keeps (k0.trans k1)) ok2 e5 fun vv s2 k2 bs2 rd2 _ _ _ _=>wpAny_bind (wpAny_standAt (wpAny_pure (evalPairs_nil ?_))))
 have hv:=rd2.boolE'
 subst hv
 have hcs:bs1=[]:=rd1.noAddr (oX q)
 subst hcs
 refine byG fun X_ g_=>?_
 obtain ⟨ka,_,_,_,_,_,_,_,rfl,_⟩:=cW rd1
 refine g_ ?_
 refine wpAny_holding (wpAny_bind ?_)
 rw [List.forIn_cons]
 refine wpAny_bind (wpAny_bind (@wpAny_dictSet_heap P.prog P.w StK stDec (eM P.prog P.w P.H) A _ s2 s.heap.objs.size ka [] q (.bool true) _ (by have:=p.room.units;show A.units+10 < cLine;lia) (rd1.keeps k2.get) ⟨_,#[],0,(k2.get _ _ (k1.get _ _ (Heap.get?_push_size _ rfl))),⟨rfl,rfl,rfl⟩,rfl,rfl,(fun x hx=>by cases hx),List.nodup_nil⟩ (fun h' hd' sb=>wpAny_pure ?_) (Nat.zero_le _)))
 simp only [List.forIn_nil]
 refine wpAny_pure (wpAny_pure (wpAny_pure (wpAny_pure ?_)))
 refine byG fun X_ g_=>?_
 obtain ⟨es,n,hg',rd'⟩:=iz (prog:=P.prog) p.gp.hs.2 hd' lA (gJ p.gp)
 refine g_ ?_
 exact iH (tk:=s2.toks+(6 * q.2.length+3)) p.new (k1.trans k2) sb rd' rfl
theorem uc {k v:PySem.Expr} {a b:Ex} {pos:Pos} (ha:P.SE r c k a) (hb:P.SE r c v b):P.SE r c (.Dict [some k] [v] pos) (.dic (.cons a .nil) (.cons b .nil)):=by
 intro A env s m ow own G d hA hg R hG hok hev
 have p:Pre P r c A env s m ow own G:=⟨hA,hg,R,hG⟩
 rw [vw,Bool.and_eq_true] at hok
 have ok1:okE ow a=true:=by have:=hok.1;rw [show okEs ow (.cons a .nil)=(okE ow a&&true) from rfl,Bool.and_true] at this;exact this
 have ok2:okE ow b=true:=by have:=hok.2;rw [show okEs ow (.cons b .nil)=(okE ow b&&true) from rfl,Bool.and_true] at this;exact this
 rw [ve] at hev
 refine aa hev fun ks e1 hev=>?_
 refine aa hev fun vs e2 hev=>?_
 refine aa (show ((evE P.Φ P.Γ a m).bind fun x=>(evEs P.Φ P.Γ .nil m).map fun xs=>x::xs)=some ks from e1) fun dk e3 e4=>?_
 cases e4
 refine aa (show ((evE P.Φ P.Γ b m).bind fun x=>(evEs P.Φ P.Γ .nil m).map fun xs=>x::xs)=some vs from e2) fun dv e5 e6=>?_
 cases e6
 replace hev:(match strK dk with
  | some x=>if isScalar dv then some (PyData.dict [(.str x,dv)]) else none
  | none=>(unK dk).bind fun p=>if tru dv then some (.dict [(stK p,.bool true)]) else none)=some d:=hev
 cases e7:strK dk with
 | none=>
  rw [e7] at hev
  refine aa hev fun q e8 hev=>?_
  obtain ⟨ht,rfl⟩:=aJ hev
  rw [e9 e8] at e3
  rw [gH ht] at e5
  exact sq ha hb p ok1 ok2 e3 e5
 | some x=>
 rw [e7] at hev
 refine byG fun X_ g_=>?_
 obtain ⟨hsc,rfl⟩:=aJ hev
 refine g_ ?_
 have hx:=bN e7
 subst hx
 refine wpAny_Dict_pairs (knd:=strKind P.prog P.w) (pairs:=[(eval k env,do let x ← eval v env;standAt pos;pure x)]) rfl (by simp) (by simp) ?_
 have k0:Kp s { s with heap:=s.heap.push { cls:=.type "dict",data:=.dict #[] } }:=Kp.heap s _ fun b o e=>Heap.get?_push_of_some _ e
 refine wpAny_bind (SE.us ha (p.keeps k0) ok1 e3 fun kv s1 k1 bs1 rd1 _ _ _ _=>?_)
 refine wpAny_bind (wpAny_holding (wpAny_bind (SE.us hb (p.keeps (k0.trans k1)) ok2 e5 fun vv s2 k2 bs2 rd2 _ _ _ _=>wpAny_bind (wpAny_standAt (wpAny_pure ?_)))))
 refine wpAny_bind (wpAny_holding (wpAny_pure (wpAny_pure ?_)))
 cases rd1 using Rd.strE with
 | mk t hz ho=>
  refine ⟨[(x,vv)],⟨by simp [strKind,Value.isStrOf],rfl,trivial⟩,⟨_,#[],0,(k2.get _ _ (k1.get _ _ (Heap.get?_push_size _ rfl))),⟨rfl,rfl,rfl⟩,rfl,fun e he=>by simp at he,.nil,List.nodup_nil⟩,fun h' hd' sb=>?_⟩
  obtain ⟨es,n,hg',rd'⟩:=ky (prog:=P.prog) hg.hs.1 (show h'.DictOf (strKind P.prog P.w) s.heap.objs.size [(x,vv)] from hd') (.cons hz ho hsc (rd2.scal hsc).2 .nil) (gJ hg)
  have k3:Kp s { s2 with heap:=h',toks:=s2.toks+1 }:=by
   obtain ⟨h2,tk2,e2,hk2⟩:=((k0.trans k1).trans k2)
   subst e2
   exact ⟨h',_,rfl,fun b o e=>(sb.2 b (fun q=>by subst q;rw [(aR _)] at e;cases e)).trans (hk2 b o e)⟩
  refine ⟨k3,_,rd',fun _ b q=>?_,fun q=>(by cases q),fun _ _ b q=>?_,fun q=>(by cases q)⟩
  ·rw [List.mem_singleton.mp q];exact hG _ (aR _)
  ·rw [List.mem_singleton.mp q];exact (aR _)
end
end Mine
set_option tactic.hygienic false
namespace Mine
open PySem
noncomputable def iI (M:Model) (A:Around) (env:Env):List (Str × Value)→(Shared→Prop)→Shared→Prop
 | [],Q,s=>Q s
 | (x,v)::r,Q,s=>wpAny M A (storeName env x v) (fun _ s'=>iI M A env r Q s') (fun _ _=>False) s
structure Turns (prog:Program) (w:World) (A:Around) (tgt:PySem.Expr) (xs:List Str) (I:Addr) (fp wr:List Addr) (n:Nat) (Pv:Nat→List Value→Prop) (St:Nat→Heap→Prop):Prop where
 sub:∀ b ∈ wr,b ∈ fp
 frame:∀ i h h',St i h→(∀ b ∈ fp,∀ o,h.get? b=some o→h'.get? b=some o)→St i h'
 item:∀ i (s:Shared) (env:Env) (Q:Shared→Prop),i < n→St i s.heap →
  (∀ vals h' tk,Pv i vals→vals.length=xs.length→St (i+1) h'→(∀ b o,b ∉ wr→s.heap.get? b=some o→h'.get? b=some o)→iI (model prog w) A env (xs.zip vals) Q { s with heap:=h',toks:=tk }) →
  wpAny (model prog w) A (pyNext (.ref I)) (fun r s₁=>match r with
   | none=>False
   | some v=>wpAny (model prog w) A (letOwnedTupleGo tgt (.ref I) v) (fun _ s₂=>wpAny (model prog w) A (assign tgt env v) (fun _ s₃=>Q s₃) (fun _ _=>False) s₂) (fun _ _=>False) s₁) (fun _ _=>False) s
 done:∀ (s:Shared) (Q:Option Value→Shared→Prop),St n s.heap →
  (∀ h' tk,(∀ b o,b ∉ wr→s.heap.get? b=some o→h'.get? b=some o)→Q none { s with heap:=h',toks:=tk })→wpAny (model prog w) A (pyNext (.ref I)) Q (fun _ _=>False) s
 self:∀ i (s:Shared) (Q:Value→Shared→Prop),St i s.heap→Q (.ref I) s→wpAny (model prog w) A (pyIter (.ref I)) Q (fun _ _=>False) s
theorem Turns.ofWalks {prog:Program} {w:World} {A:Around} {I:Addr} {fp wr:List Addr} {n:Nat} {Pv:Nat→Value→Prop} {St:Nat→Heap→Prop} (W:Walks prog w A I fp wr n Pv St) (x:Str) (px:Pos) :
 Turns prog w A (.Name x px) [x] I fp wr n (fun i vals=>∃ v,vals=[v]∧Pv i v) St where
 sub:=W.sub
 frame:=W.frame
 item:=fun i s env Q hi st h=>W.item i s _ _ hi st fun v h' tk hP hst hk=>by
  show wpAny _ A (pure ()) _ _ _
  refine wpAny_pure (wpAny_assign_Name ?_)
  have:=h [v] h' tk ⟨v,rfl,hP⟩ rfl hst hk
  exact this
 done:=fun s Q st h=>W.done s Q _ st h
 self:=fun i s Q st h=>W.self i s Q _ st h
theorem Turns.ofWalksU {prog:Program} {w:World} {A:Around} (hh:A.handled=none) {I:Addr} {fp wr:List Addr} {n:Nat} {Pt:Nat→Array Value→Prop} {St:Nat→Heap→Prop} {Mid:Nat→Addr→Heap→Prop} (W:WalksU prog w A I fp wr n Pt St Mid)
 (h2:∀ i vals,Pt i vals→∃ a b,vals = #[a,b]) (x y:Str) (px py pt:Pos) (k:Nat) :
 Turns prog w A (.Tuple [.Name x px,.Name y py] k pt) [x,y] I fp wr n (fun i vals=>Pt i vals.toArray) St where
 sub:=W.sub
 frame:=W.frame
 item:=fun i s env Q hi st h=>W.item i s _ _ hi st fun T vals h' tk hP hT hM hk=>by
  refine W.go _ k pt i T _ _ _ hM fun h₂ hst₂ hk₂=>?_
  refine byG fun X_ g_=>?_
  obtain ⟨a,b,rfl⟩:=h2 i vals hP
  refine g_ ?_
  refine wpAny_assign_Tuple hh (hT.at fun o e=>hk₂ T o (W.apart i T h' hM) e) rfl rfl fun h₃ hx₃=>?_
  replace hx₃:Heap.ExtBut h₂.objs.size h₂ h₃:=hx₃
  have up₃:∀ b o,h₂.get? b=some o→h₃.get? b=some o:=fun b o x=>hx₃ b o (Nat.ne_of_lt (Heap.lt_size x)) x
  show wpAny _ A (do holding [b] (assign (.Name x px) env a);do holding [] (assign (.Name y py) env b);pure ()) _ _ _
  refine wpAny_bind (wpAny_holding (wpAny_assign_Name (wpAny_mono (h [a,b] h₃ tk hP rfl (W.frame _ _ _ hst₂ fun c _ o e=>up₃ c o e) fun c o hb e=>up₃ c o (hk₂ c o hb (hk c o hb e))) (fun _ s' q=>?_) fun _ _ z=>z)))
  exact wpAny_bind (wpAny_holding (wpAny_assign_Name (wpAny_mono q (fun _ s'' q'=>wpAny_pure q') fun _ _ z=>z)))
 done:=fun s Q st h=>W.done s Q _ st h
 self:=fun i s Q st h=>W.self i s Q _ st h
noncomputable def itOw (ow:List Nat):It→List Ex
 | .plain e=>[e]
 | .range1 _=>[]
 | .range2 _ _=>[]
 | .enum e=>[e]
 | .zip a b=>[a,b]
theorem ud (ow:List Nat) (e:Ex):itOw ow (It.plain e)=[e]:=rfl
structure ItOk (P:Pk) (A:Around) (tgt:PySem.Expr) (xs:List Str) (ow:List Nat) (own:Nat→Addr) (G:Addr→Prop) (m:St) (it':It) (items:List (List D)) (s s₁ s₂:Shared) (I:Addr) (fp wr:List Addr) (Pv:Nat→List Value→Prop) (St:Nat→Heap→Prop):Prop where
 k1:Kp s s₁
 k2:Kp s₁ s₂
 T:Turns P.prog P.w A tgt xs I fp wr items.length Pv St
 st:St 0 s₂.heap
 wnew:∀ b ∈ wr,s₁.heap.get? b=none
 live:∀ i h,St i h→∀ b ∈ wr,∃ o,h.get? b=some o∧(cm it'=false→o.cls ≠ .type "tuple")∧(∀ vs n,o ≠ listObj vs n)∧∀ es n,o ≠ dictObj es n
 obj:∀ b ∈ fp,∃ o,s₂.heap.get? b=some o
 pin:∀ b ∈ fp,s₁.heap.get? b=none∨∃ o,s₁.heap.get? b=some o∧((∃ vs n,o=tupObj vs n)∨(G b∧∃ vs n,o=listObj vs n)∨∃ i,Ex.v i ∈ itOw ow it'∧ow.contains i=true∧b=own i∧∃ xs,m[i]?=some (some (.list xs)))
 vals:∀ i vs,i < items.length→Pv i vs→∃ ds as,items[i]?=some ds∧RdAll P.H s₁.heap vs ds as∧∀ a ∈ as,G a
noncomputable def Pk.SI (P:Pk) (r:Nat) (c:TC) (tgt:PySem.Expr) (xs:List Str) (e:PySem.Expr) (it':It):Prop:=
 ∀ (A:Around) (env:Env) (s:Shared) (m:St) (ow:List Nat) (own:Nat→Addr) (G:Addr→Prop) (items:List (List D)),Pre P r c A env s m ow own G→okIt ow it'=true→evIt P.Φ P.Γ it' m=some items →
  wpAny (model P.prog P.w) A (eval e env) (fun xv sx=>wpAny (model P.prog P.w) A (pyIter xv) (fun itv s₂=>∃ s₁ I fp wr Pv St,itv = .ref I∧ItOk P A tgt xs ow own G m it' items s s₁ s₂ I fp wr Pv St) (fun _ _=>False) sx) (fun _ _=>False) s
end Mine
set_option tactic.hygienic false
namespace Mine
open PySem
theorem jB {xs:List D} {i:Nat} {d:D} (h:xs[i]?=some d):(one xs)[i]?=some [d]:=by
 unfold one;rw [List.getElem?_map,h];rfl
theorem gK (xs:List D):(one xs).length=xs.length:=by simp [one]
theorem m9 {ow:List Nat} {a:Ex} (h:isOw ow a=true):∃ i,a = .v i∧ow.contains i=true:=by
 cases a<;>first | exact ⟨_,rfl,h⟩ | cases h
section
variable {P:Pk} {r:Nat} {c:TC}
theorem dT {H:D→Int} {h:Heap} {vs:Array Value} {xs:List D} {as:List Addr} {G:Addr→Prop} (ra:RdAll H h vs.toList xs as) (hG:∀ a ∈ as,G a) {i:Nat} {l:List Value} (hp:∃ v,l=[v]∧vs[i]?=some v) :
 ∃ ds bs,(one xs)[i]?=some ds∧RdAll H h l ds bs∧∀ a ∈ bs,G a:=by
 refine byG fun X_ g_=>?_
 obtain ⟨v,rfl,hv⟩:=hp
 rw [← Array.getElem?_toList] at hv
 obtain ⟨d,bs,e,rd,q⟩:=ra.getV hv
 refine g_ ?_
 exact ⟨[d],bs,jB e,.one rd,fun a m=>hG a (q a m)⟩
theorem evV {Φ:Str→List D→Option D} {Γ:Str→Option D} {i:Nat} {m:St} {d:D} (h:evE Φ Γ (.v i) m=some d):m[i]?=some (some d):=by
 simp only [x_v] at h
 cases q:m[i]? with
 | none=>rw [q] at h;cases h
 | some y=>rw [q] at h;simp only [bX] at h;rw [h]
theorem pj {x:Str} {px:Pos} {e:PySem.Expr} {a:Ex} (ha:P.SE r c e a):P.SI r c (.Name x px) [x] e (.plain a):=by
 intro A env s m ow own G items p hok hev
 simp only [tL] at hok
 rw [gw] at hev
 refine aa hev fun dx e1 hev=>?_
 obtain ⟨xs,e2,rfl⟩:=ag hev
 refine SE.us ha p hok e1 fun v s1 k as rd g f _ w=>?_
 have hA:=p.room.hd
 have rd0:=rd
 cases rd with
 | @list l vs n _ as' ho hz ra=>
  simp only [ii,Option.some.injEq] at e2
  subst e2
  have hl:s1.heap.IsList l vs:=⟨_,ho,rfl,_,rfl⟩
  have hlen:=ra.length
  simp only [Array.length_toList] at hlen
  have W:=Turns.ofWalks (Walks.list (prog:=P.prog) (w:=P.w) (A:=A) hA s1.heap.objs.size l (Nat.ne_of_lt (Heap.lt_size ho)) vs) x px
  refine wpAny_pyIter_list hl ?_
  rw [hlen,← gK] at W
  refine ⟨s1,_,_,_,_,_,rfl,⟨k,Kp.push s1 _,W,⟨⟨_,Heap.get?_push_size _ rfl,rfl,rfl⟩,hl.at fun o e=>Heap.get?_push_of_some _ e⟩,?_,?_,?_,?_,?_⟩⟩
  ·intro b hb;rw [List.mem_singleton.mp hb];exact aR _
  ·rintro i h ⟨⟨o,ho,hc,hd⟩,_⟩ b hb
   rw [List.mem_singleton.mp hb]
   exact ⟨o,ho,fun _=>by rw [hc];decide,fun vs n e=>(by rw [e] at hd;cases hd),fun vs n e=>(by rw [e] at hd;cases hd)⟩
  ·intro b hb
   rcases List.mem_cons.mp hb with rfl | hb
   ·exact ⟨_,Heap.get?_push_size _ rfl⟩
   ·rw [List.mem_singleton.mp hb];exact ⟨_,Heap.get?_push_of_some _ ho⟩
  ·intro b hb
   rcases List.mem_cons.mp hb with rfl | hb
   ·exact .inl (aR _)
   ·rw [List.mem_singleton.mp hb]
    refine .inr ⟨_,ho,.inr ?_⟩
    cases hi:isOw ow a with
    | false=>exact .inl ⟨g hi l (.head _),_,_,rfl⟩
    | true=>
     refine .inr ?_
     refine byG fun X_ g_=>?_
     obtain ⟨i,rfl,hc⟩:=m9 hi
     refine g_ ?_
     exact ⟨i,by simp [ud],hc,(w hi l (.head _)),_,evV e1⟩
  ·intro i l hi hp
   exact dT ra (fun b q=>rd0.innG g f b q) hp
 | @tuple l vs n _ as' ho hz ra=>
  simp only [ij,Option.some.injEq] at e2
  subst e2
  have hl:s1.heap.IsTuple l vs:=⟨_,ho,rfl,_,rfl⟩
  have hne:l ≠ s1.heap.objs.size:=Nat.ne_of_lt (Heap.lt_size ho)
  have hlen:=ra.length
  simp only [Array.length_toList] at hlen
  have W:=Turns.ofWalks (Walks.tuple (prog:=P.prog) (w:=P.w) (A:=A) hA s1.heap.objs.size l hne vs) x px
  refine wpAny_pyIter_tuple hl ?_
  rw [hlen,← gK] at W
  refine ⟨s1,_,_,_,_,_,rfl,⟨k,Kp.push s1 _,W,⟨⟨_,Heap.get?_push_size _ rfl,rfl,rfl⟩,hl.at fun o e=>Heap.get?_push_of_some _ e⟩,?_,?_,?_,?_,?_⟩⟩
  ·intro b hb;rw [List.mem_singleton.mp hb];exact aR _
  ·rintro i h ⟨⟨o,ho,hc,hd⟩,_⟩ b hb
   rw [List.mem_singleton.mp hb]
   exact ⟨o,ho,fun _=>by rw [hc];decide,fun vs n e=>(by rw [e] at hd;cases hd),fun vs n e=>(by rw [e] at hd;cases hd)⟩
  ·intro b hb
   rcases List.mem_cons.mp hb with rfl | hb
   ·exact ⟨_,Heap.get?_push_size _ rfl⟩
   ·rw [List.mem_singleton.mp hb];exact ⟨_,Heap.get?_push_of_some _ ho⟩
  ·intro b hb
   rcases List.mem_cons.mp hb with rfl | hb
   ·exact .inl (aR _)
   ·rw [List.mem_singleton.mp hb]
    exact .inr ⟨_,ho,.inl ⟨_,_,rfl⟩⟩
  ·intro i l hi hp
   exact dT ra (fun b q=>rd0.innG g f b q) hp
 | str y t hz ho=>
  simp only [mf,Option.some.injEq] at e2
  subst e2
  have fin:∀ (T:String),T ≠ "tuple" → Turns P.prog P.w A (.Name x px) [x] s1.heap.objs.size [s1.heap.objs.size] [s1.heap.objs.size] y.cps.size (fun i vals=>∃ v,vals=[v]∧SignAt y i v) (fun i h=>h.IsStrIter s1.heap.objs.size T y t i) →
   ∃ s₁ I fp wr Pv St,Value.ref s1.heap.objs.size = .ref I∧ItOk P A (.Name x px) [x] ow own G m (.plain a) (one (y.cps.toList.map fun c=>.str ⟨#[c]⟩)) s s₁ { s1 with heap:=s1.heap.push { cls:=.type T,data:=.fields #[.str y t,.int 0 0] } } I fp wr Pv St:=fun T hT W=>by
   have el:y.cps.size=(one (y.cps.toList.map fun c=>PyData.str ⟨#[c]⟩)).length:=by rw [gK,lX,Array.length_toList]
   rw [el] at W
   refine ⟨s1,_,_,_,_,_,rfl,⟨k,Kp.push s1 _,W,⟨_,Heap.get?_push_size _ rfl,rfl,rfl⟩,?_,?_,?_,?_,?_⟩⟩
   ·intro b hb;rw [List.mem_singleton.mp hb];exact aR _
   ·rintro i h ⟨o,ho,hc,hd⟩ b hb
    rw [List.mem_singleton.mp hb]
    exact ⟨o,ho,fun _=>by rw [hc];simpa using hT,fun vs n e=>(by rw [e] at hd;cases hd),fun vs n e=>(by rw [e] at hd;cases hd)⟩
   ·intro b hb;rw [List.mem_singleton.mp hb];exact ⟨_,Heap.get?_push_size _ rfl⟩
   ·intro b hb;rw [List.mem_singleton.mp hb];exact .inl (aR _)
   ·rintro i l hi ⟨v,rfl,cp,u,hc,rfl⟩
    refine ⟨[.str ⟨#[cp]⟩],[],jB ?_,.one (.str _ _ (by show 1≤sizeLine;decide) (iC ho hc)),fun _ q=>(nomatch q)⟩
    rw [List.getElem?_map,Array.getElem?_toList,hc];rfl
  cases hc:y.cps.all (· < 128) with
  | false=>exact wpAny_pyIter_wide hc (fin _ (by decide) (Turns.ofWalks (Walks.strWide hA _ _ _) x px))
  | true=>exact wpAny_pyIter_ascii hc (fin _ (by decide) (Turns.ofWalks (Walks.strAscii hA _ _ _) x px))
 | none=>cases e2
 | bool b=>cases e2
 | int i t=>cases e2
 | dict=>cases e2
theorem eE:∀ (n:Nat) (a:Int),(bY a n).length=n:=by
 intro n
 induction n with
 | zero=>
  intro _
  exact rfl
 | succ n eE=>
  intro a
  simp [dN,eE]
theorem ge:∀ (n:Nat) (a:Int) (i:Nat),i < n→(bY a n)[i]?=some (.int (a+i))
 | 0,_,_,h=>absurd h (Nat.not_lt_zero _)
 | n+1,a,0,_=>by simp [dN]
 | n+1,a,i+1,h=>by
  simp only [dN,gX]
  rw [ge n (a+1) i (by exact Nat.le_of_lt_succ h)]
  congr 2;lia
theorem kG {A:Around} {x:Str} {px:Pos} {m:St} {ow:List Nat} {own:Nat→Addr} {G:Addr→Prop} {it':It} {s s1 s2:Shared} {ra:Addr} {a b:Int} {t u v:Tok} (hA:A.handled=none) (k1:Kp s s1) (k2:Kp s1 s2) (hr:IsRange s2.heap ra a b 1 t u v)
 (hp:a.natAbs≤2 ^ 20) (hq:b.natAbs≤2 ^ 20) :
 wpAny (model P.prog P.w) A (pyIter (.ref ra)) (fun itv s₂=>∃ s₁ I fp wr Pv St,itv = .ref I∧ItOk P A (.Name x px) [x] ow own G m it' (one (bY a (b - a).toNat)) s s₁ s₂ I fp wr Pv St) (fun _ _=>False) s2:=by
 refine wpAny_pyIter_range hr (small_one (by lia) (by lia) (by lia) (by lia)) ?_
 have hsz:Builtin.Range.rangeSize a b 1=((b - a).toNat:Int):=by
  rw [rangeSize_one];split<;>lia
 have W:=Turns.ofWalks (Walks.range (prog:=P.prog) (w:=P.w) (A:=A) hA s2.heap.objs.size a 1 (b - a).toNat) x px
 have el:(b - a).toNat=(one (bY a (b - a).toNat)).length:=by rw [gK,eE]
 rw [el] at W
 refine ⟨s2,_,_,_,_,_,rfl,⟨k1.trans k2,Kp.push s2 _,W,?_,?_,?_,?_,?_,?_⟩⟩
 ·show IsRangeIter _ _ _ _ _
  rw [hsz,← el]
  simpa using Heap.get?_push_size _ rfl
 ·intro b hb;rw [List.mem_singleton.mp hb];exact aR _
 ·intro i h ho b hb
  rw [List.mem_singleton.mp hb]
  exact ⟨_,ho,fun _=>by simp,fun vs n e=>(by have:=congrArg Obj.data e;cases this),fun vs n e=>(by have:=congrArg Obj.data e;cases this)⟩
 ·intro b hb;rw [List.mem_singleton.mp hb];exact ⟨_,Heap.get?_push_size _ rfl⟩
 ·intro b hb;rw [List.mem_singleton.mp hb];exact .inl (aR _)
 ·rintro i l hi ⟨v,rfl,t,rfl⟩
  rw [← el] at hi
  refine ⟨[.int (a+i)],[],jB (ge _ _ _ hi),?_,fun _ q=>(nomatch q)⟩
  have e1:a+(i:Int) * 1=a+(i:Int):=by lia
  rw [e1]
  exact .one (.int _ _)
set_option tactic.hygienic true in
theorem nf {f x:Str} {pf px pos:Pos} {e:PySem.Expr} {a:Ex} (hf:f = "range") (hk:c.kind f=some .globalImplicit) (hs:isStar e=false) (ha:P.SE r c e a):P.SI r c (.Name x px) [x] (.Call (.Name f pf) [e] [] pos) (.range1 a):=by
 intro A env s m ow own G items p hok hev
 simp only [tM] at hok
 rw [im] at hev
 refine aa hev fun dx e1 hev=>?_
 refine aa hev fun n e2 hev=>?_
 rw [cg e2] at e1
 subst hf
 refine jA p hk (by decide +kernel) (by decide +kernel) (cI (by decide +kernel)) gd (.inr ⟨_,rfl⟩) hs ha hok e1 fun y s1 as k rd g f=>?_
 have hn:=aN hev
 cases rd
 refine call_range_1 ?_
 rw [← Option.some.inj hn.2,show n.toNat=(n - 0).toNat by simp]
 exact kG (P:=P) p.room.hd (k.trans (Kp.toks s1 (s1.toks+1+1))) (Kp.push { s1 with toks:=s1.toks+1+1 } _) (IsRange.new s1.heap 0 n 1 s1.toks _ (s1.toks+1)) (by decide) hn.1
set_option tactic.hygienic true in
theorem ng {f x:Str} {pf px pos:Pos} {e e2:PySem.Expr} {a b:Ex} (hf:f = "range") (hk:c.kind f=some .globalImplicit) (hs:isStar e=false) (hs2:isStar e2=false) (ha:P.SE r c e a) (hb:P.SE r c e2 b):P.SI r c (.Name x px) [x] (.Call (.Name f pf) [e,e2] [] pos) (.range2 a b):=by
 intro A env s m ow own G items p hok hev
 simp only [tN,Bool.and_eq_true] at hok
 rw [io] at hev
 refine aa hev fun dx e1 hev=>?_
 refine aa hev fun dy e3 hev=>?_
 refine aa hev fun q e4 hev=>?_
 rw [(eC e4).1] at e1
 rw [(eC e4).2] at e3
 subst hf
 refine PyProof.Rows.Call_ (fC p hk (by decide +kernel) (by decide +kernel) (cI (by decide +kernel)) gd ?_)
 refine PySem.Pv.callWith_type1 ?_ (an hs _ env) (by rw [an hs2];rfl)
 refine PyProof.Rows.args_cons (SE.us ha p hok.1 e1 fun y s1 k1 as rd1 _ _ _ _=>?_) (an hs _ env)
 refine PyProof.Rows.args_cons (SE.us hb (p.keeps k1) hok.2 e3 fun z s2 k2 bs rd2 _ _ _ _=>?_) (an hs2 _ env)
 refine PyProof.Rows.args_nil ?_
 have hn:=aN hev
 cases rd1
 cases rd2
 refine call_range_2 ?_
 rw [← Option.some.inj hn.2]
 exact kG (P:=P) p.room.hd ((k1.trans k2).trans (Kp.toks s2 (s2.toks+1))) (Kp.push { s2 with toks:=s2.toks+1 } _) (IsRange.new s2.heap _ _ 1 _ _ s2.toks) hn.1.1 hn.1.2
end
end Mine
set_option tactic.hygienic false
namespace Mine
open PySem
noncomputable def closL (env:Env):List (Str × NameKind)→List (Str × Addr)→List (Str × Addr)
 | [],acc=>acc
 | (n,k)::r,acc=>closL env r (if k == .free then (n,(env.cells.lookup n).getD 0)::acc else acc)
theorem fD (env:Env) (x:List (Str × Addr)) (n:Str) (k:NameKind) (r:List (Str × NameKind)):closL env ((n,k)::r) x=closL env r (if (k == NameKind.free)=true then (n,(List.lookup n env.cells).getD 0)::x else x):=rfl
set_option tactic.hygienic true in
theorem pr {env:Env}:∀ (names:List (Str × NameKind)) (acc:List (Str × Addr)),(∀ y ∈ names,y.2 = .free→∃ a,env.cells.lookup y.1=some a)→(∀ q ∈ acc,env.cells.lookup q.1=some q.2)→∀ q ∈ closL env names acc,env.cells.lookup q.1=some q.2:=by
 intro names
 induction names with
 | nil=>
  intro _ _ h
  exact h
 | cons p_ r ih_=>
  obtain ⟨n,k⟩:=p_
  intro acc hn h
  rw [fD]
  refine ih_ _ (fun y hy=>hn y (.tail _ hy)) fun q hq=>?_
  split at hq
  ·rename_i hk
   rcases List.mem_cons.mp hq with rfl | hq
   ·obtain ⟨a,ha⟩:=hn (n,k) (.head _) (eq_of_beq hk)
    simp only at ha
    simp [ha]
   ·exact h q hq
  ·exact h q hq
theorem nh {env:Env}:∀ (names:List (Str × NameKind)) (acc:List (Str × Addr)),∀ q ∈ acc,q ∈ closL env names acc:=by
 intro names
 induction names with
 | nil=>
  intro _ _ h
  exact h
 | cons p_ r ih_=>
  obtain ⟨n,k⟩:=p_
  intro acc q h
  rw [fD]
  refine ih_ _ q ?_
  split
  ·exact .tail _ h
  ·exact h
theorem iJ {env:Env}:∀ (names:List (Str × NameKind)) (acc:List (Str × Addr)) (x:Str),(x,NameKind.free) ∈ names→∃ a,(x,a) ∈ closL env names acc
 | (n,k)::r,acc,x,h=>by
  rw [fD]
  rcases List.mem_cons.mp h with e | h
  ·cases e
   exact ⟨_,nh r _ _ (by rw [if_pos (by decide)];exact .head _)⟩
  ·exact iJ r _ x h
theorem eP {cs:List (Str × Addr)} {f:Str→Option Addr}:∀ {l:List (Str × Addr)},(∀ q ∈ l,f q.1=some q.2)→∀ x a,(x,a) ∈ l→l.lookup x=f x
 | (n,b)::r,h,x,a,hm=>by
  rw [List.lookup_cons]
  cases hb:x == n with
  | true=>
   have e:=eq_of_beq hb
   subst e
   exact (h _ (.head _)).symm
  | false=>
   rcases List.mem_cons.mp hm with e | hm
   ·cases e;simp at hb
   ·exact eP (cs:=cs) (fun q hq=>h q (.tail _ hq)) x a hm
theorem lB {scope:Scope} {env:Env} (h:∀ y ∈ scope.names,y.2 = .free→∃ a,env.cells.lookup y.1=some a):closureFor scope env=pure (closL env scope.names []):=by
 unfold closureFor
 have key:∀ (names:List (Str × NameKind)) (acc:List (Str × Addr)),(∀ y ∈ names,y.2 = .free→∃ a,env.cells.lookup y.1=some a) →
  (forIn names acc fun (x:Str × NameKind) (cs:List (Str × Addr))=>(if (x.2 == NameKind.free)=true then do let a ← cellOf env x.1;pure (ForInStep.yield ((x.1,a)::cs)) else pure (ForInStep.yield cs):Sem (ForInStep (List (Str × Addr)))))=pure (closL env names acc):=by
  intro names
  induction names with
  | nil=>intro acc _;rfl
  | cons y r ih=>
   intro acc hn
   obtain ⟨n,k⟩:=y
   rw [List.forIn_cons]
   by_cases hk:(k == NameKind.free)=true
   ·obtain ⟨a,ha⟩:=hn (n,k) (.head _) (eq_of_beq hk)
    simp only at ha
    have hc:cellOf env n=pure a:=by unfold cellOf;rw [ha]
    simp only [hk,if_true,hc]
    have:=ih ((n,a)::acc) fun y hy=>hn y (.tail _ hy)
    rw [fD]
    rw [if_pos hk,ha]
    exact this
   ·have hk':(k == NameKind.free)=false:=by simpa using hk
    simp only [hk']
    have:=ih acc fun y hy=>hn y (.tail _ hy)
    rw [fD]
    rw [if_neg hk]
    exact this
 exact (congrArg (fun t:Sem (List (Str × Addr))=>t >>= fun cs=>pure cs) (key scope.names [] h)).trans rfl
section
variable {prog:Program} {w:World} {A:Around} {R:Result→Shared→Prop} {s:Shared}
set_option tactic.hygienic true in
theorem iK {elt target iter:PySem.Expr} {ifs:List PySem.Expr} {scope:Scope} {pos:Pos} {it acc:Value} {env:Env} (I:Nat→Shared→Prop)
 (turn:∀ n s,I n s→wpAny (model prog w) A (pyNext it) (fun r s₁=>match r with
  | none=>R (.ok .next) s₁
  | some v=>wpAny (model prog w) A (letOwnedTupleGo target it v) (fun _ s₁'=>wpAny (model prog w) A (assign target env v) (fun _ s₂=>
   wpAny (model prog w) A (forIn ifs true fun c r=>if r=true then do let ok ← isTrue c env (eval c env);pure (ForInStep.yield ok) else pure (ForInStep.yield r)) (fun ok s₃=>
    if ok=true then wpAny (model prog w) A (eval elt env) (fun x s₄=>
     wpAny (model prog w) A (call (.builtin "list.append") [acc,x]) (fun _ s₅=>∃ m,m < n∧I m s₅) (fun _ _=>False) s₄) (fun _ _=>False) s₃
    else ∃ m,m < n∧I m s₃) (fun _ _=>False) s₂) (fun _ _=>False) s₁') (fun _ _=>False) s₁) (fun _ _=>False) s)
 (n:Nat) (h:I n s) :
 codeAny (model prog w) A (.compLoop (.ListComp elt [⟨target,iter,ifs,0⟩] scope pos) 0 it acc env) R s:=by
 refine codeAny_loop rfl I (fun n s hI=>?_) n h
 show wpAny _ A ((compTurn (.ListComp elt [⟨target,iter,ifs,0⟩] scope pos) 0 it acc env).onRaise (fun x=>do noteFrame x env;theTreesLotGoes x)) _ _ s
 refine wpAny_noted ?_
 rw [compTurn_list]
 refine wpAny_bind (wpAny_standAt (wpAny_bind (wpAny_mono (turn n s hI) (fun r s₁ h₁=>?_) fun _ _ h'=>h'.elim)))
 cases r with
 | none=>exact wpAny_pure h₁
 | some v=>
  refine wpAny_bind (wpAny_mono h₁ (fun _ s₁' h₁'=>?_) fun _ _ h'=>h'.elim)
  refine wpAny_bind (wpAny_mono h₁' (fun _ s₂ h₂=>wpAny_bind (wpAny_mono h₂ (fun ok s₃ h₃=>?_) fun _ _ h'=>h'.elim)) fun _ _ h'=>h'.elim)
  cases ok with
  | false=>exact wpAny_pure ⟨rfl,h₃⟩
  | true=>
   exact wpAny_bind (wpAny_bind (wpAny_mono h₃ (fun x s₄ h₄=>wpAny_bind (wpAny_mono h₄ (fun _ s₅ h₅=>wpAny_pure (wpAny_pure ⟨rfl,h₅⟩)) fun _ _ h'=>h'.elim)) fun _ _ h'=>h'.elim))
end
end Mine
set_option tactic.hygienic false
namespace Mine
open PySem
set_option tactic.hygienic true in
theorem bt:∀ {names:List Str} {x:Str} {i:Nat},slotOf names x=some i→i < names.length∧names[i]?=some x:=by
 intro names
 induction names with
 | nil=>
  intro _ _ h
  simp [oS] at h
 | cons y r bt=>
  intro x i h
  rw [cq] at h
  cases q:slotOf r x with
  | some j=>
   rw [q] at h
   cases h
   have:=bt q
   exact ⟨by simp;lia,by simpa using this.2⟩
  | none=>
   rw [q] at h
   simp only at h
   split at h
   ·cases h
    rename_i e
    have e:=eq_of_beq e
    subst e
    exact ⟨by simp,rfl⟩
   ·cases h
theorem dU:∀ {names xs:List Str} {x:Str} {i:Nat},slotOf (names++xs) x=some i→(∃ j,slotOf xs x=some j∧i=names.length+j)∨(slotOf xs x=none∧slotOf names x=some i)
 | [],xs,x,i,h=>by
  simp only [List.nil_append] at h
  exact .inl ⟨i,h,by simp⟩
 | y::r,xs,x,i,h=>by
  rw [List.cons_append] at h
  rw [cq] at h
  cases q:slotOf (r++xs) x with
  | some j=>
   rw [q] at h
   cases h
   rcases dU q with ⟨k,h1,h2⟩ | ⟨h1,h2⟩
   ·exact .inl ⟨k,h1,by simp;lia⟩
   ·refine .inr ⟨h1,?_⟩
    rw [cq]
    rw [h2]
  | none=>
   rw [q] at h
   simp only at h
   have n1:slotOf xs x=none∧slotOf r x=none:=by
    clear h
    induction r with
    | nil=>exact ⟨by simpa using q,rfl⟩
    | cons z r ih=>
     rw [List.cons_append] at q
     rw [cq] at q
     cases q2:slotOf (r++xs) x with
     | some j=>rw [q2] at q;cases q
     | none=>
      rw [q2] at q
      obtain ⟨i1,i2⟩:=ih q2
      refine ⟨i1,?_⟩
      rw [cq]
      rw [i2]
      exact q
   refine .inr ⟨n1.1,?_⟩
   rw [cq]
   rw [n1.2]
   exact h
theorem fZ {scope:Scope} {env:Env} {kind:Str→Option NameKind} (hf:env.scope.kind = .function) (hk:∀ x,env.kindOf x=kind x) (x:Str):(relabel scope env).names.lookup x=kindC scope kind x:=by
 unfold relabel kindC
 simp only
 generalize scope.names=names
 induction names with
 | nil=>rfl
 | cons y r ih=>
  obtain ⟨n,k⟩:=y
  rw [List.map_cons,List.lookup_cons]
  simp only [hf,hk]
  cases hb:x == n with
  | true=>
   have e:=eq_of_beq hb
   subst e
   simp only [List.lookup_cons,beq_self_eq_true]
   cases k<;>simp only<;>first | rfl | skip
   all_goals (by_cases q:(kind x == some NameKind.cell)=true<;>simp [q])
  | false=>
   have:=ih
   simp only [hf,hk] at this
   by_cases q:(k == NameKind.free&&true&&(kind n == some NameKind.cell))=true
   ·have q':(k == NameKind.free&&(ScopeKind.function == ScopeKind.function)&&(kind n == some NameKind.cell))=true:=q
    rw [if_pos q']
    simp only [List.lookup_cons,hb]
    exact this
   ·have q' : ¬ (k == NameKind.free&&(ScopeKind.function == ScopeKind.function)&&(kind n == some NameKind.cell))=true:=q
    rw [if_neg q']
    simp only [List.lookup_cons,hb]
    exact this
section
variable {P:Pk} {r:Nat} {c:TC}
structure CompOk (scope:Scope) (c:TC) (xs:List Str):Prop where
 kind:scope.kind = .function
 nocell:∀ y ∈ scope.names,y.2 ≠ .cell
 loc:∀ y ∈ scope.names,y.2 = .local→scope.names.lookup y.1=some .local
 free:∀ y ∈ scope.names,y.2 = .free→c.kind y.1=some .cell
 own:∀ y ∈ scope.names,y.2 = .local→y.1 ∈ xs∨y.1=(".0" : Str)
 tgt:∀ x ∈ xs,scope.names.lookup x=some .local
 dot:(".0" : Str) ∉ c.names++xs
theorem nj {scope:Scope} {xs:List Str} (h:kq scope c.kind xs=true) (h1:c.names.contains (".0" : Str)=false) (h2:xs.contains (".0" : Str)=false):CompOk scope c xs:=by
 unfold kq at h
 simp only [Bool.and_eq_true,List.all_eq_true,beq_iff_eq,Bool.or_eq_true,bne_iff_ne,ne_eq,List.contains_iff_mem] at h
 obtain ⟨⟨⟨⟨⟨a1,a2⟩,a3⟩,a4⟩,a5⟩,a6⟩:=h
 refine ⟨a1,a2,fun y hy e=>(a3 y hy).resolve_left (fun n=>n e),fun y hy e=>(a4 y hy).resolve_left (fun n=>n e),fun y hy e=>?_,a6,?_⟩
 ·rcases a5 y hy with (q | q) | q
  ·exact absurd e q
  ·exact .inl q
  ·exact .inr q
 ·intro hm
  rcases List.mem_append.mp hm with q | q
  ·have:c.names.contains (".0" : Str)=true:=List.contains_iff_mem.mpr q
   rw [h1] at this;cases this
  ·have:xs.contains (".0" : Str)=true:=List.contains_iff_mem.mpr q
   rw [h2] at this;cases this
theorem bl {α:Type} {x:Str} {k:α}:∀ {l:List (Str × α)},l.lookup x=some k→(x,k) ∈ l
 | (n,j)::r,h=>by
  rw [List.lookup_cons] at h
  cases hb:x == n with
  | true=>rw [hb] at h;cases h;rw [eq_of_beq hb];exact .head _
  | false=>rw [hb] at h;exact .tail _ (bl h)
set_option tactic.hygienic true in
theorem pw {scope:Scope} {xs:List Str} {env:Env} {m:St} {ow:List Nat} {own:Nat→Addr} {G:Addr→Prop} {h:Heap} {C:Addr} {mm:Str→Option Value} {vals:List Value} {ds:List D} {as:List Addr} (K:CompOk scope c xs)
 (R:EnvR P.H c env ow own G h m) (hn:h.Ns C mm) (hv:∀ j x v,xs[j]?=some x→vals[j]?=some v→slotOf xs x=some j→mm x=some v) (rd:RdAll P.H h vals ds as) (hl:vals.length=xs.length) (hg:∀ a ∈ as,G a) :
 EnvR P.H ⟨c.names++xs,kindC scope c.kind⟩ (compEnvC scope (closL env scope.names []) C env) ow own G h (m++ds.map some):=by
 have kd:∀ x,(compEnvC scope (closL env scope.names []) C env).kindOf x=kindC scope c.kind x:=fun x=>fZ R.fn R.kd x
 have cells:∀ x,kindC scope c.kind x=some .cell→(closL env scope.names []).lookup x=env.cells.lookup x∧c.kind x=some .cell:=fun x hx=>by
  unfold kindC at hx
  cases hl:scope.names.lookup x with
  | none=>rw [hl] at hx;cases hx
  | some k=>
   rw [hl] at hx
   cases k
   case free=>
    replace hx:(if c.kind x == some .cell then some NameKind.cell else some NameKind.free)=some .cell:=hx
    split at hx
    ·rename_i q
     obtain ⟨a,ha⟩:=iJ (env:=env) scope.names [] x (bl hl)
     exact ⟨eP (cs:=[]) (f:=fun z=>env.cells.lookup z) (pr scope.names [] (fun y hy e=>R.cel y.1 ((R.kd y.1).trans (K.free y hy e))) (fun _ q=>nomatch q)) x a ha,by simpa using q⟩
    ·cases hx
   case cell=>exact absurd (bl hl) fun hm=>K.nocell _ hm rfl
   all_goals cases hx
 refine ⟨K.kind,R.gl,R.bu,kd,?_,?_,?_,?_⟩
 ·simp only [List.length_append,lX,R.len,← rd.length,hl]
 ·intro i hi
  have:=R.owlt i hi
  simp only [List.length_append]
  lia
 ·intro x hx
  obtain ⟨e1,e2⟩:=cells x ((kd x).symm.trans hx)
  obtain ⟨a,ha⟩:=R.cel x ((R.kd x).trans e2)
  exact ⟨a,e1.trans ha⟩
 ·intro x i d hs hm hk
  rcases dU hs with ⟨j,hj,rfl⟩ | ⟨hj,hi⟩
  ·obtain ⟨jl,jx⟩:=bt hj
   have e:(m++ds.map some)[c.names.length+j]?=(ds.map some)[j]?:=by
    rw [← R.len,List.getElem?_append_right (by lia)]
    congr 1;lia
   rw [e,List.getElem?_map] at hm
   obtain ⟨d',hd',e'⟩:=Option.map_eq_some_iff.mp hm
   cases e'
   refine byG fun X_ g_=>?_
   obtain ⟨v,bs,ev,rv,hb⟩:=rd.get hd'
   refine g_ ?_
   have hkl:kindC scope c.kind x=some .local:=by unfold kindC;rw [(K.tgt x (List.mem_of_getElem? jx))]
   refine ⟨v,bs,.inl ⟨(kd x).trans hkl,mm,hn,hv j x v jx ev hj⟩,rv,fun ho=>?_,fun _ a q=>hg a (hb a q)⟩
   have:=R.owlt _ ho
   rw [R.len] at this
   lia
  ·obtain ⟨il,ix⟩:=bt hi
   rw [(List.getElem?_append_left (by rw [R.len];exact il))] at hm
   rcases hk with hk | hk
   ·exfalso
    have hloc:scope.names.lookup x=some .local:=by
     simp only [kindC] at hk
     split at hk
     ·split at hk<;>cases hk
     ·exact hk
    rcases K.own _ (bl hloc) rfl with q | q
    ·obtain ⟨j,hjx⟩:=List.getElem?_of_mem q
     have:∀ (l:List Str) (j:Nat),l[j]?=some x→slotOf l x ≠ none:=by
      intro l
      induction l with
      | nil=>intro j h;simp at h
      | cons y r ih=>
       intro j h
       rw [cq]
       cases q:slotOf r x with
       | some k=>simp
       | none=>
        cases j with
        | zero=>simp at h;simp [h]
        | succ j=>exact absurd q (ih j (by simpa using h))
     exact this xs j hjx hj
    ·exact K.dot (by rw [← q];exact List.mem_append_left _ (List.mem_of_getElem? ix))
   ·refine byG fun X_ g_=>?_
    obtain ⟨e1,e2⟩:=cells x hk
    obtain ⟨v,bs,hvar,rv,h1,h2⟩:=R.var x i d hi hm (.inr e2)
    refine g_ ?_
    refine ⟨v,bs,?_,rv,h1,h2⟩
    rcases hvar with ⟨q,_⟩ | ⟨_,cc,hc,hcell⟩
    ·rw [R.kd,e2] at q;cases q
    ·exact .inr ⟨(kd x).trans hk,cc,e1.trans hc,hcell⟩
end
end Mine
set_option tactic.hygienic false
namespace Mine
open PySem
noncomputable def SIfs (P:Pk) (r:Nat) (c:TC):List PySem.Expr→Exo→Prop
 | [],.none=>True
 | [q],.some b=>P.ST r c q b
 | _,_=>False
theorem EnvR.strengthen {H:D→Int} {c:TC} {env:Env} {ow:List Nat} {own:Nat→Addr} {G G':Addr→Prop} {h:Heap} {m:St} (R:EnvR H c env ow own G h m) (hg:∀ a o,h.get? a=some o→G a→G' a):EnvR H c env ow own G' h m where
 fn:=R.fn
 gl:=R.gl
 bu:=R.bu
 kd:=R.kd
 len:=R.len
 owlt:=R.owlt
 cel:=R.cel
 var:=fun x i d h1 h2 h3=>(R.var x i d h1 h2 h3).imp fun v q=>q.imp fun as q=>⟨q.1,q.2.1,q.2.2.1,fun z y hy=>(q.2.1.old y hy).elim fun o ho=>hg y o ho.1 (q.2.2.2 z y hy)⟩
theorem Rd.but {H:D→Int} {h h':Heap} {v:Value} {d:D} {as:List Addr} (X:Addr→Prop) (rd:Rd H h v d as) (hk:∀ b o,¬ X b→h.get? b=some o→h'.get? b=some o) (hx:∀ b o,X b→h.get? b=some o→∀ vs n,o ≠ tupObj vs n) (ha:∀ a ∈ as,¬ X a):Rd H h' v d as:=
 rd.mono' fun a o e q=>hk a o (fun x=>q.elim (fun ⟨vs,n,t⟩=>hx a o x e vs n t) fun m=>ha a m x) e
theorem RdAll.but {H:D→Int} {h h':Heap} {v:List Value} {d:List D} {as:List Addr} (X:Addr→Prop) (rd:RdAll H h v d as) (hk:∀ b o,¬ X b→h.get? b=some o→h'.get? b=some o) (hx:∀ b o,X b→h.get? b=some o→∀ vs n,o ≠ tupObj vs n) (ha:∀ a ∈ as,¬ X a):RdAll H h' v d as:=
 rd.mono' fun a o e q=>hk a o (fun x=>q.elim (fun ⟨vs,n,t⟩=>hx a o x e vs n t) fun m=>ha a m x) e
theorem bO {h:Heap} {C:Addr} {mm:Str→Option Value} (hn:h.Ns C mm):∀ o,h.get? C=some o→∀ vs n,o ≠ tupObj vs n:=by
 intro o e vs n q
 obtain ⟨o',es,ep,e',d,_⟩:=hn
 rw [e] at e';cases e'
 rw [q] at d;cases d
theorem Rd.scalar {H:D→Int} {h h':Heap} {v:Value} {d:D} {as:List Addr} (r:Rd H h v d as) (hs:isScalar d=true):as=[]∧Rd H h' v d []:=by
 cases r<;>first
  | (cases hs;done)
  | exact ⟨rfl,.none⟩
  | exact ⟨rfl,.bool _⟩
  | exact ⟨rfl,.int _ _⟩
  | exact ⟨rfl,.str _ _ (by assumption) (by assumption)⟩
theorem RdAll.scalars {H:D→Int} {h h':Heap} {vs:List Value} {ds:List D} {as:List Addr} (r:RdAll H h vs ds as) (hs:ds.all isScalar=true):as=[]∧RdAll H h' vs ds []:=
 r.ind (M:=fun vs ds as=>ds.all isScalar=true→as=[]∧RdAll H h' vs ds []) (fun o_=>⟨rfl,.nil⟩) (fun v vs d ds as bs h1 h2 i hs=>by
  rw [List.all_cons,Bool.and_eq_true] at hs
  obtain ⟨rfl,r2⟩:=i hs.2
  obtain ⟨rfl,r1⟩:=h1.scalar (h':=h') hs.1
  exact ⟨rfl,.cons r1 r2⟩) hs
theorem nk {f:List D→Option D} {c:List D→Option Bool} {vs:List D} {r:List (List D)} {out:List D} (h:dO f c (vs::r)=some out) :
 ∃ b,c vs=some b∧((b=true∧∃ x o,f vs=some x∧dO f c r=some o∧out=x::o)∨(b=false∧dO f c r=some out)):=by
 simp only [me] at h
 refine aa h fun b e h=>?_
 cases b with
 | true=>
  simp only [if_true] at h
  refine byG fun X_ g_=>?_
  refine aa h fun x e1 h=>?_
  obtain ⟨o,e2,rfl⟩:=ag h
  refine g_ ?_
  exact ⟨true,e,.inl ⟨rfl,x,o,e1,e2,rfl⟩⟩
 | false=>exact ⟨false,e,.inr ⟨rfl,by simpa using h⟩⟩
structure CInv (H:D→Int) (s₂:Shared) (len:Nat) (S:Nat→Heap→Prop) (C D0:Addr) (G':Addr→Prop) (ev:Nat→Option (List D)) (out:List D) (wr:List Addr) (n:Nat) (s':Shared) (i:Nat) (h':Heap) (tk:Nat) (mm:Str→Option Value) (ys:Array Value) (o1 o2:List D) (as:List Addr):Prop where
 e:s'={ s₂ with heap:=h',toks:=tk }
 ni:n+i=len
 st:S i h'
 ns:h'.Ns C mm
 pl:h'.PlainList D0 ys
 sz:ys.size≤i
 rd:RdAll H h' ys.toList o1 as
 g:∀ a ∈ as,G' a
 ev:ev i=some o2
 out:out=o1++o2
 kp:∀ b o,b ∉ wr→s₂.heap.get? b=some o→h'.get? b=some o
section
variable {P:Pk} {r:Nat} {c:TC}
theorem nn {A:Around} {cenv:Env} (hp:(cenv.scope.kind == .class||(cenv.scope.kind == .module&&cenv.locals != cenv.globals))=false) :
 ∀ {l:List (Str × Value)} {s:Shared} {mm:Str→Option Value} {Q:Shared→Prop},(∀ q ∈ l,cenv.kindOf q.1=some .local)→(l.map (·.1)).Nodup→s.heap.Ns cenv.locals mm →
 (∀ h' tk mm',h'.Ns cenv.locals mm'→(∀ q ∈ l,mm' q.1=some q.2)→(∀ y,y ∉ l.map (·.1)→mm' y=mm y)→Heap.SameBut cenv.locals s.heap h'→Q { s with heap:=h',toks:=tk })→iI (model P.prog P.w) A cenv l Q s:=by
 intro l
 induction l with
 | nil=>
  intro s mm Q _ _ hn h
  exact h s.heap s.toks mm hn (fun q x=>nomatch x) (fun o_ o_=>rfl) ⟨rfl,fun o_ o_=>rfl⟩
 | cons p_ r ih_=>
  intro s mm Q hk hd hn h
  obtain ⟨x,v⟩:=p_
  show wpAny _ _ _ _ _ _
  rw [List.map_cons,List.nodup_cons] at hd
  refine wpAny_storeName_local (hk _ (.head _)) hn (fun h' hn' hs'=>?_) hp
  refine ih_ (fun q hq=>hk q (.tail _ hq)) hd.2 hn' fun h'' tk mm' hn'' h1 h2 h3=>?_
  refine h h'' tk mm' hn'' (fun q hq=>?_) (fun y hy=>?_) (hs'.trans h3)
  ·rcases List.mem_cons.mp hq with rfl | hq
   ·rw [h2 _ hd.1];simp
   ·exact h1 q hq
  ·simp only [List.map_cons,List.mem_cons,not_or] at hy
   rw [h2 y hy.2,if_neg hy.1]
structure CompAt (s:Shared) (D0 C:Addr) (out:List D) (G:Addr→Prop) (P:Pk) (s':Shared):Prop where
 kp:Kp s s'
 dn:s.heap.get? D0=none
 cn:s.heap.get? C=none
 dc:D0 ≠ C
 ns:∃ mC,s'.heap.Ns C mC
 rd:∃ as,Rd P.H s'.heap (.ref D0) (.list out) (D0::as)∧∀ a ∈ as,G a∧a ≠ C∧a ≠ D0
theorem Kp.setHeap {a b:Shared} {h:Heap} {t:Nat} (k:Kp a b) (hk:∀ x o,a.heap.get? x=some o→h.get? x=some o):Kp a { b with heap:=h,toks:=t }:=by
 obtain ⟨h1,t1,rfl,_⟩:=k
 exact ⟨h,t,rfl,hk⟩
theorem aO {h:Heap} {a:Addr} (ha:h.objs.size≤a):h.get? a=none:=by
 cases e:h.get? a with
 | none=>rfl
 | some o'=>exact absurd (Heap.lt_size e) (Nat.not_lt.mpr ha)
set_option tactic.hygienic true in
theorem fn_scope {k:ScopeKind} (h:k = .function) (b:Bool):(k == .class||(k == .module&&b))=false:=by rw [h];rfl
theorem pz {A:Around} {env:Env} {s:Shared} {m:St} {ow:List Nat} {own:Nat→Addr} {G:Addr→Prop} {ifs:List PySem.Expr} {co:Exo} {b:Bool} (hc:SIfs P r c ifs co) (p:Pre P r c A env s m ow own G) (ok3:okO ow co=true) (hb:evC P.Φ P.Γ co m=some b) :
 wpAny (model P.prog P.w) A (forIn ifs true fun c r=>if r=true then do let ok ← isTrue c env (eval c env);pure (ForInStep.yield ok) else pure (ForInStep.yield r)) (fun ok s4=>ok=b∧Kp s s4) (fun o_ o_=>False) s:=by
 match ifs,co,hc,hb,ok3 with
 | [],.none,_,hb,_=>
  simp only [mj,Option.some.injEq] at hb
  exact wpAny_pure ⟨hb,Kp.refl _⟩
 | [q],.some q',hc,hb,ok3=>
  simp only [jp] at hb
  refine aa hb fun dq e1 e2=>?_
  rw [List.forIn_cons]
  simp only [if_true]
  refine wpAny_bind (wpAny_bind ?_)
  refine ST.use hc p ok3 e1 e2 fun s4 k4=>?_
  exact wpAny_pure (wpAny_pure ⟨rfl,k4⟩)
 | [],.some _,hc,_,_=>exact hc.elim
 | [_],.none,hc,_,_=>exact hc.elim
 | _::_::_,_,hc,_,_=>exact hc.elim
theorem lC {A:Around} {env:Env} {s s₁ s₂:Shared} {m:St} {ow:List Nat} {own:Nat→Addr} {G:Addr→Prop} {items:List (List D)} {elt tgt iter:PySem.Expr} {ifs:List PySem.Expr} {scope:Scope} {pos:Pos} {xs:List Str} {e':Ex} {it':It} {co:Exo}
 {I:Addr} {fp wr:List Addr} {Pv:Nat→List Value→Prop} {S:Nat→Heap→Prop} {out:List D} {RR:Value→Addr→Result→Shared→Prop} (p:Pre P r c A env s m ow own G) (K:CompOk scope c xs) (hnd:xs.Nodup)
 (O:ItOk P A tgt xs ow own G m it' items s s₁ s₂ I fp wr Pv S) (he:P.SE r ⟨c.names++xs,kindC scope c.kind⟩ elt e') (hc:SIfs P r ⟨c.names++xs,kindC scope c.kind⟩ ifs co)
 (ok1:okE ow e'=true) (ok2:nm ow e'=true) (ok3:okO ow co=true) (hsz:items.length≤sizeLine)
 (hev:dO (fun vs=>evE P.Φ P.Γ e' (m++vs.map some)) (fun vs=>evC P.Φ P.Γ co (m++vs.map some)) items=some out) (hz:cm it'=false∨out.all isScalar=true)
 (hRR:∀ D0 C s',CompAt s D0 C out G P s'→RR (.ref D0) C (.ok .next) s') :
 wpAny (model P.prog P.w) A (newList []) (fun acc s₃=>wpAny (model P.prog P.w) A (newFunctionEnv scope env.globals (closL env scope.names []) [] env.qual none .none (some env)) (fun cenv s₄=>
  codeAny (model P.prog P.w) A (.compStart (.ListComp elt [⟨tgt,iter,ifs,0⟩] scope pos) 0 (.ref I) acc { cenv with scope:=relabel scope env }) (RR acc cenv.locals) s₄) (fun o_ o_=>False) s₃) (fun o_ o_=>False) s₂:=by
 refine wpAny_newObj_type (wpAny_newFunctionEnv K.nocell (by intro y hy;simp at hy) (fun h₁ hns₁ hsb₁=>?_) K.kind)
 dsimp only at hns₁ hsb₁ ⊢
 generalize hH2:s₂.heap.push { cls:=.type "list",dict:=none,data:=.seq ([]:List Value).toArray }=H2 at hns₁ hsb₁ ⊢
 have hC:H2.objs.size=s₂.heap.objs.size+1:=by rw [← hH2,Heap.size_push]
 generalize hD0:s₂.heap.objs.size=D0 at hC ⊢
 generalize hCC:H2.objs.size=C at hC hns₁ hsb₁ ⊢
 have hDC:D0 ≠ C:=by lia
 have below:∀ b o,s₂.heap.get? b=some o→b ≠ C∧b ≠ D0:=fun b o e=>by have:=Heap.lt_size e;rw [hD0] at this;exact ⟨by rw [hC];exact Nat.ne_of_lt (Nat.lt_succ_of_lt this),Nat.ne_of_lt this⟩
 have dfp:∀ b ∈ fp,b ≠ C∧b ≠ D0:=fun b hb=>(O.obj b hb).elim fun o ho=>below b o ho
 have dwr:∀ b ∈ wr,b ≠ C∧b ≠ D0:=fun b hb=>dfp b (O.T.sub b hb)
 have k12:=O.k1.trans O.k2
 have old:∀ b o,s₂.heap.get? b=some o→h₁.get? b=some o:=fun b o e=>hsb₁.extBut b o (below b o e).1 (Heap.get?_push_of_some _ (hH2 ▸ Heap.get?_push_of_some _ e))
 have hst₁:S 0 h₁:=O.T.frame _ _ _ O.st fun b o_ o e=>old b o e
 let G':Addr→Prop:=fun a=>G a∧a ≠ D0∧a ≠ C∧a ∉ wr
 have wold:∀ b o,s₁.heap.get? b=some o→b ∉ wr:=fun b o e hb=>by rw [O.wnew b hb] at e;cases e
 let Inv:Nat→Shared→Prop:=fun n s'=>∃ i h' tk mm ys o1 o2 as,CInv P.H s₂ items.length S C D0 G' (fun i=>dO (fun vs=>evE P.Φ P.Γ e' (m++vs.map some)) (fun vs=>evC P.Φ P.Γ co (m++vs.map some)) (items.drop i)) out wr n s' i h' tk mm ys o1 o2 as
 have loop:∀ s₃:Shared,s₃={ s₂ with heap:=h₁,toks:=s₂.toks+([]:List (Str × Value)).length } →
  codeAny (model P.prog P.w) A (.compLoop (.ListComp elt [⟨tgt,iter,ifs,0⟩] scope pos) 0 (.ref I) (.ref D0) (compEnvC scope (closL env scope.names []) C env)) (RR (.ref D0) C) s₃:=by
  rintro s₃ rfl
  refine iK Inv (fun n s' hI=>?_) items.length ⟨0,h₁,_,_,#[],[],out,[],rfl,rfl,hst₁,hns₁,(⟨_,hsb₁.extBut _ _ hDC (Heap.get?_push_of_some _ (hH2 ▸ hD0 ▸ Heap.get?_push_size _ rfl))⟩),Nat.le_refl 0,.nil,(fun o_ q=>nomatch q),hev,rfl,fun b o o_ e=>old b o e⟩
  obtain ⟨i,h',tk,mm,ys,o1,o2,as,rfl,hni,hS,hns,hpl,hys,rd,hg,hev2,hout,hkp⟩:=hI
  have walkRd:∀ h'':Heap,(∀ b o,b ∉ wr→h'.get? b=some o→h''.get? b=some o)→RdAll P.H h'' ys.toList o1 as:=fun h'' hk=>by
   rcases hz with hz | hz
   ·refine rd.but (fun b=>b ∈ wr) hk (fun b o hb e vs n q=>?_) fun a ha=>(hg a ha).2.2.2
    obtain ⟨o',e',h2,_⟩:=O.live i h' hS b hb
    rw [e] at e';cases e'
    exact h2 hz (by rw [q])
   ·rw [hout,List.all_append,Bool.and_eq_true] at hz
    obtain ⟨rfl,r2⟩:=rd.scalars (h':=h'') hz.1
    exact r2
  have s2keep:∀ h'':Heap,(∀ b o,b ∉ wr→h'.get? b=some o→h''.get? b=some o)→∀ b o,b ∉ wr→s₂.heap.get? b=some o→h''.get? b=some o:=fun h'' hk b o hb e=>hk b o hb (hkp b o hb e)
  by_cases hlt:i < items.length
  ·obtain ⟨ds,hds⟩:∃ ds,items[i]?=some ds:=⟨items[i],List.getElem?_eq_getElem hlt⟩
   rw [List.drop_eq_getElem_cons hlt] at hev2
   have hds':items[i]=ds:=by rw [List.getElem?_eq_getElem hlt] at hds;exact Option.some.inj hds
   rw [hds'] at hev2
   obtain ⟨b,hb,hrest⟩:=nk hev2
   have key:=O.T.item i { s₂ with heap:=h',toks:=tk } (compEnvC scope (closL env scope.names []) C env) (fun s₃ => 
    wpAny (model P.prog P.w) A (forIn ifs true fun c r=>if r=true then do let ok ← isTrue c (compEnvC scope (closL env scope.names []) C env) (eval c (compEnvC scope (closL env scope.names []) C env));pure (ForInStep.yield ok) else pure (ForInStep.yield r)) (fun ok s₃=>
     if ok=true then wpAny (model P.prog P.w) A (eval elt (compEnvC scope (closL env scope.names []) C env)) (fun x s₄=>
      wpAny (model P.prog P.w) A (call (.builtin "list.append") [.ref D0,x]) (fun o_ s₅=>∃ m,m < n∧Inv m s₅) (fun o_ o_=>False) s₄) (fun o_ o_=>False) s₃
     else ∃ m,m < n∧Inv m s₃) (fun o_ o_=>False) s₃) hlt hS ?_
   ·refine wpAny_mono key (fun rr s₁ q=>?_) fun o_ o_ z=>z
    cases rr with
    | none=>exact q.elim
    | some v=>exact q
   ·intro vals h2 tk2 hPv hlen hS2 hk2
    obtain ⟨ds2,vas,e2,rdv,hgv⟩:=O.vals i vals hlt hPv
    rw [hds] at e2;cases e2
    have hlocal:∀ x ∈ xs,(compEnvC scope (closL env scope.names []) C env).kindOf x=some .local:=fun x hx=>by
     show (relabel scope env).names.lookup x=_
     exact lookup_relabel_local (K.tgt x hx)
    have hzip1:(xs.zip vals).map (·.1)=xs:=by
     rw [List.map_fst_zip];lia
    have hns2:h2.Ns C mm:=hns.at' fun o e=>hk2 C o (fun hb=>(dwr C hb).1 rfl) e
    refine nn (mm:=mm) (fn_scope K.kind _) (fun q hq=>hlocal q.1 ?_) (by rw [hzip1];exact hnd) hns2 fun h3 tk3 mm3 hns3 hst3 o_ hsb3=>?_
    ·have:q.1 ∈ (xs.zip vals).map (·.1):=List.mem_map_of_mem hq
     rw [hzip1] at this;exact this
    replace hns3:h3.Ns C mm3:=hns3
    replace hsb3:Heap.SameBut C h2 h3:=hsb3
    have rd3:RdAll P.H h3 ys.toList o1 as:=(walkRd h2 fun b o hb e=>hk2 b o hb e).but (fun b=>b=C) (fun b o hb e=>hsb3.extBut b o hb e) (fun b o hb e=>bO hns2 o (hb ▸ e)) fun a ha=>(hg a ha).2.2.1
    have keep3:∀ b o,b ∉ wr→s₂.heap.get? b=some o→h3.get? b=some o:=fun b o hb e=>hsb3.extBut b o (below b o e).1 (s2keep h2 (fun b o hb e=>hk2 b o hb e) b o hb e)
    have keepS1:∀ b o,s₁.heap.get? b=some o→h3.get? b=some o:=fun b o e=>keep3 b o (wold b o e) (O.k2.get b o e)
    have keepS:∀ b o,s.heap.get? b=some o→h3.get? b=some o:=fun b o e=>keepS1 b o (O.k1.get b o e)
    have hS3:S (i+1) h3:=O.T.frame _ _ _ hS2 fun b hb o e=>hsb3.extBut b o (dfp b hb).1 e
    have hpl3:h3.PlainList D0 ys:=by
     obtain ⟨n0,e⟩:=hpl
     exact ⟨n0,hsb3.extBut _ _ hDC (hk2 _ _ (fun hb=>(dwr _ hb).2 rfl) e)⟩
    have er3:EnvR P.H ⟨c.names++xs,kindC scope c.kind⟩ (compEnvC scope (closL env scope.names []) C env) ow own G' h3 (m++ds.map some):=by
     refine pw K ((p.er.strengthen fun a o e g=>⟨g,(below a o (k12.get a o e)).2,(below a o (k12.get a o e)).1,wold a o (O.k1.get a o e)⟩).keeps keepS) hns3 (vals:=vals) (fun j x v ex ev o_=>?_) (rdv.keeps keepS1) hlen (fun a ha=>?_)
     ·exact hst3 (x,v) (List.mem_of_getElem? (i:=j) (by rw [List.getElem?_zip_eq_some];exact ⟨ex,ev⟩))
     ·obtain ⟨o,ho,_⟩:=rdv.old a ha
      have:=below a o (O.k2.get a o ho)
      exact ⟨hgv a ha,this.2,this.1,wold a o ho⟩
    have pre3:Pre P r ⟨c.names++xs,kindC scope c.kind⟩ A (compEnvC scope (closL env scope.names []) C env) { s₂ with heap:=h3,toks:=tk3 } (m++ds.map some) ow own G':=by
     refine ⟨p.room,p.gp.keeps keepS,er3,fun a ea=>⟨p.new a ?_,?_,?_,?_⟩⟩
     ·cases q:s.heap.get? a with
      | none=>rfl
      | some o=>rw [show h3.get? a=_ from keepS a o q] at ea;cases ea
     ·intro q;obtain ⟨n0,e⟩:=hpl3;rw [← q,show h3.get? a=_ from ea] at e;cases e
     ·intro q;obtain ⟨o,_,_,e,_⟩:=hns3;rw [← q,show h3.get? a=_ from ea] at e;cases e
     ·intro hb
      obtain ⟨o,e,_⟩:=O.live _ _ hS3 a hb
      rw [show h3.get? _=_ from e] at ea;cases ea
    refine wpAny_mono (pz hc pre3 ok3 hb) (fun ok s4 q=>?_) fun o_ o_ z=>z
    obtain ⟨rfl,k4⟩:=q
    have up:∀ s5:Shared,Kp { s₂ with heap:=h3,toks:=tk3 } s5→∃ h5 tk5,s5={ s₂ with heap:=h5,toks:=tk5 }∧∀ b o,h3.get? b=some o→h5.get? b=some o:=fun s5 k=>by
     obtain ⟨h5,tk5,rfl,k⟩:=k
     exact ⟨h5,tk5,rfl,k⟩
    rcases hrest with ⟨rfl,x,o,e1,e2,rfl⟩ | ⟨rfl,e1⟩
    ·rw [if_pos rfl]
     refine SE.us he (pre3.keeps k4) ok1 e1 fun xv s5 k5 bs rx gx o_ o_ o_=>?_
     have gx:=gx (by simpa [nm] using ok2)
     obtain ⟨h5,tk5,rfl,u5⟩:=up s5 (k4.trans k5)
     have pl5:h5.PlainList D0 ys:=hpl3.imp fun n0 e=>u5 _ _ e
     refine wpAny_list_append_plain pl5 (fun h6 pl6 sb6=>?_) (by lia)
     replace sb6:Heap.SameBut D0 h5 h6:=sb6
     have ntD:∀ b o,b=D0→h5.get? b=some o→∀ vs n,o ≠ tupObj vs n:=fun b o hb e vs n q=>by
      obtain ⟨n0,e'⟩:=pl5
      rw [hb,e'] at e;cases e
      exact absurd (congrArg Obj.cls q) (by show ¬ (Value.type "list" = Value.type "tuple");decide)
     refine ⟨n - 1,by lia,i+1,h6,tk5,mm3,ys.push xv,o1++[x],o,as++bs,rfl,by lia,?_,?_,pl6,by simp;(exact hys),?_,?_,e2,by rw [hout];simp,?_⟩
     ·exact O.T.frame _ _ _ hS3 fun b hb o e=>sb6.extBut b o (dfp b hb).2 (u5 b o e)
     ·exact (hns3.keeps u5).sameBut sb6 (Ne.symm hDC)
     ·rw [Array.toList_push]
      exact ((rd3.keeps u5).append (RdAll.one rx)).but (fun b=>b=D0) (fun b o hb e=>sb6.extBut b o hb e) ntD fun a ha=>(List.mem_append.mp ha).elim (fun q=>(hg a q).2.1) fun q=>(gx a q).2.1
     ·exact fun a ha=>(List.mem_append.mp ha).elim (hg a) (gx a)
     ·exact fun b o hb e=>sb6.extBut b o (below b o e).2 (u5 b o (keep3 b o hb e))
    ·rw [if_neg (by simp)]
     obtain ⟨h5,tk5,rfl,u5⟩:=up _ k4
     exact ⟨n - 1,by lia,i+1,h5,tk5,mm3,ys,o1,o2,as,rfl,by lia,O.T.frame _ _ _ hS3 fun b o_ o e=>u5 b o e,hns3.keeps u5,hpl3.imp fun n0 e=>u5 _ _ e,by exact Nat.le.step hys,rd3.keeps u5,hg,e1,hout,fun b o hb e=>u5 b o (keep3 b o hb e)⟩
  ·have hi:i=items.length:=by lia
   subst hi
   refine O.T.done { s₂ with heap:=h',toks:=tk } _ hS fun h2 tk2 hk2=>?_
   simp only [List.drop_length,rB,Option.some.injEq] at hev2
   subst hev2
   rw [List.append_nil] at hout
   subst hout
   refine hRR D0 C _ ⟨?_,k12.none (aO (by rw [hD0];exact Nat.le_refl _)),k12.none (aO (by rw [hD0];lia)),hDC,⟨mm,hns.at' fun o e=>hk2 C o (fun hb=>(dwr C hb).1 rfl) e⟩,as,?_,fun a ha=>⟨(hg a ha).1,(hg a ha).2.2.1,(hg a ha).2.1⟩⟩
   ·exact O.k1.trans (O.k2.setHeap fun b o e=>hk2 b o (wold b o e) (hkp b o (wold b o e) (O.k2.get b o e)))
   ·obtain ⟨n0,e⟩:=hpl
    exact .list (hk2 D0 _ (fun hb=>(dwr D0 hb).2 rfl) e) (by lia) (walkRd h2 fun b o hb e=>hk2 b o hb e)
 exact codeAny_compStart_list (loop _ rfl) (wpAny_mono (O.T.self 0 _ (fun v s'=>v = .ref I∧s'=_) hst₁ ⟨rfl,rfl⟩) (fun v s' q=>by rw [q.1,q.2];exact loop _ rfl) fun o_ o_ z=>z.elim)
end
end Mine
set_option tactic.hygienic false
namespace Mine
open PySem
section
variable {P:Pk} {r:Nat} {c:TC}
theorem fE {e:PySem.Expr} {env:Env} (h:isSet e=false):∀ x,foldedSetIterable e env x=pure x:=by
 intro x
 cases e<;>first | rfl | cases h
theorem CompAt.sameC {s:Shared} {D0 C:Addr} {out:List D} {G:Addr→Prop} {s':Shared} (q:CompAt s D0 C out G P s') {h':Heap} (hs:Heap.SameBut C s'.heap h') :
 Kp s { s' with heap:=h' }∧∃ as,Rd P.H h' (.ref D0) (.list out) (D0::as)∧∀ a ∈ as,G a:=by
 obtain ⟨mC,hn⟩:=q.ns
 obtain ⟨as,rd,ha⟩:=q.rd
 refine ⟨q.kp.setHeap fun x o e=>hs.extBut x o (by rintro rfl;rw [q.cn] at e;cases e) (q.kp.get x o e),as,?_,fun a m=>(ha a m).1⟩
 refine rd.but (fun b=>b=C) (fun b o hb e=>hs.extBut b o hb e) (fun b o hb e=>by subst hb;exact bO hn o e) fun a m=>?_
 rcases List.mem_cons.mp m with rfl | m
 ·exact q.dc
 ·exact (ha a m).2.1
set_option tactic.hygienic true in
theorem kH {A:Around} {env:Env} {s:Shared} {m:St} {ow:List Nat} {own:Nat→Addr} {G:Addr→Prop} {elt tgt iter:PySem.Expr} {ifs:List PySem.Expr} {scope:Scope} {pos pos':Pos} {xs:List Str} {e':Ex} {it':It} {co:Exo} {d:D} {use:Option (Value→Sem Unit)} {Q:Value→Shared→Prop}
 (hset:isSet iter=false) (hnd:xs.Nodup) (K:CompOk scope c xs) (hi:P.SI r c tgt xs iter it') (he:P.SE r ⟨c.names++xs,kindC scope c.kind⟩ elt e') (hc:SIfs P r ⟨c.names++xs,kindC scope c.kind⟩ ifs co)
 (p:Pre P r c A env s m ow own G) (hok:okE ow (.comp e' it' co)=true) (hev:evE P.Φ P.Γ (.comp e' it' co) m=some d)
 (h:∀ out D0 C s',d = .list out→CompAt s D0 C out G P s'→compPost (model P.prog P.w) A (fun _ _=>False) use Q (.ref D0) C (.ok .next) s') :
 wpAny (model P.prog P.w) A (comprehension (.ListComp elt [⟨tgt,iter,ifs,0⟩] scope pos) scope env pos' (newList []) false (eval iter env) use) Q (fun _ _=>False) s:=by
 simp only [tS,Bool.and_eq_true] at hok
 refine byG fun X_ g_=>?_
 obtain ⟨⟨⟨ok1,ok2⟩,ok3⟩,ok4⟩:=hok
 simp only [qK] at hev
 refine aa hev fun items e1 hev=>?_
 refine g_ ?_
 split at hev
 case isFalse=>cases hev
 rename_i hsz
 refine aa hev fun out e2 hev=>?_
 split at hev
 case isFalse=>cases hev
 rename_i hz
 cases hev
 refine wpAny_comprehension_free rfl (fE hset) (lB fun y hy q=>p.er.cel y.1 ((p.er.kd y.1).trans (K.free y hy q))) K.kind K.loc ?_
 refine wpAny_mono (hi A env s m ow own G items p ok3 e1) (fun xv sx q=>wpAny_mono q (fun itv s₂ q2=>?_) fun _ _ z=>z) fun _ _ z=>z
 refine byG fun X_ g_=>?_
 obtain ⟨s₁,I,fp,wr,Pv,S,rfl,O⟩:=q2
 refine g_ ?_
 refine lC p K hnd O he hc ok1 ok2 ok4 ?_ e2 ?_ fun D0 C s' q=>h out D0 C s' rfl q
 ·simp only [b7,decide_eq_true_eq] at hsz
  exact Nat.le_trans hsz (by decide)
 ·simpa using hz
theorem nq {elt tgt iter:PySem.Expr} {ifs:List PySem.Expr} {scope:Scope} {pos:Pos} {xs:List Str} {e':Ex} {it':It} {co:Exo} (hset:isSet iter=false) (hnd:xs.Nodup) (K:CompOk scope c xs) (hi:P.SI r c tgt xs iter it')
 (he:P.SE r ⟨c.names++xs,kindC scope c.kind⟩ elt e') (hc:SIfs P r ⟨c.names++xs,kindC scope c.kind⟩ ifs co):P.SE r c (.ListComp elt [⟨tgt,iter,ifs,0⟩] scope pos) (.comp e' it' co):=by
 intro A env s m ow own G d hA hg R hG hok hev
 have p:Pre P r c A env s m ow own G:=⟨hA,hg,R,hG⟩
 rw [eval_ListComp]
 refine kH hset hnd K hi he hc p hok hev fun out D0 C s' hd q=>?_
 subst hd
 obtain ⟨mC,hn⟩:=q.ns
 refine ⟨mC,hn,fun h' hs=>?_⟩
 obtain ⟨k,as,rd,ha⟩:=q.sameC hs
 refine ⟨k,D0::as,rd,fun _ a ma=>?_,fun z=>(by cases z),fun _ hf a ma=>?_,fun z=>(by cases z)⟩
 ·rcases List.mem_cons.mp ma with rfl | ma
  ·exact hG _ q.dn
  ·exact ha a ma
 ·have:as=[]:=rd.inn_flat hf
  subst this
  rw [List.mem_singleton.mp ma]
  exact q.dn
end
end Mine
set_option tactic.hygienic false
namespace Mine
open PySem
section
variable {P:Pk} {r:Nat} {c:TC}
theorem fF:∀ (xs:List D) (a:Nat),(cA a xs).length=xs.length:=by
 intro xs
 induction xs with
 | nil=>
  intro _
  exact rfl
 | cons _ r fF=>
  intro a
  simp [gv,fF]
theorem iL:∀ (xs:List D) (a i:Nat) (d:D),xs[i]?=some d→(cA a xs)[i]?=some [.int ((a+i:Nat):Int),d]
 | _::_,a,0,_,h=>by simp at h;subst h;rfl
 | _::r,a,i+1,d,h=>by
  have:=iL r (a+1) i d (h)
  simp only [gv,gX,this]
  congr 4;lia
theorem vB {Φ:Str→List D→Option D} {Γ:Str→Option D} {m:St} {xs:List D} {ow:List Nat} {own:Nat→Addr} {G:Addr→Prop} {it':It} {a:Ex} {l:Addr} {vs:Array Value} {n:Nat} {as:List Addr} (hev:evE Φ Γ a m=some (.list xs)) (hm:a ∈ itOw ow it') (g:isOw ow a=false→∀ b ∈ l::as,G b) (w:isOw ow a=true→∀ b ∈ l::as,b=ownA own a) :
 (G l∧∃ vs' n',listObj vs n=listObj vs' n')∨∃ i,Ex.v i ∈ itOw ow it'∧ow.contains i=true∧l=own i∧∃ xs,m[i]?=some (some (.list xs)):=by
 cases hi:isOw ow a with
 | false=>exact .inl ⟨g hi l (.head _),_,_,rfl⟩
 | true=>
  refine byG fun X_ g_=>?_
  obtain ⟨i,rfl,hc⟩:=m9 hi
  refine g_ ?_
  exact .inr ⟨i,hm,hc,w hi l (.head _),_,evV hev⟩
set_option tactic.hygienic true in
theorem su {f x y:Str} {pf px py pt pos:Pos} {k0:Nat} {e:PySem.Expr} {a:Ex} (hf:f = "enumerate") (hk:c.kind f=some .globalImplicit) (hs:isStar e=false) (ha:P.SE r c e a) :
 P.SI r c (.Tuple [.Name x px,.Name y py] k0 pt) [x,y] (.Call (.Name f pf) [e] [] pos) (.enum a):=by
 intro A env s m ow own G items p hok hev
 simp only [tO] at hok
 rw [mr] at hev
 refine aa hev fun dx e1 hev=>?_
 obtain ⟨xs,e2,rfl⟩:=ag hev
 rw [lq e2] at e1
 subst hf
 refine PyProof.Rows.Call_ (fC p hk (by decide +kernel) (by decide +kernel) (cI (by decide +kernel)) fY ?_)
 refine PySem.Pv.callWith_type1 ?_ (an hs _ env) rfl
 refine PyProof.Rows.args_cons (SE.us ha p hok e1 fun v s1 k1 as rd g fl fr1 w=>?_) (an hs _ env)
 refine PyProof.Rows.args_nil ?_
 cases rd using Rd.listE with
 | @mk l vs n as' ho hz ra=>
  refine call_enumerate_1 ho fun h' he hit hsz hk=>?_
  refine wpAny_pyIter_enum he ?_
  have hlt:=Heap.lt_size ho
  have hlen:=ra.length
  simp only [Array.length_toList] at hlen
  have W:=Turns.ofWalksU (P.prog |> fun o_=>p.room.hd) (WalksT.enumerate (prog:=P.prog) (w:=P.w) (A:=A) p.room.hd (s1.heap.objs.size+1) s1.heap.objs.size l (Nat.succ_ne_self _) (Nat.ne_of_lt (Nat.lt_succ_of_lt hlt)) (Nat.ne_of_lt hlt) vs).toU
   (fun i vals ⟨t,x,_,e⟩=>⟨_,_,e⟩) x y px py pt k0
  rw [hlen,← fF xs 0] at W
  refine ⟨s1,_,_,_,_,_,rfl,⟨k1,Kp.heap s1 h' hk,W,⟨⟨_,he⟩,hit,⟨_,(hk l _ ho),rfl,_,rfl⟩⟩,?_,?_,?_,?_,?_⟩⟩
  ·intro b hb
   rcases List.mem_cons.mp hb with rfl | hb
   ·exact aO (Nat.le_succ _)
   ·rw [List.mem_singleton.mp hb];exact aO (Nat.le_refl _)
  ·rintro i h ⟨⟨old,he⟩,⟨o,ho,hc,hd⟩,_⟩ b hb
   rcases List.mem_cons.mp hb with rfl | hb
   ·exact ⟨_,he,fun o_=>by simp,fun vs n e=>(by have:=congrArg Obj.data e;cases this),fun vs n e=>(by have:=congrArg Obj.data e;cases this)⟩
   ·rw [List.mem_singleton.mp hb]
    exact ⟨o,ho,fun o_=>by rw [hc];decide,fun vs n e=>(by rw [e] at hd;cases hd),fun vs n e=>(by rw [e] at hd;cases hd)⟩
  ·intro b hb
   rcases List.mem_cons.mp hb with rfl | hb
   ·exact ⟨_,he⟩
   ·rcases List.mem_cons.mp hb with rfl | hb
    ·obtain ⟨o,e,_⟩:=hit;exact ⟨o,e⟩
    ·rw [List.mem_singleton.mp hb];exact ⟨_,(hk l _ ho)⟩
  ·intro b hb
   rcases List.mem_cons.mp hb with rfl | hb
   ·exact .inl (aO (Nat.le_succ _))
   ·rcases List.mem_cons.mp hb with rfl | hb
    ·exact .inl (aO (Nat.le_refl _))
    ·rw [List.mem_singleton.mp hb]
     exact .inr ⟨_,ho,.inr (vB e1 (.head _) g w)⟩
  ·rintro i l' hi ⟨t,x,hx,hv⟩
   have hv':l'=[.int i t,x]:=by exact congrArg Array.toList hv
   subst hv'
   refine byG fun X_ g_=>?_
   obtain ⟨d,bs,ed,rdx,hb⟩:=ra.getV (k:=i) (by simpa using hx)
   refine g_ ?_
   refine ⟨_,[]++(bs++[]),iL xs 0 i d ed,.cons ?_ (.cons rdx .nil),fun b mb=>?_⟩
   ·simpa using Rd.int (H:=P.H) (h:=s1.heap) (i:Int) t
   ·exact ((Rd.list ho hz ra).innG (q:=isOw ow a) g fl) b (hb b (by simpa using mb))
end
end Mine
set_option tactic.hygienic false
namespace Mine
open PySem
section
variable {P:Pk} {r:Nat}
set_option tactic.hygienic true in
theorem iM {c:TC} {f:PySem.Expr→Option Ex} (hf:∀ e e',f e=some e'→P.SE r c e e'∧P.ST r c e e'):∀ {es:List PySem.Expr} {es':Exs},trEs f es=some es'→SEL P r c es es':=by
 intro es
 induction es with
 | nil=>
  intro es' h
  simp only [tE,Option.some.injEq] at h;subst h;exact .nil
 | cons e es ih_=>
  intro es' h
  simp only [tF] at h
  split at h
  ·cases h
  ·rename_i hs
   refine aa h fun a e1 h=>?_
   obtain ⟨b,e2,rfl⟩:=ag h
   exact .cons (by simpa using hs) (hf _ _ e1).1 (hf _ _ e1).2 (ih_ e2)
theorem qW {c:TC} {f:PySem.Expr→Option Ex} (hf:∀ e e',f e=some e'→P.SE r c e e'∧P.ST r c e e') {o:Option PySem.Expr} {o':Exo} (h:trO f o=some o'):SEO P r c o o':=by
 cases o with
 | none=>simp only [vg,Option.some.injEq] at h;subst h;trivial
 | some e=>
  simp only [vh] at h
  obtain ⟨a,e1,rfl⟩:=ag h
  exact (hf _ _ e1).1
theorem fG {c:TC} {g:Str} (h:glob c g=true):c.kind g=some .globalImplicit∧g ≠ ("__debug__" : Str):=by
 unfold glob at h
 simpa using h
theorem dW {q:Bool} {α:Type} {a:Option α} {b:α} (h:(if q then none else a)=some b):q=false∧a=some b:=by
 cases q with
 | true=>cases h
 | false=>exact ⟨rfl,h⟩
theorem bj {e:PySem.Expr} {x:Str} (h:dQ e=some x):∃ p,e = .Name x p:=
 eZ (G:=fun e=>∃ p,e = .Name x p) h (fun o_ p h=>⟨p,Option.some.inj h ▸ rfl⟩) fun h=>nomatch h
theorem dA {e:PySem.Expr} {g:Str} {args:List PySem.Expr} (h:ip e=some (g,args)):∃ p q,e = .Call (.Name g p) args [] q:=by
 refine gz (G:=fun e=>∃ p q,e = .Call (.Name g p) args [] q) h (fun fn as kws pos h=>?_) fun h=>nomatch h
 have q:=aN h
 refine (Option.map_eq_some_iff.mp q.2).elim fun g' w=>(bj w.1).elim fun p z=>?_
 rw [z,List.isEmpty_iff.mp q.1,(Prod.mk.inj w.2).1,(Prod.mk.inj w.2).2]
 exact ⟨_,_,rfl⟩
theorem nr {e:PySem.Expr} {q:Option PySem.Expr × Option PySem.Expr} (h:slOf e=some q):∃ p,e = .Slice q.1 q.2 none p:=by
 refine oR (G:=fun e=>∃ p,e = .Slice q.1 q.2 none p) h (fun lo hi st pos h=>?_) fun h=>nomatch h
 have w:=aN h
 rw [Option.isNone_iff_eq_none.mp w.1,← Option.some.inj w.2]
 exact ⟨_,rfl⟩
set_option tactic.hygienic true in
theorem dX {es:List PySem.Expr} {xs:List Str} (h:gF es=some xs):∃ x y p q,es=[.Name x p,.Name y q]∧xs=[x,y]∧x ≠ y:=by
 match es with
 | []=>cases h
 | [_]=>cases h
 | _::_::_::_=>cases h
 | [a,b]=>
  refine aa h fun x e1 h1=>?_
  refine aa h1 fun y e2 h2=>?_
  clear h h1
  obtain ⟨p,rfl⟩:=bj e1
  obtain ⟨q,rfl⟩:=bj e2
  split at h2
  ·cases h2
  ·rename_i hne
   cases h2
   exact ⟨x,y,p,q,rfl,rfl,by simpa using hne⟩
theorem dj {t:PySem.Expr} {xs:List Str} (h:cU t=some xs):(∃ x p,t = .Name x p∧xs=[x])∨∃ x y p q k o,t = .Tuple [.Name x p,.Name y q] k o∧xs=[x,y]∧x ≠ y:=
 eZ (G:=fun t=>(∃ x p,t = .Name x p∧xs=[x])∨∃ x y p q k o,t = .Tuple [.Name x p,.Name y q] k o∧xs=[x,y]∧x ≠ y) h (fun x p h=>.inl ⟨x,p,rfl,(Option.some.inj h).symm⟩) fun h=>
 gy (G:=fun t=>(∃ x p,t = .Name x p∧xs=[x])∨∃ x y p q k o,t = .Tuple [.Name x p,.Name y q] k o∧xs=[x,y]∧x ≠ y) h (fun es k o h=>.inr ((dX h).imp fun x=>Exists.imp fun y=>Exists.imp fun p=>Exists.imp fun q w=>⟨k,o,congrArg (PySem.Expr.Tuple · k o) w.1,w.2⟩)) fun h=>nomatch h
theorem f0 {t:PySem.Expr} {xs:List Str} (h:cU t=some xs):xs.Nodup:=by
 rcases dj h with ⟨x,p,_,rfl⟩ | ⟨x,y,p,q,k,o,_,rfl,hne⟩
 ·simp
 ·simp [hne]
set_option tactic.hygienic true in
theorem ue {c:TC} {f:PySem.Expr→Option Ex} (hf:∀ e e',f e=some e'→P.SE r c e e'∧P.ST r c e e') {t e:PySem.Expr} {xs:List Str} {it':It} (ht:cU t=some xs) (h:trIt f c xs e=some it'):P.SI r c t xs e it':=by
 rcases dj ht with ⟨x,p,rfl,rfl⟩ | ⟨x,y,p,q,k,o,rfl,rfl,hne⟩
 ·replace h:rX f c e=some it':=h
  unfold rX at h
  cases hr:mw c e with
  | none=>
   rw [hr] at h
   obtain ⟨a,e1,rfl⟩:=ag h
   exact pj (hf _ _ e1).1
  | some args=>
   rw [hr] at h
   obtain ⟨⟨g,args'⟩,e0,hr2⟩:=cf hr
   clear hr
   split at hr2
   case isFalse=>cases hr2
   rename_i hg
   simp only [Option.some.injEq] at hr2
   subst hr2
   simp only [Bool.and_eq_true,beq_iff_eq] at hg
   obtain ⟨p1,q1,rfl⟩:=dA e0
   replace h:ir f args'=some it':=h
   cases args' with
   | nil=>cases h
   | cons x1 l_0=>
    cases l_0 with
    | nil=>
     replace h:(if isStar x1 then none else (f x1).map It.range1)=some it':=h
     split at h
     ·cases h
     ·rename_i hs
      obtain ⟨a,e1,rfl⟩:=ag h
      exact nf hg.2 (fG hg.1).1 (by simpa using hs) (hf _ _ e1).1
    | cons y1 l_1=>
     cases l_1 with
     | nil=>
      replace h:(if isStar x1||isStar y1 then none else (f x1).bind fun a=>(f y1).map fun b=>It.range2 a b)=some it':=h
      split at h
      ·cases h
      ·rename_i hs
       simp only [Bool.or_eq_true,not_or,Bool.not_eq_true] at hs
       refine aa h fun a e1 h=>?_
       obtain ⟨b,e2,rfl⟩:=ag h
       exact ng hg.2 (fG hg.1).1 hs.1 hs.2 (hf _ _ e1).1 (hf _ _ e2).1
     | cons=>cases h
 ·replace h:tG f c e=some it':=h
  obtain ⟨⟨g,args⟩,e0,h⟩:=cf h
  obtain ⟨p1,q1,rfl⟩:=dA e0
  cases args with
  | nil=>cases h
  | cons x1 l_0=>
   cases l_0 with
   | nil=>
    replace h:(if glob c g&&g == ("enumerate" : Str)&&!isStar x1 then (f x1).map It.enum else none)=some it':=h
    split at h
    ·rename_i hg
     simp only [Bool.and_eq_true,beq_iff_eq,Bool.not_eq_true'] at hg
     obtain ⟨a,e1,rfl⟩:=ag h
     exact su hg.1.2 (fG hg.1.1).1 hg.2 (hf _ _ e1).1
    ·cases h
   | cons y1 l_1=>
    cases l_1 with
    | nil=>
     cases h
    | cons=>cases h
theorem both {c:TC} {e:PySem.Expr} {e':Ex} (h:P.SE r c e e') (hp:∀ env:Env,isTrue e env (eval e env)=(do let v ← eval e env;standAt e.pos;holding [v] (truthy v))):P.SE r c e e'∧P.ST r c e e':=⟨h,o6 h hp⟩
set_option tactic.hygienic true in
theorem eQ {gcs:Str→Bool} {c:TC} {x:Str} {p:Pos} {e':Ex} (h:iq gcs c x=some e'):P.SE r c (.Name x p) e':=by
 unfold iq at h
 split at h
 ·cases h
 ·rename_i hd
  have hd:x ≠ ("__debug__" : Str):=fun q=>hd (beq_iff_eq.mpr q)
  cases hk:c.kind x with
  | none=>rw [hk] at h;cases h
  | some k=>
   rw [hk] at h
   cases k<;>first
    | (cases h;done)
    | (obtain ⟨i,e1,rfl⟩:=ag h;exact f9 hd (.inl hk) e1)
    | (obtain ⟨i,e1,rfl⟩:=ag h;exact f9 hd (.inr hk) e1)
    | (obtain ⟨_,rfl⟩:=aJ h;exact vx hd hk)
set_option tactic.hygienic true in
theorem lD {c:TC} {f:PySem.Expr→Option Ex} (hf:∀ e e',f e=some e'→P.SE r c e e'∧P.ST r c e e') {g:Str} {x:PySem.Expr} {p q:Pos} {e':Ex} (hg:c.kind g=some .globalImplicit) (h:trC1 f c g x=some e'):P.SE r c (.Call (.Name g p) [x] [] q) e':=by
 unfold trC1 at h
 split at h
 ·cases h
 ·rename_i hs
  have hs:=Bool.eq_false_iff.mpr hs
  refine aa h fun b e1 h=>?_
  obtain ⟨a,e2,rfl⟩:=ag h
  have sa:=(hf _ _ e2).1
  unfold b1Of at e1
  split at e1
  ·rename_i q;cases e1;exact t6 (by simpa using q) hg hs sa
  split at e1
  ·rename_i q;cases e1;exact t7 (by simpa using q) hg hs sa
  split at e1
  ·rename_i q;cases e1;exact t8 (by simpa using q) hg hs sa
  split at e1
  ·rename_i q;cases e1;exact sn (by simpa using q) hg hs sa
  split at e1
  ·rename_i q;cases e1;exact pi (by simpa using q) hg hs sa
  split at e1
  ·rename_i q;cases e1;exact t9 (by simpa using q) hg hs sa
  ·cases e1
set_option tactic.hygienic true in
theorem iN {ff:Str→Option Bool} (hΦ:P.FnOk r) (hff:∀ g fr,ff g=some fr→P.fr g=some fr∧∃ q,P.defs g=some q) {c:TC} {f:PySem.Expr→Option Ex} (hf:∀ e e',f e=some e'→P.SE r c e e'∧P.ST r c e e') {g:Str} {args:List PySem.Expr} {p q:Pos} {e':Ex} (h:ku ff f c g args=some e'):P.SE r c (.Call (.Name g p) args [] q) e':=by
 unfold ku at h
 split at h
 ·cases h
 rename_i hg
 have hg:=fG (by simpa using hg)
 split at h
 ·rename_i hi
  cases args with
  | nil=>cases h
  | cons a l_0=>
   cases l_0 with
   | nil=>cases h
   | cons t l_1=>
    cases l_1 with
    | nil=>
     obtain ⟨t',e0,h1⟩:=cf h
     clear h
     obtain ⟨pt,rfl⟩:=bj e0
     split at h1
     case isFalse=>cases h1
     ·rename_i ht
      simp only [Bool.and_eq_true,Bool.not_eq_true'] at ht
      refine aa h1 fun ty e1 h=>?_
      obtain ⟨b,e2,rfl⟩:=ag h
      exact ub (by simpa using hi) hg.1 e1 (fG ht.1).1 ht.2 (hf _ _ e2).1
    | cons=>cases h
 ·cases hfr:ff g with
  | some fr=>
   rw [hfr] at h
   simp only at h
   split at h
   ·rename_i hl
    obtain ⟨es,e1,rfl⟩:=ag h
    simp only [Bool.and_eq_true,Bool.not_eq_true',List.isEmpty_eq_false_iff] at hl
    exact so hΦ (hff _ _ hfr).1 hg.1 hg.2 hl.2 (iM hf e1) (hff _ _ hfr).2
   ·cases h
  | none=>
   rw [hfr] at h
   cases args with
   | nil=>cases h
   | cons x l_0=>
    cases l_0 with
    | nil=>exact lD hf hg.1 h
    | cons=>cases h
theorem jC {c:TC} {f:PySem.Expr→Option Ex} (hf:∀ e e',f e=some e'→P.SE r c e e'∧P.ST r c e e') {ifs:List PySem.Expr} {b:Exo} (h:rZ f ifs=some b):SIfs P r c ifs b:=by
 match ifs,h with
 | [],h=>cases h;trivial
 | [q],h=>
  obtain ⟨a,e1,rfl⟩:=ag h
  exact (hf _ _ e1).2
 | _::_::_,h=>cases h
set_option tactic.hygienic true in
theorem eR {fr:TC→PySem.Expr→Option Ex} (hf:∀ c e e',fr c e=some e'→P.SE r c e e'∧P.ST r c e e') {c:TC} {elt:PySem.Expr} {scope:Scope} {gens:List Comprehension} {e':Ex} (h:mx fr c elt scope gens=some e') :
 ∃ tgt iter ifs xs a it b,gens=[⟨tgt,iter,ifs,0⟩]∧isSet iter=false∧xs.Nodup∧CompOk scope c xs∧P.SI r c tgt xs iter it∧P.SE r ⟨c.names++xs,kindC scope c.kind⟩ elt a∧SIfs P r ⟨c.names++xs,kindC scope c.kind⟩ ifs b∧e' = .comp a it b:=by
 match gens,h with
 | [],h=>cases h
 | _::_::_,h=>cases h
 | [⟨tgt,iter,ifs,as⟩],h=>
  replace h:(if as != 0||isSet iter||c.names.contains (".0" : Str) then none else (cU tgt).bind fun xs=>
   if kq scope c.kind xs&&!xs.contains (".0" : Str) then (trIt (fr c) c xs iter).bind fun it=>(fr ⟨c.names++xs,kindC scope c.kind⟩ elt).bind fun a=>
    (rZ (fr ⟨c.names++xs,kindC scope c.kind⟩) ifs).map fun b=>Ex.comp a it b else none)=some e':=h
  split at h
  ·cases h
  ·rename_i hs
   simp only [Bool.or_eq_true,not_or,Bool.not_eq_true,bne_eq_false_iff_eq] at hs
   obtain ⟨⟨h0,h1⟩,h2⟩:=hs
   subst h0
   refine aa h fun xs e1 h=>?_
   split at h
   ·rename_i hc
    simp only [Bool.and_eq_true,Bool.not_eq_true'] at hc
    refine byG fun X_ g_=>?_
    refine aa h fun it e2 h=>?_
    refine aa h fun a e3 h=>?_
    obtain ⟨b,e4,rfl⟩:=ag h
    refine g_ ?_
    exact ⟨tgt,iter,ifs,xs,a,it,b,rfl,h1,f0 e1,nj hc.1 h2 hc.2,ue (hf c) e1 e2,(hf _ _ _ e3).1,jC (hf _) e4,rfl⟩
   ·cases h
theorem fH {e:PySem.Expr} {q:Str × Str × Pos} (h:kt e=some q):∃ p,e = .Attribute (.Name q.1 p) q.2.1 q.2.2:=
 oQ (G:=fun e=>∃ p,e = .Attribute (.Name q.1 p) q.2.1 q.2.2) h (fun o nm apos h=>(Option.map_eq_some_iff.mp h).elim fun x w=>(bj w.1).elim fun p z=>⟨p,z ▸ w.2 ▸ rfl⟩) fun h=>nomatch h
set_option tactic.hygienic true in
theorem lE {fn:PySem.Expr} {args:List PySem.Expr} {kws:List Keyword} {cpos:Pos} {q:Str × PySem.Expr} (h:oT fn args kws cpos=some q):∃ px apos,fn = .Attribute (.Name q.1 px) "index" apos∧args=[q.2]∧kws=[]∧isStar q.2=false∧(apos.endLine == cpos.line)=true:=by
 refine aa h fun t e1 h=>?_
 obtain ⟨p,rfl⟩:=fH e1
 obtain ⟨hc,h⟩:=aN h
 rw [Bool.and_eq_true,Bool.and_eq_true,beq_iff_eq,List.isEmpty_iff] at hc
 obtain ⟨⟨h1,h2⟩,h3⟩:=hc
 cases args with
 | nil=>cases h
 | cons x l=>
  cases l with
  | cons=>cases h
  | nil=>
   replace h:(if isStar x then none else some (t.1,x))=some q:=h
   split at h
   ·cases h
   ·rename_i hx
    cases h
    exact ⟨p,t.2.2,by rw [h1],rfl,h2,by simpa using hx,h3⟩
theorem jD {c:TC} {f:PySem.Expr→Option Ex} (ih:∀ e e',f e=some e'→P.SE r c e e'∧P.ST r c e e') {l:PySem.Expr} {ops:List CmpOp} {rs:List PySem.Expr} {e':Ex} {p:Pos} (h:tH f l ops rs=some e'):P.SE r c (.Compare l ops rs p) e'∧P.ST r c (.Compare l ops rs p) e':=by
 cases ops with
 | nil=>cases h
 | cons o1 ops=>
  cases ops with
  | nil=>
   cases rs with
   | nil=>cases h
   | cons rr rs=>
    cases rs with
    | cons=>cases h
    | nil=>
     replace h:(if isSet rr then none else (f l).bind fun a=>(f rr).map fun b=>Ex.cmp o1 a b)=some e':=h
     have hs:=dW h
     refine aa hs.2 fun a e1 h=>?_
     obtain ⟨b,e2,rfl⟩:=ag h
     exact ⟨jt hs.1 (ih _ _ e1).1 (ih _ _ e2).1,ju hs.1 (ih _ _ e1).1 (ih _ _ e2).1⟩
  | cons o2 ops=>
   cases ops with
   | cons=>cases h
   | nil=>
    cases rs with
    | nil=>cases h
    | cons r1 rs=>
     cases rs with
     | nil=>cases h
     | cons r2 rs=>
      cases rs with
      | cons=>cases h
      | nil=>
       replace h:(if lastMarks [o1,o2] [r1,r2] then none else (f l).bind fun a=>(f r1).bind fun b=>(f r2).map fun d=>Ex.cmp2 o1 o2 a b d)=some e':=h
       have hs:=dW h
       refine aa hs.2 fun a e1 h=>?_
       refine aa h fun b e2 h=>?_
       obtain ⟨d,e3,rfl⟩:=ag h
       exact ⟨sj hs.1 (ih _ _ e1).1 (ih _ _ e2).1 (ih _ _ e3).1,sk hs.1 (ih _ _ e1).1 (ih _ _ e2).1 (ih _ _ e3).1⟩
theorem jE {c:TC} {f:PySem.Expr→Option Ex} (ih:∀ e e',f e=some e'→P.SE r c e e'∧P.ST r c e e') {ks:List (Option PySem.Expr)} {vs:List PySem.Expr} {e':Ex} {p:Pos} (h:tI f ks vs=some e'):P.SE r c (.Dict ks vs p) e':=by
 cases ks with
 | nil=>
  cases vs with
  | nil=>exact Option.some.inj h ▸ sp
  | cons=>cases h
 | cons k ks=>
  cases ks with
  | cons=>cases h
  | nil=>
   cases vs with
   | nil=>cases h
   | cons v vs=>
    cases vs with
    | cons=>cases h
    | nil=>
     cases k with
     | none=>cases h
     | some k=>
      refine aa (show ((f k).bind fun a=>(f v).map fun b=>Ex.dic (.cons a .nil) (.cons b .nil))=some e' from h) fun a e1 h1=>?_
      obtain ⟨b,e2,rfl⟩:=ag h1
      exact uc (ih _ _ e1).1 (ih _ _ e2).1
theorem jF {c:TC} {f:PySem.Expr→Option Ex} (ih:∀ e e',f e=some e'→P.SE r c e e'∧P.ST r c e e') {v i:PySem.Expr} {e':Ex} {p:Pos} (h:r5 f v i=some e'):P.SE r c (.Subscript v i p) e':=by
 unfold r5 at h
 cases hq:slOf i with
 | some q=>
  rw [hq] at h
  refine aa h fun a e1 h=>?_
  refine aa h fun l e2 h=>?_
  obtain ⟨b,e3,rfl⟩:=ag h
  refine (nr hq).elim fun pp z=>?_
  rw [z]
  exact vA (ih _ _ e1).1 (qW ih e2) (qW ih e3)
 | none=>
  rw [hq] at h
  have hs:=dW h
  refine aa hs.2 fun a e1 h=>?_
  obtain ⟨b,e2,rfl⟩:=ag h
  exact tZ hs.1 (ih _ _ e1).1 (ih _ _ e2).1
theorem lF {c:TC} {e:PySem.Expr} {a:Option Ex} (ih:∀ e',a=some e'→P.SE r c e e'∧P.ST r c e e') {op:UnaryOp} {e':Ex} {p:Pos} (h:trUn op a=some e'):P.SE r c (.UnaryOp op e p) e'∧P.ST r c (.UnaryOp op e p) e':=by
 cases op
 case USub=>
  obtain ⟨a,e1,rfl⟩:=ag (show a.map Ex.neg=some e' from h)
  exact both (tY (ih _ e1).1) (fun o_=>rfl)
 case Not=>
  obtain ⟨a,e1,rfl⟩:=ag (show a.map Ex.not=some e' from h)
  exact ⟨tW (ih _ e1).1,tX (ih _ e1).2⟩
 all_goals cases h
theorem jG {c:TC} (ff:Str→Option Bool) (gcs:Str→Bool) (hΦ:P.FnOk r) (hff:∀ g fr,ff g=some fr→P.fr g=some fr∧∃ q,P.defs g=some q) {f:PySem.Expr→Option Ex} (ih:∀ e e',f e=some e'→P.SE r c e e'∧P.ST r c e e') {fn:PySem.Expr} {args:List PySem.Expr} {kws:List Keyword} {p:Pos} {e':Ex}
 (h:(match oT fn args kws p with
  | some q=>(iq gcs c q.1).bind fun a=>(f q.2).map fun b=>Ex.index a b
  | none=>(ip (.Call fn args kws p)).bind fun q=>ku ff f c q.1 q.2)=some e'):P.SE r c (.Call fn args kws p) e':=by
 cases hq:oT fn args kws p with
 | some q=>
  rw [hq] at h
  obtain ⟨px,apos,rfl,rfl,rfl,h1,h2⟩:=lE hq
  refine aa h fun a e1 h=>?_
  obtain ⟨b,e2,rfl⟩:=ag h
  exact pc (fun o_=>rfl) h2 h1 (eQ (gcs:=gcs) e1) (ih _ _ e2).1
 | none=>
  rw [hq] at h
  refine aa h fun q e0 h=>?_
  refine (dA e0).elim fun p1 z=>z.elim fun q1 e1=>?_
  rw [e1]
  exact iN hΦ hff ih h
theorem lG (ff:Str→Option Bool) (gcs:Str→Bool) (hΦ:P.FnOk r) (hff:∀ g fr,ff g=some fr→P.fr g=some fr∧∃ q,P.defs g=some q) {f:TC→PySem.Expr→Option Ex} (ih:∀ c e e',f c e=some e'→P.SE r c e e'∧P.ST r c e e') (c:TC) (e:PySem.Expr) (e':Ex) (h:trE1 ff gcs f c e=some e'):P.SE r c e e'∧P.ST r c e e':=by
 refine oH (G:=fun e=>P.SE r c e e'∧P.ST r c e e') h (fun k a b h=>?_) fun h=>?_
 ·obtain ⟨d,e1,rfl⟩:=ag h
  exact both (jr e1) (fun o_=>rfl)
 refine eZ (G:=fun e=>P.SE r c e e'∧P.ST r c e e') h (fun x p h=>both (eQ (gcs:=gcs) h) (fun o_=>rfl)) fun h=>?_
 refine gy (G:=fun e=>P.SE r c e e'∧P.ST r c e e') h (fun es a b h=>?_) fun h=>?_
 ·have w:=aN h
  obtain ⟨es,e1,rfl⟩:=ag w.2
  exact both (o7 w.1 (iM (ih c) e1)) (fun o_=>rfl)
 refine oI (G:=fun e=>P.SE r c e e'∧P.ST r c e e') h (fun es a h=>?_) fun h=>?_
 ·have w:=aN h
  obtain ⟨es,e1,rfl⟩:=ag w.2
  exact both (sm w.1 (iM (ih c) e1)) (fun o_=>rfl)
 refine oJ (G:=fun e=>P.SE r c e e'∧P.ST r c e e') h (fun l op rr p h=>?_) fun h=>?_
 ·refine aa (aN h).2 fun a e1 h=>?_
  obtain ⟨b,e2,rfl⟩:=ag h
  exact both (o4 (ih c _ _ e1).1 (ih c _ _ e2).1) (fun o_=>rfl)
 refine oK (G:=fun e=>P.SE r c e e'∧P.ST r c e e') h (fun op x p h=>lF (ih c x) h) fun h=>?_
 refine oL (G:=fun e=>P.SE r c e e'∧P.ST r c e e') h (fun op vs p h=>?_) fun h=>?_
 ·obtain ⟨es,e1,rfl⟩:=ag (dW h).2
  exact ⟨mU (iM (ih c) e1),mV (iM (ih c) e1)⟩
 refine oM (G:=fun e=>P.SE r c e e'∧P.ST r c e e') h (fun l ops rs p h=>jD (ih c) h) fun h=>?_
 refine kn (G:=fun e=>P.SE r c e e'∧P.ST r c e e') h (fun v i p h=>both (jF (ih c) h) (fun o_=>rfl)) fun h=>?_
 refine gz (G:=fun e=>P.SE r c e e'∧P.ST r c e e') h (fun fn args kws p h=>both (jG ff gcs hΦ hff (ih c) h) (fun o_=>rfl)) fun h=>?_
 refine oO (G:=fun e=>P.SE r c e e'∧P.ST r c e e') h (fun elt gens scope p h=>?_) fun h=>?_
 ·refine byG fun X_ g_=>?_
  obtain ⟨tgt,iter,ifs,xs,a,it,b,rfl,h1,h2,h3,h4,h5,h6,rfl⟩:=eR ih h
  refine g_ ?_
  exact both (nq h1 h2 h3 h4 h5 h6) (fun o_=>rfl)
 exact oP (G:=fun e=>P.SE r c e e'∧P.ST r c e e') h (fun ks vs p h=>both (jE (ih c) h) (fun o_=>rfl)) fun h=>nomatch h
theorem bn (ff:Str→Option Bool) (gcs:Str→Bool) (hΦ:P.FnOk r) (hff:∀ g fr,ff g=some fr→P.fr g=some fr∧∃ q,P.defs g=some q) (n:Nat) :
 ∀ (c:TC) (e:PySem.Expr) (e':Ex),trE ff gcs n c e=some e'→P.SE r c e e'∧P.ST r c e e':=by
 induction n with
 | zero=>intro c e e' h;cases h
 | succ n ih=>exact lG ff gcs hΦ hff ih
end
end Mine
set_option tactic.hygienic false
namespace Mine
open PySem
structure Inv (P:Pk) (r:Nat) (c:TC) (A:Around) (env:Env) (ow:List Nat) (sc:Shared) (as:List Addr) (s:Shared) (m:St) (own:Nat→Addr) (G:Addr→Prop):Prop where
 room:Room A r
 gpc:P.GP sc.heap
 er:EnvR P.H c env ow own G s.heap m
 new:∀ a,s.heap.get? a=none→G a
 kp:Kp sc s
 gsub:∀ a,G a→a ∈ as∨sc.heap.get? a=none
 ns:∃ mm,s.heap.Ns env.locals mm
 cl:∀ x a,env.cells.lookup x=some a→∃ v,s.heap.IsCell a v
 inj:∀ x y a,env.cells.lookup x=some a→env.cells.lookup y=some a→x=y
 gL : ¬ G env.locals
 gC:∀ x a,env.cells.lookup x=some a→¬ G a
 nL:sc.heap.get? env.locals=none
 nC:∀ x a,env.cells.lookup x=some a→sc.heap.get? a=none
 oG:∀ i d,ow.contains i=true→m[i]?=some (some d)→noList d=false→¬ G (own i)∧sc.heap.get? (own i)=none∧own i ≠ env.locals∧(∀ x,env.cells.lookup x ≠ some (own i))∧∃ o,s.heap.get? (own i)=some o∧((∃ vs n,o=listObj vs n)∨∃ es n,o=dictObj es n)
 oD:∀ i j d d',i ≠ j→ow.contains i=true→ow.contains j=true→m[i]?=some (some d)→m[j]?=some (some d')→noList d=false→noList d'=false→own i ≠ own j
structure Stp (env:Env) (ow tch:List Nat) (wr:List Addr) (s:Shared) (m:St) (own:Nat→Addr) (G:Addr→Prop) (s':Shared) (m':St) (own':Nat→Addr) (G':Addr→Prop):Prop where
 live:∀ b,s'.heap.get? b=none→s.heap.get? b=none
 keep:∀ b o,b ∉ wr→s.heap.get? b=some o→b ≠ env.locals→(∀ x,env.cells.lookup x ≠ some b)→(∀ i d,i ∈ tch→ow.contains i=true→m[i]?=some (some d)→noList d=false→b ≠ own i)→s'.heap.get? b=some o
 keepG:∀ a o,s.heap.get? a=some o→G a→G' a
 ownS:∀ i d,ow.contains i=true→m'[i]?=some (some d)→noList d=false→(own' i=own i∧∃ d0,m[i]?=some (some d0)∧noList d0=false)∨s.heap.get? (own' i)=none
 same:∀ i,i ∉ tch→own' i=own i∧m'[i]?=m[i]?
theorem Stp.refl (env:Env) (ow tch:List Nat) (wr:List Addr) (s:Shared) (m:St) (own:Nat→Addr) (G:Addr→Prop):Stp env ow tch wr s m own G s m own G:=
 ⟨fun _ h=>h,fun _ _ _ h _ _ _=>h,fun _ _ _ h=>h,fun i d _ h1 h2=>.inl ⟨rfl,d,h1,h2⟩,fun _ _=>⟨rfl,rfl⟩⟩
theorem Stp.weaken {env:Env} {ow tch tch':List Nat} {wr wr':List Addr} {s s':Shared} {m m':St} {own own':Nat→Addr} {G G':Addr→Prop} (h:Stp env ow tch wr s m own G s' m' own' G') (hs:∀ i ∈ tch,i ∈ tch') (hw:∀ i ∈ wr,i ∈ wr'):Stp env ow tch' wr' s m own G s' m' own' G':=
 ⟨h.live,fun b o hb e h1 h2 h3=>h.keep b o (fun q=>hb (hw b q)) e h1 h2 fun i d hi=>h3 i d (hs i hi),h.keepG,h.ownS,fun i hi=>h.same i fun q=>hi (hs i q)⟩
theorem Stp.trans {env:Env} {ow t1 t2:List Nat} {wr:List Addr} {s s' s'':Shared} {m m' m'':St} {own own' own'':Nat→Addr} {G G' G'':Addr→Prop} (h:Stp env ow t1 wr s m own G s' m' own' G') (k:Stp env ow t2 wr s' m' own' G' s'' m'' own'' G'') :
 Stp env ow (t1++t2) wr s m own G s'' m'' own'' G'' where
 live:=fun b e=>h.live b (k.live b e)
 keep:=fun b o hb e h1 h2 h3=>by
  refine k.keep b o hb (h.keep b o hb e h1 h2 fun i d hi=>h3 i d (List.mem_append_left _ hi)) h1 h2 fun i d hi ho hm hd=>?_
  rcases h.ownS i d ho hm hd with ⟨q,d0,q1,q2⟩ | q
  ·rw [q];exact h3 i d0 (List.mem_append_right _ hi) ho q1 q2
  ·rintro rfl;rw [e] at q;cases q
 keepG:=fun a o e g=>by
  cases q:s'.heap.get? a with
  | none=>rw [h.live a q] at e;cases e
  | some o'=>exact k.keepG a o' q (h.keepG a o e g)
 ownS:=fun i d ho hm hd=>by
  rcases k.ownS i d ho hm hd with ⟨q,d0,q1,q2⟩ | q
  ·rcases h.ownS i d0 ho q1 q2 with ⟨p,d1,p1,p2⟩ | p
   ·exact .inl ⟨q.trans p,d1,p1,p2⟩
   ·exact .inr (by rw [q];exact p)
  ·exact .inr (h.live _ q)
 same:=fun i hi=>by
  simp only [List.mem_append,not_or] at hi
  exact ⟨(k.same i hi.2).1.trans (h.same i hi.1).1,(k.same i hi.2).2.trans (h.same i hi.1).2⟩
theorem Stp.join {env:Env} {ow t1 t2 t:List Nat} {wr:List Addr} {s s' s'':Shared} {m m' m'':St} {own own' own'':Nat→Addr} {G G' G'':Addr→Prop} (h:Stp env ow t1 wr s m own G s' m' own' G') (k:Stp env ow t2 wr s' m' own' G' s'' m'' own'' G'') (h1:∀ i ∈ t1,i ∈ t) (h2:∀ i ∈ t2,i ∈ t) :
 Stp env ow t wr s m own G s'' m'' own'' G'':=(h.trans k).weaken (fun i hi=>(List.mem_append.mp hi).elim (h1 i) (h2 i)) fun _ q=>q
theorem Stp.kp {env:Env} {ow:List Nat} {s s':Shared} {m:St} {own:Nat→Addr} {G:Addr→Prop} (k:Kp s s') (tch:List Nat) (wr:List Addr):Stp env ow tch wr s m own G s' m own G:=
 ⟨fun _ h=>k.none h,fun b o _ h _ _ _=>k.get b o h,fun _ _ _ h=>h,fun i d _ h1 h2=>.inl ⟨rfl,d,h1,h2⟩,fun _ _=>⟨rfl,rfl⟩⟩
noncomputable def isC:D→Bool
 | .list _=>true
 | .dict _=>true
 | _=>false
theorem qX {d:D} (h:isC d=true):noList d=false:=by cases d<;>first | rfl | cases h
theorem Rd.top {H:D→Int} {h:Heap} {w:Value} {d:D} {as:List Addr} (r:Rd H h w d as) (hc:isC d=true):∃ a,w = .ref a∧a ∈ as:=by
 cases r<;>first | (cases hc;done) | exact ⟨_,rfl,.head _⟩
section
variable {P:Pk} {r:Nat} {c:TC} {A:Around} {env:Env} {ow:List Nat} {sc:Shared} {as:List Addr}
theorem Inv.pre {s:Shared} {m:St} {own:Nat→Addr} {G:Addr→Prop} (h:Inv P r c A env ow sc as s m own G):Pre P r c A env s m ow own G:=⟨h.room,h.gpc.keeps h.kp.get,h.er,h.new⟩
theorem Inv.keeps {s s':Shared} {m:St} {own:Nat→Addr} {G:Addr→Prop} (h:Inv P r c A env ow sc as s m own G) (k:Kp s s'):Inv P r c A env ow sc as s' m own G where
 room:=h.room
 gpc:=h.gpc
 er:=h.er.keeps k.get
 new:=fun a e=>h.new a (k.none e)
 kp:=h.kp.trans k
 gsub:=h.gsub
 ns:=h.ns.imp fun mm q=>q.keeps k.get
 cl:=fun x a e=>(h.cl x a e).imp fun v q=>q.keeps k.get
 inj:=h.inj
 gL:=h.gL
 gC:=h.gC
 nL:=h.nL
 nC:=h.nC
 oG:=fun i d h1 h2 h3=>(h.oG i d h1 h2 h3).imp id fun q=>q.imp id fun q=>q.imp id fun q=>q.imp id fun q=>q.imp fun o q=>q.imp (k.get _ _) id
 oD:=h.oD
theorem lH {names:List Str} {x y:Str} {i:Nat} (h:slotOf names x=some i) (k:slotOf names y=some i):x=y:=by
 have h2:=(bt k).2
 rw [((bt h).2)] at h2
 exact Option.some.inj h2
theorem ct {h:Heap} {C:Addr} {v:Option Value} (hn:h.IsCell C v):∀ o,h.get? C=some o→∀ vs n,o ≠ tupObj vs n:=by
 intro o e vs n q
 obtain ⟨o',e',d⟩:=hn
 rw [e] at e';cases e'
 rw [q] at d;cases d
theorem bP {m:St} {i:Nat} {d:D} (h:i < m.length):(setV m i d)[i]?=some (some d):=by
 simp [setV,h]
theorem ay {m:St} {i j:Nat} {d:D} (h:i ≠ j):(setV m i d)[j]?=m[j]?:=by
 simp [setV,h]
theorem cX {h:Heap} {L C:Addr} {mm:Str→Option Value} {v:Option Value} (hn:h.Ns L mm) (hc:h.IsCell C v):C ≠ L:=by
 rintro rfl
 obtain ⟨o,es,ep,e,d,_⟩:=hn
 obtain ⟨o',e',d'⟩:=hc
 rw [e] at e';cases e'
 rw [d] at d';cases d'
theorem nu {s:Shared} {m:St} {own:Nat→Addr} {G:Addr→Prop} {x:Str} {v:Value} (I:Inv P r c A env ow sc as s m own G) (hk:c.kind x=some .local∨c.kind x=some .cell) {Q:Shared→Prop}
 (h:∀ h' tk z,(z=env.locals∨∃ y,env.cells.lookup y=some z)→Heap.SameBut z s.heap h'→(∃ o,h'.get? z=some o)→(∀ o,s.heap.get? z=some o→∀ vs n,o ≠ tupObj vs n)→VarAt env h' x v→(∀ y w,y ≠ x→VarAt env s.heap y w→VarAt env h' y w) →
  (∃ mm,h'.Ns env.locals mm)→(∀ x a,env.cells.lookup x=some a→∃ v,h'.IsCell a v)→Q { s with heap:=h',toks:=tk }) :
 wpAny (model P.prog P.w) A (storeName env x v) (fun _ s'=>Q s') (fun _ _=>False) s:=by
 obtain ⟨mm,hn⟩:=I.ns
 rcases hk with hk | hk
 ·have hkx:env.kindOf x=some .local:=(I.er.kd x).trans hk
  refine wpAny_storeName_local hkx hn (fun h' hn' hs=>?_) (by rw [I.er.fn];rfl)
  refine h h' _ env.locals (.inl rfl) hs ?_ (bO hn) (.inl ⟨hkx,_,hn',by simp⟩) (fun y w hy q=>?_) ⟨_,hn'⟩ fun y a e=>?_
  ·obtain ⟨o,_,_,e,_⟩:=hn';exact ⟨o,e⟩
  ·rcases q with ⟨q1,m2,q2,q3⟩ | ⟨q1,cc,q2,q3⟩
   ·refine .inl ⟨q1,_,hn',?_⟩
    rw [if_neg hy]
    refine byG fun X_ g_=>?_
    obtain ⟨o,es,ep,e,dd,_,f⟩:=hn
    obtain ⟨o',es',ep',e',dd',_,f'⟩:=q2
    refine g_ ?_
    rw [e] at e';cases e';rw [dd] at dd';cases dd'
    rw [← f y,f' y];exact q3
   ·exact .inr ⟨q1,cc,q2,q3.sameBut hs (cX hn q3)⟩
  ·obtain ⟨w,q⟩:=I.cl y a e
   exact ⟨w,q.sameBut hs (cX hn q)⟩
 ·have hkx:env.kindOf x=some .cell:=(I.er.kd x).trans hk
  obtain ⟨cc,hc⟩:=I.er.cel x hkx
  obtain ⟨v0,hv0⟩:=I.cl x cc hc
  refine wpAny_storeName_cell I.er.fn hkx hc hv0 fun h' hv hs=>?_
  refine h h' s.toks cc (.inr ⟨x,hc⟩) hs ?_ (ct hv0) (.inr ⟨hkx,cc,hc,hv⟩) (fun y w hy q=>?_) ⟨mm,hn.sameBut hs (Ne.symm (cX hn hv0))⟩ fun y a e=>?_
  ·obtain ⟨o,e,_⟩:=hv;exact ⟨o,e⟩
  ·rcases q with ⟨q1,m2,q2,q3⟩ | ⟨q1,c2,q2,q3⟩
   ·exact .inl ⟨q1,m2,q2.sameBut hs (Ne.symm (cX hn hv0)),q3⟩
   ·refine .inr ⟨q1,c2,q2,q3.sameBut hs ?_⟩
    rintro rfl
    exact hy (I.inj y x _ q2 hc)
  ·obtain ⟨w,q⟩:=I.cl y a e
   by_cases ha:a=cc
   ·subst ha;exact ⟨_,hv⟩
   ·exact ⟨w,q.sameBut hs ha⟩
theorem cJ {x:Str} {i:Nat} (h:slotOf c.names x=some i) {s:Shared} {m:St} {own:Nat→Addr} {G:Addr→Prop} (I:Inv P r c A env ow sc as s m own G):i < m.length:=by
 rw [I.er.len];exact (bt h).1
theorem gf {s:Shared} {m:St} {own own':Nat→Addr} {G:Addr→Prop} {x:Str} {i:Nat} {v:Value} {d:D} {bs:List Addr} (I:Inv P r c A env ow sc as s m own G) (hs:slotOf c.names x=some i) (hk:c.kind x=some .local∨c.kind x=some .cell)
 (rd:Rd P.H s.heap v d bs) (c1:ow.contains i=true→flat d=true∧∀ a ∈ bs,a=own' i) (c2:ow.contains i=false→∀ a ∈ bs,G a) (hown:∀ j,j ≠ i→own' j=own j)
 (oG:ow.contains i=true→noList d=false→¬ G (own' i)∧sc.heap.get? (own' i)=none∧own' i ≠ env.locals∧∀ x,env.cells.lookup x ≠ some (own' i))
 (oE:ow.contains i=true→noList d=false→own' i ∈ bs)
 (oD:ow.contains i=true→noList d=false→∀ j dd,j ≠ i→ow.contains j=true→m[j]?=some (some dd)→noList dd=false→own j ≠ own' i) {Q:Shared→Prop}
 (h:∀ h' tk,Inv P r c A env ow sc as { s with heap:=h',toks:=tk } (setV m i d) own' G→(∀ b,h'.get? b=none→s.heap.get? b=none)→(∀ b o,s.heap.get? b=some o→b ≠ env.locals→(∀ x,env.cells.lookup x ≠ some b)→h'.get? b=some o)→Q { s with heap:=h',toks:=tk }) :
 wpAny (model P.prog P.w) A (storeName env x v) (fun _ s'=>Q s') (fun _ _=>False) s:=by
 have hlt:=cJ hs I
 have bsF:∀ a ∈ bs,a ≠ env.locals∧∀ y,env.cells.lookup y ≠ some a:=by
  intro a ha
  cases ho:ow.contains i with
  | false=>
   exact ⟨fun e=>I.gL (e ▸ (c2 ho a ha)),fun y e=>I.gC y a e (c2 ho a ha)⟩
  | true=>
   have hnl:noList d=false:=by
    cases q:noList d with
    | false=>rfl
    | true=>rw [rd.noAddr q] at ha;cases ha
   rw [(c1 ho).2 a ha]
   exact (oG ho hnl).2.2
 refine nu I hk fun h' tk z hz hsb hzo hzt hvx hvo hns hcl=>?_
 have keep:∀ b o,s.heap.get? b=some o→b ≠ env.locals→(∀ x,env.cells.lookup x ≠ some b)→h'.get? b=some o:=fun b o e h1 h2=>hsb.extBut b o (by
  rintro rfl
  rcases hz with q | ⟨y,q⟩
  ·exact h1 q
  ·exact h2 y q) e
 have live:∀ b,h'.get? b=none→s.heap.get? b=none:=fun b e=>by
  by_cases hb:b=z
  ·subst hb;obtain ⟨o,q⟩:=hzo;rw [q] at e;cases e
  ·rw [← hsb.2 b hb];exact e
 have rdk:∀ {w:Value} {dd:D} {xs:List Addr},Rd P.H s.heap w dd xs→(∀ a ∈ xs,a ≠ env.locals∧∀ y,env.cells.lookup y ≠ some a)→Rd P.H h' w dd xs:=fun q hx=>
  q.but (fun b=>b=z) (fun b o hb e=>hsb.extBut b o hb e) (fun b o hb e=>by subst hb;exact hzt o e) fun a ha e=>by
   rcases hz with q | ⟨y,q⟩
   ·exact (hx a ha).1 (e.trans q)
   ·exact (hx a ha).2 y (e ▸ q)
 refine h h' tk ?_ live keep
 refine ⟨I.room,I.gpc,⟨I.er.fn,I.er.gl,I.er.bu,I.er.kd,?_,?_,I.er.cel,?_⟩,fun a e=>I.new a (live a e),?_,I.gsub,hns,hcl,I.inj,I.gL,I.gC,I.nL,I.nC,?_,?_⟩
 ·simp [setV,I.er.len]
 ·intro j hj;have:=I.er.owlt j hj;simpa [setV] using this
 ·intro y j dd hy hm hky
  by_cases hj:j=i
  ·subst hj
   have exy:=lH hy hs
   subst exy
   rw [bP hlt] at hm
   cases hm
   exact ⟨v,bs,hvx,rdk rd bsF,c1,c2⟩
  ·rw [ay (Ne.symm hj)] at hm
   refine byG fun X_ g_=>?_
   obtain ⟨w,xs,hv,rw',g1,g2⟩:=I.er.var y j dd hy hm hky
   refine g_ ?_
   refine ⟨w,xs,hvo y w (fun e=>hj ?_) hv,rdk rw' fun a ha=>?_,?_,g2⟩
   ·subst e;rw [hy] at hs;exact Option.some.inj hs
   ·cases ho:ow.contains j with
    | false=>exact ⟨fun e=>I.gL (e ▸ g2 ho a ha),fun y e=>I.gC y a e (g2 ho a ha)⟩
    | true=>
     have hnl:noList dd=false:=by
      cases q:noList dd with
      | false=>rfl
      | true=>rw [rw'.noAddr q] at ha;cases ha
     rw [(g1 ho).2 a ha]
     exact ⟨(I.oG j dd ho hm hnl).2.2.1,(I.oG j dd ho hm hnl).2.2.2.1⟩
   ·rw [hown j hj];exact g1
 ·exact I.kp.setHeap fun b o e=>keep b o (I.kp.get b o e) (by rintro rfl;rw [I.nL] at e;cases e) fun y q=>by rw [I.nC y b q] at e;cases e
 ·intro j dd hj hm hnl
  by_cases hji:j=i
  ·subst hji
   rw [bP hlt] at hm;cases hm
   refine byG fun X_ g_=>?_
   obtain ⟨q1,q2,q3,q4⟩:=oG hj hnl
   obtain ⟨o,ho,q5⟩:=rd.old _ (oE hj hnl)
   refine g_ ?_
   exact ⟨q1,q2,q3,q4,o,keep _ o ho q3 q4,q5⟩
  ·rw [ay (Ne.symm hji)] at hm
   rw [hown j hji]
   refine byG fun X_ g_=>?_
   obtain ⟨q1,q2,q3,q4,o,ho,q5⟩:=I.oG j dd hj hm hnl
   refine g_ ?_
   exact ⟨q1,q2,q3,q4,o,keep _ o ho q3 q4,q5⟩
 ·intro j k dd dd' hjk hj hk hm hm' hn hn'
  by_cases hji:j=i
  ·subst hji
   rw [bP hlt] at hm;cases hm
   rw [ay (hjk)] at hm'
   rw [hown k (Ne.symm hjk)]
   exact Ne.symm (oD hj hn k dd' (Ne.symm hjk) hk hm' hn')
  ·rw [ay (Ne.symm hji)] at hm
   rw [hown j hji]
   by_cases hki:k=i
   ·subst hki
    rw [bP hlt] at hm';cases hm'
    exact oD hk hn' j dd hji hj hm hn
   ·rw [ay (Ne.symm hki)] at hm'
    rw [hown k hki]
    exact I.oD j k dd dd' hjk hj hk hm hm' hn hn'
theorem dB {s:Shared} {m:St} {own:Nat→Addr} {G:Addr→Prop} {x:Str} {i:Nat} {v:Value} {d:D} {bs:List Addr} (I:Inv P r c A env ow sc as s m own G) (hs:slotOf c.names x=some i) (hk:c.kind x=some .local∨c.kind x=some .cell)
 (rd:Rd P.H s.heap v d bs) (ho:ow.contains i=false) (hg:∀ a ∈ bs,G a) {Q:Shared→Prop}
 (h:∀ h' tk,Inv P r c A env ow sc as { s with heap:=h',toks:=tk } (setV m i d) own G→Stp env ow [i] [] s m own G { s with heap:=h',toks:=tk } (setV m i d) own G→(∀ b o,s.heap.get? b=some o→b ≠ env.locals→(∀ x,env.cells.lookup x ≠ some b)→h'.get? b=some o)→Q { s with heap:=h',toks:=tk }) :
 wpAny (model P.prog P.w) A (storeName env x v) (fun _ s'=>Q s') (fun _ _=>False) s:=by
 refine gf (own':=own) I hs hk rd (fun q=>(by rw [ho] at q;cases q)) (fun _=>hg) (fun _ _=>rfl) (fun q=>(by rw [ho] at q;cases q)) (fun q=>(by rw [ho] at q;cases q)) (fun q=>(by rw [ho] at q;cases q)) fun h' tk I' live keep=>?_
 refine h h' tk I' ⟨live,fun b o _ e h1 h2 _=>keep b o e h1 h2,fun _ _ _ g=>g,fun j dd hj hm hnl=>?_,fun j hj=>⟨rfl,?_⟩⟩ keep
 ·have hji:i ≠ j:=by rintro rfl;rw [ho] at hj;cases hj
  rw [ay hji] at hm
  exact .inl ⟨rfl,dd,hm,hnl⟩
 ·exact ay (by rintro rfl;exact hj (.head _))
theorem Inv.minus {s s':Shared} {m:St} {own:Nat→Addr} {G:Addr→Prop} (I0:Inv P r c A env ow sc as s m own G) (k:Kp s s') (X:List Addr) (h1:∀ a ∈ X,s.heap.get? a=none) (h2:∀ a ∈ X,∃ o,s'.heap.get? a=some o):Inv P r c A env ow sc as s' m own (fun a=>G a∧a ∉ X):=by
 have I:=I0.keeps k
 have gone:∀ a o,s.heap.get? a=some o→a ∉ X:=fun a o e q=>by rw [h1 a q] at e;cases e
 refine ⟨I.room,I.gpc,(I0.er.strengthen fun a o e g=>⟨g,gone a o e⟩).keeps k.get,fun a e=>⟨I.new a e,fun q=>?_⟩,I.kp,fun a q=>I.gsub a q.1,I.ns,I.cl,I.inj,fun q=>I.gL q.1,fun y a e q=>I.gC y a e q.1,I.nL,I.nC,fun j dd h1 h2 h3=>?_,I.oD⟩
 ·obtain ⟨o,e'⟩:=h2 a q;rw [e'] at e;cases e
 ·obtain ⟨q1,q2⟩:=I.oG j dd h1 h2 h3
  exact ⟨fun q=>q1 q.1,q2⟩
theorem Inv.new_ne {s:Shared} {m:St} {own:Nat→Addr} {G:Addr→Prop} (I0:Inv P r c A env ow sc as s m own G) {a:Addr} (h:s.heap.get? a=none):sc.heap.get? a=none∧a ≠ env.locals∧(∀ y,env.cells.lookup y ≠ some a)∧∀ j dd,ow.contains j=true→m[j]?=some (some dd)→noList dd=false→own j ≠ a:=by
 refine ⟨I0.kp.none h,?_,fun y e=>?_,fun j dd h1 h2 h3=>?_⟩
 ·rintro rfl
  obtain ⟨mm,o,_,_,e,_⟩:=I0.ns
  rw [e] at h;cases h
 ·obtain ⟨w,o,e',_⟩:=I0.cl y a e
  rw [e'] at h;cases h
 ·obtain ⟨_,_,_,_,o,e,_⟩:=I0.oG j dd h1 h2 h3
  rintro rfl
  rw [e] at h;cases h
theorem Rd.flat_one {H:D→Int} {h:Heap} {v:Value} {d:D} {bs:List Addr} (rd:Rd H h v d bs) (hf:flat d=true):∃ a0,(∀ a ∈ bs,a=a0)∧(noList d=false→a0 ∈ bs):=by
 cases rd with
 | @list a vs n xs as' h1 h2 h3=>
  have:as'=[]:=h3.noAddr (show ao _=true from hf)
  subst this
  exact ⟨a,fun b q=>List.mem_singleton.mp q,fun _=>.head _⟩
 | @tuple a vs n xs as' h1 h2 h3=>
  have:bs=[]:=h3.noAddr hf
  subst this
  exact ⟨0,fun _ q=>(nomatch q),fun q=>(by rw [show noList (.tuple xs)=true from hf] at q;cases q)⟩
 | @dict a _ _ _ _ _=>exact ⟨a,fun b q=>List.mem_singleton.mp q,fun _=>.head _⟩
 | none=>exact ⟨0,fun _ q=>(nomatch q),fun q=>(by cases q)⟩
 | bool=>exact ⟨0,fun _ q=>(nomatch q),fun q=>(by cases q)⟩
 | int=>exact ⟨0,fun _ q=>(nomatch q),fun q=>(by cases q)⟩
 | str=>exact ⟨0,fun _ q=>(nomatch q),fun q=>(by cases q)⟩
theorem iO {s0 s:Shared} {m:St} {own:Nat→Addr} {G:Addr→Prop} {x:Str} {i:Nat} {v:Value} {d:D} {bs:List Addr} (X:List Addr) (I0:Inv P r c A env ow sc as s0 m own G) (k:Kp s0 s) (hX:∀ a ∈ X,s0.heap.get? a=none) (hX2:∀ a ∈ X,∃ o,s.heap.get? a=some o) (hs:slotOf c.names x=some i) (hk:c.kind x=some .local∨c.kind x=some .cell)
 (rd:Rd P.H s.heap v d bs) (ho:ow.contains i=true) (hf:flat d=true) (hn:∀ a ∈ bs,s0.heap.get? a=none) {Q:Shared→Prop}
 (h:∀ h' tk own' G',Inv P r c A env ow sc as { s with heap:=h',toks:=tk } (setV m i d) own' G'→Stp env ow [i] [] s0 m own G { s with heap:=h',toks:=tk } (setV m i d) own' G'→(∀ a ∈ X,¬ G' a) →
  (∀ j dd,ow.contains j=true→(setV m i d)[j]?=some (some dd)→noList dd=false→∀ a ∈ X,a ∉ bs→own' j ≠ a) →
  (∀ b o,s.heap.get? b=some o→b ≠ env.locals→(∀ x,env.cells.lookup x ≠ some b)→h'.get? b=some o)→Q { s with heap:=h',toks:=tk }) :
 wpAny (model P.prog P.w) A (storeName env x v) (fun _ s'=>Q s') (fun _ _=>False) s:=by
 refine byG fun X_ g_=>?_
 obtain ⟨a0,ha0,ha1⟩:=rd.flat_one hf
 refine g_ ?_
 have gone:∀ a o,s0.heap.get? a=some o→a ∉ X++bs:=fun a o e q=>by
  rcases List.mem_append.mp q with q | q
  ·rw [hX a q] at e;cases e
  ·rw [hn a q] at e;cases e
 have hlt:=cJ hs I0
 refine gf (own':=fun j=>if j=i then a0 else own j) (I0.minus k (X++bs) (fun a q=>(List.mem_append.mp q).elim (hX a) (hn a)) fun a q=>(List.mem_append.mp q).elim (hX2 a) fun q=>(rd.old a q).imp fun o e=>e.1) hs hk rd (fun _=>⟨hf,fun a q=>by simpa using ha0 a q⟩) (fun q=>(by rw [ho] at q;cases q)) (fun j hj=>if_neg hj) (fun _ hnl=>?_) (fun _ hnl=>by simpa using ha1 hnl) (fun _ hnl j dd hj hoj hm hnl'=>?_) fun h' tk I' live keep=>?_
 ·simp only [if_true]
  exact ⟨fun q=>q.2 (List.mem_append_right _ (ha1 hnl)),(I0.new_ne (hn a0 (ha1 hnl))).1,(I0.new_ne (hn a0 (ha1 hnl))).2.1,(I0.new_ne (hn a0 (ha1 hnl))).2.2.1⟩
 ·simp only [if_true]
  exact (I0.new_ne (hn a0 (ha1 hnl))).2.2.2 j dd hoj hm hnl'
 ·refine h h' tk _ _ I' ⟨fun b e=>k.none (live b e),fun b o _ e h1 h2 _=>keep b o (k.get b o e) h1 h2,fun a o e g=>⟨g,gone a o e⟩,fun j dd hj hm hnl=>?_,fun j hj=>?_⟩ (fun a ha q=>q.2 (List.mem_append_left _ ha)) (fun j dd hj hm hnl a ha hab=>?_) keep
  ·by_cases hji:j=i
   ·subst hji
    rw [bP hlt] at hm;cases hm
    exact .inr (by simpa using hn _ (ha1 hnl))
   ·rw [ay (Ne.symm hji)] at hm
    exact .inl ⟨if_neg hji,dd,hm,hnl⟩
  ·have hji:j ≠ i:=fun e=>hj (by rw [e];exact .head _)
   exact ⟨if_neg hji,ay (Ne.symm hji)⟩
  ·by_cases hji:j=i
   ·subst hji
    rw [bP hlt] at hm;cases hm
    simp only [if_true]
    rintro rfl
    exact hab (ha1 hnl)
   ·rw [ay (Ne.symm hji)] at hm
    simp only [if_neg hji]
    exact (I0.new_ne (hX a ha)).2.2.2 j dd hj hm hnl
theorem Inv.walk {s:Shared} {m:St} {own:Nat→Addr} {G:Addr→Prop} {h':Heap} {tk:Nat} (I:Inv P r c A env ow sc as s m own G) (wr:List Addr) (hk:∀ b o,b ∉ wr→s.heap.get? b=some o→h'.get? b=some o)
 (w1:∀ b ∈ wr,sc.heap.get? b=none) (w2:∀ b ∈ wr,b ≠ env.locals∧∀ y,env.cells.lookup y ≠ some b) (w3:∀ b ∈ wr,∀ o,s.heap.get? b=some o→∀ vs n,o ≠ tupObj vs n)
 (w4:∀ b ∈ wr,(¬ G b∧∀ j dd,ow.contains j=true→m[j]?=some (some dd)→noList dd=false→own j ≠ b)∨∀ o,s.heap.get? b=some o→(∀ vs n,o ≠ listObj vs n)∧∀ es n,o ≠ dictObj es n) :
 Inv P r c A env ow sc as { s with heap:=h',toks:=tk } m own (fun a=>G a∨a ∈ wr):=by
 obtain ⟨mm,hn⟩:=I.ns
 have hL:env.locals ∉ wr:=fun q=>(w2 _ q).1 rfl
 have hC:∀ y a,env.cells.lookup y=some a→a ∉ wr:=fun y a e q=>(w2 a q).2 y e
 have hO:∀ i d,ow.contains i=true→m[i]?=some (some d)→noList d=false→own i ∉ wr:=fun i d h1 h2 h3 q=>by
  obtain ⟨_,_,_,_,o,e,q5⟩:=I.oG i d h1 h2 h3
  rcases w4 _ q with ⟨_,z⟩ | z
  ·exact z i d h1 h2 h3 rfl
  ·rcases q5 with ⟨vs,n,q5⟩ | ⟨vs,n,q5⟩
   ·exact (z o e).1 vs n q5
   ·exact (z o e).2 vs n q5
 refine ⟨I.room,I.gpc,⟨I.er.fn,I.er.gl,I.er.bu,I.er.kd,I.er.len,I.er.owlt,I.er.cel,fun x i d h1 h2 h3=>?_⟩,fun a e=>?_,?_,fun a q=>q.elim (I.gsub a) (fun q=>.inr (w1 a q)),⟨mm,hn.at' fun o e=>hk _ o hL e⟩,fun x a e=>?_,I.inj,fun q=>q.elim I.gL hL,fun x a e q=>q.elim (I.gC x a e) (hC x a e),I.nL,I.nC,fun i d h1 h2 h3=>?_,I.oD⟩
 ·refine byG fun X_ g_=>?_
  obtain ⟨v,xs,hv,rd,g1,g2⟩:=I.er.var x i d h1 h2 h3
  refine g_ ?_
  refine ⟨v,xs,?_,rd.but (fun b=>b ∈ wr) hk (fun b o hb e=>w3 b hb o e) fun a ha q=>?_,g1,fun z a ha=>.inl (g2 z a ha)⟩
  ·rcases hv with ⟨q1,m2,q2,q3⟩ | ⟨q1,c2,q2,q3⟩
   ·exact .inl ⟨q1,m2,q2.at' fun o e=>hk _ o hL e,q3⟩
   ·refine .inr ⟨q1,c2,q2,?_⟩
    obtain ⟨o,e,dd⟩:=q3
    exact ⟨o,hk _ o (hC _ _ q2) e,dd⟩
  ·cases ho:ow.contains i with
   | true=>
    have hnl:noList d=false:=by
     cases q:noList d with
     | false=>rfl
     | true=>rw [rd.noAddr q] at ha;cases ha
    exact hO i d ho h2 hnl ((g1 ho).2 a ha ▸ q)
   | false=>
    rcases w4 a q with ⟨z,_⟩ | z
    ·exact z (g2 ho a ha)
    ·obtain ⟨o,e,q5⟩:=rd.old a ha
     rcases q5 with ⟨vs,n,q5⟩ | ⟨vs,n,q5⟩
     ·exact (z o e).1 vs n q5
     ·exact (z o e).2 vs n q5
 ·by_cases hw:a ∈ wr
  ·exact .inr hw
  ·refine .inl (I.new a ?_)
   cases q:s.heap.get? a with
   | none=>rfl
   | some o=>rw [show h'.get? a=_ from hk a o hw q] at e;cases e
 ·exact I.kp.setHeap fun b o e=>hk b o (fun q=>by rw [w1 b q] at e;cases e) (I.kp.get b o e)
 ·obtain ⟨v,o,q,dd⟩:=I.cl x a e
  exact ⟨v,o,hk _ o (hC _ _ e) q,dd⟩
 ·refine byG fun X_ g_=>?_
  obtain ⟨q1,q2,q3,q4,o,e,q5⟩:=I.oG i d h1 h2 h3
  refine g_ ?_
  exact ⟨fun q=>q.elim q1 (hO i d h1 h2 h3),q2,q3,q4,o,hk _ o (hO i d h1 h2 h3) e,q5⟩
theorem jH {s:Shared} {m:St} {own:Nat→Addr} {G:Addr→Prop} {x:Str} {i:Nat} {d0 d':D} {h':Heap} {tk:Nat} {o':Obj} (I:Inv P r c A env ow sc as s m own G) (hs:slotOf c.names x=some i) (hk:c.kind x=some .local∨c.kind x=some .cell)
 (ho:ow.contains i=true) (hm:m[i]?=some (some d0)) (hc0:isC d0=true) (sb:Heap.SameBut (own i) s.heap h') (hget:h'.get? (own i)=some o') (ho':(∃ vs n,o'=listObj vs n)∨∃ es n,o'=dictObj es n) (rd':Rd P.H h' (.ref (own i)) d' [own i]) (fl':flat d'=true) :
 Inv P r c A env ow sc as { s with heap:=h',toks:=tk } (setV m i d') own G∧Stp env ow [i] [] s m own G { s with heap:=h',toks:=tk } (setV m i d') own G:=by
 have hn0:=qX hc0
 obtain ⟨oG1,oG2,oG3,oG4,o0,e0,oG5⟩:=I.oG i _ ho hm hn0
 have nt:∀ b o,b=own i→s.heap.get? b=some o→∀ vs n,o ≠ tupObj vs n:=fun b o hb e vs n q=>by
  subst hb
  rw [e] at e0;cases e0
  rcases oG5 with ⟨vs',n',z⟩ | ⟨vs',n',z⟩
  ·rw [q] at z;exact absurd (congrArg Obj.cls z) (by show ¬ (Value.type "tuple" = Value.type "list");decide)
  ·rw [q] at z;exact absurd (congrArg Obj.cls z) (by show ¬ (Value.type "tuple" = Value.type "dict");decide)
 have keep:∀ b o,b ≠ own i→s.heap.get? b=some o→h'.get? b=some o:=fun b o hb e=>sb.extBut b o hb e
 have live:∀ b,h'.get? b=none→s.heap.get? b=none:=fun b e=>by
  by_cases hb:b=own i
  ·subst hb;rw [hget] at e;cases e
  ·rw [← sb.2 b hb];exact e
 have vk:∀ y w,VarAt env s.heap y w→VarAt env h' y w:=fun y w q=>by
  rcases q with ⟨q1,m2,q2,q3⟩ | ⟨q1,c2,q2,q3⟩
  ·exact .inl ⟨q1,m2,q2.at' fun o e=>keep _ o (Ne.symm oG3) e,q3⟩
  ·obtain ⟨o,e,dd⟩:=q3
   exact .inr ⟨q1,c2,q2,o,keep _ o (fun z=>oG4 y (z ▸ q2)) e,dd⟩
 obtain ⟨mm,hn⟩:=I.ns
 refine ⟨⟨I.room,I.gpc,⟨I.er.fn,I.er.gl,I.er.bu,I.er.kd,?_,?_,I.er.cel,?_⟩,fun a e=>I.new a (live a e),?_,I.gsub,⟨mm,hn.at' fun o e=>keep _ o (Ne.symm oG3) e⟩,fun y a e=>?_,I.inj,I.gL,I.gC,I.nL,I.nC,?_,?_⟩,⟨live,fun b o _ e _ _ h3=>keep b o (h3 i _ (.head _) ho hm hn0) e,fun _ _ _ g=>g,fun j dd hj hm' hnl=>?_,fun j hj=>⟨rfl,ay (by rintro rfl;exact hj (.head _))⟩⟩⟩
 ·simp [setV,I.er.len]
 ·intro j hj;have:=I.er.owlt j hj;simpa [setV] using this
 ·intro y j dd hy hm' hky
  by_cases hj:j=i
  ·subst hj
   rw [bP (cJ hs I)] at hm'
   cases hm'
   refine byG fun X_ g_=>?_
   obtain ⟨w,ws,hv,rd,g1,g2⟩:=I.er.var y j _ hy hm hky
   obtain ⟨a,rfl,ha⟩:=rd.top hc0
   refine g_ ?_
   have ea:a=own j:=(g1 ho).2 a ha
   subst ea
   exact ⟨_,_,vk y _ hv,rd',fun _=>⟨fl',fun a q=>List.mem_singleton.mp q⟩,fun q=>(by rw [ho] at q;cases q)⟩
  ·rw [ay (Ne.symm hj)] at hm'
   refine byG fun X_ g_=>?_
   obtain ⟨w,ws,hv,rd,g1,g2⟩:=I.er.var y j dd hy hm' hky
   refine g_ ?_
   refine ⟨w,ws,vk y w hv,rd.but (fun b=>b=own i) keep nt fun a ha q=>?_,g1,g2⟩
   subst q
   cases hoj:ow.contains j with
   | false=>exact oG1 (g2 hoj _ ha)
   | true=>
    have hnl:noList dd=false:=by
     cases q:noList dd with
     | false=>rfl
     | true=>rw [rd.noAddr q] at ha;cases ha
    exact I.oD j i dd _ hj hoj ho hm' hm hnl hn0 ((g1 hoj).2 _ ha).symm
 ·exact I.kp.setHeap fun b o e=>keep b o (by rintro rfl;rw [oG2] at e;cases e) (I.kp.get b o e)
 ·obtain ⟨v,o,q,dd⟩:=I.cl y a e
  exact ⟨v,o,keep _ o (fun z=>oG4 y (z ▸ e)) q,dd⟩
 ·intro j dd hj hm' hnl
  by_cases hji:j=i
  ·subst hji
   exact ⟨oG1,oG2,oG3,oG4,_,hget,ho'⟩
  ·rw [ay (Ne.symm hji)] at hm'
   refine byG fun X_ g_=>?_
   obtain ⟨q1,q2,q3,q4,o,e,q5⟩:=I.oG j dd hj hm' hnl
   refine g_ ?_
   exact ⟨q1,q2,q3,q4,o,keep _ o (I.oD j i dd _ hji hj ho hm' hm hnl hn0) e,q5⟩
 ·intro j k dd dd' hjk hj hk hm1 hm2 hn1 hn2
  have back:∀ l dl,(setV m i d')[l]?=some (some dl)→noList dl=false→∃ dl',m[l]?=some (some dl')∧noList dl'=false:=fun l dl e q=>by
   by_cases hl:l=i
   ·subst hl;exact ⟨_,hm,hn0⟩
   ·rw [ay (Ne.symm hl)] at e;exact ⟨dl,e,q⟩
  obtain ⟨d1,e1,n1⟩:=back j dd hm1 hn1
  obtain ⟨d2,e2,n2⟩:=back k dd' hm2 hn2
  exact I.oD j k d1 d2 hjk hj hk e1 e2 n1 n2
 ·by_cases hji:j=i
  ·subst hji;exact .inl ⟨rfl,_,hm,hn0⟩
  ·rw [ay (Ne.symm hji)] at hm';exact .inl ⟨rfl,dd,hm',hnl⟩
theorem uf {s:Shared} {m:St} {own:Nat→Addr} {G:Addr→Prop} {i:Nat} {d0:D} (I:Inv P r c A env ow sc as s m own G) (ho:ow.contains i=true) (hm:m[i]?=some (some d0)) (hc0:isC d0=true):∀ b o,b=own i→s.heap.get? b=some o→∀ vs n,o ≠ tupObj vs n:=fun b o hb e vs n q=>by
 obtain ⟨_,_,_,_,o0,e0,oG5⟩:=I.oG i _ ho hm (qX hc0)
 subst hb
 rw [e] at e0;cases e0
 rcases oG5 with ⟨vs',n',z⟩ | ⟨vs',n',z⟩
 ·rw [q] at z;exact absurd (congrArg Obj.cls z) (by show ¬ (Value.type "tuple" = Value.type "list");decide)
 ·rw [q] at z;exact absurd (congrArg Obj.cls z) (by show ¬ (Value.type "tuple" = Value.type "dict");decide)
theorem kI {s:Shared} {m:St} {own:Nat→Addr} {G:Addr→Prop} {x:Str} {i:Nat} {xs xs':List D} {h':Heap} {tk:Nat} {vs:Array Value} {n:Nat} (I:Inv P r c A env ow sc as s m own G) (hs:slotOf c.names x=some i) (hk:c.kind x=some .local∨c.kind x=some .cell)
 (ho:ow.contains i=true) (hm:m[i]?=some (some (.list xs))) (sb:Heap.SameBut (own i) s.heap h') (hget:h'.get? (own i)=some (listObj vs n)) (hz:vs.size≤sizeLine) (ra:RdAll P.H s.heap vs.toList xs' []) (nl:ao xs'=true) :
 Inv P r c A env ow sc as { s with heap:=h',toks:=tk } (setV m i (.list xs')) own G∧Stp env ow [i] [] s m own G { s with heap:=h',toks:=tk } (setV m i (.list xs')) own G:=
 jH I hs hk ho hm rfl sb hget (.inl ⟨_,_,rfl⟩) (.list hget hz (ra.but (fun b=>b=own i) (fun b o hb e=>sb.extBut b o hb e) (uf I ho hm rfl) fun a q=>(nomatch q))) nl
end
end Mine
set_option tactic.hygienic false
namespace Mine
open PySem
mutual
noncomputable def tchS:Sm→List Nat
 | .asg i _=>[i]
 | .unp i j _=>[i,j]
 | .seti i _ _=>[i]
 | .app i _=>[i]
 | .pop i=>[i]
 | .rev i=>[i]
 | .ite _ t e=>tchSs t++tchSs e
 | .for1 i _ b=>[i]++tchSs b
 | .for2 i j _ b=>[i,j]++tchSs b
 | .wh _ b=>tchSs b
 | .ret _=>[]
 | .ex _=>[]
 | .stuck=>[]
noncomputable def tchSs:Sms→List Nat
 | .nil=>[]
 | .cons s r=>tchS s++tchSs r
end
theorem nv (s:Sm) (r:Sms):tchSs (Sms.cons s r)=tchS s++tchSs r:=rfl
theorem qY (c:Ex) (t:Sms) (e:Sms):tchS (Sm.ite c t e)=tchSs t++tchSs e:=rfl
noncomputable def gg (ow:List Nat) (it:It) (b:List Nat):Bool:=
 (itOw ow it).all fun e=>match e with
  | .v j=>!b.contains j
  | _=>true
mutual
noncomputable def okS (ow:List Nat):Sm→Bool
 | .asg i e=>okE ow e&&(if ow.contains i then frE e else nm ow e)
 | .unp i j e=>okE ow e&&nm ow e&&!ow.contains i&&!ow.contains j
 | .seti i k e=>ow.contains i&&okE ow k&&okE ow e
 | .app i e=>ow.contains i&&okE ow e
 | .pop i=>ow.contains i
 | .rev i=>ow.contains i
 | .ite c t e=>okE ow c&&okSs ow t&&okSs ow e
 | .for1 i it b=>okIt ow it&&!ow.contains i&&okSs ow b&&gg ow it (tchSs b)
 | .for2 i j it b=>okIt ow it&&!ow.contains i&&!ow.contains j&&okSs ow b&&gg ow it (tchSs b)
 | .wh c b=>okE ow c&&okSs ow b
 | .ret e=>okE ow e
 | .ex e=>okE ow e
 | .stuck=>true
noncomputable def okSs (ow:List Nat):Sms→Bool
 | .nil=>true
 | .cons s r=>okS ow s&&okSs ow r
end
theorem ug (ow:List Nat) (i:Nat) (e:Ex):okS ow (.asg i e)=(okE ow e&&(if ow.contains i then frE e else nm ow e)):=rfl
theorem vC (ow:List Nat) (i j:Nat) (e:Ex):okS ow (.unp i j e)=(okE ow e&&nm ow e&&!ow.contains i&&!ow.contains j):=rfl
theorem uh (ow:List Nat) (i:Nat) (k e:Ex):okS ow (.seti i k e)=(ow.contains i&&okE ow k&&okE ow e):=rfl
theorem vD (ow:List Nat) (i:Nat) (e:Ex):okS ow (.app i e)=(ow.contains i&&okE ow e):=rfl
theorem vE (ow:List Nat) (i:Nat):okS ow (.pop i)=ow.contains i:=rfl
theorem vF (ow:List Nat) (c:Ex) (t e:Sms):okS ow (.ite c t e)=(okE ow c&&okSs ow t&&okSs ow e):=rfl
theorem ui (ow:List Nat) (i:Nat) (it:It) (b:Sms):okS ow (.for1 i it b)=(okIt ow it&&!ow.contains i&&okSs ow b&&gg ow it (tchSs b)):=rfl
theorem uj (ow:List Nat) (i j:Nat) (it:It) (b:Sms):okS ow (.for2 i j it b)=(okIt ow it&&!ow.contains i&&!ow.contains j&&okSs ow b&&gg ow it (tchSs b)):=rfl
theorem k_wh (ow:List Nat) (c:Ex) (b:Sms):okS ow (.wh c b)=(okE ow c&&okSs ow b):=rfl
theorem vG (ow:List Nat) (e:Ex):okS ow (.ret e)=okE ow e:=rfl
theorem k_ex (ow:List Nat) (e:Ex):okS ow (.ex e)=okE ow e:=rfl
theorem sv (ow:List Nat) (s:Sm) (r:Sms):okSs ow (.cons s r)=(okS ow s&&okSs ow r):=rfl
section
variable (P:Pk) (r:Nat) (c:TC)
set_option tactic.hygienic true in
noncomputable def PF (A:Around) (env:Env) (ow:List Nat) (sc:Shared) (as:List Addr) (fr:Bool) (tch:List Nat) (s:Shared) (m:St) (own:Nat→Addr) (G:Addr→Prop):Fl × St→Flow→Shared→Prop
 | (.next,m'),f,s'=>f = .next∧∃ own' G',Inv P r c A env ow sc as s' m' own' G'∧Stp env ow tch [] s m own G s' m' own' G'
 | (.ret d,_),f,s'=>∃ v,f = .ret v∧Kp sc s'∧∃ bs,Rd P.H s'.heap v d bs∧(∀ x ∈ bs,sc.heap.get? x=none∨x ∈ as)∧(fr=true→∀ x ∈ bs,sc.heap.get? x=none)
noncomputable def SS (ow:List Nat) (fr:Bool) (N:Nat) (st:PySem.Stmt) (st':Sm):Prop:=
 ∀ (A:Around) (env:Env) (sc:Shared) (as:List Addr) (s:Shared) (m:St) (own:Nat→Addr) (G:Addr→Prop) (res:Fl × St),Inv P r c A env ow sc as s m own G→okS ow st'=true→exS P.Φ P.Γ ow fr N st' m=some res →
  wpAny (model P.prog P.w) A (exec st env) (PF P r c A env ow sc as fr (tchS st') s m own G res) (fun o_ o_=>False) s
noncomputable def SSs (ow:List Nat) (fr:Bool) (N:Nat) (st:List PySem.Stmt) (st':Sms):Prop:=
 ∀ (A:Around) (env:Env) (sc:Shared) (as:List Addr) (s:Shared) (m:St) (own:Nat→Addr) (G:Addr→Prop) (res:Fl × St),Inv P r c A env ow sc as s m own G→okSs ow st'=true→exSs P.Φ P.Γ ow fr N st' m=some res →
  wpAny (model P.prog P.w) A (execs st env) (PF P r c A env ow sc as fr (tchSs st') s m own G res) (fun o_ o_=>False) s
end
section
variable {P:Pk} {r:Nat} {c:TC} {ow:List Nat} {fr:Bool} {N:Nat}
set_option tactic.hygienic true in
theorem PF.after {A:Around} {env:Env} {sc:Shared} {as:List Addr} {t1 t2 t:List Nat} {s s1:Shared} {m m1:St} {own own1:Nat→Addr} {G G1:Addr→Prop} {res:Fl × St} {f:Flow} {s':Shared} (S1:Stp env ow t1 [] s m own G s1 m1 own1 G1) (h:PF P r c A env ow sc as fr t2 s1 m1 own1 G1 res f s') (h1:∀ i ∈ t1,i ∈ t) (h2:∀ i ∈ t2,i ∈ t):PF P r c A env ow sc as fr t s m own G res f s':=by
 obtain ⟨fl,m'⟩:=res
 cases fl with
 | next=>
  refine byG fun X_ g_=>?_
  obtain ⟨h0,own',G',I,S⟩:=h
  refine g_ ?_
  exact ⟨h0,own',G',I,S1.join S h1 h2⟩
 | ret d=>exact h
theorem nx:SSs P r c ow fr N [] .nil:=by
 intro A env sc as s m own G res I hok hev
 simp only [tC,Option.some.injEq] at hev
 subst hev
 exact wpAny_execs_nil ⟨rfl,own,G,I,Stp.refl ..⟩
set_option tactic.hygienic true in
theorem pA {st:PySem.Stmt} {rest:List PySem.Stmt} {st':Sm} {rest':Sms} (h:SS P r c ow fr N st st') (hr:SSs P r c ow fr N rest rest'):SSs P r c ow fr N (st::rest) (.cons st' rest'):=by
 intro A env sc as s m own G res I hok hev
 simp only [sv,Bool.and_eq_true] at hok
 simp only [jq] at hev
 cases q:exS P.Φ P.Γ ow fr N st' m with
 | none=>rw [q] at hev;cases hev
 | some r1=>
  rw [q] at hev
  refine wpAny_execs_cons (wpAny_mono (h A env sc as s m own G r1 I hok.1 q) (fun f s' hf=>?_) fun o_ o_ z=>z)
  obtain ⟨fl,m1⟩:=r1
  cases fl with
  | next=>
   obtain ⟨rfl,own1,G1,I1,S1⟩:=hf
   simp only at hev
   refine wpAny_mono (hr A env sc as s' m1 own1 G1 res I1 hok.2 hev) (fun f2 s2 h2=>?_) fun o_ o_ z=>z
   exact h2.after S1 (fun i q=>by simp [nv,q]) fun i q=>by simp [nv,q]
  | ret d=>
   simp only [Option.some.injEq] at hev
   subst hev
   obtain ⟨v,rfl,h2⟩:=hf
   exact ⟨v,rfl,h2⟩
set_option tactic.hygienic true in
theorem uk {e:PySem.Expr} {e':Ex} {pos:Pos} (he:P.SE r c e e'):SS P r c ow fr N (.Return (some e) pos) (.ret e'):=by
 intro A env sc as s m own G res I hok hev
 simp only [vG] at hok
 simp only [tB] at hev
 refine aa hev fun d e1 hev=>?_
 split at hev
 case isFalse=>cases hev
 rename_i hc
 cases hev
 refine wpAny_Return_some (SE.us he I.pre hok e1 fun v s' k bs rd g1 g2 g3 g4=>?_)
 have hOwn:isOw ow e'=true→∀ x ∈ bs,sc.heap.get? x=none:=fun ho x hx=>by
  obtain ⟨i,rfl,hi⟩:=m9 ho
  have hnl:noList d=false:=by
   cases q:noList d with
   | false=>rfl
   | true=>rw [rd.noAddr q] at hx;cases hx
  rw [g4 ho x hx]
  exact (I.oG i d hi (evV e1) hnl).2.1
 refine ⟨v,rfl,I.kp.trans k,bs,rd,fun x hx=>?_,fun hfr x hx=>?_⟩
 ·cases ho:isOw ow e' with
  | true=>exact .inl (hOwn ho x hx)
  | false=>exact (I.gsub x (g1 ho x hx)).symm
 ·subst hfr
  simp only [Bool.not_true,Bool.false_or,retOk,Bool.or_eq_true,Bool.and_eq_true] at hc
  rcases hc with hc | ⟨ho | hf,hfl⟩
  ·rw [rd.noAddr hc] at hx;cases hx
  ·exact hOwn ho x hx
  ·exact I.kp.none (g3 hf hfl x hx)
theorem vH {e:PySem.Expr} {e':Ex} {pos:Pos} (he:P.SE r c e e') (hsw:∀ env:Env,swapsWith e none pos.line env=pure false):SS P r c ow fr N (.Expr e pos) (.ex e'):=by
 intro A env sc as s m own G res I hok hev
 simp only [k_ex] at hok
 simp only [e_ex] at hev
 obtain ⟨d,e1,rfl⟩:=ag hev
 refine wpAny_Expr_any (SE.use he I.pre hok e1 fun v s' q=>?_) (by unfold interactive;rw [I.er.fn];rfl) (hsw env)
 exact ⟨rfl,own,G,I.keeps q.1,Stp.kp q.1 _ _⟩
theorem vI {test:PySem.Expr} {body orelse:List PySem.Stmt} {q:Ex} {a b:Sms} {pos:Pos} (ht:P.ST r c test q) (ha:SSs P r c ow fr N body a) (hb:SSs P r c ow fr N orelse b):SS P r c ow fr N (.If test body orelse pos) (.ite q a b):=by
 intro A env sc as s m own G res I hok hev
 simp only [vF,Bool.and_eq_true] at hok
 simp only [mn] at hev
 refine aa hev fun d e1 hev=>?_
 refine aa hev fun bb e2 hev=>?_
 refine wpAny_If (ST.use ht I.pre hok.1.1 e1 e2 fun s' k=>?_)
 cases bb with
 | true=>
  simp only [if_true] at hev ⊢
  exact wpAny_mono (ha A env sc as s' m own G res (I.keeps k) hok.1.2 hev) (fun f s2 h2=>h2.after (Stp.kp k [] []) (fun o_ q=>nomatch q) fun i q=>by simp [qY,q]) fun o_ o_ z=>z
 | false=>
  simp only [Bool.false_eq_true,if_false] at hev ⊢
  exact wpAny_mono (hb A env sc as s' m own G res (I.keeps k) hok.2 hev) (fun f s2 h2=>h2.after (Stp.kp k [] []) (fun o_ q=>nomatch q) fun i q=>by simp [qY,q]) fun o_ o_ z=>z
set_option tactic.hygienic true in
theorem qZ {x:Str} {i:Nat} {e:PySem.Expr} {e':Ex} {px pos:Pos} (hs:slotOf c.names x=some i) (hk:c.kind x=some .local∨c.kind x=some .cell) (he:P.SE r c e e') {A:Around} {env:Env} {sc:Shared} {as:List Addr} {s:Shared} {m:St} {own:Nat→Addr} {G:Addr→Prop} {res:Fl × St}
 (I:Inv P r c A env ow sc as s m own G) (hok:okS ow (.asg i e')=true) (hev:exS P.Φ P.Γ ow fr N (.asg i e') m=some res) (hsw:swapsWith e (some (.Name x px)) pos.line env=pure false) :
 wpAny (model P.prog P.w) A (exec (.Assign [.Name x px] e pos) env) (PF P r c A env ow sc as fr [i] s m own G res) (fun o_ o_=>False) s:=by
 simp only [ug,Bool.and_eq_true] at hok
 simp only [rD] at hev
 refine aa hev fun d e1 hev=>?_
 split at hev
 case isFalse=>cases hev
 rename_i hc
 cases hev
 refine wpAny_Assign_Name (SE.us he I.pre hok.1 e1 fun v s' k bs rd g1 g2 g3 g4=>?_) hsw
 cases ho:ow.contains i with
 | false=>
  rw [ho] at hok
  refine dB (Q:=fun s'=>PF P r c A env ow sc as fr [i] s m own G (.next,setV m i d) .next s') (I.keeps k) hs hk rd ho (g1 (by simpa [nm] using hok.2)) fun h' tk I' S' o_=>⟨rfl,own,G,I',?_⟩
  exact (Stp.kp k [] []).join S' (fun o_ q=>nomatch q) fun o_ q=>q
 | true=>
  rw [ho] at hok hc
  simp only [Bool.not_true,Bool.false_or] at hc
  refine iO (Q:=fun s'=>PF P r c A env ow sc as fr [i] s m own G (.next,setV m i d) .next s') [] I k (fun o_ q=>nomatch q) (fun o_ q=>nomatch q) hs hk rd ho hc (g3 (hok.2) hc) fun h' tk own' G' I' S' o_ o_ o_=>⟨rfl,own',G',I',S'⟩
set_option tactic.hygienic true in
theorem ul {x:Str} {i:Nat} {e:PySem.Expr} {e':Ex} {px apos cpos pos:Pos} (hx:x ≠ ("__debug__" : Str)) (hl:(apos.endLine == cpos.line)=true) (hst:isStar e=false) (hs:slotOf c.names x=some i) (hk:c.kind x=some .local∨c.kind x=some .cell) (he:P.SE r c e e') :
 SS P r c ow fr N (.Expr (.Call (.Attribute (.Name x px) "append" apos) [e] [] cpos) pos) (.app i e'):=by
 intro A env sc as s m own G res I hok hev
 simp only [vD,Bool.and_eq_true] at hok
 rw [tx] at hev
 refine aa hev fun cc e1 hev1=>?_
 refine aa hev1 fun d e2 hev2=>?_
 clear hev hev1
 cases cc<;>simp only [reduceCtorEq] at hev2
 rename_i xs
 split at hev2
 case isFalse=>cases hev2
 rename_i hc
 simp only [Bool.and_eq_true,b7,decide_eq_true_eq] at hc
 cases hev2
 refine wpAny_Expr_any ?_ (by unfold interactive;rw [I.er.fn];rfl) rfl
 refine wpAny_Call_append rfl (by rw [an hst];rfl) hl (by rw [an hst];rfl) ?_
 refine SE.us (f9 hx hk hs) I.pre rfl (d:=.list xs) (by trivial) fun v s1 k1 as1 rd1 o_ f1 o_ w1=>?_
 have hio:isOw ow (.v i)=true:=hok.1
 cases rd1 using Rd.listE with
 | @mk a vs n as' ho hz ra=>
  have ea:a=own i:=w1 hio a (.head _)
  subst ea
  have:as'=[]:=ra.noAddr (f1 hio)
  subst this
  refine ⟨_,vs,rfl,⟨_,n,ho,rfl,rfl,rfl⟩,?_⟩
  refine SE.us he (I.keeps k1).pre hok.2 e2 fun y s2 k2 bs rd2 o_ o_ o_ o_=>?_
  have:bs=[]:=rd2.noAddr hc.1
  subst this
  have hlen:=ra.length
  simp only [Array.length_toList] at hlen
  refine wpAny_list_append_plain (l:=own i) (items:=vs) ⟨n,k2.get _ _ ho⟩ (fun h' pl sb=>?_) (by rw [hlen];exact Nat.le_trans hc.2 (by decide))
  obtain ⟨n',e'⟩:=pl
  have fl:ao (xs++[d])=true:=by
   have fl:ao xs=true:=by exact f1 hio
   have:∀ l:List D,ao l=true→noList d=true→ao (l++[d])=true:=by
    intro l
    induction l with
    | nil=>intro _ h;simp [ic,aM,h]
    | cons z l ih=>intro h1 h2;rw [aM,Bool.and_eq_true] at h1;rw [List.cons_append,aM,Bool.and_eq_true];exact ⟨h1.1,ih h1.2 h2⟩
   exact this xs fl hc.1
  obtain ⟨I3,S3⟩:=kI (tk:=s2.toks) (I.keeps (k1.trans k2)) hs hk hok.1 (evV (Φ:=P.Φ) (Γ:=P.Γ) (e1)) sb e' (by simp only [Array.size_push];rw [hlen];exact Nat.le_trans (Nat.succ_le_succ hc.2) (by decide)) (xs':=xs++[d]) (by rw [Array.toList_push];exact (ra.keeps k2.get).append (RdAll.one rd2)) fl
  exact ⟨rfl,own,G,I3,(Stp.kp (k1.trans k2) [] []).join S3 (fun o_ q=>nomatch q) fun o_ q=>q⟩
end
end Mine
set_option tactic.hygienic false
namespace Mine
open PySem
section
variable {prog:Program} {w:World} {A:Around} {E:Value→Shared→Prop} {s:Shared} {env:Env}
theorem gh {o:PySem.Expr} {nm:Str} {id:String} {apos pos:Pos} {Q:Value→Shared→Prop} (slot:Slot "list" nm id) (hty:typeOf (.builtin id)=pure (.type "method_descriptor"))
 (hbase:attributeBase o nm env (eval o env)=eval o env) (hline:(apos.endLine == pos.line)=true)
 (h:wpAny (model prog w) A (eval o env) (fun ov s₁=>∃ D vs n,ov = .ref D∧s₁.heap.get? D=some (listObj vs n)∧wpAny (model prog w) A (callWith pos (.builtin id) [.ref D] [] []) Q E s₁) E s) :
 wpAny (model prog w) A (eval (.Call (.Attribute o nm apos) [] [] pos) env) Q E s:=by
 rw [arm_eval_Call,hbase]
 refine wpAny_bind (wpAny_mono h (fun ov s₁ h₁=>?_) fun o_ o_ e=>e)
 obtain ⟨D,vs,n,rfl,ho,hcall⟩:=h₁
 refine wpAny_bind (wpAny_standAt ?_)
 have hform:methodCallForm (([]:List PySem.Expr).length+([]:List Keyword).length) (backTo pos (starEach [] env)) (backToKw pos (keywordEach [] env))=true:=rfl
 have hpos:methodCallPos true o env apos pos=pure pos:=by unfold methodCallPos;simp [hline]
 unfold methodCall
 rw [hform]
 refine wpAny_bind (wpAny_holding (PyProof.Rows.getMethod_list_of slot hty (items:=vs) ⟨_,ho,rfl,_,rfl⟩ ?_ ?_))
 ·exact ⟨_,ho,rfl⟩
 ·exact wpAny_bind (wpAny_of_eq hpos hcall)
end
section
variable {P:Pk} {r:Nat} {c:TC} {ow:List Nat} {fr:Bool} {N:Nat}
theorem cy:∀ (l:List D),ao l=true→ao l.dropLast=true
 | [],_=>rfl
 | [x],_=>rfl
 | x::y::l,h=>by
  rw [aM,Bool.and_eq_true] at h
  show ao (x::(y::l).dropLast)=true
  rw [aM,Bool.and_eq_true]
  exact ⟨h.1,cy (y::l) h.2⟩
theorem dC:∀ (l m:List D),ao l=true→ao m=true→ao (l++m)=true:=by
 intro l
 induction l with
 | nil=>
  intro _ _ h
  exact h
 | cons x l dC=>
  intro m h k
  rw [aM,Bool.and_eq_true] at h
  show ao (x::(l++m))=true
  rw [aM,Bool.and_eq_true]
  exact ⟨h.1,dC m h.2 k⟩
theorem jI (l:List D) (h:ao l=true):ao l.reverse=true:=by
 induction l with
 | nil=>rfl
 | cons x l ih=>
  rw [aM,Bool.and_eq_true] at h
  rw [List.reverse_cons]
  exact dC _ _ (ih h.2) (by simp [ic,aM,h.1])
theorem fI:∀ (l:List D) (k:Nat) (d:D),ao l=true→noList d=true→ao (l.set k d)=true
 | [],_,_,_,_=>by rfl
 | x::l,0,d,h,hd=>by
  rw [aM,Bool.and_eq_true] at h
  simp [aM,h.2,hd]
 | x::l,k+1,d,h,hd=>by
  rw [aM,Bool.and_eq_true] at h
  simp [aM,h.1,fI l k d h.2 hd]
theorem kJ {α:Type}:∀ (l:List α),l.eraseIdx (l.length - 1)=l.dropLast
 | []=>rfl
 | [x]=>rfl
 | x::y::l=>by
  show x::(y::l).eraseIdx l.length=x::(y::l).dropLast
  exact congrArg _ (kJ (y::l))
set_option tactic.hygienic true in
theorem gi (vs:Array Value):(vs.eraseIdxIfInBounds (vs.size - 1)).toList=vs.toList.dropLast:=by
 unfold Array.eraseIdxIfInBounds
 split
 ·rw [Array.toList_eraseIdx,← Array.length_toList,kJ]
 ·rename_i h
  have:vs = #[]:=by
   apply Array.eq_empty_of_size_eq_zero
   lia
  subst this;rfl
set_option tactic.hygienic true in
theorem um {x:Str} {i:Nat} {px apos cpos pos:Pos} (hx:x ≠ ("__debug__" : Str)) (hl:(apos.endLine == cpos.line)=true) (hs:slotOf c.names x=some i) (hk:c.kind x=some .local∨c.kind x=some .cell) :
 SS P r c ow fr N (.Expr (.Call (.Attribute (.Name x px) "pop" apos) [] [] cpos) pos) (.pop i):=by
 intro A env sc as s m own G res I hok hev
 simp only [vE] at hok
 rw [tz] at hev
 refine aa hev fun cc e1 hev1=>?_
 clear hev
 cases cc<;>first | (cases hev1;done) | skip
 rename_i xs
 replace hev1:(if xs.isEmpty then none else some (Fl.next,setV m i (.list xs.dropLast)))=some res:=hev1
 split at hev1
 case isTrue=>cases hev1
 rename_i hne
 cases hev1
 refine wpAny_Expr_any ?_ (by unfold interactive;rw [I.er.fn];rfl) rfl
 refine gh F.slot_list_pop F.type_list_pop rfl hl ?_
 refine SE.us (f9 hx hk hs) I.pre rfl (d:=.list xs) (by trivial) fun v s1 k1 as1 rd1 o_ f1 o_ w1=>?_
 have hio:isOw ow (.v i)=true:=hok
 cases rd1 using Rd.listE with
 | @mk a vs n as' ho hz ra=>
  have ea:a=own i:=w1 hio a (.head _)
  subst ea
  have:as'=[]:=ra.noAddr (f1 hio)
  subst this
  have hlen:=ra.length
  simp only [Array.length_toList] at hlen
  have hpos:0 < vs.size:=by
   rw [hlen]
   cases xs with
   | nil=>simp at hne
   | cons=>simp
  refine ⟨_,vs,n,rfl,ho,?_⟩
  obtain ⟨y,hy⟩:∃ y,vs[vs.size - 1]?=some y:=⟨vs[vs.size - 1],Array.getElem?_eq_getElem _⟩
  refine PySem.P.pop_list (n:=n) ho hy ?_ hz
  obtain ⟨bs,ra2,hb⟩:=ra.dropLast
  have:bs=[]:=List.eq_nil_iff_forall_not_mem.mpr fun a q=>(nomatch hb a q)
  subst this
  have hz2:(vs.eraseIdxIfInBounds (vs.size - 1)).size≤sizeLine:=by
   have:=congrArg List.length (gi vs)
   simp only [Array.length_toList,List.length_dropLast] at this
   lia
  have ra3:RdAll P.H s1.heap (vs.eraseIdxIfInBounds (vs.size - 1)).toList xs.dropLast []:=by rw [gi];exact ra2
  obtain ⟨I3,S3⟩:=kI (tk:=s1.toks) (I.keeps k1) hs hk hok (evV (Φ:=P.Φ) (Γ:=P.Γ) (e1)) (Heap.SameBut.update _ _ _) (IsL.update ho (fun ys=>ys.eraseIdxIfInBounds (vs.size - 1))) (xs':=xs.dropLast) hz2 ra3 (cy xs (f1 hio))
  exact ⟨rfl,own,G,I3,(Stp.kp k1 [] []).join S3 (fun o_ q=>nomatch q) fun o_ q=>q⟩
set_option tactic.hygienic true in
theorem un {x:Str} {i:Nat} {px apos cpos pos:Pos} (hx:x ≠ ("__debug__" : Str)) (hl:(apos.endLine == cpos.line)=true) (hs:slotOf c.names x=some i) (hk:c.kind x=some .local∨c.kind x=some .cell) :
 SS P r c ow fr N (.Expr (.Call (.Attribute (.Name x px) "reverse" apos) [] [] cpos) pos) (.rev i):=by
 intro A env sc as s m own G res I hok hev
 replace hok:ow.contains i=true:=hok
 rw [tA] at hev
 refine aa hev fun cc e1 hev1=>?_
 clear hev
 cases cc<;>first | (cases hev1;done) | skip
 rename_i xs
 cases hev1
 have hm:m[i]?=some (some (.list xs)):=evV (Φ:=P.Φ) (Γ:=P.Γ) (by rw [x_v];exact e1)
 refine wpAny_Expr_any ?_ (by unfold interactive;rw [I.er.fn];rfl) rfl
 refine gh F.slot_list_reverse F.type_list_reverse rfl hl ?_
 refine SE.us (f9 hx hk hs) I.pre rfl (d:=.list xs) (by rw [x_v,hm];rfl) fun v s1 k1 as1 rd1 o_ f1 o_ w1=>?_
 have hio:isOw ow (.v i)=true:=hok
 cases rd1 using Rd.listE with
 | @mk a vs n as' ho hz ra=>
  have ea:a=own i:=w1 hio a (.head _)
  subst ea
  have:as'=[]:=ra.noAddr (f1 hio)
  subst this
  refine ⟨_,vs,n,rfl,ho,?_⟩
  refine PySem.P.reverse_list (n:=n) ho ?_ hz
  refine byG fun X_ g_=>?_
  obtain ⟨bs,ra2,hb⟩:=ra.reverse
  have:bs=[]:=List.eq_nil_iff_forall_not_mem.mpr fun a q=>(nomatch hb a q)
  subst this
  have ra3:RdAll P.H s1.heap vs.reverse.toList xs.reverse []:=by rw [Array.toList_reverse];exact ra2
  obtain ⟨I3,S3⟩:=kI (tk:=s1.toks) (I.keeps k1) hs hk hok hm (Heap.SameBut.update _ _ _) (IsL.update ho (fun ys=>ys.reverse)) (xs':=xs.reverse) (by rw [Array.size_reverse];exact hz) ra3 (jI xs (f1 hio))
  refine g_ ?_
  exact ⟨rfl,own,G,I3,(Stp.kp k1 [] []).join S3 (fun o_ q=>nomatch q) fun o_ q=>q⟩
set_option tactic.hygienic true in
theorem sw {x:Str} {i:Nat} {ix e:PySem.Expr} {ix' e':Ex} {px pp pos:Pos} (hx:x ≠ ("__debug__" : Str)) (hs:slotOf c.names x=some i) (hk:c.kind x=some .local∨c.kind x=some .cell) (hi:P.SE r c ix ix') (he:P.SE r c e e')
 (hsw:∀ env:Env,swapsWith e (some (.Subscript (.Name x px) ix pp)) pos.line env=pure false):SS P r c ow fr N (.Assign [.Subscript (.Name x px) ix pp] e pos) (.seti i ix' e'):=by
 intro A env sc as s m own G res I hok hev
 simp only [uh,Bool.and_eq_true] at hok
 rw [km] at hev
 refine aa hev fun d e1 hev1=>?_
 refine aa hev1 fun cc e2 hev2=>?_
 refine aa hev2 fun kk e3 hev3=>?_
 clear hev hev1 hev2
 split at hev3
 case isFalse=>cases hev3
 rename_i hnl
 have e2':evE P.Φ P.Γ (.v i) m=some cc:=e2
 have hm:m[i]?=some (some cc):=evV (Φ:=P.Φ) (Γ:=P.Γ) e2'
 have hio:isOw ow (.v i)=true:=hok.1.1
 refine wpAny_Assign_Subscript ?_ (hsw env)
 refine SE.us he I.pre hok.2 e1 fun v s1 k1 bs rd1 z1 z2 z3 z4=>?_
 refine SE.us (f9 hx hk hs) (I.keeps k1).pre rfl e2' fun ov s2 k2 as2 rd2 y1 f2 y2 w2=>?_
 refine SE.us hi (I.keeps (k1.trans k2)).pre hok.1.2 e3 fun iv s3 k3 cs rd3 x1 x2 x3 x4=>?_
 clear e2 e2' e1 e3 z1 z2 z3 z4 y1 y2 x1 x2 x3 x4
 cases cc<;>first | (cases hev3;done) | skip
 all_goals (cases kk<;>first | (cases hev3;done) | skip)
 case list.int xs n=>
  simp only at hev3
  split at hev3
  case isFalse=>cases hev3
  rename_i hb
  cases hev3
  have:bs=[]:=rd1.noAddr hnl
  subst this
  cases rd3 using Rd.intE with
  | mk t=>
   cases rd2 using Rd.listE with
   | @mk a vs n' as' ho hz ra=>
    have ea:a=own i:=w2 hio a (.head _)
    subst ea
    have:as'=[]:=ra.noAddr (f2 hio)
    subst this
    have hlen:=ra.length
    simp only [Array.length_toList] at hlen
    have hzz:(sizeLine:Int) < 2 ^ 62:=by decide
    refine PySem.W.ki_setAt (n:=n') (k3.get _ _ ho) hb.1 (by lia) (by lia) ?_
    have rdv:Rd P.H s3.heap v d []:=rd1.keeps fun b o q=>k3.get b o (k2.get b o q)
    obtain ⟨I3,S3⟩:=kI (tk:=s3.toks) (I.keeps (k1.trans (k2.trans k3))) hs hk hok.1.1 hm (Heap.SameBut.update _ _ _) (IsL.update (k3.get _ _ ho) (fun ys=>ys.setIfInBounds n.toNat v)) (xs':=xs.set n.toNat d) (by simp only [Array.size_setIfInBounds];exact hz) (by rw [Array.toList_setIfInBounds];exact RdAll.set rdv _ (ra.keeps k3.get) rfl) (fI xs _ d (f2 hio) hnl)
    exact ⟨rfl,own,G,I3,(Stp.kp (k1.trans (k2.trans k3)) [] []).join S3 (fun o_ q=>nomatch q) fun o_ q=>q⟩
 case dict.str kvs sx=>
  simp only at hev3
  split at hev3
  case isFalse=>cases hev3
  rename_i hb
  cases hev3
  simp only [Bool.and_eq_true,decide_eq_true_eq] at hb
  cases rd3 using Rd.strE with
  | mk t hz ho=>
   obtain ⟨a,l,rfl,has,h0,hd,hkv⟩:=qM (prog:=P.prog) I.gpc.hs.1 rd2 hb.1.1
   have ea:a=own i:=w2 hio a (by rw [has];exact .head _)
   subst ea
   have hkv2:=hkv.put (x:=sx) (v:=v) (d:=d) hz ho hb.1.2 (rd1.scal hb.1.2).2
   refine wpAny_setItem_pairs (knd:=strKind P.prog P.w) (k:=sx) (by simp [strKind,Value.isStrOf]) (hd.keep k3.get) (fun h' hd' sb=>?_) (by rw [hkv.len];exact Nat.le_trans hb.2 (by decide))
   refine byG fun X_ g_=>?_
   obtain ⟨es,n,hget,rd'⟩:=ky (prog:=P.prog) I.gpc.hs.1 hd' hkv2 h0
   obtain ⟨I3,S3⟩:=jH (tk:=s3.toks+1) (I.keeps (k1.trans (k2.trans k3))) hs hk hok.1.1 hm rfl sb hget (.inr ⟨_,_,rfl⟩) rd' (r8 hkv2)
   refine g_ ?_
   exact ⟨rfl,own,G,I3,(Stp.kp (k1.trans (k2.trans k3)) [] []).join S3 (fun o_ q=>nomatch q) fun o_ q=>q⟩
 case dict.tuple kvs l=>
  simp only at hev3
  refine aa hev3 fun p e4 hev3=>?_
  refine aa hev3 fun ks e5 hev3=>?_
  have hb:=(aN hev3).1;have hev3:=(aN hev3).2
  cases hev3
  simp only [Bool.and_eq_true,decide_eq_true_eq] at hb
  rw [gH hb.1.2] at rd1
  have hv:=rd1.boolE'
  subst hv
  rw [e9 e4] at rd3
  have hcs:cs=[]:=rd3.noAddr (oX p)
  subst hcs
  refine byG fun X_ g_=>?_
  obtain ⟨ka,_,_,_,_,_,_,_,rfl,_⟩:=cW rd3
  obtain ⟨a,xs,rfl,has,h0,hd,hkv⟩:=mQ (prog:=P.prog) I.gpc.hs.2 (rd2.keeps k3.get) e5 hb.1.1
  refine g_ ?_
  have ea:a=own i:=w2 hio a (by rw [has];exact .head _)
  subst ea
  have hu1:A.in1.units+10 < cLine:=by have:=I.room.units;rw [Around.in1_units];lia
  have hlen:xs.length≤sizeLine:=by
   have:=congrArg List.length hkv.1
   rw [lX] at this
   rw [this];exact Nat.le_trans hb.2 (by decide)
  refine @wpAny_setItem_heap P.prog P.w StK stDec (eM P.prog P.w P.H) A _ s3 (own i) ka p xs (.bool true) _ hu1 rd3 hd (fun h' hd' sb=>?_) hlen
  refine byG fun X_ g_=>?_
  obtain ⟨es,n,hget,rd'⟩:=iz (prog:=P.prog) I.gpc.hs.2 hd' (gb hkv) h0
  rw [← kC e5] at rd'
  obtain ⟨I3,S3⟩:=jH (tk:=s3.toks+(6 * p.2.length+3)) (I.keeps (k1.trans (k2.trans k3))) hs hk hok.1.1 hm rfl sb hget (.inr ⟨_,_,rfl⟩) rd' (by rw [kC e5];exact qR _)
  refine g_ ?_
  exact ⟨rfl,own,G,I3,(Stp.kp (k1.trans (k2.trans k3)) [] []).join S3 (fun o_ q=>nomatch q) fun o_ q=>q⟩
end
end Mine
set_option tactic.hygienic true
namespace Mine
open PySem
section
variable {P:Pk} {r:Nat} {c:TC} {ow:List Nat} {fr:Bool} {N:Nat}
theorem jJ {x:Str} {i:Nat} {elt tgt iter:PySem.Expr} {ifs:List PySem.Expr} {scope:Scope} {xs:List Str} {e':Ex} {it':It} {co:Exo} {px cp pos:Pos} (hset:isSet iter=false) (hnd:xs.Nodup) (K:CompOk scope c xs) (hi:P.SI r c tgt xs iter it')
 (he:P.SE r ⟨c.names++xs,kindC scope c.kind⟩ elt e') (hc:SIfs P r ⟨c.names++xs,kindC scope c.kind⟩ ifs co) (hs:slotOf c.names x=some i) (hk:c.kind x=some .local∨c.kind x=some .cell) {A:Around} {env:Env} {sc:Shared} {as:List Addr} {s:Shared} {m:St} {own:Nat→Addr} {G:Addr→Prop} {res:Fl × St}
 (I:Inv P r c A env ow sc as s m own G) (hok:okS ow (.asg i (.comp e' it' co))=true) (hev:exS P.Φ P.Γ ow fr N (.asg i (.comp e' it' co)) m=some res) (hsw:swapsWith (.ListComp elt [⟨tgt,iter,ifs,0⟩] scope cp) (some (.Name x px)) pos.line env=pure true) :
 wpAny (model P.prog P.w) A (exec (.Assign [.Name x px] (.ListComp elt [⟨tgt,iter,ifs,0⟩] scope cp) pos) env) (PF P r c A env ow sc as fr [i] s m own G res) (fun _ _=>False) s:=by
 simp only [ug,Bool.and_eq_true] at hok
 simp only [rD] at hev
 refine aa hev fun d e1 hev=>?_
 split at hev
 case isFalse=>cases hev
 rename_i hcc
 cases hev
 rw [exec_Assign_Name_used _ _ _ _ hsw]
 refine wpAny_bind (wpAny_standAt (wpAny_bind ?_))
 show wpAny _ A (do let _ ← comprehension (.ListComp elt [⟨tgt,iter,ifs,0⟩] scope cp) scope env _ (newList []) false (eval iter env) (some (assign (.Name x px) env))) _ _ s
 refine wpAny_bind (wpAny_mono (kH (Q:=fun _ s'=>PF P r c A env ow sc as fr [i] s m own G (.next,setV m i d) .next s') hset hnd K hi he hc I.pre hok.1 e1 fun out D0 C s' hd q=>?_) (fun _ s' hq=>wpAny_pure (wpAny_pure hq)) fun _ _ z=>z)
 subst hd
 show wpAny _ A (assign (.Name x px) env (.ref D0)) _ _ _
 refine wpAny_assign_Name ?_
 obtain ⟨mC,hn⟩:=q.ns
 obtain ⟨bs,rd,hb⟩:=q.rd
 have cN:=I.new_ne q.cn
 have hCex:∃ o,s'.heap.get? C=some o:=let ⟨o,_,_,e,_⟩:=hn;⟨o,e⟩
 have last:∀ h' tk own' G',Inv P r c A env ow sc as { s' with heap:=h',toks:=tk } (setV m i (.list out)) own' G'→Stp env ow [i] [] s m own G { s' with heap:=h',toks:=tk } (setV m i (.list out)) own' G'→¬ G' C →
  (∀ j dd,ow.contains j=true→(setV m i (.list out))[j]?=some (some dd)→noList dd=false→own' j ≠ C) →
  (∀ b o,s'.heap.get? b=some o→b ≠ env.locals→(∀ x,env.cells.lookup x ≠ some b)→h'.get? b=some o) →
  ∃ m',h'.Ns C m'∧∀ h'',Heap.SameBut C h' h''→PF P r c A env ow sc as fr [i] s m own G (.next,setV m i (.list out)) .next { ({ s' with heap:=h',toks:=tk }:Shared) with heap:=h'' }:=by
  intro h' tk own' G' I' S' hg ho keep
  have hn':h'.Ns C mC:=hn.at' fun o e=>keep C o e cN.2.1 cN.2.2.1
  refine ⟨mC,hn',fun h'' hs''=>⟨rfl,own',fun a=>G' a∨a ∈ [C],?_,?_⟩⟩
  ·exact I'.walk [C] (fun b o hb e=>hs''.extBut b o (by simpa using hb) e) (fun b hb=>by rw [List.mem_singleton.mp hb];exact cN.1) (fun b hb=>by rw [List.mem_singleton.mp hb];exact ⟨cN.2.1,cN.2.2.1⟩)
    (fun b hb o e=>by rw [List.mem_singleton.mp hb] at e;exact bO hn' o e) (fun b hb=>by rw [List.mem_singleton.mp hb];exact .inl ⟨hg,ho⟩)
  ·refine ⟨fun b e=>?_,fun b o hb e h1 h2 h3=>hs''.extBut b o ?_ (S'.keep b o hb e h1 h2 h3),fun a o e g=>.inl (S'.keepG a o e g),S'.ownS,S'.same⟩
   ·by_cases hb:b=C
    ·rw [hb];exact q.cn
    ·exact S'.live b (by rw [← hs''.2 b hb];exact e)
   ·rintro rfl;rw [q.cn] at e;cases e
 cases ho:ow.contains i with
 | false=>
  refine dB (Q:=fun s2=>∃ m',s2.heap.Ns C m'∧∀ h',Heap.SameBut C s2.heap h'→PF P r c A env ow sc as fr [i] s m own G (.next,setV m i (.list out)) .next { s2 with heap:=h' }) (I.minus q.kp [C] (fun a ha=>by rw [List.mem_singleton.mp ha];exact q.cn) (fun a ha=>by rw [List.mem_singleton.mp ha];exact hCex)) hs hk rd ho (fun a ha=>?_) fun h' tk I' S' keep=>?_
  ·rcases List.mem_cons.mp ha with rfl | ha
   ·exact ⟨I.new _ q.dn,by simpa using q.dc⟩
   ·exact ⟨(hb a ha).1,by simpa using (hb a ha).2.1⟩
  ·refine last h' tk own _ I' ?_ (fun z=>z.2 (.head _)) (fun j dd h1 h2 h3=>?_) keep
   ·have K0:Stp env ow [] [] s m own G s' m own (fun a=>G a∧a ∉ [C]):=⟨fun b e=>q.kp.none e,fun b o _ e _ _ _=>q.kp.get b o e,fun a o e g=>⟨g,fun z=>by rw [List.mem_singleton.mp z,q.cn] at e;cases e⟩,fun i d _ h1 h2=>.inl ⟨rfl,d,h1,h2⟩,fun _ _=>⟨rfl,rfl⟩⟩
    exact K0.join S' (fun _ z=>nomatch z) fun _ z=>z
   ·have hji:i ≠ j:=by rintro rfl;rw [ho] at h1;cases h1
    rw [ay hji] at h2
    exact cN.2.2.2 j dd h1 h2 h3
 | true=>
  rw [ho] at hcc
  simp only [Bool.not_true,Bool.false_or] at hcc
  have:bs=[]:=rd.inn_flat hcc
  subst this
  refine iO (Q:=fun s2=>∃ m',s2.heap.Ns C m'∧∀ h',Heap.SameBut C s2.heap h'→PF P r c A env ow sc as fr [i] s m own G (.next,setV m i (.list out)) .next { s2 with heap:=h' }) [C] I q.kp (fun a ha=>by rw [List.mem_singleton.mp ha];exact q.cn) (fun a ha=>by rw [List.mem_singleton.mp ha];exact hCex)
   hs hk rd ho hcc (fun a ha=>by rw [List.mem_singleton.mp ha];exact q.dn) fun h' tk own' G' I' S' x1 x2 keep=>?_
  exact last h' tk own' G' I' S' (x1 C (.head _)) (fun j dd h1 h2 h3=>x2 j dd h1 h2 h3 C (.head _) (by simpa using Ne.symm q.dc)) keep
end
end Mine
set_option tactic.hygienic false
namespace Mine
open PySem
noncomputable def setL (m:St):List (Nat × D)→St
 | []=>m
 | (i,d)::r=>setL (setV m i d) r
section
variable {P:Pk} {r:Nat} {c:TC} {ow:List Nat} {fr:Bool} {N:Nat} {A:Around} {env:Env} {sc:Shared} {as:List Addr}
structure Slots (c:TC) (ow:List Nat) (xs:List Str) (sl:List Nat):Prop where
 len:sl.length=xs.length
 at':∀ (j:Nat) (x:Str) (i:Nat),xs[j]?=some x→sl[j]?=some i→slotOf c.names x=some i∧(c.kind x=some .local∨c.kind x=some .cell)∧ow.contains i=false
theorem Slots.tail {x:Str} {xs:List Str} {i:Nat} {sl:List Nat} (h:Slots c ow (x::xs) (i::sl)):Slots c ow xs sl:=
 ⟨by simpa using h.len,fun j y k h1 h2=>h.at' (j+1) y k (h1) (h2)⟩
theorem dY:∀ {xs:List Str} {sl:List Nat} {vals:List Value} {ds:List D} {bs:List Addr} {s:Shared} {m:St} {own:Nat→Addr} {G:Addr→Prop} {Q:Shared→Prop},Slots c ow xs sl→Inv P r c A env ow sc as s m own G→vals.length=xs.length→RdAll P.H s.heap vals ds bs→(∀ a ∈ bs,G a) →
 (∀ h' tk,Inv P r c A env ow sc as { s with heap:=h',toks:=tk } (setL m (sl.zip ds)) own G→Stp env ow sl [] s m own G { s with heap:=h',toks:=tk } (setL m (sl.zip ds)) own G→(∀ b o,s.heap.get? b=some o→b ≠ env.locals→(∀ x,env.cells.lookup x ≠ some b)→h'.get? b=some o)→Q { s with heap:=h',toks:=tk }) →
 iI (model P.prog P.w) A env (xs.zip vals) Q s:=by
 intro xs
 induction xs with
 | nil=>
  intro sl vals ds bs s m own G Q hS I hl rd hg h
  have:sl=[]:=List.length_eq_zero_iff.mp (hS.len)
  subst this
  exact h s.heap s.toks I (Stp.refl ..) fun o_ o_ e o_ o_=>e
 | cons x xs dY=>
  intro sl vals ds bs s m own G Q hS I hl rd hg h
  cases sl with
  | nil=>have:=hS.len;cases this
  | cons i sl=>
  cases vals with
  | nil=>cases hl
  | cons v vals=>
  cases rd with
  | @cons _ _ d ds a1 a2 r1 r2=>
  obtain ⟨h1,h2,h3⟩:=hS.at' 0 x i rfl rfl
  show wpAny _ A (storeName env x v) _ _ s
  refine dB (Q:=fun s'=>iI (model P.prog P.w) A env (xs.zip vals) Q s') I h1 h2 r1 h3 (fun a ha=>hg a (List.mem_append_left _ ha)) fun h' tk I' S' keep=>?_
  have hg2:∀ a ∈ a2,G a:=fun a ha=>hg a (List.mem_append_right _ ha)
  have r2':RdAll P.H h' vals ds a2:=by
   refine r2.but (fun b=>b=env.locals∨∃ y,env.cells.lookup y=some b) (fun b o hb e=>keep b o e (fun q=>hb (.inl q)) fun y q=>hb (.inr ⟨y,q⟩)) (fun b o hb e=>?_) fun a ha hb=>?_
   ·rcases hb with rfl | ⟨y,q⟩
    ·obtain ⟨mm,hn⟩:=I.ns;exact bO hn o e
    ·obtain ⟨w,hc⟩:=I.cl y b q;exact ct hc o e
   ·rcases hb with rfl | ⟨y,q⟩
    ·exact I.gL (hg2 _ ha)
    ·exact I.gC y a q (hg2 a ha)
  refine dY hS.tail I' (by simpa using hl) r2' hg2 fun h'' tk' I'' S'' keep'=>?_
  exact h h'' tk' I'' (S'.join S'' (fun i q=>by rw [List.mem_singleton.mp q];exact .head _) fun i q=>.tail _ q) fun b o e q1 q2=>keep' b o (keep b o e q1 q2) q1 q2
set_option tactic.hygienic true in
theorem ny {tgt iter:PySem.Expr} {body:List PySem.Stmt} {pos:Pos} {xs:List Str} {sl:List Nat} {it':It} {body':Sms} {items:List (List D)} {s:Shared} {m:St} {own:Nat→Addr} {G:Addr→Prop} {res:Fl × St} (hset:isSet iter=false) (hS:Slots c ow xs sl)
 (hi:P.SI r c tgt xs iter it') (hb:SSs P r c ow fr N body body') (I:Inv P r c A env ow sc as s m own G) (ok1:okIt ow it'=true) (ok2:okSs ow body'=true) (ok3:gg ow it' (tchSs body')=true) (hz:cm it'=false)
 (ev:evIt P.Φ P.Γ it' m=some items) (evf:forL (fun vs m=>if vs.length=sl.length then exSs P.Φ P.Γ ow fr N body' (setL m (sl.zip vs)) else none) items m=some res) :
 wpAny (model P.prog P.w) A (exec (.For tgt iter body [] pos) env) (PF P r c A env ow sc as fr (sl++tchSs body') s m own G res) (fun o_ o_=>False) s:=by
 refine wpAny_For ?_ (fE hset)
 refine wpAny_mono (hi A env s m ow own G items I.pre ok1 ev) (fun xv sx q=>wpAny_mono q (fun itv s₂ q2=>?_) fun o_ o_ z=>z) fun o_ o_ z=>z
 obtain ⟨s₁,It,fp,wr,Pv,S,rfl,O⟩:=q2
 have I1:=I.keeps O.k1
 have wn:∀ b ∈ wr,_:=fun b hb=>I1.new_ne (O.wnew b hb)
 have fpF:∀ b ∈ fp,b ≠ env.locals∧∀ y,env.cells.lookup y ≠ some b:=fun b hb=>by
  rcases O.pin b hb with q | ⟨o,e,⟨vs,n,q⟩ | ⟨g,_⟩ | ⟨i,_,hi,rfl,xs,hm⟩⟩
  ·exact ⟨(I1.new_ne q).2.1,(I1.new_ne q).2.2.1⟩
  ·refine ⟨?_,fun y z=>?_⟩
   ·rintro rfl;obtain ⟨mm,hn⟩:=I1.ns;exact bO hn o e vs n q
   ·obtain ⟨w,hc⟩:=I1.cl y b z;exact ct hc o e vs n q
  ·exact ⟨fun z=>I.gL (z ▸ g),fun y z=>I.gC y b z g⟩
  ·exact ⟨((I.oG i _ hi hm rfl).2.2.1),((I.oG i _ hi hm rfl).2.2.2.1)⟩
 have fpO:∀ b ∈ fp,∀ i d,i ∈ tchSs body'→ow.contains i=true→m[i]?=some (some d)→noList d=false→b ≠ own i:=fun b hb i d hi ho hm hd=>by
  rcases O.pin b hb with q | ⟨o,e,⟨vs,n,q⟩ | ⟨g,_⟩ | ⟨j,hj,hoj,rfl,xs,hmj⟩⟩
  ·exact Ne.symm ((I1.new_ne q).2.2.2 i d ho hm hd)
  ·rintro rfl
   obtain ⟨_,_,_,_,o',e',q5⟩:=I1.oG i d ho hm hd
   rw [e] at e';cases e'
   rcases q5 with ⟨vs',n',z⟩ | ⟨vs',n',z⟩
   ·rw [q] at z;exact absurd (congrArg Obj.cls z) (by show ¬ (Value.type "tuple" = Value.type "list");decide)
   ·rw [q] at z;exact absurd (congrArg Obj.cls z) (by show ¬ (Value.type "tuple" = Value.type "dict");decide)
  ·rintro rfl;exact (I.oG i d ho hm hd).1 g
  ·refine I.oD j i _ d ?_ hoj ho hmj hm rfl hd
   rintro rfl
   unfold gg at ok3
   have:=List.all_eq_true.mp ok3 _ hj
   simp at this
   exact this hi
 have walkI:∀ (s':Shared) (mk:St) (ownk:Nat→Addr) (Gk:Addr→Prop) (k:Nat) (h':Heap) (tk:Nat),S k s'.heap→Inv P r c A env ow sc as s' mk ownk Gk→(∀ b o,b ∉ wr→s'.heap.get? b=some o→h'.get? b=some o)→Inv P r c A env ow sc as { s' with heap:=h',toks:=tk } mk ownk (fun a=>Gk a∨a ∈ wr):=
  fun s' mk ownk Gk k h' tk hSk Ik hk=>Ik.walk wr hk (fun b hb=>(wn b hb).1) (fun b hb=>⟨(wn b hb).2.1,(wn b hb).2.2.1⟩)
   (fun b hb o e vs n q=>by
    obtain ⟨o',e',h2,_⟩:=O.live k _ hSk b hb
    rw [e] at e';cases e'
    exact h2 hz (by rw [q]))
   (fun b hb=>.inr fun o e=>by
    obtain ⟨o',e',_,h3,h4⟩:=O.live k _ hSk b hb
    rw [e] at e';cases e'
    exact ⟨h3,h4⟩)
 let LI:Nat→Shared→Prop:=fun n s'=>∃ k mk ownk Gk,n+k=items.length∧S k s'.heap∧Inv P r c A env ow sc as s' mk ownk Gk∧Stp env ow (sl++tchSs body') wr s₂ m own G s' mk ownk Gk ∧
  forL (fun vs m=>if vs.length=sl.length then exSs P.Φ P.Γ ow fr N body' (setL m (sl.zip vs)) else none) (items.drop k) mk=some res
 refine codeAny_forLoop_any LI (fun n s' hLI=>?_) items.length ⟨0,m,own,G,by exact Eq.refl (items.length+0),O.st,(I1.keeps O.k2),Stp.refl ..,by exact evf⟩
 obtain ⟨k,mk,ownk,Gk,hnk,hSk,Ik,Sk,hev⟩:=hLI
 by_cases hlt:k < items.length
 ·obtain ⟨ds,hds⟩:∃ ds,items[k]?=some ds:=⟨items[k],List.getElem?_eq_getElem hlt⟩
  rw [List.drop_eq_getElem_cons hlt] at hev
  have hds':items[k]=ds:=by rw [List.getElem?_eq_getElem hlt] at hds;exact Option.some.inj hds
  rw [hds'] at hev
  simp only [f8] at hev
  have key:=O.T.item k s' env (fun s₃=>wpAny (model P.prog P.w) A (execs body env) (fun f s₄=>match f with
   | .next | .cont=>∃ m,m < n∧LI m s₄
   | .brk=>PF P r c A env ow sc as fr (sl++tchSs body') s m own G res .next s₄
   | .ret v=>PF P r c A env ow sc as fr (sl++tchSs body') s m own G res (.ret v) s₄) (fun o_ o_=>False) s₃) hlt hSk ?_
  ·refine wpAny_mono key (fun rr s₃ q=>?_) fun o_ o_ z=>z.elim
   cases rr with
   | none=>exact q.elim
   | some v=>
    refine wpAny_mono q (fun o_ s₄ q=>wpAny_mono q (fun o_ s₅ q=>wpAny_mono q (fun f s₆ q=>?_) fun o_ o_ z=>z.elim) fun o_ o_ z=>z.elim) fun o_ o_ z=>z.elim
    cases f<;>exact q
  ·intro vals h2 tk2 hPv hlen hS2 hk2
   obtain ⟨ds2,vas,e2,rdv,hgv⟩:=O.vals k vals hlt hPv
   rw [hds] at e2;cases e2
   have Sw:Stp env ow [] wr s' mk ownk Gk { s' with heap:=h2,toks:=tk2 } mk ownk (fun a=>Gk a∨a ∈ wr):=by
    refine ⟨fun b e=>?_,fun b o hb e o_ o_ o_=>hk2 b o hb e,fun o_ o_ o_ g=>.inl g,fun i d o_ h1 h2=>.inl ⟨rfl,d,h1,h2⟩,fun o_ o_=>⟨rfl,rfl⟩⟩
    by_cases hb:b ∈ wr
    ·obtain ⟨o,q,_⟩:=O.live _ _ hS2 b hb
     rw [show h2.get? b=_ from q] at e;cases e
    ·cases q:s'.heap.get? b with
     | none=>rfl
     | some o=>rw [show h2.get? b=_ from hk2 b o hb q] at e;cases e
   have rdv2:RdAll P.H h2 vals ds vas:=by
    refine rdv.mono' fun a o e q=>?_
    have nw:a ∉ wr:=fun z=>by rw [O.wnew a z] at e;cases e
    refine hk2 a o nw (Sk.keep a o nw (O.k2.get a o e) ?_ ?_ fun i d o_ ho hm hd=>?_)
    ·rintro rfl
     rcases q with ⟨vs,n,q⟩ | q
     ·obtain ⟨mm,hn⟩:=I1.ns;exact bO hn o e vs n q
     ·exact I.gL (hgv _ q)
    ·intro y z
     rcases q with ⟨vs,n,q⟩ | q
     ·obtain ⟨w,hc⟩:=I1.cl y a z;exact ct hc o e vs n q
     ·exact I.gC y a z (hgv a q)
    ·rintro rfl
     obtain ⟨h1,_,_,_,o',e',q5⟩:=I1.oG i d ho hm hd
     rcases q with ⟨vs,n,q⟩ | q
     ·rw [e] at e';cases e'
      rcases q5 with ⟨vs',n',z⟩ | ⟨vs',n',z⟩
      ·rw [q] at z;exact absurd (congrArg Obj.cls z) (by show ¬ (Value.type "tuple" = Value.type "list");decide)
      ·rw [q] at z;exact absurd (congrArg Obj.cls z) (by show ¬ (Value.type "tuple" = Value.type "dict");decide)
     ·exact h1 (hgv _ q)
   have hgk:∀ a ∈ vas,Gk a∨a ∈ wr:=fun a ha=>by
    obtain ⟨o,e,_⟩:=rdv.old a ha
    exact .inl (Sk.keepG a o (O.k2.get a o e) (hgv a ha))
   refine dY hS (walkI s' mk ownk Gk k h2 tk2 hSk Ik hk2) hlen rdv2 hgk fun h3 tk3 I3 S3 keep3=>?_
   have S23:=(Sk.join Sw (fun o_ q=>q) fun o_ q=>nomatch q).join (S3.weaken (fun o_ q=>q) fun o_ q=>nomatch q) (t:=sl++tchSs body') (fun o_ q=>q) (fun o_ q=>List.mem_append_left _ q)
   have hlen2:ds.length=sl.length:=by rw [← rdv2.length,hlen,hS.len]
   cases hbv:exSs P.Φ P.Γ ow fr N body' (setL mk (sl.zip ds)) with
   | none=>rw [if_pos hlen2,hbv] at hev;cases hev
   | some r1=>
    rw [if_pos hlen2,hbv] at hev
    refine wpAny_mono (hb A env sc as _ _ ownk _ r1 I3 ok2 hbv) (fun f s4 hf=>?_) fun o_ o_ z=>z
    obtain ⟨fl,m4⟩:=r1
    cases fl with
    | ret d=>
     simp only [Option.some.injEq] at hev
     subst hev
     obtain ⟨v,rfl,h2⟩:=hf
     exact ⟨v,rfl,h2⟩
    | next=>
     obtain ⟨rfl,own4,G4,I4,S4⟩:=hf
     simp only at hev
     refine ⟨n - 1,by lia,k+1,m4,own4,G4,by lia,?_,I4,S23.join (S4.weaken (fun o_ q=>q) fun o_ q=>nomatch q) (fun o_ q=>q) (fun o_ q=>List.mem_append_right _ q),hev⟩
     refine O.T.frame _ _ _ (O.T.frame _ _ _ hS2 fun b hb o e=>keep3 b o e (fpF b hb).1 (fpF b hb).2) fun b hb' o e=>S4.keep b o (fun q=>nomatch q) e (fpF b hb').1 (fpF b hb').2 fun i d hi ho hm hd=>?_
     rcases S23.ownS i d ho hm hd with ⟨q,d0,q1,q2⟩ | q
     ·rw [q];exact fpO b hb' i d0 hi ho q1 q2
     ·rintro rfl
      obtain ⟨o2,e2⟩:=O.obj _ hb'
      rw [e2] at q;cases q
 ·have hk:k=items.length:=by lia
  subst hk
  refine wpAny_mono (O.T.done s' (fun rr s3=>rr=none∧PF P r c A env ow sc as fr (sl++tchSs body') s m own G res .next s3) hSk fun h2 tk2 hk2=>⟨rfl,?_⟩) (fun rr s3 q=>?_) fun o_ o_ z=>z.elim
  ·simp only [List.drop_length,tv,Option.some.injEq] at hev
   subst hev
   refine ⟨rfl,ownk,_,(walkI s' mk ownk Gk _ h2 tk2 hSk Ik hk2),⟨fun b e=>?_,fun b o o_ e h1 h2' h3=>?_,fun a o e g=>.inl (Sk.keepG a o ((O.k1.trans O.k2).get a o e) g),fun i d ho hm hd=>?_,Sk.same⟩⟩
   ·by_cases hb:b ∈ wr
    ·exact O.k1.none (O.wnew b hb)
    ·refine (O.k1.trans O.k2).none (Sk.live b ?_)
     cases q:s'.heap.get? b with
     | none=>rfl
     | some o=>rw [show h2.get? b=_ from hk2 b o hb q] at e;cases e
   ·have nw:b ∉ wr:=fun z=>by rw [O.k1.none (O.wnew b z)] at e;cases e
    exact hk2 b o nw (Sk.keep b o nw ((O.k1.trans O.k2).get b o e) h1 h2' h3)
   ·rcases Sk.ownS i d ho hm hd with q | q
    ·exact .inl q
    ·exact .inr ((O.k1.trans O.k2).none q)
  ·obtain ⟨rfl,q⟩:=q
   exact wpAny_execs_nil q
set_option tactic.hygienic true in
theorem eF {f g:List D→St→Option (Fl × St)} (h:∀ vs m,f vs m=g vs m):∀ (items:List (List D)) (m:St),forL f items m=forL g items m
 | [],_=>rfl
 | vs::r,m=>by
  simp only [f8,h]
  cases g vs m with
  | none=>rfl
  | some q=>
   obtain ⟨fl,m'⟩:=q
   cases fl with
   | next=>exact eF h r m'
   | ret d=>rfl
set_option tactic.hygienic true in
theorem sy {tgt iter:PySem.Expr} {body:List PySem.Stmt} {pos:Pos} {x:Str} {i:Nat} {it':It} {body':Sms} (hset:isSet iter=false) (hs:slotOf c.names x=some i) (hk:c.kind x=some .local∨c.kind x=some .cell) (hi:P.SI r c tgt [x] iter it') (hb:SSs P r c ow fr N body body') :
 SS P r c ow fr N (.For tgt iter body [] pos) (.for1 i it' body'):=by
 intro A env sc as s m own G res I hok hev
 simp only [ui,Bool.and_eq_true,Bool.not_eq_true'] at hok
 rw [mo] at hev
 refine byG fun X_ g_=>?_
 refine aa hev fun items e1 hev=>?_
 refine g_ ?_
 split at hev
 ·cases hev
 rename_i hz
 refine ny (sl:=[i]) hset ⟨rfl,fun j y k h1 h2=>?_⟩ hi hb I hok.1.1.1 hok.1.2 hok.2 (by simpa using hz) e1 ?_
 ·cases j with
  | zero=>simp at h1 h2;subst h1;subst h2;exact ⟨hs,hk,hok.1.1.2⟩
  | succ j=>cases h1
 ·rw [← hev]
  refine eF (fun vs m=>?_) _ _
  match vs with
  | []=>rfl
  | [d]=>rfl
  | _::_::_=>rfl
set_option tactic.hygienic true in
theorem sA {tgt iter:PySem.Expr} {body:List PySem.Stmt} {pos:Pos} {x y:Str} {i j:Nat} {it':It} {body':Sms} (hset:isSet iter=false) (hs:slotOf c.names x=some i) (hk:c.kind x=some .local∨c.kind x=some .cell) (hs2:slotOf c.names y=some j) (hk2:c.kind y=some .local∨c.kind y=some .cell)
 (hi:P.SI r c tgt [x,y] iter it') (hb:SSs P r c ow fr N body body'):SS P r c ow fr N (.For tgt iter body [] pos) (.for2 i j it' body'):=by
 intro A env sc as s m own G res I hok hev
 simp only [uj,Bool.and_eq_true,Bool.not_eq_true'] at hok
 rw [mq] at hev
 refine aa hev fun items e1 hev=>?_
 split at hev
 ·cases hev
 rename_i hz
 refine ny (sl:=[i,j]) hset ⟨rfl,fun q y' k h1 h2=>?_⟩ hi hb I hok.1.1.1.1 hok.1.2 hok.2 (by simpa using hz) e1 ?_
 ·match q with
  | 0=>simp at h1 h2;subst h1;subst h2;exact ⟨hs,hk,hok.1.1.1.2⟩
  | 1=>simp at h1 h2;subst h1;subst h2;exact ⟨hs2,hk2,hok.1.1.2⟩
  | q+2=>cases h1
 ·rw [← hev]
  refine eF (fun vs m=>?_) _ _
  match vs with
  | []=>rfl
  | [d]=>rfl
  | [d,e]=>rfl
  | _::_::_::_=>rfl
set_option tactic.hygienic true in
theorem pB {test:PySem.Expr} {body:List PySem.Stmt} {pos:Pos} {q:Ex} {b:Sms} (ht:P.ST r c test q) (hb:SSs P r c ow fr N body b):SS P r c ow fr N (.While test body [] pos) (.wh q b):=by
 intro A env sc as s m own G res I hok hev
 simp only [k_wh,Bool.and_eq_true] at hok
 simp only [e_wh] at hev
 refine wpAny_While ?_
 let LI:Nat→Shared→Prop:=fun n s'=>∃ mk ownk Gk,Inv P r c A env ow sc as s' mk ownk Gk∧Stp env ow (tchSs b) [] s m own G s' mk ownk Gk∧whL (fun m=>(evE P.Φ P.Γ q m).bind truth) (fun m=>exSs P.Φ P.Γ ow fr N b m) n mk=some res
 refine codeAny_whileLoop LI (fun n s' hLI=>?_) N ⟨m,own,G,I,Stp.refl ..,hev⟩
 obtain ⟨mk,ownk,Gk,Ik,Sk,hev⟩:=hLI
 cases n with
 | zero=>cases hev
 | succ n=>
  simp only [ln] at hev
  cases hc:(evE P.Φ P.Γ q mk).bind truth with
  | none=>rw [hc] at hev;cases hev
  | some bb=>
   rw [hc] at hev
   refine aa hc fun d e1 e2=>?_
   refine wpAny_mono (ST.use (Q:=fun b' s2=>b'=bb∧Kp s' s2) ht Ik.pre hok.1 e1 e2 fun s2 k=>⟨rfl,k⟩) (fun b' s2 z=>?_) fun o_ o_ z=>z.elim
   obtain ⟨rfl,k⟩:=z
   cases b' with
   | false=>
    simp only [Option.some.injEq] at hev
    subst hev
    exact wpAny_execs_nil ⟨rfl,ownk,Gk,Ik.keeps k,Sk.join (Stp.kp k [] []) (fun o_ q=>q) fun o_ q=>nomatch q⟩
   | true=>
    simp only at hev
    cases hbv:exSs P.Φ P.Γ ow fr N b mk with
    | none=>rw [hbv] at hev;cases hev
    | some r1=>
     rw [hbv] at hev
     refine wpAny_mono (hb A env sc as s2 mk ownk Gk r1 (Ik.keeps k) hok.2 hbv) (fun f s3 hf=>?_) fun o_ o_ z=>z.elim
     obtain ⟨fl,m4⟩:=r1
     cases fl with
     | ret d=>
      simp only [Option.some.injEq] at hev
      subst hev
      obtain ⟨v,rfl,h2⟩:=hf
      exact ⟨v,rfl,h2⟩
     | next=>
      obtain ⟨rfl,own4,G4,I4,S4⟩:=hf
      simp only at hev
      exact ⟨n,Nat.lt_succ_self n,m4,own4,G4,I4,(Sk.join (Stp.kp k [] []) (t:=tchSs b) (fun o_ q=>q) fun o_ q=>nomatch q).join S4 (fun o_ q=>q) (fun o_ q=>q),hev⟩
end
end Mine
set_option tactic.hygienic true
namespace Mine
open PySem
section
variable {P:Pk} {r:Nat} {c:TC} {ow:List Nat} {fr:Bool} {N:Nat}
theorem uo {x y v:Str} {i j:Nat} {e':Ex} {px py pv pos tp:Pos} {tb:Nat} (hs:slotOf c.names x=some i) (hk:c.kind x=some .local∨c.kind x=some .cell) (hs2:slotOf c.names y=some j) (hk2:c.kind y=some .local∨c.kind y=some .cell) (he:P.SE r c (.Name v pv) e') :
 SS P r c ow fr N (.Assign [.Tuple [.Name x px,.Name y py] tb tp] (.Name v pv) pos) (.unp i j e'):=by
 intro A env sc as s m own G res I hok hev
 simp only [vC,Bool.and_eq_true,Bool.not_eq_true'] at hok
 rw [vf] at hev
 refine aa hev fun d e1 hev1=>?_
 clear hev
 obtain ⟨⟨a,b⟩,e2,rfl⟩:=ag hev1
 rw [lr e2] at e1
 refine wpAny_Assign_stores (SE.us he I.pre hok.1.1.1 e1 fun v s1 k1 bs rd g1 o_ o_ o_=>?_) rfl rfl
 cases rd using Rd.tupleE with
 | @mk t vs n as' ho hz ra=>
  have hl2:=ra.length
  obtain ⟨va,vb,hv⟩:∃ va vb,vs.toList=[va,vb]:=by
   match hq:vs.toList with
   | [va,vb]=>exact ⟨va,vb,rfl⟩
   | []=>rw [hq] at hl2;simp at hl2
   | [_]=>rw [hq] at hl2;simp at hl2
   | _::_::_::_=>rw [hq] at hl2;simp at hl2
  rw [hv] at ra
  have hsz:vs.size=2:=by rw [← Array.length_toList,hv];rfl
  show wpAny _ _ (assign (.Tuple [.Name x px,.Name y py] tb tp) env (.ref t)) _ _ _
  refine wpAny_assign_Tuple I.room.hd ⟨_,ho,rfl,_,rfl⟩ (by rw [hsz];rfl) rfl fun h' ext=>?_
  have k2:Kp s1 { s1 with heap:=h' }:=Kp.heap s1 h' fun b o e=>ext b o (Nat.ne_of_lt (Heap.lt_size e)) e
  rw [hv]
  have st:=dY (P:=P) (r:=r) (c:=c) (A:=A) (env:=env) (ow:=ow) (sc:=sc) (as:=as) (xs:=[x,y]) (sl:=[i,j]) (vals:=[va,vb]) (Q:=fun s'=>PF P r c A env ow sc as fr [i,j] s m own G (.next,setV (setV m i a) j b) .next s') ⟨rfl,fun q y' k h1 h2=>by
   match q with
   | 0=>simp at h1 h2;subst h1;subst h2;exact ⟨hs,hk,hok.1.2⟩
   | 1=>simp at h1 h2;subst h1;subst h2;exact ⟨hs2,hk2,hok.2⟩
   | q+2=>simp at h1⟩ (I.keeps (k1.trans k2)) rfl (ra.keeps k2.get) (g1 (by simpa [nm] using hok.1.1.2)) (fun h2 tk2 I3 S3 o_=>⟨rfl,own,G,I3,(Stp.kp (k1.trans k2) [] []).join S3 (fun o_ q=>nomatch q) fun o_ q=>q⟩)
  refine PyProof.Rows.assignInOrder_cons (wpAny_assign_Name (wpAny_mono st (fun o_ s3 h3=>?_) fun o_ o_ z=>z))
  refine PyProof.Rows.assignInOrder_cons (wpAny_assign_Name (wpAny_mono h3 (fun o_ s4 h4=>?_) fun o_ o_ z=>z))
  exact PyProof.Rows.assignInOrder_nil h4
end
end Mine
set_option tactic.hygienic true
namespace Mine
open PySem
section
variable {P:Pk} {r:Nat} {c:TC} {ow:List Nat} {fr:Bool} {N:Nat}
theorem lI (ff:Str→Option Bool) (gcs:Str→Bool) (hΦ:P.FnOk r) (hff:∀ g fr,ff g=some fr→P.fr g=some fr∧∃ q,P.defs g=some q) {n:Nat} {elt:PySem.Expr} {gens:List Comprehension} {scope:Scope} {pos:Pos} {e':Ex} (h:trE ff gcs n c (.ListComp elt gens scope pos)=some e') :
 ∃ tgt iter ifs xs a it b,gens=[⟨tgt,iter,ifs,0⟩]∧isSet iter=false∧xs.Nodup∧CompOk scope c xs∧P.SI r c tgt xs iter it∧P.SE r ⟨c.names++xs,kindC scope c.kind⟩ elt a∧SIfs P r ⟨c.names++xs,kindC scope c.kind⟩ ifs b∧e' = .comp a it b:=by
 cases n with
 | zero=>cases h
 | succ n=>exact eR (fun c=>bn ff gcs hΦ hff n c) (show mx (trE ff gcs n) c elt scope gens=some e' from h)
theorem sB {ff:Str→Option Bool} {gcs:Str→Bool} {n:Nat} {e:PySem.Expr} {e':Ex} (hc:isComp e=true) (h:trE ff gcs n c e=some e'):∃ a b c d,e = .ListComp a b c d:=by
 have w:=Bool.and_eq_true_iff.mp hc
 by_cases q:e.ctorIdx=8
 ·exact PySem.Expr.ListComp.elim (motive_1:=fun v=>∃ a b c d,v = .ListComp a b c d) e q fun a b c d=>⟨a,b,c,d,rfl⟩
 ·by_cases q9:e.ctorIdx=9
  ·exact (PySem.Expr.SetComp.elim (motive_1:=fun v=>trE ff gcs n c v=some e'→False) e q9 (fun a b cc d h=>by cases n<;>cases h) h).elim
  ·exact (PySem.Expr.DictComp.elim (motive_1:=fun v=>trE ff gcs n c v=some e'→False) e (Nat.le_antisymm (Nat.le_of_ble_eq_true w.2) (Nat.lt_of_le_of_ne (Nat.lt_of_le_of_ne (Nat.le_of_ble_eq_true w.1) (Ne.symm q)) (Ne.symm q9))) (fun a b cc d e h=>by cases n<;>cases h) h).elim
theorem iP {value:PySem.Expr} {t:PySem.Expr} {l:Nat} {env:Env} (h:isComp value=false):swapsWith value (some t) l env=pure false:=by
 cases value<;>first | rfl | cases h
theorem au {x:Str} {i:Nat} (h:varOf c x=some i):x ≠ ("__debug__" : Str)∧slotOf c.names x=some i∧(c.kind x=some .local∨c.kind x=some .cell):=by
 unfold varOf at h
 split at h
 ·cases h
 ·rename_i hd
  have hd:x ≠ ("__debug__" : Str):=fun q=>hd (beq_iff_eq.mpr q)
  cases hk:c.kind x with
  | none=>rw [hk] at h;cases h
  | some k=>rw [hk] at h;cases k<;>first | (cases h;done) | exact ⟨hd,h,.inl rfl⟩ | exact ⟨hd,h,.inr rfl⟩
theorem nz (ff:Str→Option Bool) (gcs:Str→Bool) (hΦ:P.FnOk r) (hff:∀ g fr,ff g=some fr→P.fr g=some fr∧∃ q,P.defs g=some q) {n:Nat} {x:Str} {i:Nat} {value:PySem.Expr} {e':Ex} {px pos:Pos} (hv:varOf c x=some i) (h:trE ff gcs n c value=some e') :
 SS P r c ow fr N (.Assign [.Name x px] value pos) (.asg i e'):=by
 have hs:=(au hv).2.1;have hk:=(au hv).2.2
 intro A env sc as s m own G res I hok hev
 cases hc:isComp value with
 | false=>exact qZ hs hk (bn ff gcs hΦ hff n c _ _ h).1 I hok hev (iP hc)
 | true=>
  refine byG fun X_ g_=>?_
  obtain ⟨elt,gens,scope,cp,rfl⟩:=sB hc h
  obtain ⟨tgt,iter,ifs,xs,a,it,b,rfl,h1,h2,h3,h4,h5,h6,rfl⟩:=lI ff gcs hΦ hff h
  obtain ⟨bb,hsw⟩:∃ bb,swapsWith (.ListComp elt [⟨tgt,iter,ifs,0⟩] scope cp) (some (.Name x px)) pos.line env=pure bb:=⟨_,rfl⟩
  refine g_ ?_
  cases bb with
  | true=>exact jJ h1 h2 h3 h4 h5 h6 hs hk I hok hev hsw
  | false=>exact qZ hs hk (nq h1 h2 h3 h4 h5 h6) I hok hev hsw
theorem pC {st:PySem.Stmt}:SS P r c ow fr N st .stuck:=by
 intro A env sc as s m own G res I hok hev
 simp [rE] at hev
theorem iQ (ff:Str→Option Bool) (gcs:Str→Bool) (hΦ:P.FnOk r) (hff:∀ g fr,ff g=some fr→P.fr g=some fr∧∃ q,P.defs g=some q) {x nm:Str} {px apos cpos pos:Pos} {args:List PySem.Expr} {st':Sm} (hp:(apos.endLine == cpos.line)=true) (h:my (trE ff gcs 40 c) c x nm args=some st'):SS P r c ow fr N (.Expr (.Call (.Attribute (.Name x px) nm apos) args [] cpos) pos) st':=by
 unfold my at h
 refine aa h fun i e1 hh=>?_
 clear h
 have h1:=(au e1).1;have h2:=(au e1).2.1;have h3:=(au e1).2.2
 split at hh
 ·rename_i hn
  have hn:=eq_of_beq hn
  subst hn
  cases args with
  | nil=>cases hh
  | cons a l_0=>
   cases l_0 with
   | nil=>
    replace hh:(if isStar a then none else (trE ff gcs 40 c a).map fun b=>Sm.app i b)=some st':=hh
    split at hh
    ·cases hh
    ·rename_i hs
     obtain ⟨b,e2,rfl⟩:=ag hh
     exact ul h1 hp (by simpa using hs) h2 h3 (bn ff gcs hΦ hff 40 c _ _ e2).1
   | cons=>cases hh
 ·split at hh
  ·rename_i hn
   have hn:=eq_of_beq hn
   subst hn
   cases args with
   | nil=>cases hh;exact um h1 hp h2 h3
   | cons=>cases hh
  ·split at hh
   ·rename_i hn
    have hn:=eq_of_beq hn
    subst hn
    cases args with
    | nil=>cases hh;exact un h1 hp h2 h3
    | cons=>cases hh
   ·cases hh
theorem nA (ff:Str→Option Bool) (gcs:Str→Bool) (hΦ:P.FnOk r) (hff:∀ g fr,ff g=some fr→P.fr g=some fr∧∃ q,P.defs g=some q) {value:PySem.Expr} {pos:Pos} {st':Sm} (h:trX ff gcs c value=some st'):SS P r c ow fr N (.Expr value pos) st':=by
 refine gz (G:=fun value=>SS P r c ow fr N (.Expr value pos) st') h (fun fn args kws cpos h=>?_) fun h=>nomatch h
 cases hq:kt fn with
 | some q=>
  rw [hq] at h
  have w:=aN h
  have hk:=Bool.and_eq_true_iff.mp w.1
  refine (fH hq).elim fun p z=>?_
  rw [z,List.isEmpty_iff.mp hk.1]
  exact iQ ff gcs hΦ hff hk.2 w.2
 | none=>
  rw [hq] at h
  obtain ⟨e,e1,rfl⟩:=ag (aN h).2
  exact vH (bn ff gcs hΦ hff 40 c _ _ e1).1 fun _=>rfl
theorem jK (ff:Str→Option Bool) (gcs:Str→Bool) (hΦ:P.FnOk r) (hff:∀ g fr,ff g=some fr→P.fr g=some fr∧∃ q,P.defs g=some q) {t value:PySem.Expr} {pos:Pos} {st':Sm} (h:tJ ff gcs c value t=some st'):SS P r c ow fr N (.Assign [t] value pos) st':=by
 refine eZ (G:=fun t=>SS P r c ow fr N (.Assign [t] value pos) st') h (fun x p h=>?_) fun h=>?_
 ·refine aa h fun i e1 h=>?_
  obtain ⟨e,e2,rfl⟩:=ag h
  exact nz ff gcs hΦ hff e1 e2
 refine kn (G:=fun t=>SS P r c ow fr N (.Assign [t] value pos) st') h (fun o ix p h=>?_) fun h=>?_
 ·refine aa h fun x e0 h=>?_
  have hs:=dW h
  refine aa hs.2 fun i e1 h=>?_
  refine aa h fun e e2 h=>?_
  obtain ⟨k,e3,rfl⟩:=ag h
  refine (bj e0).elim fun px z=>?_
  rw [z]
  exact sw ((au e1).1) ((au e1).2.1) ((au e1).2.2) (bn ff gcs hΦ hff 40 c _ _ e3).1 (bn ff gcs hΦ hff 40 c _ _ e2).1 fun env=>iP (Bool.or_eq_false_iff.mp hs.1).2
 refine gy (G:=fun t=>SS P r c ow fr N (.Assign [t] value pos) st') h (fun es tb tp h=>?_) fun h=>nomatch h
 have w:=aN h
 refine aa w.2 fun xs e0 h1=>?_
 refine byG fun X_ g_=>?_
 obtain ⟨v,hv⟩:=Option.isSome_iff_exists.mp w.1
 obtain ⟨pv,rfl⟩:=bj hv
 obtain ⟨x,y,p,q,rfl,rfl,_⟩:=dX e0
 refine aa (show ((varOf c x).bind fun i=>(varOf c y).bind fun j=>(trE ff gcs 40 c (.Name v pv)).map fun e=>Sm.unp i j e)=some st' from h1) fun i e1 h2=>?_
 refine aa h2 fun j e2 h3=>?_
 obtain ⟨e,e3,rfl⟩:=ag h3
 refine g_ ?_
 exact uo (au e1).2.1 (au e1).2.2 (au e2).2.1 (au e2).2.2 (bn ff gcs hΦ hff 40 c _ _ e3).1
theorem jL (ff:Str→Option Bool) (gcs:Str→Bool) (hΦ:P.FnOk r) (hff:∀ g fr,ff g=some fr→P.fr g=some fr∧∃ q,P.defs g=some q) {tgt iter:PySem.Expr} {body:List PySem.Stmt} {b:Option Sms} {pos:Pos} {st':Sm} (hb:∀ b',b=some b'→SSs P r c ow fr N body b') (h:r6 (trE ff gcs 40 c) c tgt iter b=some st'):SS P r c ow fr N (.For tgt iter body [] pos) st':=by
 unfold r6 at h
 split at h
 ·cases h
 ·rename_i hset
  refine aa h fun xs e1 hh1=>?_
  refine aa hh1 fun it e2 hh2=>?_
  obtain ⟨b',e3,h3⟩:=cf hh2
  clear h hh1 hh2
  have hi:=ue (bn ff gcs hΦ hff 40 c) e1 e2
  clear e1 e2
  cases xs with
  | nil=>have h:=h3;cases h
  | cons x l_0=>
   cases l_0 with
   | nil=>
    obtain ⟨i,e4,rfl⟩:=ag (show ((varOf c x).map fun i=>Sm.for1 i it b')=some st' from h3)
    have h3:=(au e4).2.2
    exact sy (by simpa using hset) ((au e4).2.1) h3 hi (hb _ e3)
   | cons y l_1=>
    cases l_1 with
    | nil=>
     refine byG fun X_ g_=>?_
     refine aa (show ((varOf c x).bind fun i=>(varOf c y).map fun j=>Sm.for2 i j it b')=some st' from h3) fun i e4 h=>?_
     obtain ⟨j,e5,rfl⟩:=ag h
     refine g_ ?_
     exact sA (by simpa using hset) ((au e4).2.1) ((au e4).2.2) ((au e5).2.1) ((au e5).2.2) hi (hb _ e3)
    | cons=>cases h3
theorem nB (ff:Str→Option Bool) (gcs:Str→Bool) (hΦ:P.FnOk r) (hff:∀ g fr,ff g=some fr→P.fr g=some fr∧∃ q,P.defs g=some q) {g:List PySem.Stmt→Option Sms} (ih:∀ ss ss',g ss=some ss'→SSs P r c ow fr N ss ss') {st:PySem.Stmt} {st':Sm} (h:trS ff gcs g c st=some st'):SS P r c ow fr N st st':=by
 have he:=fun (e:PySem.Expr) (e':Ex)=>bn ff gcs hΦ hff 40 c e e'
 refine rQ (G:=fun st=>SS P r c ow fr N st st') h (fun ts value pos h=>?_) fun h=>?_
 ·cases ts with
  | nil=>cases h
  | cons t ts=>
   cases ts with
   | nil=>exact jK ff gcs hΦ hff h
   | cons=>cases h
 refine rR (G:=fun st=>SS P r c ow fr N st st') h (fun value pos h=>nA ff gcs hΦ hff h) fun h=>?_
 refine rS (G:=fun st=>SS P r c ow fr N st st') h (fun test body orelse pos h=>?_) fun h=>?_
 ·refine aa h fun q e1 h=>?_
  refine aa h fun a e2 h=>?_
  obtain ⟨b,e3,rfl⟩:=ag h
  exact vI (he _ _ e1).2 (ih _ _ e2) (ih _ _ e3)
 refine rT (G:=fun st=>SS P r c ow fr N st st') h (fun test body orelse pos h=>?_) fun h=>?_
 ·have w:=aN h
  rw [List.isEmpty_iff.mp w.1]
  refine aa w.2 fun q e1 h=>?_
  obtain ⟨a,e2,rfl⟩:=ag h
  exact pB (he _ _ e1).2 (ih _ _ e2)
 refine rU (G:=fun st=>SS P r c ow fr N st st') h (fun tgt iter body orelse pos h=>?_) fun h=>?_
 ·have w:=aN h
  rw [List.isEmpty_iff.mp w.1]
  exact jL ff gcs hΦ hff (fun b' e=>ih _ _ e) w.2
 refine rV (G:=fun st=>SS P r c ow fr N st st') h (fun value pos h=>?_) fun h=>?_
 ·refine aa h fun v e0 h1=>?_
  obtain ⟨e,e1,rfl⟩:=ag h1
  rw [e0]
  exact uk (he _ _ e1).1
 exact rW (G:=fun st=>SS P r c ow fr N st st') h (fun a b pos h=>Option.some.inj h ▸ pC) fun h=>nomatch h
theorem lJ (ff:Str→Option Bool) (gcs:Str→Bool) (hΦ:P.FnOk r) (hff:∀ g fr,ff g=some fr→P.fr g=some fr∧∃ q,P.defs g=some q) (n:Nat):∀ (ss:List PySem.Stmt) (ss':Sms),trSs ff gcs n c ss=some ss'→SSs P r c ow fr N ss ss':=by
 induction n with
 | zero=>
  intro ss ss' h
  cases ss with
  | nil=>exact Option.some.inj h ▸ nx
  | cons=>cases h
 | succ n ih=>
  intro ss ss' h
  cases ss with
  | nil=>exact Option.some.inj h ▸ nx
  | cons s ss=>
   refine aa (show ((trS ff gcs (trSs ff gcs n c) c s).bind fun a=>(trSs ff gcs n c ss).map fun b=>Sms.cons a b)=some ss' from h) fun a e1 h=>?_
   obtain ⟨b,e2,rfl⟩:=ag h
   exact pA (nB ff gcs hΦ hff ih e1) (ih ss b e2)
theorem dZ:∀ (names:List (Str × NameKind)) (n:Nat) (acc:List (Str × Addr)) (x:Str),((x,NameKind.cell) ∈ names∨∃ a,acc.lookup x=some a)→∃ a,(cellsFrom n names acc).lookup x=some a:=by
 intro names
 induction names with
 | nil=>
  intro n acc x h
  exact h.elim (fun q=>nomatch q) fun q=>q
 | cons p_ rest ih_=>
  obtain ⟨y,k⟩:=p_
  intro n acc x h
  unfold cellsFrom
  by_cases hk:(k == .cell)=true
  ·rw [if_pos hk]
   refine ih_ _ _ x ?_
   by_cases hy:x=y
   ·subst hy;exact .inr ⟨n,by simp⟩
   ·rcases h with h | ⟨a,h⟩
    ·rcases List.mem_cons.mp h with e | h
     ·cases e;exact absurd rfl hy
     ·exact .inl h
    ·exact .inr ⟨a,by rw [List.lookup_cons,beq_eq_false_iff_ne.mpr hy];exact h⟩
  ·rw [if_neg hk]
   refine ih_ _ _ x ?_
   rcases h with h | h
   ·rcases List.mem_cons.mp h with e | h
    ·cases e;exact absurd rfl hk
    ·exact .inl h
   ·exact .inr h
theorem iR (kindOf:Str→Option NameKind):∀ (l:List (Str × Value)) (m:Str→Option Value) (x:Str),(l.map (·.1)).Nodup→kindOf x=some .local→bindL kindOf l m x=match l.lookup x with | some v=>some v | none=>m x
 | [],_,_,_,_=>rfl
 | (n,v)::rest,m,x,hn,hk=>by
  rw [List.map_cons,List.nodup_cons] at hn
  unfold bindL
  rw [iR kindOf rest _ x hn.2 hk,List.lookup_cons]
  cases hb:x == n with
  | true=>
   have e:=eq_of_beq hb
   subst e
   have:rest.lookup x=none:=by
    cases q:rest.lookup x with
    | none=>rfl
    | some w=>exact absurd (List.mem_map_of_mem (f:=(·.1)) (bl q)) hn.1
   rw [this]
   simp [hk]
  | false=>
   have hne:x ≠ n:=by simpa using hb
   cases q:rest.lookup x with
   | some w=>rfl
   | none=>
    simp only
    split
    ·simp [hne]
    ·rfl
theorem iS (kindOf:Str→Option NameKind):∀ (l:List (Str × Value)) (m:Str→Option Value) (x:Str),(l.map (·.1)).Nodup→kindOf x ≠ some .local→bindC kindOf l m x=match l.lookup x with | some v=>some v | none=>m x
 | [],_,_,_,_=>rfl
 | (n,v)::rest,m,x,hn,hk=>by
  rw [List.map_cons,List.nodup_cons] at hn
  unfold bindC
  rw [iS kindOf rest _ x hn.2 hk,List.lookup_cons]
  cases hb:x == n with
  | true=>
   have e:=eq_of_beq hb
   subst e
   have:rest.lookup x=none:=by
    cases q:rest.lookup x with
    | none=>rfl
    | some w=>exact absurd (List.mem_map_of_mem (f:=(·.1)) (bl q)) hn.1
   rw [this]
   simp [hk]
  | false=>
   have hne:x ≠ n:=by simpa using hb
   cases q:rest.lookup x with
   | some w=>rfl
   | none=>
    simp only
    split
    ·rfl
    ·simp [hne]
theorem cY:∀ {pn:List Str} {vs:List Value} {i:Nat} {x:Str} {v:Value},pn.Nodup→pn[i]?=some x→vs[i]?=some v→(pn.zip vs).lookup x=some v:=by
 intro pn
 induction pn with
 | nil=>intro vs i x v _ h _;cases h
 | cons p pn ih=>
  intro vs i x v hn h1 h2
  cases vs with
  | nil=>cases h2
  | cons w vs=>
   cases i with
   | zero=>
    cases h1
    cases h2
    rw [List.zip_cons_cons,List.lookup_cons,beq_self_eq_true]
   | succ i=>
    rw [List.nodup_cons] at hn
    have q:x ≠ p:=fun q=>hn.1 (q ▸ List.mem_of_getElem? h1)
    rw [List.zip_cons_cons,List.lookup_cons,beq_eq_false_iff_ne.mpr q]
    exact ih hn.2 h1 h2
structure FnCk (P:Pk) (ff:Str→Option Bool) (gcs:Str→Bool) (f:Str) (q:FR) (fn:Fn) (pn:List Str) (names:List Str):Prop where
 def':P.defs f=some q
 frs:P.fr f=some fn.fr
 nd:names.Nodup
 pre:pn=names.take fn.np
 np:fn.np≤names.length
 ns:fn.ns=names.length
 kinds:pn.all (fun x=>q.scope.names.lookup x == some .local||q.scope.names.lookup x == some .cell)=true
 bind:∀ (vs:List Value) (pm cd doc:Value),vs.length=fn.np→bindArgs (Calls.docDef f q.params q.body q.scope pm cd doc) ⟨vs,[]⟩=pure (pn.zip vs)
 co:q.scope.isCoroutine=false
 gen:q.scope.isGenerator=false
 kind:q.scope.kind = .function
 tr:trSs ff gcs 60 ⟨names,fun x=>q.scope.names.lookup x⟩ q.body=some fn.body
 ok:okSs fn.ow fn.body=true
 ow:fn.ow.all (fun i=>decide (fn.np≤i∧i < fn.ns))=true
theorem Room.deeper {A:Around} {r:Nat} (h:Room A (r+1)) (env:Env):Room (A.deeper env) r:=by
 refine ⟨h.hd,?_,?_⟩
 ·have:=h.depth
  show A.depth+1+r+60 < _
  lia
 ·have:=h.units
  show A.units+3+4 * r+300 < _
  lia
theorem fn_sound {ff:Str→Option Bool} {gcs:Str→Bool} (hΦ:P.FnOk r) (hff:∀ g fr,ff g=some fr→P.fr g=some fr∧∃ q,P.defs g=some q) {f:Str} {q:FR} {fn:Fn} {pn names:List Str} (K:FnCk P ff gcs f q fn pn names)
 (A:Around) (s:Shared) (vs:List Value) (ds:List D) (as:List Addr) (d:D) (hA:Room A (r+1)) (hg:P.GP s.heap) (ra:RdAll P.H s.heap vs ds as) (hev:runFn P.Φ P.Γ N fn ds=some d) :
 ∃ a o fd,P.mg f=some (.ref a)∧s.heap.get? a=some o∧o.data = .func fd∧wpAny (model P.prog P.w) A (call (.ref a) vs)
  (fun v s'=>Kp s s'∧∃ bs,Rd P.H s'.heap v d bs∧(∀ x ∈ bs,s.heap.get? x=none∨x ∈ as)∧(fn.fr=true→∀ x ∈ bs,s.heap.get? x=none)) (fun _ _=>False) s:=by
 refine byG fun X_ g_=>?_
 obtain ⟨a,o,pm,code,doc,h1,h2,h3,h4⟩:=hg.fn f q K.def'
 refine g_ ?_
 refine ⟨a,o,_,h1,h2,h3,?_⟩
 unfold runFn at hev
 split at hev
 case isFalse=>cases hev
 rename_i hnp
 have hvl:vs.length=fn.np:=by rw [ra.length,hnp]
 have hpl:pn.length=fn.np:=by rw [K.pre,List.length_take];have:=K.np;lia
 have hpn:pn.Nodup:=by rw [K.pre];exact K.nd.sublist (List.take_sublist _ _)
 have hz1:(pn.zip vs).map (·.1)=pn:=by rw [List.map_fst_zip];lia
 have hkin:∀ x ∈ pn,q.scope.names.lookup x=some .local∨q.scope.names.lookup x=some .cell:=fun x hx=>by
  have:=List.all_eq_true.mp K.kinds x hx
  simpa using this
 have ge0:∀ {i:Nat} {dd:D},(ds.map some++List.replicate (fn.ns - fn.np) none)[i]?=some (some dd)→ds[i]?=some dd∧i < fn.np:=fun {i dd} h=>by
  by_cases hi:i < ds.length
  ·rw [List.getElem?_append_left (by simpa using hi),List.getElem?_map] at h
   obtain ⟨x,e1,e2⟩:=Option.map_eq_some_iff.mp h
   cases e2
   exact ⟨e1,by lia⟩
  ·rw [List.getElem?_append_right (by simp;(exact Nat.le_of_not_lt hi))] at h
   have:=List.mem_of_getElem? h
   simp at this
 have owlo:∀ i,fn.ow.contains i=true→fn.np≤i∧i < fn.ns:=fun i h=>by
  have:=List.all_eq_true.mp K.ow i (by simpa using h)
  simpa using this
 have hzip:∀ x ∈ pn.zip vs,x.1 ∈ pn:=fun x hx=>by
  have:x.1 ∈ (pn.zip vs).map (·.1):=List.mem_map_of_mem hx
  rw [hz1] at this;exact this
 have snone:∀ b,s.heap.objs.size≤b→s.heap.get? b=none:=fun b hb=>aO hb
 refine wpAny_call (PyProof.Rows.call_cells_ret (by have:=hA.depth;lia) h2 h3 hg.nolimit h4 (K.bind vs pm code doc hvl) (fun x hx=>?_) (fun h₁ tk F X=>?_) K.co K.gen K.kind)
 ·rcases hkin x.1 (hzip x hx) with z | z
  ·exact .inl z
  ·obtain ⟨c0,e⟩:=dZ q.scope.names (s.heap.objs.size+1) [] x.1 (.inl (bl z))
   exact .inr ⟨z,by rw [e];rfl⟩
 ·have hcn:∀ x c0,(cellsFrom (s.heap.objs.size+1) q.scope.names []).lookup x=some c0→s.heap.get? c0=none:=fun x c0 e=>snone c0 (Nat.le_of_lt (X.above x c0 (mem_of_lookup e)))
  have hck:∀ x,q.scope.names.lookup x=some .cell→∃ c0,(cellsFrom (s.heap.objs.size+1) q.scope.names []).lookup x=some c0:=fun x e=>dZ _ _ _ x (.inl (bl e))
  have I:Inv P r ⟨names,fun x=>q.scope.names.lookup x⟩ (A.deeper (PyProof.Rows.envOfC f q.scope s.heap.objs.size a code)) (PyProof.Rows.envOfC f q.scope s.heap.objs.size a code) fn.ow s as { s with heap:=h₁,toks:=tk } (ds.map some++List.replicate (fn.ns - fn.np) none) (fun _=>0) (fun b=>b ∈ as∨h₁.get? b=none):=by
   refine ⟨hA.deeper _,hg,⟨K.kind,rfl,rfl,fun _=>rfl,?_,fun i hi=>?_,fun x hx=>hck x hx,fun x i dd hs hm hk=>?_⟩,fun b hb=>.inr hb,Kp.setHeap (Kp.refl s) F.keep,fun b hb=>hb.imp id fun hb=>?_,⟨_,F.ns⟩,fun x c0 e=>⟨_,X.cell x c0 e⟩,fun x y c0 e1 e2=>name_of_addr X.apart (mem_of_lookup e1) (mem_of_lookup e2),fun hb=>?_,fun x c0 e hb=>?_,snone _ (Nat.le_refl _),hcn,fun i dd hi hm _=>?_,fun i j dd dd' _ hi _ hm _ _ _=>?_⟩
   ·have:=K.ns;have:=K.np
    simp;lia
   ·have:=owlo i hi;have:=K.ns;have:=K.np
    simp;lia
   ·refine byG fun X_ g_=>?_
    obtain ⟨e1,e2⟩:=ge0 hm
    obtain ⟨hi,hx⟩:=bt hs
    have hpx:pn[i]?=some x:=by rw [K.pre,List.getElem?_take,if_pos e2];exact hx
    obtain ⟨v,bs,ev,rv,hb⟩:=ra.get e1
    refine g_ ?_
    refine ⟨v,bs,?_,rv.keeps F.keep,fun z=>?_,fun _ b hb'=>.inl (hb b hb')⟩
    ·rcases hk with hk | hk
     ·refine .inl ⟨hk,_,F.ns,?_⟩
      rw [iR (PyProof.Rows.envOfC f q.scope s.heap.objs.size a code).kindOf _ _ _ (by rw [hz1];exact hpn) hk,(cY hpn hpx ev)]
     ·obtain ⟨c0,e⟩:=hck x hk
      refine .inr ⟨hk,c0,e,?_⟩
      have:=X.cell x c0 e
      rw [iS _ _ _ _ (by rw [hz1];exact hpn) (fun z=>by rw [show (PyProof.Rows.envOfC f q.scope s.heap.objs.size a code).kindOf x=some .cell from hk] at z;cases z),(cY hpn hpx ev)] at this
      exact this
    ·have:=owlo i z;lia
   ·cases z:s.heap.get? b with
    | none=>rfl
    | some o'=>rw [F.keep b o' z] at hb;cases hb
   ·rcases hb with hb | hb
    ·obtain ⟨o',e,_⟩:=ra.old _ hb
     rw [show s.heap.get? (PyProof.Rows.envOfC f q.scope s.heap.objs.size a code).locals=none from snone _ (Nat.le_refl _)] at e;cases e
    ·obtain ⟨o',_,_,e,_⟩:=F.ns
     rw [show h₁.get? (PyProof.Rows.envOfC f q.scope s.heap.objs.size a code).locals=some o' from e] at hb;cases hb
   ·rcases hb with hb | hb
    ·obtain ⟨o',e',_⟩:=ra.old _ hb
     rw [hcn x c0 e] at e';cases e'
    ·obtain ⟨o',e',_⟩:=X.cell x c0 e
     rw [e'] at hb;cases hb
   ·have:=(ge0 hm).2;have:=owlo i hi;lia
   ·have:=(ge0 hm).2;have:=owlo i hi;lia
  have body:=lJ (P:=P) (r:=r) (c:=⟨names,fun x=>q.scope.names.lookup x⟩) (ow:=fn.ow) (fr:=fn.fr) (N:=N) ff gcs hΦ hff 60 q.body fn.body K.tr
  cases hx:exSs P.Φ P.Γ fn.ow fn.fr N fn.body (ds.map some++List.replicate (fn.ns - fn.np) none) with
  | none=>rw [hx] at hev;cases hev
  | some res=>
   rw [hx] at hev
   refine wpAny_mono (body _ _ _ _ _ _ _ _ res I K.ok hx) (fun fl s' hf=>?_) fun _ _ z=>z
   obtain ⟨fl',m'⟩:=res
   cases fl' with
   | next=>
    simp only [Option.some.injEq] at hev
    subst hev
    obtain ⟨rfl,own',G',I',_⟩:=hf
    exact ⟨I'.kp,[],.none,(fun _ z=>nomatch z),fun _ _ z=>nomatch z⟩
   | ret d'=>
    simp only [Option.some.injEq] at hev
    subst hev
    refine byG fun X_ g_=>?_
    obtain ⟨v,rfl,k,bs,rd,u1,u2⟩:=hf
    refine g_ ?_
    exact ⟨k,bs,rd,u1,u2⟩
end
end Mine
set_option tactic.hygienic false
namespace Mine
open PySem
noncomputable def mkΦ (Γ:Str→Option D) (N:Nat):List (Str × Fn)→Str→List D→Option D
 | []=>fun _ _=>none
 | (f,fn)::rest=>fun g args=>if g == f then runFn (mkΦ Γ N rest) Γ N fn args else mkΦ Γ N rest g args
theorem vJ (Γ:Str→Option D) (N:Nat):mkΦ Γ N []=fun (x:Str) (x_1:List D)=>none:=rfl
theorem uq (Γ:Str→Option D) (N:Nat) (f:Str) (fn:Fn) (rest:List (Str × Fn)):mkΦ Γ N ((f,fn)::rest)=fun (g:Str) (args:List D)=>if (g == f)=true then runFn (mkΦ Γ N rest) Γ N fn args else mkΦ Γ N rest g args:=rfl
noncomputable def Pk.with (P:Pk) (Φ:Str→List D→Option D):Pk:={ P with Φ:=Φ }
theorem Room.less {A:Around} {r r':Nat} (h:Room A r) (hr:r'≤r):Room A r':=⟨h.hd,by have:=h.depth;lia,by have:=h.units;lia⟩
theorem ur {P:Pk} {gcs:Str→Bool} {N:Nat} (hd:∀ g fr,P.fr g=some fr→∃ q,P.defs g=some q) :
 ∀ (tbl:List (Str × Fn)),(∀ e ∈ tbl,∃ q pn names,FnCk P P.fr gcs e.1 q e.2 pn names)→(P.with (mkΦ P.Γ N tbl)).FnOk tbl.length:=by
 intro tbl
 induction tbl with
 | nil=>
  intro _
  intro f fr _ A s vs ds as d _ _ _ h
  simp [Pk.with,vJ] at h
 | cons p_ rest ih_=>
  intro hc
  obtain ⟨f,fn⟩:=p_
  have ih:=ih_ fun e he=>hc e (.tail _ he)
  intro g fr hg A s vs ds as d hA hgp ra hev
  obtain ⟨q,pn,names,K⟩:=hc (f,fn) (.head _)
  have hgp':(P.with (mkΦ P.Γ N rest)).GP s.heap:=⟨hgp.g,hgp.b,hgp.nolimit,hgp.fn,hgp.gc,hgp.bi,hgp.bb,hgp.hs⟩
  simp only [Pk.with,uq] at hev
  by_cases hb:(g == f)=true
  ·rw [if_pos hb] at hev
   have e:=eq_of_beq hb
   subst e
   have K':FnCk (P.with (mkΦ P.Γ N rest)) P.fr gcs g q fn pn names:=⟨K.def',K.frs,K.nd,K.pre,K.np,K.ns,K.kinds,K.bind,K.co,K.gen,K.kind,K.tr,K.ok,K.ow⟩
   refine byG fun X_ g_=>?_
   obtain ⟨a,o,fd,h1,h2,h3,h4⟩:=fn_sound (N:=N) ih (fun g fr h=>⟨h,hd g fr h⟩) K' A s vs ds as d hA hgp' ra hev
   refine g_ ?_
   refine ⟨a,o,fd,h1,h2,h3,?_⟩
   have:fr=fn.fr:=by
    have:=K.frs
    rw [show P.fr g=some fr from hg] at this
    exact Option.some.inj this
   rw [this]
   exact h4
  ·rw [if_neg hb] at hev
   exact ih g fr hg A s vs ds as d (hA.less (Nat.le_succ _)) hgp' ra hev
end Mine
set_option tactic.hygienic false
namespace Mine
open PySem
noncomputable def eG (p:Arguments):Bool:=p.posonlyargs.isEmpty&&p.vararg.isNone&&p.kwonlyargs.isEmpty&&p.kwarg.isNone&&p.defaults.isEmpty
theorem gM:∀ (pn:List Str) (vs:List Value),pn.Nodup→vs.length=pn.length→pn.filterMap (fun n=>((pn.zip vs).lookup n).map (n,·))=pn.zip vs:=by
 intro pn vs hn hl
 have key:∀ (l:List Str) (ws:List Value),ws.length=l.length→(∀ (i:Nat) (x:Str) (v:Value),l[i]?=some x→ws[i]?=some v→(pn.zip vs).lookup x=some v)→l.filterMap (fun n=>((pn.zip vs).lookup n).map (n,·))=l.zip ws:=by
  intro l
  induction l with
  | nil=>intro ws _ _;rfl
  | cons x l ih=>
   intro ws hw h
   cases ws with
   | nil=>cases hw
   | cons v ws=>
    rw [List.filterMap_cons,h 0 x v rfl rfl]
    simp only [mX,List.zip_cons_cons]
    rw [ih ws (by simpa using hw) fun i y w h1 h2=>h (i+1) y w (h1) (h2)]
 exact key pn vs hl fun i x v h1 h2=>cY hn h1 h2
theorem pD {pn:List Str} {vs:List Value} (hn:pn.Nodup) (hl:vs.length=pn.length):(pn.take pn.length).filter (fun n=>((pn.zip vs).lookup n).isNone)=[]:=by
 rw [List.take_length,List.filter_eq_nil_iff]
 intro x hx
 obtain ⟨i,hi⟩:=List.getElem?_of_mem hx
 rw [cY hn hi (List.getElem?_eq_getElem (hl ▸ (List.getElem?_eq_some_iff.mp hi).1))]
 exact Bool.false_ne_true
theorem sC {f:Str} {as:List Arg} {kw:List (Option Expr)} {body:List Stmt} {scope:Scope} {pm cd doc:Value} {vs:List Value} (hl:vs.length=(as.map fun x:Arg=>x.arg).length) (hn:(as.map fun x:Arg=>x.arg).Nodup) :
 bindArgs (Calls.docDef f ⟨[],as,none,[],kw,none,[]⟩ body scope pm cd doc) ⟨vs,[]⟩=pure ((as.map fun x:Arg=>x.arg).zip vs):=by
 have hd:∀ n,List.drop n ((none:Option (Array Value)).getD #[]).toList=[]:=fun o_=>List.drop_nil
 refine (if_neg (c:=(decide (vs.length > (as.map fun x:Arg=>x.arg).length)&&true)=true) ?_).trans ?_
 ·rw [hl,decide_eq_false (Nat.lt_irrefl _)];exact Bool.false_ne_true
 refine (if_neg ?_).trans ?_
 ·rw [hd]
  show ¬ (!(((as.map fun x:Arg=>x.arg).take (as.map fun x:Arg=>x.arg).length).filter fun n=>(((as.map fun x:Arg=>x.arg).zip vs).lookup n).isNone).isEmpty)=true
  rw [pD hn hl];exact Bool.false_ne_true
 rw [hd,List.zip_nil_right]
 have hz:(as.map (fun x:Arg=>x.arg)++[]).filterMap (fun n=>(((as.map fun x:Arg=>x.arg).zip vs).lookup n).map (n,·))=(as.map fun x:Arg=>x.arg).zip vs:=by rw [List.append_nil];exact gM _ vs hn hl
 exact congrArg Sem.pure hz
theorem nD {p:Arguments} (h:eG p=true):p=⟨[],p.args,none,[],p.kw_defaults,none,[]⟩:=by
 obtain ⟨po,as,va,ko,kw,kd,de⟩:=p
 obtain ⟨h,h5⟩:=Bool.and_eq_true_iff.mp h
 obtain ⟨h,h4⟩:=Bool.and_eq_true_iff.mp h
 obtain ⟨h,h3⟩:=Bool.and_eq_true_iff.mp h
 obtain ⟨h1,h2⟩:=Bool.and_eq_true_iff.mp h
 rw [show po=[] from List.isEmpty_iff.mp h1,show ko=[] from List.isEmpty_iff.mp h3,show de=[] from List.isEmpty_iff.mp h5,show va=none from Option.isNone_iff_eq_none.mp h2,show kd=none from Option.isNone_iff_eq_none.mp h4]
theorem lK {f:Str} {params:Arguments} {body:List Stmt} {scope:Scope} {pm cd doc:Value} {vs:List Value} (h:eG params=true) (hl:vs.length=(params.args.map (·.arg)).length) (hn:(params.args.map (·.arg)).Nodup) :
 bindArgs (Calls.docDef f params body scope pm cd doc) ⟨vs,[]⟩=pure ((params.args.map (·.arg)).zip vs):=by
 rw [nD h];exact sC hl hn
noncomputable def sD (scope:Scope):List Str:=scope.names.filterMap fun (n,k)=>if k == .local||k == .cell then some n else none
noncomputable def iT:List Str→Bool
 | []=>true
 | x::r=>!r.contains x&&iT r
theorem pE (x_1:Str) (r:List Str):iT (x_1::r)=(!r.contains x_1&&iT r):=rfl
theorem d3:∀ {l:List Str},iT l=true→l.Nodup:=by
 intro l
 induction l with
 | nil=>
  intro _
  exact .nil
 | cons x r d3=>
  intro h
  simp only [pE,Bool.and_eq_true,Bool.not_eq_true',List.contains_eq_mem,decide_eq_false_iff_not] at h
  exact List.nodup_cons.mpr ⟨h.1,d3 h.2⟩
noncomputable def pnOf (q:FR):List Str:=q.params.args.map (·.arg)
noncomputable def jM (q:FR):List Str:=pnOf q++(sD q.scope).filter (fun x=>!(pnOf q).contains x)
noncomputable def fnChecks (q:FR) (ow:List Nat) (body:Sms):Bool:=
 eG q.params&&iT (jM q)&&(pnOf q).all (fun x=>q.scope.names.lookup x == some .local||q.scope.names.lookup x == some .cell) &&
 !q.scope.isCoroutine&&!q.scope.isGenerator&&q.scope.kind == .function&&okSs ow body&&ow.all (fun i=>decide ((pnOf q).length≤i∧i < (jM q).length))
noncomputable def mkFn (ff:Str→Option Bool) (gcs:Str→Bool) (q:FR) (ow:List Nat) (fr:Bool):Option Fn:=
 (trSs ff gcs 60 ⟨jM q,fun x=>q.scope.names.lookup x⟩ q.body).bind fun body=>
  if fnChecks q ow body then some ⟨(pnOf q).length,(jM q).length,ow,fr,body⟩ else none
noncomputable def iU (defs:Str→Option FR) (ff:Str→Option Bool) (gcs:Str→Bool):List (Str × List Nat × Bool)→Option (List (Str × Fn))
 | []=>some []
 | (f,ow,fr)::rest=>(defs f).bind fun q=>(mkFn ff gcs q ow fr).bind fun fn=>(iU defs ff gcs rest).bind fun t=>if ff f == some fr then some ((f,fn)::t) else none
theorem sE (defs:Str→Option FR) (ff:Str→Option Bool) (gcs:Str→Bool):iU defs ff gcs []=some []:=rfl
theorem nE (defs:Str→Option FR) (ff:Str→Option Bool) (gcs:Str→Bool) (f:Str) (ow:List Nat) (fr:Bool) (rest:List (Str × List Nat × Bool)):iU defs ff gcs ((f,ow,fr)::rest)=(defs f).bind fun (q:FR)=>(mkFn ff gcs q ow fr).bind fun (fn:Fn)=>(iU defs ff gcs rest).bind fun (t:List (Str × Fn))=>if (ff f == some fr)=true then some ((f,fn)::t) else none:=rfl
set_option tactic.hygienic true in
theorem pF {P:Pk} {gcs:Str→Bool}:∀ (sgs:List (Str × List Nat × Bool)) (tbl:List (Str × Fn)),iU P.defs P.fr gcs sgs=some tbl→∀ e ∈ tbl,∃ q pn names,FnCk P P.fr gcs e.1 q e.2 pn names:=by
 intro sgs
 induction sgs with
 | nil=>
  intro tbl h e he
  simp only [sE,Option.some.injEq] at h;subst h;cases he
 | cons p_ rest ih_=>
  obtain ⟨f,ow,fr⟩:=p_
  intro tbl h e he
  simp only [nE] at h
  refine aa h fun q e1 h=>?_
  refine aa h fun fn e2 h=>?_
  refine aa h fun t e3 h=>?_
  split at h
  case isFalse=>cases h
  rename_i hff
  cases h
  rcases List.mem_cons.mp he with rfl | he
  ·unfold mkFn at e2
   refine aa e2 fun body e4 e2=>?_
   split at e2
   case isFalse=>cases e2
   rename_i hck
   cases e2
   unfold fnChecks at hck
   simp only [Bool.and_eq_true,Bool.not_eq_true',beq_iff_eq] at hck
   refine byG fun X_ g_=>?_
   obtain ⟨⟨⟨⟨⟨⟨⟨c1,c2⟩,c3⟩,c4⟩,c5⟩,c6⟩,c7⟩,c8⟩:=hck
   refine g_ ?_
   refine ⟨q,pnOf q,jM q,⟨e1,by simpa using hff,(d3 c2),?_,?_,rfl,c3,fun vs pm cd doc hl=>lK c1 hl ?_,c4,c5,c6,e4,c7,c8⟩⟩
   ·simp [jM]
   ·simp [jM]
   ·exact (d3 c2).sublist (List.sublist_append_left _ _)
  ·exact ih_ t e3 e he
noncomputable def defsP (p:Program):Str→Option FR:=fun f=>((PyProof.Rows.recsOf p).find? fun d=>d.name == f).map fun d=>⟨d.params,d.body,d.scope⟩
noncomputable def ffOf (sgs:List (Str × List Nat × Bool)):Str→Option Bool:=fun f=>(sgs.lookup f).map (·.2)
noncomputable def q0 (p:Program) (loose:List Str):Bool:=
 biNames.all fun x=>!startupNames.contains x&&!loose.contains x&&!((PyProof.Rows.recsOf p).map (·.name)).contains x&&!((PyProof.Rows.litsOf p).map (·.1)).contains x&&!((PyProof.Rows.clssOf p loose).map (·.name)).contains x
theorem fJ {sgs:List (Str × List Nat × Bool)} {p:Program} {gcs:Str→Bool} {ff:Str→Option Bool}:∀ {sgs:List (Str × List Nat × Bool)} {tbl:List (Str × Fn)},iU (defsP p) ff gcs sgs=some tbl→∀ g fr,ffOf sgs g=some fr→∃ q,defsP p g=some q
 | [],_,_,g,fr,h=>by cases h
 | (f,ow,fr')::rest,tbl,h,g,fr,hg=>by
  simp only [nE] at h
  refine aa h fun q e1 h=>?_
  refine aa h fun fn e2 h=>?_
  refine aa h fun t e3 h=>?_
  unfold ffOf at hg
  rw [List.lookup_cons] at hg
  cases hb:g == f with
  | true=>rw [eq_of_beq hb];exact ⟨q,e1⟩
  | false=>
   rw [hb] at hg
   exact fJ (sgs:=sgs) e3 g fr hg
noncomputable def strH (w:World) (d:D):Int:=match strK d with
 | some x=>hashStr w x
 | none=>match unK d with
  | some p=>cx w p
  | none=>0
theorem kK:∀ l:List EnK,jn (l.map enK)=some l
 | []=>rfl
 | e::l=>by
  show ((unEn (enK e)).bind fun e=>(jn (l.map enK)).map fun l=>e::l)=_
  rw [kK l];rfl
theorem kL (p:StK):unK (stK p)=some p:=by
 show ((jn (p.2.map enK)).bind fun es=>if ([]:List D).isEmpty then some (p.1,es) else none)=_
 rw [kK];rfl
theorem strH_ok (w:World):(∀ x:Str,strH w (.str x)=hashStr w x)∧∀ p:StK,strH w (stK p)=cx w p:=⟨fun o_=>rfl,fun p=>by
 show (match unK (stK p) with | some p=>cx w p | none=>0)=_
 rw [kL]⟩
theorem law_run {p:Program} {loose:List Str} {mean:ExcName→Option Value} {mg mb:Str→Option Value} {prog:Program} {w:World} {s:Shared} {fa l:Addr} {vs:Array Value} {n:Nat} {xs:List D} {sgs:List (Str × List Nat × Bool)} {tbl:List (Str × Fn)} {gcs:Str→Bool} {Γ:Str→Option D} {N:Nat} {H:D→Int}
 (T:PyProof.Rows.Top p loose mean mg mb s.heap) (hbi:q0 p loose=true) (e:iU (defsP p) (ffOf sgs) gcs sgs=some tbl) (hH:mA ⟨prog,w,H,mg,mb,mkΦ Γ N tbl,Γ,defsP p,ffOf sgs⟩) (hΓ:∀ x d,Γ x=some d→noList d=true∧∃ v,mg x=some v∧Rd H s.heap v d [])
 (hmg:mg "law" = some (.ref fa)) (hl:s.heap.get? l=some (listObj vs n)) (hz:vs.size≤sizeLine) (ra:RdAll H s.heap vs.toList xs []) (hfr:∃ b,ffOf sgs "law" = some b) (hn:tbl.length≤100)
 (hev:mkΦ Γ N tbl "law" [.list xs]=some (.bool true)) {Q E:Value→Shared→Prop} (hQ:∀ s',Kp s s'→Q (.bool true) s'):wpAny (model prog w) callerA (call (.ref fa) [.ref l]) Q E s:=by
 let P:Pk:=⟨prog,w,H,mg,mb,mkΦ Γ N tbl,Γ,defsP p,ffOf sgs⟩
 have gp:P.GP s.heap:=by
  refine ⟨T.g,T.b,T.nolimit,fun f r h=>?_,hΓ,fun x hx=>?_,T.builtins,hH⟩
  ·obtain ⟨d,e1,rfl⟩:=ag h
   have hnm:=List.find?_some e1
   have:=T.fn d (List.mem_of_find?_eq_some e1)
   rw [eq_of_beq hnm] at this
   exact this
  ·have:=List.all_eq_true.mp hbi x hx
   simp only [Bool.and_eq_true,Bool.not_eq_true',List.contains_eq_mem,decide_eq_false_iff_not] at this
   obtain ⟨⟨⟨⟨h1,h2⟩,h3⟩,h4⟩,h5⟩:=this
   exact T.free x h1 h2 h3 h4 h5
 obtain ⟨b,hb⟩:=hfr
 have rm:Room callerA tbl.length:=by
  refine ⟨rfl,?_,?_⟩
  ·show 1+claimMargin+tbl.length+60 < recursionLimit
   have:1+claimMargin+100+60 < recursionLimit:=by decide
   lia
  ·show 4+4 * tbl.length+300 < cLine
   have:4+4 * 100+300 < cLine:=by decide
   lia
 refine byG fun X_ g_=>?_
 obtain ⟨a,o,fd,h1,h2,h3,h4⟩:=(ur (P:=P) (gcs:=gcs) (N:=N) (fun g fr h=>fJ (sgs:=sgs) e g fr h) tbl (pF sgs tbl e)) "law" b hb callerA s [.ref l] [.list xs] _ (.bool true) rm gp (RdAll.one (.list hl hz ra)) hev
 refine g_ ?_
 have:a=fa:=by
  have h1:mg "law" = some (.ref a):=h1
  rw [hmg] at h1;cases h1;rfl
 subst this
 refine wpAny_mono h4 (fun v s' q=>?_) fun o_ o_ z=>z.elim
 obtain ⟨k,bs,rd,_⟩:=q
 cases rd
 exact hQ s' k
end Mine
set_option tactic.hygienic false
namespace Mine
open PySem
noncomputable def dD:List Value→List Str→Bool
 | [],[]=>true
 | .str x _::vs,y::ys=>x == y&&dD vs ys
 | _,_=>false
theorem any_some {α:Type} {o:Option α} {p:α→Bool} (h:o.any p=true):∃ x,o=some x∧p x=true:=by
 cases o with
 | none=>cases h
 | some x=>exact ⟨x,rfl,h⟩
noncomputable def refA:Value→Option Addr
 | .ref a=>some a
 | _=>none
noncomputable def tupO:Obj→Option (String × Array Value)
 | ⟨.type t,none,.seq vs _,⟨[]⟩⟩=>some (t,vs)
 | _=>none
theorem nF {v:Value} {a:Addr} (h:refA v=some a):v = .ref a:=by
 cases v<;>first | (cases h;done) | (cases h;rfl)
noncomputable def jN (h:Heap) (v:Value) (xs:List Str):Bool:=(refA v).any fun a=>(h.get? a).any fun o=>(tupO o).any fun p=>p.1 == "tuple" && dD p.2.toList xs
theorem gj {h:Heap} {v:Value} {xs:List Str} (e:jN h v xs=true):∃ a o p,v = .ref a∧h.get? a=some o∧tupO o=some p∧p.1 = "tuple" ∧ dD p.2.toList xs=true:=by
 refine byG fun X_ g_=>?_
 obtain ⟨a,e1,e⟩:=any_some e
 obtain ⟨o,e2,e⟩:=any_some e
 obtain ⟨p,e3,e⟩:=any_some e
 obtain ⟨e4,e5⟩:=Bool.and_eq_true_iff.mp e
 refine g_ ?_
 exact ⟨a,o,p,nF e1,e2,e3,eq_of_beq e4,e5⟩
theorem nG {o:Obj} {p:String × Array Value} (h:tupO o=some p):∃ n,o=⟨.type p.1,none,.seq p.2 n,⟨[]⟩⟩:=by
 obtain ⟨c,d,t,⟨l⟩⟩:=o
 cases c<;>first | (cases h;done) | skip
 cases d<;>first | (cases h;done) | skip
 cases t<;>first | (cases h;done) | skip
 cases l<;>first | (cases h;done) | skip
 cases h
 exact ⟨_,rfl⟩
set_option tactic.hygienic true in
theorem lL {H:D→Int} {h:Heap} {vs:List Value}:∀ {xs:List Str},dD vs xs=true→(∀ x ∈ xs,x.length≤sizeLine∧PyData.strOk x=true)→RdAll H h vs (xs.map .str) []:=by
 induction vs with
 | nil=>intro xs e _;cases xs with
  | nil=>exact .nil
  | cons=>cases e
 | cons v vs ih=>
  intro xs e ok
  cases xs with
  | nil=>cases v<;>cases e
  | cons y ys=>
   cases v<;>first | (cases e;done) | skip
   rename_i x t
   obtain ⟨e1,e2⟩:=Bool.and_eq_true_iff.mp (show (x == y&&dD vs ys)=true from e)
   have q:=eq_of_beq e1
   subst q
   exact .cons (.str x t (ok x (.head _)).1 (ok x (.head _)).2) (ih e2 fun z hz=>ok z (.tail _ hz))
theorem pG {H:D→Int} {h:Heap} {v:Value} {xs:List Str} (e:jN h v xs=true) (hz:xs.length≤sizeLine) (ok:∀ x ∈ xs,x.length≤sizeLine∧PyData.strOk x=true):Rd H h v (.tuple (xs.map .str)) []:=by
 obtain ⟨a,o,p,rfl,ho,e3,e4,e5⟩:=gj e
 obtain ⟨n,rfl⟩:=nG e3
 rw [e4] at ho
 have ra:=lL (H:=H) (h:=h) e5 ok
 refine .tuple ho ?_ ra
 have:=ra.length
 simp only [Array.length_toList,lX] at this
 rw [this];exact hz
theorem jO {h h':Heap} {v:Value} {xs:List Str} (e:jN h v xs=true) (hk:∀ b o,h.get? b=some o→h'.get? b=some o):jN h' v xs=true:=by
 obtain ⟨a,o,p,rfl,ho,e3,e4,e5⟩:=gj e
 show ((h'.get? a).any fun o=>(tupO o).any fun p=>p.1 == "tuple" && dD p.2.toList xs)=true
 rw [hk _ _ ho]
 show ((tupO o).any fun p=>p.1 == "tuple" && dD p.2.toList xs)=true
 rw [e3]
 exact Bool.and_eq_true_iff.mpr ⟨beq_iff_eq.mpr e4,e5⟩
noncomputable def vW (lv:List (Str × List Str)) (s:Shared):Bool:=lv.all fun q=>(s.heap.nsMap mainGlobals q.1).any fun v=>jN s.heap v q.2
noncomputable def vK (lv:List (Str × List Str)) (mg:Str→Option Value) (h:Heap):Prop:=∀ q ∈ lv,∃ v,mg q.1=some v∧jN h v q.2=true
end Mine
set_option tactic.hygienic false
namespace Mine
open PySem
inductive Con | t (xs:List Str) | s (x:Str) | i (n:Int)
noncomputable def Con.d:Con→D
 | .t xs=>.tuple (xs.map .str)
 | .s x=>.str x
 | .i n=>.int n
noncomputable def rf (x:Str):Value→Bool
 | .str y _=>y == x
 | _=>false
noncomputable def rg (n:Int):Value→Bool
 | .int m _=>m == n
 | _=>false
noncomputable def nH (h:Heap) (v:Value):Con→Bool
 | .t xs=>jN h v xs
 | .s x=>rf x v
 | .i n=>rg n v
noncomputable def kM (x:Str):Bool:=decide (x.length≤sizeLine)&&PyData.strOk x
noncomputable def Con.fit:Con→Bool
 | .t xs=>decide (xs.length≤sizeLine)&&xs.all kM
 | .s x=>kM x
 | .i _=>true
set_option tactic.hygienic true in
theorem pH {H:D→Int} {h:Heap} {v:Value}:∀ {k:Con},nH h v k=true→k.fit=true→Rd H h v k.d []
 | .t xs,e,f=>by
  rw [show (Con.t xs).fit=(decide (xs.length≤sizeLine)&&xs.all kM) from rfl,Bool.and_eq_true,decide_eq_true_eq] at f
  exact pG e f.1 fun x hx=>by
   have:=List.all_eq_true.mp f.2 x hx
   rw [kM,Bool.and_eq_true,decide_eq_true_eq] at this
   exact this
 | .s x,e,f=>by
  rw [show (Con.s x).fit=(decide (x.length≤sizeLine)&&PyData.strOk x) from rfl,Bool.and_eq_true,decide_eq_true_eq] at f
  replace e:rf x v=true:=e
  cases v<;>first | (cases e;done) | skip
  rename_i y t
  have:y=x:=eq_of_beq (show (y == x)=true from e)
  subst this
  exact .str _ _ f.1 f.2
 | .i n,e,_=>by
  replace e:rg n v=true:=e
  cases v<;>first | (cases e;done) | skip
  rename_i y t
  have:y=n:=eq_of_beq (show (y == n)=true from e)
  subst this
  exact .int _ _
theorem jP {h h':Heap} {v:Value} (hk:∀ b o,h.get? b=some o→h'.get? b=some o):∀ {k:Con},nH h v k=true→nH h' v k=true
 | .t _,e=>jO e hk
 | .s _,e=>e
 | .i _,e=>e
noncomputable def consAt (lv:List (Str × Con)) (s:Shared):Bool:=lv.all fun q=>(s.heap.nsMap mainGlobals q.1).any fun v=>nH s.heap v q.2
noncomputable def ConsAre (lv:List (Str × Con)) (mg:Str→Option Value) (h:Heap):Prop:=∀ q ∈ lv,∃ v,mg q.1=some v∧nH h v q.2=true
theorem cons_of {lv:List (Str × Con)} (s:Shared) (e:consAt lv s=true):ConsAre lv (s.heap.nsMap mainGlobals) s.heap:=by
 intro q hq
 have:=List.all_eq_true.mp e q hq
 simp only [Option.any_eq_true] at this
 exact this
theorem ConsAre.keeps {lv:List (Str × Con)} (mg:Str→Option Value) (h h':Heap) (x:ConsAre lv mg h) (hk:∀ b o,h.get? b=some o→h'.get? b=some o):ConsAre lv mg h':=
 fun q hq=>(x q hq).imp fun v r=>⟨r.1,jP hk r.2⟩
noncomputable def gcOf (lv:List (Str × Con)):Str→Option D:=fun x=>(lv.lookup x).map Con.d
theorem nI {lv:List (Str × Con)} {x:Str} {k:Con} (e:lv.lookup x=some k):(x,k) ∈ lv:=by
 induction lv with
 | nil=>cases e
 | cons p lv ih=>
  rw [List.lookup_cons] at e
  cases hb:x == p.1 with
  | true=>
   rw [hb] at e
   cases e
   rw [eq_of_beq hb];exact .head _
  | false=>
   rw [hb] at e
   exact .tail _ (ih e)
theorem gcOf_rd {lv:List (Str × Con)} (hf:(lv.all fun q=>q.2.fit&&noList q.2.d)=true) {mg:Str→Option Value} {h:Heap} (X:ConsAre lv mg h) {H:D→Int} {x:Str} {d:D} (e:gcOf lv x=some d):noList d=true∧∃ v,mg x=some v∧Rd H h v d []:=by
 refine byG fun X_ g_=>?_
 obtain ⟨k,e1,rfl⟩:=ag e
 have:=List.all_eq_true.mp hf _ (nI e1)
 rw [Bool.and_eq_true] at this
 obtain ⟨v,h1,h2⟩:=X _ (nI e1)
 refine g_ ?_
 exact ⟨this.2,v,h1,pH h2 this.1⟩
end Mine
set_option tactic.hygienic false
namespace Mine
open PySem
theorem eS (a b:String):(Str.ofString a=Str.ofString b)↔a=b:=by
 constructor
 ·intro h
  rw [Str.ofString_eq_toList,Str.ofString_eq_toList] at h
  have h:=congrArg (fun x:Str=>x.cps.toList) h
  simp only at h
  exact String.toList_inj.mp (by
   have inj:∀ (l m:List Char),l.map Char.toNat=m.map Char.toNat→l=m:=by
    intro l
    induction l with
    | nil=>intro m h;cases m<;>simp_all
    | cons c l ih=>
     intro m h
     cases m with
     | nil=>cases h
     | cons d m=>
      simp only [List.map_cons,List.cons.injEq] at h
      rw [ih m h.2]
      have:c=d:=Char.ext (UInt32.toNat_inj.mp h.1)
      rw [this]
   exact inj _ _ h)
 ·rintro rfl;rfl
theorem jQ (a b:String):(Str.ofString a == Str.ofString b)=decide (a=b):=by
 rw [Bool.eq_iff_iff];simp [eS]
theorem jR {α:Type} {f:List D→Option D} {c:List D→Option Bool} (h:α→List D) (p:α→Bool) (g:α→D):∀ (es:List α),(∀ e ∈ es,c (h e)=some (p e))→(∀ e ∈ es,p e=true→f (h e)=some (g e)) →
 dO f c (es.map h)=some ((es.filter p).map g):=by
 intro es
 induction es with
 | nil=>
  intro _ _
  exact rfl
 | cons e es ih_=>
  intro hc hf
  have ih:=ih_ (fun x hx=>hc x (.tail _ hx)) (fun x hx=>hf x (.tail _ hx))
  simp only [List.map_cons,me,hc e (.head _),bX]
  cases hp:p e with
  | true=>simp [hf e (.head _) hp,ih,hp]
  | false=>simp [ih,hp]
set_option tactic.hygienic true in
theorem kN {b:List D→St→Option (Fl × St)} (I:Nat→St→Prop):∀ (items:List (List D)) (k:Nat) (m:St),I k m→(∀ i vs m,items[i]?=some vs→I (k+i) m→∃ m',b vs m=some (.next,m')∧I (k+i+1) m')→∃ m',forL b items m=some (.next,m')∧I (k+items.length) m':=by
 intro items
 induction items with
 | nil=>
  intro k m h _
  exact ⟨m,rfl,h⟩
 | cons vs r ih_=>
  intro k m h hs
  obtain ⟨m1,e1,h1⟩:=hs 0 vs m rfl h
  obtain ⟨m2,e2,h2⟩:=ih_ (k+1) m1 h1 fun i ws m hi hm=>by
   have:=hs (i+1) ws m (hi) (by rw [show k+(i+1)=k+1+i by lia];exact hm)
   rw [show k+(i+1)+1=k+1+i+1 by lia] at this
   exact this
  refine ⟨m2,?_,by rw [List.length_cons,show k+(r.length+1)=k+1+r.length by lia];exact h2⟩
  simp only [f8,e1]
  exact e2
theorem ex1 {α τ:Type} {f:α→τ} {m:τ} {P:τ→Prop} (h:∃ a,m=f a) (k:∀ a,P (f a)):P m:=h.elim fun a q=>q ▸ k a
theorem al1 {α τ:Type} {f:α→τ} {P:τ→Prop} (k:∀ a,P (f a)) (m:τ) (h:∃ a,m=f a):P m:=ex1 h k
theorem ex2 {α β τ:Type} {f:α→β→τ} {m:τ} {P:τ→Prop} (h:∃ a b,m=f a b) (k:∀ a b,P (f a b)):P m:=h.elim fun a h=>h.elim fun b q=>q ▸ k a b
theorem al2 {α β τ:Type} {f:α→β→τ} {P:τ→Prop} (k:∀ a b,P (f a b)) (m:τ) (h:∃ a b,m=f a b):P m:=ex2 h k
theorem ex4 {α β γ δ τ:Type} {f:α→β→γ→δ→τ} {m:τ} {P:τ→Prop} (h:∃ a b c d,m=f a b c d) (k:∀ a b c d,P (f a b c d)):P m:=h.elim fun a h=>h.elim fun b h=>h.elim fun c h=>h.elim fun d q=>q ▸ k a b c d
theorem al4 {α β γ δ τ:Type} {f:α→β→γ→δ→τ} {P:τ→Prop} (k:∀ a b c d,P (f a b c d)) (m:τ) (h:∃ a b c d,m=f a b c d):P m:=ex4 h k
theorem ex5 {α β γ δ ε τ:Type} {f:α→β→γ→δ→ε→τ} {m:τ} {P:τ→Prop} (h:∃ a b c d e,m=f a b c d e) (k:∀ a b c d e,P (f a b c d e)):P m:=h.elim fun a h=>h.elim fun b h=>h.elim fun c h=>h.elim fun d h=>h.elim fun e q=>q ▸ k a b c d e
theorem al5 {α β γ δ ε τ:Type} {f:α→β→γ→δ→ε→τ} {P:τ→Prop} (k:∀ a b c d e,P (f a b c d e)) (m:τ) (h:∃ a b c d e,m=f a b c d e):P m:=ex5 h k
theorem jS {α:Type} (h:α→D) (es:List α):one (es.map h)=es.map fun e=>[h e]:=by
 simp [one]
section
variable {Φ:Str→List D→Option D} {Γ:Str→Option D} {m:St} {N:Nat}
theorem ev_v {i:Nat} {d:D} (h:m[i]?=some (some d)):evE Φ Γ (.v i) m=some d:=by rw [x_v,h];rfl
theorem ad {a b:Ex} {x y d:D} (h1:evE Φ Γ a m=some x) (h2:evE Φ Γ b m=some y) (h3:item x y=some d):evE Φ Γ (.idx a b) m=some d:=by rw [bd,h1,h2];exact h3
theorem ai {q:Bool} {f:Str} {es:Exs} {xs:List D} {d:D} (h1:evEs Φ Γ es m=some xs) (h2:Φ f xs=some d):evE Φ Γ (.call q f es) m=some d:=by rw [be,h1];exact h2
theorem aj {op:CmpOp} {a b:Ex} {x y:D} {r:Bool} (h1:evE Φ Γ a m=some x) (h2:evE Φ Γ b m=some y) (h3:bm op x y=some r):evE Φ Γ (.cmp op a b) m=some (.bool r):=by rw [dP,h1,h2,bX,bX,h3];rfl
theorem d4 {a:Ex} {b:Bool} (h:evE Φ Γ a m=some (.bool b)):evE Φ Γ (.not a) m=some (.bool (!b)):=by rw [rC,h];rfl
theorem aT {f:B1} {a:Ex} {x d:D} (h:evE Φ Γ a m=some x) (h2:b1 f x=some d):evE Φ Γ (.b1 f a) m=some d:=by rw [x_b1,h];exact h2
theorem aA {op:Operator} {a b:Ex} {x y d:D} (h1:evE Φ Γ a m=some x) (h2:evE Φ Γ b m=some y) (h3:ck op x y=some d):evE Φ Γ (.bin op a b) m=some d:=by rw [ba,h1,h2];exact h3
theorem aZ {es:Exs} {xs:List D} (h:evEs Φ Γ es m=some xs):evE Φ Γ (.tup es) m=some (.tuple xs):=by rw [cB,h];rfl
theorem jT {o1 o2:CmpOp} {a b c:Ex} {x y z:D} {r:Bool} (h1:evE Φ Γ a m=some x) (h2:evE Φ Γ b m=some y) (h3:bm o1 x y=some true) (h4:evE Φ Γ c m=some z) (h5:bm o2 y z=some r):evE Φ Γ (.cmp2 o1 o2 a b c) m=some (.bool r):=by
 rw [mh,h1,h2,bX,bX,h3,bX,if_pos rfl,h4,bX,h5];rfl
theorem x_or2' {e1 e2:Ex} (h1:evE Φ Γ e1 m=some (.bool true)):evE Φ Γ (.bool false (.cons e1 (.cons e2 .nil))) m=some (.bool true):=by
 rw [cG,eB,h1];rfl
theorem es0:evEs Φ Γ .nil m=some []:=rfl
theorem esC {e:Ex} {es:Exs} {x:D} {xs:List D} (h1:evE Φ Γ e m=some x) (h2:evEs Φ Γ es m=some xs):evEs Φ Γ (.cons e es) m=some (x::xs):=by rw [ar,h1,h2];rfl
theorem pI {a b:Ex} {x y d:D} (h1:evE Φ Γ a m=some x) (h2:evE Φ Γ b m=some y) (h3:jo x y=some d):evE Φ Γ (.index a b) m=some d:=by rw [mi,h1,h2];exact h3
theorem aS {es:Exs} {xs:List D} (h:evEs Φ Γ es m=some xs):evE Φ Γ (.lst es) m=some (.list xs):=by rw [ik,h];rfl
theorem ev_c {c:Ex} {b:Bool} (h:evE Φ Γ c m=some (.bool b)):evC Φ Γ (.some c) m=some b:=by rw [jp,h];rfl
theorem lenL {α:Type} {f:α→D} (xs:List α):b1 .len (.list (xs.map f))=some (.int xs.length):=congrArg (fun n:Nat=>some (PyData.int n)) (List.length_map f)
end
section
variable {Φ:Str→List D→Option D} {Γ:Str→Option D} {m:St} {ow:List Nat} {fr:Bool} {N:Nat}
theorem fK {e e2:Ex} {es:Exs} {b c:Bool} (h1:evE Φ Γ e m=some (.bool b)) (h2:b=true→evB Φ Γ true (.cons e2 es) m=some (.bool c)):evB Φ Γ true (.cons e (.cons e2 es)) m=some (.bool (b&&c)):=by
 rw [eB,h1]
 cases b with
 | true=>simp only [bX,mc,if_true,h2 rfl,Bool.true_and]
 | false=>rfl
theorem jU {e e2:Ex} {es:Exs} {b c:Bool} (h1:evE Φ Γ e m=some (.bool b)) (h2:b=false→evB Φ Γ false (.cons e2 es) m=some (.bool c)):evB Φ Γ false (.cons e (.cons e2 es)) m=some (.bool (b||c)):=by
 rw [eB,h1]
 cases b with
 | false=>simp only [bX,mc,if_true,h2 rfl,Bool.false_or]
 | true=>rfl
theorem aH {e1 e2:Ex} {b c:Bool} (h1:evE Φ Γ e1 m=some (.bool b)) (h2:evE Φ Γ e2 m=some (.bool c)):evE Φ Γ (.bool true (.cons e1 (.cons e2 .nil))) m=some (.bool (b&&c)):=by
 rw [cG];exact fK h1 fun o_=>by rw [fq];exact h2
theorem gO {e1 e2:Ex} {b c:Bool} (h1:evE Φ Γ e1 m=some (.bool b)) (h2:evE Φ Γ e2 m=some (.bool c)):evE Φ Γ (.bool false (.cons e1 (.cons e2 .nil))) m=some (.bool (b||c)):=by
 rw [cG];exact jU h1 fun o_=>by rw [fq];exact h2
theorem gk {e1 e2 e3:Ex} {b c d:Bool} (h1:evE Φ Γ e1 m=some (.bool b)) (h2:evE Φ Γ e2 m=some (.bool c)) (h3:evE Φ Γ e3 m=some (.bool d)):evE Φ Γ (.bool true (.cons e1 (.cons e2 (.cons e3 .nil)))) m=some (.bool (b&&(c&&d))):=by
 rw [cG];exact fK h1 fun o_=>fK h2 fun o_=>by rw [fq];exact h3
theorem sF {e1 e2 e3:Ex} {b c d:Bool} (h1:evE Φ Γ e1 m=some (.bool b)) (h2:evE Φ Γ e2 m=some (.bool c)) (h3:evE Φ Γ e3 m=some (.bool d)):evE Φ Γ (.bool false (.cons e1 (.cons e2 (.cons e3 .nil)))) m=some (.bool (b||(c||d))):=by
 rw [cG];exact jU h1 fun o_=>jU h2 fun o_=>by rw [fq];exact h3
set_option tactic.hygienic true in
theorem eY:exSs Φ Γ ow fr N .nil m=some (.next,m):=rfl
set_option tactic.hygienic true in
theorem aP {s:Sm} {r:Sms} {m':St} (h:exS Φ Γ ow fr N s m=some (.next,m')):exSs Φ Γ ow fr N (.cons s r) m=exSs Φ Γ ow fr N r m':=by rw [jq,h]
theorem dE {s:Sm} {r:Sms} {m':St} {d:D} (h:exS Φ Γ ow fr N s m=some (.ret d,m')):exSs Φ Γ ow fr N (.cons s r) m=some (.ret d,m'):=by rw [jq,h]
set_option tactic.hygienic true in
theorem pJ {i:Nat} {e:Ex} {d:D} (h:evE Φ Γ e m=some d) (ho:(!ow.contains i||flat d)=true):exS Φ Γ ow fr N (.asg i e) m=some (.next,m.set i (some d)):=by rw [rD,h];exact if_pos ho
set_option tactic.hygienic true in
theorem d5 {i:Nat} {e:Ex} {d:D} (h:evE Φ Γ e m=some d) (ho:ow.contains i=false):exS Φ Γ ow fr N (.asg i e) m=some (.next,m.set i (some d)):=pJ h (by rw [ho];rfl)
theorem d6 {e:Ex} {d:D} (h:evE Φ Γ e m=some d) (ho:(!fr||retOk ow e d)=true):exS Φ Γ ow fr N (.ret e) m=some (.ret d,m):=by rw [tB,h];exact if_pos ho
theorem y_if {c:Ex} {t e:Sms} {d:D} {b:Bool} (h:evE Φ Γ c m=some d) (hb:truth d=some b):exS Φ Γ ow fr N (.ite c t e) m=if b then exSs Φ Γ ow fr N t m else exSs Φ Γ ow fr N e m:=by rw [mn,h,bX,hb];rfl
set_option tactic.hygienic true in
theorem y_no {c:Ex} {t:Sms} {d:D} (h:evE Φ Γ c m=some d) (hb:truth d=some false):exS Φ Γ ow fr N (.ite c t .nil) m=some (.next,m):=by rw [mn,h,bX,hb];rfl
theorem lM {c:Ex} {t e:Sms} {d:D} (h:evE Φ Γ c m=some d) (hb:truth d=some true):exS Φ Γ ow fr N (.ite c t e) m=exSs Φ Γ ow fr N t m:=by rw [mn,h,bX,hb];rfl
theorem kO {c:Ex} {t e:Sms} {d:D} (h:evE Φ Γ c m=some d) (hb:truth d=some false):exS Φ Γ ow fr N (.ite c t e) m=exSs Φ Γ ow fr N e m:=by rw [mn,h,bX,hb];rfl
set_option tactic.hygienic true in
theorem ut {i:Nat} {e:Ex} {xs:List D} {d:D} (h0:m[i]?=some (some (.list xs))) (h:evE Φ Γ e m=some d) (hn:noList d=true) (hz:xs.length≤2 ^ 20):exS Φ Γ ow fr N (.app i e) m=some (.next,m.set i (some (.list (xs++[d])))):=by
 have hs:(noList d&&b7 xs.length)=true:=by rw [hn,b7,decide_eq_true hz];rfl
 rw [tx,h0,h];exact if_pos hs
theorem dF {α:Type} {elt:Ex} {it:It} {cond:Exo} (es:List α) (h:α→List D) (p:α→Bool) (g:α→D) (hi:evIt Φ Γ it m=some (es.map h)) (hl:es.length≤2 ^ 20) (hz:cm it=false)
 (hc:∀ e ∈ es,evC Φ Γ cond (m++(h e).map some)=some (p e)) (hf:∀ e ∈ es,p e=true→evE Φ Γ elt (m++(h e).map some)=some (g e)):evE Φ Γ (.comp elt it cond) m=some (.list ((es.filter p).map g)):=by
 have hs:b7 (es.map h).length=true:=by simp only [b7,lX,hl,decide_true]
 simp only [qK,hi,bX,hs,if_true,(jR (f:=fun vs=>evE Φ Γ elt (m++vs.map some)) (c:=fun vs=>evC Φ Γ cond (m++vs.map some)) h p g es hc hf),hz,Bool.not_false,Bool.true_or]
theorem bZ {α:Type} {elt:Ex} {it:It} (es:List α) (h:α→List D) (g:α→D) (hi:evIt Φ Γ it m=some (es.map h)) (hl:es.length≤2 ^ 20) (hz:cm it=false)
 (hf:∀ e ∈ es,evE Φ Γ elt (m++(h e).map some)=some (g e)):evE Φ Γ (.comp elt it .none) m=some (.list (es.map g)):=by
 have:=dF es h (fun o_=>true) g hi hl hz (cond:=.none) (fun e o_=>mj) (fun e he o_=>hf e he)
 rw [this]
 have hflt:es.filter (fun o_=>true)=es:=by simp
 rw [hflt]
theorem cK {α:Type} {e:Ex} {es:List α} {g:α→D} (h:evE Φ Γ e m=some (.tuple (es.map g))):evIt Φ Γ (.plain e) m=some (es.map fun a=>[g a]):=by simp only [gw,h,bX,ij,mX,jS]
theorem bQ {α:Type} {e:Ex} {es:List α} {g:α→D} (h:evE Φ Γ e m=some (.list (es.map g))):evIt Φ Γ (.plain e) m=some (es.map fun a=>[g a]):=by simp only [gw,h,bX,ii,mX,jS]
theorem bH {e:Ex} {n:Int} (h:evE Φ Γ e m=some (.int n)) (hn:n.natAbs≤2 ^ 20):evIt Φ Γ (.range1 e) m=some ((List.range n.toNat).map fun (i:Nat)=>[PyData.int i]):=by
 have key:∀ (k:Nat) (a:Nat),one (bY (a:Int) k)=(List.range' a k).map fun (i:Nat)=>[PyData.int i]:=by
  intro k
  induction k with
  | zero=>intro a;rfl
  | succ k ih=>
   intro a
   have:=ih (a+1)
   simp only [one,dN,List.map_cons,List.range'_succ] at this ⊢
   rw [← this]
   rfl
 rw [im,h]
 refine (if_pos hn).trans ?_
 have:=key n.toNat 0
 rw [List.range_eq_range']
 exact congrArg some this
set_option tactic.hygienic true in
theorem nJ {i:Nat} {it:It} {body:Sms} {items:List (List D)} (I:Nat→St→Prop) (hi:evIt Φ Γ it m=some items) (hz:cm it=false) (h0:I 0 m)
 (hs:∀ (k:Nat) (vs:List D) (m:St),items[k]?=some vs→I k m→∃ x m',vs=[x]∧exSs Φ Γ ow fr N body (m.set i (some x))=some (.next,m')∧I (k+1) m'):∃ m',exS Φ Γ ow fr N (.for1 i it body) m=some (.next,m')∧I items.length m':=by
 rw [mo,hi,bX,hz,if_neg Bool.false_ne_true]
 obtain ⟨m',e,h⟩:=kN (b:=fun vs m=>match vs with | [x]=>exSs Φ Γ ow fr N body (setV m i x) | _=>none) I items 0 m h0 fun k vs m hk hI=>by
  rw [Nat.zero_add] at hI
  obtain ⟨x,m',rfl,e,h⟩:=hs k vs m hk hI
  exact ⟨m',e,by rw [Nat.zero_add];exact h⟩
 rw [Nat.zero_add] at h
 exact ⟨m',e,h⟩
theorem dG {fn:Fn} {args:List D} {d:D} (m0:St) {m':St} (hl:args.length=fn.np) (hm:args.map some++List.replicate (fn.ns - fn.np) none=m0) (h:exSs Φ Γ fn.ow fn.fr N fn.body m0=some (.ret d,m')):runFn Φ Γ N fn args=some d:=by
 simp only [runFn,hl,if_true,hm,h]
noncomputable def Rt (x:Option (Fl × St)) (d:D):Prop:=∃ m',x=some (.ret d,m')
set_option tactic.hygienic true in
theorem bC {s:Sm} {r:Sms} {d:D} (m':St) (h:exS Φ Γ ow fr N s m=some (.next,m')) (k:Rt (exSs Φ Γ ow fr N r m') d):Rt (exSs Φ Γ ow fr N (.cons s r) m) d:=by rw [aP h];exact k
theorem af {e:Ex} {r:Sms} {d:D} (h:evE Φ Γ e m=some d) (ho:(!fr||retOk ow e d)=true):Rt (exSs Φ Γ ow fr N (.cons (.ret e) r) m) d:=⟨m,dE (d6 h ho)⟩
theorem am {c:Ex} {t e r:Sms} {x d:D} (h:evE Φ Γ c m=some x) (hb:truth x=some true) (k:Rt (exSs Φ Γ ow fr N t m) d):Rt (exSs Φ Γ ow fr N (.cons (.ite c t e) r) m) d:=by
 obtain ⟨m',k⟩:=k
 exact ⟨m',dE ((lM h hb).trans k)⟩
theorem ae {c:Ex} {t r:Sms} {x d:D} (h:evE Φ Γ c m=some x) (hb:truth x=some false) (k:Rt (exSs Φ Γ ow fr N r m) d):Rt (exSs Φ Γ ow fr N (.cons (.ite c t .nil) r) m) d:=bC m (y_no h hb) k
theorem ak {i:Nat} {e:Ex} {r:Sms} {d:D} (x:D) (h:evE Φ Γ e m=some x) (ho:ow.contains i=false) (k:Rt (exSs Φ Γ ow fr N r (m.set i (some x))) d):Rt (exSs Φ Γ ow fr N (.cons (.asg i e) r) m) d:=bC _ (d5 h ho) k
theorem aq {fn:Fn} {args:List D} {d:D} (m0:St) (hl:args.length=fn.np) (hm:args.map some++List.replicate (fn.ns - fn.np) none=m0) (h:Rt (exSs Φ Γ fn.ow fn.fr N fn.body m0) d):runFn Φ Γ N fn args=some d:=by
 obtain ⟨m',h⟩:=h
 exact dG m0 hl hm h
theorem nK {i:Nat} {e:Ex} {r:Sms} {R:Option (Fl × St)} (x:D) (h:evE Φ Γ e m=some x) (ho:ow.contains i=false) (k:exSs Φ Γ ow fr N r (m.set i (some x))=R):exSs Φ Γ ow fr N (.cons (.asg i e) r) m=R:=(aP (d5 h ho)).trans k
set_option tactic.hygienic true in
noncomputable def Go (x:Option (Fl × St)) (Q:St→Prop):Prop:=∃ m',x=some (.next,m')∧Q m'
theorem Go.mono {x:Option (Fl × St)} {Q Q':St→Prop} (h:Go x Q) (k:∀ m,Q m→Q' m):Go x Q':=h.elim fun m' q=>⟨m',q.1,k m' q.2⟩
theorem ah {Q:St→Prop} (h:Q m):Go (exSs Φ Γ ow fr N .nil m) Q:=⟨m,eY,h⟩
theorem ap {s:Sm} {r:Sms} {Q' Q:St→Prop} (h:Go (exS Φ Γ ow fr N s m) Q') (k:∀ m',Q' m'→Go (exSs Φ Γ ow fr N r m') Q):Go (exSs Φ Γ ow fr N (.cons s r) m) Q:=by
 obtain ⟨m1,e1,q1⟩:=h
 obtain ⟨m2,e2,q2⟩:=k m1 q1
 exact ⟨m2,(aP e1).trans e2,q2⟩
theorem aw {i:Nat} {e:Ex} {r:Sms} {Q:St→Prop} (x:D) (h:evE Φ Γ e m=some x) (ho:ow.contains i=false) (k:Go (exSs Φ Γ ow fr N r (m.set i (some x))) Q):Go (exSs Φ Γ ow fr N (.cons (.asg i e) r) m) Q:=by
 obtain ⟨m2,e2,q2⟩:=k
 exact ⟨m2,(aP (d5 h ho)).trans e2,q2⟩
theorem aK {c:Ex} {t e:Sms} {d:D} {b:Bool} {Q:St→Prop} (h:evE Φ Γ c m=some d) (hb:truth d=some b) (ht:b=true→Go (exSs Φ Γ ow fr N t m) Q) (he:b=false→Go (exSs Φ Γ ow fr N e m) Q):Go (exS Φ Γ ow fr N (.ite c t e) m) Q:=by
 cases b with
 | true=>rw [lM h hb];exact ht rfl
 | false=>rw [kO h hb];exact he rfl
theorem bv {i:Nat} {e:Ex} {r:Sms} {xs:List D} {d:D} {Q:St→Prop} (h0:m[i]?=some (some (.list xs))) (h:evE Φ Γ e m=some d) (hn:noList d=true) (hz:xs.length≤2 ^ 20) (k:Go (exSs Φ Γ ow fr N r (m.set i (some (.list (xs++[d]))))) Q):Go (exSs Φ Γ ow fr N (.cons (.app i e) r) m) Q:=by
 obtain ⟨m2,e2,q2⟩:=k
 exact ⟨m2,(aP (ut h0 h hn hz)).trans e2,q2⟩
theorem b8 {i:Nat} {it:It} {body:Sms} {items:List (List D)} (I:Nat→St→Prop) (hi:evIt Φ Γ it m=some items) (hz:cm it=false) (h0:I 0 m)
 (hs:∀ (k:Nat) (vs:List D) (m:St),items[k]?=some vs→I k m→∃ x,vs=[x]∧Go (exSs Φ Γ ow fr N body (m.set i (some x))) (I (k+1))):Go (exS Φ Γ ow fr N (.for1 i it body) m) (I items.length):=by
 obtain ⟨m',e,q⟩:=nJ (ow:=ow) (fr:=fr) (N:=N) (i:=i) (body:=body) I hi hz h0 fun k vs m hk hI=>by
  refine byG fun X_ g_=>?_
  obtain ⟨x,e,m',e2,q⟩:=hs k vs m hk hI
  refine g_ ?_
  exact ⟨x,m',e,e2,q⟩
 exact ⟨m',e,q⟩
theorem aQ {s:Sm} {r:Sms} {Q':St→Prop} {d:D} (h:Go (exS Φ Γ ow fr N s m) Q') (k:∀ m',Q' m'→Rt (exSs Φ Γ ow fr N r m') d):Rt (exSs Φ Γ ow fr N (.cons s r) m) d:=by
 obtain ⟨m1,e1,q1⟩:=h
 obtain ⟨m2,e2⟩:=k m1 q1
 exact ⟨m2,(aP e1).trans e2⟩
end
theorem eT:∀ l:List Str,aY (l.map .str)=true
 | []=>rfl
 | _::l=>by rw [List.map_cons,ig,eT l];rfl
theorem sG (x:Str):shp (.str x)=true:=rfl
theorem kP (w:Str):∀ l:List Str,((l.map PyData.str).any fun y=>y.eqv (.str w))=l.any fun y=>y == w
 | []=>rfl
 | x::l=>by rw [List.map_cons,List.any_cons,List.any_cons,kP w l];rfl
theorem b9 (w:Str) (l:List Str):pyIn (.str w) (.list (l.map .str))=some (l.any fun y=>y == w):=by
 show anyEq (.str w) (l.map .str)=_
 unfold anyEq
 rw [eT,sG,kP];rfl
theorem pK (w:Str) (l:List Str):pyIn (.str w) (.tuple (l.map .str))=some (l.any fun y=>y == w):=b9 w l
theorem v_in (x y:D):bm .In x y=pyIn x y:=rfl
theorem uu (x y:D):bm .NotIn x y=(pyIn x y).map (!·):=rfl
theorem al (b:Bool):truth (.bool b)=some b:=rfl
theorem jV (x y:Str):bm .Eq (.str x) (.str y)=some (x == y):=rfl
theorem uv (x y:Str):bm .NotEq (.str x) (.str y)=some (!(x == y)):=rfl
theorem pL (x y:Int):bm .Eq (.int x) (.int y)=some (x == y):=rfl
theorem v_gt (x y:Int):bm .Gt (.int x) (.int y)=some (decide (y < x)):=rfl
theorem v_lt (x y:Int):bm .Lt (.int x) (.int y)=some (decide (x < y)):=rfl
theorem cC (x y:Int):ck .Add (.int x) (.int y)=some (.int (x+y)):=rfl
theorem vL (x y:Int):ck .Sub (.int x) (.int y)=some (.int (x - y)):=rfl
theorem uw (x y:Int) (h:mulOkI x y=true):ck .Mult (.int x) (.int y)=some (.int (x * y)):=if_pos h
theorem ux (x y:Int) (h:(smallI x||smallI y)=true):ck .Mult (.int x) (.int y)=some (.int (x * y)):=uw x y (by trivial)
theorem eU (x y:Int) (h:smallI x=true):ck .Mult (.int x) (.int y)=some (.int (x * y)):=ux x y (by rw [h];rfl)
theorem uy (x y:Int) (h:smallI y=true):ck .Mult (.int x) (.int y)=some (.int (x * y)):=ux x y (by rw [h];simp)
theorem nM (x y:Int) (h:y ≠ 0∧y.natAbs < 1073741824):ck .FloorDiv (.int x) (.int y)=some (.int (x.fdiv y)):=if_pos h
theorem bw (x y:Int) (h:y ≠ 0):ck .Mod (.int x) (.int y)=some (.int (x.fmod y)):=if_pos h
theorem nN:ck .Pow (.int 10) (.int 9)=some (.int 1000000000):=rfl
theorem cL (xs:List D):b1 .len (.list xs)=some (.int xs.length):=rfl
theorem nO (xs:List D):b1 .len (.tuple xs)=some (.int xs.length):=rfl
theorem gm (xs ys:List D) (h:xs.length+ys.length≤2 ^ 14):ck .Add (.tuple xs) (.tuple ys)=some (.tuple (xs++ys)):=if_pos h
theorem eV (xs ys:List D) (h:xs.length+ys.length≤2 ^ 20):ck .Add (.list xs) (.list ys)=some (.list (xs++ys)):=if_pos h
theorem uz (xs ys:Str) (h:xs.length+ys.length≤2 ^ 20):ck .Add (.str xs) (.str ys)=some (.str (xs++ys)):=if_pos h
theorem uA (xs:List D):b1 .any (.list xs)=(cD xs).map fun bs=>.bool (bs.any id):=rfl
theorem nP (xs:List D):b1 .all (.list xs)=(cD xs).map fun bs=>.bool (bs.all id):=rfl
theorem p_mk {xs:List D} {i:Int} {k:Nat} {d:D} (h:aI xs.length i=some k) (hd:xs[k]?=some d):item (.list xs) (.int i)=some d:=by
 show ((aI xs.length i).bind fun k=>xs[k]?)=some d
 rw [h];exact hd
theorem uB {xs:List D} {i:Int} {k:Nat} {d:D} (h:aI xs.length i=some k) (hd:xs[k]?=some d):item (.tuple xs) (.int i)=some d:=by
 show ((aI xs.length i).bind fun k=>xs[k]?)=some d
 rw [h];exact hd
theorem aW {n:Nat} {i:Int} (h0:0≤i) (h:i < n):aI n i=some i.toNat:=by simp only [aI,h0,h,if_true]
noncomputable def kQ (g:Str):List (Str × Fn)→List (Str × Fn)
 | []=>[]
 | (f,fn)::r=>if g == f then (f,fn)::r else kQ g r
theorem pM (g:Str) (f:Str) (fn:Fn) (rest:List (Str × Fn)):kQ g ((f,fn)::rest)=if (g == f)=true then (f,fn)::rest else kQ g rest:=rfl
theorem az {Γ:Str→Option D} {N:Nat} {g:Str} {args:List D}:∀ {tbl:List (Str × Fn)} {fn:Fn} {rest:List (Str × Fn)},kQ g tbl=(g,fn)::rest→mkΦ Γ N tbl g args=runFn (mkΦ Γ N rest) Γ N fn args:=by
 intro tbl
 induction tbl with
 | nil=>
  intro _ _ h
  cases h
 | cons p_ r ih_=>
  obtain ⟨f',fn'⟩:=p_
  intro fn rest h
  simp only [pM] at h
  simp only [uq]
  cases hb:g == f' with
  | true=>
   rw [if_pos hb] at h
   cases h
   rfl
  | false=>
   rw [if_neg (by simp [hb])] at h
   simp only [Bool.false_eq_true,if_false]
   exact ih_ h
theorem gn {Φ:Str→List D→Option D} {Γ:Str→Option D} {m:St} (i:Int):evE Φ Γ (.neg (.k (.int i))) m=some (.int (-i)):=rfl
theorem io_n:intO none=some none:=rfl
theorem io_i (i:Int):intO (some (.int i))=some (some i):=rfl
theorem uC (xs:List D) (lo hi:Option Int):slice (.list xs) lo hi=some (.list (cut xs lo hi)):=rfl
theorem uD (xs:List D) (lo hi:Option Int):slice (.tuple xs) lo hi=some (.tuple (cut xs lo hi)):=rfl
theorem nl_t (a:List D):noList (.tuple a)=ao a:=rfl
theorem nl_i (a:Int):noList (.int a)=true:=rfl
theorem nl_s (a:Str):noList (.str a)=true:=rfl
theorem ns_n:ao []=true:=rfl
theorem ns_c (x:D) (xs:List D):ao (x::xs)=(noList x&&ao xs):=rfl
theorem nd_l (a:List D):ce (.list a)=aY a:=rfl
theorem ds_c (x:D) (xs:List D):aY (x::xs)=(ce x&&aY xs):=rfl
theorem fl_l (a:List D):flat (.list a)=ao a:=rfl
theorem v_eq (x y:D):bm .Eq x y=pyEq x y:=rfl
theorem uE (xs:List D) (n:Int) (h:xs.length≤1000∧n≤10000∧-10000≤n):ck .Mult (.list xs) (.int n)=some (.list (repL xs n.toNat)):=if_pos h
theorem qv_l (a b:List D):PyData.eqv (.list a) (.list b)=PyData.eqvAll a b:=rfl
theorem dp_i (a:Int):PyData.depth (.int a)=0:=rfl
theorem dp_l (a:List D):PyData.depth (.list a)=PyData.depthAll a+1:=rfl
theorem da_c (x:D) (xs:List D):PyData.depthAll (x::xs)=max (PyData.depth x) (PyData.depthAll xs):=rfl
theorem nQ {fr:Bool} {ow:List Nat} {e:Ex} {xs:List D} (h:(isOw ow e||frE e)=true) (k:ao xs=true):(!fr||retOk ow e (.list xs))=true:=by
 have:flat (.list xs)=true:=k
 unfold retOk
 rw [h,this,Bool.and_self,Bool.or_true,Bool.or_true]
structure En where
 w:Str
 k:Str
 t:Int
 s:Str
 o:Bool
noncomputable def En.d (e:En):D:=.tuple [.str e.w,.str e.k,.int e.t,.str e.s,.bool e.o]
noncomputable def asleep (es:List En) (w:Str):Bool:=es.any fun e=>e.s == w&&e.o
theorem cZ {α:Type} (f:α→Bool):∀ (l:List α),cD (l.map fun a=>PyData.bool (f a))=some (l.map f):=by
 intro l
 induction l with
 | nil=>
  exact rfl
 | cons a l ih_=>
  show ((cD (l.map fun a=>PyData.bool (f a))).map fun bs=>f a::bs)=_
  rw [ih_];rfl
end Mine
set_option tactic.hygienic true
namespace Mine
open PySem
noncomputable def fnlaw:Fn:=⟨1,4,[],false,(.cons (.asg 1 (.call false "_law_long" (.cons (.v 0) (.cons (.call false "_law_drawn" (.cons (.v 0) (.cons (.k (.int 14)) .nil))) .nil)))) (.cons (.ite (.not (.call false "_law_few" (.cons (.v 1) (.cons (.k (.int 400)) .nil)))) (.cons (.ret (.k (.bool true))) .nil) .nil) (.cons (.asg 2 (.call false "looked" (.cons (.b1 .list (.v 1)) .nil))) (.cons (.ite (.cmp .Is (.v 2) (.k (.none))) (.cons (.ret (.k (.bool true))) .nil) .nil) (.cons (.ite (.not (.call false "_law_told" (.cons (.v 2) .nil))) (.cons (.ret (.k (.bool false))) .nil) .nil) (.cons (.for1 3 (.plain (.call false "_law_run" (.cons (.v 1) (.cons (.idx (.v 2) (.k (.int 2))) .nil)))) (.cons (.ite (.bool true (.cons (.cmp .Eq (.idx (.v 3) (.k (.int 0))) (.idx (.v 2) (.k (.int 0)))) (.cons (.cmp .Eq (.call false "_law_fault" (.cons (.idx (.v 1) (.idx (.v 3) (.k (.int 0)))) (.cons (.idx (.v 3) (.k (.int 1))) .nil))) (.idx (.v 2) (.k (.int 1)))) .nil))) (.cons (.ret (.k (.bool true))) .nil) .nil) .nil)) (.cons (.ret (.k (.bool false))) .nil)))))))⟩
noncomputable def fn_law_told:Fn:=⟨1,1,[],false,(.cons (.ite (.bool false (.cons (.not (.isi (.v 0) .tuple)) (.cons (.cmp .NotEq (.b1 .len (.v 0)) (.k (.int 3))) (.cons (.not (.call false "_law_whole" (.cons (.idx (.v 0) (.k (.int 0))) .nil))) .nil)))) (.cons (.ret (.k (.bool false))) .nil) .nil) (.cons (.ite (.bool false (.cons (.not (.isi (.idx (.v 0) (.k (.int 1))) .str)) (.cons (.cmp .NotIn (.idx (.v 0) (.k (.int 1))) (.lst (.cons (.k (.str "beside")) (.cons (.k (.str "empty")) (.cons (.k (.str "asleep")) .nil))))) (.cons (.not (.isi (.idx (.v 0) (.k (.int 2))) .list)) .nil)))) (.cons (.ret (.k (.bool false))) .nil) .nil) (.cons (.ret (.b1 .all (.comp (.bool true (.cons (.call false "_law_whole" (.cons (.v 1) .nil)) (.cons (.cmp .GtE (.v 1) (.k (.int 0))) .nil))) (.plain (.idx (.v 0) (.k (.int 2)))) .none))) .nil)))⟩
noncomputable def fn_law_long:Fn:=⟨2,4,[],false,(.cons (.ite (.bool false (.cons (.cmp .NotEq (.bin .Mod (.call false "_law_cell_at" (.cons (.v 0) (.cons (.k (.int 1)) .nil))) (.k (.int 16))) (.k (.int 5))) (.cons (.cmp .Gt (.b1 .len (.v 1)) (.k (.int 62))) .nil))) (.cons (.ret (.v 1)) .nil) .nil) (.cons (.asg 2 (.lst .nil)) (.cons (.for1 3 (.range1 (.bin .Add (.k (.int 45)) (.bin .Mod (.call false "_law_cell_at" (.cons (.v 0) (.cons (.k (.int 2)) .nil))) (.k (.int 25))))) (.cons (.asg 2 (.bin .Add (.v 2) (.lst (.cons (.tup (.cons (.k (.str "lend")) (.cons (.k (.str "ahead")) (.cons (.k (.str "read")) (.cons (.v 3) .nil))))) (.cons (.tup (.cons (.k (.str "end")) .nil)) .nil))))) .nil)) (.cons (.ret (.bin .Add (.v 2) (.v 1))) .nil))))⟩
noncomputable def fn_law_few:Fn:=⟨2,9,[3,4],false,(.cons (.asg 2 (.call false "_law_homes" (.cons (.v 0) .nil))) (.cons (.asg 3 (.lst (.cons (.tup (.cons (.k (.int 0)) (.cons (.tup .nil) .nil))) .nil))) (.cons (.asg 4 (.dic (.cons (.tup (.cons (.k (.int 0)) (.cons (.tup .nil) .nil))) .nil) (.cons (.k (.bool true)) .nil))) (.cons (.asg 5 (.k (.int 0))) (.cons (.wh (.bool true (.cons (.cmp .Lt (.v 5) (.b1 .len (.v 3))) (.cons (.cmp .Gt (.b1 .len (.v 0)) (.k (.int 0))) .nil))) (.cons (.ite (.cmp .Gt (.b1 .len (.v 3)) (.v 1)) (.cons (.ret (.k (.bool false))) .nil) .nil) (.cons (.asg 6 (.idx (.v 3) (.v 5))) (.cons (.for1 7 (.range1 (.call false "_law_some_ways" (.cons (.v 0) (.cons (.v 2) (.cons (.idx (.v 6) (.k (.int 0))) .nil))))) (.cons (.asg 8 (.call false "_law_step" (.cons (.v 0) (.cons (.v 2) (.cons (.v 6) (.cons (.v 7) .nil)))))) (.cons (.ite (.bool true (.cons (.cmp .Lt (.idx (.v 8) (.k (.int 0))) (.b1 .len (.v 0))) (.cons (.cmp .NotIn (.v 8) (.v 4)) .nil))) (.cons (.seti 4 (.v 8) (.k (.bool true))) (.cons (.app 3 (.v 8)) .nil)) .nil) .nil))) (.cons (.asg 5 (.bin .Add (.v 5) (.k (.int 1)))) .nil))))) (.cons (.ret (.k (.bool true))) .nil))))))⟩
noncomputable def fn_law_some_ways:Fn:=⟨3,3,[],false,(.cons (.ite (.cmp .Eq (.idx (.idx (.v 0) (.v 2)) (.k (.int 0))) (.k (.str "pick"))) (.cons (.ret (.b1 .len (.idx (.idx (.v 0) (.v 2)) (.k (.int 2))))) .nil) .nil) (.cons (.ite (.cmp .Eq (.idx (.idx (.v 0) (.v 2)) (.k (.int 0))) (.k (.str "either"))) (.cons (.ret (.b1 .len (.call false "_law_starts" (.cons (.v 0) (.cons (.v 1) (.cons (.v 2) .nil)))))) .nil) .nil) (.cons (.ret (.idx (.lst (.cons (.k (.int 1)) (.cons (.k (.int 2)) .nil))) (.b1 .int (.cmp .Eq (.idx (.idx (.v 0) (.v 2)) (.k (.int 0))) (.k (.str "again")))))) .nil)))⟩
noncomputable def fn_law_run:Fn:=⟨2,7,[3],false,(.cons (.asg 2 (.call false "_law_homes" (.cons (.v 0) .nil))) (.cons (.asg 3 (.lst .nil)) (.cons (.asg 4 (.tup (.cons (.k (.int 0)) (.cons (.tup .nil) .nil)))) (.cons (.asg 5 (.k (.int 0))) (.cons (.wh (.cmp .Lt (.idx (.v 4) (.k (.int 0))) (.b1 .len (.v 0))) (.cons (.app 3 (.v 4)) (.cons (.asg 6 (.k (.int 0))) (.cons (.ite (.cmp .In (.idx (.idx (.v 0) (.idx (.v 4) (.k (.int 0)))) (.k (.int 0))) (.lst (.cons (.k (.str "pick")) (.cons (.k (.str "either")) (.cons (.k (.str "again")) .nil))))) (.cons (.ite (.cmp .Lt (.v 5) (.b1 .len (.v 1))) (.cons (.asg 6 (.idx (.v 1) (.v 5))) .nil) .nil) (.cons (.asg 5 (.bin .Add (.v 5) (.k (.int 1)))) .nil)) .nil) (.cons (.asg 4 (.call false "_law_step" (.cons (.v 0) (.cons (.v 2) (.cons (.v 4) (.cons (.v 6) .nil)))))) .nil))))) (.cons (.ret (.v 3)) .nil))))))⟩
noncomputable def fn_law_fault:Fn:=⟨2,7,[],false,(.cons (.asg 2 (.call false "_law_awake" (.cons (.v 1) .nil))) (.cons (.for2 3 4 (.enum (.v 2)) (.cons (.for1 5 (.plain (.sl (.v 2) .none (.some (.v 3)))) (.cons (.ite (.bool true (.cons (.cmp .Eq (.idx (.v 4) (.k (.int 2))) (.idx (.v 5) (.k (.int 2)))) (.cons (.cmp .In (.k (.str "write")) (.lst (.cons (.idx (.v 4) (.k (.int 1))) (.cons (.idx (.v 5) (.k (.int 1))) .nil)))) .nil))) (.cons (.ret (.k (.str "beside"))) .nil) .nil) .nil)) .nil)) (.cons (.asg 6 (.k (.str ""))) (.cons (.ite (.cmp .In (.idx (.v 0) (.k (.int 0))) (.lst (.cons (.k (.str "look")) (.cons (.k (.str "change")) .nil)))) (.cons (.asg 6 (.idx (.v 0) (.k (.int 1)))) .nil) .nil) (.cons (.ite (.bool true (.cons (.cmp .Eq (.idx (.v 0) (.k (.int 0))) (.k (.str "lend"))) (.cons (.isi (.idx (.v 0) (.k (.int 3))) .str) .nil))) (.cons (.asg 6 (.idx (.v 0) (.k (.int 3)))) .nil) .nil) (.cons (.for1 4 (.plain (.v 1)) (.cons (.ite (.bool true (.cons (.cmp .Eq (.idx (.v 4) (.k (.int 0))) (.v 6)) (.cons (.not (.idx (.v 4) (.k (.int 4)))) .nil))) (.cons (.ret (.k (.str "empty"))) .nil) .nil) .nil)) (.cons (.ite (.bool true (.cons (.cmp .In (.idx (.v 0) (.k (.int 0))) (.lst (.cons (.k (.str "look")) (.cons (.k (.str "change")) .nil)))) (.cons (.cmp .NotIn (.v 6) (.comp (.idx (.v 7) (.k (.int 0))) (.plain (.v 2)) .none)) .nil))) (.cons (.ret (.k (.str "asleep"))) .nil) .nil) (.cons (.ret (.k (.str ""))) .nil))))))))⟩
noncomputable def fn_law_awake:Fn:=⟨1,3,[],false,(.cons (.asg 1 (.comp (.idx (.v 3) (.k (.int 3))) (.plain (.v 0)) (.some (.idx (.v 3) (.k (.int 4)))))) (.cons (.asg 2 (.comp (.v 3) (.plain (.v 0)) (.some (.bool true (.cons (.cmp .NotEq (.idx (.v 3) (.k (.int 1))) (.k (.str "pick"))) (.cons (.idx (.v 3) (.k (.int 4))) .nil)))))) (.cons (.ret (.comp (.v 3) (.plain (.v 2)) (.some (.cmp .NotIn (.idx (.v 3) (.k (.int 0))) (.v 1))))) .nil)))⟩
noncomputable def fn_law_whole:Fn:=⟨1,1,[],false,(.cons (.ret (.bool true (.cons (.isi (.v 0) .int) (.cons (.not (.isi (.v 0) .bool)) .nil)))) .nil)⟩
noncomputable def fn_law_step:Fn:=⟨4,9,[],false,(.cons (.asg 4 (.idx (.v 2) (.k (.int 0)))) (.cons (.asg 5 (.idx (.v 2) (.k (.int 1)))) (.cons (.asg 6 (.idx (.idx (.v 0) (.v 4)) (.k (.int 0)))) (.cons (.ite (.cmp .Eq (.v 6) (.k (.str "lend"))) (.cons (.asg 5 (.call false "_law_lent" (.cons (.v 5) (.cons (.idx (.v 0) (.v 4)) .nil)))) .nil) .nil) (.cons (.ite (.cmp .Eq (.v 6) (.k (.str "pick"))) (.cons (.asg 7 (.idx (.idx (.v 0) (.v 4)) (.k (.int 2)))) (.cons (.asg 5 (.bin .Add (.v 5) (.tup (.cons (.tup (.cons (.idx (.idx (.v 0) (.v 4)) (.k (.int 1))) (.cons (.k (.str "pick")) (.cons (.idx (.v 7) (.bin .Mod (.v 3) (.b1 .len (.v 7)))) (.cons (.k (.str "")) (.cons (.k (.bool true)) .nil)))))) .nil)))) .nil)) .nil) (.cons (.ite (.cmp .Eq (.v 6) (.k (.str "back"))) (.cons (.asg 5 (.call false "_law_back" (.cons (.v 5) (.cons (.idx (.idx (.v 0) (.v 4)) (.k (.int 1))) .nil)))) .nil) .nil) (.cons (.ite (.cmp .Eq (.v 6) (.k (.str "either"))) (.cons (.asg 8 (.call false "_law_starts" (.cons (.v 0) (.cons (.v 1) (.cons (.v 4) .nil))))) (.cons (.ret (.tup (.cons (.idx (.v 8) (.bin .Mod (.v 3) (.b1 .len (.v 8)))) (.cons (.v 5) .nil)))) .nil)) .nil) (.cons (.ite (.cmp .Eq (.v 6) (.k (.str "or"))) (.cons (.ret (.tup (.cons (.call false "_law_last" (.cons (.v 0) (.cons (.v 1) (.cons (.idx (.v 1) (.v 4)) .nil)))) (.cons (.v 5) .nil)))) .nil) .nil) (.cons (.ite (.bool true (.cons (.cmp .Eq (.v 6) (.k (.str "again"))) (.cons (.cmp .Eq (.bin .Mod (.v 3) (.k (.int 2))) (.k (.int 0))) .nil))) (.cons (.ret (.tup (.cons (.bin .Add (.call false "_law_last" (.cons (.v 0) (.cons (.v 1) (.cons (.v 4) .nil)))) (.k (.int 1))) (.cons (.v 5) .nil)))) .nil) .nil) (.cons (.ite (.bool true (.cons (.cmp .Eq (.v 6) (.k (.str "end"))) (.cons (.cmp .Eq (.idx (.idx (.v 0) (.idx (.v 1) (.v 4))) (.k (.int 0))) (.k (.str "again"))) .nil))) (.cons (.ret (.tup (.cons (.idx (.v 1) (.v 4)) (.cons (.v 5) .nil)))) .nil) .nil) (.cons (.ite (.bool true (.cons (.cmp .Eq (.v 6) (.k (.str "end"))) (.cons (.cmp .NotEq (.idx (.idx (.v 0) (.idx (.v 1) (.v 4))) (.k (.int 0))) (.k (.str "either"))) .nil))) (.cons (.asg 5 (.sl (.v 5) .none (.some (.neg (.k (.int 1)))))) .nil) .nil) (.cons (.ret (.tup (.cons (.bin .Add (.v 4) (.k (.int 1))) (.cons (.v 5) .nil)))) .nil))))))))))))⟩
noncomputable def fn_law_back:Fn:=⟨2,5,[2],false,(.cons (.asg 2 (.lst (.cons (.v 1) .nil))) (.cons (.asg 3 (.tup .nil)) (.cons (.for1 4 (.plain (.v 0)) (.cons (.ite (.bool false (.cons (.cmp .In (.idx (.v 4) (.k (.int 0))) (.v 2)) (.cons (.cmp .In (.idx (.v 4) (.k (.int 3))) (.v 2)) .nil))) (.cons (.app 2 (.idx (.v 4) (.k (.int 0)))) (.cons (.asg 4 (.bin .Add (.sl (.v 4) .none (.some (.k (.int 4)))) (.tup (.cons (.k (.bool false)) .nil)))) .nil)) .nil) (.cons (.asg 3 (.bin .Add (.v 3) (.tup (.cons (.v 4) .nil)))) .nil))) (.cons (.ret (.v 3)) .nil))))⟩
noncomputable def fn_law_lent:Fn:=⟨2,6,[],false,(.cons (.asg 2 (.idx (.v 1) (.k (.int 3)))) (.cons (.asg 3 (.k (.str ""))) (.cons (.asg 4 (.k (.bool true))) (.cons (.for1 5 (.plain (.v 0)) (.cons (.ite (.cmp .Eq (.idx (.v 5) (.k (.int 0))) (.idx (.v 1) (.k (.int 3)))) (.cons (.asg 2 (.idx (.v 5) (.k (.int 2)))) (.cons (.asg 4 (.idx (.v 5) (.k (.int 4)))) (.cons (.ite (.cmp .NotEq (.idx (.v 5) (.k (.int 1))) (.k (.str "pick"))) (.cons (.asg 3 (.idx (.v 5) (.k (.int 0)))) .nil) .nil) .nil))) .nil) .nil)) (.cons (.ret (.bin .Add (.v 0) (.tup (.cons (.tup (.cons (.idx (.v 1) (.k (.int 1))) (.cons (.idx (.v 1) (.k (.int 2))) (.cons (.v 2) (.cons (.v 3) (.cons (.v 4) .nil)))))) .nil)))) .nil)))))⟩
noncomputable def fn_law_starts:Fn:=⟨3,5,[3],false,(.cons (.asg 3 (.lst (.cons (.bin .Add (.v 2) (.k (.int 1))) .nil))) (.cons (.for1 4 (.range2 (.bin .Add (.v 2) (.k (.int 1))) (.b1 .len (.v 0))) (.cons (.ite (.bool true (.cons (.cmp .Eq (.idx (.v 1) (.v 4)) (.v 2)) (.cons (.cmp .Eq (.idx (.idx (.v 0) (.v 4)) (.k (.int 0))) (.k (.str "or"))) .nil))) (.cons (.app 3 (.bin .Add (.v 4) (.k (.int 1)))) .nil) .nil) .nil)) (.cons (.ret (.v 3)) .nil)))⟩
noncomputable def fn_law_last:Fn:=⟨3,4,[],false,(.cons (.for1 3 (.range2 (.bin .Add (.v 2) (.k (.int 1))) (.b1 .len (.v 0))) (.cons (.ite (.bool true (.cons (.cmp .Eq (.idx (.v 1) (.v 3)) (.v 2)) (.cons (.cmp .Eq (.idx (.idx (.v 0) (.v 3)) (.k (.int 0))) (.k (.str "end"))) .nil))) (.cons (.ret (.v 3)) .nil) .nil) .nil)) (.cons (.ret (.neg (.k (.int 1)))) .nil))⟩
noncomputable def fn_law_homes:Fn:=⟨1,5,[1,2],false,(.cons (.asg 1 (.lst .nil)) (.cons (.asg 2 (.lst (.cons (.neg (.k (.int 1))) .nil))) (.cons (.for2 3 4 (.enum (.v 0)) (.cons (.app 1 (.idx (.v 2) (.neg (.k (.int 1))))) (.cons (.ite (.cmp .In (.idx (.v 4) (.k (.int 0))) (.lst (.cons (.k (.str "lend")) (.cons (.k (.str "pick")) (.cons (.k (.str "either")) (.cons (.k (.str "again")) .nil)))))) (.cons (.app 2 (.v 3)) .nil) .nil) (.cons (.ite (.cmp .Eq (.idx (.v 4) (.k (.int 0))) (.k (.str "end"))) (.cons (.pop 2) .nil) .nil) .nil)))) (.cons (.ret (.v 1)) .nil))))⟩
noncomputable def fn_law_drawn:Fn:=⟨2,6,[],false,(.cons (.ite (.cmp .Gt (.b1 .len (.v 0)) (.k (.int 63))) (.cons (.asg 1 (.bin .Add (.v 1) (.k (.int 10)))) .nil) .nil) (.cons (.asg 2 (.bin .Mod (.call false "_law_cell_at" (.cons (.v 0) (.cons (.k (.int 0)) .nil))) (.v 1))) (.cons (.asg 3 (.bin .Mod (.call false "_law_cell_at" (.cons (.v 0) (.cons (.k (.int 2)) .nil))) (.k (.int 8)))) (.cons (.ite (.cmp .Gt (.v 3) (.k (.int 3))) (.cons (.asg 2 (.bin .Mod (.v 2) (.k (.int 6)))) .nil) .nil) (.cons (.asg 4 (.comp (.call false "_law_cell_at" (.cons (.v 0) (.cons (.bin .Add (.k (.int 3)) (.v 6)) .nil))) (.range1 (.bin .Mult (.k (.int 3)) (.v 2))) .none)) (.cons (.asg 5 (.call false "_law_sheet" (.cons (.v 4) (.cons (.call false "_law_draw" (.cons (.v 0) .nil)) (.cons (.idx (.lst (.cons (.k (.int 12)) (.cons (.k (.int 12)) (.cons (.k (.int 5)) (.cons (.k (.int 10)) (.cons (.k (.int 12)) (.cons (.k (.int 12)) (.cons (.k (.int 10)) (.cons (.k (.int 12)) .nil))))))))) (.v 3)) (.cons (.cmp .Gt (.v 3) (.k (.int 3))) .nil)))))) (.cons (.ite (.bool true (.cons (.cmp .In (.v 3) (.lst (.cons (.k (.int 1)) (.cons (.k (.int 6)) .nil)))) (.cons (.cmp .Lt (.b1 .len (.v 5)) (.k (.int 21))) .nil))) (.cons (.asg 5 (.bin .Add (.bin .Add (.bin .Add (.v 5) (.v 5)) (.v 5)) (.v 5))) .nil) .nil) (.cons (.ret (.v 5)) .nil))))))))⟩
noncomputable def fn_law_sheet:Fn:=⟨4,10,[5],false,(.cons (.asg 4 (.lst .nil)) (.cons (.asg 5 (.lst .nil)) (.cons (.for1 6 (.range1 (.bin .FloorDiv (.b1 .len (.v 0)) (.k (.int 3)))) (.cons (.asg 8 (.comp (.v 10) (.plain (.v 5)) (.some (.cmp .In (.idx (.v 10) (.k (.int 0))) (.lst (.cons (.k (.str "lend")) (.cons (.k (.str "pick")) .nil))))))) (.cons (.asg 9 (.idx (.v 0) (.bin .Mult (.k (.int 3)) (.v 6)))) (.cons (.ite (.bool true (.cons (.v 3) (.cons (.cmp .Eq (.bin .Mod (.v 9) (.k (.int 2))) (.k (.int 0))) (.cons (.cmp .Lt (.b1 .len (.v 8)) (.k (.int 3))) .nil)))) (.cons (.asg 4 (.bin .Add (.v 4) (.call false "_law_gadget" (.cons (.idx (.v 0) (.bin .Add (.bin .Mult (.k (.int 3)) (.v 6)) (.k (.int 1)))) (.cons (.idx (.v 0) (.bin .Add (.bin .Mult (.k (.int 3)) (.v 6)) (.k (.int 2)))) (.cons (.b1 .len (.v 8)) (.cons (.v 1) .nil))))))) .nil) (.cons (.asg 7 (.call true "_law_row" (.cons (.bin .Mod (.v 9) (.v 2)) (.cons (.idx (.v 0) (.bin .Add (.bin .Mult (.k (.int 3)) (.v 6)) (.k (.int 1)))) (.cons (.idx (.v 0) (.bin .Add (.bin .Mult (.k (.int 3)) (.v 6)) (.k (.int 2)))) (.cons (.v 5) (.cons (.v 1) .nil))))))) (.cons (.asg 4 (.bin .Add (.v 4) (.lst (.cons (.v 7) .nil)))) (.cons (.ite (.cmp .In (.idx (.v 7) (.k (.int 0))) (.lst (.cons (.k (.str "lend")) (.cons (.k (.str "pick")) (.cons (.k (.str "either")) (.cons (.k (.str "again")) .nil)))))) (.cons (.app 5 (.v 7)) .nil) .nil) (.cons (.ite (.cmp .Eq (.idx (.v 7) (.k (.int 0))) (.k (.str "end"))) (.cons (.pop 5) .nil) .nil) .nil))))) .nil)))) (.cons (.ret (.bin .Add (.v 4) (.comp (.tup (.cons (.k (.str "end")) .nil)) (.plain (.v 5)) .none))) .nil))))⟩
noncomputable def fn_law_row:Fn:=⟨5,8,[],true,(.cons (.asg 5 (.comp (.v 8) (.plain (.v 3)) (.some (.cmp .In (.idx (.v 8) (.k (.int 0))) (.lst (.cons (.k (.str "lend")) (.cons (.k (.str "pick")) .nil))))))) (.cons (.asg 6 (.comp (.v 8) (.plain (.v 5)) (.some (.cmp .Eq (.idx (.v 8) (.k (.int 0))) (.k (.str "lend")))))) (.cons (.ite (.bool true (.cons (.cmp .Lt (.v 0) (.k (.int 4))) (.cons (.cmp .Lt (.b1 .len (.v 6)) (.k (.int 6))) .nil))) (.cons (.ret (.call false "_law_lend" (.cons (.v 1) (.cons (.v 2) (.cons (.v 5) (.cons (.v 4) .nil)))))) .nil) .nil) (.cons (.ite (.bool true (.cons (.cmp .Eq (.v 0) (.k (.int 4))) (.cons (.cmp .Lt (.bin .Sub (.b1 .len (.v 5)) (.b1 .len (.v 6))) (.k (.int 3))) .nil))) (.cons (.asg 7 (.b1 .tuple (.comp (.call false "_law_thing" (.cons (.bin .Add (.v 2) (.bin .Mult (.v 8) (.bin .Add (.k (.int 1)) (.bin .Mod (.v 1) (.k (.int 2)))))) (.cons (.idx (.v 4) (.k (.int 0))) .nil))) (.range1 (.bin .Add (.k (.int 1)) (.bin .Mod (.v 1) (.k (.int 5))))) .none))) (.cons (.ret (.tup (.cons (.k (.str "pick")) (.cons (.call false "_law_word" (.cons (.v 1) (.cons (.v 2) (.cons (.b1 .len (.v 5)) (.cons (.v 4) .nil))))) (.cons (.v 7) .nil))))) .nil)) .nil) (.cons (.ite (.bool true (.cons (.cmp .In (.v 0) (.lst (.cons (.k (.int 5)) (.cons (.k (.int 6)) .nil)))) (.cons (.cmp .Lt (.b1 .len (.v 3)) (.k (.int 12))) .nil))) (.cons (.ret (.tup (.cons (.idx (.lst (.cons (.k (.str "either")) (.cons (.k (.str "again")) .nil))) (.bin .Sub (.v 0) (.k (.int 5)))) .nil))) .nil) .nil) (.cons (.ite (.bool true (.cons (.cmp .Eq (.v 0) (.k (.int 7))) (.cons (.cmp .Gt (.b1 .len (.v 3)) (.k (.int 0))) (.cons (.cmp .Eq (.idx (.idx (.v 3) (.neg (.k (.int 1)))) (.k (.int 0))) (.k (.str "either"))) .nil)))) (.cons (.ret (.tup (.cons (.k (.str "or")) .nil))) .nil) .nil) (.cons (.ite (.bool true (.cons (.cmp .Lt (.v 0) (.k (.int 10))) (.cons (.cmp .Gt (.b1 .len (.v 6)) (.k (.int 0))) .nil))) (.cons (.ret (.call false "_law_deed" (.cons (.v 1) (.cons (.v 2) (.cons (.v 6) .nil))))) .nil) .nil) (.cons (.ite (.cmp .Gt (.b1 .len (.v 3)) (.k (.int 0))) (.cons (.ret (.tup (.cons (.k (.str "end")) .nil))) .nil) .nil) (.cons (.ret (.call false "_law_lend" (.cons (.v 1) (.cons (.v 2) (.cons (.v 5) (.cons (.v 4) .nil)))))) .nil)))))))))⟩
noncomputable def fn_law_deed:Fn:=⟨3,5,[],false,(.cons (.asg 3 (.idx (.v 2) (.bin .Mod (.v 1) (.b1 .len (.v 2))))) (.cons (.asg 4 (.idx (.lst (.cons (.k (.str "look")) (.cons (.k (.str "back")) (.cons (.k (.str "change")) .nil)))) (.bin .Mod (.v 0) (.k (.int 3))))) (.cons (.ite (.bool true (.cons (.cmp .Eq (.v 4) (.k (.str "change"))) (.cons (.cmp .Eq (.idx (.v 3) (.k (.int 2))) (.k (.str "read"))) .nil))) (.cons (.asg 4 (.k (.str "look"))) .nil) .nil) (.cons (.ret (.tup (.cons (.v 4) (.cons (.idx (.v 3) (.k (.int 1))) .nil)))) .nil))))⟩
noncomputable def fn_law_lend:Fn:=⟨4,7,[],false,(.cons (.asg 4 (.idx (.lst (.cons (.k (.str "read")) (.cons (.k (.str "write")) .nil))) (.bin .Mod (.v 0) (.k (.int 2))))) (.cons (.asg 5 (.call false "_law_thing" (.cons (.v 1) (.cons (.idx (.v 3) (.k (.int 0))) .nil)))) (.cons (.ite (.bool true (.cons (.cmp .Eq (.bin .Mod (.bin .FloorDiv (.v 0) (.k (.int 2))) (.k (.int 2))) (.k (.int 1))) (.cons (.cmp .Gt (.b1 .len (.v 2)) (.k (.int 0))) .nil))) (.cons (.asg 6 (.idx (.v 2) (.bin .Mod (.v 1) (.b1 .len (.v 2))))) (.cons (.asg 5 (.idx (.v 6) (.k (.int 1)))) (.cons (.ite (.bool true (.cons (.cmp .Eq (.idx (.v 6) (.k (.int 0))) (.k (.str "lend"))) (.cons (.cmp .Eq (.idx (.v 6) (.k (.int 2))) (.k (.str "read"))) .nil))) (.cons (.asg 4 (.k (.str "read"))) .nil) .nil) .nil))) .nil) (.cons (.ret (.tup (.cons (.k (.str "lend")) (.cons (.call false "_law_word" (.cons (.v 0) (.cons (.v 1) (.cons (.b1 .len (.v 2)) (.cons (.v 3) .nil))))) (.cons (.v 4) (.cons (.v 5) .nil)))))) .nil))))⟩
noncomputable def fn_law_gadget:Fn:=⟨4,14,[],false,(.cons (.asg 4 (.call false "_law_hands" (.cons (.v 0) (.cons (.v 1) (.cons (.v 2) (.cons (.v 3) .nil)))))) (.cons (.asg 5 (.idx (.v 4) (.k (.int 0)))) (.cons (.asg 6 (.idx (.v 4) (.k (.int 1)))) (.cons (.asg 7 (.call false "_law_thing" (.cons (.v 1) (.cons (.idx (.v 3) (.k (.int 0))) .nil)))) (.cons (.asg 8 (.bin .Mod (.bin .Add (.v 7) (.k (.int 1))) (.bin .Pow (.k (.int 10)) (.k (.int 9))))) (.cons (.asg 9 (.bin .Mod (.bin .Add (.v 7) (.k (.int 2))) (.bin .Pow (.k (.int 10)) (.k (.int 9))))) (.cons (.asg 10 (.idx (.lst (.cons (.k (.str "read")) (.cons (.k (.str "write")) .nil))) (.bin .Mod (.bin .FloorDiv (.v 0) (.k (.int 8))) (.k (.int 2))))) (.cons (.asg 11 (.tup (.cons (.k (.str "end")) .nil))) (.cons (.asg 12 (.bin .Mod (.v 0) (.k (.int 8)))) (.cons (.ite (.cmp .Lt (.v 12) (.k (.int 4))) (.cons (.ret (.call false "_law_first_four" (.cons (.v 12) (.cons (.v 0) (.cons (.v 1) (.cons (.v 4) (.cons (.v 7) .nil))))))) .nil) .nil) (.cons (.ite (.cmp .Eq (.v 12) (.k (.int 4))) (.cons (.asg 13 (.lst (.cons (.tup (.cons (.k (.str "pick")) (.cons (.idx (.v 4) (.k (.int 2))) (.cons (.tup (.cons (.v 7) (.cons (.v 7) (.cons (.v 8) (.cons (.v 8) (.cons (.v 9) .nil)))))) .nil)))) .nil))) (.cons (.asg 13 (.bin .Add (.v 13) (.lst (.cons (.tup (.cons (.k (.str "lend")) (.cons (.v 5) (.cons (.k (.str "write")) (.cons (.idx (.lst (.cons (.v 7) (.cons (.v 8) (.cons (.v 9) .nil)))) (.bin .Mod (.v 1) (.k (.int 3)))) .nil))))) (.cons (.tup (.cons (.k (.str "lend")) (.cons (.v 6) (.cons (.v 10) (.cons (.idx (.v 4) (.k (.int 2))) .nil))))) .nil))))) (.cons (.ret (.bin .Add (.v 13) (.lst (.cons (.v 11) (.cons (.v 11) (.cons (.v 11) .nil)))))) .nil))) .nil) (.cons (.ite (.cmp .Eq (.v 12) (.k (.int 5))) (.cons (.asg 13 (.lst (.cons (.tup (.cons (.k (.str "lend")) (.cons (.v 5) (.cons (.k (.str "write")) (.cons (.v 7) .nil))))) (.cons (.tup (.cons (.k (.str "lend")) (.cons (.v 6) (.cons (.k (.str "read")) (.cons (.v 5) .nil))))) (.cons (.tup (.cons (.k (.str "either")) .nil)) (.cons (.tup (.cons (.k (.str "back")) (.cons (.idx (.lst (.cons (.v 5) (.cons (.v 6) .nil))) (.bin .Mod (.v 1) (.k (.int 2)))) .nil))) .nil)))))) (.cons (.ret (.bin .Add (.v 13) (.lst (.cons (.tup (.cons (.k (.str "or")) .nil)) (.cons (.tup (.cons (.k (.str "look")) (.cons (.v 6) .nil))) (.cons (.v 11) (.cons (.tup (.cons (.k (.str "look")) (.cons (.v 5) .nil))) (.cons (.v 11) (.cons (.v 11) .nil))))))))) .nil)) .nil) (.cons (.ite (.cmp .Eq (.v 12) (.k (.int 6))) (.cons (.asg 13 (.lst (.cons (.tup (.cons (.k (.str "lend")) (.cons (.v 5) (.cons (.v 10) (.cons (.v 8) .nil))))) (.cons (.tup (.cons (.k (.str "lend")) (.cons (.v 6) (.cons (.idx (.lst (.cons (.k (.str "read")) (.cons (.k (.str "write")) .nil))) (.bin .Mod (.v 1) (.k (.int 2)))) (.cons (.v 7) .nil))))) .nil)))) (.cons (.ret (.bin .Add (.v 13) (.lst (.cons (.tup (.cons (.k (.str "lend")) (.cons (.idx (.v 4) (.k (.int 2))) (.cons (.k (.str "write")) (.cons (.v 7) .nil))))) (.cons (.tup (.cons (.k (.str "look")) (.cons (.v 6) .nil))) (.cons (.v 11) (.cons (.v 11) (.cons (.v 11) .nil)))))))) .nil)) .nil) (.cons (.ite (.cmp .Eq (.bin .Mod (.v 1) (.k (.int 3))) (.k (.int 0))) (.cons (.ret (.lst (.cons (.tup (.cons (.k (.str "lend")) (.cons (.v 5) (.cons (.k (.str "write")) (.cons (.v 7) .nil))))) (.cons (.tup (.cons (.k (.str "back")) (.cons (.v 5) .nil))) (.cons (.tup (.cons (.k (.str "lend")) (.cons (.v 6) (.cons (.v 10) (.cons (.v 5) .nil))))) (.cons (.tup (.cons (.k (.str "look")) (.cons (.v 6) .nil))) (.cons (.v 11) (.cons (.v 11) .nil)))))))) .nil) .nil) (.cons (.asg 13 (.lst (.cons (.tup (.cons (.k (.str "pick")) (.cons (.idx (.v 4) (.k (.int 2))) (.cons (.tup (.cons (.v 8) (.cons (.v 7) .nil))) .nil)))) (.cons (.tup (.cons (.k (.str "lend")) (.cons (.v 5) (.cons (.k (.str "write")) (.cons (.v 7) .nil))))) (.cons (.tup (.cons (.k (.str "either")) .nil)) (.cons (.tup (.cons (.k (.str "back")) (.cons (.v 5) .nil))) .nil)))))) (.cons (.ret (.bin .Add (.v 13) (.lst (.cons (.tup (.cons (.k (.str "or")) .nil)) (.cons (.v 11) (.cons (.tup (.cons (.k (.str "lend")) (.cons (.v 6) (.cons (.v 10) (.cons (.idx (.v 4) (.k (.int 2))) .nil))))) (.cons (.tup (.cons (.k (.str "look")) (.cons (.v 5) .nil))) (.cons (.v 11) (.cons (.v 11) (.cons (.v 11) .nil)))))))))) .nil))))))))))))))))⟩
noncomputable def fn_law_first_four:Fn:=⟨5,12,[],false,(.cons (.asg 5 (.idx (.v 3) (.k (.int 0)))) (.cons (.asg 6 (.idx (.v 3) (.k (.int 1)))) (.cons (.asg 7 (.idx (.v 3) (.k (.int 2)))) (.cons (.asg 8 (.idx (.lst (.cons (.k (.str "read")) (.cons (.k (.str "write")) .nil))) (.bin .Mod (.bin .FloorDiv (.v 1) (.k (.int 8))) (.k (.int 2))))) (.cons (.asg 9 (.tup (.cons (.k (.str "end")) .nil))) (.cons (.ite (.cmp .Eq (.v 0) (.k (.int 0))) (.cons (.ret (.lst (.cons (.tup (.cons (.k (.str "lend")) (.cons (.v 5) (.cons (.v 8) (.cons (.v 4) .nil))))) (.cons (.tup (.cons (.k (.str "again")) .nil)) (.cons (.tup (.cons (.k (.str "look")) (.cons (.v 5) .nil))) (.cons (.tup (.cons (.k (.str "back")) (.cons (.v 5) .nil))) (.cons (.v 9) (.cons (.v 9) .nil)))))))) .nil) .nil) (.cons (.ite (.cmp .Eq (.v 0) (.k (.int 1))) (.cons (.asg 10 (.lst (.cons (.tup (.cons (.k (.str "lend")) (.cons (.v 5) (.cons (.v 8) (.cons (.v 4) .nil))))) (.cons (.tup (.cons (.k (.str "either")) .nil)) (.cons (.tup (.cons (.k (.str "back")) (.cons (.v 5) .nil))) (.cons (.tup (.cons (.k (.str "or")) .nil)) (.cons (.tup (.cons (.k (.str "look")) (.cons (.v 5) .nil))) (.cons (.v 9) .nil)))))))) (.cons (.ret (.bin .Add (.v 10) (.lst (.cons (.tup (.cons (.k (.str "look")) (.cons (.v 5) .nil))) (.cons (.v 9) .nil))))) .nil)) .nil) (.cons (.asg 11 (.tup (.cons (.k (.str "lend")) (.cons (.v 5) (.cons (.k (.str "write")) (.cons (.v 4) .nil)))))) (.cons (.ite (.cmp .Eq (.v 0) (.k (.int 2))) (.cons (.asg 10 (.lst (.cons (.v 11) (.cons (.tup (.cons (.k (.str "lend")) (.cons (.v 6) (.cons (.k (.str "write")) (.cons (.v 5) .nil))))) (.cons (.tup (.cons (.k (.str "lend")) (.cons (.v 7) (.cons (.v 8) (.cons (.v 6) .nil))))) .nil))))) (.cons (.ret (.bin .Add (.v 10) (.lst (.cons (.tup (.cons (.k (.str "back")) (.cons (.idx (.lst (.cons (.v 5) (.cons (.v 6) (.cons (.v 5) .nil)))) (.bin .Mod (.v 2) (.k (.int 3)))) .nil))) (.cons (.tup (.cons (.k (.str "look")) (.cons (.idx (.lst (.cons (.v 7) (.cons (.v 7) (.cons (.v 6) .nil)))) (.bin .Mod (.v 1) (.k (.int 3)))) .nil))) (.cons (.v 9) (.cons (.v 9) (.cons (.v 9) .nil)))))))) .nil)) .nil) (.cons (.asg 10 (.lst (.cons (.v 11) (.cons (.tup (.cons (.k (.str "lend")) (.cons (.v 6) (.cons (.k (.str "read")) (.cons (.v 5) .nil))))) (.cons (.tup (.cons (.k (.str "lend")) (.cons (.v 7) (.cons (.idx (.lst (.cons (.k (.str "read")) (.cons (.k (.str "write")) .nil))) (.bin .Mod (.v 2) (.k (.int 2)))) (.cons (.v 4) .nil))))) (.cons (.tup (.cons (.k (.str "again")) .nil)) .nil)))))) (.cons (.ret (.bin .Add (.v 10) (.lst (.cons (.tup (.cons (.k (.str "back")) (.cons (.v 6) .nil))) (.cons (.v 9) (.cons (.v 9) (.cons (.v 9) (.cons (.v 9) .nil)))))))) .nil)))))))))))⟩
noncomputable def fn_law_hands:Fn:=⟨4,5,[],false,(.cons (.asg 4 (.lst (.cons (.call false "_law_word" (.cons (.v 0) (.cons (.v 1) (.cons (.v 2) (.cons (.v 3) .nil))))) (.cons (.call false "_law_word" (.cons (.v 1) (.cons (.v 0) (.cons (.bin .Add (.v 2) (.k (.int 1))) (.cons (.v 3) .nil))))) .nil)))) (.cons (.ret (.bin .Add (.v 4) (.lst (.cons (.call false "_law_word" (.cons (.v 0) (.cons (.v 0) (.cons (.bin .Add (.v 2) (.k (.int 2))) (.cons (.v 3) .nil))))) .nil)))) .nil))⟩
noncomputable def fn_law_thing:Fn:=⟨2,2,[],false,(.cons (.ite (.cmp .Eq (.bin .Mod (.v 0) (.k (.int 8))) (.k (.int 7))) (.cons (.ret (.bin .Mod (.bin .FloorDiv (.v 0) (.k (.int 8))) (.bin .Pow (.k (.int 10)) (.k (.int 9))))) .nil) .nil) (.cons (.ret (.bin .Mod (.bin .Add (.v 1) (.bin .Mod (.v 0) (.k (.int 3)))) (.bin .Pow (.k (.int 10)) (.k (.int 9))))) .nil))⟩
noncomputable def fn_law_draw:Fn:=⟨1,4,[],false,(.cons (.asg 1 (.bin .Mult (.bin .Mod (.bin .FloorDiv (.call false "_law_cell_at" (.cons (.v 0) (.cons (.k (.int 1)) .nil))) (.k (.int 2))) (.bin .Pow (.k (.int 10)) (.k (.int 9)))) (.bin .Mod (.call false "_law_cell_at" (.cons (.v 0) (.cons (.k (.int 1)) .nil))) (.k (.int 2))))) (.cons (.asg 2 (.bin .FloorDiv (.call false "_law_cell_at" (.cons (.v 0) (.cons (.k (.int 2)) .nil))) (.k (.int 8)))) (.cons (.asg 3 (.bin .Add (.k (.int 1)) (.bin .Mod (.bin .FloorDiv (.v 2) (.k (.int 4))) (.k (.int 12))))) (.cons (.ret (.lst (.cons (.v 1) (.cons (.bin .Mod (.v 2) (.k (.int 4))) (.cons (.v 3) (.cons (.bin .Mod (.call false "_law_cell_at" (.cons (.v 0) (.cons (.k (.int 1)) .nil))) (.v 3)) (.cons (.bin .Mod (.call false "_law_cell_at" (.cons (.v 0) (.cons (.k (.int 0)) .nil))) (.k (.int 26))) .nil))))))) .nil))))⟩
noncomputable def fn_law_word:Fn:=⟨4,8,[],false,(.cons (.asg 4 (.k (.str "abcdefghijklmnopqrstuvwxyz"))) (.cons (.asg 5 (.idx (.v 4) (.bin .Mod (.bin .Add (.idx (.v 3) (.k (.int 4))) (.bin .Mult (.k (.int 5)) (.v 2))) (.k (.int 26))))) (.cons (.ite (.cmp .Eq (.idx (.v 3) (.k (.int 1))) (.k (.int 0))) (.cons (.ret (.bin .Mult (.idx (.v 4) (.bin .Mod (.idx (.v 3) (.k (.int 4))) (.k (.int 26)))) (.bin .Add (.v 2) (.k (.int 1))))) .nil) .nil) (.cons (.asg 6 (.k (.str ""))) (.cons (.for1 7 (.range1 (.idx (.v 3) (.k (.int 2)))) (.cons (.ite (.cmp .Eq (.v 7) (.idx (.v 3) (.k (.int 3)))) (.cons (.asg 6 (.bin .Add (.v 6) (.v 5))) .nil) (.cons (.ite (.cmp .Eq (.idx (.v 3) (.k (.int 1))) (.k (.int 1))) (.cons (.asg 6 (.bin .Add (.v 6) (.idx (.v 4) (.bin .Mod (.bin .Add (.v 0) (.bin .Mult (.v 7) (.v 1))) (.k (.int 26)))))) .nil) (.cons (.asg 6 (.bin .Add (.v 6) (.idx (.v 4) (.idx (.v 3) (.k (.int 2)))))) .nil)) .nil)) .nil)) (.cons (.ret (.v 6)) .nil))))))⟩
noncomputable def fn_law_cell_at:Fn:=⟨2,2,[],false,(.cons (.ite (.cmp .Lt (.v 1) (.b1 .len (.v 0))) (.cons (.ret (.idx (.v 0) (.v 1))) .nil) .nil) (.cons (.ret (.k (.int 0))) .nil))⟩
noncomputable def fnlooked:Fn:=⟨1,7,[],false,(.cons (.ex (.call false "checked" (.cons (.v 0) .nil))) (.cons (.asg 1 (.call false "standings" (.cons (.v 0) .nil))) (.cons (.asg 2 (.k (.none))) (.cons (.for2 3 4 (.enum (.v 1)) (.cons (.asg 5 (.call false "fault" (.cons (.v 0) (.cons (.idx (.v 4) (.k (.int 0))) .nil)))) (.cons (.ite (.cmp .NotEq (.v 5) (.k (.str ""))) (.cons (.asg 6 (.tup (.cons (.idx (.idx (.v 4) (.k (.int 0))) (.k (.int 0))) (.cons (.index (.gc "WORDS") (.v 5)) (.cons (.v 3) .nil))))) (.cons (.ite (.bool false (.cons (.cmp .Is (.v 2) (.k (.none))) (.cons (.cmp .Lt (.v 6) (.v 2)) .nil))) (.cons (.asg 2 (.v 6)) .nil) .nil) .nil)) .nil) .nil))) (.cons (.ite (.cmp .Is (.v 2) (.k (.none))) (.cons (.ret (.k (.none))) .nil) .nil) (.cons (.ret (.tup (.cons (.idx (.v 2) (.k (.int 0))) (.cons (.idx (.gc "WORDS") (.idx (.v 2) (.k (.int 1)))) (.cons (.call false "choices_to" (.cons (.v 0) (.cons (.v 1) (.cons (.idx (.v 2) (.k (.int 2))) .nil)))) .nil))))) .nil))))))⟩
noncomputable def fnchoices_to:Fn:=⟨3,5,[3],false,(.cons (.asg 3 (.lst .nil)) (.cons (.wh (.cmp .IsNot (.idx (.idx (.v 1) (.v 2)) (.k (.int 1))) (.k (.none))) (.cons (.asg 4 (.idx (.idx (.v 1) (.v 2)) (.k (.int 1)))) (.cons (.ite (.call false "chooses" (.cons (.idx (.v 0) (.idx (.idx (.idx (.v 1) (.v 4)) (.k (.int 0))) (.k (.int 0)))) .nil)) (.cons (.app 3 (.idx (.idx (.v 1) (.v 2)) (.k (.int 2)))) .nil) .nil) (.cons (.asg 2 (.v 4)) .nil)))) (.cons (.rev 3) (.cons (.ret (.v 3)) .nil))))⟩
noncomputable def fnstandings:Fn:=⟨1,9,[3,4],false,(.cons (.asg 1 (.call true "homes" (.cons (.v 0) .nil))) (.cons (.asg 2 (.call true "ends" (.cons (.v 0) .nil))) (.cons (.asg 3 (.lst .nil)) (.cons (.asg 4 (.dic .nil .nil)) (.cons (.ite (.cmp .Gt (.b1 .len (.v 0)) (.k (.int 0))) (.cons (.app 3 (.tup (.cons (.tup (.cons (.k (.int 0)) (.cons (.tup .nil) .nil))) (.cons (.k (.none)) (.cons (.k (.int 0)) .nil))))) (.cons (.seti 4 (.tup (.cons (.k (.int 0)) (.cons (.tup .nil) .nil))) (.k (.bool true))) .nil)) .nil) (.cons (.asg 5 (.k (.int 0))) (.cons (.wh (.cmp .Lt (.v 5) (.b1 .len (.v 3))) (.cons (.asg 6 (.idx (.idx (.v 3) (.v 5)) (.k (.int 0)))) (.cons (.for1 7 (.range1 (.call false "count_of" (.cons (.v 0) (.cons (.v 1) (.cons (.idx (.v 6) (.k (.int 0))) .nil))))) (.cons (.asg 8 (.call false "moved" (.cons (.v 0) (.cons (.v 1) (.cons (.v 2) (.cons (.v 6) (.cons (.v 7) .nil))))))) (.cons (.ite (.bool true (.cons (.cmp .Lt (.idx (.v 8) (.k (.int 0))) (.b1 .len (.v 0))) (.cons (.cmp .NotIn (.v 8) (.v 4)) .nil))) (.cons (.seti 4 (.v 8) (.k (.bool true))) (.cons (.app 3 (.tup (.cons (.v 8) (.cons (.v 5) (.cons (.v 7) .nil))))) .nil)) .nil) .nil))) (.cons (.asg 5 (.bin .Add (.v 5) (.k (.int 1)))) .nil)))) (.cons (.ret (.v 3)) .nil))))))))⟩
noncomputable def fnchecked:Fn:=⟨1,4,[1],false,(.cons (.asg 1 (.lst .nil)) (.cons (.for2 2 3 (.enum (.v 0)) (.cons (.ite (.not (.call false "is_row" (.cons (.v 3) .nil))) (.cons .stuck .nil) .nil) (.cons (.ex (.call true "need_block" (.cons (.v 1) (.cons (.v 2) (.cons (.v 3) .nil))))) (.cons (.ite (.cmp .In (.idx (.v 3) (.k (.int 0))) (.tup (.cons (.k (.str "back")) (.cons (.k (.str "look")) (.cons (.k (.str "change")) .nil))))) (.cons (.ex (.call true "need_hand" (.cons (.v 1) (.cons (.v 2) (.cons (.v 3) .nil))))) .nil) .nil) (.cons (.ite (.cmp .In (.idx (.v 3) (.k (.int 0))) (.tup (.cons (.k (.str "lend")) (.cons (.k (.str "pick")) .nil)))) (.cons (.ex (.call true "need_free" (.cons (.v 1) (.cons (.v 2) (.cons (.v 3) .nil))))) .nil) .nil) (.cons (.ite (.cmp .In (.idx (.v 3) (.k (.int 0))) (.gc "OPENERS")) (.cons (.app 1 (.call false "block_of" (.cons (.v 2) (.cons (.v 3) .nil)))) .nil) .nil) (.cons (.ite (.cmp .Eq (.idx (.v 3) (.k (.int 0))) (.k (.str "end"))) (.cons (.pop 1) .nil) .nil) .nil))))))) (.cons (.ite (.cmp .NotEq (.v 1) (.lst .nil)) (.cons .stuck .nil) .nil) .nil)))⟩
noncomputable def fnblock_of:Fn:=⟨2,2,[],false,(.cons (.ite (.cmp .Eq (.idx (.v 1) (.k (.int 0))) (.k (.str "lend"))) (.cons (.ret (.tup (.cons (.v 0) (.cons (.k (.str "lend")) (.cons (.idx (.v 1) (.k (.int 1))) (.cons (.idx (.v 1) (.k (.int 2))) .nil)))))) .nil) .nil) (.cons (.ite (.cmp .Eq (.idx (.v 1) (.k (.int 0))) (.k (.str "pick"))) (.cons (.ret (.tup (.cons (.v 0) (.cons (.k (.str "pick")) (.cons (.idx (.v 1) (.k (.int 1))) (.cons (.k (.str "pick")) .nil)))))) .nil) .nil) (.cons (.ret (.tup (.cons (.v 0) (.cons (.idx (.v 1) (.k (.int 0))) (.cons (.k (.str "")) (.cons (.k (.str "")) .nil)))))) .nil)))⟩
noncomputable def fnneed_free:Fn:=⟨3,4,[],true,(.cons (.asg 3 (.k (.none))) (.cons (.ite (.bool true (.cons (.cmp .Eq (.idx (.v 2) (.k (.int 0))) (.k (.str "lend"))) (.cons (.isi (.idx (.v 2) (.k (.int 3))) .str) .nil))) (.cons (.asg 3 (.call true "meaning" (.cons (.v 0) (.cons (.idx (.v 2) (.k (.int 3))) .nil)))) (.cons (.ite (.cmp .Is (.v 3) (.k (.none))) (.cons .stuck .nil) .nil) .nil)) .nil) (.cons (.ite (.cmp .IsNot (.call true "meaning" (.cons (.v 0) (.cons (.idx (.v 2) (.k (.int 1))) .nil))) (.k (.none))) (.cons .stuck .nil) .nil) (.cons (.ite (.bool true (.cons (.cmp .Eq (.idx (.v 2) (.k (.int 0))) (.k (.str "lend"))) (.cons (.cmp .Eq (.idx (.v 2) (.k (.int 2))) (.k (.str "write"))) (.cons (.cmp .Eq (.v 3) (.k (.str "read"))) .nil)))) (.cons .stuck .nil) .nil) .nil))))⟩
noncomputable def fnneed_hand:Fn:=⟨3,4,[],true,(.cons (.asg 3 (.call true "meaning" (.cons (.v 0) (.cons (.idx (.v 2) (.k (.int 1))) .nil)))) (.cons (.ite (.bool false (.cons (.cmp .Is (.v 3) (.k (.none))) (.cons (.cmp .Eq (.v 3) (.k (.str "pick"))) .nil))) (.cons .stuck .nil) .nil) (.cons (.ite (.bool true (.cons (.cmp .Eq (.idx (.v 2) (.k (.int 0))) (.k (.str "change"))) (.cons (.cmp .Eq (.v 3) (.k (.str "read"))) .nil))) (.cons .stuck .nil) .nil) .nil)))⟩
noncomputable def fnneed_block:Fn:=⟨3,3,[],true,(.cons (.ite (.bool true (.cons (.cmp .Eq (.idx (.v 2) (.k (.int 0))) (.k (.str "end"))) (.cons (.cmp .Eq (.v 0) (.lst .nil)) .nil))) (.cons .stuck .nil) .nil) (.cons (.ite (.bool true (.cons (.cmp .Eq (.idx (.v 2) (.k (.int 0))) (.k (.str "or"))) (.cons (.bool false (.cons (.cmp .Eq (.v 0) (.lst .nil)) (.cons (.cmp .NotEq (.idx (.idx (.v 0) (.neg (.k (.int 1)))) (.k (.int 1))) (.k (.str "either"))) .nil))) .nil))) (.cons .stuck .nil) .nil) .nil))⟩
noncomputable def fnmeaning:Fn:=⟨2,3,[],true,(.cons (.for1 2 (.plain (.v 0)) (.cons (.ite (.cmp .Eq (.idx (.v 2) (.k (.int 2))) (.v 1)) (.cons (.ret (.idx (.v 2) (.k (.int 3)))) .nil) .nil) .nil)) (.cons (.ret (.k (.none))) .nil))⟩
noncomputable def fnis_row:Fn:=⟨1,1,[],false,(.cons (.ite (.bool false (.cons (.not (.isi (.v 0) .tuple)) (.cons (.cmp .Eq (.b1 .len (.v 0)) (.k (.int 0))) (.cons (.not (.isi (.idx (.v 0) (.k (.int 0))) .str)) .nil)))) (.cons (.ret (.k (.bool false))) .nil) .nil) (.cons (.ite (.cmp .Eq (.idx (.v 0) (.k (.int 0))) (.k (.str "lend"))) (.cons (.ret (.call false "is_lend" (.cons (.v 0) .nil))) .nil) .nil) (.cons (.ite (.cmp .Eq (.idx (.v 0) (.k (.int 0))) (.k (.str "pick"))) (.cons (.ret (.bool true (.cons (.cmp .Eq (.b1 .len (.v 0)) (.k (.int 3))) (.cons (.call false "is_word" (.cons (.idx (.v 0) (.k (.int 1))) .nil)) (.cons (.call false "is_choice" (.cons (.idx (.v 0) (.k (.int 2))) .nil)) .nil))))) .nil) .nil) (.cons (.ite (.cmp .In (.idx (.v 0) (.k (.int 0))) (.tup (.cons (.k (.str "either")) (.cons (.k (.str "or")) (.cons (.k (.str "again")) (.cons (.k (.str "end")) .nil)))))) (.cons (.ret (.cmp .Eq (.b1 .len (.v 0)) (.k (.int 1)))) .nil) .nil) (.cons (.ite (.cmp .In (.idx (.v 0) (.k (.int 0))) (.tup (.cons (.k (.str "back")) (.cons (.k (.str "look")) (.cons (.k (.str "change")) .nil))))) (.cons (.ret (.bool true (.cons (.cmp .Eq (.b1 .len (.v 0)) (.k (.int 2))) (.cons (.call false "is_word" (.cons (.idx (.v 0) (.k (.int 1))) .nil)) .nil)))) .nil) .nil) (.cons (.ret (.k (.bool false))) .nil))))))⟩
noncomputable def fnis_lend:Fn:=⟨1,1,[],false,(.cons (.ite (.bool false (.cons (.cmp .NotEq (.b1 .len (.v 0)) (.k (.int 4))) (.cons (.not (.call false "is_word" (.cons (.idx (.v 0) (.k (.int 1))) .nil))) (.cons (.not (.isi (.idx (.v 0) (.k (.int 2))) .str)) .nil)))) (.cons (.ret (.k (.bool false))) .nil) .nil) (.cons (.ret (.bool true (.cons (.cmp .In (.idx (.v 0) (.k (.int 2))) (.tup (.cons (.k (.str "read")) (.cons (.k (.str "write")) .nil)))) (.cons (.bool false (.cons (.call false "is_thing" (.cons (.idx (.v 0) (.k (.int 3))) .nil)) (.cons (.call false "is_word" (.cons (.idx (.v 0) (.k (.int 3))) .nil)) .nil))) .nil)))) .nil))⟩
noncomputable def fnis_choice:Fn:=⟨1,1,[],false,(.cons (.ite (.bool false (.cons (.not (.isi (.v 0) .tuple)) (.cons (.not (.cmp2 .LtE .LtE (.k (.int 1)) (.b1 .len (.v 0)) (.gc "MOST_THINGS"))) .nil))) (.cons (.ret (.k (.bool false))) .nil) .nil) (.cons (.ret (.b1 .all (.comp (.call false "is_thing" (.cons (.v 1) .nil)) (.plain (.v 0)) .none))) .nil))⟩
noncomputable def fnis_thing:Fn:=⟨1,1,[],false,(.cons (.ret (.bool true (.cons (.isi (.v 0) .int) (.cons (.not (.isi (.v 0) .bool)) (.cons (.cmp2 .LtE .LtE (.k (.int 0)) (.v 0) (.gc "MOST_THING")) .nil))))) .nil)⟩
noncomputable def fnis_word:Fn:=⟨1,1,[],false,(.cons (.ite (.bool false (.cons (.not (.isi (.v 0) .str)) (.cons (.not (.cmp2 .LtE .LtE (.k (.int 1)) (.b1 .len (.v 0)) (.gc "LONGEST"))) .nil))) (.cons (.ret (.k (.bool false))) .nil) .nil) (.cons (.ret (.b1 .all (.comp (.cmp .In (.v 1) (.gc "LETTERS")) (.plain (.v 0)) .none))) .nil))⟩
noncomputable def fnfault:Fn:=⟨2,5,[],false,(.cons (.unp 2 3 (.v 1)) (.cons (.ite (.call false "beside" (.cons (.v 3) .nil)) (.cons (.ret (.k (.str "beside"))) .nil) .nil) (.cons (.asg 4 (.call false "hand_used" (.cons (.idx (.v 0) (.v 2)) (.cons (.v 3) .nil)))) (.cons (.ite (.cmp .Is (.v 4) (.k (.none))) (.cons (.ret (.k (.str ""))) .nil) .nil) (.cons (.ite (.not (.idx (.v 4) (.k (.int 4)))) (.cons (.ret (.k (.str "empty"))) .nil) .nil) (.cons (.ite (.bool true (.cons (.cmp .NotEq (.idx (.idx (.v 0) (.v 2)) (.k (.int 0))) (.k (.str "lend"))) (.cons (.call false "is_asleep" (.cons (.v 3) (.cons (.idx (.v 4) (.k (.int 0))) .nil))) .nil))) (.cons (.ret (.k (.str "asleep"))) .nil) .nil) (.cons (.ret (.k (.str ""))) .nil)))))))⟩
noncomputable def fnhand_used:Fn:=⟨2,3,[],false,(.cons (.ite (.cmp .In (.idx (.v 0) (.k (.int 0))) (.tup (.cons (.k (.str "look")) (.cons (.k (.str "change")) .nil)))) (.cons (.ret (.call false "entry_of" (.cons (.v 1) (.cons (.idx (.v 0) (.k (.int 1))) .nil)))) .nil) .nil) (.cons (.ite (.bool true (.cons (.cmp .Eq (.idx (.v 0) (.k (.int 0))) (.k (.str "lend"))) (.cons (.isi (.idx (.v 0) (.k (.int 3))) .str) .nil))) (.cons (.asg 2 (.call false "entry_of" (.cons (.v 1) (.cons (.idx (.v 0) (.k (.int 3))) .nil)))) (.cons (.ite (.cmp .NotEq (.idx (.v 2) (.k (.int 1))) (.k (.str "pick"))) (.cons (.ret (.v 2)) .nil) .nil) .nil)) .nil) (.cons (.ret (.k (.none))) .nil)))⟩
noncomputable def fnbeside:Fn:=⟨1,4,[],false,(.cons (.asg 1 (.call true "awake" (.cons (.v 0) .nil))) (.cons (.for1 2 (.range1 (.b1 .len (.v 1))) (.cons (.for1 3 (.plain (.sl (.v 1) .none (.some (.v 2)))) (.cons (.ite (.bool true (.cons (.cmp .Eq (.idx (.v 3) (.k (.int 2))) (.idx (.idx (.v 1) (.v 2)) (.k (.int 2)))) (.cons (.cmp .In (.k (.str "write")) (.tup (.cons (.idx (.v 3) (.k (.int 1))) (.cons (.idx (.idx (.v 1) (.v 2)) (.k (.int 1))) .nil)))) .nil))) (.cons (.ret (.k (.bool true))) .nil) .nil) .nil)) .nil)) (.cons (.ret (.k (.bool false))) .nil)))⟩
noncomputable def fnawake:Fn:=⟨1,3,[1],true,(.cons (.asg 1 (.lst .nil)) (.cons (.for1 2 (.plain (.v 0)) (.cons (.ite (.bool true (.cons (.cmp .NotEq (.idx (.v 2) (.k (.int 1))) (.k (.str "pick"))) (.cons (.idx (.v 2) (.k (.int 4))) (.cons (.not (.call false "is_asleep" (.cons (.v 0) (.cons (.idx (.v 2) (.k (.int 0))) .nil)))) .nil)))) (.cons (.app 1 (.v 2)) .nil) .nil) .nil)) (.cons (.ret (.v 1)) .nil)))⟩
noncomputable def fnis_asleep:Fn:=⟨2,2,[],false,(.cons (.ret (.b1 .any (.comp (.bool true (.cons (.cmp .Eq (.idx (.v 2) (.k (.int 3))) (.v 1)) (.cons (.idx (.v 2) (.k (.int 4))) .nil))) (.plain (.v 0)) .none))) .nil)⟩
noncomputable def fnchooses:Fn:=⟨1,1,[],false,(.cons (.ret (.cmp .In (.idx (.v 0) (.k (.int 0))) (.tup (.cons (.k (.str "pick")) (.cons (.k (.str "either")) (.cons (.k (.str "again")) .nil)))))) .nil)⟩
noncomputable def fnmoved:Fn:=⟨5,9,[],false,(.cons (.unp 5 6 (.v 3)) (.cons (.asg 7 (.idx (.v 0) (.v 5))) (.cons (.asg 8 (.bin .Mod (.v 4) (.call false "count_of" (.cons (.v 0) (.cons (.v 1) (.cons (.v 5) .nil)))))) (.cons (.ite (.cmp .Eq (.idx (.v 7) (.k (.int 0))) (.k (.str "lend"))) (.cons (.ret (.tup (.cons (.bin .Add (.v 5) (.k (.int 1))) (.cons (.bin .Add (.v 6) (.tup (.cons (.call false "lent" (.cons (.v 7) (.cons (.v 6) .nil))) .nil))) .nil)))) .nil) .nil) (.cons (.ite (.cmp .Eq (.idx (.v 7) (.k (.int 0))) (.k (.str "pick"))) (.cons (.ret (.tup (.cons (.bin .Add (.v 5) (.k (.int 1))) (.cons (.bin .Add (.v 6) (.tup (.cons (.tup (.cons (.idx (.v 7) (.k (.int 1))) (.cons (.k (.str "pick")) (.cons (.idx (.idx (.v 7) (.k (.int 2))) (.v 8)) (.cons (.k (.str "")) (.cons (.k (.bool true)) .nil)))))) .nil))) .nil)))) .nil) .nil) (.cons (.ite (.cmp .Eq (.idx (.v 7) (.k (.int 0))) (.k (.str "either"))) (.cons (.ret (.tup (.cons (.idx (.call false "first_rows" (.cons (.v 0) (.cons (.v 1) (.cons (.v 5) .nil)))) (.v 8)) (.cons (.v 6) .nil)))) .nil) .nil) (.cons (.ite (.cmp .Eq (.idx (.v 7) (.k (.int 0))) (.k (.str "or"))) (.cons (.ret (.tup (.cons (.idx (.v 2) (.idx (.v 1) (.v 5))) (.cons (.v 6) .nil)))) .nil) .nil) (.cons (.ite (.bool true (.cons (.cmp .Eq (.idx (.v 7) (.k (.int 0))) (.k (.str "again"))) (.cons (.cmp .Eq (.v 8) (.k (.int 0))) .nil))) (.cons (.ret (.tup (.cons (.bin .Add (.idx (.v 2) (.v 5)) (.k (.int 1))) (.cons (.v 6) .nil)))) .nil) .nil) (.cons (.ite (.cmp .Eq (.idx (.v 7) (.k (.int 0))) (.k (.str "end"))) (.cons (.ret (.call false "ended" (.cons (.v 0) (.cons (.v 1) (.cons (.v 3) .nil))))) .nil) .nil) (.cons (.ite (.cmp .Eq (.idx (.v 7) (.k (.int 0))) (.k (.str "back"))) (.cons (.ret (.tup (.cons (.bin .Add (.v 5) (.k (.int 1))) (.cons (.call false "given_back" (.cons (.v 6) (.cons (.idx (.v 7) (.k (.int 1))) .nil))) .nil)))) .nil) .nil) (.cons (.ret (.tup (.cons (.bin .Add (.v 5) (.k (.int 1))) (.cons (.v 6) .nil)))) .nil)))))))))))⟩
noncomputable def fnended:Fn:=⟨3,6,[],false,(.cons (.unp 3 4 (.v 2)) (.cons (.asg 5 (.idx (.idx (.v 0) (.idx (.v 1) (.v 3))) (.k (.int 0)))) (.cons (.ite (.cmp .Eq (.v 5) (.k (.str "again"))) (.cons (.ret (.tup (.cons (.idx (.v 1) (.v 3)) (.cons (.v 4) .nil)))) .nil) .nil) (.cons (.ite (.cmp .Eq (.v 5) (.k (.str "either"))) (.cons (.ret (.tup (.cons (.bin .Add (.v 3) (.k (.int 1))) (.cons (.v 4) .nil)))) .nil) .nil) (.cons (.ret (.tup (.cons (.bin .Add (.v 3) (.k (.int 1))) (.cons (.sl (.v 4) .none (.some (.neg (.k (.int 1))))) .nil)))) .nil)))))⟩
noncomputable def fncount_of:Fn:=⟨3,3,[],false,(.cons (.ite (.cmp .Eq (.idx (.idx (.v 0) (.v 2)) (.k (.int 0))) (.k (.str "pick"))) (.cons (.ret (.b1 .len (.idx (.idx (.v 0) (.v 2)) (.k (.int 2))))) .nil) .nil) (.cons (.ite (.cmp .Eq (.idx (.idx (.v 0) (.v 2)) (.k (.int 0))) (.k (.str "either"))) (.cons (.ret (.b1 .len (.call false "first_rows" (.cons (.v 0) (.cons (.v 1) (.cons (.v 2) .nil)))))) .nil) .nil) (.cons (.ite (.cmp .Eq (.idx (.idx (.v 0) (.v 2)) (.k (.int 0))) (.k (.str "again"))) (.cons (.ret (.k (.int 2))) .nil) .nil) (.cons (.ret (.k (.int 1))) .nil))))⟩
noncomputable def fngiven_back:Fn:=⟨2,5,[2,3],false,(.cons (.asg 2 (.dic (.cons (.v 1) .nil) (.cons (.k (.bool true)) .nil))) (.cons (.asg 3 (.lst .nil)) (.cons (.for1 4 (.plain (.v 0)) (.cons (.ite (.bool false (.cons (.cmp .In (.idx (.v 4) (.k (.int 0))) (.v 2)) (.cons (.cmp .In (.idx (.v 4) (.k (.int 3))) (.v 2)) .nil))) (.cons (.seti 2 (.idx (.v 4) (.k (.int 0))) (.k (.bool true))) (.cons (.app 3 (.bin .Add (.sl (.v 4) .none (.some (.k (.int 4)))) (.tup (.cons (.k (.bool false)) .nil)))) .nil)) (.cons (.app 3 (.v 4)) .nil)) .nil)) (.cons (.ret (.b1 .tuple (.v 3))) .nil))))⟩
noncomputable def fnlent:Fn:=⟨2,3,[],false,(.cons (.ite (.isi (.idx (.v 0) (.k (.int 3))) .int) (.cons (.ret (.tup (.cons (.idx (.v 0) (.k (.int 1))) (.cons (.idx (.v 0) (.k (.int 2))) (.cons (.idx (.v 0) (.k (.int 3))) (.cons (.k (.str "")) (.cons (.k (.bool true)) .nil))))))) .nil) .nil) (.cons (.asg 2 (.call false "entry_of" (.cons (.v 1) (.cons (.idx (.v 0) (.k (.int 3))) .nil)))) (.cons (.ite (.cmp .Eq (.idx (.v 2) (.k (.int 1))) (.k (.str "pick"))) (.cons (.ret (.tup (.cons (.idx (.v 0) (.k (.int 1))) (.cons (.idx (.v 0) (.k (.int 2))) (.cons (.idx (.v 2) (.k (.int 2))) (.cons (.k (.str "")) (.cons (.k (.bool true)) .nil))))))) .nil) .nil) (.cons (.ret (.tup (.cons (.idx (.v 0) (.k (.int 1))) (.cons (.idx (.v 0) (.k (.int 2))) (.cons (.idx (.v 2) (.k (.int 2))) (.cons (.idx (.v 0) (.k (.int 3))) (.cons (.idx (.v 2) (.k (.int 4))) .nil))))))) .nil))))⟩
noncomputable def fnentry_of:Fn:=⟨2,3,[],false,(.cons (.for1 2 (.plain (.v 0)) (.cons (.ite (.cmp .Eq (.idx (.v 2) (.k (.int 0))) (.v 1)) (.cons (.ret (.v 2)) .nil) .nil) .nil)) (.cons (.ret (.k (.none))) .nil))⟩
noncomputable def fnfirst_rows:Fn:=⟨3,5,[3],false,(.cons (.asg 3 (.lst (.cons (.bin .Add (.v 2) (.k (.int 1))) .nil))) (.cons (.for1 4 (.range1 (.b1 .len (.v 0))) (.cons (.ite (.bool true (.cons (.cmp .Eq (.idx (.idx (.v 0) (.v 4)) (.k (.int 0))) (.k (.str "or"))) (.cons (.cmp .Eq (.idx (.v 1) (.v 4)) (.v 2)) .nil))) (.cons (.app 3 (.bin .Add (.v 4) (.k (.int 1)))) .nil) .nil) .nil)) (.cons (.ret (.v 3)) .nil)))⟩
noncomputable def fnends:Fn:=⟨1,5,[2],true,(.cons (.asg 1 (.call true "homes" (.cons (.v 0) .nil))) (.cons (.asg 2 (.bin .Mult (.lst (.cons (.neg (.k (.int 1))) .nil)) (.b1 .len (.v 0)))) (.cons (.for2 3 4 (.enum (.v 0)) (.cons (.ite (.cmp .Eq (.idx (.v 4) (.k (.int 0))) (.k (.str "end"))) (.cons (.seti 2 (.idx (.v 1) (.v 3)) (.v 3)) .nil) .nil) .nil)) (.cons (.ret (.v 2)) .nil))))⟩
noncomputable def fnhomes:Fn:=⟨1,5,[1,2],true,(.cons (.asg 1 (.lst .nil)) (.cons (.asg 2 (.lst .nil)) (.cons (.for2 3 4 (.enum (.v 0)) (.cons (.ite (.cmp .Eq (.v 1) (.lst .nil)) (.cons (.app 2 (.neg (.k (.int 1)))) .nil) (.cons (.app 2 (.idx (.v 1) (.neg (.k (.int 1))))) .nil)) (.cons (.ite (.cmp .In (.idx (.v 4) (.k (.int 0))) (.gc "OPENERS")) (.cons (.app 1 (.v 3)) .nil) (.cons (.ite (.cmp .Eq (.idx (.v 4) (.k (.int 0))) (.k (.str "end"))) (.cons (.pop 1) .nil) .nil) .nil)) .nil))) (.cons (.ret (.v 2)) .nil))))⟩
noncomputable def sgs08:List (Str × List Nat × Bool):=[(("law" : Str),([]:List Nat),false),(("_law_told" : Str),([]:List Nat),false),(("_law_long" : Str),([]:List Nat),false),(("_law_few" : Str),([3,4]:List Nat),false),(("_law_some_ways" : Str),([]:List Nat),false),(("_law_run" : Str),([3]:List Nat),false),(("_law_fault" : Str),([]:List Nat),false),(("_law_awake" : Str),([]:List Nat),false),(("_law_whole" : Str),([]:List Nat),false),(("_law_step" : Str),([]:List Nat),false),(("_law_back" : Str),([2]:List Nat),false),(("_law_lent" : Str),([]:List Nat),false),(("_law_starts" : Str),([3]:List Nat),false),(("_law_last" : Str),([]:List Nat),false),(("_law_homes" : Str),([1,2]:List Nat),false),(("_law_drawn" : Str),([]:List Nat),false),(("_law_sheet" : Str),([5]:List Nat),false),(("_law_row" : Str),([]:List Nat),true),(("_law_deed" : Str),([]:List Nat),false),(("_law_lend" : Str),([]:List Nat),false),(("_law_gadget" : Str),([]:List Nat),false),(("_law_first_four" : Str),([]:List Nat),false),(("_law_hands" : Str),([]:List Nat),false),(("_law_thing" : Str),([]:List Nat),false),(("_law_draw" : Str),([]:List Nat),false),(("_law_word" : Str),([]:List Nat),false),(("_law_cell_at" : Str),([]:List Nat),false),(("looked" : Str),([]:List Nat),false),(("choices_to" : Str),([3]:List Nat),false),(("standings" : Str),([3,4]:List Nat),false),(("checked" : Str),([1]:List Nat),false),(("block_of" : Str),([]:List Nat),false),(("need_free" : Str),([]:List Nat),true),(("need_hand" : Str),([]:List Nat),true),(("need_block" : Str),([]:List Nat),true),(("meaning" : Str),([]:List Nat),true),(("is_row" : Str),([]:List Nat),false),(("is_lend" : Str),([]:List Nat),false),(("is_choice" : Str),([]:List Nat),false),(("is_thing" : Str),([]:List Nat),false),(("is_word" : Str),([]:List Nat),false),(("fault" : Str),([]:List Nat),false),(("hand_used" : Str),([]:List Nat),false),(("beside" : Str),([]:List Nat),false),(("awake" : Str),([1]:List Nat),true),(("is_asleep" : Str),([]:List Nat),false),(("chooses" : Str),([]:List Nat),false),(("moved" : Str),([]:List Nat),false),(("ended" : Str),([]:List Nat),false),(("count_of" : Str),([]:List Nat),false),(("given_back" : Str),([2,3]:List Nat),false),(("lent" : Str),([]:List Nat),false),(("entry_of" : Str),([]:List Nat),false),(("first_rows" : Str),([3]:List Nat),false),(("ends" : Str),([2]:List Nat),true),(("homes" : Str),([1,2]:List Nat),true)]
noncomputable def gcs08:Str→Bool:=fun x=>x == ("OPENERS" : Str)||x == ("LETTERS" : Str)||x == ("LONGEST" : Str)||x == ("MOST_THING" : Str)||x == ("MOST_THINGS" : Str)||x == ("WORDS" : Str)
noncomputable def tbl08:List (Str × Fn):=[(("law" : Str),fnlaw),(("_law_told" : Str),fn_law_told),(("_law_long" : Str),fn_law_long),(("_law_few" : Str),fn_law_few),(("_law_some_ways" : Str),fn_law_some_ways),(("_law_run" : Str),fn_law_run),(("_law_fault" : Str),fn_law_fault),(("_law_awake" : Str),fn_law_awake),(("_law_whole" : Str),fn_law_whole),(("_law_step" : Str),fn_law_step),(("_law_back" : Str),fn_law_back),(("_law_lent" : Str),fn_law_lent),(("_law_starts" : Str),fn_law_starts),(("_law_last" : Str),fn_law_last),(("_law_homes" : Str),fn_law_homes),(("_law_drawn" : Str),fn_law_drawn),(("_law_sheet" : Str),fn_law_sheet),(("_law_row" : Str),fn_law_row),(("_law_deed" : Str),fn_law_deed),(("_law_lend" : Str),fn_law_lend),(("_law_gadget" : Str),fn_law_gadget),(("_law_first_four" : Str),fn_law_first_four),(("_law_hands" : Str),fn_law_hands),(("_law_thing" : Str),fn_law_thing),(("_law_draw" : Str),fn_law_draw),(("_law_word" : Str),fn_law_word),(("_law_cell_at" : Str),fn_law_cell_at),(("looked" : Str),fnlooked),(("choices_to" : Str),fnchoices_to),(("standings" : Str),fnstandings),(("checked" : Str),fnchecked),(("block_of" : Str),fnblock_of),(("need_free" : Str),fnneed_free),(("need_hand" : Str),fnneed_hand),(("need_block" : Str),fnneed_block),(("meaning" : Str),fnmeaning),(("is_row" : Str),fnis_row),(("is_lend" : Str),fnis_lend),(("is_choice" : Str),fnis_choice),(("is_thing" : Str),fnis_thing),(("is_word" : Str),fnis_word),(("fault" : Str),fnfault),(("hand_used" : Str),fnhand_used),(("beside" : Str),fnbeside),(("awake" : Str),fnawake),(("is_asleep" : Str),fnis_asleep),(("chooses" : Str),fnchooses),(("moved" : Str),fnmoved),(("ended" : Str),fnended),(("count_of" : Str),fncount_of),(("given_back" : Str),fngiven_back),(("lent" : Str),fnlent),(("entry_of" : Str),fnentry_of),(("first_rows" : Str),fnfirst_rows),(("ends" : Str),fnends),(("homes" : Str),fnhomes)]
end Mine
set_option tactic.hygienic false
namespace Mine
open PySem
noncomputable def cellAt (ns:List Int) (k:Int):Int:=ns.getD k.toNat 0
theorem sH (Φ:Str→List D→Option D) (Γ:Str→Option D) (N:Nat) (ns:List Int) (k:Int) (hk:0≤k):runFn Φ Γ N fn_law_cell_at [.list (ns.map .int),.int k]=some (.int (cellAt ns k)):=by
 refine dG [some (.list (ns.map .int)),some (.int k)] rfl rfl (m':=[some (.list (ns.map .int)),some (.int k)]) ?_
 dsimp only [fn_law_cell_at]
 have hc:evE Φ Γ (.cmp .Lt (.v 1) (.b1 .len (.v 0))) [some (.list (ns.map .int)),some (.int k)]=some (.bool (decide (k < ns.length))):=by (exact aj rfl (aT rfl (lenL ns)) (v_lt k ↑ns.length))
 by_cases h:k < ns.length
 ·refine dE (m':=[some (.list (ns.map .int)),some (.int k)]) ?_
  rw [lM hc (by rw [al,decide_eq_true h])]
  refine dE (d6 ?_ rfl)
  have hlt:k.toNat < ns.length:=by omega
  simp only [bd,x_v,gN,gX,bX]
  exact p_mk (aW hk (by simpa using h)) (by
   rw [List.getElem?_map,List.getElem?_eq_getElem hlt]
   simp [cellAt,List.getD,List.getElem?_eq_getElem hlt])
 ·refine (aP (m':=[some (.list (ns.map .int)),some (.int k)]) (y_no hc (by rw [al,decide_eq_false h]))).trans ?_
  refine dE (d6 ?_ rfl)
  have:cellAt ns k=0:=by
   unfold cellAt List.getD
   rw [List.getElem?_eq_none (by omega)];rfl
  rw [this];exact x_k _
structure Dr where
 b:Int
 y:Int
 z:Int
 c:Int
 t:Int
noncomputable def Dr.d (r:Dr):D:=.list [.int r.b,.int r.y,.int r.z,.int r.c,.int r.t]
noncomputable def aX (ns:List Int):Dr:=
 ⟨((cellAt ns 1).fdiv 2).fmod 1000000000 * (cellAt ns 1).fmod 2,((cellAt ns 2).fdiv 8).fmod 4,1+(((cellAt ns 2).fdiv 8).fdiv 4).fmod 12,(cellAt ns 1).fmod (1+(((cellAt ns 2).fdiv 8).fdiv 4).fmod 12),(cellAt ns 0).fmod 26⟩
structure Dr.Ok (r:Dr):Prop where
 z1:1≤r.z
 z2:r.z≤12
 c1:0≤r.c
 c2:r.c < r.z
 t1:0≤r.t
 t2:r.t < 26
 y1:0≤r.y
 y2:r.y < 4
 b1:0≤r.b
 b2:r.b < 1000000000
theorem av (a:Int) {b:Int} (h:0 < b):0≤a.fmod b:=Int.fmod_nonneg_of_pos a h
theorem aB (a:Int) {b:Int} (h:0 < b):a.fmod b < b:=Int.fmod_lt_of_pos a h
theorem gP {a:Int} (h : -1152921504606846976 < a) (h2:a < 1152921504606846976):smallI a=true:=by
 unfold smallI
 have:a.natAbs < 2 ^ 60:=by omega
 simp only [this,decide_true]
theorem gq (ns:List Int):(aX ns).Ok:=by
 have h1:=av (((cellAt ns 2).fdiv 8).fdiv 4) (b:=12) (by decide)
 have h2:=aB (((cellAt ns 2).fdiv 8).fdiv 4) (b:=12) (by decide)
 have hz:(0:Int) < 1+(((cellAt ns 2).fdiv 8).fdiv 4).fmod 12:=by omega
 have h11:=av (cellAt ns 1) (b:=2) (by decide)
 have h12:=aB (cellAt ns 1) (b:=2) (by decide)
 have h13:(cellAt ns 1).fmod 2=0∨(cellAt ns 1).fmod 2=1:=by lia
 refine ⟨Int.le_add_of_nonneg_right h1,by show 1+_≤(12:Int);omega,(av (cellAt ns 1) hz),(aB (cellAt ns 1) hz),(av (cellAt ns 0) (b:=26) (by decide)),(aB (cellAt ns 0) (b:=26) (by decide)),(av ((cellAt ns 2).fdiv 8) (b:=4) (by decide)),(aB ((cellAt ns 2).fdiv 8) (b:=4) (by decide)),?_,?_⟩
 ·show 0≤_ * _
  rcases h13 with h | h<;>rw [h]
  ·rw [Int.mul_zero];exact Int.le_refl 0
  ·rw [Int.mul_one];exact (av ((cellAt ns 1).fdiv 2) (b:=1000000000) (by decide))
 ·show _ * _ < _
  rcases h13 with h | h<;>rw [h]
  ·rw [Int.mul_zero];decide
  ·rw [Int.mul_one];exact (aB ((cellAt ns 1).fdiv 2) (b:=1000000000) (by decide))
theorem sI (Φ:Str→List D→Option D) (Γ:Str→Option D) (N:Nat) (ns:List Int) (hc:∀ k:Int,0≤k→Φ "_law_cell_at" [.list (ns.map .int),.int k]=some (.int (cellAt ns k))):runFn Φ Γ N fn_law_draw [.list (ns.map .int)]=some (aX ns).d:=by
 have h9:=av ((cellAt ns 1).fdiv 2) (b:=1000000000) (by decide)
 have h10:=aB ((cellAt ns 1).fdiv 2) (b:=1000000000) (by decide)
 have h1:=av (((cellAt ns 2).fdiv 8).fdiv 4) (b:=12) (by decide)
 have hz:(1:Int)+(((cellAt ns 2).fdiv 8).fdiv 4).fmod 12 ≠ 0:=by omega
 refine dG [some (.list (ns.map .int)),none,none,none] rfl rfl (m':=[some (.list (ns.map .int)),some (.int (aX ns).b),some (.int ((cellAt ns 2).fdiv 8)),some (.int (aX ns).z)]) ?_
 dsimp only [fn_law_draw]
 refine (aP (m':=[some (.list (ns.map .int)),some (.int (aX ns).b),none,none]) (d5 (d:=.int (aX ns).b) ?_ rfl)).trans ?_
 ·simp [x_k,x_v,ba,be,aF,ar,nN,(hc 1 (by decide)),nM,bw,eU,(gP (a:=((cellAt ns 1).fdiv 2).fmod 1000000000) (by omega) (by omega)),aX]
 refine (aP (m':=[some (.list (ns.map .int)),some (.int (aX ns).b),some (.int ((cellAt ns 2).fdiv 8)),none]) (d5 (d:=.int ((cellAt ns 2).fdiv 8)) ?_ rfl)).trans ?_
 ·exact aA (ai (esC rfl (esC rfl es0)) (hc 2 (by decide))) rfl rfl
 refine (aP (m':=[some (.list (ns.map .int)),some (.int (aX ns).b),some (.int ((cellAt ns 2).fdiv 8)),some (.int (aX ns).z)]) (d5 (d:=.int (aX ns).z) ?_ rfl)).trans ?_
 ·exact rfl
 refine dE (d6 ?_ rfl)
 simp [x_k,x_v,ik,ba,be,aF,ar,(hc 0 (by decide)),(hc 1 (by decide)),bw,aX,Dr.d,hz]
theorem pN (Φ:Str→List D→Option D) (Γ:Str→Option D) (N:Nat) (c b:Int):runFn Φ Γ N fn_law_thing [.int c,.int b]=some (.int (if c.fmod 8=7 then (c.fdiv 8).fmod 1000000000 else (b+c.fmod 3).fmod 1000000000)):=by
 refine dG [some (.int c),some (.int b)] rfl rfl (m':=[some (.int c),some (.int b)]) ?_
 dsimp only [fn_law_thing]
 have hc:evE Φ Γ (.cmp .Eq (.bin .Mod (.v 0) (.k (.int 8))) (.k (.int 7))) [some (.int c),some (.int b)]=some (.bool (c.fmod 8 == 7)):=by (exact rfl)
 by_cases h:c.fmod 8=7
 ·refine dE (m':=[some (.int c),some (.int b)]) ?_
  rw [lM hc (by rw [al];simp [h])]
  refine dE (d6 ?_ rfl)
  simp [x_k,x_v,ba,nN,bw,nM,h]
 ·refine (aP (m':=[some (.int c),some (.int b)]) (y_no hc (by rw [al];simp [h]))).trans ?_
  refine dE (d6 ?_ rfl)
  simp [x_k,x_v,ba,cC,nN,bw,h]
noncomputable def sOf (l:List Nat):Str:=⟨l.toArray⟩
noncomputable def ltr (i:Int):Nat:=97+i.toNat
theorem pO {i:Int} (h0:0≤i) (h1:i < 26):item (.str "abcdefghijklmnopqrstuvwxyz") (.int i)=some (.str (sOf [ltr i])):=by
 have key:∀ k:Nat,k < 26→("abcdefghijklmnopqrstuvwxyz" : Str).cps[k]?=some (97+k):=by decide +kernel
 have hl:("abcdefghijklmnopqrstuvwxyz" : Str).length=26:=by decide +kernel
 show (aI (Str.length "abcdefghijklmnopqrstuvwxyz") i).bind _=_
 rw [hl,aW h0 (by exact h1)]
 show (("abcdefghijklmnopqrstuvwxyz" : Str).cps[i.toNat]?).map _=_
 rw [key i.toNat (by omega)]
 rfl
noncomputable def iV (one two deep:Int) (r:Dr):List Nat:=
 if r.y=0 then List.replicate (deep+1).toNat (ltr r.t)
 else (List.range r.z.toNat).map fun (k:Nat)=>if (k:Int)=r.c then ltr ((r.t+5 * deep).fmod 26) else if r.y=1 then ltr ((one+k * two).fmod 26) else ltr r.z
theorem sJ (a b:List Nat):sOf a++sOf b=sOf (a++b):=by
 show (⟨a.toArray++b.toArray⟩:Str)=_
 simp [sOf]
theorem gQ (a:List Nat):(sOf a).length=a.length:=by
 show (a.toArray).size=_
 rfl
theorem lN (c:Nat):∀ n,strMul (sOf [c]) n=sOf (List.replicate n c):=by
 intro n
 have:repL [c] n=List.replicate n c:=by
  induction n with
  | zero=>rfl
  | succ n ih=>simp [f7,ih,List.replicate_succ]
 simp [strMul,sOf,this]
theorem sK (Φ:Str→List D→Option D) (Γ:Str→Option D) (N:Nat) (one two deep:Int) (r:Dr) (ok:r.Ok) (hd:0≤deep) (hd2:deep < 900) :
 runFn Φ Γ N fn_law_word [.int one,.int two,.int deep,r.d]=some (.str (sOf (iV one two deep r))):=by
 have i0:∀ r:Dr,item r.d (.int 0)=some (.int r.b):=fun o_=>rfl
 have i1:item r.d (.int 1)=some (.int r.y):=rfl
 have i2:item r.d (.int 2)=some (.int r.z):=rfl
 have i3:item r.d (.int 3)=some (.int r.c):=rfl
 have i4:item r.d (.int 4)=some (.int r.t):=rfl
 have ht:r.t.fmod 26=r.t:=by rw [Int.fmod_eq_emod_of_nonneg _ (by decide)];exact Int.emod_eq_of_lt ok.t1 ok.t2
 refine aq [some (.int one),some (.int two),some (.int deep),some r.d,none,none,none,none] rfl rfl ?_
 dsimp only [fn_law_word]
 refine ak (.str "abcdefghijklmnopqrstuvwxyz") (x_k _) rfl ?_
 refine ak (.str (sOf [ltr ((r.t+5 * deep).fmod 26)])) ?_ rfl ?_
 ·exact ad rfl (aA (aA (ad rfl rfl i4) (aA rfl rfl (eU 5 deep (by decide))) (cC r.t (5 * deep))) rfl rfl) (pO (av (r.t+5 * deep) (b:=26) (by decide)) (aB (r.t+5 * deep) (b:=26) (by decide)))
 have hc0:evE Φ Γ (.cmp .Eq (.idx (.v 3) (.k (.int 1))) (.k (.int 0))) [some (.int one),some (.int two),some (.int deep),some r.d,some (.str "abcdefghijklmnopqrstuvwxyz"),some (.str (sOf [ltr ((r.t+5 * deep).fmod 26)])),none,none]=some (.bool (r.y == 0)):=by
  exact rfl
 by_cases hy:r.y=0
 ·refine am hc0 (by rw [al];simp [hy]) (af ?_ rfl)
  have hb:ck .Mult (.str (sOf [ltr r.t])) (.int (deep+1))=some (.str (strMul (sOf [ltr r.t]) (deep+1).toNat)):=by
   have hl:=gQ [ltr r.t]
   simp only [List.length_cons,List.length_nil] at hl
   exact if_pos ⟨by rw [hl];decide,by omega,by lia⟩
  simp [x_k,x_v,ba,bd,cC,i4,bw,ht,pO ok.t1 ok.t2,hb,lN,iV,hy]
 ·refine ae hc0 (by rw [al];simp [hy]) ?_
  refine ak (.str (sOf [])) (x_k _) rfl ?_
  simp only [sX,sN]
  have hzz:evE Φ Γ (.idx (.v 3) (.k (.int 2))) [some (.int one),some (.int two),some (.int deep),some r.d,some (.str "abcdefghijklmnopqrstuvwxyz"),some (.str (sOf [ltr ((r.t+5 * deep).fmod 26)])),some (.str (sOf [])),none]=some (.int r.z):=by
   exact rfl
  have z1:=ok.z1
  have z2:=ok.z2
  let ch:Nat→Nat:=fun k=>if (k:Int)=r.c then ltr ((r.t+5 * deep).fmod 26) else if r.y=1 then ltr ((one+k * two).fmod 26) else ltr r.z
  obtain ⟨m',e1,x,rfl⟩:=nJ (Φ:=Φ) (Γ:=Γ) (ow:=[]) (fr:=false) (N:=N) (i:=7) (it:=.range1 (.idx (.v 3) (.k (.int 2))))
   (body:=(.cons (.ite (.cmp .Eq (.v 7) (.idx (.v 3) (.k (.int 3)))) (.cons (.asg 6 (.bin .Add (.v 6) (.v 5))) .nil) (.cons (.ite (.cmp .Eq (.idx (.v 3) (.k (.int 1))) (.k (.int 1))) (.cons (.asg 6 (.bin .Add (.v 6) (.idx (.v 4) (.bin .Mod (.bin .Add (.v 0) (.bin .Mult (.v 7) (.v 1))) (.k (.int 26)))))) .nil) (.cons (.asg 6 (.bin .Add (.v 6) (.idx (.v 4) (.idx (.v 3) (.k (.int 2)))))) .nil)) .nil)) .nil))
   (fun k m=>∃ x,m=[some (.int one),some (.int two),some (.int deep),some r.d,some (.str "abcdefghijklmnopqrstuvwxyz"),some (.str (sOf [ltr ((r.t+5 * deep).fmod 26)])),some (.str (sOf ((List.range k).map ch))),x])
   (bH hzz (by omega)) rfl ⟨none,rfl⟩ (fun k vs m hk hI=>by
    obtain ⟨x,rfl⟩:=hI
    rw [List.getElem?_map] at hk
    obtain ⟨i,hi,rfl⟩:=Option.map_eq_some_iff.mp hk
    obtain ⟨hi1,hi2⟩:=List.getElem?_eq_some_iff.mp hi
    simp only [List.length_range] at hi1
    simp only [List.getElem_range] at hi2
    subst hi2
    refine ⟨_,[some (.int one),some (.int two),some (.int deep),some r.d,some (.str "abcdefghijklmnopqrstuvwxyz"),some (.str (sOf [ltr ((r.t+5 * deep).fmod 26)])),some (.str (sOf ((List.range (k+1)).map ch))),some (.int k)],rfl,?_,_,rfl⟩
    simp only [sX,sN]
    have add:∀ c:Nat,ch k=c→ck .Add (.str (sOf ((List.range k).map ch))) (.str (sOf [c]))=some (.str (sOf ((List.range (k+1)).map ch))):=fun c hc=>by
     rw [uz _ _ (by rw [gQ,gQ];simp;lia),sJ,List.range_succ,List.map_append]
     simp [hc]
    have hA:evE Φ Γ (.cmp .Eq (.v 7) (.idx (.v 3) (.k (.int 3)))) [some (.int one),some (.int two),some (.int deep),some r.d,some (.str "abcdefghijklmnopqrstuvwxyz"),some (.str (sOf [ltr ((r.t+5 * deep).fmod 26)])),some (.str (sOf ((List.range k).map ch))),some (.int k)]=some (.bool ((k:Int) == r.c)):=by (exact rfl)
    have hB:evE Φ Γ (.cmp .Eq (.idx (.v 3) (.k (.int 1))) (.k (.int 1))) [some (.int one),some (.int two),some (.int deep),some r.d,some (.str "abcdefghijklmnopqrstuvwxyz"),some (.str (sOf [ltr ((r.t+5 * deep).fmod 26)])),some (.str (sOf ((List.range k).map ch))),some (.int k)]=some (.bool (r.y == 1)):=by (exact rfl)
    by_cases h1:(k:Int)=r.c
    ·refine (aP (m':=_) ((lM hA (by rw [al];simp [h1])).trans (nK (.str (sOf ((List.range (k+1)).map ch))) ?_ rfl eY))).trans eY
     simp only [ba,x_v,gX,gN,bX]
     exact add _ (by simp [ch,h1])
    ·by_cases h2:r.y=1
     ·refine (aP (m':=_) ((kO hA (by rw [al];simp [h1])).trans ((aP (m':=_) ((lM hB (by rw [al];simp [h2])).trans (nK (.str (sOf ((List.range (k+1)).map ch))) ?_ rfl eY))).trans eY))).trans eY
      simp only [ba,bd,x_v,x_k,gX,gN,bX,(eU (k:Int) two (gP (by exact Int.natCast_nonneg (k+1152921504606846975)) (by lia))),cC,bw _ 26 (by decide),pO (av (one+k * two) (b:=26) (by decide)) (aB (one+k * two) (b:=26) (by decide))]
      exact add _ (by simp [ch,h1,h2])
     ·refine (aP (m':=_) ((kO hA (by rw [al];simp [h1])).trans ((aP (m':=_) ((kO hB (by rw [al];simp [h2])).trans (nK (.str (sOf ((List.range (k+1)).map ch))) ?_ rfl eY))).trans eY))).trans eY
      simp only [ba,bd,x_v,x_k,gX,gN,bX,i2,pO (i:=r.z) (by lia) (by lia)]
      exact add _ (by simp [ch,h1,h2]))
  refine bC _ e1 (af ?_ rfl)
  simp only [x_v,gX,gN,bX,lX,List.length_range]
  simp [iV,hy,ch]
end Mine
set_option tactic.hygienic false
namespace Mine
open PySem
inductive Src
 | th (i:Int)
 | hd (w:Str)
set_option genCtorIdx true
inductive Verb | look | back | change
 deriving DecidableEq
set_option genCtorIdx false
inductive Row
 | lend (w:Str) (wr:Bool) (s:Src)
 | pick (w:Str) (ts:List Int)
 | either
 | again
 | orr
 | fin
 | deed (v:Verb) (w:Str)
noncomputable def Src.d:Src→D
 | .th i=>.int i
 | .hd w=>.str w
noncomputable def kindS (b:Bool):Str:=if b then "write" else "read"
noncomputable def Verb.s:Verb→Str
 | .look => "look"
 | .back => "back"
 | .change => "change"
noncomputable def Row.tag:Row→Str
 | .lend .. => "lend"
 | .pick .. => "pick"
 | .either => "either"
 | .again => "again"
 | .orr => "or"
 | .fin => "end"
 | .deed v _=>v.s
noncomputable def Row.d:Row→D
 | .lend w b s=>.tuple [.str "lend",.str w,.str (kindS b),s.d]
 | .pick w ts=>.tuple [.str "pick",.str w,.tuple (ts.map .int)]
 | .either=>.tuple [.str "either"]
 | .again=>.tuple [.str "again"]
 | .orr=>.tuple [.str "or"]
 | .fin=>.tuple [.str "end"]
 | .deed v w=>.tuple [.str v.s,.str w]
noncomputable def Row.word:Row→Str
 | .lend w _ _=>w
 | .pick w _=>w
 | .deed _ w=>w
 | _ => ""
noncomputable def Row.wr:Row→Bool
 | .lend _ b _=>b
 | _=>false
noncomputable def Row.isLend:Row→Bool
 | .lend ..=>true
 | _=>false
noncomputable def Row.isNamed:Row→Bool
 | .lend ..=>true
 | .pick ..=>true
 | _=>false
noncomputable def Row.isOpen:Row→Bool
 | .lend ..=>true
 | .pick ..=>true
 | .either=>true
 | .again=>true
 | _=>false
noncomputable def Row.isFin:Row→Bool
 | .fin=>true
 | _=>false
noncomputable def Row.isOr:Row→Bool
 | .orr=>true
 | _=>false
noncomputable def Row.isEither:Row→Bool
 | .either=>true
 | _=>false
theorem Row.i0 (r:Row):item r.d (.int 0)=some (.str r.tag):=by cases r<;>rfl
theorem lO (s:Src):noList s.d=true:=by cases s<;>rfl
theorem bz:∀ l:List Int,ao (l.map .int)=true
 | []=>rfl
 | _::l=>by rw [List.map_cons,ns_c,bz l];rfl
theorem cM:∀ l:List Int,aY (l.map .int)=true
 | []=>rfl
 | _::l=>by rw [List.map_cons,ds_c,cM l];rfl
theorem Row.noList (r:Row):Mine.noList r.d=true:=by
 cases r<;>simp only [Row.d,nl_t,nl_s,ns_n,ns_c,lO,bz,Bool.and_self]
set_option tactic.hygienic true in
theorem nR (r:Row):(["lend", "pick"].any fun y=>Str.ofString y == r.tag)=r.isNamed:=by
 cases r<;>first | rfl | (rename_i v w;cases v<;>rfl)
set_option tactic.hygienic true in
theorem pP (r:Row):(["lend", "pick", "either", "again"].any fun y=>Str.ofString y == r.tag)=r.isOpen:=by
 cases r<;>first | rfl | (rename_i v w;cases v<;>rfl)
set_option tactic.hygienic true in
theorem d7 (r:Row):(r.tag == Str.ofString "lend")=r.isLend:=by
 cases r<;>first | rfl | (rename_i v w;cases v<;>rfl)
set_option tactic.hygienic true in
theorem eH (r:Row):(r.tag == Str.ofString "end")=r.isFin:=by
 cases r<;>first | rfl | (rename_i v w;cases v<;>rfl)
set_option tactic.hygienic true in
theorem rh (r:Row):(r.tag == Str.ofString "or")=r.isOr:=by
 cases r<;>first | rfl | (rename_i v w;cases v<;>rfl)
set_option tactic.hygienic true in
theorem eI (r:Row):(r.tag == Str.ofString "either")=r.isEither:=by
 cases r<;>first | rfl | (rename_i v w;cases v<;>rfl)
theorem kR (r:Row):pyIn (.str r.tag) (.list [.str "lend",.str "pick"])=some r.isNamed:=by
 rw [← nR];exact b9 r.tag (["lend", "pick"].map Str.ofString)
theorem jW (r:Row):pyIn (.str r.tag) (.list [.str "lend",.str "pick",.str "either",.str "again"])=some r.isOpen:=by
 rw [← pP];exact b9 r.tag (["lend", "pick", "either", "again"].map Str.ofString)
theorem kS (r:Row):pyIn (.str r.tag) (.tuple [.str "lend",.str "pick",.str "either",.str "again"])=some r.isOpen:=jW r
theorem iW (b:Bool):(kindS b == Str.ofString "read") = !b:=by cases b<;>simp [kindS,jQ]
theorem Row.i1 {r:Row} (h:r.isNamed=true):item r.d (.int 1)=some (.str r.word):=by cases r<;>first | rfl | cases h
theorem Row.i2 {r:Row} (h:r.isLend=true):item r.d (.int 2)=some (.str (kindS r.wr)):=by cases r<;>first | rfl | cases h
theorem da {r:Row} (h:r.isLend=true):r.isNamed=true:=by cases r<;>first | rfl | cases h
noncomputable def thingOf (c b:Int):Int:=if c.fmod 8=7 then (c.fdiv 8).fmod 1000000000 else (b+c.fmod 3).fmod 1000000000
noncomputable def wordOf (one two:Int) (deep:Nat) (r:Dr):Str:=sOf (iV one two deep r)
noncomputable def bA (one two:Int) (named:List Row) (r:Dr):Row:=
 if (one.fdiv 2).fmod 2=1 then
  match named[(two.fmod named.length).toNat]? with
  | some h=>.lend (wordOf one two named.length r) (if h.isLend&&!h.wr then false else decide (one.fmod 2=1)) (.hd h.word)
  | none=>.lend (wordOf one two named.length r) (decide (one.fmod 2=1)) (.th (thingOf two r.b))
 else .lend (wordOf one two named.length r) (decide (one.fmod 2=1)) (.th (thingOf two r.b))
noncomputable def eW (one:Int) (wr:Bool):Verb:=if one.fmod 3=0 then .look else if one.fmod 3=1 then .back else if wr then .change else .look
noncomputable def dm (one two:Int) (hands:List Row):Row:=
 match hands[(two.fmod hands.length).toNat]? with
 | some h=>.deed (eW one h.wr) h.word
 | none=>.fin
noncomputable def rowOf (way one two:Int) (opened:List Row) (r:Dr):Row:=
 if way < 4∧((opened.filter Row.isNamed).filter Row.isLend).length < 6 then bA one two (opened.filter Row.isNamed) r
 else if way=4∧((opened.filter Row.isNamed).length:Int) - ((opened.filter Row.isNamed).filter Row.isLend).length < 3 then
  .pick (wordOf one two (opened.filter Row.isNamed).length r) ((List.range (1+one.fmod 5).toNat).map fun (k:Nat)=>thingOf (two+(k:Int) * (1+one.fmod 2)) r.b)
 else if (way=5∨way=6)∧opened.length < 12 then (if way=5 then .either else .again)
 else if way=7∧(opened.getLast?.any Row.isEither)=true then .orr
 else if way < 10∧0 < ((opened.filter Row.isNamed).filter Row.isLend).length then dm one two ((opened.filter Row.isNamed).filter Row.isLend)
 else if 0 < opened.length then .fin
 else bA one two (opened.filter Row.isNamed) r
theorem uF (a:Int):a.fmod 2=0∨a.fmod 2=1:=by
 have h1:=av a (b:=2) (by decide)
 have h2:=aB a (b:=2) (by decide)
 lia
theorem sL (a:Int):a.fmod 3=0∨a.fmod 3=1∨a.fmod 3=2:=by
 have h1:=av a (b:=3) (by decide)
 have h2:=aB a (b:=3) (by decide)
 lia
theorem jX {l:List Row} (x:Int) (h:0 < l.length):∃ r,l[(x.fmod l.length).toNat]?=some r∧r ∈ l∧item (.list (l.map Row.d)) (.int (x.fmod l.length))=some r.d:=by
 have f2:=aB x (b:=(l.length:Int)) (by exact Int.ofNat_lt.mpr h)
 have hlt:(x.fmod l.length).toNat < l.length:=by omega
 refine ⟨l[(x.fmod l.length).toNat],List.getElem?_eq_getElem hlt,List.getElem_mem hlt,?_⟩
 exact p_mk (k:=(x.fmod l.length).toNat) (aW (av x (b:=(l.length:Int)) (by exact Int.ofNat_lt.mpr h)) (by simpa using f2)) (by rw [List.getElem?_map,List.getElem?_eq_getElem hlt];rfl)
theorem nS (a:Int):item (.list [.str "read",.str "write"]) (.int (a.fmod 2))=some (.str (kindS (decide (a.fmod 2=1)))):=by
 rcases uF a with h | h<;>rw [h]<;>rfl
theorem Dr.i0 (r:Dr):item r.d (.int 0)=some (.int r.b):=rfl
theorem sM (Φ:Str→List D→Option D) (Γ:Str→Option D) (N:Nat) (r:Dr) (ok:r.Ok) (ht:∀ c b:Int,Φ "_law_thing" [.int c,.int b]=some (.int (thingOf c b)))
 (hw:∀ (one two:Int) (deep:Nat),deep < 900→Φ "_law_word" [.int one,.int two,.int deep,r.d]=some (.str (wordOf one two deep r)))
 (one two:Int) (named:List Row) (hn:∀ x ∈ named,x.isNamed=true) (hl:named.length < 900) :
 runFn Φ Γ N fn_law_lend [.int one,.int two,.list (named.map Row.d),r.d]=some (bA one two named r).d:=by
 refine aq [some (.int one),some (.int two),some (.list (named.map Row.d)),some r.d,none,none,none] rfl rfl ?_
 dsimp only [fn_law_lend]
 refine ak (.str (kindS (decide (one.fmod 2=1)))) (ad (aS (esC rfl (esC rfl es0))) (aA rfl rfl rfl) (nS ((fun b=>(one,b)) 2).fst)) rfl ?_
 refine ak (.int (thingOf two r.b)) (ai (esC rfl (esC (ad rfl rfl (Dr.i0 r)) es0)) (ht two r.b)) rfl ?_
 simp only [sX,sN]
 have hc:evE Φ Γ (.bool true (.cons (.cmp .Eq (.bin .Mod (.bin .FloorDiv (.v 0) (.k (.int 2))) (.k (.int 2))) (.k (.int 1))) (.cons (.cmp .Gt (.b1 .len (.v 2)) (.k (.int 0))) .nil))) [some (.int one),some (.int two),some (.list (named.map Row.d)),some r.d,some (.str (kindS (decide (one.fmod 2=1)))),some (.int (thingOf two r.b)),none]=some (.bool (((one.fdiv 2).fmod 2 == 1)&&decide ((0:Int) < named.length))):=
  aH (rfl) (aj (aT rfl (lenL named)) rfl (v_gt (↑named.length) 0))
 by_cases h1:(one.fdiv 2).fmod 2=1
 ·by_cases h2:0 < named.length
  ·obtain ⟨h,e1,e2,e3⟩:=jX (l:=named) two h2
   refine aQ (Q':=fun m=>m=[some (.int one),some (.int two),some (.list (named.map Row.d)),some r.d,some (.str (kindS (if h.isLend&&!h.wr then false else decide (one.fmod 2=1)))),some (.str h.word),some h.d]) (aK hc (al _) (fun _=>?_) (fun q=>?_)) ?_
   ·refine aw h.d ?_ rfl ?_
    ·simp only [bd,x_v,ba,x_b1,gX,gN,bX,cL,lX,bw _ (named.length:Int) (by lia),e3]
    refine aw (.str h.word) (ad rfl rfl (Row.i1 (hn h e2))) rfl ?_
    simp only [sX,sN]
    cases hL:h.isLend with
    | true=>
     have hcc:evE Φ Γ (.bool true (.cons (.cmp .Eq (.idx (.v 6) (.k (.int 0))) (.k (.str "lend"))) (.cons (.cmp .Eq (.idx (.v 6) (.k (.int 2))) (.k (.str "read"))) .nil))) [some (.int one),some (.int two),some (.list (named.map Row.d)),some r.d,some (.str (kindS (decide (one.fmod 2=1)))),some (.str h.word),some h.d]=some (.bool (true&&!h.wr)):=
      aH (by simp [x_k,x_v,dP,bd,jV,Row.i0,d7,hL]) (aj (ad rfl rfl (Row.i2 hL)) rfl (congrArg some (iW h.wr)))
     refine ap (aK (Q:=fun m=>m=[some (.int one),some (.int two),some (.list (named.map Row.d)),some r.d,some (.str (kindS (if true&&!h.wr then false else decide (one.fmod 2=1)))),some (.str h.word),some h.d]) hcc (al _) (fun q=>?_) (fun q=>?_)) fun m e=>ah e
     ·exact aw (.str "read") (x_k _) rfl (ah (by rw [q];rfl))
     ·exact ah (by rw [q];rfl)
    | false=>
     have hcc:evE Φ Γ (.bool true (.cons (.cmp .Eq (.idx (.v 6) (.k (.int 0))) (.k (.str "lend"))) (.cons (.cmp .Eq (.idx (.v 6) (.k (.int 2))) (.k (.str "read"))) .nil))) [some (.int one),some (.int two),some (.list (named.map Row.d)),some r.d,some (.str (kindS (decide (one.fmod 2=1)))),some (.str h.word),some h.d]=some (.bool false):=by
      simp [x_k,x_v,cG,dP,bd,fq,eB,al,jV,Row.i0,d7,hL]
     exact ap (aK (Q:=fun m=>m=[some (.int one),some (.int two),some (.list (named.map Row.d)),some r.d,some (.str (kindS (if false&&!h.wr then false else decide (one.fmod 2=1)))),some (.str h.word),some h.d]) hcc (al _) (fun q=>by cases q) (fun q=>ah rfl)) fun m e=>ah e
   ·rw [h1,decide_eq_true (by exact Int.ofNat_lt.mpr h2)] at q;exact absurd q (by decide)
   ·rintro _ rfl
    refine af ?_ rfl
    simp [x_k,x_v,cB,be,x_b1,aF,ar,cL,hw one two named.length hl,bA,h1,e1,Row.d,Src.d]
  ·refine ae hc (by rw [al,decide_eq_false (by lia),Bool.and_false]) (af ?_ rfl)
   have h0:named=[]:=by cases named with | nil=>rfl | cons=>simp at h2
   subst h0
   have:=hw one two 0 (by decide)
   simp at this
   simp [x_k,x_v,cB,be,x_b1,aF,ar,cL,this,bA,h1,Row.d,Src.d]
 ·refine ae hc (by rw [al];simp [h1]) (af ?_ rfl)
  simp [x_k,x_v,cB,be,x_b1,aF,ar,cL,hw one two named.length hl,bA,h1,Row.d,Src.d]
theorem sO (Φ:Str→List D→Option D) (Γ:Str→Option D) (N:Nat) (one two:Int) (hands:List Row) (hn:∀ x ∈ hands,x.isLend=true) (hl:0 < hands.length) :
 runFn Φ Γ N fn_law_deed [.int one,.int two,.list (hands.map Row.d)]=some (dm one two hands).d:=by
 refine byG fun X_ g_=>?_
 obtain ⟨h,e1,e2,e3⟩:=jX (l:=hands) two hl
 refine g_ ?_
 have hL:=hn h e2
 have hh:=da hL
 refine aq [some (.int one),some (.int two),some (.list (hands.map Row.d)),none,none] rfl rfl ?_
 dsimp only [fn_law_deed]
 refine ak h.d ?_ rfl ?_
 ·simp only [bd,x_v,ba,x_b1,gX,gN,bX,cL,lX,bw _ (hands.length:Int) (by lia),e3]
 have key:∃ v0:Verb,item (.list [.str "look",.str "back",.str "change"]) (.int (one.fmod 3))=some (.str v0.s)∧(if (v0.s == Str.ofString "change")&&!h.wr then Verb.look else v0)=eW one h.wr:=by
  rcases sL one with q | q | q
  ·exact ⟨.look,by rw [q];rfl,by simp [eW,q,Verb.s,jQ]⟩
  ·exact ⟨.back,by rw [q];rfl,by simp [eW,q,Verb.s,jQ]⟩
  ·exact ⟨.change,by rw [q];rfl,by cases hw:h.wr<;>simp [eW,q,Verb.s]⟩
 obtain ⟨v0,k1,k2⟩:=key
 refine ak (.str v0.s) (ad (aS (esC rfl (esC rfl (esC rfl es0)))) (aA rfl rfl rfl) k1) rfl ?_
 refine aQ (Q':=fun m=>m=[some (.int one),some (.int two),some (.list (hands.map Row.d)),some h.d,some (.str (eW one h.wr).s)]) (aK (d:=.bool ((v0.s == Str.ofString "change")&&!h.wr)) (aH (rfl) (aj (ad rfl rfl (Row.i2 hL)) rfl (congrArg some (iW h.wr)))) (al _) (fun q=>?_) (fun q=>?_)) ?_
 ·rw [if_pos q] at k2
  rw [← k2]
  exact aw (.str "look") (x_k _) rfl (ah rfl)
 ·rw [if_neg (by rw [q];simp)] at k2
  rw [← k2]
  exact ah rfl
 ·rintro _ rfl
  refine af ?_ rfl
  have e:dm one two hands = .deed (eW one h.wr) h.word:=by simp only [dm,e1]
  rw [e]
  exact aZ (esC rfl (esC (ad rfl rfl (Row.i1 hh)) es0))
end Mine
set_option tactic.hygienic false
namespace Mine
open PySem
theorem jY (xs:List D):item (.list xs) (.int (-1))=xs.getLast?:=by
 rw [List.getLast?_eq_getElem?]
 cases xs with
 | nil=>rfl
 | cons x xs=>
  have:aI (x::xs).length (-1)=some ((x::xs).length - 1):=by
   simp only [aI]
   rw [if_neg (by decide),if_pos (by simp only [List.length_cons];(exact Int.ofNat_lt.mpr (Nat.succ_pos xs.length)))]
   congr 1
   simp only [List.length_cons];lia
  show (aI (x::xs).length (-1)).bind _=_
  rw [this]
  rfl
theorem kT (w:Int):∀ l:List Int,((l.map PyData.int).any fun y=>y.eqv (.int w))=l.any fun y=>y == w
 | []=>rfl
 | x::l=>by rw [List.map_cons,List.any_cons,List.any_cons,kT w l];rfl
theorem sP (x:Int):shp (.int x)=true:=rfl
theorem nT (w:Int) (l:List Int):pyIn (.int w) (.list (l.map .int))=some (l.any fun y=>y == w):=by
 show anyEq (.int w) (l.map .int)=_
 unfold anyEq
 rw [cM,sP,kT];rfl
section
variable (Φ:Str→List D→Option D) (Γ:Str→Option D) (N:Nat)
set_option tactic.hygienic true in
theorem uG (r:Dr) (ok:r.Ok) (ht:∀ c b:Int,Φ "_law_thing" [.int c,.int b]=some (.int (thingOf c b)))
 (hw:∀ (one two:Int) (deep:Nat),deep < 900→Φ "_law_word" [.int one,.int two,.int deep,r.d]=some (.str (wordOf one two deep r)))
 (hlend:∀ (one two:Int) (named:List Row),(∀ x ∈ named,x.isNamed=true)→named.length < 900→Φ "_law_lend" [.int one,.int two,.list (named.map Row.d),r.d]=some (bA one two named r).d)
 (hdeed:∀ (one two:Int) (hands:List Row),(∀ x ∈ hands,x.isLend=true)→0 < hands.length→Φ "_law_deed" [.int one,.int two,.list (hands.map Row.d)]=some (dm one two hands).d)
 (way one two:Int) (opened:List Row) (hl:opened.length < 900) :
 runFn Φ Γ N fn_law_row [.int way,.int one,.int two,.list (opened.map Row.d),r.d]=some (rowOf way one two opened r).d:=by
 refine aq [some (.int way),some (.int one),some (.int two),some (.list (opened.map Row.d)),some r.d,none,none,none] rfl rfl ?_
 dsimp only [fn_law_row]
 refine ak (.list ((opened.filter Row.isNamed).map Row.d)) (dF opened (fun e=>[e.d]) Row.isNamed Row.d (bQ (rfl)) (Nat.le_of_lt (Nat.lt_of_lt_of_le hl (by decide))) rfl (fun e o_=>?_) (fun e o_ o_=>?_)) rfl ?_
 ·exact ev_c (aj (ad rfl rfl (Row.i0 e)) (aS (esC rfl (esC rfl es0))) (kR e))
 ·exact rfl
 have hN:∀ x ∈ opened.filter Row.isNamed,x.isNamed=true:=fun x h=>(List.mem_filter.mp h).2
 have hNl:(opened.filter Row.isNamed).length < 900:=Nat.lt_of_le_of_lt (List.length_filter_le _ _) hl
 generalize hnm:opened.filter Row.isNamed=named at hN hNl ⊢
 refine ak (.list ((named.filter Row.isLend).map Row.d)) (dF named (fun e=>[e.d]) Row.isLend Row.d (bQ (rfl)) (Nat.le_of_lt (Nat.lt_of_lt_of_le hNl (by decide))) rfl (fun e o_=>?_) (fun e o_ o_=>?_)) rfl ?_
 ·exact ev_c (aj (ad rfl rfl (Row.i0 e)) rfl (congrArg some (d7 e)))
 ·exact rfl
 simp only [sX,sN]
 have hH:∀ x ∈ named.filter Row.isLend,x.isLend=true:=fun x h=>(List.mem_filter.mp h).2
 generalize hhd:named.filter Row.isLend=hands at hH ⊢
 have er:rowOf way one two opened r=if way < 4∧hands.length < 6 then bA one two named r
  else if way=4∧(named.length:Int) - hands.length < 3 then .pick (wordOf one two named.length r) ((List.range (1+one.fmod 5).toNat).map fun (k:Nat)=>thingOf (two+(k:Int) * (1+one.fmod 2)) r.b)
  else if (way=5∨way=6)∧opened.length < 12 then (if way=5 then .either else .again)
  else if way=7∧(opened.getLast?.any Row.isEither)=true then .orr
  else if way < 10∧0 < hands.length then dm one two hands
  else if 0 < opened.length then .fin
  else bA one two named r:=by
  unfold rowOf;rw [hnm,hhd]
 rw [er]
 have nl:∀ (e:Ex) (x:Row),(!true||retOk [] e x.d)=true:=fun e x=>by simp [retOk,Row.noList]
 have c1:evE Φ Γ (.bool true (.cons (.cmp .Lt (.v 0) (.k (.int 4))) (.cons (.cmp .Lt (.b1 .len (.v 6)) (.k (.int 6))) .nil))) [some (.int way),some (.int one),some (.int two),some (.list (opened.map Row.d)),some r.d,some (.list (named.map Row.d)),some (.list (hands.map Row.d)),none]=some (.bool (decide (way < 4)&&decide ((hands.length:Int) < 6))):=
  aH (rfl) (aj (aT rfl (lenL hands)) rfl (v_lt (↑hands.length) 6))
 by_cases h1:way < 4∧hands.length < 6
 ·rw [if_pos h1]
  refine am c1 (by rw [al,decide_eq_true h1.1,decide_eq_true (show (hands.length:Int) < 6 from Int.ofNat_lt.mpr h1.2)];rfl) (af ?_ (nl _ _))
  simp only [x_v,be,aF,ar,gX,gN,bX,mX]
  exact (hlend one two named hN hNl)
 rw [if_neg h1]
 refine ae c1 (by rw [al,← Bool.decide_and,decide_eq_false fun q=>h1 ⟨q.1,Int.ofNat_lt.mp q.2⟩]) ?_
 have c2:evE Φ Γ (.bool true (.cons (.cmp .Eq (.v 0) (.k (.int 4))) (.cons (.cmp .Lt (.bin .Sub (.b1 .len (.v 5)) (.b1 .len (.v 6))) (.k (.int 3))) .nil))) [some (.int way),some (.int one),some (.int two),some (.list (opened.map Row.d)),some r.d,some (.list (named.map Row.d)),some (.list (hands.map Row.d)),none]=some (.bool ((way == 4)&&decide ((named.length:Int) - hands.length < 3))):=
  aH (rfl) (aj (aA (aT rfl (lenL named)) (aT rfl (lenL hands)) (vL ↑named.length ↑hands.length)) rfl (v_lt (↑named.length - ↑hands.length) 3))
 by_cases h2:way=4∧(named.length:Int) - hands.length < 3
 ·rw [if_pos h2]
  refine am c2 (by rw [al,h2.1,decide_eq_true h2.2];rfl) ?_
  have f1:=av one (b:=5) (by decide)
  have f2:=aB one (b:=5) (by decide)
  have g1:=av one (b:=2) (by decide)
  have g2:=aB one (b:=2) (by decide)
  have hcomp:∀ m:St,m.length=8→m[1]?=some (some (.int one))→m[2]?=some (some (.int two))→m[4]?=some (some r.d)→evE Φ Γ (.comp (.call false "_law_thing" (.cons (.bin .Add (.v 2) (.bin .Mult (.v 8) (.bin .Add (.k (.int 1)) (.bin .Mod (.v 1) (.k (.int 2)))))) (.cons (.idx (.v 4) (.k (.int 0))) .nil))) (.range1 (.bin .Add (.k (.int 1)) (.bin .Mod (.v 1) (.k (.int 5))))) .none) m=some (.list ((List.range (1+one.fmod 5).toNat).map fun (k:Nat)=>.int (thingOf (two+(k:Int) * (1+one.fmod 2)) r.b))):=by
   intro m hm m1 m2 m4
   refine bZ (List.range (1+one.fmod 5).toNat) (fun (i:Nat)=>[PyData.int i]) _ (bH (n:=1+one.fmod 5) ?_ (by lia)) (by rw [List.length_range];lia) rfl fun k o_=>?_
   ·simp only [x_k,x_v,ba,cC,m1,bX,bw _ 5 (by decide)]
   ·have n1:(m++[some (PyData.int k)])[1]?=some (some (.int one)):=by rw [List.getElem?_append_left (by rw [hm];decide)];exact m1
    have n2:(m++[some (PyData.int k)])[2]?=some (some (.int two)):=by rw [List.getElem?_append_left (by rw [hm];decide)];exact m2
    have n4:(m++[some (PyData.int k)])[4]?=some (some r.d):=by rw [List.getElem?_append_left (by rw [hm];decide)];exact m4
    have n8:(m++[some (PyData.int k)])[8]?=some (some (.int k)):=by rw [List.getElem?_append_right (by rw [hm];exact Nat.le_refl 8),hm];rfl
    simp only [List.map_cons,List.map_nil,x_k,x_v,ba,bd,be,aF,ar,cC,n1,n2,n4,n8,bX,bw _ 2 (by decide),uy _ (1+one.fmod 2) (gP (by lia) (by lia)),Dr.i0,mX,ht]
  refine ak (.tuple (((List.range (1+one.fmod 5).toNat).map fun (k:Nat)=>thingOf (two+(k:Int) * (1+one.fmod 2)) r.b).map .int)) ?_ rfl ?_
  ·rw [x_b1,hcomp _ rfl rfl rfl rfl,List.map_map];rfl
  refine af ?_ (nl _ _)
  exact aZ (esC rfl (esC (ai (esC rfl (esC rfl (esC (aT rfl (lenL named)) (esC rfl es0)))) (hw one two named.length hNl)) (esC rfl es0)))
 rw [if_neg h2]
 refine ae c2 (by rw [al,show (way == 4)=decide (way=4) from rfl,← Bool.decide_and,decide_eq_false h2]) ?_
 have c3:evE Φ Γ (.bool true (.cons (.cmp .In (.v 0) (.lst (.cons (.k (.int 5)) (.cons (.k (.int 6)) .nil)))) (.cons (.cmp .Lt (.b1 .len (.v 3)) (.k (.int 12))) .nil))) [some (.int way),some (.int one),some (.int two),some (.list (opened.map Row.d)),some r.d,some (.list (named.map Row.d)),some (.list (hands.map Row.d)),none]=some (.bool (decide (way=5∨way=6)&&decide ((opened.length:Int) < 12))):=by
  refine aH ?_ (aj (aT rfl (lenL opened)) rfl (v_lt (↑opened.length) 12))
  have:=nT way [5,6]
  simp only [List.map_cons,List.map_nil] at this
  simp only [x_k,x_v,ik,dP,aF,ar,v_in,gN,bX,mX,this]
  congr 2
  rw [Bool.eq_iff_iff]
  simp only [List.any_cons,List.any_nil,Bool.or_false,Bool.or_eq_true,beq_iff_eq,decide_eq_true_eq]
  lia
 by_cases h3:(way=5∨way=6)∧opened.length < 12
 ·rw [if_pos h3]
  refine am c3 (by rw [al,decide_eq_true h3.1,decide_eq_true (show (opened.length:Int) < 12 from Int.ofNat_lt.mpr h3.2)];rfl) (af ?_ (nl _ _))
  rcases h3.1 with q | q
  ·subst q;rfl
  ·subst q;rfl
 rw [if_neg h3]
 refine ae c3 (by rw [al,← Bool.decide_and,decide_eq_false fun q=>h3 ⟨q.1,Int.ofNat_lt.mp q.2⟩]) ?_
 have c4:evE Φ Γ (.bool true (.cons (.cmp .Eq (.v 0) (.k (.int 7))) (.cons (.cmp .Gt (.b1 .len (.v 3)) (.k (.int 0))) (.cons (.cmp .Eq (.idx (.idx (.v 3) (.neg (.k (.int 1)))) (.k (.int 0))) (.k (.str "either"))) .nil)))) [some (.int way),some (.int one),some (.int two),some (.list (opened.map Row.d)),some r.d,some (.list (named.map Row.d)),some (.list (hands.map Row.d)),none]=some (.bool ((way == 7)&&(decide ((0:Int) < opened.length)&&opened.getLast?.any Row.isEither))):=by
  rw [cG]
  refine fK (rfl) fun o_=>fK (aj (aT rfl (lenL opened)) rfl (v_gt (↑opened.length) 0)) fun q=>?_
  cases hlast:opened.getLast? with
  | none=>
   rw [List.getLast?_eq_none_iff] at hlast
   subst hlast;simp at q
  | some x=>
   simp only [x_k,x_v,gn,dP,bd,fq,gX,gN,bX,jY,List.getLast?_map,hlast,mX,Row.i0,jV,eI,Option.any_some]
 by_cases h4:way=7∧(opened.getLast?.any Row.isEither)=true
 ·rw [if_pos h4]
  refine am c4 ?_ (af rfl (nl _ .orr))
  have:(0:Int) < opened.length:=by
   cases opened with
   | nil=>simp at h4
   | cons=>simp only [List.length_cons];((expose_names;exact Int.ofNat_lt.mpr (Nat.succ_pos tail.length)))
  rw [al,h4.1,h4.2,decide_eq_true this];rfl
 rw [if_neg h4]
 refine ae c4 ?_ ?_
 ·rw [al]
  congr 1
  rw [Bool.eq_false_iff]
  intro q
  simp only [Bool.and_eq_true,beq_iff_eq] at q
  exact h4 ⟨q.1,q.2.2⟩
 have c5:evE Φ Γ (.bool true (.cons (.cmp .Lt (.v 0) (.k (.int 10))) (.cons (.cmp .Gt (.b1 .len (.v 6)) (.k (.int 0))) .nil))) [some (.int way),some (.int one),some (.int two),some (.list (opened.map Row.d)),some r.d,some (.list (named.map Row.d)),some (.list (hands.map Row.d)),none]=some (.bool (decide (way < 10)&&decide ((0:Int) < hands.length))):=
  aH (rfl) (aj (aT rfl (lenL hands)) rfl (v_gt (↑hands.length) 0))
 by_cases h5:way < 10∧0 < hands.length
 ·rw [if_pos h5]
  refine am c5 (by rw [al,decide_eq_true h5.1,decide_eq_true (show (0:Int) < hands.length from Int.ofNat_lt.mpr h5.2)];rfl) (af ?_ (nl _ _))
  simp only [x_v,be,aF,ar,gX,gN,bX,mX]
  exact hdeed one two hands hH h5.2
 rw [if_neg h5]
 refine ae c5 (by rw [al,← Bool.decide_and,decide_eq_false fun q=>h5 ⟨q.1,Int.ofNat_lt.mp q.2⟩]) ?_
 have c6:evE Φ Γ (.cmp .Gt (.b1 .len (.v 3)) (.k (.int 0))) [some (.int way),some (.int one),some (.int two),some (.list (opened.map Row.d)),some r.d,some (.list (named.map Row.d)),some (.list (hands.map Row.d)),none]=some (.bool (decide ((0:Int) < opened.length))):=by
  exact aj (aT rfl (lenL opened)) rfl (v_gt (↑opened.length) 0)
 by_cases h6:0 < opened.length
 ·rw [if_pos h6]
  exact am c6 (by rw [al,decide_eq_true (show (0:Int) < opened.length from Int.ofNat_lt.mpr h6)]) (af rfl (nl _ .fin))
 rw [if_neg h6]
 refine ae c6 (by rw [al,decide_eq_false fun q:(0:Int) < opened.length=>h6 (Int.ofNat_lt.mp q)]) (af ?_ (nl _ _))
 simp only [x_v,be,aF,ar,gX,gN,bX,mX]
 exact (hlend one two named hN hNl)
end
end Mine
set_option tactic.hygienic false
namespace Mine
open PySem
noncomputable def three {α:Type} (x:Int) (a b c:α):α:=if x.fmod 3=0 then a else if x.fmod 3=1 then b else c
noncomputable def kd (x:Int):Bool:=decide (x.fmod 2=1)
noncomputable def cu (way one two:Int) (a b c:Str) (th:Int):List Row:=
 if way=0 then [.lend a (kd (one.fdiv 8)) (.th th),.again,.deed .look a,.deed .back a,.fin,.fin]
 else if way=1 then [.lend a (kd (one.fdiv 8)) (.th th),.either,.deed .back a,.orr,.deed .look a,.fin,.deed .look a,.fin]
 else if way=2 then [.lend a true (.th th),.lend b true (.hd a),.lend c (kd (one.fdiv 8)) (.hd b),.deed .back (three two a b a),.deed .look (three one c c b),.fin,.fin,.fin]
 else [.lend a true (.th th),.lend b false (.hd a),.lend c (kd two) (.th th),.again,.deed .back b,.fin,.fin,.fin,.fin]
noncomputable def gad (one two:Int) (a b c:Str) (th:Int):List Row:=
 if one.fmod 8 < 4 then cu (one.fmod 8) one two a b c th
 else if one.fmod 8=4 then [.pick c [th,th,(th+1).fmod 1000000000,(th+1).fmod 1000000000,(th+2).fmod 1000000000],.lend a true (.th (three two th ((th+1).fmod 1000000000) ((th+2).fmod 1000000000))),.lend b (kd (one.fdiv 8)) (.hd c),.fin,.fin,.fin]
 else if one.fmod 8=5 then [.lend a true (.th th),.lend b false (.hd a),.either,.deed .back (if kd two then b else a),.orr,.deed .look b,.fin,.deed .look a,.fin,.fin]
 else if one.fmod 8=6 then [.lend a (kd (one.fdiv 8)) (.th ((th+1).fmod 1000000000)),.lend b (kd two) (.th th),.lend c true (.th th),.deed .look b,.fin,.fin,.fin]
 else if two.fmod 3=0 then [.lend a true (.th th),.deed .back a,.lend b (kd (one.fdiv 8)) (.hd a),.deed .look b,.fin,.fin]
 else [.pick c [(th+1).fmod 1000000000,th],.lend a true (.th th),.either,.deed .back a,.orr,.fin,.lend b (kd (one.fdiv 8)) (.hd c),.deed .look a,.fin,.fin,.fin]
noncomputable def cv (one two:Int) (deep:Nat) (r:Dr):List Row:=gad one two (wordOf one two deep r) (wordOf two one (deep+1) r) (wordOf one one (deep+2) r) (thingOf two r.b)
theorem nU (x:Int) (a b c:Str):item (.list [.str a,.str b,.str c]) (.int (x.fmod 3))=some (.str (three x a b c)):=by
 rcases sL x with h | h | h<;>simp only [three,h]<;>rfl
theorem sQ (x:Int) (a b c:Int):item (.list [.int a,.int b,.int c]) (.int (x.fmod 3))=some (.int (three x a b c)):=by
 rcases sL x with h | h | h<;>simp only [three,h]<;>rfl
theorem vM (x:Int) (a b:Str):item (.list [.str a,.str b]) (.int (x.fmod 2))=some (.str (if kd x then b else a)):=by
 rcases uF x with h | h<;>simp only [kd,h]<;>rfl
theorem pQ (x:Int):item (.list [.str "read",.str "write"]) (.int (x.fmod 2))=some (.str (kindS (kd x))):=nS x
section
variable (Φ:Str→List D→Option D) (Γ:Str→Option D) (N:Nat)
theorem pR (r:Dr) (hw:∀ (one two:Int) (deep:Nat),deep < 900→Φ "_law_word" [.int one,.int two,.int deep,r.d]=some (.str (wordOf one two deep r))) (one two:Int) (deep:Nat) (hd:deep < 800) :
 runFn Φ Γ N fn_law_hands [.int one,.int two,.int deep,r.d]=some (.list [.str (wordOf one two deep r),.str (wordOf two one (deep+1) r),.str (wordOf one one (deep+2) r)]):=by
 have c1:((deep:Int)+1)=((deep+1:Nat):Int):=by lia
 have c2:((deep:Int)+2)=((deep+2:Nat):Int):=by lia
 refine aq [some (.int one),some (.int two),some (.int deep),some r.d,none] rfl rfl ?_
 dsimp only [fn_law_hands]
 refine ak (.list [.str (wordOf one two deep r),.str (wordOf two one (deep+1) r)]) ?_ rfl ?_
 ·exact aS (esC (ai (esC rfl (esC rfl (esC rfl (esC rfl es0)))) (hw one two deep (by lia))) (esC (ai (esC rfl (esC rfl (esC (aA rfl rfl (cC (↑deep) 1)) (esC rfl es0)))) (hw two one (deep+1) (by lia))) es0))
 refine af ?_ rfl
 exact aA rfl (aS (esC (ai (esC rfl (esC rfl (esC (aA rfl rfl (cC (↑deep) 2)) (esC rfl es0)))) (hw one one (deep+2) (by lia))) es0)) rfl
theorem pS (way one two:Int) (a b c:Str) (th:Int) (h0:0≤way) (h4:way < 4) :
 runFn Φ Γ N fn_law_first_four [.int way,.int one,.int two,.list [.str a,.str b,.str c],.int th]=some (.list ((cu way one two a b c th).map Row.d)):=by
 refine aq [some (.int way),some (.int one),some (.int two),some (.list [.str a,.str b,.str c]),some (.int th),none,none,none,none,none,none,none] rfl rfl ?_
 dsimp only [fn_law_first_four]
 refine ak (.str a) rfl rfl (ak (.str b) rfl rfl (ak (.str c) rfl rfl (ak (.str (kindS (kd (one.fdiv 8)))) ?_ rfl (ak (.tuple [.str "end"]) rfl rfl ?_))))
 ·exact ad (aS (esC rfl (esC rfl es0))) (aA (aA rfl rfl (nM one 8 (of_decide_eq_true (id (Eq.refl true))))) rfl (bw (one.fdiv 8) 2 (of_decide_eq_true (id (Eq.refl true))))) (pQ (one.fdiv 8))
 simp only [sX,sN]
 have hcase:way=0∨way=1∨way=2∨way=3:=by lia
 rcases hcase with h | h | h | h
 ·subst h
  exact am (x:=.bool true) rfl rfl (af rfl rfl)
 ·subst h
  refine ae (x:=.bool false) rfl rfl (am (x:=.bool true) rfl rfl (ak (.list (([.lend a (kd (one.fdiv 8)) (.th th),.either,.deed .back a,.orr,.deed .look a,.fin]:List Row).map Row.d)) rfl rfl ?_))
  exact af rfl rfl
 ·subst h
  refine ae (x:=.bool false) rfl rfl (ae (x:=.bool false) rfl rfl (ak (Row.lend a true (.th th)).d rfl rfl (am (x:=.bool true) rfl rfl ?_)))
  refine ak (.list (([.lend a true (.th th),.lend b true (.hd a),.lend c (kd (one.fdiv 8)) (.hd b)]:List Row).map Row.d)) rfl rfl ?_
  refine af ?_ rfl
  exact aA rfl (aS (esC (aZ (esC rfl (esC (ad (aS (esC rfl (esC rfl (esC rfl es0)))) (aA rfl rfl (bw two 3 (of_decide_eq_true (id (Eq.refl true))))) (nU two a b a)) es0))) (esC (aZ (esC rfl (esC (ad (aS (esC rfl (esC rfl (esC rfl es0)))) (aA rfl rfl (bw one 3 (of_decide_eq_true (id (Eq.refl true))))) (nU one c c b)) es0))) (esC rfl (esC rfl (esC rfl es0)))))) rfl
 ·subst h
  refine ae (x:=.bool false) rfl rfl (ae (x:=.bool false) rfl rfl (ak (Row.lend a true (.th th)).d rfl rfl (ae (x:=.bool false) rfl rfl ?_)))
  refine ak (.list (([.lend a true (.th th),.lend b false (.hd a),.lend c (kd two) (.th th),.again]:List Row).map Row.d)) ?_ rfl ?_
  ·exact aS (esC rfl (esC (aZ (esC rfl (esC rfl (esC rfl (esC rfl es0))))) (esC (aZ (esC rfl (esC rfl (esC (ad (aS (esC rfl (esC rfl es0))) (aA rfl rfl (bw two 2 (of_decide_eq_true (id (Eq.refl true))))) (pQ two)) (esC rfl es0))))) (esC (aZ (esC rfl es0)) es0))))
  exact af rfl rfl
theorem nV (r:Dr) (ht:∀ c b:Int,Φ "_law_thing" [.int c,.int b]=some (.int (thingOf c b)))
 (hh:∀ (one two:Int) (deep:Nat),deep < 800→Φ "_law_hands" [.int one,.int two,.int deep,r.d]=some (.list [.str (wordOf one two deep r),.str (wordOf two one (deep+1) r),.str (wordOf one one (deep+2) r)]))
 (hf:∀ (way one two:Int) (a b c:Str) (th:Int),0≤way→way < 4→Φ "_law_first_four" [.int way,.int one,.int two,.list [.str a,.str b,.str c],.int th]=some (.list ((cu way one two a b c th).map Row.d)))
 (one two:Int) (deep:Nat) (hd:deep < 800) :
 runFn Φ Γ N fn_law_gadget [.int one,.int two,.int deep,r.d]=some (.list ((cv one two deep r).map Row.d)):=by
 have e1:=hh one two deep hd
 unfold cv
 generalize wordOf one two deep r=a at e1 ⊢
 generalize wordOf two one (deep+1) r=b at e1 ⊢
 generalize wordOf one one (deep+2) r=c at e1 ⊢
 have e2:=ht two r.b
 generalize thingOf two r.b=th at e2 ⊢
 refine aq [some (.int one),some (.int two),some (.int deep),some r.d,none,none,none,none,none,none,none,none,none,none] rfl rfl ?_
 dsimp only [fn_law_gadget]
 refine ak (.list [.str a,.str b,.str c]) (ai (esC rfl (esC rfl (esC rfl (esC rfl es0)))) e1) rfl ?_
 refine ak (.str a) rfl rfl (ak (.str b) rfl rfl (ak (.int th) ?_ rfl (ak (.int ((th+1).fmod 1000000000)) ?_ rfl (ak (.int ((th+2).fmod 1000000000)) ?_ rfl (ak (.str (kindS (kd (one.fdiv 8)))) ?_ rfl (ak (.tuple [.str "end"]) rfl rfl (ak (.int (one.fmod 8)) ?_ rfl ?_)))))))
 ·exact ai (esC rfl (esC (ad rfl rfl (Dr.i0 r)) es0)) e2
 ·exact rfl
 ·exact rfl
 ·exact ad (aS (esC rfl (esC rfl es0))) (aA (aA rfl rfl (nM one 8 (of_decide_eq_true (id (Eq.refl true))))) rfl (bw (one.fdiv 8) 2 (of_decide_eq_true (id (Eq.refl true))))) (pQ (one.fdiv 8))
 ·exact rfl
 simp only [sX,sN]
 have f1:=av one (b:=8) (by decide)
 have f2:=aB one (b:=8) (by decide)
 unfold gad
 generalize one.fmod 8=way at f1 f2 ⊢
 generalize (th+1).fmod 1000000000=far
 generalize (th+2).fmod 1000000000=last
 by_cases h4:way < 4
 ·rw [if_pos h4]
  refine am (x:=.bool (decide (way < 4))) (rfl) (by rw [al,decide_eq_true h4]) (af ?_ rfl)
  simp only [x_v,be,aF,ar,gX,gN,bX,mX]
  exact hf way one two a b c th f1 h4
 rw [if_neg h4]
 refine ae (x:=.bool (decide (way < 4))) (rfl) (by rw [al,decide_eq_false h4]) ?_
 have hcase:way=4∨way=5∨way=6∨way=7:=by lia
 rcases hcase with h | h | h | h
 ·subst h
  refine am (x:=.bool true) rfl rfl (ak (.list (([.pick c [th,th,far,far,last]]:List Row).map Row.d)) rfl rfl (ak (.list (([.pick c [th,th,far,far,last],.lend a true (.th (three two th far last)),.lend b (kd (one.fdiv 8)) (.hd c)]:List Row).map Row.d)) ?_ rfl ?_))
  ·exact aA rfl (aS (esC (aZ (esC rfl (esC rfl (esC rfl (esC (ad (aS (esC rfl (esC rfl (esC rfl es0)))) (aA rfl rfl (bw two 3 (of_decide_eq_true (id (Eq.refl true))))) (sQ two th far last)) es0))))) (esC (aZ (esC rfl (esC rfl (esC rfl (esC (ad rfl rfl rfl) es0))))) es0))) rfl
  exact af rfl rfl
 ·subst h
  refine ae (x:=.bool false) rfl rfl (am (x:=.bool true) rfl rfl (ak (.list (([.lend a true (.th th),.lend b false (.hd a),.either,.deed .back (if kd two then b else a)]:List Row).map Row.d)) ?_ rfl ?_))
  ·exact aS (esC (aZ (esC rfl (esC rfl (esC rfl (esC rfl es0))))) (esC (aZ (esC rfl (esC rfl (esC rfl (esC rfl es0))))) (esC (aZ (esC rfl es0)) (esC (aZ (esC rfl (esC (ad (aS (esC rfl (esC rfl es0))) (aA rfl rfl (bw two 2 (of_decide_eq_true (id (Eq.refl true))))) (vM two a b)) es0))) es0))))
  exact af rfl rfl
 ·subst h
  refine ae (x:=.bool false) rfl rfl (ae (x:=.bool false) rfl rfl (am (x:=.bool true) rfl rfl (ak (.list (([.lend a (kd (one.fdiv 8)) (.th far),.lend b (kd two) (.th th)]:List Row).map Row.d)) ?_ rfl ?_)))
  ·exact aS (esC (aZ (esC rfl (esC rfl (esC rfl (esC rfl es0))))) (esC (aZ (esC rfl (esC rfl (esC (ad (aS (esC rfl (esC rfl es0))) (aA rfl rfl (bw two 2 (of_decide_eq_true (id (Eq.refl true))))) (pQ two)) (esC rfl es0))))) es0))
  exact af rfl rfl
 ·subst h
  refine ae (x:=.bool false) rfl rfl (ae (x:=.bool false) rfl rfl (ae (x:=.bool false) rfl rfl ?_))
  have hc:evE Φ Γ (.cmp .Eq (.bin .Mod (.v 1) (.k (.int 3))) (.k (.int 0))) [some (.int one),some (.int two),some (.int deep),some r.d,some (.list [.str a,.str b,.str c]),some (.str a),some (.str b),some (.int th),some (.int far),some (.int last),some (.str (kindS (kd (one.fdiv 8)))),some (.tuple [.str "end"]),some (.int 7),none]=some (.bool (two.fmod 3 == 0)):=by
   exact rfl
  by_cases h3:two.fmod 3=0
  ·refine am hc (by rw [al,h3];rfl) (af ?_ rfl)
   rw [if_neg (by decide),if_neg (by decide),if_neg (by decide),if_pos h3];rfl
  ·refine ae hc (by rw [al];simp [h3]) ?_
   refine ak (.list (([.pick c [far,th],.lend a true (.th th),.either,.deed .back a]:List Row).map Row.d)) rfl rfl ?_
   refine af ?_ rfl
   rw [if_neg (by decide),if_neg (by decide),if_neg (by decide),if_neg h3];rfl
end
end Mine
set_option tactic.hygienic false
namespace Mine
open PySem
section
variable {Φ:Str→List D→Option D} {Γ:Str→Option D} {m:St} {ow:List Nat} {fr:Bool} {N:Nat}
set_option tactic.hygienic true in
theorem vN {i:Nat} {xs:List D} (h0:m[i]?=some (some (.list xs))) (hn:xs.isEmpty=false):exS Φ Γ ow fr N (.pop i) m=some (.next,m.set i (some (.list xs.dropLast))):=by
 rw [tz,h0]
 exact if_neg (by rw [hn];exact Bool.false_ne_true)
theorem kU {i:Nat} {r:Sms} {xs:List D} {Q:St→Prop} (h0:m[i]?=some (some (.list xs))) (hn:xs.isEmpty=false) (k:Go (exSs Φ Γ ow fr N r (m.set i (some (.list xs.dropLast)))) Q):Go (exSs Φ Γ ow fr N (.cons (.pop i) r) m) Q:=by
 obtain ⟨m2,e2,q2⟩:=k
 exact ⟨m2,(aP (vN h0 hn)).trans e2,q2⟩
set_option tactic.hygienic true in
theorem uH {i:Nat} {ix e:Ex} {xs:List D} {n:Int} {d:D} (h0:m[i]?=some (some (.list xs))) (h1:evE Φ Γ e m=some d) (h2:evE Φ Γ ix m=some (.int n)) (hn:noList d=true) (hz:0≤n∧n < xs.length):exS Φ Γ ow fr N (.seti i ix e) m=some (.next,m.set i (some (.list (xs.set n.toNat d)))):=by
 rw [km,h1,h0,bX,bX,bX,h2,bX,if_pos hn]
 exact if_pos hz
theorem sR {i:Nat} {ix e:Ex} {r:Sms} {xs:List D} {n:Int} {d:D} {Q:St→Prop} (h0:m[i]?=some (some (.list xs))) (h1:evE Φ Γ e m=some d) (h2:evE Φ Γ ix m=some (.int n)) (hn:noList d=true) (hz:0≤n∧n < xs.length) (k:Go (exSs Φ Γ ow fr N r (m.set i (some (.list (xs.set n.toNat d))))) Q):Go (exSs Φ Γ ow fr N (.cons (.seti i ix e) r) m) Q:=by
 obtain ⟨m2,e2,q2⟩:=k
 exact ⟨m2,(aP (uH h0 h1 h2 hn hz)).trans e2,q2⟩
theorem a7 {i:Nat} {e:Ex} {r:Sms} {d:D} (x:D) (h:evE Φ Γ e m=some x) (ho:flat x=true) (k:Rt (exSs Φ Γ ow fr N r (m.set i (some x))) d):Rt (exSs Φ Γ ow fr N (.cons (.asg i e) r) m) d:=bC _ (pJ h (by rw [ho];simp)) k
end
noncomputable def sheetStep (odd:Bool) (most:Int) (r:Dr) (way one two:Int) (s:List Row × List Row):List Row × List Row:=
 if odd=true∧way.fmod 2=0∧(s.2.filter Row.isNamed).length < 3 then (s.1++cv one two (s.2.filter Row.isNamed).length r,s.2)
 else (s.1++[rowOf (way.fmod most) one two s.2 r],if (rowOf (way.fmod most) one two s.2 r).isOpen then s.2++[rowOf (way.fmod most) one two s.2 r] else if (rowOf (way.fmod most) one two s.2 r).isFin then s.2.dropLast else s.2)
noncomputable def sheetAt (odd:Bool) (most:Int) (r:Dr) (c:Nat→Int):Nat→List Row × List Row
 | 0=>([],[])
 | k+1=>sheetStep odd most r (c (3 * k)) (c (3 * k+1)) (c (3 * k+2)) (sheetAt odd most r c k)
theorem nW (odd:Bool) (most:Int) (r:Dr) (c:Nat→Int):sheetAt odd most r c 0=([],[]):=rfl
theorem d8 (odd:Bool) (most:Int) (r:Dr) (c:Nat→Int) (n:Nat):sheetAt odd most r c (n+1)=sheetStep odd most r (c (3 * n)) (c (3 * n+1)) (c (3 * n+2)) (sheetAt odd most r c n):=rfl
noncomputable def cw (odd:Bool) (most:Int) (r:Dr) (c:Nat→Int) (n:Nat):List Row:=(sheetAt odd most r c n).1++(sheetAt odd most r c n).2.map fun o_=>.fin
theorem dH (one two:Int) (named:List Row) (r:Dr):(bA one two named r).isLend=true:=by
 unfold bA
 split
 ·split<;>rfl
 ·rfl
theorem nX {r:Row} (h:r.isLend=true):r.isOpen=true∧r.isFin=false:=by cases r<;>first | exact ⟨rfl,rfl⟩ | cases h
theorem iX (way one two:Int) (opened:List Row) (r:Dr) (h:(rowOf way one two opened r).isFin=true):opened.isEmpty=false:=by
 cases opened with
 | cons=>rfl
 | nil=>
  exfalso
  revert h
  unfold rowOf
  simp only [List.filter_nil,List.length_nil,List.getLast?_nil,Option.any_none,Bool.false_eq_true,and_false,if_false,Nat.lt_irrefl]
  repeat' split
  all_goals first
   | (rw [(nX (dH _ _ _ _)).2];exact Bool.false_ne_true)
   | exact Bool.false_ne_true
theorem jZ (way one two:Int) (a b c:Str) (th:Int):(cu way one two a b c th).length≤11:=by
 unfold cu
 repeat' split
 all_goals simp
theorem nY (one two:Int) (a b c:Str) (th:Int):(gad one two a b c th).length≤11:=by
 unfold gad
 split
 ·exact jZ ..
 ·repeat' split
  all_goals simp
theorem bR (odd:Bool) (most:Int) (r:Dr) (c:Nat→Int):∀ k,(sheetAt odd most r c k).1.length≤11 * k∧(sheetAt odd most r c k).2.length≤k
 | 0=>⟨Nat.le_refl _,Nat.le_refl _⟩
 | k+1=>by
  have h1:=(bR odd most r c k).1;have h2:=(bR odd most r c k).2
  simp only [d8,sheetStep]
  split
  ·have:=nY (c (3 * k+1)) (c (3 * k+2)) (wordOf (c (3 * k+1)) (c (3 * k+2)) ((sheetAt odd most r c k).2.filter Row.isNamed).length r) (wordOf (c (3 * k+2)) (c (3 * k+1)) (((sheetAt odd most r c k).2.filter Row.isNamed).length+1) r) (wordOf (c (3 * k+1)) (c (3 * k+1)) (((sheetAt odd most r c k).2.filter Row.isNamed).length+2) r) (thingOf (c (3 * k+2)) r.b)
   refine ⟨?_,Nat.le_succ_of_le h2⟩
   rw [List.length_append]
   unfold cv
   lia
  ·refine ⟨by simp only [List.length_append,List.length_cons,List.length_nil];lia,?_⟩
   repeat' split
   ·simp only [List.length_append,List.length_cons,List.length_nil];(exact Nat.lt_succ_of_le h2)
   ·simp only [List.length_dropLast];lia
   ·exact Nat.le_succ_of_le h2
section
variable (Φ:Str→List D→Option D) (Γ:Str→Option D) (N:Nat)
theorem gR (c:Nat→Int) (n i:Nat) (h:i < n):item (.list ((List.range n).map fun i=>.int (c i))) (.int i)=some (.int (c i)):=by
 refine p_mk (k:=i) ?_ ?_
 ·have:=aW (n:=n) (i:=(i:Int)) (by exact Int.ofNat_le.mpr (Nat.zero_le i)) (by exact Int.ofNat_lt.mpr h)
  simpa using this
 ·rw [List.getElem?_map,List.getElem?_range h];rfl
theorem pT (r:Dr)
 (hg:∀ (one two:Int) (deep:Nat),deep < 800→Φ "_law_gadget" [.int one,.int two,.int deep,r.d]=some (.list ((cv one two deep r).map Row.d)))
 (hrow:∀ (way one two:Int) (opened:List Row),opened.length < 900→Φ "_law_row" [.int way,.int one,.int two,.list (opened.map Row.d),r.d]=some (rowOf way one two opened r).d)
 (odd:Bool) (most:Int) (hm:most ≠ 0) (c:Nat→Int) (n:Nat) (hn:n≤100) :
 runFn Φ Γ N fn_law_sheet [.list ((List.range (3 * n)).map fun i=>.int (c i)),r.d,.int most,.bool odd]=some (.list ((cw odd most r c n).map Row.d)):=by
 refine aq [some (.list ((List.range (3 * n)).map fun i=>.int (c i))),some r.d,some (.int most),some (.bool odd),none,none,none,none,none,none] rfl rfl ?_
 dsimp only [fn_law_sheet]
 refine ak (.list []) rfl rfl (a7 (.list []) rfl rfl ?_)
 have hrange:∀ m:St,m[0]?=some (some (.list ((List.range (3 * n)).map fun i=>.int (c i))))→evE Φ Γ (.bin .FloorDiv (.b1 .len (.v 0)) (.k (.int 3))) m=some (.int n):=by
  intro m h
  simp only [x_k,x_v,ba,x_b1,h,bX,cL,lX,List.length_range,nM _ 3 (by decide)]
  congr 2
  rw [Int.fdiv_eq_ediv_of_nonneg _ (by decide)]
  lia
 refine aQ (Q':=fun m=>∃ x6 x7 x8 x9,m=[some (.list ((List.range (3 * n)).map fun i=>.int (c i))),some r.d,some (.int most),some (.bool odd),some (.list ((sheetAt odd most r c n).1.map Row.d)),some (.list ((sheetAt odd most r c n).2.map Row.d)),x6,x7,x8,x9]) ?_ ?_
 ·refine (b8 (fun k m=>∃ x6 x7 x8 x9,m=[some (.list ((List.range (3 * n)).map fun i=>.int (c i))),some r.d,some (.int most),some (.bool odd),some (.list ((sheetAt odd most r c k).1.map Row.d)),some (.list ((sheetAt odd most r c k).2.map Row.d)),x6,x7,x8,x9])
   (bH (hrange _ rfl) (by lia)) rfl ⟨none,none,none,none,rfl⟩ (fun k vs m hk hI=>?_)).mono fun m hI=>?_
  ·refine byG fun X_ g_=>?_
   obtain ⟨x6,x7,x8,x9,rfl⟩:=hI
   rw [List.getElem?_map] at hk
   obtain ⟨i,hi,rfl⟩:=Option.map_eq_some_iff.mp hk
   obtain ⟨hi1,hi2⟩:=List.getElem?_eq_some_iff.mp hi
   refine g_ ?_
   simp only [List.length_range] at hi1
   simp only [List.getElem_range] at hi2
   subst hi2
   refine ⟨_,rfl,?_⟩
   simp only [sX,sN]
   obtain ⟨l1,l2⟩:=bR odd most r c k
   replace l1:(sheetAt odd most r c k).1.length≤1100:=by lia
   replace l2:(sheetAt odd most r c k).2.length≤100:=by lia
   simp only [d8]
   generalize sheetAt odd most r c k=s at l1 l2 ⊢
   obtain ⟨rows,opened⟩:=s
   simp only at l1 l2 ⊢
   have b2:3 * k+2 < 3 * n:=by lia
   have g0:=gR c (3 * n) (3 * k) (Nat.lt_of_succ_lt (Nat.lt_of_succ_lt b2))
   have g1:=gR c (3 * n) (3 * k+1) (Nat.lt_of_succ_lt b2)
   have g2:=gR c (3 * n) (3 * k+2) b2
   have k0:(3:Int) * (k:Int)=((3 * k:Nat):Int):=rfl
   have k1:((3 * k:Nat):Int)+1=((3 * k+1:Nat):Int):=rfl
   have k2:((3 * k:Nat):Int)+2=((3 * k+2:Nat):Int):=rfl
   generalize c (3 * k)=way at g0 ⊢
   generalize c (3 * k+1)=one at g1 ⊢
   generalize c (3 * k+2)=two at g2 ⊢
   generalize (PyData.list ((List.range (3 * n)).map fun i=>.int (c i)))=cells at g0 g1 g2 ⊢
   refine aw (.list ((opened.filter Row.isNamed).map Row.d)) (dF opened (fun e=>[e.d]) Row.isNamed Row.d (bQ (rfl)) (Nat.le_trans l2 (by decide)) rfl (fun e o_=>?_) (fun e o_ o_=>?_)) rfl ?_
   ·exact ev_c (aj (ad rfl rfl (Row.i0 e)) (aS (esC rfl (esC rfl es0))) (kR e))
   ·exact rfl
   refine aw (.int way) ?_ rfl ?_
   ·exact ad rfl (aA rfl rfl (eU 3 (↑k) (of_decide_eq_true (id (Eq.refl true))))) g0
   simp only [sX,sN]
   refine ap (aK (Q:=fun m=>∃ x6 x7 x8 x9,m=[some cells,some r.d,some (.int most),some (.bool odd),some (.list ((sheetStep odd most r way one two (rows,opened)).1.map Row.d)),some (.list ((sheetStep odd most r way one two (rows,opened)).2.map Row.d)),x6,x7,x8,x9]) (d:=.bool (odd&&((way.fmod 2 == 0)&&decide (((opened.filter Row.isNamed).length:Int) < 3)))) ?_ (al _) (fun q=>?_) (fun q=>?_)) fun m e=>ah e
   ·exact gk (rfl) (rfl) (aj (aT rfl (lenL (List.filter Row.isNamed opened))) rfl (v_lt (↑(List.filter Row.isNamed opened).length) 3))
   ·simp only [Bool.and_eq_true,beq_iff_eq,decide_eq_true_eq] at q
    have hs:sheetStep odd most r way one two (rows,opened)=(rows++cv one two (opened.filter Row.isNamed).length r,opened):=if_pos ⟨q.1,q.2.1,Int.ofNat_lt.mp q.2.2⟩
    rw [hs]
    refine aw (.list ((rows++cv one two (opened.filter Row.isNamed).length r).map Row.d)) ?_ rfl (ah ⟨_,_,_,_,rfl⟩)
    simp only [x_k,x_v,ba,bd,be,x_b1,aF,ar,gX,gN,bX,mX,eU 3 (k:Int) (by decide),k0,cC,k1,k2,g1,g2,cL,lX,hg one two _ (Nat.lt_of_le_of_lt (List.length_filter_le _ _) (Nat.lt_of_le_of_lt l2 (by decide)))]
    rw [eV _ _ (by rw [lX,lX];exact Nat.le_trans (Nat.add_le_add l1 (nY one two (wordOf one two (opened.filter Row.isNamed).length r) (wordOf two one ((opened.filter Row.isNamed).length+1) r) (wordOf one one ((opened.filter Row.isNamed).length+2) r) (thingOf two r.b))) (by decide)),List.map_append]
   ·have hs:sheetStep odd most r way one two (rows,opened)=(rows++[rowOf (way.fmod most) one two opened r],if (rowOf (way.fmod most) one two opened r).isOpen then opened++[rowOf (way.fmod most) one two opened r] else if (rowOf (way.fmod most) one two opened r).isFin then opened.dropLast else opened):=if_neg (by
     rintro ⟨q1,q2,q3⟩
     simp only at q3
     rw [q1,q2,decide_eq_true (show ((opened.filter Row.isNamed).length:Int) < 3 from Int.ofNat_lt.mpr q3)] at q
     exact absurd q (by decide))
    rw [hs]
    have hrw:=hrow (way.fmod most) one two opened (Nat.lt_of_le_of_lt l2 (by decide))
    have hfin:=iX (way.fmod most) one two opened r
    generalize rowOf (way.fmod most) one two opened r=x at hrw hfin ⊢
    refine aw x.d ?_ rfl ?_
    ·exact ai (esC (aA rfl rfl (bw way most hm)) (esC (ad rfl (aA (aA rfl rfl (eU 3 (↑k) (of_decide_eq_true (id (Eq.refl true))))) rfl (cC (3 * ↑k) 1)) g1) (esC (ad rfl (aA (aA rfl rfl (eU 3 (↑k) (of_decide_eq_true (id (Eq.refl true))))) rfl (cC (3 * ↑k) 2)) g2) (esC rfl (esC rfl es0))))) hrw
    simp only [sX,sN]
    refine aw (.list ((rows++[x]).map Row.d)) ?_ rfl ?_
    ·simp only [x_v,ik,ba,aF,ar,gX,gN,bX,mX]
     rw [eV _ _ (by rw [lX];exact Nat.le_trans (Nat.add_le_add_right l1 1) (by decide)),List.map_append];rfl
    simp only [sX,sN]
    refine ap (aK (Q:=fun m=>m=[some cells,some r.d,some (.int most),some (.bool odd),some (.list ((rows++[x]).map Row.d)),some (.list ((if x.isOpen then opened++[x] else opened).map Row.d)),some (.int k),some x.d,some (.list ((opened.filter Row.isNamed).map Row.d)),some (.int way)]) (d:=.bool x.isOpen) ?_ (al _) (fun q=>?_) (fun q=>?_)) ?_
    ·exact aj (ad rfl rfl (Row.i0 x)) (aS (esC rfl (esC rfl (esC rfl (esC rfl es0))))) (jW x)
    ·refine bv (xs:=opened.map Row.d) (d:=x.d) rfl (rfl) x.noList (by rw [lX];exact Nat.le_trans l2 (by decide)) (ah ?_)
     rw [if_pos q];simp
    ·exact ah (by rw [if_neg (by rw [q];decide)])
    rintro _ rfl
    refine ap (aK (Q:=fun m=>m=[some cells,some r.d,some (.int most),some (.bool odd),some (.list ((rows++[x]).map Row.d)),some (.list ((if x.isOpen then opened++[x] else if x.isFin then opened.dropLast else opened).map Row.d)),some (.int k),some x.d,some (.list ((opened.filter Row.isNamed).map Row.d)),some (.int way)]) (d:=.bool x.isFin) ?_ (al _) (fun q=>?_) (fun q=>?_)) ?_
    ·exact aj (ad rfl rfl (Row.i0 x)) rfl (congrArg some (eH x))
    ·have ho:x.isOpen=false:=by cases x<;>first | rfl | cases q
     rw [ho]
     simp only [Bool.false_eq_true,if_false]
     refine kU (xs:=opened.map Row.d) rfl ?_ (ah ?_)
     ·have:=hfin q
      cases opened with
      | nil=>cases this
      | cons=>rfl
     ·rw [if_pos q];simp [List.map_dropLast]
    ·exact ah (by rw [q];rfl)
    rintro _ rfl
    exact ah ⟨_,_,_,_,rfl⟩
  ·simpa using hI
 ·refine al4 fun x6 x7 x8 x9=>?_
  have l1:=(bR odd most r c n).1;have l2:=(bR odd most r c n).2
  refine af ?_ rfl
  rw [ba,(bZ (Φ:=Φ) (Γ:=Γ) (m:=[some (.list ((List.range (3 * n)).map fun i=>.int (c i))),some r.d,some (.int most),some (.bool odd),some (.list ((sheetAt odd most r c n).1.map Row.d)),some (.list ((sheetAt odd most r c n).2.map Row.d)),x6,x7,x8,x9]) (elt:=.tup (.cons (.k (.str "end")) .nil)) (it:=.plain (.v 5)) (sheetAt odd most r c n).2 (fun e=>[e.d]) (fun o_=>Row.fin.d) (bQ (rfl)) (by lia) rfl (fun e o_=>rfl))]
  simp only [x_v,gX,gN,bX]
  rw [eV _ _ (by simp only [lX];lia)]
  simp [cw]
end
end Mine
set_option tactic.hygienic false
namespace Mine
open PySem
noncomputable def d9 (way:Int):Int:=if way=2 then 5 else if way=3∨way=6 then 10 else 12
noncomputable def manyOf (ns:List Int) (most:Int):Nat:=(if 3 < (cellAt ns 2).fmod 8 then ((cellAt ns 0).fmod most).fmod 6 else (cellAt ns 0).fmod most).toNat
noncomputable def onceOf (ns:List Int) (most:Int):List Row:=cw (decide (3 < (cellAt ns 2).fmod 8)) (d9 ((cellAt ns 2).fmod 8)) (aX ns) (fun i=>cellAt ns (3+i)) (manyOf ns most)
noncomputable def drawnOf (ns:List Int) (most:Int):List Row:=
 if ((cellAt ns 2).fmod 8=1∨(cellAt ns 2).fmod 8=6)∧(onceOf ns most).length < 21 then onceOf ns most++onceOf ns most++onceOf ns most++onceOf ns most else onceOf ns most
theorem sS (w:Int) (h0:0≤w) (h1:w < 8):item (.list [.int 12,.int 12,.int 5,.int 10,.int 12,.int 12,.int 10,.int 12]) (.int w)=some (.int (d9 w)):=by
 obtain ⟨n,rfl⟩:=Int.eq_ofNat_of_zero_le h0
 have h:n < 8:=Int.ofNat_lt.mp h1
 rcases n with _ | _ | _ | _ | _ | _ | _ | _ | n<;>first | rfl | exact absurd h (Nat.not_lt.mpr (Nat.le_add_left 8 n))
theorem sT (w:Int):d9 w ≠ 0:=by
 unfold d9
 repeat' split
 all_goals decide
theorem j0 (ns:List Int) (most:Int) (h0:0 < most):manyOf ns most < most.toNat:=by
 have h1:=av (cellAt ns 0) h0
 have h2:=aB (cellAt ns 0) h0
 have h3:=av ((cellAt ns 0).fmod most) (b:=6) (by decide)
 have h4:=aB ((cellAt ns 0).fmod most) (b:=6) (by decide)
 have h5:((cellAt ns 0).fmod most).fmod 6≤(cellAt ns 0).fmod most:=by
  rw [Int.fmod_eq_emod_of_nonneg _ (by decide)]
  lia
 unfold manyOf
 split<;>omega
theorem fL (odd:Bool) (most:Int) (r:Dr) (c:Nat→Int) (n:Nat):(cw odd most r c n).length≤12 * n:=by
 obtain ⟨h1,h2⟩:=bR odd most r c n
 simp only [cw,List.length_append,lX];lia
theorem pU (Φ:Str→List D→Option D) (Γ:Str→Option D) (N:Nat) (ns:List Int) (hns:ns.length≤63) (most:Int) (h0:0 < most) (h1:most≤100)
 (hc:∀ k:Int,0≤k→Φ "_law_cell_at" [.list (ns.map .int),.int k]=some (.int (cellAt ns k))) (hd:Φ "_law_draw" [.list (ns.map .int)]=some (aX ns).d)
 (hs:∀ (odd:Bool) (most:Int) (_:most ≠ 0) (c:Nat→Int) (n:Nat) (_:n≤100),Φ "_law_sheet" [.list ((List.range (3 * n)).map fun i=>.int (c i)),(aX ns).d,.int most,.bool odd]=some (.list ((cw odd most (aX ns) c n).map Row.d))) :
 runFn Φ Γ N fn_law_drawn [.list (ns.map .int),.int most]=some (.list ((drawnOf ns most).map Row.d)):=by
 have ml:=j0 ns most h0
 refine aq [some (.list (ns.map .int)),some (.int most),none,none,none,none] rfl rfl ?_
 dsimp only [fn_law_drawn]
 refine ae (x:=.bool (decide ((63:Int) < ns.length))) (aj (aT rfl (lenL ns)) rfl (v_gt (↑ns.length) 63)) (by rw [al,decide_eq_false (by lia)]) ?_
 refine ak (.int ((cellAt ns 0).fmod most)) (by simp only [x_k,x_v,ba,be,aF,ar,gX,gN,bX,mX,(hc 0 (by decide)),bw _ most (by lia)]) rfl ?_
 refine ak (.int ((cellAt ns 2).fmod 8)) (aA (ai (esC rfl (esC rfl es0)) (hc 2 (by decide))) rfl (bw (cellAt ns 2) 8 (of_decide_eq_true (id (Eq.refl true))))) rfl ?_
 simp only [sX,sN]
 have n1:=av (cellAt ns 0) h0
 have n3:=av ((cellAt ns 0).fmod most) (b:=6) (by decide)
 have hmany:(if 3 < (cellAt ns 2).fmod 8 then ((cellAt ns 0).fmod most).fmod 6 else (cellAt ns 0).fmod most)=(manyOf ns most:Int):=by
  unfold manyOf
  rw [Int.toNat_of_nonneg]
  split<;>omega
 refine aQ (Q':=fun m=>m=[some (.list (ns.map .int)),some (.int most),some (.int (manyOf ns most)),some (.int ((cellAt ns 2).fmod 8)),none,none]) (aK (d:=.bool (decide (3 < (cellAt ns 2).fmod 8))) (rfl) (al _) (fun q=>?_) (fun q=>?_)) ?_
 ·rw [if_pos (of_decide_eq_true q)] at hmany
  rw [← hmany]
  exact aw (.int (((cellAt ns 0).fmod most).fmod 6)) (rfl) rfl (ah rfl)
 ·rw [if_neg (of_decide_eq_false q)] at hmany
  exact (hmany).symm ▸ (ah rfl)
 rintro _ rfl
 refine ak (.list ((List.range (3 * manyOf ns most)).map fun (i:Nat)=>.int (cellAt ns (3+i)))) ?_ rfl ?_
 ·refine bZ (List.range (3 * manyOf ns most)) (fun (i:Nat)=>[PyData.int i]) (fun i=>.int (cellAt ns (3+i))) ?_ (by rw [List.length_range];lia) rfl fun k _=>?_
  ·have:=bH (Φ:=Φ) (Γ:=Γ) (m:=[some (.list (ns.map .int)),some (.int most),some (.int (manyOf ns most)),some (.int ((cellAt ns 2).fmod 8)),none,none]) (e:=.bin .Mult (.k (.int 3)) (.v 2)) (n:=((3 * manyOf ns most:Nat):Int)) (by
    simp only [x_k,x_v,ba,gX,gN,bX,eU 3 _ (by decide)]
    congr 2) (by lia)
   rw [Int.toNat_natCast] at this
   exact this
  ·have:=hc (3+k) (by exact Int.ofNat_le.mpr (Nat.zero_le (3+k)))
   exact ai (esC rfl (esC (aA rfl rfl (cC 3 ↑k)) es0)) this
 refine ak (.list ((onceOf ns most).map Row.d)) ?_ rfl ?_
 ·exact ai (esC rfl (esC (ai (esC rfl es0) hd) (esC (ad (aS (esC rfl (esC rfl (esC rfl (esC rfl (esC rfl (esC rfl (esC rfl (esC rfl es0))))))))) rfl (sS ((cellAt ns 2).fmod 8) (av (cellAt ns 2) (b:=8) (by decide)) (aB (cellAt ns 2) (b:=8) (by decide)))) (esC (aj rfl rfl (v_gt ((cellAt ns 2).fmod 8) 3)) es0)))) (hs (decide (3 < (cellAt ns 2).fmod 8)) (d9 ((cellAt ns 2).fmod 8)) (sT _) (fun i=>cellAt ns (3+i)) (manyOf ns most) (by lia))
 simp only [sX,sN]
 have hlen:(onceOf ns most).length≤1200:=Nat.le_trans (fL ..) (by lia)
 have hdr:drawnOf ns most=if ((cellAt ns 2).fmod 8=1∨(cellAt ns 2).fmod 8=6)∧(onceOf ns most).length < 21 then onceOf ns most++onceOf ns most++onceOf ns most++onceOf ns most else onceOf ns most:=rfl
 rw [hdr]
 generalize onceOf ns most=rows at hlen ⊢
 generalize (PyData.list ((List.range (3 * manyOf ns most)).map fun (i:Nat)=>.int (cellAt ns (3+i))))=cells
 generalize (cellAt ns 2).fmod 8=way
 refine aQ (Q':=fun m=>m=[some (.list (ns.map .int)),some (.int most),some (.int (manyOf ns most)),some (.int way),some cells,some (.list ((if (way=1∨way=6)∧rows.length < 21 then rows++rows++rows++rows else rows).map Row.d))]) (aK (d:=.bool (decide (way=1∨way=6)&&decide ((rows.length:Int) < 21))) ?_ (al _) (fun q=>?_) (fun q=>?_)) ?_
 ·refine aH ?_ (aj (aT rfl (lenL rows)) rfl (v_lt (↑rows.length) 21))
  have:=nT way [1,6]
  simp only [List.map_cons,List.map_nil] at this
  simp only [x_k,x_v,ik,dP,aF,ar,v_in,gX,gN,bX,mX,this]
  congr 2
  rw [Bool.eq_iff_iff]
  simp only [List.any_cons,List.any_nil,Bool.or_false,Bool.or_eq_true,beq_iff_eq,decide_eq_true_eq]
  lia
 ·simp only [Bool.and_eq_true,decide_eq_true_eq] at q
  rw [if_pos ⟨q.1,by lia⟩]
  refine aw (.list ((rows++rows++rows++rows).map Row.d)) ?_ rfl (ah rfl)
  simp only [x_v,ba,gX,gN,bX]
  rw [eV _ _ (by simp only [lX];grind),bX,eV _ _ (by simp only [lX,List.length_append];lia),bX,eV _ _ (by simp only [lX,List.length_append];grind)]
  simp only [List.map_append]
 ·rw [if_neg (by
   rintro ⟨q1,q2⟩
   rw [decide_eq_true q1,decide_eq_true (by exact Int.ofNat_lt.mpr q2)] at q
   exact absurd q (by decide))]
  exact ah rfl
 rintro _ rfl
 exact af rfl rfl
end Mine
set_option tactic.hygienic false
namespace Mine
open PySem
noncomputable def nest:List Row→Nat→Option Nat
 | [],d=>some d
 | r::rs,d=>if r.isOpen then nest rs (d+1) else if r.isFin then (match d with | 0=>none | d+1=>nest rs d) else nest rs d
theorem ri (x:Nat):nest [] x=some x:=rfl
theorem kW (r:Row) (rs:List Row) (d:Nat):nest (r::rs) d=if r.isOpen then nest rs (d+1) else if r.isFin then (match d with | 0=>none | d+1=>nest rs d) else nest rs d:=rfl
theorem aU:∀ (a b:List Row) (d:Nat),nest (a++b) d=(nest a d).bind (nest b):=by
 intro a
 induction a with
 | nil=>
  intro b d
  exact rfl
 | cons r a aU=>
  intro b d
  simp only [List.cons_append,kW]
  split
  ·exact aU b _
  ·split
   ·cases d with
    | zero=>rfl
    | succ d=>exact aU b d
   ·exact aU b d
theorem fM:∀ (n:List Row),nest (n.map fun _=>Row.fin) n.length=some 0:=by
 intro n
 induction n with
 | nil=>
  exact rfl
 | cons _ n fM=>
  exact fM
theorem lP (way one two:Int) (a b c:Str) (th:Int) (d:Nat):nest (cu way one two a b c th) d=some d:=by
 unfold cu
 repeat' split
 all_goals rfl
theorem pV (one two:Int) (a b c:Str) (th:Int) (d:Nat):nest (gad one two a b c th) d=some d:=by
 unfold gad
 split
 ·exact lP ..
 ·repeat' split
  all_goals rfl
set_option tactic.hygienic true in
theorem cO (odd:Bool) (most:Int) (r:Dr) (c:Nat→Int):∀ k,nest (sheetAt odd most r c k).1 0=some (sheetAt odd most r c k).2.length
 | 0=>rfl
 | k+1=>by
  simp only [d8,sheetStep]
  split
  ·rw [aU,(cO odd most r c k)];exact pV ..
  ·have hf:=iX ((c (3 * k)).fmod most) (c (3 * k+1)) (c (3 * k+2)) (sheetAt odd most r c k).2 r
   generalize rowOf ((c (3 * k)).fmod most) (c (3 * k+1)) (c (3 * k+2)) (sheetAt odd most r c k).2 r=x at hf ⊢
   simp only [aU,(cO odd most r c k),bX,ri,kW]
   split
   ·simp
   ·split
    ·rename_i h
     have:=hf h
     generalize (sheetAt odd most r c k).2=l at this ⊢
     cases l with
     | nil=>cases this
     | cons=>simp
    ·rfl
theorem lQ (odd:Bool) (most:Int) (r:Dr) (c:Nat→Int) (n:Nat):nest (cw odd most r c n) 0=some 0:=by
 unfold cw
 rw [aU,cO]
 exact fM _
theorem lR (ns:List Int) (most:Int):nest (drawnOf ns most) 0=some 0:=by
 have h:nest (onceOf ns most) 0=some 0:=lQ ..
 unfold drawnOf
 split
 ·rw [aU,aU,aU,h];simp [h]
 ·exact h
noncomputable def stp (x:Row) (at':Nat) (st:List Nat):List Nat:=if x.isOpen then at'::st else if x.isFin then st.tail else st
noncomputable def stk (rows:List Row):Nat→List Nat
 | 0=>[]
 | k+1=>match rows[k]? with
  | some r=>stp r k (stk rows k)
  | none=>stk rows k
theorem j4 (rows:List Row) (n:Nat):stk rows (n+1)=match rows[n]? with | some r=>stp r n (stk rows n) | none=>stk rows n:=rfl
noncomputable def topI:List Nat→Int
 | []=>-1
 | x::_=>x
theorem rj  : topI [] = -1:=rfl
theorem gr (x_1:Nat) (tail:List Nat):topI (x_1::tail) = ↑x_1:=rfl
noncomputable def home (rows:List Row) (k:Nat):Int:=topI (stk rows k)
noncomputable def homeL (rows:List Row):List Int:=(List.range rows.length).map (home rows)
noncomputable def isAt (rows:List Row) (p:Row→Bool) (k:Nat):Bool:=(rows[k]?).any p
theorem a9 {rows:List Row} {k:Nat} {r:Row} (h:rows[k]?=some r):stk rows (k+1)=stp r k (stk rows k):=by simp only [j4,h]
structure Nested (rows:List Row):Prop where
 ok:∀ k r,rows[k]?=some r→r.isFin=true→stk rows k ≠ []
 bal:stk rows rows.length=[]
set_option tactic.hygienic true in
theorem nZ {rows:List Row} (h:nest rows 0=some 0):Nested rows:=by
 have key:∀ k,k≤rows.length→nest (rows.take k) 0=some (stk rows k).length:=by
  intro k
  induction k with
  | zero=>intro _;rfl
  | succ k ih=>
   intro hk
   have hr:rows[k]?=some rows[k]:=List.getElem?_eq_getElem (by exact hk)
   have ht:rows.take (k+1)=rows.take k++[rows[k]]:=by rw [List.take_add_one,hr];rfl
   have hs:(nest (rows.take (k+1)) 0).bind (nest (rows.drop (k+1)))=some 0:=by rw [← aU,List.take_append_drop];exact h
   rw [ht,aU,(ih (by exact Nat.le_of_lt hk)),a9 hr] at *
   simp only [bX,ri,kW,stp] at hs ⊢
   split
   ·simp
   ·rename_i ho
    simp only [ho,Bool.false_eq_true,if_false] at hs
    split
    ·rename_i hf
     simp only [hf,if_true] at hs
     cases hst:stk rows k with
     | nil=>rw [hst] at hs;simp at hs
     | cons=>simp
    ·rfl
 constructor
 ·intro k r hr hf hst
  have hk:k < rows.length:=(List.getElem?_eq_some_iff.mp hr).1
  have h1:=key k (by exact Nat.le_of_lt hk)
  have h2:=key (k+1) (by exact hk)
  have ht:rows.take (k+1)=rows.take k++[r]:=by rw [List.take_add_one,hr];rfl
  rw [ht,aU,h1,hst] at h2
  have ho:r.isOpen=false:=by cases r<;>first | rfl | cases hf
  simp [kW,ho,hf] at h2
 ·have:=key rows.length (Nat.le_refl _)
  rw [List.take_length,h] at this
  exact List.length_eq_zero_iff.mp (Option.some.inj this).symm
theorem eX (rows:List Row):∀ k,∀ j ∈ stk rows k,j < k
 | 0,j,h=>nomatch h
 | k+1,j,h=>by
  simp only [j4] at h
  split at h
  ·unfold stp at h
   split at h
   ·rcases List.mem_cons.mp h with q | q
    ·lia
    ·have:=eX rows k j q;(exact Nat.le.step this)
   ·split at h
    ·have:=eX rows k j (List.mem_of_mem_tail h);(exact Nat.le.step this)
    ·have:=eX rows k j h;(exact Nat.le.step this)
  ·have:=eX rows k j h;(exact Nat.le.step this)
set_option tactic.hygienic true in
theorem bI (rows:List Row):∀ k,∀ j ∈ stk rows k,isAt rows Row.isOpen j=true
 | 0,j,h=>nomatch h
 | k+1,j,h=>by
  simp only [j4] at h
  split at h
  ·rename_i r hr
   unfold stp at h
   split at h
   ·rename_i ho
    rcases List.mem_cons.mp h with q | q
    ·subst q;simp [isAt,hr,ho]
    ·exact bI rows k j q
   ·split at h
    ·exact bI rows k j (List.mem_of_mem_tail h)
    ·exact bI rows k j h
  ·exact bI rows k j h
theorem bS (rows:List Row):∀ k,(stk rows k).Nodup
 | 0=>List.nodup_nil
 | k+1=>by
  simp only [j4]
  split
  ·unfold stp
   split
   ·exact List.nodup_cons.mpr ⟨fun h=>absurd (eX rows k k h) (Nat.lt_irrefl _),(bS rows k)⟩
   ·split
    ·exact (bS rows k).sublist (List.tail_sublist _)
    ·exact (bS rows k)
  ·exact (bS rows k)
theorem eb (rows:List Row) {j k:Nat} (hj:j < k) (h:j ∉ stk rows k):∀ i,j ∉ stk rows (k+i)
 | 0=>h
 | i+1=>by
  rw [show k+(i+1)=(k+i)+1 by exact Eq.refl (k+(i+1))]
  simp only [j4]
  split
  ·unfold stp
   split
   ·intro q
    rcases List.mem_cons.mp q with q | q
    ·lia
    ·exact (eb rows hj h i) q
   ·split
    ·exact fun q=>(eb rows hj h i) (List.mem_of_mem_tail q)
    ·exact (eb rows hj h i)
  ·exact (eb rows hj h i)
theorem b0 {rows:List Row} {k j:Nat} (h:home rows k=(j:Int)):j ∈ stk rows k:=by
 unfold home at h
 cases q:stk rows k with
 | nil=>rw [q] at h;simp only [rj] at h;lia
 | cons x l=>rw [q] at h;simp only [gr,Int.natCast_inj] at h;exact h ▸ (.head _)
theorem bT {rows:List Row} {k j:Nat} (h:home rows k=(j:Int)):j < k:=eX rows k j (b0 h)
theorem n5 (rows:List Row) (k:Nat):home rows k = -1∨∃ j:Nat,home rows k=j∧j < k:=by
 cases q:stk rows k with
 | nil=>exact .inl (by simp only [home,q,rj])
 | cons x l=>exact .inr ⟨x,by simp only [home,q,gr],eX rows k x (by rw [q];exact .head _)⟩
theorem kX {rows:List Row} {j k k':Nat} (h:isAt rows Row.isFin k=true) (e:home rows k=(j:Int)) (e':home rows k'=(j:Int)) (hk:k < k'):False:=by
 have hm:=b0 e
 obtain ⟨r,hr,hf⟩:∃ r,rows[k]?=some r∧r.isFin=true:=by
  unfold isAt at h
  cases q:rows[k]? with
  | none=>rw [q] at h;simp at h
  | some r=>rw [q] at h;exact ⟨r,rfl,by simpa using h⟩
 have ho:r.isOpen=false:=by cases r<;>first | rfl | cases hf
 have hs:stk rows (k+1)=(stk rows k).tail:=by rw [a9 hr];simp [stp,ho,hf]
 have:=eb rows (j:=j) (k:=k+1) (by have:=bT e;(exact Nat.le.step this)) (by
  rw [hs]
  have nd:=bS rows k
  unfold home at e
  cases q:stk rows k with
  | nil=>rw [q] at hm;cases hm
  | cons x l=>
   rw [q] at e nd
   simp only [gr,Int.natCast_inj] at e
   subst e
   exact (List.nodup_cons.mp nd).1) (k' - (k+1))
 rw [show k+1+(k' - (k+1))=k' by grind] at this
 exact this (b0 e')
noncomputable def endAt (rows:List Row) (j:Nat):Nat→Int
 | 0=>-1
 | k+1=>if isAt rows Row.isFin k=true∧home rows k=(j:Int) then k else endAt rows j k
theorem gT (rows:List Row) (j:Nat) (n:Nat):endAt rows j (n+1)=if isAt rows Row.isFin n=true∧home rows n = ↑j then ↑n else endAt rows j n:=rfl
noncomputable def endL (rows:List Row):List Int:=(List.range rows.length).map fun j=>endAt rows j rows.length
set_option tactic.hygienic true in
theorem fe {rows:List Row} {j k:Nat} (h:isAt rows Row.isFin k=true) (e:home rows k=(j:Int)):∀ n,k < n→endAt rows j n=k
 | 0,q=>by lia
 | n+1,q=>by
  simp only [gT]
  split
  ·rename_i h2
   by_cases hk:k=n
   ·rw [hk]
   ·exact (kX h e h2.2 (by lia)).elim
  ·rename_i h2
   have:k ≠ n:=by rintro rfl;exact h2 ⟨h,e⟩
   exact fe h e n (by lia)
theorem kY {rows:List Row} {j:Nat}:∀ n,(∀ k,k < n→¬ (isAt rows Row.isFin k=true∧home rows k=(j:Int)))→endAt rows j n = -1
 | 0,_=>rfl
 | n+1,h=>by
  simp only [gT]
  exact (if_neg (h n (by exact Nat.succ_le_of_lt (Nat.lt_succ_self n)))).trans (kY n fun k hk=>h k (by exact Nat.le.step hk))
noncomputable def vX (rows:List Row) (j:Nat):Int:=
 match (List.range' (j+1) (rows.length - (j+1))).find? fun k=>home rows k == (j:Int)&&isAt rows Row.isFin k with
 | some k=>k
 | none=>-1
noncomputable def startL (rows:List Row) (j:Nat):List Int:=((j:Int)+1)::((List.range rows.length).filter fun k=>isAt rows Row.isOr k&&home rows k == (j:Int)).map fun (k:Nat)=>(k:Int)+1
noncomputable def j5 (rows:List Row) (j:Nat):List Int:=((j:Int)+1)::((List.range' (j+1) (rows.length - (j+1))).filter fun k=>home rows k == (j:Int)&&isAt rows Row.isOr k).map fun (k:Nat)=>(k:Int)+1
theorem n6 (rows:List Row) (j:Nat) (hj:j < rows.length):j5 rows j=startL rows j:=by
 unfold startL j5
 congr 2
 have:List.range rows.length=List.range (j+1)++List.range' (j+1) (rows.length - (j+1)):=by
  have h:=List.range'_append_1 (s:=0) (m:=j+1) (n:=rows.length - (j+1))
  rw [Nat.zero_add,show j+1+(rows.length - (j+1))=rows.length by grind] at h
  rw [List.range_eq_range',List.range_eq_range',h]
 rw [this,List.filter_append]
 have h1:(List.range (j+1)).filter (fun k=>isAt rows Row.isOr k&&home rows k == (j:Int))=[]:=by
  rw [List.filter_eq_nil_iff]
  intro k hk q
  simp only [Bool.and_eq_true,beq_iff_eq] at q
  have:=bT q.2
  rw [List.mem_range] at hk
  lia
 rw [h1,List.nil_append]
 congr 1
 funext k
 rw [Bool.and_comm]
end Mine
set_option tactic.hygienic false
namespace Mine
open PySem
section
variable {Φ:Str→List D→Option D} {Γ:Str→Option D} {m:St} {ow:List Nat} {fr:Bool} {N:Nat}
theorem fN {i j:Nat} {it:It} {body:Sms} {items:List (List D)} (I:Nat→St→Prop) (hi:evIt Φ Γ it m=some items) (hz:cm it=false) (h0:I 0 m)
 (hs:∀ (k:Nat) (vs:List D) (m:St),items[k]?=some vs→I k m→∃ x y,vs=[x,y]∧Go (exSs Φ Γ ow fr N body ((m.set i (some x)).set j (some y))) (I (k+1))):Go (exS Φ Γ ow fr N (.for2 i j it body) m) (I items.length):=by
 rw [mq,hi,bX,hz,if_neg Bool.false_ne_true]
 obtain ⟨m',e,h⟩:=kN (b:=fun vs m=>match vs with | [x,y]=>exSs Φ Γ ow fr N body (setV (setV m i x) j y) | _=>none) I items 0 m h0 fun k vs m hk hI=>by
  rw [Nat.zero_add] at hI
  obtain ⟨x,y,rfl,m',e,h⟩:=hs k vs m hk hI
  exact ⟨m',e,by rw [Nat.zero_add];exact h⟩
 rw [Nat.zero_add] at h
 exact ⟨m',e,h⟩
theorem fg:∀ (xs:List D) (a k:Nat),(cA a xs)[k]?=(xs[k]?).map fun x=>[.int ((a+k:Nat):Int),x]
 | [],_,_=>by rfl
 | x::xs,a,0=>by rfl
 | x::xs,a,k+1=>by
  simp only [gv,gX]
  rw [fg xs (a+1) k,show a+1+k=a+(k+1) by lia]
theorem bJ:∀ (xs:List D) (a:Nat),(cA a xs).length=xs.length:=by
 intro xs
 induction xs with
 | nil=>
  intro _
  exact rfl
 | cons _ xs bJ=>
  intro a
  simp only [gv,List.length_cons,bJ]
theorem eJ {e:Ex} {xs:List D} (h:evE Φ Γ e m=some (.list xs)):evIt Φ Γ (.enum e) m=some (cA 0 xs):=by rw [mr,h];rfl
theorem iY {a b:Ex} {p q:Nat} (h1:evE Φ Γ a m=some (.int p)) (h2:evE Φ Γ b m=some (.int q)) (hp:p≤2 ^ 20) (hq:q≤2 ^ 20):evIt Φ Γ (.range2 a b) m=some ((List.range' p (q - p)).map fun (i:Nat)=>[PyData.int i]):=by
 have key:∀ (k:Nat) (a:Nat),one (bY (a:Int) k)=(List.range' a k).map fun (i:Nat)=>[PyData.int i]:=by
  intro k
  induction k with
  | zero=>intro a;rfl
  | succ k ih=>
   intro a
   have:=ih (a+1)
   simp only [one,dN,List.map_cons,List.range'_succ] at this ⊢
   rw [← this]
   rfl
 rw [io,h1,h2]
 show (if (p:Int).natAbs≤2 ^ 20∧(q:Int).natAbs≤2 ^ 20 then some (one (bY (p:Int) ((q:Int) - p).toNat)) else none)=_
 rw [if_pos ⟨by exact hp,by exact hq⟩]
 have:=key (q - p) p
 rw [show ((q:Int) - (p:Int)).toNat=q - p by lia]
 exact congrArg some this
theorem ec {b:List D→St→Option (Fl × St)} {I:St→Prop}:∀ (items:List (List D)) (p:Nat→Bool) (f:Nat→D) (m:St),I m→(∀ (k:Nat) (vs:List D) (m:St),items[k]?=some vs→I m→(p k=true→Rt (b vs m) (f k))∧(p k=false→Go (b vs m) I)) →
 (∃ k,k < items.length∧p k=true∧(∀ j,j < k→p j=false)∧Rt (forL b items m) (f k))∨((∀ k,k < items.length→p k=false)∧Go (forL b items m) I):=by
 intro items
 induction items with
 | nil=>
  intro p f m h0 _
  exact .inr ⟨fun k h=>by simp at h,m,rfl,h0⟩
 | cons vs items ec=>
  intro p f m h0 hs
  cases hp:p 0 with
  | true=>
   obtain ⟨m',e⟩:=((hs 0 vs m rfl h0).1) hp
   exact .inl ⟨0,by simp,hp,fun j hj=>by lia,m',by simp only [f8,e]⟩
  | false=>
   refine byG fun X_ g_=>?_
   obtain ⟨m',e,hI⟩:=((hs 0 vs m rfl h0).2) hp
   refine g_ ?_
   rcases ec (fun k=>p (k+1)) (fun k=>f (k+1)) m' hI (fun k vs m hk hI=>hs (k+1) vs m (hk) hI) with ⟨k,h1,h2,h3,h4⟩ | ⟨h1,h2⟩
   ·refine .inl ⟨k+1,by simpa using h1,h2,fun j hj=>?_,?_⟩
    ·cases j with
     | zero=>exact hp
     | succ j=>exact h3 j (by exact Nat.le_of_lt_succ hj)
    ·simp only [f8,e];exact h4
   ·refine .inr ⟨fun k hk=>?_,?_⟩
    ·cases k with
     | zero=>exact hp
     | succ k=>exact h1 k (by simpa using hk)
    ·simp only [f8,e];exact h2
theorem iZ {i:Nat} {it:It} {body:Sms} {items:List (List D)} (I:St→Prop) (p:Nat→Bool) (f:Nat→D) (hi:evIt Φ Γ it m=some items) (hz:cm it=false) (h0:I m)
 (hs:∀ (k:Nat) (vs:List D) (m:St),items[k]?=some vs→I m→∃ x,vs=[x]∧(p k=true→Rt (exSs Φ Γ ow fr N body (m.set i (some x))) (f k))∧(p k=false→Go (exSs Φ Γ ow fr N body (m.set i (some x))) I)) :
 (∃ k,k < items.length∧p k=true∧(∀ j,j < k→p j=false)∧Rt (exS Φ Γ ow fr N (.for1 i it body) m) (f k))∨((∀ k,k < items.length→p k=false)∧Go (exS Φ Γ ow fr N (.for1 i it body) m) I):=by
 have hex:exS Φ Γ ow fr N (.for1 i it body) m=forL (fun vs m=>match vs with | [x]=>exSs Φ Γ ow fr N body (setV m i x) | _=>none) items m:=by
  rw [mo,hi,bX,hz,if_neg Bool.false_ne_true]<;>rfl
 rw [hex]
 exact ec items p f m h0 fun k vs m hk hI=>by
  obtain ⟨x,rfl,h1,h2⟩:=hs k vs m hk hI
  exact ⟨h1,h2⟩
theorem eK {i:Nat} {it:It} {body r:Sms} {items:List (List D)} {d:D} (I:St→Prop) (p:Nat→Bool) (f:Nat→D) (hi:evIt Φ Γ it m=some items) (hz:cm it=false) (h0:I m)
 (hs:∀ (k:Nat) (vs:List D) (m:St),items[k]?=some vs→I m→∃ x,vs=[x]∧(p k=true→Rt (exSs Φ Γ ow fr N body (m.set i (some x))) (f k))∧(p k=false→Go (exSs Φ Γ ow fr N body (m.set i (some x))) I))
 (hno:(∀ k,k < items.length→p k=false)→∀ m,I m→Rt (exSs Φ Γ ow fr N r m) d) (hyes:∀ k,k < items.length→p k=true→(∀ j,j < k→p j=false)→f k=d):Rt (exSs Φ Γ ow fr N (.cons (.for1 i it body) r) m) d:=by
 rcases iZ I p f hi hz h0 hs with ⟨k,h1,h2,h3,h4⟩ | ⟨h1,m',h2,h3⟩
 ·rw [← hyes k h1 h2 h3];exact h4.elim fun m' e=>⟨m',dE e⟩
 ·exact bC m' h2 (hno h1 m' h3)
end
theorem lS (l:List Int):(PyData.list (l.map .int)).depth≤32:=by
 have:PyData.depthAll (l.map .int)≤1:=by
  induction l with
  | nil=>decide
  | cons e l ih=>simp [da_c,dp_i];(exact ih)
 simp [dp_l];lia
theorem pW (l:List Int):shp (.list (l.map .int))=true:=by simp [shp,nd_l,cM,lS]
theorem pX (l:List Int):pyEq (.list (l.map .int)) (.list [])=some l.isEmpty:=by
 have h:shp (.list [])=true:=rfl
 simp only [pyEq,pW,h,Bool.and_self,Bool.or_true,if_true,qv_l]
 cases l<;>rfl
end Mine
set_option tactic.hygienic false
namespace Mine
open PySem
theorem fO (rows:List Row):∀ k,(stk rows k).length≤k
 | 0=>Nat.le_refl _
 | k+1=>by
  have ih:=fO rows k
  simp only [j4]
  split
  ·unfold stp
   split
   ·simpa using ih
   ·split
    ·simp only [List.length_tail];omega
    ·(exact Nat.le.step ih)
  ·(exact Nat.le.step ih)
noncomputable def opT:D:=.tuple [.str "lend",.str "pick",.str "either",.str "again"]
noncomputable def stI (l:List Nat):List Int:=l.reverse.map fun (n:Nat)=>(n:Int)
theorem ee (k:Nat) (l:List Nat):stI (k::l)=stI l++[(k:Int)]:=by simp [stI]
theorem pY (x:Nat) (l:List Nat):(stI (x::l)).getLast?=some (x:Int):=by simp [stI]
theorem pZ (l:List Nat):(stI l).dropLast=stI l.tail:=by
 cases l with
 | nil=>rfl
 | cons x l=>rw [ee,List.dropLast_concat];rfl
theorem i5 (l:List Nat):(stI l).isEmpty=l.isEmpty:=by cases l<;>simp [stI]
theorem kZ {rows:List Row} {k:Nat} {vs:List D} (h:(cA 0 (rows.map Row.d))[k]?=some vs):∃ x,rows[k]?=some x∧vs=[.int (k:Int),x.d]:=by
 rw [fg,List.getElem?_map] at h
 cases q:rows[k]? with
 | none=>rw [q] at h;simp at h
 | some x=>rw [q] at h;simp at h;exact ⟨x,rfl,h.symm⟩
theorem bq {α:Type} (f:Nat→α) (k:Nat):(List.range (k+1)).map f=(List.range k).map f++[f k]:=by rw [List.range_succ,List.map_append];rfl
theorem n7 (l:List Int):flat (.list (l.map .int))=true:=by simp only [fl_l,bz]
theorem aV {rows:List Row} {k:Nat} {x:Row} (h:rows[k]?=some x):item (.list (rows.map Row.d)) (.int (k:Int))=some x.d:=by
 have hk:k < rows.length:=(List.getElem?_eq_some_iff.mp h).1
 exact p_mk (k:=k) (by have:=aW (n:=rows.length) (i:=(k:Int)) (by exact Int.ofNat_le.mpr (Nat.zero_le k)) (by exact Int.ofNat_lt.mpr hk);simpa using this) (by rw [List.getElem?_map,h];rfl)
theorem bK {l:List Int} {k:Nat} {x:Int} (h:l[k]?=some x):item (.list (l.map .int)) (.int (k:Int))=some (.int x):=by
 have hk:k < l.length:=(List.getElem?_eq_some_iff.mp h).1
 exact p_mk (k:=k) (by have:=aW (n:=l.length) (i:=(k:Int)) (by exact Int.ofNat_le.mpr (Nat.zero_le k)) (by exact Int.ofNat_lt.mpr hk);simpa using this) (by rw [List.getElem?_map,h];rfl)
theorem bU {rows:List Row} {k:Nat} (h:k < rows.length):(homeL rows)[k]?=some (home rows k):=by
 unfold homeL;rw [List.getElem?_map,List.getElem?_range h];rfl
theorem aG {rows:List Row} {k:Nat} {x:Row} (h:rows[k]?=some x) (p:Row→Bool):isAt rows p k=p x:=by simp [isAt,h]
section
variable (Φ:Str→List D→Option D) (Γ:Str→Option D) (N:Nat)
theorem sU (l:List Nat) (h:l.isEmpty=false):item (.list ((stI l).map .int)) (.int (-1))=some (.int (topI l)):=by
 cases l with
 | nil=>cases h
 | cons x l=>rw [jY,List.getLast?_map,pY];rfl
theorem n9 (rows:List Row) (hl:rows.length≤5000) (hn:∀ k r,rows[k]?=some r→r.isFin=true→stk rows k ≠ []) :
 runFn Φ Γ N fn_law_homes [.list (rows.map Row.d)]=some (.list ((homeL rows).map .int)):=by
 refine aq [some (.list (rows.map Row.d)),none,none,none,none] rfl rfl ?_
 dsimp only [fn_law_homes]
 refine a7 (.list []) rfl rfl (a7 (.list ([-1].map .int)) rfl rfl ?_)
 refine aQ (fN (items:=cA 0 (rows.map Row.d)) (fun k m=>∃ x3 x4,k≤rows.length∧m=[some (.list (rows.map Row.d)),some (.list (((List.range k).map (home rows)).map .int)),some (.list ((-1::stI (stk rows k)).map .int)),x3,x4]) (eJ (rfl)) rfl ⟨none,none,Nat.zero_le _,rfl⟩ (fun k vs m hk hI=>?_)) ?_
 ·obtain ⟨x3,x4,hkl,rfl⟩:=hI
  obtain ⟨x,hx,rfl⟩:=kZ hk
  refine ⟨_,_,rfl,?_⟩
  simp only [sX,sN]
  have hfl:((List.range k).map (home rows)).length≤5000:=by simp only [lX,List.length_range];lia
  have hsl:(stI (stk rows k)).length≤5000:=by
   have h2:=fO rows k
   simp only [stI,lX,List.length_reverse]
   lia
  refine bv (xs:=((List.range k).map (home rows)).map .int) (d:=.int (home rows k)) rfl ?_ rfl (by rw [lX];lia) ?_
  ·simp only [x_v,gn,bd,gX,gN,bX]
   exact (by
    unfold home
    cases stk rows k with
    | nil=>rfl
    | cons y l=>rw [jY,List.getLast?_map,ee,← List.cons_append,List.getLast?_concat];rfl)
  have e1:((List.range k).map (home rows)).map PyData.int++[.int (home rows k)]=((List.range (k+1)).map (home rows)).map .int:=by rw [bq];simp
  rw [e1]
  simp only [sX,sN]
  refine ap (aK (Q:=fun m=>m=[some (.list (rows.map Row.d)),some (.list (((List.range (k+1)).map (home rows)).map .int)),some (.list ((-1::stI (if x.isOpen then k::stk rows k else stk rows k)).map .int)),some (.int (k:Int)),some x.d]) (d:=.bool x.isOpen) ?_ (al _) (fun q=>?_) (fun q=>?_)) ?_
  ·exact aj (ad rfl rfl (Row.i0 x)) (aS (esC rfl (esC rfl (esC rfl (esC rfl es0))))) (jW x)
  ·refine bv (xs:=(-1::stI (stk rows k)).map .int) (d:=.int (k:Int)) rfl rfl rfl (by rw [lX,List.length_cons];lia) (ah ?_)
   rw [if_pos q,ee];simp
  ·exact ah (by rw [q];rfl)
  rintro _ rfl
  refine ap (aK (Q:=fun m=>m=[some (.list (rows.map Row.d)),some (.list (((List.range (k+1)).map (home rows)).map .int)),some (.list ((-1::stI (stk rows (k+1))).map .int)),some (.int (k:Int)),some x.d]) (d:=.bool x.isFin) ?_ (al _) (fun q2=>?_) (fun q2=>?_)) fun m e=>ah ⟨_,_,by exact ((List.getElem?_eq_some_iff.mp hx).1),e⟩
  ·exact aj (ad rfl rfl (Row.i0 x)) rfl (congrArg some (eH x))
  ·have q:x.isOpen=false:=by cases x<;>first | rfl | cases q2
   rw [q]
   refine kU (xs:=(-1::stI (stk rows k)).map .int) rfl rfl (ah ?_)
   have:=hn k x hx q2
   rw [a9 hx,stp,q,q2,← List.map_dropLast]
   cases q3:stk rows k with
   | nil=>exact absurd q3 this
   | cons y l=>rw [ee,← List.cons_append,List.dropLast_concat];rfl
  ·refine ah ?_
   rw [a9 hx,stp,q2]
   cases x.isOpen<;>rfl
 ·rintro _ ⟨x3,x4,_,rfl⟩
  rw [bJ,lX]
  exact af rfl rfl
end
end Mine
set_option tactic.hygienic false
namespace Mine
open PySem
section
variable (Φ:Str→List D→Option D) (Γ:Str→Option D) (N:Nat)
theorem fP (p:Nat→Bool) (a k:Nat):(List.range' a (k+1)).filter p=(List.range' a k).filter p++(if p (a+k) then [a+k] else []):=by
 rw [List.range'_concat,List.filter_append]
 simp only [Nat.one_mul]
 rw [List.filter_cons,List.filter_nil]
theorem lb (p:Nat→Bool) (a k:Nat):((List.range' a k).filter p).length≤k:=Nat.le_trans (List.length_filter_le _ _) (by simp)
theorem oa (rows:List Row) (hl:rows.length≤5000) (j:Nat) (hj:j < rows.length) :
 runFn Φ Γ N fn_law_starts [.list (rows.map Row.d),.list ((homeL rows).map .int),.int (j:Int)]=some (.list ((startL rows j).map .int)):=by
 rw [← n6 rows j hj]
 refine aq [some (.list (rows.map Row.d)),some (.list ((homeL rows).map .int)),some (.int (j:Int)),none,none] rfl rfl ?_
 dsimp only [fn_law_starts]
 refine a7 (.list [.int ((j:Int)+1)]) rfl rfl ?_
 refine aQ (b8 (fun k m=>∃ x4,m=[some (.list (rows.map Row.d)),some (.list ((homeL rows).map .int)),some (.int (j:Int)),some (.list ((((j:Int)+1)::((List.range' (j+1) k).filter fun k=>home rows k == (j:Int)&&isAt rows Row.isOr k).map fun (k:Nat)=>(k:Int)+1).map .int)),x4]) (iY (p:=j+1) (q:=rows.length) (rfl) (aT rfl (lenL rows)) (by lia) (by lia)) rfl ⟨none,rfl⟩ (fun k vs m hk hI=>?_)) ?_
 ·obtain ⟨x4,rfl⟩:=hI
  rw [List.getElem?_map] at hk
  obtain ⟨i,hi,rfl⟩:=Option.map_eq_some_iff.mp hk
  obtain ⟨hi1,hi2⟩:=List.getElem?_eq_some_iff.mp hi
  simp only [List.length_range'] at hi1
  simp only [List.getElem_range',Nat.one_mul] at hi2
  have hlt:j+1+k < rows.length:=by lia
  obtain ⟨x,hx⟩:∃ x,rows[j+1+k]?=some x:=⟨rows[j+1+k],List.getElem?_eq_getElem hlt⟩
  subst hi2
  refine ⟨_,rfl,?_⟩
  simp only [sX,sN]
  have hfl:=lb (fun k=>home rows k == (j:Int)&&isAt rows Row.isOr k) (j+1) k
  refine ap (aK (Q:=fun m=>m=[some (.list (rows.map Row.d)),some (.list ((homeL rows).map .int)),some (.int (j:Int)),some (.list ((((j:Int)+1)::((List.range' (j+1) (k+1)).filter fun k=>home rows k == (j:Int)&&isAt rows Row.isOr k).map fun (k:Nat)=>(k:Int)+1).map .int)),some (.int ((j+1+k:Nat):Int))]) (d:=.bool (home rows (j+1+k) == (j:Int)&&x.isOr)) ?_ (al _) (fun q=>?_) (fun q=>?_)) fun m e=>ah ⟨_,e⟩
  ·refine aH ?_ ?_
   ·exact aj (ad rfl rfl (bK (bU hlt))) rfl (pL (home rows (j+1+k)) ↑j)
   ·exact aj (ad (ad rfl rfl (aV hx)) rfl (Row.i0 x)) rfl (congrArg some (rh x))
  ·refine bv (d:=.int (((j+1+k:Nat):Int)+1)) rfl rfl rfl (by simp only [lX,List.length_cons];lia) (ah ?_)
   rw [(fP (fun k=>home rows k == (j:Int)&&isAt rows Row.isOr k) (j+1) k),aG hx,if_pos q];simp
  ·refine ah ?_
   rw [(fP (fun k=>home rows k == (j:Int)&&isAt rows Row.isOr k) (j+1) k),aG hx,q];simp
 ·refine al1 fun x4=>?_
  refine af ?_ rfl
  simp only [x_v,gX,gN,bX,lX,List.length_range',j5]
theorem sV (rows:List Row) (hl:rows.length≤5000) (j:Nat) (hj:j < rows.length) :
 runFn Φ Γ N fn_law_last [.list (rows.map Row.d),.list ((homeL rows).map .int),.int (j:Int)]=some (.int (endAt rows j rows.length)):=by
 refine aq [some (.list (rows.map Row.d)),some (.list ((homeL rows).map .int)),some (.int (j:Int)),none] rfl rfl ?_
 dsimp only [fn_law_last]
 refine eK (fun m=>∃ x3,m=[some (.list (rows.map Row.d)),some (.list ((homeL rows).map .int)),some (.int (j:Int)),x3]) (fun k=>home rows (j+1+k) == (j:Int)&&isAt rows Row.isFin (j+1+k)) (fun k=>.int ((j+1+k:Nat):Int)) (iY (p:=j+1) (q:=rows.length) (rfl) (aT rfl (lenL rows)) (by lia) (by lia)) rfl ⟨none,rfl⟩ (fun k vs m hk hI=>?_) (fun hno m hI=>?_) (fun k hk hp o_=>?_)
 ·obtain ⟨x3,rfl⟩:=hI
  rw [List.getElem?_map] at hk
  obtain ⟨i,hi,rfl⟩:=Option.map_eq_some_iff.mp hk
  obtain ⟨hi1,hi2⟩:=List.getElem?_eq_some_iff.mp hi
  simp only [List.length_range'] at hi1
  simp only [List.getElem_range',Nat.one_mul] at hi2
  have hlt:j+1+k < rows.length:=by lia
  obtain ⟨x,hx⟩:∃ x,rows[j+1+k]?=some x:=⟨rows[j+1+k],List.getElem?_eq_getElem hlt⟩
  subst hi2
  have hc:evE Φ Γ (.bool true (.cons (.cmp .Eq (.idx (.v 1) (.v 3)) (.v 2)) (.cons (.cmp .Eq (.idx (.idx (.v 0) (.v 3)) (.k (.int 0))) (.k (.str "end"))) .nil))) [some (.list (rows.map Row.d)),some (.list ((homeL rows).map .int)),some (.int (j:Int)),some (.int ((j+1+k:Nat):Int))]=some (.bool (home rows (j+1+k) == (j:Int)&&x.isFin)):=by
   refine aH ?_ ?_
   ·exact aj (ad rfl rfl (bK (bU hlt))) rfl (pL (home rows (j+1+k)) ↑j)
   ·exact aj (ad (ad rfl rfl (aV hx)) rfl (Row.i0 x)) rfl (congrArg some (eH x))
  rw [aG hx]
  refine ⟨_,rfl,fun q=>?_,fun q=>?_⟩
  ·exact am hc (congrArg _ q) (af rfl rfl)
  ·exact ap (aK (Q:=fun m=>m=_) hc (al _) (fun q'=>by rw [q] at q';cases q') (fun o_=>ah rfl)) fun m e=>ah ⟨_,e⟩
 ·obtain ⟨x3,rfl⟩:=hI
  refine af ?_ rfl
  rw [kY]
  ·rfl
  ·intro k hk ⟨q1,q2⟩
   have:=bT q2
   have:=hno (k - (j+1)) (by simp only [lX,List.length_range'];lia)
   rw [show j+1+(k - (j+1))=k by grind,q1,q2] at this
   simp at this
 ·simp only [Bool.and_eq_true,beq_iff_eq] at hp
  simp only [lX,List.length_range'] at hk
  rw [fe hp.2 hp.1 rows.length (by lia)]
end
end Mine
set_option tactic.hygienic false
namespace Mine
open PySem
theorem gU {f:Nat→Int} {n p:Nat} {x:Int}:(((List.range n).map f).map PyData.int).set p (.int x)=((List.range n).map fun j=>if j=p then x else f j).map .int:=by
 apply List.ext_getElem?
 intro i
 rw [List.getElem?_set]
 simp only [List.getElem?_map,lX,List.length_range]
 by_cases hi:p=i
 ·subst hi
  by_cases hp:p < n
  ·simp [hp]
  ·simp [hp]
 ·have:i ≠ p:=fun h=>hi h.symm
  by_cases hp:i < n
  ·simp [hi,hp,this]
  ·simp [hi,hp]
section
variable (Φ:Str→List D→Option D) (Γ:Str→Option D) (N:Nat)
theorem p0 (hΓ:Γ "OPENERS" = some opT) (rows:List Row) (hl:rows.length≤5000) (hn:∀ k r,rows[k]?=some r→r.isFin=true→stk rows k ≠ []) :
 runFn Φ Γ N fnhomes [.list (rows.map Row.d)]=some (.list ((homeL rows).map .int)):=by
 refine aq [some (.list (rows.map Row.d)),none,none,none,none] rfl rfl ?_
 dsimp only [fnhomes]
 refine a7 (.list []) rfl rfl (a7 (.list []) rfl rfl ?_)
 refine aQ (fN (items:=cA 0 (rows.map Row.d)) (fun k m=>∃ x3 x4,k≤rows.length∧m=[some (.list (rows.map Row.d)),some (.list ((stI (stk rows k)).map .int)),some (.list (((List.range k).map (home rows)).map .int)),x3,x4]) (eJ (rfl)) rfl ⟨none,none,Nat.zero_le _,rfl⟩ (fun k vs m hk hI=>?_)) ?_
 ·obtain ⟨x3,x4,hkl,rfl⟩:=hI
  obtain ⟨x,hx,rfl⟩:=kZ hk
  refine ⟨_,_,rfl,?_⟩
  simp only [sX,sN]
  have hfl:((List.range k).map (home rows)).length≤5000:=by simp only [lX,List.length_range];lia
  have hsl:(stI (stk rows k)).length≤5000:=by
   have h2:=fO rows k
   simp only [stI,lX,List.length_reverse]
   lia
  refine ap (aK (Q:=fun m=>m=[some (.list (rows.map Row.d)),some (.list ((stI (stk rows k)).map .int)),some (.list (((List.range (k+1)).map (home rows)).map .int)),some (.int (k:Int)),some x.d]) (d:=.bool (stk rows k).isEmpty) ?_ (al _) (fun q=>?_) (fun q=>?_)) ?_
  ·simp only [x_v,ik,dP,aF,gX,gN,bX,mX,v_eq,pX,i5]
  ·refine bv (xs:=((List.range k).map (home rows)).map .int) (d:=.int (-1)) rfl rfl rfl (by rw [lX];lia) (ah ?_)
   rw [bq]
   have:home rows k = -1:=by unfold home;rw [List.isEmpty_iff.mp q];rfl
   simp [this]
  ·refine bv (xs:=((List.range k).map (home rows)).map .int) (d:=.int (home rows k)) rfl ?_ rfl (by rw [lX];lia) (ah ?_)
   ·simp only [x_v,gn,bd,gX,gN,bX]
    exact sU _ q
   ·rw [bq];simp
  rintro _ rfl
  refine ap (aK (Q:=fun m=>m=[some (.list (rows.map Row.d)),some (.list ((stI (stk rows (k+1))).map .int)),some (.list (((List.range (k+1)).map (home rows)).map .int)),some (.int (k:Int)),some x.d]) (d:=.bool x.isOpen) ?_ (al _) (fun q=>?_) (fun q=>?_)) fun m e=>ah ⟨_,_,by exact ((List.getElem?_eq_some_iff.mp hx).1),e⟩
  ·exact aj (ad rfl rfl (Row.i0 x)) hΓ (kS x)
  ·refine bv (xs:=(stI (stk rows k)).map .int) (d:=.int (k:Int)) rfl rfl rfl (by rw [lX];lia) (ah ?_)
   rw [a9 hx,stp,if_pos q,ee];simp
  ·refine ap (aK (Q:=fun m=>m=[some (.list (rows.map Row.d)),some (.list ((stI (stk rows (k+1))).map .int)),some (.list (((List.range (k+1)).map (home rows)).map .int)),some (.int (k:Int)),some x.d]) (d:=.bool x.isFin) ?_ (al _) (fun q2=>?_) (fun q2=>?_)) fun m e=>ah e
   ·exact aj (ad rfl rfl (Row.i0 x)) rfl (congrArg some (eH x))
   ·refine kU (xs:=(stI (stk rows k)).map .int) rfl ?_ (ah ?_)
    ·have:=hn k x hx q2
     rw [List.isEmpty_map,i5]
     cases q3:stk rows k with
     | nil=>exact absurd q3 this
     | cons=>rfl
    ·rw [a9 hx,stp,q,q2,← List.map_dropLast,pZ];rfl
   ·refine ah ?_
    rw [a9 hx,stp,q,q2];rfl
 ·rintro _ ⟨x3,x4,_,rfl⟩
  rw [bJ,lX]
  refine af rfl ?_
  exact nQ rfl (bz _)
theorem sW (rows:List Row) (hl:rows.length≤5000) (hn:∀ k r,rows[k]?=some r→r.isFin=true→stk rows k ≠ []) (hh:Φ "homes" [.list (rows.map Row.d)]=some (.list ((homeL rows).map .int))) :
 runFn Φ Γ N fnends [.list (rows.map Row.d)]=some (.list ((endL rows).map .int)):=by
 refine aq [some (.list (rows.map Row.d)),none,none,none,none] rfl rfl ?_
 dsimp only [fnends]
 refine ak (.list ((homeL rows).map .int)) (ai (esC rfl es0) hh) rfl ?_
 have hrep:repL [PyData.int (-1)] rows.length=((List.range rows.length).map fun j=>endAt rows j 0).map .int:=by
  have:∀ n,repL [PyData.int (-1)] n=((List.range n).map fun j=>endAt rows j 0).map .int:=by
   intro n
   induction n with
   | zero=>rfl
   | succ n ih=>
    have hc:∀ n,repL [PyData.int (-1)] (n+1)=repL [PyData.int (-1)] n++[.int (-1)]:=by
     intro n
     induction n with
     | zero=>rfl
     | succ n ih=>rw [f7,ih,← List.append_assoc,show [PyData.int (-1)]++repL [PyData.int (-1)] n=repL [PyData.int (-1)] (n+1) from rfl,ih]
    rw [hc,ih,bq,List.map_append];rfl
  exact this _
 refine a7 (.list (((List.range rows.length).map fun j=>endAt rows j 0).map .int)) ?_ (n7 _) ?_
 ·simp only [x_v,ik,ba,gn,x_b1,aF,ar,cL,sX,sN,gN,bX,mX,lX]
  rw [uE _ _ ⟨by decide,by lia,by exact Int.natCast_nonneg (rows.length+10000)⟩,Int.toNat_natCast,hrep]
 refine aQ (fN (items:=cA 0 (rows.map Row.d)) (fun k m=>∃ x3 x4,k≤rows.length∧m=[some (.list (rows.map Row.d)),some (.list ((homeL rows).map .int)),some (.list (((List.range rows.length).map fun j=>endAt rows j k).map .int)),x3,x4]) (eJ (rfl)) rfl ⟨none,none,Nat.zero_le _,rfl⟩ (fun k vs m hk hI=>?_)) ?_
 ·obtain ⟨x3,x4,hkl,rfl⟩:=hI
  obtain ⟨x,hx,rfl⟩:=kZ hk
  refine ⟨_,_,rfl,?_⟩
  simp only [sX,sN]
  refine ap (aK (Q:=fun m=>m=[some (.list (rows.map Row.d)),some (.list ((homeL rows).map .int)),some (.list (((List.range rows.length).map fun j=>endAt rows j (k+1)).map .int)),some (.int (k:Int)),some x.d]) (d:=.bool x.isFin) ?_ (al _) (fun q=>?_) (fun q=>?_)) fun m e=>ah ⟨_,_,by exact ((List.getElem?_eq_some_iff.mp hx).1),e⟩
  ·exact aj (ad rfl rfl (Row.i0 x)) rfl (congrArg some (eH x))
  ·obtain ⟨j,hj,hjk⟩:∃ j:Nat,home rows k=j∧j < k:=by
    rcases n5 rows k with h | h
    ·have:=hn k x hx q
     unfold home at h
     cases q3:stk rows k with
     | nil=>exact absurd q3 this
     | cons y l=>rw [q3] at h;simp only [gr] at h;lia
    ·exact h
   refine sR (xs:=((List.range rows.length).map fun j=>endAt rows j k).map .int) (n:=(j:Int)) (d:=.int (k:Int)) rfl rfl ?_ rfl ⟨by exact Int.ofNat_le.mpr (Nat.zero_le j),by simp only [lX,List.length_range];lia⟩ (ah ?_)
   ·simp only [x_v,bd,gX,gN,bX]
    rw [← hj]
    exact bK (bU ((List.getElem?_eq_some_iff.mp hx).1))
   ·have hfun:(fun i=>if i=j then (k:Int) else endAt rows i k)=fun i=>endAt rows i (k+1):=by
     funext i
     simp only [gT,aG hx,q,hj,true_and,Int.natCast_inj]
     by_cases hij:i=j
     ·subst hij;rfl
     ·rw [if_neg hij,if_neg (fun h=>hij h.symm)]
    rw [Int.toNat_natCast,gU,hfun];rfl
  ·have hfun:(fun i=>endAt rows i k)=fun i=>endAt rows i (k+1):=by
    funext i
    simp only [gT,aG hx,q,Bool.false_eq_true,false_and,if_false]
   exact hfun ▸ (ah rfl)
 ·rintro _ ⟨x3,x4,_,rfl⟩
  rw [bJ,lX]
  refine af rfl ?_
  exact nQ rfl (bz _)
theorem gV (rows:List Row) (hl:rows.length≤5000) (j:Nat) :
 runFn Φ Γ N fnfirst_rows [.list (rows.map Row.d),.list ((homeL rows).map .int),.int (j:Int)]=some (.list ((startL rows j).map .int)):=by
 refine aq [some (.list (rows.map Row.d)),some (.list ((homeL rows).map .int)),some (.int (j:Int)),none,none] rfl rfl ?_
 dsimp only [fnfirst_rows]
 refine a7 (.list [.int ((j:Int)+1)]) rfl rfl ?_
 refine aQ (b8 (fun k m=>∃ x4,k≤rows.length∧m=[some (.list (rows.map Row.d)),some (.list ((homeL rows).map .int)),some (.int (j:Int)),some (.list ((((j:Int)+1)::((List.range' 0 k).filter fun k=>isAt rows Row.isOr k&&home rows k == (j:Int)).map fun (k:Nat)=>(k:Int)+1).map .int)),x4]) (bH (n:=(rows.length:Int)) (aT rfl (lenL rows)) (by lia)) rfl ⟨none,Nat.zero_le _,rfl⟩ (fun k vs m hk hI=>?_)) ?_
 ·obtain ⟨x4,hkl,rfl⟩:=hI
  rw [List.getElem?_map] at hk
  obtain ⟨i,hi,rfl⟩:=Option.map_eq_some_iff.mp hk
  obtain ⟨hi1,hi2⟩:=List.getElem?_eq_some_iff.mp hi
  simp only [List.length_range,Int.toNat_natCast] at hi1
  simp only [List.getElem_range] at hi2
  subst hi2
  obtain ⟨x,hx⟩:∃ x,rows[k]?=some x:=⟨rows[k],List.getElem?_eq_getElem hi1⟩
  refine ⟨_,rfl,?_⟩
  simp only [sX,sN]
  have hfl:=lb (fun k=>isAt rows Row.isOr k&&home rows k == (j:Int)) 0 k
  have hsn:=fP (fun k=>isAt rows Row.isOr k&&home rows k == (j:Int)) 0 k
  rw [Nat.zero_add] at hsn
  refine ap (aK (Q:=fun m=>m=[some (.list (rows.map Row.d)),some (.list ((homeL rows).map .int)),some (.int (j:Int)),some (.list ((((j:Int)+1)::((List.range' 0 (k+1)).filter fun k=>isAt rows Row.isOr k&&home rows k == (j:Int)).map fun (k:Nat)=>(k:Int)+1).map .int)),some (.int (k:Int))]) (d:=.bool (x.isOr&&home rows k == (j:Int))) ?_ (al _) (fun q=>?_) (fun q=>?_)) fun m e=>ah ⟨_,by exact hi1,e⟩
  ·refine aH ?_ ?_
   ·exact aj (ad (ad rfl rfl (aV hx)) rfl (Row.i0 x)) rfl (congrArg some (rh x))
   ·exact aj (ad rfl rfl (bK (bU hi1))) rfl (pL (home rows k) ↑j)
  ·refine bv (d:=.int ((k:Int)+1)) rfl rfl rfl (by simp only [lX,List.length_cons];lia) (ah ?_)
   rw [hsn,aG hx,if_pos q];simp
  ·refine ah ?_
   rw [hsn,aG hx,q];simp
 ·rintro _ ⟨x4,_,rfl⟩
  refine af ?_ rfl
  simp only [x_v,gX,gN,bX,lX,List.length_range',Int.toNat_natCast,startL,List.range_eq_range']
end
end Mine
set_option tactic.hygienic false
namespace Mine
open PySem
noncomputable def push (r:Row) (os:List Row):List Row:=if r.isOpen then r::os else if r.isFin then os.tail else os
noncomputable def dI (os:List Row) (w:Str):Prop:=w ≠ Str.ofString "" ∧ ∀ x ∈ os,x.isNamed=true→x.word ≠ w
noncomputable def V (os:List Row):Row→Prop
 | .lend w wr s=>dI os w∧(match s with
  | .th _=>True
  | .hd u=>∃ x ∈ os,x.isNamed=true∧x.word=u∧(x.isLend=true→x.wr=false→wr=false))
 | .pick w ts=>dI os w∧ts ≠ []∧ts.length≤5
 | .either=>True
 | .again=>True
 | .orr=>os.head?.any Row.isEither=true
 | .fin=>os ≠ []
 | .deed v w=>∃ x ∈ os,x.isLend=true∧x.word=w∧(v = .change→x.wr=true)
theorem V_7 (os:List Row):V os Row.fin=(os ≠ []):=rfl
noncomputable def WfR:List Row→List Row→Prop
 | _,[]=>True
 | os,r::rs=>V os r∧WfR (push r os) rs
noncomputable def after:List Row→List Row→List Row
 | os,[]=>os
 | os,r::rs=>after (push r os) rs
theorem bo:∀ (os a b:List Row),after os (a++b)=after (after os a) b
 | _,[],_=>rfl
 | os,r::a,b=>bo (push r os) a b
theorem ef:∀ (os a b:List Row),WfR os a→WfR (after os a) b→WfR os (a++b)
 | _,[],_,_,h=>h
 | os,r::a,b,h,k=>⟨h.1,ef (push r os) a b h.2 k⟩
noncomputable def eg (r:Dr) (w:Str) (p:Nat):Prop:=∃ a b:Int,w=wordOf a b p r
theorem oc {a b:List Nat} (h:sOf a=sOf b):a=b:=by
 unfold sOf at h
 have:=congrArg (fun x:Str=>x.cps.toList) h
 simpa using this
theorem sY {a b:Int} (h1:0≤a) (h2:0≤b) (h:ltr a=ltr b):a=b:=by unfold ltr at h;lia
theorem gW {r:Dr} (ok:r.Ok) {w:Str} {p q:Nat} (hp:eg r w p) (hq:eg r w q) (p26:p < 26) (q26:q < 26):p=q:=by
 obtain ⟨a,b,rfl⟩:=hp
 obtain ⟨a',b',h⟩:=hq
 have h:=oc h
 unfold iV at h
 split at h
 ·have:=congrArg List.length h
  simp only [List.length_replicate] at this
  lia
 ·have c1:=ok.c1
  have c2:=ok.c2
  have t1:=ok.t1
  have t2:=ok.t2
  have hc:=congrArg (fun l=>l[r.c.toNat]?) h
  simp only [List.getElem?_map] at hc
  rw [List.getElem?_range (by lia)] at hc
  simp only [mX,Option.some.injEq] at hc
  rw [if_pos (by lia),if_pos (by lia)] at hc
  have:=sY (av _ (by decide)) (av _ (by decide)) hc
  rw [Int.fmod_eq_emod_of_nonneg _ (by decide),Int.fmod_eq_emod_of_nonneg _ (by decide)] at this
  lia
theorem uI {r:Dr} (ok:r.Ok) {w:Str} {p:Nat} (hp:eg r w p):w ≠ Str.ofString "" := by
 obtain ⟨a,b,rfl⟩:=hp
 intro h
 have h:iV a b p r=[]:=oc h
 unfold iV at h
 split at h
 ·have:=congrArg List.length h
  simp only [List.length_replicate,List.length_nil] at this
  lia
 ·have:=congrArg List.length h
  simp only [lX,List.length_range,List.length_nil] at this
  have:=ok.z1
  lia
theorem i6 (one two:Int) (named:List Row) (r:Dr):(bA one two named r).word=wordOf one two named.length r:=by
 unfold bA
 split
 ·split<;>rfl
 ·rfl
noncomputable def Nums (r:Dr) (opened:List Row):Prop:=∀ i x,(opened.filter Row.isNamed)[i]?=some x→eg r x.word i
theorem eh {r:Dr} (ok:r.Ok) {opened:List Row} (hn:Nums r opened) (hl:(opened.filter Row.isNamed).length≤23) {w:Str} {p:Nat} (hp:eg r w p) (h1:(opened.filter Row.isNamed).length≤p) (h2:p < 26):dI opened.reverse w:=by
 refine ⟨uI ok hp,fun x hx hxn e=>?_⟩
 obtain ⟨i,hi⟩:=List.getElem?_of_mem (List.mem_filter.mpr ⟨List.mem_reverse.mp hx,hxn⟩)
 have hil:i < (opened.filter Row.isNamed).length:=(List.getElem?_eq_some_iff.mp hi).1
 have:=gW ok (hn i x hi) (e ▸ hp) (by lia) h2
 lia
set_option tactic.hygienic true in
theorem lc {r:Dr} (ok:r.Ok) (one two:Int) (opened:List Row) (hn:Nums r opened) (hl:(opened.filter Row.isNamed).length≤23):V opened.reverse (bA one two (opened.filter Row.isNamed) r):=by
 have hf:dI opened.reverse (wordOf one two (opened.filter Row.isNamed).length r):=eh ok hn hl ⟨one,two,rfl⟩ (Nat.le_refl _) (by lia)
 unfold bA
 split
 ·split
  ·rename_i h hh
   have hm:=List.mem_of_getElem? hh
   rw [List.mem_filter] at hm
   refine ⟨hf,h,List.mem_reverse.mpr hm.1,hm.2,rfl,fun q1 q2=>?_⟩
   rw [q1,q2];rfl
  ·exact ⟨hf,trivial⟩
 ·exact ⟨hf,trivial⟩
set_option tactic.hygienic true in
theorem sZ {r:Dr} (ok:r.Ok) (way one two:Int) (opened:List Row) (hn:Nums r opened) (hl:(opened.filter Row.isNamed).length≤23):V opened.reverse (rowOf way one two opened r):=by
 unfold rowOf
 split
 ·exact lc ok one two opened hn hl
 split
 ·have f1:=av one (b:=5) (by decide)
  have f2:=aB one (b:=5) (by decide)
  refine ⟨eh ok hn hl ⟨one,two,rfl⟩ (Nat.le_refl _) (by lia),fun h=>?_,?_⟩
  ·have:=congrArg List.length h
   simp only [lX,List.length_range,List.length_nil] at this
   lia
  ·simp only [lX,List.length_range];lia
 split
 ·split<;>trivial
 split
 ·rename_i h
  show opened.reverse.head?.any Row.isEither=true
  rw [List.head?_reverse];exact h.2
 split
 ·rename_i h
  unfold dm
  obtain ⟨x,e1,e2,_⟩:=jX (l:=(opened.filter Row.isNamed).filter Row.isLend) two h.2
  rw [e1]
  rw [List.mem_filter,List.mem_filter] at e2
  refine ⟨x,List.mem_reverse.mpr e2.1.1,e2.2,rfl,fun q=>?_⟩
  revert q
  unfold eW
  cases x.wr<;>(repeat' split)<;>simp_all
 split
 ·rename_i h
  show opened.reverse ≠ []
  intro q
  rw [List.reverse_eq_nil_iff] at q
  rw [q] at h;simp at h
 ·exact lc ok one two opened hn hl
theorem od {r:Dr} (way one two:Int) (opened:List Row) (h:(rowOf way one two opened r).isNamed=true):eg r (rowOf way one two opened r).word (opened.filter Row.isNamed).length:=by
 revert h
 unfold rowOf
 split
 ·intro _;rw [i6];exact ⟨_,_,rfl⟩
 split
 ·intro _;exact ⟨_,_,rfl⟩
 split
 ·split<;>(intro h;cases h)
 split
 ·intro h;cases h
 split
 ·unfold dm;split<;>(intro h;cases h)
 split
 ·intro h;cases h
 ·intro _;rw [i6];exact ⟨_,_,rfl⟩
theorem ax {os:List Row} {x:Row} {w:Str} (h:dI os w) (hx:x.word ≠ w):dI (x::os) w:=⟨h.1,fun y hy hn=>(List.mem_cons.mp hy).elim (fun e=>e ▸ hx) fun z=>h.2 y z hn⟩
theorem bD {os:List Row} {w:Str} {q:Bool} {i:Int} (h:dI os w):V os (.lend w q (.th i)):=⟨h,trivial⟩
theorem dJ {os:List Row} {w u:Str} {q:Bool} (h:dI os w) (x:Row) (hx:x ∈ os) (hn:x.isNamed=true) (hu:x.word=u) (hr:x.isLend=true→x.wr=false→q=false):V os (.lend w q (.hd u)):=⟨h,x,hx,hn,hu,hr⟩
theorem bf {os:List Row} {v:Verb} {w:Str} (x:Row) (hx:x ∈ os) (hl:x.isLend=true) (hu:x.word=w) (hv:v ≠ .change):V os (.deed v w):=⟨x,hx,hl,hu,fun e=>absurd e hv⟩
theorem bB {o:Row} {os:List Row}:V (o::os) .fin:=List.cons_ne_nil _ _
theorem uJ {os:List Row} {a b c:Str} (one two th:Int) (fa:dI os a) (fb:dI os b) (fc:dI os c) (ab:a ≠ b) (ac:a ≠ c) (bc:b ≠ c):WfR os (gad one two a b c th)∧after os (gad one two a b c th)=os:=by
 have m0:∀ (x:Row) (l:List Row),x ∈ x::l:=fun x l=>.head l
 have m1:∀ (x y:Row) (l:List Row),x ∈ y::x::l:=fun x y l=>.tail y (.head l)
 have m2:∀ (x y z:Row) (l:List Row),x ∈ y::z::x::l:=fun x y z l=>.tail y (.tail z (.head l))
 have nl:Verb.look ≠ .change:=fun h=>nomatch h
 have nb:Verb.back ≠ .change:=fun h=>nomatch h
 unfold gad cu
 split
 ·split
  ·exact ⟨⟨bD fa,trivial,bf _ (m1 _ _ _) rfl rfl nl,bf _ (m1 _ _ _) rfl rfl nb,bB,bB,trivial⟩,rfl⟩
  split
  ·exact ⟨⟨bD fa,trivial,bf _ (m1 _ _ _) rfl rfl nb,rfl,bf _ (m1 _ _ _) rfl rfl nl,bB,bf _ (m0 _ _) rfl rfl nl,bB,trivial⟩,rfl⟩
  split
  ·have d1:∀ q:Bool,V [.lend c q (.hd b),.lend b true (.hd a),.lend a true (.th th)] (.deed .back (three two a b a))→V ([.lend c q (.hd b),.lend b true (.hd a),.lend a true (.th th)]++os) (.deed .back (three two a b a)):=fun q h=>by
    obtain ⟨x,hx,r⟩:=h
    exact ⟨x,List.mem_append_left _ hx,r⟩
   have d2:∀ q:Bool,V [.lend c q (.hd b),.lend b true (.hd a),.lend a true (.th th)] (.deed .look (three one c c b))→V ([.lend c q (.hd b),.lend b true (.hd a),.lend a true (.th th)]++os) (.deed .look (three one c c b)):=fun q h=>by
    obtain ⟨x,hx,r⟩:=h
    exact ⟨x,List.mem_append_left _ hx,r⟩
   refine ⟨⟨bD fa,dJ (ax fb ab) _ (m0 _ _) rfl rfl (fun o_ h=>nomatch h),dJ (ax (ax fc ac) bc) _ (m0 _ _) rfl rfl (fun o_ h=>nomatch h),d1 _ ?_,d2 _ ?_,bB,bB,bB,trivial⟩,rfl⟩
   ·unfold three
    split
    ·exact bf _ (m2 _ _ _ _) rfl rfl nb
    split
    ·exact bf _ (m1 _ _ _) rfl rfl nb
    ·exact bf _ (m2 _ _ _ _) rfl rfl nb
   ·unfold three
    split
    ·exact bf _ (m0 _ _) rfl rfl nl
    split
    ·exact bf _ (m0 _ _) rfl rfl nl
    ·exact bf _ (m1 _ _ _) rfl rfl nl
  ·exact ⟨⟨bD fa,dJ (ax fb ab) _ (m0 _ _) rfl rfl (fun o_ h=>nomatch h),bD (ax (ax fc ac) bc),trivial,bf _ (m2 _ _ _ _) rfl rfl nb,bB,bB,bB,bB,trivial⟩,rfl⟩
 split
 ·exact ⟨⟨⟨fc,List.cons_ne_nil _ _,Nat.le_refl 5⟩,bD (ax fa ac.symm),dJ (ax (ax fb bc.symm) ab) _ (m1 _ _ _) rfl rfl (fun h=>nomatch h),bB,bB,bB,trivial⟩,rfl⟩
 split
 ·refine ⟨⟨bD fa,dJ (ax fb ab) _ (m0 _ _) rfl rfl (fun o_ h=>nomatch h),trivial,?_,rfl,bf _ (m1 _ _ _) rfl rfl nl,bB,bf _ (m1 _ _ _) rfl rfl nl,bB,bB,trivial⟩,rfl⟩
  cases kd two with
  | true=>exact bf _ (m1 _ _ _) rfl rfl nb
  | false=>exact bf _ (m2 _ _ _ _) rfl rfl nb
 split
 ·exact ⟨⟨bD fa,bD (ax fb ab),bD (ax (ax fc ac) bc),bf _ (m1 _ _ _) rfl rfl nl,bB,bB,bB,trivial⟩,rfl⟩
 split
 ·exact ⟨⟨bD fa,bf _ (m0 _ _) rfl rfl nb,dJ (ax fb ab) _ (m0 _ _) rfl rfl (fun o_ h=>nomatch h),bf _ (m0 _ _) rfl rfl nl,bB,bB,trivial⟩,rfl⟩
 ·exact ⟨⟨⟨fc,List.cons_ne_nil _ _,Nat.le_add_right 2 3⟩,bD (ax fa ac.symm),trivial,bf _ (m1 _ _ _) rfl rfl nb,rfl,bB,dJ (ax (ax fb bc.symm) ab) _ (m1 _ _ _) rfl rfl (fun h=>nomatch h),bf _ (m1 _ _ _) rfl rfl nl,bB,bB,bB,trivial⟩,rfl⟩
end Mine
set_option tactic.hygienic false
namespace Mine
open PySem
set_option tactic.hygienic true in
theorem cj {r:Dr} (ok:r.Ok) (odd:Bool) (most:Int) (c:Nat→Int):∀ k,k≤23→WfR [] (sheetAt odd most r c k).1∧after [] (sheetAt odd most r c k).1=(sheetAt odd most r c k).2.reverse∧Nums r (sheetAt odd most r c k).2
 | 0,_=>⟨trivial,rfl,fun i x h=>by simp [nW] at h⟩
 | k+1,hk=>by
  have h1:=(cj ok odd most c k (by exact Nat.le_of_lt hk)).1;have h2:=(cj ok odd most c k (by exact Nat.le_of_lt hk)).2.1;have h3:=(cj ok odd most c k (by exact Nat.le_of_lt hk)).2.2
  have hlen:=(bR odd most r c k).2
  have hnl:((sheetAt odd most r c k).2.filter Row.isNamed).length≤23:=Nat.le_trans (List.length_filter_le _ _) (by lia)
  simp only [d8,sheetStep]
  split
  ·rename_i hq
   have hd:=hq.2.2
   have na:eg r (wordOf (c (3 * k+1)) (c (3 * k+2)) ((sheetAt odd most r c k).2.filter Row.isNamed).length r) ((sheetAt odd most r c k).2.filter Row.isNamed).length:=⟨_,_,rfl⟩
   have nb:eg r (wordOf (c (3 * k+2)) (c (3 * k+1)) (((sheetAt odd most r c k).2.filter Row.isNamed).length+1) r) (((sheetAt odd most r c k).2.filter Row.isNamed).length+1):=⟨_,_,rfl⟩
   have nc:eg r (wordOf (c (3 * k+1)) (c (3 * k+1)) (((sheetAt odd most r c k).2.filter Row.isNamed).length+2) r) (((sheetAt odd most r c k).2.filter Row.isNamed).length+2):=⟨_,_,rfl⟩
   have g:=uJ (c (3 * k+1)) (c (3 * k+2)) (thingOf (c (3 * k+2)) r.b) (eh ok h3 hnl na (by exact Nat.le_of_lt_succ (Nat.lt_succ_self (List.filter Row.isNamed (sheetAt odd most r c k).snd).length)) (by lia)) (eh ok h3 hnl nb (by exact Nat.le_of_lt (Nat.lt_succ_self (List.filter Row.isNamed (sheetAt odd most r c k).snd).length)) (by lia)) (eh ok h3 hnl nc (by exact Nat.le_of_lt (Nat.le_succ (List.filter Row.isNamed (sheetAt odd most r c k).snd).length.succ)) (by lia))
    (fun e=>by have:=gW ok na (e ▸ nb) (by lia) (by lia);lia) (fun e=>by have:=gW ok na (e ▸ nc) (by lia) (by lia);lia) (fun e=>by have:=gW ok nb (e ▸ nc) (by lia) (by lia);lia)
   refine ⟨ef _ _ _ h1 (by rw [h2];exact g.1),?_,h3⟩
   rw [bo,h2];exact g.2
  ·have hv:=sZ ok ((c (3 * k)).fmod most) (c (3 * k+1)) (c (3 * k+2)) (sheetAt odd most r c k).2 h3 hnl
   have hnum:=od (r:=r) ((c (3 * k)).fmod most) (c (3 * k+1)) (c (3 * k+2)) (sheetAt odd most r c k).2
   generalize rowOf ((c (3 * k)).fmod most) (c (3 * k+1)) (c (3 * k+2)) (sheetAt odd most r c k).2 r=x at hv hnum ⊢
   generalize (sheetAt odd most r c k).2=opened at h2 h3 hv hnum ⊢
   refine ⟨ef _ _ _ h1 (by rw [h2];exact ⟨hv,trivial⟩),?_,?_⟩
   ·rw [bo,h2]
    show push x opened.reverse=_
    unfold push
    split
    ·simp
    ·split
     ·rw [List.tail_reverse]
     ·rfl
   ·split
    ·intro i y hy
     rw [List.filter_append] at hy
     by_cases hi:i < (opened.filter Row.isNamed).length
     ·rw [List.getElem?_append_left hi] at hy
      exact h3 i y hy
     ·rw [List.getElem?_append_right (by exact Nat.le_of_not_lt hi)] at hy
      cases hx:x.isNamed with
      | false=>rw [List.filter_cons,hx] at hy;simp at hy
      | true=>
       rw [List.filter_cons,hx] at hy
       simp only [if_true,List.filter_nil] at hy
       have:i - (opened.filter Row.isNamed).length=0:=by
        rcases Nat.eq_zero_or_pos (i - (opened.filter Row.isNamed).length) with q | q
        ·exact q
        ·rw [List.getElem?_eq_none (by simp;(exact q))] at hy;cases hy
       rw [this] at hy
       simp only [gN,Option.some.injEq] at hy
       subst hy
       exact (show i=(opened.filter Row.isNamed).length by grind) ▸ (hnum hx)
    ·split
     ·intro i y hy
      refine h3 i y ?_
      cases hl:opened.getLast? with
      | none=>
       rw [List.getLast?_eq_none_iff] at hl
       rw [hl] at hy;simp at hy
      | some z=>
       have ho:opened.dropLast++[z]=opened:=by
        have:=List.getLast?_eq_some_iff.mp hl
        obtain ⟨ys,rfl⟩:=this
        simp
       rw [← ho,List.filter_append]
       exact (List.getElem?_append_left ((List.getElem?_eq_some_iff.mp hy).1)).trans hy
     ·exact h3
theorem j6:∀ (l os:List Row),os.length=l.length→WfR os (l.map fun o_=>Row.fin)∧after os (l.map fun o_=>Row.fin)=[]:=by
 intro l
 induction l with
 | nil=>
  intro os h
  exact ⟨trivial,by show os=[];simpa using h⟩
 | cons _ l j6=>
  intro os h
  cases os with
  | nil=>simp at h
  | cons o os=>
   obtain ⟨h1,h2⟩:=j6 os (by simpa using h)
   exact ⟨⟨(by simp [V_7]),h1⟩,h2⟩
theorem s6 (ns:List Int) (most:Int) (h0:0 < most) (h24:most≤24):WfR [] (onceOf ns most)∧after [] (onceOf ns most)=[]:=by
 have hm:=j0 ns most h0
 have h2:=(cj (gq ns) (decide (3 < (cellAt ns 2).fmod 8)) (d9 ((cellAt ns 2).fmod 8)) (fun i=>cellAt ns (3+i)) (manyOf ns most) (by lia)).2.1
 unfold onceOf cw
 obtain ⟨h3,h4⟩:=j6 (sheetAt (decide (3 < (cellAt ns 2).fmod 8)) (d9 ((cellAt ns 2).fmod 8)) (aX ns) (fun i=>cellAt ns (3+i)) (manyOf ns most)).2 (sheetAt (decide (3 < (cellAt ns 2).fmod 8)) (d9 ((cellAt ns 2).fmod 8)) (aX ns) (fun i=>cellAt ns (3+i)) (manyOf ns most)).2.reverse (by simp)
 exact ⟨ef _ _ _ ((cj (gq ns) (decide (3 < (cellAt ns 2).fmod 8)) (d9 ((cellAt ns 2).fmod 8)) (fun i=>cellAt ns (3+i)) (manyOf ns most) (by lia)).1) (by rw [h2];exact h3),by rw [bo,h2];exact h4⟩
theorem p7 (ns:List Int) (most:Int) (h0:0 < most) (h24:most≤24):WfR [] (drawnOf ns most):=by
 obtain ⟨h1,h2⟩:=s6 ns most h0 h24
 unfold drawnOf
 split
 ·exact ef _ _ _ (ef _ _ _ (ef _ _ _ h1 (by rw [h2];exact h1)) (by rw [bo,h2,h2];exact h1)) (by rw [bo,bo,h2,h2,h2];exact h1)
 ·exact h1
noncomputable def ost (rows:List Row) (k:Nat):List Row:=(stk rows k).map fun j=>rows.getD j .fin
theorem i7 (rows:List Row):∀ k,k≤rows.length→ost rows k=after [] (rows.take k)
 | 0,_=>rfl
 | k+1,h=>by
  have ht:rows.take (k+1)=rows.take k++[rows[k]]:=by rw [List.take_add_one,(List.getElem?_eq_getElem (by exact h))];rfl
  rw [ht,bo,← (i7 rows k (by exact Nat.le_of_lt h))]
  show ost rows (k+1)=push rows[k] (ost rows k)
  unfold ost push
  rw [a9 (List.getElem?_eq_getElem (by exact h)),stp]
  split
  ·simp [List.getD,(List.getElem?_eq_getElem (by exact h))]
  ·split
   ·rw [List.map_tail]
   ·rfl
theorem uK:∀ (rows os:List Row),WfR os rows→∀ k r,rows[k]?=some r→V (after os (rows.take k)) r
 | [],_,_,k,r,h=>by simp at h
 | x::rows,os,w,0,r,h=>by simp at h;subst h;exact w.1
 | x::rows,os,w,k+1,r,h=>uK rows (push x os) w.2 k r (by simpa using h)
theorem cP {rows:List Row} (w:WfR [] rows) {k:Nat} {r:Row} (h:rows[k]?=some r):V (ost rows k) r:=by
 rw [i7 rows k (by exact Nat.le_of_lt ((List.getElem?_eq_some_iff.mp h).1))]
 exact uK rows [] w k r h
set_option tactic.hygienic true in
theorem cQ (rows:List Row):∀ k j,j ∈ stk rows k→∃ pre,stk rows k=pre++j::stk rows j
 | 0,j,h=>nomatch h
 | k+1,j,h=>by
  cases hr:rows[k]? with
  | some r=>
   rw [a9 hr] at h ⊢
   unfold stp at h ⊢
   split at h
   ·rename_i ho
    rw [if_pos ho]
    rcases List.mem_cons.mp h with q | q
    ·subst q;exact ⟨[],rfl⟩
    ·obtain ⟨pre,e⟩:=cQ rows k j q
     exact ⟨k::pre,by rw [e];rfl⟩
   ·rename_i ho
    rw [if_neg ho]
    split at h
    ·rename_i hf
     rw [if_pos hf]
     obtain ⟨pre,e⟩:=cQ rows k j (List.mem_of_mem_tail h)
     cases pre with
     | nil=>
      exfalso
      rw [e] at h
      have nd:=bS rows k
      rw [e] at nd
      exact (List.nodup_cons.mp nd).1 h
     | cons p pre=>exact ⟨pre,by rw [e];rfl⟩
    ·rename_i hf
     rw [if_neg hf]
     exact cQ rows k j h
  | none=>
   have he:stk rows (k+1)=stk rows k:=by simp only [j4,hr]
   rw [he] at h ⊢
   exact cQ rows k j h
theorem p8 {rows:List Row} {k j:Nat} (h:home rows k=(j:Int)):stk rows k=j::stk rows j:=by
 obtain ⟨pre,e⟩:=cQ rows k j (b0 h)
 cases pre with
 | nil=>exact e
 | cons p pre=>
  exfalso
  unfold home at h
  rw [e] at h
  simp only [List.cons_append,gr,Int.natCast_inj] at h
  subst h
  have nd:=bS rows k
  rw [e] at nd
  exact (List.nodup_cons.mp nd).1 (by simp)
set_option tactic.hygienic true in
theorem lU {rows:List Row} (hb:Nested rows) {j:Nat} (hj:isAt rows Row.isOpen j=true):∃ k,k < rows.length∧isAt rows Row.isFin k=true∧home rows k=(j:Int):=by
 obtain ⟨r,hr,ho⟩:∃ r,rows[j]?=some r∧r.isOpen=true:=by
  unfold isAt at hj
  cases q:rows[j]? with
  | none=>rw [q] at hj;simp at hj
  | some r=>rw [q] at hj;exact ⟨r,rfl,by simpa using hj⟩
 have hjl:j < rows.length:=(List.getElem?_eq_some_iff.mp hr).1
 have hin:j ∈ stk rows (j+1):=by rw [a9 hr,stp,if_pos ho];exact .head _
 have main:∀ d k,k+d=rows.length→j ∈ stk rows k→∃ k,k < rows.length∧isAt rows Row.isFin k=true∧home rows k=(j:Int):=by
  intro d
  induction d with
  | zero=>
   intro k hk h
   rw [show k=rows.length by exact hk,hb.bal] at h;cases h
  | succ d ih=>
   intro k hk h
   by_cases h2:j ∈ stk rows (k+1)
   ·exact ih (k+1) (by lia) h2
   ·rw [a9 (List.getElem?_eq_getElem (by lia)),stp] at h2
    split at h2
    ·exact absurd (List.mem_cons_of_mem _ h) h2
    ·split at h2
     ·rename_i hf
      refine ⟨k,by lia,by rw [aG (List.getElem?_eq_getElem (by lia))];exact hf,?_⟩
      unfold home
      cases q:stk rows k with
      | nil=>rw [q] at h;cases h
      | cons x l=>
       rw [q] at h h2
       rcases List.mem_cons.mp h with e | e
       ·rw [e];rfl
       ·exact absurd e h2
     ·exact absurd h h2
 exact main (rows.length - (j+1)) (j+1) (by grind) hin
theorem bV {rows:List Row} (hb:Nested rows) {j:Nat} (hj:isAt rows Row.isOpen j=true):∃ k:Nat,endAt rows j rows.length=k∧k < rows.length∧j < k∧isAt rows Row.isFin k=true∧home rows k=(j:Int):=by
 obtain ⟨k,h1,h2,h3⟩:=lU hb hj
 exact ⟨k,fe h2 h3 _ h1,h1,bT h3,h2,h3⟩
end Mine
set_option tactic.hygienic false
namespace Mine
open PySem
theorem En.idx0 (e:En):item e.d (.int 0)=some (.str e.w):=rfl
theorem En.idx1 (e:En):item e.d (.int 1)=some (.str e.k):=rfl
theorem En.idx2 (e:En):item e.d (.int 2)=some (.int e.t):=rfl
theorem En.idx3 (e:En):item e.d (.int 3)=some (.str e.s):=rfl
theorem En.idx4 (e:En):item e.d (.int 4)=some (.bool e.o):=rfl
theorem rk (x y:Str):bm .Eq (.str x) (.str y)=some (x == y):=rfl
theorem oe (x y:Str):bm .NotEq (.str x) (.str y)=some (!(x == y)):=rfl
theorem uL (x y:Int):bm .Eq (.int x) (.int y)=some (x == y):=rfl
theorem gt_int (x y:Int):bm .Gt (.int x) (.int y)=some (decide (y < x)):=rfl
theorem i8 (Φ:Str→List D→Option D) (Γ:Str→Option D) (N:Nat) (es:List En) (w:Str) (hl:es.length≤1000):runFn Φ Γ N fnis_asleep [.tuple (es.map En.d),.str w]=some (.bool (asleep es w)):=by
 refine dG [some (.tuple (es.map En.d)),some (.str w)] rfl rfl (m':=[some (.tuple (es.map En.d)),some (.str w)]) ?_
 refine dE (d6 ?_ rfl)
 rw [x_b1,bZ es (fun e=>[e.d]) (fun e=>.bool (e.s == w&&e.o)) (cK (rfl)) (by lia) rfl fun e o_=>?_]
 ·simp only [bX,uA,cZ,mX,List.any_map,asleep]
  rfl
 ·exact aH (aj (ad rfl rfl (En.idx3 e)) rfl (rk e.s w)) (ad rfl rfl (En.idx4 e))
noncomputable def awk (es:List En):List En:=es.filter fun e=>!(e.k == Str.ofString "pick")&&(e.o&&!asleep es e.w)
theorem p9 (Φ:Str→List D→Option D) (Γ:Str→Option D) (N:Nat) (h:∀ es w,es.length≤1000→Φ "is_asleep" [.tuple (es.map En.d),.str w]=some (.bool (asleep es w))) (es:List En) (hl:es.length≤1000):runFn Φ Γ N fnawake [.tuple (es.map En.d)]=some (.list ((awk es).map En.d)):=by
 obtain ⟨m',e1,e2⟩:=nJ (Φ:=Φ) (Γ:=Γ) (ow:=[1]) (fr:=true) (N:=N) (i:=2) (it:=.plain (.v 0)) (m:=[some (.tuple (es.map En.d)),some (.list []),none])
  (body:=(.cons (.ite (.bool true (.cons (.cmp .NotEq (.idx (.v 2) (.k (.int 1))) (.k (.str "pick"))) (.cons (.idx (.v 2) (.k (.int 4))) (.cons (.not (.call false "is_asleep" (.cons (.v 0) (.cons (.idx (.v 2) (.k (.int 0))) .nil)))) .nil)))) (.cons (.app 1 (.v 2)) .nil) .nil) .nil))
  (fun k m=>∃ x,m=[some (.tuple (es.map En.d)),some (.list (((es.take k).filter fun e=>!(e.k == Str.ofString "pick")&&(e.o&&!asleep es e.w)).map En.d)),x]) (cK (es:=es) (g:=En.d) (rfl)) rfl ⟨none,by rfl⟩ (fun k vs m hk hI=>by
   obtain ⟨x,rfl⟩:=hI
   rw [List.getElem?_map] at hk
   obtain ⟨e,he,rfl⟩:=Option.map_eq_some_iff.mp hk
   have hkl:k < es.length:=(List.getElem?_eq_some_iff.mp he).1
   have htk:es.take (k+1)=es.take k++[e]:=by rw [List.take_add_one,he];rfl
   refine ⟨e.d,[some (.tuple (es.map En.d)),some (.list (((es.take (k+1)).filter fun e=>!(e.k == Str.ofString "pick")&&(e.o&&!asleep es e.w)).map En.d)),some e.d],rfl,?_,_,rfl⟩
   simp only [sX,sN]
   rw [aP (m':=[some (.tuple (es.map En.d)),some (.list (((es.take (k+1)).filter fun e=>!(e.k == Str.ofString "pick")&&(e.o&&!asleep es e.w)).map En.d)),some e.d])]
   ·exact eY
   ·rw [y_if (by
     exact gk (aj (ad rfl rfl (En.idx1 e)) rfl (oe e.k (Str.ofString "pick"))) (ad rfl rfl (En.idx4 e)) (d4 (ai (esC rfl (esC (ad rfl rfl (En.idx0 e)) es0)) (h es e.w hl)))) rfl]
    cases hp:(!(e.k == Str.ofString "pick")&&(e.o&&!asleep es e.w)) with
    | true=>
     simp only [if_true]
     rw [aP (ut rfl (d:=e.d) (rfl) rfl (by
      rw [lX]
      have:=List.length_filter_le (fun e:En=>!(e.k == Str.ofString "pick")&&(e.o&&!asleep es e.w)) (es.take k)
      have:=List.length_take_le k es
      lia)),eY]
     simp [htk,hp]
    | false=>
     simp only [Bool.false_eq_true,if_false]
     rw [eY]
     simp [htk,hp])
 obtain ⟨x,rfl⟩:=e2
 refine dG [some (.tuple (es.map En.d)),none,none] rfl rfl (m':=[some (.tuple (es.map En.d)),some (.list ((awk es).map En.d)),x]) ?_
 refine (aP (m':=[some (.tuple (es.map En.d)),some (.list []),none]) (pJ (d:=.list []) (rfl) rfl)).trans ?_
 refine (aP e1).trans ?_
 have hlen:(es.map fun a:En=>[a.d]).length=es.length:=by simp
 rw [hlen,List.take_length]
 refine dE (d6 (d:=.list ((awk es).map En.d)) (rfl) ?_)
 have nl:∀ l:List En,ao (l.map En.d)=true:=by
  intro l
  induction l with
  | nil=>rfl
  | cons e l ih=>trivial
 exact nQ rfl (nl _)
theorem lV:∀ l:List En,ao (l.map En.d)=true:=by
 intro l
 induction l with
 | nil=>rfl
 | cons e l ih=>trivial
noncomputable def lawk (es:List En):List En:=(es.filter fun e=>!(e.k == Str.ofString "pick")&&e.o).filter fun e=>!(((es.filter fun e=>e.o).map fun e=>e.s).any fun y=>y == e.w)
theorem s7 (Φ:Str→List D→Option D) (Γ:Str→Option D) (N:Nat) (es:List En) (hl:es.length≤1000):runFn Φ Γ N fn_law_awake [.tuple (es.map En.d)]=some (.list ((lawk es).map En.d)):=by
 refine dG [some (.tuple (es.map En.d)),none,none] rfl rfl (m':=[some (.tuple (es.map En.d)),some (.list ((es.filter fun e=>e.o).map fun e=>.str e.s)),some (.list ((es.filter fun e=>!(e.k == Str.ofString "pick")&&e.o).map En.d))]) ?_
 refine (aP (m':=[some (.tuple (es.map En.d)),some (.list ((es.filter fun e=>e.o).map fun e=>.str e.s)),none]) (d5 (dF es (fun e=>[e.d]) (fun e=>e.o) (fun e=>.str e.s) (cK (rfl)) (by lia) rfl (fun e o_=>?_) (fun e o_ o_=>?_)) rfl)).trans ?_
 ·exact rfl
 ·exact rfl
 refine (aP (m':=[some (.tuple (es.map En.d)),some (.list ((es.filter fun e=>e.o).map fun e=>.str e.s)),some (.list ((es.filter fun e=>!(e.k == Str.ofString "pick")&&e.o).map En.d))]) (d5 (dF es (fun e=>[e.d]) (fun e=>!(e.k == Str.ofString "pick")&&e.o) En.d (cK (rfl)) (by lia) rfl (fun e o_=>?_) (fun e o_ o_=>?_)) rfl)).trans ?_
 ·exact ev_c (aH (aj (ad rfl rfl (En.idx1 e)) rfl (oe e.k (Str.ofString "pick"))) (ad rfl rfl (En.idx4 e)))
 ·exact rfl
 refine dE (d6 (dF (es.filter fun e=>!(e.k == Str.ofString "pick")&&e.o) (fun e=>[e.d]) (fun e=>!(((es.filter fun e=>e.o).map fun e=>e.s).any fun y=>y == e.w)) En.d (bQ (rfl)) ?_ rfl (fun e o_=>?_) (fun e o_ o_=>?_)) rfl)
 ·have:=List.length_filter_le (fun e:En=>!(e.k == Str.ofString "pick")&&e.o) es
  lia
 ·have hmm:((es.filter fun e=>e.o).map fun e=>PyData.str e.s)=(((es.filter fun e=>e.o).map fun e=>e.s).map PyData.str):=by rw [List.map_map];rfl
  rw [hmm]
  simp only [x_k,x_v,dP,bd,jp,List.cons_append,List.nil_append,List.map_cons,List.map_nil,gX,gN,bX,En.idx0,uu,b9,mX,al]
 ·exact rfl
theorem qa (es:List En):awk es=lawk es:=by
 unfold awk lawk asleep
 rw [List.filter_filter]
 congr 1
 funext e
 simp only [List.any_map,List.any_filter,Function.comp_def]
 have:(es.any fun x=>x.o&&x.s == e.w)=es.any fun x=>x.s == e.w&&x.o:=by congr 1;funext x;rw [Bool.and_comm]
 rw [this]
 cases (!e.k == Str.ofString "pick")<;>cases e.o<;>cases (es.any fun x=>x.s == e.w&&x.o)<;>rfl
end Mine
set_option tactic.hygienic false
namespace Mine
open PySem
section
variable {Φ:Str→List D→Option D} {Γ:Str→Option D} {m:St} {ow:List Nat} {fr:Bool} {N:Nat}
theorem og {i j:Nat} {it:It} {body:Sms} {items:List (List D)} (I:St→Prop) (p:Nat→Bool) (f:Nat→D) (hi:evIt Φ Γ it m=some items) (hz:cm it=false) (h0:I m)
 (hs:∀ (k:Nat) (vs:List D) (m:St),items[k]?=some vs→I m→∃ x y,vs=[x,y]∧(p k=true→Rt (exSs Φ Γ ow fr N body ((m.set i (some x)).set j (some y))) (f k))∧(p k=false→Go (exSs Φ Γ ow fr N body ((m.set i (some x)).set j (some y))) I)) :
 (∃ k,k < items.length∧p k=true∧(∀ j,j < k→p j=false)∧Rt (exS Φ Γ ow fr N (.for2 i j it body) m) (f k))∨((∀ k,k < items.length→p k=false)∧Go (exS Φ Γ ow fr N (.for2 i j it body) m) I):=by
 have hex:exS Φ Γ ow fr N (.for2 i j it body) m=forL (fun vs m=>match vs with | [x,y]=>exSs Φ Γ ow fr N body (setV (setV m i x) j y) | _=>none) items m:=by
  rw [mq,hi,bX,hz,if_neg Bool.false_ne_true]<;>rfl
 rw [hex]
 exact ec items p f m h0 fun k vs m hk hI=>by
  obtain ⟨x,y,rfl,h1,h2⟩:=hs k vs m hk hI
  exact ⟨h1,h2⟩
theorem oh {s:Sm} {r:Sms} {d:D} (h:Rt (exS Φ Γ ow fr N s m) d):Rt (exSs Φ Γ ow fr N (.cons s r) m) d:=h.elim fun m' e=>⟨m',dE e⟩
theorem qb {s:Sm} {n:Nat} {p:Nat→Bool} {f:Nat→D} {I:St→Prop} {d:D} (h:(∃ k,k < n∧p k=true∧(∀ j,j < k→p j=false)∧Rt (exS Φ Γ ow fr N s m) (f k))∨((∀ k,k < n→p k=false)∧Go (exS Φ Γ ow fr N s m) I)) (hf:∀ k,f k=d) :
 (((List.range n).any p=true)→Rt (exSs Φ Γ ow fr N (.cons s .nil) m) d)∧(((List.range n).any p=false)→Go (exSs Φ Γ ow fr N (.cons s .nil) m) I):=by
 rcases h with ⟨k,h1,h2,_,h4⟩ | ⟨h1,h2⟩
 ·refine ⟨fun o_=>oh (((hf k)).symm ▸ h4),fun q=>?_⟩
  have:=List.any_eq_false.mp q k (List.mem_range.mpr h1)
  rw [h2] at this;exact absurd rfl this
 ·refine ⟨fun q=>?_,fun o_=>ap h2 fun m q=>ah q⟩
  obtain ⟨k,hk,q⟩:=List.any_eq_true.mp q
  rw [h1 k (List.mem_range.mp hk)] at q;cases q
end
noncomputable def Row.kindS (x:Row):Str:=if x.isLend then Mine.kindS x.wr else "pick"
structure HeldOk (os:List Row) (held:List En):Prop where
 mt:held.map (fun e=>(e.w,e.k))=((os.filter Row.isNamed).map fun x=>(x.word,x.kindS)).reverse
 pk:∀ e ∈ held,e.k=Str.ofString "pick" → e.o=true∧e.s=Str.ofString ""
 nd:(held.map (·.w)).Nodup
 ne:∀ e ∈ held,e.w ≠ Str.ofString ""
theorem HeldOk.mem {os:List Row} {held:List En} (H:HeldOk os held) {x:Row} (hx:x ∈ os) (hn:x.isNamed=true):∃ e ∈ held,e.w=x.word∧e.k=x.kindS:=by
 have:(x.word,x.kindS) ∈ held.map fun e=>(e.w,e.k):=by
  rw [H.mt,List.mem_reverse]
  exact List.mem_map.mpr ⟨x,List.mem_filter.mpr ⟨hx,hn⟩,rfl⟩
 obtain ⟨e,he,q⟩:=List.mem_map.mp this
 simp only [Prod.mk.injEq] at q
 exact ⟨e,he,q.1,q.2⟩
theorem ei:∀ {held:List En},(held.map (·.w)).Nodup→∀ {e e':En},e ∈ held→e' ∈ held→e.w=e'.w→e=e':=by
 intro held
 induction held with
 | nil=>
  intro _ _ _ h _ _
  exact nomatch h
 | cons x l ei=>
  intro nd e e' h h' q
  rw [List.map_cons,List.nodup_cons] at nd
  rcases List.mem_cons.mp h with h1 | h1
  ·rcases List.mem_cons.mp h' with h2 | h2
   ·rw [h1,h2]
   ·subst h1;exact (nd.1 (List.mem_map.mpr ⟨e',h2,q.symm⟩)).elim
  ·rcases List.mem_cons.mp h' with h2 | h2
   ·subst h2;exact (nd.1 (List.mem_map.mpr ⟨e,h1,q⟩)).elim
   ·exact ei nd.2 h1 h2 q
noncomputable def aL (held:List En) (w:Str):Option En:=held.find? fun e=>e.w == w
noncomputable def enO:Option En→D
 | some e=>e.d
 | none=>.none
theorem a8 {held:List En} (nd:(held.map (·.w)).Nodup) {e:En} (he:e ∈ held):aL held e.w=some e:=by
 unfold aL
 cases q:held.find? fun x=>x.w == e.w with
 | none=>
  have:=List.find?_eq_none.mp q e he
  simp at this
 | some x=>
  rw [ei nd (List.mem_of_find?_eq_some q) he (by simpa using (List.find?_some q))]
theorem oi {held:List En} (nd:(held.map (·.w)).Nodup) {e:En} (he:e ∈ held) (p:En→Bool):(held.any fun x=>x.w == e.w&&p x)=p e:=by
 rw [Bool.eq_iff_iff,List.any_eq_true]
 constructor
 ·rintro ⟨x,hx,q⟩
  simp only [Bool.and_eq_true,beq_iff_eq] at q
  rw [← ei nd hx he q.1];exact q.2
 ·intro q
  exact ⟨e,he,by simp [q]⟩
theorem eL (b:Bool):kindS b ≠ Str.ofString "pick" := by
 cases b<;>(intro h;have:=(eS _ _).mp h;exact absurd this (by decide))
noncomputable def gY (a b:En):Bool:=(a.t == b.t)&&((a.k == Str.ofString "write")||(b.k == Str.ofString "write"))
theorem lW (a b:En):gY a b=gY b a:=by
 unfold gY
 rw [Bool.or_comm]
 congr 1
 rw [Bool.eq_iff_iff,beq_iff_eq,beq_iff_eq];exact eq_comm
noncomputable def dp (hs:List En) (i j:Nat):Bool:=(hs[i]?).any fun h=>(hs[j]?).any fun o=>gY o h
noncomputable def cR (held:List En):Bool:=(List.range (awk held).length).any fun i=>(List.range i).any fun j=>dp (awk held) i j
noncomputable def bL (row:Row) (held:List En):Option En:=
 match row with
 | .deed v w=>if v = .back then none else aL held w
 | .lend _ _ (.hd u)=>(aL held u).bind fun e=>if e.k == Str.ofString "pick" then none else some e
 | _=>none
noncomputable def cS (row:Row) (held:List En):Str:=
 if cR held then "beside" else match bL row held with
  | none => ""
  | some e=>if !e.o then "empty" else if !row.isLend&&asleep held e.w then "asleep" else ""
noncomputable def handOf:Row→Str
 | .deed v w=>if v = .back then "" else w
 | .lend _ _ (.hd u)=>u
 | _ => ""
noncomputable def Row.looks:Row→Bool
 | .deed v _=>!(v == .back)
 | _=>false
noncomputable def ej (row:Row) (held:List En):Str:=
 if cR held then "beside" else if held.any (fun e=>e.w == handOf row&&!e.o) then "empty" else if row.looks&&!((awk held).any fun e=>e.w == handOf row) then "asleep" else ""
theorem qc {os:List Row} {held:List En} (H:HeldOk os held) {row:Row} (v:V os row):ej row held=cS row held:=by
 have none_case:held.any (fun e=>e.w == Str.ofString "" && !e.o)=false:=by
  rw [List.any_eq_false]
  intro e he
  simp [H.ne e he]
 have nc:∀ a b:Str,(if held.any (fun e=>e.w == Str.ofString "" && !e.o)=true then a else b)=b:=fun a b=>if_neg (by rw [none_case];exact Bool.false_ne_true)
 unfold ej cS
 split
 ·rfl
 ·cases row with
  | lend w wr s=>
   cases s with
   | th i=>exact (nc _ _).trans rfl
   | hd u=>
    refine byG fun X_ g_=>?_
    obtain ⟨_,x,hx,hn,hu,_⟩:=v
    obtain ⟨e,he,hw,hk⟩:=H.mem hx hn
    refine g_ ?_
    have hwu:e.w=u:=hw.trans hu
    subst hwu
    change (if held.any (fun x=>x.w == e.w&&!x.o)=true then _ else _)=_
    rw [oi H.nd he (fun e=>!e.o),show bL (.lend w wr (.hd e.w)) held=(aL held e.w).bind (fun e=>if e.k == Str.ofString "pick" then none else some e) from rfl,a8 H.nd he,bX]
    by_cases hp:e.k=Str.ofString "pick"
    ·rw [(H.pk e he hp).1,hp];rfl
    ·have:(e.k == Str.ofString "pick")=false:=by simpa using hp
     rw [this];rfl
  | deed vb w=>
   refine byG fun X_ g_=>?_
   obtain ⟨x,hx,hl,hu,_⟩:=v
   obtain ⟨e,he,hw,hk⟩:=H.mem hx (da hl)
   refine g_ ?_
   have hwu:e.w=w:=hw.trans hu
   subst hwu
   by_cases hb:vb = .back
   ·subst hb
    exact (nc _ _).trans rfl
   ·have hkp:(e.k == Str.ofString "pick")=false:=by
     rw [hk];unfold Row.kindS;rw [if_pos hl];simpa using eL _
    have haw:((awk held).any fun x=>x.w == e.w)=(e.o&&!asleep held e.w):=by
     unfold awk
     rw [List.any_filter]
     have:=oi H.nd he fun x=>!(x.k == Str.ofString "pick")&&(x.o&&!asleep held x.w)
     rw [hkp] at this
     simp only [Bool.not_false,Bool.true_and] at this
     rw [← this]
     congr 1
     funext z
     rw [Bool.and_comm]
    rw [show handOf (.deed vb e.w)=e.w from if_neg hb,show bL (.deed vb e.w) held=aL held e.w from if_neg hb,a8 H.nd he,oi H.nd he (fun e=>!e.o),haw,show Row.looks (.deed vb e.w)=true from congrArg (!·) (by simpa using hb:(vb == Verb.back)=false)]
    change _=if (!e.o)=true then Str.ofString "empty" else if (true&&asleep held e.w)=true then Str.ofString "asleep" else Str.ofString ""
    cases e.o<;>cases asleep held e.w<;>rfl
  | _=>exact (nc _ _).trans rfl
end Mine
set_option tactic.hygienic false
namespace Mine
open PySem
theorem gs {α:Type} {p:α→Bool}:∀ {l:List α} {k:Nat},(l[k]?).any p=true→(∀ j,j < k→(l[j]?).any p=false)→l.find? p=l[k]?:=by
 intro l
 induction l with
 | nil=>intro k h _;cases h
 | cons x l ih=>
  intro k h hf
  cases k with
  | zero=>
   replace h:p x=true:=h
   rw [List.find?_cons,h];rfl
  | succ k=>
   have h0:p x=false:=hf 0 (Nat.succ_pos k)
   rw [List.find?_cons,h0]
   exact ih h fun j hj=>hf (j+1) (Nat.succ_lt_succ hj)
theorem i9 {α:Type} {p:α→Bool} {l:List α} (h:∀ k,k < l.length→(l[k]?).any p=false):l.find? p=none:=by
 rw [List.find?_eq_none]
 intro x hx q
 obtain ⟨k,hk⟩:=List.getElem?_of_mem hx
 have:=h k (List.getElem?_eq_some_iff.mp hk).1
 rw [hk] at this;simp [q] at this
set_option tactic.hygienic true in
theorem qd (r:Row):(["look", "change"].any fun y=>Str.ofString y == r.tag)=r.looks:=by
 cases r<;>first | rfl | (rename_i v w;cases v<;>rfl)
theorem gZ (r:Row):pyIn (.str r.tag) (.list [.str "look",.str "change"])=some r.looks:=by
 rw [← qd];exact b9 r.tag (["look", "change"].map Str.ofString)
theorem oj (r:Row):pyIn (.str r.tag) (.tuple [.str "look",.str "change"])=some r.looks:=gZ r
theorem rl (w a b:Str):pyIn (.str w) (.list [.str a,.str b])=some (a == w||b == w):=by
 have:=b9 w [a,b]
 simpa using this
theorem ol (w a b:Str):pyIn (.str w) (.tuple [.str a,.str b])=some (a == w||b == w):=rl w a b
theorem ld (l:List D) (n:Nat) (h:n≤l.length):cut l none (some (n:Int))=l.take n:=by
 have hc:cF l.length (n:Int)=n:=by
  unfold cF
  rw [if_neg (by lia),Int.toNat_natCast];lia
 simp only [cut,Option.map_none,Option.getD_none,mX,Option.getD_some,hc,List.drop_zero,Nat.sub_zero]
theorem rn {l:List En} {k:Nat} {x:En} (h:l[k]?=some x):item (.list (l.map En.d)) (.int (k:Int))=some x.d:=by
 exact p_mk (k:=k) (by have:=aW (n:=l.length) (i:=(k:Int)) (by exact Int.ofNat_le.mpr (Nat.zero_le k)) (by exact Int.ofNat_lt.mpr ((List.getElem?_eq_some_iff.mp h).1));simpa using this) (by rw [List.getElem?_map,h];rfl)
section
variable {Φ:Str→List D→Option D} {Γ:Str→Option D} {m:St} {ow:List Nat} {fr:Bool} {N:Nat}
theorem qe {i j:Nat} {it:It} {body r:Sms} {items:List (List D)} {d:D} (I:St→Prop) (p:Nat→Bool) (f:Nat→D) (hi:evIt Φ Γ it m=some items) (hz:cm it=false) (h0:I m)
 (hs:∀ (k:Nat) (vs:List D) (m:St),items[k]?=some vs→I m→∃ x y,vs=[x,y]∧(p k=true→Rt (exSs Φ Γ ow fr N body ((m.set i (some x)).set j (some y))) (f k))∧(p k=false→Go (exSs Φ Γ ow fr N body ((m.set i (some x)).set j (some y))) I))
 (hno:(∀ k,k < items.length→p k=false)→∀ m,I m→Rt (exSs Φ Γ ow fr N r m) d) (hyes:∀ k,k < items.length→p k=true→(∀ j,j < k→p j=false)→f k=d):Rt (exSs Φ Γ ow fr N (.cons (.for2 i j it body) r) m) d:=by
 rcases og (ow:=ow) (fr:=fr) (N:=N) (body:=body) I p f hi hz h0 hs with ⟨k,h1,h2,h3,h4⟩ | ⟨h1,h2⟩
 ·exact ((hyes k h1 h2 h3)).symm ▸ (oh h4)
 ·exact aQ h2 (hno h1)
theorem any1 {i n:Nat} {it:It} {body:Sms} {items:List (List D)} {d:D} {J:St→Prop} (I:St→Prop) (p:Nat→Bool) (hi:evIt Φ Γ it m=some items) (hz:cm it=false) (hlen:items.length=n) (h0:I m)
 (hs:∀ (k:Nat) (vs:List D) (m:St),items[k]?=some vs→I m→∃ x,vs=[x]∧(p k=true→Rt (exSs Φ Γ ow fr N body (m.set i (some x))) d)∧(p k=false→Go (exSs Φ Γ ow fr N body (m.set i (some x))) I)) (hJ:∀ m,I m→J m) :
 (((List.range n).any p=true)→Rt (exSs Φ Γ ow fr N (.cons (.for1 i it body) .nil) m) d)∧(((List.range n).any p=false)→Go (exSs Φ Γ ow fr N (.cons (.for1 i it body) .nil) m) J):=by
 have h:=iZ (ow:=ow) (fr:=fr) (N:=N) (body:=body) I p (fun o_=>d) hi hz h0 hs
 rw [hlen] at h
 obtain ⟨h1,h2⟩:=qb h fun o_=>rfl
 exact ⟨h1,fun q=>(h2 q).mono hJ⟩
end
section
variable (Φ:Str→List D→Option D) (Γ:Str→Option D) (N:Nat)
theorem j7 (held:List En) (w:Str):runFn Φ Γ N fnentry_of [.tuple (held.map En.d),.str w]=some (enO (aL held w)):=by
 refine aq [some (.tuple (held.map En.d)),some (.str w),none] rfl rfl ?_
 dsimp only [fnentry_of]
 refine eK (fun m=>∃ x,m=[some (.tuple (held.map En.d)),some (.str w),x]) (fun k=>(held[k]?).any fun e=>e.w == w) (fun k=>enO held[k]?) (cK (es:=held) (g:=En.d) (rfl)) rfl ⟨none,rfl⟩ (fun k vs m hk hI=>?_) (fun hno m hI=>?_) (fun k hk hp hf=>?_)
 ·obtain ⟨x,rfl⟩:=hI
  rw [List.getElem?_map] at hk
  obtain ⟨e,he,rfl⟩:=Option.map_eq_some_iff.mp hk
  refine ⟨_,rfl,fun q=>?_,fun q=>?_⟩
  ·rw [he] at q ⊢
   exact am (x:=.bool (e.w == w)) (rfl) (by rw [al];simpa using q) (af rfl rfl)
  ·rw [he] at q
   exact ap (aK (Q:=fun m=>∃ x,m=[some (.tuple (held.map En.d)),some (.str w),x]) (d:=.bool (e.w == w)) (rfl) (al _) (fun q'=>by simp only [Option.any_some] at q;rw [q] at q';cases q') (fun o_=>ah ⟨_,rfl⟩)) fun m e=>ah e
 ·obtain ⟨x,rfl⟩:=hI
  refine af ?_ rfl
  unfold aL
  rw [i9 fun k hk=>hno k (by simpa using hk)];rfl
 ·rw [← gs hp hf];rfl
theorem ja {hs:List En} {i j:Nat} {h o:En} (h1:hs[i]?=some h) (h2:hs[j]?=some o):dp hs i j=gY o h:=by simp [dp,h1,h2]
theorem om (hA:∀ es:List En,es.length≤1000→Φ "awake" [.tuple (es.map En.d)]=some (.list ((awk es).map En.d))) (held:List En) (hl:held.length≤1000):runFn Φ Γ N fnbeside [.tuple (held.map En.d)]=some (.bool (cR held)):=by
 refine aq [some (.tuple (held.map En.d)),none,none,none] rfl rfl ?_
 dsimp only [fnbeside]
 refine ak (.list ((awk held).map En.d)) (ai (esC rfl es0) (hA held hl)) rfl ?_
 have hbl:(awk held).length≤1000:=Nat.le_trans (List.length_filter_le _ _) hl
 unfold cR
 generalize awk held=hs at hbl ⊢
 refine eK (fun m=>∃ x2 x3,m=[some (.tuple (held.map En.d)),some (.list (hs.map En.d)),x2,x3]) (fun i=>(List.range i).any fun j=>dp hs i j) (fun o_=>.bool true) (bH (n:=(hs.length:Int)) (aT rfl (lenL hs)) (by lia)) rfl ⟨none,none,rfl⟩ (fun i vs m hk hI=>?_) (fun hno m hI=>?_) (fun k hk hp o_=>?_)
 ·obtain ⟨x2,x3,rfl⟩:=hI
  rw [List.getElem?_map] at hk
  obtain ⟨i',hi,rfl⟩:=Option.map_eq_some_iff.mp hk
  obtain ⟨hi1,hi2⟩:=List.getElem?_eq_some_iff.mp hi
  simp only [List.length_range,Int.toNat_natCast] at hi1
  simp only [List.getElem_range] at hi2
  subst hi2
  obtain ⟨h,hh⟩:∃ h,hs[i]?=some h:=⟨hs[i],List.getElem?_eq_getElem hi1⟩
  refine ⟨_,rfl,?_⟩
  have hit:evIt Φ Γ (.plain (.sl (.v 1) .none (.some (.v 2)))) [some (.tuple (held.map En.d)),some (.list (hs.map En.d)),some (.int (i:Int)),x3]=some ((hs.take i).map fun e=>[e.d]):=by
   refine bQ (g:=En.d) ?_
   simp only [x_v,x_sl,fm,fo,gX,gN,bX,mX,io_n,io_i,uC]
   rw [ld _ _ (by rw [lX];(exact Nat.le_of_lt hi1)),List.map_take]
  have hlen:((hs.take i).map fun e=>[e.d]).length=i:=by simp only [lX,List.length_take];lia
  refine any1 (fun m=>∃ x3,m=[some (.tuple (held.map En.d)),some (.list (hs.map En.d)),some (.int (i:Int)),x3]) (fun j=>dp hs i j) hit rfl hlen ⟨_,rfl⟩ (fun j vs m hj hI=>?_) (fun m hI=>hI.elim fun x3 e=>⟨_,_,e⟩)
  obtain ⟨x3,rfl⟩:=hI
  rw [List.getElem?_map,List.getElem?_take] at hj
  obtain ⟨o,ho,rfl⟩:=Option.map_eq_some_iff.mp hj
  split at ho
  case isFalse=>cases ho
  rw [ja hh ho]
  have hc:evE Φ Γ (.bool true (.cons (.cmp .Eq (.idx (.v 3) (.k (.int 2))) (.idx (.idx (.v 1) (.v 2)) (.k (.int 2)))) (.cons (.cmp .In (.k (.str "write")) (.tup (.cons (.idx (.v 3) (.k (.int 1))) (.cons (.idx (.idx (.v 1) (.v 2)) (.k (.int 1))) .nil)))) .nil))) [some (.tuple (held.map En.d)),some (.list (hs.map En.d)),some (.int (i:Int)),some o.d]=some (.bool (gY o h)):=by
   unfold gY
   refine aH ?_ ?_
   ·exact aj (ad rfl rfl (En.idx2 o)) (ad (ad rfl rfl (rn hh)) rfl (En.idx2 h)) (pL o.t h.t)
   ·exact aj rfl (aZ (esC (ad rfl rfl (En.idx1 o)) (esC (ad (ad rfl rfl (rn hh)) rfl (En.idx1 h)) es0))) (ol (Str.ofString "write") o.k h.k)
  refine ⟨_,rfl,fun q=>?_,fun q=>?_⟩
  ·exact am hc (congrArg _ q) (af rfl rfl)
  ·exact ap (aK (Q:=fun m=>∃ x3,m=[some (.tuple (held.map En.d)),some (.list (hs.map En.d)),some (.int (i:Int)),x3]) hc (al _) (fun q'=>by rw [q] at q';cases q') (fun o_=>ah ⟨_,rfl⟩)) fun m e=>ah e
 ·obtain ⟨x2,x3,rfl⟩:=hI
  refine af ?_ rfl
  have:((List.range hs.length).any fun i=>(List.range i).any fun j=>dp hs i j)=false:=by
   rw [List.any_eq_false]
   intro k hk
   have:=hno k (by simpa using hk)
   exact this ▸ Bool.false_ne_true
  rw [this];rfl
 ·simp only [lX,List.length_range,Int.toNat_natCast] at hk
  have:((List.range hs.length).any fun i=>(List.range i).any fun j=>dp hs i j)=true:=List.any_eq_true.mpr ⟨k,List.mem_range.mpr hk,hp⟩
  rw [this]
theorem jb (hE:∀ (held:List En) (w:Str),Φ "entry_of" [.tuple (held.map En.d),.str w]=some (enO (aL held w))) (row:Row) (held:List En) (hv:∀ w q u,row = .lend w q (.hd u)→(aL held u).isSome=true) :
 runFn Φ Γ N fnhand_used [row.d,.tuple (held.map En.d)]=some (enO (bL row held)):=by
 refine aq [some row.d,some (.tuple (held.map En.d)),none] rfl rfl ?_
 dsimp only [fnhand_used]
 have c1:evE Φ Γ (.cmp .In (.idx (.v 0) (.k (.int 0))) (.tup (.cons (.k (.str "look")) (.cons (.k (.str "change")) .nil)))) [some row.d,some (.tuple (held.map En.d)),none]=some (.bool row.looks):=by
  exact aj (ad rfl rfl (Row.i0 row)) (aZ (esC rfl (esC rfl es0))) (oj row)
 have c2:row.isLend=false→evE Φ Γ (.bool true (.cons (.cmp .Eq (.idx (.v 0) (.k (.int 0))) (.k (.str "lend"))) (.cons (.isi (.idx (.v 0) (.k (.int 3))) .str) .nil))) [some row.d,some (.tuple (held.map En.d)),none]=some (.bool false):=fun hl=>by
  simp only [x_k,x_v,cG,dP,bd,tw,fq,eB,gN,bX,mX,Row.i0,jV,d7,hl,al,Bool.false_eq_true,if_false]
 cases row with
 | deed v w=>
  by_cases hb:v = .back
  ·subst hb
   refine ae c1 rfl (ae (c2 rfl) rfl (af rfl rfl))
  ·have hlk:(Row.deed v w).looks=true:=by cases v<;>first | rfl | exact absurd rfl hb
   refine am c1 (congrArg _ hlk) (af ?_ rfl)
   have hi:item (Row.deed v w).d (.int 1)=some (.str w):=rfl
   simp only [x_k,x_v,bd,be,aF,ar,gX,gN,bX,mX,hi,hE,show bL (.deed v w) held=aL held w from if_neg hb]
 | lend w q s=>
  cases s with
  | th i=>exact ae c1 rfl (ae (x:=.bool false) rfl rfl (af rfl rfl))
  | hd u=>
   obtain ⟨e,he⟩:=Option.isSome_iff_exists.mp (hv w q u rfl)
   have hi:item (Row.lend w q (.hd u)).d (.int 3)=some (.str u):=rfl
   refine ae c1 rfl ?_
   have hu:bL (.lend w q (.hd u)) held=if e.k == Str.ofString "pick" then none else some e:=by
    show (aL held u).bind _=_
    rw [he];rfl
   rw [hu]
   have hcall:evE Φ Γ (.call false "entry_of" (.cons (.v 1) (.cons (.idx (.v 0) (.k (.int 3))) .nil))) [some (Row.lend w q (.hd u)).d,some (.tuple (held.map En.d)),none]=some e.d:=by
    simp only [x_k,x_v,bd,be,aF,ar,gX,gN,bX,mX,hi,hE,he,enO]
   have hne:evE Φ Γ (.cmp .NotEq (.idx (.v 2) (.k (.int 1))) (.k (.str "pick"))) [some (Row.lend w q (.hd u)).d,some (.tuple (held.map En.d)),some e.d]=some (.bool (!(e.k == Str.ofString "pick"))):=by
    exact rfl
   cases hp:(e.k == Str.ofString "pick") with
   | true=>
    rw [hp] at hne
    refine aQ (Q':=fun m=>True) (aK (d:=.bool true) rfl rfl (fun o_=>aw e.d hcall rfl (ap (aK (Q:=fun o_=>True) hne rfl (fun z=>by cases z) (fun o_=>ah trivial)) fun m o_=>ah trivial)) (fun z=>by cases z)) ?_
    exact fun m o_=>af rfl rfl
   | false=>
    rw [hp] at hne
    exact am (x:=.bool true) rfl rfl (ak e.d hcall rfl (am hne rfl (af rfl rfl)))
 | pick w ts=>exact ae c1 rfl (ae (c2 rfl) rfl (af rfl rfl))
 | either=>exact ae c1 rfl (ae (c2 rfl) rfl (af rfl rfl))
 | again=>exact ae c1 rfl (ae (c2 rfl) rfl (af rfl rfl))
 | orr=>exact ae c1 rfl (ae (c2 rfl) rfl (af rfl rfl))
 | fin=>exact ae c1 rfl (ae (c2 rfl) rfl (af rfl rfl))
theorem qf (hB:∀ held:List En,held.length≤1000→Φ "beside" [.tuple (held.map En.d)]=some (.bool (cR held)))
 (hU:∀ (row:Row) (held:List En),(∀ w q u,row = .lend w q (.hd u)→(aL held u).isSome=true)→Φ "hand_used" [row.d,.tuple (held.map En.d)]=some (enO (bL row held)))
 (hS:∀ (es:List En) (w:Str),es.length≤1000→Φ "is_asleep" [.tuple (es.map En.d),.str w]=some (.bool (asleep es w)))
 (rows:List Row) (k:Nat) (row:Row) (hr:rows[k]?=some row) (held:List En) (hl:held.length≤1000) (hv:∀ w q u,row = .lend w q (.hd u)→(aL held u).isSome=true) :
 runFn Φ Γ N fnfault [.list (rows.map Row.d),.tuple [.int (k:Int),.tuple (held.map En.d)]]=some (.str (cS row held)):=by
 refine aq [some (.list (rows.map Row.d)),some (.tuple [.int (k:Int),.tuple (held.map En.d)]),none,none,none] rfl rfl ?_
 dsimp only [fnfault]
 refine bC [some (.list (rows.map Row.d)),some (.tuple [.int (k:Int),.tuple (held.map En.d)]),some (.int (k:Int)),some (.tuple (held.map En.d)),none] rfl ?_
 have cb:evE Φ Γ (.call false "beside" (.cons (.v 3) .nil)) [some (.list (rows.map Row.d)),some (.tuple [.int (k:Int),.tuple (held.map En.d)]),some (.int (k:Int)),some (.tuple (held.map En.d)),none]=some (.bool (cR held)):=by
  exact ai (esC rfl es0) (hB held hl)
 unfold cS
 cases hb:cR held with
 | true=>
  rw [hb] at cb
  exact am cb rfl (af rfl rfl)
 | false=>
  rw [hb] at cb
  refine ae cb rfl ?_
  simp only [Bool.false_eq_true,if_false]
  refine ak (enO (bL row held)) (ai (esC (ad rfl rfl (aV hr)) (esC rfl es0)) (hU row held hv)) rfl ?_
  simp only [sX,sN]
  cases hu:bL row held with
  | none=>exact am (x:=.bool true) rfl rfl (af rfl rfl)
  | some e=>
   simp only [enO]
   refine ae (x:=.bool false) rfl rfl ?_
   have co:evE Φ Γ (.not (.idx (.v 4) (.k (.int 4)))) [some (.list (rows.map Row.d)),some (.tuple [.int (k:Int),.tuple (held.map En.d)]),some (.int (k:Int)),some (.tuple (held.map En.d)),some e.d]=some (.bool (!e.o)):=by
    exact rfl
   cases hoo:e.o with
   | false=>
    rw [hoo] at co
    exact am co rfl (af rfl rfl)
   | true=>
    rw [hoo] at co
    refine ae co rfl ?_
    have ca:evE Φ Γ (.bool true (.cons (.cmp .NotEq (.idx (.idx (.v 0) (.v 2)) (.k (.int 0))) (.k (.str "lend"))) (.cons (.call false "is_asleep" (.cons (.v 3) (.cons (.idx (.v 4) (.k (.int 0))) .nil))) .nil))) [some (.list (rows.map Row.d)),some (.tuple [.int (k:Int),.tuple (held.map En.d)]),some (.int (k:Int)),some (.tuple (held.map En.d)),some e.d]=some (.bool (!row.isLend&&asleep held e.w)):=by
     refine aH ?_ ?_
     ·simp only [x_k,x_v,dP,bd,gX,gN,bX,mX,aV hr,Row.i0,uv,d7]
     ·exact ai (esC rfl (esC (ad rfl rfl (En.idx0 e)) es0)) (hS held e.w hl)
    cases hz:(!row.isLend&&asleep held e.w) with
    | true=>
     rw [hz] at ca
     exact am ca rfl (af rfl rfl)
    | false=>
     rw [hz] at ca
     exact ae ca rfl (af rfl rfl)
end
end Mine
set_option tactic.hygienic false
namespace Mine
open PySem
theorem qg {l:List En} {k:Nat} {vs:List D} (h:(cA 0 (l.map En.d))[k]?=some vs):∃ x,l[k]?=some x∧vs=[.int (k:Int),x.d]:=by
 rw [fg,List.getElem?_map] at h
 cases q:l[k]? with
 | none=>rw [q] at h;simp at h
 | some x=>rw [q] at h;simp at h;exact ⟨x,rfl,h.symm⟩
theorem fQ {l:List En} {k:Nat} {vs:List D} (h:(l.map fun e=>[e.d])[k]?=some vs):∃ x,l[k]?=some x∧vs=[x.d]:=by
 rw [List.getElem?_map] at h
 obtain ⟨e,he,rfl⟩:=Option.map_eq_some_iff.mp h
 exact ⟨e,he,rfl⟩
theorem on {α:Type} (l:List α) (p:α→Bool):((List.range l.length).any fun k=>(l[k]?).any p)=l.any p:=by
 rw [Bool.eq_iff_iff,List.any_eq_true,List.any_eq_true]
 constructor
 ·rintro ⟨k,hk,q⟩
  rw [List.mem_range] at hk
  rw [List.getElem?_eq_getElem hk] at q
  exact ⟨_,List.getElem_mem hk,by simpa using q⟩
 ·rintro ⟨x,hx,q⟩
  obtain ⟨k,hk⟩:=List.getElem?_of_mem hx
  exact ⟨k,List.mem_range.mpr (List.getElem?_eq_some_iff.mp hk).1,by rw [hk];simpa using q⟩
section
variable (Φ:Str→List D→Option D) (Γ:Str→Option D) (N:Nat)
theorem oo (hA:∀ es:List En,es.length≤1000→Φ "_law_awake" [.tuple (es.map En.d)]=some (.list ((awk es).map En.d))) (row:Row) (held:List En) (hl:held.length≤1000) :
 runFn Φ Γ N fn_law_fault [row.d,.tuple (held.map En.d)]=some (.str (ej row held)):=by
 refine aq [some row.d,some (.tuple (held.map En.d)),none,none,none,none,none] rfl rfl ?_
 dsimp only [fn_law_fault]
 refine ak (.list ((awk held).map En.d)) (ai (esC rfl es0) (hA held hl)) rfl ?_
 have hbl:(awk held).length≤1000:=Nat.le_trans (List.length_filter_le _ _) hl
 unfold ej cR
 generalize awk held=hs at hbl ⊢
 refine qe (fun m=>∃ x3 x4 x5,m=[some row.d,some (.tuple (held.map En.d)),some (.list (hs.map En.d)),x3,x4,x5,none]) (fun i=>(List.range i).any fun j=>dp hs i j) (fun o_=>.str "beside") (eJ (xs:=hs.map En.d) (rfl)) rfl ⟨none,none,none,rfl⟩ (fun i vs m hk hI=>?_) (fun hno m hI=>?_) (fun k hk hp o_=>?_)
 ·obtain ⟨x3,x4,x5,rfl⟩:=hI
  obtain ⟨h,hh,rfl⟩:=qg hk
  have hi1:i < hs.length:=(List.getElem?_eq_some_iff.mp hh).1
  refine ⟨_,_,rfl,?_⟩
  have hit:evIt Φ Γ (.plain (.sl (.v 2) .none (.some (.v 3)))) [some row.d,some (.tuple (held.map En.d)),some (.list (hs.map En.d)),some (.int (i:Int)),some h.d,x5,none]=some ((hs.take i).map fun e=>[e.d]):=by
   refine bQ (g:=En.d) ?_
   simp only [x_v,x_sl,fm,fo,gX,gN,bX,mX,io_n,io_i,uC]
   rw [ld _ _ (by rw [lX];(exact Nat.le_of_lt hi1)),List.map_take]
  have hlen:((hs.take i).map fun e=>[e.d]).length=i:=by simp only [lX,List.length_take];lia
  refine any1 (fun m=>∃ x5,m=[some row.d,some (.tuple (held.map En.d)),some (.list (hs.map En.d)),some (.int (i:Int)),some h.d,x5,none]) (fun j=>dp hs i j) hit rfl hlen ⟨_,rfl⟩ (fun j vs m hj hI=>?_) (fun m hI=>hI.elim fun x5 e=>⟨_,_,_,e⟩)
  obtain ⟨x5,rfl⟩:=hI
  rw [List.getElem?_map,List.getElem?_take] at hj
  obtain ⟨o,ho,rfl⟩:=Option.map_eq_some_iff.mp hj
  split at ho
  case isFalse=>cases ho
  rw [ja hh ho,lW]
  have hc:evE Φ Γ (.bool true (.cons (.cmp .Eq (.idx (.v 4) (.k (.int 2))) (.idx (.v 5) (.k (.int 2)))) (.cons (.cmp .In (.k (.str "write")) (.lst (.cons (.idx (.v 4) (.k (.int 1))) (.cons (.idx (.v 5) (.k (.int 1))) .nil)))) .nil))) [some row.d,some (.tuple (held.map En.d)),some (.list (hs.map En.d)),some (.int (i:Int)),some h.d,some o.d,none]=some (.bool (gY h o)):=by
   unfold gY
   refine aH ?_ ?_
   ·exact rfl
   ·exact aj rfl (aS (esC (ad rfl rfl (En.idx1 h)) (esC (ad rfl rfl (En.idx1 o)) es0))) (rl (Str.ofString "write") h.k o.k)
  refine ⟨_,rfl,fun q=>?_,fun q=>?_⟩
  ·exact am hc (congrArg _ q) (af rfl rfl)
  ·exact ap (aK (Q:=fun m=>∃ x5,m=[some row.d,some (.tuple (held.map En.d)),some (.list (hs.map En.d)),some (.int (i:Int)),some h.d,x5,none]) hc (al _) (fun q'=>by rw [q] at q';cases q') (fun o_=>ah ⟨_,rfl⟩)) fun m e=>ah e
 ·obtain ⟨x3,x4,x5,rfl⟩:=hI
  have hb:((List.range hs.length).any fun i=>(List.range i).any fun j=>dp hs i j)=false:=by
   rw [List.any_eq_false]
   intro k hk
   have:=hno k (by rw [bJ,lX];exact List.mem_range.mp hk)
   rw [this];exact Bool.false_ne_true
  rw [hb]
  simp only [Bool.false_eq_true,if_false]
  refine ak (.str "") rfl rfl ?_
  refine aQ (Q':=fun m=>m=[some row.d,some (.tuple (held.map En.d)),some (.list (hs.map En.d)),x3,x4,x5,some (.str (if row.looks then handOf row else ""))]) (aK (d:=.bool row.looks) (aj (ad rfl rfl (Row.i0 row)) (aS (esC rfl (esC rfl es0))) (gZ row)) (al _) (fun q=>?_) (fun q=>?_)) ?_
  ·have:item row.d (.int 1)=some (.str (handOf row))∧row.looks=true:=by
    refine ⟨?_,q⟩
    cases row with
    | deed v w=>cases v<;>first | rfl | cases q
    | _=>cases q
   rw [q]
   exact aw (.str (handOf row)) (ad rfl rfl this.left) rfl (ah rfl)
  ·exact ah (q ▸ rfl)
  rintro _ rfl
  refine aQ (Q':=fun m=>m=[some row.d,some (.tuple (held.map En.d)),some (.list (hs.map En.d)),x3,x4,x5,some (.str (handOf row))]) ?_ ?_
  ·cases row with
   | lend w q s=>
    cases s with
    | th i=>exact aK (d:=.bool false) rfl rfl (fun z=>by cases z) (fun o_=>ah rfl)
    | hd u=>exact aK (d:=.bool true) rfl rfl (fun o_=>aw (.str u) rfl rfl (ah rfl)) (fun z=>by cases z)
   | deed v w=>cases v<;>exact aK (d:=.bool false) rfl rfl (fun z=>by cases z) (fun o_=>ah rfl)
   | pick w ts=>exact aK (d:=.bool false) rfl rfl (fun z=>by cases z) (fun o_=>ah rfl)
   | either=>exact aK (d:=.bool false) rfl rfl (fun z=>by cases z) (fun o_=>ah rfl)
   | again=>exact aK (d:=.bool false) rfl rfl (fun z=>by cases z) (fun o_=>ah rfl)
   | orr=>exact aK (d:=.bool false) rfl rfl (fun z=>by cases z) (fun o_=>ah rfl)
   | fin=>exact aK (d:=.bool false) rfl rfl (fun z=>by cases z) (fun o_=>ah rfl)
  rintro _ rfl
  generalize handOf row=hand
  refine eK (fun m=>∃ x4,m=[some row.d,some (.tuple (held.map En.d)),some (.list (hs.map En.d)),x3,x4,x5,some (.str hand)]) (fun k=>(held[k]?).any fun e=>e.w == hand&&!e.o) (fun o_=>.str "empty") (cK (es:=held) (g:=En.d) (rfl)) rfl ⟨_,rfl⟩ (fun k vs m hk hI=>?_) (fun hno m hI=>?_) (fun k hk hp o_=>?_)
  ·obtain ⟨x4,rfl⟩:=hI
   obtain ⟨e,he,rfl⟩:=fQ hk
   refine ⟨_,rfl,?_⟩
   simp only [he,Option.any_some,sX,sN]
   have hc:evE Φ Γ (.bool true (.cons (.cmp .Eq (.idx (.v 4) (.k (.int 0))) (.v 6)) (.cons (.not (.idx (.v 4) (.k (.int 4)))) .nil))) [some row.d,some (.tuple (held.map En.d)),some (.list (hs.map En.d)),x3,some e.d,x5,some (.str hand)]=some (.bool (e.w == hand&&!e.o)):=by
    refine aH ?_ ?_
    ·exact rfl
    ·exact rfl
   refine ⟨fun q=>?_,fun q=>?_⟩
   ·exact am hc (congrArg _ q) (af rfl rfl)
   ·exact ap (aK (Q:=fun m=>∃ x4,m=[some row.d,some (.tuple (held.map En.d)),some (.list (hs.map En.d)),x3,x4,x5,some (.str hand)]) hc (al _) (fun q'=>by rw [q] at q';cases q') (fun o_=>ah ⟨_,rfl⟩)) fun m e=>ah e
  ·obtain ⟨x4,rfl⟩:=hI
   have he:held.any (fun e=>e.w == hand&&!e.o)=false:=by
    rw [← on,List.any_eq_false]
    intro k hk
    have:=hno k (by rw [lX];exact List.mem_range.mp hk)
    exact this ▸ Bool.false_ne_true
   rw [he]
   simp only [Bool.false_eq_true,if_false]
   have hcomp:evE Φ Γ (.comp (.idx (.v 7) (.k (.int 0))) (.plain (.v 2)) .none) [some row.d,some (.tuple (held.map En.d)),some (.list (hs.map En.d)),x3,x4,x5,some (.str hand)]=some (.list ((hs.map (·.w)).map .str)):=by
    rw [List.map_map]
    exact bZ hs (fun e=>[e.d]) (fun e=>.str e.w) (bQ (rfl)) (by lia) rfl fun e o_=>by (exact rfl)
   have hc:evE Φ Γ (.bool true (.cons (.cmp .In (.idx (.v 0) (.k (.int 0))) (.lst (.cons (.k (.str "look")) (.cons (.k (.str "change")) .nil)))) (.cons (.cmp .NotIn (.v 6) (.comp (.idx (.v 7) (.k (.int 0))) (.plain (.v 2)) .none)) .nil))) [some row.d,some (.tuple (held.map En.d)),some (.list (hs.map En.d)),x3,x4,x5,some (.str hand)]=some (.bool (row.looks&&!(hs.any fun e=>e.w == hand))):=by
    refine aH ?_ ?_
    ·exact aj (ad rfl rfl (Row.i0 row)) (aS (esC rfl (esC rfl es0))) (gZ row)
    ·rw [dP,hcomp]
     simp only [x_v,gX,gN,bX,uu,b9,mX,List.any_map]
     rfl
   cases hz:(row.looks&&!(hs.any fun e=>e.w == hand)) with
   | true=>
    rw [hz] at hc
    exact am hc rfl (af rfl rfl)
   | false=>
    rw [hz] at hc
    exact ae hc rfl (af rfl rfl)
  ·have:held.any (fun e=>e.w == hand&&!e.o)=true:=by
    rw [← on]
    exact List.any_eq_true.mpr ⟨k,List.mem_range.mpr (by simpa using hk),hp⟩
   rw [this];rfl
 ·rw [(List.any_eq_true.mpr ⟨k,List.mem_range.mpr (by rw [bJ,lX] at hk;exact hk),hp⟩)];rfl
end
end Mine
set_option tactic.hygienic false
namespace Mine
open PySem
noncomputable def hitB (g:List Str) (e:En):Bool:=(g.any fun y=>y == e.w)||(g.any fun y=>y == e.s)
noncomputable def En.gone (e:En):En:=⟨e.w,e.k,e.t,e.s,false⟩
noncomputable def bStep (s:List Str × List En) (e:En):List Str × List En:=if hitB s.1 e then (s.1++[e.w],s.2++[e.gone]) else (s.1,s.2++[e])
noncomputable def backR:List Str→List En→List En
 | _,[]=>[]
 | g,e::es=>if hitB g e then e.gone::backR (g++[e.w]) es else e::backR g es
theorem oq (x:List Str):backR x []=[]:=rfl
theorem j8 (x:List Str) (e:En) (es:List En):backR x (e::es)=if hitB x e=true then e.gone::backR (x++[e.w]) es else e::backR x es:=rfl
theorem cT:∀ (l:List En) (g:List Str) (acc:List En),(l.foldl bStep (g,acc)).2=acc++backR g l:=by
 intro l
 induction l with
 | nil=>
  intro g acc
  simp [oq]
 | cons e l cT=>
  intro g acc
  simp only [List.foldl_cons,bStep,j8]
  split
  ·rw [cT];simp
  ·rw [cT];simp
theorem em:∀ (l:List En) (s:List Str × List En),(l.foldl bStep s).1.length≤s.1.length+l.length∧(l.foldl bStep s).2.length=s.2.length+l.length:=by
 intro l
 induction l with
 | nil=>
  intro s
  exact ⟨Nat.le_refl _,rfl⟩
 | cons e l em=>
  intro s
  obtain ⟨h1,h2⟩:=em (bStep s e)
  simp only [List.foldl_cons,List.length_cons]
  unfold bStep at h1 h2 ⊢
  split at h1<;>simp_all<;>lia
theorem eo:∀ (l:List En) (g:List Str),(backR g l).map (fun e=>(e.w,e.k))=l.map fun e=>(e.w,e.k):=by
 intro l
 induction l with
 | nil=>
  intro _
  exact rfl
 | cons e l eo=>
  intro g
  rw [j8]
  split
  ·simp only [List.map_cons,eo];rfl
  ·simp only [List.map_cons,eo]
theorem gt (l:List En) (g:List Str):(backR g l).map (·.w)=l.map (·.w):=by
 have:=congrArg (List.map Prod.fst) (eo l g)
 simpa [List.map_map,Function.comp_def] using this
set_option tactic.hygienic true in
theorem et:∀ (l:List En) (g:List Str),(∀ e ∈ l,e.k=Str.ofString "pick" → e.s=Str.ofString "" ∧ e.w ∉ g)→Str.ofString "" ∉ g→(l.map (·.w)).Nodup→(∀ e ∈ l,e.w ≠ Str.ofString "")→∀ e' ∈ backR g l,e'.k=Str.ofString "pick" → e' ∈ l:=by
 intro l
 induction l with
 | nil=>
  intro g _ _ _ _ e' h _
  simp [oq] at h
 | cons e l et=>
  intro g hp h0 nd ne e' h hk
  rw [List.map_cons,List.nodup_cons] at nd
  rw [j8] at h
  split at h
  ·rename_i hh
   rcases List.mem_cons.mp h with q | q
   ·subst q;exact absurd hk (fun q=>by
     obtain ⟨q1,q2⟩:=hp e (.head _) q
     unfold hitB at hh
     rw [Bool.or_eq_true,List.any_eq_true,List.any_eq_true] at hh
     rcases hh with ⟨y,hy,q3⟩ | ⟨y,hy,q3⟩
     ·rw [beq_iff_eq] at q3;subst q3;exact q2 hy
     ·rw [beq_iff_eq] at q3;subst q3;rw [q1] at hy;exact h0 hy)
   ·refine .tail _ (et (g++[e.w]) (fun f hf hfk=>?_) ?_ nd.2 (fun f hf=>ne f (.tail _ hf)) e' q hk)
    ·refine ⟨((hp f (.tail _ hf) hfk).1),fun z=>?_⟩
     rcases List.mem_append.mp z with z | z
     ·exact ((hp f (.tail _ hf) hfk).2) z
     ·rw [List.mem_singleton] at z
      exact nd.1 (List.mem_map.mpr ⟨f,hf,z⟩)
    ·intro z
     rcases List.mem_append.mp z with z | z
     ·exact h0 z
     ·rw [List.mem_singleton] at z
      exact ne e (.head _) z.symm
  ·rcases List.mem_cons.mp h with q | q
   ·subst q;exact .head _
   ·exact .tail _ (et g (fun f hf=>hp f (.tail _ hf)) h0 nd.2 (fun f hf=>ne f (.tail _ hf)) e' q hk)
theorem HeldOk.back {os:List Row} {held:List En} (H:HeldOk os held) {e:En} (he:e ∈ held) (hk:e.k ≠ Str.ofString "pick"):HeldOk os (backR [e.w] held):=by
 refine ⟨by rw [eo];exact H.mt,?_,by rw [gt];exact H.nd,?_⟩
 ·intro f hf hfk
  exact H.pk f (et held [e.w] (fun x hx hxk=>⟨(H.pk x hx hxk).2,fun z=>by
   rw [List.mem_singleton] at z
   have:=ei H.nd hx he z
   subst this
   exact hk hxk⟩) (fun z=>by rw [List.mem_singleton] at z;exact H.ne e he z.symm) H.nd H.ne f hf hfk) hfk
 ·intro f hf
  have:f.w ∈ (backR [e.w] held).map (·.w):=List.mem_map.mpr ⟨f,hf,rfl⟩
  rw [gt] at this
  obtain ⟨x,hx,q⟩:=List.mem_map.mp this
  rw [← q];exact H.ne x hx
noncomputable def cz (held:List En) (w:Str) (wr:Bool):Src→List En
 | .th i=>held++[⟨w,kindS wr,i, "",true⟩]
 | .hd u=>match aL held u with
  | some e=>held++[⟨w,kindS wr,e.t,if e.k == Str.ofString "pick" then "" else e.w,e.o⟩]
  | none=>held
section
variable (Φ:Str→List D→Option D) (Γ:Str→Option D) (N:Nat)
theorem s8 (held:List En) (hl:held.length≤1000) (w:Str):runFn Φ Γ N fn_law_back [.tuple (held.map En.d),.str w]=some (.tuple ((backR [w] held).map En.d)):=by
 refine aq [some (.tuple (held.map En.d)),some (.str w),none,none,none] rfl rfl ?_
 dsimp only [fn_law_back]
 refine a7 (.list ([w].map .str)) rfl rfl (ak (.tuple []) rfl rfl ?_)
 refine aQ (b8 (fun k m=>∃ x4,m=[some (.tuple (held.map En.d)),some (.str w),some (.list (((held.take k).foldl bStep ([w],[])).1.map .str)),some (.tuple (((held.take k).foldl bStep ([w],[])).2.map En.d)),x4]) (cK (es:=held) (g:=En.d) (rfl)) rfl ⟨none,rfl⟩ (fun k vs m hk hI=>?_)) ?_
 ·obtain ⟨x4,rfl⟩:=hI
  obtain ⟨e,he,rfl⟩:=fQ hk
  have hkl:k < held.length:=(List.getElem?_eq_some_iff.mp he).1
  refine ⟨_,rfl,?_⟩
  have ht:held.take (k+1)=held.take k++[e]:=by rw [List.take_add_one,he];rfl
  have l1:=(em (held.take k) ([w],[])).1;have l2:=(em (held.take k) ([w],[])).2
  have lt:(held.take k).length≤1000:=by rw [List.length_take];lia
  rw [ht,List.foldl_append]
  simp only [List.foldl_cons,List.foldl_nil,sX,sN]
  generalize (held.take k).foldl bStep ([w],[])=s at l1 l2 ⊢
  obtain ⟨g,acc⟩:=s
  simp only [List.length_cons,List.length_nil] at l1 l2 ⊢
  refine ap (aK (Q:=fun m=>m=[some (.tuple (held.map En.d)),some (.str w),some (.list ((bStep (g,acc) e).1.map .str)),some (.tuple (acc.map En.d)),some (if hitB g e then e.gone else e).d]) (d:=.bool (hitB g e)) ?_ (al _) (fun q=>?_) (fun q=>?_)) ?_
  ·refine gO ?_ ?_
   ·exact aj (ad rfl rfl (En.idx0 e)) rfl (b9 e.w g)
   ·exact aj (ad rfl rfl (En.idx3 e)) rfl (b9 e.s g)
  ·refine bv (d:=.str e.w) rfl (rfl) rfl (by rw [lX];lia) ?_
   refine aw e.gone.d rfl rfl (ah ?_)
   simp only [bStep,q,if_true,List.map_append,List.map_cons,List.map_nil]
   rfl
  ·refine ah ?_
   simp only [bStep,q,Bool.false_eq_true,if_false]
  rintro _ rfl
  refine aw (.tuple ((bStep (g,acc) e).2.map En.d)) ?_ rfl (ah ⟨_,rfl⟩)
  simp only [x_v,cB,ba,aF,ar,gX,gN,bX,mX]
  rw [gm _ _ (by simp only [lX,List.length_cons,List.length_nil];lia)]
  unfold bStep
  split<;>simp
 ·refine al1 fun x4=>?_
  refine af ?_ rfl
  have:=cT held [w] []
  simp only [List.nil_append] at this
  simp only [x_v,gX,gN,bX,lX,List.take_length,this]
theorem vO (a:Str) (i:Int):bm .Eq (.str a) (.int i)=some false:=rfl
theorem s9 (held:List En) (hl:held.length≤1000) (nd:(held.map (·.w)).Nodup) (w:Str) (wr:Bool) (s:Src) (hs:∀ u,s = .hd u→∃ e ∈ held,e.w=u) :
 runFn Φ Γ N fn_law_lent [.tuple (held.map En.d),(Row.lend w wr s).d]=some (.tuple ((cz held w wr s).map En.d)):=by
 have i3:item (Row.lend w wr s).d (.int 3)=some s.d:=rfl
 have i1:item (Row.lend w wr s).d (.int 1)=some (.str w):=rfl
 have i2:item (Row.lend w wr s).d (.int 2)=some (.str (kindS wr)):=rfl
 refine aq [some (.tuple (held.map En.d)),some (Row.lend w wr s).d,none,none,none,none] rfl rfl ?_
 dsimp only [fn_law_lent]
 refine ak s.d (rfl) rfl (ak (.str "") rfl rfl (ak (.bool true) rfl rfl ?_))
 simp only [sX,sN]
 generalize hrow:(Row.lend w wr s).d=row at i1 i2 i3 ⊢
 cases s with
 | th i=>
  refine aQ (b8 (fun k m=>∃ x5,m=[some (.tuple (held.map En.d)),some row,some (.int i),some (.str ""),some (.bool true),x5]) (cK (es:=held) (g:=En.d) (rfl)) rfl ⟨none,rfl⟩ (fun k vs m hk hI=>?_)) ?_
  ·obtain ⟨x5,rfl⟩:=hI
   obtain ⟨e,he,rfl⟩:=fQ hk
   refine ⟨_,rfl,?_⟩
   refine ap (aK (Q:=fun m=>∃ x5,m=[some (.tuple (held.map En.d)),some row,some (.int i),some (.str ""),some (.bool true),x5]) (d:=.bool false) ?_ (al _) (fun q=>by cases q) (fun o_=>ah ⟨_,rfl⟩)) fun m e=>ah e
   exact aj (ad rfl rfl (En.idx0 e)) (ad rfl rfl i3) (vO e.w i)
  ·refine al1 fun x5=>?_
   refine af ?_ rfl
   simp only [x_k,x_v,cB,ba,bd,aF,ar,gX,gN,bX,mX,i1,i2]
   rw [gm _ _ (by simp only [lX,List.length_cons,List.length_nil];omega)]
   simp [cz,En.d]
 | hd u=>
  obtain ⟨e0,he0,hw0⟩:=hs u rfl
  subst hw0
  let T:Option En→D:=fun o=>match o with | some e=>.int e.t | none=>.str e0.w
  let S:Option En→Str:=fun o=>match o with | some e=>if e.k == Str.ofString "pick" then Str.ofString "" else e.w | none=>Str.ofString ""
  let O:Option En→Bool:=fun o=>match o with | some e=>e.o | none=>true
  refine aQ (b8 (fun k m=>∃ x5,m=[some (.tuple (held.map En.d)),some row,some (T ((held.take k).find? fun x=>x.w == e0.w)),some (.str (S ((held.take k).find? fun x=>x.w == e0.w))),some (.bool (O ((held.take k).find? fun x=>x.w == e0.w))),x5]) (cK (es:=held) (g:=En.d) (rfl)) rfl ⟨none,rfl⟩ (fun k vs m hk hI=>?_)) ?_
  ·obtain ⟨x5,rfl⟩:=hI
   obtain ⟨e,he,rfl⟩:=fQ hk
   have hkl:k < held.length:=(List.getElem?_eq_some_iff.mp he).1
   refine ⟨_,rfl,?_⟩
   have ht:held.take (k+1)=held.take k++[e]:=by rw [List.take_add_one,he];rfl
   rw [ht,List.find?_append]
   simp only [sX,sN]
   have hc:evE Φ Γ (.cmp .Eq (.idx (.v 5) (.k (.int 0))) (.idx (.v 1) (.k (.int 3)))) [some (.tuple (held.map En.d)),some row,some (T ((held.take k).find? fun x=>x.w == e0.w)),some (.str (S ((held.take k).find? fun x=>x.w == e0.w))),some (.bool (O ((held.take k).find? fun x=>x.w == e0.w))),some e.d]=some (.bool (e.w == e0.w)):=by
    exact aj (ad rfl rfl (En.idx0 e)) (ad rfl rfl i3) (jV e.w e0.w)
   cases hq:(e.w == e0.w) with
   | false=>
    rw [hq] at hc
    have h1:([e].find? fun x=>x.w == e0.w)=none:=by simp [hq]
    exact h1 ▸ Option.or_none ▸ (ap (aK (Q:=fun m=>∃ x5,m=[some (.tuple (held.map En.d)),some row,some (T ((held.take k).find? fun x=>x.w == e0.w)),some (.str (S ((held.take k).find? fun x=>x.w == e0.w))),some (.bool (O ((held.take k).find? fun x=>x.w == e0.w))),x5]) hc (al _) (fun q=>by cases q) (fun o_=>ah ⟨_,rfl⟩)) fun m e=>ah e)
   | true=>
    rw [hq] at hc
    have h1:([e].find? fun x=>x.w == e0.w)=some e:=by simp [hq]
    have h2:((held.take k).find? fun x=>x.w == e0.w)=none:=by
     rw [List.find?_eq_none]
     intro x hx z
     have hx2:x.w=e.w:=by rw [beq_iff_eq] at z hq;rw [z,hq]
     have nd2:=nd
     rw [← List.take_append_drop (k+1) held,ht,List.append_assoc,List.map_append,List.nodup_append] at nd2
     exact nd2.2.2 x.w (List.mem_map.mpr ⟨x,hx,rfl⟩) e.w (List.mem_map.mpr ⟨e,by simp,rfl⟩) hx2
    rw [h1,h2,Option.none_or]
    refine ap (aK (Q:=fun m=>∃ x5,m=[some (.tuple (held.map En.d)),some row,some (T (some e)),some (.str (S (some e))),some (.bool (O (some e))),x5]) (by rw [h2] at hc;exact hc) (al _) (fun o_=>?_) (fun q=>by cases q)) fun m e=>ah e
    refine aw (.int e.t) (rfl) rfl (aw (.bool e.o) (rfl) rfl ?_)
    simp only [sX,sN]
    refine ap (aK (Q:=fun m=>∃ x5,m=[some (.tuple (held.map En.d)),some row,some (T (some e)),some (.str (S (some e))),some (.bool (O (some e))),x5]) (d:=.bool (!(e.k == Str.ofString "pick"))) (rfl) (al _) (fun q=>?_) (fun q=>?_)) fun m e=>ah e
    ·have q2:(e.k == Str.ofString "pick")=false:=by simpa using q
     refine aw (.str e.w) (rfl) rfl (ah ⟨some e.d,?_⟩)
     simp only [T,S,O,q2];rfl
    ·have q2:(e.k == Str.ofString "pick")=true:=by simpa using q
     refine ah ⟨some e.d,?_⟩
     simp only [T,S,O,q2];rfl
  ·refine al1 fun x5=>?_
   have hf2:(held.find? fun x=>x.w == e0.w)=some e0:=(a8 nd he0)
   refine af ?_ rfl
   simp only [x_k,x_v,cB,ba,bd,aF,ar,lX,List.take_length,hf2,gX,gN,bX,mX,i1,i2,T,S,O]
   rw [gm _ _ (by simp only [lX,List.length_cons,List.length_nil];omega)]
   simp [cz,(a8 nd he0),En.d]
end
end Mine
set_option tactic.hygienic false
namespace Mine
open PySem
noncomputable def Row.isAgain:Row→Bool
 | .again=>true
 | _=>false
noncomputable def aD (rows:List Row) (k:Nat) (row:Row) (held:List En) (c:Int):Nat × List En:=
 match row with
 | .lend w q s=>(k+1,cz held w q s)
 | .pick w ts=>(k+1,held++[⟨w, "pick",ts.getD (c.fmod ts.length).toNat 0, "",true⟩])
 | .deed v w=>(k+1,if v = .back then backR [w] held else held)
 | .either=>(((startL rows k).getD (c.fmod (startL rows k).length).toNat 0).toNat,held)
 | .orr=>((endAt rows (home rows k).toNat rows.length).toNat,held)
 | .again=>if c.fmod 2=0 then ((endAt rows k rows.length).toNat+1,held) else (k+1,held)
 | .fin=>if isAt rows Row.isAgain (home rows k).toNat then ((home rows k).toNat,held) else if isAt rows Row.isEither (home rows k).toNat then (k+1,held) else (k+1,held.dropLast)
theorem qh (rows:List Row) (k:Nat) (held:List En) (c:Int) (w:Str) (q:Bool) (s:Src):aD rows k (Row.lend w q s) held c=(k+1,cz held w q s):=rfl
theorem qi (rows:List Row) (k:Nat) (held:List En) (c:Int) (w:Str) (ts:List Int):aD rows k (Row.pick w ts) held c=(k+1,held++[(⟨w, "pick",ts.getD (c.fmod ts.length).toNat 0, "",true⟩:En)]):=rfl
theorem qj (rows:List Row) (k:Nat) (held:List En) (c:Int) (v:Verb) (w:Str):aD rows k (Row.deed v w) held c=(k+1,if v=Verb.back then backR [w] held else held):=rfl
theorem g5 (rows:List Row) (k:Nat) (held:List En) (c:Int):aD rows k Row.either held c=(((startL rows k).getD (c.fmod ↑(startL rows k).length).toNat 0).toNat,held):=rfl
theorem g6 (rows:List Row) (k:Nat) (held:List En) (c:Int):aD rows k Row.orr held c=((endAt rows (home rows k).toNat rows.length).toNat,held):=rfl
theorem eu (rows:List Row) (k:Nat) (held:List En) (c:Int):aD rows k Row.again held c=if c.fmod 2=0 then ((endAt rows k rows.length).toNat+1,held) else (k+1,held):=rfl
theorem g7 (rows:List Row) (k:Nat) (held:List En) (c:Int):aD rows k Row.fin held c=if isAt rows Row.isAgain (home rows k).toNat=true then ((home rows k).toNat,held) else if isAt rows Row.isEither (home rows k).toNat=true then (k+1,held) else (k+1,held.dropLast):=rfl
theorem HeldOk.congr {os os':List Row} {held:List En} (H:HeldOk os held) (h:os'.filter Row.isNamed=os.filter Row.isNamed):HeldOk os' held:=⟨by rw [h];exact H.mt,H.pk,H.nd,H.ne⟩
theorem HeldOk.mem' {os:List Row} {held:List En} (H:HeldOk os held) {e:En} (he:e ∈ held):∃ x ∈ os,x.isNamed=true∧x.word=e.w∧x.kindS=e.k:=by
 have:(e.w,e.k) ∈ held.map fun e=>(e.w,e.k):=List.mem_map.mpr ⟨e,he,rfl⟩
 rw [H.mt,List.mem_reverse] at this
 obtain ⟨x,hx,q⟩:=List.mem_map.mp this
 rw [List.mem_filter] at hx
 simp only [Prod.mk.injEq] at q
 exact ⟨x,hx.1,hx.2,q.1,q.2⟩
theorem HeldOk.push {os:List Row} {held:List En} (H:HeldOk os held) {row:Row} (hn:row.isNamed=true) {e:En} (h1:e.w=row.word) (h2:e.k=row.kindS) (h3:e.k=Str.ofString "pick" → e.o=true∧e.s=Str.ofString "") (hf:dI os row.word):HeldOk (row::os) (held++[e]):=by
 refine ⟨?_,?_,?_,?_⟩
 ·have hrw:(row::os).filter Row.isNamed=row::os.filter Row.isNamed:=by rw [List.filter_cons,if_pos hn]
  rw [hrw,List.map_append,H.mt]
  simp [h1,h2]
 ·intro x hx hk
  rcases List.mem_append.mp hx with q | q
  ·exact H.pk x q hk
  ·rw [List.mem_singleton] at q;subst q;exact h3 hk
 ·rw [List.map_append,List.nodup_append]
  refine ⟨H.nd,by simp,fun a ha b hb q=>?_⟩
  rw [List.map_cons,List.map_nil,List.mem_singleton] at hb
  obtain ⟨x,hx,rfl⟩:=List.mem_map.mp ha
  obtain ⟨y,hy,hyn,hyw,_⟩:=H.mem' hx
  exact hf.2 y hy hyn (by rw [hyw,q,hb,h1])
 ·intro x hx
  rcases List.mem_append.mp hx with q | q
  ·exact H.ne x q
  ·rw [List.mem_singleton] at q;subst q;rw [h1];exact hf.1
theorem HeldOk.pop {os:List Row} {held:List En} {row:Row} (H:HeldOk (row::os) held) (hn:row.isNamed=true):HeldOk os held.dropLast:=by
 refine ⟨?_,fun e he=>H.pk e ((List.dropLast_sublist held).subset he),H.nd.sublist ((List.dropLast_sublist held).map _),fun e he=>H.ne e ((List.dropLast_sublist held).subset he)⟩
 have:=congrArg List.dropLast H.mt
 rw [List.filter_cons,if_pos hn,List.map_cons,List.reverse_cons,List.dropLast_concat] at this
 rw [← this,List.map_dropLast]
theorem fh {rows:List Row} {k:Nat} {r:Row} (h:rows[k]?=some r):ost rows (k+1)=push r (ost rows k):=by
 unfold ost
 rw [a9 h,stp]
 unfold push
 split
 ·simp [List.getD,h]
 ·split
  ·rw [List.map_tail]
  ·rfl
theorem db {rows:List Row} {k j:Nat} (h:home rows k=(j:Int)):ost rows k=rows.getD j .fin::ost rows j:=by
 unfold ost
 rw [p8 h];rfl
theorem j9 {rows:List Row} {k:Nat} (h:k≤rows.length):(ost rows k).length≤rows.length:=by
 unfold ost
 rw [lX]
 exact Nat.le_trans (fO rows k) h
theorem HeldOk.len {os:List Row} {held:List En} (H:HeldOk os held):held.length≤os.length:=by
 have:=congrArg List.length H.mt
 simp only [lX,List.length_reverse] at this
 rw [this];exact List.length_filter_le _ _
theorem df {rows:List Row} {k:Nat} (h:ost rows k ≠ []):∃ j:Nat,home rows k=(j:Int):=by
 rcases n5 rows k with q | ⟨j,q,_⟩
 ·exfalso
  unfold home at q
  cases hs:stk rows k with
  | nil=>exact h (by unfold ost;rw [hs];rfl)
  | cons x l=>rw [hs] at q;simp only [gr] at q;omega
 ·exact ⟨j,q⟩
theorem aC {rows:List Row} {j:Nat} (hj:j < rows.length):rows[j]?=some (rows.getD j .fin):=by
 rw [List.getElem?_eq_getElem hj];simp [List.getD,List.getElem?_eq_getElem hj]
structure Goes (rows:List Row) (k:Nat) (row:Row) (c:Int) (k':Nat):Prop where
 le:k'≤rows.length
 way:(row.isAgain=false∧k < k')∨(row.isAgain=false∧isAt rows Row.isAgain k'=true∧endAt rows k' rows.length=(k:Int))∨(row.isAgain=true∧((k'=k+1∧c.fmod 2 ≠ 0)∨∃ e:Nat,endAt rows k rows.length=(e:Int)∧k'=e+1))
theorem dK {rows:List Row} {k i:Nat} {x:Int} (h:(startL rows k)[i]?=some x):x=(k:Int)+1∨∃ j:Nat,x=(j:Int)+1∧j < rows.length∧isAt rows Row.isOr j=true∧home rows j=(k:Int):=by
 unfold startL at h
 cases i with
 | zero=>simp at h;exact .inl h.symm
 | succ i=>
  rw [gX,List.getElem?_map] at h
  obtain ⟨j,hj,rfl⟩:=Option.map_eq_some_iff.mp h
  have:=List.mem_of_getElem? hj
  rw [List.mem_filter,List.mem_range,Bool.and_eq_true,beq_iff_eq] at this
  exact .inr ⟨j,rfl,this.1,this.2.1,this.2.2⟩
theorem g8 (rows:List Row) (k:Nat) (c:Int):∃ x,(startL rows k)[(c.fmod (startL rows k).length).toNat]?=some x∧item (.list ((startL rows k).map .int)) (.int (c.fmod (startL rows k).length))=some (.int x):=by
 have hp:0 < (startL rows k).length:=by simp [startL]
 have f2:=aB c (b:=((startL rows k).length:Int)) (by exact Int.ofNat_lt.mpr hp)
 have hlt:(c.fmod (startL rows k).length).toNat < (startL rows k).length:=by omega
 refine ⟨_,List.getElem?_eq_getElem hlt,?_⟩
 exact p_mk (k:=(c.fmod (startL rows k).length).toNat) (aW (av c (b:=((startL rows k).length:Int)) (by exact Int.ofNat_lt.mpr hp)) (by simpa using f2)) (by rw [List.getElem?_map,List.getElem?_eq_getElem hlt];rfl)
theorem bW {row:Row} {os:List Row} (h:row.isNamed=false):(row::os).filter Row.isNamed=os.filter Row.isNamed:=by rw [List.filter_cons,h];rfl
set_option tactic.hygienic true in
theorem kb {rows:List Row} (nd:Nested rows) (wf:WfR [] rows) {k:Nat} {row:Row} (hr:rows[k]?=some row) {held:List En} (H:HeldOk (ost rows k) held) (c:Int) :
 Goes rows k row c (aD rows k row held c).1∧HeldOk (ost rows (aD rows k row held c).1) (aD rows k row held c).2:=by
 have hk:k < rows.length:=(List.getElem?_eq_some_iff.mp hr).1
 have hv:=cP wf hr
 have hs:=fh hr
 cases row with
 | lend w q s=>
  refine ⟨⟨hk,.inl ⟨rfl,Nat.lt_succ_self k⟩⟩,?_⟩
  show HeldOk (ost rows (k+1)) (cz held w q s)
  rw [hs]
  show HeldOk (Row.lend w q s::ost rows k) _
  have hp:∀ (t:Int) (sr:Str) (o:Bool),HeldOk (Row.lend w q s::ost rows k) (held++[⟨w,kindS q,t,sr,o⟩]):=fun t sr o=>H.push rfl rfl rfl (fun z=>absurd z (eL q)) hv.1
  cases s with
  | th i=>exact hp _ _ _
  | hd u=>
   refine byG fun X_ g_=>?_
   obtain ⟨_,x,hx,hn,hu,_⟩:=hv
   obtain ⟨e,he,hw,_⟩:=H.mem hx hn
   refine g_ ?_
   have:aL held u=some e:=by rw [← hu,← hw];exact a8 H.nd he
   simp only [cz,this]
   exact hp _ _ _
 | pick w ts=>
  refine ⟨⟨hk,.inl ⟨rfl,Nat.lt_succ_self k⟩⟩,?_⟩
  show HeldOk (ost rows (k+1)) _
  rw [hs]
  exact H.push rfl rfl rfl (fun o_=>⟨rfl,rfl⟩) hv.1
 | deed v w=>
  refine ⟨⟨hk,.inl ⟨rfl,Nat.lt_succ_self k⟩⟩,?_⟩
  show HeldOk (ost rows (k+1)) (if v = .back then backR [w] held else held)
  rw [hs]
  show HeldOk (ost rows k) _
  split
  ·refine byG fun X_ g_=>?_
   obtain ⟨x,hx,hl,hu,_⟩:=hv
   obtain ⟨e,he,hw,hkk⟩:=H.mem hx (da hl)
   refine g_ ?_
   have:=H.back he (by rw [hkk];unfold Row.kindS;rw [if_pos hl];exact eL _)
   rw [hw,hu] at this
   exact this
  ·exact H
 | either=>
  refine byG fun X_ g_=>?_
  obtain ⟨x,e1,_⟩:=g8 rows k c
  refine g_ ?_
  have hst:(aD rows k .either held c)=(x.toNat,held):=by simp only [g5,List.getD,e1,Option.getD_some]
  rw [hst]
  rcases dK e1 with q | ⟨j,q,hj,ho,hh⟩
  ·subst q
   rw [show ((k:Int)+1).toNat=k+1 by omega]
   refine ⟨⟨hk,.inl ⟨rfl,Nat.lt_succ_self k⟩⟩,?_⟩
   show HeldOk (ost rows (k+1)) held
   rw [hs]
   exact H.congr (bW rfl)
  ·subst q
   rw [show ((j:Int)+1).toNat=j+1 by omega]
   refine ⟨⟨hj,.inl ⟨rfl,by exact Nat.le.step (bT hh)⟩⟩,?_⟩
   show HeldOk (ost rows (j+1)) held
   have:(rows.getD j .fin).isOr=true:=by rw [← aG (aC hj) Row.isOr];exact ho
   have hpush:push (rows.getD j .fin) (ost rows j)=ost rows j:=by
    generalize rows.getD j .fin=y at this ⊢
    cases y<;>first | rfl | cases this
   rw [fh (aC hj),hpush,db hh]
   have hg:rows.getD k .fin = .either:=by simp [List.getD,hr]
   exact hg ▸ (H.congr (bW rfl))
 | again=>
  obtain ⟨e,he,hel,hke,hfe,hhe⟩:=bV nd (j:=k) (by rw [aG hr];rfl)
  simp only [eu]
  split
  ·rw [he,Int.toNat_natCast]
   refine ⟨⟨hel,.inr (.inr ⟨rfl,.inr ⟨e,he,rfl⟩⟩)⟩,?_⟩
   show HeldOk (ost rows (e+1)) held
   have hf:(rows.getD e .fin).isFin=true:=by rw [← aG (aC hel) Row.isFin];exact hfe
   have hpush:∀ os,push (rows.getD e .fin) os=os.tail:=fun os=>by
    generalize rows.getD e .fin=y at hf ⊢
    cases y<;>first | rfl | cases hf
   rw [fh (aC hel),hpush,db hhe]
   exact H
  ·rename_i hc
   refine ⟨⟨hk,.inr (.inr ⟨rfl,.inl ⟨rfl,hc⟩⟩)⟩,?_⟩
   show HeldOk (ost rows (k+1)) held
   rw [hs]
   exact H.congr (bW rfl)
 | orr=>
  have hne:ost rows k ≠ []:=by
   intro q
   have hv:(ost rows k).head?.any Row.isEither=true:=hv
   rw [q] at hv;cases hv
  refine byG fun X_ g_=>?_
  obtain ⟨j,hj⟩:=df hne
  have hjk:=bT hj
  have hoj:=bI rows k j (b0 hj)
  obtain ⟨e,he,hel,hje,hfe,hhe⟩:=bV nd hoj
  refine g_ ?_
  have hke:k < e:=by
   rcases Nat.lt_trichotomy k e with q | q | q
   ·exact q
   ·subst q
    rw [aG hr] at hfe;cases hfe
   ·exact (kX hfe hhe hj q).elim
  have hst:(aD rows k .orr held c)=(e,held):=by simp only [g6,hj,Int.toNat_natCast,he]
  rw [hst]
  refine ⟨⟨Nat.le_of_lt hel,.inl ⟨rfl,hke⟩⟩,?_⟩
  show HeldOk (ost rows e) held
  rw [db hhe,← db hj]
  exact H
 | fin=>
  obtain ⟨j,hj⟩:=df (show ost rows k ≠ [] from hv)
  have hjk:=bT hj
  have hrj:=aC (rows:=rows) (j:=j) (by omega)
  rw [db hj] at H
  have hs':ost rows (k+1)=ost rows j:=by rw [hs,db hj];rfl
  simp only [g7,hj,Int.toNat_natCast]
  split
  ·rename_i ha
   refine ⟨⟨by omega,.inr (.inl ⟨rfl,ha,(fe (by rw [aG hr];rfl) hj _ hk)⟩)⟩,?_⟩
   show HeldOk (ost rows j) held
   rw [aG hrj] at ha
   refine H.congr (bW ?_).symm
   generalize rows.getD j .fin=y at ha
   cases y<;>first | rfl | cases ha
  ·rename_i ha
   split
   ·rename_i hei
    refine ⟨⟨hk,.inl ⟨rfl,Nat.lt_succ_self k⟩⟩,?_⟩
    show HeldOk (ost rows (k+1)) held
    rw [hs']
    rw [aG hrj] at hei
    refine H.congr (bW ?_).symm
    generalize rows.getD j .fin=y at hei
    cases y<;>first | rfl | cases hei
   ·rename_i hei
    refine ⟨⟨hk,.inl ⟨rfl,Nat.lt_succ_self k⟩⟩,?_⟩
    show HeldOk (ost rows (k+1)) held.dropLast
    rw [hs']
    refine H.pop ?_
    have hoj:=bI rows k j (b0 hj)
    rw [aG hrj] at ha hei hoj
    generalize rows.getD j .fin=y at ha hei hoj
    cases y<;>first | rfl | (exact absurd rfl ha) | (exact absurd rfl hei) | cases hoj
noncomputable def mu (rows:List Row) (t k:Nat):Nat:=
 if isAt rows Row.isAgain k=true then (if t < 20 then (20 - t) * (2 * rows.length+4) - 1 else 2 * (rows.length - (endAt rows k rows.length).toNat) - 1)
 else (20 - t) * (2 * rows.length+4)+2 * (rows.length - k)
end Mine
set_option tactic.hygienic false
namespace Mine
open PySem
noncomputable def stD (p:Nat × List En):D:=.tuple [.int (p.1:Int),.tuple (p.2.map En.d)]
set_option tactic.hygienic true in
theorem jc (r:Row):(r.tag == Str.ofString "again")=r.isAgain:=by
 cases r<;>first | rfl | (rename_i v w;cases v<;>rfl)
noncomputable def Row.chooses:Row→Bool
 | .pick ..=>true
 | .either=>true
 | .again=>true
 | _=>false
set_option tactic.hygienic true in
theorem kc (r:Row):(["pick", "either", "again"].any fun y=>Str.ofString y == r.tag)=r.chooses:=by
 cases r<;>first | rfl | (rename_i v w;cases v<;>rfl)
theorem gu (r:Row):pyIn (.str r.tag) (.list [.str "pick",.str "either",.str "again"])=some r.chooses:=by
 rw [← kc];exact b9 r.tag (["pick", "either", "again"].map Str.ofString)
theorem lf (l:List D):cut l none (some (-1))=l.dropLast:=by
 have hc:cF l.length (-1)=l.length - 1:=by unfold cF;rw [if_pos (by decide)];lia
 simp only [cut,Option.map_none,Option.getD_none,mX,Option.getD_some,hc,List.drop_zero,Nat.sub_zero]
 rw [List.dropLast_eq_take]
section
variable {Φ:Str→List D→Option D} {Γ:Str→Option D} {m:St} {ow:List Nat} {fr:Bool} {N:Nat}
theorem qk {c:Ex} {body:Sms} {Q:St→Prop} (I:Nat→St→Prop) (hs:∀ n m,I n m→∃ b,(evE Φ Γ c m).bind truth=some b∧(b=false→Q m)∧(b=true→Go (exSs Φ Γ ow fr N body m) (fun m'=>∃ n',n' < n∧I n' m'))) (n:Nat) (m:St) (hn:n < N) (h:I n m):Go (exS Φ Γ ow fr N (.wh c body) m) Q:=by
 have main:∀ (f n:Nat) (m:St),n < f→I n m→Go (whL (fun m=>(evE Φ Γ c m).bind truth) (fun m=>exSs Φ Γ ow fr N body m) f m) Q:=by
  intro f
  induction f with
  | zero=>intro n m h _;lia
  | succ f ih=>
   intro n m hf h
   obtain ⟨b,h1,h2,h3⟩:=hs n m h
   cases b with
   | false=>exact ⟨m,by simp only [ln,h1],h2 rfl⟩
   | true=>
    refine byG fun X_ g_=>?_
    obtain ⟨m1,e1,n',hn',hI⟩:=h3 rfl
    obtain ⟨m2,e2,hQ⟩:=ih n' m1 (by lia) hI
    refine g_ ?_
    exact ⟨m2,by simp only [ln,h1,e1];exact e2,hQ⟩
 have:=main N n m hn h
 have hex:exS Φ Γ ow fr N (.wh c body) m=whL (fun m=>(evE Φ Γ c m).bind truth) (fun m=>exSs Φ Γ ow fr N body m) N m:=by rfl
 rw [hex];exact this
end
section
variable (Φ:Str→List D→Option D) (Γ:Str→Option D) (N:Nat)
theorem ta (rows:List Row) (hl:rows.length≤1000) (nd:Nested rows) (wf:WfR [] rows)
 (hlent:∀ (held:List En),held.length≤1000→(held.map (·.w)).Nodup→∀ (w:Str) (wr:Bool) (s:Src),(∀ u,s = .hd u→∃ e ∈ held,e.w=u)→Φ "_law_lent" [.tuple (held.map En.d),(Row.lend w wr s).d]=some (.tuple ((cz held w wr s).map En.d)))
 (hback:∀ (held:List En),held.length≤1000→∀ w:Str,Φ "_law_back" [.tuple (held.map En.d),.str w]=some (.tuple ((backR [w] held).map En.d)))
 (hstart:∀ (j:Nat),j < rows.length→Φ "_law_starts" [.list (rows.map Row.d),.list ((homeL rows).map .int),.int (j:Int)]=some (.list ((startL rows j).map .int)))
 (hlast:∀ (j:Nat),j < rows.length→Φ "_law_last" [.list (rows.map Row.d),.list ((homeL rows).map .int),.int (j:Int)]=some (.int (endAt rows j rows.length)))
 (k:Nat) (row:Row) (hr:rows[k]?=some row) (held:List En) (H:HeldOk (ost rows k) held) (c:Int) :
 runFn Φ Γ N fn_law_step [.list (rows.map Row.d),.list ((homeL rows).map .int),stD (k,held),.int c]=some (stD (aD rows k row held c)):=by
 have hk:k < rows.length:=(List.getElem?_eq_some_iff.mp hr).1
 have hhl:held.length≤1000:=Nat.le_trans H.len (Nat.le_trans (j9 (Nat.le_of_lt hk)) hl)
 have hv:=cP wf hr
 have i0:item (stD (k,held)) (.int 0)=some (.int (k:Int)):=rfl
 have i1:item (stD (k,held)) (.int 1)=some (.tuple (held.map En.d)):=rfl
 have hg:=aV hr
 have hh:=bK (bU hk)
 refine aq [some (.list (rows.map Row.d)),some (.list ((homeL rows).map .int)),some (stD (k,held)),some (.int c),none,none,none,none,none] rfl rfl ?_
 dsimp only [fn_law_step]
 generalize hst:stD (k,held)=st at i0 i1 ⊢
 refine ak (.int (k:Int)) (ad rfl rfl i0) rfl (ak (.tuple (held.map En.d)) (ad rfl rfl i1) rfl (ak (.str row.tag) (ad (ad rfl rfl hg) rfl (Row.i0 row)) rfl ?_))
 simp only [sX,sN]
 generalize hR:PyData.list (rows.map Row.d)=R at *
 generalize hHm:PyData.list ((homeL rows).map .int)=Hm at *
 cases row with
 | lend w q s=>
  refine aQ (Q':=fun m=>m=[some R,some Hm,some st,some (.int c),some (.int (k:Int)),some (.tuple ((cz held w q s).map En.d)),some (.str (Row.lend w q s).tag),none,none]) (aK (d:=.bool true) rfl rfl (fun o_=>aw (.tuple ((cz held w q s).map En.d)) (ai (esC rfl (esC (ad rfl rfl hg) es0)) (hlent held hhl H.nd w q s (fun u hu=>by
   subst hu
   refine byG fun X_ g_=>?_
   obtain ⟨_,x,hx,hn,hu,_⟩:=hv
   obtain ⟨e,he,hw,_⟩:=H.mem hx hn
   refine g_ ?_
   exact ⟨e,he,hw.trans hu⟩))) rfl (ah rfl)) (fun z=>by cases z)) ?_
  rintro _ rfl
  exact ae (x:=.bool false) rfl rfl (ae (x:=.bool false) rfl rfl (ae (x:=.bool false) rfl rfl (ae (x:=.bool false) rfl rfl (ae (x:=.bool false) rfl rfl (ae (x:=.bool false) rfl rfl (ae (x:=.bool false) rfl rfl (af rfl rfl)))))))
 | pick w ts=>
  have hne:0 < ts.length:=by
   cases ts with
   | nil=>exact absurd rfl hv.2.1
   | cons=>simp
  have f2:=aB c (b:=(ts.length:Int)) (by exact Int.ofNat_lt.mpr hne)
  have hlt:(c.fmod ts.length).toNat < ts.length:=by omega
  have hit:item (.tuple (ts.map .int)) (.int (c.fmod ts.length))=some (.int (ts.getD (c.fmod ts.length).toNat 0)):=
   uB (k:=(c.fmod ts.length).toNat) (aW (av c (b:=(ts.length:Int)) (by exact Int.ofNat_lt.mpr hne)) (by simpa using f2)) (by rw [List.getElem?_map,List.getElem?_eq_getElem hlt];simp [List.getD,List.getElem?_eq_getElem hlt])
  have j1:item (Row.pick w ts).d (.int 1)=some (.str w):=rfl
  refine ae (x:=.bool false) rfl rfl ?_
  refine aQ (Q':=fun m=>∃ x7,m=[some R,some Hm,some st,some (.int c),some (.int (k:Int)),some (.tuple ((held++[⟨w, "pick",ts.getD (c.fmod ts.length).toNat 0, "",true⟩]:List En).map En.d)),some (.str (Row.pick w ts).tag),x7,none]) (aK (d:=.bool true) rfl rfl (fun o_=>?_) (fun z=>by cases z)) ?_
  ·refine aw (.tuple (ts.map .int)) (ad (ad rfl rfl hg) rfl rfl) rfl ?_
   simp only [sX,sN]
   refine aw (.tuple ((held++[⟨w, "pick",ts.getD (c.fmod ts.length).toNat 0, "",true⟩]:List En).map En.d)) ?_ rfl (ah ⟨_,rfl⟩)
   simp only [x_k,x_v,cB,ba,bd,x_b1,aF,ar,nO,lX,gX,gN,bX,mX,hg,j1,bw _ (ts.length:Int) (by lia),hit]
   rw [gm _ _ (by simp only [lX,List.length_cons,List.length_nil];lia)]
   simp [En.d]
  refine al1 fun x7=>?_
  exact ae (x:=.bool false) rfl rfl (ae (x:=.bool false) rfl rfl (ae (x:=.bool false) rfl rfl (ae (x:=.bool false) rfl rfl (ae (x:=.bool false) rfl rfl (ae (x:=.bool false) rfl rfl (af rfl rfl))))))
 | deed v w=>
  by_cases hb:v = .back
  ·subst hb
   refine ae (x:=.bool false) rfl rfl (ae (x:=.bool false) rfl rfl ?_)
   refine aQ (Q':=fun m=>m=[some R,some Hm,some st,some (.int c),some (.int (k:Int)),some (.tuple ((backR [w] held).map En.d)),some (.str (Row.deed .back w).tag),none,none]) (aK (d:=.bool true) rfl rfl (fun o_=>aw (.tuple ((backR [w] held).map En.d)) (ai (esC rfl (esC (ad (ad rfl rfl hg) rfl rfl) es0)) (hback held hhl w)) rfl (ah rfl)) (fun z=>by cases z)) ?_
   rintro _ rfl
   exact ae (x:=.bool false) rfl rfl (ae (x:=.bool false) rfl rfl (ae (x:=.bool false) rfl rfl (ae (x:=.bool false) rfl rfl (ae (x:=.bool false) rfl rfl (af rfl rfl)))))
  ·have hso:aD rows k (.deed v w) held c=(k+1,held):=by simp only [qj,if_neg hb]
   rw [hso]
   cases v with
   | back=>exact absurd rfl hb
   | look=>exact ae (x:=.bool false) rfl rfl (ae (x:=.bool false) rfl rfl (ae (x:=.bool false) rfl rfl (ae (x:=.bool false) rfl rfl (ae (x:=.bool false) rfl rfl (ae (x:=.bool false) rfl rfl (ae (x:=.bool false) rfl rfl (ae (x:=.bool false) rfl rfl (af rfl rfl))))))))
   | change=>exact ae (x:=.bool false) rfl rfl (ae (x:=.bool false) rfl rfl (ae (x:=.bool false) rfl rfl (ae (x:=.bool false) rfl rfl (ae (x:=.bool false) rfl rfl (ae (x:=.bool false) rfl rfl (ae (x:=.bool false) rfl rfl (ae (x:=.bool false) rfl rfl (af rfl rfl))))))))
 | either=>
  obtain ⟨x,e1,e2⟩:=g8 rows k c
  have hp:0 < (startL rows k).length:=by simp [startL]
  have hx:(x.toNat:Int)=x:=by
   rcases dK e1 with q | ⟨j,q,_⟩<;>lia
  refine ae (x:=.bool false) rfl rfl (ae (x:=.bool false) rfl rfl (ae (x:=.bool false) rfl rfl ?_))
  refine am (x:=.bool true) rfl rfl (ak (.list ((startL rows k).map .int)) (ai (esC rfl (esC rfl (esC rfl es0))) (hstart k hk)) rfl ?_)
  simp only [sX,sN]
  refine af ?_ rfl
  have hso:aD rows k .either held c=(x.toNat,held):=by simp only [g5,List.getD,e1,Option.getD_some]
  rw [hso]
  simp only [x_v,cB,ba,bd,x_b1,aF,ar,cL,lX,gX,gN,bX,mX,bw _ ((startL rows k).length:Int) (by lia),e2,stD,hx]
 | orr=>
  have hne:ost rows k ≠ []:=by
   intro q
   have hv:(ost rows k).head?.any Row.isEither=true:=hv
   rw [q] at hv;cases hv
  refine byG fun X_ g_=>?_
  obtain ⟨j,hj⟩:=df hne
  have hjk:=bT hj
  obtain ⟨e,he,hel,hje,hfe,hhe⟩:=bV nd (bI rows k j (b0 hj))
  refine g_ ?_
  rw [hj] at hh
  refine ae (x:=.bool false) rfl rfl (ae (x:=.bool false) rfl rfl (ae (x:=.bool false) rfl rfl (ae (x:=.bool false) rfl rfl ?_)))
  refine am (x:=.bool true) rfl rfl (af ?_ rfl)
  have hso:aD rows k .orr held c=(e,held):=by simp only [g6,hj,Int.toNat_natCast,he]
  rw [hso]
  simp only [x_v,cB,bd,be,aF,ar,gX,gN,bX,mX,hh,hlast j (by lia),he,stD]
 | again=>
  obtain ⟨e,he,hel,hke,hfe,hhe⟩:=bV nd (j:=k) (by rw [aG hr];rfl)
  refine ae (x:=.bool false) rfl rfl (ae (x:=.bool false) rfl rfl (ae (x:=.bool false) rfl rfl (ae (x:=.bool false) rfl rfl (ae (x:=.bool false) rfl rfl ?_))))
  have hc:evE Φ Γ (.bool true (.cons (.cmp .Eq (.v 6) (.k (.str "again"))) (.cons (.cmp .Eq (.bin .Mod (.v 3) (.k (.int 2))) (.k (.int 0))) .nil))) [some R,some Hm,some st,some (.int c),some (.int (k:Int)),some (.tuple (held.map En.d)),some (.str Row.again.tag),none,none]=some (.bool (true&&(c.fmod 2 == 0))):=by
   refine aH rfl ?_
   exact rfl
  by_cases h2:c.fmod 2=0
  ·have hso:aD rows k .again held c=(e+1,held):=by simp only [eu,if_pos h2,he,Int.toNat_natCast]
   rw [hso]
   refine am hc (by rw [h2];rfl) (af ?_ rfl)
   simp only [x_k,x_v,cB,ba,be,aF,ar,cC,gX,gN,bX,mX,hlast k hk,he]
   rfl
  ·have hso:aD rows k .again held c=(k+1,held):=by simp only [eu,if_neg h2]
   rw [hso]
   refine ae hc (by rw [al];simp [h2]) ?_
   exact ae (x:=.bool false) rfl rfl (ae (x:=.bool false) rfl rfl (af rfl rfl))
 | fin=>
  obtain ⟨j,hj⟩:=df (show ost rows k ≠ [] from hv)
  have hjk:=bT hj
  have hgj:=aV (aC (rows:=rows) (j:=j) (by lia))
  rw [hR] at hgj
  rw [hj] at hh
  have ia:=aG (aC (rows:=rows) (j:=j) (by lia)) Row.isAgain
  have ie:=aG (aC (rows:=rows) (j:=j) (by lia)) Row.isEither
  generalize rows.getD j .fin=y at hgj ia ie
  refine ae (x:=.bool false) rfl rfl (ae (x:=.bool false) rfl rfl (ae (x:=.bool false) rfl rfl (ae (x:=.bool false) rfl rfl (ae (x:=.bool false) rfl rfl (ae (x:=.bool false) rfl rfl ?_)))))
  have hc1:evE Φ Γ (.bool true (.cons (.cmp .Eq (.v 6) (.k (.str "end"))) (.cons (.cmp .Eq (.idx (.idx (.v 0) (.idx (.v 1) (.v 4))) (.k (.int 0))) (.k (.str "again"))) .nil))) [some R,some Hm,some st,some (.int c),some (.int (k:Int)),some (.tuple (held.map En.d)),some (.str Row.fin.tag),none,none]=some (.bool (true&&y.isAgain)):=by
   refine aH rfl ?_
   exact aj (ad (ad rfl (ad rfl rfl hh) hgj) rfl (Row.i0 y)) rfl (congrArg some (jc y))
  have hc2:evE Φ Γ (.bool true (.cons (.cmp .Eq (.v 6) (.k (.str "end"))) (.cons (.cmp .NotEq (.idx (.idx (.v 0) (.idx (.v 1) (.v 4))) (.k (.int 0))) (.k (.str "either"))) .nil))) [some R,some Hm,some st,some (.int c),some (.int (k:Int)),some (.tuple (held.map En.d)),some (.str Row.fin.tag),none,none]=some (.bool (true&&!y.isEither)):=by
   refine aH rfl ?_
   simp only [x_k,x_v,dP,bd,gX,gN,bX,mX,hh,hgj,Row.i0,uv,eI]
  have hso:aD rows k .fin held c=if y.isAgain then (j,held) else if y.isEither then (k+1,held) else (k+1,held.dropLast):=by
   simp only [g7,hj,Int.toNat_natCast,ia,ie]
  rw [hso]
  cases hya:y.isAgain with
  | true=>
   rw [hya] at hc1
   refine am hc1 rfl (af ?_ rfl)
   exact aZ (esC (ad rfl rfl hh) (esC rfl es0))
  | false=>
   rw [hya] at hc1
   refine ae hc1 rfl ?_
   cases hye:y.isEither with
   | true=>
    rw [hye] at hc2
    exact ae hc2 rfl (af rfl rfl)
   | false=>
    rw [hye] at hc2
    refine aQ (Q':=fun m=>m=[some R,some Hm,some st,some (.int c),some (.int (k:Int)),some (.tuple (held.dropLast.map En.d)),some (.str Row.fin.tag),none,none]) (aK hc2 rfl (fun o_=>aw (.tuple (held.dropLast.map En.d)) ?_ rfl (ah rfl)) (fun z=>by cases z)) ?_
    ·simp only [x_v,gn,x_sl,fm,fo,gX,gN,bX,mX,io_n,io_i,uD]
     rw [lf,List.map_dropLast]
    rintro _ rfl
    exact af rfl rfl
theorem fR (p:Nat × List En):noList (stD p)=true:=by simp [stD,nl_t,nl_i,ns_n,ns_c,lV]
noncomputable def StOk (rows:List Row) (p:Nat × List En):Prop:=p.1 < rows.length∧HeldOk (ost rows p.1) p.2
end
end Mine
set_option tactic.hygienic false
namespace Mine
open PySem
noncomputable def bg (w:Str):Prop:=1≤w.length∧w.length≤12∧∀ c ∈ w.cps.toList,97≤c∧c < 123
noncomputable def ThOk (i:Int):Prop:=0≤i∧i≤999999999
noncomputable def Src.Ok:Src→Prop
 | .th i=>ThOk i
 | .hd u=>bg u
noncomputable def Row.Ok:Row→Prop
 | .lend w _ s=>bg w∧s.Ok
 | .pick w ts=>bg w∧1≤ts.length∧ts.length≤5∧∀ t ∈ ts,ThOk t
 | .deed _ w=>bg w
 | _=>True
theorem Row.Ok.word {r:Row} (h:r.Ok) (hn:r.isNamed=true):bg r.word:=by
 cases r<;>first | exact h.1 | cases hn
theorem lg (a:Int):ThOk (a.fmod 1000000000):=by
 have h1:=av a (b:=1000000000) (by decide)
 have h2:=aB a (b:=1000000000) (by decide)
 exact ⟨h1,by lia⟩
theorem fi (c b:Int):ThOk (thingOf c b):=by
 unfold thingOf
 split
 ·exact lg _
 ·exact lg _
theorem lh {i:Int} (h0:0≤i) (h1:i < 26):97≤ltr i∧ltr i < 123:=by unfold ltr;lia
theorem dL {r:Dr} (ok:r.Ok) (one two:Int) {deep:Nat} (hd:deep < 12):bg (wordOf one two deep r):=by
 have z1:=ok.z1
 have z2:=ok.z2
 unfold wordOf bg
 rw [gQ]
 unfold iV
 split
 ·refine ⟨by rw [List.length_replicate];(exact Nat.succ_le_of_lt (Nat.succ_pos deep)),by rw [List.length_replicate];(exact hd),fun c hc=>?_⟩
  have:=List.eq_of_mem_replicate (show c ∈ List.replicate _ _ from hc)
  rw [this];exact lh ok.t1 ok.t2
 ·refine ⟨by rw [lX,List.length_range];lia,by rw [lX,List.length_range];lia,fun c hc=>?_⟩
  obtain ⟨k,_,rfl⟩:=List.mem_map.mp (show c ∈ List.map _ _ from hc)
  split
  ·exact (fun a=>lh (av a (by decide)) (aB a (by decide))) _
  ·split
   ·exact (fun a=>lh (av a (by decide)) (aB a (by decide))) _
   ·exact lh (by lia) (by lia)
set_option tactic.hygienic true in
theorem or {r:Dr} (ok:r.Ok) (one two:Int) {named:List Row} (hn:∀ x ∈ named,x.Ok∧x.isNamed=true) (hl:named.length < 12):(bA one two named r).Ok:=by
 unfold bA
 split
 ·split
  ·rename_i h e
   exact ⟨(dL ok one two hl),((hn _ (List.mem_of_getElem? e)).1).word ((hn _ (List.mem_of_getElem? e)).2)⟩
  ·exact ⟨(dL ok one two hl),fi _ _⟩
 ·exact ⟨(dL ok one two hl),fi _ _⟩
set_option tactic.hygienic true in
theorem uM {r:Dr} (ok:r.Ok) (way one two:Int) {opened:List Row} (hn:∀ x ∈ opened,x.Ok) (hll:(opened.filter Row.isNamed).length < 12):(rowOf way one two opened r).Ok:=by
 have hnm:∀ x ∈ opened.filter Row.isNamed,x.Ok∧x.isNamed=true:=fun x hx=>⟨hn x (List.mem_filter.mp hx).1,(List.mem_filter.mp hx).2⟩
 unfold rowOf
 split
 ·exact (or ok one two hnm hll)
 split
 ·have f1:=av one (b:=5) (by decide)
  have f2:=aB one (b:=5) (by decide)
  refine ⟨dL ok one two hll,by rw [lX,List.length_range];lia,by rw [lX,List.length_range];lia,fun t ht=>?_⟩
  obtain ⟨k,_,rfl⟩:=List.mem_map.mp ht
  exact fi _ _
 split
 ·split<;>trivial
 split
 ·trivial
 split
 ·unfold dm
  split
  ·rename_i h e
   exact (hnm _ (List.mem_filter.mp (List.mem_of_getElem? e)).1).1.word (hnm _ (List.mem_filter.mp (List.mem_of_getElem? e)).1).2
  ·trivial
 split
 ·trivial
 ·exact (or ok one two hnm hll)
theorem uN (one two th:Int) {a b c:Str} (ha:bg a) (hb:bg b) (hc:bg c) (ht:ThOk th):∀ x ∈ gad one two a b c th,x.Ok:=by
 have h3:∀ (x:Int) (u v w:Str),bg u→bg v→bg w→bg (three x u v w):=fun x u v w h1 h2 h3=>by
  unfold three;split
  ·exact h1
  ·split
   ·exact h2
   ·exact h3
 have h3i:∀ (x:Int) (u v w:Int),ThOk u→ThOk v→ThOk w→ThOk (three x u v w):=fun x u v w h1 h2 h3=>by
  unfold three;split
  ·exact h1
  ·split
   ·exact h2
   ·exact h3
 have m1:=lg (th+1)
 have m2:=lg (th+2)
 have hif:bg (if kd two=true then b else a):=by split<;>assumption
 have hts:∀ t ∈ [th,th,(th+1).fmod 1000000000,(th+1).fmod 1000000000,(th+2).fmod 1000000000],ThOk t:=fun t h=>by
  simp only [List.mem_cons,List.not_mem_nil,or_false] at h
  rcases h with rfl | rfl | rfl | rfl | rfl<;>assumption
 have p1:(Row.pick c [th,th,(th+1).fmod 1000000000,(th+1).fmod 1000000000,(th+2).fmod 1000000000]).Ok:=⟨hc,Nat.le_of_ble_eq_true rfl,Nat.le_of_ble_eq_true rfl,hts⟩
 have p2:(Row.pick c [(th+1).fmod 1000000000,th]).Ok:=⟨hc,Nat.le_of_ble_eq_true rfl,Nat.le_of_ble_eq_true rfl,(fun t h=>by
  simp only [List.mem_cons,List.not_mem_nil,or_false] at h
  rcases h with rfl | rfl<;>assumption)⟩
 have e1:=h3 two a b a ha hb ha
 have e2:=h3 one c c b hc hc hb
 have e3:=h3i two th _ _ ht m1 m2
 intro x hx
 unfold gad cu at hx
 have L:∀ (w:Str) (q:Bool) (s:Src),bg w→s.Ok→(Row.lend w q s).Ok:=fun w q s h1 h2=>⟨h1,h2⟩
 repeat' split at hx
 all_goals
  simp only [List.mem_cons,List.not_mem_nil,or_false] at hx
  repeat' rcases hx with rfl | hx
  all_goals first | trivial | assumption | (subst hx;first | trivial | assumption | exact L _ _ _ (by assumption) (by assumption)) | exact L _ _ _ (by assumption) (by assumption)
noncomputable def Row.isPk:Row→Bool
 | .pick ..=>true
 | _=>false
theorem cnt2 (l:List Row):((l.filter Row.isNamed).filter Row.isLend).length=(l.filter Row.isLend).length∧(l.filter Row.isNamed).length=(l.filter Row.isLend).length+(l.filter Row.isPk).length:=by
 induction l with
 | nil=>exact ⟨rfl,rfl⟩
 | cons r l ih=>
  cases r with
  | lend=>exact ⟨congrArg (· + 1) ih.1,(congrArg (· + 1) ih.2).trans (Nat.succ_add _ _).symm⟩
  | pick=>exact ⟨ih.1,congrArg (· + 1) ih.2⟩
  | _=>exact ih
noncomputable def Few (l:List Row):Prop:=(l.filter Row.isLend).length≤6∧(l.filter Row.isPk).length≤3
theorem Few.named {l:List Row} (h:Few l):(l.filter Row.isNamed).length < 12:=by
 have:=(cnt2 l).2
 have h1:=h.1
 have h2:=h.2
 lia
theorem Few.drop {l:List Row} (h:Few l):Few l.dropLast:=⟨Nat.le_trans ((List.dropLast_sublist l).filter _).length_le h.1,Nat.le_trans ((List.dropLast_sublist l).filter _).length_le h.2⟩
theorem Few.lend {l:List Row} (h:Few l) (h6:(l.filter Row.isLend).length < 6) {r:Row} (hr:r.isLend=true):Few (l++[r]):=by
 cases r<;>first | cases hr | skip
 exact ⟨by rw [List.filter_append,List.length_append];exact h6,by rw [List.filter_append,List.length_append];exact h.2⟩
theorem Few.pick {l:List Row} (h:Few l) (h3:(l.filter Row.isPk).length < 3) {w:Str} {ts:List Int}:Few (l++[.pick w ts]):=⟨by rw [List.filter_append,List.length_append];exact h.1,by rw [List.filter_append,List.length_append];exact h3⟩
theorem tc {r:Dr} (way one two:Int) {opened:List Row} (h:Few opened) (ho:(rowOf way one two opened r).isOpen=true):Few (opened++[rowOf way one two opened r]):=by
 have c1:=(cnt2 opened).1
 have c2:=(cnt2 opened).2
 have he:Few (opened++[.either])∧Few (opened++[.again]):=⟨⟨by rw [List.filter_append,List.length_append];exact h.1,by rw [List.filter_append,List.length_append];exact h.2⟩,⟨by rw [List.filter_append,List.length_append];exact h.1,by rw [List.filter_append,List.length_append];exact h.2⟩⟩
 unfold rowOf at ho ⊢
 by_cases p1:way < 4∧((opened.filter Row.isNamed).filter Row.isLend).length < 6
 ·rw [if_pos p1];exact h.lend (c1 ▸ p1.2) (dH ..)
 rw [if_neg p1] at ho ⊢
 by_cases p2:way=4∧((opened.filter Row.isNamed).length:Int) - ((opened.filter Row.isNamed).filter Row.isLend).length < 3
 ·rw [if_pos p2];exact h.pick (by have:=p2.2;lia)
 rw [if_neg p2] at ho ⊢
 by_cases p3:(way=5∨way=6)∧opened.length < 12
 ·rw [if_pos p3];split
  ·exact he.1
  ·exact he.2
 rw [if_neg p3] at ho ⊢
 by_cases p4:way=7∧(opened.getLast?.any Row.isEither)=true
 ·rw [if_pos p4] at ho;cases ho
 rw [if_neg p4] at ho ⊢
 by_cases p5:way < 10∧0 < ((opened.filter Row.isNamed).filter Row.isLend).length
 ·rw [if_pos p5] at ho
  unfold dm at ho
  split at ho<;>cases ho
 rw [if_neg p5] at ho ⊢
 by_cases p6:0 < opened.length
 ·rw [if_pos p6] at ho;cases ho
 rw [if_neg p6]
 exact h.lend (Nat.lt_of_le_of_lt (List.length_filter_le _ _) (Nat.lt_of_le_of_lt (Nat.le_of_not_lt p6) (by decide))) (dH ..)
set_option tactic.hygienic true in
theorem ql {r:Dr} (ok:r.Ok) (odd:Bool) (most:Int) (c:Nat→Int) (k:Nat):(∀ x ∈ (sheetAt odd most r c k).1,x.Ok)∧(∀ x ∈ (sheetAt odd most r c k).2,x.Ok)∧Few (sheetAt odd most r c k).2:=by
 induction k with
 | zero=>exact ⟨(fun x hx=>by cases hx),(fun x hx=>by cases hx),Nat.zero_le _,Nat.zero_le _⟩
 | succ k ih=>
  show (∀ x ∈ (sheetStep odd most r (c (3 * k)) (c (3 * k+1)) (c (3 * k+2)) (sheetAt odd most r c k)).1,x.Ok)∧(∀ x ∈ (sheetStep odd most r (c (3 * k)) (c (3 * k+1)) (c (3 * k+2)) (sheetAt odd most r c k)).2,x.Ok)∧Few (sheetStep odd most r (c (3 * k)) (c (3 * k+1)) (c (3 * k+2)) (sheetAt odd most r c k)).2
  generalize sheetAt odd most r c k=s at ih
  unfold sheetStep
  split
  ·rename_i h
   have h3:=h.2.2
   refine ⟨fun x hx=>?_,ih.2⟩
   rcases List.mem_append.mp hx with q | q
   ·exact ih.1 x q
   ·exact uN _ _ _ (dL ok _ _ (by lia)) (dL ok _ _ (by lia)) (dL ok _ _ (by lia)) (fi _ _) x q
  ·have hr:=uM ok ((c (3 * k)).fmod most) (c (3 * k+1)) (c (3 * k+2)) ih.2.1 ih.2.2.named
   have hf:=tc (r:=r) ((c (3 * k)).fmod most) (c (3 * k+1)) (c (3 * k+2)) ih.2.2
   generalize rowOf ((c (3 * k)).fmod most) (c (3 * k+1)) (c (3 * k+2)) s.2 r=x at hr hf
   refine ⟨fun y hy=>(List.mem_append.mp hy).elim (ih.1 y) fun q=>List.mem_singleton.mp q ▸ hr,?_⟩
   cases ho:x.isOpen with
   | true=>exact ⟨fun y hy=>(List.mem_append.mp hy).elim (ih.2.1 y) fun q=>List.mem_singleton.mp q ▸ hr,hf ho⟩
   | false=>
    cases hi:x.isFin with
    | true=>exact ⟨fun y hy=>ih.2.1 y ((List.dropLast_sublist _).subset hy),ih.2.2.drop⟩
    | false=>exact ih.2
theorem qm (ns:List Int) (most:Int):∀ x ∈ drawnOf ns most,x.Ok:=by
 have h1:∀ x ∈ onceOf ns most,x.Ok:=fun x hx=>by
  rcases List.mem_append.mp (show x ∈ _++_ from hx) with q | q
  ·exact (ql (gq ns) _ _ _ _).1 x q
  ·obtain ⟨_,_,rfl⟩:=List.mem_map.mp q
   trivial
 intro x hx
 unfold drawnOf at hx
 split at hx
 ·simp only [List.mem_append] at hx
  rcases hx with ((q | q) | q) | q<;>exact h1 x q
 ·exact h1 x hx
end Mine
set_option tactic.hygienic false
namespace Mine
open PySem
structure Gok (Γ:Str→Option D):Prop where
 op:Γ "OPENERS" = some opT
 letters:Γ "LETTERS" = some (.str "abcdefghijklmnopqrstuvwxyz")
 longest:Γ "LONGEST" = some (.int 12)
 thing:Γ "MOST_THING" = some (.int 999999999)
 things:Γ "MOST_THINGS" = some (.int 5)
 words:Γ "WORDS" = some (.tuple [.str "beside",.str "empty",.str "asleep"])
theorem lY {c:Nat} (h1:97≤c) (h2:c < 123):pyIn (.str ⟨#[c]⟩) (.str "abcdefghijklmnopqrstuvwxyz")=some true:=by
 have key:∀ k:Nat,k < 26→subStrOne ⟨#[97+k]⟩ "abcdefghijklmnopqrstuvwxyz" = some true:=by decide +kernel
 have:=key (c - 97) (by lia)
 rw [show 97+(c - 97)=c by lia] at this
 exact this
section
variable (Φ:Str→List D→Option D) {Γ:Str→Option D} (G:Gok Γ) (N:Nat)
include G
theorem ke {i:Int} (h:ThOk i):runFn Φ Γ N fnis_thing [.int i]=some (.bool true):=by
 refine aq [some (.int i)] rfl rfl (af (gk (b:=true) (c:=true) (d:=true) rfl rfl ?_) rfl)
 exact jT rfl rfl (congrArg some (decide_eq_true h.1)) G.thing (congrArg some (decide_eq_true h.2))
theorem lZ {w:Str} (h:bg w):runFn Φ Γ N fnis_word [.str w]=some (.bool true):=by
 obtain ⟨h1,h2,h3⟩:=h
 refine aq [some (.str w)] rfl rfl (ae (x:=.bool (false||false)) (gO rfl (d4 (b:=true) (jT rfl rfl (congrArg some (decide_eq_true (show (1:Int)≤(w.length:Int) by exact Int.ofNat_lt.mpr h1))) G.longest (congrArg some (decide_eq_true (show (w.length:Int)≤12 by exact Int.ofNat_le.mpr h2)))))) rfl (af ?_ rfl))
 refine aT (
  bZ w.cps.toList (fun c=>[.str ⟨#[c]⟩]) (fun o_=>.bool true) (by
   show some (one (w.cps.toList.map fun c=>PyData.str ⟨#[c]⟩))=_
   rw [jS]) (by have:w.cps.toList.length=w.length:=rfl;lia) rfl fun c hc=>aj rfl G.letters (lY (h3 c hc).1 (h3 c hc).2)) ?_
 rw [nP,cZ (fun o_=>true)]
 simp
theorem jd (hT:∀ i:Int,ThOk i→Φ "is_thing" [.int i]=some (.bool true)) {ts:List Int} (h1:1≤ts.length) (h2:ts.length≤5) (h3:∀ t ∈ ts,ThOk t):runFn Φ Γ N fnis_choice [.tuple (ts.map .int)]=some (.bool true):=by
 have hlen:b1 .len (.tuple (ts.map .int))=some (.int ts.length):=by rw [nO,lX]
 refine aq [some (.tuple (ts.map .int))] rfl rfl (ae (x:=.bool (false||false)) (gO rfl (d4 (b:=true) (jT rfl (aT rfl hlen) (congrArg some (decide_eq_true (show (1:Int)≤(ts.length:Int) by exact Int.ofNat_lt.mpr h1))) G.things (congrArg some (decide_eq_true (show (ts.length:Int)≤5 by exact Int.ofNat_le.mpr h2)))))) rfl (af ?_ rfl))
 refine aT (
  bZ ts (fun t=>[.int t]) (fun o_=>.bool true) (cK rfl) (by lia) rfl fun t ht=>ai (esC rfl es0) (hT t (h3 t ht))) ?_
 rw [nP,cZ (fun o_=>true)]
 simp
omit G
theorem l0 (hT:∀ i:Int,ThOk i→Φ "is_thing" [.int i]=some (.bool true)) (hTs:∀ w:Str,Φ "is_thing" [.str w]=some (.bool false)) (hW:∀ w:Str,bg w→Φ "is_word" [.str w]=some (.bool true)) {w:Str} {q:Bool} {s:Src} (h:(Row.lend w q s).Ok):runFn Φ Γ N fnis_lend [(Row.lend w q s).d]=some (.bool true):=by
 refine aq [some (Row.lend w q s).d] rfl rfl (ae (x:=.bool (false||(false||false))) (sF rfl (d4 (b:=true) (ai (esC rfl es0) (hW w h.1))) rfl) rfl (af (aH (b:=true) (c:=true) (by cases q<;>rfl) ?_) rfl))
 cases s with
 | th i=>exact x_or2' (ai (esC rfl es0) (hT i h.2))
 | hd u=>exact gO (b:=false) (c:=true) (ai (esC rfl es0) (hTs u)) (ai (esC rfl es0) (hW u h.2))
theorem ot (hL:∀ w q s,(Row.lend w q s).Ok→Φ "is_lend" [(Row.lend w q s).d]=some (.bool true)) (hC:∀ ts:List Int,1≤ts.length→ts.length≤5→(∀ t ∈ ts,ThOk t)→Φ "is_choice" [.tuple (ts.map .int)]=some (.bool true)) (hW:∀ w:Str,bg w→Φ "is_word" [.str w]=some (.bool true)) {r:Row} (h:r.Ok):runFn Φ Γ N fnis_row [r.d]=some (.bool true):=by
 refine aq [some r.d] rfl rfl ?_
 dsimp only [fnis_row]
 cases r with
 | lend w q s=>exact ae (x:=.bool false) rfl rfl (am (x:=.bool true) rfl rfl (af (ai (esC rfl es0) (hL w q s h)) rfl))
 | pick w ts=>exact ae (x:=.bool false) rfl rfl (ae (x:=.bool false) rfl rfl (am (x:=.bool true) rfl rfl (af (gk (b:=true) (c:=true) (d:=true) rfl (ai (esC rfl es0) (hW w h.1)) (ai (esC rfl es0) (hC ts h.2.1 h.2.2.1 h.2.2.2))) rfl)))
 | deed v w=>cases v<;>exact ae (x:=.bool false) rfl rfl (ae (x:=.bool false) rfl rfl (ae (x:=.bool false) rfl rfl (ae (x:=.bool false) rfl rfl (am (x:=.bool true) rfl rfl (af (aH (b:=true) (c:=true) rfl (ai (esC rfl es0) (hW w h))) rfl)))))
 | either=>exact ae (x:=.bool false) rfl rfl (ae (x:=.bool false) rfl rfl (ae (x:=.bool false) rfl rfl (am (x:=.bool true) rfl rfl (af rfl rfl))))
 | again=>exact ae (x:=.bool false) rfl rfl (ae (x:=.bool false) rfl rfl (ae (x:=.bool false) rfl rfl (am (x:=.bool true) rfl rfl (af rfl rfl))))
 | orr=>exact ae (x:=.bool false) rfl rfl (ae (x:=.bool false) rfl rfl (ae (x:=.bool false) rfl rfl (am (x:=.bool true) rfl rfl (af rfl rfl))))
 | fin=>exact ae (x:=.bool false) rfl rfl (ae (x:=.bool false) rfl rfl (ae (x:=.bool false) rfl rfl (am (x:=.bool true) rfl rfl (af rfl rfl))))
theorem je (w:Str):runFn Φ Γ N fnis_thing [.str w]=some (.bool false):=by
 refine aq [some (.str w)] rfl rfl (af ?_ rfl)
 rfl
end
end Mine
set_option tactic.hygienic false
namespace Mine
open PySem
noncomputable def Nd (os:List Row):Prop:=((os.filter Row.isNamed).map Row.word).Nodup
set_option tactic.hygienic true in
theorem td {os:List Row} {r:Row} (h:Nd os) (hf:r.isNamed=true→dI os r.word):Nd (r::os):=by
 unfold Nd
 rw [List.filter_cons]
 split
 ·rename_i hn
  rw [List.map_cons,List.nodup_cons]
  refine ⟨fun hm=>?_,h⟩
  obtain ⟨x,hx,e⟩:=List.mem_map.mp hm
  rw [List.mem_filter] at hx
  exact (hf hn).2 x hx.1 hx.2 e
 ·exact h
theorem te {os:List Row} (h:Nd os):Nd os.tail:=by
 cases os with
 | nil=>exact h
 | cons x os=>
  unfold Nd at h
  rw [List.filter_cons] at h
  split at h
  ·rw [List.map_cons,List.nodup_cons] at h;exact h.2
  ·exact h
theorem ou {os:List Row} {r:Row} (v:V os r) (h:r.isNamed=true):dI os r.word:=by
 cases r<;>first | exact v.1 | cases h
theorem uO {rows:List Row} (wf:WfR [] rows):∀ k,k≤rows.length→Nd (ost rows k):=by
 intro k
 induction k with
 | zero=>intro _;exact List.nodup_nil
 | succ k ih=>
  intro hk
  rw [fh (aC (rows:=rows) (j:=k) (by exact hk))]
  unfold push
  split
  ·exact td (ih (by exact Nat.le_of_lt hk)) (ou (cP wf (aC (rows:=rows) (j:=k) (by exact hk))))
  ·split
   ·exact te (ih (by exact Nat.le_of_lt hk))
   ·exact (ih (by exact Nat.le_of_lt hk))
theorem qn {l:List Row} (h:(l.map Row.word).Nodup) {x y:Row} (hx:x ∈ l) (hy:y ∈ l) (e:x.word=y.word):x=y:=by
 induction l with
 | nil=>cases hx
 | cons z l ih=>
  rw [List.map_cons,List.nodup_cons] at h
  rcases List.mem_cons.mp hx with ex | hx2
  ·rcases List.mem_cons.mp hy with ey | hy2
   ·rw [ex,ey]
   ·exact absurd (show z.word ∈ l.map Row.word from List.mem_map.mpr ⟨y,hy2,by rw [← e,ex]⟩) h.1
  ·rcases List.mem_cons.mp hy with ey | hy2
   ·exact absurd (show z.word ∈ l.map Row.word from List.mem_map.mpr ⟨x,hx2,by rw [e,ey]⟩) h.1
   ·exact ih h.2 hx2 hy2
noncomputable def Row.bk:Row→Str
 | .lend _ q _=>Mine.kindS q
 | .pick .. => "pick"
 | _ => ""
noncomputable def blkD (j:Nat) (r:Row):D:=.tuple [.int (j:Int),.str r.tag,.str r.word,.str r.bk]
noncomputable def blD (p:Nat × Row):D:=blkD p.1 p.2
noncomputable def blk (rows:List Row) (k:Nat):List (Nat × Row):=(stk rows k).reverse.map fun j=>(j,rows.getD j .fin)
theorem qo (rows:List Row) (k:Nat):(blk rows k).map (·.2)=(ost rows k).reverse:=by
 unfold blk ost
 rw [List.map_map,← List.map_reverse];rfl
theorem ox (rows:List Row) (k:Nat):(blk rows k).length=(stk rows k).length:=by
 unfold blk;rw [lX,List.length_reverse]
noncomputable def g9 (ps:List (Nat × Row)) (w:Str):Option Str:=(ps.find? fun p=>p.2.word == w).map fun p=>p.2.bk
noncomputable def optS:Option Str→D
 | some x=>.str x
 | none=>.none
theorem kf (o:Option Str):noList (optS o)=true:=by cases o<;>rfl
theorem ro {fr:Bool} {ow:List Nat} {e:Ex} {d:D} (h:noList d=true):(!fr||retOk ow e d)=true:=by
 unfold retOk
 rw [h,Bool.true_or,Bool.or_true]
structure Opn (ps:List (Nat × Row)) (os:List Row):Prop where
 rows:ps.map (·.2)=os.reverse
 op:∀ x ∈ os,x.isOpen=true
 nd:Nd os
theorem Opn.some {ps:List (Nat × Row)} {os:List Row} (O:Opn ps os) {x:Row} (hx:x ∈ os) (hn:x.isNamed=true) (hw:x.word ≠ Str.ofString ""):g9 ps x.word=some x.bk:=by
 unfold g9
 have hm:x ∈ ps.map (·.2):=by rw [O.rows];exact List.mem_reverse.mpr hx
 obtain ⟨p,hp,rfl⟩:=List.mem_map.mp hm
 cases hf:ps.find? fun q=>q.2.word == p.2.word with
 | none=>exact absurd (List.find?_eq_none.mp hf p hp) (by simp)
 | some q=>
  have h2:=eq_of_beq (show (q.2.word == p.2.word)=true from List.find?_some (p:=fun q:Nat × Row=>q.2.word == p.2.word) hf)
  have hq:q.2 ∈ os:=by
   have:q.2 ∈ ps.map (·.2):=List.mem_map.mpr ⟨q,(List.mem_of_find?_eq_some hf),rfl⟩
   rw [O.rows] at this
   exact List.mem_reverse.mp this
  have:=qn O.nd (List.mem_filter.mpr ⟨hq,(by
   have ho:=O.op _ hq
   cases hc:q.2 with
   | lend=>rfl
   | pick=>rfl
   | either=>rw [hc] at h2;exact absurd h2.symm hw
   | again=>rw [hc] at h2;exact absurd h2.symm hw
   | orr=>rw [hc] at ho;cases ho
   | fin=>rw [hc] at ho;cases ho
   | deed=>rw [hc] at ho;cases ho)⟩) (List.mem_filter.mpr ⟨hx,hn⟩) h2
  rw [mX,this]
theorem Opn.none {ps:List (Nat × Row)} {os:List Row} (O:Opn ps os) {w:Str} (hf:dI os w):g9 ps w=none:=by
 unfold g9
 have:ps.find? (fun q=>q.2.word == w)=Option.none:=List.find?_eq_none.mpr fun q hq he=>by
  have hm:q.2 ∈ os:=by
   have:q.2 ∈ ps.map (·.2):=List.mem_map.mpr ⟨q,hq,rfl⟩
   rw [O.rows] at this
   exact List.mem_reverse.mp this
  have ho:=O.op _ hm
  cases hc:q.2.isNamed with
  | true=>exact hf.2 _ hm hc (eq_of_beq he)
  | false=>
   refine hf.1 ((eq_of_beq he).symm.trans ?_)
   cases hq2:q.2 with
   | lend=>rw [hq2] at hc;cases hc
   | pick=>rw [hq2] at hc;cases hc
   | either=>rfl
   | again=>rfl
   | orr=>rw [hq2] at ho;cases ho
   | fin=>rw [hq2] at ho;cases ho
   | deed=>rw [hq2] at ho;cases ho
 rw [this];rfl
theorem uP {rows:List Row} (wf:WfR [] rows) {k:Nat} (hk:k≤rows.length):Opn (blk rows k) (ost rows k):=by
 refine ⟨qo rows k,fun x hx=>?_,uO wf k hk⟩
 obtain ⟨j,hj,rfl⟩:=List.mem_map.mp hx
 have h1:=bI rows k j hj
 have h2:=eX rows k j hj
 rw [aG (aC (rows:=rows) (j:=j) (by lia))] at h1
 exact h1
theorem tf {x:Row} (h:x.isLend=true):x.bk=kindS x.wr:=by cases x<;>first | rfl | cases h
section
variable (Φ:Str→List D→Option D) (Γ:Str→Option D) (N:Nat)
theorem l3 (ps:List (Nat × Row)) (w:Str):runFn Φ Γ N fnmeaning [.list (ps.map blD),.str w]=some (optS (g9 ps w)):=by
 refine aq [some (.list (ps.map blD)),some (.str w),none] rfl rfl ?_
 dsimp only [fnmeaning]
 refine eK (fun m=>∃ x,m=[some (.list (ps.map blD)),some (.str w),x]) (fun k=>(ps[k]?).any fun p=>p.2.word == w) (fun k=>optS ((ps[k]?).map fun p=>p.2.bk)) (bQ (es:=ps) (g:=blD) rfl) rfl ⟨none,rfl⟩ (fun k vs m hk hI=>?_) (fun hno m hI=>?_) (fun k hk hp hf=>?_)
 ·obtain ⟨x,rfl⟩:=hI
  rw [List.getElem?_map] at hk
  obtain ⟨e,he,rfl⟩:=Option.map_eq_some_iff.mp hk
  refine ⟨_,rfl,fun q=>?_,fun q=>?_⟩
  ·rw [he] at q ⊢
   exact am (x:=.bool (e.2.word == w)) rfl (by rw [al];exact congrArg some q) (af rfl (ro rfl))
  ·rw [he] at q
   exact ap (aK (Q:=fun m=>∃ x,m=[some (.list (ps.map blD)),some (.str w),x]) (d:=.bool (e.2.word == w)) rfl (al _) (fun q'=>by simp only [Option.any_some] at q;rw [q] at q';cases q') (fun o_=>ah ⟨_,rfl⟩)) fun m e=>ah e
 ·obtain ⟨x,rfl⟩:=hI
  refine af ?_ (ro (kf _))
  unfold g9
  rw [i9 fun k hk=>hno k (by simpa using hk)];rfl
 ·rw [← gs hp hf];rfl
set_option tactic.hygienic true in
noncomputable def Nn (x:Option (Fl × St)):Prop:=∃ m',x=some (.next,m')
variable {Φ Γ N}
theorem b6 {m:St} {ow:List Nat} {fr:Bool}:Nn (exSs Φ Γ ow fr N .nil m):=⟨m,rfl⟩
theorem bE {m:St} {ow:List Nat} {fr:Bool} {c:Ex} {t r:Sms} {x:D} (h:evE Φ Γ c m=some x) (hb:truth x=some false) (k:Nn (exSs Φ Γ ow fr N r m)):Nn (exSs Φ Γ ow fr N (.cons (.ite c t .nil) r) m):=by
 obtain ⟨m',k⟩:=k
 exact ⟨m',(aP (y_no h hb)).trans k⟩
theorem rp {m:St} {ow:List Nat} {fr:Bool} {i:Nat} {e:Ex} {r:Sms} (x:D) (h:evE Φ Γ e m=some x) (ho:ow.contains i=false) (k:Nn (exSs Φ Γ ow fr N r (m.set i (some x)))):Nn (exSs Φ Γ ow fr N (.cons (.asg i e) r) m):=by
 obtain ⟨m',k⟩:=k
 exact ⟨m',(aP (d5 h ho)).trans k⟩
theorem jf {m:St} {ow:List Nat} {fr:Bool} {s:Sm} {r:Sms} {Q:St→Prop} (h:Go (exS Φ Γ ow fr N s m) Q) (k:∀ m',Q m'→Nn (exSs Φ Γ ow fr N r m')):Nn (exSs Φ Γ ow fr N (.cons s r) m):=by
 obtain ⟨m1,e1,q1⟩:=h
 obtain ⟨m2,e2⟩:=k m1 q1
 exact ⟨m2,(aP e1).trans e2⟩
theorem li {fn:Fn} {args:List D} (m0:St) (hl:args.length=fn.np) (hm:args.map some++List.replicate (fn.ns - fn.np) none=m0) (h:Nn (exSs Φ Γ fn.ow fn.fr N fn.body m0)):runFn Φ Γ N fn args=some .none:=by
 obtain ⟨m',h⟩:=h
 unfold runFn
 rw [if_pos hl,hm,h]
theorem oy (ps:List (Nat × Row)):pyEq (.list (ps.map blD)) (.list [])=some ps.isEmpty:=by
 have hd:∀ l:List (Nat × Row),aY (l.map blD)=true:=fun l=>by
  induction l with
  | nil=>rfl
  | cons p l ih=>exact ih
 have hp:∀ l:List (Nat × Row),PyData.depthAll (l.map blD)≤1:=fun l=>by
  induction l with
  | nil=>exact Nat.zero_le _
  | cons p l ih=>exact Nat.max_le.mpr ⟨Nat.le_refl _,ih⟩
 have h1:shp (.list (ps.map blD))=true:=by
  have:=hp ps
  unfold shp
  rw [nd_l,hd,dp_l,decide_eq_true (show PyData.depthAll (ps.map blD)+1≤32 by lia)];rfl
 have h2:shp (.list [])=true:=rfl
 unfold pyEq
 rw [h1,h2,Bool.and_self,Bool.or_true,if_pos rfl]
 cases ps<;>rfl
variable (Φ Γ N)
theorem hV {ps:List (Nat × Row)} {os:List Row} (O:Opn ps os) {r:Row} (v:V os r) (j:Int):runFn Φ Γ N fnneed_block [.list (ps.map blD),.int j,r.d]=some .none:=by
 have hne:os ≠ []→ps.isEmpty=false:=fun h=>by
  cases ps with
  | nil=>
   have:=O.rows
   rw [List.map_nil] at this
   exact absurd (List.reverse_eq_nil_iff.mp this.symm) h
  | cons=>rfl
 have he:∀ m:St,m[0]?=some (some (.list (ps.map blD)))→evE Φ Γ (.cmp .Eq (.v 0) (.lst .nil)) m=some (.bool ps.isEmpty):=fun m h=>aj (ev_v h) rfl (oy ps)
 refine li [some (.list (ps.map blD)),some (.int j),some r.d] rfl rfl ?_
 dsimp only [fnneed_block]
 cases r with
 | fin=>
  refine bE (x:=.bool (true&&ps.isEmpty)) (aH rfl (he _ rfl)) (congrArg _ (hne v)) (bE (x:=.bool false) rfl rfl b6)
 | orr=>
  refine bE (x:=.bool false) rfl rfl ?_
  obtain ⟨x,os',rfl⟩:∃ x os',os=x::os':=by
   cases os with
   | nil=>cases (show false=true from v)
   | cons x l=>exact ⟨x,l,rfl⟩
  have hx:x.isEither=true:=v
  have hxe:x = .either:=by cases x<;>first | rfl | cases hx
  subst hxe
  obtain ⟨ps',p,rfl⟩:∃ ps' p,ps=ps'++[p]:=by
   rcases List.eq_nil_or_concat ps with h | ⟨l,p,h⟩
   ·have:=hne (List.cons_ne_nil _ _)
    rw [h] at this;cases this
   ·exact ⟨l,p,by rw [h,List.concat_eq_append]⟩
  have hp:p.2 = .either:=by
   have:=O.rows
   rw [List.map_append,List.reverse_cons] at this
   exact (List.cons.inj (List.append_inj' this rfl).2).1
  refine bE (x:=.bool (true&&(false||false))) (aH rfl (gO ?_ ?_)) rfl b6
  ·have:=he [some (.list ((ps'++[p]).map blD)),some (.int j),some Row.orr.d] rfl
   rw [show (ps'++[p]).isEmpty=false by simp] at this
   exact this
  ·refine aj (x:=.str p.2.tag) (y:=.str "either") (ad (ad rfl rfl (by
    refine p_mk (k:=ps'.length) ?_ (by rw [List.map_append,List.getElem?_append_right (Nat.le_of_eq (List.length_map _)),lX,Nat.sub_self];rfl)
    rw [lX,List.length_append]
    unfold aI
    rw [if_neg (by decide),if_pos (by simp only [List.length_cons,List.length_nil];(exact Int.ofNat_lt.mpr (Nat.succ_pos ps'.length)))]
    congr 1
    simp only [List.length_cons,List.length_nil];lia)) rfl rfl) rfl ?_
   rw [hp];rfl
 | lend w q s=>exact bE (x:=.bool false) rfl rfl (bE (x:=.bool false) rfl rfl b6)
 | pick w ts=>exact bE (x:=.bool false) rfl rfl (bE (x:=.bool false) rfl rfl b6)
 | either=>exact bE (x:=.bool false) rfl rfl (bE (x:=.bool false) rfl rfl b6)
 | again=>exact bE (x:=.bool false) rfl rfl (bE (x:=.bool false) rfl rfl b6)
 | deed vb w=>cases vb<;>exact bE (x:=.bool false) rfl rfl (bE (x:=.bool false) rfl rfl b6)
theorem hY (q:Bool):(kindS q == Str.ofString "pick")=false:=by cases q<;>rfl
theorem jg (hM:∀ (ps:List (Nat × Row)) (w:Str),Φ "meaning" [.list (ps.map blD),.str w]=some (optS (g9 ps w))) {ps:List (Nat × Row)} {os:List Row} (O:Opn ps os) {v:Verb} {w:Str} (hw:w ≠ Str.ofString "") (hv:V os (.deed v w)) (j:Int):runFn Φ Γ N fnneed_hand [.list (ps.map blD),.int j,(Row.deed v w).d]=some .none:=by
 obtain ⟨x,hx,hl,hxw,hch⟩:=hv
 have hmn:=O.some hx (da hl) (by rw [hxw];exact hw)
 rw [hxw,tf hl] at hmn
 have hm:=hM ps w
 rw [hmn] at hm
 refine li [some (.list (ps.map blD)),some (.int j),some (Row.deed v w).d,none] rfl rfl ?_
 dsimp only [fnneed_hand]
 refine rp (.str (kindS x.wr)) (ai (esC rfl (esC rfl es0)) hm) rfl ?_
 refine bE (x:=.bool (false||false)) (gO rfl (aj rfl rfl (congrArg some (hY _)))) rfl ?_
 cases v with
 | look=>exact bE (x:=.bool false) rfl rfl b6
 | back=>exact bE (x:=.bool false) rfl rfl b6
 | change=>
  rw [hch rfl]
  exact bE (x:=.bool false) rfl rfl b6
end
end Mine
set_option tactic.hygienic false
namespace Mine
open PySem
set_option tactic.hygienic true in
theorem oz (r:Row):pyIn (.str r.tag) (.tuple [.str "lend",.str "pick"])=some r.isNamed:=by
 rw [ol]
 cases r<;>first | rfl | (rename_i v w;cases v<;>rfl)
noncomputable def Row.isDeed:Row→Bool
 | .deed ..=>true
 | _=>false
set_option tactic.hygienic true in
theorem qp (r:Row):pyIn (.str r.tag) (.tuple [.str "back",.str "look",.str "change"])=some r.isDeed:=by
 have:pyIn (.str r.tag) (.tuple (["back", "look", "change"].map fun s=>.str (Str.ofString s)))=_:=pK r.tag (["back", "look", "change"].map Str.ofString)
 refine this.trans ?_
 cases r<;>first | rfl | (rename_i v w;cases v<;>rfl)
theorem jh {w:Str} (h:bg w):w ≠ Str.ofString "" := fun e=>by
 have:=h.1
 rw [e] at this
 exact absurd this (by decide)
section
variable {Φ:Str→List D→Option D} {Γ:Str→Option D} {m:St} {ow:List Nat} {fr:Bool} {N:Nat}
theorem qq {e:Ex} {d:D} (h:evE Φ Γ e m=some d):Go (exS Φ Γ ow fr N (.ex e) m) (fun m'=>m'=m):=⟨m,by rw [e_ex,h];rfl,rfl⟩
theorem bh {c:Ex} {t:Sms} {b:Bool} {Q:St→Prop} (h:evE Φ Γ c m=some (.bool b)) (ht:b=true→Go (exSs Φ Γ ow fr N t m) Q) (he:b=false→Q m):Go (exS Φ Γ ow fr N (.ite c t .nil) m) Q:=aK h rfl ht fun q=>ah (he q)
end
section
variable (Φ:Str→List D→Option D) (Γ:Str→Option D) (N:Nat)
theorem ji (hM:∀ (ps:List (Nat × Row)) (w:Str),Φ "meaning" [.list (ps.map blD),.str w]=some (optS (g9 ps w))) {ps:List (Nat × Row)} {os:List Row} (O:Opn ps os) {r:Row} (hn:r.isNamed=true) (v:V os r) (ok:r.Ok) (j:Int):runFn Φ Γ N fnneed_free [.list (ps.map blD),.int j,r.d]=some .none:=by
 have hm1:=hM ps r.word
 rw [O.none (ou v hn)] at hm1
 refine li [some (.list (ps.map blD)),some (.int j),some r.d,none] rfl rfl ?_
 dsimp only [fnneed_free]
 refine rp .none rfl rfl ?_
 simp only [sX,sN]
 cases r with
 | pick w ts=>exact jf (bh (b:=false) (Q:=fun m=>m=[some (.list (ps.map blD)),some (.int j),some (Row.pick w ts).d,some .none]) rfl (fun q=>by cases q) fun o_=>rfl) (by
  rintro _ rfl
  exact bE (x:=.bool false) (aj (ai (esC rfl (esC rfl es0)) hm1) rfl rfl) rfl (bE (x:=.bool false) rfl rfl b6))
 | lend w q s=>
  cases s with
  | th i=>
   refine jf (bh (b:=false) (Q:=fun m=>m=[some (.list (ps.map blD)),some (.int j),some (Row.lend w q (.th i)).d,some .none]) rfl (fun q=>by cases q) fun o_=>rfl) ?_
   rintro _ rfl
   refine bE (x:=.bool false) (aj (ai (esC rfl (esC rfl es0)) hm1) rfl rfl) rfl (bE (x:=.bool (true&&((kindS q == Str.ofString "write")&&false))) (gk rfl rfl rfl) ?_ b6)
   rw [Bool.and_false];rfl
  | hd u=>
   refine byG fun X_ g_=>?_
   obtain ⟨_,x,hx,hxn,hxu,hr⟩:=v
   refine g_ ?_
   have hne:=jh ok.2
   have hm2:=hM ps u
   rw [← hxu,O.some hx hxn (hxu ▸ hne),hxu] at hm2
   refine jf (bh (b:=true) (Q:=fun m=>m=[some (.list (ps.map blD)),some (.int j),some (Row.lend w q (.hd u)).d,some (.str x.bk)]) rfl (fun o_=>?_) fun z=>by cases z) ?_
   ·refine aw (.str x.bk) (ai (esC rfl (esC rfl es0)) hm2) rfl ?_
    simp only [sX,sN]
    exact ap (bh (b:=false) (Q:=fun m=>m=[some (.list (ps.map blD)),some (.int j),some (Row.lend w q (.hd u)).d,some (.str x.bk)]) rfl (fun q=>by cases q) fun o_=>rfl) fun m e=>ah e
   rintro _ rfl
   refine bE (x:=.bool false) (aj (ai (esC rfl (esC rfl es0)) hm1) rfl rfl) rfl (bE (x:=.bool (true&&((kindS q == Str.ofString "write")&&(x.bk == Str.ofString "read")))) (gk rfl rfl rfl) ?_ b6)
   have:((kindS q == Str.ofString "write")&&(x.bk == Str.ofString "read"))=false:=by
    cases x with
    | lend w' q' s'=>
     cases q' with
     | false=>rw [hr rfl rfl];rfl
     | true=>exact Bool.and_false _
    | pick w' ts=>exact Bool.and_false _
    | either=>cases hxn
    | again=>cases hxn
    | orr=>cases hxn
    | fin=>cases hxn
    | deed=>cases hxn
   rw [this];rfl
 | either=>cases hn
 | again=>cases hn
 | orr=>cases hn
 | fin=>cases hn
 | deed=>cases hn
theorem kg {r:Row} (h:r.isOpen=true) (j:Nat):runFn Φ Γ N fnblock_of [.int (j:Int),r.d]=some (blkD j r):=by
 refine aq [some (.int (j:Int)),some r.d] rfl rfl ?_
 dsimp only [fnblock_of]
 cases r with
 | lend w q s=>exact am (x:=.bool true) rfl rfl (af rfl rfl)
 | pick w ts=>exact ae (x:=.bool false) rfl rfl (am (x:=.bool true) rfl rfl (af rfl rfl))
 | either=>exact ae (x:=.bool false) rfl rfl (ae (x:=.bool false) rfl rfl (af rfl rfl))
 | again=>exact ae (x:=.bool false) rfl rfl (ae (x:=.bool false) rfl rfl (af rfl rfl))
 | orr=>cases h
 | fin=>cases h
 | deed=>cases h
theorem qr {rows:List Row} {k:Nat} {r:Row} (h:rows[k]?=some r):blk rows (k+1)=if r.isOpen then blk rows k++[(k,r)] else if r.isFin then (blk rows k).dropLast else blk rows k:=by
 unfold blk
 rw [a9 h,stp]
 split
 ·rw [List.reverse_cons,List.map_append,List.map_cons,List.map_nil,List.getD,h];rfl
 ·split
  ·rw [← List.map_dropLast]
   congr 1
   cases stk rows k with
   | nil=>rfl
   | cons x l=>rw [List.tail_cons,List.reverse_cons,List.dropLast_concat]
  ·rfl
theorem l4 (G:Gok Γ) {rows:List Row} (hl:rows.length≤1000) (nd:Nested rows) (wf:WfR [] rows) (ok:∀ x ∈ rows,x.Ok)
 (hrow:∀ r:Row,r.Ok→Φ "is_row" [r.d]=some (.bool true))
 (hnb:∀ {ps:List (Nat × Row)} {os:List Row},Opn ps os→∀ {r:Row},V os r→∀ j:Int,Φ "need_block" [.list (ps.map blD),.int j,r.d]=some .none)
 (hnh:∀ {ps:List (Nat × Row)} {os:List Row},Opn ps os→∀ {v:Verb} {w:Str},w ≠ Str.ofString "" → V os (.deed v w)→∀ j:Int,Φ "need_hand" [.list (ps.map blD),.int j,(Row.deed v w).d]=some .none)
 (hnf:∀ {ps:List (Nat × Row)} {os:List Row},Opn ps os→∀ {r:Row},r.isNamed=true→V os r→r.Ok→∀ j:Int,Φ "need_free" [.list (ps.map blD),.int j,r.d]=some .none)
 (hbo:∀ {r:Row},r.isOpen=true→∀ j:Nat,Φ "block_of" [.int (j:Int),r.d]=some (blkD j r)) :
 runFn Φ Γ N fnchecked [.list (rows.map Row.d)]=some .none:=by
 refine li [some (.list (rows.map Row.d)),none,none,none] rfl rfl ?_
 dsimp only [fnchecked]
 refine jf (Q:=fun m=>m=[some (.list (rows.map Row.d)),some (.list []),none,none]) ⟨_,pJ (d:=.list []) rfl rfl,rfl⟩ ?_
 rintro _ rfl
 refine jf (fN (items:=cA 0 (rows.map Row.d)) (fun k m=>∃ x2 x3,k≤rows.length∧m=[some (.list (rows.map Row.d)),some (.list ((blk rows k).map blD)),x2,x3]) (eJ rfl) rfl ⟨none,none,Nat.zero_le _,rfl⟩ (fun k vs m hk hI=>?_)) ?_
 ·obtain ⟨x2,x3,hkl,rfl⟩:=hI
  obtain ⟨x,hx,rfl⟩:=kZ hk
  have hox:=ok x (List.mem_of_getElem? hx)
  have O:=uP wf (Nat.le_of_lt ((List.getElem?_eq_some_iff.mp hx).1))
  have hbs:=qr hx
  have hbl:(blk rows k).length≤1000:=by rw [ox];exact Nat.le_trans (fO rows k) (by lia)
  have hne:x.isFin=true→((blk rows k).map blD).isEmpty=false:=fun q=>by
   have h2:=ox rows k
   cases hb:blk rows k with
   | nil=>rw [hb] at h2;exact absurd (List.length_eq_zero_iff.mp h2.symm) (nd.ok k x hx q)
   | cons=>rfl
  refine ⟨_,_,rfl,?_⟩
  simp only [sX,sN]
  generalize hS:blk rows (k+1)=bs at hbs ⊢
  generalize blk rows k=ps at O hbs hbl hne ⊢
  refine ap (bh (b:=false) (Q:=fun m=>m=[some (.list (rows.map Row.d)),some (.list (ps.map blD)),some (.int (k:Int)),some x.d]) (d4 (b:=true) (ai (esC rfl es0) (hrow x hox))) (fun q=>by cases q) fun o_=>rfl) fun m e=>(fun e h=>e ▸ h) e ?_
  refine ap (qq (ai (esC rfl (esC rfl (esC rfl es0))) (hnb O (cP wf hx) _))) fun m e=>(fun e h=>e ▸ h) e ?_
  refine ap (bh (b:=x.isDeed) (Q:=fun m=>m=[some (.list (rows.map Row.d)),some (.list (ps.map blD)),some (.int (k:Int)),some x.d]) (aj (ad rfl rfl (Row.i0 x)) rfl (qp x)) (fun q=>?_) fun o_=>rfl) fun m e=>(fun e h=>e ▸ h) e ?_
  ·cases x with
   | deed v w=>exact ap (qq (ai (esC rfl (esC rfl (esC rfl es0))) (hnh O (jh hox) (cP wf hx) _))) fun m e=>e ▸ ah rfl
   | _=>cases q
  refine ap (bh (b:=x.isNamed) (Q:=fun m=>m=[some (.list (rows.map Row.d)),some (.list (ps.map blD)),some (.int (k:Int)),some x.d]) (aj (ad rfl rfl (Row.i0 x)) rfl (oz x)) (fun q=>?_) fun o_=>rfl) fun m e=>(fun e h=>e ▸ h) e ?_
  ·exact ap (qq (ai (esC rfl (esC rfl (esC rfl es0))) (hnf O q (cP wf hx) hox _))) fun m e=>e ▸ ah rfl
  refine ap (bh (b:=x.isOpen) (Q:=fun m=>m=[some (.list (rows.map Row.d)),some (.list ((if x.isOpen then ps++[(k,x)] else ps).map blD)),some (.int (k:Int)),some x.d]) (aj (ad rfl rfl (Row.i0 x)) G.op (kS x)) (fun q=>?_) fun q=>by rw [q];rfl) ?_
  ·rw [if_pos q]
   refine bv (xs:=ps.map blD) (d:=blkD k x) rfl (ai (esC rfl (esC rfl es0)) (hbo q k)) rfl (by rw [lX];lia) (ah ?_)
   rw [List.map_append];rfl
  rintro _ rfl
  refine ap (bh (b:=x.isFin) (Q:=fun m=>m=[some (.list (rows.map Row.d)),some (.list (bs.map blD)),some (.int (k:Int)),some x.d]) (aj (x:=.str x.tag) (y:=.str "end") (ad rfl rfl (Row.i0 x)) rfl (congrArg some (eH x))) (fun q=>?_) fun q=>?_) fun m e=>e ▸ ah ⟨_,_,by exact ((List.getElem?_eq_some_iff.mp hx).1),rfl⟩
  ·have hno:x.isOpen=false:=by cases x<;>first | rfl | cases q
   rw [hno,q] at hbs
   rw [hno,hbs]
   refine kU (xs:=ps.map blD) rfl (hne q) (ah ?_)
   simp only [sX,sN,Bool.false_eq_true,if_false,if_true,List.map_dropLast]
  ·rw [hbs,q]
   cases x.isOpen<;>rfl
 ·rintro _ ⟨x2,x3,_,rfl⟩
  have hb:blk rows rows.length=[]:=by
   unfold blk;rw [nd.bal];rfl
  rw [bJ,lX,hb]
  exact bE (x:=.bool false) rfl rfl b6
end
end Mine
set_option tactic.hygienic false
namespace Mine
open PySem
noncomputable def entL (held:List En) (w:Str) (wr:Bool):Src→En
 | .th i=>⟨w,kindS wr,i, "",true⟩
 | .hd u=>match aL held u with
  | some e=>⟨w,kindS wr,e.t,if e.k == Str.ofString "pick" then "" else e.w,e.o⟩
  | none=>⟨w,kindS wr,0, "",true⟩
noncomputable def gKv (g:List Str):List (D × D):=g.map fun x=>(.str x,.bool true)
theorem rq:∀ g:List Str,lm (gKv g)=some g
 | []=>rfl
 | x::g=>by show ((some x).bind fun x=>(lm (gKv g)).map fun xs=>x::xs)=_;rw [rq g];rfl
theorem ok_g {g:List Str} (h:g.Nodup):dictOk (gKv g)=true:=by
 unfold dictOk
 rw [rq,Bool.and_eq_true]
 refine ⟨by simpa using h,?_⟩
 exact List.all_eq_true.mpr fun x hx=>by obtain ⟨e,_,rfl⟩:=List.mem_map.mp hx;rfl
theorem uQ (g:List Str) (x:Str):dHas x (gKv g)=g.any fun y=>y == x:=by
 unfold dHas gKv
 rw [List.any_map]
 congr 1
theorem vP (g:List Str) (x:Str):dPut x (.bool true) (gKv g)=gKv (if g.any fun y=>y == x then g else g++[x]):=by
 unfold dPut
 rw [uQ]
 split
 ·unfold gKv
  rw [List.map_map]
  refine List.map_congr_left fun y o_=>?_
  simp only [Function.comp]
  split<;>rfl
 ·simp [gKv]
noncomputable def gPut (g:List Str) (x:Str):List Str:=if g.any fun y=>y == x then g else g++[x]
set_option tactic.hygienic true in
theorem qs (g:List Str) (x y:Str):y ∈ gPut g x↔y ∈ g∨y=x:=by
 unfold gPut
 split
 ·rename_i h
  rw [List.any_eq_true] at h
  obtain ⟨z,hz,q⟩:=h
  rw [beq_iff_eq] at q
  subst q
  exact ⟨.inl,fun h=>h.elim id fun e=>e ▸ hz⟩
 ·simp
set_option tactic.hygienic true in
theorem l5 {g:List Str} (h:g.Nodup) (x:Str):(gPut g x).Nodup:=by
 unfold gPut
 split
 ·exact h
 ·rename_i hn
  rw [List.nodup_append]
  refine ⟨h,by simp,fun a ha b hb q=>hn ?_⟩
  rw [List.mem_singleton] at hb
  rw [List.any_eq_true]
  exact ⟨a,ha,by rw [q,hb];simp⟩
theorem hZ (g:List Str) (x:Str):(g.any fun y=>y == x)=decide (x ∈ g):=by
 rw [Bool.eq_iff_iff,List.any_eq_true,decide_eq_true_eq]
 exact ⟨fun ⟨y,hy,q⟩=>by rw [beq_iff_eq] at q;exact q ▸ hy,fun h=>⟨x,h,by simp⟩⟩
theorem lj {g g':List Str} (h:∀ y,y ∈ g↔y ∈ g') (e:En):hitB g e=hitB g' e:=by
 unfold hitB
 rw [hZ,hZ,hZ,hZ]
 simp only [h]
section
variable (Φ:Str→List D→Option D) (Γ:Str→Option D) (N:Nat)
set_option tactic.hygienic true in
theorem qt (held:List En) (hl:held.length≤1000) (w:Str):runFn Φ Γ N fngiven_back [.tuple (held.map En.d),.str w]=some (.tuple ((backR [w] held).map En.d)):=by
 refine aq [some (.tuple (held.map En.d)),some (.str w),none,none,none] rfl rfl ?_
 dsimp only [fngiven_back]
 refine a7 (.dict (gKv [w])) rfl rfl (a7 (.list []) rfl rfl ?_)
 refine aQ (b8 (fun k m=>∃ (g:List Str) (x4:Option D),g.Nodup∧g.length≤k+1∧(∀ y,y ∈ g↔y ∈ ((held.take k).foldl bStep ([w],[])).1)∧m=[some (.tuple (held.map En.d)),some (.str w),some (.dict (gKv g)),some (.list (((held.take k).foldl bStep ([w],[])).2.map En.d)),x4]) (cK (es:=held) (g:=En.d) (rfl)) rfl ⟨[w],none,by simp,Nat.le_refl _,fun y=>Iff.rfl,rfl⟩ (fun k vs m hk hI=>?_)) ?_
 ·refine byG fun X_ g_=>?_
  obtain ⟨g,x4,hnd,hgl,hmem,rfl⟩:=hI
  obtain ⟨e,he,rfl⟩:=fQ hk
  refine g_ ?_
  have hkl:k < held.length:=(List.getElem?_eq_some_iff.mp he).1
  refine ⟨_,rfl,?_⟩
  have ht:held.take (k+1)=held.take k++[e]:=by rw [List.take_add_one,he];rfl
  obtain ⟨l1,l2⟩:=em (held.take k) ([w],[])
  have lt:(held.take k).length≤1000:=by rw [List.length_take];lia
  rw [ht,List.foldl_append]
  simp only [List.foldl_cons,List.foldl_nil,sX,sN]
  generalize (held.take k).foldl bStep ([w],[])=s at l1 l2 hmem ⊢
  obtain ⟨g0,acc⟩:=s
  simp only [List.length_cons,List.length_nil] at l1 l2 hmem ⊢
  have hin:∀ x:Str,pyIn (.str x) (.dict (gKv g))=some (g.any fun y=>y == x):=fun x=>by
   show (if dictOk (gKv g) then (strK (.str x)).map fun s=>dHas s (gKv g) else none)=_
   exact (if_pos (ok_g hnd)).trans (congrArg some (uQ g x))
  have hkv:(gKv g).length≤2 ^ 20:=by unfold gKv;rw [lX];lia
  refine ap (aK (Q:=fun m=>∃ (g:List Str) (x4:Option D),g.Nodup∧g.length≤k+1+1∧(∀ y,y ∈ g↔y ∈ (bStep (g0,acc) e).1)∧m=[some (.tuple (held.map En.d)),some (.str w),some (.dict (gKv g)),some (.list ((bStep (g0,acc) e).2.map En.d)),x4]) (d:=.bool (hitB g e)) ?_ (al _) (fun q=>?_) (fun q=>?_)) fun m h=>ah h
  ·refine gO ?_ ?_
   ·exact aj (ad rfl rfl (En.idx0 e)) rfl (hin e.w)
   ·exact aj (ad rfl rfl (En.idx3 e)) rfl (hin e.s)
  ·have hq:hitB g0 e=true:=by rw [← lj hmem e];exact q
   have hb:bStep (g0,acc) e=(g0++[e.w],acc++[e.gone]):=by simp only [bStep,hq,if_true]
   rw [hb]
   refine ap (Q':=fun m=>m=[some (.tuple (held.map En.d)),some (.str w),some (.dict (gKv (gPut g e.w))),some (.list (acc.map En.d)),some e.d]) ⟨_,(by
    rw [km,ad (x:=e.d) rfl rfl (En.idx0 e)]
    show (if dictOk (gKv g)&&isScalar (.bool true)&&decide ((gKv g).length≤2 ^ 20) then some (Fl.next,setV _ 2 (.dict (dPut e.w (.bool true) (gKv g)))) else none)=_
    rw [ok_g hnd,decide_eq_true hkv,vP]
    rfl),rfl⟩ ?_
   rintro _ rfl
   refine bv (d:=e.gone.d) rfl rfl rfl (by rw [lX];lia) (ah ⟨gPut g e.w,some e.d,l5 hnd _,?_,fun y=>?_,?_⟩)
   ·unfold gPut;split
    ·(exact Nat.le.step hgl)
    ·rw [List.length_append];simp only [List.length_cons,List.length_nil];(exact Nat.lt_succ_of_le hgl)
   ·rw [qs,List.mem_append,List.mem_singleton,hmem]
   ·simp only [List.map_append,List.map_cons,List.map_nil];rfl
  ·have hq:hitB g0 e=false:=by rw [← lj hmem e];exact q
   have hb:bStep (g0,acc) e=(g0,acc++[e]):=by simp only [bStep,hq,Bool.false_eq_true,if_false]
   rw [hb]
   refine bv (d:=e.d) rfl rfl rfl (by rw [lX];lia) (ah ⟨g,some e.d,hnd,by exact Nat.le.step hgl,hmem,?_⟩)
   simp only [List.map_append,List.map_cons,List.map_nil];rfl
 ·rintro _ ⟨g,x4,_,_,_,rfl⟩
  refine af ?_ rfl
  have:=cT held [w] []
  simp only [List.nil_append] at this
  simp only [x_b1,x_v,gX,gN,bX,lX,List.take_length,this]
  rfl
theorem l6 {os:List Row} {held:List En} (H:HeldOk os held) {w:Str} {wr:Bool} {s:Src} (v:V os (.lend w wr s)):cz held w wr s=held++[entL held w wr s]:=by
 cases s with
 | th i=>rfl
 | hd u=>
  obtain ⟨_,x,hx,hn,hu,_⟩:=v
  obtain ⟨e,he,hw,_⟩:=H.mem hx hn
  have:aL held u=some e:=by rw [← hu,← hw];exact a8 H.nd he
  simp only [cz,entL,this]
theorem qu (hE:∀ (held:List En) (w:Str),Φ "entry_of" [.tuple (held.map En.d),.str w]=some (enO (aL held w))) {os:List Row} {held:List En} (H:HeldOk os held) {w:Str} {wr:Bool} {s:Src} (v:V os (.lend w wr s)) :
 runFn Φ Γ N fnlent [(Row.lend w wr s).d,.tuple (held.map En.d)]=some (entL held w wr s).d:=by
 refine aq [some (Row.lend w wr s).d,some (.tuple (held.map En.d)),none] rfl rfl ?_
 dsimp only [fnlent]
 cases s with
 | th i=>exact am (x:=.bool true) rfl rfl (af rfl rfl)
 | hd u=>
  obtain ⟨_,x,hx,hn,hu,_⟩:=v
  obtain ⟨e,he,hw,_⟩:=H.mem hx hn
  have hen:aL held u=some e:=by rw [← (hw.trans hu)];exact a8 H.nd he
  have hi:item (Row.lend w wr (.hd u)).d (.int 3)=some (.str u):=rfl
  have hent:entL held w wr (.hd u)=⟨w,kindS wr,e.t,if e.k == Str.ofString "pick" then "" else e.w,e.o⟩:=by simp only [entL,hen]
  rw [hent]
  refine ae (x:=.bool false) rfl rfl (ak e.d (by simp only [x_k,x_v,bd,be,aF,ar,gX,gN,bX,mX,hi,hE,hen,enO]) rfl ?_)
  have hc:evE Φ Γ (.cmp .Eq (.idx (.v 2) (.k (.int 1))) (.k (.str "pick"))) [some (Row.lend w wr (.hd u)).d,some (.tuple (held.map En.d)),some e.d]=some (.bool (e.k == Str.ofString "pick")):=by
   exact rfl
  cases hp:(e.k == Str.ofString "pick") with
  | true=>
   rw [hp] at hc
   refine am hc rfl (af ?_ rfl)
   rw [((H.pk e he (by simpa using hp)).1)];rfl
  | false=>
   rw [hp] at hc
   refine ae hc rfl (af ?_ rfl)
   rw [(hw.trans hu)];rfl
noncomputable def bp (rows:List Row) (k:Nat):Row→Int
 | .pick _ ts=>ts.length
 | .either=>(startL rows k).length
 | .again=>2
 | _=>1
theorem qv (rows:List Row) (hf:∀ j:Nat,Φ "first_rows" [.list (rows.map Row.d),.list ((homeL rows).map .int),.int (j:Int)]=some (.list ((startL rows j).map .int))) (k:Nat) (row:Row) (hr:rows[k]?=some row) :
 runFn Φ Γ N fncount_of [.list (rows.map Row.d),.list ((homeL rows).map .int),.int (k:Int)]=some (.int (bp rows k row)):=by
 refine aq [some (.list (rows.map Row.d)),some (.list ((homeL rows).map .int)),some (.int (k:Int))] rfl rfl ?_
 dsimp only [fncount_of]
 have hc:∀ t:Str,evE Φ Γ (.cmp .Eq (.idx (.idx (.v 0) (.v 2)) (.k (.int 0))) (.k (.str t))) [some (.list (rows.map Row.d)),some (.list ((homeL rows).map .int)),some (.int (k:Int))]=some (.bool (row.tag == t)):=fun t=>by
  exact aj (ad (ad rfl rfl (aV hr)) rfl (Row.i0 row)) rfl (jV row.tag t)
 cases row with
 | pick w ts=>
  refine am (hc _) rfl (af ?_ rfl)
  exact aT (ad (ad rfl rfl (aV hr)) rfl rfl) (lenL ts)
 | either=>
  refine ae (hc _) rfl (am (hc _) rfl (af ?_ rfl))
  exact aT (ai (esC rfl (esC rfl (esC rfl es0))) (hf k)) (lenL (startL rows k))
 | again=>exact ae (hc _) rfl (ae (hc _) rfl (am (hc _) rfl (af rfl rfl)))
 | lend w q s=>exact ae (hc _) rfl (ae (hc _) rfl (ae (hc _) rfl (af rfl rfl)))
 | orr=>exact ae (hc _) rfl (ae (hc _) rfl (ae (hc _) rfl (af rfl rfl)))
 | fin=>exact ae (hc _) rfl (ae (hc _) rfl (ae (hc _) rfl (af rfl rfl)))
 | deed v w=>cases v<;>exact ae (hc _) rfl (ae (hc _) rfl (ae (hc _) rfl (af rfl rfl)))
end
end Mine
set_option tactic.hygienic false
namespace Mine
open PySem
theorem qw {rows:List Row} {j:Nat} (h:j < rows.length):(endL rows)[j]?=some (endAt rows j rows.length):=by
 unfold endL;rw [List.getElem?_map,List.getElem?_range h];rfl
section
variable (Φ:Str→List D→Option D) (Γ:Str→Option D) (N:Nat)
theorem qx (rows:List Row) (wf:WfR [] rows) (k:Nat) (hr:rows[k]?=some .fin) (held:List En) (c:Int) :
 runFn Φ Γ N fnended [.list (rows.map Row.d),.list ((homeL rows).map .int),stD (k,held)]=some (stD (aD rows k .fin held c)):=by
 have hk:k < rows.length:=(List.getElem?_eq_some_iff.mp hr).1
 have hh:=bK (bU hk)
 obtain ⟨j,hj⟩:=df (show ost rows k ≠ [] from cP wf hr)
 have hjk:=bT hj
 have hrj:=aC (rows:=rows) (j:=j) (by lia)
 have hgj:=aV hrj
 rw [hj] at hh
 have ia:=aG hrj Row.isAgain
 have ie:=aG hrj Row.isEither
 generalize rows.getD j .fin=y at hgj ia ie
 refine aq [some (.list (rows.map Row.d)),some (.list ((homeL rows).map .int)),some (stD (k,held)),none,none,none] rfl rfl ?_
 dsimp only [fnended]
 refine bC [some (.list (rows.map Row.d)),some (.list ((homeL rows).map .int)),some (stD (k,held)),some (.int (k:Int)),some (.tuple (held.map En.d)),none] rfl ?_
 refine ak (.str y.tag) (ad (ad rfl (ad rfl rfl hh) hgj) rfl (Row.i0 y)) rfl ?_
 simp only [sX,sN]
 have hso:aD rows k .fin held c=if y.isAgain then (j,held) else if y.isEither then (k+1,held) else (k+1,held.dropLast):=by
  simp only [g7,hj,Int.toNat_natCast,ia,ie]
 rw [hso]
 have hc:∀ t:Str,evE Φ Γ (.cmp .Eq (.v 5) (.k (.str t))) [some (.list (rows.map Row.d)),some (.list ((homeL rows).map .int)),some (stD (k,held)),some (.int (k:Int)),some (.tuple (held.map En.d)),some (.str y.tag)]=some (.bool (y.tag == t)):=fun t=>by
  exact rfl
 have h1:=hc (Str.ofString "again")
 have h2:=hc (Str.ofString "either")
 rw [jc] at h1
 rw [eI] at h2
 cases hya:y.isAgain with
 | true=>
  rw [hya] at h1
  refine am h1 rfl (af ?_ rfl)
  exact aZ (esC (ad rfl rfl hh) (esC rfl es0))
 | false=>
  rw [hya] at h1
  refine ae h1 rfl ?_
  cases hye:y.isEither with
  | true=>
   rw [hye] at h2
   exact am h2 rfl (af rfl rfl)
  | false=>
   rw [hye] at h2
   refine ae h2 rfl (af ?_ rfl)
   simp only [x_k,x_v,cB,ba,gn,x_sl,aF,ar,fm,fo,cC,gX,gN,bX,mX,io_n,io_i,uD]
   rw [lf,← List.map_dropLast]
   rfl
theorem qy (rows:List Row) (hl:rows.length≤1000) (nd:Nested rows) (wf:WfR [] rows)
 (hcount:∀ (k:Nat) (row:Row),rows[k]?=some row→Φ "count_of" [.list (rows.map Row.d),.list ((homeL rows).map .int),.int (k:Int)]=some (.int (bp rows k row)))
 (hlent:∀ (os:List Row) (held:List En),HeldOk os held→∀ (w:Str) (wr:Bool) (s:Src),V os (.lend w wr s)→Φ "lent" [(Row.lend w wr s).d,.tuple (held.map En.d)]=some (entL held w wr s).d)
 (hfirst:∀ j:Nat,Φ "first_rows" [.list (rows.map Row.d),.list ((homeL rows).map .int),.int (j:Int)]=some (.list ((startL rows j).map .int)))
 (hgiven:∀ (held:List En),held.length≤1000→∀ w:Str,Φ "given_back" [.tuple (held.map En.d),.str w]=some (.tuple ((backR [w] held).map En.d)))
 (hend:∀ (k:Nat),rows[k]?=some .fin→∀ (held:List En) (c:Int),Φ "ended" [.list (rows.map Row.d),.list ((homeL rows).map .int),stD (k,held)]=some (stD (aD rows k .fin held c)))
 (k:Nat) (row:Row) (hr:rows[k]?=some row) (held:List En) (H:HeldOk (ost rows k) held) (c:Int) :
 runFn Φ Γ N fnmoved [.list (rows.map Row.d),.list ((homeL rows).map .int),.list ((endL rows).map .int),stD (k,held),.int c]=some (stD (aD rows k row held c)):=by
 have hk:k < rows.length:=(List.getElem?_eq_some_iff.mp hr).1
 have hhl:held.length≤1000:=Nat.le_trans H.len (Nat.le_trans (j9 (Nat.le_of_lt hk)) hl)
 have hv:=cP wf hr
 have hh:=bK (bU hk)
 have hee:=hend k
 refine aq [some (.list (rows.map Row.d)),some (.list ((homeL rows).map .int)),some (.list ((endL rows).map .int)),some (stD (k,held)),some (.int c),none,none,none,none] rfl rfl ?_
 dsimp only [fnmoved]
 refine bC [some (.list (rows.map Row.d)),some (.list ((homeL rows).map .int)),some (.list ((endL rows).map .int)),some (stD (k,held)),some (.int c),some (.int (k:Int)),some (.tuple (held.map En.d)),none,none] rfl ?_
 refine ak row.d (ad rfl rfl (aV hr)) rfl ?_
 refine ak (.int (c.fmod (bp rows k row))) (aA rfl (ai (esC rfl (esC rfl (esC rfl es0))) (hcount k row hr)) (bw c (bp rows k row) (by
  cases row with
  | pick w ts=>
   intro h
   exact hv.2.1 (List.length_eq_zero_iff.mp (Int.ofNat.inj h))
  | either=>show ((startL rows k).length:Int) ≠ 0;simp [startL];lia
  | again=>exact (by decide:(2:Int) ≠ 0)
  | _=>exact (by decide:(1:Int) ≠ 0)))) rfl ?_
 simp only [sX,sN]
 have hL:∀ j:Nat,j < rows.length→item (.list ((endL rows).map .int)) (.int (j:Int))=some (.int (endAt rows j rows.length)):=fun j hj=>bK (qw hj)
 generalize hst:stD (k,held)=st at hee ⊢
 generalize hLm:PyData.list ((endL rows).map .int)=Lm at hL ⊢
 generalize hR:PyData.list (rows.map Row.d)=R at *
 generalize hHm:PyData.list ((homeL rows).map .int)=Hm at *
 generalize hway:c.fmod (bp rows k row)=way
 have hc:∀ t:Str,evE Φ Γ (.cmp .Eq (.idx (.v 7) (.k (.int 0))) (.k (.str t))) [some R,some Hm,some Lm,some st,some (.int c),some (.int (k:Int)),some (.tuple (held.map En.d)),some row.d,some (.int way)]=some (.bool (row.tag == t)):=fun t=>by
  exact aj (ad rfl rfl (Row.i0 row)) rfl (jV row.tag t)
 have ha:(row.tag == Str.ofString "again")=false→evE Φ Γ (.bool true (.cons (.cmp .Eq (.idx (.v 7) (.k (.int 0))) (.k (.str "again"))) (.cons (.cmp .Eq (.v 8) (.k (.int 0))) .nil))) [some R,some Hm,some Lm,some st,some (.int c),some (.int (k:Int)),some (.tuple (held.map En.d)),some row.d,some (.int way)]=some (.bool false):=fun h=>by
  have:=hc (Str.ofString "again")
  rw [h] at this
  rw [cG,eB,this];rfl
 cases row with
 | lend w q s=>
  refine am (hc _) rfl (af ?_ rfl)
  have:=hlent (ost rows k) held H w q s hv
  simp only [x_k,x_v,cB,ba,be,aF,ar,cC,gX,gN,bX,mX,this]
  rw [gm _ _ (by simp only [lX,List.length_cons,List.length_nil];lia)]
  have hso:aD rows k (.lend w q s) held c=(k+1,held++[entL held w q s]):=by simp only [qh,l6 H hv]
  rw [hso]
  simp [stD]
 | pick w ts=>
  have hne:0 < ts.length:=by
   cases ts with
   | nil=>exact absurd rfl hv.2.1
   | cons=>simp
  have hway':c.fmod ts.length=way:=hway
  have f2:=aB c (b:=(ts.length:Int)) (by exact Int.ofNat_lt.mpr hne)
  have hlt:(c.fmod ts.length).toNat < ts.length:=by omega
  have hit:item (.tuple (ts.map .int)) (.int way)=some (.int (ts.getD (c.fmod ts.length).toNat 0)):=by
   rw [← hway']
   exact uB (k:=(c.fmod ts.length).toNat) (aW (av c (b:=(ts.length:Int)) (by exact Int.ofNat_lt.mpr hne)) (by simpa using f2)) (by rw [List.getElem?_map,List.getElem?_eq_getElem hlt];simp [List.getD,List.getElem?_eq_getElem hlt])
  have j2:item (Row.pick w ts).d (.int 2)=some (.tuple (ts.map .int)):=rfl
  have j1:item (Row.pick w ts).d (.int 1)=some (.str w):=rfl
  refine ae (hc _) rfl (am (hc _) rfl (af ?_ rfl))
  simp only [x_k,x_v,cB,ba,bd,aF,ar,cC,gX,gN,bX,mX,j1,j2,hit]
  rw [gm _ _ (by simp only [lX,List.length_cons,List.length_nil];lia)]
  simp [stD,qi,En.d]
 | either=>
  obtain ⟨x,e1,e2⟩:=g8 rows k c
  have hway':c.fmod (startL rows k).length=way:=hway
  rw [hway'] at e2
  have hx:(x.toNat:Int)=x:=by
   rcases dK e1 with q | ⟨j,q,_⟩<;>lia
  refine ae (hc _) rfl (ae (hc _) rfl (am (hc _) rfl (af ?_ rfl)))
  have hso:aD rows k .either held c=(x.toNat,held):=by simp only [g5,List.getD,e1,Option.getD_some]
  rw [hso]
  simp only [x_v,cB,bd,be,aF,ar,gX,gN,bX,mX,hfirst,e2,stD,hx]
 | orr=>
  obtain ⟨j,hj⟩:=df (by
   intro q
   have hv:(ost rows k).head?.any Row.isEither=true:=hv
   rw [q] at hv;cases hv)
  have hjk:=bT hj
  obtain ⟨e,he,hel,hje,hfe,hhe⟩:=bV nd (bI rows k j (b0 hj))
  rw [hj] at hh
  refine ae (hc _) rfl (ae (hc _) rfl (ae (hc _) rfl (am (hc _) rfl (af ?_ rfl))))
  have hso:aD rows k .orr held c=(e,held):=by simp only [g6,hj,Int.toNat_natCast,he]
  rw [hso]
  simp only [x_v,cB,bd,aF,ar,gX,gN,bX,mX,hh,hL j (by lia),he,stD]
 | again=>
  refine byG fun X_ g_=>?_
  obtain ⟨e,he,hel,hke,hfe,hhe⟩:=bV nd (j:=k) (by rw [aG hr];rfl)
  refine g_ ?_
  have hway':c.fmod 2=way:=hway
  have hcc:evE Φ Γ (.bool true (.cons (.cmp .Eq (.idx (.v 7) (.k (.int 0))) (.k (.str "again"))) (.cons (.cmp .Eq (.v 8) (.k (.int 0))) .nil))) [some R,some Hm,some Lm,some st,some (.int c),some (.int (k:Int)),some (.tuple (held.map En.d)),some Row.again.d,some (.int way)]=some (.bool (true&&(way == 0))):=aH (hc _) (rfl)
  refine ae (hc _) rfl (ae (hc _) rfl (ae (hc _) rfl (ae (hc _) rfl ?_)))
  by_cases h2:way=0
  ·have hso:aD rows k .again held c=(e+1,held):=by simp only [eu,hway',if_pos h2,he,Int.toNat_natCast]
   rw [hso]
   refine am hcc (by rw [h2];rfl) (af ?_ rfl)
   simp only [x_k,x_v,cB,ba,bd,aF,ar,cC,gX,gN,bX,mX,hL k hk,he]
   rfl
  ·have hso:aD rows k .again held c=(k+1,held):=by simp only [eu,hway',if_neg h2]
   rw [hso]
   exact ae hcc (by rw [al];simp [h2]) (ae (hc _) rfl (ae (hc _) rfl (af rfl rfl)))
 | fin=>
  refine ae (hc _) rfl (ae (hc _) rfl (ae (hc _) rfl (ae (hc _) rfl (ae (ha rfl) rfl (am (hc _) rfl (af ?_ rfl))))))
  have:=hee hr held c
  rw [hst] at this
  exact ai (esC rfl (esC rfl (esC rfl es0))) this
 | deed v w=>
  cases v with
  | back=>
   refine ae (hc _) rfl (ae (hc _) rfl (ae (hc _) rfl (ae (hc _) rfl (ae (ha rfl) rfl (ae (hc _) rfl (am (hc _) rfl (af ?_ rfl)))))))
   exact aZ (esC (aA rfl rfl (cC (↑k) 1)) (esC (ai (esC rfl (esC (ad rfl rfl rfl) es0)) (hgiven held hhl w)) es0))
  | look=>exact ae (hc _) rfl (ae (hc _) rfl (ae (hc _) rfl (ae (hc _) rfl (ae (ha rfl) rfl (ae (hc _) rfl (ae (hc _) rfl (af rfl rfl)))))))
  | change=>exact ae (hc _) rfl (ae (hc _) rfl (ae (hc _) rfl (ae (hc _) rfl (ae (ha rfl) rfl (ae (hc _) rfl (ae (hc _) rfl (af rfl rfl)))))))
end
end Mine
set_option tactic.hygienic false
namespace Mine
open PySem
noncomputable def enc (p:Nat × List En):StK:=((p.1:Int),p.2.map fun e=>(e.w,e.k,e.t,e.s,e.o))
theorem oA (p:Nat × List En):stD p=stK (enc p):=by
 unfold stD stK enc
 rw [List.map_map];rfl
theorem tg {p q:Nat × List En} (h:enc p=enc q):p=q:=by
 obtain ⟨a,l⟩:=p
 obtain ⟨b,r⟩:=q
 have e1:a=b:=Int.ofNat.inj (congrArg Prod.fst h)
 have e2:l=r:=(List.map_inj_right fun x y (q:(x.w,x.k,x.t,x.s,x.o)=(y.w,y.k,y.t,y.s,y.o))=>by
  obtain ⟨_,_,_,_,_⟩:=x
  obtain ⟨_,_,_,_,_⟩:=y
  simp only [Prod.mk.injEq] at q
  obtain ⟨rfl,rfl,rfl,rfl,rfl⟩:=q
  rfl).mp (congrArg Prod.snd h)
 rw [e1,e2]
noncomputable def seenD (l:List (Nat × List En)):List (D × D):=(l.map enc).map fun k=>(stK k,PyData.bool true)
theorem h8:∀ ks:List StK,keysT (ks.map fun k=>(stK k,PyData.bool true))=some ks
 | []=>rfl
 | k::ks=>by
  show (if tru (.bool true) then (unK (stK k)).bind fun k=>(keysT (ks.map fun k=>(stK k,PyData.bool true))).map fun ks=>k::ks else none)=_
  rw [kL,h8 ks];rfl
theorem mem_enc {p:Nat × List En} {l:List (Nat × List En)}:enc p ∈ l.map enc↔p ∈ l:=by
 exact List.mem_map.trans (⟨fun ⟨q,h1,h2⟩=>tg h2 ▸ h1,fun h=>⟨p,h,rfl⟩⟩)
theorem fj:∀ {l:List (Nat × List En)},l.Nodup→nodT (l.map enc)=true:=by
 intro l
 induction l with
 | nil=>
  intro _
  exact rfl
 | cons p l fj=>
  intro h
  rw [List.nodup_cons] at h
  show (!hasT (enc p) (l.map enc)&&nodT (l.map enc))=true
  have:hasT (enc p) (l.map enc)=false:=by
   cases q:hasT (enc p) (l.map enc) with
   | false=>rfl
   | true=>exact absurd (mem_enc.mp ((dS _ _).mp q)) h.1
  rw [this,fj h.2];rfl
noncomputable def dM (l:List (Nat × List En)) (p:Nat × List En):Bool:=hasT (enc p) (l.map enc)
theorem seenB_iff {l:List (Nat × List En)} {p:Nat × List En}:dM l p=true↔p ∈ l:=(dS _ _).trans mem_enc
theorem fT {l:List (Nat × List En)} (h:l.Nodup) (p:Nat × List En):bm .NotIn (stD p) (.dict (seenD l))=some (!dM l p):=by
 have h1:dIn (stD p) (seenD l)=some (dM l p):=by
  show ((unK (stD p)).bind fun p=>(keysT (seenD l)).bind fun ks=>if nodT ks then some (hasT p ks) else none)=_
  unfold seenD
  rw [oA,kL,h8,bX,bX,if_pos (fj h)];rfl
 show (dIn (stD p) (seenD l)).map (!·)=_
 rw [h1];rfl
section
variable {Φ:Str→List D→Option D} {Γ:Str→Option D} {m:St} {ow:List Nat} {fr:Bool} {N:Nat}
set_option tactic.hygienic true in
theorem kh {i:Nat} {ix:Ex} {r:Sms} {l:List (Nat × List En)} {p:Nat × List En} {Q:St→Prop} (hm:m[i]?=some (some (.dict (seenD l)))) (hx:evE Φ Γ ix m=some (stD p)) (hn:l.Nodup) (hl:l.length≤2000) (hp:p ∉ l) (k:Go (exSs Φ Γ ow fr N r (m.set i (some (.dict (seenD (l++[p])))))) Q):Go (exSs Φ Γ ow fr N (.cons (.seti i ix (.k (.bool true))) r) m) Q:=by
 obtain ⟨m2,e2,q2⟩:=k
 refine ⟨m2,(aP ?_).trans e2,q2⟩
 rw [km,x_k,bX,hm,hx]
 show (if noList (.bool true) then ((unK (stD p)).bind fun q=>(keysT (seenD l)).bind fun ks=>if nodT ks&&tru (.bool true)&&decide (ks.length≤2 ^ 20) then some (Fl.next,setV m i (.dict (dPutT q ks (seenD l)))) else none) else none)=_
 have hk:keysT (seenD l)=some (l.map enc):=h8 _
 have hlen:(l.map enc).length≤2 ^ 20:=by rw [lX];lia
 rw [if_pos (show noList (.bool true)=true from rfl),oA,kL,hk,bX,bX,fj hn,decide_eq_true hlen,if_pos (show (true&&tru (.bool true)&&true)=true from rfl)]
 have hh:hasT (enc p) (l.map enc)=false:=by
  cases q:hasT (enc p) (l.map enc) with
  | false=>rfl
  | true=>exact absurd (mem_enc.mp ((dS _ _).mp q)) hp
 unfold dPutT
 rw [hh]
 show some (Fl.next,m.set i (some (.dict (seenD l++[(stK (enc p),.bool true)]))))=_
 unfold seenD
 rw [List.map_append,List.map_append];rfl
end
abbrev Tri:=(Nat × List En) × Option Nat × Nat
noncomputable def optI:Option Nat→D
 | some j=>.int (j:Int)
 | none=>.none
noncomputable def tD (x:Tri):D:=.tuple [stD x.1,optI x.2.1,.int (x.2.2:Int)]
noncomputable def sucOf (rows:List Row) (p:Nat × List En) (c:Nat):Nat × List En:=aD rows p.1 (rows.getD p.1 .fin) p.2 (c:Int)
noncomputable def adT (rows:List Row) (k:Nat) (p:Nat × List En) (F:List Tri) (c:Nat):List Tri:=
 if (sucOf rows p c).1 < rows.length∧dM (F.map (·.1)) (sucOf rows p c)=false then F++[(sucOf rows p c,some k,c)] else F
noncomputable def procT (rows:List Row) (k:Nat) (p:Nat × List En) (F:List Tri) (n:Nat):List Tri:=(List.range n).foldl (adT rows k p) F
theorem dg (rows:List Row) (k:Nat) (p:Nat × List En) (F:List Tri) (n:Nat):procT rows k p F (n+1)=adT rows k p (procT rows k p F n) n:=by
 unfold procT
 rw [List.range_succ,List.foldl_append];rfl
noncomputable def jj (rows:List Row) (p:Nat × List En):Nat:=(bp rows p.1 (rows.getD p.1 .fin)).toNat
noncomputable def B (rows:List Row):Nat→List Tri
 | 0=>if rows.isEmpty then [] else [((0,[]),none,0)]
 | k+1=>match (B rows k)[k]? with
  | some x=>procT rows k x.1 (B rows k) (jj rows x.1)
  | none=>B rows k
theorem B_1 (rows:List Row):B rows 0=if rows.isEmpty=true then [] else [((0,[]),none,0)]:=rfl
theorem B_2 (rows:List Row) (n:Nat):B rows (n+1)=match (B rows n)[n]? with | some x=>procT rows n x.fst (B rows n) (jj rows x.fst) | none=>B rows n:=rfl
structure BOk (rows:List Row) (k:Nat) (F:List Tri):Prop where
 st:∀ x ∈ F,StOk rows x.1
 nd:(F.map (·.1)).Nodup
 up:∀ j x,F[j]?=some x→∀ a,x.2.1=some a→a < j∧a≤k
set_option tactic.hygienic true in
theorem uR {rows:List Row} (nd:Nested rows) (wf:WfR [] rows) {k:Nat} {p:Nat × List En} (hp:StOk rows p) {F:List Tri} (h:BOk rows k F) (hk:k < F.length) (c:Nat):BOk rows k (adT rows k p F c)∧k < (adT rows k p F c).length∧(adT rows k p F c).length≤F.length+1:=by
 unfold adT
 split
 ·rename_i hc
  refine ⟨⟨fun x hx=>?_,?_,fun j x hx a ha=>?_⟩,by rw [List.length_append];exact Nat.lt_of_lt_of_le hk (Nat.le_add_right _ _),by rw [List.length_append];exact Nat.le_refl _⟩
  ·rcases List.mem_append.mp hx with q | q
   ·exact h.st x q
   ·rw [List.mem_singleton.mp q];exact ⟨hc.1,((kb nd wf (aC hp.1) hp.2 (c:Int)).2)⟩
  ·rw [List.map_append,List.nodup_append]
   refine ⟨h.nd,by simp,fun a ha b hb e=>?_⟩
   rw [List.map_cons,List.map_nil,List.mem_singleton] at hb
   subst e
   rw [hb] at ha
   rw [seenB_iff.mpr ha] at hc
   cases hc.2
  ·rcases Nat.lt_or_ge j F.length with q | q
   ·rw [List.getElem?_append_left q] at hx
    exact h.up j x hx a ha
   ·rw [List.getElem?_append_right q] at hx
    have hj:j - F.length=0:=by
     have:=(List.getElem?_eq_some_iff.mp hx).1
     simp only [List.length_cons,List.length_nil] at this
     lia
    rw [hj] at hx
    cases hx
    cases ha
    lia
 ·exact ⟨h,hk,Nat.le_succ _⟩
theorem fU {rows:List Row} (nd:Nested rows) (wf:WfR [] rows) {k:Nat} {p:Nat × List En} (hp:StOk rows p) {F:List Tri} (h:BOk rows k F) (hk:k < F.length):∀ n,BOk rows k (procT rows k p F n)∧k < (procT rows k p F n).length∧(procT rows k p F n).length≤F.length+n:=by
 intro n
 induction n with
 | zero=>exact ⟨h,hk,Nat.le_refl _⟩
 | succ n ih=>
  rw [dg]
  refine byG fun X_ g_=>?_
  obtain ⟨i1,i2,i3⟩:=ih
  obtain ⟨j1,j2,j3⟩:=uR nd wf hp i1 i2 n
  refine g_ ?_
  exact ⟨j1,j2,by lia⟩
theorem BOk.mono {rows:List Row} {k k':Nat} {F:List Tri} (h:BOk rows k F) (hk:k≤k'):BOk rows k' F:=⟨h.st,h.nd,fun j x hx a ha=>⟨(h.up j x hx a ha).1,Nat.le_trans (h.up j x hx a ha).2 hk⟩⟩
theorem rt {rows:List Row} (wf:WfR [] rows) (hl:rows.length≤1000) {p:Nat × List En} (hp:p.1 < rows.length):0≤bp rows p.1 (rows.getD p.1 .fin)∧bp rows p.1 (rows.getD p.1 .fin)≤1001:=by
 have v:=cP wf (aC hp)
 generalize rows.getD p.1 .fin=r at v
 have hs:(startL rows p.1).length≤1001:=by
  unfold startL
  rw [List.length_cons,lX]
  have:=List.length_filter_le (fun j=>isAt rows Row.isOr j&&home rows j == (p.1:Int)) (List.range rows.length)
  rw [List.length_range] at this
  lia
 cases r with
 | pick w ts=>exact ⟨Int.natCast_nonneg _,by have:=v.2.2;show (ts.length:Int)≤1001;lia⟩
 | either=>exact ⟨Int.natCast_nonneg _,by show ((startL rows p.1).length:Int)≤1001;(exact Int.ofNat_lt.mpr hs)⟩
 | again=>exact ⟨(by decide:(0:Int)≤2),(by decide:(2:Int)≤1001)⟩
 | _=>exact ⟨(by decide:(0:Int)≤1),(by decide:(1:Int)≤1001)⟩
set_option tactic.hygienic true in
theorem B_ok {rows:List Row} (nd:Nested rows) (wf:WfR [] rows):∀ k,BOk rows k (B rows k)
 | 0=>by
  rw [B_1]
  split
  ·exact ⟨(fun x hx=>by cases hx),List.nodup_nil,(fun j x hx=>by cases hx)⟩
  ·rename_i hne
   refine ⟨fun x hx=>?_,by simp,fun j x hx a ha=>?_⟩
   ·rw [List.mem_singleton.mp hx]
    refine ⟨?_,⟨rfl,fun e h=>(nomatch h),List.nodup_nil,fun e h=>(nomatch h)⟩⟩
    cases rows with
    | nil=>exact absurd rfl hne
    | cons=>exact Nat.succ_pos _
   ·cases j with
    | zero=>cases hx;cases ha
    | succ j=>cases hx
 | k+1=>by
  rw [B_2]
  split
  ·rename_i x hx
   exact (fU nd wf ((B_ok nd wf k).st x (List.mem_of_getElem? hx)) (B_ok nd wf k) ((List.getElem?_eq_some_iff.mp hx).1) _).1.mono (Nat.le_succ _)
  ·exact (B_ok nd wf k).mono (Nat.le_succ _)
end Mine
set_option tactic.hygienic false
namespace Mine
open PySem
noncomputable def nxT (rows:List Row) (t k:Nat):Nat:=if (rows.getD k .fin).chooses then t+1 else t
noncomputable def nxC (rows:List Row) (cs:List Int) (t k:Nat):Int:=if (rows.getD k .fin).chooses then cs.getD t 0 else 0
noncomputable def nxS (rows:List Row) (cs:List Int) (t k:Nat) (held:List En):Nat × List En:=aD rows k (rows.getD k .fin) held (nxC rows cs t k)
noncomputable def Runs (rows:List Row) (cs:List Int):List (Nat × List En)→Nat→Nat→List En→Prop
 | [],_,k,_=>k=rows.length
 | p::l,t,k,held=>p=(k,held)∧k < rows.length∧HeldOk (ost rows k) held∧Runs rows cs l (nxT rows t k) (nxS rows cs t k held).1 (nxS rows cs t k held).2
noncomputable def mu0 (rows:List Row) (k:Nat):Nat:=if isAt rows Row.isAgain k=true then 2 * (rows.length - (endAt rows k rows.length).toNat) - 1 else 2 * (rows.length - k)
theorem uS (rows:List Row) (k:Nat):mu0 rows k≤2 * rows.length:=by
 unfold mu0
 split
 ·exact Nat.le_trans (Nat.sub_le _ _) (Nat.mul_le_mul_left 2 (Nat.sub_le _ _))
 ·exact Nat.mul_le_mul_left 2 (Nat.sub_le _ _)
theorem l7 {rows:List Row} {k:Nat} (h:isAt rows Row.isAgain k=true):isAt rows Row.isOpen k=true:=by
 unfold isAt at h ⊢
 cases q:rows[k]? with
 | none=>rw [q] at h;cases h
 | some r=>
  rw [q] at h
  cases r<;>first | rfl | cases h
theorem ew {rows:List Row} (nd:Nested rows) {k:Nat} (h:isAt rows Row.isAgain k=true):∃ e:Nat,endAt rows k rows.length=(e:Int)∧k < e∧e < rows.length∧mu0 rows k=2 * (rows.length - e) - 1:=by
 obtain ⟨e,he,h1,h2,_⟩:=bV nd (l7 h)
 refine ⟨e,he,h2,h1,?_⟩
 unfold mu0
 rw [if_pos h,he,Int.toNat_natCast]
theorem ez {rows:List Row} {k:Nat} (h:isAt rows Row.isAgain k=false):mu0 rows k=2 * (rows.length - k):=by unfold mu0;rw [h];rfl
theorem lk {rows:List Row} (nd:Nested rows) {k k':Nat} {row:Row} (hr:rows[k]?=some row) (g:Goes rows k row 0 k'):mu0 rows k' < mu0 rows k:=by
 have hk:k < rows.length:=(List.getElem?_eq_some_iff.mp hr).1
 have hiso:=aG hr Row.isAgain
 have hle:=g.le
 rcases g.way with ⟨h1,h2⟩ | ⟨h1,h2,h3⟩ | ⟨h1,h2⟩
 ·rw [ez (hiso.trans h1)]
  cases hq:isAt rows Row.isAgain k' with
  | false=>rw [ez hq];lia
  | true=>
   obtain ⟨e,_,h5,h6,h7⟩:=ew nd hq
   rw [h7];lia
 ·rw [ez (hiso.trans h1)]
  obtain ⟨e,h4,h5,h6,h7⟩:=ew nd h2
  have:k=e:=Int.ofNat.inj (h3.symm.trans h4)
  rw [h7];lia
 ·obtain ⟨e,h4,h5,h6,h7⟩:=ew nd (hiso.trans h1)
  rw [h7]
  rcases h2 with ⟨_,q⟩ | ⟨e2,q1,q2⟩
  ·exact absurd rfl q
  ·have:e=e2:=Int.ofNat.inj (h4.symm.trans q1)
   subst this
   subst q2
   cases hq:isAt rows Row.isAgain (e+1) with
   | false=>rw [ez hq];lia
   | true=>
    obtain ⟨e',_,h9,h10,h11⟩:=ew nd hq
    rw [h11];lia
theorem ti {rows:List Row} {cs:List Int} {t k:Nat} (h:cs.length≤t):nxC rows cs t k=0:=by
 unfold nxC
 split
 ·simp [List.getD,List.getElem?_eq_none h]
 ·rfl
theorem uT (rows:List Row) (t k:Nat):t≤nxT rows t k:=by
 unfold nxT
 split
 ·exact Nat.le_succ _
 ·exact Nat.le_refl _
theorem tj {rows:List Row} (nd:Nested rows) (wf:WfR [] rows) {cs:List Int}:∀ (n t k:Nat) (held:List En),cs.length≤t→k≤rows.length→HeldOk (ost rows k) held→mu0 rows k≤n→∃ l,Runs rows cs l t k held∧l.length≤n:=by
 intro n
 induction n with
 | zero=>
  intro t k held ht hk H hm
  by_cases hkl:k=rows.length
  ·exact ⟨[],hkl,Nat.le_refl _⟩
  ·exfalso
   have hr:=aC (Nat.lt_of_le_of_ne hk hkl)
   exact Nat.not_lt_zero _ (Nat.lt_of_lt_of_le (lk nd hr (kb nd wf hr H 0).1) hm)
 | succ n ih=>
  intro t k held ht hk H hm
  by_cases hkl:k=rows.length
  ·exact ⟨[],hkl,Nat.zero_le _⟩
  ·have hr:=aC (Nat.lt_of_le_of_ne hk hkl)
   have g:=kb nd wf hr H 0
   obtain ⟨l,hl,hn⟩:=ih (nxT rows t k) _ _ (Nat.le_trans ht (uT ..)) g.1.le g.2 (Nat.le_of_lt_succ (Nat.lt_of_lt_of_le (lk nd hr g.1) hm))
   refine ⟨(k,held)::l,⟨rfl,Nat.lt_of_le_of_ne hk hkl,H,?_⟩,Nat.succ_le_succ hn⟩
   unfold nxS
   rw [ti ht]
   exact hl
theorem qz {rows:List Row} {cs:List Int} {l:List (Nat × List En)}:∀ {t k:Nat} {held:List En},Runs rows cs l t k held→∀ p ∈ l,StOk rows p:=by
 induction l with
 | nil=>intro t k held _ p hp;cases hp
 | cons q l ih=>
  intro t k held h p hp
  rcases List.mem_cons.mp hp with e | hp
  ·rw [e,h.1];exact ⟨h.2.1,h.2.2.1⟩
  ·exact ih h.2.2.2 p hp
theorem jk {rows:List Row} {cs:List Int} {t k:Nat} {held:List En} {l:List (Nat × List En)} (R:Runs rows cs l t k held) (h:k < rows.length):∃ l',l=(k,held)::l'∧HeldOk (ost rows k) held∧Runs rows cs l' (nxT rows t k) (nxS rows cs t k held).1 (nxS rows cs t k held).2:=by
 cases l with
 | nil=>exact absurd R (Nat.ne_of_lt h)
 | cons p l=>exact ⟨l,by rw [R.1],R.2.2⟩
theorem qA {rows:List Row} {cs:List Int} {t k:Nat} {held:List En} {l:List (Nat × List En)} (R:Runs rows cs l t k held) (h : ¬ k < rows.length):l=[]:=by
 cases l with
 | nil=>rfl
 | cons p l=>exact absurd R.2.1 h
noncomputable def natI (l:List Nat):List Int:=l.map fun n:Nat=>(n:Int)
noncomputable def Gd (rows:List Row) (q:Nat × List En) (n:Nat) (p:Nat × List En) (l:List Nat):Prop:=∀ pre:List Int,∃ fs,Runs rows (pre++natI l) fs pre.length p.1 p.2∧q ∈ fs∧fs.length≤n
theorem tl {rows:List Row} (nd:Nested rows) (wf:WfR [] rows) {q:Nat × List En} (hq:StOk rows q):Gd rows q (2 * rows.length) q []:=by
 intro pre
 obtain ⟨fs,R,hl⟩:=tj nd wf (cs:=pre++natI []) (2 * rows.length) pre.length q.1 q.2 (by rw [List.length_append];exact Nat.le_refl _) (Nat.le_of_lt hq.1) hq.2 (uS ..)
 refine ⟨fs,R,?_,hl⟩
 obtain ⟨l',e,_⟩:=jk R hq.1
 rw [e];exact .head _
theorem vQ {rows:List Row} {q p:Nat × List En} {n c:Nat} {l:List Nat} (hp:StOk rows p) (hc:(rows.getD p.1 .fin).chooses=true) (h:Gd rows q n (aD rows p.1 (rows.getD p.1 .fin) p.2 (c:Int)) l):Gd rows q (n+1) p (c::l):=by
 intro pre
 obtain ⟨fs,R,hm,hl⟩:=h (pre++[(c:Int)])
 refine ⟨p::fs,⟨rfl,hp.1,hp.2,?_⟩,.tail _ hm,Nat.succ_le_succ hl⟩
 have e1:pre++natI (c::l)=(pre++[(c:Int)])++natI l:=by rw [List.append_assoc];rfl
 have e2:nxC rows (pre++natI (c::l)) pre.length p.1=(c:Int):=by
  unfold nxC
  rw [if_pos hc]
  simp [natI,List.getD]
 have e3:nxT rows pre.length p.1=(pre++[(c:Int)]).length:=by
  unfold nxT
  rw [if_pos hc,List.length_append];rfl
 unfold nxS
 rw [e2,e3,e1]
 exact R
theorem vR {rows:List Row} {q p:Nat × List En} {n:Nat} {l:List Nat} (hp:StOk rows p) (hc:(rows.getD p.1 .fin).chooses=false) (h:Gd rows q n (aD rows p.1 (rows.getD p.1 .fin) p.2 ((0:Nat):Int)) l):Gd rows q (n+1) p l:=by
 intro pre
 obtain ⟨fs,R,hm,hl⟩:=h pre
 refine ⟨p::fs,⟨rfl,hp.1,hp.2,?_⟩,.tail _ hm,Nat.succ_le_succ hl⟩
 unfold nxS nxC nxT
 rw [hc]
 exact R
noncomputable def Par (rows:List Row) (F:List Tri):Prop:=∀ (j:Nat) (x:Tri),F[j]?=some x→(x.2.1=none→x.1=(0,[]))∧∀ a,x.2.1=some a→∃ y,F[a]?=some y∧x.1=sucOf rows y.1 x.2.2∧((rows.getD y.1.1 .fin).chooses=false→x.2.2=0)
theorem uU {rows:List Row} {F:List Tri} {k c:Nat} {y:Tri} (h:Par rows F) (hy:F[k]?=some y) (hc:(rows.getD y.1.1 .fin).chooses=false→c=0):Par rows (adT rows k y.1 F c)∧(adT rows k y.1 F c)[k]?=some y:=by
 unfold adT
 by_cases q:(sucOf rows y.1 c).1 < rows.length∧dM (F.map (·.1)) (sucOf rows y.1 c)=false
 ·rw [if_pos q]
  have up:∀ (a:Nat) (z:Tri),F[a]?=some z→(F++[(sucOf rows y.1 c,some k,c)])[a]?=some z:=fun a z hz=>(List.getElem?_append_left (List.getElem?_eq_some_iff.mp hz).1).trans hz
  refine ⟨fun j x hx=>?_,up k y hy⟩
  rcases Nat.lt_or_ge j F.length with hj | hj
  ·rw [List.getElem?_append_left hj] at hx
   exact ⟨(h j x hx).1,fun a ha=>((h j x hx).2 a ha).imp fun z hz=>⟨up a z hz.1,hz.2⟩⟩
  ·rw [List.getElem?_append_right hj] at hx
   have:x=(sucOf rows y.1 c,some k,c):=List.mem_singleton.mp (List.mem_of_getElem? hx)
   rw [this]
   exact ⟨(fun z=>nomatch z),fun a ha=>⟨y,Option.some.inj ha ▸ up k y hy,rfl,hc⟩⟩
 ·rw [if_neg q];exact ⟨h,hy⟩
theorem tm {rows:List Row} {p:Nat × List En} (h:(rows.getD p.1 .fin).chooses=false):jj rows p=1:=by
 unfold jj
 generalize rows.getD p.1 .fin=r at h
 cases r<;>first | rfl | cases h
theorem qB {rows:List Row} {F:List Tri} {k:Nat} {y:Tri} (h:Par rows F) (hy:F[k]?=some y) (n:Nat) (hn:n≤jj rows y.1):Par rows (procT rows k y.1 F n)∧(procT rows k y.1 F n)[k]?=some y:=by
 induction n with
 | zero=>exact ⟨h,hy⟩
 | succ n ih=>
  rw [dg]
  have i:=ih (Nat.le_of_succ_le hn)
  exact uU i.1 i.2 fun hc=>by rw [tm hc] at hn;lia
theorem vS (rows:List Row) (k:Nat):Par rows (B rows k):=by
 induction k with
 | zero=>
  rw [B_1]
  intro j x hx
  split at hx
  ·cases hx
  ·rw [List.mem_singleton.mp (List.mem_of_getElem? hx)]
   exact ⟨fun _=>rfl,fun a ha=>nomatch ha⟩
 | succ k ih=>
  rw [B_2]
  cases hx:(B rows k)[k]? with
  | none=>exact ih
  | some x=>exact (qB ih hx _ (Nat.le_refl _)).1
section
variable (Φ:Str→List D→Option D) (Γ:Str→Option D) (N:Nat)
theorem uV (rows:List Row) (hN:10000≤N)
 (hhome:Φ "_law_homes" [.list (rows.map Row.d)]=some (.list ((homeL rows).map .int)))
 (hstep:∀ (k:Nat) (row:Row) (_:rows[k]?=some row) (held:List En) (_:HeldOk (ost rows k) held) (c:Int),Φ "_law_step" [.list (rows.map Row.d),.list ((homeL rows).map .int),stD (k,held),.int c]=some (stD (aD rows k row held c)))
 (cs:List Int) (fs:List (Nat × List En)) (hfl:fs.length≤5000) (R:Runs rows cs fs 0 0 []):runFn Φ Γ N fn_law_run [.list (rows.map Row.d),.list (cs.map .int)]=some (.list (fs.map stD)):=by
 refine aq [some (.list (rows.map Row.d)),some (.list (cs.map .int)),none,none,none,none,none] rfl rfl ?_
 dsimp only [fn_law_run]
 refine ak (.list ((homeL rows).map .int)) (ai (esC rfl es0) hhome) rfl ?_
 refine a7 (.list []) rfl rfl (ak (stD (0,[])) rfl rfl (ak (.int 0) rfl rfl ?_))
 simp only [sX,sN]
 have hlenR:b1 .len (.list (rows.map Row.d))=some (.int rows.length):=by rw [cL,lX]
 have hlenC:b1 .len (.list (cs.map .int))=some (.int cs.length):=by rw [cL,lX]
 have hrow:=fun (k:Nat) (h:k < rows.length)=>aV (aC h)
 generalize PyData.list (rows.map Row.d)=Rw at *
 generalize PyData.list ((homeL rows).map .int)=Hm at *
 refine aQ (Q':=fun m=>∃ x4 x5 x6,m=[some Rw,some (.list (cs.map .int)),some Hm,some (.list (fs.map stD)),x4,x5,x6]) (qk (fun n m=>∃ (t k:Nat) (held:List En) (old l:List (Nat × List En)) (x6:Option D),Runs rows cs l t k held∧l.length=n∧old++l=fs∧m=[some Rw,some (.list (cs.map .int)),some Hm,some (.list (old.map stD)),some (stD (k,held)),some (.int (t:Int)),x6]) (fun n m hI=>?_) fs.length _ (by lia) ⟨0,0,[],[],fs,none,R,rfl,rfl,rfl⟩) ?_
 ·obtain ⟨t,k,held,old,l,x6,R,hn,hfs,rfl⟩:=hI
  refine ⟨decide ((k:Int) < rows.length),?_,fun q=>?_,fun q=>?_⟩
  ·rw [aj (ad rfl rfl rfl) (aT rfl hlenR) rfl];rfl
  ·rw [qA R (fun h=>of_decide_eq_false q (Int.ofNat_lt.mpr h)),List.append_nil] at hfs
   rw [hfs]
   exact ⟨_,_,_,rfl⟩
  ·have hkl:k < rows.length:=Int.ofNat_lt.mp (of_decide_eq_true q)
   obtain ⟨l',rfl,H,R'⟩:=jk R hkl
   have hol:old.length≤5000:=by rw [← hfs,List.length_append] at hfl;lia
   refine bv (xs:=old.map stD) (d:=stD (k,held)) rfl rfl (fR _) (by rw [lX];lia) ?_
   refine aw (.int 0) rfl rfl ?_
   simp only [sX,sN]
   rw [show old.map stD++[stD (k,held)]=(old++[(k,held)]).map stD by rw [List.map_append];rfl]
   refine ap (bh (b:=(rows.getD k .fin).chooses) (Q:=fun m=>m=[some Rw,some (.list (cs.map .int)),some Hm,some (.list ((old++[(k,held)]).map stD)),some (stD (k,held)),some (.int (nxT rows t k:Int)),some (.int (nxC rows cs t k))]) (aj (ad (ad rfl (ad rfl rfl rfl) (hrow k hkl)) rfl (Row.i0 _)) rfl (gu _)) (fun q=>?_) fun q=>?_) ?_
   ·unfold nxT nxC
    rw [if_pos q,if_pos q]
    refine ap (bh (b:=decide ((t:Int) < cs.length)) (Q:=fun m=>m=[some Rw,some (.list (cs.map .int)),some Hm,some (.list ((old++[(k,held)]).map stD)),some (stD (k,held)),some (.int (t:Int)),some (.int (cs.getD t 0))]) (aj rfl (aT rfl hlenC) rfl) (fun q2=>?_) fun q2=>?_) ?_
    ·refine aw (.int (cs.getD t 0)) (ad rfl rfl (bK ?_)) rfl (ah rfl)
     have:=Int.ofNat_lt.mp (of_decide_eq_true q2)
     rw [List.getElem?_eq_getElem this,List.getD,List.getElem?_eq_getElem this];rfl
    ·rw [show cs.getD t 0=0 by rw [List.getD,List.getElem?_eq_none (Nat.le_of_not_lt fun h=>of_decide_eq_false q2 (Int.ofNat_lt.mpr h))];rfl]
    ·rintro _ rfl
     exact aw (.int ((t+1:Nat):Int)) rfl rfl (ah rfl)
   ·unfold nxT nxC
    rw [q];rfl
   ·rintro _ rfl
    refine aw (stD (nxS rows cs t k held)) (ai (esC rfl (esC rfl (esC rfl (esC rfl es0)))) (hstep k _ (aC hkl) held H (nxC rows cs t k))) rfl (ah ⟨l'.length,?_,_,_,_,old++[(k,held)],l',_,R',rfl,?_,rfl⟩)
    ·rw [← hn];exact Nat.lt_succ_self _
    ·rw [List.append_assoc];exact hfs
 ·rintro _ ⟨x4,x5,x6,rfl⟩
  exact af rfl rfl
end
end Mine
set_option tactic.hygienic false
namespace Mine
open PySem
noncomputable def aheadL:Nat→List Row
 | 0=>[]
 | n+1=>aheadL n++[.lend "ahead" false (.th n),.fin]
noncomputable def longOf (ns:List Int) (rows:List Row):List Row:=if (cellAt ns 1).fmod 16 ≠ 5∨62 < rows.length then rows else aheadL (45+(cellAt ns 2).fmod 25).toNat++rows
theorem fV (n:Nat):(aheadL n).length=2 * n:=by
 induction n with
 | zero=>rfl
 | succ n ih=>
  show (aheadL n++_).length=_
  rw [List.length_append,ih];rfl
theorem l8 (n:Nat):nest (aheadL n) 0=some 0:=by
 induction n with
 | zero=>rfl
 | succ n ih=>
  show nest (aheadL n++_) 0=_
  rw [aU,ih];rfl
theorem ll (n:Nat):WfR [] (aheadL n)∧after [] (aheadL n)=[]:=by
 induction n with
 | zero=>exact ⟨trivial,rfl⟩
 | succ n ih=>
  refine ⟨ef _ _ _ ih.1 ?_,?_⟩
  ·rw [ih.2]
   exact ⟨⟨⟨by decide +kernel,fun x hx=>nomatch hx⟩,trivial⟩,List.cons_ne_nil _ _,trivial⟩
  ·show after [] (aheadL n++_)=_
   rw [bo,ih.2];rfl
theorem qC (n:Nat) (hn:n≤100):∀ x ∈ aheadL n,x.Ok:=by
 induction n with
 | zero=>intro x hx;cases hx
 | succ n ih=>
  intro x hx
  rcases List.mem_append.mp (show x ∈ aheadL n++_ from hx) with q | q
  ·exact ih (Nat.le_of_succ_le hn) x q
  ·rcases List.mem_cons.mp q with e | q
   ·rw [e];exact ⟨⟨by decide +kernel,by decide +kernel,by decide +kernel⟩,Int.natCast_nonneg _,by lia⟩
   ·rw [List.mem_singleton.mp q];trivial
theorem ru (ns:List Int):45≤(45+(cellAt ns 2).fmod 25).toNat∧(45+(cellAt ns 2).fmod 25).toNat < 70:=by
 have h1:=av (cellAt ns 2) (b:=25) (by decide)
 have h2:=aB (cellAt ns 2) (b:=25) (by decide)
 lia
theorem qD (ns:List Int) {rows:List Row} (hl:rows.length≤800) (hn:nest rows 0=some 0) (wf:WfR [] rows) (ok:∀ x ∈ rows,x.Ok):(longOf ns rows).length≤1000∧nest (longOf ns rows) 0=some 0∧WfR [] (longOf ns rows)∧∀ x ∈ longOf ns rows,x.Ok:=by
 have hn2:=(ru ns).2
 unfold longOf
 split
 ·exact ⟨by lia,hn,wf,ok⟩
 ·refine ⟨by rw [List.length_append,fV];lia,by rw [aU,l8];exact hn,ef _ _ _ (ll _).1 (by rw [(ll _).2];exact wf),fun x hx=>(List.mem_append.mp hx).elim (qC _ (by lia) x) (ok x)⟩
section
variable (Φ:Str→List D→Option D) (Γ:Str→Option D) (N:Nat)
theorem tn (ns:List Int) {rows:List Row} (hl:rows.length≤800) (hc:∀ k:Int,0≤k→Φ "_law_cell_at" [.list (ns.map .int),.int k]=some (.int (cellAt ns k))) :
 runFn Φ Γ N fn_law_long [.list (ns.map .int),.list (rows.map Row.d)]=some (.list ((longOf ns rows).map Row.d)):=by
 refine aq [some (.list (ns.map .int)),some (.list (rows.map Row.d)),none,none] rfl rfl ?_
 dsimp only [fn_law_long]
 have hn:=ru ns
 have hlenR:b1 .len (.list (rows.map Row.d))=some (.int rows.length):=by rw [cL,lX]
 have c1:evE Φ Γ (.cmp .NotEq (.bin .Mod (.call false "_law_cell_at" (.cons (.v 0) (.cons (.k (.int 1)) .nil))) (.k (.int 16))) (.k (.int 5))) [some (.list (ns.map .int)),some (.list (rows.map Row.d)),none,none]=some (.bool (!((cellAt ns 1).fmod 16 == 5))):=aj (aA (ai (esC rfl (esC rfl es0)) (hc 1 (by decide))) rfl (bw _ 16 (by decide))) rfl rfl
 have c2:evE Φ Γ (.cmp .Gt (.b1 .len (.v 1)) (.k (.int 62))) [some (.list (ns.map .int)),some (.list (rows.map Row.d)),none,none]=some (.bool (decide ((62:Int) < rows.length))):=aj (aT rfl hlenR) rfl (v_gt (rows.length:Int) 62)
 have cc:=gO c1 c2
 unfold longOf
 by_cases q:(cellAt ns 1).fmod 16 ≠ 5∨62 < rows.length
 ·rw [if_pos q]
  refine am cc ?_ (af rfl rfl)
  rw [al,Option.some.injEq,Bool.or_eq_true,Bool.not_eq_true',beq_eq_false_iff_ne,decide_eq_true_eq]
  exact q.imp id fun h=>Int.ofNat_lt.mpr h
 ·rw [if_neg q]
  refine ae cc ?_ ?_
  ·rw [al,Option.some.injEq,Bool.or_eq_false_iff,Bool.not_eq_false',beq_iff_eq,decide_eq_false_iff_not]
   exact ⟨Classical.not_not.mp fun h=>q (.inl h),fun h=>q (.inr (Int.ofNat_lt.mp h))⟩
  refine ak (.list []) rfl rfl ?_
  refine aQ (b8 (fun j m=>∃ x3,m=[some (.list (ns.map .int)),some (.list (rows.map Row.d)),some (.list ((aheadL j).map Row.d)),x3]) (bH (n:=45+(cellAt ns 2).fmod 25) (aA rfl (aA (ai (esC rfl (esC rfl es0)) (hc 2 (by decide))) rfl (bw _ 25 (by decide))) rfl) (by lia)) rfl ⟨_,rfl⟩ (fun k vs m hk hI=>?_)) ?_
  ·obtain ⟨x3,rfl⟩:=hI
   rw [List.getElem?_map] at hk
   obtain ⟨i,hi,rfl⟩:=Option.map_eq_some_iff.mp hk
   have h1:=(List.getElem?_eq_some_iff.mp hi).1
   have h2:=(List.getElem?_eq_some_iff.mp hi).2
   rw [List.length_range] at h1
   rw [List.getElem_range] at h2
   subst h2
   refine ⟨_,rfl,?_⟩
   refine aw (.list ((aheadL (k+1)).map Row.d)) (aA rfl (aS (esC (aZ (esC rfl (esC rfl (esC rfl (esC rfl es0))))) (esC (aZ (esC rfl es0)) es0))) ?_) rfl (ah ⟨_,rfl⟩)
   rw [eV _ _ (by rw [lX,fV];show 2 * k+2≤_;lia)]
   show _=some (PyData.list ((aheadL k++_).map Row.d))
   rw [List.map_append];rfl
  ·rintro _ ⟨x3,rfl⟩
   rw [lX,List.length_range]
   generalize (45+(cellAt ns 2).fmod 25).toNat=n at hn
   rw [List.map_append]
   have hz:((aheadL n).map Row.d).length+(rows.map Row.d).length≤2 ^ 20:=by
    rw [lX,lX,fV]
    exact Nat.le_trans (Nat.add_le_add (Nat.mul_le_mul_left 2 (Nat.le_of_lt hn.2)) hl) (by decide)
   exact af (aA rfl rfl (eV _ _ hz)) rfl
end
end Mine
set_option tactic.hygienic false
namespace Mine
open PySem
structure Stop (rows:List Row) (K:Nat):Prop where
 le:K≤401
 go:∀ k,k < K→k < (B rows k).length∧(B rows k).length < 401
 fin:(B rows K).length≤K∨401≤(B rows K).length
theorem B_at {rows:List Row} {k:Nat} (h:k < (B rows k).length):∃ x,(B rows k)[k]?=some x∧B rows (k+1)=procT rows k x.1 (B rows k) (jj rows x.1):=by
 refine ⟨_,List.getElem?_eq_getElem h,?_⟩
 conv=>lhs;rw [B_2]
 rw [List.getElem?_eq_getElem h]
theorem oB (rows:List Row) (k:Nat) (p:Nat × List En) (F:List Tri) (c:Nat):(adT rows k p F c).map (·.1)=if decide ((sucOf rows p c).1 < rows.length)&&!dM (F.map (·.1)) (sucOf rows p c) then F.map (·.1)++[sucOf rows p c] else F.map (·.1):=by
 unfold adT
 by_cases h1:(sucOf rows p c).1 < rows.length
 ·cases h2:dM (F.map (·.1)) (sucOf rows p c) with
  | false=>rw [if_pos ⟨h1,rfl⟩,decide_eq_true h1,List.map_append];rfl
  | true=>rw [if_neg (fun q=>by cases q.2),decide_eq_true h1];rfl
 ·rw [if_neg (fun q=>h1 q.1),decide_eq_false h1];rfl
theorem uW {l:List (Nat × List En)} {k:Nat} {p:Nat × List En} (h:l[k]?=some p):item (.list (l.map stD)) (.int (k:Int))=some (stD p):=by
 exact p_mk (k:=k) ((aW (Int.natCast_nonneg _) (by rw [lX];exact Int.ofNat_lt.mpr ((List.getElem?_eq_some_iff.mp h).1)))) (by rw [List.getElem?_map,h];rfl)
section
variable {Φ:Str→List D→Option D} {Γ:Str→Option D} {m:St} {ow:List Nat} {fr:Bool} {N:Nat}
theorem vT {c:Ex} {body:Sms} {Q:St→Prop} {d:D} (I:Nat→St→Prop) (hs:∀ n m,I n m→∃ b,(evE Φ Γ c m).bind truth=some b∧(b=false→Q m)∧(b=true→Rt (exSs Φ Γ ow fr N body m) d∨Go (exSs Φ Γ ow fr N body m) (fun m'=>∃ n',n' < n∧I n' m'))) (n:Nat) (m:St) (hn:n < N) (h:I n m):Rt (exS Φ Γ ow fr N (.wh c body) m) d∨Go (exS Φ Γ ow fr N (.wh c body) m) Q:=by
 have main:∀ (f n:Nat) (m:St),n < f→I n m→Rt (whL (fun m=>(evE Φ Γ c m).bind truth) (fun m=>exSs Φ Γ ow fr N body m) f m) d∨Go (whL (fun m=>(evE Φ Γ c m).bind truth) (fun m=>exSs Φ Γ ow fr N body m) f m) Q:=by
  intro f
  induction f with
  | zero=>intro n m h _;exact absurd h (Nat.not_lt_zero _)
  | succ f ih=>
   intro n m hf h
   obtain ⟨b,h1,h2,h3⟩:=hs n m h
   cases b with
   | false=>exact .inr ⟨m,by simp only [ln,h1],h2 rfl⟩
   | true=>
    rcases h3 rfl with ⟨m1,e1⟩ | ⟨m1,e1,n',hn',hI⟩
    ·exact .inl ⟨m1,by simp only [ln,h1,e1]⟩
    ·have hw:whL (fun m=>(evE Φ Γ c m).bind truth) (fun m=>exSs Φ Γ ow fr N body m) (f+1) m=whL (fun m=>(evE Φ Γ c m).bind truth) (fun m=>exSs Φ Γ ow fr N body m) f m1:=by simp only [ln,h1,e1]
     rw [hw]
     exact ih n' m1 (by lia) hI
 exact main N n m hn h
end
section
variable (Φ:Str→List D→Option D) (Γ:Str→Option D) (N:Nat)
theorem ki (rows:List Row) (hf:∀ j:Nat,j < rows.length→Φ "_law_starts" [.list (rows.map Row.d),.list ((homeL rows).map .int),.int (j:Int)]=some (.list ((startL rows j).map .int))) (k:Nat) (row:Row) (hr:rows[k]?=some row) :
 runFn Φ Γ N fn_law_some_ways [.list (rows.map Row.d),.list ((homeL rows).map .int),.int (k:Int)]=some (.int (bp rows k row)):=by
 have hg:=aV hr
 refine aq [some (.list (rows.map Row.d)),some (.list ((homeL rows).map .int)),some (.int (k:Int))] rfl rfl ?_
 dsimp only [fn_law_some_ways]
 generalize PyData.list (rows.map Row.d)=R at hg hf ⊢
 have hc:∀ t:Str,evE Φ Γ (.cmp .Eq (.idx (.idx (.v 0) (.v 2)) (.k (.int 0))) (.k (.str t))) [some R,some (.list ((homeL rows).map .int)),some (.int (k:Int))]=some (.bool (row.tag == t)):=fun t=>aj (ad (ad rfl rfl hg) rfl (Row.i0 row)) rfl rfl
 have hlast:∀ b:Bool,(row.tag == Str.ofString "again")=b→evE Φ Γ (.idx (.lst (.cons (.k (.int 1)) (.cons (.k (.int 2)) .nil))) (.b1 .int (.cmp .Eq (.idx (.idx (.v 0) (.v 2)) (.k (.int 0))) (.k (.str "again"))))) [some R,some (.list ((homeL rows).map .int)),some (.int (k:Int))]=some (.int (if b then 2 else 1)):=fun b hb=>by
  have:=hc (Str.ofString "again")
  rw [hb] at this
  cases b<;>exact ad rfl (aT this rfl) rfl
 cases row with
 | pick w ts=>exact am (hc _) rfl (af (aT (ad (ad rfl rfl hg) rfl rfl) (by rw [nO,lX];rfl)) rfl)
 | either=>exact ae (hc _) rfl (am (hc _) rfl (af (aT (ai (esC rfl (esC rfl (esC rfl es0))) (hf k ((List.getElem?_eq_some_iff.mp hr).1))) (by rw [cL,lX];rfl)) rfl))
 | again=>exact ae (hc _) rfl (ae (hc _) rfl (af (hlast true rfl) rfl))
 | lend w q s=>exact ae (hc _) rfl (ae (hc _) rfl (af (hlast false rfl) rfl))
 | orr=>exact ae (hc _) rfl (ae (hc _) rfl (af (hlast false rfl) rfl))
 | fin=>exact ae (hc _) rfl (ae (hc _) rfl (af (hlast false rfl) rfl))
 | deed v w=>cases v<;>exact ae (hc _) rfl (ae (hc _) rfl (af (hlast false rfl) rfl))
theorem uX {rows:List Row} (hl:rows.length≤1000) (nd:Nested rows) (wf:WfR [] rows) (hN:3000≤N)
 (hhome:Φ "_law_homes" [.list (rows.map Row.d)]=some (.list ((homeL rows).map .int)))
 (hmany:∀ (k:Nat) (row:Row),rows[k]?=some row→Φ "_law_some_ways" [.list (rows.map Row.d),.list ((homeL rows).map .int),.int (k:Int)]=some (.int (bp rows k row)))
 (hstep:∀ (k:Nat) (row:Row) (_:rows[k]?=some row) (held:List En) (_:HeldOk (ost rows k) held) (c:Int),Φ "_law_step" [.list (rows.map Row.d),.list ((homeL rows).map .int),stD (k,held),.int c]=some (stD (aD rows k row held c))) :
 runFn Φ Γ N fn_law_few [.list (rows.map Row.d),.int 400]=some (.bool false)∨∃ K,Stop rows K∧(B rows K).length≤K∧runFn Φ Γ N fn_law_few [.list (rows.map Row.d),.int 400]=some (.bool true):=by
 have hlenR:b1 .len (.list (rows.map Row.d))=some (.int rows.length):=by rw [cL,lX]
 generalize PyData.list ((homeL rows).map .int)=Hm at *
 have upto:∀ d:D,(∀ m:St,m=[some (.list (rows.map Row.d)),some (.int 400),some Hm,some (.list [stD (0,[])]),some (.dict (seenD [(0,[])])),some (.int 0),none,none,none]→Rt (exSs Φ Γ fn_law_few.ow fn_law_few.fr N (match fn_law_few.body with | .cons _ (.cons _ (.cons _ (.cons _ s)))=>s | _=>.nil) m) d)→runFn Φ Γ N fn_law_few [.list (rows.map Row.d),.int 400]=some d:=fun d h=>by
  refine aq [some (.list (rows.map Row.d)),some (.int 400),none,none,none,none,none,none,none] rfl rfl ?_
  dsimp only [fn_law_few] at h ⊢
  refine ak Hm (ai (esC rfl es0) hhome) rfl (a7 (.list [stD (0,[])]) rfl rfl (a7 (.dict (seenD [(0,[])])) rfl rfl (ak (.int 0) rfl rfl (h _ rfl))))
 generalize PyData.list (rows.map Row.d)=Rw at *
 dsimp only [fn_law_few] at upto
 cases hne:rows.isEmpty with
 | true=>
  have hz:rows.length=0:=congrArg _ (List.isEmpty_iff.mp hne)
  have hB:B rows 0=[]:=by rw [B_1,hne];rfl
  refine .inr ⟨0,⟨Nat.zero_le _,(fun k h=>absurd h (Nat.not_lt_zero _)),.inl (by rw [hB];exact Nat.le_refl _)⟩,by rw [hB];exact Nat.le_refl _,upto _ fun m hm=>?_⟩
  refine aQ (Q':=fun _=>True) (qk (fun _ m'=>m'=m) (fun n m' e=>⟨false,?_,fun _=>trivial,fun z=>nomatch z⟩) 0 m (by lia) rfl) fun m' _=>af rfl rfl
  rw [e,hm,aH (b:=true) (c:=false) rfl (aj (aT rfl hlenR) rfl (by rw [hz];rfl))];rfl
 | false=>
  have hB:B rows 0=[((0,[]),none,0)]:=by rw [B_1,hne];rfl
  have hpos:decide ((0:Int) < (rows.length:Int))=true:=by
   cases rows with
   | nil=>cases hne
   | cons=>exact decide_eq_true (Int.ofNat_lt.mpr (Nat.succ_pos _))
  have loop:=vT (Φ:=Φ) (Γ:=Γ) (N:=N) (ow:=fn_law_few.ow) (fr:=fn_law_few.fr) (c:=(match fn_law_few.body with | .cons _ (.cons _ (.cons _ (.cons _ (.cons (.wh c _) _))))=>c | _=>.v 0)) (body:=(match fn_law_few.body with | .cons _ (.cons _ (.cons _ (.cons _ (.cons (.wh _ b) _))))=>b | _=>.nil)) (d:=.bool false)
   (Q:=fun m=>∃ K,Stop rows K∧(B rows K).length≤K)
   (fun n m=>∃ k,n=401 - k∧k≤401∧(∀ j,j < k→j < (B rows j).length∧(B rows j).length < 401)∧∃ x6 x7 x8,m=[some Rw,some (.int 400),some Hm,some (.list (((B rows k).map (·.1)).map stD)),some (.dict (seenD ((B rows k).map (·.1)))),some (.int (k:Int)),x6,x7,x8]) (fun n m hI=>?_) 401 [some Rw,some (.int 400),some Hm,some (.list [stD (0,[])]),some (.dict (seenD [(0,[])])),some (.int 0),none,none,none] (by lia) ⟨0,rfl,Nat.zero_le _,(fun j hj=>absurd hj (Nat.not_lt_zero _)),none,none,none,by rw [hB];rfl⟩
  ·dsimp only [fn_law_few] at loop
   rcases loop with ⟨m1,e1⟩ | ⟨m1,e1,K,hK,hle⟩
   ·exact .inl (upto _ fun m hm=>⟨m1,dE (by rw [hm];exact e1)⟩)
   ·exact .inr ⟨K,hK,hle,upto _ fun m hm=>bC m1 (by rw [hm];exact e1) (af rfl rfl)⟩
  ·dsimp only [fn_law_few]
   obtain ⟨k,rfl,hk4,hgo,x5,x6,x7,rfl⟩:=hI
   have hlen:b1 .len (.list (((B rows k).map (·.1)).map stD))=some (.int (B rows k).length):=by rw [cL,lX,lX]
   refine ⟨decide ((k:Int) < ((B rows k).length:Int))&&decide ((0:Int) < (rows.length:Int)),?_,fun q=>?_,fun q=>?_⟩
   ·rw [aH (aj rfl (aT rfl hlen) rfl) (aj (aT rfl hlenR) rfl rfl)];rfl
   ·rw [hpos,Bool.and_true,decide_eq_false_iff_not] at q
    have hle:(B rows k).length≤k:=Nat.le_of_not_lt fun h=>q (Int.ofNat_lt.mpr h)
    exact ⟨k,⟨hk4,hgo,.inl hle⟩,hle⟩
   ·rw [hpos,Bool.and_true,decide_eq_true_eq] at q
    cases h4:decide ((400:Int) < ((B rows k).length:Int)) with
    | true=>exact .inl (am (x:=.bool true) (by rw [aj (aT rfl hlen) rfl (gt_int _ _),h4]) rfl (af rfl rfl))
    | false=>
    have h400:=of_decide_eq_false h4
    refine .inr (ap (Q':=fun m=>m=[some Rw,some (.int 400),some Hm,some (.list (((B rows k).map (·.1)).map stD)),some (.dict (seenD ((B rows k).map (·.1)))),some (.int (k:Int)),x5,x6,x7]) (bh (b:=false) (by rw [aj (aT rfl hlen) rfl (gt_int _ _),h4]) (fun z=>nomatch z) fun _=>rfl) ?_)
    rintro _ rfl
    have hk:k < (B rows k).length:=by lia
    obtain ⟨x,hx,hB⟩:=B_at hk
    have hst:=(B_ok nd wf k).st x (List.mem_of_getElem? hx)
    have hcnt:=rt wf hl hst.1
    refine aw (stD x.1) (ad rfl rfl (uW (by rw [List.getElem?_map,hx];rfl))) rfl ?_
    have hcn:(bp rows x.1.1 (rows.getD x.1.1 .fin)).toNat=jj rows x.1:=rfl
    refine ap (b8 (fun c m=>∃ x6 x7,m=[some Rw,some (.int 400),some Hm,some (.list (((procT rows k x.1 (B rows k) c).map (·.1)).map stD)),some (.dict (seenD ((procT rows k x.1 (B rows k) c).map (·.1)))),some (.int (k:Int)),some (stD x.1),x6,x7]) (bH (ai (esC rfl (esC rfl (esC (ad rfl rfl rfl) es0))) (hmany x.1.1 _ (aC hst.1))) (by lia)) rfl ⟨_,_,rfl⟩ (fun c vs m hc hI=>?_)) ?_
    ·obtain ⟨x6,x7,rfl⟩:=hI
     rw [List.getElem?_map] at hc
     obtain ⟨i,hi,rfl⟩:=Option.map_eq_some_iff.mp hc
     obtain ⟨hi1,hi2⟩:=List.getElem?_eq_some_iff.mp hi
     rw [List.length_range] at hi1
     rw [List.getElem_range] at hi2
     subst hi2
     refine ⟨_,rfl,?_⟩
     have plen:=(fU nd wf hst (B_ok nd wf k) hk c).2.2
     rw [dg,oB]
     have hnd:=((fU nd wf hst (B_ok nd wf k) hk c).1).nd
     have hpl:((procT rows k x.1 (B rows k) c).map (·.1)).length≤1500:=by rw [lX];lia
     generalize (procT rows k x.1 (B rows k) c).map (·.1)=l at hnd hpl ⊢
     refine aw (stD (sucOf rows x.1 c)) (ai (esC rfl (esC rfl (esC rfl (esC rfl es0)))) (hstep x.1.1 _ (aC hst.1) x.1.2 hst.2 (c:Int))) rfl ?_
     simp only [sX,sN]
     generalize sucOf rows x.1 c=q at *
     refine ap (bh (b:=decide ((q.1:Int) < (rows.length:Int))&&!dM l q) (Q:=fun m=>∃ x6 x7,m=[some Rw,some (.int 400),some Hm,some (.list ((if decide (q.1 < rows.length)&&!dM l q then l++[q] else l).map stD)),some (.dict (seenD (if decide (q.1 < rows.length)&&!dM l q then l++[q] else l))),some (.int (k:Int)),some (stD x.1),x6,x7]) (aH (aj (ad rfl rfl rfl) (aT rfl hlenR) rfl) (aj rfl rfl (fT hnd q))) (fun z=>?_) fun z=>?_) fun m e=>ah e
     ·have z':(decide (q.1 < rows.length)&&!dM l q)=true:=by
       rw [← z];congr 1;exact decide_eq_decide.mpr Int.ofNat_lt.symm
      rw [z']
      rw [Bool.and_eq_true,Bool.not_eq_true'] at z
      have hnm:q ∉ l:=fun h=>by rw [seenB_iff.mpr h] at z;cases z.2
      refine kh (l:=l) (p:=q) rfl rfl hnd (by lia) hnm ?_
      simp only [sX,sN,if_true]
      refine bv (xs:=l.map stD) (d:=stD q) rfl rfl (fR _) (by rw [lX];lia) (ah ⟨some (.int (c:Int)),some (stD q),?_⟩)
      simp only [sX,sN,List.map_append]
      rfl
     ·have z':(decide (q.1 < rows.length)&&!dM l q)=false:=by
       rw [← z];congr 1;exact decide_eq_decide.mpr Int.ofNat_lt.symm
      exact z' ▸ (⟨_,_,rfl⟩)
    ·refine al2 fun x6 x7=>?_
     rw [lX,List.length_range,hcn,← hB]
     refine aw (.int ((k+1:Nat):Int)) rfl rfl (ah ?_)
     exact ⟨401 - (k+1),by lia,k+1,rfl,by lia,fun j hj=>(Nat.lt_or_eq_of_le (Nat.le_of_lt_succ hj)).elim (hgo j) fun e=>e ▸ ⟨hk,(by lia)⟩,_,_,_,rfl⟩
end
end Mine
set_option tactic.hygienic false
namespace Mine
open PySem
theorem oC (x:Tri):noList (tD x)=true:=by
 show (noList (stD x.1)&&(noList (optI x.2.1)&&true))=true
 rw [fR]
 cases x.2.1<;>rfl
theorem fW {l:List Tri} {k:Nat} {x:Tri} (h:l[k]?=some x):item (.list (l.map tD)) (.int (k:Int))=some (tD x):=by
 exact p_mk (k:=k) ((aW (Int.natCast_nonneg _) (by rw [lX];exact Int.ofNat_lt.mpr ((List.getElem?_eq_some_iff.mp h).1)))) (by rw [List.getElem?_map,h];rfl)
section
variable (Φ:Str→List D→Option D) (Γ:Str→Option D) (N:Nat)
set_option tactic.hygienic true in
theorem jm {rows:List Row} (hl:rows.length≤1000) (nd:Nested rows) (wf:WfR [] rows) (hN:3000≤N)
 (hhome:Φ "homes" [.list (rows.map Row.d)]=some (.list ((homeL rows).map .int))) (hend:Φ "ends" [.list (rows.map Row.d)]=some (.list ((endL rows).map .int)))
 (hcount:∀ (k:Nat) (row:Row),rows[k]?=some row→Φ "count_of" [.list (rows.map Row.d),.list ((homeL rows).map .int),.int (k:Int)]=some (.int (bp rows k row)))
 (hmoved:∀ (k:Nat) (row:Row) (_:rows[k]?=some row) (held:List En) (_:HeldOk (ost rows k) held) (c:Int),Φ "moved" [.list (rows.map Row.d),.list ((homeL rows).map .int),.list ((endL rows).map .int),stD (k,held),.int c]=some (stD (aD rows k row held c)))
 {K:Nat} (hK:Stop rows K) (hfin:(B rows K).length≤K):runFn Φ Γ N fnstandings [.list (rows.map Row.d)]=some (.list ((B rows K).map tD)):=by
 refine aq [some (.list (rows.map Row.d)),none,none,none,none,none,none,none,none] rfl rfl ?_
 dsimp only [fnstandings]
 generalize hHm:PyData.list ((homeL rows).map .int)=Hm at *
 generalize hEm:PyData.list ((endL rows).map .int)=Em at *
 have hlenR:b1 .len (.list (rows.map Row.d))=some (.int rows.length):=by rw [cL,lX]
 generalize hRw:PyData.list (rows.map Row.d)=Rw at *
 refine ak Hm (ai (esC rfl es0) hhome) rfl ?_
 refine ak Em (ai (esC rfl es0) hend) rfl (a7 (.list []) rfl rfl (a7 (.dict []) rfl rfl ?_))
 simp only [sX,sN]
 have hB0:B rows 0=if rows.isEmpty then [] else [((0,[]),none,0)]:=rfl
 refine aQ (Q':=fun m=>m=[some Rw,some Hm,some Em,some (.list ((B rows 0).map tD)),some (.dict (seenD ((B rows 0).map (·.1)))),none,none,none,none]) (bh (b:=decide ((0:Int) < (rows.length:Int))) (aj (aT rfl hlenR) rfl rfl) (fun z=>?_) fun z=>?_) ?_
 ·have z:=of_decide_eq_true z
  have hne:rows.isEmpty=false:=by
   cases rows with
   | nil=>cases z
   | cons=>rfl
  rw [hB0,hne]
  refine bv (xs:=[]) (d:=tD ((0,[]),none,0)) rfl rfl rfl (Nat.zero_le _) ?_
  exact kh (l:=[]) (p:=(0,[])) rfl rfl List.nodup_nil (Nat.zero_le _) (List.not_mem_nil) (ah rfl)
 ·have z:=of_decide_eq_false z
  have hne:rows.isEmpty=true:=by
   cases rows with
   | nil=>rfl
   | cons=>exact absurd (by rw [List.length_cons];((expose_names;exact Int.ofNat_lt.mpr (Nat.succ_pos tail.length)))) z
  rw [hB0,hne];rfl
 rintro _ rfl
 refine ak (.int 0) rfl rfl ?_
 refine aQ (Q':=fun m=>∃ x4 x5 x6 x7 x8,m=[some Rw,some Hm,some Em,some (.list ((B rows K).map tD)),x4,x5,x6,x7,x8]) (qk (fun n m=>∃ k,n=K - k∧k≤K∧∃ x6 x7 x8,m=[some Rw,some Hm,some Em,some (.list ((B rows k).map tD)),some (.dict (seenD ((B rows k).map (·.1)))),some (.int (k:Int)),x6,x7,x8]) (fun n m hI=>?_) K _ (by have:=hK.le;lia) ⟨0,rfl,Nat.zero_le _,none,none,none,rfl⟩) ?_
 ·obtain ⟨k,rfl,hkK,x6,x7,x8,rfl⟩:=hI
  refine ⟨decide ((k:Int) < ((B rows k).length:Int)),?_,fun q=>?_,fun q=>?_⟩
  ·rw [aj rfl (aT rfl (by rw [cL,lX])) rfl];rfl
  ·have q:=of_decide_eq_false q
   have:k=K:=by
    rcases Nat.lt_or_eq_of_le hkK with h | h
    ·exact absurd (Int.ofNat_lt.mpr (hK.go k h).1) q
    ·exact h
   subst this
   exact ⟨_,_,_,_,_,rfl⟩
  ·have hk:k < (B rows k).length:=Int.ofNat_lt.mp (of_decide_eq_true q)
   have hkK2:k < K:=by
    rcases Nat.lt_or_eq_of_le hkK with h | h
    ·exact h
    ·subst h;exact absurd hk (Nat.not_lt.mpr hfin)
   obtain ⟨x,hx,hB⟩:=B_at hk
   have hst:=(B_ok nd wf k).st x (List.mem_of_getElem? hx)
   have hcnt:=rt wf hl hst.1
   have h401:=(hK.go k hkK2).2
   refine aw (stD x.1) (ad (ad rfl rfl (fW hx)) rfl rfl) rfl ?_
   refine ap (b8 (fun c m=>∃ x7 x8,m=[some Rw,some Hm,some Em,some (.list ((procT rows k x.1 (B rows k) c).map tD)),some (.dict (seenD ((procT rows k x.1 (B rows k) c).map (·.1)))),some (.int (k:Int)),some (stD x.1),x7,x8]) (bH (ai (esC rfl (esC rfl (esC (ad rfl rfl rfl) es0))) (hcount x.1.1 _ (aC hst.1))) (by lia)) rfl ⟨_,_,rfl⟩ (fun c vs m hc hI=>?_)) ?_
   ·obtain ⟨x7,x8,rfl⟩:=hI
    rw [List.getElem?_map] at hc
    obtain ⟨i,hi,rfl⟩:=Option.map_eq_some_iff.mp hc
    obtain ⟨hi1,hi2⟩:=List.getElem?_eq_some_iff.mp hi
    rw [List.length_range] at hi1
    rw [List.getElem_range] at hi2
    subst hi2
    refine ⟨_,rfl,?_⟩
    have plen:=(fU nd wf hst (B_ok nd wf k) hk c).2.2
    rw [dg]
    have hnd:=((fU nd wf hst (B_ok nd wf k) hk c).1).nd
    have hpl:(procT rows k x.1 (B rows k) c).length≤1500:=by lia
    generalize procT rows k x.1 (B rows k) c=F at hnd hpl ⊢
    refine aw (stD (sucOf rows x.1 c)) (ai (esC rfl (esC rfl (esC rfl (esC rfl (esC rfl es0))))) (hmoved x.1.1 _ (aC hst.1) x.1.2 hst.2 (c:Int))) rfl ?_
    simp only [sX,sN]
    unfold adT
    generalize sucOf rows x.1 c=q at *
    refine ap (bh (b:=decide ((q.1:Int) < (rows.length:Int))&&!dM (F.map (·.1)) q) (Q:=fun m=>∃ x7 x8,m=[some Rw,some Hm,some Em,some (.list ((if q.1 < rows.length∧dM (F.map (·.1)) q=false then F++[(q,some k,c)] else F).map tD)),some (.dict (seenD ((if q.1 < rows.length∧dM (F.map (·.1)) q=false then F++[(q,some k,c)] else F).map (·.1)))),some (.int (k:Int)),some (stD x.1),x7,x8]) (aH (aj (ad rfl rfl rfl) (aT rfl hlenR) rfl) (aj rfl rfl (fT hnd q))) (fun z=>?_) fun z=>?_) fun m e=>ah e
    ·rw [Bool.and_eq_true,Bool.not_eq_true',decide_eq_true_eq] at z
     have hnm:q ∉ F.map (·.1):=fun h=>by rw [seenB_iff.mpr h] at z;cases z.2
     rw [if_pos ⟨Int.ofNat_lt.mp z.1,z.2⟩]
     refine kh (l:=F.map (·.1)) (p:=q) rfl rfl hnd (by rw [lX];lia) hnm ?_
     refine bv (xs:=F.map tD) (d:=tD (q,some k,c)) rfl rfl (oC _) (by rw [lX];lia) (ah ⟨some (.int (c:Int)),some (stD q),?_⟩)
     simp only [sX,sN,List.map_append]
     rfl
    ·rw [Bool.and_eq_false_iff,Bool.not_eq_false',decide_eq_false_iff_not] at z
     rw [if_neg (fun h=>z.elim (fun z=>z (Int.ofNat_lt.mpr h.1)) fun z=>by rw [z] at h;cases h.2)]
     exact ⟨_,_,rfl⟩
   ·refine al2 fun x7 x8=>?_
    rw [lX,List.length_range,show (bp rows x.1.1 (rows.getD x.1.1 .fin)).toNat=jj rows x.1 from rfl,← hB]
    refine aw (.int ((k+1:Nat):Int)) rfl rfl (ah ?_)
    exact ⟨K - (k+1),by grind,k+1,rfl,hkK2,_,_,_,rfl⟩
 ·refine al5 fun x4 x5 x6 x7 x8=>?_
  exact af rfl rfl
end
end Mine
set_option tactic.hygienic false
namespace Mine
open PySem
section
variable {Φ:Str→List D→Option D} {Γ:Str→Option D} {m:St} {ow:List Nat} {fr:Bool} {N:Nat}
set_option tactic.hygienic true in
theorem vU {i:Nat} {xs:List D} (h:m[i]?=some (some (.list xs))):exS Φ Γ ow fr N (.rev i) m=some (.next,m.set i (some (.list xs.reverse))):=by rw [tA,h];rfl
end
section
variable (Φ:Str→List D→Option D) (Γ:Str→Option D) (N:Nat)
theorem ib {rows:List Row} (nd:Nested rows) (wf:WfR [] rows) {k0:Nat} {F:List Tri} (ok:BOk rows k0 F) (pa:Par rows F) (hF:F.length≤2000) (hN:3000≤N) (hch:∀ r:Row,Φ "chooses" [r.d]=some (.bool r.chooses)) (k:Nat) (z:Tri) (hz:F[k]?=some z):∃ l:List Nat,l.length≤2000∧Gd rows z.1 (2 * rows.length+k) (0,[]) l∧runFn Φ Γ N fnchoices_to [.list (rows.map Row.d),.list (F.map tD),.int (k:Int)]=some (.list (l.map fun (n:Nat)=>.int (n:Int))):=by
 have hk:=(List.getElem?_eq_some_iff.mp hz).1
 suffices hs:∃ l:List Nat,l.length≤2000∧Gd rows z.1 (2 * rows.length+k) (0,[]) l∧Rt (exSs Φ Γ fnchoices_to.ow fnchoices_to.fr N fnchoices_to.body [some (.list (rows.map Row.d)),some (.list (F.map tD)),some (.int (k:Int)),none,none]) (.list (l.map fun (n:Nat)=>.int (n:Int))) from hs.imp fun l h=>⟨h.1,h.2.1,aq _ rfl rfl h.2.2⟩
 have loop:Go (exS Φ Γ fnchoices_to.ow fnchoices_to.fr N (match fnchoices_to.body with | .cons _ (.cons s _)=>s | _=>.stuck) [some (.list (rows.map Row.d)),some (.list (F.map tD)),some (.int (k:Int)),some (.list []),none]) (fun m=>∃ (l:List Nat) (x2 x4:Option D),l.length≤2000∧Gd rows z.1 (2 * rows.length+k) (0,[]) l.reverse∧m=[some (.list (rows.map Row.d)),some (.list (F.map tD)),x2,some (.list (l.map fun (n:Nat)=>.int (n:Int))),x4]):=by
  dsimp only [fnchoices_to]
  refine qk (fun n m=>∃ (l:List Nat) (x4:Option D) (x:Tri),F[n]?=some x∧l.length+n≤2000∧(∃ e,e+n≤k∧Gd rows z.1 (2 * rows.length+e) x.1 l.reverse)∧m=[some (.list (rows.map Row.d)),some (.list (F.map tD)),some (.int (n:Int)),some (.list (l.map fun (n:Nat)=>.int (n:Int))),x4]) (fun n m hI=>?_) k _ (by lia) ⟨[],none,z,hz,by rw [List.length_nil];lia,⟨0,Nat.le_of_eq (Nat.zero_add k),tl nd wf (ok.st z (List.mem_of_getElem? hz))⟩,rfl⟩
  refine byG fun X_ g_=>?_
  obtain ⟨l,x4,x,hx,hll,⟨e,hek,hgd⟩,rfl⟩:=hI
  refine g_ ?_
  have hn:=(List.getElem?_eq_some_iff.mp hx).1
  have hst:=ok.st x (List.mem_of_getElem? hx)
  cases ha:x.2.1 with
  | none=>
   have hgd:Gd rows z.1 (2 * rows.length+e) (0,[]) l.reverse:=(pa n x hx).1 ha ▸ hgd
   refine ⟨false,?_,fun o_=>⟨l,_,_,by lia,fun pre=>(hgd pre).imp fun fs h=>⟨h.1,h.2.1,by have:=h.2.2;lia⟩,rfl⟩,(fun z=>by cases z)⟩
   rw [aj (x:=optI x.2.1) (y:=.none) (ad (ad rfl rfl (fW hx)) rfl rfl) rfl (by rw [ha];rfl)];rfl
  | some a=>
   have han:=(ok.up n x hx a ha).1
   obtain ⟨y,hy,hsu,hc0⟩:=(pa n x hx).2 a ha
   have e1:∀ m:St,m[1]?=some (some (.list (F.map tD)))→m[2]?=some (some (.int (n:Int)))→evE Φ Γ (.idx (.idx (.v 1) (.v 2)) (.k (.int 1))) m=some (.int (a:Int)):=fun m h1 h2=>by
    rw [ad (ad (ev_v h1) (ev_v h2) (fW hx)) rfl (show item (tD x) (.int 1)=some (optI x.2.1) from rfl),ha];rfl
   refine ⟨true,?_,(fun z=>by cases z),fun o_=>?_⟩
   ·rw [aj (x:=.int (a:Int)) (y:=.none) (e1 _ rfl rfl) rfl rfl];rfl
   ·refine aw (.int (a:Int)) (e1 _ rfl rfl) rfl ?_
    refine ap (bh (b:=(rows.getD y.1.1 .fin).chooses) (Q:=fun m=>∃ l':List Nat,l'.length≤l.length+1∧Gd rows z.1 (2 * rows.length+e+1) y.1 l'.reverse∧m=[some (.list (rows.map Row.d)),some (.list (F.map tD)),some (.int (n:Int)),some (.list (l'.map fun (n:Nat)=>.int (n:Int))),some (.int (a:Int))]) (ai (esC (ad rfl (ad (ad (ad rfl rfl (fW hy)) rfl rfl) rfl rfl) (aV (aC (ok.st y (List.mem_of_getElem? hy)).1))) es0) (hch _)) (fun o_=>?_) fun o_=>⟨l,Nat.le_succ _,vR (ok.st y (List.mem_of_getElem? hy)) o_ (show Gd rows z.1 _ (sucOf rows y.1 0) _ by rw [← hc0 o_,← hsu];exact hgd),rfl⟩) ?_
    ·refine bv (xs:=l.map fun (n:Nat)=>.int (n:Int)) (d:=.int (x.2.2:Int)) rfl (ad (ad rfl rfl (fW hx)) rfl rfl) rfl (by rw [lX];lia) (ah ⟨l++[x.2.2],by rw [List.length_append];exact Nat.le_refl _,by rw [List.reverse_append];exact vQ (ok.st y (List.mem_of_getElem? hy)) o_ (show Gd rows z.1 _ (sucOf rows y.1 x.2.2) _ by rw [← hsu];exact hgd),?_⟩)
     rw [List.map_append];rfl
    ·rintro _ ⟨l',hl',hgd',rfl⟩
     refine aw (.int (a:Int)) rfl rfl (ah ⟨a,han,l',_,y,hy,by lia,⟨e+1,by lia,hgd'⟩,rfl⟩)
 refine byG fun X_ g_=>?_
 obtain ⟨m',e1,l,x2,x4,hll,hgd,rfl⟩:=loop
 refine g_ ?_
 refine ⟨l.reverse,by rw [List.length_reverse];exact hll,hgd,?_⟩
 dsimp only [fnchoices_to] at e1 ⊢
 refine a7 (.list []) rfl rfl (bC _ e1 (bC _ (vU rfl) (af ?_ rfl)))
 rw [List.map_reverse];rfl
end
noncomputable def idxW (w:Str):Nat:=if w == Str.ofString "beside" then 0 else if w == Str.ofString "empty" then 1 else 2
noncomputable def vZ (n:Nat):Str:=if n=0 then "beside" else if n=1 then "empty" else "asleep"
noncomputable def isFault (w:Str):Prop:=w=Str.ofString "beside" ∨ w=Str.ofString "empty" ∨ w=Str.ofString "asleep"
theorem kj (row:Row) (held:List En):cS row held=Str.ofString "" ∨ isFault (cS row held):=by
 unfold cS isFault
 repeat' split
 all_goals simp
theorem isFault.ne {w:Str} (h:isFault w):(w == Str.ofString "")=false:=by rcases h with rfl | rfl | rfl<;>rfl
theorem isFault.idx {w:Str} (h:isFault w):idxD [.str "beside",.str "empty",.str "asleep"] (.str w)=some (.int (idxW w:Int)):=by rcases h with rfl | rfl | rfl<;>rfl
noncomputable def fOf (rows:List Row) (p:Nat × List En):Str:=cS (rows.getD p.1 .fin) p.2
noncomputable def lt2 (a b:Nat × Nat):Bool:=if a.1=b.1 then decide (a.2 < b.2) else decide (a.1 < b.1)
noncomputable def to (rows:List Row) (due:Option (Nat × Nat)) (p:Nat × List En):Option (Nat × Nat):=
 if fOf rows p == Str.ofString "" then due else match due with
  | none=>some (p.1,idxW (fOf rows p))
  | some b=>if lt2 (p.1,idxW (fOf rows p)) b then some (p.1,idxW (fOf rows p)) else some b
noncomputable def dueT (rows:List Row) (l:List (Nat × List En)):Option (Nat × Nat):=l.foldl (to rows) none
set_option tactic.hygienic true in
set_option tactic.hygienic true in
theorem vV (a b:Nat × Nat) {k j:Nat} (hj:j < k):br [.int (a.1:Int),.int (a.2:Int),.int (k:Int)] [.int (b.1:Int),.int (b.2:Int),.int (j:Int)]=some (lt2 a b):=by
 have h3:br [.int (k:Int)] [.int (j:Int)]=some false:=by
  show (if (k:Int)=(j:Int) then some false else some (decide ((k:Int) < (j:Int))))=_
  split
  ·rfl
  ·rw [decide_eq_false (by lia)]
 have h2:br [.int (a.2:Int),.int (k:Int)] [.int (b.2:Int),.int (j:Int)]=some (decide (a.2 < b.2)):=by
  show (if (a.2:Int)=(b.2:Int) then br [.int (k:Int)] [.int (j:Int)] else (br [.int (k:Int)] [.int (j:Int)]).map fun o_=>decide ((a.2:Int) < (b.2:Int)))=_
  rw [h3]
  split
  ·rename_i h
   rw [decide_eq_false (by lia)]
  ·exact congrArg some (decide_eq_decide.mpr Int.ofNat_lt)
 show (if (a.1:Int)=(b.1:Int) then br [.int (a.2:Int),.int (k:Int)] [.int (b.2:Int),.int (j:Int)] else (br [.int (a.2:Int),.int (k:Int)] [.int (b.2:Int),.int (j:Int)]).map fun o_=>decide ((a.1:Int) < (b.1:Int)))=_
 rw [h2]
 unfold lt2
 split
 ·rename_i h
  rw [if_pos (Int.ofNat.inj h)]
 ·rename_i h
  rw [if_neg (fun q=>h (congrArg _ q))]
  exact congrArg some (decide_eq_decide.mpr Int.ofNat_lt)
end Mine
set_option tactic.hygienic false
namespace Mine
open PySem
theorem qE {α:Type} {g:α→D} {l:List α} {k:Nat} {vs:List D} (h:(cA 0 (l.map g))[k]?=some vs):∃ x,l[k]?=some x∧vs=[.int (k:Int),g x]:=by
 rw [fg,List.getElem?_map] at h
 cases q:l[k]? with
 | none=>rw [q] at h;cases h
 | some x=>rw [q] at h;rw [Nat.zero_add] at h;exact ⟨x,rfl,(Option.some.inj h).symm⟩
theorem isFault.item {w:Str} (h:isFault w):item (.tuple [.str "beside",.str "empty",.str "asleep"]) (.int (idxW w:Int))=some (.str w):=by rcases h with rfl | rfl | rfl<;>rfl
theorem isFault.notIn {w:Str} (h:isFault w):bm .NotIn (.str w) (.list [.str "beside",.str "empty",.str "asleep"])=some false:=by rcases h with rfl | rfl | rfl<;>rfl
noncomputable def qF (rows:List Row) (x:Tri) (i:Nat):D:=.tuple [.int (x.1.1:Int),.int (idxW (fOf rows x.1):Int),.int (i:Int)]
noncomputable def BestAt (rows:List Row) (F:List Tri) (j:Nat) (d:D):Prop:=d = .none∨∃ (i:Nat) (x:Tri),i < j∧F[i]?=some x∧isFault (fOf rows x.1)∧d=qF rows x i
theorem BestAt.up {rows:List Row} {F:List Tri} {j:Nat} {d:D} (h:BestAt rows F j d):BestAt rows F (j+1) d:=h.imp id fun h=>h.imp fun i h=>h.imp fun x h=>⟨Nat.lt_succ_of_lt h.1,h.2⟩
noncomputable def f6 (a:Nat) (w:Str) (l:List Nat):D:=.tuple [.int (a:Int),.str w,.list (l.map fun (n:Nat)=>.int (n:Int))]
section
variable (Φ:Str→List D→Option D) (Γ:Str→Option D) (N:Nat)
theorem oF (G:Gok Γ) {rows:List Row} {F:List Tri} {M:Nat}
 (hch:Φ "checked" [.list (rows.map Row.d)]=some .none)
 (hst:Φ "standings" [.list (rows.map Row.d)]=some (.list (F.map tD)))
 (hfa:∀ x ∈ F,Φ "fault" [.list (rows.map Row.d),stD x.1]=some (.str (fOf rows x.1)))
 (hto:∀ (k:Nat) (x:Tri),F[k]?=some x→∃ l:List Nat,l.length≤2000∧(∃ n,n≤M∧Gd rows x.1 n (0,[]) l)∧Φ "choices_to" [.list (rows.map Row.d),.list (F.map tD),.int (k:Int)]=some (.list (l.map fun (n:Nat)=>.int (n:Int)))) :
 runFn Φ Γ N fnlooked [.list (rows.map Row.d)]=some .none∨∃ (x:Nat × List En) (l:List Nat),isFault (fOf rows x)∧l.length≤2000∧(∃ n,n≤M∧Gd rows x n (0,[]) l)∧runFn Φ Γ N fnlooked [.list (rows.map Row.d)]=some (f6 x.1 (fOf rows x) l):=by
 have loop:Go (exS Φ Γ fnlooked.ow fnlooked.fr N (match fnlooked.body with | .cons _ (.cons _ (.cons _ (.cons s _)))=>s | _=>.stuck) [some (.list (rows.map Row.d)),some (.list (F.map tD)),some .none,none,none,none,none]) (fun m=>∃ (d:D) (x3 x4 x5 x6:Option D),BestAt rows F F.length d∧m=[some (.list (rows.map Row.d)),some (.list (F.map tD)),some d,x3,x4,x5,x6]):=by
  dsimp only [fnlooked]
  have h:=fN (Φ:=Φ) (Γ:=Γ) (N:=N) (ow:=[]) (fr:=false) (m:=[some (.list (rows.map Row.d)),some (.list (F.map tD)),some .none,none,none,none,none]) (i:=3) (j:=4) (it:=.enum (.v 1)) (items:=cA 0 (F.map tD))
   (body:=(match fnlooked.body with | .cons _ (.cons _ (.cons _ (.cons (.for2 _ _ _ b) _)))=>b | _=>.nil))
   (fun j m=>∃ (d:D) (x3 x4 x5 x6:Option D),BestAt rows F j d∧m=[some (.list (rows.map Row.d)),some (.list (F.map tD)),some d,x3,x4,x5,x6]) (eJ rfl) rfl ⟨_,_,_,_,_,.inl rfl,rfl⟩ (fun k vs m hk hI=>?_)
  ·rw [bJ,lX] at h
   exact h
  ·obtain ⟨d,x3,x4,x5,x6,hb,rfl⟩:=hI
   obtain ⟨x,hx,rfl⟩:=qE hk
   refine ⟨_,_,rfl,?_⟩
   dsimp only [fnlooked]
   refine aw (.str (fOf rows x.1)) (ai (esC rfl (esC (ad rfl rfl rfl) es0)) (hfa x (List.mem_of_getElem? hx))) rfl ?_
   simp only [sX,sN]
   rcases kj (rows.getD x.1.1 .fin) x.1.2 with hw | hw
   ·have hw:fOf rows x.1=Str.ofString "" := hw
    rw [hw]
    refine ap (Q':=fun m=>m=[some (.list (rows.map Row.d)),some (.list (F.map tD)),some d,some (.int (k:Int)),some (tD x),some (.str (Str.ofString "")),x6]) (bh (b:=false) rfl (fun z=>by cases z) fun o_=>rfl) ?_
    rintro _ rfl
    exact ah ⟨d,_,_,_,_,hb.up,rfl⟩
   ·have hw:isFault (fOf rows x.1):=hw
    refine ap (Q':=fun m=>∃ (d:D) (x6:Option D),BestAt rows F (k+1) d∧m=[some (.list (rows.map Row.d)),some (.list (F.map tD)),some d,some (.int (k:Int)),some (tD x),some (.str (fOf rows x.1)),x6]) (bh (b:=true) (by rw [aj rfl rfl (oe _ _),hw.ne];rfl) (fun o_=>?_) fun z=>by cases z) ?_
    ·refine aw (qF rows x k) (aZ (esC (ad (ad rfl rfl rfl) rfl rfl) (esC (pI (x:=.tuple [.str "beside",.str "empty",.str "asleep"]) (by rw [x_gc];exact G.words) rfl hw.idx) (esC rfl es0)))) rfl ?_
     simp only [sX,sN]
     have hnew:BestAt rows F (k+1) (qF rows x k):=.inr ⟨k,x,Nat.lt_succ_self _,hx,hw,rfl⟩
     refine ap (Q':=fun m=>∃ d,BestAt rows F (k+1) d∧m=[some (.list (rows.map Row.d)),some (.list (F.map tD)),some d,some (.int (k:Int)),some (tD x),some (.str (fOf rows x.1)),some (qF rows x k)]) ?_ fun m h=>h.elim fun d h=>ah ⟨d,_,h.1,h.2⟩
     rcases hb with rfl | ⟨i,y,hi,hy,hf,rfl⟩
     ·exact bh (b:=true) (x_or2' rfl) (fun o_=>aw _ rfl rfl (ah ⟨_,hnew,rfl⟩)) fun z=>by cases z
     ·exact bh (b:=false||lt2 (x.1.1,idxW (fOf rows x.1)) (y.1.1,idxW (fOf rows y.1))) (gO rfl (aj rfl rfl (vV (x.1.1,idxW (fOf rows x.1)) (y.1.1,idxW (fOf rows y.1)) hi))) (fun o_=>aw _ rfl rfl (ah ⟨_,hnew,rfl⟩)) fun o_=>⟨_,.inr ⟨i,y,Nat.lt_succ_of_lt hi,hy,hf,rfl⟩,rfl⟩
    ·rintro _ ⟨d',x6',hb',rfl⟩
     exact ah ⟨d',_,_,_,_,hb',rfl⟩
 refine byG fun X_ g_=>?_
 obtain ⟨m',e1,d,x3,x4,x5,x6,hb,rfl⟩:=loop
 refine g_ ?_
 dsimp only [fnlooked] at e1
 have main:∀ r:D,Rt (exSs Φ Γ fnlooked.ow fnlooked.fr N (match fnlooked.body with | .cons _ (.cons _ (.cons _ (.cons _ s)))=>s | _=>.nil) [some (.list (rows.map Row.d)),some (.list (F.map tD)),some d,x3,x4,x5,x6]) r→runFn Φ Γ N fnlooked [.list (rows.map Row.d)]=some r:=fun r hr=>by
  refine aq [some (.list (rows.map Row.d)),none,none,none,none,none,none] rfl rfl ?_
  dsimp only [fnlooked] at hr ⊢
  refine aQ (qq (ai (esC rfl es0) hch)) ?_
  rintro _ rfl
  exact ak (.list (F.map tD)) (ai (esC rfl es0) hst) rfl (ak .none rfl rfl (bC _ e1 hr))
 rcases hb with rfl | ⟨i,y,hi,hy,hf,rfl⟩
 ·exact .inl (main _ (am (x:=.bool true) rfl rfl (af rfl rfl)))
 ·obtain ⟨l,hll,hgd,hl⟩:=hto i y hy
  refine .inr ⟨y.1,l,hf,hll,hgd,main _ ?_⟩
  exact ae (x:=.bool false) rfl rfl (af (aZ (esC (ad rfl rfl rfl) (esC (ad (by rw [x_gc];exact G.words) (ad rfl rfl rfl) hf.item) (esC (ai (esC rfl (esC rfl (esC (ad rfl rfl rfl) es0))) hl) es0)))) rfl)
end
end Mine
set_option tactic.hygienic false
namespace Mine
open PySem
theorem kl {α:Type} (l:List α):cD (l.map fun o_=>PyData.bool true)=some (l.map fun o_=>true):=cZ (fun o_=>true) l
theorem qG {α:Type} (l:List α):(l.map fun o_=>true).all id=true:=by simp
section
variable (Φ:Str→List D→Option D) (Γ:Str→Option D) (N:Nat)
theorem sp_whole' (i:Int):runFn Φ Γ N fn_law_whole [.int i]=some (.bool true):=by
 refine aq [some (.int i)] rfl rfl ?_
 exact af rfl rfl
theorem tq (hw:∀ i:Int,Φ "_law_whole" [.int i]=some (.bool true)) (a:Nat) {w:Str} (hf:isFault w) (l:List Nat) (hl:l.length≤2000):runFn Φ Γ N fn_law_told [f6 a w l]=some (.bool true):=by
 refine aq [some (f6 a w l)] rfl rfl ?_
 dsimp only [fn_law_told]
 refine ae (x:=.bool (false||(false||false))) (sF rfl rfl (d4 (b:=true) (ai (esC (ad rfl rfl rfl) es0) (hw _)))) rfl ?_
 refine ae (x:=.bool (false||(false||false))) (sF rfl (aj (ad rfl rfl rfl) rfl hf.notIn) rfl) rfl ?_
 refine af ?_ rfl
 rw [x_b1,(
  bZ l (fun n=>[.int (n:Int)]) (fun o_=>.bool true) (bQ (ad rfl rfl rfl)) (Nat.le_trans hl (by decide)) rfl fun n o_=>by
   refine aH (b:=true) (c:=true) (ai (esC rfl es0) (hw _)) (aj (x:=.int (n:Int)) (y:=.int 0) rfl rfl ?_)
   exact congrArg some (decide_eq_true (Int.natCast_nonneg n)))]
 simp only [bX,nP,kl,mX,qG]
theorem qH (ns:List Int) {rows0 rows:List Row}
 (hd:Φ "_law_drawn" [.list (ns.map .int),.int 14]=some (.list (rows0.map Row.d)))
 (hlong:Φ "_law_long" [.list (ns.map .int),.list (rows0.map Row.d)]=some (.list (rows.map Row.d)))
 (hfew:Φ "_law_few" [.list (rows.map Row.d),.int 400]=some (.bool false)∨(Φ "_law_few" [.list (rows.map Row.d),.int 400]=some (.bool true)∧(Φ "looked" [.list (rows.map Row.d)]=some .none ∨
  ∃ (x:Nat × List En) (l:List Nat) (fs:List (Nat × List En)),Φ "looked" [.list (rows.map Row.d)]=some (f6 x.1 (fOf rows x) l)∧Φ "_law_told" [f6 x.1 (fOf rows x) l]=some (.bool true)∧Φ "_law_run" [.list (rows.map Row.d),.list (l.map fun (n:Nat)=>.int (n:Int))]=some (.list (fs.map stD))∧x ∈ fs ∧
   ∀ p ∈ fs,p.1 < rows.length∧Φ "_law_fault" [(rows.getD p.1 .fin).d,.tuple (p.2.map En.d)]=some (.str (fOf rows p))))) :
 runFn Φ Γ N fnlaw [.list (ns.map .int)]=some (.bool true):=by
 refine aq [some (.list (ns.map .int)),none,none,none] rfl rfl ?_
 dsimp only [fnlaw]
 refine ak (.list (rows.map Row.d)) (ai (esC rfl (esC (ai (esC rfl (esC rfl es0)) hd) es0)) hlong) rfl ?_
 rcases hfew with h | ⟨h,hk⟩
 ·exact am (x:=.bool true) (d4 (b:=false) (ai (esC rfl (esC rfl es0)) h)) rfl (af rfl rfl)
 refine ae (x:=.bool false) (d4 (b:=true) (ai (esC rfl (esC rfl es0)) h)) rfl ?_
 rcases hk with hk | ⟨x,l,fs,hk,ht,hr,hx,hp⟩
 ·exact ak .none (ai (esC (aT (x:=.list (rows.map Row.d)) rfl rfl) es0) hk) rfl (am (x:=.bool true) rfl rfl (af rfl rfl))
 refine ak (f6 x.1 (fOf rows x) l) (ai (esC (aT (x:=.list (rows.map Row.d)) rfl rfl) es0) hk) rfl (ae (x:=.bool false) rfl rfl (ae (x:=.bool false) (d4 (b:=true) (ai (esC rfl es0) ht)) rfl ?_))
 refine eK (fun m=>∃ x3,m=[some (.list (ns.map .int)),some (.list (rows.map Row.d)),some (f6 x.1 (fOf rows x) l),x3]) (fun k=>((fs.getD k x).1:Int) == (x.1:Int)&&fOf rows (fs.getD k x) == fOf rows x) (fun _=>.bool true) (bQ (ai (esC rfl (esC (ad rfl rfl rfl) es0)) hr)) rfl ⟨none,rfl⟩ (fun k vs m hv hI=>?_) (fun hno=>?_) fun _ _ _ _=>rfl
 ·obtain ⟨x3,rfl⟩:=hI
  rw [List.getElem?_map] at hv
  obtain ⟨y,hy,rfl⟩:=Option.map_eq_some_iff.mp hv
  have hg:fs.getD k x=y:=by rw [List.getD,hy];rfl
  rw [hg]
  have hpy:=hp y (List.mem_of_getElem? hy)
  have cc:evE Φ Γ (.bool true (.cons (.cmp .Eq (.idx (.v 3) (.k (.int 0))) (.idx (.v 2) (.k (.int 0)))) (.cons (.cmp .Eq (.call false "_law_fault" (.cons (.idx (.v 1) (.idx (.v 3) (.k (.int 0)))) (.cons (.idx (.v 3) (.k (.int 1))) .nil))) (.idx (.v 2) (.k (.int 1)))) .nil))) [some (.list (ns.map .int)),some (.list (rows.map Row.d)),some (f6 x.1 (fOf rows x) l),some (stD y)]=some (.bool ((y.1:Int) == (x.1:Int)&&fOf rows y == fOf rows x)):=
   aH (aj (ad rfl rfl rfl) (ad rfl rfl rfl) (uL _ _)) (aj (ai (esC (ad rfl (ad rfl rfl rfl) (aV (aC hpy.1))) (esC (ad rfl rfl rfl) es0)) hpy.2) (ad rfl rfl rfl) (rk _ _))
  refine ⟨stD y,rfl,fun q=>?_,fun q=>?_⟩
  ·exact am cc (by rw [q];rfl) (af rfl rfl)
  ·exact ap (bh (Q:=fun m=>∃ x3,m=[some (.list (ns.map .int)),some (.list (rows.map Row.d)),some (f6 x.1 (fOf rows x) l),x3]) (b:=false) (q ▸ cc) (fun z=>nomatch z) fun _=>⟨_,rfl⟩) fun m h=>ah h
 ·obtain ⟨k,hk,e⟩:=List.mem_iff_getElem.mp hx
  have:=hno k (by rw [lX];exact hk)
  rw [List.getD,List.getElem?_eq_getElem hk,e] at this
  rw [show (some x).getD x=x from rfl,beq_self_eq_true,beq_self_eq_true] at this
  cases this
end
end Mine
set_option tactic.hygienic false
namespace Mine
open PySem
theorem qI {os:List Row} {held:List En} (H:HeldOk os held) {row:Row} (v:V os row):∀ w q u,row = .lend w q (.hd u)→(aL held u).isSome=true:=by
 rintro w q u rfl
 refine byG fun X_ g_=>?_
 obtain ⟨_,x,hx,hn,hu,_⟩:=v
 obtain ⟨e,he,hw,_⟩:=H.mem hx hn
 refine g_ ?_
 rw [← hu,← hw,a8 H.nd he];rfl
theorem l9 (Φ:Str→List D→Option D) (Γ:Str→Option D) (N:Nat) (r:Row):runFn Φ Γ N fnchooses [r.d]=some (.bool r.chooses):=by
 refine aq [some r.d] rfl rfl ?_
 exact af (aj (ad rfl rfl (Row.i0 r)) rfl (gu r)) rfl
theorem plain08 {Γ:Str→Option D} (G:Gok Γ) (ns:List Int) (h:ns.length≤63):mkΦ Γ 100000 tbl08 "law" [.list (ns.map .int)]=some (.bool true):=by
 rw [az (fn:=fnlaw) (rest:=tbl08.drop 1) (by rfl)]
 have dl0:(drawnOf ns 14).length≤800:=by
  have hm:=j0 ns 14 (by decide)
  have h3:(onceOf ns 14).length≤12 * manyOf ns 14:=fL ..
  unfold drawnOf
  split
  ·simp only [List.length_append];lia
  ·lia
 have la:=qD ns dl0 (lR ns 14) (p7 ns 14 (by decide) (by decide)) (qm ns 14)
 have hcell:∀ n:Nat,n=16∨n=25∨n=3→∀ k:Int,0≤k→mkΦ Γ 100000 (tbl08.drop n) "_law_cell_at" [.list (ns.map .int),.int k]=some (.int (cellAt ns k)):=fun n hn k hk=>by
  rcases hn with h | h | h<;>subst h<;>(exact (az (fn:=fn_law_cell_at) (rest:=tbl08.drop 27) (by rfl)).trans (sH _ _ _ ns k hk))
 have hdrawn:mkΦ Γ 100000 (tbl08.drop 1) "_law_drawn" [.list (ns.map .int),.int 14]=some (.list ((drawnOf ns 14).map Row.d)):=by
  rw [az (fn:=fn_law_drawn) (rest:=tbl08.drop 16) (by rfl)]
  refine pU _ _ _ ns h 14 (by decide) (by decide) (hcell 16 (.inl rfl)) ?_ ?_
  ·exact (az (fn:=fn_law_draw) (rest:=tbl08.drop 25) (by rfl)).trans (sI _ _ _ ns (hcell 25 (.inr (.inl rfl))))
  ·intro odd most hm c n hn
   rw [az (fn:=fn_law_sheet) (rest:=tbl08.drop 17) (by rfl)]
   have hw:∀ (k:Nat),k=18∨k=20∨k=23→∀ (one two:Int) (deep:Nat),deep < 900→mkΦ Γ 100000 (tbl08.drop k) "_law_word" [.int one,.int two,.int deep,(aX ns).d]=some (.str (wordOf one two deep (aX ns))):=fun k hk one two deep hd=>by
    rcases hk with h | h | h<;>subst h<;>(exact (az (fn:=fn_law_word) (rest:=tbl08.drop 26) (by rfl)).trans (sK _ _ _ one two deep _ (gq ns) (by exact Int.ofNat_le.mpr (Nat.zero_le deep)) (by exact Int.ofNat_lt.mpr hd)))
   have ht:∀ (k:Nat),k=18∨k=20∨k=21→∀ c b:Int,mkΦ Γ 100000 (tbl08.drop k) "_law_thing" [.int c,.int b]=some (.int (thingOf c b)):=fun k hk c b=>by
    rcases hk with h | h | h<;>subst h<;>(exact (az (fn:=fn_law_thing) (rest:=tbl08.drop 24) (by rfl)).trans (pN _ _ _ c b))
   refine pT _ _ _ (aX ns) ?_ ?_ odd most hm c n hn
   ·intro one two deep hd
    rw [az (fn:=fn_law_gadget) (rest:=tbl08.drop 21) (by rfl)]
    refine nV _ _ _ (aX ns) (ht 21 (.inr (.inr rfl))) ?_ ?_ one two deep hd
    ·intro one two deep hd
     exact (az (fn:=fn_law_hands) (rest:=tbl08.drop 23) (by rfl)).trans (pR _ _ _ (aX ns) (hw 23 (.inr (.inr rfl))) one two deep hd)
    ·intro way one two a b c th h0 h4
     exact (az (fn:=fn_law_first_four) (rest:=tbl08.drop 22) (by rfl)).trans (pS _ _ _ way one two a b c th h0 h4)
   ·intro way one two opened hl
    rw [az (fn:=fn_law_row) (rest:=tbl08.drop 18) (by rfl)]
    refine uG _ _ _ (aX ns) (gq ns) (ht 18 (.inl rfl)) (hw 18 (.inl rfl)) ?_ ?_ way one two opened hl
    ·intro one two named hn hl
     exact (az (fn:=fn_law_lend) (rest:=tbl08.drop 20) (by rfl)).trans (sM _ _ _ (aX ns) (gq ns) (ht 20 (.inr (.inl rfl))) (hw 20 (.inr (.inl rfl))) one two named hn hl)
    ·intro one two hands hn hl
     exact (az (fn:=fn_law_deed) (rest:=tbl08.drop 19) (by rfl)).trans (sO _ _ _ one two hands hn hl)
 have hlong:mkΦ Γ 100000 (tbl08.drop 1) "_law_long" [.list (ns.map .int),.list ((drawnOf ns 14).map Row.d)]=some (.list ((longOf ns (drawnOf ns 14)).map Row.d)):=
  (az (fn:=fn_law_long) (rest:=tbl08.drop 3) (by rfl)).trans (tn _ _ _ ns dl0 (hcell 3 (.inr (.inr rfl))))
 generalize drawnOf ns 14=rows0 at hdrawn hlong la
 generalize longOf ns rows0=rows at hlong la
 have dl:=la.1
 have nd:=nZ la.2.1
 have wf:=la.2.2.1
 have rok:=la.2.2.2
 have dl5:rows.length≤5000:=Nat.le_trans dl (by decide)
 have hstarts:∀ n:Nat,n=10∨n=5→∀ j:Nat,j < rows.length→mkΦ Γ 100000 (tbl08.drop n) "_law_starts" [.list (rows.map Row.d),.list ((homeL rows).map .int),.int (j:Int)]=some (.list ((startL rows j).map .int)):=fun n hn j hj=>by
  rcases hn with h | h<;>subst h<;>(exact (az (fn:=fn_law_starts) (rest:=tbl08.drop 13) (by rfl)).trans (oa _ _ _ rows dl5 j hj))
 have hhomes:∀ n:Nat,n=30∨n=55→mkΦ Γ 100000 (tbl08.drop n) "homes" [.list (rows.map Row.d)]=some (.list ((homeL rows).map .int)):=fun n hn=>by
  rcases hn with h | h<;>subst h<;>(exact (az (fn:=fnhomes) (rest:=[]) (by rfl)).trans (p0 _ _ _ G.op rows dl5 nd.ok))
 have hfirst:∀ n:Nat,n=48∨n=50→∀ j:Nat,mkΦ Γ 100000 (tbl08.drop n) "first_rows" [.list (rows.map Row.d),.list ((homeL rows).map .int),.int (j:Int)]=some (.list ((startL rows j).map .int)):=fun n hn j=>by
  rcases hn with h | h<;>subst h<;>(exact (az (fn:=fnfirst_rows) (rest:=tbl08.drop 54) (by rfl)).trans (gV _ _ _ rows dl5 j))
 have hcount:∀ n:Nat,n=30∨n=48→∀ (k:Nat) (row:Row),rows[k]?=some row→mkΦ Γ 100000 (tbl08.drop n) "count_of" [.list (rows.map Row.d),.list ((homeL rows).map .int),.int (k:Int)]=some (.int (bp rows k row)):=fun n hn k row hr=>by
  rcases hn with h | h<;>subst h<;>(exact (az (fn:=fncount_of) (rest:=tbl08.drop 50) (by rfl)).trans (qv _ _ _ rows (hfirst 50 (.inr rfl)) k row hr))
 have hasl:∀ n:Nat,n=42∨n=45→∀ (es:List En) (w:Str),es.length≤1000→mkΦ Γ 100000 (tbl08.drop n) "is_asleep" [.tuple (es.map En.d),.str w]=some (.bool (asleep es w)):=fun n hn es w hl=>by
  rcases hn with h | h<;>subst h<;>(exact (az (fn:=fnis_asleep) (rest:=tbl08.drop 46) (by rfl)).trans (i8 _ _ _ es w hl))
 have hent:∀ n:Nat,n=43∨n=52→∀ (held:List En) (w:Str),mkΦ Γ 100000 (tbl08.drop n) "entry_of" [.tuple (held.map En.d),.str w]=some (enO (aL held w)):=fun n hn held w=>by
  rcases hn with h | h<;>subst h<;>(exact (az (fn:=fnentry_of) (rest:=tbl08.drop 53) (by rfl)).trans (j7 _ _ _ held w))
 have hlhomes:∀ n:Nat,n=4∨n=6→mkΦ Γ 100000 (tbl08.drop n) "_law_homes" [.list (rows.map Row.d)]=some (.list ((homeL rows).map .int)):=fun n hn=>by
  rcases hn with h | h<;>subst h<;>(exact (az (fn:=fn_law_homes) (rest:=tbl08.drop 15) (by rfl)).trans (n9 _ _ _ rows dl5 nd.ok))
 have hlstep:∀ n:Nat,n=4∨n=6→∀ (k:Nat) (row:Row) (_:rows[k]?=some row) (held:List En) (_:HeldOk (ost rows k) held) (c:Int),mkΦ Γ 100000 (tbl08.drop n) "_law_step" [.list (rows.map Row.d),.list ((homeL rows).map .int),stD (k,held),.int c]=some (stD (aD rows k row held c)):=fun n hn k row hr held H c=>by
  have e:mkΦ Γ 100000 (tbl08.drop n) "_law_step" [.list (rows.map Row.d),.list ((homeL rows).map .int),stD (k,held),.int c]=runFn (mkΦ Γ 100000 (tbl08.drop 10)) Γ 100000 fn_law_step [.list (rows.map Row.d),.list ((homeL rows).map .int),stD (k,held),.int c]:=by
   rcases hn with h | h<;>subst h<;>(exact az (fn:=fn_law_step) (rest:=tbl08.drop 10) (by rfl))
  rw [e]
  refine ta _ _ _ rows dl nd wf (fun held hl ndh w wr s hs=>?_) (fun held hl w=>?_) (hstarts 10 (.inl rfl)) (fun j hj=>?_) k row hr held H c
  ·exact (az (fn:=fn_law_lent) (rest:=tbl08.drop 12) (by rfl)).trans (s9 _ _ _ held hl ndh w wr s hs)
  ·exact (az (fn:=fn_law_back) (rest:=tbl08.drop 11) (by rfl)).trans (s8 _ _ _ held hl w)
  ·exact (az (fn:=fn_law_last) (rest:=tbl08.drop 14) (by rfl)).trans (sV _ _ _ rows dl5 j hj)
 have hfew:mkΦ Γ 100000 (tbl08.drop 1) "_law_few" [.list (rows.map Row.d),.int 400]=some (.bool false)∨∃ K,Stop rows K∧(B rows K).length≤K∧mkΦ Γ 100000 (tbl08.drop 1) "_law_few" [.list (rows.map Row.d),.int 400]=some (.bool true):=by
  rw [az (fn:=fn_law_few) (rest:=tbl08.drop 4) (by rfl)]
  refine uX _ _ _ dl nd wf (by decide) (hlhomes 4 (.inl rfl)) (fun k row hr=>?_) (hlstep 4 (.inl rfl))
  exact (az (fn:=fn_law_some_ways) (rest:=tbl08.drop 5) (by rfl)).trans (ki _ _ _ rows (hstarts 5 (.inr rfl)) k row hr)
 have h1000:∀ p,StOk rows p→p.2.length≤1000:=fun p hp=>Nat.le_trans hp.2.len (Nat.le_trans (j9 (Nat.le_of_lt hp.1)) dl)
 refine qH _ _ _ ns hdrawn hlong (hfew.imp id fun hq=>?_)
 obtain ⟨K,hK,hle,hfew⟩:=hq
 have hle4:=hK.le
 refine ⟨hfew,?_⟩
 have hlk:mkΦ Γ 100000 (tbl08.drop 1) "looked" [.list (rows.map Row.d)]=some .none∨∃ (x:Nat × List En) (l:List Nat),isFault (fOf rows x)∧l.length≤2000∧(∃ n,n≤2500∧Gd rows x n (0,[]) l)∧mkΦ Γ 100000 (tbl08.drop 1) "looked" [.list (rows.map Row.d)]=some (f6 x.1 (fOf rows x) l):=by
  rw [az (fn:=fnlooked) (rest:=tbl08.drop 28) (by rfl)]
  refine oF _ _ _ G (F:=B rows K) ?_ ?_ (fun x hx=>?_) (fun k x hx=>?_)
  ·rw [az (fn:=fnchecked) (rest:=tbl08.drop 31) (by rfl)]
   have hthing:∀ n:Nat,n=38∨n=39→∀ i:Int,ThOk i→mkΦ Γ 100000 (tbl08.drop n) "is_thing" [.int i]=some (.bool true):=fun n hn i hi=>by
    rcases hn with h | h<;>subst h<;>(exact (az (fn:=fnis_thing) (rest:=tbl08.drop 40) (by rfl)).trans (ke _ G _ hi))
   have hword:∀ n:Nat,n=38∨n=37→∀ w:Str,bg w→mkΦ Γ 100000 (tbl08.drop n) "is_word" [.str w]=some (.bool true):=fun n hn w hw=>by
    rcases hn with h | h<;>subst h<;>(exact (az (fn:=fnis_word) (rest:=tbl08.drop 41) (by rfl)).trans (lZ _ G _ hw))
   have hmean:∀ n:Nat,n=33∨n=34→∀ (ps:List (Nat × Row)) (w:Str),mkΦ Γ 100000 (tbl08.drop n) "meaning" [.list (ps.map blD),.str w]=some (optS (g9 ps w)):=fun n hn ps w=>by
    rcases hn with h | h<;>subst h<;>(exact (az (fn:=fnmeaning) (rest:=tbl08.drop 36) (by rfl)).trans (l3 _ _ _ ps w))
   refine l4 _ _ _ G dl nd wf rok (fun r hr=>?_) (fun O r v j=>?_) (fun O v w hw hv j=>?_) (fun O r hn v ok j=>?_) (fun hr j=>?_)
   ·rw [az (fn:=fnis_row) (rest:=tbl08.drop 37) (by rfl)]
    refine ot _ _ (fun w q s hs=>?_) (fun ts h1 h2 h3=>?_) (hword 37 (.inr rfl)) hr
    ·rw [az (fn:=fnis_lend) (rest:=tbl08.drop 38) (by rfl)]
     refine l0 _ _ (hthing 38 (.inl rfl)) (fun w=>?_) (hword 38 (.inl rfl)) hs
     exact (az (fn:=fnis_thing) (rest:=tbl08.drop 40) (by rfl)).trans (je _ _ w)
    ·exact (az (fn:=fnis_choice) (rest:=tbl08.drop 39) (by rfl)).trans (jd _ G _ (hthing 39 (.inr rfl)) h1 h2 h3)
   ·exact (az (fn:=fnneed_block) (rest:=tbl08.drop 35) (by rfl)).trans (hV _ _ _ O v j)
   ·exact (az (fn:=fnneed_hand) (rest:=tbl08.drop 34) (by rfl)).trans (jg _ _ _ (hmean 34 (.inr rfl)) O hw hv j)
   ·exact (az (fn:=fnneed_free) (rest:=tbl08.drop 33) (by rfl)).trans (ji _ _ _ (hmean 33 (.inl rfl)) O hn v ok j)
   ·exact (az (fn:=fnblock_of) (rest:=tbl08.drop 32) (by rfl)).trans (kg _ _ _ hr j)
  ·rw [az (fn:=fnstandings) (rest:=tbl08.drop 30) (by rfl)]
   refine jm _ _ _ dl nd wf (by decide) (hhomes 30 (.inl rfl)) ?_ (hcount 30 (.inl rfl)) (fun k row hr held H c=>?_) hK hle
   ·exact (az (fn:=fnends) (rest:=tbl08.drop 55) (by rfl)).trans (sW _ _ _ rows dl5 nd.ok (hhomes 55 (.inr rfl)))
   ·rw [az (fn:=fnmoved) (rest:=tbl08.drop 48) (by rfl)]
    refine qy _ _ _ rows dl nd wf (hcount 48 (.inr rfl)) (fun os held H w wr s v=>?_) (hfirst 48 (.inl rfl)) (fun held hl w=>?_) (fun k hr held c=>?_) k row hr held H c
    ·exact (az (fn:=fnlent) (rest:=tbl08.drop 52) (by rfl)).trans (qu _ _ _ (hent 52 (.inr rfl)) H v)
    ·exact (az (fn:=fngiven_back) (rest:=tbl08.drop 51) (by rfl)).trans (qt _ _ _ held hl w)
    ·exact (az (fn:=fnended) (rest:=tbl08.drop 49) (by rfl)).trans (qx _ _ _ rows wf k hr held c)
  ·rw [az (fn:=fnfault) (rest:=tbl08.drop 42) (by rfl)]
   refine qf _ _ _ (fun held hl=>?_) (fun row held hv=>?_) (hasl 42 (.inl rfl)) rows x.1.1 _ (aC ((B_ok nd wf K).st x hx).1) x.1.2 (h1000 _ ((B_ok nd wf K).st x hx)) (qI ((B_ok nd wf K).st x hx).2 (cP wf (aC ((B_ok nd wf K).st x hx).1)))
   ·rw [az (fn:=fnbeside) (rest:=tbl08.drop 44) (by rfl)]
    refine om _ _ _ (fun es he=>?_) held hl
    exact (az (fn:=fnawake) (rest:=tbl08.drop 45) (by rfl)).trans (p9 _ _ _ (hasl 45 (.inr rfl)) es he)
   ·exact (az (fn:=fnhand_used) (rest:=tbl08.drop 43) (by rfl)).trans (jb _ _ _ (hent 43 (.inl rfl)) row held hv)
  ·rw [az (fn:=fnchoices_to) (rest:=tbl08.drop 29) (by rfl)]
   obtain ⟨l,h1,h2,h3⟩:=ib (mkΦ Γ 100000 (tbl08.drop 29)) Γ 100000 nd wf (B_ok nd wf K) (vS rows K) (by lia) (by decide) (fun r=>(az (fn:=fnchooses) (rest:=tbl08.drop 47) (by rfl)).trans (l9 _ _ _ r)) k x hx
   have:=(List.getElem?_eq_some_iff.mp hx).1
   exact ⟨l,h1,⟨_,by lia,h2⟩,h3⟩
 refine hlk.imp id fun hq=>?_
 obtain ⟨x,l,hf,hll,⟨n,hn,hgd⟩,hlk⟩:=hq
 obtain ⟨fs,R,hm,hfl⟩:=hgd []
 refine ⟨x,l,fs,hlk,?_,?_,hm,fun p hp=>?_⟩
 ·rw [az (fn:=fn_law_told) (rest:=tbl08.drop 2) (by rfl)]
  refine tq _ _ _ (fun i=>?_) x.1 hf l hll
  exact (az (fn:=fn_law_whole) (rest:=tbl08.drop 9) (by rfl)).trans (sp_whole' _ _ _ i)
 ·rw [az (fn:=fn_law_run) (rest:=tbl08.drop 6) (by rfl)]
  have e:=uV (mkΦ Γ 100000 (tbl08.drop 6)) Γ 100000 rows (by decide) (hlhomes 6 (.inr rfl)) (hlstep 6 (.inr rfl)) (natI l) fs (by lia) R
  rw [show (natI l).map PyData.int=l.map fun (n:Nat)=>.int (n:Int) by unfold natI;rw [List.map_map];rfl] at e
  exact e
 ·have hs:=qz R p hp
  refine ⟨hs.1,?_⟩
  rw [az (fn:=fn_law_fault) (rest:=tbl08.drop 7) (by rfl)]
  rw [show fOf rows p=ej (rows.getD p.1 .fin) p.2 from (qc hs.2 (cP wf (aC hs.1))).symm]
  refine oo _ _ _ (fun es he=>?_) _ _ (h1000 p hs)
  rw [az (fn:=fn_law_awake) (rest:=tbl08.drop 8) (by rfl)]
  rw [qa]
  exact s7 _ _ _ es he
end Mine
set_option tactic.hygienic true
namespace Mine
open PySem PySem.W PyProof.Rows
noncomputable def lv08:List (Str × Con):=[("OPENERS",.t ["lend", "pick", "either", "again"]),("LETTERS",.s "abcdefghijklmnopqrstuvwxyz"),("LONGEST",.i 12),("MOST_THING",.i 999999999),("MOST_THINGS",.i 5),("WORDS",.t ["beside", "empty", "asleep"])]
set_option maxRecDepth 100000
set_option maxHeartbeats 8000000
theorem tbl08_ok:iU (defsP view08) (ffOf sgs08) gcs08 sgs08=some tbl08:=by kernel_rfl
theorem bi08:q0 view08 (looseW view08 [])=true:=by decide +kernel
theorem fit08:(lv08.all fun q=>q.2.fit&&noList q.2.d)=true:=by decide +kernel
theorem uY (w:World):(fun os=>((staticsOk (importedModules pq.main.body) (boot_heap w.params) (hF w.params)&&namesBound pq (hF w.params)&&gensDone (st0 os (hF w.params) 902)&&laidKept (boot_heap w.params) (hF w.params)),openSeen view08 [] (importedModules pq.main.body) (fun s=>Mine.consAt Mine.lv08 s&&recOk (RowW.records (OpenRow.toRowW PySem.Challenge.rw_uf020040_08.row)) s) true (st0 os (hF w.params) 902),Hook.obs Hook.none (st0 os (hF w.params) 902)))=fun _=>(true,openGood view08 [],Hook.val Hook.none w):=by kernel_rfl
theorem left08:LeftO (OpenRow.toRowW PySem.Challenge.rw_uf020040_08.row).prog view08 [] (fun s=>Mine.consAt Mine.lv08 s&&recOk (RowW.records (OpenRow.toRowW PySem.Challenge.rw_uf020040_08.row)) s) (Hook.obs Hook.none) (Hook.val Hook.none) 7000:=LeftO.of_pieces (p:=pq) u8 u7 runH rfl uY
end Mine
set_option tactic.hygienic true
namespace Mine
open PySem PySem.W PyProof.Rows
theorem ints_rd {H:D→Int} {h:Heap} {P:Params}:∀ {vs:List Value} {ns:List Int},WellAll P h vs (ofPys (ns.map PyData.int))→RdAll H h vs (ns.map .int) []
 | _,[],q=>by cases q;exact .nil
 | _,n::ns,q=>by
  cases q with
  | cons a b=>cases a;exact .cons (.int _ _) (ints_rd b)
theorem gok08:Gok (gcOf lv08):=⟨by rfl,by rfl,by rfl,by rfl,by rfl,by rfl⟩
end Mine
open PySem PySem.W PyProof.Rows
set_option maxRecDepth 100000 in
set_option maxHeartbeats 8000000 in
theorem PySem.Challenge.cw_uf020040_08_holds : PySem.Challenge.rw_uf020040_08.Holds := by
 refine holds_law Mine.said08 fun said=>?_
 refine holds_open (q:=Mine.view08) (loose:=[]) (Xt:=(fun s=>Mine.consAt Mine.lv08 s&&recOk (RowW.records (OpenRow.toRowW PySem.Challenge.rw_uf020040_08.row)) s)) (XP:=Mine.ConsAre Mine.lv08) (Yf:=Hook.obs Hook.none) (Ya:=Hook.val Hook.none) (YP:=Hook.says Hook.none) (N:=7000) Mine.left08 (Hook.of Hook.none) (Hook.keeps Hook.none) (fun s e=>Mine.cons_of s (Bool.and_eq_true_iff.mp e).1) Mine.ConsAre.keeps (by rfl) (by rfl) (by rfl) (fun s e=>recFacts_of (Bool.and_eq_true_iff.mp e).2) (by rfl) (by assumption) (by decide +kernel) ⟨rfl,rfl,rfl,rfl,rfl,by decide +kernel⟩ ?hw ?hc
 case hw=>w_witness2
 intro w s₀ s₁ mg mb G Y fa o pm cd doc dV kV ho hd hcd hD hmg hg args vals as hpre hlay hrd hwl hlo
 have X:=G.X
 refine Ground.open G ?_
 intro T B D TE TW
 wrow_args hpre hlay hrd hwl hlo
 rename_i ns q1 q2 q3 q4 q5 q6 q7 l vs q8 hL ra wl r0 hI hr hc1 hc2
 have hlen:ns.length≤63:=by omega
 clear hd hcd hD ho
 cases wl with
 | list hget hall=>
  refine Mine.law_run (H:=Mine.strH w) (xs:=ns.map .int) (sgs:=Mine.sgs08) (tbl:=Mine.tbl08) (gcs:=Mine.gcs08) (Γ:=Mine.gcOf Mine.lv08) (N:=100000) T Mine.bi08 Mine.tbl08_ok (Mine.strH_ok w) (fun x d h=>Mine.gcOf_rd Mine.fit08 X h) hmg hget ?_ (Mine.ints_rd hall) ⟨false,by decide +kernel⟩ (by decide) (Mine.plain08 Mine.gok08 ns hlen) fun s' k=>?_
  ·have:=(Mine.ints_rd (H:=Mine.strH w) hall).length
   simp only [(List.length_map)] at this
   rw [List.size_toArray,this]
   exact Nat.le_trans hlen (by decide)
  ·obtain ⟨h',tk,rfl,hk⟩:=k
   refine GoodW.toG ⟨.inl ⟨.bool true,.bool true,[],rfl,fun _=>rfl,.bool true,?_,fun _=>⟨.nil,fun _ z=>nomatch z⟩⟩,hk,rfl,hg⟩
   first | rfl | kernel_rfl
